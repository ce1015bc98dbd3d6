/- The conditions of contracts, as the engine's printer has written them, and that the kernel comes to the same.
  Conditions: none. -/
import Derived.Test.YtmdkgpkboidhfaaA26
import Derived.Test.YtmdkgpkboidhfaaRows
import Derived.KernelRfl
set_option linter.unusedVariables false
set_option maxRecDepth 100000
namespace Go.C08
open Go Go.Xe Go.Sx
def vcOrder : Prop :=
 ∀ x0 : Int,
 ∀ x1 : Int,
 ∀ x2 : Sx.Rows,
 ∀ x3 : Sx.Rows,
 ∀ x4 : Sx.Rows,
(orderPre [.int x0, .int x1, .lst x2, .lst x3, .lst x4]) →
 Nd (od0Inv [.int x0, .int x1] [.int 0, .lst ([] : Sx.Rows)]) (
 ∀ x5 : Int,
 ∀ x6 : Sx.Rows,
(od0Inv [.int x0, .int x1] [.int x5, .lst x6]) →
 Nd ((¬ (((x0 : Int).tmod (41)) < (-9223372036854775808)))∧(((x0 : Int).tmod (41)) < 9223372036854775808)) (
(((x5 < ((x0 : Int).tmod (41))) →
 Nd ((¬ (x1 < (-9223372036854775808)))∧(x1 < 9223372036854775808)) (
 Nd ((¬ ((3 * x5) < (-9223372036854775808)))∧((3 * x5) < 9223372036854775808)) (
 Nd ((¬ ((x1+(3 * x5)) < (-9223372036854775808)))∧((x1+(3 * x5)) < 9223372036854775808)) (
 Nd (¬ ((x6.length : Int) < (x6.length : Int))) (
 Nd (((x6.length : Int)+1) < 67108865) (
 Nd ((x6.length : Int)=(x6.length : Int)) (
 Nd ((¬ ((x5+1) < (-9223372036854775808)))∧((x5+1) < 9223372036854775808)) (
 Nd (¬ (((x6.length : Int)+1) < ((x6.length : Int)+1))) (
 Nd (((x6.length : Int)+1)=((x6.length : Int)+1)) (
 Nd (od0Inv [.int x0, .int x1] [.int (x5+1), .lst (x6 ++ (Sx.chunk 1 1 [(.int (x1+(3 * x5)))]))]) (
 Nd (od0Mu [.int x0, .int x1] [.int (x5+1), .lst (x6 ++ (Sx.chunk 1 1 [(.int (x1+(3 * x5)))]))] < od0Mu [.int x0, .int x1] [.int x5, .lst x6]) (
 True))))))))))))∧(¬ (x5 < ((x0 : Int).tmod (41))) →
 Nd (¬ ((x6.length : Int) < (x6.length : Int))) (
 Nd ((x6.length : Int)=(x6.length : Int)) (
 Nd (od2Inv [.int x0, .int x1, .lst x4] [.int 0, .lst x6, .lst ([] : Sx.Rows)]) (
 ∀ x7 : Int,
 ∀ x8 : Sx.Rows,
 ∀ x9 : Sx.Rows,
(od2Inv [.int x0, .int x1, .lst x4] [.int x7, .lst x8, .lst x9]) →
(((0 < (x8.length : Int)) →
(((x7 < (x4.length : Int)) →
 Nd (¬ (x7 < 0)) (
 Nd (x7 < (x4.length : Int)) (
 Nd ((¬ ((Sx.cellAt x4 x7 0).toInt < (-9223372036854775808)))∧((Sx.cellAt x4 x7 0).toInt < 9223372036854775808)) (
 Nd (¬ ((x8.length : Int)=0)) (
 Nd (¬ ((((Sx.cellAt x4 x7 0).toInt : Int).tmod ((x8.length : Int))) < 0)) (
 Nd ((((Sx.cellAt x4 x7 0).toInt : Int).tmod ((x8.length : Int))) < (x8.length : Int)) (
 Nd (¬ ((x9.length : Int) < (x9.length : Int))) (
 Nd (((x9.length : Int)+1) < 67108865) (
 Nd ((x9.length : Int)=(x9.length : Int)) (
 Nd (¬ ((((Sx.cellAt x4 x7 0).toInt : Int).tmod ((x8.length : Int))) < 0)) (
 Nd (¬ ((x8.length : Int) < (((Sx.cellAt x4 x7 0).toInt : Int).tmod ((x8.length : Int))))) (
 Nd (((Sx.part x8 0 (((Sx.cellAt x4 x7 0).toInt : Int).tmod ((x8.length : Int)))).length : Int) < 67108865) (
(((0 < ((Sx.part x8 0 (((Sx.cellAt x4 x7 0).toInt : Int).tmod ((x8.length : Int)))).length : Int)) →
 Nd ((¬ (((((Sx.cellAt x4 x7 0).toInt : Int).tmod ((x8.length : Int)))+1) < (-9223372036854775808)))∧(((((Sx.cellAt x4 x7 0).toInt : Int).tmod ((x8.length : Int)))+1) < 9223372036854775808)) (
 Nd (¬ (((((Sx.cellAt x4 x7 0).toInt : Int).tmod ((x8.length : Int)))+1) < 0)) (
 Nd (¬ ((x8.length : Int) < ((((Sx.cellAt x4 x7 0).toInt : Int).tmod ((x8.length : Int)))+1))) (
 Nd (¬ ((x8.length : Int) < (x8.length : Int))) (
 Nd (¬ (((Sx.part x8 0 (((Sx.cellAt x4 x7 0).toInt : Int).tmod ((x8.length : Int)))).length : Int) < ((Sx.part x8 0 (((Sx.cellAt x4 x7 0).toInt : Int).tmod ((x8.length : Int)))).length : Int))) (
 Nd ((((Sx.part x8 0 (((Sx.cellAt x4 x7 0).toInt : Int).tmod ((x8.length : Int)))).length : Int)+((Sx.part x8 ((((Sx.cellAt x4 x7 0).toInt : Int).tmod ((x8.length : Int)))+1) ((x8.length : Int) - ((((Sx.cellAt x4 x7 0).toInt : Int).tmod ((x8.length : Int)))+1))).length : Int)) < 67108865) (
 Nd (((Sx.part x8 0 (((Sx.cellAt x4 x7 0).toInt : Int).tmod ((x8.length : Int)))).length : Int)=((Sx.part x8 0 (((Sx.cellAt x4 x7 0).toInt : Int).tmod ((x8.length : Int)))).length : Int)) (
 Nd ((¬ ((x7+1) < (-9223372036854775808)))∧((x7+1) < 9223372036854775808)) (
 Nd (¬ ((((Sx.part x8 0 (((Sx.cellAt x4 x7 0).toInt : Int).tmod ((x8.length : Int)))).length : Int)+((Sx.part x8 ((((Sx.cellAt x4 x7 0).toInt : Int).tmod ((x8.length : Int)))+1) ((x8.length : Int) - ((((Sx.cellAt x4 x7 0).toInt : Int).tmod ((x8.length : Int)))+1))).length : Int)) < (((Sx.part x8 0 (((Sx.cellAt x4 x7 0).toInt : Int).tmod ((x8.length : Int)))).length : Int)+((Sx.part x8 ((((Sx.cellAt x4 x7 0).toInt : Int).tmod ((x8.length : Int)))+1) ((x8.length : Int) - ((((Sx.cellAt x4 x7 0).toInt : Int).tmod ((x8.length : Int)))+1))).length : Int)))) (
 Nd ((((Sx.part x8 0 (((Sx.cellAt x4 x7 0).toInt : Int).tmod ((x8.length : Int)))).length : Int)+((Sx.part x8 ((((Sx.cellAt x4 x7 0).toInt : Int).tmod ((x8.length : Int)))+1) ((x8.length : Int) - ((((Sx.cellAt x4 x7 0).toInt : Int).tmod ((x8.length : Int)))+1))).length : Int))=(((Sx.part x8 0 (((Sx.cellAt x4 x7 0).toInt : Int).tmod ((x8.length : Int)))).length : Int)+((Sx.part x8 ((((Sx.cellAt x4 x7 0).toInt : Int).tmod ((x8.length : Int)))+1) ((x8.length : Int) - ((((Sx.cellAt x4 x7 0).toInt : Int).tmod ((x8.length : Int)))+1))).length : Int))) (
 Nd (¬ (((x9.length : Int)+1) < ((x9.length : Int)+1))) (
 Nd (((x9.length : Int)+1)=((x9.length : Int)+1)) (
 Nd (od2Inv [.int x0, .int x1, .lst x4] [.int (x7+1), .lst (((Sx.chunk 1 0 []) ++ (Sx.part x8 0 (((Sx.cellAt x4 x7 0).toInt : Int).tmod ((x8.length : Int))))) ++ (Sx.part x8 ((((Sx.cellAt x4 x7 0).toInt : Int).tmod ((x8.length : Int)))+1) ((x8.length : Int) - ((((Sx.cellAt x4 x7 0).toInt : Int).tmod ((x8.length : Int)))+1)))), .lst (x9 ++ (Sx.chunk 1 1 [(.int (Sx.cellAt x8 (((Sx.cellAt x4 x7 0).toInt : Int).tmod ((x8.length : Int))) 0).toInt)]))]) (
 Nd (od2Mu [.int x0, .int x1, .lst x4] [.int (x7+1), .lst (((Sx.chunk 1 0 []) ++ (Sx.part x8 0 (((Sx.cellAt x4 x7 0).toInt : Int).tmod ((x8.length : Int))))) ++ (Sx.part x8 ((((Sx.cellAt x4 x7 0).toInt : Int).tmod ((x8.length : Int)))+1) ((x8.length : Int) - ((((Sx.cellAt x4 x7 0).toInt : Int).tmod ((x8.length : Int)))+1)))), .lst (x9 ++ (Sx.chunk 1 1 [(.int (Sx.cellAt x8 (((Sx.cellAt x4 x7 0).toInt : Int).tmod ((x8.length : Int))) 0).toInt)]))] < od2Mu [.int x0, .int x1, .lst x4] [.int x7, .lst x8, .lst x9]) (
 True)))))))))))))))∧(¬ (0 < ((Sx.part x8 0 (((Sx.cellAt x4 x7 0).toInt : Int).tmod ((x8.length : Int)))).length : Int)) →
 Nd ((¬ (((((Sx.cellAt x4 x7 0).toInt : Int).tmod ((x8.length : Int)))+1) < (-9223372036854775808)))∧(((((Sx.cellAt x4 x7 0).toInt : Int).tmod ((x8.length : Int)))+1) < 9223372036854775808)) (
 Nd (¬ (((((Sx.cellAt x4 x7 0).toInt : Int).tmod ((x8.length : Int)))+1) < 0)) (
 Nd (¬ ((x8.length : Int) < ((((Sx.cellAt x4 x7 0).toInt : Int).tmod ((x8.length : Int)))+1))) (
 Nd (¬ ((x8.length : Int) < (x8.length : Int))) (
 Nd (¬ (((Sx.over (Sx.chunk 1 0 []) 0 (Sx.part x8 0 (((Sx.cellAt x4 x7 0).toInt : Int).tmod ((x8.length : Int))))).length : Int) < ((Sx.part x8 0 (((Sx.cellAt x4 x7 0).toInt : Int).tmod ((x8.length : Int)))).length : Int))) (
 Nd ((((Sx.part x8 0 (((Sx.cellAt x4 x7 0).toInt : Int).tmod ((x8.length : Int)))).length : Int)+((Sx.part x8 ((((Sx.cellAt x4 x7 0).toInt : Int).tmod ((x8.length : Int)))+1) ((x8.length : Int) - ((((Sx.cellAt x4 x7 0).toInt : Int).tmod ((x8.length : Int)))+1))).length : Int)) < 67108865) (
(((0 < (((Sx.part x8 0 (((Sx.cellAt x4 x7 0).toInt : Int).tmod ((x8.length : Int)))).length : Int)+((Sx.part x8 ((((Sx.cellAt x4 x7 0).toInt : Int).tmod ((x8.length : Int)))+1) ((x8.length : Int) - ((((Sx.cellAt x4 x7 0).toInt : Int).tmod ((x8.length : Int)))+1))).length : Int))) →
 Nd ((¬ ((x7+1) < (-9223372036854775808)))∧((x7+1) < 9223372036854775808)) (
 Nd (¬ ((((Sx.part (Sx.over (Sx.chunk 1 0 []) 0 (Sx.part x8 0 (((Sx.cellAt x4 x7 0).toInt : Int).tmod ((x8.length : Int))))) 0 ((Sx.part x8 0 (((Sx.cellAt x4 x7 0).toInt : Int).tmod ((x8.length : Int)))).length : Int)).length : Int)+((Sx.part x8 ((((Sx.cellAt x4 x7 0).toInt : Int).tmod ((x8.length : Int)))+1) ((x8.length : Int) - ((((Sx.cellAt x4 x7 0).toInt : Int).tmod ((x8.length : Int)))+1))).length : Int)) < (((Sx.part x8 0 (((Sx.cellAt x4 x7 0).toInt : Int).tmod ((x8.length : Int)))).length : Int)+((Sx.part x8 ((((Sx.cellAt x4 x7 0).toInt : Int).tmod ((x8.length : Int)))+1) ((x8.length : Int) - ((((Sx.cellAt x4 x7 0).toInt : Int).tmod ((x8.length : Int)))+1))).length : Int)))) (
 Nd (¬ (((x9.length : Int)+1) < ((x9.length : Int)+1))) (
 Nd (((x9.length : Int)+1)=((x9.length : Int)+1)) (
 Nd (od2Inv [.int x0, .int x1, .lst x4] [.int (x7+1), .lst (Sx.part ((Sx.part (Sx.over (Sx.chunk 1 0 []) 0 (Sx.part x8 0 (((Sx.cellAt x4 x7 0).toInt : Int).tmod ((x8.length : Int))))) 0 ((Sx.part x8 0 (((Sx.cellAt x4 x7 0).toInt : Int).tmod ((x8.length : Int)))).length : Int)) ++ (Sx.part x8 ((((Sx.cellAt x4 x7 0).toInt : Int).tmod ((x8.length : Int)))+1) ((x8.length : Int) - ((((Sx.cellAt x4 x7 0).toInt : Int).tmod ((x8.length : Int)))+1)))) 0 (((Sx.part x8 0 (((Sx.cellAt x4 x7 0).toInt : Int).tmod ((x8.length : Int)))).length : Int)+((Sx.part x8 ((((Sx.cellAt x4 x7 0).toInt : Int).tmod ((x8.length : Int)))+1) ((x8.length : Int) - ((((Sx.cellAt x4 x7 0).toInt : Int).tmod ((x8.length : Int)))+1))).length : Int))), .lst (x9 ++ (Sx.chunk 1 1 [(.int (Sx.cellAt x8 (((Sx.cellAt x4 x7 0).toInt : Int).tmod ((x8.length : Int))) 0).toInt)]))]) (
 Nd (od2Mu [.int x0, .int x1, .lst x4] [.int (x7+1), .lst (Sx.part ((Sx.part (Sx.over (Sx.chunk 1 0 []) 0 (Sx.part x8 0 (((Sx.cellAt x4 x7 0).toInt : Int).tmod ((x8.length : Int))))) 0 ((Sx.part x8 0 (((Sx.cellAt x4 x7 0).toInt : Int).tmod ((x8.length : Int)))).length : Int)) ++ (Sx.part x8 ((((Sx.cellAt x4 x7 0).toInt : Int).tmod ((x8.length : Int)))+1) ((x8.length : Int) - ((((Sx.cellAt x4 x7 0).toInt : Int).tmod ((x8.length : Int)))+1)))) 0 (((Sx.part x8 0 (((Sx.cellAt x4 x7 0).toInt : Int).tmod ((x8.length : Int)))).length : Int)+((Sx.part x8 ((((Sx.cellAt x4 x7 0).toInt : Int).tmod ((x8.length : Int)))+1) ((x8.length : Int) - ((((Sx.cellAt x4 x7 0).toInt : Int).tmod ((x8.length : Int)))+1))).length : Int))), .lst (x9 ++ (Sx.chunk 1 1 [(.int (Sx.cellAt x8 (((Sx.cellAt x4 x7 0).toInt : Int).tmod ((x8.length : Int))) 0).toInt)]))] < od2Mu [.int x0, .int x1, .lst x4] [.int x7, .lst x8, .lst x9]) (
 True)))))))∧(¬ (0 < (((Sx.part x8 0 (((Sx.cellAt x4 x7 0).toInt : Int).tmod ((x8.length : Int)))).length : Int)+((Sx.part x8 ((((Sx.cellAt x4 x7 0).toInt : Int).tmod ((x8.length : Int)))+1) ((x8.length : Int) - ((((Sx.cellAt x4 x7 0).toInt : Int).tmod ((x8.length : Int)))+1))).length : Int))) →
 Nd ((¬ ((x7+1) < (-9223372036854775808)))∧((x7+1) < 9223372036854775808)) (
 Nd (¬ (((Sx.over (Sx.over (Sx.chunk 1 0 []) 0 (Sx.part x8 0 (((Sx.cellAt x4 x7 0).toInt : Int).tmod ((x8.length : Int))))) ((Sx.part x8 0 (((Sx.cellAt x4 x7 0).toInt : Int).tmod ((x8.length : Int)))).length : Int) (Sx.part x8 ((((Sx.cellAt x4 x7 0).toInt : Int).tmod ((x8.length : Int)))+1) ((x8.length : Int) - ((((Sx.cellAt x4 x7 0).toInt : Int).tmod ((x8.length : Int)))+1)))).length : Int) < (((Sx.part x8 0 (((Sx.cellAt x4 x7 0).toInt : Int).tmod ((x8.length : Int)))).length : Int)+((Sx.part x8 ((((Sx.cellAt x4 x7 0).toInt : Int).tmod ((x8.length : Int)))+1) ((x8.length : Int) - ((((Sx.cellAt x4 x7 0).toInt : Int).tmod ((x8.length : Int)))+1))).length : Int)))) (
 Nd (¬ (((x9.length : Int)+1) < ((x9.length : Int)+1))) (
 Nd (((x9.length : Int)+1)=((x9.length : Int)+1)) (
 Nd (od2Inv [.int x0, .int x1, .lst x4] [.int (x7+1), .lst (Sx.part (Sx.over (Sx.over (Sx.chunk 1 0 []) 0 (Sx.part x8 0 (((Sx.cellAt x4 x7 0).toInt : Int).tmod ((x8.length : Int))))) ((Sx.part x8 0 (((Sx.cellAt x4 x7 0).toInt : Int).tmod ((x8.length : Int)))).length : Int) (Sx.part x8 ((((Sx.cellAt x4 x7 0).toInt : Int).tmod ((x8.length : Int)))+1) ((x8.length : Int) - ((((Sx.cellAt x4 x7 0).toInt : Int).tmod ((x8.length : Int)))+1)))) 0 (((Sx.part x8 0 (((Sx.cellAt x4 x7 0).toInt : Int).tmod ((x8.length : Int)))).length : Int)+((Sx.part x8 ((((Sx.cellAt x4 x7 0).toInt : Int).tmod ((x8.length : Int)))+1) ((x8.length : Int) - ((((Sx.cellAt x4 x7 0).toInt : Int).tmod ((x8.length : Int)))+1))).length : Int))), .lst (x9 ++ (Sx.chunk 1 1 [(.int (Sx.cellAt x8 (((Sx.cellAt x4 x7 0).toInt : Int).tmod ((x8.length : Int))) 0).toInt)]))]) (
 Nd (od2Mu [.int x0, .int x1, .lst x4] [.int (x7+1), .lst (Sx.part (Sx.over (Sx.over (Sx.chunk 1 0 []) 0 (Sx.part x8 0 (((Sx.cellAt x4 x7 0).toInt : Int).tmod ((x8.length : Int))))) ((Sx.part x8 0 (((Sx.cellAt x4 x7 0).toInt : Int).tmod ((x8.length : Int)))).length : Int) (Sx.part x8 ((((Sx.cellAt x4 x7 0).toInt : Int).tmod ((x8.length : Int)))+1) ((x8.length : Int) - ((((Sx.cellAt x4 x7 0).toInt : Int).tmod ((x8.length : Int)))+1)))) 0 (((Sx.part x8 0 (((Sx.cellAt x4 x7 0).toInt : Int).tmod ((x8.length : Int)))).length : Int)+((Sx.part x8 ((((Sx.cellAt x4 x7 0).toInt : Int).tmod ((x8.length : Int)))+1) ((x8.length : Int) - ((((Sx.cellAt x4 x7 0).toInt : Int).tmod ((x8.length : Int)))+1))).length : Int))), .lst (x9 ++ (Sx.chunk 1 1 [(.int (Sx.cellAt x8 (((Sx.cellAt x4 x7 0).toInt : Int).tmod ((x8.length : Int))) 0).toInt)]))] < od2Mu [.int x0, .int x1, .lst x4] [.int x7, .lst x8, .lst x9]) (
 True)))))))))))))))))))))))))))))∧(¬ (x7 < (x4.length : Int)) →
 Nd (0 < (x8.length : Int)) (
 Nd (¬ ((x9.length : Int) < (x9.length : Int))) (
 Nd (((x9.length : Int)+1) < 67108865) (
 Nd ((x9.length : Int)=(x9.length : Int)) (
 Nd (¬ ((x8.length : Int) < 0)) (
 Nd (((Sx.part x8 0 0).length : Int) < 67108865) (
(((0 < ((Sx.part x8 0 0).length : Int)) →
 Nd (¬ ((x8.length : Int) < 1)) (
 Nd (¬ ((x8.length : Int) < (x8.length : Int))) (
 Nd (¬ (((Sx.part x8 0 0).length : Int) < ((Sx.part x8 0 0).length : Int))) (
 Nd ((((Sx.part x8 0 0).length : Int)+((Sx.part x8 1 ((x8.length : Int)+(-1))).length : Int)) < 67108865) (
 Nd (((Sx.part x8 0 0).length : Int)=((Sx.part x8 0 0).length : Int)) (
 Nd ((¬ ((x7+1) < (-9223372036854775808)))∧((x7+1) < 9223372036854775808)) (
 Nd (¬ ((((Sx.part x8 0 0).length : Int)+((Sx.part x8 1 ((x8.length : Int)+(-1))).length : Int)) < (((Sx.part x8 0 0).length : Int)+((Sx.part x8 1 ((x8.length : Int)+(-1))).length : Int)))) (
 Nd ((((Sx.part x8 0 0).length : Int)+((Sx.part x8 1 ((x8.length : Int)+(-1))).length : Int))=(((Sx.part x8 0 0).length : Int)+((Sx.part x8 1 ((x8.length : Int)+(-1))).length : Int))) (
 Nd (¬ (((x9.length : Int)+1) < ((x9.length : Int)+1))) (
 Nd (((x9.length : Int)+1)=((x9.length : Int)+1)) (
 Nd (od2Inv [.int x0, .int x1, .lst x4] [.int (x7+1), .lst (((Sx.chunk 1 0 []) ++ (Sx.part x8 0 0)) ++ (Sx.part x8 1 ((x8.length : Int)+(-1)))), .lst (x9 ++ (Sx.chunk 1 1 [(.int (Sx.cellAt x8 0 0).toInt)]))]) (
 Nd (od2Mu [.int x0, .int x1, .lst x4] [.int (x7+1), .lst (((Sx.chunk 1 0 []) ++ (Sx.part x8 0 0)) ++ (Sx.part x8 1 ((x8.length : Int)+(-1)))), .lst (x9 ++ (Sx.chunk 1 1 [(.int (Sx.cellAt x8 0 0).toInt)]))] < od2Mu [.int x0, .int x1, .lst x4] [.int x7, .lst x8, .lst x9]) (
 True)))))))))))))∧(¬ (0 < ((Sx.part x8 0 0).length : Int)) →
 Nd (¬ ((x8.length : Int) < 1)) (
 Nd (¬ ((x8.length : Int) < (x8.length : Int))) (
 Nd (¬ (((Sx.over (Sx.chunk 1 0 []) 0 (Sx.part x8 0 0)).length : Int) < ((Sx.part x8 0 0).length : Int))) (
 Nd ((((Sx.part x8 0 0).length : Int)+((Sx.part x8 1 ((x8.length : Int)+(-1))).length : Int)) < 67108865) (
(((0 < (((Sx.part x8 0 0).length : Int)+((Sx.part x8 1 ((x8.length : Int)+(-1))).length : Int))) →
 Nd ((¬ ((x7+1) < (-9223372036854775808)))∧((x7+1) < 9223372036854775808)) (
 Nd (¬ ((((Sx.part (Sx.over (Sx.chunk 1 0 []) 0 (Sx.part x8 0 0)) 0 ((Sx.part x8 0 0).length : Int)).length : Int)+((Sx.part x8 1 ((x8.length : Int)+(-1))).length : Int)) < (((Sx.part x8 0 0).length : Int)+((Sx.part x8 1 ((x8.length : Int)+(-1))).length : Int)))) (
 Nd (¬ (((x9.length : Int)+1) < ((x9.length : Int)+1))) (
 Nd (((x9.length : Int)+1)=((x9.length : Int)+1)) (
 Nd (od2Inv [.int x0, .int x1, .lst x4] [.int (x7+1), .lst (Sx.part ((Sx.part (Sx.over (Sx.chunk 1 0 []) 0 (Sx.part x8 0 0)) 0 ((Sx.part x8 0 0).length : Int)) ++ (Sx.part x8 1 ((x8.length : Int)+(-1)))) 0 (((Sx.part x8 0 0).length : Int)+((Sx.part x8 1 ((x8.length : Int)+(-1))).length : Int))), .lst (x9 ++ (Sx.chunk 1 1 [(.int (Sx.cellAt x8 0 0).toInt)]))]) (
 Nd (od2Mu [.int x0, .int x1, .lst x4] [.int (x7+1), .lst (Sx.part ((Sx.part (Sx.over (Sx.chunk 1 0 []) 0 (Sx.part x8 0 0)) 0 ((Sx.part x8 0 0).length : Int)) ++ (Sx.part x8 1 ((x8.length : Int)+(-1)))) 0 (((Sx.part x8 0 0).length : Int)+((Sx.part x8 1 ((x8.length : Int)+(-1))).length : Int))), .lst (x9 ++ (Sx.chunk 1 1 [(.int (Sx.cellAt x8 0 0).toInt)]))] < od2Mu [.int x0, .int x1, .lst x4] [.int x7, .lst x8, .lst x9]) (
 True)))))))∧(¬ (0 < (((Sx.part x8 0 0).length : Int)+((Sx.part x8 1 ((x8.length : Int)+(-1))).length : Int))) →
 Nd ((¬ ((x7+1) < (-9223372036854775808)))∧((x7+1) < 9223372036854775808)) (
 Nd (¬ (((Sx.over (Sx.over (Sx.chunk 1 0 []) 0 (Sx.part x8 0 0)) ((Sx.part x8 0 0).length : Int) (Sx.part x8 1 ((x8.length : Int)+(-1)))).length : Int) < (((Sx.part x8 0 0).length : Int)+((Sx.part x8 1 ((x8.length : Int)+(-1))).length : Int)))) (
 Nd (¬ (((x9.length : Int)+1) < ((x9.length : Int)+1))) (
 Nd (((x9.length : Int)+1)=((x9.length : Int)+1)) (
 Nd (od2Inv [.int x0, .int x1, .lst x4] [.int (x7+1), .lst (Sx.part (Sx.over (Sx.over (Sx.chunk 1 0 []) 0 (Sx.part x8 0 0)) ((Sx.part x8 0 0).length : Int) (Sx.part x8 1 ((x8.length : Int)+(-1)))) 0 (((Sx.part x8 0 0).length : Int)+((Sx.part x8 1 ((x8.length : Int)+(-1))).length : Int))), .lst (x9 ++ (Sx.chunk 1 1 [(.int (Sx.cellAt x8 0 0).toInt)]))]) (
 Nd (od2Mu [.int x0, .int x1, .lst x4] [.int (x7+1), .lst (Sx.part (Sx.over (Sx.over (Sx.chunk 1 0 []) 0 (Sx.part x8 0 0)) ((Sx.part x8 0 0).length : Int) (Sx.part x8 1 ((x8.length : Int)+(-1)))) 0 (((Sx.part x8 0 0).length : Int)+((Sx.part x8 1 ((x8.length : Int)+(-1))).length : Int))), .lst (x9 ++ (Sx.chunk 1 1 [(.int (Sx.cellAt x8 0 0).toInt)]))] < od2Mu [.int x0, .int x1, .lst x4] [.int x7, .lst x8, .lst x9]) (
 True)))))))))))))))))))))))∧(¬ (0 < (x8.length : Int)) →
 Nd (¬ ((x9.length : Int) < (x9.length : Int))) (
 Nd ((x9.length : Int)=(x9.length : Int)) (
 Nd (orderRel [.int x0, .int x1, .lst x2, .lst x3, .lst x4] [.lst x9]) (
 True))))))))))))
theorem vcOrder_eq : (cvc Go.Proofs.Try.prog U0 cOrder (sxF Go.Proofs.Try.prog U0 annsP (conP Go.Proofs.Try.prog U0 (stageP 0)) 400 26)).vc U0 (fun _=>True)=vcOrder:=by kernel_rfl
def vcPof : Prop :=
 ∀ x0 : Int,
 ∀ x1 : Int,
 ∀ x2 : Sx.Rows,
 ∀ x3 : Sx.Rows,
(pofPre [.int x0, .int x1, .lst x2, .lst x3]) →
 Nd (orderPre [.int x0, .int x1, .lst x2, .lst x3, .lst x2]) (
 ∀ x4 : Sx.Rows,
(orderRel [.int x0, .int x1, .lst x2, .lst x3, .lst x2] [.lst x4]) →
 Nd (orderPre [.int x0, .int x1, .lst x2, .lst x3, .lst x3]) (
 ∀ x5 : Sx.Rows,
(orderRel [.int x0, .int x1, .lst x2, .lst x3, .lst x3] [.lst x5]) →
 Nd (pofRel [.int x0, .int x1, .lst x2, .lst x3] [.lst x4, .lst x5]) (
 True)))
theorem vcPof_eq : (cvc Go.Proofs.Try.prog U0 cPof (sxF Go.Proofs.Try.prog U0 annsP (conP Go.Proofs.Try.prog U0 (stageP 1)) 400 13)).vc U0 (fun _=>True)=vcPof:=by kernel_rfl
end Go.C08
