/- The conditions of contracts, as the engine's printer has written them, and that the kernel comes to the same.
  Conditions: none. -/
import Derived.Test.YtmdkgpkboidhfaaA29
import Derived.Test.YtmdkgpkboidhfaaRows
import Derived.KernelRfl
set_option linter.unusedVariables false
set_option maxRecDepth 100000
namespace Go.C08
open Go Go.Xe Go.Sx
def vcCarry0 (x1 : Sx.Rows) (x4 : Int) (x5 : Sx.Rows) (x7 : Int) : Prop :=
 Nd ((¬ ((x7+1) < (-9223372036854775808)))∧((x7+1) < 9223372036854775808)) (
 Nd (ixInv [.lst x5, .int (Sx.cellAt x1 x4 1).toInt] [.int (x7+1)]) (
 Nd (ixMu [.lst x5, .int (Sx.cellAt x1 x4 1).toInt] [.int (x7+1)] < ixMu [.lst x5, .int (Sx.cellAt x1 x4 1).toInt] [.int x7]) (
 True)))
def vcCarry1 (x1 : Sx.Rows) (x4 : Int) (x5 : Sx.Rows) (x6 : Int) : Prop :=
 Nd ((¬ ((x6+1) < (-9223372036854775808)))∧((x6+1) < 9223372036854775808)) (
 Nd (ixInv [.lst x5, .int (Sx.cellAt x1 x4 0).toInt] [.int (x6+1)]) (
 Nd (ixMu [.lst x5, .int (Sx.cellAt x1 x4 0).toInt] [.int (x6+1)] < ixMu [.lst x5, .int (Sx.cellAt x1 x4 0).toInt] [.int x6]) (
 True)))
def vcCarry2 (x0 : Sx.Rows) (x1 : Sx.Rows) (x4 : Int) (x5 : Sx.Rows) : Prop :=
 Nd (¬ (x4 < 0)) (
 Nd (x4 < (x1.length : Int)) (
 Nd (ixInv [.lst x5, .int (Sx.cellAt x1 x4 0).toInt] [.int 0]) (
 ∀ x6 : Int,
(ixInv [.lst x5, .int (Sx.cellAt x1 x4 0).toInt] [.int x6]) →
(((x6 < (x5.length : Int)) →
 Nd (¬ (x6 < 0)) (
 Nd (x6 < (x5.length : Int)) (
 Nd (x6 < (x5.length : Int)) (
((((Sx.cellAt x1 x4 0).toInt=(Sx.cellAt x5 x6 0).toInt) →
(((x6 < 0) →
 Nd (x6 < 0) (
 Nd (x6 < 0) (
 Nd (x6 < 0) (
 Nd (x6 < 0) (
 Nd (x6 < 0) (
 Nd (carryRel [.lst x0, .lst x1] [.lst ([] : Sx.Rows), .int 11]) (
 True)))))))∧(¬ (x6 < 0) →
 Nd (¬ (x6 < 0)) (
 Nd (¬ (x6 < 0)) (
 Nd (¬ (x6 < 0)) (
((((Sx.cellAt x1 x4 1).toInt=(-1)) →
 Nd ((Sx.cellAt x1 x4 1).toInt=(-1)) (
 Nd ((Sx.cellAt x1 x4 1).toInt=(-1)) (
 Nd ((Sx.cellAt x1 x4 1).toInt=(-1)) (
 Nd ((Sx.cellAt x1 x4 1).toInt=(-1)) (
 Nd (¬ (x6 < 0)) (
 Nd ((Sx.cellAt x1 x4 1).toInt=(-1)) (
 Nd (¬ (x6 < 0)) (
((((Sx.cellAt x1 x4 0).toInt=(Sx.cellAt x1 x4 1).toInt) →
 Nd (carryRel [.lst x0, .lst x1] [.lst ([] : Sx.Rows), .int 1]) (
 True))∧(¬ ((Sx.cellAt x1 x4 0).toInt=(Sx.cellAt x1 x4 1).toInt) →
 Nd ((¬ ((x6+1) < (-9223372036854775808)))∧((x6+1) < 9223372036854775808)) (
 False )))))))))))∧(¬ ((Sx.cellAt x1 x4 1).toInt=(-1)) →
 Nd (¬ ((Sx.cellAt x1 x4 1).toInt=(-1))) (
 Nd (¬ ((Sx.cellAt x1 x4 1).toInt=(-1))) (
 Nd (¬ ((Sx.cellAt x1 x4 1).toInt=(-1))) (
 Nd (ixInv [.lst x5, .int (Sx.cellAt x1 x4 1).toInt] [.int 0]) (
 ∀ x7 : Int,
(ixInv [.lst x5, .int (Sx.cellAt x1 x4 1).toInt] [.int x7]) →
(((x7 < (x5.length : Int)) →
 Nd (¬ (x7 < 0)) (
 Nd (x7 < (x5.length : Int)) (
 Nd (x7 < (x5.length : Int)) (
((((Sx.cellAt x1 x4 1).toInt=(Sx.cellAt x5 x7 0).toInt) →
 Nd (¬ ((Sx.cellAt x1 x4 1).toInt=(-1))) (
 Nd (¬ (x6 < 0)) (
 Nd (¬ ((Sx.cellAt x1 x4 1).toInt=(-1))) (
 Nd (¬ (x6 < 0)) (
(((x7 < 0) →
 Nd (carryRel [.lst x0, .lst x1] [.lst ([] : Sx.Rows), .int 11]) (
 True))∧(¬ (x7 < 0) →
((((Sx.cellAt x1 x4 0).toInt=(Sx.cellAt x1 x4 1).toInt) →
 Nd (carryRel [.lst x0, .lst x1] [.lst ([] : Sx.Rows), .int 1]) (
 True))∧(¬ ((Sx.cellAt x1 x4 0).toInt=(Sx.cellAt x1 x4 1).toInt) →
 Nd ((¬ ((x6+1) < (-9223372036854775808)))∧((x6+1) < 9223372036854775808)) (
 False ))))))))))∧(¬ ((Sx.cellAt x1 x4 1).toInt=(Sx.cellAt x5 x7 0).toInt) →
(vcCarry0 x1 x4 x5 x7)))))))∧(¬ (x7 < (x5.length : Int)) →
 Nd (¬ ((Sx.cellAt x1 x4 1).toInt=(-1))) (
 Nd (¬ (x6 < 0)) (
 Nd (¬ ((Sx.cellAt x1 x4 1).toInt=(-1))) (
 Nd (¬ (x6 < 0)) (
 Nd (carryRel [.lst x0, .lst x1] [.lst ([] : Sx.Rows), .int 11]) (
 True)))))))))))))))))))∧(¬ ((Sx.cellAt x1 x4 0).toInt=(Sx.cellAt x5 x6 0).toInt) →
(vcCarry1 x1 x4 x5 x6)))))))∧(¬ (x6 < (x5.length : Int)) →
 Nd (carryRel [.lst x0, .lst x1] [.lst ([] : Sx.Rows), .int 11]) (
 True))))))
def vcCarry3 (x0 : Sx.Rows) (x1 : Sx.Rows) (x5 : Sx.Rows) : Prop :=
 Nd (¬ ((x5.length : Int) < 0)) (
 Nd (¬ ((x5.length : Int) < (x5.length : Int))) (
 Nd (¬ ((x5.length : Int) < (x5.length : Int))) (
 Nd ((x5.length : Int)=(x5.length : Int)) (
 Nd (¬ ((x5.length : Int) < (x5.length : Int))) (
 Nd ((x5.length : Int)=(x5.length : Int)) (
 Nd (carryRel [.lst x0, .lst x1] [.lst x5, .int 0]) (
 True)))))))
def vcCarry : Prop :=
 ∀ x0 : Sx.Rows,
 ∀ x1 : Sx.Rows,
(carryPre [.lst x0, .lst x1]) →
 Nd (checkPre [.lst x0]) (
 ∀ x2 : Int,
(checkRel [.lst x0] [.int x2]) →
(((x2=0) →
(((4096 < (x1.length : Int)) →
 Nd (carryRel [.lst x0, .lst x1] [.lst ([] : Sx.Rows), .int 3]) (
 True))∧(¬ (4096 < (x1.length : Int)) →
 ∀ x3 : Bool,
(((x3=true) →
((x0.length : Int)=0) →
 Nd (caInv [.lst x0, .lst x1] [.int 0, .lst ([] : Sx.Rows)]) (
 ∀ x4 : Int,
 ∀ x5 : Sx.Rows,
(caInv [.lst x0, .lst x1] [.int x4, .lst x5]) →
(((x4 < (x1.length : Int)) →
(vcCarry2 x0 x1 x4 x5))∧(¬ (x4 < (x1.length : Int)) →
(vcCarry3 x0 x1 x5)))))∧(¬ (x3=true) →
 Nd ((x0.length : Int) < 67108865) (
(((0 < (x0.length : Int)) →
 Nd (¬ ((x0.length : Int) < (x0.length : Int))) (
 Nd ((x0.length : Int)=(x0.length : Int)) (
 Nd (caInv [.lst x0, .lst x1] [.int 0, .lst ((Sx.chunk 1 0 []) ++ x0)]) (
 ∀ x4 : Int,
 ∀ x5 : Sx.Rows,
(caInv [.lst x0, .lst x1] [.int x4, .lst x5]) →
(((x4 < (x1.length : Int)) →
 Nd (¬ (x4 < 0)) (
 Nd (x4 < (x1.length : Int)) (
 Nd (ixInv [.lst x5, .int (Sx.cellAt x1 x4 0).toInt] [.int 0]) (
 ∀ x6 : Int,
(ixInv [.lst x5, .int (Sx.cellAt x1 x4 0).toInt] [.int x6]) →
(((x6 < (x5.length : Int)) →
 Nd (¬ (x6 < 0)) (
 Nd (x6 < (x5.length : Int)) (
 Nd (x6 < (x5.length : Int)) (
((((Sx.cellAt x1 x4 0).toInt=(Sx.cellAt x5 x6 0).toInt) →
(((x6 < 0) →
 Nd (x6 < 0) (
 Nd (x6 < 0) (
 Nd (x6 < 0) (
 Nd (x6 < 0) (
 Nd (x6 < 0) (
 Nd (carryRel [.lst x0, .lst x1] [.lst ([] : Sx.Rows), .int 11]) (
 True)))))))∧(¬ (x6 < 0) →
 Nd (¬ (x6 < 0)) (
 Nd (¬ (x6 < 0)) (
 Nd (¬ (x6 < 0)) (
((((Sx.cellAt x1 x4 1).toInt=(-1)) →
 Nd ((Sx.cellAt x1 x4 1).toInt=(-1)) (
 Nd ((Sx.cellAt x1 x4 1).toInt=(-1)) (
 Nd ((Sx.cellAt x1 x4 1).toInt=(-1)) (
 Nd ((Sx.cellAt x1 x4 1).toInt=(-1)) (
 Nd (¬ (x6 < 0)) (
 Nd ((Sx.cellAt x1 x4 1).toInt=(-1)) (
 Nd (¬ (x6 < 0)) (
((((Sx.cellAt x1 x4 0).toInt=(Sx.cellAt x1 x4 1).toInt) →
 Nd (carryRel [.lst x0, .lst x1] [.lst ([] : Sx.Rows), .int 1]) (
 True))∧(¬ ((Sx.cellAt x1 x4 0).toInt=(Sx.cellAt x1 x4 1).toInt) →
 Nd ((¬ ((x6+1) < (-9223372036854775808)))∧((x6+1) < 9223372036854775808)) (
 Nd (¬ ((x5.length : Int) < (x5.length : Int))) (
 Nd (¬ (x6 < 0)) (
 Nd (x6 < (x6+1)) (
 Nd (¬ ((x5.length : Int) < (x6+1))) (
 Nd ((Sx.cellAt x1 x4 1).toInt=(-1)) (
 Nd (¬ ((((Sx.part x5 0 x6).length : Int)+((Sx.part x5 (x6+1) ((x5.length : Int) - (x6+1))).length : Int)) < (x6+((x5.length : Int) - (x6+1))))) (
 Nd (¬ ((x6+((x5.length : Int) - (x6+1))) < 0)) (
 Nd (¬ ((x6+((x5.length : Int) - (x6+1))) < (x6+((x5.length : Int) - (x6+1))))) (
 Nd ((x6+((x5.length : Int) - (x6+1))) < 67108864) (
 Nd ((¬ ((x4+1) < (-9223372036854775808)))∧((x4+1) < 9223372036854775808)) (
 Nd (¬ (((((Sx.part ((Sx.part x5 0 x6) ++ (Sx.part x5 (x6+1) ((x5.length : Int) - (x6+1)))) 0 (x6+((x5.length : Int) - (x6+1)))).length : Int)+1)+((Sx.part ((Sx.part x5 0 x6) ++ (Sx.part x5 (x6+1) ((x5.length : Int) - (x6+1)))) (x6+((x5.length : Int) - (x6+1))) ((x6+((x5.length : Int) - (x6+1))) - (x6+((x5.length : Int) - (x6+1))))).length : Int)) < ((x6+((x5.length : Int) - (x6+1)))+1))) (
 Nd (caInv [.lst x0, .lst x1] [.int (x4+1), .lst (Sx.part (((Sx.part ((Sx.part x5 0 x6) ++ (Sx.part x5 (x6+1) ((x5.length : Int) - (x6+1)))) 0 (x6+((x5.length : Int) - (x6+1)))) ++ (Sx.chunk 1 1 [(.int (Sx.cellAt x1 x4 0).toInt)])) ++ (Sx.part ((Sx.part x5 0 x6) ++ (Sx.part x5 (x6+1) ((x5.length : Int) - (x6+1)))) (x6+((x5.length : Int) - (x6+1))) ((x6+((x5.length : Int) - (x6+1))) - (x6+((x5.length : Int) - (x6+1)))))) 0 ((x6+((x5.length : Int) - (x6+1)))+1))]) (
 Nd (caMu [.lst x0, .lst x1] [.int (x4+1), .lst (Sx.part (((Sx.part ((Sx.part x5 0 x6) ++ (Sx.part x5 (x6+1) ((x5.length : Int) - (x6+1)))) 0 (x6+((x5.length : Int) - (x6+1)))) ++ (Sx.chunk 1 1 [(.int (Sx.cellAt x1 x4 0).toInt)])) ++ (Sx.part ((Sx.part x5 0 x6) ++ (Sx.part x5 (x6+1) ((x5.length : Int) - (x6+1)))) (x6+((x5.length : Int) - (x6+1))) ((x6+((x5.length : Int) - (x6+1))) - (x6+((x5.length : Int) - (x6+1)))))) 0 ((x6+((x5.length : Int) - (x6+1)))+1))] < caMu [.lst x0, .lst x1] [.int x4, .lst x5]) (
 True))))))))))))))))))))))))∧(¬ ((Sx.cellAt x1 x4 1).toInt=(-1)) →
 Nd (¬ ((Sx.cellAt x1 x4 1).toInt=(-1))) (
 Nd (¬ ((Sx.cellAt x1 x4 1).toInt=(-1))) (
 Nd (¬ ((Sx.cellAt x1 x4 1).toInt=(-1))) (
 Nd (ixInv [.lst x5, .int (Sx.cellAt x1 x4 1).toInt] [.int 0]) (
 ∀ x7 : Int,
(ixInv [.lst x5, .int (Sx.cellAt x1 x4 1).toInt] [.int x7]) →
(((x7 < (x5.length : Int)) →
 Nd (¬ (x7 < 0)) (
 Nd (x7 < (x5.length : Int)) (
 Nd (x7 < (x5.length : Int)) (
((((Sx.cellAt x1 x4 1).toInt=(Sx.cellAt x5 x7 0).toInt) →
 Nd (¬ ((Sx.cellAt x1 x4 1).toInt=(-1))) (
 Nd (¬ (x6 < 0)) (
 Nd (¬ ((Sx.cellAt x1 x4 1).toInt=(-1))) (
 Nd (¬ (x6 < 0)) (
(((x7 < 0) →
 Nd (carryRel [.lst x0, .lst x1] [.lst ([] : Sx.Rows), .int 11]) (
 True))∧(¬ (x7 < 0) →
((((Sx.cellAt x1 x4 0).toInt=(Sx.cellAt x1 x4 1).toInt) →
 Nd (carryRel [.lst x0, .lst x1] [.lst ([] : Sx.Rows), .int 1]) (
 True))∧(¬ ((Sx.cellAt x1 x4 0).toInt=(Sx.cellAt x1 x4 1).toInt) →
 Nd ((¬ ((x6+1) < (-9223372036854775808)))∧((x6+1) < 9223372036854775808)) (
 Nd (¬ ((x5.length : Int) < (x5.length : Int))) (
 Nd (¬ (x6 < 0)) (
 Nd (x6 < (x6+1)) (
 Nd (¬ ((x5.length : Int) < (x6+1))) (
 Nd (¬ ((Sx.cellAt x1 x4 1).toInt=(-1))) (
 Nd (ixInv [.lst ((Sx.part x5 0 x6) ++ (Sx.part x5 (x6+1) ((x5.length : Int) - (x6+1)))), .int (Sx.cellAt x1 x4 1).toInt] [.int 0]) (
 ∀ x8 : Int,
(ixInv [.lst ((Sx.part x5 0 x6) ++ (Sx.part x5 (x6+1) ((x5.length : Int) - (x6+1)))), .int (Sx.cellAt x1 x4 1).toInt] [.int x8]) →
(((x8 < (x6+((x5.length : Int) - (x6+1)))) →
 Nd (¬ (x8 < 0)) (
 Nd (x8 < (x6+((x5.length : Int) - (x6+1)))) (
 Nd (x8 < (((Sx.part x5 0 x6).length : Int)+((Sx.part x5 (x6+1) ((x5.length : Int) - (x6+1))).length : Int))) (
((((Sx.cellAt x1 x4 1).toInt=(Sx.cellAt ((Sx.part x5 0 x6) ++ (Sx.part x5 (x6+1) ((x5.length : Int) - (x6+1)))) x8 0).toInt) →
 Nd (¬ ((((Sx.part x5 0 x6).length : Int)+((Sx.part x5 (x6+1) ((x5.length : Int) - (x6+1))).length : Int)) < (x6+((x5.length : Int) - (x6+1))))) (
 Nd (¬ (x8 < 0)) (
 Nd (¬ ((x6+((x5.length : Int) - (x6+1))) < x8)) (
 Nd ((x6+((x5.length : Int) - (x6+1))) < 67108864) (
 Nd ((¬ ((x4+1) < (-9223372036854775808)))∧((x4+1) < 9223372036854775808)) (
 Nd (¬ (((((Sx.part ((Sx.part x5 0 x6) ++ (Sx.part x5 (x6+1) ((x5.length : Int) - (x6+1)))) 0 x8).length : Int)+1)+((Sx.part ((Sx.part x5 0 x6) ++ (Sx.part x5 (x6+1) ((x5.length : Int) - (x6+1)))) x8 ((x6+((x5.length : Int) - (x6+1))) - x8)).length : Int)) < ((x6+((x5.length : Int) - (x6+1)))+1))) (
 Nd (caInv [.lst x0, .lst x1] [.int (x4+1), .lst (Sx.part (((Sx.part ((Sx.part x5 0 x6) ++ (Sx.part x5 (x6+1) ((x5.length : Int) - (x6+1)))) 0 x8) ++ (Sx.chunk 1 1 [(.int (Sx.cellAt x1 x4 0).toInt)])) ++ (Sx.part ((Sx.part x5 0 x6) ++ (Sx.part x5 (x6+1) ((x5.length : Int) - (x6+1)))) x8 ((x6+((x5.length : Int) - (x6+1))) - x8))) 0 ((x6+((x5.length : Int) - (x6+1)))+1))]) (
 Nd (caMu [.lst x0, .lst x1] [.int (x4+1), .lst (Sx.part (((Sx.part ((Sx.part x5 0 x6) ++ (Sx.part x5 (x6+1) ((x5.length : Int) - (x6+1)))) 0 x8) ++ (Sx.chunk 1 1 [(.int (Sx.cellAt x1 x4 0).toInt)])) ++ (Sx.part ((Sx.part x5 0 x6) ++ (Sx.part x5 (x6+1) ((x5.length : Int) - (x6+1)))) x8 ((x6+((x5.length : Int) - (x6+1))) - x8))) 0 ((x6+((x5.length : Int) - (x6+1)))+1))] < caMu [.lst x0, .lst x1] [.int x4, .lst x5]) (
 True)))))))))∧(¬ ((Sx.cellAt x1 x4 1).toInt=(Sx.cellAt ((Sx.part x5 0 x6) ++ (Sx.part x5 (x6+1) ((x5.length : Int) - (x6+1)))) x8 0).toInt) →
 Nd ((¬ ((x8+1) < (-9223372036854775808)))∧((x8+1) < 9223372036854775808)) (
 Nd (ixInv [.lst ((Sx.part x5 0 x6) ++ (Sx.part x5 (x6+1) ((x5.length : Int) - (x6+1)))), .int (Sx.cellAt x1 x4 1).toInt] [.int (x8+1)]) (
 Nd (ixMu [.lst ((Sx.part x5 0 x6) ++ (Sx.part x5 (x6+1) ((x5.length : Int) - (x6+1)))), .int (Sx.cellAt x1 x4 1).toInt] [.int (x8+1)] < ixMu [.lst ((Sx.part x5 0 x6) ++ (Sx.part x5 (x6+1) ((x5.length : Int) - (x6+1)))), .int (Sx.cellAt x1 x4 1).toInt] [.int x8]) (
 True)))))))))∧(¬ (x8 < (x6+((x5.length : Int) - (x6+1)))) →
 Nd (¬ ((((Sx.part x5 0 x6).length : Int)+((Sx.part x5 (x6+1) ((x5.length : Int) - (x6+1))).length : Int)) < (x6+((x5.length : Int) - (x6+1))))) (
 Nd (false=true) (
 Nd (¬ ((x6+((x5.length : Int) - (x6+1))) < (-1))) (
 Nd ((x6+((x5.length : Int) - (x6+1))) < 67108864) (
 Nd ((¬ ((x4+1) < (-9223372036854775808)))∧((x4+1) < 9223372036854775808)) (
 Nd (¬ (((((Sx.part ((Sx.part x5 0 x6) ++ (Sx.part x5 (x6+1) ((x5.length : Int) - (x6+1)))) 0 (-1)).length : Int)+1)+((Sx.part ((Sx.part x5 0 x6) ++ (Sx.part x5 (x6+1) ((x5.length : Int) - (x6+1)))) (-1) ((x6+((x5.length : Int) - (x6+1)))+1)).length : Int)) < ((x6+((x5.length : Int) - (x6+1)))+1))) (
 Nd (caInv [.lst x0, .lst x1] [.int (x4+1), .lst (Sx.part (((Sx.part ((Sx.part x5 0 x6) ++ (Sx.part x5 (x6+1) ((x5.length : Int) - (x6+1)))) 0 (-1)) ++ (Sx.chunk 1 1 [(.int (Sx.cellAt x1 x4 0).toInt)])) ++ (Sx.part ((Sx.part x5 0 x6) ++ (Sx.part x5 (x6+1) ((x5.length : Int) - (x6+1)))) (-1) ((x6+((x5.length : Int) - (x6+1)))+1))) 0 ((x6+((x5.length : Int) - (x6+1)))+1))]) (
 Nd (caMu [.lst x0, .lst x1] [.int (x4+1), .lst (Sx.part (((Sx.part ((Sx.part x5 0 x6) ++ (Sx.part x5 (x6+1) ((x5.length : Int) - (x6+1)))) 0 (-1)) ++ (Sx.chunk 1 1 [(.int (Sx.cellAt x1 x4 0).toInt)])) ++ (Sx.part ((Sx.part x5 0 x6) ++ (Sx.part x5 (x6+1) ((x5.length : Int) - (x6+1)))) (-1) ((x6+((x5.length : Int) - (x6+1)))+1))) 0 ((x6+((x5.length : Int) - (x6+1)))+1))] < caMu [.lst x0, .lst x1] [.int x4, .lst x5]) (
 True))))))))))))))))))))))))))∧(¬ ((Sx.cellAt x1 x4 1).toInt=(Sx.cellAt x5 x7 0).toInt) →
(vcCarry0 x1 x4 x5 x7)))))))∧(¬ (x7 < (x5.length : Int)) →
 Nd (¬ ((Sx.cellAt x1 x4 1).toInt=(-1))) (
 Nd (¬ (x6 < 0)) (
 Nd (¬ ((Sx.cellAt x1 x4 1).toInt=(-1))) (
 Nd (¬ (x6 < 0)) (
 Nd (carryRel [.lst x0, .lst x1] [.lst ([] : Sx.Rows), .int 11]) (
 True)))))))))))))))))))∧(¬ ((Sx.cellAt x1 x4 0).toInt=(Sx.cellAt x5 x6 0).toInt) →
(vcCarry1 x1 x4 x5 x6)))))))∧(¬ (x6 < (x5.length : Int)) →
 Nd (carryRel [.lst x0, .lst x1] [.lst ([] : Sx.Rows), .int 11]) (
 True)))))))∧(¬ (x4 < (x1.length : Int)) →
(vcCarry3 x0 x1 x5)))))))∧(¬ (0 < (x0.length : Int)) →
 Nd (¬ (((Sx.over (Sx.chunk 1 0 []) 0 x0).length : Int) < (x0.length : Int))) (
 Nd (caInv [.lst x0, .lst x1] [.int 0, .lst (Sx.part (Sx.over (Sx.chunk 1 0 []) 0 x0) 0 (x0.length : Int))]) (
 ∀ x4 : Int,
 ∀ x5 : Sx.Rows,
(caInv [.lst x0, .lst x1] [.int x4, .lst x5]) →
(((x4 < (x1.length : Int)) →
(vcCarry2 x0 x1 x4 x5))∧(¬ (x4 < (x1.length : Int)) →
 Nd (¬ ((x5.length : Int) < 0)) (
 Nd (¬ ((x5.length : Int) < (x5.length : Int))) (
 Nd (¬ (0 < (x5.length : Int))) (
 Nd ((x5.length : Int)=(x5.length : Int)) (
 Nd (¬ ((x5.length : Int) < (x5.length : Int))) (
 Nd ((x5.length : Int)=(x5.length : Int)) (
 Nd (carryRel [.lst x0, .lst x1] [.lst x5, .int 0]) (
 True)))))))))))))))))))∧(¬ (x2=0) →
 Nd (carryRel [.lst x0, .lst x1] [.lst ([] : Sx.Rows), .int x2]) (
 True))))
theorem vcCarry_eq : (cvc Go.Proofs.Try.prog U0 cCarry (sxF Go.Proofs.Try.prog U0 annsC (conX Go.Proofs.Try.prog U0 (stageC 0) (primsC Go.Proofs.Try.prog)) 400 19)).vc U0 (fun _=>True)=vcCarry:=by kernel_rfl
def vcRcarry : Prop :=
 ∀ x0 : Sx.Rows,
 ∀ x1 : Int,
 ∀ x2 : Int,
(rcarryPre [.lst x0, .int x1, .int x2]) →
 Nd (ratPre [.lst x0, .int x1]) (
 ∀ x3 : Int,
(ratRel [.lst x0, .int x1] [.int x3]) →
(((x3 < 0) →
 Nd (x3 < 0) (
 Nd (x3 < 0) (
 Nd (x3 < 0) (
 Nd (x3 < 0) (
 Nd (x3 < 0) (
 Nd (rcarryRel [.lst x0, .int x1, .int x2] [.lst ([] : Sx.Rows), .int 11]) (
 True)))))))∧(¬ (x3 < 0) →
 Nd (¬ (x3 < 0)) (
 Nd (¬ (x3 < 0)) (
 Nd (¬ (x3 < 0)) (
(((x2=(-1)) →
 Nd (x2=(-1)) (
 Nd (x2=(-1)) (
 Nd (x2=(-1)) (
 Nd (x2=(-1)) (
 Nd (¬ (x3 < 0)) (
 Nd (x2=(-1)) (
 Nd (¬ (x3 < 0)) (
(((x1=x2) →
 Nd (rcarryRel [.lst x0, .int x1, .int x2] [.lst ([] : Sx.Rows), .int 1]) (
 True))∧(¬ (x1=x2) →
 Nd (rcInv [.lst x0, .int x1, .int x2] [.int 0, .lst ([] : Sx.Rows)]) (
 ∀ x4 : Int,
 ∀ x5 : Sx.Rows,
(rcInv [.lst x0, .int x1, .int x2] [.int x4, .lst x5]) →
(((x4 < (x0.length : Int)) →
 Nd (¬ (x4 < 0)) (
 Nd (x4 < (x0.length : Int)) (
((((Sx.cellAt x0 x4 0).toInt=x2) →
 Nd (¬ ((x5.length : Int) < (x5.length : Int))) (
 Nd (((x5.length : Int)+1) < 67108865) (
 Nd ((x5.length : Int)=(x5.length : Int)) (
 Nd (¬ (x4 < 0)) (
 Nd (x4 < (x0.length : Int)) (
((((Sx.cellAt x0 x4 0).toInt=x1) →
 Nd ((¬ ((x4+1) < (-9223372036854775808)))∧((x4+1) < 9223372036854775808)) (
 Nd (¬ (((x5.length : Int)+1) < ((x5.length : Int)+1))) (
 Nd (((x5.length : Int)+1)=((x5.length : Int)+1)) (
 Nd (rcInv [.lst x0, .int x1, .int x2] [.int (x4+1), .lst (x5 ++ (Sx.chunk 1 1 [(.int x1)]))]) (
 Nd (rcMu [.lst x0, .int x1, .int x2] [.int (x4+1), .lst (x5 ++ (Sx.chunk 1 1 [(.int x1)]))] < rcMu [.lst x0, .int x1, .int x2] [.int x4, .lst x5]) (
 True))))))∧(¬ ((Sx.cellAt x0 x4 0).toInt=x1) →
 Nd (¬ (x4 < 0)) (
 Nd (x4 < (x0.length : Int)) (
 Nd (¬ (((x5.length : Int)+1) < ((x5.length : Int)+1))) (
 Nd (((x5.length : Int)+2) < 67108865) (
 Nd (((x5.length : Int)+1)=((x5.length : Int)+1)) (
 Nd ((¬ ((x4+1) < (-9223372036854775808)))∧((x4+1) < 9223372036854775808)) (
 Nd (¬ (((x5.length : Int)+2) < ((x5.length : Int)+2))) (
 Nd (((x5.length : Int)+2)=((x5.length : Int)+2)) (
 Nd (rcInv [.lst x0, .int x1, .int x2] [.int (x4+1), .lst ((x5 ++ (Sx.chunk 1 1 [(.int x1)])) ++ (Sx.chunk 1 1 [(.int (Sx.cellAt x0 x4 0).toInt)]))]) (
 Nd (rcMu [.lst x0, .int x1, .int x2] [.int (x4+1), .lst ((x5 ++ (Sx.chunk 1 1 [(.int x1)])) ++ (Sx.chunk 1 1 [(.int (Sx.cellAt x0 x4 0).toInt)]))] < rcMu [.lst x0, .int x1, .int x2] [.int x4, .lst x5]) (
 True))))))))))))))))))∧(¬ ((Sx.cellAt x0 x4 0).toInt=x2) →
 Nd (¬ (x4 < 0)) (
 Nd (x4 < (x0.length : Int)) (
((((Sx.cellAt x0 x4 0).toInt=x1) →
 Nd ((¬ ((x4+1) < (-9223372036854775808)))∧((x4+1) < 9223372036854775808)) (
 Nd (¬ ((x5.length : Int) < (x5.length : Int))) (
 Nd ((x5.length : Int)=(x5.length : Int)) (
 Nd (rcInv [.lst x0, .int x1, .int x2] [.int (x4+1), .lst x5]) (
 Nd (rcMu [.lst x0, .int x1, .int x2] [.int (x4+1), .lst x5] < rcMu [.lst x0, .int x1, .int x2] [.int x4, .lst x5]) (
 True))))))∧(¬ ((Sx.cellAt x0 x4 0).toInt=x1) →
 Nd (¬ (x4 < 0)) (
 Nd (x4 < (x0.length : Int)) (
 Nd (¬ ((x5.length : Int) < (x5.length : Int))) (
 Nd (((x5.length : Int)+1) < 67108865) (
 Nd ((x5.length : Int)=(x5.length : Int)) (
 Nd ((¬ ((x4+1) < (-9223372036854775808)))∧((x4+1) < 9223372036854775808)) (
 Nd (¬ (((x5.length : Int)+1) < ((x5.length : Int)+1))) (
 Nd (((x5.length : Int)+1)=((x5.length : Int)+1)) (
 Nd (rcInv [.lst x0, .int x1, .int x2] [.int (x4+1), .lst (x5 ++ (Sx.chunk 1 1 [(.int (Sx.cellAt x0 x4 0).toInt)]))]) (
 Nd (rcMu [.lst x0, .int x1, .int x2] [.int (x4+1), .lst (x5 ++ (Sx.chunk 1 1 [(.int (Sx.cellAt x0 x4 0).toInt)]))] < rcMu [.lst x0, .int x1, .int x2] [.int x4, .lst x5]) (
 True)))))))))))))))))))∧(¬ (x4 < (x0.length : Int)) →
 Nd (x2=(-1)) (
 Nd (¬ ((x5.length : Int) < (x5.length : Int))) (
 Nd (((x5.length : Int)+1) < 67108865) (
 Nd ((x5.length : Int)=(x5.length : Int)) (
 Nd (¬ (((x5.length : Int)+1) < ((x5.length : Int)+1))) (
 Nd (((x5.length : Int)+1)=((x5.length : Int)+1)) (
 Nd (rcarryRel [.lst x0, .int x1, .int x2] [.lst (x5 ++ (Sx.chunk 1 1 [(.int x1)])), .int 0]) (
 True))))))))))))))))))))∧(¬ (x2=(-1)) →
 Nd (¬ (x2=(-1))) (
 Nd (¬ (x2=(-1))) (
 Nd (¬ (x2=(-1))) (
 Nd (ratPre [.lst x0, .int x2]) (
 ∀ x4 : Int,
(ratRel [.lst x0, .int x2] [.int x4]) →
 Nd (¬ (x2=(-1))) (
 Nd (¬ (x3 < 0)) (
 Nd (¬ (x2=(-1))) (
 Nd (¬ (x3 < 0)) (
(((x4 < 0) →
 Nd (rcarryRel [.lst x0, .int x1, .int x2] [.lst ([] : Sx.Rows), .int 11]) (
 True))∧(¬ (x4 < 0) →
(((x1=x2) →
 Nd (rcarryRel [.lst x0, .int x1, .int x2] [.lst ([] : Sx.Rows), .int 1]) (
 True))∧(¬ (x1=x2) →
 Nd (rcInv [.lst x0, .int x1, .int x2] [.int 0, .lst ([] : Sx.Rows)]) (
 ∀ x5 : Int,
 ∀ x6 : Sx.Rows,
(rcInv [.lst x0, .int x1, .int x2] [.int x5, .lst x6]) →
(((x5 < (x0.length : Int)) →
 Nd (¬ (x5 < 0)) (
 Nd (x5 < (x0.length : Int)) (
((((Sx.cellAt x0 x5 0).toInt=x2) →
 Nd (¬ ((x6.length : Int) < (x6.length : Int))) (
 Nd (((x6.length : Int)+1) < 67108865) (
 Nd ((x6.length : Int)=(x6.length : Int)) (
 Nd (¬ (x5 < 0)) (
 Nd (x5 < (x0.length : Int)) (
((((Sx.cellAt x0 x5 0).toInt=x1) →
 Nd ((¬ ((x5+1) < (-9223372036854775808)))∧((x5+1) < 9223372036854775808)) (
 Nd (¬ (((x6.length : Int)+1) < ((x6.length : Int)+1))) (
 Nd (((x6.length : Int)+1)=((x6.length : Int)+1)) (
 Nd (rcInv [.lst x0, .int x1, .int x2] [.int (x5+1), .lst (x6 ++ (Sx.chunk 1 1 [(.int x1)]))]) (
 Nd (rcMu [.lst x0, .int x1, .int x2] [.int (x5+1), .lst (x6 ++ (Sx.chunk 1 1 [(.int x1)]))] < rcMu [.lst x0, .int x1, .int x2] [.int x5, .lst x6]) (
 True))))))∧(¬ ((Sx.cellAt x0 x5 0).toInt=x1) →
 Nd (¬ (x5 < 0)) (
 Nd (x5 < (x0.length : Int)) (
 Nd (¬ (((x6.length : Int)+1) < ((x6.length : Int)+1))) (
 Nd (((x6.length : Int)+2) < 67108865) (
 Nd (((x6.length : Int)+1)=((x6.length : Int)+1)) (
 Nd ((¬ ((x5+1) < (-9223372036854775808)))∧((x5+1) < 9223372036854775808)) (
 Nd (¬ (((x6.length : Int)+2) < ((x6.length : Int)+2))) (
 Nd (((x6.length : Int)+2)=((x6.length : Int)+2)) (
 Nd (rcInv [.lst x0, .int x1, .int x2] [.int (x5+1), .lst ((x6 ++ (Sx.chunk 1 1 [(.int x1)])) ++ (Sx.chunk 1 1 [(.int (Sx.cellAt x0 x5 0).toInt)]))]) (
 Nd (rcMu [.lst x0, .int x1, .int x2] [.int (x5+1), .lst ((x6 ++ (Sx.chunk 1 1 [(.int x1)])) ++ (Sx.chunk 1 1 [(.int (Sx.cellAt x0 x5 0).toInt)]))] < rcMu [.lst x0, .int x1, .int x2] [.int x5, .lst x6]) (
 True))))))))))))))))))∧(¬ ((Sx.cellAt x0 x5 0).toInt=x2) →
 Nd (¬ (x5 < 0)) (
 Nd (x5 < (x0.length : Int)) (
((((Sx.cellAt x0 x5 0).toInt=x1) →
 Nd ((¬ ((x5+1) < (-9223372036854775808)))∧((x5+1) < 9223372036854775808)) (
 Nd (¬ ((x6.length : Int) < (x6.length : Int))) (
 Nd ((x6.length : Int)=(x6.length : Int)) (
 Nd (rcInv [.lst x0, .int x1, .int x2] [.int (x5+1), .lst x6]) (
 Nd (rcMu [.lst x0, .int x1, .int x2] [.int (x5+1), .lst x6] < rcMu [.lst x0, .int x1, .int x2] [.int x5, .lst x6]) (
 True))))))∧(¬ ((Sx.cellAt x0 x5 0).toInt=x1) →
 Nd (¬ (x5 < 0)) (
 Nd (x5 < (x0.length : Int)) (
 Nd (¬ ((x6.length : Int) < (x6.length : Int))) (
 Nd (((x6.length : Int)+1) < 67108865) (
 Nd ((x6.length : Int)=(x6.length : Int)) (
 Nd ((¬ ((x5+1) < (-9223372036854775808)))∧((x5+1) < 9223372036854775808)) (
 Nd (¬ (((x6.length : Int)+1) < ((x6.length : Int)+1))) (
 Nd (((x6.length : Int)+1)=((x6.length : Int)+1)) (
 Nd (rcInv [.lst x0, .int x1, .int x2] [.int (x5+1), .lst (x6 ++ (Sx.chunk 1 1 [(.int (Sx.cellAt x0 x5 0).toInt)]))]) (
 Nd (rcMu [.lst x0, .int x1, .int x2] [.int (x5+1), .lst (x6 ++ (Sx.chunk 1 1 [(.int (Sx.cellAt x0 x5 0).toInt)]))] < rcMu [.lst x0, .int x1, .int x2] [.int x5, .lst x6]) (
 True)))))))))))))))))))∧(¬ (x5 < (x0.length : Int)) →
 Nd (¬ (x2=(-1))) (
 Nd (¬ ((x6.length : Int) < (x6.length : Int))) (
 Nd ((x6.length : Int)=(x6.length : Int)) (
 Nd (rcarryRel [.lst x0, .int x1, .int x2] [.lst x6, .int 0]) (
 True)))))))))))))))))))))))))))
theorem vcRcarry_eq : (cvc Go.Proofs.Try.prog U0 cRcarry (sxF Go.Proofs.Try.prog U0 annsC (conX Go.Proofs.Try.prog U0 (stageC 1) (primsC Go.Proofs.Try.prog)) 400 20)).vc U0 (fun _=>True)=vcRcarry:=by kernel_rfl
def vcRmv : Prop :=
 ∀ x0 : Int,
 ∀ x1 : Int,
 ∀ x2 : Sx.Rows,
 ∀ x3 : Sx.Rows,
(rmvPre [.int x0, .int x1, .lst x2, .lst x3]) →
 Nd (pofPre [.int x0, .int x1, .lst x2, .lst x3]) (
 ∀ x4 : Sx.Rows,
 ∀ x5 : Sx.Rows,
(pofRel [.int x0, .int x1, .lst x2, .lst x3] [.lst x4, .lst x5]) →
 Nd (keptPre [.lst x4, .lst x5]) (
 ∀ x6 : Sx.Rows,
 ∀ x7 : Int,
(keptRel [.lst x4, .lst x5] [.lst x6, .int x7]) →
 Nd (movesPre [.lst x4, .lst x5]) (
 ∀ x8 : Sx.Rows,
 ∀ x9 : Int,
(movesRel [.lst x4, .lst x5] [.lst x8, .int x9]) →
 Nd (rkeptPre [.lst x4, .lst x5]) (
 ∀ x10 : Sx.Rows,
(rkeptRel [.lst x4, .lst x5] [.lst x10]) →
 Nd (¬ ((x10.length : Int) < (x10.length : Int))) (
 Nd ((x10.length : Int)=(x10.length : Int)) (
 Nd (samePre [.lst x6, .int x7, .lst x10, .int 0]) (
 ∀ x11 : Bool,
(sameRel [.lst x6, .int x7, .lst x10, .int 0] [.bool x11]) →
(((x11=true) →
 Nd (x11=true) (
 Nd (x11=true) (
 Nd (x11=true) (
 Nd (x11=true) (
 Nd (rmovesPre [.lst x4, .lst x5]) (
 ∀ x12 : Sx.Rows,
(rmovesRel [.lst x4, .lst x5] [.lst x12]) →
 Nd (x11=true) (
 Nd (¬ ((x12.length : Int) < (x12.length : Int))) (
 Nd ((x12.length : Int)=(x12.length : Int)) (
 Nd (stepsPre [.lst x8, .int x9, .lst x12, .int 0]) (
 ∀ x13 : Bool,
(stepsRel [.lst x8, .int x9, .lst x12, .int 0] [.bool x13]) →
 Nd (x11=true) (
 Nd (x11=true) (
(((x13=true) →
 Nd (x13=true) (
 Nd (x13=true) (
 Nd (x13=true) (
 Nd (x13=true) (
 Nd ((¬ (((x6.length : Int)+(x8.length : Int)) < (-9223372036854775808)))∧(((x6.length : Int)+(x8.length : Int)) < 9223372036854775808)) (
 Nd (x13=true) (
 Nd (x13=true) (
 Nd (x13=true) (
 Nd (x13=true) (
(((((x6.length : Int)+(x8.length : Int))=(x4.length : Int)) →
 Nd (carryPre [.lst x4, .lst x8]) (
 ∀ x14 : Sx.Rows,
 ∀ x15 : Int,
(carryRel [.lst x4, .lst x8] [.lst x14, .int x15]) →
 Nd (movesPre [.lst x5, .lst x5]) (
 ∀ x16 : Sx.Rows,
 ∀ x17 : Int,
(movesRel [.lst x5, .lst x5] [.lst x16, .int x17]) →
 Nd (samePre [.lst x14, .int x15, .lst x5, .int 0]) (
 ∀ x18 : Bool,
(sameRel [.lst x14, .int x15, .lst x5, .int 0] [.bool x18]) →
(((x18=true) →
 Nd (x18=true) (
 Nd (x18=true) (
 Nd (stepsPre [.lst x16, .int x17, .lst ([] : Sx.Rows), .int 0]) (
 ∀ x19 : Bool,
(stepsRel [.lst x16, .int x17, .lst ([] : Sx.Rows), .int 0] [.bool x19]) →
 Nd (x18=true) (
(((x19=true) →
 Nd (livesPre []) (
 ∀ x20 : Bool,
(livesRel [] [.bool x20]) →
 Nd (x19=true) (
 Nd (rmvRel [.int x0, .int x1, .lst x2, .lst x3] [.bool x20]) (
 True))))∧(¬ (x19=true) →
 Nd (¬ (x19=true)) (
 Nd (rmvRel [.int x0, .int x1, .lst x2, .lst x3] [.bool false]) (
 True)))))))))∧(¬ (x18=true) →
 Nd (¬ (x18=true)) (
 Nd (¬ (x18=true)) (
 Nd (¬ (x18=true)) (
 Nd (rmvRel [.int x0, .int x1, .lst x2, .lst x3] [.bool false]) (
 True))))))))))∧(¬ (((x6.length : Int)+(x8.length : Int))=(x4.length : Int)) →
 Nd (rmvRel [.int x0, .int x1, .lst x2, .lst x3] [.bool false]) (
 True)))))))))))))∧(¬ (x13=true) →
 Nd (¬ (x13=true)) (
 Nd (¬ (x13=true)) (
 Nd (¬ (x13=true)) (
 Nd (¬ (x13=true)) (
 Nd (¬ (x13=true)) (
 Nd (¬ (x13=true)) (
 Nd (¬ (x13=true)) (
 Nd (¬ (x13=true)) (
 Nd (rmvRel [.int x0, .int x1, .lst x2, .lst x3] [.bool false]) (
 True)))))))))))))))))))))))∧(¬ (x11=true) →
 Nd (¬ (x11=true)) (
 Nd (¬ (x11=true)) (
 Nd (¬ (x11=true)) (
 Nd (¬ (x11=true)) (
 Nd (¬ (x11=true)) (
 Nd (¬ (x11=true)) (
 Nd (¬ (x11=true)) (
 Nd (rmvRel [.int x0, .int x1, .lst x2, .lst x3] [.bool false]) (
 True)))))))))))))))))
theorem vcRmv_eq : (cvc Go.Proofs.Try.prog U0 cRmv (sxF Go.Proofs.Try.prog U0 annsC (conX Go.Proofs.Try.prog U0 (stageC 2) (primsC Go.Proofs.Try.prog)) 400 5)).vc U0 (fun _=>True)=vcRmv:=by kernel_rfl
def vcRfe0 (x0 : Int) (x1 : Int) (x2 : Sx.Rows) (x3 : Sx.Rows) (x4 : Sx.Rows) (x8 : Int) (x10 : Sx.Rows) (x11 : Int) : Prop :=
 ∀ x12 : Bool,
(sameRel [.lst x10, .int x11, .lst ([] : Sx.Rows), .int x8] [.bool x12]) →
(((x12=true) →
 Nd (livesPre []) (
 ∀ x13 : Bool,
(livesRel [] [.bool x13]) →
 Nd (x12=true) (
 Nd (rfeRel [.int x0, .int x1, .lst x2, .lst x3, .lst x4] [.bool x13]) (
 True))))∧(¬ (x12=true) →
 Nd (¬ (x12=true)) (
 Nd (rfeRel [.int x0, .int x1, .lst x2, .lst x3, .lst x4] [.bool false]) (
 True))))
def vcRfe : Prop :=
 ∀ x0 : Int,
 ∀ x1 : Int,
 ∀ x2 : Sx.Rows,
 ∀ x3 : Sx.Rows,
 ∀ x4 : Sx.Rows,
(rfePre [.int x0, .int x1, .lst x2, .lst x3, .lst x4]) →
(((20 < (x4.length : Int)) →
 Nd (livesPre []) (
 ∀ x5 : Bool,
(livesRel [] [.bool x5]) →
 Nd (rfeRel [.int x0, .int x1, .lst x2, .lst x3, .lst x4] [.bool x5]) (
 True)))∧(¬ (20 < (x4.length : Int)) →
 Nd (pofPre [.int x0, .int x1, .lst x2, .lst x3]) (
 ∀ x5 : Sx.Rows,
 ∀ x6 : Sx.Rows,
(pofRel [.int x0, .int x1, .lst x2, .lst x3] [.lst x5, .lst x6]) →
 Nd (rfInv [.lst x5, .lst x4] [.int 0, .int 0, .lst x5]) (
 ∀ x7 : Int,
 ∀ x8 : Int,
 ∀ x9 : Sx.Rows,
(rfInv [.lst x5, .lst x4] [.int x7, .int x8, .lst x9]) →
(((x7 < (x4.length : Int)) →
 Nd (x7 < (x4.length : Int)) (
 Nd (x7 < (x4.length : Int)) (
(((x8=0) →
 Nd (¬ (x7 < 0)) (
 Nd (x7 < (x4.length : Int)) (
 Nd (¬ (x7 < 0)) (
 Nd (x7 < (x4.length : Int)) (
 Nd (rcarryPre [.lst x9, .int (Sx.cellAt x4 x7 0).toInt, .int (Sx.cellAt x4 x7 1).toInt]) (
 ∀ x10 : Sx.Rows,
 ∀ x11 : Int,
(rcarryRel [.lst x9, .int (Sx.cellAt x4 x7 0).toInt, .int (Sx.cellAt x4 x7 1).toInt] [.lst x10, .int x11]) →
 Nd ((¬ ((x7+1) < (-9223372036854775808)))∧((x7+1) < 9223372036854775808)) (
 Nd (¬ ((x10.length : Int) < (x10.length : Int))) (
 Nd ((x10.length : Int)=(x10.length : Int)) (
 Nd (rfInv [.lst x5, .lst x4] [.int (x7+1), .int x11, .lst x10]) (
 Nd (rfMu [.lst x5, .lst x4] [.int (x7+1), .int x11, .lst x10] < rfMu [.lst x5, .lst x4] [.int x7, .int x8, .lst x9]) (
 True)))))))))))∧(¬ (x8=0) →
 Nd (carryPre [.lst x5, .lst x4]) (
 ∀ x10 : Sx.Rows,
 ∀ x11 : Int,
(carryRel [.lst x5, .lst x4] [.lst x10, .int x11]) →
 Nd (¬ (x8=0)) (
 Nd (samePre [.lst x10, .int x11, .lst ([] : Sx.Rows), .int x8]) (
(vcRfe0 x0 x1 x2 x3 x4 x8 x10 x11)))))))))∧(¬ (x7 < (x4.length : Int)) →
 Nd (¬ (x7 < (x4.length : Int))) (
 Nd (¬ (x7 < (x4.length : Int))) (
 Nd (carryPre [.lst x5, .lst x4]) (
 ∀ x10 : Sx.Rows,
 ∀ x11 : Int,
(carryRel [.lst x5, .lst x4] [.lst x10, .int x11]) →
(((x8=0) →
 Nd (movesPre [.lst x5, .lst x9]) (
 ∀ x12 : Sx.Rows,
 ∀ x13 : Int,
(movesRel [.lst x5, .lst x9] [.lst x12, .int x13]) →
 Nd (samePre [.lst x10, .int x11, .lst x9, .int 0]) (
 ∀ x14 : Bool,
(sameRel [.lst x10, .int x11, .lst x9, .int 0] [.bool x14]) →
(((x14=true) →
 Nd (x14=true) (
 Nd (x14=true) (
(((x13=0) →
 Nd (x13=0) (
 Nd (x13=0) (
 Nd (x13=0) (
 Nd (x13=0) (
 Nd (x13=0) (
((((x4.length : Int) < (x12.length : Int)) →
 Nd ((x4.length : Int) < (x12.length : Int)) (
 Nd (rfeRel [.int x0, .int x1, .lst x2, .lst x3, .lst x4] [.bool false]) (
 True)))∧(¬ ((x4.length : Int) < (x12.length : Int)) →
 Nd (livesPre []) (
 ∀ x15 : Bool,
(livesRel [] [.bool x15]) →
 Nd (¬ ((x4.length : Int) < (x12.length : Int))) (
 Nd (rfeRel [.int x0, .int x1, .lst x2, .lst x3, .lst x4] [.bool x15]) (
 True)))))))))))∧(¬ (x13=0) →
 Nd (¬ (x13=0)) (
 Nd (¬ (x13=0)) (
 Nd (¬ (x13=0)) (
 Nd (¬ (x13=0)) (
 Nd (¬ (x13=0)) (
 Nd (rfeRel [.int x0, .int x1, .lst x2, .lst x3, .lst x4] [.bool false]) (
 True)))))))))))∧(¬ (x14=true) →
 Nd (¬ (x14=true)) (
 Nd (¬ (x14=true)) (
 Nd (rfeRel [.int x0, .int x1, .lst x2, .lst x3, .lst x4] [.bool false]) (
 True))))))))∧(¬ (x8=0) →
 Nd (samePre [.lst x10, .int x11, .lst ([] : Sx.Rows), .int x8]) (
(vcRfe0 x0 x1 x2 x3 x4 x8 x10 x11)))))))))))))
theorem vcRfe_eq : (cvc Go.Proofs.Try.prog U0 cRfe (sxF Go.Proofs.Try.prog U0 annsC (conX Go.Proofs.Try.prog U0 (stageC 3) (primsC Go.Proofs.Try.prog)) 400 6)).vc U0 (fun _=>True)=vcRfe:=by kernel_rfl
end Go.C08
