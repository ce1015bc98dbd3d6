/- The conditions of contracts, as the engine's printer has written them, and that the kernel comes to the same.
  Conditions: none. -/
import Derived.Test.YtmdkgpkboidhfaaA29
import Derived.Test.YtmdkgpkboidhfaaRows
import Derived.KernelRfl
set_option linter.unusedVariables false
set_option maxRecDepth 100000
namespace Go.C08
open Go Go.Xe Go.Sx
def vcCarry0 (x1 : Sx.Rows) (x4 : Int) (x5 : Sx.Rows) (x7 : Int) : Prop :=
 Nd ((¬ ((x7+1) < (-9223372036854775808)))∧((x7+1) < 9223372036854775808)) (
 Nd (ixInv [.lst x5, .int (Sx.cellAt x1 x4 1).toInt] [.int (x7+1)]) (
 Nd (ixMu [.lst x5, .int (Sx.cellAt x1 x4 1).toInt] [.int (x7+1)] < ixMu [.lst x5, .int (Sx.cellAt x1 x4 1).toInt] [.int x7]) (
 True)))
def vcCarry1 (x1 : Sx.Rows) (x4 : Int) (x5 : Sx.Rows) (x6 : Int) : Prop :=
 Nd ((¬ ((x6+1) < (-9223372036854775808)))∧((x6+1) < 9223372036854775808)) (
 Nd (ixInv [.lst x5, .int (Sx.cellAt x1 x4 0).toInt] [.int (x6+1)]) (
 Nd (ixMu [.lst x5, .int (Sx.cellAt x1 x4 0).toInt] [.int (x6+1)] < ixMu [.lst x5, .int (Sx.cellAt x1 x4 0).toInt] [.int x6]) (
 True)))
def vcCarry2 (x0 : Sx.Rows) (x1 : Sx.Rows) (x4 : Int) (x5 : Sx.Rows) : Prop :=
 Nd (¬ (x4 < 0)) (
 Nd (x4 < (x1.length : Int)) (
 Nd (ixInv [.lst x5, .int (Sx.cellAt x1 x4 0).toInt] [.int 0]) (
 ∀ x6 : Int,
(ixInv [.lst x5, .int (Sx.cellAt x1 x4 0).toInt] [.int x6]) →
(((x6 < (x5.length : Int)) →
 Nd (¬ (x6 < 0)) (
 Nd (x6 < (x5.length : Int)) (
 Nd (x6 < (x5.length : Int)) (
((((Sx.cellAt x1 x4 0).toInt=(Sx.cellAt x5 x6 0).toInt) →
(((x6 < 0) →
 Nd (x6 < 0) (
 Nd (x6 < 0) (
 Nd (x6 < 0) (
 Nd (x6 < 0) (
 Nd (x6 < 0) (
 Nd (carryRel [.lst x0, .lst x1] [.lst ([] : Sx.Rows), .int 11]) (
 True)))))))∧(¬ (x6 < 0) →
 Nd (¬ (x6 < 0)) (
 Nd (¬ (x6 < 0)) (
 Nd (¬ (x6 < 0)) (
((((Sx.cellAt x1 x4 1).toInt=(-1)) →
 Nd ((Sx.cellAt x1 x4 1).toInt=(-1)) (
 Nd ((Sx.cellAt x1 x4 1).toInt=(-1)) (
 Nd ((Sx.cellAt x1 x4 1).toInt=(-1)) (
 Nd ((Sx.cellAt x1 x4 1).toInt=(-1)) (
 Nd (¬ (x6 < 0)) (
 Nd ((Sx.cellAt x1 x4 1).toInt=(-1)) (
 Nd (¬ (x6 < 0)) (
((((Sx.cellAt x1 x4 0).toInt=(Sx.cellAt x1 x4 1).toInt) →
 Nd (carryRel [.lst x0, .lst x1] [.lst ([] : Sx.Rows), .int 1]) (
 True))∧(¬ ((Sx.cellAt x1 x4 0).toInt=(Sx.cellAt x1 x4 1).toInt) →
 Nd ((¬ ((x6+1) < (-9223372036854775808)))∧((x6+1) < 9223372036854775808)) (
 False )))))))))))∧(¬ ((Sx.cellAt x1 x4 1).toInt=(-1)) →
 Nd (¬ ((Sx.cellAt x1 x4 1).toInt=(-1))) (
 Nd (¬ ((Sx.cellAt x1 x4 1).toInt=(-1))) (
 Nd (¬ ((Sx.cellAt x1 x4 1).toInt=(-1))) (
 Nd (ixInv [.lst x5, .int (Sx.cellAt x1 x4 1).toInt] [.int 0]) (
 ∀ x7 : Int,
(ixInv [.lst x5, .int (Sx.cellAt x1 x4 1).toInt] [.int x7]) →
(((x7 < (x5.length : Int)) →
 Nd (¬ (x7 < 0)) (
 Nd (x7 < (x5.length : Int)) (
 Nd (x7 < (x5.length : Int)) (
((((Sx.cellAt x1 x4 1).toInt=(Sx.cellAt x5 x7 0).toInt) →
 Nd (¬ ((Sx.cellAt x1 x4 1).toInt=(-1))) (
 Nd (¬ (x6 < 0)) (
 Nd (¬ ((Sx.cellAt x1 x4 1).toInt=(-1))) (
 Nd (¬ (x6 < 0)) (
(((x7 < 0) →
 Nd (carryRel [.lst x0, .lst x1] [.lst ([] : Sx.Rows), .int 11]) (
 True))∧(¬ (x7 < 0) →
((((Sx.cellAt x1 x4 0).toInt=(Sx.cellAt x1 x4 1).toInt) →
 Nd (carryRel [.lst x0, .lst x1] [.lst ([] : Sx.Rows), .int 1]) (
 True))∧(¬ ((Sx.cellAt x1 x4 0).toInt=(Sx.cellAt x1 x4 1).toInt) →
 Nd ((¬ ((x6+1) < (-9223372036854775808)))∧((x6+1) < 9223372036854775808)) (
 False ))))))))))∧(¬ ((Sx.cellAt x1 x4 1).toInt=(Sx.cellAt x5 x7 0).toInt) →
(vcCarry0 x1 x4 x5 x7)))))))∧(¬ (x7 < (x5.length : Int)) →
 Nd (¬ ((Sx.cellAt x1 x4 1).toInt=(-1))) (
 Nd (¬ (x6 < 0)) (
 Nd (¬ ((Sx.cellAt x1 x4 1).toInt=(-1))) (
 Nd (¬ (x6 < 0)) (
 Nd (carryRel [.lst x0, .lst x1] [.lst ([] : Sx.Rows), .int 11]) (
 True)))))))))))))))))))∧(¬ ((Sx.cellAt x1 x4 0).toInt=(Sx.cellAt x5 x6 0).toInt) →
(vcCarry1 x1 x4 x5 x6)))))))∧(¬ (x6 < (x5.length : Int)) →
 Nd (carryRel [.lst x0, .lst x1] [.lst ([] : Sx.Rows), .int 11]) (
 True))))))
def vcCarry3 (x0 : Sx.Rows) (x1 : Sx.Rows) (x5 : Sx.Rows) : Prop :=
 Nd (¬ ((x5.length : Int) < 0)) (
 Nd (¬ ((x5.length : Int) < (x5.length : Int))) (
 Nd (¬ ((x5.length : Int) < (x5.length : Int))) (
 Nd ((x5.length : Int)=(x5.length : Int)) (
 Nd (¬ ((x5.length : Int) < (x5.length : Int))) (
 Nd ((x5.length : Int)=(x5.length : Int)) (
 Nd (carryRel [.lst x0, .lst x1] [.lst x5, .int 0]) (
 True)))))))
def vcCarry : Prop :=
 ∀ x0 : Sx.Rows,
 ∀ x1 : Sx.Rows,
(carryPre [.lst x0, .lst x1]) →
 Nd (checkPre [.lst x0]) (
 ∀ x2 : Int,
(checkRel [.lst x0] [.int x2]) →
(((x2=0) →
(((4096 < (x1.length : Int)) →
 Nd (carryRel [.lst x0, .lst x1] [.lst ([] : Sx.Rows), .int 3]) (
 True))∧(¬ (4096 < (x1.length : Int)) →
 ∀ x3 : Bool,
(((x3=true) →
((x0.length : Int)=0) →
 Nd (caInv [.lst x0, .lst x1] [.int 0, .lst ([] : Sx.Rows)]) (
 ∀ x4 : Int,
 ∀ x5 : Sx.Rows,
(caInv [.lst x0, .lst x1] [.int x4, .lst x5]) →
(((x4 < (x1.length : Int)) →
(vcCarry2 x0 x1 x4 x5))∧(¬ (x4 < (x1.length : Int)) →
(vcCarry3 x0 x1 x5)))))∧(¬ (x3=true) →
 Nd ((x0.length : Int) < 67108865) (
(((0 < (x0.length : Int)) →
 Nd (¬ ((x0.length : Int) < (x0.length : Int))) (
 Nd ((x0.length : Int)=(x0.length : Int)) (
 Nd (caInv [.lst x0, .lst x1] [.int 0, .lst ((Sx.chunk 1 0 []) ++ x0)]) (
 ∀ x4 : Int,
 ∀ x5 : Sx.Rows,
(caInv [.lst x0, .lst x1] [.int x4, .lst x5]) →
(((x4 < (x1.length : Int)) →
 Nd (¬ (x4 < 0)) (
 Nd (x4 < (x1.length : Int)) (
 Nd (ixInv [.lst x5, .int (Sx.cellAt x1 x4 0).toInt] [.int 0]) (
 ∀ x6 : Int,
(ixInv [.lst x5, .int (Sx.cellAt x1 x4 0).toInt] [.int x6]) →
(((x6 < (x5.length : Int)) →
 Nd (¬ (x6 < 0)) (
 Nd (x6 < (x5.length : Int)) (
 Nd (x6 < (x5.length : Int)) (
((((Sx.cellAt x1 x4 0).toInt=(Sx.cellAt x5 x6 0).toInt) →
(((x6 < 0) →
 Nd (x6 < 0) (
 Nd (x6 < 0) (
 Nd (x6 < 0) (
 Nd (x6 < 0) (
 Nd (x6 < 0) (
 Nd (carryRel [.lst x0, .lst x1] [.lst ([] : Sx.Rows), .int 11]) (
 True)))))))∧(¬ (x6 < 0) →
 Nd (¬ (x6 < 0)) (
 Nd (¬ (x6 < 0)) (
 Nd (¬ (x6 < 0)) (
((((Sx.cellAt x1 x4 1).toInt=(-1)) →
 Nd ((Sx.cellAt x1 x4 1).toInt=(-1)) (
 Nd ((Sx.cellAt x1 x4 1).toInt=(-1)) (
 Nd ((Sx.cellAt x1 x4 1).toInt=(-1)) (
 Nd ((Sx.cellAt x1 x4 1).toInt=(-1)) (
 Nd (¬ (x6 < 0)) (
 Nd ((Sx.cellAt x1 x4 1).toInt=(-1)) (
 Nd (¬ (x6 < 0)) (
((((Sx.cellAt x1 x4 0).toInt=(Sx.cellAt x1 x4 1).toInt) →
 Nd (carryRel [.lst x0, .lst x1] [.lst ([] : Sx.Rows), .int 1]) (
 True))∧(¬ ((Sx.cellAt x1 x4 0).toInt=(Sx.cellAt x1 x4 1).toInt) →
 Nd ((¬ ((x6+1) < (-9223372036854775808)))∧((x6+1) < 9223372036854775808)) (
 Nd (¬ ((x5.length : Int) < (x5.length : Int))) (
 Nd (¬ (x6 < 0)) (
 Nd (x6 < (x6+1)) (
 Nd (¬ ((x5.length : Int) < (x6+1))) (
 Nd ((Sx.cellAt x1 x4 1).toInt=(-1)) (
 Nd (¬ ((((Sx.part x5 0 x6).length : Int)+((Sx.part x5 (x6+1) ((x5.length : Int) - (x6+1))).length : Int)) < (x6+((x5.length : Int) - (x6+1))))) (
 Nd (¬ ((x6+((x5.length : Int) - (x6+1))) < 0)) (
 Nd (¬ ((x6+((x5.length : Int) - (x6+1))) < (x6+((x5.length : Int) - (x6+1))))) (
 Nd ((x6+((x5.length : Int) - (x6+1))) < 67108864) (
 Nd ((¬ ((x4+1) < (-9223372036854775808)))∧((x4+1) < 9223372036854775808)) (
 Nd (¬ (((((Sx.part ((Sx.part x5 0 x6) ++ (Sx.part x5 (x6+1) ((x5.length : Int) - (x6+1)))) 0 (x6+((x5.length : Int) - (x6+1)))).length : Int)+1)+((Sx.part ((Sx.part x5 0 x6) ++ (Sx.part x5 (x6+1) ((x5.length : Int) - (x6+1)))) (x6+((x5.length : Int) - (x6+1))) ((x6+((x5.length : Int) - (x6+1))) - (x6+((x5.length : Int) - (x6+1))))).length : Int)) < ((x6+((x5.length : Int) - (x6+1)))+1))) (
 Nd (caInv [.lst x0, .lst x1] [.int (x4+1), .lst (Sx.part (((Sx.part ((Sx.part x5 0 x6) ++ (Sx.part x5 (x6+1) ((x5.length : Int) - (x6+1)))) 0 (x6+((x5.length : Int) - (x6+1)))) ++ (Sx.chunk 1 1 [(.int (Sx.cellAt x1 x4 0).toInt)])) ++ (Sx.part ((Sx.part x5 0 x6) ++ (Sx.part x5 (x6+1) ((x5.length : Int) - (x6+1)))) (x6+((x5.length : Int) - (x6+1))) ((x6+((x5.length : Int) - (x6+1))) - (x6+((x5.length : Int) - (x6+1)))))) 0 ((x6+((x5.length : Int) - (x6+1)))+1))]) (
 Nd (caMu [.lst x0, .lst x1] [.int (x4+1), .lst (Sx.part (((Sx.part ((Sx.part x5 0 x6) ++ (Sx.part x5 (x6+1) ((x5.length : Int) - (x6+1)))) 0 (x6+((x5.length : Int) - (x6+1)))) ++ (Sx.chunk 1 1 [(.int (Sx.cellAt x1 x4 0).toInt)])) ++ (Sx.part ((Sx.part x5 0 x6) ++ (Sx.part x5 (x6+1) ((x5.length : Int) - (x6+1)))) (x6+((x5.length : Int) - (x6+1))) ((x6+((x5.length : Int) - (x6+1))) - (x6+((x5.length : Int) - (x6+1)))))) 0 ((x6+((x5.length : Int) - (x6+1)))+1))] < caMu [.lst x0, .lst x1] [.int x4, .lst x5]) (
 True))))))))))))))))))))))))∧(¬ ((Sx.cellAt x1 x4 1).toInt=(-1)) →
 Nd (¬ ((Sx.cellAt x1 x4 1).toInt=(-1))) (
 Nd (¬ ((Sx.cellAt x1 x4 1).toInt=(-1))) (
 Nd (¬ ((Sx.cellAt x1 x4 1).toInt=(-1))) (
 Nd (ixInv [.lst x5, .int (Sx.cellAt x1 x4 1).toInt] [.int 0]) (
 ∀ x7 : Int,
(ixInv [.lst x5, .int (Sx.cellAt x1 x4 1).toInt] [.int x7]) →
(((x7 < (x5.length : Int)) →
 Nd (¬ (x7 < 0)) (
 Nd (x7 < (x5.length : Int)) (
 Nd (x7 < (x5.length : Int)) (
((((Sx.cellAt x1 x4 1).toInt=(Sx.cellAt x5 x7 0).toInt) →
 Nd (¬ ((Sx.cellAt x1 x4 1).toInt=(-1))) (
 Nd (¬ (x6 < 0)) (
 Nd (¬ ((Sx.cellAt x1 x4 1).toInt=(-1))) (
 Nd (¬ (x6 < 0)) (
(((x7 < 0) →
 Nd (carryRel [.lst x0, .lst x1] [.lst ([] : Sx.Rows), .int 11]) (
 True))∧(¬ (x7 < 0) →
((((Sx.cellAt x1 x4 0).toInt=(Sx.cellAt x1 x4 1).toInt) →
 Nd (carryRel [.lst x0, .lst x1] [.lst ([] : Sx.Rows), .int 1]) (
 True))∧(¬ ((Sx.cellAt x1 x4 0).toInt=(Sx.cellAt x1 x4 1).toInt) →
 Nd ((¬ ((x6+1) < (-9223372036854775808)))∧((x6+1) < 9223372036854775808)) (
 Nd (¬ ((x5.length : Int) < (x5.length : Int))) (
 Nd (¬ (x6 < 0)) (
 Nd (x6 < (x6+1)) (
 Nd (¬ ((x5.length : Int) < (x6+1))) (
 Nd (¬ ((Sx.cellAt x1 x4 1).toInt=(-1))) (
 Nd (ixInv [.lst ((Sx.part x5 0 x6) ++ (Sx.part x5 (x6+1) ((x5.length : Int) - (x6+1)))), .int (Sx.cellAt x1 x4 1).toInt] [.int 0]) (
 ∀ x8 : Int,
(ixInv [.lst ((Sx.part x5 0 x6) ++ (Sx.part x5 (x6+1) ((x5.length : Int) - (x6+1)))), .int (Sx.cellAt x1 x4 1).toInt] [.int x8]) →
(((x8 < (x6+((x5.length : Int) - (x6+1)))) →
 Nd (¬ (x8 < 0)) (
 Nd (x8 < (x6+((x5.length : Int) - (x6+1)))) (
 Nd (x8 < (((Sx.part x5 0 x6).length : Int)+((Sx.part x5 (x6+1) ((x5.length : Int) - (x6+1))).length : Int))) (
((((Sx.cellAt x1 x4 1).toInt=(Sx.cellAt ((Sx.part x5 0 x6) ++ (Sx.part x5 (x6+1) ((x5.length : Int) - (x6+1)))) x8 0).toInt) →
 Nd (¬ ((((Sx.part x5 0 x6).length : Int)+((Sx.part x5 (x6+1) ((x5.length : Int) - (x6+1))).length : Int)) < (x6+((x5.length : Int) - (x6+1))))) (
 Nd (¬ (x8 < 0)) (
 Nd (¬ ((x6+((x5.length : Int) - (x6+1))) < x8)) (
 Nd ((x6+((x5.length : Int) - (x6+1))) < 67108864) (
 Nd ((¬ ((x4+1) < (-9223372036854775808)))∧((x4+1) < 9223372036854775808)) (
 Nd (¬ (((((Sx.part ((Sx.part x5 0 x6) ++ (Sx.part x5 (x6+1) ((x5.length : Int) - (x6+1)))) 0 x8).length : Int)+1)+((Sx.part ((Sx.part x5 0 x6) ++ (Sx.part x5 (x6+1) ((x5.length : Int) - (x6+1)))) x8 ((x6+((x5.length : Int) - (x6+1))) - x8)).length : Int)) < ((x6+((x5.length : Int) - (x6+1)))+1))) (
 Nd (caInv [.lst x0, .lst x1] [.int (x4+1), .lst (Sx.part (((Sx.part ((Sx.part x5 0 x6) ++ (Sx.part x5 (x6+1) ((x5.length : Int) - (x6+1)))) 0 x8) ++ (Sx.chunk 1 1 [(.int (Sx.cellAt x1 x4 0).toInt)])) ++ (Sx.part ((Sx.part x5 0 x6) ++ (Sx.part x5 (x6+1) ((x5.length : Int) - (x6+1)))) x8 ((x6+((x5.length : Int) - (x6+1))) - x8))) 0 ((x6+((x5.length : Int) - (x6+1)))+1))]) (
 Nd (caMu [.lst x0, .lst x1] [.int (x4+1), .lst (Sx.part (((Sx.part ((Sx.part x5 0 x6) ++ (Sx.part x5 (x6+1) ((x5.length : Int) - (x6+1)))) 0 x8) ++ (Sx.chunk 1 1 [(.int (Sx.cellAt x1 x4 0).toInt)])) ++ (Sx.part ((Sx.part x5 0 x6) ++ (Sx.part x5 (x6+1) ((x5.length : Int) - (x6+1)))) x8 ((x6+((x5.length : Int) - (x6+1))) - x8))) 0 ((x6+((x5.length : Int) - (x6+1)))+1))] < caMu [.lst x0, .lst x1] [.int x4, .lst x5]) (
 True)))))))))∧(¬ ((Sx.cellAt x1 x4 1).toInt=(Sx.cellAt ((Sx.part x5 0 x6) ++ (Sx.part x5 (x6+1) ((x5.length : Int) - (x6+1)))) x8 0).toInt) →
 Nd ((¬ ((x8+1) < (-9223372036854775808)))∧((x8+1) < 9223372036854775808)) (
 Nd (ixInv [.lst ((Sx.part x5 0 x6) ++ (Sx.part x5 (x6+1) ((x5.length : Int) - (x6+1)))), .int (Sx.cellAt x1 x4 1).toInt] [.int (x8+1)]) (
 Nd (ixMu [.lst ((Sx.part x5 0 x6) ++ (Sx.part x5 (x6+1) ((x5.length : Int) - (x6+1)))), .int (Sx.cellAt x1 x4 1).toInt] [.int (x8+1)] < ixMu [.lst ((Sx.part x5 0 x6) ++ (Sx.part x5 (x6+1) ((x5.length : Int) - (x6+1)))), .int (Sx.cellAt x1 x4 1).toInt] [.int x8]) (
 True)))))))))∧(¬ (x8 < (x6+((x5.length : Int) - (x6+1)))) →
 Nd (¬ ((((Sx.part x5 0 x6).length : Int)+((Sx.part x5 (x6+1) ((x5.length : Int) - (x6+1))).length : Int)) < (x6+((x5.length : Int) - (x6+1))))) (
 Nd (false=true) (
 Nd (¬ ((x6+((x5.length : Int) - (x6+1))) < (-1))) (
 Nd ((x6+((x5.length : Int) - (x6+1))) < 67108864) (
 Nd ((¬ ((x4+1) < (-9223372036854775808)))∧((x4+1) < 9223372036854775808)) (
 Nd (¬ (((((Sx.part ((Sx.part x5 0 x6) ++ (Sx.part x5 (x6+1) ((x5.length : Int) - (x6+1)))) 0 (-1)).length : Int)+1)+((Sx.part ((Sx.part x5 0 x6) ++ (Sx.part x5 (x6+1) ((x5.length : Int) - (x6+1)))) (-1) ((x6+((x5.length : Int) - (x6+1)))+1)).length : Int)) < ((x6+((x5.length : Int) - (x6+1)))+1))) (
 Nd (caInv [.lst x0, .lst x1] [.int (x4+1), .lst (Sx.part (((Sx.part ((Sx.part x5 0 x6) ++ (Sx.part x5 (x6+1) ((x5.length : Int) - (x6+1)))) 0 (-1)) ++ (Sx.chunk 1 1 [(.int (Sx.cellAt x1 x4 0).toInt)])) ++ (Sx.part ((Sx.part x5 0 x6) ++ (Sx.part x5 (x6+1) ((x5.length : Int) - (x6+1)))) (-1) ((x6+((x5.length : Int) - (x6+1)))+1))) 0 ((x6+((x5.length : Int) - (x6+1)))+1))]) (
 Nd (caMu [.lst x0, .lst x1] [.int (x4+1), .lst (Sx.part (((Sx.part ((Sx.part x5 0 x6) ++ (Sx.part x5 (x6+1) ((x5.length : Int) - (x6+1)))) 0 (-1)) ++ (Sx.chunk 1 1 [(.int (Sx.cellAt x1 x4 0).toInt)])) ++ (Sx.part ((Sx.part x5 0 x6) ++ (Sx.part x5 (x6+1) ((x5.length : Int) - (x6+1)))) (-1) ((x6+((x5.length : Int) - (x6+1)))+1))) 0 ((x6+((x5.length : Int) - (x6+1)))+1))] < caMu [.lst x0, .lst x1] [.int x4, .lst x5]) (
 True))))))))))))))))))))))))))∧(¬ ((Sx.cellAt x1 x4 1).toInt=(Sx.cellAt x5 x7 0).toInt) →
(vcCarry0 x1 x4 x5 x7)))))))∧(¬ (x7 < (x5.length : Int)) →
 Nd (¬ ((Sx.cellAt x1 x4 1).toInt=(-1))) (
 Nd (¬ (x6 < 0)) (
 Nd (¬ ((Sx.cellAt x1 x4 1).toInt=(-1))) (
 Nd (¬ (x6 < 0)) (
 Nd (carryRel [.lst x0, .lst x1] [.lst ([] : Sx.Rows), .int 11]) (
 True)))))))))))))))))))∧(¬ ((Sx.cellAt x1 x4 0).toInt=(Sx.cellAt x5 x6 0).toInt) →
(vcCarry1 x1 x4 x5 x6)))))))∧(¬ (x6 < (x5.length : Int)) →
 Nd (carryRel [.lst x0, .lst x1] [.lst ([] : Sx.Rows), .int 11]) (
 True)))))))∧(¬ (x4 < (x1.length : Int)) →
(vcCarry3 x0 x1 x5)))))))∧(¬ (0 < (x0.length : Int)) →
 Nd (¬ (((Sx.over (Sx.chunk 1 0 []) 0 x0).length : Int) < (x0.length : Int))) (
 Nd (caInv [.lst x0, .lst x1] [.int 0, .lst (Sx.part (Sx.over (Sx.chunk 1 0 []) 0 x0) 0 (x0.length : Int))]) (
 ∀ x4 : Int,
 ∀ x5 : Sx.Rows,
(caInv [.lst x0, .lst x1] [.int x4, .lst x5]) →
(((x4 < (x1.length : Int)) →
(vcCarry2 x0 x1 x4 x5))∧(¬ (x4 < (x1.length : Int)) →
 Nd (¬ ((x5.length : Int) < 0)) (
 Nd (¬ ((x5.length : Int) < (x5.length : Int))) (
 Nd (¬ (0 < (x5.length : Int))) (
 Nd ((x5.length : Int)=(x5.length : Int)) (
 Nd (¬ ((x5.length : Int) < (x5.length : Int))) (
 Nd ((x5.length : Int)=(x5.length : Int)) (
 Nd (carryRel [.lst x0, .lst x1] [.lst x5, .int 0]) (
 True)))))))))))))))))))∧(¬ (x2=0) →
 Nd (carryRel [.lst x0, .lst x1] [.lst ([] : Sx.Rows), .int x2]) (
 True))))
theorem vcCarry_eq : (cvc Go.Proofs.Try.prog U0 cCarry (sxF Go.Proofs.Try.prog U0 annsC (conX Go.Proofs.Try.prog U0 (stageC 0) (primsC Go.Proofs.Try.prog)) 400 19)).vc U0 (fun _=>True)=vcCarry:=by kernel_rfl
end Go.C08
