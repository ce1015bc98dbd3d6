/- The conditions of contracts, as the engine's printer has written them, and that the kernel comes to the same.
  Conditions: none. -/
import Derived.Test.YtpdcecfnlccicaaP14
import Derived.Test.YtpdcecfnlccicaaRows
import Derived.KernelRfl
set_option linter.unusedVariables false
set_option maxRecDepth 100000
namespace Go.C36
open Go Go.Xe Go.Sx
def vcIdx : Prop :=
 ∀ x0 : Sx.Rows,
 ∀ x1 : Int,
(idxPre [.lst x0, .int x1]) →
 Nd (idInv [.lst x0, .int x1] [.int 0]) (
 ∀ x2 : Int,
(idInv [.lst x0, .int x1] [.int x2]) →
(((x2 < (x0.length : Int)) →
 Nd (¬ (x2 < 0)) (
 Nd (x2 < (x0.length : Int)) (
(((x1 = (Sx.cellAt x0 x2 0).toInt) →
 Nd (idxRel [.lst x0, .int x1] [.int x2]) (
 True)) ∧ (¬ (x1 = (Sx.cellAt x0 x2 0).toInt) →
 Nd ((¬ ((x2 + 1) < (-9223372036854775808))) ∧ ((x2 + 1) < 9223372036854775808)) (
 Nd (idInv [.lst x0, .int x1] [.int (x2 + 1)]) (
 Nd (idMu [.lst x0, .int x1] [.int (x2 + 1)] < idMu [.lst x0, .int x1] [.int x2]) (
 True)))))))) ∧ (¬ (x2 < (x0.length : Int)) →
 Nd (idxRel [.lst x0, .int x1] [.int (-1)]) (
 True))))
theorem vcIdx_eq : (cvc Go.Proofs.Try.prog U0 cIdx (sxF Go.Proofs.Try.prog U0 annsZ (conOf Go.Proofs.Try.prog U0 (stageZ 0)) 400 43)).vc U0 (fun _ => True) = vcIdx := by kernel_rfl
def vcOf0 (x0 : Sx.Rows) (x1 : Sx.Rows) (x2 : Sx.Rows) (x3 : Sx.Rows) (x8 : Sx.Rows) : Prop :=
 ∀ x10 : Int,
 ∀ x11 : Sx.Rows,
 ∀ x12 : Sx.Rows,
 ∀ x13 : Sx.Rows,
 ∀ x14 : Sx.Rows,
(o4Inv [.lst x0, .lst x1, .lst x2, .lst x3, .lst x8] [.int x10, .lst x11, .lst x12, .lst x13, .lst x14]) →
(((x10 < (x0.length : Int)) →
 Nd (¬ (x10 < 0)) (
 Nd (x10 < (x0.length : Int)) (
((((Sx.mgetR x8 [(Sx.cellAt x0 x10 0).toInt,(Sx.cellAt x0 x10 1).toInt] (.bool false)).toBool = true) →
 Nd (¬ ((x11.length : Int) < (x11.length : Int))) (
 Nd (((x11.length : Int) + 1) < 67108865) (
 Nd ((x11.length : Int) = (x11.length : Int)) (
 Nd ((¬ ((x10 + 1) < (-9223372036854775808))) ∧ ((x10 + 1) < 9223372036854775808)) (
 Nd (¬ (((x11.length : Int) + 1) < ((x11.length : Int) + 1))) (
 Nd (((x11.length : Int) + 1) = ((x11.length : Int) + 1)) (
 Nd (¬ ((x12.length : Int) < (x12.length : Int))) (
 Nd ((x12.length : Int) = (x12.length : Int)) (
 Nd (¬ ((x14.length : Int) < (x14.length : Int))) (
 Nd ((x14.length : Int) = (x14.length : Int)) (
 Nd (o4Inv [.lst x0, .lst x1, .lst x2, .lst x3, .lst x8] [.int (x10 + 1), .lst (x11 ++ (Sx.chunk 1 1 [(.int x10)])), .lst x12, .lst (Sx.mputR x13 [(Sx.cellAt x0 x10 0).toInt,(Sx.cellAt x0 x10 1).toInt] (.int x10)), .lst x14]) (
 Nd (o4Mu [.lst x0, .lst x1, .lst x2, .lst x3, .lst x8] [.int (x10 + 1), .lst (x11 ++ (Sx.chunk 1 1 [(.int x10)])), .lst x12, .lst (Sx.mputR x13 [(Sx.cellAt x0 x10 0).toInt,(Sx.cellAt x0 x10 1).toInt] (.int x10)), .lst x14] < o4Mu [.lst x0, .lst x1, .lst x2, .lst x3, .lst x8] [.int x10, .lst x11, .lst x12, .lst x13, .lst x14]) (
 True))))))))))))) ∧ (¬ ((Sx.mgetR x8 [(Sx.cellAt x0 x10 0).toInt,(Sx.cellAt x0 x10 1).toInt] (.bool false)).toBool = true) →
 Nd (¬ ((Sx.cellAt x0 x10 1).toInt < 0)) (
 Nd ((Sx.cellAt x0 x10 1).toInt < (x12.length : Int)) (
 Nd ((Sx.cellAt x0 x10 1).toInt < (x12.length : Int)) (
 Nd (¬ ((Sx.cellAt x0 x10 1).toInt < 0)) (
 Nd ((Sx.cellAt x0 x10 1).toInt < (x3.length : Int)) (
((((Sx.cellAt x12 (Sx.cellAt x0 x10 1).toInt 0).toInt < (Sx.cellAt x3 (Sx.cellAt x0 x10 1).toInt 0).toInt) →
 Nd (¬ ((Sx.cellAt x0 x10 1).toInt < 0)) (
 Nd ((Sx.cellAt x0 x10 1).toInt < (x12.length : Int)) (
 Nd ((Sx.cellAt x0 x10 1).toInt < (x12.length : Int)) (
 Nd ((¬ (((Sx.cellAt x12 (Sx.cellAt x0 x10 1).toInt 0).toInt + 1) < (-9223372036854775808))) ∧ (((Sx.cellAt x12 (Sx.cellAt x0 x10 1).toInt 0).toInt + 1) < 9223372036854775808)) (
 Nd (¬ ((Sx.cellAt x0 x10 1).toInt < 0)) (
 Nd ((Sx.cellAt x0 x10 1).toInt < (x12.length : Int)) (
 Nd ((Sx.cellAt x0 x10 1).toInt < (x12.length : Int)) (
 Nd (¬ ((x14.length : Int) < (x14.length : Int))) (
 Nd (((x14.length : Int) + 1) < 67108865) (
 Nd ((x14.length : Int) = (x14.length : Int)) (
 Nd ((¬ ((x10 + 1) < (-9223372036854775808))) ∧ ((x10 + 1) < 9223372036854775808)) (
 Nd (¬ ((x11.length : Int) < (x11.length : Int))) (
 Nd ((x11.length : Int) = (x11.length : Int)) (
 Nd (¬ ((x12.length : Int) < (x12.length : Int))) (
 Nd ((x12.length : Int) = (x12.length : Int)) (
 Nd (¬ (((x14.length : Int) + 1) < ((x14.length : Int) + 1))) (
 Nd (((x14.length : Int) + 1) = ((x14.length : Int) + 1)) (
 Nd (o4Inv [.lst x0, .lst x1, .lst x2, .lst x3, .lst x8] [.int (x10 + 1), .lst x11, .lst (Sx.setAt x12 (Sx.cellAt x0 x10 1).toInt 0 (.int ((Sx.cellAt x12 (Sx.cellAt x0 x10 1).toInt 0).toInt + 1))), .lst x13, .lst (x14 ++ (Sx.chunk 2 1 [(.int x10),(.bool (!(decide ((Sx.cellAt x12 (Sx.cellAt x0 x10 1).toInt 0).toInt < (Sx.cellAt x3 (Sx.cellAt x0 x10 1).toInt 0).toInt))))]))]) (
 Nd (o4Mu [.lst x0, .lst x1, .lst x2, .lst x3, .lst x8] [.int (x10 + 1), .lst x11, .lst (Sx.setAt x12 (Sx.cellAt x0 x10 1).toInt 0 (.int ((Sx.cellAt x12 (Sx.cellAt x0 x10 1).toInt 0).toInt + 1))), .lst x13, .lst (x14 ++ (Sx.chunk 2 1 [(.int x10),(.bool (!(decide ((Sx.cellAt x12 (Sx.cellAt x0 x10 1).toInt 0).toInt < (Sx.cellAt x3 (Sx.cellAt x0 x10 1).toInt 0).toInt))))]))] < o4Mu [.lst x0, .lst x1, .lst x2, .lst x3, .lst x8] [.int x10, .lst x11, .lst x12, .lst x13, .lst x14]) (
 True)))))))))))))))))))) ∧ (¬ ((Sx.cellAt x12 (Sx.cellAt x0 x10 1).toInt 0).toInt < (Sx.cellAt x3 (Sx.cellAt x0 x10 1).toInt 0).toInt) →
 Nd (¬ ((x14.length : Int) < (x14.length : Int))) (
 Nd (((x14.length : Int) + 1) < 67108865) (
 Nd ((x14.length : Int) = (x14.length : Int)) (
 Nd ((¬ ((x10 + 1) < (-9223372036854775808))) ∧ ((x10 + 1) < 9223372036854775808)) (
 Nd (¬ ((x11.length : Int) < (x11.length : Int))) (
 Nd ((x11.length : Int) = (x11.length : Int)) (
 Nd (¬ ((x12.length : Int) < (x12.length : Int))) (
 Nd ((x12.length : Int) = (x12.length : Int)) (
 Nd (¬ (((x14.length : Int) + 1) < ((x14.length : Int) + 1))) (
 Nd (((x14.length : Int) + 1) = ((x14.length : Int) + 1)) (
 Nd (o4Inv [.lst x0, .lst x1, .lst x2, .lst x3, .lst x8] [.int (x10 + 1), .lst x11, .lst x12, .lst x13, .lst (x14 ++ (Sx.chunk 2 1 [(.int x10),(.bool (!(decide ((Sx.cellAt x12 (Sx.cellAt x0 x10 1).toInt 0).toInt < (Sx.cellAt x3 (Sx.cellAt x0 x10 1).toInt 0).toInt))))]))]) (
 Nd (o4Mu [.lst x0, .lst x1, .lst x2, .lst x3, .lst x8] [.int (x10 + 1), .lst x11, .lst x12, .lst x13, .lst (x14 ++ (Sx.chunk 2 1 [(.int x10),(.bool (!(decide ((Sx.cellAt x12 (Sx.cellAt x0 x10 1).toInt 0).toInt < (Sx.cellAt x3 (Sx.cellAt x0 x10 1).toInt 0).toInt))))]))] < o4Mu [.lst x0, .lst x1, .lst x2, .lst x3, .lst x8] [.int x10, .lst x11, .lst x12, .lst x13, .lst x14]) (
 True)))))))))))))))))))))))) ∧ (¬ (x10 < (x0.length : Int)) →
 Nd (¬ ((x12.length : Int) < (x12.length : Int))) (
 Nd ((x12.length : Int) = (x12.length : Int)) (
 Nd (¬ ((x14.length : Int) < (x14.length : Int))) (
 Nd ((x14.length : Int) = (x14.length : Int)) (
 Nd (o6Inv [.lst x0, .lst x1, .lst x3, .lst x13, .lst x14, .lst x12] [.int 0, .lst x12, .lst ([] : Sx.Rows), .lst x14, .lst ([] : Sx.Rows)]) (
 ∀ x15 : Int,
 ∀ x16 : Sx.Rows,
 ∀ x17 : Sx.Rows,
 ∀ x18 : Sx.Rows,
 ∀ x19 : Sx.Rows,
(o6Inv [.lst x0, .lst x1, .lst x3, .lst x13, .lst x14, .lst x12] [.int x15, .lst x16, .lst x17, .lst x18, .lst x19]) →
(((x15 < (x1.length : Int)) →
 Nd (¬ (x15 < 0)) (
 Nd (x15 < (x1.length : Int)) (
((((Sx.mhasR x13 [(Sx.cellAt x1 x15 0).toInt,(Sx.cellAt x1 x15 1).toInt]) = true) →
 Nd (¬ ((x17.length : Int) < (x17.length : Int))) (
 Nd (((x17.length : Int) + 1) < 67108865) (
 Nd ((x17.length : Int) = (x17.length : Int)) (
 Nd (¬ ((x19.length : Int) < (x19.length : Int))) (
 Nd (((x19.length : Int) + 1) < 67108865) (
 Nd ((x19.length : Int) = (x19.length : Int)) (
 Nd ((¬ ((x15 + 1) < (-9223372036854775808))) ∧ ((x15 + 1) < 9223372036854775808)) (
 Nd (¬ ((x16.length : Int) < (x16.length : Int))) (
 Nd ((x16.length : Int) = (x16.length : Int)) (
 Nd (¬ (((x17.length : Int) + 1) < ((x17.length : Int) + 1))) (
 Nd (((x17.length : Int) + 1) = ((x17.length : Int) + 1)) (
 Nd (¬ ((x18.length : Int) < (x18.length : Int))) (
 Nd ((x18.length : Int) = (x18.length : Int)) (
 Nd (¬ (((x19.length : Int) + 1) < ((x19.length : Int) + 1))) (
 Nd (((x19.length : Int) + 1) = ((x19.length : Int) + 1)) (
 Nd (o6Inv [.lst x0, .lst x1, .lst x3, .lst x13, .lst x14, .lst x12] [.int (x15 + 1), .lst x16, .lst (x17 ++ (Sx.chunk 1 1 [(.int (Sx.mgetR x13 [(Sx.cellAt x1 x15 0).toInt,(Sx.cellAt x1 x15 1).toInt] (.int (0))).toInt)])), .lst x18, .lst (x19 ++ (Sx.chunk 3 1 [(.int (1)),(.int (Sx.mgetR x13 [(Sx.cellAt x1 x15 0).toInt,(Sx.cellAt x1 x15 1).toInt] (.int (0))).toInt),(.bool true)]))]) (
 Nd (o6Mu [.lst x0, .lst x1, .lst x3, .lst x13, .lst x14, .lst x12] [.int (x15 + 1), .lst x16, .lst (x17 ++ (Sx.chunk 1 1 [(.int (Sx.mgetR x13 [(Sx.cellAt x1 x15 0).toInt,(Sx.cellAt x1 x15 1).toInt] (.int (0))).toInt)])), .lst x18, .lst (x19 ++ (Sx.chunk 3 1 [(.int (1)),(.int (Sx.mgetR x13 [(Sx.cellAt x1 x15 0).toInt,(Sx.cellAt x1 x15 1).toInt] (.int (0))).toInt),(.bool true)]))] < o6Mu [.lst x0, .lst x1, .lst x3, .lst x13, .lst x14, .lst x12] [.int x15, .lst x16, .lst x17, .lst x18, .lst x19]) (
 True)))))))))))))))))) ∧ (¬ ((Sx.mhasR x13 [(Sx.cellAt x1 x15 0).toInt,(Sx.cellAt x1 x15 1).toInt]) = true) →
 Nd (¬ ((Sx.cellAt x1 x15 1).toInt < 0)) (
 Nd ((Sx.cellAt x1 x15 1).toInt < (x16.length : Int)) (
 Nd ((Sx.cellAt x1 x15 1).toInt < (x16.length : Int)) (
(((0 < (Sx.cellAt x16 (Sx.cellAt x1 x15 1).toInt 0).toInt) →
 Nd (¬ ((Sx.cellAt x1 x15 1).toInt < 0)) (
 Nd ((Sx.cellAt x1 x15 1).toInt < (x16.length : Int)) (
 Nd ((Sx.cellAt x1 x15 1).toInt < (x16.length : Int)) (
 Nd ((¬ (((Sx.cellAt x16 (Sx.cellAt x1 x15 1).toInt 0).toInt + (-1)) < (-9223372036854775808))) ∧ (((Sx.cellAt x16 (Sx.cellAt x1 x15 1).toInt 0).toInt + (-1)) < 9223372036854775808)) (
 Nd (¬ ((Sx.cellAt x1 x15 1).toInt < 0)) (
 Nd ((Sx.cellAt x1 x15 1).toInt < (x16.length : Int)) (
 Nd ((Sx.cellAt x1 x15 1).toInt < (x16.length : Int)) (
 Nd (¬ ((x19.length : Int) < (x19.length : Int))) (
 Nd (((x19.length : Int) + 1) < 67108865) (
 Nd ((x19.length : Int) = (x19.length : Int)) (
 Nd ((¬ ((x15 + 1) < (-9223372036854775808))) ∧ ((x15 + 1) < 9223372036854775808)) (
 Nd (¬ ((x16.length : Int) < (x16.length : Int))) (
 Nd ((x16.length : Int) = (x16.length : Int)) (
 Nd (¬ ((x17.length : Int) < (x17.length : Int))) (
 Nd ((x17.length : Int) = (x17.length : Int)) (
 Nd (¬ ((x18.length : Int) < (x18.length : Int))) (
 Nd ((x18.length : Int) = (x18.length : Int)) (
 Nd (¬ (((x19.length : Int) + 1) < ((x19.length : Int) + 1))) (
 Nd (((x19.length : Int) + 1) = ((x19.length : Int) + 1)) (
 Nd (o6Inv [.lst x0, .lst x1, .lst x3, .lst x13, .lst x14, .lst x12] [.int (x15 + 1), .lst (Sx.setAt x16 (Sx.cellAt x1 x15 1).toInt 0 (.int ((Sx.cellAt x16 (Sx.cellAt x1 x15 1).toInt 0).toInt + (-1)))), .lst x17, .lst x18, .lst (x19 ++ (Sx.chunk 3 1 [(.int (2)),(.int (-1)),(.bool false)]))]) (
 Nd (o6Mu [.lst x0, .lst x1, .lst x3, .lst x13, .lst x14, .lst x12] [.int (x15 + 1), .lst (Sx.setAt x16 (Sx.cellAt x1 x15 1).toInt 0 (.int ((Sx.cellAt x16 (Sx.cellAt x1 x15 1).toInt 0).toInt + (-1)))), .lst x17, .lst x18, .lst (x19 ++ (Sx.chunk 3 1 [(.int (2)),(.int (-1)),(.bool false)]))] < o6Mu [.lst x0, .lst x1, .lst x3, .lst x13, .lst x14, .lst x12] [.int x15, .lst x16, .lst x17, .lst x18, .lst x19]) (
 True)))))))))))))))))))))) ∧ (¬ (0 < (Sx.cellAt x16 (Sx.cellAt x1 x15 1).toInt 0).toInt) →
 Nd (¬ ((x19.length : Int) < (x19.length : Int))) (
 Nd (((x19.length : Int) + 1) < 67108865) (
 Nd ((x19.length : Int) = (x19.length : Int)) (
 Nd ((¬ ((x15 + 1) < (-9223372036854775808))) ∧ ((x15 + 1) < 9223372036854775808)) (
 Nd (¬ ((x16.length : Int) < (x16.length : Int))) (
 Nd ((x16.length : Int) = (x16.length : Int)) (
 Nd (¬ ((x17.length : Int) < (x17.length : Int))) (
 Nd ((x17.length : Int) = (x17.length : Int)) (
 Nd (¬ ((x18.length : Int) < (x18.length : Int))) (
 Nd ((x18.length : Int) = (x18.length : Int)) (
 Nd (¬ (((x19.length : Int) + 1) < ((x19.length : Int) + 1))) (
 Nd (((x19.length : Int) + 1) = ((x19.length : Int) + 1)) (
 Nd (o6Inv [.lst x0, .lst x1, .lst x3, .lst x13, .lst x14, .lst x12] [.int (x15 + 1), .lst x16, .lst x17, .lst x18, .lst (x19 ++ (Sx.chunk 3 1 [(.int (3)),(.int (-1)),(.bool false)]))]) (
 Nd (o6Mu [.lst x0, .lst x1, .lst x3, .lst x13, .lst x14, .lst x12] [.int (x15 + 1), .lst x16, .lst x17, .lst x18, .lst (x19 ++ (Sx.chunk 3 1 [(.int (3)),(.int (-1)),(.bool false)]))] < o6Mu [.lst x0, .lst x1, .lst x3, .lst x13, .lst x14, .lst x12] [.int x15, .lst x16, .lst x17, .lst x18, .lst x19]) (
 True)))))))))))))))))))))))) ∧ (¬ (x15 < (x1.length : Int)) →
 Nd (¬ ((x11.length : Int) < (x11.length : Int))) (
 Nd ((x11.length : Int) = (x11.length : Int)) (
 Nd (¬ ((x17.length : Int) < (x17.length : Int))) (
 Nd ((x17.length : Int) = (x17.length : Int)) (
 Nd (keptPre [.lst x11, .lst x17]) (
 ∀ x20 : Sx.Rows,
 ∀ x21 : Int,
(keptRel [.lst x11, .lst x17] [.lst x20, .int x21]) →
(((x21 = 0) →
 Nd (¬ ((x19.length : Int) < (x19.length : Int))) (
 Nd (o8Inv [.lst x19, .lst x20] [.lst x19, .int 0]) (
 ∀ x22 : Sx.Rows,
 ∀ x23 : Int,
(o8Inv [.lst x19, .lst x20] [.lst x22, .int x23]) →
(((x23 < (x19.length : Int)) →
 Nd (¬ (x23 < 0)) (
 Nd (x23 < (x19.length : Int)) (
 Nd (x23 < (x22.length : Int)) (
((((Sx.cellAt x22 x23 0).toInt = 1) →
 Nd ((Sx.cellAt x22 x23 0).toInt = 1) (
 Nd ((Sx.cellAt x22 x23 0).toInt = 1) (
 Nd ((Sx.cellAt x22 x23 0).toInt = 1) (
 Nd (idxPre [.lst x20, .int (Sx.cellAt x22 x23 1).toInt]) (
 ∀ x24 : Int,
(idxRel [.lst x20, .int (Sx.cellAt x22 x23 1).toInt] [.int x24]) →
 Nd ((Sx.cellAt x22 x23 0).toInt = 1) (
(((x24 < 0) →
 Nd ((¬ ((x23 + 1) < (-9223372036854775808))) ∧ ((x23 + 1) < 9223372036854775808)) (
 Nd (¬ ((x19.length : Int) < (x19.length : Int))) (
 Nd (o8Inv [.lst x19, .lst x20] [.lst x22, .int (x23 + 1)]) (
 Nd (o8Mu [.lst x19, .lst x20] [.lst x22, .int (x23 + 1)] < o8Mu [.lst x19, .lst x20] [.lst x22, .int x23]) (
 True))))) ∧ (¬ (x24 < 0) →
 Nd (¬ (x23 < 0)) (
 Nd (x23 < (x19.length : Int)) (
 Nd (x23 < (x22.length : Int)) (
 Nd ((¬ ((x23 + 1) < (-9223372036854775808))) ∧ ((x23 + 1) < 9223372036854775808)) (
 Nd (¬ ((x19.length : Int) < (x19.length : Int))) (
 Nd (o8Inv [.lst x19, .lst x20] [.lst (Sx.setAt x22 x23 2 (.bool false)), .int (x23 + 1)]) (
 Nd (o8Mu [.lst x19, .lst x20] [.lst (Sx.setAt x22 x23 2 (.bool false)), .int (x23 + 1)] < o8Mu [.lst x19, .lst x20] [.lst x22, .int x23]) (
 True))))))))))))))) ∧ (¬ ((Sx.cellAt x22 x23 0).toInt = 1) →
 Nd (¬ ((Sx.cellAt x22 x23 0).toInt = 1)) (
 Nd (¬ ((Sx.cellAt x22 x23 0).toInt = 1)) (
 Nd (¬ ((Sx.cellAt x22 x23 0).toInt = 1)) (
 Nd (¬ ((Sx.cellAt x22 x23 0).toInt = 1)) (
 Nd ((¬ ((x23 + 1) < (-9223372036854775808))) ∧ ((x23 + 1) < 9223372036854775808)) (
 Nd (¬ ((x19.length : Int) < (x19.length : Int))) (
 Nd (o8Inv [.lst x19, .lst x20] [.lst x22, .int (x23 + 1)]) (
 Nd (o8Mu [.lst x19, .lst x20] [.lst x22, .int (x23 + 1)] < o8Mu [.lst x19, .lst x20] [.lst x22, .int x23]) (
 True)))))))))))))) ∧ (¬ (x23 < (x19.length : Int)) →
 Nd (¬ ((x18.length : Int) < 0)) (
 Nd (¬ ((x18.length : Int) < (x18.length : Int))) (
 Nd (¬ ((x18.length : Int) < (x18.length : Int))) (
 Nd (¬ ((x19.length : Int) < 0)) (
 Nd (¬ ((x19.length : Int) < (x19.length : Int))) (
 Nd (¬ ((x19.length : Int) < (x19.length : Int))) (
 Nd ((x18.length : Int) = (x18.length : Int)) (
 Nd (¬ ((x18.length : Int) < (x18.length : Int))) (
 Nd ((x18.length : Int) = (x18.length : Int)) (
 Nd ((x19.length : Int) = (x19.length : Int)) (
 Nd (¬ ((x22.length : Int) < (x19.length : Int))) (
 Nd (ofRel [.lst x0, .lst x1, .lst x2, .lst x3] [.lst x18, .lst (Sx.part x22 0 (x19.length : Int)), .int 0]) (
 True))))))))))))))))) ∧ (¬ (x21 = 0) →
 Nd (ofRel [.lst x0, .lst x1, .lst x2, .lst x3] [.lst ([] : Sx.Rows), .lst ([] : Sx.Rows), .int x21]) (
 True)))))))))))))))))
def vcOf : Prop :=
 ∀ x0 : Sx.Rows,
 ∀ x1 : Sx.Rows,
 ∀ x2 : Sx.Rows,
 ∀ x3 : Sx.Rows,
(ofPre [.lst x0, .lst x1, .lst x2, .lst x3]) →
 Nd (rightPre [.lst x2, .lst x3]) (
 ∀ x4 : Bool,
(rightRel [.lst x2, .lst x3] [.bool x4]) →
(((x4 = true) →
 Nd (pcheckPre [.lst x0, .int (x3.length : Int)]) (
 ∀ x5 : Int,
(pcheckRel [.lst x0, .int (x3.length : Int)] [.int x5]) →
(((x5 = 0) →
 Nd (pcheckPre [.lst x1, .int (x3.length : Int)]) (
 ∀ x6 : Int,
(pcheckRel [.lst x1, .int (x3.length : Int)] [.int x6]) →
(((x6 = 0) →
 Nd (o2Inv [.lst x1] [.int 0, .lst ([] : Sx.Rows)]) (
 ∀ x7 : Int,
 ∀ x8 : Sx.Rows,
(o2Inv [.lst x1] [.int x7, .lst x8]) →
(((x7 < (x1.length : Int)) →
 Nd (¬ (x7 < 0)) (
 Nd (x7 < (x1.length : Int)) (
 Nd ((¬ ((x7 + 1) < (-9223372036854775808))) ∧ ((x7 + 1) < 9223372036854775808)) (
 Nd (o2Inv [.lst x1] [.int (x7 + 1), .lst (Sx.mputR x8 [(Sx.cellAt x1 x7 0).toInt,(Sx.cellAt x1 x7 1).toInt] (.bool true))]) (
 Nd (o2Mu [.lst x1] [.int (x7 + 1), .lst (Sx.mputR x8 [(Sx.cellAt x1 x7 0).toInt,(Sx.cellAt x1 x7 1).toInt] (.bool true))] < o2Mu [.lst x1] [.int x7, .lst x8]) (
 True)))))) ∧ (¬ (x7 < (x1.length : Int)) →
 ∀ x9 : Bool,
(((x9 = true) →
((x2.length : Int) = 0) →
 Nd (o4Inv [.lst x0, .lst x1, .lst x2, .lst x3, .lst x8] [.int 0, .lst ([] : Sx.Rows), .lst ([] : Sx.Rows), .lst ([] : Sx.Rows), .lst ([] : Sx.Rows)]) (
(vcOf0 x0 x1 x2 x3 x8))) ∧ (¬ (x9 = true) →
 Nd ((x2.length : Int) < 67108865) (
(((0 < (x2.length : Int)) →
 Nd (¬ ((x2.length : Int) < (x2.length : Int))) (
 Nd ((x2.length : Int) = (x2.length : Int)) (
 Nd (o4Inv [.lst x0, .lst x1, .lst x2, .lst x3, .lst x8] [.int 0, .lst ([] : Sx.Rows), .lst ((Sx.chunk 1 0 []) ++ x2), .lst ([] : Sx.Rows), .lst ([] : Sx.Rows)]) (
(vcOf0 x0 x1 x2 x3 x8))))) ∧ (¬ (0 < (x2.length : Int)) →
 Nd (¬ (((Sx.over (Sx.chunk 1 0 []) 0 x2).length : Int) < (x2.length : Int))) (
 Nd (o4Inv [.lst x0, .lst x1, .lst x2, .lst x3, .lst x8] [.int 0, .lst ([] : Sx.Rows), .lst (Sx.part (Sx.over (Sx.chunk 1 0 []) 0 x2) 0 (x2.length : Int)), .lst ([] : Sx.Rows), .lst ([] : Sx.Rows)]) (
(vcOf0 x0 x1 x2 x3 x8)))))))))))) ∧ (¬ (x6 = 0) →
 Nd (ofRel [.lst x0, .lst x1, .lst x2, .lst x3] [.lst ([] : Sx.Rows), .lst ([] : Sx.Rows), .int x6]) (
 True))))) ∧ (¬ (x5 = 0) →
 Nd (ofRel [.lst x0, .lst x1, .lst x2, .lst x3] [.lst ([] : Sx.Rows), .lst ([] : Sx.Rows), .int x5]) (
 True))))) ∧ (¬ (x4 = true) →
 Nd (ofRel [.lst x0, .lst x1, .lst x2, .lst x3] [.lst ([] : Sx.Rows), .lst ([] : Sx.Rows), .int 1]) (
 True))))
theorem vcOf_eq : (cvc Go.Proofs.Try.prog U0 cOf (sxF Go.Proofs.Try.prog U0 annsZ (conOf Go.Proofs.Try.prog U0 (stageZ 1)) 400 9)).vc U0 (fun _ => True) = vcOf := by kernel_rfl
end Go.C36
