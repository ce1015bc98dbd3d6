/- The conditions of contracts, as the engine's printer has written them, and that the kernel comes to the same.
  Conditions: none. -/
import Derived.Test.YtpdcecfnlccicaaV1
import Derived.Test.YtpdcecfnlccicaaRows
import Derived.KernelRfl
set_option linter.unusedVariables false
set_option maxRecDepth 100000
namespace Go.C36
open Go Go.Xe Go.Sx
def vcTake2 : Prop :=
 ∀ x0 : Sx.Rows,
 ∀ x1 : Int,
(take2Pre [.lst x0, .int x1]) →
 Nd (tkInv [.lst x0, .int x1] [.int 0, .lst ([] : Sx.Rows)]) (
 ∀ x2 : Int,
 ∀ x3 : Sx.Rows,
(tkInv [.lst x0, .int x1] [.int x2, .lst x3]) →
(((x2 < (x0.length : Int)) →
 Nd (¬ (x2 < 0)) (
 Nd (x2 < (x0.length : Int)) (
((((Sx.cellAt x0 x2 0).toInt = x1) →
 Nd ((¬ ((x2 + 1) < (-9223372036854775808))) ∧ ((x2 + 1) < 9223372036854775808)) (
 Nd (¬ ((x3.length : Int) < (x3.length : Int))) (
 Nd ((x3.length : Int) = (x3.length : Int)) (
 Nd (tkInv [.lst x0, .int x1] [.int (x2 + 1), .lst x3]) (
 Nd (tkMu [.lst x0, .int x1] [.int (x2 + 1), .lst x3] < tkMu [.lst x0, .int x1] [.int x2, .lst x3]) (
 True)))))) ∧ (¬ ((Sx.cellAt x0 x2 0).toInt = x1) →
 Nd (¬ (x2 < 0)) (
 Nd (x2 < (x0.length : Int)) (
 Nd (¬ ((x3.length : Int) < (x3.length : Int))) (
 Nd (((x3.length : Int) + 1) < 67108865) (
 Nd ((x3.length : Int) = (x3.length : Int)) (
 Nd ((¬ ((x2 + 1) < (-9223372036854775808))) ∧ ((x2 + 1) < 9223372036854775808)) (
 Nd (¬ (((x3.length : Int) + 1) < ((x3.length : Int) + 1))) (
 Nd (((x3.length : Int) + 1) = ((x3.length : Int) + 1)) (
 Nd (tkInv [.lst x0, .int x1] [.int (x2 + 1), .lst (x3 ++ (Sx.chunk 1 1 [(.int (Sx.cellAt x0 x2 0).toInt)]))]) (
 Nd (tkMu [.lst x0, .int x1] [.int (x2 + 1), .lst (x3 ++ (Sx.chunk 1 1 [(.int (Sx.cellAt x0 x2 0).toInt)]))] < tkMu [.lst x0, .int x1] [.int x2, .lst x3]) (
 True))))))))))))))) ∧ (¬ (x2 < (x0.length : Int)) →
 Nd (¬ ((x3.length : Int) < (x3.length : Int))) (
 Nd ((x3.length : Int) = (x3.length : Int)) (
 Nd (take2Rel [.lst x0, .int x1] [.lst x3]) (
 True))))))
theorem vcTake2_eq : (cvc Go.Proofs.Try.prog U0 cTake2 (sxF Go.Proofs.Try.prog U0 annsG (conP Go.Proofs.Try.prog U0 (stageG 1)) 400 14)).vc U0 (fun _ => True) = vcTake2 := by kernel_rfl
def vcPcar0 (x0 : Sx.Rows) (x1 : Sx.Rows) (x2 : Int) (x3 : Int) (x4 : Int) (x5 : Int) (x6 : Int) (x7 : Int) (x13 : Sx.Rows) (x21 : Int) : Prop :=
 Nd ((Sx.cellAt x13 x21 1).toInt < 0) (
 Nd ((Sx.cellAt x13 x21 1).toInt < 0) (
 Nd ((Sx.cellAt x13 x21 1).toInt < 0) (
 Nd ((Sx.cellAt x13 x21 1).toInt < 0) (
 Nd ((Sx.cellAt x13 x21 1).toInt < 0) (
 Nd (pcarRel [.lst x0, .lst x1, .int x2, .int x3, .int x4, .int x5, .int x6, .int x7] [.bool false]) (
 True))))))
def vcPcar1 (x8 : Sx.Rows) (x9 : Sx.Rows) (x10 : Sx.Rows) (x11 : Sx.Rows) (x13 : Sx.Rows) (x21 : Int) (x22 : Sx.Rows) (x23 : Sx.Rows) (x24 : Sx.Rows) (x26 : Sx.Rows) : Prop :=
 Nd ((¬ ((x21 + 1) < (-9223372036854775808))) ∧ ((x21 + 1) < 9223372036854775808)) (
 Nd (¬ ((x23.length : Int) < (x23.length : Int))) (
 Nd ((x23.length : Int) = (x23.length : Int)) (
 Nd (¬ (((x24.length : Int) + 1) < ((x24.length : Int) + 1))) (
 Nd (((x24.length : Int) + 1) = ((x24.length : Int) + 1)) (
 Nd (q4Inv [.lst x13, .lst x8, .lst x9, .lst x10, .lst x11] [.int (x21 + 1), .lst x26, .lst x23, .lst (x24 ++ (Sx.chunk 1 1 [(.int (Sx.cellAt x13 x21 1).toInt)]))]) (
 Nd (q4Mu [.lst x13, .lst x8, .lst x9, .lst x10, .lst x11] [.int (x21 + 1), .lst x26, .lst x23, .lst (x24 ++ (Sx.chunk 1 1 [(.int (Sx.cellAt x13 x21 1).toInt)]))] < q4Mu [.lst x13, .lst x8, .lst x9, .lst x10, .lst x11] [.int x21, .lst x22, .lst x23, .lst x24]) (
 True)))))))
def vcPcar2 (x0 : Sx.Rows) (x1 : Sx.Rows) (x2 : Int) (x3 : Int) (x4 : Int) (x5 : Int) (x6 : Int) (x7 : Int) (x8 : Sx.Rows) (x9 : Sx.Rows) (x10 : Sx.Rows) (x11 : Sx.Rows) (x13 : Sx.Rows) (x21 : Int) (x22 : Sx.Rows) (x23 : Sx.Rows) (x24 : Sx.Rows) : Prop :=
 Nd (¬ (x21 < 0)) (
 Nd (x21 < (x9.length : Int)) (
 Nd (¬ ((Sx.cellAt x9 x21 1).toInt < 0)) (
 Nd ((Sx.cellAt x9 x21 1).toInt < (x23.length : Int)) (
 Nd ((Sx.cellAt x9 x21 1).toInt < (x23.length : Int)) (
((((Sx.cellAt x23 (Sx.cellAt x9 x21 1).toInt 0).toInt < 0) →
 Nd (pcarRel [.lst x0, .lst x1, .int x2, .int x3, .int x4, .int x5, .int x6, .int x7] [.bool false]) (
 True)) ∧ (¬ ((Sx.cellAt x23 (Sx.cellAt x9 x21 1).toInt 0).toInt < 0) →
 Nd ((¬ ((x21 + 1) < (-9223372036854775808))) ∧ ((x21 + 1) < 9223372036854775808)) (
 Nd (¬ ((x23.length : Int) < (x23.length : Int))) (
 Nd ((x23.length : Int) = (x23.length : Int)) (
 Nd (¬ (((x24.length : Int) + 1) < ((x24.length : Int) + 1))) (
 Nd (((x24.length : Int) + 1) = ((x24.length : Int) + 1)) (
 Nd (q4Inv [.lst x13, .lst x8, .lst x9, .lst x10, .lst x11] [.int (x21 + 1), .lst x22, .lst x23, .lst (x24 ++ (Sx.chunk 1 1 [(.int (Sx.cellAt x13 x21 1).toInt)]))]) (
 Nd (q4Mu [.lst x13, .lst x8, .lst x9, .lst x10, .lst x11] [.int (x21 + 1), .lst x22, .lst x23, .lst (x24 ++ (Sx.chunk 1 1 [(.int (Sx.cellAt x13 x21 1).toInt)]))] < q4Mu [.lst x13, .lst x8, .lst x9, .lst x10, .lst x11] [.int x21, .lst x22, .lst x23, .lst x24]) (
 True))))))))))))))
def vcPcar3 (x0 : Sx.Rows) (x1 : Sx.Rows) (x2 : Int) (x3 : Int) (x4 : Int) (x5 : Int) (x6 : Int) (x7 : Int) (x8 : Sx.Rows) (x13 : Sx.Rows) (x21 : Int) : Prop :=
 Nd (¬ ((Sx.cellAt x13 x21 1).toInt < (x8.length : Int))) (
 Nd (¬ ((Sx.cellAt x13 x21 1).toInt < (x8.length : Int))) (
 Nd (¬ ((Sx.cellAt x13 x21 1).toInt < (x8.length : Int))) (
 Nd (¬ ((Sx.cellAt x13 x21 1).toInt < (x8.length : Int))) (
 Nd (¬ ((Sx.cellAt x13 x21 1).toInt < (x8.length : Int))) (
 Nd (¬ ((Sx.cellAt x13 x21 1).toInt < (x8.length : Int))) (
 Nd (¬ ((Sx.cellAt x13 x21 1).toInt < (x8.length : Int))) (
 Nd (¬ ((Sx.cellAt x13 x21 1).toInt < (x8.length : Int))) (
 Nd (¬ ((Sx.cellAt x13 x21 1).toInt < (x8.length : Int))) (
 Nd (¬ ((Sx.cellAt x13 x21 1).toInt < (x8.length : Int))) (
 Nd (pcarRel [.lst x0, .lst x1, .int x2, .int x3, .int x4, .int x5, .int x6, .int x7] [.bool false]) (
 True)))))))))))
def vcPcar4 (x8 : Sx.Rows) (x9 : Sx.Rows) (x10 : Sx.Rows) (x11 : Sx.Rows) (x13 : Sx.Rows) (x21 : Int) (x22 : Sx.Rows) (x23 : Sx.Rows) (x24 : Sx.Rows) (x25 : Sx.Rows) : Prop :=
 Nd ((¬ ((x21 + 1) < (-9223372036854775808))) ∧ ((x21 + 1) < 9223372036854775808)) (
 Nd (¬ ((x23.length : Int) < (x23.length : Int))) (
 Nd ((x23.length : Int) = (x23.length : Int)) (
 Nd (¬ ((x24.length : Int) < (x24.length : Int))) (
 Nd ((x24.length : Int) = (x24.length : Int)) (
 Nd (q4Inv [.lst x13, .lst x8, .lst x9, .lst x10, .lst x11] [.int (x21 + 1), .lst x25, .lst (Sx.setAt x23 (Sx.cellAt x9 x21 1).toInt 0 (.int ((Sx.cellAt x23 (Sx.cellAt x9 x21 1).toInt 0).toInt + (-1)))), .lst x24]) (
 Nd (q4Mu [.lst x13, .lst x8, .lst x9, .lst x10, .lst x11] [.int (x21 + 1), .lst x25, .lst (Sx.setAt x23 (Sx.cellAt x9 x21 1).toInt 0 (.int ((Sx.cellAt x23 (Sx.cellAt x9 x21 1).toInt 0).toInt + (-1)))), .lst x24] < q4Mu [.lst x13, .lst x8, .lst x9, .lst x10, .lst x11] [.int x21, .lst x22, .lst x23, .lst x24]) (
 True)))))))
def vcPcar5 (x8 : Sx.Rows) (x9 : Sx.Rows) (x10 : Sx.Rows) (x11 : Sx.Rows) (x13 : Sx.Rows) (x21 : Int) (x22 : Sx.Rows) (x23 : Sx.Rows) (x24 : Sx.Rows) (x25 : Sx.Rows) : Prop :=
 Nd ((¬ ((x21 + 1) < (-9223372036854775808))) ∧ ((x21 + 1) < 9223372036854775808)) (
 Nd (¬ ((x23.length : Int) < (x23.length : Int))) (
 Nd ((x23.length : Int) = (x23.length : Int)) (
 Nd (¬ ((x24.length : Int) < (x24.length : Int))) (
 Nd ((x24.length : Int) = (x24.length : Int)) (
 Nd (q4Inv [.lst x13, .lst x8, .lst x9, .lst x10, .lst x11] [.int (x21 + 1), .lst x25, .lst x23, .lst x24]) (
 Nd (q4Mu [.lst x13, .lst x8, .lst x9, .lst x10, .lst x11] [.int (x21 + 1), .lst x25, .lst x23, .lst x24] < q4Mu [.lst x13, .lst x8, .lst x9, .lst x10, .lst x11] [.int x21, .lst x22, .lst x23, .lst x24]) (
 True)))))))
def vcPcar6 (x0 : Sx.Rows) (x1 : Sx.Rows) (x2 : Int) (x3 : Int) (x4 : Int) (x5 : Int) (x6 : Int) (x7 : Int) (x8 : Sx.Rows) (x9 : Sx.Rows) (x10 : Sx.Rows) (x11 : Sx.Rows) (x13 : Sx.Rows) (x21 : Int) (x22 : Sx.Rows) (x23 : Sx.Rows) (x24 : Sx.Rows) : Prop :=
((((Sx.cellAt x13 x21 1).toInt < 0) →
(vcPcar0 x0 x1 x2 x3 x4 x5 x6 x7 x13 x21)) ∧ (¬ ((Sx.cellAt x13 x21 1).toInt < 0) →
 Nd (¬ ((Sx.cellAt x13 x21 1).toInt < 0)) (
 Nd (¬ ((Sx.cellAt x13 x21 1).toInt < 0)) (
 Nd (¬ ((Sx.cellAt x13 x21 1).toInt < 0)) (
 Nd (¬ ((Sx.cellAt x13 x21 1).toInt < 0)) (
 Nd (¬ ((Sx.cellAt x13 x21 1).toInt < 0)) (
((((Sx.cellAt x13 x21 1).toInt < (x8.length : Int)) →
 Nd ((Sx.cellAt x13 x21 1).toInt < (x8.length : Int)) (
 Nd ((Sx.cellAt x13 x21 1).toInt < (x8.length : Int)) (
 Nd ((Sx.cellAt x13 x21 1).toInt < (x8.length : Int)) (
 Nd (¬ ((Sx.cellAt x13 x21 1).toInt < 0)) (
 Nd ((Sx.cellAt x13 x21 1).toInt < (x8.length : Int)) (
 Nd ((Sx.cellAt x13 x21 1).toInt < (x8.length : Int)) (
 Nd ((Sx.cellAt x13 x21 1).toInt < (x8.length : Int)) (
 Nd ((Sx.cellAt x13 x21 1).toInt < (x8.length : Int)) (
 Nd ((Sx.cellAt x13 x21 1).toInt < (x8.length : Int)) (
 Nd (¬ (x21 < 0)) (
 Nd (x21 < (x9.length : Int)) (
 Nd ((Sx.cellAt x13 x21 1).toInt < (x8.length : Int)) (
 Nd ((Sx.cellAt x13 x21 1).toInt < (x8.length : Int)) (
 Nd ((Sx.cellAt x13 x21 1).toInt < (x8.length : Int)) (
((((Sx.cellAt x8 (Sx.cellAt x13 x21 1).toInt 0).toInt = (Sx.cellAt x9 x21 0).toInt) →
((((Sx.cellAt x8 (Sx.cellAt x13 x21 1).toInt 1).toInt = (Sx.cellAt x9 x21 1).toInt) →
 Nd (¬ ((x24.length : Int) < (x24.length : Int))) (
 Nd (((x24.length : Int) + 1) < 67108865) (
 Nd ((x24.length : Int) = (x24.length : Int)) (
((((Sx.cellAt x13 x21 2).toBool = true) →
 Nd (¬ (x21 < 0)) (
 Nd (x21 < (x9.length : Int)) (
 Nd (take2Pre [.lst x22, .int (Sx.cellAt x9 x21 0).toInt]) (
 ∀ x25 : Sx.Rows,
(take2Rel [.lst x22, .int (Sx.cellAt x9 x21 0).toInt] [.lst x25]) →
 Nd (¬ (x21 < 0)) (
 Nd (x21 < (x9.length : Int)) (
 Nd (¬ ((x25.length : Int) < (x25.length : Int))) (
 Nd ((x25.length : Int) = (x25.length : Int)) (
 Nd (putPre [.lst x25, .int (Sx.cellAt x9 x21 0).toInt, .int 0]) (
 ∀ x26 : Sx.Rows,
(putRel [.lst x25, .int (Sx.cellAt x9 x21 0).toInt, .int 0] [.lst x26]) →
 Nd (¬ (x21 < 0)) (
 Nd (x21 < (x9.length : Int)) (
 Nd (¬ ((Sx.cellAt x9 x21 1).toInt < 0)) (
 Nd ((Sx.cellAt x9 x21 1).toInt < (x23.length : Int)) (
 Nd ((Sx.cellAt x9 x21 1).toInt < (x23.length : Int)) (
((((Sx.cellAt x23 (Sx.cellAt x9 x21 1).toInt 0).toInt < 0) →
 Nd (pcarRel [.lst x0, .lst x1, .int x2, .int x3, .int x4, .int x5, .int x6, .int x7] [.bool false]) (
 True)) ∧ (¬ ((Sx.cellAt x23 (Sx.cellAt x9 x21 1).toInt 0).toInt < 0) →
(vcPcar1 x8 x9 x10 x11 x13 x21 x22 x23 x24 x26))))))))))))))))) ∧ (¬ ((Sx.cellAt x13 x21 2).toBool = true) →
(vcPcar2 x0 x1 x2 x3 x4 x5 x6 x7 x8 x9 x10 x11 x13 x21 x22 x23 x24))))))) ∧ (¬ ((Sx.cellAt x8 (Sx.cellAt x13 x21 1).toInt 1).toInt = (Sx.cellAt x9 x21 1).toInt) →
 Nd (pcarRel [.lst x0, .lst x1, .int x2, .int x3, .int x4, .int x5, .int x6, .int x7] [.bool false]) (
 True)))) ∧ (¬ ((Sx.cellAt x8 (Sx.cellAt x13 x21 1).toInt 0).toInt = (Sx.cellAt x9 x21 0).toInt) →
 Nd (pcarRel [.lst x0, .lst x1, .int x2, .int x3, .int x4, .int x5, .int x6, .int x7] [.bool false]) (
 True)))))))))))))))))) ∧ (¬ ((Sx.cellAt x13 x21 1).toInt < (x8.length : Int)) →
(vcPcar3 x0 x1 x2 x3 x4 x5 x6 x7 x8 x13 x21))))))))))
def vcPcar7 (x0 : Sx.Rows) (x1 : Sx.Rows) (x2 : Int) (x3 : Int) (x4 : Int) (x5 : Int) (x6 : Int) (x7 : Int) (x8 : Sx.Rows) (x9 : Sx.Rows) (x10 : Sx.Rows) (x11 : Sx.Rows) (x13 : Sx.Rows) (x21 : Int) (x22 : Sx.Rows) (x23 : Sx.Rows) (x24 : Sx.Rows) : Prop :=
((((Sx.cellAt x13 x21 0).toInt = 2) →
 Nd (¬ (x21 < 0)) (
 Nd (x21 < (x9.length : Int)) (
 Nd (¬ ((Sx.cellAt x9 x21 1).toInt < 0)) (
 Nd ((Sx.cellAt x9 x21 1).toInt < (x23.length : Int)) (
 Nd ((Sx.cellAt x9 x21 1).toInt < (x23.length : Int)) (
 Nd ((¬ (((Sx.cellAt x23 (Sx.cellAt x9 x21 1).toInt 0).toInt + (-1)) < (-9223372036854775808))) ∧ (((Sx.cellAt x23 (Sx.cellAt x9 x21 1).toInt 0).toInt + (-1)) < 9223372036854775808)) (
 Nd (¬ ((Sx.cellAt x9 x21 1).toInt < 0)) (
 Nd ((Sx.cellAt x9 x21 1).toInt < (x23.length : Int)) (
 Nd ((Sx.cellAt x9 x21 1).toInt < (x23.length : Int)) (
 Nd (¬ (x21 < 0)) (
 Nd (x21 < (x9.length : Int)) (
 Nd (putPre [.lst x22, .int (Sx.cellAt x9 x21 0).toInt, .int 0]) (
 ∀ x25 : Sx.Rows,
(putRel [.lst x22, .int (Sx.cellAt x9 x21 0).toInt, .int 0] [.lst x25]) →
 Nd (¬ (x21 < 0)) (
 Nd (x21 < (x9.length : Int)) (
 Nd (¬ ((Sx.cellAt x9 x21 1).toInt < 0)) (
 Nd ((Sx.cellAt x9 x21 1).toInt < (x23.length : Int)) (
 Nd ((Sx.cellAt x9 x21 1).toInt < (x23.length : Int)) (
((((Sx.cellAt (Sx.setAt x23 (Sx.cellAt x9 x21 1).toInt 0 (.int ((Sx.cellAt x23 (Sx.cellAt x9 x21 1).toInt 0).toInt + (-1)))) (Sx.cellAt x9 x21 1).toInt 0).toInt < 0) →
 Nd (pcarRel [.lst x0, .lst x1, .int x2, .int x3, .int x4, .int x5, .int x6, .int x7] [.bool false]) (
 True)) ∧ (¬ ((Sx.cellAt (Sx.setAt x23 (Sx.cellAt x9 x21 1).toInt 0 (.int ((Sx.cellAt x23 (Sx.cellAt x9 x21 1).toInt 0).toInt + (-1)))) (Sx.cellAt x9 x21 1).toInt 0).toInt < 0) →
(vcPcar4 x8 x9 x10 x11 x13 x21 x22 x23 x24 x25))))))))))))))))))))) ∧ (¬ ((Sx.cellAt x13 x21 0).toInt = 2) →
 Nd (¬ (x21 < 0)) (
 Nd (x21 < (x9.length : Int)) (
 Nd (¬ ((Sx.cellAt x9 x21 1).toInt < 0)) (
 Nd ((Sx.cellAt x9 x21 1).toInt < (x23.length : Int)) (
 Nd ((Sx.cellAt x9 x21 1).toInt < (x23.length : Int)) (
((((Sx.cellAt x23 (Sx.cellAt x9 x21 1).toInt 0).toInt = 0) →
 Nd (¬ (x21 < 0)) (
 Nd (x21 < (x9.length : Int)) (
 Nd (putPre [.lst x22, .int (Sx.cellAt x9 x21 0).toInt, .int 0]) (
 ∀ x25 : Sx.Rows,
(putRel [.lst x22, .int (Sx.cellAt x9 x21 0).toInt, .int 0] [.lst x25]) →
 Nd (¬ (x21 < 0)) (
 Nd (x21 < (x9.length : Int)) (
 Nd (¬ ((Sx.cellAt x9 x21 1).toInt < 0)) (
 Nd ((Sx.cellAt x9 x21 1).toInt < (x23.length : Int)) (
 Nd ((Sx.cellAt x9 x21 1).toInt < (x23.length : Int)) (
((((Sx.cellAt x23 (Sx.cellAt x9 x21 1).toInt 0).toInt < 0) →
 Nd (pcarRel [.lst x0, .lst x1, .int x2, .int x3, .int x4, .int x5, .int x6, .int x7] [.bool false]) (
 True)) ∧ (¬ ((Sx.cellAt x23 (Sx.cellAt x9 x21 1).toInt 0).toInt < 0) →
(vcPcar5 x8 x9 x10 x11 x13 x21 x22 x23 x24 x25)))))))))))) ∧ (¬ ((Sx.cellAt x23 (Sx.cellAt x9 x21 1).toInt 0).toInt = 0) →
 Nd (pcarRel [.lst x0, .lst x1, .int x2, .int x3, .int x4, .int x5, .int x6, .int x7] [.bool false]) (
 True))))))))))
def vcPcar : Prop :=
 ∀ x0 : Sx.Rows,
 ∀ x1 : Sx.Rows,
 ∀ x2 : Int,
 ∀ x3 : Int,
 ∀ x4 : Int,
 ∀ x5 : Int,
 ∀ x6 : Int,
 ∀ x7 : Int,
(pcarPre [.lst x0, .lst x1, .int x2, .int x3, .int x4, .int x5, .int x6, .int x7]) →
 Nd (uofPre [.lst x0, .lst x1, .int x2, .int x3, .int x4, .int x5, .int x6, .int x7]) (
 ∀ x8 : Sx.Rows,
 ∀ x9 : Sx.Rows,
 ∀ x10 : Sx.Rows,
 ∀ x11 : Sx.Rows,
(uofRel [.lst x0, .lst x1, .int x2, .int x3, .int x4, .int x5, .int x6, .int x7] [.lst x8, .lst x9, .lst x10, .lst x11]) →
 Nd (ofPre [.lst x8, .lst x9, .lst x10, .lst x11]) (
 ∀ x12 : Sx.Rows,
 ∀ x13 : Sx.Rows,
 ∀ x14 : Int,
(ofRel [.lst x8, .lst x9, .lst x10, .lst x11] [.lst x12, .lst x13, .int x14]) →
 Nd (aheadPre [.lst x12, .lst x13]) (
 ∀ x15 : Sx.Rows,
(aheadRel [.lst x12, .lst x13] [.lst x15]) →
(((x14 = 0) →
 Nd (x14 = 0) (
 Nd (x14 = 0) (
 Nd (x14 = 0) (
 Nd (x14 = 0) (
 Nd (x14 = 0) (
 Nd (x14 = 0) (
((((x13.length : Int) = (x9.length : Int)) →
 Nd ((x13.length : Int) = (x9.length : Int)) (
 Nd ((x13.length : Int) = (x9.length : Int)) (
 Nd ((x13.length : Int) = (x9.length : Int)) (
 Nd ((x13.length : Int) = (x9.length : Int)) (
 Nd ((x13.length : Int) = (x9.length : Int)) (
((((x15.length : Int) = (x9.length : Int)) →
 Nd (q0Inv [.lst x8] [.int 0, .lst ([] : Sx.Rows)]) (
 ∀ x16 : Int,
 ∀ x17 : Sx.Rows,
(q0Inv [.lst x8] [.int x16, .lst x17]) →
(((x16 < (x8.length : Int)) →
 Nd (¬ (x16 < 0)) (
 Nd (x16 < (x8.length : Int)) (
 Nd (¬ ((x17.length : Int) < (x17.length : Int))) (
 Nd (((x17.length : Int) + 1) < 67108865) (
 Nd ((x17.length : Int) = (x17.length : Int)) (
 Nd ((¬ ((x16 + 1) < (-9223372036854775808))) ∧ ((x16 + 1) < 9223372036854775808)) (
 Nd (¬ (((x17.length : Int) + 1) < ((x17.length : Int) + 1))) (
 Nd (((x17.length : Int) + 1) = ((x17.length : Int) + 1)) (
 Nd (q0Inv [.lst x8] [.int (x16 + 1), .lst (x17 ++ (Sx.chunk 1 1 [(.int (Sx.cellAt x8 x16 0).toInt)]))]) (
 Nd (q0Mu [.lst x8] [.int (x16 + 1), .lst (x17 ++ (Sx.chunk 1 1 [(.int (Sx.cellAt x8 x16 0).toInt)]))] < q0Mu [.lst x8] [.int x16, .lst x17]) (
 True))))))))))) ∧ (¬ (x16 < (x8.length : Int)) →
 Nd ((x10.length : Int) < 67108865) (
 Nd (¬ ((x17.length : Int) < (x17.length : Int))) (
 Nd ((x17.length : Int) = (x17.length : Int)) (
 Nd (¬ ((x10.length : Int) < (x10.length : Int))) (
 Nd ((x10.length : Int) = (x10.length : Int)) (
 Nd (q2Inv [.lst x12, .lst x8, .lst x9, .lst x10, .lst x11] [.int 0, .lst x17, .lst x10]) (
 ∀ x18 : Int,
 ∀ x19 : Sx.Rows,
 ∀ x20 : Sx.Rows,
(q2Inv [.lst x12, .lst x8, .lst x9, .lst x10, .lst x11] [.int x18, .lst x19, .lst x20]) →
(((x18 < (x12.length : Int)) →
 Nd (¬ (x18 < 0)) (
 Nd (x18 < (x12.length : Int)) (
((((Sx.cellAt x12 x18 0).toInt < 0) →
 Nd ((Sx.cellAt x12 x18 0).toInt < 0) (
 Nd ((Sx.cellAt x12 x18 0).toInt < 0) (
 Nd ((Sx.cellAt x12 x18 0).toInt < 0) (
 Nd ((Sx.cellAt x12 x18 0).toInt < 0) (
 Nd (pcarRel [.lst x0, .lst x1, .int x2, .int x3, .int x4, .int x5, .int x6, .int x7] [.bool false]) (
 True)))))) ∧ (¬ ((Sx.cellAt x12 x18 0).toInt < 0) →
 Nd (¬ ((Sx.cellAt x12 x18 0).toInt < 0)) (
 Nd (¬ ((Sx.cellAt x12 x18 0).toInt < 0)) (
 Nd (¬ ((Sx.cellAt x12 x18 0).toInt < 0)) (
 Nd (¬ ((Sx.cellAt x12 x18 0).toInt < 0)) (
((((Sx.cellAt x12 x18 0).toInt < (x8.length : Int)) →
 Nd (¬ ((Sx.cellAt x12 x18 0).toInt < 0)) (
 Nd ((Sx.cellAt x12 x18 0).toInt < (x8.length : Int)) (
 Nd (take2Pre [.lst x19, .int (Sx.cellAt x8 (Sx.cellAt x12 x18 0).toInt 0).toInt]) (
 ∀ x21 : Sx.Rows,
(take2Rel [.lst x19, .int (Sx.cellAt x8 (Sx.cellAt x12 x18 0).toInt 0).toInt] [.lst x21]) →
 Nd (¬ (x18 < 0)) (
 Nd (x18 < (x12.length : Int)) (
((((Sx.cellAt x12 x18 1).toBool = true) →
 Nd (¬ ((Sx.cellAt x12 x18 0).toInt < 0)) (
 Nd ((Sx.cellAt x12 x18 0).toInt < (x8.length : Int)) (
 Nd (¬ ((Sx.cellAt x8 (Sx.cellAt x12 x18 0).toInt 1).toInt < 0)) (
 Nd ((Sx.cellAt x8 (Sx.cellAt x12 x18 0).toInt 1).toInt < (x20.length : Int)) (
 Nd ((Sx.cellAt x8 (Sx.cellAt x12 x18 0).toInt 1).toInt < (x20.length : Int)) (
 Nd (¬ ((Sx.cellAt x12 x18 0).toInt < 0)) (
 Nd ((Sx.cellAt x12 x18 0).toInt < (x8.length : Int)) (
 Nd (¬ ((Sx.cellAt x8 (Sx.cellAt x12 x18 0).toInt 1).toInt < 0)) (
 Nd ((Sx.cellAt x8 (Sx.cellAt x12 x18 0).toInt 1).toInt < (x11.length : Int)) (
((((Sx.cellAt x11 (Sx.cellAt x8 (Sx.cellAt x12 x18 0).toInt 1).toInt 0).toInt < (Sx.cellAt x20 (Sx.cellAt x8 (Sx.cellAt x12 x18 0).toInt 1).toInt 0).toInt) →
 Nd ((Sx.cellAt x11 (Sx.cellAt x8 (Sx.cellAt x12 x18 0).toInt 1).toInt 0).toInt < (Sx.cellAt x20 (Sx.cellAt x8 (Sx.cellAt x12 x18 0).toInt 1).toInt 0).toInt) (
 Nd ((Sx.cellAt x11 (Sx.cellAt x8 (Sx.cellAt x12 x18 0).toInt 1).toInt 0).toInt < (Sx.cellAt x20 (Sx.cellAt x8 (Sx.cellAt x12 x18 0).toInt 1).toInt 0).toInt) (
 Nd ((Sx.cellAt x11 (Sx.cellAt x8 (Sx.cellAt x12 x18 0).toInt 1).toInt 0).toInt < (Sx.cellAt x20 (Sx.cellAt x8 (Sx.cellAt x12 x18 0).toInt 1).toInt 0).toInt) (
 Nd ((Sx.cellAt x11 (Sx.cellAt x8 (Sx.cellAt x12 x18 0).toInt 1).toInt 0).toInt < (Sx.cellAt x20 (Sx.cellAt x8 (Sx.cellAt x12 x18 0).toInt 1).toInt 0).toInt) (
 Nd ((Sx.cellAt x11 (Sx.cellAt x8 (Sx.cellAt x12 x18 0).toInt 1).toInt 0).toInt < (Sx.cellAt x20 (Sx.cellAt x8 (Sx.cellAt x12 x18 0).toInt 1).toInt 0).toInt) (
 Nd ((Sx.cellAt x11 (Sx.cellAt x8 (Sx.cellAt x12 x18 0).toInt 1).toInt 0).toInt < (Sx.cellAt x20 (Sx.cellAt x8 (Sx.cellAt x12 x18 0).toInt 1).toInt 0).toInt) (
 Nd ((Sx.cellAt x11 (Sx.cellAt x8 (Sx.cellAt x12 x18 0).toInt 1).toInt 0).toInt < (Sx.cellAt x20 (Sx.cellAt x8 (Sx.cellAt x12 x18 0).toInt 1).toInt 0).toInt) (
 Nd ((Sx.cellAt x11 (Sx.cellAt x8 (Sx.cellAt x12 x18 0).toInt 1).toInt 0).toInt < (Sx.cellAt x20 (Sx.cellAt x8 (Sx.cellAt x12 x18 0).toInt 1).toInt 0).toInt) (
 Nd (pcarRel [.lst x0, .lst x1, .int x2, .int x3, .int x4, .int x5, .int x6, .int x7] [.bool false]) (
 True)))))))))) ∧ (¬ ((Sx.cellAt x11 (Sx.cellAt x8 (Sx.cellAt x12 x18 0).toInt 1).toInt 0).toInt < (Sx.cellAt x20 (Sx.cellAt x8 (Sx.cellAt x12 x18 0).toInt 1).toInt 0).toInt) →
 Nd (¬ ((Sx.cellAt x11 (Sx.cellAt x8 (Sx.cellAt x12 x18 0).toInt 1).toInt 0).toInt < (Sx.cellAt x20 (Sx.cellAt x8 (Sx.cellAt x12 x18 0).toInt 1).toInt 0).toInt)) (
 Nd (¬ ((Sx.cellAt x11 (Sx.cellAt x8 (Sx.cellAt x12 x18 0).toInt 1).toInt 0).toInt < (Sx.cellAt x20 (Sx.cellAt x8 (Sx.cellAt x12 x18 0).toInt 1).toInt 0).toInt)) (
 Nd (¬ ((Sx.cellAt x11 (Sx.cellAt x8 (Sx.cellAt x12 x18 0).toInt 1).toInt 0).toInt < (Sx.cellAt x20 (Sx.cellAt x8 (Sx.cellAt x12 x18 0).toInt 1).toInt 0).toInt)) (
 Nd (¬ (x18 < 0)) (
 Nd (x18 < (x12.length : Int)) (
 Nd (¬ ((Sx.cellAt x11 (Sx.cellAt x8 (Sx.cellAt x12 x18 0).toInt 1).toInt 0).toInt < (Sx.cellAt x20 (Sx.cellAt x8 (Sx.cellAt x12 x18 0).toInt 1).toInt 0).toInt)) (
 Nd (¬ ((Sx.cellAt x11 (Sx.cellAt x8 (Sx.cellAt x12 x18 0).toInt 1).toInt 0).toInt < (Sx.cellAt x20 (Sx.cellAt x8 (Sx.cellAt x12 x18 0).toInt 1).toInt 0).toInt)) (
 Nd (¬ ((Sx.cellAt x11 (Sx.cellAt x8 (Sx.cellAt x12 x18 0).toInt 1).toInt 0).toInt < (Sx.cellAt x20 (Sx.cellAt x8 (Sx.cellAt x12 x18 0).toInt 1).toInt 0).toInt)) (
 Nd ((Sx.cellAt x12 x18 1).toBool = true) (
 Nd ((Sx.cellAt x12 x18 1).toBool = true) (
 Nd ((Sx.cellAt x12 x18 1).toBool = true) (
 Nd ((Sx.cellAt x12 x18 1).toBool = true) (
 Nd (¬ ((Sx.cellAt x12 x18 0).toInt < 0)) (
 Nd ((Sx.cellAt x12 x18 0).toInt < (x8.length : Int)) (
 Nd ((Sx.cellAt x12 x18 1).toBool = true) (
 Nd ((Sx.cellAt x12 x18 1).toBool = true) (
 Nd ((Sx.cellAt x12 x18 1).toBool = true) (
 Nd (¬ ((Sx.cellAt x8 (Sx.cellAt x12 x18 0).toInt 1).toInt < 0)) (
 Nd ((Sx.cellAt x8 (Sx.cellAt x12 x18 0).toInt 1).toInt < (x20.length : Int)) (
 Nd ((Sx.cellAt x12 x18 1).toBool = true) (
 Nd ((Sx.cellAt x8 (Sx.cellAt x12 x18 0).toInt 1).toInt < (x20.length : Int)) (
 Nd ((Sx.cellAt x12 x18 1).toBool = true) (
 Nd ((Sx.cellAt x12 x18 1).toBool = true) (
 Nd ((Sx.cellAt x12 x18 1).toBool = true) (
 Nd ((Sx.cellAt x12 x18 1).toBool = true) (
 Nd (¬ ((Sx.cellAt x12 x18 0).toInt < 0)) (
 Nd ((Sx.cellAt x12 x18 0).toInt < (x8.length : Int)) (
 Nd ((Sx.cellAt x12 x18 1).toBool = true) (
 Nd ((Sx.cellAt x12 x18 1).toBool = true) (
 Nd ((Sx.cellAt x12 x18 1).toBool = true) (
 Nd (¬ ((Sx.cellAt x8 (Sx.cellAt x12 x18 0).toInt 1).toInt < 0)) (
 Nd ((Sx.cellAt x8 (Sx.cellAt x12 x18 0).toInt 1).toInt < (x11.length : Int)) (
 Nd ((Sx.cellAt x12 x18 1).toBool = true) (
 Nd ((Sx.cellAt x12 x18 1).toBool = true) (
 Nd (¬ ((Sx.cellAt x11 (Sx.cellAt x8 (Sx.cellAt x12 x18 0).toInt 1).toInt 0).toInt < (Sx.cellAt x20 (Sx.cellAt x8 (Sx.cellAt x12 x18 0).toInt 1).toInt 0).toInt)) (
 Nd ((Sx.cellAt x12 x18 1).toBool = true) (
 Nd (¬ ((Sx.cellAt x11 (Sx.cellAt x8 (Sx.cellAt x12 x18 0).toInt 1).toInt 0).toInt < (Sx.cellAt x20 (Sx.cellAt x8 (Sx.cellAt x12 x18 0).toInt 1).toInt 0).toInt)) (
((((Sx.cellAt x20 (Sx.cellAt x8 (Sx.cellAt x12 x18 0).toInt 1).toInt 0).toInt < (Sx.cellAt x11 (Sx.cellAt x8 (Sx.cellAt x12 x18 0).toInt 1).toInt 0).toInt) →
 Nd (pcarRel [.lst x0, .lst x1, .int x2, .int x3, .int x4, .int x5, .int x6, .int x7] [.bool false]) (
 True)) ∧ (¬ ((Sx.cellAt x20 (Sx.cellAt x8 (Sx.cellAt x12 x18 0).toInt 1).toInt 0).toInt < (Sx.cellAt x11 (Sx.cellAt x8 (Sx.cellAt x12 x18 0).toInt 1).toInt 0).toInt) →
 Nd ((¬ ((x18 + 1) < (-9223372036854775808))) ∧ ((x18 + 1) < 9223372036854775808)) (
 Nd (¬ ((x21.length : Int) < (x21.length : Int))) (
 Nd ((x21.length : Int) = (x21.length : Int)) (
 Nd (¬ ((x20.length : Int) < (x20.length : Int))) (
 Nd ((x20.length : Int) = (x20.length : Int)) (
 Nd (q2Inv [.lst x12, .lst x8, .lst x9, .lst x10, .lst x11] [.int (x18 + 1), .lst x21, .lst x20]) (
 Nd (q2Mu [.lst x12, .lst x8, .lst x9, .lst x10, .lst x11] [.int (x18 + 1), .lst x21, .lst x20] < q2Mu [.lst x12, .lst x8, .lst x9, .lst x10, .lst x11] [.int x18, .lst x19, .lst x20]) (
 True)))))))))))))))))))))))))))))))))))))))))))))))))))))))))) ∧ (¬ ((Sx.cellAt x12 x18 1).toBool = true) →
 Nd (¬ ((Sx.cellAt x12 x18 0).toInt < 0)) (
 Nd ((Sx.cellAt x12 x18 0).toInt < (x8.length : Int)) (
 Nd (¬ ((Sx.cellAt x8 (Sx.cellAt x12 x18 0).toInt 1).toInt < 0)) (
 Nd ((Sx.cellAt x8 (Sx.cellAt x12 x18 0).toInt 1).toInt < (x20.length : Int)) (
 Nd ((Sx.cellAt x8 (Sx.cellAt x12 x18 0).toInt 1).toInt < (x20.length : Int)) (
 Nd ((¬ (((Sx.cellAt x20 (Sx.cellAt x8 (Sx.cellAt x12 x18 0).toInt 1).toInt 0).toInt + 1) < (-9223372036854775808))) ∧ (((Sx.cellAt x20 (Sx.cellAt x8 (Sx.cellAt x12 x18 0).toInt 1).toInt 0).toInt + 1) < 9223372036854775808)) (
 Nd (¬ ((Sx.cellAt x8 (Sx.cellAt x12 x18 0).toInt 1).toInt < 0)) (
 Nd ((Sx.cellAt x8 (Sx.cellAt x12 x18 0).toInt 1).toInt < (x20.length : Int)) (
 Nd ((Sx.cellAt x8 (Sx.cellAt x12 x18 0).toInt 1).toInt < (x20.length : Int)) (
 Nd (¬ ((Sx.cellAt x12 x18 0).toInt < 0)) (
 Nd ((Sx.cellAt x12 x18 0).toInt < (x8.length : Int)) (
 Nd (¬ ((Sx.cellAt x8 (Sx.cellAt x12 x18 0).toInt 1).toInt < 0)) (
 Nd ((Sx.cellAt x8 (Sx.cellAt x12 x18 0).toInt 1).toInt < (x20.length : Int)) (
 Nd ((Sx.cellAt x8 (Sx.cellAt x12 x18 0).toInt 1).toInt < (x20.length : Int)) (
 Nd (¬ ((Sx.cellAt x12 x18 0).toInt < 0)) (
 Nd ((Sx.cellAt x12 x18 0).toInt < (x8.length : Int)) (
 Nd (¬ ((Sx.cellAt x8 (Sx.cellAt x12 x18 0).toInt 1).toInt < 0)) (
 Nd ((Sx.cellAt x8 (Sx.cellAt x12 x18 0).toInt 1).toInt < (x11.length : Int)) (
((((Sx.cellAt x11 (Sx.cellAt x8 (Sx.cellAt x12 x18 0).toInt 1).toInt 0).toInt < (Sx.cellAt (Sx.setAt x20 (Sx.cellAt x8 (Sx.cellAt x12 x18 0).toInt 1).toInt 0 (.int ((Sx.cellAt x20 (Sx.cellAt x8 (Sx.cellAt x12 x18 0).toInt 1).toInt 0).toInt + 1))) (Sx.cellAt x8 (Sx.cellAt x12 x18 0).toInt 1).toInt 0).toInt) →
 Nd ((Sx.cellAt x11 (Sx.cellAt x8 (Sx.cellAt x12 x18 0).toInt 1).toInt 0).toInt < (Sx.cellAt (Sx.setAt x20 (Sx.cellAt x8 (Sx.cellAt x12 x18 0).toInt 1).toInt 0 (.int ((Sx.cellAt x20 (Sx.cellAt x8 (Sx.cellAt x12 x18 0).toInt 1).toInt 0).toInt + 1))) (Sx.cellAt x8 (Sx.cellAt x12 x18 0).toInt 1).toInt 0).toInt) (
 Nd ((Sx.cellAt x11 (Sx.cellAt x8 (Sx.cellAt x12 x18 0).toInt 1).toInt 0).toInt < (Sx.cellAt (Sx.setAt x20 (Sx.cellAt x8 (Sx.cellAt x12 x18 0).toInt 1).toInt 0 (.int ((Sx.cellAt x20 (Sx.cellAt x8 (Sx.cellAt x12 x18 0).toInt 1).toInt 0).toInt + 1))) (Sx.cellAt x8 (Sx.cellAt x12 x18 0).toInt 1).toInt 0).toInt) (
 Nd ((Sx.cellAt x11 (Sx.cellAt x8 (Sx.cellAt x12 x18 0).toInt 1).toInt 0).toInt < (Sx.cellAt (Sx.setAt x20 (Sx.cellAt x8 (Sx.cellAt x12 x18 0).toInt 1).toInt 0 (.int ((Sx.cellAt x20 (Sx.cellAt x8 (Sx.cellAt x12 x18 0).toInt 1).toInt 0).toInt + 1))) (Sx.cellAt x8 (Sx.cellAt x12 x18 0).toInt 1).toInt 0).toInt) (
 Nd ((Sx.cellAt x11 (Sx.cellAt x8 (Sx.cellAt x12 x18 0).toInt 1).toInt 0).toInt < (Sx.cellAt (Sx.setAt x20 (Sx.cellAt x8 (Sx.cellAt x12 x18 0).toInt 1).toInt 0 (.int ((Sx.cellAt x20 (Sx.cellAt x8 (Sx.cellAt x12 x18 0).toInt 1).toInt 0).toInt + 1))) (Sx.cellAt x8 (Sx.cellAt x12 x18 0).toInt 1).toInt 0).toInt) (
 Nd ((Sx.cellAt x11 (Sx.cellAt x8 (Sx.cellAt x12 x18 0).toInt 1).toInt 0).toInt < (Sx.cellAt (Sx.setAt x20 (Sx.cellAt x8 (Sx.cellAt x12 x18 0).toInt 1).toInt 0 (.int ((Sx.cellAt x20 (Sx.cellAt x8 (Sx.cellAt x12 x18 0).toInt 1).toInt 0).toInt + 1))) (Sx.cellAt x8 (Sx.cellAt x12 x18 0).toInt 1).toInt 0).toInt) (
 Nd ((Sx.cellAt x11 (Sx.cellAt x8 (Sx.cellAt x12 x18 0).toInt 1).toInt 0).toInt < (Sx.cellAt (Sx.setAt x20 (Sx.cellAt x8 (Sx.cellAt x12 x18 0).toInt 1).toInt 0 (.int ((Sx.cellAt x20 (Sx.cellAt x8 (Sx.cellAt x12 x18 0).toInt 1).toInt 0).toInt + 1))) (Sx.cellAt x8 (Sx.cellAt x12 x18 0).toInt 1).toInt 0).toInt) (
 Nd ((Sx.cellAt x11 (Sx.cellAt x8 (Sx.cellAt x12 x18 0).toInt 1).toInt 0).toInt < (Sx.cellAt (Sx.setAt x20 (Sx.cellAt x8 (Sx.cellAt x12 x18 0).toInt 1).toInt 0 (.int ((Sx.cellAt x20 (Sx.cellAt x8 (Sx.cellAt x12 x18 0).toInt 1).toInt 0).toInt + 1))) (Sx.cellAt x8 (Sx.cellAt x12 x18 0).toInt 1).toInt 0).toInt) (
 Nd ((Sx.cellAt x11 (Sx.cellAt x8 (Sx.cellAt x12 x18 0).toInt 1).toInt 0).toInt < (Sx.cellAt (Sx.setAt x20 (Sx.cellAt x8 (Sx.cellAt x12 x18 0).toInt 1).toInt 0 (.int ((Sx.cellAt x20 (Sx.cellAt x8 (Sx.cellAt x12 x18 0).toInt 1).toInt 0).toInt + 1))) (Sx.cellAt x8 (Sx.cellAt x12 x18 0).toInt 1).toInt 0).toInt) (
 Nd (pcarRel [.lst x0, .lst x1, .int x2, .int x3, .int x4, .int x5, .int x6, .int x7] [.bool false]) (
 True)))))))))) ∧ (¬ ((Sx.cellAt x11 (Sx.cellAt x8 (Sx.cellAt x12 x18 0).toInt 1).toInt 0).toInt < (Sx.cellAt (Sx.setAt x20 (Sx.cellAt x8 (Sx.cellAt x12 x18 0).toInt 1).toInt 0 (.int ((Sx.cellAt x20 (Sx.cellAt x8 (Sx.cellAt x12 x18 0).toInt 1).toInt 0).toInt + 1))) (Sx.cellAt x8 (Sx.cellAt x12 x18 0).toInt 1).toInt 0).toInt) →
 Nd (¬ ((Sx.cellAt x11 (Sx.cellAt x8 (Sx.cellAt x12 x18 0).toInt 1).toInt 0).toInt < (Sx.cellAt (Sx.setAt x20 (Sx.cellAt x8 (Sx.cellAt x12 x18 0).toInt 1).toInt 0 (.int ((Sx.cellAt x20 (Sx.cellAt x8 (Sx.cellAt x12 x18 0).toInt 1).toInt 0).toInt + 1))) (Sx.cellAt x8 (Sx.cellAt x12 x18 0).toInt 1).toInt 0).toInt)) (
 Nd (¬ ((Sx.cellAt x11 (Sx.cellAt x8 (Sx.cellAt x12 x18 0).toInt 1).toInt 0).toInt < (Sx.cellAt (Sx.setAt x20 (Sx.cellAt x8 (Sx.cellAt x12 x18 0).toInt 1).toInt 0 (.int ((Sx.cellAt x20 (Sx.cellAt x8 (Sx.cellAt x12 x18 0).toInt 1).toInt 0).toInt + 1))) (Sx.cellAt x8 (Sx.cellAt x12 x18 0).toInt 1).toInt 0).toInt)) (
 Nd (¬ ((Sx.cellAt x11 (Sx.cellAt x8 (Sx.cellAt x12 x18 0).toInt 1).toInt 0).toInt < (Sx.cellAt (Sx.setAt x20 (Sx.cellAt x8 (Sx.cellAt x12 x18 0).toInt 1).toInt 0 (.int ((Sx.cellAt x20 (Sx.cellAt x8 (Sx.cellAt x12 x18 0).toInt 1).toInt 0).toInt + 1))) (Sx.cellAt x8 (Sx.cellAt x12 x18 0).toInt 1).toInt 0).toInt)) (
 Nd (¬ (x18 < 0)) (
 Nd (x18 < (x12.length : Int)) (
 Nd (¬ ((Sx.cellAt x11 (Sx.cellAt x8 (Sx.cellAt x12 x18 0).toInt 1).toInt 0).toInt < (Sx.cellAt (Sx.setAt x20 (Sx.cellAt x8 (Sx.cellAt x12 x18 0).toInt 1).toInt 0 (.int ((Sx.cellAt x20 (Sx.cellAt x8 (Sx.cellAt x12 x18 0).toInt 1).toInt 0).toInt + 1))) (Sx.cellAt x8 (Sx.cellAt x12 x18 0).toInt 1).toInt 0).toInt)) (
 Nd (¬ ((Sx.cellAt x11 (Sx.cellAt x8 (Sx.cellAt x12 x18 0).toInt 1).toInt 0).toInt < (Sx.cellAt (Sx.setAt x20 (Sx.cellAt x8 (Sx.cellAt x12 x18 0).toInt 1).toInt 0 (.int ((Sx.cellAt x20 (Sx.cellAt x8 (Sx.cellAt x12 x18 0).toInt 1).toInt 0).toInt + 1))) (Sx.cellAt x8 (Sx.cellAt x12 x18 0).toInt 1).toInt 0).toInt)) (
 Nd (¬ ((Sx.cellAt x11 (Sx.cellAt x8 (Sx.cellAt x12 x18 0).toInt 1).toInt 0).toInt < (Sx.cellAt (Sx.setAt x20 (Sx.cellAt x8 (Sx.cellAt x12 x18 0).toInt 1).toInt 0 (.int ((Sx.cellAt x20 (Sx.cellAt x8 (Sx.cellAt x12 x18 0).toInt 1).toInt 0).toInt + 1))) (Sx.cellAt x8 (Sx.cellAt x12 x18 0).toInt 1).toInt 0).toInt)) (
 Nd (¬ ((Sx.cellAt x12 x18 1).toBool = true)) (
 Nd (¬ ((Sx.cellAt x12 x18 1).toBool = true)) (
 Nd (¬ ((Sx.cellAt x12 x18 1).toBool = true)) (
 Nd (¬ ((Sx.cellAt x12 x18 1).toBool = true)) (
 Nd (¬ ((Sx.cellAt x12 x18 1).toBool = true)) (
 Nd (¬ ((Sx.cellAt x12 x18 1).toBool = true)) (
 Nd (¬ ((Sx.cellAt x12 x18 1).toBool = true)) (
 Nd (¬ ((Sx.cellAt x12 x18 1).toBool = true)) (
 Nd (¬ ((Sx.cellAt x12 x18 1).toBool = true)) (
 Nd (¬ ((Sx.cellAt x12 x18 1).toBool = true)) (
 Nd (¬ ((Sx.cellAt x12 x18 1).toBool = true)) (
 Nd (¬ ((Sx.cellAt x12 x18 1).toBool = true)) (
 Nd (¬ ((Sx.cellAt x12 x18 1).toBool = true)) (
 Nd (¬ ((Sx.cellAt x12 x18 1).toBool = true)) (
 Nd (¬ ((Sx.cellAt x12 x18 1).toBool = true)) (
 Nd (¬ ((Sx.cellAt x12 x18 1).toBool = true)) (
 Nd (¬ ((Sx.cellAt x12 x18 1).toBool = true)) (
 Nd (¬ ((Sx.cellAt x11 (Sx.cellAt x8 (Sx.cellAt x12 x18 0).toInt 1).toInt 0).toInt < (Sx.cellAt (Sx.setAt x20 (Sx.cellAt x8 (Sx.cellAt x12 x18 0).toInt 1).toInt 0 (.int ((Sx.cellAt x20 (Sx.cellAt x8 (Sx.cellAt x12 x18 0).toInt 1).toInt 0).toInt + 1))) (Sx.cellAt x8 (Sx.cellAt x12 x18 0).toInt 1).toInt 0).toInt)) (
 Nd (¬ ((Sx.cellAt x12 x18 1).toBool = true)) (
 Nd (¬ ((Sx.cellAt x11 (Sx.cellAt x8 (Sx.cellAt x12 x18 0).toInt 1).toInt 0).toInt < (Sx.cellAt (Sx.setAt x20 (Sx.cellAt x8 (Sx.cellAt x12 x18 0).toInt 1).toInt 0 (.int ((Sx.cellAt x20 (Sx.cellAt x8 (Sx.cellAt x12 x18 0).toInt 1).toInt 0).toInt + 1))) (Sx.cellAt x8 (Sx.cellAt x12 x18 0).toInt 1).toInt 0).toInt)) (
 Nd ((¬ ((x18 + 1) < (-9223372036854775808))) ∧ ((x18 + 1) < 9223372036854775808)) (
 Nd (¬ ((x21.length : Int) < (x21.length : Int))) (
 Nd ((x21.length : Int) = (x21.length : Int)) (
 Nd (¬ ((x20.length : Int) < (x20.length : Int))) (
 Nd ((x20.length : Int) = (x20.length : Int)) (
 Nd (q2Inv [.lst x12, .lst x8, .lst x9, .lst x10, .lst x11] [.int (x18 + 1), .lst x21, .lst (Sx.setAt x20 (Sx.cellAt x8 (Sx.cellAt x12 x18 0).toInt 1).toInt 0 (.int ((Sx.cellAt x20 (Sx.cellAt x8 (Sx.cellAt x12 x18 0).toInt 1).toInt 0).toInt + 1)))]) (
 Nd (q2Mu [.lst x12, .lst x8, .lst x9, .lst x10, .lst x11] [.int (x18 + 1), .lst x21, .lst (Sx.setAt x20 (Sx.cellAt x8 (Sx.cellAt x12 x18 0).toInt 1).toInt 0 (.int ((Sx.cellAt x20 (Sx.cellAt x8 (Sx.cellAt x12 x18 0).toInt 1).toInt 0).toInt + 1)))] < q2Mu [.lst x12, .lst x8, .lst x9, .lst x10, .lst x11] [.int x18, .lst x19, .lst x20]) (
 True))))))))))))))))))))))))))))))))))))))))))))))))))))))))))))))) ∧ (¬ ((Sx.cellAt x12 x18 0).toInt < (x8.length : Int)) →
 Nd (pcarRel [.lst x0, .lst x1, .int x2, .int x3, .int x4, .int x5, .int x6, .int x7] [.bool false]) (
 True)))))))))))) ∧ (¬ (x18 < (x12.length : Int)) →
 Nd (¬ ((x20.length : Int) < (x20.length : Int))) (
 Nd ((x20.length : Int) = (x20.length : Int)) (
 Nd (q4Inv [.lst x13, .lst x8, .lst x9, .lst x10, .lst x11] [.int 0, .lst x19, .lst x20, .lst ([] : Sx.Rows)]) (
 ∀ x21 : Int,
 ∀ x22 : Sx.Rows,
 ∀ x23 : Sx.Rows,
 ∀ x24 : Sx.Rows,
(q4Inv [.lst x13, .lst x8, .lst x9, .lst x10, .lst x11] [.int x21, .lst x22, .lst x23, .lst x24]) →
(((x21 < (x9.length : Int)) →
 Nd (¬ (x21 < 0)) (
 Nd (x21 < (x13.length : Int)) (
 Nd (¬ (x21 < 0)) (
 Nd (x21 < (x15.length : Int)) (
(((x21 < (Sx.cellAt x15 x21 0).toInt) →
 Nd (x21 < (Sx.cellAt x15 x21 0).toInt) (
 Nd (x21 < (Sx.cellAt x15 x21 0).toInt) (
 Nd (¬ (x21 < 0)) (
 Nd (x21 < (x15.length : Int)) (
 Nd (x21 < (Sx.cellAt x15 x21 0).toInt) (
 Nd (x21 < (Sx.cellAt x15 x21 0).toInt) (
 Nd (x21 < (Sx.cellAt x15 x21 0).toInt) (
 Nd (x21 < (Sx.cellAt x15 x21 0).toInt) (
 Nd (x21 < (Sx.cellAt x15 x21 0).toInt) (
((((Sx.cellAt x15 x21 0).toInt < (x9.length : Int)) →
 Nd (¬ (x21 < 0)) (
 Nd (x21 < (x15.length : Int)) (
 Nd (¬ ((Sx.cellAt x15 x21 0).toInt < 0)) (
 Nd ((Sx.cellAt x15 x21 0).toInt < (x9.length : Int)) (
((((Sx.cellAt x13 x21 0).toInt = 1) →
((((Sx.cellAt x13 x21 1).toInt < 0) →
(vcPcar0 x0 x1 x2 x3 x4 x5 x6 x7 x13 x21)) ∧ (¬ ((Sx.cellAt x13 x21 1).toInt < 0) →
 Nd (¬ ((Sx.cellAt x13 x21 1).toInt < 0)) (
 Nd (¬ ((Sx.cellAt x13 x21 1).toInt < 0)) (
 Nd (¬ ((Sx.cellAt x13 x21 1).toInt < 0)) (
 Nd (¬ ((Sx.cellAt x13 x21 1).toInt < 0)) (
 Nd (¬ ((Sx.cellAt x13 x21 1).toInt < 0)) (
((((Sx.cellAt x13 x21 1).toInt < (x8.length : Int)) →
 Nd ((Sx.cellAt x13 x21 1).toInt < (x8.length : Int)) (
 Nd ((Sx.cellAt x13 x21 1).toInt < (x8.length : Int)) (
 Nd ((Sx.cellAt x13 x21 1).toInt < (x8.length : Int)) (
 Nd (¬ ((Sx.cellAt x13 x21 1).toInt < 0)) (
 Nd ((Sx.cellAt x13 x21 1).toInt < (x8.length : Int)) (
 Nd ((Sx.cellAt x13 x21 1).toInt < (x8.length : Int)) (
 Nd ((Sx.cellAt x13 x21 1).toInt < (x8.length : Int)) (
 Nd ((Sx.cellAt x13 x21 1).toInt < (x8.length : Int)) (
 Nd ((Sx.cellAt x13 x21 1).toInt < (x8.length : Int)) (
 Nd (¬ (x21 < 0)) (
 Nd (x21 < (x9.length : Int)) (
 Nd ((Sx.cellAt x13 x21 1).toInt < (x8.length : Int)) (
 Nd ((Sx.cellAt x13 x21 1).toInt < (x8.length : Int)) (
 Nd ((Sx.cellAt x13 x21 1).toInt < (x8.length : Int)) (
((((Sx.cellAt x8 (Sx.cellAt x13 x21 1).toInt 0).toInt = (Sx.cellAt x9 x21 0).toInt) →
((((Sx.cellAt x8 (Sx.cellAt x13 x21 1).toInt 1).toInt = (Sx.cellAt x9 x21 1).toInt) →
 Nd (¬ ((x24.length : Int) < (x24.length : Int))) (
 Nd (((x24.length : Int) + 1) < 67108865) (
 Nd ((x24.length : Int) = (x24.length : Int)) (
((((Sx.cellAt x13 x21 2).toBool = true) →
 Nd (¬ (x21 < 0)) (
 Nd (x21 < (x9.length : Int)) (
 Nd (take2Pre [.lst x22, .int (Sx.cellAt x9 x21 0).toInt]) (
 ∀ x25 : Sx.Rows,
(take2Rel [.lst x22, .int (Sx.cellAt x9 x21 0).toInt] [.lst x25]) →
 Nd (¬ (x21 < 0)) (
 Nd (x21 < (x9.length : Int)) (
 Nd (¬ ((x25.length : Int) < (x25.length : Int))) (
 Nd ((x25.length : Int) = (x25.length : Int)) (
 Nd (putPre [.lst x25, .int (Sx.cellAt x9 x21 0).toInt, .int (Sx.cellAt x9 (Sx.cellAt x15 x21 0).toInt 0).toInt]) (
 ∀ x26 : Sx.Rows,
(putRel [.lst x25, .int (Sx.cellAt x9 x21 0).toInt, .int (Sx.cellAt x9 (Sx.cellAt x15 x21 0).toInt 0).toInt] [.lst x26]) →
 Nd (¬ (x21 < 0)) (
 Nd (x21 < (x9.length : Int)) (
 Nd (¬ ((Sx.cellAt x9 x21 1).toInt < 0)) (
 Nd ((Sx.cellAt x9 x21 1).toInt < (x23.length : Int)) (
 Nd ((Sx.cellAt x9 x21 1).toInt < (x23.length : Int)) (
((((Sx.cellAt x23 (Sx.cellAt x9 x21 1).toInt 0).toInt < 0) →
 Nd (pcarRel [.lst x0, .lst x1, .int x2, .int x3, .int x4, .int x5, .int x6, .int x7] [.bool false]) (
 True)) ∧ (¬ ((Sx.cellAt x23 (Sx.cellAt x9 x21 1).toInt 0).toInt < 0) →
(vcPcar1 x8 x9 x10 x11 x13 x21 x22 x23 x24 x26))))))))))))))))) ∧ (¬ ((Sx.cellAt x13 x21 2).toBool = true) →
(vcPcar2 x0 x1 x2 x3 x4 x5 x6 x7 x8 x9 x10 x11 x13 x21 x22 x23 x24))))))) ∧ (¬ ((Sx.cellAt x8 (Sx.cellAt x13 x21 1).toInt 1).toInt = (Sx.cellAt x9 x21 1).toInt) →
 Nd (pcarRel [.lst x0, .lst x1, .int x2, .int x3, .int x4, .int x5, .int x6, .int x7] [.bool false]) (
 True)))) ∧ (¬ ((Sx.cellAt x8 (Sx.cellAt x13 x21 1).toInt 0).toInt = (Sx.cellAt x9 x21 0).toInt) →
 Nd (pcarRel [.lst x0, .lst x1, .int x2, .int x3, .int x4, .int x5, .int x6, .int x7] [.bool false]) (
 True)))))))))))))))))) ∧ (¬ ((Sx.cellAt x13 x21 1).toInt < (x8.length : Int)) →
(vcPcar3 x0 x1 x2 x3 x4 x5 x6 x7 x8 x13 x21))))))))))) ∧ (¬ ((Sx.cellAt x13 x21 0).toInt = 1) →
((((Sx.cellAt x13 x21 0).toInt = 2) →
 Nd (¬ (x21 < 0)) (
 Nd (x21 < (x9.length : Int)) (
 Nd (¬ ((Sx.cellAt x9 x21 1).toInt < 0)) (
 Nd ((Sx.cellAt x9 x21 1).toInt < (x23.length : Int)) (
 Nd ((Sx.cellAt x9 x21 1).toInt < (x23.length : Int)) (
 Nd ((¬ (((Sx.cellAt x23 (Sx.cellAt x9 x21 1).toInt 0).toInt + (-1)) < (-9223372036854775808))) ∧ (((Sx.cellAt x23 (Sx.cellAt x9 x21 1).toInt 0).toInt + (-1)) < 9223372036854775808)) (
 Nd (¬ ((Sx.cellAt x9 x21 1).toInt < 0)) (
 Nd ((Sx.cellAt x9 x21 1).toInt < (x23.length : Int)) (
 Nd ((Sx.cellAt x9 x21 1).toInt < (x23.length : Int)) (
 Nd (¬ (x21 < 0)) (
 Nd (x21 < (x9.length : Int)) (
 Nd (putPre [.lst x22, .int (Sx.cellAt x9 x21 0).toInt, .int (Sx.cellAt x9 (Sx.cellAt x15 x21 0).toInt 0).toInt]) (
 ∀ x25 : Sx.Rows,
(putRel [.lst x22, .int (Sx.cellAt x9 x21 0).toInt, .int (Sx.cellAt x9 (Sx.cellAt x15 x21 0).toInt 0).toInt] [.lst x25]) →
 Nd (¬ (x21 < 0)) (
 Nd (x21 < (x9.length : Int)) (
 Nd (¬ ((Sx.cellAt x9 x21 1).toInt < 0)) (
 Nd ((Sx.cellAt x9 x21 1).toInt < (x23.length : Int)) (
 Nd ((Sx.cellAt x9 x21 1).toInt < (x23.length : Int)) (
((((Sx.cellAt (Sx.setAt x23 (Sx.cellAt x9 x21 1).toInt 0 (.int ((Sx.cellAt x23 (Sx.cellAt x9 x21 1).toInt 0).toInt + (-1)))) (Sx.cellAt x9 x21 1).toInt 0).toInt < 0) →
 Nd (pcarRel [.lst x0, .lst x1, .int x2, .int x3, .int x4, .int x5, .int x6, .int x7] [.bool false]) (
 True)) ∧ (¬ ((Sx.cellAt (Sx.setAt x23 (Sx.cellAt x9 x21 1).toInt 0 (.int ((Sx.cellAt x23 (Sx.cellAt x9 x21 1).toInt 0).toInt + (-1)))) (Sx.cellAt x9 x21 1).toInt 0).toInt < 0) →
(vcPcar4 x8 x9 x10 x11 x13 x21 x22 x23 x24 x25))))))))))))))))))))) ∧ (¬ ((Sx.cellAt x13 x21 0).toInt = 2) →
 Nd (¬ (x21 < 0)) (
 Nd (x21 < (x9.length : Int)) (
 Nd (¬ ((Sx.cellAt x9 x21 1).toInt < 0)) (
 Nd ((Sx.cellAt x9 x21 1).toInt < (x23.length : Int)) (
 Nd ((Sx.cellAt x9 x21 1).toInt < (x23.length : Int)) (
((((Sx.cellAt x23 (Sx.cellAt x9 x21 1).toInt 0).toInt = 0) →
 Nd (¬ (x21 < 0)) (
 Nd (x21 < (x9.length : Int)) (
 Nd (putPre [.lst x22, .int (Sx.cellAt x9 x21 0).toInt, .int (Sx.cellAt x9 (Sx.cellAt x15 x21 0).toInt 0).toInt]) (
 ∀ x25 : Sx.Rows,
(putRel [.lst x22, .int (Sx.cellAt x9 x21 0).toInt, .int (Sx.cellAt x9 (Sx.cellAt x15 x21 0).toInt 0).toInt] [.lst x25]) →
 Nd (¬ (x21 < 0)) (
 Nd (x21 < (x9.length : Int)) (
 Nd (¬ ((Sx.cellAt x9 x21 1).toInt < 0)) (
 Nd ((Sx.cellAt x9 x21 1).toInt < (x23.length : Int)) (
 Nd ((Sx.cellAt x9 x21 1).toInt < (x23.length : Int)) (
((((Sx.cellAt x23 (Sx.cellAt x9 x21 1).toInt 0).toInt < 0) →
 Nd (pcarRel [.lst x0, .lst x1, .int x2, .int x3, .int x4, .int x5, .int x6, .int x7] [.bool false]) (
 True)) ∧ (¬ ((Sx.cellAt x23 (Sx.cellAt x9 x21 1).toInt 0).toInt < 0) →
(vcPcar5 x8 x9 x10 x11 x13 x21 x22 x23 x24 x25)))))))))))) ∧ (¬ ((Sx.cellAt x23 (Sx.cellAt x9 x21 1).toInt 0).toInt = 0) →
 Nd (pcarRel [.lst x0, .lst x1, .int x2, .int x3, .int x4, .int x5, .int x6, .int x7] [.bool false]) (
 True))))))))))))))))) ∧ (¬ ((Sx.cellAt x15 x21 0).toInt < (x9.length : Int)) →
((((Sx.cellAt x13 x21 0).toInt = 1) →
(vcPcar6 x0 x1 x2 x3 x4 x5 x6 x7 x8 x9 x10 x11 x13 x21 x22 x23 x24)) ∧ (¬ ((Sx.cellAt x13 x21 0).toInt = 1) →
(vcPcar7 x0 x1 x2 x3 x4 x5 x6 x7 x8 x9 x10 x11 x13 x21 x22 x23 x24))))))))))))))) ∧ (¬ (x21 < (Sx.cellAt x15 x21 0).toInt) →
 Nd (¬ (x21 < (Sx.cellAt x15 x21 0).toInt)) (
 Nd (¬ (x21 < (Sx.cellAt x15 x21 0).toInt)) (
 Nd (¬ (x21 < (Sx.cellAt x15 x21 0).toInt)) (
 Nd (¬ (x21 < (Sx.cellAt x15 x21 0).toInt)) (
 Nd (¬ (x21 < (Sx.cellAt x15 x21 0).toInt)) (
 Nd (¬ (x21 < (Sx.cellAt x15 x21 0).toInt)) (
 Nd (¬ (x21 < (Sx.cellAt x15 x21 0).toInt)) (
((((Sx.cellAt x13 x21 0).toInt = 1) →
(vcPcar6 x0 x1 x2 x3 x4 x5 x6 x7 x8 x9 x10 x11 x13 x21 x22 x23 x24)) ∧ (¬ ((Sx.cellAt x13 x21 0).toInt = 1) →
(vcPcar7 x0 x1 x2 x3 x4 x5 x6 x7 x8 x9 x10 x11 x13 x21 x22 x23 x24))))))))))))))))) ∧ (¬ (x21 < (x9.length : Int)) →
((((x22.length : Int) = (x9.length : Int)) →
 Nd ((x22.length : Int) = (x9.length : Int)) (
 Nd (nmovesPre [.lst x12, .lst x13]) (
 ∀ x25 : Int,
(nmovesRel [.lst x12, .lst x13] [.int x25]) →
 Nd ((x22.length : Int) = (x9.length : Int)) (
 Nd ((x22.length : Int) = (x9.length : Int)) (
 Nd ((x22.length : Int) = (x9.length : Int)) (
 Nd ((x22.length : Int) = (x9.length : Int)) (
 Nd (¬ ((x24.length : Int) < (x24.length : Int))) (
 Nd ((x24.length : Int) = (x24.length : Int)) (
 Nd (rlongestPre [.lst x24]) (
 ∀ x26 : Int,
(rlongestRel [.lst x24] [.int x26]) →
 Nd ((x22.length : Int) = (x9.length : Int)) (
 Nd ((¬ (((x24.length : Int) - x26) < (-9223372036854775808))) ∧ (((x24.length : Int) - x26) < 9223372036854775808)) (
 Nd ((x22.length : Int) = (x9.length : Int)) (
 Nd ((x22.length : Int) = (x9.length : Int)) (
(((x25 = ((x24.length : Int) - x26)) →
 Nd (0 < (x23.length : Int)) (
 Nd (0 < (x23.length : Int)) (
 Nd ((¬ ((Sx.cellAt x23 0 0).toInt < (-9223372036854775808))) ∧ ((Sx.cellAt x23 0 0).toInt < 9223372036854775808)) (
 Nd (0 < (x10.length : Int)) (
 Nd ((¬ (((Sx.cellAt x23 0 0).toInt - (Sx.cellAt x10 0 0).toInt) < (-9223372036854775808))) ∧ (((Sx.cellAt x23 0 0).toInt - (Sx.cellAt x10 0 0).toInt) < 9223372036854775808)) (
 Nd (1 < (x23.length : Int)) (
 Nd (1 < (x23.length : Int)) (
 Nd ((¬ ((((Sx.cellAt x23 0 0).toInt - (Sx.cellAt x10 0 0).toInt) + (Sx.cellAt x23 1 0).toInt) < (-9223372036854775808))) ∧ ((((Sx.cellAt x23 0 0).toInt - (Sx.cellAt x10 0 0).toInt) + (Sx.cellAt x23 1 0).toInt) < 9223372036854775808)) (
 Nd (1 < (x10.length : Int)) (
 Nd ((¬ (((((Sx.cellAt x23 0 0).toInt - (Sx.cellAt x10 0 0).toInt) + (Sx.cellAt x23 1 0).toInt) - (Sx.cellAt x10 1 0).toInt) < (-9223372036854775808))) ∧ (((((Sx.cellAt x23 0 0).toInt - (Sx.cellAt x10 0 0).toInt) + (Sx.cellAt x23 1 0).toInt) - (Sx.cellAt x10 1 0).toInt) < 9223372036854775808)) (
 Nd (2 < (x23.length : Int)) (
 Nd (2 < (x23.length : Int)) (
 Nd ((¬ ((((((Sx.cellAt x23 0 0).toInt - (Sx.cellAt x10 0 0).toInt) + (Sx.cellAt x23 1 0).toInt) - (Sx.cellAt x10 1 0).toInt) + (Sx.cellAt x23 2 0).toInt) < (-9223372036854775808))) ∧ ((((((Sx.cellAt x23 0 0).toInt - (Sx.cellAt x10 0 0).toInt) + (Sx.cellAt x23 1 0).toInt) - (Sx.cellAt x10 1 0).toInt) + (Sx.cellAt x23 2 0).toInt) < 9223372036854775808)) (
 Nd (2 < (x10.length : Int)) (
 Nd ((¬ (((((((Sx.cellAt x23 0 0).toInt - (Sx.cellAt x10 0 0).toInt) + (Sx.cellAt x23 1 0).toInt) - (Sx.cellAt x10 1 0).toInt) + (Sx.cellAt x23 2 0).toInt) - (Sx.cellAt x10 2 0).toInt) < (-9223372036854775808))) ∧ (((((((Sx.cellAt x23 0 0).toInt - (Sx.cellAt x10 0 0).toInt) + (Sx.cellAt x23 1 0).toInt) - (Sx.cellAt x10 1 0).toInt) + (Sx.cellAt x23 2 0).toInt) - (Sx.cellAt x10 2 0).toInt) < 9223372036854775808)) (
 Nd (q9Inv [.lst x9] [.int 0]) (
 ∀ x27 : Int,
(q9Inv [.lst x9] [.int x27]) →
(((x27 < (x9.length : Int)) →
 Nd (¬ (x27 < 0)) (
 Nd (x27 < (x22.length : Int)) (
 Nd (¬ (x27 < 0)) (
 Nd (x27 < (x9.length : Int)) (
((((Sx.cellAt x22 x27 0).toInt = (Sx.cellAt x9 x27 0).toInt) →
 Nd ((¬ ((x27 + 1) < (-9223372036854775808))) ∧ ((x27 + 1) < 9223372036854775808)) (
 Nd (q9Inv [.lst x9] [.int (x27 + 1)]) (
 Nd (q9Mu [.lst x9] [.int (x27 + 1)] < q9Mu [.lst x9] [.int x27]) (
 True)))) ∧ (¬ ((Sx.cellAt x22 x27 0).toInt = (Sx.cellAt x9 x27 0).toInt) →
 Nd (pcarRel [.lst x0, .lst x1, .int x2, .int x3, .int x4, .int x5, .int x6, .int x7] [.bool false]) (
 True)))))))) ∧ (¬ (x27 < (x9.length : Int)) →
 Nd (nmakesPre [.lst x12, .lst x13]) (
 ∀ x28 : Int,
(nmakesRel [.lst x12, .lst x13] [.int x28]) →
 Nd ((¬ (((x8.length : Int) + x28) < (-9223372036854775808))) ∧ (((x8.length : Int) + x28) < 9223372036854775808)) (
 Nd ((¬ (((x9.length : Int) + ((((((Sx.cellAt x23 0 0).toInt - (Sx.cellAt x10 0 0).toInt) + (Sx.cellAt x23 1 0).toInt) - (Sx.cellAt x10 1 0).toInt) + (Sx.cellAt x23 2 0).toInt) - (Sx.cellAt x10 2 0).toInt)) < (-9223372036854775808))) ∧ (((x9.length : Int) + ((((((Sx.cellAt x23 0 0).toInt - (Sx.cellAt x10 0 0).toInt) + (Sx.cellAt x23 1 0).toInt) - (Sx.cellAt x10 1 0).toInt) + (Sx.cellAt x23 2 0).toInt) - (Sx.cellAt x10 2 0).toInt)) < 9223372036854775808)) (
 Nd (ndropsPre [.lst x12, .lst x13]) (
 ∀ x29 : Int,
(ndropsRel [.lst x12, .lst x13] [.int x29]) →
 Nd ((¬ ((((x9.length : Int) + ((((((Sx.cellAt x23 0 0).toInt - (Sx.cellAt x10 0 0).toInt) + (Sx.cellAt x23 1 0).toInt) - (Sx.cellAt x10 1 0).toInt) + (Sx.cellAt x23 2 0).toInt) - (Sx.cellAt x10 2 0).toInt)) + x29) < (-9223372036854775808))) ∧ ((((x9.length : Int) + ((((((Sx.cellAt x23 0 0).toInt - (Sx.cellAt x10 0 0).toInt) + (Sx.cellAt x23 1 0).toInt) - (Sx.cellAt x10 1 0).toInt) + (Sx.cellAt x23 2 0).toInt) - (Sx.cellAt x10 2 0).toInt)) + x29) < 9223372036854775808)) (
(((((x8.length : Int) + x28) = (((x9.length : Int) + ((((((Sx.cellAt x23 0 0).toInt - (Sx.cellAt x10 0 0).toInt) + (Sx.cellAt x23 1 0).toInt) - (Sx.cellAt x10 1 0).toInt) + (Sx.cellAt x23 2 0).toInt) - (Sx.cellAt x10 2 0).toInt)) + x29)) →
 Nd (livesPre []) (
 ∀ x30 : Bool,
(livesRel [] [.bool x30]) →
 Nd (((x8.length : Int) + x28) = (((x9.length : Int) + ((((((Sx.cellAt x23 0 0).toInt - (Sx.cellAt x10 0 0).toInt) + (Sx.cellAt x23 1 0).toInt) - (Sx.cellAt x10 1 0).toInt) + (Sx.cellAt x23 2 0).toInt) - (Sx.cellAt x10 2 0).toInt)) + x29)) (
 Nd (pcarRel [.lst x0, .lst x1, .int x2, .int x3, .int x4, .int x5, .int x6, .int x7] [.bool x30]) (
 True)))) ∧ (¬ (((x8.length : Int) + x28) = (((x9.length : Int) + ((((((Sx.cellAt x23 0 0).toInt - (Sx.cellAt x10 0 0).toInt) + (Sx.cellAt x23 1 0).toInt) - (Sx.cellAt x10 1 0).toInt) + (Sx.cellAt x23 2 0).toInt) - (Sx.cellAt x10 2 0).toInt)) + x29)) →
 Nd (¬ (((x8.length : Int) + x28) = (((x9.length : Int) + ((((((Sx.cellAt x23 0 0).toInt - (Sx.cellAt x10 0 0).toInt) + (Sx.cellAt x23 1 0).toInt) - (Sx.cellAt x10 1 0).toInt) + (Sx.cellAt x23 2 0).toInt) - (Sx.cellAt x10 2 0).toInt)) + x29))) (
 Nd (pcarRel [.lst x0, .lst x1, .int x2, .int x3, .int x4, .int x5, .int x6, .int x7] [.bool false]) (
 True)))))))))))))))))))))))))))) ∧ (¬ (x25 = ((x24.length : Int) - x26)) →
 Nd (pcarRel [.lst x0, .lst x1, .int x2, .int x3, .int x4, .int x5, .int x6, .int x7] [.bool false]) (
 True))))))))))))))))) ∧ (¬ ((x22.length : Int) = (x9.length : Int)) →
 Nd (¬ ((x22.length : Int) = (x9.length : Int))) (
 Nd (¬ ((x22.length : Int) = (x9.length : Int))) (
 Nd (¬ ((x22.length : Int) = (x9.length : Int))) (
 Nd (¬ ((x22.length : Int) = (x9.length : Int))) (
 Nd (¬ ((x22.length : Int) = (x9.length : Int))) (
 Nd (¬ ((x22.length : Int) = (x9.length : Int))) (
 Nd (¬ ((x22.length : Int) = (x9.length : Int))) (
 Nd (¬ ((x22.length : Int) = (x9.length : Int))) (
 Nd (pcarRel [.lst x0, .lst x1, .int x2, .int x3, .int x4, .int x5, .int x6, .int x7] [.bool false]) (
 True)))))))))))))))))))))))))))) ∧ (¬ ((x15.length : Int) = (x9.length : Int)) →
 Nd (pcarRel [.lst x0, .lst x1, .int x2, .int x3, .int x4, .int x5, .int x6, .int x7] [.bool false]) (
 True))))))))) ∧ (¬ ((x13.length : Int) = (x9.length : Int)) →
 Nd (¬ ((x13.length : Int) = (x9.length : Int))) (
 Nd (¬ ((x13.length : Int) = (x9.length : Int))) (
 Nd (¬ ((x13.length : Int) = (x9.length : Int))) (
 Nd (¬ ((x13.length : Int) = (x9.length : Int))) (
 Nd (¬ ((x13.length : Int) = (x9.length : Int))) (
 Nd (pcarRel [.lst x0, .lst x1, .int x2, .int x3, .int x4, .int x5, .int x6, .int x7] [.bool false]) (
 True))))))))))))))) ∧ (¬ (x14 = 0) →
 Nd (¬ (x14 = 0)) (
 Nd (¬ (x14 = 0)) (
 Nd (¬ (x14 = 0)) (
 Nd (¬ (x14 = 0)) (
 Nd (¬ (x14 = 0)) (
 Nd (¬ (x14 = 0)) (
 Nd (pcarRel [.lst x0, .lst x1, .int x2, .int x3, .int x4, .int x5, .int x6, .int x7] [.bool false]) (
 True))))))))))))
theorem vcPcar_eq : (cvc Go.Proofs.Try.prog U0 cPcar (sxF Go.Proofs.Try.prog U0 annsG (conP Go.Proofs.Try.prog U0 (stageG 0)) 400 4)).vc U0 (fun _ => True) = vcPcar := by kernel_rfl
end Go.C36
