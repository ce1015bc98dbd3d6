/- The conditions of contracts, as the engine's printer has written them, and that the kernel comes to the same.
  Conditions: none. -/
import Derived.Test.YtdhbegidnfapjaaB1
import Derived.Test.YtdhbegidnfapjaaRows
import Derived.KernelRfl
set_option linter.unusedVariables false
set_option maxRecDepth 100000
namespace Go.C15
open Go Go.Xe Go.Sx
/-- What the contract of 'awaits' asks for. -/
def vcAwaits : Prop :=
 ∀ x0 : Int,
 ∀ x1 : Int,
 ∀ x2 : Sx.Rows,
 ∀ x3 : Int,
 ∀ x4 : Int,
(awaitsPre [.int x0, .int x1, .lst x2, .int x3, .int x4]) →
 Nd (awaitsLInv [] [.int x3]) (
 ∀ x5 : Int,
(awaitsLInv [] [.int x5]) →
(((0 < x5) →
 Nd ((¬ (x0 < (-9223372036854775808))) ∧ (x0 < 9223372036854775808)) (
 Nd ((¬ ((x0 + 1) < (-9223372036854775808))) ∧ ((x0 + 1) < 9223372036854775808)) (
(((x5 = (x0 + 1)) →
 Nd (¬ ((x2.length : Int) < (x2.length : Int))) (
 Nd ((x2.length : Int) = (x2.length : Int)) (
 Nd (awaitsRel [.int x0, .int x1, .lst x2, .int x3, .int x4] [.bool true, .lst x2, .int x3, .int x4]) (
 True)))) ∧ (¬ (x5 = (x0 + 1)) →
 Nd ((¬ ((x5 + (-1)) < (-9223372036854775808))) ∧ ((x5 + (-1)) < 9223372036854775808)) (
 Nd (¬ ((x5 + (-1)) < 0)) (
 Nd ((x5 + (-1)) < (x2.length : Int)) (
 Nd ((x5 + (-1)) < (x2.length : Int)) (
 Nd (awaitsLInv [] [.int (Sx.cellAt x2 (x5 + (-1)) 2).toInt]) (
 Nd (awaitsLMu [] [.int (Sx.cellAt x2 (x5 + (-1)) 2).toInt] < awaitsLMu [] [.int x5]) (
 True))))))))))) ∧ (¬ (0 < x5) →
 Nd (¬ ((x2.length : Int) < (x2.length : Int))) (
 Nd ((x2.length : Int) = (x2.length : Int)) (
 Nd (awaitsRel [.int x0, .int x1, .lst x2, .int x3, .int x4] [.bool false, .lst x2, .int x3, .int x4]) (
 True))))))
theorem vcAwaits_eq : (cvc Go.Proofs.Try.prog U0 cAwaits (sxF Go.Proofs.Try.prog U0 annsB (conOf Go.Proofs.Try.prog U0 (stageB 0)) 400 45)).vc U0 (fun _ => True) = vcAwaits := by kernel_rfl
/-- What the contract of 'aget' asks for. -/
def vcAget : Prop :=
 ∀ x0 : Int,
 ∀ x1 : Int,
 ∀ x2 : Sx.Rows,
 ∀ x3 : Int,
 ∀ x4 : Int,
(agetPre [.int x0, .int x1, .lst x2, .int x3, .int x4]) →
 Nd ((¬ (x0 < 0)) ∧ (x0 < 18446744073709551616)) (
 Nd ((¬ ((x2.length : Int) < 0)) ∧ ((x2.length : Int) < 18446744073709551616)) (
(((x0 < (x2.length : Int)) →
 Nd (¬ (x0 < 0)) (
 Nd (x0 < (x2.length : Int)) (
 Nd (x0 < (x2.length : Int)) (
((((Sx.cellAt x2 x0 1).toBool = true) →
 Nd ((Sx.cellAt x2 x0 1).toBool = true) (
 Nd ((Sx.cellAt x2 x0 1).toBool = true) (
 Nd ((Sx.cellAt x2 x0 1).toBool = true) (
 Nd (x0 < (x2.length : Int)) (
 Nd ((Sx.cellAt x2 x0 1).toBool = true) (
 Nd ((Sx.cellAt x2 x0 1).toBool = true) (
 Nd ((Sx.cellAt x2 x0 1).toBool = true) (
 Nd ((Sx.cellAt x2 x0 1).toBool = true) (
((((Sx.cellAt x2 x0 0).toInt = x1) →
 Nd (x0 < (x2.length : Int)) (
 Nd (¬ ((x2.length : Int) < (x2.length : Int))) (
 Nd ((x2.length : Int) = (x2.length : Int)) (
 Nd (agetRel [.int x0, .int x1, .lst x2, .int x3, .int x4] [.int (Sx.cellAt x2 x0 3).toInt, .int 0, .lst x2, .int x3, .int x4]) (
 True))))) ∧ (¬ ((Sx.cellAt x2 x0 0).toInt = x1) →
 Nd (¬ ((x2.length : Int) < (x2.length : Int))) (
 Nd ((x2.length : Int) = (x2.length : Int)) (
 Nd (agetRel [.int x0, .int x1, .lst x2, .int x3, .int x4] [.int 0, .int 11, .lst x2, .int x3, .int x4]) (
 True)))))))))))))) ∧ (¬ ((Sx.cellAt x2 x0 1).toBool = true) →
 Nd (¬ ((Sx.cellAt x2 x0 1).toBool = true)) (
 Nd (¬ ((Sx.cellAt x2 x0 1).toBool = true)) (
 Nd (¬ ((Sx.cellAt x2 x0 1).toBool = true)) (
 Nd (¬ ((Sx.cellAt x2 x0 1).toBool = true)) (
 Nd (¬ ((Sx.cellAt x2 x0 1).toBool = true)) (
 Nd (¬ ((Sx.cellAt x2 x0 1).toBool = true)) (
 Nd (¬ ((Sx.cellAt x2 x0 1).toBool = true)) (
 Nd (¬ ((x2.length : Int) < (x2.length : Int))) (
 Nd ((x2.length : Int) = (x2.length : Int)) (
 Nd (agetRel [.int x0, .int x1, .lst x2, .int x3, .int x4] [.int 0, .int 11, .lst x2, .int x3, .int x4]) (
 True)))))))))))))))) ∧ (¬ (x0 < (x2.length : Int)) →
 Nd (¬ ((x2.length : Int) < (x2.length : Int))) (
 Nd ((x2.length : Int) = (x2.length : Int)) (
 Nd (agetRel [.int x0, .int x1, .lst x2, .int x3, .int x4] [.int 0, .int 11, .lst x2, .int x3, .int x4]) (
 True)))))))
theorem vcAget_eq : (cvc Go.Proofs.Try.prog U0 cAget (sxF Go.Proofs.Try.prog U0 annsB (conOf Go.Proofs.Try.prog U0 (stageB 0)) 400 26)).vc U0 (fun _ => True) = vcAget := by kernel_rfl
/-- What the contract of 'aset' asks for. -/
def vcAset : Prop :=
 ∀ x0 : Int,
 ∀ x1 : Int,
 ∀ x2 : Int,
 ∀ x3 : Sx.Rows,
 ∀ x4 : Int,
 ∀ x5 : Int,
(asetPre [.int x0, .int x1, .int x2, .lst x3, .int x4, .int x5]) →
 Nd ((¬ (x0 < 0)) ∧ (x0 < 18446744073709551616)) (
 Nd ((¬ ((x3.length : Int) < 0)) ∧ ((x3.length : Int) < 18446744073709551616)) (
(((x0 < (x3.length : Int)) →
 Nd (¬ (x0 < 0)) (
 Nd (x0 < (x3.length : Int)) (
 Nd (x0 < (x3.length : Int)) (
((((Sx.cellAt x3 x0 1).toBool = true) →
 Nd ((Sx.cellAt x3 x0 1).toBool = true) (
 Nd ((Sx.cellAt x3 x0 1).toBool = true) (
 Nd ((Sx.cellAt x3 x0 1).toBool = true) (
 Nd (x0 < (x3.length : Int)) (
 Nd ((Sx.cellAt x3 x0 1).toBool = true) (
 Nd ((Sx.cellAt x3 x0 1).toBool = true) (
 Nd ((Sx.cellAt x3 x0 1).toBool = true) (
 Nd ((Sx.cellAt x3 x0 1).toBool = true) (
((((Sx.cellAt x3 x0 0).toInt = x1) →
 Nd (x0 < (x3.length : Int)) (
 Nd (¬ ((x3.length : Int) < (x3.length : Int))) (
 Nd ((x3.length : Int) = (x3.length : Int)) (
 Nd (asetRel [.int x0, .int x1, .int x2, .lst x3, .int x4, .int x5] [.int 0, .lst (Sx.setAt x3 x0 3 (.int x2)), .int x4, .int x5]) (
 True))))) ∧ (¬ ((Sx.cellAt x3 x0 0).toInt = x1) →
 Nd (¬ ((x3.length : Int) < (x3.length : Int))) (
 Nd ((x3.length : Int) = (x3.length : Int)) (
 Nd (asetRel [.int x0, .int x1, .int x2, .lst x3, .int x4, .int x5] [.int 11, .lst x3, .int x4, .int x5]) (
 True)))))))))))))) ∧ (¬ ((Sx.cellAt x3 x0 1).toBool = true) →
 Nd (¬ ((Sx.cellAt x3 x0 1).toBool = true)) (
 Nd (¬ ((Sx.cellAt x3 x0 1).toBool = true)) (
 Nd (¬ ((Sx.cellAt x3 x0 1).toBool = true)) (
 Nd (¬ ((Sx.cellAt x3 x0 1).toBool = true)) (
 Nd (¬ ((Sx.cellAt x3 x0 1).toBool = true)) (
 Nd (¬ ((Sx.cellAt x3 x0 1).toBool = true)) (
 Nd (¬ ((Sx.cellAt x3 x0 1).toBool = true)) (
 Nd (¬ ((x3.length : Int) < (x3.length : Int))) (
 Nd ((x3.length : Int) = (x3.length : Int)) (
 Nd (asetRel [.int x0, .int x1, .int x2, .lst x3, .int x4, .int x5] [.int 11, .lst x3, .int x4, .int x5]) (
 True)))))))))))))))) ∧ (¬ (x0 < (x3.length : Int)) →
 Nd (¬ ((x3.length : Int) < (x3.length : Int))) (
 Nd ((x3.length : Int) = (x3.length : Int)) (
 Nd (asetRel [.int x0, .int x1, .int x2, .lst x3, .int x4, .int x5] [.int 11, .lst x3, .int x4, .int x5]) (
 True)))))))
theorem vcAset_eq : (cvc Go.Proofs.Try.prog U0 cAset (sxF Go.Proofs.Try.prog U0 annsB (conOf Go.Proofs.Try.prog U0 (stageB 0)) 400 24)).vc U0 (fun _ => True) = vcAset := by kernel_rfl
def vcAuntake0 (x0 : Int) (x1 : Int) (x2 : Sx.Rows) (x3 : Int) (x4 : Int) : Prop :=
 Nd ((¬ (x0 < (-9223372036854775808))) ∧ (x0 < 9223372036854775808)) (
 Nd ((¬ (((x2.length : Int) + (-1)) < (-9223372036854775808))) ∧ (((x2.length : Int) + (-1)) < 9223372036854775808)) (
 Nd (¬ ((x2.length : Int) < (x2.length : Int))) (
 Nd ((x2.length : Int) = (x2.length : Int)) (
 Nd (auntakeRel [.int x0, .int x1, .lst x2, .int x3, .int x4] [.int 11, .lst x2, .int x3, .int x4]) (
 True)))))
/-- What the contract of 'auntake' asks for. -/
def vcAuntake : Prop :=
 ∀ x0 : Int,
 ∀ x1 : Int,
 ∀ x2 : Sx.Rows,
 ∀ x3 : Int,
 ∀ x4 : Int,
(auntakePre [.int x0, .int x1, .lst x2, .int x3, .int x4]) →
 Nd ((¬ (x0 < 0)) ∧ (x0 < 18446744073709551616)) (
 Nd ((¬ ((x2.length : Int) < 0)) ∧ ((x2.length : Int) < 18446744073709551616)) (
(((x0 < (x2.length : Int)) →
 Nd (¬ (x0 < 0)) (
 Nd (x0 < (x2.length : Int)) (
 Nd (x0 < (x2.length : Int)) (
((((Sx.cellAt x2 x0 1).toBool = true) →
 Nd ((Sx.cellAt x2 x0 1).toBool = true) (
 Nd ((Sx.cellAt x2 x0 1).toBool = true) (
 Nd ((Sx.cellAt x2 x0 1).toBool = true) (
 Nd (x0 < (x2.length : Int)) (
 Nd ((Sx.cellAt x2 x0 1).toBool = true) (
 Nd ((Sx.cellAt x2 x0 1).toBool = true) (
 Nd ((Sx.cellAt x2 x0 1).toBool = true) (
 Nd ((Sx.cellAt x2 x0 1).toBool = true) (
((((Sx.cellAt x2 x0 0).toInt = x1) →
 Nd ((¬ (x0 < (-9223372036854775808))) ∧ (x0 < 9223372036854775808)) (
 Nd ((¬ (((x2.length : Int) + (-1)) < (-9223372036854775808))) ∧ (((x2.length : Int) + (-1)) < 9223372036854775808)) (
 Nd (x0 < (x2.length : Int)) (
((((Sx.cellAt x2 x0 0).toInt = 1) →
 Nd ((Sx.cellAt x2 x0 0).toInt = 1) (
 Nd ((Sx.cellAt x2 x0 0).toInt = 1) (
(((x0 = ((x2.length : Int) + (-1))) →
 Nd (x0 < (x2.length : Int)) (
 Nd ((Sx.cellAt x2 x0 0).toInt = 1) (
 Nd (x0 < (x2.length : Int)) (
 Nd (x0 < (x2.length : Int)) (
 Nd (x0 < (x2.length : Int)) (
 Nd ((¬ ((x4 + (-1)) < (-9223372036854775808))) ∧ ((x4 + (-1)) < 9223372036854775808)) (
 Nd ((¬ (((x2.length : Int) + (-1)) < (-9223372036854775808))) ∧ (((x2.length : Int) + (-1)) < 9223372036854775808)) (
 Nd ((¬ (((x2.length : Int) + (-1)) < (-9223372036854775808))) ∧ (((x2.length : Int) + (-1)) < 9223372036854775808)) (
 Nd (¬ (((x2.length : Int) + (-1)) < 0)) (
 Nd (¬ (((x2.length : Int) + (-1)) < ((x2.length : Int) + (-1)))) (
 Nd (¬ ((x2.length : Int) < ((x2.length : Int) + (-1)))) (
 Nd (¬ ((x2.length : Int) < ((x2.length : Int) + (-1)))) (
 Nd (((x2.length : Int) + (-1)) = ((x2.length : Int) + (-1))) (
 Nd (((x2.length : Int) + (-1)) < 67108865) (
 Nd (auntakeRel [.int x0, .int x1, .lst x2, .int x3, .int x4] [.int 0, .lst (Sx.part (Sx.setAt (Sx.setAt x2 x0 1 (.bool false)) x0 3 (.int (0))) 0 ((x2.length : Int) + (-1))), .int x3, .int (x4 + (-1))]) (
 True)))))))))))))))) ∧ (¬ (x0 = ((x2.length : Int) + (-1))) →
 Nd (¬ ((x2.length : Int) < (x2.length : Int))) (
 Nd ((x2.length : Int) = (x2.length : Int)) (
 Nd (auntakeRel [.int x0, .int x1, .lst x2, .int x3, .int x4] [.int 10, .lst x2, .int x3, .int x4]) (
 True)))))))) ∧ (¬ ((Sx.cellAt x2 x0 0).toInt = 1) →
 Nd (¬ ((Sx.cellAt x2 x0 0).toInt = 1)) (
 Nd (¬ ((Sx.cellAt x2 x0 0).toInt = 1)) (
 Nd (x0 < (x2.length : Int)) (
 Nd (¬ ((Sx.cellAt x2 x0 0).toInt = 1)) (
 Nd (x0 < (x2.length : Int)) (
 Nd (x0 < (x2.length : Int)) (
 Nd (x0 < (x2.length : Int)) (
 Nd ((¬ ((x4 + (-1)) < (-9223372036854775808))) ∧ ((x4 + (-1)) < 9223372036854775808)) (
 Nd (¬ (x0 < 0)) (
 Nd (x0 < (x2.length : Int)) (
 Nd (x0 < (x2.length : Int)) (
 Nd ((¬ (x0 < (-9223372036854775808))) ∧ (x0 < 9223372036854775808)) (
 Nd ((¬ ((x0 + 1) < (-9223372036854775808))) ∧ ((x0 + 1) < 9223372036854775808)) (
 Nd (¬ ((x2.length : Int) < (x2.length : Int))) (
 Nd ((x2.length : Int) = (x2.length : Int)) (
 Nd (auntakeRel [.int x0, .int x1, .lst x2, .int x3, .int x4] [.int 0, .lst (Sx.setAt (Sx.setAt (Sx.setAt x2 x0 1 (.bool false)) x0 3 (.int (0))) x0 2 (.int x3)), .int (x0 + 1), .int (x4 + (-1))]) (
 True)))))))))))))))))))))) ∧ (¬ ((Sx.cellAt x2 x0 0).toInt = x1) →
(vcAuntake0 x0 x1 x2 x3 x4)))))))))))) ∧ (¬ ((Sx.cellAt x2 x0 1).toBool = true) →
 Nd (¬ ((Sx.cellAt x2 x0 1).toBool = true)) (
 Nd (¬ ((Sx.cellAt x2 x0 1).toBool = true)) (
 Nd (¬ ((Sx.cellAt x2 x0 1).toBool = true)) (
 Nd (¬ ((Sx.cellAt x2 x0 1).toBool = true)) (
 Nd (¬ ((Sx.cellAt x2 x0 1).toBool = true)) (
 Nd (¬ ((Sx.cellAt x2 x0 1).toBool = true)) (
 Nd (¬ ((Sx.cellAt x2 x0 1).toBool = true)) (
 Nd ((¬ (x0 < (-9223372036854775808))) ∧ (x0 < 9223372036854775808)) (
 Nd ((¬ (((x2.length : Int) + (-1)) < (-9223372036854775808))) ∧ (((x2.length : Int) + (-1)) < 9223372036854775808)) (
 Nd (¬ ((x2.length : Int) < (x2.length : Int))) (
 Nd ((x2.length : Int) = (x2.length : Int)) (
 Nd (auntakeRel [.int x0, .int x1, .lst x2, .int x3, .int x4] [.int 11, .lst x2, .int x3, .int x4]) (
 True)))))))))))))))))) ∧ (¬ (x0 < (x2.length : Int)) →
(vcAuntake0 x0 x1 x2 x3 x4)))))
theorem vcAuntake_eq : (cvc Go.Proofs.Try.prog U0 cAuntake (sxF Go.Proofs.Try.prog U0 annsB (conOf Go.Proofs.Try.prog U0 (stageB 0)) 400 22)).vc U0 (fun _ => True) = vcAuntake := by kernel_rfl
def vcAunfree0 (x0 : Int) (x1 : Int) (x2 : Int) (x3 : Sx.Rows) (x4 : Int) (x5 : Int) : Prop :=
 Nd (x4 = (x0 + 1)) (
 Nd (x4 = (x0 + 1)) (
 Nd (x4 = (x0 + 1)) (
 Nd (x0 < (x3.length : Int)) (
 Nd (x4 = (x0 + 1)) (
 Nd (x4 = (x0 + 1)) (
 Nd (x4 = (x0 + 1)) (
 Nd (x4 = (x0 + 1)) (
 Nd (x4 = (x0 + 1)) (
((((IntKind.wrap .u32 ((Sx.cellAt x3 x0 0).toInt + (-1))) = x1) →
 Nd (x0 < (x3.length : Int)) (
 Nd (x0 < (x3.length : Int)) (
 Nd (x0 < (x3.length : Int)) (
 Nd (x0 < (x3.length : Int)) (
 Nd (x0 < (x3.length : Int)) (
 Nd ((¬ ((x5 + 1) < (-9223372036854775808))) ∧ ((x5 + 1) < 9223372036854775808)) (
 Nd (¬ ((x3.length : Int) < (x3.length : Int))) (
 Nd ((x3.length : Int) = (x3.length : Int)) (
 Nd (aunfreeRel [.int x0, .int x1, .int x2, .lst x3, .int x4, .int x5] [.int 0, .lst (Sx.setAt (Sx.setAt (Sx.setAt (Sx.setAt x3 x0 0 (.int x1)) x0 2 (.int (0))) x0 1 (.bool true)) x0 3 (.int x2)), .int (Sx.cellAt x3 x0 2).toInt, .int (x5 + 1)]) (
 True)))))))))) ∧ (¬ ((IntKind.wrap .u32 ((Sx.cellAt x3 x0 0).toInt + (-1))) = x1) →
 Nd (¬ ((x3.length : Int) < (x3.length : Int))) (
 Nd ((x3.length : Int) = (x3.length : Int)) (
 Nd (aunfreeRel [.int x0, .int x1, .int x2, .lst x3, .int x4, .int x5] [.int 10, .lst x3, .int x4, .int x5]) (
 True))))))))))))))
def vcAunfree1 (x0 : Int) (x1 : Int) (x2 : Int) (x3 : Sx.Rows) (x4 : Int) (x5 : Int) : Prop :=
 Nd (¬ (x4 = (x0 + 1))) (
 Nd (¬ (x4 = (x0 + 1))) (
 Nd (¬ (x4 = (x0 + 1))) (
 Nd (¬ (x4 = (x0 + 1))) (
 Nd (¬ (x4 = (x0 + 1))) (
 Nd (¬ (x4 = (x0 + 1))) (
 Nd (¬ (x4 = (x0 + 1))) (
 Nd (¬ (x4 = (x0 + 1))) (
 Nd (¬ ((x3.length : Int) < (x3.length : Int))) (
 Nd ((x3.length : Int) = (x3.length : Int)) (
 Nd (aunfreeRel [.int x0, .int x1, .int x2, .lst x3, .int x4, .int x5] [.int 10, .lst x3, .int x4, .int x5]) (
 True)))))))))))
/-- What the contract of 'aunfree' asks for. -/
def vcAunfree : Prop :=
 ∀ x0 : Int,
 ∀ x1 : Int,
 ∀ x2 : Int,
 ∀ x3 : Sx.Rows,
 ∀ x4 : Int,
 ∀ x5 : Int,
(aunfreePre [.int x0, .int x1, .int x2, .lst x3, .int x4, .int x5]) →
 Nd ((¬ (x0 < 0)) ∧ (x0 < 18446744073709551616)) (
 Nd ((¬ ((x3.length : Int) < 0)) ∧ ((x3.length : Int) < 18446744073709551616)) (
(((x0 < (x3.length : Int)) →
 Nd (x0 < (x3.length : Int)) (
 Nd (x0 < (x3.length : Int)) (
 Nd (x0 < (x3.length : Int)) (
(((x1 = 0) →
 Nd (¬ ((x3.length : Int) < (x3.length : Int))) (
 Nd ((x3.length : Int) = (x3.length : Int)) (
 Nd (aunfreeRel [.int x0, .int x1, .int x2, .lst x3, .int x4, .int x5] [.int 10, .lst x3, .int x4, .int x5]) (
 True)))) ∧ (¬ (x1 = 0) →
 Nd (¬ (x0 < 0)) (
 Nd (x0 < (x3.length : Int)) (
 Nd (x0 < (x3.length : Int)) (
((((Sx.cellAt x3 x0 1).toBool = true) →
 Nd (¬ ((x3.length : Int) < (x3.length : Int))) (
 Nd ((x3.length : Int) = (x3.length : Int)) (
 Nd (aunfreeRel [.int x0, .int x1, .int x2, .lst x3, .int x4, .int x5] [.int 10, .lst x3, .int x4, .int x5]) (
 True)))) ∧ (¬ ((Sx.cellAt x3 x0 1).toBool = true) →
(((x1 = 4294967295) →
 Nd (x1 = 4294967295) (
 Nd (x1 = 4294967295) (
 Nd (x1 = 4294967295) (
 Nd (x0 < (x3.length : Int)) (
 Nd (x1 = 4294967295) (
 Nd (x1 = 4294967295) (
((((Sx.cellAt x3 x0 0).toInt = 4294967295) →
 Nd ((Sx.cellAt x3 x0 0).toInt = 4294967295) (
 Nd ((Sx.cellAt x3 x0 0).toInt = 4294967295) (
 Nd (¬ ((x3.length : Int) < (x3.length : Int))) (
 Nd ((x3.length : Int) = (x3.length : Int)) (
 Nd (awaitsPre [.int x0, .int x1, .lst x3, .int x4, .int x5]) (
 ∀ x6 : Bool,
 ∀ x7 : Sx.Rows,
 ∀ x8 : Int,
 ∀ x9 : Int,
(awaitsRel [.int x0, .int x1, .lst x3, .int x4, .int x5] [.bool x6, .lst x7, .int x8, .int x9]) →
 Nd ((Sx.cellAt x3 x0 0).toInt = 4294967295) (
 Nd ((Sx.cellAt x3 x0 0).toInt = 4294967295) (
(((x6 = true) →
 Nd ((¬ (x0 < (-9223372036854775808))) ∧ (x0 < 9223372036854775808)) (
 Nd ((¬ ((x0 + 1) < (-9223372036854775808))) ∧ ((x0 + 1) < 9223372036854775808)) (
(((x8 = (x0 + 1)) →
 Nd (x8 = (x0 + 1)) (
 Nd (x8 = (x0 + 1)) (
 Nd (x8 = (x0 + 1)) (
 False /- load: no block -/)))) ∧ (¬ (x8 = (x0 + 1)) →
 Nd (¬ (x8 = (x0 + 1))) (
 Nd (¬ (x8 = (x0 + 1))) (
 Nd (¬ (x8 = (x0 + 1))) (
 Nd (¬ (x8 = (x0 + 1))) (
 Nd (¬ (x8 = (x0 + 1))) (
 Nd (¬ (x8 = (x0 + 1))) (
 Nd (¬ (x8 = (x0 + 1))) (
 Nd (¬ (x8 = (x0 + 1))) (
 Nd (¬ ((x7.length : Int) < (x7.length : Int))) (
 Nd ((x7.length : Int) = (x7.length : Int)) (
 Nd (aunfreeRel [.int x0, .int x1, .int x2, .lst x3, .int x4, .int x5] [.int 10, .lst x7, .int x8, .int x9]) (
 True)))))))))))))))) ∧ (¬ (x6 = true) →
 False /- store: no block -/)))))))))) ∧ (¬ ((Sx.cellAt x3 x0 0).toInt = 4294967295) →
 Nd (¬ ((Sx.cellAt x3 x0 0).toInt = 4294967295)) (
 Nd (¬ ((Sx.cellAt x3 x0 0).toInt = 4294967295)) (
 Nd (¬ ((Sx.cellAt x3 x0 0).toInt = 4294967295)) (
 Nd (¬ ((Sx.cellAt x3 x0 0).toInt = 4294967295)) (
 Nd ((¬ (x0 < (-9223372036854775808))) ∧ (x0 < 9223372036854775808)) (
 Nd ((¬ ((x0 + 1) < (-9223372036854775808))) ∧ ((x0 + 1) < 9223372036854775808)) (
(((x4 = (x0 + 1)) →
(vcAunfree0 x0 x1 x2 x3 x4 x5)) ∧ (¬ (x4 = (x0 + 1)) →
(vcAunfree1 x0 x1 x2 x3 x4 x5)))))))))))))))))) ∧ (¬ (x1 = 4294967295) →
 Nd (¬ (x1 = 4294967295)) (
 Nd (¬ (x1 = 4294967295)) (
 Nd (¬ (x1 = 4294967295)) (
 Nd (¬ (x1 = 4294967295)) (
 Nd (¬ (x1 = 4294967295)) (
 Nd ((¬ (x0 < (-9223372036854775808))) ∧ (x0 < 9223372036854775808)) (
 Nd ((¬ ((x0 + 1) < (-9223372036854775808))) ∧ ((x0 + 1) < 9223372036854775808)) (
(((x4 = (x0 + 1)) →
(vcAunfree0 x0 x1 x2 x3 x4 x5)) ∧ (¬ (x4 = (x0 + 1)) →
(vcAunfree1 x0 x1 x2 x3 x4 x5))))))))))))))))))))))) ∧ (¬ (x0 < (x3.length : Int)) →
 Nd (¬ (x0 < (x3.length : Int))) (
 Nd (¬ (x0 < (x3.length : Int))) (
 Nd (¬ (x0 < (x3.length : Int))) (
 Nd (¬ ((x3.length : Int) < (x3.length : Int))) (
 Nd ((x3.length : Int) = (x3.length : Int)) (
 Nd (aunfreeRel [.int x0, .int x1, .int x2, .lst x3, .int x4, .int x5] [.int 10, .lst x3, .int x4, .int x5]) (
 True))))))))))
theorem vcAunfree_eq : (cvc Go.Proofs.Try.prog U0 cAunfree (sxF Go.Proofs.Try.prog U0 annsB (conOf Go.Proofs.Try.prog U0 (stageB 2)) 400 23)).vc U0 (fun _ => True) = vcAunfree := by kernel_rfl
/-- What the contract of 'ahandles' asks for. -/
def vcAhandles : Prop :=
 ∀ x0 : Sx.Rows,
 ∀ x1 : Int,
 ∀ x2 : Int,
(ahandlesPre [.lst x0, .int x1, .int x2]) →
 Nd (¬ (x2 < 0)) (
 Nd (x2 < 1048577) (
 Nd (¬ (((List.replicate (x2).toNat [(.int (0)), (.int (0))] : Sx.Rows).length : Int) < 0)) (
 Nd (x2 = x2) (
 Nd (¬ (x2 < x2)) (
 Nd (ahandlesLInv [.lst x0, .int x1, .int x2] [.lst (Sx.part (List.replicate (x2).toNat [(.int (0)), (.int (0))] : Sx.Rows) 0 0), .int 0]) (
 ∀ x3 : Sx.Rows,
 ∀ x4 : Int,
(ahandlesLInv [.lst x0, .int x1, .int x2] [.lst x3, .int x4]) →
(((x4 < (x0.length : Int)) →
 Nd (¬ (x4 < 0)) (
 Nd (x4 < (x0.length : Int)) (
 Nd (x4 < (x0.length : Int)) (
((((Sx.cellAt x0 x4 1).toBool = true) →
 Nd (¬ ((x3.length : Int) < (x3.length : Int))) (
 Nd (((x3.length : Int) + 1) < 67108865) (
(((x2 < ((x3.length : Int) + 1)) →
 Nd ((x3.length : Int) = (x3.length : Int)) (
 Nd ((¬ ((x4 + 1) < (-9223372036854775808))) ∧ ((x4 + 1) < 9223372036854775808)) (
 Nd (¬ (((x3.length : Int) + 1) < ((x3.length : Int) + 1))) (
 Nd (((x3.length : Int) + 1) = ((x3.length : Int) + 1)) (
 False /- loop: capacity -/))))) ∧ (¬ (x2 < ((x3.length : Int) + 1)) →
 Nd (¬ (x2 < x2)) (
 Nd ((¬ ((x4 + 1) < (-9223372036854775808))) ∧ ((x4 + 1) < 9223372036854775808)) (
 Nd (¬ (((Sx.over x3 (x3.length : Int) (Sx.chunk 2 1 [(.int (IntKind.wrap .u32 x4)), (.int (Sx.cellAt x0 x4 0).toInt)])).length : Int) < ((x3.length : Int) + 1))) (
 Nd (x2 = x2) (
 Nd (¬ (x2 < x2)) (
 Nd (ahandlesLInv [.lst x0, .int x1, .int x2] [.lst (Sx.part (Sx.over x3 (x3.length : Int) (Sx.chunk 2 1 [(.int (IntKind.wrap .u32 x4)), (.int (Sx.cellAt x0 x4 0).toInt)])) 0 ((x3.length : Int) + 1)), .int (x4 + 1)]) (
 Nd (ahandlesLMu [.lst x0, .int x1, .int x2] [.lst (Sx.part (Sx.over x3 (x3.length : Int) (Sx.chunk 2 1 [(.int (IntKind.wrap .u32 x4)), (.int (Sx.cellAt x0 x4 0).toInt)])) 0 ((x3.length : Int) + 1)), .int (x4 + 1)] < ahandlesLMu [.lst x0, .int x1, .int x2] [.lst x3, .int x4]) (
 True)))))))))))) ∧ (¬ ((Sx.cellAt x0 x4 1).toBool = true) →
 Nd ((¬ ((x4 + 1) < (-9223372036854775808))) ∧ ((x4 + 1) < 9223372036854775808)) (
 Nd (¬ ((x3.length : Int) < (x3.length : Int))) (
 Nd ((x3.length : Int) = (x3.length : Int)) (
 Nd (x2 = x2) (
 Nd (¬ (x2 < x2)) (
 Nd (ahandlesLInv [.lst x0, .int x1, .int x2] [.lst x3, .int (x4 + 1)]) (
 Nd (ahandlesLMu [.lst x0, .int x1, .int x2] [.lst x3, .int (x4 + 1)] < ahandlesLMu [.lst x0, .int x1, .int x2] [.lst x3, .int x4]) (
 True))))))))))))) ∧ (¬ (x4 < (x0.length : Int)) →
 Nd (x2 = (x3.length : Int)) (
 Nd (¬ ((x3.length : Int) < (x3.length : Int))) (
 Nd ((x3.length : Int) = (x3.length : Int)) (
 Nd (¬ ((x0.length : Int) < (x0.length : Int))) (
 Nd ((x0.length : Int) = (x0.length : Int)) (
 Nd (ahandlesRel [.lst x0, .int x1, .int x2] [.lst x3, .lst x0, .int x1, .int x2]) (
 True))))))))))))))
theorem vcAhandles_eq : (cvc Go.Proofs.Try.prog U0 cAhandles (sxF Go.Proofs.Try.prog U0 annsB (conOf Go.Proofs.Try.prog U0 (stageB 0)) 400 27)).vc U0 (fun _ => True) = vcAhandles := by kernel_rfl
/-- What the contract of 'await' asks for. -/
def vcAwait : Prop :=
 ∀ x0 : Sx.Rows,
 ∀ x1 : Int,
 ∀ x2 : Int,
(awaitPre [.lst x0, .int x1, .int x2]) →
 Nd (awaitLInv [.lst x0, .int x1, .int x2] [.lst ([] : Sx.Rows), .int x1]) (
 ∀ x3 : Sx.Rows,
 ∀ x4 : Int,
(awaitLInv [.lst x0, .int x1, .int x2] [.lst x3, .int x4]) →
(((0 < x4) →
 Nd ((¬ ((x4 + (-1)) < (-9223372036854775808))) ∧ ((x4 + (-1)) < 9223372036854775808)) (
 Nd ((¬ ((x4 + (-1)) < (-9223372036854775808))) ∧ ((x4 + (-1)) < 9223372036854775808)) (
 Nd (¬ ((x4 + (-1)) < 0)) (
 Nd ((x4 + (-1)) < (x0.length : Int)) (
 Nd ((x4 + (-1)) < (x0.length : Int)) (
 Nd (¬ ((x3.length : Int) < (x3.length : Int))) (
 Nd (((x3.length : Int) + 1) < 67108865) (
 Nd ((x3.length : Int) = (x3.length : Int)) (
 Nd ((¬ ((x4 + (-1)) < (-9223372036854775808))) ∧ ((x4 + (-1)) < 9223372036854775808)) (
 Nd (¬ ((x4 + (-1)) < 0)) (
 Nd ((x4 + (-1)) < (x0.length : Int)) (
 Nd ((x4 + (-1)) < (x0.length : Int)) (
 Nd (¬ (((x3.length : Int) + 1) < ((x3.length : Int) + 1))) (
 Nd (((x3.length : Int) + 1) = ((x3.length : Int) + 1)) (
 Nd (awaitLInv [.lst x0, .int x1, .int x2] [.lst (x3 ++ (Sx.chunk 2 1 [(.int (IntKind.wrap .u32 (x4 + (-1)))), (.int (Sx.cellAt x0 (x4 + (-1)) 0).toInt)])), .int (Sx.cellAt x0 (x4 + (-1)) 2).toInt]) (
 Nd (awaitLMu [.lst x0, .int x1, .int x2] [.lst (x3 ++ (Sx.chunk 2 1 [(.int (IntKind.wrap .u32 (x4 + (-1)))), (.int (Sx.cellAt x0 (x4 + (-1)) 0).toInt)])), .int (Sx.cellAt x0 (x4 + (-1)) 2).toInt] < awaitLMu [.lst x0, .int x1, .int x2] [.lst x3, .int x4]) (
 True))))))))))))))))) ∧ (¬ (0 < x4) →
 Nd (¬ ((x3.length : Int) < 0)) (
 Nd (¬ ((x3.length : Int) < (x3.length : Int))) (
 Nd (¬ ((x3.length : Int) < (x3.length : Int))) (
 Nd ((x3.length : Int) = (x3.length : Int)) (
 Nd (¬ ((x3.length : Int) < (x3.length : Int))) (
 Nd ((x3.length : Int) = (x3.length : Int)) (
 Nd (¬ ((x0.length : Int) < (x0.length : Int))) (
 Nd ((x0.length : Int) = (x0.length : Int)) (
 Nd (awaitRel [.lst x0, .int x1, .int x2] [.lst x3, .lst x0, .int x1, .int x2]) (
 True))))))))))))
theorem vcAwait_eq : (cvc Go.Proofs.Try.prog U0 cAwait (sxF Go.Proofs.Try.prog U0 annsB (conOf Go.Proofs.Try.prog U0 (stageB 0)) 400 14)).vc U0 (fun _ => True) = vcAwait := by kernel_rfl
/-- What the contract of 'rvalid' asks for. -/
def vcRvalid : Prop :=
 ∀ x0 : Sx.Rows,
 ∀ x1 : Sx.Rows,
 ∀ x2 : Int,
 ∀ x3 : Int,
(rvalidPre [.lst x0, .lst x1, .int x2, .int x3]) →
 Nd (rvalidLInv [.lst x0, .lst x1, .int x2, .int x3] [.int 0]) (
 ∀ x4 : Int,
(rvalidLInv [.lst x0, .lst x1, .int x2, .int x3] [.int x4]) →
(((x4 < (x0.length : Int)) →
((((IntKind.wrap .u32 x4) = x2) →
 Nd ((IntKind.wrap .u32 x4) = x2) (
 Nd ((IntKind.wrap .u32 x4) = x2) (
 Nd ((IntKind.wrap .u32 x4) = x2) (
 Nd (¬ (x4 < 0)) (
 Nd (x4 < (x0.length : Int)) (
 Nd ((IntKind.wrap .u32 x4) = x2) (
 Nd ((IntKind.wrap .u32 x4) = x2) (
 Nd ((IntKind.wrap .u32 x4) = x2) (
((((Sx.cellAt x0 x4 1).toBool = true) →
 Nd ((Sx.cellAt x0 x4 1).toBool = true) (
 Nd ((Sx.cellAt x0 x4 1).toBool = true) (
 Nd ((Sx.cellAt x0 x4 1).toBool = true) (
 Nd (¬ (x4 < 0)) (
 Nd (x4 < (x0.length : Int)) (
 Nd ((Sx.cellAt x0 x4 1).toBool = true) (
 Nd ((Sx.cellAt x0 x4 1).toBool = true) (
 Nd ((Sx.cellAt x0 x4 1).toBool = true) (
 Nd ((Sx.cellAt x0 x4 1).toBool = true) (
 Nd ((Sx.cellAt x0 x4 1).toBool = true) (
 Nd ((Sx.cellAt x0 x4 1).toBool = true) (
((((Sx.cellAt x0 x4 0).toInt = x3) →
 Nd (rvalidRel [.lst x0, .lst x1, .int x2, .int x3] [.bool true]) (
 True)) ∧ (¬ ((Sx.cellAt x0 x4 0).toInt = x3) →
 Nd ((¬ ((x4 + 1) < (-9223372036854775808))) ∧ ((x4 + 1) < 9223372036854775808)) (
 Nd (rvalidLInv [.lst x0, .lst x1, .int x2, .int x3] [.int (x4 + 1)]) (
 Nd (rvalidLMu [.lst x0, .lst x1, .int x2, .int x3] [.int (x4 + 1)] < rvalidLMu [.lst x0, .lst x1, .int x2, .int x3] [.int x4]) (
 True))))))))))))))))) ∧ (¬ ((Sx.cellAt x0 x4 1).toBool = true) →
 Nd (¬ ((Sx.cellAt x0 x4 1).toBool = true)) (
 Nd (¬ ((Sx.cellAt x0 x4 1).toBool = true)) (
 Nd (¬ ((Sx.cellAt x0 x4 1).toBool = true)) (
 Nd (¬ ((Sx.cellAt x0 x4 1).toBool = true)) (
 Nd (¬ ((Sx.cellAt x0 x4 1).toBool = true)) (
 Nd (¬ ((Sx.cellAt x0 x4 1).toBool = true)) (
 Nd (¬ ((Sx.cellAt x0 x4 1).toBool = true)) (
 Nd (¬ ((Sx.cellAt x0 x4 1).toBool = true)) (
 Nd (¬ ((Sx.cellAt x0 x4 1).toBool = true)) (
 Nd ((¬ ((x4 + 1) < (-9223372036854775808))) ∧ ((x4 + 1) < 9223372036854775808)) (
 Nd (rvalidLInv [.lst x0, .lst x1, .int x2, .int x3] [.int (x4 + 1)]) (
 Nd (rvalidLMu [.lst x0, .lst x1, .int x2, .int x3] [.int (x4 + 1)] < rvalidLMu [.lst x0, .lst x1, .int x2, .int x3] [.int x4]) (
 True))))))))))))))))))))))) ∧ (¬ ((IntKind.wrap .u32 x4) = x2) →
 Nd (¬ ((IntKind.wrap .u32 x4) = x2)) (
 Nd (¬ ((IntKind.wrap .u32 x4) = x2)) (
 Nd (¬ ((IntKind.wrap .u32 x4) = x2)) (
 Nd (¬ ((IntKind.wrap .u32 x4) = x2)) (
 Nd (¬ ((IntKind.wrap .u32 x4) = x2)) (
 Nd (¬ ((IntKind.wrap .u32 x4) = x2)) (
 Nd ((¬ ((x4 + 1) < (-9223372036854775808))) ∧ ((x4 + 1) < 9223372036854775808)) (
 Nd (rvalidLInv [.lst x0, .lst x1, .int x2, .int x3] [.int (x4 + 1)]) (
 Nd (rvalidLMu [.lst x0, .lst x1, .int x2, .int x3] [.int (x4 + 1)] < rvalidLMu [.lst x0, .lst x1, .int x2, .int x3] [.int x4]) (
 True)))))))))))) ∧ (¬ (x4 < (x0.length : Int)) →
 Nd (rvalidRel [.lst x0, .lst x1, .int x2, .int x3] [.bool false]) (
 True))))
theorem vcRvalid_eq : (cvc Go.Proofs.Try.prog U0 cRvalid (sxF Go.Proofs.Try.prog U0 annsB (conOf Go.Proofs.Try.prog U0 (stageB 0)) 400 21)).vc U0 (fun _ => True) = vcRvalid := by kernel_rfl
/-- What the contract of 'rtake' asks for. -/
def vcRtake : Prop :=
 ∀ x0 : Sx.Rows,
 ∀ x1 : Sx.Rows,
 ∀ x2 : Int,
(rtakePre [.lst x0, .lst x1, .int x2]) →
 Nd ((x0.length : Int) < 67108865) (
 Nd ((x1.length : Int) < 67108865) (
(((0 < (x1.length : Int)) →
 Nd (0 < (x1.length : Int)) (
 Nd (0 < (x1.length : Int)) (
 Nd (¬ ((x1.length : Int) < 1)) (
 Nd (¬ ((x1.length : Int) < (x1.length : Int))) (
(((1 < (x1.length : Int)) →
 Nd (¬ ((Sx.cellAt x1 0 0).toInt < 0)) (
 Nd ((Sx.cellAt x1 0 0).toInt < (x0.length : Int)) (
 Nd ((Sx.cellAt x1 0 0).toInt < (x0.length : Int)) (
 Nd (¬ ((Sx.cellAt x1 0 0).toInt < 0)) (
 Nd ((Sx.cellAt x1 0 0).toInt < (x0.length : Int)) (
 Nd ((Sx.cellAt x1 0 0).toInt < (x0.length : Int)) (
 Nd (¬ ((Sx.cellAt x1 0 0).toInt < 0)) (
 Nd ((Sx.cellAt x1 0 0).toInt < (x0.length : Int)) (
 Nd ((Sx.cellAt x1 0 0).toInt < (x0.length : Int)) (
 Nd (¬ ((x0.length : Int) < (x0.length : Int))) (
 Nd ((x0.length : Int) = (x0.length : Int)) (
 Nd (¬ ((x1.length : Int) < (((x1.length : Int) + (-1)) + 1))) (
 Nd (rtakeRel [.lst x0, .lst x1, .int x2] [.lst (Sx.setAt (Sx.setAt x0 (Sx.cellAt x1 0 0).toInt 1 (.bool true)) (Sx.cellAt x1 0 0).toInt 2 (.int x2)), .lst (Sx.part x1 1 ((x1.length : Int) + (-1))), .int (IntKind.wrap .u32 (Sx.cellAt x1 0 0).toInt), .int (Sx.cellAt x0 (Sx.cellAt x1 0 0).toInt 0).toInt]) (
 True)))))))))))))) ∧ (¬ (1 < (x1.length : Int)) →
 Nd (¬ ((x1.length : Int) < (x1.length : Int))) (
 Nd (¬ ((Sx.cellAt x1 0 0).toInt < 0)) (
 Nd ((Sx.cellAt x1 0 0).toInt < (x0.length : Int)) (
 Nd ((Sx.cellAt x1 0 0).toInt < (x0.length : Int)) (
 Nd (¬ ((Sx.cellAt x1 0 0).toInt < 0)) (
 Nd ((Sx.cellAt x1 0 0).toInt < (x0.length : Int)) (
 Nd ((Sx.cellAt x1 0 0).toInt < (x0.length : Int)) (
 Nd (¬ ((Sx.cellAt x1 0 0).toInt < 0)) (
 Nd ((Sx.cellAt x1 0 0).toInt < (x0.length : Int)) (
 Nd ((Sx.cellAt x1 0 0).toInt < (x0.length : Int)) (
 Nd (¬ ((x0.length : Int) < (x0.length : Int))) (
 Nd ((x0.length : Int) = (x0.length : Int)) (
 Nd (rtakeRel [.lst x0, .lst x1, .int x2] [.lst (Sx.setAt (Sx.setAt x0 (Sx.cellAt x1 0 0).toInt 1 (.bool true)) (Sx.cellAt x1 0 0).toInt 2 (.int x2)), .lst ([] : Sx.Rows), .int (IntKind.wrap .u32 (Sx.cellAt x1 0 0).toInt), .int (Sx.cellAt x0 (Sx.cellAt x1 0 0).toInt 0).toInt]) (
 True)))))))))))))))))))) ∧ (¬ (0 < (x1.length : Int)) →
 Nd (¬ ((x0.length : Int) < (x0.length : Int))) (
 Nd (((x0.length : Int) + 1) < 67108865) (
 Nd ((x0.length : Int) = (x0.length : Int)) (
 Nd (¬ ((x0.length : Int) < 0)) (
 Nd ((x0.length : Int) < ((x0.length : Int) + 1)) (
 Nd ((x0.length : Int) < ((x0.length : Int) + 1)) (
 Nd (¬ ((x0.length : Int) < 0)) (
 Nd ((x0.length : Int) < ((x0.length : Int) + 1)) (
 Nd ((x0.length : Int) < ((x0.length : Int) + 1)) (
 Nd (¬ ((x0.length : Int) < 0)) (
 Nd ((x0.length : Int) < ((x0.length : Int) + 1)) (
 Nd ((x0.length : Int) < ((x0.length : Int) + 1)) (
 Nd (¬ (((x0.length : Int) + 1) < ((x0.length : Int) + 1))) (
 Nd (((x0.length : Int) + 1) = ((x0.length : Int) + 1)) (
 Nd (¬ ((x1.length : Int) < (x1.length : Int))) (
 Nd ((x1.length : Int) = (x1.length : Int)) (
 Nd (rtakeRel [.lst x0, .lst x1, .int x2] [.lst (Sx.setAt (Sx.setAt (x0 ++ (Sx.chunk 3 1 [(.int (1)), (.bool false), (.int (0))])) (x0.length : Int) 1 (.bool true)) (x0.length : Int) 2 (.int x2)), .lst x1, .int (IntKind.wrap .u32 (x0.length : Int)), .int (Sx.cellAt (x0 ++ (Sx.chunk 3 1 [(.int (1)), (.bool false), (.int (0))])) (x0.length : Int) 0).toInt]) (
 True)))))))))))))))))))))
theorem vcRtake_eq : (cvc Go.Proofs.Try.prog U0 cRtake (sxF Go.Proofs.Try.prog U0 annsB (conOf Go.Proofs.Try.prog U0 (stageB 0)) 400 40)).vc U0 (fun _ => True) = vcRtake := by kernel_rfl
/-- What the contract of 'rfree' asks for. -/
def vcRfree : Prop :=
 ∀ x0 : Sx.Rows,
 ∀ x1 : Sx.Rows,
 ∀ x2 : Int,
 ∀ x3 : Int,
(rfreePre [.lst x0, .lst x1, .int x2, .int x3]) →
 Nd (rvalidPre [.lst x0, .lst x1, .int x2, .int x3]) (
 ∀ x4 : Bool,
(rvalidRel [.lst x0, .lst x1, .int x2, .int x3] [.bool x4]) →
(((x4 = true) →
 Nd ((x0.length : Int) < 67108865) (
 Nd ((x1.length : Int) < 67108865) (
 Nd ((¬ (x2 < (-9223372036854775808))) ∧ (x2 < 9223372036854775808)) (
 Nd (¬ (x2 < 0)) (
 Nd (x2 < (x0.length : Int)) (
 Nd (x2 < (x0.length : Int)) (
 Nd (¬ (x2 < 0)) (
 Nd (x2 < (x0.length : Int)) (
 Nd (x2 < (x0.length : Int)) (
 Nd (¬ (x2 < 0)) (
 Nd (x2 < (x0.length : Int)) (
 Nd (x2 < (x0.length : Int)) (
(((x3 < 4294967295) →
 Nd (¬ (x2 < 0)) (
 Nd (x2 < (x0.length : Int)) (
 Nd (x2 < (x0.length : Int)) (
 Nd (¬ ((x1.length : Int) < (x1.length : Int))) (
 Nd ((x1.length : Int) = (x1.length : Int)) (
 Nd (((x1.length : Int) + 1) < 67108865) (
(((1 < ((x1.length : Int) + 1)) →
 Nd (¬ ((x0.length : Int) < (x0.length : Int))) (
 Nd ((x0.length : Int) = (x0.length : Int)) (
 Nd (¬ (((x1.length : Int) + 1) < ((x1.length : Int) + 1))) (
 Nd (((x1.length : Int) + 1) = ((x1.length : Int) + 1)) (
 Nd (rfreeRel [.lst x0, .lst x1, .int x2, .int x3] [.lst (Sx.setAt (Sx.setAt (Sx.setAt x0 x2 1 (.bool false)) x2 2 (.int (0))) x2 0 (.int (IntKind.wrap .u32 (x3 + 1)))), .lst ((Sx.chunk 1 1 [(.int x2)]) ++ x1), .int (Sx.cellAt x0 x2 2).toInt, .int 0]) (
 True)))))) ∧ (¬ (1 < ((x1.length : Int) + 1)) →
 Nd (¬ ((x0.length : Int) < (x0.length : Int))) (
 Nd ((x0.length : Int) = (x0.length : Int)) (
 Nd (¬ (((Sx.over (Sx.chunk 1 1 [(.int x2)]) 1 x1).length : Int) < ((x1.length : Int) + 1))) (
 Nd (rfreeRel [.lst x0, .lst x1, .int x2, .int x3] [.lst (Sx.setAt (Sx.setAt (Sx.setAt x0 x2 1 (.bool false)) x2 2 (.int (0))) x2 0 (.int (IntKind.wrap .u32 (x3 + 1)))), .lst (Sx.part (Sx.over (Sx.chunk 1 1 [(.int x2)]) 1 x1) 0 ((x1.length : Int) + 1)), .int (Sx.cellAt x0 x2 2).toInt, .int 0]) (
 True))))))))))))) ∧ (¬ (x3 < 4294967295) →
 Nd (¬ ((x0.length : Int) < (x0.length : Int))) (
 Nd ((x0.length : Int) = (x0.length : Int)) (
 Nd (¬ ((x1.length : Int) < (x1.length : Int))) (
 Nd ((x1.length : Int) = (x1.length : Int)) (
 Nd (rfreeRel [.lst x0, .lst x1, .int x2, .int x3] [.lst (Sx.setAt (Sx.setAt x0 x2 1 (.bool false)) x2 2 (.int (0))), .lst x1, .int (Sx.cellAt x0 x2 2).toInt, .int 0]) (
 True)))))))))))))))))))) ∧ (¬ (x4 = true) →
 Nd (rfreeRel [.lst x0, .lst x1, .int x2, .int x3] [.lst x0, .lst x1, .int 0, .int 11]) (
 True))))
theorem vcRfree_eq : (cvc Go.Proofs.Try.prog U0 cRfree (sxF Go.Proofs.Try.prog U0 annsB (conOf Go.Proofs.Try.prog U0 (stageB 1)) 400 41)).vc U0 (fun _ => True) = vcRfree := by kernel_rfl
/-- What the contract of 'runtake' asks for. -/
def vcRuntake : Prop :=
 ∀ x0 : Sx.Rows,
 ∀ x1 : Sx.Rows,
 ∀ x2 : Int,
 ∀ x3 : Int,
(runtakePre [.lst x0, .lst x1, .int x2, .int x3]) →
 Nd (rvalidPre [.lst x0, .lst x1, .int x2, .int x3]) (
 ∀ x4 : Bool,
(rvalidRel [.lst x0, .lst x1, .int x2, .int x3] [.bool x4]) →
(((x4 = true) →
 Nd ((¬ (x2 < (-9223372036854775808))) ∧ (x2 < 9223372036854775808)) (
(((x3 = 1) →
 Nd (x3 = 1) (
 Nd (x3 = 1) (
 Nd (x3 = 1) (
 Nd (x3 = 1) (
 Nd ((¬ (((x0.length : Int) + (-1)) < (-9223372036854775808))) ∧ (((x0.length : Int) + (-1)) < 9223372036854775808)) (
 Nd (x3 = 1) (
 Nd (x3 = 1) (
(((x2 < ((x0.length : Int) + (-1))) →
 Nd (runtakeRel [.lst x0, .lst x1, .int x2, .int x3] [.lst x0, .lst x1, .int 10]) (
 True)) ∧ (¬ (x2 < ((x0.length : Int) + (-1))) →
 Nd ((x0.length : Int) < 67108865) (
 Nd ((x1.length : Int) < 67108865) (
 Nd (x3 = 1) (
 Nd (¬ (x2 < 0)) (
 Nd (¬ ((x0.length : Int) < x2)) (
 Nd (¬ ((x0.length : Int) < x2)) (
 Nd (¬ ((x1.length : Int) < (x1.length : Int))) (
 Nd ((x1.length : Int) = (x1.length : Int)) (
 Nd (runtakeRel [.lst x0, .lst x1, .int x2, .int x3] [.lst (Sx.part x0 0 x2), .lst x1, .int 0]) (
 True))))))))))))))))))) ∧ (¬ (x3 = 1) →
 Nd (¬ (x3 = 1)) (
 Nd (¬ (x3 = 1)) (
 Nd (¬ (x3 = 1)) (
 Nd (¬ (x3 = 1)) (
 Nd (¬ (x3 = 1)) (
 Nd (¬ (x3 = 1)) (
 Nd ((x0.length : Int) < 67108865) (
 Nd ((x1.length : Int) < 67108865) (
 Nd (¬ (x3 = 1)) (
 Nd (¬ (x2 < 0)) (
 Nd (x2 < (x0.length : Int)) (
 Nd (x2 < (x0.length : Int)) (
 Nd (¬ (x2 < 0)) (
 Nd (x2 < (x0.length : Int)) (
 Nd (x2 < (x0.length : Int)) (
 Nd (¬ ((x1.length : Int) < (x1.length : Int))) (
 Nd ((x1.length : Int) = (x1.length : Int)) (
 Nd (((x1.length : Int) + 1) < 67108865) (
(((1 < ((x1.length : Int) + 1)) →
 Nd (¬ ((x0.length : Int) < (x0.length : Int))) (
 Nd ((x0.length : Int) = (x0.length : Int)) (
 Nd (¬ (((x1.length : Int) + 1) < ((x1.length : Int) + 1))) (
 Nd (((x1.length : Int) + 1) = ((x1.length : Int) + 1)) (
 Nd (runtakeRel [.lst x0, .lst x1, .int x2, .int x3] [.lst (Sx.setAt (Sx.setAt x0 x2 1 (.bool false)) x2 2 (.int (0))), .lst ((Sx.chunk 1 1 [(.int x2)]) ++ x1), .int 0]) (
 True)))))) ∧ (¬ (1 < ((x1.length : Int) + 1)) →
 Nd (¬ ((x0.length : Int) < (x0.length : Int))) (
 Nd ((x0.length : Int) = (x0.length : Int)) (
 Nd (¬ (((Sx.over (Sx.chunk 1 1 [(.int x2)]) 1 x1).length : Int) < ((x1.length : Int) + 1))) (
 Nd (runtakeRel [.lst x0, .lst x1, .int x2, .int x3] [.lst (Sx.setAt (Sx.setAt x0 x2 1 (.bool false)) x2 2 (.int (0))), .lst (Sx.part (Sx.over (Sx.chunk 1 1 [(.int x2)]) 1 x1) 0 ((x1.length : Int) + 1)), .int 0]) (
 True)))))))))))))))))))))))))))) ∧ (¬ (x4 = true) →
 Nd (runtakeRel [.lst x0, .lst x1, .int x2, .int x3] [.lst x0, .lst x1, .int 11]) (
 True))))
theorem vcRuntake_eq : (cvc Go.Proofs.Try.prog U0 cRuntake (sxF Go.Proofs.Try.prog U0 annsB (conOf Go.Proofs.Try.prog U0 (stageB 1)) 400 42)).vc U0 (fun _ => True) = vcRuntake := by kernel_rfl
/-- What the contract of 'runfree' asks for. -/
def vcRunfree : Prop :=
 ∀ x0 : Sx.Rows,
 ∀ x1 : Sx.Rows,
 ∀ x2 : Int,
 ∀ x3 : Int,
 ∀ x4 : Int,
(runfreePre [.lst x0, .lst x1, .int x2, .int x3, .int x4]) →
((((x1.length : Int) = 0) →
 Nd ((x1.length : Int) = 0) (
 Nd ((x1.length : Int) = 0) (
 Nd ((x1.length : Int) = 0) (
 Nd ((x1.length : Int) = 0) (
 Nd ((x1.length : Int) = 0) (
 Nd ((x1.length : Int) = 0) (
 Nd ((x1.length : Int) = 0) (
 Nd ((x1.length : Int) = 0) (
 Nd (runfreeRel [.lst x0, .lst x1, .int x2, .int x3, .int x4] [.lst x0, .lst x1, .int 10]) (
 True)))))))))) ∧ (¬ ((x1.length : Int) = 0) →
 Nd (¬ ((x1.length : Int) = 0)) (
 Nd (¬ ((x1.length : Int) = 0)) (
 Nd (0 < (x1.length : Int)) (
 Nd (¬ ((x1.length : Int) = 0)) (
 Nd (¬ ((x1.length : Int) = 0)) (
 Nd (¬ ((x1.length : Int) = 0)) (
 Nd (¬ ((x1.length : Int) = 0)) (
 Nd (¬ ((x1.length : Int) = 0)) (
 Nd (¬ ((x1.length : Int) = 0)) (
((((IntKind.wrap .u32 (Sx.cellAt x1 0 0).toInt) = x2) →
 Nd ((IntKind.wrap .u32 (Sx.cellAt x1 0 0).toInt) = x2) (
 Nd ((IntKind.wrap .u32 (Sx.cellAt x1 0 0).toInt) = x2) (
 Nd ((IntKind.wrap .u32 (Sx.cellAt x1 0 0).toInt) = x2) (
(((x3 = 0) →
 Nd (x3 = 0) (
 Nd (x3 = 0) (
 Nd (x3 = 0) (
 Nd (x3 = 0) (
 Nd (x3 = 0) (
 Nd (x3 = 0) (
 Nd (x3 = 0) (
 Nd (x3 = 0) (
 Nd (x3 = 0) (
 Nd (x3 = 0) (
 Nd (x3 = 0) (
 Nd (x3 = 0) (
 Nd (x3 = 0) (
 Nd (runfreeRel [.lst x0, .lst x1, .int x2, .int x3, .int x4] [.lst x0, .lst x1, .int 10]) (
 True))))))))))))))) ∧ (¬ (x3 = 0) →
 Nd (¬ (x3 = 0)) (
 Nd (¬ (x3 = 0)) (
 Nd (¬ (x3 = 0)) (
 Nd (¬ (x3 = 0)) (
 Nd (0 < (x1.length : Int)) (
 Nd (¬ (x3 = 0)) (
 Nd (¬ (x3 = 0)) (
 Nd (¬ ((Sx.cellAt x1 0 0).toInt < 0)) (
 Nd ((Sx.cellAt x1 0 0).toInt < (x0.length : Int)) (
 Nd (¬ (x3 = 0)) (
 Nd (¬ (x3 = 0)) (
 Nd (¬ (x3 = 0)) (
 Nd (¬ (x3 = 0)) (
 Nd (¬ (x3 = 0)) (
 Nd (¬ (x3 = 0)) (
 Nd (¬ (x3 = 0)) (
((((IntKind.wrap .u32 ((Sx.cellAt x0 (Sx.cellAt x1 0 0).toInt 0).toInt + (-1))) = x3) →
 Nd ((x0.length : Int) < 67108865) (
 Nd ((x1.length : Int) < 67108865) (
 Nd (0 < (x1.length : Int)) (
 Nd (0 < (x1.length : Int)) (
 Nd (¬ ((x1.length : Int) < 1)) (
 Nd (¬ ((x1.length : Int) < (x1.length : Int))) (
(((1 < (x1.length : Int)) →
 Nd (¬ ((Sx.cellAt x1 0 0).toInt < 0)) (
 Nd ((Sx.cellAt x1 0 0).toInt < (x0.length : Int)) (
 Nd ((Sx.cellAt x1 0 0).toInt < (x0.length : Int)) (
 Nd (¬ ((x0.length : Int) < (x0.length : Int))) (
 Nd ((x0.length : Int) = (x0.length : Int)) (
 Nd (¬ ((x1.length : Int) < (((x1.length : Int) + (-1)) + 1))) (
 Nd (runfreeRel [.lst x0, .lst x1, .int x2, .int x3, .int x4] [.lst (Sx.setAt (Sx.setAt (Sx.setAt x0 (Sx.cellAt x1 0 0).toInt 0 (.int x3)) (Sx.cellAt x1 0 0).toInt 1 (.bool true)) (Sx.cellAt x1 0 0).toInt 2 (.int x4)), .lst (Sx.part x1 1 ((x1.length : Int) + (-1))), .int 0]) (
 True)))))))) ∧ (¬ (1 < (x1.length : Int)) →
 Nd (¬ ((x1.length : Int) < (x1.length : Int))) (
 Nd (¬ ((Sx.cellAt x1 0 0).toInt < 0)) (
 Nd ((Sx.cellAt x1 0 0).toInt < (x0.length : Int)) (
 Nd ((Sx.cellAt x1 0 0).toInt < (x0.length : Int)) (
 Nd (¬ ((x0.length : Int) < (x0.length : Int))) (
 Nd ((x0.length : Int) = (x0.length : Int)) (
 Nd (runfreeRel [.lst x0, .lst x1, .int x2, .int x3, .int x4] [.lst (Sx.setAt (Sx.setAt (Sx.setAt x0 (Sx.cellAt x1 0 0).toInt 0 (.int x3)) (Sx.cellAt x1 0 0).toInt 1 (.bool true)) (Sx.cellAt x1 0 0).toInt 2 (.int x4)), .lst ([] : Sx.Rows), .int 0]) (
 True)))))))))))))))) ∧ (¬ ((IntKind.wrap .u32 ((Sx.cellAt x0 (Sx.cellAt x1 0 0).toInt 0).toInt + (-1))) = x3) →
 Nd (runfreeRel [.lst x0, .lst x1, .int x2, .int x3, .int x4] [.lst x0, .lst x1, .int 10]) (
 True))))))))))))))))))))))))) ∧ (¬ ((IntKind.wrap .u32 (Sx.cellAt x1 0 0).toInt) = x2) →
 Nd (¬ ((IntKind.wrap .u32 (Sx.cellAt x1 0 0).toInt) = x2)) (
 Nd (¬ ((IntKind.wrap .u32 (Sx.cellAt x1 0 0).toInt) = x2)) (
 Nd (¬ ((IntKind.wrap .u32 (Sx.cellAt x1 0 0).toInt) = x2)) (
 Nd (runfreeRel [.lst x0, .lst x1, .int x2, .int x3, .int x4] [.lst x0, .lst x1, .int 10]) (
 True)))))))))))))))))
theorem vcRunfree_eq : (cvc Go.Proofs.Try.prog U0 cRunfree (sxF Go.Proofs.Try.prog U0 annsB (conOf Go.Proofs.Try.prog U0 (stageB 0)) 400 43)).vc U0 (fun _ => True) = vcRunfree := by kernel_rfl
/-- What the contract of 'pick' asks for. -/
def vcPick : Prop :=
 ∀ x0 : Int,
 ∀ x1 : Int,
 ∀ x2 : Int,
 ∀ x3 : Sx.Rows,
(pickPre [.int x0, .int x1, .int x2, .lst x3]) →
((((x3.length : Int) = 0) →
 Nd (pickRel [.int x0, .int x1, .int x2, .lst x3] [.int 0, .int 0]) (
 True)) ∧ (¬ ((x3.length : Int) = 0) →
 Nd ((¬ (x1 < (-9223372036854775808))) ∧ (x1 < 9223372036854775808)) (
 Nd (¬ ((x3.length : Int) = 0)) (
 Nd (¬ (((x1 : Int).tmod ((x3.length : Int))) < 0)) (
 Nd (((x1 : Int).tmod ((x3.length : Int))) < (x3.length : Int)) (
(((x1 = 251) →
 Nd (pickRel [.int x0, .int x1, .int x2, .lst x3] [.int (Sx.cellAt x3 ((x1 : Int).tmod ((x3.length : Int))) 0).toInt, .int (IntKind.wrap .u32 ((Sx.cellAt x3 ((x1 : Int).tmod ((x3.length : Int))) 1).toInt + 1))]) (
 True)) ∧ (¬ (x1 = 251) →
(((x1 = 252) →
 Nd (pickRel [.int x0, .int x1, .int x2, .lst x3] [.int (Sx.cellAt x3 ((x1 : Int).tmod ((x3.length : Int))) 0).toInt, .int (IntKind.wrap .u32 ((Sx.cellAt x3 ((x1 : Int).tmod ((x3.length : Int))) 1).toInt + (-1)))]) (
 True)) ∧ (¬ (x1 = 252) →
(((x1 = 253) →
 Nd (pickRel [.int x0, .int x1, .int x2, .lst x3] [.int (IntKind.wrap .u32 ((Sx.cellAt x3 ((x1 : Int).tmod ((x3.length : Int))) 0).toInt + 1)), .int (Sx.cellAt x3 ((x1 : Int).tmod ((x3.length : Int))) 1).toInt]) (
 True)) ∧ (¬ (x1 = 253) →
(((x1 = 254) →
 Nd (pickRel [.int x0, .int x1, .int x2, .lst x3] [.int 0, .int 0]) (
 True)) ∧ (¬ (x1 = 254) →
(((x1 = 255) →
 Nd (pickRel [.int x0, .int x1, .int x2, .lst x3] [.int 4294967295, .int 4294967295]) (
 True)) ∧ (¬ (x1 = 255) →
 Nd (pickRel [.int x0, .int x1, .int x2, .lst x3] [.int (Sx.cellAt x3 ((x1 : Int).tmod ((x3.length : Int))) 0).toInt, .int (Sx.cellAt x3 ((x1 : Int).tmod ((x3.length : Int))) 1).toInt]) (
 True)))))))))))))))))
theorem vcPick_eq : (cvc Go.Proofs.Try.prog U0 cPick (sxF Go.Proofs.Try.prog U0 annsB (conOf Go.Proofs.Try.prog U0 (stageB 0)) 400 20)).vc U0 (fun _ => True) = vcPick := by kernel_rfl
end Go.C15
