/- The conditions of contracts, as the engine's printer has written them, and that the kernel comes to the same.
  Conditions: none. -/
import Derived.Test.YtdhbegidnfapjaaA1
import Derived.Test.YtdhbegidnfapjaaRows
import Derived.KernelRfl
set_option linter.unusedVariables false
set_option maxRecDepth 100000
namespace Go.C15
open Go Go.Xe Go.Sx
/-- What the contract of 'take' asks for. -/
def vcTake : Prop :=
 ∀ x0 : Int,
 ∀ x1 : Sx.Rows,
 ∀ x2 : Int,
 ∀ x3 : Int,
(takePre [.int x0, .lst x1, .int x2, .int x3]) →
(((x2 = 0) →
 Nd (x2 = 0) (
 Nd (x2 = 0) (
 Nd (x2 = 0) (
 Nd (x2 = 0) (
 Nd (x2 = 0) (
 Nd (x2 = 0) (
((((x1.length : Int) = 1048576) →
 Nd (¬ ((x1.length : Int) < (x1.length : Int))) (
 Nd ((x1.length : Int) = (x1.length : Int)) (
 Nd (takeRel [.int x0, .lst x1, .int x2, .int x3] [.int 0, .int 0, .int 3, .lst x1, .int x2, .int x3]) (
 True)))) ∧ (¬ ((x1.length : Int) = 1048576) →
 Nd (x2 = 0) (
 Nd (¬ ((x1.length : Int) < (x1.length : Int))) (
 Nd (((x1.length : Int) + 1) < 67108865) (
 Nd ((x1.length : Int) = (x1.length : Int)) (
 Nd ((¬ ((x1.length : Int) < (-9223372036854775808))) ∧ ((x1.length : Int) < 9223372036854775808)) (
 Nd (¬ ((x1.length : Int) < 0)) (
 Nd ((x1.length : Int) < ((x1.length : Int) + 1)) (
 Nd ((x1.length : Int) < ((x1.length : Int) + 1)) (
 Nd ((x1.length : Int) < ((x1.length : Int) + 1)) (
 Nd ((x1.length : Int) < ((x1.length : Int) + 1)) (
 Nd ((x1.length : Int) < ((x1.length : Int) + 1)) (
 Nd ((¬ ((x3 + 1) < (-9223372036854775808))) ∧ ((x3 + 1) < 9223372036854775808)) (
 Nd ((x1.length : Int) < ((x1.length : Int) + 1)) (
 Nd (¬ (((x1.length : Int) + 1) < ((x1.length : Int) + 1))) (
 Nd (((x1.length : Int) + 1) = ((x1.length : Int) + 1)) (
 Nd (takeRel [.int x0, .lst x1, .int x2, .int x3] [.int (IntKind.wrap .u32 (x1.length : Int)), .int (Sx.cellAt (x1 ++ (Sx.chunk 4 1 [(.int (1)), (.bool false), (.int (0)), (.int (0))])) (x1.length : Int) 0).toInt, .int 0, .lst (Sx.setAt (Sx.setAt (Sx.setAt (x1 ++ (Sx.chunk 4 1 [(.int (1)), (.bool false), (.int (0)), (.int (0))])) (x1.length : Int) 2 (.int (0))) (x1.length : Int) 1 (.bool true)) (x1.length : Int) 3 (.int x0)), .int (Sx.cellAt (x1 ++ (Sx.chunk 4 1 [(.int (1)), (.bool false), (.int (0)), (.int (0))])) (x1.length : Int) 2).toInt, .int (x3 + 1)]) (
 True))))))))))))))))))))))))) ∧ (¬ (x2 = 0) →
 Nd (¬ (x2 = 0)) (
 Nd (¬ (x2 = 0)) (
 Nd (¬ (x2 = 0)) (
 Nd (¬ (x2 = 0)) (
 Nd (¬ (x2 = 0)) (
 Nd (¬ (x2 = 0)) (
 Nd (¬ (x2 = 0)) (
 Nd ((¬ ((x2 + (-1)) < (-9223372036854775808))) ∧ ((x2 + (-1)) < 9223372036854775808)) (
 Nd (¬ ((x2 + (-1)) < 0)) (
 Nd ((x2 + (-1)) < (x1.length : Int)) (
 Nd ((x2 + (-1)) < (x1.length : Int)) (
 Nd ((x2 + (-1)) < (x1.length : Int)) (
 Nd ((x2 + (-1)) < (x1.length : Int)) (
 Nd ((x2 + (-1)) < (x1.length : Int)) (
 Nd ((¬ ((x3 + 1) < (-9223372036854775808))) ∧ ((x3 + 1) < 9223372036854775808)) (
 Nd ((x2 + (-1)) < (x1.length : Int)) (
 Nd (¬ ((x1.length : Int) < (x1.length : Int))) (
 Nd ((x1.length : Int) = (x1.length : Int)) (
 Nd (takeRel [.int x0, .lst x1, .int x2, .int x3] [.int (IntKind.wrap .u32 (x2 + (-1))), .int (Sx.cellAt x1 (x2 + (-1)) 0).toInt, .int 0, .lst (Sx.setAt (Sx.setAt (Sx.setAt x1 (x2 + (-1)) 2 (.int (0))) (x2 + (-1)) 1 (.bool true)) (x2 + (-1)) 3 (.int x0)), .int (Sx.cellAt x1 (x2 + (-1)) 2).toInt, .int (x3 + 1)]) (
 True)))))))))))))))))))))
theorem vcTake_eq : (cvc Go.Proofs.Try.prog U0 cTake (sxF Go.Proofs.Try.prog U0 anns (conOf Go.Proofs.Try.prog U0 (stage 0)) 400 10)).vc U0 (fun _ => True) = vcTake := by kernel_rfl
/-- What the contract of 'free' asks for. -/
def vcFree : Prop :=
 ∀ x0 : Int,
 ∀ x1 : Int,
 ∀ x2 : Sx.Rows,
 ∀ x3 : Int,
 ∀ x4 : Int,
(freePre [.int x0, .int x1, .lst x2, .int x3, .int x4]) →
 Nd ((¬ (x0 < 0)) ∧ (x0 < 18446744073709551616)) (
 Nd ((¬ ((x2.length : Int) < 0)) ∧ ((x2.length : Int) < 18446744073709551616)) (
(((x0 < (x2.length : Int)) →
 Nd (¬ (x0 < 0)) (
 Nd (x0 < (x2.length : Int)) (
 Nd (x0 < (x2.length : Int)) (
((((Sx.cellAt x2 x0 1).toBool = true) →
 Nd ((Sx.cellAt x2 x0 1).toBool = true) (
 Nd ((Sx.cellAt x2 x0 1).toBool = true) (
 Nd ((Sx.cellAt x2 x0 1).toBool = true) (
 Nd (x0 < (x2.length : Int)) (
 Nd ((Sx.cellAt x2 x0 1).toBool = true) (
 Nd ((Sx.cellAt x2 x0 1).toBool = true) (
 Nd ((Sx.cellAt x2 x0 1).toBool = true) (
 Nd ((Sx.cellAt x2 x0 1).toBool = true) (
((((Sx.cellAt x2 x0 0).toInt = x1) →
 Nd (x0 < (x2.length : Int)) (
 Nd (x0 < (x2.length : Int)) (
 Nd (x0 < (x2.length : Int)) (
 Nd ((¬ ((x4 + (-1)) < (-9223372036854775808))) ∧ ((x4 + (-1)) < 9223372036854775808)) (
 Nd (x0 < (x2.length : Int)) (
((((Sx.cellAt x2 x0 0).toInt < 4294967295) →
 Nd (x0 < (x2.length : Int)) (
 Nd (x0 < (x2.length : Int)) (
 Nd (¬ (x0 < 0)) (
 Nd (x0 < (x2.length : Int)) (
 Nd (x0 < (x2.length : Int)) (
 Nd ((¬ (x0 < (-9223372036854775808))) ∧ (x0 < 9223372036854775808)) (
 Nd ((¬ ((x0 + 1) < (-9223372036854775808))) ∧ ((x0 + 1) < 9223372036854775808)) (
 Nd (¬ ((x2.length : Int) < (x2.length : Int))) (
 Nd ((x2.length : Int) = (x2.length : Int)) (
 Nd (freeRel [.int x0, .int x1, .lst x2, .int x3, .int x4] [.int (Sx.cellAt x2 x0 3).toInt, .int 0, .lst (Sx.setAt (Sx.setAt (Sx.setAt (Sx.setAt x2 x0 1 (.bool false)) x0 3 (.int (0))) x0 0 (.int (IntKind.wrap .u32 ((Sx.cellAt x2 x0 0).toInt + 1)))) x0 2 (.int x3)), .int (x0 + 1), .int (x4 + (-1))]) (
 True))))))))))) ∧ (¬ ((Sx.cellAt x2 x0 0).toInt < 4294967295) →
 Nd (¬ ((x2.length : Int) < (x2.length : Int))) (
 Nd ((x2.length : Int) = (x2.length : Int)) (
 Nd (freeRel [.int x0, .int x1, .lst x2, .int x3, .int x4] [.int (Sx.cellAt x2 x0 3).toInt, .int 0, .lst (Sx.setAt (Sx.setAt x2 x0 1 (.bool false)) x0 3 (.int (0))), .int x3, .int (x4 + (-1))]) (
 True))))))))))) ∧ (¬ ((Sx.cellAt x2 x0 0).toInt = x1) →
 Nd (¬ ((x2.length : Int) < (x2.length : Int))) (
 Nd ((x2.length : Int) = (x2.length : Int)) (
 Nd (freeRel [.int x0, .int x1, .lst x2, .int x3, .int x4] [.int 0, .int 11, .lst x2, .int x3, .int x4]) (
 True)))))))))))))) ∧ (¬ ((Sx.cellAt x2 x0 1).toBool = true) →
 Nd (¬ ((Sx.cellAt x2 x0 1).toBool = true)) (
 Nd (¬ ((Sx.cellAt x2 x0 1).toBool = true)) (
 Nd (¬ ((Sx.cellAt x2 x0 1).toBool = true)) (
 Nd (¬ ((Sx.cellAt x2 x0 1).toBool = true)) (
 Nd (¬ ((Sx.cellAt x2 x0 1).toBool = true)) (
 Nd (¬ ((Sx.cellAt x2 x0 1).toBool = true)) (
 Nd (¬ ((Sx.cellAt x2 x0 1).toBool = true)) (
 Nd (¬ ((x2.length : Int) < (x2.length : Int))) (
 Nd ((x2.length : Int) = (x2.length : Int)) (
 Nd (freeRel [.int x0, .int x1, .lst x2, .int x3, .int x4] [.int 0, .int 11, .lst x2, .int x3, .int x4]) (
 True)))))))))))))))) ∧ (¬ (x0 < (x2.length : Int)) →
 Nd (¬ ((x2.length : Int) < (x2.length : Int))) (
 Nd ((x2.length : Int) = (x2.length : Int)) (
 Nd (freeRel [.int x0, .int x1, .lst x2, .int x3, .int x4] [.int 0, .int 11, .lst x2, .int x3, .int x4]) (
 True)))))))
theorem vcFree_eq : (cvc Go.Proofs.Try.prog U0 cFree (sxF Go.Proofs.Try.prog U0 anns (conOf Go.Proofs.Try.prog U0 (stage 0)) 400 11)).vc U0 (fun _ => True) = vcFree := by kernel_rfl
/-- What the contract of 'valid' asks for. -/
def vcValid : Prop :=
 ∀ x0 : Int,
 ∀ x1 : Int,
 ∀ x2 : Sx.Rows,
 ∀ x3 : Int,
 ∀ x4 : Int,
(validPre [.int x0, .int x1, .lst x2, .int x3, .int x4]) →
 Nd ((¬ (x0 < 0)) ∧ (x0 < 18446744073709551616)) (
 Nd ((¬ ((x2.length : Int) < 0)) ∧ ((x2.length : Int) < 18446744073709551616)) (
(((x0 < (x2.length : Int)) →
 Nd (¬ (x0 < 0)) (
 Nd (x0 < (x2.length : Int)) (
 Nd (x0 < (x2.length : Int)) (
((((Sx.cellAt x2 x0 1).toBool = true) →
 Nd ((Sx.cellAt x2 x0 1).toBool = true) (
 Nd ((Sx.cellAt x2 x0 1).toBool = true) (
 Nd ((Sx.cellAt x2 x0 1).toBool = true) (
 Nd (x0 < (x2.length : Int)) (
 Nd ((Sx.cellAt x2 x0 1).toBool = true) (
 Nd ((Sx.cellAt x2 x0 1).toBool = true) (
 Nd ((Sx.cellAt x2 x0 1).toBool = true) (
 Nd ((Sx.cellAt x2 x0 1).toBool = true) (
((((Sx.cellAt x2 x0 0).toInt = x1) →
 Nd (¬ ((x2.length : Int) < (x2.length : Int))) (
 Nd ((x2.length : Int) = (x2.length : Int)) (
 Nd (validRel [.int x0, .int x1, .lst x2, .int x3, .int x4] [.bool true, .lst x2, .int x3, .int x4]) (
 True)))) ∧ (¬ ((Sx.cellAt x2 x0 0).toInt = x1) →
 Nd (¬ ((x2.length : Int) < (x2.length : Int))) (
 Nd ((x2.length : Int) = (x2.length : Int)) (
 Nd (validRel [.int x0, .int x1, .lst x2, .int x3, .int x4] [.bool false, .lst x2, .int x3, .int x4]) (
 True)))))))))))))) ∧ (¬ ((Sx.cellAt x2 x0 1).toBool = true) →
 Nd (¬ ((Sx.cellAt x2 x0 1).toBool = true)) (
 Nd (¬ ((Sx.cellAt x2 x0 1).toBool = true)) (
 Nd (¬ ((Sx.cellAt x2 x0 1).toBool = true)) (
 Nd (¬ ((Sx.cellAt x2 x0 1).toBool = true)) (
 Nd (¬ ((Sx.cellAt x2 x0 1).toBool = true)) (
 Nd (¬ ((Sx.cellAt x2 x0 1).toBool = true)) (
 Nd (¬ ((Sx.cellAt x2 x0 1).toBool = true)) (
 Nd (¬ ((x2.length : Int) < (x2.length : Int))) (
 Nd ((x2.length : Int) = (x2.length : Int)) (
 Nd (validRel [.int x0, .int x1, .lst x2, .int x3, .int x4] [.bool false, .lst x2, .int x3, .int x4]) (
 True)))))))))))))))) ∧ (¬ (x0 < (x2.length : Int)) →
 Nd (¬ ((x2.length : Int) < (x2.length : Int))) (
 Nd ((x2.length : Int) = (x2.length : Int)) (
 Nd (validRel [.int x0, .int x1, .lst x2, .int x3, .int x4] [.bool false, .lst x2, .int x3, .int x4]) (
 True)))))))
theorem vcValid_eq : (cvc Go.Proofs.Try.prog U0 cValid (sxF Go.Proofs.Try.prog U0 anns (conOf Go.Proofs.Try.prog U0 (stage 0)) 400 16)).vc U0 (fun _ => True) = vcValid := by kernel_rfl
/-- What the contract of 'wait' asks for. -/
def vcWait : Prop :=
 ∀ x0 : Sx.Rows,
 ∀ x1 : Int,
 ∀ x2 : Int,
(waitPre [.lst x0, .int x1, .int x2]) →
 Nd (waitInv [.lst x0, .int x1, .int x2] [.lst ([] : Sx.Rows), .int x1]) (
 ∀ x3 : Sx.Rows,
 ∀ x4 : Int,
(waitInv [.lst x0, .int x1, .int x2] [.lst x3, .int x4]) →
(((0 < x4) →
 Nd ((¬ ((x4 + (-1)) < (-9223372036854775808))) ∧ ((x4 + (-1)) < 9223372036854775808)) (
 Nd ((¬ ((x4 + (-1)) < (-9223372036854775808))) ∧ ((x4 + (-1)) < 9223372036854775808)) (
 Nd (¬ ((x4 + (-1)) < 0)) (
 Nd ((x4 + (-1)) < (x0.length : Int)) (
 Nd ((x4 + (-1)) < (x0.length : Int)) (
 Nd (¬ ((x3.length : Int) < (x3.length : Int))) (
 Nd (((x3.length : Int) + 1) < 67108865) (
 Nd ((x3.length : Int) = (x3.length : Int)) (
 Nd ((¬ ((x4 + (-1)) < (-9223372036854775808))) ∧ ((x4 + (-1)) < 9223372036854775808)) (
 Nd (¬ ((x4 + (-1)) < 0)) (
 Nd ((x4 + (-1)) < (x0.length : Int)) (
 Nd ((x4 + (-1)) < (x0.length : Int)) (
 Nd (¬ (((x3.length : Int) + 1) < ((x3.length : Int) + 1))) (
 Nd (((x3.length : Int) + 1) = ((x3.length : Int) + 1)) (
 Nd (waitInv [.lst x0, .int x1, .int x2] [.lst (x3 ++ (Sx.chunk 2 1 [(.int (IntKind.wrap .u32 (x4 + (-1)))), (.int (Sx.cellAt x0 (x4 + (-1)) 0).toInt)])), .int (Sx.cellAt x0 (x4 + (-1)) 2).toInt]) (
 Nd (waitMu [.lst x0, .int x1, .int x2] [.lst (x3 ++ (Sx.chunk 2 1 [(.int (IntKind.wrap .u32 (x4 + (-1)))), (.int (Sx.cellAt x0 (x4 + (-1)) 0).toInt)])), .int (Sx.cellAt x0 (x4 + (-1)) 2).toInt] < waitMu [.lst x0, .int x1, .int x2] [.lst x3, .int x4]) (
 True))))))))))))))))) ∧ (¬ (0 < x4) →
 Nd (¬ ((x3.length : Int) < 0)) (
 Nd (¬ ((x3.length : Int) < (x3.length : Int))) (
 Nd (¬ ((x3.length : Int) < (x3.length : Int))) (
 Nd (¬ ((x3.length : Int) < (x3.length : Int))) (
 Nd ((x3.length : Int) = (x3.length : Int)) (
 Nd (¬ ((x0.length : Int) < (x0.length : Int))) (
 Nd ((x0.length : Int) = (x0.length : Int)) (
 Nd (waitRel [.lst x0, .int x1, .int x2] [.lst x3, .lst x0, .int x1, .int x2]) (
 True)))))))))))
theorem vcWait_eq : (cvc Go.Proofs.Try.prog U0 cWait (sxF Go.Proofs.Try.prog U0 anns (conOf Go.Proofs.Try.prog U0 (stage 0)) 400 14)).vc U0 (fun _ => True) = vcWait := by kernel_rfl
/-- What the contract of 'lives' asks for. -/
def vcLives : Prop :=
(livesPre []) →
 Nd (livesRel [] [.bool true]) (
 True)
theorem vcLives_eq : (cvc Go.Proofs.Try.prog U0 cLives (sxF Go.Proofs.Try.prog U0 anns (conOf Go.Proofs.Try.prog U0 (stage 0)) 400 15)).vc U0 (fun _ => True) = vcLives := by kernel_rfl
end Go.C15
