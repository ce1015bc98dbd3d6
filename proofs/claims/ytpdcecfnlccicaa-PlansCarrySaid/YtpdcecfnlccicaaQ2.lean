/- The conditions of contracts, as the engine's printer has written them, and that the kernel comes to the same.
  Conditions: none. -/
import Derived.Test.YtpdcecfnlccicaaQ1
import Derived.Test.YtpdcecfnlccicaaRows
import Derived.KernelRfl
set_option linter.unusedVariables false
set_option maxRecDepth 100000
namespace Go.C36
open Go Go.Xe Go.Sx
def vcAhead : Prop :=
 ∀ x0 : Sx.Rows,
 ∀ x1 : Sx.Rows,
(aheadPre [.lst x0, .lst x1]) →
((((x1.length : Int) = 0) →
 Nd (aheadRel [.lst x0, .lst x1] [.lst ([] : Sx.Rows)]) (
 True)) ∧ (¬ ((x1.length : Int) = 0) →
 Nd (¬ ((x1.length : Int) < 0)) (
 Nd (¬ ((x1.length : Int) < (x1.length : Int))) (
 Nd ((x1.length : Int) < 1048577) (
 Nd ((¬ (((x1.length : Int) + (-1)) < (-9223372036854775808))) ∧ (((x1.length : Int) + (-1)) < 9223372036854775808)) (
 Nd (¬ ((x1.length : Int) < (x1.length : Int))) (
 Nd (ahInv [.lst x1] [.lst (List.replicate ((x1.length : Int)).toNat [(.int (0))] : Sx.Rows), .int ((x1.length : Int) + (-1)), .int (-1)]) (
 ∀ x2 : Sx.Rows,
 ∀ x3 : Int,
 ∀ x4 : Int,
(ahInv [.lst x1] [.lst x2, .int x3, .int x4]) →
(((x3 < 0) →
 Nd ((x1.length : Int) = (x1.length : Int)) (
 Nd (¬ ((x2.length : Int) < (x1.length : Int))) (
 Nd (aheadRel [.lst x0, .lst x1] [.lst (Sx.part x2 0 (x1.length : Int))]) (
 True)))) ∧ (¬ (x3 < 0) →
 Nd (¬ (x3 < 0)) (
 Nd (x3 < (x1.length : Int)) (
 Nd (¬ (x3 < 0)) (
 Nd (x3 < (x1.length : Int)) (
 Nd (¬ ((x2.length : Int) < x3)) (
 Nd (x3 < (x1.length : Int)) (
((((Sx.cellAt x1 x3 0).toInt = 1) →
 Nd ((Sx.cellAt x1 x3 0).toInt = 1) (
 Nd ((Sx.cellAt x1 x3 0).toInt = 1) (
 Nd ((Sx.cellAt x1 x3 0).toInt = 1) (
((((Sx.cellAt x1 x3 2).toBool = true) →
 Nd ((¬ ((x3 + (-1)) < (-9223372036854775808))) ∧ ((x3 + (-1)) < 9223372036854775808)) (
 Nd (¬ ((x1.length : Int) < (x1.length : Int))) (
 Nd (ahInv [.lst x1] [.lst (Sx.over x2 x3 (Sx.chunk 1 1 [(.int x4)])), .int (x3 + (-1)), .int x4]) (
 Nd (ahMu [.lst x1] [.lst (Sx.over x2 x3 (Sx.chunk 1 1 [(.int x4)])), .int (x3 + (-1)), .int x4] < ahMu [.lst x1] [.lst x2, .int x3, .int x4]) (
 True))))) ∧ (¬ ((Sx.cellAt x1 x3 2).toBool = true) →
 Nd ((¬ ((x3 + (-1)) < (-9223372036854775808))) ∧ ((x3 + (-1)) < 9223372036854775808)) (
 Nd (¬ ((x1.length : Int) < (x1.length : Int))) (
 Nd (ahInv [.lst x1] [.lst (Sx.over x2 x3 (Sx.chunk 1 1 [(.int x4)])), .int (x3 + (-1)), .int x3]) (
 Nd (ahMu [.lst x1] [.lst (Sx.over x2 x3 (Sx.chunk 1 1 [(.int x4)])), .int (x3 + (-1)), .int x3] < ahMu [.lst x1] [.lst x2, .int x3, .int x4]) (
 True)))))))))) ∧ (¬ ((Sx.cellAt x1 x3 0).toInt = 1) →
 Nd (¬ ((Sx.cellAt x1 x3 0).toInt = 1)) (
 Nd (¬ ((Sx.cellAt x1 x3 0).toInt = 1)) (
 Nd (¬ ((Sx.cellAt x1 x3 0).toInt = 1)) (
 Nd ((¬ ((x3 + (-1)) < (-9223372036854775808))) ∧ ((x3 + (-1)) < 9223372036854775808)) (
 Nd (¬ ((x1.length : Int) < (x1.length : Int))) (
 Nd (ahInv [.lst x1] [.lst (Sx.over x2 x3 (Sx.chunk 1 1 [(.int x4)])), .int (x3 + (-1)), .int x4]) (
 Nd (ahMu [.lst x1] [.lst (Sx.over x2 x3 (Sx.chunk 1 1 [(.int x4)])), .int (x3 + (-1)), .int x4] < ahMu [.lst x1] [.lst x2, .int x3, .int x4]) (
 True)))))))))))))))))))))))))
theorem vcAhead_eq : (cvc Go.Proofs.Try.prog U0 cAhead (sxF Go.Proofs.Try.prog U0 annsB (conOf Go.Proofs.Try.prog U0 (stageB 0)) 400 13)).vc U0 (fun _ => True) = vcAhead := by kernel_rfl
def vcNmakes : Prop :=
 ∀ x0 : Sx.Rows,
 ∀ x1 : Sx.Rows,
(nmakesPre [.lst x0, .lst x1]) →
 Nd (mnkInv [.lst x1] [.int 0, .int 0]) (
 ∀ x2 : Int,
 ∀ x3 : Int,
(mnkInv [.lst x1] [.int x2, .int x3]) →
(((x2 < (x1.length : Int)) →
 Nd (¬ (x2 < 0)) (
 Nd (x2 < (x1.length : Int)) (
((((Sx.cellAt x1 x2 0).toInt = 3) →
 Nd ((¬ ((x3 + 1) < (-9223372036854775808))) ∧ ((x3 + 1) < 9223372036854775808)) (
 Nd ((¬ ((x2 + 1) < (-9223372036854775808))) ∧ ((x2 + 1) < 9223372036854775808)) (
 Nd (mnkInv [.lst x1] [.int (x2 + 1), .int (x3 + 1)]) (
 Nd (mnkMu [.lst x1] [.int (x2 + 1), .int (x3 + 1)] < mnkMu [.lst x1] [.int x2, .int x3]) (
 True))))) ∧ (¬ ((Sx.cellAt x1 x2 0).toInt = 3) →
 Nd ((¬ ((x2 + 1) < (-9223372036854775808))) ∧ ((x2 + 1) < 9223372036854775808)) (
 Nd (mnkInv [.lst x1] [.int (x2 + 1), .int x3]) (
 Nd (mnkMu [.lst x1] [.int (x2 + 1), .int x3] < mnkMu [.lst x1] [.int x2, .int x3]) (
 True)))))))) ∧ (¬ (x2 < (x1.length : Int)) →
 Nd (nmakesRel [.lst x0, .lst x1] [.int x3]) (
 True))))
theorem vcNmakes_eq : (cvc Go.Proofs.Try.prog U0 cNmakes (sxF Go.Proofs.Try.prog U0 annsB (conOf Go.Proofs.Try.prog U0 (stageB 0)) 400 17)).vc U0 (fun _ => True) = vcNmakes := by kernel_rfl
def vcNdrops : Prop :=
 ∀ x0 : Sx.Rows,
 ∀ x1 : Sx.Rows,
(ndropsPre [.lst x0, .lst x1]) →
 Nd (ndInv [.lst x0] [.int 0, .int 0]) (
 ∀ x2 : Int,
 ∀ x3 : Int,
(ndInv [.lst x0] [.int x2, .int x3]) →
(((x2 < (x0.length : Int)) →
 Nd (¬ (x2 < 0)) (
 Nd (x2 < (x0.length : Int)) (
((((Sx.cellAt x0 x2 1).toBool = true) →
 Nd ((¬ ((x3 + 1) < (-9223372036854775808))) ∧ ((x3 + 1) < 9223372036854775808)) (
 Nd ((¬ ((x2 + 1) < (-9223372036854775808))) ∧ ((x2 + 1) < 9223372036854775808)) (
 Nd (ndInv [.lst x0] [.int (x2 + 1), .int (x3 + 1)]) (
 Nd (ndMu [.lst x0] [.int (x2 + 1), .int (x3 + 1)] < ndMu [.lst x0] [.int x2, .int x3]) (
 True))))) ∧ (¬ ((Sx.cellAt x0 x2 1).toBool = true) →
 Nd ((¬ ((x2 + 1) < (-9223372036854775808))) ∧ ((x2 + 1) < 9223372036854775808)) (
 Nd (ndInv [.lst x0] [.int (x2 + 1), .int x3]) (
 Nd (ndMu [.lst x0] [.int (x2 + 1), .int x3] < ndMu [.lst x0] [.int x2, .int x3]) (
 True)))))))) ∧ (¬ (x2 < (x0.length : Int)) →
 Nd (ndropsRel [.lst x0, .lst x1] [.int x3]) (
 True))))
theorem vcNdrops_eq : (cvc Go.Proofs.Try.prog U0 cNdrops (sxF Go.Proofs.Try.prog U0 annsB (conOf Go.Proofs.Try.prog U0 (stageB 0)) 400 18)).vc U0 (fun _ => True) = vcNdrops := by kernel_rfl
def vcRlens : Prop :=
 ∀ x0 : Sx.Rows,
(rlensPre [.lst x0]) →
 Nd (¬ ((x0.length : Int) < 0)) (
 Nd (¬ ((x0.length : Int) < (x0.length : Int))) (
 Nd ((x0.length : Int) < 1048577) (
 Nd ((¬ (((x0.length : Int) + (-1)) < (-9223372036854775808))) ∧ (((x0.length : Int) + (-1)) < 9223372036854775808)) (
 Nd (¬ (((List.replicate ((x0.length : Int)).toNat [(.int (0))] : Sx.Rows).length : Int) < (x0.length : Int))) (
 Nd ((x0.length : Int) = (x0.length : Int)) (
 Nd (¬ ((x0.length : Int) < (x0.length : Int))) (
 Nd (rlInv [.lst x0] [.int ((x0.length : Int) + (-1)), .lst (Sx.part (List.replicate ((x0.length : Int)).toNat [(.int (0))] : Sx.Rows) 0 (x0.length : Int))]) (
 ∀ x1 : Int,
 ∀ x2 : Sx.Rows,
(rlInv [.lst x0] [.int x1, .lst x2]) →
(((x1 < 0) →
 Nd (¬ ((x2.length : Int) < (x2.length : Int))) (
 Nd ((x2.length : Int) = (x2.length : Int)) (
 Nd ((x0.length : Int) = (x2.length : Int)) (
 Nd ((x2.length : Int) < 67108865) (
 Nd (rlensRel [.lst x0] [.lst x2]) (
 True)))))) ∧ (¬ (x1 < 0) →
 Nd (¬ (x1 < 0)) (
 Nd (x1 < (x2.length : Int)) (
 Nd (¬ ((x2.length : Int) < x1)) (
 Nd (x1 < (x0.length : Int)) (
 Nd ((¬ ((x1 + 1) < (-9223372036854775808))) ∧ ((x1 + 1) < 9223372036854775808)) (
 Nd (¬ (((Sx.over x2 x1 (Sx.chunk 1 1 [(.int (1))])).length : Int) < (x2.length : Int))) (
 Nd ((x0.length : Int) = (x0.length : Int)) (
 Nd (¬ ((x0.length : Int) < (x0.length : Int))) (
 Nd (innInv [.lst x0, .int x1] [.int (x1 + 1), .lst (Sx.part (Sx.over x2 x1 (Sx.chunk 1 1 [(.int (1))])) 0 (x2.length : Int))]) (
 ∀ x3 : Int,
 ∀ x4 : Sx.Rows,
(innInv [.lst x0, .int x1] [.int x3, .lst x4]) →
(((x3 < (x0.length : Int)) →
 Nd (¬ (x3 < 0)) (
 Nd (x3 < (x0.length : Int)) (
 Nd (¬ (x1 < 0)) (
 Nd (x1 < (x0.length : Int)) (
((((Sx.cellAt x0 x1 0).toInt < (Sx.cellAt x0 x3 0).toInt) →
 Nd ((Sx.cellAt x0 x1 0).toInt < (Sx.cellAt x0 x3 0).toInt) (
 Nd ((Sx.cellAt x0 x1 0).toInt < (Sx.cellAt x0 x3 0).toInt) (
 Nd (¬ (x3 < 0)) (
 Nd (x3 < (x4.length : Int)) (
 Nd ((Sx.cellAt x0 x1 0).toInt < (Sx.cellAt x0 x3 0).toInt) (
 Nd (x3 < (x4.length : Int)) (
 Nd ((Sx.cellAt x0 x1 0).toInt < (Sx.cellAt x0 x3 0).toInt) (
 Nd ((¬ (((Sx.cellAt x4 x3 0).toInt + 1) < (-9223372036854775808))) ∧ (((Sx.cellAt x4 x3 0).toInt + 1) < 9223372036854775808)) (
 Nd ((Sx.cellAt x0 x1 0).toInt < (Sx.cellAt x0 x3 0).toInt) (
 Nd ((Sx.cellAt x0 x1 0).toInt < (Sx.cellAt x0 x3 0).toInt) (
 Nd ((Sx.cellAt x0 x1 0).toInt < (Sx.cellAt x0 x3 0).toInt) (
 Nd (¬ (x1 < 0)) (
 Nd (x1 < (x4.length : Int)) (
 Nd ((Sx.cellAt x0 x1 0).toInt < (Sx.cellAt x0 x3 0).toInt) (
 Nd (x1 < (x4.length : Int)) (
 Nd ((Sx.cellAt x0 x1 0).toInt < (Sx.cellAt x0 x3 0).toInt) (
 Nd ((Sx.cellAt x0 x1 0).toInt < (Sx.cellAt x0 x3 0).toInt) (
((((Sx.cellAt x4 x1 0).toInt < ((Sx.cellAt x4 x3 0).toInt + 1)) →
 Nd (¬ (x3 < 0)) (
 Nd (x3 < (x4.length : Int)) (
 Nd (x3 < (x4.length : Int)) (
 Nd ((¬ (((Sx.cellAt x4 x3 0).toInt + 1) < (-9223372036854775808))) ∧ (((Sx.cellAt x4 x3 0).toInt + 1) < 9223372036854775808)) (
 Nd (¬ (x1 < 0)) (
 Nd (x1 < (x4.length : Int)) (
 Nd (¬ ((x4.length : Int) < x1)) (
 Nd (x1 < (x0.length : Int)) (
 Nd ((¬ ((x3 + 1) < (-9223372036854775808))) ∧ ((x3 + 1) < 9223372036854775808)) (
 Nd (¬ (((Sx.over x4 x1 (Sx.chunk 1 1 [(.int ((Sx.cellAt x4 x3 0).toInt + 1))])).length : Int) < (x4.length : Int))) (
 Nd ((x0.length : Int) = (x0.length : Int)) (
 Nd (¬ ((x0.length : Int) < (x0.length : Int))) (
 Nd (innInv [.lst x0, .int x1] [.int (x3 + 1), .lst (Sx.part (Sx.over x4 x1 (Sx.chunk 1 1 [(.int ((Sx.cellAt x4 x3 0).toInt + 1))])) 0 (x4.length : Int))]) (
 Nd (innMu [.lst x0, .int x1] [.int (x3 + 1), .lst (Sx.part (Sx.over x4 x1 (Sx.chunk 1 1 [(.int ((Sx.cellAt x4 x3 0).toInt + 1))])) 0 (x4.length : Int))] < innMu [.lst x0, .int x1] [.int x3, .lst x4]) (
 True))))))))))))))) ∧ (¬ ((Sx.cellAt x4 x1 0).toInt < ((Sx.cellAt x4 x3 0).toInt + 1)) →
 Nd ((¬ ((x3 + 1) < (-9223372036854775808))) ∧ ((x3 + 1) < 9223372036854775808)) (
 Nd (¬ ((x4.length : Int) < (x4.length : Int))) (
 Nd ((x4.length : Int) = (x4.length : Int)) (
 Nd ((x0.length : Int) = (x0.length : Int)) (
 Nd (¬ ((x0.length : Int) < (x0.length : Int))) (
 Nd (innInv [.lst x0, .int x1] [.int (x3 + 1), .lst x4]) (
 Nd (innMu [.lst x0, .int x1] [.int (x3 + 1), .lst x4] < innMu [.lst x0, .int x1] [.int x3, .lst x4]) (
 True))))))))))))))))))))))))))) ∧ (¬ ((Sx.cellAt x0 x1 0).toInt < (Sx.cellAt x0 x3 0).toInt) →
 Nd (¬ ((Sx.cellAt x0 x1 0).toInt < (Sx.cellAt x0 x3 0).toInt)) (
 Nd (¬ ((Sx.cellAt x0 x1 0).toInt < (Sx.cellAt x0 x3 0).toInt)) (
 Nd (¬ ((Sx.cellAt x0 x1 0).toInt < (Sx.cellAt x0 x3 0).toInt)) (
 Nd (¬ ((Sx.cellAt x0 x1 0).toInt < (Sx.cellAt x0 x3 0).toInt)) (
 Nd (¬ ((Sx.cellAt x0 x1 0).toInt < (Sx.cellAt x0 x3 0).toInt)) (
 Nd (¬ ((Sx.cellAt x0 x1 0).toInt < (Sx.cellAt x0 x3 0).toInt)) (
 Nd (¬ ((Sx.cellAt x0 x1 0).toInt < (Sx.cellAt x0 x3 0).toInt)) (
 Nd (¬ ((Sx.cellAt x0 x1 0).toInt < (Sx.cellAt x0 x3 0).toInt)) (
 Nd (¬ ((Sx.cellAt x0 x1 0).toInt < (Sx.cellAt x0 x3 0).toInt)) (
 Nd (¬ ((Sx.cellAt x0 x1 0).toInt < (Sx.cellAt x0 x3 0).toInt)) (
 Nd ((¬ ((x3 + 1) < (-9223372036854775808))) ∧ ((x3 + 1) < 9223372036854775808)) (
 Nd (¬ ((x4.length : Int) < (x4.length : Int))) (
 Nd ((x4.length : Int) = (x4.length : Int)) (
 Nd ((x0.length : Int) = (x0.length : Int)) (
 Nd (¬ ((x0.length : Int) < (x0.length : Int))) (
 Nd (innInv [.lst x0, .int x1] [.int (x3 + 1), .lst x4]) (
 Nd (innMu [.lst x0, .int x1] [.int (x3 + 1), .lst x4] < innMu [.lst x0, .int x1] [.int x3, .lst x4]) (
 True)))))))))))))))))))))))) ∧ (¬ (x3 < (x0.length : Int)) →
 Nd ((¬ ((x1 + (-1)) < (-9223372036854775808))) ∧ ((x1 + (-1)) < 9223372036854775808)) (
 Nd (¬ ((x4.length : Int) < (x4.length : Int))) (
 Nd ((x4.length : Int) = (x4.length : Int)) (
 Nd ((x0.length : Int) = (x0.length : Int)) (
 Nd (¬ ((x0.length : Int) < (x0.length : Int))) (
 Nd (rlInv [.lst x0] [.int (x1 + (-1)), .lst x4]) (
 Nd (rlMu [.lst x0] [.int (x1 + (-1)), .lst x4] < rlMu [.lst x0] [.int x1, .lst x2]) (
 True))))))))))))))))))))))))))))
theorem vcRlens_eq : (cvc Go.Proofs.Try.prog U0 cRlens (sxF Go.Proofs.Try.prog U0 annsB (conOf Go.Proofs.Try.prog U0 (stageB 0)) 400 45)).vc U0 (fun _ => True) = vcRlens := by kernel_rfl
def vcRkept : Prop :=
 ∀ x0 : Sx.Rows,
(rkeptPre [.lst x0]) →
 Nd (rlensPre [.lst x0]) (
 ∀ x1 : Sx.Rows,
(rlensRel [.lst x0] [.lst x1]) →
 Nd (kmInv [.lst x1] [.int 0, .int 0]) (
 ∀ x2 : Int,
 ∀ x3 : Int,
(kmInv [.lst x1] [.int x2, .int x3]) →
(((x2 < (x1.length : Int)) →
 Nd (¬ (x2 < 0)) (
 Nd (x2 < (x1.length : Int)) (
 Nd (x2 < (x1.length : Int)) (
(((x3 < (Sx.cellAt x1 x2 0).toInt) →
 Nd ((¬ ((x2 + 1) < (-9223372036854775808))) ∧ ((x2 + 1) < 9223372036854775808)) (
 Nd (kmInv [.lst x1] [.int (x2 + 1), .int (Sx.cellAt x1 x2 0).toInt]) (
 Nd (kmMu [.lst x1] [.int (x2 + 1), .int (Sx.cellAt x1 x2 0).toInt] < kmMu [.lst x1] [.int x2, .int x3]) (
 True)))) ∧ (¬ (x3 < (Sx.cellAt x1 x2 0).toInt) →
 Nd ((¬ ((x2 + 1) < (-9223372036854775808))) ∧ ((x2 + 1) < 9223372036854775808)) (
 Nd (kmInv [.lst x1] [.int (x2 + 1), .int x3]) (
 Nd (kmMu [.lst x1] [.int (x2 + 1), .int x3] < kmMu [.lst x1] [.int x2, .int x3]) (
 True))))))))) ∧ (¬ (x2 < (x1.length : Int)) →
 Nd (kpInv [.lst x0, .lst x1, .int x3] [.int 0, .lst ([] : Sx.Rows), .int (-1)]) (
 ∀ x4 : Int,
 ∀ x5 : Sx.Rows,
 ∀ x6 : Int,
(kpInv [.lst x0, .lst x1, .int x3] [.int x4, .lst x5, .int x6]) →
(((x4 < (x0.length : Int)) →
 Nd (¬ (x4 < 0)) (
 Nd (x4 < (x1.length : Int)) (
 Nd (x4 < (x1.length : Int)) (
 Nd ((¬ ((x3 - (x5.length : Int)) < (-9223372036854775808))) ∧ ((x3 - (x5.length : Int)) < 9223372036854775808)) (
((((Sx.cellAt x1 x4 0).toInt = (x3 - (x5.length : Int))) →
 Nd ((Sx.cellAt x1 x4 0).toInt = (x3 - (x5.length : Int))) (
 Nd ((Sx.cellAt x1 x4 0).toInt = (x3 - (x5.length : Int))) (
 Nd (¬ (x4 < 0)) (
 Nd (x4 < (x0.length : Int)) (
 Nd ((Sx.cellAt x1 x4 0).toInt = (x3 - (x5.length : Int))) (
 Nd ((Sx.cellAt x1 x4 0).toInt = (x3 - (x5.length : Int))) (
 Nd ((Sx.cellAt x1 x4 0).toInt = (x3 - (x5.length : Int))) (
 Nd ((Sx.cellAt x1 x4 0).toInt = (x3 - (x5.length : Int))) (
(((x6 < (Sx.cellAt x0 x4 0).toInt) →
 Nd (¬ (x4 < 0)) (
 Nd (x4 < (x0.length : Int)) (
 Nd (¬ ((x5.length : Int) < (x5.length : Int))) (
 Nd (((x5.length : Int) + 1) < 67108865) (
 Nd ((x5.length : Int) = (x5.length : Int)) (
 Nd (¬ (x4 < 0)) (
 Nd (x4 < (x0.length : Int)) (
 Nd ((¬ ((x4 + 1) < (-9223372036854775808))) ∧ ((x4 + 1) < 9223372036854775808)) (
 Nd (¬ (((x5.length : Int) + 1) < ((x5.length : Int) + 1))) (
 Nd (((x5.length : Int) + 1) = ((x5.length : Int) + 1)) (
 Nd (kpInv [.lst x0, .lst x1, .int x3] [.int (x4 + 1), .lst (x5 ++ (Sx.chunk 1 1 [(.int (Sx.cellAt x0 x4 0).toInt)])), .int (Sx.cellAt x0 x4 0).toInt]) (
 Nd (kpMu [.lst x0, .lst x1, .int x3] [.int (x4 + 1), .lst (x5 ++ (Sx.chunk 1 1 [(.int (Sx.cellAt x0 x4 0).toInt)])), .int (Sx.cellAt x0 x4 0).toInt] < kpMu [.lst x0, .lst x1, .int x3] [.int x4, .lst x5, .int x6]) (
 True))))))))))))) ∧ (¬ (x6 < (Sx.cellAt x0 x4 0).toInt) →
 Nd ((¬ ((x4 + 1) < (-9223372036854775808))) ∧ ((x4 + 1) < 9223372036854775808)) (
 Nd (¬ ((x5.length : Int) < (x5.length : Int))) (
 Nd ((x5.length : Int) = (x5.length : Int)) (
 Nd (kpInv [.lst x0, .lst x1, .int x3] [.int (x4 + 1), .lst x5, .int x6]) (
 Nd (kpMu [.lst x0, .lst x1, .int x3] [.int (x4 + 1), .lst x5, .int x6] < kpMu [.lst x0, .lst x1, .int x3] [.int x4, .lst x5, .int x6]) (
 True)))))))))))))))) ∧ (¬ ((Sx.cellAt x1 x4 0).toInt = (x3 - (x5.length : Int))) →
 Nd (¬ ((Sx.cellAt x1 x4 0).toInt = (x3 - (x5.length : Int)))) (
 Nd (¬ ((Sx.cellAt x1 x4 0).toInt = (x3 - (x5.length : Int)))) (
 Nd (¬ ((Sx.cellAt x1 x4 0).toInt = (x3 - (x5.length : Int)))) (
 Nd (¬ ((Sx.cellAt x1 x4 0).toInt = (x3 - (x5.length : Int)))) (
 Nd (¬ ((Sx.cellAt x1 x4 0).toInt = (x3 - (x5.length : Int)))) (
 Nd (¬ ((Sx.cellAt x1 x4 0).toInt = (x3 - (x5.length : Int)))) (
 Nd ((¬ ((x4 + 1) < (-9223372036854775808))) ∧ ((x4 + 1) < 9223372036854775808)) (
 Nd (¬ ((x5.length : Int) < (x5.length : Int))) (
 Nd ((x5.length : Int) = (x5.length : Int)) (
 Nd (kpInv [.lst x0, .lst x1, .int x3] [.int (x4 + 1), .lst x5, .int x6]) (
 Nd (kpMu [.lst x0, .lst x1, .int x3] [.int (x4 + 1), .lst x5, .int x6] < kpMu [.lst x0, .lst x1, .int x3] [.int x4, .lst x5, .int x6]) (
 True)))))))))))))))))) ∧ (¬ (x4 < (x0.length : Int)) →
 Nd (¬ ((x5.length : Int) < (x5.length : Int))) (
 Nd ((x5.length : Int) = (x5.length : Int)) (
 Nd (rkeptRel [.lst x0] [.lst x5]) (
 True))))))))))
theorem vcRkept_eq : (cvc Go.Proofs.Try.prog U0 cRkept (sxF Go.Proofs.Try.prog U0 annsB (conOf Go.Proofs.Try.prog U0 (stageB 1)) 400 38)).vc U0 (fun _ => True) = vcRkept := by kernel_rfl
def vcRlongest : Prop :=
 ∀ x0 : Sx.Rows,
(rlongestPre [.lst x0]) →
 Nd (rkeptPre [.lst x0]) (
 ∀ x1 : Sx.Rows,
(rkeptRel [.lst x0] [.lst x1]) →
 Nd (rlongestRel [.lst x0] [.int (x1.length : Int)]) (
 True))
theorem vcRlongest_eq : (cvc Go.Proofs.Try.prog U0 cRlongest (sxF Go.Proofs.Try.prog U0 annsB (conOf Go.Proofs.Try.prog U0 (stageB 2)) 400 16)).vc U0 (fun _ => True) = vcRlongest := by kernel_rfl
end Go.C36
