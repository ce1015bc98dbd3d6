/- The conditions of contracts, as the engine's printer has written them, and that the kernel comes to the same.
  Conditions: none. -/
import Derived.Test.YtpdcecfnlccicaaP18
import Derived.Test.YtpdcecfnlccicaaRows
import Derived.KernelRfl
set_option linter.unusedVariables false
set_option maxRecDepth 100000
namespace Go.C36
open Go Go.Xe Go.Sx
/-- What the contract of 'psame' asks for. -/
def vcPsame : Prop :=
 ∀ x0 : Sx.Rows,
 ∀ x1 : Sx.Rows,
 ∀ x2 : Int,
 ∀ x3 : Int,
 ∀ x4 : Int,
 ∀ x5 : Int,
 ∀ x6 : Int,
 ∀ x7 : Int,
(psamePre [.lst x0, .lst x1, .int x2, .int x3, .int x4, .int x5, .int x6, .int x7]) →
 Nd (uofPre [.lst x0, .lst x1, .int x2, .int x3, .int x4, .int x5, .int x6, .int x7]) (
 ∀ x8 : Sx.Rows,
 ∀ x9 : Sx.Rows,
 ∀ x10 : Sx.Rows,
 ∀ x11 : Sx.Rows,
(uofRel [.lst x0, .lst x1, .int x2, .int x3, .int x4, .int x5, .int x6, .int x7] [.lst x8, .lst x9, .lst x10, .lst x11]) →
 Nd (ofPre [.lst x8, .lst x8, .lst x10, .lst x11]) (
 ∀ x12 : Sx.Rows,
 ∀ x13 : Sx.Rows,
 ∀ x14 : Int,
(ofRel [.lst x8, .lst x8, .lst x10, .lst x11] [.lst x12, .lst x13, .int x14]) →
 Nd (ofPre [.lst x8, .lst x9, .lst x10, .lst x11]) (
 ∀ x15 : Sx.Rows,
 ∀ x16 : Sx.Rows,
 ∀ x17 : Int,
(ofRel [.lst x8, .lst x9, .lst x10, .lst x11] [.lst x15, .lst x16, .int x17]) →
 Nd (ofPre [.lst x9, .lst x8, .lst x10, .lst x11]) (
 ∀ x18 : Sx.Rows,
 ∀ x19 : Sx.Rows,
 ∀ x20 : Int,
(ofRel [.lst x9, .lst x8, .lst x10, .lst x11] [.lst x18, .lst x19, .int x20]) →
(((x14 = 0) →
 Nd (x14 = 0) (
 Nd (x14 = 0) (
(((x17 = 0) →
 Nd (x17 = 0) (
 Nd (x17 = 0) (
(((x20 = 0) →
 Nd (x20 = 0) (
 Nd (x20 = 0) (
 Nd (x20 = 0) (
 Nd (x20 = 0) (
(((0 < (x12.length : Int)) →
 Nd (0 < (x12.length : Int)) (
 Nd (0 < (x12.length : Int)) (
 Nd (0 < (x12.length : Int)) (
 Nd (0 < (x12.length : Int)) (
 Nd (0 < (x12.length : Int)) (
 Nd (psameRel [.lst x0, .lst x1, .int x2, .int x3, .int x4, .int x5, .int x6, .int x7] [.bool false]) (
 True))))))) ∧ (¬ (0 < (x12.length : Int)) →
 Nd (¬ (0 < (x12.length : Int))) (
 Nd (nstaysPre [.lst x12, .lst x13]) (
 ∀ x21 : Int,
(nstaysRel [.lst x12, .lst x13] [.int x21]) →
 Nd (¬ (0 < (x12.length : Int))) (
 Nd (¬ (0 < (x12.length : Int))) (
 Nd (¬ (0 < (x12.length : Int))) (
 Nd (¬ (0 < (x12.length : Int))) (
(((x21 = (x8.length : Int)) →
 Nd (x21 = (x8.length : Int)) (
 Nd (nmovesPre [.lst x12, .lst x13]) (
 ∀ x22 : Int,
(nmovesRel [.lst x12, .lst x13] [.int x22]) →
 Nd (x21 = (x8.length : Int)) (
 Nd (x21 = (x8.length : Int)) (
(((x22 = 0) →
 Nd (sameSInv [.lst x13] [.int 0]) (
 ∀ x23 : Int,
(sameSInv [.lst x13] [.int x23]) →
(((x23 < (x13.length : Int)) →
 Nd (¬ (x23 < 0)) (
 Nd (x23 < (x13.length : Int)) (
((((Sx.cellAt x13 x23 0).toInt = 1) →
((((Sx.cellAt x13 x23 1).toInt = x23) →
((((Sx.cellAt x13 x23 2).toBool = true) →
 Nd (psameRel [.lst x0, .lst x1, .int x2, .int x3, .int x4, .int x5, .int x6, .int x7] [.bool false]) (
 True)) ∧ (¬ ((Sx.cellAt x13 x23 2).toBool = true) →
 Nd ((¬ ((x23 + 1) < (-9223372036854775808))) ∧ ((x23 + 1) < 9223372036854775808)) (
 Nd (sameSInv [.lst x13] [.int (x23 + 1)]) (
 Nd (sameSMu [.lst x13] [.int (x23 + 1)] < sameSMu [.lst x13] [.int x23]) (
 True)))))) ∧ (¬ ((Sx.cellAt x13 x23 1).toInt = x23) →
 Nd (psameRel [.lst x0, .lst x1, .int x2, .int x3, .int x4, .int x5, .int x6, .int x7] [.bool false]) (
 True)))) ∧ (¬ ((Sx.cellAt x13 x23 0).toInt = 1) →
 Nd (psameRel [.lst x0, .lst x1, .int x2, .int x3, .int x4, .int x5, .int x6, .int x7] [.bool false]) (
 True)))))) ∧ (¬ (x23 < (x13.length : Int)) →
 Nd (nstaysPre [.lst x15, .lst x16]) (
 ∀ x24 : Int,
(nstaysRel [.lst x15, .lst x16] [.int x24]) →
 Nd (nstaysPre [.lst x18, .lst x19]) (
 ∀ x25 : Int,
(nstaysRel [.lst x18, .lst x19] [.int x25]) →
(((x24 = x25) →
 Nd (x24 = x25) (
 Nd (nmovesPre [.lst x15, .lst x16]) (
 ∀ x26 : Int,
(nmovesRel [.lst x15, .lst x16] [.int x26]) →
 Nd (x24 = x25) (
 Nd (x24 = x25) (
 Nd (nmovesPre [.lst x18, .lst x19]) (
 ∀ x27 : Int,
(nmovesRel [.lst x18, .lst x19] [.int x27]) →
 Nd (x24 = x25) (
 Nd (x24 = x25) (
(((x26 = x27) →
 Nd (livesPre []) (
 ∀ x28 : Bool,
(livesRel [] [.bool x28]) →
 Nd (x26 = x27) (
 Nd (psameRel [.lst x0, .lst x1, .int x2, .int x3, .int x4, .int x5, .int x6, .int x7] [.bool x28]) (
 True)))) ∧ (¬ (x26 = x27) →
 Nd (¬ (x26 = x27)) (
 Nd (psameRel [.lst x0, .lst x1, .int x2, .int x3, .int x4, .int x5, .int x6, .int x7] [.bool false]) (
 True)))))))))))) ∧ (¬ (x24 = x25) →
 Nd (¬ (x24 = x25)) (
 Nd (¬ (x24 = x25)) (
 Nd (¬ (x24 = x25)) (
 Nd (¬ (x24 = x25)) (
 Nd (¬ (x24 = x25)) (
 Nd (psameRel [.lst x0, .lst x1, .int x2, .int x3, .int x4, .int x5, .int x6, .int x7] [.bool false]) (
 True)))))))))))))) ∧ (¬ (x22 = 0) →
 Nd (psameRel [.lst x0, .lst x1, .int x2, .int x3, .int x4, .int x5, .int x6, .int x7] [.bool false]) (
 True)))))))) ∧ (¬ (x21 = (x8.length : Int)) →
 Nd (¬ (x21 = (x8.length : Int))) (
 Nd (¬ (x21 = (x8.length : Int))) (
 Nd (¬ (x21 = (x8.length : Int))) (
 Nd (psameRel [.lst x0, .lst x1, .int x2, .int x3, .int x4, .int x5, .int x6, .int x7] [.bool false]) (
 True))))))))))))))))))) ∧ (¬ (x20 = 0) →
 Nd (¬ (x20 = 0)) (
 Nd (¬ (x20 = 0)) (
 Nd (¬ (x20 = 0)) (
 Nd (¬ (x20 = 0)) (
 Nd (psameRel [.lst x0, .lst x1, .int x2, .int x3, .int x4, .int x5, .int x6, .int x7] [.bool false]) (
 True)))))))))) ∧ (¬ (x17 = 0) →
 Nd (¬ (x17 = 0)) (
 Nd (¬ (x17 = 0)) (
 Nd (psameRel [.lst x0, .lst x1, .int x2, .int x3, .int x4, .int x5, .int x6, .int x7] [.bool false]) (
 True)))))))) ∧ (¬ (x14 = 0) →
 Nd (¬ (x14 = 0)) (
 Nd (¬ (x14 = 0)) (
 Nd (psameRel [.lst x0, .lst x1, .int x2, .int x3, .int x4, .int x5, .int x6, .int x7] [.bool false]) (
 True)))))))))
theorem vcPsame_eq : (cvc Go.Proofs.Try.prog U0 cPsame (sxF Go.Proofs.Try.prog U0 annsA (conOf Go.Proofs.Try.prog U0 (stageA 0)) 400 3)).vc U0 (fun _ => True) = vcPsame := by kernel_rfl
end Go.C36
