/- The conditions of contracts, as the engine's printer has written them, and that the kernel comes to the same.
  Conditions: none. -/
import Derived.Test.YtpdcecfnlccicaaP8
import Derived.Test.YtpdcecfnlccicaaRows
import Derived.KernelRfl
set_option linter.unusedVariables false
set_option maxRecDepth 100000
namespace Go.C36
open Go Go.Xe Go.Sx
def vcNmoves : Prop :=
 ∀ x0 : Sx.Rows,
 ∀ x1 : Sx.Rows,
(nmovesPre [.lst x0, .lst x1]) →
 Nd (mnmInv [.lst x1] [.int 0, .int 0]) (
 ∀ x2 : Int,
 ∀ x3 : Int,
(mnmInv [.lst x1] [.int x2, .int x3]) →
(((x2 < (x1.length : Int)) →
 Nd (¬ (x2 < 0)) (
 Nd (x2 < (x1.length : Int)) (
((((Sx.cellAt x1 x2 2).toBool=true) →
 Nd ((¬ ((x3+1) < (-9223372036854775808)))∧((x3+1) < 9223372036854775808)) (
 Nd ((¬ ((x2+1) < (-9223372036854775808)))∧((x2+1) < 9223372036854775808)) (
 Nd (mnmInv [.lst x1] [.int (x2+1), .int (x3+1)]) (
 Nd (mnmMu [.lst x1] [.int (x2+1), .int (x3+1)] < mnmMu [.lst x1] [.int x2, .int x3]) (
 True)))))∧(¬ ((Sx.cellAt x1 x2 2).toBool=true) →
 Nd ((¬ ((x2+1) < (-9223372036854775808)))∧((x2+1) < 9223372036854775808)) (
 Nd (mnmInv [.lst x1] [.int (x2+1), .int x3]) (
 Nd (mnmMu [.lst x1] [.int (x2+1), .int x3] < mnmMu [.lst x1] [.int x2, .int x3]) (
 True))))))))∧(¬ (x2 < (x1.length : Int)) →
 Nd (nmovesRel [.lst x0, .lst x1] [.int x3]) (
 True))))
theorem vcNmoves_eq : (cvc Go.Proofs.Try.prog U0 cNmoves (sxF Go.Proofs.Try.prog U0 annsX (conOf Go.Proofs.Try.prog U0 (stageX 0)) 400 11)).vc U0 (fun _=>True)=vcNmoves:=by kernel_rfl
end Go.C36
