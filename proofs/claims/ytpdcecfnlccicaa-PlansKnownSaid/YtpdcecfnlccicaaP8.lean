/- The conditions of contracts, as the engine's printer has written them, and that the kernel comes to the same.
  Conditions: none. -/
import Derived.Test.YtpdcecfnlccicaaP7
import Derived.Test.YtpdcecfnlccicaaRows
import Derived.KernelRfl
set_option linter.unusedVariables false
set_option maxRecDepth 100000
namespace Go.C36
open Go Go.Xe Go.Sx
def vcNstays : Prop :=
 ∀ x0 : Sx.Rows,
 ∀ x1 : Sx.Rows,
(nstaysPre [.lst x0, .lst x1]) →
 Nd (mnsInv [.lst x1] [.int 0, .int 0]) (
 ∀ x2 : Int,
 ∀ x3 : Int,
(mnsInv [.lst x1] [.int x2, .int x3]) →
(((x2 < (x1.length : Int)) →
 Nd (¬ (x2 < 0)) (
 Nd (x2 < (x1.length : Int)) (
((((Sx.cellAt x1 x2 0).toInt=1) →
 Nd ((¬ ((x3+1) < (-9223372036854775808)))∧((x3+1) < 9223372036854775808)) (
 Nd ((¬ ((x2+1) < (-9223372036854775808)))∧((x2+1) < 9223372036854775808)) (
 Nd (mnsInv [.lst x1] [.int (x2+1), .int (x3+1)]) (
 Nd (mnsMu [.lst x1] [.int (x2+1), .int (x3+1)] < mnsMu [.lst x1] [.int x2, .int x3]) (
 True)))))∧(¬ ((Sx.cellAt x1 x2 0).toInt=1) →
 Nd ((¬ ((x2+1) < (-9223372036854775808)))∧((x2+1) < 9223372036854775808)) (
 Nd (mnsInv [.lst x1] [.int (x2+1), .int x3]) (
 Nd (mnsMu [.lst x1] [.int (x2+1), .int x3] < mnsMu [.lst x1] [.int x2, .int x3]) (
 True))))))))∧(¬ (x2 < (x1.length : Int)) →
 Nd (nstaysRel [.lst x0, .lst x1] [.int x3]) (
 True))))
theorem vcNstays_eq : (cvc Go.Proofs.Try.prog U0 cNstays (sxF Go.Proofs.Try.prog U0 annsU (conOf Go.Proofs.Try.prog U0 (stageU 0)) 400 10)).vc U0 (fun _=>True)=vcNstays:=by kernel_rfl
end Go.C36
