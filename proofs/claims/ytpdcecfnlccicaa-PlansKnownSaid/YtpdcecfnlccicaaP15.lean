/- The conditions of contracts, as the engine's printer has written them, and that the kernel comes to the same.
  Conditions: none. -/
import Derived.Test.YtpdcecfnlccicaaP14
import Derived.Test.YtpdcecfnlccicaaRows
import Derived.KernelRfl
set_option linter.unusedVariables false
set_option maxRecDepth 100000
namespace Go.C36
open Go Go.Xe Go.Sx
def vcIdx : Prop :=
 ∀ x0 : Sx.Rows,
 ∀ x1 : Int,
(idxPre [.lst x0, .int x1]) →
 Nd (idInv [.lst x0, .int x1] [.int 0]) (
 ∀ x2 : Int,
(idInv [.lst x0, .int x1] [.int x2]) →
(((x2 < (x0.length : Int)) →
 Nd (¬ (x2 < 0)) (
 Nd (x2 < (x0.length : Int)) (
(((x1=(Sx.cellAt x0 x2 0).toInt) →
 Nd (idxRel [.lst x0, .int x1] [.int x2]) (
 True))∧(¬ (x1=(Sx.cellAt x0 x2 0).toInt) →
 Nd ((¬ ((x2+1) < (-9223372036854775808)))∧((x2+1) < 9223372036854775808)) (
 Nd (idInv [.lst x0, .int x1] [.int (x2+1)]) (
 Nd (idMu [.lst x0, .int x1] [.int (x2+1)] < idMu [.lst x0, .int x1] [.int x2]) (
 True))))))))∧(¬ (x2 < (x0.length : Int)) →
 Nd (idxRel [.lst x0, .int x1] [.int (-1)]) (
 True))))
theorem vcIdx_eq : (cvc Go.Proofs.Try.prog U0 cIdx (sxF Go.Proofs.Try.prog U0 annsZ (conOf Go.Proofs.Try.prog U0 (stageZ 0)) 400 43)).vc U0 (fun _=>True)=vcIdx:=by kernel_rfl
end Go.C36
