/- The conditions of contracts, as the engine's printer has written them, and that the kernel comes to the same.
  Conditions: none. -/
import Derived.Test.YtmdkgpkboidhfaaA13
import Derived.Test.YtmdkgpkboidhfaaRows
import Derived.KernelRfl
set_option linter.unusedVariables false
set_option maxRecDepth 100000
namespace Go.C08
open Go Go.Xe Go.Sx
def vcCheck : Prop :=
 ∀ x0 : Sx.Rows,
(checkPre [.lst x0]) →
(((4096 < (x0.length : Int)) →
 Nd (checkRel [.lst x0] [.int 3]) (
 True))∧(¬ (4096 < (x0.length : Int)) →
 Nd (seenInv [.lst x0] [.int 0, .lst ([] : Sx.Rows)]) (
 ∀ x1 : Int,
 ∀ x2 : Sx.Rows,
(seenInv [.lst x0] [.int x1, .lst x2]) →
(((x1 < (x0.length : Int)) →
 Nd (¬ (x1 < 0)) (
 Nd (x1 < (x0.length : Int)) (
((((Sx.cellAt x0 x1 0).toInt < 0) →
 Nd (checkRel [.lst x0] [.int 1]) (
 True))∧(¬ ((Sx.cellAt x0 x1 0).toInt < 0) →
((((Sx.mgetR x2 [(Sx.cellAt x0 x1 0).toInt] (.bool false)).toBool=true) →
 Nd (checkRel [.lst x0] [.int 8]) (
 True))∧(¬ ((Sx.mgetR x2 [(Sx.cellAt x0 x1 0).toInt] (.bool false)).toBool=true) →
 Nd ((¬ ((x1+1) < (-9223372036854775808)))∧((x1+1) < 9223372036854775808)) (
 Nd (seenInv [.lst x0] [.int (x1+1), .lst (Sx.mputR x2 [(Sx.cellAt x0 x1 0).toInt] (.bool true))]) (
 Nd (seenMu [.lst x0] [.int (x1+1), .lst (Sx.mputR x2 [(Sx.cellAt x0 x1 0).toInt] (.bool true))] < seenMu [.lst x0] [.int x1, .lst x2]) (
 True))))))))))∧(¬ (x1 < (x0.length : Int)) →
 Nd (checkRel [.lst x0] [.int 0]) (
 True))))))
theorem vcCheck_eq : (cvc Go.Proofs.Try.prog U0 cCheck (sxF Go.Proofs.Try.prog U0 annsV (conOf Go.Proofs.Try.prog U0 (stageV 0)) 400 23)).vc U0 (fun _=>True)=vcCheck:=by kernel_rfl
end Go.C08
