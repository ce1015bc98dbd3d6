/- The conditions of contracts, as the engine's printer has written them, and that the kernel comes to the same.
  Conditions: none. -/
import Derived.Test.YtpdcecfnlccicaaP1
import Derived.Test.YtpdcecfnlccicaaRows
import Derived.KernelRfl
set_option linter.unusedVariables false
set_option maxRecDepth 100000
namespace Go.C36
open Go Go.Xe Go.Sx
def vcRight : Prop :=
 ∀ x0 : Sx.Rows,
 ∀ x1 : Sx.Rows,
(rightPre [.lst x0, .lst x1]) →
((((x1.length : Int) < 1) →
 Nd ((x1.length : Int) < 1) (
 Nd ((x1.length : Int) < 1) (
 Nd ((x1.length : Int) < 1) (
 Nd (rightRel [.lst x0, .lst x1] [.bool false]) (
 True)))))∧(¬ ((x1.length : Int) < 1) →
 Nd (¬ ((x1.length : Int) < 1)) (
 Nd (¬ ((x1.length : Int) < 1)) (
 Nd (¬ ((x1.length : Int) < 1)) (
(((8 < (x1.length : Int)) →
 Nd (8 < (x1.length : Int)) (
 Nd (8 < (x1.length : Int)) (
 Nd (8 < (x1.length : Int)) (
 Nd (8 < (x1.length : Int)) (
 Nd (8 < (x1.length : Int)) (
 Nd (rightRel [.lst x0, .lst x1] [.bool false]) (
 True)))))))∧(¬ (8 < (x1.length : Int)) →
 Nd (¬ (8 < (x1.length : Int))) (
 Nd (¬ (8 < (x1.length : Int))) (
 Nd (¬ (8 < (x1.length : Int))) (
 Nd (¬ (8 < (x1.length : Int))) (
 Nd (¬ (8 < (x1.length : Int))) (
((((x0.length : Int)=(x1.length : Int)) →
 Nd (rgInv [.lst x0, .lst x1] [.int 0]) (
 ∀ x2 : Int,
(rgInv [.lst x0, .lst x1] [.int x2]) →
(((x2 < (x0.length : Int)) →
 Nd (¬ (x2 < 0)) (
 Nd (x2 < (x0.length : Int)) (
((((Sx.cellAt x0 x2 0).toInt < 0) →
 Nd ((Sx.cellAt x0 x2 0).toInt < 0) (
 Nd ((Sx.cellAt x0 x2 0).toInt < 0) (
 Nd ((Sx.cellAt x0 x2 0).toInt < 0) (
 Nd ((Sx.cellAt x0 x2 0).toInt < 0) (
 Nd ((Sx.cellAt x0 x2 0).toInt < 0) (
 Nd ((Sx.cellAt x0 x2 0).toInt < 0) (
 Nd (rightRel [.lst x0, .lst x1] [.bool false]) (
 True))))))))∧(¬ ((Sx.cellAt x0 x2 0).toInt < 0) →
 Nd (¬ ((Sx.cellAt x0 x2 0).toInt < 0)) (
 Nd (¬ ((Sx.cellAt x0 x2 0).toInt < 0)) (
 Nd (¬ ((Sx.cellAt x0 x2 0).toInt < 0)) (
 Nd (¬ (x2 < 0)) (
 Nd (x2 < (x1.length : Int)) (
 Nd (¬ ((Sx.cellAt x0 x2 0).toInt < 0)) (
 Nd (¬ ((Sx.cellAt x0 x2 0).toInt < 0)) (
 Nd (¬ ((Sx.cellAt x0 x2 0).toInt < 0)) (
((((Sx.cellAt x1 x2 0).toInt < (Sx.cellAt x0 x2 0).toInt) →
 Nd (rightRel [.lst x0, .lst x1] [.bool false]) (
 True))∧(¬ ((Sx.cellAt x1 x2 0).toInt < (Sx.cellAt x0 x2 0).toInt) →
 Nd ((¬ ((x2+1) < (-9223372036854775808)))∧((x2+1) < 9223372036854775808)) (
 Nd (rgInv [.lst x0, .lst x1] [.int (x2+1)]) (
 Nd (rgMu [.lst x0, .lst x1] [.int (x2+1)] < rgMu [.lst x0, .lst x1] [.int x2]) (
 True))))))))))))))))))∧(¬ (x2 < (x0.length : Int)) →
 Nd (rightRel [.lst x0, .lst x1] [.bool true]) (
 True)))))∧(¬ ((x0.length : Int)=(x1.length : Int)) →
 Nd (rightRel [.lst x0, .lst x1] [.bool false]) (
 True)))))))))))))))
theorem vcRight_eq : (cvc Go.Proofs.Try.prog U0 cRight (sxF Go.Proofs.Try.prog U0 annsP (conOf Go.Proofs.Try.prog U0 (stageP 0)) 400 27)).vc U0 (fun _=>True)=vcRight:=by kernel_rfl
end Go.C36
