/- The conditions of contracts, as the engine's printer has written them, and that the kernel comes to the same.
  Conditions: none. -/
import Derived.Test.YtpdcecfnlccicaaQ1
import Derived.Test.YtpdcecfnlccicaaRows
import Derived.KernelRfl
set_option linter.unusedVariables false
set_option maxRecDepth 100000
namespace Go.C36
open Go Go.Xe Go.Sx
def vcNbinds : Prop :=
 ∀ x0 : Sx.Rows,
 ∀ x1 : Sx.Rows,
(nbindsPre [.lst x0, .lst x1]) →
 Nd (mnbInv [.lst x1] [.int 0, .int 0]) (
 ∀ x2 : Int,
 ∀ x3 : Int,
(mnbInv [.lst x1] [.int x2, .int x3]) →
(((x2 < (x1.length : Int)) →
 Nd (¬ (x2 < 0)) (
 Nd (x2 < (x1.length : Int)) (
((((Sx.cellAt x1 x2 0).toInt=2) →
 Nd ((¬ ((x3+1) < (-9223372036854775808)))∧((x3+1) < 9223372036854775808)) (
 Nd ((¬ ((x2+1) < (-9223372036854775808)))∧((x2+1) < 9223372036854775808)) (
 Nd (mnbInv [.lst x1] [.int (x2+1), .int (x3+1)]) (
 Nd (mnbMu [.lst x1] [.int (x2+1), .int (x3+1)] < mnbMu [.lst x1] [.int x2, .int x3]) (
 True)))))∧(¬ ((Sx.cellAt x1 x2 0).toInt=2) →
 Nd ((¬ ((x2+1) < (-9223372036854775808)))∧((x2+1) < 9223372036854775808)) (
 Nd (mnbInv [.lst x1] [.int (x2+1), .int x3]) (
 Nd (mnbMu [.lst x1] [.int (x2+1), .int x3] < mnbMu [.lst x1] [.int x2, .int x3]) (
 True))))))))∧(¬ (x2 < (x1.length : Int)) →
 Nd (nbindsRel [.lst x0, .lst x1] [.int x3]) (
 True))))
theorem vcNbinds_eq : (cvc Go.Proofs.Try.prog U0 cNbinds (sxF Go.Proofs.Try.prog U0 annsB (conOf Go.Proofs.Try.prog U0 (stageB 0)) 400 22)).vc U0 (fun _=>True)=vcNbinds:=by kernel_rfl
def vcNmakes : Prop :=
 ∀ x0 : Sx.Rows,
 ∀ x1 : Sx.Rows,
(nmakesPre [.lst x0, .lst x1]) →
 Nd (mnkInv [.lst x1] [.int 0, .int 0]) (
 ∀ x2 : Int,
 ∀ x3 : Int,
(mnkInv [.lst x1] [.int x2, .int x3]) →
(((x2 < (x1.length : Int)) →
 Nd (¬ (x2 < 0)) (
 Nd (x2 < (x1.length : Int)) (
((((Sx.cellAt x1 x2 0).toInt=3) →
 Nd ((¬ ((x3+1) < (-9223372036854775808)))∧((x3+1) < 9223372036854775808)) (
 Nd ((¬ ((x2+1) < (-9223372036854775808)))∧((x2+1) < 9223372036854775808)) (
 Nd (mnkInv [.lst x1] [.int (x2+1), .int (x3+1)]) (
 Nd (mnkMu [.lst x1] [.int (x2+1), .int (x3+1)] < mnkMu [.lst x1] [.int x2, .int x3]) (
 True)))))∧(¬ ((Sx.cellAt x1 x2 0).toInt=3) →
 Nd ((¬ ((x2+1) < (-9223372036854775808)))∧((x2+1) < 9223372036854775808)) (
 Nd (mnkInv [.lst x1] [.int (x2+1), .int x3]) (
 Nd (mnkMu [.lst x1] [.int (x2+1), .int x3] < mnkMu [.lst x1] [.int x2, .int x3]) (
 True))))))))∧(¬ (x2 < (x1.length : Int)) →
 Nd (nmakesRel [.lst x0, .lst x1] [.int x3]) (
 True))))
theorem vcNmakes_eq : (cvc Go.Proofs.Try.prog U0 cNmakes (sxF Go.Proofs.Try.prog U0 annsB (conOf Go.Proofs.Try.prog U0 (stageB 0)) 400 17)).vc U0 (fun _=>True)=vcNmakes:=by kernel_rfl
def vcNdrops : Prop :=
 ∀ x0 : Sx.Rows,
 ∀ x1 : Sx.Rows,
(ndropsPre [.lst x0, .lst x1]) →
 Nd (ndInv [.lst x0] [.int 0, .int 0]) (
 ∀ x2 : Int,
 ∀ x3 : Int,
(ndInv [.lst x0] [.int x2, .int x3]) →
(((x2 < (x0.length : Int)) →
 Nd (¬ (x2 < 0)) (
 Nd (x2 < (x0.length : Int)) (
((((Sx.cellAt x0 x2 1).toBool=true) →
 Nd ((¬ ((x3+1) < (-9223372036854775808)))∧((x3+1) < 9223372036854775808)) (
 Nd ((¬ ((x2+1) < (-9223372036854775808)))∧((x2+1) < 9223372036854775808)) (
 Nd (ndInv [.lst x0] [.int (x2+1), .int (x3+1)]) (
 Nd (ndMu [.lst x0] [.int (x2+1), .int (x3+1)] < ndMu [.lst x0] [.int x2, .int x3]) (
 True)))))∧(¬ ((Sx.cellAt x0 x2 1).toBool=true) →
 Nd ((¬ ((x2+1) < (-9223372036854775808)))∧((x2+1) < 9223372036854775808)) (
 Nd (ndInv [.lst x0] [.int (x2+1), .int x3]) (
 Nd (ndMu [.lst x0] [.int (x2+1), .int x3] < ndMu [.lst x0] [.int x2, .int x3]) (
 True))))))))∧(¬ (x2 < (x0.length : Int)) →
 Nd (ndropsRel [.lst x0, .lst x1] [.int x3]) (
 True))))
theorem vcNdrops_eq : (cvc Go.Proofs.Try.prog U0 cNdrops (sxF Go.Proofs.Try.prog U0 annsB (conOf Go.Proofs.Try.prog U0 (stageB 0)) 400 18)).vc U0 (fun _=>True)=vcNdrops:=by kernel_rfl
end Go.C36
