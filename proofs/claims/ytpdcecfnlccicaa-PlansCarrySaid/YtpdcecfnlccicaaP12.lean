/- The conditions of contracts, as the engine's printer has written them, and that the kernel comes to the same.
  Conditions: none. -/
import Derived.Test.YtpdcecfnlccicaaP11
import Derived.Test.YtpdcecfnlccicaaRows
import Derived.KernelRfl
set_option linter.unusedVariables false
set_option maxRecDepth 100000
namespace Go.C36
open Go Go.Xe Go.Sx
def vcUof : Prop :=
 ∀ x0 : Sx.Rows,
 ∀ x1 : Sx.Rows,
 ∀ x2 : Int,
 ∀ x3 : Int,
 ∀ x4 : Int,
 ∀ x5 : Int,
 ∀ x6 : Int,
 ∀ x7 : Int,
(uofPre [.lst x0, .lst x1, .int x2, .int x3, .int x4, .int x5, .int x6, .int x7]) →
 Nd ((¬ (((x2 : Int).tmod (5)) < (-9223372036854775808))) ∧ (((x2 : Int).tmod (5)) < 9223372036854775808)) (
 Nd ((¬ (x3 < (-9223372036854775808))) ∧ (x3 < 9223372036854775808)) (
 Nd ((¬ ((((x2 : Int).tmod (5)) + 1) < (-9223372036854775808))) ∧ ((((x2 : Int).tmod (5)) + 1) < 9223372036854775808)) (
 Nd (¬ ((((x2 : Int).tmod (5)) + 1) = 0)) (
 Nd ((¬ (((x4 : Int).tmod (5)) < (-9223372036854775808))) ∧ (((x4 : Int).tmod (5)) < 9223372036854775808)) (
 Nd ((¬ (x5 < (-9223372036854775808))) ∧ (x5 < 9223372036854775808)) (
 Nd ((¬ ((((x4 : Int).tmod (5)) + 1) < (-9223372036854775808))) ∧ ((((x4 : Int).tmod (5)) + 1) < 9223372036854775808)) (
 Nd (¬ ((((x4 : Int).tmod (5)) + 1) = 0)) (
 Nd ((¬ (((x6 : Int).tmod (5)) < (-9223372036854775808))) ∧ (((x6 : Int).tmod (5)) < 9223372036854775808)) (
 Nd ((¬ (x7 < (-9223372036854775808))) ∧ (x7 < 9223372036854775808)) (
 Nd ((¬ ((((x6 : Int).tmod (5)) + 1) < (-9223372036854775808))) ∧ ((((x6 : Int).tmod (5)) + 1) < 9223372036854775808)) (
 Nd (¬ ((((x6 : Int).tmod (5)) + 1) = 0)) (
 Nd (rowsPre [.lst x0]) (
 ∀ x8 : Sx.Rows,
(rowsRel [.lst x0] [.lst x8]) →
 Nd (rowsPre [.lst x1]) (
 ∀ x9 : Sx.Rows,
(rowsRel [.lst x1] [.lst x9]) →
 Nd (uofRel [.lst x0, .lst x1, .int x2, .int x3, .int x4, .int x5, .int x6, .int x7] [.lst x8, .lst x9, .lst (Sx.chunk 1 3 [(.int ((x3 : Int).tmod ((((x2 : Int).tmod (5)) + 1)))),(.int ((x5 : Int).tmod ((((x4 : Int).tmod (5)) + 1)))),(.int ((x7 : Int).tmod ((((x6 : Int).tmod (5)) + 1))))]), .lst (Sx.chunk 1 3 [(.int ((x2 : Int).tmod (5))),(.int ((x4 : Int).tmod (5))),(.int ((x6 : Int).tmod (5)))])]) (
 True)))))))))))))))
theorem vcUof_eq : (cvc Go.Proofs.Try.prog U0 cUof (sxF Go.Proofs.Try.prog U0 annsY (conOf Go.Proofs.Try.prog U0 (stageY 0)) 400 8)).vc U0 (fun _ => True) = vcUof := by kernel_rfl
end Go.C36
