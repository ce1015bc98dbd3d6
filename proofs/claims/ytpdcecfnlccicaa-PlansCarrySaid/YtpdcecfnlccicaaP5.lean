/- The conditions of contracts, as the engine's printer has written them, and that the kernel comes to the same.
  Conditions: none. -/
import Derived.Test.YtpdcecfnlccicaaP4
import Derived.Test.YtpdcecfnlccicaaRows
import Derived.KernelRfl
set_option linter.unusedVariables false
set_option maxRecDepth 100000
namespace Go.C36
open Go Go.Xe Go.Sx
def vcRows : Prop :=
 ∀ x0 : Sx.Rows,
(rowsPre [.lst x0]) →
 Nd (rwInv [.lst x0] [.int 0, .lst ([] : Sx.Rows)]) (
 ∀ x1 : Int,
 ∀ x2 : Sx.Rows,
(rwInv [.lst x0] [.int x1, .lst x2]) →
(((x1 < (x0.length : Int)) →
 Nd (x1 < (x0.length : Int)) (
 Nd (x1 < (x0.length : Int)) (
(((x1 < 20) →
 Nd (¬ (x1 < 0)) (
 Nd (x1 < (x0.length : Int)) (
 Nd ((¬ ((((Sx.cellAt x0 x1 0).toInt : Int).tmod (30)) < 0)) ∧ ((((Sx.cellAt x0 x1 0).toInt : Int).tmod (30)) < 18446744073709551616)) (
 Nd (¬ (x1 < 0)) (
 Nd (x1 < (x0.length : Int)) (
 Nd (twInv [.lst x2, .int (IntKind.wrap .u64 ((((Sx.cellAt x0 x1 0).toInt : Int).tmod (30)) + 1))] [.int 0, .bool false]) (
 ∀ x3 : Int,
 ∀ x4 : Bool,
(twInv [.lst x2, .int (IntKind.wrap .u64 ((((Sx.cellAt x0 x1 0).toInt : Int).tmod (30)) + 1))] [.int x3, .bool x4]) →
(((x3 < (x2.length : Int)) →
(((x4 = true) →
 Nd (x4 = true) (
 Nd (x4 = true) (
 Nd (x4 = true) (
 Nd (x4 = true) (
 Nd (x4 = true) (
 Nd (x4 = true) (
 Nd (x4 = true) (
 Nd (x4 = true) (
 Nd ((¬ ((x3 + 1) < (-9223372036854775808))) ∧ ((x3 + 1) < 9223372036854775808)) (
 Nd (twInv [.lst x2, .int (IntKind.wrap .u64 ((((Sx.cellAt x0 x1 0).toInt : Int).tmod (30)) + 1))] [.int (x3 + 1), .bool true]) (
 Nd (twMu [.lst x2, .int (IntKind.wrap .u64 ((((Sx.cellAt x0 x1 0).toInt : Int).tmod (30)) + 1))] [.int (x3 + 1), .bool true] < twMu [.lst x2, .int (IntKind.wrap .u64 ((((Sx.cellAt x0 x1 0).toInt : Int).tmod (30)) + 1))] [.int x3, .bool x4]) (
 True)))))))))))) ∧ (¬ (x4 = true) →
 Nd (¬ (x4 = true)) (
 Nd (¬ (x4 = true)) (
 Nd (¬ (x3 < 0)) (
 Nd (x3 < (x2.length : Int)) (
 Nd (¬ (x4 = true)) (
 Nd (¬ (x4 = true)) (
 Nd (x3 < (x2.length : Int)) (
 Nd (¬ (x4 = true)) (
 Nd (¬ (x4 = true)) (
 Nd (¬ (x4 = true)) (
 Nd (¬ (x4 = true)) (
 Nd ((¬ ((x3 + 1) < (-9223372036854775808))) ∧ ((x3 + 1) < 9223372036854775808)) (
 Nd (twInv [.lst x2, .int (IntKind.wrap .u64 ((((Sx.cellAt x0 x1 0).toInt : Int).tmod (30)) + 1))] [.int (x3 + 1), .bool (decide ((Sx.cellAt x2 x3 0).toInt = (IntKind.wrap .u64 ((((Sx.cellAt x0 x1 0).toInt : Int).tmod (30)) + 1))))]) (
 Nd (twMu [.lst x2, .int (IntKind.wrap .u64 ((((Sx.cellAt x0 x1 0).toInt : Int).tmod (30)) + 1))] [.int (x3 + 1), .bool (decide ((Sx.cellAt x2 x3 0).toInt = (IntKind.wrap .u64 ((((Sx.cellAt x0 x1 0).toInt : Int).tmod (30)) + 1))))] < twMu [.lst x2, .int (IntKind.wrap .u64 ((((Sx.cellAt x0 x1 0).toInt : Int).tmod (30)) + 1))] [.int x3, .bool x4]) (
 True))))))))))))))))) ∧ (¬ (x3 < (x2.length : Int)) →
(((x4 = true) →
 Nd ((¬ ((x1 + 1) < (-9223372036854775808))) ∧ ((x1 + 1) < 9223372036854775808)) (
 Nd (¬ ((x2.length : Int) < (x2.length : Int))) (
 Nd ((x2.length : Int) = (x2.length : Int)) (
 Nd (rwInv [.lst x0] [.int (x1 + 1), .lst x2]) (
 Nd (rwMu [.lst x0] [.int (x1 + 1), .lst x2] < rwMu [.lst x0] [.int x1, .lst x2]) (
 True)))))) ∧ (¬ (x4 = true) →
 Nd (¬ ((x2.length : Int) < (x2.length : Int))) (
 Nd (((x2.length : Int) + 1) < 67108865) (
 Nd ((x2.length : Int) = (x2.length : Int)) (
 Nd ((¬ ((x1 + 1) < (-9223372036854775808))) ∧ ((x1 + 1) < 9223372036854775808)) (
 Nd (¬ (((x2.length : Int) + 1) < ((x2.length : Int) + 1))) (
 Nd (((x2.length : Int) + 1) = ((x2.length : Int) + 1)) (
 Nd (rwInv [.lst x0] [.int (x1 + 1), .lst (x2 ++ (Sx.chunk 2 1 [(.int (IntKind.wrap .u64 ((((Sx.cellAt x0 x1 0).toInt : Int).tmod (30)) + 1))),(.int (((Sx.cellAt x0 x1 1).toInt : Int).tmod (3)))]))]) (
 Nd (rwMu [.lst x0] [.int (x1 + 1), .lst (x2 ++ (Sx.chunk 2 1 [(.int (IntKind.wrap .u64 ((((Sx.cellAt x0 x1 0).toInt : Int).tmod (30)) + 1))),(.int (((Sx.cellAt x0 x1 1).toInt : Int).tmod (3)))]))] < rwMu [.lst x0] [.int x1, .lst x2]) (
 True))))))))))))))))))) ∧ (¬ (x1 < 20) →
 Nd (¬ ((x2.length : Int) < (x2.length : Int))) (
 Nd ((x2.length : Int) = (x2.length : Int)) (
 Nd (rowsRel [.lst x0] [.lst x2]) (
 True)))))))) ∧ (¬ (x1 < (x0.length : Int)) →
 Nd (¬ (x1 < (x0.length : Int))) (
 Nd (¬ (x1 < (x0.length : Int))) (
 Nd (¬ ((x2.length : Int) < (x2.length : Int))) (
 Nd ((x2.length : Int) = (x2.length : Int)) (
 Nd (rowsRel [.lst x0] [.lst x2]) (
 True))))))))
theorem vcRows_eq : (cvc Go.Proofs.Try.prog U0 cRows (sxF Go.Proofs.Try.prog U0 annsQ (conOf Go.Proofs.Try.prog U0 (stageQ 0)) 400 26)).vc U0 (fun _ => True) = vcRows := by kernel_rfl
end Go.C36
