/- The conditions of contracts, as the engine's printer has written them, and that the kernel comes to the same.
  Conditions: none. -/
import Derived.Test.YtpdcecfnlccicaaQ5
import Derived.Test.YtpdcecfnlccicaaRows
import Derived.KernelRfl
set_option linter.unusedVariables false
set_option maxRecDepth 100000
namespace Go.C36
open Go Go.Xe Go.Sx
def vcTake : Prop :=
 ∀ x0 : Sx.Rows,
 ∀ x1 : Int,
(takePre [.lst x0, .int x1]) →
 Nd (tkInv [.lst x0, .int x1] [.int 0, .lst ([] : Sx.Rows)]) (
 ∀ x2 : Int,
 ∀ x3 : Sx.Rows,
(tkInv [.lst x0, .int x1] [.int x2, .lst x3]) →
(((x2 < (x0.length : Int)) →
 Nd (¬ (x2 < 0)) (
 Nd (x2 < (x0.length : Int)) (
((((Sx.cellAt x0 x2 0).toInt = x1) →
 Nd ((¬ ((x2 + 1) < (-9223372036854775808))) ∧ ((x2 + 1) < 9223372036854775808)) (
 Nd (¬ ((x3.length : Int) < (x3.length : Int))) (
 Nd ((x3.length : Int) = (x3.length : Int)) (
 Nd (tkInv [.lst x0, .int x1] [.int (x2 + 1), .lst x3]) (
 Nd (tkMu [.lst x0, .int x1] [.int (x2 + 1), .lst x3] < tkMu [.lst x0, .int x1] [.int x2, .lst x3]) (
 True)))))) ∧ (¬ ((Sx.cellAt x0 x2 0).toInt = x1) →
 Nd (¬ (x2 < 0)) (
 Nd (x2 < (x0.length : Int)) (
 Nd (¬ ((x3.length : Int) < (x3.length : Int))) (
 Nd (((x3.length : Int) + 1) < 67108865) (
 Nd ((x3.length : Int) = (x3.length : Int)) (
 Nd ((¬ ((x2 + 1) < (-9223372036854775808))) ∧ ((x2 + 1) < 9223372036854775808)) (
 Nd (¬ (((x3.length : Int) + 1) < ((x3.length : Int) + 1))) (
 Nd (((x3.length : Int) + 1) = ((x3.length : Int) + 1)) (
 Nd (tkInv [.lst x0, .int x1] [.int (x2 + 1), .lst (x3 ++ (Sx.chunk 1 1 [(.int (Sx.cellAt x0 x2 0).toInt)]))]) (
 Nd (tkMu [.lst x0, .int x1] [.int (x2 + 1), .lst (x3 ++ (Sx.chunk 1 1 [(.int (Sx.cellAt x0 x2 0).toInt)]))] < tkMu [.lst x0, .int x1] [.int x2, .lst x3]) (
 True))))))))))))))) ∧ (¬ (x2 < (x0.length : Int)) →
 Nd (¬ ((x3.length : Int) < (x3.length : Int))) (
 Nd ((x3.length : Int) = (x3.length : Int)) (
 Nd (takeRel [.lst x0, .int x1] [.lst x3]) (
 True))))))
def vcPut : Prop :=
 ∀ x0 : Sx.Rows,
 ∀ x1 : Int,
 ∀ x2 : Int,
(putPre [.lst x0, .int x1, .int x2]) →
 Nd (puInv [.lst x0, .int x1, .int x2] [.int 0, .lst ([] : Sx.Rows)]) (
 ∀ x3 : Int,
 ∀ x4 : Sx.Rows,
(puInv [.lst x0, .int x1, .int x2] [.int x3, .lst x4]) →
(((x3 < (x0.length : Int)) →
 Nd (¬ (x3 < 0)) (
 Nd (x3 < (x0.length : Int)) (
((((Sx.cellAt x0 x3 0).toInt = x2) →
 Nd (¬ ((x4.length : Int) < (x4.length : Int))) (
 Nd (((x4.length : Int) + 1) < 67108865) (
 Nd ((x4.length : Int) = (x4.length : Int)) (
 Nd (¬ (x3 < 0)) (
 Nd (x3 < (x0.length : Int)) (
 Nd (¬ (((x4.length : Int) + 1) < ((x4.length : Int) + 1))) (
 Nd (((x4.length : Int) + 2) < 67108865) (
 Nd (((x4.length : Int) + 1) = ((x4.length : Int) + 1)) (
 Nd ((¬ ((x3 + 1) < (-9223372036854775808))) ∧ ((x3 + 1) < 9223372036854775808)) (
 Nd (¬ (((x4.length : Int) + 2) < ((x4.length : Int) + 2))) (
 Nd (((x4.length : Int) + 2) = ((x4.length : Int) + 2)) (
 Nd (puInv [.lst x0, .int x1, .int x2] [.int (x3 + 1), .lst ((x4 ++ (Sx.chunk 1 1 [(.int x1)])) ++ (Sx.chunk 1 1 [(.int (Sx.cellAt x0 x3 0).toInt)]))]) (
 Nd (puMu [.lst x0, .int x1, .int x2] [.int (x3 + 1), .lst ((x4 ++ (Sx.chunk 1 1 [(.int x1)])) ++ (Sx.chunk 1 1 [(.int (Sx.cellAt x0 x3 0).toInt)]))] < puMu [.lst x0, .int x1, .int x2] [.int x3, .lst x4]) (
 True)))))))))))))) ∧ (¬ ((Sx.cellAt x0 x3 0).toInt = x2) →
 Nd (¬ (x3 < 0)) (
 Nd (x3 < (x0.length : Int)) (
 Nd (¬ ((x4.length : Int) < (x4.length : Int))) (
 Nd (((x4.length : Int) + 1) < 67108865) (
 Nd ((x4.length : Int) = (x4.length : Int)) (
 Nd ((¬ ((x3 + 1) < (-9223372036854775808))) ∧ ((x3 + 1) < 9223372036854775808)) (
 Nd (¬ (((x4.length : Int) + 1) < ((x4.length : Int) + 1))) (
 Nd (((x4.length : Int) + 1) = ((x4.length : Int) + 1)) (
 Nd (puInv [.lst x0, .int x1, .int x2] [.int (x3 + 1), .lst (x4 ++ (Sx.chunk 1 1 [(.int (Sx.cellAt x0 x3 0).toInt)]))]) (
 Nd (puMu [.lst x0, .int x1, .int x2] [.int (x3 + 1), .lst (x4 ++ (Sx.chunk 1 1 [(.int (Sx.cellAt x0 x3 0).toInt)]))] < puMu [.lst x0, .int x1, .int x2] [.int x3, .lst x4]) (
 True))))))))))))))) ∧ (¬ (x3 < (x0.length : Int)) →
(((x2 = 0) →
 Nd (¬ ((x4.length : Int) < (x4.length : Int))) (
 Nd (((x4.length : Int) + 1) < 67108865) (
 Nd ((x4.length : Int) = (x4.length : Int)) (
 Nd (¬ (((x4.length : Int) + 1) < ((x4.length : Int) + 1))) (
 Nd (((x4.length : Int) + 1) = ((x4.length : Int) + 1)) (
 Nd (putRel [.lst x0, .int x1, .int x2] [.lst (x4 ++ (Sx.chunk 1 1 [(.int x1)]))]) (
 True))))))) ∧ (¬ (x2 = 0) →
 Nd (¬ ((x4.length : Int) < (x4.length : Int))) (
 Nd ((x4.length : Int) = (x4.length : Int)) (
 Nd (putRel [.lst x0, .int x1, .int x2] [.lst x4]) (
 True))))))))
theorem vcPut_eq : (cvc Go.Proofs.Try.prog U0 cPut (sxF Go.Proofs.Try.prog U0 annsC (conOf Go.Proofs.Try.prog U0 (stageC 2)) 400 15)).vc U0 (fun _ => True) = vcPut := by kernel_rfl
end Go.C36
