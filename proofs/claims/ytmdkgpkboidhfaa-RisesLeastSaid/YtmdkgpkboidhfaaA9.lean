/- The conditions of contracts, as the engine's printer has written them, and that the kernel comes to the same.
  Conditions: none. -/
import Derived.Test.YtmdkgpkboidhfaaA8
import Derived.Test.YtmdkgpkboidhfaaRows
import Derived.KernelRfl
set_option linter.unusedVariables false
set_option maxRecDepth 100000
namespace Go.C08
open Go Go.Xe Go.Sx
/-- What the contract of 'least' asks for. -/
def vcLeast : Prop :=
 ∀ x0 : Sx.Rows,
 ∀ x1 : Int,
(leastPre [.lst x0, .int x1]) →
(((10 < (x0.length : Int)) →
 Nd (livesPre []) (
 ∀ x2 : Bool,
(livesRel [] [.bool x2]) →
 Nd (leastRel [.lst x0, .int x1] [.bool x2]) (
 True))) ∧ (¬ (10 < (x0.length : Int)) →
 Nd (longPre [.lst x0]) (
 ∀ x2 : Sx.Rows,
 ∀ x3 : Int,
(longRel [.lst x0] [.lst x2, .int x3]) →
(((x3 = 0) →
 Nd (chkInv [.lst x0, .lst x2] [.int 0]) (
 ∀ x4 : Int,
(chkInv [.lst x0, .lst x2] [.int x4]) →
(((x4 < (x2.length : Int)) →
 Nd (¬ (x4 < 0)) (
 Nd (x4 < (x2.length : Int)) (
((((Sx.cellAt x2 x4 0).toInt < 0) →
 Nd ((Sx.cellAt x2 x4 0).toInt < 0) (
 Nd ((Sx.cellAt x2 x4 0).toInt < 0) (
 Nd ((Sx.cellAt x2 x4 0).toInt < 0) (
 Nd ((Sx.cellAt x2 x4 0).toInt < 0) (
 Nd ((Sx.cellAt x2 x4 0).toInt < 0) (
 Nd ((Sx.cellAt x2 x4 0).toInt < 0) (
 Nd ((Sx.cellAt x2 x4 0).toInt < 0) (
 Nd (leastRel [.lst x0, .int x1] [.bool false]) (
 True))))))))) ∧ (¬ ((Sx.cellAt x2 x4 0).toInt < 0) →
 Nd (¬ ((Sx.cellAt x2 x4 0).toInt < 0)) (
 Nd (¬ ((Sx.cellAt x2 x4 0).toInt < 0)) (
 Nd (¬ (x4 < 0)) (
 Nd (x4 < (x2.length : Int)) (
 Nd (¬ ((Sx.cellAt x2 x4 0).toInt < 0)) (
 Nd (¬ ((Sx.cellAt x2 x4 0).toInt < 0)) (
 Nd (¬ ((Sx.cellAt x2 x4 0).toInt < 0)) (
 Nd (¬ ((Sx.cellAt x2 x4 0).toInt < 0)) (
 Nd (¬ ((Sx.cellAt x2 x4 0).toInt < 0)) (
((((Sx.cellAt x2 x4 0).toInt < (x0.length : Int)) →
 Nd ((Sx.cellAt x2 x4 0).toInt < (x0.length : Int)) (
 Nd ((Sx.cellAt x2 x4 0).toInt < (x0.length : Int)) (
(((0 < x4) →
 Nd (0 < x4) (
 Nd (0 < x4) (
 Nd ((¬ ((x4 + (-1)) < (-9223372036854775808))) ∧ ((x4 + (-1)) < 9223372036854775808)) (
 Nd (0 < x4) (
 Nd (¬ ((x4 + (-1)) < 0)) (
 Nd ((x4 + (-1)) < (x2.length : Int)) (
 Nd (0 < x4) (
 Nd (0 < x4) (
 Nd (0 < x4) (
 Nd (0 < x4) (
 Nd (¬ (x4 < 0)) (
 Nd (x4 < (x2.length : Int)) (
 Nd (0 < x4) (
 Nd (0 < x4) (
 Nd (0 < x4) (
((((Sx.cellAt x2 (x4 + (-1)) 0).toInt < (Sx.cellAt x2 x4 0).toInt) →
 Nd ((Sx.cellAt x2 (x4 + (-1)) 0).toInt < (Sx.cellAt x2 x4 0).toInt) (
 Nd ((Sx.cellAt x2 (x4 + (-1)) 0).toInt < (Sx.cellAt x2 x4 0).toInt) (
 Nd ((Sx.cellAt x2 (x4 + (-1)) 0).toInt < (Sx.cellAt x2 x4 0).toInt) (
 Nd ((¬ ((x4 + (-1)) < (-9223372036854775808))) ∧ ((x4 + (-1)) < 9223372036854775808)) (
 Nd ((Sx.cellAt x2 (x4 + (-1)) 0).toInt < (Sx.cellAt x2 x4 0).toInt) (
 Nd (¬ ((x4 + (-1)) < 0)) (
 Nd ((x4 + (-1)) < (x2.length : Int)) (
 Nd ((Sx.cellAt x2 (x4 + (-1)) 0).toInt < (Sx.cellAt x2 x4 0).toInt) (
 Nd ((Sx.cellAt x2 (x4 + (-1)) 0).toInt < (Sx.cellAt x2 x4 0).toInt) (
 Nd (¬ ((Sx.cellAt x2 (x4 + (-1)) 0).toInt < 0)) (
 Nd ((Sx.cellAt x2 (x4 + (-1)) 0).toInt < (x0.length : Int)) (
 Nd ((Sx.cellAt x2 (x4 + (-1)) 0).toInt < (Sx.cellAt x2 x4 0).toInt) (
 Nd ((Sx.cellAt x2 (x4 + (-1)) 0).toInt < (Sx.cellAt x2 x4 0).toInt) (
 Nd ((Sx.cellAt x2 (x4 + (-1)) 0).toInt < (Sx.cellAt x2 x4 0).toInt) (
 Nd ((Sx.cellAt x2 (x4 + (-1)) 0).toInt < (Sx.cellAt x2 x4 0).toInt) (
 Nd ((Sx.cellAt x2 (x4 + (-1)) 0).toInt < (Sx.cellAt x2 x4 0).toInt) (
 Nd (¬ (x4 < 0)) (
 Nd (x4 < (x2.length : Int)) (
 Nd ((Sx.cellAt x2 (x4 + (-1)) 0).toInt < (Sx.cellAt x2 x4 0).toInt) (
 Nd ((Sx.cellAt x2 (x4 + (-1)) 0).toInt < (Sx.cellAt x2 x4 0).toInt) (
 Nd (¬ ((Sx.cellAt x2 x4 0).toInt < 0)) (
 Nd ((Sx.cellAt x2 x4 0).toInt < (x0.length : Int)) (
 Nd ((Sx.cellAt x2 (x4 + (-1)) 0).toInt < (Sx.cellAt x2 x4 0).toInt) (
 Nd ((Sx.cellAt x2 (x4 + (-1)) 0).toInt < (Sx.cellAt x2 x4 0).toInt) (
 Nd (0 < x4) (
 Nd ((Sx.cellAt x2 (x4 + (-1)) 0).toInt < (Sx.cellAt x2 x4 0).toInt) (
 Nd ((Sx.cellAt x2 x4 0).toInt < (x0.length : Int)) (
 Nd (0 < x4) (
 Nd ((Sx.cellAt x2 x4 0).toInt < (x0.length : Int)) (
((((Sx.cellAt x0 (Sx.cellAt x2 (x4 + (-1)) 0).toInt 0).toInt < (Sx.cellAt x0 (Sx.cellAt x2 x4 0).toInt 0).toInt) →
 Nd ((¬ ((x4 + 1) < (-9223372036854775808))) ∧ ((x4 + 1) < 9223372036854775808)) (
 Nd (chkInv [.lst x0, .lst x2] [.int (x4 + 1)]) (
 Nd (chkMu [.lst x0, .lst x2] [.int (x4 + 1)] < chkMu [.lst x0, .lst x2] [.int x4]) (
 True)))) ∧ (¬ ((Sx.cellAt x0 (Sx.cellAt x2 (x4 + (-1)) 0).toInt 0).toInt < (Sx.cellAt x0 (Sx.cellAt x2 x4 0).toInt 0).toInt) →
 Nd (leastRel [.lst x0, .int x1] [.bool false]) (
 True))))))))))))))))))))))))))))))))) ∧ (¬ ((Sx.cellAt x2 (x4 + (-1)) 0).toInt < (Sx.cellAt x2 x4 0).toInt) →
 Nd (¬ ((Sx.cellAt x2 (x4 + (-1)) 0).toInt < (Sx.cellAt x2 x4 0).toInt)) (
 Nd (¬ ((Sx.cellAt x2 (x4 + (-1)) 0).toInt < (Sx.cellAt x2 x4 0).toInt)) (
 Nd (¬ ((Sx.cellAt x2 (x4 + (-1)) 0).toInt < (Sx.cellAt x2 x4 0).toInt)) (
 Nd (¬ ((Sx.cellAt x2 (x4 + (-1)) 0).toInt < (Sx.cellAt x2 x4 0).toInt)) (
 Nd (¬ ((Sx.cellAt x2 (x4 + (-1)) 0).toInt < (Sx.cellAt x2 x4 0).toInt)) (
 Nd (¬ ((Sx.cellAt x2 (x4 + (-1)) 0).toInt < (Sx.cellAt x2 x4 0).toInt)) (
 Nd (¬ ((Sx.cellAt x2 (x4 + (-1)) 0).toInt < (Sx.cellAt x2 x4 0).toInt)) (
 Nd (¬ ((Sx.cellAt x2 (x4 + (-1)) 0).toInt < (Sx.cellAt x2 x4 0).toInt)) (
 Nd (¬ ((Sx.cellAt x2 (x4 + (-1)) 0).toInt < (Sx.cellAt x2 x4 0).toInt)) (
 Nd (¬ ((Sx.cellAt x2 (x4 + (-1)) 0).toInt < (Sx.cellAt x2 x4 0).toInt)) (
 Nd (¬ ((Sx.cellAt x2 (x4 + (-1)) 0).toInt < (Sx.cellAt x2 x4 0).toInt)) (
 Nd (¬ ((Sx.cellAt x2 (x4 + (-1)) 0).toInt < (Sx.cellAt x2 x4 0).toInt)) (
 Nd (¬ ((Sx.cellAt x2 (x4 + (-1)) 0).toInt < (Sx.cellAt x2 x4 0).toInt)) (
 Nd (¬ ((Sx.cellAt x2 (x4 + (-1)) 0).toInt < (Sx.cellAt x2 x4 0).toInt)) (
 Nd (¬ ((Sx.cellAt x2 (x4 + (-1)) 0).toInt < (Sx.cellAt x2 x4 0).toInt)) (
 Nd (0 < x4) (
 Nd (¬ ((Sx.cellAt x2 (x4 + (-1)) 0).toInt < (Sx.cellAt x2 x4 0).toInt)) (
 Nd ((Sx.cellAt x2 x4 0).toInt < (x0.length : Int)) (
 Nd (0 < x4) (
 Nd ((Sx.cellAt x2 x4 0).toInt < (x0.length : Int)) (
 Nd (leastRel [.lst x0, .int x1] [.bool false]) (
 True))))))))))))))))))))))))))))))))))))))) ∧ (¬ (0 < x4) →
 Nd (¬ (0 < x4)) (
 Nd (¬ (0 < x4)) (
 Nd (¬ (0 < x4)) (
 Nd (¬ (0 < x4)) (
 Nd (¬ (0 < x4)) (
 Nd (¬ (0 < x4)) (
 Nd (¬ (0 < x4)) (
 Nd (¬ (0 < x4)) (
 Nd (¬ (0 < x4)) (
 Nd (¬ (0 < x4)) (
 Nd (¬ (0 < x4)) (
 Nd ((Sx.cellAt x2 x4 0).toInt < (x0.length : Int)) (
 Nd (¬ (0 < x4)) (
 Nd ((Sx.cellAt x2 x4 0).toInt < (x0.length : Int)) (
 Nd ((¬ ((x4 + 1) < (-9223372036854775808))) ∧ ((x4 + 1) < 9223372036854775808)) (
 Nd (chkInv [.lst x0, .lst x2] [.int (x4 + 1)]) (
 Nd (chkMu [.lst x0, .lst x2] [.int (x4 + 1)] < chkMu [.lst x0, .lst x2] [.int x4]) (
 True)))))))))))))))))))))) ∧ (¬ ((Sx.cellAt x2 x4 0).toInt < (x0.length : Int)) →
 Nd (¬ ((Sx.cellAt x2 x4 0).toInt < (x0.length : Int))) (
 Nd (¬ ((Sx.cellAt x2 x4 0).toInt < (x0.length : Int))) (
 Nd (¬ ((Sx.cellAt x2 x4 0).toInt < (x0.length : Int))) (
 Nd (¬ ((Sx.cellAt x2 x4 0).toInt < (x0.length : Int))) (
 Nd (leastRel [.lst x0, .int x1] [.bool false]) (
 True))))))))))))))))))))) ∧ (¬ (x4 < (x2.length : Int)) →
 Nd (othInv [.lst x0] [.int 0, .lst ([] : Sx.Rows)]) (
 ∀ x5 : Int,
 ∀ x6 : Sx.Rows,
(othInv [.lst x0] [.int x5, .lst x6]) →
(((x5 < (x0.length : Int)) →
 Nd (¬ (x5 < 0)) (
((((((Sx.shrI .u16 x1 x5) : Int).tmod (2)) = 1) →
(((0 < (x6.length : Int)) →
 Nd (0 < (x6.length : Int)) (
 Nd (0 < (x6.length : Int)) (
 Nd (0 < (x6.length : Int)) (
 Nd (0 < (x6.length : Int)) (
 Nd ((¬ (((x6.length : Int) + (-1)) < (-9223372036854775808))) ∧ (((x6.length : Int) + (-1)) < 9223372036854775808)) (
 Nd (0 < (x6.length : Int)) (
 Nd (¬ (((x6.length : Int) + (-1)) < 0)) (
 Nd (((x6.length : Int) + (-1)) < (x6.length : Int)) (
 Nd (0 < (x6.length : Int)) (
 Nd (((x6.length : Int) + (-1)) < (x6.length : Int)) (
 Nd (0 < (x6.length : Int)) (
 Nd (¬ ((Sx.cellAt x6 ((x6.length : Int) + (-1)) 0).toInt < 0)) (
 Nd ((Sx.cellAt x6 ((x6.length : Int) + (-1)) 0).toInt < (x0.length : Int)) (
 Nd (0 < (x6.length : Int)) (
 Nd (0 < (x6.length : Int)) (
 Nd (0 < (x6.length : Int)) (
 Nd (0 < (x6.length : Int)) (
 Nd (¬ (x5 < 0)) (
 Nd (x5 < (x0.length : Int)) (
 Nd (0 < (x6.length : Int)) (
 Nd (0 < (x6.length : Int)) (
 Nd (0 < (x6.length : Int)) (
((((Sx.cellAt x0 (Sx.cellAt x6 ((x6.length : Int) + (-1)) 0).toInt 0).toInt < (Sx.cellAt x0 x5 0).toInt) →
 Nd (¬ ((x6.length : Int) < (x6.length : Int))) (
 Nd (((x6.length : Int) + 1) < 67108865) (
 Nd ((x6.length : Int) = (x6.length : Int)) (
 Nd ((¬ ((x5 + 1) < (-9223372036854775808))) ∧ ((x5 + 1) < 9223372036854775808)) (
 Nd (¬ (((x6.length : Int) + 1) < ((x6.length : Int) + 1))) (
 Nd (((x6.length : Int) + 1) = ((x6.length : Int) + 1)) (
 Nd (othInv [.lst x0] [.int (x5 + 1), .lst (x6 ++ (Sx.chunk 1 1 [(.int x5)]))]) (
 Nd (othMu [.lst x0] [.int (x5 + 1), .lst (x6 ++ (Sx.chunk 1 1 [(.int x5)]))] < othMu [.lst x0] [.int x5, .lst x6]) (
 True))))))))) ∧ (¬ ((Sx.cellAt x0 (Sx.cellAt x6 ((x6.length : Int) + (-1)) 0).toInt 0).toInt < (Sx.cellAt x0 x5 0).toInt) →
(((0 < (x2.length : Int)) →
 Nd (livesPre []) (
 ∀ x7 : Bool,
(livesRel [] [.bool x7]) →
 Nd (0 < (x2.length : Int)) (
 Nd (leastRel [.lst x0, .int x1] [.bool x7]) (
 True)))) ∧ (¬ (0 < (x2.length : Int)) →
 Nd (¬ (0 < (x2.length : Int))) (
 Nd (leastRel [.lst x0, .int x1] [.bool false]) (
 True))))))))))))))))))))))))))))) ∧ (¬ (0 < (x6.length : Int)) →
 Nd (¬ (0 < (x6.length : Int))) (
 Nd (¬ (0 < (x6.length : Int))) (
 Nd (¬ (0 < (x6.length : Int))) (
 Nd (¬ (0 < (x6.length : Int))) (
 Nd (¬ (0 < (x6.length : Int))) (
 Nd (¬ (0 < (x6.length : Int))) (
 Nd (¬ (0 < (x6.length : Int))) (
 Nd (¬ (0 < (x6.length : Int))) (
 Nd (¬ (0 < (x6.length : Int))) (
 Nd (¬ (0 < (x6.length : Int))) (
 Nd (¬ (0 < (x6.length : Int))) (
 Nd (¬ (0 < (x6.length : Int))) (
 Nd (¬ (0 < (x6.length : Int))) (
 Nd (¬ (0 < (x6.length : Int))) (
 Nd (¬ ((x6.length : Int) < (x6.length : Int))) (
 Nd (((x6.length : Int) + 1) < 67108865) (
 Nd ((x6.length : Int) = (x6.length : Int)) (
 Nd ((¬ ((x5 + 1) < (-9223372036854775808))) ∧ ((x5 + 1) < 9223372036854775808)) (
 Nd (¬ (((x6.length : Int) + 1) < ((x6.length : Int) + 1))) (
 Nd (((x6.length : Int) + 1) = ((x6.length : Int) + 1)) (
 Nd (othInv [.lst x0] [.int (x5 + 1), .lst (x6 ++ (Sx.chunk 1 1 [(.int x5)]))]) (
 Nd (othMu [.lst x0] [.int (x5 + 1), .lst (x6 ++ (Sx.chunk 1 1 [(.int x5)]))] < othMu [.lst x0] [.int x5, .lst x6]) (
 True))))))))))))))))))))))))) ∧ (¬ ((((Sx.shrI .u16 x1 x5) : Int).tmod (2)) = 1) →
 Nd ((¬ ((x5 + 1) < (-9223372036854775808))) ∧ ((x5 + 1) < 9223372036854775808)) (
 Nd (¬ ((x6.length : Int) < (x6.length : Int))) (
 Nd ((x6.length : Int) = (x6.length : Int)) (
 Nd (othInv [.lst x0] [.int (x5 + 1), .lst x6]) (
 Nd (othMu [.lst x0] [.int (x5 + 1), .lst x6] < othMu [.lst x0] [.int x5, .lst x6]) (
 True))))))))) ∧ (¬ (x5 < (x0.length : Int)) →
((((x6.length : Int) = (x2.length : Int)) →
 Nd (cmpInv [.lst x2, .lst x6] [.int 0]) (
 ∀ x7 : Int,
(cmpInv [.lst x2, .lst x6] [.int x7]) →
(((x7 < (x2.length : Int)) →
 Nd (¬ (x7 < 0)) (
 Nd (x7 < (x2.length : Int)) (
 Nd (¬ (x7 < 0)) (
 Nd (x7 < (x6.length : Int)) (
 Nd (x7 < (x6.length : Int)) (
((((Sx.cellAt x2 x7 0).toInt = (Sx.cellAt x6 x7 0).toInt) →
 Nd ((¬ ((x7 + 1) < (-9223372036854775808))) ∧ ((x7 + 1) < 9223372036854775808)) (
 Nd (cmpInv [.lst x2, .lst x6] [.int (x7 + 1)]) (
 Nd (cmpMu [.lst x2, .lst x6] [.int (x7 + 1)] < cmpMu [.lst x2, .lst x6] [.int x7]) (
 True)))) ∧ (¬ ((Sx.cellAt x2 x7 0).toInt = (Sx.cellAt x6 x7 0).toInt) →
 Nd (¬ (x7 < 0)) (
 Nd (x7 < (x2.length : Int)) (
 Nd (¬ (x7 < 0)) (
 Nd (x7 < (x6.length : Int)) (
 Nd (x7 < (x6.length : Int)) (
((((Sx.cellAt x2 x7 0).toInt < (Sx.cellAt x6 x7 0).toInt) →
 Nd (livesPre []) (
 ∀ x8 : Bool,
(livesRel [] [.bool x8]) →
 Nd ((Sx.cellAt x2 x7 0).toInt < (Sx.cellAt x6 x7 0).toInt) (
 Nd (leastRel [.lst x0, .int x1] [.bool x8]) (
 True)))) ∧ (¬ ((Sx.cellAt x2 x7 0).toInt < (Sx.cellAt x6 x7 0).toInt) →
 Nd (¬ ((Sx.cellAt x2 x7 0).toInt < (Sx.cellAt x6 x7 0).toInt)) (
 Nd (leastRel [.lst x0, .int x1] [.bool false]) (
 True))))))))))))))))) ∧ (¬ (x7 < (x2.length : Int)) →
 Nd (livesPre []) (
 ∀ x8 : Bool,
(livesRel [] [.bool x8]) →
 Nd (leastRel [.lst x0, .int x1] [.bool x8]) (
 True)))))) ∧ (¬ ((x6.length : Int) = (x2.length : Int)) →
((((x6.length : Int) < (x2.length : Int)) →
 Nd (livesPre []) (
 ∀ x7 : Bool,
(livesRel [] [.bool x7]) →
 Nd ((x6.length : Int) < (x2.length : Int)) (
 Nd (leastRel [.lst x0, .int x1] [.bool x7]) (
 True)))) ∧ (¬ ((x6.length : Int) < (x2.length : Int)) →
 Nd (¬ ((x6.length : Int) < (x2.length : Int))) (
 Nd (leastRel [.lst x0, .int x1] [.bool false]) (
 True))))))))))))) ∧ (¬ (x3 = 0) →
 Nd (leastRel [.lst x0, .int x1] [.bool false]) (
 True))))))
theorem vcLeast_eq : (cvc Go.Proofs.Try.prog U0 cLeast (sxF Go.Proofs.Try.prog U0 annsT (conOf Go.Proofs.Try.prog U0 (stageT 0)) 400 4)).vc U0 (fun _ => True) = vcLeast := by kernel_rfl
end Go.C08
