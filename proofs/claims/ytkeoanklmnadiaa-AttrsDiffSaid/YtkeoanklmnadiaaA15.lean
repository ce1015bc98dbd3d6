/- The conditions of contracts, as the engine's printer has written them, and that the kernel comes to the same.
  Conditions: none. -/
import Derived.Test.YtkeoanklmnadiaaA14
import Derived.Test.YtkeoanklmnadiaaRows
import Derived.KernelRfl
set_option linter.unusedVariables false
set_option maxRecDepth 100000
namespace Go.C13
open Go Go.Xe Go.Sx
def vcErr0 (x0 : Sx.Rows) (x1 : Sx.Rows) (x2 : List UInt8) (x5 : Int) (x12 : Sx.Rows) (x13 : Int) (x14 : Sx.Rows) : Prop :=
 Nd (¬ (x5 = 0)) (
 Nd (¬ (x5 = 0)) (
 Nd (¬ (x5 = 0)) (
(((x13 = x5) →
 Nd (x13 = x5) (
 Nd (x13 = x5) (
 Nd (x13 = x5) (
 Nd (x13 = x5) (
 Nd ((¬ (((x12.length : Int) + (x14.length : Int)) < (-9223372036854775808))) ∧ (((x12.length : Int) + (x14.length : Int)) < 9223372036854775808)) (
 Nd (x13 = x5) (
 Nd (¬ (x5 = 0)) (
 Nd (x13 = x5) (
 Nd (¬ (x5 = 0)) (
(((((x12.length : Int) + (x14.length : Int)) = 0) →
 Nd (livesPre []) (
 ∀ x21 : Bool,
(livesRel [] [.bool x21]) →
 Nd (((x12.length : Int) + (x14.length : Int)) = 0) (
 Nd (errRel [.lst x0, .lst x1, .str x2] [.bool x21]) (
 True)))) ∧ (¬ (((x12.length : Int) + (x14.length : Int)) = 0) →
 Nd (¬ (((x12.length : Int) + (x14.length : Int)) = 0)) (
 Nd (errRel [.lst x0, .lst x1, .str x2] [.bool false]) (
 True)))))))))))))) ∧ (¬ (x13 = x5) →
 Nd (¬ (x13 = x5)) (
 Nd (¬ (x13 = x5)) (
 Nd (¬ (x13 = x5)) (
 Nd (¬ (x13 = x5)) (
 Nd (¬ (x13 = x5)) (
 Nd (¬ (x5 = 0)) (
 Nd (¬ (x13 = x5)) (
 Nd (¬ (x5 = 0)) (
 Nd (errRel [.lst x0, .lst x1, .str x2] [.bool false]) (
 True))))))))))))))
/-- What the contract of 'err' asks for. -/
def vcErr : Prop :=
 ∀ x0 : Sx.Rows,
 ∀ x1 : Sx.Rows,
 ∀ x2 : List UInt8,
(errPre [.lst x0, .lst x1, .str x2]) →
(((12 < (x0.length : Int)) →
 Nd (12 < (x0.length : Int)) (
 Nd (12 < (x0.length : Int)) (
 Nd (12 < (x0.length : Int)) (
 Nd (livesPre []) (
 ∀ x3 : Bool,
(livesRel [] [.bool x3]) →
 Nd (errRel [.lst x0, .lst x1, .str x2] [.bool x3]) (
 True)))))) ∧ (¬ (12 < (x0.length : Int)) →
 Nd (¬ (12 < (x0.length : Int))) (
 Nd (¬ (12 < (x0.length : Int))) (
 Nd (¬ (12 < (x0.length : Int))) (
(((20 < (x1.length : Int)) →
 Nd (20 < (x1.length : Int)) (
 Nd (20 < (x1.length : Int)) (
 Nd (20 < (x1.length : Int)) (
 Nd (livesPre []) (
 ∀ x3 : Bool,
(livesRel [] [.bool x3]) →
 Nd (errRel [.lst x0, .lst x1, .str x2] [.bool x3]) (
 True)))))) ∧ (¬ (20 < (x1.length : Int)) →
 Nd (¬ (20 < (x1.length : Int))) (
 Nd (¬ (20 < (x1.length : Int))) (
 Nd (¬ (20 < (x1.length : Int))) (
(((30 < (x2.length : Int)) →
 Nd (livesPre []) (
 ∀ x3 : Bool,
(livesRel [] [.bool x3]) →
 Nd (errRel [.lst x0, .lst x1, .str x2] [.bool x3]) (
 True))) ∧ (¬ (30 < (x2.length : Int)) →
 Nd (rcheckPre [.lst x0]) (
 ∀ x3 : Int,
(rcheckRel [.lst x0] [.int x3]) →
 Nd (plainPre [.lst x1]) (
 ∀ x4 : Sx.Rows,
(plainRel [.lst x1] [.lst x4]) →
 Nd (¬ ((x4.length : Int) < (x4.length : Int))) (
 Nd ((x4.length : Int) = (x4.length : Int)) (
 Nd (rceditsPre [.lst x4]) (
 ∀ x5 : Int,
(rceditsRel [.lst x4] [.int x5]) →
 Nd (findPre [.lst x0, .str x2]) (
 ∀ x6 : List UInt8,
 ∀ x7 : Int,
(findRel [.lst x0, .str x2] [.str x6, .int x7]) →
 Nd (diffPre [.lst x0, .lst ([] : Sx.Rows)]) (
 ∀ x8 : Sx.Rows,
 ∀ x9 : Int,
(diffRel [.lst x0, .lst ([] : Sx.Rows)] [.lst x8, .int x9]) →
 Nd (diffPre [.lst ([] : Sx.Rows), .lst x0]) (
 ∀ x10 : Sx.Rows,
 ∀ x11 : Int,
(diffRel [.lst ([] : Sx.Rows), .lst x0] [.lst x10, .int x11]) →
 Nd (appPre [.lst x0, .lst x1]) (
 ∀ x12 : Sx.Rows,
 ∀ x13 : Int,
(appRel [.lst x0, .lst x1] [.lst x12, .int x13]) →
 Nd (compPre [.lst x1, .lst ([] : Sx.Rows)]) (
 ∀ x14 : Sx.Rows,
 ∀ x15 : Int,
(compRel [.lst x1, .lst ([] : Sx.Rows)] [.lst x14, .int x15]) →
 Nd (compPre [.lst ([] : Sx.Rows), .lst x1]) (
 ∀ x16 : Sx.Rows,
 ∀ x17 : Int,
(compRel [.lst ([] : Sx.Rows), .lst x1] [.lst x16, .int x17]) →
 Nd (checkPre [.lst x0]) (
 ∀ x18 : Int,
(checkRel [.lst x0] [.int x18]) →
(((x18 = x3) →
 Nd (x18 = x3) (
 Nd (ceditsPre [.lst x1]) (
 ∀ x19 : Int,
(ceditsRel [.lst x1] [.int x19]) →
 Nd (x18 = x3) (
 Nd (x18 = x3) (
 Nd (x18 = x3) (
(((x19 = x5) →
 Nd (x19 = x5) (
 Nd (x19 = x5) (
 Nd (x19 = x5) (
(((x9 = x3) →
 Nd (x9 = x3) (
 Nd (x9 = x3) (
 Nd (x9 = x3) (
(((x11 = x3) →
 Nd (x11 = x3) (
 Nd (x11 = x3) (
 Nd (x11 = x3) (
(((x15 = x5) →
 Nd (x15 = x5) (
 Nd (x15 = x5) (
 Nd (x15 = x5) (
(((x17 = x5) →
(((x3 = 0) →
 Nd (rfindPre [.lst x0, .str x2]) (
 ∀ x20 : Int,
(rfindRel [.lst x0, .str x2] [.int x20]) →
(((x20 < 0) →
 Nd (x20 < 0) (
 Nd (x20 < 0) (
(((x7 = 11) →
 Nd (x7 = 11) (
 Nd (x20 < 0) (
 Nd (x7 = 11) (
 Nd (x20 < 0) (
(((x6 = ([] : List UInt8)) →
 Nd (x6 = ([] : List UInt8)) (
 Nd (x6 = ([] : List UInt8)) (
 Nd (x20 < 0) (
 Nd (x20 < 0) (
 Nd (x20 < 0) (
 Nd (x20 < 0) (
 Nd (x6 = ([] : List UInt8)) (
 Nd (x20 < 0) (
 Nd (x6 = ([] : List UInt8)) (
(((x5 = 0) →
 Nd (x5 = 0) (
 Nd (x5 = 0) (
 Nd (x5 = 0) (
 Nd (x5 = 0) (
 Nd (x5 = 0) (
 Nd (livesPre []) (
 ∀ x21 : Bool,
(livesRel [] [.bool x21]) →
 Nd (errRel [.lst x0, .lst x1, .str x2] [.bool x21]) (
 True)))))))) ∧ (¬ (x5 = 0) →
(vcErr0 x0 x1 x2 x5 x12 x13 x14))))))))))))) ∧ (¬ (x6 = ([] : List UInt8)) →
 Nd (¬ (x6 = ([] : List UInt8))) (
 Nd (¬ (x6 = ([] : List UInt8))) (
 Nd (¬ (x6 = ([] : List UInt8))) (
 Nd (¬ (x6 = ([] : List UInt8))) (
 Nd (errRel [.lst x0, .lst x1, .str x2] [.bool false]) (
 True)))))))))))) ∧ (¬ (x7 = 11) →
 Nd (¬ (x7 = 11)) (
 Nd (x20 < 0) (
 Nd (¬ (x7 = 11)) (
 Nd (x20 < 0) (
 Nd (errRel [.lst x0, .lst x1, .str x2] [.bool false]) (
 True)))))))))) ∧ (¬ (x20 < 0) →
 Nd (¬ (x20 < 0)) (
 Nd (¬ (x20 < 0)) (
 Nd (¬ (x20 < 0)) (
 Nd (¬ (x20 < 0)) (
 Nd (¬ (x20 < 0)) (
 Nd (¬ (x20 < 0)) (
 Nd (¬ (x20 < 0)) (
(((x7 = 0) →
 Nd (x7 = 0) (
 Nd (x7 = 0) (
 Nd (x7 = 0) (
 Nd (¬ (x20 < 0)) (
 Nd (x20 < (x0.length : Int)) (
 Nd (x7 = 0) (
 Nd (x7 = 0) (
 Nd (x7 = 0) (
 Nd (¬ (x20 < 0)) (
 Nd (x7 = 0) (
 Nd (¬ (x20 < 0)) (
(((x6 = (Sx.cellAt x0 x20 1).toStr) →
(((x5 = 0) →
 Nd (x5 = 0) (
 Nd (x5 = 0) (
 Nd (x5 = 0) (
 Nd (x5 = 0) (
 Nd (x5 = 0) (
 Nd (livesPre []) (
 ∀ x21 : Bool,
(livesRel [] [.bool x21]) →
 Nd (errRel [.lst x0, .lst x1, .str x2] [.bool x21]) (
 True)))))))) ∧ (¬ (x5 = 0) →
(vcErr0 x0 x1 x2 x5 x12 x13 x14)))) ∧ (¬ (x6 = (Sx.cellAt x0 x20 1).toStr) →
 Nd (errRel [.lst x0, .lst x1, .str x2] [.bool false]) (
 True))))))))))))))) ∧ (¬ (x7 = 0) →
 Nd (¬ (x7 = 0)) (
 Nd (¬ (x7 = 0)) (
 Nd (¬ (x7 = 0)) (
 Nd (¬ (x7 = 0)) (
 Nd (¬ (x7 = 0)) (
 Nd (¬ (x7 = 0)) (
 Nd (¬ (x20 < 0)) (
 Nd (¬ (x7 = 0)) (
 Nd (¬ (x20 < 0)) (
 Nd (errRel [.lst x0, .lst x1, .str x2] [.bool false]) (
 True))))))))))))))))))))))) ∧ (¬ (x3 = 0) →
(((x7 = x3) →
 Nd (x7 = x3) (
 Nd (x7 = x3) (
 Nd (x7 = x3) (
(((x13 = x3) →
 Nd (x13 = x3) (
 Nd (x13 = x3) (
(((x6 = ([] : List UInt8)) →
 Nd (x6 = ([] : List UInt8)) (
 Nd (x6 = ([] : List UInt8)) (
 Nd (x6 = ([] : List UInt8)) (
 Nd (x6 = ([] : List UInt8)) (
 Nd ((¬ (((x8.length : Int) + (x12.length : Int)) < (-9223372036854775808))) ∧ (((x8.length : Int) + (x12.length : Int)) < 9223372036854775808)) (
 Nd (x6 = ([] : List UInt8)) (
 Nd (x6 = ([] : List UInt8)) (
(((((x8.length : Int) + (x12.length : Int)) = 0) →
 Nd (livesPre []) (
 ∀ x20 : Bool,
(livesRel [] [.bool x20]) →
 Nd (((x8.length : Int) + (x12.length : Int)) = 0) (
 Nd (errRel [.lst x0, .lst x1, .str x2] [.bool x20]) (
 True)))) ∧ (¬ (((x8.length : Int) + (x12.length : Int)) = 0) →
 Nd (¬ (((x8.length : Int) + (x12.length : Int)) = 0)) (
 Nd (errRel [.lst x0, .lst x1, .str x2] [.bool false]) (
 True)))))))))))) ∧ (¬ (x6 = ([] : List UInt8)) →
 Nd (¬ (x6 = ([] : List UInt8))) (
 Nd (¬ (x6 = ([] : List UInt8))) (
 Nd (¬ (x6 = ([] : List UInt8))) (
 Nd (¬ (x6 = ([] : List UInt8))) (
 Nd (¬ (x6 = ([] : List UInt8))) (
 Nd (¬ (x6 = ([] : List UInt8))) (
 Nd (errRel [.lst x0, .lst x1, .str x2] [.bool false]) (
 True)))))))))))) ∧ (¬ (x13 = x3) →
 Nd (¬ (x13 = x3)) (
 Nd (¬ (x13 = x3)) (
 Nd (errRel [.lst x0, .lst x1, .str x2] [.bool false]) (
 True))))))))) ∧ (¬ (x7 = x3) →
 Nd (¬ (x7 = x3)) (
 Nd (¬ (x7 = x3)) (
 Nd (¬ (x7 = x3)) (
 Nd (errRel [.lst x0, .lst x1, .str x2] [.bool false]) (
 True))))))))) ∧ (¬ (x17 = x5) →
 Nd (errRel [.lst x0, .lst x1, .str x2] [.bool false]) (
 True))))))) ∧ (¬ (x15 = x5) →
 Nd (¬ (x15 = x5)) (
 Nd (¬ (x15 = x5)) (
 Nd (¬ (x15 = x5)) (
 Nd (errRel [.lst x0, .lst x1, .str x2] [.bool false]) (
 True)))))))))) ∧ (¬ (x11 = x3) →
 Nd (¬ (x11 = x3)) (
 Nd (¬ (x11 = x3)) (
 Nd (¬ (x11 = x3)) (
 Nd (errRel [.lst x0, .lst x1, .str x2] [.bool false]) (
 True)))))))))) ∧ (¬ (x9 = x3) →
 Nd (¬ (x9 = x3)) (
 Nd (¬ (x9 = x3)) (
 Nd (¬ (x9 = x3)) (
 Nd (errRel [.lst x0, .lst x1, .str x2] [.bool false]) (
 True)))))))))) ∧ (¬ (x19 = x5) →
 Nd (¬ (x19 = x5)) (
 Nd (¬ (x19 = x5)) (
 Nd (¬ (x19 = x5)) (
 Nd (errRel [.lst x0, .lst x1, .str x2] [.bool false]) (
 True)))))))))))) ∧ (¬ (x18 = x3) →
 Nd (¬ (x18 = x3)) (
 Nd (¬ (x18 = x3)) (
 Nd (¬ (x18 = x3)) (
 Nd (¬ (x18 = x3)) (
 Nd (errRel [.lst x0, .lst x1, .str x2] [.bool false]) (
 True)))))))))))))))))))))))))))))))
theorem vcErr_eq : (cvc Go.Proofs.Try.prog U0 cErr (sxF Go.Proofs.Try.prog U0 annsL (conOf Go.Proofs.Try.prog U0 (stageL 0)) 400 6)).vc U0 (fun _ => True) = vcErr := by kernel_rfl
/-- What the contract of 'applies' asks for. -/
def vcApplies : Prop :=
 ∀ x0 : Int,
 ∀ x1 : Int,
 ∀ x2 : Int,
 ∀ x3 : Int,
 ∀ x4 : Int,
 ∀ x5 : Int,
 ∀ x6 : Int,
 ∀ x7 : Int,
 ∀ x8 : Int,
 ∀ x9 : Int,
 ∀ x10 : Int,
 ∀ x11 : Int,
 ∀ x12 : Int,
 ∀ x13 : Int,
 ∀ x14 : Int,
 ∀ x15 : Int,
 ∀ x16 : Int,
 ∀ x17 : Int,
 ∀ x18 : Int,
 ∀ x19 : Int,
 ∀ x20 : Int,
 ∀ x21 : Int,
(appliesPre [.int x0, .int x1, .int x2, .int x3, .int x4, .int x5, .int x6, .int x7, .int x8, .int x9, .int x10, .int x11, .int x12, .int x13, .int x14, .int x15, .int x16, .int x17, .int x18, .int x19, .int x20, .int x21]) →
 Nd (oflPre [.int x0, .int x1, .int x2, .int x3, .int x4, .int x5, .int x6, .int x7, .int x8]) (
 ∀ x22 : Sx.Rows,
(oflRel [.int x0, .int x1, .int x2, .int x3, .int x4, .int x5, .int x6, .int x7, .int x8] [.lst x22]) →
 Nd (ofwPre [.int x9, .int x10, .int x11, .int x12, .int x13, .int x14, .int x15, .int x16, .int x17, .int x18, .int x19, .int x20, .int x21]) (
 ∀ x23 : Sx.Rows,
(ofwRel [.int x9, .int x10, .int x11, .int x12, .int x13, .int x14, .int x15, .int x16, .int x17, .int x18, .int x19, .int x20, .int x21] [.lst x23]) →
 Nd (appPre [.lst x22, .lst x23]) (
 ∀ x24 : Sx.Rows,
 ∀ x25 : Int,
(appRel [.lst x22, .lst x23] [.lst x24, .int x25]) →
 Nd (oflPre [.int x0, .int x1, .int x2, .int x3, .int x4, .int x5, .int x6, .int x7, .int x8]) (
 ∀ x26 : Sx.Rows,
(oflRel [.int x0, .int x1, .int x2, .int x3, .int x4, .int x5, .int x6, .int x7, .int x8] [.lst x26]) →
 Nd (plainPre [.lst x23]) (
 ∀ x27 : Sx.Rows,
(plainRel [.lst x23] [.lst x27]) →
 Nd (¬ ((x27.length : Int) < (x27.length : Int))) (
 Nd ((x27.length : Int) = (x27.length : Int)) (
 Nd (rappPre [.lst x26, .lst x27]) (
 ∀ x28 : Sx.Rows,
 ∀ x29 : Int,
(rappRel [.lst x26, .lst x27] [.lst x28, .int x29]) →
(((x25 = x29) →
 Nd (x25 = x29) (
 Nd (x25 = x29) (
 Nd (oflPre [.int x0, .int x1, .int x2, .int x3, .int x4, .int x5, .int x6, .int x7, .int x8]) (
 ∀ x30 : Sx.Rows,
(oflRel [.int x0, .int x1, .int x2, .int x3, .int x4, .int x5, .int x6, .int x7, .int x8] [.lst x30]) →
 Nd (x25 = x29) (
 Nd (samePre [.lst x22, .lst x30]) (
 ∀ x31 : Int,
(sameRel [.lst x22, .lst x30] [.int x31]) →
 Nd (x25 = x29) (
 Nd (x25 = x29) (
(((x31 = 0) →
 Nd (appliesRel [.int x0, .int x1, .int x2, .int x3, .int x4, .int x5, .int x6, .int x7, .int x8, .int x9, .int x10, .int x11, .int x12, .int x13, .int x14, .int x15, .int x16, .int x17, .int x18, .int x19, .int x20, .int x21] [.bool false]) (
 True)) ∧ (¬ (x31 = 0) →
(((x25 = 0) →
 Nd (samePre [.lst x24, .lst x28]) (
 ∀ x32 : Int,
(sameRel [.lst x24, .lst x28] [.int x32]) →
(((x32 = 1) →
 Nd (x32 = 1) (
 Nd (x32 = 1) (
 Nd (x32 = 1) (
 Nd (x32 = 1) (
 Nd (x32 = 1) (
((((x24.length : Int) = (x24.length : Int)) →
 Nd (livesPre []) (
 ∀ x33 : Bool,
(livesRel [] [.bool x33]) →
 Nd ((x24.length : Int) = (x24.length : Int)) (
 Nd (appliesRel [.int x0, .int x1, .int x2, .int x3, .int x4, .int x5, .int x6, .int x7, .int x8, .int x9, .int x10, .int x11, .int x12, .int x13, .int x14, .int x15, .int x16, .int x17, .int x18, .int x19, .int x20, .int x21] [.bool x33]) (
 True)))) ∧ (¬ ((x24.length : Int) = (x24.length : Int)) →
 Nd (¬ ((x24.length : Int) = (x24.length : Int))) (
 Nd (appliesRel [.int x0, .int x1, .int x2, .int x3, .int x4, .int x5, .int x6, .int x7, .int x8, .int x9, .int x10, .int x11, .int x12, .int x13, .int x14, .int x15, .int x16, .int x17, .int x18, .int x19, .int x20, .int x21] [.bool false]) (
 True)))))))))) ∧ (¬ (x32 = 1) →
 Nd (¬ (x32 = 1)) (
 Nd (¬ (x32 = 1)) (
 Nd (¬ (x32 = 1)) (
 Nd (¬ (x32 = 1)) (
 Nd (¬ (x32 = 1)) (
 Nd (appliesRel [.int x0, .int x1, .int x2, .int x3, .int x4, .int x5, .int x6, .int x7, .int x8, .int x9, .int x10, .int x11, .int x12, .int x13, .int x14, .int x15, .int x16, .int x17, .int x18, .int x19, .int x20, .int x21] [.bool false]) (
 True)))))))))) ∧ (¬ (x25 = 0) →
((((x24.length : Int) = 0) →
 Nd (livesPre []) (
 ∀ x32 : Bool,
(livesRel [] [.bool x32]) →
 Nd ((x24.length : Int) = 0) (
 Nd (appliesRel [.int x0, .int x1, .int x2, .int x3, .int x4, .int x5, .int x6, .int x7, .int x8, .int x9, .int x10, .int x11, .int x12, .int x13, .int x14, .int x15, .int x16, .int x17, .int x18, .int x19, .int x20, .int x21] [.bool x32]) (
 True)))) ∧ (¬ ((x24.length : Int) = 0) →
 Nd (¬ ((x24.length : Int) = 0)) (
 Nd (appliesRel [.int x0, .int x1, .int x2, .int x3, .int x4, .int x5, .int x6, .int x7, .int x8, .int x9, .int x10, .int x11, .int x12, .int x13, .int x14, .int x15, .int x16, .int x17, .int x18, .int x19, .int x20, .int x21] [.bool false]) (
 True)))))))))))))))) ∧ (¬ (x25 = x29) →
 Nd (¬ (x25 = x29)) (
 Nd (¬ (x25 = x29)) (
 Nd (¬ (x25 = x29)) (
 Nd (¬ (x25 = x29)) (
 Nd (¬ (x25 = x29)) (
 Nd (appliesRel [.int x0, .int x1, .int x2, .int x3, .int x4, .int x5, .int x6, .int x7, .int x8, .int x9, .int x10, .int x11, .int x12, .int x13, .int x14, .int x15, .int x16, .int x17, .int x18, .int x19, .int x20, .int x21] [.bool false]) (
 True))))))))))))))))
theorem vcApplies_eq : (cvc Go.Proofs.Try.prog U0 cApplies (sxF Go.Proofs.Try.prog U0 annsL (conOf Go.Proofs.Try.prog U0 (stageL 0)) 400 4)).vc U0 (fun _ => True) = vcApplies := by kernel_rfl
end Go.C13
