/- The conditions of contracts, as the engine's printer has written them, and that the kernel comes to the same.
  Conditions: none. -/
import Derived.Test.YtkeoanklmnadiaaA21
import Derived.Test.YtkeoanklmnadiaaRows
import Derived.KernelRfl
set_option linter.unusedVariables false
set_option maxRecDepth 100000
namespace Go.C13
open Go Go.Xe Go.Sx
/-- What the contract of 'diffs' asks for. -/
def vcDiffs : Prop :=
 ∀ x0 : Int,
 ∀ x1 : Int,
 ∀ x2 : Int,
 ∀ x3 : Int,
 ∀ x4 : Int,
 ∀ x5 : Int,
 ∀ x6 : Int,
 ∀ x7 : Int,
 ∀ x8 : Int,
 ∀ x9 : Int,
 ∀ x10 : Int,
 ∀ x11 : Int,
 ∀ x12 : Int,
 ∀ x13 : Int,
 ∀ x14 : Int,
 ∀ x15 : Int,
 ∀ x16 : Int,
 ∀ x17 : Int,
(diffsPre [.int x0, .int x1, .int x2, .int x3, .int x4, .int x5, .int x6, .int x7, .int x8, .int x9, .int x10, .int x11, .int x12, .int x13, .int x14, .int x15, .int x16, .int x17]) →
 Nd (oflPre [.int x0, .int x1, .int x2, .int x3, .int x4, .int x5, .int x6, .int x7, .int x8]) (
 ∀ x18 : Sx.Rows,
(oflRel [.int x0, .int x1, .int x2, .int x3, .int x4, .int x5, .int x6, .int x7, .int x8] [.lst x18]) →
 Nd (oflPre [.int x9, .int x10, .int x11, .int x12, .int x13, .int x14, .int x15, .int x16, .int x17]) (
 ∀ x19 : Sx.Rows,
(oflRel [.int x9, .int x10, .int x11, .int x12, .int x13, .int x14, .int x15, .int x16, .int x17] [.lst x19]) →
 Nd (diffPre [.lst x18, .lst x19]) (
 ∀ x20 : Sx.Rows,
 ∀ x21 : Int,
(diffRel [.lst x18, .lst x19] [.lst x20, .int x21]) →
 Nd (appPre [.lst x18, .lst x20]) (
 ∀ x22 : Sx.Rows,
 ∀ x23 : Int,
(appRel [.lst x18, .lst x20] [.lst x22, .int x23]) →
(((x21 = 0) →
 Nd (x21 = 0) (
 Nd (x21 = 0) (
(((x23 = 0) →
 Nd (x23 = 0) (
 Nd (x23 = 0) (
 Nd (samePre [.lst x22, .lst x19]) (
 ∀ x24 : Int,
(sameRel [.lst x22, .lst x19] [.int x24]) →
 Nd (x23 = 0) (
 Nd (x23 = 0) (
(((x24 = 0) →
 Nd (x24 = 0) (
 Nd (x24 = 0) (
 Nd (x24 = 0) (
 Nd (x24 = 0) (
 Nd (x24 = 0) (
 Nd (diffsRel [.int x0, .int x1, .int x2, .int x3, .int x4, .int x5, .int x6, .int x7, .int x8, .int x9, .int x10, .int x11, .int x12, .int x13, .int x14, .int x15, .int x16, .int x17] [.bool false]) (
 True))))))) ∧ (¬ (x24 = 0) →
 Nd (¬ (x24 = 0)) (
 Nd (¬ (x24 = 0)) (
 Nd (¬ (x24 = 0)) (
 Nd (¬ (x24 = 0)) (
 Nd (¬ (x24 = 0)) (
((((x20.length : Int) = (x20.length : Int)) →
 Nd ((x20.length : Int) = (x20.length : Int)) (
 Nd ((x20.length : Int) = (x20.length : Int)) (
 Nd ((x20.length : Int) = (x20.length : Int)) (
 Nd ((x20.length : Int) = (x20.length : Int)) (
 Nd ((x20.length : Int) = (x20.length : Int)) (
((((x22.length : Int) = (x22.length : Int)) →
 Nd ((x22.length : Int) = (x22.length : Int)) (
 Nd (ceditsPre [.lst x20]) (
 ∀ x25 : Int,
(ceditsRel [.lst x20] [.int x25]) →
 Nd ((x22.length : Int) = (x22.length : Int)) (
 Nd ((x22.length : Int) = (x22.length : Int)) (
(((x25 = 0) →
 Nd (x25 = 0) (
 Nd (x25 = 0) (
 Nd (x25 = 0) (
 Nd (x25 = 0) (
 Nd (x25 = 0) (
 Nd (samePre [.lst x18, .lst x19]) (
 ∀ x26 : Int,
(sameRel [.lst x18, .lst x19] [.int x26]) →
 Nd (x25 = 0) (
 Nd (x25 = 0) (
 Nd (x25 = 0) (
(((((decide ((x20.length : Int) = 0)) == (decide (x26 = 1))) = true) →
 Nd (((decide ((x20.length : Int) = 0)) == (decide (x26 = 1))) = true) (
 Nd (((decide ((x20.length : Int) = 0)) == (decide (x26 = 1))) = true) (
 Nd (((decide ((x20.length : Int) = 0)) == (decide (x26 = 1))) = true) (
(((16 < (x20.length : Int)) →
 Nd (diffsRel [.int x0, .int x1, .int x2, .int x3, .int x4, .int x5, .int x6, .int x7, .int x8, .int x9, .int x10, .int x11, .int x12, .int x13, .int x14, .int x15, .int x16, .int x17] [.bool false]) (
 True)) ∧ (¬ (16 < (x20.length : Int)) →
 Nd (dropInv [.lst x18, .lst x19, .lst x20] [.int 0]) (
 ∀ x27 : Int,
(dropInv [.lst x18, .lst x19, .lst x20] [.int x27]) →
(((x27 < (x20.length : Int)) →
 Nd (¬ (x27 < 0)) (
 Nd (¬ ((x20.length : Int) < x27)) (
 Nd (((Sx.part x20 0 x27).length : Int) < 67108865) (
 Nd ((¬ ((x27 + 1) < (-9223372036854775808))) ∧ ((x27 + 1) < 9223372036854775808)) (
 Nd (¬ ((x27 + 1) < 0)) (
 Nd (¬ ((x20.length : Int) < (x27 + 1))) (
 Nd (¬ ((x20.length : Int) < (x20.length : Int))) (
 Nd (¬ (((Sx.part x20 0 x27).length : Int) < ((Sx.part x20 0 x27).length : Int))) (
 Nd ((((Sx.part x20 0 x27).length : Int) + ((Sx.part x20 (x27 + 1) ((x20.length : Int) - (x27 + 1))).length : Int)) < 67108865) (
 Nd (((Sx.part x20 0 x27).length : Int) = ((Sx.part x20 0 x27).length : Int)) (
 Nd (¬ ((((Sx.part x20 0 x27).length : Int) + ((Sx.part x20 (x27 + 1) ((x20.length : Int) - (x27 + 1))).length : Int)) < (((Sx.part x20 0 x27).length : Int) + ((Sx.part x20 (x27 + 1) ((x20.length : Int) - (x27 + 1))).length : Int)))) (
 Nd ((((Sx.part x20 0 x27).length : Int) + ((Sx.part x20 (x27 + 1) ((x20.length : Int) - (x27 + 1))).length : Int)) = (((Sx.part x20 0 x27).length : Int) + ((Sx.part x20 (x27 + 1) ((x20.length : Int) - (x27 + 1))).length : Int))) (
 Nd (plainPre [.lst ((Sx.part x20 0 x27) ++ (Sx.part x20 (x27 + 1) ((x20.length : Int) - (x27 + 1))))]) (
 ∀ x28 : Sx.Rows,
(plainRel [.lst ((Sx.part x20 0 x27) ++ (Sx.part x20 (x27 + 1) ((x20.length : Int) - (x27 + 1))))] [.lst x28]) →
 Nd (¬ ((x28.length : Int) < (x28.length : Int))) (
 Nd ((x28.length : Int) = (x28.length : Int)) (
 Nd (rappPre [.lst x18, .lst x28]) (
 ∀ x29 : Sx.Rows,
 ∀ x30 : Int,
(rappRel [.lst x18, .lst x28] [.lst x29, .int x30]) →
(((x30 = 0) →
 Nd (x30 = 0) (
 Nd (x30 = 0) (
 Nd (samePre [.lst x29, .lst x19]) (
 ∀ x31 : Int,
(sameRel [.lst x29, .lst x19] [.int x31]) →
 Nd (x30 = 0) (
 Nd (x30 = 0) (
(((x31 = 1) →
 Nd (diffsRel [.int x0, .int x1, .int x2, .int x3, .int x4, .int x5, .int x6, .int x7, .int x8, .int x9, .int x10, .int x11, .int x12, .int x13, .int x14, .int x15, .int x16, .int x17] [.bool false]) (
 True)) ∧ (¬ (x31 = 1) →
 Nd ((¬ ((x27 + 1) < (-9223372036854775808))) ∧ ((x27 + 1) < 9223372036854775808)) (
 Nd (dropInv [.lst x18, .lst x19, .lst x20] [.int (x27 + 1)]) (
 Nd (dropMu [.lst x18, .lst x19, .lst x20] [.int (x27 + 1)] < dropMu [.lst x18, .lst x19, .lst x20] [.int x27]) (
 True))))))))))) ∧ (¬ (x30 = 0) →
 Nd (¬ (x30 = 0)) (
 Nd (¬ (x30 = 0)) (
 Nd (¬ (x30 = 0)) (
 Nd (¬ (x30 = 0)) (
 Nd ((¬ ((x27 + 1) < (-9223372036854775808))) ∧ ((x27 + 1) < 9223372036854775808)) (
 Nd (dropInv [.lst x18, .lst x19, .lst x20] [.int (x27 + 1)]) (
 Nd (dropMu [.lst x18, .lst x19, .lst x20] [.int (x27 + 1)] < dropMu [.lst x18, .lst x19, .lst x20] [.int x27]) (
 True)))))))))))))))))))))))))) ∧ (¬ (x27 < (x20.length : Int)) →
 Nd (livesPre []) (
 ∀ x28 : Bool,
(livesRel [] [.bool x28]) →
 Nd (diffsRel [.int x0, .int x1, .int x2, .int x3, .int x4, .int x5, .int x6, .int x7, .int x8, .int x9, .int x10, .int x11, .int x12, .int x13, .int x14, .int x15, .int x16, .int x17] [.bool x28]) (
 True))))))))))) ∧ (¬ (((decide ((x20.length : Int) = 0)) == (decide (x26 = 1))) = true) →
 Nd (¬ (((decide ((x20.length : Int) = 0)) == (decide (x26 = 1))) = true)) (
 Nd (¬ (((decide ((x20.length : Int) = 0)) == (decide (x26 = 1))) = true)) (
 Nd (¬ (((decide ((x20.length : Int) = 0)) == (decide (x26 = 1))) = true)) (
 Nd (diffsRel [.int x0, .int x1, .int x2, .int x3, .int x4, .int x5, .int x6, .int x7, .int x8, .int x9, .int x10, .int x11, .int x12, .int x13, .int x14, .int x15, .int x16, .int x17] [.bool false]) (
 True)))))))))))))))) ∧ (¬ (x25 = 0) →
 Nd (¬ (x25 = 0)) (
 Nd (¬ (x25 = 0)) (
 Nd (¬ (x25 = 0)) (
 Nd (¬ (x25 = 0)) (
 Nd (¬ (x25 = 0)) (
 Nd (¬ (x25 = 0)) (
 Nd (¬ (x25 = 0)) (
 Nd (¬ (x25 = 0)) (
 Nd (diffsRel [.int x0, .int x1, .int x2, .int x3, .int x4, .int x5, .int x6, .int x7, .int x8, .int x9, .int x10, .int x11, .int x12, .int x13, .int x14, .int x15, .int x16, .int x17] [.bool false]) (
 True)))))))))))))))) ∧ (¬ ((x22.length : Int) = (x22.length : Int)) →
 Nd (¬ ((x22.length : Int) = (x22.length : Int))) (
 Nd (¬ ((x22.length : Int) = (x22.length : Int))) (
 Nd (¬ ((x22.length : Int) = (x22.length : Int))) (
 Nd (diffsRel [.int x0, .int x1, .int x2, .int x3, .int x4, .int x5, .int x6, .int x7, .int x8, .int x9, .int x10, .int x11, .int x12, .int x13, .int x14, .int x15, .int x16, .int x17] [.bool false]) (
 True)))))))))))) ∧ (¬ ((x20.length : Int) = (x20.length : Int)) →
 Nd (¬ ((x20.length : Int) = (x20.length : Int))) (
 Nd (¬ ((x20.length : Int) = (x20.length : Int))) (
 Nd (¬ ((x20.length : Int) = (x20.length : Int))) (
 Nd (¬ ((x20.length : Int) = (x20.length : Int))) (
 Nd (¬ ((x20.length : Int) = (x20.length : Int))) (
 Nd (diffsRel [.int x0, .int x1, .int x2, .int x3, .int x4, .int x5, .int x6, .int x7, .int x8, .int x9, .int x10, .int x11, .int x12, .int x13, .int x14, .int x15, .int x16, .int x17] [.bool false]) (
 True))))))))))))))))))))) ∧ (¬ (x23 = 0) →
 Nd (¬ (x23 = 0)) (
 Nd (¬ (x23 = 0)) (
 Nd (¬ (x23 = 0)) (
 Nd (¬ (x23 = 0)) (
 Nd (diffsRel [.int x0, .int x1, .int x2, .int x3, .int x4, .int x5, .int x6, .int x7, .int x8, .int x9, .int x10, .int x11, .int x12, .int x13, .int x14, .int x15, .int x16, .int x17] [.bool false]) (
 True)))))))))) ∧ (¬ (x21 = 0) →
 Nd (¬ (x21 = 0)) (
 Nd (¬ (x21 = 0)) (
 Nd (diffsRel [.int x0, .int x1, .int x2, .int x3, .int x4, .int x5, .int x6, .int x7, .int x8, .int x9, .int x10, .int x11, .int x12, .int x13, .int x14, .int x15, .int x16, .int x17] [.bool false]) (
 True)))))))))
theorem vcDiffs_eq : (cvc Go.Proofs.Try.prog U0 cDiffs (sxF Go.Proofs.Try.prog U0 annsD (conOf Go.Proofs.Try.prog U0 (stageD 0)) 400 3)).vc U0 (fun _ => True) = vcDiffs := by kernel_rfl
def vcComps0 (x0 : Int) (x1 : Int) (x2 : Int) (x3 : Int) (x4 : Int) (x5 : Int) (x6 : Int) (x7 : Int) (x8 : Int) (x9 : Int) (x10 : Int) (x11 : Int) (x12 : Int) (x13 : Int) (x14 : Int) (x15 : Int) (x16 : Int) (x17 : Int) (x18 : Int) (x19 : Int) (x20 : Int) (x21 : Int) (x22 : Int) (x23 : Int) (x24 : Int) (x25 : Int) (x26 : Int) (x27 : Int) (x28 : Int) (x29 : Int) (x30 : Int) (x31 : Int) (x32 : Int) (x33 : Int) (x34 : Int) : Prop :=
 Nd (compsRel [.int x0, .int x1, .int x2, .int x3, .int x4, .int x5, .int x6, .int x7, .int x8, .int x9, .int x10, .int x11, .int x12, .int x13, .int x14, .int x15, .int x16, .int x17, .int x18, .int x19, .int x20, .int x21, .int x22, .int x23, .int x24, .int x25, .int x26, .int x27, .int x28, .int x29, .int x30, .int x31, .int x32, .int x33, .int x34] [.bool false]) (
 True)
def vcComps1 (x0 : Int) (x1 : Int) (x2 : Int) (x3 : Int) (x4 : Int) (x5 : Int) (x6 : Int) (x7 : Int) (x8 : Int) (x9 : Int) (x10 : Int) (x11 : Int) (x12 : Int) (x13 : Int) (x14 : Int) (x15 : Int) (x16 : Int) (x17 : Int) (x18 : Int) (x19 : Int) (x20 : Int) (x21 : Int) (x22 : Int) (x23 : Int) (x24 : Int) (x25 : Int) (x26 : Int) (x27 : Int) (x28 : Int) (x29 : Int) (x30 : Int) (x31 : Int) (x32 : Int) (x33 : Int) (x34 : Int) : Prop :=
 ∀ x49 : Bool,
(livesRel [] [.bool x49]) →
 Nd (compsRel [.int x0, .int x1, .int x2, .int x3, .int x4, .int x5, .int x6, .int x7, .int x8, .int x9, .int x10, .int x11, .int x12, .int x13, .int x14, .int x15, .int x16, .int x17, .int x18, .int x19, .int x20, .int x21, .int x22, .int x23, .int x24, .int x25, .int x26, .int x27, .int x28, .int x29, .int x30, .int x31, .int x32, .int x33, .int x34] [.bool x49]) (
 True)
/-- What the contract of 'comps' asks for. -/
def vcComps : Prop :=
 ∀ x0 : Int,
 ∀ x1 : Int,
 ∀ x2 : Int,
 ∀ x3 : Int,
 ∀ x4 : Int,
 ∀ x5 : Int,
 ∀ x6 : Int,
 ∀ x7 : Int,
 ∀ x8 : Int,
 ∀ x9 : Int,
 ∀ x10 : Int,
 ∀ x11 : Int,
 ∀ x12 : Int,
 ∀ x13 : Int,
 ∀ x14 : Int,
 ∀ x15 : Int,
 ∀ x16 : Int,
 ∀ x17 : Int,
 ∀ x18 : Int,
 ∀ x19 : Int,
 ∀ x20 : Int,
 ∀ x21 : Int,
 ∀ x22 : Int,
 ∀ x23 : Int,
 ∀ x24 : Int,
 ∀ x25 : Int,
 ∀ x26 : Int,
 ∀ x27 : Int,
 ∀ x28 : Int,
 ∀ x29 : Int,
 ∀ x30 : Int,
 ∀ x31 : Int,
 ∀ x32 : Int,
 ∀ x33 : Int,
 ∀ x34 : Int,
(compsPre [.int x0, .int x1, .int x2, .int x3, .int x4, .int x5, .int x6, .int x7, .int x8, .int x9, .int x10, .int x11, .int x12, .int x13, .int x14, .int x15, .int x16, .int x17, .int x18, .int x19, .int x20, .int x21, .int x22, .int x23, .int x24, .int x25, .int x26, .int x27, .int x28, .int x29, .int x30, .int x31, .int x32, .int x33, .int x34]) →
 Nd (ofwPre [.int x9, .int x10, .int x11, .int x12, .int x13, .int x14, .int x15, .int x16, .int x17, .int x18, .int x19, .int x20, .int x21]) (
 ∀ x35 : Sx.Rows,
(ofwRel [.int x9, .int x10, .int x11, .int x12, .int x13, .int x14, .int x15, .int x16, .int x17, .int x18, .int x19, .int x20, .int x21] [.lst x35]) →
 Nd (ofwPre [.int x22, .int x23, .int x24, .int x25, .int x26, .int x27, .int x28, .int x29, .int x30, .int x31, .int x32, .int x33, .int x34]) (
 ∀ x36 : Sx.Rows,
(ofwRel [.int x22, .int x23, .int x24, .int x25, .int x26, .int x27, .int x28, .int x29, .int x30, .int x31, .int x32, .int x33, .int x34] [.lst x36]) →
 Nd (compPre [.lst x35, .lst x36]) (
 ∀ x37 : Sx.Rows,
 ∀ x38 : Int,
(compRel [.lst x35, .lst x36] [.lst x37, .int x38]) →
(((x38 = 0) →
 Nd (x38 = 0) (
 Nd (x38 = 0) (
 Nd (x38 = 0) (
 Nd (x38 = 0) (
 Nd (x38 = 0) (
((((x37.length : Int) = (x37.length : Int)) →
 Nd ((x37.length : Int) = (x37.length : Int)) (
 Nd (plainPre [.lst x37]) (
 ∀ x39 : Sx.Rows,
(plainRel [.lst x37] [.lst x39]) →
 Nd ((x37.length : Int) = (x37.length : Int)) (
 Nd (¬ ((x39.length : Int) < (x39.length : Int))) (
 Nd ((x39.length : Int) = (x39.length : Int)) (
 Nd (rceditsPre [.lst x39]) (
 ∀ x40 : Int,
(rceditsRel [.lst x39] [.int x40]) →
 Nd ((x37.length : Int) = (x37.length : Int)) (
 Nd ((x37.length : Int) = (x37.length : Int)) (
(((x40 = 0) →
 Nd (namesInv [.lst x35, .lst x36, .lst x37] [.int 0]) (
 ∀ x41 : Int,
(namesInv [.lst x35, .lst x36, .lst x37] [.int x41]) →
(((x41 < 12) →
 Nd (plainPre [.lst x35]) (
 ∀ x42 : Sx.Rows,
(plainRel [.lst x35] [.lst x42]) →
 Nd (plainPre [.lst x36]) (
 ∀ x43 : Sx.Rows,
(plainRel [.lst x36] [.lst x43]) →
 Nd (¬ ((x43.length : Int) < (x43.length : Int))) (
 Nd ((x43.length : Int) = (x43.length : Int)) (
 Nd (¬ ((x42.length : Int) < (x42.length : Int))) (
 Nd (((x42.length : Int) + (x43.length : Int)) < 67108865) (
 Nd ((x42.length : Int) = (x42.length : Int)) (
 Nd (lastInv [.lst (x42 ++ x43), .int x41] [.int 0, .str ([] : List UInt8), .bool false, .str ([] : List UInt8)]) (
 ∀ x44 : Int,
 ∀ x45 : List UInt8,
 ∀ x46 : Bool,
 ∀ x47 : List UInt8,
(lastInv [.lst (x42 ++ x43), .int x41] [.int x44, .str x45, .bool x46, .str x47]) →
(((x44 < ((x42.length : Int) + (x43.length : Int))) →
 Nd (¬ (x44 < 0)) (
 Nd (x44 < ((x42.length : Int) + (x43.length : Int))) (
 Nd (x44 < ((x42.length : Int) + (x43.length : Int))) (
 Nd (nmPre [.int x41]) (
 ∀ x48 : List UInt8,
(nmRel [.int x41] [.str x48]) →
((((Sx.cellAt (x42 ++ x43) x44 0).toStr = x48) →
 Nd (¬ (x44 < 0)) (
 Nd (x44 < ((x42.length : Int) + (x43.length : Int))) (
 Nd (x44 < ((x42.length : Int) + (x43.length : Int))) (
 Nd ((¬ ((x44 + 1) < (-9223372036854775808))) ∧ ((x44 + 1) < 9223372036854775808)) (
 Nd (lastInv [.lst (x42 ++ x43), .int x41] [.int (x44 + 1), .str (Sx.cellAt (x42 ++ x43) x44 0).toStr, .bool (Sx.cellAt (x42 ++ x43) x44 1).toBool, .str (Sx.cellAt (x42 ++ x43) x44 2).toStr]) (
 Nd (lastMu [.lst (x42 ++ x43), .int x41] [.int (x44 + 1), .str (Sx.cellAt (x42 ++ x43) x44 0).toStr, .bool (Sx.cellAt (x42 ++ x43) x44 1).toBool, .str (Sx.cellAt (x42 ++ x43) x44 2).toStr] < lastMu [.lst (x42 ++ x43), .int x41] [.int x44, .str x45, .bool x46, .str x47]) (
 True))))))) ∧ (¬ ((Sx.cellAt (x42 ++ x43) x44 0).toStr = x48) →
 Nd ((¬ ((x44 + 1) < (-9223372036854775808))) ∧ ((x44 + 1) < 9223372036854775808)) (
 Nd (lastInv [.lst (x42 ++ x43), .int x41] [.int (x44 + 1), .str x45, .bool x46, .str x47]) (
 Nd (lastMu [.lst (x42 ++ x43), .int x41] [.int (x44 + 1), .str x45, .bool x46, .str x47] < lastMu [.lst (x42 ++ x43), .int x41] [.int x44, .str x45, .bool x46, .str x47]) (
 True)))))))))) ∧ (¬ (x44 < ((x42.length : Int) + (x43.length : Int))) →
 Nd (plainPre [.lst x37]) (
 ∀ x48 : Sx.Rows,
(plainRel [.lst x37] [.lst x48]) →
 Nd (lastInv [.lst x48, .int x41] [.int 0, .str ([] : List UInt8), .bool false, .str ([] : List UInt8)]) (
 ∀ x49 : Int,
 ∀ x50 : List UInt8,
 ∀ x51 : Bool,
 ∀ x52 : List UInt8,
(lastInv [.lst x48, .int x41] [.int x49, .str x50, .bool x51, .str x52]) →
(((x49 < (x48.length : Int)) →
 Nd (¬ (x49 < 0)) (
 Nd (x49 < (x48.length : Int)) (
 Nd (x49 < (x48.length : Int)) (
 Nd (nmPre [.int x41]) (
 ∀ x53 : List UInt8,
(nmRel [.int x41] [.str x53]) →
((((Sx.cellAt x48 x49 0).toStr = x53) →
 Nd (¬ (x49 < 0)) (
 Nd (x49 < (x48.length : Int)) (
 Nd (x49 < (x48.length : Int)) (
 Nd ((¬ ((x49 + 1) < (-9223372036854775808))) ∧ ((x49 + 1) < 9223372036854775808)) (
 Nd (lastInv [.lst x48, .int x41] [.int (x49 + 1), .str (Sx.cellAt x48 x49 0).toStr, .bool (Sx.cellAt x48 x49 1).toBool, .str (Sx.cellAt x48 x49 2).toStr]) (
 Nd (lastMu [.lst x48, .int x41] [.int (x49 + 1), .str (Sx.cellAt x48 x49 0).toStr, .bool (Sx.cellAt x48 x49 1).toBool, .str (Sx.cellAt x48 x49 2).toStr] < lastMu [.lst x48, .int x41] [.int x49, .str x50, .bool x51, .str x52]) (
 True))))))) ∧ (¬ ((Sx.cellAt x48 x49 0).toStr = x53) →
 Nd ((¬ ((x49 + 1) < (-9223372036854775808))) ∧ ((x49 + 1) < 9223372036854775808)) (
 Nd (lastInv [.lst x48, .int x41] [.int (x49 + 1), .str x50, .bool x51, .str x52]) (
 Nd (lastMu [.lst x48, .int x41] [.int (x49 + 1), .str x50, .bool x51, .str x52] < lastMu [.lst x48, .int x41] [.int x49, .str x50, .bool x51, .str x52]) (
 True)))))))))) ∧ (¬ (x49 < (x48.length : Int)) →
(((x50 = x45) →
((((x51 == x46) = true) →
(((x52 = x47) →
 Nd ((¬ ((x41 + 1) < (-9223372036854775808))) ∧ ((x41 + 1) < 9223372036854775808)) (
 Nd (namesInv [.lst x35, .lst x36, .lst x37] [.int (x41 + 1)]) (
 Nd (namesMu [.lst x35, .lst x36, .lst x37] [.int (x41 + 1)] < namesMu [.lst x35, .lst x36, .lst x37] [.int x41]) (
 True)))) ∧ (¬ (x52 = x47) →
(vcComps0 x0 x1 x2 x3 x4 x5 x6 x7 x8 x9 x10 x11 x12 x13 x14 x15 x16 x17 x18 x19 x20 x21 x22 x23 x24 x25 x26 x27 x28 x29 x30 x31 x32 x33 x34)))) ∧ (¬ ((x51 == x46) = true) →
(vcComps0 x0 x1 x2 x3 x4 x5 x6 x7 x8 x9 x10 x11 x12 x13 x14 x15 x16 x17 x18 x19 x20 x21 x22 x23 x24 x25 x26 x27 x28 x29 x30 x31 x32 x33 x34)))) ∧ (¬ (x50 = x45) →
(vcComps0 x0 x1 x2 x3 x4 x5 x6 x7 x8 x9 x10 x11 x12 x13 x14 x15 x16 x17 x18 x19 x20 x21 x22 x23 x24 x25 x26 x27 x28 x29 x30 x31 x32 x33 x34)))))))))))))))))) ∧ (¬ (x41 < 12) →
 Nd (oflPre [.int x0, .int x1, .int x2, .int x3, .int x4, .int x5, .int x6, .int x7, .int x8]) (
 ∀ x42 : Sx.Rows,
(oflRel [.int x0, .int x1, .int x2, .int x3, .int x4, .int x5, .int x6, .int x7, .int x8] [.lst x42]) →
 Nd (plainPre [.lst x35]) (
 ∀ x43 : Sx.Rows,
(plainRel [.lst x35] [.lst x43]) →
 Nd (¬ ((x43.length : Int) < (x43.length : Int))) (
 Nd ((x43.length : Int) = (x43.length : Int)) (
 Nd (rappPre [.lst x42, .lst x43]) (
 ∀ x44 : Sx.Rows,
 ∀ x45 : Int,
(rappRel [.lst x42, .lst x43] [.lst x44, .int x45]) →
 Nd (plainPre [.lst x36]) (
 ∀ x46 : Sx.Rows,
(plainRel [.lst x36] [.lst x46]) →
 Nd (¬ ((x46.length : Int) < (x46.length : Int))) (
 Nd ((x46.length : Int) = (x46.length : Int)) (
 Nd (rappPre [.lst x44, .lst x46]) (
 ∀ x47 : Sx.Rows,
 ∀ x48 : Int,
(rappRel [.lst x44, .lst x46] [.lst x47, .int x48]) →
(((x45 = 0) →
 Nd (x45 = 0) (
 Nd (x45 = 0) (
(((x48 = 0) →
 Nd (appPre [.lst x42, .lst x37]) (
 ∀ x49 : Sx.Rows,
 ∀ x50 : Int,
(appRel [.lst x42, .lst x37] [.lst x49, .int x50]) →
(((x50 = 0) →
 Nd (samePre [.lst x49, .lst x47]) (
 ∀ x51 : Int,
(sameRel [.lst x49, .lst x47] [.int x51]) →
(((x51 = 1) →
 Nd (livesPre []) (
 ∀ x52 : Bool,
(livesRel [] [.bool x52]) →
 Nd (x51 = 1) (
 Nd (compsRel [.int x0, .int x1, .int x2, .int x3, .int x4, .int x5, .int x6, .int x7, .int x8, .int x9, .int x10, .int x11, .int x12, .int x13, .int x14, .int x15, .int x16, .int x17, .int x18, .int x19, .int x20, .int x21, .int x22, .int x23, .int x24, .int x25, .int x26, .int x27, .int x28, .int x29, .int x30, .int x31, .int x32, .int x33, .int x34] [.bool x52]) (
 True)))) ∧ (¬ (x51 = 1) →
 Nd (¬ (x51 = 1)) (
 Nd (compsRel [.int x0, .int x1, .int x2, .int x3, .int x4, .int x5, .int x6, .int x7, .int x8, .int x9, .int x10, .int x11, .int x12, .int x13, .int x14, .int x15, .int x16, .int x17, .int x18, .int x19, .int x20, .int x21, .int x22, .int x23, .int x24, .int x25, .int x26, .int x27, .int x28, .int x29, .int x30, .int x31, .int x32, .int x33, .int x34] [.bool false]) (
 True)))))) ∧ (¬ (x50 = 0) →
(((x50 = 11) →
 Nd (livesPre []) (
 ∀ x51 : Bool,
(livesRel [] [.bool x51]) →
 Nd (x50 = 11) (
 Nd (compsRel [.int x0, .int x1, .int x2, .int x3, .int x4, .int x5, .int x6, .int x7, .int x8, .int x9, .int x10, .int x11, .int x12, .int x13, .int x14, .int x15, .int x16, .int x17, .int x18, .int x19, .int x20, .int x21, .int x22, .int x23, .int x24, .int x25, .int x26, .int x27, .int x28, .int x29, .int x30, .int x31, .int x32, .int x33, .int x34] [.bool x51]) (
 True)))) ∧ (¬ (x50 = 11) →
 Nd (¬ (x50 = 11)) (
 Nd (compsRel [.int x0, .int x1, .int x2, .int x3, .int x4, .int x5, .int x6, .int x7, .int x8, .int x9, .int x10, .int x11, .int x12, .int x13, .int x14, .int x15, .int x16, .int x17, .int x18, .int x19, .int x20, .int x21, .int x22, .int x23, .int x24, .int x25, .int x26, .int x27, .int x28, .int x29, .int x30, .int x31, .int x32, .int x33, .int x34] [.bool false]) (
 True)))))))) ∧ (¬ (x48 = 0) →
 Nd (livesPre []) (
(vcComps1 x0 x1 x2 x3 x4 x5 x6 x7 x8 x9 x10 x11 x12 x13 x14 x15 x16 x17 x18 x19 x20 x21 x22 x23 x24 x25 x26 x27 x28 x29 x30 x31 x32 x33 x34))))))) ∧ (¬ (x45 = 0) →
 Nd (¬ (x45 = 0)) (
 Nd (¬ (x45 = 0)) (
 Nd (livesPre []) (
(vcComps1 x0 x1 x2 x3 x4 x5 x6 x7 x8 x9 x10 x11 x12 x13 x14 x15 x16 x17 x18 x19 x20 x21 x22 x23 x24 x25 x26 x27 x28 x29 x30 x31 x32 x33 x34))))))))))))))))))) ∧ (¬ (x40 = 0) →
(vcComps0 x0 x1 x2 x3 x4 x5 x6 x7 x8 x9 x10 x11 x12 x13 x14 x15 x16 x17 x18 x19 x20 x21 x22 x23 x24 x25 x26 x27 x28 x29 x30 x31 x32 x33 x34)))))))))))) ∧ (¬ ((x37.length : Int) = (x37.length : Int)) →
 Nd (¬ ((x37.length : Int) = (x37.length : Int))) (
 Nd (¬ ((x37.length : Int) = (x37.length : Int))) (
 Nd (¬ ((x37.length : Int) = (x37.length : Int))) (
 Nd (¬ ((x37.length : Int) = (x37.length : Int))) (
 Nd (compsRel [.int x0, .int x1, .int x2, .int x3, .int x4, .int x5, .int x6, .int x7, .int x8, .int x9, .int x10, .int x11, .int x12, .int x13, .int x14, .int x15, .int x16, .int x17, .int x18, .int x19, .int x20, .int x21, .int x22, .int x23, .int x24, .int x25, .int x26, .int x27, .int x28, .int x29, .int x30, .int x31, .int x32, .int x33, .int x34] [.bool false]) (
 True))))))))))))) ∧ (¬ (x38 = 0) →
 Nd (¬ (x38 = 0)) (
 Nd (¬ (x38 = 0)) (
 Nd (¬ (x38 = 0)) (
 Nd (¬ (x38 = 0)) (
 Nd (¬ (x38 = 0)) (
 Nd (compsRel [.int x0, .int x1, .int x2, .int x3, .int x4, .int x5, .int x6, .int x7, .int x8, .int x9, .int x10, .int x11, .int x12, .int x13, .int x14, .int x15, .int x16, .int x17, .int x18, .int x19, .int x20, .int x21, .int x22, .int x23, .int x24, .int x25, .int x26, .int x27, .int x28, .int x29, .int x30, .int x31, .int x32, .int x33, .int x34] [.bool false]) (
 True)))))))))))
theorem vcComps_eq : (cvc Go.Proofs.Try.prog U0 cComps (sxF Go.Proofs.Try.prog U0 annsD (conOf Go.Proofs.Try.prog U0 (stageD 0)) 400 5)).vc U0 (fun _ => True) = vcComps := by kernel_rfl
end Go.C13
