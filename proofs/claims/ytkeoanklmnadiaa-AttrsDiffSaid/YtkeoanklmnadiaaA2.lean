/- The conditions of contracts, as the engine's printer has written them, and that the kernel comes to the same.
  Conditions: none. -/
import Derived.Test.YtkeoanklmnadiaaA1
import Derived.Test.YtkeoanklmnadiaaRows
import Derived.KernelRfl
set_option linter.unusedVariables false
set_option maxRecDepth 100000
namespace Go.C13
open Go Go.Xe Go.Sx
/-- What the contract of 'named' asks for. -/
def vcNamed : Prop :=
 ∀ x0 : List UInt8,
(namedPre [.str x0]) →
((((x0.length : Int) < 1) →
 Nd ((x0.length : Int) < 1) (
 Nd ((x0.length : Int) < 1) (
 Nd ((x0.length : Int) < 1) (
 Nd (namedRel [.str x0] [.bool false]) (
 True))))) ∧ (¬ ((x0.length : Int) < 1) →
 Nd (¬ ((x0.length : Int) < 1)) (
 Nd (¬ ((x0.length : Int) < 1)) (
 Nd (¬ ((x0.length : Int) < 1)) (
(((16 < (x0.length : Int)) →
 Nd (namedRel [.str x0] [.bool false]) (
 True)) ∧ (¬ (16 < (x0.length : Int)) →
 Nd (nmInv [.str x0] [.int 0]) (
 ∀ x1 : Int,
(nmInv [.str x0] [.int x1]) →
(((x1 < (x0.length : Int)) →
 Nd (¬ (x1 < 0)) (
 Nd (x1 < (x0.length : Int)) (
((((Sx.byteAt x0 x1) < 97) →
 Nd ((Sx.byteAt x0 x1) < 97) (
 Nd ((Sx.byteAt x0 x1) < 97) (
((((Sx.byteAt x0 x1) < 48) →
 Nd ((Sx.byteAt x0 x1) < 48) (
 Nd ((Sx.byteAt x0 x1) < 48) (
 Nd (namedRel [.str x0] [.bool false]) (
 True)))) ∧ (¬ ((Sx.byteAt x0 x1) < 48) →
 Nd (¬ ((Sx.byteAt x0 x1) < 48)) (
 Nd (¬ ((Sx.byteAt x0 x1) < 48)) (
(((57 < (Sx.byteAt x0 x1)) →
 Nd (namedRel [.str x0] [.bool false]) (
 True)) ∧ (¬ (57 < (Sx.byteAt x0 x1)) →
 Nd ((¬ ((x1 + 1) < (-9223372036854775808))) ∧ ((x1 + 1) < 9223372036854775808)) (
 Nd (nmInv [.str x0] [.int (x1 + 1)]) (
 Nd (nmMu [.str x0] [.int (x1 + 1)] < nmMu [.str x0] [.int x1]) (
 True)))))))))))) ∧ (¬ ((Sx.byteAt x0 x1) < 97) →
 Nd (¬ ((Sx.byteAt x0 x1) < 97)) (
 Nd (¬ ((Sx.byteAt x0 x1) < 97)) (
(((122 < (Sx.byteAt x0 x1)) →
 Nd (122 < (Sx.byteAt x0 x1)) (
 Nd (122 < (Sx.byteAt x0 x1)) (
((((Sx.byteAt x0 x1) < 48) →
 Nd ((Sx.byteAt x0 x1) < 48) (
 Nd (122 < (Sx.byteAt x0 x1)) (
 Nd ((Sx.byteAt x0 x1) < 48) (
 Nd (122 < (Sx.byteAt x0 x1)) (
 Nd (namedRel [.str x0] [.bool false]) (
 True)))))) ∧ (¬ ((Sx.byteAt x0 x1) < 48) →
 Nd (¬ ((Sx.byteAt x0 x1) < 48)) (
 Nd (122 < (Sx.byteAt x0 x1)) (
 Nd (¬ ((Sx.byteAt x0 x1) < 48)) (
 Nd (122 < (Sx.byteAt x0 x1)) (
(((57 < (Sx.byteAt x0 x1)) →
 Nd (namedRel [.str x0] [.bool false]) (
 True)) ∧ (¬ (57 < (Sx.byteAt x0 x1)) →
 Nd ((¬ ((x1 + 1) < (-9223372036854775808))) ∧ ((x1 + 1) < 9223372036854775808)) (
 Nd (nmInv [.str x0] [.int (x1 + 1)]) (
 Nd (nmMu [.str x0] [.int (x1 + 1)] < nmMu [.str x0] [.int x1]) (
 True)))))))))))))) ∧ (¬ (122 < (Sx.byteAt x0 x1)) →
 Nd (¬ (122 < (Sx.byteAt x0 x1))) (
 Nd (¬ (122 < (Sx.byteAt x0 x1))) (
 Nd (¬ (122 < (Sx.byteAt x0 x1))) (
 Nd (¬ (122 < (Sx.byteAt x0 x1))) (
 Nd ((¬ ((x1 + 1) < (-9223372036854775808))) ∧ ((x1 + 1) < 9223372036854775808)) (
 Nd (nmInv [.str x0] [.int (x1 + 1)]) (
 Nd (nmMu [.str x0] [.int (x1 + 1)] < nmMu [.str x0] [.int x1]) (
 True)))))))))))))))) ∧ (¬ (x1 < (x0.length : Int)) →
 Nd (namedRel [.str x0] [.bool true]) (
 True)))))))))))
theorem vcNamed_eq : (cvc Go.Proofs.Try.prog U0 cNamed (sxF Go.Proofs.Try.prog U0 annsS (conOf Go.Proofs.Try.prog U0 (stageS 0)) 400 54)).vc U0 (fun _ => True) = vcNamed := by kernel_rfl
/-- What the contract of 'text' asks for. -/
def vcText : Prop :=
 ∀ x0 : List UInt8,
(textPre [.str x0]) →
(((64 < (x0.length : Int)) →
 Nd (64 < (x0.length : Int)) (
 Nd (64 < (x0.length : Int)) (
 Nd (64 < (x0.length : Int)) (
 Nd (textRel [.str x0] [.bool false]) (
 True))))) ∧ (¬ (64 < (x0.length : Int)) →
 Nd (¬ (64 < (x0.length : Int))) (
 Nd (x0 = x0) (
 Nd (stInv [.str x0] [.int 0]) (
 ∀ x1 : Int,
(stInv [.str x0] [.int x1]) →
(((x1 < (x0.length : Int)) →
((((Sx.runeAt x0 x1) < 32) →
 Nd ((Sx.runeAt x0 x1) < 32) (
 Nd ((Sx.runeAt x0 x1) < 32) (
 Nd (¬ (64 < (x0.length : Int))) (
 Nd (¬ (64 < (x0.length : Int))) (
 Nd (textRel [.str x0] [.bool (decide (x1 < 0))]) (
 True)))))) ∧ (¬ ((Sx.runeAt x0 x1) < 32) →
 Nd (¬ ((Sx.runeAt x0 x1) < 32)) (
 Nd (¬ ((Sx.runeAt x0 x1) < 32)) (
(((126 < (Sx.runeAt x0 x1)) →
 Nd (¬ (64 < (x0.length : Int))) (
 Nd (¬ (64 < (x0.length : Int))) (
 Nd (textRel [.str x0] [.bool (decide (x1 < 0))]) (
 True)))) ∧ (¬ (126 < (Sx.runeAt x0 x1)) →
 Nd (x0 = x0) (
 Nd (stInv [.str x0] [.int (x1 + (Sx.runeW x0 x1))]) (
 Nd (stMu [.str x0] [.int (x1 + (Sx.runeW x0 x1))] < stMu [.str x0] [.int x1]) (
 True)))))))))) ∧ (¬ (x1 < (x0.length : Int)) →
 Nd (¬ (64 < (x0.length : Int))) (
 Nd (¬ (64 < (x0.length : Int))) (
 Nd (textRel [.str x0] [.bool true]) (
 True))))))))))
theorem vcText_eq : (cvc Go.Proofs.Try.prog U0 cText (sxF Go.Proofs.Try.prog U0 annsS (conOf Go.Proofs.Try.prog U0 (stageS 0)) 400 53)).vc U0 (fun _ => True) = vcText := by kernel_rfl
/-- What the contract of 'rname' asks for. -/
def vcRname : Prop :=
 ∀ x0 : List UInt8,
(rnamePre [.str x0]) →
 Nd (nm17Inv [.str x0] [.int 0]) (
 ∀ x1 : Int,
(nm17Inv [.str x0] [.int x1]) →
(((x1 < (x0.length : Int)) →
 Nd (x1 < (x0.length : Int)) (
 Nd (x1 < (x0.length : Int)) (
(((x1 < 17) →
 Nd (¬ (x1 < 0)) (
 Nd (x1 < (x0.length : Int)) (
((((Sx.byteAt x0 x1) < 97) →
 Nd ((Sx.byteAt x0 x1) < 97) (
 Nd ((Sx.byteAt x0 x1) < 97) (
 Nd ((Sx.byteAt x0 x1) < 97) (
 Nd ((Sx.byteAt x0 x1) < 97) (
 Nd (¬ (x1 < 0)) (
 Nd (x1 < (x0.length : Int)) (
((((Sx.byteAt x0 x1) < 48) →
 Nd ((Sx.byteAt x0 x1) < 48) (
 Nd ((Sx.byteAt x0 x1) < 48) (
 Nd ((Sx.byteAt x0 x1) < 48) (
 Nd ((Sx.byteAt x0 x1) < 48) (
 Nd (rnameRel [.str x0] [.bool false]) (
 True)))))) ∧ (¬ ((Sx.byteAt x0 x1) < 48) →
 Nd (¬ ((Sx.byteAt x0 x1) < 48)) (
 Nd (¬ ((Sx.byteAt x0 x1) < 48)) (
 Nd (¬ (x1 < 0)) (
 Nd (x1 < (x0.length : Int)) (
 Nd (¬ ((Sx.byteAt x0 x1) < 48)) (
 Nd (¬ ((Sx.byteAt x0 x1) < 48)) (
(((57 < (Sx.byteAt x0 x1)) →
 Nd (rnameRel [.str x0] [.bool false]) (
 True)) ∧ (¬ (57 < (Sx.byteAt x0 x1)) →
 Nd ((¬ ((x1 + 1) < (-9223372036854775808))) ∧ ((x1 + 1) < 9223372036854775808)) (
 Nd (nm17Inv [.str x0] [.int (x1 + 1)]) (
 Nd (nm17Mu [.str x0] [.int (x1 + 1)] < nm17Mu [.str x0] [.int x1]) (
 True)))))))))))))))))))) ∧ (¬ ((Sx.byteAt x0 x1) < 97) →
 Nd (¬ ((Sx.byteAt x0 x1) < 97)) (
 Nd (¬ ((Sx.byteAt x0 x1) < 97)) (
 Nd (¬ (x1 < 0)) (
 Nd (x1 < (x0.length : Int)) (
 Nd (¬ ((Sx.byteAt x0 x1) < 97)) (
 Nd (¬ ((Sx.byteAt x0 x1) < 97)) (
(((122 < (Sx.byteAt x0 x1)) →
 Nd (122 < (Sx.byteAt x0 x1)) (
 Nd (122 < (Sx.byteAt x0 x1)) (
 Nd (¬ (x1 < 0)) (
 Nd (x1 < (x0.length : Int)) (
 Nd (122 < (Sx.byteAt x0 x1)) (
 Nd (122 < (Sx.byteAt x0 x1)) (
((((Sx.byteAt x0 x1) < 48) →
 Nd ((Sx.byteAt x0 x1) < 48) (
 Nd ((Sx.byteAt x0 x1) < 48) (
 Nd ((Sx.byteAt x0 x1) < 48) (
 Nd (122 < (Sx.byteAt x0 x1)) (
 Nd ((Sx.byteAt x0 x1) < 48) (
 Nd (122 < (Sx.byteAt x0 x1)) (
 Nd (rnameRel [.str x0] [.bool false]) (
 True)))))))) ∧ (¬ ((Sx.byteAt x0 x1) < 48) →
 Nd (¬ ((Sx.byteAt x0 x1) < 48)) (
 Nd (¬ ((Sx.byteAt x0 x1) < 48)) (
 Nd (¬ (x1 < 0)) (
 Nd (x1 < (x0.length : Int)) (
 Nd (¬ ((Sx.byteAt x0 x1) < 48)) (
 Nd (122 < (Sx.byteAt x0 x1)) (
 Nd (¬ ((Sx.byteAt x0 x1) < 48)) (
 Nd (122 < (Sx.byteAt x0 x1)) (
(((57 < (Sx.byteAt x0 x1)) →
 Nd (rnameRel [.str x0] [.bool false]) (
 True)) ∧ (¬ (57 < (Sx.byteAt x0 x1)) →
 Nd ((¬ ((x1 + 1) < (-9223372036854775808))) ∧ ((x1 + 1) < 9223372036854775808)) (
 Nd (nm17Inv [.str x0] [.int (x1 + 1)]) (
 Nd (nm17Mu [.str x0] [.int (x1 + 1)] < nm17Mu [.str x0] [.int x1]) (
 True)))))))))))))))))))))) ∧ (¬ (122 < (Sx.byteAt x0 x1)) →
 Nd (¬ (122 < (Sx.byteAt x0 x1))) (
 Nd (¬ (122 < (Sx.byteAt x0 x1))) (
 Nd (¬ (122 < (Sx.byteAt x0 x1))) (
 Nd (¬ (122 < (Sx.byteAt x0 x1))) (
 Nd (¬ (122 < (Sx.byteAt x0 x1))) (
 Nd (¬ (122 < (Sx.byteAt x0 x1))) (
 Nd ((¬ ((x1 + 1) < (-9223372036854775808))) ∧ ((x1 + 1) < 9223372036854775808)) (
 Nd (nm17Inv [.str x0] [.int (x1 + 1)]) (
 Nd (nm17Mu [.str x0] [.int (x1 + 1)] < nm17Mu [.str x0] [.int x1]) (
 True)))))))))))))))))))))) ∧ (¬ (x1 < 17) →
((((x0.length : Int) < 1) →
 Nd ((x0.length : Int) < 1) (
 Nd ((x0.length : Int) < 1) (
 Nd ((x0.length : Int) < 1) (
 Nd (rnameRel [.str x0] [.bool false]) (
 True))))) ∧ (¬ ((x0.length : Int) < 1) →
 Nd (¬ ((x0.length : Int) < 1)) (
 Nd (¬ ((x0.length : Int) < 1)) (
 Nd (¬ ((x0.length : Int) < 1)) (
 Nd (rnameRel [.str x0] [.bool (!(decide (16 < (x0.length : Int))))]) (
 True))))))))))) ∧ (¬ (x1 < (x0.length : Int)) →
 Nd (¬ (x1 < (x0.length : Int))) (
 Nd (¬ (x1 < (x0.length : Int))) (
((((x0.length : Int) < 1) →
 Nd ((x0.length : Int) < 1) (
 Nd ((x0.length : Int) < 1) (
 Nd ((x0.length : Int) < 1) (
 Nd (rnameRel [.str x0] [.bool false]) (
 True))))) ∧ (¬ ((x0.length : Int) < 1) →
 Nd (¬ ((x0.length : Int) < 1)) (
 Nd (¬ ((x0.length : Int) < 1)) (
 Nd (¬ ((x0.length : Int) < 1)) (
 Nd (rnameRel [.str x0] [.bool (!(decide (16 < (x0.length : Int))))]) (
 True)))))))))))
theorem vcRname_eq : (cvc Go.Proofs.Try.prog U0 cRname (sxF Go.Proofs.Try.prog U0 annsS (conOf Go.Proofs.Try.prog U0 (stageS 0)) 400 37)).vc U0 (fun _ => True) = vcRname := by kernel_rfl
/-- What the contract of 'rstr' asks for. -/
def vcRstr : Prop :=
 ∀ x0 : List UInt8,
(rstrPre [.str x0]) →
(((64 < (x0.length : Int)) →
 Nd (rstrRel [.str x0] [.bool false]) (
 True)) ∧ (¬ (64 < (x0.length : Int)) →
 Nd (stInv [.str x0] [.int 0]) (
 ∀ x1 : Int,
(stInv [.str x0] [.int x1]) →
(((x1 < (x0.length : Int)) →
 Nd (¬ (x1 < 0)) (
 Nd (x1 < (x0.length : Int)) (
((((Sx.byteAt x0 x1) < 32) →
 Nd ((Sx.byteAt x0 x1) < 32) (
 Nd ((Sx.byteAt x0 x1) < 32) (
 Nd ((Sx.byteAt x0 x1) < 32) (
 Nd ((Sx.byteAt x0 x1) < 32) (
 Nd (rstrRel [.str x0] [.bool false]) (
 True)))))) ∧ (¬ ((Sx.byteAt x0 x1) < 32) →
 Nd (¬ ((Sx.byteAt x0 x1) < 32)) (
 Nd (¬ ((Sx.byteAt x0 x1) < 32)) (
 Nd (¬ (x1 < 0)) (
 Nd (x1 < (x0.length : Int)) (
 Nd (¬ ((Sx.byteAt x0 x1) < 32)) (
 Nd (¬ ((Sx.byteAt x0 x1) < 32)) (
(((126 < (Sx.byteAt x0 x1)) →
 Nd (rstrRel [.str x0] [.bool false]) (
 True)) ∧ (¬ (126 < (Sx.byteAt x0 x1)) →
 Nd ((¬ ((x1 + 1) < (-9223372036854775808))) ∧ ((x1 + 1) < 9223372036854775808)) (
 Nd (stInv [.str x0] [.int (x1 + 1)]) (
 Nd (stMu [.str x0] [.int (x1 + 1)] < stMu [.str x0] [.int x1]) (
 True)))))))))))))))) ∧ (¬ (x1 < (x0.length : Int)) →
 Nd (rstrRel [.str x0] [.bool true]) (
 True))))))
theorem vcRstr_eq : (cvc Go.Proofs.Try.prog U0 cRstr (sxF Go.Proofs.Try.prog U0 annsS (conOf Go.Proofs.Try.prog U0 (stageS 0)) 400 38)).vc U0 (fun _ => True) = vcRstr := by kernel_rfl
/-- What the contract of 'cmp' asks for. -/
def vcCmp : Prop :=
 ∀ x0 : List UInt8,
 ∀ x1 : List UInt8,
(cmpPre [.str x0, .str x1]) →
(((x0 = x0) →
(((x1 = x1) →
((((Op.bytesLess x0 x1) = true) →
 Nd (cmpRel [.str x0, .str x1] [.int (-1)]) (
 True)) ∧ (¬ ((Op.bytesLess x0 x1) = true) →
 Nd (¬ ((Op.bytesLess x0 x1) = true)) (
(((x0 = x1) →
 Nd (cmpRel [.str x0, .str x1] [.int 0]) (
 True)) ∧ (¬ (x0 = x1) →
 Nd (cmpRel [.str x0, .str x1] [.int 1]) (
 True))))))) ∧ (¬ (x1 = x1) →
 Nd (cmpRel [.str x0, .str x1] [.int 1]) (
 True)))) ∧ (¬ (x0 = x0) →
(((x1 = x1) →
 Nd (cmpRel [.str x0, .str x1] [.int (-1)]) (
 True)) ∧ (¬ (x1 = x1) →
 Nd (cmpRel [.str x0, .str x1] [.int 0]) (
 True)))))
theorem vcCmp_eq : (cvc Go.Proofs.Try.prog U0 cCmp (sxF Go.Proofs.Try.prog U0 annsS (conOf Go.Proofs.Try.prog U0 (stageS 0)) 400 42)).vc U0 (fun _ => True) = vcCmp := by kernel_rfl
/-- What the contract of 'nm' asks for. -/
def vcNm : Prop :=
 ∀ x0 : Int,
(nmPre [.int x0]) →
 Nd (¬ (x0 < 0)) (
 Nd (x0 < 12) (
 Nd (x0 < 12) (
 Nd (nmRel [.int x0] [.str (Sx.cellAt (Sx.chunk 1 12 [(.str ([97] : List UInt8)), (.str ([97, 97] : List UInt8)), (.str ([98] : List UInt8)), (.str ([99] : List UInt8)), (.str ([99, 108, 97, 115, 115] : List UInt8)), (.str ([105, 100] : List UInt8)), (.str ([120] : List UInt8)), (.str ([122] : List UInt8)), (.str ([122, 97] : List UInt8)), (.str ([122, 98] : List UInt8)), (.str ([122, 99] : List UInt8)), (.str ([122, 100] : List UInt8))]) x0 0).toStr]) (
 True))))
theorem vcNm_eq : (cvc Go.Proofs.Try.prog U0 cNm (sxF Go.Proofs.Try.prog U0 annsS (conOf Go.Proofs.Try.prog U0 (stageS 0)) 400 19)).vc U0 (fun _ => True) = vcNm := by kernel_rfl
/-- What the contract of 'val' asks for. -/
def vcVal : Prop :=
 ∀ x0 : Int,
(valPre [.int x0]) →
 Nd (¬ (((x0 : Int).tmod (4)) < 0)) (
 Nd (((x0 : Int).tmod (4)) < 4) (
 Nd (((x0 : Int).tmod (4)) < 4) (
 Nd (valRel [.int x0] [.str (Sx.cellAt (Sx.chunk 1 4 [(.str ([] : List UInt8)), (.str ([49] : List UInt8)), (.str ([50] : List UInt8)), (.str ([120, 32, 34, 121] : List UInt8))]) ((x0 : Int).tmod (4)) 0).toStr]) (
 True))))
theorem vcVal_eq : (cvc Go.Proofs.Try.prog U0 cVal (sxF Go.Proofs.Try.prog U0 annsS (conOf Go.Proofs.Try.prog U0 (stageS 0)) 400 24)).vc U0 (fun _ => True) = vcVal := by kernel_rfl
end Go.C13
