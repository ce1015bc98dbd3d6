/- The conditions of contracts, as the engine's printer has written them, and that the kernel comes to the same.
  Conditions: none. -/
import Derived.Test.YtkeoanklmnadiaaA4
import Derived.Test.YtkeoanklmnadiaaRows
import Derived.KernelRfl
set_option linter.unusedVariables false
set_option maxRecDepth 100000
namespace Go.C13
open Go Go.Xe Go.Sx
/-- What the contract of 'check' asks for. -/
def vcCheck : Prop :=
 ∀ x0 : Sx.Rows,
(checkPre [.lst x0]) →
 Nd (namedPre [.str ([97] : List UInt8)]) (
 ∀ x1 : Bool,
(namedRel [.str ([97] : List UInt8)] [.bool x1]) →
(((x1 = true) →
 Nd (x1 = true) (
 Nd (x1 = true) (
 Nd (x1 = true) (
 Nd (x1 = true) (
 Nd (x1 = true) (
 Nd (x1 = true) (
 Nd (x1 = true) (
(((8 < (x0.length : Int)) →
 Nd (8 < (x0.length : Int)) (
 Nd (8 < (x0.length : Int)) (
 Nd (8 < (x0.length : Int)) (
 Nd (8 < (x0.length : Int)) (
 Nd (8 < (x0.length : Int)) (
 Nd (8 < (x0.length : Int)) (
 Nd (checkRel [.lst x0] [.int 14]) (
 True)))))))) ∧ (¬ (8 < (x0.length : Int)) →
 Nd (¬ (8 < (x0.length : Int))) (
 Nd (¬ (8 < (x0.length : Int))) (
 Nd (¬ (8 < (x0.length : Int))) (
 Nd (¬ (8 < (x0.length : Int))) (
 Nd (¬ (8 < (x0.length : Int))) (
 Nd (¬ (8 < (x0.length : Int))) (
 Nd (attInv [.lst x0] [.int 0]) (
 ∀ x2 : Int,
(attInv [.lst x0] [.int x2]) →
(((x2 < (x0.length : Int)) →
 Nd (¬ (x2 < 0)) (
 Nd (x2 < (x0.length : Int)) (
 Nd (namedPre [.str (Sx.cellAt x0 x2 0).toStr]) (
 ∀ x3 : Bool,
(namedRel [.str (Sx.cellAt x0 x2 0).toStr] [.bool x3]) →
(((x3 = true) →
 Nd (x3 = true) (
 Nd (x3 = true) (
 Nd (textPre [.str (Sx.cellAt x0 x2 1).toStr]) (
 ∀ x4 : Bool,
(textRel [.str (Sx.cellAt x0 x2 1).toStr] [.bool x4]) →
 Nd (x3 = true) (
 Nd (x3 = true) (
(((x4 = true) →
 Nd (x4 = true) (
 Nd (x4 = true) (
(((0 < x2) →
 Nd (0 < x2) (
 Nd (0 < x2) (
 Nd (0 < x2) (
 Nd (0 < x2) (
 Nd (0 < x2) (
 Nd (0 < x2) (
 Nd (0 < x2) (
 Nd ((¬ ((x2 + (-1)) < (-9223372036854775808))) ∧ ((x2 + (-1)) < 9223372036854775808)) (
 Nd (0 < x2) (
 Nd (¬ ((x2 + (-1)) < 0)) (
 Nd ((x2 + (-1)) < (x0.length : Int)) (
 Nd (0 < x2) (
 Nd (0 < x2) (
 Nd (0 < x2) (
 Nd (x4 = true) (
 Nd (0 < x2) (
 Nd (x4 = true) (
((((Op.bytesLess (Sx.cellAt x0 x2 0).toStr (Sx.cellAt x0 (x2 + (-1)) 0).toStr) = true) →
 Nd (checkRel [.lst x0] [.int 14]) (
 True)) ∧ (¬ ((Op.bytesLess (Sx.cellAt x0 x2 0).toStr (Sx.cellAt x0 (x2 + (-1)) 0).toStr) = true) →
((((Sx.cellAt x0 x2 0).toStr = (Sx.cellAt x0 (x2 + (-1)) 0).toStr) →
 Nd (checkRel [.lst x0] [.int 14]) (
 True)) ∧ (¬ ((Sx.cellAt x0 x2 0).toStr = (Sx.cellAt x0 (x2 + (-1)) 0).toStr) →
 Nd ((¬ ((x2 + 1) < (-9223372036854775808))) ∧ ((x2 + 1) < 9223372036854775808)) (
 Nd (attInv [.lst x0] [.int (x2 + 1)]) (
 Nd (attMu [.lst x0] [.int (x2 + 1)] < attMu [.lst x0] [.int x2]) (
 True))))))))))))))))))))))))) ∧ (¬ (0 < x2) →
 Nd (¬ (0 < x2)) (
 Nd (¬ (0 < x2)) (
 Nd (¬ (0 < x2)) (
 Nd (¬ (0 < x2)) (
 Nd (¬ (0 < x2)) (
 Nd (¬ (0 < x2)) (
 Nd (¬ (0 < x2)) (
 Nd (¬ (0 < x2)) (
 Nd (¬ (0 < x2)) (
 Nd (¬ (0 < x2)) (
 Nd (¬ (0 < x2)) (
 Nd (x4 = true) (
 Nd (¬ (0 < x2)) (
 Nd (x4 = true) (
 Nd ((¬ ((x2 + 1) < (-9223372036854775808))) ∧ ((x2 + 1) < 9223372036854775808)) (
 Nd (attInv [.lst x0] [.int (x2 + 1)]) (
 Nd (attMu [.lst x0] [.int (x2 + 1)] < attMu [.lst x0] [.int x2]) (
 True)))))))))))))))))))))) ∧ (¬ (x4 = true) →
 Nd (¬ (x4 = true)) (
 Nd (¬ (x4 = true)) (
 Nd (¬ (x4 = true)) (
 Nd (¬ (x4 = true)) (
 Nd (checkRel [.lst x0] [.int 14]) (
 True))))))))))))) ∧ (¬ (x3 = true) →
 Nd (¬ (x3 = true)) (
 Nd (¬ (x3 = true)) (
 Nd (¬ (x3 = true)) (
 Nd (¬ (x3 = true)) (
 Nd (checkRel [.lst x0] [.int 14]) (
 True))))))))))) ∧ (¬ (x2 < (x0.length : Int)) →
 Nd (checkRel [.lst x0] [.int 0]) (
 True)))))))))))))))))))) ∧ (¬ (x1 = true) →
 Nd (¬ (x1 = true)) (
 Nd (¬ (x1 = true)) (
 Nd (¬ (x1 = true)) (
 Nd (¬ (x1 = true)) (
 Nd (¬ (x1 = true)) (
 Nd (¬ (x1 = true)) (
 Nd (¬ (x1 = true)) (
 Nd (checkRel [.lst x0] [.int 14]) (
 True)))))))))))
theorem vcCheck_eq : (cvc Go.Proofs.Try.prog U0 cCheck (sxF Go.Proofs.Try.prog U0 annsM (conOf Go.Proofs.Try.prog U0 (stageM 0)) 400 22)).vc U0 (fun _ => True) = vcCheck := by kernel_rfl
/-- What the contract of 'rcheck' asks for. -/
def vcRcheck : Prop :=
 ∀ x0 : Sx.Rows,
(rcheckPre [.lst x0]) →
(((8 < (x0.length : Int)) →
 Nd (rcheckRel [.lst x0] [.int 14]) (
 True)) ∧ (¬ (8 < (x0.length : Int)) →
 Nd (rnamePre [.str ([97] : List UInt8)]) (
 ∀ x1 : Bool,
(rnameRel [.str ([97] : List UInt8)] [.bool x1]) →
(((x1 = true) →
 Nd (x1 = true) (
 Nd (x1 = true) (
 Nd (x1 = true) (
 Nd (x1 = true) (
 Nd (x1 = true) (
 Nd (¬ (8 < (x0.length : Int))) (
 Nd (¬ (8 < (x0.length : Int))) (
 Nd (¬ (8 < (x0.length : Int))) (
 Nd (¬ (8 < (x0.length : Int))) (
 Nd (¬ (8 < (x0.length : Int))) (
 Nd (oneInv [.lst x0] [.int 0]) (
 ∀ x2 : Int,
(oneInv [.lst x0] [.int x2]) →
(((x2 < (x0.length : Int)) →
 Nd (¬ (x2 < 0)) (
 Nd (x2 < (x0.length : Int)) (
 Nd (rnamePre [.str (Sx.cellAt x0 x2 0).toStr]) (
 ∀ x3 : Bool,
(rnameRel [.str (Sx.cellAt x0 x2 0).toStr] [.bool x3]) →
(((x3 = true) →
 Nd (x3 = true) (
 Nd (x3 = true) (
 Nd (x3 = true) (
 Nd (¬ (x2 < 0)) (
 Nd (x2 < (x0.length : Int)) (
 Nd (x3 = true) (
 Nd (x3 = true) (
 Nd (x3 = true) (
 Nd (rstrPre [.str (Sx.cellAt x0 x2 1).toStr]) (
 ∀ x4 : Bool,
(rstrRel [.str (Sx.cellAt x0 x2 1).toStr] [.bool x4]) →
 Nd (x3 = true) (
 Nd (x3 = true) (
(((x4 = true) →
 Nd (oneKInv [.lst x0, .int x2] [.int 0]) (
 ∀ x5 : Int,
(oneKInv [.lst x0, .int x2] [.int x5]) →
(((x5 < x2) →
 Nd (¬ (x5 < 0)) (
 Nd (x5 < (x0.length : Int)) (
 Nd (¬ (x2 < 0)) (
 Nd (x2 < (x0.length : Int)) (
((((Op.bytesLess (Sx.cellAt x0 x5 0).toStr (Sx.cellAt x0 x2 0).toStr) = true) →
 Nd ((¬ ((x5 + 1) < (-9223372036854775808))) ∧ ((x5 + 1) < 9223372036854775808)) (
 Nd (oneKInv [.lst x0, .int x2] [.int (x5 + 1)]) (
 Nd (oneKMu [.lst x0, .int x2] [.int (x5 + 1)] < oneKMu [.lst x0, .int x2] [.int x5]) (
 True)))) ∧ (¬ ((Op.bytesLess (Sx.cellAt x0 x5 0).toStr (Sx.cellAt x0 x2 0).toStr) = true) →
 Nd (rcheckRel [.lst x0] [.int 14]) (
 True)))))))) ∧ (¬ (x5 < x2) →
 Nd ((¬ ((x2 + 1) < (-9223372036854775808))) ∧ ((x2 + 1) < 9223372036854775808)) (
 Nd (oneInv [.lst x0] [.int (x2 + 1)]) (
 Nd (oneMu [.lst x0] [.int (x2 + 1)] < oneMu [.lst x0] [.int x2]) (
 True))))))) ∧ (¬ (x4 = true) →
 Nd (rcheckRel [.lst x0] [.int 14]) (
 True))))))))))))))) ∧ (¬ (x3 = true) →
 Nd (¬ (x3 = true)) (
 Nd (¬ (x3 = true)) (
 Nd (¬ (x3 = true)) (
 Nd (¬ (x3 = true)) (
 Nd (¬ (x3 = true)) (
 Nd (¬ (x3 = true)) (
 Nd (¬ (x3 = true)) (
 Nd (¬ (x3 = true)) (
 Nd (rcheckRel [.lst x0] [.int 14]) (
 True))))))))))))))) ∧ (¬ (x2 < (x0.length : Int)) →
 Nd (rcheckRel [.lst x0] [.int 0]) (
 True))))))))))))))) ∧ (¬ (x1 = true) →
 Nd (¬ (x1 = true)) (
 Nd (¬ (x1 = true)) (
 Nd (¬ (x1 = true)) (
 Nd (¬ (x1 = true)) (
 Nd (¬ (x1 = true)) (
 Nd (rcheckRel [.lst x0] [.int 14]) (
 True)))))))))))
theorem vcRcheck_eq : (cvc Go.Proofs.Try.prog U0 cRcheck (sxF Go.Proofs.Try.prog U0 annsM (conOf Go.Proofs.Try.prog U0 (stageM 0)) 400 20)).vc U0 (fun _ => True) = vcRcheck := by kernel_rfl
def vcRcedits0 (x0 : Sx.Rows) (x1 : Int) (x2 : Int) : Prop :=
 ∀ x5 : Int,
 ∀ x6 : Int,
(redKInv [.lst x0, .int x2] [.int x5, .int x6]) →
(((x6 < x2) →
 Nd (¬ (x6 < 0)) (
 Nd (x6 < (x0.length : Int)) (
 Nd (¬ (x2 < 0)) (
 Nd (x2 < (x0.length : Int)) (
((((Op.bytesLess (Sx.cellAt x0 x6 0).toStr (Sx.cellAt x0 x2 0).toStr) = true) →
 Nd ((¬ ((x6 + 1) < (-9223372036854775808))) ∧ ((x6 + 1) < 9223372036854775808)) (
 Nd (redKInv [.lst x0, .int x2] [.int x5, .int (x6 + 1)]) (
 Nd (redKMu [.lst x0, .int x2] [.int x5, .int (x6 + 1)] < redKMu [.lst x0, .int x2] [.int x5, .int x6]) (
 True)))) ∧ (¬ ((Op.bytesLess (Sx.cellAt x0 x6 0).toStr (Sx.cellAt x0 x2 0).toStr) = true) →
 Nd ((¬ ((x6 + 1) < (-9223372036854775808))) ∧ ((x6 + 1) < 9223372036854775808)) (
 Nd (redKInv [.lst x0, .int x2] [.int 16, .int (x6 + 1)]) (
 Nd (redKMu [.lst x0, .int x2] [.int 16, .int (x6 + 1)] < redKMu [.lst x0, .int x2] [.int x5, .int x6]) (
 True)))))))))) ∧ (¬ (x6 < x2) →
 Nd ((¬ ((x2 + 1) < (-9223372036854775808))) ∧ ((x2 + 1) < 9223372036854775808)) (
 Nd (redInv [.lst x0] [.int x5, .int (x2 + 1)]) (
 Nd (redMu [.lst x0] [.int x5, .int (x2 + 1)] < redMu [.lst x0] [.int x1, .int x2]) (
 True)))))
/-- What the contract of 'rcedits' asks for. -/
def vcRcedits : Prop :=
 ∀ x0 : Sx.Rows,
(rceditsPre [.lst x0]) →
 Nd (redInv [.lst x0] [.int 0, .int 0]) (
 ∀ x1 : Int,
 ∀ x2 : Int,
(redInv [.lst x0] [.int x1, .int x2]) →
(((x2 < (x0.length : Int)) →
 Nd (¬ (x2 < 0)) (
 Nd (x2 < (x0.length : Int)) (
 Nd (rnamePre [.str (Sx.cellAt x0 x2 0).toStr]) (
 ∀ x3 : Bool,
(rnameRel [.str (Sx.cellAt x0 x2 0).toStr] [.bool x3]) →
(((x3 = true) →
 Nd (x3 = true) (
 Nd (x3 = true) (
 Nd (¬ (x2 < 0)) (
 Nd (x2 < (x0.length : Int)) (
 Nd (x3 = true) (
 Nd (x3 = true) (
 Nd (x3 = true) (
 Nd (rstrPre [.str (Sx.cellAt x0 x2 2).toStr]) (
 ∀ x4 : Bool,
(rstrRel [.str (Sx.cellAt x0 x2 2).toStr] [.bool x4]) →
 Nd (x3 = true) (
 Nd (x3 = true) (
(((x4 = true) →
 Nd (x4 = true) (
 Nd (x4 = true) (
 Nd (¬ (x2 < 0)) (
 Nd (x2 < (x0.length : Int)) (
 Nd (x4 = true) (
 Nd (x4 = true) (
 Nd (x4 = true) (
((((Sx.cellAt x0 x2 1).toBool = true) →
 Nd ((Sx.cellAt x0 x2 1).toBool = true) (
 Nd ((Sx.cellAt x0 x2 1).toBool = true) (
 Nd (¬ (x2 < 0)) (
 Nd (x2 < (x0.length : Int)) (
 Nd ((Sx.cellAt x0 x2 1).toBool = true) (
 Nd ((Sx.cellAt x0 x2 1).toBool = true) (
 Nd ((Sx.cellAt x0 x2 1).toBool = true) (
 Nd (x4 = true) (
 Nd ((Sx.cellAt x0 x2 1).toBool = true) (
 Nd (x4 = true) (
((((Sx.cellAt x0 x2 2).toStr = ([] : List UInt8)) →
 Nd (redKInv [.lst x0, .int x2] [.int x1, .int 0]) (
(vcRcedits0 x0 x1 x2))) ∧ (¬ ((Sx.cellAt x0 x2 2).toStr = ([] : List UInt8)) →
 Nd (rceditsRel [.lst x0] [.int 14]) (
 True)))))))))))))) ∧ (¬ ((Sx.cellAt x0 x2 1).toBool = true) →
 Nd (¬ ((Sx.cellAt x0 x2 1).toBool = true)) (
 Nd (¬ ((Sx.cellAt x0 x2 1).toBool = true)) (
 Nd (¬ ((Sx.cellAt x0 x2 1).toBool = true)) (
 Nd (¬ ((Sx.cellAt x0 x2 1).toBool = true)) (
 Nd (¬ ((Sx.cellAt x0 x2 1).toBool = true)) (
 Nd (x4 = true) (
 Nd (¬ ((Sx.cellAt x0 x2 1).toBool = true)) (
 Nd (x4 = true) (
 Nd (redKInv [.lst x0, .int x2] [.int x1, .int 0]) (
(vcRcedits0 x0 x1 x2)))))))))))))))))))) ∧ (¬ (x4 = true) →
 Nd (¬ (x4 = true)) (
 Nd (¬ (x4 = true)) (
 Nd (¬ (x4 = true)) (
 Nd (¬ (x4 = true)) (
 Nd (¬ (x4 = true)) (
 Nd (¬ (x4 = true)) (
 Nd (¬ (x4 = true)) (
 Nd (rceditsRel [.lst x0] [.int 14]) (
 True))))))))))))))))))))) ∧ (¬ (x3 = true) →
 Nd (¬ (x3 = true)) (
 Nd (¬ (x3 = true)) (
 Nd (¬ (x3 = true)) (
 Nd (¬ (x3 = true)) (
 Nd (¬ (x3 = true)) (
 Nd (¬ (x3 = true)) (
 Nd (¬ (x3 = true)) (
 Nd (rceditsRel [.lst x0] [.int 14]) (
 True)))))))))))))) ∧ (¬ (x2 < (x0.length : Int)) →
 Nd (rceditsRel [.lst x0] [.int x1]) (
 True))))
theorem vcRcedits_eq : (cvc Go.Proofs.Try.prog U0 cRcedits (sxF Go.Proofs.Try.prog U0 annsM (conOf Go.Proofs.Try.prog U0 (stageM 0)) 400 18)).vc U0 (fun _ => True) = vcRcedits := by kernel_rfl
/-- What the contract of 'rfind' asks for. -/
def vcRfind : Prop :=
 ∀ x0 : Sx.Rows,
 ∀ x1 : List UInt8,
(rfindPre [.lst x0, .str x1]) →
 Nd (rfiInv [.lst x0, .str x1] [.int 0]) (
 ∀ x2 : Int,
(rfiInv [.lst x0, .str x1] [.int x2]) →
(((x2 < (x0.length : Int)) →
 Nd (¬ (x2 < 0)) (
 Nd (x2 < (x0.length : Int)) (
((((Sx.cellAt x0 x2 0).toStr = x1) →
 Nd (rfindRel [.lst x0, .str x1] [.int x2]) (
 True)) ∧ (¬ ((Sx.cellAt x0 x2 0).toStr = x1) →
 Nd ((¬ ((x2 + 1) < (-9223372036854775808))) ∧ ((x2 + 1) < 9223372036854775808)) (
 Nd (rfiInv [.lst x0, .str x1] [.int (x2 + 1)]) (
 Nd (rfiMu [.lst x0, .str x1] [.int (x2 + 1)] < rfiMu [.lst x0, .str x1] [.int x2]) (
 True)))))))) ∧ (¬ (x2 < (x0.length : Int)) →
 Nd (rfindRel [.lst x0, .str x1] [.int (-1)]) (
 True))))
theorem vcRfind_eq : (cvc Go.Proofs.Try.prog U0 cRfind (sxF Go.Proofs.Try.prog U0 annsM (conOf Go.Proofs.Try.prog U0 (stageM 0)) 400 23)).vc U0 (fun _ => True) = vcRfind := by kernel_rfl
/-- What the contract of 'same' asks for. -/
def vcSame : Prop :=
 ∀ x0 : Sx.Rows,
 ∀ x1 : Sx.Rows,
(samePre [.lst x0, .lst x1]) →
((((x0.length : Int) = (x1.length : Int)) →
 Nd (samInv [.lst x0, .lst x1] [.int 0]) (
 ∀ x2 : Int,
(samInv [.lst x0, .lst x1] [.int x2]) →
(((x2 < (x0.length : Int)) →
 Nd (¬ (x2 < 0)) (
 Nd (x2 < (x0.length : Int)) (
 Nd (¬ (x2 < 0)) (
 Nd (x2 < (x1.length : Int)) (
((((Sx.cellAt x0 x2 0).toStr = (Sx.cellAt x1 x2 0).toStr) →
((((Sx.cellAt x0 x2 1).toStr = (Sx.cellAt x1 x2 1).toStr) →
 Nd ((¬ ((x2 + 1) < (-9223372036854775808))) ∧ ((x2 + 1) < 9223372036854775808)) (
 Nd (samInv [.lst x0, .lst x1] [.int (x2 + 1)]) (
 Nd (samMu [.lst x0, .lst x1] [.int (x2 + 1)] < samMu [.lst x0, .lst x1] [.int x2]) (
 True)))) ∧ (¬ ((Sx.cellAt x0 x2 1).toStr = (Sx.cellAt x1 x2 1).toStr) →
 Nd (sameRel [.lst x0, .lst x1] [.int 0]) (
 True)))) ∧ (¬ ((Sx.cellAt x0 x2 0).toStr = (Sx.cellAt x1 x2 0).toStr) →
 Nd (sameRel [.lst x0, .lst x1] [.int 0]) (
 True)))))))) ∧ (¬ (x2 < (x0.length : Int)) →
 Nd (sameRel [.lst x0, .lst x1] [.int 1]) (
 True))))) ∧ (¬ ((x0.length : Int) = (x1.length : Int)) →
 Nd (sameRel [.lst x0, .lst x1] [.int 0]) (
 True)))
theorem vcSame_eq : (cvc Go.Proofs.Try.prog U0 cSame (sxF Go.Proofs.Try.prog U0 annsM (conOf Go.Proofs.Try.prog U0 (stageM 0)) 400 11)).vc U0 (fun _ => True) = vcSame := by kernel_rfl
/-- What the contract of 'ins' asks for. -/
def vcIns : Prop :=
 ∀ x0 : Sx.Rows,
 ∀ x1 : List UInt8,
 ∀ x2 : List UInt8,
(insPre [.lst x0, .str x1, .str x2]) →
 Nd (insInv [.lst x0, .str x1, .str x2] [.lst ([] : Sx.Rows), .bool false, .int 0]) (
 ∀ x3 : Sx.Rows,
 ∀ x4 : Bool,
 ∀ x5 : Int,
(insInv [.lst x0, .str x1, .str x2] [.lst x3, .bool x4, .int x5]) →
(((x5 < (x0.length : Int)) →
(((x4 = true) →
 Nd (x4 = true) (
 Nd (x4 = true) (
 Nd (x4 = true) (
 Nd (x4 = true) (
 Nd (x4 = true) (
 Nd (x4 = true) (
 Nd (x4 = true) (
 Nd (x4 = true) (
 Nd (¬ (x5 < 0)) (
 Nd (x5 < (x0.length : Int)) (
 Nd (¬ ((x3.length : Int) < (x3.length : Int))) (
 Nd (((x3.length : Int) + 1) < 67108865) (
 Nd ((x3.length : Int) = (x3.length : Int)) (
 Nd ((¬ ((x5 + 1) < (-9223372036854775808))) ∧ ((x5 + 1) < 9223372036854775808)) (
 Nd (¬ (((x3.length : Int) + 1) < ((x3.length : Int) + 1))) (
 Nd (((x3.length : Int) + 1) = ((x3.length : Int) + 1)) (
 Nd (insInv [.lst x0, .str x1, .str x2] [.lst (x3 ++ (Sx.chunk 2 1 [(.str (Sx.cellAt x0 x5 0).toStr), (.str (Sx.cellAt x0 x5 1).toStr)])), .bool x4, .int (x5 + 1)]) (
 Nd (insMu [.lst x0, .str x1, .str x2] [.lst (x3 ++ (Sx.chunk 2 1 [(.str (Sx.cellAt x0 x5 0).toStr), (.str (Sx.cellAt x0 x5 1).toStr)])), .bool x4, .int (x5 + 1)] < insMu [.lst x0, .str x1, .str x2] [.lst x3, .bool x4, .int x5]) (
 True))))))))))))))))))) ∧ (¬ (x4 = true) →
 Nd (¬ (x4 = true)) (
 Nd (¬ (x4 = true)) (
 Nd (¬ (x4 = true)) (
 Nd (¬ (x4 = true)) (
 Nd (¬ (x5 < 0)) (
 Nd (x5 < (x0.length : Int)) (
 Nd (¬ (x4 = true)) (
 Nd (¬ (x4 = true)) (
 Nd (¬ (x4 = true)) (
 Nd (¬ (x4 = true)) (
((((Op.bytesLess x1 (Sx.cellAt x0 x5 0).toStr) = true) →
 Nd (¬ ((x3.length : Int) < (x3.length : Int))) (
 Nd (((x3.length : Int) + 1) < 67108865) (
 Nd ((x3.length : Int) = (x3.length : Int)) (
 Nd (¬ (x5 < 0)) (
 Nd (x5 < (x0.length : Int)) (
 Nd (¬ (((x3.length : Int) + 1) < ((x3.length : Int) + 1))) (
 Nd (((x3.length : Int) + 2) < 67108865) (
 Nd (((x3.length : Int) + 1) = ((x3.length : Int) + 1)) (
 Nd ((¬ ((x5 + 1) < (-9223372036854775808))) ∧ ((x5 + 1) < 9223372036854775808)) (
 Nd (¬ (((x3.length : Int) + 2) < ((x3.length : Int) + 2))) (
 Nd (((x3.length : Int) + 2) = ((x3.length : Int) + 2)) (
 Nd (insInv [.lst x0, .str x1, .str x2] [.lst ((x3 ++ (Sx.chunk 2 1 [(.str x1), (.str x2)])) ++ (Sx.chunk 2 1 [(.str (Sx.cellAt x0 x5 0).toStr), (.str (Sx.cellAt x0 x5 1).toStr)])), .bool true, .int (x5 + 1)]) (
 Nd (insMu [.lst x0, .str x1, .str x2] [.lst ((x3 ++ (Sx.chunk 2 1 [(.str x1), (.str x2)])) ++ (Sx.chunk 2 1 [(.str (Sx.cellAt x0 x5 0).toStr), (.str (Sx.cellAt x0 x5 1).toStr)])), .bool true, .int (x5 + 1)] < insMu [.lst x0, .str x1, .str x2] [.lst x3, .bool x4, .int x5]) (
 True)))))))))))))) ∧ (¬ ((Op.bytesLess x1 (Sx.cellAt x0 x5 0).toStr) = true) →
 Nd (¬ (x5 < 0)) (
 Nd (x5 < (x0.length : Int)) (
 Nd (¬ ((x3.length : Int) < (x3.length : Int))) (
 Nd (((x3.length : Int) + 1) < 67108865) (
 Nd ((x3.length : Int) = (x3.length : Int)) (
 Nd ((¬ ((x5 + 1) < (-9223372036854775808))) ∧ ((x5 + 1) < 9223372036854775808)) (
 Nd (¬ (((x3.length : Int) + 1) < ((x3.length : Int) + 1))) (
 Nd (((x3.length : Int) + 1) = ((x3.length : Int) + 1)) (
 Nd (insInv [.lst x0, .str x1, .str x2] [.lst (x3 ++ (Sx.chunk 2 1 [(.str (Sx.cellAt x0 x5 0).toStr), (.str (Sx.cellAt x0 x5 1).toStr)])), .bool x4, .int (x5 + 1)]) (
 Nd (insMu [.lst x0, .str x1, .str x2] [.lst (x3 ++ (Sx.chunk 2 1 [(.str (Sx.cellAt x0 x5 0).toStr), (.str (Sx.cellAt x0 x5 1).toStr)])), .bool x4, .int (x5 + 1)] < insMu [.lst x0, .str x1, .str x2] [.lst x3, .bool x4, .int x5]) (
 True))))))))))))))))))))))))) ∧ (¬ (x5 < (x0.length : Int)) →
(((x4 = true) →
 Nd (¬ ((x3.length : Int) < (x3.length : Int))) (
 Nd ((x3.length : Int) = (x3.length : Int)) (
 Nd (insRel [.lst x0, .str x1, .str x2] [.lst x3]) (
 True)))) ∧ (¬ (x4 = true) →
 Nd (¬ ((x3.length : Int) < (x3.length : Int))) (
 Nd (((x3.length : Int) + 1) < 67108865) (
 Nd ((x3.length : Int) = (x3.length : Int)) (
 Nd (¬ (((x3.length : Int) + 1) < ((x3.length : Int) + 1))) (
 Nd (((x3.length : Int) + 1) = ((x3.length : Int) + 1)) (
 Nd (insRel [.lst x0, .str x1, .str x2] [.lst (x3 ++ (Sx.chunk 2 1 [(.str x1), (.str x2)]))]) (
 True)))))))))))
theorem vcIns_eq : (cvc Go.Proofs.Try.prog U0 cIns (sxF Go.Proofs.Try.prog U0 annsM (conOf Go.Proofs.Try.prog U0 (stageM 0)) 400 33)).vc U0 (fun _ => True) = vcIns := by kernel_rfl
/-- What the contract of 'plain' asks for. -/
def vcPlain : Prop :=
 ∀ x0 : Sx.Rows,
(plainPre [.lst x0]) →
 Nd (plaInv [.lst x0] [.lst ([] : Sx.Rows), .int 0]) (
 ∀ x1 : Sx.Rows,
 ∀ x2 : Int,
(plaInv [.lst x0] [.lst x1, .int x2]) →
(((x2 < (x0.length : Int)) →
 Nd (¬ (x2 < 0)) (
 Nd (x2 < (x0.length : Int)) (
 Nd (¬ (x2 < 0)) (
 Nd (x2 < (x0.length : Int)) (
 Nd (¬ (x2 < 0)) (
 Nd (x2 < (x0.length : Int)) (
 Nd (¬ ((x1.length : Int) < (x1.length : Int))) (
 Nd (((x1.length : Int) + 1) < 67108865) (
 Nd ((x1.length : Int) = (x1.length : Int)) (
 Nd ((¬ ((x2 + 1) < (-9223372036854775808))) ∧ ((x2 + 1) < 9223372036854775808)) (
 Nd (¬ (((x1.length : Int) + 1) < ((x1.length : Int) + 1))) (
 Nd (((x1.length : Int) + 1) = ((x1.length : Int) + 1)) (
 Nd (plaInv [.lst x0] [.lst (x1 ++ (Sx.chunk 3 1 [(.str (Sx.cellAt x0 x2 0).toStr), (.bool (Sx.cellAt x0 x2 1).toBool), (.str (Sx.cellAt x0 x2 2).toStr)])), .int (x2 + 1)]) (
 Nd (plaMu [.lst x0] [.lst (x1 ++ (Sx.chunk 3 1 [(.str (Sx.cellAt x0 x2 0).toStr), (.bool (Sx.cellAt x0 x2 1).toBool), (.str (Sx.cellAt x0 x2 2).toStr)])), .int (x2 + 1)] < plaMu [.lst x0] [.lst x1, .int x2]) (
 True))))))))))))))) ∧ (¬ (x2 < (x0.length : Int)) →
 Nd (¬ ((x1.length : Int) < (x1.length : Int))) (
 Nd ((x1.length : Int) = (x1.length : Int)) (
 Nd (plainRel [.lst x0] [.lst x1]) (
 True))))))
theorem vcPlain_eq : (cvc Go.Proofs.Try.prog U0 cPlain (sxF Go.Proofs.Try.prog U0 annsM (conOf Go.Proofs.Try.prog U0 (stageM 0)) 400 14)).vc U0 (fun _ => True) = vcPlain := by kernel_rfl
/-- What the contract of 'ofl' asks for. -/
def vcOfl : Prop :=
 ∀ x0 : Int,
 ∀ x1 : Int,
 ∀ x2 : Int,
 ∀ x3 : Int,
 ∀ x4 : Int,
 ∀ x5 : Int,
 ∀ x6 : Int,
 ∀ x7 : Int,
 ∀ x8 : Int,
(oflPre [.int x0, .int x1, .int x2, .int x3, .int x4, .int x5, .int x6, .int x7, .int x8]) →
 Nd (oflInv [.int x0, .int x1, .int x2, .int x3, .int x4, .int x5, .int x6, .int x7, .int x8] [.lst ([] : Sx.Rows), .int 0]) (
 ∀ x9 : Sx.Rows,
 ∀ x10 : Int,
(oflInv [.int x0, .int x1, .int x2, .int x3, .int x4, .int x5, .int x6, .int x7, .int x8] [.lst x9, .int x10]) →
(((x10 < 8) →
 Nd (¬ (x10 < 0)) (
((((((Sx.shrI .u8 x0 x10) : Int).tmod (2)) = 1) →
 Nd (nmPre [.int x10]) (
 ∀ x11 : List UInt8,
(nmRel [.int x10] [.str x11]) →
 Nd (¬ (x10 < 0)) (
 Nd (x10 < 8) (
 Nd (x10 < 8) (
 Nd (valPre [.int (Sx.cellAt (Sx.chunk 1 8 [(.int x1), (.int x2), (.int x3), (.int x4), (.int x5), (.int x6), (.int x7), (.int x8)]) x10 0).toInt]) (
 ∀ x12 : List UInt8,
(valRel [.int (Sx.cellAt (Sx.chunk 1 8 [(.int x1), (.int x2), (.int x3), (.int x4), (.int x5), (.int x6), (.int x7), (.int x8)]) x10 0).toInt] [.str x12]) →
 Nd (¬ ((x9.length : Int) < (x9.length : Int))) (
 Nd (((x9.length : Int) + 1) < 67108865) (
 Nd ((x9.length : Int) = (x9.length : Int)) (
 Nd ((¬ ((x10 + 1) < (-9223372036854775808))) ∧ ((x10 + 1) < 9223372036854775808)) (
 Nd (¬ (((x9.length : Int) + 1) < ((x9.length : Int) + 1))) (
 Nd (((x9.length : Int) + 1) = ((x9.length : Int) + 1)) (
 Nd (oflInv [.int x0, .int x1, .int x2, .int x3, .int x4, .int x5, .int x6, .int x7, .int x8] [.lst (x9 ++ (Sx.chunk 2 1 [(.str x11), (.str x12)])), .int (x10 + 1)]) (
 Nd (oflMu [.int x0, .int x1, .int x2, .int x3, .int x4, .int x5, .int x6, .int x7, .int x8] [.lst (x9 ++ (Sx.chunk 2 1 [(.str x11), (.str x12)])), .int (x10 + 1)] < oflMu [.int x0, .int x1, .int x2, .int x3, .int x4, .int x5, .int x6, .int x7, .int x8] [.lst x9, .int x10]) (
 True)))))))))))))) ∧ (¬ ((((Sx.shrI .u8 x0 x10) : Int).tmod (2)) = 1) →
 Nd ((¬ ((x10 + 1) < (-9223372036854775808))) ∧ ((x10 + 1) < 9223372036854775808)) (
 Nd (¬ ((x9.length : Int) < (x9.length : Int))) (
 Nd ((x9.length : Int) = (x9.length : Int)) (
 Nd (oflInv [.int x0, .int x1, .int x2, .int x3, .int x4, .int x5, .int x6, .int x7, .int x8] [.lst x9, .int (x10 + 1)]) (
 Nd (oflMu [.int x0, .int x1, .int x2, .int x3, .int x4, .int x5, .int x6, .int x7, .int x8] [.lst x9, .int (x10 + 1)] < oflMu [.int x0, .int x1, .int x2, .int x3, .int x4, .int x5, .int x6, .int x7, .int x8] [.lst x9, .int x10]) (
 True))))))))) ∧ (¬ (x10 < 8) →
 Nd (¬ ((x9.length : Int) < (x9.length : Int))) (
 Nd ((x9.length : Int) = (x9.length : Int)) (
 Nd (oflRel [.int x0, .int x1, .int x2, .int x3, .int x4, .int x5, .int x6, .int x7, .int x8] [.lst x9]) (
 True))))))
theorem vcOfl_eq : (cvc Go.Proofs.Try.prog U0 cOfl (sxF Go.Proofs.Try.prog U0 annsM (conOf Go.Proofs.Try.prog U0 (stageM 0)) 400 8)).vc U0 (fun _ => True) = vcOfl := by kernel_rfl
/-- What the contract of 'ofw' asks for. -/
def vcOfw : Prop :=
 ∀ x0 : Int,
 ∀ x1 : Int,
 ∀ x2 : Int,
 ∀ x3 : Int,
 ∀ x4 : Int,
 ∀ x5 : Int,
 ∀ x6 : Int,
 ∀ x7 : Int,
 ∀ x8 : Int,
 ∀ x9 : Int,
 ∀ x10 : Int,
 ∀ x11 : Int,
 ∀ x12 : Int,
(ofwPre [.int x0, .int x1, .int x2, .int x3, .int x4, .int x5, .int x6, .int x7, .int x8, .int x9, .int x10, .int x11, .int x12]) →
 Nd (ofwInv [.int x0, .int x1, .int x2, .int x3, .int x4, .int x5, .int x6, .int x7, .int x8, .int x9, .int x10, .int x11, .int x12] [.lst ([] : Sx.Rows), .int 0]) (
 ∀ x13 : Sx.Rows,
 ∀ x14 : Int,
(ofwInv [.int x0, .int x1, .int x2, .int x3, .int x4, .int x5, .int x6, .int x7, .int x8, .int x9, .int x10, .int x11, .int x12] [.lst x13, .int x14]) →
(((x14 < 12) →
 Nd ((¬ ((2 * x14) < (-9223372036854775808))) ∧ ((2 * x14) < 9223372036854775808)) (
 Nd (¬ ((2 * x14) < 0)) (
((((((Sx.shrI .u32 x0 (2 * x14)) : Int).tmod (4)) = 1) →
 Nd (nmPre [.int x14]) (
 ∀ x15 : List UInt8,
(nmRel [.int x14] [.str x15]) →
 Nd (¬ (x14 < 0)) (
 Nd (x14 < 12) (
 Nd (x14 < 12) (
 Nd (valPre [.int (Sx.cellAt (Sx.chunk 1 12 [(.int x1), (.int x2), (.int x3), (.int x4), (.int x5), (.int x6), (.int x7), (.int x8), (.int x9), (.int x10), (.int x11), (.int x12)]) x14 0).toInt]) (
 ∀ x16 : List UInt8,
(valRel [.int (Sx.cellAt (Sx.chunk 1 12 [(.int x1), (.int x2), (.int x3), (.int x4), (.int x5), (.int x6), (.int x7), (.int x8), (.int x9), (.int x10), (.int x11), (.int x12)]) x14 0).toInt] [.str x16]) →
 Nd (¬ ((x13.length : Int) < (x13.length : Int))) (
 Nd (((x13.length : Int) + 1) < 67108865) (
 Nd ((x13.length : Int) = (x13.length : Int)) (
 Nd ((¬ ((x14 + 1) < (-9223372036854775808))) ∧ ((x14 + 1) < 9223372036854775808)) (
 Nd (¬ (((x13.length : Int) + 1) < ((x13.length : Int) + 1))) (
 Nd (((x13.length : Int) + 1) = ((x13.length : Int) + 1)) (
 Nd (ofwInv [.int x0, .int x1, .int x2, .int x3, .int x4, .int x5, .int x6, .int x7, .int x8, .int x9, .int x10, .int x11, .int x12] [.lst (x13 ++ (Sx.chunk 3 1 [(.str x15), (.bool false), (.str x16)])), .int (x14 + 1)]) (
 Nd (ofwMu [.int x0, .int x1, .int x2, .int x3, .int x4, .int x5, .int x6, .int x7, .int x8, .int x9, .int x10, .int x11, .int x12] [.lst (x13 ++ (Sx.chunk 3 1 [(.str x15), (.bool false), (.str x16)])), .int (x14 + 1)] < ofwMu [.int x0, .int x1, .int x2, .int x3, .int x4, .int x5, .int x6, .int x7, .int x8, .int x9, .int x10, .int x11, .int x12] [.lst x13, .int x14]) (
 True)))))))))))))) ∧ (¬ ((((Sx.shrI .u32 x0 (2 * x14)) : Int).tmod (4)) = 1) →
((((((Sx.shrI .u32 x0 (2 * x14)) : Int).tmod (4)) = 2) →
 Nd (nmPre [.int x14]) (
 ∀ x15 : List UInt8,
(nmRel [.int x14] [.str x15]) →
 Nd (¬ ((x13.length : Int) < (x13.length : Int))) (
 Nd (((x13.length : Int) + 1) < 67108865) (
 Nd ((x13.length : Int) = (x13.length : Int)) (
 Nd ((¬ ((x14 + 1) < (-9223372036854775808))) ∧ ((x14 + 1) < 9223372036854775808)) (
 Nd (¬ (((x13.length : Int) + 1) < ((x13.length : Int) + 1))) (
 Nd (((x13.length : Int) + 1) = ((x13.length : Int) + 1)) (
 Nd (ofwInv [.int x0, .int x1, .int x2, .int x3, .int x4, .int x5, .int x6, .int x7, .int x8, .int x9, .int x10, .int x11, .int x12] [.lst (x13 ++ (Sx.chunk 3 1 [(.str x15), (.bool true), (.str ([] : List UInt8))])), .int (x14 + 1)]) (
 Nd (ofwMu [.int x0, .int x1, .int x2, .int x3, .int x4, .int x5, .int x6, .int x7, .int x8, .int x9, .int x10, .int x11, .int x12] [.lst (x13 ++ (Sx.chunk 3 1 [(.str x15), (.bool true), (.str ([] : List UInt8))])), .int (x14 + 1)] < ofwMu [.int x0, .int x1, .int x2, .int x3, .int x4, .int x5, .int x6, .int x7, .int x8, .int x9, .int x10, .int x11, .int x12] [.lst x13, .int x14]) (
 True)))))))))) ∧ (¬ ((((Sx.shrI .u32 x0 (2 * x14)) : Int).tmod (4)) = 2) →
 Nd ((¬ ((x14 + 1) < (-9223372036854775808))) ∧ ((x14 + 1) < 9223372036854775808)) (
 Nd (¬ ((x13.length : Int) < (x13.length : Int))) (
 Nd ((x13.length : Int) = (x13.length : Int)) (
 Nd (ofwInv [.int x0, .int x1, .int x2, .int x3, .int x4, .int x5, .int x6, .int x7, .int x8, .int x9, .int x10, .int x11, .int x12] [.lst x13, .int (x14 + 1)]) (
 Nd (ofwMu [.int x0, .int x1, .int x2, .int x3, .int x4, .int x5, .int x6, .int x7, .int x8, .int x9, .int x10, .int x11, .int x12] [.lst x13, .int (x14 + 1)] < ofwMu [.int x0, .int x1, .int x2, .int x3, .int x4, .int x5, .int x6, .int x7, .int x8, .int x9, .int x10, .int x11, .int x12] [.lst x13, .int x14]) (
 True)))))))))))) ∧ (¬ (x14 < 12) →
 Nd (¬ ((x13.length : Int) < (x13.length : Int))) (
 Nd ((x13.length : Int) = (x13.length : Int)) (
 Nd (ofwRel [.int x0, .int x1, .int x2, .int x3, .int x4, .int x5, .int x6, .int x7, .int x8, .int x9, .int x10, .int x11, .int x12] [.lst x13]) (
 True))))))
theorem vcOfw_eq : (cvc Go.Proofs.Try.prog U0 cOfw (sxF Go.Proofs.Try.prog U0 annsM (conOf Go.Proofs.Try.prog U0 (stageM 0)) 400 16)).vc U0 (fun _ => True) = vcOfw := by kernel_rfl
end Go.C13
