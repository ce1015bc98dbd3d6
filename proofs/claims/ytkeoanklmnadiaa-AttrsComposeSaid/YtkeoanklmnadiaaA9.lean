/- The conditions of contracts, as the engine's printer has written them, and that the kernel comes to the same.
  Conditions: none. -/
import Derived.Test.YtkeoanklmnadiaaA8
import Derived.Test.YtkeoanklmnadiaaRows
import Derived.KernelRfl
set_option linter.unusedVariables false
set_option maxRecDepth 100000
namespace Go.C13
open Go Go.Xe Go.Sx
/-- What the contract of 'cedits' asks for. -/
def vcCedits : Prop :=
 ∀ x0 : Sx.Rows,
(ceditsPre [.lst x0]) →
 Nd (cedInv [.lst x0] [.int 0]) (
 ∀ x1 : Int,
(cedInv [.lst x0] [.int x1]) →
(((x1 < (x0.length : Int)) →
 Nd (¬ (x1 < 0)) (
 Nd (x1 < (x0.length : Int)) (
 Nd (checkPre [.lst (Sx.chunk 2 1 [(.str (Sx.cellAt x0 x1 0).toStr), (.str (Sx.cellAt x0 x1 2).toStr)])]) (
 ∀ x2 : Int,
(checkRel [.lst (Sx.chunk 2 1 [(.str (Sx.cellAt x0 x1 0).toStr), (.str (Sx.cellAt x0 x1 2).toStr)])] [.int x2]) →
(((x2 = 0) →
 Nd (x2 = 0) (
 Nd (x2 = 0) (
((((Sx.cellAt x0 x1 1).toBool = true) →
 Nd ((Sx.cellAt x0 x1 1).toBool = true) (
 Nd ((Sx.cellAt x0 x1 1).toBool = true) (
 Nd (x2 = 0) (
 Nd ((Sx.cellAt x0 x1 1).toBool = true) (
 Nd (x2 = 0) (
((((Sx.cellAt x0 x1 2).toStr = ([] : List UInt8)) →
 Nd ((¬ ((x1 + 1) < (-9223372036854775808))) ∧ ((x1 + 1) < 9223372036854775808)) (
 Nd (cedInv [.lst x0] [.int (x1 + 1)]) (
 Nd (cedMu [.lst x0] [.int (x1 + 1)] < cedMu [.lst x0] [.int x1]) (
 True)))) ∧ (¬ ((Sx.cellAt x0 x1 2).toStr = ([] : List UInt8)) →
 Nd (ceditsRel [.lst x0] [.int 14]) (
 True))))))))) ∧ (¬ ((Sx.cellAt x0 x1 1).toBool = true) →
 Nd (¬ ((Sx.cellAt x0 x1 1).toBool = true)) (
 Nd (¬ ((Sx.cellAt x0 x1 1).toBool = true)) (
 Nd (x2 = 0) (
 Nd (¬ ((Sx.cellAt x0 x1 1).toBool = true)) (
 Nd (x2 = 0) (
 Nd ((¬ ((x1 + 1) < (-9223372036854775808))) ∧ ((x1 + 1) < 9223372036854775808)) (
 Nd (cedInv [.lst x0] [.int (x1 + 1)]) (
 Nd (cedMu [.lst x0] [.int (x1 + 1)] < cedMu [.lst x0] [.int x1]) (
 True))))))))))))) ∧ (¬ (x2 = 0) →
 Nd (¬ (x2 = 0)) (
 Nd (¬ (x2 = 0)) (
 Nd (¬ (x2 = 0)) (
 Nd (¬ (x2 = 0)) (
 Nd (ceditsRel [.lst x0] [.int 14]) (
 True))))))))))) ∧ (¬ (x1 < (x0.length : Int)) →
 Nd (ceoInv [.lst x0] [.int 1]) (
 ∀ x2 : Int,
(ceoInv [.lst x0] [.int x2]) →
(((x2 < (x0.length : Int)) →
 Nd (¬ (x2 < 0)) (
 Nd (x2 < (x0.length : Int)) (
 Nd ((¬ ((x2 + (-1)) < (-9223372036854775808))) ∧ ((x2 + (-1)) < 9223372036854775808)) (
 Nd (¬ ((x2 + (-1)) < 0)) (
 Nd ((x2 + (-1)) < (x0.length : Int)) (
((((Op.bytesLess (Sx.cellAt x0 x2 0).toStr (Sx.cellAt x0 (x2 + (-1)) 0).toStr) = true) →
 Nd (ceditsRel [.lst x0] [.int 16]) (
 True)) ∧ (¬ ((Op.bytesLess (Sx.cellAt x0 x2 0).toStr (Sx.cellAt x0 (x2 + (-1)) 0).toStr) = true) →
((((Sx.cellAt x0 x2 0).toStr = (Sx.cellAt x0 (x2 + (-1)) 0).toStr) →
 Nd (ceditsRel [.lst x0] [.int 16]) (
 True)) ∧ (¬ ((Sx.cellAt x0 x2 0).toStr = (Sx.cellAt x0 (x2 + (-1)) 0).toStr) →
 Nd ((¬ ((x2 + 1) < (-9223372036854775808))) ∧ ((x2 + 1) < 9223372036854775808)) (
 Nd (ceoInv [.lst x0] [.int (x2 + 1)]) (
 Nd (ceoMu [.lst x0] [.int (x2 + 1)] < ceoMu [.lst x0] [.int x2]) (
 True))))))))))))) ∧ (¬ (x2 < (x0.length : Int)) →
 Nd (ceditsRel [.lst x0] [.int 0]) (
 True)))))))
theorem vcCedits_eq : (cvc Go.Proofs.Try.prog U0 cCedits (sxF Go.Proofs.Try.prog U0 annsA (conOf Go.Proofs.Try.prog U0 (stageA 0)) 400 12)).vc U0 (fun _ => True) = vcCedits := by kernel_rfl
/-- What the contract of 'find' asks for. -/
def vcFind : Prop :=
 ∀ x0 : Sx.Rows,
 ∀ x1 : List UInt8,
(findPre [.lst x0, .str x1]) →
 Nd (checkPre [.lst x0]) (
 ∀ x2 : Int,
(checkRel [.lst x0] [.int x2]) →
(((x2 = 0) →
 Nd (bseInv [.lst x0, .str x1] [.int 0, .int (x0.length : Int)]) (
 ∀ x3 : Int,
 ∀ x4 : Int,
(bseInv [.lst x0, .str x1] [.int x3, .int x4]) →
(((x3 < x4) →
 Nd ((¬ ((x3 + x4) < (-9223372036854775808))) ∧ ((x3 + x4) < 9223372036854775808)) (
 Nd ((¬ ((x3 + x4) < 0)) ∧ ((x3 + x4) < 18446744073709551616)) (
 Nd ((¬ ((Sx.shrI .u64 (x3 + x4) 1) < (-9223372036854775808))) ∧ ((Sx.shrI .u64 (x3 + x4) 1) < 9223372036854775808)) (
 Nd (¬ ((Sx.shrI .u64 (x3 + x4) 1) < 0)) (
 Nd ((Sx.shrI .u64 (x3 + x4) 1) < (x0.length : Int)) (
 Nd (cmpPre [.str (Sx.cellAt x0 (Sx.shrI .u64 (x3 + x4) 1) 0).toStr, .str x1]) (
 ∀ x5 : Int,
(cmpRel [.str (Sx.cellAt x0 (Sx.shrI .u64 (x3 + x4) 1) 0).toStr, .str x1] [.int x5]) →
(((x5 < 0) →
 Nd ((¬ (((Sx.shrI .u64 (x3 + x4) 1) + 1) < (-9223372036854775808))) ∧ (((Sx.shrI .u64 (x3 + x4) 1) + 1) < 9223372036854775808)) (
 Nd (bseInv [.lst x0, .str x1] [.int ((Sx.shrI .u64 (x3 + x4) 1) + 1), .int x4]) (
 Nd (bseMu [.lst x0, .str x1] [.int ((Sx.shrI .u64 (x3 + x4) 1) + 1), .int x4] < bseMu [.lst x0, .str x1] [.int x3, .int x4]) (
 True)))) ∧ (¬ (x5 < 0) →
 Nd (bseInv [.lst x0, .str x1] [.int x3, .int (Sx.shrI .u64 (x3 + x4) 1)]) (
 Nd (bseMu [.lst x0, .str x1] [.int x3, .int (Sx.shrI .u64 (x3 + x4) 1)] < bseMu [.lst x0, .str x1] [.int x3, .int x4]) (
 True))))))))))) ∧ (¬ (x3 < x4) →
(((x3 < (x0.length : Int)) →
 Nd (x3 < (x0.length : Int)) (
 Nd (x3 < (x0.length : Int)) (
 Nd (x3 < (x0.length : Int)) (
 Nd (¬ (x3 < 0)) (
 Nd (x3 < (x0.length : Int)) (
 Nd (x3 < (x0.length : Int)) (
 Nd (x3 < (x0.length : Int)) (
 Nd (x3 < (x0.length : Int)) (
 Nd (cmpPre [.str (Sx.cellAt x0 x3 0).toStr, .str x1]) (
 ∀ x5 : Int,
(cmpRel [.str (Sx.cellAt x0 x3 0).toStr, .str x1] [.int x5]) →
 Nd (x3 < (x0.length : Int)) (
 Nd (x3 < (x0.length : Int)) (
(((x5 = 0) →
 Nd (¬ (x3 < 0)) (
 Nd (x3 < (x0.length : Int)) (
 Nd (findRel [.lst x0, .str x1] [.str (Sx.cellAt x0 x3 1).toStr, .int 0]) (
 True)))) ∧ (¬ (x5 = 0) →
 Nd (findRel [.lst x0, .str x1] [.str ([] : List UInt8), .int 11]) (
 True))))))))))))))) ∧ (¬ (x3 < (x0.length : Int)) →
 Nd (¬ (x3 < (x0.length : Int))) (
 Nd (¬ (x3 < (x0.length : Int))) (
 Nd (¬ (x3 < (x0.length : Int))) (
 Nd (¬ (x3 < (x0.length : Int))) (
 Nd (¬ (x3 < (x0.length : Int))) (
 Nd (¬ (x3 < (x0.length : Int))) (
 Nd (¬ (x3 < (x0.length : Int))) (
 Nd (¬ (x3 < (x0.length : Int))) (
 Nd (findRel [.lst x0, .str x1] [.str ([] : List UInt8), .int 11]) (
 True))))))))))))))) ∧ (¬ (x2 = 0) →
 Nd (findRel [.lst x0, .str x1] [.str ([] : List UInt8), .int x2]) (
 True))))
theorem vcFind_eq : (cvc Go.Proofs.Try.prog U0 cFind (sxF Go.Proofs.Try.prog U0 annsA (conOf Go.Proofs.Try.prog U0 (stageA 0)) 400 21)).vc U0 (fun _ => True) = vcFind := by kernel_rfl
/-- What the contract of 'rapp' asks for. -/
def vcRapp : Prop :=
 ∀ x0 : Sx.Rows,
 ∀ x1 : Sx.Rows,
(rappPre [.lst x0, .lst x1]) →
 Nd ((x0.length : Int) < 67108865) (
 Nd (¬ ((x0.length : Int) < (x0.length : Int))) (
 Nd ((x0.length : Int) = (x0.length : Int)) (
 Nd (rapInv [.lst x0, .lst x1] [.lst x0, .int 0]) (
 ∀ x2 : Sx.Rows,
 ∀ x3 : Int,
(rapInv [.lst x0, .lst x1] [.lst x2, .int x3]) →
(((x3 < (x1.length : Int)) →
 Nd (¬ (x3 < 0)) (
 Nd (x3 < (x1.length : Int)) (
 Nd (rfindPre [.lst x2, .str (Sx.cellAt x1 x3 0).toStr]) (
 ∀ x4 : Int,
(rfindRel [.lst x2, .str (Sx.cellAt x1 x3 0).toStr] [.int x4]) →
 Nd (¬ (x3 < 0)) (
 Nd (x3 < (x1.length : Int)) (
((((Sx.cellAt x1 x3 1).toBool = true) →
 Nd ((Sx.cellAt x1 x3 1).toBool = true) (
 Nd ((Sx.cellAt x1 x3 1).toBool = true) (
(((x4 < 0) →
 Nd (rappRel [.lst x0, .lst x1] [.lst ([] : Sx.Rows), .int 11]) (
 True)) ∧ (¬ (x4 < 0) →
 Nd (¬ (x4 < 0)) (
 Nd (¬ (x4 < 0)) (
 Nd (¬ ((x2.length : Int) < x4)) (
 Nd (((Sx.part x2 0 x4).length : Int) < 67108865) (
 Nd ((¬ ((x4 + 1) < (-9223372036854775808))) ∧ ((x4 + 1) < 9223372036854775808)) (
 Nd (¬ ((x4 + 1) < 0)) (
 Nd (¬ ((x2.length : Int) < (x4 + 1))) (
 Nd (¬ ((x2.length : Int) < (x2.length : Int))) (
 Nd (¬ (((Sx.part x2 0 x4).length : Int) < ((Sx.part x2 0 x4).length : Int))) (
 Nd ((((Sx.part x2 0 x4).length : Int) + ((Sx.part x2 (x4 + 1) ((x2.length : Int) - (x4 + 1))).length : Int)) < 67108865) (
 Nd (((Sx.part x2 0 x4).length : Int) = ((Sx.part x2 0 x4).length : Int)) (
 Nd (¬ (x3 < 0)) (
 Nd (x3 < (x1.length : Int)) (
 Nd ((Sx.cellAt x1 x3 1).toBool = true) (
 Nd ((¬ ((x3 + 1) < (-9223372036854775808))) ∧ ((x3 + 1) < 9223372036854775808)) (
 Nd (¬ ((((Sx.part x2 0 x4).length : Int) + ((Sx.part x2 (x4 + 1) ((x2.length : Int) - (x4 + 1))).length : Int)) < (((Sx.part x2 0 x4).length : Int) + ((Sx.part x2 (x4 + 1) ((x2.length : Int) - (x4 + 1))).length : Int)))) (
 Nd ((((Sx.part x2 0 x4).length : Int) + ((Sx.part x2 (x4 + 1) ((x2.length : Int) - (x4 + 1))).length : Int)) = (((Sx.part x2 0 x4).length : Int) + ((Sx.part x2 (x4 + 1) ((x2.length : Int) - (x4 + 1))).length : Int))) (
 Nd (rapInv [.lst x0, .lst x1] [.lst ((Sx.part x2 0 x4) ++ (Sx.part x2 (x4 + 1) ((x2.length : Int) - (x4 + 1)))), .int (x3 + 1)]) (
 Nd (rapMu [.lst x0, .lst x1] [.lst ((Sx.part x2 0 x4) ++ (Sx.part x2 (x4 + 1) ((x2.length : Int) - (x4 + 1)))), .int (x3 + 1)] < rapMu [.lst x0, .lst x1] [.lst x2, .int x3]) (
 True)))))))))))))))))))))))) ∧ (¬ ((Sx.cellAt x1 x3 1).toBool = true) →
 Nd (¬ ((Sx.cellAt x1 x3 1).toBool = true)) (
 Nd (¬ ((Sx.cellAt x1 x3 1).toBool = true)) (
(((x4 < 0) →
 Nd (¬ (x3 < 0)) (
 Nd (x3 < (x1.length : Int)) (
 Nd (¬ ((Sx.cellAt x1 x3 1).toBool = true)) (
 Nd (¬ (x3 < 0)) (
 Nd (x3 < (x1.length : Int)) (
 Nd (¬ (x3 < 0)) (
 Nd (x3 < (x1.length : Int)) (
 Nd (insPre [.lst x2, .str (Sx.cellAt x1 x3 0).toStr, .str (Sx.cellAt x1 x3 2).toStr]) (
 ∀ x5 : Sx.Rows,
(insRel [.lst x2, .str (Sx.cellAt x1 x3 0).toStr, .str (Sx.cellAt x1 x3 2).toStr] [.lst x5]) →
 Nd ((¬ ((x3 + 1) < (-9223372036854775808))) ∧ ((x3 + 1) < 9223372036854775808)) (
 Nd (rapInv [.lst x0, .lst x1] [.lst x5, .int (x3 + 1)]) (
 Nd (rapMu [.lst x0, .lst x1] [.lst x5, .int (x3 + 1)] < rapMu [.lst x0, .lst x1] [.lst x2, .int x3]) (
 True)))))))))))) ∧ (¬ (x4 < 0) →
 Nd (¬ (x4 < 0)) (
 Nd (¬ ((x2.length : Int) < x4)) (
 Nd (((Sx.part x2 0 x4).length : Int) < 67108865) (
 Nd ((¬ ((x4 + 1) < (-9223372036854775808))) ∧ ((x4 + 1) < 9223372036854775808)) (
 Nd (¬ ((x4 + 1) < 0)) (
 Nd (¬ ((x2.length : Int) < (x4 + 1))) (
 Nd (¬ ((x2.length : Int) < (x2.length : Int))) (
 Nd (¬ (((Sx.part x2 0 x4).length : Int) < ((Sx.part x2 0 x4).length : Int))) (
 Nd ((((Sx.part x2 0 x4).length : Int) + ((Sx.part x2 (x4 + 1) ((x2.length : Int) - (x4 + 1))).length : Int)) < 67108865) (
 Nd (((Sx.part x2 0 x4).length : Int) = ((Sx.part x2 0 x4).length : Int)) (
 Nd (¬ (x3 < 0)) (
 Nd (x3 < (x1.length : Int)) (
 Nd (¬ ((Sx.cellAt x1 x3 1).toBool = true)) (
 Nd (¬ (x3 < 0)) (
 Nd (x3 < (x1.length : Int)) (
 Nd (¬ (x3 < 0)) (
 Nd (x3 < (x1.length : Int)) (
 Nd (¬ ((((Sx.part x2 0 x4).length : Int) + ((Sx.part x2 (x4 + 1) ((x2.length : Int) - (x4 + 1))).length : Int)) < (((Sx.part x2 0 x4).length : Int) + ((Sx.part x2 (x4 + 1) ((x2.length : Int) - (x4 + 1))).length : Int)))) (
 Nd ((((Sx.part x2 0 x4).length : Int) + ((Sx.part x2 (x4 + 1) ((x2.length : Int) - (x4 + 1))).length : Int)) = (((Sx.part x2 0 x4).length : Int) + ((Sx.part x2 (x4 + 1) ((x2.length : Int) - (x4 + 1))).length : Int))) (
 Nd (insPre [.lst ((Sx.part x2 0 x4) ++ (Sx.part x2 (x4 + 1) ((x2.length : Int) - (x4 + 1)))), .str (Sx.cellAt x1 x3 0).toStr, .str (Sx.cellAt x1 x3 2).toStr]) (
 ∀ x5 : Sx.Rows,
(insRel [.lst ((Sx.part x2 0 x4) ++ (Sx.part x2 (x4 + 1) ((x2.length : Int) - (x4 + 1)))), .str (Sx.cellAt x1 x3 0).toStr, .str (Sx.cellAt x1 x3 2).toStr] [.lst x5]) →
 Nd ((¬ ((x3 + 1) < (-9223372036854775808))) ∧ ((x3 + 1) < 9223372036854775808)) (
 Nd (rapInv [.lst x0, .lst x1] [.lst x5, .int (x3 + 1)]) (
 Nd (rapMu [.lst x0, .lst x1] [.lst x5, .int (x3 + 1)] < rapMu [.lst x0, .lst x1] [.lst x2, .int x3]) (
 True))))))))))))))))))))))))))))))))))) ∧ (¬ (x3 < (x1.length : Int)) →
(((8 < (x2.length : Int)) →
 Nd (rappRel [.lst x0, .lst x1] [.lst ([] : Sx.Rows), .int 3]) (
 True)) ∧ (¬ (8 < (x2.length : Int)) →
 Nd (rappRel [.lst x0, .lst x1] [.lst x2, .int 0]) (
 True)))))))))
theorem vcRapp_eq : (cvc Go.Proofs.Try.prog U0 cRapp (sxF Go.Proofs.Try.prog U0 annsA (conOf Go.Proofs.Try.prog U0 (stageA 0)) 400 13)).vc U0 (fun _ => True) = vcRapp := by kernel_rfl
def vcDiff0 (x0 : Sx.Rows) (x1 : Sx.Rows) (x4 : Int) (x5 : Int) (x6 : Sx.Rows) : Prop :=
(((x5 < 0) →
 Nd (false = true) (
 Nd ((-1) < (x0.length : Int)) (
 Nd (¬ ((x6.length : Int) < (x6.length : Int))) (
 Nd (((x6.length : Int) + 1) < 67108865) (
 Nd ((x6.length : Int) = (x6.length : Int)) (
 Nd ((¬ ((x5 + 1) < (-9223372036854775808))) ∧ ((x5 + 1) < 9223372036854775808)) (
 Nd (¬ (((x6.length : Int) + 1) < ((x6.length : Int) + 1))) (
 Nd (((x6.length : Int) + 1) = ((x6.length : Int) + 1)) (
 Nd (merDInv [.lst x0, .lst x1] [.int x4, .int (x5 + 1), .lst (x6 ++ (Sx.chunk 3 1 [(.str (Sx.cellAt x0 (-1) 0).toStr), (.bool true), (.str ([] : List UInt8))]))]) (
 Nd (merDMu [.lst x0, .lst x1] [.int x4, .int (x5 + 1), .lst (x6 ++ (Sx.chunk 3 1 [(.str (Sx.cellAt x0 (-1) 0).toStr), (.bool true), (.str ([] : List UInt8))]))] < merDMu [.lst x0, .lst x1] [.int x4, .int x5, .lst x6]) (
 True))))))))))) ∧ (¬ (x5 < 0) →
 Nd (¬ (x5 < 0)) (
 Nd (x5 < (x1.length : Int)) (
 Nd (¬ (x5 < 0)) (
 Nd (x5 < (x1.length : Int)) (
 Nd (¬ ((x6.length : Int) < (x6.length : Int))) (
 Nd (((x6.length : Int) + 1) < 67108865) (
 Nd ((x6.length : Int) = (x6.length : Int)) (
 Nd ((¬ ((x5 + 1) < (-9223372036854775808))) ∧ ((x5 + 1) < 9223372036854775808)) (
 Nd (¬ (((x6.length : Int) + 1) < ((x6.length : Int) + 1))) (
 Nd (((x6.length : Int) + 1) = ((x6.length : Int) + 1)) (
 Nd (merDInv [.lst x0, .lst x1] [.int x4, .int (x5 + 1), .lst (x6 ++ (Sx.chunk 3 1 [(.str (Sx.cellAt x1 x5 0).toStr), (.bool false), (.str (Sx.cellAt x1 x5 1).toStr)]))]) (
 Nd (merDMu [.lst x0, .lst x1] [.int x4, .int (x5 + 1), .lst (x6 ++ (Sx.chunk 3 1 [(.str (Sx.cellAt x1 x5 0).toStr), (.bool false), (.str (Sx.cellAt x1 x5 1).toStr)]))] < merDMu [.lst x0, .lst x1] [.int x4, .int x5, .lst x6]) (
 True))))))))))))))
def vcDiff1 (x0 : Sx.Rows) (x1 : Sx.Rows) (x4 : Int) (x5 : Int) (x6 : Sx.Rows) : Prop :=
 Nd (¬ (x4 < 0)) (
 Nd (x4 < (x0.length : Int)) (
 Nd (¬ ((x6.length : Int) < (x6.length : Int))) (
 Nd (((x6.length : Int) + 1) < 67108865) (
 Nd ((x6.length : Int) = (x6.length : Int)) (
 Nd ((¬ ((x4 + 1) < (-9223372036854775808))) ∧ ((x4 + 1) < 9223372036854775808)) (
 Nd (¬ (((x6.length : Int) + 1) < ((x6.length : Int) + 1))) (
 Nd (((x6.length : Int) + 1) = ((x6.length : Int) + 1)) (
 Nd (merDInv [.lst x0, .lst x1] [.int (x4 + 1), .int x5, .lst (x6 ++ (Sx.chunk 3 1 [(.str (Sx.cellAt x0 x4 0).toStr), (.bool true), (.str ([] : List UInt8))]))]) (
 Nd (merDMu [.lst x0, .lst x1] [.int (x4 + 1), .int x5, .lst (x6 ++ (Sx.chunk 3 1 [(.str (Sx.cellAt x0 x4 0).toStr), (.bool true), (.str ([] : List UInt8))]))] < merDMu [.lst x0, .lst x1] [.int x4, .int x5, .lst x6]) (
 True))))))))))
def vcDiff2 (x0 : Sx.Rows) (x1 : Sx.Rows) (x4 : Int) (x5 : Int) (x6 : Sx.Rows) : Prop :=
(((x5 = (x1.length : Int)) →
(vcDiff1 x0 x1 x4 x5 x6)) ∧ (¬ (x5 = (x1.length : Int)) →
 Nd (¬ (x4 < 0)) (
 Nd (x4 < (x0.length : Int)) (
 Nd (¬ (x5 < 0)) (
 Nd (x5 < (x1.length : Int)) (
 Nd (cmpPre [.str (Sx.cellAt x0 x4 0).toStr, .str (Sx.cellAt x1 x5 0).toStr]) (
 ∀ x7 : Int,
(cmpRel [.str (Sx.cellAt x0 x4 0).toStr, .str (Sx.cellAt x1 x5 0).toStr] [.int x7]) →
(((x7 < 0) →
(vcDiff1 x0 x1 x4 x5 x6)) ∧ (¬ (x7 < 0) →
(((0 < x7) →
(vcDiff0 x0 x1 x4 x5 x6)) ∧ (¬ (0 < x7) →
(((x5 < 0) →
 Nd (¬ (x4 < 0)) (
 Nd (x4 < (x0.length : Int)) (
 Nd (¬ ((x6.length : Int) < (x6.length : Int))) (
 Nd (((x6.length : Int) + 1) < 67108865) (
 Nd ((x6.length : Int) = (x6.length : Int)) (
 Nd ((¬ ((x4 + 1) < (-9223372036854775808))) ∧ ((x4 + 1) < 9223372036854775808)) (
 Nd ((¬ ((x5 + 1) < (-9223372036854775808))) ∧ ((x5 + 1) < 9223372036854775808)) (
 Nd (¬ (((x6.length : Int) + 1) < ((x6.length : Int) + 1))) (
 Nd (((x6.length : Int) + 1) = ((x6.length : Int) + 1)) (
 Nd (merDInv [.lst x0, .lst x1] [.int (x4 + 1), .int (x5 + 1), .lst (x6 ++ (Sx.chunk 3 1 [(.str (Sx.cellAt x0 x4 0).toStr), (.bool true), (.str ([] : List UInt8))]))]) (
 Nd (merDMu [.lst x0, .lst x1] [.int (x4 + 1), .int (x5 + 1), .lst (x6 ++ (Sx.chunk 3 1 [(.str (Sx.cellAt x0 x4 0).toStr), (.bool true), (.str ([] : List UInt8))]))] < merDMu [.lst x0, .lst x1] [.int x4, .int x5, .lst x6]) (
 True)))))))))))) ∧ (¬ (x5 < 0) →
(((x4 < 0) →
 Nd (x4 < 0) (
 Nd (x4 < 0) (
 Nd (x4 < 0) (
 Nd (x4 < 0) (
 Nd (x4 < 0) (
 Nd (x4 < 0) (
 Nd (x4 < 0) (
 Nd (x4 < 0) (
 Nd (x4 < 0) (
 Nd (x4 < 0) (
 Nd (x4 < 0) (
 Nd (¬ (x5 < 0)) (
 Nd (x5 < (x1.length : Int)) (
 Nd (¬ (x5 < 0)) (
 Nd (x5 < (x1.length : Int)) (
 Nd (¬ ((x6.length : Int) < (x6.length : Int))) (
 Nd (((x6.length : Int) + 1) < 67108865) (
 Nd ((x6.length : Int) = (x6.length : Int)) (
 Nd ((¬ ((x4 + 1) < (-9223372036854775808))) ∧ ((x4 + 1) < 9223372036854775808)) (
 Nd ((¬ ((x5 + 1) < (-9223372036854775808))) ∧ ((x5 + 1) < 9223372036854775808)) (
 Nd (¬ (((x6.length : Int) + 1) < ((x6.length : Int) + 1))) (
 Nd (((x6.length : Int) + 1) = ((x6.length : Int) + 1)) (
 Nd (merDInv [.lst x0, .lst x1] [.int (x4 + 1), .int (x5 + 1), .lst (x6 ++ (Sx.chunk 3 1 [(.str (Sx.cellAt x1 x5 0).toStr), (.bool false), (.str (Sx.cellAt x1 x5 1).toStr)]))]) (
 Nd (merDMu [.lst x0, .lst x1] [.int (x4 + 1), .int (x5 + 1), .lst (x6 ++ (Sx.chunk 3 1 [(.str (Sx.cellAt x1 x5 0).toStr), (.bool false), (.str (Sx.cellAt x1 x5 1).toStr)]))] < merDMu [.lst x0, .lst x1] [.int x4, .int x5, .lst x6]) (
 True))))))))))))))))))))))))) ∧ (¬ (x4 < 0) →
 Nd (¬ (x4 < 0)) (
 Nd (¬ (x4 < 0)) (
 Nd (¬ (x4 < 0)) (
 Nd (x4 < (x0.length : Int)) (
 Nd (¬ (x4 < 0)) (
 Nd (¬ (x4 < 0)) (
 Nd (¬ (x4 < 0)) (
 Nd (¬ (x4 < 0)) (
 Nd (¬ (x4 < 0)) (
 Nd (¬ (x5 < 0)) (
 Nd (x5 < (x1.length : Int)) (
 Nd (¬ (x4 < 0)) (
 Nd (¬ (x4 < 0)) (
 Nd (¬ (x4 < 0)) (
 Nd (¬ (x4 < 0)) (
((((Sx.cellAt x0 x4 1).toStr = (Sx.cellAt x1 x5 1).toStr) →
 Nd ((¬ ((x4 + 1) < (-9223372036854775808))) ∧ ((x4 + 1) < 9223372036854775808)) (
 Nd ((¬ ((x5 + 1) < (-9223372036854775808))) ∧ ((x5 + 1) < 9223372036854775808)) (
 Nd (¬ ((x6.length : Int) < (x6.length : Int))) (
 Nd ((x6.length : Int) = (x6.length : Int)) (
 Nd (merDInv [.lst x0, .lst x1] [.int (x4 + 1), .int (x5 + 1), .lst x6]) (
 Nd (merDMu [.lst x0, .lst x1] [.int (x4 + 1), .int (x5 + 1), .lst x6] < merDMu [.lst x0, .lst x1] [.int x4, .int x5, .lst x6]) (
 True))))))) ∧ (¬ ((Sx.cellAt x0 x4 1).toStr = (Sx.cellAt x1 x5 1).toStr) →
 Nd (¬ (x5 < 0)) (
 Nd (x5 < (x1.length : Int)) (
 Nd (¬ (x5 < 0)) (
 Nd (x5 < (x1.length : Int)) (
 Nd (¬ ((x6.length : Int) < (x6.length : Int))) (
 Nd (((x6.length : Int) + 1) < 67108865) (
 Nd ((x6.length : Int) = (x6.length : Int)) (
 Nd ((¬ ((x4 + 1) < (-9223372036854775808))) ∧ ((x4 + 1) < 9223372036854775808)) (
 Nd ((¬ ((x5 + 1) < (-9223372036854775808))) ∧ ((x5 + 1) < 9223372036854775808)) (
 Nd (¬ (((x6.length : Int) + 1) < ((x6.length : Int) + 1))) (
 Nd (((x6.length : Int) + 1) = ((x6.length : Int) + 1)) (
 Nd (merDInv [.lst x0, .lst x1] [.int (x4 + 1), .int (x5 + 1), .lst (x6 ++ (Sx.chunk 3 1 [(.str (Sx.cellAt x1 x5 0).toStr), (.bool false), (.str (Sx.cellAt x1 x5 1).toStr)]))]) (
 Nd (merDMu [.lst x0, .lst x1] [.int (x4 + 1), .int (x5 + 1), .lst (x6 ++ (Sx.chunk 3 1 [(.str (Sx.cellAt x1 x5 0).toStr), (.bool false), (.str (Sx.cellAt x1 x5 1).toStr)]))] < merDMu [.lst x0, .lst x1] [.int x4, .int x5, .lst x6]) (
 True)))))))))))))))))))))))))))))))))))))))))))))
/-- What the contract of 'diff' asks for. -/
def vcDiff : Prop :=
 ∀ x0 : Sx.Rows,
 ∀ x1 : Sx.Rows,
(diffPre [.lst x0, .lst x1]) →
 Nd (checkPre [.lst x0]) (
 ∀ x2 : Int,
(checkRel [.lst x0] [.int x2]) →
(((x2 = 0) →
 Nd (checkPre [.lst x1]) (
 ∀ x3 : Int,
(checkRel [.lst x1] [.int x3]) →
(((x3 = 0) →
 Nd (merDInv [.lst x0, .lst x1] [.int 0, .int 0, .lst ([] : Sx.Rows)]) (
 ∀ x4 : Int,
 ∀ x5 : Int,
 ∀ x6 : Sx.Rows,
(merDInv [.lst x0, .lst x1] [.int x4, .int x5, .lst x6]) →
(((x4 < (x0.length : Int)) →
 Nd (x4 < (x0.length : Int)) (
 Nd (x4 < (x0.length : Int)) (
 Nd (x4 < (x0.length : Int)) (
 Nd (x4 < (x0.length : Int)) (
(((x4 = (x0.length : Int)) →
(vcDiff0 x0 x1 x4 x5 x6)) ∧ (¬ (x4 = (x0.length : Int)) →
(vcDiff2 x0 x1 x4 x5 x6)))))))) ∧ (¬ (x4 < (x0.length : Int)) →
 Nd (¬ (x4 < (x0.length : Int))) (
 Nd (¬ (x4 < (x0.length : Int))) (
 Nd (¬ (x4 < (x0.length : Int))) (
 Nd (¬ (x4 < (x0.length : Int))) (
(((x5 < (x1.length : Int)) →
(((x4 = (x0.length : Int)) →
(vcDiff0 x0 x1 x4 x5 x6)) ∧ (¬ (x4 = (x0.length : Int)) →
(vcDiff2 x0 x1 x4 x5 x6)))) ∧ (¬ (x5 < (x1.length : Int)) →
 Nd (¬ ((x6.length : Int) < 0)) (
 Nd (¬ ((x6.length : Int) < (x6.length : Int))) (
 Nd (¬ ((x6.length : Int) < (x6.length : Int))) (
 Nd ((x6.length : Int) = (x6.length : Int)) (
 Nd (¬ ((x6.length : Int) < (x6.length : Int))) (
 Nd ((x6.length : Int) = (x6.length : Int)) (
 Nd (diffRel [.lst x0, .lst x1] [.lst x6, .int 0]) (
 True))))))))))))))))) ∧ (¬ (x3 = 0) →
 Nd (diffRel [.lst x0, .lst x1] [.lst ([] : Sx.Rows), .int x3]) (
 True))))) ∧ (¬ (x2 = 0) →
 Nd (diffRel [.lst x0, .lst x1] [.lst ([] : Sx.Rows), .int x2]) (
 True))))
theorem vcDiff_eq : (cvc Go.Proofs.Try.prog U0 cDiff (sxF Go.Proofs.Try.prog U0 annsA (conOf Go.Proofs.Try.prog U0 (stageA 1)) 400 9)).vc U0 (fun _ => True) = vcDiff := by kernel_rfl
def vcApp0 (x0 : Sx.Rows) (x1 : Sx.Rows) (x4 : Int) (x5 : Int) (x6 : Sx.Rows) (x7 : Int) : Prop :=
(((x5 < 0) →
 Nd (false = true) (
 Nd ((-1) < (x0.length : Int)) (
 Nd (¬ ((x6.length : Int) < (x6.length : Int))) (
 Nd (((x6.length : Int) + 1) < 67108865) (
 Nd ((x6.length : Int) = (x6.length : Int)) (
 Nd ((¬ ((x5 + 1) < (-9223372036854775808))) ∧ ((x5 + 1) < 9223372036854775808)) (
 Nd (¬ (((x6.length : Int) + 1) < ((x6.length : Int) + 1))) (
 Nd (((x6.length : Int) + 1) = ((x6.length : Int) + 1)) (
 Nd (merAInv [.lst x0, .lst x1] [.int x4, .int (x5 + 1), .lst (x6 ++ (Sx.chunk 2 1 [(.str (Sx.cellAt x0 (-1) 0).toStr), (.str (Sx.cellAt x0 (-1) 1).toStr)])), .int x7]) (
 Nd (merAMu [.lst x0, .lst x1] [.int x4, .int (x5 + 1), .lst (x6 ++ (Sx.chunk 2 1 [(.str (Sx.cellAt x0 (-1) 0).toStr), (.str (Sx.cellAt x0 (-1) 1).toStr)])), .int x7] < merAMu [.lst x0, .lst x1] [.int x4, .int x5, .lst x6, .int x7]) (
 True))))))))))) ∧ (¬ (x5 < 0) →
 Nd (¬ (x5 < 0)) (
 Nd (x5 < (x1.length : Int)) (
((((Sx.cellAt x1 x5 1).toBool = true) →
 Nd ((¬ ((x5 + 1) < (-9223372036854775808))) ∧ ((x5 + 1) < 9223372036854775808)) (
 Nd (¬ ((x6.length : Int) < (x6.length : Int))) (
 Nd ((x6.length : Int) = (x6.length : Int)) (
 Nd (merAInv [.lst x0, .lst x1] [.int x4, .int (x5 + 1), .lst x6, .int 11]) (
 Nd (merAMu [.lst x0, .lst x1] [.int x4, .int (x5 + 1), .lst x6, .int 11] < merAMu [.lst x0, .lst x1] [.int x4, .int x5, .lst x6, .int x7]) (
 True)))))) ∧ (¬ ((Sx.cellAt x1 x5 1).toBool = true) →
 Nd (¬ (x5 < 0)) (
 Nd (x5 < (x1.length : Int)) (
 Nd (¬ (x5 < 0)) (
 Nd (x5 < (x1.length : Int)) (
 Nd (¬ ((x6.length : Int) < (x6.length : Int))) (
 Nd (((x6.length : Int) + 1) < 67108865) (
 Nd ((x6.length : Int) = (x6.length : Int)) (
 Nd ((¬ ((x5 + 1) < (-9223372036854775808))) ∧ ((x5 + 1) < 9223372036854775808)) (
 Nd (¬ (((x6.length : Int) + 1) < ((x6.length : Int) + 1))) (
 Nd (((x6.length : Int) + 1) = ((x6.length : Int) + 1)) (
 Nd (merAInv [.lst x0, .lst x1] [.int x4, .int (x5 + 1), .lst (x6 ++ (Sx.chunk 2 1 [(.str (Sx.cellAt x1 x5 0).toStr), (.str (Sx.cellAt x1 x5 2).toStr)])), .int x7]) (
 Nd (merAMu [.lst x0, .lst x1] [.int x4, .int (x5 + 1), .lst (x6 ++ (Sx.chunk 2 1 [(.str (Sx.cellAt x1 x5 0).toStr), (.str (Sx.cellAt x1 x5 2).toStr)])), .int x7] < merAMu [.lst x0, .lst x1] [.int x4, .int x5, .lst x6, .int x7]) (
 True))))))))))))))))))
def vcApp1 (x0 : Sx.Rows) (x1 : Sx.Rows) (x4 : Int) (x5 : Int) (x6 : Sx.Rows) (x7 : Int) : Prop :=
 Nd (¬ (x4 < 0)) (
 Nd (x4 < (x0.length : Int)) (
 Nd (¬ ((x6.length : Int) < (x6.length : Int))) (
 Nd (((x6.length : Int) + 1) < 67108865) (
 Nd ((x6.length : Int) = (x6.length : Int)) (
 Nd ((¬ ((x4 + 1) < (-9223372036854775808))) ∧ ((x4 + 1) < 9223372036854775808)) (
 Nd (¬ (((x6.length : Int) + 1) < ((x6.length : Int) + 1))) (
 Nd (((x6.length : Int) + 1) = ((x6.length : Int) + 1)) (
 Nd (merAInv [.lst x0, .lst x1] [.int (x4 + 1), .int x5, .lst (x6 ++ (Sx.chunk 2 1 [(.str (Sx.cellAt x0 x4 0).toStr), (.str (Sx.cellAt x0 x4 1).toStr)])), .int x7]) (
 Nd (merAMu [.lst x0, .lst x1] [.int (x4 + 1), .int x5, .lst (x6 ++ (Sx.chunk 2 1 [(.str (Sx.cellAt x0 x4 0).toStr), (.str (Sx.cellAt x0 x4 1).toStr)])), .int x7] < merAMu [.lst x0, .lst x1] [.int x4, .int x5, .lst x6, .int x7]) (
 True))))))))))
def vcApp2 (x0 : Sx.Rows) (x1 : Sx.Rows) (x4 : Int) (x5 : Int) (x6 : Sx.Rows) (x7 : Int) : Prop :=
(((x5 = (x1.length : Int)) →
(vcApp1 x0 x1 x4 x5 x6 x7)) ∧ (¬ (x5 = (x1.length : Int)) →
 Nd (¬ (x4 < 0)) (
 Nd (x4 < (x0.length : Int)) (
 Nd (¬ (x5 < 0)) (
 Nd (x5 < (x1.length : Int)) (
 Nd (cmpPre [.str (Sx.cellAt x0 x4 0).toStr, .str (Sx.cellAt x1 x5 0).toStr]) (
 ∀ x8 : Int,
(cmpRel [.str (Sx.cellAt x0 x4 0).toStr, .str (Sx.cellAt x1 x5 0).toStr] [.int x8]) →
(((x8 < 0) →
(vcApp1 x0 x1 x4 x5 x6 x7)) ∧ (¬ (x8 < 0) →
(((0 < x8) →
(vcApp0 x0 x1 x4 x5 x6 x7)) ∧ (¬ (0 < x8) →
(((x5 < 0) →
 Nd (¬ (x4 < 0)) (
 Nd (x4 < (x0.length : Int)) (
 Nd (¬ ((x6.length : Int) < (x6.length : Int))) (
 Nd (((x6.length : Int) + 1) < 67108865) (
 Nd ((x6.length : Int) = (x6.length : Int)) (
 Nd ((¬ ((x4 + 1) < (-9223372036854775808))) ∧ ((x4 + 1) < 9223372036854775808)) (
 Nd ((¬ ((x5 + 1) < (-9223372036854775808))) ∧ ((x5 + 1) < 9223372036854775808)) (
 Nd (¬ (((x6.length : Int) + 1) < ((x6.length : Int) + 1))) (
 Nd (((x6.length : Int) + 1) = ((x6.length : Int) + 1)) (
 Nd (merAInv [.lst x0, .lst x1] [.int (x4 + 1), .int (x5 + 1), .lst (x6 ++ (Sx.chunk 2 1 [(.str (Sx.cellAt x0 x4 0).toStr), (.str (Sx.cellAt x0 x4 1).toStr)])), .int x7]) (
 Nd (merAMu [.lst x0, .lst x1] [.int (x4 + 1), .int (x5 + 1), .lst (x6 ++ (Sx.chunk 2 1 [(.str (Sx.cellAt x0 x4 0).toStr), (.str (Sx.cellAt x0 x4 1).toStr)])), .int x7] < merAMu [.lst x0, .lst x1] [.int x4, .int x5, .lst x6, .int x7]) (
 True)))))))))))) ∧ (¬ (x5 < 0) →
 Nd (¬ (x5 < 0)) (
 Nd (x5 < (x1.length : Int)) (
((((Sx.cellAt x1 x5 1).toBool = true) →
(((x4 < 0) →
 Nd ((¬ ((x4 + 1) < (-9223372036854775808))) ∧ ((x4 + 1) < 9223372036854775808)) (
 Nd ((¬ ((x5 + 1) < (-9223372036854775808))) ∧ ((x5 + 1) < 9223372036854775808)) (
 Nd (¬ ((x6.length : Int) < (x6.length : Int))) (
 Nd ((x6.length : Int) = (x6.length : Int)) (
 Nd (merAInv [.lst x0, .lst x1] [.int (x4 + 1), .int (x5 + 1), .lst x6, .int 11]) (
 Nd (merAMu [.lst x0, .lst x1] [.int (x4 + 1), .int (x5 + 1), .lst x6, .int 11] < merAMu [.lst x0, .lst x1] [.int x4, .int x5, .lst x6, .int x7]) (
 True))))))) ∧ (¬ (x4 < 0) →
 Nd ((¬ ((x4 + 1) < (-9223372036854775808))) ∧ ((x4 + 1) < 9223372036854775808)) (
 Nd ((¬ ((x5 + 1) < (-9223372036854775808))) ∧ ((x5 + 1) < 9223372036854775808)) (
 Nd (¬ ((x6.length : Int) < (x6.length : Int))) (
 Nd ((x6.length : Int) = (x6.length : Int)) (
 Nd (merAInv [.lst x0, .lst x1] [.int (x4 + 1), .int (x5 + 1), .lst x6, .int x7]) (
 Nd (merAMu [.lst x0, .lst x1] [.int (x4 + 1), .int (x5 + 1), .lst x6, .int x7] < merAMu [.lst x0, .lst x1] [.int x4, .int x5, .lst x6, .int x7]) (
 True))))))))) ∧ (¬ ((Sx.cellAt x1 x5 1).toBool = true) →
 Nd (¬ (x5 < 0)) (
 Nd (x5 < (x1.length : Int)) (
 Nd (¬ (x5 < 0)) (
 Nd (x5 < (x1.length : Int)) (
 Nd (¬ ((x6.length : Int) < (x6.length : Int))) (
 Nd (((x6.length : Int) + 1) < 67108865) (
 Nd ((x6.length : Int) = (x6.length : Int)) (
 Nd ((¬ ((x4 + 1) < (-9223372036854775808))) ∧ ((x4 + 1) < 9223372036854775808)) (
 Nd ((¬ ((x5 + 1) < (-9223372036854775808))) ∧ ((x5 + 1) < 9223372036854775808)) (
 Nd (¬ (((x6.length : Int) + 1) < ((x6.length : Int) + 1))) (
 Nd (((x6.length : Int) + 1) = ((x6.length : Int) + 1)) (
 Nd (merAInv [.lst x0, .lst x1] [.int (x4 + 1), .int (x5 + 1), .lst (x6 ++ (Sx.chunk 2 1 [(.str (Sx.cellAt x1 x5 0).toStr), (.str (Sx.cellAt x1 x5 2).toStr)])), .int x7]) (
 Nd (merAMu [.lst x0, .lst x1] [.int (x4 + 1), .int (x5 + 1), .lst (x6 ++ (Sx.chunk 2 1 [(.str (Sx.cellAt x1 x5 0).toStr), (.str (Sx.cellAt x1 x5 2).toStr)])), .int x7] < merAMu [.lst x0, .lst x1] [.int x4, .int x5, .lst x6, .int x7]) (
 True))))))))))))))))))))))))))))))
/-- What the contract of 'app' asks for. -/
def vcApp : Prop :=
 ∀ x0 : Sx.Rows,
 ∀ x1 : Sx.Rows,
(appPre [.lst x0, .lst x1]) →
 Nd (checkPre [.lst x0]) (
 ∀ x2 : Int,
(checkRel [.lst x0] [.int x2]) →
(((x2 = 0) →
 Nd (ceditsPre [.lst x1]) (
 ∀ x3 : Int,
(ceditsRel [.lst x1] [.int x3]) →
(((x3 = 0) →
 Nd (merAInv [.lst x0, .lst x1] [.int 0, .int 0, .lst ([] : Sx.Rows), .int 0]) (
 ∀ x4 : Int,
 ∀ x5 : Int,
 ∀ x6 : Sx.Rows,
 ∀ x7 : Int,
(merAInv [.lst x0, .lst x1] [.int x4, .int x5, .lst x6, .int x7]) →
(((x4 < (x0.length : Int)) →
 Nd (x4 < (x0.length : Int)) (
 Nd (x4 < (x0.length : Int)) (
 Nd (x4 < (x0.length : Int)) (
 Nd (x4 < (x0.length : Int)) (
(((x4 = (x0.length : Int)) →
(vcApp0 x0 x1 x4 x5 x6 x7)) ∧ (¬ (x4 = (x0.length : Int)) →
(vcApp2 x0 x1 x4 x5 x6 x7)))))))) ∧ (¬ (x4 < (x0.length : Int)) →
 Nd (¬ (x4 < (x0.length : Int))) (
 Nd (¬ (x4 < (x0.length : Int))) (
 Nd (¬ (x4 < (x0.length : Int))) (
 Nd (¬ (x4 < (x0.length : Int))) (
(((x5 < (x1.length : Int)) →
(((x4 = (x0.length : Int)) →
(vcApp0 x0 x1 x4 x5 x6 x7)) ∧ (¬ (x4 = (x0.length : Int)) →
(vcApp2 x0 x1 x4 x5 x6 x7)))) ∧ (¬ (x5 < (x1.length : Int)) →
(((x7 = 0) →
 Nd (x7 = 0) (
 Nd (x7 = 0) (
 Nd (x7 = 0) (
(((8 < (x6.length : Int)) →
 Nd (appRel [.lst x0, .lst x1] [.lst ([] : Sx.Rows), .int 3]) (
 True)) ∧ (¬ (8 < (x6.length : Int)) →
 Nd (x7 = 0) (
 Nd (¬ ((x6.length : Int) < 0)) (
 Nd (¬ ((x6.length : Int) < (x6.length : Int))) (
 Nd (¬ ((x6.length : Int) < (x6.length : Int))) (
 Nd ((x6.length : Int) = (x6.length : Int)) (
 Nd (¬ ((x6.length : Int) < (x6.length : Int))) (
 Nd ((x6.length : Int) = (x6.length : Int)) (
 Nd (appRel [.lst x0, .lst x1] [.lst x6, .int 0]) (
 True)))))))))))))) ∧ (¬ (x7 = 0) →
 Nd (¬ (x7 = 0)) (
 Nd (¬ (x7 = 0)) (
 Nd (¬ (x7 = 0)) (
 Nd (¬ (x7 = 0)) (
 Nd (appRel [.lst x0, .lst x1] [.lst ([] : Sx.Rows), .int x7]) (
 True))))))))))))))))) ∧ (¬ (x3 = 0) →
 Nd (appRel [.lst x0, .lst x1] [.lst ([] : Sx.Rows), .int x3]) (
 True))))) ∧ (¬ (x2 = 0) →
 Nd (appRel [.lst x0, .lst x1] [.lst ([] : Sx.Rows), .int x2]) (
 True))))
theorem vcApp_eq : (cvc Go.Proofs.Try.prog U0 cApp (sxF Go.Proofs.Try.prog U0 annsA (conOf Go.Proofs.Try.prog U0 (stageA 1)) 400 10)).vc U0 (fun _ => True) = vcApp := by kernel_rfl
def vcComp0 (x0 : Sx.Rows) (x1 : Sx.Rows) (x4 : Int) (x5 : Int) (x6 : Sx.Rows) : Prop :=
(((x5 < 0) →
 Nd (false = true) (
 Nd ((-1) < (x0.length : Int)) (
 Nd (¬ ((x6.length : Int) < (x6.length : Int))) (
 Nd (((x6.length : Int) + 1) < 67108865) (
 Nd ((x6.length : Int) = (x6.length : Int)) (
 Nd ((¬ ((x5 + 1) < (-9223372036854775808))) ∧ ((x5 + 1) < 9223372036854775808)) (
 Nd (¬ (((x6.length : Int) + 1) < ((x6.length : Int) + 1))) (
 Nd (((x6.length : Int) + 1) = ((x6.length : Int) + 1)) (
 Nd (merCInv [.lst x0, .lst x1] [.int x4, .int (x5 + 1), .lst (x6 ++ (Sx.chunk 3 1 [(.str (Sx.cellAt x0 (-1) 0).toStr), (.bool (Sx.cellAt x0 (-1) 1).toBool), (.str (Sx.cellAt x0 (-1) 2).toStr)]))]) (
 Nd (merCMu [.lst x0, .lst x1] [.int x4, .int (x5 + 1), .lst (x6 ++ (Sx.chunk 3 1 [(.str (Sx.cellAt x0 (-1) 0).toStr), (.bool (Sx.cellAt x0 (-1) 1).toBool), (.str (Sx.cellAt x0 (-1) 2).toStr)]))] < merCMu [.lst x0, .lst x1] [.int x4, .int x5, .lst x6]) (
 True))))))))))) ∧ (¬ (x5 < 0) →
 Nd (¬ (x5 < 0)) (
 Nd (x5 < (x1.length : Int)) (
 Nd (¬ ((x6.length : Int) < (x6.length : Int))) (
 Nd (((x6.length : Int) + 1) < 67108865) (
 Nd ((x6.length : Int) = (x6.length : Int)) (
 Nd ((¬ ((x5 + 1) < (-9223372036854775808))) ∧ ((x5 + 1) < 9223372036854775808)) (
 Nd (¬ (((x6.length : Int) + 1) < ((x6.length : Int) + 1))) (
 Nd (((x6.length : Int) + 1) = ((x6.length : Int) + 1)) (
 Nd (merCInv [.lst x0, .lst x1] [.int x4, .int (x5 + 1), .lst (x6 ++ (Sx.chunk 3 1 [(.str (Sx.cellAt x1 x5 0).toStr), (.bool (Sx.cellAt x1 x5 1).toBool), (.str (Sx.cellAt x1 x5 2).toStr)]))]) (
 Nd (merCMu [.lst x0, .lst x1] [.int x4, .int (x5 + 1), .lst (x6 ++ (Sx.chunk 3 1 [(.str (Sx.cellAt x1 x5 0).toStr), (.bool (Sx.cellAt x1 x5 1).toBool), (.str (Sx.cellAt x1 x5 2).toStr)]))] < merCMu [.lst x0, .lst x1] [.int x4, .int x5, .lst x6]) (
 True))))))))))))
def vcComp1 (x0 : Sx.Rows) (x1 : Sx.Rows) (x4 : Int) (x5 : Int) (x6 : Sx.Rows) : Prop :=
 Nd (¬ (x4 < 0)) (
 Nd (x4 < (x0.length : Int)) (
 Nd (¬ ((x6.length : Int) < (x6.length : Int))) (
 Nd (((x6.length : Int) + 1) < 67108865) (
 Nd ((x6.length : Int) = (x6.length : Int)) (
 Nd ((¬ ((x4 + 1) < (-9223372036854775808))) ∧ ((x4 + 1) < 9223372036854775808)) (
 Nd (¬ (((x6.length : Int) + 1) < ((x6.length : Int) + 1))) (
 Nd (((x6.length : Int) + 1) = ((x6.length : Int) + 1)) (
 Nd (merCInv [.lst x0, .lst x1] [.int (x4 + 1), .int x5, .lst (x6 ++ (Sx.chunk 3 1 [(.str (Sx.cellAt x0 x4 0).toStr), (.bool (Sx.cellAt x0 x4 1).toBool), (.str (Sx.cellAt x0 x4 2).toStr)]))]) (
 Nd (merCMu [.lst x0, .lst x1] [.int (x4 + 1), .int x5, .lst (x6 ++ (Sx.chunk 3 1 [(.str (Sx.cellAt x0 x4 0).toStr), (.bool (Sx.cellAt x0 x4 1).toBool), (.str (Sx.cellAt x0 x4 2).toStr)]))] < merCMu [.lst x0, .lst x1] [.int x4, .int x5, .lst x6]) (
 True))))))))))
def vcComp2 (x0 : Sx.Rows) (x1 : Sx.Rows) (x4 : Int) (x5 : Int) (x6 : Sx.Rows) : Prop :=
(((x5 = (x1.length : Int)) →
(vcComp1 x0 x1 x4 x5 x6)) ∧ (¬ (x5 = (x1.length : Int)) →
 Nd (¬ (x4 < 0)) (
 Nd (x4 < (x0.length : Int)) (
 Nd (¬ (x5 < 0)) (
 Nd (x5 < (x1.length : Int)) (
 Nd (cmpPre [.str (Sx.cellAt x0 x4 0).toStr, .str (Sx.cellAt x1 x5 0).toStr]) (
 ∀ x7 : Int,
(cmpRel [.str (Sx.cellAt x0 x4 0).toStr, .str (Sx.cellAt x1 x5 0).toStr] [.int x7]) →
(((x7 < 0) →
(vcComp1 x0 x1 x4 x5 x6)) ∧ (¬ (x7 < 0) →
(((0 < x7) →
(vcComp0 x0 x1 x4 x5 x6)) ∧ (¬ (0 < x7) →
(((x5 < 0) →
 Nd (¬ (x4 < 0)) (
 Nd (x4 < (x0.length : Int)) (
 Nd (¬ ((x6.length : Int) < (x6.length : Int))) (
 Nd (((x6.length : Int) + 1) < 67108865) (
 Nd ((x6.length : Int) = (x6.length : Int)) (
 Nd ((¬ ((x4 + 1) < (-9223372036854775808))) ∧ ((x4 + 1) < 9223372036854775808)) (
 Nd ((¬ ((x5 + 1) < (-9223372036854775808))) ∧ ((x5 + 1) < 9223372036854775808)) (
 Nd (¬ (((x6.length : Int) + 1) < ((x6.length : Int) + 1))) (
 Nd (((x6.length : Int) + 1) = ((x6.length : Int) + 1)) (
 Nd (merCInv [.lst x0, .lst x1] [.int (x4 + 1), .int (x5 + 1), .lst (x6 ++ (Sx.chunk 3 1 [(.str (Sx.cellAt x0 x4 0).toStr), (.bool (Sx.cellAt x0 x4 1).toBool), (.str (Sx.cellAt x0 x4 2).toStr)]))]) (
 Nd (merCMu [.lst x0, .lst x1] [.int (x4 + 1), .int (x5 + 1), .lst (x6 ++ (Sx.chunk 3 1 [(.str (Sx.cellAt x0 x4 0).toStr), (.bool (Sx.cellAt x0 x4 1).toBool), (.str (Sx.cellAt x0 x4 2).toStr)]))] < merCMu [.lst x0, .lst x1] [.int x4, .int x5, .lst x6]) (
 True)))))))))))) ∧ (¬ (x5 < 0) →
 Nd (¬ (x5 < 0)) (
 Nd (x5 < (x1.length : Int)) (
 Nd (¬ ((x6.length : Int) < (x6.length : Int))) (
 Nd (((x6.length : Int) + 1) < 67108865) (
 Nd ((x6.length : Int) = (x6.length : Int)) (
 Nd ((¬ ((x4 + 1) < (-9223372036854775808))) ∧ ((x4 + 1) < 9223372036854775808)) (
 Nd ((¬ ((x5 + 1) < (-9223372036854775808))) ∧ ((x5 + 1) < 9223372036854775808)) (
 Nd (¬ (((x6.length : Int) + 1) < ((x6.length : Int) + 1))) (
 Nd (((x6.length : Int) + 1) = ((x6.length : Int) + 1)) (
 Nd (merCInv [.lst x0, .lst x1] [.int (x4 + 1), .int (x5 + 1), .lst (x6 ++ (Sx.chunk 3 1 [(.str (Sx.cellAt x1 x5 0).toStr), (.bool (Sx.cellAt x1 x5 1).toBool), (.str (Sx.cellAt x1 x5 2).toStr)]))]) (
 Nd (merCMu [.lst x0, .lst x1] [.int (x4 + 1), .int (x5 + 1), .lst (x6 ++ (Sx.chunk 3 1 [(.str (Sx.cellAt x1 x5 0).toStr), (.bool (Sx.cellAt x1 x5 1).toBool), (.str (Sx.cellAt x1 x5 2).toStr)]))] < merCMu [.lst x0, .lst x1] [.int x4, .int x5, .lst x6]) (
 True))))))))))))))))))))))))
/-- What the contract of 'comp' asks for. -/
def vcComp : Prop :=
 ∀ x0 : Sx.Rows,
 ∀ x1 : Sx.Rows,
(compPre [.lst x0, .lst x1]) →
 Nd (ceditsPre [.lst x0]) (
 ∀ x2 : Int,
(ceditsRel [.lst x0] [.int x2]) →
(((x2 = 0) →
 Nd (ceditsPre [.lst x1]) (
 ∀ x3 : Int,
(ceditsRel [.lst x1] [.int x3]) →
(((x3 = 0) →
 Nd (merCInv [.lst x0, .lst x1] [.int 0, .int 0, .lst ([] : Sx.Rows)]) (
 ∀ x4 : Int,
 ∀ x5 : Int,
 ∀ x6 : Sx.Rows,
(merCInv [.lst x0, .lst x1] [.int x4, .int x5, .lst x6]) →
(((x4 < (x0.length : Int)) →
 Nd (x4 < (x0.length : Int)) (
 Nd (x4 < (x0.length : Int)) (
 Nd (x4 < (x0.length : Int)) (
 Nd (x4 < (x0.length : Int)) (
(((x4 = (x0.length : Int)) →
(vcComp0 x0 x1 x4 x5 x6)) ∧ (¬ (x4 = (x0.length : Int)) →
(vcComp2 x0 x1 x4 x5 x6)))))))) ∧ (¬ (x4 < (x0.length : Int)) →
 Nd (¬ (x4 < (x0.length : Int))) (
 Nd (¬ (x4 < (x0.length : Int))) (
 Nd (¬ (x4 < (x0.length : Int))) (
 Nd (¬ (x4 < (x0.length : Int))) (
(((x5 < (x1.length : Int)) →
(((x4 = (x0.length : Int)) →
(vcComp0 x0 x1 x4 x5 x6)) ∧ (¬ (x4 = (x0.length : Int)) →
(vcComp2 x0 x1 x4 x5 x6)))) ∧ (¬ (x5 < (x1.length : Int)) →
 Nd (¬ ((x6.length : Int) < 0)) (
 Nd (¬ ((x6.length : Int) < (x6.length : Int))) (
 Nd (¬ ((x6.length : Int) < (x6.length : Int))) (
 Nd ((x6.length : Int) = (x6.length : Int)) (
 Nd (¬ ((x6.length : Int) < (x6.length : Int))) (
 Nd ((x6.length : Int) = (x6.length : Int)) (
 Nd (compRel [.lst x0, .lst x1] [.lst x6, .int 0]) (
 True))))))))))))))))) ∧ (¬ (x3 = 0) →
 Nd (compRel [.lst x0, .lst x1] [.lst ([] : Sx.Rows), .int x3]) (
 True))))) ∧ (¬ (x2 = 0) →
 Nd (compRel [.lst x0, .lst x1] [.lst ([] : Sx.Rows), .int x2]) (
 True))))
theorem vcComp_eq : (cvc Go.Proofs.Try.prog U0 cComp (sxF Go.Proofs.Try.prog U0 annsA (conOf Go.Proofs.Try.prog U0 (stageA 1)) 400 17)).vc U0 (fun _ => True) = vcComp := by kernel_rfl
end Go.C13
