/- The conditions of contracts, as the engine's printer has written them, and that the kernel comes to the same.
  Conditions: none. -/
import Derived.Test.YtdhbegidnfapjaaB12
import Derived.Test.YtdhbegidnfapjaaRows
import Derived.KernelRfl
set_option linter.unusedVariables false
set_option maxRecDepth 100000
namespace Go.C15
open Go Go.Xe Go.Sx
def vcBack0 (x0 : Sx.Rows) (x1 : Sx.Rows) (x3 : Sx.Rows) (x4 : Sx.Rows) (x14 : Sx.Rows) (x19 : Sx.Rows) (x20 : Int) (x21 : Int) : Prop :=
 Nd (¬ ((x3.length : Int) < (x3.length : Int))) (
 Nd ((x3.length : Int) = (x3.length : Int)) (
 Nd (¬ ((x4.length : Int) < (x4.length : Int))) (
 Nd ((x4.length : Int) = (x4.length : Int)) (
 Nd (¬ ((x14.length : Int) < (x14.length : Int))) (
 Nd ((x14.length : Int) = (x14.length : Int)) (
 Nd (¬ ((x19.length : Int) < (x19.length : Int))) (
 Nd ((x19.length : Int) = (x19.length : Int)) (
 Nd (samePre [.lst x3, .lst x4, .lst x14, .lst x19, .int x20, .int x21]) (
 ∀ x22 : Int,
 ∀ x23 : Sx.Rows,
 ∀ x24 : Sx.Rows,
 ∀ x25 : Sx.Rows,
 ∀ x26 : Sx.Rows,
 ∀ x27 : Int,
 ∀ x28 : Int,
(sameRel [.lst x3, .lst x4, .lst x14, .lst x19, .int x20, .int x21] [.int x22, .lst x23, .lst x24, .lst x25, .lst x26, .int x27, .int x28]) →
(((x22 = 1) →
 Nd (livesPre []) (
 ∀ x29 : Bool,
(livesRel [] [.bool x29]) →
 Nd (x22 = 1) (
 Nd (backRel [.lst x0, .lst x1] [.bool x29]) (
 True)))) ∧ (¬ (x22 = 1) →
 Nd (¬ (x22 = 1)) (
 Nd (backRel [.lst x0, .lst x1] [.bool false]) (
 True)))))))))))))
def vcBack1 (x3 : Sx.Rows) (x4 : Sx.Rows) (x9 : Sx.Rows) (x10 : Sx.Rows) (x18 : Int) (x19 : Sx.Rows) (x20 : Int) (x21 : Int) (x23 : Sx.Rows) (x24 : Int) (x25 : Int) : Prop :=
 Nd ((¬ ((x18 + (-1)) < (-9223372036854775808))) ∧ ((x18 + (-1)) < 9223372036854775808)) (
 Nd (¬ ((x23.length : Int) < (x23.length : Int))) (
 Nd ((x23.length : Int) = (x23.length : Int)) (
 Nd (backUInv [.lst x3, .lst x4, .lst x9, .lst x10] [.int (x18 + (-1)), .lst x23, .int x24, .int x25]) (
 Nd (backUMu [.lst x3, .lst x4, .lst x9, .lst x10] [.int (x18 + (-1)), .lst x23, .int x24, .int x25] < backUMu [.lst x3, .lst x4, .lst x9, .lst x10] [.int x18, .lst x19, .int x20, .int x21]) (
 True)))))
def vcBack2 (x0 : Sx.Rows) (x1 : Sx.Rows) (x3 : Sx.Rows) (x4 : Sx.Rows) (x9 : Sx.Rows) (x10 : Sx.Rows) (x18 : Int) (x19 : Sx.Rows) (x20 : Int) (x21 : Int) : Prop :=
 Nd (¬ (x18 < 0)) (
 Nd (x18 < (x9.length : Int)) (
 Nd (x18 < (x9.length : Int)) (
((((Sx.cellAt x9 x18 0).toInt = 0) →
 Nd ((Sx.cellAt x9 x18 0).toInt = 0) (
 Nd (¬ (x18 < 0)) (
 Nd (x18 < (x10.length : Int)) (
 Nd (x18 < (x10.length : Int)) (
 Nd (¬ ((x19.length : Int) < (x19.length : Int))) (
 Nd ((x19.length : Int) = (x19.length : Int)) (
 Nd (auntakePre [.int (Sx.cellAt x10 x18 0).toInt, .int (Sx.cellAt x10 x18 1).toInt, .lst x19, .int x20, .int x21]) (
 ∀ x22 : Int,
 ∀ x23 : Sx.Rows,
 ∀ x24 : Int,
 ∀ x25 : Int,
(auntakeRel [.int (Sx.cellAt x10 x18 0).toInt, .int (Sx.cellAt x10 x18 1).toInt, .lst x19, .int x20, .int x21] [.int x22, .lst x23, .int x24, .int x25]) →
(((x22 = 0) →
(vcBack1 x3 x4 x9 x10 x18 x19 x20 x21 x23 x24 x25)) ∧ (¬ (x22 = 0) →
 Nd (backRel [.lst x0, .lst x1] [.bool false]) (
 True))))))))))) ∧ (¬ ((Sx.cellAt x9 x18 0).toInt = 0) →
((((Sx.cellAt x9 x18 0).toInt = 1) →
 Nd ((Sx.cellAt x9 x18 0).toInt = 1) (
 Nd (¬ (x18 < 0)) (
 Nd (x18 < (x10.length : Int)) (
 Nd (x18 < (x10.length : Int)) (
 Nd (¬ ((x19.length : Int) < (x19.length : Int))) (
 Nd ((x19.length : Int) = (x19.length : Int)) (
 Nd (auntakePre [.int (Sx.cellAt x10 x18 0).toInt, .int (Sx.cellAt x10 x18 1).toInt, .lst x19, .int x20, .int x21]) (
 ∀ x22 : Int,
 ∀ x23 : Sx.Rows,
 ∀ x24 : Int,
 ∀ x25 : Int,
(auntakeRel [.int (Sx.cellAt x10 x18 0).toInt, .int (Sx.cellAt x10 x18 1).toInt, .lst x19, .int x20, .int x21] [.int x22, .lst x23, .int x24, .int x25]) →
(((x22 = 0) →
(vcBack1 x3 x4 x9 x10 x18 x19 x20 x21 x23 x24 x25)) ∧ (¬ (x22 = 0) →
 Nd (backRel [.lst x0, .lst x1] [.bool false]) (
 True))))))))))) ∧ (¬ ((Sx.cellAt x9 x18 0).toInt = 1) →
((((Sx.cellAt x9 x18 0).toInt = 2) →
 Nd (¬ (x18 < 0)) (
 Nd (x18 < (x10.length : Int)) (
 Nd (x18 < (x10.length : Int)) (
 Nd (¬ ((x19.length : Int) < (x19.length : Int))) (
 Nd ((x19.length : Int) = (x19.length : Int)) (
 Nd (auntakePre [.int (Sx.cellAt x10 x18 0).toInt, .int (Sx.cellAt x10 x18 1).toInt, .lst x19, .int x20, .int x21]) (
 ∀ x22 : Int,
 ∀ x23 : Sx.Rows,
 ∀ x24 : Int,
 ∀ x25 : Int,
(auntakeRel [.int (Sx.cellAt x10 x18 0).toInt, .int (Sx.cellAt x10 x18 1).toInt, .lst x19, .int x20, .int x21] [.int x22, .lst x23, .int x24, .int x25]) →
(((x22 = 0) →
(vcBack1 x3 x4 x9 x10 x18 x19 x20 x21 x23 x24 x25)) ∧ (¬ (x22 = 0) →
 Nd (backRel [.lst x0, .lst x1] [.bool false]) (
 True)))))))))) ∧ (¬ ((Sx.cellAt x9 x18 0).toInt = 2) →
((((Sx.cellAt x9 x18 0).toInt = 3) →
 Nd ((Sx.cellAt x9 x18 0).toInt = 3) (
 Nd (¬ (x18 < 0)) (
 Nd (x18 < (x10.length : Int)) (
 Nd (x18 < (x10.length : Int)) (
 Nd (¬ (x18 < 0)) (
 Nd (x18 < (x9.length : Int)) (
 Nd (x18 < (x9.length : Int)) (
 Nd ((¬ ((Sx.cellAt x9 x18 2).toInt < (-9223372036854775808))) ∧ ((Sx.cellAt x9 x18 2).toInt < 9223372036854775808)) (
 Nd (¬ ((x19.length : Int) < (x19.length : Int))) (
 Nd ((x19.length : Int) = (x19.length : Int)) (
 Nd (aunfreePre [.int (Sx.cellAt x10 x18 0).toInt, .int (Sx.cellAt x10 x18 1).toInt, .int (Sx.cellAt x9 x18 2).toInt, .lst x19, .int x20, .int x21]) (
 ∀ x22 : Int,
 ∀ x23 : Sx.Rows,
 ∀ x24 : Int,
 ∀ x25 : Int,
(aunfreeRel [.int (Sx.cellAt x10 x18 0).toInt, .int (Sx.cellAt x10 x18 1).toInt, .int (Sx.cellAt x9 x18 2).toInt, .lst x19, .int x20, .int x21] [.int x22, .lst x23, .int x24, .int x25]) →
(((x22 = 0) →
(vcBack1 x3 x4 x9 x10 x18 x19 x20 x21 x23 x24 x25)) ∧ (¬ (x22 = 0) →
 Nd (backRel [.lst x0, .lst x1] [.bool false]) (
 True))))))))))))))) ∧ (¬ ((Sx.cellAt x9 x18 0).toInt = 3) →
((((Sx.cellAt x9 x18 0).toInt = 4) →
 Nd (¬ (x18 < 0)) (
 Nd (x18 < (x10.length : Int)) (
 Nd (x18 < (x10.length : Int)) (
 Nd (¬ (x18 < 0)) (
 Nd (x18 < (x9.length : Int)) (
 Nd (x18 < (x9.length : Int)) (
 Nd ((¬ ((Sx.cellAt x9 x18 2).toInt < (-9223372036854775808))) ∧ ((Sx.cellAt x9 x18 2).toInt < 9223372036854775808)) (
 Nd (¬ ((x19.length : Int) < (x19.length : Int))) (
 Nd ((x19.length : Int) = (x19.length : Int)) (
 Nd (aunfreePre [.int (Sx.cellAt x10 x18 0).toInt, .int (Sx.cellAt x10 x18 1).toInt, .int (Sx.cellAt x9 x18 2).toInt, .lst x19, .int x20, .int x21]) (
 ∀ x22 : Int,
 ∀ x23 : Sx.Rows,
 ∀ x24 : Int,
 ∀ x25 : Int,
(aunfreeRel [.int (Sx.cellAt x10 x18 0).toInt, .int (Sx.cellAt x10 x18 1).toInt, .int (Sx.cellAt x9 x18 2).toInt, .lst x19, .int x20, .int x21] [.int x22, .lst x23, .int x24, .int x25]) →
(((x22 = 0) →
(vcBack1 x3 x4 x9 x10 x18 x19 x20 x21 x23 x24 x25)) ∧ (¬ (x22 = 0) →
 Nd (backRel [.lst x0, .lst x1] [.bool false]) (
 True)))))))))))))) ∧ (¬ ((Sx.cellAt x9 x18 0).toInt = 4) →
 Nd (¬ (x18 < 0)) (
 Nd (x18 < (x10.length : Int)) (
 Nd (x18 < (x10.length : Int)) (
 Nd (¬ (x18 < 0)) (
 Nd (x18 < (x9.length : Int)) (
 Nd (x18 < (x9.length : Int)) (
 Nd ((¬ ((Sx.cellAt x9 x18 2).toInt < (-9223372036854775808))) ∧ ((Sx.cellAt x9 x18 2).toInt < 9223372036854775808)) (
 Nd (¬ ((x19.length : Int) < (x19.length : Int))) (
 Nd ((x19.length : Int) = (x19.length : Int)) (
 Nd (asetPre [.int (Sx.cellAt x10 x18 0).toInt, .int (Sx.cellAt x10 x18 1).toInt, .int (Sx.cellAt x9 x18 2).toInt, .lst x19, .int x20, .int x21]) (
 ∀ x22 : Int,
 ∀ x23 : Sx.Rows,
 ∀ x24 : Int,
 ∀ x25 : Int,
(asetRel [.int (Sx.cellAt x10 x18 0).toInt, .int (Sx.cellAt x10 x18 1).toInt, .int (Sx.cellAt x9 x18 2).toInt, .lst x19, .int x20, .int x21] [.int x22, .lst x23, .int x24, .int x25]) →
(((x22 = 0) →
(vcBack1 x3 x4 x9 x10 x18 x19 x20 x21 x23 x24 x25)) ∧ (¬ (x22 = 0) →
 Nd (backRel [.lst x0, .lst x1] [.bool false]) (
 True))))))))))))))))))))))))))
def vcBack3 (x0 : Sx.Rows) (x1 : Sx.Rows) (x3 : Sx.Rows) (x4 : Sx.Rows) (x9 : Sx.Rows) (x10 : Sx.Rows) (x11 : Int) (x12 : Sx.Rows) (x13 : Sx.Rows) (x14 : Sx.Rows) (x15 : Sx.Rows) (x16 : Int) (x17 : Int) : Prop :=
 Nd (x11 < (x1.length : Int)) (
 Nd (x11 < (x1.length : Int)) (
(((x11 < 40) →
 Nd (¬ (x11 < 0)) (
 Nd (x11 < (x1.length : Int)) (
((((((x14.length : Int) = 0) →
 Nd (pickRel [.int (((Sx.cellAt x1 x11 0).toInt : Int).tmod (6)), .int (Sx.cellAt x1 x11 1).toInt, .int (Sx.cellAt x1 x11 2).toInt, .lst x14] [.int 0, .int 0]) (
 True)) ∧ (¬ ((x14.length : Int) = 0) →
 Nd ((¬ ((Sx.cellAt x1 x11 1).toInt < (-9223372036854775808))) ∧ ((Sx.cellAt x1 x11 1).toInt < 9223372036854775808)) (
 Nd (¬ ((x14.length : Int) = 0)) (
 Nd (¬ ((((Sx.cellAt x1 x11 1).toInt : Int).tmod ((x14.length : Int))) < 0)) (
 Nd ((((Sx.cellAt x1 x11 1).toInt : Int).tmod ((x14.length : Int))) < (x14.length : Int)) (
 Nd ((((Sx.cellAt x1 x11 1).toInt : Int).tmod ((x14.length : Int))) < (x14.length : Int)) (
((((Sx.cellAt x1 x11 1).toInt = 251) →
 Nd (pickRel [.int (((Sx.cellAt x1 x11 0).toInt : Int).tmod (6)), .int (Sx.cellAt x1 x11 1).toInt, .int (Sx.cellAt x1 x11 2).toInt, .lst x14] [.int (Sx.cellAt x14 (((Sx.cellAt x1 x11 1).toInt : Int).tmod ((x14.length : Int))) 0).toInt, .int (IntKind.wrap .u32 ((Sx.cellAt x14 (((Sx.cellAt x1 x11 1).toInt : Int).tmod ((x14.length : Int))) 1).toInt + 1))]) (
 True)) ∧ (¬ ((Sx.cellAt x1 x11 1).toInt = 251) →
((((Sx.cellAt x1 x11 1).toInt = 252) →
 Nd (pickRel [.int (((Sx.cellAt x1 x11 0).toInt : Int).tmod (6)), .int (Sx.cellAt x1 x11 1).toInt, .int (Sx.cellAt x1 x11 2).toInt, .lst x14] [.int (Sx.cellAt x14 (((Sx.cellAt x1 x11 1).toInt : Int).tmod ((x14.length : Int))) 0).toInt, .int (IntKind.wrap .u32 ((Sx.cellAt x14 (((Sx.cellAt x1 x11 1).toInt : Int).tmod ((x14.length : Int))) 1).toInt + (-1)))]) (
 True)) ∧ (¬ ((Sx.cellAt x1 x11 1).toInt = 252) →
((((Sx.cellAt x1 x11 1).toInt = 253) →
 Nd (pickRel [.int (((Sx.cellAt x1 x11 0).toInt : Int).tmod (6)), .int (Sx.cellAt x1 x11 1).toInt, .int (Sx.cellAt x1 x11 2).toInt, .lst x14] [.int (IntKind.wrap .u32 ((Sx.cellAt x14 (((Sx.cellAt x1 x11 1).toInt : Int).tmod ((x14.length : Int))) 0).toInt + 1)), .int (Sx.cellAt x14 (((Sx.cellAt x1 x11 1).toInt : Int).tmod ((x14.length : Int))) 1).toInt]) (
 True)) ∧ (¬ ((Sx.cellAt x1 x11 1).toInt = 253) →
((((Sx.cellAt x1 x11 1).toInt = 254) →
 Nd (pickRel [.int (((Sx.cellAt x1 x11 0).toInt : Int).tmod (6)), .int (Sx.cellAt x1 x11 1).toInt, .int (Sx.cellAt x1 x11 2).toInt, .lst x14] [.int 0, .int 0]) (
 True)) ∧ (¬ ((Sx.cellAt x1 x11 1).toInt = 254) →
((((Sx.cellAt x1 x11 1).toInt = 255) →
 Nd (pickRel [.int (((Sx.cellAt x1 x11 0).toInt : Int).tmod (6)), .int (Sx.cellAt x1 x11 1).toInt, .int (Sx.cellAt x1 x11 2).toInt, .lst x14] [.int 4294967295, .int 4294967295]) (
 True)) ∧ (¬ ((Sx.cellAt x1 x11 1).toInt = 255) →
 Nd (pickRel [.int (((Sx.cellAt x1 x11 0).toInt : Int).tmod (6)), .int (Sx.cellAt x1 x11 1).toInt, .int (Sx.cellAt x1 x11 2).toInt, .lst x14] [.int (Sx.cellAt x14 (((Sx.cellAt x1 x11 1).toInt : Int).tmod ((x14.length : Int))) 0).toInt, .int (Sx.cellAt x14 (((Sx.cellAt x1 x11 1).toInt : Int).tmod ((x14.length : Int))) 1).toInt]) (
 True))))))))))))))))))) ∧ (∀ x18 : Int,
 ∀ x19 : Int,
(pickRel [.int (((Sx.cellAt x1 x11 0).toInt : Int).tmod (6)), .int (Sx.cellAt x1 x11 1).toInt, .int (Sx.cellAt x1 x11 2).toInt, .lst x14] [.int x18, .int x19]) →
(((2 < (((Sx.cellAt x1 x11 0).toInt : Int).tmod (6))) →
 Nd (2 < (((Sx.cellAt x1 x11 0).toInt : Int).tmod (6))) (
 Nd (2 < (((Sx.cellAt x1 x11 0).toInt : Int).tmod (6))) (
 Nd (2 < (((Sx.cellAt x1 x11 0).toInt : Int).tmod (6))) (
 Nd (2 < (((Sx.cellAt x1 x11 0).toInt : Int).tmod (6))) (
 Nd (2 < (((Sx.cellAt x1 x11 0).toInt : Int).tmod (6))) (
 Nd (rvalidPre [.lst x12, .lst x13, .int x18, .int x19]) (
 ∀ x20 : Bool,
(rvalidRel [.lst x12, .lst x13, .int x18, .int x19] [.bool x20]) →
 Nd (2 < (((Sx.cellAt x1 x11 0).toInt : Int).tmod (6))) (
 Nd (2 < (((Sx.cellAt x1 x11 0).toInt : Int).tmod (6))) (
(((x20 = true) →
 Nd (2 < (((Sx.cellAt x1 x11 0).toInt : Int).tmod (6))) (
 Nd (¬ (x18 < 0)) (
 Nd (x18 < (x12.length : Int)) (
 Nd (¬ (x11 < 0)) (
 Nd (x11 < (x1.length : Int)) (
 Nd (¬ ((x14.length : Int) < (x14.length : Int))) (
 Nd ((x14.length : Int) = (x14.length : Int)) (
 Nd (¬ ((x15.length : Int) < (x15.length : Int))) (
 Nd ((x15.length : Int) = (x15.length : Int)) (
 Nd (doPre [.int (((Sx.cellAt x1 x11 0).toInt : Int).tmod (6)), .int (Sx.cellAt x1 x11 1).toInt, .int (Sx.cellAt x1 x11 2).toInt, .lst x12, .lst x13, .lst x14, .lst x15, .int x16, .int x17]) (
 ∀ x21 : Int,
 ∀ x22 : Sx.Rows,
 ∀ x23 : Sx.Rows,
 ∀ x24 : Sx.Rows,
 ∀ x25 : Sx.Rows,
 ∀ x26 : Int,
 ∀ x27 : Int,
(doRel [.int (((Sx.cellAt x1 x11 0).toInt : Int).tmod (6)), .int (Sx.cellAt x1 x11 1).toInt, .int (Sx.cellAt x1 x11 2).toInt, .lst x12, .lst x13, .lst x14, .lst x15, .int x16, .int x17] [.int x21, .lst x22, .lst x23, .lst x24, .lst x25, .int x26, .int x27]) →
(((x21 = 0) →
 Nd (backRel [.lst x0, .lst x1] [.bool false]) (
 True)) ∧ (¬ (x21 = 0) →
((((((Sx.cellAt x1 x11 0).toInt : Int).tmod (6)) < 3) →
 Nd ((¬ (((x24.length : Int) + (-1)) < (-9223372036854775808))) ∧ (((x24.length : Int) + (-1)) < 9223372036854775808)) (
 Nd (¬ (((x24.length : Int) + (-1)) < 0)) (
 Nd (((x24.length : Int) + (-1)) < (x24.length : Int)) (
 Nd (((x24.length : Int) + (-1)) < (x24.length : Int)) (
 Nd (¬ ((x9.length : Int) < (x9.length : Int))) (
 Nd (((x9.length : Int) + 1) < 67108865) (
 Nd ((x9.length : Int) = (x9.length : Int)) (
 Nd (¬ ((x10.length : Int) < (x10.length : Int))) (
 Nd (((x10.length : Int) + 1) < 67108865) (
 Nd ((x10.length : Int) = (x10.length : Int)) (
 Nd ((¬ ((x11 + 1) < (-9223372036854775808))) ∧ ((x11 + 1) < 9223372036854775808)) (
 Nd (¬ (((x9.length : Int) + 1) < ((x9.length : Int) + 1))) (
 Nd (((x9.length : Int) + 1) = ((x9.length : Int) + 1)) (
 Nd (¬ (((x10.length : Int) + 1) < ((x10.length : Int) + 1))) (
 Nd (((x10.length : Int) + 1) = ((x10.length : Int) + 1)) (
 Nd (¬ ((x24.length : Int) < (x24.length : Int))) (
 Nd ((x24.length : Int) = (x24.length : Int)) (
 Nd (¬ ((x25.length : Int) < (x25.length : Int))) (
 Nd ((x25.length : Int) = (x25.length : Int)) (
 Nd (backMInv [.lst x3, .lst x4] [.lst (x9 ++ (Sx.chunk 3 1 [(.int (((Sx.cellAt x1 x11 0).toInt : Int).tmod (6))), (.int (Sx.cellAt x1 x11 1).toInt), (.int (IntKind.wrap .u8 (Sx.cellAt x12 x18 2).toInt))])), .lst (x10 ++ (Sx.chunk 2 1 [(.int (Sx.cellAt x24 ((x24.length : Int) + (-1)) 0).toInt), (.int (Sx.cellAt x24 ((x24.length : Int) + (-1)) 1).toInt)])), .int (x11 + 1), .lst x22, .lst x23, .lst x24, .lst x25, .int x26, .int x27]) (
 Nd (backMMu [.lst x3, .lst x4] [.lst (x9 ++ (Sx.chunk 3 1 [(.int (((Sx.cellAt x1 x11 0).toInt : Int).tmod (6))), (.int (Sx.cellAt x1 x11 1).toInt), (.int (IntKind.wrap .u8 (Sx.cellAt x12 x18 2).toInt))])), .lst (x10 ++ (Sx.chunk 2 1 [(.int (Sx.cellAt x24 ((x24.length : Int) + (-1)) 0).toInt), (.int (Sx.cellAt x24 ((x24.length : Int) + (-1)) 1).toInt)])), .int (x11 + 1), .lst x22, .lst x23, .lst x24, .lst x25, .int x26, .int x27] < backMMu [.lst x3, .lst x4] [.lst x9, .lst x10, .int x11, .lst x12, .lst x13, .lst x14, .lst x15, .int x16, .int x17]) (
 True)))))))))))))))))))))) ∧ (¬ ((((Sx.cellAt x1 x11 0).toInt : Int).tmod (6)) < 3) →
 Nd (¬ ((x9.length : Int) < (x9.length : Int))) (
 Nd (((x9.length : Int) + 1) < 67108865) (
 Nd ((x9.length : Int) = (x9.length : Int)) (
 Nd (¬ ((x10.length : Int) < (x10.length : Int))) (
 Nd (((x10.length : Int) + 1) < 67108865) (
 Nd ((x10.length : Int) = (x10.length : Int)) (
 Nd ((¬ ((x11 + 1) < (-9223372036854775808))) ∧ ((x11 + 1) < 9223372036854775808)) (
 Nd (¬ (((x9.length : Int) + 1) < ((x9.length : Int) + 1))) (
 Nd (((x9.length : Int) + 1) = ((x9.length : Int) + 1)) (
 Nd (¬ (((x10.length : Int) + 1) < ((x10.length : Int) + 1))) (
 Nd (((x10.length : Int) + 1) = ((x10.length : Int) + 1)) (
 Nd (¬ ((x24.length : Int) < (x24.length : Int))) (
 Nd ((x24.length : Int) = (x24.length : Int)) (
 Nd (¬ ((x25.length : Int) < (x25.length : Int))) (
 Nd ((x25.length : Int) = (x25.length : Int)) (
 Nd (backMInv [.lst x3, .lst x4] [.lst (x9 ++ (Sx.chunk 3 1 [(.int (((Sx.cellAt x1 x11 0).toInt : Int).tmod (6))), (.int (Sx.cellAt x1 x11 1).toInt), (.int (IntKind.wrap .u8 (Sx.cellAt x12 x18 2).toInt))])), .lst (x10 ++ (Sx.chunk 2 1 [(.int x18), (.int x19)])), .int (x11 + 1), .lst x22, .lst x23, .lst x24, .lst x25, .int x26, .int x27]) (
 Nd (backMMu [.lst x3, .lst x4] [.lst (x9 ++ (Sx.chunk 3 1 [(.int (((Sx.cellAt x1 x11 0).toInt : Int).tmod (6))), (.int (Sx.cellAt x1 x11 1).toInt), (.int (IntKind.wrap .u8 (Sx.cellAt x12 x18 2).toInt))])), .lst (x10 ++ (Sx.chunk 2 1 [(.int x18), (.int x19)])), .int (x11 + 1), .lst x22, .lst x23, .lst x24, .lst x25, .int x26, .int x27] < backMMu [.lst x3, .lst x4] [.lst x9, .lst x10, .int x11, .lst x12, .lst x13, .lst x14, .lst x15, .int x16, .int x17]) (
 True)))))))))))))))))))))))))))))))) ∧ (¬ (x20 = true) →
 Nd ((¬ ((x11 + 1) < (-9223372036854775808))) ∧ ((x11 + 1) < 9223372036854775808)) (
 Nd (¬ ((x9.length : Int) < (x9.length : Int))) (
 Nd ((x9.length : Int) = (x9.length : Int)) (
 Nd (¬ ((x10.length : Int) < (x10.length : Int))) (
 Nd ((x10.length : Int) = (x10.length : Int)) (
 Nd (¬ ((x14.length : Int) < (x14.length : Int))) (
 Nd ((x14.length : Int) = (x14.length : Int)) (
 Nd (¬ ((x15.length : Int) < (x15.length : Int))) (
 Nd ((x15.length : Int) = (x15.length : Int)) (
 Nd (backMInv [.lst x3, .lst x4] [.lst x9, .lst x10, .int (x11 + 1), .lst x12, .lst x13, .lst x14, .lst x15, .int x16, .int x17]) (
 Nd (backMMu [.lst x3, .lst x4] [.lst x9, .lst x10, .int (x11 + 1), .lst x12, .lst x13, .lst x14, .lst x15, .int x16, .int x17] < backMMu [.lst x3, .lst x4] [.lst x9, .lst x10, .int x11, .lst x12, .lst x13, .lst x14, .lst x15, .int x16, .int x17]) (
 True)))))))))))))))))))))) ∧ (¬ (2 < (((Sx.cellAt x1 x11 0).toInt : Int).tmod (6))) →
 Nd (¬ (2 < (((Sx.cellAt x1 x11 0).toInt : Int).tmod (6)))) (
 Nd (¬ (2 < (((Sx.cellAt x1 x11 0).toInt : Int).tmod (6)))) (
 Nd (¬ (2 < (((Sx.cellAt x1 x11 0).toInt : Int).tmod (6)))) (
 Nd (¬ (2 < (((Sx.cellAt x1 x11 0).toInt : Int).tmod (6)))) (
 Nd (¬ (2 < (((Sx.cellAt x1 x11 0).toInt : Int).tmod (6)))) (
 Nd (¬ (2 < (((Sx.cellAt x1 x11 0).toInt : Int).tmod (6)))) (
 Nd (¬ (2 < (((Sx.cellAt x1 x11 0).toInt : Int).tmod (6)))) (
 Nd (¬ (2 < (((Sx.cellAt x1 x11 0).toInt : Int).tmod (6)))) (
 Nd (¬ (x11 < 0)) (
 Nd (x11 < (x1.length : Int)) (
 Nd (¬ ((x14.length : Int) < (x14.length : Int))) (
 Nd ((x14.length : Int) = (x14.length : Int)) (
 Nd (¬ ((x15.length : Int) < (x15.length : Int))) (
 Nd ((x15.length : Int) = (x15.length : Int)) (
 Nd (doPre [.int (((Sx.cellAt x1 x11 0).toInt : Int).tmod (6)), .int (Sx.cellAt x1 x11 1).toInt, .int (Sx.cellAt x1 x11 2).toInt, .lst x12, .lst x13, .lst x14, .lst x15, .int x16, .int x17]) (
 ∀ x20 : Int,
 ∀ x21 : Sx.Rows,
 ∀ x22 : Sx.Rows,
 ∀ x23 : Sx.Rows,
 ∀ x24 : Sx.Rows,
 ∀ x25 : Int,
 ∀ x26 : Int,
(doRel [.int (((Sx.cellAt x1 x11 0).toInt : Int).tmod (6)), .int (Sx.cellAt x1 x11 1).toInt, .int (Sx.cellAt x1 x11 2).toInt, .lst x12, .lst x13, .lst x14, .lst x15, .int x16, .int x17] [.int x20, .lst x21, .lst x22, .lst x23, .lst x24, .int x25, .int x26]) →
(((x20 = 0) →
 Nd (backRel [.lst x0, .lst x1] [.bool false]) (
 True)) ∧ (¬ (x20 = 0) →
((((((Sx.cellAt x1 x11 0).toInt : Int).tmod (6)) < 3) →
 Nd ((¬ (((x23.length : Int) + (-1)) < (-9223372036854775808))) ∧ (((x23.length : Int) + (-1)) < 9223372036854775808)) (
 Nd (¬ (((x23.length : Int) + (-1)) < 0)) (
 Nd (((x23.length : Int) + (-1)) < (x23.length : Int)) (
 Nd (((x23.length : Int) + (-1)) < (x23.length : Int)) (
 Nd (¬ ((x9.length : Int) < (x9.length : Int))) (
 Nd (((x9.length : Int) + 1) < 67108865) (
 Nd ((x9.length : Int) = (x9.length : Int)) (
 Nd (¬ ((x10.length : Int) < (x10.length : Int))) (
 Nd (((x10.length : Int) + 1) < 67108865) (
 Nd ((x10.length : Int) = (x10.length : Int)) (
 Nd ((¬ ((x11 + 1) < (-9223372036854775808))) ∧ ((x11 + 1) < 9223372036854775808)) (
 Nd (¬ (((x9.length : Int) + 1) < ((x9.length : Int) + 1))) (
 Nd (((x9.length : Int) + 1) = ((x9.length : Int) + 1)) (
 Nd (¬ (((x10.length : Int) + 1) < ((x10.length : Int) + 1))) (
 Nd (((x10.length : Int) + 1) = ((x10.length : Int) + 1)) (
 Nd (¬ ((x23.length : Int) < (x23.length : Int))) (
 Nd ((x23.length : Int) = (x23.length : Int)) (
 Nd (¬ ((x24.length : Int) < (x24.length : Int))) (
 Nd ((x24.length : Int) = (x24.length : Int)) (
 Nd (backMInv [.lst x3, .lst x4] [.lst (x9 ++ (Sx.chunk 3 1 [(.int (((Sx.cellAt x1 x11 0).toInt : Int).tmod (6))), (.int (Sx.cellAt x1 x11 1).toInt), (.int (Sx.cellAt x1 x11 2).toInt)])), .lst (x10 ++ (Sx.chunk 2 1 [(.int (Sx.cellAt x23 ((x23.length : Int) + (-1)) 0).toInt), (.int (Sx.cellAt x23 ((x23.length : Int) + (-1)) 1).toInt)])), .int (x11 + 1), .lst x21, .lst x22, .lst x23, .lst x24, .int x25, .int x26]) (
 Nd (backMMu [.lst x3, .lst x4] [.lst (x9 ++ (Sx.chunk 3 1 [(.int (((Sx.cellAt x1 x11 0).toInt : Int).tmod (6))), (.int (Sx.cellAt x1 x11 1).toInt), (.int (Sx.cellAt x1 x11 2).toInt)])), .lst (x10 ++ (Sx.chunk 2 1 [(.int (Sx.cellAt x23 ((x23.length : Int) + (-1)) 0).toInt), (.int (Sx.cellAt x23 ((x23.length : Int) + (-1)) 1).toInt)])), .int (x11 + 1), .lst x21, .lst x22, .lst x23, .lst x24, .int x25, .int x26] < backMMu [.lst x3, .lst x4] [.lst x9, .lst x10, .int x11, .lst x12, .lst x13, .lst x14, .lst x15, .int x16, .int x17]) (
 True)))))))))))))))))))))) ∧ (¬ ((((Sx.cellAt x1 x11 0).toInt : Int).tmod (6)) < 3) →
 Nd (¬ ((x9.length : Int) < (x9.length : Int))) (
 Nd (((x9.length : Int) + 1) < 67108865) (
 Nd ((x9.length : Int) = (x9.length : Int)) (
 Nd (¬ ((x10.length : Int) < (x10.length : Int))) (
 Nd (((x10.length : Int) + 1) < 67108865) (
 Nd ((x10.length : Int) = (x10.length : Int)) (
 Nd ((¬ ((x11 + 1) < (-9223372036854775808))) ∧ ((x11 + 1) < 9223372036854775808)) (
 Nd (¬ (((x9.length : Int) + 1) < ((x9.length : Int) + 1))) (
 Nd (((x9.length : Int) + 1) = ((x9.length : Int) + 1)) (
 Nd (¬ (((x10.length : Int) + 1) < ((x10.length : Int) + 1))) (
 Nd (((x10.length : Int) + 1) = ((x10.length : Int) + 1)) (
 Nd (¬ ((x23.length : Int) < (x23.length : Int))) (
 Nd ((x23.length : Int) = (x23.length : Int)) (
 Nd (¬ ((x24.length : Int) < (x24.length : Int))) (
 Nd ((x24.length : Int) = (x24.length : Int)) (
 Nd (backMInv [.lst x3, .lst x4] [.lst (x9 ++ (Sx.chunk 3 1 [(.int (((Sx.cellAt x1 x11 0).toInt : Int).tmod (6))), (.int (Sx.cellAt x1 x11 1).toInt), (.int (Sx.cellAt x1 x11 2).toInt)])), .lst (x10 ++ (Sx.chunk 2 1 [(.int x18), (.int x19)])), .int (x11 + 1), .lst x21, .lst x22, .lst x23, .lst x24, .int x25, .int x26]) (
 Nd (backMMu [.lst x3, .lst x4] [.lst (x9 ++ (Sx.chunk 3 1 [(.int (((Sx.cellAt x1 x11 0).toInt : Int).tmod (6))), (.int (Sx.cellAt x1 x11 1).toInt), (.int (Sx.cellAt x1 x11 2).toInt)])), .lst (x10 ++ (Sx.chunk 2 1 [(.int x18), (.int x19)])), .int (x11 + 1), .lst x21, .lst x22, .lst x23, .lst x24, .int x25, .int x26] < backMMu [.lst x3, .lst x4] [.lst x9, .lst x10, .int x11, .lst x12, .lst x13, .lst x14, .lst x15, .int x16, .int x17]) (
 True))))))))))))))))))))))))))))))))))))))))))) ∧ (¬ (x11 < 40) →
 Nd ((¬ (((x9.length : Int) + (-1)) < (-9223372036854775808))) ∧ (((x9.length : Int) + (-1)) < 9223372036854775808)) (
 Nd (¬ ((x15.length : Int) < (x15.length : Int))) (
 Nd ((x15.length : Int) = (x15.length : Int)) (
 Nd (backUInv [.lst x3, .lst x4, .lst x9, .lst x10] [.int ((x9.length : Int) + (-1)), .lst x15, .int x16, .int x17]) (
 ∀ x18 : Int,
 ∀ x19 : Sx.Rows,
 ∀ x20 : Int,
 ∀ x21 : Int,
(backUInv [.lst x3, .lst x4, .lst x9, .lst x10] [.int x18, .lst x19, .int x20, .int x21]) →
(((x18 < 0) →
(vcBack0 x0 x1 x3 x4 x14 x19 x20 x21)) ∧ (¬ (x18 < 0) →
(vcBack2 x0 x1 x3 x4 x9 x10 x18 x19 x20 x21)))))))))))
def vcBack4 (x0 : Sx.Rows) (x1 : Sx.Rows) (x3 : Sx.Rows) (x4 : Sx.Rows) (x9 : Sx.Rows) (x10 : Sx.Rows) (x11 : Int) (x14 : Sx.Rows) (x15 : Sx.Rows) (x16 : Int) (x17 : Int) : Prop :=
 Nd (¬ (x11 < (x1.length : Int))) (
 Nd (¬ (x11 < (x1.length : Int))) (
 Nd ((¬ (((x9.length : Int) + (-1)) < (-9223372036854775808))) ∧ (((x9.length : Int) + (-1)) < 9223372036854775808)) (
 Nd (¬ ((x15.length : Int) < (x15.length : Int))) (
 Nd ((x15.length : Int) = (x15.length : Int)) (
 Nd (backUInv [.lst x3, .lst x4, .lst x9, .lst x10] [.int ((x9.length : Int) + (-1)), .lst x15, .int x16, .int x17]) (
 ∀ x18 : Int,
 ∀ x19 : Sx.Rows,
 ∀ x20 : Int,
 ∀ x21 : Int,
(backUInv [.lst x3, .lst x4, .lst x9, .lst x10] [.int x18, .lst x19, .int x20, .int x21]) →
(((x18 < 0) →
(vcBack0 x0 x1 x3 x4 x14 x19 x20 x21)) ∧ (¬ (x18 < 0) →
(vcBack2 x0 x1 x3 x4 x9 x10 x18 x19 x20 x21)))))))))
/-- What the contract of 'back' asks for. -/
def vcBack : Prop :=
 ∀ x0 : Sx.Rows,
 ∀ x1 : Sx.Rows,
(backPre [.lst x0, .lst x1]) →
 Nd (playLInv [] [.int 0, .lst ([] : Sx.Rows), .lst ([] : Sx.Rows), .lst ([] : Sx.Rows), .lst ([] : Sx.Rows), .int 0, .int 0]) (
 ∀ x2 : Int,
 ∀ x3 : Sx.Rows,
 ∀ x4 : Sx.Rows,
 ∀ x5 : Sx.Rows,
 ∀ x6 : Sx.Rows,
 ∀ x7 : Int,
 ∀ x8 : Int,
(playLInv [] [.int x2, .lst x3, .lst x4, .lst x5, .lst x6, .int x7, .int x8]) →
(((x2 < (x0.length : Int)) →
 Nd (x2 < (x0.length : Int)) (
 Nd (x2 < (x0.length : Int)) (
(((x2 < 60) →
 Nd (¬ (x2 < 0)) (
 Nd (x2 < (x0.length : Int)) (
 Nd (¬ ((x5.length : Int) < (x5.length : Int))) (
 Nd ((x5.length : Int) = (x5.length : Int)) (
 Nd (¬ ((x6.length : Int) < (x6.length : Int))) (
 Nd ((x6.length : Int) = (x6.length : Int)) (
 Nd (doPre [.int (Sx.cellAt x0 x2 0).toInt, .int (Sx.cellAt x0 x2 1).toInt, .int (Sx.cellAt x0 x2 2).toInt, .lst x3, .lst x4, .lst x5, .lst x6, .int x7, .int x8]) (
 ∀ x9 : Int,
 ∀ x10 : Sx.Rows,
 ∀ x11 : Sx.Rows,
 ∀ x12 : Sx.Rows,
 ∀ x13 : Sx.Rows,
 ∀ x14 : Int,
 ∀ x15 : Int,
(doRel [.int (Sx.cellAt x0 x2 0).toInt, .int (Sx.cellAt x0 x2 1).toInt, .int (Sx.cellAt x0 x2 2).toInt, .lst x3, .lst x4, .lst x5, .lst x6, .int x7, .int x8] [.int x9, .lst x10, .lst x11, .lst x12, .lst x13, .int x14, .int x15]) →
(((x9 = 0) →
 Nd (backRel [.lst x0, .lst x1] [.bool false]) (
 True)) ∧ (¬ (x9 = 0) →
 Nd ((¬ ((x2 + 1) < (-9223372036854775808))) ∧ ((x2 + 1) < 9223372036854775808)) (
 Nd (¬ ((x12.length : Int) < (x12.length : Int))) (
 Nd ((x12.length : Int) = (x12.length : Int)) (
 Nd (¬ ((x13.length : Int) < (x13.length : Int))) (
 Nd ((x13.length : Int) = (x13.length : Int)) (
 Nd (playLInv [] [.int (x2 + 1), .lst x10, .lst x11, .lst x12, .lst x13, .int x14, .int x15]) (
 Nd (playLMu [] [.int (x2 + 1), .lst x10, .lst x11, .lst x12, .lst x13, .int x14, .int x15] < playLMu [] [.int x2, .lst x3, .lst x4, .lst x5, .lst x6, .int x7, .int x8]) (
 True))))))))))))))))) ∧ (¬ (x2 < 60) →
 Nd ((x3.length : Int) < 67108865) (
 Nd ((x4.length : Int) < 67108865) (
 Nd (¬ ((x5.length : Int) < (x5.length : Int))) (
 Nd ((x5.length : Int) = (x5.length : Int)) (
 Nd (¬ ((x6.length : Int) < (x6.length : Int))) (
 Nd ((x6.length : Int) = (x6.length : Int)) (
 Nd (backMInv [.lst x3, .lst x4] [.lst ([] : Sx.Rows), .lst ([] : Sx.Rows), .int 0, .lst x3, .lst x4, .lst x5, .lst x6, .int x7, .int x8]) (
 ∀ x9 : Sx.Rows,
 ∀ x10 : Sx.Rows,
 ∀ x11 : Int,
 ∀ x12 : Sx.Rows,
 ∀ x13 : Sx.Rows,
 ∀ x14 : Sx.Rows,
 ∀ x15 : Sx.Rows,
 ∀ x16 : Int,
 ∀ x17 : Int,
(backMInv [.lst x3, .lst x4] [.lst x9, .lst x10, .int x11, .lst x12, .lst x13, .lst x14, .lst x15, .int x16, .int x17]) →
(((x11 < (x1.length : Int)) →
(vcBack3 x0 x1 x3 x4 x9 x10 x11 x12 x13 x14 x15 x16 x17)) ∧ (¬ (x11 < (x1.length : Int)) →
(vcBack4 x0 x1 x3 x4 x9 x10 x11 x14 x15 x16 x17))))))))))))))) ∧ (¬ (x2 < (x0.length : Int)) →
 Nd (¬ (x2 < (x0.length : Int))) (
 Nd (¬ (x2 < (x0.length : Int))) (
 Nd ((x3.length : Int) < 67108865) (
 Nd ((x4.length : Int) < 67108865) (
 Nd (¬ ((x5.length : Int) < (x5.length : Int))) (
 Nd ((x5.length : Int) = (x5.length : Int)) (
 Nd (¬ ((x6.length : Int) < (x6.length : Int))) (
 Nd ((x6.length : Int) = (x6.length : Int)) (
 Nd (backMInv [.lst x3, .lst x4] [.lst ([] : Sx.Rows), .lst ([] : Sx.Rows), .int 0, .lst x3, .lst x4, .lst x5, .lst x6, .int x7, .int x8]) (
 ∀ x9 : Sx.Rows,
 ∀ x10 : Sx.Rows,
 ∀ x11 : Int,
 ∀ x12 : Sx.Rows,
 ∀ x13 : Sx.Rows,
 ∀ x14 : Sx.Rows,
 ∀ x15 : Sx.Rows,
 ∀ x16 : Int,
 ∀ x17 : Int,
(backMInv [.lst x3, .lst x4] [.lst x9, .lst x10, .int x11, .lst x12, .lst x13, .lst x14, .lst x15, .int x16, .int x17]) →
(((x11 < (x1.length : Int)) →
(vcBack3 x0 x1 x3 x4 x9 x10 x11 x12 x13 x14 x15 x16 x17)) ∧ (¬ (x11 < (x1.length : Int)) →
(vcBack4 x0 x1 x3 x4 x9 x10 x11 x14 x15 x16 x17)))))))))))))))
theorem vcBack_eq : (cvc Go.Proofs.Try.prog U0 cBack (sxF Go.Proofs.Try.prog U0 annsC (conJ Go.Proofs.Try.prog U0 annsC (stageC 1) 400 joinsC) 400 6)).vc U0 (fun _ => True) = vcBack := by kernel_rfl
end Go.C15
