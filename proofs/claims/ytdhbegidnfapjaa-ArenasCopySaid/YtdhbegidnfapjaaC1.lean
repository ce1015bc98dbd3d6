/- The conditions of contracts, as the engine's printer has written them, and that the kernel comes to the same.
  Conditions: none. -/
import Derived.Test.YtdhbegidnfapjaaB12
import Derived.Test.YtdhbegidnfapjaaRows
import Derived.KernelRfl
set_option linter.unusedVariables false
set_option maxRecDepth 100000
namespace Go.C15
open Go Go.Xe Go.Sx
def vcCopy0 (x0 : Sx.Rows) (x1 : Sx.Rows) (x2 : Sx.Rows) (x4 : Sx.Rows) (x5 : Sx.Rows) (x6 : Sx.Rows) (x7 : Sx.Rows) (x8 : Int) (x9 : Int) (x12 : Sx.Rows) (x13 : Sx.Rows) (x14 : Sx.Rows) (x15 : Sx.Rows) (x16 : Int) (x17 : Int) : Prop :=
 Nd (¬ ((x6.length : Int) < (x6.length : Int))) (
 Nd ((x6.length : Int) = (x6.length : Int)) (
 Nd (¬ ((x7.length : Int) < (x7.length : Int))) (
 Nd ((x7.length : Int) = (x7.length : Int)) (
 Nd (¬ ((x14.length : Int) < (x14.length : Int))) (
 Nd ((x14.length : Int) = (x14.length : Int)) (
 Nd (¬ ((x15.length : Int) < (x15.length : Int))) (
 Nd ((x15.length : Int) = (x15.length : Int)) (
 Nd (copyMInv [] [.int 0, .lst x4, .lst x5, .lst x6, .lst x7, .int x8, .int x9, .lst x12, .lst x13, .lst x14, .lst x15, .int x16, .int x17]) (
 ∀ x18 : Int,
 ∀ x19 : Sx.Rows,
 ∀ x20 : Sx.Rows,
 ∀ x21 : Sx.Rows,
 ∀ x22 : Sx.Rows,
 ∀ x23 : Int,
 ∀ x24 : Int,
 ∀ x25 : Sx.Rows,
 ∀ x26 : Sx.Rows,
 ∀ x27 : Sx.Rows,
 ∀ x28 : Sx.Rows,
 ∀ x29 : Int,
 ∀ x30 : Int,
(copyMInv [] [.int x18, .lst x19, .lst x20, .lst x21, .lst x22, .int x23, .int x24, .lst x25, .lst x26, .lst x27, .lst x28, .int x29, .int x30]) →
(((x18 < 20) →
(((x18 < (x1.length : Int)) →
 Nd (x18 < (x1.length : Int)) (
 Nd (x18 < (x1.length : Int)) (
 Nd (x18 < (x1.length : Int)) (
 Nd (¬ (x18 < 0)) (
 Nd (x18 < (x1.length : Int)) (
 Nd (x18 < (x1.length : Int)) (
 Nd (x18 < (x1.length : Int)) (
 Nd (¬ ((x27.length : Int) < (x27.length : Int))) (
 Nd ((x27.length : Int) = (x27.length : Int)) (
 Nd (¬ ((x28.length : Int) < (x28.length : Int))) (
 Nd ((x28.length : Int) = (x28.length : Int)) (
 Nd (doPre [.int (Sx.cellAt x1 x18 0).toInt, .int (Sx.cellAt x1 x18 1).toInt, .int (Sx.cellAt x1 x18 2).toInt, .lst x25, .lst x26, .lst x27, .lst x28, .int x29, .int x30]) (
 ∀ x31 : Int,
 ∀ x32 : Sx.Rows,
 ∀ x33 : Sx.Rows,
 ∀ x34 : Sx.Rows,
 ∀ x35 : Sx.Rows,
 ∀ x36 : Int,
 ∀ x37 : Int,
(doRel [.int (Sx.cellAt x1 x18 0).toInt, .int (Sx.cellAt x1 x18 1).toInt, .int (Sx.cellAt x1 x18 2).toInt, .lst x25, .lst x26, .lst x27, .lst x28, .int x29, .int x30] [.int x31, .lst x32, .lst x33, .lst x34, .lst x35, .int x36, .int x37]) →
 Nd (x18 < (x1.length : Int)) (
 Nd (x18 < (x1.length : Int)) (
(((x31 = 0) →
 Nd (x31 = 0) (
 Nd (x31 = 0) (
 Nd (x31 = 0) (
 Nd (x31 = 0) (
 Nd (x31 = 0) (
 Nd (x31 = 0) (
 Nd (copyRel [.lst x0, .lst x1, .lst x2] [.bool false]) (
 True)))))))) ∧ (¬ (x31 = 0) →
 Nd (¬ (x31 = 0)) (
 Nd (¬ (x31 = 0)) (
 Nd (¬ (x31 = 0)) (
 Nd (¬ (x31 = 0)) (
(((x18 < (x2.length : Int)) →
 Nd (x18 < (x2.length : Int)) (
 Nd (x18 < (x2.length : Int)) (
 Nd (x18 < (x2.length : Int)) (
 Nd (¬ (x18 < 0)) (
 Nd (x18 < (x2.length : Int)) (
 Nd (x18 < (x2.length : Int)) (
 Nd (x18 < (x2.length : Int)) (
 Nd (¬ ((x21.length : Int) < (x21.length : Int))) (
 Nd ((x21.length : Int) = (x21.length : Int)) (
 Nd (¬ ((x22.length : Int) < (x22.length : Int))) (
 Nd ((x22.length : Int) = (x22.length : Int)) (
 Nd (doPre [.int (Sx.cellAt x2 x18 0).toInt, .int (Sx.cellAt x2 x18 1).toInt, .int (Sx.cellAt x2 x18 2).toInt, .lst x19, .lst x20, .lst x21, .lst x22, .int x23, .int x24]) (
 ∀ x38 : Int,
 ∀ x39 : Sx.Rows,
 ∀ x40 : Sx.Rows,
 ∀ x41 : Sx.Rows,
 ∀ x42 : Sx.Rows,
 ∀ x43 : Int,
 ∀ x44 : Int,
(doRel [.int (Sx.cellAt x2 x18 0).toInt, .int (Sx.cellAt x2 x18 1).toInt, .int (Sx.cellAt x2 x18 2).toInt, .lst x19, .lst x20, .lst x21, .lst x22, .int x23, .int x24] [.int x38, .lst x39, .lst x40, .lst x41, .lst x42, .int x43, .int x44]) →
 Nd (x18 < (x2.length : Int)) (
 Nd (¬ (x31 = 0)) (
 Nd (x18 < (x2.length : Int)) (
 Nd (¬ (x31 = 0)) (
(((x38 = 0) →
 Nd (copyRel [.lst x0, .lst x1, .lst x2] [.bool false]) (
 True)) ∧ (¬ (x38 = 0) →
 Nd ((¬ ((x18 + 1) < (-9223372036854775808))) ∧ ((x18 + 1) < 9223372036854775808)) (
 Nd (¬ ((x41.length : Int) < (x41.length : Int))) (
 Nd ((x41.length : Int) = (x41.length : Int)) (
 Nd (¬ ((x42.length : Int) < (x42.length : Int))) (
 Nd ((x42.length : Int) = (x42.length : Int)) (
 Nd (¬ ((x34.length : Int) < (x34.length : Int))) (
 Nd ((x34.length : Int) = (x34.length : Int)) (
 Nd (¬ ((x35.length : Int) < (x35.length : Int))) (
 Nd ((x35.length : Int) = (x35.length : Int)) (
 Nd (copyMInv [] [.int (x18 + 1), .lst x39, .lst x40, .lst x41, .lst x42, .int x43, .int x44, .lst x32, .lst x33, .lst x34, .lst x35, .int x36, .int x37]) (
 Nd (copyMMu [] [.int (x18 + 1), .lst x39, .lst x40, .lst x41, .lst x42, .int x43, .int x44, .lst x32, .lst x33, .lst x34, .lst x35, .int x36, .int x37] < copyMMu [] [.int x18, .lst x19, .lst x20, .lst x21, .lst x22, .int x23, .int x24, .lst x25, .lst x26, .lst x27, .lst x28, .int x29, .int x30]) (
 True)))))))))))))))))))))))))))))) ∧ (¬ (x18 < (x2.length : Int)) →
 Nd (¬ (x18 < (x2.length : Int))) (
 Nd (¬ (x18 < (x2.length : Int))) (
 Nd (¬ (x18 < (x2.length : Int))) (
 Nd (¬ (x18 < (x2.length : Int))) (
 Nd (¬ (x18 < (x2.length : Int))) (
 Nd (¬ (x18 < (x2.length : Int))) (
 Nd (¬ (x31 = 0)) (
 Nd (¬ (x18 < (x2.length : Int))) (
 Nd (¬ (x31 = 0)) (
 Nd ((¬ ((x18 + 1) < (-9223372036854775808))) ∧ ((x18 + 1) < 9223372036854775808)) (
 Nd (¬ ((x21.length : Int) < (x21.length : Int))) (
 Nd ((x21.length : Int) = (x21.length : Int)) (
 Nd (¬ ((x22.length : Int) < (x22.length : Int))) (
 Nd ((x22.length : Int) = (x22.length : Int)) (
 Nd (¬ ((x34.length : Int) < (x34.length : Int))) (
 Nd ((x34.length : Int) = (x34.length : Int)) (
 Nd (¬ ((x35.length : Int) < (x35.length : Int))) (
 Nd ((x35.length : Int) = (x35.length : Int)) (
 Nd (copyMInv [] [.int (x18 + 1), .lst x19, .lst x20, .lst x21, .lst x22, .int x23, .int x24, .lst x32, .lst x33, .lst x34, .lst x35, .int x36, .int x37]) (
 Nd (copyMMu [] [.int (x18 + 1), .lst x19, .lst x20, .lst x21, .lst x22, .int x23, .int x24, .lst x32, .lst x33, .lst x34, .lst x35, .int x36, .int x37] < copyMMu [] [.int x18, .lst x19, .lst x20, .lst x21, .lst x22, .int x23, .int x24, .lst x25, .lst x26, .lst x27, .lst x28, .int x29, .int x30]) (
 True))))))))))))))))))))))))))))))))))))))))))) ∧ (¬ (x18 < (x1.length : Int)) →
 Nd (¬ (x18 < (x1.length : Int))) (
 Nd (¬ (x18 < (x1.length : Int))) (
 Nd (¬ (x18 < (x1.length : Int))) (
 Nd (¬ (x18 < (x1.length : Int))) (
 Nd (¬ (x18 < (x1.length : Int))) (
 Nd (¬ (x18 < (x1.length : Int))) (
 Nd (¬ (x18 < (x1.length : Int))) (
(((x18 < (x2.length : Int)) →
 Nd (x18 < (x2.length : Int)) (
 Nd (x18 < (x2.length : Int)) (
 Nd (x18 < (x2.length : Int)) (
 Nd (¬ (x18 < 0)) (
 Nd (x18 < (x2.length : Int)) (
 Nd (x18 < (x2.length : Int)) (
 Nd (x18 < (x2.length : Int)) (
 Nd (¬ ((x21.length : Int) < (x21.length : Int))) (
 Nd ((x21.length : Int) = (x21.length : Int)) (
 Nd (¬ ((x22.length : Int) < (x22.length : Int))) (
 Nd ((x22.length : Int) = (x22.length : Int)) (
 Nd (doPre [.int (Sx.cellAt x2 x18 0).toInt, .int (Sx.cellAt x2 x18 1).toInt, .int (Sx.cellAt x2 x18 2).toInt, .lst x19, .lst x20, .lst x21, .lst x22, .int x23, .int x24]) (
 ∀ x31 : Int,
 ∀ x32 : Sx.Rows,
 ∀ x33 : Sx.Rows,
 ∀ x34 : Sx.Rows,
 ∀ x35 : Sx.Rows,
 ∀ x36 : Int,
 ∀ x37 : Int,
(doRel [.int (Sx.cellAt x2 x18 0).toInt, .int (Sx.cellAt x2 x18 1).toInt, .int (Sx.cellAt x2 x18 2).toInt, .lst x19, .lst x20, .lst x21, .lst x22, .int x23, .int x24] [.int x31, .lst x32, .lst x33, .lst x34, .lst x35, .int x36, .int x37]) →
 Nd (x18 < (x2.length : Int)) (
 Nd (x18 < (x2.length : Int)) (
(((x31 = 0) →
 Nd (copyRel [.lst x0, .lst x1, .lst x2] [.bool false]) (
 True)) ∧ (¬ (x31 = 0) →
 Nd ((¬ ((x18 + 1) < (-9223372036854775808))) ∧ ((x18 + 1) < 9223372036854775808)) (
 Nd (¬ ((x34.length : Int) < (x34.length : Int))) (
 Nd ((x34.length : Int) = (x34.length : Int)) (
 Nd (¬ ((x35.length : Int) < (x35.length : Int))) (
 Nd ((x35.length : Int) = (x35.length : Int)) (
 Nd (¬ ((x27.length : Int) < (x27.length : Int))) (
 Nd ((x27.length : Int) = (x27.length : Int)) (
 Nd (¬ ((x28.length : Int) < (x28.length : Int))) (
 Nd ((x28.length : Int) = (x28.length : Int)) (
 Nd (copyMInv [] [.int (x18 + 1), .lst x32, .lst x33, .lst x34, .lst x35, .int x36, .int x37, .lst x25, .lst x26, .lst x27, .lst x28, .int x29, .int x30]) (
 Nd (copyMMu [] [.int (x18 + 1), .lst x32, .lst x33, .lst x34, .lst x35, .int x36, .int x37, .lst x25, .lst x26, .lst x27, .lst x28, .int x29, .int x30] < copyMMu [] [.int x18, .lst x19, .lst x20, .lst x21, .lst x22, .int x23, .int x24, .lst x25, .lst x26, .lst x27, .lst x28, .int x29, .int x30]) (
 True)))))))))))))))))))))))))))) ∧ (¬ (x18 < (x2.length : Int)) →
 Nd (¬ (x18 < (x2.length : Int))) (
 Nd (¬ (x18 < (x2.length : Int))) (
 Nd (¬ (x18 < (x2.length : Int))) (
 Nd (¬ (x18 < (x2.length : Int))) (
 Nd (¬ (x18 < (x2.length : Int))) (
 Nd (¬ (x18 < (x2.length : Int))) (
 Nd (¬ (x18 < (x2.length : Int))) (
 Nd ((¬ ((x18 + 1) < (-9223372036854775808))) ∧ ((x18 + 1) < 9223372036854775808)) (
 Nd (¬ ((x21.length : Int) < (x21.length : Int))) (
 Nd ((x21.length : Int) = (x21.length : Int)) (
 Nd (¬ ((x22.length : Int) < (x22.length : Int))) (
 Nd ((x22.length : Int) = (x22.length : Int)) (
 Nd (¬ ((x27.length : Int) < (x27.length : Int))) (
 Nd ((x27.length : Int) = (x27.length : Int)) (
 Nd (¬ ((x28.length : Int) < (x28.length : Int))) (
 Nd ((x28.length : Int) = (x28.length : Int)) (
 Nd (copyMInv [] [.int (x18 + 1), .lst x19, .lst x20, .lst x21, .lst x22, .int x23, .int x24, .lst x25, .lst x26, .lst x27, .lst x28, .int x29, .int x30]) (
 Nd (copyMMu [] [.int (x18 + 1), .lst x19, .lst x20, .lst x21, .lst x22, .int x23, .int x24, .lst x25, .lst x26, .lst x27, .lst x28, .int x29, .int x30] < copyMMu [] [.int x18, .lst x19, .lst x20, .lst x21, .lst x22, .int x23, .int x24, .lst x25, .lst x26, .lst x27, .lst x28, .int x29, .int x30]) (
 True)))))))))))))))))))))))))))))) ∧ (¬ (x18 < 20) →
 Nd (¬ ((x21.length : Int) < (x21.length : Int))) (
 Nd ((x21.length : Int) = (x21.length : Int)) (
 Nd (¬ ((x22.length : Int) < (x22.length : Int))) (
 Nd ((x22.length : Int) = (x22.length : Int)) (
 Nd (samePre [.lst x19, .lst x20, .lst x21, .lst x22, .int x23, .int x24]) (
 ∀ x31 : Int,
 ∀ x32 : Sx.Rows,
 ∀ x33 : Sx.Rows,
 ∀ x34 : Sx.Rows,
 ∀ x35 : Sx.Rows,
 ∀ x36 : Int,
 ∀ x37 : Int,
(sameRel [.lst x19, .lst x20, .lst x21, .lst x22, .int x23, .int x24] [.int x31, .lst x32, .lst x33, .lst x34, .lst x35, .int x36, .int x37]) →
 Nd (¬ ((x27.length : Int) < (x27.length : Int))) (
 Nd ((x27.length : Int) = (x27.length : Int)) (
 Nd (¬ ((x28.length : Int) < (x28.length : Int))) (
 Nd ((x28.length : Int) = (x28.length : Int)) (
 Nd (samePre [.lst x25, .lst x26, .lst x27, .lst x28, .int x29, .int x30]) (
 ∀ x38 : Int,
 ∀ x39 : Sx.Rows,
 ∀ x40 : Sx.Rows,
 ∀ x41 : Sx.Rows,
 ∀ x42 : Sx.Rows,
 ∀ x43 : Int,
 ∀ x44 : Int,
(sameRel [.lst x25, .lst x26, .lst x27, .lst x28, .int x29, .int x30] [.int x38, .lst x39, .lst x40, .lst x41, .lst x42, .int x43, .int x44]) →
 Nd ((¬ ((x31 * x38) < (-9223372036854775808))) ∧ ((x31 * x38) < 9223372036854775808)) (
((((x31 * x38) = 1) →
 Nd (livesPre []) (
 ∀ x45 : Bool,
(livesRel [] [.bool x45]) →
 Nd ((x31 * x38) = 1) (
 Nd (copyRel [.lst x0, .lst x1, .lst x2] [.bool x45]) (
 True)))) ∧ (¬ ((x31 * x38) = 1) →
 Nd (¬ ((x31 * x38) = 1)) (
 Nd (copyRel [.lst x0, .lst x1, .lst x2] [.bool false]) (
 True))))))))))))))))))))))))))
def vcCopy1 (x0 : Sx.Rows) (x1 : Sx.Rows) (x2 : Sx.Rows) (x4 : Sx.Rows) (x5 : Sx.Rows) (x6 : Sx.Rows) (x7 : Sx.Rows) (x8 : Int) (x9 : Int) : Prop :=
((x7.length : Int) = 0) →
 Nd (¬ ((x6.length : Int) < (x6.length : Int))) (
 Nd ((x6.length : Int) = (x6.length : Int)) (
 Nd ((x6.length : Int) < 67108865) (
 Nd (¬ ((x6.length : Int) < (x6.length : Int))) (
 Nd ((x6.length : Int) = (x6.length : Int)) (
 Nd (samePre [.lst x4, .lst x5, .lst x6, .lst ([] : Sx.Rows), .int x8, .int x9]) (
 ∀ x11 : Int,
 ∀ x12 : Sx.Rows,
 ∀ x13 : Sx.Rows,
 ∀ x14 : Sx.Rows,
 ∀ x15 : Sx.Rows,
 ∀ x16 : Int,
 ∀ x17 : Int,
(sameRel [.lst x4, .lst x5, .lst x6, .lst ([] : Sx.Rows), .int x8, .int x9] [.int x11, .lst x12, .lst x13, .lst x14, .lst x15, .int x16, .int x17]) →
(((x11 = 0) →
 Nd (copyRel [.lst x0, .lst x1, .lst x2] [.bool false]) (
 True)) ∧ (¬ (x11 = 0) →
(vcCopy0 x0 x1 x2 x4 x5 x6 x7 x8 x9 x12 x13 x14 x15 x16 x17)))))))))
def vcCopy2 (x0 : Sx.Rows) (x1 : Sx.Rows) (x2 : Sx.Rows) (x4 : Sx.Rows) (x5 : Sx.Rows) (x6 : Sx.Rows) (x7 : Sx.Rows) (x8 : Int) (x9 : Int) : Prop :=
 Nd (¬ ((x7.length : Int) < (x7.length : Int))) (
 Nd ((x7.length : Int) = (x7.length : Int)) (
 Nd ((x7.length : Int) < 67108865) (
(((0 < (x7.length : Int)) →
 Nd (¬ ((x6.length : Int) < (x6.length : Int))) (
 Nd ((x6.length : Int) = (x6.length : Int)) (
 Nd ((x6.length : Int) < 67108865) (
 Nd (¬ ((x6.length : Int) < (x6.length : Int))) (
 Nd ((x6.length : Int) = (x6.length : Int)) (
 Nd (¬ ((x7.length : Int) < (x7.length : Int))) (
 Nd ((x7.length : Int) = (x7.length : Int)) (
 Nd (samePre [.lst x4, .lst x5, .lst x6, .lst ((Sx.chunk 4 0 []) ++ x7), .int x8, .int x9]) (
 ∀ x11 : Int,
 ∀ x12 : Sx.Rows,
 ∀ x13 : Sx.Rows,
 ∀ x14 : Sx.Rows,
 ∀ x15 : Sx.Rows,
 ∀ x16 : Int,
 ∀ x17 : Int,
(sameRel [.lst x4, .lst x5, .lst x6, .lst ((Sx.chunk 4 0 []) ++ x7), .int x8, .int x9] [.int x11, .lst x12, .lst x13, .lst x14, .lst x15, .int x16, .int x17]) →
(((x11 = 0) →
 Nd (copyRel [.lst x0, .lst x1, .lst x2] [.bool false]) (
 True)) ∧ (¬ (x11 = 0) →
(vcCopy0 x0 x1 x2 x4 x5 x6 x7 x8 x9 x12 x13 x14 x15 x16 x17)))))))))))) ∧ (¬ (0 < (x7.length : Int)) →
 Nd (¬ ((x6.length : Int) < (x6.length : Int))) (
 Nd ((x6.length : Int) = (x6.length : Int)) (
 Nd ((x6.length : Int) < 67108865) (
 Nd (¬ ((x6.length : Int) < (x6.length : Int))) (
 Nd ((x6.length : Int) = (x6.length : Int)) (
 Nd (¬ (((Sx.over (Sx.chunk 4 0 []) 0 x7).length : Int) < (x7.length : Int))) (
 Nd (0 = (x7.length : Int)) (
 Nd ((x7.length : Int) < 67108865) (
 Nd (samePre [.lst x4, .lst x5, .lst x6, .lst (Sx.part (Sx.over (Sx.chunk 4 0 []) 0 x7) 0 (x7.length : Int)), .int x8, .int x9]) (
 ∀ x11 : Int,
 ∀ x12 : Sx.Rows,
 ∀ x13 : Sx.Rows,
 ∀ x14 : Sx.Rows,
 ∀ x15 : Sx.Rows,
 ∀ x16 : Int,
 ∀ x17 : Int,
(sameRel [.lst x4, .lst x5, .lst x6, .lst (Sx.part (Sx.over (Sx.chunk 4 0 []) 0 x7) 0 (x7.length : Int)), .int x8, .int x9] [.int x11, .lst x12, .lst x13, .lst x14, .lst x15, .int x16, .int x17]) →
(((x11 = 0) →
 Nd (copyRel [.lst x0, .lst x1, .lst x2] [.bool false]) (
 True)) ∧ (¬ (x11 = 0) →
(vcCopy0 x0 x1 x2 x4 x5 x6 x7 x8 x9 x12 x13 x14 x15 x16 x17)))))))))))))))))
/-- What the contract of 'copy' asks for. -/
def vcCopy : Prop :=
 ∀ x0 : Sx.Rows,
 ∀ x1 : Sx.Rows,
 ∀ x2 : Sx.Rows,
(copyPre [.lst x0, .lst x1, .lst x2]) →
 Nd (playLInv [] [.int 0, .lst ([] : Sx.Rows), .lst ([] : Sx.Rows), .lst ([] : Sx.Rows), .lst ([] : Sx.Rows), .int 0, .int 0]) (
 ∀ x3 : Int,
 ∀ x4 : Sx.Rows,
 ∀ x5 : Sx.Rows,
 ∀ x6 : Sx.Rows,
 ∀ x7 : Sx.Rows,
 ∀ x8 : Int,
 ∀ x9 : Int,
(playLInv [] [.int x3, .lst x4, .lst x5, .lst x6, .lst x7, .int x8, .int x9]) →
(((x3 < (x0.length : Int)) →
 Nd (x3 < (x0.length : Int)) (
 Nd (x3 < (x0.length : Int)) (
(((x3 < 60) →
 Nd (¬ (x3 < 0)) (
 Nd (x3 < (x0.length : Int)) (
 Nd (¬ ((x6.length : Int) < (x6.length : Int))) (
 Nd ((x6.length : Int) = (x6.length : Int)) (
 Nd (¬ ((x7.length : Int) < (x7.length : Int))) (
 Nd ((x7.length : Int) = (x7.length : Int)) (
 Nd (doPre [.int (Sx.cellAt x0 x3 0).toInt, .int (Sx.cellAt x0 x3 1).toInt, .int (Sx.cellAt x0 x3 2).toInt, .lst x4, .lst x5, .lst x6, .lst x7, .int x8, .int x9]) (
 ∀ x10 : Int,
 ∀ x11 : Sx.Rows,
 ∀ x12 : Sx.Rows,
 ∀ x13 : Sx.Rows,
 ∀ x14 : Sx.Rows,
 ∀ x15 : Int,
 ∀ x16 : Int,
(doRel [.int (Sx.cellAt x0 x3 0).toInt, .int (Sx.cellAt x0 x3 1).toInt, .int (Sx.cellAt x0 x3 2).toInt, .lst x4, .lst x5, .lst x6, .lst x7, .int x8, .int x9] [.int x10, .lst x11, .lst x12, .lst x13, .lst x14, .int x15, .int x16]) →
(((x10 = 0) →
 Nd (copyRel [.lst x0, .lst x1, .lst x2] [.bool false]) (
 True)) ∧ (¬ (x10 = 0) →
 Nd ((¬ ((x3 + 1) < (-9223372036854775808))) ∧ ((x3 + 1) < 9223372036854775808)) (
 Nd (¬ ((x13.length : Int) < (x13.length : Int))) (
 Nd ((x13.length : Int) = (x13.length : Int)) (
 Nd (¬ ((x14.length : Int) < (x14.length : Int))) (
 Nd ((x14.length : Int) = (x14.length : Int)) (
 Nd (playLInv [] [.int (x3 + 1), .lst x11, .lst x12, .lst x13, .lst x14, .int x15, .int x16]) (
 Nd (playLMu [] [.int (x3 + 1), .lst x11, .lst x12, .lst x13, .lst x14, .int x15, .int x16] < playLMu [] [.int x3, .lst x4, .lst x5, .lst x6, .lst x7, .int x8, .int x9]) (
 True))))))))))))))))) ∧ (¬ (x3 < 60) →
 ∀ x10 : Bool,
(((x10 = true) →
(vcCopy1 x0 x1 x2 x4 x5 x6 x7 x8 x9)) ∧ (¬ (x10 = true) →
(vcCopy2 x0 x1 x2 x4 x5 x6 x7 x8 x9)))))))) ∧ (¬ (x3 < (x0.length : Int)) →
 Nd (¬ (x3 < (x0.length : Int))) (
 Nd (¬ (x3 < (x0.length : Int))) (
 ∀ x10 : Bool,
(((x10 = true) →
(vcCopy1 x0 x1 x2 x4 x5 x6 x7 x8 x9)) ∧ (¬ (x10 = true) →
(vcCopy2 x0 x1 x2 x4 x5 x6 x7 x8 x9))))))))
theorem vcCopy_eq : (cvc Go.Proofs.Try.prog U0 cCopy (sxF Go.Proofs.Try.prog U0 annsC (conJ Go.Proofs.Try.prog U0 annsC (stageC 1) 400 joinsC) 400 7)).vc U0 (fun _ => True) = vcCopy := by kernel_rfl
end Go.C15
