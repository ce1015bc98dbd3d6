/- The conditions of contracts, as the engine's printer has written them, and that the kernel comes to the same.
  Conditions: none. -/
import Derived.Test.YtpdcecfnlccicaaQ5
import Derived.Test.YtpdcecfnlccicaaRows
import Derived.KernelRfl
set_option linter.unusedVariables false
set_option maxRecDepth 100000
namespace Go.C36
open Go Go.Xe Go.Sx
def vcRof : Prop :=
 ∀ x0 : Sx.Rows,
 ∀ x1 : Sx.Rows,
 ∀ x2 : Sx.Rows,
 ∀ x3 : Sx.Rows,
(rofPre [.lst x0, .lst x1, .lst x2, .lst x3]) →
 Nd (¬ ((x2.length : Int) < 0)) (
 Nd (¬ ((x2.length : Int) < (x2.length : Int))) (
 Nd ((x2.length : Int) < 1048577) (
 Nd (¬ (((List.replicate ((x2.length : Int)).toNat [(.int (0))] : Sx.Rows).length : Int) < (x2.length : Int))) (
 Nd ((x2.length : Int) = (x2.length : Int)) (
 Nd (¬ ((x2.length : Int) < (x2.length : Int))) (
 Nd (r0Inv [.lst x2] [.int 0, .lst (Sx.part (List.replicate ((x2.length : Int)).toNat [(.int (0))] : Sx.Rows) 0 (x2.length : Int))]) (
 ∀ x4 : Int,
 ∀ x5 : Sx.Rows,
(r0Inv [.lst x2] [.int x4, .lst x5]) →
(((x4 < (x2.length : Int)) →
 Nd (¬ (x4 < 0)) (
 Nd (x4 < (x2.length : Int)) (
 Nd (¬ (x4 < 0)) (
 Nd (x4 < (x5.length : Int)) (
 Nd (¬ ((x5.length : Int) < x4)) (
 Nd (x4 < (x2.length : Int)) (
 Nd ((¬ ((x4 + 1) < (-9223372036854775808))) ∧ ((x4 + 1) < 9223372036854775808)) (
 Nd (¬ (((Sx.over x5 x4 (Sx.chunk 1 1 [(.int (Sx.cellAt x2 x4 0).toInt)])).length : Int) < (x5.length : Int))) (
 Nd ((x2.length : Int) = (x2.length : Int)) (
 Nd (¬ ((x2.length : Int) < (x2.length : Int))) (
 Nd (r0Inv [.lst x2] [.int (x4 + 1), .lst (Sx.part (Sx.over x5 x4 (Sx.chunk 1 1 [(.int (Sx.cellAt x2 x4 0).toInt)])) 0 (x5.length : Int))]) (
 Nd (r0Mu [.lst x2] [.int (x4 + 1), .lst (Sx.part (Sx.over x5 x4 (Sx.chunk 1 1 [(.int (Sx.cellAt x2 x4 0).toInt)])) 0 (x5.length : Int))] < r0Mu [.lst x2] [.int x4, .lst x5]) (
 True))))))))))))) ∧ (¬ (x4 < (x2.length : Int)) →
 Nd (¬ ((x5.length : Int) < (x5.length : Int))) (
 Nd ((x5.length : Int) = (x5.length : Int)) (
 Nd ((x2.length : Int) = (x2.length : Int)) (
 Nd (¬ ((x2.length : Int) < (x2.length : Int))) (
 Nd (r2Inv [.lst x0, .lst x1, .lst x2, .lst x3] [.int 0, .lst x5, .lst ([] : Sx.Rows)]) (
 ∀ x6 : Int,
 ∀ x7 : Sx.Rows,
 ∀ x8 : Sx.Rows,
(r2Inv [.lst x0, .lst x1, .lst x2, .lst x3] [.int x6, .lst x7, .lst x8]) →
(((x6 < (x0.length : Int)) →
 Nd (¬ (x6 < 0)) (
 Nd (x6 < (x0.length : Int)) (
 Nd (pfindPre [.lst x1, .int (Sx.cellAt x0 x6 0).toInt, .int (Sx.cellAt x0 x6 1).toInt]) (
 ∀ x9 : Int,
(pfindRel [.lst x1, .int (Sx.cellAt x0 x6 0).toInt, .int (Sx.cellAt x0 x6 1).toInt] [.int x9]) →
(((x9 < 0) →
 Nd (¬ (x6 < 0)) (
 Nd (x6 < (x0.length : Int)) (
 Nd (¬ ((Sx.cellAt x0 x6 1).toInt < 0)) (
 Nd ((Sx.cellAt x0 x6 1).toInt < (x7.length : Int)) (
 Nd ((Sx.cellAt x0 x6 1).toInt < (x7.length : Int)) (
 Nd (¬ ((Sx.cellAt x0 x6 1).toInt < 0)) (
 Nd ((Sx.cellAt x0 x6 1).toInt < (x3.length : Int)) (
((((Sx.cellAt x7 (Sx.cellAt x0 x6 1).toInt 0).toInt < (Sx.cellAt x3 (Sx.cellAt x0 x6 1).toInt 0).toInt) →
 Nd (¬ ((Sx.cellAt x0 x6 1).toInt < 0)) (
 Nd ((Sx.cellAt x0 x6 1).toInt < (x7.length : Int)) (
 Nd ((Sx.cellAt x0 x6 1).toInt < (x7.length : Int)) (
 Nd ((¬ (((Sx.cellAt x7 (Sx.cellAt x0 x6 1).toInt 0).toInt + 1) < (-9223372036854775808))) ∧ (((Sx.cellAt x7 (Sx.cellAt x0 x6 1).toInt 0).toInt + 1) < 9223372036854775808)) (
 Nd (¬ ((Sx.cellAt x0 x6 1).toInt < 0)) (
 Nd ((Sx.cellAt x0 x6 1).toInt < (x7.length : Int)) (
 Nd (¬ ((x7.length : Int) < (Sx.cellAt x0 x6 1).toInt)) (
 Nd ((Sx.cellAt x0 x6 1).toInt < (x2.length : Int)) (
 Nd (¬ ((x8.length : Int) < (x8.length : Int))) (
 Nd (((x8.length : Int) + 1) < 67108865) (
 Nd ((x8.length : Int) = (x8.length : Int)) (
 Nd ((¬ ((x6 + 1) < (-9223372036854775808))) ∧ ((x6 + 1) < 9223372036854775808)) (
 Nd (¬ (((Sx.over x7 (Sx.cellAt x0 x6 1).toInt (Sx.chunk 1 1 [(.int ((Sx.cellAt x7 (Sx.cellAt x0 x6 1).toInt 0).toInt + 1))])).length : Int) < (x7.length : Int))) (
 Nd ((x2.length : Int) = (x2.length : Int)) (
 Nd (¬ ((x2.length : Int) < (x2.length : Int))) (
 Nd (¬ (((x8.length : Int) + 1) < ((x8.length : Int) + 1))) (
 Nd (((x8.length : Int) + 1) = ((x8.length : Int) + 1)) (
 Nd (r2Inv [.lst x0, .lst x1, .lst x2, .lst x3] [.int (x6 + 1), .lst (Sx.part (Sx.over x7 (Sx.cellAt x0 x6 1).toInt (Sx.chunk 1 1 [(.int ((Sx.cellAt x7 (Sx.cellAt x0 x6 1).toInt 0).toInt + 1))])) 0 (x7.length : Int)), .lst (x8 ++ (Sx.chunk 2 1 [(.int x6), (.bool (!(decide ((Sx.cellAt x7 (Sx.cellAt x0 x6 1).toInt 0).toInt < (Sx.cellAt x3 (Sx.cellAt x0 x6 1).toInt 0).toInt))))]))]) (
 Nd (r2Mu [.lst x0, .lst x1, .lst x2, .lst x3] [.int (x6 + 1), .lst (Sx.part (Sx.over x7 (Sx.cellAt x0 x6 1).toInt (Sx.chunk 1 1 [(.int ((Sx.cellAt x7 (Sx.cellAt x0 x6 1).toInt 0).toInt + 1))])) 0 (x7.length : Int)), .lst (x8 ++ (Sx.chunk 2 1 [(.int x6), (.bool (!(decide ((Sx.cellAt x7 (Sx.cellAt x0 x6 1).toInt 0).toInt < (Sx.cellAt x3 (Sx.cellAt x0 x6 1).toInt 0).toInt))))]))] < r2Mu [.lst x0, .lst x1, .lst x2, .lst x3] [.int x6, .lst x7, .lst x8]) (
 True)))))))))))))))))))) ∧ (¬ ((Sx.cellAt x7 (Sx.cellAt x0 x6 1).toInt 0).toInt < (Sx.cellAt x3 (Sx.cellAt x0 x6 1).toInt 0).toInt) →
 Nd (¬ ((x8.length : Int) < (x8.length : Int))) (
 Nd (((x8.length : Int) + 1) < 67108865) (
 Nd ((x8.length : Int) = (x8.length : Int)) (
 Nd ((¬ ((x6 + 1) < (-9223372036854775808))) ∧ ((x6 + 1) < 9223372036854775808)) (
 Nd (¬ ((x7.length : Int) < (x7.length : Int))) (
 Nd ((x7.length : Int) = (x7.length : Int)) (
 Nd ((x2.length : Int) = (x2.length : Int)) (
 Nd (¬ ((x2.length : Int) < (x2.length : Int))) (
 Nd (¬ (((x8.length : Int) + 1) < ((x8.length : Int) + 1))) (
 Nd (((x8.length : Int) + 1) = ((x8.length : Int) + 1)) (
 Nd (r2Inv [.lst x0, .lst x1, .lst x2, .lst x3] [.int (x6 + 1), .lst x7, .lst (x8 ++ (Sx.chunk 2 1 [(.int x6), (.bool (!(decide ((Sx.cellAt x7 (Sx.cellAt x0 x6 1).toInt 0).toInt < (Sx.cellAt x3 (Sx.cellAt x0 x6 1).toInt 0).toInt))))]))]) (
 Nd (r2Mu [.lst x0, .lst x1, .lst x2, .lst x3] [.int (x6 + 1), .lst x7, .lst (x8 ++ (Sx.chunk 2 1 [(.int x6), (.bool (!(decide ((Sx.cellAt x7 (Sx.cellAt x0 x6 1).toInt 0).toInt < (Sx.cellAt x3 (Sx.cellAt x0 x6 1).toInt 0).toInt))))]))] < r2Mu [.lst x0, .lst x1, .lst x2, .lst x3] [.int x6, .lst x7, .lst x8]) (
 True)))))))))))))))))))))) ∧ (¬ (x9 < 0) →
 Nd ((¬ ((x6 + 1) < (-9223372036854775808))) ∧ ((x6 + 1) < 9223372036854775808)) (
 Nd (¬ ((x7.length : Int) < (x7.length : Int))) (
 Nd ((x7.length : Int) = (x7.length : Int)) (
 Nd ((x2.length : Int) = (x2.length : Int)) (
 Nd (¬ ((x2.length : Int) < (x2.length : Int))) (
 Nd (¬ ((x8.length : Int) < (x8.length : Int))) (
 Nd ((x8.length : Int) = (x8.length : Int)) (
 Nd (r2Inv [.lst x0, .lst x1, .lst x2, .lst x3] [.int (x6 + 1), .lst x7, .lst x8]) (
 Nd (r2Mu [.lst x0, .lst x1, .lst x2, .lst x3] [.int (x6 + 1), .lst x7, .lst x8] < r2Mu [.lst x0, .lst x1, .lst x2, .lst x3] [.int x6, .lst x7, .lst x8]) (
 True))))))))))))))) ∧ (¬ (x6 < (x0.length : Int)) →
 Nd (r4Inv [.lst x0, .lst x1] [.int 0, .lst ([] : Sx.Rows)]) (
 ∀ x9 : Int,
 ∀ x10 : Sx.Rows,
(r4Inv [.lst x0, .lst x1] [.int x9, .lst x10]) →
(((x9 < (x1.length : Int)) →
 Nd (¬ (x9 < 0)) (
 Nd (x9 < (x1.length : Int)) (
 Nd (pfindPre [.lst x0, .int (Sx.cellAt x1 x9 0).toInt, .int (Sx.cellAt x1 x9 1).toInt]) (
 ∀ x11 : Int,
(pfindRel [.lst x0, .int (Sx.cellAt x1 x9 0).toInt, .int (Sx.cellAt x1 x9 1).toInt] [.int x11]) →
(((x11 < 0) →
 Nd ((¬ ((x9 + 1) < (-9223372036854775808))) ∧ ((x9 + 1) < 9223372036854775808)) (
 Nd (¬ ((x10.length : Int) < (x10.length : Int))) (
 Nd ((x10.length : Int) = (x10.length : Int)) (
 Nd (r4Inv [.lst x0, .lst x1] [.int (x9 + 1), .lst x10]) (
 Nd (r4Mu [.lst x0, .lst x1] [.int (x9 + 1), .lst x10] < r4Mu [.lst x0, .lst x1] [.int x9, .lst x10]) (
 True)))))) ∧ (¬ (x11 < 0) →
 Nd (¬ (x9 < 0)) (
 Nd (x9 < (x1.length : Int)) (
 Nd (pfindPre [.lst x0, .int (Sx.cellAt x1 x9 0).toInt, .int (Sx.cellAt x1 x9 1).toInt]) (
 ∀ x12 : Int,
(pfindRel [.lst x0, .int (Sx.cellAt x1 x9 0).toInt, .int (Sx.cellAt x1 x9 1).toInt] [.int x12]) →
 Nd (¬ ((x10.length : Int) < (x10.length : Int))) (
 Nd (((x10.length : Int) + 1) < 67108865) (
 Nd ((x10.length : Int) = (x10.length : Int)) (
 Nd ((¬ ((x9 + 1) < (-9223372036854775808))) ∧ ((x9 + 1) < 9223372036854775808)) (
 Nd (¬ (((x10.length : Int) + 1) < ((x10.length : Int) + 1))) (
 Nd (((x10.length : Int) + 1) = ((x10.length : Int) + 1)) (
 Nd (r4Inv [.lst x0, .lst x1] [.int (x9 + 1), .lst (x10 ++ (Sx.chunk 1 1 [(.int x12)]))]) (
 Nd (r4Mu [.lst x0, .lst x1] [.int (x9 + 1), .lst (x10 ++ (Sx.chunk 1 1 [(.int x12)]))] < r4Mu [.lst x0, .lst x1] [.int x9, .lst x10]) (
 True))))))))))))))))) ∧ (¬ (x9 < (x1.length : Int)) →
 Nd (¬ ((x10.length : Int) < (x10.length : Int))) (
 Nd ((x10.length : Int) = (x10.length : Int)) (
 Nd (rkeptPre [.lst x10]) (
 ∀ x11 : Sx.Rows,
(rkeptRel [.lst x10] [.lst x11]) →
 Nd (¬ ((x7.length : Int) < (x7.length : Int))) (
 Nd ((x7.length : Int) = (x7.length : Int)) (
 Nd ((x2.length : Int) = (x2.length : Int)) (
 Nd (¬ ((x2.length : Int) < (x2.length : Int))) (
 Nd (¬ ((x8.length : Int) < (x8.length : Int))) (
 Nd ((x8.length : Int) = (x8.length : Int)) (
 Nd (r6Inv [.lst x0, .lst x1, .lst x3, .lst x11, .lst x8, .lst x7] [.int 0, .lst x7, .lst x8, .lst ([] : Sx.Rows)]) (
 ∀ x12 : Int,
 ∀ x13 : Sx.Rows,
 ∀ x14 : Sx.Rows,
 ∀ x15 : Sx.Rows,
(r6Inv [.lst x0, .lst x1, .lst x3, .lst x11, .lst x8, .lst x7] [.int x12, .lst x13, .lst x14, .lst x15]) →
(((x12 < (x1.length : Int)) →
 Nd (¬ (x12 < 0)) (
 Nd (x12 < (x1.length : Int)) (
 Nd (¬ (x12 < 0)) (
 Nd (x12 < (x1.length : Int)) (
 Nd (pfindPre [.lst x0, .int (Sx.cellAt x1 x12 0).toInt, .int (Sx.cellAt x1 x12 1).toInt]) (
 ∀ x16 : Int,
(pfindRel [.lst x0, .int (Sx.cellAt x1 x12 0).toInt, .int (Sx.cellAt x1 x12 1).toInt] [.int x16]) →
(((x16 < 0) →
 Nd (¬ ((Sx.cellAt x1 x12 1).toInt < 0)) (
 Nd ((Sx.cellAt x1 x12 1).toInt < (x13.length : Int)) (
 Nd ((Sx.cellAt x1 x12 1).toInt < (x13.length : Int)) (
(((0 < (Sx.cellAt x13 (Sx.cellAt x1 x12 1).toInt 0).toInt) →
 Nd (¬ ((Sx.cellAt x1 x12 1).toInt < 0)) (
 Nd ((Sx.cellAt x1 x12 1).toInt < (x13.length : Int)) (
 Nd ((Sx.cellAt x1 x12 1).toInt < (x13.length : Int)) (
 Nd ((¬ (((Sx.cellAt x13 (Sx.cellAt x1 x12 1).toInt 0).toInt + (-1)) < (-9223372036854775808))) ∧ (((Sx.cellAt x13 (Sx.cellAt x1 x12 1).toInt 0).toInt + (-1)) < 9223372036854775808)) (
 Nd (¬ ((Sx.cellAt x1 x12 1).toInt < 0)) (
 Nd ((Sx.cellAt x1 x12 1).toInt < (x13.length : Int)) (
 Nd (¬ ((x13.length : Int) < (Sx.cellAt x1 x12 1).toInt)) (
 Nd ((Sx.cellAt x1 x12 1).toInt < (x2.length : Int)) (
 Nd (¬ ((x15.length : Int) < (x15.length : Int))) (
 Nd (((x15.length : Int) + 1) < 67108865) (
 Nd ((x15.length : Int) = (x15.length : Int)) (
 Nd ((¬ ((x12 + 1) < (-9223372036854775808))) ∧ ((x12 + 1) < 9223372036854775808)) (
 Nd (¬ (((Sx.over x13 (Sx.cellAt x1 x12 1).toInt (Sx.chunk 1 1 [(.int ((Sx.cellAt x13 (Sx.cellAt x1 x12 1).toInt 0).toInt + (-1)))])).length : Int) < (x13.length : Int))) (
 Nd ((x2.length : Int) = (x2.length : Int)) (
 Nd (¬ ((x2.length : Int) < (x2.length : Int))) (
 Nd (¬ ((x14.length : Int) < (x14.length : Int))) (
 Nd ((x14.length : Int) = (x14.length : Int)) (
 Nd (¬ (((x15.length : Int) + 1) < ((x15.length : Int) + 1))) (
 Nd (((x15.length : Int) + 1) = ((x15.length : Int) + 1)) (
 Nd (r6Inv [.lst x0, .lst x1, .lst x3, .lst x11, .lst x8, .lst x7] [.int (x12 + 1), .lst (Sx.part (Sx.over x13 (Sx.cellAt x1 x12 1).toInt (Sx.chunk 1 1 [(.int ((Sx.cellAt x13 (Sx.cellAt x1 x12 1).toInt 0).toInt + (-1)))])) 0 (x13.length : Int)), .lst x14, .lst (x15 ++ (Sx.chunk 3 1 [(.int (2)), (.int x16), (.bool false)]))]) (
 Nd (r6Mu [.lst x0, .lst x1, .lst x3, .lst x11, .lst x8, .lst x7] [.int (x12 + 1), .lst (Sx.part (Sx.over x13 (Sx.cellAt x1 x12 1).toInt (Sx.chunk 1 1 [(.int ((Sx.cellAt x13 (Sx.cellAt x1 x12 1).toInt 0).toInt + (-1)))])) 0 (x13.length : Int)), .lst x14, .lst (x15 ++ (Sx.chunk 3 1 [(.int (2)), (.int x16), (.bool false)]))] < r6Mu [.lst x0, .lst x1, .lst x3, .lst x11, .lst x8, .lst x7] [.int x12, .lst x13, .lst x14, .lst x15]) (
 True)))))))))))))))))))))) ∧ (¬ (0 < (Sx.cellAt x13 (Sx.cellAt x1 x12 1).toInt 0).toInt) →
 Nd (¬ ((x15.length : Int) < (x15.length : Int))) (
 Nd (((x15.length : Int) + 1) < 67108865) (
 Nd ((x15.length : Int) = (x15.length : Int)) (
 Nd ((¬ ((x12 + 1) < (-9223372036854775808))) ∧ ((x12 + 1) < 9223372036854775808)) (
 Nd (¬ ((x13.length : Int) < (x13.length : Int))) (
 Nd ((x13.length : Int) = (x13.length : Int)) (
 Nd ((x2.length : Int) = (x2.length : Int)) (
 Nd (¬ ((x2.length : Int) < (x2.length : Int))) (
 Nd (¬ ((x14.length : Int) < (x14.length : Int))) (
 Nd ((x14.length : Int) = (x14.length : Int)) (
 Nd (¬ (((x15.length : Int) + 1) < ((x15.length : Int) + 1))) (
 Nd (((x15.length : Int) + 1) = ((x15.length : Int) + 1)) (
 Nd (r6Inv [.lst x0, .lst x1, .lst x3, .lst x11, .lst x8, .lst x7] [.int (x12 + 1), .lst x13, .lst x14, .lst (x15 ++ (Sx.chunk 3 1 [(.int (3)), (.int x16), (.bool false)]))]) (
 Nd (r6Mu [.lst x0, .lst x1, .lst x3, .lst x11, .lst x8, .lst x7] [.int (x12 + 1), .lst x13, .lst x14, .lst (x15 ++ (Sx.chunk 3 1 [(.int (3)), (.int x16), (.bool false)]))] < r6Mu [.lst x0, .lst x1, .lst x3, .lst x11, .lst x8, .lst x7] [.int x12, .lst x13, .lst x14, .lst x15]) (
 True)))))))))))))))))))) ∧ (¬ (x16 < 0) →
 Nd (r8Inv [.lst x11, .int x16] [.int 0, .int x16, .bool true]) (
 ∀ x17 : Int,
 ∀ x18 : Int,
 ∀ x19 : Bool,
(r8Inv [.lst x11, .int x16] [.int x17, .int x18, .bool x19]) →
(((x17 < (x11.length : Int)) →
 Nd (¬ (x17 < 0)) (
 Nd (x17 < (x11.length : Int)) (
 Nd (x17 < (x11.length : Int)) (
((((Sx.cellAt x11 x17 0).toInt = x16) →
 Nd ((¬ ((x17 + 1) < (-9223372036854775808))) ∧ ((x17 + 1) < 9223372036854775808)) (
 Nd (r8Inv [.lst x11, .int x16] [.int (x17 + 1), .int x18, .bool false]) (
 Nd (r8Mu [.lst x11, .int x16] [.int (x17 + 1), .int x18, .bool false] < r8Mu [.lst x11, .int x16] [.int x17, .int x18, .bool x19]) (
 True)))) ∧ (¬ ((Sx.cellAt x11 x17 0).toInt = x16) →
 Nd ((¬ ((x17 + 1) < (-9223372036854775808))) ∧ ((x17 + 1) < 9223372036854775808)) (
 Nd (r8Inv [.lst x11, .int x16] [.int (x17 + 1), .int x18, .bool x19]) (
 Nd (r8Mu [.lst x11, .int x16] [.int (x17 + 1), .int x18, .bool x19] < r8Mu [.lst x11, .int x16] [.int x17, .int x18, .bool x19]) (
 True))))))))) ∧ (¬ (x17 < (x11.length : Int)) →
 Nd (¬ ((x15.length : Int) < (x15.length : Int))) (
 Nd (((x15.length : Int) + 1) < 67108865) (
 Nd ((x15.length : Int) = (x15.length : Int)) (
 Nd ((¬ ((x12 + 1) < (-9223372036854775808))) ∧ ((x12 + 1) < 9223372036854775808)) (
 Nd (¬ ((x13.length : Int) < (x13.length : Int))) (
 Nd ((x13.length : Int) = (x13.length : Int)) (
 Nd ((x2.length : Int) = (x2.length : Int)) (
 Nd (¬ ((x2.length : Int) < (x2.length : Int))) (
 Nd (¬ ((x14.length : Int) < (x14.length : Int))) (
 Nd ((x14.length : Int) = (x14.length : Int)) (
 Nd (¬ (((x15.length : Int) + 1) < ((x15.length : Int) + 1))) (
 Nd (((x15.length : Int) + 1) = ((x15.length : Int) + 1)) (
 Nd (r6Inv [.lst x0, .lst x1, .lst x3, .lst x11, .lst x8, .lst x7] [.int (x12 + 1), .lst x13, .lst x14, .lst (x15 ++ (Sx.chunk 3 1 [(.int (1)), (.int x18), (.bool x19)]))]) (
 Nd (r6Mu [.lst x0, .lst x1, .lst x3, .lst x11, .lst x8, .lst x7] [.int (x12 + 1), .lst x13, .lst x14, .lst (x15 ++ (Sx.chunk 3 1 [(.int (1)), (.int x18), (.bool x19)]))] < r6Mu [.lst x0, .lst x1, .lst x3, .lst x11, .lst x8, .lst x7] [.int x12, .lst x13, .lst x14, .lst x15]) (
 True))))))))))))))))))))))))) ∧ (¬ (x12 < (x1.length : Int)) →
 Nd (¬ ((x14.length : Int) < (x14.length : Int))) (
 Nd ((x14.length : Int) = (x14.length : Int)) (
 Nd (¬ ((x15.length : Int) < (x15.length : Int))) (
 Nd ((x15.length : Int) = (x15.length : Int)) (
 Nd (rofRel [.lst x0, .lst x1, .lst x2, .lst x3] [.lst x14, .lst x15]) (
 True))))))))))))))))))))))))))))))))))))
theorem vcRof_eq : (cvc Go.Proofs.Try.prog U0 cRof (sxF Go.Proofs.Try.prog U0 annsC (conOf Go.Proofs.Try.prog U0 (stageC 0)) 400 19)).vc U0 (fun _ => True) = vcRof := by kernel_rfl
def vcRcheck : Prop :=
 ∀ x0 : Sx.Rows,
 ∀ x1 : Int,
(rcheckPre [.lst x0, .int x1]) →
(((x1 < 1) →
 Nd (x1 < 1) (
 Nd (x1 < 1) (
 Nd (rcheckRel [.lst x0, .int x1] [.int 1]) (
 True)))) ∧ (¬ (x1 < 1) →
 Nd (¬ (x1 < 1)) (
 Nd (¬ (x1 < 1)) (
(((8 < x1) →
 Nd (rcheckRel [.lst x0, .int x1] [.int 1]) (
 True)) ∧ (¬ (8 < x1) →
(((1024 < (x0.length : Int)) →
 Nd (rcheckRel [.lst x0, .int x1] [.int 3]) (
 True)) ∧ (¬ (1024 < (x0.length : Int)) →
 Nd (c0Inv [.lst x0, .int x1] [.int 0]) (
 ∀ x2 : Int,
(c0Inv [.lst x0, .int x1] [.int x2]) →
(((x2 < (x0.length : Int)) →
 Nd (¬ (x2 < 0)) (
 Nd (x2 < (x0.length : Int)) (
((((Sx.cellAt x0 x2 0).toInt = 0) →
 Nd (rcheckRel [.lst x0, .int x1] [.int 9]) (
 True)) ∧ (¬ ((Sx.cellAt x0 x2 0).toInt = 0) →
 Nd (¬ (x2 < 0)) (
 Nd (x2 < (x0.length : Int)) (
 Nd ((¬ ((Sx.cellAt x0 x2 1).toInt < (-9223372036854775808))) ∧ ((Sx.cellAt x0 x2 1).toInt < 9223372036854775808)) (
((((Sx.cellAt x0 x2 1).toInt < x1) →
 Nd (c2Inv [.lst x0, .int x2] [.int 0]) (
 ∀ x3 : Int,
(c2Inv [.lst x0, .int x2] [.int x3]) →
(((x3 < x2) →
 Nd (¬ (x3 < 0)) (
 Nd (x3 < (x0.length : Int)) (
 Nd (¬ (x2 < 0)) (
 Nd (x2 < (x0.length : Int)) (
((((Sx.cellAt x0 x3 0).toInt = (Sx.cellAt x0 x2 0).toInt) →
 Nd (rcheckRel [.lst x0, .int x1] [.int 8]) (
 True)) ∧ (¬ ((Sx.cellAt x0 x3 0).toInt = (Sx.cellAt x0 x2 0).toInt) →
 Nd ((¬ ((x3 + 1) < (-9223372036854775808))) ∧ ((x3 + 1) < 9223372036854775808)) (
 Nd (c2Inv [.lst x0, .int x2] [.int (x3 + 1)]) (
 Nd (c2Mu [.lst x0, .int x2] [.int (x3 + 1)] < c2Mu [.lst x0, .int x2] [.int x3]) (
 True)))))))))) ∧ (¬ (x3 < x2) →
 Nd ((¬ ((x2 + 1) < (-9223372036854775808))) ∧ ((x2 + 1) < 9223372036854775808)) (
 Nd (c0Inv [.lst x0, .int x1] [.int (x2 + 1)]) (
 Nd (c0Mu [.lst x0, .int x1] [.int (x2 + 1)] < c0Mu [.lst x0, .int x1] [.int x2]) (
 True))))))) ∧ (¬ ((Sx.cellAt x0 x2 1).toInt < x1) →
 Nd (rcheckRel [.lst x0, .int x1] [.int 1]) (
 True))))))))))) ∧ (¬ (x2 < (x0.length : Int)) →
 Nd (rcheckRel [.lst x0, .int x1] [.int 0]) (
 True))))))))))))
theorem vcRcheck_eq : (cvc Go.Proofs.Try.prog U0 cRcheck (sxF Go.Proofs.Try.prog U0 annsC (conOf Go.Proofs.Try.prog U0 (stageC 2)) 400 25)).vc U0 (fun _ => True) = vcRcheck := by kernel_rfl
def vcRerr : Prop :=
 ∀ x0 : Sx.Rows,
 ∀ x1 : Sx.Rows,
 ∀ x2 : Sx.Rows,
 ∀ x3 : Sx.Rows,
(rerrPre [.lst x0, .lst x1, .lst x2, .lst x3]) →
((((x3.length : Int) < 1) →
 Nd ((x3.length : Int) < 1) (
 Nd ((x3.length : Int) < 1) (
 Nd ((x3.length : Int) < 1) (
 Nd (rerrRel [.lst x0, .lst x1, .lst x2, .lst x3] [.int 1]) (
 True))))) ∧ (¬ ((x3.length : Int) < 1) →
 Nd (¬ ((x3.length : Int) < 1)) (
 Nd (¬ ((x3.length : Int) < 1)) (
 Nd (¬ ((x3.length : Int) < 1)) (
(((8 < (x3.length : Int)) →
 Nd (8 < (x3.length : Int)) (
 Nd (8 < (x3.length : Int)) (
 Nd (8 < (x3.length : Int)) (
 Nd (8 < (x3.length : Int)) (
 Nd (8 < (x3.length : Int)) (
 Nd (rerrRel [.lst x0, .lst x1, .lst x2, .lst x3] [.int 1]) (
 True))))))) ∧ (¬ (8 < (x3.length : Int)) →
 Nd (¬ (8 < (x3.length : Int))) (
 Nd (¬ (8 < (x3.length : Int))) (
 Nd (¬ (8 < (x3.length : Int))) (
 Nd (¬ (8 < (x3.length : Int))) (
 Nd (¬ (8 < (x3.length : Int))) (
((((x2.length : Int) = (x3.length : Int)) →
 Nd (e0Inv [.lst x2, .lst x3] [.int 0]) (
 ∀ x4 : Int,
(e0Inv [.lst x2, .lst x3] [.int x4]) →
(((x4 < (x2.length : Int)) →
 Nd (¬ (x4 < 0)) (
 Nd (x4 < (x2.length : Int)) (
((((Sx.cellAt x2 x4 0).toInt < 0) →
 Nd ((Sx.cellAt x2 x4 0).toInt < 0) (
 Nd ((Sx.cellAt x2 x4 0).toInt < 0) (
 Nd ((Sx.cellAt x2 x4 0).toInt < 0) (
 Nd ((Sx.cellAt x2 x4 0).toInt < 0) (
 Nd ((Sx.cellAt x2 x4 0).toInt < 0) (
 Nd ((Sx.cellAt x2 x4 0).toInt < 0) (
 Nd ((Sx.cellAt x2 x4 0).toInt < 0) (
 Nd ((Sx.cellAt x2 x4 0).toInt < 0) (
 Nd ((Sx.cellAt x2 x4 0).toInt < 0) (
 Nd (rerrRel [.lst x0, .lst x1, .lst x2, .lst x3] [.int 1]) (
 True))))))))))) ∧ (¬ ((Sx.cellAt x2 x4 0).toInt < 0) →
 Nd (¬ ((Sx.cellAt x2 x4 0).toInt < 0)) (
 Nd (¬ ((Sx.cellAt x2 x4 0).toInt < 0)) (
 Nd (¬ (x4 < 0)) (
 Nd (x4 < (x2.length : Int)) (
 Nd (¬ ((Sx.cellAt x2 x4 0).toInt < 0)) (
 Nd (¬ ((Sx.cellAt x2 x4 0).toInt < 0)) (
 Nd (¬ ((Sx.cellAt x2 x4 0).toInt < 0)) (
 Nd (¬ ((Sx.cellAt x2 x4 0).toInt < 0)) (
 Nd (¬ (x4 < 0)) (
 Nd (x4 < (x3.length : Int)) (
 Nd (¬ ((Sx.cellAt x2 x4 0).toInt < 0)) (
 Nd (¬ ((Sx.cellAt x2 x4 0).toInt < 0)) (
 Nd (¬ ((Sx.cellAt x2 x4 0).toInt < 0)) (
((((Sx.cellAt x3 x4 0).toInt < (Sx.cellAt x2 x4 0).toInt) →
 Nd (rerrRel [.lst x0, .lst x1, .lst x2, .lst x3] [.int 1]) (
 True)) ∧ (¬ ((Sx.cellAt x3 x4 0).toInt < (Sx.cellAt x2 x4 0).toInt) →
 Nd ((¬ ((x4 + 1) < (-9223372036854775808))) ∧ ((x4 + 1) < 9223372036854775808)) (
 Nd (e0Inv [.lst x2, .lst x3] [.int (x4 + 1)]) (
 Nd (e0Mu [.lst x2, .lst x3] [.int (x4 + 1)] < e0Mu [.lst x2, .lst x3] [.int x4]) (
 True))))))))))))))))))))))) ∧ (¬ (x4 < (x2.length : Int)) →
 Nd (rcheckPre [.lst x0, .int (x3.length : Int)]) (
 ∀ x5 : Int,
(rcheckRel [.lst x0, .int (x3.length : Int)] [.int x5]) →
(((0 < x5) →
 Nd (rcheckPre [.lst x0, .int (x3.length : Int)]) (
 ∀ x6 : Int,
(rcheckRel [.lst x0, .int (x3.length : Int)] [.int x6]) →
 Nd (rerrRel [.lst x0, .lst x1, .lst x2, .lst x3] [.int x6]) (
 True))) ∧ (¬ (0 < x5) →
 Nd (rcheckPre [.lst x1, .int (x3.length : Int)]) (
 ∀ x6 : Int,
(rcheckRel [.lst x1, .int (x3.length : Int)] [.int x6]) →
 Nd (rerrRel [.lst x0, .lst x1, .lst x2, .lst x3] [.int x6]) (
 True))))))))) ∧ (¬ ((x2.length : Int) = (x3.length : Int)) →
 Nd (rerrRel [.lst x0, .lst x1, .lst x2, .lst x3] [.int 1]) (
 True)))))))))))))))
theorem vcRerr_eq : (cvc Go.Proofs.Try.prog U0 cRerr (sxF Go.Proofs.Try.prog U0 annsC (conOf Go.Proofs.Try.prog U0 (stageC 1)) 400 23)).vc U0 (fun _ => True) = vcRerr := by kernel_rfl
end Go.C36
