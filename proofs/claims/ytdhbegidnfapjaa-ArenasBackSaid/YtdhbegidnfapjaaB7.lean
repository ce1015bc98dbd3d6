/- The conditions of contracts, as the engine's printer has written them, and that the kernel comes to the same.
  Conditions: none. -/
import Derived.Test.YtdhbegidnfapjaaB6
import Derived.Test.YtdhbegidnfapjaaRows
import Derived.KernelRfl
set_option linter.unusedVariables false
set_option maxRecDepth 100000
namespace Go.C15
open Go Go.Xe Go.Sx
def vcDo0 (x0 : Int) (x1 : Int) (x2 : Int) (x3 : Sx.Rows) (x4 : Sx.Rows) (x5 : Sx.Rows) (x6 : Sx.Rows) (x7 : Int) (x8 : Int) (x14 : Sx.Rows) (x15 : Int) (x16 : Int) (x17 : Sx.Rows) (x18 : Sx.Rows) (x19 : Int) (x20 : Int) : Prop :=
 Nd (¬ (((x5.length : Int) + 1) < ((x5.length : Int) + 1))) (
 Nd (((x5.length : Int) + 1) = ((x5.length : Int) + 1)) (
 Nd (¬ ((x14.length : Int) < (x14.length : Int))) (
 Nd ((x14.length : Int) = (x14.length : Int)) (
 Nd (doRel [.int x0, .int x1, .int x2, .lst x3, .lst x4, .lst x5, .lst x6, .int x7, .int x8] [.int 0, .lst x17, .lst x18, .lst (x5 ++ (Sx.chunk 2 1 [(.int x19), (.int x20)])), .lst x14, .int x15, .int x16]) (
 True)))))
def vcDo1 (x0 : Int) (x1 : Int) (x2 : Int) (x3 : Sx.Rows) (x4 : Sx.Rows) (x5 : Sx.Rows) (x6 : Sx.Rows) (x7 : Int) (x8 : Int) (x11 : Int) (x12 : Int) (x13 : Int) (x14 : Sx.Rows) (x15 : Int) (x16 : Int) (x17 : Sx.Rows) (x18 : Sx.Rows) (x19 : Int) (x20 : Int) : Prop :=
 Nd (x13 = 0) (
 Nd (x13 = 0) (
 Nd (x13 = 0) (
(((x11 = x19) →
(((x12 = x20) →
 Nd (¬ ((x14.length : Int) < (x14.length : Int))) (
 Nd ((x14.length : Int) = (x14.length : Int)) (
 Nd (agetPre [.int x19, .int x20, .lst x14, .int x15, .int x16]) (
 ∀ x21 : Int,
 ∀ x22 : Int,
 ∀ x23 : Sx.Rows,
 ∀ x24 : Int,
 ∀ x25 : Int,
(agetRel [.int x19, .int x20, .lst x14, .int x15, .int x16] [.int x21, .int x22, .lst x23, .int x24, .int x25]) →
 Nd (¬ ((x23.length : Int) < (x23.length : Int))) (
 Nd ((x23.length : Int) = (x23.length : Int)) (
 Nd (validPre [.int x19, .int x20, .lst x23, .int x24, .int x25]) (
 ∀ x26 : Bool,
 ∀ x27 : Sx.Rows,
 ∀ x28 : Int,
 ∀ x29 : Int,
(validRel [.int x19, .int x20, .lst x23, .int x24, .int x25] [.bool x26, .lst x27, .int x28, .int x29]) →
 Nd (rvalidPre [.lst x17, .lst x18, .int x19, .int x20]) (
 ∀ x30 : Bool,
(rvalidRel [.lst x17, .lst x18, .int x19, .int x20] [.bool x30]) →
((((x26 == x30) = true) →
 Nd ((x26 == x30) = true) (
 Nd ((x26 == x30) = true) (
 Nd ((x26 == x30) = true) (
 Nd ((x26 == x30) = true) (
 Nd ((x26 == x30) = true) (
 Nd ((x26 == x30) = true) (
 Nd ((x26 == x30) = true) (
 Nd (¬ ((x27.length : Int) < (x27.length : Int))) (
 Nd ((x27.length : Int) = (x27.length : Int)) (
 Nd (validPre [.int x19, .int x20, .lst x27, .int x28, .int x29]) (
 ∀ x31 : Bool,
 ∀ x32 : Sx.Rows,
 ∀ x33 : Int,
 ∀ x34 : Int,
(validRel [.int x19, .int x20, .lst x27, .int x28, .int x29] [.bool x31, .lst x32, .int x33, .int x34]) →
 Nd ((x26 == x30) = true) (
 Nd ((x26 == x30) = true) (
(((((decide (x22 = 0)) == x31) = true) →
 Nd (((decide (x22 = 0)) == x31) = true) (
 Nd (((decide (x22 = 0)) == x31) = true) (
(((x22 = 0) →
 Nd (x22 = 0) (
 Nd (((decide (x22 = 0)) == x31) = true) (
 Nd (x22 = 0) (
 Nd (((decide (x22 = 0)) == x31) = true) (
 Nd (¬ (((x5.length : Int) + 1) < ((x5.length : Int) + 1))) (
 Nd (((x5.length : Int) + 1) = ((x5.length : Int) + 1)) (
 Nd (¬ ((x32.length : Int) < (x32.length : Int))) (
 Nd ((x32.length : Int) = (x32.length : Int)) (
 Nd (doRel [.int x0, .int x1, .int x2, .lst x3, .lst x4, .lst x5, .lst x6, .int x7, .int x8] [.int 1, .lst x17, .lst x18, .lst (x5 ++ (Sx.chunk 2 1 [(.int x19), (.int x20)])), .lst x32, .int x33, .int x34]) (
 True)))))))))) ∧ (¬ (x22 = 0) →
 Nd (¬ (x22 = 0)) (
 Nd (((decide (x22 = 0)) == x31) = true) (
 Nd (¬ (x22 = 0)) (
 Nd (((decide (x22 = 0)) == x31) = true) (
(((x22 = 11) →
 Nd (¬ (((x5.length : Int) + 1) < ((x5.length : Int) + 1))) (
 Nd (((x5.length : Int) + 1) = ((x5.length : Int) + 1)) (
 Nd (¬ ((x32.length : Int) < (x32.length : Int))) (
 Nd ((x32.length : Int) = (x32.length : Int)) (
 Nd (doRel [.int x0, .int x1, .int x2, .lst x3, .lst x4, .lst x5, .lst x6, .int x7, .int x8] [.int 1, .lst x17, .lst x18, .lst (x5 ++ (Sx.chunk 2 1 [(.int x19), (.int x20)])), .lst x32, .int x33, .int x34]) (
 True)))))) ∧ (¬ (x22 = 11) →
 Nd (¬ (((x5.length : Int) + 1) < ((x5.length : Int) + 1))) (
 Nd (((x5.length : Int) + 1) = ((x5.length : Int) + 1)) (
 Nd (¬ ((x32.length : Int) < (x32.length : Int))) (
 Nd ((x32.length : Int) = (x32.length : Int)) (
 Nd (doRel [.int x0, .int x1, .int x2, .lst x3, .lst x4, .lst x5, .lst x6, .int x7, .int x8] [.int 0, .lst x17, .lst x18, .lst (x5 ++ (Sx.chunk 2 1 [(.int x19), (.int x20)])), .lst x32, .int x33, .int x34]) (
 True)))))))))))))))) ∧ (¬ (((decide (x22 = 0)) == x31) = true) →
 Nd (¬ (((decide (x22 = 0)) == x31) = true)) (
 Nd (¬ (((decide (x22 = 0)) == x31) = true)) (
 Nd (¬ (((decide (x22 = 0)) == x31) = true)) (
 Nd (¬ (((decide (x22 = 0)) == x31) = true)) (
 Nd (¬ (((x5.length : Int) + 1) < ((x5.length : Int) + 1))) (
 Nd (((x5.length : Int) + 1) = ((x5.length : Int) + 1)) (
 Nd (¬ ((x32.length : Int) < (x32.length : Int))) (
 Nd ((x32.length : Int) = (x32.length : Int)) (
 Nd (doRel [.int x0, .int x1, .int x2, .lst x3, .lst x4, .lst x5, .lst x6, .int x7, .int x8] [.int 0, .lst x17, .lst x18, .lst (x5 ++ (Sx.chunk 2 1 [(.int x19), (.int x20)])), .lst x32, .int x33, .int x34]) (
 True)))))))))))))))))))))))) ∧ (¬ ((x26 == x30) = true) →
 Nd (¬ ((x26 == x30) = true)) (
 Nd (¬ ((x26 == x30) = true)) (
 Nd (¬ ((x26 == x30) = true)) (
 Nd (¬ ((x26 == x30) = true)) (
 Nd (¬ ((x26 == x30) = true)) (
 Nd (¬ ((x26 == x30) = true)) (
 Nd (¬ ((x26 == x30) = true)) (
 Nd (¬ ((x26 == x30) = true)) (
 Nd (¬ ((x26 == x30) = true)) (
 Nd (¬ (((x5.length : Int) + 1) < ((x5.length : Int) + 1))) (
 Nd (((x5.length : Int) + 1) = ((x5.length : Int) + 1)) (
 Nd (¬ ((x27.length : Int) < (x27.length : Int))) (
 Nd ((x27.length : Int) = (x27.length : Int)) (
 Nd (doRel [.int x0, .int x1, .int x2, .lst x3, .lst x4, .lst x5, .lst x6, .int x7, .int x8] [.int 0, .lst x17, .lst x18, .lst (x5 ++ (Sx.chunk 2 1 [(.int x19), (.int x20)])), .lst x27, .int x28, .int x29]) (
 True)))))))))))))))))))))))) ∧ (¬ (x12 = x20) →
(vcDo0 x0 x1 x2 x3 x4 x5 x6 x7 x8 x14 x15 x16 x17 x18 x19 x20)))) ∧ (¬ (x11 = x19) →
(vcDo0 x0 x1 x2 x3 x4 x5 x6 x7 x8 x14 x15 x16 x17 x18 x19 x20))))))
def vcDo2 (x0 : Int) (x1 : Int) (x2 : Int) (x3 : Sx.Rows) (x4 : Sx.Rows) (x5 : Sx.Rows) (x6 : Sx.Rows) (x7 : Int) (x8 : Int) (x13 : Int) (x14 : Sx.Rows) (x15 : Int) (x16 : Int) (x17 : Sx.Rows) (x18 : Sx.Rows) (x19 : Int) (x20 : Int) : Prop :=
 Nd (¬ (x13 = 0)) (
 Nd (¬ (x13 = 0)) (
 Nd (¬ (x13 = 0)) (
 Nd (¬ (((x5.length : Int) + 1) < ((x5.length : Int) + 1))) (
 Nd (((x5.length : Int) + 1) = ((x5.length : Int) + 1)) (
 Nd (¬ ((x14.length : Int) < (x14.length : Int))) (
 Nd ((x14.length : Int) = (x14.length : Int)) (
 Nd (doRel [.int x0, .int x1, .int x2, .lst x3, .lst x4, .lst x5, .lst x6, .int x7, .int x8] [.int 0, .lst x17, .lst x18, .lst (x5 ++ (Sx.chunk 2 1 [(.int x19), (.int x20)])), .lst x14, .int x15, .int x16]) (
 True))))))))
def vcDo3 (x0 : Int) (x1 : Int) (x2 : Int) (x3 : Sx.Rows) (x4 : Sx.Rows) (x5 : Sx.Rows) (x6 : Sx.Rows) (x7 : Int) (x8 : Int) (x9 : Int) (x10 : Int) (x11 : Int) (x12 : Int) (x13 : Sx.Rows) (x14 : Int) (x15 : Int) (x16 : Sx.Rows) (x17 : Sx.Rows) (x18 : Int) (x19 : Int) : Prop :=
 Nd (x11 = x18) (
 Nd (x11 = x18) (
 Nd (x11 = x18) (
(((x12 = x19) →
 Nd (¬ ((x13.length : Int) < (x13.length : Int))) (
 Nd ((x13.length : Int) = (x13.length : Int)) (
 Nd (agetPre [.int x9, .int x10, .lst x13, .int x14, .int x15]) (
 ∀ x20 : Int,
 ∀ x21 : Int,
 ∀ x22 : Sx.Rows,
 ∀ x23 : Int,
 ∀ x24 : Int,
(agetRel [.int x9, .int x10, .lst x13, .int x14, .int x15] [.int x20, .int x21, .lst x22, .int x23, .int x24]) →
 Nd (¬ ((x22.length : Int) < (x22.length : Int))) (
 Nd ((x22.length : Int) = (x22.length : Int)) (
 Nd (validPre [.int x9, .int x10, .lst x22, .int x23, .int x24]) (
 ∀ x25 : Bool,
 ∀ x26 : Sx.Rows,
 ∀ x27 : Int,
 ∀ x28 : Int,
(validRel [.int x9, .int x10, .lst x22, .int x23, .int x24] [.bool x25, .lst x26, .int x27, .int x28]) →
 Nd (rvalidPre [.lst x16, .lst x17, .int x9, .int x10]) (
 ∀ x29 : Bool,
(rvalidRel [.lst x16, .lst x17, .int x9, .int x10] [.bool x29]) →
((((x25 == x29) = true) →
 Nd ((x25 == x29) = true) (
 Nd ((x25 == x29) = true) (
 Nd ((x25 == x29) = true) (
 Nd ((x25 == x29) = true) (
 Nd ((x25 == x29) = true) (
 Nd ((x25 == x29) = true) (
 Nd ((x25 == x29) = true) (
 Nd (¬ ((x26.length : Int) < (x26.length : Int))) (
 Nd ((x26.length : Int) = (x26.length : Int)) (
 Nd (validPre [.int x9, .int x10, .lst x26, .int x27, .int x28]) (
 ∀ x30 : Bool,
 ∀ x31 : Sx.Rows,
 ∀ x32 : Int,
 ∀ x33 : Int,
(validRel [.int x9, .int x10, .lst x26, .int x27, .int x28] [.bool x30, .lst x31, .int x32, .int x33]) →
 Nd ((x25 == x29) = true) (
 Nd ((x25 == x29) = true) (
(((((decide (x21 = 0)) == x30) = true) →
 Nd (((decide (x21 = 0)) == x30) = true) (
 Nd (((decide (x21 = 0)) == x30) = true) (
(((x21 = 0) →
 Nd (x21 = 0) (
 Nd (((decide (x21 = 0)) == x30) = true) (
 Nd (x21 = 0) (
 Nd (((decide (x21 = 0)) == x30) = true) (
 Nd (¬ ((x5.length : Int) < (x5.length : Int))) (
 Nd ((x5.length : Int) = (x5.length : Int)) (
 Nd (¬ ((x31.length : Int) < (x31.length : Int))) (
 Nd ((x31.length : Int) = (x31.length : Int)) (
 Nd (doRel [.int x0, .int x1, .int x2, .lst x3, .lst x4, .lst x5, .lst x6, .int x7, .int x8] [.int 1, .lst x16, .lst x17, .lst x5, .lst x31, .int x32, .int x33]) (
 True)))))))))) ∧ (¬ (x21 = 0) →
 Nd (¬ (x21 = 0)) (
 Nd (((decide (x21 = 0)) == x30) = true) (
 Nd (¬ (x21 = 0)) (
 Nd (((decide (x21 = 0)) == x30) = true) (
(((x21 = 11) →
 Nd (¬ ((x5.length : Int) < (x5.length : Int))) (
 Nd ((x5.length : Int) = (x5.length : Int)) (
 Nd (¬ ((x31.length : Int) < (x31.length : Int))) (
 Nd ((x31.length : Int) = (x31.length : Int)) (
 Nd (doRel [.int x0, .int x1, .int x2, .lst x3, .lst x4, .lst x5, .lst x6, .int x7, .int x8] [.int 1, .lst x16, .lst x17, .lst x5, .lst x31, .int x32, .int x33]) (
 True)))))) ∧ (¬ (x21 = 11) →
 Nd (¬ ((x5.length : Int) < (x5.length : Int))) (
 Nd ((x5.length : Int) = (x5.length : Int)) (
 Nd (¬ ((x31.length : Int) < (x31.length : Int))) (
 Nd ((x31.length : Int) = (x31.length : Int)) (
 Nd (doRel [.int x0, .int x1, .int x2, .lst x3, .lst x4, .lst x5, .lst x6, .int x7, .int x8] [.int 0, .lst x16, .lst x17, .lst x5, .lst x31, .int x32, .int x33]) (
 True)))))))))))))))) ∧ (¬ (((decide (x21 = 0)) == x30) = true) →
 Nd (¬ (((decide (x21 = 0)) == x30) = true)) (
 Nd (¬ (((decide (x21 = 0)) == x30) = true)) (
 Nd (¬ (((decide (x21 = 0)) == x30) = true)) (
 Nd (¬ (((decide (x21 = 0)) == x30) = true)) (
 Nd (¬ ((x5.length : Int) < (x5.length : Int))) (
 Nd ((x5.length : Int) = (x5.length : Int)) (
 Nd (¬ ((x31.length : Int) < (x31.length : Int))) (
 Nd ((x31.length : Int) = (x31.length : Int)) (
 Nd (doRel [.int x0, .int x1, .int x2, .lst x3, .lst x4, .lst x5, .lst x6, .int x7, .int x8] [.int 0, .lst x16, .lst x17, .lst x5, .lst x31, .int x32, .int x33]) (
 True)))))))))))))))))))))))) ∧ (¬ ((x25 == x29) = true) →
 Nd (¬ ((x25 == x29) = true)) (
 Nd (¬ ((x25 == x29) = true)) (
 Nd (¬ ((x25 == x29) = true)) (
 Nd (¬ ((x25 == x29) = true)) (
 Nd (¬ ((x25 == x29) = true)) (
 Nd (¬ ((x25 == x29) = true)) (
 Nd (¬ ((x25 == x29) = true)) (
 Nd (¬ ((x25 == x29) = true)) (
 Nd (¬ ((x25 == x29) = true)) (
 Nd (¬ ((x5.length : Int) < (x5.length : Int))) (
 Nd ((x5.length : Int) = (x5.length : Int)) (
 Nd (¬ ((x26.length : Int) < (x26.length : Int))) (
 Nd ((x26.length : Int) = (x26.length : Int)) (
 Nd (doRel [.int x0, .int x1, .int x2, .lst x3, .lst x4, .lst x5, .lst x6, .int x7, .int x8] [.int 0, .lst x16, .lst x17, .lst x5, .lst x26, .int x27, .int x28]) (
 True)))))))))))))))))))))))) ∧ (¬ (x12 = x19) →
 Nd (¬ ((x5.length : Int) < (x5.length : Int))) (
 Nd ((x5.length : Int) = (x5.length : Int)) (
 Nd (¬ ((x13.length : Int) < (x13.length : Int))) (
 Nd ((x13.length : Int) = (x13.length : Int)) (
 Nd (doRel [.int x0, .int x1, .int x2, .lst x3, .lst x4, .lst x5, .lst x6, .int x7, .int x8] [.int 0, .lst x16, .lst x17, .lst x5, .lst x13, .int x14, .int x15]) (
 True))))))))))
def vcDo4 (x0 : Int) (x1 : Int) (x2 : Int) (x3 : Sx.Rows) (x4 : Sx.Rows) (x5 : Sx.Rows) (x6 : Sx.Rows) (x7 : Int) (x8 : Int) (x11 : Int) (x13 : Sx.Rows) (x14 : Int) (x15 : Int) (x16 : Sx.Rows) (x17 : Sx.Rows) (x18 : Int) : Prop :=
 Nd (¬ (x11 = x18)) (
 Nd (¬ (x11 = x18)) (
 Nd (¬ (x11 = x18)) (
 Nd (¬ ((x5.length : Int) < (x5.length : Int))) (
 Nd ((x5.length : Int) = (x5.length : Int)) (
 Nd (¬ ((x13.length : Int) < (x13.length : Int))) (
 Nd ((x13.length : Int) = (x13.length : Int)) (
 Nd (doRel [.int x0, .int x1, .int x2, .lst x3, .lst x4, .lst x5, .lst x6, .int x7, .int x8] [.int 0, .lst x16, .lst x17, .lst x5, .lst x13, .int x14, .int x15]) (
 True))))))))
def vcDo5 (x0 : Int) (x1 : Int) (x2 : Int) (x3 : Sx.Rows) (x4 : Sx.Rows) (x5 : Sx.Rows) (x6 : Sx.Rows) (x7 : Int) (x8 : Int) (x9 : Int) (x10 : Int) (x12 : Sx.Rows) (x13 : Int) (x14 : Int) (x15 : Sx.Rows) (x16 : Sx.Rows) : Prop :=
 Nd (¬ ((x12.length : Int) < (x12.length : Int))) (
 Nd ((x12.length : Int) = (x12.length : Int)) (
 Nd (agetPre [.int x9, .int x10, .lst x12, .int x13, .int x14]) (
 ∀ x18 : Int,
 ∀ x19 : Int,
 ∀ x20 : Sx.Rows,
 ∀ x21 : Int,
 ∀ x22 : Int,
(agetRel [.int x9, .int x10, .lst x12, .int x13, .int x14] [.int x18, .int x19, .lst x20, .int x21, .int x22]) →
 Nd (¬ ((x20.length : Int) < (x20.length : Int))) (
 Nd ((x20.length : Int) = (x20.length : Int)) (
 Nd (validPre [.int x9, .int x10, .lst x20, .int x21, .int x22]) (
 ∀ x23 : Bool,
 ∀ x24 : Sx.Rows,
 ∀ x25 : Int,
 ∀ x26 : Int,
(validRel [.int x9, .int x10, .lst x20, .int x21, .int x22] [.bool x23, .lst x24, .int x25, .int x26]) →
 Nd (rvalidPre [.lst x15, .lst x16, .int x9, .int x10]) (
 ∀ x27 : Bool,
(rvalidRel [.lst x15, .lst x16, .int x9, .int x10] [.bool x27]) →
((((x23 == x27) = true) →
 Nd ((x23 == x27) = true) (
 Nd ((x23 == x27) = true) (
 Nd ((x23 == x27) = true) (
 Nd ((x23 == x27) = true) (
 Nd ((x23 == x27) = true) (
 Nd ((x23 == x27) = true) (
 Nd ((x23 == x27) = true) (
 Nd (¬ ((x24.length : Int) < (x24.length : Int))) (
 Nd ((x24.length : Int) = (x24.length : Int)) (
 Nd (validPre [.int x9, .int x10, .lst x24, .int x25, .int x26]) (
 ∀ x28 : Bool,
 ∀ x29 : Sx.Rows,
 ∀ x30 : Int,
 ∀ x31 : Int,
(validRel [.int x9, .int x10, .lst x24, .int x25, .int x26] [.bool x28, .lst x29, .int x30, .int x31]) →
 Nd ((x23 == x27) = true) (
 Nd ((x23 == x27) = true) (
(((((decide (x19 = 0)) == x28) = true) →
 Nd (((decide (x19 = 0)) == x28) = true) (
 Nd (((decide (x19 = 0)) == x28) = true) (
(((x19 = 0) →
 Nd (x19 = 0) (
 Nd (((decide (x19 = 0)) == x28) = true) (
 Nd (x19 = 0) (
 Nd (((decide (x19 = 0)) == x28) = true) (
 Nd (¬ ((x5.length : Int) < (x5.length : Int))) (
 Nd ((x5.length : Int) = (x5.length : Int)) (
 Nd (¬ ((x29.length : Int) < (x29.length : Int))) (
 Nd ((x29.length : Int) = (x29.length : Int)) (
 Nd (doRel [.int x0, .int x1, .int x2, .lst x3, .lst x4, .lst x5, .lst x6, .int x7, .int x8] [.int 1, .lst x15, .lst x16, .lst x5, .lst x29, .int x30, .int x31]) (
 True)))))))))) ∧ (¬ (x19 = 0) →
 Nd (¬ (x19 = 0)) (
 Nd (((decide (x19 = 0)) == x28) = true) (
 Nd (¬ (x19 = 0)) (
 Nd (((decide (x19 = 0)) == x28) = true) (
(((x19 = 11) →
 Nd (¬ ((x5.length : Int) < (x5.length : Int))) (
 Nd ((x5.length : Int) = (x5.length : Int)) (
 Nd (¬ ((x29.length : Int) < (x29.length : Int))) (
 Nd ((x29.length : Int) = (x29.length : Int)) (
 Nd (doRel [.int x0, .int x1, .int x2, .lst x3, .lst x4, .lst x5, .lst x6, .int x7, .int x8] [.int 1, .lst x15, .lst x16, .lst x5, .lst x29, .int x30, .int x31]) (
 True)))))) ∧ (¬ (x19 = 11) →
 Nd (¬ ((x5.length : Int) < (x5.length : Int))) (
 Nd ((x5.length : Int) = (x5.length : Int)) (
 Nd (¬ ((x29.length : Int) < (x29.length : Int))) (
 Nd ((x29.length : Int) = (x29.length : Int)) (
 Nd (doRel [.int x0, .int x1, .int x2, .lst x3, .lst x4, .lst x5, .lst x6, .int x7, .int x8] [.int 0, .lst x15, .lst x16, .lst x5, .lst x29, .int x30, .int x31]) (
 True)))))))))))))))) ∧ (¬ (((decide (x19 = 0)) == x28) = true) →
 Nd (¬ (((decide (x19 = 0)) == x28) = true)) (
 Nd (¬ (((decide (x19 = 0)) == x28) = true)) (
 Nd (¬ (((decide (x19 = 0)) == x28) = true)) (
 Nd (¬ (((decide (x19 = 0)) == x28) = true)) (
 Nd (¬ ((x5.length : Int) < (x5.length : Int))) (
 Nd ((x5.length : Int) = (x5.length : Int)) (
 Nd (¬ ((x29.length : Int) < (x29.length : Int))) (
 Nd ((x29.length : Int) = (x29.length : Int)) (
 Nd (doRel [.int x0, .int x1, .int x2, .lst x3, .lst x4, .lst x5, .lst x6, .int x7, .int x8] [.int 0, .lst x15, .lst x16, .lst x5, .lst x29, .int x30, .int x31]) (
 True)))))))))))))))))))))))) ∧ (¬ ((x23 == x27) = true) →
 Nd (¬ ((x23 == x27) = true)) (
 Nd (¬ ((x23 == x27) = true)) (
 Nd (¬ ((x23 == x27) = true)) (
 Nd (¬ ((x23 == x27) = true)) (
 Nd (¬ ((x23 == x27) = true)) (
 Nd (¬ ((x23 == x27) = true)) (
 Nd (¬ ((x23 == x27) = true)) (
 Nd (¬ ((x23 == x27) = true)) (
 Nd (¬ ((x23 == x27) = true)) (
 Nd (¬ ((x5.length : Int) < (x5.length : Int))) (
 Nd ((x5.length : Int) = (x5.length : Int)) (
 Nd (¬ ((x24.length : Int) < (x24.length : Int))) (
 Nd ((x24.length : Int) = (x24.length : Int)) (
 Nd (doRel [.int x0, .int x1, .int x2, .lst x3, .lst x4, .lst x5, .lst x6, .int x7, .int x8] [.int 0, .lst x15, .lst x16, .lst x5, .lst x24, .int x25, .int x26]) (
 True)))))))))))))))))))))))
def vcDo6 (x0 : Int) (x1 : Int) (x2 : Int) (x3 : Sx.Rows) (x4 : Sx.Rows) (x5 : Sx.Rows) (x6 : Sx.Rows) (x7 : Int) (x8 : Int) (x12 : Sx.Rows) (x13 : Int) (x14 : Int) (x15 : Sx.Rows) (x16 : Sx.Rows) : Prop :=
 Nd (¬ ((x5.length : Int) < (x5.length : Int))) (
 Nd ((x5.length : Int) = (x5.length : Int)) (
 Nd (¬ ((x12.length : Int) < (x12.length : Int))) (
 Nd ((x12.length : Int) = (x12.length : Int)) (
 Nd (doRel [.int x0, .int x1, .int x2, .lst x3, .lst x4, .lst x5, .lst x6, .int x7, .int x8] [.int 0, .lst x15, .lst x16, .lst x5, .lst x12, .int x13, .int x14]) (
 True)))))
/-- What the contract of 'do' asks for. -/
def vcDo : Prop :=
 ∀ x0 : Int,
 ∀ x1 : Int,
 ∀ x2 : Int,
 ∀ x3 : Sx.Rows,
 ∀ x4 : Sx.Rows,
 ∀ x5 : Sx.Rows,
 ∀ x6 : Sx.Rows,
 ∀ x7 : Int,
 ∀ x8 : Int,
(doPre [.int x0, .int x1, .int x2, .lst x3, .lst x4, .lst x5, .lst x6, .int x7, .int x8]) →
((((((x5.length : Int) = 0) →
 Nd (pickRel [.int x0, .int x1, .int x2, .lst x5] [.int 0, .int 0]) (
 True)) ∧ (¬ ((x5.length : Int) = 0) →
 Nd ((¬ (x1 < (-9223372036854775808))) ∧ (x1 < 9223372036854775808)) (
 Nd (¬ ((x5.length : Int) = 0)) (
 Nd (¬ (((x1 : Int).tmod ((x5.length : Int))) < 0)) (
 Nd (((x1 : Int).tmod ((x5.length : Int))) < (x5.length : Int)) (
 Nd (((x1 : Int).tmod ((x5.length : Int))) < (x5.length : Int)) (
(((x1 = 251) →
 Nd (pickRel [.int x0, .int x1, .int x2, .lst x5] [.int (Sx.cellAt x5 ((x1 : Int).tmod ((x5.length : Int))) 0).toInt, .int (IntKind.wrap .u32 ((Sx.cellAt x5 ((x1 : Int).tmod ((x5.length : Int))) 1).toInt + 1))]) (
 True)) ∧ (¬ (x1 = 251) →
(((x1 = 252) →
 Nd (pickRel [.int x0, .int x1, .int x2, .lst x5] [.int (Sx.cellAt x5 ((x1 : Int).tmod ((x5.length : Int))) 0).toInt, .int (IntKind.wrap .u32 ((Sx.cellAt x5 ((x1 : Int).tmod ((x5.length : Int))) 1).toInt + (-1)))]) (
 True)) ∧ (¬ (x1 = 252) →
(((x1 = 253) →
 Nd (pickRel [.int x0, .int x1, .int x2, .lst x5] [.int (IntKind.wrap .u32 ((Sx.cellAt x5 ((x1 : Int).tmod ((x5.length : Int))) 0).toInt + 1)), .int (Sx.cellAt x5 ((x1 : Int).tmod ((x5.length : Int))) 1).toInt]) (
 True)) ∧ (¬ (x1 = 253) →
(((x1 = 254) →
 Nd (pickRel [.int x0, .int x1, .int x2, .lst x5] [.int 0, .int 0]) (
 True)) ∧ (¬ (x1 = 254) →
(((x1 = 255) →
 Nd (pickRel [.int x0, .int x1, .int x2, .lst x5] [.int 4294967295, .int 4294967295]) (
 True)) ∧ (¬ (x1 = 255) →
 Nd (pickRel [.int x0, .int x1, .int x2, .lst x5] [.int (Sx.cellAt x5 ((x1 : Int).tmod ((x5.length : Int))) 0).toInt, .int (Sx.cellAt x5 ((x1 : Int).tmod ((x5.length : Int))) 1).toInt]) (
 True))))))))))))))))))) ∧ (∀ x9 : Int,
 ∀ x10 : Int,
(pickRel [.int x0, .int x1, .int x2, .lst x5] [.int x9, .int x10]) →
 Nd ((¬ (x2 < (-9223372036854775808))) ∧ (x2 < 9223372036854775808)) (
(((((x0 : Int).tmod (8)) = 0) →
 Nd (((x0 : Int).tmod (8)) = 0) (
 Nd (¬ ((x6.length : Int) < (x6.length : Int))) (
 Nd ((x6.length : Int) = (x6.length : Int)) (
 Nd (takePre [.int x2, .lst x6, .int x7, .int x8]) (
 ∀ x11 : Int,
 ∀ x12 : Int,
 ∀ x13 : Int,
 ∀ x14 : Sx.Rows,
 ∀ x15 : Int,
 ∀ x16 : Int,
(takeRel [.int x2, .lst x6, .int x7, .int x8] [.int x11, .int x12, .int x13, .lst x14, .int x15, .int x16]) →
 Nd (rtakePre [.lst x3, .lst x4, .int x2]) (
 ∀ x17 : Sx.Rows,
 ∀ x18 : Sx.Rows,
 ∀ x19 : Int,
 ∀ x20 : Int,
(rtakeRel [.lst x3, .lst x4, .int x2] [.lst x17, .lst x18, .int x19, .int x20]) →
 Nd (¬ ((x5.length : Int) < (x5.length : Int))) (
 Nd (((x5.length : Int) + 1) < 67108865) (
 Nd ((x5.length : Int) = (x5.length : Int)) (
(((x13 = 0) →
(vcDo1 x0 x1 x2 x3 x4 x5 x6 x7 x8 x11 x12 x13 x14 x15 x16 x17 x18 x19 x20)) ∧ (¬ (x13 = 0) →
(vcDo2 x0 x1 x2 x3 x4 x5 x6 x7 x8 x13 x14 x15 x16 x17 x18 x19 x20)))))))))))) ∧ (¬ (((x0 : Int).tmod (8)) = 0) →
(((((x0 : Int).tmod (8)) = 1) →
 Nd (((x0 : Int).tmod (8)) = 1) (
 Nd (¬ ((x6.length : Int) < (x6.length : Int))) (
 Nd ((x6.length : Int) = (x6.length : Int)) (
 Nd (takePre [.int x2, .lst x6, .int x7, .int x8]) (
 ∀ x11 : Int,
 ∀ x12 : Int,
 ∀ x13 : Int,
 ∀ x14 : Sx.Rows,
 ∀ x15 : Int,
 ∀ x16 : Int,
(takeRel [.int x2, .lst x6, .int x7, .int x8] [.int x11, .int x12, .int x13, .lst x14, .int x15, .int x16]) →
 Nd (rtakePre [.lst x3, .lst x4, .int x2]) (
 ∀ x17 : Sx.Rows,
 ∀ x18 : Sx.Rows,
 ∀ x19 : Int,
 ∀ x20 : Int,
(rtakeRel [.lst x3, .lst x4, .int x2] [.lst x17, .lst x18, .int x19, .int x20]) →
 Nd (¬ ((x5.length : Int) < (x5.length : Int))) (
 Nd (((x5.length : Int) + 1) < 67108865) (
 Nd ((x5.length : Int) = (x5.length : Int)) (
(((x13 = 0) →
(vcDo1 x0 x1 x2 x3 x4 x5 x6 x7 x8 x11 x12 x13 x14 x15 x16 x17 x18 x19 x20)) ∧ (¬ (x13 = 0) →
(vcDo2 x0 x1 x2 x3 x4 x5 x6 x7 x8 x13 x14 x15 x16 x17 x18 x19 x20)))))))))))) ∧ (¬ (((x0 : Int).tmod (8)) = 1) →
(((((x0 : Int).tmod (8)) = 2) →
 Nd (¬ ((x6.length : Int) < (x6.length : Int))) (
 Nd ((x6.length : Int) = (x6.length : Int)) (
 Nd (takePre [.int x2, .lst x6, .int x7, .int x8]) (
 ∀ x11 : Int,
 ∀ x12 : Int,
 ∀ x13 : Int,
 ∀ x14 : Sx.Rows,
 ∀ x15 : Int,
 ∀ x16 : Int,
(takeRel [.int x2, .lst x6, .int x7, .int x8] [.int x11, .int x12, .int x13, .lst x14, .int x15, .int x16]) →
 Nd (rtakePre [.lst x3, .lst x4, .int x2]) (
 ∀ x17 : Sx.Rows,
 ∀ x18 : Sx.Rows,
 ∀ x19 : Int,
 ∀ x20 : Int,
(rtakeRel [.lst x3, .lst x4, .int x2] [.lst x17, .lst x18, .int x19, .int x20]) →
 Nd (¬ ((x5.length : Int) < (x5.length : Int))) (
 Nd (((x5.length : Int) + 1) < 67108865) (
 Nd ((x5.length : Int) = (x5.length : Int)) (
(((x13 = 0) →
(vcDo1 x0 x1 x2 x3 x4 x5 x6 x7 x8 x11 x12 x13 x14 x15 x16 x17 x18 x19 x20)) ∧ (¬ (x13 = 0) →
(vcDo2 x0 x1 x2 x3 x4 x5 x6 x7 x8 x13 x14 x15 x16 x17 x18 x19 x20))))))))))) ∧ (¬ (((x0 : Int).tmod (8)) = 2) →
(((((x0 : Int).tmod (8)) = 3) →
 Nd (((x0 : Int).tmod (8)) = 3) (
 Nd (¬ ((x6.length : Int) < (x6.length : Int))) (
 Nd ((x6.length : Int) = (x6.length : Int)) (
 Nd (freePre [.int x9, .int x10, .lst x6, .int x7, .int x8]) (
 ∀ x11 : Int,
 ∀ x12 : Int,
 ∀ x13 : Sx.Rows,
 ∀ x14 : Int,
 ∀ x15 : Int,
(freeRel [.int x9, .int x10, .lst x6, .int x7, .int x8] [.int x11, .int x12, .lst x13, .int x14, .int x15]) →
 Nd (rfreePre [.lst x3, .lst x4, .int x9, .int x10]) (
 ∀ x16 : Sx.Rows,
 ∀ x17 : Sx.Rows,
 ∀ x18 : Int,
 ∀ x19 : Int,
(rfreeRel [.lst x3, .lst x4, .int x9, .int x10] [.lst x16, .lst x17, .int x18, .int x19]) →
(((x11 = x18) →
(vcDo3 x0 x1 x2 x3 x4 x5 x6 x7 x8 x9 x10 x11 x12 x13 x14 x15 x16 x17 x18 x19)) ∧ (¬ (x11 = x18) →
(vcDo4 x0 x1 x2 x3 x4 x5 x6 x7 x8 x11 x13 x14 x15 x16 x17 x18))))))))) ∧ (¬ (((x0 : Int).tmod (8)) = 3) →
(((((x0 : Int).tmod (8)) = 4) →
 Nd (¬ ((x6.length : Int) < (x6.length : Int))) (
 Nd ((x6.length : Int) = (x6.length : Int)) (
 Nd (freePre [.int x9, .int x10, .lst x6, .int x7, .int x8]) (
 ∀ x11 : Int,
 ∀ x12 : Int,
 ∀ x13 : Sx.Rows,
 ∀ x14 : Int,
 ∀ x15 : Int,
(freeRel [.int x9, .int x10, .lst x6, .int x7, .int x8] [.int x11, .int x12, .lst x13, .int x14, .int x15]) →
 Nd (rfreePre [.lst x3, .lst x4, .int x9, .int x10]) (
 ∀ x16 : Sx.Rows,
 ∀ x17 : Sx.Rows,
 ∀ x18 : Int,
 ∀ x19 : Int,
(rfreeRel [.lst x3, .lst x4, .int x9, .int x10] [.lst x16, .lst x17, .int x18, .int x19]) →
(((x11 = x18) →
(vcDo3 x0 x1 x2 x3 x4 x5 x6 x7 x8 x9 x10 x11 x12 x13 x14 x15 x16 x17 x18 x19)) ∧ (¬ (x11 = x18) →
(vcDo4 x0 x1 x2 x3 x4 x5 x6 x7 x8 x11 x13 x14 x15 x16 x17 x18)))))))) ∧ (¬ (((x0 : Int).tmod (8)) = 4) →
(((((x0 : Int).tmod (8)) = 5) →
 Nd (¬ ((x6.length : Int) < (x6.length : Int))) (
 Nd ((x6.length : Int) = (x6.length : Int)) (
 Nd (asetPre [.int x9, .int x10, .int x2, .lst x6, .int x7, .int x8]) (
 ∀ x11 : Int,
 ∀ x12 : Sx.Rows,
 ∀ x13 : Int,
 ∀ x14 : Int,
(asetRel [.int x9, .int x10, .int x2, .lst x6, .int x7, .int x8] [.int x11, .lst x12, .int x13, .int x14]) →
 Nd (rvalidPre [.lst x3, .lst x4, .int x9, .int x10]) (
 ∀ x15 : Bool,
(rvalidRel [.lst x3, .lst x4, .int x9, .int x10] [.bool x15]) →
(((((decide (x11 = 0)) == x15) = true) →
 Nd (((decide (x11 = 0)) == x15) = true) (
 Nd (((decide (x11 = 0)) == x15) = true) (
(((x11 = 0) →
 Nd (x11 = 0) (
 Nd (((decide (x11 = 0)) == x15) = true) (
 Nd (x11 = 0) (
 Nd (((decide (x11 = 0)) == x15) = true) (
 Nd (x11 = 0) (
 Nd ((x3.length : Int) < 67108865) (
 Nd ((x4.length : Int) < 67108865) (
 Nd (¬ (x9 < 0)) (
 Nd (x9 < (x3.length : Int)) (
 Nd (x9 < (x3.length : Int)) (
 Nd (¬ ((x12.length : Int) < (x12.length : Int))) (
 Nd ((x12.length : Int) = (x12.length : Int)) (
 Nd (agetPre [.int x9, .int x10, .lst x12, .int x13, .int x14]) (
 ∀ x16 : Int,
 ∀ x17 : Int,
 ∀ x18 : Sx.Rows,
 ∀ x19 : Int,
 ∀ x20 : Int,
(agetRel [.int x9, .int x10, .lst x12, .int x13, .int x14] [.int x16, .int x17, .lst x18, .int x19, .int x20]) →
 Nd (¬ ((x18.length : Int) < (x18.length : Int))) (
 Nd ((x18.length : Int) = (x18.length : Int)) (
 Nd (validPre [.int x9, .int x10, .lst x18, .int x19, .int x20]) (
 ∀ x21 : Bool,
 ∀ x22 : Sx.Rows,
 ∀ x23 : Int,
 ∀ x24 : Int,
(validRel [.int x9, .int x10, .lst x18, .int x19, .int x20] [.bool x21, .lst x22, .int x23, .int x24]) →
 Nd (¬ ((x3.length : Int) < (x3.length : Int))) (
 Nd ((x3.length : Int) = (x3.length : Int)) (
 Nd (¬ ((x4.length : Int) < (x4.length : Int))) (
 Nd ((x4.length : Int) = (x4.length : Int)) (
 Nd (rvalidPre [.lst (Sx.setAt x3 x9 2 (.int x2)), .lst x4, .int x9, .int x10]) (
 ∀ x25 : Bool,
(rvalidRel [.lst (Sx.setAt x3 x9 2 (.int x2)), .lst x4, .int x9, .int x10] [.bool x25]) →
((((x21 == x25) = true) →
 Nd ((x21 == x25) = true) (
 Nd ((x21 == x25) = true) (
 Nd ((x21 == x25) = true) (
 Nd ((x21 == x25) = true) (
 Nd ((x21 == x25) = true) (
 Nd ((x21 == x25) = true) (
 Nd ((x21 == x25) = true) (
 Nd (¬ ((x22.length : Int) < (x22.length : Int))) (
 Nd ((x22.length : Int) = (x22.length : Int)) (
 Nd (validPre [.int x9, .int x10, .lst x22, .int x23, .int x24]) (
 ∀ x26 : Bool,
 ∀ x27 : Sx.Rows,
 ∀ x28 : Int,
 ∀ x29 : Int,
(validRel [.int x9, .int x10, .lst x22, .int x23, .int x24] [.bool x26, .lst x27, .int x28, .int x29]) →
 Nd ((x21 == x25) = true) (
 Nd ((x21 == x25) = true) (
(((((decide (x17 = 0)) == x26) = true) →
 Nd (((decide (x17 = 0)) == x26) = true) (
 Nd (((decide (x17 = 0)) == x26) = true) (
(((x17 = 0) →
 Nd (x17 = 0) (
 Nd (((decide (x17 = 0)) == x26) = true) (
 Nd (x17 = 0) (
 Nd (((decide (x17 = 0)) == x26) = true) (
 Nd (¬ ((x3.length : Int) < (x3.length : Int))) (
 Nd ((x3.length : Int) = (x3.length : Int)) (
 Nd (¬ ((x4.length : Int) < (x4.length : Int))) (
 Nd ((x4.length : Int) = (x4.length : Int)) (
 Nd (¬ ((x5.length : Int) < (x5.length : Int))) (
 Nd ((x5.length : Int) = (x5.length : Int)) (
 Nd (¬ ((x27.length : Int) < (x27.length : Int))) (
 Nd ((x27.length : Int) = (x27.length : Int)) (
 Nd (doRel [.int x0, .int x1, .int x2, .lst x3, .lst x4, .lst x5, .lst x6, .int x7, .int x8] [.int 1, .lst (Sx.setAt x3 x9 2 (.int x2)), .lst x4, .lst x5, .lst x27, .int x28, .int x29]) (
 True)))))))))))))) ∧ (¬ (x17 = 0) →
 Nd (¬ (x17 = 0)) (
 Nd (((decide (x17 = 0)) == x26) = true) (
 Nd (¬ (x17 = 0)) (
 Nd (((decide (x17 = 0)) == x26) = true) (
(((x17 = 11) →
 Nd (¬ ((x3.length : Int) < (x3.length : Int))) (
 Nd ((x3.length : Int) = (x3.length : Int)) (
 Nd (¬ ((x4.length : Int) < (x4.length : Int))) (
 Nd ((x4.length : Int) = (x4.length : Int)) (
 Nd (¬ ((x5.length : Int) < (x5.length : Int))) (
 Nd ((x5.length : Int) = (x5.length : Int)) (
 Nd (¬ ((x27.length : Int) < (x27.length : Int))) (
 Nd ((x27.length : Int) = (x27.length : Int)) (
 Nd (doRel [.int x0, .int x1, .int x2, .lst x3, .lst x4, .lst x5, .lst x6, .int x7, .int x8] [.int 1, .lst (Sx.setAt x3 x9 2 (.int x2)), .lst x4, .lst x5, .lst x27, .int x28, .int x29]) (
 True)))))))))) ∧ (¬ (x17 = 11) →
 Nd (¬ ((x3.length : Int) < (x3.length : Int))) (
 Nd ((x3.length : Int) = (x3.length : Int)) (
 Nd (¬ ((x4.length : Int) < (x4.length : Int))) (
 Nd ((x4.length : Int) = (x4.length : Int)) (
 Nd (¬ ((x5.length : Int) < (x5.length : Int))) (
 Nd ((x5.length : Int) = (x5.length : Int)) (
 Nd (¬ ((x27.length : Int) < (x27.length : Int))) (
 Nd ((x27.length : Int) = (x27.length : Int)) (
 Nd (doRel [.int x0, .int x1, .int x2, .lst x3, .lst x4, .lst x5, .lst x6, .int x7, .int x8] [.int 0, .lst (Sx.setAt x3 x9 2 (.int x2)), .lst x4, .lst x5, .lst x27, .int x28, .int x29]) (
 True)))))))))))))))))))) ∧ (¬ (((decide (x17 = 0)) == x26) = true) →
 Nd (¬ (((decide (x17 = 0)) == x26) = true)) (
 Nd (¬ (((decide (x17 = 0)) == x26) = true)) (
 Nd (¬ (((decide (x17 = 0)) == x26) = true)) (
 Nd (¬ (((decide (x17 = 0)) == x26) = true)) (
 Nd (¬ ((x3.length : Int) < (x3.length : Int))) (
 Nd ((x3.length : Int) = (x3.length : Int)) (
 Nd (¬ ((x4.length : Int) < (x4.length : Int))) (
 Nd ((x4.length : Int) = (x4.length : Int)) (
 Nd (¬ ((x5.length : Int) < (x5.length : Int))) (
 Nd ((x5.length : Int) = (x5.length : Int)) (
 Nd (¬ ((x27.length : Int) < (x27.length : Int))) (
 Nd ((x27.length : Int) = (x27.length : Int)) (
 Nd (doRel [.int x0, .int x1, .int x2, .lst x3, .lst x4, .lst x5, .lst x6, .int x7, .int x8] [.int 0, .lst (Sx.setAt x3 x9 2 (.int x2)), .lst x4, .lst x5, .lst x27, .int x28, .int x29]) (
 True)))))))))))))))))))))))))))) ∧ (¬ ((x21 == x25) = true) →
 Nd (¬ ((x21 == x25) = true)) (
 Nd (¬ ((x21 == x25) = true)) (
 Nd (¬ ((x21 == x25) = true)) (
 Nd (¬ ((x21 == x25) = true)) (
 Nd (¬ ((x21 == x25) = true)) (
 Nd (¬ ((x21 == x25) = true)) (
 Nd (¬ ((x21 == x25) = true)) (
 Nd (¬ ((x21 == x25) = true)) (
 Nd (¬ ((x21 == x25) = true)) (
 Nd (¬ ((x3.length : Int) < (x3.length : Int))) (
 Nd ((x3.length : Int) = (x3.length : Int)) (
 Nd (¬ ((x4.length : Int) < (x4.length : Int))) (
 Nd ((x4.length : Int) = (x4.length : Int)) (
 Nd (¬ ((x5.length : Int) < (x5.length : Int))) (
 Nd ((x5.length : Int) = (x5.length : Int)) (
 Nd (¬ ((x22.length : Int) < (x22.length : Int))) (
 Nd ((x22.length : Int) = (x22.length : Int)) (
 Nd (doRel [.int x0, .int x1, .int x2, .lst x3, .lst x4, .lst x5, .lst x6, .int x7, .int x8] [.int 0, .lst (Sx.setAt x3 x9 2 (.int x2)), .lst x4, .lst x5, .lst x22, .int x23, .int x24]) (
 True)))))))))))))))))))))))))))))))))))))))))) ∧ (¬ (x11 = 0) →
 Nd (¬ (x11 = 0)) (
 Nd (((decide (x11 = 0)) == x15) = true) (
 Nd (¬ (x11 = 0)) (
 Nd (((decide (x11 = 0)) == x15) = true) (
(((x11 = 11) →
 Nd (¬ (x11 = 0)) (
 Nd (¬ ((x12.length : Int) < (x12.length : Int))) (
 Nd ((x12.length : Int) = (x12.length : Int)) (
 Nd (agetPre [.int x9, .int x10, .lst x12, .int x13, .int x14]) (
 ∀ x16 : Int,
 ∀ x17 : Int,
 ∀ x18 : Sx.Rows,
 ∀ x19 : Int,
 ∀ x20 : Int,
(agetRel [.int x9, .int x10, .lst x12, .int x13, .int x14] [.int x16, .int x17, .lst x18, .int x19, .int x20]) →
 Nd (¬ ((x18.length : Int) < (x18.length : Int))) (
 Nd ((x18.length : Int) = (x18.length : Int)) (
 Nd (validPre [.int x9, .int x10, .lst x18, .int x19, .int x20]) (
 ∀ x21 : Bool,
 ∀ x22 : Sx.Rows,
 ∀ x23 : Int,
 ∀ x24 : Int,
(validRel [.int x9, .int x10, .lst x18, .int x19, .int x20] [.bool x21, .lst x22, .int x23, .int x24]) →
 Nd (rvalidPre [.lst x3, .lst x4, .int x9, .int x10]) (
 ∀ x25 : Bool,
(rvalidRel [.lst x3, .lst x4, .int x9, .int x10] [.bool x25]) →
((((x21 == x25) = true) →
 Nd ((x21 == x25) = true) (
 Nd ((x21 == x25) = true) (
 Nd ((x21 == x25) = true) (
 Nd ((x21 == x25) = true) (
 Nd ((x21 == x25) = true) (
 Nd ((x21 == x25) = true) (
 Nd ((x21 == x25) = true) (
 Nd (¬ ((x22.length : Int) < (x22.length : Int))) (
 Nd ((x22.length : Int) = (x22.length : Int)) (
 Nd (validPre [.int x9, .int x10, .lst x22, .int x23, .int x24]) (
 ∀ x26 : Bool,
 ∀ x27 : Sx.Rows,
 ∀ x28 : Int,
 ∀ x29 : Int,
(validRel [.int x9, .int x10, .lst x22, .int x23, .int x24] [.bool x26, .lst x27, .int x28, .int x29]) →
 Nd ((x21 == x25) = true) (
 Nd ((x21 == x25) = true) (
(((((decide (x17 = 0)) == x26) = true) →
 Nd (((decide (x17 = 0)) == x26) = true) (
 Nd (((decide (x17 = 0)) == x26) = true) (
(((x17 = 0) →
 Nd (x17 = 0) (
 Nd (((decide (x17 = 0)) == x26) = true) (
 Nd (x17 = 0) (
 Nd (((decide (x17 = 0)) == x26) = true) (
 Nd (¬ ((x5.length : Int) < (x5.length : Int))) (
 Nd ((x5.length : Int) = (x5.length : Int)) (
 Nd (¬ ((x27.length : Int) < (x27.length : Int))) (
 Nd ((x27.length : Int) = (x27.length : Int)) (
 Nd (doRel [.int x0, .int x1, .int x2, .lst x3, .lst x4, .lst x5, .lst x6, .int x7, .int x8] [.int 1, .lst x3, .lst x4, .lst x5, .lst x27, .int x28, .int x29]) (
 True)))))))))) ∧ (¬ (x17 = 0) →
 Nd (¬ (x17 = 0)) (
 Nd (((decide (x17 = 0)) == x26) = true) (
 Nd (¬ (x17 = 0)) (
 Nd (((decide (x17 = 0)) == x26) = true) (
(((x17 = 11) →
 Nd (¬ ((x5.length : Int) < (x5.length : Int))) (
 Nd ((x5.length : Int) = (x5.length : Int)) (
 Nd (¬ ((x27.length : Int) < (x27.length : Int))) (
 Nd ((x27.length : Int) = (x27.length : Int)) (
 Nd (doRel [.int x0, .int x1, .int x2, .lst x3, .lst x4, .lst x5, .lst x6, .int x7, .int x8] [.int 1, .lst x3, .lst x4, .lst x5, .lst x27, .int x28, .int x29]) (
 True)))))) ∧ (¬ (x17 = 11) →
 Nd (¬ ((x5.length : Int) < (x5.length : Int))) (
 Nd ((x5.length : Int) = (x5.length : Int)) (
 Nd (¬ ((x27.length : Int) < (x27.length : Int))) (
 Nd ((x27.length : Int) = (x27.length : Int)) (
 Nd (doRel [.int x0, .int x1, .int x2, .lst x3, .lst x4, .lst x5, .lst x6, .int x7, .int x8] [.int 0, .lst x3, .lst x4, .lst x5, .lst x27, .int x28, .int x29]) (
 True)))))))))))))))) ∧ (¬ (((decide (x17 = 0)) == x26) = true) →
 Nd (¬ (((decide (x17 = 0)) == x26) = true)) (
 Nd (¬ (((decide (x17 = 0)) == x26) = true)) (
 Nd (¬ (((decide (x17 = 0)) == x26) = true)) (
 Nd (¬ (((decide (x17 = 0)) == x26) = true)) (
 Nd (¬ ((x5.length : Int) < (x5.length : Int))) (
 Nd ((x5.length : Int) = (x5.length : Int)) (
 Nd (¬ ((x27.length : Int) < (x27.length : Int))) (
 Nd ((x27.length : Int) = (x27.length : Int)) (
 Nd (doRel [.int x0, .int x1, .int x2, .lst x3, .lst x4, .lst x5, .lst x6, .int x7, .int x8] [.int 0, .lst x3, .lst x4, .lst x5, .lst x27, .int x28, .int x29]) (
 True)))))))))))))))))))))))) ∧ (¬ ((x21 == x25) = true) →
 Nd (¬ ((x21 == x25) = true)) (
 Nd (¬ ((x21 == x25) = true)) (
 Nd (¬ ((x21 == x25) = true)) (
 Nd (¬ ((x21 == x25) = true)) (
 Nd (¬ ((x21 == x25) = true)) (
 Nd (¬ ((x21 == x25) = true)) (
 Nd (¬ ((x21 == x25) = true)) (
 Nd (¬ ((x21 == x25) = true)) (
 Nd (¬ ((x21 == x25) = true)) (
 Nd (¬ ((x5.length : Int) < (x5.length : Int))) (
 Nd ((x5.length : Int) = (x5.length : Int)) (
 Nd (¬ ((x22.length : Int) < (x22.length : Int))) (
 Nd ((x22.length : Int) = (x22.length : Int)) (
 Nd (doRel [.int x0, .int x1, .int x2, .lst x3, .lst x4, .lst x5, .lst x6, .int x7, .int x8] [.int 0, .lst x3, .lst x4, .lst x5, .lst x22, .int x23, .int x24]) (
 True))))))))))))))))))))))))) ∧ (¬ (x11 = 11) →
 Nd (¬ ((x5.length : Int) < (x5.length : Int))) (
 Nd ((x5.length : Int) = (x5.length : Int)) (
 Nd (¬ ((x12.length : Int) < (x12.length : Int))) (
 Nd ((x12.length : Int) = (x12.length : Int)) (
 Nd (doRel [.int x0, .int x1, .int x2, .lst x3, .lst x4, .lst x5, .lst x6, .int x7, .int x8] [.int 0, .lst x3, .lst x4, .lst x5, .lst x12, .int x13, .int x14]) (
 True)))))))))))))))) ∧ (¬ (((decide (x11 = 0)) == x15) = true) →
 Nd (¬ (((decide (x11 = 0)) == x15) = true)) (
 Nd (¬ (((decide (x11 = 0)) == x15) = true)) (
 Nd (¬ (((decide (x11 = 0)) == x15) = true)) (
 Nd (¬ (((decide (x11 = 0)) == x15) = true)) (
 Nd (¬ ((x5.length : Int) < (x5.length : Int))) (
 Nd ((x5.length : Int) = (x5.length : Int)) (
 Nd (¬ ((x12.length : Int) < (x12.length : Int))) (
 Nd ((x12.length : Int) = (x12.length : Int)) (
 Nd (doRel [.int x0, .int x1, .int x2, .lst x3, .lst x4, .lst x5, .lst x6, .int x7, .int x8] [.int 0, .lst x3, .lst x4, .lst x5, .lst x12, .int x13, .int x14]) (
 True)))))))))))))))) ∧ (¬ (((x0 : Int).tmod (8)) = 5) →
(((((x0 : Int).tmod (8)) = 6) →
 Nd (¬ ((x6.length : Int) < (x6.length : Int))) (
 Nd ((x6.length : Int) = (x6.length : Int)) (
 Nd (auntakePre [.int x9, .int x10, .lst x6, .int x7, .int x8]) (
 ∀ x11 : Int,
 ∀ x12 : Sx.Rows,
 ∀ x13 : Int,
 ∀ x14 : Int,
(auntakeRel [.int x9, .int x10, .lst x6, .int x7, .int x8] [.int x11, .lst x12, .int x13, .int x14]) →
 Nd (runtakePre [.lst x3, .lst x4, .int x9, .int x10]) (
 ∀ x15 : Sx.Rows,
 ∀ x16 : Sx.Rows,
 ∀ x17 : Int,
(runtakeRel [.lst x3, .lst x4, .int x9, .int x10] [.lst x15, .lst x16, .int x17]) →
(((x11 = x17) →
(vcDo5 x0 x1 x2 x3 x4 x5 x6 x7 x8 x9 x10 x12 x13 x14 x15 x16)) ∧ (¬ (x11 = x17) →
(vcDo6 x0 x1 x2 x3 x4 x5 x6 x7 x8 x12 x13 x14 x15 x16)))))))) ∧ (¬ (((x0 : Int).tmod (8)) = 6) →
(((((x0 : Int).tmod (8)) = 7) →
 Nd (¬ ((x6.length : Int) < (x6.length : Int))) (
 Nd ((x6.length : Int) = (x6.length : Int)) (
 Nd (aunfreePre [.int x9, .int x10, .int x2, .lst x6, .int x7, .int x8]) (
 ∀ x11 : Int,
 ∀ x12 : Sx.Rows,
 ∀ x13 : Int,
 ∀ x14 : Int,
(aunfreeRel [.int x9, .int x10, .int x2, .lst x6, .int x7, .int x8] [.int x11, .lst x12, .int x13, .int x14]) →
 Nd (runfreePre [.lst x3, .lst x4, .int x9, .int x10, .int x2]) (
 ∀ x15 : Sx.Rows,
 ∀ x16 : Sx.Rows,
 ∀ x17 : Int,
(runfreeRel [.lst x3, .lst x4, .int x9, .int x10, .int x2] [.lst x15, .lst x16, .int x17]) →
(((x11 = x17) →
(vcDo5 x0 x1 x2 x3 x4 x5 x6 x7 x8 x9 x10 x12 x13 x14 x15 x16)) ∧ (¬ (x11 = x17) →
(vcDo6 x0 x1 x2 x3 x4 x5 x6 x7 x8 x12 x13 x14 x15 x16)))))))) ∧ (¬ (((x0 : Int).tmod (8)) = 7) →
 Nd (¬ ((x6.length : Int) < (x6.length : Int))) (
 Nd ((x6.length : Int) = (x6.length : Int)) (
 Nd (agetPre [.int x9, .int x10, .lst x6, .int x7, .int x8]) (
 ∀ x11 : Int,
 ∀ x12 : Int,
 ∀ x13 : Sx.Rows,
 ∀ x14 : Int,
 ∀ x15 : Int,
(agetRel [.int x9, .int x10, .lst x6, .int x7, .int x8] [.int x11, .int x12, .lst x13, .int x14, .int x15]) →
 Nd (¬ ((x13.length : Int) < (x13.length : Int))) (
 Nd ((x13.length : Int) = (x13.length : Int)) (
 Nd (validPre [.int x9, .int x10, .lst x13, .int x14, .int x15]) (
 ∀ x16 : Bool,
 ∀ x17 : Sx.Rows,
 ∀ x18 : Int,
 ∀ x19 : Int,
(validRel [.int x9, .int x10, .lst x13, .int x14, .int x15] [.bool x16, .lst x17, .int x18, .int x19]) →
 Nd (rvalidPre [.lst x3, .lst x4, .int x9, .int x10]) (
 ∀ x20 : Bool,
(rvalidRel [.lst x3, .lst x4, .int x9, .int x10] [.bool x20]) →
((((x16 == x20) = true) →
 Nd ((x16 == x20) = true) (
 Nd ((x16 == x20) = true) (
 Nd ((x16 == x20) = true) (
 Nd ((x16 == x20) = true) (
 Nd ((x16 == x20) = true) (
 Nd ((x16 == x20) = true) (
 Nd ((x16 == x20) = true) (
 Nd (¬ ((x17.length : Int) < (x17.length : Int))) (
 Nd ((x17.length : Int) = (x17.length : Int)) (
 Nd (validPre [.int x9, .int x10, .lst x17, .int x18, .int x19]) (
 ∀ x21 : Bool,
 ∀ x22 : Sx.Rows,
 ∀ x23 : Int,
 ∀ x24 : Int,
(validRel [.int x9, .int x10, .lst x17, .int x18, .int x19] [.bool x21, .lst x22, .int x23, .int x24]) →
 Nd ((x16 == x20) = true) (
 Nd ((x16 == x20) = true) (
(((((decide (x12 = 0)) == x21) = true) →
 Nd (((decide (x12 = 0)) == x21) = true) (
 Nd (((decide (x12 = 0)) == x21) = true) (
(((x12 = 0) →
 Nd (x12 = 0) (
 Nd (((decide (x12 = 0)) == x21) = true) (
 Nd (x12 = 0) (
 Nd (((decide (x12 = 0)) == x21) = true) (
 Nd (¬ ((x5.length : Int) < (x5.length : Int))) (
 Nd ((x5.length : Int) = (x5.length : Int)) (
 Nd (¬ ((x22.length : Int) < (x22.length : Int))) (
 Nd ((x22.length : Int) = (x22.length : Int)) (
 Nd (doRel [.int x0, .int x1, .int x2, .lst x3, .lst x4, .lst x5, .lst x6, .int x7, .int x8] [.int 1, .lst x3, .lst x4, .lst x5, .lst x22, .int x23, .int x24]) (
 True)))))))))) ∧ (¬ (x12 = 0) →
 Nd (¬ (x12 = 0)) (
 Nd (((decide (x12 = 0)) == x21) = true) (
 Nd (¬ (x12 = 0)) (
 Nd (((decide (x12 = 0)) == x21) = true) (
(((x12 = 11) →
 Nd (¬ ((x5.length : Int) < (x5.length : Int))) (
 Nd ((x5.length : Int) = (x5.length : Int)) (
 Nd (¬ ((x22.length : Int) < (x22.length : Int))) (
 Nd ((x22.length : Int) = (x22.length : Int)) (
 Nd (doRel [.int x0, .int x1, .int x2, .lst x3, .lst x4, .lst x5, .lst x6, .int x7, .int x8] [.int 1, .lst x3, .lst x4, .lst x5, .lst x22, .int x23, .int x24]) (
 True)))))) ∧ (¬ (x12 = 11) →
 Nd (¬ ((x5.length : Int) < (x5.length : Int))) (
 Nd ((x5.length : Int) = (x5.length : Int)) (
 Nd (¬ ((x22.length : Int) < (x22.length : Int))) (
 Nd ((x22.length : Int) = (x22.length : Int)) (
 Nd (doRel [.int x0, .int x1, .int x2, .lst x3, .lst x4, .lst x5, .lst x6, .int x7, .int x8] [.int 0, .lst x3, .lst x4, .lst x5, .lst x22, .int x23, .int x24]) (
 True)))))))))))))))) ∧ (¬ (((decide (x12 = 0)) == x21) = true) →
 Nd (¬ (((decide (x12 = 0)) == x21) = true)) (
 Nd (¬ (((decide (x12 = 0)) == x21) = true)) (
 Nd (¬ (((decide (x12 = 0)) == x21) = true)) (
 Nd (¬ (((decide (x12 = 0)) == x21) = true)) (
 Nd (¬ ((x5.length : Int) < (x5.length : Int))) (
 Nd ((x5.length : Int) = (x5.length : Int)) (
 Nd (¬ ((x22.length : Int) < (x22.length : Int))) (
 Nd ((x22.length : Int) = (x22.length : Int)) (
 Nd (doRel [.int x0, .int x1, .int x2, .lst x3, .lst x4, .lst x5, .lst x6, .int x7, .int x8] [.int 0, .lst x3, .lst x4, .lst x5, .lst x22, .int x23, .int x24]) (
 True)))))))))))))))))))))))) ∧ (¬ ((x16 == x20) = true) →
 Nd (¬ ((x16 == x20) = true)) (
 Nd (¬ ((x16 == x20) = true)) (
 Nd (¬ ((x16 == x20) = true)) (
 Nd (¬ ((x16 == x20) = true)) (
 Nd (¬ ((x16 == x20) = true)) (
 Nd (¬ ((x16 == x20) = true)) (
 Nd (¬ ((x16 == x20) = true)) (
 Nd (¬ ((x16 == x20) = true)) (
 Nd (¬ ((x16 == x20) = true)) (
 Nd (¬ ((x5.length : Int) < (x5.length : Int))) (
 Nd ((x5.length : Int) = (x5.length : Int)) (
 Nd (¬ ((x17.length : Int) < (x17.length : Int))) (
 Nd ((x17.length : Int) = (x17.length : Int)) (
 Nd (doRel [.int x0, .int x1, .int x2, .lst x3, .lst x4, .lst x5, .lst x6, .int x7, .int x8] [.int 0, .lst x3, .lst x4, .lst x5, .lst x17, .int x18, .int x19]) (
 True))))))))))))))))))))))))))))))))))))))))))
theorem vcDo_eq : (cvc Go.Proofs.Try.prog U0 cDo (sxF Go.Proofs.Try.prog U0 annsC (conJ Go.Proofs.Try.prog U0 annsC (stageC 0) 400 joinsC) 400 17)).vc U0 (fun _ => True) = vcDo := by kernel_rfl
def vcSame0 (x0 : Sx.Rows) (x1 : Sx.Rows) (x2 : Sx.Rows) (x3 : Sx.Rows) (x4 : Int) (x5 : Int) (x19 : Sx.Rows) (x20 : Int) (x21 : Int) : Prop :=
 Nd (¬ ((x2.length : Int) < (x2.length : Int))) (
 Nd ((x2.length : Int) = (x2.length : Int)) (
 Nd (¬ ((x19.length : Int) < (x19.length : Int))) (
 Nd ((x19.length : Int) = (x19.length : Int)) (
 Nd (sameRel [.lst x0, .lst x1, .lst x2, .lst x3, .int x4, .int x5] [.int 0, .lst x0, .lst x1, .lst x2, .lst x19, .int x20, .int x21]) (
 True)))))
def vcSame1 (x0 : Sx.Rows) (x1 : Sx.Rows) (x2 : Sx.Rows) (x3 : Sx.Rows) (x4 : Int) (x5 : Int) (x11 : Sx.Rows) (x18 : Sx.Rows) (x19 : Sx.Rows) (x20 : Int) (x21 : Int) (x22 : Int) : Prop :=
 Nd (¬ (x22 < 0)) (
 Nd (x22 < (x18.length : Int)) (
 Nd (¬ (x22 < 0)) (
 Nd (x22 < (x11.length : Int)) (
 Nd (x22 < (x11.length : Int)) (
((((Sx.cellAt x18 x22 0).toInt = (Sx.cellAt x11 x22 0).toInt) →
((((Sx.cellAt x18 x22 1).toInt = (Sx.cellAt x11 x22 1).toInt) →
 Nd ((¬ ((x22 + 1) < (-9223372036854775808))) ∧ ((x22 + 1) < 9223372036854775808)) (
 Nd (listLInv [.lst x18, .lst x11] [.int (x22 + 1)]) (
 Nd (listLMu [.lst x18, .lst x11] [.int (x22 + 1)] < listLMu [.lst x18, .lst x11] [.int x22]) (
 True)))) ∧ (¬ ((Sx.cellAt x18 x22 1).toInt = (Sx.cellAt x11 x22 1).toInt) →
(vcSame0 x0 x1 x2 x3 x4 x5 x19 x20 x21)))) ∧ (¬ ((Sx.cellAt x18 x22 0).toInt = (Sx.cellAt x11 x22 0).toInt) →
(vcSame0 x0 x1 x2 x3 x4 x5 x19 x20 x21))))))))
def vcSame2 (x0 : Sx.Rows) (x1 : Sx.Rows) (x2 : Sx.Rows) (x3 : Sx.Rows) (x4 : Int) (x5 : Int) (x11 : Sx.Rows) (x18 : Sx.Rows) (x19 : Sx.Rows) (x20 : Int) (x21 : Int) : Prop :=
 Nd (¬ ((x18.length : Int) = (x11.length : Int))) (
 Nd (¬ ((x18.length : Int) = (x11.length : Int))) (
 Nd (¬ ((x18.length : Int) = (x11.length : Int))) (
 Nd (¬ ((x18.length : Int) = (x11.length : Int))) (
 Nd (¬ ((x18.length : Int) = (x11.length : Int))) (
 Nd (¬ ((x2.length : Int) < (x2.length : Int))) (
 Nd ((x2.length : Int) = (x2.length : Int)) (
 Nd (¬ ((x19.length : Int) < (x19.length : Int))) (
 Nd ((x19.length : Int) = (x19.length : Int)) (
 Nd (sameRel [.lst x0, .lst x1, .lst x2, .lst x3, .int x4, .int x5] [.int 0, .lst x0, .lst x1, .lst x2, .lst x19, .int x20, .int x21]) (
 True))))))))))
def vcSame3 (x0 : Sx.Rows) (x1 : Sx.Rows) (x2 : Sx.Rows) (x3 : Sx.Rows) (x4 : Int) (x5 : Int) (x11 : Sx.Rows) (x14 : Sx.Rows) (x15 : Int) (x16 : Int) : Prop :=
 Nd (¬ ((x14.length : Int) < (x14.length : Int))) (
 Nd ((x14.length : Int) = (x14.length : Int)) (
 Nd (awaitPre [.lst x14, .int x15, .int x16]) (
 ∀ x18 : Sx.Rows,
 ∀ x19 : Sx.Rows,
 ∀ x20 : Int,
 ∀ x21 : Int,
(awaitRel [.lst x14, .int x15, .int x16] [.lst x18, .lst x19, .int x20, .int x21]) →
((((x18.length : Int) = (x11.length : Int)) →
 Nd ((x18.length : Int) = (x11.length : Int)) (
 Nd ((x18.length : Int) = (x11.length : Int)) (
 Nd ((x18.length : Int) = (x11.length : Int)) (
 Nd ((x18.length : Int) = (x11.length : Int)) (
 Nd ((x18.length : Int) = (x11.length : Int)) (
((((x18.length : Int) = (x18.length : Int)) →
 Nd (listLInv [.lst x18, .lst x11] [.int 0]) (
 ∀ x22 : Int,
(listLInv [.lst x18, .lst x11] [.int x22]) →
(((x22 < (x18.length : Int)) →
(vcSame1 x0 x1 x2 x3 x4 x5 x11 x18 x19 x20 x21 x22)) ∧ (¬ (x22 < (x18.length : Int)) →
(vcSame0 x0 x1 x2 x3 x4 x5 x19 x20 x21))))) ∧ (¬ ((x18.length : Int) = (x18.length : Int)) →
(vcSame0 x0 x1 x2 x3 x4 x5 x19 x20 x21))))))))) ∧ (¬ ((x18.length : Int) = (x11.length : Int)) →
(vcSame2 x0 x1 x2 x3 x4 x5 x11 x18 x19 x20 x21))))))
def vcSame4 (x0 : Sx.Rows) (x1 : Sx.Rows) (x2 : Sx.Rows) (x3 : Sx.Rows) (x4 : Int) (x5 : Int) (x18 : Sx.Rows) (x19 : Int) (x20 : Int) : Prop :=
 Nd (¬ ((x2.length : Int) < (x2.length : Int))) (
 Nd ((x2.length : Int) = (x2.length : Int)) (
 Nd (¬ ((x18.length : Int) < (x18.length : Int))) (
 Nd ((x18.length : Int) = (x18.length : Int)) (
 Nd (sameRel [.lst x0, .lst x1, .lst x2, .lst x3, .int x4, .int x5] [.int 0, .lst x0, .lst x1, .lst x2, .lst x18, .int x19, .int x20]) (
 True)))))
def vcSame5 (x0 : Sx.Rows) (x1 : Sx.Rows) (x2 : Sx.Rows) (x3 : Sx.Rows) (x4 : Int) (x5 : Int) (x11 : Sx.Rows) (x17 : Sx.Rows) (x18 : Sx.Rows) (x19 : Int) (x20 : Int) : Prop :=
 Nd ((x17.length : Int) = (x11.length : Int)) (
 Nd ((x17.length : Int) = (x11.length : Int)) (
 Nd ((x17.length : Int) = (x11.length : Int)) (
 Nd ((x17.length : Int) = (x11.length : Int)) (
 Nd ((x17.length : Int) = (x11.length : Int)) (
((((x17.length : Int) = (x17.length : Int)) →
 Nd (listLInv [.lst x17, .lst x11] [.int 0]) (
 ∀ x21 : Int,
(listLInv [.lst x17, .lst x11] [.int x21]) →
(((x21 < (x17.length : Int)) →
 Nd (¬ (x21 < 0)) (
 Nd (x21 < (x17.length : Int)) (
 Nd (¬ (x21 < 0)) (
 Nd (x21 < (x11.length : Int)) (
 Nd (x21 < (x11.length : Int)) (
((((Sx.cellAt x17 x21 0).toInt = (Sx.cellAt x11 x21 0).toInt) →
((((Sx.cellAt x17 x21 1).toInt = (Sx.cellAt x11 x21 1).toInt) →
 Nd ((¬ ((x21 + 1) < (-9223372036854775808))) ∧ ((x21 + 1) < 9223372036854775808)) (
 Nd (listLInv [.lst x17, .lst x11] [.int (x21 + 1)]) (
 Nd (listLMu [.lst x17, .lst x11] [.int (x21 + 1)] < listLMu [.lst x17, .lst x11] [.int x21]) (
 True)))) ∧ (¬ ((Sx.cellAt x17 x21 1).toInt = (Sx.cellAt x11 x21 1).toInt) →
(vcSame4 x0 x1 x2 x3 x4 x5 x18 x19 x20)))) ∧ (¬ ((Sx.cellAt x17 x21 0).toInt = (Sx.cellAt x11 x21 0).toInt) →
(vcSame4 x0 x1 x2 x3 x4 x5 x18 x19 x20))))))))) ∧ (¬ (x21 < (x17.length : Int)) →
(vcSame4 x0 x1 x2 x3 x4 x5 x18 x19 x20))))) ∧ (¬ ((x17.length : Int) = (x17.length : Int)) →
(vcSame4 x0 x1 x2 x3 x4 x5 x18 x19 x20))))))))
def vcSame6 (x0 : Sx.Rows) (x1 : Sx.Rows) (x2 : Sx.Rows) (x3 : Sx.Rows) (x4 : Int) (x5 : Int) (x11 : Sx.Rows) (x17 : Sx.Rows) (x18 : Sx.Rows) (x19 : Int) (x20 : Int) : Prop :=
 Nd (¬ ((x17.length : Int) = (x11.length : Int))) (
 Nd (¬ ((x17.length : Int) = (x11.length : Int))) (
 Nd (¬ ((x17.length : Int) = (x11.length : Int))) (
 Nd (¬ ((x17.length : Int) = (x11.length : Int))) (
 Nd (¬ ((x17.length : Int) = (x11.length : Int))) (
 Nd (¬ ((x2.length : Int) < (x2.length : Int))) (
 Nd ((x2.length : Int) = (x2.length : Int)) (
 Nd (¬ ((x18.length : Int) < (x18.length : Int))) (
 Nd ((x18.length : Int) = (x18.length : Int)) (
 Nd (sameRel [.lst x0, .lst x1, .lst x2, .lst x3, .int x4, .int x5] [.int 0, .lst x0, .lst x1, .lst x2, .lst x18, .int x19, .int x20]) (
 True))))))))))
/-- What the contract of 'same' asks for. -/
def vcSame : Prop :=
 ∀ x0 : Sx.Rows,
 ∀ x1 : Sx.Rows,
 ∀ x2 : Sx.Rows,
 ∀ x3 : Sx.Rows,
 ∀ x4 : Int,
 ∀ x5 : Int,
(samePre [.lst x0, .lst x1, .lst x2, .lst x3, .int x4, .int x5]) →
((((x3.length : Int) = (x0.length : Int)) →
 Nd (¬ ((x3.length : Int) < (x3.length : Int))) (
 Nd ((x3.length : Int) = (x3.length : Int)) (
 Nd (sameLInv [.lst x0, .lst x1, .lst x3, .int x4, .int x5] [.lst ([] : Sx.Rows), .int 0, .lst x3, .int x4, .int x5]) (
 ∀ x6 : Sx.Rows,
 ∀ x7 : Int,
 ∀ x8 : Sx.Rows,
 ∀ x9 : Int,
 ∀ x10 : Int,
(sameLInv [.lst x0, .lst x1, .lst x3, .int x4, .int x5] [.lst x6, .int x7, .lst x8, .int x9, .int x10]) →
(((x7 < (x0.length : Int)) →
 Nd (¬ (x7 < 0)) (
 Nd (x7 < (x0.length : Int)) (
((((Sx.cellAt x0 x7 1).toBool = true) →
 Nd (¬ (x7 < 0)) (
 Nd (x7 < (x0.length : Int)) (
 Nd (¬ ((x6.length : Int) < (x6.length : Int))) (
 Nd (((x6.length : Int) + 1) < 67108865) (
 Nd ((x6.length : Int) = (x6.length : Int)) (
 Nd ((¬ ((x6.length : Int) < (-9223372036854775808))) ∧ ((x6.length : Int) < 9223372036854775808)) (
 Nd (¬ ((x6.length : Int) < 0)) (
 Nd ((x6.length : Int) < ((x6.length : Int) + 1)) (
 Nd ((x6.length : Int) < ((x6.length : Int) + 1)) (
 Nd (¬ ((x8.length : Int) < (x8.length : Int))) (
 Nd ((x8.length : Int) = (x8.length : Int)) (
 Nd (agetPre [.int (Sx.cellAt (x6 ++ (Sx.chunk 2 1 [(.int (IntKind.wrap .u32 x7)), (.int (Sx.cellAt x0 x7 0).toInt)])) (x6.length : Int) 0).toInt, .int (Sx.cellAt (x6 ++ (Sx.chunk 2 1 [(.int (IntKind.wrap .u32 x7)), (.int (Sx.cellAt x0 x7 0).toInt)])) (x6.length : Int) 1).toInt, .lst x8, .int x9, .int x10]) (
 ∀ x11 : Int,
 ∀ x12 : Int,
 ∀ x13 : Sx.Rows,
 ∀ x14 : Int,
 ∀ x15 : Int,
(agetRel [.int (Sx.cellAt (x6 ++ (Sx.chunk 2 1 [(.int (IntKind.wrap .u32 x7)), (.int (Sx.cellAt x0 x7 0).toInt)])) (x6.length : Int) 0).toInt, .int (Sx.cellAt (x6 ++ (Sx.chunk 2 1 [(.int (IntKind.wrap .u32 x7)), (.int (Sx.cellAt x0 x7 0).toInt)])) (x6.length : Int) 1).toInt, .lst x8, .int x9, .int x10] [.int x11, .int x12, .lst x13, .int x14, .int x15]) →
(((x12 = 0) →
 Nd (x12 = 0) (
 Nd (x12 = 0) (
 Nd (x12 = 0) (
 Nd (x12 = 0) (
 Nd (x12 = 0) (
 Nd (x12 = 0) (
 Nd (x12 = 0) (
 Nd (¬ (x7 < 0)) (
 Nd (x7 < (x0.length : Int)) (
 Nd (x12 = 0) (
 Nd (x12 = 0) (
 Nd (x12 = 0) (
 Nd (x12 = 0) (
(((x11 = (Sx.cellAt x0 x7 2).toInt) →
 Nd ((¬ ((x7 + 1) < (-9223372036854775808))) ∧ ((x7 + 1) < 9223372036854775808)) (
 Nd (¬ (((x6.length : Int) + 1) < ((x6.length : Int) + 1))) (
 Nd (((x6.length : Int) + 1) = ((x6.length : Int) + 1)) (
 Nd (¬ ((x13.length : Int) < (x13.length : Int))) (
 Nd ((x13.length : Int) = (x13.length : Int)) (
 Nd (sameLInv [.lst x0, .lst x1, .lst x3, .int x4, .int x5] [.lst (x6 ++ (Sx.chunk 2 1 [(.int (IntKind.wrap .u32 x7)), (.int (Sx.cellAt x0 x7 0).toInt)])), .int (x7 + 1), .lst x13, .int x14, .int x15]) (
 Nd (sameLMu [.lst x0, .lst x1, .lst x3, .int x4, .int x5] [.lst (x6 ++ (Sx.chunk 2 1 [(.int (IntKind.wrap .u32 x7)), (.int (Sx.cellAt x0 x7 0).toInt)])), .int (x7 + 1), .lst x13, .int x14, .int x15] < sameLMu [.lst x0, .lst x1, .lst x3, .int x4, .int x5] [.lst x6, .int x7, .lst x8, .int x9, .int x10]) (
 True)))))))) ∧ (¬ (x11 = (Sx.cellAt x0 x7 2).toInt) →
 Nd (¬ ((x2.length : Int) < (x2.length : Int))) (
 Nd ((x2.length : Int) = (x2.length : Int)) (
 Nd (¬ ((x13.length : Int) < (x13.length : Int))) (
 Nd ((x13.length : Int) = (x13.length : Int)) (
 Nd (sameRel [.lst x0, .lst x1, .lst x2, .lst x3, .int x4, .int x5] [.int 0, .lst x0, .lst x1, .lst x2, .lst x13, .int x14, .int x15]) (
 True))))))))))))))))))))) ∧ (¬ (x12 = 0) →
 Nd (¬ (x12 = 0)) (
 Nd (¬ (x12 = 0)) (
 Nd (¬ (x12 = 0)) (
 Nd (¬ (x12 = 0)) (
 Nd (¬ (x12 = 0)) (
 Nd (¬ (x12 = 0)) (
 Nd (¬ (x12 = 0)) (
 Nd (¬ (x12 = 0)) (
 Nd (¬ (x12 = 0)) (
 Nd (¬ (x12 = 0)) (
 Nd (¬ (x12 = 0)) (
 Nd (¬ ((x2.length : Int) < (x2.length : Int))) (
 Nd ((x2.length : Int) = (x2.length : Int)) (
 Nd (¬ ((x13.length : Int) < (x13.length : Int))) (
 Nd ((x13.length : Int) = (x13.length : Int)) (
 Nd (sameRel [.lst x0, .lst x1, .lst x2, .lst x3, .int x4, .int x5] [.int 0, .lst x0, .lst x1, .lst x2, .lst x13, .int x14, .int x15]) (
 True))))))))))))))))))))))))))))))) ∧ (¬ ((Sx.cellAt x0 x7 1).toBool = true) →
 Nd ((¬ ((x7 + 1) < (-9223372036854775808))) ∧ ((x7 + 1) < 9223372036854775808)) (
 Nd (¬ ((x6.length : Int) < (x6.length : Int))) (
 Nd ((x6.length : Int) = (x6.length : Int)) (
 Nd (¬ ((x8.length : Int) < (x8.length : Int))) (
 Nd ((x8.length : Int) = (x8.length : Int)) (
 Nd (sameLInv [.lst x0, .lst x1, .lst x3, .int x4, .int x5] [.lst x6, .int (x7 + 1), .lst x8, .int x9, .int x10]) (
 Nd (sameLMu [.lst x0, .lst x1, .lst x3, .int x4, .int x5] [.lst x6, .int (x7 + 1), .lst x8, .int x9, .int x10] < sameLMu [.lst x0, .lst x1, .lst x3, .int x4, .int x5] [.lst x6, .int x7, .lst x8, .int x9, .int x10]) (
 True)))))))))))) ∧ (¬ (x7 < (x0.length : Int)) →
 Nd (sameMInv [.lst x0, .lst x1, .lst x8, .int x9, .int x10] [.lst ([] : Sx.Rows), .int 0]) (
 ∀ x11 : Sx.Rows,
 ∀ x12 : Int,
(sameMInv [.lst x0, .lst x1, .lst x8, .int x9, .int x10] [.lst x11, .int x12]) →
(((x12 < (x1.length : Int)) →
 Nd (¬ (x12 < 0)) (
 Nd (x12 < (x1.length : Int)) (
 Nd (¬ (x12 < 0)) (
 Nd (x12 < (x1.length : Int)) (
 Nd (¬ ((Sx.cellAt x1 x12 0).toInt < 0)) (
 Nd ((Sx.cellAt x1 x12 0).toInt < (x0.length : Int)) (
 Nd (¬ ((x11.length : Int) < (x11.length : Int))) (
 Nd (((x11.length : Int) + 1) < 67108865) (
 Nd ((x11.length : Int) = (x11.length : Int)) (
 Nd ((¬ ((x12 + 1) < (-9223372036854775808))) ∧ ((x12 + 1) < 9223372036854775808)) (
 Nd (¬ (((x11.length : Int) + 1) < ((x11.length : Int) + 1))) (
 Nd (((x11.length : Int) + 1) = ((x11.length : Int) + 1)) (
 Nd (sameMInv [.lst x0, .lst x1, .lst x8, .int x9, .int x10] [.lst (x11 ++ (Sx.chunk 2 1 [(.int (IntKind.wrap .u32 (Sx.cellAt x1 x12 0).toInt)), (.int (Sx.cellAt x0 (Sx.cellAt x1 x12 0).toInt 0).toInt)])), .int (x12 + 1)]) (
 Nd (sameMMu [.lst x0, .lst x1, .lst x8, .int x9, .int x10] [.lst (x11 ++ (Sx.chunk 2 1 [(.int (IntKind.wrap .u32 (Sx.cellAt x1 x12 0).toInt)), (.int (Sx.cellAt x0 (Sx.cellAt x1 x12 0).toInt 0).toInt)])), .int (x12 + 1)] < sameMMu [.lst x0, .lst x1, .lst x8, .int x9, .int x10] [.lst x11, .int x12]) (
 True))))))))))))))) ∧ (¬ (x12 < (x1.length : Int)) →
(((x10 = (x6.length : Int)) →
 Nd (¬ ((x8.length : Int) < (x8.length : Int))) (
 Nd ((x8.length : Int) = (x8.length : Int)) (
 Nd (ahandlesPre [.lst x8, .int x9, .int x10]) (
 ∀ x13 : Sx.Rows,
 ∀ x14 : Sx.Rows,
 ∀ x15 : Int,
 ∀ x16 : Int,
(ahandlesRel [.lst x8, .int x9, .int x10] [.lst x13, .lst x14, .int x15, .int x16]) →
((((x13.length : Int) = (x6.length : Int)) →
 Nd ((x13.length : Int) = (x6.length : Int)) (
 Nd ((x13.length : Int) = (x6.length : Int)) (
 Nd ((x13.length : Int) = (x6.length : Int)) (
 Nd ((x13.length : Int) = (x6.length : Int)) (
 Nd ((x13.length : Int) = (x6.length : Int)) (
((((x13.length : Int) = (x13.length : Int)) →
 Nd (listLInv [.lst x13, .lst x6] [.int 0]) (
 ∀ x17 : Int,
(listLInv [.lst x13, .lst x6] [.int x17]) →
(((x17 < (x13.length : Int)) →
 Nd (¬ (x17 < 0)) (
 Nd (x17 < (x13.length : Int)) (
 Nd (¬ (x17 < 0)) (
 Nd (x17 < (x6.length : Int)) (
 Nd (x17 < (x6.length : Int)) (
((((Sx.cellAt x13 x17 0).toInt = (Sx.cellAt x6 x17 0).toInt) →
((((Sx.cellAt x13 x17 1).toInt = (Sx.cellAt x6 x17 1).toInt) →
 Nd ((¬ ((x17 + 1) < (-9223372036854775808))) ∧ ((x17 + 1) < 9223372036854775808)) (
 Nd (listLInv [.lst x13, .lst x6] [.int (x17 + 1)]) (
 Nd (listLMu [.lst x13, .lst x6] [.int (x17 + 1)] < listLMu [.lst x13, .lst x6] [.int x17]) (
 True)))) ∧ (¬ ((Sx.cellAt x13 x17 1).toInt = (Sx.cellAt x6 x17 1).toInt) →
(vcSame3 x0 x1 x2 x3 x4 x5 x11 x14 x15 x16)))) ∧ (¬ ((Sx.cellAt x13 x17 0).toInt = (Sx.cellAt x6 x17 0).toInt) →
(vcSame3 x0 x1 x2 x3 x4 x5 x11 x14 x15 x16))))))))) ∧ (¬ (x17 < (x13.length : Int)) →
 Nd (¬ ((x14.length : Int) < (x14.length : Int))) (
 Nd ((x14.length : Int) = (x14.length : Int)) (
 Nd (awaitPre [.lst x14, .int x15, .int x16]) (
 ∀ x18 : Sx.Rows,
 ∀ x19 : Sx.Rows,
 ∀ x20 : Int,
 ∀ x21 : Int,
(awaitRel [.lst x14, .int x15, .int x16] [.lst x18, .lst x19, .int x20, .int x21]) →
((((x18.length : Int) = (x11.length : Int)) →
 Nd ((x18.length : Int) = (x11.length : Int)) (
 Nd ((x18.length : Int) = (x11.length : Int)) (
 Nd ((x18.length : Int) = (x11.length : Int)) (
 Nd ((x18.length : Int) = (x11.length : Int)) (
 Nd ((x18.length : Int) = (x11.length : Int)) (
((((x18.length : Int) = (x18.length : Int)) →
 Nd (listLInv [.lst x18, .lst x11] [.int 0]) (
 ∀ x22 : Int,
(listLInv [.lst x18, .lst x11] [.int x22]) →
(((x22 < (x18.length : Int)) →
(vcSame1 x0 x1 x2 x3 x4 x5 x11 x18 x19 x20 x21 x22)) ∧ (¬ (x22 < (x18.length : Int)) →
 Nd (¬ ((x2.length : Int) < (x2.length : Int))) (
 Nd ((x2.length : Int) = (x2.length : Int)) (
 Nd (¬ ((x19.length : Int) < (x19.length : Int))) (
 Nd ((x19.length : Int) = (x19.length : Int)) (
 Nd (sameRel [.lst x0, .lst x1, .lst x2, .lst x3, .int x4, .int x5] [.int 1, .lst x0, .lst x1, .lst x2, .lst x19, .int x20, .int x21]) (
 True))))))))) ∧ (¬ ((x18.length : Int) = (x18.length : Int)) →
(vcSame0 x0 x1 x2 x3 x4 x5 x19 x20 x21))))))))) ∧ (¬ ((x18.length : Int) = (x11.length : Int)) →
(vcSame2 x0 x1 x2 x3 x4 x5 x11 x18 x19 x20 x21)))))))))) ∧ (¬ ((x13.length : Int) = (x13.length : Int)) →
 Nd (¬ ((x14.length : Int) < (x14.length : Int))) (
 Nd ((x14.length : Int) = (x14.length : Int)) (
 Nd (awaitPre [.lst x14, .int x15, .int x16]) (
 ∀ x17 : Sx.Rows,
 ∀ x18 : Sx.Rows,
 ∀ x19 : Int,
 ∀ x20 : Int,
(awaitRel [.lst x14, .int x15, .int x16] [.lst x17, .lst x18, .int x19, .int x20]) →
((((x17.length : Int) = (x11.length : Int)) →
(vcSame5 x0 x1 x2 x3 x4 x5 x11 x17 x18 x19 x20)) ∧ (¬ ((x17.length : Int) = (x11.length : Int)) →
(vcSame6 x0 x1 x2 x3 x4 x5 x11 x17 x18 x19 x20)))))))))))))) ∧ (¬ ((x13.length : Int) = (x6.length : Int)) →
 Nd (¬ ((x13.length : Int) = (x6.length : Int))) (
 Nd (¬ ((x13.length : Int) = (x6.length : Int))) (
 Nd (¬ ((x13.length : Int) = (x6.length : Int))) (
 Nd (¬ ((x13.length : Int) = (x6.length : Int))) (
 Nd (¬ ((x13.length : Int) = (x6.length : Int))) (
 Nd (¬ ((x14.length : Int) < (x14.length : Int))) (
 Nd ((x14.length : Int) = (x14.length : Int)) (
 Nd (awaitPre [.lst x14, .int x15, .int x16]) (
 ∀ x17 : Sx.Rows,
 ∀ x18 : Sx.Rows,
 ∀ x19 : Int,
 ∀ x20 : Int,
(awaitRel [.lst x14, .int x15, .int x16] [.lst x17, .lst x18, .int x19, .int x20]) →
((((x17.length : Int) = (x11.length : Int)) →
(vcSame5 x0 x1 x2 x3 x4 x5 x11 x17 x18 x19 x20)) ∧ (¬ ((x17.length : Int) = (x11.length : Int)) →
(vcSame6 x0 x1 x2 x3 x4 x5 x11 x17 x18 x19 x20))))))))))))))))) ∧ (¬ (x10 = (x6.length : Int)) →
 Nd (¬ ((x2.length : Int) < (x2.length : Int))) (
 Nd ((x2.length : Int) = (x2.length : Int)) (
 Nd (¬ ((x8.length : Int) < (x8.length : Int))) (
 Nd ((x8.length : Int) = (x8.length : Int)) (
 Nd (sameRel [.lst x0, .lst x1, .lst x2, .lst x3, .int x4, .int x5] [.int 0, .lst x0, .lst x1, .lst x2, .lst x8, .int x9, .int x10]) (
 True)))))))))))))))) ∧ (¬ ((x3.length : Int) = (x0.length : Int)) →
 Nd (¬ ((x2.length : Int) < (x2.length : Int))) (
 Nd ((x2.length : Int) = (x2.length : Int)) (
 Nd (¬ ((x3.length : Int) < (x3.length : Int))) (
 Nd ((x3.length : Int) = (x3.length : Int)) (
 Nd (sameRel [.lst x0, .lst x1, .lst x2, .lst x3, .int x4, .int x5] [.int 0, .lst x0, .lst x1, .lst x2, .lst x3, .int x4, .int x5]) (
 True)))))))
theorem vcSame_eq : (cvc Go.Proofs.Try.prog U0 cSame (sxF Go.Proofs.Try.prog U0 annsC (conJ Go.Proofs.Try.prog U0 annsC (stageC 0) 400 joinsC) 400 18)).vc U0 (fun _ => True) = vcSame := by kernel_rfl
/-- What the contract of 'play' asks for. -/
def vcPlay : Prop :=
 ∀ x0 : Sx.Rows,
(playPre [.lst x0]) →
 Nd (playLInv [] [.int 0, .lst ([] : Sx.Rows), .lst ([] : Sx.Rows), .lst ([] : Sx.Rows), .lst ([] : Sx.Rows), .int 0, .int 0]) (
 ∀ x1 : Int,
 ∀ x2 : Sx.Rows,
 ∀ x3 : Sx.Rows,
 ∀ x4 : Sx.Rows,
 ∀ x5 : Sx.Rows,
 ∀ x6 : Int,
 ∀ x7 : Int,
(playLInv [] [.int x1, .lst x2, .lst x3, .lst x4, .lst x5, .int x6, .int x7]) →
(((x1 < (x0.length : Int)) →
 Nd (x1 < (x0.length : Int)) (
 Nd (x1 < (x0.length : Int)) (
(((x1 < 60) →
 Nd (¬ (x1 < 0)) (
 Nd (x1 < (x0.length : Int)) (
 Nd (¬ ((x4.length : Int) < (x4.length : Int))) (
 Nd ((x4.length : Int) = (x4.length : Int)) (
 Nd (¬ ((x5.length : Int) < (x5.length : Int))) (
 Nd ((x5.length : Int) = (x5.length : Int)) (
 Nd (doPre [.int (Sx.cellAt x0 x1 0).toInt, .int (Sx.cellAt x0 x1 1).toInt, .int (Sx.cellAt x0 x1 2).toInt, .lst x2, .lst x3, .lst x4, .lst x5, .int x6, .int x7]) (
 ∀ x8 : Int,
 ∀ x9 : Sx.Rows,
 ∀ x10 : Sx.Rows,
 ∀ x11 : Sx.Rows,
 ∀ x12 : Sx.Rows,
 ∀ x13 : Int,
 ∀ x14 : Int,
(doRel [.int (Sx.cellAt x0 x1 0).toInt, .int (Sx.cellAt x0 x1 1).toInt, .int (Sx.cellAt x0 x1 2).toInt, .lst x2, .lst x3, .lst x4, .lst x5, .int x6, .int x7] [.int x8, .lst x9, .lst x10, .lst x11, .lst x12, .int x13, .int x14]) →
(((x8 = 0) →
 Nd (x8 = 0) (
 Nd (x8 = 0) (
 Nd (x8 = 0) (
 Nd (playRel [.lst x0] [.bool false]) (
 True))))) ∧ (¬ (x8 = 0) →
 Nd (¬ (x8 = 0)) (
 Nd (¬ ((x11.length : Int) < (x11.length : Int))) (
 Nd ((x11.length : Int) = (x11.length : Int)) (
 Nd (¬ ((x12.length : Int) < (x12.length : Int))) (
 Nd ((x12.length : Int) = (x12.length : Int)) (
 Nd (samePre [.lst x9, .lst x10, .lst x11, .lst x12, .int x13, .int x14]) (
 ∀ x15 : Int,
 ∀ x16 : Sx.Rows,
 ∀ x17 : Sx.Rows,
 ∀ x18 : Sx.Rows,
 ∀ x19 : Sx.Rows,
 ∀ x20 : Int,
 ∀ x21 : Int,
(sameRel [.lst x9, .lst x10, .lst x11, .lst x12, .int x13, .int x14] [.int x15, .lst x16, .lst x17, .lst x18, .lst x19, .int x20, .int x21]) →
 Nd (¬ (x8 = 0)) (
 Nd (¬ (x8 = 0)) (
(((x15 = 0) →
 Nd (playRel [.lst x0] [.bool false]) (
 True)) ∧ (¬ (x15 = 0) →
 Nd ((¬ ((x1 + 1) < (-9223372036854775808))) ∧ ((x1 + 1) < 9223372036854775808)) (
 Nd (¬ ((x18.length : Int) < (x18.length : Int))) (
 Nd ((x18.length : Int) = (x18.length : Int)) (
 Nd (¬ ((x19.length : Int) < (x19.length : Int))) (
 Nd ((x19.length : Int) = (x19.length : Int)) (
 Nd (playLInv [] [.int (x1 + 1), .lst x16, .lst x17, .lst x18, .lst x19, .int x20, .int x21]) (
 Nd (playLMu [] [.int (x1 + 1), .lst x16, .lst x17, .lst x18, .lst x19, .int x20, .int x21] < playLMu [] [.int x1, .lst x2, .lst x3, .lst x4, .lst x5, .int x6, .int x7]) (
 True))))))))))))))))))))))))))) ∧ (¬ (x1 < 60) →
 Nd (¬ ((x4.length : Int) < (x4.length : Int))) (
 Nd ((x4.length : Int) = (x4.length : Int)) (
 Nd (¬ ((x5.length : Int) < (x5.length : Int))) (
 Nd ((x5.length : Int) = (x5.length : Int)) (
 Nd (samePre [.lst x2, .lst x3, .lst x4, .lst x5, .int x6, .int x7]) (
 ∀ x8 : Int,
 ∀ x9 : Sx.Rows,
 ∀ x10 : Sx.Rows,
 ∀ x11 : Sx.Rows,
 ∀ x12 : Sx.Rows,
 ∀ x13 : Int,
 ∀ x14 : Int,
(sameRel [.lst x2, .lst x3, .lst x4, .lst x5, .int x6, .int x7] [.int x8, .lst x9, .lst x10, .lst x11, .lst x12, .int x13, .int x14]) →
(((x8 = 1) →
 Nd (livesPre []) (
 ∀ x15 : Bool,
(livesRel [] [.bool x15]) →
 Nd (x8 = 1) (
 Nd (playRel [.lst x0] [.bool x15]) (
 True)))) ∧ (¬ (x8 = 1) →
 Nd (¬ (x8 = 1)) (
 Nd (playRel [.lst x0] [.bool false]) (
 True)))))))))))))) ∧ (¬ (x1 < (x0.length : Int)) →
 Nd (¬ (x1 < (x0.length : Int))) (
 Nd (¬ (x1 < (x0.length : Int))) (
 Nd (¬ ((x4.length : Int) < (x4.length : Int))) (
 Nd ((x4.length : Int) = (x4.length : Int)) (
 Nd (¬ ((x5.length : Int) < (x5.length : Int))) (
 Nd ((x5.length : Int) = (x5.length : Int)) (
 Nd (samePre [.lst x2, .lst x3, .lst x4, .lst x5, .int x6, .int x7]) (
 ∀ x8 : Int,
 ∀ x9 : Sx.Rows,
 ∀ x10 : Sx.Rows,
 ∀ x11 : Sx.Rows,
 ∀ x12 : Sx.Rows,
 ∀ x13 : Int,
 ∀ x14 : Int,
(sameRel [.lst x2, .lst x3, .lst x4, .lst x5, .int x6, .int x7] [.int x8, .lst x9, .lst x10, .lst x11, .lst x12, .int x13, .int x14]) →
(((x8 = 1) →
 Nd (livesPre []) (
 ∀ x15 : Bool,
(livesRel [] [.bool x15]) →
 Nd (x8 = 1) (
 Nd (playRel [.lst x0] [.bool x15]) (
 True)))) ∧ (¬ (x8 = 1) →
 Nd (¬ (x8 = 1)) (
 Nd (playRel [.lst x0] [.bool false]) (
 True))))))))))))))
theorem vcPlay_eq : (cvc Go.Proofs.Try.prog U0 cPlay (sxF Go.Proofs.Try.prog U0 annsC (conJ Go.Proofs.Try.prog U0 annsC (stageC 1) 400 joinsC) 400 5)).vc U0 (fun _ => True) = vcPlay := by kernel_rfl
end Go.C15
