/- The conditions of contracts, as the engine's printer has written them, and that the kernel comes to the same.
  Conditions: none. -/
import Derived.Test.YtpdcecfnlccicaaS1
import Derived.Test.YtpdcecfnlccicaaRows
import Derived.KernelRfl
set_option linter.unusedVariables false
set_option maxRecDepth 100000
namespace Go.C36
open Go Go.Xe Go.Sx
def vcPof0 (x13 : Sx.Rows) (x18 : Int) (x24 : Int) (x25 : Int) : Prop :=
 Nd (¬ (x24 < 0)) (
 Nd (x24 < (x13.length : Int)) (
((((Sx.cellAt x13 x24 0).toInt = 1) →
 Nd ((Sx.cellAt x13 x24 0).toInt = 1) (
 Nd ((Sx.cellAt x13 x24 0).toInt = 1) (
 Nd ((Sx.cellAt x13 x24 0).toInt = 1) (
 Nd (¬ (x24 < 0)) (
 Nd (x24 < (x13.length : Int)) (
 Nd ((Sx.cellAt x13 x24 0).toInt = 1) (
 Nd ((Sx.cellAt x13 x24 0).toInt = 1) (
 Nd ((Sx.cellAt x13 x24 0).toInt = 1) (
 Nd ((Sx.cellAt x13 x24 0).toInt = 1) (
((((Sx.cellAt x13 x24 2).toBool = true) →
 Nd ((¬ ((x24 + (-1)) < (-9223372036854775808))) ∧ ((x24 + (-1)) < 9223372036854775808)) (
 Nd (w3Inv [.lst x13, .int x18] [.int (x24 + (-1)), .int x25]) (
 Nd (w3Mu [.lst x13, .int x18] [.int (x24 + (-1)), .int x25] < w3Mu [.lst x13, .int x18] [.int x24, .int x25]) (
 True)))) ∧ (¬ ((Sx.cellAt x13 x24 2).toBool = true) →
 Nd ((¬ ((x24 + (-1)) < (-9223372036854775808))) ∧ ((x24 + (-1)) < 9223372036854775808)) (
 Nd (w3Inv [.lst x13, .int x18] [.int (x24 + (-1)), .int x24]) (
 Nd (w3Mu [.lst x13, .int x18] [.int (x24 + (-1)), .int x24] < w3Mu [.lst x13, .int x18] [.int x24, .int x25]) (
 True))))))))))))))) ∧ (¬ ((Sx.cellAt x13 x24 0).toInt = 1) →
 Nd (¬ ((Sx.cellAt x13 x24 0).toInt = 1)) (
 Nd (¬ ((Sx.cellAt x13 x24 0).toInt = 1)) (
 Nd (¬ ((Sx.cellAt x13 x24 0).toInt = 1)) (
 Nd (¬ ((Sx.cellAt x13 x24 0).toInt = 1)) (
 Nd (¬ ((Sx.cellAt x13 x24 0).toInt = 1)) (
 Nd (¬ ((Sx.cellAt x13 x24 0).toInt = 1)) (
 Nd (¬ ((Sx.cellAt x13 x24 0).toInt = 1)) (
 Nd ((¬ ((x24 + (-1)) < (-9223372036854775808))) ∧ ((x24 + (-1)) < 9223372036854775808)) (
 Nd (w3Inv [.lst x13, .int x18] [.int (x24 + (-1)), .int x25]) (
 Nd (w3Mu [.lst x13, .int x18] [.int (x24 + (-1)), .int x25] < w3Mu [.lst x13, .int x18] [.int x24, .int x25]) (
 True))))))))))))))
def vcPof : Prop :=
 ∀ x0 : Sx.Rows,
 ∀ x1 : Sx.Rows,
 ∀ x2 : Int,
 ∀ x3 : Int,
 ∀ x4 : Int,
 ∀ x5 : Int,
 ∀ x6 : Int,
 ∀ x7 : Int,
(pofPre [.lst x0, .lst x1, .int x2, .int x3, .int x4, .int x5, .int x6, .int x7]) →
 Nd (uofPre [.lst x0, .lst x1, .int x2, .int x3, .int x4, .int x5, .int x6, .int x7]) (
 ∀ x8 : Sx.Rows,
 ∀ x9 : Sx.Rows,
 ∀ x10 : Sx.Rows,
 ∀ x11 : Sx.Rows,
(uofRel [.lst x0, .lst x1, .int x2, .int x3, .int x4, .int x5, .int x6, .int x7] [.lst x8, .lst x9, .lst x10, .lst x11]) →
 Nd (rofPre [.lst x8, .lst x9, .lst x10, .lst x11]) (
 ∀ x12 : Sx.Rows,
 ∀ x13 : Sx.Rows,
(rofRel [.lst x8, .lst x9, .lst x10, .lst x11] [.lst x12, .lst x13]) →
 Nd (ofPre [.lst x8, .lst x9, .lst x10, .lst x11]) (
 ∀ x14 : Sx.Rows,
 ∀ x15 : Sx.Rows,
 ∀ x16 : Int,
(ofRel [.lst x8, .lst x9, .lst x10, .lst x11] [.lst x14, .lst x15, .int x16]) →
(((x16 = 0) →
 Nd (x16 = 0) (
 Nd (x16 = 0) (
 Nd (peqPre [.lst x14, .lst x15, .lst x12, .lst x13]) (
 ∀ x17 : Int,
(peqRel [.lst x14, .lst x15, .lst x12, .lst x13] [.int x17]) →
 Nd (x16 = 0) (
 Nd (x16 = 0) (
(((x17 = 0) →
 Nd (x17 = 0) (
 Nd (x17 = 0) (
 Nd (x17 = 0) (
 Nd (x17 = 0) (
 Nd (x17 = 0) (
 Nd (x17 = 0) (
 Nd (x17 = 0) (
 Nd (pofRel [.lst x0, .lst x1, .int x2, .int x3, .int x4, .int x5, .int x6, .int x7] [.bool false]) (
 True))))))))) ∧ (¬ (x17 = 0) →
 Nd (¬ (x17 = 0)) (
 Nd (¬ (x17 = 0)) (
 Nd (¬ (x17 = 0)) (
 Nd (¬ (x17 = 0)) (
 Nd (¬ (x17 = 0)) (
 Nd (¬ (x17 = 0)) (
 Nd (¬ (x17 = 0)) (
((((x14.length : Int) = (x14.length : Int)) →
 Nd ((x14.length : Int) = (x14.length : Int)) (
 Nd ((x14.length : Int) = (x14.length : Int)) (
 Nd ((x14.length : Int) = (x14.length : Int)) (
 Nd ((x14.length : Int) = (x14.length : Int)) (
 Nd ((x14.length : Int) = (x14.length : Int)) (
 Nd ((x14.length : Int) = (x14.length : Int)) (
 Nd ((x14.length : Int) = (x14.length : Int)) (
((((x15.length : Int) = (x15.length : Int)) →
 Nd (w0Inv [.lst x13] [.int 0, .int 0, .int 0, .int 0, .int 0, .lst ([] : Sx.Rows)]) (
 ∀ x18 : Int,
 ∀ x19 : Int,
 ∀ x20 : Int,
 ∀ x21 : Int,
 ∀ x22 : Int,
 ∀ x23 : Sx.Rows,
(w0Inv [.lst x13] [.int x18, .int x19, .int x20, .int x21, .int x22, .lst x23]) →
(((x18 < (x13.length : Int)) →
 Nd (¬ (x18 < 0)) (
 Nd (x18 < (x13.length : Int)) (
((((Sx.cellAt x13 x18 0).toInt = 1) →
 Nd ((¬ ((x19 + 1) < (-9223372036854775808))) ∧ ((x19 + 1) < 9223372036854775808)) (
((((Sx.cellAt x13 x18 2).toBool = true) →
 Nd ((¬ ((x22 + 1) < (-9223372036854775808))) ∧ ((x22 + 1) < 9223372036854775808)) (
 Nd ((¬ (((x13.length : Int) + (-1)) < (-9223372036854775808))) ∧ (((x13.length : Int) + (-1)) < 9223372036854775808)) (
 Nd (w3Inv [.lst x13, .int x18] [.int ((x13.length : Int) + (-1)), .int (-1)]) (
 ∀ x24 : Int,
 ∀ x25 : Int,
(w3Inv [.lst x13, .int x18] [.int x24, .int x25]) →
(((x18 < x24) →
(vcPof0 x13 x18 x24 x25)) ∧ (¬ (x18 < x24) →
 Nd (¬ ((x23.length : Int) < (x23.length : Int))) (
 Nd (((x23.length : Int) + 1) < 67108865) (
 Nd ((x23.length : Int) = (x23.length : Int)) (
 Nd ((¬ ((x18 + 1) < (-9223372036854775808))) ∧ ((x18 + 1) < 9223372036854775808)) (
 Nd (¬ (((x23.length : Int) + 1) < ((x23.length : Int) + 1))) (
 Nd (((x23.length : Int) + 1) = ((x23.length : Int) + 1)) (
 Nd (w0Inv [.lst x13] [.int (x18 + 1), .int (x19 + 1), .int x20, .int x21, .int (x22 + 1), .lst (x23 ++ (Sx.chunk 1 1 [(.int x25)]))]) (
 Nd (w0Mu [.lst x13] [.int (x18 + 1), .int (x19 + 1), .int x20, .int x21, .int (x22 + 1), .lst (x23 ++ (Sx.chunk 1 1 [(.int x25)]))] < w0Mu [.lst x13] [.int x18, .int x19, .int x20, .int x21, .int x22, .lst x23]) (
 True)))))))))))))) ∧ (¬ ((Sx.cellAt x13 x18 2).toBool = true) →
 Nd ((¬ (((x13.length : Int) + (-1)) < (-9223372036854775808))) ∧ (((x13.length : Int) + (-1)) < 9223372036854775808)) (
 Nd (w3Inv [.lst x13, .int x18] [.int ((x13.length : Int) + (-1)), .int (-1)]) (
 ∀ x24 : Int,
 ∀ x25 : Int,
(w3Inv [.lst x13, .int x18] [.int x24, .int x25]) →
(((x18 < x24) →
(vcPof0 x13 x18 x24 x25)) ∧ (¬ (x18 < x24) →
 Nd (¬ ((x23.length : Int) < (x23.length : Int))) (
 Nd (((x23.length : Int) + 1) < 67108865) (
 Nd ((x23.length : Int) = (x23.length : Int)) (
 Nd ((¬ ((x18 + 1) < (-9223372036854775808))) ∧ ((x18 + 1) < 9223372036854775808)) (
 Nd (¬ (((x23.length : Int) + 1) < ((x23.length : Int) + 1))) (
 Nd (((x23.length : Int) + 1) = ((x23.length : Int) + 1)) (
 Nd (w0Inv [.lst x13] [.int (x18 + 1), .int (x19 + 1), .int x20, .int x21, .int x22, .lst (x23 ++ (Sx.chunk 1 1 [(.int x25)]))]) (
 Nd (w0Mu [.lst x13] [.int (x18 + 1), .int (x19 + 1), .int x20, .int x21, .int x22, .lst (x23 ++ (Sx.chunk 1 1 [(.int x25)]))] < w0Mu [.lst x13] [.int x18, .int x19, .int x20, .int x21, .int x22, .lst x23]) (
 True)))))))))))))))) ∧ (¬ ((Sx.cellAt x13 x18 0).toInt = 1) →
((((Sx.cellAt x13 x18 0).toInt = 2) →
 Nd ((¬ ((x20 + 1) < (-9223372036854775808))) ∧ ((x20 + 1) < 9223372036854775808)) (
((((Sx.cellAt x13 x18 2).toBool = true) →
 Nd ((¬ ((x22 + 1) < (-9223372036854775808))) ∧ ((x22 + 1) < 9223372036854775808)) (
 Nd ((¬ (((x13.length : Int) + (-1)) < (-9223372036854775808))) ∧ (((x13.length : Int) + (-1)) < 9223372036854775808)) (
 Nd (w3Inv [.lst x13, .int x18] [.int ((x13.length : Int) + (-1)), .int (-1)]) (
 ∀ x24 : Int,
 ∀ x25 : Int,
(w3Inv [.lst x13, .int x18] [.int x24, .int x25]) →
(((x18 < x24) →
(vcPof0 x13 x18 x24 x25)) ∧ (¬ (x18 < x24) →
 Nd (¬ ((x23.length : Int) < (x23.length : Int))) (
 Nd (((x23.length : Int) + 1) < 67108865) (
 Nd ((x23.length : Int) = (x23.length : Int)) (
 Nd ((¬ ((x18 + 1) < (-9223372036854775808))) ∧ ((x18 + 1) < 9223372036854775808)) (
 Nd (¬ (((x23.length : Int) + 1) < ((x23.length : Int) + 1))) (
 Nd (((x23.length : Int) + 1) = ((x23.length : Int) + 1)) (
 Nd (w0Inv [.lst x13] [.int (x18 + 1), .int x19, .int (x20 + 1), .int x21, .int (x22 + 1), .lst (x23 ++ (Sx.chunk 1 1 [(.int x25)]))]) (
 Nd (w0Mu [.lst x13] [.int (x18 + 1), .int x19, .int (x20 + 1), .int x21, .int (x22 + 1), .lst (x23 ++ (Sx.chunk 1 1 [(.int x25)]))] < w0Mu [.lst x13] [.int x18, .int x19, .int x20, .int x21, .int x22, .lst x23]) (
 True)))))))))))))) ∧ (¬ ((Sx.cellAt x13 x18 2).toBool = true) →
 Nd ((¬ (((x13.length : Int) + (-1)) < (-9223372036854775808))) ∧ (((x13.length : Int) + (-1)) < 9223372036854775808)) (
 Nd (w3Inv [.lst x13, .int x18] [.int ((x13.length : Int) + (-1)), .int (-1)]) (
 ∀ x24 : Int,
 ∀ x25 : Int,
(w3Inv [.lst x13, .int x18] [.int x24, .int x25]) →
(((x18 < x24) →
(vcPof0 x13 x18 x24 x25)) ∧ (¬ (x18 < x24) →
 Nd (¬ ((x23.length : Int) < (x23.length : Int))) (
 Nd (((x23.length : Int) + 1) < 67108865) (
 Nd ((x23.length : Int) = (x23.length : Int)) (
 Nd ((¬ ((x18 + 1) < (-9223372036854775808))) ∧ ((x18 + 1) < 9223372036854775808)) (
 Nd (¬ (((x23.length : Int) + 1) < ((x23.length : Int) + 1))) (
 Nd (((x23.length : Int) + 1) = ((x23.length : Int) + 1)) (
 Nd (w0Inv [.lst x13] [.int (x18 + 1), .int x19, .int (x20 + 1), .int x21, .int x22, .lst (x23 ++ (Sx.chunk 1 1 [(.int x25)]))]) (
 Nd (w0Mu [.lst x13] [.int (x18 + 1), .int x19, .int (x20 + 1), .int x21, .int x22, .lst (x23 ++ (Sx.chunk 1 1 [(.int x25)]))] < w0Mu [.lst x13] [.int x18, .int x19, .int x20, .int x21, .int x22, .lst x23]) (
 True)))))))))))))))) ∧ (¬ ((Sx.cellAt x13 x18 0).toInt = 2) →
 Nd ((¬ ((x21 + 1) < (-9223372036854775808))) ∧ ((x21 + 1) < 9223372036854775808)) (
((((Sx.cellAt x13 x18 2).toBool = true) →
 Nd ((¬ ((x22 + 1) < (-9223372036854775808))) ∧ ((x22 + 1) < 9223372036854775808)) (
 Nd ((¬ (((x13.length : Int) + (-1)) < (-9223372036854775808))) ∧ (((x13.length : Int) + (-1)) < 9223372036854775808)) (
 Nd (w3Inv [.lst x13, .int x18] [.int ((x13.length : Int) + (-1)), .int (-1)]) (
 ∀ x24 : Int,
 ∀ x25 : Int,
(w3Inv [.lst x13, .int x18] [.int x24, .int x25]) →
(((x18 < x24) →
(vcPof0 x13 x18 x24 x25)) ∧ (¬ (x18 < x24) →
 Nd (¬ ((x23.length : Int) < (x23.length : Int))) (
 Nd (((x23.length : Int) + 1) < 67108865) (
 Nd ((x23.length : Int) = (x23.length : Int)) (
 Nd ((¬ ((x18 + 1) < (-9223372036854775808))) ∧ ((x18 + 1) < 9223372036854775808)) (
 Nd (¬ (((x23.length : Int) + 1) < ((x23.length : Int) + 1))) (
 Nd (((x23.length : Int) + 1) = ((x23.length : Int) + 1)) (
 Nd (w0Inv [.lst x13] [.int (x18 + 1), .int x19, .int x20, .int (x21 + 1), .int (x22 + 1), .lst (x23 ++ (Sx.chunk 1 1 [(.int x25)]))]) (
 Nd (w0Mu [.lst x13] [.int (x18 + 1), .int x19, .int x20, .int (x21 + 1), .int (x22 + 1), .lst (x23 ++ (Sx.chunk 1 1 [(.int x25)]))] < w0Mu [.lst x13] [.int x18, .int x19, .int x20, .int x21, .int x22, .lst x23]) (
 True)))))))))))))) ∧ (¬ ((Sx.cellAt x13 x18 2).toBool = true) →
 Nd ((¬ (((x13.length : Int) + (-1)) < (-9223372036854775808))) ∧ (((x13.length : Int) + (-1)) < 9223372036854775808)) (
 Nd (w3Inv [.lst x13, .int x18] [.int ((x13.length : Int) + (-1)), .int (-1)]) (
 ∀ x24 : Int,
 ∀ x25 : Int,
(w3Inv [.lst x13, .int x18] [.int x24, .int x25]) →
(((x18 < x24) →
(vcPof0 x13 x18 x24 x25)) ∧ (¬ (x18 < x24) →
 Nd (¬ ((x23.length : Int) < (x23.length : Int))) (
 Nd (((x23.length : Int) + 1) < 67108865) (
 Nd ((x23.length : Int) = (x23.length : Int)) (
 Nd ((¬ ((x18 + 1) < (-9223372036854775808))) ∧ ((x18 + 1) < 9223372036854775808)) (
 Nd (¬ (((x23.length : Int) + 1) < ((x23.length : Int) + 1))) (
 Nd (((x23.length : Int) + 1) = ((x23.length : Int) + 1)) (
 Nd (w0Inv [.lst x13] [.int (x18 + 1), .int x19, .int x20, .int (x21 + 1), .int x22, .lst (x23 ++ (Sx.chunk 1 1 [(.int x25)]))]) (
 Nd (w0Mu [.lst x13] [.int (x18 + 1), .int x19, .int x20, .int (x21 + 1), .int x22, .lst (x23 ++ (Sx.chunk 1 1 [(.int x25)]))] < w0Mu [.lst x13] [.int x18, .int x19, .int x20, .int x21, .int x22, .lst x23]) (
 True)))))))))))))))))))))) ∧ (¬ (x18 < (x13.length : Int)) →
 Nd (w5Inv [.lst x12] [.int 0, .int 0]) (
 ∀ x24 : Int,
 ∀ x25 : Int,
(w5Inv [.lst x12] [.int x24, .int x25]) →
(((x24 < (x12.length : Int)) →
 Nd (¬ (x24 < 0)) (
 Nd (x24 < (x12.length : Int)) (
((((Sx.cellAt x12 x24 1).toBool = true) →
 Nd ((¬ ((x25 + 1) < (-9223372036854775808))) ∧ ((x25 + 1) < 9223372036854775808)) (
 Nd ((¬ ((x24 + 1) < (-9223372036854775808))) ∧ ((x24 + 1) < 9223372036854775808)) (
 Nd (w5Inv [.lst x12] [.int (x24 + 1), .int (x25 + 1)]) (
 Nd (w5Mu [.lst x12] [.int (x24 + 1), .int (x25 + 1)] < w5Mu [.lst x12] [.int x24, .int x25]) (
 True))))) ∧ (¬ ((Sx.cellAt x12 x24 1).toBool = true) →
 Nd ((¬ ((x24 + 1) < (-9223372036854775808))) ∧ ((x24 + 1) < 9223372036854775808)) (
 Nd (w5Inv [.lst x12] [.int (x24 + 1), .int x25]) (
 Nd (w5Mu [.lst x12] [.int (x24 + 1), .int x25] < w5Mu [.lst x12] [.int x24, .int x25]) (
 True)))))))) ∧ (¬ (x24 < (x12.length : Int)) →
 Nd (aheadPre [.lst x14, .lst x15]) (
 ∀ x26 : Sx.Rows,
(aheadRel [.lst x14, .lst x15] [.lst x26]) →
 Nd (¬ ((x23.length : Int) < (x23.length : Int))) (
 Nd ((x23.length : Int) = (x23.length : Int)) (
 Nd (intsPre [.lst x26, .lst x23]) (
 ∀ x27 : Int,
(intsRel [.lst x26, .lst x23] [.int x27]) →
(((x27 = 1) →
 Nd (x27 = 1) (
 Nd (x27 = 1) (
 Nd (x27 = 1) (
 Nd (x27 = 1) (
 Nd (x27 = 1) (
((((x26.length : Int) = (x26.length : Int)) →
 Nd ((x26.length : Int) = (x26.length : Int)) (
 Nd (nstaysPre [.lst x14, .lst x15]) (
 ∀ x28 : Int,
(nstaysRel [.lst x14, .lst x15] [.int x28]) →
 Nd ((x26.length : Int) = (x26.length : Int)) (
 Nd ((x26.length : Int) = (x26.length : Int)) (
 Nd ((x26.length : Int) = (x26.length : Int)) (
(((x28 = x19) →
 Nd (x28 = x19) (
 Nd (nbindsPre [.lst x14, .lst x15]) (
 ∀ x29 : Int,
(nbindsRel [.lst x14, .lst x15] [.int x29]) →
 Nd (x28 = x19) (
 Nd (x28 = x19) (
 Nd (x28 = x19) (
(((x29 = x20) →
 Nd (x29 = x20) (
 Nd (nmakesPre [.lst x14, .lst x15]) (
 ∀ x30 : Int,
(nmakesRel [.lst x14, .lst x15] [.int x30]) →
 Nd (x29 = x20) (
 Nd (x29 = x20) (
 Nd (x29 = x20) (
(((x30 = x21) →
 Nd (x30 = x21) (
 Nd (ndropsPre [.lst x14, .lst x15]) (
 ∀ x31 : Int,
(ndropsRel [.lst x14, .lst x15] [.int x31]) →
 Nd (x30 = x21) (
 Nd (x30 = x21) (
 Nd (x30 = x21) (
(((x31 = x25) →
 Nd (x31 = x25) (
 Nd (nmovesPre [.lst x14, .lst x15]) (
 ∀ x32 : Int,
(nmovesRel [.lst x14, .lst x15] [.int x32]) →
 Nd (x31 = x25) (
 Nd (x31 = x25) (
 Nd (x31 = x25) (
(((x32 = x22) →
 Nd (livesPre []) (
 ∀ x33 : Bool,
(livesRel [] [.bool x33]) →
 Nd (x32 = x22) (
 Nd (pofRel [.lst x0, .lst x1, .int x2, .int x3, .int x4, .int x5, .int x6, .int x7] [.bool x33]) (
 True)))) ∧ (¬ (x32 = x22) →
 Nd (¬ (x32 = x22)) (
 Nd (pofRel [.lst x0, .lst x1, .int x2, .int x3, .int x4, .int x5, .int x6, .int x7] [.bool false]) (
 True)))))))))) ∧ (¬ (x31 = x25) →
 Nd (¬ (x31 = x25)) (
 Nd (¬ (x31 = x25)) (
 Nd (¬ (x31 = x25)) (
 Nd (¬ (x31 = x25)) (
 Nd (pofRel [.lst x0, .lst x1, .int x2, .int x3, .int x4, .int x5, .int x6, .int x7] [.bool false]) (
 True))))))))))))) ∧ (¬ (x30 = x21) →
 Nd (¬ (x30 = x21)) (
 Nd (¬ (x30 = x21)) (
 Nd (¬ (x30 = x21)) (
 Nd (¬ (x30 = x21)) (
 Nd (pofRel [.lst x0, .lst x1, .int x2, .int x3, .int x4, .int x5, .int x6, .int x7] [.bool false]) (
 True))))))))))))) ∧ (¬ (x29 = x20) →
 Nd (¬ (x29 = x20)) (
 Nd (¬ (x29 = x20)) (
 Nd (¬ (x29 = x20)) (
 Nd (¬ (x29 = x20)) (
 Nd (pofRel [.lst x0, .lst x1, .int x2, .int x3, .int x4, .int x5, .int x6, .int x7] [.bool false]) (
 True))))))))))))) ∧ (¬ (x28 = x19) →
 Nd (¬ (x28 = x19)) (
 Nd (¬ (x28 = x19)) (
 Nd (¬ (x28 = x19)) (
 Nd (¬ (x28 = x19)) (
 Nd (pofRel [.lst x0, .lst x1, .int x2, .int x3, .int x4, .int x5, .int x6, .int x7] [.bool false]) (
 True))))))))))))) ∧ (¬ ((x26.length : Int) = (x26.length : Int)) →
 Nd (¬ ((x26.length : Int) = (x26.length : Int))) (
 Nd (¬ ((x26.length : Int) = (x26.length : Int))) (
 Nd (¬ ((x26.length : Int) = (x26.length : Int))) (
 Nd (¬ ((x26.length : Int) = (x26.length : Int))) (
 Nd (pofRel [.lst x0, .lst x1, .int x2, .int x3, .int x4, .int x5, .int x6, .int x7] [.bool false]) (
 True))))))))))))) ∧ (¬ (x27 = 1) →
 Nd (¬ (x27 = 1)) (
 Nd (¬ (x27 = 1)) (
 Nd (¬ (x27 = 1)) (
 Nd (¬ (x27 = 1)) (
 Nd (¬ (x27 = 1)) (
 Nd (pofRel [.lst x0, .lst x1, .int x2, .int x3, .int x4, .int x5, .int x6, .int x7] [.bool false]) (
 True))))))))))))))))))) ∧ (¬ ((x15.length : Int) = (x15.length : Int)) →
 Nd (pofRel [.lst x0, .lst x1, .int x2, .int x3, .int x4, .int x5, .int x6, .int x7] [.bool false]) (
 True))))))))))) ∧ (¬ ((x14.length : Int) = (x14.length : Int)) →
 Nd (¬ ((x14.length : Int) = (x14.length : Int))) (
 Nd (¬ ((x14.length : Int) = (x14.length : Int))) (
 Nd (¬ ((x14.length : Int) = (x14.length : Int))) (
 Nd (¬ ((x14.length : Int) = (x14.length : Int))) (
 Nd (¬ ((x14.length : Int) = (x14.length : Int))) (
 Nd (¬ ((x14.length : Int) = (x14.length : Int))) (
 Nd (¬ ((x14.length : Int) = (x14.length : Int))) (
 Nd (pofRel [.lst x0, .lst x1, .int x2, .int x3, .int x4, .int x5, .int x6, .int x7] [.bool false]) (
 True))))))))))))))))))))))))) ∧ (¬ (x16 = 0) →
 Nd (¬ (x16 = 0)) (
 Nd (¬ (x16 = 0)) (
 Nd (¬ (x16 = 0)) (
 Nd (¬ (x16 = 0)) (
 Nd (pofRel [.lst x0, .lst x1, .int x2, .int x3, .int x4, .int x5, .int x6, .int x7] [.bool false]) (
 True))))))))))
theorem vcPof_eq : (cvc Go.Proofs.Try.prog U0 cPof (sxF Go.Proofs.Try.prog U0 annsE (conOf Go.Proofs.Try.prog U0 (stageE 0)) 400 5)).vc U0 (fun _ => True) = vcPof := by kernel_rfl
end Go.C36
