/- The conditions of contracts, as the engine's printer has written them, and that the kernel comes to the same.
  Conditions: none. -/
import Derived.Test.YtpdcecfnlccicaaS1
import Derived.Test.YtpdcecfnlccicaaRows
import Derived.KernelRfl
set_option linter.unusedVariables false
set_option maxRecDepth 100000
namespace Go.C36
open Go Go.Xe Go.Sx
def vcPerr : Prop :=
 ∀ x0 : Sx.Rows,
 ∀ x1 : Sx.Rows,
 ∀ x2 : Sx.Rows,
 ∀ x3 : Sx.Rows,
 ∀ x4 : Sx.Rows,
 ∀ x5 : Sx.Rows,
(perrPre [.lst x0, .lst x1, .lst x2, .lst x3, .lst x4, .lst x5]) →
(((30 < (x0.length : Int)) →
 Nd (30 < (x0.length : Int)) (
 Nd (30 < (x0.length : Int)) (
 Nd (30 < (x0.length : Int)) (
 Nd (30 < (x0.length : Int)) (
 Nd (livesPre []) (
 ∀ x6 : Bool,
(livesRel [] [.bool x6]) →
 Nd (perrRel [.lst x0, .lst x1, .lst x2, .lst x3, .lst x4, .lst x5] [.bool x6]) (
 True))))))) ∧ (¬ (30 < (x0.length : Int)) →
 Nd (¬ (30 < (x0.length : Int))) (
 Nd (¬ (30 < (x0.length : Int))) (
 Nd (¬ (30 < (x0.length : Int))) (
 Nd (¬ (30 < (x0.length : Int))) (
(((30 < (x1.length : Int)) →
 Nd (30 < (x1.length : Int)) (
 Nd (30 < (x1.length : Int)) (
 Nd (30 < (x1.length : Int)) (
 Nd (30 < (x1.length : Int)) (
 Nd (livesPre []) (
 ∀ x6 : Bool,
(livesRel [] [.bool x6]) →
 Nd (perrRel [.lst x0, .lst x1, .lst x2, .lst x3, .lst x4, .lst x5] [.bool x6]) (
 True))))))) ∧ (¬ (30 < (x1.length : Int)) →
 Nd (¬ (30 < (x1.length : Int))) (
 Nd (¬ (30 < (x1.length : Int))) (
 Nd (¬ (30 < (x1.length : Int))) (
 Nd (¬ (30 < (x1.length : Int))) (
(((10 < (x2.length : Int)) →
 Nd (10 < (x2.length : Int)) (
 Nd (10 < (x2.length : Int)) (
 Nd (10 < (x2.length : Int)) (
 Nd (10 < (x2.length : Int)) (
 Nd (livesPre []) (
 ∀ x6 : Bool,
(livesRel [] [.bool x6]) →
 Nd (perrRel [.lst x0, .lst x1, .lst x2, .lst x3, .lst x4, .lst x5] [.bool x6]) (
 True))))))) ∧ (¬ (10 < (x2.length : Int)) →
 Nd (¬ (10 < (x2.length : Int))) (
 Nd (¬ (10 < (x2.length : Int))) (
 Nd (¬ (10 < (x2.length : Int))) (
 Nd (¬ (10 < (x2.length : Int))) (
(((10 < (x3.length : Int)) →
 Nd (10 < (x3.length : Int)) (
 Nd (10 < (x3.length : Int)) (
 Nd (10 < (x3.length : Int)) (
 Nd (10 < (x3.length : Int)) (
 Nd (livesPre []) (
 ∀ x6 : Bool,
(livesRel [] [.bool x6]) →
 Nd (perrRel [.lst x0, .lst x1, .lst x2, .lst x3, .lst x4, .lst x5] [.bool x6]) (
 True))))))) ∧ (¬ (10 < (x3.length : Int)) →
 Nd (¬ (10 < (x3.length : Int))) (
 Nd (¬ (10 < (x3.length : Int))) (
 Nd (¬ (10 < (x3.length : Int))) (
 Nd (¬ (10 < (x3.length : Int))) (
(((20 < (x5.length : Int)) →
 Nd (20 < (x5.length : Int)) (
 Nd (20 < (x5.length : Int)) (
 Nd (20 < (x5.length : Int)) (
 Nd (20 < (x5.length : Int)) (
 Nd (livesPre []) (
 ∀ x6 : Bool,
(livesRel [] [.bool x6]) →
 Nd (perrRel [.lst x0, .lst x1, .lst x2, .lst x3, .lst x4, .lst x5] [.bool x6]) (
 True))))))) ∧ (¬ (20 < (x5.length : Int)) →
 Nd (¬ (20 < (x5.length : Int))) (
 Nd (¬ (20 < (x5.length : Int))) (
 Nd (¬ (20 < (x5.length : Int))) (
 Nd (¬ (20 < (x5.length : Int))) (
(((20 < (x4.length : Int)) →
 Nd (livesPre []) (
 ∀ x6 : Bool,
(livesRel [] [.bool x6]) →
 Nd (perrRel [.lst x0, .lst x1, .lst x2, .lst x3, .lst x4, .lst x5] [.bool x6]) (
 True))) ∧ (¬ (20 < (x4.length : Int)) →
 Nd (rerrPre [.lst x0, .lst x1, .lst x2, .lst x3]) (
 ∀ x6 : Int,
(rerrRel [.lst x0, .lst x1, .lst x2, .lst x3] [.int x6]) →
 Nd (ofPre [.lst x0, .lst x1, .lst x2, .lst x3]) (
 ∀ x7 : Sx.Rows,
 ∀ x8 : Sx.Rows,
 ∀ x9 : Int,
(ofRel [.lst x0, .lst x1, .lst x2, .lst x3] [.lst x7, .lst x8, .int x9]) →
(((x9 = x6) →
 Nd (x9 = x6) (
 Nd (x9 = x6) (
(((0 < x6) →
 Nd (0 < x6) (
 Nd (0 < x6) (
 Nd (peqPre [.lst x7, .lst x8, .lst ([] : Sx.Rows), .lst ([] : Sx.Rows)]) (
 ∀ x10 : Int,
(peqRel [.lst x7, .lst x8, .lst ([] : Sx.Rows), .lst ([] : Sx.Rows)] [.int x10]) →
 Nd (0 < x6) (
 Nd (x9 = x6) (
 Nd (0 < x6) (
 Nd (x9 = x6) (
(((x10 = 0) →
 Nd (x10 = 0) (
 Nd (x10 = 0) (
 Nd (x10 = 0) (
 Nd (x10 = 0) (
 Nd (perrRel [.lst x0, .lst x1, .lst x2, .lst x3, .lst x4, .lst x5] [.bool false]) (
 True)))))) ∧ (¬ (x10 = 0) →
 Nd (¬ (x10 = 0)) (
 Nd (¬ (x10 = 0)) (
(((x6 = 0) →
 Nd (x6 = 0) (
 Nd (x6 = 0) (
 Nd (x6 = 0) (
 Nd (x6 = 0) (
 Nd (x6 = 0) (
 Nd (x6 = 0) (
 Nd (x6 = 0) (
 Nd (x6 = 0) (
 Nd (x6 = 0) (
 Nd (rofPre [.lst x0, .lst x1, .lst x2, .lst x3]) (
 ∀ x11 : Sx.Rows,
 ∀ x12 : Sx.Rows,
(rofRel [.lst x0, .lst x1, .lst x2, .lst x3] [.lst x11, .lst x12]) →
 Nd (x6 = 0) (
 Nd (peqPre [.lst x7, .lst x8, .lst x11, .lst x12]) (
 ∀ x13 : Int,
(peqRel [.lst x7, .lst x8, .lst x11, .lst x12] [.int x13]) →
 Nd (x6 = 0) (
 Nd (¬ (x10 = 0)) (
 Nd (x6 = 0) (
 Nd (¬ (x10 = 0)) (
(((x13 = 0) →
 Nd (perrRel [.lst x0, .lst x1, .lst x2, .lst x3, .lst x4, .lst x5] [.bool false]) (
 True)) ∧ (¬ (x13 = 0) →
 Nd (ty0Inv [] [.int (-1)]) (
 ∀ x14 : Int,
(ty0Inv [] [.int x14]) →
(((x14 < 10) →
 Nd (pcheckPre [.lst x0, .int x14]) (
 ∀ x15 : Int,
(pcheckRel [.lst x0, .int x14] [.int x15]) →
 Nd (rcheckPre [.lst x0, .int x14]) (
 ∀ x16 : Int,
(rcheckRel [.lst x0, .int x14] [.int x16]) →
(((x15 = x16) →
 Nd ((¬ ((x14 + 1) < (-9223372036854775808))) ∧ ((x14 + 1) < 9223372036854775808)) (
 Nd (ty0Inv [] [.int (x14 + 1)]) (
 Nd (ty0Mu [] [.int (x14 + 1)] < ty0Mu [] [.int x14]) (
 True)))) ∧ (¬ (x15 = x16) →
 Nd (perrRel [.lst x0, .lst x1, .lst x2, .lst x3, .lst x4, .lst x5] [.bool false]) (
 True)))))) ∧ (¬ (x14 < 10) →
 Nd (ot2Inv [.lst x5] [.int 0, .int 0]) (
 ∀ x15 : Int,
 ∀ x16 : Int,
(ot2Inv [.lst x5] [.int x15, .int x16]) →
(((x15 < (x5.length : Int)) →
 Nd (¬ (x15 < 0)) (
 Nd (x15 < (x5.length : Int)) (
((((Sx.cellAt x5 x15 0).toInt < 1) →
 Nd ((Sx.cellAt x5 x15 0).toInt < 1) (
 Nd ((Sx.cellAt x5 x15 0).toInt < 1) (
 Nd ((Sx.cellAt x5 x15 0).toInt < 1) (
 Nd ((Sx.cellAt x5 x15 0).toInt < 1) (
 Nd ((Sx.cellAt x5 x15 0).toInt < 1) (
 Nd ((Sx.cellAt x5 x15 0).toInt < 1) (
 Nd ((Sx.cellAt x5 x15 0).toInt < 1) (
 Nd ((¬ ((x16 + 1) < (-9223372036854775808))) ∧ ((x16 + 1) < 9223372036854775808)) (
 Nd ((¬ ((x15 + 1) < (-9223372036854775808))) ∧ ((x15 + 1) < 9223372036854775808)) (
 Nd (ot2Inv [.lst x5] [.int (x15 + 1), .int (x16 + 1)]) (
 Nd (ot2Mu [.lst x5] [.int (x15 + 1), .int (x16 + 1)] < ot2Mu [.lst x5] [.int x15, .int x16]) (
 True)))))))))))) ∧ (¬ ((Sx.cellAt x5 x15 0).toInt < 1) →
 Nd (¬ ((Sx.cellAt x5 x15 0).toInt < 1)) (
 Nd (¬ ((Sx.cellAt x5 x15 0).toInt < 1)) (
 Nd (¬ ((Sx.cellAt x5 x15 0).toInt < 1)) (
 Nd (¬ (x15 < 0)) (
 Nd (x15 < (x5.length : Int)) (
 Nd (¬ ((Sx.cellAt x5 x15 0).toInt < 1)) (
 Nd (¬ ((Sx.cellAt x5 x15 0).toInt < 1)) (
 Nd (¬ ((Sx.cellAt x5 x15 0).toInt < 1)) (
 Nd (¬ ((Sx.cellAt x5 x15 0).toInt < 1)) (
(((3 < (Sx.cellAt x5 x15 0).toInt) →
 Nd ((¬ ((x16 + 1) < (-9223372036854775808))) ∧ ((x16 + 1) < 9223372036854775808)) (
 Nd ((¬ ((x15 + 1) < (-9223372036854775808))) ∧ ((x15 + 1) < 9223372036854775808)) (
 Nd (ot2Inv [.lst x5] [.int (x15 + 1), .int (x16 + 1)]) (
 Nd (ot2Mu [.lst x5] [.int (x15 + 1), .int (x16 + 1)] < ot2Mu [.lst x5] [.int x15, .int x16]) (
 True))))) ∧ (¬ (3 < (Sx.cellAt x5 x15 0).toInt) →
 Nd ((¬ ((x15 + 1) < (-9223372036854775808))) ∧ ((x15 + 1) < 9223372036854775808)) (
 Nd (ot2Inv [.lst x5] [.int (x15 + 1), .int x16]) (
 Nd (ot2Mu [.lst x5] [.int (x15 + 1), .int x16] < ot2Mu [.lst x5] [.int x15, .int x16]) (
 True))))))))))))))))))) ∧ (¬ (x15 < (x5.length : Int)) →
 Nd (nstaysPre [.lst x4, .lst x5]) (
 ∀ x17 : Int,
(nstaysRel [.lst x4, .lst x5] [.int x17]) →
 Nd (nbindsPre [.lst x4, .lst x5]) (
 ∀ x18 : Int,
(nbindsRel [.lst x4, .lst x5] [.int x18]) →
 Nd ((¬ ((x17 + x18) < (-9223372036854775808))) ∧ ((x17 + x18) < 9223372036854775808)) (
 Nd (nmakesPre [.lst x4, .lst x5]) (
 ∀ x19 : Int,
(nmakesRel [.lst x4, .lst x5] [.int x19]) →
 Nd ((¬ (((x17 + x18) + x19) < (-9223372036854775808))) ∧ (((x17 + x18) + x19) < 9223372036854775808)) (
 Nd ((¬ ((((x17 + x18) + x19) + x16) < (-9223372036854775808))) ∧ ((((x17 + x18) + x19) + x16) < 9223372036854775808)) (
((((((x17 + x18) + x19) + x16) = (x5.length : Int)) →
 Nd ((((x17 + x18) + x19) + x16) = (x5.length : Int)) (
 Nd (nmovesPre [.lst x4, .lst x5]) (
 ∀ x20 : Int,
(nmovesRel [.lst x4, .lst x5] [.int x20]) →
 Nd ((((x17 + x18) + x19) + x16) = (x5.length : Int)) (
 Nd ((((x17 + x18) + x19) + x16) = (x5.length : Int)) (
 Nd ((((x17 + x18) + x19) + x16) = (x5.length : Int)) (
 Nd ((((x17 + x18) + x19) + x16) = (x5.length : Int)) (
 Nd ((((x17 + x18) + x19) + x16) = (x5.length : Int)) (
((((x5.length : Int) < x20) →
 Nd ((x5.length : Int) < x20) (
 Nd ((x5.length : Int) < x20) (
 Nd ((x5.length : Int) < x20) (
 Nd ((x5.length : Int) < x20) (
 Nd ((x5.length : Int) < x20) (
 Nd ((x5.length : Int) < x20) (
 Nd (perrRel [.lst x0, .lst x1, .lst x2, .lst x3, .lst x4, .lst x5] [.bool false]) (
 True)))))))) ∧ (¬ ((x5.length : Int) < x20) →
 Nd (¬ ((x5.length : Int) < x20)) (
 Nd (ndropsPre [.lst x4, .lst x5]) (
 ∀ x21 : Int,
(ndropsRel [.lst x4, .lst x5] [.int x21]) →
 Nd (¬ ((x5.length : Int) < x20)) (
 Nd (¬ ((x5.length : Int) < x20)) (
 Nd (¬ ((x5.length : Int) < x20)) (
 Nd (¬ ((x5.length : Int) < x20)) (
 Nd (¬ ((x5.length : Int) < x20)) (
((((x4.length : Int) < x21) →
 Nd ((x4.length : Int) < x21) (
 Nd ((x4.length : Int) < x21) (
 Nd ((x4.length : Int) < x21) (
 Nd ((x4.length : Int) < x21) (
 Nd ((x4.length : Int) < x21) (
 Nd ((x4.length : Int) < x21) (
 Nd ((x4.length : Int) < x21) (
 Nd (perrRel [.lst x0, .lst x1, .lst x2, .lst x3, .lst x4, .lst x5] [.bool false]) (
 True))))))))) ∧ (¬ ((x4.length : Int) < x21) →
 Nd (¬ ((x4.length : Int) < x21)) (
 Nd (aheadPre [.lst x4, .lst x5]) (
 ∀ x22 : Sx.Rows,
(aheadRel [.lst x4, .lst x5] [.lst x22]) →
 Nd (¬ ((x4.length : Int) < x21)) (
 Nd (¬ ((x4.length : Int) < x21)) (
 Nd (¬ ((x4.length : Int) < x21)) (
 Nd (¬ ((x4.length : Int) < x21)) (
 Nd (¬ ((x4.length : Int) < x21)) (
 Nd (¬ ((x4.length : Int) < x21)) (
((((x22.length : Int) = (x5.length : Int)) →
 Nd (livesPre []) (
 ∀ x23 : Bool,
(livesRel [] [.bool x23]) →
 Nd ((x22.length : Int) = (x5.length : Int)) (
 Nd (perrRel [.lst x0, .lst x1, .lst x2, .lst x3, .lst x4, .lst x5] [.bool x23]) (
 True)))) ∧ (¬ ((x22.length : Int) = (x5.length : Int)) →
 Nd (¬ ((x22.length : Int) = (x5.length : Int))) (
 Nd (perrRel [.lst x0, .lst x1, .lst x2, .lst x3, .lst x4, .lst x5] [.bool false]) (
 True))))))))))))))))))))))))))))))) ∧ (¬ ((((x17 + x18) + x19) + x16) = (x5.length : Int)) →
 Nd (¬ ((((x17 + x18) + x19) + x16) = (x5.length : Int))) (
 Nd (¬ ((((x17 + x18) + x19) + x16) = (x5.length : Int))) (
 Nd (¬ ((((x17 + x18) + x19) + x16) = (x5.length : Int))) (
 Nd (¬ ((((x17 + x18) + x19) + x16) = (x5.length : Int))) (
 Nd (¬ ((((x17 + x18) + x19) + x16) = (x5.length : Int))) (
 Nd (¬ ((((x17 + x18) + x19) + x16) = (x5.length : Int))) (
 Nd (perrRel [.lst x0, .lst x1, .lst x2, .lst x3, .lst x4, .lst x5] [.bool false]) (
 True)))))))))))))))))))))))))))))))))))))))) ∧ (¬ (x6 = 0) →
 Nd (¬ (x6 = 0)) (
 Nd (¬ (x6 = 0)) (
 Nd (¬ (x6 = 0)) (
 Nd (¬ (x6 = 0)) (
 Nd (¬ (x6 = 0)) (
 Nd (¬ (x6 = 0)) (
 Nd (¬ (x6 = 0)) (
 Nd (¬ (x6 = 0)) (
 Nd (¬ (x6 = 0)) (
 Nd (¬ (x6 = 0)) (
 Nd (¬ (x6 = 0)) (
 Nd (¬ (x10 = 0)) (
 Nd (¬ (x6 = 0)) (
 Nd (¬ (x10 = 0)) (
 Nd (ty0Inv [] [.int (-1)]) (
 ∀ x11 : Int,
(ty0Inv [] [.int x11]) →
(((x11 < 10) →
 Nd (pcheckPre [.lst x0, .int x11]) (
 ∀ x12 : Int,
(pcheckRel [.lst x0, .int x11] [.int x12]) →
 Nd (rcheckPre [.lst x0, .int x11]) (
 ∀ x13 : Int,
(rcheckRel [.lst x0, .int x11] [.int x13]) →
(((x12 = x13) →
 Nd ((¬ ((x11 + 1) < (-9223372036854775808))) ∧ ((x11 + 1) < 9223372036854775808)) (
 Nd (ty0Inv [] [.int (x11 + 1)]) (
 Nd (ty0Mu [] [.int (x11 + 1)] < ty0Mu [] [.int x11]) (
 True)))) ∧ (¬ (x12 = x13) →
 Nd (perrRel [.lst x0, .lst x1, .lst x2, .lst x3, .lst x4, .lst x5] [.bool false]) (
 True)))))) ∧ (¬ (x11 < 10) →
 Nd (ot2Inv [.lst x5] [.int 0, .int 0]) (
 ∀ x12 : Int,
 ∀ x13 : Int,
(ot2Inv [.lst x5] [.int x12, .int x13]) →
(((x12 < (x5.length : Int)) →
 Nd (¬ (x12 < 0)) (
 Nd (x12 < (x5.length : Int)) (
((((Sx.cellAt x5 x12 0).toInt < 1) →
 Nd ((Sx.cellAt x5 x12 0).toInt < 1) (
 Nd ((Sx.cellAt x5 x12 0).toInt < 1) (
 Nd ((Sx.cellAt x5 x12 0).toInt < 1) (
 Nd ((Sx.cellAt x5 x12 0).toInt < 1) (
 Nd ((Sx.cellAt x5 x12 0).toInt < 1) (
 Nd ((Sx.cellAt x5 x12 0).toInt < 1) (
 Nd ((Sx.cellAt x5 x12 0).toInt < 1) (
 Nd ((¬ ((x13 + 1) < (-9223372036854775808))) ∧ ((x13 + 1) < 9223372036854775808)) (
 Nd ((¬ ((x12 + 1) < (-9223372036854775808))) ∧ ((x12 + 1) < 9223372036854775808)) (
 Nd (ot2Inv [.lst x5] [.int (x12 + 1), .int (x13 + 1)]) (
 Nd (ot2Mu [.lst x5] [.int (x12 + 1), .int (x13 + 1)] < ot2Mu [.lst x5] [.int x12, .int x13]) (
 True)))))))))))) ∧ (¬ ((Sx.cellAt x5 x12 0).toInt < 1) →
 Nd (¬ ((Sx.cellAt x5 x12 0).toInt < 1)) (
 Nd (¬ ((Sx.cellAt x5 x12 0).toInt < 1)) (
 Nd (¬ ((Sx.cellAt x5 x12 0).toInt < 1)) (
 Nd (¬ (x12 < 0)) (
 Nd (x12 < (x5.length : Int)) (
 Nd (¬ ((Sx.cellAt x5 x12 0).toInt < 1)) (
 Nd (¬ ((Sx.cellAt x5 x12 0).toInt < 1)) (
 Nd (¬ ((Sx.cellAt x5 x12 0).toInt < 1)) (
 Nd (¬ ((Sx.cellAt x5 x12 0).toInt < 1)) (
(((3 < (Sx.cellAt x5 x12 0).toInt) →
 Nd ((¬ ((x13 + 1) < (-9223372036854775808))) ∧ ((x13 + 1) < 9223372036854775808)) (
 Nd ((¬ ((x12 + 1) < (-9223372036854775808))) ∧ ((x12 + 1) < 9223372036854775808)) (
 Nd (ot2Inv [.lst x5] [.int (x12 + 1), .int (x13 + 1)]) (
 Nd (ot2Mu [.lst x5] [.int (x12 + 1), .int (x13 + 1)] < ot2Mu [.lst x5] [.int x12, .int x13]) (
 True))))) ∧ (¬ (3 < (Sx.cellAt x5 x12 0).toInt) →
 Nd ((¬ ((x12 + 1) < (-9223372036854775808))) ∧ ((x12 + 1) < 9223372036854775808)) (
 Nd (ot2Inv [.lst x5] [.int (x12 + 1), .int x13]) (
 Nd (ot2Mu [.lst x5] [.int (x12 + 1), .int x13] < ot2Mu [.lst x5] [.int x12, .int x13]) (
 True))))))))))))))))))) ∧ (¬ (x12 < (x5.length : Int)) →
 Nd (nstaysPre [.lst x4, .lst x5]) (
 ∀ x14 : Int,
(nstaysRel [.lst x4, .lst x5] [.int x14]) →
 Nd (nbindsPre [.lst x4, .lst x5]) (
 ∀ x15 : Int,
(nbindsRel [.lst x4, .lst x5] [.int x15]) →
 Nd ((¬ ((x14 + x15) < (-9223372036854775808))) ∧ ((x14 + x15) < 9223372036854775808)) (
 Nd (nmakesPre [.lst x4, .lst x5]) (
 ∀ x16 : Int,
(nmakesRel [.lst x4, .lst x5] [.int x16]) →
 Nd ((¬ (((x14 + x15) + x16) < (-9223372036854775808))) ∧ (((x14 + x15) + x16) < 9223372036854775808)) (
 Nd ((¬ ((((x14 + x15) + x16) + x13) < (-9223372036854775808))) ∧ ((((x14 + x15) + x16) + x13) < 9223372036854775808)) (
((((((x14 + x15) + x16) + x13) = (x5.length : Int)) →
 Nd ((((x14 + x15) + x16) + x13) = (x5.length : Int)) (
 Nd (nmovesPre [.lst x4, .lst x5]) (
 ∀ x17 : Int,
(nmovesRel [.lst x4, .lst x5] [.int x17]) →
 Nd ((((x14 + x15) + x16) + x13) = (x5.length : Int)) (
 Nd ((((x14 + x15) + x16) + x13) = (x5.length : Int)) (
 Nd ((((x14 + x15) + x16) + x13) = (x5.length : Int)) (
 Nd ((((x14 + x15) + x16) + x13) = (x5.length : Int)) (
 Nd ((((x14 + x15) + x16) + x13) = (x5.length : Int)) (
((((x5.length : Int) < x17) →
 Nd ((x5.length : Int) < x17) (
 Nd ((x5.length : Int) < x17) (
 Nd ((x5.length : Int) < x17) (
 Nd ((x5.length : Int) < x17) (
 Nd ((x5.length : Int) < x17) (
 Nd ((x5.length : Int) < x17) (
 Nd (perrRel [.lst x0, .lst x1, .lst x2, .lst x3, .lst x4, .lst x5] [.bool false]) (
 True)))))))) ∧ (¬ ((x5.length : Int) < x17) →
 Nd (¬ ((x5.length : Int) < x17)) (
 Nd (ndropsPre [.lst x4, .lst x5]) (
 ∀ x18 : Int,
(ndropsRel [.lst x4, .lst x5] [.int x18]) →
 Nd (¬ ((x5.length : Int) < x17)) (
 Nd (¬ ((x5.length : Int) < x17)) (
 Nd (¬ ((x5.length : Int) < x17)) (
 Nd (¬ ((x5.length : Int) < x17)) (
 Nd (¬ ((x5.length : Int) < x17)) (
((((x4.length : Int) < x18) →
 Nd ((x4.length : Int) < x18) (
 Nd ((x4.length : Int) < x18) (
 Nd ((x4.length : Int) < x18) (
 Nd ((x4.length : Int) < x18) (
 Nd ((x4.length : Int) < x18) (
 Nd ((x4.length : Int) < x18) (
 Nd ((x4.length : Int) < x18) (
 Nd (perrRel [.lst x0, .lst x1, .lst x2, .lst x3, .lst x4, .lst x5] [.bool false]) (
 True))))))))) ∧ (¬ ((x4.length : Int) < x18) →
 Nd (¬ ((x4.length : Int) < x18)) (
 Nd (aheadPre [.lst x4, .lst x5]) (
 ∀ x19 : Sx.Rows,
(aheadRel [.lst x4, .lst x5] [.lst x19]) →
 Nd (¬ ((x4.length : Int) < x18)) (
 Nd (¬ ((x4.length : Int) < x18)) (
 Nd (¬ ((x4.length : Int) < x18)) (
 Nd (¬ ((x4.length : Int) < x18)) (
 Nd (¬ ((x4.length : Int) < x18)) (
 Nd (¬ ((x4.length : Int) < x18)) (
((((x19.length : Int) = (x5.length : Int)) →
 Nd (livesPre []) (
 ∀ x20 : Bool,
(livesRel [] [.bool x20]) →
 Nd ((x19.length : Int) = (x5.length : Int)) (
 Nd (perrRel [.lst x0, .lst x1, .lst x2, .lst x3, .lst x4, .lst x5] [.bool x20]) (
 True)))) ∧ (¬ ((x19.length : Int) = (x5.length : Int)) →
 Nd (¬ ((x19.length : Int) = (x5.length : Int))) (
 Nd (perrRel [.lst x0, .lst x1, .lst x2, .lst x3, .lst x4, .lst x5] [.bool false]) (
 True))))))))))))))))))))))))))))))) ∧ (¬ ((((x14 + x15) + x16) + x13) = (x5.length : Int)) →
 Nd (¬ ((((x14 + x15) + x16) + x13) = (x5.length : Int))) (
 Nd (¬ ((((x14 + x15) + x16) + x13) = (x5.length : Int))) (
 Nd (¬ ((((x14 + x15) + x16) + x13) = (x5.length : Int))) (
 Nd (¬ ((((x14 + x15) + x16) + x13) = (x5.length : Int))) (
 Nd (¬ ((((x14 + x15) + x16) + x13) = (x5.length : Int))) (
 Nd (¬ ((((x14 + x15) + x16) + x13) = (x5.length : Int))) (
 Nd (perrRel [.lst x0, .lst x1, .lst x2, .lst x3, .lst x4, .lst x5] [.bool false]) (
 True))))))))))))))))))))))))))))))))))))))))))))))))) ∧ (¬ (0 < x6) →
 Nd (¬ (0 < x6)) (
 Nd (¬ (0 < x6)) (
 Nd (¬ (0 < x6)) (
 Nd (x9 = x6) (
 Nd (¬ (0 < x6)) (
 Nd (x9 = x6) (
(((x6 = 0) →
 Nd (x6 = 0) (
 Nd (x6 = 0) (
 Nd (x6 = 0) (
 Nd (x6 = 0) (
 Nd (x6 = 0) (
 Nd (x6 = 0) (
 Nd (x6 = 0) (
 Nd (x6 = 0) (
 Nd (x6 = 0) (
 Nd (rofPre [.lst x0, .lst x1, .lst x2, .lst x3]) (
 ∀ x10 : Sx.Rows,
 ∀ x11 : Sx.Rows,
(rofRel [.lst x0, .lst x1, .lst x2, .lst x3] [.lst x10, .lst x11]) →
 Nd (x6 = 0) (
 Nd (peqPre [.lst x7, .lst x8, .lst x10, .lst x11]) (
 ∀ x12 : Int,
(peqRel [.lst x7, .lst x8, .lst x10, .lst x11] [.int x12]) →
 Nd (x6 = 0) (
 Nd (x6 = 0) (
(((x12 = 0) →
 Nd (perrRel [.lst x0, .lst x1, .lst x2, .lst x3, .lst x4, .lst x5] [.bool false]) (
 True)) ∧ (¬ (x12 = 0) →
 Nd (ty0Inv [] [.int (-1)]) (
 ∀ x13 : Int,
(ty0Inv [] [.int x13]) →
(((x13 < 10) →
 Nd (pcheckPre [.lst x0, .int x13]) (
 ∀ x14 : Int,
(pcheckRel [.lst x0, .int x13] [.int x14]) →
 Nd (rcheckPre [.lst x0, .int x13]) (
 ∀ x15 : Int,
(rcheckRel [.lst x0, .int x13] [.int x15]) →
(((x14 = x15) →
 Nd ((¬ ((x13 + 1) < (-9223372036854775808))) ∧ ((x13 + 1) < 9223372036854775808)) (
 Nd (ty0Inv [] [.int (x13 + 1)]) (
 Nd (ty0Mu [] [.int (x13 + 1)] < ty0Mu [] [.int x13]) (
 True)))) ∧ (¬ (x14 = x15) →
 Nd (perrRel [.lst x0, .lst x1, .lst x2, .lst x3, .lst x4, .lst x5] [.bool false]) (
 True)))))) ∧ (¬ (x13 < 10) →
 Nd (ot2Inv [.lst x5] [.int 0, .int 0]) (
 ∀ x14 : Int,
 ∀ x15 : Int,
(ot2Inv [.lst x5] [.int x14, .int x15]) →
(((x14 < (x5.length : Int)) →
 Nd (¬ (x14 < 0)) (
 Nd (x14 < (x5.length : Int)) (
((((Sx.cellAt x5 x14 0).toInt < 1) →
 Nd ((Sx.cellAt x5 x14 0).toInt < 1) (
 Nd ((Sx.cellAt x5 x14 0).toInt < 1) (
 Nd ((Sx.cellAt x5 x14 0).toInt < 1) (
 Nd ((Sx.cellAt x5 x14 0).toInt < 1) (
 Nd ((Sx.cellAt x5 x14 0).toInt < 1) (
 Nd ((Sx.cellAt x5 x14 0).toInt < 1) (
 Nd ((Sx.cellAt x5 x14 0).toInt < 1) (
 Nd ((¬ ((x15 + 1) < (-9223372036854775808))) ∧ ((x15 + 1) < 9223372036854775808)) (
 Nd ((¬ ((x14 + 1) < (-9223372036854775808))) ∧ ((x14 + 1) < 9223372036854775808)) (
 Nd (ot2Inv [.lst x5] [.int (x14 + 1), .int (x15 + 1)]) (
 Nd (ot2Mu [.lst x5] [.int (x14 + 1), .int (x15 + 1)] < ot2Mu [.lst x5] [.int x14, .int x15]) (
 True)))))))))))) ∧ (¬ ((Sx.cellAt x5 x14 0).toInt < 1) →
 Nd (¬ ((Sx.cellAt x5 x14 0).toInt < 1)) (
 Nd (¬ ((Sx.cellAt x5 x14 0).toInt < 1)) (
 Nd (¬ ((Sx.cellAt x5 x14 0).toInt < 1)) (
 Nd (¬ (x14 < 0)) (
 Nd (x14 < (x5.length : Int)) (
 Nd (¬ ((Sx.cellAt x5 x14 0).toInt < 1)) (
 Nd (¬ ((Sx.cellAt x5 x14 0).toInt < 1)) (
 Nd (¬ ((Sx.cellAt x5 x14 0).toInt < 1)) (
 Nd (¬ ((Sx.cellAt x5 x14 0).toInt < 1)) (
(((3 < (Sx.cellAt x5 x14 0).toInt) →
 Nd ((¬ ((x15 + 1) < (-9223372036854775808))) ∧ ((x15 + 1) < 9223372036854775808)) (
 Nd ((¬ ((x14 + 1) < (-9223372036854775808))) ∧ ((x14 + 1) < 9223372036854775808)) (
 Nd (ot2Inv [.lst x5] [.int (x14 + 1), .int (x15 + 1)]) (
 Nd (ot2Mu [.lst x5] [.int (x14 + 1), .int (x15 + 1)] < ot2Mu [.lst x5] [.int x14, .int x15]) (
 True))))) ∧ (¬ (3 < (Sx.cellAt x5 x14 0).toInt) →
 Nd ((¬ ((x14 + 1) < (-9223372036854775808))) ∧ ((x14 + 1) < 9223372036854775808)) (
 Nd (ot2Inv [.lst x5] [.int (x14 + 1), .int x15]) (
 Nd (ot2Mu [.lst x5] [.int (x14 + 1), .int x15] < ot2Mu [.lst x5] [.int x14, .int x15]) (
 True))))))))))))))))))) ∧ (¬ (x14 < (x5.length : Int)) →
 Nd (nstaysPre [.lst x4, .lst x5]) (
 ∀ x16 : Int,
(nstaysRel [.lst x4, .lst x5] [.int x16]) →
 Nd (nbindsPre [.lst x4, .lst x5]) (
 ∀ x17 : Int,
(nbindsRel [.lst x4, .lst x5] [.int x17]) →
 Nd ((¬ ((x16 + x17) < (-9223372036854775808))) ∧ ((x16 + x17) < 9223372036854775808)) (
 Nd (nmakesPre [.lst x4, .lst x5]) (
 ∀ x18 : Int,
(nmakesRel [.lst x4, .lst x5] [.int x18]) →
 Nd ((¬ (((x16 + x17) + x18) < (-9223372036854775808))) ∧ (((x16 + x17) + x18) < 9223372036854775808)) (
 Nd ((¬ ((((x16 + x17) + x18) + x15) < (-9223372036854775808))) ∧ ((((x16 + x17) + x18) + x15) < 9223372036854775808)) (
((((((x16 + x17) + x18) + x15) = (x5.length : Int)) →
 Nd ((((x16 + x17) + x18) + x15) = (x5.length : Int)) (
 Nd (nmovesPre [.lst x4, .lst x5]) (
 ∀ x19 : Int,
(nmovesRel [.lst x4, .lst x5] [.int x19]) →
 Nd ((((x16 + x17) + x18) + x15) = (x5.length : Int)) (
 Nd ((((x16 + x17) + x18) + x15) = (x5.length : Int)) (
 Nd ((((x16 + x17) + x18) + x15) = (x5.length : Int)) (
 Nd ((((x16 + x17) + x18) + x15) = (x5.length : Int)) (
 Nd ((((x16 + x17) + x18) + x15) = (x5.length : Int)) (
((((x5.length : Int) < x19) →
 Nd ((x5.length : Int) < x19) (
 Nd ((x5.length : Int) < x19) (
 Nd ((x5.length : Int) < x19) (
 Nd ((x5.length : Int) < x19) (
 Nd ((x5.length : Int) < x19) (
 Nd ((x5.length : Int) < x19) (
 Nd (perrRel [.lst x0, .lst x1, .lst x2, .lst x3, .lst x4, .lst x5] [.bool false]) (
 True)))))))) ∧ (¬ ((x5.length : Int) < x19) →
 Nd (¬ ((x5.length : Int) < x19)) (
 Nd (ndropsPre [.lst x4, .lst x5]) (
 ∀ x20 : Int,
(ndropsRel [.lst x4, .lst x5] [.int x20]) →
 Nd (¬ ((x5.length : Int) < x19)) (
 Nd (¬ ((x5.length : Int) < x19)) (
 Nd (¬ ((x5.length : Int) < x19)) (
 Nd (¬ ((x5.length : Int) < x19)) (
 Nd (¬ ((x5.length : Int) < x19)) (
((((x4.length : Int) < x20) →
 Nd ((x4.length : Int) < x20) (
 Nd ((x4.length : Int) < x20) (
 Nd ((x4.length : Int) < x20) (
 Nd ((x4.length : Int) < x20) (
 Nd ((x4.length : Int) < x20) (
 Nd ((x4.length : Int) < x20) (
 Nd ((x4.length : Int) < x20) (
 Nd (perrRel [.lst x0, .lst x1, .lst x2, .lst x3, .lst x4, .lst x5] [.bool false]) (
 True))))))))) ∧ (¬ ((x4.length : Int) < x20) →
 Nd (¬ ((x4.length : Int) < x20)) (
 Nd (aheadPre [.lst x4, .lst x5]) (
 ∀ x21 : Sx.Rows,
(aheadRel [.lst x4, .lst x5] [.lst x21]) →
 Nd (¬ ((x4.length : Int) < x20)) (
 Nd (¬ ((x4.length : Int) < x20)) (
 Nd (¬ ((x4.length : Int) < x20)) (
 Nd (¬ ((x4.length : Int) < x20)) (
 Nd (¬ ((x4.length : Int) < x20)) (
 Nd (¬ ((x4.length : Int) < x20)) (
((((x21.length : Int) = (x5.length : Int)) →
 Nd (livesPre []) (
 ∀ x22 : Bool,
(livesRel [] [.bool x22]) →
 Nd ((x21.length : Int) = (x5.length : Int)) (
 Nd (perrRel [.lst x0, .lst x1, .lst x2, .lst x3, .lst x4, .lst x5] [.bool x22]) (
 True)))) ∧ (¬ ((x21.length : Int) = (x5.length : Int)) →
 Nd (¬ ((x21.length : Int) = (x5.length : Int))) (
 Nd (perrRel [.lst x0, .lst x1, .lst x2, .lst x3, .lst x4, .lst x5] [.bool false]) (
 True))))))))))))))))))))))))))))))) ∧ (¬ ((((x16 + x17) + x18) + x15) = (x5.length : Int)) →
 Nd (¬ ((((x16 + x17) + x18) + x15) = (x5.length : Int))) (
 Nd (¬ ((((x16 + x17) + x18) + x15) = (x5.length : Int))) (
 Nd (¬ ((((x16 + x17) + x18) + x15) = (x5.length : Int))) (
 Nd (¬ ((((x16 + x17) + x18) + x15) = (x5.length : Int))) (
 Nd (¬ ((((x16 + x17) + x18) + x15) = (x5.length : Int))) (
 Nd (¬ ((((x16 + x17) + x18) + x15) = (x5.length : Int))) (
 Nd (perrRel [.lst x0, .lst x1, .lst x2, .lst x3, .lst x4, .lst x5] [.bool false]) (
 True)))))))))))))))))))))))))))))))))))))) ∧ (¬ (x6 = 0) →
 Nd (¬ (x6 = 0)) (
 Nd (¬ (x6 = 0)) (
 Nd (¬ (x6 = 0)) (
 Nd (¬ (x6 = 0)) (
 Nd (¬ (x6 = 0)) (
 Nd (¬ (x6 = 0)) (
 Nd (¬ (x6 = 0)) (
 Nd (¬ (x6 = 0)) (
 Nd (¬ (x6 = 0)) (
 Nd (¬ (x6 = 0)) (
 Nd (¬ (x6 = 0)) (
 Nd (¬ (x6 = 0)) (
 Nd (ty0Inv [] [.int (-1)]) (
 ∀ x10 : Int,
(ty0Inv [] [.int x10]) →
(((x10 < 10) →
 Nd (pcheckPre [.lst x0, .int x10]) (
 ∀ x11 : Int,
(pcheckRel [.lst x0, .int x10] [.int x11]) →
 Nd (rcheckPre [.lst x0, .int x10]) (
 ∀ x12 : Int,
(rcheckRel [.lst x0, .int x10] [.int x12]) →
(((x11 = x12) →
 Nd ((¬ ((x10 + 1) < (-9223372036854775808))) ∧ ((x10 + 1) < 9223372036854775808)) (
 Nd (ty0Inv [] [.int (x10 + 1)]) (
 Nd (ty0Mu [] [.int (x10 + 1)] < ty0Mu [] [.int x10]) (
 True)))) ∧ (¬ (x11 = x12) →
 Nd (perrRel [.lst x0, .lst x1, .lst x2, .lst x3, .lst x4, .lst x5] [.bool false]) (
 True)))))) ∧ (¬ (x10 < 10) →
 Nd (ot2Inv [.lst x5] [.int 0, .int 0]) (
 ∀ x11 : Int,
 ∀ x12 : Int,
(ot2Inv [.lst x5] [.int x11, .int x12]) →
(((x11 < (x5.length : Int)) →
 Nd (¬ (x11 < 0)) (
 Nd (x11 < (x5.length : Int)) (
((((Sx.cellAt x5 x11 0).toInt < 1) →
 Nd ((Sx.cellAt x5 x11 0).toInt < 1) (
 Nd ((Sx.cellAt x5 x11 0).toInt < 1) (
 Nd ((Sx.cellAt x5 x11 0).toInt < 1) (
 Nd ((Sx.cellAt x5 x11 0).toInt < 1) (
 Nd ((Sx.cellAt x5 x11 0).toInt < 1) (
 Nd ((Sx.cellAt x5 x11 0).toInt < 1) (
 Nd ((Sx.cellAt x5 x11 0).toInt < 1) (
 Nd ((¬ ((x12 + 1) < (-9223372036854775808))) ∧ ((x12 + 1) < 9223372036854775808)) (
 Nd ((¬ ((x11 + 1) < (-9223372036854775808))) ∧ ((x11 + 1) < 9223372036854775808)) (
 Nd (ot2Inv [.lst x5] [.int (x11 + 1), .int (x12 + 1)]) (
 Nd (ot2Mu [.lst x5] [.int (x11 + 1), .int (x12 + 1)] < ot2Mu [.lst x5] [.int x11, .int x12]) (
 True)))))))))))) ∧ (¬ ((Sx.cellAt x5 x11 0).toInt < 1) →
 Nd (¬ ((Sx.cellAt x5 x11 0).toInt < 1)) (
 Nd (¬ ((Sx.cellAt x5 x11 0).toInt < 1)) (
 Nd (¬ ((Sx.cellAt x5 x11 0).toInt < 1)) (
 Nd (¬ (x11 < 0)) (
 Nd (x11 < (x5.length : Int)) (
 Nd (¬ ((Sx.cellAt x5 x11 0).toInt < 1)) (
 Nd (¬ ((Sx.cellAt x5 x11 0).toInt < 1)) (
 Nd (¬ ((Sx.cellAt x5 x11 0).toInt < 1)) (
 Nd (¬ ((Sx.cellAt x5 x11 0).toInt < 1)) (
(((3 < (Sx.cellAt x5 x11 0).toInt) →
 Nd ((¬ ((x12 + 1) < (-9223372036854775808))) ∧ ((x12 + 1) < 9223372036854775808)) (
 Nd ((¬ ((x11 + 1) < (-9223372036854775808))) ∧ ((x11 + 1) < 9223372036854775808)) (
 Nd (ot2Inv [.lst x5] [.int (x11 + 1), .int (x12 + 1)]) (
 Nd (ot2Mu [.lst x5] [.int (x11 + 1), .int (x12 + 1)] < ot2Mu [.lst x5] [.int x11, .int x12]) (
 True))))) ∧ (¬ (3 < (Sx.cellAt x5 x11 0).toInt) →
 Nd ((¬ ((x11 + 1) < (-9223372036854775808))) ∧ ((x11 + 1) < 9223372036854775808)) (
 Nd (ot2Inv [.lst x5] [.int (x11 + 1), .int x12]) (
 Nd (ot2Mu [.lst x5] [.int (x11 + 1), .int x12] < ot2Mu [.lst x5] [.int x11, .int x12]) (
 True))))))))))))))))))) ∧ (¬ (x11 < (x5.length : Int)) →
 Nd (nstaysPre [.lst x4, .lst x5]) (
 ∀ x13 : Int,
(nstaysRel [.lst x4, .lst x5] [.int x13]) →
 Nd (nbindsPre [.lst x4, .lst x5]) (
 ∀ x14 : Int,
(nbindsRel [.lst x4, .lst x5] [.int x14]) →
 Nd ((¬ ((x13 + x14) < (-9223372036854775808))) ∧ ((x13 + x14) < 9223372036854775808)) (
 Nd (nmakesPre [.lst x4, .lst x5]) (
 ∀ x15 : Int,
(nmakesRel [.lst x4, .lst x5] [.int x15]) →
 Nd ((¬ (((x13 + x14) + x15) < (-9223372036854775808))) ∧ (((x13 + x14) + x15) < 9223372036854775808)) (
 Nd ((¬ ((((x13 + x14) + x15) + x12) < (-9223372036854775808))) ∧ ((((x13 + x14) + x15) + x12) < 9223372036854775808)) (
((((((x13 + x14) + x15) + x12) = (x5.length : Int)) →
 Nd ((((x13 + x14) + x15) + x12) = (x5.length : Int)) (
 Nd (nmovesPre [.lst x4, .lst x5]) (
 ∀ x16 : Int,
(nmovesRel [.lst x4, .lst x5] [.int x16]) →
 Nd ((((x13 + x14) + x15) + x12) = (x5.length : Int)) (
 Nd ((((x13 + x14) + x15) + x12) = (x5.length : Int)) (
 Nd ((((x13 + x14) + x15) + x12) = (x5.length : Int)) (
 Nd ((((x13 + x14) + x15) + x12) = (x5.length : Int)) (
 Nd ((((x13 + x14) + x15) + x12) = (x5.length : Int)) (
((((x5.length : Int) < x16) →
 Nd ((x5.length : Int) < x16) (
 Nd ((x5.length : Int) < x16) (
 Nd ((x5.length : Int) < x16) (
 Nd ((x5.length : Int) < x16) (
 Nd ((x5.length : Int) < x16) (
 Nd ((x5.length : Int) < x16) (
 Nd (perrRel [.lst x0, .lst x1, .lst x2, .lst x3, .lst x4, .lst x5] [.bool false]) (
 True)))))))) ∧ (¬ ((x5.length : Int) < x16) →
 Nd (¬ ((x5.length : Int) < x16)) (
 Nd (ndropsPre [.lst x4, .lst x5]) (
 ∀ x17 : Int,
(ndropsRel [.lst x4, .lst x5] [.int x17]) →
 Nd (¬ ((x5.length : Int) < x16)) (
 Nd (¬ ((x5.length : Int) < x16)) (
 Nd (¬ ((x5.length : Int) < x16)) (
 Nd (¬ ((x5.length : Int) < x16)) (
 Nd (¬ ((x5.length : Int) < x16)) (
((((x4.length : Int) < x17) →
 Nd ((x4.length : Int) < x17) (
 Nd ((x4.length : Int) < x17) (
 Nd ((x4.length : Int) < x17) (
 Nd ((x4.length : Int) < x17) (
 Nd ((x4.length : Int) < x17) (
 Nd ((x4.length : Int) < x17) (
 Nd ((x4.length : Int) < x17) (
 Nd (perrRel [.lst x0, .lst x1, .lst x2, .lst x3, .lst x4, .lst x5] [.bool false]) (
 True))))))))) ∧ (¬ ((x4.length : Int) < x17) →
 Nd (¬ ((x4.length : Int) < x17)) (
 Nd (aheadPre [.lst x4, .lst x5]) (
 ∀ x18 : Sx.Rows,
(aheadRel [.lst x4, .lst x5] [.lst x18]) →
 Nd (¬ ((x4.length : Int) < x17)) (
 Nd (¬ ((x4.length : Int) < x17)) (
 Nd (¬ ((x4.length : Int) < x17)) (
 Nd (¬ ((x4.length : Int) < x17)) (
 Nd (¬ ((x4.length : Int) < x17)) (
 Nd (¬ ((x4.length : Int) < x17)) (
((((x18.length : Int) = (x5.length : Int)) →
 Nd (livesPre []) (
 ∀ x19 : Bool,
(livesRel [] [.bool x19]) →
 Nd ((x18.length : Int) = (x5.length : Int)) (
 Nd (perrRel [.lst x0, .lst x1, .lst x2, .lst x3, .lst x4, .lst x5] [.bool x19]) (
 True)))) ∧ (¬ ((x18.length : Int) = (x5.length : Int)) →
 Nd (¬ ((x18.length : Int) = (x5.length : Int))) (
 Nd (perrRel [.lst x0, .lst x1, .lst x2, .lst x3, .lst x4, .lst x5] [.bool false]) (
 True))))))))))))))))))))))))))))))) ∧ (¬ ((((x13 + x14) + x15) + x12) = (x5.length : Int)) →
 Nd (¬ ((((x13 + x14) + x15) + x12) = (x5.length : Int))) (
 Nd (¬ ((((x13 + x14) + x15) + x12) = (x5.length : Int))) (
 Nd (¬ ((((x13 + x14) + x15) + x12) = (x5.length : Int))) (
 Nd (¬ ((((x13 + x14) + x15) + x12) = (x5.length : Int))) (
 Nd (¬ ((((x13 + x14) + x15) + x12) = (x5.length : Int))) (
 Nd (¬ ((((x13 + x14) + x15) + x12) = (x5.length : Int))) (
 Nd (perrRel [.lst x0, .lst x1, .lst x2, .lst x3, .lst x4, .lst x5] [.bool false]) (
 True)))))))))))))))))))))))))))))))))))))))))))))) ∧ (¬ (x9 = x6) →
 Nd (¬ (x9 = x6)) (
 Nd (¬ (x9 = x6)) (
 Nd (¬ (x9 = x6)) (
 Nd (¬ (x9 = x6)) (
 Nd (perrRel [.lst x0, .lst x1, .lst x2, .lst x3, .lst x4, .lst x5] [.bool false]) (
 True)))))))))))))))))))))))))))))))))))))))))
theorem vcPerr_eq : (cvc Go.Proofs.Try.prog U0 cPerr (sxF Go.Proofs.Try.prog U0 annsE (conOf Go.Proofs.Try.prog U0 (stageE 1)) 400 6)).vc U0 (fun _ => True) = vcPerr := by kernel_rfl
end Go.C36
