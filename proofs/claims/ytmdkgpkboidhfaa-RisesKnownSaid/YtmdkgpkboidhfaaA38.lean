/- The conditions of contracts, as the engine's printer has written them, and that the kernel comes to the same.
  Conditions: none. -/
import Derived.Test.YtmdkgpkboidhfaaA37
import Derived.Test.YtmdkgpkboidhfaaRows
import Derived.KernelRfl
set_option linter.unusedVariables false
set_option maxRecDepth 100000
namespace Go.C08
open Go Go.Xe Go.Sx
def vcLongx0 (x3 : Int) (x4 : Int) (x5 : Sx.Rows) : Prop :=
 Nd ((x5.length : Int)=(x5.length : Int)) (
 Nd ((¬ ((x4+(-1)) < (-9223372036854775808)))∧((x4+(-1)) < 9223372036854775808)) (
 Nd ((¬ ((x3+1) < (-9223372036854775808)))∧((x3+1) < 9223372036854775808)) (
 Nd (¬ (((x5.length : Int)+1) < ((x5.length : Int)+1))) (
 Nd (((x5.length : Int)+1)=((x5.length : Int)+1)) (
 False )))))
def vcLongx1 (x0 : Sx.Rows) (x1 : Sx.Rows) (x2 : Int) (x3 : Int) (x4 : Int) (x5 : Sx.Rows) : Prop :=
 Nd (¬ (x2 < x2)) (
 Nd ((¬ ((x4+(-1)) < (-9223372036854775808)))∧((x4+(-1)) < 9223372036854775808)) (
 Nd ((¬ ((x3+1) < (-9223372036854775808)))∧((x3+1) < 9223372036854775808)) (
 Nd (¬ (((Sx.over x5 (x5.length : Int) (Sx.chunk 1 1 [(.int x3)])).length : Int) < ((x5.length : Int)+1))) (
 Nd (x2=x2) (
 Nd (¬ (x2 < x2)) (
 Nd (pickInv [.lst x0, .lst x1] [.int (x3+1), .int (x4+(-1)), .lst (Sx.part (Sx.over x5 (x5.length : Int) (Sx.chunk 1 1 [(.int x3)])) 0 ((x5.length : Int)+1))]) (
 Nd (pickMu [.lst x0, .lst x1] [.int (x3+1), .int (x4+(-1)), .lst (Sx.part (Sx.over x5 (x5.length : Int) (Sx.chunk 1 1 [(.int x3)])) 0 ((x5.length : Int)+1))] < pickMu [.lst x0, .lst x1] [.int x3, .int x4, .lst x5]) (
 True))))))))
def vcLongx : Prop :=
 ∀ x0 : Sx.Rows,
(longxPre [.lst x0]) →
(((4096 < (x0.length : Int)) →
 Nd (longxRel [.lst x0] [.lst ([] : Sx.Rows), .int 3]) (
 True))∧(¬ (4096 < (x0.length : Int)) →
((((x0.length : Int)=0) →
 Nd (longxRel [.lst x0] [.lst ([] : Sx.Rows), .int 0]) (
 True))∧(¬ ((x0.length : Int)=0) →
 Nd (lenPre [.lst x0]) (
 ∀ x1 : Sx.Rows,
(lenRel [.lst x0] [.lst x1]) →
 Nd (¬ ((x1.length : Int) < (x1.length : Int))) (
 Nd ((x1.length : Int)=(x1.length : Int)) (
 Nd (maxPre [.lst x1]) (
 ∀ x2 : Int,
(maxRel [.lst x1] [.int x2]) →
 Nd (¬ (x2 < 0)) (
 Nd (x2 < 1048577) (
 Nd (¬ (((List.replicate (x2).toNat [(.int (0))] : Sx.Rows).length : Int) < 0)) (
 Nd (x2=x2) (
 Nd (¬ (x2 < x2)) (
 Nd (pickInv [.lst x0, .lst x1] [.int 0, .int x2, .lst (Sx.part (List.replicate (x2).toNat [(.int (0))] : Sx.Rows) 0 0)]) (
 ∀ x3 : Int,
 ∀ x4 : Int,
 ∀ x5 : Sx.Rows,
(pickInv [.lst x0, .lst x1] [.int x3, .int x4, .lst x5]) →
(((x3 < (x0.length : Int)) →
 Nd (¬ (x3 < 0)) (
 Nd (x3 < (x0.length : Int)) (
(((x4=0) →
 Nd (x2=(x5.length : Int)) (
 Nd (¬ ((x5.length : Int) < (x5.length : Int))) (
 Nd ((x5.length : Int)=(x5.length : Int)) (
 Nd (longxRel [.lst x0] [.lst x5, .int 0]) (
 True)))))∧(¬ (x4=0) →
 Nd (¬ (x3 < 0)) (
 Nd (x3 < (x1.length : Int)) (
 Nd (x3 < (x1.length : Int)) (
((((Sx.cellAt x1 x3 0).toInt=x4) →
 Nd ((Sx.cellAt x1 x3 0).toInt=x4) (
 Nd ((Sx.cellAt x1 x3 0).toInt=x4) (
 Nd ((Sx.cellAt x1 x3 0).toInt=x4) (
(((0 < (x5.length : Int)) →
 Nd (0 < (x5.length : Int)) (
 Nd (0 < (x5.length : Int)) (
 Nd (0 < (x5.length : Int)) (
 Nd (0 < (x5.length : Int)) (
 Nd ((¬ (((x5.length : Int)+(-1)) < (-9223372036854775808)))∧(((x5.length : Int)+(-1)) < 9223372036854775808)) (
 Nd (0 < (x5.length : Int)) (
 Nd (¬ (((x5.length : Int)+(-1)) < 0)) (
 Nd (((x5.length : Int)+(-1)) < (x5.length : Int)) (
 Nd (0 < (x5.length : Int)) (
 Nd (((x5.length : Int)+(-1)) < (x5.length : Int)) (
 Nd (0 < (x5.length : Int)) (
 Nd (¬ ((Sx.cellAt x5 ((x5.length : Int)+(-1)) 0).toInt < 0)) (
 Nd ((Sx.cellAt x5 ((x5.length : Int)+(-1)) 0).toInt < (x0.length : Int)) (
 Nd (0 < (x5.length : Int)) (
 Nd (0 < (x5.length : Int)) (
 Nd (0 < (x5.length : Int)) (
 Nd ((Sx.cellAt x1 x3 0).toInt=x4) (
 Nd (0 < (x5.length : Int)) (
 Nd ((Sx.cellAt x1 x3 0).toInt=x4) (
((((Sx.cellAt x0 (Sx.cellAt x5 ((x5.length : Int)+(-1)) 0).toInt 0).toInt < (Sx.cellAt x0 x3 0).toInt) →
 Nd (¬ ((x5.length : Int) < (x5.length : Int))) (
 Nd (((x5.length : Int)+1) < 67108865) (
(((x2 < ((x5.length : Int)+1)) →
(vcLongx0 x3 x4 x5))∧(¬ (x2 < ((x5.length : Int)+1)) →
(vcLongx1 x0 x1 x2 x3 x4 x5))))))∧(¬ ((Sx.cellAt x0 (Sx.cellAt x5 ((x5.length : Int)+(-1)) 0).toInt 0).toInt < (Sx.cellAt x0 x3 0).toInt) →
 Nd ((¬ ((x3+1) < (-9223372036854775808)))∧((x3+1) < 9223372036854775808)) (
 Nd (¬ ((x5.length : Int) < (x5.length : Int))) (
 Nd ((x5.length : Int)=(x5.length : Int)) (
 Nd (x2=x2) (
 Nd (¬ (x2 < x2)) (
 Nd (pickInv [.lst x0, .lst x1] [.int (x3+1), .int x4, .lst x5]) (
 Nd (pickMu [.lst x0, .lst x1] [.int (x3+1), .int x4, .lst x5] < pickMu [.lst x0, .lst x1] [.int x3, .int x4, .lst x5]) (
 True)))))))))))))))))))))))))))))∧(¬ (0 < (x5.length : Int)) →
 Nd (¬ (0 < (x5.length : Int))) (
 Nd (¬ (0 < (x5.length : Int))) (
 Nd (¬ (0 < (x5.length : Int))) (
 Nd (¬ (0 < (x5.length : Int))) (
 Nd (¬ (0 < (x5.length : Int))) (
 Nd (¬ (0 < (x5.length : Int))) (
 Nd (¬ (0 < (x5.length : Int))) (
 Nd (¬ (0 < (x5.length : Int))) (
 Nd (¬ (0 < (x5.length : Int))) (
 Nd (¬ (0 < (x5.length : Int))) (
 Nd ((Sx.cellAt x1 x3 0).toInt=x4) (
 Nd (¬ (0 < (x5.length : Int))) (
 Nd ((Sx.cellAt x1 x3 0).toInt=x4) (
 Nd (¬ ((x5.length : Int) < (x5.length : Int))) (
 Nd (((x5.length : Int)+1) < 67108865) (
(((x2 < ((x5.length : Int)+1)) →
(vcLongx0 x3 x4 x5))∧(¬ (x2 < ((x5.length : Int)+1)) →
(vcLongx1 x0 x1 x2 x3 x4 x5))))))))))))))))))))))))∧(¬ ((Sx.cellAt x1 x3 0).toInt=x4) →
 Nd (¬ ((Sx.cellAt x1 x3 0).toInt=x4)) (
 Nd (¬ ((Sx.cellAt x1 x3 0).toInt=x4)) (
 Nd (¬ ((Sx.cellAt x1 x3 0).toInt=x4)) (
 Nd (¬ ((Sx.cellAt x1 x3 0).toInt=x4)) (
 Nd (¬ ((Sx.cellAt x1 x3 0).toInt=x4)) (
 Nd ((¬ ((x3+1) < (-9223372036854775808)))∧((x3+1) < 9223372036854775808)) (
 Nd (¬ ((x5.length : Int) < (x5.length : Int))) (
 Nd ((x5.length : Int)=(x5.length : Int)) (
 Nd (x2=x2) (
 Nd (¬ (x2 < x2)) (
 Nd (pickInv [.lst x0, .lst x1] [.int (x3+1), .int x4, .lst x5]) (
 Nd (pickMu [.lst x0, .lst x1] [.int (x3+1), .int x4, .lst x5] < pickMu [.lst x0, .lst x1] [.int x3, .int x4, .lst x5]) (
 True))))))))))))))))))))))∧(¬ (x3 < (x0.length : Int)) →
 Nd (x2=(x5.length : Int)) (
 Nd (¬ ((x5.length : Int) < (x5.length : Int))) (
 Nd ((x5.length : Int)=(x5.length : Int)) (
 Nd (longxRel [.lst x0] [.lst x5, .int 0]) (
 True))))))))))))))))))))
theorem vcLongx_eq : (cvc Go.Proofs.Try.prog U0 cLongx (sxF Go.Proofs.Try.prog U0 annsK (conP Go.Proofs.Try.prog U0 (stageK 0)) 400 10)).vc U0 (fun _=>True)=vcLongx:=by kernel_rfl
def vcCheckx : Prop :=
 ∀ x0 : Sx.Rows,
(checkxPre [.lst x0]) →
(((4096 < (x0.length : Int)) →
 Nd (checkxRel [.lst x0] [.int 3]) (
 True))∧(¬ (4096 < (x0.length : Int)) →
 Nd (seenInv [.lst x0] [.int 0, .lst ([] : Sx.Rows)]) (
 ∀ x1 : Int,
 ∀ x2 : Sx.Rows,
(seenInv [.lst x0] [.int x1, .lst x2]) →
(((x1 < (x0.length : Int)) →
 Nd (¬ (x1 < 0)) (
 Nd (x1 < (x0.length : Int)) (
((((Sx.cellAt x0 x1 0).toInt < 0) →
 Nd (checkxRel [.lst x0] [.int 1]) (
 True))∧(¬ ((Sx.cellAt x0 x1 0).toInt < 0) →
((((Sx.mgetR x2 [(Sx.cellAt x0 x1 0).toInt] (.bool false)).toBool=true) →
 Nd (checkxRel [.lst x0] [.int 8]) (
 True))∧(¬ ((Sx.mgetR x2 [(Sx.cellAt x0 x1 0).toInt] (.bool false)).toBool=true) →
 Nd ((¬ ((x1+1) < (-9223372036854775808)))∧((x1+1) < 9223372036854775808)) (
 Nd (seenInv [.lst x0] [.int (x1+1), .lst (Sx.mputR x2 [(Sx.cellAt x0 x1 0).toInt] (.bool true))]) (
 Nd (seenMu [.lst x0] [.int (x1+1), .lst (Sx.mputR x2 [(Sx.cellAt x0 x1 0).toInt] (.bool true))] < seenMu [.lst x0] [.int x1, .lst x2]) (
 True))))))))))∧(¬ (x1 < (x0.length : Int)) →
 Nd (checkxRel [.lst x0] [.int 0]) (
 True))))))
theorem vcCheckx_eq : (cvc Go.Proofs.Try.prog U0 cCheckx (sxF Go.Proofs.Try.prog U0 annsK (conP Go.Proofs.Try.prog U0 (stageK 1)) 400 23)).vc U0 (fun _=>True)=vcCheckx:=by kernel_rfl
def vcKn : Prop :=
(knPre []) →
 Nd (kaInv [] [.lst (List.replicate (4097 : Int).toNat [(.int (0))] : Sx.Rows), .lst (List.replicate (4097 : Int).toNat [(.int (0))] : Sx.Rows), .int 0]) (
 ∀ x0 : Sx.Rows,
 ∀ x1 : Sx.Rows,
 ∀ x2 : Int,
(kaInv [] [.lst x0, .lst x1, .int x2]) →
(((x2 < 4097) →
 Nd (¬ (x2 < 0)) (
 Nd (x2 < 4097) (
 Nd (x2 < (x0.length : Int)) (
 Nd ((¬ ((4097 - x2) < (-9223372036854775808)))∧((4097 - x2) < 9223372036854775808)) (
 Nd (¬ (x2 < 0)) (
 Nd (x2 < 4097) (
 Nd (x2 < (x1.length : Int)) (
 Nd ((¬ ((x2+1) < (-9223372036854775808)))∧((x2+1) < 9223372036854775808)) (
 Nd (kaInv [] [.lst (Sx.setAt x0 x2 0 (.int x2)), .lst (Sx.setAt x1 x2 0 (.int (4097 - x2))), .int (x2+1)]) (
 Nd (kaMu [] [.lst (Sx.setAt x0 x2 0 (.int x2)), .lst (Sx.setAt x1 x2 0 (.int (4097 - x2))), .int (x2+1)] < kaMu [] [.lst x0, .lst x1, .int x2]) (
 True)))))))))))∧(¬ (x2 < 4097) →
 Nd (kbInv [] [.lst (List.replicate (4096 : Int).toNat [(.int (0))] : Sx.Rows), .int 0]) (
 ∀ x3 : Sx.Rows,
 ∀ x4 : Int,
(kbInv [] [.lst x3, .int x4]) →
(((x4 < 4096) →
 Nd ((¬ ((x4+1000) < (-9223372036854775808)))∧((x4+1000) < 9223372036854775808)) (
 Nd (¬ (x4 < 0)) (
 Nd (x4 < 4096) (
 Nd (x4 < (x3.length : Int)) (
 Nd ((¬ ((x4+1) < (-9223372036854775808)))∧((x4+1) < 9223372036854775808)) (
 Nd (kbInv [] [.lst (Sx.setAt x3 x4 0 (.int (((x4+1000) : Int).tmod (4096)))), .int (x4+1)]) (
 Nd (kbMu [] [.lst (Sx.setAt x3 x4 0 (.int (((x4+1000) : Int).tmod (4096)))), .int (x4+1)] < kbMu [] [.lst x3, .int x4]) (
 True))))))))∧(¬ (x4 < 4096) →
 Nd (¬ ((x0.length : Int) < 4096)) (
 Nd (longxPre [.lst (Sx.part x0 0 4096)]) (
 ∀ x5 : Sx.Rows,
 ∀ x6 : Int,
(longxRel [.lst (Sx.part x0 0 4096)] [.lst x5, .int x6]) →
 Nd (¬ ((x1.length : Int) < 4096)) (
 Nd (longxPre [.lst (Sx.part x1 0 4096)]) (
 ∀ x7 : Sx.Rows,
 ∀ x8 : Int,
(longxRel [.lst (Sx.part x1 0 4096)] [.lst x7, .int x8]) →
 Nd (¬ ((x0.length : Int) < 4097)) (
 Nd (longxPre [.lst (Sx.part x0 0 4097)]) (
 ∀ x9 : Sx.Rows,
 ∀ x10 : Int,
(longxRel [.lst (Sx.part x0 0 4097)] [.lst x9, .int x10]) →
 Nd (¬ ((x3.length : Int) < 4096)) (
 Nd (longxPre [.lst (Sx.part x3 0 4096)]) (
 ∀ x11 : Sx.Rows,
 ∀ x12 : Int,
(longxRel [.lst (Sx.part x3 0 4096)] [.lst x11, .int x12]) →
 Nd ((¬ ((x6+x8) < (-9223372036854775808)))∧((x6+x8) < 9223372036854775808)) (
 Nd ((¬ (((x6+x8)+x12) < (-9223372036854775808)))∧(((x6+x8)+x12) < 9223372036854775808)) (
(((((x6+x8)+x12)=0) →
 Nd (((x6+x8)+x12)=0) (
 Nd (((x6+x8)+x12)=0) (
(((x10=3) →
 Nd (x10=3) (
 Nd (x10=3) (
 Nd (x10=3) (
((((x5.length : Int)=4096) →
 Nd ((x5.length : Int)=4096) (
 Nd ((x5.length : Int)=4096) (
 Nd ((x5.length : Int)=4096) (
((((x7.length : Int)=1) →
 Nd ((x7.length : Int)=1) (
 Nd (0 < (x7.length : Int)) (
 Nd ((x7.length : Int)=1) (
 Nd ((x7.length : Int)=1) (
 Nd ((x7.length : Int)=1) (
((((Sx.cellAt x7 0 0).toInt=0) →
 Nd ((Sx.cellAt x7 0 0).toInt=0) (
 Nd ((Sx.cellAt x7 0 0).toInt=0) (
 Nd ((Sx.cellAt x7 0 0).toInt=0) (
((((x11.length : Int)=3096) →
 Nd ((x11.length : Int)=3096) (
 Nd (0 < (x11.length : Int)) (
 Nd ((x11.length : Int)=3096) (
 Nd ((x11.length : Int)=3096) (
 Nd ((x11.length : Int)=3096) (
((((Sx.cellAt x11 0 0).toInt=0) →
 Nd ((Sx.cellAt x11 0 0).toInt=0) (
 Nd (¬ ((x0.length : Int) < 4097)) (
 Nd (checkxPre [.lst (Sx.part x0 0 4097)]) (
 ∀ x13 : Int,
(checkxRel [.lst (Sx.part x0 0 4097)] [.int x13]) →
 Nd ((Sx.cellAt x11 0 0).toInt=0) (
 Nd ((Sx.cellAt x11 0 0).toInt=0) (
(((x13=3) →
 Nd (¬ ((x0.length : Int) < 4096)) (
 Nd (¬ ((x3.length : Int) < 4096)) (
 Nd (movesPre [.lst (Sx.part x0 0 4096), .lst (Sx.part x3 0 4096)]) (
 ∀ x14 : Sx.Rows,
 ∀ x15 : Int,
(movesRel [.lst (Sx.part x0 0 4096), .lst (Sx.part x3 0 4096)] [.lst x14, .int x15]) →
(((x15=0) →
 Nd (x15=0) (
 Nd (x15=0) (
 Nd (x15=0) (
((((x14.length : Int)=1000) →
 Nd ((x14.length : Int)=1000) (
 Nd (0 < (x14.length : Int)) (
 Nd ((x14.length : Int)=1000) (
 Nd ((x14.length : Int)=1000) (
 Nd ((x14.length : Int)=1000) (
 Nd ((x14.length : Int)=1000) (
((((Sx.cellAt x14 0 0).toInt=999) →
((((Sx.cellAt x14 0 1).toInt=(-1)) →
 Nd ((Sx.cellAt x14 0 0).toInt=999) (
 Nd ((Sx.cellAt x14 0 1).toInt=(-1)) (
 Nd (999 < (x14.length : Int)) (
 Nd ((Sx.cellAt x14 0 0).toInt=999) (
 Nd ((Sx.cellAt x14 0 1).toInt=(-1)) (
 Nd ((Sx.cellAt x14 0 0).toInt=999) (
 Nd ((Sx.cellAt x14 0 1).toInt=(-1)) (
 Nd ((Sx.cellAt x14 0 0).toInt=999) (
 Nd ((Sx.cellAt x14 0 1).toInt=(-1)) (
 Nd ((Sx.cellAt x14 0 0).toInt=999) (
 Nd ((Sx.cellAt x14 0 1).toInt=(-1)) (
((((Sx.cellAt x14 999 0).toInt=0) →
((((Sx.cellAt x14 999 1).toInt=1) →
 Nd (¬ ((x0.length : Int) < 4096)) (
 Nd (carryPre [.lst (Sx.part x0 0 4096), .lst x14]) (
 ∀ x16 : Sx.Rows,
 ∀ x17 : Int,
(carryRel [.lst (Sx.part x0 0 4096), .lst x14] [.lst x16, .int x17]) →
 Nd (kcInv [] [.lst (List.replicate (4097 : Int).toNat [(.int (0)),(.int (0))] : Sx.Rows), .int 0]) (
 ∀ x18 : Sx.Rows,
 ∀ x19 : Int,
(kcInv [] [.lst x18, .int x19]) →
(((x19 < 4097) →
 Nd (¬ (x19 < 0)) (
 Nd (x19 < 4097) (
 Nd (x19 < (x18.length : Int)) (
 Nd ((¬ ((x19+1) < (-9223372036854775808)))∧((x19+1) < 9223372036854775808)) (
 Nd (kcInv [] [.lst (Sx.setAt (Sx.setAt x18 x19 0 (.int (1))) x19 1 (.int (-1))), .int (x19+1)]) (
 Nd (kcMu [] [.lst (Sx.setAt (Sx.setAt x18 x19 0 (.int (1))) x19 1 (.int (-1))), .int (x19+1)] < kcMu [] [.lst x18, .int x19]) (
 True)))))))∧(¬ (x19 < 4097) →
 Nd (¬ ((x18.length : Int) < 4097)) (
 Nd (carryPre [.lst (Sx.chunk 1 1 [(.int (1))]), .lst (Sx.part x18 0 4097)]) (
 ∀ x20 : Sx.Rows,
 ∀ x21 : Int,
(carryRel [.lst (Sx.chunk 1 1 [(.int (1))]), .lst (Sx.part x18 0 4097)] [.lst x20, .int x21]) →
 Nd (¬ ((x18.length : Int) < 4096)) (
 Nd (carryPre [.lst (Sx.chunk 1 1 [(.int (1))]), .lst (Sx.part x18 0 4096)]) (
 ∀ x22 : Sx.Rows,
 ∀ x23 : Int,
(carryRel [.lst (Sx.chunk 1 1 [(.int (1))]), .lst (Sx.part x18 0 4096)] [.lst x22, .int x23]) →
 Nd (¬ ((x18.length : Int) < 4097)) (
 Nd (carryPre [.lst (Sx.chunk 1 2 [(.int (1)),(.int (1))]), .lst (Sx.part x18 0 4097)]) (
 ∀ x24 : Sx.Rows,
 ∀ x25 : Int,
(carryRel [.lst (Sx.chunk 1 2 [(.int (1)),(.int (1))]), .lst (Sx.part x18 0 4097)] [.lst x24, .int x25]) →
 Nd (¬ ((x3.length : Int) < 4096)) (
 Nd (samePre [.lst x16, .int x17, .lst (Sx.part x3 0 4096), .int 0]) (
 ∀ x26 : Bool,
(sameRel [.lst x16, .int x17, .lst (Sx.part x3 0 4096), .int 0] [.bool x26]) →
(((x26=true) →
 Nd (x26=true) (
 Nd (x26=true) (
(((x21=3) →
 Nd (x21=3) (
 Nd (x21=3) (
 Nd (x21=3) (
 Nd (samePre [.lst x22, .int x23, .lst (Sx.chunk 1 1 [(.int (1))]), .int 0]) (
 ∀ x27 : Bool,
(sameRel [.lst x22, .int x23, .lst (Sx.chunk 1 1 [(.int (1))]), .int 0] [.bool x27]) →
 Nd (x21=3) (
(((x27=true) →
 Nd (x27=true) (
 Nd (x27=true) (
(((x25=8) →
 Nd (livesPre []) (
 ∀ x28 : Bool,
(livesRel [] [.bool x28]) →
 Nd (x25=8) (
 Nd (knRel [] [.bool x28]) (
 True))))∧(¬ (x25=8) →
 Nd (¬ (x25=8)) (
 Nd (knRel [] [.bool false]) (
 True)))))))∧(¬ (x27=true) →
 Nd (¬ (x27=true)) (
 Nd (¬ (x27=true)) (
 Nd (knRel [] [.bool false]) (
 True)))))))))))∧(¬ (x21=3) →
 Nd (¬ (x21=3)) (
 Nd (¬ (x21=3)) (
 Nd (¬ (x21=3)) (
 Nd (¬ (x21=3)) (
 Nd (knRel [] [.bool false]) (
 True))))))))))∧(¬ (x26=true) →
 Nd (¬ (x26=true)) (
 Nd (¬ (x26=true)) (
 Nd (knRel [] [.bool false]) (
 True)))))))))))))))))))∧(¬ ((Sx.cellAt x14 999 1).toInt=1) →
 Nd (knRel [] [.bool false]) (
 True))))∧(¬ ((Sx.cellAt x14 999 0).toInt=0) →
 Nd (knRel [] [.bool false]) (
 True)))))))))))))))∧(¬ ((Sx.cellAt x14 0 1).toInt=(-1)) →
 Nd ((Sx.cellAt x14 0 0).toInt=999) (
 Nd (¬ ((Sx.cellAt x14 0 1).toInt=(-1))) (
 Nd ((Sx.cellAt x14 0 0).toInt=999) (
 Nd (¬ ((Sx.cellAt x14 0 1).toInt=(-1))) (
 Nd ((Sx.cellAt x14 0 0).toInt=999) (
 Nd (¬ ((Sx.cellAt x14 0 1).toInt=(-1))) (
 Nd ((Sx.cellAt x14 0 0).toInt=999) (
 Nd (¬ ((Sx.cellAt x14 0 1).toInt=(-1))) (
 Nd ((Sx.cellAt x14 0 0).toInt=999) (
 Nd (¬ ((Sx.cellAt x14 0 1).toInt=(-1))) (
 Nd (knRel [] [.bool false]) (
 True))))))))))))))∧(¬ ((Sx.cellAt x14 0 0).toInt=999) →
 Nd (¬ ((Sx.cellAt x14 0 0).toInt=999)) (
 Nd (¬ ((Sx.cellAt x14 0 0).toInt=999)) (
 Nd (¬ ((Sx.cellAt x14 0 0).toInt=999)) (
 Nd (¬ ((Sx.cellAt x14 0 0).toInt=999)) (
 Nd (¬ ((Sx.cellAt x14 0 0).toInt=999)) (
 Nd (knRel [] [.bool false]) (
 True)))))))))))))))∧(¬ ((x14.length : Int)=1000) →
 Nd (¬ ((x14.length : Int)=1000)) (
 Nd (¬ ((x14.length : Int)=1000)) (
 Nd (¬ ((x14.length : Int)=1000)) (
 Nd (¬ ((x14.length : Int)=1000)) (
 Nd (¬ ((x14.length : Int)=1000)) (
 Nd (knRel [] [.bool false]) (
 True))))))))))))∧(¬ (x15=0) →
 Nd (¬ (x15=0)) (
 Nd (¬ (x15=0)) (
 Nd (¬ (x15=0)) (
 Nd (knRel [] [.bool false]) (
 True))))))))))∧(¬ (x13=3) →
 Nd (knRel [] [.bool false]) (
 True)))))))))∧(¬ ((Sx.cellAt x11 0 0).toInt=0) →
 Nd (¬ ((Sx.cellAt x11 0 0).toInt=0)) (
 Nd (¬ ((Sx.cellAt x11 0 0).toInt=0)) (
 Nd (¬ ((Sx.cellAt x11 0 0).toInt=0)) (
 Nd (knRel [] [.bool false]) (
 True))))))))))))∧(¬ ((x11.length : Int)=3096) →
 Nd (¬ ((x11.length : Int)=3096)) (
 Nd (¬ ((x11.length : Int)=3096)) (
 Nd (¬ ((x11.length : Int)=3096)) (
 Nd (¬ ((x11.length : Int)=3096)) (
 Nd (knRel [] [.bool false]) (
 True)))))))))))∧(¬ ((Sx.cellAt x7 0 0).toInt=0) →
 Nd (¬ ((Sx.cellAt x7 0 0).toInt=0)) (
 Nd (¬ ((Sx.cellAt x7 0 0).toInt=0)) (
 Nd (¬ ((Sx.cellAt x7 0 0).toInt=0)) (
 Nd (knRel [] [.bool false]) (
 True))))))))))))∧(¬ ((x7.length : Int)=1) →
 Nd (¬ ((x7.length : Int)=1)) (
 Nd (¬ ((x7.length : Int)=1)) (
 Nd (¬ ((x7.length : Int)=1)) (
 Nd (¬ ((x7.length : Int)=1)) (
 Nd (knRel [] [.bool false]) (
 True)))))))))))∧(¬ ((x5.length : Int)=4096) →
 Nd (¬ ((x5.length : Int)=4096)) (
 Nd (¬ ((x5.length : Int)=4096)) (
 Nd (¬ ((x5.length : Int)=4096)) (
 Nd (knRel [] [.bool false]) (
 True))))))))))∧(¬ (x10=3) →
 Nd (¬ (x10=3)) (
 Nd (¬ (x10=3)) (
 Nd (¬ (x10=3)) (
 Nd (knRel [] [.bool false]) (
 True)))))))))∧(¬ (((x6+x8)+x12)=0) →
 Nd (¬ (((x6+x8)+x12)=0)) (
 Nd (¬ (((x6+x8)+x12)=0)) (
 Nd (knRel [] [.bool false]) (
 True)))))))))))))))))))))
theorem vcKn_eq : (cvc Go.Proofs.Try.prog U0 cKn (sxF Go.Proofs.Try.prog U0 annsK (conP Go.Proofs.Try.prog U0 (stageK 2)) 400 8)).vc U0 (fun _=>True)=vcKn:=by kernel_rfl
end Go.C08
