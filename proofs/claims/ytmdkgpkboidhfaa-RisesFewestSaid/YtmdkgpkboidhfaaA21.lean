/- The conditions of contracts, as the engine's printer has written them, and that the kernel comes to the same.
  Conditions: none. -/
import Derived.Test.YtmdkgpkboidhfaaA20
import Derived.Test.YtmdkgpkboidhfaaRows
import Derived.KernelRfl
set_option linter.unusedVariables false
set_option maxRecDepth 100000
namespace Go.C08
open Go Go.Xe Go.Sx
def vcRkept : Prop :=
 ∀ x0 : Sx.Rows,
 ∀ x1 : Sx.Rows,
(rkeptPre [.lst x0, .lst x1]) →
 Nd (rk0Inv [.lst x0, .lst x1] [.int 0, .lst ([] : Sx.Rows)]) (
 ∀ x2 : Int,
 ∀ x3 : Sx.Rows,
(rk0Inv [.lst x0, .lst x1] [.int x2, .lst x3]) →
(((x2 < (x1.length : Int)) →
 Nd (¬ (x2 < 0)) (
 Nd (x2 < (x1.length : Int)) (
 Nd (ratPre [.lst x0, .int (Sx.cellAt x1 x2 0).toInt]) (
 ∀ x4 : Int,
(ratRel [.lst x0, .int (Sx.cellAt x1 x2 0).toInt] [.int x4]) →
 Nd (¬ ((x3.length : Int) < (x3.length : Int))) (
 Nd (((x3.length : Int)+1) < 67108865) (
 Nd ((x3.length : Int)=(x3.length : Int)) (
 Nd ((¬ ((x2+1) < (-9223372036854775808)))∧((x2+1) < 9223372036854775808)) (
 Nd (¬ (((x3.length : Int)+1) < ((x3.length : Int)+1))) (
 Nd (((x3.length : Int)+1)=((x3.length : Int)+1)) (
 Nd (rk0Inv [.lst x0, .lst x1] [.int (x2+1), .lst (x3 ++ (Sx.chunk 1 1 [(.int x4)]))]) (
 Nd (rk0Mu [.lst x0, .lst x1] [.int (x2+1), .lst (x3 ++ (Sx.chunk 1 1 [(.int x4)]))] < rk0Mu [.lst x0, .lst x1] [.int x2, .lst x3]) (
 True))))))))))))∧(¬ (x2 < (x1.length : Int)) →
 Nd (¬ ((x3.length : Int) < (x3.length : Int))) (
 Nd ((x3.length : Int)=(x3.length : Int)) (
 Nd (rlongPre [.lst x3]) (
 ∀ x4 : Sx.Rows,
(rlongRel [.lst x3] [.lst x4]) →
 Nd (rk2Inv [.lst x1, .lst x4] [.int 0, .lst ([] : Sx.Rows)]) (
 ∀ x5 : Int,
 ∀ x6 : Sx.Rows,
(rk2Inv [.lst x1, .lst x4] [.int x5, .lst x6]) →
(((x5 < (x4.length : Int)) →
 Nd (¬ (x5 < 0)) (
 Nd (x5 < (x4.length : Int)) (
 Nd (x5 < (x4.length : Int)) (
 Nd (¬ ((Sx.cellAt x4 x5 0).toInt < 0)) (
 Nd ((Sx.cellAt x4 x5 0).toInt < (x1.length : Int)) (
 Nd (¬ ((x6.length : Int) < (x6.length : Int))) (
 Nd (((x6.length : Int)+1) < 67108865) (
 Nd ((x6.length : Int)=(x6.length : Int)) (
 Nd ((¬ ((x5+1) < (-9223372036854775808)))∧((x5+1) < 9223372036854775808)) (
 Nd (¬ (((x6.length : Int)+1) < ((x6.length : Int)+1))) (
 Nd (((x6.length : Int)+1)=((x6.length : Int)+1)) (
 Nd (rk2Inv [.lst x1, .lst x4] [.int (x5+1), .lst (x6 ++ (Sx.chunk 1 1 [(.int (Sx.cellAt x1 (Sx.cellAt x4 x5 0).toInt 0).toInt)]))]) (
 Nd (rk2Mu [.lst x1, .lst x4] [.int (x5+1), .lst (x6 ++ (Sx.chunk 1 1 [(.int (Sx.cellAt x1 (Sx.cellAt x4 x5 0).toInt 0).toInt)]))] < rk2Mu [.lst x1, .lst x4] [.int x5, .lst x6]) (
 True))))))))))))))∧(¬ (x5 < (x4.length : Int)) →
 Nd (¬ ((x6.length : Int) < (x6.length : Int))) (
 Nd ((x6.length : Int)=(x6.length : Int)) (
 Nd (rkeptRel [.lst x0, .lst x1] [.lst x6]) (
 True))))))))))))
theorem vcRkept_eq : (cvc Go.Proofs.Try.prog U0 cRkept (sxF Go.Proofs.Try.prog U0 annsE (conP Go.Proofs.Try.prog U0 (stageE 1)) 400 16)).vc U0 (fun _=>True)=vcRkept:=by kernel_rfl
def vcMoves0 (x4 : Int) (x6 : Sx.Rows) : Prop :=
 Nd ((x6.length : Int)=(x6.length : Int)) (
 Nd ((¬ ((x4+(-1)) < (-9223372036854775808)))∧((x4+(-1)) < 9223372036854775808)) (
 Nd (¬ (((x6.length : Int)+1) < ((x6.length : Int)+1))) (
 Nd (((x6.length : Int)+1)=((x6.length : Int)+1)) (
 False ))))
def vcMoves1 (x1 : Sx.Rows) (x2 : Sx.Rows) (x4 : Int) (x5 : Sx.Rows) (x6 : Sx.Rows) (x7 : Int) : Prop :=
 Nd (¬ (((x1.length : Int) - (x2.length : Int)) < ((x1.length : Int) - (x2.length : Int)))) (
 Nd ((¬ ((x4+(-1)) < (-9223372036854775808)))∧((x4+(-1)) < 9223372036854775808)) (
 Nd (¬ (((Sx.over x6 (x6.length : Int) (Sx.chunk 2 1 [(.int (Sx.cellAt x1 x4 0).toInt),(.int x7)])).length : Int) < ((x6.length : Int)+1))) (
 Nd (((x1.length : Int) - (x2.length : Int))=((x1.length : Int) - (x2.length : Int))) (
 Nd (¬ (((x1.length : Int) - (x2.length : Int)) < ((x1.length : Int) - (x2.length : Int)))) (
 Nd (mvInv [.lst x1, .lst x2] [.int (x4+(-1)), .lst x5, .lst (Sx.part (Sx.over x6 (x6.length : Int) (Sx.chunk 2 1 [(.int (Sx.cellAt x1 x4 0).toInt),(.int x7)])) 0 ((x6.length : Int)+1)), .int (Sx.cellAt x1 x4 0).toInt]) (
 Nd (mvMu [.lst x1, .lst x2] [.int (x4+(-1)), .lst x5, .lst (Sx.part (Sx.over x6 (x6.length : Int) (Sx.chunk 2 1 [(.int (Sx.cellAt x1 x4 0).toInt),(.int x7)])) 0 ((x6.length : Int)+1)), .int (Sx.cellAt x1 x4 0).toInt] < mvMu [.lst x1, .lst x2] [.int x4, .lst x5, .lst x6, .int x7]) (
 True)))))))
def vcMoves : Prop :=
 ∀ x0 : Sx.Rows,
 ∀ x1 : Sx.Rows,
(movesPre [.lst x0, .lst x1]) →
 Nd (keptiPre [.lst x0, .lst x1]) (
 ∀ x2 : Sx.Rows,
 ∀ x3 : Int,
(keptiRel [.lst x0, .lst x1] [.lst x2, .int x3]) →
(((x3=0) →
 Nd (x3=0) (
 Nd (x3=0) (
 Nd (x3=0) (
 Nd (x3=0) (
 Nd (x3=0) (
((((x2.length : Int)=(x1.length : Int)) →
 Nd (movesRel [.lst x0, .lst x1] [.lst ([] : Sx.Rows), .int x3]) (
 True))∧(¬ ((x2.length : Int)=(x1.length : Int)) →
 Nd ((¬ (((x1.length : Int) - (x2.length : Int)) < (-9223372036854775808)))∧(((x1.length : Int) - (x2.length : Int)) < 9223372036854775808)) (
 Nd (¬ (((x1.length : Int) - (x2.length : Int)) < 0)) (
 Nd (((x1.length : Int) - (x2.length : Int)) < 1048577) (
 Nd ((¬ (((x1.length : Int)+(-1)) < (-9223372036854775808)))∧(((x1.length : Int)+(-1)) < 9223372036854775808)) (
 Nd (¬ (((List.replicate (((x1.length : Int) - (x2.length : Int))).toNat [(.int (0)),(.int (0))] : Sx.Rows).length : Int) < 0)) (
 Nd (((x1.length : Int) - (x2.length : Int))=((x1.length : Int) - (x2.length : Int))) (
 Nd (¬ (((x1.length : Int) - (x2.length : Int)) < ((x1.length : Int) - (x2.length : Int)))) (
 Nd (mvInv [.lst x1, .lst x2] [.int ((x1.length : Int)+(-1)), .lst x2, .lst (Sx.part (List.replicate (((x1.length : Int) - (x2.length : Int))).toNat [(.int (0)),(.int (0))] : Sx.Rows) 0 0), .int (-1)]) (
 ∀ x4 : Int,
 ∀ x5 : Sx.Rows,
 ∀ x6 : Sx.Rows,
 ∀ x7 : Int,
(mvInv [.lst x1, .lst x2] [.int x4, .lst x5, .lst x6, .int x7]) →
(((x4 < 0) →
 Nd (((x1.length : Int) - (x2.length : Int))=(x6.length : Int)) (
 Nd (¬ ((x6.length : Int) < (x6.length : Int))) (
 Nd ((x6.length : Int)=(x6.length : Int)) (
 Nd (movesRel [.lst x0, .lst x1] [.lst x6, .int 0]) (
 True)))))∧(¬ (x4 < 0) →
 Nd (¬ (x4 < 0)) (
 Nd (x4 < (x1.length : Int)) (
(((0 < (x5.length : Int)) →
 Nd (0 < (x5.length : Int)) (
 Nd (0 < (x5.length : Int)) (
 Nd ((¬ (((x5.length : Int)+(-1)) < (-9223372036854775808)))∧(((x5.length : Int)+(-1)) < 9223372036854775808)) (
 Nd (0 < (x5.length : Int)) (
 Nd (¬ (((x5.length : Int)+(-1)) < 0)) (
 Nd (((x5.length : Int)+(-1)) < (x5.length : Int)) (
 Nd (0 < (x5.length : Int)) (
 Nd (0 < (x5.length : Int)) (
 Nd (0 < (x5.length : Int)) (
 Nd (0 < (x5.length : Int)) (
((((Sx.cellAt x5 ((x5.length : Int)+(-1)) 0).toInt=x4) →
 Nd ((¬ (((x5.length : Int)+(-1)) < (-9223372036854775808)))∧(((x5.length : Int)+(-1)) < 9223372036854775808)) (
 Nd (¬ (((x5.length : Int)+(-1)) < 0)) (
 Nd (¬ ((x5.length : Int) < ((x5.length : Int)+(-1)))) (
 Nd ((¬ ((x4+(-1)) < (-9223372036854775808)))∧((x4+(-1)) < 9223372036854775808)) (
 Nd (¬ ((x6.length : Int) < (x6.length : Int))) (
 Nd ((x6.length : Int)=(x6.length : Int)) (
 Nd (((x1.length : Int) - (x2.length : Int))=((x1.length : Int) - (x2.length : Int))) (
 Nd (¬ (((x1.length : Int) - (x2.length : Int)) < ((x1.length : Int) - (x2.length : Int)))) (
 Nd (mvInv [.lst x1, .lst x2] [.int (x4+(-1)), .lst (Sx.part x5 0 ((x5.length : Int)+(-1))), .lst x6, .int (Sx.cellAt x1 x4 0).toInt]) (
 Nd (mvMu [.lst x1, .lst x2] [.int (x4+(-1)), .lst (Sx.part x5 0 ((x5.length : Int)+(-1))), .lst x6, .int (Sx.cellAt x1 x4 0).toInt] < mvMu [.lst x1, .lst x2] [.int x4, .lst x5, .lst x6, .int x7]) (
 True)))))))))))∧(¬ ((Sx.cellAt x5 ((x5.length : Int)+(-1)) 0).toInt=x4) →
 Nd (¬ ((x6.length : Int) < (x6.length : Int))) (
 Nd (((x6.length : Int)+1) < 67108865) (
(((((x1.length : Int) - (x2.length : Int)) < ((x6.length : Int)+1)) →
(vcMoves0 x4 x6))∧(¬ (((x1.length : Int) - (x2.length : Int)) < ((x6.length : Int)+1)) →
(vcMoves1 x1 x2 x4 x5 x6 x7))))))))))))))))))∧(¬ (0 < (x5.length : Int)) →
 Nd (¬ (0 < (x5.length : Int))) (
 Nd (¬ (0 < (x5.length : Int))) (
 Nd (¬ (0 < (x5.length : Int))) (
 Nd (¬ (0 < (x5.length : Int))) (
 Nd (¬ (0 < (x5.length : Int))) (
 Nd (¬ (0 < (x5.length : Int))) (
 Nd (¬ (0 < (x5.length : Int))) (
 Nd (¬ ((x6.length : Int) < (x6.length : Int))) (
 Nd (((x6.length : Int)+1) < 67108865) (
(((((x1.length : Int) - (x2.length : Int)) < ((x6.length : Int)+1)) →
(vcMoves0 x4 x6))∧(¬ (((x1.length : Int) - (x2.length : Int)) < ((x6.length : Int)+1)) →
(vcMoves1 x1 x2 x4 x5 x6 x7))))))))))))))))))))))))))))))))))∧(¬ (x3=0) →
 Nd (¬ (x3=0)) (
 Nd (¬ (x3=0)) (
 Nd (¬ (x3=0)) (
 Nd (¬ (x3=0)) (
 Nd (¬ (x3=0)) (
 Nd (movesRel [.lst x0, .lst x1] [.lst ([] : Sx.Rows), .int x3]) (
 True)))))))))
theorem vcMoves_eq : (cvc Go.Proofs.Try.prog U0 cMoves (sxF Go.Proofs.Try.prog U0 annsE (conP Go.Proofs.Try.prog U0 (stageE 2)) 400 15)).vc U0 (fun _=>True)=vcMoves:=by kernel_rfl
def vcRmoves0 (x1 : Sx.Rows) (x2 : Sx.Rows) (x3 : Int) (x4 : Sx.Rows) (x5 : Sx.Rows) : Prop :=
 Nd ((¬ ((x3+(-1)) < (-9223372036854775808)))∧((x3+(-1)) < 9223372036854775808)) (
 Nd (¬ ((x4.length : Int) < (x4.length : Int))) (
 Nd ((x4.length : Int)=(x4.length : Int)) (
 Nd (rmInv [.lst x1, .lst x2] [.int (x3+(-1)), .lst x4, .lst x5]) (
 Nd (rmMu [.lst x1, .lst x2] [.int (x3+(-1)), .lst x4, .lst x5] < rmMu [.lst x1, .lst x2] [.int x3, .lst x4, .lst x5]) (
 True)))))
def vcRmoves : Prop :=
 ∀ x0 : Sx.Rows,
 ∀ x1 : Sx.Rows,
(rmovesPre [.lst x0, .lst x1]) →
 Nd (rkeptPre [.lst x0, .lst x1]) (
 ∀ x2 : Sx.Rows,
(rkeptRel [.lst x0, .lst x1] [.lst x2]) →
 Nd ((¬ (((x1.length : Int)+(-1)) < (-9223372036854775808)))∧(((x1.length : Int)+(-1)) < 9223372036854775808)) (
 Nd (¬ ((x2.length : Int) < (x2.length : Int))) (
 Nd ((x2.length : Int)=(x2.length : Int)) (
 Nd (rmInv [.lst x1, .lst x2] [.int ((x1.length : Int)+(-1)), .lst ([] : Sx.Rows), .lst x2]) (
 ∀ x3 : Int,
 ∀ x4 : Sx.Rows,
 ∀ x5 : Sx.Rows,
(rmInv [.lst x1, .lst x2] [.int x3, .lst x4, .lst x5]) →
(((x3 < 0) →
 Nd (¬ ((x4.length : Int) < (x4.length : Int))) (
 Nd ((x4.length : Int)=(x4.length : Int)) (
 Nd (rmovesRel [.lst x0, .lst x1] [.lst x4]) (
 True))))∧(¬ (x3 < 0) →
 Nd ((¬ (((x1.length : Int)+(-1)) < (-9223372036854775808)))∧(((x1.length : Int)+(-1)) < 9223372036854775808)) (
(((x3 < ((x1.length : Int)+(-1))) →
 Nd ((¬ ((x3+1) < (-9223372036854775808)))∧((x3+1) < 9223372036854775808)) (
 Nd (¬ ((x3+1) < 0)) (
 Nd ((x3+1) < (x1.length : Int)) (
 Nd (¬ (x3 < 0)) (
 Nd (x3 < (x1.length : Int)) (
 Nd (ratPre [.lst x5, .int (Sx.cellAt x1 x3 0).toInt]) (
 ∀ x6 : Int,
(ratRel [.lst x5, .int (Sx.cellAt x1 x3 0).toInt] [.int x6]) →
(((x6 < 0) →
 Nd (¬ (x3 < 0)) (
 Nd (x3 < (x1.length : Int)) (
 Nd (¬ ((x4.length : Int) < (x4.length : Int))) (
 Nd (((x4.length : Int)+1) < 67108865) (
 Nd ((x4.length : Int)=(x4.length : Int)) (
 Nd ((¬ ((x3+(-1)) < (-9223372036854775808)))∧((x3+(-1)) < 9223372036854775808)) (
 Nd (¬ (((x4.length : Int)+1) < ((x4.length : Int)+1))) (
 Nd (((x4.length : Int)+1)=((x4.length : Int)+1)) (
 Nd (rmInv [.lst x1, .lst x2] [.int (x3+(-1)), .lst (x4 ++ (Sx.chunk 2 1 [(.int (Sx.cellAt x1 x3 0).toInt),(.int (Sx.cellAt x1 (x3+1) 0).toInt)])), .lst x5]) (
 Nd (rmMu [.lst x1, .lst x2] [.int (x3+(-1)), .lst (x4 ++ (Sx.chunk 2 1 [(.int (Sx.cellAt x1 x3 0).toInt),(.int (Sx.cellAt x1 (x3+1) 0).toInt)])), .lst x5] < rmMu [.lst x1, .lst x2] [.int x3, .lst x4, .lst x5]) (
 True)))))))))))∧(¬ (x6 < 0) →
(vcRmoves0 x1 x2 x3 x4 x5))))))))))∧(¬ (x3 < ((x1.length : Int)+(-1))) →
 Nd (¬ (x3 < 0)) (
 Nd (x3 < (x1.length : Int)) (
 Nd (ratPre [.lst x5, .int (Sx.cellAt x1 x3 0).toInt]) (
 ∀ x6 : Int,
(ratRel [.lst x5, .int (Sx.cellAt x1 x3 0).toInt] [.int x6]) →
(((x6 < 0) →
 Nd (¬ (x3 < 0)) (
 Nd (x3 < (x1.length : Int)) (
 Nd (¬ ((x4.length : Int) < (x4.length : Int))) (
 Nd (((x4.length : Int)+1) < 67108865) (
 Nd ((x4.length : Int)=(x4.length : Int)) (
 Nd ((¬ ((x3+(-1)) < (-9223372036854775808)))∧((x3+(-1)) < 9223372036854775808)) (
 Nd (¬ (((x4.length : Int)+1) < ((x4.length : Int)+1))) (
 Nd (((x4.length : Int)+1)=((x4.length : Int)+1)) (
 Nd (rmInv [.lst x1, .lst x2] [.int (x3+(-1)), .lst (x4 ++ (Sx.chunk 2 1 [(.int (Sx.cellAt x1 x3 0).toInt),(.int (-1))])), .lst x5]) (
 Nd (rmMu [.lst x1, .lst x2] [.int (x3+(-1)), .lst (x4 ++ (Sx.chunk 2 1 [(.int (Sx.cellAt x1 x3 0).toInt),(.int (-1))])), .lst x5] < rmMu [.lst x1, .lst x2] [.int x3, .lst x4, .lst x5]) (
 True)))))))))))∧(¬ (x6 < 0) →
(vcRmoves0 x1 x2 x3 x4 x5))))))))))))))))
theorem vcRmoves_eq : (cvc Go.Proofs.Try.prog U0 cRmoves (sxF Go.Proofs.Try.prog U0 annsE (conP Go.Proofs.Try.prog U0 (stageE 3)) 400 18)).vc U0 (fun _=>True)=vcRmoves:=by kernel_rfl
def vcSteps : Prop :=
 ∀ x0 : Sx.Rows,
 ∀ x1 : Int,
 ∀ x2 : Sx.Rows,
 ∀ x3 : Int,
(stepsPre [.lst x0, .int x1, .lst x2, .int x3]) →
(((x1=x3) →
 Nd (x1=x3) (
 Nd (x1=x3) (
 Nd (x1=x3) (
 Nd (x1=x3) (
 Nd (x1=x3) (
((((x0.length : Int)=(x2.length : Int)) →
 Nd ((x0.length : Int)=(x2.length : Int)) (
 Nd ((x0.length : Int)=(x2.length : Int)) (
 Nd ((x0.length : Int)=(x2.length : Int)) (
 Nd ((x0.length : Int)=(x2.length : Int)) (
 Nd ((x0.length : Int)=(x2.length : Int)) (
((((x0.length : Int)=(x0.length : Int)) →
 Nd (seqInv [.lst x0, .lst x2] [.int 0]) (
 ∀ x4 : Int,
(seqInv [.lst x0, .lst x2] [.int x4]) →
(((x4 < (x2.length : Int)) →
 Nd (¬ (x4 < 0)) (
 Nd (x4 < (x0.length : Int)) (
 Nd (¬ (x4 < 0)) (
 Nd (x4 < (x2.length : Int)) (
((((Sx.cellAt x0 x4 0).toInt=(Sx.cellAt x2 x4 0).toInt) →
 Nd ((Sx.cellAt x0 x4 0).toInt=(Sx.cellAt x2 x4 0).toInt) (
 Nd ((Sx.cellAt x0 x4 0).toInt=(Sx.cellAt x2 x4 0).toInt) (
 Nd (¬ (x4 < 0)) (
 Nd (x4 < (x0.length : Int)) (
 Nd ((Sx.cellAt x0 x4 0).toInt=(Sx.cellAt x2 x4 0).toInt) (
 Nd ((Sx.cellAt x0 x4 0).toInt=(Sx.cellAt x2 x4 0).toInt) (
 Nd ((Sx.cellAt x0 x4 0).toInt=(Sx.cellAt x2 x4 0).toInt) (
 Nd ((Sx.cellAt x0 x4 0).toInt=(Sx.cellAt x2 x4 0).toInt) (
 Nd ((Sx.cellAt x0 x4 0).toInt=(Sx.cellAt x2 x4 0).toInt) (
 Nd (¬ (x4 < 0)) (
 Nd (x4 < (x2.length : Int)) (
 Nd ((Sx.cellAt x0 x4 0).toInt=(Sx.cellAt x2 x4 0).toInt) (
 Nd ((Sx.cellAt x0 x4 0).toInt=(Sx.cellAt x2 x4 0).toInt) (
 Nd ((Sx.cellAt x0 x4 0).toInt=(Sx.cellAt x2 x4 0).toInt) (
 Nd ((Sx.cellAt x0 x4 0).toInt=(Sx.cellAt x2 x4 0).toInt) (
((((Sx.cellAt x0 x4 1).toInt=(Sx.cellAt x2 x4 1).toInt) →
 Nd ((¬ ((x4+1) < (-9223372036854775808)))∧((x4+1) < 9223372036854775808)) (
 Nd (seqInv [.lst x0, .lst x2] [.int (x4+1)]) (
 Nd (seqMu [.lst x0, .lst x2] [.int (x4+1)] < seqMu [.lst x0, .lst x2] [.int x4]) (
 True))))∧(¬ ((Sx.cellAt x0 x4 1).toInt=(Sx.cellAt x2 x4 1).toInt) →
 Nd (stepsRel [.lst x0, .int x1, .lst x2, .int x3] [.bool false]) (
 True)))))))))))))))))))∧(¬ ((Sx.cellAt x0 x4 0).toInt=(Sx.cellAt x2 x4 0).toInt) →
 Nd (¬ ((Sx.cellAt x0 x4 0).toInt=(Sx.cellAt x2 x4 0).toInt)) (
 Nd (¬ ((Sx.cellAt x0 x4 0).toInt=(Sx.cellAt x2 x4 0).toInt)) (
 Nd (¬ ((Sx.cellAt x0 x4 0).toInt=(Sx.cellAt x2 x4 0).toInt)) (
 Nd (¬ ((Sx.cellAt x0 x4 0).toInt=(Sx.cellAt x2 x4 0).toInt)) (
 Nd (¬ ((Sx.cellAt x0 x4 0).toInt=(Sx.cellAt x2 x4 0).toInt)) (
 Nd (¬ ((Sx.cellAt x0 x4 0).toInt=(Sx.cellAt x2 x4 0).toInt)) (
 Nd (¬ ((Sx.cellAt x0 x4 0).toInt=(Sx.cellAt x2 x4 0).toInt)) (
 Nd (¬ ((Sx.cellAt x0 x4 0).toInt=(Sx.cellAt x2 x4 0).toInt)) (
 Nd (¬ ((Sx.cellAt x0 x4 0).toInt=(Sx.cellAt x2 x4 0).toInt)) (
 Nd (¬ ((Sx.cellAt x0 x4 0).toInt=(Sx.cellAt x2 x4 0).toInt)) (
 Nd (¬ ((Sx.cellAt x0 x4 0).toInt=(Sx.cellAt x2 x4 0).toInt)) (
 Nd (stepsRel [.lst x0, .int x1, .lst x2, .int x3] [.bool false]) (
 True)))))))))))))))))))∧(¬ (x4 < (x2.length : Int)) →
 Nd (stepsRel [.lst x0, .int x1, .lst x2, .int x3] [.bool true]) (
 True)))))∧(¬ ((x0.length : Int)=(x0.length : Int)) →
 Nd (stepsRel [.lst x0, .int x1, .lst x2, .int x3] [.bool false]) (
 True)))))))))∧(¬ ((x0.length : Int)=(x2.length : Int)) →
 Nd (¬ ((x0.length : Int)=(x2.length : Int))) (
 Nd (¬ ((x0.length : Int)=(x2.length : Int))) (
 Nd (¬ ((x0.length : Int)=(x2.length : Int))) (
 Nd (¬ ((x0.length : Int)=(x2.length : Int))) (
 Nd (¬ ((x0.length : Int)=(x2.length : Int))) (
 Nd (stepsRel [.lst x0, .int x1, .lst x2, .int x3] [.bool false]) (
 True))))))))))))))∧(¬ (x1=x3) →
 Nd (¬ (x1=x3)) (
 Nd (¬ (x1=x3)) (
 Nd (¬ (x1=x3)) (
 Nd (¬ (x1=x3)) (
 Nd (¬ (x1=x3)) (
 Nd (stepsRel [.lst x0, .int x1, .lst x2, .int x3] [.bool false]) (
 True))))))))
theorem vcSteps_eq : (cvc Go.Proofs.Try.prog U0 cSteps (sxF Go.Proofs.Try.prog U0 annsE (conP Go.Proofs.Try.prog U0 (stageE 4)) 400 17)).vc U0 (fun _=>True)=vcSteps:=by kernel_rfl
end Go.C08
