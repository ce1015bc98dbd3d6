/- The conditions of contracts, as the engine's printer has written them, and that the kernel comes to the same.
  Conditions: none. -/
import Derived.Test.YtpdcecfnlccicaaR1
import Derived.Test.YtpdcecfnlccicaaRows
import Derived.KernelRfl
set_option linter.unusedVariables false
set_option maxRecDepth 100000
namespace Go.C36
open Go Go.Xe Go.Sx
def vcLen : Prop :=
 ∀ x0 : Sx.Rows,
(lenPre [.lst x0]) →
 Nd (¬ ((x0.length : Int) < 0)) (
 Nd (¬ ((x0.length : Int) < (x0.length : Int))) (
 Nd ((x0.length : Int) < 1048577) (
 Nd (¬ ((x0.length : Int) < 0)) (
 Nd ((x0.length : Int) < 1048577) (
 Nd ((¬ (((x0.length : Int)+(-1)) < (-9223372036854775808)))∧(((x0.length : Int)+(-1)) < 9223372036854775808)) (
 Nd (¬ (((List.replicate ((x0.length : Int)).toNat [(.int (0))] : Sx.Rows).length : Int) < (x0.length : Int))) (
 Nd ((x0.length : Int)=(x0.length : Int)) (
 Nd (¬ ((x0.length : Int) < (x0.length : Int))) (
 Nd (¬ (((List.replicate ((x0.length : Int)).toNat [(.int (0))] : Sx.Rows).length : Int) < 0)) (
 Nd ((x0.length : Int)=(x0.length : Int)) (
 Nd (¬ ((x0.length : Int) < (x0.length : Int))) (
 Nd (lensInv [.lst x0] [.lst (Sx.part (List.replicate ((x0.length : Int)).toNat [(.int (0))] : Sx.Rows) 0 (x0.length : Int)), .int ((x0.length : Int)+(-1)), .lst (Sx.part (List.replicate ((x0.length : Int)).toNat [(.int (0))] : Sx.Rows) 0 0)]) (
 ∀ x1 : Sx.Rows,
 ∀ x2 : Int,
 ∀ x3 : Sx.Rows,
(lensInv [.lst x0] [.lst x1, .int x2, .lst x3]) →
(((x2 < 0) →
 Nd (¬ ((x1.length : Int) < (x1.length : Int))) (
 Nd ((x1.length : Int)=(x1.length : Int)) (
 Nd ((x0.length : Int)=(x1.length : Int)) (
 Nd ((x1.length : Int) < 67108865) (
 Nd (lenRel [.lst x0] [.lst x1]) (
 True))))))∧(¬ (x2 < 0) →
 Nd (seInv [.lst x3, .lst x0, .int x2] [.int 0, .int (x3.length : Int)]) (
 ∀ x4 : Int,
 ∀ x5 : Int,
(seInv [.lst x3, .lst x0, .int x2] [.int x4, .int x5]) →
(((x4 < x5) →
 Nd ((¬ ((x4+x5) < (-9223372036854775808)))∧((x4+x5) < 9223372036854775808)) (
 Nd ((¬ ((x4+x5) < 0))∧((x4+x5) < 18446744073709551616)) (
 Nd ((¬ ((Sx.shrI .u64 (x4+x5) 1) < (-9223372036854775808)))∧((Sx.shrI .u64 (x4+x5) 1) < 9223372036854775808)) (
 Nd (¬ ((Sx.shrI .u64 (x4+x5) 1) < 0)) (
 Nd ((Sx.shrI .u64 (x4+x5) 1) < (x3.length : Int)) (
 Nd ((Sx.shrI .u64 (x4+x5) 1) < (x3.length : Int)) (
 Nd (¬ (x2 < 0)) (
 Nd (x2 < (x0.length : Int)) (
((((Sx.cellAt x0 x2 0).toInt < (Sx.cellAt x3 (Sx.shrI .u64 (x4+x5) 1) 0).toInt) →
 Nd ((¬ (((Sx.shrI .u64 (x4+x5) 1)+1) < (-9223372036854775808)))∧(((Sx.shrI .u64 (x4+x5) 1)+1) < 9223372036854775808)) (
 Nd (seInv [.lst x3, .lst x0, .int x2] [.int ((Sx.shrI .u64 (x4+x5) 1)+1), .int x5]) (
 Nd (seMu [.lst x3, .lst x0, .int x2] [.int ((Sx.shrI .u64 (x4+x5) 1)+1), .int x5] < seMu [.lst x3, .lst x0, .int x2] [.int x4, .int x5]) (
 True))))∧(¬ ((Sx.cellAt x0 x2 0).toInt < (Sx.cellAt x3 (Sx.shrI .u64 (x4+x5) 1) 0).toInt) →
 Nd (seInv [.lst x3, .lst x0, .int x2] [.int x4, .int (Sx.shrI .u64 (x4+x5) 1)]) (
 Nd (seMu [.lst x3, .lst x0, .int x2] [.int x4, .int (Sx.shrI .u64 (x4+x5) 1)] < seMu [.lst x3, .lst x0, .int x2] [.int x4, .int x5]) (
 True)))))))))))))∧(¬ (x4 < x5) →
(((x4=(x3.length : Int)) →
 Nd ((¬ ((x4+1) < (-9223372036854775808)))∧((x4+1) < 9223372036854775808)) (
 Nd (¬ ((x4+1) < 0)) (
 Nd (¬ ((x0.length : Int) < (x4+1))) (
 Nd (¬ ((x0.length : Int) < (x0.length : Int))) (
 Nd (¬ (x2 < 0)) (
 Nd (x2 < (x0.length : Int)) (
 Nd (¬ (x4 < 0)) (
 Nd (x4 < (x4+1)) (
 Nd (¬ ((x3.length : Int) < x4)) (
 Nd (x4 < (x0.length : Int)) (
 Nd ((¬ ((x4+1) < (-9223372036854775808)))∧((x4+1) < 9223372036854775808)) (
 Nd (¬ (x2 < 0)) (
 Nd (x2 < (x1.length : Int)) (
 Nd (¬ ((x1.length : Int) < x2)) (
 Nd (x2 < (x0.length : Int)) (
 Nd ((¬ ((x2+(-1)) < (-9223372036854775808)))∧((x2+(-1)) < 9223372036854775808)) (
 Nd (¬ (((Sx.over x1 x2 (Sx.chunk 1 1 [(.int (x4+1))])).length : Int) < (x1.length : Int))) (
 Nd ((x0.length : Int)=(x0.length : Int)) (
 Nd (¬ ((x0.length : Int) < (x0.length : Int))) (
 Nd (¬ (((Sx.over x3 x4 (Sx.chunk 1 1 [(.int (Sx.cellAt x0 x2 0).toInt)])).length : Int) < (x4+1))) (
 Nd ((x0.length : Int)=(x0.length : Int)) (
 Nd (¬ ((x0.length : Int) < (x0.length : Int))) (
 Nd (lensInv [.lst x0] [.lst (Sx.part (Sx.over x1 x2 (Sx.chunk 1 1 [(.int (x4+1))])) 0 (x1.length : Int)), .int (x2+(-1)), .lst (Sx.part (Sx.over x3 x4 (Sx.chunk 1 1 [(.int (Sx.cellAt x0 x2 0).toInt)])) 0 (x4+1))]) (
 Nd (lensMu [.lst x0] [.lst (Sx.part (Sx.over x1 x2 (Sx.chunk 1 1 [(.int (x4+1))])) 0 (x1.length : Int)), .int (x2+(-1)), .lst (Sx.part (Sx.over x3 x4 (Sx.chunk 1 1 [(.int (Sx.cellAt x0 x2 0).toInt)])) 0 (x4+1))] < lensMu [.lst x0] [.lst x1, .int x2, .lst x3]) (
 True)))))))))))))))))))))))))∧(¬ (x4=(x3.length : Int)) →
 Nd (¬ (x2 < 0)) (
 Nd (x2 < (x0.length : Int)) (
 Nd (¬ (x4 < 0)) (
 Nd (x4 < (x3.length : Int)) (
 Nd (¬ ((x3.length : Int) < x4)) (
 Nd (x4 < (x0.length : Int)) (
 Nd ((¬ ((x4+1) < (-9223372036854775808)))∧((x4+1) < 9223372036854775808)) (
 Nd (¬ (x2 < 0)) (
 Nd (x2 < (x1.length : Int)) (
 Nd (¬ ((x1.length : Int) < x2)) (
 Nd (x2 < (x0.length : Int)) (
 Nd ((¬ ((x2+(-1)) < (-9223372036854775808)))∧((x2+(-1)) < 9223372036854775808)) (
 Nd (¬ (((Sx.over x1 x2 (Sx.chunk 1 1 [(.int (x4+1))])).length : Int) < (x1.length : Int))) (
 Nd ((x0.length : Int)=(x0.length : Int)) (
 Nd (¬ ((x0.length : Int) < (x0.length : Int))) (
 Nd (¬ (((Sx.over x3 x4 (Sx.chunk 1 1 [(.int (Sx.cellAt x0 x2 0).toInt)])).length : Int) < (x3.length : Int))) (
 Nd ((x0.length : Int)=(x0.length : Int)) (
 Nd (¬ ((x0.length : Int) < (x0.length : Int))) (
 Nd (lensInv [.lst x0] [.lst (Sx.part (Sx.over x1 x2 (Sx.chunk 1 1 [(.int (x4+1))])) 0 (x1.length : Int)), .int (x2+(-1)), .lst (Sx.part (Sx.over x3 x4 (Sx.chunk 1 1 [(.int (Sx.cellAt x0 x2 0).toInt)])) 0 (x3.length : Int))]) (
 Nd (lensMu [.lst x0] [.lst (Sx.part (Sx.over x1 x2 (Sx.chunk 1 1 [(.int (x4+1))])) 0 (x1.length : Int)), .int (x2+(-1)), .lst (Sx.part (Sx.over x3 x4 (Sx.chunk 1 1 [(.int (Sx.cellAt x0 x2 0).toInt)])) 0 (x3.length : Int))] < lensMu [.lst x0] [.lst x1, .int x2, .lst x3]) (
 True))))))))))))))))))))))))))))))))))))))))
theorem vcLen_eq : (cvc Go.Proofs.Try.prog U0 cLen (sxF Go.Proofs.Try.prog U0 annsS (conOf Go.Proofs.Try.prog U0 (stageS 0)) 400 48)).vc U0 (fun _=>True)=vcLen:=by kernel_rfl
def vcMax : Prop :=
 ∀ x0 : Sx.Rows,
(maxPre [.lst x0]) →
((((x0.length : Int) < 1) →
 False )∧(¬ ((x0.length : Int) < 1) →
 Nd (0 < (x0.length : Int)) (
 Nd (mxInv [.lst x0] [.int 1, .int (Sx.cellAt x0 0 0).toInt]) (
 ∀ x1 : Int,
 ∀ x2 : Int,
(mxInv [.lst x0] [.int x1, .int x2]) →
(((x1 < (x0.length : Int)) →
 Nd (¬ (x1 < 0)) (
 Nd (x1 < (x0.length : Int)) (
(((x2 < (Sx.cellAt x0 x1 0).toInt) →
 Nd ((¬ ((x1+1) < (-9223372036854775808)))∧((x1+1) < 9223372036854775808)) (
 Nd (mxInv [.lst x0] [.int (x1+1), .int (Sx.cellAt x0 x1 0).toInt]) (
 Nd (mxMu [.lst x0] [.int (x1+1), .int (Sx.cellAt x0 x1 0).toInt] < mxMu [.lst x0] [.int x1, .int x2]) (
 True))))∧(¬ (x2 < (Sx.cellAt x0 x1 0).toInt) →
 Nd ((¬ ((x1+1) < (-9223372036854775808)))∧((x1+1) < 9223372036854775808)) (
 Nd (mxInv [.lst x0] [.int (x1+1), .int x2]) (
 Nd (mxMu [.lst x0] [.int (x1+1), .int x2] < mxMu [.lst x0] [.int x1, .int x2]) (
 True))))))))∧(¬ (x1 < (x0.length : Int)) →
 Nd (maxRel [.lst x0] [.int x2]) (
 True)))))))
theorem vcMax_eq : (cvc Go.Proofs.Try.prog U0 cMax (sxF Go.Proofs.Try.prog U0 annsS (conOf Go.Proofs.Try.prog U0 (stageS 0)) 400 49)).vc U0 (fun _=>True)=vcMax:=by kernel_rfl
def vcLong0 (x3 : Int) (x4 : Int) (x5 : Sx.Rows) : Prop :=
 Nd ((x5.length : Int)=(x5.length : Int)) (
 Nd ((¬ ((x4+(-1)) < (-9223372036854775808)))∧((x4+(-1)) < 9223372036854775808)) (
 Nd ((¬ ((x3+1) < (-9223372036854775808)))∧((x3+1) < 9223372036854775808)) (
 Nd (¬ (((x5.length : Int)+1) < ((x5.length : Int)+1))) (
 Nd (((x5.length : Int)+1)=((x5.length : Int)+1)) (
 False )))))
def vcLong1 (x0 : Sx.Rows) (x1 : Sx.Rows) (x2 : Int) (x3 : Int) (x4 : Int) (x5 : Sx.Rows) : Prop :=
 Nd (¬ (x2 < x2)) (
 Nd ((¬ ((x4+(-1)) < (-9223372036854775808)))∧((x4+(-1)) < 9223372036854775808)) (
 Nd ((¬ ((x3+1) < (-9223372036854775808)))∧((x3+1) < 9223372036854775808)) (
 Nd (¬ (((Sx.over x5 (x5.length : Int) (Sx.chunk 1 1 [(.int x3)])).length : Int) < ((x5.length : Int)+1))) (
 Nd (x2=x2) (
 Nd (¬ (x2 < x2)) (
 Nd (pickInv [.lst x0, .lst x1] [.int (x3+1), .int (x4+(-1)), .lst (Sx.part (Sx.over x5 (x5.length : Int) (Sx.chunk 1 1 [(.int x3)])) 0 ((x5.length : Int)+1))]) (
 Nd (pickMu [.lst x0, .lst x1] [.int (x3+1), .int (x4+(-1)), .lst (Sx.part (Sx.over x5 (x5.length : Int) (Sx.chunk 1 1 [(.int x3)])) 0 ((x5.length : Int)+1))] < pickMu [.lst x0, .lst x1] [.int x3, .int x4, .lst x5]) (
 True))))))))
def vcLong : Prop :=
 ∀ x0 : Sx.Rows,
(longPre [.lst x0]) →
(((4096 < (x0.length : Int)) →
 Nd (longRel [.lst x0] [.lst ([] : Sx.Rows), .int 3]) (
 True))∧(¬ (4096 < (x0.length : Int)) →
((((x0.length : Int)=0) →
 Nd (longRel [.lst x0] [.lst ([] : Sx.Rows), .int 0]) (
 True))∧(¬ ((x0.length : Int)=0) →
 Nd (lenPre [.lst x0]) (
 ∀ x1 : Sx.Rows,
(lenRel [.lst x0] [.lst x1]) →
 Nd (¬ ((x1.length : Int) < (x1.length : Int))) (
 Nd ((x1.length : Int)=(x1.length : Int)) (
 Nd (maxPre [.lst x1]) (
 ∀ x2 : Int,
(maxRel [.lst x1] [.int x2]) →
 Nd (¬ (x2 < 0)) (
 Nd (x2 < 1048577) (
 Nd (¬ (((List.replicate (x2).toNat [(.int (0))] : Sx.Rows).length : Int) < 0)) (
 Nd (x2=x2) (
 Nd (¬ (x2 < x2)) (
 Nd (pickInv [.lst x0, .lst x1] [.int 0, .int x2, .lst (Sx.part (List.replicate (x2).toNat [(.int (0))] : Sx.Rows) 0 0)]) (
 ∀ x3 : Int,
 ∀ x4 : Int,
 ∀ x5 : Sx.Rows,
(pickInv [.lst x0, .lst x1] [.int x3, .int x4, .lst x5]) →
(((x3 < (x0.length : Int)) →
 Nd (¬ (x3 < 0)) (
 Nd (x3 < (x0.length : Int)) (
(((x4=0) →
 Nd (x2=(x5.length : Int)) (
 Nd (¬ ((x5.length : Int) < (x5.length : Int))) (
 Nd ((x5.length : Int)=(x5.length : Int)) (
 Nd (longRel [.lst x0] [.lst x5, .int 0]) (
 True)))))∧(¬ (x4=0) →
 Nd (¬ (x3 < 0)) (
 Nd (x3 < (x1.length : Int)) (
 Nd (x3 < (x1.length : Int)) (
((((Sx.cellAt x1 x3 0).toInt=x4) →
 Nd ((Sx.cellAt x1 x3 0).toInt=x4) (
 Nd ((Sx.cellAt x1 x3 0).toInt=x4) (
 Nd ((Sx.cellAt x1 x3 0).toInt=x4) (
(((0 < (x5.length : Int)) →
 Nd (0 < (x5.length : Int)) (
 Nd (0 < (x5.length : Int)) (
 Nd (0 < (x5.length : Int)) (
 Nd (0 < (x5.length : Int)) (
 Nd ((¬ (((x5.length : Int)+(-1)) < (-9223372036854775808)))∧(((x5.length : Int)+(-1)) < 9223372036854775808)) (
 Nd (0 < (x5.length : Int)) (
 Nd (¬ (((x5.length : Int)+(-1)) < 0)) (
 Nd (((x5.length : Int)+(-1)) < (x5.length : Int)) (
 Nd (0 < (x5.length : Int)) (
 Nd (((x5.length : Int)+(-1)) < (x5.length : Int)) (
 Nd (0 < (x5.length : Int)) (
 Nd (¬ ((Sx.cellAt x5 ((x5.length : Int)+(-1)) 0).toInt < 0)) (
 Nd ((Sx.cellAt x5 ((x5.length : Int)+(-1)) 0).toInt < (x0.length : Int)) (
 Nd (0 < (x5.length : Int)) (
 Nd (0 < (x5.length : Int)) (
 Nd (0 < (x5.length : Int)) (
 Nd ((Sx.cellAt x1 x3 0).toInt=x4) (
 Nd (0 < (x5.length : Int)) (
 Nd ((Sx.cellAt x1 x3 0).toInt=x4) (
((((Sx.cellAt x0 (Sx.cellAt x5 ((x5.length : Int)+(-1)) 0).toInt 0).toInt < (Sx.cellAt x0 x3 0).toInt) →
 Nd (¬ ((x5.length : Int) < (x5.length : Int))) (
 Nd (((x5.length : Int)+1) < 67108865) (
(((x2 < ((x5.length : Int)+1)) →
(vcLong0 x3 x4 x5))∧(¬ (x2 < ((x5.length : Int)+1)) →
(vcLong1 x0 x1 x2 x3 x4 x5))))))∧(¬ ((Sx.cellAt x0 (Sx.cellAt x5 ((x5.length : Int)+(-1)) 0).toInt 0).toInt < (Sx.cellAt x0 x3 0).toInt) →
 Nd ((¬ ((x3+1) < (-9223372036854775808)))∧((x3+1) < 9223372036854775808)) (
 Nd (¬ ((x5.length : Int) < (x5.length : Int))) (
 Nd ((x5.length : Int)=(x5.length : Int)) (
 Nd (x2=x2) (
 Nd (¬ (x2 < x2)) (
 Nd (pickInv [.lst x0, .lst x1] [.int (x3+1), .int x4, .lst x5]) (
 Nd (pickMu [.lst x0, .lst x1] [.int (x3+1), .int x4, .lst x5] < pickMu [.lst x0, .lst x1] [.int x3, .int x4, .lst x5]) (
 True)))))))))))))))))))))))))))))∧(¬ (0 < (x5.length : Int)) →
 Nd (¬ (0 < (x5.length : Int))) (
 Nd (¬ (0 < (x5.length : Int))) (
 Nd (¬ (0 < (x5.length : Int))) (
 Nd (¬ (0 < (x5.length : Int))) (
 Nd (¬ (0 < (x5.length : Int))) (
 Nd (¬ (0 < (x5.length : Int))) (
 Nd (¬ (0 < (x5.length : Int))) (
 Nd (¬ (0 < (x5.length : Int))) (
 Nd (¬ (0 < (x5.length : Int))) (
 Nd (¬ (0 < (x5.length : Int))) (
 Nd ((Sx.cellAt x1 x3 0).toInt=x4) (
 Nd (¬ (0 < (x5.length : Int))) (
 Nd ((Sx.cellAt x1 x3 0).toInt=x4) (
 Nd (¬ ((x5.length : Int) < (x5.length : Int))) (
 Nd (((x5.length : Int)+1) < 67108865) (
(((x2 < ((x5.length : Int)+1)) →
(vcLong0 x3 x4 x5))∧(¬ (x2 < ((x5.length : Int)+1)) →
(vcLong1 x0 x1 x2 x3 x4 x5))))))))))))))))))))))))∧(¬ ((Sx.cellAt x1 x3 0).toInt=x4) →
 Nd (¬ ((Sx.cellAt x1 x3 0).toInt=x4)) (
 Nd (¬ ((Sx.cellAt x1 x3 0).toInt=x4)) (
 Nd (¬ ((Sx.cellAt x1 x3 0).toInt=x4)) (
 Nd (¬ ((Sx.cellAt x1 x3 0).toInt=x4)) (
 Nd (¬ ((Sx.cellAt x1 x3 0).toInt=x4)) (
 Nd ((¬ ((x3+1) < (-9223372036854775808)))∧((x3+1) < 9223372036854775808)) (
 Nd (¬ ((x5.length : Int) < (x5.length : Int))) (
 Nd ((x5.length : Int)=(x5.length : Int)) (
 Nd (x2=x2) (
 Nd (¬ (x2 < x2)) (
 Nd (pickInv [.lst x0, .lst x1] [.int (x3+1), .int x4, .lst x5]) (
 Nd (pickMu [.lst x0, .lst x1] [.int (x3+1), .int x4, .lst x5] < pickMu [.lst x0, .lst x1] [.int x3, .int x4, .lst x5]) (
 True))))))))))))))))))))))∧(¬ (x3 < (x0.length : Int)) →
 Nd (x2=(x5.length : Int)) (
 Nd (¬ ((x5.length : Int) < (x5.length : Int))) (
 Nd ((x5.length : Int)=(x5.length : Int)) (
 Nd (longRel [.lst x0] [.lst x5, .int 0]) (
 True))))))))))))))))))))
theorem vcLong_eq : (cvc Go.Proofs.Try.prog U0 cLong (sxF Go.Proofs.Try.prog U0 annsS (conOf Go.Proofs.Try.prog U0 (stageS 1)) 400 47)).vc U0 (fun _=>True)=vcLong:=by kernel_rfl
end Go.C36
