/- The conditions of contracts, as the engine's printer has written them, and that the kernel comes to the same.
  Conditions: none. -/
import Derived.Test.YtpdcecfnlccicaaK1
import Derived.Test.YtpdcecfnlccicaaRows
import Derived.KernelRfl
set_option linter.unusedVariables false
set_option maxRecDepth 100000
namespace Go.C36
open Go Go.Xe Go.Sx
def vcPcheckx : Prop :=
 ∀ x0 : Sx.Rows,
 ∀ x1 : Int,
(pcheckxPre [.lst x0, .int x1]) →
(((x1 < 1) →
 Nd (x1 < 1) (
 Nd (x1 < 1) (
 Nd (pcheckxRel [.lst x0, .int x1] [.int 1]) (
 True))))∧(¬ (x1 < 1) →
 Nd (¬ (x1 < 1)) (
 Nd (¬ (x1 < 1)) (
(((8 < x1) →
 Nd (pcheckxRel [.lst x0, .int x1] [.int 1]) (
 True))∧(¬ (8 < x1) →
(((1024 < (x0.length : Int)) →
 Nd (pcheckxRel [.lst x0, .int x1] [.int 3]) (
 True))∧(¬ (1024 < (x0.length : Int)) →
 Nd (psInv [.lst x0, .int x1] [.int 0, .lst ([] : Sx.Rows)]) (
 ∀ x2 : Int,
 ∀ x3 : Sx.Rows,
(psInv [.lst x0, .int x1] [.int x2, .lst x3]) →
(((x2 < (x0.length : Int)) →
 Nd (¬ (x2 < 0)) (
 Nd (x2 < (x0.length : Int)) (
((((Sx.cellAt x0 x2 0).toInt=0) →
 Nd (pcheckxRel [.lst x0, .int x1] [.int 9]) (
 True))∧(¬ ((Sx.cellAt x0 x2 0).toInt=0) →
 Nd ((¬ ((Sx.cellAt x0 x2 1).toInt < (-9223372036854775808)))∧((Sx.cellAt x0 x2 1).toInt < 9223372036854775808)) (
((((Sx.cellAt x0 x2 1).toInt < x1) →
((((Sx.mgetR x3 [(Sx.cellAt x0 x2 0).toInt] (.bool false)).toBool=true) →
 Nd (pcheckxRel [.lst x0, .int x1] [.int 8]) (
 True))∧(¬ ((Sx.mgetR x3 [(Sx.cellAt x0 x2 0).toInt] (.bool false)).toBool=true) →
 Nd ((¬ ((x2+1) < (-9223372036854775808)))∧((x2+1) < 9223372036854775808)) (
 Nd (psInv [.lst x0, .int x1] [.int (x2+1), .lst (Sx.mputR x3 [(Sx.cellAt x0 x2 0).toInt] (.bool true))]) (
 Nd (psMu [.lst x0, .int x1] [.int (x2+1), .lst (Sx.mputR x3 [(Sx.cellAt x0 x2 0).toInt] (.bool true))] < psMu [.lst x0, .int x1] [.int x2, .lst x3]) (
 True))))))∧(¬ ((Sx.cellAt x0 x2 1).toInt < x1) →
 Nd (pcheckxRel [.lst x0, .int x1] [.int 1]) (
 True)))))))))∧(¬ (x2 < (x0.length : Int)) →
 Nd (pcheckxRel [.lst x0, .int x1] [.int 0]) (
 True))))))))))))
theorem vcPcheckx_eq : (cvc Go.Proofs.Try.prog U0 cPcheckx (sxF Go.Proofs.Try.prog U0 annsK (conL Go.Proofs.Try.prog U0 (stageK 0) (lendsK 0)) 400 24)).vc U0 (fun _=>True)=vcPcheckx:=by kernel_rfl
def vcOfx0 (x0 : Sx.Rows) (x1 : Sx.Rows) (x2 : Sx.Rows) (x3 : Sx.Rows) (x8 : Sx.Rows) : Prop :=
 ∀ x10 : Int,
 ∀ x11 : Sx.Rows,
 ∀ x12 : Sx.Rows,
 ∀ x13 : Sx.Rows,
 ∀ x14 : Sx.Rows,
(o4Inv [.lst x0, .lst x1, .lst x2, .lst x3, .lst x8] [.int x10, .lst x11, .lst x12, .lst x13, .lst x14]) →
(((x10 < (x0.length : Int)) →
 Nd (¬ (x10 < 0)) (
 Nd (x10 < (x0.length : Int)) (
((((Sx.mgetR x8 [(Sx.cellAt x0 x10 0).toInt,(Sx.cellAt x0 x10 1).toInt] (.bool false)).toBool=true) →
 Nd (¬ ((x11.length : Int) < (x11.length : Int))) (
 Nd (((x11.length : Int)+1) < 67108865) (
 Nd ((x11.length : Int)=(x11.length : Int)) (
 Nd ((¬ ((x10+1) < (-9223372036854775808)))∧((x10+1) < 9223372036854775808)) (
 Nd (¬ (((x11.length : Int)+1) < ((x11.length : Int)+1))) (
 Nd (((x11.length : Int)+1)=((x11.length : Int)+1)) (
 Nd (¬ ((x12.length : Int) < (x12.length : Int))) (
 Nd ((x12.length : Int)=(x12.length : Int)) (
 Nd (¬ ((x14.length : Int) < (x14.length : Int))) (
 Nd ((x14.length : Int)=(x14.length : Int)) (
 Nd (o4Inv [.lst x0, .lst x1, .lst x2, .lst x3, .lst x8] [.int (x10+1), .lst (x11 ++ (Sx.chunk 1 1 [(.int x10)])), .lst x12, .lst (Sx.mputR x13 [(Sx.cellAt x0 x10 0).toInt,(Sx.cellAt x0 x10 1).toInt] (.int x10)), .lst x14]) (
 Nd (o4Mu [.lst x0, .lst x1, .lst x2, .lst x3, .lst x8] [.int (x10+1), .lst (x11 ++ (Sx.chunk 1 1 [(.int x10)])), .lst x12, .lst (Sx.mputR x13 [(Sx.cellAt x0 x10 0).toInt,(Sx.cellAt x0 x10 1).toInt] (.int x10)), .lst x14] < o4Mu [.lst x0, .lst x1, .lst x2, .lst x3, .lst x8] [.int x10, .lst x11, .lst x12, .lst x13, .lst x14]) (
 True)))))))))))))∧(¬ ((Sx.mgetR x8 [(Sx.cellAt x0 x10 0).toInt,(Sx.cellAt x0 x10 1).toInt] (.bool false)).toBool=true) →
 Nd (¬ ((Sx.cellAt x0 x10 1).toInt < 0)) (
 Nd ((Sx.cellAt x0 x10 1).toInt < (x12.length : Int)) (
 Nd ((Sx.cellAt x0 x10 1).toInt < (x12.length : Int)) (
 Nd (¬ ((Sx.cellAt x0 x10 1).toInt < 0)) (
 Nd ((Sx.cellAt x0 x10 1).toInt < (x3.length : Int)) (
((((Sx.cellAt x12 (Sx.cellAt x0 x10 1).toInt 0).toInt < (Sx.cellAt x3 (Sx.cellAt x0 x10 1).toInt 0).toInt) →
 Nd (¬ ((Sx.cellAt x0 x10 1).toInt < 0)) (
 Nd ((Sx.cellAt x0 x10 1).toInt < (x12.length : Int)) (
 Nd ((Sx.cellAt x0 x10 1).toInt < (x12.length : Int)) (
 Nd ((¬ (((Sx.cellAt x12 (Sx.cellAt x0 x10 1).toInt 0).toInt+1) < (-9223372036854775808)))∧(((Sx.cellAt x12 (Sx.cellAt x0 x10 1).toInt 0).toInt+1) < 9223372036854775808)) (
 Nd (¬ ((Sx.cellAt x0 x10 1).toInt < 0)) (
 Nd ((Sx.cellAt x0 x10 1).toInt < (x12.length : Int)) (
 Nd ((Sx.cellAt x0 x10 1).toInt < (x12.length : Int)) (
 Nd (¬ ((x14.length : Int) < (x14.length : Int))) (
 Nd (((x14.length : Int)+1) < 67108865) (
 Nd ((x14.length : Int)=(x14.length : Int)) (
 Nd ((¬ ((x10+1) < (-9223372036854775808)))∧((x10+1) < 9223372036854775808)) (
 Nd (¬ ((x11.length : Int) < (x11.length : Int))) (
 Nd ((x11.length : Int)=(x11.length : Int)) (
 Nd (¬ ((x12.length : Int) < (x12.length : Int))) (
 Nd ((x12.length : Int)=(x12.length : Int)) (
 Nd (¬ (((x14.length : Int)+1) < ((x14.length : Int)+1))) (
 Nd (((x14.length : Int)+1)=((x14.length : Int)+1)) (
 Nd (o4Inv [.lst x0, .lst x1, .lst x2, .lst x3, .lst x8] [.int (x10+1), .lst x11, .lst (Sx.setAt x12 (Sx.cellAt x0 x10 1).toInt 0 (.int ((Sx.cellAt x12 (Sx.cellAt x0 x10 1).toInt 0).toInt+1))), .lst x13, .lst (x14 ++ (Sx.chunk 2 1 [(.int x10),(.bool (!(decide ((Sx.cellAt x12 (Sx.cellAt x0 x10 1).toInt 0).toInt < (Sx.cellAt x3 (Sx.cellAt x0 x10 1).toInt 0).toInt))))]))]) (
 Nd (o4Mu [.lst x0, .lst x1, .lst x2, .lst x3, .lst x8] [.int (x10+1), .lst x11, .lst (Sx.setAt x12 (Sx.cellAt x0 x10 1).toInt 0 (.int ((Sx.cellAt x12 (Sx.cellAt x0 x10 1).toInt 0).toInt+1))), .lst x13, .lst (x14 ++ (Sx.chunk 2 1 [(.int x10),(.bool (!(decide ((Sx.cellAt x12 (Sx.cellAt x0 x10 1).toInt 0).toInt < (Sx.cellAt x3 (Sx.cellAt x0 x10 1).toInt 0).toInt))))]))] < o4Mu [.lst x0, .lst x1, .lst x2, .lst x3, .lst x8] [.int x10, .lst x11, .lst x12, .lst x13, .lst x14]) (
 True))))))))))))))))))))∧(¬ ((Sx.cellAt x12 (Sx.cellAt x0 x10 1).toInt 0).toInt < (Sx.cellAt x3 (Sx.cellAt x0 x10 1).toInt 0).toInt) →
 Nd (¬ ((x14.length : Int) < (x14.length : Int))) (
 Nd (((x14.length : Int)+1) < 67108865) (
 Nd ((x14.length : Int)=(x14.length : Int)) (
 Nd ((¬ ((x10+1) < (-9223372036854775808)))∧((x10+1) < 9223372036854775808)) (
 Nd (¬ ((x11.length : Int) < (x11.length : Int))) (
 Nd ((x11.length : Int)=(x11.length : Int)) (
 Nd (¬ ((x12.length : Int) < (x12.length : Int))) (
 Nd ((x12.length : Int)=(x12.length : Int)) (
 Nd (¬ (((x14.length : Int)+1) < ((x14.length : Int)+1))) (
 Nd (((x14.length : Int)+1)=((x14.length : Int)+1)) (
 Nd (o4Inv [.lst x0, .lst x1, .lst x2, .lst x3, .lst x8] [.int (x10+1), .lst x11, .lst x12, .lst x13, .lst (x14 ++ (Sx.chunk 2 1 [(.int x10),(.bool (!(decide ((Sx.cellAt x12 (Sx.cellAt x0 x10 1).toInt 0).toInt < (Sx.cellAt x3 (Sx.cellAt x0 x10 1).toInt 0).toInt))))]))]) (
 Nd (o4Mu [.lst x0, .lst x1, .lst x2, .lst x3, .lst x8] [.int (x10+1), .lst x11, .lst x12, .lst x13, .lst (x14 ++ (Sx.chunk 2 1 [(.int x10),(.bool (!(decide ((Sx.cellAt x12 (Sx.cellAt x0 x10 1).toInt 0).toInt < (Sx.cellAt x3 (Sx.cellAt x0 x10 1).toInt 0).toInt))))]))] < o4Mu [.lst x0, .lst x1, .lst x2, .lst x3, .lst x8] [.int x10, .lst x11, .lst x12, .lst x13, .lst x14]) (
 True))))))))))))))))))))))))∧(¬ (x10 < (x0.length : Int)) →
 Nd (¬ ((x12.length : Int) < (x12.length : Int))) (
 Nd ((x12.length : Int)=(x12.length : Int)) (
 Nd (¬ ((x14.length : Int) < (x14.length : Int))) (
 Nd ((x14.length : Int)=(x14.length : Int)) (
 Nd (o6Inv [.lst x0, .lst x1, .lst x3, .lst x13, .lst x14, .lst x12] [.int 0, .lst x12, .lst ([] : Sx.Rows), .lst x14, .lst ([] : Sx.Rows)]) (
 ∀ x15 : Int,
 ∀ x16 : Sx.Rows,
 ∀ x17 : Sx.Rows,
 ∀ x18 : Sx.Rows,
 ∀ x19 : Sx.Rows,
(o6Inv [.lst x0, .lst x1, .lst x3, .lst x13, .lst x14, .lst x12] [.int x15, .lst x16, .lst x17, .lst x18, .lst x19]) →
(((x15 < (x1.length : Int)) →
 Nd (¬ (x15 < 0)) (
 Nd (x15 < (x1.length : Int)) (
((((Sx.mhasR x13 [(Sx.cellAt x1 x15 0).toInt,(Sx.cellAt x1 x15 1).toInt])=true) →
 Nd (¬ ((x17.length : Int) < (x17.length : Int))) (
 Nd (((x17.length : Int)+1) < 67108865) (
 Nd ((x17.length : Int)=(x17.length : Int)) (
 Nd (¬ ((x19.length : Int) < (x19.length : Int))) (
 Nd (((x19.length : Int)+1) < 67108865) (
 Nd ((x19.length : Int)=(x19.length : Int)) (
 Nd ((¬ ((x15+1) < (-9223372036854775808)))∧((x15+1) < 9223372036854775808)) (
 Nd (¬ ((x16.length : Int) < (x16.length : Int))) (
 Nd ((x16.length : Int)=(x16.length : Int)) (
 Nd (¬ (((x17.length : Int)+1) < ((x17.length : Int)+1))) (
 Nd (((x17.length : Int)+1)=((x17.length : Int)+1)) (
 Nd (¬ ((x18.length : Int) < (x18.length : Int))) (
 Nd ((x18.length : Int)=(x18.length : Int)) (
 Nd (¬ (((x19.length : Int)+1) < ((x19.length : Int)+1))) (
 Nd (((x19.length : Int)+1)=((x19.length : Int)+1)) (
 Nd (o6Inv [.lst x0, .lst x1, .lst x3, .lst x13, .lst x14, .lst x12] [.int (x15+1), .lst x16, .lst (x17 ++ (Sx.chunk 1 1 [(.int (Sx.mgetR x13 [(Sx.cellAt x1 x15 0).toInt,(Sx.cellAt x1 x15 1).toInt] (.int (0))).toInt)])), .lst x18, .lst (x19 ++ (Sx.chunk 3 1 [(.int (1)),(.int (Sx.mgetR x13 [(Sx.cellAt x1 x15 0).toInt,(Sx.cellAt x1 x15 1).toInt] (.int (0))).toInt),(.bool true)]))]) (
 Nd (o6Mu [.lst x0, .lst x1, .lst x3, .lst x13, .lst x14, .lst x12] [.int (x15+1), .lst x16, .lst (x17 ++ (Sx.chunk 1 1 [(.int (Sx.mgetR x13 [(Sx.cellAt x1 x15 0).toInt,(Sx.cellAt x1 x15 1).toInt] (.int (0))).toInt)])), .lst x18, .lst (x19 ++ (Sx.chunk 3 1 [(.int (1)),(.int (Sx.mgetR x13 [(Sx.cellAt x1 x15 0).toInt,(Sx.cellAt x1 x15 1).toInt] (.int (0))).toInt),(.bool true)]))] < o6Mu [.lst x0, .lst x1, .lst x3, .lst x13, .lst x14, .lst x12] [.int x15, .lst x16, .lst x17, .lst x18, .lst x19]) (
 True))))))))))))))))))∧(¬ ((Sx.mhasR x13 [(Sx.cellAt x1 x15 0).toInt,(Sx.cellAt x1 x15 1).toInt])=true) →
 Nd (¬ ((Sx.cellAt x1 x15 1).toInt < 0)) (
 Nd ((Sx.cellAt x1 x15 1).toInt < (x16.length : Int)) (
 Nd ((Sx.cellAt x1 x15 1).toInt < (x16.length : Int)) (
(((0 < (Sx.cellAt x16 (Sx.cellAt x1 x15 1).toInt 0).toInt) →
 Nd (¬ ((Sx.cellAt x1 x15 1).toInt < 0)) (
 Nd ((Sx.cellAt x1 x15 1).toInt < (x16.length : Int)) (
 Nd ((Sx.cellAt x1 x15 1).toInt < (x16.length : Int)) (
 Nd ((¬ (((Sx.cellAt x16 (Sx.cellAt x1 x15 1).toInt 0).toInt+(-1)) < (-9223372036854775808)))∧(((Sx.cellAt x16 (Sx.cellAt x1 x15 1).toInt 0).toInt+(-1)) < 9223372036854775808)) (
 Nd (¬ ((Sx.cellAt x1 x15 1).toInt < 0)) (
 Nd ((Sx.cellAt x1 x15 1).toInt < (x16.length : Int)) (
 Nd ((Sx.cellAt x1 x15 1).toInt < (x16.length : Int)) (
 Nd (¬ ((x19.length : Int) < (x19.length : Int))) (
 Nd (((x19.length : Int)+1) < 67108865) (
 Nd ((x19.length : Int)=(x19.length : Int)) (
 Nd ((¬ ((x15+1) < (-9223372036854775808)))∧((x15+1) < 9223372036854775808)) (
 Nd (¬ ((x16.length : Int) < (x16.length : Int))) (
 Nd ((x16.length : Int)=(x16.length : Int)) (
 Nd (¬ ((x17.length : Int) < (x17.length : Int))) (
 Nd ((x17.length : Int)=(x17.length : Int)) (
 Nd (¬ ((x18.length : Int) < (x18.length : Int))) (
 Nd ((x18.length : Int)=(x18.length : Int)) (
 Nd (¬ (((x19.length : Int)+1) < ((x19.length : Int)+1))) (
 Nd (((x19.length : Int)+1)=((x19.length : Int)+1)) (
 Nd (o6Inv [.lst x0, .lst x1, .lst x3, .lst x13, .lst x14, .lst x12] [.int (x15+1), .lst (Sx.setAt x16 (Sx.cellAt x1 x15 1).toInt 0 (.int ((Sx.cellAt x16 (Sx.cellAt x1 x15 1).toInt 0).toInt+(-1)))), .lst x17, .lst x18, .lst (x19 ++ (Sx.chunk 3 1 [(.int (2)),(.int (-1)),(.bool false)]))]) (
 Nd (o6Mu [.lst x0, .lst x1, .lst x3, .lst x13, .lst x14, .lst x12] [.int (x15+1), .lst (Sx.setAt x16 (Sx.cellAt x1 x15 1).toInt 0 (.int ((Sx.cellAt x16 (Sx.cellAt x1 x15 1).toInt 0).toInt+(-1)))), .lst x17, .lst x18, .lst (x19 ++ (Sx.chunk 3 1 [(.int (2)),(.int (-1)),(.bool false)]))] < o6Mu [.lst x0, .lst x1, .lst x3, .lst x13, .lst x14, .lst x12] [.int x15, .lst x16, .lst x17, .lst x18, .lst x19]) (
 True))))))))))))))))))))))∧(¬ (0 < (Sx.cellAt x16 (Sx.cellAt x1 x15 1).toInt 0).toInt) →
 Nd (¬ ((x19.length : Int) < (x19.length : Int))) (
 Nd (((x19.length : Int)+1) < 67108865) (
 Nd ((x19.length : Int)=(x19.length : Int)) (
 Nd ((¬ ((x15+1) < (-9223372036854775808)))∧((x15+1) < 9223372036854775808)) (
 Nd (¬ ((x16.length : Int) < (x16.length : Int))) (
 Nd ((x16.length : Int)=(x16.length : Int)) (
 Nd (¬ ((x17.length : Int) < (x17.length : Int))) (
 Nd ((x17.length : Int)=(x17.length : Int)) (
 Nd (¬ ((x18.length : Int) < (x18.length : Int))) (
 Nd ((x18.length : Int)=(x18.length : Int)) (
 Nd (¬ (((x19.length : Int)+1) < ((x19.length : Int)+1))) (
 Nd (((x19.length : Int)+1)=((x19.length : Int)+1)) (
 Nd (o6Inv [.lst x0, .lst x1, .lst x3, .lst x13, .lst x14, .lst x12] [.int (x15+1), .lst x16, .lst x17, .lst x18, .lst (x19 ++ (Sx.chunk 3 1 [(.int (3)),(.int (-1)),(.bool false)]))]) (
 Nd (o6Mu [.lst x0, .lst x1, .lst x3, .lst x13, .lst x14, .lst x12] [.int (x15+1), .lst x16, .lst x17, .lst x18, .lst (x19 ++ (Sx.chunk 3 1 [(.int (3)),(.int (-1)),(.bool false)]))] < o6Mu [.lst x0, .lst x1, .lst x3, .lst x13, .lst x14, .lst x12] [.int x15, .lst x16, .lst x17, .lst x18, .lst x19]) (
 True))))))))))))))))))))))))∧(¬ (x15 < (x1.length : Int)) →
 Nd (¬ ((x11.length : Int) < (x11.length : Int))) (
 Nd ((x11.length : Int)=(x11.length : Int)) (
 Nd (¬ ((x17.length : Int) < (x17.length : Int))) (
 Nd ((x17.length : Int)=(x17.length : Int)) (
 Nd (keptPre [.lst x11, .lst x17]) (
 ∀ x20 : Sx.Rows,
 ∀ x21 : Int,
(keptRel [.lst x11, .lst x17] [.lst x20, .int x21]) →
(((x21=0) →
 Nd (¬ ((x19.length : Int) < (x19.length : Int))) (
 Nd (o8Inv [.lst x19, .lst x20] [.lst x19, .int 0]) (
 ∀ x22 : Sx.Rows,
 ∀ x23 : Int,
(o8Inv [.lst x19, .lst x20] [.lst x22, .int x23]) →
(((x23 < (x19.length : Int)) →
 Nd (¬ (x23 < 0)) (
 Nd (x23 < (x19.length : Int)) (
 Nd (x23 < (x22.length : Int)) (
((((Sx.cellAt x22 x23 0).toInt=1) →
 Nd ((Sx.cellAt x22 x23 0).toInt=1) (
 Nd ((Sx.cellAt x22 x23 0).toInt=1) (
 Nd ((Sx.cellAt x22 x23 0).toInt=1) (
 Nd (idxPre [.lst x20, .int (Sx.cellAt x22 x23 1).toInt]) (
 ∀ x24 : Int,
(idxRel [.lst x20, .int (Sx.cellAt x22 x23 1).toInt] [.int x24]) →
 Nd ((Sx.cellAt x22 x23 0).toInt=1) (
(((x24 < 0) →
 Nd ((¬ ((x23+1) < (-9223372036854775808)))∧((x23+1) < 9223372036854775808)) (
 Nd (¬ ((x19.length : Int) < (x19.length : Int))) (
 Nd (o8Inv [.lst x19, .lst x20] [.lst x22, .int (x23+1)]) (
 Nd (o8Mu [.lst x19, .lst x20] [.lst x22, .int (x23+1)] < o8Mu [.lst x19, .lst x20] [.lst x22, .int x23]) (
 True)))))∧(¬ (x24 < 0) →
 Nd (¬ (x23 < 0)) (
 Nd (x23 < (x19.length : Int)) (
 Nd (x23 < (x22.length : Int)) (
 Nd ((¬ ((x23+1) < (-9223372036854775808)))∧((x23+1) < 9223372036854775808)) (
 Nd (¬ ((x19.length : Int) < (x19.length : Int))) (
 Nd (o8Inv [.lst x19, .lst x20] [.lst (Sx.setAt x22 x23 2 (.bool false)), .int (x23+1)]) (
 Nd (o8Mu [.lst x19, .lst x20] [.lst (Sx.setAt x22 x23 2 (.bool false)), .int (x23+1)] < o8Mu [.lst x19, .lst x20] [.lst x22, .int x23]) (
 True)))))))))))))))∧(¬ ((Sx.cellAt x22 x23 0).toInt=1) →
 Nd (¬ ((Sx.cellAt x22 x23 0).toInt=1)) (
 Nd (¬ ((Sx.cellAt x22 x23 0).toInt=1)) (
 Nd (¬ ((Sx.cellAt x22 x23 0).toInt=1)) (
 Nd (¬ ((Sx.cellAt x22 x23 0).toInt=1)) (
 Nd ((¬ ((x23+1) < (-9223372036854775808)))∧((x23+1) < 9223372036854775808)) (
 Nd (¬ ((x19.length : Int) < (x19.length : Int))) (
 Nd (o8Inv [.lst x19, .lst x20] [.lst x22, .int (x23+1)]) (
 Nd (o8Mu [.lst x19, .lst x20] [.lst x22, .int (x23+1)] < o8Mu [.lst x19, .lst x20] [.lst x22, .int x23]) (
 True))))))))))))))∧(¬ (x23 < (x19.length : Int)) →
 Nd (¬ ((x18.length : Int) < 0)) (
 Nd (¬ ((x18.length : Int) < (x18.length : Int))) (
 Nd (¬ ((x18.length : Int) < (x18.length : Int))) (
 Nd (¬ ((x19.length : Int) < 0)) (
 Nd (¬ ((x19.length : Int) < (x19.length : Int))) (
 Nd (¬ ((x19.length : Int) < (x19.length : Int))) (
 Nd (¬ ((x18.length : Int) < (x18.length : Int))) (
 Nd ((x18.length : Int)=(x18.length : Int)) (
 Nd ((x18.length : Int)=(x18.length : Int)) (
 Nd ((x18.length : Int) < 67108865) (
 Nd (¬ ((x22.length : Int) < (x19.length : Int))) (
 Nd ((x19.length : Int)=(x19.length : Int)) (
 Nd ((x19.length : Int) < 67108865) (
 Nd (ofxRel [.lst x0, .lst x1, .lst x2, .lst x3] [.lst x18, .lst (Sx.part x22 0 (x19.length : Int)), .int 0]) (
 True)))))))))))))))))))∧(¬ (x21=0) →
 Nd (ofxRel [.lst x0, .lst x1, .lst x2, .lst x3] [.lst ([] : Sx.Rows), .lst ([] : Sx.Rows), .int x21]) (
 True)))))))))))))))))
def vcOfx : Prop :=
 ∀ x0 : Sx.Rows,
 ∀ x1 : Sx.Rows,
 ∀ x2 : Sx.Rows,
 ∀ x3 : Sx.Rows,
(ofxPre [.lst x0, .lst x1, .lst x2, .lst x3]) →
 Nd (rightPre [.lst x2, .lst x3]) (
 ∀ x4 : Bool,
(rightRel [.lst x2, .lst x3] [.bool x4]) →
(((x4=true) →
 Nd (pcheckxPre [.lst x0, .int (x3.length : Int)]) (
 ∀ x5 : Int,
(pcheckxRel [.lst x0, .int (x3.length : Int)] [.int x5]) →
(((x5=0) →
 Nd (pcheckxPre [.lst x1, .int (x3.length : Int)]) (
 ∀ x6 : Int,
(pcheckxRel [.lst x1, .int (x3.length : Int)] [.int x6]) →
(((x6=0) →
 Nd (o2Inv [.lst x1] [.int 0, .lst ([] : Sx.Rows)]) (
 ∀ x7 : Int,
 ∀ x8 : Sx.Rows,
(o2Inv [.lst x1] [.int x7, .lst x8]) →
(((x7 < (x1.length : Int)) →
 Nd (¬ (x7 < 0)) (
 Nd (x7 < (x1.length : Int)) (
 Nd ((¬ ((x7+1) < (-9223372036854775808)))∧((x7+1) < 9223372036854775808)) (
 Nd (o2Inv [.lst x1] [.int (x7+1), .lst (Sx.mputR x8 [(Sx.cellAt x1 x7 0).toInt,(Sx.cellAt x1 x7 1).toInt] (.bool true))]) (
 Nd (o2Mu [.lst x1] [.int (x7+1), .lst (Sx.mputR x8 [(Sx.cellAt x1 x7 0).toInt,(Sx.cellAt x1 x7 1).toInt] (.bool true))] < o2Mu [.lst x1] [.int x7, .lst x8]) (
 True))))))∧(¬ (x7 < (x1.length : Int)) →
 ∀ x9 : Bool,
(((x9=true) →
((x2.length : Int)=0) →
 Nd (o4Inv [.lst x0, .lst x1, .lst x2, .lst x3, .lst x8] [.int 0, .lst ([] : Sx.Rows), .lst ([] : Sx.Rows), .lst ([] : Sx.Rows), .lst ([] : Sx.Rows)]) (
(vcOfx0 x0 x1 x2 x3 x8)))∧(¬ (x9=true) →
 Nd ((x2.length : Int) < 67108865) (
(((0 < (x2.length : Int)) →
 Nd (¬ ((x2.length : Int) < (x2.length : Int))) (
 Nd ((x2.length : Int)=(x2.length : Int)) (
 Nd (o4Inv [.lst x0, .lst x1, .lst x2, .lst x3, .lst x8] [.int 0, .lst ([] : Sx.Rows), .lst ((Sx.chunk 1 0 []) ++ x2), .lst ([] : Sx.Rows), .lst ([] : Sx.Rows)]) (
(vcOfx0 x0 x1 x2 x3 x8)))))∧(¬ (0 < (x2.length : Int)) →
 Nd (¬ (((Sx.over (Sx.chunk 1 0 []) 0 x2).length : Int) < (x2.length : Int))) (
 Nd (o4Inv [.lst x0, .lst x1, .lst x2, .lst x3, .lst x8] [.int 0, .lst ([] : Sx.Rows), .lst (Sx.part (Sx.over (Sx.chunk 1 0 []) 0 x2) 0 (x2.length : Int)), .lst ([] : Sx.Rows), .lst ([] : Sx.Rows)]) (
(vcOfx0 x0 x1 x2 x3 x8))))))))))))∧(¬ (x6=0) →
 Nd (ofxRel [.lst x0, .lst x1, .lst x2, .lst x3] [.lst ([] : Sx.Rows), .lst ([] : Sx.Rows), .int x6]) (
 True)))))∧(¬ (x5=0) →
 Nd (ofxRel [.lst x0, .lst x1, .lst x2, .lst x3] [.lst ([] : Sx.Rows), .lst ([] : Sx.Rows), .int x5]) (
 True)))))∧(¬ (x4=true) →
 Nd (ofxRel [.lst x0, .lst x1, .lst x2, .lst x3] [.lst ([] : Sx.Rows), .lst ([] : Sx.Rows), .int 1]) (
 True))))
theorem vcOfx_eq : (cvc Go.Proofs.Try.prog U0 cOfx (sxF Go.Proofs.Try.prog U0 annsK (conL Go.Proofs.Try.prog U0 (stageK 1) (lendsK 1)) 400 9)).vc U0 (fun _=>True)=vcOfx:=by kernel_rfl
def vcKn0 (x4 : Sx.Rows) : Prop :=
 Nd ((Sx.cellAt x4 0 2).toBool=true) (
 Nd ((Sx.cellAt x4 0 2).toBool=true) (
 Nd ((Sx.cellAt x4 0 2).toBool=true) (
 Nd ((Sx.cellAt x4 0 2).toBool=true) (
 Nd ((Sx.cellAt x4 0 2).toBool=true) (
 Nd ((Sx.cellAt x4 0 2).toBool=true) (
 Nd (knRel [] [.bool false]) (
 True)))))))
def vcKn : Prop :=
(knPre []) →
 Nd (kaInv [] [.int 0, .lst ([] : Sx.Rows), .lst ([] : Sx.Rows)]) (
 ∀ x0 : Int,
 ∀ x1 : Sx.Rows,
 ∀ x2 : Sx.Rows,
(kaInv [] [.int x0, .lst x1, .lst x2]) →
(((x0 < 1024) →
 Nd ((¬ ((x0+1) < (-9223372036854775808)))∧((x0+1) < 9223372036854775808)) (
 Nd ((¬ ((x0+1) < 0))∧((x0+1) < 18446744073709551616)) (
 Nd (¬ ((x1.length : Int) < (x1.length : Int))) (
 Nd (((x1.length : Int)+1) < 67108865) (
((((x1.length : Int) < 1024) →
 Nd ((x1.length : Int)=(x1.length : Int)) (
 Nd ((¬ ((1024 - x0) < (-9223372036854775808)))∧((1024 - x0) < 9223372036854775808)) (
 Nd ((¬ ((1024 - x0) < 0))∧((1024 - x0) < 18446744073709551616)) (
 Nd (¬ ((x2.length : Int) < (x2.length : Int))) (
 Nd (((x2.length : Int)+1) < 67108865) (
((((x2.length : Int) < 1024) →
 Nd ((x2.length : Int)=(x2.length : Int)) (
 Nd ((¬ ((x0+1) < (-9223372036854775808)))∧((x0+1) < 9223372036854775808)) (
 Nd (¬ (((x1.length : Int)+1) < ((x1.length : Int)+1))) (
 Nd (((x1.length : Int)+1)=((x1.length : Int)+1)) (
 Nd (¬ (((x2.length : Int)+1) < ((x2.length : Int)+1))) (
 Nd (((x2.length : Int)+1)=((x2.length : Int)+1)) (
 Nd (kaInv [] [.int (x0+1), .lst (x1 ++ (Sx.chunk 2 1 [(.int (x0+1)),(.int (0))])), .lst (x2 ++ (Sx.chunk 2 1 [(.int (1024 - x0)),(.int (0))]))]) (
 Nd (kaMu [] [.int (x0+1), .lst (x1 ++ (Sx.chunk 2 1 [(.int (x0+1)),(.int (0))])), .lst (x2 ++ (Sx.chunk 2 1 [(.int (1024 - x0)),(.int (0))]))] < kaMu [] [.int x0, .lst x1, .lst x2]) (
 True)))))))))∧(¬ ((x2.length : Int) < 1024) →
 Nd ((x2.length : Int)=(x2.length : Int)) (
 Nd ((x2.length : Int)=(x2.length : Int)) (
 Nd ((¬ ((x0+1) < (-9223372036854775808)))∧((x0+1) < 9223372036854775808)) (
 False )))))))))))∧(¬ ((x1.length : Int) < 1024) →
 Nd ((x1.length : Int)=(x1.length : Int)) (
 Nd ((x1.length : Int)=(x1.length : Int)) (
 Nd ((¬ ((1024 - x0) < (-9223372036854775808)))∧((1024 - x0) < 9223372036854775808)) (
 Nd ((¬ ((1024 - x0) < 0))∧((1024 - x0) < 18446744073709551616)) (
 Nd (¬ ((x2.length : Int) < (x2.length : Int))) (
 Nd (((x2.length : Int)+1) < 67108865) (
((((x2.length : Int) < 1024) →
 Nd ((x2.length : Int)=(x2.length : Int)) (
 Nd ((¬ ((x0+1) < (-9223372036854775808)))∧((x0+1) < 9223372036854775808)) (
 False )))∧(¬ ((x2.length : Int) < 1024) →
 Nd ((x2.length : Int)=(x2.length : Int)) (
 Nd ((x2.length : Int)=(x2.length : Int)) (
 Nd ((¬ ((x0+1) < (-9223372036854775808)))∧((x0+1) < 9223372036854775808)) (
 False ))))))))))))))))))∧(¬ (x0 < 1024) →
 Nd (¬ ((x1.length : Int) < (x1.length : Int))) (
 Nd ((x1.length : Int)=(x1.length : Int)) (
 Nd (¬ ((x2.length : Int) < (x2.length : Int))) (
 Nd ((x2.length : Int)=(x2.length : Int)) (
 Nd (ofxPre [.lst x1, .lst x2, .lst (Sx.chunk 1 1 [(.int (0))]), .lst (Sx.chunk 1 1 [(.int (0))])]) (
 ∀ x3 : Sx.Rows,
 ∀ x4 : Sx.Rows,
 ∀ x5 : Int,
(ofxRel [.lst x1, .lst x2, .lst (Sx.chunk 1 1 [(.int (0))]), .lst (Sx.chunk 1 1 [(.int (0))])] [.lst x3, .lst x4, .int x5]) →
 Nd (¬ ((x1.length : Int) < (x1.length : Int))) (
 Nd (((x1.length : Int)+1) < 67108865) (
((((x1.length : Int) < 1024) →
 Nd ((x1.length : Int)=(x1.length : Int)) (
 Nd (¬ (((x1.length : Int)+1) < ((x1.length : Int)+1))) (
 Nd (((x1.length : Int)+1)=((x1.length : Int)+1)) (
 Nd (¬ ((x2.length : Int) < (x2.length : Int))) (
 Nd ((x2.length : Int)=(x2.length : Int)) (
 Nd (ofxPre [.lst (x1 ++ (Sx.chunk 2 1 [(.int (2000)),(.int (0))])), .lst x2, .lst (Sx.chunk 1 1 [(.int (0))]), .lst (Sx.chunk 1 1 [(.int (0))])]) (
 ∀ x6 : Sx.Rows,
 ∀ x7 : Sx.Rows,
 ∀ x8 : Int,
(ofxRel [.lst (x1 ++ (Sx.chunk 2 1 [(.int (2000)),(.int (0))])), .lst x2, .lst (Sx.chunk 1 1 [(.int (0))]), .lst (Sx.chunk 1 1 [(.int (0))])] [.lst x6, .lst x7, .int x8]) →
(((x5=0) →
 Nd (x5=0) (
 Nd (x5=0) (
(((x8=3) →
 Nd (x8=3) (
 Nd (¬ ((x3.length : Int) < (x3.length : Int))) (
 Nd ((x3.length : Int)=(x3.length : Int)) (
 Nd (¬ ((x4.length : Int) < (x4.length : Int))) (
 Nd ((x4.length : Int)=(x4.length : Int)) (
 Nd (nstaysPre [.lst x3, .lst x4]) (
 ∀ x9 : Int,
(nstaysRel [.lst x3, .lst x4] [.int x9]) →
 Nd (x8=3) (
 Nd (x8=3) (
(((x9=1024) →
 Nd (x9=1024) (
 Nd (¬ ((x3.length : Int) < (x3.length : Int))) (
 Nd ((x3.length : Int)=(x3.length : Int)) (
 Nd (¬ ((x4.length : Int) < (x4.length : Int))) (
 Nd ((x4.length : Int)=(x4.length : Int)) (
 Nd (nmovesPre [.lst x3, .lst x4]) (
 ∀ x10 : Int,
(nmovesRel [.lst x3, .lst x4] [.int x10]) →
 Nd (x9=1024) (
 Nd (x9=1024) (
(((x10=1023) →
 Nd (x10=1023) (
 Nd (x10=1023) (
 Nd (0 < (x4.length : Int)) (
 Nd (x10=1023) (
 Nd (x10=1023) (
 Nd (0 < (x4.length : Int)) (
 Nd (x10=1023) (
((((Sx.cellAt x4 0 2).toBool=true) →
(vcKn0 x4))∧(¬ ((Sx.cellAt x4 0 2).toBool=true) →
 Nd (¬ ((Sx.cellAt x4 0 2).toBool=true)) (
 Nd (¬ ((Sx.cellAt x4 0 2).toBool=true)) (
 Nd (0 < (x4.length : Int)) (
 Nd (¬ ((Sx.cellAt x4 0 2).toBool=true)) (
 Nd (¬ ((Sx.cellAt x4 0 2).toBool=true)) (
 Nd (0 < (x4.length : Int)) (
 Nd (¬ ((Sx.cellAt x4 0 2).toBool=true)) (
 Nd (¬ ((Sx.cellAt x4 0 2).toBool=true)) (
((((Sx.cellAt x4 0 1).toInt=1023) →
 Nd (¬ ((x2.length : Int) < (x2.length : Int))) (
 Nd (kbInv [] [.lst x2, .int 0]) (
 ∀ x11 : Sx.Rows,
 ∀ x12 : Int,
(kbInv [] [.lst x11, .int x12]) →
(((x12 < 1024) →
 Nd (¬ (x12 < 0)) (
 Nd (x12 < (x1.length : Int)) (
 False )))∧(¬ (x12 < 1024) →
 False )))))∧(¬ ((Sx.cellAt x4 0 1).toInt=1023) →
 Nd (knRel [] [.bool false]) (
 True)))))))))))))))))))))∧(¬ (x10=1023) →
 Nd (¬ (x10=1023)) (
 Nd (¬ (x10=1023)) (
 Nd (¬ (x10=1023)) (
 Nd (¬ (x10=1023)) (
 Nd (¬ (x10=1023)) (
 Nd (knRel [] [.bool false]) (
 True)))))))))))))))))∧(¬ (x9=1024) →
 Nd (¬ (x9=1024)) (
 Nd (¬ (x9=1024)) (
 Nd (¬ (x9=1024)) (
 Nd (knRel [] [.bool false]) (
 True)))))))))))))))∧(¬ (x8=3) →
 Nd (¬ (x8=3)) (
 Nd (¬ (x8=3)) (
 Nd (¬ (x8=3)) (
 Nd (knRel [] [.bool false]) (
 True)))))))))∧(¬ (x5=0) →
 Nd (¬ (x5=0)) (
 Nd (¬ (x5=0)) (
 Nd (knRel [] [.bool false]) (
 True))))))))))))∧(¬ ((x1.length : Int) < 1024) →
 Nd ((x1.length : Int)=(x1.length : Int)) (
 Nd ((x1.length : Int)=(x1.length : Int)) (
 Nd (¬ ((x2.length : Int) < (x2.length : Int))) (
 Nd ((x2.length : Int)=(x2.length : Int)) (
 Nd (ofxPre [.lst (x1 ++ (Sx.chunk 2 1 [(.int (2000)),(.int (0))])), .lst x2, .lst (Sx.chunk 1 1 [(.int (0))]), .lst (Sx.chunk 1 1 [(.int (0))])]) (
 ∀ x6 : Sx.Rows,
 ∀ x7 : Sx.Rows,
 ∀ x8 : Int,
(ofxRel [.lst (x1 ++ (Sx.chunk 2 1 [(.int (2000)),(.int (0))])), .lst x2, .lst (Sx.chunk 1 1 [(.int (0))]), .lst (Sx.chunk 1 1 [(.int (0))])] [.lst x6, .lst x7, .int x8]) →
(((x5=0) →
 Nd (x5=0) (
 Nd (x5=0) (
(((x8=3) →
 Nd (x8=3) (
 Nd (¬ ((x3.length : Int) < (x3.length : Int))) (
 Nd ((x3.length : Int)=(x3.length : Int)) (
 Nd (¬ ((x4.length : Int) < (x4.length : Int))) (
 Nd ((x4.length : Int)=(x4.length : Int)) (
 Nd (nstaysPre [.lst x3, .lst x4]) (
 ∀ x9 : Int,
(nstaysRel [.lst x3, .lst x4] [.int x9]) →
 Nd (x8=3) (
 Nd (x8=3) (
(((x9=1024) →
 Nd (x9=1024) (
 Nd (¬ ((x3.length : Int) < (x3.length : Int))) (
 Nd ((x3.length : Int)=(x3.length : Int)) (
 Nd (¬ ((x4.length : Int) < (x4.length : Int))) (
 Nd ((x4.length : Int)=(x4.length : Int)) (
 Nd (nmovesPre [.lst x3, .lst x4]) (
 ∀ x10 : Int,
(nmovesRel [.lst x3, .lst x4] [.int x10]) →
 Nd (x9=1024) (
 Nd (x9=1024) (
(((x10=1023) →
 Nd (x10=1023) (
 Nd (x10=1023) (
 Nd (0 < (x4.length : Int)) (
 Nd (x10=1023) (
 Nd (x10=1023) (
 Nd (0 < (x4.length : Int)) (
 Nd (x10=1023) (
((((Sx.cellAt x4 0 2).toBool=true) →
(vcKn0 x4))∧(¬ ((Sx.cellAt x4 0 2).toBool=true) →
 Nd (¬ ((Sx.cellAt x4 0 2).toBool=true)) (
 Nd (¬ ((Sx.cellAt x4 0 2).toBool=true)) (
 Nd (0 < (x4.length : Int)) (
 Nd (¬ ((Sx.cellAt x4 0 2).toBool=true)) (
 Nd (¬ ((Sx.cellAt x4 0 2).toBool=true)) (
 Nd (0 < (x4.length : Int)) (
 Nd (¬ ((Sx.cellAt x4 0 2).toBool=true)) (
 Nd (¬ ((Sx.cellAt x4 0 2).toBool=true)) (
((((Sx.cellAt x4 0 1).toInt=1023) →
 Nd (¬ ((x2.length : Int) < (x2.length : Int))) (
 Nd (kbInv [] [.lst x2, .int 0]) (
 ∀ x11 : Sx.Rows,
 ∀ x12 : Int,
(kbInv [] [.lst x11, .int x12]) →
(((x12 < 1024) →
 Nd (¬ (x12 < 0)) (
 Nd (x12 < (x1.length : Int)) (
 Nd (x12 < (x1.length : Int)) (
 Nd (¬ (x12 < 0)) (
 Nd (x12 < (x2.length : Int)) (
 Nd (x12 < (x11.length : Int)) (
 Nd ((¬ ((x12+1) < (-9223372036854775808)))∧((x12+1) < 9223372036854775808)) (
 Nd (¬ ((x2.length : Int) < (x2.length : Int))) (
 Nd (kbInv [] [.lst (Sx.setAt (Sx.setAt x11 x12 0 (.int (Sx.cellAt x1 x12 0).toInt)) x12 1 (.int (1))), .int (x12+1)]) (
 Nd (kbMu [] [.lst (Sx.setAt (Sx.setAt x11 x12 0 (.int (Sx.cellAt x1 x12 0).toInt)) x12 1 (.int (1))), .int (x12+1)] < kbMu [] [.lst x11, .int x12]) (
 True)))))))))))∧(¬ (x12 < 1024) →
 Nd (¬ ((x1.length : Int) < (x1.length : Int))) (
 Nd ((x1.length : Int)=(x1.length : Int)) (
 Nd (¬ ((x11.length : Int) < (x2.length : Int))) (
 Nd (ofxPre [.lst x1, .lst (Sx.part x11 0 (x2.length : Int)), .lst (Sx.chunk 1 2 [(.int (5)),(.int (7))]), .lst (Sx.chunk 1 2 [(.int (105)),(.int (7))])]) (
 ∀ x13 : Sx.Rows,
 ∀ x14 : Sx.Rows,
 ∀ x15 : Int,
(ofxRel [.lst x1, .lst (Sx.part x11 0 (x2.length : Int)), .lst (Sx.chunk 1 2 [(.int (5)),(.int (7))]), .lst (Sx.chunk 1 2 [(.int (105)),(.int (7))])] [.lst x13, .lst x14, .int x15]) →
(((x15=0) →
 Nd (x15=0) (
 Nd (¬ ((x13.length : Int) < (x13.length : Int))) (
 Nd ((x13.length : Int)=(x13.length : Int)) (
 Nd (¬ ((x14.length : Int) < (x14.length : Int))) (
 Nd ((x14.length : Int)=(x14.length : Int)) (
 Nd (nstaysPre [.lst x13, .lst x14]) (
 ∀ x16 : Int,
(nstaysRel [.lst x13, .lst x14] [.int x16]) →
 Nd (x15=0) (
 Nd (x15=0) (
(((x16=0) →
 Nd (x16=0) (
 Nd (¬ ((x13.length : Int) < (x13.length : Int))) (
 Nd ((x13.length : Int)=(x13.length : Int)) (
 Nd (¬ ((x14.length : Int) < (x14.length : Int))) (
 Nd ((x14.length : Int)=(x14.length : Int)) (
 Nd (ndropsPre [.lst x13, .lst x14]) (
 ∀ x17 : Int,
(ndropsRel [.lst x13, .lst x14] [.int x17]) →
 Nd (x16=0) (
 Nd (x16=0) (
(((x17=924) →
 Nd (x17=924) (
 Nd (¬ ((x13.length : Int) < (x13.length : Int))) (
 Nd ((x13.length : Int)=(x13.length : Int)) (
 Nd (¬ ((x14.length : Int) < (x14.length : Int))) (
 Nd ((x14.length : Int)=(x14.length : Int)) (
 Nd (nbindsPre [.lst x13, .lst x14]) (
 ∀ x18 : Int,
(nbindsRel [.lst x13, .lst x14] [.int x18]) →
 Nd (x17=924) (
 Nd (x17=924) (
(((x18=7) →
 Nd (x18=7) (
 Nd (¬ ((x13.length : Int) < (x13.length : Int))) (
 Nd ((x13.length : Int)=(x13.length : Int)) (
 Nd (¬ ((x14.length : Int) < (x14.length : Int))) (
 Nd ((x14.length : Int)=(x14.length : Int)) (
 Nd (nmakesPre [.lst x13, .lst x14]) (
 ∀ x19 : Int,
(nmakesRel [.lst x13, .lst x14] [.int x19]) →
 Nd (x18=7) (
 Nd (x18=7) (
(((x19=1017) →
 Nd (livesPre []) (
 ∀ x20 : Bool,
(livesRel [] [.bool x20]) →
 Nd (x19=1017) (
 Nd (knRel [] [.bool x20]) (
 True))))∧(¬ (x19=1017) →
 Nd (¬ (x19=1017)) (
 Nd (knRel [] [.bool false]) (
 True)))))))))))))∧(¬ (x18=7) →
 Nd (¬ (x18=7)) (
 Nd (¬ (x18=7)) (
 Nd (¬ (x18=7)) (
 Nd (knRel [] [.bool false]) (
 True)))))))))))))))∧(¬ (x17=924) →
 Nd (¬ (x17=924)) (
 Nd (¬ (x17=924)) (
 Nd (¬ (x17=924)) (
 Nd (knRel [] [.bool false]) (
 True)))))))))))))))∧(¬ (x16=0) →
 Nd (¬ (x16=0)) (
 Nd (¬ (x16=0)) (
 Nd (¬ (x16=0)) (
 Nd (knRel [] [.bool false]) (
 True)))))))))))))))∧(¬ (x15=0) →
 Nd (¬ (x15=0)) (
 Nd (¬ (x15=0)) (
 Nd (¬ (x15=0)) (
 Nd (knRel [] [.bool false]) (
 True)))))))))))))))∧(¬ ((Sx.cellAt x4 0 1).toInt=1023) →
 Nd (knRel [] [.bool false]) (
 True)))))))))))))))))))))∧(¬ (x10=1023) →
 Nd (¬ (x10=1023)) (
 Nd (¬ (x10=1023)) (
 Nd (¬ (x10=1023)) (
 Nd (¬ (x10=1023)) (
 Nd (¬ (x10=1023)) (
 Nd (knRel [] [.bool false]) (
 True)))))))))))))))))∧(¬ (x9=1024) →
 Nd (¬ (x9=1024)) (
 Nd (¬ (x9=1024)) (
 Nd (¬ (x9=1024)) (
 Nd (knRel [] [.bool false]) (
 True)))))))))))))))∧(¬ (x8=3) →
 Nd (¬ (x8=3)) (
 Nd (¬ (x8=3)) (
 Nd (¬ (x8=3)) (
 Nd (knRel [] [.bool false]) (
 True)))))))))∧(¬ (x5=0) →
 Nd (¬ (x5=0)) (
 Nd (¬ (x5=0)) (
 Nd (knRel [] [.bool false]) (
 True))))))))))))))))))))))
theorem vcKn_eq : (cvc Go.Proofs.Try.prog U0 cKn (sxF Go.Proofs.Try.prog U0 annsK (conL Go.Proofs.Try.prog U0 (stageK 2) (lendsK 2)) 400 7)).vc U0 (fun _=>True)=vcKn:=by kernel_rfl
end Go.C36
