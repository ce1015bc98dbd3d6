/- The conditions of contracts, as the engine's printer has written them, and that the kernel comes to the same.
  Conditions: none. -/
import Derived.Test.YtpdcecfnlccicaaR6
import Derived.Test.YtpdcecfnlccicaaRows
import Derived.KernelRfl
set_option linter.unusedVariables false
set_option maxRecDepth 100000
namespace Go.C36
open Go Go.Xe Go.Sx
def vcCheck : Prop :=
 ∀ x0 : Sx.Rows,
(checkPre [.lst x0]) →
(((4096 < (x0.length : Int)) →
 Nd (checkRel [.lst x0] [.int 3]) (
 True))∧(¬ (4096 < (x0.length : Int)) →
 Nd (seenInv [.lst x0] [.int 0, .lst ([] : Sx.Rows)]) (
 ∀ x1 : Int,
 ∀ x2 : Sx.Rows,
(seenInv [.lst x0] [.int x1, .lst x2]) →
(((x1 < (x0.length : Int)) →
 Nd (¬ (x1 < 0)) (
 Nd (x1 < (x0.length : Int)) (
((((Sx.cellAt x0 x1 0).toInt < 0) →
 Nd (checkRel [.lst x0] [.int 1]) (
 True))∧(¬ ((Sx.cellAt x0 x1 0).toInt < 0) →
((((Sx.mgetR x2 [(Sx.cellAt x0 x1 0).toInt] (.bool false)).toBool=true) →
 Nd (checkRel [.lst x0] [.int 8]) (
 True))∧(¬ ((Sx.mgetR x2 [(Sx.cellAt x0 x1 0).toInt] (.bool false)).toBool=true) →
 Nd ((¬ ((x1+1) < (-9223372036854775808)))∧((x1+1) < 9223372036854775808)) (
 Nd (seenInv [.lst x0] [.int (x1+1), .lst (Sx.mputR x2 [(Sx.cellAt x0 x1 0).toInt] (.bool true))]) (
 Nd (seenMu [.lst x0] [.int (x1+1), .lst (Sx.mputR x2 [(Sx.cellAt x0 x1 0).toInt] (.bool true))] < seenMu [.lst x0] [.int x1, .lst x2]) (
 True))))))))))∧(¬ (x1 < (x0.length : Int)) →
 Nd (checkRel [.lst x0] [.int 0]) (
 True))))))
theorem vcCheck_eq : (cvc Go.Proofs.Try.prog U0 cCheck (sxF Go.Proofs.Try.prog U0 annsV (conOf Go.Proofs.Try.prog U0 (stageV 0)) 400 46)).vc U0 (fun _=>True)=vcCheck:=by kernel_rfl
def vcKepti : Prop :=
 ∀ x0 : Sx.Rows,
 ∀ x1 : Sx.Rows,
(keptiPre [.lst x0, .lst x1]) →
 Nd (checkPre [.lst x0]) (
 ∀ x2 : Int,
(checkRel [.lst x0] [.int x2]) →
(((x2=0) →
 Nd (checkPre [.lst x1]) (
 ∀ x3 : Int,
(checkRel [.lst x1] [.int x3]) →
(((x3=0) →
 Nd (plInv [.lst x0] [.int 0, .lst ([] : Sx.Rows)]) (
 ∀ x4 : Int,
 ∀ x5 : Sx.Rows,
(plInv [.lst x0] [.int x4, .lst x5]) →
(((x4 < (x0.length : Int)) →
 Nd (¬ (x4 < 0)) (
 Nd (x4 < (x0.length : Int)) (
 Nd ((¬ ((x4+1) < (-9223372036854775808)))∧((x4+1) < 9223372036854775808)) (
 Nd (plInv [.lst x0] [.int (x4+1), .lst (Sx.mputR x5 [(Sx.cellAt x0 x4 0).toInt] (.int x4))]) (
 Nd (plMu [.lst x0] [.int (x4+1), .lst (Sx.mputR x5 [(Sx.cellAt x0 x4 0).toInt] (.int x4))] < plMu [.lst x0] [.int x4, .lst x5]) (
 True))))))∧(¬ (x4 < (x0.length : Int)) →
 Nd (¬ ((x1.length : Int) < 0)) (
 Nd (¬ ((x1.length : Int) < (x1.length : Int))) (
 Nd ((x1.length : Int) < 1048577) (
 Nd (¬ (((List.replicate ((x1.length : Int)).toNat [(.int (0))] : Sx.Rows).length : Int) < (x1.length : Int))) (
 Nd ((x1.length : Int)=(x1.length : Int)) (
 Nd (¬ ((x1.length : Int) < (x1.length : Int))) (
 Nd (orInv [.lst x0, .lst x1] [.int 0, .lst (Sx.part (List.replicate ((x1.length : Int)).toNat [(.int (0))] : Sx.Rows) 0 (x1.length : Int))]) (
 ∀ x6 : Int,
 ∀ x7 : Sx.Rows,
(orInv [.lst x0, .lst x1] [.int x6, .lst x7]) →
(((x6 < (x1.length : Int)) →
 Nd (¬ (x6 < 0)) (
 Nd (x6 < (x1.length : Int)) (
((((Sx.mhasR x5 [(Sx.cellAt x1 x6 0).toInt])=true) →
 Nd ((Sx.mhasR x5 [(Sx.cellAt x1 x6 0).toInt])=true) (
 Nd ((Sx.mhasR x5 [(Sx.cellAt x1 x6 0).toInt])=true) (
 Nd ((Sx.mhasR x5 [(Sx.cellAt x1 x6 0).toInt])=true) (
 Nd ((Sx.mhasR x5 [(Sx.cellAt x1 x6 0).toInt])=true) (
 Nd ((Sx.mhasR x5 [(Sx.cellAt x1 x6 0).toInt])=true) (
((((x0.length : Int)=(x1.length : Int)) →
 Nd (¬ (x6 < 0)) (
 Nd (x6 < (x7.length : Int)) (
 Nd (¬ ((x7.length : Int) < x6)) (
 Nd (x6 < (x1.length : Int)) (
 Nd ((¬ ((x6+1) < (-9223372036854775808)))∧((x6+1) < 9223372036854775808)) (
 Nd (¬ (((Sx.over x7 x6 (Sx.chunk 1 1 [(.int (Sx.mgetR x5 [(Sx.cellAt x1 x6 0).toInt] (.int (0))).toInt)])).length : Int) < (x7.length : Int))) (
 Nd ((x1.length : Int)=(x1.length : Int)) (
 Nd (¬ ((x1.length : Int) < (x1.length : Int))) (
 Nd (orInv [.lst x0, .lst x1] [.int (x6+1), .lst (Sx.part (Sx.over x7 x6 (Sx.chunk 1 1 [(.int (Sx.mgetR x5 [(Sx.cellAt x1 x6 0).toInt] (.int (0))).toInt)])) 0 (x7.length : Int))]) (
 Nd (orMu [.lst x0, .lst x1] [.int (x6+1), .lst (Sx.part (Sx.over x7 x6 (Sx.chunk 1 1 [(.int (Sx.mgetR x5 [(Sx.cellAt x1 x6 0).toInt] (.int (0))).toInt)])) 0 (x7.length : Int))] < orMu [.lst x0, .lst x1] [.int x6, .lst x7]) (
 True)))))))))))∧(¬ ((x0.length : Int)=(x1.length : Int)) →
 Nd (keptiRel [.lst x0, .lst x1] [.lst ([] : Sx.Rows), .int 16]) (
 True)))))))))∧(¬ ((Sx.mhasR x5 [(Sx.cellAt x1 x6 0).toInt])=true) →
 Nd (¬ ((Sx.mhasR x5 [(Sx.cellAt x1 x6 0).toInt])=true)) (
 Nd (¬ ((Sx.mhasR x5 [(Sx.cellAt x1 x6 0).toInt])=true)) (
 Nd (¬ ((Sx.mhasR x5 [(Sx.cellAt x1 x6 0).toInt])=true)) (
 Nd (¬ ((Sx.mhasR x5 [(Sx.cellAt x1 x6 0).toInt])=true)) (
 Nd (¬ ((Sx.mhasR x5 [(Sx.cellAt x1 x6 0).toInt])=true)) (
 Nd (keptiRel [.lst x0, .lst x1] [.lst ([] : Sx.Rows), .int 16]) (
 True)))))))))))∧(¬ (x6 < (x1.length : Int)) →
((((x0.length : Int)=(x1.length : Int)) →
 Nd (¬ ((x7.length : Int) < (x7.length : Int))) (
 Nd ((x7.length : Int)=(x7.length : Int)) (
 Nd (longPre [.lst x7]) (
 ∀ x8 : Sx.Rows,
 ∀ x9 : Int,
(longRel [.lst x7] [.lst x8, .int x9]) →
 Nd (keptiRel [.lst x0, .lst x1] [.lst x8, .int x9]) (
 True)))))∧(¬ ((x0.length : Int)=(x1.length : Int)) →
 Nd (keptiRel [.lst x0, .lst x1] [.lst ([] : Sx.Rows), .int 16]) (
 True))))))))))))))))∧(¬ (x3=0) →
 Nd (keptiRel [.lst x0, .lst x1] [.lst ([] : Sx.Rows), .int x3]) (
 True)))))∧(¬ (x2=0) →
 Nd (keptiRel [.lst x0, .lst x1] [.lst ([] : Sx.Rows), .int x2]) (
 True))))
theorem vcKepti_eq : (cvc Go.Proofs.Try.prog U0 cKepti (sxF Go.Proofs.Try.prog U0 annsV (conOf Go.Proofs.Try.prog U0 (stageV 1)) 400 42)).vc U0 (fun _=>True)=vcKepti:=by kernel_rfl
def vcKept : Prop :=
 ∀ x0 : Sx.Rows,
 ∀ x1 : Sx.Rows,
(keptPre [.lst x0, .lst x1]) →
 Nd (keptiPre [.lst x0, .lst x1]) (
 ∀ x2 : Sx.Rows,
 ∀ x3 : Int,
(keptiRel [.lst x0, .lst x1] [.lst x2, .int x3]) →
(((x3=0) →
 Nd (x3=0) (
 Nd (x3=0) (
 Nd (x3=0) (
((((x2.length : Int)=0) →
 Nd (keptRel [.lst x0, .lst x1] [.lst ([] : Sx.Rows), .int x3]) (
 True))∧(¬ ((x2.length : Int)=0) →
 Nd (¬ ((x2.length : Int) < 0)) (
 Nd (¬ ((x2.length : Int) < (x2.length : Int))) (
 Nd ((x2.length : Int) < 1048577) (
 Nd (¬ (((List.replicate ((x2.length : Int)).toNat [(.int (0))] : Sx.Rows).length : Int) < (x2.length : Int))) (
 Nd ((x2.length : Int)=(x2.length : Int)) (
 Nd (¬ ((x2.length : Int) < (x2.length : Int))) (
 Nd (klInv [.lst x1, .lst x2] [.int 0, .lst (Sx.part (List.replicate ((x2.length : Int)).toNat [(.int (0))] : Sx.Rows) 0 (x2.length : Int))]) (
 ∀ x4 : Int,
 ∀ x5 : Sx.Rows,
(klInv [.lst x1, .lst x2] [.int x4, .lst x5]) →
(((x4 < (x2.length : Int)) →
 Nd (¬ (x4 < 0)) (
 Nd (x4 < (x2.length : Int)) (
 Nd (¬ ((Sx.cellAt x2 x4 0).toInt < 0)) (
 Nd ((Sx.cellAt x2 x4 0).toInt < (x1.length : Int)) (
 Nd (¬ (x4 < 0)) (
 Nd (x4 < (x5.length : Int)) (
 Nd (¬ ((x5.length : Int) < x4)) (
 Nd (x4 < (x2.length : Int)) (
 Nd ((¬ ((x4+1) < (-9223372036854775808)))∧((x4+1) < 9223372036854775808)) (
 Nd (¬ (((Sx.over x5 x4 (Sx.chunk 1 1 [(.int (Sx.cellAt x1 (Sx.cellAt x2 x4 0).toInt 0).toInt)])).length : Int) < (x5.length : Int))) (
 Nd ((x2.length : Int)=(x2.length : Int)) (
 Nd (¬ ((x2.length : Int) < (x2.length : Int))) (
 Nd (klInv [.lst x1, .lst x2] [.int (x4+1), .lst (Sx.part (Sx.over x5 x4 (Sx.chunk 1 1 [(.int (Sx.cellAt x1 (Sx.cellAt x2 x4 0).toInt 0).toInt)])) 0 (x5.length : Int))]) (
 Nd (klMu [.lst x1, .lst x2] [.int (x4+1), .lst (Sx.part (Sx.over x5 x4 (Sx.chunk 1 1 [(.int (Sx.cellAt x1 (Sx.cellAt x2 x4 0).toInt 0).toInt)])) 0 (x5.length : Int))] < klMu [.lst x1, .lst x2] [.int x4, .lst x5]) (
 True)))))))))))))))∧(¬ (x4 < (x2.length : Int)) →
 Nd ((x2.length : Int)=(x5.length : Int)) (
 Nd (¬ ((x5.length : Int) < (x5.length : Int))) (
 Nd ((x5.length : Int)=(x5.length : Int)) (
 Nd (keptRel [.lst x0, .lst x1] [.lst x5, .int 0]) (
 True)))))))))))))))))))∧(¬ (x3=0) →
 Nd (¬ (x3=0)) (
 Nd (¬ (x3=0)) (
 Nd (¬ (x3=0)) (
 Nd (keptRel [.lst x0, .lst x1] [.lst ([] : Sx.Rows), .int x3]) (
 True)))))))
theorem vcKept_eq : (cvc Go.Proofs.Try.prog U0 cKept (sxF Go.Proofs.Try.prog U0 annsV (conOf Go.Proofs.Try.prog U0 (stageV 2)) 400 30)).vc U0 (fun _=>True)=vcKept:=by kernel_rfl
end Go.C36
