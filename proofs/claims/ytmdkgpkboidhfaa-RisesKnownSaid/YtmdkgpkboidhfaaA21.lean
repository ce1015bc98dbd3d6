/- The conditions of contracts, as the engine's printer has written them, and that the kernel comes to the same.
  Conditions: none. -/
import Derived.Test.YtmdkgpkboidhfaaA20
import Derived.Test.YtmdkgpkboidhfaaRows
import Derived.KernelRfl
set_option linter.unusedVariables false
set_option maxRecDepth 100000
namespace Go.C08
open Go Go.Xe Go.Sx
def vcMoves0 (x4 : Int) (x6 : Sx.Rows) : Prop :=
 Nd ((x6.length : Int)=(x6.length : Int)) (
 Nd ((¬ ((x4+(-1)) < (-9223372036854775808)))∧((x4+(-1)) < 9223372036854775808)) (
 Nd (¬ (((x6.length : Int)+1) < ((x6.length : Int)+1))) (
 Nd (((x6.length : Int)+1)=((x6.length : Int)+1)) (
 False ))))
def vcMoves1 (x1 : Sx.Rows) (x2 : Sx.Rows) (x4 : Int) (x5 : Sx.Rows) (x6 : Sx.Rows) (x7 : Int) : Prop :=
 Nd (¬ (((x1.length : Int) - (x2.length : Int)) < ((x1.length : Int) - (x2.length : Int)))) (
 Nd ((¬ ((x4+(-1)) < (-9223372036854775808)))∧((x4+(-1)) < 9223372036854775808)) (
 Nd (¬ (((Sx.over x6 (x6.length : Int) (Sx.chunk 2 1 [(.int (Sx.cellAt x1 x4 0).toInt),(.int x7)])).length : Int) < ((x6.length : Int)+1))) (
 Nd (((x1.length : Int) - (x2.length : Int))=((x1.length : Int) - (x2.length : Int))) (
 Nd (¬ (((x1.length : Int) - (x2.length : Int)) < ((x1.length : Int) - (x2.length : Int)))) (
 Nd (mvInv [.lst x1, .lst x2] [.int (x4+(-1)), .lst x5, .lst (Sx.part (Sx.over x6 (x6.length : Int) (Sx.chunk 2 1 [(.int (Sx.cellAt x1 x4 0).toInt),(.int x7)])) 0 ((x6.length : Int)+1)), .int (Sx.cellAt x1 x4 0).toInt]) (
 Nd (mvMu [.lst x1, .lst x2] [.int (x4+(-1)), .lst x5, .lst (Sx.part (Sx.over x6 (x6.length : Int) (Sx.chunk 2 1 [(.int (Sx.cellAt x1 x4 0).toInt),(.int x7)])) 0 ((x6.length : Int)+1)), .int (Sx.cellAt x1 x4 0).toInt] < mvMu [.lst x1, .lst x2] [.int x4, .lst x5, .lst x6, .int x7]) (
 True)))))))
def vcMoves : Prop :=
 ∀ x0 : Sx.Rows,
 ∀ x1 : Sx.Rows,
(movesPre [.lst x0, .lst x1]) →
 Nd (keptiPre [.lst x0, .lst x1]) (
 ∀ x2 : Sx.Rows,
 ∀ x3 : Int,
(keptiRel [.lst x0, .lst x1] [.lst x2, .int x3]) →
(((x3=0) →
 Nd (x3=0) (
 Nd (x3=0) (
 Nd (x3=0) (
 Nd (x3=0) (
 Nd (x3=0) (
((((x2.length : Int)=(x1.length : Int)) →
 Nd (movesRel [.lst x0, .lst x1] [.lst ([] : Sx.Rows), .int x3]) (
 True))∧(¬ ((x2.length : Int)=(x1.length : Int)) →
 Nd ((¬ (((x1.length : Int) - (x2.length : Int)) < (-9223372036854775808)))∧(((x1.length : Int) - (x2.length : Int)) < 9223372036854775808)) (
 Nd (¬ (((x1.length : Int) - (x2.length : Int)) < 0)) (
 Nd (((x1.length : Int) - (x2.length : Int)) < 1048577) (
 Nd ((¬ (((x1.length : Int)+(-1)) < (-9223372036854775808)))∧(((x1.length : Int)+(-1)) < 9223372036854775808)) (
 Nd (¬ (((List.replicate (((x1.length : Int) - (x2.length : Int))).toNat [(.int (0)),(.int (0))] : Sx.Rows).length : Int) < 0)) (
 Nd (((x1.length : Int) - (x2.length : Int))=((x1.length : Int) - (x2.length : Int))) (
 Nd (¬ (((x1.length : Int) - (x2.length : Int)) < ((x1.length : Int) - (x2.length : Int)))) (
 Nd (mvInv [.lst x1, .lst x2] [.int ((x1.length : Int)+(-1)), .lst x2, .lst (Sx.part (List.replicate (((x1.length : Int) - (x2.length : Int))).toNat [(.int (0)),(.int (0))] : Sx.Rows) 0 0), .int (-1)]) (
 ∀ x4 : Int,
 ∀ x5 : Sx.Rows,
 ∀ x6 : Sx.Rows,
 ∀ x7 : Int,
(mvInv [.lst x1, .lst x2] [.int x4, .lst x5, .lst x6, .int x7]) →
(((x4 < 0) →
 Nd (((x1.length : Int) - (x2.length : Int))=(x6.length : Int)) (
 Nd (¬ ((x6.length : Int) < (x6.length : Int))) (
 Nd ((x6.length : Int)=(x6.length : Int)) (
 Nd (movesRel [.lst x0, .lst x1] [.lst x6, .int 0]) (
 True)))))∧(¬ (x4 < 0) →
 Nd (¬ (x4 < 0)) (
 Nd (x4 < (x1.length : Int)) (
(((0 < (x5.length : Int)) →
 Nd (0 < (x5.length : Int)) (
 Nd (0 < (x5.length : Int)) (
 Nd ((¬ (((x5.length : Int)+(-1)) < (-9223372036854775808)))∧(((x5.length : Int)+(-1)) < 9223372036854775808)) (
 Nd (0 < (x5.length : Int)) (
 Nd (¬ (((x5.length : Int)+(-1)) < 0)) (
 Nd (((x5.length : Int)+(-1)) < (x5.length : Int)) (
 Nd (0 < (x5.length : Int)) (
 Nd (0 < (x5.length : Int)) (
 Nd (0 < (x5.length : Int)) (
 Nd (0 < (x5.length : Int)) (
((((Sx.cellAt x5 ((x5.length : Int)+(-1)) 0).toInt=x4) →
 Nd ((¬ (((x5.length : Int)+(-1)) < (-9223372036854775808)))∧(((x5.length : Int)+(-1)) < 9223372036854775808)) (
 Nd (¬ (((x5.length : Int)+(-1)) < 0)) (
 Nd (¬ ((x5.length : Int) < ((x5.length : Int)+(-1)))) (
 Nd ((¬ ((x4+(-1)) < (-9223372036854775808)))∧((x4+(-1)) < 9223372036854775808)) (
 Nd (¬ ((x6.length : Int) < (x6.length : Int))) (
 Nd ((x6.length : Int)=(x6.length : Int)) (
 Nd (((x1.length : Int) - (x2.length : Int))=((x1.length : Int) - (x2.length : Int))) (
 Nd (¬ (((x1.length : Int) - (x2.length : Int)) < ((x1.length : Int) - (x2.length : Int)))) (
 Nd (mvInv [.lst x1, .lst x2] [.int (x4+(-1)), .lst (Sx.part x5 0 ((x5.length : Int)+(-1))), .lst x6, .int (Sx.cellAt x1 x4 0).toInt]) (
 Nd (mvMu [.lst x1, .lst x2] [.int (x4+(-1)), .lst (Sx.part x5 0 ((x5.length : Int)+(-1))), .lst x6, .int (Sx.cellAt x1 x4 0).toInt] < mvMu [.lst x1, .lst x2] [.int x4, .lst x5, .lst x6, .int x7]) (
 True)))))))))))∧(¬ ((Sx.cellAt x5 ((x5.length : Int)+(-1)) 0).toInt=x4) →
 Nd (¬ ((x6.length : Int) < (x6.length : Int))) (
 Nd (((x6.length : Int)+1) < 67108865) (
(((((x1.length : Int) - (x2.length : Int)) < ((x6.length : Int)+1)) →
(vcMoves0 x4 x6))∧(¬ (((x1.length : Int) - (x2.length : Int)) < ((x6.length : Int)+1)) →
(vcMoves1 x1 x2 x4 x5 x6 x7))))))))))))))))))∧(¬ (0 < (x5.length : Int)) →
 Nd (¬ (0 < (x5.length : Int))) (
 Nd (¬ (0 < (x5.length : Int))) (
 Nd (¬ (0 < (x5.length : Int))) (
 Nd (¬ (0 < (x5.length : Int))) (
 Nd (¬ (0 < (x5.length : Int))) (
 Nd (¬ (0 < (x5.length : Int))) (
 Nd (¬ (0 < (x5.length : Int))) (
 Nd (¬ ((x6.length : Int) < (x6.length : Int))) (
 Nd (((x6.length : Int)+1) < 67108865) (
(((((x1.length : Int) - (x2.length : Int)) < ((x6.length : Int)+1)) →
(vcMoves0 x4 x6))∧(¬ (((x1.length : Int) - (x2.length : Int)) < ((x6.length : Int)+1)) →
(vcMoves1 x1 x2 x4 x5 x6 x7))))))))))))))))))))))))))))))))))∧(¬ (x3=0) →
 Nd (¬ (x3=0)) (
 Nd (¬ (x3=0)) (
 Nd (¬ (x3=0)) (
 Nd (¬ (x3=0)) (
 Nd (¬ (x3=0)) (
 Nd (movesRel [.lst x0, .lst x1] [.lst ([] : Sx.Rows), .int x3]) (
 True)))))))))
theorem vcMoves_eq : (cvc Go.Proofs.Try.prog U0 cMoves (sxF Go.Proofs.Try.prog U0 annsE (conP Go.Proofs.Try.prog U0 (stageE 2)) 400 15)).vc U0 (fun _=>True)=vcMoves:=by kernel_rfl
end Go.C08
