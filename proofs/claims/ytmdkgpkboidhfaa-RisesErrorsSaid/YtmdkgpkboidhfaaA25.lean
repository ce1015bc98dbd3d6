/- Chapter 08, the walk of RisesErrors.
  Conditions: none. -/
import Derived.Test.YtmdkgpkboidhfaaA24
set_option linter.unusedVariables false
noncomputable section
namespace Go.C08
open Go Go.Xe Go.Sx Go.RowKit
open Go.Proofs
theorem stageV0 : AllG Try.prog U0 LV (stageV 0) := ⟨g_lives,trivial⟩
theorem g_check : RightG Try.prog U0 LV cCheck 23 := rightG_eq annsV stageV0 400 vcCheck_eq vcCheck_ok (conT rfl)
theorem g_rcheck : RightG Try.prog U0 LV cRcheck 22 := rightG_eq annsV stageV0 400 vcRcheck_eq vcRcheck_ok (conT rfl)
theorem g_rat : RightG Try.prog U0 LV cRat 29 := rightG_eq annsV stageV0 400 vcRat_eq vcRat_ok (conT rfl)
theorem stageW0 : AllG Try.prog U0 LV (stageW 0) := ⟨g_check,g_long,g_lives,trivial⟩
theorem g_kepti : RightG Try.prog U0 LV cKepti 27 := rightG_eq annsW stageW0 400 vcKepti_eq vcKepti_ok (conT rfl)
theorem stageW1 : AllG Try.prog U0 LV (stageW 1) := ⟨g_kepti,g_lives,trivial⟩
theorem g_kept : RightG Try.prog U0 LV cKept 14 := rightG_eq annsW stageW1 400 vcKept_eq vcKept_ok (conT rfl)
theorem stageE0 : AllG Try.prog U0 LV (stageE 0) := ⟨g_rcheck,g_rat,g_lives,trivial⟩
theorem g_pair : RightG Try.prog U0 LV cPair 21 := rightP_eq annsE stageE0 400 vcPair_eq vcPair_ok (conT rfl)
theorem stageE1 : AllG Try.prog U0 LV (stageE 1) := ⟨g_rat,g_rlong,g_lives,trivial⟩
theorem g_rkept : RightG Try.prog U0 LV cRkept 16 := rightP_eq annsE stageE1 400 vcRkept_eq vcRkept_ok (conT rfl)
theorem stageE2 : AllG Try.prog U0 LV (stageE 2) := ⟨g_kepti,g_lives,trivial⟩
theorem g_moves : RightG Try.prog U0 LV cMoves 15 := rightP_eq annsE stageE2 400 vcMoves_eq vcMoves_ok (conT rfl)
theorem stageE3 : AllG Try.prog U0 LV (stageE 3) := ⟨g_rkept,g_rat,g_lives,trivial⟩
theorem g_rmoves : RightG Try.prog U0 LV cRmoves 18 := rightP_eq annsE stageE3 400 vcRmoves_eq vcRmoves_ok (conT rfl)
theorem stageE4 : AllG Try.prog U0 LV (stageE 4) := ⟨g_lives,trivial⟩
theorem g_steps : RightG Try.prog U0 LV cSteps 17 := rightP_eq annsE stageE4 400 vcSteps_eq vcSteps_ok (conT rfl)
theorem stageE5 : AllG Try.prog U0 LV (stageE 5) := ⟨g_pair,g_kept,g_moves,g_rcheck,g_check,g_rkept,g_same,g_rmoves,g_steps,g_lives,trivial⟩
theorem g_rerr : RightG Try.prog U0 LV cRerr 7 := rightP_eq annsE stageE5 400 vcRerr_eq vcRerr_ok (conT rfl)
theorem rerr_walk {H : Type} {enc : TypeId × Value → H} {W : World} {spare : Nat → Bool} {held : Bool} {v w : Value} {d e : DataW H} {ps qs : List MemPlace} (hm : Try.prog.follows .mixedOrders = true) (ht : Try.prog.underlying 22 = some (.slice 3)) (ht' : Try.prog.underlying 22 = some (.slice 3)) {r : Reach} {b : Nat} (hv : Value.okWide Try.prog W r b 22 v) (hw : Value.okWide Try.prog W r b 22 w)
  (h : DataW.Trod enc Try.prog W 0 spare held 22 v d ps) (k : DataW.Trod enc Try.prog W 0 spare held 22 w e qs) : Calls Try.prog 7 #[v,w] W fun e w' => e = .returned (.bool true) ∧ Below W.heap.size W w' := by
 obtain ⟨a,L,_,h2,h3⟩ := arg_nums ht hv h
 obtain ⟨a',M,_,k2,k3⟩ := arg_nums ht hw k
 refine law_calls hm (LV_ok hm) g_rerr rfl rfl rfl (fun d e h => h) rfl (fun nb ds => rfl) (es := [.dat 0 (.lst (L.map row)), .dat 1 (.lst (M.map row))]) rfl ⟨⟨L,rfl⟩,M,rfl⟩ (xs := [a,a']) (ys := [v,w]) ?_ (VRL.cons h2 (VRL.cons k2 (VRL.nil _)))
 exact VDL.cons (h3 0) (VDL.cons (k3 1) VDL.nil)
end Go.C08
