/- Chapter 08, the walk of RisesErrors.
  Conditions: none. -/
import Derived.Test.YtmdkgpkboidhfaaA24
set_option linter.unusedVariables false
noncomputable section
namespace Go.C08
open Go Go.Xe Go.Sx Go.RowKit
open Go.Proofs
theorem stageV0 : AllG Try.prog U0 LV (stageV 0):=⟨g_lives,trivial⟩
theorem g_check : RightG Try.prog U0 LV cCheck 23:=rightG_eq annsV stageV0 400 vcCheck_eq vcCheck_ok (conT rfl)
theorem g_rat : RightG Try.prog U0 LV cRat 29:=rightG_eq annsV stageV0 400 vcRat_eq vcRat_ok (conT rfl)
theorem stageW0 : AllG Try.prog U0 LV (stageW 0):=⟨g_check,g_long,g_lives,trivial⟩
theorem g_kepti : RightG Try.prog U0 LV cKepti 27:=rightG_eq annsW stageW0 400 vcKepti_eq vcKepti_ok (conT rfl)
theorem stageW1 : AllG Try.prog U0 LV (stageW 1):=⟨g_kepti,g_lives,trivial⟩
theorem g_kept : RightG Try.prog U0 LV cKept 14:=rightG_eq annsW stageW1 400 vcKept_eq vcKept_ok (conT rfl)
theorem stageE1 : AllG Try.prog U0 LV (stageE 1):=⟨g_rat,g_rlong,g_lives,trivial⟩
theorem g_rkept : RightG Try.prog U0 LV cRkept 16:=rightP_eq annsE stageE1 400 vcRkept_eq vcRkept_ok (conT rfl)
theorem stageE2 : AllG Try.prog U0 LV (stageE 2):=⟨g_kepti,g_lives,trivial⟩
theorem g_moves : RightG Try.prog U0 LV cMoves 15:=rightP_eq annsE stageE2 400 vcMoves_eq vcMoves_ok (conT rfl)
theorem stageE3 : AllG Try.prog U0 LV (stageE 3):=⟨g_rkept,g_rat,g_lives,trivial⟩
theorem g_rmoves : RightG Try.prog U0 LV cRmoves 18:=rightP_eq annsE stageE3 400 vcRmoves_eq vcRmoves_ok (conT rfl)
theorem stageE4 : AllG Try.prog U0 LV (stageE 4):=⟨g_lives,trivial⟩
theorem g_steps : RightG Try.prog U0 LV cSteps 17:=rightP_eq annsE stageE4 400 vcSteps_eq vcSteps_ok (conT rfl)
end Go.C08
