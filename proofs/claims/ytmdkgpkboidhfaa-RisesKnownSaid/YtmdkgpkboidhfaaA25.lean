/- Chapter 08, the walk of RisesErrors.
  Conditions: none. -/
import Derived.Test.YtmdkgpkboidhfaaA24
set_option linter.unusedVariables false
noncomputable section
namespace Go.C08
open Go Go.Xe Go.Sx Go.RowKit
open Go.Proofs
theorem stageV0 : AllG Try.prog U0 LV (stageV 0):=⟨g_lives,trivial⟩
theorem g_check : RightG Try.prog U0 LV cCheck 23:=rightG_eq annsV stageV0 400 vcCheck_eq vcCheck_ok (conT rfl)
theorem stageW0 : AllG Try.prog U0 LV (stageW 0):=⟨g_check,g_long,g_lives,trivial⟩
theorem g_kepti : RightG Try.prog U0 LV cKepti 27:=rightG_eq annsW stageW0 400 vcKepti_eq vcKepti_ok (conT rfl)
theorem stageE2 : AllG Try.prog U0 LV (stageE 2):=⟨g_kepti,g_lives,trivial⟩
theorem g_moves : RightG Try.prog U0 LV cMoves 15:=rightP_eq annsE stageE2 400 vcMoves_eq vcMoves_ok (conT rfl)
end Go.C08
