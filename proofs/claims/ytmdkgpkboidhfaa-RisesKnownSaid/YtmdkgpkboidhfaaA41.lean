/- Chapter 08, RisesKnown: the contracts stand; the walk.
  Conditions: none. -/
import Derived.Test.YtmdkgpkboidhfaaA35
import Derived.Test.YtmdkgpkboidhfaaA40
set_option linter.unusedVariables false
noncomputable section
namespace Go.C08
open Go Go.Xe Go.Sx Go.RowKit
open Go.Proofs
theorem stageK0 : AllG Try.prog U0 LV (stageK 0):=⟨g_len,g_max,g_lives,trivial⟩
theorem g_longx : RightG Try.prog U0 LV cLongx 10:=rightP_eq annsK stageK0 400 vcLongx_eq vcLongx_ok (conT rfl)
theorem stageK1 : AllG Try.prog U0 LV (stageK 1):=⟨g_lives,trivial⟩
theorem g_checkx : RightG Try.prog U0 LV cCheckx 23:=rightP_eq annsK stageK1 400 vcCheckx_eq vcCheckx_ok (conT rfl)
theorem stageK2 : AllG Try.prog U0 LV (stageK 2):=⟨g_longx,g_checkx,g_moves,g_carry,g_same,g_lives,trivial⟩
theorem g_kn : RightG Try.prog U0 LV cKn 8:=rightP_eq annsK stageK2 400 vcKn_eq vcKn_ok (conT rfl)
theorem kn_walk {W : World} (hm : Try.prog.follows .mixedOrders=true) : Calls Try.prog 8 #[] W fun e w' => e = .returned (.bool true)∧Below W.heap.size W w' :=
 law_calls hm (LV_ok hm) g_kn rfl rfl rfl (fun d e h=>h) rfl (fun nb ds=>rfl) (es:=[]) rfl rfl (xs:=[]) (ys:=[]) VDL.nil (VRL.nil _)
end Go.C08
