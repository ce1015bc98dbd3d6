/- Chapter 36, the walk of PlansCarry.
  Conditions: none. -/
import Derived.Test.YtpdcecfnlccicaaV6
import Derived.Test.YtpdcecfnlccicaaS7
noncomputable section
namespace Go.C36
open Go Go.Xe Go.Sx Go.RowKit
open Go.Proofs
theorem stageG1 : AllG Try.prog U0 LV (stageG 1) := ⟨g_lives,trivial⟩
theorem g_take2 : RightG Try.prog U0 LV cTake2 14 := rightP_eq annsG stageG1 400 vcTake2_eq vcTake2_ok (conT rfl)
theorem stageC2 : AllG Try.prog U0 LV (stageC 2) := ⟨g_lives,trivial⟩
theorem g_put : RightG Try.prog U0 LV cPut 15 := rightG_eq annsC stageC2 400 vcPut_eq vcPut_ok (conT rfl)
theorem stageG0 : AllG Try.prog U0 LV (stageG 0) := ⟨g_uof,g_of,g_ahead,g_take2,g_put,g_rlongest,g_nmoves,g_nmakes,g_ndrops,g_lives,trivial⟩
theorem g_pcar : RightG Try.prog U0 LV cPcar 4 := rightP_eq annsG stageG0 400 vcPcar_eq vcPcar_ok (conT rfl)
theorem pcar_walk {H : Type} {enc : TypeId × Value → H} {W : World} {spare : Nat → Bool} {held : Bool} {v : Value} {d : DataW H} {ps : List MemPlace} (hm : Try.prog.follows .mixedOrders = true) {fs : Array Field} (ht : Try.prog.underlying 26 = some (.struct fs)) {r : Reach} {b : Nat} (hv : Value.okWide Try.prog W r b 26 v)
  (h : DataW.Trod enc Try.prog W 0 spare held 26 v d ps) : Calls Try.prog 4 #[v] W fun e w' => e = .returned (.bool true) ∧ Below W.heap.size W w' := by
 obtain ⟨x,L,M,c1,c2,c3,c4,c5,c6,hL,hM,u1,u2,u3,u4,u5,u6,h2,h3⟩ := arg_U ht hv h
 refine law_calls hm (LV_ok hm) g_pcar rfl rfl rfl (fun d e h => h) rfl (fun nb ds => rfl)
  (es := [.dat 0 (.lst (L.map prRow)), .dat 1 (.lst (M.map prRow)), .dat 2 (.int c1), .dat 3 (.int c2), .dat 4 (.int c3), .dat 5 (.int c4), .dat 6 (.int c5), .dat 7 (.int c6)])
  rfl ⟨⟨L,rfl,hL⟩,⟨M,rfl,hM⟩,u1,u2,u3,u4,u5,u6⟩ (xs := [x]) (ys := [v]) ?_ (VRL.cons h2 (VRL.nil _))
 exact VDL.cons h3 VDL.nil
end Go.C36
