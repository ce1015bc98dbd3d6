/- Chapter 15, the contracts of the definition and of both arenas stand; playing.
  Conditions: none. -/
import Derived.Test.YtdhbegidnfapjaaB11
noncomputable section
namespace Go.C15
open Go Go.Xe Go.Sx Go.RowKit
open Go.Proofs

theorem g_awaits : RightG Try.prog U0 noOv cAwaits 45 := rightG_eq annsB (l := stageB 0) trivial 400 vcAwaits_eq vcAwaits_ok
theorem g_aget : RightG Try.prog U0 noOv cAget 26 := rightG_eq annsB (l := stageB 0) trivial 400 vcAget_eq vcAget_ok
theorem g_aset : RightG Try.prog U0 noOv cAset 24 := rightG_eq annsB (l := stageB 0) trivial 400 vcAset_eq vcAset_ok
theorem g_auntake : RightG Try.prog U0 noOv cAuntake 22 := rightG_eq annsB (l := stageB 0) trivial 400 vcAuntake_eq vcAuntake_ok
theorem stageB2 : AllG Try.prog U0 noOv (stageB 2) := ⟨g_awaits, trivial⟩
theorem g_aunfree : RightG Try.prog U0 noOv cAunfree 23 := rightG_eq annsB stageB2 400 vcAunfree_eq vcAunfree_ok
theorem g_ahandles : RightG Try.prog U0 noOv cAhandles 27 := rightG_eq annsB (l := stageB 0) trivial 400 vcAhandles_eq vcAhandles_ok
theorem g_await : RightG Try.prog U0 noOv cAwait 14 := rightG_eq annsB (l := stageB 0) trivial 400 vcAwait_eq vcAwait_ok
theorem g_rvalid : RightG Try.prog U0 noOv cRvalid 21 := rightG_eq annsB (l := stageB 0) trivial 400 vcRvalid_eq vcRvalid_ok
theorem g_rtake : RightG Try.prog U0 noOv cRtake 40 := rightG_eq annsB (l := stageB 0) trivial 400 vcRtake_eq vcRtake_ok
theorem stageB1 : AllG Try.prog U0 noOv (stageB 1) := ⟨g_rvalid, trivial⟩
theorem g_rfree : RightG Try.prog U0 noOv cRfree 41 := rightG_eq annsB stageB1 400 vcRfree_eq vcRfree_ok
theorem g_runtake : RightG Try.prog U0 noOv cRuntake 42 := rightG_eq annsB stageB1 400 vcRuntake_eq vcRuntake_ok
theorem g_runfree : RightG Try.prog U0 noOv cRunfree 43 := rightG_eq annsB (l := stageB 0) trivial 400 vcRunfree_eq vcRunfree_ok

theorem stageC0 : AllG Try.prog U0 noOv (stageC 0) := ⟨g_rvalid, g_take, g_free, g_valid, g_aget, g_aset, g_auntake, g_aunfree, g_ahandles, g_await, g_lives, g_rtake, g_rfree, g_runtake, g_runfree, trivial⟩
theorem g_do : RightG Try.prog U0 noOv cDo 17 := rightJ_eq annsC stageC0 joinsC 400 400 vcDo_eq vcDo_ok
theorem g_same : RightG Try.prog U0 noOv cSame 18 := rightJ_eq annsC stageC0 joinsC 400 400 vcSame_eq vcSame_ok
theorem stageC1 : AllG Try.prog U0 noOv (stageC 1) := ⟨g_do, g_same, g_lives, g_rvalid, g_auntake, g_aunfree, g_aset, trivial⟩
theorem g_play : RightG Try.prog U0 noOv cPlay 5 := rightJ_eq annsC stageC1 joinsC 400 400 vcPlay_eq vcPlay_ok

theorem play_walk {H : Type} {enc : TypeId × Value → H} {W : World} {spare : Nat → Bool} {held : Bool} {v : Value} {d : DataW H} {ps : List MemPlace} (hm : Try.prog.follows .mixedOrders = true) (ht : Try.prog.underlying 37 = some (.slice 39)) {r : Reach} {b : Nat} (hv : Value.okWide Try.prog W r b 37 v)
    (h : DataW.Trod enc Try.prog W 0 spare held 37 v d ps) : Calls Try.prog 5 #[v] W fun e w' => e = .returned (.bool true) ∧ Below W.heap.size W w' := by
  obtain ⟨a, L, h1, h2, h3⟩ := arg_ops ht hv h
  refine law_calls hm noOv_ok g_play rfl rfl rfl (fun d e h => h) rfl (fun nb ds => rfl) (es := [.dat 0 (.lst (L.map Op.row))]) rfl ⟨L, h1, rfl⟩ (xs := [a]) (ys := [v]) ?_ (VRL.cons h2 (VRL.nil _))
  exact VDL.cons (h3 0) VDL.nil

theorem Bo.Ok.le {p : Bo} {n m : Nat} (h : p.Ok n) (hm : n ≤ m) : p.Ok m := ⟨h.ok, Nat.le_trans h.tl hm, fun s hs => by have := h.gl s hs; omega, Nat.le_trans h.hl hm, h.hu, h.xs, h.fr, h.us⟩

end Go.C15
