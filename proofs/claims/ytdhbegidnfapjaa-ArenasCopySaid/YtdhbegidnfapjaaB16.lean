/- Chapter 15, the copy: the law's walk.
  Conditions: none. -/
import Derived.Test.YtdhbegidnfapjaaB13
noncomputable section
namespace Go.C15
open Go Go.Xe Go.Sx Go.RowKit
open Go.Proofs

theorem g_copy : RightG Try.prog U0 noOv cCopy 7 := rightJ_eq annsC stageC1 joinsC 400 400 vcCopy_eq vcCopy_ok

theorem copy_walk {H : Type} {enc : TypeId × Value → H} {W : World} {spare : Nat → Bool} {held : Bool} {v w u : Value} {d e f : DataW H} {ps qs rs : List MemPlace} (hm : Try.prog.follows .mixedOrders = true) (ht : Try.prog.underlying 37 = some (.slice 39)) {r : Reach} {b : Nat} (hv : Value.okWide Try.prog W r b 37 v) (hw : Value.okWide Try.prog W r b 37 w) (hu : Value.okWide Try.prog W r b 37 u)
    (h : DataW.Trod enc Try.prog W 0 spare held 37 v d ps) (k : DataW.Trod enc Try.prog W 0 spare held 37 w e qs) (l : DataW.Trod enc Try.prog W 0 spare held 37 u f rs) : Calls Try.prog 7 #[v, w, u] W fun e w' => e = .returned (.bool true) ∧ Below W.heap.size W w' := by
  obtain ⟨a, L, h1, h2, h3⟩ := arg_ops ht hv h
  obtain ⟨a', M, k1, k2, k3⟩ := arg_ops ht hw k
  obtain ⟨a'', N, l1, l2, l3⟩ := arg_ops ht hu l
  refine law_calls hm noOv_ok g_copy rfl rfl rfl (fun d e h => h) rfl (fun nb ds => rfl) (es := [.dat 0 (.lst (L.map Op.row)), .dat 1 (.lst (M.map Op.row)), .dat 2 (.lst (N.map Op.row))]) rfl ⟨L, M, N, h1, k1, l1, rfl⟩ (xs := [a, a', a'']) (ys := [v, w, u]) ?_ (VRL.cons h2 (VRL.cons k2 (VRL.cons l2 (VRL.nil _))))
  exact VDL.cons (h3 0) (VDL.cons (k3 1) (VDL.cons (l3 2) VDL.nil))

end Go.C15
