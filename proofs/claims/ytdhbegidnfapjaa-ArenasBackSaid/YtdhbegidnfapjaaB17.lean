/- Chapter 15, taking back: the law's walk.
  Conditions: none. -/
import Derived.Test.YtdhbegidnfapjaaB15
noncomputable section
namespace Go.C15
open Go Go.Xe Go.Sx Go.RowKit
open Go.Proofs

theorem g_back : RightG Try.prog U0 noOv cBack 6 := rightJ_eq annsC stageC1 joinsC 400 400 vcBack_eq vcBack_ok

theorem back_walk {H : Type} {enc : TypeId × Value → H} {W : World} {spare : Nat → Bool} {held : Bool} {v w : Value} {d e : DataW H} {ps qs : List MemPlace} (hm : Try.prog.follows .mixedOrders = true) (ht : Try.prog.underlying 37 = some (.slice 39)) {r : Reach} {b : Nat} (hv : Value.okWide Try.prog W r b 37 v) (hw : Value.okWide Try.prog W r b 37 w)
    (h : DataW.Trod enc Try.prog W 0 spare held 37 v d ps) (k : DataW.Trod enc Try.prog W 0 spare held 37 w e qs) : Calls Try.prog 6 #[v, w] W fun e w' => e = .returned (.bool true) ∧ Below W.heap.size W w' := by
  obtain ⟨a, L, h1, h2, h3⟩ := arg_ops ht hv h
  obtain ⟨a', M, k1, k2, k3⟩ := arg_ops ht hw k
  refine law_calls hm noOv_ok g_back rfl rfl rfl (fun d e h => h) rfl (fun nb ds => rfl) (es := [.dat 0 (.lst (L.map Op.row)), .dat 1 (.lst (M.map Op.row))]) rfl ⟨L, M, h1, k1, rfl⟩ (xs := [a, a']) (ys := [v, w]) ?_ (VRL.cons h2 (VRL.cons k2 (VRL.nil _)))
  exact VDL.cons (h3 0) (VDL.cons (k3 1) VDL.nil)

end Go.C15
