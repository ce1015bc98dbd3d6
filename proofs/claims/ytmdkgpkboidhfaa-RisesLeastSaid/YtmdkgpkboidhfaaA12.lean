/- Chapter 08, the walk of RisesLeast.
  Conditions: none. -/
import Derived.Test.YtmdkgpkboidhfaaA7
import Derived.Test.YtmdkgpkboidhfaaA11
noncomputable section
namespace Go.C08
open Go Go.Xe Go.Sx Go.RowKit
open Go.Proofs

theorem stageT0 : AllG Try.prog U0 LV (stageT 0) := ⟨g_long, g_lives, trivial⟩
theorem g_least : RightG Try.prog U0 LV cLeast 4 := rightG_eq annsT stageT0 400 vcLeast_eq vcLeast_ok (conT rfl)

theorem w_kd : kd1 Try.prog 30 = .int .u16 := by kernel_rfl
theorem arg_u16 {H : Type} {enc : TypeId × Value → H} {W : World} {spare : Nat → Bool} {held : Bool} {v : Value} {d : DataW H} {ps : List MemPlace} {r : Reach} {b : Nat} (ht : Try.prog.underlying 30 = some (.int .u16)) (hv : Value.okWide Try.prog W r b 30 v) (h : DataW.Trod enc Try.prog W 0 spare held 30 v d ps) :
    ∃ (n : Int), (0 ≤ n ∧ n < 65536) ∧ VR (roSg W) (.int .u16 n) v := by
  obtain ⟨n0, rfl⟩ := Go.WideShapes.okWide_int ht hv
  obtain ⟨d', a, h1, h2, h3⟩ := arg_one h (m := 3) (by rw [w_kd]; rfl) rfl
  rw [w_kd] at h2 h3
  cases h3 with
  | int k n hr =>
    cases h2
    have h4 : (0 : Int) ≤ n := hr.1
    have h5 : n ≤ 65535 := hr.2
    exact ⟨n, ⟨h4, by omega⟩, absV_VR h1⟩

theorem least_walk {H : Type} {enc : TypeId × Value → H} {W : World} {spare : Nat → Bool} {held : Bool} {v w : Value} {d e : DataW H} {ps qs : List MemPlace} (hm : Try.prog.follows .mixedOrders = true) (ht : Try.prog.underlying 22 = some (.slice 3)) (ht' : Try.prog.underlying 30 = some (.int .u16)) {r : Reach} {b : Nat} (hv : Value.okWide Try.prog W r b 22 v) (hw : Value.okWide Try.prog W r b 30 w)
    (h : DataW.Trod enc Try.prog W 0 spare held 22 v d ps) (k : DataW.Trod enc Try.prog W 0 spare held 30 w e qs) : Calls Try.prog 4 #[v, w] W fun e w' => e = .returned (.bool true) ∧ Below W.heap.size W w' := by
  obtain ⟨a, L, _, h2, h3⟩ := arg_nums ht hv h
  obtain ⟨n, hn, k2⟩ := arg_u16 ht' hw k
  refine law_calls hm (LV_ok hm) g_least rfl rfl rfl (fun d e h => h) rfl (fun nb ds => rfl) (es := [.dat 0 (.lst (L.map row)), .dat 1 (.int n)]) rfl ⟨⟨L, rfl⟩, hn⟩ (xs := [a, .int .u16 n]) (ys := [v, w]) ?_ (VRL.cons h2 (VRL.cons k2 (VRL.nil _)))
  exact VDL.cons (h3 0) (VDL.cons (.int .u16 (.dat 1 (.int n))) VDL.nil)

end Go.C08
