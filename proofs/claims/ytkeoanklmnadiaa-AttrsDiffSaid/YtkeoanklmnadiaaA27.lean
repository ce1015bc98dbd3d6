/- Chapter 13, the walk of AttrsDiff.
  Conditions: none. -/
import Derived.Test.YtkeoanklmnadiaaA20
import Derived.Test.YtkeoanklmnadiaaA25
noncomputable section
namespace Go.C13
open Go Go.Xe Go.Sx Go.RowKit
open Go.Proofs

theorem g_diffs : RightG Try.prog U0 LV cDiffs 3 := rightG_eq annsD (l := stageD 0) stageL0_ok 400 vcDiffs_eq vcDiffs_ok (conT rfl)

theorem diffs_walk {H : Type} {enc : TypeId × Value → H} {W : World} {spare : Nat → Bool} {held : Bool} {v w : Value} {d e : DataW H} {ps qs : List MemPlace} (hm : Try.prog.follows .mixedOrders = true)
    {fs : Array Field} (ht : Try.prog.underlying 24 = some (.struct fs)) {r : Reach} {b : Nat} (hv : Value.okWide Try.prog W r b 24 v) (hw : Value.okWide Try.prog W r b 24 w)
    (h : DataW.Trod enc Try.prog W 0 spare held 24 v d ps) (k : DataW.Trod enc Try.prog W 0 spare held 24 w e qs) : Calls Try.prog 3 #[v, w] W fun e w' => e = .returned (.bool true) ∧ Below W.heap.size W w' := by
  obtain ⟨t, a1, a2, a3, a4, a5, a6, a7, a8, h1, h2⟩ := arg_L ht hv h
  obtain ⟨s, b1, b2, b3, b4, b5, b6, b7, b8, k1, k2⟩ := arg_L ht hw k
  refine law_calls hm (LV_ok hm) g_diffs rfl rfl rfl (fun d e h => h) rfl (fun nb ds => rfl)
    (es := [.dat 0 (.int t), .dat 1 (.int a1), .dat 2 (.int a2), .dat 3 (.int a3), .dat 4 (.int a4), .dat 5 (.int a5), .dat 6 (.int a6), .dat 7 (.int a7), .dat 8 (.int a8),
      .dat 9 (.int s), .dat 10 (.int b1), .dat 11 (.int b2), .dat 12 (.int b3), .dat 13 (.int b4), .dat 14 (.int b5), .dat 15 (.int b6), .dat 16 (.int b7), .dat 17 (.int b8)])
    rfl ⟨t, _, s, _, h1, k1, rfl⟩ (xs := [_, _]) (ys := [v, w]) ?_ (VRL.cons h2 (VRL.cons k2 (VRL.nil _)))
  exact VDL.cons (vd_agg 0 kL [t, a1, a2, a3, a4, a5, a6, a7, a8]) (VDL.cons (vd_agg 9 kL [s, b1, b2, b3, b4, b5, b6, b7, b8]) VDL.nil)

end Go.C13
