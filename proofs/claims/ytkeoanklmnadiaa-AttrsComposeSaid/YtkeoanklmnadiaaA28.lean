/- Chapter 13, the walk of AttrsCompose.
  Conditions: none. -/
import Derived.Test.YtkeoanklmnadiaaA20
import Derived.Test.YtkeoanklmnadiaaA26
noncomputable section
namespace Go.C13
open Go Go.Xe Go.Sx Go.RowKit
open Go.Proofs

theorem g_comps : RightG Try.prog U0 LV cComps 5 := rightG_eq annsD (l := stageD 0) stageL0_ok 400 vcComps_eq vcComps_ok (conT rfl)

theorem comps_walk {H : Type} {enc : TypeId × Value → H} {W : World} {spare : Nat → Bool} {held : Bool} {v w u : Value} {d e f : DataW H} {ps qs rs : List MemPlace} (hm : Try.prog.follows .mixedOrders = true)
    {fs gs : Array Field} (ht : Try.prog.underlying 24 = some (.struct fs)) (ht' : Try.prog.underlying 44 = some (.struct gs)) {r : Reach} {b : Nat} (hv : Value.okWide Try.prog W r b 24 v) (hw : Value.okWide Try.prog W r b 44 w) (hu : Value.okWide Try.prog W r b 44 u)
    (h : DataW.Trod enc Try.prog W 0 spare held 24 v d ps) (k : DataW.Trod enc Try.prog W 0 spare held 44 w e qs) (l : DataW.Trod enc Try.prog W 0 spare held 44 u f rs) : Calls Try.prog 5 #[v, w, u] W fun e w' => e = .returned (.bool true) ∧ Below W.heap.size W w' := by
  obtain ⟨t, a1, a2, a3, a4, a5, a6, a7, a8, h1, h2⟩ := arg_L ht hv h
  obtain ⟨s, b1, b2, b3, b4, b5, b6, b7, b8, b9, b10, b11, b12, k1, k2⟩ := arg_W ht' hw k
  obtain ⟨z, c1, c2, c3, c4, c5, c6, c7, c8, c9, c10, c11, c12, l1, l2⟩ := arg_W ht' hu l
  refine law_calls hm (LV_ok hm) g_comps rfl rfl rfl (fun d e h => h) rfl (fun nb ds => rfl)
    (es := [.dat 0 (.int t), .dat 1 (.int a1), .dat 2 (.int a2), .dat 3 (.int a3), .dat 4 (.int a4), .dat 5 (.int a5), .dat 6 (.int a6), .dat 7 (.int a7), .dat 8 (.int a8),
      .dat 9 (.int s), .dat 10 (.int b1), .dat 11 (.int b2), .dat 12 (.int b3), .dat 13 (.int b4), .dat 14 (.int b5), .dat 15 (.int b6), .dat 16 (.int b7), .dat 17 (.int b8), .dat 18 (.int b9), .dat 19 (.int b10), .dat 20 (.int b11), .dat 21 (.int b12),
      .dat 22 (.int z), .dat 23 (.int c1), .dat 24 (.int c2), .dat 25 (.int c3), .dat 26 (.int c4), .dat 27 (.int c5), .dat 28 (.int c6), .dat 29 (.int c7), .dat 30 (.int c8), .dat 31 (.int c9), .dat 32 (.int c10), .dat 33 (.int c11), .dat 34 (.int c12)])
    rfl ⟨t, _, s, _, z, _, h1, k1, l1, rfl⟩ (xs := [_, _, _]) (ys := [v, w, u]) ?_ (VRL.cons h2 (VRL.cons k2 (VRL.cons l2 (VRL.nil _))))
  exact VDL.cons (vd_agg 0 kL [t, a1, a2, a3, a4, a5, a6, a7, a8]) (VDL.cons (vd_agg 9 kW [s, b1, b2, b3, b4, b5, b6, b7, b8, b9, b10, b11, b12]) (VDL.cons (vd_agg 22 kW [z, c1, c2, c3, c4, c5, c6, c7, c8, c9, c10, c11, c12]) VDL.nil))

end Go.C13
