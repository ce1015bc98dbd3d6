/- Chapter 15, the contracts stand; the arguments of the laws are data.
  Conditions: none. -/
import Derived.Test.YtdhbegidnfapjaaSm3
import Derived.Test.YtdhbegidnfapjaaA5
noncomputable section
namespace Go.C15
open Go Go.Xe Go.Sx Go.RowKit
open Go.Proofs


theorem g_take : RightG Try.prog U0 noOv cTake 10 := rightG_eq anns (l := stage 0) trivial 400 vcTake_eq vcTake_ok
theorem g_free : RightG Try.prog U0 noOv cFree 11 := rightG_eq anns (l := stage 0) trivial 400 vcFree_eq vcFree_ok
theorem g_valid : RightG Try.prog U0 noOv cValid 16 := rightG_eq anns (l := stage 0) trivial 400 vcValid_eq vcValid_ok
theorem g_wait : RightG Try.prog U0 noOv cWait 14 := rightG_eq anns (l := stage 0) trivial 400 vcWait_eq vcWait_ok
theorem g_lives : RightG Try.prog U0 noOv cLives 15 := rightG_eq anns (l := stage 0) trivial 400 vcLives_eq vcLives_ok

theorem stage1 : AllG Try.prog U0 noOv (stage 1) := ⟨g_take, g_free, g_valid, g_wait, g_lives, trivial⟩

theorem g_never : RightG Try.prog U0 noOv cNever 4 := rightG_eq anns stage1 400 vcNever_eq vcNever_ok

/-! ## Lists of calls -/

theorem ops_kinds : kf Try.prog 39 = [.int .u8, .int .u8, .int .u8] := by kernel_rfl
theorem ops_kd : kd1 Try.prog 37 = .sl 39 := by kernel_rfl
theorem ops_good : goodK Try.prog 3 (.sl 39) = true := by kernel_rfl

theorem u8_range {d : Dat} (h : DW Try.prog (.int .u8) d) : ∃ n : Int, d = .int n ∧ 0 ≤ n ∧ n ≤ 255 := by
  cases h with
  | int k n h => exact ⟨n, rfl, h⟩

theorem rows_map {rows : Sx.Rows} {α : Type} (f : α → List Dat) (R : α → Prop) (h : ∀ r ∈ rows, ∃ a, R a ∧ r = f a) : ∃ L : List α, (∀ a ∈ L, R a) ∧ rows = L.map f := by
  induction rows with
  | nil => exact ⟨[], fun a h => (by simp at h), rfl⟩
  | cons r rows ih =>
    obtain ⟨a, ha, e⟩ := h r (by simp)
    obtain ⟨L, hL, e'⟩ := ih fun r hr => h r (by simp [hr])
    exact ⟨a :: L, fun b hb => by rcases List.mem_cons.1 hb with rfl | hb; exact ha; exact hL b hb, by rw [e, e']; rfl⟩

theorem ops_of {d : Dat} (h : DW Try.prog (.sl 39) d) : ∃ L : List Op, (∀ o ∈ L, o.Ok) ∧ d = .lst (L.map Op.row) := by
  cases h with
  | sl _ rows hl hz hh =>
    obtain ⟨L, h1, h2⟩ := rows_map Op.row Op.Ok (rows := rows) fun r hr => by
      have h3 := hz r hr
      rw [ops_kinds] at h3
      obtain ⟨i, hi⟩ := List.mem_iff_getElem?.1 hr
      match r, h3, hi with
      | [a, b, c], _, hi =>
        have ka := hh i 0 _ (.int .u8) a hi rfl (by rw [ops_kinds]; rfl)
        have kb := hh i 1 _ (.int .u8) b hi rfl (by rw [ops_kinds]; rfl)
        have kc := hh i 2 _ (.int .u8) c hi rfl (by rw [ops_kinds]; rfl)
        obtain ⟨x, rfl, hx⟩ := u8_range ka
        obtain ⟨y, rfl, hy⟩ := u8_range kb
        obtain ⟨z, rfl, hz⟩ := u8_range kc
        exact ⟨⟨x, y, z⟩, ⟨hx, hy, hz⟩, rfl⟩
    exact ⟨L, h1, by rw [h2]⟩

section
variable {H : Type} {enc : TypeId × Value → H} {W : World} {spare : Nat → Bool} {held : Bool}

/-- An argument that is a list of calls. -/
theorem arg_ops {v : Value} {d : DataW H} {ps : List MemPlace} (ht : Try.prog.underlying 37 = some (.slice 39)) {r : Reach} {b : Nat} (hv : Value.okWide Try.prog W r b 37 v) (h : DataW.Trod enc Try.prog W 0 spare held 37 v d ps) :
    ∃ (a : Value) (L : List Op), (∀ o ∈ L, o.Ok) ∧ VR (roSg W) a v ∧ ∀ n, VD Try.prog U0 (fun _ => none) (roF W) (.lst 39 (.dat n (.lst (L.map Op.row))) false) a := by
  obtain ⟨a0, len, cap, rfl⟩ := Go.WideShapes.okWide_slice ht hv
  obtain ⟨d', a, h1, h2, h3⟩ := arg_one h (m := 3) (by rw [ops_kd]; exact ops_good) rfl
  rw [ops_kd] at h2 h3
  obtain ⟨L, hL, rfl⟩ := ops_of h3
  exact ⟨a, L, hL, absV_VR h1, fun n => .lst 39 _ false a h2 (fun h => by cases h)⟩
end

theorem never_walk {H : Type} {enc : TypeId × Value → H} {W : World} {spare : Nat → Bool} {held : Bool} {v : Value} {d : DataW H} {ps : List MemPlace} (hm : Try.prog.follows .mixedOrders = true) (ht : Try.prog.underlying 37 = some (.slice 39)) {r : Reach} {b : Nat} (hv : Value.okWide Try.prog W r b 37 v)
    (h : DataW.Trod enc Try.prog W 0 spare held 37 v d ps) : Calls Try.prog 4 #[v] W fun e w' => e = .returned (.bool true) ∧ Below W.heap.size W w' := by
  obtain ⟨a, L, h1, h2, h3⟩ := arg_ops ht hv h
  refine law_calls hm noOv_ok g_never rfl rfl rfl (fun d e h => h) rfl (fun nb ds => rfl) (es := [.dat 0 (.lst (L.map Op.row))]) rfl ⟨L, h1, rfl⟩ (xs := [a]) (ys := [v]) ?_ (VRL.cons h2 (VRL.nil _))
  exact VDL.cons (h3 0) VDL.nil

end Go.C15
