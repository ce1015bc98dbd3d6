/- Chapter 13, arguments that are structs of numbers; the walk of AttrsApply.
  Conditions: none. -/
import Derived.Test.YtkeoanklmnadiaaA17
import Derived.Test.YtkeoanklmnadiaaA19
noncomputable section
namespace Go.C13
open Go Go.Xe Go.Sx Go.RowKit
open Go.Proofs

/-! ## Structs of numbers -/

section
variable {H : Type} {enc : TypeId × Value → H} {P : Program} {w : World} {spare : Nat → Bool} {held : Bool}

theorem arg_int {k : IntKind} {v : Value} {d : Dat} (h : ArgOK P w (.int k) v d) : ∃ n, (k.min ≤ n ∧ n ≤ k.max) ∧ VR (roSg w) (.int k n) v := by
  obtain ⟨a, h1, h2, h3⟩ := h
  cases h3 with
  | int k n hr =>
    cases h2
    exact ⟨n, hr, absV_VR h1⟩

/-- The numbers of a struct, one by one. -/
theorem arg_nums {u : TypeId} {xs : Array Value} {d : DataW H} {ps : List MemPlace} (h : DataW.Trod enc P w 0 spare held u (.agg xs) d ps) (hl : layB P u = true) (hg : (kf P u).all (goodK P 3) = true) {ks : List IntKind} (hk : kf P u = ks.map Kd.int) :
    ∀ m, m ≤ ks.length → ∃ ns : List Int, ns.length = m ∧ ∀ (i : Nat) k n, ks[i]? = some k → ns[i]? = some n → (k.min ≤ n ∧ n ≤ k.max) ∧ ∃ v, xs[i]? = some v ∧ VR (roSg w) (.int k n) v
  | 0, _ => ⟨[], rfl, fun i k n _ h => by simp at h⟩
  | m + 1, hm => by
    obtain ⟨ns, h1, h2⟩ := arg_nums h hl hg hk m (by omega)
    have hkm : ks[m]? = some ks[m] := List.getElem?_eq_getElem (by omega)
    obtain ⟨v, d', e1, e2⟩ := arg_agg h hl hg m (.int ks[m]) (by rw [hk, List.getElem?_map, hkm]; rfl)
    obtain ⟨n, r1, r2⟩ := arg_int e2
    refine ⟨ns ++ [n], by simp [h1], fun i k n' hi hn => ?_⟩
    by_cases c : i < m
    · rw [List.getElem?_append_left (by omega)] at hn
      exact h2 i k n' hi hn
    · have him : i = m := by
        have := (List.getElem?_eq_some_iff.1 hn).1
        simp at this; omega
      subst him
      rw [List.getElem?_append_right (by omega), h1] at hn
      simp at hn
      subst hn
      rw [hkm] at hi
      cases hi
      exact ⟨r1, v, e1, r2⟩
end

def numV : List IntKind → List Int → List Value
  | k :: ks, n :: ns => .int k n :: numV ks ns
  | _, _ => []
def numS : Nat → List IntKind → List Int → List SV
  | j, k :: ks, n :: ns => .int k (.dat j (.int n)) :: numS (j + 1) ks ns
  | _, _, _ => []
theorem numV_get : ∀ {ks : List IntKind} {ns : List Int} {i : Nat} {x : Value}, (numV ks ns)[i]? = some x → ∃ k n, ks[i]? = some k ∧ ns[i]? = some n ∧ x = .int k n
  | k :: ks, n :: ns, 0, x, h => by cases h; exact ⟨k, n, rfl, rfl, rfl⟩
  | k :: ks, n :: ns, i + 1, x, h => numV_get (ks := ks) (ns := ns) (i := i) h
  | [], _, i, x, h => by simp [numV] at h
  | k :: ks, [], i, x, h => by simp [numV] at h
theorem numV_len : ∀ {ks : List IntKind} {ns : List Int}, ns.length = ks.length → (numV ks ns).length = ks.length
  | k :: ks, n :: ns, h => by show (numV ks ns).length + 1 = ks.length + 1; rw [numV_len (ks := ks) (ns := ns) (by simpa using h)]
  | [], [], _ => rfl
theorem vd_nums {P : Program} {U : Nat → List Dat → Dat} {τ : Tau} {F : Nat → Option Blk} : ∀ (j : Nat) (ks : List IntKind) (ns : List Int), VDL P U τ F (numS j ks ns) (numV ks ns)
  | j, k :: ks, n :: ns => VDL.cons (.int k (.dat j (.int n))) (vd_nums (j + 1) ks ns)
  | _, [], _ => VDL.nil
  | _, _ :: _, [] => VDL.nil
theorem vd_agg {P : Program} {U : Nat → List Dat → Dat} {τ : Tau} {F : Nat → Option Blk} (j : Nat) (ks : List IntKind) (ns : List Int) : VD P U τ F (.agg (numS j ks ns)) (.agg (numV ks ns).toArray) :=
  have h : VDL P U τ F (numS j ks ns) (numV ks ns) := vd_nums j ks ns
  .agg _ _ h.1 h.2

theorem arg_struct {H : Type} {enc : TypeId × Value → H} {P : Program} {w : World} {spare : Nat → Bool} {held : Bool} {u : TypeId} {v : Value} {d : DataW H} {ps : List MemPlace} {fs : Array Field} (ht : P.underlying u = some (.struct fs)) {r : Reach} {b : Nat} (hv : Value.okWide P w r b u v)
    (h : DataW.Trod enc P w 0 spare held u v d ps) (hl : layB P u = true) (hg : (kf P u).all (goodK P 3) = true) {ks : List IntKind} (hk : kf P u = ks.map Kd.int) :
    ∃ ns : List Int, ns.length = ks.length ∧ (∀ (i : Nat) k n, ks[i]? = some k → ns[i]? = some n → k.min ≤ n ∧ n ≤ k.max) ∧ VR (roSg w) (.agg (numV ks ns).toArray) v := by
  obtain ⟨xs, rfl, hx⟩ := Go.WideShapes.okWide_struct ht hv
  obtain ⟨ns, h1, h2⟩ := arg_nums h hl hg hk ks.length (Nat.le_refl _)
  refine ⟨ns, h1, fun i k n hi hn => (h2 i k n hi hn).1, .agg _ _ ?_ fun i x y hx' hy => ?_⟩
  · rw [hx, (layB_get hl).1, hk, List.length_map]
    simpa using numV_len h1
  · obtain ⟨k, n, e1, e2, rfl⟩ := numV_get (by simpa using hx')
    obtain ⟨_, v, e3, e4⟩ := h2 i k n e1 e2
    rw [hy] at e3
    cases e3
    exact e4

def kL : List IntKind := [.u8, .u8, .u8, .u8, .u8, .u8, .u8, .u8, .u8]
def kW : List IntKind := [.u32, .u8, .u8, .u8, .u8, .u8, .u8, .u8, .u8, .u8, .u8, .u8, .u8]
theorem l_kinds : kf Try.prog 24 = kL.map Kd.int := by kernel_rfl
theorem l_lay : layB Try.prog 24 = true := by kernel_rfl
theorem l_good : (kf Try.prog 24).all (goodK Try.prog 3) = true := by kernel_rfl
theorem w_kinds : kf Try.prog 44 = kW.map Kd.int := by kernel_rfl
theorem w_lay : layB Try.prog 44 = true := by kernel_rfl
theorem w_good : (kf Try.prog 44).all (goodK Try.prog 3) = true := by kernel_rfl

theorem u8_all {ns : List Int} {ks : List IntKind} (hk : ∀ k ∈ ks, k = .u8) (hl : ns.length = ks.length) (h : ∀ (i : Nat) k n, ks[i]? = some k → ns[i]? = some n → k.min ≤ n ∧ n ≤ k.max) : ∀ n ∈ ns, u8 n := by
  intro n hn
  obtain ⟨i, hi⟩ := List.mem_iff_getElem?.1 hn
  have hlt := (List.getElem?_eq_some_iff.1 hi).1
  have hki : ks[i]? = some ks[i] := List.getElem?_eq_getElem (by omega)
  have := h i _ n hki hi
  rw [hk _ (List.getElem_mem (by omega))] at this
  have h1 : (0 : Int) ≤ n := this.1
  have h2 : n ≤ 255 := this.2
  exact ⟨h1, by omega⟩

theorem arg_L {H : Type} {enc : TypeId × Value → H} {w : World} {spare : Nat → Bool} {held : Bool} {v : Value} {d : DataW H} {ps : List MemPlace} {fs : Array Field} (ht : Try.prog.underlying 24 = some (.struct fs)) {r : Reach} {b : Nat} (hv : Value.okWide Try.prog w r b 24 v)
    (h : DataW.Trod enc Try.prog w 0 spare held 24 v d ps) : ∃ t a1 a2 a3 a4 a5 a6 a7 a8, lPre t [a1, a2, a3, a4, a5, a6, a7, a8] ∧ VR (roSg w) (.agg (numV kL [t, a1, a2, a3, a4, a5, a6, a7, a8]).toArray) v := by
  obtain ⟨ns, h1, h2, h3⟩ := arg_struct ht hv h l_lay l_good l_kinds
  match ns, h1, h2, h3 with
  | [t, a1, a2, a3, a4, a5, a6, a7, a8], h1, h2, h3 =>
    have hu := u8_all (ks := kL) (fun k hk => by simp [kL] at hk; exact hk) h1 h2
    exact ⟨t, a1, a2, a3, a4, a5, a6, a7, a8, ⟨hu t (by simp), rfl, fun n hn => hu n (List.mem_cons_of_mem _ hn)⟩, h3⟩

theorem arg_W {H : Type} {enc : TypeId × Value → H} {w : World} {spare : Nat → Bool} {held : Bool} {v : Value} {d : DataW H} {ps : List MemPlace} {fs : Array Field} (ht : Try.prog.underlying 44 = some (.struct fs)) {r : Reach} {b : Nat} (hv : Value.okWide Try.prog w r b 44 v)
    (h : DataW.Trod enc Try.prog w 0 spare held 44 v d ps) : ∃ t a1 a2 a3 a4 a5 a6 a7 a8 a9 a10 a11 a12, wPre t [a1, a2, a3, a4, a5, a6, a7, a8, a9, a10, a11, a12] ∧ VR (roSg w) (.agg (numV kW [t, a1, a2, a3, a4, a5, a6, a7, a8, a9, a10, a11, a12]).toArray) v := by
  obtain ⟨ns, h1, h2, h3⟩ := arg_struct ht hv h w_lay w_good w_kinds
  match ns, h1, h2, h3 with
  | [t, a1, a2, a3, a4, a5, a6, a7, a8, a9, a10, a11, a12], h1, h2, h3 =>
    have hu := u8_all (ns := [a1, a2, a3, a4, a5, a6, a7, a8, a9, a10, a11, a12]) (ks := kW.tail) (fun k hk => by simp [kW] at hk; exact hk) rfl (fun i k n hi hn => h2 (i + 1) k n hi hn)
    have ht0 := h2 0 .u32 t rfl rfl
    have g1 : (0 : Int) ≤ t := ht0.1
    have g2 : t ≤ 4294967295 := ht0.2
    exact ⟨t, a1, a2, a3, a4, a5, a6, a7, a8, a9, a10, a11, a12, ⟨⟨g1, by omega⟩, rfl, hu⟩, h3⟩

/-! ## AttrsApply -/

theorem g_applies : RightG Try.prog U0 LV cApplies 4 := rightG_eq annsL stageL0_ok 400 vcApplies_eq vcApplies_ok (conT rfl)

theorem applies_walk {H : Type} {enc : TypeId × Value → H} {W : World} {spare : Nat → Bool} {held : Bool} {v w : Value} {d e : DataW H} {ps qs : List MemPlace} (hm : Try.prog.follows .mixedOrders = true)
    {fs gs : Array Field} (ht : Try.prog.underlying 24 = some (.struct fs)) (ht' : Try.prog.underlying 44 = some (.struct gs)) {r : Reach} {b : Nat} (hv : Value.okWide Try.prog W r b 24 v) (hw : Value.okWide Try.prog W r b 44 w)
    (h : DataW.Trod enc Try.prog W 0 spare held 24 v d ps) (k : DataW.Trod enc Try.prog W 0 spare held 44 w e qs) : Calls Try.prog 4 #[v, w] W fun e w' => e = .returned (.bool true) ∧ Below W.heap.size W w' := by
  obtain ⟨t, a1, a2, a3, a4, a5, a6, a7, a8, h1, h2⟩ := arg_L ht hv h
  obtain ⟨s, b1, b2, b3, b4, b5, b6, b7, b8, b9, b10, b11, b12, k1, k2⟩ := arg_W ht' hw k
  refine law_calls hm (LV_ok hm) g_applies rfl rfl rfl (fun d e h => h) rfl (fun nb ds => rfl)
    (es := [.dat 0 (.int t), .dat 1 (.int a1), .dat 2 (.int a2), .dat 3 (.int a3), .dat 4 (.int a4), .dat 5 (.int a5), .dat 6 (.int a6), .dat 7 (.int a7), .dat 8 (.int a8),
      .dat 9 (.int s), .dat 10 (.int b1), .dat 11 (.int b2), .dat 12 (.int b3), .dat 13 (.int b4), .dat 14 (.int b5), .dat 15 (.int b6), .dat 16 (.int b7), .dat 17 (.int b8), .dat 18 (.int b9), .dat 19 (.int b10), .dat 20 (.int b11), .dat 21 (.int b12)])
    rfl ⟨t, _, s, _, h1, k1, rfl⟩ (xs := [_, _]) (ys := [v, w]) ?_ (VRL.cons h2 (VRL.cons k2 (VRL.nil _)))
  exact VDL.cons (vd_agg 0 kL [t, a1, a2, a3, a4, a5, a6, a7, a8]) (VDL.cons (vd_agg 9 kW [s, b1, b2, b3, b4, b5, b6, b7, b8, b9, b10, b11, b12]) VDL.nil)

end Go.C13
