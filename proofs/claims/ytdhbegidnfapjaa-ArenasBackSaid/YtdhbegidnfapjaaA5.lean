/- Chapter 15, the law ArenasNever: its condition holds.
  Conditions: none. -/
import Derived.Test.YtdhbegidnfapjaaA3
import Derived.Test.YtdhbegidnfapjaaA4
set_option linter.unusedVariables false
set_option linter.unusedSimpArgs false
namespace Go.C15
open Go Go.Xe Go.Sx

/-! ## What calls come to, in a condition -/

theorem take_all {A : Ar} {x : Int} (hA : A.Ok) {G : Int → Int → Int → Sx.Rows → Int → Int → Prop} (h : G A.tidx A.tgen 0 ((A.take x).T.map Slot.row) (linkOf (A.take x).c) (live (A.take x).T)) :
    ∀ i g e S f v, takeRel [.int x, .lst (A.T.map Slot.row), .int (linkOf A.c), .int (live A.T)] [.int i, .int g, .int e, .lst S, .int f, .int v] → G i g e S f v := by
  intro i g e S f v hr
  have := hr.of A x hA rfl
  simp only [Ar.dats, List.cons.injEq, Dat.int.injEq, Dat.lst.injEq, and_true] at this
  obtain ⟨rfl, rfl, rfl, rfl, rfl, rfl⟩ := this
  exact h

theorem free_all {A : Ar} {i g : Int} (hA : A.Ok) {G : Int → Int → Sx.Rows → Int → Int → Prop} (h1 : A.valid i g = true → G (xAt A.T i.toNat) 0 ((A.free i).T.map Slot.row) (linkOf (A.free i).c) (live (A.free i).T))
    (h2 : A.valid i g = false → G 0 11 (A.T.map Slot.row) (linkOf A.c) (live A.T)) :
    ∀ x e S f v, freeRel [.int i, .int g, .lst (A.T.map Slot.row), .int (linkOf A.c), .int (live A.T)] [.int x, .int e, .lst S, .int f, .int v] → G x e S f v := by
  intro x e S f v hr
  have := hr.of A i g hA rfl
  cases hv : A.valid i g with
  | true =>
    rw [hv, if_pos rfl] at this
    simp only [Ar.dats, List.cons.injEq, Dat.int.injEq, Dat.lst.injEq, and_true] at this
    obtain ⟨rfl, rfl, rfl, rfl, rfl⟩ := this
    exact h1 hv
  | false =>
    rw [hv, if_neg (by simp)] at this
    simp only [Ar.dats, List.cons.injEq, Dat.int.injEq, Dat.lst.injEq, and_true] at this
    obtain ⟨rfl, rfl, rfl, rfl, rfl⟩ := this
    exact h2 hv

theorem valid_all {A : Ar} {i g : Int} (hA : A.Ok) {G : Bool → Sx.Rows → Int → Int → Prop} (h : G (A.valid i g) (A.T.map Slot.row) (linkOf A.c) (live A.T)) :
    ∀ b S f v, validRel [.int i, .int g, .lst (A.T.map Slot.row), .int (linkOf A.c), .int (live A.T)] [.bool b, .lst S, .int f, .int v] → G b S f v := by
  intro b S f v hr
  have := hr.of A i g hA rfl
  simp only [Ar.dats, List.cons.injEq, Dat.int.injEq, Dat.lst.injEq, Dat.bool.injEq, and_true] at this
  obtain ⟨rfl, rfl, rfl, rfl⟩ := this
  exact h

theorem wait_all {A : Ar} (hA : A.Ok) {G : Sx.Rows → Sx.Rows → Int → Int → Prop} (h : G A.waiting (A.T.map Slot.row) (linkOf A.c) (live A.T)) :
    ∀ l S f v, waitRel [.lst (A.T.map Slot.row), .int (linkOf A.c), .int (live A.T)] [.lst l, .lst S, .int f, .int v] → G l S f v := by
  intro l S f v hr
  have := hr.of A hA rfl
  simp only [Ar.dats, List.cons.injEq, Dat.int.injEq, Dat.lst.injEq, and_true] at this
  obtain ⟨rfl, rfl, rfl, rfl⟩ := this
  exact h

theorem lives_all {G : Bool → Prop} (h : G true) : ∀ b, livesRel [] [.bool b] → G b := by
  intro b hr
  have hr : [Dat.bool b] = [Dat.bool true] := hr
  simp only [List.cons.injEq, Dat.bool.injEq, and_true] at hr
  rw [hr]; exact h

theorem hr_inj (a b : Hd) (h : hr a = hr b) : a = b := by
  simp only [hr, hrow, List.cons.injEq, Dat.int.injEq, and_true] at h
  exact Prod.ext h.1 h.2

theorem nevB_all {H : List Hd} {i x : Int} {G : Int → Prop} (h : ∀ k, 0 ≤ k → k ≤ (H.length : Int) → G k) : ∀ k, nevBInv [.lst (H.map hr), .int i, .int x] [.int k] → G k := by
  rintro k ⟨H', i', x', k', e, h1, h2, h3, e2⟩
  simp only [List.cons.injEq, Dat.int.injEq, Dat.lst.injEq, and_true] at e e2
  obtain ⟨e, rfl, rfl⟩ := e
  have := map_inj' hr_inj e
  subst this
  subst e2
  exact h k h2 h3

theorem nevC_all {H : List Hd} {A : Ar} (hA : A.Ok) {G : Int → Sx.Rows → Int → Int → Prop} (h : ∀ k, 0 ≤ k → k ≤ (H.length : Int) → G k (A.T.map Slot.row) (linkOf A.c) (live A.T)) :
    ∀ k S f v, nevCInv [.lst (H.map hr), .lst (A.T.map Slot.row), .int (linkOf A.c), .int (live A.T)] [.int k, .lst S, .int f, .int v] → G k S f v := by
  rintro k S f v ⟨B, H', k', hB, e, h1, h2, h3, e2⟩
  have e' : Dat.lst (H.map hr) :: A.dats = .lst (H'.map hr) :: B.dats := e
  simp only [List.cons.injEq, Dat.lst.injEq] at e'
  obtain ⟨e', e3⟩ := e'
  have := map_inj' hr_inj e'
  subst this
  have := Ar.inj hA hB e3
  subst this
  simp only [Ar.dats, List.cons.injEq, Dat.int.injEq, Dat.lst.injEq, and_true] at e2
  obtain ⟨rfl, rfl, rfl, rfl⟩ := e2
  exact h k h2 h3

/-! ## The arena, step by step -/

theorem modify_get {T : List Slot} {i k : Nat} {s : Slot} {g : Slot → Slot} (h : T[k]? = some s) : (T.modify i g)[k]? = some (if i = k then g s else s) := by
  rw [List.getElem?_modify, h]
  by_cases e : i = k <;> simp [e]

theorem modify_mem {T : List Slot} {i : Nat} {s : Slot} {g : Slot → Slot} (h : s ∈ T.modify i g) : s ∈ T ∨ ∃ t, T[i]? = some t ∧ s = g t := by
  obtain ⟨k, hk⟩ := List.mem_iff_getElem?.1 h
  rw [List.getElem?_modify] at hk
  cases ht : T[k]? with
  | none => rw [ht] at hk; cases hk
  | some t =>
    rw [ht] at hk
    by_cases e : i = k
    · subst e
      simp at hk
      exact .inr ⟨t, ht, hk.symm⟩
    · simp [e] at hk
      exact .inl (hk ▸ List.mem_of_getElem? ht)

theorem chain_modify {T : List Slot} {i : Nat} {g : Slot → Slot} : ∀ {c : List Nat}, i ∉ c → Chain T c → Chain (T.modify i g) c
  | [], _, _ => trivial
  | j :: c, hi, h => by
    simp only [List.mem_cons, not_or] at hi
    obtain ⟨⟨s, h1, h2, h3⟩, h4, h5⟩ := h
    exact ⟨⟨s, by rw [modify_get h1, if_neg hi.1], h2, h3⟩, h4, chain_modify hi.2 h5⟩

theorem chain_unused {T : List Slot} {i : Nat} {s : Slot} (hs : T[i]? = some s) (hu : s.used = true) : ∀ {c : List Nat}, Chain T c → i ∉ c
  | [], _ => by simp
  | j :: c, h => by
    obtain ⟨⟨t, h1, h2, h3⟩, h4, h5⟩ := h
    simp only [List.mem_cons, not_or]
    refine ⟨fun e => ?_, chain_unused hs hu h5⟩
    subst e
    rw [hs] at h1
    cases h1
    rw [hu] at h2; cases h2

/-- What a Take makes of an arena. -/
structure TakeOk (A : Ar) (x : Int) : Prop where
  ok : (A.take x).Ok
  len : A.T.length ≤ (A.take x).T.length ∧ (A.take x).T.length ≤ A.T.length + 1
  lv : live (A.take x).T = live A.T + 1
  fr : (A.take x).c.length + (A.take x).T.length + (A.T.length + 1) = A.c.length + A.T.length + (A.T.length + 1) + (if A.c = [] then 1 else 0) - (if A.c = [] then 0 else 1)
  gens : ∀ s ∈ (A.take x).T, s.gen = 1 ∨ ∃ t ∈ A.T, s.gen = t.gen
  old : ∀ (k : Nat) t, A.T[k]? = some t → ∃ s, (A.take x).T[k]? = some s ∧ s.gen = t.gen ∧ (t.used = true → s.used = true)
  new : ∃ s, (A.take x).T[A.tidx]? = some s ∧ s.used = true ∧ s.gen = A.tgen
  tnew : ∀ s, A.T[A.tidx]? = some s → s.used = false

theorem Ar.Ok.take {A : Ar} (h : A.Ok) (x : Int) (hlt : A.T.length < 100000) : TakeOk A x := by
  cases hc : A.c with
  | nil =>
    have t1 : A.take x = ⟨A.T ++ [⟨1, true, 0, x⟩], []⟩ := by unfold Ar.take; rw [hc]
    have t2 : A.tidx = A.T.length := by unfold Ar.tidx; rw [hc]
    have t3 : A.tgen = 1 := by unfold Ar.tgen genAt; rw [t2]; simp
    refine ⟨?_, ?_, ?_, ?_, ?_, ?_, ?_, ?_⟩
    · rw [t1]
      refine ⟨trivial, by simp; omega, fun s hs => ?_⟩
      rcases List.mem_append.1 hs with h1 | h1
      · exact h.gen s h1
      · simp at h1; subst h1; exact ⟨Int.le_refl 1, show (1 : Int) < 4294967295 by decide⟩
    · rw [t1]; simp
    · rw [t1, live_app]; rfl
    · rw [t1, if_pos hc, if_pos hc, hc]; simp; omega
    · rw [t1]
      intro s hs
      rcases List.mem_append.1 hs with h1 | h1
      · exact .inr ⟨s, h1, rfl⟩
      · simp at h1; subst h1; exact .inl rfl
    · rw [t1]
      intro k t ht
      exact ⟨t, by rw [List.getElem?_append_left (List.getElem?_eq_some_iff.1 ht).1]; exact ht, rfl, id⟩
    · rw [t1, t2, t3]
      exact ⟨⟨1, true, 0, x⟩, by simp, rfl, rfl⟩
    · rw [t2]; intro s hs; simp at hs
  | cons i c =>
    obtain ⟨s0, h1, h2, h3⟩ := h.head hc
    have hch := h.chain
    rw [hc] at hch
    have t1 : A.take x = ⟨A.T.modify i (fun s => { s with used := true, next := 0, x := x }), c⟩ := by unfold Ar.take; rw [hc]
    have t2 : A.tidx = i := by unfold Ar.tidx; rw [hc]
    have t3 : A.tgen = s0.gen := by unfold Ar.tgen; rw [t2, genAt_of h1]
    have t4 := live_modify (fun s => { s with used := true, next := 0, x := x }) h1
    rw [h2] at t4
    simp only [if_true, Bool.false_eq_true, if_false, Int.sub_zero] at t4
    refine ⟨?_, ?_, ?_, ?_, ?_, ?_, ?_, ?_⟩
    · rw [t1]
      refine ⟨chain_modify hch.2.1 hch.2.2, by simp; exact h.size, fun s hs => ?_⟩
      rcases modify_mem hs with h4 | ⟨t, h4, rfl⟩
      · exact h.gen s h4
      · exact h.gen t (List.mem_of_getElem? h4)
    · rw [t1]; simp
    · rw [t1]; show live (A.T.modify i _) = _; omega
    · have hn : A.c ≠ [] := by rw [hc]; simp
      rw [t1, if_neg hn, if_neg hn, hc]; simp; omega
    · rw [t1]
      intro s hs
      rcases modify_mem hs with h4 | ⟨t, h4, rfl⟩
      · exact .inr ⟨s, h4, rfl⟩
      · exact .inr ⟨t, List.mem_of_getElem? h4, rfl⟩
    · rw [t1]
      intro k t ht
      refine ⟨_, modify_get ht, ?_, ?_⟩
      · by_cases e : i = k <;> simp [e]
      · intro hu; by_cases e : i = k <;> simp [e, hu]
    · rw [t1, t2, t3]
      exact ⟨_, modify_get h1, by simp, by simp⟩
    · rw [t2]; intro s hs; rw [h1] at hs; cases hs; exact h2

theorem Ar.Ok.free {A : Ar} (h : A.Ok) {i g : Int} (hi : 0 ≤ i) (hv : A.valid i g = true) (hg : ∀ s ∈ A.T, s.gen < 4294967294) : ∃ s, A.T[i.toNat]? = some s ∧ s.used = true ∧ s.gen = g ∧ (A.free i).Ok ∧ (A.free i).T.length = A.T.length ∧ (live (A.free i).T : Int) = live A.T - 1 ∧ (A.free i).c.length = A.c.length + 1 := by
  cases hs : A.T[i.toNat]? with
  | none => rw [valid_none hs] at hv; cases hv
  | some s =>
    rw [valid_some hs, Bool.and_eq_true, decide_eq_true_eq] at hv
    obtain ⟨hu, hgen⟩ := hv
    have t4 := live_modify (fun s => ⟨s.gen + 1, false, linkOf A.c, 0⟩) hs
    rw [hu] at t4
    simp only [if_true, Bool.false_eq_true, if_false, Int.add_zero] at t4
    have hni := chain_unused hs hu h.chain
    refine ⟨s, rfl, hu, hgen, ⟨⟨⟨_, modify_get hs, ?_, ?_⟩, hni, chain_modify hni h.chain⟩, ?_, fun t ht => ?_⟩, ?_, t4, rfl⟩
    · simp
    · simp
    · unfold Ar.free; simp; exact h.size
    · rcases modify_mem ht with h4 | ⟨u, h4, rfl⟩
      · exact h.gen t h4
      · have h5 := h.gen u (List.mem_of_getElem? h4)
        have h6 := hg u (List.mem_of_getElem? h4)
        exact ⟨by show 1 ≤ u.gen + 1; omega, by show u.gen + 1 < 4294967295; omega⟩
    · unfold Ar.free; simp

theorem Dead.not_valid {A : Ar} {h : Hd} (hd : Dead A h) : A.valid h.1 h.2 = false := by
  obtain ⟨_, _, s, h1, h2⟩ := hd
  rw [valid_some h1]
  have : ¬ s.gen = h.2 := by omega
  simp [this]

theorem Nev.take {A : Ar} {H G : List Hd} {i : Int} (h : Nev A H G i) (hi : i < 80) : Nev (A.take i) (H ++ [((A.tidx : Int), A.tgen)]) G (i + 1) ∧ ∀ p ∈ H, p ≠ ((A.tidx : Int), A.tgen) := by
  have h0 := h.i0
  have h1 := h.size
  have ht := h.ok.take i (by omega)
  have hlen := ht.len
  have hlv := ht.lv
  have hfr := ht.fr
  have hfr0 := h.fr
  have hl := h.hl
  have hlv0 := h.lv
  obtain ⟨s0, k1, k2, k3⟩ := ht.new
  have hgen : ∀ s ∈ A.T, 1 ≤ s.gen := fun s hs => (h.ok.gen s hs).1
  have hne : ∀ p ∈ H, p ≠ ((A.tidx : Int), A.tgen) := by
    rintro p hp rfl
    obtain ⟨_, _, s, a1, a2, a3⟩ := h.past _ hp
    have a1 : A.T[A.tidx]? = some s := a1
    have := a3 (ht.tnew s a1)
    have : A.tgen = s.gen := by unfold Ar.tgen; rw [genAt_of a1]
    simp only at *
    omega
  refine ⟨⟨ht.ok, by omega, by omega, fun s hs => ?_, ?_, fun p hp => ?_, fun p hp => ?_, ?_, ?_⟩, hne⟩
  · rcases ht.gens s hs with e | ⟨t, h2, e⟩
    · omega
    · have := h.gens t h2; omega
  · simp only [List.length_append, List.length_cons, List.length_nil]; omega
  · rcases List.mem_append.1 hp with h2 | h2
    · obtain ⟨b1, b2, s, a1, a2, a3⟩ := h.past p h2
      obtain ⟨s', c1, c2, c3⟩ := ht.old _ s a1
      refine ⟨b1, b2, s', c1, by omega, fun hu => ?_⟩
      have : s.used = false := by
        cases hsu : s.used with
        | false => rfl
        | true => rw [c3 hsu] at hu; cases hu
      have := a3 this
      omega
    · simp only [List.mem_singleton] at h2
      subst h2
      refine ⟨by simp, ?_, s0, by simpa using k1, by simp [k3], fun hu => by rw [k2] at hu; cases hu⟩
      have := ht.ok.gen s0 (List.mem_of_getElem? k1)
      simp only; omega
  · obtain ⟨b1, b2, s, a1, a2⟩ := h.dead p hp
    obtain ⟨s', c1, c2, _⟩ := ht.old _ s a1
    exact ⟨b1, b2, s', c1, by omega⟩
  · simp only [List.length_append, List.length_cons, List.length_nil]; omega
  · by_cases hc : A.c = []
    · rw [if_pos hc, if_pos hc] at hfr
      rw [hc] at hfr hfr0
      simp only [List.length_nil] at hfr hfr0
      have := live_le (A.take i).T
      omega
    · rw [if_neg hc, if_neg hc] at hfr
      have : 1 ≤ A.c.length := by
        cases hcc : A.c with
        | nil => exact absurd hcc hc
        | cons a b => simp
      have : (A.take i).T.length = A.T.length := by
        cases hcc : A.c with
        | nil => exact absurd hcc hc
        | cons a b => unfold Ar.take; rw [hcc]; simp
      omega

theorem Nev.free {A : Ar} {H G : List Hd} {i : Int} (h : Nev A H G i) (hi : i < 80) {p : Hd} (hp : p ∈ H) (hv : A.valid p.1 p.2 = true) : Nev (A.free p.1) H (G ++ [p]) (i + 1) := by
  have h0 := h.i0
  have h1 := h.size
  obtain ⟨b1, b2, s0, a1, a2, a3⟩ := h.past p hp
  obtain ⟨s, e1, e2, e3, e4, e5, e6, e7⟩ := h.ok.free b1 hv (fun s hs => by have := h.gens s hs; omega)
  rw [a1] at e1
  cases e1
  have hl := h.hl
  have hlv0 := h.lv
  have hfr0 := h.fr
  have upd : ∀ (k : Nat) t, A.T[k]? = some t → ∃ u, (A.free p.1).T[k]? = some u ∧ t.gen ≤ u.gen ∧ (p.1.toNat = k → t.gen < u.gen) ∧ (p.1.toNat ≠ k → u = t) := by
    intro k t ht
    refine ⟨_, modify_get ht, ?_, ?_, ?_⟩
    · by_cases e : p.1.toNat = k
      · simp only [e, if_true]; omega
      · simp only [e, if_false]; omega
    · intro e; simp only [e, if_true]; omega
    · intro e; simp only [e, if_false]
  refine ⟨e4, by omega, by omega, fun t ht => ?_, ?_, fun q hq => ?_, fun q hq => ?_, ?_, ?_⟩
  · rcases modify_mem ht with h2 | ⟨u, h2, rfl⟩
    · have := h.gens t h2; omega
    · have := h.gens u (List.mem_of_getElem? h2); show u.gen + 1 ≤ i + 1 + 1; omega
  · simp only [List.length_append, List.length_cons, List.length_nil]
    have := live_le (A.free p.1).T
    omega
  · obtain ⟨c1, c2, t, d1, d2, d3⟩ := h.past q hq
    obtain ⟨u, f1, f2, f3, f4⟩ := upd _ t d1
    refine ⟨c1, c2, u, f1, by omega, fun hu => ?_⟩
    by_cases e : p.1.toNat = q.1.toNat
    · have := f3 e; omega
    · have := f4 e; subst this; exact d3 hu
  · rcases List.mem_append.1 hq with h2 | h2
    · obtain ⟨c1, c2, t, d1, d2⟩ := h.dead q h2
      obtain ⟨u, f1, f2, f3, f4⟩ := upd _ t d1
      exact ⟨c1, c2, u, f1, by omega⟩
    · simp only [List.mem_singleton] at h2
      subst h2
      obtain ⟨u, f1, f2, f3, f4⟩ := upd _ s0 a1
      have := f3 rfl
      exact ⟨b1, b2, u, f1, by omega⟩
  · simp only [List.length_append, List.length_cons, List.length_nil]; omega
  · omega

theorem Nev.step {A : Ar} {H G : List Hd} {i : Int} (h : Nev A H G i) (hi : i < 80) : Nev A H G (i + 1) := by
  have h0 := h.i0
  have h1 := h.size
  have hl := h.hl
  exact ⟨h.ok, by omega, by omega, fun s hs => by have := h.gens s hs; omega, by omega, h.past, h.dead, h.lv, h.fr⟩


theorem op_get {L : List Op} {i : Int} (h0 : 0 ≤ i) (h1 : i < (L.length : Int)) : ∃ o, L[i.toNat]? = some o := ⟨_, List.getElem?_eq_getElem (by omega)⟩

theorem hd_get {H : List Hd} {i : Int} (h0 : 0 ≤ i) (h1 : i < (H.length : Int)) : ∃ p, H[i.toNat]? = some p ∧ p ∈ H := by
  have hl : i.toNat < H.length := by omega
  exact ⟨_, List.getElem?_eq_getElem hl, List.getElem_mem hl⟩

theorem app_hd (H : List Hd) (a b : Int) : H.map hr ++ chunk 2 1 [.int a, .int b] = (H ++ [(a, b)]).map hr := by rw [List.map_append]; rfl

theorem hgetD0 (p : Hd) : (hr p).getD 0 (.int 0) = .int p.1 := rfl
theorem hgetD1 (p : Hd) : (hr p).getD 1 (.int 0) = .int p.2 := rfl
theorem ogetD0 (p : Op) : (Op.row p).getD 0 (.int 0) = .int p.kind := rfl
theorem ogetD1 (p : Op) : (Op.row p).getD 1 (.int 0) = .int p.which := rfl

theorem nev0 : Nev ⟨[], []⟩ [] [] 0 where
  ok := ⟨trivial, Nat.zero_le _, fun s h => (by simp at h)⟩
  i0 := by omega
  size := by simp
  gens := fun s h => (by simp at h)
  hl := by simp
  past := fun h hh => (by simp at hh)
  dead := fun h hh => (by simp at hh)
  lv := by simp [live]
  fr := by simp [live]

theorem nevB_start {H : List Hd} {a b : Int} (h : ∀ p ∈ H, p ≠ (a, b)) {k : Int} (h0 : 0 ≤ k) (h1 : k ≤ H.length) : nevBInv [.lst (H.map hr), .int a, .int b] [.int k] := ⟨H, a, b, k, rfl, h, h0, h1, rfl⟩

theorem nevB_bad {H : List Hd} {a b k : Int} (h3 : (cellAt (H.map hr) k 0).toInt = a) (h4 : (cellAt (H.map hr) k 1).toInt = b) (h0 : 0 ≤ k) (h1 : k < H.length) (h : ∀ p ∈ H, p ≠ (a, b)) : False := by
  obtain ⟨p, hp1, hp2⟩ := hd_get h0 h1
  rw [cellAt_map hp1, hgetD0] at h3
  rw [cellAt_map hp1, hgetD1] at h4
  exact h p hp2 (Prod.ext h3 h4)

theorem nevBMu_lt {H : List Hd} {a b k : Int} (h0 : 0 ≤ k) (h1 : k < H.length) : nevBMu [.lst (H.map hr), .int a, .int b] [.int (k + 1)] < nevBMu [.lst (H.map hr), .int a, .int b] [.int k] := by
  show (((H.map hr).length : Int) - (k + 1)).toNat < (((H.map hr).length : Int) - k).toNat
  rw [List.length_map]; omega

theorem nevC_start {A : Ar} {G : List Hd} (hA : A.Ok) (h : ∀ p ∈ G, Dead A p) {k : Int} (h0 : 0 ≤ k) (h1 : k ≤ G.length) :
    nevCInv [.lst (G.map hr), .lst (A.T.map Slot.row), .int (linkOf A.c), .int (live A.T)] [.int k, .lst (A.T.map Slot.row), .int (linkOf A.c), .int (live A.T)] := ⟨A, G, k, hA, rfl, h, h0, h1, rfl⟩

theorem nevCMu_lt {G : List Hd} {a b c d e f a' b' c' : Dat} {k : Int} (h0 : 0 ≤ k) (h1 : k < G.length) : nevCMu [.lst (G.map hr), a, b, c] [.int (k + 1), d, e, f] < nevCMu [.lst (G.map hr), a, b, c] [.int k, a', b', c'] := by
  show (((G.map hr).length : Int) - (k + 1)).toNat < (((G.map hr).length : Int) - k).toNat
  rw [List.length_map]; omega

theorem dead_at {A : Ar} {G : List Hd} (hA : A.Ok) (h : ∀ p ∈ G, Dead A p) {k : Int} (h0 : 0 ≤ k) (h1 : k < G.length) :
    validPre [.int (cellAt (G.map hr) k 0).toInt, .int (cellAt (G.map hr) k 1).toInt, .lst (A.T.map Slot.row), .int (linkOf A.c), .int (live A.T)] ∧ A.valid (cellAt (G.map hr) k 0).toInt (cellAt (G.map hr) k 1).toInt = false := by
  obtain ⟨p, hp1, hp2⟩ := hd_get h0 h1
  rw [cellAt_map hp1, cellAt_map hp1, hgetD0, hgetD1, toInt_int, toInt_int]
  have hd := h p hp2
  refine ⟨?_, hd.not_valid⟩
  obtain ⟨b1, b2, s, a1, a2⟩ := hd
  have hlt := (List.getElem?_eq_some_iff.1 a1).1
  have hsz := hA.size
  have hg := hA.gen s (List.mem_of_getElem? a1)
  exact ⟨A, p.1, p.2, hA, b1, by omega, b2, by omega, rfl⟩

/-- The last part of the condition for one state of the list of freed handles. -/
theorem valid_false {A : Ar} {G : List Hd} (hA : A.Ok) (h : ∀ p ∈ G, Dead A p) {k : Int} (h0 : 0 ≤ k) (h1 : k < G.length) {Q : Bool → Sx.Rows → Int → Int → Prop} (hq : Q false (A.T.map Slot.row) (linkOf A.c) (live A.T)) :
    validPre [.int (cellAt (G.map hr) k 0).toInt, .int (cellAt (G.map hr) k 1).toInt, .lst (A.T.map Slot.row), .int (linkOf A.c), .int (live A.T)] ∧
      (validPre [.int (cellAt (G.map hr) k 0).toInt, .int (cellAt (G.map hr) k 1).toInt, .lst (A.T.map Slot.row), .int (linkOf A.c), .int (live A.T)] → ∀ b S f v,
        validRel [.int (cellAt (G.map hr) k 0).toInt, .int (cellAt (G.map hr) k 1).toInt, .lst (A.T.map Slot.row), .int (linkOf A.c), .int (live A.T)] [.bool b, .lst S, .int f, .int v] → Q b S f v) := by
  obtain ⟨h2, h3⟩ := dead_at hA h h0 h1
  exact ⟨h2, fun _ => valid_all hA (by rw [h3]; exact hq)⟩

theorem tmod_range {a n : Int} (h0 : 0 ≤ a) (h1 : 0 < n) : 0 ≤ a.tmod n ∧ a.tmod n < n := ⟨Int.tmod_nonneg _ h0, Int.tmod_lt_of_pos _ h1⟩

theorem need_twice {p q : Prop} : (p ∧ (p → p ∧ (p → q))) ↔ (p ∧ (p → q)) := ⟨fun h => ⟨h.1, fun x => (h.2 x).2 x⟩, fun h => ⟨h.1, fun x => ⟨x, h.2⟩⟩⟩
theorem need_known {p q : Prop} : (p → p ∧ (p → q)) ↔ (p → q) := ⟨fun h x => (h x).2 x, fun h x => ⟨x, h⟩⟩
theorem never_false {d : List Dat} : neverRel d [.bool false] ↔ False := ⟨fun h => by have h : [Dat.bool false] = [Dat.bool true] := h; simp at h, fun h => h.elim⟩
theorem never_true {d : List Dat} : neverRel d [.bool true] := rfl

theorem nevMu_lt {i : Int} {a b c d e a' b' c' d' e' : Dat} (h0 : 0 ≤ i) (h : i < 80) : nevMu [] [a, b, .int (i + 1), c, d, e] < nevMu [] [a', b', .int i, c', d', e'] := by
  show (100 - (i + 1)).toNat < (100 - i).toNat
  omega

/-- How a freed handle is looked at again. -/
theorem free_pre {A : Ar} (hA : A.Ok) {p : Hd} (h : Past A p) : freePre [.int p.1, .int p.2, .lst (A.T.map Slot.row), .int (linkOf A.c), .int (live A.T)] := by
  obtain ⟨b1, b2, s, a1, a2, _⟩ := h
  have hlt := (List.getElem?_eq_some_iff.1 a1).1
  have hsz := hA.size
  have hg := hA.gen s (List.mem_of_getElem? a1)
  exact ⟨A, p.1, p.2, hA, b1, by omega, b2, by omega, rfl⟩

set_option maxHeartbeats 4000000 in
theorem vcNever_ok : vcNever := by
  unfold vcNever vcNever3 vcNever2 vcNever1 vcNever0 Nd
  intro x0 hp
  obtain ⟨L, hL, e⟩ := hp
  simp only [List.cons.injEq, Dat.lst.injEq, and_true] at e
  subst e
  refine ⟨⟨⟨[], []⟩, [], [], 0, nev0, rfl⟩, fun _ => ?_⟩
  rintro x1 x2 i x4 x5 x6 ⟨A, H, G, i', hN, e⟩
  simp only [Ar.dats, List.cons.injEq, Dat.int.injEq, Dat.lst.injEq, and_true] at e
  obtain ⟨rfl, rfl, rfl, rfl, rfl, rfl⟩ := e
  simp only [List.length_map, Int.lt_irrefl, not_false_eq_true, true_and, true_implies, forall_const, need_known, need_twice, implies_true, and_true, never_false, app_hd]
  have hi := hN.i0
  have hl := hN.hl
  have hsz := hN.size
  have hlv := hN.lv
  have hfr := hN.fr
  have hw : A.waiting.length = A.c.length := by simp [Ar.waiting]
  have hml : (A.T.map Slot.row).length = A.T.length := List.length_map _
  by_cases hiL : i < (L.length : Int)
  · by_cases h80 : i < 80
    · obtain ⟨o, ho⟩ := op_get hi.1 hiL
      have hob := hL o (List.mem_of_getElem? ho)
      have hw1 := hob.w
      obtain ⟨hT, hne⟩ := hN.take h80
      simp only [cellAt_map ho, ogetD0, ogetD1, toInt_int]
      by_cases hH : (H.length : Int) = 0
      · repeat' first
          | refine ⟨⟨A, i, hN.ok, by omega, rfl⟩, fun _ => take_all hN.ok ?_⟩
          | refine ⟨nevB_start hne (by omega) (by omega), fun _ => nevB_all ?_⟩
          | refine ⟨nevB_start hne (by omega) (by omega), fun _ => nevBMu_lt (by omega) (by omega)⟩
          | refine ⟨⟨A.take i, H ++ [((A.tidx : Int), A.tgen)], G, i + 1, hT, rfl⟩, fun _ => nevMu_lt (by omega) (by omega)⟩
          | exact (nevB_bad (by assumption) (by assumption) (by omega) (by omega) hne).elim
          | refine And.intro ?_ (fun _ => ?_)
          | intro _
        all_goals first | omega | exact absurd (by assumption : false = true) Bool.false_ne_true
      · have htm := tmod_range hw1.1 (show (0 : Int) < H.length by omega)
        obtain ⟨p, hp1, hp2⟩ := hd_get htm.1 htm.2
        simp only [cellAt_map hp1, hgetD0, hgetD1, toInt_int]
        have hpp := hN.past p hp2
        repeat' first
          | refine ⟨⟨A, i, hN.ok, by omega, rfl⟩, fun _ => take_all hN.ok ?_⟩
          | refine ⟨nevB_start hne (by omega) (by omega), fun _ => nevB_all ?_⟩
          | refine ⟨nevB_start hne (by omega) (by omega), fun _ => nevBMu_lt (by omega) (by omega)⟩
          | refine ⟨⟨A.take i, H ++ [((A.tidx : Int), A.tgen)], G, i + 1, hT, rfl⟩, fun _ => nevMu_lt (by omega) (by omega)⟩
          | exact (nevB_bad (by assumption) (by assumption) (by omega) (by omega) hne).elim
          | refine ⟨free_pre hN.ok hpp, fun _ => free_all hN.ok (fun hv => ?_) (fun hv => ?_)⟩
          | refine ⟨nevC_start (hN.free h80 hp2 hv).ok (hN.free h80 hp2 hv).dead (by omega) (by simp only [List.length_append, List.length_cons, List.length_nil]; omega), fun _ => nevC_all (hN.free h80 hp2 hv).ok ?_⟩
          | refine ⟨nevC_start (hN.free h80 hp2 hv).ok (hN.free h80 hp2 hv).dead (by omega) (by simp only [List.length_append, List.length_cons, List.length_nil]; omega), fun _ => nevCMu_lt (by omega) (by simp only [List.length_append, List.length_cons, List.length_nil]; omega)⟩
          | refine ⟨nevC_start hN.ok hN.dead (by omega) (by omega), fun _ => nevC_all hN.ok ?_⟩
          | refine ⟨nevC_start hN.ok hN.dead (by omega) (by omega), fun _ => nevCMu_lt (by omega) (by omega)⟩
          | refine valid_false (hN.free h80 hp2 hv).ok (hN.free h80 hp2 hv).dead (by omega) (by simp only [List.length_append, List.length_cons, List.length_nil]; omega) ?_
          | refine valid_false hN.ok hN.dead (by omega) (by omega) ?_
          | refine ⟨⟨A.free p.1, H, G ++ [p], i + 1, hN.free h80 hp2 hv, rfl⟩, fun _ => nevMu_lt (by omega) (by omega)⟩
          | refine ⟨⟨A, H, G, i + 1, hN.step h80, rfl⟩, fun _ => nevMu_lt (by omega) (by omega)⟩
          | refine And.intro ?_ (fun _ => ?_)
          | intro _
        all_goals first | omega | exact absurd (by assumption : false = true) Bool.false_ne_true
    · repeat' first
          | refine ⟨⟨A, hN.ok, rfl⟩, fun _ => wait_all hN.ok ?_⟩
          | refine ⟨rfl, fun _ => lives_all ?_⟩
          | exact never_true
          | refine And.intro ?_ (fun _ => ?_)
          | intro _
      all_goals first | omega | exact absurd (by assumption : false = true) Bool.false_ne_true
  · repeat' first
          | refine ⟨⟨A, hN.ok, rfl⟩, fun _ => wait_all hN.ok ?_⟩
          | refine ⟨rfl, fun _ => lives_all ?_⟩
          | exact never_true
          | refine And.intro ?_ (fun _ => ?_)
          | intro _
    all_goals first | omega | exact absurd (by assumption : false = true) Bool.false_ne_true
end Go.C15
