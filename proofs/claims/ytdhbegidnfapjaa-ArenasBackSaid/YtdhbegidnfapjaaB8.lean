/- Chapter 15, both arenas: one goes with the other; what stays true.
  Conditions: none. -/
import Derived.Test.YtdhbegidnfapjaaB7
set_option linter.unusedVariables false
set_option linter.unusedSimpArgs false
namespace Go.C15
open Go Go.Xe Go.Sx

theorem map_modify' {α β : Type} {f : α → β} {g : α → α} {h : β → β} (hg : ∀ s, f (g s) = h (f s)) : ∀ (T : List α) (n : Nat), (T.modify n g).map f = (T.map f).modify n h
  | [], n => by cases n <;> rfl
  | a :: T, 0 => by show f (g a) :: T.map f = h (f a) :: T.map f; rw [hg]
  | a :: T, n + 1 => by show f a :: (T.modify n g).map f = f a :: (T.map f).modify n h; rw [map_modify' hg]

theorem toR_take (A : Ar) (x : Int) : (A.take x).toR = A.toR.take x := by
  unfold Ar.take Rf.take Ar.toR
  cases A.c with
  | nil => simp only [List.map_append]; rfl
  | cons i c => exact congrArg (fun L => (⟨L, c⟩ : Rf)) (map_modify' (f := Slot.rs) (g := fun s : Slot => { s with used := true, next := 0, x := x }) (h := fun s : RS => { s with used := true, x := x }) (fun _ => rfl) A.T i)
theorem toR_tidx (A : Ar) : A.toR.tidx = A.tidx := by
  unfold Rf.tidx Ar.tidx Ar.toR
  cases A.c with
  | nil => simp
  | cons i c => rfl
theorem toR_genAt (T : List Slot) (i : Nat) : rgenAt (T.map Slot.rs) i = genAt T i := by
  unfold rgenAt genAt
  rw [List.getElem?_map]
  cases T[i]? <;> rfl
theorem toR_xAt (T : List Slot) (i : Nat) : rxAt (T.map Slot.rs) i = xAt T i := by
  unfold rxAt xAt
  rw [List.getElem?_map]
  cases T[i]? <;> rfl
theorem toR_tgen (A : Ar) : A.toR.tgen = A.tgen := by
  unfold Rf.tgen Ar.tgen
  rw [toR_tidx]; exact toR_genAt _ _
theorem toR_valid (A : Ar) (i g : Int) : A.toR.valid i g = A.valid i g := by
  unfold Rf.valid Ar.valid Ar.toR
  simp only [List.getElem?_map]
  cases A.T[i.toNat]? <;> rfl
theorem toR_free (A : Ar) (i : Int) : (A.free i).toR = A.toR.free i := by
  unfold Ar.free Rf.free Ar.toR
  exact congrArg (fun L => (⟨L, i.toNat :: A.c⟩ : Rf)) (map_modify' (f := Slot.rs) (g := fun s : Slot => ⟨s.gen + 1, false, linkOf A.c, 0⟩) (h := fun s : RS => ⟨s.gen + 1, false, 0⟩) (fun _ => rfl) A.T i.toNat)
theorem toR_set (A : Ar) (i x : Int) : (A.set i x).toR = A.toR.set i x := by
  unfold Ar.set Rf.set Ar.toR
  exact congrArg (fun L => (⟨L, A.c⟩ : Rf)) (map_modify' (f := Slot.rs) (g := fun s : Slot => { s with x := x }) (h := fun s : RS => { s with x := x }) (fun _ => rfl) A.T i.toNat)
theorem toR_untake (A : Ar) (i g : Int) : A.toR.untake i g = ((A.untake i g).1.toR, (A.untake i g).2) := by
  unfold Rf.untake Ar.untake
  rw [toR_valid]
  have hl : A.toR.L.length = A.T.length := by unfold Ar.toR; simp
  rw [hl]
  split
  · rfl
  · split
    · rfl
    · split
      · unfold Ar.toR; simp only [List.map_take]
      · exact congrArg (fun L => ((⟨L, i.toNat :: A.c⟩ : Rf), (0 : Int))) (map_modify' (f := Slot.rs) (g := fun s : Slot => ⟨s.gen, false, linkOf A.c, 0⟩) (h := fun s : RS => { s with used := false, x := 0 }) (fun _ => rfl) A.T i.toNat).symm
theorem toR_unfree (A : Ar) (i g x : Int) : A.toR.unfree i g x = ((A.unfree i g x).1.toR, (A.unfree i g x).2) := by
  have hc : A.toR.F = A.c := rfl
  have hL : A.toR.L = A.T.map Slot.rs := rfl
  unfold Rf.unfree Ar.unfree
  rw [hc]
  cases hcc : A.c with
  | nil => rfl
  | cons j c =>
    simp only [hL, toR_genAt]
    split
    · exact congrArg (fun L => ((⟨L, c⟩ : Rf), (0 : Int))) (map_modify' (f := Slot.rs) (g := fun _ : Slot => ⟨g, true, 0, x⟩) (h := fun _ : RS => ⟨g, true, x⟩) (fun _ => rfl) A.T j).symm
    · rfl

theorem toR_ok {A : Ar} (h : A.Ok) : A.toR.Ok := by
  refine ⟨fun i hi => ?_, ?_, ?_, fun s hs => ?_⟩
  · have := chain_lt h.chain i hi
    show i < (A.T.map Slot.rs).length
    rw [List.length_map]; exact this
  · show (A.T.map Slot.rs).length ≤ 100000
    rw [List.length_map]; exact h.size
  · show A.c.length ≤ 100000
    exact Nat.le_trans h.clen h.size
  · obtain ⟨t, ht, rfl⟩ := List.mem_map.1 hs
    exact h.gen t ht

/-! ## What stays true -/

abbrev AOk (A : Ar) (n : Nat) : Prop := Bo.Ok ⟨A, []⟩ n

theorem Bo.Ok.a {p : Bo} {n : Nat} (h : p.Ok n) : AOk p.A n := ⟨h.ok, h.tl, h.gl, by simp, fun _ hh => (by simp at hh), h.xs, h.fr, h.us⟩
theorem AOk.bo {A : Ar} {n : Nat} (h : AOk A n) {H : List Hd} (hl : H.length ≤ n) (hu : ∀ h ∈ H, U32 h.1 ∧ U32 h.2) : Bo.Ok ⟨A, H⟩ n := ⟨h.ok, h.tl, h.gl, hl, hu, h.xs, h.fr, h.us⟩
theorem AOk.mk' {A : Ar} {n : Nat} (h1 : A.Ok) (h2 : A.T.length ≤ n) (h3 : ∀ s ∈ A.T, s.gen ≤ n + 1) (h4 : ∀ s ∈ A.T, 0 ≤ s.x ∧ s.x ≤ 255) (h5 : ∀ i ∈ A.c, ∀ s, A.T[i]? = some s → 2 ≤ s.gen ∧ s.x = 0) (h6 : ∀ s ∈ A.T, s.used = true → s.next = 0) : AOk A n :=
  ⟨h1, h2, h3, by simp, fun _ hh => (by simp at hh), h4, h5, h6⟩
theorem AOk.le {A : Ar} {n m : Nat} (h : AOk A n) (hm : n ≤ m) : AOk A m :=
  AOk.mk' h.ok (Nat.le_trans h.tl hm) (fun s hs => by have := h.gl s hs; omega) h.xs h.fr h.us

theorem chain_take {T : List Slot} {m : Nat} : ∀ {c : List Nat}, (∀ j ∈ c, j < m) → Chain T c → Chain (T.take m) c
  | [], _, _ => trivial
  | j :: c, hj, h => by
    obtain ⟨⟨s, h1, h2, h3⟩, h4, h5⟩ := h
    exact ⟨⟨s, by rw [List.getElem?_take_of_lt (hj j (by simp))]; exact h1, h2, h3⟩, h4, chain_take (fun k hk => hj k (by simp [hk])) h5⟩
theorem chain_keep {T : List Slot} {i : Nat} {g : Slot → Slot} (hg : ∀ s, (g s).used = s.used ∧ (g s).next = s.next) : ∀ {c : List Nat}, Chain T c → Chain (T.modify i g) c
  | [], _ => trivial
  | j :: c, h => by
    obtain ⟨⟨s, h1, h2, h3⟩, h4, h5⟩ := h
    refine ⟨⟨_, modify_get h1, ?_, ?_⟩, h4, chain_keep hg h5⟩
    · split
      · rw [(hg s).1]; exact h2
      · exact h2
    · split
      · rw [(hg s).2]; exact h3
      · exact h3
theorem modify_get' {T : List Slot} {i k : Nat} {s : Slot} {g : Slot → Slot} (h : (T.modify i g)[k]? = some s) : ∃ t, T[k]? = some t ∧ s = if i = k then g t else t := by
  cases ht : T[k]? with
  | none => rw [List.getElem?_modify, ht] at h; cases h
  | some t => rw [modify_get ht] at h; exact ⟨t, rfl, (Option.some.inj h).symm⟩

theorem AOk.take {A : Ar} {n : Nat} (h : AOk A n) (hn : n < 1000) {x : Int} (hx : 0 ≤ x ∧ x ≤ 255) : AOk (A.take x) (n + 1) := by
  have hok : A.Ok := h.ok
  have htl : A.T.length ≤ n := h.tl
  have ht := hok.take x (show A.T.length < 100000 by omega)
  refine AOk.mk' ht.ok (by have := ht.len.2; show (A.take x).T.length ≤ n + 1; omega) (fun s hs => ?_) ?_ ?_ ?_
  · rcases ht.gens s hs with e | ⟨t, ht, e⟩
    · omega
    · have : t.gen ≤ n + 1 := h.gl t ht
      omega
  all_goals
    cases hc : A.c with
    | nil => ?_
    | cons i c => ?_
  · have t1 : A.take x = ⟨A.T ++ [⟨1, true, 0, x⟩], []⟩ := by unfold Ar.take; rw [hc]
    rw [t1]
    intro s hs
    rcases List.mem_append.1 hs with h1 | h1
    · exact h.xs s h1
    · simp at h1; subst h1; exact hx
  · have t1 : A.take x = ⟨A.T.modify i (fun s => { s with used := true, next := 0, x := x }), c⟩ := by unfold Ar.take; rw [hc]
    rw [t1]
    intro s hs
    rcases modify_mem hs with h1 | ⟨t, h1, rfl⟩
    · exact h.xs s h1
    · exact hx
  · have t1 : A.take x = ⟨A.T ++ [⟨1, true, 0, x⟩], []⟩ := by unfold Ar.take; rw [hc]
    rw [t1]
    intro j hj
    simp at hj
  · have t1 : A.take x = ⟨A.T.modify i (fun s => { s with used := true, next := 0, x := x }), c⟩ := by unfold Ar.take; rw [hc]
    rw [t1]
    have hch := hok.chain
    simp only [hc] at hch
    intro j hj s hs
    obtain ⟨t, k1, k2⟩ := modify_get' hs
    have : i ≠ j := fun e => hch.2.1 (e ▸ hj)
    rw [if_neg this] at k2
    subst k2
    exact h.fr j (by simp only [hc]; simp [show j ∈ c from hj]) s k1
  · have t1 : A.take x = ⟨A.T ++ [⟨1, true, 0, x⟩], []⟩ := by unfold Ar.take; rw [hc]
    rw [t1]
    intro s hs hu
    rcases List.mem_append.1 hs with h1 | h1
    · exact h.us s h1 hu
    · simp at h1; subst h1; rfl
  · have t1 : A.take x = ⟨A.T.modify i (fun s => { s with used := true, next := 0, x := x }), c⟩ := by unfold Ar.take; rw [hc]
    rw [t1]
    intro s hs hu
    rcases modify_mem hs with h1 | ⟨t, h1, rfl⟩
    · exact h.us s h1 hu
    · rfl

theorem valid_at {A : Ar} {i g : Int} (hv : A.valid i g = true) : ∃ s, A.T[i.toNat]? = some s ∧ s.used = true ∧ s.gen = g := by
  cases hs : A.T[i.toNat]? with
  | none => rw [valid_none hs] at hv; cases hv
  | some s =>
    rw [valid_some hs, Bool.and_eq_true, decide_eq_true_eq] at hv
    exact ⟨s, rfl, hv⟩

theorem AOk.free {A : Ar} {n : Nat} (h : AOk A n) (hn : n < 1000) {i g : Int} (hi : 0 ≤ i) (hv : A.valid i g = true) : AOk (A.free i) (n + 1) := by
  have hok : A.Ok := h.ok
  obtain ⟨s, hs, hu, hg, hok', hl, _⟩ := hok.free hi hv (fun s hs => by have : s.gen ≤ n + 1 := h.gl s hs; omega)
  have hni := chain_unused hs hu hok.chain
  have htl : A.T.length ≤ n := h.tl
  refine AOk.mk' hok' (by omega) (fun t ht => ?_) (fun t ht => ?_) (fun j hj t ht => ?_) (fun t ht hut => ?_)
  · rcases modify_mem ht with h1 | ⟨u, h1, rfl⟩
    · have : t.gen ≤ n + 1 := h.gl t h1
      omega
    · have : u.gen ≤ n + 1 := h.gl u (List.mem_of_getElem? h1)
      show u.gen + 1 ≤ _
      omega
  · rcases modify_mem ht with h1 | ⟨u, h1, rfl⟩
    · exact h.xs t h1
    · exact ⟨Int.le_refl 0, by show (0 : Int) ≤ 255; decide⟩
  · obtain ⟨u, k1, k2⟩ := modify_get' (T := A.T) ht
    by_cases e : i.toNat = j
    · rw [if_pos e] at k2
      subst k2
      have : 1 ≤ u.gen := (hok.gen u (List.mem_of_getElem? k1)).1
      exact ⟨by show 2 ≤ u.gen + 1; omega, rfl⟩
    · rw [if_neg e] at k2
      subst k2
      rcases List.mem_cons.1 hj with rfl | hj
      · exact absurd rfl e
      · exact h.fr j hj t k1
  · rcases modify_mem ht with h1 | ⟨u, h1, rfl⟩
    · exact h.us t h1 hut
    · cases hut

theorem AOk.set {A : Ar} {n : Nat} (h : AOk A n) {i g x : Int} (hv : A.valid i g = true) (hx : 0 ≤ x ∧ x ≤ 255) : AOk (A.set i x) n := by
  have hok : A.Ok := h.ok
  obtain ⟨s, hs, hu, hg⟩ := valid_at hv
  have hni := chain_unused hs hu hok.chain
  refine AOk.mk' ⟨chain_keep (g := fun s => { s with x := x }) (fun _ => ⟨rfl, rfl⟩) hok.chain, by show (A.T.modify _ _).length ≤ _; rw [List.length_modify]; exact hok.size, fun t ht => ?_⟩ (by show (A.T.modify _ _).length ≤ _; rw [List.length_modify]; exact h.tl) (fun t ht => ?_) (fun t ht => ?_) (fun j hj t ht => ?_) (fun t ht hut => ?_)
  · rcases modify_mem ht with h1 | ⟨u, h1, rfl⟩
    · exact hok.gen t h1
    · exact hok.gen u (List.mem_of_getElem? h1)
  · rcases modify_mem ht with h1 | ⟨u, h1, rfl⟩
    · exact h.gl t h1
    · exact h.gl u (List.mem_of_getElem? h1)
  · rcases modify_mem ht with h1 | ⟨u, h1, rfl⟩
    · exact h.xs t h1
    · exact hx
  · obtain ⟨u, k1, k2⟩ := modify_get' (T := A.T) ht
    by_cases e : i.toNat = j
    · subst e; exact absurd hj hni
    · rw [if_neg e] at k2
      subst k2
      exact h.fr j hj t k1
  · rcases modify_mem ht with h1 | ⟨u, h1, rfl⟩
    · exact h.us t h1 hut
    · exact h.us u (List.mem_of_getElem? h1) hut

theorem AOk.untake {A : Ar} {n : Nat} (h : AOk A n) {i g : Int} (hi : 0 ≤ i) : AOk (A.untake i g).1 n := by
  have hok : A.Ok := h.ok
  unfold Ar.untake
  split
  · exact h
  · rename_i hv
    have hv : A.valid i g = true := by simpa using hv
    obtain ⟨s, hs, hu, hg⟩ := valid_at hv
    have hl := (List.getElem?_eq_some_iff.1 hs).1
    have hni := chain_unused hs hu hok.chain
    split
    · exact h
    · rename_i hne
      split
      · rename_i hg1
        have hlast : i.toNat + 1 = A.T.length := by
          have : ¬ i < (A.T.length : Int) - 1 := fun hh => hne ⟨hg1, hh⟩
          omega
        have hjl : ∀ j ∈ A.c, j < i.toNat := fun j hj => by
          have := chain_lt hok.chain j hj
          have : j ≠ i.toNat := fun e => hni (e ▸ hj)
          omega
        refine AOk.mk' ⟨chain_take hjl hok.chain, ?_, fun t ht => hok.gen t (List.mem_of_mem_take ht)⟩ ?_ (fun t ht => h.gl t (List.mem_of_mem_take ht)) (fun t ht => h.xs t (List.mem_of_mem_take ht)) (fun j hj t ht => ?_) (fun t ht => h.us t (List.mem_of_mem_take ht))
        · show (A.T.take _).length ≤ _
          rw [List.length_take]; have := hok.size; show min _ (A.T.length) ≤ _; have h2 : A.T.length ≤ 100000 := this; omega
        · show (A.T.take _).length ≤ _
          rw [List.length_take]; have h2 : A.T.length ≤ n := h.tl; omega
        · have ht' : (A.T.take i.toNat)[j]? = some t := ht
          rw [List.getElem?_take_of_lt (hjl j hj)] at ht'
          exact h.fr j hj t ht'
      · rename_i hg1
        have hs2 : 2 ≤ s.gen := by have := (hok.gen s (List.mem_of_getElem? hs)).1; omega
        refine AOk.mk' ⟨⟨⟨_, modify_get hs, ?_, ?_⟩, hni, chain_modify hni hok.chain⟩, by show (A.T.modify _ _).length ≤ _; rw [List.length_modify]; exact hok.size, fun t ht => ?_⟩ (by show (A.T.modify _ _).length ≤ _; rw [List.length_modify]; exact h.tl) (fun t ht => ?_) (fun t ht => ?_) (fun j hj t ht => ?_) (fun t ht hut => ?_)
        · simp
        · simp
        · rcases modify_mem ht with h1 | ⟨u, h1, rfl⟩
          · exact hok.gen t h1
          · exact hok.gen u (List.mem_of_getElem? h1)
        · rcases modify_mem ht with h1 | ⟨u, h1, rfl⟩
          · exact h.gl t h1
          · exact h.gl u (List.mem_of_getElem? h1)
        · rcases modify_mem ht with h1 | ⟨u, h1, rfl⟩
          · exact h.xs t h1
          · exact ⟨Int.le_refl 0, by show (0 : Int) ≤ 255; decide⟩
        · obtain ⟨u, k1, k2⟩ := modify_get' (T := A.T) ht
          by_cases e : i.toNat = j
          · rw [if_pos e] at k2
            subst e; rw [hs] at k1; obtain rfl := Option.some.inj k1
            subst k2
            exact ⟨hs2, rfl⟩
          · rw [if_neg e] at k2
            subst k2
            rcases List.mem_cons.1 hj with rfl | hj
            · exact absurd rfl e
            · exact h.fr j hj t k1
        · rcases modify_mem ht with h1 | ⟨u, h1, rfl⟩
          · exact h.us t h1 hut
          · cases hut

theorem AOk.unfree {A : Ar} {n : Nat} (h : AOk A n) {i g x : Int} (hg0 : 0 ≤ g) (hx : 0 ≤ x ∧ x ≤ 255) : AOk (A.unfree i g x).1 n := by
  have hok : A.Ok := h.ok
  unfold Ar.unfree
  cases hc : A.c with
  | nil => exact h
  | cons j c =>
    simp only
    split
    · rename_i hh
      obtain ⟨h1, h2, h3⟩ := hh
      obtain ⟨s, hs, hu, hnx⟩ := hok.head hc
      rw [genAt_of hs] at h3
      have hch := hok.chain
      rw [hc] at hch
      have hsg := hok.gen s (List.mem_of_getElem? hs)
      have hsl : s.gen ≤ n + 1 := h.gl s (List.mem_of_getElem? hs)
      refine AOk.mk' ⟨chain_modify hch.2.1 hch.2.2, by show (A.T.modify _ _).length ≤ _; rw [List.length_modify]; exact hok.size, fun t ht => ?_⟩ (by show (A.T.modify _ _).length ≤ _; rw [List.length_modify]; exact h.tl) (fun t ht => ?_) (fun t ht => ?_) (fun k hk t ht => ?_) (fun t ht hut => ?_)
      · rcases modify_mem ht with h1 | ⟨u, h1, rfl⟩
        · exact hok.gen t h1
        · exact ⟨by show 1 ≤ g; omega, by show g < 4294967295; omega⟩
      · rcases modify_mem ht with h1 | ⟨u, h1, rfl⟩
        · exact h.gl t h1
        · show g ≤ _; omega
      · rcases modify_mem ht with h1 | ⟨u, h1, rfl⟩
        · exact h.xs t h1
        · exact hx
      · obtain ⟨u, k1, k2⟩ := modify_get' (T := A.T) ht
        have : j ≠ k := fun e => hch.2.1 (e ▸ hk)
        rw [if_neg this] at k2
        subst k2
        exact h.fr k (by show k ∈ A.c; rw [hc]; simp [show k ∈ c from hk]) t k1
      · rcases modify_mem ht with h1 | ⟨u, h1, rfl⟩
        · exact h.us t h1 hut
        · rfl
    · exact h

/-- A handle that was picked. -/
theorem pick_u32 {o : Op} {H : List Hd} (hH : ∀ h ∈ H, U32 h.1 ∧ U32 h.2) : U32 (pickH o H).1 ∧ U32 (pickH o H).2 := by
  unfold pickH
  cases hp : H[(o.which.tmod H.length).toNat]? with
  | none => exact (show U32 0 ∧ U32 0 from ⟨⟨by decide, by decide⟩, by decide, by decide⟩)
  | some p =>
    obtain ⟨⟨a0, a1⟩, b0, b1⟩ := hH p (List.mem_of_getElem? hp)
    have i32 : ∀ n, 0 ≤ n → n < 4294967296 → U32 (inc32 n) := fun n h0 h1 => by unfold inc32; split <;> constructor <;> omega
    have d32 : ∀ n, 0 ≤ n → n < 4294967296 → U32 (dec32 n) := fun n h0 h1 => by unfold dec32; split <;> constructor <;> omega
    simp only
    split
    · exact ⟨⟨a0, a1⟩, i32 _ b0 b1⟩
    · split
      · exact ⟨⟨a0, a1⟩, d32 _ b0 b1⟩
      · split
        · exact ⟨i32 _ a0 a1, b0, b1⟩
        · split
          · exact ⟨⟨by decide, by decide⟩, by decide, by decide⟩
          · split
            · exact ⟨⟨by decide, by decide⟩, by decide, by decide⟩
            · exact ⟨⟨a0, a1⟩, b0, b1⟩

theorem Ar.Ok.tgen_u32 {A : Ar} (h : A.Ok) : U32 (A.tidx : Int) ∧ U32 A.tgen := by
  have hsz := h.size
  have hti : A.tidx ≤ A.T.length := by
    unfold Ar.tidx
    cases hc : A.c with
    | nil => exact Nat.le_refl _
    | cons i c => exact Nat.le_of_lt (chain_lt h.chain i (by rw [hc]; simp))
  refine ⟨⟨by omega, by omega⟩, ?_⟩
  unfold Ar.tgen genAt
  cases hs : A.T[A.tidx]? with
  | none => exact ⟨by decide, by decide⟩
  | some s =>
    have := h.gen s (List.mem_of_getElem? hs)
    exact ⟨by show 0 ≤ s.gen; omega, by show s.gen < 4294967296; omega⟩

theorem Bo.Ok.step {p : Bo} {n : Nat} (h : p.Ok n) (hn : n < 1000) {o : Op} (ho : o.Ok) : (p.step o).Ok (n + 1) := by
  have ha := h.a
  obtain ⟨⟨a0, a1⟩, b0, b1⟩ := pick_u32 (o := o) h.hu
  have hl := h.hl
  unfold Bo.step
  simp only
  split
  · refine (ha.take hn ho.x).bo (by simp; omega) fun q hq => ?_
    rcases List.mem_append.1 hq with h1 | h1
    · exact h.hu q h1
    · simp at h1; subst h1; exact h.ok.tgen_u32
  · split
    · split
      · rename_i hv; exact (ha.free hn a0 hv).bo (by omega) h.hu
      · exact (ha.le (Nat.le_succ _)).bo (by omega) h.hu
    · split
      · split
        · rename_i hv; exact ((ha.set hv ho.x).le (Nat.le_succ _)).bo (by omega) h.hu
        · exact (ha.le (Nat.le_succ _)).bo (by omega) h.hu
      · split
        · exact ((ha.untake a0).le (Nat.le_succ _)).bo (by omega) h.hu
        · exact ((ha.unfree b0 ho.x).le (Nat.le_succ _)).bo (by omega) h.hu

end Go.C15
