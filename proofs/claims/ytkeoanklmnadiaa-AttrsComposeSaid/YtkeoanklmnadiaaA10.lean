/- Chapter 13, checks of edits, finding, the reference's Apply: the conditions hold.
  Conditions: none. -/
import Derived.Test.YtkeoanklmnadiaaA9
set_option linter.unusedVariables false
set_option linter.unusedSimpArgs false
namespace Go.C13
open Go Go.Xe Go.Sx

theorem ckAts_one (a : Att) : ckAts [a] = if okAt a then 0 else 14 := by
  unfold ckAts vAts
  cases h : okAt a <;> simp [asc, h]
theorem ats_one (n v : Str) : ats (chunk 2 1 [.str n, .str v]) = [⟨n, v⟩] := rfl
theorem isAts_one (n v : Str) : isAts (chunk 2 1 [.str n, .str v]) := ⟨[⟨n, v⟩], rfl, by show 1 ≤ 1000; omega⟩
theorem okEd_at (e : Ed) : okEd e = (okAt ⟨e.n, e.v⟩ && (!e.d || e.v.isEmpty)) := rfl
theorem isEmpty_t {s : Str} (h : s = []) : s.isEmpty = true := by rw [h]; rfl
theorem isEmpty_f {s : Str} (h : ¬ s = []) : s.isEmpty = false := by cases s with
  | nil => exact absurd rfl h
  | cons a l => rfl

theorem vcCedits_ok : vcCedits := by
  unfold vcCedits Nd
  rintro _ ⟨l, rfl, hl⟩
  have hl : l.length ≤ 1000 := hl
  simp only [ceditsRel, cedInv, cedMu, ceoInv, ceoMu, llMu, checkRel, checkPre, need_twice, need_known, implies_true, and_true, true_and, true_implies, forall_eq, eds_map, List.length_map, ats_one, ckAts_one, isAts_one]
  refine And.intro ⟨by omega, by omega, by simp⟩ fun _ k ⟨k0, k1, k2⟩ => And.intro (fun hk => ?_) fun hk => ?_
  · obtain ⟨a, ha⟩ := Sx.get_at k0 hk
    have hm := List.mem_of_getElem? ha
    simp only [cellAt_map ha, ed0, ed1, ed2, toStr_str, toBool_bool]
    have hst : okEd a = true → ∀ b ∈ l.take (k + 1).toNat, okEd b = true := fun h => all_take_step k0 ha k2 h
    cases hok : okAt ⟨a.n, a.v⟩ with
    | false =>
      have : ckEds l = 14 := ckEds_ok hm (by rw [okEd_at, hok]; rfl)
      simp only [Bool.false_eq_true, if_false, reduceCtorEq, Int.reduceEq, false_implies, not_false_eq_true, true_implies, true_and, this, and_true]
      repeat' first | exact this.symm | exact isAts_one _ _ | (refine And.intro ?_ ?_) | intro _
      all_goals first | omega | trivial | exact absurd ‹a.d = true› ‹¬ a.d = true›
    | true =>
      simp only [if_true, true_implies, true_and, not_true_eq_false, false_implies, and_true]
      have h1 : a.d = true → a.v = [] → okEd a = true := fun h h' => by rw [okEd_at, hok, isEmpty_t h']; simp
      have h2 : a.d = true → ¬ a.v = [] → 14 = ckEds l := fun h h' => (ckEds_ok hm (by rw [okEd_at, hok, h, isEmpty_f h']; rfl)).symm
      have h3 : ¬ a.d = true → okEd a = true := fun h => by rw [okEd_at, hok, fnot h]; rfl
      repeat' first | exact hst (h1 ‹a.d = true› ‹a.v = []›) | exact h2 ‹a.d = true› ‹¬ a.v = []› | exact hst (h3 ‹¬ a.d = true›) | exact ‹a.d = true› | exact isAts_one _ _ | (refine And.intro ?_ ?_) | intro _
      all_goals first | omega | trivial | exact absurd ‹a.d = true› ‹¬ a.d = true›
  · rw [take_full (by omega)] at k2
    refine And.intro ⟨by omega, ?_, ?_⟩ fun _ i ⟨i0, i1, i2⟩ => And.intro (fun hi => ?_) fun hi => ?_
    · simp
    · cases l with
      | nil => simp [pw]
      | cons a l => simp [pw]
    · obtain ⟨a, ha⟩ := Sx.get_at (T := l) (i := i) (by omega) hi
      obtain ⟨b, hb⟩ := Sx.get_at (T := l) (i := i + -1) (by omega) (by omega)
      simp only [cellAt_map ha, cellAt_map hb, ed0, toStr_str]
      have hna := map_get (f := Ed.n) ha
      have hnb := map_get (f := Ed.n) hb
      rw [List.map_take] at i2 ⊢
      have h1 : Op.bytesLess a.n b.n = true → 16 = ckEds l := fun h => (ckEds_asc k2 (pw_bad (by omega) hna hnb (.inl h))).symm
      have h2 : a.n = b.n → 16 = ckEds l := fun h => (ckEds_asc k2 (pw_bad (by omega) hna hnb (.inr h))).symm
      have h3 : ¬ Op.bytesLess a.n b.n = true → ¬ a.n = b.n → pw ((l.map Ed.n).take (i + 1).toNat) := fun h h' => pw_take_prev (by omega) hna hnb (lt_tri (fnot h) h') i2
      repeat' first | exact h1 ‹_› | exact h2 ‹_› | exact h3 ‹_› ‹_› | (refine And.intro ?_ ?_) | intro _
      all_goals first | omega | trivial | exact absurd ‹a.d = true› ‹¬ a.d = true›
    · have : pw (l.map Ed.n) := by
        by_cases h : (l.length : Int) ≤ i
        · rwa [take_full h] at i2
        · omega
      exact (ckEds_yes k2 this).symm

/-! ## Finding -/

theorem half {a : Int} (h : 0 ≤ a) : shrI .u64 a 1 = a / 2 := by
  unfold shrI
  exact Int.fdiv_eq_ediv_of_nonneg a (by decide)
theorem findA_none : ∀ {l : List Att} {n : Str}, (∀ a ∈ l, a.n ≠ n) → findA l n = none
  | [], n, h => rfl
  | a :: l, n, h => by
    unfold findA
    rw [if_neg (h a (by simp))]
    exact findA_none fun b hb => h b (by simp [hb])
theorem findA_at : ∀ {l : List Att} {i : Nat} {a : Att}, pw (l.map Att.n) → l[i]? = some a → findA l a.n = some a.v
  | [], i, a, _, h => by simp at h
  | b :: l, 0, a, hp, h => by simp at h; subst h; unfold findA; rw [if_pos rfl]
  | b :: l, i + 1, a, hp, h => by
    simp at h
    unfold findA
    have := (List.pairwise_cons.1 hp).1 a.n (List.mem_map.2 ⟨a, List.mem_of_getElem? h, rfl⟩)
    rw [if_neg (lt_ne this)]
    exact findA_at (List.pairwise_cons.1 hp).2 h
theorem vAts_of {l : List Att} (h : ckAts l = 0) : vAts l = true := by
  unfold ckAts at h
  cases hv : vAts l with
  | true => rfl
  | false => rw [hv] at h; cases h
theorem vAts_not {l : List Att} (h : ¬ ckAts l = 0) : vAts l = false ∧ ckAts l = 14 := by
  unfold ckAts at h ⊢
  cases hv : vAts l with
  | true => rw [hv] at h; exact absurd rfl h
  | false => exact ⟨rfl, rfl⟩
theorem vAts_pw {l : List Att} (h : vAts l = true) : pw (l.map Att.n) := by
  unfold vAts at h
  simp only [Bool.and_eq_true] at h
  exact asc_pw.1 h.2

theorem cmpS_neg {a b : Str} : cmpS a b < 0 ↔ lt a b = true := by
  unfold cmpS
  split
  · rename_i h; simp [h]
  · rename_i h
    split <;> simp [h]
theorem cmpS_zero {a b : Str} : cmpS a b = 0 ↔ a = b := by
  unfold cmpS
  split
  · rename_i h
    simp only [Int.reduceNeg, Int.reduceEq, false_iff]
    exact lt_ne h
  · split <;> simp [*]

theorem vcFind_ok : vcFind := by
  unfold vcFind Nd
  rintro _ n ⟨l, rfl, hl⟩
  have hl : l.length ≤ 1000 := hl
  simp only [findRel, bseInv, bseMu, checkRel, checkPre, cmpRel, cmpPre, need_twice, need_known, implies_true, and_true, true_and, true_implies, forall_eq, ats_map, List.length_map, cmpS_neg, cmpS_zero]
  refine And.intro ⟨l, rfl, hl⟩ fun _ => And.intro (fun h0 => ?_) fun h0 => ?_
  · have hv := vAts_of h0
    have hp := vAts_pw hv
    have hV : findV l n = (findA l n).getD [] := by unfold findV; rw [hv]; rfl
    have hN : findN l n = if (findA l n).isSome then 0 else 11 := by unfold findN; rw [hv]; rfl
    rw [hV, hN]
    refine And.intro ⟨by omega, by omega, by omega, fun x a hx => by omega, fun x a hx h => ?_⟩ fun _ i j ⟨i0, i1, i2, i3, i4⟩ => And.intro (fun hij => ?_) fun hij => ?_
    · have := (List.getElem?_eq_some_iff.1 h).1; omega
    · rw [half (by omega)]
      have hm0 : i ≤ (i + j) / 2 := by omega
      have hm1 : (i + j) / 2 < j := by omega
      generalize (i + j) / 2 = m at hm0 hm1
      obtain ⟨a, ha⟩ := Sx.get_at (T := l) (i := m) (by omega) (by omega)
      simp only [cellAt_map ha, at0, toStr_str]
      have h1 : lt a.n n = true → ∀ (x : Nat) (b : Att), (x : Int) < m + 1 → l[x]? = some b → lt b.n n = true := fun h x b hx hb => by
        by_cases e : x = m.toNat
        · rw [e, ha] at hb; simp only [Option.some.injEq] at hb; rw [← hb]; exact h
        · exact lt_trans (pw_get hp (map_get hb) (map_get ha) (by omega)) h
      have h2 : ¬ lt a.n n = true → ∀ (x : Nat) (b : Att), m ≤ (x : Int) → l[x]? = some b → lt b.n n = false := fun h x b hx hb => by
        by_cases e : x = m.toNat
        · rw [e, ha] at hb; simp only [Option.some.injEq] at hb; rw [← hb]; exact fnot h
        · cases hc : lt b.n n with
          | false => rfl
          | true => exact absurd (lt_trans (pw_get hp (map_get ha) (map_get hb) (by omega)) hc) h
      repeat' first | exact h1 ‹_› | exact i4 | exact h2 ‹_› | exact i3 | (refine And.intro ?_ ?_) | intro _
      all_goals first | omega | trivial | exact absurd ‹a.d = true› ‹¬ a.d = true›
    · obtain rfl : i = j := by omega
      refine And.intro (fun hk => ?_) fun hk => ?_
      · obtain ⟨a, ha⟩ := Sx.get_at (T := l) (i := i) (by omega) hk
        simp only [cellAt_map ha, at0, at1, toStr_str]
        have h1 : a.n = n → findA l n = some a.v := fun h => by rw [← h]; exact findA_at hp ha
        have h2 : ¬ a.n = n → findA l n = none := fun h => findA_none fun b hb e => by
          obtain ⟨x, hx⟩ := List.mem_iff_getElem?.1 hb
          rcases Nat.lt_trichotomy x i.toNat with h3 | h3 | h3
          · exact lt_ne (i3 x b (by omega) hx) e
          · rw [h3, ha] at hx; simp only [Option.some.injEq] at hx; exact h (by rw [hx]; exact e)
          · have h4 := pw_get hp (map_get ha) (map_get hx) h3
            rw [e, i4 i.toNat a (by omega) ha] at h4; cases h4
        refine And.intro (by omega) fun _ => And.intro hk fun _ => And.intro (fun h => ?_) fun h => ?_
        · rw [h1 h]; exact And.intro (by omega) fun _ => And.intro hk fun _ => ⟨rfl, rfl⟩
        · rw [h2 h]; exact ⟨rfl, rfl⟩
      · have : findA l n = none := findA_none fun b hb e => by
          obtain ⟨x, hx⟩ := List.mem_iff_getElem?.1 hb
          have := (List.getElem?_eq_some_iff.1 hx).1
          exact lt_ne (i3 x b (by omega) hx) e
        rw [this]; exact ⟨rfl, rfl⟩
  · obtain ⟨h1, h2⟩ := vAts_not h0
    unfold findV findN
    rw [h1, h2]; exact ⟨rfl, rfl⟩

end Go.C13
