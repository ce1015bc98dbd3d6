/- Chapter 13, the reference's Apply: the condition holds.
  Conditions: none. -/
import Derived.Test.YtkeoanklmnadiaaA10
set_option linter.unusedVariables false
set_option linter.unusedSimpArgs false
namespace Go.C13
open Go Go.Xe Go.Sx

theorem dropA_idx : ∀ {o : List Att} {n : Str}, idxA o n < 0 → dropA o n = o
  | [], n, _ => rfl
  | a :: o, n, h => by
    rw [idxA_cons] at h
    unfold dropA
    by_cases e : a.n = n
    · rw [if_pos e] at h; omega
    · rw [if_neg e] at h ⊢
      by_cases h2 : idxA o n < 0
      · rw [dropA_idx h2]
      · rw [if_neg h2] at h; omega
theorem dropA_part : ∀ {o : List Att} {n : Str}, 0 ≤ idxA o n → dropA o n = o.take (idxA o n).toNat ++ o.drop ((idxA o n).toNat + 1)
  | [], n, h => by simp [idxA] at h
  | a :: o, n, h => by
    rw [idxA_cons] at h ⊢
    unfold dropA
    by_cases e : a.n = n
    · rw [if_pos e, if_pos e]; rfl
    · rw [if_neg e] at h ⊢
      by_cases h2 : idxA o n < 0
      · rw [if_pos h2] at h; omega
      · rw [if_neg h2, if_neg e, dropA_part (o := o) (n := n) (by omega), show (idxA o n + 1).toNat = (idxA o n).toNat + 1 by omega]; rfl
theorem insA_len (a : Att) : ∀ l : List Att, (insA l a).length = l.length + 1
  | [] => rfl
  | b :: l => by
    unfold insA
    split
    · rfl
    · simp [insA_len a l]
theorem dropA_len {o : List Att} {n : Str} : (dropA o n).length ≤ o.length := by
  by_cases h : idxA o n < 0
  · rw [dropA_idx h]; exact Nat.le_refl _
  · rw [dropA_part (by omega), List.length_append, List.length_take, List.length_drop]
    have := idxA_ge o n
    omega
theorem stepsA_cons (o : List Att) (e : Ed) (es : List Ed) : stepsA o (e :: es) = match stepA o e with | none => none | some m => stepsA m es := rfl

theorem vcRapp_ok : vcRapp := by
  unfold vcRapp Nd
  rintro _ _ ⟨⟨l, rfl, hl⟩, ⟨es, rfl, he⟩, hb⟩
  have hl : l.length ≤ 1000 := hl
  have he : es.length ≤ 1000 := he
  rw [List.length_map, List.length_map] at hb
  simp only [rappRel, rapInv, rapMu, rfindPre, asPre, rfindRel, insPre, insRel, need_twice, need_known, implies_true, and_true, true_and, true_implies, forall_eq, ats_map, eds_map, List.length_map]
  refine And.intro (by omega) fun _ => And.intro (by omega) fun _ => And.intro ⟨by omega, by omega, l, rfl, by omega, rfl⟩ fun _ O k ⟨k0, k1, o, hO, ho, hs⟩ => And.intro (fun hk => ?_) fun hk => ?_
  · subst hO
    obtain ⟨e, hek⟩ := Sx.get_at k0 hk
    simp only [cellAt_map hek, ed0, ed1, ed2, toStr_str, toBool_bool, ats_map, List.length_map]
    rw [drop_at hek, stepsA_cons] at hs
    have hge := idxA_ge o e.n
    have hAt : ∀ q : List Att, q.length ≤ 1000 → isAts (q.map Att.row) := fun q h => ⟨q, rfl, h⟩
    have ek := toNat_succ k0
    generalize hx : idxA o e.n = x at hge
    have hA : Sx.part (o.map Att.row) 0 x = (o.take x.toNat).map Att.row := by rw [part_map]; rfl
    have hB : ¬ x < 0 → Sx.part (o.map Att.row) (x + 1) ((o.length : Int) - (x + 1)) = (o.drop (x.toNat + 1)).map Att.row := fun h => by
      rw [part_map, show (x + 1).toNat = x.toNat + 1 by omega, List.take_of_length_le (by rw [List.length_drop]; omega)]
    have hD : ¬ x < 0 → (o.take x.toNat).map Att.row ++ (o.drop (x.toNat + 1)).map Att.row = (dropA o e.n).map Att.row := fun h => by
      rw [← List.map_append, dropA_part (by omega), hx]
    have hlA : ¬ x < 0 → ((o.take x.toNat).length : Int) = x := fun h => by rw [List.length_take]; omega
    have hlB : ¬ x < 0 → ((o.drop (x.toNat + 1)).length : Int) = o.length - x - 1 := fun h => by rw [List.length_drop]; omega
    have hN : x < 0 → dropA o e.n = o := fun h => dropA_idx (by omega)
    have hdl := dropA_len (o := o) (n := e.n)
    have bad : e.d = true → x < 0 → rapp l es = ([], 11) := fun h1 h2 => by
      have : stepA o e = none := by unfold stepA; rw [if_pos h1, hx, if_pos h2]
      rw [this] at hs
      unfold rapp; rw [← hs]
    have inv1 : e.d = true → ¬ x < 0 → ∃ q : List Att, (dropA o e.n).map Att.row = q.map Att.row ∧ (q.length : Int) ≤ l.length + (k + 1) ∧ stepsA q (es.drop (k + 1).toNat) = stepsA l es := fun h1 h2 => by
      have : stepA o e = some (dropA o e.n) := by unfold stepA; rw [if_pos h1, hx, if_neg h2]
      rw [this] at hs
      exact ⟨_, rfl, by omega, by rw [ek]; exact hs⟩
    have inv2 : ¬ e.d = true → ∃ q : List Att, (insA (dropA o e.n) ⟨e.n, e.v⟩).map Att.row = q.map Att.row ∧ (q.length : Int) ≤ l.length + (k + 1) ∧ stepsA q (es.drop (k + 1).toNat) = stepsA l es := fun h1 => by
      have : stepA o e = some (insA (dropA o e.n) ⟨e.n, e.v⟩) := by unfold stepA; rw [if_neg h1]
      rw [this] at hs
      refine ⟨_, rfl, ?_, by rw [ek]; exact hs⟩
      rw [insA_len]; omega
    refine And.intro (by omega) fun _ => And.intro (by omega) fun _ => And.intro (hAt o (by omega)) fun _ => ?_
    by_cases hx0 : x < 0
    · have hn := hN hx0
      have b1 := fun h => bad h hx0
      rw [hn] at inv2
      have b2 : e.d = true → ([] : Sx.Rows) = (rapp l es).1.map Att.row ∧ 11 = (rapp l es).2 := fun h => by rw [b1 h]; exact ⟨rfl, rfl⟩
      simp only [hx0, true_implies, not_true_eq_false, false_implies, and_true, true_and]
      repeat' first | exact inv2 ‹¬ e.d = true› | exact hAt _ (by omega) | exact b2 ‹e.d = true› | exact ‹¬ e.d = true› | (refine And.intro ?_ ?_) | intro _
      all_goals omega
    · have hA2 : isAts ((dropA o e.n).map Att.row) := hAt _ (by omega)
      simp only [hx0, true_implies, not_true_eq_false, not_false_eq_true, false_implies, and_true, true_and, hA, hB hx0, hD hx0, List.length_map, hlA hx0, hlB hx0, ats_map]
      repeat' first | exact inv1 ‹e.d = true› hx0 | exact inv2 ‹¬ e.d = true› | exact hA2 | exact ‹e.d = true› | exact ‹¬ e.d = true› | (refine And.intro ?_ ?_) | intro _
      all_goals omega
  · subst hO
    rw [List.drop_of_length_le (by omega)] at hs
    have hs : stepsA l es = some o := hs.symm
    have hr : rapp l es = if o.length > 8 then ([], 3) else (o, 0) := by unfold rapp; rw [hs]
    rw [hr, List.length_map]
    refine And.intro (fun h => ?_) fun h => ?_
    · rw [if_pos (by omega)]; exact ⟨rfl, rfl⟩
    · rw [if_neg (by omega)]; exact ⟨rfl, rfl⟩

end Go.C13
