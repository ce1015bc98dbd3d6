/- Chapter 13, the difference and composing: the conditions hold.
  Conditions: none. -/
import Derived.Test.YtkeoanklmnadiaaA11
set_option linter.unusedVariables false
set_option linter.unusedSimpArgs false
namespace Go.C13
open Go Go.Xe Go.Sx

theorem cmpS_pos {a b : Str} : 0 < cmpS a b ↔ lt a b = false ∧ a ≠ b := by
  unfold cmpS
  split
  · rename_i h; simp [h]
  · rename_i h
    split <;> simp [*]

theorem diffM_00 : diffM [] [] = [] := by rw [diffM]
theorem diffM_l0 (a : Att) (xs : List Att) : diffM (a :: xs) [] = ⟨a.n, true, []⟩ :: diffM xs [] := by rw [diffM]
theorem diffM_0r (b : Att) (bs : List Att) : diffM [] (b :: bs) = ⟨b.n, false, b.v⟩ :: diffM [] bs := by rw [diffM]
theorem diffM_lr (a b : Att) (xs bs : List Att) : diffM (a :: xs) (b :: bs) =
    if lt a.n b.n then ⟨a.n, true, []⟩ :: diffM xs (b :: bs) else if a.n = b.n then (if a.v = b.v then diffM xs bs else ⟨b.n, false, b.v⟩ :: diffM xs bs) else ⟨b.n, false, b.v⟩ :: diffM (a :: xs) bs := by rw [diffM]
theorem compM_00 : compM [] [] = [] := by rw [compM]
theorem compM_l0 (a : Ed) (xs : List Ed) : compM (a :: xs) [] = a :: compM xs [] := by rw [compM]
theorem compM_0r (b : Ed) (bs : List Ed) : compM [] (b :: bs) = b :: compM [] bs := by rw [compM]
theorem compM_lr (a b : Ed) (xs bs : List Ed) : compM (a :: xs) (b :: bs) = if lt a.n b.n then a :: compM xs (b :: bs) else if a.n = b.n then b :: compM xs bs else b :: compM (a :: xs) bs := by rw [compM]

section
variable {l m : List Att} {i k : Int} {o : List Ed}

theorem vcDiff0_ok (hl : l.length ≤ 1000) (hm : m.length ≤ 1000) (i0 : 0 ≤ i) (i1 : i ≤ l.length) (k0 : 0 ≤ k) (hk : k < m.length) (ho : (o.length : Int) ≤ i + k) (hs : o ++ diffM (l.drop i.toNat) (m.drop k.toNat) = diffM l m)
    (hq : ∀ b, m[k.toNat]? = some b → diffM (l.drop i.toNat) (m.drop k.toNat) = ⟨b.n, false, b.v⟩ :: diffM (l.drop i.toNat) (m.drop (k.toNat + 1))) : vcDiff0 (l.map Att.row) (m.map Att.row) i k (o.map Ed.row) := by
  obtain ⟨b, hb⟩ := Sx.get_at k0 hk
  rw [hq b hb] at hs
  unfold vcDiff0 Nd
  simp only [merDInv, merDMu, merMu, need_twice, need_known, implies_true, and_true, true_and, true_implies, ats_map, List.length_map, cellAt_map hb, at0, at1, toStr_str]
  have inv : ∃ o' : List Ed, o.map Ed.row ++ chunk 3 1 [.str b.n, .bool false, .str b.v] = o'.map Ed.row ∧ (o'.length : Int) ≤ i + (k + 1) ∧ o' ++ diffM (l.drop i.toNat) (m.drop (k + 1).toNat) = diffM l m :=
    ⟨o ++ [⟨b.n, false, b.v⟩], map_app_ed o ⟨b.n, false, b.v⟩, by simp; omega, by rw [toNat_succ k0, List.append_assoc]; exact hs⟩
  repeat' first | exact inv | (refine And.intro ?_ ?_) | intro _
  all_goals omega

theorem vcDiff1_ok (hl : l.length ≤ 1000) (hm : m.length ≤ 1000) (i0 : 0 ≤ i) (i1 : i < l.length) (k0 : 0 ≤ k) (hk : k ≤ m.length) (ho : (o.length : Int) ≤ i + k) (hs : o ++ diffM (l.drop i.toNat) (m.drop k.toNat) = diffM l m)
    (hq : ∀ a, l[i.toNat]? = some a → diffM (l.drop i.toNat) (m.drop k.toNat) = ⟨a.n, true, []⟩ :: diffM (l.drop (i.toNat + 1)) (m.drop k.toNat)) : vcDiff1 (l.map Att.row) (m.map Att.row) i k (o.map Ed.row) := by
  obtain ⟨a, ha⟩ := Sx.get_at i0 i1
  rw [hq a ha] at hs
  unfold vcDiff1 Nd
  simp only [merDInv, merDMu, merMu, need_twice, need_known, implies_true, and_true, true_and, true_implies, ats_map, List.length_map, cellAt_map ha, at0, at1, toStr_str]
  have inv : ∃ o' : List Ed, o.map Ed.row ++ chunk 3 1 [.str a.n, .bool true, .str []] = o'.map Ed.row ∧ (o'.length : Int) ≤ i + 1 + k ∧ o' ++ diffM (l.drop (i + 1).toNat) (m.drop k.toNat) = diffM l m :=
    ⟨o ++ [⟨a.n, true, []⟩], map_app_ed o ⟨a.n, true, []⟩, by simp; omega, by rw [toNat_succ i0, List.append_assoc]; exact hs⟩
  repeat' first | exact inv | (refine And.intro ?_ ?_) | intro _
  all_goals omega

theorem vcDiff2_ok (hl : l.length ≤ 1000) (hm : m.length ≤ 1000) (i0 : 0 ≤ i) (i1 : i < l.length) (k0 : 0 ≤ k) (hk : k ≤ m.length) (ho : (o.length : Int) ≤ i + k) (hs : o ++ diffM (l.drop i.toNat) (m.drop k.toNat) = diffM l m) :
    vcDiff2 (l.map Att.row) (m.map Att.row) i k (o.map Ed.row) := by
  obtain ⟨a, ha⟩ := Sx.get_at i0 i1
  unfold vcDiff2 Nd
  simp only [merDInv, merDMu, merMu, cmpRel, cmpPre, need_twice, need_known, implies_true, and_true, true_and, true_implies, forall_eq, ats_map, List.length_map, cellAt_map ha, at0, at1, toStr_str, cmpS_neg, cmpS_pos]
  refine And.intro (fun hkm => vcDiff1_ok hl hm i0 i1 k0 hk ho hs fun a' ha' => ?_) fun hkm => ?_
  · rw [List.drop_of_length_le (l := m) (by omega), drop_at ha', diffM_l0]
  · obtain ⟨b, hb⟩ := Sx.get_at (T := m) (i := k) k0 (by omega)
    simp only [cellAt_map hb, at0, at1, toStr_str]
    have e1 := toNat_succ i0
    have e2 := toNat_succ k0
    have eq := diffM_lr a b (l.drop (i.toNat + 1)) (m.drop (k.toNat + 1))
    rw [← drop_at ha, ← drop_at hb] at eq
    have c1 : lt a.n b.n = true → vcDiff1 (l.map Att.row) (m.map Att.row) i k (o.map Ed.row) := fun h => vcDiff1_ok hl hm i0 i1 k0 hk ho hs fun a' ha' => by
      rw [ha] at ha'
      simp only [Option.some.injEq] at ha'
      rw [eq, if_pos h, ha']
    have c2 : lt a.n b.n = false ∧ a.n ≠ b.n → vcDiff0 (l.map Att.row) (m.map Att.row) i k (o.map Ed.row) := fun h => vcDiff0_ok hl hm i0 (by omega) k0 (by omega) ho hs fun b' hb' => by
      rw [hb] at hb'
      simp only [Option.some.injEq] at hb'
      rw [eq, if_neg (by rw [h.1]; simp), if_neg h.2, hb']
    have hn : ¬ lt a.n b.n = true → ¬ (lt a.n b.n = false ∧ a.n ≠ b.n) → a.n = b.n := fun h1 h2 => by
      by_cases h : a.n = b.n
      · exact h
      · exact absurd ⟨fnot h1, h⟩ h2
    have c3 : ¬ lt a.n b.n = true → ¬ (lt a.n b.n = false ∧ a.n ≠ b.n) → ¬ a.v = b.v → ∃ o' : List Ed, o.map Ed.row ++ chunk 3 1 [.str b.n, .bool false, .str b.v] = o'.map Ed.row ∧ (o'.length : Int) ≤ i + 1 + (k + 1) ∧ o' ++ diffM (l.drop (i + 1).toNat) (m.drop (k + 1).toNat) = diffM l m := fun h1 h2 h3 => by
      rw [eq, if_neg h1, if_pos (hn h1 h2), if_neg h3] at hs
      exact ⟨o ++ [⟨b.n, false, b.v⟩], map_app_ed o ⟨b.n, false, b.v⟩, by simp; omega, by rw [e1, e2, List.append_assoc]; exact hs⟩
    have c4 : ¬ lt a.n b.n = true → ¬ (lt a.n b.n = false ∧ a.n ≠ b.n) → a.v = b.v → ∃ o' : List Ed, o.map Ed.row = o'.map Ed.row ∧ (o'.length : Int) ≤ i + 1 + (k + 1) ∧ o' ++ diffM (l.drop (i + 1).toNat) (m.drop (k + 1).toNat) = diffM l m := fun h1 h2 h3 => by
      rw [eq, if_neg h1, if_pos (hn h1 h2), if_pos h3] at hs
      exact ⟨o, rfl, by omega, by rw [e1, e2]; exact hs⟩
    repeat' first | exact c1 ‹_› | exact c2 ‹_› | exact c3 ‹_› ‹_› ‹_› | exact c4 ‹_› ‹_› ‹_› | (refine And.intro ?_ ?_) | intro _
    all_goals omega
end

theorem vcDiff_ok : vcDiff := by
  unfold vcDiff Nd
  rintro _ _ ⟨⟨l, rfl, hl⟩, ⟨m, rfl, hm⟩⟩
  have hl : l.length ≤ 1000 := hl
  have hm : m.length ≤ 1000 := hm
  simp only [diffRel, checkRel, checkPre, need_twice, need_known, implies_true, and_true, true_and, true_implies, forall_eq, ats_map, List.length_map]
  refine And.intro ⟨l, rfl, hl⟩ fun _ => And.intro (fun h0 => And.intro ⟨m, rfl, hm⟩ fun _ => And.intro (fun h1 => ?_) fun h1 => ?_) fun h0 => ?_
  · have hv : (vAts l && vAts m) = true := by rw [vAts_of h0, vAts_of h1]; rfl
    rw [hv]
    simp only [if_true]
    have hst : merDInv [.lst (l.map Att.row), .lst (m.map Att.row)] [.int 0, .int 0, .lst ([] : Sx.Rows)] := by
      simp only [merDInv, ats_map, List.length_map]
      exact ⟨by omega, by omega, by omega, by omega, [], rfl, by simp, rfl⟩
    refine And.intro hst fun _ i k O hi => ?_
    simp only [merDInv, ats_map, List.length_map] at hi
    obtain ⟨i0, i1, k0, k1, o, hO, ho, hs⟩ := hi
    subst hO
    simp only [List.length_map, Int.lt_irrefl, not_false_eq_true, true_and, true_implies]
    have c0 : i = l.length → k < m.length → vcDiff0 (l.map Att.row) (m.map Att.row) i k (o.map Ed.row) := fun h1 h2 => vcDiff0_ok hl hm i0 i1 k0 h2 ho hs fun b hb => by
      rw [List.drop_of_length_le (l := l) (by omega), drop_at hb, diffM_0r]
    have c2 : i < l.length → vcDiff2 (l.map Att.row) (m.map Att.row) i k (o.map Ed.row) := fun h => vcDiff2_ok hl hm i0 h k0 k1 ho hs
    have fin : ¬ i < l.length → ¬ k < m.length → o.map Ed.row = (diffM l m).map Ed.row := fun h1 h2 => by
      rw [List.drop_of_length_le (l := l) (by omega), List.drop_of_length_le (l := m) (by omega), diffM_00, List.append_nil] at hs
      rw [hs]
    repeat' first | exact c2 (by omega) | exact c0 (by omega) (by omega) | exact fin ‹_› ‹_› | (refine And.intro ?_ ?_) | intro _
    all_goals first
      | exact trivial
      | omega
  · have hv : (vAts l && vAts m) = false := by rw [(vAts_not h1).1, Bool.and_false]
    rw [hv, (vAts_not h1).2]; exact ⟨rfl, rfl⟩
  · have hv : (vAts l && vAts m) = false := by rw [(vAts_not h0).1, Bool.false_and]
    rw [hv, (vAts_not h0).2]; exact ⟨rfl, rfl⟩

end Go.C13
