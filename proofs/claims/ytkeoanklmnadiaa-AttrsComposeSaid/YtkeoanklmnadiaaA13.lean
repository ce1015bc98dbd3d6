/- Chapter 13, composing and applying: the conditions hold.
  Conditions: none. -/
import Derived.Test.YtkeoanklmnadiaaA12
set_option linter.unusedVariables false
set_option linter.unusedSimpArgs false
namespace Go.C13
open Go Go.Xe Go.Sx

theorem appM_00 : appM [] [] = [] := by rw [appM]
theorem appM_l0 (a : Att) (xs : List Att) : appM (a :: xs) [] = a :: appM xs [] := by rw [appM]
theorem appM_0r (b : Ed) (bs : List Ed) : appM [] (b :: bs) = edA b ++ appM [] bs := by rw [appM]
theorem appM_lr (a : Att) (b : Ed) (xs : List Att) (bs : List Ed) : appM (a :: xs) (b :: bs) = if lt a.n b.n then a :: appM xs (b :: bs) else if a.n = b.n then edA b ++ appM xs bs else edA b ++ appM (a :: xs) bs := by rw [appM]
theorem badM_00 : badM [] [] = false := by rw [badM]
theorem badM_l0 (a : Att) (xs : List Att) : badM (a :: xs) [] = badM xs [] := by rw [badM]
theorem badM_0r (b : Ed) (bs : List Ed) : badM [] (b :: bs) = (b.d || badM [] bs) := by rw [badM]
theorem badM_lr (a : Att) (b : Ed) (xs : List Att) (bs : List Ed) : badM (a :: xs) (b :: bs) = if lt a.n b.n then badM xs (b :: bs) else if a.n = b.n then badM xs bs else (b.d || badM (a :: xs) bs) := by rw [badM]

theorem map_app_at2 (o : List Att) (a : Att) : o.map Att.row ++ chunk 2 1 [.str a.n, .str a.v] = (o ++ [a]).map Att.row := by rw [List.map_append]; rfl

section
variable {l m : List Ed} {i k : Int} {o : List Ed}

theorem vcComp0_ok (hl : l.length ≤ 1000) (hm : m.length ≤ 1000) (i0 : 0 ≤ i) (i1 : i ≤ l.length) (k0 : 0 ≤ k) (hk : k < m.length) (ho : (o.length : Int) ≤ i + k) (hs : o ++ compM (l.drop i.toNat) (m.drop k.toNat) = compM l m)
    (hq : ∀ b, m[k.toNat]? = some b → compM (l.drop i.toNat) (m.drop k.toNat) = b :: compM (l.drop i.toNat) (m.drop (k.toNat + 1))) : vcComp0 (l.map Ed.row) (m.map Ed.row) i k (o.map Ed.row) := by
  obtain ⟨b, hb⟩ := Sx.get_at k0 hk
  rw [hq b hb] at hs
  unfold vcComp0 Nd
  simp only [merCInv, merCMu, merMu, need_twice, need_known, implies_true, and_true, true_and, true_implies, eds_map, List.length_map, cellAt_map hb, at0, at1, ed0, ed1, ed2, toStr_str, toBool_bool]
  have inv : ∃ o' : List Ed, o.map Ed.row ++ chunk 3 1 [.str b.n, .bool b.d, .str b.v] = o'.map Ed.row ∧ (o'.length : Int) ≤ i + (k + 1) ∧ o' ++ compM (l.drop i.toNat) (m.drop (k + 1).toNat) = compM l m :=
    ⟨o ++ [b], map_app_ed o b, by simp; omega, by rw [toNat_succ k0, List.append_assoc]; exact hs⟩
  repeat' first | exact inv | (refine And.intro ?_ ?_) | intro _
  all_goals omega

theorem vcComp1_ok (hl : l.length ≤ 1000) (hm : m.length ≤ 1000) (i0 : 0 ≤ i) (i1 : i < l.length) (k0 : 0 ≤ k) (hk : k ≤ m.length) (ho : (o.length : Int) ≤ i + k) (hs : o ++ compM (l.drop i.toNat) (m.drop k.toNat) = compM l m)
    (hq : ∀ a, l[i.toNat]? = some a → compM (l.drop i.toNat) (m.drop k.toNat) = a :: compM (l.drop (i.toNat + 1)) (m.drop k.toNat)) : vcComp1 (l.map Ed.row) (m.map Ed.row) i k (o.map Ed.row) := by
  obtain ⟨a, ha⟩ := Sx.get_at i0 i1
  rw [hq a ha] at hs
  unfold vcComp1 Nd
  simp only [merCInv, merCMu, merMu, need_twice, need_known, implies_true, and_true, true_and, true_implies, eds_map, List.length_map, cellAt_map ha, at0, at1, ed0, ed1, ed2, toStr_str, toBool_bool]
  have inv : ∃ o' : List Ed, o.map Ed.row ++ chunk 3 1 [.str a.n, .bool a.d, .str a.v] = o'.map Ed.row ∧ (o'.length : Int) ≤ i + 1 + k ∧ o' ++ compM (l.drop (i + 1).toNat) (m.drop k.toNat) = compM l m :=
    ⟨o ++ [a], map_app_ed o a, by simp; omega, by rw [toNat_succ i0, List.append_assoc]; exact hs⟩
  repeat' first | exact inv | (refine And.intro ?_ ?_) | intro _
  all_goals omega

theorem vcComp2_ok (hl : l.length ≤ 1000) (hm : m.length ≤ 1000) (i0 : 0 ≤ i) (i1 : i < l.length) (k0 : 0 ≤ k) (hk : k ≤ m.length) (ho : (o.length : Int) ≤ i + k) (hs : o ++ compM (l.drop i.toNat) (m.drop k.toNat) = compM l m) :
    vcComp2 (l.map Ed.row) (m.map Ed.row) i k (o.map Ed.row) := by
  obtain ⟨a, ha⟩ := Sx.get_at i0 i1
  unfold vcComp2 Nd
  simp only [merCInv, merCMu, merMu, cmpRel, cmpPre, need_twice, need_known, implies_true, and_true, true_and, true_implies, forall_eq, eds_map, List.length_map, cellAt_map ha, at0, at1, ed0, ed1, ed2, toStr_str, toBool_bool, cmpS_neg, cmpS_pos]
  refine And.intro (fun hkm => vcComp1_ok hl hm i0 i1 k0 hk ho hs fun a' ha' => ?_) fun hkm => ?_
  · rw [List.drop_of_length_le (l := m) (by omega), drop_at ha', compM_l0]
  · obtain ⟨b, hb⟩ := Sx.get_at (T := m) (i := k) k0 (by omega)
    simp only [cellAt_map hb, at0, at1, ed0, ed1, ed2, toStr_str, toBool_bool]
    have e1 := toNat_succ i0
    have e2 := toNat_succ k0
    have eq := compM_lr a b (l.drop (i.toNat + 1)) (m.drop (k.toNat + 1))
    rw [← drop_at ha, ← drop_at hb] at eq
    have c1 : lt a.n b.n = true → vcComp1 (l.map Ed.row) (m.map Ed.row) i k (o.map Ed.row) := fun h => vcComp1_ok hl hm i0 i1 k0 hk ho hs fun a' ha' => by
      rw [ha] at ha'
      simp only [Option.some.injEq] at ha'
      rw [eq, if_pos h, ha']
    have c2 : lt a.n b.n = false ∧ a.n ≠ b.n → vcComp0 (l.map Ed.row) (m.map Ed.row) i k (o.map Ed.row) := fun h => vcComp0_ok hl hm i0 (by omega) k0 (by omega) ho hs fun b' hb' => by
      rw [hb] at hb'
      simp only [Option.some.injEq] at hb'
      rw [eq, if_neg (by rw [h.1]; simp), if_neg h.2, hb']
    have hn : ¬ lt a.n b.n = true → ¬ (lt a.n b.n = false ∧ a.n ≠ b.n) → a.n = b.n := fun h1 h2 => by
      by_cases h : a.n = b.n
      · exact h
      · exact absurd ⟨fnot h1, h⟩ h2
    have c3 : ¬ lt a.n b.n = true → ¬ (lt a.n b.n = false ∧ a.n ≠ b.n) → ∃ o' : List Ed, o.map Ed.row ++ chunk 3 1 [.str b.n, .bool b.d, .str b.v] = o'.map Ed.row ∧ (o'.length : Int) ≤ i + 1 + (k + 1) ∧ o' ++ compM (l.drop (i + 1).toNat) (m.drop (k + 1).toNat) = compM l m := fun h1 h2 => by
      rw [eq, if_neg h1, if_pos (hn h1 h2)] at hs
      exact ⟨o ++ [b], map_app_ed o b, by simp; omega, by rw [e1, e2, List.append_assoc]; exact hs⟩
    repeat' first | exact c1 ‹_› | exact c2 ‹_› | exact c3 ‹_› ‹_› | (refine And.intro ?_ ?_) | intro _
    all_goals omega
end

theorem vcComp_ok : vcComp := by
  unfold vcComp Nd
  rintro _ _ ⟨⟨l, rfl, hl⟩, ⟨m, rfl, hm⟩⟩
  have hl : l.length ≤ 1000 := hl
  have hm : m.length ≤ 1000 := hm
  simp only [compRel, ceditsRel, ceditsPre, need_twice, need_known, implies_true, and_true, true_and, true_implies, forall_eq, eds_map, List.length_map]
  refine And.intro ⟨l, rfl, hl⟩ fun _ => And.intro (fun h0 => And.intro ⟨m, rfl, hm⟩ fun _ => And.intro (fun h1 => ?_) fun h1 => ?_) fun h0 => ?_
  · have hv : cmpE l m = 0 := by unfold cmpE; rw [if_pos h0, h1]
    rw [hv]
    simp only [if_true]
    have hst : merCInv [.lst (l.map Ed.row), .lst (m.map Ed.row)] [.int 0, .int 0, .lst ([] : Sx.Rows)] := by
      simp only [merCInv, eds_map, List.length_map]
      exact ⟨by omega, by omega, by omega, by omega, [], rfl, by simp, rfl⟩
    refine And.intro hst fun _ i k O hi => ?_
    simp only [merCInv, eds_map, List.length_map] at hi
    obtain ⟨i0, i1, k0, k1, o, hO, ho, hs⟩ := hi
    subst hO
    simp only [List.length_map, Int.lt_irrefl, not_false_eq_true, true_and, true_implies]
    have c0 : i = l.length → k < m.length → vcComp0 (l.map Ed.row) (m.map Ed.row) i k (o.map Ed.row) := fun h1 h2 => vcComp0_ok hl hm i0 i1 k0 h2 ho hs fun b hb => by
      rw [List.drop_of_length_le (l := l) (by omega), drop_at hb, compM_0r]
    have c2 : i < l.length → vcComp2 (l.map Ed.row) (m.map Ed.row) i k (o.map Ed.row) := fun h => vcComp2_ok hl hm i0 h k0 k1 ho hs
    have fin : ¬ i < l.length → ¬ k < m.length → o.map Ed.row = (compM l m).map Ed.row := fun h1 h2 => by
      rw [List.drop_of_length_le (l := l) (by omega), List.drop_of_length_le (l := m) (by omega), compM_00, List.append_nil] at hs
      rw [hs]
    repeat' first | exact c2 (by omega) | exact c0 (by omega) (by omega) | exact fin ‹_› ‹_› | (refine And.intro ?_ ?_) | intro _
    all_goals first
      | exact trivial
      | omega
  · have hv : cmpE l m = ckEds m := by unfold cmpE; rw [if_pos h0]
    rw [hv, if_neg h1]; exact ⟨rfl, rfl⟩
  · have hv : cmpE l m = ckEds l := by unfold cmpE; rw [if_neg h0]
    rw [hv, if_neg h0]; exact ⟨rfl, rfl⟩

section
variable {l : List Att} {m : List Ed} {i k e : Int} {o : List Att}
/-- What is known of the error so far. -/
def ErrOK (l : List Att) (m : List Ed) (i k e : Int) : Prop := e = 0 ∧ badM (l.drop i.toNat) (m.drop k.toNat) = badM l m ∨ e = 11 ∧ badM l m = true
theorem ErrOK.step {i' k' : Int} (h : ErrOK l m i k e) (hb : badM (l.drop i.toNat) (m.drop k.toNat) = badM (l.drop i'.toNat) (m.drop k'.toNat)) : ErrOK l m i' k' e :=
  h.elim (fun h => .inl ⟨h.1, hb ▸ h.2⟩) .inr
theorem ErrOK.bad (h : ErrOK l m i k e) (hb : badM (l.drop i.toNat) (m.drop k.toNat) = true) : badM l m = true :=
  h.elim (fun h => h.2 ▸ hb) (fun h => h.2)

theorem vcApp0_ok (hl : l.length ≤ 1000) (hm : m.length ≤ 1000) (i0 : 0 ≤ i) (i1 : i ≤ l.length) (k0 : 0 ≤ k) (hk : k < m.length) (he : ErrOK l m i k e) (ho : (o.length : Int) ≤ i + k) (hs : o ++ appM (l.drop i.toNat) (m.drop k.toNat) = appM l m)
    (hq : ∀ b, m[k.toNat]? = some b → appM (l.drop i.toNat) (m.drop k.toNat) = edA b ++ appM (l.drop i.toNat) (m.drop (k.toNat + 1)) ∧ badM (l.drop i.toNat) (m.drop k.toNat) = (b.d || badM (l.drop i.toNat) (m.drop (k.toNat + 1)))) : vcApp0 (l.map Att.row) (m.map Ed.row) i k (o.map Att.row) e := by
  obtain ⟨b, hb⟩ := Sx.get_at k0 hk
  obtain ⟨hq1, hq2⟩ := hq b hb
  rw [hq1] at hs
  rw [← List.append_assoc] at hs
  unfold vcApp0 Nd
  simp only [merAInv, merAMu, merMu, need_twice, need_known, implies_true, and_true, true_and, true_implies, ats_map, eds_map, List.length_map, cellAt_map hb, at0, at1, ed0, ed1, ed2, toStr_str, toBool_bool]
  have e2 := toNat_succ k0
  have inv1 : b.d = true → ∃ o' : List Att, o.map Att.row = o'.map Att.row ∧ (o'.length : Int) ≤ i + (k + 1) ∧ o' ++ appM (l.drop i.toNat) (m.drop (k + 1).toNat) = appM l m := fun h => by
    rw [edA, if_pos h, List.append_nil] at hs
    exact ⟨o, rfl, by omega, by rw [e2]; exact hs⟩
  have err1 : b.d = true → (11 : Int) = 0 ∧ badM (l.drop i.toNat) (m.drop (k + 1).toNat) = badM l m ∨ (11 : Int) = 11 ∧ badM l m = true := fun h => .inr ⟨rfl, he.bad (by rw [hq2, h]; rfl)⟩
  have err1' : b.d = true → (11 : Int) = 0 ∧ badM (l.drop i.toNat) (m.drop (k + 1).toNat) = badM l m ∨ badM l m = true := fun h => .inr (he.bad (by rw [hq2, h]; rfl))
  have inv2 : ¬ b.d = true → ∃ o' : List Att, o.map Att.row ++ chunk 2 1 [.str b.n, .str b.v] = o'.map Att.row ∧ (o'.length : Int) ≤ i + (k + 1) ∧ o' ++ appM (l.drop i.toNat) (m.drop (k + 1).toNat) = appM l m := fun h => by
    rw [edA, if_neg h] at hs
    exact ⟨o ++ [⟨b.n, b.v⟩], map_app_at2 o ⟨b.n, b.v⟩, by simp; omega, by rw [e2]; exact hs⟩
  have err2 : ¬ b.d = true → e = 0 ∧ badM (l.drop i.toNat) (m.drop (k + 1).toNat) = badM l m ∨ e = 11 ∧ badM l m = true := fun h => he.step (by rw [hq2, fnot h, e2]; rfl)
  repeat' first
    | exact inv1 ‹_›
    | exact inv2 ‹_›
    | exact err1 ‹_›
    | exact err1' ‹_›
    | exact err2 ‹_›
    | (refine And.intro ?_ ?_)
    | intro _
  all_goals omega

theorem vcApp1_ok (hl : l.length ≤ 1000) (hm : m.length ≤ 1000) (i0 : 0 ≤ i) (i1 : i < l.length) (k0 : 0 ≤ k) (hk : k ≤ m.length) (he : ErrOK l m i k e) (ho : (o.length : Int) ≤ i + k) (hs : o ++ appM (l.drop i.toNat) (m.drop k.toNat) = appM l m)
    (hq : ∀ a, l[i.toNat]? = some a → appM (l.drop i.toNat) (m.drop k.toNat) = a :: appM (l.drop (i.toNat + 1)) (m.drop k.toNat) ∧ badM (l.drop i.toNat) (m.drop k.toNat) = badM (l.drop (i.toNat + 1)) (m.drop k.toNat)) : vcApp1 (l.map Att.row) (m.map Ed.row) i k (o.map Att.row) e := by
  obtain ⟨a, ha⟩ := Sx.get_at i0 i1
  obtain ⟨hq1, hq2⟩ := hq a ha
  rw [hq1] at hs
  unfold vcApp1 Nd
  simp only [merAInv, merAMu, merMu, need_twice, need_known, implies_true, and_true, true_and, true_implies, ats_map, eds_map, List.length_map, cellAt_map ha, at0, at1, ed0, ed1, ed2, toStr_str, toBool_bool]
  have inv : ∃ o' : List Att, o.map Att.row ++ chunk 2 1 [.str a.n, .str a.v] = o'.map Att.row ∧ (o'.length : Int) ≤ i + 1 + k ∧ o' ++ appM (l.drop (i + 1).toNat) (m.drop k.toNat) = appM l m :=
    ⟨o ++ [a], map_app_at2 o a, by simp; omega, by rw [toNat_succ i0, List.append_assoc]; exact hs⟩
  have err : e = 0 ∧ badM (l.drop (i + 1).toNat) (m.drop k.toNat) = badM l m ∨ e = 11 ∧ badM l m = true := he.step (by rw [hq2, toNat_succ i0])
  repeat' first | exact inv | exact err | (refine And.intro ?_ ?_) | intro _
  all_goals omega

theorem vcApp2_ok (hl : l.length ≤ 1000) (hm : m.length ≤ 1000) (i0 : 0 ≤ i) (i1 : i < l.length) (k0 : 0 ≤ k) (hk : k ≤ m.length) (he : ErrOK l m i k e) (ho : (o.length : Int) ≤ i + k) (hs : o ++ appM (l.drop i.toNat) (m.drop k.toNat) = appM l m) :
    vcApp2 (l.map Att.row) (m.map Ed.row) i k (o.map Att.row) e := by
  obtain ⟨a, ha⟩ := Sx.get_at i0 i1
  unfold vcApp2 Nd
  simp only [merAInv, merAMu, merMu, cmpRel, cmpPre, need_twice, need_known, implies_true, and_true, true_and, true_implies, forall_eq, ats_map, eds_map, List.length_map, cellAt_map ha, at0, at1, ed0, ed1, ed2, toStr_str, toBool_bool, cmpS_neg, cmpS_pos]
  refine And.intro (fun hkm => vcApp1_ok hl hm i0 i1 k0 hk he ho hs fun a' ha' => ?_) fun hkm => ?_
  · rw [List.drop_of_length_le (l := m) (by omega), drop_at ha', appM_l0, badM_l0]; exact ⟨rfl, rfl⟩
  · obtain ⟨b, hb⟩ := Sx.get_at (T := m) (i := k) k0 (by omega)
    simp only [cellAt_map hb, at0, at1, ed0, ed1, ed2, toStr_str, toBool_bool]
    have e1 := toNat_succ i0
    have e2 := toNat_succ k0
    have eq := appM_lr a b (l.drop (i.toNat + 1)) (m.drop (k.toNat + 1))
    have eqb := badM_lr a b (l.drop (i.toNat + 1)) (m.drop (k.toNat + 1))
    rw [← drop_at ha, ← drop_at hb] at eq eqb
    have c1 : lt a.n b.n = true → vcApp1 (l.map Att.row) (m.map Ed.row) i k (o.map Att.row) e := fun h => vcApp1_ok hl hm i0 i1 k0 hk he ho hs fun a' ha' => by
      rw [ha] at ha'
      simp only [Option.some.injEq] at ha'
      rw [eq, eqb, if_pos h, if_pos h, ha']; exact ⟨rfl, rfl⟩
    have c2 : lt a.n b.n = false ∧ a.n ≠ b.n → vcApp0 (l.map Att.row) (m.map Ed.row) i k (o.map Att.row) e := fun h => vcApp0_ok hl hm i0 (by omega) k0 (by omega) he ho hs fun b' hb' => by
      rw [hb] at hb'
      simp only [Option.some.injEq] at hb'
      have h1 : ¬ lt a.n b.n = true := by rw [h.1]; simp
      rw [eq, eqb, if_neg h1, if_neg h1, if_neg h.2, if_neg h.2, hb']; exact ⟨rfl, rfl⟩
    have hn : ¬ lt a.n b.n = true → ¬ (lt a.n b.n = false ∧ a.n ≠ b.n) → a.n = b.n := fun h1 h2 => by
      by_cases h : a.n = b.n
      · exact h
      · exact absurd ⟨fnot h1, h⟩ h2
    have er : ¬ lt a.n b.n = true → ¬ (lt a.n b.n = false ∧ a.n ≠ b.n) → e = 0 ∧ badM (l.drop (i + 1).toNat) (m.drop (k + 1).toNat) = badM l m ∨ e = 11 ∧ badM l m = true := fun h1 h2 =>
      he.step (by rw [eqb, if_neg h1, if_pos (hn h1 h2), e1, e2])
    have c3 : ¬ lt a.n b.n = true → ¬ (lt a.n b.n = false ∧ a.n ≠ b.n) → ¬ b.d = true → ∃ o' : List Att, o.map Att.row ++ chunk 2 1 [.str b.n, .str b.v] = o'.map Att.row ∧ (o'.length : Int) ≤ i + 1 + (k + 1) ∧ o' ++ appM (l.drop (i + 1).toNat) (m.drop (k + 1).toNat) = appM l m := fun h1 h2 h3 => by
      rw [eq, if_neg h1, if_pos (hn h1 h2), edA, if_neg h3, ← List.append_assoc] at hs
      exact ⟨o ++ [⟨b.n, b.v⟩], map_app_at2 o ⟨b.n, b.v⟩, by simp; omega, by rw [e1, e2]; exact hs⟩
    have c4 : ¬ lt a.n b.n = true → ¬ (lt a.n b.n = false ∧ a.n ≠ b.n) → b.d = true → ∃ o' : List Att, o.map Att.row = o'.map Att.row ∧ (o'.length : Int) ≤ i + 1 + (k + 1) ∧ o' ++ appM (l.drop (i + 1).toNat) (m.drop (k + 1).toNat) = appM l m := fun h1 h2 h3 => by
      rw [eq, if_neg h1, if_pos (hn h1 h2), edA, if_pos h3, List.nil_append] at hs
      exact ⟨o, rfl, by omega, by rw [e1, e2]; exact hs⟩
    repeat' first
      | exact c1 ‹_›
      | exact c2 ‹_›
      | exact er ‹_› ‹_›
      | exact c3 ‹_› ‹_› ‹_›
      | exact c4 ‹_› ‹_› ‹_›
      | (refine And.intro ?_ ?_)
      | intro _
    all_goals omega
end

theorem vcApp_ok : vcApp := by
  unfold vcApp Nd
  rintro _ _ ⟨⟨l, rfl, hl⟩, ⟨m, rfl, hm⟩⟩
  have hl : l.length ≤ 1000 := hl
  have hm : m.length ≤ 1000 := hm
  simp only [appRel, checkRel, checkPre, ceditsRel, ceditsPre, need_twice, need_known, implies_true, and_true, true_and, true_implies, forall_eq, ats_map, eds_map, List.length_map]
  refine And.intro ⟨l, rfl, hl⟩ fun _ => And.intro (fun h0 => And.intro ⟨m, rfl, hm⟩ fun _ => And.intro (fun h1 => ?_) fun h1 => ?_) fun h0 => ?_
  · have hst : merAInv [.lst (l.map Att.row), .lst (m.map Ed.row)] [.int 0, .int 0, .lst ([] : Sx.Rows), .int 0] := by
      simp only [merAInv, ats_map, eds_map, List.length_map]
      exact ⟨by omega, by omega, by omega, by omega, .inl (by simp), [], rfl, by simp, rfl⟩
    refine And.intro hst fun _ i k O e hi => ?_
    simp only [merAInv, ats_map, eds_map, List.length_map] at hi
    obtain ⟨i0, i1, k0, k1, he, o, hO, ho, hs⟩ := hi
    subst hO
    have he : ErrOK l m i k e := he
    simp only [List.length_map, Int.lt_irrefl, not_false_eq_true, true_and, true_implies]
    have c0 : i = l.length → k < m.length → vcApp0 (l.map Att.row) (m.map Ed.row) i k (o.map Att.row) e := fun h1 h2 => vcApp0_ok hl hm i0 i1 k0 h2 he ho hs fun b hb => by
      rw [List.drop_of_length_le (l := l) (by omega), drop_at hb, appM_0r, badM_0r]; exact ⟨rfl, rfl⟩
    have c2 : i < l.length → vcApp2 (l.map Att.row) (m.map Ed.row) i k (o.map Att.row) e := fun h => vcApp2_ok hl hm i0 h k0 k1 he ho hs
    have fin : ¬ i < l.length → ¬ k < m.length → o = appM l m ∧ (e = 0 ∧ badM l m = false ∨ e = 11 ∧ badM l m = true) := fun h1 h2 => by
      have el := List.drop_of_length_le (l := l) (i := i.toNat) (by omega)
      have em := List.drop_of_length_le (l := m) (i := k.toNat) (by omega)
      unfold ErrOK at he
      rw [el, em, badM_00] at he
      rw [el, em, appM_00, List.append_nil] at hs
      exact ⟨hs, he.elim (fun h => .inl ⟨h.1, h.2.symm⟩) .inr⟩
    have happ : app l m = if badM l m then ([], 11) else if (appM l m).length > 8 then ([], 3) else (appM l m, 0) := by
      unfold app
      rw [if_pos (vAts_of h0), if_pos h1]
    have f3 : ¬ i < l.length → ¬ k < m.length → e = 0 → 8 < (o.length : Int) → ([] : Sx.Rows) = (app l m).1.map Att.row ∧ 3 = (app l m).2 := fun h1 h2 h3 h4 => by
      obtain ⟨ho', h⟩ := fin h1 h2
      have hb : badM l m = false := h.elim (fun h => h.2) (fun h => by omega)
      rw [happ, hb, if_neg (by simp), ← ho', if_pos (by omega)]; exact ⟨rfl, rfl⟩
    have f0 : ¬ i < l.length → ¬ k < m.length → e = 0 → ¬ 8 < (o.length : Int) → o.map Att.row = (app l m).1.map Att.row ∧ 0 = (app l m).2 := fun h1 h2 h3 h4 => by
      obtain ⟨ho', h⟩ := fin h1 h2
      have hb : badM l m = false := h.elim (fun h => h.2) (fun h => by omega)
      rw [happ, hb, if_neg (by simp), ← ho', if_neg (by omega)]; exact ⟨rfl, rfl⟩
    have fe : ¬ i < l.length → ¬ k < m.length → ¬ e = 0 → ([] : Sx.Rows) = (app l m).1.map Att.row ∧ e = (app l m).2 := fun h1 h2 h3 => by
      obtain ⟨ho', h⟩ := fin h1 h2
      have hb : e = 11 ∧ badM l m = true := h.elim (fun h => absurd h.1 h3) id
      rw [happ, hb.2, if_pos rfl]; exact ⟨rfl, hb.1⟩
    repeat' first
      | exact c2 (by omega)
      | exact c0 (by omega) (by omega)
      | exact f3 ‹_› ‹_› ‹_› ‹_›
      | exact f0 ‹_› ‹_› ‹_› ‹_›
      | exact fe ‹_› ‹_› ‹_›
      | (refine And.intro ?_ ?_)
      | intro _
    all_goals first
      | exact trivial
      | omega
  · have hv : app l m = ([], ckEds m) := by unfold app; rw [if_pos (vAts_of h0), if_neg h1]
    rw [hv]; exact ⟨rfl, rfl⟩
  · have hv : app l m = ([], 14) := by unfold app; rw [if_neg (by rw [(vAts_not h0).1]; simp)]
    rw [hv, (vAts_not h0).2]; exact ⟨rfl, rfl⟩

end Go.C13
