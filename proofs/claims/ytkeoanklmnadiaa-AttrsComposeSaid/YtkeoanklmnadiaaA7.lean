/- Chapter 13, lists: the reference's checks, finding, comparing: the conditions hold.
  Conditions: none. -/
import Derived.Test.YtkeoanklmnadiaaA6
set_option linter.unusedVariables false
set_option linter.unusedSimpArgs false
namespace Go.C13
open Go Go.Xe Go.Sx

theorem fnot {b : Bool} (h : ¬ b = true) : b = false := by cases b <;> simp at h ⊢

theorem oneK_bad {l : List Att} {i j : Int} {a b : Att} (hj : 0 ≤ j) (hij : j < i) (ha : l[i.toNat]? = some a) (hb : l[j.toNat]? = some b) (h : lt b.n a.n = false) : ¬ pw (l.map Att.n) := by
  intro hp
  have := pw_get hp (map_get hb) (map_get ha) (by omega)
  rw [h] at this; cases this

theorem vcRcheck_ok : vcRcheck := by
  unfold vcRcheck Nd
  rintro _ ⟨l, rfl, hl⟩
  simp only [rnameRel, rstrRel, namedRel, textRel, rcheckRel, checkRel, oneInv, oneMu, oneKInv, oneKMu, llMu, rnamePre, rstrPre, sPre, need_twice, need_known, implies_true, and_true, true_and, true_implies, forall_eq, ats_map, List.length_map, vName_a, not_true_eq_false, false_implies]
  refine And.intro (fun h => (ckAts_len (by omega)).symm) fun h8 => And.intro ⟨by omega, by omega, by simp, by simp [pw]⟩ fun _ k ⟨k0, k1, k2, k3⟩ => And.intro (fun hk => ?_) fun hk => ?_
  · obtain ⟨a, ha⟩ := Sx.get_at k0 hk
    have hm := List.mem_of_getElem? ha
    have hna := map_get (f := Att.n) ha
    simp only [cellAt_map ha, at0, at1, toStr_str]
    rw [List.map_take] at k3
    refine And.intro (by omega) fun _ => And.intro hk fun _ => And.intro (fun hn => And.intro (by omega) fun _ => And.intro hk fun _ => And.intro hn fun _ => And.intro (fun hv => ?_) fun hv => (ckAts_ok hm (okAt_v (fnot hv))).symm) fun hn => (ckAts_ok hm (okAt_n (fnot hn))).symm
    have hok := all_take_step k0 ha k2 (okAt_yes hn hv)
    refine And.intro ⟨by omega, by omega, fun j a b hj => by omega⟩ fun _ j ⟨j0, j1, j2⟩ => And.intro (fun hj => ?_) fun hj => ?_
    · obtain ⟨b, hb⟩ := Sx.get_at (T := l) (i := j) (by omega) (by omega)
      simp only [cellAt_map hb, at0, toStr_str]
      have step : Op.bytesLess b.n a.n = true → ∀ (i : Nat) (x y : Att), (i : Int) < j + 1 → l[i]? = some x → l[k.toNat]? = some y → lt x.n y.n = true := fun h i x y hi hx hy => by
        by_cases e : (i : Int) = j
        · rw [show i = j.toNat by omega, hb] at hx
          rw [ha] at hy
          simp only [Option.some.injEq] at hx hy
          rw [← hx, ← hy]; exact h
        · exact j2 i x y (by omega) hx hy
      repeat' first | (refine And.intro ?_ ?_) | intro _
      all_goals first
        | omega
        | exact step ‹_› _ _ _ ‹_› ‹_› ‹_›
        | exact (ckAts_asc (oneK_bad j0 hj ha hb (fnot ‹_›))).symm
    · have hp : pw (List.map Att.n (List.take (k + 1).toNat l)) := by
        rw [List.map_take]
        refine (pw_take_step k0 hna).2 ⟨k3, fun x hx => ?_⟩
        obtain ⟨i, hi⟩ := List.mem_iff_getElem?.1 hx
        have hik : i < k.toNat := by have := (List.getElem?_eq_some_iff.1 hi).1; rw [List.length_take] at this; omega
        rw [List.getElem?_take, if_pos hik, List.getElem?_map] at hi
        cases hli : l[i]? with
        | none => rw [hli] at hi; cases hi
        | some y =>
          rw [hli] at hi
          simp only [Option.map_some, Option.some.injEq] at hi
          rw [← hi]
          exact j2 i y a (by omega) hli ha
      repeat' first | exact hp | (refine And.intro ?_ ?_) | intro _
      all_goals first
        | omega
        | exact hok _ (by assumption)
  · rw [take_full (by omega)] at k2 k3
    exact (ckAts_yes (by omega) k2 k3).symm

/-! ## Edits -/

theorem ckEds_ok {l : List Ed} {a : Ed} (ha : a ∈ l) (h : okEd a = false) : ckEds l = 14 := by
  have : l.all okEd = false := by
    cases hb : l.all okEd with
    | false => rfl
    | true => rw [List.all_eq_true] at hb; rw [hb a ha] at h; cases h
  unfold ckEds; rw [this]; rfl
theorem ckEds_yes {l : List Ed} (h1 : ∀ a ∈ l, okEd a = true) (h2 : pw (l.map Ed.n)) : ckEds l = 0 := by
  unfold ckEds; rw [List.all_eq_true.2 h1, asc_pw.2 h2]; rfl
theorem ckEds_asc {l : List Ed} (h1 : ∀ a ∈ l, okEd a = true) (h2 : ¬ pw (l.map Ed.n)) : ckEds l = 16 := by
  have : asc (l.map Ed.n) = false := by
    cases hb : asc (l.map Ed.n) with
    | false => rfl
    | true => exact absurd (asc_pw.1 hb) h2
  unfold ckEds; rw [List.all_eq_true.2 h1, this]; rfl
theorem okEd_n {a : Ed} (h : vName a.n = false) : okEd a = false := by unfold okEd; rw [h]; rfl
theorem okEd_v {a : Ed} (h : vStr a.v = false) : okEd a = false := by unfold okEd; rw [h]; simp
theorem okEd_d {a : Ed} (h : a.d = true) (h1 : ¬ a.v = []) : okEd a = false := by
  unfold okEd; rw [h]
  cases hv : a.v with
  | nil => exact absurd hv h1
  | cons x y => simp
theorem okEd_yes {a : Ed} (h : vName a.n = true) (h1 : vStr a.v = true) (h2 : ¬ a.d = true ∨ a.v = []) : okEd a = true := by
  unfold okEd; rw [h, h1]
  rcases h2 with h2 | h2
  · rw [fnot h2]; rfl
  · rw [h2]; simp

theorem red_start {l : List Ed} {o i : Int} (h : o = 0 ∧ pw ((l.take i.toNat).map Ed.n) ∨ o = 16 ∧ ¬ pw ((l.take i.toNat).map Ed.n)) :
    o = 0 ∧ (pw ((l.take i.toNat).map Ed.n) ∧ lessK l i.toNat 0) ∨ o = 16 ∧ ¬ (pw ((l.take i.toNat).map Ed.n) ∧ lessK l i.toNat 0) := by
  have h0 : lessK l i.toNat 0 := fun j a b hj => by omega
  rcases h with ⟨h1, h2⟩ | ⟨h1, h2⟩
  · exact .inl ⟨h1, h2, h0⟩
  · exact .inr ⟨h1, fun h => h2 h.1⟩
theorem lessK_step {l : List Ed} {i k : Int} {a b : Ed} (k0 : 0 ≤ k) (ha : l[i.toNat]? = some a) (hb : l[k.toNat]? = some b) : lessK l i.toNat (k + 1) ↔ lessK l i.toNat k ∧ lt b.n a.n = true := by
  constructor
  · exact fun h => ⟨fun j x y hj => h j x y (by omega), h k.toNat b a (by omega) hb ha⟩
  · rintro ⟨h1, h2⟩ j x y hj hx hy
    by_cases e : (j : Int) = k
    · rw [show j = k.toNat by omega, hb] at hx
      rw [ha] at hy
      simp only [Option.some.injEq] at hx hy
      rw [← hx, ← hy]; exact h2
    · exact h1 j x y (by omega) hx hy
theorem red_end {l : List Ed} {i k : Int} {a : Ed} (i0 : 0 ≤ i) (hk : k = i) (ha : l[i.toNat]? = some a) : (pw ((l.take i.toNat).map Ed.n) ∧ lessK l i.toNat k) ↔ pw ((l.take (i + 1).toNat).map Ed.n) := by
  rw [List.map_take, List.map_take, pw_take_step i0 (map_get ha)]
  constructor
  · rintro ⟨h1, h2⟩
    refine ⟨h1, fun x hx => ?_⟩
    obtain ⟨j, hj⟩ := List.mem_iff_getElem?.1 hx
    have hij : j < i.toNat := by have := (List.getElem?_eq_some_iff.1 hj).1; rw [List.length_take] at this; omega
    rw [List.getElem?_take, if_pos hij, List.getElem?_map] at hj
    cases hl : l[j]? with
    | none => rw [hl] at hj; cases hj
    | some y =>
      rw [hl] at hj
      simp only [Option.map_some, Option.some.injEq] at hj
      rw [← hj]
      exact h2 j y a (by omega) hl ha
  · rintro ⟨h1, h2⟩
    refine ⟨h1, fun j x y hj hx hy => ?_⟩
    rw [ha] at hy
    simp only [Option.some.injEq] at hy
    rw [← hy]
    exact h2 x.n (List.mem_of_getElem? (i := j) (by rw [List.getElem?_take, if_pos (by omega)]; exact map_get hx))

theorem vcRcedits0_ok {l : List Ed} {a : Ed} {o k : Int} (k0 : 0 ≤ k) (hk : k < l.length) (hl : l.length ≤ 1000) (ha : l[k.toNat]? = some a) (hok : ∀ b ∈ l.take (k + 1).toNat, okEd b = true) : vcRcedits0 (l.map Ed.row) o k := by
  unfold vcRcedits0 Nd
  intro p j h
  simp only [redKInv, eds_map] at h
  obtain ⟨j0, j1, h⟩ := h
  simp only [redInv, redMu, redKInv, redKMu, need_twice, need_known, implies_true, and_true, true_and, true_implies, eds_map, List.length_map]
  refine And.intro (fun hj => ?_) fun hj => ?_
  · obtain ⟨b, hb⟩ := Sx.get_at (T := l) (i := j) (by omega) (by omega)
    simp only [cellAt_map hb, cellAt_map ha, ed0, toStr_str]
    have hs := lessK_step j0 ha hb
    have h1 : Op.bytesLess b.n a.n = true → p = 0 ∧ (pw ((l.take k.toNat).map Ed.n) ∧ lessK l k.toNat (j + 1)) ∨ p = 16 ∧ ¬ (pw ((l.take k.toNat).map Ed.n) ∧ lessK l k.toNat (j + 1)) := fun hlt => by
      rcases h with ⟨h1, h2, h3⟩ | ⟨h1, h2⟩
      · exact .inl ⟨h1, h2, hs.2 ⟨h3, hlt⟩⟩
      · exact .inr ⟨h1, fun h => h2 ⟨h.1, (hs.1 h.2).1⟩⟩
    have h2 : ¬ Op.bytesLess b.n a.n = true → ¬ (pw ((l.take k.toNat).map Ed.n) ∧ lessK l k.toNat (j + 1)) := fun hlt h => hlt (hs.1 h.2).2
    repeat' first | exact h1 ‹_› | exact .inr ⟨rfl, h2 ‹_›⟩ | exact .inr (h2 ‹_›) | (refine And.intro ?_ ?_) | intro _
    all_goals omega
  · have he := red_end k0 (show j = k by omega) ha
    have h1 : p = 0 ∧ pw ((l.take (k + 1).toNat).map Ed.n) ∨ p = 16 ∧ ¬ pw ((l.take (k + 1).toNat).map Ed.n) := by rw [he] at h; exact h
    repeat' first | exact h1 | exact hok | (refine And.intro ?_ ?_) | intro _
    all_goals omega

theorem vcRcedits_ok : vcRcedits := by
  unfold vcRcedits Nd
  rintro _ ⟨l, rfl, hl⟩
  simp only [rnameRel, rstrRel, namedRel, textRel, rceditsRel, ceditsRel, redInv, redMu, redKInv, redKMu, rnamePre, rstrPre, sPre, need_twice, need_known, implies_true, and_true, true_and, true_implies, forall_eq, eds_map, List.length_map, not_true_eq_false, false_implies]
  refine And.intro ⟨by omega, by omega, by simp, .inl (by simp [pw])⟩ fun _ o k ⟨k0, k1, k2, k3⟩ => And.intro (fun hk => ?_) fun hk => ?_
  · obtain ⟨a, ha⟩ := Sx.get_at k0 hk
    have hm := List.mem_of_getElem? ha
    simp only [cellAt_map ha, ed0, ed1, ed2, toStr_str, toBool_bool]
    have hin : okEd a = true → vcRcedits0 (l.map Ed.row) o k := fun h => vcRcedits0_ok k0 hk hl ha (all_take_step k0 ha k2 h)
    have hst := red_start k3
    repeat' first
      | exact hst
      | exact hin (okEd_yes ‹vName a.n = true› ‹vStr a.v = true› (.inr ‹a.v = []›))
      | exact hin (okEd_yes ‹vName a.n = true› ‹vStr a.v = true› (.inl ‹¬ a.d = true›))
      | exact (ckEds_ok hm (okEd_d ‹a.d = true› ‹¬ a.v = []›)).symm
      | exact (ckEds_ok hm (okEd_v (fnot ‹¬ vStr a.v = true›))).symm
      | exact (ckEds_ok hm (okEd_n (fnot ‹¬ vName a.n = true›))).symm
      | assumption
      | (refine And.intro ?_ ?_)
      | intro _
    all_goals first
      | omega
      | assumption
  · rw [take_full (by omega)] at k2 k3
    rcases k3 with ⟨rfl, h⟩ | ⟨rfl, h⟩
    · exact (ckEds_yes k2 h).symm
    · exact (ckEds_asc k2 h).symm

theorem idxA_nil (n : Str) : idxA [] n = -1 := rfl
theorem idxA_ge : ∀ (l : List Att) (n : Str), -1 ≤ idxA l n ∧ idxA l n < l.length
  | [], n => by simp [idxA]
  | a :: l, n => by
    have := idxA_ge l n
    unfold idxA
    split
    · simp only [List.length_cons]; omega
    · simp only [List.length_cons]
      split <;> omega

theorem idxA_cons (a : Att) (l : List Att) (n : Str) : idxA (a :: l) n = if a.n = n then 0 else (if idxA l n < 0 then -1 else idxA l n + 1) := rfl

theorem vcRfind_ok : vcRfind := by
  unfold vcRfind Nd
  rintro _ n ⟨l, rfl, hl⟩
  have hl : l.length ≤ 1000 := hl
  simp only [rfindRel, rfiInv, rfiMu, llMu, need_twice, need_known, implies_true, and_true, true_and, true_implies, ats_map, List.length_map]
  have h0 : idxA l n = if idxA (l.drop (Int.toNat 0)) n < 0 then -1 else 0 + idxA (l.drop (Int.toNat 0)) n := by
    rw [show l.drop (Int.toNat 0) = l from rfl]
    have := idxA_ge l n
    split <;> omega
  refine And.intro ⟨by omega, by omega, h0⟩ fun _ k ⟨k0, k1, k2⟩ => And.intro (fun hk => ?_) fun hk => ?_
  · obtain ⟨a, ha⟩ := Sx.get_at k0 hk
    simp only [cellAt_map ha, at0, toStr_str]
    rw [drop_at ha] at k2
    have e := toNat_succ k0
    rw [idxA_cons] at k2
    have hge := idxA_ge (l.drop (k.toNat + 1)) n
    have h1 : a.n = n → k = idxA l n := fun h => by rw [if_pos h] at k2; simp at k2; omega
    have h2 : ¬ a.n = n → idxA l n = if idxA (l.drop (k + 1).toNat) n < 0 then -1 else k + 1 + idxA (l.drop (k + 1).toNat) n := fun h => by
      rw [if_neg h] at k2
      rw [e]
      by_cases h3 : idxA (l.drop (k.toNat + 1)) n < 0
      · rw [if_pos h3] at k2 ⊢; simpa using k2
      · rw [if_neg h3] at k2 ⊢; rw [if_neg (by omega)] at k2; omega
    repeat' first | exact h1 ‹_› | exact h2 ‹_› | (refine And.intro ?_ ?_) | intro _
    all_goals omega
  · rw [List.drop_of_length_le (by omega), idxA_nil] at k2
    exact k2.symm

theorem row_at_inj (a b : Att) (h : a.row = b.row) : a = b := by
  cases a; cases b; unfold Att.row at h; simp at h; simp [h]

theorem vcSame_ok : vcSame := by
  unfold vcSame Nd
  rintro _ _ ⟨⟨l, rfl, hl⟩, ⟨m, rfl, hm⟩⟩
  have hl : l.length ≤ 1000 := hl
  have hm : m.length ≤ 1000 := hm
  simp only [sameRel, samInv, samMu, llMu, need_twice, need_known, implies_true, and_true, true_and, true_implies, ats_map, List.length_map]
  refine And.intro (fun he => And.intro ⟨by omega, by omega, rfl⟩ fun _ k ⟨k0, k1, k2⟩ => And.intro (fun hk => ?_) fun hk => ?_) fun hne => by rw [if_neg fun e => hne (by rw [e])]
  · obtain ⟨a, ha⟩ := Sx.get_at k0 hk
    obtain ⟨b, hb⟩ := Sx.get_at (T := m) (i := k) k0 (by omega)
    simp only [cellAt_map ha, cellAt_map hb, at0, at1, toStr_str]
    have h1 : a.n = b.n → a.v = b.v → l.take (k + 1).toNat = m.take (k + 1).toNat := fun e1 e2 => by
      rw [toNat_succ k0, take_succ_at ha, take_succ_at hb, k2]
      cases a; cases b; simp at e1 e2; simp [e1, e2]
    have h2 : ¬ (a.n = b.n ∧ a.v = b.v) → 0 = if l = m then (1 : Int) else 0 := fun h => by
      rw [if_neg fun e => h (by rw [e, hb] at ha; simp only [Option.some.injEq] at ha; rw [ha]; exact ⟨rfl, rfl⟩)]
    repeat' first | exact h1 ‹a.n = b.n› ‹a.v = b.v› | exact h2 (fun h => ‹¬ a.v = b.v› h.2) | exact h2 (fun h => ‹¬ a.n = b.n› h.1) | (refine And.intro ?_ ?_) | intro _
    all_goals omega
  · rw [take_full (by omega), take_full (by omega)] at k2
    rw [if_pos k2]

theorem insA_cons (b : Att) (l : List Att) (a : Att) : insA (b :: l) a = if lt a.n b.n then a :: b :: l else b :: insA l a := rfl
theorem map_app_at (o : List Att) (a : Att) : o.map Att.row ++ chunk 2 1 [.str a.n, .str a.v] = (o ++ [a]).map Att.row := by rw [List.map_append]; rfl

theorem vcIns_ok : vcIns := by
  unfold vcIns Nd
  rintro _ n v ⟨l, rfl, hl⟩
  have hl : l.length ≤ 1000 := hl
  simp only [insRel, insInv, insMu, llMu, need_twice, need_known, implies_true, and_true, true_and, true_implies, ats_map, List.length_map]
  refine And.intro ⟨by omega, by omega, [], rfl, rfl, rfl⟩ fun _ O p k ⟨k0, k1, o, hO, ho, k2⟩ => ?_
  subst hO
  simp only [List.length_map, Int.lt_irrefl, not_false_eq_true, true_and, true_implies]
  have hol : o.length ≤ 1002 := by split at ho <;> omega
  refine And.intro (fun hk => ?_) fun hk => ?_
  · obtain ⟨a, ha⟩ := Sx.get_at k0 hk
    simp only [cellAt_map ha, at0, at1, toStr_str]
    have e := toNat_succ k0
    rw [drop_at ha, insA_cons] at k2
    rw [e]
    have e1 : p = true → ∃ o' : List Att, o.map Att.row ++ chunk 2 1 [.str a.n, .str a.v] = o'.map Att.row ∧ ((o'.length : Int) = if p = true then k + 1 + 1 else k + 1) ∧ (o' ++ if p = true then l.drop (k.toNat + 1) else insA (l.drop (k.toNat + 1)) ⟨n, v⟩) = insA l ⟨n, v⟩ := fun hp => by
      rw [if_pos hp] at k2 ho
      exact ⟨o ++ [a], map_app_at o a, by rw [if_pos hp]; simp; omega, by rw [if_pos hp, List.append_assoc]; exact k2⟩
    have e2 : ¬ p = true → Op.bytesLess n a.n = true → ∃ o' : List Att, o.map Att.row ++ chunk 2 1 [.str n, .str v] ++ chunk 2 1 [.str a.n, .str a.v] = o'.map Att.row ∧ ((o'.length : Int) = if True then k + 1 + 1 else k + 1) ∧ (o' ++ if True then l.drop (k.toNat + 1) else insA (l.drop (k.toNat + 1)) ⟨n, v⟩) = insA l ⟨n, v⟩ := fun hp hlt => by
      rw [if_neg hp] at k2 ho
      rw [if_pos (show lt n a.n = true from hlt)] at k2
      exact ⟨o ++ [⟨n, v⟩] ++ [a], by rw [map_app_at o ⟨n, v⟩, map_app_at], by rw [if_pos trivial]; simp; omega, by rw [if_pos trivial, List.append_assoc, List.append_assoc]; exact k2⟩
    have e3 : ¬ p = true → ¬ Op.bytesLess n a.n = true → ∃ o' : List Att, o.map Att.row ++ chunk 2 1 [.str a.n, .str a.v] = o'.map Att.row ∧ ((o'.length : Int) = if p = true then k + 1 + 1 else k + 1) ∧ (o' ++ if p = true then l.drop (k.toNat + 1) else insA (l.drop (k.toNat + 1)) ⟨n, v⟩) = insA l ⟨n, v⟩ := fun hp hlt => by
      rw [if_neg hp] at k2 ho
      rw [if_neg (show ¬ lt n a.n = true from hlt)] at k2
      exact ⟨o ++ [a], map_app_at o a, by rw [if_neg hp]; simp; omega, by rw [if_neg hp, List.append_assoc]; exact k2⟩
    repeat' first | exact e1 ‹p = true› | exact e2 ‹¬ p = true› ‹Op.bytesLess n a.n = true› | exact e3 ‹¬ p = true› ‹¬ Op.bytesLess n a.n = true› | exact ‹¬ p = true› | (refine And.intro ?_ ?_) | intro _
    all_goals omega
  · rw [List.drop_of_length_le (by omega)] at k2
    have e1 : p = true → o.map Att.row = (insA l ⟨n, v⟩).map Att.row := fun hp => by
      rw [if_pos hp, List.append_nil] at k2; rw [k2]
    have e2 : ¬ p = true → o.map Att.row ++ chunk 2 1 [.str n, .str v] = (insA l ⟨n, v⟩).map Att.row := fun hp => by
      rw [if_neg hp] at k2; rw [map_app_at o ⟨n, v⟩]; exact congrArg _ k2
    repeat' first | exact e1 ‹p = true› | exact e2 ‹¬ p = true› | exact ‹¬ p = true› | (refine And.intro ?_ ?_) | intro _
    all_goals omega

theorem map_app_ed (o : List Ed) (a : Ed) : o.map Ed.row ++ chunk 3 1 [.str a.n, .bool a.d, .str a.v] = (o ++ [a]).map Ed.row := by rw [List.map_append]; rfl

theorem vcPlain_ok : vcPlain := by
  unfold vcPlain Nd
  rintro _ ⟨l, rfl, hl⟩
  have hl : l.length ≤ 1000 := hl
  simp only [plainRel, plaInv, plaMu, llMu, need_twice, need_known, implies_true, and_true, true_and, true_implies, eds_map, List.length_map]
  refine And.intro ⟨by omega, by omega, rfl⟩ fun _ O k ⟨k0, k1, k2⟩ => ?_
  subst k2
  have hol : (l.take k.toNat).length ≤ 1000 := by rw [List.length_take]; omega
  simp only [List.length_map, Int.lt_irrefl, not_false_eq_true, true_and, true_implies]
  refine And.intro (fun hk => ?_) fun hk => by rw [take_full (by omega)]
  obtain ⟨a, ha⟩ := Sx.get_at k0 hk
  simp only [cellAt_map ha, ed0, ed1, ed2, toStr_str, toBool_bool]
  have e1 : (l.take k.toNat).map Ed.row ++ chunk 3 1 [.str a.n, .bool a.d, .str a.v] = (l.take (k + 1).toNat).map Ed.row := by rw [map_app_ed, toNat_succ k0, take_succ_at ha]
  repeat' first | exact e1 | (refine And.intro ?_ ?_) | intro _
  all_goals omega

/-! ## The law's data -/

theorem listL_succ {t : Int} {vs : List Int} {n : Nat} : listL t vs (n + 1) = listL t vs n ++ (ofL t vs n).toList := by
  unfold listL
  rw [List.range_succ, List.filterMap_append]
  cases h : ofL t vs n <;> simp [h]
theorem listW_succ {t : Int} {vs : List Int} {n : Nat} : listW t vs (n + 1) = listW t vs n ++ (ofW t vs n).toList := by
  unfold listW
  rw [List.range_succ, List.filterMap_append]
  cases h : ofW t vs n <;> simp [h]
theorem listL_len (t : Int) (vs : List Int) (n : Nat) : (listL t vs n).length ≤ n := by
  have := List.length_filterMap_le (ofL t vs) (List.range n)
  rw [List.length_range] at this; exact this
theorem listW_len (t : Int) (vs : List Int) (n : Nat) : (listW t vs n).length ≤ n := by
  have := List.length_filterMap_le (ofW t vs) (List.range n)
  rw [List.length_range] at this; exact this
theorem ints_map (l : List Int) : ints (l.map Dat.int) = l := by
  induction l with
  | nil => rfl
  | cons a l ih => show a :: ints (l.map Dat.int) = a :: l; rw [ih]
theorem cell_ints {l : List Int} {k : Int} (h0 : 0 ≤ k) (h1 : k < l.length) : cellAt (chunk 1 l.length (l.map Dat.int)) k 0 = .int (l.getD k.toNat 0) ∧ l.getD k.toNat 0 ∈ l := by
  obtain ⟨a, ha⟩ := Sx.get_at h0 h1
  have h : (l.map Dat.int)[k.toNat]? = some (.int a) := map_get ha
  have e : l.getD k.toNat 0 = a := by rw [List.getD_eq_getElem?_getD, ha]; rfl
  rw [e]
  refine ⟨?_, List.mem_of_getElem? ha⟩
  have := chunk_one_at h
  rwa [List.length_map] at this

theorem vcOfl_ok : vcOfl := by
  unfold vcOfl Nd
  rintro t x1 x2 x3 x4 x5 x6 x7 x8 ⟨ht, l, hl, hu, e⟩
  have hl : [x1, x2, x3, x4, x5, x6, x7, x8] = l := by
    have := congrArg ints e
    rw [ints_map] at this; exact this
  have hc : ∀ k : Int, 0 ≤ k → k < 8 → cellAt (chunk 1 8 [.int x1, .int x2, .int x3, .int x4, .int x5, .int x6, .int x7, .int x8]) k 0 = .int (l.getD k.toNat 0) ∧ u8 (l.getD k.toNat 0) := fun k k0 k8 => by
    have h8 : l.length = 8 := by rw [← hl]; rfl
    have := cell_ints (l := l) k0 (by omega)
    rw [h8] at this
    exact ⟨by rw [← this.1, ← hl]; rfl, hu _ this.2⟩
  simp only [oflRel, oflInv, oflMu, ints, toInt_int, hl, nmRel, valRel, nmPre, valPre, need_twice, need_known, implies_true, and_true, true_and, true_implies, forall_eq]
  refine And.intro ⟨by omega, by omega, rfl⟩ fun _ O k ⟨k0, k1, k2⟩ => ?_
  subst k2
  have hol := listL_len t l k.toNat
  simp only [List.length_map, Int.lt_irrefl, not_false_eq_true, true_and, true_implies]
  refine And.intro (fun hk => ?_) fun hk => ?_
  · obtain ⟨c1, c2, c3⟩ := hc k k0 hk
    simp only [c1, toInt_int]
    have hs := listL_succ (t := t) (vs := l) (n := k.toNat)
    rw [← toNat_succ k0] at hs
    have ek : ((k.toNat : Nat) : Int) = k := by omega
    have e1 : (shrI .u8 t k).tmod 2 = 1 → (listL t l k.toNat).map Att.row ++ chunk 2 1 [.str (nameOf k), .str (valOf (l.getD k.toNat 0))] = (listL t l (k + 1).toNat).map Att.row := fun h => by
      rw [hs]
      unfold ofL
      rw [ek, if_pos h, map_app_at _ ⟨nameOf k, valOf (l.getD k.toNat 0)⟩]; rfl
    have e2 : ¬ (shrI .u8 t k).tmod 2 = 1 → (listL t l k.toNat).map Att.row = (listL t l (k + 1).toNat).map Att.row := fun h => by
      rw [hs]
      unfold ofL
      rw [ek, if_neg h]; simp
    repeat' first | exact e1 ‹(shrI .u8 t k).tmod 2 = 1› | exact e2 ‹¬ (shrI .u8 t k).tmod 2 = 1› | (refine And.intro ?_ ?_) | intro _
    all_goals omega
  · obtain rfl : k = 8 := by omega
    rfl

theorem vcOfw_ok : vcOfw := by
  unfold vcOfw Nd
  rintro t x1 x2 x3 x4 x5 x6 x7 x8 x9 x10 x11 x12 ⟨ht, l, hl, hu, e⟩
  have hl : [x1, x2, x3, x4, x5, x6, x7, x8, x9, x10, x11, x12] = l := by
    have := congrArg ints e
    rw [ints_map] at this; exact this
  have hc : ∀ k : Int, 0 ≤ k → k < 12 → cellAt (chunk 1 12 [.int x1, .int x2, .int x3, .int x4, .int x5, .int x6, .int x7, .int x8, .int x9, .int x10, .int x11, .int x12]) k 0 = .int (l.getD k.toNat 0) ∧ u8 (l.getD k.toNat 0) := fun k k0 k8 => by
    have h8 : l.length = 12 := by rw [← hl]; rfl
    have := cell_ints (l := l) k0 (by omega)
    rw [h8] at this
    exact ⟨by rw [← this.1, ← hl]; rfl, hu _ this.2⟩
  simp only [ofwRel, ofwInv, ofwMu, ints, toInt_int, hl, nmRel, valRel, nmPre, valPre, need_twice, need_known, implies_true, and_true, true_and, true_implies, forall_eq]
  refine And.intro ⟨by omega, by omega, rfl⟩ fun _ O k ⟨k0, k1, k2⟩ => ?_
  subst k2
  have hol := listW_len t l k.toNat
  simp only [List.length_map, Int.lt_irrefl, not_false_eq_true, true_and, true_implies]
  refine And.intro (fun hk => ?_) fun hk => ?_
  · obtain ⟨c1, c2, c3⟩ := hc k k0 hk
    simp only [c1, toInt_int]
    have hs := listW_succ (t := t) (vs := l) (n := k.toNat)
    rw [← toNat_succ k0] at hs
    have ek : (2 * ((k.toNat : Nat) : Int)) = 2 * k := by omega
    have ek1 : ((k.toNat : Nat) : Int) = k := by omega
    have e1 : (shrI .u32 t (2 * k)).tmod 4 = 1 → (listW t l k.toNat).map Ed.row ++ chunk 3 1 [.str (nameOf k), .bool false, .str (valOf (l.getD k.toNat 0))] = (listW t l (k + 1).toNat).map Ed.row := fun h => by
      rw [hs]
      unfold ofW
      rw [ek, ek1, if_pos h, map_app_ed _ ⟨nameOf k, false, valOf (l.getD k.toNat 0)⟩]; rfl
    have e2 : ¬ (shrI .u32 t (2 * k)).tmod 4 = 1 → (shrI .u32 t (2 * k)).tmod 4 = 2 → (listW t l k.toNat).map Ed.row ++ chunk 3 1 [.str (nameOf k), .bool true, .str []] = (listW t l (k + 1).toNat).map Ed.row := fun h h2 => by
      rw [hs]
      unfold ofW
      rw [ek, ek1, if_neg h, if_pos h2, map_app_ed _ ⟨nameOf k, true, []⟩]; rfl
    have e3 : ¬ (shrI .u32 t (2 * k)).tmod 4 = 1 → ¬ (shrI .u32 t (2 * k)).tmod 4 = 2 → (listW t l k.toNat).map Ed.row = (listW t l (k + 1).toNat).map Ed.row := fun h h2 => by
      rw [hs]
      unfold ofW
      rw [ek, ek1, if_neg h, if_neg h2]; simp
    repeat' first | exact e1 ‹(shrI .u32 t (2 * k)).tmod 4 = 1› | exact e2 ‹¬ (shrI .u32 t (2 * k)).tmod 4 = 1› ‹(shrI .u32 t (2 * k)).tmod 4 = 2› | exact e3 ‹¬ (shrI .u32 t (2 * k)).tmod 4 = 1› ‹¬ (shrI .u32 t (2 * k)).tmod 4 = 2› | (refine And.intro ?_ ?_) | intro _
    all_goals omega
  · obtain rfl : k = 12 := by omega
    rfl

end Go.C13
