/- Chapter 13, the plain laws: what the law makes is valid; edits applied by merging and one by one; differences; composing.
  Conditions: none. -/
import Derived.Test.YtkeoanklmnadiaaA16
set_option linter.unusedVariables false
set_option linter.unusedSimpArgs false
namespace Go.C13
open Go Go.Xe Go.Sx

/-! ## What the law makes -/

theorem name_lt : ∀ i < 12, ∀ j < 12, i < j → lt (nameOf (i : Nat)) (nameOf (j : Nat)) = true := by decide +kernel
theorem name_ok : ∀ i < 12, vName (nameOf (i : Nat)) = true := by decide +kernel
theorem val_ok (n : Int) : vStr (valOf n) = true := by
  unfold valOf
  generalize (n.tmod 4).toNat = k
  match k with
  | 0 => decide +kernel
  | 1 => decide +kernel
  | 2 => decide +kernel
  | 3 => decide +kernel
  | k + 4 => rfl
theorem ofL_eq {t : Int} {vs : List Int} {i : Nat} {a : Att} (h : ofL t vs i = some a) : a = ⟨nameOf i, valOf (vs.getD i 0)⟩ := by
  unfold ofL at h
  split at h
  · exact (Option.some.inj h).symm
  · cases h
theorem ofW_eq {t : Int} {vs : List Int} {i : Nat} {a : Ed} (h : ofW t vs i = some a) : a = ⟨nameOf i, false, valOf (vs.getD i 0)⟩ ∨ a = ⟨nameOf i, true, []⟩ := by
  unfold ofW at h
  split at h
  · exact .inl (Option.some.inj h).symm
  · split at h
    · exact .inr (Option.some.inj h).symm
    · cases h
theorem vAts_listL (t : Int) (vs : List Int) : vAts (listL t vs 8) = true := by
  apply vAts_of
  apply ckAts_yes (listL_len t vs 8)
  · intro a ha
    unfold listL at ha
    obtain ⟨i, hi, h⟩ := List.mem_filterMap.1 ha
    rw [ofL_eq h]
    exact okAt_yes (name_ok i (by have := List.mem_range.1 hi; omega)) (val_ok _)
  · unfold pw listL
    rw [List.pairwise_map, List.pairwise_filterMap]
    refine List.Pairwise.imp_of_mem (fun {i j} hi hj hij b hb c hc => ?_) List.pairwise_lt_range
    have h1 := List.mem_range.1 hi
    have h2 := List.mem_range.1 hj
    rw [ofL_eq hb, ofL_eq hc]
    exact name_lt i (by omega) j (by omega) hij
theorem okEd_W {t : Int} {vs : List Int} {i : Nat} {a : Ed} (hi : i < 12) (h : ofW t vs i = some a) : okEd a = true := by
  rcases ofW_eq h with rfl | rfl
  · exact okEd_yes (name_ok i hi) (val_ok _) (.inl (by simp))
  · exact okEd_yes (name_ok i hi) (by show vStr [] = true; decide +kernel) (.inr rfl)
theorem ofW_n {t : Int} {vs : List Int} {i : Nat} {a : Ed} (h : ofW t vs i = some a) : a.n = nameOf i := by
  rcases ofW_eq h with rfl | rfl <;> rfl
theorem ckEds_listW (t : Int) (vs : List Int) : ckEds (listW t vs 12) = 0 := by
  apply ckEds_yes
  · intro a ha
    unfold listW at ha
    obtain ⟨i, hi, h⟩ := List.mem_filterMap.1 ha
    exact okEd_W (List.mem_range.1 hi) h
  · unfold pw listW
    rw [List.pairwise_map, List.pairwise_filterMap]
    refine List.Pairwise.imp_of_mem (fun {i j} hi hj hij b hb c hc => ?_) List.pairwise_lt_range
    have h1 := List.mem_range.1 hi
    have h2 := List.mem_range.1 hj
    rw [ofW_n hb, ofW_n hc]
    exact name_lt i (by omega) j (by omega) hij

/-! ## Lists in order -/

/-- All names are beyond this one. -/
def ab (k : Str) (l : List Str) : Prop := ∀ x ∈ l, lt k x = true
def sA (l : List Att) : Prop := pw (l.map Att.n)
def sE (l : List Ed) : Prop := pw (l.map Ed.n)
def aA (k : Str) (l : List Att) : Prop := ∀ x ∈ l, lt k x.n = true
def aE (k : Str) (l : List Ed) : Prop := ∀ x ∈ l, lt k x.n = true

theorem sA_nil : sA [] := List.Pairwise.nil
theorem sE_nil : sE [] := List.Pairwise.nil
theorem sA_cons {a : Att} {l : List Att} : sA (a :: l) ↔ aA a.n l ∧ sA l := by
  unfold sA aA pw
  rw [List.map_cons, List.pairwise_cons]
  simp
theorem sE_cons {a : Ed} {l : List Ed} : sE (a :: l) ↔ aE a.n l ∧ sE l := by
  unfold sE aE pw
  rw [List.map_cons, List.pairwise_cons]
  simp
theorem aA_nil {k : Str} : aA k [] := fun x h => by cases h
theorem aE_nil {k : Str} : aE k [] := fun x h => by cases h
theorem aA_cons {k : Str} {a : Att} {l : List Att} : aA k (a :: l) ↔ lt k a.n = true ∧ aA k l := by unfold aA; simp
theorem aE_cons {k : Str} {a : Ed} {l : List Ed} : aE k (a :: l) ↔ lt k a.n = true ∧ aE k l := by unfold aE; simp
theorem aA_le {k j : Str} {l : List Att} (h : lt k j = true) (h1 : aA j l) : aA k l := fun x hx => lt_trans h (h1 x hx)
theorem aE_le {k j : Str} {l : List Ed} (h : lt k j = true) (h1 : aE j l) : aE k l := fun x hx => lt_trans h (h1 x hx)
theorem aE_app {k : Str} {l m : List Ed} : aE k (l ++ m) ↔ aE k l ∧ aE k m := by
  unfold aE
  constructor
  · exact fun h => ⟨fun x hx => h x (by simp [hx]), fun x hx => h x (by simp [hx])⟩
  · exact fun ⟨h, k⟩ x hx => (List.mem_append.1 hx).elim (h x) (k x)
theorem aA_app {k : Str} {l m : List Att} : aA k (l ++ m) ↔ aA k l ∧ aA k m := by
  unfold aA
  constructor
  · exact fun h => ⟨fun x hx => h x (by simp [hx]), fun x hx => h x (by simp [hx])⟩
  · exact fun ⟨h, k⟩ x hx => (List.mem_append.1 hx).elim (h x) (k x)
theorem aA_edA {k : Str} {e : Ed} (h : lt k e.n = true) : aA k (edA e) := by
  unfold edA
  split
  · exact aA_nil
  · exact aA_cons.2 ⟨h, aA_nil⟩
theorem tri {a b : Str} (h1 : ¬ lt a b = true) (h2 : ¬ a = b) : lt b a = true := lt_tri (fnot h1) h2

theorem findA_cons (a : Att) (l : List Att) (n : Str) : findA (a :: l) n = if a.n = n then some a.v else findA l n := rfl
theorem findA_ab : ∀ {l : List Att} {n : Str}, aA n l → findA l n = none := fun h => findA_none fun a ha e => by
  have := h a ha
  rw [e, lt_irrefl] at this; cases this

/-! ## Edits, one by one -/

theorem idxA_ab {l : List Att} {n : Str} (h : aA n l) : idxA l n < 0 := by
  by_cases k : idxA l n < 0
  · exact k
  · obtain ⟨a, _, _, h3⟩ := (idx_find l n).2 (by omega)
    rw [findA_ab h] at h3; cases h3
theorem insA_ab {l : List Att} {a : Att} (h : aA a.n l) : insA l a = a :: l := by
  cases l with
  | nil => rfl
  | cons b l => rw [insA_cons, if_pos (aA_cons.1 h).1]
theorem dropA_cons (a : Att) (l : List Att) (n : Str) : dropA (a :: l) n = if a.n = n then l else a :: dropA l n := rfl
theorem stepA_past {a : Att} {l : List Att} {e : Ed} (h : lt a.n e.n = true) : stepA (a :: l) e = (stepA l e).map (a :: ·) := by
  have hn : ¬ a.n = e.n := lt_ne h
  unfold stepA
  rw [idxA_cons, if_neg hn, dropA_cons, if_neg hn]
  by_cases hd : e.d = true
  · rw [if_pos hd, if_pos hd]
    by_cases hk : idxA l e.n < 0
    · rw [if_pos hk, if_pos hk]; rfl
    · rw [if_neg hk, if_neg hk, if_neg (by omega)]; rfl
  · rw [if_neg hd, if_neg hd, insA_cons, if_neg (by show ¬ lt e.n a.n = true; rw [lt_asymm h]; simp)]; rfl
theorem stepsA_past {a : Att} : ∀ {es : List Ed} {l : List Att}, aE a.n es → stepsA (a :: l) es = (stepsA l es).map (a :: ·)
  | [], l, _ => rfl
  | e :: es, l, h => by
    obtain ⟨h1, h2⟩ := aE_cons.1 h
    rw [stepsA_cons, stepsA_cons, stepA_past h1]
    cases stepA l e with
    | none => rfl
    | some m => exact stepsA_past h2

theorem steps_app : ∀ (l : List Att) (es : List Ed), sA l → sE es → stepsA l es = if badM l es then none else some (appM l es)
  | [], [], _, _ => by rw [badM_00, appM_00]; rfl
  | a :: xs, [], h, k => by
    have ih := steps_app xs [] (sA_cons.1 h).2 k
    rw [badM_l0, appM_l0]
    cases hb : badM xs [] with
    | true => rw [hb] at ih; cases ih
    | false =>
      rw [hb] at ih
      have : xs = appM xs [] := Option.some.inj ih
      rw [← this]; rfl
  | [], e :: es, h, k => by
    obtain ⟨k1, k2⟩ := sE_cons.1 k
    have ih := steps_app [] es h k2
    rw [badM_0r, appM_0r, stepsA_cons]
    unfold stepA edA
    by_cases hd : e.d = true
    · rw [if_pos hd, if_pos hd, idxA_nil]; rw [hd]; rfl
    · rw [if_neg hd, if_neg hd, fnot hd]
      show stepsA [⟨e.n, e.v⟩] es = _
      rw [stepsA_past (a := ⟨e.n, e.v⟩) k1, ih, Bool.false_or]
      cases badM [] es <;> rfl
  | a :: xs, e :: es, h, k => by
    obtain ⟨k1, k2⟩ := sE_cons.1 k
    obtain ⟨h1, h2⟩ := sA_cons.1 h
    rw [badM_lr, appM_lr]
    by_cases c1 : lt a.n e.n = true
    · rw [if_pos c1, if_pos c1, stepsA_past (aE_cons.2 ⟨c1, aE_le c1 k1⟩), steps_app xs (e :: es) h2 k]
      cases badM xs (e :: es) <;> rfl
    · rw [if_neg c1, if_neg c1]
      by_cases c2 : a.n = e.n
      · rw [if_pos c2, if_pos c2, stepsA_cons]
        have ih := steps_app xs es h2 k2
        unfold stepA edA
        rw [idxA_cons, if_pos c2, dropA_cons, if_pos c2]
        by_cases hd : e.d = true
        · rw [if_pos hd, if_pos hd, if_neg (by omega)]; exact ih
        · rw [if_neg hd, if_neg hd, insA_ab (by show aA e.n xs; rw [← c2]; exact h1)]
          show stepsA (⟨e.n, e.v⟩ :: xs) es = _
          rw [stepsA_past (a := ⟨e.n, e.v⟩) k1, ih]
          cases badM xs es <;> rfl
      · rw [if_neg c2, if_neg c2, stepsA_cons]
        have ih := steps_app (a :: xs) es h k2
        have c3 := tri c1 c2
        have hab : aA e.n (a :: xs) := aA_cons.2 ⟨c3, aA_le c3 h1⟩
        unfold stepA edA
        by_cases hd : e.d = true
        · rw [if_pos hd, if_pos hd, if_pos (idxA_ab hab), hd]; rfl
        · rw [if_neg hd, if_neg hd, dropA_idx (idxA_ab hab), insA_ab hab, fnot hd]
          show stepsA (⟨e.n, e.v⟩ :: a :: xs) es = _
          rw [stepsA_past (a := ⟨e.n, e.v⟩) k1, ih, Bool.false_or]
          cases badM (a :: xs) es <;> rfl
  termination_by l es => l.length + es.length

theorem vAts_s {l : List Att} (h : vAts l = true) : sA l := vAts_pw h
theorem ckEds_s {l : List Ed} (h : ckEds l = 0) : sE l := by
  unfold ckEds at h
  split at h
  · split at h
    · rename_i k; exact asc_pw.1 k
    · omega
  · omega
theorem app_rapp {l : List Att} {es : List Ed} (h : vAts l = true) (k : ckEds es = 0) : app l es = rapp l es := by
  unfold app rapp
  rw [if_pos h, if_pos k, steps_app l es (vAts_s h) (ckEds_s k)]
  cases badM l es <;> rfl
theorem rapp_val {l : List Att} {es : List Ed} (h : sA l) (k : sE es) : rapp l es = if badM l es then ([], 11) else if (appM l es).length > 8 then ([], 3) else (appM l es, 0) := by
  unfold rapp
  rw [steps_app l es h k]
  cases badM l es <;> rfl

end Go.C13
