/- Chapter 13, the plain laws of differences and of composing.
  Conditions: none. -/
import Derived.Test.YtkeoanklmnadiaaA18
set_option linter.unusedVariables false
set_option linter.unusedSimpArgs false
namespace Go.C13
open Go Go.Xe Go.Sx

/-! ## A difference -/

theorem diffM_aE {k : Str} : ∀ (l m : List Att), aA k l → aA k m → aE k (diffM l m)
  | [], [], _, _ => by rw [diffM_00]; exact aE_nil
  | a :: xs, [], h, j => by
    rw [diffM_l0]
    exact aE_cons.2 ⟨(aA_cons.1 h).1, diffM_aE xs [] (aA_cons.1 h).2 j⟩
  | [], b :: bs, h, j => by
    rw [diffM_0r]
    exact aE_cons.2 ⟨(aA_cons.1 j).1, diffM_aE [] bs h (aA_cons.1 j).2⟩
  | a :: xs, b :: bs, h, j => by
    obtain ⟨h1, h2⟩ := aA_cons.1 h
    obtain ⟨j1, j2⟩ := aA_cons.1 j
    rw [diffM_lr]
    split
    · exact aE_cons.2 ⟨h1, diffM_aE xs (b :: bs) h2 j⟩
    · split
      · split
        · exact diffM_aE xs bs h2 j2
        · exact aE_cons.2 ⟨j1, diffM_aE xs bs h2 j2⟩
      · exact aE_cons.2 ⟨j1, diffM_aE (a :: xs) bs h j2⟩
  termination_by l m => l.length + m.length

theorem diffM_sE : ∀ (l m : List Att), sA l → sA m → sE (diffM l m)
  | [], [], _, _ => by rw [diffM_00]; exact sE_nil
  | a :: xs, [], h, j => by
    obtain ⟨h1, h2⟩ := sA_cons.1 h
    rw [diffM_l0]
    exact sE_cons.2 ⟨diffM_aE xs [] h1 aA_nil, diffM_sE xs [] h2 j⟩
  | [], b :: bs, h, j => by
    obtain ⟨j1, j2⟩ := sA_cons.1 j
    rw [diffM_0r]
    exact sE_cons.2 ⟨diffM_aE [] bs aA_nil j1, diffM_sE [] bs h j2⟩
  | a :: xs, b :: bs, h, j => by
    obtain ⟨h1, h2⟩ := sA_cons.1 h
    obtain ⟨j1, j2⟩ := sA_cons.1 j
    rw [diffM_lr]
    by_cases c1 : lt a.n b.n = true
    · rw [if_pos c1]
      exact sE_cons.2 ⟨diffM_aE xs (b :: bs) h1 (aA_cons.2 ⟨c1, aA_le c1 j1⟩), diffM_sE xs (b :: bs) h2 j⟩
    · rw [if_neg c1]
      by_cases c2 : a.n = b.n
      · rw [if_pos c2]
        split
        · exact diffM_sE xs bs h2 j2
        · exact sE_cons.2 ⟨diffM_aE xs bs (by rw [← c2]; exact h1) j1, diffM_sE xs bs h2 j2⟩
      · rw [if_neg c2]
        have c3 := tri c1 c2
        exact sE_cons.2 ⟨diffM_aE (a :: xs) bs (aA_cons.2 ⟨c3, aA_le c3 h1⟩) j1, diffM_sE (a :: xs) bs h j2⟩
  termination_by l m => l.length + m.length

theorem diffM_len : ∀ (l m : List Att), (diffM l m).length ≤ l.length + m.length
  | [], [] => by rw [diffM_00]; exact Nat.zero_le _
  | a :: xs, [] => by
    have := diffM_len xs []
    rw [diffM_l0]; simp at this ⊢; omega
  | [], b :: bs => by
    have := diffM_len [] bs
    rw [diffM_0r]; simp at this ⊢; omega
  | a :: xs, b :: bs => by
    have i1 := diffM_len xs (b :: bs)
    have i2 := diffM_len xs bs
    have i3 := diffM_len (a :: xs) bs
    rw [diffM_lr]
    simp only [List.length_cons] at i1 i2 i3 ⊢
    repeat' split
    all_goals (try simp only [List.length_cons])
    all_goals omega
  termination_by l m => l.length + m.length

theorem diffM_ok : ∀ (l m : List Att), (∀ a ∈ l, okAt a = true) → (∀ a ∈ m, okAt a = true) → ∀ e ∈ diffM l m, okEd e = true
  | [], [], _, _ => by rw [diffM_00]; intro e h; cases h
  | a :: xs, [], h, j => by
    rw [diffM_l0]
    intro e he
    rcases List.mem_cons.1 he with rfl | he
    · rw [okEd_at]
      have := h a (by simp)
      unfold okAt at this ⊢
      simp only [Bool.and_eq_true] at this
      rw [this.1]; rfl
    · exact diffM_ok xs [] (fun x hx => h x (by simp [hx])) j e he
  | [], b :: bs, h, j => by
    rw [diffM_0r]
    intro e he
    rcases List.mem_cons.1 he with rfl | he
    · rw [okEd_at]; exact (Bool.and_true _).trans (j b (by simp))
    · exact diffM_ok [] bs h (fun x hx => j x (by simp [hx])) e he
  | a :: xs, b :: bs, h, j => by
    have i1 := diffM_ok xs (b :: bs) (fun x hx => h x (by simp [hx])) j
    have i2 := diffM_ok xs bs (fun x hx => h x (by simp [hx])) (fun x hx => j x (by simp [hx]))
    have i3 := diffM_ok (a :: xs) bs h (fun x hx => j x (by simp [hx]))
    have ka : okEd ⟨a.n, true, []⟩ = true := by
      rw [okEd_at]
      have := h a (by simp)
      unfold okAt at this ⊢
      simp only [Bool.and_eq_true] at this
      rw [this.1]; rfl
    have kb : okEd ⟨b.n, false, b.v⟩ = true := by rw [okEd_at]; exact (Bool.and_true _).trans (j b (by simp))
    rw [diffM_lr]
    split
    · intro e he
      rcases List.mem_cons.1 he with rfl | he
      · exact ka
      · exact i1 e he
    · split
      · split
        · exact i2
        · intro e he
          rcases List.mem_cons.1 he with rfl | he
          · exact kb
          · exact i2 e he
      · intro e he
        rcases List.mem_cons.1 he with rfl | he
        · exact kb
        · exact i3 e he
  termination_by l m => l.length + m.length

theorem vAts_ok {l : List Att} (h : vAts l = true) : l.length ≤ 8 ∧ ∀ a ∈ l, okAt a = true := by
  unfold vAts at h
  simp only [Bool.and_eq_true, decide_eq_true_eq, List.all_eq_true] at h
  exact h.1
theorem ckEds_diffM {l m : List Att} (h : vAts l = true) (j : vAts m = true) : ckEds (diffM l m) = 0 :=
  ckEds_yes (diffM_ok l m (vAts_ok h).2 (vAts_ok j).2) (diffM_sE l m (vAts_s h) (vAts_s j))

theorem app_past {a : Att} : ∀ {D : List Ed} {l : List Att}, aE a.n D → appM (a :: l) D = a :: appM l D ∧ badM (a :: l) D = badM l D
  | [], l, _ => by rw [appM_l0, badM_l0]; exact ⟨rfl, rfl⟩
  | e :: D, l, h => by
    have c := (aE_cons.1 h).1
    rw [appM_lr, badM_lr, if_pos c, if_pos c]; exact ⟨rfl, rfl⟩

theorem app_diff : ∀ (l m : List Att), sA l → sA m → appM l (diffM l m) = m ∧ badM l (diffM l m) = false
  | [], [], _, _ => by rw [diffM_00, appM_00, badM_00]; exact ⟨rfl, rfl⟩
  | a :: xs, [], h, j => by
    obtain ⟨h1, h2⟩ := sA_cons.1 h
    rw [diffM_l0, appM_lr, badM_lr]
    have hn : ¬ lt a.n a.n = true := by rw [lt_irrefl]; simp
    rw [if_neg hn, if_neg hn, if_pos rfl, if_pos rfl]
    exact app_diff xs [] h2 j
  | [], b :: bs, h, j => by
    obtain ⟨j1, j2⟩ := sA_cons.1 j
    obtain ⟨e1, e2⟩ := app_diff [] bs h j2
    rw [diffM_0r, appM_0r, badM_0r, e1, e2]
    exact ⟨rfl, rfl⟩
  | a :: xs, b :: bs, h, j => by
    obtain ⟨h1, h2⟩ := sA_cons.1 h
    obtain ⟨j1, j2⟩ := sA_cons.1 j
    have hn : ¬ lt a.n a.n = true := by rw [lt_irrefl]; simp
    rw [diffM_lr]
    by_cases c1 : lt a.n b.n = true
    · rw [if_pos c1, appM_lr, badM_lr, if_neg hn, if_neg hn, if_pos rfl, if_pos rfl]
      exact app_diff xs (b :: bs) h2 j
    · rw [if_neg c1]
      by_cases c2 : a.n = b.n
      · rw [if_pos c2]
        obtain ⟨e1, e2⟩ := app_diff xs bs h2 j2
        by_cases c3 : a.v = b.v
        · rw [if_pos c3]
          obtain ⟨p1, p2⟩ := app_past (a := a) (l := xs) (diffM_aE xs bs h1 (by rw [c2]; exact j1))
          rw [p1, p2, e1, e2]
          refine ⟨?_, rfl⟩
          cases a; cases b; cases c2; cases c3; rfl
        · rw [if_neg c3, appM_lr, badM_lr, if_neg c1, if_neg c1, if_pos c2, if_pos c2, e1, e2]
          exact ⟨rfl, rfl⟩
      · rw [if_neg c2, appM_lr, badM_lr, if_neg c1, if_neg c1, if_neg c2, if_neg c2]
        obtain ⟨e1, e2⟩ := app_diff (a :: xs) bs h j2
        rw [e1, e2]
        exact ⟨rfl, rfl⟩
  termination_by l m => l.length + m.length

theorem appM_nil : ∀ l : List Att, appM l [] = l
  | [] => appM_00
  | a :: l => by rw [appM_l0, appM_nil l]

theorem diff_differs : ∀ (l m : List Att), sA l → sA m → ∀ e ∈ diffM l m, findA l e.n ≠ findA m e.n
  | [], [], _, _ => by rw [diffM_00]; intro e h; cases h
  | a :: xs, [], h, j => by
    obtain ⟨h1, h2⟩ := sA_cons.1 h
    rw [diffM_l0]
    intro e he
    rcases List.mem_cons.1 he with rfl | he
    · rw [findA_cons, if_pos rfl]; intro h; cases h
    · have := diffM_aE xs [] h1 aA_nil e he
      rw [findA_cons, if_neg (lt_ne this)]
      exact diff_differs xs [] h2 j e he
  | [], b :: bs, h, j => by
    obtain ⟨j1, j2⟩ := sA_cons.1 j
    rw [diffM_0r]
    intro e he
    rcases List.mem_cons.1 he with rfl | he
    · rw [findA_cons, if_pos rfl]; intro h; cases h
    · have := diffM_aE [] bs aA_nil j1 e he
      rw [findA_cons, if_neg (lt_ne this)]
      exact diff_differs [] bs h j2 e he
  | a :: xs, b :: bs, h, j => by
    obtain ⟨h1, h2⟩ := sA_cons.1 h
    obtain ⟨j1, j2⟩ := sA_cons.1 j
    rw [diffM_lr]
    by_cases c1 : lt a.n b.n = true
    · rw [if_pos c1]
      have hb : aA a.n (b :: bs) := aA_cons.2 ⟨c1, aA_le c1 j1⟩
      intro e he
      rcases List.mem_cons.1 he with rfl | he
      · rw [findA_ab hb, findA_cons, if_pos rfl]; intro h; cases h
      · have := diffM_aE xs (b :: bs) h1 hb e he
        rw [findA_cons, if_neg (lt_ne this)]
        exact diff_differs xs (b :: bs) h2 j e he
    · rw [if_neg c1]
      by_cases c2 : a.n = b.n
      · rw [if_pos c2]
        have rest : ∀ e ∈ diffM xs bs, findA (a :: xs) e.n ≠ findA (b :: bs) e.n := fun e he => by
          have := diffM_aE xs bs h1 (by rw [c2]; exact j1) e he
          have hne := lt_ne this
          rw [findA_cons, if_neg hne, findA_cons, if_neg (by rw [← c2]; exact hne)]
          exact diff_differs xs bs h2 j2 e he
        by_cases c3 : a.v = b.v
        · rw [if_pos c3]; exact rest
        · rw [if_neg c3]
          intro e he
          rcases List.mem_cons.1 he with rfl | he
          · rw [findA_cons, findA_cons, if_pos c2, if_pos rfl]
            intro h; exact c3 (Option.some.inj h)
          · exact rest e he
      · rw [if_neg c2]
        have c3 := tri c1 c2
        have ha : aA b.n (a :: xs) := aA_cons.2 ⟨c3, aA_le c3 h1⟩
        intro e he
        rcases List.mem_cons.1 he with rfl | he
        · rw [findA_ab ha, findA_cons, if_pos rfl]; intro h; cases h
        · have := diffM_aE (a :: xs) bs ha j1 e he
          rw [findA_cons b, if_neg (lt_ne this)]
          exact diff_differs (a :: xs) bs h j2 e he
  termination_by l m => l.length + m.length

theorem diff_nil {l m : List Att} (h : sA l) (j : sA m) : diffM l m = [] ↔ l = m := by
  constructor
  · intro e
    have := (app_diff l m h j).1
    rw [e, appM_nil] at this; exact this
  · rintro rfl
    cases hd : diffM l l with
    | nil => rfl
    | cons e D => exact absurd rfl (diff_differs l l h h e (by rw [hd]; simp))

/-! ## What is found after edits were applied -/

/-- The last edit of a name, if there is one. -/
def lastO : List Ed → Str → Option Ed
  | [], _ => none
  | e :: l, n => match lastO l n with
    | some x => some x
    | none => if e.n = n then some e else none
theorem lastO_cons (e : Ed) (l : List Ed) (n : Str) : lastO (e :: l) n = match lastO l n with
    | some x => some x
    | none => if e.n = n then some e else none := rfl
theorem lastO_ab : ∀ {l : List Ed} {n : Str}, (∀ e ∈ l, e.n ≠ n) → lastO l n = none
  | [], n, _ => rfl
  | e :: l, n, h => by rw [lastO_cons, lastO_ab (fun x hx => h x (by simp [hx])), if_neg (h e (by simp))]
theorem lastO_aE {l : List Ed} {n : Str} (h : aE n l) : lastO l n = none := lastO_ab fun e he c => by
  have := h e he
  rw [c, lt_irrefl] at this; cases this

/-- What an edit, if there is one, makes of what was there. -/
def newV (o : Option Ed) (x : Option Str) : Option Str := match o with
  | some e => if e.d then none else some e.v
  | none => x

theorem findA_edA {e : Ed} {X : List Att} {n : Str} (h : ¬ e.n = n) : findA (edA e ++ X) n = findA X n := by
  unfold edA
  split
  · rfl
  · show findA (⟨e.n, e.v⟩ :: X) n = _
    rw [findA_cons, if_neg h]
theorem findA_edA' {e : Ed} {X : List Att} (h : findA X e.n = none) : findA (edA e ++ X) e.n = newV (some e) none := by
  unfold edA newV
  by_cases hd : e.d = true
  · rw [if_pos hd]; simp only [hd]; exact h
  · simp only [hd]; show findA (⟨e.n, e.v⟩ :: X) e.n = _; rw [findA_cons, if_pos rfl]; rfl

theorem find_app : ∀ (l : List Att) (es : List Ed) (n : Str), sA l → sE es → findA (appM l es) n = newV (lastO es n) (findA l n)
  | [], [], n, _, _ => by rw [appM_00]; rfl
  | a :: xs, [], n, h, k => by rw [appM_nil]; rfl
  | [], e :: es, n, h, k => by
    obtain ⟨k1, k2⟩ := sE_cons.1 k
    have ih := find_app [] es n h k2
    rw [appM_0r, lastO_cons]
    by_cases c : e.n = n
    · subst c
      rw [lastO_aE k1] at ih ⊢
      simp only [if_true]
      exact findA_edA' ih
    · rw [findA_edA c, ih, if_neg c]
      cases lastO es n <;> rfl
  | a :: xs, e :: es, n, h, k => by
    obtain ⟨k1, k2⟩ := sE_cons.1 k
    obtain ⟨h1, h2⟩ := sA_cons.1 h
    rw [appM_lr]
    by_cases c1 : lt a.n e.n = true
    · rw [if_pos c1, findA_cons, findA_cons]
      by_cases c : a.n = n
      · subst c
        rw [if_pos rfl, if_pos rfl, lastO_aE (aE_cons.2 ⟨c1, aE_le c1 k1⟩)]; rfl
      · rw [if_neg c, if_neg c]; exact find_app xs (e :: es) n h2 k
    · rw [if_neg c1]
      by_cases c2 : a.n = e.n
      · rw [if_pos c2, lastO_cons, findA_cons]
        have ih := find_app xs es n h2 k2
        by_cases c : e.n = n
        · subst c
          rw [lastO_aE k1, findA_ab (l := xs) (by rw [← c2]; exact h1)] at ih
          rw [lastO_aE k1]
          simp only [if_true]
          rw [findA_edA' ih]; rfl
        · rw [findA_edA c, ih, if_neg c, if_neg (by rw [c2]; exact c)]
          cases lastO es n <;> rfl
      · rw [if_neg c2, lastO_cons]
        have c3 := tri c1 c2
        have ha : aA e.n (a :: xs) := aA_cons.2 ⟨c3, aA_le c3 h1⟩
        have ih := find_app (a :: xs) es n h k2
        by_cases c : e.n = n
        · subst c
          rw [lastO_aE k1, findA_ab (l := a :: xs) ha] at ih
          rw [lastO_aE k1]
          simp only [if_true]
          rw [findA_edA' ih]; rfl
        · rw [findA_edA c, ih, if_neg c]
          cases lastO es n <;> rfl
  termination_by l es => l.length + es.length

theorem appM_aA {k : Str} : ∀ (l : List Att) (es : List Ed), aA k l → aE k es → aA k (appM l es)
  | [], [], _, _ => by rw [appM_00]; exact aA_nil
  | a :: xs, [], h, _ => by rw [appM_nil]; exact h
  | [], e :: es, h, j => by
    rw [appM_0r]
    exact aA_app.2 ⟨aA_edA (aE_cons.1 j).1, appM_aA [] es h (aE_cons.1 j).2⟩
  | a :: xs, e :: es, h, j => by
    obtain ⟨h1, h2⟩ := aA_cons.1 h
    obtain ⟨j1, j2⟩ := aE_cons.1 j
    rw [appM_lr]
    split
    · exact aA_cons.2 ⟨h1, appM_aA xs (e :: es) h2 j⟩
    · split
      · exact aA_app.2 ⟨aA_edA j1, appM_aA xs es h2 j2⟩
      · exact aA_app.2 ⟨aA_edA j1, appM_aA (a :: xs) es h j2⟩
  termination_by l es => l.length + es.length

theorem edA_sA {e : Ed} {X : List Att} (h : aA e.n X) (k : sA X) : sA (edA e ++ X) := by
  unfold edA
  split
  · exact k
  · exact sA_cons.2 ⟨h, k⟩
theorem appM_sA : ∀ (l : List Att) (es : List Ed), sA l → sE es → sA (appM l es)
  | [], [], _, _ => by rw [appM_00]; exact sA_nil
  | a :: xs, [], h, _ => by rw [appM_nil]; exact h
  | [], e :: es, h, k => by
    obtain ⟨k1, k2⟩ := sE_cons.1 k
    rw [appM_0r]
    exact edA_sA (appM_aA [] es aA_nil k1) (appM_sA [] es h k2)
  | a :: xs, e :: es, h, k => by
    obtain ⟨k1, k2⟩ := sE_cons.1 k
    obtain ⟨h1, h2⟩ := sA_cons.1 h
    rw [appM_lr]
    by_cases c1 : lt a.n e.n = true
    · rw [if_pos c1]
      exact sA_cons.2 ⟨appM_aA xs (e :: es) h1 (aE_cons.2 ⟨c1, aE_le c1 k1⟩), appM_sA xs (e :: es) h2 k⟩
    · rw [if_neg c1]
      by_cases c2 : a.n = e.n
      · rw [if_pos c2]
        exact edA_sA (appM_aA xs es (by rw [← c2]; exact h1) k1) (appM_sA xs es h2 k2)
      · rw [if_neg c2]
        have c3 := tri c1 c2
        exact edA_sA (appM_aA (a :: xs) es (aA_cons.2 ⟨c3, aA_le c3 h1⟩) k1) (appM_sA (a :: xs) es h k2)
  termination_by l es => l.length + es.length

/-- Lists in order are the same if the same is found in both. -/
theorem find_ext : ∀ {l m : List Att}, sA l → sA m → (∀ n, findA l n = findA m n) → l = m
  | [], [], _, _, _ => rfl
  | a :: l, [], _, _, h => by
    have := h a.n
    rw [findA_cons, if_pos rfl] at this; cases this
  | [], b :: m, _, _, h => by
    have := h b.n
    rw [findA_cons, if_pos rfl] at this; cases this
  | a :: l, b :: m, h, k, hf => by
    obtain ⟨h1, h2⟩ := sA_cons.1 h
    obtain ⟨k1, k2⟩ := sA_cons.1 k
    have e : a.n = b.n := by
      by_cases c1 : lt a.n b.n = true
      · have := hf a.n
        rw [findA_cons, if_pos rfl, findA_ab (aA_cons.2 ⟨c1, aA_le c1 k1⟩)] at this; cases this
      · by_cases c2 : a.n = b.n
        · exact c2
        · have c3 := tri c1 c2
          have := hf b.n
          rw [findA_cons b, if_pos rfl, findA_ab (aA_cons.2 ⟨c3, aA_le c3 h1⟩)] at this; cases this
    have ev : a.v = b.v := by
      have := hf a.n
      rw [findA_cons, if_pos rfl, findA_cons, if_pos e.symm] at this
      exact Option.some.inj this
    have et : l = m := find_ext h2 k2 fun n => by
      by_cases c : a.n = n
      · subst c
        rw [findA_ab h1, findA_ab (by rw [e]; exact k1)]
      · have := hf n
        rw [findA_cons, if_neg c, findA_cons, if_neg (by rw [← e]; exact c)] at this
        exact this
    cases a; cases b; cases e; cases ev; cases et; rfl

/-! ## A difference without one of its edits -/

theorem less_sub {D : List Ed} {i : Nat} : (D.take i ++ D.drop (i + 1)).Sublist D := by
  have h1 : (D.take i ++ D.drop (i + 1)).Sublist (D.take i ++ D.drop i) := List.Sublist.append_left (by rw [← List.drop_drop]; exact List.drop_sublist _ _) _
  rw [List.take_append_drop] at h1
  exact h1
theorem less_sE {D : List Ed} {i : Nat} (h : sE D) : sE (D.take i ++ D.drop (i + 1)) := by
  unfold sE pw at h ⊢
  rw [List.pairwise_map] at h ⊢
  exact h.sublist less_sub
theorem less_not {D : List Ed} {i : Nat} {e : Ed} (h : sE D) (he : D[i]? = some e) : lastO (D.take i ++ D.drop (i + 1)) e.n = none := by
  apply lastO_ab
  unfold sE pw at h
  rw [List.pairwise_map] at h
  intro x hx c
  rcases List.mem_append.1 hx with hx | hx
  · obtain ⟨k, hk⟩ := List.mem_iff_getElem?.1 hx
    have hlt : k < i := by have := (List.getElem?_eq_some_iff.1 hk).1; rw [List.length_take] at this; omega
    rw [List.getElem?_take, if_pos hlt] at hk
    obtain ⟨p1, p2⟩ := List.getElem?_eq_some_iff.1 hk
    obtain ⟨q1, q2⟩ := List.getElem?_eq_some_iff.1 he
    have := List.pairwise_iff_getElem.1 h k i p1 q1 hlt
    rw [p2, q2, c, lt_irrefl] at this; cases this
  · obtain ⟨k, hk⟩ := List.mem_iff_getElem?.1 hx
    rw [List.getElem?_drop] at hk
    obtain ⟨p1, p2⟩ := List.getElem?_eq_some_iff.1 hk
    obtain ⟨q1, q2⟩ := List.getElem?_eq_some_iff.1 he
    have := List.pairwise_iff_getElem.1 h i (i + 1 + k) q1 p1 (by omega)
    rw [p2, q2, c, lt_irrefl] at this; cases this

/-- Without one of its edits a difference does not lead to the new list. -/
theorem less_bad {l m : List Att} {i : Nat} (h : sA l) (k : sA m) (hi : i < (diffM l m).length) (h0 : (rapp l ((diffM l m).take i ++ (diffM l m).drop (i + 1))).2 = 0) :
    (rapp l ((diffM l m).take i ++ (diffM l m).drop (i + 1))).1 ≠ m := by
  have hD := diffM_sE l m h k
  have he : (diffM l m)[i]? = some (diffM l m)[i] := List.getElem?_eq_getElem hi
  intro e
  have hs := less_sE (i := i) hD
  rw [rapp_val h hs] at h0 e
  split at h0
  · omega
  · rename_i hb
    rw [if_neg hb] at e
    split at h0
    · omega
    · rename_i hl
      rw [if_neg hl] at e
      have f := find_app l _ (diffM l m)[i].n h hs
      have e : appM l ((diffM l m).take i ++ (diffM l m).drop (i + 1)) = m := e
      rw [less_not hD he, e] at f
      exact diff_differs l m h k _ (List.getElem_mem hi) f.symm

end Go.C13
