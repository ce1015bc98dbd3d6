/- Chapter 13, the plain laws of composing.
  Conditions: none. -/
import Derived.Test.YtkeoanklmnadiaaA21
import Derived.Test.YtkeoanklmnadiaaA23
set_option linter.unusedVariables false
set_option linter.unusedSimpArgs false
namespace Go.C13
open Go Go.Xe Go.Sx

theorem compM_mem : ∀ (p q : List Ed), ∀ e ∈ compM p q, e ∈ p ∨ e ∈ q
  | [], [] => by rw [compM_00]; intro e h; cases h
  | a :: p, [] => by
    have ih := compM_mem p []
    rw [compM_l0]
    intro e he
    rcases List.mem_cons.1 he with rfl | he
    · exact .inl (by simp)
    · exact (ih e he).elim (fun h => .inl (by simp [h])) .inr
  | [], b :: q => by
    have ih := compM_mem [] q
    rw [compM_0r]
    intro e he
    rcases List.mem_cons.1 he with rfl | he
    · exact .inr (by simp)
    · exact (ih e he).elim .inl (fun h => .inr (by simp [h]))
  | a :: p, b :: q => by
    have i1 := compM_mem p (b :: q)
    have i2 := compM_mem p q
    have i3 := compM_mem (a :: p) q
    rw [compM_lr]
    split
    · intro e he
      rcases List.mem_cons.1 he with rfl | he
      · exact .inl (by simp)
      · exact (i1 e he).elim (fun h => .inl (by simp [h])) .inr
    · split
      · intro e he
        rcases List.mem_cons.1 he with rfl | he
        · exact .inr (by simp)
        · exact (i2 e he).elim (fun h => .inl (by simp [h])) (fun h => .inr (by simp [h]))
      · intro e he
        rcases List.mem_cons.1 he with rfl | he
        · exact .inr (by simp)
        · exact (i3 e he).elim .inl (fun h => .inr (by simp [h]))
  termination_by p q => p.length + q.length

theorem compM_aE {k : Str} {p q : List Ed} (h : aE k p) (j : aE k q) : aE k (compM p q) := fun e he => (compM_mem p q e he).elim (h e) (j e)

theorem compM_len : ∀ (p q : List Ed), (compM p q).length ≤ p.length + q.length
  | [], [] => by rw [compM_00]; exact Nat.zero_le _
  | a :: xs, [] => by
    have := compM_len xs []
    rw [compM_l0]; simp at this ⊢; omega
  | [], b :: bs => by
    have := compM_len [] bs
    rw [compM_0r]; simp at this ⊢; omega
  | a :: xs, b :: bs => by
    have i1 := compM_len xs (b :: bs)
    have i2 := compM_len xs bs
    have i3 := compM_len (a :: xs) bs
    rw [compM_lr]
    simp only [List.length_cons] at i1 i2 i3 ⊢
    repeat' split
    all_goals (try simp only [List.length_cons])
    all_goals omega
  termination_by p q => p.length + q.length

theorem compM_sE : ∀ (p q : List Ed), sE p → sE q → sE (compM p q)
  | [], [], _, _ => by rw [compM_00]; exact sE_nil
  | a :: p, [], h, j => by
    obtain ⟨h1, h2⟩ := sE_cons.1 h
    rw [compM_l0]
    exact sE_cons.2 ⟨compM_aE h1 aE_nil, compM_sE p [] h2 j⟩
  | [], b :: q, h, j => by
    obtain ⟨j1, j2⟩ := sE_cons.1 j
    rw [compM_0r]
    exact sE_cons.2 ⟨compM_aE aE_nil j1, compM_sE [] q h j2⟩
  | a :: p, b :: q, h, j => by
    obtain ⟨h1, h2⟩ := sE_cons.1 h
    obtain ⟨j1, j2⟩ := sE_cons.1 j
    rw [compM_lr]
    by_cases c1 : lt a.n b.n = true
    · rw [if_pos c1]
      exact sE_cons.2 ⟨compM_aE h1 (aE_cons.2 ⟨c1, aE_le c1 j1⟩), compM_sE p (b :: q) h2 j⟩
    · rw [if_neg c1]
      by_cases c2 : a.n = b.n
      · rw [if_pos c2]
        exact sE_cons.2 ⟨compM_aE (by rw [← c2]; exact h1) j1, compM_sE p q h2 j2⟩
      · rw [if_neg c2]
        have c3 := tri c1 c2
        exact sE_cons.2 ⟨compM_aE (aE_cons.2 ⟨c3, aE_le c3 h1⟩) j1, compM_sE (a :: p) q h j2⟩
  termination_by p q => p.length + q.length

theorem ckEds_all {l : List Ed} (h : ckEds l = 0) : ∀ e ∈ l, okEd e = true := by
  unfold ckEds at h
  split at h
  · rename_i k; exact List.all_eq_true.1 k
  · omega
theorem ckEds_compM {p q : List Ed} (h : ckEds p = 0) (j : ckEds q = 0) : ckEds (compM p q) = 0 :=
  ckEds_yes (fun e he => (compM_mem p q e he).elim (ckEds_all h e) (ckEds_all j e)) (compM_sE p q (ckEds_s h) (ckEds_s j))

/-- The one or the other. -/
def or2 (a b : Option Ed) : Option Ed := match a with
  | some x => some x
  | none => b
theorem lastO_or (e : Ed) (l : List Ed) (n : Str) : lastO (e :: l) n = or2 (lastO l n) (if e.n = n then some e else none) := rfl
theorem or2_assoc (a b c : Option Ed) : or2 (or2 a b) c = or2 a (or2 b c) := by cases a <;> rfl
theorem or2_none (a : Option Ed) : or2 a none = a := by cases a <;> rfl
theorem lastO_app (l m : List Ed) (n : Str) : lastO (l ++ m) n = or2 (lastO m n) (lastO l n) := by
  induction l with
  | nil => exact (or2_none _).symm
  | cons e l ih => rw [List.cons_append, lastO_or, lastO_or, ih, or2_assoc]

theorem lastO_comp : ∀ (p q : List Ed) (n : Str), sE p → sE q → lastO (compM p q) n = or2 (lastO q n) (lastO p n)
  | [], [], n, _, _ => by rw [compM_00]; rfl
  | a :: p, [], n, h, j => by
    have ih := lastO_comp p [] n (sE_cons.1 h).2 j
    rw [compM_l0, lastO_or, lastO_or, ih]; rfl
  | [], b :: q, n, h, j => by
    have ih := lastO_comp [] q n h (sE_cons.1 j).2
    rw [compM_0r, lastO_or, lastO_or, ih, or2_assoc, or2_assoc]
    cases lastO q n with
    | some x => rfl
    | none => exact (or2_none _).symm
  | a :: p, b :: q, n, h, j => by
    obtain ⟨h1, h2⟩ := sE_cons.1 h
    obtain ⟨j1, j2⟩ := sE_cons.1 j
    rw [compM_lr]
    by_cases c1 : lt a.n b.n = true
    · rw [if_pos c1, lastO_or a, lastO_or a, lastO_comp p (b :: q) n h2 j, or2_assoc]
    · rw [if_neg c1]
      by_cases c2 : a.n = b.n
      · rw [if_pos c2, lastO_or b, lastO_or b, lastO_or a, lastO_comp p q n h2 j2, c2]
        by_cases c : b.n = n
        · subst c
          rw [lastO_aE (l := p) (by rw [← c2]; exact h1), lastO_aE j1, if_pos rfl]; rfl
        · rw [if_neg c, if_neg c, or2_none, or2_none, or2_none]
      · rw [if_neg c2, lastO_or b, lastO_or b, lastO_comp (a :: p) q n h j2]
        have c3 := tri c1 c2
        by_cases c : b.n = n
        · subst c
          rw [lastO_aE (l := a :: p) (aE_cons.2 ⟨c3, aE_le c3 h1⟩), lastO_aE j1, if_pos rfl]; rfl
        · rw [if_neg c, or2_none, or2_none]
  termination_by p q => p.length + q.length

theorem lastW_snoc (l : List Ed) (a : Ed) (n : Str) : lastW (l ++ [a]) n = if a.n = n then a else lastW l n := by
  unfold lastW; rw [List.foldl_append]; rfl
theorem lastW_eq (l : List Ed) (n : Str) : lastW l n = (lastO l n).getD zeroE := by
  have key : ∀ (l : List Ed) (w : Ed), l.foldl (fun w e => if e.n = n then e else w) w = (lastO l n).getD w := by
    intro l
    induction l with
    | nil => intro w; rfl
    | cons e l ih =>
      intro w
      rw [List.foldl_cons, ih, lastO_cons]
      cases lastO l n with
      | some x => rfl
      | none => by_cases c : e.n = n
                · simp [c]
                · simp [c]
  exact key l zeroE
theorem lastW_comp {p q : List Ed} (h : sE p) (j : sE q) (n : Str) : lastW (compM p q) n = lastW (p ++ q) n := by
  rw [lastW_eq, lastW_eq, lastO_comp p q n h j, lastO_app]

theorem newV_or (a b : Option Ed) (x : Option Str) : newV (or2 a b) x = newV a (newV b x) := by cases a <;> rfl

/-- Composed edits do what both do, one after the other. -/
theorem comp_app {l : List Att} {p q : List Ed} (h : sA l) (hp : sE p) (hq : sE q) : appM l (compM p q) = appM (appM l p) q := by
  have h1 := appM_sA l p h hp
  refine find_ext (appM_sA l _ h (compM_sE p q hp hq)) (appM_sA _ q h1 hq) fun n => ?_
  rw [find_app l _ n h (compM_sE p q hp hq), find_app _ q n h1 hq, find_app l p n h hp, lastO_comp p q n hp hq, newV_or]

theorem rapp_zero {l : List Att} {es : List Ed} (h : sA l) (k : sE es) (h0 : (rapp l es).2 = 0) : (rapp l es).1 = appM l es ∧ (appM l es).length ≤ 8 := by
  rw [rapp_val h k] at h0 ⊢
  split at h0
  · omega
  · rename_i hb
    split at h0
    · omega
    · rename_i hl
      rw [if_neg hb, if_neg hl]
      exact ⟨rfl, Nat.le_of_not_lt hl⟩
theorem rapp_len (l : List Att) (es : List Ed) : (rapp l es).1.length ≤ 8 := by
  unfold rapp
  split
  · exact Nat.zero_le _
  · split
    · exact Nat.zero_le _
    · rename_i h; exact Nat.le_of_not_lt h

theorem comp_end {l : List Att} {p q : List Ed} (h : vAts l = true) (hp : ckEds p = 0) (hq : ckEds q = 0) (h0 : (rapp l p).2 = 0) (h1 : (rapp (rapp l p).1 q).2 = 0) :
    (app l (compM p q)).2 = 11 ∨ (app l (compM p q)).2 = 0 ∧ (app l (compM p q)).1 = (rapp (rapp l p).1 q).1 := by
  have s := vAts_s h
  have sp := ckEds_s hp
  have sq := ckEds_s hq
  have sc := compM_sE p q sp sq
  obtain ⟨e1, e2⟩ := rapp_zero s sp h0
  rw [e1] at h1 ⊢
  obtain ⟨f1, f2⟩ := rapp_zero (appM_sA l p s sp) sq h1
  rw [f1, app_rapp h (ckEds_compM hp hq), rapp_val s sc]
  have hc := comp_app s sp sq
  by_cases hb : badM l (compM p q) = true
  · rw [if_pos hb]; exact .inl rfl
  · rw [if_neg hb, hc, if_neg (Nat.not_lt.2 f2)]; exact .inr ⟨rfl, rfl⟩

end Go.C13
