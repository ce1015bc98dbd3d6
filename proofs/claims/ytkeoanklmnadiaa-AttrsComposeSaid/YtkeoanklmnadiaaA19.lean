/- Chapter 13, AttrsApply: the condition holds.
  Conditions: none. -/
import Derived.Test.YtkeoanklmnadiaaA18
set_option linter.unusedVariables false
set_option linter.unusedSimpArgs false
namespace Go.C13
open Go Go.Xe Go.Sx

theorem len8 {α : Type} : ∀ {l : List α}, l.length = 8 → ∃ a b c d e f g h, l = [a, b, c, d, e, f, g, h]
  | [a, b, c, d, e, f, g, h], _ => ⟨a, b, c, d, e, f, g, h, rfl⟩
theorem len12 {α : Type} : ∀ {l : List α}, l.length = 12 → ∃ a b c d e f g h i j k m, l = [a, b, c, d, e, f, g, h, i, j, k, m]
  | [a, b, c, d, e, f, g, h, i, j, k, m], _ => ⟨a, b, c, d, e, f, g, h, i, j, k, m, rfl⟩
theorem oflPre_of {t : Int} {vs : List Int} (h : lPre t vs) : oflPre (.int t :: vs.map Dat.int) := ⟨h.1, vs, h.2.1, h.2.2, rfl⟩
theorem ofwPre_of {t : Int} {vs : List Int} (h : wPre t vs) : ofwPre (.int t :: vs.map Dat.int) := ⟨h.1, vs, h.2.1, h.2.2, rfl⟩
theorem isAts_of {l : List Att} (h : l.length ≤ 1000) : isAts (l.map Att.row) := ⟨l, rfl, h⟩
theorem isEds_of {l : List Ed} (h : l.length ≤ 1000) : isEds (l.map Ed.row) := ⟨l, rfl, h⟩

theorem app_err {l : List Att} {es : List Ed} (h : ¬ (app l es).2 = 0) : (app l es).1 = [] := by
  unfold app at h ⊢
  split
  · split
    · split
      · rfl
      · split
        · rfl
        · rename_i h1 h2 h3 h4
          rw [if_pos h1, if_pos h2, if_neg h3, if_neg h4] at h
          exact absurd rfl h
    · rfl
  · rfl

theorem app_len (l : List Att) (es : List Ed) : (app l es).1.length ≤ 8 := by
  unfold app
  by_cases h1 : vAts l = true
  · rw [if_pos h1]
    by_cases h2 : ckEds es = 0
    · rw [if_pos h2]
      by_cases h3 : badM l es = true
      · rw [if_pos h3]; exact Nat.zero_le _
      · rw [if_neg h3]
        by_cases h4 : (appM l es).length > 8
        · rw [if_pos h4]; exact Nat.zero_le _
        · rw [if_neg h4]; exact Nat.le_of_not_lt h4
    · rw [if_neg h2]; exact Nat.zero_le _
  · rw [if_neg h1]; exact Nat.zero_le _

theorem vcApplies_ok : vcApplies := by
  unfold vcApplies Nd
  intro x0 x1 x2 x3 x4 x5 x6 x7 x8 x9 x10 x11 x12 x13 x14 x15 x16 x17 x18 x19 x20 x21 hp
  obtain ⟨t, vs, w, ws, h1, h2, he⟩ := hp
  obtain ⟨a1, a2, a3, a4, a5, a6, a7, a8, rfl⟩ := len8 h1.2.1
  obtain ⟨b1, b2, b3, b4, b5, b6, b7, b8, b9, b10, b11, b12, rfl⟩ := len12 h2.2.1
  simp only [List.map_cons, List.map_nil, List.cons_append, List.nil_append, List.cons.injEq, Dat.int.injEq, and_true] at he
  obtain ⟨rfl, rfl, rfl, rfl, rfl, rfl, rfl, rfl, rfl, rfl, rfl, rfl, rfl, rfl, rfl, rfl, rfl, rfl, rfl, rfl, rfl, rfl⟩ := he
  have p1 := oflPre_of h1
  have p2 := ofwPre_of h2
  simp only [List.map_cons, List.map_nil] at p1 p2
  simp only [oflRel, ofwRel]
  generalize hl : listL x0 (ints [.int x1, .int x2, .int x3, .int x4, .int x5, .int x6, .int x7, .int x8]) 8 = l
  generalize hes : listW x9 (ints [.int x10, .int x11, .int x12, .int x13, .int x14, .int x15, .int x16, .int x17, .int x18, .int x19, .int x20, .int x21]) 12 = es
  have v1 : vAts l = true := by rw [← hl]; exact vAts_listL _ _
  have v2 : ckEds es = 0 := by rw [← hes]; exact ckEds_listW _ _
  have n1 : l.length ≤ 8 := by rw [← hl]; exact listL_len _ _ _
  have n2 : es.length ≤ 12 := by rw [← hes]; exact listW_len _ _ _
  have hA := isAts_of (l := l) (by omega)
  have hE := isEds_of (l := es) (by omega)
  have hAl : isAts ((app l es).1.map Att.row) := isAts_of (by have := app_len l es; omega)
  have hle : l.length + es.length ≤ 1000 := by omega
  simp only [p1, p2, livesPre, livesRel, yesRel, appliesRel, trueRel, yes_bool, plainPre, ceditsPre, appPre, aePre, rappPre, samePre, at2Pre, plainRel, appRel, rappRel, sameRel, forall_eq, forall_eq2, ats_map, eds_map, hA, hE, List.length_map, Int.lt_irrefl, not_false_eq_true, true_and, and_true, true_implies, need_twice, need_known, implies_true, ← app_rapp v1 v2, hAl, hle, if_true, not_true_eq_false, false_implies]
  have := @app_err l es
  simp
  intro h
  exact this h
end Go.C13
