/- Chapter 13, AttrsDiff and AttrsCompose: the conditions hold.
  Conditions: none. -/
import Derived.Test.YtkeoanklmnadiaaA22
import Derived.Test.YtkeoanklmnadiaaA24
set_option linter.unusedVariables false
set_option linter.unusedSimpArgs false
namespace Go.C13
open Go Go.Xe Go.Sx

theorem app_diff_val {l m : List Att} (h : vAts l = true) (j : vAts m = true) : app l (diffM l m) = (m, 0) := by
  obtain ⟨e1, e2⟩ := app_diff l m (vAts_s h) (vAts_s j)
  unfold app
  rw [if_pos h, if_pos (ckEds_diffM h j), e1, e2, if_neg (by simp), if_neg (by have := (vAts_ok j).1; omega)]

theorem part_less {D : List Ed} {k : Int} (k0 : 0 ≤ k) (k1 : k < D.length) : Sx.part (D.map Ed.row) 0 k ++ Sx.part (D.map Ed.row) (k + 1) ((D.length : Int) - (k + 1)) = (D.take k.toNat ++ D.drop (k.toNat + 1)).map Ed.row ∧
    ((Sx.part (D.map Ed.row) 0 k).length : Int) = k ∧ ((Sx.part (D.map Ed.row) (k + 1) ((D.length : Int) - (k + 1))).length : Int) = D.length - k - 1 := by
  have e1 : Sx.part (D.map Ed.row) 0 k = (D.take k.toNat).map Ed.row := by rw [part_map]; rfl
  have e2 : Sx.part (D.map Ed.row) (k + 1) ((D.length : Int) - (k + 1)) = (D.drop (k.toNat + 1)).map Ed.row := by
    rw [part_map, toNat_succ k0, List.take_of_length_le (by rw [List.length_drop]; omega)]
  rw [e1, e2, List.length_map, List.length_map, List.length_take, List.length_drop, List.map_append]
  exact ⟨rfl, by omega, by omega⟩

theorem vcDiffs_ok : vcDiffs := by
  unfold vcDiffs Nd
  intro x0 x1 x2 x3 x4 x5 x6 x7 x8 x9 x10 x11 x12 x13 x14 x15 x16 x17 hp
  obtain ⟨t, vs, w, ws, h1, h2, he⟩ := hp
  obtain ⟨a1, a2, a3, a4, a5, a6, a7, a8, rfl⟩ := len8 h1.2.1
  obtain ⟨b1, b2, b3, b4, b5, b6, b7, b8, rfl⟩ := len8 h2.2.1
  simp only [List.map_cons, List.map_nil, List.cons_append, List.nil_append, List.cons.injEq, Dat.int.injEq, and_true] at he
  obtain ⟨rfl, rfl, rfl, rfl, rfl, rfl, rfl, rfl, rfl, rfl, rfl, rfl, rfl, rfl, rfl, rfl, rfl, rfl⟩ := he
  have p1 := oflPre_of h1
  have p2 := oflPre_of h2
  simp only [List.map_cons, List.map_nil] at p1 p2
  simp only [oflRel]
  generalize hl : listL x0 (ints [.int x1, .int x2, .int x3, .int x4, .int x5, .int x6, .int x7, .int x8]) 8 = l
  generalize hm : listL x9 (ints [.int x10, .int x11, .int x12, .int x13, .int x14, .int x15, .int x16, .int x17]) 8 = m
  have v1 : vAts l = true := by rw [← hl]; exact vAts_listL _ _
  have v2 : vAts m = true := by rw [← hm]; exact vAts_listL _ _
  have n1 := (vAts_ok v1).1
  have n2 := (vAts_ok v2).1
  have nd := diffM_len l m
  have hA := isAts_of (l := l) (by omega)
  have hB := isAts_of (l := m) (by omega)
  have hD := isEds_of (l := diffM l m) (by omega)
  have hval := app_diff_val v1 v2
  have hck := ckEds_diffM v1 v2
  have hdec : (decide (((diffM l m).length : Int) = 0) == decide ((if l = m then (1 : Int) else 0) = 1)) = true := by
    by_cases e : l = m
    · have := (diff_nil (vAts_s v1) (vAts_s v2)).2 e
      rw [this, if_pos e]; rfl
    · have : ¬ diffM l m = [] := fun h => e ((diff_nil (vAts_s v1) (vAts_s v2)).1 h)
      have h0 : ¬ ((diffM l m).length : Int) = 0 := fun h => this (List.eq_nil_of_length_eq_zero (by omega))
      rw [if_neg e, decide_eq_false h0]; rfl
  have h16 : ¬ 16 < ((diffM l m).length : Int) := by omega
  have hles := @less_bad l m
  simp only [p1, p2, livesPre, livesRel, yesRel, diffsRel, trueRel, yes_bool, plainPre, ceditsPre, diffPre, at2Pre, appPre, aePre, samePre, plainRel, diffRel, appRel, sameRel, ceditsRel, forall_eq, forall_eq2, ats_map, eds_map, v1, v2, Bool.and_true, if_true, hval, hck, hA, hB, hD, List.length_map, Int.lt_irrefl, not_false_eq_true, true_and, and_true, true_implies, need_twice, need_known, implies_true, not_true_eq_false, false_implies, hdec, h16, Int.one_ne_zero, if_false, dropInv, dropMu]
  generalize diffM l m = D at *
  refine And.intro ⟨by omega, by omega⟩ fun _ k ⟨k0, k1⟩ hk => ?_
  obtain ⟨q1, q2, q3⟩ := part_less k0 hk
  have hb := hles (i := k.toNat) (vAts_s v1) (vAts_s v2) (by omega)
  rw [q1, q2, q3]
  generalize hX : D.take k.toNat ++ D.drop (k.toNat + 1) = X at *
  have hXl : X.length + 1 = D.length := by rw [← hX, List.length_append, List.length_take, List.length_drop]; omega
  have hE := isEds_of (l := X) (by omega)
  have hR := isAts_of (l := (rapp l X).1) (by have := rapp_len l X; omega)
  have hle : l.length + X.length ≤ 1000 := by omega
  simp only [eds_map, ats_map, rappPre, rappRel, forall_eq2, hE, hA, hR, hle, List.length_map, true_and, and_true, true_implies]
  have fin : (rapp l X).2 = 0 → ¬ (if (rapp l X).1 = m then (1 : Int) else 0) = 1 := fun h => by rw [if_neg (hb h)]; omega
  repeat' first
    | exact fin ‹_› ‹_›
    | (refine And.intro ?_ ?_)
    | intro _
  all_goals first
    | omega
    | exact absurd ‹_› (fin ‹_›)
end Go.C13
