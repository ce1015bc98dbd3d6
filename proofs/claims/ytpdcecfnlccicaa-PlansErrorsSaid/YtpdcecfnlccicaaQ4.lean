/- Chapter 36: what stands ahead, counting, comparing, places: the conditions hold.
  Conditions: none. -/
import Derived.Test.YtpdcecfnlccicaaQ3
set_option linter.unusedVariables false
set_option linter.unusedSimpArgs false
namespace Go.C36
open Go Go.Xe Go.Sx
theorem lv0 (s : Lv) : (Lv.row s).getD 0 (.int 0) = .int s.a := rfl
theorem lv1 (s : Lv) : (Lv.row s).getD 1 (.int 0) = .bool s.d := rfl
theorem aheadF_cons (i : Int) (s : Stp) (l : List Stp) : aheadF i (s :: l) = nxt (i + 1) l :: aheadF (i + 1) l := rfl
theorem nxt_cons (i : Int) (s : Stp) (l : List Stp) : nxt i (s :: l) = if s.w = 1 ∧ s.m = false then i else nxt (i + 1) l := rfl
theorem aheadF_len : ∀ (l : List Stp) (i : Int), (aheadF i l).length = l.length
 | [], i => rfl
 | s :: l, i => by rw [aheadF_cons, List.length_cons, aheadF_len l, List.length_cons]
theorem vcAhead_ok : vcAhead := by
 unfold vcAhead Nd
 rintro _ _ ⟨l, rfl, hl⟩
 simp only [aheadRel, stps_map, List.length_map, Int.toNat_natCast, rep_row, Int.lt_irrefl, not_false_eq_true, true_and, true_implies, and_true, need_twice, need_known, implies_true]
 refine And.intro (fun h => ?_) fun h => ?_
 ·have : l = [] := List.eq_nil_of_length_eq_zero (by omega)
  subst this; rfl
 ·have ini : ahInv [.lst (l.map Stp.row)] [.lst ((List.replicate l.length 0).map row), .int ((l.length : Int) + -1), .int (-1)] := by
   simp only [ahInv, stps_map, List.length_map]
   have e : ((l.length : Int) + -1 + 1).toNat = l.length := by omega
   refine ⟨by omega, by omega, ?_, _, rfl, by simp, ?_⟩
   ·rw [e, List.drop_length]; rfl
   ·rw [e, List.drop_length, List.drop_of_length_le (by simp)]; rfl
  refine And.intro (by omega) fun _ => And.intro (by omega) fun _ => And.intro (by omega) fun _ => And.intro ini fun _ O i n hi => ?_
  simp only [ahInv, stps_map, List.length_map] at hi
  obtain ⟨i0, i1, hn, o, rfl, ol, hd⟩ := hi
  refine And.intro (fun hi => ?_) fun hi => ?_
  ·have e : (i + 1).toNat = 0 := by omega
   have e' : i + 1 = 0 := by omega
   rw [e, e'] at hd
   have ho : o = aheadF 0 l := hd
   have hp : Sx.part (o.map row) 0 (l.length : Int) = o.map row := part_row (by omega)
   rw [List.length_map, hp, ho]
   repeat' first
    | rfl
    | (with_reducible refine And.intro ?_ ?_)
    | intro _
    | (rw [aheadF_len]; omega)
    | (have := aheadF_len l 0; omega)
  ·obtain ⟨s, hs⟩ := Sx.get_at (T := l) (i := i) (by omega) i1
   have e := toNat_succ (k := i) (by omega)
   have ei : (i + -1 + 1).toNat = i.toNat := by omega
   have ei' : i + -1 + 1 = i := by omega
   have hil : i.toNat < o.length := by omega
   simp only [cellAt_map hs, st0, st2, toInt_int, toBool_bool, over_row, List.length_map]
   have mk : ∀ n' : Int, n' = nxt i (l.drop i.toNat) → ahInv [.lst (l.map Stp.row)] [.lst ((setN o i.toNat n).map row), .int (i + -1), .int n'] := fun n' hn' => by
    simp only [ahInv, stps_map, List.length_map]
    refine ⟨by omega, by omega, by rw [ei, ei', hn'], _, rfl, by rw [setN_len hil, ol], ?_⟩
    rw [ei, ei', setN_drop (by omega), Sx.drop_at hs, aheadF_cons, ← e, hd, hn]
   have mu : ∀ (a b c d : Dat), ahMu [.lst (l.map Stp.row)] [a, .int (i + -1), b] < ahMu [.lst (l.map Stp.row)] [c, .int i, d] := fun a b c d => by
    simp only [ahMu]; omega
   have hdn : nxt i (l.drop i.toNat) = if s.w = 1 ∧ s.m = false then i else n := by rw [Sx.drop_at hs, nxt_cons, ← e, ← hn]
   repeat (refine And.intro (by omega) fun _ => ?_)
   refine And.intro (fun hw => ?_) fun hw => ?_
   ·repeat (refine And.intro hw fun _ => ?_)
    refine And.intro (fun hm => ?_) fun hm => ?_
    ·have inv := mk n (by rw [hdn, if_neg (by simp [hm])])
     repeat' first
      | with_reducible exact inv
      | with_reducible exact mu _ _ _ _
      | (with_reducible refine And.intro ?_ ?_)
      | intro _
      | omega
    ·have inv := mk i (by rw [hdn, if_pos ⟨hw, by simpa using hm⟩])
     repeat' first
      | with_reducible exact inv
      | with_reducible exact mu _ _ _ _
      | (with_reducible refine And.intro ?_ ?_)
      | intro _
      | omega
   ·have inv := mk n (by rw [hdn, if_neg (fun c => hw c.1)])
    repeat' first
     | with_reducible exact inv
     | with_reducible exact mu _ _ _ _
     | exact hw
     | (with_reducible refine And.intro ?_ ?_)
     | intro _
     | omega
theorem vcNbinds_ok : vcNbinds := by
 unfold vcNbinds Nd
 rintro _ _ ⟨l, rfl, hl⟩
 simp only [nbindsRel, mnbInv, mnbMu, mnsMu, List.length_map, stps_map, need_twice, need_known, implies_true, and_true, true_and, true_implies]
 refine And.intro ⟨by omega, by omega, rfl, by omega, by omega⟩ fun _ k n ⟨k0, k1, hn, n0, n1⟩ => And.intro (fun hk => ?_) fun hk => ?_
 ·obtain ⟨s, hs⟩ := Sx.get_at (T := l) (i := k) k0 hk
  have e := toNat_succ k0
  have hst : many isBind (l.take (k + 1).toNat) = n + if isBind s = true then 1 else 0 := by rw [e, take_succ_at hs, many_snoc, hn]
  simp only [cellAt_map hs, st0, toInt_int]
  refine And.intro (by omega) fun _ => And.intro hk fun _ => And.intro (fun h => ?_) fun h => ?_
  ·have q : n + 1 = many isBind (l.take (k + 1).toNat) := by rw [hst, if_pos (show isBind s = true from decide_eq_true h)]
   repeat' first
    | exact q
    | (with_reducible refine And.intro ?_ ?_)
    | intro _
    | omega
  ·have q : n = many isBind (l.take (k + 1).toNat) := by rw [hst, if_neg (show ¬ isBind s = true from fun c => h (of_decide_eq_true c)), Int.add_zero]
   repeat' first
    | exact q
    | (with_reducible refine And.intro ?_ ?_)
    | intro _
    | omega
 ·rw [List.take_of_length_le (by omega)] at hn; exact hn
theorem vcNmakes_ok : vcNmakes := by
 unfold vcNmakes Nd
 rintro _ _ ⟨l, rfl, hl⟩
 simp only [nmakesRel, mnkInv, mnkMu, mnsMu, List.length_map, stps_map, need_twice, need_known, implies_true, and_true, true_and, true_implies]
 refine And.intro ⟨by omega, by omega, rfl, by omega, by omega⟩ fun _ k n ⟨k0, k1, hn, n0, n1⟩ => And.intro (fun hk => ?_) fun hk => ?_
 ·obtain ⟨s, hs⟩ := Sx.get_at (T := l) (i := k) k0 hk
  have e := toNat_succ k0
  have hst : many isMake (l.take (k + 1).toNat) = n + if isMake s = true then 1 else 0 := by rw [e, take_succ_at hs, many_snoc, hn]
  simp only [cellAt_map hs, st0, toInt_int]
  refine And.intro (by omega) fun _ => And.intro hk fun _ => And.intro (fun h => ?_) fun h => ?_
  ·have q : n + 1 = many isMake (l.take (k + 1).toNat) := by rw [hst, if_pos (show isMake s = true from decide_eq_true h)]
   repeat' first
    | exact q
    | (with_reducible refine And.intro ?_ ?_)
    | intro _
    | omega
  ·have q : n = many isMake (l.take (k + 1).toNat) := by rw [hst, if_neg (show ¬ isMake s = true from fun c => h (of_decide_eq_true c)), Int.add_zero]
   repeat' first
    | exact q
    | (with_reducible refine And.intro ?_ ?_)
    | intro _
    | omega
 ·rw [List.take_of_length_le (by omega)] at hn; exact hn
theorem drops_snoc (l : List Lv) (s : Lv) : drops (l ++ [s]) = drops l + if s.d = true then 1 else 0 := by
 unfold drops
 rw [List.countP_append, List.countP_singleton]
 split <;> omega
theorem vcNdrops_ok : vcNdrops := by
 unfold vcNdrops Nd
 rintro _ _ ⟨l, rfl, hl⟩
 simp only [ndropsRel, ndInv, ndMu, mnsMu, List.length_map, lvs_map, need_twice, need_known, implies_true, and_true, true_and, true_implies]
 refine And.intro ⟨by omega, by omega, rfl, by omega, by omega⟩ fun _ k n ⟨k0, k1, hn, n0, n1⟩ => And.intro (fun hk => ?_) fun hk => ?_
 ·obtain ⟨s, hs⟩ := Sx.get_at (T := l) (i := k) k0 hk
  have e := toNat_succ k0
  have hst : drops (l.take (k + 1).toNat) = n + if s.d = true then 1 else 0 := by rw [e, take_succ_at hs, drops_snoc, hn]
  simp only [cellAt_map hs, lv1, toBool_bool]
  refine And.intro (by omega) fun _ => And.intro hk fun _ => And.intro (fun h => ?_) fun h => ?_
  ·have q : n + 1 = drops (l.take (k + 1).toNat) := by rw [hst, if_pos h]
   repeat' first
    | exact q
    | (with_reducible refine And.intro ?_ ?_)
    | intro _
    | omega
  ·have q : n = drops (l.take (k + 1).toNat) := by rw [hst, if_neg h, Int.add_zero]
   repeat' first
    | exact q
    | (with_reducible refine And.intro ?_ ?_)
    | intro _
    | omega
 ·rw [List.take_of_length_le (by omega)] at hn; exact hn
theorem take_eq_all {α : Type} {a b : List α} {k : Nat} (h : a.take k = b.take k) (ha : a.length ≤ k) (hb : b.length ≤ k) : a = b := by
 rwa [List.take_of_length_le ha, List.take_of_length_le hb] at h
theorem take_step {α : Type} {a b : List α} {k : Int} {x y : α} (h : a.take k.toNat = b.take k.toNat) (k0 : 0 ≤ k) (hx : a[k.toNat]? = some x) (hy : b[k.toNat]? = some y) (e : x = y) : a.take (k + 1).toNat = b.take (k + 1).toNat := by
 rw [toNat_succ k0, take_succ_at hx, take_succ_at hy, h, e]
theorem ne_of_at {α : Type} {a b : List α} {k : Nat} {x y : α} (hx : a[k]? = some x) (hy : b[k]? = some y) (e : x ≠ y) : a ≠ b := by
 rintro rfl
 rw [hx] at hy
 exact e (Option.some.inj hy)
theorem vcPeq_ok : vcPeq := by
 unfold vcPeq Nd
 rintro _ _ _ _ ⟨⟨a, rfl, ha⟩, ⟨s, rfl, hs⟩, ⟨b, rfl, hb⟩, ⟨t, rfl, ht⟩⟩
 simp only [peqRel, qlInv, qlMu, qsInv, qsMu, iqMu, List.length_map, lvs_map, stps_map, need_twice, need_known, implies_true, and_true, true_and, true_implies]
 have no : ¬ (a = b ∧ s = t) → (0 : Int) = if a = b ∧ s = t then 1 else 0 := fun h => by rw [if_neg h]
 refine And.intro (fun hl => ?_) fun hl => ?_
 ·have hl' : a.length = b.length := by omega
  refine And.intro (fun hm => ?_) fun hm => ?_
  ·have hm' : s.length = t.length := by omega
   refine And.intro ⟨by omega, by omega, hl', by simp⟩ fun _ k ⟨k0, k1, _, hk0⟩ => And.intro (fun hk => ?_) fun hk => ?_
   ·obtain ⟨x, hx⟩ := Sx.get_at (T := a) (i := k) k0 hk
    obtain ⟨y, hy⟩ := Sx.get_at (T := b) (i := k) k0 (by omega)
    simp only [cellAt_map hx, cellAt_map hy, lv0, lv1, toInt_int, toBool_bool, beq_iff_eq]
    repeat (refine And.intro (by omega) fun _ => ?_)
    refine And.intro (fun h => And.intro (fun h2 => ?_) fun h2 => ?_) fun h => ?_
    ·have q := take_step hk0 k0 hx hy (by cases x; cases y; simp_all)
     repeat' first
      | exact q
      | exact hl'
      | (with_reducible refine And.intro ?_ ?_)
      | intro _
      | omega
    ·exact no fun c => ne_of_at hx hy (fun d => h2 (by rw [d])) c.1
    ·exact no fun c => ne_of_at hx hy (fun d => h (by rw [d])) c.1
   ·have hab := take_eq_all hk0 (by omega) (by omega)
    refine And.intro ⟨by omega, by omega, hm', by simp⟩ fun _ j ⟨j0, j1, _, hj0⟩ => And.intro (fun hj => ?_) fun hj => ?_
    ·obtain ⟨x, hx⟩ := Sx.get_at (T := s) (i := j) j0 hj
     obtain ⟨y, hy⟩ := Sx.get_at (T := t) (i := j) j0 (by omega)
     simp only [cellAt_map hx, cellAt_map hy, st0, st1, st2, toInt_int, toBool_bool, beq_iff_eq]
     repeat (refine And.intro (by omega) fun _ => ?_)
     refine And.intro (fun h => And.intro (fun h2 => And.intro (fun h3 => ?_) fun h3 => ?_) fun h2 => ?_) fun h => ?_
     ·have q := take_step hj0 j0 hx hy (by cases x; cases y; simp_all)
      repeat' first
       | exact q
       | exact hm'
       | (with_reducible refine And.intro ?_ ?_)
       | intro _
       | omega
     ·exact no fun c => ne_of_at hx hy (fun d => h3 (by rw [d])) c.2
     ·exact no fun c => ne_of_at hx hy (fun d => h2 (by rw [d])) c.2
     ·exact no fun c => ne_of_at hx hy (fun d => h (by rw [d])) c.2
    ·have hst := take_eq_all hj0 (by omega) (by omega)
     rw [if_pos ⟨hab, hst⟩]
  ·exact no fun c => hm (by rw [c.2])
 ·have q := no fun c => hl (by rw [c.1])
  repeat' first
   | exact q
   | exact hl
   | (with_reducible refine And.intro ?_ ?_)
   | intro _
theorem vcPfind_ok : vcPfind := by
 unfold vcPfind Nd
 rintro _ u v ⟨l, rfl, hl, _⟩
 simp only [pfindRel, fdInv, fdMu, List.length_map, rws_map, need_twice, need_known, implies_true, and_true, true_and, true_implies]
 refine And.intro ⟨by omega, by omega, by simp⟩ fun _ k ⟨k0, k1, hn⟩ => And.intro (fun hk => ?_) fun hk => ?_
 ·obtain ⟨x, hx⟩ := Sx.get_at (T := l) (i := k) k0 hk
  have e := toNat_succ k0
  simp only [cellAt_map hx, rw0, rw1, toInt_int]
  have q : x ≠ ⟨u, v⟩ → (⟨u, v⟩ : Rw) ∉ l.take (k + 1).toNat := fun h => by
   rw [e, take_succ_at hx]
   simp only [List.mem_append, List.mem_singleton, not_or]
   exact ⟨hn, fun c => h c.symm⟩
  refine And.intro (by omega) fun _ => And.intro (by omega) fun _ => And.intro (fun h => And.intro (fun h2 => ?_) fun h2 => ?_) fun h => ?_
  ·have : x = ⟨u, v⟩ := by cases x; simp_all
   subst this
   rw [atR_at hn hx]; omega
  ·have q := q fun c => h2 (by rw [c])
   repeat' first
    | exact q
    | (with_reducible refine And.intro ?_ ?_)
    | intro _
    | omega
  ·have q := q fun c => h (by rw [c])
   repeat' first
    | exact q
    | (with_reducible refine And.intro ?_ ?_)
    | intro _
    | omega
 ·rw [List.take_of_length_le (by omega)] at hn
  exact (atR_no hn).symm
end Go.C36
