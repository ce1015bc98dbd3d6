/- Chapter 36, the reference's plan: the condition holds.
  Conditions: none. -/
import Derived.Test.YtpdcecfnlccicaaQ6
set_option linter.unusedVariables false
set_option linter.unusedSimpArgs false
namespace Go.C36
open Go Go.Xe Go.Sx
theorem setN_set {l : List Int} {k : Nat} {x : Int} (h : k < l.length) : setN l k x = l.set k x := by
 apply List.ext_getElem?
 intro j
 rw [setN_get (by omega), List.getElem?_set]
 by_cases e : k = j
 ·subst e; rw [if_pos rfl, if_pos rfl, if_pos h]
 ·rw [if_neg (fun c => e c.symm), if_neg e]
theorem put_row {l : List Int} {k x n : Int} (h0 : 0 ≤ k) (h1 : k < l.length) (hn : n = l.length) : Sx.part (Sx.over (l.map row) k (chunk 1 1 [.int x])) 0 n = (l.set k.toNat x).map row := by
 rw [over_row, setN_set (by omega), part_row (by rw [List.length_set]; exact hn)]
theorem put_len {l : List Int} {k x : Int} (h0 : 0 ≤ k) (h1 : k < l.length) : (Sx.over (l.map row) k (chunk 1 1 [.int x])).length = l.length := by
 rw [over_row, List.length_map, setN_len (by omega)]
theorem set_take {l : List Int} {k : Nat} {x : Int} (h : k < l.length) : (l.set k x).take (k + 1) = l.take k ++ [x] := by
 have : (l.set k x)[k]? = some x := by rw [List.getElem?_set_self h]
 rw [take_succ_at this]
 congr 1
 rw [List.take_set]
 exact List.set_eq_of_length_le (by rw [List.length_take]; omega)
theorem mem_at {l : List Rw} {x : Rw} : ¬ atR l x < 0 ↔ x ∈ l := by
 constructor
 ·intro h
  by_cases hm : x ∈ l
  ·exact hm
  ·rw [atR_no hm] at h; omega
 ·intro h
  have := (atR_get h).1
  omega
theorem vpick_len : ∀ (l fs : List Int) (n y : Int), (vpick l fs n y).length ≤ l.length
 | [], fs, n, y => by rw [vpick_nil]; exact Nat.le_refl _
 | x :: l, [], n, y => Nat.zero_le _
 | x :: l, f :: fs, n, y => by
  rw [vpick_cons]
  split
  ·have := vpick_len l fs (n - 1) x
   simp only [List.length_cons]; omega
  ·have := vpick_len l fs n y
   simp only [List.length_cons]; omega
theorem rkept_le (l : List Int) : (rkept l).length ≤ l.length := vpick_len _ _ _ _
section
variable {o n : List Rw} {p b : List Int}
theorem vcRof_ok : vcRof := by
 unfold vcRof Nd
 rintro _ _ _ _ ⟨⟨o, rfl, ho, ho'⟩, ⟨n, rfl, hn, hn'⟩, ⟨p, rfl, hp⟩, ⟨b, rfl, hbl⟩, hb, hrp⟩
 rw [nums_map] at hb
 simp only [rws_map, nums_map] at hrp
 obtain ⟨hr, c1, c2⟩ := hrp
 have nd1 := (chkP_ok c1).2.2.2
 have nd2 := (chkP_ok c2).2.2.2
 have pl := hr.2.2.1
 have lb8 := hr.2.1
 have fp1 : ∀ u v : Int, pfindPre [.lst (n.map Rw.row), .int u, .int v] := fun u v => ⟨n, rfl, hn, hn'⟩
 have fp2 : ∀ u v : Int, pfindPre [.lst (o.map Rw.row), .int u, .int v] := fun u v => ⟨o, rfl, ho, ho'⟩
 simp only [rep_row, List.length_map, List.length_replicate, Int.toNat_natCast, Int.lt_irrefl, not_false_eq_true, true_and, true_implies, and_true, need_twice, need_known, implies_true]
 refine And.intro (by omega) fun _ => And.intro (by omega) fun _ => ?_
 have hs : Sx.part ((List.replicate p.length 0).map row) 0 p.length = (List.replicate p.length 0).map row := part_row (by simp)
 rw [hs]
 refine And.intro ?_ fun _ k T hi => ?_
 ·simp only [r0Inv, nums_map, List.length_map]
  exact ⟨by omega, by omega, _, rfl, by simp, by simp⟩
 simp only [r0Inv, nums_map, List.length_map] at hi
 obtain ⟨k0, k1, t, rfl, tl, tt⟩ := hi
 simp only [List.length_map, Int.lt_irrefl, not_false_eq_true, true_and, true_implies]
 refine And.intro (fun hk => ?_) fun hk => ?_
 ·obtain ⟨x, hx⟩ := Sx.get_at (T := p) (i := k) k0 hk
  have e := toNat_succ k0
  have hkt : k < t.length := by omega
  simp only [cellAt_map hx, row0, toInt_int, put_row k0 hkt rfl, put_len k0 hkt]
  have inv : r0Inv [.lst (p.map row)] [.int (k + 1), .lst ((t.set k.toNat x).map row)] := by
   simp only [r0Inv, nums_map, List.length_map]
   exact ⟨by omega, by omega, _, rfl, by rw [List.length_set]; exact tl, by rw [e, set_take (by omega), take_succ_at hx, tt]⟩
  have mu : r0Mu [.lst (p.map row)] [.int (k + 1), .lst ((t.set k.toNat x).map row)] < r0Mu [.lst (p.map row)] [.int k, .lst (t.map row)] := by
   simp only [r0Mu, List.length_map]; omega
  repeat' first
   | with_reducible exact inv
   | with_reducible exact mu
   | (with_reducible refine And.intro ?_ ?_)
   | intro _
   | omega
 ·have htp : t = p := take_eq_all tt (by omega) (by omega)
  subst htp
  clear tt tl
  refine And.intro ?_ fun _ i T L hi => ?_
  ·simp only [r2Inv, rws_map, nums_map, List.length_map]
   exact ⟨by omega, by omega, t, [], [], rfl, rfl, ⟨pl, hr.2.2.2⟩, by simp, rfl⟩
  simp only [r2Inv, rws_map, nums_map, List.length_map] at hi
  obtain ⟨i0, i1, u, f, l, rfl, rfl, hU, ll, hall⟩ := hi
  have ul := hU.1
  simp only [List.length_map, Int.lt_irrefl, not_false_eq_true, true_and, true_implies, fp1, pfindRel, rws_map, forall_eq]
  refine And.intro (fun hi => ?_) fun hi => ?_
  ·obtain ⟨x, hx⟩ := Sx.get_at (T := o) (i := i) i0 hi
   have e := toNat_succ i0
   have hm : x ∈ o := List.mem_of_getElem? hx
   obtain ⟨t0, t1⟩ := ty_ok c1 ho' hm
   obtain ⟨w, v, hw, hv, w0, w1⟩ := inB_get hU t0 t1
   have hvb := hb v (List.mem_of_getElem? hv)
   have gw : u.getD x.t.toNat 0 = w := by rw [List.getD_eq_getElem?_getD, hw]; rfl
   have gv : b.getD x.t.toNat 0 = v := by rw [List.getD_eq_getElem?_getD, hv]; rfl
   have htu : x.t < u.length := by omega
   rw [Sx.drop_at hx, lvAll, ← e] at hall
   have hxe : (⟨x.k, x.t⟩ : Rw) = x := rfl
   have mu : ∀ a c : List Dat, r2Mu [.lst (o.map Rw.row), .lst (n.map Rw.row), .lst (t.map row), .lst (b.map row)] (.int (i + 1) :: a) < r2Mu [.lst (o.map Rw.row), .lst (n.map Rw.row), .lst (t.map row), .lst (b.map row)] (.int i :: c) := fun a c => by
    simp only [r2Mu, r0Mu, List.length_map]; omega
   simp only [cellAt_map hx, rw0, rw1, toInt_int, hxe, cellAt_map hw, cellAt_map hv, row0, put_row t0 htu rfl, put_len t0 htu, map_app_lv]
   refine And.intro (by omega) fun _ => And.intro hi fun _ => And.intro (fun hin => ?_) fun hin => ?_
   ·have hin' : x ∉ n := fun c => absurd hin (mem_at.2 c)
    repeat (refine And.intro (by omega) fun _ => ?_)
    refine And.intro (fun hlt => ?_) fun hlt => ?_
    ·have inv : r2Inv [.lst (o.map Rw.row), .lst (n.map Rw.row), .lst (t.map row), .lst (b.map row)] [.int (i + 1), .lst ((u.set x.t.toNat (w + 1)).map row), .lst ((l ++ [(⟨i, !decide (w < v)⟩ : Lv)]).map Lv.row)] := by
      simp only [r2Inv, rws_map, nums_map, List.length_map]
      refine ⟨by omega, by omega, _, f, _, rfl, rfl, inB_set hU hv (by omega) (by omega), by rw [List.length_append]; simp; omega, ?_⟩
      rw [← hall]; unfold lvStep; rw [if_neg hin', gw, gv, if_pos hlt, decide_eq_true hlt]; rfl
     repeat' first
      | with_reducible exact inv
      | with_reducible exact mu _ _
      | (with_reducible refine And.intro ?_ ?_)
      | intro _
      | omega
    ·have inv : r2Inv [.lst (o.map Rw.row), .lst (n.map Rw.row), .lst (t.map row), .lst (b.map row)] [.int (i + 1), .lst (u.map row), .lst ((l ++ [(⟨i, !decide (w < v)⟩ : Lv)]).map Lv.row)] := by
      simp only [r2Inv, rws_map, nums_map, List.length_map]
      refine ⟨by omega, by omega, _, f, _, rfl, rfl, hU, by rw [List.length_append]; simp; omega, ?_⟩
      rw [← hall]; unfold lvStep; rw [if_neg hin', gw, gv, if_neg hlt, decide_eq_false hlt]; rfl
     repeat' first
      | with_reducible exact inv
      | with_reducible exact mu _ _
      | (with_reducible refine And.intro ?_ ?_)
      | intro _
      | omega
   ·have hin' : x ∈ n := mem_at.1 hin
    have inv : r2Inv [.lst (o.map Rw.row), .lst (n.map Rw.row), .lst (t.map row), .lst (b.map row)] [.int (i + 1), .lst (u.map row), .lst (l.map Lv.row)] := by
     simp only [r2Inv, rws_map, nums_map, List.length_map]
     refine ⟨by omega, by omega, _, f ++ [i], _, rfl, rfl, hU, by omega, ?_⟩
     rw [← hall]; unfold lvStep; rw [if_pos hin']
    repeat' first
     | with_reducible exact inv
     | with_reducible exact mu _ _
     | (with_reducible refine And.intro ?_ ?_)
     | intro _
     | omega
  ·rw [List.drop_of_length_le (by omega), lvAll] at hall
   have ht : (lvOut o n t b).th = u := by rw [← hall]
   have hl : ofLeaves o n t b = l := by unfold ofLeaves; rw [← hall]
   refine And.intro ?_ fun _ j R hj => ?_
   ·simp only [r4Inv, rws_map, List.length_map]
    exact ⟨by omega, by omega, by simp, by simp⟩
   simp only [r4Inv, rws_map, List.length_map] at hj
   obtain ⟨j0, j1, rl, rfl⟩ := hj
   simp only [List.length_map, Int.lt_irrefl, not_false_eq_true, true_and, true_implies, fp2, pfindRel, rws_map, forall_eq]
   refine And.intro (fun hj => ?_) fun hj => ?_
   ·obtain ⟨x, hx⟩ := Sx.get_at (T := n) (i := j) j0 hj
    have e := toNat_succ j0
    have hxe : (⟨x.k, x.t⟩ : Rw) = x := rfl
    have mu : ∀ a c : List Dat, r4Mu [.lst (o.map Rw.row), .lst (n.map Rw.row)] (.int (j + 1) :: a) < r4Mu [.lst (o.map Rw.row), .lst (n.map Rw.row)] (.int j :: c) := fun a c => by
     simp only [r4Mu, List.length_map]; omega
    simp only [cellAt_map hx, rw0, rw1, toInt_int, hxe, map_app_row]
    simp only [List.length_map] at rl
    refine And.intro (by omega) fun _ => And.intro hj fun _ => And.intro (fun hin => ?_) fun hin => ?_
    ·have hin' : x ∉ o := fun c => absurd hin (mem_at.2 c)
     have inv : r4Inv [.lst (o.map Rw.row), .lst (n.map Rw.row)] [.int (j + 1), .lst ((((n.take j.toNat).filter fun x => decide (x ∈ o)).map (atR o)).map row)] := by
      simp only [r4Inv, rws_map, List.length_map]
      refine ⟨by omega, by omega, by omega, ?_⟩
      rw [e, take_succ_at hx, List.filter_append, List.filter_cons_of_neg (by simpa using hin'), List.filter_nil, List.append_nil]
     repeat' first
      | with_reducible exact inv
      | with_reducible exact mu _ _
      | (with_reducible refine And.intro ?_ ?_)
      | intro _
      | omega
    ·have hin' : x ∈ o := mem_at.1 hin
     have inv : r4Inv [.lst (o.map Rw.row), .lst (n.map Rw.row)] [.int (j + 1), .lst ((((n.take j.toNat).filter fun x => decide (x ∈ o)).map (atR o) ++ [atR o x]).map row)] := by
      simp only [r4Inv, rws_map, List.length_map]
      refine ⟨by omega, by omega, by rw [List.length_append, List.length_map]; simp; omega, ?_⟩
      rw [e, take_succ_at hx, List.filter_append, List.filter_cons_of_pos (by simpa using hin'), List.filter_nil, List.map_append (f := atR o)]
      rfl
     repeat' first
      | with_reducible exact inv
      | with_reducible exact mu _ _
      | (with_reducible refine And.intro ?_ ?_)
      | intro _
      | omega
   ·rw [List.take_of_length_le (by omega)] at rl ⊢
    have hbh : (n.filter fun x => decide (x ∈ o)).map (atR o) = (stOut o n t b).bh := stOut_bh.symm
    rw [hbh] at rl ⊢
    simp only [List.length_map] at rl
    have kp : rkeptPre [.lst ((stOut o n t b).bh.map row)] := ⟨_, rfl, by omega⟩
    refine And.intro kp fun _ => ?_
    simp only [rkeptRel, nums_map, forall_eq]
    have hKl := rkept_le (stOut o n t b).bh
    generalize hK : rkept (stOut o n t b).bh = K at hKl
    refine And.intro ?_ fun _ j T L S hj => ?_
    ·simp only [r6Inv, rws_map, nums_map, List.length_map]
     exact ⟨by omega, by omega, trivial, u, u, [], [], rfl, rfl, rfl, hU, by simp, rfl⟩
    simp only [r6Inv, rws_map, nums_map, List.length_map] at hj
    obtain ⟨j0, j1, rfl, u0, y, h, s, e0, rfl, rfl, hY, hs, hst⟩ := hj
    have : u0 = u := (row_inj e0).symm
    subst this
    have yl := hY.1
    simp only [List.length_map, Int.lt_irrefl, not_false_eq_true, true_and, true_implies, fp2, pfindRel, rws_map, forall_eq]
    refine And.intro (fun hj => ?_) fun hj => ?_
    ·obtain ⟨x, hx⟩ := Sx.get_at (T := n) (i := j) j0 hj
     have e := toNat_succ j0
     have hm : x ∈ n := List.mem_of_getElem? hx
     have hxe : (⟨x.k, x.t⟩ : Rw) = x := rfl
     obtain ⟨t0, t1⟩ := ty_ok c2 hn' hm
     rw [Sx.drop_at hx, stAll, ← e] at hst
     obtain ⟨w, v, hw, hv, w0, w1⟩ := inB_get hY t0 t1
     have hvb := hb v (List.mem_of_getElem? hv)
     have gw : y.getD x.t.toNat 0 = w := by rw [List.getD_eq_getElem?_getD, hw]; rfl
     have hty : x.t < y.length := by omega
     have mu : ∀ a c : List Dat, r6Mu [.lst (o.map Rw.row), .lst (n.map Rw.row), .lst (b.map row), .lst (K.map row), .lst (l.map Lv.row), .lst (u0.map row)] (.int (j + 1) :: a) < r6Mu [.lst (o.map Rw.row), .lst (n.map Rw.row), .lst (b.map row), .lst (K.map row), .lst (l.map Lv.row), .lst (u0.map row)] (.int j :: c) := fun a c => by
      simp only [r6Mu, r4Mu, List.length_map]; omega
     simp only [cellAt_map hx, rw0, rw1, toInt_int, hxe, cellAt_map hw, row0, put_row t0 hty rfl, put_len t0 hty, map_app_st]
     repeat (refine And.intro (by omega) fun _ => ?_)
     refine And.intro (fun hin => ?_) fun hin => ?_
     ·have hin' : x ∉ o := fun c => absurd hin (mem_at.2 c)
      have ha : atR o x = -1 := atR_no hin'
      simp only [ha]
      repeat (refine And.intro (by omega) fun _ => ?_)
      refine And.intro (fun hlt => ?_) fun hlt => ?_
      ·have inv : r6Inv [.lst (o.map Rw.row), .lst (n.map Rw.row), .lst (b.map row), .lst (K.map row), .lst (l.map Lv.row), .lst (u0.map row)] [.int (j + 1), .lst ((y.set x.t.toNat (w + -1)).map row), .lst (l.map Lv.row), .lst ((s.map (keepS K) ++ [(⟨2, -1, false⟩ : Stp)]).map Stp.row)] := by
        simp only [r6Inv, rws_map, nums_map, List.length_map]
        refine ⟨by omega, by omega, trivial, u0, _, h, s ++ [⟨2, -1, false⟩], rfl, rfl, ?_, inB_set hY hv (by omega) (by omega), by rw [List.length_append]; simp; omega, ?_⟩
        ·rw [List.map_append (f := keepS K)]
         congr 2
        ·rw [← hst]; unfold stStep; rw [if_neg hin', gw, if_pos hlt]; rfl
       repeat' first
        | with_reducible exact inv
        | with_reducible exact mu _ _
        | (with_reducible refine And.intro ?_ ?_)
        | intro _
        | omega
      ·have inv : r6Inv [.lst (o.map Rw.row), .lst (n.map Rw.row), .lst (b.map row), .lst (K.map row), .lst (l.map Lv.row), .lst (u0.map row)] [.int (j + 1), .lst (y.map row), .lst (l.map Lv.row), .lst ((s.map (keepS K) ++ [(⟨3, -1, false⟩ : Stp)]).map Stp.row)] := by
        simp only [r6Inv, rws_map, nums_map, List.length_map]
        refine ⟨by omega, by omega, trivial, u0, _, h, s ++ [⟨3, -1, false⟩], rfl, rfl, ?_, hY, by rw [List.length_append]; simp; omega, ?_⟩
        ·rw [List.map_append (f := keepS K)]
         congr 2
        ·rw [← hst]; unfold stStep; rw [if_neg hin', gw, if_neg hlt]
       repeat' first
        | with_reducible exact inv
        | with_reducible exact mu _ _
        | (with_reducible refine And.intro ?_ ?_)
        | intro _
        | omega
     ·have hin' : x ∈ o := mem_at.1 hin
      generalize hat : atR o x = a
      have r8 : r8Inv [.lst (K.map row), .int a] [.int 0, .int a, .bool true] := by
       simp only [r8Inv, nums_map, List.length_map]
       exact ⟨by omega, by omega, trivial, by simp⟩
      refine And.intro r8 fun _ q a' m hq => ?_
      simp only [r8Inv, nums_map, List.length_map] at hq
      obtain ⟨q0, q1, rfl, rfl⟩ := hq
      refine And.intro (fun hq => ?_) fun hq => ?_
      ·obtain ⟨z, hz⟩ := Sx.get_at (T := K) (i := q) q0 hq
       have eq1 := toNat_succ q0
       simp only [cellAt_map hz, row0, toInt_int]
       have mk : ∀ m : Bool, m = decide (a' ∉ K.take (q + 1).toNat) → r8Inv [.lst (K.map row), .int a'] [.int (q + 1), .int a', .bool m] := fun m hm => by
        simp only [r8Inv, nums_map, List.length_map]
        exact ⟨by omega, by omega, trivial, hm⟩
       have mu8 : ∀ a c : List Dat, r8Mu [.lst (K.map row), .int a'] (.int (q + 1) :: a) < r8Mu [.lst (K.map row), .int a'] (.int q :: c) := fun a c => by
        simp only [r8Mu, r0Mu, List.length_map]; omega
       repeat (refine And.intro (by omega) fun _ => ?_)
       refine And.intro (fun hza => ?_) fun hza => ?_
       ·have inv := mk false (by rw [eq1, take_succ_at hz]; simp [hza])
        repeat' first
         | with_reducible exact inv
         | with_reducible exact mu8 _ _
         | (with_reducible refine And.intro ?_ ?_)
         | intro _
         | omega
       ·have inv := mk (decide (a' ∉ K.take q.toNat)) (by rw [eq1, take_succ_at hz]; simp [show ¬ a' = z from fun c => hza c.symm])
        repeat' first
         | with_reducible exact inv
         | with_reducible exact mu8 _ _
         | (with_reducible refine And.intro ?_ ?_)
         | intro _
         | omega
      ·rw [List.take_of_length_le (by omega)]
       have hkp : keepS K ⟨1, a', true⟩ = ⟨1, a', decide (a' ∉ K)⟩ := by
        unfold keepS
        by_cases c : a' ∈ K
        ·rw [if_pos ⟨rfl, c⟩]; simp [c]
        ·rw [if_neg (fun d => c d.2)]; simp [c]
       have inv : r6Inv [.lst (o.map Rw.row), .lst (n.map Rw.row), .lst (b.map row), .lst (K.map row), .lst (l.map Lv.row), .lst (u0.map row)] [.int (j + 1), .lst (y.map row), .lst (l.map Lv.row), .lst ((s.map (keepS K) ++ [(⟨1, a', decide (a' ∉ K)⟩ : Stp)]).map Stp.row)] := by
        simp only [r6Inv, rws_map, nums_map, List.length_map]
        refine ⟨by omega, by omega, trivial, u0, _, h ++ [a'], s ++ [⟨1, a', true⟩], rfl, rfl, ?_, hY, by rw [List.length_append]; simp; omega, ?_⟩
        ·rw [List.map_append (f := keepS K), List.map_cons, List.map_nil, hkp]
        ·rw [← hst]; unfold stStep; rw [if_pos hin', hat]
       repeat' first
        | with_reducible exact inv
        | with_reducible exact mu _ _
        | (with_reducible refine And.intro ?_ ?_)
        | intro _
        | omega
    ·rw [List.drop_of_length_le (by omega), stAll] at hst
     have hso : (stOut o n t b).st = s := by unfold stOut; rw [ht, ← hst]
     simp only [rofRel, rws_map, nums_map, hK, hso, hl, and_self]
end
end Go.C36
