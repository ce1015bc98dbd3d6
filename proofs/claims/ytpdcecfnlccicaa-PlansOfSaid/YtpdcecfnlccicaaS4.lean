/- Chapter 36, PlansOf: the condition holds.
  Conditions: none. -/
import Derived.Test.YtpdcecfnlccicaaS2
import Derived.Test.YtpdcecfnlccicaaS3
set_option linter.unusedVariables false
set_option linter.unusedSimpArgs false
namespace Go.C36
open Go Go.Xe Go.Sx
theorem w3_of {l : List Stp} {i k n : Int} (h1 : i ≤ k) (h2 : k < l.length) (h3 : n = nxt (k + 1) (l.drop (k + 1).toNat)) : w3Inv [.lst (l.map Stp.row), .int i] [.int k, .int n] := by
 simp only [w3Inv, stps_map, List.length_map]
 exact ⟨h1, h2, h3⟩
theorem vcPof0_ok {l : List Stp} {i k n : Int} (hl : l.length ≤ 1024) (hi : 0 ≤ i) (h : w3Inv [.lst (l.map Stp.row), .int i] [.int k, .int n]) (hk : i < k) : vcPof0 (l.map Stp.row) i k n := by
 simp only [w3Inv, stps_map, List.length_map] at h
 obtain ⟨_, k1, hn⟩ := h
 obtain ⟨s, hs⟩ := Sx.get_at (T := l) (i := k) (by omega) k1
 have e := toNat_succ (k := k) (by omega)
 have e1 : (k + -1 + 1).toNat = k.toNat := by omega
 have e2 : k + -1 + 1 = k := by omega
 have hd : nxt k (l.drop k.toNat) = if s.w = 1 ∧ s.m = false then k else n := by rw [Sx.drop_at hs, nxt_cons, ← e, hn]
 have mk : ∀ n' : Int, n' = nxt k (l.drop k.toNat) → w3Inv [.lst (l.map Stp.row), .int i] [.int (k + -1), .int n'] := fun n' hn' => w3_of (by omega) (by omega) (by rw [e1, e2]; exact hn')
 have mu : ∀ a b : List Dat, w3Mu [.lst (l.map Stp.row), .int i] (.int (k + -1) :: a) < w3Mu [.lst (l.map Stp.row), .int i] (.int k :: b) := fun a b => by
  simp only [w3Mu]; omega
 unfold vcPof0 Nd
 simp only [cellAt_map hs, st0, st2, toInt_int, toBool_bool, List.length_map, need_twice, need_known, implies_true, and_true, true_and, true_implies]
 repeat (refine And.intro (by omega) fun _ => ?_)
 refine And.intro (fun hw => ?_) fun hw => ?_
 ·repeat (refine And.intro (by first | exact hw | omega) fun _ => ?_)
  refine And.intro (fun hm => ?_) fun hm => ?_
  ·have inv := mk n (by rw [hd, if_neg (by simp [hm])])
   repeat' first
    | with_reducible exact inv
    | with_reducible exact mu _ _
    | (with_reducible refine And.intro ?_ ?_)
    | intro _
    | omega
  ·have inv := mk k (by rw [hd, if_pos ⟨hw, by simpa using hm⟩])
   repeat' first
    | with_reducible exact inv
    | with_reducible exact mu _ _
    | (with_reducible refine And.intro ?_ ?_)
    | intro _
    | omega
 ·have inv := mk n (by rw [hd, if_neg (fun c => hw c.1)])
  repeat' first
   | with_reducible exact inv
   | with_reducible exact mu _ _
   | exact hw
   | (with_reducible refine And.intro ?_ ?_)
   | intro _
   | omega
theorem ahead_get : ∀ (l : List Stp) (i : Int) (k : Nat), k < l.length → (aheadF i l)[k]? = some (nxt (i + k + 1) (l.drop (k + 1)))
 | s :: l, i, 0, _ => by rw [aheadF_cons]; simp
 | s :: l, i, k + 1, h => by
  rw [aheadF_cons, List.getElem?_cons_succ, ahead_get l (i + 1) k (by simpa using h), List.drop_succ_cons]
  congr 2
  omega
theorem many_else {l : List Stp} (h : ∀ s ∈ l, okS s) : many isElse l = many isMake l := by
 unfold many
 congr 1
 refine List.countP_congr fun s hs => ?_
 unfold isElse isMake
 rcases h s hs with h | h | h <;> simp [h]
theorem UOk.rpre {O N : List Rw} {P B : List Int} (h : UOk O N P B) : rofPre [.lst (O.map Rw.row), .lst (N.map Rw.row), .lst (P.map row), .lst (B.map row)] := by
 have hp := h.pre
 refine ⟨hp.1, hp.2.1, hp.2.2.1, hp.2.2.2.1, hp.2.2.2.2, ?_⟩
 simp only [rws_map, nums_map]
 exact ⟨h.rb, h.chk, h.swap.chk⟩
theorem vcPof_ok : vcPof := by
 unfold vcPof Nd
 rintro _ _ a b c d e f ⟨⟨l, rfl, hl⟩, ⟨m, rfl, hm⟩, ha, hb, hc, hd, he, hf⟩
 have U := uok hl hm ha hb hc hd he hf
 have hu : uofPre [.lst (l.map prRow), .lst (m.map prRow), .int a, .int b, .int c, .int d, .int e, .int f] := ⟨⟨l, rfl, hl⟩, ⟨m, rfl, hm⟩, ha, hb, hc, hd, he, hf⟩
 simp only [hu, uofRel, prs_map, forall_eq4, true_and, true_implies]
 generalize rowsL l = O at U
 generalize rowsL m = N at U
 generalize [inOf a b, inOf c d, inOf e f] = P at U
 generalize [bndOf a, bndOf c, bndOf e] = B at U
 have ndO := nodup_of_key U.no
 have ndN := nodup_of_key U.nn
 have hk := kept_same (P := P) (B := B) ndO ndN
 have lS : (ofSteps O N P B).length = N.length := ofSteps_len
 have hS : (stOut O N P B).st.map (keepS (rkept (stOut O N P B).bh)) = ofSteps O N P B := by unfold ofSteps; rw [hk]
 have okk := of_ok (O := O) (N := N) (P := P) (B := B)
 have pL : isLv ((ofLeaves O N P B).map Lv.row) := ⟨_, rfl, by have := ofLeaves_len (O := O) (N := N) (P := P) (B := B); have := U.lo; omega⟩
 have pS : isSt ((ofSteps O N P B).map Stp.row) := ⟨_, rfl, by have := U.ln; omega⟩
 have lL : (ofLeaves O N P B).length ≤ 1024 := by have := ofLeaves_len (O := O) (N := N) (P := P) (B := B); have := U.lo; omega
 have lS' : (ofSteps O N P B).length ≤ 1024 := by have := U.ln; omega
 simp only [U.rpre, U.pre, U.rel, rofRel, rws_map, nums_map, hS, forall_eq3, forall_eq2, true_and, true_implies]
 clear hS hk lS
 have gS : ∀ L : Sx.Rows, planPre [.lst L, .lst ((ofSteps O N P B).map Stp.row)] := fun L => pS
 generalize ofLeaves O N P B = L at *
 generalize ofSteps O N P B = S at *
 have hpq : peqPre [.lst (L.map Lv.row), .lst (S.map Stp.row), .lst (L.map Lv.row), .lst (S.map Stp.row)] := ⟨pL, pS, pL, pS⟩
 have hah : aheadPre [.lst (L.map Lv.row), .lst (S.map Stp.row)] := pS
 simp only [hpq, peqRel, lvs_map, stps_map, and_self, if_true, forall_eq, true_and, true_implies, need_twice, need_known, implies_true, and_true, not_true_eq_false, false_implies, Int.one_ne_zero, not_false_eq_true, List.length_map]
 refine And.intro ?_ fun _ i a b c m A hi => ?_
 ·simp only [w0Inv, stps_map, List.length_map]
  exact ⟨by omega, by omega, rfl, rfl, rfl, rfl, by omega, by omega, by omega, by omega, rfl, [], rfl, by simp⟩
 simp only [w0Inv, stps_map, List.length_map] at hi
 obtain ⟨i0, i1, e1, e2, e3, e4, a1, b1, c1, m1, al, x, rfl, hx⟩ := hi
 have na : 0 ≤ a := by rw [e1]; unfold many; omega
 have nb : 0 ≤ b := by rw [e2]; unfold many; omega
 have nc : 0 ≤ c := by rw [e3]; unfold many; omega
 have nm : 0 ≤ m := by rw [e4]; unfold many; omega
 simp only [List.length_map] at al
 refine And.intro (fun his => ?_) fun his => ?_
 ·obtain ⟨s, hs⟩ := Sx.get_at (T := S) (i := i) i0 his
  have e := toNat_succ i0
  have t1 : many isStay (S.take (i + 1).toNat) = a + if isStay s = true then 1 else 0 := by rw [e, take_succ_at hs, many_snoc, e1]
  have t2 : many isBind (S.take (i + 1).toNat) = b + if isBind s = true then 1 else 0 := by rw [e, take_succ_at hs, many_snoc, e2]
  have t3 : many isElse (S.take (i + 1).toNat) = c + if isElse s = true then 1 else 0 := by rw [e, take_succ_at hs, many_snoc, e3]
  have t4 : many isMove (S.take (i + 1).toNat) = m + if isMove s = true then 1 else 0 := by rw [e, take_succ_at hs, many_snoc, e4]
  have ex : (aheadF 0 S).take (i + 1).toNat = x ++ [nxt (i + 1) (S.drop (i + 1).toNat)] := by
   have := ahead_get S 0 i.toNat (by omega)
   rw [e, take_succ_at this, ← hx]
   congr 3
   omega
  have mk : ∀ a' b' c' m' n : Int, a' = many isStay (S.take (i + 1).toNat) → b' = many isBind (S.take (i + 1).toNat) → c' = many isElse (S.take (i + 1).toNat) → m' = many isMove (S.take (i + 1).toNat) → n = nxt (i + 1) (S.drop (i + 1).toNat) →
    w0Inv [.lst (S.map Stp.row)] [.int (i + 1), .int a', .int b', .int c', .int m', .lst ((x ++ [n]).map row)] := by
   intro a' b' c' m' n h1 h2 h3 h4 h5
   simp only [w0Inv, stps_map, List.length_map]
   refine ⟨by omega, by omega, h1, h2, h3, h4, ?_, ?_, ?_, ?_, by rw [List.length_append]; simp; omega, _, rfl, by rw [ex, h5]⟩
   ·rw [h1, t1]; split <;> omega
   ·rw [h2, t2]; split <;> omega
   ·rw [h3, t3]; split <;> omega
   ·rw [h4, t4]; split <;> omega
  have mu : ∀ p q : List Dat, w0Mu [.lst (S.map Stp.row)] (.int (i + 1) :: p) < w0Mu [.lst (S.map Stp.row)] (.int i :: q) := fun p q => by
   simp only [w0Mu, List.length_map]; omega
  have w3s : w3Inv [.lst (S.map Stp.row), .int i] [.int ((S.length : Int) + -1), .int (-1)] := w3_of (by omega) (by omega) (by
   rw [List.drop_of_length_le (by omega)]; rfl)
  have w3e : ∀ k n : Int, w3Inv [.lst (S.map Stp.row), .int i] [.int k, .int n] → ¬ i < k → n = nxt (i + 1) (S.drop (i + 1).toNat) := fun k n h hk => by
   simp only [w3Inv, stps_map, List.length_map] at h
   obtain ⟨h1, _, h3⟩ := h
   have : k = i := by omega
   rw [h3, this]
  have w3i : ∀ k n : Int, w3Inv [.lst (S.map Stp.row), .int i] [.int k, .int n] → i < k → vcPof0 (S.map Stp.row) i k n := fun k n h hk => vcPof0_ok lS' i0 h hk
  have fin : ∀ a' b' c' m' k n : Int, a' = many isStay (S.take (i + 1).toNat) → b' = many isBind (S.take (i + 1).toNat) → c' = many isElse (S.take (i + 1).toNat) → m' = many isMove (S.take (i + 1).toNat) → w3Inv [.lst (S.map Stp.row), .int i] [.int k, .int n] → ¬ i < k →
    w0Inv [.lst (S.map Stp.row)] [.int (i + 1), .int a', .int b', .int c', .int m', .lst ((x ++ [n]).map row)] := fun a' b' c' m' k n h1 h2 h3 h4 h5 h6 => mk a' b' c' m' n h1 h2 h3 h4 (w3e k n h5 h6)
  have y1 : s.w = 1 → isStay s = true ∧ isBind s = false ∧ isElse s = false := fun h => by unfold isStay isBind isElse; simp [h]
  have y2 : s.w = 2 → isStay s = false ∧ isBind s = true ∧ isElse s = false := fun h => by unfold isStay isBind isElse; simp [h]
  have y3 : ¬ s.w = 1 → ¬ s.w = 2 → isStay s = false ∧ isBind s = false ∧ isElse s = true := fun h1 h2 => by unfold isStay isBind isElse; simp [h1, h2]
  simp only [cellAt_map hs, st0, st2, toInt_int, toBool_bool, map_app_row, Int.lt_irrefl, not_false_eq_true, true_and, true_implies]
  refine And.intro (by omega) fun _ => And.intro his fun _ => And.intro (fun hw => ?_) fun hw => ?_
  ·obtain ⟨q1, q2, q3⟩ := y1 hw
   rw [q1, if_pos rfl] at t1
   rw [q2, if_neg (by simp)] at t2
   rw [q3, if_neg (by simp)] at t3
   refine And.intro (by omega) fun _ => And.intro (fun hm => ?_) fun hm => ?_
   ·rw [show isMove s = true from hm, if_pos rfl] at t4
    refine And.intro (by omega) fun _ => And.intro (by omega) fun _ => And.intro w3s fun _ k n hkn => And.intro (w3i k n hkn) fun hk => ?_
    have inv := fin (a + 1) b c (m + 1) k n (by omega) (by omega) (by omega) (by omega) hkn hk
    repeat' first
     | with_reducible exact inv
     | with_reducible exact mu _ _
     | (with_reducible refine And.intro ?_ ?_)
     | intro _
     | (simp only [List.length_map]; omega)
     | omega
   ·rw [show isMove s = false by unfold isMove; simpa using hm, if_neg (by simp)] at t4
    refine And.intro (by omega) fun _ => And.intro w3s fun _ k n hkn => And.intro (w3i k n hkn) fun hk => ?_
    have inv := fin (a + 1) b c m k n (by omega) (by omega) (by omega) (by omega) hkn hk
    repeat' first
     | with_reducible exact inv
     | with_reducible exact mu _ _
     | (with_reducible refine And.intro ?_ ?_)
     | intro _
     | (simp only [List.length_map]; omega)
     | omega
  ·refine And.intro (fun hw2 => ?_) fun hw2 => ?_
   ·obtain ⟨q1, q2, q3⟩ := y2 hw2
    rw [q1, if_neg (by simp)] at t1
    rw [q2, if_pos rfl] at t2
    rw [q3, if_neg (by simp)] at t3
    refine And.intro (by omega) fun _ => And.intro (fun hm => ?_) fun hm => ?_
    ·rw [show isMove s = true from hm, if_pos rfl] at t4
     refine And.intro (by omega) fun _ => And.intro (by omega) fun _ => And.intro w3s fun _ k n hkn => And.intro (w3i k n hkn) fun hk => ?_
     have inv := fin a (b + 1) c (m + 1) k n (by omega) (by omega) (by omega) (by omega) hkn hk
     repeat' first
      | with_reducible exact inv
      | with_reducible exact mu _ _
      | (with_reducible refine And.intro ?_ ?_)
      | intro _
      | (simp only [List.length_map]; omega)
      | omega
    ·rw [show isMove s = false by unfold isMove; simpa using hm, if_neg (by simp)] at t4
     refine And.intro (by omega) fun _ => And.intro w3s fun _ k n hkn => And.intro (w3i k n hkn) fun hk => ?_
     have inv := fin a (b + 1) c m k n (by omega) (by omega) (by omega) (by omega) hkn hk
     repeat' first
      | with_reducible exact inv
      | with_reducible exact mu _ _
      | (with_reducible refine And.intro ?_ ?_)
      | intro _
      | (simp only [List.length_map]; omega)
      | omega
   ·obtain ⟨q1, q2, q3⟩ := y3 hw hw2
    rw [q1, if_neg (by simp)] at t1
    rw [q2, if_neg (by simp)] at t2
    rw [q3, if_pos rfl] at t3
    refine And.intro (by omega) fun _ => And.intro (fun hm => ?_) fun hm => ?_
    ·rw [show isMove s = true from hm, if_pos rfl] at t4
     refine And.intro (by omega) fun _ => And.intro (by omega) fun _ => And.intro w3s fun _ k n hkn => And.intro (w3i k n hkn) fun hk => ?_
     have inv := fin a b (c + 1) (m + 1) k n (by omega) (by omega) (by omega) (by omega) hkn hk
     repeat' first
      | with_reducible exact inv
      | with_reducible exact mu _ _
      | (with_reducible refine And.intro ?_ ?_)
      | intro _
      | (simp only [List.length_map]; omega)
      | omega
    ·rw [show isMove s = false by unfold isMove; simpa using hm, if_neg (by simp)] at t4
     refine And.intro (by omega) fun _ => And.intro w3s fun _ k n hkn => And.intro (w3i k n hkn) fun hk => ?_
     have inv := fin a b (c + 1) m k n (by omega) (by omega) (by omega) (by omega) hkn hk
     repeat' first
      | with_reducible exact inv
      | with_reducible exact mu _ _
      | (with_reducible refine And.intro ?_ ?_)
      | intro _
      | (simp only [List.length_map]; omega)
      | omega
 ·rw [List.take_of_length_le (by omega)] at e1 e2 e3 e4
  rw [List.take_of_length_le (by rw [aheadF_len]; omega)] at hx
  subst hx
  refine And.intro ?_ fun _ j n hj => ?_
  ·simp only [w5Inv, lvs_map, List.length_map]
   exact ⟨by omega, by omega, rfl, by omega⟩
  simp only [w5Inv, lvs_map, List.length_map] at hj
  obtain ⟨j0, j1, hn, nj⟩ := hj
  have nn : 0 ≤ n := by rw [hn]; unfold drops; omega
  refine And.intro (fun hjs => ?_) fun hjs => ?_
  ·obtain ⟨y, hy⟩ := Sx.get_at (T := L) (i := j) j0 hjs
   have e := toNat_succ j0
   have hst : drops (L.take (j + 1).toNat) = n + if y.d = true then 1 else 0 := by rw [e, take_succ_at hy, drops_snoc, hn]
   have mk : ∀ n', n' = drops (L.take (j + 1).toNat) → n' ≤ j + 1 → w5Inv [.lst (L.map Lv.row)] [.int (j + 1), .int n'] := fun n' h h' => by
    simp only [w5Inv, lvs_map, List.length_map]
    exact ⟨by omega, by omega, h, h'⟩
   have mu : ∀ p q : List Dat, w5Mu [.lst (L.map Lv.row)] (.int (j + 1) :: p) < w5Mu [.lst (L.map Lv.row)] (.int j :: q) := fun p q => by
    simp only [w5Mu, w0Mu, List.length_map]; omega
   simp only [cellAt_map hy, lv1, toBool_bool]
   refine And.intro (by omega) fun _ => And.intro hjs fun _ => And.intro (fun h => ?_) fun h => ?_
   ·have inv := mk (n + 1) (by rw [hst, if_pos h]) (by omega)
    repeat' first
     | with_reducible exact inv
     | with_reducible exact mu _ _
     | (with_reducible refine And.intro ?_ ?_)
     | intro _
     | omega
   ·have inv := mk n (by rw [hst, if_neg h, Int.add_zero]) (by omega)
    repeat' first
     | with_reducible exact inv
     | with_reducible exact mu _ _
     | (with_reducible refine And.intro ?_ ?_)
     | intro _
     | omega
  ·rw [List.take_of_length_le (by omega)] at hn
   have hme := many_else okk
   have hin : intsPre [.lst ((aheadF 0 S).map row), .lst ((aheadF 0 S).map row)] := ⟨⟨_, rfl, by rw [aheadF_len]; omega⟩, ⟨_, rfl, by rw [aheadF_len]; omega⟩⟩
   simp only [hah, aheadRel, stps_map, forall_eq, hin, intsRel, nums_map, if_true, true_and, true_implies, need_twice, need_known, implies_true, and_true, not_true_eq_false, false_implies, Int.lt_irrefl, not_false_eq_true, List.length_map]
   have h1 : nstaysPre [.lst (L.map Lv.row), .lst (S.map Stp.row)] := pS
   have h2 : nbindsPre [.lst (L.map Lv.row), .lst (S.map Stp.row)] := pS
   have h3 : nmakesPre [.lst (L.map Lv.row), .lst (S.map Stp.row)] := pS
   have h4 : ndropsPre [.lst (L.map Lv.row), .lst (S.map Stp.row)] := pL
   have h5 : nmovesPre [.lst (L.map Lv.row), .lst (S.map Stp.row)] := pS
   simp only [h1, h2, h3, h4, h5, nstaysRel, nbindsRel, nmakesRel, ndropsRel, nmovesRel, lvs_map, stps_map, forall_eq, ← e1, ← e2, ← hme, ← e3, ← e4, ← hn, true_and, true_implies, need_twice, need_known, implies_true, and_true, not_true_eq_false, false_implies, livesPre, livesRel, yesRel, pofRel, trueR]
   intro x33 hx
   exact hx
end Go.C36
