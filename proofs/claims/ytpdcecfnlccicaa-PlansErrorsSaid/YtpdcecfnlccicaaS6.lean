/- Chapter 36, PlansErrors: the condition holds.
  Conditions: none. -/
import Derived.Test.YtpdcecfnlccicaaS5
import Derived.Test.YtpdcecfnlccicaaS3
import Derived.Test.YtpdcecfnlccicaaQ8
set_option linter.unusedVariables false
set_option linter.unusedSimpArgs false
namespace Go.C36
open Go Go.Xe Go.Sx
def vcTail (x0 : Sx.Rows) (x1 : Sx.Rows) (x2 : Sx.Rows) (x3 : Sx.Rows) (x4 : Sx.Rows) (x5 : Sx.Rows) : Prop :=
 Nd (ty0Inv [] [.int (-1)]) (
 ∀ x14 : Int,
(ty0Inv [] [.int x14]) →
(((x14 < 10) →
 Nd (pcheckPre [.lst x0, .int x14]) (
 ∀ x15 : Int,
(pcheckRel [.lst x0, .int x14] [.int x15]) →
 Nd (rcheckPre [.lst x0, .int x14]) (
 ∀ x16 : Int,
(rcheckRel [.lst x0, .int x14] [.int x16]) →
(((x15 = x16) →
 Nd ((¬ ((x14 + 1) < (-9223372036854775808))) ∧ ((x14 + 1) < 9223372036854775808)) (
 Nd (ty0Inv [] [.int (x14 + 1)]) (
 Nd (ty0Mu [] [.int (x14 + 1)] < ty0Mu [] [.int x14]) (
 True)))) ∧ (¬ (x15 = x16) →
 Nd (perrRel [.lst x0, .lst x1, .lst x2, .lst x3, .lst x4, .lst x5] [.bool false]) (
 True)))))) ∧ (¬ (x14 < 10) →
 Nd (ot2Inv [.lst x5] [.int 0, .int 0]) (
 ∀ x15 : Int,
 ∀ x16 : Int,
(ot2Inv [.lst x5] [.int x15, .int x16]) →
(((x15 < (x5.length : Int)) →
 Nd (¬ (x15 < 0)) (
 Nd (x15 < (x5.length : Int)) (
((((Sx.cellAt x5 x15 0).toInt < 1) →
 Nd ((Sx.cellAt x5 x15 0).toInt < 1) (
 Nd ((Sx.cellAt x5 x15 0).toInt < 1) (
 Nd ((Sx.cellAt x5 x15 0).toInt < 1) (
 Nd ((Sx.cellAt x5 x15 0).toInt < 1) (
 Nd ((Sx.cellAt x5 x15 0).toInt < 1) (
 Nd ((Sx.cellAt x5 x15 0).toInt < 1) (
 Nd ((Sx.cellAt x5 x15 0).toInt < 1) (
 Nd ((¬ ((x16 + 1) < (-9223372036854775808))) ∧ ((x16 + 1) < 9223372036854775808)) (
 Nd ((¬ ((x15 + 1) < (-9223372036854775808))) ∧ ((x15 + 1) < 9223372036854775808)) (
 Nd (ot2Inv [.lst x5] [.int (x15 + 1), .int (x16 + 1)]) (
 Nd (ot2Mu [.lst x5] [.int (x15 + 1), .int (x16 + 1)] < ot2Mu [.lst x5] [.int x15, .int x16]) (
 True)))))))))))) ∧ (¬ ((Sx.cellAt x5 x15 0).toInt < 1) →
 Nd (¬ ((Sx.cellAt x5 x15 0).toInt < 1)) (
 Nd (¬ ((Sx.cellAt x5 x15 0).toInt < 1)) (
 Nd (¬ ((Sx.cellAt x5 x15 0).toInt < 1)) (
 Nd (¬ (x15 < 0)) (
 Nd (x15 < (x5.length : Int)) (
 Nd (¬ ((Sx.cellAt x5 x15 0).toInt < 1)) (
 Nd (¬ ((Sx.cellAt x5 x15 0).toInt < 1)) (
 Nd (¬ ((Sx.cellAt x5 x15 0).toInt < 1)) (
 Nd (¬ ((Sx.cellAt x5 x15 0).toInt < 1)) (
(((3 < (Sx.cellAt x5 x15 0).toInt) →
 Nd ((¬ ((x16 + 1) < (-9223372036854775808))) ∧ ((x16 + 1) < 9223372036854775808)) (
 Nd ((¬ ((x15 + 1) < (-9223372036854775808))) ∧ ((x15 + 1) < 9223372036854775808)) (
 Nd (ot2Inv [.lst x5] [.int (x15 + 1), .int (x16 + 1)]) (
 Nd (ot2Mu [.lst x5] [.int (x15 + 1), .int (x16 + 1)] < ot2Mu [.lst x5] [.int x15, .int x16]) (
 True))))) ∧ (¬ (3 < (Sx.cellAt x5 x15 0).toInt) →
 Nd ((¬ ((x15 + 1) < (-9223372036854775808))) ∧ ((x15 + 1) < 9223372036854775808)) (
 Nd (ot2Inv [.lst x5] [.int (x15 + 1), .int x16]) (
 Nd (ot2Mu [.lst x5] [.int (x15 + 1), .int x16] < ot2Mu [.lst x5] [.int x15, .int x16]) (
 True))))))))))))))))))) ∧ (¬ (x15 < (x5.length : Int)) →
 Nd (nstaysPre [.lst x4, .lst x5]) (
 ∀ x17 : Int,
(nstaysRel [.lst x4, .lst x5] [.int x17]) →
 Nd (nbindsPre [.lst x4, .lst x5]) (
 ∀ x18 : Int,
(nbindsRel [.lst x4, .lst x5] [.int x18]) →
 Nd ((¬ ((x17 + x18) < (-9223372036854775808))) ∧ ((x17 + x18) < 9223372036854775808)) (
 Nd (nmakesPre [.lst x4, .lst x5]) (
 ∀ x19 : Int,
(nmakesRel [.lst x4, .lst x5] [.int x19]) →
 Nd ((¬ (((x17 + x18) + x19) < (-9223372036854775808))) ∧ (((x17 + x18) + x19) < 9223372036854775808)) (
 Nd ((¬ ((((x17 + x18) + x19) + x16) < (-9223372036854775808))) ∧ ((((x17 + x18) + x19) + x16) < 9223372036854775808)) (
((((((x17 + x18) + x19) + x16) = (x5.length : Int)) →
 Nd ((((x17 + x18) + x19) + x16) = (x5.length : Int)) (
 Nd (nmovesPre [.lst x4, .lst x5]) (
 ∀ x20 : Int,
(nmovesRel [.lst x4, .lst x5] [.int x20]) →
 Nd ((((x17 + x18) + x19) + x16) = (x5.length : Int)) (
 Nd ((((x17 + x18) + x19) + x16) = (x5.length : Int)) (
 Nd ((((x17 + x18) + x19) + x16) = (x5.length : Int)) (
 Nd ((((x17 + x18) + x19) + x16) = (x5.length : Int)) (
 Nd ((((x17 + x18) + x19) + x16) = (x5.length : Int)) (
((((x5.length : Int) < x20) →
 Nd ((x5.length : Int) < x20) (
 Nd ((x5.length : Int) < x20) (
 Nd ((x5.length : Int) < x20) (
 Nd ((x5.length : Int) < x20) (
 Nd ((x5.length : Int) < x20) (
 Nd ((x5.length : Int) < x20) (
 Nd (perrRel [.lst x0, .lst x1, .lst x2, .lst x3, .lst x4, .lst x5] [.bool false]) (
 True)))))))) ∧ (¬ ((x5.length : Int) < x20) →
 Nd (¬ ((x5.length : Int) < x20)) (
 Nd (ndropsPre [.lst x4, .lst x5]) (
 ∀ x21 : Int,
(ndropsRel [.lst x4, .lst x5] [.int x21]) →
 Nd (¬ ((x5.length : Int) < x20)) (
 Nd (¬ ((x5.length : Int) < x20)) (
 Nd (¬ ((x5.length : Int) < x20)) (
 Nd (¬ ((x5.length : Int) < x20)) (
 Nd (¬ ((x5.length : Int) < x20)) (
((((x4.length : Int) < x21) →
 Nd ((x4.length : Int) < x21) (
 Nd ((x4.length : Int) < x21) (
 Nd ((x4.length : Int) < x21) (
 Nd ((x4.length : Int) < x21) (
 Nd ((x4.length : Int) < x21) (
 Nd ((x4.length : Int) < x21) (
 Nd ((x4.length : Int) < x21) (
 Nd (perrRel [.lst x0, .lst x1, .lst x2, .lst x3, .lst x4, .lst x5] [.bool false]) (
 True))))))))) ∧ (¬ ((x4.length : Int) < x21) →
 Nd (¬ ((x4.length : Int) < x21)) (
 Nd (aheadPre [.lst x4, .lst x5]) (
 ∀ x22 : Sx.Rows,
(aheadRel [.lst x4, .lst x5] [.lst x22]) →
 Nd (¬ ((x4.length : Int) < x21)) (
 Nd (¬ ((x4.length : Int) < x21)) (
 Nd (¬ ((x4.length : Int) < x21)) (
 Nd (¬ ((x4.length : Int) < x21)) (
 Nd (¬ ((x4.length : Int) < x21)) (
 Nd (¬ ((x4.length : Int) < x21)) (
((((x22.length : Int) = (x5.length : Int)) →
 Nd (livesPre []) (
 ∀ x23 : Bool,
(livesRel [] [.bool x23]) →
 Nd ((x22.length : Int) = (x5.length : Int)) (
 Nd (perrRel [.lst x0, .lst x1, .lst x2, .lst x3, .lst x4, .lst x5] [.bool x23]) (
 True)))) ∧ (¬ ((x22.length : Int) = (x5.length : Int)) →
 Nd (¬ ((x22.length : Int) = (x5.length : Int))) (
 Nd (perrRel [.lst x0, .lst x1, .lst x2, .lst x3, .lst x4, .lst x5] [.bool false]) (
 True))))))))))))))))))))))))))))))) ∧ (¬ ((((x17 + x18) + x19) + x16) = (x5.length : Int)) →
 Nd (¬ ((((x17 + x18) + x19) + x16) = (x5.length : Int))) (
 Nd (¬ ((((x17 + x18) + x19) + x16) = (x5.length : Int))) (
 Nd (¬ ((((x17 + x18) + x19) + x16) = (x5.length : Int))) (
 Nd (¬ ((((x17 + x18) + x19) + x16) = (x5.length : Int))) (
 Nd (¬ ((((x17 + x18) + x19) + x16) = (x5.length : Int))) (
 Nd (¬ ((((x17 + x18) + x19) + x16) = (x5.length : Int))) (
 Nd (perrRel [.lst x0, .lst x1, .lst x2, .lst x3, .lst x4, .lst x5] [.bool false]) (
 True)))))))))))))))))))))
theorem many_one {l : List Stp} : many isStay l + many isBind l + many isMake l + many isOut l = l.length := by
 induction l with
 | nil => rfl
 | cons s l ih =>
  unfold many at *
  rw [List.countP_cons, List.countP_cons, List.countP_cons, List.countP_cons, List.length_cons]
  have : (if isStay s = true then 1 else 0) + (if isBind s = true then 1 else 0) + (if isMake s = true then 1 else 0) + (if isOut s = true then 1 else 0) = (1 : Nat) := by
   unfold isStay isBind isMake isOut
   by_cases h1 : s.w = 1
   ·simp [h1]
   ·by_cases h2 : s.w = 2
    ·simp [h2]
    ·by_cases h3 : s.w = 3
     ·simp [h3]
     ·have : s.w < 1 ∨ 3 < s.w := by omega
      simp [h1, h2, h3, this]
  omega
theorem many_le (f : Stp → Bool) (l : List Stp) : 0 ≤ many f l ∧ many f l ≤ l.length := by
 unfold many
 have := List.countP_le_length (p := f) (l := l)
 omega
theorem drops_le (l : List Lv) : drops l ≤ l.length := by
 unfold drops
 have := List.countP_le_length (p := fun x : Lv => x.d) (l := l)
 omega
theorem vcTail_ok {o : List Rw} {l : List Lv} {s : List Stp} {N P B : Sx.Rows} (ho : o.length ≤ 30) (hr : ∀ r ∈ o, r.Ok) (hl : l.length ≤ 20) (hs : s.length ≤ 20) : vcTail (o.map Rw.row) N P B (l.map Lv.row) (s.map Stp.row) := by
 have c1 : ∀ n : Int, -1 ≤ n → n ≤ 10 → pcheckPre [.lst (o.map Rw.row), .int n] := fun n h1 h2 => ⟨⟨o, rfl, by omega, hr⟩, by omega, by omega⟩
 have pS : planPre [.lst (l.map Lv.row), .lst (s.map Stp.row)] := ⟨s, rfl, by omega⟩
 have h1 : nstaysPre [.lst (l.map Lv.row), .lst (s.map Stp.row)] := pS
 have h2 : nbindsPre [.lst (l.map Lv.row), .lst (s.map Stp.row)] := pS
 have h3 : nmakesPre [.lst (l.map Lv.row), .lst (s.map Stp.row)] := pS
 have h4 : ndropsPre [.lst (l.map Lv.row), .lst (s.map Stp.row)] := ⟨l, rfl, by omega⟩
 have h5 : nmovesPre [.lst (l.map Lv.row), .lst (s.map Stp.row)] := pS
 have h6 : aheadPre [.lst (l.map Lv.row), .lst (s.map Stp.row)] := pS
 have m1 := many_le isStay s
 have m2 := many_le isBind s
 have m3 := many_le isMake s
 have m4 := many_le isMove s
 have m5 := drops_le l
 have mo := many_one (l := s)
 unfold vcTail Nd
 simp only [ty0Inv, ty0Mu, List.length_map, need_twice, need_known, implies_true, and_true, true_and, true_implies]
 refine And.intro ⟨by omega, by omega⟩ fun _ k ⟨k0, k1⟩ => And.intro (fun hk => ?_) fun hk => ?_
 ·have c3 : rcheckPre [.lst (o.map Rw.row), .int k] := c1 k k0 k1
  simp only [c1 k k0 k1, c3, pcheckRel, rcheckRel, forall_eq, rws_map, true_and, true_implies, not_true_eq_false, false_implies, and_true]
  repeat' first
   | (with_reducible refine And.intro ?_ ?_)
   | intro _
   | omega
 ·simp only [ot2Inv, stps_map, List.length_map]
  refine And.intro ⟨by omega, by omega, rfl, by omega⟩ fun _ i n ⟨i0, i1, hn, nle⟩ => And.intro (fun hi => ?_) fun hi => ?_
  ·obtain ⟨y, hy⟩ := Sx.get_at (T := s) (i := i) i0 hi
   have e := toNat_succ i0
   have hst : many isOut (s.take (i + 1).toNat) = n + if isOut y = true then 1 else 0 := by rw [e, take_succ_at hy, many_snoc, hn]
   have n0 : 0 ≤ n := by rw [hn]; exact (many_le _ _).1
   have mu : ∀ p q : List Dat, ot2Mu [.lst (s.map Stp.row)] (.int (i + 1) :: p) < ot2Mu [.lst (s.map Stp.row)] (.int i :: q) := fun p q => by
    simp only [ot2Mu, w0Mu, List.length_map]; omega
   simp only [cellAt_map hy, st0, toInt_int]
   have q1 : (y.w < 1 ∨ 3 < y.w) → n + 1 = many isOut (s.take (i + 1).toNat) := fun h => by rw [hst, if_pos (show isOut y = true from decide_eq_true h)]
   have q2 : ¬ (y.w < 1 ∨ 3 < y.w) → n = many isOut (s.take (i + 1).toNat) := fun h => by rw [hst, if_neg (show ¬ isOut y = true from fun c => h (of_decide_eq_true c)), Int.add_zero]
   repeat (refine And.intro (by omega) fun _ => ?_)
   refine And.intro (fun h => ?_) fun h => ?_
   ·have q1 := q1 (.inl h)
    clear q2
    repeat' first
     | exact q1
     | with_reducible exact mu _ _
     | exact h
     | (with_reducible refine And.intro ?_ ?_)
     | intro _
     | omega
   ·repeat (refine And.intro (by first | exact h | omega) fun _ => ?_)
    refine And.intro (fun h' => ?_) fun h' => ?_
    ·have q1 := q1 (.inr h')
     clear q2
     repeat' first
      | exact q1
      | with_reducible exact mu _ _
      | (with_reducible refine And.intro ?_ ?_)
      | intro _
      | omega
    ·have q2 := q2 (by omega)
     clear q1
     repeat' first
      | exact q2
      | with_reducible exact mu _ _
      | (with_reducible refine And.intro ?_ ?_)
      | intro _
      | omega
  ·rw [List.take_of_length_le (by omega)] at hn
   subst hn
   have z1 : ¬ ((s.length : Int) < many isMove s) := by omega
   have z2 : ¬ ((l.length : Int) < drops l) := by omega
   have z3 : ((aheadF 0 s).length : Int) = s.length := by rw [aheadF_len]
   have z4 := many_le isOut s
   simp only [h1, h2, h3, h4, h5, h6, nstaysRel, nbindsRel, nmakesRel, ndropsRel, nmovesRel, aheadRel, stps_map, lvs_map, forall_eq, mo, z1, z2, z3, List.length_map, true_and, true_implies, need_twice, need_known, implies_true, and_true, not_true_eq_false, false_implies, not_false_eq_true, livesPre, livesRel, yesRel, perrRel, trueR]
   repeat' first
    | (with_reducible refine And.intro ?_ ?_)
    | intro _
    | omega
    | assumption
theorem chkP_nn (n : Int) (l : List Rw) : 0 ≤ chkP n l := by
 have : ∀ (l : List Rw) (s : List Int), 0 ≤ chkR n s l := by
  intro l
  induction l with
  | nil => intro s; exact Int.le_refl 0
  | cons x l ih =>
   intro s
   rw [chkR_cons]
   split
   ·omega
   ·split
    ·omega
    ·split
     ·omega
     ·exact ih _
 unfold chkP
 split
 ·omega
 ·exact this _ _
theorem ofErr_nn (o n : List Rw) (p b : List Int) : 0 ≤ ofErr o n p b := by
 unfold ofErr
 split
 ·split
  ·exact chkP_nn _ _
  ·exact chkP_nn _ _
 ·omega
theorem ofErr_zero {o n : List Rw} {p b : List Int} (h : ofErr o n p b = 0) : rightP o n p b := by
 unfold ofErr at h
 split at h
 ·split at h
  ·exact ⟨by assumption, by assumption, h⟩
  ·rename_i h1; exact absurd h h1
 ·omega
theorem vcPerr_ok : vcPerr := by
 unfold vcPerr Nd
 rintro _ _ _ _ _ _ ⟨⟨o, rfl, ho⟩, ⟨n, rfl, hn⟩, ⟨p, rfl⟩, ⟨b, rfl, hb⟩, ⟨l, rfl⟩, s, rfl⟩
 have lv : livesPre [] := rfl
 have tl : o.length ≤ 30 → l.length ≤ 20 → s.length ≤ 20 → vcTail (o.map Rw.row) (n.map Rw.row) (p.map row) (b.map row) (l.map Lv.row) (s.map Stp.row) := fun h1 h2 h3 => vcTail_ok h1 ho h2 h3
 unfold vcTail Nd at tl
 have out : ∀ x : Bool, livesRel [] [.bool x] → perrRel [.lst (o.map Rw.row), .lst (n.map Rw.row), .lst (p.map row), .lst (b.map row), .lst (l.map Lv.row), .lst (s.map Stp.row)] [.bool x] := fun x h => h
 refine And.intro (fun h => ?_) fun h1 => ?_
 ·repeat (refine And.intro (by first | exact h | exact lv) fun _ => ?_)
  exact fun x hx => ⟨out x hx, fun _ => trivial⟩
 repeat (refine And.intro h1 fun _ => ?_)
 refine And.intro (fun h => ?_) fun h2 => ?_
 ·repeat (refine And.intro (by first | exact h | exact lv) fun _ => ?_)
  exact fun x hx => ⟨out x hx, fun _ => trivial⟩
 repeat (refine And.intro h2 fun _ => ?_)
 refine And.intro (fun h => ?_) fun h3 => ?_
 ·repeat (refine And.intro (by first | exact h | exact lv) fun _ => ?_)
  exact fun x hx => ⟨out x hx, fun _ => trivial⟩
 repeat (refine And.intro h3 fun _ => ?_)
 refine And.intro (fun h => ?_) fun h4 => ?_
 ·repeat (refine And.intro (by first | exact h | exact lv) fun _ => ?_)
  exact fun x hx => ⟨out x hx, fun _ => trivial⟩
 repeat (refine And.intro h4 fun _ => ?_)
 refine And.intro (fun h => ?_) fun h5 => ?_
 ·repeat (refine And.intro (by first | exact h | exact lv) fun _ => ?_)
  exact fun x hx => ⟨out x hx, fun _ => trivial⟩
 repeat (refine And.intro h5 fun _ => ?_)
 refine And.intro (fun h => ?_) fun h6 => ?_
 ·repeat (refine And.intro (by first | exact h | exact lv) fun _ => ?_)
  exact fun x hx => ⟨out x hx, fun _ => trivial⟩
 simp only [List.length_map] at h1 h2 h3 h4 h5 h6
 have tl := tl (by omega) (by omega) (by omega)
 have rO : isR (o.map Rw.row) := ⟨o, rfl, by omega, ho⟩
 have rN : isR (n.map Rw.row) := ⟨n, rfl, by omega, hn⟩
 have nP : isN (p.map row) := ⟨p, rfl, by omega⟩
 have nB : isN (b.map row) := ⟨b, rfl, by omega⟩
 have e1 : rerrPre [.lst (o.map Rw.row), .lst (n.map Rw.row), .lst (p.map row), .lst (b.map row)] := ⟨rO, rN, nP, nB⟩
 have e2 : ofPre [.lst (o.map Rw.row), .lst (n.map Rw.row), .lst (p.map row), .lst (b.map row)] := ⟨rO, rN, nP, nB, by rw [nums_map]; exact hb⟩
 refine And.intro e1 fun _ x6 hx6 => And.intro e2 fun _ x7 x8 x9 hx9 => ?_
 simp only [rerrRel, rws_map, nums_map] at hx6
 simp only [ofRel, rws_map, nums_map] at hx9
 obtain ⟨h9, h7, h8⟩ := hx9
 have nn := ofErr_nn o n p b
 have hz := ofErr_zero (o := o) (n := n) (p := p) (b := b)
 rw [← hx6] at h9 nn hz
 subst h9
 refine And.intro (fun h => ?_) fun h => absurd rfl h
 repeat (refine And.intro (by rfl) fun _ => ?_)
 refine And.intro (fun hp => ?_) fun hp => ?_
 ·have hne : ¬ x9 = 0 := by omega
  rw [if_neg hne] at h7 h8
  subst h7
  subst h8
  have pe : peqPre [.lst (([] : List Lv).map Lv.row), .lst (([] : List Stp).map Stp.row), .lst ([] : Sx.Rows), .lst ([] : Sx.Rows)] := ⟨⟨[], rfl, by simp⟩, ⟨[], rfl, by simp⟩, ⟨[], rfl, by simp⟩, ⟨[], rfl, by simp⟩⟩
  repeat (refine And.intro (by first | exact hp | exact pe) fun _ => ?_)
  intro x10 h10
  have h10 : x10 = 1 := h10
  subst h10
  repeat (refine And.intro (by first | exact hp | rfl) fun _ => ?_)
  refine And.intro (fun h => absurd h (by omega)) fun hq => ?_
  repeat (refine And.intro (by exact hq) fun _ => ?_)
  refine And.intro (fun h => absurd h hne) fun h => ?_
  repeat (refine And.intro (by first | exact hne | exact hp | exact hq) fun _ => ?_)
  exact tl
 ·repeat (refine And.intro (by first | exact hp | rfl) fun _ => ?_)
  have h0 : x9 = 0 := by omega
  refine And.intro (fun h => ?_) fun h => absurd h0 h
  obtain ⟨r1, r2, r3⟩ := hz h0
  rw [if_pos h0] at h7 h8
  subst h7
  subst h8
  have nd1 := (chkP_ok r2).2.2.2
  have nd2 := (chkP_ok r3).2.2.2
  have rp : rofPre [.lst (o.map Rw.row), .lst (n.map Rw.row), .lst (p.map row), .lst (b.map row)] := ⟨rO, rN, nP, nB, by rw [nums_map]; exact hb, by simp only [rws_map, nums_map]; exact ⟨r1, r2, r3⟩⟩
  have hk := kept_same (P := p) (B := b) nd1 nd2
  have hS : (stOut o n p b).st.map (keepS (rkept (stOut o n p b).bh)) = ofSteps o n p b := by unfold ofSteps; rw [hk]
  have ll := ofLeaves_len (O := o) (N := n) (P := p) (B := b)
  have ls : (ofSteps o n p b).length = n.length := ofSteps_len
  have pe : peqPre [.lst ((ofLeaves o n p b).map Lv.row), .lst ((ofSteps o n p b).map Stp.row), .lst ((ofLeaves o n p b).map Lv.row), .lst ((ofSteps o n p b).map Stp.row)] := ⟨⟨_, rfl, by omega⟩, ⟨_, rfl, by omega⟩, ⟨_, rfl, by omega⟩, ⟨_, rfl, by omega⟩⟩
  repeat (refine And.intro (by first | exact h0 | exact rp | exact hp) fun _ => ?_)
  intro x11 x12 hr
  simp only [rofRel, rws_map, nums_map, hS] at hr
  obtain ⟨rfl, rfl⟩ := hr
  repeat (refine And.intro (by first | exact h0 | exact pe | exact hp) fun _ => ?_)
  intro x13 h13
  have h13 : x13 = 1 := by
   simp only [peqRel, and_self, if_true] at h13
   exact h13
  subst h13
  repeat (refine And.intro (by first | exact h0 | exact hp | rfl) fun _ => ?_)
  refine And.intro (fun h => absurd h (by omega)) fun h => ?_
  exact tl
end Go.C36
