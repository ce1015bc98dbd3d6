/- Chapter 36: the reference's checks; taking and putting keys: the conditions hold.
  Conditions: none. -/
import Derived.Test.YtpdcecfnlccicaaQ7
set_option linter.unusedVariables false
set_option linter.unusedSimpArgs false
namespace Go.C36
open Go Go.Xe Go.Sx
theorem vcRcheck_ok : vcRcheck := by
 unfold vcRcheck Nd
 rintro _ n ⟨⟨l, rfl, hl, hr⟩, n0, n1⟩
 simp only [rcheckRel, pcheckRel, c0Inv, c0Mu, r0Mu, c2Inv, c2Mu, List.length_map, rws_map, need_twice, need_known, implies_true, and_true, true_and, true_implies]
 refine And.intro (fun h => ?_) fun h1 => ?_
 ·have e : (1 : Int) = chkP n l := by unfold chkP; rw [if_pos (.inl h)]
  repeat' first
   | exact h
   | exact e
   | (with_reducible refine And.intro ?_ ?_)
   | intro _
 ·repeat (refine And.intro h1 fun _ => ?_)
  refine And.intro (fun h => ?_) fun h2 => ?_
  ·unfold chkP; rw [if_pos (.inr h)]
  ·have e : chkP n l = chkR n [] l := by unfold chkP; rw [if_neg (by omega)]
   rw [e]
   refine And.intro (fun h => by omega) fun _ => And.intro ⟨by omega, by omega, rfl⟩ fun _ i ⟨i0, i1, hc⟩ => And.intro (fun hi => ?_) fun hi => ?_
   ·obtain ⟨x, hx⟩ := Sx.get_at (T := l) (i := i) i0 hi
    have hxr := hr x (List.mem_of_getElem? hx)
    obtain ⟨r1, r2, r3, r4⟩ := hxr
    have ei := toNat_succ i0
    rw [Sx.drop_at hx, chkR_cons] at hc
    simp only [cellAt_map hx, rw0, rw1, toInt_int]
    refine And.intro (by omega) fun _ => And.intro hi fun _ => And.intro (fun h0 => ?_) fun h0 => ?_
    ·rw [if_pos h0] at hc; exact hc
    ·rw [if_neg h0] at hc
     repeat (refine And.intro (by omega) fun _ => ?_)
     refine And.intro (fun ht => ?_) fun ht => ?_
     ·rw [if_neg (by omega)] at hc
      refine And.intro ⟨by omega, by omega, hi, fun y _ => by simp⟩ fun _ k ⟨k0, k1, _, hk⟩ => And.intro (fun hki => ?_) fun hki => ?_
      ·obtain ⟨y, hy⟩ := Sx.get_at (T := l) (i := k) k0 (by omega)
       have ek := toNat_succ k0
       have hk := hk x hx
       simp only [cellAt_map hy, rw0, toInt_int]
       repeat (refine And.intro (by omega) fun _ => ?_)
       refine And.intro (fun hyx => ?_) fun hyx => ?_
       ·rw [if_pos ?_] at hc
        ·exact hc
        ·refine List.mem_map.2 ⟨y, ?_, hyx⟩
         refine List.mem_of_getElem? (i := k.toNat) ?_
         rw [List.getElem?_take, if_pos (by omega)]; exact hy
       ·have q : ∀ z : Rw, l[i.toNat]? = some z → z.k ∉ (l.take (k + 1).toNat).map Rw.k := fun z hz => by
         rw [hx] at hz
         cases hz
         rw [ek, take_succ_at hy, List.map_append]
         simp only [List.mem_append, List.map_cons, List.map_nil, List.mem_singleton, not_or]
         exact ⟨hk, fun c => hyx c.symm⟩
        repeat' first
         | exact q
         | (with_reducible refine And.intro ?_ ?_)
         | intro _
         | omega
      ·have e1 : k = i := by omega
       subst e1
       rw [if_neg (hk x hx)] at hc
       have q : chkR n ((l.take (k + 1).toNat).map Rw.k) (l.drop (k + 1).toNat) = chkR n [] l := by rw [ei, take_succ_at hx, List.map_append]; exact hc
       repeat' first
        | exact q
        | (with_reducible refine And.intro ?_ ?_)
        | intro _
        | omega
     ·rw [if_pos (by omega)] at hc; exact hc
   ·rw [List.drop_of_length_le (by omega), chkR_nil] at hc; exact hc
theorem vcRerr_ok : vcRerr := by
 unfold vcRerr Nd
 rintro _ _ _ _ ⟨⟨o, rfl, ho, ho'⟩, ⟨n, rfl, hn, hn'⟩, ⟨p, rfl, hp⟩, ⟨b, rfl, hb⟩⟩
 have c1 : ∀ m : Nat, m ≤ 4096 → rcheckPre [.lst (o.map Rw.row), .int (m : Int)] := fun m hm => ⟨⟨o, rfl, ho, ho'⟩, by omega, by omega⟩
 have c2 : ∀ m : Nat, m ≤ 4096 → rcheckPre [.lst (n.map Rw.row), .int (m : Int)] := fun m hm => ⟨⟨n, rfl, hn, hn'⟩, by omega, by omega⟩
 have no : ¬ rightB p b → (1 : Int) = ofErr o n p b := fun h => by unfold ofErr; rw [if_neg h]
 simp only [rerrRel, rws_map, nums_map, e0Inv, rgInv, e0Mu, rgMu, List.length_map, c1 _ hb, c2 _ hb, rcheckRel, pcheckRel, forall_eq, need_twice, need_known, implies_true, and_true, true_and, true_implies]
 refine And.intro (fun h => ?_) fun h1 => ?_
 ·have q := no fun c => by have := c.1; omega
  repeat' first
   | exact h
   | exact q
   | (with_reducible refine And.intro ?_ ?_)
   | intro _
 ·repeat (refine And.intro h1 fun _ => ?_)
  refine And.intro (fun h => ?_) fun h2 => ?_
  ·have q := no fun c => by have := c.2.1; omega
   repeat' first
    | exact h
    | exact q
    | (with_reducible refine And.intro ?_ ?_)
    | intro _
  ·repeat (refine And.intro h2 fun _ => ?_)
   refine And.intro (fun hl => ?_) fun hl => ?_
   ·refine And.intro ⟨by omega, by omega, fun i x y hi => by omega⟩ fun _ k ⟨k0, k1, hk'⟩ => And.intro (fun hk => ?_) fun hk => ?_
    ·obtain ⟨x, hx⟩ := Sx.get_at (T := p) (i := k) k0 hk
     obtain ⟨y, hy⟩ := Sx.get_at (T := b) (i := k) k0 (by omega)
     simp only [cellAt_map hx, cellAt_map hy, row0, toInt_int]
     have bad : ¬ (0 ≤ x ∧ x ≤ y) → (1 : Int) = ofErr o n p b := fun h => no fun c => h (c.2.2.2 k.toNat x y hx hy)
     have nx : 0 ≤ x ∧ x ≤ y → ∀ (i : Nat) (a c : Int), (i : Int) < k + 1 → p[i]? = some a → b[i]? = some c → 0 ≤ a ∧ a ≤ c := fun h i a c hi ha hc => by
      by_cases e : i = k.toNat
      ·subst e
       rw [hx] at ha
       rw [hy] at hc
       cases ha; cases hc
       exact h
      ·exact hk' i a c (by omega) ha hc
     by_cases hxy : 0 ≤ x ∧ x ≤ y
     ·have nx := nx hxy
      clear bad
      repeat' first
       | exact nx
       | (with_reducible refine And.intro ?_ ?_)
       | intro _
       | omega
     ·have bad := bad hxy
      clear nx
      repeat' first
       | exact bad
       | (with_reducible refine And.intro ?_ ?_)
       | intro _
       | omega
    ·have hr : rightB p b := ⟨by omega, by omega, by omega, fun i x y hx hy => hk' i x y (by have := (List.getElem?_eq_some_iff.1 hx).1; omega) hx hy⟩
     have nn : 0 ≤ chkP (b.length : Int) o := by
      have : ∀ (l : List Rw) (s : List Int), 0 ≤ chkR (b.length : Int) s l := by
       intro l
       induction l with
       | nil => intro s; exact Int.le_refl 0
       | cons x l ih =>
        intro s
        rw [chkR_cons]
        split
        ·omega
        ·split
         ·omega
         ·split
          ·omega
          ·exact ih _
      unfold chkP
      split
      ·omega
      ·exact this _ _
     refine And.intro (fun h => ?_) fun h => ?_
     ·unfold ofErr; rw [if_pos hr, if_neg (by omega)]
     ·unfold ofErr; rw [if_pos hr, if_pos (by omega)]
   ·have q := no fun c => by have := c.2.2.1; omega
    repeat' first
     | exact q
     | exact hl
     | (with_reducible refine And.intro ?_ ?_)
     | intro _
end Go.C36
