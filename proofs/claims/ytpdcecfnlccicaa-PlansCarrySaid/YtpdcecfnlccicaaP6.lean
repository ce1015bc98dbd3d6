/- Chapter 36, the rows that a law makes: the condition holds.
  Conditions: none. -/
import Derived.Test.YtpdcecfnlccicaaP5
set_option linter.unusedVariables false
set_option linter.unusedSimpArgs false
namespace Go.C36
open Go Go.Xe Go.Sx
theorem prs_map (l : List (Int × Int)) : prs (l.map prRow) = l := by
 unfold prs; rw [List.map_map]; exact List.map_id' l
theorem pr0 (p : Int × Int) : (prRow p).getD 0 (.int 0) = .int p.1 := rfl
theorem pr1 (p : Int × Int) : (prRow p).getD 1 (.int 0) = .int p.2 := rfl
theorem map_app_rw (o : List Rw) (r : Rw) : o.map Rw.row ++ chunk 2 1 [.int r.k, .int r.t] = (o ++ [r]).map Rw.row := by rw [List.map_append]; rfl
theorem addR_len (o : List Rw) (p : Int × Int) : (addR o p).length ≤ o.length + 1 := by
 unfold addR
 split
 ·omega
 ·rw [List.length_append]; simp
theorem vcRows_ok : vcRows := by
 unfold vcRows Nd
 rintro _ ⟨l,rfl,hl⟩
 simp only [rowsRel,rwInv,rwMu,twInv,twMu,List.length_map,prs_map,need_twice,need_known,implies_true,and_true,true_and,true_implies]
 refine And.intro ⟨by omega,by omega,by omega,rfl,by simp⟩ fun _ k O ⟨k0,k1,k2,hO,ol⟩ => ?_
 generalize ho : (l.take k.toNat).foldl addR [] = o at hO
 subst hO
 rw [List.length_map] at ol
 have fin : ¬ k < l.length ∨ ¬ k < 20 → o.map Rw.row = (rowsL l).map Rw.row := fun h => by
  unfold rowsL
  rw [← ho]
  rcases h with h | h
  ·rw [List.take_of_length_le (by omega),List.take_of_length_le (by omega)]
  ·rw [show k.toNat = 20 by omega]
 simp only [List.length_map,Int.lt_irrefl,not_false_eq_true,true_and,true_implies]
 refine And.intro (fun hk => ?_) fun hk => fin (.inl hk)
 repeat (refine And.intro hk fun _ => ?_)
 refine And.intro (fun h20 => ?_) fun h20 => ?_
 ·obtain ⟨p, hp⟩ := Sx.get_at (T := l) (i := k) k0 hk
  obtain ⟨⟨p1,p2⟩,p3,p4⟩ := hl p (List.mem_of_getElem? hp)
  have ek := toNat_succ k0
  have t0 := Int.tmod_nonneg (a := p.1) 30 p1
  have t1 := Int.tmod_lt_of_pos p.1 (b := 30) (by omega)
  have hw : IntKind.wrap .u64 (p.1.tmod 30 + 1) = (mkRw p).k := by
   rw [wrap_id (by show (0 : Int) ≤ _; omega) (by show _ ≤ (18446744073709551615 : Int); omega)]
   show _ = 1 + p.1.tmod 30
   omega
  have ht : p.2.tmod 3 = (mkRw p).t := rfl
  have hstep : (l.take (k + 1).toNat).foldl addR [] = addR o p := by rw [ek,take_succ_at hp,List.foldl_append,ho]; rfl
  have hal := addR_len o p
  simp only [cellAt_map hp,pr0,pr1,toInt_int,hw,ht,map_app_rw,rws_map]
  refine And.intro (by omega) fun _ => And.intro hk fun _ => And.intro ⟨by omega,by omega⟩ fun _ => And.intro (by omega) fun _ => And.intro hk fun _ => And.intro ⟨by omega,by omega,by simp⟩ fun _ j b ⟨j0,j1,hb⟩ => And.intro (fun hj => ?_) fun hj => ?_
  ·obtain ⟨r, hr⟩ := Sx.get_at (T := o) (i := j) j0 hj
   have ej := toNat_succ j0
   have hmem : ((mkRw p).k ∈ (o.take (j + 1).toNat).map Rw.k) ↔ ((mkRw p).k ∈ (o.take j.toNat).map Rw.k ∨ r.k = (mkRw p).k) := by
    rw [ej,take_succ_at hr,List.map_append]
    simp [eq_comm]
   simp only [cellAt_map hr,rw0,toInt_int]
   refine And.intro (fun hbt => ?_) fun hbt => ?_
   ·have q : true = decide ((mkRw p).k ∈ (o.take (j + 1).toNat).map Rw.k) := by
     rw [hb] at hbt
     exact (decide_eq_true (hmem.2 (.inl (of_decide_eq_true hbt)))).symm
    repeat' first
     | exact q
     | exact hbt
     | (with_reducible refine And.intro ?_ ?_)
     | intro _
     | omega
   ·have q : decide (r.k = (mkRw p).k) = decide ((mkRw p).k ∈ (o.take (j + 1).toNat).map Rw.k) := by
     have hn : ¬ (mkRw p).k ∈ (o.take j.toNat).map Rw.k := fun h => hbt (by rw [hb]; exact decide_eq_true h)
     have : (r.k = (mkRw p).k) ↔ ((mkRw p).k ∈ (o.take (j + 1).toNat).map Rw.k) := ⟨fun h => hmem.2 (.inr h),fun h => (hmem.1 h).resolve_left hn⟩
     exact decide_eq_decide.2 this
    repeat' first
     | exact q
     | exact hbt
     | (with_reducible refine And.intro ?_ ?_)
     | intro _
     | omega
  ·rw [List.take_of_length_le (l := o) (by omega)] at hb
   rw [hstep]
   refine And.intro (fun hbt => ?_) fun hbt => ?_
   ·have e : addR o p = o := by
     unfold addR
     rw [hb] at hbt
     rw [if_pos (of_decide_eq_true hbt)]
    rw [e]
    repeat' first
     | rfl
     | (with_reducible refine And.intro ?_ ?_)
     | intro _
     | omega
   ·have e : addR o p = o ++ [mkRw p] := by
     unfold addR
     rw [if_neg fun h => hbt (by rw [hb]; exact decide_eq_true h)]
    rw [e]
    have hlen : (((o ++ [mkRw p]).map Rw.row).length : Int) = o.length + 1 := by rw [List.length_map,List.length_append]; simp
    repeat' first
     | rfl
     | (with_reducible refine And.intro ?_ ?_)
     | intro _
     | omega
 ·exact fin (.inr h20)
end Go.C36
