/- Chapter 36: the reference's checks; taking and putting keys: the conditions hold.
  Conditions: none. -/
import Derived.Test.YtpdcecfnlccicaaQ7
set_option linter.unusedVariables false
set_option linter.unusedSimpArgs false
namespace Go.C36
open Go Go.Xe Go.Sx
theorem vcTake_ok : vcTake := by
 unfold vcTake Nd
 rintro _ u ⟨l,rfl,hl⟩
 simp only [takeRel,tkInv,tkMu,r0Mu,List.length_map,nums_map,Int.lt_irrefl,not_false_eq_true,need_twice,need_known,implies_true,and_true,true_and,true_implies]
 refine And.intro ⟨by omega,by omega,by simp,by simp⟩ fun _ k O ⟨k0,k1,ol,hO⟩ => ?_
 subst hO
 simp only [List.length_map] at ol
 refine And.intro (fun hk => ?_) fun hk => ?_
 ·obtain ⟨x, hx⟩ := Sx.get_at (T := l) (i := k) k0 hk
  have e := toNat_succ k0
  simp only [cellAt_map hx,row0,toInt_int,map_app_row]
  refine And.intro (by omega) fun _ => And.intro hk fun _ => And.intro (fun h => ?_) fun h => ?_
  ·have q : ((l.take k.toNat).filter fun y => decide (y ≠ u)).map row = ((l.take (k + 1).toNat).filter fun y => decide (y ≠ u)).map row := by
    rw [e,take_succ_at hx,List.filter_append,List.filter_cons_of_neg (by simp [h]),List.filter_nil,List.append_nil]
   repeat' first
    | exact q
    | (with_reducible refine And.intro ?_ ?_)
    | intro _
    | (simp only [List.length_map]; omega)
    | omega
  ·have q : (((l.take k.toNat).filter fun y => decide (y ≠ u)) ++ [x]).map row = ((l.take (k + 1).toNat).filter fun y => decide (y ≠ u)).map row := by
    rw [e,take_succ_at hx,List.filter_append,List.filter_cons_of_pos (by simp [h]),List.filter_nil]
   have ql : ((((l.take k.toNat).filter fun y => decide (y ≠ u)) ++ [x]).map row).length = ((l.take k.toNat).filter fun y => decide (y ≠ u)).length + 1 := by
    rw [List.length_map,List.length_append]; rfl
   repeat' first
    | exact q
    | (with_reducible refine And.intro ?_ ?_)
    | intro _
    | (simp only [List.length_map,List.length_append,List.length_cons,List.length_nil]; omega)
    | omega
 ·rw [List.take_of_length_le (by omega)]
  repeat' first
   | rfl
   | (with_reducible refine And.intro ?_ ?_)
   | intro _
   | omega
theorem putF_app (x a : Int) : ∀ (l m : List Int),putF x a (l ++ m) = putF x a l ++ putF x a m
 | [],m => rfl
 | y :: l,m => by
  rw [List.cons_append,putF,putF,putF_app x a l m]
  split <;> simp
theorem vcPut_ok : vcPut := by
 unfold vcPut Nd
 rintro _ u a ⟨l,rfl,hl⟩
 simp only [putRel,puInv,puMu,r0Mu,List.length_map,nums_map,Int.lt_irrefl,not_false_eq_true,need_twice,need_known,implies_true,and_true,true_and,true_implies]
 refine And.intro ⟨by omega,by omega,by simp,rfl⟩ fun _ k O ⟨k0,k1,ol,hO⟩ => ?_
 subst hO
 simp only [List.length_map] at ol
 refine And.intro (fun hk => ?_) fun hk => ?_
 ·obtain ⟨x, hx⟩ := Sx.get_at (T := l) (i := k) k0 hk
  have e := toNat_succ k0
  simp only [cellAt_map hx,row0,toInt_int,map_app_row]
  refine And.intro (by omega) fun _ => And.intro hk fun _ => And.intro (fun h => ?_) fun h => ?_
  ·have q : (putF u a (l.take k.toNat) ++ [u] ++ [x]).map row = (putF u a (l.take (k + 1).toNat)).map row := by
    rw [e,take_succ_at hx,putF_app,List.append_assoc]
    congr 2
    rw [putF,if_pos h]; rfl
   repeat' first
    | exact q
    | (with_reducible refine And.intro ?_ ?_)
    | intro _
    | (simp only [List.length_map,List.length_append,List.length_cons,List.length_nil]; omega)
    | omega
  ·have q : (putF u a (l.take k.toNat) ++ [x]).map row = (putF u a (l.take (k + 1).toNat)).map row := by
    rw [e,take_succ_at hx,putF_app]
    congr 2
    rw [putF,if_neg h]; rfl
   repeat' first
    | exact q
    | (with_reducible refine And.intro ?_ ?_)
    | intro _
    | (simp only [List.length_map,List.length_append,List.length_cons,List.length_nil]; omega)
    | omega
 ·rw [List.take_of_length_le (by omega)] at ol ⊢
  simp only [map_app_row,putL]
  refine And.intro (fun h => ?_) fun h => ?_
  ·rw [if_pos h]
   repeat' first
    | rfl
    | (with_reducible refine And.intro ?_ ?_)
    | intro _
    | (simp only [List.length_map]; omega)
    | omega
  ·rw [if_neg h]
   repeat' first
    | rfl
    | (with_reducible refine And.intro ?_ ?_)
    | intro _
    | omega
end Go.C36
