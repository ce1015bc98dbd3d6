/- Chapter 36: what stands ahead, counting, comparing, places: the conditions hold.
  Conditions: none. -/
import Derived.Test.YtpdcecfnlccicaaQ3
set_option linter.unusedVariables false
set_option linter.unusedSimpArgs false
namespace Go.C36
open Go Go.Xe Go.Sx
theorem lv0 (s : Lv) : (Lv.row s).getD 0 (.int 0) = .int s.a := rfl
theorem lv1 (s : Lv) : (Lv.row s).getD 1 (.int 0) = .bool s.d := rfl
theorem aheadF_cons (i : Int) (s : Stp) (l : List Stp) : aheadF i (s :: l) = nxt (i + 1) l :: aheadF (i + 1) l := rfl
theorem nxt_cons (i : Int) (s : Stp) (l : List Stp) : nxt i (s :: l) = if s.w = 1 ∧ s.m = false then i else nxt (i + 1) l := rfl
theorem aheadF_len : ∀ (l : List Stp) (i : Int),(aheadF i l).length = l.length
 | [],i => rfl
 | s :: l,i => by rw [aheadF_cons,List.length_cons,aheadF_len l,List.length_cons]
theorem vcAhead_ok : vcAhead := by
 unfold vcAhead Nd
 rintro _ _ ⟨l,rfl,hl⟩
 simp only [aheadRel,stps_map,List.length_map,Int.toNat_natCast,rep_row,Int.lt_irrefl,not_false_eq_true,true_and,true_implies,and_true,need_twice,need_known,implies_true]
 refine And.intro (fun h => ?_) fun h => ?_
 ·have : l = [] := List.eq_nil_of_length_eq_zero (by omega)
  subst this; rfl
 ·have ini : ahInv [.lst (l.map Stp.row)] [.lst ((List.replicate l.length 0).map row), .int ((l.length : Int) + -1), .int (-1)] := by
   simp only [ahInv,stps_map,List.length_map]
   have e : ((l.length : Int) + -1 + 1).toNat = l.length := by omega
   refine ⟨by omega,by omega, ?_,_,rfl,by simp, ?_⟩
   ·rw [e,List.drop_length]; rfl
   ·rw [e,List.drop_length,List.drop_of_length_le (by simp)]; rfl
  refine And.intro (by omega) fun _ => And.intro (by omega) fun _ => And.intro (by omega) fun _ => And.intro ini fun _ O i n hi => ?_
  simp only [ahInv,stps_map,List.length_map] at hi
  obtain ⟨i0,i1,hn,o,rfl,ol,hd⟩ := hi
  refine And.intro (fun hi => ?_) fun hi => ?_
  ·have e : (i + 1).toNat = 0 := by omega
   have e' : i + 1 = 0 := by omega
   rw [e,e'] at hd
   have ho : o = aheadF 0 l := hd
   have hp : Sx.part (o.map row) 0 (l.length : Int) = o.map row := part_row (by omega)
   rw [List.length_map,hp,ho]
   repeat' first
    | rfl
    | (with_reducible refine And.intro ?_ ?_)
    | intro _
    | (rw [aheadF_len]; omega)
    | (have := aheadF_len l 0; omega)
  ·obtain ⟨s,hs⟩ := Sx.get_at (T := l) (i := i) (by omega) i1
   have e := toNat_succ (k := i) (by omega)
   have ei : (i + -1 + 1).toNat = i.toNat := by omega
   have ei' : i + -1 + 1 = i := by omega
   have hil : i.toNat < o.length := by omega
   simp only [cellAt_map hs,st0,st2,toInt_int,toBool_bool,over_row,List.length_map]
   have mk : ∀ n' : Int,n' = nxt i (l.drop i.toNat) → ahInv [.lst (l.map Stp.row)] [.lst ((setN o i.toNat n).map row), .int (i + -1), .int n'] := fun n' hn' => by
    simp only [ahInv,stps_map,List.length_map]
    refine ⟨by omega,by omega,by rw [ei,ei',hn'],_,rfl,by rw [setN_len hil,ol], ?_⟩
    rw [ei,ei',setN_drop (by omega),Sx.drop_at hs,aheadF_cons,← e,hd,hn]
   have mu : ∀ (a b c d : Dat),ahMu [.lst (l.map Stp.row)] [a, .int (i + -1),b] < ahMu [.lst (l.map Stp.row)] [c, .int i,d] := fun a b c d => by
    simp only [ahMu]; omega
   have hdn : nxt i (l.drop i.toNat) = if s.w = 1 ∧ s.m = false then i else n := by rw [Sx.drop_at hs,nxt_cons,← e,← hn]
   repeat (refine And.intro (by omega) fun _ => ?_)
   refine And.intro (fun hw => ?_) fun hw => ?_
   ·repeat (refine And.intro hw fun _ => ?_)
    refine And.intro (fun hm => ?_) fun hm => ?_
    ·have inv := mk n (by rw [hdn,if_neg (by simp [hm])])
     repeat' first
      | with_reducible exact inv
      | with_reducible exact mu _ _ _ _
      | (with_reducible refine And.intro ?_ ?_)
      | intro _
      | omega
    ·have inv := mk i (by rw [hdn,if_pos ⟨hw,by simpa using hm⟩])
     repeat' first
      | with_reducible exact inv
      | with_reducible exact mu _ _ _ _
      | (with_reducible refine And.intro ?_ ?_)
      | intro _
      | omega
   ·have inv := mk n (by rw [hdn,if_neg (fun c => hw c.1)])
    repeat' first
     | with_reducible exact inv
     | with_reducible exact mu _ _ _ _
     | exact hw
     | (with_reducible refine And.intro ?_ ?_)
     | intro _
     | omega
theorem vcNmakes_ok : vcNmakes := by
 unfold vcNmakes Nd
 rintro _ _ ⟨l,rfl,hl⟩
 simp only [nmakesRel,mnkInv,mnkMu,mnsMu,List.length_map,stps_map,need_twice,need_known,implies_true,and_true,true_and,true_implies]
 refine And.intro ⟨by omega,by omega,rfl,by omega,by omega⟩ fun _ k n ⟨k0,k1,hn,n0,n1⟩ => And.intro (fun hk => ?_) fun hk => ?_
 ·obtain ⟨s,hs⟩ := Sx.get_at (T := l) (i := k) k0 hk
  have e := toNat_succ k0
  have hst : many isMake (l.take (k + 1).toNat) = n + if isMake s = true then 1 else 0 := by rw [e,take_succ_at hs,many_snoc,hn]
  simp only [cellAt_map hs,st0,toInt_int]
  refine And.intro (by omega) fun _ => And.intro hk fun _ => And.intro (fun h => ?_) fun h => ?_
  ·have q : n + 1 = many isMake (l.take (k + 1).toNat) := by rw [hst,if_pos (show isMake s = true from decide_eq_true h)]
   repeat' first
    | exact q
    | (with_reducible refine And.intro ?_ ?_)
    | intro _
    | omega
  ·have q : n = many isMake (l.take (k + 1).toNat) := by rw [hst,if_neg (show ¬ isMake s = true from fun c => h (of_decide_eq_true c)),Int.add_zero]
   repeat' first
    | exact q
    | (with_reducible refine And.intro ?_ ?_)
    | intro _
    | omega
 ·rw [List.take_of_length_le (by omega)] at hn; exact hn
theorem drops_snoc (l : List Lv) (s : Lv) : drops (l ++ [s]) = drops l + if s.d = true then 1 else 0 := by
 unfold drops
 rw [List.countP_append,List.countP_singleton]
 split <;> omega
theorem vcNdrops_ok : vcNdrops := by
 unfold vcNdrops Nd
 rintro _ _ ⟨l,rfl,hl⟩
 simp only [ndropsRel,ndInv,ndMu,mnsMu,List.length_map,lvs_map,need_twice,need_known,implies_true,and_true,true_and,true_implies]
 refine And.intro ⟨by omega,by omega,rfl,by omega,by omega⟩ fun _ k n ⟨k0,k1,hn,n0,n1⟩ => And.intro (fun hk => ?_) fun hk => ?_
 ·obtain ⟨s,hs⟩ := Sx.get_at (T := l) (i := k) k0 hk
  have e := toNat_succ k0
  have hst : drops (l.take (k + 1).toNat) = n + if s.d = true then 1 else 0 := by rw [e,take_succ_at hs,drops_snoc,hn]
  simp only [cellAt_map hs,lv1,toBool_bool]
  refine And.intro (by omega) fun _ => And.intro hk fun _ => And.intro (fun h => ?_) fun h => ?_
  ·have q : n + 1 = drops (l.take (k + 1).toNat) := by rw [hst,if_pos h]
   repeat' first
    | exact q
    | (with_reducible refine And.intro ?_ ?_)
    | intro _
    | omega
  ·have q : n = drops (l.take (k + 1).toNat) := by rw [hst,if_neg h,Int.add_zero]
   repeat' first
    | exact q
    | (with_reducible refine And.intro ?_ ?_)
    | intro _
    | omega
 ·rw [List.take_of_length_le (by omega)] at hn; exact hn
theorem vcRlongest_ok : vcRlongest := by
 unfold vcRlongest Nd
 rintro _ ⟨l,rfl,hl⟩
 have h : rkeptPre [.lst (l.map row)] := ⟨l,rfl,hl⟩
 simp only [h,rkeptRel,rlongestRel,nums_map,forall_eq,List.length_map,true_and,and_true,true_implies,implies_true]
end Go.C36
