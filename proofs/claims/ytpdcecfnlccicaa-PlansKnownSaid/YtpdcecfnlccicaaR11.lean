/- Chapter 36 (rises), the numbers that are kept: the condition holds.
  Conditions: none. -/
import Derived.Test.YtpdcecfnlccicaaR10
set_option linter.unusedVariables false
set_option linter.unusedSimpArgs false
namespace Go.C36
open Go Go.Xe Go.Sx
theorem ordOf_len (l m : List Int) : (ordOf l m).length=m.length:=List.length_map _
theorem vcKept_ok : vcKept:=by
 unfold vcKept Nd
 rintro _ _ ⟨⟨l,rfl,hl⟩,⟨m,rfl,hm⟩⟩
 have hL : isN (l.map row):=⟨l,rfl,hl⟩
 have hM : isN (m.map row):=⟨m,rfl,hm⟩
 simp only [keptiPre,twoPre,keptiRel,keptRel,hL,hM,forall_eq2,nums_map,need_twice,need_known,implies_true,and_true,true_and,true_implies]
 refine And.intro (fun he => ?_) fun he=>by rw [if_neg he]; first | rfl | exact ⟨rfl,rfl⟩
 rw [he]
 simp only [if_true,List.length_map,and_true,true_and,true_implies]
 have hv:=lis_vl (ordOf l m)
 have hlen : (lis (ordOf l m)).length≤m.length:=by
  have h1:=lis_len (ordOf l m)
  have h2:=maxF_le (ordOf l m)
  rw [ordOf_len] at h2
  omega
 unfold keptL
 generalize lis (ordOf l m)=g at hv hlen
 refine And.intro (fun h => ?_) fun h => ?_
 ·have : g=[]:=List.eq_nil_of_length_eq_zero (by omega)
  rw [this]; rfl
 ·have hs : Sx.part ((List.replicate g.length 0).map row) 0 g.length=(List.replicate g.length 0).map row:=part_row (by simp)
  simp only [rep_row,List.length_map,List.length_replicate,Int.toNat_natCast,hs,klInv,klMu,nums_map,Int.lt_irrefl,not_false_eq_true,true_and,true_implies]
  repeat (refine And.intro (by omega) fun _ => ?_)
  refine And.intro ⟨by omega,by omega,_,rfl,by simp,by simp⟩ fun _ k O ⟨k0,k1,o,hO,ol,ot⟩ => ?_
  subst hO
  simp only [List.length_map,over_row]
  refine And.intro (fun hk => ?_) fun hk => ?_
  ·obtain ⟨a,ha⟩:=Sx.get_at (T:=g) (i:=k) k0 hk
   obtain ⟨_,a0,x,hx⟩:=hv.at ha
   have halt:=(List.getElem?_eq_some_iff.1 hx).1
   rw [ordOf_len] at halt
   obtain ⟨y,hy⟩:=Sx.get_at (T:=m) (i:=a) a0 (by omega)
   have e:=toNat_succ k0
   have hko : k.toNat < o.length:=by omega
   have so : Sx.part ((setN o k.toNat y).map row) 0 o.length=(setN o k.toNat y).map row:=part_row (by rw [setN_len hko])
   have sl : (setN o k.toNat y).length=o.length:=setN_len hko
   simp only [cellAt_map ha,cellAt_map hy,row0,toInt_int,so,sl]
   have inv : ∃ o' : List Int,(setN o k.toNat y).map row=o'.map row∧o'.length=g.length∧o'.take (k+1).toNat=(g.take (k+1).toNat).map fun j=>m.getD j.toNat 0:=by
    refine ⟨_,rfl,by rw [sl]; exact ol, ?_⟩
    have hg' : (setN o k.toNat y)[k.toNat]? = some y:=by rw [setN_get (by omega),if_pos rfl]
    have ht : (setN o k.toNat y).take k.toNat=o.take k.toNat:=by
     unfold setN
     rw [List.take_left' (by rw [List.length_take]; omega)]
    rw [e,take_succ_at hg',take_succ_at ha,ht,ot,List.map_append]
    have : m.getD a.toNat 0=y:=by rw [List.getD_eq_getElem?_getD,hy]; rfl
    simp only [List.map_cons,List.map_nil,this]
   repeat' first
    | exact inv
    | (with_reducible refine And.intro ?_ ?_)
    | intro _
    | omega
  ·rw [List.take_of_length_le (by omega),List.take_of_length_le (by omega)] at ot
   repeat (refine And.intro (by omega) fun _ => ?_)
   rw [ot]
end Go.C36
