/- Chapter 08, the orders of a law: the conditions hold.
  Conditions: none. -/
import Derived.Test.YtmdkgpkboidhfaaA27
set_option linter.unusedVariables false
set_option linter.unusedSimpArgs false
namespace Go.C08
open Go Go.Xe Go.Sx
theorem part_take (r : List Int) (k : Int) : Sx.part (r.map row) 0 k=(r.take k.toNat).map row:=by
 unfold Sx.part
 rw [Int.toNat_zero,List.drop_zero,List.map_take]
theorem part_drop (r : List Int) {k n : Int} (h0 : 0≤k) (hn : n=r.length - k) : Sx.part (r.map row) k n=(r.drop k.toNat).map row:=by
 unfold Sx.part
 rw [← List.map_drop,List.take_of_length_le]
 rw [List.length_map,List.length_drop]; omega
theorem chunk_no : Sx.chunk 1 0 []=[]:=rfl
theorem over_no (X : Sx.Rows) : Sx.over [] 0 X=X:=by unfold Sx.over; simp
theorem over_at (X Y : Sx.Rows) {n : Int} (h : n=X.length) : Sx.over X n Y=X ++ Y:=by subst h; exact over_end X Y
theorem restL_len (f : Int) : ∀ n,(restL f n).length=n
 | 0=>rfl
 | n+1=>by rw [restL,List.length_append,restL_len f n]; rfl
theorem vcOrder_ok : vcOrder:=by
 unfold vcOrder Nd
 rintro n f z2 z3 _ ⟨hn,hf,l,rfl,hl⟩
 have t0:=Int.tmod_nonneg (a:=n) 41 hn.1
 have t1:=Int.tmod_lt_of_pos n (b:=41) (by omega)
 simp only [od0Inv,od0Mu,orderRel,need_twice,need_known,implies_true,and_true,true_and,true_implies]
 refine And.intro ⟨by omega,by omega,rfl⟩ fun _ k R ⟨k0,k1,hR⟩ => ?_
 subst hR
 simp only [List.length_map,restL_len,Int.lt_irrefl,not_false_eq_true,need_twice,need_known,implies_true,and_true,true_and,true_implies]
 refine And.intro (by omega) fun _=>And.intro (fun hk => ?_) fun hk => ?_
 ·have e:=toNat_succ k0
  have e2 : (restL f k.toNat).map row ++ chunk 1 1 [.int (f+3 * k)]=(restL f (k+1).toNat).map row:=by
   rw [map_app_row,e,restL,show ((k.toNat : Nat) : Int)=k by omega]
  simp only [e2]
  repeat' first
   | with_reducible rfl
   | with_reducible trivial
   | (with_reducible refine And.intro ?_ ?_)
   | intro _
   | omega
 ·have hkn : k=n.tmod 41:=by omega
  subst hkn
  refine And.intro ?_ fun _ i R O hi => ?_
  ·simp only [od2Inv]
   exact ⟨by omega,_,[],rfl,rfl,rfl,List.Perm.refl _⟩
  have hi' := hi
  simp only [od2Inv] at hi
  obtain ⟨i0,r,o,rfl,rfl,oi,hp⟩:=hi
  have hlen : o.length+r.length≤41:=by
   have:=hp.length_eq
   rw [List.length_append,restL_len] at this
   omega
  have mk : ∀ (k : Nat) (y : Int),r[k]? = some y→od2Inv [.int n, .int f, .lst (l.map row)] [.int (i+1), .lst ((r.take k ++ r.drop (k+1)).map row), .lst ((o ++ [y]).map row)]:=by
   intro k y hy
   simp only [od2Inv]
   refine ⟨by omega,_,_,rfl,rfl,by rw [List.length_append]; simp; omega, ?_⟩
   refine List.Perm.trans ?_ hp
   have hr : r=r.take k ++ y :: r.drop (k+1):=by rw [← Sx.drop_at hy,List.take_append_drop]
   rw [List.append_assoc]
   refine List.Perm.append_left o ?_
   have h:=(List.perm_middle (a:=y) (l₁:=r.take k) (l₂:=r.drop (k+1))).symm
   rw [← hr] at h
   exact h
  have mu : ∀ (k : Nat) (y : Int) (A B C D : Dat),r[k]? = some y→od2Mu [.int n, .int f, .lst (l.map row)] [A, .lst ((r.take k ++ r.drop (k+1)).map row),B] < od2Mu [.int n, .int f, .lst (l.map row)] [C, .lst (r.map row),D]:=by
   intro k y A B C D hy
   have:=(List.getElem?_eq_some_iff.1 hy).1
   simp only [od2Mu,List.length_map,List.length_append,List.length_take,List.length_drop]
   omega
  simp only [List.length_map,Int.lt_irrefl,not_false_eq_true,need_twice,need_known,implies_true,and_true,true_and,true_implies]
  refine And.intro (fun hr => ?_) fun hr => ?_
  ·refine And.intro (fun hil => ?_) fun hil => ?_
   ·obtain ⟨a,ha⟩:=Sx.get_at (T:=l) (i:=i) i0 hil
    have hra:=hl a (List.mem_of_getElem? ha)
    have m0:=Int.tmod_nonneg (a:=a) (r.length : Int) hra.1
    have m1:=Int.tmod_lt_of_pos a (b:=(r.length : Int)) hr
    simp only [cellAt_map ha,row0,toInt_int]
    generalize hk : a.tmod (r.length : Int)=k at *
    obtain ⟨y,hy⟩:=Sx.get_at (T:=r) (i:=k) m0 m1
    have inv:=mk k.toNat y hy
    have mu' := fun A B C D=>mu k.toNat y A B C D hy
    have pd : Sx.part (r.map row) (k+1) ((r.length : Int) - (k+1))=(r.drop (k.toNat+1)).map row:=by rw [part_drop r (by omega) rfl,toNat_succ m0]
    have lt : ((r.take k.toNat).length : Int)=k:=by rw [List.length_take]; omega
    have ld : ((r.drop (k.toNat+1)).length : Int)=r.length - (k+1):=by rw [List.length_drop]; omega
    have ov1 : Sx.over ((r.take k.toNat).map row) k ((r.drop (k.toNat+1)).map row)=(r.take k.toNat ++ r.drop (k.toNat+1)).map row:=by rw [over_at _ _ (by rw [List.length_map]; exact lt.symm),List.map_append]
    have pa1 : Sx.part ((r.take k.toNat).map row) 0 k=(r.take k.toNat).map row:=part_all _ (by rw [List.length_map]; exact lt.symm)
    have pa2 : Sx.part ((r.take k.toNat ++ r.drop (k.toNat+1)).map row) 0 (k+((r.length : Int) - (k+1)))=(r.take k.toNat ++ r.drop (k.toNat+1)).map row:=part_all _ (by rw [List.length_map,List.length_append]; omega)
    have la : (((r.take k.toNat ++ r.drop (k.toNat+1)).length : Nat) : Int)=r.length - 1:=by rw [List.length_append]; omega
    simp only [cellAt_map hy,row0,toInt_int,part_take,pd,chunk_no,over_no,List.nil_append,List.length_map,lt,ld,ov1,pa1,← List.map_append,pa2,la,map_app_row,Int.lt_irrefl,not_false_eq_true,need_twice,need_known,implies_true,and_true,true_and,true_implies]
    repeat' first
     | with_reducible exact inv
     | with_reducible exact mu' _ _ _ _
     | (with_reducible refine And.intro ?_ ?_)
     | intro _
     | omega
   ·obtain ⟨y,hy⟩:=Sx.get_at (T:=r) (i:=0) (by omega) hr
    have inv:=mk 0 y hy
    have mu' := fun A B C D=>mu 0 y A B C D hy
    have pd : Sx.part (r.map row) 1 ((r.length : Int)+(-1))=(r.drop 1).map row:=part_drop r (by omega) (by omega)
    have ld : ((r.drop 1).length : Int)=r.length - 1:=by rw [List.length_drop]; omega
    simp only [List.take_zero,List.nil_append,Nat.zero_add] at inv mu'
    have pa2 : Sx.part ((r.drop 1).map row) 0 ((r.length : Int) - 1)=(r.drop 1).map row:=part_all _ (by rw [List.length_map]; omega)
    have pt : Sx.part (r.map row) 0 0=[]:=by rw [part_take]; rfl
    have pe : Sx.part ([] : Sx.Rows) 0 0=[]:=rfl
    have l0 : (([] : Sx.Rows).length : Int)=0:=rfl
    simp only [cellAt_map hy,row0,toInt_int,pt,pe,l0,pd,chunk_no,over_no,List.nil_append,List.length_map,ld,pa2,Int.zero_add,map_app_row,Int.lt_irrefl,not_false_eq_true,false_implies,need_twice,need_known,implies_true,and_true,true_and,true_implies]
    repeat' first
     | with_reducible exact inv
     | with_reducible exact mu' _ _ _ _
     | (with_reducible refine And.intro ?_ ?_)
     | intro _
     | omega
  ·have : r=[]:=List.eq_nil_of_length_eq_zero (by omega)
   subst this
   rw [List.append_nil] at hp
   exact ⟨o,rfl,hp⟩
theorem vcPof_ok : vcPof:=by
 unfold vcPof Nd
 rintro n f _ _ ⟨hn,hf,ha,hb⟩
 refine And.intro ⟨hn,hf,ha⟩ fun _ x4 h4=>And.intro ⟨hn,hf,hb⟩ fun _ x5 h5=>And.intro ⟨h4,h5⟩ fun _=>trivial
end Go.C08
