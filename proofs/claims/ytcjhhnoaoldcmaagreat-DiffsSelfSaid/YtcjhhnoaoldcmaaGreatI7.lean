/- A diff of the same children in another order: it moves them, fewer than there are, and what it moves makes the new order.
  Conditions: none. -/
import Derived.Test.YtcjhhnoaoldcmaaGreatI6
set_option linter.unusedVariables false
set_option linter.unusedSimpArgs false
namespace Go.D
open Go Go.Xe Go.Sx
open Go.C36 (row j0 lis frm maxL pickL best)
theorem range_map {α:Type}{l:List α}{d:α}:((List.range l.length).map Int.ofNat).map (fun v=>l.getD v.toNat d)=l:=by
 refine List.ext_getElem (by simp) fun i h1 h2=>?_
 simp only[List.getElem_map,List.getElem_range]
 show l.getD ((i:Int)).toNat d=_
 rw[bJ2,bI2,bG3 h2];rfl
theorem diff_moves {s s' : Tree} ( J : AllA s) (  r : AllA s') (hx : s'.x = s.x) ( K : s'.a = s.a) (hy : ∀ c ∈ s.c, c.y ≠ []) (hl : s'.c.length = s.c.length) (hm : ∀ c ∈ s'.c, c ∈ s.c) (f : Nat) :
  ∃q,MvS s.c.length (diffN (f+1) s s' []) q/\((q.length:Int)<max (s.c.length:Int) 1)/\mvs s.c q=s'.c:=by
 have A:=(AllA_iff s).1 J
 have A':=(AllA_iff s').1 r
 have m:=kids_keys A.1
 have hn:=kids_keys A'.1
 have d:=fun x hx=>(mt_nn m hy hm x hx).1
 have o:=mt_nodup m hn hy hm
 have hp:=mt_perm m hn hy hl hm
 have b:=mtch_len s.c s'.c
 have E:ownS s s' []=[]:=by unfold ownS;rw[bH3 hx.symm,K,adf_self];rfl
 have h:∀i:Nat,i<s.c.length->(i:Int)∈mtch s.c s'.c:=fun i hi=>hp.mem_iff.2 (range_mem hi)
 have F:freesS (mtch s.c s'.c) [] s.c.length=[]:=frees_none h
 have G:thereL (mtch s.c s'.c) s.c.length=(List.range s.c.length).map Int.ofNat:=by
  unfold thereL
  exact List.filter_eq_self.2 fun x hx=>by
   obtain⟨i,hi,rfl⟩:=bN4.1 hx
   exact decide_eq_true (h i (List.mem_range.1 hi))
 have key:∀i,i<=s'.c.length->MI s.c (mtch s.c s'.c) i (kidS (diffN f) s.c s'.c (mtch s.c s'.c) (stayM (mtch s.c s'.c)) [] ((List.range s.c.length).map Int.ofNat) i).1 (kidS (diffN f) s.c s'.c (mtch s.c s'.c) (stayM (mtch s.c s'.c)) [] ((List.range s.c.length).map Int.ofNat) i).2:=fun i=>by
  induction i with
  |zero=>
   intro _
   refine⟨hp.symm,fun p p' h1 h2 h3 h4=>?_,[],rfl,fun x hx=>(by cases hx),range_map.symm,bO6 _,fun⟨k,k1,_⟩=>by omega⟩
   have q1:=stay_iff d (h3.resolve_left (by omega))
   have q2:=stay_iff d (h4.resolve_left (by omega))
   have D:=lis_rises q1 q2 (by omega)
   simp only[bJ2]at D
   rw[b]at h2
   obtain⟨j,u,n,_⟩:=mt_at m hy hm (i:=p) (by omega)
   obtain⟨j',v,w,_⟩:=mt_at m hy hm (i:=p') h2
   rw[n,w]at D⊢
   show((List.range s.c.length).map Int.ofNat).idxOf _<((List.range s.c.length).map Int.ofNat).idxOf _
   rw[idx_range u,idx_range v];omega
  |succ i t=>
   intro hi
   have t:=t (by omega)
   unfold kidS
   refine mi_step o d (by rw[b];omega) (fun P=>?_) t
   obtain⟨j,u,n,z⟩:=mt_at m hy hm (i:=i) (by omega)
   rw[n,bJ2,z]
   have hc:=bG3 (l:=s'.c) (i:=i) (by omega)
   rw[bI2,hc]
   exact diff_self f _ _ P (AllAs_mem A'.2 hc) rfl rfl rfl
 obtain⟨h1,h2,q,h3,h4,H,C,I⟩:=key s'.c.length (bH4 _)
 have ht:=ord_eq h1 o fun p p' B g=>h2 p p' B g (.inl (by rw[b]at g;omega)) (.inl (by rw[b]at g;omega))
 refine⟨q,⟨?_,fun x hx=>?_⟩,?_,?_⟩
 ·unfold diffN
  rw[E,F,G,h3];rfl
 ·have:=h4 x hx
  rw[b,hl]at this
  exact this
 ·by_cases c:s'.c=[]
  ·rw[c]at C
   simp only[bQ0]at C
   omega
  ·have:mtch s.c s'.c≠ []:=fun e=>by rw[e]at b;exact c (bF7 b.symm)
   obtain⟨k,k1,k2⟩:=stay_some d this
   have:=I ⟨k,by omega,k2⟩
   omega
 ·rw[H,ht]
  refine List.ext_getElem (by rw[bH0,b]) fun i B g=>?_
  obtain⟨j,u,n,z⟩:=mt_at m hy hm (i:=i) g
  rw[List.getElem_map]
  have e:(mtch s.c s'.c)[i]'(by rw[b];exact g)=(j:Int):=by
   rw[bI2,bG3 (by rw[b];exact g)]at n
   exact n
  rw[e,bJ2,z,bI2,bG3 g];rfl
end Go.D
