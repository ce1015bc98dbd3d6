/- A diff that only moves children makes the new order: plain law.
  Conditions: none. -/
import Derived.Test.YtcjhhnoaoldcmaaGreatH3
import Derived.Test.YtcjhhnoaoldcmaaGreatI3
set_option linter.unusedVariables false
set_option linter.unusedSimpArgs false
namespace Go.D
open Go Go.Xe Go.Sx
open Go.C36 (row j0 lis frm maxL pickL best)
section
variable {A B:List Int}{v x y:Int}
theorem idx_cons_ne (h:x≠v):(v::B).idxOf x=B.idxOf x+1:=by
 rw[List.idxOf_cons]
 have:(v==x)=false:=by simpa using Ne.symm h
 rw[this];rfl
theorem idx_out (h:x∉A):(A++B).idxOf x=B.idxOf x+A.length:=by rw[List.idxOf_append,bH1 h]
theorem idx_in (h:x∈A):(A++B).idxOf x=A.idxOf x:=by rw[List.idxOf_append,bH3 h]
theorem idx_mem (h:x∈A):A.idxOf x<A.length:=List.idxOf_lt_length_iff.2 h
theorem ord_mid (hx:x≠v)(hy:y≠v):(A++v::B).idxOf x<(A++v::B).idxOf y↔(A++B).idxOf x<(A++B).idxOf y:=by
 by_cases h1:x∈A<;>by_cases h2:y∈A
 ·rw[idx_in h1,idx_in h1,idx_in h2,idx_in h2]
 ·rw[idx_in h1,idx_in h1,idx_out h2,idx_out h2,idx_cons_ne hy]
  have:=idx_mem h1
  constructor<;>intro<;>omega
 ·rw[idx_out h1,idx_out h1,idx_in h2,idx_in h2,idx_cons_ne hx]
  have:=idx_mem h2
  constructor<;>intro<;>omega
 ·rw[idx_out h1,idx_out h1,idx_out h2,idx_out h2,idx_cons_ne hx,idx_cons_ne hy]
  constructor<;>intro<;>omega
theorem ord_l (a:v∉A)(hx:x≠v):(A++v::B).idxOf x<(A++v::B).idxOf v↔(A++B).idxOf x<A.length:=by
 rw[idx_out a,List.idxOf_cons_self]
 by_cases h1:x∈A
 ·rw[idx_in h1,idx_in h1]
  have:=idx_mem h1
  constructor<;>intro<;>omega
 ·rw[idx_out h1,idx_out h1,idx_cons_ne hx]
  constructor<;>intro<;>omega
theorem ord_r (a:v∉A)(hx:x≠v):(A++v::B).idxOf v<(A++v::B).idxOf x↔A.length<=(A++B).idxOf x:=by
 rw[idx_out a,List.idxOf_cons_self]
 by_cases h1:x∈A
 ·rw[idx_in h1,idx_in h1]
  have:=idx_mem h1
  constructor<;>intro<;>omega
 ·rw[idx_out h1,idx_out h1,idx_cons_ne hx]
  constructor<;>intro<;>omega
end
variable {m:List Int}
theorem ord_eq {t:List Int}(hp:t.Perm m)(hn:m.Nodup)(h:∀p p':Nat,p<p'->p'<m.length->t.idxOf (m.getD p 0)<t.idxOf (m.getD p' 0)):t=m:=by
 have hl:=hp.length_eq
 have ge:∀p,p<m.length->p<=t.idxOf (m.getD p 0):=fun p=>by
  induction p with
  |zero=>intro _;omega
  |succ p a=>intro hp;have:=a (by omega);have:=h p (p+1) (by omega) hp;omega
 have le:∀k p,p+k+1=m.length->t.idxOf (m.getD p 0)<=p:=fun k=>by
  induction k with
  |zero=>
   intro p hp'
   have:t.idxOf (m.getD p 0)<t.length:=idx_mem (hp.mem_iff.2 (by
    rw[bI2,bG3 (by omega)];exact bP6 _))
   omega
  |succ k a=>intro p hp';have:=a (p+1) (by omega);have:=h p (p+1) (by omega) (by omega);omega
 refine List.ext_getElem hl fun p h1 h2=>?_
 have e:t.idxOf (m.getD p 0)=p:=by
  have:=ge p h2;have:=le (m.length-p-1) p (by omega);omega
 have b:m.getD p 0=m[p]:=by rw[bI2,bG3 h2];rfl
 rw[b]at e
 have:=List.getElem_idxOf (x:=m[p]) (xs:=t) (by omega)
 simp only[e]at this
 exact this
theorem pick_vals : ∀ {l fs : List Int} (i n : Int) (last : Option Int), (∀ k ∈ pickL l fs i n last, i ≤ k ∧ k < i + l.length ∧ ∀ y, last = some y → y < l.getD (k - i).toNat 0) ∧
  (pickL l fs i n last).Pairwise fun a b=>a<b/\l.getD (a-i).toNat 0<l.getD (b-i).toNat 0
 | [],fs,i,n,last=>by rw[C36.pickL_nil];exact⟨fun k h=>(by cases h),List.Pairwise.nil⟩
 |x::l,[],i,n,last=>⟨fun k h=>(by cases h),List.Pairwise.nil⟩
 |x::l,f::fs,i,n,last=>by
  have d:∀k:Int,i+1<=k->(x::l).getD (k-i).toNat 0=l.getD (k-(i+1)).toNat 0:=fun k hk=>by
   rw[show(k-i).toNat=(k-(i+1)).toNat+1 by omega];rfl
  have q:(x::l).getD (i-i).toNat 0=x:=by rw[Int.sub_self];rfl
  rw[C36.pickL_cons]
  split
  ·rename_i hc
   obtain⟨c,j⟩:=pick_vals (l:=l) (fs:=fs) (i+1) (n-1) (some x)
   refine⟨fun k hk=>?_,List.pairwise_cons.2 ⟨fun k hk=>?_,j.imp_of_mem fun{a b} o hb h=>?_⟩⟩
   ·rcases bI9.1 hk with rfl|hk
    ·exact⟨by omega,by rw[bJ4];omega,fun y hy=>by rw[q];exact hc.2.2 y hy⟩
    ·obtain⟨e,p,g⟩:=c k hk
     refine⟨by omega,by rw[bJ4];omega,fun y hy=>?_⟩
     rw[d k e]
     have:=g x rfl
     have:=hc.2.2 y hy
     omega
   ·obtain⟨e,p,g⟩:=c k hk
    exact⟨by omega,by rw[q,d k e];exact g x rfl⟩
   ·rw[d a (c a o).1,d b (c b hb).1];exact h
  ·obtain⟨c,j⟩:=pick_vals (l:=l) (fs:=fs) (i+1) n last
   refine⟨fun k hk=>?_,j.imp_of_mem fun{a b} o hb h=>?_⟩
   ·obtain⟨e,p,g⟩:=c k hk
    exact⟨by omega,by rw[bJ4];omega,fun y hy=>by rw[d k e];exact g y hy⟩
   ·rw[d a (c a o).1,d b (c b hb).1];exact h
theorem lis_rises {a b:Int}(c:a∈lis m)(hb:b∈lis m)(h:a<b):m.getD a.toNat 0<m.getD b.toNat 0:=by
 have hp:=(pick_vals (l:=m) (fs:=frm m) 0 (maxL (frm m)) none).2
 have key:∀ {l:List Int},l.Pairwise (fun a b=>a<b/\m.getD (a-0).toNat 0<m.getD (b-0).toNat 0)->a∈l->b∈l->m.getD a.toNat 0<m.getD b.toNat 0:=fun{l} hl=>by
  induction l with
  |nil=>intro c;cases c
  |cons x l e=>
   intro c hb
   obtain⟨h1,h2⟩:=List.pairwise_cons.1 hl
   rcases bI9.1 c with d|ha'<;>rcases bI9.1 hb with f|hb'
   ·omega
   ·have:=(h1 b hb').2;rwa[Int.sub_zero,Int.sub_zero,<-d]at this
   ·have:=(h1 a ha').1;omega
   ·exact e h2 ha' hb'
 exact key hp c hb
theorem stay_iff (h0:∀x∈m,0<=x){i:Nat}(h:(stayM m).getD i false=true):(i:Int)∈lis m:=by
 have h1:(stayM m)[i]? =some true:=by
  rw[bI2]at h
  cases hc:(stayM m)[i]? with
  |none=>rw[hc]at h;cases h
  |some b=>rw[hc]at h;exact congrArg some h
 unfold stayM at h1
 rw[pl_nn h0,atF_nn 0 h0]at h1
 rcases putF_true _ _ _ _ h1 with h2| ⟨k,h2,h3⟩
 ·rw[List.getElem?_replicate]at h2
  split at h2<;>cases h2
 ·obtain⟨a,c,_⟩:=(pick_vals (l:=m) (fs:=frm m) 0 (maxL (frm m)) none).1 k h2
  rw[bI2,bK1,List.getElem?_range (by omega)]at h3
  have h3:(0+((k.toNat:Nat):Int)).toNat=i:=h3
  rwa[show(i:Int)=k by omega]
theorem stay_some (h0:∀x∈m,0<=x)(hm:m≠ []):∃i,i<m.length/\(stayM m).getD i false=true:=by
 have hl:=C36.lis_len m
 have hp:1<=maxL (frm m):=by
  cases m with
  |nil=>exact absurd rfl hm
  |cons x m=>
   rw[C36.frm_cons]
   have:=C36.best_nn x m (frm m)
   show 1<=max (1+best x m (frm m)) _
   omega
 cases hc:lis m with
 |nil=>rw[hc]at hl;simp at hl;omega
 |cons k z=>
  have hk:k∈lis m:=by rw[hc];simp
  obtain⟨a,b,_⟩:=(pick_vals (l:=m) (fs:=frm m) 0 (maxL (frm m)) none).1 k hk
  refine⟨k.toNat,by omega,?_⟩
  have:(stayM m)[k.toNat]? =some true:=by
   unfold stayM
   rw[pl_nn h0,atF_nn 0 h0]
   refine putF_all _ _ _ (.inr ⟨by rw[List.length_replicate];omega,k,hk,?_⟩)
   rw[bI2,bK1,List.getElem?_range (by omega)]
   show(0+((k.toNat:Nat):Int)).toNat=_
   omega
  rw[bI2,this];rfl
end Go.D
