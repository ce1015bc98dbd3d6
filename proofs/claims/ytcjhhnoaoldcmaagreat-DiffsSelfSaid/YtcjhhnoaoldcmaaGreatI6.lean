/- A diff of the same children in another order: it moves them, and what it moves makes the new order.
  Conditions: none. -/
import Derived.Test.YtcjhhnoaoldcmaaGreatI4
set_option linter.unusedVariables false
set_option linter.unusedSimpArgs false
namespace Go.D
open Go Go.Xe Go.Sx
open Go.C36 (row j0 lis frm maxL pickL best)
theorem least {p:Nat->Prop}:∀n,p n-> ∃k,p k/\ ∀j,j<k-> ¬p j:=fun n=>by
 induction n using Nat.strongRecOn with
 |_ n a=>
  intro h
  by_cases c:∃j,j<n/\p j
  ·obtain⟨j,h1,h2⟩:=c
   exact a j h1 h2
  ·exact⟨n,h,fun j hj hp=>c ⟨j,hj,hp⟩⟩
theorem ahead_cases {t m : List Int} {q : List Bool} (hl : m.length = q.length) {i : Nat} (hi : i < q.length) :
  (∃k,i<k/\k<q.length/\q.getD k false=true/\(∀j,i<j->j<k->q.getD j false=false)/\aheadF t (m.drop (i+1)) (q.drop (i+1))=(t.idxOf (m.getD k 0):Nat))\/
   ((∀j,i<j->j<q.length->q.getD j false=false)/\aheadF t (m.drop (i+1)) (q.drop (i+1))=t.length):=by
 by_cases c:∃k,i<k/\k<q.length/\q.getD k false=true
 ·obtain⟨k0,h0⟩:=c
  obtain⟨k,⟨h1,h2,h3⟩,h4⟩:=least (p:=fun k=>i<k/\k<q.length/\q.getD k false=true) k0 h0
  have d:∀j,i<j->j<k->q.getD j false=false:=fun j a b=>by
   have:=h4 j b
   cases hc:q.getD j false with
   |false=>rfl
   |true=>exact absurd ⟨a,by omega,hc⟩ this
  refine .inl ⟨k,h1,h2,h3,d,?_⟩
  have:=ahead_at (t:=t) hl (i:=(i:Int)) (k:=(k:Int)) (by omega) (by omega) (by omega) (fun j a b=>d j (by omega) (by omega)) h3
  exact this
 ·have  d : ∀ j, i < j → j < q.length → q.getD j false = false := fun j  a  b => by
   cases hc:q.getD j false with
   |false=>rfl
   |true=>exact absurd ⟨j,a,b,hc⟩ c
  refine .inr ⟨d,?_⟩
  exact ahead_end (t:=t) hl (i:=(i:Int)) (k:=(q.length:Int)) (by omega) (by omega) (by omega) fun j a b=>d j (by omega) (by omega)
theorem perm_sub :∀ {m l:List Int},m.Nodup->(∀x∈m,x∈l)->l.length=m.length->m.Perm l
 | [],l,_,_,h=>by rw[bF7 h]
 |x::m,l,hn,hs,h=>by
  obtain⟨b,c⟩:=List.nodup_cons.1 hn
  have hx:=hs x (by simp)
  have a:=perm_sub (l:=l.erase x) c (fun y hy=>(List.mem_erase_of_ne (fun e:y=x=>b (e▸hy))).2 (hs y (by simp[hy]))) (by rw[List.length_erase,bH3 hx,h];rfl)
  exact(a.cons x).trans (List.perm_cons_erase hx).symm
theorem idx_range {n v:Nat}(h:v<n):((List.range n).map Int.ofNat).idxOf (v:Int)=v:=by
 have hm:(v:Int)∈(List.range n).map Int.ofNat:=range_mem h
 have h1:=idx_mem hm
 have h2:=List.getElem_idxOf (x:=(v:Int)) (xs:=(List.range n).map Int.ofNat) h1
 rw[List.getElem_map,List.getElem_range]at h2
 exact Int.ofNat.inj h2
section
variable {o n:List Tree}(ho:Keys (o.map Tree.y))(hn:Keys (n.map Tree.y))(hy:∀c∈o,c.y≠ [])(hl:n.length=o.length)(hm:∀c∈n,c∈o)
include ho hy hm
theorem mt_at {i:Nat}(hi:i<n.length):∃j:Nat,j<o.length/\(mtch o n).getD i 0=j/\o.getD j zT=n.getD i zT:=by
 have hc:=bG3 hi
 obtain⟨j,hj,e⟩:=List.mem_iff_getElem.1 (hm _ (bP6 hi))
 have a:=bG3 hj
 have b:n[i].y≠ []:=hy _ (hm _ (bP6 hi))
 have hs:spotAt o j=spotAt n i:=by
  rw[spot_at hc,spot_at a,e]
  unfold spk
  rw[bH1 b,bH1 b]
 have h0:=lastIx_at hs hj
 have h1:=lastIx_lt (spotAt o) (spotAt n i) o.length
 have h2:=lastIx_eq (spotAt o) (spotAt n i) o.length h0
 have h3:=spot_inj ho (by omega) hj (h2.trans hs.symm)
 refine⟨j,hj,?_,?_⟩
 ·rw[bI2,mtch_at hi]
  show lastIx _ _ _=_
  omega
 ·rw[bI2,bI2,a,hc]
  exact e
theorem mt_nn :∀x∈mtch o n,0<=x/\x<o.length:=fun x hx=>by
 obtain⟨i,hi,e⟩:=List.mem_iff_getElem.1 hx
 rw[mtch_len]at hi
 obtain⟨j,h1,h2,_⟩:=mt_at ho hy hm hi
 rw[bI2,bG3 (by rw[mtch_len];exact hi)]at h2
 have h2:(mtch o n)[i]'(by rw[mtch_len];exact hi)=(j:Int):=h2
 omega
include hn
theorem mt_nodup :(mtch o n).Nodup:=by
 have:=(mtch_ok o hn).2
 rwa[pl_nn fun x hx=>(mt_nn ho hy hm x hx).1]at this
include hl
theorem mt_perm :(mtch o n).Perm ((List.range o.length).map Int.ofNat):=by
 refine perm_sub (mt_nodup ho hn hy hm) (fun x hx=>?_) (by rw[bH0,List.length_range,mtch_len,hl])
 obtain⟨h1,h2⟩:=mt_nn ho hy hm x hx
 exact bN4.2 ⟨x.toNat,List.mem_range.2 (by omega),Int.toNat_of_nonneg h1⟩
end
def MI (o:List Tree)(m:List Int)(i:Nat)(t:List Int)(S:Sx.Rows):Prop:=t.Perm m/\(∀p p':Nat,p<p'->p'<m.length->(p<i\/(stayM m).getD p false=true)->(p'<i\/(stayM m).getD p' false=true)->t.idxOf (m.getD p 0)<t.idxOf (m.getD p' 0))/\
 ∃ms:List (Int×Int),S=ms.map (fun x=>stp 6 [] [] [] x.1 x.2 zT)/\(∀x∈ms,2<=m.length/\0<=x.1/\x.1<(m.length:Int)/\0<=x.2/\x.2<(m.length:Int))/\mvs o ms=t.map (fun v=>o.getD v.toNat zT)/\ms.length<=i/\((∃k,k<i/\(stayM m).getD k false=true)->ms.length+1<=i)
section
variable {o n:List Tree}{m:List Int}(hmn:m.Nodup)(h0:∀x∈m,0<=x)
include hmn
theorem at_inj' {p p':Nat}(h:p<m.length)(h':p'<m.length)(e:m.getD p 0=m.getD p' 0):p=p':=by
 rw[bI2,bI2,bG3 h,bG3 h']at e
 have e:m[p]=m[p']:=e
 have hp:=List.pairwise_iff_getElem.1 hmn
 rcases Nat.lt_trichotomy p p' with c|c|c
 ·exact absurd e (hp p p' h h' c)
 ·exact c
 ·exact absurd e.symm (hp p' p h' h c)
include h0
theorem mi_step {  r : Tree → Tree → Sx.Rows → Sx.Rows} {i : Nat} {t : List Int} {S : Sx.Rows} (hi : i < m.length) (hr : ∀ P,   r (o.getD (m.getD i 0).toNat zT) (n.getD i zT) P = []) (h : MI o m i t S) :
  MI o m (i+1) (kidR r o n m (stayM m) [] i t).1 (S++(kidR r o n m (stayM m) [] i t).2):=by
 obtain⟨hp,b,Q,rfl,hb,y,V,l⟩:=h
 have D:m.getD i 0∈m:=by
  rw[bI2,bG3 hi];exact bP6 _
 have ad:=h0 _ D
 have a:∀p,p<m.length->p≠i->m.getD p 0≠m.getD i 0:=fun p hp' L e=>L (at_inj' hmn hp' hi e)
 unfold kidR
 simp only[bH1 (show¬m.getD i 0<0 by omega),hr]
 cases hq:(stayM m).getD i false with
 |true=>
  simp only[bO3,bO1]
  refine⟨hp,fun p p' h1 h2 h3 h4=>b p p' h1 h2 ?_ ?_,Q,rfl,hb,y,by omega,fun _=>by omega⟩
  ·rcases h3 with h|h
   ·by_cases e:p=i
    ·exact .inr (e▸hq)
    ·exact .inl (by omega)
   ·exact .inr h
  ·rcases h4 with h|h
   ·by_cases e:p'=i
    ·exact .inr (e▸hq)
    ·exact .inl (by omega)
   ·exact .inr h
 | false =>
  simp only[bM3,bO2,List.nil_append]
  generalize W:m.getD i 0=v at*
  have O:v∈t:=hp.mem_iff.2 D
  have f:t.Nodup:=hp.nodup_iff.2 hmn
  have I:=idx_mem O
  have g:t[t.idxOf v]=v:=List.getElem_idxOf I
  have s:t=t.take (t.idxOf v)++v::t.drop (t.idxOf v+1):=by
   have h1:=bG3 I
   rw[g]at h1
   rw[<-Sx.drop_at h1,bO5]
  have Z:del t ((t.idxOf v:Nat):Int)=t.take (t.idxOf v)++t.drop (t.idxOf v+1):=by
   unfold del
   rw[bJ2,show(((t.idxOf v:Nat):Int)+1).toNat=t.idxOf v+1 by omega]
  have J:v∉t.take (t.idxOf v):=by
   intro hc
   rw[s]at f
   have:=(List.nodup_append.1 f).2.2 v hc v (by simp)
   exact this rfl
  generalize U:t.take (t.idxOf v)=A at*
  generalize hB:t.drop (t.idxOf v+1)=B at*
  have aa:A.length=t.idxOf v:=by rw[<-U,bI6];omega
  rw[Z]
  have ab:(A++B).length+1=m.length:=by rw[<-hp.length_eq,s];simp;omega
  have K:v∉A++B:=by
   rw[s]at f
   have h1:=List.nodup_append.1 f
   have h2:=(List.nodup_cons.1 h1.2.1).1
   simp only[bI8]
   rintro (c|c)
   ·exact J c
   ·exact h2 c
  have w:∀p,p<m.length->p≠i->m.getD p 0∈A++B:=fun p h1 h2=>by
   have h3:m.getD p 0∈t:=hp.mem_iff.2 (by rw[bI2,bG3 h1];exact bP6 _)
   rw[s]at h3
   have:=a p h1 h2
   simp only[bI8,bI9]at h3⊢
   rcases h3 with h|h|h
   ·exact .inl h
   ·exact absurd h this
   ·exact .inr h
  have R:∀p p',p<m.length->p'<m.length->p≠i->p'≠i->(t.idxOf (m.getD p 0)<t.idxOf (m.getD p' 0)↔(A++B).idxOf (m.getD p 0)<(A++B).idxOf (m.getD p' 0)):=fun p p' h1 h2 h3 h4=>by
   conv=>lhs;rw[s]
   exact ord_mid (a p h1 h3) (a p' h2 h4)
  have N:m.length=(stayM m).length:=(stay_len m).symm
  have j:=ahead_cases (t:=A++B) N (i:=i) (by omega)
  generalize ac:aheadF (A++B) (m.drop (i+1)) ((stayM m).drop (i+1))=to at*
  have C:0<=to/\to<=(A++B).length:=by
   rcases j with⟨k,k1,k2,_,_,F⟩| ⟨_,F⟩
   ·have:=idx_mem (w k (by omega) (by omega));omega
   ·omega
  generalize G:(A++B).take to.toNat=X at*
  generalize H:(A++B).drop to.toNat=Y at*
  have d:A++B=X++Y:=by rw[<-G,<-H,bO5]
  have ae:(X.length:Int)=to:=by rw[<-G,bI6];omega
  have u:ins (A++B) to v=X++v::Y:=by unfold ins;rw[G,H]
  rw[u]
  have z:v∉X:=fun c=>K (by rw[d];exact bO8 _ c)
  have o2:∀p p',p<m.length->p'<m.length->p≠i->p'≠i->(t.idxOf (m.getD p 0)<t.idxOf (m.getD p' 0)↔(X++v::Y).idxOf (m.getD p 0)<(X++v::Y).idxOf (m.getD p' 0)):=fun p p' h1 h2 h3 h4=>by
   rw[R p p' h1 h2 h3 h4,d]
   exact(ord_mid (a p h1 h3) (a p' h2 h4)).symm
  have M:(X++v::Y).Perm m:=by
   refine List.Perm.trans ?_ hp
   refine List.perm_middle.trans ?_
   rw[<-d]
   rw[s]
   exact List.perm_middle.symm
  refine⟨M,fun p p' h1 h2 h3 h4=>?_,Q++ [(((t.idxOf v:Nat):Int),to)],by rw[bJ8];rfl,fun x hx=>?_,?_,by rw[bH8,List.length_singleton];omega,fun⟨k,k1,k2⟩=>?_⟩
  ·by_cases e : p = i
   ·subst e
    have q:(stayM m).getD p' false=true:=h4.resolve_left (by omega)
    rw[W]
    refine(ord_r z (a p' h2 (by omega))).2 ?_
    rw[<-d]
    rcases j with⟨k,k1,k2,k3,E,F⟩| ⟨E,F⟩
    ·by_cases  T : p' = k
     ·subst T;omega
     ·have hk : k < p' := by
       rcases Nat.lt_or_gt_of_ne T with c|c
       ·have:=E p' (by omega) c;rw[q]at this;cases this
       ·exact c
      have:=b k p' hk h2 (.inr k3) (.inr q)
      have:=(R k p' (by omega) h2 (by omega) (by omega)).1 this
      omega
    ·have:=E p' (by omega) (by omega);rw[q]at this;cases this
   ·by_cases e':p'=i
    ·subst e'
     rw[W]
     refine(ord_l z (a p (by omega) e)).2 ?_
     rw[<-d]
     rcases j with⟨k,k1,k2,k3,E,F⟩| ⟨E,F⟩
     ·have:=b p k (by omega) (by omega) (h3.imp (fun h=>by omega) id) (.inr k3)
      have:=(R p k (by omega) (by omega) e (by omega)).1 this
      omega
     ·have:=idx_mem (w p (by omega) e)
      omega
    ·refine(o2 p p' (by omega) h2 e e').1 (b p p' h1 h2 ?_ ?_)
     ·exact h3.imp (fun h=>by omega) id
     ·exact h4.imp (fun h=>by omega) id
  ·rcases bI8.1 hx with hx|hx
   ·exact hb x hx
   ·rw[bL6.1 hx]
    obtain⟨k,k1,k2⟩:=stay_some h0 (fun e=>by rw[e]at hi;simp at hi)
    have:k≠i:=fun e=>by rw[e,hq]at k2;cases k2
    have hlt:t.length=m.length:=hp.length_eq
    refine⟨by omega,by show(0:Int)<=_;omega,by show((t.idxOf v:Nat):Int)<_;omega,C.1,by show to<_;omega⟩
  ·unfold mvs
   rw[List.foldl_append]
   show mvT (mvs o Q) _ _=_
   rw[y]
   unfold mvT insT delT
   have g1:∀k:Nat,((t.map fun v=>o.getD v.toNat zT).take k)=(t.take k).map fun v=>o.getD v.toNat zT:=fun k=>List.map_take.symm
   rw[bJ2,show(((t.idxOf v:Nat):Int)+1).toNat=t.idxOf v+1 by omega,<-List.map_take,<-List.map_drop,U,hB,<-bJ8,<-List.map_take,<-List.map_drop,G,H,bJ8,bK2]
   congr 2
   rw[bI2,bK1,bG3 I,g];rfl
  ·rw[bH8,List.length_singleton]
   by_cases e:k=i
   ·rw[e,hq]at k2;cases k2
   ·have:=l ⟨k,by omega,k2⟩
    omega
end
end Go.D
