/- What matches, what stays, and how many steps: plain lemmas.
  Conditions: none. -/
import Derived.Test.YtcjhhnoaoldcmaaGreatC6
import Derived.Test.YtcjhhnoaoldcmaaGreatA6
import Derived.Test.YtcjhhnoaoldcmaaGreatD1
set_option linter.unusedVariables false
set_option linter.unusedSimpArgs false
namespace Go.D
open Go Go.Xe Go.Sx
open Go.C36 (row t6 lis cLong cRlong longPre longRel rlongPre rlongRel)
theorem lastIx_ge (f:Nat->List KV)(s:List KV):∀n, -1<=lastIx f n s
 |0=>by unfold lastIx;omega
 |n+1=>by have:=lastIx_ge f s n;unfold lastIx;split<;>omega
theorem lastIx_lt (f:Nat->List KV)(s:List KV):∀n:Nat,lastIx f n s<n
 |0=>by unfold lastIx;omega
 |n+1=>by have:=lastIx_lt f s n;unfold lastIx;split<;>omega
theorem lastIx_eq (f:Nat->List KV)(s:List KV):∀n,0<=lastIx f n s->f (lastIx f n s).toNat=s
 |0,h=>by unfold lastIx at h;omega
 |n+1,h=>by
  have ih:=lastIx_eq f s n
  unfold lastIx at h⊢
  by_cases c:f n=s
  ·rw[bK1 c];exact c
  ·rw[bJ9 c]at h⊢;exact ih h
theorem bef_le_take {l:List Tree}{i j:Nat}(h:i<=j)(k:Int)(t:Str):bef (l.take i) k t<=bef (l.take j) k t:=
 List.Sublist.length_le (List.Sublist.filter _ (List.take_sublist_take_left h))
theorem spot_ne {l:List Tree}(hk:Keys (l.map Tree.y)){i j:Nat}(hij:i<j)(hj:j<l.length):spotAt l i≠spotAt l j:=fun e=>by
 have gi:=bJ1 (Nat.lt_trans hij hj)
 have gj:=bJ1 hj
 rw[spot_at gi,spot_at gj,spk_eq]at e
 obtain⟨e1,e2,e3,e4⟩:=e
 by_cases hy:l[j].y=[]
 ·have h:=bef_le_take (l:=l) (Nat.succ_le_of_lt hij) l[j].k l[j].t
  rw[M0 gi,bef_snoc,bK1 ⟨e1.trans hy,e2,e3⟩]at h
  have:=e4 hy
  rw[e2,e3]at this
  omega
 ·exact keys_bad (map_get gi) (map_get gj) hij hy e1 hk
theorem spot_inj {l:List Tree}(hk:Keys (l.map Tree.y)){i j:Nat}(hi:i<l.length)(hj:j<l.length)(e:spotAt l i=spotAt l j):i=j:=by
 rcases Nat.lt_trichotomy i j with h|h|h
 ·exact absurd e (spot_ne hk h hj)
 ·exact h
 ·exact absurd e.symm (spot_ne hk h hi)
theorem mtch_len (o n:List Tree):(mtch o n).length=n.length:=by unfold mtch;simp
theorem mtch_mem {o n:List Tree}{x:Int}(h:x∈mtch o n): -1<=x/\x<o.length:=by
 unfold mtch at h
 obtain⟨i,_,rfl⟩:=bQ2.mp h
 exact⟨lastIx_ge _ _ _,lastIx_lt _ _ _⟩
theorem mem_pl {m:List Int}{x:Int}:x∈pl m↔x∈m/\0<=x:=by unfold pl;simp
theorem mtch_ok (o:List Tree){n:List Tree}(hk:Keys (n.map Tree.y)):OKm (mtch o n):=by
 refine⟨fun x h=>(mtch_mem h).1,?_⟩
 unfold pl mtch
 rw[List.filter_map]
 have h1:List.Pairwise (fun i j=>spotAt n i≠spotAt n j) (List.range n.length):=List.Pairwise.imp_of_mem (fun{i j} hi hj h e=>h (spot_inj hk (List.mem_range.mp hi) (List.mem_range.mp hj) e)) List.nodup_range
 refine List.pairwise_map.mpr ((List.Pairwise.filter _ h1).imp_of_mem fun{i j} hi hj h e=>?_)
 have hi:=(List.mem_filter.mp hi).2
 have hj:=(List.mem_filter.mp hj).2
 simp only[Function.comp,bK0]at hi hj
 have a:=lastIx_eq _ _ _ hi
 have b:=lastIx_eq _ _ _ hj
 exact h (a.symm.trans ((congrArg (fun z:Int=>spotAt o z.toNat) e).trans b))
theorem okm_ne {m:List Int}(h:OKm m){i j:Nat}{x y:Int}(hi:m[i]? =some x)(hj:m[j]? =some y)(hx:0<=x)(hij:i≠j):x≠y:=by
 have key:∀ {i j:Nat} {x:Int},i<j->m[i]? =some x->m[j]? =some x->0<=x->False:=fun{i j x} hij hi hj hx=>by
  have e:m=m.take j++x::m.drop (j+1):=by rw[<-Sx.drop_at hj,bR3]
  have hn:=h.2
  rw[e]at hn
  unfold pl at hn
  rw[List.filter_append,List.filter_cons_of_pos (by simpa using hx),List.nodup_append]at hn
  refine hn.2.2 x ?_ x (List.mem_cons_self ..) rfl
  refine List.mem_filter.mpr ⟨bI9 (i:=i) ?_,by simpa using hx⟩
  rw[bL2,bK1 hij];exact hi
 intro e
 subst e
 rcases Nat.lt_or_gt_of_ne hij with c|c
 ·exact key c hi hj hx
 ·exact key c hj hi hx
theorem atF_at :∀(m:List Int) (i x:Int),x∈atF i m-> ∃v,i<=x/\m[(x-i).toNat]? =some v/\0<=v
 | [],i,x,h=>by simp[atF]at h
 |y::m,i,x,h=>by
  have ih:=atF_at m (i+1) x
  unfold atF at h
  have go:x∈atF (i+1) m-> ∃v,i<=x/\(y::m)[(x-i).toNat]? =some v/\0<=v:=fun h=>by
   obtain⟨v,h1,h2,h3⟩:=ih h
   refine⟨v,by omega,?_,h3⟩
   rw[show(x-i).toNat=(x-(i+1)).toNat+1 by omega];simpa using h2
  split at h
  ·rcases bL7.mp h with rfl|h
   ·exact⟨y,by omega,by simp,‹_›⟩
   ·exact go h
  ·exact go h
theorem putF_true (a:List Int)(i:Nat):∀(z:List Int) (o:List Bool),(H5 a true z o)[i]? =some true->o[i]? =some true\/ ∃k∈z,(a.getD k.toNat 0).toNat=i
 | [],o,h=>.inl h
 |k::z,o,h=>by
  unfold H5 at h
  rcases putF_true a i z _ h with h| ⟨j,h1,h2⟩
  ·by_cases c:(a.getD k.toNat 0).toNat=i
   ·exact .inr ⟨k,List.mem_cons_self ..,c⟩
   ·rw[List.getElem?_set_ne c]at h;exact .inl h
  ·exact .inr ⟨j,bN8 _ h1,h2⟩
theorem stay_true {m:List Int}{i:Nat}(h:(stayM m)[i]? =some true):∃x,m[i]? =some x/\0<=x:=by
 unfold stayM at h
 rcases putF_true _ _ _ _ h with h| ⟨k,h1,h2⟩
 ·rw[List.getElem?_replicate]at h
  split at h
  ·simp at h
  ·cases h
 ·obtain⟨k0,k1⟩:=lis_lt _ _ h1
  have hk:k.toNat<(atF 0 m).length:=by rw[atF_len];omega
  rw[bL0,bJ1 hk,bM1]at h2
  obtain⟨v,g1,g2,g3⟩:=atF_at m 0 _ (List.getElem_mem hk)
  exact⟨v,by rw[<-h2,<-g2];simp,g3⟩
theorem cnt_app (k:Int)(p:Nat)(S T:Sx.Rows):cnt k p (S++T)=cnt k p S+cnt k p T:=by unfold cnt;rw[List.filter_append,bK6]
theorem SOK_app {a b:Int}{p:Nat}{S T:Sx.Rows}:SOK a b p (S++T)↔SOK a b p S/\SOK a b p T:=by
 unfold SOK
 simp only[bL6]
 exact⟨fun h=>⟨fun r hr=>h r (.inl hr),fun r hr=>h r (.inr hr)⟩,fun h r hr=>hr.elim (h.1 r) (h.2 r)⟩
theorem SOK_mono {a b a' b':Int}{p q:Nat}{S:Sx.Rows}(h:SOK a b p S)(ha:a'<=a)(hb:b<=b')(hp:q<=p):SOK a' b' q S:=fun r hr=>by
 obtain⟨h1,h2,h3⟩:=h r hr
 exact⟨by omega,by omega,by omega⟩
theorem SOK_nil (a b:Int)(p:Nat):SOK a b p []:=fun r hr=>by cases hr
theorem cnt_out {a b k:Int}{p q:Nat}{S:Sx.Rows}(h:SOK a b p S)(hk:k<a\/b<k\/q<p):cnt k q S=0:=by
 unfold cnt
 rw[List.filter_eq_nil_iff.mpr fun r hr=>?_];rfl
 obtain⟨h1,h2,h3⟩:=h r hr
 simp only[bK0]
 omega
theorem negs_snoc (m:List Int)(x:Int):negs (m++ [x])=negs m+if x<0 then 1 else 0:=by
 unfold negs
 rw[List.filter_append,bK6]
 by_cases h:x<0<;>simp[h]
theorem mvs_snoc :∀(m:List Int) (q:List Bool) (x:Int) (b:Bool),m.length=q.length->mvs (m++ [x]) (q++ [b])=mvs m q+if 0<=x/\b=false then 1 else 0
 | [],[],x,b,_=>by simp[mvs]
 |y::m,c::q,x,b,h=>by
  have:=mvs_snoc m q x b (by simpa using h)
  simp only[bO1,mvs,this];omega
 | [],_::_,_,_,h=>by simp at h
 |_::_,[],_,_,h=>by simp at h
theorem there_len {m:List Int}{n:Nat}(h:(pl m).Nodup)(hn:∀x∈m,x<n):(((List.range n).map Int.ofNat).filter fun x=>decide (x∈m)).length=(pl m).length:=by
 refine List.Perm.length_eq ((List.perm_ext_iff_of_nodup ?_ h).mpr fun x=>?_)
 ·refine List.Pairwise.filter _ (List.pairwise_map.mpr (List.nodup_range.imp fun{a b} hab e=>hab (Int.ofNat.inj e)))
 ·rw[mem_pl,List.mem_filter,bQ2,bK0]
  constructor
  ·rintro ⟨⟨a,_,rfl⟩,h⟩
   exact⟨h,Int.natCast_nonneg a⟩
  ·rintro ⟨h1,h2⟩
   refine⟨⟨x.toNat,List.mem_range.mpr ?_,Int.toNat_of_nonneg h2⟩,h1⟩
   have:=hn x h1
   omega
end Go.D
