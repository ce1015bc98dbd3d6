/- What matches, and what stays: plain lemmas.
  Conditions: none. -/
import Derived.Test.YtcjhhnoaoldcmaaGreatC5
import Derived.Test.YtcjhhnoaoldcmaaGreatA6
import Derived.Test.YtcjhhnoaoldcmaaGreatD1
set_option linter.unusedVariables false
set_option linter.unusedSimpArgs false
namespace Go.D
open Go Go.Xe Go.Sx
open Go.C36 (row j0 lis cLong cRlong longPre longRel rlongPre rlongRel)
mutual
theorem strip_true :∀s:Tree,strip true s=s
 | .mk k t y a x c=>by simp only[strip,bO3,strips_true c]
theorem strips_true :∀l:List Tree,strips true l=l
 | []=>rfl
 |s::l=>by simp only[strips,strip_true s,strips_true l]
end
theorem lastIx_ge (f:Nat->List KV)(s:List KV):∀n, -1<=lastIx f n s
 |0=>by unfold lastIx;omega
 |n+1=>by have:=lastIx_ge f s n;unfold lastIx;split<;>omega
theorem lastIx_lt (f:Nat->List KV)(s:List KV):∀n:Nat,lastIx f n s<n
 |0=>by unfold lastIx;omega
 |n+1=>by have:=lastIx_lt f s n;unfold lastIx;split<;>omega
theorem lastIx_eq (f:Nat->List KV)(s:List KV):∀n,0<=lastIx f n s->f (lastIx f n s).toNat=s
 |0,h=>by unfold lastIx at h;omega
 |n+1,h=>by
  have a:=lastIx_eq f s n
  unfold lastIx at h⊢
  by_cases c:f n=s
  ·rw[bH3 c];exact c
  ·rw[bH1 c]at h⊢;exact a h
theorem bef_le_take {l:List Tree}{i j:Nat}(h:i<=j)(k:Int)(t:Str):bef (l.take i) k t<=bef (l.take j) k t:=
 List.Sublist.length_le (List.Sublist.filter _ (List.take_sublist_take_left h))
theorem spot_ne {l:List Tree}(hk:Keys (l.map Tree.y)){i j:Nat}(a:i<j)(hj:j<l.length):spotAt l i≠spotAt l j:=fun e=>by
 have b:=bG3 (Nat.lt_trans a hj)
 have g:=bG3 hj
 rw[spot_at b,spot_at g,spk_eq]at e
 obtain⟨c,d,f,m⟩:=e
 by_cases hy:l[j].y=[]
 ·have h:=bef_le_take (l:=l) (Nat.succ_le_of_lt a) l[j].k l[j].t
  rw[J0 b,bef_snoc,bH3 ⟨c.trans hy,d,f⟩]at h
  have:=m hy
  rw[d,f]at this
  omega
 ·exact keys_bad (map_get b) (map_get g) a hy c hk
theorem spot_inj {l:List Tree}(hk:Keys (l.map Tree.y)){i j:Nat}(hi:i<l.length)(hj:j<l.length)(e:spotAt l i=spotAt l j):i=j:=by
 rcases Nat.lt_trichotomy i j with h|h|h
 ·exact absurd e (spot_ne hk h hj)
 ·exact h
 ·exact absurd e.symm (spot_ne hk h hi)
theorem mtch_len (o n:List Tree):(mtch o n).length=n.length:=by unfold mtch;simp
theorem mtch_mem {o n:List Tree}{x:Int}(h:x∈mtch o n): -1<=x/\x<o.length:=by
 unfold mtch at h
 obtain⟨i,_,rfl⟩:=bN4.mp h
 exact⟨lastIx_ge _ _ _,lastIx_lt _ _ _⟩
theorem mem_pl {m:List Int}{x:Int}:x∈pl m↔x∈m/\0<=x:=by unfold pl;simp
theorem mtch_ok (o:List Tree){n:List Tree}(hk:Keys (n.map Tree.y)):OKm (mtch o n):=by
 refine⟨fun x h=>(mtch_mem h).1,?_⟩
 unfold pl mtch
 rw[List.filter_map]
 have h1:List.Pairwise (fun i j=>spotAt n i≠spotAt n j) (List.range n.length):=List.Pairwise.imp_of_mem (fun{i j} hi hj h e=>h (spot_inj hk (List.mem_range.mp hi) (List.mem_range.mp hj) e)) List.nodup_range
 refine List.pairwise_map.mpr ((List.Pairwise.filter _ h1).imp_of_mem fun{i j} hi hj h e=>?_)
 have hi:=(List.mem_filter.mp hi).2
 have hj:=(List.mem_filter.mp hj).2
 simp only[Function.comp,bH2]at hi hj
 have a:=lastIx_eq _ _ _ hi
 have b:=lastIx_eq _ _ _ hj
 exact h (a.symm.trans ((congrArg (fun z:Int=>spotAt o z.toNat) e).trans b))
theorem okm_ne {m:List Int}(h:OKm m){i j:Nat}{x y:Int}(hi:m[i]? =some x)(hj:m[j]? =some y)(hx:0<=x)(a:i≠j):x≠y:=by
 have key:∀ {i j:Nat} {x:Int},i<j->m[i]? =some x->m[j]? =some x->0<=x->False:=fun{i j x} a hi hj hx=>by
  have e:m=m.take j++x::m.drop (j+1):=by rw[<-Sx.drop_at hj,bO5]
  have hn:=h.2
  rw[e]at hn
  unfold pl at hn
  rw[List.filter_append,List.filter_cons_of_pos (by simpa using hx),List.nodup_append]at hn
  refine hn.2.2 x ?_ x (List.mem_cons_self ..) rfl
  refine List.mem_filter.mpr ⟨bG1 (i:=i) ?_,by simpa using hx⟩
  rw[bI4,bH3 a];exact hi
 intro e
 subst e
 rcases Nat.lt_or_gt_of_ne a with c|c
 ·exact key c hi hj hx
 ·exact key c hj hi hx
theorem atF_at :∀(m:List Int) (i x:Int),x∈atF i m-> ∃v,i<=x/\m[(x-i).toNat]? =some v/\0<=v
 | [],i,x,h=>by simp[atF]at h
 |y::m,i,x,h=>by
  have b:=atF_at m (i+1) x
  unfold atF at h
  have a:x∈atF (i+1) m-> ∃v,i<=x/\(y::m)[(x-i).toNat]? =some v/\0<=v:=fun h=>by
   obtain⟨v,h1,h2,h3⟩:=b h
   refine⟨v,by omega,?_,h3⟩
   rw[show(x-i).toNat=(x-(i+1)).toNat+1 by omega];simpa using h2
  split at h
  ·rcases bI9.mp h with rfl|h
   ·exact⟨y,by omega,by simp,‹_›⟩
   ·exact a h
  ·exact a h
theorem putF_true (a:List Int)(i:Nat):∀(z:List Int) (o:List Bool),(D0 a true z o)[i]? =some true->o[i]? =some true\/ ∃k∈z,(a.getD k.toNat 0).toNat=i
 | [],o,h=>.inl h
 |k::z,o,h=>by
  unfold D0 at h
  rcases putF_true a i z _ h with h| ⟨j,h1,h2⟩
  ·by_cases c:(a.getD k.toNat 0).toNat=i
   ·exact .inr ⟨k,List.mem_cons_self ..,c⟩
   ·rw[List.getElem?_set_ne c]at h;exact .inl h
  ·exact .inr ⟨j,bL0 _ h1,h2⟩
theorem stay_true {m:List Int}{i:Nat}(h:(stayM m)[i]? =some true):∃x,m[i]? =some x/\0<=x:=by
 unfold stayM at h
 rcases putF_true _ _ _ _ h with h| ⟨k,h1,h2⟩
 ·rw[List.getElem?_replicate]at h
  split at h
  ·simp at h
  ·cases h
 ·obtain⟨k0,k1⟩:=lis_lt _ _ h1
  have hk:k.toNat<(atF 0 m).length:=by rw[atF_len];omega
  rw[bI2,bG3 hk,bJ3]at h2
  obtain⟨v,c,a,b⟩:=atF_at m 0 _ (bP6 hk)
  exact⟨v,by rw[<-h2,<-a];simp,b⟩
end Go.D
