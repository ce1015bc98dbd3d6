/- DiffsApply: down to a child, and up again with a changed one.
  Conditions: none. -/
import Derived.Test.YtcjhhnoaoldcmaaGreatS1
set_option linter.all false
noncomputable section
namespace Go.D
open Go Go.Xe Go.Sx
open Go.C36 (row)
def uU (t:a8)(j:Nat)(s:a8):a8:= .mk t.k t.t t.y t.a t.x (t.c.set j s)
theorem TB.child {H:FB}{S:Ah}{t:a8}{g:Ad}(h:TB H S t g)(C:S.Nodup){j:Nat}{s:a8}(hj:t.c[j]? =some s):∃ic oc c N cc S1,g 5=some (.slice (some ⟨ic,oc,none⟩) t.c.length c)/\H ic=some (.cells cc N tN 6)/\oc+j*6+6<=N/\TB H S1 s (at6 cc (oc+j*6))/\ic∈S/\ic∉S1/\S1.Nodup/\(∀q∈S1,q∈S)/\ ∀(D:FB) (S2:Ah) (s':a8) (m:Ao),D ic=some (.cells m N tN 6)->(∀q,q<oc+j*6\/oc+j*6+6<=q->m.get q=cc.get q)->(∀q∈S,q≠ic->q∉S1->D q=H q)->(∀q∈S2,q∈S1\/q∉S)->S2.Nodup->TB D S2 s' (at6 m (oc+j*6))-> ∃S',TB D S' (uU t j s') g/\S'.Nodup/\ ∀q∈S',q∈S/\(q∉S1)\/q∈S2:=by
 obtain⟨_,_,va,vc,ia,ic,oa,oc,ca,cc,Ss,hf,h3,h5,ha,hac,hc,hl,hb,hba,hk⟩:=h;have I:=(JO.1 hj).1;rcases hc with⟨e,_⟩| ⟨i,c,N,rfl,rfl,F,hH,hN⟩
 ·omega
 have B:j<Ss.length:=by rw[hl];exact I
 obtain⟨S1,z⟩:∃S1,Ss[j]? =some S1:=⟨_,JX B⟩
 have J:=(LS.1 C).2.1;have r:=(LS.1 C).2.2;have w:(i::Ss.flatten).Nodup:=J;have n:i∉Ss.flatten:=(List.nodup_cons.1 w).1;have v:Ss.flatten.Nodup:=(List.nodup_cons.1 w).2;have f:∀q∈S1,q∈Ss.flatten:=fun q hq=>I7 z hq;have u:∀q∈Ss.flatten,q∈ia.toList++((some i).toList++Ss.flatten):=fun q hq=>Lv _ (by grind);refine⟨i,oc,c,N,cc,S1,h5,hH,by omega,hk j s S1 hj z,Lv _ (by grind),fun h=>n (f i h),(List.pairwise_flatten.1 v).1 S1 (by grind),fun q hq=>u q (f q hq),?_⟩;intro D S2 s' m K hw G A L ht;have d:∀k S0,k≠j->Ss[k]? =some S0-> ∀q∈S0,q≠i/\q∉S1:=fun k S0 b a q hq=>⟨fun e=>n (by rw[<-e];exact I7 a hq),fun h=>by
  have hp:=List.pairwise_iff_getElem.1 (List.pairwise_flatten.1 v).2;obtain⟨a1,a2⟩:=JO.1 a;obtain⟨b1,b2⟩:=JO.1 z;rcases Nat.lt_or_gt_of_ne b with hlt|hlt
  ·have:=hp k j a1 b1 hlt;rw[a2,b2]at this;exact this q hq q h rfl
  ·have:=hp j k b1 a1 hlt;rw[a2,b2]at this;exact this q h q hq rfl⟩
 have o:∀q∈ia.toList,q≠i/\q∉S1:=fun q hq=>⟨fun e=>r q hq i (by simp) e,fun h=>r q hq q (Lv _ (f q h)) rfl⟩
 have mem:∀q∈(Ss.set j S2).flatten,(q∈Ss.flatten/\q∉S1)\/q∈S2:=fun q hq=>by
  obtain⟨S0,a,hq⟩:=List.mem_flatten.1 hq;obtain⟨k,hk⟩:=LU a;by_cases b:k=j
  ·subst b;rw[List.getElem?_set_self B]at hk;cases hk;exact .inr hq
  ·rw[List.getElem?_set_ne (fun e=>b e.symm)]at hk;exact .inl ⟨I7 hk hq,(d k S0 b hk q hq).2⟩
 have E:∀q∈S2,q≠i/\q∉ia.toList:=fun q hq=>by
  rcases A q hq with h|h
  ·exact⟨fun e=>n (by grind),fun e=>(o q e).2 h⟩
  ·exact⟨fun e=>h (by grind),fun e=>h (LG _ e)⟩
 refine⟨ia.toList++((some i).toList++(Ss.set j S2).flatten),?_,?_,?_⟩
 ·refine .mk (uU t j s') g va _ ia (some i) oa oc ca m (Ss.set j S2) hf h3 h5 (ha.frame fun q hq=>G q (LG _ hq) (o q hq).1 (o q hq).2) hac ?_ ?_ ?_ hba ?_
  ·refine .inr ⟨i,c,N,rfl,by show _=Value.slice _ (t.c.set j s').length c;rw[List.length_set],?_,K,?_⟩
   ·show wd (t.c.set j s').length c;rw[List.length_set];exact F
   ·show oc+(t.c.set j s').length*6<=N;rw[List.length_set];exact hN
  ·show(Ss.set j S2).length=(t.c.set j s').length;rw[List.length_set,List.length_set];exact hl
  ·show(t.c.set j s').length<=1000;rw[List.length_set];exact hb
  ·intro k s0 S0 l a;have l:(t.c.set j s')[k]? =some s0:=l;by_cases b:k=j
   ·subst b;rw[List.getElem?_set_self I]at l;rw[List.getElem?_set_self B]at a;cases l;cases a;exact ht
   ·rw[List.getElem?_set_ne (fun e=>b e.symm)]at l a;refine((hk k s0 S0 l a).frame fun q hq=>G q (u q (I7 a hq)) (d k S0 b a q hq).1 (d k S0 b a q hq).2).win fun q hq=>hw _ ?_;rcases Nat.lt_or_gt_of_ne b with h|h
    ·left;omega
    ·right;omega
 ·refine LS.2 ⟨(LS.1 C).1,List.nodup_cons.2 ⟨fun h=>?_,List.pairwise_flatten.2 ⟨fun S0 a=>?_,List.pairwise_iff_getElem.2 fun x y hx hy O p hp q hq=>?_⟩⟩,fun p hp q hq e=>?_⟩
  ·rcases mem i h with⟨h,_⟩|h
   ·exact n h
   ·exact(E i h).1 rfl
  ·rcases List.mem_or_eq_of_mem_set a with h|rfl
   ·exact(List.pairwise_flatten.1 v).1 S0 h
   ·exact L
  ·rw[List.length_set]at hx hy;have M:=List.pairwise_iff_getElem.1 (List.pairwise_flatten.1 v).2 x y hx hy O;rw[List.getElem_set]at hp hq;by_cases ex:j=x
   ·subst ex;rw[Ki rfl]at hp;rw[Kg (by omega)]at hq;intro e;subst e;have hm:=JX hy;rcases A p hp with h|h
    ·exact(d y _ (by omega) hm p hq).2 h
    ·exact h (u p (I7 hm hq))
   ·rw[Kg ex]at hp;by_cases P:j=y
    ·subst P;rw[Ki rfl]at hq;intro e;subst e;have hm:=JX hx;rcases A p hq with h|h
     ·exact(d x _ (by omega) hm p hp).2 h
     ·exact h (u p (I7 hm hp))
    ·rw[Kg P]at hq;exact M p hp q hq
  ·subst e;rcases Kx.1 hq with hq|hq
   ·exact(o p hp).1 (by grind)
   ·rcases mem p hq with⟨h,_⟩|h
    ·exact r p hp p (by grind) rfl
    ·exact(E p h).2 hp
 ·intro q hq;rcases Kx.1 hq with hq|hq
  ·exact .inl ⟨LG _ hq,(o q hq).2⟩
  ·rcases Kx.1 hq with hq|hq
   ·have e:q=i:=by simpa using hq
    subst e;exact .inl ⟨Lv _ (LG _ (by simp)),fun h=>n (f _ h)⟩
   ·rcases mem q hq with⟨h,h'⟩|h
    ·exact .inl ⟨u q h,h'⟩
    ·exact .inr h
end Go.D
noncomputable section
namespace Go.D
open Go Go.Xe Go.Sx
open Go.C36 (row)
def Ca :a8->Ah->Bc a8
 |t,[]=>some t|t,j::p=>match t.c[j]? with
  |some s=>Ca s p|none=>none
def BB :a8->Ah->a8->a8
 |t,[],s=>s|t,j::p,s=>match t.c[j]? with
  |some c=>uU t j (BB c p s)|none=>t
inductive Loc (H:FB):Nat->Nat->Ah->Nat->Nat->Prop
 |nil (iw ow:Nat):Loc H iw ow [] iw ow
 |cons (iw ow ic oc j l c N:Nat) (p:Ah) (il ol:Nat) (cs:Ao) (hH:H iw=some (.cells cs N tN 6)) (hN:ow+6<=N) (h5:cs.get (ow+5)=some (.slice (some ⟨ic,oc,none⟩) l c)) (hj:j<l) (h:Loc H ic (oc+j*6) p il ol):Loc H iw ow (j::p) il ol
def UpT (H:FB)(S S1:Ah)(t:a8)(p:Ah)(iw ow N:Nat)(cs:Ao)(il ol Nl:Nat)(csl:Ao):Prop:=
 ∀(H':FB) (S2:Ah) (s':a8) (csl':Ao),H' il=some (.cells csl' Nl tN 6)->(∀q,q<ol\/ol+6<=q->csl'.get q=csl.get q)->(∀q,q=iw\/q∈S->q≠il->q∉S1->H' q=H q)->(∀q∈S2,q∈S1\/(q∉S/\q≠iw))->il∉S2->S2.Nodup->TB H' S2 s' (at6 csl' ol)->
  ∃S' cs',H' iw=some (.cells cs' N tN 6)/\(∀q,q<ow\/ow+6<=q->cs'.get q=cs.get q)/\TB H' S' (BB t p s') (at6 cs' ow)/\S'.Nodup/\iw∉S'/\ ∀q∈S',(q∈S/\q∉S1)\/q∈S2
theorem TB.path {H:FB}:∀(p:Ah) {S:Ah} {t s:a8} {iw ow N:Nat} {cs:Ao},TB H S t (at6 cs ow)->S.Nodup->iw∉S->H iw=some (.cells cs N tN 6)->ow+6<=N->Ca t p=some s-> ∃il ol Nl csl S1,H il=some (.cells csl Nl tN 6)/\ol+6<=Nl/\TB H S1 s (at6 csl ol)/\il∉S1/\S1.Nodup/\(∀q∈S1,q∈S)/\(il=iw\/il∈S)/\Loc H iw ow p il ol/\UpT H S S1 t p iw ow N cs il ol Nl csl
 | [],S,t,s,iw,ow,N,cs,h,g,hi,hH,hN,hs=>by cases hs;refine⟨iw,ow,N,cs,S,hH,hN,h,hi,g,fun q h=>h,.inl rfl,.nil _ _,?_⟩;intro l S2 s' csl' b hw v u d f ht;exact⟨S2,csl',b,hw,ht,f,d,fun q hq=>.inr hq⟩
 |j::p,S,t,s,iw,ow,N,cs,h,g,hi,hH,hN,hs=>by
  unfold Ca at hs;cases hc:t.c[j]? with
  |none=>grind|some c=>
  rw[hc]at hs;obtain⟨ic,oc,cap,Q,cc,B,C,o,r,y,z,i,x,a,up⟩:=h.child g hc;obtain⟨il,ol,Nl,csl,S1,k1,k2,k3,D,E,A,F,kl,G⟩:=TB.path p y x i o r hs;have k:=F.elim (by grind) fun e=>a _ e;refine⟨il,ol,Nl,csl,S1,k1,k2,k3,D,E,fun q hq=>a q (A q hq),.inr k,.cons iw ow ic oc j _ _ N p il ol cs hH hN C (JO.1 hc).1 kl,?_⟩;intro l S2 s' csl' b hw v u d f ht;obtain⟨S',n,I,J,K,L,R,M⟩:=G l S2 s' csl' b hw (by grind) (by grind) d f ht;obtain⟨m,U,O,P⟩:=up l S' (BB c p s') n I (fun q hq=>J q (by omega)) (by grind) (by grind) L K;have w:iw≠il:=fun e=>hi (by grind);refine⟨m,cs,by grind,fun _ _=>rfl,?_,O,fun e=>?_,fun q hq=>?_⟩
  ·unfold BB;grind
  ·grind
  ·rcases P q hq with⟨e,e'⟩|e
   ·exact .inl ⟨e,fun h=>e' (A q h)⟩
   ·rcases M q e with⟨e,e'⟩|e
    ·exact .inl ⟨a q e,e'⟩
    ·grind
end Go.D
