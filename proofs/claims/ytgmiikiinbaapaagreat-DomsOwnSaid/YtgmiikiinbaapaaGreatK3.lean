/- The DOM: what is always so stays so: a new node.
  Conditions: none. -/
import Derived.Test.YtgmiikiinbaapaaGreatK2
import Derived.Test.YtgmiikiinbaapaaGreatU2
set_option linter.all false
noncomputable section
namespace Go.D
open Go Go.Xe Go.Sx
section
variable {D D':DM}{K a b c p k j:Nat}{s sp sc:Sl}{i g m x y:Int}{l:Ah}{n:Nod}
def DM.take_spec (w:WF D K)(r:K+1<=1000):∃(i g:Nat) (l:Ah),(D.take n).2=i/\(D.take n).1.free=l/\(D.take n).1.C=D.C/\(D.take n).1.L.length<=K+1/\(D.take n).1.L[i]? =some ⟨g,true,n⟩/\1<=g/\g<=K+1/\(∀j,j≠i->(D.take n).1.L[j]? =D.L[j]?)/\(∀s,D.L[i]? =some s->s.used=false)/\l.Nodup/\i∉l/\(∀j∈l,j∈D.free)/\(D.take n).1.L.countP (·.used)=D.L.countP (·.used)+1:=by
 have lim:=w.lim;obtain⟨o,q⟩:=w.free;unfold DM.take;by_cases e:D.free=[]
 ·have d:D.grow=⟨D.L++ [⟨1,false,C2 0 [] []⟩],[D.L.length],D.C⟩:=by unfold DM.grow;rw[PG e]
  rw[d];simp only;have hi:(D.L++ [⟨1,false,C2 0 [] []⟩])[D.L.length]? =some (⟨1,false,C2 0 [] []⟩:Sl):=by simp
  refine⟨D.L.length,1,[],rfl,rfl,trivial,by simp;omega,by simp only[j9,QY,hi];rfl,by omega,by omega,fun j hj=>?_,fun s hs=>?_,by simp,by simp,by simp,?_⟩;rw[j9,PE (Ne.symm hj)];by_cases h:j<D.L.length;rw[Pu h];rw[Rn (by simp;omega),Rn (by omega)];have:=(Po.1 hs).1;omega;rw[jD hi rfl];simp
 ·have d:D.grow=D:=by unfold DM.grow;rw[PE e]
  rw[d];cases f:D.free with
  |nil=>exact absurd f e|cons i l=>rw[f]at o q;obtain⟨h1,h2⟩:=List.nodup_cons.1 o;obtain⟨s,h3,h4⟩:=q i List.mem_cons_self;have:=w.gen s (Pv h3);simp only;exact⟨i,s.g,l,rfl,rfl,trivial,by simp;omega,by simp only[j9,QY,h3];rfl,this.1,this.2,fun j hj=>by rw[j9,PE (Ne.symm hj)],fun s' hs=>by rw[h3]at hs;cases hs;exact h4,h2,h1,fun j hj=>Qu _ hj,jD h3 h4⟩
def WF.cre (w:WF D K)(z:K+1<=1000){q:Int}(hq:q=1\/q=2){t x:Str}:WF (P2 D q t x).1 (K+1):=by
 have w':=w.mono (QJ K) z;unfold P2;split;exact w';obtain⟨i,g,l,Q,A,E,F,G,H,R,v,I,J,M,N,B⟩:=DM.take_spec (n:=C2 q t x) w z;have u:(((D.take (C2 q t x)).1.cnt 0).cnt 1).L=(D.take (C2 q t x)).1.L:=rfl;have un:∀ {j:Nat} {s:Sl},D.L[j]? =some s->s.used=true->j≠i:=fun h1 h2 e=>by subst e;rw[I _ h1]at h2;cases h2
 have old:∀ {j:Nat} {s:Sl},(D.take (C2 q t x)).1.L[j]? =some s->(j=i/\s=⟨g,true,C2 q t x⟩)\/(j≠i/\D.L[j]? =some s):=fun{j s} h=>by by_cases e:j=i;subst e;rw[G]at h;cases h;exact .inl ⟨rfl,rfl⟩;rw[v j e]at h;exact .inr ⟨e,h⟩
 show WF ((D.take (C2 q t x)).1.cnt 0|>.cnt 1) (K+1);refine⟨⟨F,z⟩,fun s hs=>?_,fun j s hs o=>?_,fun j s hs o=>?_,?_,fun j s hs o=>?_,?_,fun j s hs o=>?_,?_,fun j hj=>?_⟩;obtain⟨j,hj⟩:=Rp hs;rcases old hj with⟨_,rfl⟩| ⟨_,h⟩;exact⟨H,by simp only;omega⟩;have:=w.gen s (Pv h);omega;rcases old hs with⟨_,rfl⟩| ⟨_,h⟩;exact .inl rfl;rcases w.par j s h o with e| ⟨p,sp,e,h1,h2,h3⟩;exact .inl e;exact .inr ⟨p,sp,e,by rw[u,v p (un h1 h2)];exact h1,h2,h3⟩;rcases old hs with⟨_,rfl⟩| ⟨_,h⟩;exact⟨List.nodup_nil,fun j hj=>by simp[C2]at hj⟩;refine⟨(w.ch j s h o).1,fun b hb=>?_⟩;obtain⟨P,h1,h2,h3⟩:=(w.ch j s h o).2 b hb;exact⟨P,by rw[u,v b (un h1 h2)];exact h1,h2,h3⟩;obtain⟨r,r1,O⟩:=w.rank;refine⟨r,fun i=>by have:=r1 i;omega,fun j s hs o b hb=>?_⟩;rcases old hs with⟨_,rfl⟩| ⟨_,h⟩;simp[C2]at hb;exact O j s h o b hb;rcases old hs with⟨_,rfl⟩| ⟨_,h⟩;exact⟨by simp[C2],by simp[C2],by simp[C2,Asc]⟩;exact w.atts j s h o;obtain⟨a,b,c,d,e,f,h,h1,h2,h3,h4⟩:=w.cnt;simp only[List.forall_mem_cons]at h4;obtain⟨S,T,U,V,W,X,Y,_⟩:=h4;refine⟨a+1,b,c,d,e,f,h,?_,?_,h3,?_⟩;show((D.take (C2 q t x)).1.C.modify 0 (· +1)).modify 1 (· +1)=_;rw[E,h1,u,B];rfl;rw[u,B];omega;simp only[List.forall_mem_cons];refine⟨?_,?_,?_,?_,?_,?_,?_,fun _ h=>by simp at h⟩<;>omega;rcases old hs with⟨_,rfl⟩| ⟨_,h⟩;exact⟨hq,fun _=>⟨rfl,rfl⟩⟩;exact w.kind j s h o;show(D.take (C2 q t x)).1.free.Nodup;rw[A];exact J;have hj:j∈(D.take (C2 q t x)).1.free:=hj;rw[A]at hj;obtain⟨s,h1,h2⟩:=w.free.2 j (N j hj);exact⟨s,by rw[u,v j (by rintro rfl;exact M hj)];exact h1,h2⟩
def Ml (w:WF D K):∀(n:Nat) {r:Nat->Nat},(∀i,r i<=K)->(∀(i:Nat) s,D.L[i]? =some s->s.used=true-> ∀j∈s.n.ch,r i<r j)-> ∀ {c:Nat} {s:Sl},D.L[c]? =some s->s.used=true->K-r c<=n-> ∀(p:Nat) (sp:Sl),p∈bel D 1001 c->D.L[p]? =some sp-> ∀b∈sp.n.ch,b∈bel D 1001 c:=by
 intro n;induction n with
 |zero=>
  intro r r1 h c s hs f hn p sp hp d b hb;rw[aO w hs f]at hp⊢;cases e:s.n.ch with
  |nil=>
   rw[e]at hp;have:p=c:=by simpa using hp
   subst this;rw[hs]at d;cases d;rw[e]at hb;simp at hb
  |cons a l=>have:=h c s hs f a (by simp[e]);have:=r1 a;omega
 |succ n o=>intro r r1 h c s hs f hn p sp hp d b hb;rw[aO w hs f]at hp⊢;rcases Qa.1 hp with rfl|hp;rw[hs]at d;cases d;exact Qu _ (List.mem_flatMap.2 ⟨b,hb,gC⟩);obtain⟨j,hj,hp⟩:=List.mem_flatMap.1 hp;obtain⟨sj,k1,k2,_⟩:=(w.ch c s hs f).2 j hj;have:=h c s hs f j hj;have:=r1 j;exact Qu _ (List.mem_flatMap.2 ⟨j,hj,o r1 h k1 k2 (by omega) p sp hp d b hb⟩)
def qN (w:WF D K)(hs:D.L[c]? =some s)(d:s.used=true)(hb:∃s,D.L[b]? =some s/\s.used=true):b∈bel D 1001 c↔Abv D c b:=by
 refine⟨fun h=>(P0 w hs d b h).1,fun h=>?_⟩;obtain⟨r,r1,t⟩:=w.rank;induction h with
 |here=>exact gC|up b p s' h' hp k o=>
  obtain⟨u,h1,h2⟩:=hb;rw[h']at h1;cases h1;rcases w.par b s' h' h2 with e| ⟨q,f,e,k1,k2,k3⟩;omega
  ·have:q=p:=by omega
   subst this;exact Ml w _ r1 t hs d (PH _) q f (o ⟨f,k1,k2⟩) k1 b k3
def kY :∀ {X:Ah} {D:DM} {j:Nat} {s:Sl},X.Nodup->j∈X->D.L[j]? =some s->(X.foldl z8 D).L[j]? =some ⟨s.g+1,false,C2 0 [] []⟩
 |x::X,D,j,s,hn,h,hs=>by
  obtain⟨h1,h2⟩:=List.nodup_cons.1 hn;rw[List.foldl_cons];by_cases e:x=j;subst e;rw[H2 h1];unfold z8;simp only[j9];simp[hs]
  ·have hj:j∈X:=by rcases Qa.1 h with h|h;exact absurd h.symm e;exact h
   refine kY h2 hj ?_;unfold z8;simp only[j9];rw[PE e];exact hs
def gE :∀ {X:Ah} {D:DM},(X.foldl z8 D).free=X.reverse++D.free
 | [],_=>rfl|x::X,D=>by rw[List.foldl_cons,gE];simp[z8]
def xB (w:WF D K)(hs:D.L[c]? =some s)(o:s.used=true)(hp:s.n.par= -1){sj:Sl}(h:D.L[j]? =some sj)(d:sj.used=true)(m:j∉bel D 1001 c):(∀(q:Nat) f,sj.n.par=q->D.L[q]? =some f->f.used=true->q∉bel D 1001 c)/\ ∀b∈sj.n.ch,b∉bel D 1001 c:=by
 refine⟨fun q f e h1 h2 t=>m ((qN w hs o ⟨sj,h,d⟩).2 (.up _ _ _ h e ((qN w hs o ⟨f,h1,h2⟩).1 t))),fun b hb r=>?_⟩;obtain⟨u,h1,h2,h3⟩:=(w.ch j sj h d).2 b hb;rcases((qN w hs o ⟨u,h1,h2⟩).1 r).inv with e| ⟨q,f,k1,k2,k3⟩;subst e;rw[hs]at h1;cases h1;omega
 ·rw[h1]at k1;cases k1;have:q=j:=by omega
  subst this;exact m ((qN w hs o ⟨sj,h,d⟩).2 k3)
def WF.fre (w:WF D K)(A:K+1<=1000):WF (eK D i g).1 (K+1):=by
 have w':=w.mono (QJ K) A;unfold eK;cases hc:D.at i g with
 |none=>exact w'|some c=>
  obtain⟨s,hs,z,_⟩:=Rr hc;simp only;rw[Rt hs];split;exact w';rename_i hp;have hp:s.n.par= -1:=Classical.not_not.1 hp;have hn:=K8 (f:=1001) w hs z;have u:=fun b hb=>(P0 (f:=1001) w hs z b hb).2;have v:=fun{j:Nat} {sj:Sl}=>xB (j:=j) (sj:=sj) w hs z hp;generalize bel D 1001 c=X at hn u v;have lim:=w.lim;have old:∀ {j:Nat} {s:Sl},(X.foldl z8 D).L[j]? =some s->s.used=true->j∉X/\D.L[j]? =some s:=fun{j s} h h'=>by by_cases m:j∈X;obtain⟨s',h1,_⟩:=u j m;rw[kY hn m h1]at h;cases h;cases h';rw[H2 m]at h;exact⟨m,h⟩
  have H:=W5 hn u;refine⟨⟨by show(X.foldl z8 D).L.length<=K+1;rw[sD];omega,A⟩,fun s' t=>?_,fun j s' t o=>?_,fun j s' t o=>?_,?_,fun j s' t o=>?_,?_,fun j s' t o=>?_,?_,fun j hj=>?_⟩;obtain⟨j,hj⟩:=Rp t;have hj:(X.foldl z8 D).L[j]? =some s':=hj;by_cases m:j∈X;obtain⟨s1,h1,_⟩:=u j m;rw[kY hn m h1]at hj;cases hj;have:=w.gen s1 (Pv h1);simp only;omega;rw[H2 m]at hj;have:=w.gen s' (Pv hj);omega;obtain⟨m,h⟩:=old t o;rcases w.par j s' h o with e| ⟨q,B,e,h1,h2,h3⟩;exact .inl e;exact .inr ⟨q,B,e,(H2 ((v h o m).1 q B e h1 h2)).trans h1,h2,h3⟩;obtain⟨m,h⟩:=old t o;refine⟨(w.ch j s' h o).1,fun b hb=>?_⟩;obtain⟨G,h1,h2,h3⟩:=(w.ch j s' h o).2 b hb;exact⟨G,(H2 ((v h o m).2 b hb)).trans h1,h2,h3⟩;obtain⟨r,r1,F⟩:=w.rank;exact⟨r,fun i=>by have:=r1 i;omega,fun j s' t o b hb=>F j s' (old t o).2 o b hb⟩;exact w.atts j s' (old t o).2 o
  ·obtain⟨a,b,c,d,e,f,h,h1,h2,h3,h4⟩:=w.cnt;simp only[List.forall_mem_cons]at h4;obtain⟨I,J,M,N,O,P,Q,_⟩:=h4;refine⟨a,b+X.length,c,d,e,f,h,?_,?_,by omega,?_⟩
   ·show(D.C.modify 0 (· -(X.length:Int))).modify 2 (· +(X.length:Int))=_;rw[h1];show [((D.L.countP (·.used):Nat):Int)-X.length,a,b+X.length,c,d,e,f,h]=_;have:((D.L.countP (·.used):Nat):Int)-X.length=(((X.foldl z8 D).L.countP (·.used):Nat):Int):=by omega
    rw[this]
   ·show a=(((X.foldl z8 D).L.countP (·.used):Nat):Int)+(b+X.length)
    omega
   simp only[List.forall_mem_cons];refine⟨?_,?_,?_,?_,?_,?_,?_,fun _ h=>by simp at h⟩<;>omega
  exact w.kind j s' (old t o).2 o;show(X.foldl z8 D).free.Nodup;rw[gE];refine Ro.2 ⟨(by rw[List.Nodup,List.pairwise_reverse];exact hn.imp Ne.symm),w.free.1,fun a E b hb e=>?_⟩;subst e;obtain⟨s1,h1,h2⟩:=u a (List.mem_reverse.1 E);obtain⟨s2,k1,k2⟩:=w.free.2 a hb;rw[h1]at k1;cases k1;rw[h2]at k2;cases k2;have hj:j∈(X.foldl z8 D).free:=hj;rw[gE]at hj;by_cases m:j∈X;obtain⟨s1,h1,_⟩:=u j m;exact⟨_,kY hn m h1,rfl⟩;rcases PZ.1 hj with h|h;exact absurd (List.mem_reverse.1 h) m;obtain⟨s2,k1,k2⟩:=w.free.2 j h;exact⟨s2,(H2 m).trans k1,k2⟩
end
def ML {G G':Nat->Nat}{n:Nod}(h1:n.par= -1\/ ∃p:Nat,n.par=p/\G p=G' p)(h2:∀j∈n.ch,G j=G' j):n.rn G=n.rn G':=by
 unfold Nod.rn;have a:hG' G n.par=hG' G' n.par:=by unfold hG';rcases h1 with e| ⟨p,e,h⟩;rw[e];rfl;rw[e,PE (by omega),PE (by omega),Qd,h]
 have b:n.ch.map (D9 G)=n.ch.map (D9 G'):=List.map_congr_left fun j hj=>by unfold D9;rw[h2 j hj]
 rw[a,b]
section
variable {D :DM}{S N S' N':Sx.Rows}{fr lv fr' lv' i g:Int}{K c:Nat}{s:Sl}
def RlX.done (h:RlX D (bel D 1001 c) S N fr lv)(w:WF D K)(hs:D.L[c]? =some s)(l:s.used=true)(hp:s.n.par= -1){C:Ak}:Rl ((bel D 1001 c).foldl z8 D).gen {(bel D 1001 c).foldl z8 D with C:=C} S N fr lv:=by
 obtain⟨T,M,rfl,rfl,h⟩:=h;have k:RlT ((bel D 1001 c).foldl z8 D).gen ((bel D 1001 c).foldl z8 D) T M fr lv:=h.regen fun j sj hj d=>by
  have hn:=K8 (f:=1001) w hs l;have a:∀ {q:Nat},q∉bel D 1001 c->D.gen q=((bel D 1001 c).foldl z8 D).gen q:=fun m=>by unfold DM.gen;rw[H2 m]
  by_cases m:j∈bel D 1001 c;obtain⟨_,s',h1,_⟩:=P0 w hs l j m;rw[kY hn m h1]at hj;cases hj;cases d;rw[H2 m]at hj;obtain⟨k1,k2⟩:=xB w hs l hp hj d m;refine ML ?_ fun b hb=>a (k2 b hb);rcases w.par j sj hj d with e| ⟨q,r,e,o,p,t⟩;exact .inl e;exact .inr ⟨q,e,a (k1 q r e o p)⟩
 exact⟨T,M,rfl,rfl,k.len,k.row,k.inj,k.free,k.nodup,k.all,k.lv⟩
def vcFre_ok :vcFre:=by
 unfold vcFre;intro i g S fr lv c0 v w x y z A B st N h;obtain⟨hi,hg,hp⟩:=h;have hp':=hp;obtain⟨D,K,⟨k,hc⟩,j⟩:=hp;have o:=k.slen j;refine U3 ⟨hi,hg,o⟩ ⟨fun hv=>?_,fun hv=>nin (nrn (ndt (C8 fun D K m j=>?_)))⟩
 ·have facts:∀ {D K},RlC D S N fr lv [c0,v,w,x,y,z,A,B]->WF D K-> ∃c s,D.at i g=some c/\D.L[c]? =some s/\s.used=true/\0<=atF S i g/\atF S i g<N.length/\((cI N (atF S i g) 7=0/\cI N (atF S i g) 8=0)↔s.n.par= -1)/\eK D i g=if s.n.par≠ -1 then(D,10)else({(bel D 1001 c).foldl z8 D with C:=(D.C.modify 0 (· -(bel D 1001 c).length)).modify 2 (· +(bel D 1001 c).length)},0):=fun{D K} m j=>by obtain⟨c,hc⟩:=m.1.vld.1 hv;obtain⟨s,h1,h2,h3,h4,h5,h6,h7,h8,h9,M,Z⟩:=m.1.flds hc;refine⟨c,s,hc,h1,h2,h6,h7,?_,?_⟩;rw[h9,M];exact j.hI_zero h1 h2;unfold eK;rw[hc];simp only;rw[h3]
  obtain⟨c,s,q,G,H,I,J,r,t⟩:=facts ⟨k,hc⟩ j;have bad:¬(cI N (atF S i g) 7=0/\cI N (atF S i g) 8=0)->vcFre0 S i g fr lv c0 v w x y z A B st N:=fun hb=>by unfold vcFre0;refine nin (nrn (ndt (C8 fun D K m j=>?_)));obtain⟨c,s,q,G,H,I,J,r,t⟩:=facts m j;rw[t,PG fun h=>hb (r.2 h)];exact⟨rfl,rfl⟩
  refine E2 ⟨hi,hg,o⟩ (C0 I J ⟨fun E=>⟨fun F=>?_,fun F=>bad fun h=>F h.2⟩,fun E=>bad fun h=>E h.1⟩);have hx:∀ {D},RlC D S N fr lv [c0,v,w,x,y,z,A,B]->RlX D [] S N fr lv:=fun h=>h.1;have us:=k.uses;have lS:X8 S<=1000:=by have:X8 S<=S.length:=List.countP_le_length;omega
  refine nin (nrn (ndi ⟨hi,hg,by show 0+X8 S<=1000;omega,rfl,D,[],K,c,k,j,q,fun _ _=>by simp⟩ fun S' fr' lv' b0 T u U V W X Y aa N' Q' W' hr=>?_));obtain⟨O,rfl,_,hF,m⟩:=hr;simp only[QE,QH]at O;obtain⟨rfl,rfl,rfl,rfl,rfl,rfl,rfl,rfl⟩:=O;have res:∀ {D K},RlC D S N' fr lv [b0,T,u,U,V,W,X,Y]->WF D K-> ∃c s,D.L[c]? =some s/\s.used=true/\s.n.par= -1/\RlX D (bel D 1001 c) S' N' fr' lv'/\Q'.length=(bel D 1001 c).length/\eK D i g=({(bel D 1001 c).foldl z8 D with C:=(D.C.modify 0 (· -(bel D 1001 c).length)).modify 2 (· +(bel D 1001 c).length)},0):=fun{D K} k j=>by
   obtain⟨c,s,q,G,H,I,J,r,t⟩:=facts k j;obtain⟨q1,q2⟩:=m D [] K c (hx k) j q fun _ _=>by simp
   have hp:=r.1 ⟨E,F⟩;exact⟨c,s,G,H,hp,by simpa using q1,by simpa using q2,by rw[t,PE (by simp[hp])]⟩
  obtain⟨c,s,k1,k2,k3,P,Q,R⟩:=res ⟨k,hc⟩ j;have bl:(bel D 1001 c).length<=1000:=by have:=W5 (K8 (f:=1001) j k1 k2) fun b hb=>(P0 j k1 k2 b hb).2;have:=List.countP_le_length (p:=fun s:Sl=>s.used) (l:=D.L);have:=j.lim;omega
  have cb:0<=b0/\b0<=1000/\0<=u/\u<=1000:=by obtain⟨a,b,c,d,e,f,h',h1,_,h3,h4⟩:=j.cnt;have:=j.lim;have:=List.countP_le_length (p:=fun s:Sl=>s.used) (l:=D.L);rw[<-hc]at h1;simp only[QE,QH]at h1;simp only[List.forall_mem_cons]at h4;omega
  have lQ:ln Q'=((bel D 1001 c).length:Int):=by simp only[ln];omega
  refine ndi (by unfold I64;omega) (ndi (by unfold I64;omega) (nin (nrn (ndt ⟨hF,fun D K k j=>?_⟩))));obtain⟨c,s,k1,k2,k3,P,Q,R⟩:=res k j;show RlC (eK D i g).1 S' N' fr' lv' _/\(0:Int)=(eK D i g).2;rw[R];refine⟨⟨P.done j k1 k2 k3,?_⟩,rfl⟩;rw[<-k.2,<-Q];rfl
 unfold eK;rw[m.1.none hv];exact⟨rfl,rfl⟩
