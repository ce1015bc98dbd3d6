/- The DOM: what is always so stays so: a new node.
  Conditions: none. -/
import Derived.Test.YtoegfalhkackeaaGreatK2
set_option linter.all false
noncomputable section
namespace Go.D
open Go Go.Xe Go.Sx
section
variable {D D':DM}{K a b c p k j:Nat}{s sp sc:Sl}{i g m x y:Int}{l:Ah}{n:Nod}
def DM.take_spec (w:WF D K)(r:K+1<=1000):∃(i g:Nat) (l:Ah),(D.take n).2=i/\(D.take n).1.free=l/\(D.take n).1.C=D.C/\(D.take n).1.L.length<=K+1/\(D.take n).1.L[i]? =some ⟨g,true,n⟩/\1<=g/\g<=K+1/\(∀j,j≠i->(D.take n).1.L[j]? =D.L[j]?)/\(∀s,D.L[i]? =some s->s.used=false)/\l.Nodup/\i∉l/\(∀j∈l,j∈D.free)/\(D.take n).1.L.countP (·.used)=D.L.countP (·.used)+1:=by
 have lim:=w.lim;obtain⟨o,q⟩:=w.free;unfold DM.take;by_cases e:D.free=[]
 ·have d:D.grow=⟨D.L++ [⟨1,false,K5 0 [] []⟩],[D.L.length],D.C⟩:=by unfold DM.grow;rw[Rh e]
  rw[d];simp only;have hi:(D.L++ [⟨1,false,K5 0 [] []⟩])[D.L.length]? =some (⟨1,false,K5 0 [] []⟩:Sl):=by simp
  refine⟨D.L.length,1,[],rfl,rfl,trivial,by simp;omega,by simp only[v7,if_true,hi];rfl,by omega,by omega,fun j hj=>?_,fun s hs=>?_,by simp,by simp,by simp,?_⟩;rw[v7,Re (Ne.symm hj)];by_cases h:j<D.L.length;rw[QS h];rw[Td (by simp;omega),Td (by omega)];have:=(QL.1 hs).1;omega;rw[kK hi rfl];simp
 ·have d:D.grow=D:=by unfold DM.grow;rw[Re e]
  rw[d];cases f:D.free with
  |nil=>exact absurd f e|cons i l=>rw[f]at o q;obtain⟨h1,h2⟩:=List.nodup_cons.1 o;obtain⟨s,h3,h4⟩:=q i List.mem_cons_self;have:=w.gen s (QT h3);simp only;exact⟨i,s.g,l,rfl,rfl,trivial,by simp;omega,by simp only[v7,if_true,h3];rfl,this.1,this.2,fun j hj=>by rw[v7,Re (Ne.symm hj)],fun s' hs=>by rw[h3]at hs;cases hs;exact h4,h2,h1,fun j hj=>RV _ hj,kK h3 h4⟩
def WF.cre (w:WF D K)(z:K+1<=1000){q:Int}(hq:q=1\/q=2){t x:Str}:WF (D8 D q t x).1 (K+1):=by
 have w':=w.mono (Ss K) z;unfold D8;split;exact w';obtain⟨i,g,l,Q,A,E,F,G,H,R,v,I,J,M,N,B⟩:=DM.take_spec (n:=K5 q t x) w z;have u:(((D.take (K5 q t x)).1.cnt 0).cnt 1).L=(D.take (K5 q t x)).1.L:=rfl;have un:∀ {j:Nat} {s:Sl},D.L[j]? =some s->s.used=true->j≠i:=fun h1 h2 e=>by subst e;rw[I _ h1]at h2;cases h2
 have old:∀ {j:Nat} {s:Sl},(D.take (K5 q t x)).1.L[j]? =some s->(j=i/\s=⟨g,true,K5 q t x⟩)\/(j≠i/\D.L[j]? =some s):=fun{j s} h=>by by_cases e:j=i;subst e;rw[G]at h;cases h;exact .inl ⟨rfl,rfl⟩;rw[v j e]at h;exact .inr ⟨e,h⟩
 show WF ((D.take (K5 q t x)).1.cnt 0|>.cnt 1) (K+1);refine⟨⟨F,z⟩,fun s hs=>?_,fun j s hs o=>?_,fun j s hs o=>?_,?_,fun j s hs o=>?_,?_,fun j s hs o=>?_,?_,fun j hj=>?_⟩;obtain⟨j,hj⟩:=Tf hs;rcases old hj with⟨_,rfl⟩| ⟨_,h⟩;exact⟨H,by simp only;omega⟩;have:=w.gen s (QT h);omega;rcases old hs with⟨_,rfl⟩| ⟨_,h⟩;exact .inl rfl;rcases w.par j s h o with e| ⟨p,sp,e,h1,h2,h3⟩;exact .inl e;exact .inr ⟨p,sp,e,by rw[u,v p (un h1 h2)];exact h1,h2,h3⟩;rcases old hs with⟨_,rfl⟩| ⟨_,h⟩;exact⟨List.nodup_nil,fun j hj=>by simp[K5]at hj⟩;refine⟨(w.ch j s h o).1,fun b hb=>?_⟩;obtain⟨P,h1,h2,h3⟩:=(w.ch j s h o).2 b hb;exact⟨P,by rw[u,v b (un h1 h2)];exact h1,h2,h3⟩;obtain⟨r,r1,O⟩:=w.rank;refine⟨r,fun i=>by have:=r1 i;omega,fun j s hs o b hb=>?_⟩;rcases old hs with⟨_,rfl⟩| ⟨_,h⟩;simp[K5]at hb;exact O j s h o b hb;rcases old hs with⟨_,rfl⟩| ⟨_,h⟩;exact⟨by simp[K5],by simp[K5],by simp[K5,Asc]⟩;exact w.atts j s h o;obtain⟨a,b,c,d,e,f,h,h1,h2,h3,h4⟩:=w.cnt;simp only[List.forall_mem_cons]at h4;obtain⟨S,T,U,V,W,X,Y,_⟩:=h4;refine⟨a+1,b,c,d,e,f,h,?_,?_,h3,?_⟩;show((D.take (K5 q t x)).1.C.modify 0 (· +1)).modify 1 (· +1)=_;rw[E,h1,u,B];rfl;rw[u,B];omega;simp only[List.forall_mem_cons];refine⟨?_,?_,?_,?_,?_,?_,?_,fun _ h=>by simp at h⟩<;>omega;rcases old hs with⟨_,rfl⟩| ⟨_,h⟩;exact⟨hq,fun _=>⟨rfl,rfl⟩⟩;exact w.kind j s h o;show(D.take (K5 q t x)).1.free.Nodup;rw[A];exact J;have hj:j∈(D.take (K5 q t x)).1.free:=hj;rw[A]at hj;obtain⟨s,h1,h2⟩:=w.free.2 j (N j hj);exact⟨s,by rw[u,v j (by rintro rfl;exact M hj)];exact h1,h2⟩
def MZ (w:WF D K):∀(n:Nat) {r:Nat->Nat},(∀i,r i<=K)->(∀(i:Nat) s,D.L[i]? =some s->s.used=true-> ∀j∈s.n.ch,r i<r j)-> ∀ {c:Nat} {s:Sl},D.L[c]? =some s->s.used=true->K-r c<=n-> ∀(p:Nat) (sp:Sl),p∈bel D 1001 c->D.L[p]? =some sp-> ∀b∈sp.n.ch,b∈bel D 1001 c:=by
 intro n;induction n with
 |zero=>
  intro r r1 h c s hs f hn p sp hp d b hb;rw[lR w hs f]at hp⊢;cases e:s.n.ch with
  |nil=>
   rw[e]at hp;have:p=c:=by simpa using hp
   subst this;rw[hs]at d;cases d;rw[e]at hb;simp at hb
  |cons a l=>have:=h c s hs f a (by simp[e]);have:=r1 a;omega
 |succ n o=>intro r r1 h c s hs f hn p sp hp d b hb;rw[lR w hs f]at hp⊢;rcases Rx.1 hp with rfl|hp;rw[hs]at d;cases d;exact RV _ (List.mem_flatMap.2 ⟨b,hb,hO⟩);obtain⟨j,hj,hp⟩:=List.mem_flatMap.1 hp;obtain⟨sj,k1,k2,_⟩:=(w.ch c s hs f).2 j hj;have:=h c s hs f j hj;have:=r1 j;exact RV _ (List.mem_flatMap.2 ⟨j,hj,o r1 h k1 k2 (by omega) p sp hp d b hb⟩)
def rH (w:WF D K)(hs:D.L[c]? =some s)(d:s.used=true)(hb:∃s,D.L[b]? =some s/\s.used=true):b∈bel D 1001 c↔Abv D c b:=by
 refine⟨fun h=>(X6 w hs d b h).1,fun h=>?_⟩;obtain⟨r,r1,t⟩:=w.rank;induction h with
 |here=>exact hO|up b p s' h' hp k o=>
  obtain⟨u,h1,h2⟩:=hb;rw[h']at h1;cases h1;rcases w.par b s' h' h2 with e| ⟨q,f,e,k1,k2,k3⟩;omega
  ·have:q=p:=by omega
   subst this;exact MZ w _ r1 t hs d (Ri _) q f (o ⟨f,k1,k2⟩) k1 b k3
def mF :∀ {X:Ah} {D:DM} {j:Nat} {s:Sl},X.Nodup->j∈X->D.L[j]? =some s->(X.foldl B8 D).L[j]? =some ⟨s.g+1,false,K5 0 [] []⟩
 |x::X,D,j,s,hn,h,hs=>by
  obtain⟨h1,h2⟩:=List.nodup_cons.1 hn;rw[List.foldl_cons];by_cases e:x=j;subst e;rw[J0 h1];unfold B8;simp only[v7];simp[hs]
  ·have hj:j∈X:=by rcases Rx.1 h with h|h;exact absurd h.symm e;exact h
   refine mF h2 hj ?_;unfold B8;simp only[v7];rw[Re e];exact hs
def oL :∀ {X:Ah} {D:DM},(X.foldl B8 D).free=X.reverse++D.free
 | [],_=>rfl|x::X,D=>by rw[List.foldl_cons,oL];simp[B8]
def xF (w:WF D K)(hs:D.L[c]? =some s)(o:s.used=true)(hp:s.n.par= -1){sj:Sl}(h:D.L[j]? =some sj)(d:sj.used=true)(m:j∉bel D 1001 c):(∀(q:Nat) f,sj.n.par=q->D.L[q]? =some f->f.used=true->q∉bel D 1001 c)/\ ∀b∈sj.n.ch,b∉bel D 1001 c:=by
 refine⟨fun q f e h1 h2 t=>m ((rH w hs o ⟨sj,h,d⟩).2 (.up _ _ _ h e ((rH w hs o ⟨f,h1,h2⟩).1 t))),fun b hb r=>?_⟩;obtain⟨u,h1,h2,h3⟩:=(w.ch j sj h d).2 b hb;rcases((rH w hs o ⟨u,h1,h2⟩).1 r).inv with e| ⟨q,f,k1,k2,k3⟩;subst e;rw[hs]at h1;cases h1;omega
 ·rw[h1]at k1;cases k1;have:q=j:=by omega
  subst this;exact m ((rH w hs o ⟨sj,h,d⟩).2 k3)
def WF.fre (w:WF D K)(A:K+1<=1000):WF (qW D i g).1 (K+1):=by
 have w':=w.mono (Ss K) A;unfold qW;cases hc:D.at i g with
 |none=>exact w'|some c=>
  obtain⟨s,hs,z,_⟩:=Th hc;simp only;rw[Tj hs];split;exact w';rename_i hp;have hp:s.n.par= -1:=Classical.not_not.1 hp;have hn:=R9 (f:=1001) w hs z;have u:=fun b hb=>(X6 (f:=1001) w hs z b hb).2;have v:=fun{j:Nat} {sj:Sl}=>xF (j:=j) (sj:=sj) w hs z hp;generalize bel D 1001 c=X at hn u v;have lim:=w.lim;have old:∀ {j:Nat} {s:Sl},(X.foldl B8 D).L[j]? =some s->s.used=true->j∉X/\D.L[j]? =some s:=fun{j s} h h'=>by by_cases m:j∈X;obtain⟨s',h1,_⟩:=u j m;rw[mF hn m h1]at h;cases h;cases h';rw[J0 m]at h;exact⟨m,h⟩
  have H:=dJ hn u;refine⟨⟨by show(X.foldl B8 D).L.length<=K+1;rw[sM];omega,A⟩,fun s' t=>?_,fun j s' t o=>?_,fun j s' t o=>?_,?_,fun j s' t o=>?_,?_,fun j s' t o=>?_,?_,fun j hj=>?_⟩;obtain⟨j,hj⟩:=Tf t;have hj:(X.foldl B8 D).L[j]? =some s':=hj;by_cases m:j∈X;obtain⟨s1,h1,_⟩:=u j m;rw[mF hn m h1]at hj;cases hj;have:=w.gen s1 (QT h1);simp only;omega;rw[J0 m]at hj;have:=w.gen s' (QT hj);omega;obtain⟨m,h⟩:=old t o;rcases w.par j s' h o with e| ⟨q,B,e,h1,h2,h3⟩;exact .inl e;exact .inr ⟨q,B,e,(J0 ((v h o m).1 q B e h1 h2)).trans h1,h2,h3⟩;obtain⟨m,h⟩:=old t o;refine⟨(w.ch j s' h o).1,fun b hb=>?_⟩;obtain⟨G,h1,h2,h3⟩:=(w.ch j s' h o).2 b hb;exact⟨G,(J0 ((v h o m).2 b hb)).trans h1,h2,h3⟩;obtain⟨r,r1,F⟩:=w.rank;exact⟨r,fun i=>by have:=r1 i;omega,fun j s' t o b hb=>F j s' (old t o).2 o b hb⟩;exact w.atts j s' (old t o).2 o
  ·obtain⟨a,b,c,d,e,f,h,h1,h2,h3,h4⟩:=w.cnt;simp only[List.forall_mem_cons]at h4;obtain⟨I,J,M,N,O,P,Q,_⟩:=h4;refine⟨a,b+X.length,c,d,e,f,h,?_,?_,by omega,?_⟩
   ·show(D.C.modify 0 (· -(X.length:Int))).modify 2 (· +(X.length:Int))=_;rw[h1];show [((D.L.countP (·.used):Nat):Int)-X.length,a,b+X.length,c,d,e,f,h]=_;have:((D.L.countP (·.used):Nat):Int)-X.length=(((X.foldl B8 D).L.countP (·.used):Nat):Int):=by omega
    rw[this]
   ·show a=(((X.foldl B8 D).L.countP (·.used):Nat):Int)+(b+X.length)
    omega
   simp only[List.forall_mem_cons];refine⟨?_,?_,?_,?_,?_,?_,?_,fun _ h=>by simp at h⟩<;>omega
  exact w.kind j s' (old t o).2 o;show(X.foldl B8 D).free.Nodup;rw[oL];refine Te.2 ⟨(by rw[List.Nodup,List.pairwise_reverse];exact hn.imp Ne.symm),w.free.1,fun a E b hb e=>?_⟩;subst e;obtain⟨s1,h1,h2⟩:=u a (List.mem_reverse.1 E);obtain⟨s2,k1,k2⟩:=w.free.2 a hb;rw[h1]at k1;cases k1;rw[h2]at k2;cases k2;have hj:j∈(X.foldl B8 D).free:=hj;rw[oL]at hj;by_cases m:j∈X;obtain⟨s1,h1,_⟩:=u j m;exact⟨_,mF hn m h1,rfl⟩;rcases Rw.1 hj with h|h;exact absurd (List.mem_reverse.1 h) m;obtain⟨s2,k1,k2⟩:=w.free.2 j h;exact⟨s2,(J0 m).trans k1,k2⟩
