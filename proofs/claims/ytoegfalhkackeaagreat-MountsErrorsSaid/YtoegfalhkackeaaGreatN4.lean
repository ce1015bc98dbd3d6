/- Mounts: what mounts a tree: the condition of its contract holds.
  Conditions: none. -/
import Derived.Test.YtoegfalhkackeaaGreatN1
set_option linter.all false
noncomputable section
namespace Go.D
open Go Go.Xe Go.Sx
def Lk (D:DM)(s:a9):gD D s=(mntC (D8 D s.k s.t s.x).2.1 (D8 D s.k s.t s.x).2.2.1 (s.a.foldl (setA (D8 D s.k s.t s.x).2.1 (D8 D s.k s.t s.x).2.2.1) (D8 D s.k s.t s.x).1) s.c,(D8 D s.k s.t s.x).2.1,(D8 D s.k s.t s.x).2.2.1):=by cases s;simp only[gD];rfl
def Iv (s:a9):M2 s=1+s.a.length+mcosts s.c:=by cases s;simp only[M2];rfl
def xS :∀ {l:List a9} {k:Nat} {c:a9},l[k]? =some c->mcosts (l.take k)+M2 c+1<=mcosts l
 | [],k,c,h=>by simp at h|a::l,0,c,h=>by cases h;simp[mcosts]
 |a::l,k+1,c,h=>by have:=xS (l:=l) (k:=k) (by simpa using h);simp only[List.take_succ_cons,mcosts];omega
def CO (l:List a9)(k:Nat):mcosts (l.take k)<=mcosts l:=by have:=tJ (l:=l.take k) (m:=l.drop k);rw[SP]at this;omega
def Pu {a:List Att}{j:Int}{x:Att}(h:a[j.toNat]? =some x):cS (a.map Att.row) j 0=x.n/\cS (a.map Att.row) j 1=x.v:=by unfold cS;rw[l6 h 0,l6 h 1];exact⟨rfl,rfl⟩
def Ll {D:DM}{s:a9}(h:U7 s)(e:s.k=2):gD D s=((D8 D 2 [] s.x).1,(D8 D 2 [] s.x).2.1,(D8 D 2 [] s.x).2.2.1):=by
 cases s with
 |mk k t y a x c=>unfold U7 at h;rcases h.1 with⟨h1,_,h2,_,h3,h4⟩| ⟨h1,_⟩;have h1:k=2:=h1;have h2:t=[]:=h2;have h3:a=[]:=h3;have h4:c=[]:=h4;subst h1;subst h2;subst h3;subst h4;simp only[gD,mntC,List.foldl_nil];rfl;have h1:k=1:=h1;have e:k=2:=e;omega
def vcMn1_ok (n:Nat):vcMn1 n:=by
 unfold vcMn1;rintro k t y a x c S fr lv c0 c1 c2 c3 c4 c5 c6 c7 st N ⟨⟨s,D,K,⟨rfl,rfl,rfl,rfl,rfl,rfl⟩,H,b,d,p⟩,Q⟩;have Q:szRs (rows s.c)<n+1:=Q;have hk:=JV H;have ah:=Iv s;refine⟨fun F=>?_,fun F=>?_⟩
 ·have h2:N9 s.x=true:=by rcases hk with h|h;omega;exact h.2.1
  refine nin (nrn (ndi ⟨rfl,rfl,rfl,.inr ⟨rfl,rfl⟩,D,K,b,d⟩ fun i g r S' au ay b0 b1 b2 b3 b4 b5 b6 b7 bb N' hC=>?_));obtain⟨hF,V⟩:=hC;have f:∀ {D:DM} {K:Nat},WF D K->K+M2 s<=1000->(D8 D 2 [] s.x).2.2.2=0/\U32 (D8 D 2 [] s.x).2.1/\U32 (D8 D 2 [] s.x).2.2.1:=fun w h=>zY w (by omega) (.inr ⟨rfl,h2,rfl⟩);have q:=(V D K b d).2;obtain⟨q0,T,X⟩:=f d p;have q:i=(D8 D 2 [] s.x).2.1/\g=(D8 D 2 [] s.x).2.2.1/\r=(D8 D 2 [] s.x).2.2.2:=by have:=q;simp only[Prod.ext_iff]at this;exact this
  refine nin (nrn (ndt ⟨by rw[q.2.2,q0],by rw[q.1];exact T,by rw[q.2.1];exact X,hF,fun s' D' K' h C v z l=>?_⟩));rw[y6]at h;rw[h]at C l⊢;rw[Ll H F];obtain⟨p1,p2⟩:=V D' K' v z;refine⟨p1,?_⟩;simp only[Prod.ext_iff]at p2⊢;exact⟨p2.1,p2.2.1⟩
 ·have hk:s.k=1/\C9 s.t=true/\s.x=[]:=by rcases hk with h|h;exact h;exact absurd h.1 F
  refine nin (nrn (ndi ⟨rfl,rfl,rfl,.inl ⟨rfl,rfl⟩,D,K,b,d⟩ fun i g r S1 Y ak b0 b1 b2 b3 b4 b5 b6 b7 bc N1 hC=>?_));obtain⟨hF,V⟩:=hC;have f:∀ {D:DM} {K:Nat},RlC D S N fr lv [c0,c1,c2,c3,c4,c5,c6,c7]->WF D K->K+M2 s<=1000->RlC (D8 D s.k s.t s.x).1 S1 N1 Y ak [b0,b1,b2,b3,b4,b5,b6,b7]/\WF (D8 D s.k s.t s.x).1 (K+1)/\i=(D8 D s.k s.t s.x).2.1/\g=(D8 D s.k s.t s.x).2.2.1/\r=0/\U32 i/\U32 g:=fun{D K} b w h=>by obtain⟨p1,p2⟩:=V D K b w;obtain⟨q0,T,X⟩:=zY (D:=D) (k:=1) (t:=s.t) (x:=[]) w (by omega) (.inl ⟨rfl,hk.2.1,rfl⟩);simp only[Prod.ext_iff]at p2;rw[hk.1,hk.2.2];exact⟨p1,w.cre (by omega) (.inl rfl),p2.1,p2.2.1,p2.2.2.trans q0,by rw[p2.1];exact T,by rw[p2.2.1];exact X⟩
  obtain⟨ad,M,ei,eg,r0,ui,ug⟩:=f b d p;refine⟨fun _=>?_,fun h=>absurd r0 h⟩;refine nin (nrn (ndi ⟨rfl,by omega,by omega,To,fun a D K e b d p=>by simpa using b⟩ fun N2 j S2 Z al d0 d1 d2 d3 d4 d5 d6 d7 z2 be hI=>?_));obtain⟨z0,j0,j1,I,hI⟩:=hI;have lA:((s.a.map Att.row).length:Int)=s.a.length:=by rw[Rc]
  refine⟨fun hj=>?_,fun hj=>?_⟩
  ·have ai:j<s.a.length:=by unfold ln at hj;omega
   obtain⟨x0,hx⟩:=Sx.get_at j0 ai;have a0:=Pu hx;refine ndi (by omega) (ndi hj (nin (nrn (ndi (by simp[z0]) (ndi ⟨ui,ug,by omega,_,_,hI s.a _ (K+1) rfl ad M (by omega),WF.setAs M (by rw[Ru];omega)⟩ fun r' S3 aa an f0 f1 f2 f3 f4 f5 f6 f7 ao N3 hE=>?_)))));obtain⟨o,hE⟩:=hE;refine ndi (by unfold I64;have:=H;omega) (nin (nrn (ndi ⟨rfl,by omega,by omega,I.trans o,fun a D K e b d p=>?_⟩ (ndt (by show(_-_:Int).toNat<(_-_:Int).toNat;omega)))));obtain rfl:=bG e;have:=(hE _ _ (hI s.a D K rfl b d p) (WF.setAs d (by rw[Ru];omega))).1;rw[a0.1,a0.2]at this;rw[B3 j0 hx,List.foldl_append];exact this
  ·have G:s.a.take j.toNat=s.a:=F7 (by unfold ln at hj;omega);refine nin (nrn (ndi ⟨z0,by omega,by omega,To,fun c D K e _ b d p=>by simpa [mntC]using b⟩ fun N3 m S3 aa an f0 f1 f2 f3 f4 f5 f6 f7 z3 ao J=>?_));obtain⟨y0,m0,m1,o,J⟩:=J;have A:AllAs s.c:=((H2 s).1 H).2;have lC:((rows s.c).length:Int)=s.c.length:=by rw[rows,Rc]
   have R2:∀ {D:DM} {K:Nat},RlC D S N fr lv [c0,c1,c2,c3,c4,c5,c6,c7]->WF D K->K+M2 s<=1000->RlC (s.a.foldl (setA i g) (D8 D s.k s.t s.x).1) S2 N2 Z al [d0,d1,d2,d3,d4,d5,d6,d7]/\WF (s.a.foldl (setA i g) (D8 D s.k s.t s.x).1) (K+1+s.a.length):=fun{D K} b w h=>by obtain⟨k1,k2,_⟩:=f b w h;have:=hI s.a _ (K+1) rfl k1 k2 (by omega);rw[G]at this;exact⟨this,WF.setAs k2 (by omega)⟩
   obtain⟨ae,O⟩:=R2 b d p;refine⟨fun hm=>?_,fun hm=>?_⟩
   ·have aj:m<s.c.length:=by unfold ln at hm;omega
    obtain⟨u,R⟩:=Sx.get_at m0 aj;have U:=bU A R;have bi:=nA R;have uc:=xS R;have L:=J s.c _ _ rfl A ae O (by omega);have tk:=CO s.c m.toNat;have E:WF _ (K+1+s.a.length+mcosts (s.c.take m.toNat)):=WF.mntC (s.c.take m.toNat) (i:=i) (g:=g) O (jR A _) (by omega);have cl:cI (rows s.c) m 0=u.k/\cS (rows s.c) m 1=u.t/\cS (rows s.c) m 2=u.y/\cL (rows s.c) m 3=u.a.map Att.row/\cS (rows s.c) m 4=u.x/\cL (rows s.c) m 5=rows u.c:=by simp only[cI,cS,cL,L2 R,t0,t1,t2,t3,t4,t5,Z4,C5,V2,and_self]
    obtain⟨g0,g1,g2,g3,g4,g5⟩:=cl;rw[g0,g1,g2,g3,g4,g5];refine ndi (by omega) (ndi hm (nin (nrn (ndi (by simp[y0]) (ndi ⟨⟨u,_,_,⟨rfl,rfl,rfl,rfl,rfl,rfl⟩,U,L,E,by omega⟩,by show szRs (rows u.c)<n;omega⟩ fun i' g' r' S4 av az e0 e1 F e3 e4 e5 e6 e7 bg N4 W=>?_)))));obtain⟨rz,aq,ap,ab,W⟩:=W;obtain⟨T,X⟩:=W u _ _ ⟨rfl,rfl,rfl,rfl,rfl,rfl⟩ U L E (by omega);refine⟨fun _=>?_,fun h=>absurd rz h⟩;refine nin (nrn (ndi ⟨ui,ug,aq,ap,by unfold U32;omega,by unfold U32;omega,_,_,T,WF.mnt u E U (by omega)⟩ fun r5 S5 aw ba h0 h1 h2 h3 h4 h5 h6 h7 bh N5 hN=>?_));obtain⟨ac,hN⟩:=hN;have ax:=(hM ((H2 s).1 H).1).1;refine ndi (by unfold I64;omega) (nin (nrn (ndi ⟨rfl,by omega,by omega,(o.trans ab).trans ac,fun c D K e P b d p=>?_⟩ (ndt (by show(_-_:Int).toNat<(_-_:Int).toNat;omega)))));have e:=iJ.mp e;subst e;have k3:=J s.c _ _ rfl P b d p;have kW:WF _ (K+mcosts (s.c.take m.toNat)):=WF.mntC (s.c.take m.toNat) (i:=i) (g:=g) d (jR P _) (by omega);obtain⟨p1,p2⟩:=W u _ _ ⟨rfl,rfl,rfl,rfl,rfl,rfl⟩ U k3 kW (by omega);have:=(hN _ _ p1 (WF.mnt u kW U (by omega))).1;rw[B3 m0 R,CU];simp only[mntC];simp only[Prod.ext_iff]at p2;rw[p2.1,p2.2]at this;exact this
   have B:s.c.take m.toNat=s.c:=F7 (by unfold ln at hm;omega);refine nin (nrn (ndi (by simp[y0]) (ndt ⟨rfl,ui,ug,((hF.trans I).trans o),fun s' D' K' h C v z l=>?_⟩)));rw[y6]at h;rw[h]at C l⊢;obtain⟨k1,k2⟩:=R2 v z l;obtain⟨_,_,e1,F,_⟩:=f v z l;have:=J s.c _ _ rfl A k1 k2 (by omega);rw[B]at this;rw[Lk,<-e1,<-F];exact⟨this,rfl⟩
