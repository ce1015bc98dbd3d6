/- Mounts: what mounts a tree: the condition of its contract holds.
  Conditions: none. -/
import Derived.Test.YtoegfalhkackeaaGreatN1
set_option linter.all false
noncomputable section
namespace Go.D
open Go Go.Xe Go.Sx
def MI (D:DM)(s:a9):M2 D s=(mntC (D7 D s.k s.t s.x).2.1 (D7 D s.k s.t s.x).2.2.1 (s.a.foldl (setA (D7 D s.k s.t s.x).2.1 (D7 D s.k s.t s.x).2.2.1) (D7 D s.k s.t s.x).1) s.c,(D7 D s.k s.t s.x).2.1,(D7 D s.k s.t s.x).2.2.1):=by cases s;simp only[M2];rfl
def JI (s:a9):G7 s=1+s.a.length+mcosts s.c:=by cases s;simp only[G7];rfl
def yH :∀ {l:List a9} {k:Nat} {c:a9},l[k]? =some c->mcosts (l.take k)+G7 c+1<=mcosts l
 | [],k,c,h=>by simp at h|a::l,0,c,h=>by cases h;simp[mcosts]
 |a::l,k+1,c,h=>by have:=yH (l:=l) (k:=k) (by simpa using h);simp only[List.take_succ_cons,mcosts];omega
def Dv (l:List a9)(k:Nat):mcosts (l.take k)<=mcosts l:=by have:=uD (l:=l.take k) (m:=l.drop k);rw[UX]at this;omega
def Rg {a:List Att}{j:Int}{x:Att}(h:a[j.toNat]? =some x):cS (a.map Att.row) j 0=x.n/\cS (a.map Att.row) j 1=x.v:=by unfold cS;rw[i9 h 0,i9 h 1];exact⟨rfl,rfl⟩
def MJ {D:DM}{s:a9}(h:J3 s)(e:s.k=2):M2 D s=((D7 D 2 [] s.x).1,(D7 D 2 [] s.x).2.1,(D7 D 2 [] s.x).2.2.1):=by
 cases s with
 |mk k t y a x c=>unfold J3 at h;rcases h.1 with⟨h1,_,h2,_,h3,h4⟩| ⟨h1,_⟩;have h1:k=2:=h1;have h2:t=[]:=h2;have h3:a=[]:=h3;have h4:c=[]:=h4;subst h1;subst h2;subst h3;subst h4;simp only[M2,mntC,List.foldl_nil];rfl;have h1:k=1:=h1;have e:k=2:=e;omega
def vcMn1_ok (n:Nat):vcMn1 n:=by
 unfold vcMn1;rintro k t y a x c S fr lv c0 c1 c2 c3 c4 c5 c6 c7 st N ⟨⟨s,D,K,⟨rfl,rfl,rfl,rfl,rfl,rfl⟩,G,b,d,p⟩,P⟩;have P:szRs (rows s.c)<n+1:=P;have hk:=Fs G;have ad:=JI s;refine⟨fun e2=>?_,fun e2=>?_⟩
 ·have h2:E8 s.x=true:=by rcases hk with h|h;omega;exact h.2.1
  refine nin (nrn (ndi ⟨rfl,rfl,rfl,.inr ⟨rfl,rfl⟩,D,K,b,d⟩ fun i g r S' ap aw b0 b1 b2 b3 b4 b5 b6 b7 az N' hC=>?_));obtain⟨hF,U⟩:=hC;have f:∀ {D:DM} {K:Nat},WF D K->K+G7 s<=1000->(D7 D 2 [] s.x).2.2.2=0/\U32 (D7 D 2 [] s.x).2.1/\U32 (D7 D 2 [] s.x).2.2.1:=fun w h=>LW w (by omega) (.inr ⟨rfl,h2,rfl⟩);have q:=(U D K b d).2;obtain⟨q0,R,W⟩:=f d p;have q:i=(D7 D 2 [] s.x).2.1/\g=(D7 D 2 [] s.x).2.2.1/\r=(D7 D 2 [] s.x).2.2.2:=by have:=q;simp only[Prod.ext_iff]at this;exact this
  refine nin (nrn (ndt ⟨by rw[q.2.2,q0],by rw[q.1];exact R,by rw[q.2.1];exact W,hF,fun s' D' K' h C v z l=>?_⟩));rw[u9]at h;rw[h]at C l⊢;rw[MJ G e2];obtain⟨p1,p2⟩:=U D' K' v z;refine⟨p1,?_⟩;simp only[Prod.ext_iff]at p2⊢;exact⟨p2.1,p2.2.1⟩
 ·have hk:s.k=1/\v5 s.t=true/\s.x=[]:=by rcases hk with h|h;exact h;exact absurd h.1 e2
  refine nin (nrn (ndi ⟨rfl,rfl,rfl,.inl ⟨rfl,rfl⟩,D,K,b,d⟩ fun i g r S1 X ai b0 b1 b2 b3 b4 b5 b6 b7 ba N1 hC=>?_));obtain⟨hF,U⟩:=hC;have f:∀ {D:DM} {K:Nat},RlC D S N fr lv [c0,c1,c2,c3,c4,c5,c6,c7]->WF D K->K+G7 s<=1000->RlC (D7 D s.k s.t s.x).1 S1 N1 X ai [b0,b1,b2,b3,b4,b5,b6,b7]/\WF (D7 D s.k s.t s.x).1 (K+1)/\i=(D7 D s.k s.t s.x).2.1/\g=(D7 D s.k s.t s.x).2.2.1/\r=0/\U32 i/\U32 g:=fun{D K} b w h=>by obtain⟨p1,p2⟩:=U D K b w;obtain⟨q0,R,W⟩:=LW (D:=D) (k:=1) (t:=s.t) (x:=[]) w (by omega) (.inl ⟨rfl,hk.2.1,rfl⟩);simp only[Prod.ext_iff]at p2;rw[hk.1,hk.2.2];exact⟨p1,w.cre (by omega) (.inl rfl),p2.1,p2.2.1,p2.2.2.trans q0,by rw[p2.1];exact R,by rw[p2.2.1];exact W⟩
  obtain⟨hR1,L,ei,eg,r0,ui,ug⟩:=f b d p;refine⟨fun _=>?_,fun h=>absurd r0 h⟩;refine nin (nrn (ndi ⟨rfl,by omega,by omega,Vv,fun a D K e b d p=>by simpa using b⟩ fun N2 j S2 Y aj d0 d1 d2 d3 d4 d5 d6 d7 z2 bb hI=>?_));obtain⟨z0,j0,j1,H,hI⟩:=hI;have lA:((s.a.map Att.row).length:Int)=s.a.length:=by rw[TG]
  refine⟨fun hj=>?_,fun hj=>?_⟩
  ·have ae:j<s.a.length:=by unfold ln at hj;omega
   obtain⟨x0,hx⟩:=Sx.get_at j0 ae;have a0:=Rg hx;refine ndi (by omega) (ndi hj (nin (nrn (ndi (by simp[z0]) (ndi ⟨ui,ug,by omega,_,_,hI s.a _ (K+1) rfl hR1 L (by omega),WF.setAs L (by rw[TW];omega)⟩ fun r' S3 Z ak f0 f1 f2 f3 f4 f5 f6 f7 al N3 hE=>?_)))));obtain⟨o,hE⟩:=hE;refine ndi (by unfold I64;have:=G;omega) (nin (nrn (ndi ⟨rfl,by omega,by omega,H.trans o,fun a D K e b d p=>?_⟩ (ndt (by show(_-_:Int).toNat<(_-_:Int).toNat;omega)))));obtain rfl:=bZ e;have:=(hE _ _ (hI s.a D K rfl b d p) (WF.setAs d (by rw[TW];omega))).1;rw[a0.1,a0.2]at this;rw[v7 j0 hx,List.foldl_append];exact this
  ·have F:s.a.take j.toNat=s.a:=B0 (by unfold ln at hj;omega);refine nin (nrn (ndi ⟨z0,by omega,by omega,Vv,fun c D K e _ b d p=>by simpa [mntC]using b⟩ fun N3 m S3 Z ak f0 f1 f2 f3 f4 f5 f6 f7 z3 al I=>?_));obtain⟨y0,m0,m1,o,I⟩:=I;have A:AllAs s.c:=((B9 s).1 G).2;have lC:((rows s.c).length:Int)=s.c.length:=by rw[rows,TG]
   have R2:∀ {D:DM} {K:Nat},RlC D S N fr lv [c0,c1,c2,c3,c4,c5,c6,c7]->WF D K->K+G7 s<=1000->RlC (s.a.foldl (setA i g) (D7 D s.k s.t s.x).1) S2 N2 Y aj [d0,d1,d2,d3,d4,d5,d6,d7]/\WF (s.a.foldl (setA i g) (D7 D s.k s.t s.x).1) (K+1+s.a.length):=fun{D K} b w h=>by obtain⟨k1,k2,_⟩:=f b w h;have:=hI s.a _ (K+1) rfl k1 k2 (by omega);rw[F]at this;exact⟨this,WF.setAs k2 (by omega)⟩
   obtain⟨ac,M⟩:=R2 b d p;refine⟨fun hm=>?_,fun hm=>?_⟩
   ·have ah:m<s.c.length:=by unfold ln at hm;omega
    obtain⟨u,Q⟩:=Sx.get_at m0 ah;have T:=Q9 A Q;have bg:=dP Q;have uc:=yH Q;have J:=I s.c _ _ rfl A ac M (by omega);have tk:=Dv s.c m.toNat;have E:WF _ (K+1+s.a.length+mcosts (s.c.take m.toNat)):=WF.mntC (s.c.take m.toNat) (i:=i) (g:=g) M (kT A _) (by omega);have cl:cI (rows s.c) m 0=u.k/\cS (rows s.c) m 1=u.t/\cS (rows s.c) m 2=u.y/\cL (rows s.c) m 3=u.a.map Att.row/\cS (rows s.c) m 4=u.x/\cL (rows s.c) m 5=rows u.c:=by simp only[cI,cS,cL,G5 Q,t0,t1,t2,t3,t4,t5,V8,A6,T8,and_self]
    obtain⟨g0,g1,g2,g3,g4,g5⟩:=cl;rw[g0,g1,g2,g3,g4,g5];refine ndi (by omega) (ndi hm (nin (nrn (ndi (by simp[y0]) (ndi ⟨⟨u,_,_,⟨rfl,rfl,rfl,rfl,rfl,rfl⟩,T,J,E,by omega⟩,by show szRs (rows u.c)<n;omega⟩ fun i' g' r' S4 aq ax e0 e1 e2 e3 e4 e5 e6 e7 bc N4 V=>?_)))));obtain⟨rz,ao,an,aa,V⟩:=V;obtain⟨R,W⟩:=V u _ _ ⟨rfl,rfl,rfl,rfl,rfl,rfl⟩ T J E (by omega);refine⟨fun _=>?_,fun h=>absurd rz h⟩;refine nin (nrn (ndi ⟨ui,ug,ao,an,by unfold U32;omega,by unfold U32;omega,_,_,R,WF.mnt u E T (by omega)⟩ fun r5 S5 au ay h0 h1 h2 h3 h4 h5 h6 h7 be N5 hN=>?_));obtain⟨ab,hN⟩:=hN;have av:=(bB ((B9 s).1 G).1).1;refine ndi (by unfold I64;omega) (nin (nrn (ndi ⟨rfl,by omega,by omega,(o.trans aa).trans ab,fun c D K e O b d p=>?_⟩ (ndt (by show(_-_:Int).toNat<(_-_:Int).toNat;omega)))));have e:=jF.mp e;subst e;have k3:=I s.c _ _ rfl O b d p;have kW:WF _ (K+mcosts (s.c.take m.toNat)):=WF.mntC (s.c.take m.toNat) (i:=i) (g:=g) d (kT O _) (by omega);obtain⟨p1,p2⟩:=V u _ _ ⟨rfl,rfl,rfl,rfl,rfl,rfl⟩ T k3 kW (by omega);have:=(hN _ _ p1 (WF.mnt u kW T (by omega))).1;rw[v7 m0 Q,DD];simp only[mntC];simp only[Prod.ext_iff]at p2;rw[p2.1,p2.2]at this;exact this
   have B:s.c.take m.toNat=s.c:=B0 (by unfold ln at hm;omega);refine nin (nrn (ndi (by simp[y0]) (ndt ⟨rfl,ui,ug,((hF.trans H).trans o),fun s' D' K' h C v z l=>?_⟩)));rw[u9]at h;rw[h]at C l⊢;obtain⟨k1,k2⟩:=R2 v z l;obtain⟨_,_,e1,e2,_⟩:=f v z l;have:=I s.c _ _ rfl A k1 k2 (by omega);rw[B]at this;rw[MI,<-e1,<-e2];exact⟨this,rfl⟩
open Go.Xe Go.Sx
def aP:=Eh
def I4:=E3
def cRname:=mkC "rname" [sV] aP [bV] I4
def jG:=Eh
def W8:=L7
def cRstr:=mkC "rstr" [sV] jG [bV] W8
def Gu:=zP
def H5 :Ar->Ar->Prop
 | [.int k,.str t,.str y,.lst a,.str x,.lst c],[.bool b]=>∀s:a9,isT s k t y a x c->(b=true↔aG s)
 |_,_=>False
def cOne:=mkC "one" [nV] Gu [bV] H5
def Fits (s:a9)(lv:Int):Prop:=J3 s/\(s.depth:Int)<=lv/\s.size<=64
def jB :Ar->Prop
 | [.int k,.str t,.str y,.lst a,.str x,.lst c,.int lv]=>0<=lv/\lv<=6/\ ∃s:a9,isT s k t y a x c|_=>False
def W7 :Ar->Ar->Prop
 | [.int k,.str t,.str y,.lst a,.str x,.lst c,.int lv],[.int n]=>1<=n/\n<=1000+64*lv/\ ∀s:a9,isT s k t y a x c->(n<=64↔Fits s lv)/\(n<=64->n=s.size)|_,_=>False
def pS :Ar->Nat
 | [_,_,_,_,_,_,.int lv]=>lv.toNat|_=>0
def cRcnt:=mkC "rcnt" [nV,iV] jB [iV] W7
def nR:=zP
def bM:=L3
def cRchk:=mkC "rchk" [nV] nR [iV] bM
def zE:=rB
def Kn:=J9
def Ef:=vN
def rsMu:=J9
def yT :Ar->Ar->Prop
 | [.lst L],[.int i]=>0<=i/\i<=ln L/\ ∀a:List Att,L=a.map Att.row->(∀z∈a.take i.toNat,v5 z.n=true/\E8 z.v=true)/\Asc ((a.take i.toNat).map Att.n)|_,_=>False
def oaMu:=J9
def yU :Ar->Ar->Prop
 | [.lst L,.int i],[.int k]=>0<=k/\k<=i/\i<ln L/\ ∀a:List Att,L=a.map Att.row-> ∀z∈a.take k.toNat,lt z.n (a.getD i.toNat ⟨[],[]⟩).n=true|_,_=>False
def MV :Ar->Ar->Nat
 | [_,.int i],[.int k]=>(i-k).toNat|_,_=>0
def DL :Ar->Ar->Prop
 | [.lst L],[.int i]=>0<=i/\i<=ln L/\fV ((nH L).take i.toNat)|_,_=>False
def ocMu:=J9
def yV :Ar->Ar->Prop
 | [.lst L,.int i],[.int k]=>0<=k/\k<=i/\i<ln L/\((nH L).getD i.toNat []=[]\/ ∀z∈(nH L).take k.toNat,z≠(nH L).getD i.toNat [])|_,_=>False
def JZ:=MV
def qU :Ar->Ar->Prop
 | [.lst C,.int lv],[.int i,.int n]=>0<=i/\i<=ln C/\1<=lv/\1<=n/\n<=1000+64*lv/\ ∀c:List a9,C=rows c->(n<=64↔AllAs (c.take i.toNat)/\(a9.depths (c.take i.toNat):Int)+1<=lv/\a9.sizes (c.take i.toNat)+1<=64)/\(n<=64->n=a9.sizes (c.take i.toNat)+1)|_,_=>False
def ctMu:=J9
def kE :Ay->List (Nat×(Fm->SS->J0))
 |136=>[(0,L4 U0 "rn" (N7 [(3,.int .i64)] nob) (y7 0) zE Kn)]
 |137=>[(0,L4 U0 "rs" (N7 [(3,.int .i64)] nob) (y7 0) Ef rsMu)]
 | 144 => [(0, L4 U0 "oa" (N7 [(3, .int .i64), (4, .any)] nob) (C5 1 3) yT oaMu), (2, L4 U0 "ob" (N7 [(4, .int .i64)] nob) (gh2 (C5 1 3) (y7 3)) yU MV),
   (4,L4 U0 "oc" (N7 [(5,.int .i64),(6,.any)] nob) (C5 1 5) DL ocMu),(6,L4 U0 "od" (N7 [(6,.int .i64)] nob) (gh2 (C5 1 5) (y7 5)) yV JZ)]
 |88=>[(0,L4 U0 "ct" (N7 [(6,.int .i64),(5,.int .i64)] nob) (gh2 (C5 2 5) (y7 1)) qU ctMu)]
 |_=>[]
def iI :Nat->List (Ay×Con)
 |0=>[(LVn,cYes "lives")]
 |1=>[(136,cRname),(137,cRstr),(LVn,cYes "lives")]
 |2=>[(144,cOne),(LVn,cYes "lives")]
 |_=>[(88,cRcnt),(LVn,cYes "lives")]
def uT (_:Nat)(P:Aw):G1:=[]
def QV :Ar->Prop
 | [.int k,.str t,.str y,.lst a,.str x,.lst c,.int k',.str t',.str y',.lst a',.str x',.lst c']=>(∃s:a9,isT s k t y a x c)/\ ∃s':a9,isT s' k' t' y' a' x' c'|_=>False
def AQ :Ar->Prop
 | [.int k,.str t,.str y,.lst a,.str x,.lst c,.int k',.str t',.str y',.lst a',.str x',.lst c']=>(∃s:a9,isT s k t y a x c/\J3 s)/\ ∃s':a9,isT s' k' t' y' a' x' c'/\J3 s'|_=>False
def T4 :Ar->Ar->Prop
 | [.int k,.str t,.str y,.lst a,.str x,.lst c,.int k',.str t',.str y',.lst a',.str x',.lst c'],[.int n]=>∀s s':a9,isT s k t y a x c->isT s' k' t' y' a' x' c'->(s=s'->n=1)/\(s≠s'->n=0)|_,_=>False
def CY :Ar->Nat
 | [_,_,_,_,_,.lst c,_,_,_,_,_,_]=>szRs c|_=>0
def cEqu:=mkC "equ" [nV,nV] AQ [iV] T4
def BB:=QV
def lU :Ar->Ar->Prop
 | [.int k,.str t,.str y,.lst a,.str x,.lst c,.int k',.str t',.str y',.lst a',.str x',.lst c'],[.int n]=>∀s s':a9,isT s k t y a x c->isT s' k' t' y' a' x' c'->(w9 s/\s=s'->n=1)/\(¬(w9 s/\s=s')->n=0)|_,_=>False
def cSam:=mkC "sam" [nV,nV] BB [iV] lU
def CW :Ar->Ar->Prop
 | [.lst L,.lst M],[.int i]=>0<=i/\i<=ln L/\ln L=ln M/\L.take i.toNat=M.take i.toNat|_,_=>False
def eaMu:=J9
def HL:=CW
def ecMu:=J9
def Hz :Ay->List (Nat×(Fm->SS->J0))
 |55=>[(0,L4 U0 "ea" (N7 [(5,.int .i64)] nob) (gh2 (C5 2 3) (C5 3 3)) CW eaMu),(2,L4 U0 "ec" (N7 [(6,.int .i64)] nob) (gh2 (C5 2 5) (C5 3 5)) HL ecMu)]
 |_=>[]
def Ha :Nat->List (Ay×Con)
 |0=>[(LVn,cYes "lives")]
 |_=>[(22,cRchk),(55,cEqu),(LVn,cYes "lives")]
def Nh (_:Nat)(P:Aw):G1:=[]
