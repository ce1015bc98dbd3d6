/- The DOM: Move: the condition holds.
  Conditions: none. -/
import Derived.Test.YtoegfalhkackeaaGreatB12
set_option maxRecDepth 100000
set_option linter.all false
noncomputable section
namespace Go.D
open Go Go.Xe Go.Sx
section
variable {D :DM}{S N S' N' st B:Sx.Rows}{fr lv i g j m x y c0 c1 c2 c3 c4 c5 c6 c7:Int}{K c p k:Nat}{G:Nat->Nat}{cs:Ak}{Lr:Sx.Rows}{l:Ah}{t a n q:Int}
def LX (hn:l.Nodup)(hc:c∈l)(ht:t=(l.idxOf c:Nat))(he:n=(l.length:Int)-(t+1)):pQ (l.map (z9 G)) 0 t++pQ (l.map (z9 G)) (t+1) n=(aQ l c).map (z9 G):=by
 have d:=tQ hc;subst ht he;rw[X6,X6,<-Ui,<-Ce hn hc];congr 1;generalize l.idxOf c=t at*;have b:((t:Int)+1).toNat=t+1:=by omega
 have a2:((l.length:Int)-((t:Int)+1)).toNat=l.length-(t+1):=by omega
 rw[b,a2,Uc,Int.toNat_zero,UZ,Uk (l:=l.drop (t+1)) (by simp)]
def PZ (hn:l.Nodup)(hc:c∈l):(aQ l c).length+1=l.length:=by have b:=tQ hc;rw[<-Ce hn hc];simp;omega
def Cd {b:Nat}:b∈aQ l c↔b∈l/\b≠c:=by unfold aQ;simp
def paI (S N:Sx.Rows)(i g:Int):Int:=atF S (cI N (atF S i g) 7) (cI N (atF S i g) 8)
def paL (S N:Sx.Rows)(i g:Int):Sx.Rows:=cL N (paI S N i g) 9
def deL (S N:Sx.Rows)(i g:Int):Sx.Rows:=pQ (d8 2 0 []++paL S N i g) 0 (plF (paL S N i g) i g)++pQ (d8 2 0 []++paL S N i g) (plF (paL S N i g) i g+1) (ln (paL S N i g)-(plF (paL S N i g) i g+1))
structure MvH (S N:Sx.Rows)(fr lv i g x y:Int)(cs:Ak):Prop where
 hp:∃D K,RlC D S N fr lv cs/\WF D K
 hv:K0 S i g=true
 hn:¬(cI N (atF S i g) 7=0/\cI N (atF S i g) 8=0)
 hx:(x=0/\y=0)\/K0 S x y=true
 hi:U32 i
 hg:U32 g
 ux:U32 x
 uy:U32 y
def MvH.facts (h:MvH S N fr lv i g x y cs)(w:RlC D S N fr lv cs)(z:WF D K):∃(c q:Nat) (a:Int) (d:Sl),D.at i g=some c/\D.opt x y=some a/\(D.nod c).par=q/\D.at (cI N (atF S i g) 7) (cI N (atF S i g) 8)=some q/\D.L[q]? =some d/\d.used=true/\c∈d.n.ch/\d.n.ch.Nodup/\paL S N i g=d.n.ch.map (z9 D.gen)/\plF (paL S N i g) i g=(d.n.ch.idxOf c:Nat)/\deL S N i g=(aQ d.n.ch c).map (z9 D.gen)/\(a=c↔x=i/\y=g)/\i=c/\g=D.gen c/\cI N (atF S i g) 7=hI q/\cI N (atF S i g) 8=hG' D.gen q/\MK D i g x y=if a=c\/(0<=a/\a.toNat∉d.n.ch)then(D,1)else(D.kids q c (gC (aQ d.n.ch c) c a) q 5,0):=by
 obtain⟨c,hk⟩:=w.1.vld.1 h.hv;obtain⟨a,f⟩:=w.1.opt h.hx;obtain⟨s,h1,h2,h3,h4,h5,R,T,U,E,u,P⟩:=w.1.flds hk;have o:(D.nod c).par≠ -1:=fun e=>by refine h.hn ?_;rw[E,u];exact(z.hI_zero h1 h2).2 (by rw[<-h3];exact e)
 obtain⟨q,d,e1,e2,e3,e4,e5,A,C,Q,O,r,H,I,J,M⟩:=w.1.par z hk o;have p1:paL S N i g=d.n.ch.map (z9 D.gen):=O;refine⟨c,q,a,d,hk,f,e1,e2,e3,e4,A,C,p1,by rw[p1,r],?_,?_,h4,by rw[Vo h1,h5],by rw[E,<-h3,e1],by rw[u,<-h3,e1],?_⟩;unfold deL;rw[p1,r];exact LX C A rfl (by simp[ln])
 ·unfold DM.opt at f;have hg:=z.u32 hk;by_cases e:x=0/\y=0;rw[TJ e]at f;cases f;constructor;intro h;omega;rintro ⟨rfl,rfl⟩;omega
  ·rw[TH e]at f;cases v:D.at x y with
   |none=>rw[v]at f;cases f
   |some b=>
    rw[v]at f;cases f;constructor
    ·intro h;have:b=c:=by omega
     subst this;obtain⟨s1,F,V,rfl,rfl⟩:=Vm v;rw[h1]at F;cases F;exact⟨h4.symm,h5⟩
    rintro ⟨rfl,rfl⟩;rw[hk]at v;cases v;rfl
 unfold MK;rw[hk,f];simp only;rw[TH o,e1,Uc,e5]
def MvH.good (h:MvH S N fr lv i g x y [c0,c1,c2,c3,c4,c5,c6,c7])(P:¬(x=i/\y=g))(E:¬plF (paL S N i g) x y<0):ln (deL S N i g)=plF (paL S N i g) i g+(ln (paL S N i g)-(plF (paL S N i g) i g+1))/\0<=plF (deL S N i g) x y/\plF (deL S N i g) x y<=ln (deL S N i g)/\ ∀n q:Int,n=ln (deL S N i g)-plF (deL S N i g) x y->q=ln (deL S N i g)+1->RQ (.int i::.int g::.int x::.int y::JD S fr lv c0 c1 c2 c3 c4 c5 c6 c7 st N) (.int 0::.lst S::J10 fr lv c0 c1 c2 c3 c4 (c5+1) c6 c7 [.lst st,.lst (i6 (i6 (i6 N (paI S N i g) 9 (.lst (pQ ((pQ (deL S N i g) 0 (plF (deL S N i g) x y)++d8 2 1 [.int i,.int g])++pQ (deL S N i g) (plF (deL S N i g) x y) n) 0 q))) (atF S i g) 7 (.int (cI N (atF S i g) 7))) (atF S i g) 8 (.int (cI N (atF S i g) 8)))]):=by
 have H:∀ {D K},RlC D S N fr lv [c0,c1,c2,c3,c4,c5,c6,c7]->WF D K-> ∃(c q:Nat) (a:Int) (b:Sl),D.at i g=some c/\D.at (cI N (atF S i g) 7) (cI N (atF S i g) 8)=some q/\i=c/\g=D.gen c/\cI N (atF S i g) 7=hI q/\cI N (atF S i g) 8=hG' D.gen q/\deL S N i g=(aQ b.n.ch c).map (z9 D.gen)/\MK D i g x y=(D.kids q c (gC (aQ b.n.ch c) c a) q 5,0)/\ ¬plF (deL S N i g) x y<0/\plF (deL S N i g) x y<=(aQ b.n.ch c).length/\(aQ b.n.ch c).take (plF (deL S N i g) x y).toNat++ [c]++(aQ b.n.ch c).drop (plF (deL S N i g) x y).toNat=gC (aQ b.n.ch c) c a:=by
  intro D K o r;obtain⟨c,q,a,b,T,L,Y,U,Z,f6,V,I,M,s,d,u,v,w,z,A,C⟩:=h.facts o r;have O:a≠c:=fun e=>P (u.1 e);rw[M]at E;have h1:¬(0<=a/\a.toNat∉b.n.ch):=fun h=>E ((jA I L).1.2 h);have pp:=jA (l:=aQ b.n.ch c) (I.filter _) L;rw[<-d]at pp;have h2:¬plF (deL S N i g) x y<0:=fun h=>by have:=pp.1.1 h;rw[Cd]at this;exact h1 ⟨this.1,fun hm=>this.2 ⟨hm,by omega⟩⟩
  exact⟨c,q,a,b,T,U,v,w,z,A,d,by rw[C,TH (fun h=>h.elim O h1)],h2,(pp.2 h2).1,(pp.2 h2).2 c⟩
 obtain⟨D,K,o,r⟩:=h.hp;obtain⟨c,q,a,b,T,L,Y,U,Z,f6,V,I,M,s,d,u,v,w,z,A,C⟩:=h.facts o r;obtain⟨c',q',a',R,k1,k2,k3,k4,W,X,J,Q,k9,f,F⟩:=H o r;have e1:ln (deL S N i g)=((aQ R.n.ch c').length:Int):=by rw[J];simp[ln]
 refine⟨?_,by omega,by rw[e1];exact f,fun n q hn hq=>?_⟩
 ·have e2:ln (deL S N i g)=((aQ b.n.ch c).length:Int):=by rw[d];simp[ln]
  have e3:ln (paL S N i g)=(b.n.ch.length:Int):=by rw[M];simp[ln]
  have:=PZ I V;rw[e2,e3,s];omega
 ·refine Bo (k:=5) (fun D K o r=>?_) h.hp rfl;obtain⟨c,q',a,b,k1,k2,k3,k4,W,X,J,Q,k9,f,F⟩:=H o r;have e1:ln (deL S N i g)=((aQ b.n.ch c).length:Int):=by rw[J];simp[ln]
  rw[e1]at hn hq;refine⟨q',c,gC (aQ b.n.ch c) c a,q',k2,k1,by rw[Q],by rw[Q],?_,W,X⟩;rw[<-F];rw[<-DS (G:=D.gen) (c:=c) (by omega) f hn hq,<-J,<-k3,<-k4]
end
def D9 (k:Int)(t x:Str):Nod:=⟨k,t,[],x,0,0,false, -1,[]⟩
def DM.grow (D:DM):DM:=if D.free=[]then⟨D.L++ [⟨1,false,D9 0 [] []⟩],[D.L.length],D.C⟩else D
def DM.take (D:DM)(n:Nod):DM×Nat:=match D.grow.free with
 |i::l=>(⟨D.grow.L.modify i fun s=>⟨s.g,true,n⟩,l,D.C⟩,i)
 | []=>(D,0)
def D7 (D:DM)(k:Int)(t x:Str):DM×Int×Int×Int:=if(k=1/\v5 t=false)\/(k=2/\E8 x=false)then(D,0,0,1)else
 let r:=D.take (D9 k t x)
 ((r.1.cnt 0).cnt 1,r.2,r.1.gen r.2,0)
def AM :Ar->Prop
 | [.int k,.str t,.str y,.lst at',.str x,.lst ch,.lst S,.int fr,.int lv,.int a,.int b,.int c,.int d,.int e,.int f,.int h,.int m,.lst _,.lst N]=>y=[]/\at'= []/\ch=[]/\((k=1/\x=[])\/(k=2/\t=[]))/\DO S N fr lv [a,b,c,d,e,f,h,m]|_=>False
def gQ :Ar->Ar->Prop
 | [.int k,.str t,.str y,.lst at',.str x,.lst ch,.lst S,.int fr,.int lv,.int a,.int b,.int c,.int d,.int e,.int f,.int h,.int m,.lst _,.lst N],[.int i,.int g,.int r,.lst S',.int fr',.int lv',.int a',.int b',.int c',.int d',.int e',.int f',.int h',.int m',.lst _,.lst N']=>
  nP S N fr lv [a,b,c,d,e,f,h,m] S' N' fr' lv' [a',b',c',d',e',f',h',m'] fun D=>((D7 D k t x).1,(i,g,r)=(D7 D k t x).2)
 |_,_=>False
def cCre:=mkD "cre" [nV] AM [hV,iV] gQ
def Ql :Ay->List (Nat×(Fm->SS->J0)):=bD
def SG :Nat->List (Ay×Con)
 |_=>[(42,cChk),(LVn,cYes "lives")]
def Sf :Nat->Aw->G1:=cH
open Go Go.Xe Go.Sx
def yC :Sx.Rows:=(d8 4 1 [(.int (1)),(.bool false),(.int (0)),(.int (-1))])
def vcCre :Prop:=
 ∀h i s t j u a b c d f k l m o p q r g,AM (.int h::.str i::.str s::.lst t::.str j::.lst u::JD a b c d f k l m o p q r g)->Cg V4 L3 [.int h,.str i,.str s,.lst t,.str j,.lst u] (fun R=>∀v,R [.int v]->((v=0->((b=0->((ln a=1048576->Nq (ln a) (Nd (gQ (.int h::.str i::.str s::.lst t::.str j::.lst u::JD a b c d f k l m o p q r g) (.int 0::.int 0::.int 3::JD a b c d f k l m o p q r (g++d8 10 1 [.int h,.str i,.lst [],.str j,.int 0,.int 0,.bool false,.int 0,.int 0,.lst []]))) True))/\(¬ln a=1048576->Nd (b=0) (Ni (ln a)<|Nd (ln a+1<67108865)<|Nr (ln a)<|Nd (I64 (ln a))<|Nb (ln a) (ln a+1)<|Nd (ln a<ln a+1)<|Nd (ln a<ln a+1)<|Nd (ln a<ln a+1)<|Nd (ln a<ln a+1)<|Nd (I64 (c+1))<|Nd (ln a<ln a+1)<|Nd (I64 (d+1))<|Nd (I64 (f+1))<|Nq (ln a+1)<|Nd (gQ (.int h::.str i::.str s::.lst t::.str j::.lst u::JD a b c d f k l m o p q r g) (.int (IntKind.wrap .u32 (ln a))::.int (cI (a++yC) (ln a) 0)::.int 0::.lst (i6 (i6 (i6 (a++yC) (ln a) 2 (.int 0)) (ln a) 1 (.bool true)) (ln a) 3 (.int (ln g)))::J10 (cI (a++yC) (ln a) 2) (c+1) (d+1) (f+1) k l m o p q [.lst r,.lst (g++d8 10 1 [.int h,.str i,.lst [],.str j,.int 0,.int 0,.bool false,.int 0,.int 0,.lst []])])) True))))/\(¬b=0->Nd (¬b=0) (Nd (I64 (b+(-1)))<|Nb (b+(-1)) (ln a)<|Nd (b+(-1)<ln a)<|Nd (b+(-1)<ln a)<|Nd (b+(-1)<ln a)<|Nd (b+(-1)<ln a)<|Nd (I64 (c+1))<|Nd (b+(-1)<ln a)<|Nd (I64 (d+1))<|Nd (I64 (f+1))<|Nq (ln a)<|Nd (gQ (.int h::.str i::.str s::.lst t::.str j::.lst u::JD a b c d f k l m o p q r g) (.int (IntKind.wrap .u32 (b+(-1)))::.int (cI a (b+(-1)) 0)::.int 0::.lst (i6 (i6 (i6 a (b+(-1)) 2 (.int 0)) (b+(-1)) 1 (.bool true)) (b+(-1)) 3 (.int (ln g)))::J10 (cI a (b+(-1)) 2) (c+1) (d+1) (f+1) k l m o p q [.lst r,.lst (g++d8 10 1 [.int h,.str i,.lst [],.str j,.int 0,.int 0,.bool false,.int 0,.int 0,.lst []])])) True))))/\(¬v=0->Nq (ln a) (Nd (gQ (.int h::.str i::.str s::.lst t::.str j::.lst u::JD a b c d f k l m o p q r g) (.int 0::.int 0::.int 1::JD a b c d f k l m o p q r g)) True))))
def vcCre_eq :kq Go.Proofs.Tryz.prog cCre Ql (SG 0) (Sf 0) 61=vcCre:=by kernel_rfl
