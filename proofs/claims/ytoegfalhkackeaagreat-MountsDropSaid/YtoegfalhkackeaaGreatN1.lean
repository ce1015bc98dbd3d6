/- Mounts: a tree that is put into a DOM: plain model.
  Conditions: none. -/
import Derived.Test.YtoegfalhkackeaaGreatR4
set_option maxRecDepth 100000
set_option linter.all false
noncomputable section
namespace Go.D
open Go Go.Xe Go.Sx
mutual
def Z3 :c9->Nat
 | .mk _ _ _ a _ c=>1+a.length+mcosts c
def mcosts :List c9->Nat
 | []=>0|s::l=>Z3 s+1+mcosts l
end
def setA (i g:Int)(D:DM)(a:Att):DM:=(R9 D i g ⟨a.n,false,a.v⟩ 1).1
mutual
def pB (D:DM):c9->DM×Int×Int
 | .mk k t y a x c=>(mntC (I6 D k t x).2.1 (I6 D k t x).2.2.1 (a.foldl (setA (I6 D k t x).2.1 (I6 D k t x).2.2.1) (I6 D k t x).1) c,(I6 D k t x).2.1,(I6 D k t x).2.2.1)
def mntC (i g:Int)(D:DM):List c9->DM
 | []=>D|s::l=>mntC i g (cG (pB D s).1 i g (pB D s).2.1 (pB D s).2.2 0 0).1 l
end
section
variable {D :DM}{K:Nat}{i g:Int}{c l m:List c9}{a b:List Att}{s:c9}
def WF.setA (w:WF D K)(d:K+1<=1000){a:Att}:WF (setA i g D a) (K+1):=w.edt d
def WF.setAs :∀ {a:List Att} {D:DM} {K:Nat},WF D K->K+a.length<=1000->WF (a.foldl (Go.D.setA i g) D) (K+a.length)
 | [],D,K,w,_=>w|x::a,D,K,w,h=>by simp only[TM]at h;have:=WF.setAs (a:=a) (w.setA (i:=i) (g:=g) (a:=x) (by omega)) (by omega);simp only[List.foldl_cons,TM];rwa[show K+(a.length+1)=K+1+a.length by omega]
def QI :U7 s->(s.k=1/\B3 s.t=true/\s.x=[])\/(s.k=2/\H9 s.x=true/\s.t=[]):=λh=>by
 cases s;unfold U7 at h;rcases h.1 with h|h
 exact .inr ⟨h.1,h.2.1,h.2.2.1⟩;exact .inl ⟨h.1,h.2.1,h.2.2.2.1⟩
mutual
def WF.mnt :∀(s:c9) {D:DM} {K:Nat},WF D K->U7 s->K+Z3 s<=1000->WF (pB D s).1 (K+Z3 s)
 | .mk k t y a x c,D,K,w,h,d=>by have hk:=QI h;simp only[Z3]at d;simp only[pB,Z3];have h1:=w.cre (q:=k) (t:=t) (x:=x) (by omega) (by rcases hk with h|h;exact .inl h.1;exact .inr h.1);have h2:=WF.setAs (i:=(I6 D k t x).2.1) (g:=(I6 D k t x).2.2.1) (a:=a) h1 (by omega);have h3:=WF.mntC c (i:=(I6 D k t x).2.1) (g:=(I6 D k t x).2.2.1) h2 (by unfold U7 at h;exact h.2) (by omega);rwa[show K+(1+a.length+mcosts c)=K+1+a.length+mcosts c by omega]
def WF.mntC :∀(l:List c9) {D:DM} {K:Nat} {i g:Int},WF D K->AllAs l->K+mcosts l<=1000->WF (Go.D.mntC i g D l) (K+mcosts l)
 | [],D,K,i,g,w,_,_=>w|s::l,D,K,i,g,w,h,d=>by simp only[mcosts]at d;simp only[Go.D.mntC,mcosts];unfold AllAs at h;have h1:=WF.mnt s w h.1 (by omega);have h2:=h1.ins (i:=i) (g:=g) (j:=(pB D s).2.1) (m:=(pB D s).2.2) (x:=0) (y:=0) (by omega);have h3:=WF.mntC l (i:=i) (g:=g) h2 h.2 (by omega);rwa[show K+(Z3 s+1+mcosts l)=K+Z3 s+1+mcosts l by omega]
end
mutual
def Mw :∀s:c9,U7 s->Z3 s+1<=10*s.size
 | .mk k t y a x c,h=>by
  unfold U7 at h;have d:a.length<=8:=by rcases h.1 with h|h;have:a=[]:=h.2.2.2.2.1;simp[this];exact h.2.2.2.2.1
  have:=mcosts_le c h.2;simp only[Z3,c9.size];omega
def mcosts_le :∀l:List c9,AllAs l->mcosts l<=10*c9.sizes l
 | [],_=>by simp[mcosts]|s::l,h=>by unfold AllAs at h;have:=Mw s h.1;have:=mcosts_le l h.2;simp only[mcosts,c9.sizes];omega
end
end
def Rz :Ar->Prop
 | [.i k,.s t,.s y,.l a,.s x,.l c,.l S,.i fr,.i lv,.i c0,.i c1,.i c2,.i c3,.i c4,.i c5,.i c6,.i c7,.l _,.l N]=>∃s D K,isT s k t y a x c/\U7 s/\RlC D S N fr lv [c0,c1,c2,c3,c4,c5,c6,c7]/\WF D K/\K+Z3 s<=1000|_=>False
def RA :Ar->Ar->Prop
 | [.i k,.s t,.s y,.l a,.s x,.l c,.l S,.i fr,.i lv,.i c0,.i c1,.i c2,.i c3,.i c4,.i c5,.i c6,.i c7,.l _,.l N],[.i i,.i g,.i r,.l S',.i fr',.i lv',.i c0',.i c1',.i c2',.i c3',.i c4',.i c5',.i c6',.i c7',.l _,.l N']=>
  r=0/\U32 i/\U32 g/\Fr S N S' N'/\ ∀s D K,isT s k t y a x c->U7 s->RlC D S N fr lv [c0,c1,c2,c3,c4,c5,c6,c7]->WF D K->K+Z3 s<=1000->RlC (pB D s).1 S' N' fr' lv' [c0',c1',c2',c3',c4',c5',c6',c7']/\(i,g)=(pB D s).2
 |_,_=>False
def mn1B :List Z9:=oQ++ [(25,1,[.ptr 0 13]),(99,1,[.clo 43 [(2,1),(3,1)]])]
def mn1F :As->SS->Bb (Ah):=λargs s=>match args,rgB s with
 | [_,.ptr d _ _ _,.ptr q _ _ _],some r=>match s.get d with
  |some (.cells [.ptr e _ _ _] _ _)=>some [e,r,d,q]|_=>none
 |_,_=>none
def Ze :Con:=⟨ "mn1",[nV,.one (.ptr 2 1),.one (.ptr 3 1)],mn1B,mn1F,Rz,[hV,iV],mn1B,noB,RA⟩
def Yw :List G:=[.acc Jg 4,.int .i64,.int .i64,.int .i64,.int .i64,.int .i64,.int .i64,.int .i64,.int .i64,.int .i64,.int .i64,.bool,.lst Jh]
open Go Go.Xe Go.Sx
def RB :Ar->Prop
 | [.i k,.s t,.s y,.l a,.s x,.l c,.l S,.i fr,.i lv,.i c0,.i c1,.i c2,.i c3,.i c4,.i c5,.i c6,.i c7,.l _,.l N]=>∃s D K,isT s k t y a x c/\RlC D S N fr lv [c0,c1,c2,c3,c4,c5,c6,c7]/\WF D K/\(E3 s->K+Z3 s<=1000)|_=>False
def RC :Ar->Ar->Prop
 | [.i k,.s t,.s y,.l a,.s x,.l c,.l S,.i fr,.i lv,.i c0,.i c1,.i c2,.i c3,.i c4,.i c5,.i c6,.i c7,.l _,.l N],[.i i,.i g,.i r,.l S',.i fr',.i lv',.i c0',.i c1',.i c2',.i c3',.i c4',.i c5',.i c6',.i c7',.l _,.l N']=>
  U32 i/\U32 g/\Fr S N S' N'/\ ∀s D K,isT s k t y a x c->RlC D S N fr lv [c0,c1,c2,c3,c4,c5,c6,c7]->WF D K->(E3 s->K+Z3 s<=1000->RlC (pB D s).1 S' N' fr' lv' [c0',c1',c2',c3',c4',c5',c6',c7']/\(i,g)=(pB D s).2/\r=0)/\(¬E3 s->RlC D S' N' fr' lv' [c0',c1',c2',c3',c4',c5',c6',c7']/\i=0/\g=0/\r=14)
 |_,_=>False
def YB:=mkD "mnt" [nV] RB [hV,iV] RC
def RH :Ar->Prop:=λ_=>True
def RJ :Ar->Ar->Prop
 |_,[.l S,.i fr,.i lv,.i c0,.i c1,.i c2,.i c3,.i c4,.i c5,.i c6,.i c7,.l _]=>S=[]/\fr=0/\lv=0/\[c0,c1,c2,c3,c4,c5,c6,c7]=[0,0,0,0,0,0,0,0]
 |_,_=>False
def nwdF :SV->SS->Bb (Ah):=λv _=>match v with
 | .ptr b _ _ _=>some [b]|_=>none
def Zc :Con:=⟨ "nwd",[],[],noF,RH,[dV],[(KB,13,JC)],nwdF,RJ⟩
def Ss :Ar->Prop
 | [.i k,.s t,.s y,.l a,.s x,.l c,.i lv]=>0<=lv/\lv<=8/\ ∃s:c9,isT s k t y a x c|_=>False
def Su :Ar->Ar->Prop
 | [.i k,.s t,.s y,.l a,.s x,.l c,.i lv],[.i n]=>1<=n/\n<=151+151*lv|_,_=>False
def YZ:=mkC "wgh" [nV,iV] Ss [iV] Su
def Xa :Ar->Ar->Prop
 | [.l C,.i lv],[.i i,.i n]=>0<=i/\i<=ln C/\1<=lv/\1<=n/\n<=151+151*lv|_,_=>False
abbrev wgMu:=A2
def atV :Vs:= .one (.g (.lst 101))
def Rh :Ar->Prop
 | [.l A,.l B]=>(∃l m:List Att,A=l.map Att.row/\B=m.map Att.row)/\A.length<=1000|_=>False
def Ri :Ar->Ar->Prop
 | [.l A,.l B],[.b b]=>b=true↔A=B|_,_=>False
def Zg:=mkC "eqb" [atV,atV] Rh [bV] Ri
def LP :Ar->Ar->Prop
 | [.l A,.l B],[.i k]=>0<=k/\k<=A.length/\A.length=B.length/\A.take k.toNat=B.take k.toNat|_,_=>False
abbrev Yv:=A2
def Sc :Ar->Prop
 | [.i k,.s t,.s y,.l a,.s x,.l c,.i k',.s t',.s y',.l a',.s x',.l c']=>(∃s,isT s k t y a x c/\U7 s)/\ ∃s,isT s k' t' y' a' x' c'/\U7 s|_=>False
def Sd :Ar->Ar->Prop
 | [.i k,.s t,.s y,.l a,.s x,.l c,.i k',.s t',.s y',.l a',.s x',.l c'],[.b b]=>∀s s',isT s k t y a x c->isT s' k' t' y' a' x' c'->(b=true↔s=s')
 |_,_=>False
def Zb:=mkC "smn" [nV,nV] Sc [bV] Sd
abbrev Rj:=LP
abbrev Yu:=A2
def Sj:=EP
def Sm :Ar->Ar->Prop
 | [.i k,.s t,.s y,.l a,.s x,.l c],[.i k',.s t',.s y',.l a',.s x',.l c']=>∀s:c9,isT s k t y a x c->(E3 s->isT (kC false s) k' t' y' a' x' c')/\(¬E3 s->isT ES k' t' y' a' x' c')|_,_=>False
def Za:=mkC "stp" [nV] Sj [nO] Sm
def RE:=QA
def RG :Ar->Ar->Prop
 | [.i k,.s t,.s y,.l a,.s x,.l c,.i k',.s t',.s y',.l a',.s x',.l c'],[.b b]=>∀s s',isT s k t y a x c->isT s' k' t' y' a' x' c'->(b=true↔E3 s/\E3 s'/\s=s')
 |_,_=>False
def Zd:=mkC "nsm" [nV,nV] RE [bV] RG
def XM :Ar->Prop
 | .i i:: .i g:: .i k:: .s t:: .s y:: .l a:: .s x:: .l c::d=>U32 i/\U32 g/\AF d/\ ∃s:c9,isT s k t y a x c|_=>False
def XJ :Ar->Ar->Prop
 | [.i i,.i g,.i k,.s t,.s y,.l a,.s x,.l c,.l S,.i fr,.i lv,.i _,.i _,.i _,.i _,.i _,.i _,.i _,.i _,.l _,.l N],[.b b,.i r]=>∀D K s,RlE D S N->WF D K->isT s k t y a x c->match D.at i g with
  |none=>r=11/\b=false|some q=>(E3 s->r=0/\(b=true↔E3 (R7 D 6 q)/\E3 (kC false s)/\R7 D 6 q=kC false s))/\(¬E3 s->r=14/\b=false)
 |_,_=>False
def cIs:=mkR "is" [dV,hV,nV] oQ Bu XM [bV,iV] XJ
def QX :Ar->Prop:=λ_=>False
def QY :Ar->Ar->Prop:=λ_ _=>False
def colB :List Z9:=[(tHd,2,[.g (.int .u32),.g (.int .u32)]),(25,1,[.ptr 2 13]),(KB,13,JC)]
def Zi :Con:=⟨ "col",[.one (.clo 101 [(0,2),(1,1)])],colB,λargs s=>match args with
 | [.fn _ _ [.ptr a _ _ _,.ptr b _ _ _]]=>match s.get b with
  |some (.cells [.ptr e _ _ _] _ _)=>some [a,b,e]|_=>none
 |_=>none,QX,[.one (.g (.lst tHd))],[],noB,QY⟩
def Rv :Ar->Prop
 | .i i:: .i g:: .l S::d=>U32 i/\U32 g/\AF (.l S::d)/\t9 S i g=false|_=>False
def Rw :Ar->Ar->Prop
 |_,[.l _,.i r]=>r=11|_,_=>False
def Zf:=mkR "han" [dV,hV] oQ Bu Rv [.one (.g (.lst tHd)),iV] Rw
def W8 (D:DM)(i g:Int):DM×Int:=match D.at i g with
 |none=>(D,11)
 |some c=>if(D.nod c).par= -1 then S3 D i g else S3 (V3 D i g).1 i g
def tL :Ar->Prop
 | [.i i,.i g,.l S,.i fr,.i lv,.i a,.i b,.i c,.i d,.i e,.i f,.i h,.i m,.l _,.l N]=>U32 i/\U32 g/\ ∃D K,RlC D S N fr lv [a,b,c,d,e,f,h,m]/\WF D K/\K+1<=1000|_=>False
def kO :Ar->Ar->Prop
 | [.i i,.i g,.l S,.i fr,.i lv,.i a,.i b,.i c,.i d,.i e,.i f,.i h,.i m,.l _,.l N],[.i r,.l S',.i fr',.i lv',.i a',.i b',.i c',.i d',.i e',.i f',.i h',.i m',.l _,.l N']=>
  Fr S N S' N'/\ ∀D K,RlC D S N fr lv [a,b,c,d,e,f,h,m]->WF D K->K+1<=1000->RlC (W8 D i g).1 S' N' fr' lv' [a',b',c',d',e',f',h',m']/\r=(W8 D i g).2
 |_,_=>False
def zu:=mkD "drp" [hV] tL [iV] kO
def gN2 :Fm->SS->List (So×E):=gh2 (j9 0) (j9 1)
def Lj :Ay->List (Nat×(Fm->SS->F9))
 |21=>[(0,D5 U0 "wg" (F5 [(6,.int .i64),(5,.int .i64)] nob) (gh2 (y8 2 5) (j9 1)) Xa wgMu)]
 |164=>[(0,D5 U0 "eqb" (F5 [(13,.int .i64)] nob) gN2 LP Yv)]
 |165=>[(0,D5 U0 "eqn" (F5 [(17,.int .i64)] nob) gN2 Rj Yu)]
 |_=>[]
def Je :Nat->List (Ay×Con)
 |0=>[(LVn,cq "lives")]
 |1=>[(42,fp),(43,Ze),(LVn,cq "lives")]
 |2=>[(164,Zg),(LVn,cq "lives")]
 |3=>[(42,fp),(98,zw),(LVn,cq "lives")]
 |4=>[(42,fp),(106,Zb),(LVn,cq "lives")]
 |5=>[(42,fp),(57,Zd),(58,Za),(LVn,cq "lives")]
 |6=>[(LVn,cq "lives")]
 |_=>[(54,LE),(46,VS),(LVn,cq "lives")]
def Iz :Nat->Aw->D4
 |5,P=>[(12,kro P U0 zk)]
 |6,P=>[(50,kro P U0 fq),(52,kro P U0 Zi)]
 |7,P=>[(50,kro P U0 fq)]
 |_,_=>[]
open Go Go.Xe Go.Sx
def jp (a:a8)(b c g h j k l m o p q r:Int)(s t:a8):Prop:=
 Ni (ln a)<|Nr (ln a)<|Nd (vK (.i b::.i c::JD a g h j k l m o p q r s t))<|∀U d u v w x y z A B C D F G,pK (.i b::.i c::JD a g h j k l m o p q r s t) (.i U::JD d u v w x y z A B C D F G)->Ni (ln d) (Nr (ln d)<|Nd (tT (.i b::.i c::JD d u v w x y z A B C D F G))<|∀H f I J K L M N O P Q R S T,kQ (.i b::.i c::JD d u v w x y z A B C D F G) (.i H::JD f I J K L M N O P Q R S T)->Ni (ln f) (Nr (ln f)<|Nd (kO (.i b::.i c::JD a g h j k l m o p q r s t) (.i H::JD f I J K L M N O P Q R S T)) True))
def yb :Prop:=
 ∀t u a c d f g h j k m o p q r,tL (.i t::.i u::JD a c d f g h j k m o p q r)->Ni (ln a) (Nr (ln a)<|Nd (bI (.i t::.i u::JD a c d f g h j k m o p q r))<|∀N O P Q R S T x y U v,K4 (.i t::.i u::JD a c d f g h j k m o p q r) [.i N,.s O,.l P,.s Q,.i R,.i S,.b T,.i x,.i y,.l U,.i v]->((v=0->((x=0->((y=0->Ni (ln a) (Nr (ln a)<|Nd (tT (.i t::.i u::JD a c d f g h j k m o p q r))<|∀z w A B C D F G H I J K L M,kQ (.i t::.i u::JD a c d f g h j k m o p q r) (.i z::JD w A B C D F G H I J K L M)->Ni (ln w) (Nr (ln w)<|Nd (kO (.i t::.i u::JD a c d f g h j k m o p q r) (.i z::JD w A B C D F G H I J K L M)) True)))/\(¬y=0->jp a t u c d f g h j k m o p q r)))/\(¬x=0->jp a t u c d f g h j k m o p q r)))/\(¬v=0->Ni (ln a) (Nr (ln a)<|Nd (kO (.i t::.i u::JD a c d f g h j k m o p q r) (.i v::JD a c d f g h j k m o p q r)) True))))
def ya :kq zu Lj (Je 7) (Iz 7) 14=yb:=by kernel_rfl
mutual
def Oc :∀s:c9,kC true s=s
 | .mk k t y a x c=>by unfold kC;rw[strips_tt c];rfl
def strips_tt :∀l:List c9,strips true l=l
 | []=>rfl|s::l=>by unfold strips;rw[Oc s,strips_tt l]
end
section
variable {A B:a8}{k:Int}
end
def x9 :yb:=by
 unfold yb;rintro i g S fr lv c0 E F G H I J L st N ⟨p,o,l,m,hR0,b,y⟩;refine nin (nrn (ndi ⟨p,o,l,m,hR0.1,b⟩ λk t a x tp sz pn pi pg ch r hL=>?_));have facts:∀ {D K},RlC D S N fr lv [c0,E,F,G,H,I,J,L]->WF D K->t9 S i g=true-> ∃c,D.at i g=some c/\((cI N (atF S i g) 7=0/\cI N (atF S i g) 8=0)↔(D.nod c).par= -1):=λ{D K} M d hv=>by obtain⟨c,hc⟩:=M.1.vld.1 hv;obtain⟨s,h1,h2,h3,h4,h5,h6,h7,h8,h9,v,ab⟩:=M.1.flds hc;exact⟨c,hc,by rw[h9,v,h3];exact d.hI_zero h1 h2⟩
 by_cases hv:t9 S i g=true
 .have this:if t9 S i g=true then _ else r=11:=hL
  rw[Tp hv]at this;obtain⟨_,_,_,_,_,_,_,Z,e8,_,r0⟩:=this;have up:¬(pi=0/\pg=0)->jp S i g fr lv c0 E F G H I J L st N:=λh=>by unfold jp;refine nin (nrn (ndi ⟨p,o,l,m,hR0,b⟩ λr1 S1 aa ac b0 b1 b2 b3 b4 b5 b6 b7 ad N1 n=>?_));obtain⟨hF,n⟩:=n;refine nin (nrn (ndi ⟨p,o,_,_,(n l m hR0 b).1,b.rem y⟩ λr2 S2 u z Q R T U V W X Y C P f=>?_));obtain⟨j,f⟩:=f;refine nin (nrn (ndt ⟨hF.trans j,λD K e d w=>?_⟩));obtain⟨c,hc,hp⟩:=facts e d hv;have:=f _ _ (n D K e d).1 (d.rem w);unfold W8;rw[hc];simp only;rw[Tn λq=>h (by rw[Z,e8];exact hp.2 q)];exact this
  refine⟨λ_=>⟨λO=>⟨λg0=>?_,λg0=>up λh=>g0 h.2⟩,λO=>up λh=>O h.1⟩,λh=>absurd r0 h⟩;refine nin (nrn (ndi ⟨p,o,l,m,hR0,b⟩ λr2 S2 u z Q R T U V W X Y C P f=>?_));obtain⟨j,f⟩:=f;refine nin (nrn (ndt ⟨j,λD K e d w=>?_⟩));obtain⟨c,hc,hp⟩:=facts e d hv;have:=f D K e d;unfold W8;rw[hc];simp only;rw[Tp (hp.1 ⟨by omega,by omega⟩)];exact this
 .have hL:r=11:=by
   have:if t9 S i g=true then _ else r=11:=hL
   rwa[Tn hv]at this
  refine⟨λr0=>by omega,λ_=>nin (nrn (ndt ⟨Ve,λD K e d w=>?_⟩))⟩;unfold W8;rw[e.1.none hv];exact⟨e,hL⟩
def drpL (D:DM)(l:List (Int×Int)):DM:=l.foldl (λD h=>(W8 D h.1 h.2).1) D
def fW (D:DM)(i g:Int):DM×Int:=match D.at i g with
 |none=>(D,11)
 |some c=>if(D.nod c).kind≠1 then(D,1)else(drpL D ((D.nod c).ch.map λ(j:Nat)=>((j:Int),(D.gen j:Int))),0)
def Bq :Ar->Prop
 | [.i i,.i g,.l S,.i fr,.i lv,.i a,.i b,.i c,.i d,.i e,.i f,.i h,.i m,.l _,.l N]=>U32 i/\U32 g/\ ∃D K,RlC D S N fr lv [a,b,c,d,e,f,h,m]/\WF D K/\ ∀q,D.at i g=some q->K+2*(D.nod q).ch.length<=1000|_=>False
def oO :Ar->Ar->Prop
 | [.i i,.i g,.l S,.i fr,.i lv,.i a,.i b,.i c,.i d,.i e,.i f,.i h,.i m,.l _,.l N],[.i r,.l S',.i fr',.i lv',.i a',.i b',.i c',.i d',.i e',.i f',.i h',.i m',.l _,.l N']=>
  Fr S N S' N'/\ ∀D K,RlC D S N fr lv [a,b,c,d,e,f,h,m]->WF D K->(∀q,D.at i g=some q->K+2*(D.nod q).ch.length<=1000)->RlC (fW D i g).1 S' N' fr' lv' [a',b',c',d',e',f',h',m']/\r=(fW D i g).2
 |_,_=>False
def VW:=mkD "clr" [hV] Bq [iV] oO
def No (h:Int×Int):Ar:=[.i h.1,.i h.2]
def Bp :Ar->Ar->Prop
 | [.l N,.l S,.i fr,.i lv,.i c0,.i c1,.i c2,.i c3,.i c4,.i c5,.i c6,.i c7,.l C],[.l N',.i j,.l S',.i fr',.i lv',.i c0',.i c1',.i c2',.i c3',.i c4',.i c5',.i c6',.i c7',.b z,.l _]=>
  z=false/\0<=j/\j<=C.length/\Fr S N S' N'/\ ∀(l:List (Int×Int)) D K,C=l.map No->RlC D S N fr lv [c0,c1,c2,c3,c4,c5,c6,c7]->WF D K->K+2*l.length<=1000->RlC (drpL D (l.take j.toNat)) S' N' fr' lv' [c0',c1',c2',c3',c4',c5',c6',c7']
 |_,_=>False
def LG :Ar->Ar->Nat
 | [_,_,_,_,_,_,_,_,_,_,_,_,.l C],_:: .i j::_=>(C.length-j).toNat|_,_=>0
def domR (t:Nat):Fm->SS->Bb (List (Nat×List G)):=λf s=>match lk f t with
 |some (.ptr e _ _ _)=>some [(e,Yw)]|_=>none
def domH (t:Nat):Fm->SS->List (So×E):=λf s=>match lk f t with
 |some (.ptr e _ _ _)=>match s.get e with
  |some (.cells (c::l) _ _)=>slG c s++(l.take 10).flatMap svG|_=>[]
 |_=>[]
def QV :Ar->Prop
 | [.i i,.i g,.l S,.i fr,.i lv,.i a,.i b,.i c,.i d,.i e,.i f,.i h,.i m,.l _,.l N]=>U32 i/\U32 g/\ ∃D K,RlC D S N fr lv [a,b,c,d,e,f,h,m]/\WF D K/\ ∀q,D.at i g=some q->E3 (R7 D 6 q)->K+Z3 (R7 D 6 q)<=1000|_=>False
def QW :Ar->Ar->Prop
 | [.i i,.i g,.l S,.i fr,.i lv,.i a,.i b,.i c,.i d,.i e,.i f,.i h,.i m,.l _,.l N],[.i i',.i g',.i r,.l S',.i fr',.i lv',.i a',.i b',.i c',.i d',.i e',.i f',.i h',.i m',.l _,.l N']=>
  U32 i'/\U32 g'/\Fr S N S' N'/\ ∀D K,RlC D S N fr lv [a,b,c,d,e,f,h,m]->WF D K->(∀q,D.at i g=some q->E3 (R7 D 6 q)->K+Z3 (R7 D 6 q)<=1000)->match D.at i g with
  |none=>RlC D S' N' fr' lv' [a',b',c',d',e',f',h',m']/\r=11|some q=>(E3 (R7 D 6 q)->RlC (pB D (R7 D 6 q)).1 S' N' fr' lv' [a',b',c',d',e',f',h',m']/\(i',g')=(pB D (R7 D 6 q)).2/\r=0)/\(¬E3 (R7 D 6 q)->RlC D S' N' fr' lv' [a',b',c',d',e',f',h',m']/\r=14)
 |_,_=>False
def Zj:=mkD "cln" [hV] QV [hV,iV] QW
mutual
def Jw :c9->Nat
 | .mk _ _ _ a _ c=>a.length+attNs c
def attNs :List c9->Nat
 | []=>0|s::l=>Jw s+attNs l
end
def QZ:=EP
def Ra :Ar->Ar->Prop
 | [.i k,.s t,.s y,.l a,.s x,.l c],[.i c0,.i c1,.i c2,.i c3,.i c4,.i c5,.i c6,.i c7,.i r]=>∀s:c9,isT s k t y a x c->(E3 s->[c0,c1,c2,c3,c4,c5,c6,c7]=[(s.size:Int),s.size,0,s.size-1,0,0,Jw s,0]/\r=0)/\(¬E3 s->[c0,c1,c2,c3,c4,c5,c6,c7]=[0,0,0,0,0,0,0,0]/\r=14)|_,_=>False
def c8V :Vs:= .agg [.g (.int .i64),.g (.int .i64),.g (.int .i64),.g (.int .i64),.g (.int .i64),.g (.int .i64),.g (.int .i64),.g (.int .i64)]
def Zh:=mkR "cos" [nV] [] noF QZ [c8V,iV] Ra
def My :Ar->Ar->Prop
 |_,.b r::_=>r=true|_,_=>False
def isP :As->Bool
 | .ptr _ _ _ _::_=>true|_=>false
def KE (p:As->Bool)(k1 k2:As->M SV):As->M SV:=λl=>bif p l then k1 l else k2 l
def JU (g:Ay)(P:Aw):As->M SV:=sxF P U0 (λ_=>[]) (kM P U0 [(LVn,cq "lives")] []) 400 g
def Li :Ay->List (Nat×(Fm->SS->F9))
 |24=>[(1,D5 U0 "clr" (mkPr rgR [(26,.int .i64)] (domR 0)) (gh2 (gh2 uT (domH 0)) (j9 24)) Bp LG)]
 |_=>[]
def Jd :Nat->List (Ay×Con)
 |0=>[(14,zu),(LVn,cq "lives")]
 |1=>[(10,YB),(LVn,cq "lives")]
 |_=>[(21,YZ),(22,jy),(8,Zc),(61,VV),(LVn,cq "lives")]
def Iy :Nat->Aw->D4
 |0,P=>[(50,kro P U0 fq)]
 |1,P=>[(12,kro P U0 zk)]
 | _, P => [(23, kro P U0 Zh),
   (10,KE isP (Gj P U0 YB) (JU 10 P)),
   (13,KE isP (kro P U0 Zf) (JU 13 P)),
   (19,KE isP (kro P U0 cIs) (JU 19 P)),
   (11,KE isP (Gj P U0 Zj) (JU 11 P)),
   (14,KE isP (Gj P U0 zu) (JU 14 P)),
   (24,KE isP (Gj P U0 VW) (JU 24 P))]
def O5 (r:Ar):Prop:=∃a b c d e:Int,r=[.i a,.i b,.i c,.i d,.i e]/\B8 a/\B8 b/\B8 c/\B8 d/\B8 e
def GC :Ar->Prop:=λ_=>True
def GD :Ar->Ar->Prop
 |_,[.l L,.l F,.i b0,.i b1,.i b2,.i b3,.i b4,.i b5,.i b6,.i b7,.l H,.l S,.i fr,.i lv,.i c0,.i c1,.i c2,.i c3,.i c4,.i c5,.i c6,.i c7,.l _]=>
  L=[]/\F=[]/\H=[]/\S=[]/\fr=0/\lv=0/\[b0,b1,b2,b3,b4,b5,b6,b7]=[0,0,0,0,0,0,0,0]/\[c0,c1,c2,c3,c4,c5,c6,c7]=[0,0,0,0,0,0,0,0]
 |_,_=>False
def nwbF :SV->SS->Bb (Ah):=λv s=>match v with
 | .ptr b _ _ _=>match s.get b with
  |some (.cells (.ptr d _ _ _::_) _ _)=>some [b,d]|_=>none
 |_=>none
def WD :Con:=⟨ "nwb",[],[],noF,GC,[pV],[(QB,12,botL),(KB,13,JC)],nwbF,GD⟩
def botP (t:Nat):Fm->SS->Bb (List (Nat×List G)):=λf s=>match lk f t with
 |some (.ptr b _ _ _)=>match s.get b with
  |some (.cells (.ptr d _ _ _::_) _ _)=>some [(b,.keep:: .lst tRS:: .lst rW::(g8++ [.acc tHd 2])),(d,.acc Jg 4:: .int .i64:: .int .i64::(g8++ [.bool,.lst Jh]))]|_=>none
 |_=>none
def FQ :Ar->Prop
 | [.l l,.i m,.l L,.l F,.i b0,.i b1,.i b2,.i b3,.i b4,.i b5,.i b6,.i b7,.l H,.l S,.i fr,.i lv,.i c0,.i c1,.i c2,.i c3,.i c4,.i c5,.i c6,.i c7,.l _,.l N]=>
  (∀r∈l,O5 r)/\0<=m/\m<=40/\BI 0 L F [b0,b1,b2,b3,b4,b5,b6,b7] H S fr lv [c0,c1,c2,c3,c4,c5,c6,c7] N
 |_=>False
def Bm :Ar->Ar->Prop
 | [.l _,.i m,.l _,.l _,.i _,.i _,.i _,.i _,.i _,.i _,.i _,.i _,.l _,.l _,.i _,.i _,.i _,.i _,.i _,.i _,.i _,.i _,.i _,.i _,.l _,.l _],
  [.i r,.l L',.l F',.i b0',.i b1',.i b2',.i b3',.i b4',.i b5',.i b6',.i b7',.l H',.l S',.i fr',.i lv',.i c0',.i c1',.i c2',.i c3',.i c4',.i c5',.i c6',.i c7',.l _,.l N']=>
  r=1/\BI m.toNat L' F' [b0',b1',b2',b3',b4',b5',b6',b7'] H' S' fr' lv' [c0',c1',c2',c3',c4',c5',c6',c7'] N'
 |_,_=>False
def WP :Con:=⟨ "bpl",[pV,.one (.g (.lst 74)),iV],LA,botF,FQ,[iV],LA,noB,Bm⟩
def Bn :Ar->Ar->Prop
 | [.l l,.i m],[.l N,.i k,.l L,.l F,.i b0,.i b1,.i b2,.i b3,.i b4,.i b5,.i b6,.i b7,.l H,.l S,.i fr,.i lv,.i c0,.i c1,.i c2,.i c3,.i c4,.i c5,.i c6,.i c7,.b z,.l _]=>
  0<=k/\k<=l.length/\k<=m/\z=false/\BI k.toNat L F [b0,b1,b2,b3,b4,b5,b6,b7] H S fr lv [c0,c1,c2,c3,c4,c5,c6,c7] N
 |_,_=>False
def LB :Ar->Ar->Nat
 | .l l::_,_:: .i k::_=>(l.length-k).toNat|_,_=>0
def GO :Ar->Prop
 | [.l L,.l F,.i a,.i b,.i c,.i d,.i e,.i f,.i h,.i m,.i i,.i g]=>U32 i/\U32 g/\ ∃D K q,Rf D L F [a,b,c,d,e,f,h,m]/\WF D K/\D.at i g=some q|_=>False
def GP :Ar->Ar->Prop
 | [.l L,.l _,.i _,.i _,.i _,.i _,.i _,.i _,.i _,.i _,.i i,.i g],[.l O]=>∀D K q,L=D.L.map Sl.row->WF D K->D.at i g=some q->O=(bel D 1001 q).map (B2 D.gen)|_,_=>False
def Ww:=mkC "rha" [rfV,hV] GO [.one (.g (.lst tHd))] GP
def vL :Ar->Ar->Prop
 | [.l X,.l L],[.i k,.l O]=>0<=k/\k<=X.length/\(O.length:Int)=k/\ ∀l:Ah,X=l.map z5->O=(l.take k.toNat).map λ(j:Nat)=>[Dat.i j,.i (cI L j 0)]
 |_,_=>False
def Ex:=A2
def vI :Ar->Prop
 | [.l L,.l F,.i a,.i b,.i c,.i d,.i e,.i f,.i h,.i m,.i i,.i g]=>U32 i/\U32 g/\ ∃D K,Rf D L F [a,b,c,d,e,f,h,m]/\WF D K/\K+1<=1000|_=>False
def vJ :Ar->Ar->Prop
 | [.l L,.l F,.i a,.i b,.i c,.i d,.i e,.i f,.i h,.i m,.i i,.i g],[.l L',.l F',.i a',.i b',.i c',.i d',.i e',.i f',.i h',.i m']=>
  ∀D K,Rf D L F [a,b,c,d,e,f,h,m]->WF D K->K+1<=1000->Rf (W8 D i g).1 L' F' [a',b',c',d',e',f',h',m']
 |_,_=>False
def LT:=mkC "rdp" [rfV,hV] vI [rfV] vJ
def GL :Ar->Prop
 | [.l L,.l F,.i a,.i b,.i c,.i d,.i e,.i f,.i h,.i m,.i i,.i g]=>U32 i/\U32 g/\ ∃D K q,Rf D L F [a,b,c,d,e,f,h,m]/\WF D K/\D.at i g=some q/\K+2*(D.nod q).ch.length<=1000|_=>False
def GM :Ar->Ar->Prop
 | [.l L,.l F,.i a,.i b,.i c,.i d,.i e,.i f,.i h,.i m,.i i,.i g],[.l L',.l F',.i a',.i b',.i c',.i d',.i e',.i f',.i h',.i m']=>
  ∀D K q,Rf D L F [a,b,c,d,e,f,h,m]->WF D K->D.at i g=some q->K+2*(D.nod q).ch.length<=1000->(D.nod q).kind=1->Rf (fW D i g).1 L' F' [a',b',c',d',e',f',h',m']
 |_,_=>False
def Wx:=mkC "rcl" [rfV,hV] GL [rfV] GM
def chI (D:DM)(q:Nat):List (Int×Int):=(D.nod q).ch.map λ(j:Nat)=>((j:Int),(D.gen j:Int))
def vG :Ar->Ar->Prop
 | [.l X,.l L,.l F,.i a,.i b,.i c,.i d,.i e,.i f,.i h,.i m],[.i k,.l L',.l F',.i a',.i b',.i c',.i d',.i e',.i f',.i h',.i m']=>
  0<=k/\k<=X.length/\ ∀D K q,Rf D L F [a,b,c,d,e,f,h,m]->WF D K->D.Us q->X=(D.nod q).ch.map z5->K+2*X.length<=1000->Rf (drpL D ((chI D q).take k.toNat)) L' F' [a',b',c',d',e',f',h',m']
 |_,_=>False
def Er :Ar->Ar->Nat
 | .l X::_,.i k::_=>(X.length-k).toNat|_,_=>0
def Gl :Ar->Prop
 | [.l A,.l B]=>A=B/\A.length<=1000/\ ∀r∈A,∃i g:Int,r=[.i i,.i g]
 |_=>False
def kV :Ar->Ar->Prop
 |_,[.i r]=>r=1|_,_=>False
def WH:=mkC "lis" [.one (.g (.clp tHd)),.one (.g (.lst tHd))] Gl [iV] kV
def BJ :Ar->Ar->Prop
 | [.l A],[.i k]=>0<=k/\k<=A.length|_,_=>False
def Ms:=A2
def V7 :Ay->List (Nat×(Fm->SS->F9))
 |29=>[(0,D5 U0 "bpp" (mkPr rgR [(7,.int .i64)] (botP 0)) (gh2 (j9 1) (j9 2)) Bn LB)]
 |32=>[(0,D5 U0 "rhl" (F5 [(7,.int .i64),(6,.acc tHd 2)] nob) (gh2 (j9 5) (y8 2 0)) vL Ex)]
 |33=>[(0,D5 U0 "rcc" (F5 [(6,.int .i64)] (J1 2 (.lst tRS:: .lst rW::g8))) (gh2 (j9 5) (gh2 (y8 2 0) (ghDC 2))) vG Er)]
 |31=>[(0,D5 U0 "lil" (F5 [(5,.int .i64)] nob) (j9 0) BJ Ms)]
 |_=>[]
def U6 :Nat->List (Ay×Con)
 |0=>[(LVn,cq "lives")]
 |1=>[(75,cDo),(LVn,cq "lives")]
 |2=>[(30,mi),(76,jz),(LVn,cq "lives")]
 |3=>[(78,mz),(79,ne),(LVn,cq "lives")]
 |_=>[(30,mi),(34,LT),(LVn,cq "lives")]
def iO (_:Nat)(P:Aw):D4:=[]
