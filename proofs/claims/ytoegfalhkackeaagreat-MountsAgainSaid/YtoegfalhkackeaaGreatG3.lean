/- The DOM: the tree of a node: the condition holds.
  Conditions: none. -/
import Derived.Test.YtoegfalhkackeaaGreatF2
set_option maxRecDepth 100000
set_option linter.all false
noncomputable section
namespace Go.D
open Go Go.Xe Go.Sx
def vcTre_ok (n:Nat):vcTre n:=by
 unfold vcTre;intro i g m S fr lv c0 Q R c3 U V W X st N h;obtain⟨⟨hi,hg,m0,m6,D,K,c,r,d,hc⟩,E⟩:=h;have E:m.toNat<n+1:=E;have C:=r.slen d;obtain⟨s,h1,h2,h3,h4,h5,q,l,_⟩:=r.flds hc;have rd:∀ {D K c},RlE D S N->WF D K->D.at i g=some c->cI N (atF S i g) 0=(D.nod c).kind/\cS N (atF S i g) 1=(D.nod c).tag/\cL N (atF S i g) 2=(D.nod c).atts.map Att.row/\cS N (atF S i g) 3=(D.nod c).text/\cL N (atF S i g) 9=(D.nod c).ch.map (z9 D.gen)/\ ∀b∈(D.nod c).ch,D.at b (D.gen b)=some b:=by rintro D K c ⟨fr,lv,r⟩ d hc;obtain⟨s,h1,h2,h3,h4,h5,q,l⟩:=r.node hc;rw[Vp h1];refine⟨by unfold cI;rw[l];rfl,by unfold cS;rw[l];rfl,by unfold cL;rw[l];rfl,by unfold cS;rw[l];rfl,by unfold cL;rw[l];rfl,fun b hb=>?_⟩;obtain⟨sb,k1,k2,_⟩:=(d.ch c s h1 h3).2 b hb;exact Vn k1 k2
 have H:∀ {D K c},RlE D S N->WF D K->D.at i g=some c->ln (cL N (atF S i g) 9)=((D.nod c).ch.length:Int):=fun h1 h2 h3=>by rw[(rd h1 h2 h3).2.2.2.2.1];simp[ln]
 have f:RlE D S N:=⟨_,_,r⟩
 have t0:m=0\/16<ln (cL N (atF S i g) 9)->vcTre0 n i g m S fr lv c0 Q R c3 U V W X st N:=fun hz=>by
  unfold vcTre0;refine ndt fun D K c f d hc=>?_;have:J1 D m.toNat c=IY:=by
   rcases hz with rfl|hz;rfl
   ·rw[H f d hc]at hz;cases m.toNat with
    |zero=>rfl|succ k=>unfold J1;rw[TJ (by omega)]
  rw[this];exact⟨rfl,rfl,rfl,rfl,rfl,rfl⟩
 refine aV ⟨hi,hg,C⟩ (P3 q l (P3 q l (P3 q l (P3 q l ⟨fun z=>t0 (.inl z),fun z=>P3 q l ⟨fun z=>t0 (.inr z),fun ab=>P3 q l (ndi ?_ fun j k t y a x O hI=>?_)⟩⟩))));refine⟨by omega,by omega,rfl,fun D K c f d hc=>?_⟩;obtain⟨F,v,w,A,p,_⟩:=rd f d hc;exact⟨p,F,v,rfl,w,A,rfl⟩;obtain⟨Z,P,jo,M⟩:=hI;have aa:=H f d hc;have lz:ln (cL N (atF S i g) 9)<=16:=by omega
 have P:j<=ln (cL N (atF S i g) 9):=P;have lo:ln O=j:=jo;refine⟨fun hj=>?_,fun hj=>nin (nrn (ndt fun D K c f d hc=>?_))⟩
 ·have B:∀ {D K c},RlE D S N->WF D K->D.at i g=some c-> ∃b:Nat,(D.nod c).ch[j.toNat]? =some b/\D.at (cI (cL N (atF S i g) 9) j 0) (cI (cL N (atF S i g) 9) j 1)=some b:=by
   intro D K c f d hc;have e:=H f d hc;obtain⟨F,v,w,A,p,G⟩:=rd f d hc;obtain⟨b,hb⟩:=Sx.get_at (T:=(D.nod c).ch) Z (by omega);refine⟨b,hb,?_⟩;have e0:cI (cL N (atF S i g) 9) j 0=b:=by rw[p];simp only[cI,i9 hb];rfl
   have e1:cI (cL N (atF S i g) 9) j 1=D.gen b:=by rw[p];simp only[cI,i9 hb];rfl
   rw[e0,e1];exact G b (Tv hb)
  obtain⟨b,hb,o⟩:=B f d hc;have u:=d.u32 o;refine ndi (by omega) (ndi hj (ndi (by unfold I64;omega) (nin (nrn (ndi ⟨⟨u.1,u.2.1,by omega,by omega,D,K,b,r,d,o⟩,?_⟩ fun k' t' y' a' x' J he=>?_)))));show(m+ -1).toNat<n;omega
  ·refine nin (ndi (by omega) (nrn (ndi (by unfold I64;omega) (nin (nrn (ndi ⟨by omega,?_,?_,fun D K c f d hc=>?_⟩ (ndt ?_)))))));show j+1<=ln (cL N (atF S i g) 9);omega;rw[TO];show((O.length+1:Nat):Int)=j+1;omega
   ·obtain⟨F,v,w,A,p,G,I⟩:=M D K c f d hc;refine⟨F,v,w,A,p,G,?_⟩;obtain⟨b,hb,o⟩:=B f d hc;have hs:=AW (he D K b f d o);have ct:(d8 6 1 [.int k',.str t',.str y',.lst a',.str x',.lst J]:Sx.Rows)=[(J1 D (m+ -1).toNat b).row]:=by rw[<-hs];rfl
    have L:(m+ -1).toNat=m.toNat-1:=by omega
    have Y:(j+1).toNat=j.toNat+1:=by omega
    rw[ct,I,Y,Z9 hb,L];simp[rows]
   show((cL N (atF S i g) 9).length-(j+1)).toNat<((cL N (atF S i g) 9).length-j).toNat;have hj:j<((cL N (atF S i g) 9).length:Int):=hj;omega
 ·obtain⟨F,v,w,A,p,G,I⟩:=M D K c f d hc;have e:=H f d hc;have L:m.toNat=(m.toNat-1)+1:=by omega
  rw[L];unfold J1;rw[TH (by omega)];rw[Uk (by omega)]at I;exact⟨v,w,A,p,G,I⟩
def vT:=pI
def iJ :Ar->Ar->Prop
 | [.int i,.int g,.lst S,.int fr,.int lv,.int _,.int _,.int _,.int _,.int _,.int _,.int _,.int _,.lst _,.lst N],[.int k,.str t,.str y,.lst a,.str x,.lst ch,.int r]=>∀D K,RlE D S N->WF D K->match D.at i g with
  |none=>r=11|some c=>(w9 (J1 D 6 c)->r=0/\ ∃s,s=strip true (J1 D 6 c)/\isT s k t y a x ch)/\(¬w9 (J1 D 6 c)->r=14)
 |_,_=>False
def cTee:=mkR "tee" [dV,hV] tC CV vT [nO,iV] iJ
def Qp :Ay->List (Nat×(Fm->SS->J0)):=bD
def Oc :Nat->List (Ay×Con)
 |_=>[(42,cChk),(98,cCpd),(LVn,cYes "lives")]
def Ng :Nat->Aw->G1
 |_,P=>(48,kro P U0 cTre)::cH 0 P
open Go Go.Xe Go.Sx
def vcTee :Prop:=
 ∀b c a d f g h i j k l m o p q,vT (.int b::.int c::JD a d f g h i j k l m o p q)->Nq (ln a) (Cg V9 M5 (.int b::.int c::JE a d f g h i j k l m o p) fun R=>∀y,R [.bool y]->((y=true->Nq (ln a) (Cg BZ vY (.int b::.int c::.int 6::JD a d f g h i j k l m o p q) fun R=>∀r s t u v w,R [.int r,.str s,.str t,.lst u,.str v,.lst w]->Cg V4 L3 [.int r,.str s,.str t,.lst u,.str v,.lst w] (fun R=>∀x,R [.int x]->((x=0->Cg V4 L3 [.int r,.str s,.str t,.lst u,.str v,.lst w] (fun R=>∀z,R [.int z]->((z=0->Cg pB Y4 [.int r,.str s,.str t,.lst u,.str v,.lst w,.bool true] (fun R=>∀B C D A F G,R [.int B,.str C,.str D,.lst A,.str F,.lst G]->Nq (ln A) (Nd (iJ (.int b::.int c::JD a d f g h i j k l m o p q) [.int B,.str C,.str D,.lst A,.str F,.lst G,.int 0]) True)))/\(¬z=0->Nd (iJ (.int b::.int c::JD a d f g h i j k l m o p q) [.int 0,.str [],.str [],.lst [],.str [],.lst [],.int 0]) True))))/\(¬x=0->Nd (iJ (.int b::.int c::JD a d f g h i j k l m o p q) [.int 0,.str [],.str [],.lst [],.str [],.lst [],.int x]) True)))))/\(¬y=true->Nd (iJ (.int b::.int c::JD a d f g h i j k l m o p q) [.int 0,.str [],.str [],.lst [],.str [],.lst [],.int 11]) True)))
def vcTee_eq :kr Go.Proofs.Tryz.prog cTee Qp (Oc 0) (Ng 0) 12=vcTee:=by kernel_rfl
def vcTee_ok :vcTee:=by
 unfold vcTee;intro i g S fr lv c0 C E c3 F G H I st N h;obtain⟨hi,hg,D,K,o,q⟩:=h;have m:=o.slen q;have B:RlE D S N:=⟨_,_,o⟩
 refine kH ⟨hi,hg,m⟩ ⟨fun hv=>?_,fun hv=>ndt fun D' l b d=>?_⟩
 ·obtain⟨c,hc⟩:=o.vld.1 hv;refine nin (nrn (ndi ⟨hi,hg,by omega,by omega,D,K,c,o,q,hc⟩ fun k t y a x ch w=>?_));have hs:isT (J1 D 6 c) k t y a x ch:=w D K c B q hc;have val:∀D' l,RlE D' S N->WF D' l-> ∃c',D'.at i g=some c'/\isT (J1 D' 6 c') k t y a x ch:=fun D' l b d=>by obtain⟨p,v,j⟩:=b;obtain⟨c',e⟩:=j.vld.1 hv;exact⟨c',e,w D' l c' ⟨_,_,j⟩ d e⟩
  refine ndi ⟨_,hs⟩ fun r hr=>⟨fun r0=>ndi ⟨_,hs⟩ fun J s=>⟨fun n=>ndi ⟨_,hs,((hr _ hs).1.1 r0).1⟩ fun k' t' L a' x' z A=>nin (nrn (ndt fun D' l b d=>?_)),fun n=>absurd ((s _ hs).1.2 ((hr _ hs).1.1 r0)) n⟩,fun r0=>ndt fun D' l b d=>?_⟩
  obtain⟨c',e,f⟩:=val D' l b d;rw[e];exact⟨fun _=>⟨rfl,_,rfl,A _ f⟩,fun hn=>absurd ((hr _ f).1.1 r0) hn⟩;obtain⟨c',e,f⟩:=val D' l b d;rw[e];exact⟨fun u=>absurd ((hr _ f).1.2 u) r0,fun _=>(hr _ f).2.resolve_left r0⟩
 obtain⟨p,v,j⟩:=b;rw[j.none hv]
def C0 (D:DM)(c:Nat):DM:=⟨D.L.modify c fun s=>⟨s.g+1,false,D9 0 [] []⟩,c::D.free,D.C⟩
def bel (D:DM):Nat->Nat->Ah
 |0,c=>[c]
 |f+1,c=>c::(D.nod c).ch.flatMap (bel D f)
def RlX (D:DM)(X:Ah)(S N:Sx.Rows)(fr lv:Int):Prop:=Rl D.gen (X.foldl C0 D) S N fr lv
def tI :Ar->Prop
 | [.int i,.int g,.lst S,.int fr,.int lv,.int _,.int _,.int _,.int _,.int _,.int _,.int _,.int _,.lst _,.lst N,.lst Q,.lst W]=>U32 i/\U32 g/\Q.length+S.countP (fun r=>(r.getD 1 (.int 0)).toBool)<=1000/\W.length=Q.length/\ ∃D X K c,RlX D X S N fr lv/\WF D K/\D.at i g=some c/\ ∀b∈bel D 1001 c,b∉X|_=>False
def tJ :Ar->Ar->Prop
 | [.int i,.int g,.lst S,.int fr,.int lv,.int a,.int b,.int c,.int d,.int e,.int f,.int h,.int m,.lst _,.lst N,.lst Q,.lst W],[.lst S',.int fr',.int lv',.int a',.int b',.int c',.int d',.int e',.int f',.int h',.int m',.lst _,.lst N',.lst Q',.lst W']=>
  [a',b',c',d',e',f',h',m']=[a,b,c,d,e,f,h,m]/\N'=N/\W'.length=Q'.length/\Fr S N S' N'/\ ∀D X K c,RlX D X S N fr lv->WF D K->D.at i g=some c->(∀b∈bel D 1001 c,b∉X)->RlX D (X++bel D 1001 c) S' N' fr' lv'/\Q'.length=Q.length+(bel D 1001 c).length
 |_,_=>False
def xY :Ar->Nat
 |_::_:: .lst S::_=>S.countP fun r=>(r.getD 1 (.int 0)).toBool
 |_=>0
def frcB :List bW:=tC++ [(25,1,[.ptr 0 13]),(41,1,[.g (.acc tHd 2)]),(156,1,[.g (.acc 131 1)]),(157,1,[.clo 91 [(2,1),(3,1),(4,1),(5,1)]])]
def frcF :As->SS->Bb (Ah):=fun args s=>match args,rgB s with
 | [_,.ptr d _ _ _,.ptr a _ _ _,.ptr b _ _ _,.ptr c _ _ _],some r=>match s.get d with
  |some (.cells [.ptr e _ _ _] _ _)=>some [e,r,d,a,b,c]|_=>none
 |_,_=>none
def cFrc :Con:=⟨ "frc",[hV,.one (.ptr 2 1),.one (.ptr 3 1),.one (.ptr 4 1),.one (.ptr 5 1)],frcB,frcF,tI,[],frcB,noB,tJ⟩
def frlB :Fm->SS->Bb (List (Nat×List G)):=fun f s=>match lk f 1,lk f 2,lk f 3,lk f 4 with
 |some (.ptr d _ _ _),some (.ptr a _ _ _),some (.ptr b _ _ _),some (.ptr q _ _ _)=>match s.get d with
  |some (.cells [.ptr e _ _ _] _ _)=>some [(e,[.acc Oi 4,.int .i64,.int .i64,.int .i64,.int .i64,.int .i64,.int .i64,.int .i64,.int .i64,.int .i64,.int .i64,.bool,.lst Oj]),(a,[.acc tHd 2]),(b,[.acc 131 1]),(d,[.keep]),(q,[.keep])]|_=>none
 |_,_,_,_=>none
def rgR :Fm->SS->List (At×G):=fun _ s=>match rgB s with
 |some r=>[(.no,.rgk r 10)]
 |none=>[]
def domG :Fm->SS->List (So×E):=fun f s=>match lk f 1 with
 |some (.ptr d _ _ _)=>match s.get d with
  |some (.cells [.ptr e _ _ _] _ _)=>match s.get e with
   |some (.cells (c::l) _ _)=>slG c s++(l.take 10).flatMap svG|_=>[]
  |_=>[]
 |_=>[]
def lstG (t:Nat):Fm->SS->List (So×E):=fun f s=>match lk f t with
 |some (.ptr d _ _ _)=>match s.get d with
  |some (.cells [c] _ _)=>slG c s|_=>[]
 |_=>[]
def lE :Ar->Ar->Prop
 | [.lst N,.lst L,.lst S,.int fr,.int lv,.int a,.int b,.int c,.int d,.int e,.int f,.int h,.int m,.lst Q,.lst W],[.lst N',.int j,.lst S',.int fr',.int lv',.int a',.int b',.int c',.int d',.int e',.int f',.int h',.int m',.bool z,.lst _,.lst Q',.lst W']=>
  N'=N/\z=false/\[a',b',c',d',e',f',h',m']=[a,b,c,d,e,f,h,m]/\0<=j/\j<=L.length/\W'.length=Q'.length/\Q'.length+S'.countP (fun r=>(r.getD 1 (.int 0)).toBool)<=1000/\S'.countP (fun r=>(r.getD 1 (.int 0)).toBool)<=S.countP (fun r=>(r.getD 1 (.int 0)).toBool)/\Fr S N S' N/\
   ∀D X K (q:Nat) sq,RlX D X S N fr lv->WF D K->D.L[q]? =some sq->sq.used=true->L=sq.n.ch.map (z9 D.gen)->(∀b∈sq.n.ch.flatMap (bel D 1001),b∉X)->RlX D (X++(sq.n.ch.take j.toNat).flatMap (bel D 1001)) S' N fr' lv'/\Q'.length=Q.length+((sq.n.ch.take j.toNat).flatMap (bel D 1001)).length
 |_,_=>False
def Db :Ar->Ar->Nat
 |_:: .lst L::_,_:: .int j::_=>(L.length-j).toNat|_,_=>0
def Qq :Ay->List (Nat×(Fm->SS->J0))
 |91=>[(0,L4 U0 "frl" (mkPr rgR [(32,.int .i64)] frlB) (gh2 (gh2 lN (y7 30)) (gh2 domG (gh2 (lstG 2) (lstG 3)))) lE Db)]
 |_=>[]
def SJ :Nat->List (Ay×Con)
 |_=>[(LVn,cYes "lives")]
def Sp :Nat->Aw->G1:=cH
