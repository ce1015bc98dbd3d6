/- The DOM: the tree of a node: the condition holds.
  Conditions: none. -/
import Derived.Test.YtoegfalhkackeaaGreatF3
set_option maxRecDepth 100000
set_option linter.all false
noncomputable section
namespace Go.D
open Go Go.Xe Go.Sx
def vcTre_ok (n:Nat):vcTre n:=by
 unfold vcTre;intro i g m S fr lv c0 Q R U V W X Y st N h;obtain⟨⟨hi,hg,m0,m6,D,K,c,r,d,hc⟩,E⟩:=h;have E:m.toNat<n+1:=E;have C:=r.slen d;obtain⟨s,h1,h2,h3,h4,h5,q,l,_⟩:=r.flds hc;have rd:∀ {D K c},RlE D S N->WF D K->D.at i g=some c->cI N (atF S i g) 0=(D.nod c).kind/\cS N (atF S i g) 1=(D.nod c).tag/\cL N (atF S i g) 2=(D.nod c).atts.map Att.row/\cS N (atF S i g) 3=(D.nod c).text/\cL N (atF S i g) 9=(D.nod c).ch.map (F5 D.gen)/\ ∀b∈(D.nod c).ch,D.at b (D.gen b)=some b:=by rintro D K c ⟨fr,lv,r⟩ d hc;obtain⟨s,h1,h2,h3,h4,h5,q,l⟩:=r.node hc;rw[Tj h1];refine⟨by unfold cI;rw[l];rfl,by unfold cS;rw[l];rfl,by unfold cL;rw[l];rfl,by unfold cS;rw[l];rfl,by unfold cL;rw[l];rfl,fun b hb=>?_⟩;obtain⟨sb,k1,k2,_⟩:=(d.ch c s h1 h3).2 b hb;exact DM.at_of k1 k2
 have H:∀ {D K c},RlE D S N->WF D K->D.at i g=some c->ln (cL N (atF S i g) 9)=((D.nod c).ch.length:Int):=fun h1 h2 h3=>by rw[(rd h1 h2 h3).2.2.2.2.1];simp[ln]
 have f:RlE D S N:=⟨_,_,r⟩
 have t0:m=0\/16<ln (cL N (atF S i g) 9)->vcTre0 n i g m S fr lv c0 Q R U V W X Y st N:=fun hz=>by
  unfold vcTre0;refine ndt fun D K c f d hc=>?_;have:N8 D m.toNat c=HV:=by
   rcases hz with rfl|hz;rfl
   ·rw[H f d hc]at hz;cases m.toNat with
    |zero=>rfl|succ k=>unfold N8;rw[Rh (by omega)]
  rw[this];exact⟨rfl,rfl,rfl,rfl,rfl,rfl⟩
 refine aK ⟨hi,hg,C⟩ (M6 q l (M6 q l (M6 q l (M6 q l ⟨fun z=>t0 (.inl z),fun z=>M6 q l ⟨fun z=>t0 (.inr z),fun ab=>M6 q l (ndi ?_ fun j k t y a x O hI=>?_)⟩⟩))));refine⟨by omega,by omega,rfl,fun D K c f d hc=>?_⟩;obtain⟨F,v,w,A,p,_⟩:=rd f d hc;exact⟨p,F,v,rfl,w,A,rfl⟩;obtain⟨j0,P,jo,M⟩:=hI;have aa:=H f d hc;have lz:ln (cL N (atF S i g) 9)<=16:=by omega
 have P:j<=ln (cL N (atF S i g) 9):=P;have lo:ln O=j:=jo;refine⟨fun hj=>?_,fun hj=>nin (nrn (ndt fun D K c f d hc=>?_))⟩
 ·have B:∀ {D K c},RlE D S N->WF D K->D.at i g=some c-> ∃b:Nat,(D.nod c).ch[j.toNat]? =some b/\D.at (cI (cL N (atF S i g) 9) j 0) (cI (cL N (atF S i g) 9) j 1)=some b:=by
   intro D K c f d hc;have e:=H f d hc;obtain⟨F,v,w,A,p,G⟩:=rd f d hc;obtain⟨b,hb⟩:=Sx.get_at (T:=(D.nod c).ch) j0 (by omega);refine⟨b,hb,?_⟩;have e0:cI (cL N (atF S i g) 9) j 0=b:=by rw[p];simp only[cI,l6 hb];rfl
   have Z:cI (cL N (atF S i g) 9) j 1=D.gen b:=by rw[p];simp only[cI,l6 hb];rfl
   rw[e0,Z];exact G b (QT hb)
  obtain⟨b,hb,o⟩:=B f d hc;have u:=d.u32 o;refine ndi (by omega) (ndi hj (ndi (by unfold I64;omega) (nin (nrn (ndi ⟨⟨u.1,u.2.1,by omega,by omega,D,K,b,r,d,o⟩,?_⟩ fun k' t' y' a' x' J he=>?_)))));show(m+ -1).toNat<n;omega
  ·refine nin (ndi (by omega) (nrn (ndi (by unfold I64;omega) (nin (nrn (ndi ⟨by omega,?_,?_,fun D K c f d hc=>?_⟩ (ndt ?_)))))));show j+1<=ln (cL N (atF S i g) 9);omega;rw[Rn];show((O.length+1:Nat):Int)=j+1;omega
   ·obtain⟨F,v,w,A,p,G,I⟩:=M D K c f d hc;refine⟨F,v,w,A,p,G,?_⟩;obtain⟨b,hb,o⟩:=B f d hc;have hs:=Hf (he D K b f d o);have ct:(d8 6 1 [.int k',.str t',.str y',.lst a',.str x',.lst J]:Sx.Rows)=[(N8 D (m+ -1).toNat b).row]:=by rw[<-hs];rfl
    have L:(m+ -1).toNat=m.toNat-1:=by omega
    have ej:(j+1).toNat=j.toNat+1:=by omega
    rw[ct,I,ej,Y8 hb,L];simp[rows]
   show((cL N (atF S i g) 9).length-(j+1)).toNat<((cL N (atF S i g) 9).length-j).toNat;have hj:j<((cL N (atF S i g) 9).length:Int):=hj;omega
 ·obtain⟨F,v,w,A,p,G,I⟩:=M D K c f d hc;have e:=H f d hc;have L:m.toNat=(m.toNat-1)+1:=by omega
  rw[L];unfold N8;rw[Re (by omega)];rw[RK (by omega)]at I;exact⟨v,w,A,p,G,I⟩
def By:=oO
def kY :Ar->Ar->Prop
 | [.int i,.int g,.lst S,.int fr,.int lv,.int _,.int _,.int _,.int _,.int _,.int _,.int _,.int _,.lst _,.lst N],[.int k,.str t,.str y,.lst a,.str x,.lst ch,.int r]=>∀D K,RlE D S N->WF D K->match D.at i g with
  |none=>r=11|some c=>(z5 (N8 D 6 c)->r=0/\ ∃s,s=jO true (N8 D 6 c)/\isT s k t y a x ch)/\(¬z5 (N8 D 6 c)->r=14)
 |_,_=>False
def cTee:=mkR "tee" [dV,hV] wC EN By [nO,iV] kY
def OF :Ay->List (Nat×(Fm->SS->K0)):=aR
def Ms :Nat->List (Ay×Con)
 |_=>[(42,cChk),(98,cCpd),(LVn,cYes "lives")]
def LG :Nat->Aw->I9
 |_,P=>(48,kro P U0 cTre)::bN 0 P
open Go Go.Xe Go.Sx
def vcTee :Prop:=
 ∀b c a d f g h i j k l m o p q,By (.int b::.int c::JD a d f g h i j k l m o p q)->Nq (ln a) (Cg T9 K9 (.int b::.int c::JE a d f g h i j k l m o p) fun R=>∀y,R [.bool y]->((y=true->Nq (ln a) (Cg BA vG (.int b::.int c::.int 6::JD a d f g h i j k l m o p q) fun R=>∀r s t u v w,R [.int r,.str s,.str t,.lst u,.str v,.lst w]->Cg T4 J7 [.int r,.str s,.str t,.lst u,.str v,.lst w] (fun R=>∀x,R [.int x]->((x=0->Cg T4 J7 [.int r,.str s,.str t,.lst u,.str v,.lst w] (fun R=>∀z,R [.int z]->((z=0->Cg oH V6 [.int r,.str s,.str t,.lst u,.str v,.lst w,.bool true] (fun R=>∀B C D A F G,R [.int B,.str C,.str D,.lst A,.str F,.lst G]->Nq (ln A) (Nd (kY (.int b::.int c::JD a d f g h i j k l m o p q) [.int B,.str C,.str D,.lst A,.str F,.lst G,.int 0]) True)))/\(¬z=0->Nd (kY (.int b::.int c::JD a d f g h i j k l m o p q) [.int 0,.str [],.str [],.lst [],.str [],.lst [],.int 0]) True))))/\(¬x=0->Nd (kY (.int b::.int c::JD a d f g h i j k l m o p q) [.int 0,.str [],.str [],.lst [],.str [],.lst [],.int x]) True)))))/\(¬y=true->Nd (kY (.int b::.int c::JD a d f g h i j k l m o p q) [.int 0,.str [],.str [],.lst [],.str [],.lst [],.int 11]) True)))
def vcTee_eq :kr Go.Proofs.Tryz.prog cTee OF (Ms 0) (LG 0) 12=vcTee:=by kernel_rfl
def vcTee_ok :vcTee:=by
 unfold vcTee;intro i g S fr lv c0 C E F G H I J st N h;obtain⟨hi,hg,D,K,o,q⟩:=h;have m:=o.slen q;have B:RlE D S N:=⟨_,_,o⟩
 refine jI ⟨hi,hg,m⟩ ⟨fun hv=>?_,fun hv=>ndt fun D' l b d=>?_⟩
 ·obtain⟨c,hc⟩:=o.vld.1 hv;refine nin (nrn (ndi ⟨hi,hg,by omega,by omega,D,K,c,o,q,hc⟩ fun k t y a x ch w=>?_));have hs:isT (N8 D 6 c) k t y a x ch:=w D K c B q hc;have val:∀D' l,RlE D' S N->WF D' l-> ∃c',D'.at i g=some c'/\isT (N8 D' 6 c') k t y a x ch:=fun D' l b d=>by obtain⟨p,v,j⟩:=b;obtain⟨c',e⟩:=j.vld.1 hv;exact⟨c',e,w D' l c' ⟨_,_,j⟩ d e⟩
  refine ndi ⟨_,hs⟩ fun r hr=>⟨fun r0=>ndi ⟨_,hs⟩ fun L s=>⟨fun n=>ndi ⟨_,hs,((hr _ hs).1.1 r0).1⟩ fun k' t' M a' x' z A=>nin (nrn (ndt fun D' l b d=>?_)),fun n=>absurd ((s _ hs).1.2 ((hr _ hs).1.1 r0)) n⟩,fun r0=>ndt fun D' l b d=>?_⟩
  obtain⟨c',e,f⟩:=val D' l b d;rw[e];exact⟨fun _=>⟨rfl,_,rfl,A _ f⟩,fun hn=>absurd ((hr _ f).1.1 r0) hn⟩;obtain⟨c',e,f⟩:=val D' l b d;rw[e];exact⟨fun u=>absurd ((hr _ f).1.2 u) r0,fun _=>(hr _ f).2.resolve_left r0⟩
 obtain⟨p,v,j⟩:=b;rw[j.none hv]
