/- The DOM: the tree of a node: the condition holds.
  Conditions: none. -/
import Derived.Test.YtoegfalhkackeaaGreatD2
set_option maxRecDepth 100000
set_option linter.all false
noncomputable section
namespace Go.D
open Go Go.Xe Go.Sx
def qq (n:Nat):qt n:=by
 unfold qt;intro i g m S fr lv c0 U V W X Y Z c7 st N h;obtain⟨⟨hi,hg,m0,m6,D,K,c,v,d,hc⟩,F⟩:=h;have F:m.toNat<n+1:=F;have E:=v.slen d;obtain⟨s,h1,h2,h3,h4,h5,r,o,_⟩:=v.flds hc;have rd:∀ {D K c},RlE D S N->WF D K->D.at i g=some c->cI N (atF S i g) 0=(D.nod c).kind/\cS N (atF S i g) 1=(D.nod c).tag/\cL N (atF S i g) 2=(D.nod c).atts.map Att.row/\cS N (atF S i g) 3=(D.nod c).text/\cL N (atF S i g) 9=(D.nod c).ch.map (B2 D.gen)/\ ∀b∈(D.nod c).ch,D.at b (D.gen b)=some b:=by rintro D K c ⟨fr,lv,v⟩ d hc;obtain⟨s,h1,h2,h3,h4,h5,r,o⟩:=v.node hc;rw[UZ h1];refine⟨by unfold cI;rw[o];rfl,by unfold cS;rw[o];rfl,by unfold cL;rw[o];rfl,by unfold cS;rw[o];rfl,by unfold cL;rw[o];rfl,λb hb=>?_⟩;obtain⟨sb,k1,k2,_⟩:=(d.ch c s h1 h3).2 b hb;exact UX k1 k2
 have I:∀ {D K c},RlE D S N->WF D K->D.at i g=some c->ln (cL N (atF S i g) 9)=((D.nod c).ch.length:Int):=λh1 h2 h3=>by rw[(rd h1 h2 h3).2.2.2.2.1];simp[ln]
 have f:RlE D S N:=⟨_,_,v⟩
 have t0:m=0\/16<ln (cL N (atF S i g) 9)->gw n i g m S fr lv c0 U V W X Y Z c7 st N:=λhz=>by
  unfold gw;refine ndt λD K c f d hc=>?_;have:R7 D m.toNat c=ES:=by
   rcases hz with rfl|hz;rfl
   .rw[I f d hc]at hz;cases m.toNat with
    |zero=>rfl|succ k=>unfold R7;rw[Tp (by omega)]
  rw[this];exact⟨rfl,rfl,rfl,rfl,rfl,rfl⟩
 refine G0 ⟨hi,hg,E⟩ (C8 r o (C8 r o (C8 r o (C8 r o ⟨λz=>t0 (.inl z),λz=>C8 r o ⟨λz=>t0 (.inr z),λab=>C8 r o (ndi ?_ λj k t y a x O hI=>?_)⟩⟩))));refine⟨by omega,by omega,rfl,λD K c f d hc=>?_⟩;obtain⟨G,w,A,B,q,_⟩:=rd f d hc;exact⟨q,G,w,rfl,A,B,rfl⟩;obtain⟨j0,Q,jo,P⟩:=hI;have aa:=I f d hc;have lz:ln (cL N (atF S i g) 9)<=16:=by omega
 have Q:j<=ln (cL N (atF S i g) 9):=Q;have lo:ln O=j:=jo;refine⟨λhj=>?_,λhj=>nin (nrn (ndt λD K c f d hc=>?_))⟩
 .have C:∀ {D K c},RlE D S N->WF D K->D.at i g=some c-> ∃b:Nat,(D.nod c).ch[j.toNat]? =some b/\D.at (cI (cL N (atF S i g) 9) j 0) (cI (cL N (atF S i g) 9) j 1)=some b:=by
   intro D K c f d hc;have e:=I f d hc;obtain⟨G,w,A,B,q,H⟩:=rd f d hc;obtain⟨b,hb⟩:=Sx.get_at (T:=(D.nod c).ch) j0 (by omega);refine⟨b,hb,?_⟩;have e0:cI (cL N (atF S i g) 9) j 0=b:=by rw[q];simp only[cI,d9 hb];rfl
   have e1:cI (cL N (atF S i g) 9) j 1=D.gen b:=by rw[q];simp only[cI,d9 hb];rfl
   rw[e0,e1];exact H b (Td hb)
  obtain⟨b,hb,p⟩:=C f d hc;have u:=d.u32 p;refine ndi (by omega) (ndi hj (ndi (by unfold I64;omega) (nin (nrn (ndi ⟨⟨u.1,u.2.1,by omega,by omega,D,K,b,v,d,p⟩,?_⟩ λk' t' y' R x' L he=>?_)))));show(m+ -1).toNat<n;omega
  .refine nin (ndi (by omega) (nrn (ndi (by unfold I64;omega) (nin (nrn (ndi ⟨by omega,?_,?_,λD K c f d hc=>?_⟩ (ndt ?_)))))));show j+1<=ln (cL N (atF S i g) 9);omega;rw[Tv];show((O.length+1:Nat):Int)=j+1;omega
   .obtain⟨G,w,A,B,q,H,J⟩:=P D K c f d hc;refine⟨G,w,A,B,q,H,?_⟩;obtain⟨b,hb,p⟩:=C f d hc;have hs:=BG (he D K b f d p);have ct:(b8 6 1 [.i k',.s t',.s y',.l R,.s x',.l L]:a8)=[(R7 D (m+ -1).toNat b).row]:=by rw[<-hs];rfl
    have M:(m+ -1).toNat=m.toNat-1:=by omega
    have ej:(j+1).toNat=j.toNat+1:=by omega
    rw[ct,J,ej,E1 hb,M];simp[rows]
   show((cL N (atF S i g) 9).length-(j+1)).toNat<((cL N (atF S i g) 9).length-j).toNat;have hj:j<((cL N (atF S i g) 9).length:Int):=hj;omega
 .obtain⟨G,w,A,B,q,H,J⟩:=P D K c f d hc;have e:=I f d hc;have M:m.toNat=(m.toNat-1)+1:=by omega
  rw[M];unfold R7;rw[Tn (by omega)];rw[TT (by omega)]at J;exact⟨w,A,B,q,H,J⟩
def lM:=bI
def bR :Ar->Ar->Prop
 | [.i i,.i g,.l S,.i fr,.i lv,.i _,.i _,.i _,.i _,.i _,.i _,.i _,.i _,.l _,.l N],[.i k,.s t,.s y,.l a,.s x,.l ch,.i r]=>∀D K,RlE D S N->WF D K->match D.at i g with
  |none=>r=11|some c=>(E3 (R7 D 6 c)->r=0/\ ∃s,s=kC true (R7 D 6 c)/\isT s k t y a x ch)/\(¬E3 (R7 D 6 c)->r=14)
 |_,_=>False
def zk:=mkR "tee" [dV,hV] oQ Bu lM [nO,iV] bR
def PU :Ay->List (Nat×(Fm->SS->F9)):=W3
def NX :Nat->List (Ay×Con)
 |_=>[(42,fp),(98,zw),(LVn,cq "lives")]
def MV :Nat->Aw->D4
 |_,P=>(48,kro P U0 Id)::V8 0 P
open Go Go.Xe Go.Sx
def qw :Prop:=
 ∀c d a f g h j k m o p q r t u,lM (.i c::.i d::JD a f g h j k m o p q r t u)->We (JD a f g h j k m o p q r t u) λX=>We (.i c::.i d::X) λV=>Nq (ln a) (Cg I0 E2 (.i c::.i d::JE a f g h j k m o p q r t) λR=>∀C,R [.b C]->((C=true->Nq (ln a) (Cg CK wU (.i c::.i d::.i 6::X) λR=>∀v w x y z A,R [.i v,.s w,.s x,.l y,.s z,.l A]->We (Cg fV T5 [.i v,.s w,.s x,.l y,.s z,.l A]) λW=>W (λR=>∀B,R [.i B]->((B=0->W (λR=>∀D,R [.i D]->((D=0->Cg tK Y8 [.i v,.s w,.s x,.l y,.s z,.l A,.b true] (λR=>∀G H I F J K,R [.i G,.s H,.s I,.l F,.s J,.l K]->Nq (ln F) (Nd (bR V [.i G,.s H,.s I,.l F,.s J,.l K,.i 0]) True)))/\(¬D=0->Nd (bR V [.i 0,.s [],.s [],.l [],.s [],.l [],.i 0]) True))))/\(¬B=0->Nd (bR V [.i 0,.s [],.s [],.l [],.s [],.l [],.i B]) True)))))/\(¬C=true->Nd (bR V [.i 0,.s [],.s [],.l [],.s [],.l [],.i 11]) True)))
def qv :kr zk PU (NX 0) (MV 0) 12=qw:=by kernel_rfl
def qu :qw:=by
 unfold qw;intro i g S fr lv c0 E F G H I J L st N h;obtain⟨hi,hg,D,K,o,q⟩:=h;have m:=o.slen q;have B:RlE D S N:=⟨_,_,o⟩
 refine Y7 ⟨hi,hg,m⟩ ⟨λhv=>?_,λhv=>ndt λD' l b d=>?_⟩
 .obtain⟨c,hc⟩:=o.vld.1 hv;refine nin (nrn (ndi ⟨hi,hg,by omega,by omega,D,K,c,o,q,hc⟩ λk t y a x ch w=>?_));have hs:isT (R7 D 6 c) k t y a x ch:=w D K c B q hc;have val:∀D' l,RlE D' S N->WF D' l-> ∃c',D'.at i g=some c'/\isT (R7 D' 6 c') k t y a x ch:=λD' l b d=>by obtain⟨p,v,j⟩:=b;obtain⟨c',e⟩:=j.vld.1 hv;exact⟨c',e,w D' l c' ⟨_,_,j⟩ d e⟩
  refine ndi ⟨_,hs⟩ λr hr=>⟨λr0=>ndi ⟨_,hs⟩ λM s=>⟨λn=>ndi ⟨_,hs,((hr _ hs).1.1 r0).1⟩ λk' O P C x' z A=>nin (nrn (ndt λD' l b d=>?_)),λn=>absurd ((s _ hs).1.2 ((hr _ hs).1.1 r0)) n⟩,λr0=>ndt λD' l b d=>?_⟩
  obtain⟨c',e,f⟩:=val D' l b d;rw[e];exact⟨λ_=>⟨rfl,_,rfl,A _ f⟩,λhn=>absurd ((hr _ f).1.1 r0) hn⟩;obtain⟨c',e,f⟩:=val D' l b d;rw[e];exact⟨λu=>absurd ((hr _ f).1.2 u) r0,λ_=>(hr _ f).2.resolve_left r0⟩
 obtain⟨p,v,j⟩:=b;rw[j.none hv]
def A1 (D:DM)(c:Nat):DM:=⟨D.L.modify c λs=>⟨s.g+1,false,C5 0 [] []⟩,c::D.free,D.C⟩
def bel (D:DM):Nat->Nat->Ah
 |0,c=>[c]
 |f+1,c=>c::(D.nod c).ch.flatMap (bel D f)
def RlX (D:DM)(X:Ah)(S N:a8)(fr lv:Int):Prop:=Rl D.gen (X.foldl A1 D) S N fr lv
def tR :Ar->Prop
 | [.i i,.i g,.l S,.i fr,.i lv,.i _,.i _,.i _,.i _,.i _,.i _,.i _,.i _,.l _,.l N,.l Q,.l W]=>U32 i/\U32 g/\Q.length+S.countP (λr=>(r.getD 1 (.i 0)).toBool)<=1000/\W.length=Q.length/\ ∃D X K c,RlX D X S N fr lv/\WF D K/\D.at i g=some c/\ ∀b∈bel D 1001 c,b∉X|_=>False
def tS :Ar->Ar->Prop
 | [.i i,.i g,.l S,.i fr,.i lv,.i a,.i b,.i c,.i d,.i e,.i f,.i h,.i m,.l _,.l N,.l Q,.l W],[.l S',.i fr',.i lv',.i a',.i b',.i c',.i d',.i e',.i f',.i h',.i m',.l _,.l N',.l Q',.l W']=>
  [a',b',c',d',e',f',h',m']=[a,b,c,d,e,f,h,m]/\N'=N/\W'.length=Q'.length/\Fr S N S' N'/\ ∀D X K c,RlX D X S N fr lv->WF D K->D.at i g=some c->(∀b∈bel D 1001 c,b∉X)->RlX D (X++bel D 1001 c) S' N' fr' lv'/\Q'.length=Q.length+(bel D 1001 c).length
 |_,_=>False
def zA :Ar->Nat
 |_::_:: .l S::_=>S.countP λr=>(r.getD 1 (.i 0)).toBool
 |_=>0
def frcB :List Z9:=oQ++ [(25,1,[.ptr 0 13]),(41,1,[.g (.acc tHd 2)]),(156,1,[.g (.acc 131 1)]),(157,1,[.clo 91 [(2,1),(3,1),(4,1),(5,1)]])]
def frcF :As->SS->Bb (Ah):=λargs s=>match args,rgB s with
 | [_,.ptr d _ _ _,.ptr a _ _ _,.ptr b _ _ _,.ptr c _ _ _],some r=>match s.get d with
  |some (.cells [.ptr e _ _ _] _ _)=>some [e,r,d,a,b,c]|_=>none
 |_,_=>none
def VT :Con:=⟨ "frc",[hV,.one (.ptr 2 1),.one (.ptr 3 1),.one (.ptr 4 1),.one (.ptr 5 1)],frcB,frcF,tR,[],frcB,noB,tS⟩
def frlB :Fm->SS->Bb (List (Nat×List G)):=λf s=>match lk f 1,lk f 2,lk f 3,lk f 4 with
 |some (.ptr d _ _ _),some (.ptr a _ _ _),some (.ptr b _ _ _),some (.ptr q _ _ _)=>match s.get d with
  |some (.cells [.ptr e _ _ _] _ _)=>some [(e,[.acc Jg 4,.int .i64,.int .i64,.int .i64,.int .i64,.int .i64,.int .i64,.int .i64,.int .i64,.int .i64,.int .i64,.bool,.lst Jh]),(a,[.acc tHd 2]),(b,[.acc 131 1]),(d,[.keep]),(q,[.keep])]|_=>none
 |_,_,_,_=>none
def rgR :Fm->SS->List (At×G):=λ_ s=>match rgB s with
 |some r=>[(.no,.rgk r 10)]
 |none=>[]
def domG :Fm->SS->List (So×E):=λf s=>match lk f 1 with
 |some (.ptr d _ _ _)=>match s.get d with
  |some (.cells [.ptr e _ _ _] _ _)=>match s.get e with
   |some (.cells (c::l) _ _)=>slG c s++(l.take 10).flatMap svG|_=>[]
  |_=>[]
 |_=>[]
def lstG (t:Nat):Fm->SS->List (So×E):=λf s=>match lk f t with
 |some (.ptr d _ _ _)=>match s.get d with
  |some (.cells [c] _ _)=>slG c s|_=>[]
 |_=>[]
def kR :Ar->Ar->Prop
 | [.l N,.l L,.l S,.i fr,.i lv,.i a,.i b,.i c,.i d,.i e,.i f,.i h,.i m,.l Q,.l W],[.l N',.i j,.l S',.i fr',.i lv',.i a',.i b',.i c',.i d',.i e',.i f',.i h',.i m',.b z,.l _,.l Q',.l W']=>
  N'=N/\z=false/\[a',b',c',d',e',f',h',m']=[a,b,c,d,e,f,h,m]/\0<=j/\j<=L.length/\W'.length=Q'.length/\Q'.length+S'.countP (λr=>(r.getD 1 (.i 0)).toBool)<=1000/\S'.countP (λr=>(r.getD 1 (.i 0)).toBool)<=S.countP (λr=>(r.getD 1 (.i 0)).toBool)/\Fr S N S' N/\
   ∀D X K (q:Nat) sq,RlX D X S N fr lv->WF D K->D.L[q]? =some sq->sq.used=true->L=sq.n.ch.map (B2 D.gen)->(∀b∈sq.n.ch.flatMap (bel D 1001),b∉X)->RlX D (X++(sq.n.ch.take j.toNat).flatMap (bel D 1001)) S' N fr' lv'/\Q'.length=Q.length+((sq.n.ch.take j.toNat).flatMap (bel D 1001)).length
 |_,_=>False
def DD :Ar->Ar->Nat
 |_:: .l L::_,_:: .i j::_=>(L.length-j).toNat|_,_=>0
def PW :Ay->List (Nat×(Fm->SS->F9))
 |91=>[(0,D5 U0 "frl" (mkPr rgR [(32,.int .i64)] frlB) (gh2 (gh2 uT (j9 30)) (gh2 domG (gh2 (lstG 2) (lstG 3)))) kR DD)]
 |_=>[]
def Si :Nat->List (Ay×Con)
 |_=>[(LVn,cq "lives")]
def RP :Nat->Aw->D4:=V8
open Go Go.Xe Go.Sx
def md (n:Nat)(a:a8)(d:Bool)(b c:a8)(f g:Int)(h:a8)(j k m o p q r s t u:Int)(v w x y:a8)(z A B C D F G H I J:Int)(K L:a8):Prop:=
 Nq (ln a)<|Nd (¬d=true)<|Nq (ln b)<|Nq (ln c)<|Nd (tS (.i f::.i g::.l h::J10 j k m o p q r s t u [.l v,.l w,.l x,.l y]) (.l a::J10 z A B C D F G H I J [.l K,.l L,.l b,.l c])) True
def xq (n:Nat):Prop:=
 ∀a j c m k o p q r s t u v x13 d f g,(tR (.i a::.i j::.l c::J10 m k o p q r s t u v [.l x13,.l d,.l f,.l g])/\zA (.i a::.i j::.l c::J10 m k o p q r s t u v [.l x13,.l d,.l f,.l g])<n+1)->Nd ((¬a<0)/\a<18446744073709551616) (Nd ((¬ln c<0)/\ln c<18446744073709551616)<|(a<ln c->Nb a (ln c) (Nd (a<ln c)<|(cB c a 1=true->Nd (a<ln c) ((cI c a 0=j->Nd (a<ln c) (Nd (a<ln c)<|Nd (a<ln c)<|Nd (I64 (k+(-1)))<|Nd (a<ln c)<|(cI c a 0<4294967295->Nd (a<ln c) (Nd (a<ln c)<|Nb a (ln c)<|Nd (a<ln c)<|Nd (I64 a)<|Nd (I64 (a+1))<|Ni (ln f)<|Nd (ln f+1<67108865)<|Nr (ln f)<|Ni (ln g)<|Nd (ln g+1<67108865)<|Nr (ln g)<|Nb (cI c a 3) (ln d)<|Nq (ln c)<|Nq (ln f+1)<|Nq (ln g+1)<|Nd (kR (.l d::.l (cL d (cI c a 3) 9)::.l (a9 (a9 (a9 (a9 c a 1 (.b false)) a 3 (.i (-1))) a 0 (.i (IntKind.wrap .u32 (cI c a 0+1)))) a 2 (.i m))::J10 (a+1) (k+(-1)) o p q r s t u v [.l (f++b8 2 1 [.i a,.i j]),.l (g++b8 1 1 [.i (cI c a 3)])]) (.l d::.i 0::.l (a9 (a9 (a9 (a9 c a 1 (.b false)) a 3 (.i (-1))) a 0 (.i (IntKind.wrap .u32 (cI c a 0+1)))) a 2 (.i m))::J10 (a+1) (k+(-1)) o p q r s t u v [.b false,.l x13,.l (f++b8 2 1 [.i a,.i j]),.l (g++b8 1 1 [.i (cI c a 3)])]))<|
 ∀z h w A B C D F G H I J K M L x y,kR (.l d::.l (cL d (cI c a 3) 9)::.l (a9 (a9 (a9 (a9 c a 1 (.b false)) a 3 (.i (-1))) a 0 (.i (IntKind.wrap .u32 (cI c a 0+1)))) a 2 (.i m))::J10 (a+1) (k+(-1)) o p q r s t u v [.l (f++b8 2 1 [.i a,.i j]),.l (g++b8 1 1 [.i (cI c a 3)])]) (.l z::.i h::.l w::J10 A B C D F G H I J K [.b M,.l L,.l x,.l y])->((h<ln (cL d (cI c a 3) 9)->Nb h (ln (cL d (cI c a 3) 9)) (Nq (ln w)<|Nd (¬M=true)<|Nq (ln x)<|Nq (ln y)<|Nd (tR (.i (cI (cL d (cI c a 3) 9) h 0)::.i (cI (cL d (cI c a 3) 9) h 1)::.l w::J10 A B C D F G H I J K [.l L,.l z,.l x,.l y])/\zA (.i (cI (cL d (cI c a 3) 9) h 0)::.i (cI (cL d (cI c a 3) 9) h 1)::.l w::J10 A B C D F G H I J K [.l L,.l z,.l x,.l y])<n)<|
 ∀N Q R S T U V W X Y Z x45 x46 O P,tS (.i (cI (cL d (cI c a 3) 9) h 0)::.i (cI (cL d (cI c a 3) 9) h 1)::.l w::J10 A B C D F G H I J K [.l L,.l z,.l x,.l y]) (.l N::J10 Q R S T U V W X Y Z [.l x45,.l x46,.l O,.l P])->Nd (I64 (h+1)) (Nq (ln N)<|Nq (ln O)<|Nq (ln P)<|Nd (kR (.l d::.l (cL d (cI c a 3) 9)::.l (a9 (a9 (a9 (a9 c a 1 (.b false)) a 3 (.i (-1))) a 0 (.i (IntKind.wrap .u32 (cI c a 0+1)))) a 2 (.i m))::J10 (a+1) (k+(-1)) o p q r s t u v [.l (f++b8 2 1 [.i a,.i j]),.l (g++b8 1 1 [.i (cI c a 3)])]) (.l x46::.i (h+1)::.l N::J10 Q R S T U V W X Y Z [.b false,.l x45,.l O,.l P]))<|
 Nd (DD (.l d::.l (cL d (cI c a 3) 9)::.l (a9 (a9 (a9 (a9 c a 1 (.b false)) a 3 (.i (-1))) a 0 (.i (IntKind.wrap .u32 (cI c a 0+1)))) a 2 (.i m))::J10 (a+1) (k+(-1)) o p q r s t u v [.l (f++b8 2 1 [.i a,.i j]),.l (g++b8 1 1 [.i (cI c a 3)])]) (.l x46::.i (h+1)::.l N::J10 Q R S T U V W X Y Z [.b false,.l x45,.l O,.l P])<DD (.l d::.l (cL d (cI c a 3) 9)::.l (a9 (a9 (a9 (a9 c a 1 (.b false)) a 3 (.i (-1))) a 0 (.i (IntKind.wrap .u32 (cI c a 0+1)))) a 2 (.i m))::J10 (a+1) (k+(-1)) o p q r s t u v [.l (f++b8 2 1 [.i a,.i j]),.l (g++b8 1 1 [.i (cI c a 3)])]) (.l z::.i h::.l w::J10 A B C D F G H I J K [.b M,.l L,.l x,.l y])) True)))/\(¬h<ln (cL d (cI c a 3) 9)->md n w M x y a j c m k o p q r s t u v x13 d f g A B C D F G H I J K L z))))/\(¬cI c a 0<4294967295->Ni (ln f) (Nd (ln f+1<67108865)<|Nr (ln f)<|Ni (ln g)<|Nd (ln g+1<67108865)<|Nr (ln g)<|Nb (cI c a 3) (ln d)<|Nq (ln c)<|Nq (ln f+1)<|Nq (ln g+1)<|Nd (kR (.l d::.l (cL d (cI c a 3) 9)::.l (a9 (a9 c a 1 (.b false)) a 3 (.i (-1)))::J10 m (k+(-1)) o p q r s t u v [.l (f++b8 2 1 [.i a,.i j]),.l (g++b8 1 1 [.i (cI c a 3)])]) (.l d::.i 0::.l (a9 (a9 c a 1 (.b false)) a 3 (.i (-1)))::J10 m (k+(-1)) o p q r s t u v [.b false,.l x13,.l (f++b8 2 1 [.i a,.i j]),.l (g++b8 1 1 [.i (cI c a 3)])]))<|
 ∀z h w A B C D F G H I J K M L x y,kR (.l d::.l (cL d (cI c a 3) 9)::.l (a9 (a9 c a 1 (.b false)) a 3 (.i (-1)))::J10 m (k+(-1)) o p q r s t u v [.l (f++b8 2 1 [.i a,.i j]),.l (g++b8 1 1 [.i (cI c a 3)])]) (.l z::.i h::.l w::J10 A B C D F G H I J K [.b M,.l L,.l x,.l y])->((h<ln (cL d (cI c a 3) 9)->Nb h (ln (cL d (cI c a 3) 9)) (Nq (ln w)<|Nd (¬M=true)<|Nq (ln x)<|Nq (ln y)<|Nd (tR (.i (cI (cL d (cI c a 3) 9) h 0)::.i (cI (cL d (cI c a 3) 9) h 1)::.l w::J10 A B C D F G H I J K [.l L,.l z,.l x,.l y])/\zA (.i (cI (cL d (cI c a 3) 9) h 0)::.i (cI (cL d (cI c a 3) 9) h 1)::.l w::J10 A B C D F G H I J K [.l L,.l z,.l x,.l y])<n)<|
 ∀N Q R S T U V W X Y Z x45 x46 O P,tS (.i (cI (cL d (cI c a 3) 9) h 0)::.i (cI (cL d (cI c a 3) 9) h 1)::.l w::J10 A B C D F G H I J K [.l L,.l z,.l x,.l y]) (.l N::J10 Q R S T U V W X Y Z [.l x45,.l x46,.l O,.l P])->Nd (I64 (h+1)) (Nq (ln N)<|Nq (ln O)<|Nq (ln P)<|Nd (kR (.l d::.l (cL d (cI c a 3) 9)::.l (a9 (a9 c a 1 (.b false)) a 3 (.i (-1)))::J10 m (k+(-1)) o p q r s t u v [.l (f++b8 2 1 [.i a,.i j]),.l (g++b8 1 1 [.i (cI c a 3)])]) (.l x46::.i (h+1)::.l N::J10 Q R S T U V W X Y Z [.b false,.l x45,.l O,.l P]))<|
 Nd (DD (.l d::.l (cL d (cI c a 3) 9)::.l (a9 (a9 c a 1 (.b false)) a 3 (.i (-1)))::J10 m (k+(-1)) o p q r s t u v [.l (f++b8 2 1 [.i a,.i j]),.l (g++b8 1 1 [.i (cI c a 3)])]) (.l x46::.i (h+1)::.l N::J10 Q R S T U V W X Y Z [.b false,.l x45,.l O,.l P])<DD (.l d::.l (cL d (cI c a 3) 9)::.l (a9 (a9 c a 1 (.b false)) a 3 (.i (-1)))::J10 m (k+(-1)) o p q r s t u v [.l (f++b8 2 1 [.i a,.i j]),.l (g++b8 1 1 [.i (cI c a 3)])]) (.l z::.i h::.l w::J10 A B C D F G H I J K [.b M,.l L,.l x,.l y])) True)))/\(¬h<ln (cL d (cI c a 3) 9)->md n w M x y a j c m k o p q r s t u v x13 d f g A B C D F G H I J K L z))))))/\(¬cI c a 0=j->Ni (ln f) (Nd (ln f+1<67108865)<|Nr (ln f)<|Ni (ln g)<|Nd (ln g+1<67108865)<|Nr (ln g) False))))/\(¬cB c a 1=true->Ni (ln f) (Nd (ln f+1<67108865)<|Nr (ln f)<|Ni (ln g)<|Nd (ln g+1<67108865)<|Nr (ln g) False))))/\(¬a<ln c->Ni (ln f) (Nd (ln f+1<67108865)<|Nr (ln f)<|Ni (ln g)<|Nd (ln g+1<67108865)<|Nr (ln g) False)))
def xp (n:Nat):kq (VT.below zA (n+1)) PW ((91,VT.below zA n)::Si 0) (RP 0) 91=xq n:=by kernel_rfl
section
variable {D :DM}{S N:a8}{fr lv i g:Int}{K c:Nat}{G:Nat->Nat}{T:List RS}{M:List RN}
def Lw (w:WF D K){r:Nat->Nat}(h1:∀i,r i<=K)(hr:∀(i:Nat) s,D.L[i]? =some s->s.used=true-> ∀j∈s.n.ch,r i<r j):∀(n:Nat) {c:Nat} {s:Sl},D.L[c]? =some s->s.used=true->K-r c<=n-> ∀f b,n<f->n<b->bel D f c=bel D b c:=by
 intro n;induction n with
 |zero=>
  intro c s hs d hn f b hf h;obtain⟨f,rfl⟩:∃k,f=k+1:=⟨f-1,by omega⟩
  obtain⟨b,rfl⟩:∃k,b=k+1:=⟨b-1,by omega⟩
  unfold bel;rw[UZ hs];cases e:s.n.ch with
  |nil=>rfl|cons a l=>have:=hr c s hs d a (by simp[e]);have:=h1 a;omega
 |succ n m=>
  intro c s hs d hn f b hf h;obtain⟨f,rfl⟩:∃k,f=k+1:=⟨f-1,by omega⟩
  obtain⟨b,rfl⟩:∃k,b=k+1:=⟨b-1,by omega⟩
  unfold bel;rw[UZ hs];congr 1;rw[List.flatMap_def,List.flatMap_def];congr 1;refine List.map_congr_left λj hj=>?_;obtain⟨sj,k1,k2,_⟩:=(w.ch c s hs d).2 j hj;have:=hr c s hs d j hj;have:=h1 j;exact m k1 k2 (by omega) f b (by omega) (by omega)
def U9 (w:WF D K){s:Sl}(hs:D.L[c]? =some s)(a:s.used=true):bel D 1001 c=c::s.n.ch.flatMap (bel D 1001):=by
 obtain⟨r,h1,hr⟩:=w.rank;have lim:=w.lim;rw[Lw w h1 hr K hs a (by omega) 1001 1002 (by omega) (by omega)]
 conv=>lhs;unfold bel
 rw[UZ hs]
def uN {L:List Sl}{q:Sl->Sl}(hq:∀s,(q s).used=false):∀ {c:Nat} {s:Sl},L[c]? =some s->s.used=true->(L.modify c q).countP (·.used)+1=L.countP (·.used):=by
 induction L with
 |nil=>intro c s h;simp at h
 |cons a L d=>
  intro c s h b;cases c with
  |zero=>simp at h;subst h;simp[List.countP_cons,b,hq]|succ c=>simp at h;have:=d h b;simp[List.countP_cons];omega
def RlT.lose (h:RlT G D T M fr lv){s:Sl}(hs:D.L[c]? =some s)(n:s.used=true):RlT G (A1 D c) (T.modify c λr=>⟨r.g+1,false,fr, -1⟩) M (c+1) (lv-1):=by
 obtain⟨r,hr,hg,l,_⟩:=h.row c s hs;have hc:c∉D.free:=λm=>by obtain⟨u,k1,k2⟩:=h.free.unused c m;rw[hr]at k1;cases k1;rw[l,n]at k2;cases k2
 have get:∀j,(A1 D c).L[j]? =if c=j then D.L[j]?.map (λs=>⟨s.g+1,false,C5 0 [] []⟩)else D.L[j]? :=λj=>l8 ..
 refine⟨by unfold A1;simpa using h.len,λj sj hj=>?_,λa b t rb d hb o p e=>?_,⟨rfl,⟨r.g+1,false,fr, -1⟩,by rw[l8,Tp rfl,hr];rfl,rfl,h.free.mod hc⟩,List.nodup_cons.2 ⟨hc,h.nodup⟩,λj sj hj hn=>?_,?_⟩;rw[get]at hj;simp only[l8];by_cases e:c=j;subst e;rw[Tp rfl,hs]at hj;cases hj;exact⟨⟨r.g+1,false,fr, -1⟩,by rw[Tp rfl,hr];rfl,by simp[hg],rfl,λh=>by simp at h⟩;rw[Tn e]at hj⊢;exact h.row j sj hj;simp only[l8]at d hb;by_cases f:c=a;rw[Tp f]at d;subst f;rw[hr]at d;cases d;simp at o;by_cases k:c=b;rw[Tp k]at hb;subst k;rw[hr]at hb;cases hb;simp at p;rw[Tn f]at d;rw[Tn k]at hb;exact h.inj a b t rb d hb o p e;rw[get]at hj;by_cases e:c=j;subst e;exact List.mem_cons_self;rw[Tn e]at hj;exact Uc _ (h.all j sj hj hn);rw[h.lv];have:=uN (q:=λs=>⟨s.g+1,false,C5 0 [] []⟩) (λ_=>rfl) hs n;unfold A1;simp only;omega
end
section
variable {D :DM}{S N S' N' S'' N'':a8}{fr lv i g:Int}{K a b c:Nat}{G:Nat->Nat}{T:List RS}{M:List RN}{X Y:Ah}
def Fr.trans (h:Fr S N S' N')(h':Fr S' N' S'' N''):Fr S N S'' N'':=by obtain⟨h1,h2,h3⟩:=h;obtain⟨k1,k2,k3⟩:=h';refine⟨by omega,λk hk hn=>?_,λi hi d=>?_⟩;rw[k2 k (by omega) λj hj d e=>?_,h2 k hk hn];rcases h3 j hj d with⟨q,f,l,m⟩|h;exact hn q f l (m.trans e);omega;rcases k3 i hi d with⟨q,f,l,m⟩|h;rcases h3 q f l with⟨p,p1,p2,n⟩|h;exact .inl ⟨p,p1,p2,n.trans m⟩;exact .inr (by omega);exact .inr (by omega)
def G2 :∀ {X:Ah} {D:DM} {j:Nat},j∉X->(X.foldl A1 D).L[j]? =D.L[j]?
 | [],_,_,_=>rfl|x::X,D,j,h=>by rw[List.foldl_cons,G2 (λm=>h (Uc _ m))];unfold A1;simp only[l8];rw[Tn (show¬x=j fromλe=>h (by simp[e]))]
def mQ :∀ {X:Ah} {D:DM},(X.foldl A1 D).L.length=D.L.length
 | [],_=>rfl|x::X,D=>by rw[List.foldl_cons,mQ];unfold A1;simp
def Y9 :∀ {Y:Ah} {D:DM},Y.Nodup->(∀b∈Y,∃s,D.L[b]? =some s/\s.used=true)->(Y.foldl A1 D).L.countP (·.used)+Y.length=D.L.countP (·.used)
 | [],_,_,_=>rfl|y::Y,D,hn,h=>by
  obtain⟨hy,hn⟩:=List.nodup_cons.1 hn;obtain⟨s,h1,h2⟩:=h y List.mem_cons_self;rw[List.foldl_cons];have:=Y9 (D:=A1 D y) hn λb hb=>by obtain⟨s,k1,k2⟩:=h b (Uc _ hb);refine⟨s,?_,k2⟩;unfold A1;simp only[l8];rw[Tn (show¬y=b fromλe=>hy (by rw[e];exact hb))];exact k1
  have k:=uN (q:=λs=>⟨s.g+1,false,C5 0 [] []⟩) (λ_=>rfl) h1 h2;have:(A1 D y).L.countP (·.used)+1=D.L.countP (·.used):=k;rw[TM];omega
def Abv.top {p:Nat}{s:Sl}(h:D.L[a]? =some s)(hp:s.n.par=p)(k:Abv D a b):Abv D p b:=by
 induction k with
 |here=>exact .up _ _ _ h hp .here|up b q s' h' hq _ d=>exact .up _ _ _ h' hq d
def Abv.lin (h:Abv D a b)(k:Abv D c b):Abv D a c\/Abv D c a:=by
 induction h with
 |here=>exact .inr k|up b p s h' hp k' d=>
  cases k with
  |here=>exact .inl (.up _ _ _ h' hp k')|up _ p' s' h2 hp' k2=>
   rw[h']at h2;cases h2;have:p=p':=by omega
   subst this;exact d k2
def Abv.rank (w:WF D K){r:Nat->Nat}(hr:∀(i:Nat) s,D.L[i]? =some s->s.used=true-> ∀j∈s.n.ch,r i<r j)(h:Abv D a b):(∃s,D.L[b]? =some s/\s.used=true)->r a<=r b/\ ∃s,D.L[a]? =some s/\s.used=true:=by
 induction h with
 |here=>exactλh=>⟨Tq _,h⟩
 |up b p s h hp k f=>
  rintro ⟨s',h1,h2⟩;rw[h]at h1;cases h1;rcases w.par b s h h2 with e| ⟨q,d,e,k1,k2,k3⟩;omega
  .have:p=q:=by omega
   subst this;have:=hr p d k1 k2 b k3;have:=f ⟨d,k1,k2⟩;exact⟨by omega,this.2⟩
def J0 (w:WF D K):∀ {f c:Nat} {s:Sl},D.L[c]? =some s->s.used=true-> ∀b∈bel D f c,Abv D c b/\ ∃s,D.L[b]? =some s/\s.used=true
 |0,c,s,hs,d,b,hb=>by rw[Ui.1 hb];exact⟨.here,s,hs,d⟩|f+1,c,s,hs,d,b,hb=>by unfold bel at hb;rw[UZ hs]at hb;rcases TH.1 hb with rfl|hb;exact⟨.here,s,hs,d⟩;obtain⟨j,hj,hb⟩:=List.mem_flatMap.1 hb;obtain⟨sj,k1,k2,k3⟩:=(w.ch c s hs d).2 j hj;obtain⟨e,h⟩:=J0 w k1 k2 b hb;exact⟨e.top k1 k3,h⟩
def K1 (w:WF D K):∀ {f c:Nat} {s:Sl},D.L[c]? =some s->s.used=true->(bel D f c).Nodup
 |0,c,s,hs,k=>by unfold bel;simp|f+1,c,s,hs,k=>by
  obtain⟨r,_,hr⟩:=w.rank;obtain⟨hn,hc⟩:=w.ch c s hs k;unfold bel;rw[UZ hs];refine List.nodup_cons.2 ⟨λm=>?_,List.pairwise_flatMap.2 ⟨λj hj=>?_,?_⟩⟩;obtain⟨j,hj,hb⟩:=List.mem_flatMap.1 m;obtain⟨sj,k1,k2,k3⟩:=hc j hj;have:=((J0 w k1 k2 c hb).1.rank w hr ⟨s,hs,k⟩).1;have:=hr c s hs k j hj;omega;obtain⟨sj,k1,k2,k3⟩:=hc j hj;exact K1 w k1 k2
  .refine List.Pairwise.imp_of_mem (λ{x y} hx hy d=>?_) hn;obtain⟨sx,k1,k2,k3⟩:=hc x hx;obtain⟨l,u,B,C⟩:=hc y hy;rintro p hp q hq rfl;obtain⟨v,H⟩:=J0 w k1 k2 p hp;obtain⟨z,_⟩:=J0 w u B p hq;have no:∀ {x y:Nat} {l:Sl},x∈s.n.ch->y∈s.n.ch->x≠y->D.L[y]? =some l->l.n.par=c->Abv D x y->False:=λ{x y l} hx hy d o hp h=>by
    rcases h.inv with e| ⟨p,E,t,F,A⟩;exact d e
    .rw[o]at t;cases t;have:p=c:=by omega
     subst this;have:=(A.rank w hr ⟨s,hs,k⟩).1;have:=hr p s hs k x hx;omega
   rcases v.lin z with h|h;exact no hx hy d u C h;exact no hy hx (Ne.symm d) k1 k3 h
def aB (S:a8):Nat:=S.countP λr=>(r.getD 1 (.i 0)).toBool
def Rl.uses (h:Rl G D S N fr lv):aB S=D.L.countP (·.used)/\lv=aB S:=by
 obtain⟨T,M,rfl,rfl,h⟩:=h;have e:aB (T.map RS.row)=D.L.countP (·.used):=by unfold aB;rw[List.countP_map,<-h.count];rfl
 exact⟨e,by rw[e];exact h.lv⟩
def frS (S:a8)(i fr:Int)(g:Int):a8:=a9 (a9 (a9 (a9 S i 1 (.b false)) i 3 (.i (-1))) i 0 (.i g)) i 2 (.i fr)
def Rl.lose (h:Rl G D S N fr lv)(hk:D.at i g=some c):Rl G (A1 D c) (frS S i fr (g+1)) N (i+1) (lv+ -1)/\Fr S N (frS S i fr (g+1)) N:=by
 obtain⟨T,M,rfl,rfl,h⟩:=h;obtain⟨s,r,k1,k2,k3,k4,d,n,o,q⟩:=h.at_ hk;subst k1;obtain⟨l,k,m,_⟩:=h.row c s k2;rw[d]at k;cases k;have e:frS (T.map RS.row) c fr (g+1)=(T.modify c λr=>⟨r.g+1,false,fr, -1⟩).map RS.row:=by unfold frS;rw[T7 (λr:RS=> {r with u:=false}) (λ_=>rfl),T7 (λr:RS=> {r with p:= -1}) (λ_=>rfl),T7 (λr:RS=> {r with g:=g+1}) (λ_=>rfl),T7 (λr:RS=> {r with nx:=fr}) (λ_=>rfl),TK,B6,B6,B6];congr 1;apply List.ext_getElem?;intro j;simp only[l8];by_cases e:c=j;subst e;simp[d,m,k4];simp[e]
 rw[e];refine⟨⟨_,M,rfl,rfl,h.lose k2 k3⟩,?_⟩;have:=Qj (N:=M.map RN.row) (T:=T) (T':=T.modify c λr=>⟨r.g+1,false,fr, -1⟩) (X:=[]) λj l hj f=>by simp only[l8]at hj;by_cases e:c=j;rw[Tp e]at hj;subst e;rw[d]at hj;cases hj;simp at f;rw[Tn e]at hj;exact .inl ⟨l,hj,f,rfl⟩
 simpa using this
def JG :A1 (X.foldl A1 D) c=(X++ [c]).foldl A1 D:=by rw[List.foldl_append];rfl
def RlX.at_ (hk:D.at i g=some c)(hc:c∉X):(X.foldl A1 D).at i g=some c:=by
 obtain⟨s,h1,h2,rfl,rfl⟩:=UW hk;have e:(X.foldl A1 D).L[c]? =some s:=by rw[G2 hc];exact h1
 have:=UX e h2;rwa[UY e]at this
def RlX.lose (h:RlX D X S N fr lv)(hk:D.at i g=some c)(hc:c∉X):RlX D (X++ [c]) (frS S i fr (g+1)) N (i+1) (lv+ -1)/\Fr S N (frS S i fr (g+1)) N:=by have:=Rl.lose h (RlX.at_ hk hc);unfold RlX;rw[<-JG];exact this
def RlX.slen (h:RlX D X S N fr lv)(w:WF D K):S.length<=1000:=by obtain⟨T,M,rfl,rfl,h⟩:=h;rw[Tm,h.len,mQ];have:=w.lim;omega
def RlX.kids (h:RlX D X S N fr lv)(hk:D.at i g=some c)(hc:c∉X):∃s,D.L[c]? =some s/\s.used=true/\cL N (cI S i 3) 9=s.n.ch.map (B2 D.gen)/\0<=cI S i 3/\cI S i 3<N.length/\cB S i 1=true/\cI S i 0=g/\0<=i/\i<S.length:=by have d:=RlX.at_ (X:=X) hk hc;obtain⟨s,h1,h2,h3,h4,e,f,j,k⟩:=Rl.spot h d;obtain⟨_,_,_,hi,_⟩:=UW hk;subst hi;have hv:=(Rl.vld h).2 ⟨c,d⟩;unfold t9 at hv;simp only[SR,To]at hv;rw[G2 hc]at h1;rw[e];exact⟨s,h1,h2,by unfold cL;rw[k];rfl,f,j,h4,hv.2,by omega,by omega⟩
def RlX.count {d e:Int}(h:RlX D X S N fr lv)(h':RlX D (X++Y) S' N' d e)(hn:Y.Nodup)(f:∀b∈Y,b∉X/\ ∃s,D.L[b]? =some s/\s.used=true):aB S'+Y.length=aB S:=by rw[h.uses.1,h'.uses.1,List.foldl_append];exact Y9 hn λb hb=>by obtain⟨h1,s,h2,h3⟩:=f b hb;exact⟨s,by rw[G2 h1];exact h2,h3⟩
end
section
variable {D :DM}{S N S1 S':a8}{fr lv fr1 lv1 i g j:Int}{K c b:Nat}{X:Ah}{s:Sl}
def iH :c∈bel D 1001 c:=by unfold bel;exact List.mem_cons_self
def Mp (w:WF D K)(hs:D.L[c]? =some s)(a:s.used=true){k:Nat}(hb:s.n.ch[k]? =some b)(d:∀q∈s.n.ch.flatMap (bel D 1001),q∉X):D.at b (D.gen b)=some b/\(∀q∈bel D 1001 b,q∉X++(s.n.ch.take k).flatMap (bel D 1001))/\(s.n.ch.take (k+1)).flatMap (bel D 1001)=(s.n.ch.take k).flatMap (bel D 1001)++bel D 1001 b/\(bel D 1001 b).Nodup/\(∀q∈bel D 1001 b,∃s,D.L[q]? =some s/\s.used=true):=by
 have hm:=Td hb;obtain⟨h,k1,k2,_⟩:=(w.ch c s hs a).2 b hm;have hn:=K1 (f:=1001) w hs a;rw[U9 w hs a]at hn;have hn:=(List.nodup_cons.1 hn).2;have ht:(s.n.ch.take (k+1)).flatMap (bel D 1001)=(s.n.ch.take k).flatMap (bel D 1001)++bel D 1001 b:=by rw[E1 hb];simp
 refine⟨UX k1 k2,λq hq m=>?_,ht,K1 w k1 k2,λq hq=>(J0 w k1 k2 q hq).2⟩;rcases TG.1 m with m|m;exact d q (List.mem_flatMap.2 ⟨b,hm,hq⟩) m;have e:s.n.ch=s.n.ch.take (k+1)++s.n.ch.drop (k+1):=(UI ..).symm;rw[e,List.flatMap_append,ht]at hn;have hn:=(UT.1 (UT.1 hn).1).2.2;exact hn q m q hq rfl
end
def xo (n:Nat):xq n:=by
 unfold xq;rintro i g S fr lv c0 c1 c2 c3 c4 c5 c6 c7 st N Q W ⟨⟨hi,hg,R,hW,D,X,K,c,e,w,hc,k⟩,hm⟩;have R:Q.length+aB S<=1000:=R;have hm:aB S<n+1:=hm;have lim:=w.lim;have U:=e.slen w;obtain⟨s,h1,h2,h3,h4,O,P,E,h8,d⟩:=e.kids hc (k c iH);have lS:ln S=(S.length:Int):=rfl;have lQ:ln Q=(Q.length:Int):=rfl;have lW:ln W=(W.length:Int):=rfl;have ae:=e.uses.2;have ub:aB S<=S.length:=List.countP_le_length;have gb:=w.u32 hc;have ew:IntKind.wrap .u32 (cI S i 0+1)=g+1:=by rw[E];obtain⟨s',k1,k2,k3,k4⟩:=UW hc;have:=w.gen s' (Td k1);exact P4 (by simp[IntKind.min,IntKind.signed];omega) (by simp[IntKind.max,IntKind.signed,IntKind.bits];omega)
 have gs:g<=1001:=by obtain⟨s',k1,k2,k3,k4⟩:=UW hc;have:=w.gen s' (Td k1);omega
 have step:∀ {D X K c},RlX D X S N fr lv->WF D K->D.at i g=some c->(∀b∈bel D 1001 c,b∉X)->RlX D (X++ [c]) (frS S i fr (g+1)) N (i+1) (lv+ -1)/\Fr S N (frS S i fr (g+1)) N/\ ∃s,D.L[c]? =some s/\s.used=true/\cL N (cI S i 3) 9=s.n.ch.map (B2 D.gen)/\(∀q∈s.n.ch.flatMap (bel D 1001),q∉X++ [c])/\bel D 1001 c=c::s.n.ch.flatMap (bel D 1001):=λ{D X K c} e w hc k=>by obtain⟨k1,k2⟩:=e.lose hc (k c iH);obtain⟨s,h1,h2,h3,_⟩:=e.kids hc (k c iH);have A:=U9 w h1 h2;refine⟨k1,k2,s,h1,h2,h3,λq hq m=>?_,A⟩;have hn:=K1 (f:=1001) w h1 h2;rw[A]at hn k;rcases TG.1 m with m|m;exact k q (Uc _ hq) m;rw[Ui.1 m]at hq;exact(List.nodup_cons.1 hn).1 hq
 obtain⟨s1,s2,_⟩:=step e w hc k;have u1:aB (frS S i fr (g+1))+1=aB S:=e.count s1 (by simp) λb hb=>by rw[Ui.1 hb];exact⟨k c iH,s,h1,h2⟩
 refine ndi ⟨by unfold U32 at hi;omega,by unfold U32 at hi;omega⟩ (ndi ⟨by omega,by omega⟩ ⟨λ_=>?_,λh=>absurd d h⟩);have B:¬i<0:=by omega
 refine ndi B (ndi d (ndi d ⟨λ_=>ndi d ⟨λ_=>?_,λh=>absurd E h⟩,λh=>absurd P h⟩));refine ndi d (ndi d (ndi d (ndi (by unfold I64;omega) (ndi d ⟨λ_=>?_,λh=>absurd (by rw[E];omega) h⟩))));refine ndi d<|ndi d<|ndi B<|ndi d<|ndi d<|ndi (by unfold I64;omega)<|ndi (by unfold I64;omega)<|nin<|ndi (by omega)<|nrn<|nin<|ndi (by omega)<|nrn<|C8 h4 O<|nin<|nrn<|nin<|nrn<|nin<|nrn ?_;rw[ew];generalize y:a9 (a9 (a9 (a9 S i 1 (.b false)) i 3 (.i (-1))) i 0 (.i (g+1))) i 2 (.i fr)=S1;have y:frS S i fr (g+1)=S1:=y;rw[y]at s1 s2 u1;generalize C:cL N (cI S i 3) 9=L;have H:(Q++b8 2 1 [.i i,.i g]).length=Q.length+1:=by rw[Tv];rfl
 have I:(W++b8 1 1 [.i (cI S i 3)]).length=W.length+1:=by rw[Tv];rfl
 generalize eQ:Q++b8 2 1 [.i i,.i g]=Q1 at H⊢;generalize eW:W++b8 1 1 [.i (cI S i 3)]=W1 at I⊢;refine ndi ?_ λZ j S' aa ac a0 B a2 a3 a4 a5 a6 a7 z st' Q' W' hI=>?_;refine⟨rfl,rfl,rfl,by omega,by omega,by omega,?_,Tq _,Ve,λD X K q a h1 h2 h3 h4 O P=>?_⟩;show Q1.length+aB S1<=1000;omega;simpa using h1;obtain⟨rfl,rfl,M,j0,j1,v,o,u,hF,F⟩:=hI;have o:Q'.length+aB S'<=1000:=o;have u:aB S'<=aB S1:=u;have V:ln L<=1000:=by obtain⟨_,_,s,k1,k2,k3,_⟩:=step e w hc k;have:=w.kidlen k1 k2;rw[<-C,k3];simp only[ln,Tm];omega
 have lL:ln L=(L.length:Int):=rfl;refine⟨λhj=>?_,λhj=>?_⟩
 .have turn:∀ {D:DM} {X:Ah} {K q:Nat} {a:Sl},RlX D X S1 Z (i+1) (lv+ -1)->WF D K->D.L[q]? =some a->a.used=true->L=a.n.ch.map (B2 D.gen)->(∀b∈a.n.ch.flatMap (bel D 1001),b∉X)-> ∃b:Nat,D.at (cI L j 0) (cI L j 1)=some b/\(∀q∈bel D 1001 b,q∉X++(a.n.ch.take j.toNat).flatMap (bel D 1001))/\(a.n.ch.take (j+1).toNat).flatMap (bel D 1001)=(a.n.ch.take j.toNat).flatMap (bel D 1001)++bel D 1001 b/\(bel D 1001 b).Nodup/\(∀q∈bel D 1001 b,∃s,D.L[q]? =some s/\s.used=true):=λ{D X K q a} k1 w k3 k4 l p=>by
   have lj:j<(a.n.ch.length:Int):=by have:=congrArg List.length l;simp at this;omega
   obtain⟨b,hb⟩:=Sx.get_at (T:=a.n.ch) j0 lj;obtain⟨t1,t2,t3,t4,t5⟩:=Mp w k3 k4 hb p;have e0:cI L j 0=b:=by rw[l];simp only[cI,d9 hb];rfl
   have e1:cI L j 1=D.gen b:=by rw[l];simp only[cI,d9 hb];rfl
   rw[e0,e1,show(j+1).toNat=j.toNat+1 by omega];exact⟨b,t1,t2,t3,t4,t5⟩
  obtain⟨_,_,s,k1,k2,k3,k4,_⟩:=step e w hc k;rw[C]at k3;obtain⟨b,t1,t2,t3,t4,t5⟩:=turn s1 w k1 k2 k3 k4;obtain⟨r1,r2⟩:=F D _ K c s s1 w k1 k2 k3 k4;have Y:=w.u32 t1;refine ndi (by omega) (ndi hj (nin (nrn (ndi (by simp) (nin (nrn (nin (nrn (ndi ⟨⟨Y.1,Y.2.1,o,v,D,_,K,b,r1,w,t1,t2⟩,?_⟩ λS2 ab ad b0 b1 b2 b3 b4 b5 b6 b7 ah N2 Q2 W2 hr=>?_)))))))));show aB S'<n;omega;obtain⟨A,rfl,x,G,t⟩:=hr;obtain⟨r,J⟩:=t D _ K b r1 w t1 t2;have cu:=r1.count r t4 λq hq=>⟨t2 q hq,t5 q hq⟩
  refine ndi (by unfold I64;omega) (nin (nrn (nin (nrn (nin (nrn (ndi ⟨rfl,rfl,A.trans M,by omega,by omega,x,?_,?_,hF.trans G,λD X K q a k1 w k3 k4 l p=>?_⟩ (ndt ?_))))))));show Q2.length+aB S2<=1000;omega;show aB S2<=aB S1;omega;obtain⟨b,t1,t2,t3,t4,t5⟩:=turn k1 w k3 k4 l p;obtain⟨r1,r2⟩:=F D X K q a k1 w k3 k4 l p;obtain⟨r,J⟩:=t D _ K b r1 w t1 t2;rw[t3,<-Th,Tv];exact⟨r,by omega⟩;show(L.length-(j+1)).toNat<(L.length-j).toNat;omega
 unfold md;refine nin (nrn (ndi (by simp) (nin (nrn (nin (nrn (ndt ⟨M,rfl,v,s2.trans hF,λD X K c e w hc k=>?_⟩)))))));obtain⟨k1,_,s,k2,k3,k4,l,p⟩:=step e w hc k;rw[C]at k4;rw[y]at k1;obtain⟨r,J⟩:=F D _ K c s k1 w k2 k3 k4 l;have el:s.n.ch.take j.toNat=s.n.ch:=TT (by have:=congrArg List.length k4;simp at this;omega);rw[el]at r J;rw[p];exact⟨by simpa using r,by rw[TM];omega⟩
def S3 (D:DM)(i g:Int):DM×Int:=match D.at i g with
 |none=>(D,11)
 |some c=>if(D.nod c).par≠ -1 then(D,10)else({(bel D 1001 c).foldl A1 D with C:=(D.C.modify 0 (· -(bel D 1001 c).length)).modify 2 (· +(bel D 1001 c).length)},0)
def kQ :Ar->Ar->Prop
 | [.i i,.i g,.l S,.i fr,.i lv,.i a,.i b,.i c,.i d,.i e,.i f,.i h,.i m,.l _,.l N],[.i r,.l S',.i fr',.i lv',.i a',.i b',.i c',.i d',.i e',.i f',.i h',.i m',.l _,.l N']=>
  Z5 S N fr lv [a,b,c,d,e,f,h,m] S' N' fr' lv' [a',b',c',d',e',f',h',m'] λD=>((S3 D i g).1,r=(S3 D i g).2)
 |_,_=>False
def tT:=vK
def VS:=mkD "fre" [hV] tT [iV] kQ
def PY :Ay->List (Nat×(Fm->SS->F9)):=W3
def NY :Nat->List (Ay×Con)
 |_=>[(91,VT),(LVn,cq "lives")]
def RQ :Nat->Aw->D4:=V8
open Go.Xe Go.Sx
def P0:=EC
def D8:=D6
def jw:=mkC "rname" [sV] P0 [bV] D8
def R5:=EC
def J3:=L4
def my:=mkC "rstr" [sV] R5 [bV] J3
def GE:=EP
def G8 :Ar->Ar->Prop
 | [.i k,.s t,.s y,.l a,.s x,.l c],[.b b]=>∀s:c9,isT s k t y a x c->(b=true↔Y4 s)
 |_,_=>False
def WC:=mkC "one" [nV] GE [bV] G8
def Fits (s:c9)(lv:Int):Prop:=U7 s/\(s.depth:Int)<=lv/\s.size<=64
def iP :Ar->Prop
 | [.i k,.s t,.s y,.l a,.s x,.l c,.i lv]=>0<=lv/\lv<=6/\ ∃s:c9,isT s k t y a x c|_=>False
def U4 :Ar->Ar->Prop
 | [.i k,.s t,.s y,.l a,.s x,.l c,.i lv],[.i n]=>1<=n/\n<=1000+64*lv/\ ∀s:c9,isT s k t y a x c->(n<=64↔Fits s lv)/\(n<=64->n=s.size)|_,_=>False
def pJ :Ar->Nat
 | [_,_,_,_,_,_,.i lv]=>lv.toNat|_=>0
def nf:=mkC "rcnt" [nV,iV] iP [iV] U4
def dS:=EP
def U3:=T5
def jy:=mkC "rchk" [nV] dS [iV] U3
def AH:=rB
def Kl:=A2
def EB:=wL
def rsMu:=A2
def zZ :Ar->Ar->Prop
 | [.l L],[.i i]=>0<=i/\i<=ln L/\ ∀a:List Att,L=a.map Att.row->(∀z∈a.take i.toNat,B3 z.n=true/\H9 z.v=true)/\Asc ((a.take i.toNat).map Att.n)|_,_=>False
def oaMu:=A2
def Ad :Ar->Ar->Prop
 | [.l L,.i i],[.i k]=>0<=k/\k<=i/\i<ln L/\ ∀a:List Att,L=a.map Att.row-> ∀z∈a.take k.toNat,lt z.n (a.getD i.toNat ⟨[],[]⟩).n=true|_,_=>False
def MM :Ar->Ar->Nat
 | [_,.i i],[.i k]=>(i-k).toNat|_,_=>0
def Ee :Ar->Ar->Prop
 | [.l L],[.i i]=>0<=i/\i<=ln L/\kH ((qY L).take i.toNat)|_,_=>False
def ocMu:=A2
def Aj :Ar->Ar->Prop
 | [.l L,.i i],[.i k]=>0<=k/\k<=i/\i<ln L/\((qY L).getD i.toNat []=[]\/ ∀z∈(qY L).take k.toNat,z≠(qY L).getD i.toNat [])|_,_=>False
def JW:=MM
def qU :Ar->Ar->Prop
 | [.l C,.i lv],[.i i,.i n]=>0<=i/\i<=ln C/\1<=lv/\1<=n/\n<=1000+64*lv/\ ∀c:List c9,C=rows c->(n<=64↔AllAs (c.take i.toNat)/\(c9.depths (c.take i.toNat):Int)+1<=lv/\c9.sizes (c.take i.toNat)+1<=64)/\(n<=64->n=c9.sizes (c.take i.toNat)+1)|_,_=>False
def ctMu:=A2
def jS :Ay->List (Nat×(Fm->SS->F9))
 |136=>[(0,D5 U0 "rn" (F5 [(3,.int .i64)] nob) (j9 0) AH Kl)]
 |137=>[(0,D5 U0 "rs" (F5 [(3,.int .i64)] nob) (j9 0) EB rsMu)]
 | 144 => [(0, D5 U0 "oa" (F5 [(3, .int .i64), (4, .any)] nob) (y8 1 3) zZ oaMu), (2, D5 U0 "ob" (F5 [(4, .int .i64)] nob) (gh2 (y8 1 3) (j9 3)) Ad MM),
   (4,D5 U0 "oc" (F5 [(5,.int .i64),(6,.any)] nob) (y8 1 5) Ee ocMu),(6,D5 U0 "od" (F5 [(6,.int .i64)] nob) (gh2 (y8 1 5) (j9 5)) Aj JW)]
 |88=>[(0,D5 U0 "ct" (F5 [(6,.int .i64),(5,.int .i64)] nob) (gh2 (y8 2 5) (j9 1)) qU ctMu)]
 |_=>[]
def hJ :Nat->List (Ay×Con)
 |0=>[(LVn,cq "lives")]
 |1=>[(136,jw),(137,my),(LVn,cq "lives")]
 |2=>[(144,WC),(LVn,cq "lives")]
 |_=>[(88,nf),(LVn,cq "lives")]
def vE (_:Nat)(P:Aw):D4:=[]
def QA :Ar->Prop
 | [.i k,.s t,.s y,.l a,.s x,.l c,.i k',.s t',.s y',.l a',.s x',.l c']=>(∃s:c9,isT s k t y a x c)/\ ∃s':c9,isT s' k' t' y' a' x' c'|_=>False
def Bw :Ar->Prop
 | [.i k,.s t,.s y,.l a,.s x,.l c,.i k',.s t',.s y',.l a',.s x',.l c']=>(∃s:c9,isT s k t y a x c/\U7 s)/\ ∃s':c9,isT s' k' t' y' a' x' c'/\U7 s'|_=>False
def R1 :Ar->Ar->Prop
 | [.i k,.s t,.s y,.l a,.s x,.l c,.i k',.s t',.s y',.l a',.s x',.l c'],[.i n]=>∀s s':c9,isT s k t y a x c->isT s' k' t' y' a' x' c'->(s=s'->n=1)/\(s≠s'->n=0)|_,_=>False
def Dy :Ar->Nat
 | [_,_,_,_,_,.l c,_,_,_,_,_,_]=>szRs c|_=>0
def VU:=mkC "equ" [nV,nV] Bw [iV] R1
def vZ:=QA
def gV :Ar->Ar->Prop
 | [.i k,.s t,.s y,.l a,.s x,.l c,.i k',.s t',.s y',.l a',.s x',.l c'],[.i n]=>∀s s':c9,isT s k t y a x c->isT s' k' t' y' a' x' c'->(E3 s/\s=s'->n=1)/\(¬(E3 s/\s=s')->n=0)|_,_=>False
def Wr:=mkC "sam" [nV,nV] vZ [iV] gV
def Dx :Ar->Ar->Prop
 | [.l L,.l M],[.i i]=>0<=i/\i<=ln L/\ln L=ln M/\L.take i.toNat=M.take i.toNat|_,_=>False
def eaMu:=A2
def If:=Dx
def ecMu:=A2
def HQ :Ay->List (Nat×(Fm->SS->F9))
 |55=>[(0,D5 U0 "ea" (F5 [(5,.int .i64)] nob) (gh2 (y8 2 3) (y8 3 3)) Dx eaMu),(2,D5 U0 "ec" (F5 [(6,.int .i64)] nob) (gh2 (y8 2 5) (y8 3 5)) If ecMu)]
 |_=>[]
def Hq :Nat->List (Ay×Con)
 |0=>[(LVn,cq "lives")]
 |_=>[(22,jy),(55,VU),(LVn,cq "lives")]
def MW (_:Nat)(P:Aw):D4:=[]
abbrev tRS :Ax:=81
abbrev rW :Ax:=3
def z5 (j:Nat):Ar:=[.i j]
def Sl.row (s:Sl):Ar:=if s.used then [.i s.g,.b true,.i s.n.kind,.s s.n.tag,.l (s.n.atts.map Att.row),.s s.n.text,.i s.n.top,.i s.n.size,.b s.n.pin,.i s.n.par,.l (s.n.ch.map z5)]else [.i s.g,.b false,.i 0,.s [],.l [],.s [],.i 0,.i 0,.b false,.i 0,.l []]
def Rf (D:DM)(L F:a8)(cs:Ak):Prop:=L=D.L.map Sl.row/\F=D.free.map z5/\cs=D.C
def gR (L F:a8)(cs:Ak):Prop:=∃D K,Rf D L F cs/\WF D K
def cQ (L F:a8)(cs:Ak)(L' F':a8)(cs':Ak)(f:DM->DM×Prop):Prop:=∀D K,Rf D L F cs->WF D K->Rf (f D).1 L' F' cs'/\(f D).2
def i8 :List Lf:=[.g (.int .i64),.g (.int .i64),.g (.int .i64),.g (.int .i64),.g (.int .i64),.g (.int .i64),.g (.int .i64),.g (.int .i64)]
def rfV :Vs:= .agg (.g (.lst tRS):: .g (.lst rW)::i8)
def rfO :Vs:= .agg (.g (.acc tRS 11):: .g (.lst rW)::i8)
def ilV :Vs:= .one (.g (.lst rW))
def alV :Vs:= .one (.g (.lst rV))
def aV :Vs:= .agg [.g .str,.g .str]
def M1 :Ar->Prop
 | [.l L,.l F,.i a,.i b,.i c,.i d,.i e,.i f,.i h,.i m,.i i,.i g]=>U32 i/\U32 g/\L.length<=1000|_=>False
def K5 :Ar->Ar->Prop
 | [.l L,.l F,.i a,.i b,.i c,.i d,.i e,.i f,.i h,.i m,.i i,.i g],[.i r]=>r=if t9 L i g=true then i else-1
 |_,_=>False
def mi:=mkC "rat" [rfV,hV] M1 [iV] K5
def O3 :Ar->Prop
 | [.l L,.l F,.i a,.i b,.i c,.i d,.i e,.i f,.i h,.i m]=>gR L F [a,b,c,d,e,f,h,m]|_=>False
def V9 :Ar->Ar->Prop
 | [.l L,.l F,.i a,.i b,.i c,.i d,.i e,.i f,.i h,.i m],[.l L',.l F',.i a',.i b',.i c',.i d',.i e',.i f',.i h',.i m']=>L'=L/\F'=F/\a'=a/\b'=b/\c'=c/\d'=d/\e'=e/\f'=f/\h'=h/\m'=m|_,_=>False
def ST:=mkC "rcp" [rfV] O3 [rfO] V9
def Qs (L:a8)(i:Int):Prop:=∃(l:Ah) (c:Nat),L=l.map z5/\i=c/\l.length<=1000
def vT :Ar->Prop
 | [.l L,.i i]=>Qs L i|_=>False
def Co :Ar->Ar->Prop
 | [.l L,.i i],[.i r]=>∀(l:Ah) (c:Nat),L=l.map z5->i=c->(r<0↔c∉l)
 |_,_=>False
def Ws:=mkC "rpl" [ilV,iV] vT [iV] Co
def sL :Ar->Prop
 | [.l L,.i i,.i a]=>Qs L i|_=>False
def nF :Ar->Ar->Prop
 | [.l L,.i i,.i a],[.l O]=>∀(l:Ah) (c:Nat),L=l.map z5->i=c->O=(S4 l c a).map z5|_,_=>False
def zo:=mkC "rput" [ilV,iV,iV] sL [ilV] nF
def iW:=vT
def sM :Ar->Ar->Prop
 | [.l L,.i i],[.l O]=>∀(l:Ah) (c:Nat),L=l.map z5->i=c->O=(I7 l c).map z5|_,_=>False
def zm:=mkC "rwit" [ilV,iV] iW [ilV] sM
def Bz :Ar->Prop
 | [.l L,.s _]=>∃l:List Att,L=l.map Att.row/\l.length<=8|_=>False
def tP :Ar->Ar->Prop
 | [.l L,.s n],[.i r]=> -1<=r/\r<L.length/\ ∀l:List Att,L=l.map Att.row->(r<0/\ ∀a∈l,a.n≠n)\/(0<=r/\ ∃a,l[r.toNat]? =some a/\a.n=n)|_,_=>False
def WM:=mkC "fnd" [alV,sV] Bz [iV] tP
def cF :List Att->Att->List Att
 | [],a=>[a]
 |b::l,a=>if lt a.n b.n then a::b::l else b::cF l a
def sJ :Ar->Prop
 | [.l L,.s _,.s _]=>∃l:List Att,L=l.map Att.row/\l.length<=8|_=>False
def nC :Ar->Ar->Prop
 | [.l L,.s n,.s v],[.l O]=>∀l:List Att,L=l.map Att.row->O=(cF l ⟨n,v⟩).map Att.row|_,_=>False
def zq:=mkC "rins" [alV,aV] sJ [alV] nC
def lC :Ar->Ar->Prop
 | [.l L,.i i,.i g],[.i k]=>0<=k/\k<=L.length/\(t9 L i g=true->k<=i)|_,_=>False
def mZ:=A2
def Ci :Ar->Ar->Prop
 | .l L::d,.i k:: .l O::d'=>0<=k/\k<=L.length/\O=L.take k.toNat/\d'=d|_,_=>False
def Ng:=A2
def pP :Ar->Ar->Prop
 | [.l L,.i i],[.i k]=>0<=k/\k<=L.length/\ ∀(l:Ah) (c:Nat),L=l.map z5->i=c->c∉l.take k.toNat|_,_=>False
def Np:=A2
def rU (l:Ah)(c:Nat)(a:Int):Ah:=l.flatMap λ(x:Nat)=>if(x:Int)=a then [c,x]else [x]
def dU :Ar->Ar->Prop
 | [.l L,.i i,.i a],[.i k,.l O]=>0<=k/\k<=L.length/\(O.length:Int)<=2*k/\ ∀(l:Ah) (c:Nat),L=l.map z5->i=c->O=(rU (l.take k.toNat) c a).map z5|_,_=>False
def pR:=A2
def dY :Ar->Ar->Prop
 | [.l L,.i i],[.i k,.l O]=>0<=k/\k<=L.length/\(O.length:Int)<=k/\ ∀(l:Ah) (c:Nat),L=l.map z5->i=c->O=(I7 (l.take k.toNat) c).map z5|_,_=>False
def pS:=A2
def oT :Ar->Ar->Prop
 | [.l L,.s n],[.i k]=>0<=k/\k<=L.length/\ ∀l:List Att,L=l.map Att.row-> ∀a∈l.take k.toNat,a.n≠n|_,_=>False
def LS:=A2
def dT :Ar->Ar->Prop
 | [.l L,.s n,.s v],[.i k,.l O,.b p]=>0<=k/\k<=L.length/\(O.length:Int)<=k+(if p=true then 1 else 0)/\ ∀l:List Att,L=l.map Att.row-> ∃o:List Att,O=o.map Att.row/\(if p=true then o++l.drop k.toNat else o++cF (l.drop k.toNat) ⟨n,v⟩)=cF l ⟨n,v⟩|_,_=>False
def pM:=A2
def g8 :List G:=[.int .i64,.int .i64,.int .i64,.int .i64,.int .i64,.int .i64,.int .i64,.int .i64]
def ghDC (t:Nat):Fm->SS->List (So×E):=gh2 (y8 t 1) (gh2 (y8 t 2) (gh2 (y8 t 3) (gh2 (y8 t 4) (gh2 (y8 t 5) (gh2 (y8 t 6) (gh2 (y8 t 7) (gh2 (y8 t 8) (y8 t 9))))))))
def W5 :Ay->List (Nat×(Fm->SS->F9))
 |30=>[(0,D5 U0 "rat" (F5 [(5,.int .i64)] nob) (gh2 (y8 2 0) (gh2 (y8 3 0) (y8 3 1))) lC A2)]
 |132=>[(0,D5 U0 "rcp" (F5 [(4,.int .i64)] (J1 3 (.acc tRS 11:: .lst rW::g8))) (gh2 (y8 1 0) (ghDC 1)) Ci A2)]
 |142=>[(0,D5 U0 "rpl" (F5 [(5,.int .i64)] nob) (gh2 (j9 0) (j9 1)) pP A2)]
 |143=>[(0,D5 U0 "rput" (F5 [(8,.int .i64),(7,.acc rW 1)] nob) (gh2 (j9 0) (gh2 (j9 1) (j9 2))) dU A2)]
 |133=>[(0,D5 U0 "rwit" (F5 [(6,.int .i64),(5,.acc rW 1)] nob) (gh2 (j9 0) (j9 1)) dY A2)]
 |138=>[(0,D5 U0 "fnd" (F5 [(5,.int .i64)] nob) (gh2 (j9 0) (j9 1)) oT A2)]
 |176=>[(0,D5 U0 "rins" (F5 [(7,.int .i64),(5,.acc rV 2),(6,.bool)] nob) (gh2 (j9 0) (gh2 (y8 3 0) (y8 3 1))) dT A2)]
 |_=>[]
def lK :Nat->List (Ay×Con)
 |_=>[(LVn,cq "lives")]
def bM :Nat->Aw->D4
 |_,_=>[]
