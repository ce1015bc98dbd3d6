/- Mounts: contracts (Mount, New, weigh; equal trees, Strip, Is; Handles of what is not there, Drop, Clear).
  Conditions: none. -/
import Derived.Test.YtoegfalhkackeaaGreatN4
import Derived.Test.YtoegfalhkackeaaGreatQK
set_option linter.all false
noncomputable section
namespace Go.D
open Go Go.Xe Go.Sx
def pL :Ar->Prop
 | [.int k,.str t,.str y,.lst a,.str x,.lst c,.lst S,.int fr,.int lv,.int c0,.int c1,.int c2,.int c3,.int c4,.int c5,.int c6,.int c7,.lst _,.lst N]=>∃s D K,isT s k t y a x c/\RlC D S N fr lv [c0,c1,c2,c3,c4,c5,c6,c7]/\WF D K/\(w9 s->K+G7 s<=1000)|_=>False
def lK :Ar->Ar->Prop
 | [.int k,.str t,.str y,.lst a,.str x,.lst c,.lst S,.int fr,.int lv,.int c0,.int c1,.int c2,.int c3,.int c4,.int c5,.int c6,.int c7,.lst _,.lst N],[.int i,.int g,.int r,.lst S',.int fr',.int lv',.int c0',.int c1',.int c2',.int c3',.int c4',.int c5',.int c6',.int c7',.lst _,.lst N']=>
  U32 i/\U32 g/\Fr S N S' N'/\ ∀s D K,isT s k t y a x c->RlC D S N fr lv [c0,c1,c2,c3,c4,c5,c6,c7]->WF D K->(w9 s->K+G7 s<=1000->RlC (M2 D s).1 S' N' fr' lv' [c0',c1',c2',c3',c4',c5',c6',c7']/\(i,g)=(M2 D s).2/\r=0)/\(¬w9 s->RlC D S' N' fr' lv' [c0',c1',c2',c3',c4',c5',c6',c7']/\i=0/\g=0/\r=14)
 |_,_=>False
def cMnt:=mkD "mnt" [nV] pL [hV,iV] lK
def Gn :Ar->Prop:=fun _=>True
def Gp :Ar->Ar->Prop
 |_,[.lst S,.int fr,.int lv,.int c0,.int c1,.int c2,.int c3,.int c4,.int c5,.int c6,.int c7,.lst _]=>S=[]/\fr=0/\lv=0/\[c0,c1,c2,c3,c4,c5,c6,c7]=[0,0,0,0,0,0,0,0]
 |_,_=>False
def nwdF :SV->SS->Bb (Ah):=fun v _=>match v with
 | .ptr b _ _ _=>some [b]|_=>none
def cNwd :Con:=⟨ "nwd",[],[],noF,Gn,[dV],[(Oh,13,LZ)],nwdF,Gp⟩
def SR :Ar->Prop
 | [.int k,.str t,.str y,.lst a,.str x,.lst c,.int lv]=>0<=lv/\lv<=8/\ ∃s:a9,isT s k t y a x c|_=>False
def SU :Ar->Ar->Prop
 | [.int k,.str t,.str y,.lst a,.str x,.lst c,.int lv],[.int n]=>1<=n/\n<=151+151*lv|_,_=>False
def cWgh:=mkC "wgh" [nV,iV] SR [iV] SU
def wgInv :Ar->Ar->Prop
 | [.lst C,.int lv],[.int i,.int n]=>0<=i/\i<=ln C/\1<=lv/\1<=n/\n<=151+151*lv|_,_=>False
abbrev wgMu:=J9
def atV :Vs:= .one (.g (.lst 101))
def FG :Ar->Prop
 | [.lst A,.lst B]=>(∃l m:List Att,A=l.map Att.row/\B=m.map Att.row)/\A.length<=1000|_=>False
def gU :Ar->Ar->Prop
 | [.lst A,.lst B],[.bool b]=>b=true↔A=B|_,_=>False
def cEqb:=mkC "eqb" [atV,atV] FG [bV] gU
def tE :Ar->Ar->Prop
 | [.lst A,.lst B],[.int k]=>0<=k/\k<=A.length/\A.length=B.length/\A.take k.toNat=B.take k.toNat|_,_=>False
abbrev Mb:=J9
def BJ :Ar->Prop
 | [.int k,.str t,.str y,.lst a,.str x,.lst c,.int k',.str t',.str y',.lst a',.str x',.lst c']=>(∃s,isT s k t y a x c/\J3 s)/\ ∃s,isT s k' t' y' a' x' c'/\J3 s|_=>False
def Y7 :Ar->Ar->Prop
 | [.int k,.str t,.str y,.lst a,.str x,.lst c,.int k',.str t',.str y',.lst a',.str x',.lst c'],[.bool b]=>∀s s',isT s k t y a x c->isT s' k' t' y' a' x' c'->(b=true↔s=s')
 |_,_=>False
def Eu :Ar->Nat
 |_::_::_::_::_:: .lst c::_=>szRs c|_=>0
def cSmn:=mkC "smn" [nV,nV] BJ [bV] Y7
abbrev AP:=tE
abbrev Md:=J9
def Hb:=zP
def BV :Ar->Ar->Prop
 | [.int k,.str t,.str y,.lst a,.str x,.lst c],[.int k',.str t',.str y',.lst a',.str x',.lst c']=>∀s:a9,isT s k t y a x c->(w9 s->isT (strip false s) k' t' y' a' x' c')/\(¬w9 s->isT IY k' t' y' a' x' c')|_,_=>False
def cStp:=mkC "stp" [nV] Hb [nO] BV
def Gm:=QV
def pO :Ar->Ar->Prop
 | [.int k,.str t,.str y,.lst a,.str x,.lst c,.int k',.str t',.str y',.lst a',.str x',.lst c'],[.bool b]=>∀s s',isT s k t y a x c->isT s' k' t' y' a' x' c'->(b=true↔w9 s/\w9 s'/\s=s')
 |_,_=>False
def cNsm:=mkC "nsm" [nV,nV] Gm [bV] pO
def Mo :Ar->Prop
 | .int i:: .int g:: .int k:: .str t:: .str y:: .lst a:: .str x:: .lst c::d=>U32 i/\U32 g/\DU d/\ ∃s:a9,isT s k t y a x c|_=>False
def Dl :Ar->Ar->Prop
 | [.int i,.int g,.int k,.str t,.str y,.lst a,.str x,.lst c,.lst S,.int fr,.int lv,.int _,.int _,.int _,.int _,.int _,.int _,.int _,.int _,.lst _,.lst N],[.bool b,.int r]=>∀D K s,RlE D S N->WF D K->isT s k t y a x c->match D.at i g with
  |none=>r=11/\b=false|some q=>(w9 s->r=0/\(b=true↔w9 (J1 D 6 q)/\w9 (strip false s)/\J1 D 6 q=strip false s))/\(¬w9 s->r=14/\b=false)
 |_,_=>False
def cIs:=mkR "is" [dV,hV,nV] tC CV Mo [bV,iV] Dl
def Rs :Ar->Prop:=fun _=>False
def Rt :Ar->Ar->Prop:=fun _ _=>False
def colB :List bW:=[(tHd,2,[.g (.int .u32),.g (.int .u32)]),(25,1,[.ptr 2 13]),(Oh,13,LZ)]
def cCol :Con:=⟨ "col",[.one (.clo 101 [(0,2),(1,1)])],colB,fun args s=>match args with
 | [.fn _ _ [.ptr a _ _ _,.ptr b _ _ _]]=>match s.get b with
  |some (.cells [.ptr e _ _ _] _ _)=>some [a,b,e]|_=>none
 |_=>none,Rs,[.one (.g (.lst tHd))],[],noB,Rt⟩
def RG :Ar->Prop
 | .int i:: .int g:: .lst S::d=>U32 i/\U32 g/\DU (.lst S::d)/\K0 S i g=false|_=>False
def RH :Ar->Ar->Prop
 |_,[.lst _,.int r]=>r=11|_,_=>False
def cHan:=mkR "han" [dV,hV] tC CV RG [.one (.g (.lst tHd)),iV] RH
def fY (D:DM)(i g:Int):DM×Int:=match D.at i g with
 |none=>(D,11)
 |some c=>if(D.nod c).par= -1 then pE D i g else pE (Bx D i g).1 i g
def FE :Ar->Prop
 | [.int i,.int g,.lst S,.int fr,.int lv,.int a,.int b,.int c,.int d,.int e,.int f,.int h,.int m,.lst _,.lst N]=>U32 i/\U32 g/\ ∃D K,RlC D S N fr lv [a,b,c,d,e,f,h,m]/\WF D K/\K+1<=1000|_=>False
def tD :Ar->Ar->Prop
 | [.int i,.int g,.lst S,.int fr,.int lv,.int a,.int b,.int c,.int d,.int e,.int f,.int h,.int m,.lst _,.lst N],[.int r,.lst S',.int fr',.int lv',.int a',.int b',.int c',.int d',.int e',.int f',.int h',.int m',.lst _,.lst N']=>
  Fr S N S' N'/\ ∀D K,RlC D S N fr lv [a,b,c,d,e,f,h,m]->WF D K->K+1<=1000->RlC (fY D i g).1 S' N' fr' lv' [a',b',c',d',e',f',h',m']/\r=(fY D i g).2
 |_,_=>False
def cDrp:=mkD "drp" [hV] FE [iV] tD
def gN2 :Fm->SS->List (So×E):=gh2 (y7 0) (y7 1)
def O9 :Ay->List (Nat×(Fm->SS->J0))
 |21=>[(0,L4 U0 "wg" (N7 [(6,.int .i64),(5,.int .i64)] nob) (gh2 (C5 2 5) (y7 1)) wgInv wgMu)]
 |164=>[(0,L4 U0 "eqb" (N7 [(13,.int .i64)] nob) gN2 tE Mb)]
 |165=>[(0,L4 U0 "eqn" (N7 [(17,.int .i64)] nob) gN2 AP Md)]
 |_=>[]
def L6 :Nat->List (Ay×Con)
 |0=>[(LVn,cYes "lives")]
 |1=>[(42,cChk),(43,cMn1),(LVn,cYes "lives")]
 |2=>[(164,cEqb),(LVn,cYes "lives")]
 |3=>[(42,cChk),(98,cCpd),(LVn,cYes "lives")]
 |4=>[(42,cChk),(106,cSmn),(LVn,cYes "lives")]
 |5=>[(42,cChk),(57,cNsm),(58,cStp),(LVn,cYes "lives")]
 |6=>[(LVn,cYes "lives")]
 |_=>[(54,cRem),(46,cFre),(LVn,cYes "lives")]
def W6 :Nat->Aw->G1
 |5,P=>[(12,kro P U0 cTee)]
 |6,P=>[(50,kro P U0 cLok),(52,kro P U0 cCol)]
 |7,P=>[(50,kro P U0 cLok)]
 |_,_=>[]
def FD :Ar->Prop
 | .int i:: .int g:: .lst S::d=>U32 i/\U32 g/\DU (.lst S::d)/\K0 S i g=true|_=>False
def LR :Ar->Ar->Prop
 | [.int i,.int g,.lst S,.int fr,.int lv,.int _,.int _,.int _,.int _,.int _,.int _,.int _,.int _,.lst _,.lst N],[.lst O]=>∀D K c,RlE D S N->WF D K->D.at i g=some c->O=(bel D 1001 c).map (z9 D.gen)|_,_=>False
def co2B :List bW:=[(tHd,2,hL),(25,1,[.ptr 2 13]),(Oh,13,LZ),(tNd,10,[.g (.rgl 10)])]
def cCo2 :Con:=⟨ "co2",[.one (.clo 101 [(0,2),(1,1)])],co2B,fun args s=>match args with
 | [.fn _ _ [.ptr a _ _ _,.ptr b _ _ _]]=>match s.get b,rgB s with
  |some (.cells [.ptr e _ _ _] _ _),some r=>some [a,b,e,r]|_,_=>none
 |_=>none,FD,[.one (.g (.lst tHd))],[],noB,LR⟩
def AT :Ar->Prop
 | .int i:: .int g::d=>U32 i/\U32 g/\DU d|_=>False
def tO :Ar->Ar->Prop
 | [.int i,.int g,.lst S,.int fr,.int lv,.int _,.int _,.int _,.int _,.int _,.int _,.int _,.int _,.lst _,.lst N],[.lst O,.int r]=>∀D K,RlE D S N->WF D K->match D.at i g with
  |none=>r=11/\O=[]
  |some c=>r=0/\O=(bel D 1001 c).map (z9 D.gen)
 |_,_=>False
def cHa2:=mkR "ha2" [dV,hV] tC CV AT [.one (.g (.clp tHd)),iV] tO
def Lt :Ay->List (Nat×(Fm->SS->J0)):=fun _=>[]
def PQ :Nat->List (Ay×Con)
 |_=>[(LVn,cYes "lives")]
def Im :Nat->Aw->G1
 |_,P=>[(50,kro P U0 cLok),(52,kro P U0 cCo2)]
