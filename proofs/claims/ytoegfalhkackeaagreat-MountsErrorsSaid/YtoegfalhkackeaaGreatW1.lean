/- Contracts of the reference's Check and Same of trees.
  Conditions: none. -/
import Derived.Test.YtoegfalhkackeaaGreatN4
set_option linter.all false
noncomputable section
namespace Go.D
open Go.Xe Go.Sx
def aB:=Du
def H6:=D6
def cRname:=mkC "rname" [sV] aB [bV] H6
def iK:=Du
def U6:=J9
def cRstr:=mkC "rstr" [sV] iK [bV] U6
def FC:=qN
def G3 :Ar->Ar->Prop
 | [.int k,.str t,.str y,.lst a,.str x,.lst c],[.bool b]=>∀s:a9,isT s k t y a x c->(b=true↔Z5 s)
 |_,_=>False
def cOne:=mkC "one" [nV] FC [bV] G3
def Fits (s:a9)(lv:Int):Prop:=U7 s/\(s.depth:Int)<=lv/\s.size<=64
def iF :Ar->Prop
 | [.int k,.str t,.str y,.lst a,.str x,.lst c,.int lv]=>0<=lv/\lv<=6/\ ∃s:a9,isT s k t y a x c|_=>False
def U5 :Ar->Ar->Prop
 | [.int k,.str t,.str y,.lst a,.str x,.lst c,.int lv],[.int n]=>1<=n/\n<=1000+64*lv/\ ∀s:a9,isT s k t y a x c->(n<=64↔Fits s lv)/\(n<=64->n=s.size)|_,_=>False
def oU :Ar->Nat
 | [_,_,_,_,_,_,.int lv]=>lv.toNat|_=>0
def cRcnt:=mkC "rcnt" [nV,iV] iF [iV] U5
def AX:=qN
def iE:=J7
def cRchk:=mkC "rchk" [nV] AX [iV] iE
def yN:=qD
def IX:=N0
def Dt:=uW
def rsMu:=N0
def yE :Ar->Ar->Prop
 | [.lst L],[.int i]=>0<=i/\i<=ln L/\ ∀a:List Att,L=a.map Att.row->(∀z∈a.take i.toNat,C9 z.n=true/\N9 z.v=true)/\Asc ((a.take i.toNat).map Att.n)|_,_=>False
def oaMu:=N0
def yF :Ar->Ar->Prop
 | [.lst L,.int i],[.int k]=>0<=k/\k<=i/\i<ln L/\ ∀a:List Att,L=a.map Att.row-> ∀z∈a.take k.toNat,lt z.n (a.getD i.toNat ⟨[],[]⟩).n=true|_,_=>False
def Lz :Ar->Ar->Nat
 | [_,.int i],[.int k]=>(i-k).toNat|_,_=>0
def Da :Ar->Ar->Prop
 | [.lst L],[.int i]=>0<=i/\i<=ln L/\jT ((pY L).take i.toNat)|_,_=>False
def ocMu:=N0
def yG :Ar->Ar->Prop
 | [.lst L,.int i],[.int k]=>0<=k/\k<=i/\i<ln L/\((pY L).getD i.toNat []=[]\/ ∀z∈(pY L).take k.toNat,z≠(pY L).getD i.toNat [])|_,_=>False
def IK:=Lz
def pU :Ar->Ar->Prop
 | [.lst C,.int lv],[.int i,.int n]=>0<=i/\i<=ln C/\1<=lv/\1<=n/\n<=1000+64*lv/\ ∀c:List a9,C=rows c->(n<=64↔AllAs (c.take i.toNat)/\(a9.depths (c.take i.toNat):Int)+1<=lv/\a9.sizes (c.take i.toNat)+1<=64)/\(n<=64->n=a9.sizes (c.take i.toNat)+1)|_,_=>False
def ctMu:=N0
def jG :Ay->List (Nat×(Fm->SS->K0))
 |136=>[(0,P8 U0 "rn" (T6 [(3,.int .i64)] nob) (B0 0) yN IX)]
 |137=>[(0,P8 U0 "rs" (T6 [(3,.int .i64)] nob) (B0 0) Dt rsMu)]
 | 144 => [(0, P8 U0 "oa" (T6 [(3, .int .i64), (4, .any)] nob) (V7 1 3) yE oaMu), (2, P8 U0 "ob" (T6 [(4, .int .i64)] nob) (gh2 (V7 1 3) (B0 3)) yF Lz),
   (4,P8 U0 "oc" (T6 [(5,.int .i64),(6,.any)] nob) (V7 1 5) Da ocMu),(6,P8 U0 "od" (T6 [(6,.int .i64)] nob) (gh2 (V7 1 5) (B0 5)) yG IK)]
 |88=>[(0,P8 U0 "ct" (T6 [(6,.int .i64),(5,.int .i64)] nob) (gh2 (V7 2 5) (B0 1)) pU ctMu)]
 |_=>[]
def gU :Nat->List (Ay×Con)
 |0=>[(LVn,cYes "lives")]
 |1=>[(136,cRname),(137,cRstr),(LVn,cYes "lives")]
 |2=>[(144,cOne),(LVn,cYes "lives")]
 |_=>[(88,cRcnt),(LVn,cYes "lives")]
def uF (_:Nat)(P:Aw):I9:=[]
def t2Pre :Ar->Prop
 | [.int k,.str t,.str y,.lst a,.str x,.lst c,.int k',.str t',.str y',.lst a',.str x',.lst c']=>(∃s:a9,isT s k t y a x c)/\ ∃s':a9,isT s' k' t' y' a' x' c'|_=>False
open Go Go.Xe Go.Sx
def AM :Ar->Prop
 | [.int k,.str t,.str y,.lst a,.str x,.lst c,.lst S,.int fr,.int lv,.int c0,.int c1,.int c2,.int c3,.int c4,.int c5,.int c6,.int c7,.lst _,.lst N]=>∃s D K,isT s k t y a x c/\RlC D S N fr lv [c0,c1,c2,c3,c4,c5,c6,c7]/\WF D K/\(z5 s->K+M2 s<=1000)|_=>False
def tM :Ar->Ar->Prop
 | [.int k,.str t,.str y,.lst a,.str x,.lst c,.lst S,.int fr,.int lv,.int c0,.int c1,.int c2,.int c3,.int c4,.int c5,.int c6,.int c7,.lst _,.lst N],[.int i,.int g,.int r,.lst S',.int fr',.int lv',.int c0',.int c1',.int c2',.int c3',.int c4',.int c5',.int c6',.int c7',.lst _,.lst N']=>
  U32 i/\U32 g/\Fr S N S' N'/\ ∀s D K,isT s k t y a x c->RlC D S N fr lv [c0,c1,c2,c3,c4,c5,c6,c7]->WF D K->(z5 s->K+M2 s<=1000->RlC (gD D s).1 S' N' fr' lv' [c0',c1',c2',c3',c4',c5',c6',c7']/\(i,g)=(gD D s).2/\r=0)/\(¬z5 s->RlC D S' N' fr' lv' [c0',c1',c2',c3',c4',c5',c6',c7']/\i=0/\g=0/\r=14)
 |_,_=>False
def cMnt:=mkD "mnt" [nV] AM [hV,iV] tM
def tX :Ar->Prop:=fun _=>True
def tY :Ar->Ar->Prop
 |_,[.lst S,.int fr,.int lv,.int c0,.int c1,.int c2,.int c3,.int c4,.int c5,.int c6,.int c7,.lst _]=>S=[]/\fr=0/\lv=0/\[c0,c1,c2,c3,c4,c5,c6,c7]=[0,0,0,0,0,0,0,0]
 |_,_=>False
def nwdF :SV->SS->Bb (Ah):=fun v _=>match v with
 | .ptr b _ _ _=>some [b]|_=>none
def cNwd :Con:=⟨ "nwd",[],[],noF,tX,[dV],[(tDom,13,domL)],nwdF,tY⟩
def vL :Ar->Prop
 | [.int k,.str t,.str y,.lst a,.str x,.lst c,.int lv]=>0<=lv/\lv<=8/\ ∃s:a9,isT s k t y a x c|_=>False
def eD :Ar->Ar->Prop
 | [.int k,.str t,.str y,.lst a,.str x,.lst c,.int lv],[.int n]=>1<=n/\n<=151+151*lv|_,_=>False
def yZ :Ar->Nat
 | [_,_,_,_,_,_,.int lv]=>lv.toNat|_=>0
def cWgh:=mkC "wgh" [nV,iV] vL [iV] eD
def DU :Ar->Ar->Prop
 | [.lst C,.int lv],[.int i,.int n]=>0<=i/\i<=ln C/\1<=lv/\1<=n/\n<=151+151*lv|_,_=>False
abbrev wgMu:=N0
def atV :Vs:= .one (.g (.lst 101))
def EP :Ar->Prop
 | [.lst A,.lst B]=>(∃l m:List Att,A=l.map Att.row/\B=m.map Att.row)/\A.length<=1000|_=>False
def fY :Ar->Ar->Prop
 | [.lst A,.lst B],[.bool b]=>b=true↔A=B|_,_=>False
def cEqb:=mkC "eqb" [atV,atV] EP [bV] fY
def sG :Ar->Ar->Prop
 | [.lst A,.lst B],[.int k]=>0<=k/\k<=A.length/\A.length=B.length/\A.take k.toNat=B.take k.toNat|_,_=>False
abbrev KD:=N0
def Bm :Ar->Prop
 | [.int k,.str t,.str y,.lst a,.str x,.lst c,.int k',.str t',.str y',.lst a',.str x',.lst c']=>(∃s,isT s k t y a x c/\U7 s)/\ ∃s,isT s k' t' y' a' x' c'/\U7 s|_=>False
def W0 :Ar->Ar->Prop
 | [.int k,.str t,.str y,.lst a,.str x,.lst c,.int k',.str t',.str y',.lst a',.str x',.lst c'],[.bool b]=>∀s s',isT s k t y a x c->isT s' k' t' y' a' x' c'->(b=true↔s=s')
 |_,_=>False
def DI :Ar->Nat
 |_::_::_::_::_:: .lst c::_=>szRs c|_=>0
def cSmn:=mkC "smn" [nV,nV] Bm [bV] W0
abbrev Ad:=sG
abbrev KF:=N0
def Gl:=qN
def Bw :Ar->Ar->Prop
 | [.int k,.str t,.str y,.lst a,.str x,.lst c],[.int k',.str t',.str y',.lst a',.str x',.lst c']=>∀s:a9,isT s k t y a x c->(z5 s->isT (jO false s) k' t' y' a' x' c')/\(¬z5 s->isT HV k' t' y' a' x' c')|_,_=>False
def cStp:=mkC "stp" [nV] Gl [nO] Bw
def Fy:=t2Pre
def oS :Ar->Ar->Prop
 | [.int k,.str t,.str y,.lst a,.str x,.lst c,.int k',.str t',.str y',.lst a',.str x',.lst c'],[.bool b]=>∀s s',isT s k t y a x c->isT s' k' t' y' a' x' c'->(b=true↔z5 s/\z5 s'/\s=s')
 |_,_=>False
def cNsm:=mkC "nsm" [nV,nV] Fy [bV] oS
def xH :Ar->Prop
 | .int i:: .int g:: .int k:: .str t:: .str y:: .lst a:: .str x:: .lst c::d=>U32 i/\U32 g/\LK d/\ ∃s:a9,isT s k t y a x c|_=>False
def pX :Ar->Ar->Prop
 | [.int i,.int g,.int k,.str t,.str y,.lst a,.str x,.lst c,.lst S,.int fr,.int lv,.int _,.int _,.int _,.int _,.int _,.int _,.int _,.int _,.lst _,.lst N],[.bool b,.int r]=>∀D K s,RlE D S N->WF D K->isT s k t y a x c->match D.at i g with
  |none=>r=11/\b=false|some q=>(z5 s->r=0/\(b=true↔z5 (N8 D 6 q)/\z5 (jO false s)/\N8 D 6 q=jO false s))/\(¬z5 s->r=14/\b=false)
 |_,_=>False
def cIs:=mkR "is" [dV,hV,nV] wC EN xH [bV,iV] pX
def Kt :Ar->Prop:=fun _=>False
def Ku :Ar->Ar->Prop:=fun _ _=>False
def colB :List bX:=[(tHd,2,[.g (.int .u32),.g (.int .u32)]),(25,1,[.ptr 2 13]),(tDom,13,domL)]
def cCol :Con:=⟨ "col",[.one (.clo 101 [(0,2),(1,1)])],colB,fun args s=>match args with
 | [.fn _ _ [.ptr a _ _ _,.ptr b _ _ _]]=>match s.get b with
  |some (.cells [.ptr e _ _ _] _ _)=>some [a,b,e]|_=>none
 |_=>none,Kt,[.one (.g (.lst tHd))],[],noB,Ku⟩
def AA :Ar->Prop
 | .int i:: .int g:: .lst S::d=>U32 i/\U32 g/\LK (.lst S::d)/\G6 S i g=false|_=>False
def sP :Ar->Ar->Prop
 |_,[.lst _,.int r]=>r=11|_,_=>False
def cHan:=mkR "han" [dV,hV] wC EN AA [.one (.g (.lst tHd)),iV] sP
def wD (D:DM)(i g:Int):DM×Int:=match D.at i g with
 |none=>(D,11)
 |some c=>if(D.nod c).par= -1 then qW D i g else qW (AY D i g).1 i g
def sF :Ar->Prop
 | [.int i,.int g,.lst S,.int fr,.int lv,.int a,.int b,.int c,.int d,.int e,.int f,.int h,.int m,.lst _,.lst N]=>U32 i/\U32 g/\ ∃D K,RlC D S N fr lv [a,b,c,d,e,f,h,m]/\WF D K/\K+1<=1000|_=>False
def jZ :Ar->Ar->Prop
 | [.int i,.int g,.lst S,.int fr,.int lv,.int a,.int b,.int c,.int d,.int e,.int f,.int h,.int m,.lst _,.lst N],[.int r,.lst S',.int fr',.int lv',.int a',.int b',.int c',.int d',.int e',.int f',.int h',.int m',.lst _,.lst N']=>
  Fr S N S' N'/\ ∀D K,RlC D S N fr lv [a,b,c,d,e,f,h,m]->WF D K->K+1<=1000->RlC (wD D i g).1 S' N' fr' lv' [a',b',c',d',e',f',h',m']/\r=(wD D i g).2
 |_,_=>False
def cDrp:=mkD "drp" [hV] sF [iV] jZ
def gN2 :Fm->SS->List (So×E):=gh2 (B0 0) (B0 1)
def H3 :Ay->List (Nat×(Fm->SS->K0))
 |21=>[(0,P8 U0 "wg" (T6 [(6,.int .i64),(5,.int .i64)] nob) (gh2 (V7 2 5) (B0 1)) DU wgMu)]
 |164=>[(0,P8 U0 "eqb" (T6 [(13,.int .i64)] nob) gN2 sG KD)]
 |165=>[(0,P8 U0 "eqn" (T6 [(17,.int .i64)] nob) gN2 Ad KF)]
 |_=>[]
def G7 :Nat->List (Ay×Con)
 |0=>[(LVn,cYes "lives")]
 |1=>[(42,cChk),(43,cMn1),(LVn,cYes "lives")]
 |2=>[(164,cEqb),(LVn,cYes "lives")]
 |3=>[(42,cChk),(98,cCpd),(LVn,cYes "lives")]
 |4=>[(42,cChk),(106,cSmn),(LVn,cYes "lives")]
 |5=>[(42,cChk),(57,cNsm),(58,cStp),(LVn,cYes "lives")]
 |6=>[(LVn,cYes "lives")]
 |_=>[(54,cRem),(46,cFre),(LVn,cYes "lives")]
def L7 :Nat->Aw->I9
 |5,P=>[(12,kro P U0 cTee)]
 |6,P=>[(50,kro P U0 cLok),(52,kro P U0 cCol)]
 |7,P=>[(50,kro P U0 cLok)]
 |_,_=>[]
