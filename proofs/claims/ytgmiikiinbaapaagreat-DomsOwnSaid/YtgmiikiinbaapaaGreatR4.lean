/- The reference's DOM: contracts of its calls: Create, Attr, Text, Insert, Remove, Move, Place.
  Conditions: none. -/
import Derived.Test.YtgmiikiinbaapaaGreatJ1
set_option linter.all false
noncomputable section
namespace Go.D
open Go Go.Xe Go.Sx
def mkO (n:String)(args:List Vs)(pre:Ar->Prop)(rel:Ar->Ar->Prop):Con:=mkC n (rfV::args) pre [rfV,iV] rel
def qU :Ar->Prop
 | [.lst L,.lst F,.int a,.int b,.int c,.int d,.int e,.int f,.int h,.int m,.int k,.str s]=>(k=1\/k=2)/\fF L F [a,b,c,d,e,f,h,m]|_=>False
def J3 :Ar->Ar->Prop
 | [.lst L,.lst F,.int a,.int b,.int c,.int d,.int e,.int f,.int h,.int m,.int k,.str s],[.lst L',.lst F',.int a',.int b',.int c',.int d',.int e',.int f',.int h',.int m',.int i,.int g,.int r]=>
  bB L F [a,b,c,d,e,f,h,m] L' F' [a',b',c',d',e',f',h',m'] fun D=>((P2 D k (if k=1 then s else []) (if k=1 then []else s)).1,(i,g,r)=(P2 D k (if k=1 then s else []) (if k=1 then []else s)).2)
 |_,_=>False
def cRcre:=mkC "rcre" [rfV,uV,sV] qU [rfV,hV,iV] J3
def qR :Ar->Prop
 | [.lst L,.lst F,.int a,.int b,.int c,.int d,.int e,.int f,.int h,.int m,.int i,.int g,.str n,.bool z,.str v]=>U32 i/\U32 g/\(z=true->v=[])/\fF L F [a,b,c,d,e,f,h,m]|_=>False
def Y7 :Ar->Ar->Prop
 | [.lst L,.lst F,.int a,.int b,.int c,.int d,.int e,.int f,.int h,.int m,.int i,.int g,.str n,.bool z,.str v],[.lst L',.lst F',.int a',.int b',.int c',.int d',.int e',.int f',.int h',.int m',.int r]=>
  bB L F [a,b,c,d,e,f,h,m] L' F' [a',b',c',d',e',f',h',m'] fun D=>((R5 D i g ⟨n,z,v⟩ (if z=true then 17 else 1)).1,r=(R5 D i g ⟨n,z,v⟩ (if z=true then 17 else 1)).2)
 |_,_=>False
def cRatt:=mkO "ratt" [hV,.agg [.g .str,.g .bool,.g .str]] qR Y7
def AP:=zC
def tQ:=bO
def cRap:=mkC "rap" [alV,.one (.g (.lst 124))] AP [alV,iV] tQ
def Bg :Ar->Prop
 | [.lst L,.lst F,.int a,.int b,.int c,.int d,.int e,.int f,.int h,.int m,.int i,.int g,.str s]=>U32 i/\U32 g/\fF L F [a,b,c,d,e,f,h,m]|_=>False
def lU :Ar->Ar->Prop
 | [.lst L,.lst F,.int a,.int b,.int c,.int d,.int e,.int f,.int h,.int m,.int i,.int g,.str s],[.lst L',.lst F',.int a',.int b',.int c',.int d',.int e',.int f',.int h',.int m',.int r]=>
  bB L F [a,b,c,d,e,f,h,m] L' F' [a',b',c',d',e',f',h',m'] fun D=>((Z3 D i g s).1,r=(Z3 D i g s).2)
 |_,_=>False
def cRtxt:=mkO "rtxt" [hV,sV] Bg lU
def Be :Ar->Prop
 | [.lst L,.lst F,.int a,.int b,.int c,.int d,.int e,.int f,.int h,.int m,.int i,.int g,.int _,.int _,.bool _]=>U32 i/\U32 g/\fF L F [a,b,c,d,e,f,h,m]|_=>False
def lM :Ar->Ar->Prop
 | [.lst L,.lst F,.int a,.int b,.int c,.int d,.int e,.int f,.int h,.int m,.int i,.int g,.int t,.int z,.bool p],[.lst L',.lst F',.int a',.int b',.int c',.int d',.int e',.int f',.int h',.int m',.int r]=>
  bB L F [a,b,c,d,e,f,h,m] L' F' [a',b',c',d',e',f',h',m'] fun D=>((lE D i g t z p).1,r=(lE D i g t z p).2)
 |_,_=>False
def cRplk:=mkO "rplk" [hV,iV,iV,bV] Be lM
def qY :Ar->Prop
 | [.lst L,.lst F,.int a,.int b,.int c,.int d,.int e,.int f,.int h,.int m,.int i,.int g]=>U32 i/\U32 g/\fF L F [a,b,c,d,e,f,h,m]|_=>False
def lT :Ar->Ar->Prop
 | [.lst L,.lst F,.int a,.int b,.int c,.int d,.int e,.int f,.int h,.int m,.int i,.int g],[.lst L',.lst F',.int a',.int b',.int c',.int d',.int e',.int f',.int h',.int m',.int r]=>
  bB L F [a,b,c,d,e,f,h,m] L' F' [a',b',c',d',e',f',h',m'] fun D=>((jJ D i g).1,r=(jJ D i g).2)
 |_,_=>False
def cRrem:=mkO "rrem" [hV] qY lT
def FB :Ar->Prop
 | [.lst L,.lst F,.int a,.int b,.int c,.int d,.int e,.int f,.int h,.int m,.int i,.int g,.int x,.int y]=>U32 i/\U32 g/\U32 x/\U32 y/\fF L F [a,b,c,d,e,f,h,m]|_=>False
def oB :Ar->Ar->Prop
 | [.lst L,.lst F,.int a,.int b,.int c,.int d,.int e,.int f,.int h,.int m,.int i,.int g,.int x,.int y],[.lst L',.lst F',.int a',.int b',.int c',.int d',.int e',.int f',.int h',.int m',.int r]=>
  bB L F [a,b,c,d,e,f,h,m] L' F' [a',b',c',d',e',f',h',m'] fun D=>((aZ D i g x y).1,r=(aZ D i g x y).2)
 |_,_=>False
def cRmv:=mkO "rmv" [hV,hV] FB oB
def AU :Ar->Prop
 | [.lst L,.lst F,.int a,.int b,.int c,.int d,.int e,.int f,.int h,.int m,.int i,.int g,.int j,.int k,.int x,.int y]=>U32 i/\U32 g/\U32 j/\U32 k/\U32 x/\U32 y/\fF L F [a,b,c,d,e,f,h,m]|_=>False
def jK :Ar->Ar->Prop
 | [.lst L,.lst F,.int a,.int b,.int c,.int d,.int e,.int f,.int h,.int m,.int i,.int g,.int j,.int k,.int x,.int y],[.lst L',.lst F',.int a',.int b',.int c',.int d',.int e',.int f',.int h',.int m',.int r]=>
  bB L F [a,b,c,d,e,f,h,m] L' F' [a',b',c',d',e',f',h',m'] fun D=>((bX D i g j k x y).1,r=(bX D i g j k x y).2)
 |_,_=>False
def cRns:=mkO "rns" [hV,hV,hV] AU jK
def qF (L:Sx.Rows):Nat->Int->Nat
 |0,_=>0|f+1,k=>if k<0 then 0 else qF L f (cI L k 9)+1
def fI :Ar->Ar->Prop
 | [.lst L,.int p,.int c],[.int k]=>∀D K,L=D.L.map Sl.row->WF D K-> ∀q d:Nat,p=q->c=d->(∃s,D.L[q]? =some s/\s.used=true)->(k= -1/\ ¬Abv D d q)\/ ∃(b:Nat) (s:Sl),k=b/\D.L[b]? =some s/\s.used=true/\(Abv D d q↔Abv D d b)|_,_=>False
def Le :Ar->Ar->Nat
 | [.lst L,_,_],[.int k]=>qF L 1002 k|_,_=>0
def jH :Ar->Ar->Prop
 | [.lst L,.lst E],[.int i,.lst O]=>0<=i/\i<=1/\ ∀(l:List Att) (e:Ed),L=l.map Att.row->E=[e.row]->(i=0->O=L)/\(i=1->bad1 l e=false/\O=(L7 l e).map Att.row)|_,_=>False
def fE :Ar->Ar->Nat
 |_,.int i::_=>(1-i).toNat|_,_=>0
def U1 :Ay->List (Nat×(Fm->SS->G5))
 |71=>[(0,D8 U0 "rup" (E6 [(14,.int .i64)] nob) (gh2 (A2 4 0) (gh2 (m9 10) (m9 11))) fI Le)]
 |131=>[(0,D8 U0 "rap" (E6 [(7,.int .i64),(6,.lst uY)] nob) (gh2 (m9 0) (m9 1)) jH fE)]
 |f=>U2 f
def aJ :Nat->List (Ay×Con)
 |n=>[(126,cRname),(127,cRstr),(128,cRat),(29,cRcp),(133,cRpl),(134,cRput),(135,cRwit),(129,cFnd),(151,cRins)]++(if n=0 then []else [(131,cRap)])++ [(LVn,cYes "lives")]
def fD :Nat->Aw->E7:=aE
def DM.Us (D:DM)(c:Nat):Prop:=∃s,D.L[c]? =some s/\s.used=true
def qS :Ar->Prop
 | [.lst L,.lst F,.int a,.int b,.int c,.int d,.int e,.int f,.int h,.int m,.int i]=>∃(D:DM) (K c':Nat),Rf D L F [a,b,c,d,e,f,h,m]/\WF D K/\i=c'/\D.Us c'|_=>False
def qT :Ar->Ar->Prop
 | [.lst L,.lst F,.int a,.int b,.int c,.int d,.int e,.int f,.int h,.int m,.int i],[.lst O]=>∀(D:DM) (K c':Nat),L=D.L.map Sl.row->WF D K->i=c'->D.Us c'->O=(bel D 1001 c').map A5|_,_=>False
def HS (L:Sx.Rows):Nat->Int->Nat
 |0,_=>1|f+1,i=>1+((cL L i 10).map fun r=>HS L f (r.getD 0 (.int 0)).toInt).sum
def nW :Ar->Nat
 | .lst L::_::_::_::_::_::_::_::_::_:: .int i::_=>HS L 1001 i|_=>0
def cRbel:=mkC "rbel" [rfV,iV] qS [ilV] qT
def Y8 :Ar->Prop
 | [.lst L,.lst F,.int a,.int b,.int c,.int d,.int e,.int f,.int h,.int m,.int i,.int n]=>0<=n/\n<=6/\ ∃(D:DM) (K c':Nat),Rf D L F [a,b,c,d,e,f,h,m]/\WF D K/\i=c'/\D.Us c'|_=>False
def cO :Ar->Ar->Prop
 | [.lst L,.lst F,.int a,.int b,.int c,.int d,.int e,.int f,.int h,.int m,.int i,.int n],[.int k,.str t,.str y,.lst at',.str x,.lst ch]=>∀(D:DM) (K c':Nat),L=D.L.map Sl.row->WF D K->i=c'->D.Us c'->isT (cX D n.toNat c') k t y at' x ch|_,_=>False
def tY :Ar->Nat
 | [_,_,_,_,_,_,_,_,_,_,_,.int n]=>n.toNat|_=>0
def cRtre:=mkC "rtre" [rfV,iV,iV] Y8 [nV] cO
def AT:=qY
def lI :Ar->Ar->Prop
 | [.lst L,.lst F,.int a,.int b,.int c,.int d,.int e,.int f,.int h,.int m,.int i,.int g],[.lst L',.lst F',.int a',.int b',.int c',.int d',.int e',.int f',.int h',.int m',.int r]=>
  bB L F [a,b,c,d,e,f,h,m] L' F' [a',b',c',d',e',f',h',m'] fun D=>((eK D i g).1,r=(eK D i g).2)
 |_,_=>False
def cRfre:=mkO "rfre" [hV] AT lI
def AQ :Ar->Ar->Prop
 | [.lst L,.int i],[.int k,.lst O]=>0<=k/\ ∀(D:DM) (K c:Nat) s,L=D.L.map Sl.row->WF D K->i=c->D.L[c]? =some s->s.used=true->k<=s.n.ch.length/\O=(c::(s.n.ch.take k.toNat).flatMap (bel D 1001)).map A5|_,_=>False
def KT :Ar->Ar->Nat
 | [.lst L,.int i],.int k::_=>((cL L i 10).length-k).toNat|_,_=>0
def Bf :Ar->Ar->Prop
 | [.lst L,.int i,.int n,.lst C],[.int j,.int k,.str t,.str y,.lst a,.str x,.lst O]=>0<=j/\j<=C.length/\(O.length:Int)=j/\ ∀(D:DM) (K c:Nat) s,L=D.L.map Sl.row->WF D K->i=c->D.L[c]? =some s->s.used=true->C=s.n.ch.map A5/\k=s.n.kind/\t=s.n.tag/\y=[]/\a=s.n.atts.map Att.row/\x=s.n.text/\O=rows ((s.n.ch.take j.toNat).map (cX D (n.toNat-1)))|_,_=>False
def Ld :Ar->Ar->Nat
 | [_,_,_,.lst C],.int j::_=>(C.length-j).toNat|_,_=>0
def nY :Ar->Ar->Prop
 | [.lst X,.lst L,.lst F,.int c0,.int c1,.int c2,.int c3,.int c4,.int c5,.int c6,.int c7],[.int k,.lst L',.lst F',.int d0,.int d1,.int d2,.int d3,.int d4,.int d5,.int d6,.int d7]=>
  0<=k/\k<=X.length/\[d0,d1,d2,d3,d4,d5,d6,d7]=[c0-k,c1,c2+k,c3,c4,c5,c6,c7]/\ ∀(D:DM) (l:Ah),L=D.L.map Sl.row->F=D.free.map A5->l.Nodup->(∀b∈l,D.Us b)->X=l.map A5->L'=((l.take k.toNat).foldl z8 D).L.map Sl.row/\F'=((l.take k.toNat).foldl z8 D).free.map A5
 |_,_=>False
def Dl :Ar->Ar->Nat
 | .lst X::_,.int k::_=>(X.length-k).toNat|_,_=>0
def wP :Ay->List (Nat×(Fm->SS->G5))
 |136=>[(0,D8 U0 "rbl" (E6 [(6,.int .i64),(5,.acc uZ 1)] nob) (gh2 (A2 2 0) (m9 1)) AQ KT)]
 |79=>[(0,D8 U0 "rtl" (E6 [(9,.int .i64)] (G9 8 [.int .u8,.str,.str,.lst uY,.str,.acc 40 6])) (gh2 (gh2 (A2 3 0) (m9 1)) (gh2 (m9 2) (A2 7 8))) Bf Ld)]
 |75=>[(0,D8 U0 "rfl" (E6 [(9,.int .i64)] (G9 7 (.acc tRS 11:: .lst uZ::g8))) (gh2 (m9 8) (gh2 (A2 2 0) (ghDC 2))) nY Dl)]
 |f=>U2 f
def Bx :Nat->List (Ay×Con)
 |0=>[(LVn,cYes "lives")]
 |_=>[(128,cRat),(29,cRcp),(136,cRbel),(LVn,cYes "lives")]
def Fx :Nat->Aw->E7:=aE
abbrev Oa :Ax:=66
def HOK (H:Sx.Rows):Prop:=∀r∈H,∃i g:Int,r=[.int i,.int g]/\U32 i/\U32 g
def BI (K:Nat)(L F:Sx.Rows)(bs:Ak)(H S:Sx.Rows)(fr lv:Int)(cs:Ak)(N:Sx.Rows):Prop:=∃D,Rf D L F bs/\RlC D S N fr lv cs/\WF D K/\HOK H/\H.length<=K
def botL :List Lf:= .ptr 1 13:: .g (.lst tRS):: .g (.lst uZ)::(i8++ [.g (.acc tHd 2)])
def JB :List bN:=(Oa,12,botL)::rU
def botF :As->SS->Bb (Ah):=fun args s=>match args with
 | .ptr b _ _ _::_=>match s.get b with
  |some (.cells (.ptr d _ _ _::_) _ _)=>match rgB s with
   |some r=>some [b,d,r]|none=>none
  |_=>none
 |_=>none
def pV :Vs:= .one (.ptr 0 12)
def mkBR (n:String)(args:List Vs)(pre:Ar->Prop)(res:List Vs)(rel:Ar->Ar->Prop):Con:=mkR n (pV::args) JB botF pre res rel
def tM :Ar->Prop
 | [.int n,.lst L,.lst F,.int _,.int _,.int _,.int _,.int _,.int _,.int _,.int _,.lst H,.lst S,.int fr,.int lv,.int _,.int _,.int _,.int _,.int _,.int _,.int _,.int _,.lst _,.lst N]=>0<=n/\n<256/\HOK H|_=>False
def aD :Ar->Ar->Prop
 |_,[.int i,.int g]=>U32 i/\U32 g|_,_=>False
def cPck:=mkBR "pck" [uV] tM [hV] aD
def HI :Ar->Prop
 | [.int n]=>0<=n/\n<256|_=>False
def Og :Ar->Ar->Prop:=fun _ _=>True
def Bz:=HI
def BA:=Og
def nmsF (n:Int):Str:=cS (b8 1 5 [.str [99,108,97,115,115],.str [105,100],.str [120],.str [121],.str [90]]) (n.tmod 5) 0
def txtF (n:Int):Str:=cS (b8 1 4 [.str [],.str [104,105],.str [126],.str [0]]) (n.tmod 4) 0
def nN:=HI
def nP :Ar->Ar->Prop
 | [.int n],[.str s]=>s=nmsF n|_,_=>False
def fS:=HI
def jS :Ar->Ar->Prop
 | [.int n],[.str s]=>s=txtF n|_,_=>False
def cTag:=mkC "tag" [uV] Bz [sV] BA
def cNms:=mkC "nms" [uV] nN [sV] nP
def cTxt:=mkC "txt" [uV] fS [sV] jS
def Z8 :Ar->Prop
 | .lst P:: .lst X:: .lst L::_=>∃l:Ah,X=l.map A5/\P=l.map (fun j:Nat=>[Dat.int j,.int (cI L j 0)])/\(∀j∈l,j<L.length)/\l.length<=1000/\L.length<=1000|_=>False
def bU :Ar->Ar->Prop
 |_,[.int r]=>r=1|_,_=>False
def cHnd:=mkBR "hnd" [.one (.g (.clp tHd)),ilV] Z8 [iV] bU
def iS :Ar->Prop
 | [.lst A,.lst B]=>∃l m:List Att,A=l.map Att.row/\B=m.map Att.row/\l.length<=8|_=>False
def Z7 :Ar->Ar->Prop
 | [.lst A,.lst B],[.int r]=>(A=B->r=1)/\(A≠B->r=0)|_,_=>False
def cAsm:=mkC "asm" [alV,alV] iS [iV] Z7
def nH :Ar->Ar->Prop
 | [.lst P,.lst X,.lst L],[.int k]=>0<=k/\k<=P.length|_,_=>False
def sH:=A7
def zD :Ar->Ar->Prop
 | [.lst A,.lst B],[.int k]=>0<=k/\k<=A.length/\A.length=B.length/\A.take k.toNat=B.take k.toNat|_,_=>False
def Jw:=A7
def dK :Ay->List (Nat×(Fm->SS->G5))
 |78=>[(0,D8 U0 "hnl" (E6 [(7,.int .i64)] nob) (gh2 (m9 1) (gh2 (m9 2) (A2 0 1))) nH A7)]
 |77=>[(0,D8 U0 "asl" (E6 [(5,.int .i64)] nob) (gh2 (m9 0) (m9 1)) zD A7)]
 |_=>[]
def oJ :Nat->List (Ay×Con)
 |_=>[(LVn,cYes "lives")]
def nU :Nat->Aw->E7:=aE
