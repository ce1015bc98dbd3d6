/- The reference's DOM: contracts of its calls: Create, Attr, Text, Insert, Remove, Move, Place.
  Conditions: none. -/
import Derived.Test.YtgmiikiinbaapaaGreatJ1
set_option linter.all false
noncomputable section
namespace Go.D
open Go Go.Xe Go.Sx
def mkO (n:String)(args:List Vs)(pre:Ar->Prop)(rel:Ar->Ar->Prop):Con:=mkC n (rfV::args) pre [rfV,iV] rel
def sF :Ar->Prop
 | [.lst L,.lst F,.int a,.int b,.int c,.int d,.int e,.int f,.int h,.int m,.int k,.str s]=>(k=1\/k=2)/\gK L F [a,b,c,d,e,f,h,m]|_=>False
def L4 :Ar->Ar->Prop
 | [.lst L,.lst F,.int a,.int b,.int c,.int d,.int e,.int f,.int h,.int m,.int k,.str s],[.lst L',.lst F',.int a',.int b',.int c',.int d',.int e',.int f',.int h',.int m',.int i,.int g,.int r]=>
  cG L F [a,b,c,d,e,f,h,m] L' F' [a',b',c',d',e',f',h',m'] fun D=>((R7 D k (if k=1 then s else []) (if k=1 then []else s)).1,(i,g,r)=(R7 D k (if k=1 then s else []) (if k=1 then []else s)).2)
 |_,_=>False
def cRcre:=mkC "rcre" [rfV,uV,sV] sF [rfV,hV,iV] L4
def sC :Ar->Prop
 | [.lst L,.lst F,.int a,.int b,.int c,.int d,.int e,.int f,.int h,.int m,.int i,.int g,.str n,.bool z,.str v]=>U32 i/\U32 g/\(z=true->v=[])/\gK L F [a,b,c,d,e,f,h,m]|_=>False
def aL :Ar->Ar->Prop
 | [.lst L,.lst F,.int a,.int b,.int c,.int d,.int e,.int f,.int h,.int m,.int i,.int g,.str n,.bool z,.str v],[.lst L',.lst F',.int a',.int b',.int c',.int d',.int e',.int f',.int h',.int m',.int r]=>
  cG L F [a,b,c,d,e,f,h,m] L' F' [a',b',c',d',e',f',h',m'] fun D=>((U6 D i g ⟨n,z,v⟩ (if z=true then 17 else 1)).1,r=(U6 D i g ⟨n,z,v⟩ (if z=true then 17 else 1)).2)
 |_,_=>False
def cRatt:=mkO "ratt" [hV,.agg [.g .str,.g .bool,.g .str]] sC aL
def BA:=AK
def vD:=cV
def cRap:=mkC "rap" [alV,.one (.g (.lst 124))] BA [alV,iV] vD
def BQ :Ar->Prop
 | [.lst L,.lst F,.int a,.int b,.int c,.int d,.int e,.int f,.int h,.int m,.int i,.int g,.str s]=>U32 i/\U32 g/\gK L F [a,b,c,d,e,f,h,m]|_=>False
def nB :Ar->Ar->Prop
 | [.lst L,.lst F,.int a,.int b,.int c,.int d,.int e,.int f,.int h,.int m,.int i,.int g,.str s],[.lst L',.lst F',.int a',.int b',.int c',.int d',.int e',.int f',.int h',.int m',.int r]=>
  cG L F [a,b,c,d,e,f,h,m] L' F' [a',b',c',d',e',f',h',m'] fun D=>((aR D i g s).1,r=(aR D i g s).2)
 |_,_=>False
def cRtxt:=mkO "rtxt" [hV,sV] BQ nB
def BO :Ar->Prop
 | [.lst L,.lst F,.int a,.int b,.int c,.int d,.int e,.int f,.int h,.int m,.int i,.int g,.int _,.int _,.bool _]=>U32 i/\U32 g/\gK L F [a,b,c,d,e,f,h,m]|_=>False
def mX :Ar->Ar->Prop
 | [.lst L,.lst F,.int a,.int b,.int c,.int d,.int e,.int f,.int h,.int m,.int i,.int g,.int t,.int z,.bool p],[.lst L',.lst F',.int a',.int b',.int c',.int d',.int e',.int f',.int h',.int m',.int r]=>
  cG L F [a,b,c,d,e,f,h,m] L' F' [a',b',c',d',e',f',h',m'] fun D=>((mS D i g t z p).1,r=(mS D i g t z p).2)
 |_,_=>False
def cRplk:=mkO "rplk" [hV,iV,iV,bV] BO mX
def sI :Ar->Prop
 | [.lst L,.lst F,.int a,.int b,.int c,.int d,.int e,.int f,.int h,.int m,.int i,.int g]=>U32 i/\U32 g/\gK L F [a,b,c,d,e,f,h,m]|_=>False
def nA :Ar->Ar->Prop
 | [.lst L,.lst F,.int a,.int b,.int c,.int d,.int e,.int f,.int h,.int m,.int i,.int g],[.lst L',.lst F',.int a',.int b',.int c',.int d',.int e',.int f',.int h',.int m',.int r]=>
  cG L F [a,b,c,d,e,f,h,m] L' F' [a',b',c',d',e',f',h',m'] fun D=>((kR D i g).1,r=(kR D i g).2)
 |_,_=>False
def cRrem:=mkO "rrem" [hV] sI nA
def Gr :Ar->Prop
 | [.lst L,.lst F,.int a,.int b,.int c,.int d,.int e,.int f,.int h,.int m,.int i,.int g,.int x,.int y]=>U32 i/\U32 g/\U32 x/\U32 y/\gK L F [a,b,c,d,e,f,h,m]|_=>False
def pH :Ar->Ar->Prop
 | [.lst L,.lst F,.int a,.int b,.int c,.int d,.int e,.int f,.int h,.int m,.int i,.int g,.int x,.int y],[.lst L',.lst F',.int a',.int b',.int c',.int d',.int e',.int f',.int h',.int m',.int r]=>
  cG L F [a,b,c,d,e,f,h,m] L' F' [a',b',c',d',e',f',h',m'] fun D=>((cE D i g x y).1,r=(cE D i g x y).2)
 |_,_=>False
def cRmv:=mkO "rmv" [hV,hV] Gr pH
def BG :Ar->Prop
 | [.lst L,.lst F,.int a,.int b,.int c,.int d,.int e,.int f,.int h,.int m,.int i,.int g,.int j,.int k,.int x,.int y]=>U32 i/\U32 g/\U32 j/\U32 k/\U32 x/\U32 y/\gK L F [a,b,c,d,e,f,h,m]|_=>False
def kS :Ar->Ar->Prop
 | [.lst L,.lst F,.int a,.int b,.int c,.int d,.int e,.int f,.int h,.int m,.int i,.int g,.int j,.int k,.int x,.int y],[.lst L',.lst F',.int a',.int b',.int c',.int d',.int e',.int f',.int h',.int m',.int r]=>
  cG L F [a,b,c,d,e,f,h,m] L' F' [a',b',c',d',e',f',h',m'] fun D=>((dD D i g j k x y).1,r=(dD D i g j k x y).2)
 |_,_=>False
def cRns:=mkO "rns" [hV,hV,hV] BG kS
def rN (L:Sx.Rows):Nat->Int->Nat
 |0,_=>0|f+1,k=>if k<0 then 0 else rN L f (cI L k 9)+1
def gM :Ar->Ar->Prop
 | [.lst L,.int p,.int c],[.int k]=>∀D K,L=D.L.map Sl.row->WF D K-> ∀q d:Nat,p=q->c=d->(∃s,D.L[q]? =some s/\s.used=true)->(k= -1/\ ¬Abv D d q)\/ ∃(b:Nat) (s:Sl),k=b/\D.L[b]? =some s/\s.used=true/\(Abv D d q↔Abv D d b)|_,_=>False
def Ml :Ar->Ar->Nat
 | [.lst L,_,_],[.int k]=>rN L 1002 k|_,_=>0
def kP :Ar->Ar->Prop
 | [.lst L,.lst E],[.int i,.lst O]=>0<=i/\i<=1/\ ∀(l:List Att) (e:Ed),L=l.map Att.row->E=[e.row]->(i=0->O=L)/\(i=1->bad1 l e=false/\O=(O6 l e).map Att.row)|_,_=>False
def gJ :Ar->Ar->Nat
 |_,.int i::_=>(1-i).toNat|_,_=>0
def W7 :Ay->List (Nat×(Fm->SS->H6))
 |71=>[(0,D5 U0 "rup" (D9 [(14,.int .i64)] nob) (gh2 (z5 4 0) (gh2 (l8 10) (l8 11))) gM Ml)]
 |131=>[(0,D5 U0 "rap" (D9 [(7,.int .i64),(6,.lst rQ)] nob) (gh2 (l8 0) (l8 1)) kP gJ)]
 |f=>W8 f
def bJ :Nat->List (Ay×Con)
 |n=>[(126,cRname),(127,cRstr),(128,cRat),(29,cRcp),(133,cRpl),(134,cRput),(135,cRwit),(129,cFnd),(151,cRins)]++(if n=0 then []else [(131,cRap)])++ [(LVn,cYes "lives")]
def gI :Nat->Aw->F8:=bE
def DM.Us (D:DM)(c:Nat):Prop:=∃s,D.L[c]? =some s/\s.used=true
def sD :Ar->Prop
 | [.lst L,.lst F,.int a,.int b,.int c,.int d,.int e,.int f,.int h,.int m,.int i]=>∃(D:DM) (K c':Nat),Rf D L F [a,b,c,d,e,f,h,m]/\WF D K/\i=c'/\D.Us c'|_=>False
def sE :Ar->Ar->Prop
 | [.lst L,.lst F,.int a,.int b,.int c,.int d,.int e,.int f,.int h,.int m,.int i],[.lst O]=>∀(D:DM) (K c':Nat),L=D.L.map Sl.row->WF D K->i=c'->D.Us c'->O=(bel D 1001 c').map l9|_,_=>False
def II (L:Sx.Rows):Nat->Int->Nat
 |0,_=>1|f+1,i=>1+((cL L i 10).map fun r=>II L f (r.getD 0 (.int 0)).toInt).sum
def pD :Ar->Nat
 | .lst L::_::_::_::_::_::_::_::_::_:: .int i::_=>II L 1001 i|_=>0
def cRbel:=mkC "rbel" [rfV,iV] sD [ilV] sE
def aM :Ar->Prop
 | [.lst L,.lst F,.int a,.int b,.int c,.int d,.int e,.int f,.int h,.int m,.int i,.int n]=>0<=n/\n<=6/\ ∃(D:DM) (K c':Nat),Rf D L F [a,b,c,d,e,f,h,m]/\WF D K/\i=c'/\D.Us c'|_=>False
def dQ :Ar->Ar->Prop
 | [.lst L,.lst F,.int a,.int b,.int c,.int d,.int e,.int f,.int h,.int m,.int i,.int n],[.int k,.str t,.str y,.lst at',.str x,.lst ch]=>∀(D:DM) (K c':Nat),L=D.L.map Sl.row->WF D K->i=c'->D.Us c'->isT (dZ D n.toNat c') k t y at' x ch|_,_=>False
def vN :Ar->Nat
 | [_,_,_,_,_,_,_,_,_,_,_,.int n]=>n.toNat|_=>0
def cRtre:=mkC "rtre" [rfV,iV,iV] aM [nV] dQ
def BF:=sI
def mU :Ar->Ar->Prop
 | [.lst L,.lst F,.int a,.int b,.int c,.int d,.int e,.int f,.int h,.int m,.int i,.int g],[.lst L',.lst F',.int a',.int b',.int c',.int d',.int e',.int f',.int h',.int m',.int r]=>
  cG L F [a,b,c,d,e,f,h,m] L' F' [a',b',c',d',e',f',h',m'] fun D=>((fU D i g).1,r=(fU D i g).2)
 |_,_=>False
def cRfre:=mkO "rfre" [hV] BF mU
def BB :Ar->Ar->Prop
 | [.lst L,.int i],[.int k,.lst O]=>0<=k/\ ∀(D:DM) (K c:Nat) s,L=D.L.map Sl.row->WF D K->i=c->D.L[c]? =some s->s.used=true->k<=s.n.ch.length/\O=(c::(s.n.ch.take k.toNat).flatMap (bel D 1001)).map l9|_,_=>False
def Ma :Ar->Ar->Nat
 | [.lst L,.int i],.int k::_=>((cL L i 10).length-k).toNat|_,_=>0
def BP :Ar->Ar->Prop
 | [.lst L,.int i,.int n,.lst C],[.int j,.int k,.str t,.str y,.lst a,.str x,.lst O]=>0<=j/\j<=C.length/\(O.length:Int)=j/\ ∀(D:DM) (K c:Nat) s,L=D.L.map Sl.row->WF D K->i=c->D.L[c]? =some s->s.used=true->C=s.n.ch.map l9/\k=s.n.kind/\t=s.n.tag/\y=[]/\a=s.n.atts.map Att.row/\x=s.n.text/\O=rows ((s.n.ch.take j.toNat).map (dZ D (n.toNat-1)))|_,_=>False
def Mk :Ar->Ar->Nat
 | [_,_,_,.lst C],.int j::_=>(C.length-j).toNat|_,_=>0
def pF :Ar->Ar->Prop
 | [.lst X,.lst L,.lst F,.int c0,.int c1,.int c2,.int c3,.int c4,.int c5,.int c6,.int c7],[.int k,.lst L',.lst F',.int d0,.int d1,.int d2,.int d3,.int d4,.int d5,.int d6,.int d7]=>
  0<=k/\k<=X.length/\[d0,d1,d2,d3,d4,d5,d6,d7]=[c0-k,c1,c2+k,c3,c4,c5,c6,c7]/\ ∀(D:DM) (l:Ah),L=D.L.map Sl.row->F=D.free.map l9->l.Nodup->(∀b∈l,D.Us b)->X=l.map l9->L'=((l.take k.toNat).foldl B1 D).L.map Sl.row/\F'=((l.take k.toNat).foldl B1 D).free.map l9
 |_,_=>False
def DX :Ar->Ar->Nat
 | .lst X::_,.int k::_=>(X.length-k).toNat|_,_=>0
def yE :Ay->List (Nat×(Fm->SS->H6))
 |136=>[(0,D5 U0 "rbl" (D9 [(6,.int .i64),(5,.acc wM 1)] nob) (gh2 (z5 2 0) (l8 1)) BB Ma)]
 |79=>[(0,D5 U0 "rtl" (D9 [(9,.int .i64)] (H7 8 [.int .u8,.str,.str,.lst rQ,.str,.acc 40 6])) (gh2 (gh2 (z5 3 0) (l8 1)) (gh2 (l8 2) (z5 7 8))) BP Mk)]
 |75=>[(0,D5 U0 "rfl" (D9 [(9,.int .i64)] (H7 7 (.acc tRS 11:: .lst wM::g8))) (gh2 (l8 8) (gh2 (z5 2 0) (ghDC 2))) pF DX)]
 |f=>W8 f
def Cn :Nat->List (Ay×Con)
 |0=>[(LVn,cYes "lives")]
 |_=>[(128,cRat),(29,cRcp),(136,cRbel),(LVn,cYes "lives")]
def Gm :Nat->Aw->F8:=bE
abbrev Pe :Ax:=66
def HOK (H:Sx.Rows):Prop:=∀r∈H,∃i g:Int,r=[.int i,.int g]/\U32 i/\U32 g
def BI (K:Nat)(L F:Sx.Rows)(bs:Ak)(H S:Sx.Rows)(fr lv:Int)(cs:Ak)(N:Sx.Rows):Prop:=∃D,Rf D L F bs/\RlC D S N fr lv cs/\WF D K/\HOK H/\H.length<=K
def botL :List Lf:= .ptr 1 13:: .g (.lst tRS):: .g (.lst wM)::(i8++ [.g (.acc tHd 2)])
def Ky :List bN:=(Pe,12,botL)::oM
def botF :As->SS->Bb (Ah):=fun args s=>match args with
 | .ptr b _ _ _::_=>match s.get b with
  |some (.cells (.ptr d _ _ _::_) _ _)=>match rgB s with
   |some r=>some [b,d,r]|none=>none
  |_=>none
 |_=>none
def pV :Vs:= .one (.ptr 0 12)
def mkBR (n:String)(args:List Vs)(pre:Ar->Prop)(res:List Vs)(rel:Ar->Ar->Prop):Con:=mkR n (pV::args) Ky botF pre res rel
def uW :Ar->Prop
 | [.int n,.lst L,.lst F,.int _,.int _,.int _,.int _,.int _,.int _,.int _,.int _,.lst H,.lst S,.int fr,.int lv,.int _,.int _,.int _,.int _,.int _,.int _,.int _,.int _,.lst _,.lst N]=>0<=n/\n<256/\HOK H|_=>False
def bD :Ar->Ar->Prop
 |_,[.int i,.int g]=>U32 i/\U32 g|_,_=>False
def cPck:=mkBR "pck" [uV] uW [hV] bD
def Iz :Ar->Prop
 | [.int n]=>0<=n/\n<256|_=>False
def Pk :Ar->Ar->Prop:=fun _ _=>True
def Cq:=Iz
def Cr:=Pk
def nmsF (n:Int):Str:=cS (b8 1 5 [.str [99,108,97,115,115],.str [105,100],.str [120],.str [121],.str [90]]) (n.tmod 5) 0
def txtF (n:Int):Str:=cS (b8 1 4 [.str [],.str [104,105],.str [126],.str [0]]) (n.tmod 4) 0
def oY:=Iz
def oZ :Ar->Ar->Prop
 | [.int n],[.str s]=>s=nmsF n|_,_=>False
def gV:=Iz
def lB :Ar->Ar->Prop
 | [.int n],[.str s]=>s=txtF n|_,_=>False
def cTag:=mkC "tag" [uV] Cq [sV] Cr
def cNms:=mkC "nms" [uV] oY [sV] oZ
def cTxt:=mkC "txt" [uV] gV [sV] lB
def aY :Ar->Prop
 | .lst P:: .lst X:: .lst L::_=>∃l:Ah,X=l.map l9/\P=l.map (fun j:Nat=>[Dat.int j,.int (cI L j 0)])/\(∀j∈l,j<L.length)/\l.length<=1000/\L.length<=1000|_=>False
def dB :Ar->Ar->Prop
 |_,[.int r]=>r=1|_,_=>False
def cHnd:=mkBR "hnd" [.one (.g (.clp tHd)),ilV] aY [iV] dB
def fI :Ar->Prop
 | [.lst A,.lst B]=>∃l m:List Att,A=l.map Att.row/\B=m.map Att.row/\l.length<=8|_=>False
def Y6 :Ar->Ar->Prop
 | [.lst A,.lst B],[.int r]=>(A=B->r=1)/\(A≠B->r=0)|_,_=>False
def cAsm:=mkC "asm" [alV,alV] fI [iV] Y6
def oR :Ar->Ar->Prop
 | [.lst P,.lst X,.lst L],[.int k]=>0<=k/\k<=P.length|_,_=>False
def tV:=B6
def AM :Ar->Ar->Prop
 | [.lst A,.lst B],[.int k]=>0<=k/\k<=A.length/\A.length=B.length/\A.take k.toNat=B.take k.toNat|_,_=>False
def Kt:=B6
def eO :Ay->List (Nat×(Fm->SS->H6))
 |78=>[(0,D5 U0 "hnl" (D9 [(7,.int .i64)] nob) (gh2 (l8 1) (gh2 (l8 2) (z5 0 1))) oR B6)]
 |77=>[(0,D5 U0 "asl" (D9 [(5,.int .i64)] nob) (gh2 (l8 0) (l8 1)) AM B6)]
 |_=>[]
def pR :Nat->List (Ay×Con)
 |_=>[(LVn,cYes "lives")]
def pC :Nat->Aw->F8:=bE
