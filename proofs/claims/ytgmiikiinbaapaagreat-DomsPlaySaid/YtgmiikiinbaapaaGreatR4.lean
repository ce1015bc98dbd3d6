/- The reference's DOM: contracts of its calls: Create, Attr, Text, Insert, Remove, Move, Place.
  Conditions: none. -/
import Derived.Test.YtgmiikiinbaapaaGreatJ1
set_option linter.all false
noncomputable section
namespace Go.D
open Go Go.Xe Go.Sx
def mkO (n:String)(args:List Vs)(pre:Ar->Prop)(rel:Ar->Ar->Prop):Con:=mkC n (rfV::args) pre [rfV,iV] rel
def qH :Ar->Prop
 | [.lst L,.lst F,.int a,.int b,.int c,.int d,.int e,.int f,.int h,.int m,.int k,.str s]=>(k=1\/k=2)/\eU L F [a,b,c,d,e,f,h,m]|_=>False
def J0 :Ar->Ar->Prop
 | [.lst L,.lst F,.int a,.int b,.int c,.int d,.int e,.int f,.int h,.int m,.int k,.str s],[.lst L',.lst F',.int a',.int b',.int c',.int d',.int e',.int f',.int h',.int m',.int i,.int g,.int r]=>
  aX L F [a,b,c,d,e,f,h,m] L' F' [a',b',c',d',e',f',h',m'] fun D=>((O6 D k (if k=1 then s else []) (if k=1 then []else s)).1,(i,g,r)=(O6 D k (if k=1 then s else []) (if k=1 then []else s)).2)
 |_,_=>False
def cRcre:=mkC "rcre" [rfV,uV,sV] qH [rfV,hV,iV] J0
def qE :Ar->Prop
 | [.lst L,.lst F,.int a,.int b,.int c,.int d,.int e,.int f,.int h,.int m,.int i,.int g,.str n,.bool z,.str v]=>U32 i/\U32 g/\(z=true->v=[])/\eU L F [a,b,c,d,e,f,h,m]|_=>False
def Y1 :Ar->Ar->Prop
 | [.lst L,.lst F,.int a,.int b,.int c,.int d,.int e,.int f,.int h,.int m,.int i,.int g,.str n,.bool z,.str v],[.lst L',.lst F',.int a',.int b',.int c',.int d',.int e',.int f',.int h',.int m',.int r]=>
  aX L F [a,b,c,d,e,f,h,m] L' F' [a',b',c',d',e',f',h',m'] fun D=>((R0 D i g ⟨n,z,v⟩ (if z=true then 17 else 1)).1,r=(R0 D i g ⟨n,z,v⟩ (if z=true then 17 else 1)).2)
 |_,_=>False
def cRatt:=mkO "ratt" [hV,.agg [.g .str,.g .bool,.g .str]] qE Y1
def zY:=yM
def sZ:=bJ
def cRap:=mkC "rap" [alV,.one (.g (.lst 124))] zY [alV,iV] sZ
def AI :Ar->Prop
 | [.lst L,.lst F,.int a,.int b,.int c,.int d,.int e,.int f,.int h,.int m,.int i,.int g,.str s]=>U32 i/\U32 g/\eU L F [a,b,c,d,e,f,h,m]|_=>False
def lC :Ar->Ar->Prop
 | [.lst L,.lst F,.int a,.int b,.int c,.int d,.int e,.int f,.int h,.int m,.int i,.int g,.str s],[.lst L',.lst F',.int a',.int b',.int c',.int d',.int e',.int f',.int h',.int m',.int r]=>
  aX L F [a,b,c,d,e,f,h,m] L' F' [a',b',c',d',e',f',h',m'] fun D=>((Y7 D i g s).1,r=(Y7 D i g s).2)
 |_,_=>False
def cRtxt:=mkO "rtxt" [hV,sV] AI lC
def AG :Ar->Prop
 | [.lst L,.lst F,.int a,.int b,.int c,.int d,.int e,.int f,.int h,.int m,.int i,.int g,.int _,.int _,.bool _]=>U32 i/\U32 g/\eU L F [a,b,c,d,e,f,h,m]|_=>False
def kY :Ar->Ar->Prop
 | [.lst L,.lst F,.int a,.int b,.int c,.int d,.int e,.int f,.int h,.int m,.int i,.int g,.int t,.int z,.bool p],[.lst L',.lst F',.int a',.int b',.int c',.int d',.int e',.int f',.int h',.int m',.int r]=>
  aX L F [a,b,c,d,e,f,h,m] L' F' [a',b',c',d',e',f',h',m'] fun D=>((kT D i g t z p).1,r=(kT D i g t z p).2)
 |_,_=>False
def cRplk:=mkO "rplk" [hV,iV,iV,bV] AG kY
def qL :Ar->Prop
 | [.lst L,.lst F,.int a,.int b,.int c,.int d,.int e,.int f,.int h,.int m,.int i,.int g]=>U32 i/\U32 g/\eU L F [a,b,c,d,e,f,h,m]|_=>False
def lB :Ar->Ar->Prop
 | [.lst L,.lst F,.int a,.int b,.int c,.int d,.int e,.int f,.int h,.int m,.int i,.int g],[.lst L',.lst F',.int a',.int b',.int c',.int d',.int e',.int f',.int h',.int m',.int r]=>
  aX L F [a,b,c,d,e,f,h,m] L' F' [a',b',c',d',e',f',h',m'] fun D=>((iZ D i g).1,r=(iZ D i g).2)
 |_,_=>False
def cRrem:=mkO "rrem" [hV] qL lB
def EZ :Ar->Prop
 | [.lst L,.lst F,.int a,.int b,.int c,.int d,.int e,.int f,.int h,.int m,.int i,.int g,.int x,.int y]=>U32 i/\U32 g/\U32 x/\U32 y/\eU L F [a,b,c,d,e,f,h,m]|_=>False
def nK :Ar->Ar->Prop
 | [.lst L,.lst F,.int a,.int b,.int c,.int d,.int e,.int f,.int h,.int m,.int i,.int g,.int x,.int y],[.lst L',.lst F',.int a',.int b',.int c',.int d',.int e',.int f',.int h',.int m',.int r]=>
  aX L F [a,b,c,d,e,f,h,m] L' F' [a',b',c',d',e',f',h',m'] fun D=>((aU D i g x y).1,r=(aU D i g x y).2)
 |_,_=>False
def cRmv:=mkO "rmv" [hV,hV] EZ nK
def AA :Ar->Prop
 | [.lst L,.lst F,.int a,.int b,.int c,.int d,.int e,.int f,.int h,.int m,.int i,.int g,.int j,.int k,.int x,.int y]=>U32 i/\U32 g/\U32 j/\U32 k/\U32 x/\U32 y/\eU L F [a,b,c,d,e,f,h,m]|_=>False
def jA :Ar->Ar->Prop
 | [.lst L,.lst F,.int a,.int b,.int c,.int d,.int e,.int f,.int h,.int m,.int i,.int g,.int j,.int k,.int x,.int y],[.lst L',.lst F',.int a',.int b',.int c',.int d',.int e',.int f',.int h',.int m',.int r]=>
  aX L F [a,b,c,d,e,f,h,m] L' F' [a',b',c',d',e',f',h',m'] fun D=>((bR D i g j k x y).1,r=(bR D i g j k x y).2)
 |_,_=>False
def cRns:=mkO "rns" [hV,hV,hV] AA jA
def pS (L:Sx.Rows):Nat->Int->Nat
 |0,_=>0|f+1,k=>if k<0 then 0 else pS L f (cI L k 9)+1
def eZ :Ar->Ar->Prop
 | [.lst L,.int p,.int c],[.int k]=>∀D K,L=D.L.map Sl.row->WF D K-> ∀q d:Nat,p=q->c=d->(∃s,D.L[q]? =some s/\s.used=true)->(k= -1/\ ¬Abv D d q)\/ ∃(b:Nat) (s:Sl),k=b/\D.L[b]? =some s/\s.used=true/\(Abv D d q↔Abv D d b)|_,_=>False
def KC :Ar->Ar->Nat
 | [.lst L,_,_],[.int k]=>pS L 1002 k|_,_=>0
def iX :Ar->Ar->Prop
 | [.lst L,.lst E],[.int i,.lst O]=>0<=i/\i<=1/\ ∀(l:List Att) (e:Ed),L=l.map Att.row->E=[e.row]->(i=0->O=L)/\(i=1->bad1 l e=false/\O=(L5 l e).map Att.row)|_,_=>False
def eT :Ar->Ar->Nat
 |_,.int i::_=>(1-i).toNat|_,_=>0
def T6 :Ay->List (Nat×(Fm->SS->G5))
 |71=>[(0,G1 U0 "rup" (G9 [(14,.int .i64)] nob) (gh2 (A0 4 0) (gh2 (m8 10) (m8 11))) eZ KC)]
 |131=>[(0,G1 U0 "rap" (G9 [(7,.int .i64),(6,.lst Bf)] nob) (gh2 (m8 0) (m8 1)) iX eT)]
 |f=>T7 f
def aD :Nat->List (Ay×Con)
 |n=>[(126,cRname),(127,cRstr),(128,cRat),(29,cRcp),(133,cRpl),(134,cRput),(135,cRwit),(129,cFnd),(151,cRins)]++(if n=0 then []else [(131,cRap)])++ [(LVn,cYes "lives")]
def eS :Nat->Aw->E8:=Z8
end Go.D
noncomputable section
namespace Go.D
open Go Go.Xe Go.Sx
def DM.Us (D:DM)(c:Nat):Prop:=∃s,D.L[c]? =some s/\s.used=true
def qF :Ar->Prop
 | [.lst L,.lst F,.int a,.int b,.int c,.int d,.int e,.int f,.int h,.int m,.int i]=>∃(D:DM) (K c':Nat),Rf D L F [a,b,c,d,e,f,h,m]/\WF D K/\i=c'/\D.Us c'|_=>False
def qG :Ar->Ar->Prop
 | [.lst L,.lst F,.int a,.int b,.int c,.int d,.int e,.int f,.int h,.int m,.int i],[.lst O]=>∀(D:DM) (K c':Nat),L=D.L.map Sl.row->WF D K->i=c'->D.Us c'->O=(bel D 1001 c').map A3|_,_=>False
def Ht (L:Sx.Rows):Nat->Int->Nat
 |0,_=>1|f+1,i=>1+((cL L i 10).map fun r=>Ht L f (r.getD 0 (.int 0)).toInt).sum
def nG :Ar->Nat
 | .lst L::_::_::_::_::_::_::_::_::_:: .int i::_=>Ht L 1001 i|_=>0
def cRbel:=mkC "rbel" [rfV,iV] qF [ilV] qG
def Y2 :Ar->Prop
 | [.lst L,.lst F,.int a,.int b,.int c,.int d,.int e,.int f,.int h,.int m,.int i,.int n]=>0<=n/\n<=6/\ ∃(D:DM) (K c':Nat),Rf D L F [a,b,c,d,e,f,h,m]/\WF D K/\i=c'/\D.Us c'|_=>False
def cG :Ar->Ar->Prop
 | [.lst L,.lst F,.int a,.int b,.int c,.int d,.int e,.int f,.int h,.int m,.int i,.int n],[.int k,.str t,.str y,.lst at',.str x,.lst ch]=>∀(D:DM) (K c':Nat),L=D.L.map Sl.row->WF D K->i=c'->D.Us c'->isT (cQ D n.toNat c') k t y at' x ch|_,_=>False
def tK :Ar->Nat
 | [_,_,_,_,_,_,_,_,_,_,_,.int n]=>n.toNat|_=>0
def cRtre:=mkC "rtre" [rfV,iV,iV] Y2 [nV] cG
def Ap:=qL
def kV :Ar->Ar->Prop
 | [.lst L,.lst F,.int a,.int b,.int c,.int d,.int e,.int f,.int h,.int m,.int i,.int g],[.lst L',.lst F',.int a',.int b',.int c',.int d',.int e',.int f',.int h',.int m',.int r]=>
  aX L F [a,b,c,d,e,f,h,m] L' F' [a',b',c',d',e',f',h',m'] fun D=>((eE D i g).1,r=(eE D i g).2)
 |_,_=>False
def cRfre:=mkO "rfre" [hV] Ap kV
def zZ :Ar->Ar->Prop
 | [.lst L,.int i],[.int k,.lst O]=>0<=k/\ ∀(D:DM) (K c:Nat) s,L=D.L.map Sl.row->WF D K->i=c->D.L[c]? =some s->s.used=true->k<=s.n.ch.length/\O=(c::(s.n.ch.take k.toNat).flatMap (bel D 1001)).map A3|_,_=>False
def Ks :Ar->Ar->Nat
 | [.lst L,.int i],.int k::_=>((cL L i 10).length-k).toNat|_,_=>0
def AH :Ar->Ar->Prop
 | [.lst L,.int i,.int n,.lst C],[.int j,.int k,.str t,.str y,.lst a,.str x,.lst O]=>0<=j/\j<=C.length/\(O.length:Int)=j/\ ∀(D:DM) (K c:Nat) s,L=D.L.map Sl.row->WF D K->i=c->D.L[c]? =some s->s.used=true->C=s.n.ch.map A3/\k=s.n.kind/\t=s.n.tag/\y=[]/\a=s.n.atts.map Att.row/\x=s.n.text/\O=rows ((s.n.ch.take j.toNat).map (cQ D (n.toNat-1)))|_,_=>False
def KB :Ar->Ar->Nat
 | [_,_,_,.lst C],.int j::_=>(C.length-j).toNat|_,_=>0
def nI :Ar->Ar->Prop
 | [.lst X,.lst L,.lst F,.int c0,.int c1,.int c2,.int c3,.int c4,.int c5,.int c6,.int c7],[.int k,.lst L',.lst F',.int d0,.int d1,.int d2,.int d3,.int d4,.int d5,.int d6,.int d7]=>
  0<=k/\k<=X.length/\[d0,d1,d2,d3,d4,d5,d6,d7]=[c0-k,c1,c2+k,c3,c4,c5,c6,c7]/\ ∀(D:DM) (l:Ah),L=D.L.map Sl.row->F=D.free.map A3->l.Nodup->(∀b∈l,D.Us b)->X=l.map A3->L'=((l.take k.toNat).foldl z7 D).L.map Sl.row/\F'=((l.take k.toNat).foldl z7 D).free.map A3
 |_,_=>False
def CP :Ar->Ar->Nat
 | .lst X::_,.int k::_=>(X.length-k).toNat|_,_=>0
def vZ :Ay->List (Nat×(Fm->SS->G5))
 |136=>[(0,G1 U0 "rbl" (G9 [(6,.int .i64),(5,.acc uJ 1)] nob) (gh2 (A0 2 0) (m8 1)) zZ Ks)]
 |79=>[(0,G1 U0 "rtl" (G9 [(9,.int .i64)] (I9 8 [.int .u8,.str,.str,.lst Bf,.str,.acc 40 6])) (gh2 (gh2 (A0 3 0) (m8 1)) (gh2 (m8 2) (A0 7 8))) AH KB)]
 |75=>[(0,G1 U0 "rfl" (G9 [(9,.int .i64)] (I9 7 (.acc tRS 11:: .lst uJ::g8))) (gh2 (m8 8) (gh2 (A0 2 0) (ghDC 2))) nI CP)]
 |f=>T7 f
def Bd :Nat->List (Ay×Con)
 |0=>[(LVn,cYes "lives")]
 |_=>[(128,cRat),(29,cRcp),(136,cRbel),(LVn,cYes "lives")]
def ET :Nat->Aw->E8:=Z8
end Go.D
