/- The reference's DOM: contracts of its calls: Create, Attr, Text, Insert, Remove, Move, Place.
  Conditions: none. -/
import Derived.Test.YtoegfalhkackeaaGreatG3
set_option linter.all false
noncomputable section
namespace Go.D
open Go Go.Xe Go.Sx
def mkO (n:String)(args:List Vs)(pre:Ar->Prop)(rel:Ar->Ar->Prop):Con:=mkC n (rfV::args) pre [rfV,iV] rel
def sH :Ar->Prop
 | [.l L,.l F,.i a,.i b,.i c,.i d,.i e,.i f,.i h,.i m,.i k,.s s]=>(k=1\/k=2)/\gR L F [a,b,c,d,e,f,h,m]|_=>False
def L3 :Ar->Ar->Prop
 | [.l L,.l F,.i a,.i b,.i c,.i d,.i e,.i f,.i h,.i m,.i k,.s s],[.l L',.l F',.i a',.i b',.i c',.i d',.i e',.i f',.i h',.i m',.i i,.i g,.i r]=>
  cQ L F [a,b,c,d,e,f,h,m] L' F' [a',b',c',d',e',f',h',m'] λD=>((I6 D k (if k=1 then s else []) (if k=1 then []else s)).1,(i,g,r)=(I6 D k (if k=1 then s else []) (if k=1 then []else s)).2)
 |_,_=>False
def zr:=mkC "rcre" [rfV,uV,sV] sH [rfV,hV,iV] L3
def sG :Ar->Prop
 | [.l L,.l F,.i a,.i b,.i c,.i d,.i e,.i f,.i h,.i m,.i i,.i g,.s n,.b z,.s v]=>U32 i/\U32 g/\(z=true->v=[])/\gR L F [a,b,c,d,e,f,h,m]|_=>False
def aP :Ar->Ar->Prop
 | [.l L,.l F,.i a,.i b,.i c,.i d,.i e,.i f,.i h,.i m,.i i,.i g,.s n,.b z,.s v],[.l L',.l F',.i a',.i b',.i c',.i d',.i e',.i f',.i h',.i m',.i r]=>
  cQ L F [a,b,c,d,e,f,h,m] L' F' [a',b',c',d',e',f',h',m'] λD=>((R9 D i g ⟨n,z,v⟩ (if z=true then 17 else 1)).1,r=(R9 D i g ⟨n,z,v⟩ (if z=true then 17 else 1)).2)
 |_,_=>False
def zt:=mkO "ratt" [hV,.agg [.g .str,.g .bool,.g .str]] sG aP
def Ce:=Bi
def vF:=dE
def Wy:=mkC "rap" [alV,.one (.g (.lst 150))] Ce [alV,iV] vF
def Ct :Ar->Prop
 | [.l L,.l F,.i a,.i b,.i c,.i d,.i e,.i f,.i h,.i m,.i i,.i g,.s s]=>U32 i/\U32 g/\gR L F [a,b,c,d,e,f,h,m]|_=>False
def nI :Ar->Ar->Prop
 | [.l L,.l F,.i a,.i b,.i c,.i d,.i e,.i f,.i h,.i m,.i i,.i g,.s s],[.l L',.l F',.i a',.i b',.i c',.i d',.i e',.i f',.i h',.i m',.i r]=>
  cQ L F [a,b,c,d,e,f,h,m] L' F' [a',b',c',d',e',f',h',m'] λD=>((aU D i g s).1,r=(aU D i g s).2)
 |_,_=>False
def zn:=mkO "rtxt" [hV,sV] Ct nI
def Cr :Ar->Prop
 | [.l L,.l F,.i a,.i b,.i c,.i d,.i e,.i f,.i h,.i m,.i i,.i g,.i _,.i _,.b _]=>U32 i/\U32 g/\gR L F [a,b,c,d,e,f,h,m]|_=>False
def nE :Ar->Ar->Prop
 | [.l L,.l F,.i a,.i b,.i c,.i d,.i e,.i f,.i h,.i m,.i i,.i g,.i t,.i z,.b p],[.l L',.l F',.i a',.i b',.i c',.i d',.i e',.i f',.i h',.i m',.i r]=>
  cQ L F [a,b,c,d,e,f,h,m] L' F' [a',b',c',d',e',f',h',m'] λD=>((mY D i g t z p).1,r=(mY D i g t z p).2)
 |_,_=>False
def zp:=mkO "rplk" [hV,iV,iV,bV] Cr nE
def nH :Ar->Prop
 | [.l L,.l F,.i a,.i b,.i c,.i d,.i e,.i f,.i h,.i m,.i i,.i g]=>U32 i/\U32 g/\gR L F [a,b,c,d,e,f,h,m]|_=>False
def iU :Ar->Ar->Prop
 | [.l L,.l F,.i a,.i b,.i c,.i d,.i e,.i f,.i h,.i m,.i i,.i g],[.l L',.l F',.i a',.i b',.i c',.i d',.i e',.i f',.i h',.i m',.i r]=>
  cQ L F [a,b,c,d,e,f,h,m] L' F' [a',b',c',d',e',f',h',m'] λD=>((V3 D i g).1,r=(V3 D i g).2)
 |_,_=>False
def mz:=mkO "rrem" [hV] nH iU
def GR :Ar->Prop
 | [.l L,.l F,.i a,.i b,.i c,.i d,.i e,.i f,.i h,.i m,.i i,.i g,.i x,.i y]=>U32 i/\U32 g/\U32 x/\U32 y/\gR L F [a,b,c,d,e,f,h,m]|_=>False
def pN :Ar->Ar->Prop
 | [.l L,.l F,.i a,.i b,.i c,.i d,.i e,.i f,.i h,.i m,.i i,.i g,.i x,.i y],[.l L',.l F',.i a',.i b',.i c',.i d',.i e',.i f',.i h',.i m',.i r]=>
  cQ L F [a,b,c,d,e,f,h,m] L' F' [a',b',c',d',e',f',h',m'] λD=>((cN D i g x y).1,r=(cN D i g x y).2)
 |_,_=>False
def Wv:=mkO "rmv" [hV,hV] GR pN
def Ck :Ar->Prop
 | [.l L,.l F,.i a,.i b,.i c,.i d,.i e,.i f,.i h,.i m,.i i,.i g,.i j,.i k,.i x,.i y]=>U32 i/\U32 g/\U32 j/\U32 k/\U32 x/\U32 y/\gR L F [a,b,c,d,e,f,h,m]|_=>False
def lD :Ar->Ar->Prop
 | [.l L,.l F,.i a,.i b,.i c,.i d,.i e,.i f,.i h,.i m,.i i,.i g,.i j,.i k,.i x,.i y],[.l L',.l F',.i a',.i b',.i c',.i d',.i e',.i f',.i h',.i m',.i r]=>
  cQ L F [a,b,c,d,e,f,h,m] L' F' [a',b',c',d',e',f',h',m'] λD=>((cG D i g j k x y).1,r=(cG D i g j k x y).2)
 |_,_=>False
def Wu:=mkO "rns" [hV,hV,hV] Ck lD
def rT (L:a8):Nat->Int->Nat
 |0,_=>0|f+1,k=>if k<0 then 0 else rT L f (cI L k 9)+1
def gU :Ar->Ar->Prop
 | [.l L,.i p,.i c],[.i k]=>∀D K,L=D.L.map Sl.row->WF D K-> ∀q d:Nat,p=q->c=d->(∃s,D.L[q]? =some s/\s.used=true)->(k= -1/\ ¬Abv D d q)\/ ∃(b:Nat) (s:Sl),k=b/\D.L[b]? =some s/\s.used=true/\(Abv D d q↔Abv D d b)|_,_=>False
def Nt :Ar->Ar->Nat
 | [.l L,_,_],[.i k]=>rT L 1002 k|_,_=>0
def lB :Ar->Ar->Prop
 | [.l L,.l E],[.i i,.l O]=>0<=i/\i<=1/\ ∀(l:List Att) (e:Ed),L=l.map Att.row->E=[e.row]->(i=0->O=L)/\(i=1->bad1 l e=false/\O=(N8 l e).map Att.row)|_,_=>False
def gQ :Ar->Ar->Nat
 |_,.i i::_=>(1-i).toNat|_,_=>0
def W4 :Ay->List (Nat×(Fm->SS->F9))
 |87=>[(0,D5 U0 "rup" (F5 [(14,.int .i64)] nob) (gh2 (y8 4 0) (gh2 (j9 10) (j9 11))) gU Nt)]
 |140=>[(0,D5 U0 "rap" (F5 [(7,.int .i64),(6,.lst rV)] nob) (gh2 (j9 0) (j9 1)) lB gQ)]
 |f=>W5 f
def bQ :Nat->List (Ay×Con)
 |n=>[(136,jw),(137,my),(30,mi),(132,ST),(142,Ws),(143,zo),(133,zm),(138,WM),(176,zq)]++(if n=0 then []else [(140,Wy)])++ [(LVn,cq "lives")]
def gM :Nat->Aw->D4:=bM
def DM.Us (D:DM)(c:Nat):Prop:=∃s,D.L[c]? =some s/\s.used=true
def nA :Ar->Prop
 | [.l L,.l F,.i a,.i b,.i c,.i d,.i e,.i f,.i h,.i m,.i i]=>∃(D:DM) (K c':Nat),Rf D L F [a,b,c,d,e,f,h,m]/\WF D K/\i=c'/\D.Us c'|_=>False
def nB :Ar->Ar->Prop
 | [.l L,.l F,.i a,.i b,.i c,.i d,.i e,.i f,.i h,.i m,.i i],[.l O]=>∀(D:DM) (K c':Nat),L=D.L.map Sl.row->WF D K->i=c'->D.Us c'->O=(bel D 1001 c').map z5|_,_=>False
def Jx (L:a8):Nat->Int->Nat
 |0,_=>1|f+1,i=>1+((cL L i 10).map λr=>Jx L f (r.getD 0 (.i 0)).toInt).sum
def pI :Ar->Nat
 | .l L::_::_::_::_::_::_::_::_::_:: .i i::_=>Jx L 1001 i|_=>0
def jz:=mkC "rbel" [rfV,iV] nA [ilV] nB
def aQ :Ar->Prop
 | [.l L,.l F,.i a,.i b,.i c,.i d,.i e,.i f,.i h,.i m,.i i,.i n]=>0<=n/\n<=6/\ ∃(D:DM) (K c':Nat),Rf D L F [a,b,c,d,e,f,h,m]/\WF D K/\i=c'/\D.Us c'|_=>False
def dW :Ar->Ar->Prop
 | [.l L,.l F,.i a,.i b,.i c,.i d,.i e,.i f,.i h,.i m,.i i,.i n],[.i k,.s t,.s y,.l at',.s x,.l ch]=>∀(D:DM) (K c':Nat),L=D.L.map Sl.row->WF D K->i=c'->D.Us c'->isT (R7 D n.toNat c') k t y at' x ch|_,_=>False
def vU :Ar->Nat
 | [_,_,_,_,_,_,_,_,_,_,_,.i n]=>n.toNat|_=>0
def mw:=mkC "rtre" [rfV,iV,iV] aQ [nV] dW
def sI:=nH
def iR :Ar->Ar->Prop
 | [.l L,.l F,.i a,.i b,.i c,.i d,.i e,.i f,.i h,.i m,.i i,.i g],[.l L',.l F',.i a',.i b',.i c',.i d',.i e',.i f',.i h',.i m',.i r]=>
  cQ L F [a,b,c,d,e,f,h,m] L' F' [a',b',c',d',e',f',h',m'] λD=>((S3 D i g).1,r=(S3 D i g).2)
 |_,_=>False
def ne:=mkO "rfre" [hV] sI iR
def Cf :Ar->Ar->Prop
 | [.l L,.i i],[.i k,.l O]=>0<=k/\ ∀(D:DM) (K c:Nat) s,L=D.L.map Sl.row->WF D K->i=c->D.L[c]? =some s->s.used=true->k<=s.n.ch.length/\O=(c::(s.n.ch.take k.toNat).flatMap (bel D 1001)).map z5|_,_=>False
def Nf :Ar->Ar->Nat
 | [.l L,.i i],.i k::_=>((cL L i 10).length-k).toNat|_,_=>0
def Cs :Ar->Ar->Prop
 | [.l L,.i i,.i n,.l C],[.i j,.i k,.s t,.s y,.l a,.s x,.l O]=>0<=j/\j<=C.length/\(O.length:Int)=j/\ ∀(D:DM) (K c:Nat) s,L=D.L.map Sl.row->WF D K->i=c->D.L[c]? =some s->s.used=true->C=s.n.ch.map z5/\k=s.n.kind/\t=s.n.tag/\y=[]/\a=s.n.atts.map Att.row/\x=s.n.text/\O=rows ((s.n.ch.take j.toNat).map (R7 D (n.toNat-1)))|_,_=>False
def Ns :Ar->Ar->Nat
 | [_,_,_,.l C],.i j::_=>(C.length-j).toNat|_,_=>0
def pL :Ar->Ar->Prop
 | [.l X,.l L,.l F,.i c0,.i c1,.i c2,.i c3,.i c4,.i c5,.i c6,.i c7],[.i k,.l L',.l F',.i d0,.i d1,.i d2,.i d3,.i d4,.i d5,.i d6,.i d7]=>
  0<=k/\k<=X.length/\[d0,d1,d2,d3,d4,d5,d6,d7]=[c0-k,c1,c2+k,c3,c4,c5,c6,c7]/\ ∀(D:DM) (l:Ah),L=D.L.map Sl.row->F=D.free.map z5->l.Nodup->(∀b∈l,D.Us b)->X=l.map z5->L'=((l.take k.toNat).foldl A1 D).L.map Sl.row/\F'=((l.take k.toNat).foldl A1 D).free.map z5
 |_,_=>False
def Ew :Ar->Ar->Nat
 | .l X::_,.i k::_=>(X.length-k).toNat|_,_=>0
def yP :Ay->List (Nat×(Fm->SS->F9))
 |76=>[(0,D5 U0 "rbl" (F5 [(6,.int .i64),(5,.acc rW 1)] nob) (gh2 (y8 2 0) (j9 1)) Cf Nf)]
 |82=>[(0,D5 U0 "rtl" (F5 [(9,.int .i64)] (J1 8 [.int .u8,.str,.str,.lst rV,.str,.acc 30 6])) (gh2 (gh2 (y8 3 0) (j9 1)) (gh2 (j9 2) (y8 7 8))) Cs Ns)]
 |79=>[(0,D5 U0 "rfl" (F5 [(9,.int .i64)] (J1 7 (.acc tRS 11:: .lst rW::g8))) (gh2 (j9 8) (gh2 (y8 2 0) (ghDC 2))) pL Ew)]
 |f=>W5 f
def CE :Nat->List (Ay×Con)
 |0=>[(LVn,cq "lives")]
 |_=>[(30,mi),(132,ST),(76,jz),(LVn,cq "lives")]
def GJ :Nat->Aw->D4:=bM
abbrev QB :Ax:=72
def HOK (H:a8):Prop:=∀r∈H,∃i g:Int,r=[.i i,.i g]/\U32 i/\U32 g
def BI (K:Nat)(L F:a8)(bs:Ak)(H S:a8)(fr lv:Int)(cs:Ak)(N:a8):Prop:=∃D,Rf D L F bs/\RlC D S N fr lv cs/\WF D K/\HOK H/\H.length<=K
def botL :List Lf:= .ptr 1 13:: .g (.lst tRS):: .g (.lst rW)::(i8++ [.g (.acc tHd 2)])
def LA :List Z9:=(QB,12,botL)::oQ
def botF :As->SS->Bb (Ah):=λargs s=>match args with
 | .ptr b _ _ _::_=>match s.get b with
  |some (.cells (.ptr d _ _ _::_) _ _)=>match rgB s with
   |some r=>some [b,d,r]|none=>none
  |_=>none
 |_=>none
def pV :Vs:= .one (.ptr 0 12)
def mkBR (n:String)(args:List Vs)(pre:Ar->Prop)(res:List Vs)(rel:Ar->Ar->Prop):Con:=mkR n (pV::args) LA botF pre res rel
def uY :Ar->Prop
 | [.i n,.l L,.l F,.i _,.i _,.i _,.i _,.i _,.i _,.i _,.i _,.l H,.l S,.i fr,.i lv,.i _,.i _,.i _,.i _,.i _,.i _,.i _,.i _,.l _,.l N]=>0<=n/\n<256/\HOK H|_=>False
def bL :Ar->Ar->Prop
 |_,[.i i,.i g]=>U32 i/\U32 g|_,_=>False
def WB:=mkBR "pck" [uV] uY [hV] bL
def Ji :Ar->Prop
 | [.i n]=>0<=n/\n<256|_=>False
def QJ :Ar->Ar->Prop:=λ_ _=>True
def CG:=Ji
def CH:=QJ
def nmsF (n:Int):Str:=cS (b8 1 5 [.s [99,108,97,115,115],.s [105,100],.s [120],.s [121],.s [90]]) (n.tmod 5) 0
def txtF (n:Int):Str:=cS (b8 1 4 [.s [],.s [104,105],.s [126],.s [0]]) (n.tmod 4) 0
def pD:=Ji
def pE :Ar->Ar->Prop
 | [.i n],[.s s]=>s=nmsF n|_,_=>False
def hZ:=Ji
def lN :Ar->Ar->Prop
 | [.i n],[.s s]=>s=txtF n|_,_=>False
def Wo:=mkC "tag" [uV] CG [sV] CH
def WE:=mkC "nms" [uV] pD [sV] pE
def Wn:=mkC "txt" [uV] hZ [sV] lN
def bE :Ar->Prop
 | .l P:: .l X:: .l L::_=>∃l:Ah,X=l.map z5/\P=l.map (λj:Nat=>[Dat.i j,.i (cI L j 0)])/\(∀j∈l,j<L.length)/\l.length<=1000/\L.length<=1000|_=>False
def dK :Ar->Ar->Prop
 |_,[.i r]=>r=1|_,_=>False
def WJ:=mkBR "hnd" [.one (.g (.clp tHd)),ilV] bE [iV] dK
def kK :Ar->Prop
 | [.l A,.l B]=>∃l m:List Att,A=l.map Att.row/\B=m.map Att.row/\l.length<=8|_=>False
def bD :Ar->Ar->Prop
 | [.l A,.l B],[.i r]=>(A=B->r=1)/\(A≠B->r=0)|_,_=>False
def WQ:=mkC "asm" [alV,alV] kK [iV] bD
def oU :Ar->Ar->Prop
 | [.l P,.l X,.l L],[.i k]=>0<=k/\k<=P.length|_,_=>False
def tX:=A2
def Bj :Ar->Ar->Prop
 | [.l A,.l B],[.i k]=>0<=k/\k<=A.length/\A.length=B.length/\A.take k.toNat=B.take k.toNat|_,_=>False
def Lt:=A2
def fA :Ay->List (Nat×(Fm->SS->F9))
 |81=>[(0,D5 U0 "hnl" (F5 [(7,.int .i64)] nob) (gh2 (j9 1) (gh2 (j9 2) (y8 0 1))) oU A2)]
 |80=>[(0,D5 U0 "asl" (F5 [(5,.int .i64)] nob) (gh2 (j9 0) (j9 1)) Bj A2)]
 |_=>[]
def pY :Nat->List (Ay×Con)
 |_=>[(LVn,cq "lives")]
def pH :Nat->Aw->D4:=bM
def B8 (x:Int):Prop:=0<=x/\x<256
def oV :Vs:= .agg [.g (.int .u8),.g (.int .u8),.g (.int .u8),.g (.int .u8),.g (.int .u8)]
def LM :Ar->Prop
 | [.i k,.i x,.i y,.i z,.i s,.l L,.l F,.i b0,.i b1,.i b2,.i b3,.i b4,.i b5,.i b6,.i b7,.l H,.l S,.i fr,.i lv,.i c0,.i c1,.i c2,.i c3,.i c4,.i c5,.i c6,.i c7,.l _,.l N]=>
  B8 k/\B8 x/\B8 y/\B8 z/\B8 s/\ ∃K,K+1<=1000/\BI K L F [b0,b1,b2,b3,b4,b5,b6,b7] H S fr lv [c0,c1,c2,c3,c4,c5,c6,c7] N
 |_=>False
def yZ :Ar->Ar->Prop
 | [.i _,.i _,.i _,.i _,.i _,.l L,.l F,.i b0,.i b1,.i b2,.i b3,.i b4,.i b5,.i b6,.i b7,.l H,.l S,.i fr,.i lv,.i c0,.i c1,.i c2,.i c3,.i c4,.i c5,.i c6,.i c7,.l _,.l N],
  [.i r,.l L',.l F',.i b0',.i b1',.i b2',.i b3',.i b4',.i b5',.i b6',.i b7',.l H',.l S',.i fr',.i lv',.i c0',.i c1',.i c2',.i c3',.i c4',.i c5',.i c6',.i c7',.l _,.l N']=>
  r=1/\Fr S N S' N'/\ ∀K,K+1<=1000->BI K L F [b0,b1,b2,b3,b4,b5,b6,b7] H S fr lv [c0,c1,c2,c3,c4,c5,c6,c7] N->BI (K+1) L' F' [b0',b1',b2',b3',b4',b5',b6',b7'] H' S' fr' lv' [c0',c1',c2',c3',c4',c5',c6',c7'] N'
 |_,_=>False
def cDo :Con:=⟨ "do",[pV,oV],LA,botF,LM,[iV],LA,noB,yZ⟩
def PZ :Ay->List (Nat×(Fm->SS->F9)):=W3
def NZ :Nat->List (Ay×Con)
 | _ => [(122, Wo), (124, WE), (123, Wn),
   (61,VV),(89,WN),(126,Wp),(130,Wz),(27,WI),(54,LE),(128,WG),(46,VS),
   (85,zr),(86,zt),(127,zn),(131,zp),(87,Wu),(78,mz),(129,Wv),(79,ne),(LVn,cq "lives")]
def MX :Nat->Aw->D4
 |_,P=>[(121,kro P U0 WB)]
def pW :Ar->Prop
 | [.l L,.l F,.i b0,.i b1,.i b2,.i b3,.i b4,.i b5,.i b6,.i b7,.l H,.l S,.i fr,.i lv,.i c0,.i c1,.i c2,.i c3,.i c4,.i c5,.i c6,.i c7,.l _,.l N]=>
  ∃K,BI K L F [b0,b1,b2,b3,b4,b5,b6,b7] H S fr lv [c0,c1,c2,c3,c4,c5,c6,c7] N
 |_=>False
def pX :Ar->Ar->Prop
 |_,[.i r]=>r=1|_,_=>False
def Wq:=mkBR "sme" [] pW [iV] pX
def jO (L:a8)(n:Nat):Ah:=(List.range n).filter λi=>cB L i 1&&decide (cI L i 9<0)
def gY :Ar->Ar->Prop
 | [.l L],[.i k,.l O]=>0<=k/\k<=L.length/\(O.length:Int)<=k/\O=(jO L k.toNat).map z5|_,_=>False
def fE:=A2
def Qa :Ay->List (Nat×(Fm->SS->F9))
 |35=>[(0,D5 U0 "sml" (F5 [(5,.int .i64),(4,.acc rW 1)] nob) (y8 0 1) gY A2)]
 |_=>[]
def Ob :Nat->List (Ay×Con)
 |_=>[(82,mw),(22,jy),(15,Wr),(80,WQ),(LVn,cq "lives")]
def MY :Nat->Aw->D4
 |_,P=>[(50,kro P U0 fq),(12,kro P U0 zk),(83,kro P U0 Wt),(135,kro P U0 Wl),(81,kro P U0 WJ)]
section
variable {D D':DM}{K a b c p k:Nat}{s sp sc:Sl}
theorem Dv {p q:Nat->Bool}:∀ {l:Ah} {x:Nat},(∀y,p y=true->q y=true)->x∈l->q x=true->p x=false->l.countP p<l.countP q
 |y::l,x,h,hx,h1,h2=>by have mono:∀l:Ah,l.countP p<=l.countP q:=λl=>List.countP_mono_left λy _=>h y;rw[List.countP_cons,List.countP_cons];rcases TH.1 hx with rfl|hx;have:=mono l;rw[h1,h2];simp;omega;have:=Dv h hx h1 h2;have:p y=true->q y=true:=h y;cases e:p y<;>cases e':q y<;>simp_all<;>omega
def Cd (hl:D.L.length<=K){r:Nat->Nat}(hr:∀(i:Nat) s,D.L[i]? =some s->s.used=true-> ∀j∈s.n.ch,r i<r j):∃r:Nat->Nat,(∀i,r i<=K)/\ ∀(i:Nat) s,D.L[i]? =some s->s.used=true-> ∀j∈s.n.ch,r i<r j:=by
 refine⟨λi=>(List.range D.L.length).countP λj=>decide (r j<r i),λi=>?_,λi s hs d j hj=>?_⟩;have:=List.countP_le_length (p:=λj=>decide (r j<r i)) (l:=List.range D.L.length);rw[List.length_range]at this;show(List.range D.L.length).countP (λj=>decide (r j<r i))<=K;omega
 .have h:=hr i s hs d j hj;refine Dv (x:=i) (λy hy=>?_) (List.mem_range.2 (SW.1 hs).1) (by simpa using h) (by simp);have:r y<r i:=by simpa using hy
  simp;omega
structure Sim (D D':DM):Prop where
 len:D'.L.length=D.L.length
 old:∀(j:Nat) s',D'.L[j]? =some s'-> ∃s,D.L[j]? =some s/\s'.g=s.g/\s'.used=s.used/\s'.n.par=s.n.par/\s'.n.ch=s.n.ch/\s'.n.kind=s.n.kind/\(s.used=true->vAt s.n.atts->vAt s'.n.atts/\(s.n.kind=2->s.n.atts=[]->s'.n.atts=[]))
 new:∀(j:Nat) s,D.L[j]? =some s-> ∃s',D'.L[j]? =some s'/\s'.g=s.g/\s'.used=s.used/\s'.n.par=s.n.par/\s'.n.ch=s.n.ch
 free:D'.free=D.free
def Cnt (D:DM)(K:Nat):Prop:=∃a b c d e f h:Int,D.C=[(D.L.countP (·.used):Int),a,b,c,d,e,f,h]/\a=D.L.countP (·.used)+b/\0<=b/\(∀x∈ [a,b,c,d,e,f,h],0<=x/\x<=K)
def Sim.wf (w:WF D K)(h:Sim D D')(v:K+1<=1000)(hc:Cnt D' (K+1)):WF D' (K+1):=by have lim:=w.lim;refine⟨⟨by rw[h.len];omega,v⟩,λs' d=>?_,λi s' d f=>?_,λi s' d f=>?_,?_,λi s' d f=>?_,hc,λi s' d f=>?_,?_⟩;obtain⟨j,hj⟩:=UU d;obtain⟨s,h1,h2,_⟩:=h.old j s' hj;have:=w.gen s (Td h1);omega;obtain⟨s,h1,h2,h3,h4,g,l,_⟩:=h.old i s' d;rw[h3]at f;rw[h4];rcases w.par i s h1 f with e| ⟨p,sp,e,k1,k2,k3⟩;exact .inl e;obtain⟨t,n,u,o,B,z⟩:=h.new p sp k1;exact .inr ⟨p,t,e,n,by rw[o];exact k2,by rw[z];exact k3⟩;obtain⟨s,h1,h2,h3,h4,g,l,_⟩:=h.old i s' d;rw[h3]at f;rw[g];obtain⟨k1,k2⟩:=w.ch i s h1 f;refine⟨k1,λj hj=>?_⟩;obtain⟨sj,n,u,o⟩:=k2 j hj;obtain⟨q,p1,p2,x,y,A⟩:=h.new j sj n;exact⟨q,p1,by rw[x];exact u,by rw[y];exact o⟩;obtain⟨r,h1,h2⟩:=w.rank;refine Cd (by rw[h.len];omega) (r:=r) λi s' d f j hj=>?_;obtain⟨s,h1,_,h3,h4,g,l,_⟩:=h.old i s' d;rw[h3]at f;rw[g]at hj;exact h2 i s h1 f j hj;obtain⟨s,h1,_,h3,h4,g,l,m⟩:=h.old i s' d;rw[h3]at f;exact(m f (w.atts i s h1 f)).1;obtain⟨s,h1,_,h3,h4,g,l,m⟩:=h.old i s' d;rw[h3]at f;obtain⟨k1,k2⟩:=w.kind i s h1 f;rw[l,g];exact⟨k1,λe=>⟨(k2 e).1,(m f (w.atts i s h1 f)).2 e (k2 e).2⟩⟩;rw[h.free];refine⟨w.free.1,λi hi=>?_⟩;obtain⟨s,h1,h2⟩:=w.free.2 i hi;obtain⟨s',k1,_,k2,_⟩:=h.new i s h1;exact⟨s',k1,by rw[k2];exact h2⟩
def WF.cnt_of (w:WF D K)(hk:3<=k/\k<=7)(hL:D'.L.countP (·.used)=D.L.countP (·.used))(g:D'.C=D.C.modify k (· +1)):Cnt D' (K+1):=by
 obtain⟨a,b,c,d,e,f,h,h1,h2,h3,h4⟩:=w.cnt;unfold Cnt;rw[g,hL,h1];simp only[List.forall_mem_cons]at h4;obtain⟨i,j,l,m,n,o,q,_⟩:=h4;have:k=3\/k=4\/k=5\/k=6\/k=7:=by omega
 rcases this with rfl|rfl|rfl|rfl|rfl;exact⟨a,b,c+1,d,e,f,h,rfl,h2,h3,by simp only[List.forall_mem_cons];refine⟨?_,?_,?_,?_,?_,?_,?_,λ_ h=>by simp at h⟩<;>omega⟩;exact⟨a,b,c,d+1,e,f,h,rfl,h2,h3,by simp only[List.forall_mem_cons];refine⟨?_,?_,?_,?_,?_,?_,?_,λ_ h=>by simp at h⟩<;>omega⟩;exact⟨a,b,c,d,e+1,f,h,rfl,h2,h3,by simp only[List.forall_mem_cons];refine⟨?_,?_,?_,?_,?_,?_,?_,λ_ h=>by simp at h⟩<;>omega⟩;exact⟨a,b,c,d,e,f+1,h,rfl,h2,h3,by simp only[List.forall_mem_cons];refine⟨?_,?_,?_,?_,?_,?_,?_,λ_ h=>by simp at h⟩<;>omega⟩;exact⟨a,b,c,d,e,f,h+1,rfl,h2,h3,by simp only[List.forall_mem_cons];refine⟨?_,?_,?_,?_,?_,?_,?_,λ_ h=>by simp at h⟩<;>omega⟩
def WF.setN (w:WF D K)(g:K+1<=1000)(hs:D.L[c]? =some s)(hk:3<=k/\k<=7){q:Nod->Nod}(h1:∀n,(q n).par=n.par/\(q n).ch=n.ch/\(q n).kind=n.kind)(h2:s.used=true->vAt (q s.n).atts/\(s.n.kind=2->(q s.n).atts=[])):WF ((D.setN c q).cnt k) (K+1):=by
 have get:∀j,((D.setN c q).cnt k).L[j]? =if c=j then D.L[j]?.map (λs=> {s with n:=q s.n})else D.L[j]? :=λj=>l8 ..
 refine Sim.wf w ⟨by unfold DM.cnt DM.setN;simp,λj s' hj=>?_,λj s' hj=>?_,rfl⟩ g (w.cnt_of hk (zU (f:=λs=> {s with n:=q s.n}) (λ_=>rfl) c) rfl);rw[get]at hj;by_cases e:c=j;subst e;rw[Tp rfl,hs]at hj;cases hj;exact⟨s,hs,rfl,rfl,(h1 _).1,(h1 _).2.1,(h1 _).2.2,λd _=>⟨(h2 d).1,λe _=>(h2 d).2 e⟩⟩;rw[Tn e]at hj;exact⟨s',hj,rfl,rfl,rfl,rfl,rfl,λ_ h=>⟨h,λ_ h=>h⟩⟩;rw[get];by_cases e:c=j;subst e;rw[hs]at hj;cases hj;rw[Tp rfl,hs];exact⟨_,rfl,rfl,rfl,(h1 _).1,(h1 _).2.1⟩;rw[Tn e];exact⟨s',hj,rfl,rfl,rfl,rfl⟩
def WF.kids (w:WF D K)(U:K+1<=1000)(hk:3<=k/\k<=7)(hp:D.L[p]? =some sp)(up:sp.used=true)(hc:D.L[c]? =some sc)(Q:sc.used=true)(V:p≠c)(h1:sp.n.kind=1){l:Ah}{z:Int}(hn:l.Nodup)(hl:∀j,j≠c->(j∈l↔j∈sp.n.ch))(hz:(z=p/\c∈l)\/(z= -1/\c∉l))(I:(sc.n.par= -1/\(z=p-> ¬Abv D c p))\/sc.n.par=p):WF (D.kids p c l z k) (K+1):=by
 have lim:=w.lim;have get:∀j:Nat,(D.kids p c l z k).L[j]? =D.L[j]?.map λs=>(⟨s.g,s.used,{s.n with ch:=(if p=j then l else s.n.ch),par:=(if c=j then z else s.n.par)}⟩:Sl):=λj=>by
  unfold DM.kids DM.cnt DM.setN;simp only[l8];cases D.L[j]? with
  |none=>simp|some s=>by_cases e:p=j<;>by_cases e':c=j<;>simp[e,e']
 have old:∀ {j s'},(D.kids p c l z k).L[j]? =some s'-> ∃s,D.L[j]? =some s/\s'.g=s.g/\s'.used=s.used/\s'.n.kind=s.n.kind/\s'.n.atts=s.n.atts/\s'.n.ch=(if p=j then l else s.n.ch)/\s'.n.par=if c=j then z else s.n.par:=λ{j s'} h=>by
  rw[get]at h;cases e:D.L[j]? with
  |none=>rw[e]at h;cases h
  |some s=>rw[e]at h;cases h;exact⟨s,rfl,rfl,rfl,rfl,rfl,rfl,rfl⟩
 have new:∀ {j s},D.L[j]? =some s-> ∃s',(D.kids p c l z k).L[j]? =some s'/\s'.used=s.used/\s'.n.ch=(if p=j then l else s.n.ch)/\s'.n.par=if c=j then z else s.n.par:=λ{j s} h=>by rw[get,h];exact⟨_,rfl,rfl,rfl,rfl⟩
 have J:sc.n.par=p->c∈sp.n.ch:=λe=>by
  rcases w.par c sc hc Q with e'| ⟨q,C,e',f,_,v⟩;omega
  .have:q=p:=by omega
   subst this;rw[hp]at f;cases f;exact v
 have len:(D.kids p c l z k).L.length=D.L.length:=by unfold DM.kids DM.cnt DM.setN;simp
 have own:∀ {q C},D.L[q]? =some C->C.used=true->c∈C.n.ch->q=p:=λ{q C} h1 h2 h3=>by obtain⟨s,k1,k2,k3⟩:=(w.ch q C h1 h2).2 c h3;rw[hc]at k1;cases k1;rcases I with h|h<;>omega
 have cnt:(D.kids p c l z k).L.countP (·.used)=D.L.countP (·.used):=by
  have:(D.kids p c l z k).L.map (·.used)=D.L.map (·.used):=by apply List.ext_getElem?;intro j;rw[TU,get,TU];cases D.L[j]? <;>rfl
  have h:=congrArg (List.countP id) this;rwa[List.countP_map,List.countP_map]at h
 refine⟨⟨by rw[len];omega,U⟩,λs' d=>?_,λi s' d o=>?_,λi s' d o=>?_,?_,λi s' d o=>?_,w.cnt_of hk cnt rfl,λi s' d o=>?_,w.free.1,λi hi=>?_⟩;obtain⟨j,hj⟩:=UU d;obtain⟨s,f,v,_⟩:=old hj;have:=w.gen s (Td f);omega;obtain⟨s,f,v,t,E,A,x,F⟩:=old d;rw[t]at o;rw[F];by_cases e:c=i;rw[Tp e];rcases hz with⟨O,W⟩| ⟨O,_⟩;obtain⟨M,p1,p2,y,u⟩:=new hp;rw[Tp rfl]at y;exact .inr ⟨p,M,O,p1,by rw[p2];exact up,by rw[y,<-e];exact W⟩;exact .inl O;rw[Tn e];rcases w.par i s f o with h| ⟨q,C,R,H,S,P⟩;exact .inl h;obtain⟨N,p1,p2,y,u⟩:=new H;refine .inr ⟨q,N,R,p1,by rw[p2];exact S,?_⟩;rw[y];by_cases e':p=q;subst e';rw[hp]at H;cases H;rw[Tp rfl];exact(hl i (Ne.symm e)).2 P;rw[Tn e'];exact P;obtain⟨s,f,v,t,E,A,x,F⟩:=old d;rw[t]at o;rw[x];by_cases e:p=i;subst e;rw[hp]at f;cases f;rw[Tp rfl];refine⟨hn,λj hj=>?_⟩;by_cases e':j=c;subst e';obtain⟨sj,p1,p2,y,u⟩:=new hc;rw[Tp rfl]at u;exact⟨sj,p1,by rw[p2];exact Q,by rw[u];rcases hz with h|h;exact h.1;exact absurd hj h.2⟩;obtain⟨sj,k1,k2,k3⟩:=(w.ch p sp hp up).2 j ((hl j e').1 hj);obtain⟨B,p1,p2,y,u⟩:=new k1;rw[Tn (Ne.symm e')]at u;exact⟨B,p1,by rw[p2];exact k2,by rw[u];exact k3⟩;rw[Tn e];refine⟨(w.ch i s f o).1,λj hj=>?_⟩;have e':j≠c:=λh=>e (own f o (h▸hj)).symm;obtain⟨sj,k1,k2,k3⟩:=(w.ch i s f o).2 j hj;obtain⟨B,p1,p2,y,u⟩:=new k1;rw[Tn (Ne.symm e')]at u;exact⟨B,p1,by rw[p2];exact k2,by rw[u];exact k3⟩
 .obtain⟨r,_,hr⟩:=w.rank;have edge:∀ {i s' j},(D.kids p c l z k).L[i]? =some s'->s'.used=true->j∈s'.n.ch->(∃s,D.L[i]? =some s/\s.used=true/\j∈s.n.ch)\/(i=p/\j=c/\c∉sp.n.ch):=λ{i s' j} d o hj=>by obtain⟨s,f,v,t,E,A,x,F⟩:=old d;rw[t]at o;rw[x]at hj;by_cases e:p=i;subst e;rw[hp]at f;cases f;rw[Tp rfl]at hj;by_cases e':j=c;subst e';by_cases m:j∈sp.n.ch;exact .inl ⟨sp,hp,o,m⟩;exact .inr ⟨rfl,rfl,m⟩;exact .inl ⟨sp,hp,o,(hl j e').1 hj⟩;rw[Tn e]at hj;exact .inl ⟨s,f,o,hj⟩
  by_cases G:z=p/\sc.n.par= -1
  .have T:¬Abv D c p:=by rcases I with h|h;exact h.2 G.1;omega
   have X:c∉sp.n.ch:=λm=>by obtain⟨s,k1,k2,k3⟩:=(w.ch p sp hp up).2 c m;rw[hc]at k1;cases k1;omega
   refine Cd (by rw[len];omega) (r:=λi=>open Classical in if Abv D c i then r i+(r p+1)else r i) λi s' d o j hj=>?_;rcases edge d o hj with⟨s,k1,k2,k3⟩| ⟨rfl,rfl,_⟩;have h:=hr i s k1 k2 j k3;obtain⟨sj,f,v,t⟩:=(w.ch i s k1 k2).2 j k3;by_cases e:Abv D c i;have:Abv D c j:= .up _ _ _ f t e;simp only[Tp e,Tp this];omega;simp only[Tn e];split<;>omega;simp only[Tn T,Tp (Abv.here (D:=D) (a:=j))];omega
  refine Cd (by rw[len];omega) (r:=r) λi s' d o j hj=>?_;rcases edge d o hj with⟨s,k1,k2,k3⟩| ⟨rfl,rfl,m⟩;exact hr i s k1 k2 j k3;obtain⟨s,f,v,t,E,A,x,F⟩:=old d;rw[x,Tp rfl]at hj;rcases hz with h|h;rcases I with h'|h';exact absurd ⟨h.1,h'.1⟩ G;exact absurd (J h') m;exact absurd hj h.2
 obtain⟨s,f,v,t,E,A,x,F⟩:=old d;rw[t]at o;rw[A];exact w.atts i s f o;obtain⟨s,f,v,t,E,A,x,F⟩:=old d;rw[t]at o;rw[E,A,x];obtain⟨k1,k2⟩:=w.kind i s f o;refine⟨k1,λe=>⟨?_,(k2 e).2⟩⟩;by_cases e':p=i;subst e';rw[hp]at f;cases f;omega;rw[Tn e'];exact(k2 e).1;obtain⟨s,h1,h2⟩:=w.free.2 i hi;obtain⟨s',k1,k2,_⟩:=new h1;exact⟨s',k1,by rw[k2];exact h2⟩
end
section
variable {D D':DM}{K a b c p k:Nat}{s sp sc:Sl}{i g j m x y:Int}{l:Ah}
def WF.mono (w:WF D K){n:Nat}(h:K<=n)(u:n<=1000):WF D n:=by obtain⟨h1,h2,h3,h4,⟨r,r1,v⟩,o,⟨a,b,c,d,e,f,h',k1,k2,k3,k4⟩,q,t⟩:=w;refine⟨⟨by omega,u⟩,λs hs=>?_,h3,h4,⟨r,λi=>?_,v⟩,o,⟨a,b,c,d,e,f,h',k1,k2,k3,λx hx=>?_⟩,q,t⟩;have:=h2 s hs;omega;have:=r1 i;omega;have:=k4 x hx;omega
def WF.text (w:WF D K)(d:K+1<=1000){t:Str}:WF (aU D i g t).1 (K+1):=by
 have w':=w.mono (Ur K) d;unfold aU;cases hc:D.at i g with
 |none=>exact w'|some c=>obtain⟨s,h1,h2,_⟩:=UW hc;simp only;split;exact w';exact w.setN d h1 ⟨by omega,by omega⟩ (λ_=>⟨rfl,rfl,rfl⟩) λf=>⟨w.atts c s h1 f,λe=>((w.kind c s h1 f).2 e).2⟩
def WF.pla (w:WF D K)(d:K+1<=1000){t z:Int}{b:Bool}:WF (mY D i g t z b).1 (K+1):=by
 have w':=w.mono (Ur K) d;unfold mY;cases hc:D.at i g with
 |none=>exact w'|some c=>obtain⟨s,h1,h2,_⟩:=UW hc;simp only;split;exact w';exact w.setN d h1 ⟨by omega,by omega⟩ (λ_=>⟨rfl,rfl,rfl⟩) λf=>⟨w.atts c s h1 f,λe=>((w.kind c s h1 f).2 e).2⟩
def tC {e:Ed}{a:Att}:∀ {l:List Att},a∈N8 l e->a∈l\/(a.n=e.n/\a.v=e.v)
 | [],h=>by unfold N8 edA at h;split at h;simp at h;rw[Ui.1 h];exact .inr ⟨rfl,rfl⟩|b::l,h=>by
  have d:a∈edA e->a.n=e.n/\a.v=e.v:=λh=>by unfold edA at h;split at h;simp at h;rw[Ui.1 h];exact⟨rfl,rfl⟩
  unfold N8 at h;split at h;rcases TH.1 h with rfl|h;exact .inl List.mem_cons_self;rcases tC h with h|h;exact .inl (Uc _ h);exact .inr h;split at h;rcases TG.1 h with h|h;exact .inr (d h);exact .inl (Uc _ h);rcases TG.1 h with h|h;exact .inr (d h);exact .inl h
def Dm {e:Ed}:∀ {l:List Att},Asc (l.map Att.n)->Asc ((N8 l e).map Att.n)
 | [],_=>by unfold N8 edA;split<;>simp[Asc]|b::l,h=>by
  obtain⟨h1,h2⟩:=List.pairwise_cons.1 h;have below:∀ {l':List Att},(∀z∈l'.map Att.n,lt e.n z=true)->Asc (l'.map Att.n)->Asc ((edA e++l').map Att.n):=λ{l'} t q=>by unfold edA;split;exact q;exact List.pairwise_cons.2 ⟨t,q⟩
  unfold N8;by_cases d:lt b.n e.n=true;rw[Tp d,TV];refine List.pairwise_cons.2 ⟨λz hz=>?_,Dm h2⟩;obtain⟨a,r,rfl⟩:=Uy.1 hz;rcases tC r with h|h;exact h1 _ (List.mem_map_of_mem h);rw[h.1];exact d;rw[Tn d];by_cases f:b.n=e.n;rw[Tp f];exact below (λz hz=>by rw[<-f];exact h1 z hz) h2;rw[Tn f];have o:lt e.n b.n=true:=BM (by simpa using d) f;exact below (λz hz=>by rcases TH.1 hz with rfl|hz;exact o;exact mU o (h1 z hz)) h
def QK {l:List Att}{e:Ed}(h:vAt l)(he:bK e=true)(h0:(apF l e).2=0):vAt (apF l e).1:=by unfold apF at h0⊢;split at h0;simp at h0;split at h0;simp at h0;rename_i h1 h2;rw[Tn h1,Tn h2];refine⟨by simpa using h2,λa d=>?_,Dm h.2.2⟩;rcases tC d with h'|h';exact h.2.1 a h';unfold bK at he;simp only[SR]at he;rw[h'.1,h'.2];exact⟨he.1.1,he.1.2⟩
def WF.edt (w:WF D K)(d:K+1<=1000){e:Ed}{r:Int}:WF (R9 D i g e r).1 (K+1):=by
 have w':=w.mono (Ur K) d;unfold R9;cases hc:D.at i g with
 |none=>exact w'|some c=>
  obtain⟨s,h1,h2,_⟩:=UW hc;simp only;rw[UZ h1];split;exact w'
  .split;exact w'
   .split
    .rename_i hk he h0;refine w.setN d h1 ⟨by omega,by omega⟩ (λ_=>⟨rfl,rfl,rfl⟩) λh=>⟨QK (w.atts c s h1 h) (by simpa using he) h0,λf=>?_⟩
     exact absurd f (by simp at hk;omega)
    exact w'
def Kh (hn:l.Nodup){a:Int}(e:a<0\/(0<=a/\a.toNat∈l)):∃t d,t++d=l/\S4 l c a=t++ [c]++d:=by rcases e with h| ⟨h0,h⟩;exact⟨l,[],by simp,by rw[IA h];simp⟩;refine⟨l.take (l.idxOf a.toNat),l.drop (l.idxOf a.toNat),UI ..,?_⟩;have:=GK (c:=c) hn h;rw[this];congr 1;omega
def IC (hn:l.Nodup)(hc:c∉l){a:Int}(f:a<0\/(0<=a/\a.toNat∈l)):(S4 l c a).Nodup/\ ∀j,j∈S4 l c a↔j=c\/j∈l:=by obtain⟨t,d,rfl,e⟩:=Kh (c:=c) hn f;rw[e];constructor;rw[UT]at hn⊢;simp only[TG,not_or]at hc;refine⟨UT.2 ⟨hn.1,by simp,λq hq r hr=>?_⟩,hn.2.1,λq hq r hr=>?_⟩;rw[Ui.1 hr];rintro rfl;exact hc.1 hq;rcases TG.1 hq with h|h;exact hn.2.2 q h r hr;rw[Ui.1 h];rintro rfl;exact hc.2 hr;intro j;simp only[TG,Ui];constructor;rintro ((h|h)|h);exact .inr (.inl h);exact .inl h;exact .inr (.inr h);rintro (h|h|h);exact .inl (.inr h);exact .inl (.inl h);exact .inr h
def DM.opt_lo {a:Int}(h:D.opt x y=some a):a= -1\/0<=a:=by unfold DM.opt at h;split at h;cases h;exact .inl rfl;split at h;cases h;exact .inr (by omega);cases h
def DM.par_of (w:WF D K)(hs:D.L[c]? =some s)(d:s.used=true)(hp:s.n.par≠ -1):∃(p:Nat) (sp:Sl),s.n.par=p/\D.L[p]? =some sp/\sp.used=true/\c∈sp.n.ch/\p≠c/\sp.n.kind=1:=by rcases w.par c s hs d with e| ⟨p,sp,e,h1,h2,h3⟩;exact absurd e hp;obtain⟨r,_,hr⟩:=w.rank;have:=hr p sp h1 h2 c h3;refine⟨p,sp,e,h1,h2,h3,by rintro rfl;omega,?_⟩;obtain⟨k1,k2⟩:=w.kind p sp h1 h2;rcases k1 with h|h;exact h;rw[(k2 h).1]at h3;simp at h3
def WF.ins (w:WF D K)(f:K+1<=1000):WF (cG D i g j m x y).1 (K+1):=by
 have w':=w.mono (Ur K) f;unfold cG;split
 .rename_i p c a hp hc q;obtain⟨sp,h1,h2,_⟩:=UW hp;obtain⟨sc,k1,k2,_⟩:=UW hc;rw[UZ h1,UZ k1];split;exact w'
  .split;exact w'
   .split;exact w'
    .rename_i t d u;rw[not_or]at d;have hr:sc.n.par= -1:=Classical.not_not.1 d.1;have hn:=(w.ch p sp h1 h2).1;have o:c∉sp.n.ch:=λr=>by obtain⟨s,e,v,z⟩:=(w.ch p sp h1 h2).2 c r;rw[k1]at e;cases e;omega
     have hs:=IC (c:=c) hn o (a:=a) (by rcases DM.opt_lo q with h|h;exact .inl (by omega);exact .inr ⟨h,Classical.not_not.1 λh'=>u ⟨h,h'⟩⟩);exact w.kids f ⟨by omega,by omega⟩ h1 h2 k1 k2 (by rintro rfl;exact d.2 .here) (by simpa using t) hs.1 (λj hj=>by rw[hs.2];simp[hj]) (.inl ⟨rfl,(hs.2 c).2 (.inl rfl)⟩) (.inl ⟨hr,λ_=>d.2⟩)
 exact w'
def WF.rem (w:WF D K)(d:K+1<=1000):WF (V3 D i g).1 (K+1):=by have w':=w.mono (Ur K) d;unfold V3;split;rename_i c hc;obtain⟨sc,k1,k2,_⟩:=UW hc;rw[UZ k1];split;exact w';rename_i hp;obtain⟨p,sp,e,h1,h2,h3,h4,f⟩:=DM.par_of w k1 k2 hp;rw[e,TK,UZ h1];exact w.kids d ⟨by omega,by omega⟩ h1 h2 k1 k2 h4 f ((w.ch p sp h1 h2).1.filter _) (λj hj=>by rw[jF];simp[hj]) (.inr ⟨rfl,λh=>(jF.1 h).2 rfl⟩) (.inr e);exact w'
def WF.mov (w:WF D K)(d:K+1<=1000):WF (cN D i g x y).1 (K+1):=by have w':=w.mono (Ur K) d;unfold cN;split;rename_i c a hc o;obtain⟨sc,k1,k2,_⟩:=UW hc;rw[UZ k1];split;exact w';rename_i hp;obtain⟨p,sp,e,h1,h2,h3,h4,f⟩:=DM.par_of w k1 k2 hp;rw[e,TK,UZ h1];split;exact w';rename_i q;rw[not_or]at q;have hs:=IC (c:=c) (l:=I7 sp.n.ch c) ((w.ch p sp h1 h2).1.filter _) (λh=>(jF.1 h).2 rfl) (a:=a) (by rcases DM.opt_lo o with h|h;exact .inl (by omega);exact .inr ⟨h,jF.2 ⟨Classical.not_not.1 λh'=>q.2 ⟨h,h'⟩,λe=>q.1 (by omega)⟩⟩);exact w.kids d ⟨by omega,by omega⟩ h1 h2 k1 k2 h4 f hs.1 (λj hj=>by rw[hs.2,jF];simp[hj]) (.inl ⟨rfl,(hs.2 c).2 (.inl rfl)⟩) (.inr e);exact w'
end
section
variable {D D':DM}{K a b c p k j:Nat}{s sp sc:Sl}{i g m x y:Int}{l:Ah}{n:Nod}
def DM.take_spec (w:WF D K)(r:K+1<=1000):∃(i g:Nat) (l:Ah),(D.take n).2=i/\(D.take n).1.free=l/\(D.take n).1.C=D.C/\(D.take n).1.L.length<=K+1/\(D.take n).1.L[i]? =some ⟨g,true,n⟩/\1<=g/\g<=K+1/\(∀j,j≠i->(D.take n).1.L[j]? =D.L[j]?)/\(∀s,D.L[i]? =some s->s.used=false)/\l.Nodup/\i∉l/\(∀j∈l,j∈D.free)/\(D.take n).1.L.countP (·.used)=D.L.countP (·.used)+1:=by
 have lim:=w.lim;obtain⟨o,q⟩:=w.free;unfold DM.take;by_cases e:D.free=[]
 .have d:D.grow=⟨D.L++ [⟨1,false,C5 0 [] []⟩],[D.L.length],D.C⟩:=by unfold DM.grow;rw[Tp e]
  rw[d];simp only;have hi:(D.L++ [⟨1,false,C5 0 [] []⟩])[D.L.length]? =some (⟨1,false,C5 0 [] []⟩:Sl):=by simp
  refine⟨D.L.length,1,[],rfl,rfl,trivial,by simp;omega,by simp only[l8,UG,hi];rfl,by omega,by omega,λj hj=>?_,λs hs=>?_,by simp,by simp,by simp,?_⟩;rw[l8,Tn (Ne.symm hj)];by_cases h:j<D.L.length;rw[Tc h];rw[US (by simp;omega),US (by omega)];have:=(SW.1 hs).1;omega;rw[kX hi rfl];simp
 .have d:D.grow=D:=by unfold DM.grow;rw[Tn e]
  rw[d];cases f:D.free with
  |nil=>exact absurd f e|cons i l=>rw[f]at o q;obtain⟨h1,h2⟩:=List.nodup_cons.1 o;obtain⟨s,h3,h4⟩:=q i List.mem_cons_self;have:=w.gen s (Td h3);simp only;exact⟨i,s.g,l,rfl,rfl,trivial,by simp;omega,by simp only[l8,UG,h3];rfl,this.1,this.2,λj hj=>by rw[l8,Tn (Ne.symm hj)],λs' hs=>by rw[h3]at hs;cases hs;exact h4,h2,h1,λj hj=>Uc _ hj,kX h3 h4⟩
def WF.cre (w:WF D K)(z:K+1<=1000){q:Int}(hq:q=1\/q=2){t x:Str}:WF (I6 D q t x).1 (K+1):=by
 have w':=w.mono (Ur K) z;unfold I6;split;exact w';obtain⟨i,g,l,Q,A,E,F,G,H,R,v,I,J,M,N,B⟩:=DM.take_spec (n:=C5 q t x) w z;have u:(((D.take (C5 q t x)).1.cnt 0).cnt 1).L=(D.take (C5 q t x)).1.L:=rfl;have un:∀ {j:Nat} {s:Sl},D.L[j]? =some s->s.used=true->j≠i:=λh1 h2 e=>by subst e;rw[I _ h1]at h2;cases h2
 have old:∀ {j:Nat} {s:Sl},(D.take (C5 q t x)).1.L[j]? =some s->(j=i/\s=⟨g,true,C5 q t x⟩)\/(j≠i/\D.L[j]? =some s):=λ{j s} h=>by by_cases e:j=i;subst e;rw[G]at h;cases h;exact .inl ⟨rfl,rfl⟩;rw[v j e]at h;exact .inr ⟨e,h⟩
 show WF ((D.take (C5 q t x)).1.cnt 0|>.cnt 1) (K+1);refine⟨⟨F,z⟩,λs hs=>?_,λj s hs o=>?_,λj s hs o=>?_,?_,λj s hs o=>?_,?_,λj s hs o=>?_,?_,λj hj=>?_⟩;obtain⟨j,hj⟩:=UU hs;rcases old hj with⟨_,rfl⟩| ⟨_,h⟩;exact⟨H,by simp only;omega⟩;have:=w.gen s (Td h);omega;rcases old hs with⟨_,rfl⟩| ⟨_,h⟩;exact .inl rfl;rcases w.par j s h o with e| ⟨p,sp,e,h1,h2,h3⟩;exact .inl e;exact .inr ⟨p,sp,e,by rw[u,v p (un h1 h2)];exact h1,h2,h3⟩;rcases old hs with⟨_,rfl⟩| ⟨_,h⟩;exact⟨List.nodup_nil,λj hj=>by simp[C5]at hj⟩;refine⟨(w.ch j s h o).1,λb hb=>?_⟩;obtain⟨P,h1,h2,h3⟩:=(w.ch j s h o).2 b hb;exact⟨P,by rw[u,v b (un h1 h2)];exact h1,h2,h3⟩;obtain⟨r,r1,O⟩:=w.rank;refine⟨r,λi=>by have:=r1 i;omega,λj s hs o b hb=>?_⟩;rcases old hs with⟨_,rfl⟩| ⟨_,h⟩;simp[C5]at hb;exact O j s h o b hb;rcases old hs with⟨_,rfl⟩| ⟨_,h⟩;exact⟨by simp[C5],by simp[C5],by simp[C5,Asc]⟩;exact w.atts j s h o;obtain⟨a,b,c,d,e,f,h,h1,h2,h3,h4⟩:=w.cnt;simp only[List.forall_mem_cons]at h4;obtain⟨S,T,U,V,W,X,Y,_⟩:=h4;refine⟨a+1,b,c,d,e,f,h,?_,?_,h3,?_⟩;show((D.take (C5 q t x)).1.C.modify 0 (· +1)).modify 1 (· +1)=_;rw[E,h1,u,B];rfl;rw[u,B];omega;simp only[List.forall_mem_cons];refine⟨?_,?_,?_,?_,?_,?_,?_,λ_ h=>by simp at h⟩<;>omega;rcases old hs with⟨_,rfl⟩| ⟨_,h⟩;exact⟨hq,λ_=>⟨rfl,rfl⟩⟩;exact w.kind j s h o;show(D.take (C5 q t x)).1.free.Nodup;rw[A];exact J;have hj:j∈(D.take (C5 q t x)).1.free:=hj;rw[A]at hj;obtain⟨s,h1,h2⟩:=w.free.2 j (N j hj);exact⟨s,by rw[u,v j (by rintro rfl;exact M hj)];exact h1,h2⟩
def OG (w:WF D K):∀(n:Nat) {r:Nat->Nat},(∀i,r i<=K)->(∀(i:Nat) s,D.L[i]? =some s->s.used=true-> ∀j∈s.n.ch,r i<r j)-> ∀ {c:Nat} {s:Sl},D.L[c]? =some s->s.used=true->K-r c<=n-> ∀(p:Nat) (sp:Sl),p∈bel D 1001 c->D.L[p]? =some sp-> ∀b∈sp.n.ch,b∈bel D 1001 c:=by
 intro n;induction n with
 |zero=>
  intro r r1 h c s hs f hn p sp hp d b hb;rw[U9 w hs f]at hp⊢;cases e:s.n.ch with
  |nil=>
   rw[e]at hp;have:p=c:=by simpa using hp
   subst this;rw[hs]at d;cases d;rw[e]at hb;simp at hb
  |cons a l=>have:=h c s hs f a (by simp[e]);have:=r1 a;omega
 |succ n o=>intro r r1 h c s hs f hn p sp hp d b hb;rw[U9 w hs f]at hp⊢;rcases TH.1 hp with rfl|hp;rw[hs]at d;cases d;exact Uc _ (List.mem_flatMap.2 ⟨b,hb,iH⟩);obtain⟨j,hj,hp⟩:=List.mem_flatMap.1 hp;obtain⟨sj,k1,k2,_⟩:=(w.ch c s hs f).2 j hj;have:=h c s hs f j hj;have:=r1 j;exact Uc _ (List.mem_flatMap.2 ⟨j,hj,o r1 h k1 k2 (by omega) p sp hp d b hb⟩)
def sC (w:WF D K)(hs:D.L[c]? =some s)(d:s.used=true)(hb:∃s,D.L[b]? =some s/\s.used=true):b∈bel D 1001 c↔Abv D c b:=by
 refine⟨λh=>(J0 w hs d b h).1,λh=>?_⟩;obtain⟨r,r1,t⟩:=w.rank;induction h with
 |here=>exact iH|up b p s' h' hp k o=>
  obtain⟨u,h1,h2⟩:=hb;rw[h']at h1;cases h1;rcases w.par b s' h' h2 with e| ⟨q,f,e,k1,k2,k3⟩;omega
  .have:q=p:=by omega
   subst this;exact OG w _ r1 t hs d (Tq _) q f (o ⟨f,k1,k2⟩) k1 b k3
def mP :∀ {X:Ah} {D:DM} {j:Nat} {s:Sl},X.Nodup->j∈X->D.L[j]? =some s->(X.foldl A1 D).L[j]? =some ⟨s.g+1,false,C5 0 [] []⟩
 |x::X,D,j,s,hn,h,hs=>by
  obtain⟨h1,h2⟩:=List.nodup_cons.1 hn;rw[List.foldl_cons];by_cases e:x=j;subst e;rw[G2 h1];unfold A1;simp only[l8];simp[hs]
  .have hj:j∈X:=by rcases TH.1 h with h|h;exact absurd h.symm e;exact h
   refine mP h2 hj ?_;unfold A1;simp only[l8];rw[Tn e];exact hs
def iJ :∀ {X:Ah} {D:DM},(X.foldl A1 D).free=X.reverse++D.free
 | [],_=>rfl|x::X,D=>by rw[List.foldl_cons,iJ];simp[A1]
def zC (w:WF D K)(hs:D.L[c]? =some s)(o:s.used=true)(hp:s.n.par= -1){sj:Sl}(h:D.L[j]? =some sj)(d:sj.used=true)(m:j∉bel D 1001 c):(∀(q:Nat) f,sj.n.par=q->D.L[q]? =some f->f.used=true->q∉bel D 1001 c)/\ ∀b∈sj.n.ch,b∉bel D 1001 c:=by
 refine⟨λq f e h1 h2 t=>m ((sC w hs o ⟨sj,h,d⟩).2 (.up _ _ _ h e ((sC w hs o ⟨f,h1,h2⟩).1 t))),λb hb r=>?_⟩;obtain⟨u,h1,h2,h3⟩:=(w.ch j sj h d).2 b hb;rcases((sC w hs o ⟨u,h1,h2⟩).1 r).inv with e| ⟨q,f,k1,k2,k3⟩;subst e;rw[hs]at h1;cases h1;omega
 .rw[h1]at k1;cases k1;have:q=j:=by omega
  subst this;exact m ((sC w hs o ⟨sj,h,d⟩).2 k3)
def WF.fre (w:WF D K)(A:K+1<=1000):WF (S3 D i g).1 (K+1):=by
 have w':=w.mono (Ur K) A;unfold S3;cases hc:D.at i g with
 |none=>exact w'|some c=>
  obtain⟨s,hs,z,_⟩:=UW hc;simp only;rw[UZ hs];split;exact w';rename_i hp;have hp:s.n.par= -1:=Classical.not_not.1 hp;have hn:=K1 (f:=1001) w hs z;have u:=λb hb=>(J0 (f:=1001) w hs z b hb).2;have v:=λ{j:Nat} {sj:Sl}=>zC (j:=j) (sj:=sj) w hs z hp;generalize bel D 1001 c=X at hn u v;have lim:=w.lim;have old:∀ {j:Nat} {s:Sl},(X.foldl A1 D).L[j]? =some s->s.used=true->j∉X/\D.L[j]? =some s:=λ{j s} h h'=>by by_cases m:j∈X;obtain⟨s',h1,_⟩:=u j m;rw[mP hn m h1]at h;cases h;cases h';rw[G2 m]at h;exact⟨m,h⟩
  have H:=Y9 hn u;refine⟨⟨by show(X.foldl A1 D).L.length<=K+1;rw[mQ];omega,A⟩,λs' t=>?_,λj s' t o=>?_,λj s' t o=>?_,?_,λj s' t o=>?_,?_,λj s' t o=>?_,?_,λj hj=>?_⟩;obtain⟨j,hj⟩:=UU t;have hj:(X.foldl A1 D).L[j]? =some s':=hj;by_cases m:j∈X;obtain⟨s1,h1,_⟩:=u j m;rw[mP hn m h1]at hj;cases hj;have:=w.gen s1 (Td h1);simp only;omega;rw[G2 m]at hj;have:=w.gen s' (Td hj);omega;obtain⟨m,h⟩:=old t o;rcases w.par j s' h o with e| ⟨q,B,e,h1,h2,h3⟩;exact .inl e;exact .inr ⟨q,B,e,(G2 ((v h o m).1 q B e h1 h2)).trans h1,h2,h3⟩;obtain⟨m,h⟩:=old t o;refine⟨(w.ch j s' h o).1,λb hb=>?_⟩;obtain⟨G,h1,h2,h3⟩:=(w.ch j s' h o).2 b hb;exact⟨G,(G2 ((v h o m).2 b hb)).trans h1,h2,h3⟩;obtain⟨r,r1,F⟩:=w.rank;exact⟨r,λi=>by have:=r1 i;omega,λj s' t o b hb=>F j s' (old t o).2 o b hb⟩;exact w.atts j s' (old t o).2 o
  .obtain⟨a,b,c,d,e,f,h,h1,h2,h3,h4⟩:=w.cnt;simp only[List.forall_mem_cons]at h4;obtain⟨I,J,M,N,O,P,Q,_⟩:=h4;refine⟨a,b+X.length,c,d,e,f,h,?_,?_,by omega,?_⟩
   .show(D.C.modify 0 (· -(X.length:Int))).modify 2 (· +(X.length:Int))=_;rw[h1];show [((D.L.countP (·.used):Nat):Int)-X.length,a,b+X.length,c,d,e,f,h]=_;have:((D.L.countP (·.used):Nat):Int)-X.length=(((X.foldl A1 D).L.countP (·.used):Nat):Int):=by omega
    rw[this]
   .show a=(((X.foldl A1 D).L.countP (·.used):Nat):Int)+(b+X.length)
    omega
   simp only[List.forall_mem_cons];refine⟨?_,?_,?_,?_,?_,?_,?_,λ_ h=>by simp at h⟩<;>omega
  exact w.kind j s' (old t o).2 o;show(X.foldl A1 D).free.Nodup;rw[iJ];refine UT.2 ⟨(by rw[List.Nodup,List.pairwise_reverse];exact hn.imp Ne.symm),w.free.1,λa E b hb e=>?_⟩;subst e;obtain⟨s1,h1,h2⟩:=u a (List.mem_reverse.1 E);obtain⟨s2,k1,k2⟩:=w.free.2 a hb;rw[h1]at k1;cases k1;rw[h2]at k2;cases k2;have hj:j∈(X.foldl A1 D).free:=hj;rw[iJ]at hj;by_cases m:j∈X;obtain⟨s1,h1,_⟩:=u j m;exact⟨_,mP hn m h1,rfl⟩;rcases TG.1 hj with h|h;exact absurd (List.mem_reverse.1 h) m;obtain⟨s2,k1,k2⟩:=w.free.2 j h;exact⟨s2,(G2 m).trans k1,k2⟩
