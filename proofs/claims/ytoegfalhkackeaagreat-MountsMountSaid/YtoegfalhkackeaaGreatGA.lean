/- The reference's DOM: contracts of its calls: Create, Attr, Text, Insert, Remove, Move, Place.
  Conditions: none. -/
import Derived.Test.YtoegfalhkackeaaGreatD2
import Derived.Test.YtoegfalhkackeaaGreatP0
set_option maxRecDepth 100000
set_option linter.all false
set_option maxRecDepth 10000
noncomputable section
namespace Go.D
open Go Go.Xe Go.Sx
def mkO (n:String)(args:List Vs)(pre:Ar->Prop)(a:Ar->Ar->Prop):Con:=mkC n (rfV::args) pre [rfV,iV] a
def lE :Ar->Prop
 | [.l L,.l F,.i a,.i b,.i c,.i d,.i e,.i f,.i h,.i m,.i k,.s s]=>(k=1\/k=2)/\jW L F [a,b,c,d,e,f,h,m]|_=>False
def J7 :Ar->Ar->Prop
 | [.l L,.l F,.i a,.i b,.i c,.i d,.i e,.i f,.i h,.i m,.i k,.s s],[.l n,.l j,.i o,.i p,.i q,.i t,.i u,.i v,.i w,.i x,.i i,.i g,.i r]=>
  eV L F [a,b,c,d,e,f,h,m] n j [o,p,q,t,u,v,w,x] λD=>((z5 D k (if k=1 then s else []) (if k=1 then []else s)).1,(i,g,r)=(z5 D k (if k=1 then s else []) (if k=1 then []else s)).2)
 |_,_=>False
def ot:=mkC "rcre" [rfV,uV,sV] lE [rfV,hV,iV] J7
def pX :Ar->Prop
 | [.l L,.l F,.i a,.i b,.i c,.i d,.i e,.i f,.i h,.i m,.i i,.i g,.s n,.b z,.s v]=>U32 i/\U32 g/\(z->v=[])/\jW L F [a,b,c,d,e,f,h,m]|_=>False
def bB :Ar->Ar->Prop
 | [.l L,.l F,.i a,.i b,.i c,.i d,.i e,.i f,.i h,.i m,.i i,.i g,.s n,.b z,.s v],[.l k,.l j,.i o,.i p,.i q,.i t,.i u,.i w,.i x,.i y,.i r]=>
  eV L F [a,b,c,d,e,f,h,m] k j [o,p,q,t,u,w,x,y] λD=>((V7 D i g ⟨n,z,v⟩ (if z then 17 else 1)).1,r=(V7 D i g ⟨n,z,v⟩ (if z then 17 else 1)).2)
 |_,_=>False
def ou:=mkO "ratt" [hV,.u [.g .str,.g .bool,.g .str]] pX bB
def Ev:=Do
def zD:=fH
def cRap:=mkC "rap" [alV,.t<|.g<|.lst 150] Ev [alV,iV] zD
def EM :Ar->Prop
 | [.l L,.l F,.i a,.i b,.i c,.i d,.i e,.i f,.i h,.i m,.i i,.i g,.s s]=>U32 i/\U32 g/\jW L F [a,b,c,d,e,f,h,m]|_=>False
def qH :Ar->Ar->Prop
 | [.l L,.l F,.i a,.i b,.i c,.i d,.i e,.i f,.i h,.i m,.i i,.i g,.s s],[.l k,.l j,.i n,.i o,.i p,.i q,.i t,.i u,.i v,.i w,.i r]=>
  eV L F [a,b,c,d,e,f,h,m] k j [n,o,p,q,t,u,v,w] λD=>((dH D i g s).1,r=(dH D i g s).2)
 |_,_=>False
def cRtxt:=mkO "rtxt" [hV,sV] EM qH
def EJ :Ar->Prop
 | [.l L,.l F,.i a,.i b,.i c,.i d,.i e,.i f,.i h,.i m,.i i,.i g,.i _,.i _,.b _]=>U32 i/\U32 g/\jW L F [a,b,c,d,e,f,h,m]|_=>False
def qD :Ar->Ar->Prop
 | [.l L,.l F,.i a,.i b,.i c,.i d,.i e,.i f,.i h,.i m,.i i,.i g,.i t,.i z,.b p],[.l k,.l j,.i n,.i o,.i q,.i s,.i u,.i v,.i w,.i x,.i r]=>
  eV L F [a,b,c,d,e,f,h,m] k j [n,o,q,s,u,v,w,x] λD=>((pU D i g t z p).1,r=(pU D i g t z p).2)
 |_,_=>False
def cRplk:=mkO "rplk" [hV,iV,iV,bV] EJ qD
def vS :Ar->Prop
 | [.l L,.l F,.i a,.i b,.i c,.i d,.i e,.i f,.i h,.i m,.i i,.i g]=>U32 i/\U32 g/\jW L F [a,b,c,d,e,f,h,m]|_=>False
def qG :Ar->Ar->Prop
 | [.l L,.l F,.i a,.i b,.i c,.i d,.i e,.i f,.i h,.i m,.i i,.i g],[.l k,.l j,.i n,.i o,.i p,.i q,.i s,.i t,.i u,.i v,.i r]=>
  eV L F [a,b,c,d,e,f,h,m] k j [n,o,p,q,s,t,u,v] λD=>((mL D i g).1,r=(mL D i g).2)
 |_,_=>False
def om:=mkO "rrem" [hV] vS qG
def JM :Ar->Prop
 | [.l L,.l F,.i a,.i b,.i c,.i d,.i e,.i f,.i h,.i m,.i i,.i g,.i x,.i y]=>U32 i/\U32 g/\U32 x/\U32 y/\jW L F [a,b,c,d,e,f,h,m]|_=>False
def sK :Ar->Ar->Prop
 | [.l L,.l F,.i a,.i b,.i c,.i d,.i e,.i f,.i h,.i m,.i i,.i g,.i x,.i y],[.l k,.l j,.i n,.i o,.i p,.i q,.i s,.i t,.i u,.i v,.i r]=>
  eV L F [a,b,c,d,e,f,h,m] k j [n,o,p,q,s,t,u,v] λD=>((eS D i g x y).1,r=(eS D i g x y).2)
 |_,_=>False
def cRmv:=mkO "rmv" [hV,hV] JM sK
def zJ :Ar->Prop
 | [.l L,.l F,.i a,.i b,.i c,.i d,.i e,.i f,.i h,.i m,.i i,.i g,.i j,.i k,.i x,.i y]=>U32 i/\U32 g/\U32 j/\U32 k/\U32 x/\U32 y/\jW L F [a,b,c,d,e,f,h,m]|_=>False
def jX :Ar->Ar->Prop
 | [.l L,.l F,.i a,.i b,.i c,.i d,.i e,.i f,.i h,.i m,.i i,.i g,.i j,.i k,.i x,.i y],[.l o,.l n,.i p,.i q,.i s,.i t,.i u,.i v,.i w,.i z,.i r]=>
  eV L F [a,b,c,d,e,f,h,m] o n [p,q,s,t,u,v,w,z] λD=>((Y3 D i g j k x y).1,r=(Y3 D i g j k x y).2)
 |_,_=>False
def cRns:=mkO "rns" [hV,hV,hV] zJ jX
def uY (L:a8):Nat->Int->Nat
 |0,_=>0|f+1,k=>if k<0 then 0 else uY L f (cI L k 9)+1
def jZ :Ar->Ar->Prop
 | [.l L,.i p,.i c],[.i k]=>∀D K,L=D.L.map Sl.f->WF D K-> ∀q d:Nat,p=q->c=d->(∃s,D.L[q]? =some s/\s.d)->(k= -1/\ ¬Abv D d q)\/ ∃(b:Nat) (s:Sl),k=b/\D.L[b]? =some s/\s.d/\(Abv D d q↔Abv D d b)|_,_=>False
def QY :Ar->Ar->Nat
 | [.l L,_,_],[.i k]=>uY L 1002 k|_,_=>0
def oD :Ar->Ar->Prop
 | [.l L,.l E],[.i i,.l O]=>0<=i/\i<=1/\ ∀(l:List Att) (e:Ed),L=l.map Att.d->E=[e.b]->(i=0->O=L)/\(i=1->bad1 l e=false/\O=(O9 l e).map Att.d)|_,_=>False
def jV :Ar->Ar->Nat
 |_,.i i::_=>(1-i).toNat|_,_=>0
def aR :Ay->List (Nat×(Fm->SS->H6))
 |87=>[(0,E1 U0 "rup" (F7 [(14,.int .i64)] nob) (gh2 (l8 4 0)<|gh2 (m9 10)<|m9 11) jZ QY)]
 |140=>[(0,E1 U0 "rap" (F7 [(7,.int .i64),(6,.lst vC)] nob) (gh2 (m9 0)<|m9 1) oD jV)]
 |f=>aS f
def dY :Nat->List (Ay×Con)
 |n=>[(136,ld),(137,ol),(30,rc),(132,cRcp),(142,cRpl),(143,cRput),(133,cRwit),(138,cFnd),(176,cRins)]++(if n=0 then []else [(140,cRap)])++ [(LVn,dk "lives")]
def jT :Nat->Aw->E4:=dS
def DM.N (D:DM)(c:Nat):Prop:=∃s,D.L[c]? =some s/\s.d
def pY :Ar->Prop
 | [.l L,.l F,.i a,.i b,.i c,.i d,.i e,.i f,.i h,.i m,.i i]=>∃(D:DM) (K g:Nat),Rf D L F [a,b,c,d,e,f,h,m]/\WF D K/\i=g/\D.N g|_=>False
def pZ :Ar->Ar->Prop
 | [.l L,.l F,.i a,.i b,.i c,.i d,.i e,.i f,.i h,.i m,.i i],[.l O]=>∀(D:DM) (K g:Nat),L=D.L.map Sl.f->WF D K->i=g->D.N g->O=(bel D 1001 g).map B9|_,_=>False
def ML (L:a8):Nat->Int->Nat
 |0,_=>1|f+1,i=>1+((cL L i 10).map λr=>ML L f (r.getD 0<|.i 0).j).sum
def sG :Ar->Nat
 | .l L::_::_::_::_::_::_::_::_::_:: .i i::_=>ML L 1001 i|_=>0
def lr:=mkC "rbel" [rfV,iV] pY [ilV] pZ
def dD :Ar->Prop
 | [.l L,.l F,.i a,.i b,.i c,.i d,.i e,.i f,.i h,.i m,.i i,.i n]=>0<=n/\n<=6/\ ∃(D:DM) (K g:Nat),Rf D L F [a,b,c,d,e,f,h,m]/\WF D K/\i=g/\D.N g|_=>False
def gF :Ar->Ar->Prop
 | [.l L,.l F,.i a,.i b,.i c,.i d,.i e,.i f,.i h,.i m,.i i,.i n],[.i k,.s t,.s y,.l g,.s x,.l ch]=>∀(D:DM) (K j:Nat),L=D.L.map Sl.f->WF D K->i=j->D.N j->isT (X9 D n.toNat j) k t y g x ch|_,_=>False
def zU :Ar->Nat
 | [_,_,_,_,_,_,_,_,_,_,_,.i n]=>n.toNat|_=>0
def oi:=mkC "rtre" [rfV,iV,iV] dD [nV] gF
def EB:=vS
def qA :Ar->Ar->Prop
 | [.l L,.l F,.i a,.i b,.i c,.i d,.i e,.i f,.i h,.i m,.i i,.i g],[.l k,.l j,.i n,.i o,.i p,.i q,.i s,.i t,.i u,.i v,.i r]=>
  eV L F [a,b,c,d,e,f,h,m] k j [n,o,p,q,s,t,u,v] λD=>((fL D i g).1,r=(fL D i g).2)
 |_,_=>False
def oo:=mkO "rfre" [hV] EB qA
def Ey :Ar->Ar->Prop
 | [.l L,.i i],[.i k,.l O]=>0<=k/\ ∀(D:DM) (K c:Nat) s,L=D.L.map Sl.f->WF D K->i=c->D.L[c]? =some s->s.d->k<=s.n.e.length/\O=(c::(s.n.e.take k.toNat).flatMap (bel D 1001)).map B9|_,_=>False
def QN :Ar->Ar->Nat
 | [.l L,.i i],.i k::_=>((cL L i 10).length-k).toNat|_,_=>0
def EL :Ar->Ar->Prop
 | [.l L,.i i,.i n,.l C],[.i j,.i k,.s t,.s y,.l a,.s x,.l O]=>0<=j/\j<=C.length/\(O.length:Int)=j/\ ∀(D:DM) (K c:Nat) s,L=D.L.map Sl.f->WF D K->i=c->D.L[c]? =some s->s.d->C=s.n.e.map B9/\k=s.n.j/\t=s.n.o/\y=[]/\a=s.n.d.map Att.d/\x=s.n.m/\O=rows ((s.n.e.take j.toNat).map<|X9 D<|n.toNat-1)|_,_=>False
def QX :Ar->Ar->Nat
 | [_,_,_,.l C],.i j::_=>(C.length-j).toNat|_,_=>0
def sI :Ar->Ar->Prop
 | [.l X,.l L,.l F,.i d,.i e,.i f,.i g,.i h,.i j,.i m,.i n],[.i k,.l c,.l a,.i o,.i p,.i q,.i r,.i s,.i t,.i u,.i v]=>
  0<=k/\k<=X.length/\[o,p,q,r,s,t,u,v]=[d-k,e,f+k,g,h,j,m,n]/\ ∀(D:DM) (l:Ah),L=D.L.map Sl.f->F=D.h.map B9->l.Nodup->(∀b∈l,D.N b)->X=l.map B9->c=((l.take k.toNat).foldl C0 D).L.map Sl.f/\a=((l.take k.toNat).foldl C0 D).h.map B9
 |_,_=>False
def Hj :Ar->Ar->Nat
 | .l X::_,.i k::_=>(X.length-k).toNat|_,_=>0
def BQ :Ay->List (Nat×(Fm->SS->H6))
 |76=>[(0,E1 U0 "rbl" (F7 [(6,.int .i64),(5,.acc qM 1)] nob) (gh2 (l8 2 0)<|m9 1) Ey QN)]
 |82=>[(0,E1 U0 "rtl" (F7 [(9,.int .i64)]<|G9 8 [.int .u8,.str,.str,.lst vC,.str,.acc 30 6]) (gh2 (gh2 (l8 3 0)<|m9 1)<|gh2 (m9 2)<|l8 7 8) EL QX)]
 |79=>[(0,E1 U0 "rfl" (F7 [(9,.int .i64)]<|G9 7<|.acc tRS 11:: .lst qM::g8) (gh2 (m9 8)<|gh2 (l8 2 0)<|PH 2) sI Hj)]
 |f=>aS f
def Fe :Nat->List (Ay×Con)
 |0=>[(LVn,dk "lives")]
 |_=>[(30,rc),(132,cRcp),(76,lr),(LVn,dk "lives")]
def JF :Nat->Aw->E4:=dS
abbrev UW :Ax:=72
def HOK (H:a8):Prop:=∀r∈H,∃i g:Int,r=[.i i,.i g]/\U32 i/\U32 g
def BI (K:Nat)(L F:a8)(bs:Ak)(H S:a8)(fr b:Int)(a:Ak)(N:a8):Prop:=∃D,Rf D L F bs/\RlC D S N fr b a/\WF D K/\HOK H/\H.length<=K
def botL :List Lf:= .ptr 1 13:: .g (.lst tRS):: .g (.lst qM)::(i8++ [.g (.acc tHd 2)])
def OW :List cJ:=(UW,12,botL)::uU
def botF :As->SS->Bb (Ah):=λargs s=>match args with
 | .g b _ _ _::_=>match s.f b with
  |some (.f (.g d _ _ _::_) _ _)=>match rgB s with
   |some r=>some [b,d,r]|none=>none
  |_=>none
 |_=>none
def pV :Vs:= .t (.ptr 0 12)
def mkBR (n:String)(args:List Vs)(pre:Ar->Prop)(b:List Vs)(a:Ar->Ar->Prop):Con:=mkR n (pV::args) OW botF pre b a
def yV :Ar->Prop
 | [.i n,.l L,.l F,.i _,.i _,.i _,.i _,.i _,.i _,.i _,.i _,.l H,.l S,.i fr,.i a,.i _,.i _,.i _,.i _,.i _,.i _,.i _,.i _,.l _,.l N]=>0<=n/\n<256/\HOK H|_=>False
def dR :Ar->Ar->Prop
 |_,[.i i,.i g]=>U32 i/\U32 g|_,_=>False
def cPck:=mkBR "pck" [uV] yV [hV] dR
def Mz :Ar->Prop
 | [.i n]=>0<=n/\n<256|_=>False
def Vg :Ar->Ar->Prop:=λ_ _=>True
def Fh:=Mz
def Fi:=Vg
def nmsF (n:Int):Str:=cS (b9 1 5 [.s [99,108,97,115,115],.s [105,100],.s [120],.s [121],.s [90]]) (n.tmod 5) 0
def txtF (n:Int):Str:=cS (b9 1 4 [.s [],.s [104,105],.s [126],.s [0]]) (n.tmod 4) 0
def rX:=Mz
def rY :Ar->Ar->Prop
 | [.i n],[.s s]=>s=nmsF n|_,_=>False
def kK:=Mz
def oL :Ar->Ar->Prop
 | [.i n],[.s s]=>s=txtF n|_,_=>False
def cTag:=mkC "tag" [uV] Fh [sV] Fi
def cNms:=mkC "nms" [uV] rX [sV] rY
def cTxt:=mkC "txt" [uV] kK [sV] oL
def dP :Ar->Prop
 | .l P:: .l X:: .l L::_=>∃l:Ah,X=l.map B9/\P=l.map (λj:Nat=>[Dat.i j,.i<|cI L j 0])/\(∀j∈l,j<L.length)/\l.length<=1000/\L.length<=1000|_=>False
def fO :Ar->Ar->Prop
 |_,[.i r]=>r=1|_,_=>False
def cHnd:=mkBR "hnd" [.t (.g<|.clp tHd),ilV] dP [iV] fO
def nH :Ar->Prop
 | [.l A,.l B]=>∃l m:List Att,A=l.map Att.d/\B=m.map Att.d/\l.length<=8|_=>False
def dM :Ar->Ar->Prop
 | [.l A,.l B],[.i r]=>(A=B->r=1)/\(A≠B->r=0)|_,_=>False
def cAsm:=mkC "asm" [alV,alV] nH [iV] dM
def rP :Ar->Ar->Prop
 | [.l P,.l X,.l L],[.i k]=>0<=k/\k<=P.length|_,_=>False
def xL:=B2
def Dp :Ar->Ar->Prop
 | [.l A,.l B],[.i k]=>0<=k/\k<=A.length/\A.length=B.length/\A.take k.toNat=B.take k.toNat|_,_=>False
def OO:=B2
def iD :Ay->List (Nat×(Fm->SS->H6))
 |81=>[(0,E1 U0 "hnl" (F7 [(7,.int .i64)] nob) (gh2 (m9 1)<|gh2 (m9 2)<|l8 0 1) rP B2)]
 |80=>[(0,E1 U0 "asl" (F7 [(5,.int .i64)] nob) (gh2 (m9 0)<|m9 1) Dp B2)]
 |_=>[]
def sU :Nat->List (Ay×Con)
 |_=>[(LVn,dk "lives")]
def sE :Nat->Aw->E4:=dS
def B8 (x:Int):Prop:=0<=x/\x<256
def oV :Vs:= .u [.g (.int .u8),.g<|.int .u8,.g<|.int .u8,.g<|.int .u8,.g<|.int .u8]
def Pq :Ar->Prop
 | [.i k,.i x,.i y,.i z,.i s,.l L,.l F,.i a,.i b,.i c,.i d,.i e,.i f,.i g,.i h,.l H,.l S,.i fr,.i u,.i j,.i m,.i n,.i o,.i p,.i q,.i r,.i t,.l _,.l N]=>
  B8 k/\B8 x/\B8 y/\B8 z/\B8 s/\ ∃K,K+1<=1000/\BI K L F [a,b,c,d,e,f,g,h] H S fr u [j,m,n,o,p,q,r,t] N
 |_=>False
def Cd :Ar->Ar->Prop
 | [.i _,.i _,.i _,.i _,.i _,.l L,.l F,.i b0,.i b1,.i b2,.i b3,.i b4,.i b5,.i b6,.i b7,.l H,.l S,.i fr,.i lv,.i c0,.i c1,.i c2,.i c3,.i c4,.i c5,.i c6,.i c7,.l _,.l N],
  [.i r,.l L',.l F',.i b0',.i b1',.i b2',.i b3',.i b4',.i b5',.i b6',.i b7',.l H',.l S',.i fr',.i lv',.i c0',.i c1',.i c2',.i c3',.i c4',.i c5',.i c6',.i c7',.l _,.l N']=>
  r=1/\Fr S N S' N'/\ ∀K,K+1<=1000->BI K L F [b0,b1,b2,b3,b4,b5,b6,b7] H S fr lv [c0,c1,c2,c3,c4,c5,c6,c7] N->BI (K+1) L' F' [b0',b1',b2',b3',b4',b5',b6',b7'] H' S' fr' lv' [c0',c1',c2',c3',c4',c5',c6',c7'] N'
 |_,_=>False
def cDo :Con:=⟨ "do",[pV,oV],OW,botF,Pq,[iV],OW,noB,Cd⟩
def Um :Ay->List (Nat×(Fm->SS->H6)):=aQ
def RD :Nat->List (Ay×Con)
 | _ => [(122, cTag), (124, cNms), (123, cTxt),
   (61,cCre),(89,cEdt),(126,cStx),(130,cPlk),(27,cIns),(54,cRem),(128,cMov),(46,cFre),
   (85,ot),(86,ou),(127,cRtxt),(131,cRplk),(87,cRns),(78,om),(129,cRmv),(79,oo),(LVn,dk "lives")]
def QF :Nat->Aw->E4
 |_,P=>[(121,kro P U0 cPck)]
def Ke :Ar->Prop
 | [.l L,.l F,.i a,.i b,.i c,.i d,.i e,.i f,.i g,.i h,.l H,.l S,.i fr,.i s,.i j,.i k,.i m,.i n,.i o,.i p,.i q,.i r,.l _,.l N]=>
  ∃K,BI K L F [a,b,c,d,e,f,g,h] H S fr s [j,k,m,n,o,p,q,r] N
 |_=>False
def EO :Ar->Ar->Prop
 |_,[.i r]=>r=1|_,_=>False
def cSme:=mkBR "sme" [] Ke [iV] EO
def mM (L:a8)(n:Nat):Ah:=(List.range n).filter λi=>cB L i 1&&decide (cI L i 9<0)
def kE :Ar->Ar->Prop
 | [.l L],[.i k,.l O]=>0<=k/\k<=L.length/\(O.length:Int)<=k/\O=(mM L k.toNat).map B9|_,_=>False
def iG:=B2
def Un :Ay->List (Nat×(Fm->SS->H6))
 |35=>[(0,E1 U0 "sml" (F7 [(5,.int .i64),(4,.acc qM 1)] nob) (l8 0 1) kE B2)]
 |_=>[]
def RE :Nat->List (Ay×Con)
 |_=>[(82,oi),(22,lq),(15,cSam),(80,cAsm),(LVn,dk "lives")]
def QG :Nat->Aw->E4
 |_,P=>[(50,kro P U0 lf),(12,kro P U0 cTee),(83,kro P U0 cRoo),(135,kro P U0 cWai),(81,kro P U0 cHnd)]
section
variable {D Y:DM}{K a b c p k:Nat}{s Z X:Sl}
def Gj {p q:Nat->Bool}:∀ {l:Ah} {x:Nat},(∀y,p y=true->q y=true)->x∈l->q x=true->p x=false->l.countP p<l.countP q
 |y::l,x,h,b,c,d=>by have a:∀l:Ah,l.countP p<=l.countP q:=λl=>List.countP_mono_left λy _=>h y;rw[List.countP_cons,List.countP_cons];obtain rfl|b:=Xw.1 b;have:=a l;rw[c,d];simp;omega;have:=Gj h b c d;have:p y->q y:=h y;cases e:p y<;>cases f:q y<;>simp_all<;>omega
def Eu (f:D.L.length<=K){r:Nat->Nat}(c:∀(i:Nat) s,D.L[i]? =some s->s.d=true-> ∀j∈s.n.e,r i<r j):∃r:Nat->Nat,(∀i,r i<=K)/\ ∀(i:Nat) s,D.L[i]? =some s->s.d-> ∀j∈s.n.e,r i<r j:=by
 refine⟨λi=>(List.range D.L.length).countP λj=>decide<|r j<r i,λi=>?_,λi s a d j b=>?_⟩;have:=List.countP_le_length (p:=λj=>decide<|r j<r i) (l:=List.range D.L.length);rw[List.length_range]at this;show(List.range D.L.length).countP (λj=>decide<|r j<r i)<=K;omega
 .have h:=c i s a d j b;refine Gj (x:=i) (λy e=>?_) (List.mem_range.2 (WM.1 a).1) (by simpa using h) (by simp);have:r y<r i:=by simpa using e
  simp;omega
structure Sim (D Y:DM):Prop where
 f:Y.L.length=D.L.length
 d:∀(j:Nat) s',Y.L[j]? =some s'-> ∃s,D.L[j]? =some s/\s'.g=s.g/\s'.d=s.d/\s'.n.h=s.n.h/\s'.n.e=s.n.e/\s'.n.j=s.n.j/\(s.d=true->vAt s.n.d->vAt s'.n.d/\(s.n.j=2->s.n.d=[]->s'.n.d=[]))
 e:∀(j:Nat) s,D.L[j]? =some s-> ∃s',Y.L[j]? =some s'/\s'.g=s.g/\s'.d=s.d/\s'.n.h=s.n.h/\s'.n.e=s.n.e
 h:Y.h=D.h
def Cnt (D:DM)(K:Nat):Prop:=∃a b c d e f h:Int,D.C=[(D.L.countP (·.d):Int),a,b,c,d,e,f,h]/\a=D.L.countP (·.d)+b/\0<=b/\(∀x∈ [a,b,c,d,e,f,h],0<=x/\x<=K)
def Sim.o (w:WF D K)(h:Sim D Y)(A:K+1<=1000)(B:Cnt Y (K+1)):WF Y (K+1):=by have F:=w.m;refine⟨⟨by rw[h.f];omega,A⟩,λd a=>?_,λi d a b=>?_,λi d a b=>?_,?_,λi d a b=>?_,B,λi d a b=>?_,?_⟩;let⟨j,n⟩:=YV a;let⟨s,c,m,_⟩:=h.d j d n;have:=w.J s<|WT c;omega;let⟨s,c,m,f,o,k,q,_⟩:=h.d i d a;rw[f]at b;rw[o];obtain e| ⟨p,Z,e,l,g,E⟩:=w.u i s c b;exact .inl e;let⟨y,u,z,v,O,J⟩:=h.e p Z l;exact .inr ⟨p,y,e,u,by rw[v];exact g,by rw[J];exact E⟩;let⟨s,c,m,f,o,k,q,_⟩:=h.d i d a;rw[f]at b;rw[k];let⟨l,g⟩:=w.A i s c b;refine⟨l,λj n=>?_⟩;let⟨L,u,z,v⟩:=g j n;let⟨x,G,M,H,I,N⟩:=h.e j L u;exact⟨x,G,by rw[H];exact z,by rw[I];exact v⟩;let⟨r,c,m⟩:=w.B;refine Eu (by rw[h.f];omega) (r:=r) λi d a b j n=>?_;let⟨s,c,_,f,o,k,q,_⟩:=h.d i d a;rw[f]at b;rw[k]at n;exact m i s c b j n;let⟨s,c,_,f,o,k,q,t⟩:=h.d i d a;rw[f]at b;exact(t b<|w.w i s c b).1;let⟨s,c,_,f,o,k,q,t⟩:=h.d i d a;rw[f]at b;let⟨l,g⟩:=w.O i s c b;rw[q,k];exact⟨l,λe=>⟨(g e).1,(t b<|w.w i s c b).2 e (g e).2⟩⟩;rw[h.h];refine⟨w.t.1,λi C=>?_⟩;let⟨s,c,m⟩:=w.t.2 i C;let⟨d,l,_,g,_⟩:=h.e i s c;exact⟨d,l,by rw[g];exact m⟩
def WF.R (w:WF D K)(n:3<=k/\k<=7)(hL:Y.L.countP (·.d)=D.L.countP (·.d))(m:Y.C=D.C.modify k (· +1)):Cnt Y (K+1):=by
 let⟨a,b,c,d,e,f,h,l,g,i,j⟩:=w.P;rw[Cnt,m,hL,l];simp only[List.forall_mem_cons]at j;let⟨o,p,q,r,s,t,u,_⟩:=j;have:k=3\/k=4\/k=5\/k=6\/k=7:=by omega
 obtain rfl|rfl|rfl|rfl|rfl:=this;exact⟨a,b,c+1,d,e,f,h,rfl,g,i,by simp only[List.forall_mem_cons];refine⟨?_,?_,?_,?_,?_,?_,?_,λ_ h=>by simp at h⟩<;>omega⟩;exact⟨a,b,c,d+1,e,f,h,rfl,g,i,by simp only[List.forall_mem_cons];refine⟨?_,?_,?_,?_,?_,?_,?_,λ_ h=>by simp at h⟩<;>omega⟩;exact⟨a,b,c,d,e+1,f,h,rfl,g,i,by simp only[List.forall_mem_cons];refine⟨?_,?_,?_,?_,?_,?_,?_,λ_ h=>by simp at h⟩<;>omega⟩;exact⟨a,b,c,d,e,f+1,h,rfl,g,i,by simp only[List.forall_mem_cons];refine⟨?_,?_,?_,?_,?_,?_,?_,λ_ h=>by simp at h⟩<;>omega⟩;exact⟨a,b,c,d,e,f,h+1,rfl,g,i,by simp only[List.forall_mem_cons];refine⟨?_,?_,?_,?_,?_,?_,?_,λ_ h=>by simp at h⟩<;>omega⟩
def WF.S (w:WF D K)(m:K+1<=1000)(d:D.L[c]? =some s)(o:3<=k/\k<=7){q:Nod->Nod}(b:∀n,(q n).h=n.h/\(q n).e=n.e/\(q n).j=n.j)(i:s.d=true->vAt (q s.n).d/\(s.n.j=2->(q s.n).d=[])):WF ((D.j c q).o k) (K+1):=by
 have get:∀j,((D.j c q).o k).L[j]? =if c=j then D.L[j]?.map (λs=> {s with n:=q s.n})else D.L[j]? :=λj=>j9 ..
 refine Sim.o w ⟨by rw[DM.o,DM.j];simp,λj g a=>?_,λj g a=>?_,rfl⟩ m<|w.R o (CA (f:=λs=> {s with n:=q s.n}) (λ_=>rfl) c) rfl;rw[get]at a;by_cases e:c=j;subst e;rw[Xg rfl,d]at a;cases a;exact⟨s,d,rfl,rfl,(b _).1,(b _).2.1,(b _).2.2,λl _=>⟨(i l).1,λe _=>(i l).2 e⟩⟩;rw[Xd e]at a;exact⟨g,a,rfl,rfl,rfl,rfl,rfl,λ_ h=>⟨h,λ_ h=>h⟩⟩;rw[get];by_cases e:c=j;subst e;rw[d]at a;cases a;rw[Xg rfl,d];exact⟨_,rfl,rfl,rfl,(b _).1,(b _).2.1⟩;rw[Xd e];exact⟨g,a,rfl,rfl,rfl,rfl⟩
def WF.U (w:WF D K)(hK:K+1<=1000)(hk:3<=k/\k<=7)(C:D.L[p]? =some Z)(up:Z.d=true)(V:D.L[c]? =some X)(uc:X.d=true)(ad:p≠c)(U:Z.n.j=1){l:Ah}{z:Int}(hn:l.Nodup)(hl:∀j,j≠c->(j∈l↔j∈Z.n.e))(hz:(z=p/\c∈l)\/(z= -1/\c∉l))(ho:(X.n.h= -1/\(z=p-> ¬Abv D c p))\/X.n.h=p):WF (D.n p c l z k) (K+1):=by
 have lim:=w.m;have get:∀j:Nat,(D.n p c l z k).L[j]? =D.L[j]?.map λs=>(⟨s.g,s.d,{s.n with e:=(if p=j then l else s.n.e),h:=(if c=j then z else s.n.h)}⟩:Sl):=λj=>by
  unfold DM.n DM.o DM.j;simp only[j9];cases D.L[j]? with
  |none=>simp|some s=>by_cases e:p=j<;>by_cases u:c=j<;>simp[e,u]
 have y:∀ {j d},(D.n p c l z k).L[j]? =some d-> ∃s,D.L[j]? =some s/\d.g=s.g/\d.d=s.d/\d.n.j=s.n.j/\d.n.d=s.n.d/\d.n.e=(if p=j then l else s.n.e)/\d.n.h=if c=j then z else s.n.h:=λ{j d} h=>by
  rw[get]at h;cases e:D.L[j]? with
  |none=>rw[e]at h;cases h
  |some s=>rw[e]at h;cases h;exact⟨s,rfl,rfl,rfl,rfl,rfl,rfl,rfl⟩
 have A:∀ {j s},D.L[j]? =some s-> ∃d,(D.n p c l z k).L[j]? =some d/\d.d=s.d/\d.n.e=(if p=j then l else s.n.e)/\d.n.h=if c=j then z else s.n.h:=λ{j s} h=>by rw[get,h];exact⟨_,rfl,rfl,rfl,rfl⟩
 have aa:X.n.h=p->c∈Z.n.e:=λe=>by
  rcases w.u c X V uc with u| ⟨q,Q,u,f,_,I⟩;omega
  .have:q=p:=by omega
   subst this;rw[C]at f;cases f;exact I
 have len:(D.n p c l z k).L.length=D.L.length:=by unfold DM.n DM.o DM.j;simp
 have own:∀ {q Q},D.L[q]? =some Q->Q.d=true->c∈Q.n.e->q=p:=λ{q Q} U h2 h3=>by obtain⟨s,v,x,E⟩:=(w.A q Q U h2).2 c h3;rw[V]at v;cases v;rcases ho with h|h<;>omega
 have cnt:(D.n p c l z k).L.countP (·.d)=D.L.countP (·.d):=by
  have:(D.n p c l z k).L.map (·.d)=D.L.map (·.d):=by apply List.ext_getElem?;intro j;rw[XQ,get,XQ];cases D.L[j]? <;>rfl
  have h:=congrArg (List.countP id) this;rwa[List.countP_map,List.countP_map]at h
 refine⟨⟨by rw[len];omega,hK⟩,λd b=>?_,λi d b o=>?_,λi d b o=>?_,?_,λi d b o=>?_,w.R hk cnt rfl,λi d b o=>?_,w.t.1,λi hi=>?_⟩;obtain⟨j,t⟩:=YV b;obtain⟨s,f,I,_⟩:=y t;have:=w.J s<|WT f;omega;obtain⟨s,f,I,B,R,O,J,S⟩:=y b;rw[B]at o;rw[S];by_cases e:c=i;rw[Xg e];rcases hz with⟨z1,z2⟩| ⟨z1,_⟩;obtain⟨ab,G,H,N,F⟩:=A C;rw[Xg rfl]at N;exact .inr ⟨p,ab,z1,G,by rw[H];exact up,by rw[N,<-e];exact z2⟩;exact .inl z1;rw[Xd e];rcases w.u i s f o with h| ⟨q,Q,e1,Y,e3,e4⟩;exact .inl h;obtain⟨ac,G,H,N,F⟩:=A Y;refine .inr ⟨q,ac,e1,G,by rw[H];exact e3,?_⟩;rw[N];by_cases u:p=q;subst u;rw[C]at Y;cases Y;rw[Xg rfl];exact(hl i<|Ne.symm e).2 e4;rw[Xd u];exact e4;obtain⟨s,f,I,B,R,O,J,S⟩:=y b;rw[B]at o;rw[J];by_cases e:p=i;subst e;rw[C]at f;cases f;rw[Xg rfl];refine⟨hn,λj t=>?_⟩;by_cases u:j=c;subst u;obtain⟨W,G,H,N,F⟩:=A V;rw[Xg rfl]at F;exact⟨W,G,by rw[H];exact uc,by rw[F];rcases hz with h|h;exact h.1;exact absurd t h.2⟩;obtain⟨W,v,x,E⟩:=(w.A p Z C up).2 j<|(hl j u).1 t;obtain⟨P,G,H,N,F⟩:=A v;rw[Xd<|Ne.symm u]at F;exact⟨P,G,by rw[H];exact x,by rw[F];exact E⟩;rw[Xd e];refine⟨(w.A i s f o).1,λj t=>?_⟩;have u:j≠c:=λh=>e (own f o<|h▸t).symm;obtain⟨W,v,x,E⟩:=(w.A i s f o).2 j t;obtain⟨P,G,H,N,F⟩:=A v;rw[Xd<|Ne.symm u]at F;exact⟨P,G,by rw[H];exact x,by rw[F];exact E⟩
 .obtain⟨r,_,hr⟩:=w.B;have M:∀ {i d j},(D.n p c l z k).L[i]? =some d->d.d=true->j∈d.n.e->(∃s,D.L[i]? =some s/\s.d=true/\j∈s.n.e)\/(i=p/\j=c/\c∉Z.n.e):=λ{i d j} b o t=>by obtain⟨s,f,I,B,R,O,J,S⟩:=y b;rw[B]at o;rw[J]at t;by_cases e:p=i;subst e;rw[C]at f;cases f;rw[Xg rfl]at t;by_cases u:j=c;subst u;by_cases m:j∈Z.n.e;exact .inl ⟨Z,C,o,m⟩;exact .inr ⟨rfl,rfl,m⟩;exact .inl ⟨Z,C,o,(hl j u).1 t⟩;rw[Xd e]at t;exact .inl ⟨s,f,o,t⟩
  by_cases T:z=p/\X.n.h= -1
  .have hA:¬Abv D c p:=by rcases ho with h|h;exact h.2 T.1;omega
   have cn:c∉Z.n.e:=λm=>by obtain⟨s,v,x,E⟩:=(w.A p Z C up).2 c m;rw[V]at v;cases v;omega
   refine Eu (by rw[len];omega) (r:=λi=>open Classical in if Abv D c i then r i+(r p+1)else r i) λi d b o j t=>?_;rcases M b o t with⟨s,v,x,E⟩| ⟨rfl,rfl,_⟩;have h:=hr i s v x j E;obtain⟨W,f,I,B⟩:=(w.A i s v x).2 j E;by_cases e:Abv D c i;have:Abv D c j:= .B _ _ _ f B e;simp only[Xg e,Xg this];omega;simp only[Xd e];split<;>omega;simp only[Xd hA,Xg<|Abv.z (D:=D) (a:=j)];omega
  refine Eu (by rw[len];omega) (r:=r) λi d b o j t=>?_;rcases M b o t with⟨s,v,x,E⟩| ⟨rfl,rfl,m⟩;exact hr i s v x j E;obtain⟨s,f,I,B,R,O,J,S⟩:=y b;rw[J,Xg rfl]at t;rcases hz with h|h;rcases ho with h'|h';exact absurd ⟨h.1,h'.1⟩ T;exact absurd (aa h') m;exact absurd t h.2
 obtain⟨s,f,I,B,R,O,J,S⟩:=y b;rw[B]at o;rw[O];exact w.w i s f o;obtain⟨s,f,I,B,R,O,J,S⟩:=y b;rw[B]at o;rw[R,O,J];obtain⟨v,x⟩:=w.O i s f o;refine⟨v,λe=>⟨?_,(x e).2⟩⟩;by_cases u:p=i;subst u;rw[C]at f;cases f;omega;rw[Xd u];exact(x e).1;obtain⟨s,U,h2⟩:=w.t.2 i hi;obtain⟨d,v,x,_⟩:=A U;exact⟨d,v,by rw[x];exact h2⟩
end
section
variable {D D':DM}{K a b c p k:Nat}{s Z sc:Sl}{i g j m x y:Int}{l:Ah}
def WF.q (w:WF D K){g:Nat}(h:K<=g)(q:g<=1000):WF D g:=by let⟨E,k,l,m,⟨r,B,C⟩,n,⟨a,b,c,d,e,f,j,v,y,z,A⟩,o,p⟩:=w;refine⟨⟨by omega,q⟩,λs t=>?_,l,m,⟨r,λi=>?_,C⟩,n,⟨a,b,c,d,e,f,j,v,y,z,λx u=>?_⟩,o,p⟩;have:=k s t;omega;have:=B i;omega;have:=A x u;omega
def WF.text (w:WF D K)(b:K+1<=1000){t:Str}:WF (dH D i g t).1 (K+1):=by
 have f:=w.q (Yq K) b;rw[dH];cases h:D.m i g with
 |none=>exact f|some c=>let⟨s,a,j,_⟩:=YX h;simp only;split;exact f;exact w.S b a ⟨by omega,by omega⟩ (λ_=>⟨rfl,rfl,rfl⟩) λd=>⟨w.w c s a d,λe=>((w.O c s a d).2 e).2⟩
def WF.pla (w:WF D K)(d:K+1<=1000){t z:Int}{b:Bool}:WF (pU D i g t z b).1 (K+1):=by
 have h:=w.q (Yq K) d;rw[pU];cases j:D.m i g with
 |none=>exact h|some c=>let⟨s,a,k,_⟩:=YX j;simp only;split;exact h;exact w.S d a ⟨by omega,by omega⟩ (λ_=>⟨rfl,rfl,rfl⟩) λf=>⟨w.w c s a f,λe=>((w.O c s a f).2 e).2⟩
def wL {e:Ed}{a:Att}:∀ {l:List Att},a∈O9 l e->a∈l\/(a.n=e.n/\a.v=e.v)
 | [],h=>by rw[O9,edA] at h;split at h;simp at h;rw[Yh.1 h];exact .inr ⟨rfl,rfl⟩|b::l,h=>by
  have c:a∈edA e->a.n=e.n/\a.v=e.v:=λh=>by rw[edA] at h;split at h;simp at h;rw[Yh.1 h];exact⟨rfl,rfl⟩
  rw[O9] at h;split at h;obtain rfl|h:=Xw.1 h;exact .inl List.mem_cons_self;obtain h|h:=wL h;exact .inl<|Yb _ h;exact .inr h;split at h;obtain h|h:=Xv.1 h;exact .inr<|c h;exact .inl<|Yb _ h;obtain h|h:=Xv.1 h;exact .inr<|c h;exact .inl h
def FV {e:Ed}:∀ {l:List Att},Asc (l.map Att.n)->Asc ((O9 l e).map Att.n)
 | [],_=>by rw[O9,edA];split<;>simp[Asc]|b::l,h=>by
  let⟨j,m⟩:=List.pairwise_cons.1 h;have c:∀ {i:List Att},(∀z∈i.map Att.n,lt e.n z)->Asc (i.map Att.n)->Asc ((edA e++i).map Att.n):=λ{i} q o=>by rw[edA];split;exact o;exact List.pairwise_cons.2 ⟨q,o⟩
  rw[O9];by_cases f:lt b.n e.n;rw[Xg f,XU];refine List.pairwise_cons.2 ⟨λz d=>?_,FV m⟩;obtain⟨a,p,rfl⟩:=Yw.1 d;rcases wL p with h|h;exact j _<|List.mem_map_of_mem h;rw[h.1];exact f;rw[Xd f];by_cases g:b.n=e.n;rw[Xg g];exact c (λz d=>by rw[<-g];exact j z d) m;rw[Xd g];have k:lt e.n b.n=true:=DT (by simpa using f) g;exact c (λz d=>by obtain rfl|d:=Xw.1 d;exact k;exact pO k<|j z d) h
def Vh {l:List Att}{e:Ed}(h:vAt l)(d:cM e)(b:(apF l e).2=0):vAt (apF l e).1:=by rw[apF] at b⊢;split at b;simp at b;split at b;simp at b;next g f=>rw[Xd g,Xd f];refine⟨by simpa using f,λa i=>?_,FV h.2.2⟩;rcases wL i with c|c;exact h.2.1 a c;rw[cM] at d;simp only[WK]at d;rw[c.1,c.2];exact⟨d.1.1,d.1.2⟩
def WF.edt (w:WF D K)(d:K+1<=1000){e:Ed}{r:Int}:WF (V7 D i g e r).1 (K+1):=by
 have a:=w.q (Yq K) d;rw[V7];cases j:D.m i g with
 |none=>exact a|some c=>
  let⟨s,b,n,_⟩:=YX j;simp only;rw[Za b];split;exact a
  .split;exact a
   .split
    .rename_i l k h;refine w.S d b ⟨by omega,by omega⟩ (λ_=>⟨rfl,rfl,rfl⟩) λm=>⟨Vh (w.w c s b m) (by simpa using k) h,λf=>?_⟩
     exact absurd f (by simp at l;omega)
    exact a
def Nx (e:l.Nodup){a:Int}(b:a<0\/(0<=a/\a.toNat∈l)):∃t d,t++d=l/\X7 l c a=t++ [c]++d:=by obtain h| ⟨f,h⟩:=b;exact⟨l,[],by simp,by rw[Ep h];simp⟩;refine⟨l.take<|l.idxOf a.toNat,l.drop<|l.idxOf a.toNat,YH ..,?_⟩;have:=JG (c:=c) e h;rw[this];congr 1;omega
def LN (b:l.Nodup)(g:c∉l){a:Int}(k:a<0\/(0<=a/\a.toNat∈l)):(X7 l c a).Nodup/\ ∀j,j∈X7 l c a↔j=c\/j∈l:=by obtain⟨t,d,rfl,e⟩:=Nx (c:=c) b k;rw[e];constructor;rw[YU]at b⊢;simp only[Xv,not_or]at g;refine⟨YU.2 ⟨b.1,by simp,λq i r f=>?_⟩,b.2.1,λq i r f=>?_⟩;rw[Yh.1 f];rintro rfl;exact g.1 i;obtain h|h:=Xv.1 i;exact b.2.2 q h r f;rw[Yh.1 h];rintro rfl;exact g.2 f;intro j;simp only[Xv,Yh];constructor;rintro ((h|h)|h);exact .inr<|.inl h;exact .inl h;exact .inr<|.inr h;rintro (h|h|h);exact .inl<|.inr h;exact .inl<|.inl h;exact .inr h
def DM.w {a:Int}(h:D.r x y=some a):a= -1\/0<=a:=by rw[DM.r] at h;split at h;cases h;exact .inl rfl;split at h;cases h;exact .inr (by omega);cases h
def DM.u (w:WF D K)(i:D.L[c]? =s)(j:s.d=true)(f:s.n.h≠ -1):∃(p:Nat) (Z:Sl),s.n.h=p/\D.L[p]? =Z/\Z.d=true/\c∈Z.n.e/\p≠c/\Z.n.j=1:=by obtain e| ⟨p,Z,e,b,d,a⟩:=w.u c s i j;exact absurd e f;let⟨r,_,g⟩:=w.B;have:=g p Z b d c a;refine⟨p,Z,e,b,d,a,by rintro rfl;omega,?_⟩;let⟨k,l⟩:=w.O p Z b d;obtain h|h:=k;exact h;rw[(l h).1]at a;simp at a
def WF.W (w:WF D K)(q:K+1<=1000):WF (Y3 D i g j m x y).1 (K+1):=by
 have e:=w.q (Yq K) q;rw[Y3];split
 .rename_i p c a B v u;let⟨Z,b,f,_⟩:=YX B;let⟨sc,l,E,_⟩:=YX v;rw[Za b,Za l];split;exact e
  .split;exact e
   .split;exact e
    .rename_i G d H;rw[not_or]at d;have r:c∉Z.n.e:=λF=>by let⟨s,o,I,J⟩:=(w.A p Z b f).2 c F;rw[l]at o;cases o;omega
     have k:=LN (c:=c) ((w.A p Z b f).1) r (a:=a) (by obtain h|h:=DM.w u;exact .inl (by omega);exact .inr ⟨h,Classical.not_not.1 λt=>H ⟨h,t⟩⟩);exact w.U q ⟨by omega,by omega⟩ b f l E (by rintro rfl;exact d.2 .z) (by simpa using G) k.1 (λj z=>by rw[k.2];simp[z]) (.inl ⟨rfl,(k.2 c).2<|.inl rfl⟩)<|.inl ⟨Classical.not_not.1 d.1,λ_=>d.2⟩
 exact e
def WF.rem (w:WF D K)(f:K+1<=1000):WF (mL D i g).1 (K+1):=by have l:=w.q (Yq K) f;unfold mL;split;rename_i c o;let⟨sc,b,k,_⟩:=YX o;rw[Za b];split;exact l;rename_i r;let⟨p,Z,e,a,d,s,m,n⟩:=DM.u w b k r;rw[e,Xz,Za a];exact w.U f ⟨by omega,by omega⟩ a d b k m n ((w.A p Z a d).1.filter _) (λj q=>by rw[mE];simp[q]) (.inr ⟨rfl,λh=>(mE.1 h).2 rfl⟩)<|.inr e;exact l
def WF.mov (w:WF D K)(o:K+1<=1000):WF (eS D i g x y).1 (K+1):=by have k:=w.q (Yq K) o;unfold eS;split;rename_i c a z v;let⟨sc,f,r,_⟩:=YX z;rw[Za f];split;exact k;rename_i B;let⟨p,Z,e,b,m,C,t,u⟩:=DM.u w f r B;rw[e,Xz,Za b];split;exact k;rename_i q;rw[not_or]at q;have d:=LN (c:=c) (l:=N8 Z.n.e c) ((w.A p Z b m).1.filter _) (λh=>(mE.1 h).2 rfl) (a:=a) (by obtain h|h:=DM.w v;exact .inl (by omega);exact .inr ⟨h,mE.2 ⟨Classical.not_not.1 λs=>q.2 ⟨h,s⟩,λe=>q.1<|by omega⟩⟩);exact w.U o ⟨by omega,by omega⟩ b m f r t u d.1 (λj A=>by rw[d.2,mE];simp[A]) (.inl ⟨rfl,(d.2 c).2<|.inl rfl⟩)<|.inr e;exact k
end
section
variable {D D':DM}{K a b c p k j:Nat}{s Z sc:Sl}{i g m x y:Int}{l:Ah}{n:Nod}
def DM.q (w:WF D K)(u:K+1<=1000):∃(i g:Nat) (l:Ah),(D.b n).2=i/\(D.b n).1.h=l/\(D.b n).1.C=D.C/\(D.b n).1.L.length<=K+1/\(D.b n).1.L[i]? =some ⟨g,true,n⟩/\1<=g/\g<=K+1/\(∀j,j≠i->(D.b n).1.L[j]? =D.L[j]?)/\(∀s,D.L[i]? =some s->s.d=false)/\l.Nodup/\i∉l/\(∀j∈l,j∈D.h)/\(D.b n).1.L.countP (·.d)=D.L.countP (·.d)+1:=by
 have t:=w.m;let⟨k,m⟩:=w.t;rw[DM.b];by_cases e:D.h=[]
 .have d:D.f=⟨D.L++ [⟨1,false,A2 0 [] []⟩],[D.L.length],D.C⟩:=by rw[DM.f,Xg e]
  rw[d];simp only;have p:(D.L++ [⟨1,false,A2 0 [] []⟩])[D.L.length]? =some (⟨1,false,A2 0 [] []⟩:Sl):=by simp
  refine⟨D.L.length,1,[],rfl,rfl,trivial,by simp;omega,by simp only[j9,YE,p];rfl,by omega,by omega,λj a=>?_,λs c=>?_,by simp,by simp,by simp,?_⟩;rw[j9,Xd<|Ne.symm a];by_cases h:j<D.L.length;rw[WS h];rw[YT<|by simp;omega,YT<|by omega];have:=(WM.1 c).1;omega;rw[nY p rfl];simp
 .have d:D.f=D:=by rw[DM.f,Xd e]
  rw[d];cases f:D.h with
  |nil=>exact absurd f e|cons i l=>rw[f]at k m;let⟨q,r⟩:=List.nodup_cons.1 k;let⟨s,b,o⟩:=m i List.mem_cons_self;have:=w.J s<|WT b;simp only;exact⟨i,s.g,l,rfl,rfl,trivial,by simp;omega,by simp only[j9,YE,b];rfl,this.1,this.2,λj a=>by rw[j9,Xd<|Ne.symm a],λv c=>by rw[b]at c;cases c;exact o,r,q,λj a=>Yb _ a,nY b o⟩
def WF.V (w:WF D K)(F:K+1<=1000){q:Int}(T:q=1\/q=2){t x:Str}:WF (z5 D q t x).1 (K+1):=by
 rw[z5];split;exact w.q (Yq K) F;let⟨i,g,l,Y,G,J,M,N,O,e7,B,P,Q,R,S,H⟩:=DM.q (n:=A2 q t x) w F;have z:(((D.b<|A2 q t x).1.o 0).o 1).L=(D.b<|A2 q t x).1.L:=rfl;have un:∀ {j:Nat} {s:Sl},D.L[j]? =some s->s.d->j≠i:=λm o e=>by subst e;rw[P _ m]at o;cases o
 have k:∀ {j:Nat} {s:Sl},(D.b<|A2 q t x).1.L[j]? =some s->(j=i/\s=⟨g,true,A2 q t x⟩)\/(j≠i/\D.L[j]? =some s):=λ{j s} h=>by by_cases e:j=i;subst e;rw[N]at h;cases h;exact .inl ⟨rfl,rfl⟩;rw[B j e]at h;exact .inr ⟨e,h⟩
 show WF ((D.b<|A2 q t x).1.o 0|>.o 1) (K+1);refine⟨⟨M,F⟩,λs u=>?_,λj s u v=>?_,λj s u v=>?_,?_,λj s u v=>?_,?_,λj s u v=>?_,?_,λj y=>?_⟩;let⟨j,y⟩:=YV u;obtain⟨_,rfl⟩| ⟨_,h⟩:=k y;exact⟨O,by simp only;omega⟩;have:=w.J s<|WT h;omega;obtain⟨_,rfl⟩| ⟨_,h⟩:=k u;exact .inl rfl;obtain e| ⟨p,Z,e,m,o,A⟩:=w.u j s h v;exact .inl e;exact .inr ⟨p,Z,e,by rw[z,B p<|un m o];exact m,o,A⟩;obtain⟨_,rfl⟩| ⟨_,h⟩:=k u;exact⟨List.nodup_nil,λj y=>by simp[A2]at y⟩;refine⟨(w.A j s h v).1,λb E=>?_⟩;let⟨W,m,o,A⟩:=(w.A j s h v).2 b E;exact⟨W,by rw[z,B b<|un m o];exact m,o,A⟩;let⟨r,U,V⟩:=w.B;refine⟨r,λi=>by have:=U i;omega,λj s u v b E=>?_⟩;obtain⟨_,rfl⟩| ⟨_,h⟩:=k u;simp[A2]at E;exact V j s h v b E;obtain⟨_,rfl⟩| ⟨_,h⟩:=k u;exact⟨by simp[A2],by simp[A2],by simp[A2,Asc]⟩;exact w.w j s h v;let⟨a,b,c,d,e,f,h,m,o,A,I⟩:=w.P;simp only[List.forall_mem_cons]at I;let⟨q1,q2,q3,q4,q5,q6,q7,_⟩:=I;refine⟨a+1,b,c,d,e,f,h,?_,?_,A,?_⟩;show((D.b<|A2 q t x).1.C.modify 0 (· +1)).modify 1 (· +1)=_;rw[J,m,z,H];rfl;rw[z,H];omega;simp only[List.forall_mem_cons];refine⟨?_,?_,?_,?_,?_,?_,?_,λ_ h=>by simp at h⟩<;>omega;obtain⟨_,rfl⟩| ⟨_,h⟩:=k u;exact⟨T,λ_=>⟨rfl,rfl⟩⟩;exact w.O j s h v;show(D.b<|A2 q t x).1.h.Nodup;rw[G];exact Q;have y:j∈(D.b<|A2 q t x).1.h:=y;rw[G]at y;let⟨s,m,o⟩:=w.t.2 j<|S j y;exact⟨s,by rw[z,B j<|by rintro rfl;exact R y];exact m,o⟩
def SF (w:WF D K):∀(n:Nat) {r:Nat->Nat},(∀i,r i<=K)->(∀(i:Nat) s,D.L[i]? =some s->s.d-> ∀j∈s.n.e,r i<r j)-> ∀ {c:Nat} {s:Sl},D.L[c]? =some s->s.d->K-r c<=n-> ∀(p:Nat) (Z:Sl),p∈bel D 1001 c->D.L[p]? =some Z-> ∀b∈Z.n.e,b∈bel D 1001 c:=by
 intro n;induction n with
 |zero=>
  intro r m o c s g h t p Z f d b k;rw[Z4 w g h]at f⊢;cases e:s.n.e with
  |nil=>
   rw[e]at f;have:p=c:=by simpa using f
   subst this;rw[g]at d;cases d;rw[e]at k;simp at k
  |cons a l=>have:=o c s g h a (by simp[e]);have:=m a;omega
 |succ n u=>intro r m o c s g h t p Z f d b k;rw[Z4 w g h]at f⊢;obtain rfl|f:=Xw.1 f;rw[g]at d;cases d;exact Yb _<|List.mem_flatMap.2 ⟨b,k,kU⟩;let⟨j,q,f⟩:=List.mem_flatMap.1 f;let⟨y,v,x,_⟩:=(w.A c s g h).2 j q;have:=o c s g h j q;have:=m j;exact Yb _<|List.mem_flatMap.2 ⟨j,q,u m o v x (by omega) p Z f d b k⟩
def vK (w:WF D K)(f:D.L[c]? =some s)(g:s.d)(m:∃s,D.L[b]? =some s/\s.d):b∈bel D 1001 c↔Abv D c b:=by
 refine⟨λh=>(M5 w f g b h).1,λh=>?_⟩;let⟨r,u,v⟩:=w.B;induction h with
 |z=>exact kU|B b p x a y k n=>
  let⟨z,d,l⟩:=m;rw[a]at d;cases d;obtain e| ⟨q,j,e,i,o,t⟩:=w.u b x a l;omega
  .have:q=p:=by omega
   subst this;exact SF w _ u v f g (Xh _) q j (n ⟨j,i,o⟩) i b t
def pJ :∀ {X:Ah} {D:DM} {j:Nat} {s:Sl},X.Nodup->j∈X->D.L[j]? =s->(X.foldl C0 D).L[j]? =some ⟨s.g+1,false,A2 0 [] []⟩
 |x::X,D,j,s,f,h,a=>by
  let⟨b,c⟩:=List.nodup_cons.1 f;rw[List.foldl_cons];by_cases e:x=j;subst e;rw[K6 b];simp only[C0,j9];simp[a]
  .have d:j∈X:=by obtain h|h:=Xw.1 h;exact absurd h.symm e;exact h
   refine pJ c d ?_;simp only[C0,j9];rw[Xd e];exact a
def kX :∀ {X:Ah} {D:DM},(X.foldl C0 D).h=X.reverse++D.h
 | [],_=>rfl|x::X,D=>by rw[List.foldl_cons,kX];simp[C0]
def Cf (w:WF D K)(f:D.L[c]? =s)(i:s.d)(x:s.n.h= -1){sj:Sl}(h:D.L[j]? =some sj)(a:sj.d)(m:j∉bel D 1001 c):(∀(q:Nat) g,sj.n.h=q->D.L[q]? =some g->g.d->q∉bel D 1001 c)/\ ∀b∈sj.n.e,b∉bel D 1001 c:=by
 refine⟨λq g e d k t=>m<|(vK w f i ⟨sj,h,a⟩).2<|.B _ _ _ h e<|(vK w f i ⟨g,d,k⟩).1 t,λb o r=>?_⟩;let⟨u,d,k,v⟩:=(w.A j sj h a).2 b o;rcases((vK w f i ⟨u,d,k⟩).1 r).A with e| ⟨q,g,l,y,p⟩;subst e;rw[f]at d;cases d;omega
 .rw[d]at l;cases l;have:q=j:=by omega
  subst this;exact m<|(vK w f i ⟨sj,h,a⟩).2 p
def WF.fre (w:WF D K)(M:K+1<=1000):WF (fL D i g).1 (K+1):=by
 have P:=w.q (Yq K) M;unfold fL;cases S:D.m i g with
 |none=>exact P|some c=>
  obtain⟨s,E,I,_⟩:=YX S;simp only;rw[Za E];split;exact P;rename_i H;have H:s.n.h= -1:=Classical.not_not.1 H;have A:=O4 (f:=1001) w E I;have t:=λb y=>(M5 (f:=1001) w E I b y).2;have u:=λ{j:Nat} {N:Sl}=>Cf (j:=j) (sj:=N) w E I H;generalize bel D 1001 c=X at A t u;have lim:=w.m;have x:∀ {j:Nat} {s:Sl},(X.foldl C0 D).L[j]? =some s->s.d=true->j∉X/\D.L[j]? =some s:=λ{j s} h Q=>by by_cases m:j∈X;obtain⟨p,o,_⟩:=t j m;rw[pJ A m o]at h;cases h;cases Q;rw[K6 m]at h;exact⟨m,h⟩
  have W:=bT A t;refine⟨⟨by show(X.foldl C0 D).L.length<=K+1;rw[xE];omega,M⟩,λp l=>?_,λj p l k=>?_,λj p l k=>?_,?_,λj p l k=>?_,?_,λj p l k=>?_,?_,λj v=>?_⟩;obtain⟨j,v⟩:=YV l;have v:(X.foldl C0 D).L[j]? =some p:=v;by_cases m:j∈X;obtain⟨s1,o,_⟩:=t j m;rw[pJ A m o]at v;cases v;have:=w.J s1<|WT o;simp only;omega;rw[K6 m]at v;have:=w.J p<|WT v;omega;obtain⟨m,h⟩:=x l k;rcases w.u j p h k with e| ⟨q,O,e,o,z,B⟩;exact .inl e;exact .inr ⟨q,O,e,(K6<|(u h k m).1 q O e o z).trans o,z,B⟩;obtain⟨m,h⟩:=x l k;refine⟨(w.A j p h k).1,λb y=>?_⟩;obtain⟨V,o,z,B⟩:=(w.A j p h k).2 b y;exact⟨V,(K6<|(u h k m).2 b y).trans o,z,B⟩;obtain⟨r,T,U⟩:=w.B;exact⟨r,λi=>by have:=T i;omega,λj p l k b y=>U j p (x l k).2 k b y⟩;exact w.w j p (x l k).2 k
  .obtain⟨a,b,c,d,e,f,h,o,z,B,J⟩:=w.P;simp only[List.forall_mem_cons]at J;obtain⟨Y,Z,q3,q4,q5,q6,q7,_⟩:=J;refine⟨a,b+X.length,c,d,e,f,h,?_,?_,by omega,?_⟩
   .show(D.C.modify 0 (· -(X.length:Int))).modify 2 (· +(X.length:Int))=_;rw[o];show [((D.L.countP (·.d):Nat):Int)-X.length,a,b+X.length,c,d,e,f,h]=_;have:((D.L.countP (·.d):Nat):Int)-X.length=(((X.foldl C0 D).L.countP (·.d):Nat):Int):=by omega
    rw[this]
   .show a=(((X.foldl C0 D).L.countP (·.d):Nat):Int)+(b+X.length)
    omega
   simp only[List.forall_mem_cons];refine⟨?_,?_,?_,?_,?_,?_,?_,λ_ h=>by simp at h⟩<;>omega
  exact w.O j p (x l k).2 k;show(X.foldl C0 D).h.Nodup;rw[kX];refine YU.2 ⟨(by rw[List.Nodup,List.pairwise_reverse];exact A.imp Ne.symm),w.t.1,λa R b y e=>?_⟩;subst e;obtain⟨s1,o,z⟩:=t a<|List.mem_reverse.1 R;obtain⟨s2,F,G⟩:=w.t.2 a y;rw[o]at F;cases F;rw[z]at G;cases G;have v:j∈(X.foldl C0 D).h:=v;rw[kX]at v;by_cases m:j∈X;obtain⟨s1,o,_⟩:=t j m;exact⟨_,pJ A m o,rfl⟩;rcases Xv.1 v with h|h;exact absurd (List.mem_reverse.1 h) m;obtain⟨s2,F,G⟩:=w.t.2 j h;exact⟨s2,(K6 m).trans F,G⟩
end
mutual
def M1 :c8->Nat
 | .mk _ _ _ a _ c=>1+a.length+mcosts c
def mcosts :List c8->Nat
 | []=>0|s::l=>M1 s+1+mcosts l
end
def setA (i g:Int)(D:DM)(a:Att):DM:=(V7 D i g ⟨a.n,false,a.v⟩ 1).1
mutual
def X6 (D:DM):c8->DM×Int×Int
 | .mk k t y a x c=>(mntC (z5 D k t x).2.1 (z5 D k t x).2.2.1 (a.foldl (setA (z5 D k t x).2.1 (z5 D k t x).2.2.1) (z5 D k t x).1) c,(z5 D k t x).2.1,(z5 D k t x).2.2.1)
def mntC (i g:Int)(D:DM):List c8->DM
 | []=>D|s::l=>mntC i g (Y3 (X6 D s).1 i g (X6 D s).2.1 (X6 D s).2.2 0 0).1 l
end
section
variable {D :DM}{K:Nat}{i g:Int}{c l m:List c8}{a b:List Att}{s:c8}
def yG :∀ {l m:List c8},mcosts (l++m)=mcosts l+mcosts m
 | [],m=>by simp[mcosts]|s::l,m=>by simp only[Ye,mcosts,yG (l:=l)];omega
def yJ :∀ {l m:List c8} {D:DM},mntC i g D (l++m)=mntC i g (mntC i g D l) m
 | [],m,D=>by simp[mntC]|s::l,m,D=>by simp only[Ye,mntC];exact yJ
def WF.setA (w:WF D K)(b:K+1<=1000){a:Att}:WF (setA i g D a) (K+1):=w.edt b
def WF.N :∀ {a:List Att} {D:DM} {K:Nat},WF D K->K+a.length<=1000->WF (a.foldl (Go.D.setA i g) D) (K+a.length)
 | [],D,K,w,_=>w|x::a,D,K,w,h=>by simp only[XD]at h;have:=WF.N (a:=a) (w.setA (i:=i) (g:=g) (a:=x)<|by omega) (by omega);simp only[List.foldl_cons,XD];rwa[show K+(a.length+1)=K+1+a.length by omega]
def ZP:type_of% @WF.N:=@WF.N
def wJ :K0 s->(s.k=1/\v5 s.t/\s.x=[])\/(s.k=2/\D7 s.x/\s.t=[]):=λh=>by
 cases s;rw[K0] at h;obtain h|h:=h.1
 exact .inr ⟨h.1,h.2.1,h.2.2.1⟩;exact .inl ⟨h.1,h.2.1,h.2.2.2.1⟩
mutual
def WF.Q :∀(s:c8) {D:DM} {K:Nat},WF D K->K0 s->K+M1 s<=1000->WF (X6 D s).1 (K+M1 s)
 | .mk k t y a x c,D,K,w,h,e=>by have f:=wJ h;simp only[M1]at e;simp only[X6,M1];have d:=ZP (i:=(z5 D k t x).2.1) (g:=(z5 D k t x).2.2.1) (a:=a) (w.V (q:=k) (t:=t) (x:=x) (by omega) (by rcases f with h|h;exact .inl h.1;exact .inr h.1)) (by omega);have j:=WF.F c (i:=(z5 D k t x).2.1) (g:=(z5 D k t x).2.2.1) d (by rw[K0] at h;exact h.2) (by omega);rwa[show K+(1+a.length+mcosts c)=K+1+a.length+mcosts c by omega]
def WF.F :∀(l:List c8) {D:DM} {K:Nat} {i g:Int},WF D K->AllAs l->K+mcosts l<=1000->WF (Go.D.mntC i g D l) (K+mcosts l)
 | [],D,K,i,g,w,_,_=>w|s::l,D,K,i,g,w,h,c=>by simp only[mcosts]at c;simp only[Go.D.mntC,mcosts];rw[AllAs] at h;have b:=(WF.Q s w h.1 (by omega)).W (i:=i) (g:=g) (j:=(X6 D s).2.1) (m:=(X6 D s).2.2) (x:=0) (y:=0) (by omega);have d:=WF.F l (i:=i) (g:=g) b h.2 (by omega);rwa[show K+(M1 s+1+mcosts l)=K+M1 s+1+mcosts l by omega]
end
def II (w:WF D K)(i:K+1<=1000){k:Int}{t x:Str}(h:(k=1/\v5 t/\x=[])\/(k=2/\D7 x=true/\t=[])):(z5 D k t x).2.2.2=0/\U32 (z5 D k t x).2.1/\U32 (z5 D k t x).2.2.1:=by
 have j:¬((k=1/\v5 t=false)\/(k=2/\D7 x=false)):=by rcases h with⟨g,b,_⟩| ⟨g,b,_⟩;rintro (⟨_,a⟩| ⟨a,_⟩);rw[b]at a;cases a;omega;rintro (⟨a,_⟩| ⟨_,a⟩);omega;rw[b]at a;cases a
 rw[z5,Xd j];obtain⟨m,f,l,d,o,p,q,c,r,s,_⟩:=DM.q (n:=A2 k t x) w i;have:=(WM.1 c).1;have e:(D.b<|A2 k t x).1.d m=f:=by rw[DM.d,c]
 simp only[d,e];unfold U32;refine⟨trivial,?_,?_⟩<;>omega
mutual
def GH :∀s:c8,K0 s->M1 s+1<=10*s.h
 | .mk k t y a x c,h=>by
  rw[K0] at h;have b:a.length<=8:=by obtain h|h:=h.1;have:a=[]:=h.2.2.2.2.1;simp[this];exact h.2.2.2.2.1
  have:=mcosts_le c h.2;simp only[M1,c8.h];omega
def mcosts_le :∀l:List c8,AllAs l->mcosts l<=10*c8.d l
 | [],_=>by simp[mcosts]|s::l,h=>by rw[AllAs] at h;have:=GH s h.1;have:=mcosts_le l h.2;simp only[mcosts,c8.d];omega
end
end
def DX :Ar->Prop
 | [.i k,.s t,.s y,.l a,.s x,.l c,.l S,.i fr,.i n,.i b,.i d,.i e,.i f,.i g,.i h,.i j,.i m,.l _,.l N]=>∃s D K,isT s k t y a x c/\K0 s/\RlC D S N fr n [b,d,e,f,g,h,j,m]/\WF D K/\K+M1 s<=1000|_=>False
def nX :Ar->Ar->Prop
 | [.i k,.s t,.s y,.l a,.s x,.l c,.l S,.i fr,.i G,.i v,.i w,.i z,.i A,.i B,.i C,.i E,.i F,.l _,.l N],[.i i,.i g,.i r,.l u,.i o,.i p,.i b,.i d,.i e,.i f,.i h,.i j,.i m,.i n,.l _,.l q]=>
  r=0/\U32 i/\U32 g/\Fr S N u q/\ ∀s D K,isT s k t y a x c->K0 s->RlC D S N fr G [v,w,z,A,B,C,E,F]->WF D K->K+M1 s<=1000->RlC (X6 D s).1 u q o p [b,d,e,f,h,j,m,n]/\(i,g)=(X6 D s).2
 |_,_=>False
def GK :Ar->Nat
 |_::_::_::_::_:: .l c::_=>szRs c|_=>0
def mn1B :List cJ:=uU++ [(25,1,[.ptr 0 13]),(99,1,[.clo 43 [(2,1),(3,1)]])]
def mn1F :As->SS->Bb (Ah):=λargs s=>match args,rgB s with
 | [_,.g d _ _ _,.g q _ _ _],some r=>match s.f d with
  |some (.f [.g e _ _ _] _ _)=>some [e,r,d,q]|_=>none
 |_,_=>none
def cMn1 :Con:=⟨ "mn1",[nV,.t<|.ptr 2 1,.t<|.ptr 3 1],mn1B,mn1F,DX,[hV,iV],mn1B,noB,nX⟩
def domCl :List G:=[.acc Mx 4,.int .i64,.int .i64,.int .i64,.int .i64,.int .i64,.int .i64,.int .i64,.int .i64,.int .i64,.int .i64,.bool,.lst My]
def mnB (all:Bool):Fm->SS->Bb (List<|Nat×List G):=λf s=>match lk f 1,lk f 2 with
 |some (.g d _ _ _),some (.g q _ _ _)=>match s.f d with
  |some (.f [.g e _ _ _] _ _)=>some ((e,domCl)::if all then [(d,[.keep]),(q,[.keep])]else [])|_=>none
 |_,_=>none
def DY :Ar->Ar->Prop
 | [.l N,.l S,.i fr,.i C,.i s,.i t,.i u,.i v,.i w,.i x,.i y,.i B,.i i,.i g,.l A],[.l q,.i j,.l r,.i o,.i p,.i c,.i d,.i e,.i f,.i h,.i k,.i m,.i n,.b z,.l _]=>
  z=false/\0<=j/\j<=A.length/\Fr S N r q/\ ∀(a:List Att) D K,A=a.map Att.d->RlC D S N fr C [s,t,u,v,w,x,y,B]->WF D K->K+a.length<=1000->RlC ((a.take j.toNat).foldl (setA i g) D) r q o p [c,d,e,f,h,k,m,n]
 |_,_=>False
def DZ :Ar->Ar->Prop
 | [.l N,.l S,.i fr,.i B,.i s,.i t,.i u,.i v,.i w,.i x,.i y,.i A,.i i,.i g,.l C],[.l q,.i j,.l r,.i o,.i p,.i a,.i d,.i e,.i f,.i h,.i k,.i m,.i n,.b z,.l _]=>
  z=false/\0<=j/\j<=C.length/\Fr S N r q/\ ∀c D K,C=rows c->AllAs c->RlC D S N fr B [s,t,u,v,w,x,y,A]->WF D K->K+mcosts c<=1000->RlC (mntC i g D<|c.take j.toNat) r q o p [a,d,e,f,h,k,m,n]
 |_,_=>False
def LA :Ar->Ar->Nat
 | [_,_,_,_,_,_,_,_,_,_,_,_,_,_,.l A],_:: .i j::_=>(A.length-j).toNat|_,_=>0
abbrev Qj:=LA
def OF :Ay->List (Nat×(Fm->SS->H6))
 | 43 => [(0, E1 U0 "mna" (mkPr rgR [(37, .int .i64)]<|mnB false) (gh2 (gh2 sB domG)<|gh2 (gh2 (l8 6 0)<|l8 6 1)<|m9 35) DY LA),
   (2,E1 U0 "mnc" (mkPr rgR [(52,.int .i64)]<|mnB true) (gh2 (gh2 sB domG)<|gh2 (gh2 (l8 6 0)<|l8 6 1)<|m9 50) DZ Qj)]
 |_=>[]
def Mu :Nat->List (Ay×Con)
 |_=>[(61,cCre),(89,cEdt),(27,cIns),(46,cFre),(LVn,dk "lives")]
def Tn :Nat->Aw->E4:=λ_ _=>[]
open Go Go.Xe Go.Sx
def yh n:=
 ∀x0 x1 x2 g x4 c j B C D F G H I J K L M N,(DX (.i x0::.s x1::.s x2::.l g::.s x4::.l c::JD j B C D F G H I J K L M N)/\GK (.i x0::.s x1::.s x2::.l g::.s x4::.l c::JD j B C D F G H I J K L M N)<n+1)->((x0=2->Ni (ln j) (Nr (ln j)<|Nd (rL<|.i 2::.s []::.s []::.l []::.s x4::.l []::JD j B C D F G H I J K L M N)<|∀d f x21 h p q r t u v w x y z x33 A,dN (.i 2::.s []::.s []::.l []::.s x4::.l []::JD j B C D F G H I J K L M N) (.i d::.i f::.i x21::JD h p q r t u v w x y z x33 A)->Ni (ln h) (Nr (ln h)<|Nd (nX (.i x0::.s x1::.s x2::.l g::.s x4::.l c::JD j B C D F G H I J K L M N)<|.i d::.i f::.i x21::JD h p q r t u v w x y z x33 A) True)))/\(¬x0=2->Ni (ln j) (Nr (ln j)<|Nd (rL<|.i 1::.s x1::.s []::.l []::.s []::.l []::JD j B C D F G H I J K L M N)<|∀d f x21 h p q r t u v w x y z x33 A,dN (.i 1::.s x1::.s []::.l []::.s []::.l []::JD j B C D F G H I J K L M N) (.i d::.i f::.i x21::JD h p q r t u v w x y z x33 A)->((x21=0->Ni (ln h) (Nr (ln h)<|Nd (DY (.l A::.l h::J10 p q r t u v w x y z [.i d,.i f,.l g])<|.l A::.i 0::.l h::J10 p q r t u v w x y z [.b false,.l x33])<|∀O o k P Q R S T U V W X Y x48 x49,DY (.l A::.l h::J10 p q r t u v w x y z [.i d,.i f,.l g]) (.l O::.i o::.l k::J10 P Q R S T U V W X Y [.b x48,.l x49])->((o<ln g->Nd (¬o<0) (Nd (o<ln g)<|Ni (ln k)<|Nr (ln k)<|Nd (¬x48=true)<|Nd (wX<|.i d::.i f::.s (cS g o 0)::.b false::.s (cS g o 1)::.i 1::JD k P Q R S T U V W X Y x49 O)<|∀x50 a m Z x54 x55 x56 x57 x58 x59 x60 x61 x62 x63,dO (.i d::.i f::.s (cS g o 0)::.b false::.s (cS g o 1)::.i 1::JD k P Q R S T U V W X Y x49 O) (.i x50::JD a m Z x54 x55 x56 x57 x58 x59 x60 x61 x62 x63)->Nd (I64<|o+1) (Ni (ln a)<|Nr (ln a)<|Nd (DY (.l A::.l h::J10 p q r t u v w x y z [.i d,.i f,.l g])<|.l x63::.i (o+1)::.l a::J10 m Z x54 x55 x56 x57 x58 x59 x60 x61 [.b false,.l x62])<|Nd (LA (.l A::.l h::J10 p q r t u v w x y z [.i d,.i f,.l g]) (.l x63::.i (o+1)::.l a::J10 m Z x54 x55 x56 x57 x58 x59 x60 x61 [.b false,.l x62])<LA (.l A::.l h::J10 p q r t u v w x y z [.i d,.i f,.l g]) (.l O::.i o::.l k::J10 P Q R S T U V W X Y [.b x48,.l x49])) True)))/\(¬o<ln g->Ni (ln k) (Nr (ln k)<|Nd (DZ (.l O::.l k::J10 P Q R S T U V W X Y [.i d,.i f,.l c])<|.l O::.i 0::.l k::J10 P Q R S T U V W X Y [.b x48,.l x49])<|∀x50 a m Z x54 x55 x56 x57 x58 x59 x60 x61 x62 x63 x64,DZ (.l O::.l k::J10 P Q R S T U V W X Y [.i d,.i f,.l c]) (.l x50::.i a::.l m::J10 Z x54 x55 x56 x57 x58 x59 x60 x61 x62 [.b x63,.l x64])->((a<ln c->Nd (¬a<0) (Nd (a<ln c)<|Ni (ln m)<|Nr (ln m)<|Nd (¬x63=true)<|Nd (DX (.i (cI c a 0)::.s (cS c a 1)::.s (cS c a 2)::.l (cL c a 3)::.s (cS c a 4)::.l (cL c a 5)::JD m Z x54 x55 x56 x57 x58 x59 x60 x61 x62 x64 x50)/\GK (.i (cI c a 0)::.s (cS c a 1)::.s (cS c a 2)::.l (cL c a 3)::.s (cS c a 4)::.l (cL c a 5)::JD m Z x54 x55 x56 x57 x58 x59 x60 x61 x62 x64 x50)<n)<|
 ∀x65 x66 x67 x68 x69 x70 x71 x72 x73 x74 x75 x76 x77 x78 x79 x80,nX (.i (cI c a 0)::.s (cS c a 1)::.s (cS c a 2)::.l (cL c a 3)::.s (cS c a 4)::.l (cL c a 5)::JD m Z x54 x55 x56 x57 x58 x59 x60 x61 x62 x64 x50) (.i x65::.i x66::.i x67::JD x68 x69 x70 x71 x72 x73 x74 x75 x76 x77 x78 x79 x80)->((x67=0->Ni (ln x68) (Nr (ln x68)<|Nd (xQ<|J6 d f x65 x66 0 0<|JD x68 x69 x70 x71 x72 x73 x74 x75 x76 x77 x78 x79 x80)<|∀x81 x82 x83 x84 x85 x86 x87 x88 x89 x90 x91 x92 x93 x94,bW (J6 d f x65 x66 0 0<|JD x68 x69 x70 x71 x72 x73 x74 x75 x76 x77 x78 x79 x80) (.i x81::JD x82 x83 x84 x85 x86 x87 x88 x89 x90 x91 x92 x93 x94)->Nd (I64<|a+1) (Ni (ln x82)<|Nr (ln x82)<|Nd (DZ (.l O::.l k::J10 P Q R S T U V W X Y [.i d,.i f,.l c])<|.l x94::.i (a+1)::.l x82::J10 x83 x84 x85 x86 x87 x88 x89 x90 x91 x92 [.b false,.l x93])<|Nd (Qj (.l O::.l k::J10 P Q R S T U V W X Y [.i d,.i f,.l c]) (.l x94::.i (a+1)::.l x82::J10 x83 x84 x85 x86 x87 x88 x89 x90 x91 x92 [.b false,.l x93])<Qj (.l O::.l k::J10 P Q R S T U V W X Y [.i d,.i f,.l c]) (.l x50::.i a::.l m::J10 Z x54 x55 x56 x57 x58 x59 x60 x61 x62 [.b x63,.l x64])) True)))/\(¬x67=0->Ni (ln x68) (Nr (ln x68)<|Nd (DK<|.i d::.i f::JD x68 x69 x70 x71 x72 x73 x74 x75 x76 x77 x78 x79 x80)<|∀x81 x82 x83 x84 x85 x86 x87 x88 x89 x90 x91 x92 x93 x94,rO (.i d::.i f::JD x68 x69 x70 x71 x72 x73 x74 x75 x76 x77 x78 x79 x80) (.i x81::JD x82 x83 x84 x85 x86 x87 x88 x89 x90 x91 x92 x93 x94)->Ni (ln x82) (Nr (ln x82)<|Nd (nX (.i x0::.s x1::.s x2::.l g::.s x4::.l c::JD j B C D F G H I J K L M N)<|.i 0::.i 0::.i x67::JD x82 x83 x84 x85 x86 x87 x88 x89 x90 x91 x92 x93 x94) True))))))/\(¬a<ln c->Ni (ln m) (Nr (ln m)<|Nd (¬x63=true)<|Nd (nX (.i x0::.s x1::.s x2::.l g::.s x4::.l c::JD j B C D F G H I J K L M N)<|.i d::.i f::.i 0::JD m Z x54 x55 x56 x57 x58 x59 x60 x61 x62 x64 x50) True))))))))/\(¬x21=0->Ni (ln h) (Nr (ln h)<|Nd (nX (.i x0::.s x1::.s x2::.l g::.s x4::.l c::JD j B C D F G H I J K L M N)<|.i d::.i f::.i x21::JD h p q r t u v w x y z x33 A) True))))))
def yg (n:Nat):kq (cMn1.g GK<|n+1) OF ((43,cMn1.g GK n)::Mu 0) (Tn 0) 43=yh n:=by kernel_rfl
def GL (D:DM)(s:c8):X6 D s=(mntC (z5 D s.k s.t s.x).2.1 (z5 D s.k s.t s.x).2.2.1 (s.a.foldl (setA (z5 D s.k s.t s.x).2.1 (z5 D s.k s.t s.x).2.2.1) (z5 D s.k s.t s.x).1) s.c,(z5 D s.k s.t s.x).2.1,(z5 D s.k s.t s.x).2.2.1):=by cases s;simp only[X6];rfl
def Ct (s:c8):M1 s=1+s.a.length+mcosts s.c:=by cases s;simp only[M1];rfl
def rV :∀ {l:List c8} {k:Nat} {c:c8},l[k]? =c->mcosts (l.take k)+M1 c+1<=mcosts l
 | [],k,c,h=>by simp at h|a::l,0,c,h=>by cases h;simp[mcosts]
 |a::l,k+1,c,h=>by have:=rV (l:=l) (k:=k) (by simpa using h);simp only[List.take_succ_cons,mcosts];omega
def tZ (l:List c8)(k:Nat):mcosts (l.take k)<=mcosts l:=by have:=yG (l:=l.take k) (m:=l.drop k);rw[YH]at this;omega
def OR {a:List Att}{j:Int}{x:Att}(h:a[j.toNat]? =some x):cS (a.map Att.d) j 0=x.n/\cS (a.map Att.d) j 1=x.v:=by unfold cS;rw[d9 h 0,d9 h 1];exact⟨rfl,rfl⟩
def Qk {D:DM}{s:c8}(h:K0 s)(e:s.k=2):X6 D s=((z5 D 2 [] s.x).1,(z5 D 2 [] s.x).2.1,(z5 D 2 [] s.x).2.2.1):=by
 cases s with
 |mk k t y a x c=>rw[K0] at h;obtain⟨b,_,d,_,f,g⟩| ⟨b,_⟩:=h.1;have b:k=2:=b;have d:t=[]:=d;have f:a=[]:=f;have g:c=[]:=g;subst b;subst d;subst f;subst g;simp only[X6,mntC,List.foldl_nil];rfl;have b:k=1:=b;have e:k=2:=e;omega
def yf (n:Nat):yh n:=by
 rw[yh];rintro k t y a x c S fr lv c0 c1 c2 c3 c4 c5 c6 c7 st N ⟨⟨s,D,K,⟨rfl,rfl,rfl,rfl,rfl,rfl⟩,J,b,d,v⟩,T⟩;have T:szRs (rows s.c)<n+1:=T;have H:=wJ J;have ai:=Ct s;refine⟨λG=>?_,λG=>?_⟩
 .have h2:D7 s.x:=by obtain h|h:=H;omega;exact h.2.1
  refine nin<|nrn<|ndi ⟨rfl,rfl,rfl,.inr ⟨rfl,rfl⟩,D,K,b,d⟩ λi g r S' au ay b0 b1 b2 b3 b4 b5 b6 b7 bb N' hC=>?_;let⟨hF,Y⟩:=hC;have q:=(Y D K b d).2;let⟨q0,W,q2⟩:=(λw h=>II w (by omega)<|.inr ⟨rfl,h2,rfl⟩) d v;have q:i=(z5 D 2 [] s.x).2.1/\g=(z5 D 2 [] s.x).2.2.1/\r=(z5 D 2 [] s.x).2.2.2:=by have:=q;simp only[Prod.ext_iff]at this;exact this
  refine nin<|nrn<|ndt ⟨by rw[q.2.2,q0],by rw[q.1];exact W,by rw[q.2.1];exact q2,hF,λs' D' K' h E z A o=>?_⟩;rw[y4]at h;rw[h]at E o⊢;rw[Qk J G];let⟨V,l⟩:=Y D' K' z A;refine⟨V,?_⟩;simp only[Prod.ext_iff]at l⊢;exact⟨l.1,l.2.1⟩
 .have H:s.k=1/\v5 s.t/\s.x=[]:=by obtain h|h:=H;exact h;exact absurd h.1 G
  refine nin<|nrn<|ndi ⟨rfl,rfl,rfl,.inl ⟨rfl,rfl⟩,D,K,b,d⟩ λi g r S1 aa al b0 b1 b2 b3 b4 b5 b6 b7 bc N1 hC=>?_;let⟨hF,Y⟩:=hC;have f:∀ {D:DM} {K:Nat},RlC D S N fr lv [c0,c1,c2,c3,c4,c5,c6,c7]->WF D K->K+M1 s<=1000->RlC (z5 D s.k s.t s.x).1 S1 N1 aa al [b0,b1,b2,b3,b4,b5,b6,b7]/\WF (z5 D s.k s.t s.x).1 (K+1)/\i=(z5 D s.k s.t s.x).2.1/\g=(z5 D s.k s.t s.x).2.2.1/\r=0/\U32 i/\U32 g:=λ{D K} b w h=>by let⟨V,l⟩:=Y D K b w;let⟨q0,W,q2⟩:=II (D:=D) (k:=1) (t:=s.t) (x:=[]) w (by omega)<|.inl ⟨rfl,H.2.1,rfl⟩;simp only[Prod.ext_iff]at l;rw[H.1,H.2.2];exact⟨V,w.V (by omega)<|.inl rfl,l.1,l.2.1,l.2.2.trans q0,by rw[l.1];exact W,by rw[l.2.1];exact q2⟩
  let⟨hR1,P,ei,eg,r0,ui,ug⟩:=f b d v;refine⟨λ_=>?_,λh=>absurd r0 h⟩;refine nin<|nrn<|ndi ⟨rfl,by omega,by omega,Fr.e,λa D K e b d v=>by simpa using b⟩ λN2 j S2 ab am d0 d1 d2 d3 d4 d5 d6 d7 z2 be hI=>?_;let⟨z0,j0,j1,L,hI⟩:=hI;have lA:((s.a.map Att.d).length:Int)=s.a.length:=by rw[Xc]
  refine⟨λhj=>?_,λhj=>?_⟩
  .have aj:j<s.a.length:=by rw[ln] at hj;omega
   let⟨x0,hx⟩:=Sx.get_at j0 aj;have a0:=OR hx;refine ag<|ndi hj<|nin<|nrn<|ndi (by simp[z0])<|ndi ⟨ui,ug,by omega,_,_,hI s.a _ (K+1) rfl hR1 P<|by omega,ZP P<|by rw[Xt];omega⟩ λr' S3 ac an f0 f1 f2 f3 f4 f5 f6 f7 ao N3 hE=>?_;let⟨p,hE⟩:=hE;refine ndi (by rw[I64];have:=J;omega)<|nin<|nrn<|ndi ⟨rfl,by omega,by omega,L.d p,λa D K e b d v=>?_⟩<|ndt (by show(_-_:Int).toNat<(_-_:Int).toNat;omega);obtain rfl:=P1 e;have:=(hE _ _ (hI s.a D K rfl b d v)<|ZP d<|by rw[Xt];omega).1;rw[a0.1,a0.2]at this;rw[m8 j0 hx,List.foldl_append];exact this
  .have I:s.a.take j.toNat=s.a:=v7 (by rw[ln] at hj;omega);refine nin<|nrn<|ndi ⟨z0,by omega,by omega,Fr.e,λc D K e _ b d v=>by simpa [mntC]using b⟩ λN3 m S3 ac an f0 f1 f2 f3 f4 f5 f6 f7 z3 ao M=>?_;let⟨y0,m0,m1,p,M⟩:=M;have B:AllAs s.c:=((B4 s).1 J).2;have lC:((rows s.c).length:Int)=s.c.length:=by rw[rows,Xc]
   have R2:∀ {D:DM} {K:Nat},RlC D S N fr lv [c0,c1,c2,c3,c4,c5,c6,c7]->WF D K->K+M1 s<=1000->RlC (s.a.foldl (setA i g) (z5 D s.k s.t s.x).1) S2 N2 ab am [d0,d1,d2,d3,d4,d5,d6,d7]/\WF (s.a.foldl (setA i g) (z5 D s.k s.t s.x).1) (K+1+s.a.length):=λ{D K} b w h=>by let⟨k1,k2,_⟩:=f b w h;have:=hI s.a _ (K+1) rfl k1 k2 (by omega);rw[I]at this;exact⟨this,ZP k2<|by omega⟩
   let⟨ah,Q⟩:=R2 b d v;refine⟨λhm=>?_,λhm=>?_⟩
   .have ak:m<s.c.length:=by rw[ln] at hm;omega
    let⟨u,U⟩:=Sx.get_at m0 ak;have X:=O3 B U;have bi:=aA U;have uc:=rV U;have O:=M s.c _ _ rfl B ah Q (by omega);have tk:=tZ s.c m.toNat;have F:WF _ (K+1+s.a.length+mcosts (s.c.take m.toNat)):=WF.F (s.c.take m.toNat) (i:=i) (g:=g) Q (bM B _) (by omega);have cl:cI (rows s.c) m 0=u.k/\cS (rows s.c) m 1=u.t/\cS (rows s.c) m 2=u.y/\cL (rows s.c) m 3=u.a.map Att.d/\cS (rows s.c) m 4=u.x/\cL (rows s.c) m 5=rows u.c:=by simp only[cI,cS,cL,H7 U,t0,t1,t2,t3,t4,t5,U8,B1,S0,and_self]
    let⟨g0,g1,g2,g3,g4,g5⟩:=cl;rw[g0,g1,g2,g3,g4,g5];refine ag<|ndi hm<|nin<|nrn<|ndi (by simp[y0])<|ndi ⟨⟨u,_,_,⟨rfl,rfl,rfl,rfl,rfl,rfl⟩,X,O,F,by omega⟩,by show szRs (rows u.c)<n;omega⟩ λi' g' r' S4 av az e0 e1 G e3 e4 e5 e6 e7 bg N4 Z=>?_;let⟨rz,aq,ap,ad,Z⟩:=Z;let⟨W,q2⟩:=Z u _ _ ⟨rfl,rfl,rfl,rfl,rfl,rfl⟩ X O F (by omega);refine⟨λ_=>?_,λh=>absurd rz h⟩;refine nin<|nrn<|ndi ⟨ui,ug,aq,ap,by rw[U32];omega,by rw[U32];omega,_,_,W,WF.Q u F X<|by omega⟩ λr5 S5 aw ba h0 h1 h2 h3 h4 h5 h6 h7 bh N5 hN=>?_;let⟨ae,hN⟩:=hN;have ax:=(Z1 ((B4 s).1 J).1).1;refine ndi (by rw[I64];omega)<|nin<|nrn<|ndi ⟨rfl,by omega,by omega,(p.d ad).d ae,λc D K e R b d v=>?_⟩<|ndt (by show(_-_:Int).toNat<(_-_:Int).toNat;omega);have e:=bD.mp e;subst e;have kW:WF _ (K+mcosts (s.c.take m.toNat)):=WF.F (s.c.take m.toNat) (i:=i) (g:=g) d (bM R _) (by omega);let⟨V,l⟩:=Z u _ _ ⟨rfl,rfl,rfl,rfl,rfl,rfl⟩ X (M s.c _ _ rfl R b d v) kW (by omega);have:=(hN _ _ V<|WF.Q u kW X<|by omega).1;rw[m8 m0 U,yJ];simp only[mntC];simp only[Prod.ext_iff]at l;rw[l.1,l.2]at this;exact this
   refine nin<|nrn<|ndi (by simp[y0])<|ndt ⟨rfl,ui,ug,((hF.d L).d p),λs' D' K' h E z A o=>?_⟩;rw[y4]at h;rw[h]at E o⊢;let⟨k1,k2⟩:=R2 z A o;let⟨_,_,e1,G,_⟩:=f z A o;have:=M s.c _ _ rfl B k1 k2 (by omega);rw[v7 (by unfold ln at hm;omega)]at this;rw[GL,<-e1,<-G];exact⟨this,rfl⟩
def Jk :Ar->Prop
 | [.i k,.s t,.s y,.l a,.s x,.l c,.l S,.i fr,.i n,.i b,.i d,.i e,.i f,.i g,.i h,.i j,.i m,.l _,.l N]=>∃s D K,isT s k t y a x c/\RlC D S N fr n [b,d,e,f,g,h,j,m]/\WF D K/\(A9 s->K+M1 s<=1000)|_=>False
def Ea :Ar->Ar->Prop
 | [.i k,.s t,.s y,.l a,.s x,.l c,.l S,.i fr,.i G,.i v,.i w,.i z,.i A,.i B,.i C,.i E,.i F,.l _,.l N],[.i i,.i g,.i r,.l u,.i o,.i p,.i b,.i d,.i e,.i f,.i h,.i j,.i m,.i n,.l _,.l q]=>
  U32 i/\U32 g/\Fr S N u q/\ ∀s D K,isT s k t y a x c->RlC D S N fr G [v,w,z,A,B,C,E,F]->WF D K->(A9 s->K+M1 s<=1000->RlC (X6 D s).1 u q o p [b,d,e,f,h,j,m,n]/\(i,g)=(X6 D s).2/\r=0)/\(¬A9 s->RlC D u q o p [b,d,e,f,h,j,m,n]/\i=0/\g=0/\r=14)
 |_,_=>False
def cMnt:=mkD "mnt" [nV] Jk [hV,iV] Ea
def wgInv :Ar->Ar->Prop
 | [.l C,.i a],[.i i,.i n]=>0<=i/\i<=ln C/\1<=a/\1<=n/\n<=151+151*a|_,_=>False
abbrev wgMu:=B2
def atV :Vs:= .t (.g<|.lst 101)
def IJ :Ar->Prop
 | [.l A,.l B]=>(∃l m:List Att,A=l.map Att.d/\B=m.map Att.d)/\A.length<=1000|_=>False
def jD :Ar->Ar->Prop
 | [.l A,.l B],[.b b]=>b↔A=B|_,_=>False
def cEqb:=mkC "eqb" [atV,atV] IJ [bV] jD
def wY :Ar->Ar->Prop
 | [.l A,.l B],[.i k]=>0<=k/\k<=A.length/\A.length=B.length/\A.take k.toNat=B.take k.toNat|_,_=>False
abbrev Pt:=B2
def EP :Ar->Prop
 | [.i k,.s t,.s y,.l a,.s x,.l c,.i e,.s f,.s h,.l b,.s g,.l d]=>(∃s,isT s k t y a x c/\K0 s)/\ ∃s,isT s e f h b g d/\K0 s|_=>False
def aM :Ar->Ar->Prop
 | [.i k,.s t,.s y,.l a,.s x,.l c,.i g,.s h,.s m,.l e,.s j,.l f],[.b b]=>∀s d,isT s k t y a x c->isT d g h m e j f->(b↔s=d)
 |_,_=>False
def HB :Ar->Nat
 |_::_::_::_::_:: .l c::_=>szRs c|_=>0
def cSmn:=mkC "smn" [nV,nV] EP [bV] aM
abbrev DD:=wY
abbrev Pv:=B2
def Kq:=uL
def Ff :Ar->Ar->Prop
 | [.i k,.s t,.s y,.l a,.s x,.l c],[.i e,.s f,.s h,.l b,.s g,.l d]=>∀s:c8,isT s k t y a x c->(A9 s->isT (R0 false s) e f h b g d)/\(¬A9 s->isT HI e f h b g d)|_,_=>False
def cStp:=mkC "stp" [nV] Kq [nO] Ff
def Jt:=UV
def sC :Ar->Ar->Prop
 | [.i k,.s t,.s y,.l a,.s x,.l c,.i g,.s h,.s m,.l e,.s j,.l f],[.b b]=>∀s d,isT s k t y a x c->isT d g h m e j f->(b↔A9 s/\A9 d/\s=d)
 |_,_=>False
def cNsm:=mkC "nsm" [nV,nV] Jt [bV] sC
def PP :Ar->Prop
 | .i i:: .i g:: .i k:: .s t:: .s y:: .l a:: .s x:: .l c::d=>U32 i/\U32 g/\He d/\ ∃s:c8,isT s k t y a x c|_=>False
def GA :Ar->Ar->Prop
 | [.i i,.i g,.i k,.s t,.s y,.l a,.s x,.l c,.l S,.i fr,.i d,.i _,.i _,.i _,.i _,.i _,.i _,.i _,.i _,.l _,.l N],[.b b,.i r]=>∀D K s,RlE D S N->WF D K->isT s k t y a x c->match D.m i g with
  |none=>r=11/\b=false|some q=>(A9 s->r=0/\(b↔A9 (X9 D 6 q)/\A9 (R0 false s)/\X9 D 6 q=R0 false s))/\(¬A9 s->r=14/\b=false)
 |_,_=>False
def cIs:=mkR "is" [dV,hV,nV] uU Gk PP [bV,iV] GA
def Vr :Ar->Prop:=λ_=>False
def Vt :Ar->Ar->Prop:=λ_ _=>False
def colB :List cJ:=[(tHd,2,[.g (.int .u32),.g<|.int .u32]),(25,1,[.ptr 2 13]),(RK,13,Pr)]
def cCol :Con:=⟨ "col",[.t (.clo 101 [(0,2),(1,1)])],colB,λargs s=>match args with
 | [.H _ _ [.g a _ _ _,.g b _ _ _]]=>match s.f b with
  |some (.f [.g e _ _ _] _ _)=>some [a,b,e]|_=>none
 |_=>none,Vr,[.t (.g<|.lst tHd)],[],noB,Vt⟩
def drpF (D:DM)(i g:Int):DM×Int:=match D.m i g with
 |none=>(D,11)
 |some c=>if(D.e c).h= -1 then fL D i g else fL (mL D i g).1 i g
def gN2 :Fm->SS->List (So×E):=gh2 (m9 0)<|m9 1
def aB :Ay->List (Nat×(Fm->SS->H6))
 |21=>[(0,E1 U0 "wg" (F7 [(6,.int .i64),(5,.int .i64)] nob) (gh2 (l8 2 5)<|m9 1) wgInv wgMu)]
 |164=>[(0,E1 U0 "eqb" (F7 [(13,.int .i64)] nob) gN2 wY Pt)]
 |165=>[(0,E1 U0 "eqn" (F7 [(17,.int .i64)] nob) gN2 DD Pv)]
 |_=>[]
def W7 :Nat->List (Ay×Con)
 |0=>[(LVn,dk "lives")]
 |1=>[(42,gz),(43,cMn1),(LVn,dk "lives")]
 |2=>[(164,cEqb),(LVn,dk "lives")]
 |3=>[(42,gz),(98,cCpd),(LVn,dk "lives")]
 |4=>[(42,gz),(106,cSmn),(LVn,dk "lives")]
 |5=>[(42,gz),(57,cNsm),(58,cStp),(LVn,dk "lives")]
 |6=>[(LVn,dk "lives")]
 |_=>[(54,cRem),(46,cFre),(LVn,dk "lives")]
def fZ :Nat->Aw->E4
 |5,P=>[(12,kro P U0 cTee)]
 |6,P=>[(50,kro P U0 lf),(52,kro P U0 cCol)]
 |7,P=>[(50,kro P U0 lf)]
 |_,_=>[]
open Go Go.Xe Go.Sx
def ye :Prop:=
 ∀b c d f g h a j k m o p q r t u v w x,Jk (.i b::.s c::.s d::.l f::.s g::.l h::JD a j k m o p q r t u v w x)->Nd (V5 [.i b,.s c,.s d,.l f,.s g,.l h]) (∀y,M6 [.i b,.s c,.s d,.l f,.s g,.l h] [.i y]->((y=0->Ni (ln a) (Nr (ln a)<|Nd (DX<|.i b::.s c::.s d::.l f::.s g::.l h::JD a j k m o p q r t u v w x)<|∀A B C z D F G H I J K L M N O P,nX (.i b::.s c::.s d::.l f::.s g::.l h::JD a j k m o p q r t u v w x) (.i A::.i B::.i C::JD z D F G H I J K L M N O P)->Ni (ln z) (Nr (ln z)<|Nd (Ea (.i b::.s c::.s d::.l f::.s g::.l h::JD a j k m o p q r t u v w x)<|.i A::.i B::.i C::JD z D F G H I J K L M N O P) True)))/\(¬y=0->Ni (ln a) (Nr (ln a)<|Nd (Ea (.i b::.s c::.s d::.l f::.s g::.l h::JD a j k m o p q r t u v w x)<|.i 0::.i 0::.i y::JD a j k m o p q r t u v w x) True))))
def yd :kq cMnt aB (W7 1) (fZ 1) 10=ye:=by kernel_rfl
def LE :Prop:=
 ∀a d,IJ [.l a,.l d]->((ln a=ln d->Nd (wY [.l a,.l d] [.i 0]) (∀c,wY [.l a,.l d] [.i c]->((c<ln a->Nd (¬c<0) (Nd (c<ln a)<|Nd (¬c<0)<|Nd (c<ln d)<|(cS a c 0=cS d c 0->((cS a c 1=cS d c 1->Nd (I64<|c+1) (Nd (wY [.l a,.l d] [.i (c+1)])<|Nd (Pt [.l a,.l d] [.i (c+1)]<Pt [.l a,.l d] [.i c]) True))/\(¬cS a c 1=cS d c 1->Nd (jD [.l a,.l d] [.b false]) True)))/\(¬cS a c 0=cS d c 0->Nd (jD [.l a,.l d] [.b false]) True)))/\(¬c<ln a->Nd (jD [.l a,.l d] [.b true]) True))))/\(¬ln a=ln d->Nd (jD [.l a,.l d] [.b false]) True))
def Id :kq cEqb aB (W7 0) (fZ 0) 164=LE:=by kernel_rfl
def ua n:=
 ∀f g h j k c m o p q r d,(EP [.i f,.s g,.s h,.l j,.s k,.l c,.i m,.s o,.s p,.l q,.s r,.l d]/\HB [.i f,.s g,.s h,.l j,.s k,.l c,.i m,.s o,.s p,.l q,.s r,.l d]<n+1)->((f=m->((g=o->((h=p->((k=r->Nd (IJ [.l j,.l q]) (∀t,jD [.l j,.l q] [.b t]->((t=true->((ln c=ln d->Nd (DD [.l c,.l d] [.i 0]) (∀a,DD [.l c,.l d] [.i a]->((a<ln c->Nd (¬a<0) (Nd (a<ln c)<|Nd (¬a<0)<|Nd (a<ln d)<|Nd (EP [.i (cI c a 0),.s<|cS c a 1,.s<|cS c a 2,.l<|cL c a 3,.s<|cS c a 4,.l<|cL c a 5,.i<|cI d a 0,.s<|cS d a 1,.s<|cS d a 2,.l<|cL d a 3,.s<|cS d a 4,.l<|cL d a 5]/\HB [.i (cI c a 0),.s<|cS c a 1,.s<|cS c a 2,.l<|cL c a 3,.s<|cS c a 4,.l<|cL c a 5,.i<|cI d a 0,.s<|cS d a 1,.s<|cS d a 2,.l<|cL d a 3,.s<|cS d a 4,.l<|cL d a 5]<n)<|
 ∀u,aM [.i (cI c a 0),.s<|cS c a 1,.s<|cS c a 2,.l<|cL c a 3,.s<|cS c a 4,.l<|cL c a 5,.i<|cI d a 0,.s<|cS d a 1,.s<|cS d a 2,.l<|cL d a 3,.s<|cS d a 4,.l<|cL d a 5] [.b u]->((u=true->Nd (I64<|a+1) (Nd (DD [.l c,.l d] [.i (a+1)])<|Nd (Pv [.l c,.l d] [.i (a+1)]<Pv [.l c,.l d] [.i a]) True))/\(¬u=true->Nd (aM [.i f,.s g,.s h,.l j,.s k,.l c,.i m,.s o,.s p,.l q,.s r,.l d] [.b false]) True))))/\(¬a<ln c->Nd (aM [.i f,.s g,.s h,.l j,.s k,.l c,.i m,.s o,.s p,.l q,.s r,.l d] [.b true]) True))))/\(¬ln c=ln d->Nd (aM [.i f,.s g,.s h,.l j,.s k,.l c,.i m,.s o,.s p,.l q,.s r,.l d] [.b false]) True)))/\(¬t=true->Nd (aM [.i f,.s g,.s h,.l j,.s k,.l c,.i m,.s o,.s p,.l q,.s r,.l d] [.b false]) True))))/\(¬k=r->Nd (aM [.i f,.s g,.s h,.l j,.s k,.l c,.i m,.s o,.s p,.l q,.s r,.l d] [.b false]) True)))/\(¬h=p->Nd (aM [.i f,.s g,.s h,.l j,.s k,.l c,.i m,.s o,.s p,.l q,.s r,.l d] [.b false]) True)))/\(¬g=o->Nd (aM [.i f,.s g,.s h,.l j,.s k,.l c,.i m,.s o,.s p,.l q,.s r,.l d] [.b false]) True)))/\(¬f=m->Nd (aM [.i f,.s g,.s h,.l j,.s k,.l c,.i m,.s o,.s p,.l q,.s r,.l d] [.b false]) True))
def tz (n:Nat):kq (cSmn.g HB<|n+1) aB ((106,cSmn.g HB n)::W7 2) (fZ 2) 106=ua n:=by kernel_rfl
def ts :Prop:=
 ∀a c d f g h,Kq [.i a,.s c,.s d,.l f,.s g,.l h]->Nd (V5 [.i a,.s c,.s d,.l f,.s g,.l h]) (∀k,M6 [.i a,.s c,.s d,.l f,.s g,.l h] [.i k]->((k=0->Nd (rK [.i a,.s c,.s d,.l f,.s g,.l h,.b false]) (∀m o p j q r,aH [.i a,.s c,.s d,.l f,.s g,.l h,.b false] [.i m,.s o,.s p,.l j,.s q,.l r]->Ni (ln j) (Nr (ln j)<|Nd (Ff [.i a,.s c,.s d,.l f,.s g,.l h] [.i m,.s o,.s p,.l j,.s q,.l r]) True)))/\(¬k=0->Nd (Ff [.i a,.s c,.s d,.l f,.s g,.l h] [.i 0,.s [],.s [],.l [],.s [],.l []]) True)))
def tr :kq cStp aB (W7 3) (fZ 3) 58=ts:=by kernel_rfl
def xr :Prop:=
 ∀a c d f g h j k m o p q,Jt [.i a,.s c,.s d,.l f,.s g,.l h,.i j,.s k,.s m,.l o,.s p,.l q]->Nd (V5 [.i a,.s c,.s d,.l f,.s g,.l h]) (∀r,M6 [.i a,.s c,.s d,.l f,.s g,.l h] [.i r]->((r=0->Nd (V5 [.i j,.s k,.s m,.l o,.s p,.l q]) (∀t,M6 [.i j,.s k,.s m,.l o,.s p,.l q] [.i t]->((t=0->Nd (EP [.i a,.s c,.s d,.l f,.s g,.l h,.i j,.s k,.s m,.l o,.s p,.l q]) (∀u,aM [.i a,.s c,.s d,.l f,.s g,.l h,.i j,.s k,.s m,.l o,.s p,.l q] [.b u]->Nd (sC [.i a,.s c,.s d,.l f,.s g,.l h,.i j,.s k,.s m,.l o,.s p,.l q] [.b u]) True))/\(¬t=0->Nd (sC [.i a,.s c,.s d,.l f,.s g,.l h,.i j,.s k,.s m,.l o,.s p,.l q] [.b false]) True))))/\(¬r=0->Nd (sC [.i a,.s c,.s d,.l f,.s g,.l h,.i j,.s k,.s m,.l o,.s p,.l q] [.b false]) True)))
def xq :kq cNsm aB (W7 4) (fZ 4) 57=xr:=by kernel_rfl
def lh a c d f g h j k m o p q r t u v w x y z A B:=
 Nd (GA (.i a::.i c::.i d::.s f::.s g::.l h::.s j::.l k::JD m o p q r t u v w x y z A) [.b false,.i B]) True
def vcIs :Prop:=
 ∀m o a c d f g h j p q r t u v w x y z A B,PP (.i m::.i o::.i a::.s c::.s d::.l f::.s g::.l h::JD j p q r t u v w x y z A B)->Ni (ln j) (Nr (ln j)<|Nd (gQ<|.i m::.i o::JD j p q r t u v w x y z A B)<|∀G H I D J K C,aN (.i m::.i o::JD j p q r t u v w x y z A B) [.i G,.s H,.s I,.l D,.s J,.l K,.i C]->((C=0->Nd (V5 [.i a,.s c,.s d,.l f,.s g,.l h]) (∀k,M6 [.i a,.s c,.s d,.l f,.s g,.l h] [.i k]->((k=0->Nd (C=0) (Nd (Kq [.i a,.s c,.s d,.l f,.s g,.l h])<|∀L M N F O P,Ff [.i a,.s c,.s d,.l f,.s g,.l h] [.i L,.s M,.s N,.l F,.s O,.l P]->Ni (ln D) (Nr (ln D)<|Ni (ln F)<|Nr (ln F)<|Nd (Jt [.i G,.s H,.s I,.l D,.s J,.l K,.i L,.s M,.s N,.l F,.s O,.l P])<|∀Q,sC [.i G,.s H,.s I,.l D,.s J,.l K,.i L,.s M,.s N,.l F,.s O,.l P] [.b Q]->Nd (GA (.i m::.i o::.i a::.s c::.s d::.l f::.s g::.l h::JD j p q r t u v w x y z A B) [.b Q,.i 0]) True)))/\(¬k=0->lh m o a c d f g h j p q r t u v w x y z A B k))))/\(¬C=0->((C=14->Nd (V5 [.i a,.s c,.s d,.l f,.s g,.l h]) (∀k,M6 [.i a,.s c,.s d,.l f,.s g,.l h] [.i k]->((k=0->Nd (¬C=0) (Nd (GA (.i m::.i o::.i a::.s c::.s d::.l f::.s g::.l h::JD j p q r t u v w x y z A B) [.b false,.i 0]) True))/\(¬k=0->lh m o a c d f g h j p q r t u v w x y z A B k))))/\(¬C=14->lh m o a c d f g h j p q r t u v w x y z A B C)))))
def vcIs_eq :kr cIs aB (W7 5) (fZ 5) 19=vcIs:=by kernel_rfl
mutual
def AO :∀s:c8,R0 true s=s
 | .mk k t y a x c=>by rw[R0,strips_tt c];rfl
def strips_tt :∀l:List c8,strips true l=l
 | []=>rfl|s::l=>by rw[strips,AO s,strips_tt l]
end
def yc :ye:=by rw[ye];rintro k t y a x c S fr lv L M O P Q R T U st N ⟨s,D,K,⟨rfl,rfl,rfl,rfl,rfl,rfl⟩,d,f,u⟩;refine ndi ⟨s,rfl,rfl,rfl,rfl,rfl,rfl⟩ λe w=>?_;have h:=w s ⟨rfl,rfl,rfl,rfl,rfl,rfl⟩;refine⟨λj=>?_,λj=>?_⟩;have v:=h.1.1 j;refine nin<|nrn<|ndi ⟨s,D,K,⟨rfl,rfl,rfl,rfl,rfl,rfl⟩,v.1,d,f,u v⟩ λi g r J p z V W X Y Z d5 d6 d7 E I m=>?_;let⟨C,G,F,q,m⟩:=m;refine nin<|nrn<|ndt ⟨G,F,q,λo D K b d f=>⟨λH l=>?_,λn=>?_⟩⟩;let⟨A,B⟩:=m o D K b H.1 d f l;exact⟨A,B,C⟩;rw[y4]at b;rw[b]at n;exact absurd v n;refine nin<|nrn<|ndt ⟨by rw[U32];omega,by rw[U32];omega,Fr.e,λo D K b d f=>?_⟩;rw[y4]at b;rw[b];exact⟨λv=>absurd (h.1.2 v) j,λ_=>⟨d,rfl,rfl,by have:=h.2;omega⟩⟩
section
variable {A B:a8}{k:Int}
def LZ (c:0<=k)(b:k<A.length):∃r,A[k.toNat]? =some r/\r∈A/\ ∀j,A7 A k j=r.getD j (.i 0):=by let⟨r,a⟩:=Sx.get_at (T:=A) c b;refine⟨r,a,WT a,λj=>?_⟩;have:=d9 (f:=id) a j;rwa[List.map_id]at this
def Gm (a:0<=k)(h:A.take k.toNat=B.take k.toNat)(e:A[k.toNat]? =B[k.toNat]?):A.take (k+1).toNat=B.take (k+1).toNat:=by rw[show(k+1).toNat=k.toNat+1 by omega,List.take_add_one,List.take_add_one,h,e]
def Li (a:¬k<A.length)(h:k<=A.length)(b:A.length=B.length)(e:A.take k.toNat=B.take k.toNat):A=B:=by rwa[XP<|by omega,XP<|by omega]at e
end
def Fd :LE:=by
 unfold LE;intro A B h;obtain⟨⟨l,m,rfl,rfl⟩,z⟩:=h;have no:¬l.map Att.d=m.map Att.d->jD [.l (l.map Att.d),.l<|m.map Att.d] [.b false]:=λh=>⟨λe=>by simp at e,λe=>absurd e h⟩
 refine⟨λo=>ndi ⟨by omega,by omega,by have:((l.map Att.d).length:Int)=(m.map Att.d).length:=o;omega,rfl⟩ λk hI=>?_,λo=>ndt<|no λe=>o<|by rw[e]⟩;obtain⟨p,u,t,q⟩:=hI;refine⟨λc=>?_,λc=>ndt ⟨λ_=>Li c u t q,λ_=>rfl⟩⟩;have c:k<(l.map Att.d).length:=c;have d:k<(m.map Att.d).length:=by omega
 obtain⟨r,g,w,x⟩:=LZ p c;obtain⟨s,s1,s2,y⟩:=LZ p d;obtain⟨a,_,rfl⟩:=Yw.1 w;obtain⟨b,_,rfl⟩:=Yw.1 s2;simp only[cS,x,y];have f:¬(a.n=b.n/\a.v=b.v)->jD [.l (l.map Att.d),.l<|m.map Att.d] [.b false]:=λh=>no λe=>by rw[e,s1]at g;simp[Att.d]at g;exact h ⟨g.1.symm,g.2.symm⟩
 refine ag<|ndi c<|ag<|ndi d ⟨λi=>⟨λj=>ndi (by unfold I64;omega)<|ndi ⟨by omega,by omega,t,Gm p q ?_⟩<|ndt ?_,λj=>ndt<|f λh=>j h.2⟩,λi=>ndt<|f λh=>i h.1⟩;rw[g,s1];unfold Att.d;rw[show a.n=b.n from i,show a.v=b.v from j];show((l.map Att.d).length-(k+1)).toNat<((l.map Att.d).length-k).toNat;omega
def Gh {l:List c8}{j:Int}{u:c8}(b:l[j.toNat]? =u):cI (rows l) j 0=u.k/\cS (rows l) j 1=u.t/\cS (rows l) j 2=u.y/\cL (rows l) j 3=u.a.map Att.d/\cS (rows l) j 4=u.x/\cL (rows l) j 5=rows u.c:=by simp only[cI,cS,cL,H7 b,t0,t1,t2,t3,t4,t5,U8,B1,S0,and_self]
def tw (n:Nat):ua n:=by
 rw[ua];rintro _ _ _ _ _ _ _ _ _ _ _ _ ⟨⟨⟨s,⟨rfl,rfl,rfl,rfl,rfl,rfl⟩,T⟩,d,⟨rfl,rfl,rfl,rfl,rfl,rfl⟩,C⟩,p⟩;have p:szRs (rows s.c)<n+1:=p;have o:=(B4 s).1 T;let⟨S,h8⟩:=Z1 o.1;have no:¬s=d->aM [.i s.k,.s s.t,.s s.y,.l<|s.a.map Att.d,.s s.x,.l<|rows s.c,.i d.k,.s d.t,.s d.y,.l<|d.a.map Att.d,.s d.x,.l<|rows d.c] [.b false]:=λh u u' f g=>by rw[y4]at f g;rw[f,g];exact⟨λe=>by simp at e,λe=>absurd e h⟩
 refine⟨λw=>⟨λz=>⟨λA=>⟨λB=>ndi ⟨⟨s.a,d.a,rfl,rfl⟩,by rw[Xc];omega⟩ λb H=>⟨λK=>⟨λr=>?_,λr=>ndt<|no λe=>r<|by rw[e]⟩,λJ=>ndt<|no λe=>J<|H.2<|by rw[e]⟩,λB=>ndt<|no λe=>B<|by rw[e]⟩,λA=>ndt<|no λe=>A<|by rw[e]⟩,λz=>ndt<|no λe=>z<|by rw[e]⟩,λw=>ndt<|no λe=>w<|by rw[e]⟩;have r:((rows s.c).length:Int)=(rows d.c).length:=r;refine ndi ⟨by omega,by omega,by omega,rfl⟩ λj hI=>?_;let⟨G,U,V,I⟩:=hI;have l1:((rows s.c).length:Int)=s.c.length:=by rw[rows,Xc]
 have l2:((rows d.c).length:Int)=d.c.length:=by rw[rows,Xc]
 refine⟨λq=>?_,λq=>ndt λu u' f g=>?_⟩
 .have E:j<s.c.length:=by rw[ln] at q;omega
  have F:j<d.c.length:=by omega
  let⟨u,f⟩:=Sx.get_at G E;let⟨v,hv⟩:=Sx.get_at G F;let⟨M,N,O,P,Q,R⟩:=Gh f;let⟨W,X,Y,Z,k4,k5⟩:=Gh hv;have aa:=aA f;rw[M,N,O,P,Q,R,W,X,Y,Z,k4,k5];refine ag<|ndi q<|ag<|ndi (by rw[ln];omega)<|ndi ⟨⟨⟨u,⟨rfl,rfl,rfl,rfl,rfl,rfl⟩,O3 o.2 f⟩,v,⟨rfl,rfl,rfl,rfl,rfl,rfl⟩,O3 ((B4 d).1 C).2 hv⟩,by show szRs (rows u.c)<n;omega⟩ λb' m=>?_;have m:=m u v ⟨rfl,rfl,rfl,rfl,rfl,rfl⟩ ⟨rfl,rfl,rfl,rfl,rfl,rfl⟩;refine⟨λt=>ndi (by rw[I64];omega)<|ndi ⟨by omega,by omega,by omega,Gm G I ?_⟩<|ndt ?_,λt=>ndt<|no λe=>t<|m.2 ?_⟩;have e:=m.1 t;rw[rows,rows,XQ,XQ,f,hv,e];show((rows s.c).length-(j+1)).toNat<((rows s.c).length-j).toNat;omega;rw[e,hv]at f;cases f;rfl
 rw[y4]at f g;rw[f,g];exact⟨λ_=>qR w z A (P1<|H.1 K) B<|bD.mp<|Li q U V I,λ_=>rfl⟩
def tq :ts:=by rw[ts];rintro k t y a x c ⟨s,rfl,rfl,rfl,rfl,rfl,rfl⟩;refine ndi ⟨s,rfl,rfl,rfl,rfl,rfl,rfl⟩ λe i=>?_;have h:=(i s ⟨rfl,rfl,rfl,rfl,rfl,rfl⟩).1;refine⟨λd=>ndi ⟨s,⟨rfl,rfl,rfl,rfl,rfl,rfl⟩,(h.1 d).1⟩ λn o q l p m g=>nin<|nrn<|ndt λf b=>?_,λd=>ndt λf b=>?_⟩;have:=g f b;rw[y4]at b;exact⟨λ_=>this,λj=>absurd (by rw[b];exact h.1 d) j⟩;rw[y4]at b;exact⟨λv=>absurd (h.2<|by rw[<-b];exact v) d,λ_=>⟨rfl,rfl,rfl,rfl,rfl,rfl⟩⟩
def xp :xr:=by
 rw[xr];rintro _ _ _ _ _ _ _ _ _ _ _ _ ⟨⟨s,rfl,rfl,rfl,rfl,rfl,rfl⟩,g,rfl,rfl,rfl,rfl,rfl,rfl⟩;have no:¬(A9 s/\A9 g)->sC [.i s.k,.s s.t,.s s.y,.l<|s.a.map Att.d,.s s.x,.l<|rows s.c,.i g.k,.s g.t,.s g.y,.l<|g.a.map Att.d,.s g.x,.l<|rows g.c] [.b false]:=λh u q j d=>by rw[y4]at j d;rw[j,d];exact⟨λe=>by simp at e,λe=>absurd ⟨e.1,e.2.1⟩ h⟩
 refine ndi ⟨s,rfl,rfl,rfl,rfl,rfl,rfl⟩ λe o=>⟨λm=>ndi ⟨g,rfl,rfl,rfl,rfl,rfl,rfl⟩ λf p=>⟨λn=>?_,λn=>ndt<|no λh=>?_⟩,λm=>ndt<|no λh=>?_⟩
 have v:=(o s ⟨rfl,rfl,rfl,rfl,rfl,rfl⟩).1.1 m;have r:=(p g ⟨rfl,rfl,rfl,rfl,rfl,rfl⟩).1.1 n;refine ndi ⟨⟨s,⟨rfl,rfl,rfl,rfl,rfl,rfl⟩,v.1⟩,g,⟨rfl,rfl,rfl,rfl,rfl,rfl⟩,r.1⟩ λb w=>ndt λu q j d=>?_;have:=w u q j d;rw[y4]at j d;rw[this,j,d];exact⟨λe=>⟨v,r,e⟩,λe=>e.2.2⟩;exact n<|(p g ⟨rfl,rfl,rfl,rfl,rfl,rfl⟩).1.2 h.2;exact m<|(o s ⟨rfl,rfl,rfl,rfl,rfl,rfl⟩).1.2 h.1
def vcIs_ok :vcIs:=by
 unfold vcIs;rintro i g k t y a x c S fr G J L E M O P Q R U N ⟨ui,ug,B,s,rfl,rfl,rfl,rfl,rfl,rfl⟩;refine nin<|nrn<|ndi ⟨ui,ug,B⟩ λk' t' y' W x' X r d=>?_;obtain⟨I,V,hR0,F⟩:=B;have o:=d I V ⟨fr,G,hR0⟩ F;have bad:∀e:Int,r≠0->r≠14->lh i g s.k s.t s.y (s.a.map Att.d) s.x (rows s.c) S fr G J L E M O P Q R U N r:=λ_ Y A=>ndt λD K s1 m p j=>by have d:=d D K m p;split at d;rename_i e;rw[e];exact⟨d,rfl⟩;rename_i q e;by_cases v:A9 (X9 D 6 q);exact absurd (d.1 v).1 Y;exact absurd (d.2 v) A
 have z:∀e:Int,(r=0\/r=14)->(e=0↔A9 s)/\(e=0\/e=14)->e≠0->lh i g s.k s.t s.y (s.a.map Att.d) s.x (rows s.c) S fr G J L E M O P Q R U N e:=λe hr h f=>ndt λD K s1 m p j=>by rw[y4]at j;rw[j];have d:=d D K m p;split at d;omega;rename_i q e;rw[e];exact⟨λv=>absurd (h.1.2 v) f,λ_=>⟨by have:=h.2;omega,rfl⟩⟩
 refine⟨λw=>?_,λw=>⟨λu=>?_,λu=>bad 0 w u⟩⟩
 .refine ndi ⟨s,rfl,rfl,rfl,rfl,rfl,rfl⟩ λe f=>?_;have f:=f s ⟨rfl,rfl,rfl,rfl,rfl,rfl⟩;refine⟨λl=>?_,λl=>z e (.inl w) f l⟩;have v:=f.1.1 l;refine ndi w<|ndi ⟨s,rfl,rfl,rfl,rfl,rfl,rfl⟩ λk2 t2 y2 a2 x2 E C=>?_;have C:=(C s ⟨rfl,rfl,rfl,rfl,rfl,rfl⟩).1 v;have ex:∃s2,isT s2 k' t' y' W x' X:=by split at o;omega;rename_i q e;by_cases v:A9 (X9 I 6 q);obtain⟨s2,_,A⟩:=(o.1 v).2;exact⟨s2,A⟩;exact absurd (o.2 v) (by omega)
  refine nin<|nrn<|nin<|nrn<|ndi ⟨ex,_,C⟩ λb Z=>ndt λD K s1 m p j=>?_;rw[y4]at j;rw[j];have d:=d D K m p;split at d;omega
  .rename_i q e;rw[e];have vT:A9 (X9 D 6 q):=Classical.byContradiction λn=>by have:=d.2 n;omega
   obtain⟨_,s2,T,A⟩:=d.1 vT;rw[AO]at T;subst T;exact⟨λ_=>⟨rfl,Z _ _ A C⟩,λH=>absurd v H⟩
 refine ndi ⟨s,rfl,rfl,rfl,rfl,rfl,rfl⟩ λe f=>?_;have f:=f s ⟨rfl,rfl,rfl,rfl,rfl,rfl⟩;refine⟨λl=>ndi w<|ndt λD K s1 m p j=>?_,λl=>z e (.inr u) f l⟩;rw[y4]at j;rw[j];have v:=f.1.1 l;have d:=d D K m p;split at d;omega;rename_i q e;rw[e];exact⟨λ_=>⟨rfl,λh=>by simp at h,λh=>absurd (d.1 h.1).1 w⟩,λH=>absurd v H⟩
def drpL (D:DM)(l:List (Int×Int)):DM:=l.foldl (λD h=>(drpF D h.1 h.2).1) D
mutual
def eE :c8->Nat
 | .mk _ _ _ a _ c=>a.length+attNs c
def attNs :List c8->Nat
 | []=>0|s::l=>eE s+attNs l
end
def Pi:=uL
def IG :Ar->Ar->Prop
 | [.i k,.s t,.s y,.l a,.s x,.l c],[.i b,.i d,.i e,.i f,.i g,.i h,.i j,.i m,.i r]=>∀s:c8,isT s k t y a x c->(A9 s->[b,d,e,f,g,h,j,m]=[(s.h:Int),s.h,0,s.h-1,0,0,eE s,0]/\r=0)/\(¬A9 s->[b,d,e,f,g,h,j,m]=[0,0,0,0,0,0,0,0]/\r=14)|_,_=>False
def c8V :Vs:= .u [.g (.int .i64),.g<|.int .i64,.g<|.int .i64,.g<|.int .i64,.g<|.int .i64,.g<|.int .i64,.g<|.int .i64,.g<|.int .i64]
def cCos:=mkR "cos" [nV] [] noF Pi [c8V,iV] IG
def Qb :Ar->Ar->Prop
 |_,.b r::_=>r|_,_=>False
def O5 (r:Ar):Prop:=∃a b c d e:Int,r=[.i a,.i b,.i c,.i d,.i e]/\B8 a/\B8 b/\B8 c/\B8 d/\B8 e
def Ju :Ar->Prop:=λ_=>True
def Jv :Ar->Ar->Prop
 |_,[.l L,.l F,.i a,.i b,.i c,.i d,.i e,.i f,.i g,.i h,.l H,.l S,.i fr,.i s,.i j,.i k,.i m,.i n,.i o,.i p,.i q,.i r,.l _]=>
  L=[]/\F=[]/\H=[]/\S=[]/\fr=0/\s=0/\[a,b,c,d,e,f,g,h]=[0,0,0,0,0,0,0,0]/\[j,k,m,n,o,p,q,r]=[0,0,0,0,0,0,0,0]
 |_,_=>False
def nwbF :SV->SS->Bb (Ah):=λv s=>match v with
 | .g b _ _ _=>match s.f b with
  |some (.f (.g d _ _ _::_) _ _)=>some [b,d]|_=>none
 |_=>none
def cNwb :Con:=⟨ "nwb",[],[],noF,Ju,[pV],[(UW,12,botL),(RK,13,Pr)],nwbF,Jv⟩
def botP (t:Nat):Fm->SS->Bb (List<|Nat×List G):=λf s=>match lk f t with
 |some (.g b _ _ _)=>match s.f b with
  |some (.f (.g d _ _ _::_) _ _)=>some [(b,.keep:: .lst tRS:: .lst qM::(g8++ [.acc tHd 2])),(d,.acc Mx 4:: .int .i64:: .int .i64::(g8++ [.bool,.lst My]))]|_=>none
 |_=>none
def Iz :Ar->Prop
 | [.l l,.i m,.l L,.l F,.i a,.i b,.i c,.i d,.i e,.i f,.i g,.i h,.l H,.l S,.i fr,.i u,.i j,.i k,.i n,.i o,.i p,.i q,.i s,.i t,.l _,.l N]=>
  (∀r∈l,O5 r)/\0<=m/\m<=40/\BI 0 L F [a,b,c,d,e,f,g,h] H S fr u [j,k,n,o,p,q,s,t] N
 |_=>False
def Du :Ar->Ar->Prop
 | [.l _,.i m,.l _,.l _,.i _,.i _,.i _,.i _,.i _,.i _,.i _,.i _,.l _,.l _,.i _,.i _,.i _,.i _,.i _,.i _,.i _,.i _,.i _,.i _,.l _,.l _],
  [.i r,.l L',.l F',.i b0',.i b1',.i b2',.i b3',.i b4',.i b5',.i b6',.i b7',.l H',.l S',.i fr',.i lv',.i c0',.i c1',.i c2',.i c3',.i c4',.i c5',.i c6',.i c7',.l _,.l N']=>
  r=1/\BI m.toNat L' F' [b0',b1',b2',b3',b4',b5',b6',b7'] H' S' fr' lv' [c0',c1',c2',c3',c4',c5',c6',c7'] N'
 |_,_=>False
def cBpl :Con:=⟨ "bpl",[pV,.t<|.g<|.lst 74,iV],OW,botF,Iz,[iV],OW,noB,Du⟩
def Dv :Ar->Ar->Prop
 | [.l l,.i m],[.l N,.i k,.l L,.l F,.i a,.i c,.i d,.i e,.i f,.i g,.i h,.i j,.l H,.l S,.i fr,.i v,.i n,.i o,.i p,.i q,.i r,.i s,.i t,.i u,.b z,.l _]=>
  0<=k/\k<=l.length/\k<=m/\z=false/\BI k.toNat L F [a,c,d,e,f,g,h,j] H S fr v [n,o,p,q,r,s,t,u] N
 |_,_=>False
def OY :Ar->Ar->Nat
 | .l l::_,_:: .i k::_=>(l.length-k).toNat|_,_=>0
def JI :Ar->Prop
 | [.l L,.l F,.i a,.i b,.i c,.i d,.i e,.i f,.i h,.i m,.i i,.i g]=>U32 i/\U32 g/\ ∃D K q,Rf D L F [a,b,c,d,e,f,h,m]/\WF D K/\D.m i g=some q|_=>False
def JJ :Ar->Ar->Prop
 | [.l L,.l _,.i _,.i _,.i _,.i _,.i _,.i _,.i _,.i _,.i i,.i g],[.l O]=>∀D K q,L=D.L.map Sl.f->WF D K->D.m i g=some q->O=(bel D 1001 q).map (D4 D.d)|_,_=>False
def cRha:=mkC "rha" [rfV,hV] JI [.t (.g<|.lst tHd)] JJ
def zG :Ar->Ar->Prop
 | [.l X,.l L],[.i k,.l O]=>0<=k/\k<=X.length/\(O.length:Int)=k/\ ∀l:Ah,X=l.map B9->O=(l.take k.toNat).map λ(j:Nat)=>[Dat.i j,.i<|cI L j 0]
 |_,_=>False
def Hk:=B2
def Wd :Ar->Prop
 | [.l L,.l F,.i a,.i b,.i c,.i d,.i e,.i f,.i h,.i m,.i i,.i g]=>U32 i/\U32 g/\ ∃D K,Rf D L F [a,b,c,d,e,f,h,m]/\WF D K/\K+1<=1000|_=>False
def We :Ar->Ar->Prop
 | [.l L,.l F,.i a,.i b,.i c,.i d,.i e,.i f,.i h,.i m,.i i,.i g],[.l k,.l j,.i n,.i o,.i p,.i q,.i r,.i s,.i t,.i u]=>
  ∀D K,Rf D L F [a,b,c,d,e,f,h,m]->WF D K->K+1<=1000->Rf (drpF D i g).1 k j [n,o,p,q,r,s,t,u]
 |_,_=>False
def cRdp:=mkC "rdp" [rfV,hV] Wd [rfV] We
def chI (D:DM)(q:Nat):List (Int×Int):=(D.e q).e.map λ(j:Nat)=>((j:Int),(D.d j:Int))
def Wc :Ar->Ar->Prop
 | [.l X,.l L,.l F,.i a,.i b,.i c,.i d,.i e,.i f,.i h,.i m],[.i k,.l j,.l g,.i n,.i o,.i p,.i r,.i s,.i t,.i u,.i v]=>
  0<=k/\k<=X.length/\ ∀D K q,Rf D L F [a,b,c,d,e,f,h,m]->WF D K->D.N q->X=(D.e q).e.map B9->K+2*X.length<=1000->Rf (drpL D<|(chI D q).take k.toNat) j g [n,o,p,r,s,t,u,v]
 |_,_=>False
def rccMu :Ar->Ar->Nat
 | .l X::_,.i k::_=>(X.length-k).toNat|_,_=>0
def IZ :Ar->Prop
 | [.l A,.l B]=>A=B/\A.length<=1000/\ ∀r∈A,∃i g:Int,r=[.i i,.i g]
 |_=>False
def nR :Ar->Ar->Prop
 |_,[.i r]=>r=1|_,_=>False
def cLis:=mkC "lis" [.t (.g<|.clp tHd),.t<|.g<|.lst tHd] IZ [iV] nR
def DQ :Ar->Ar->Prop
 | [.l A],[.i k]=>0<=k/\k<=A.length|_,_=>False
def PY:=B2
def iT :Ay->List (Nat×(Fm->SS->H6))
 |29=>[(0,E1 U0 "bpp" (mkPr rgR [(7,.int .i64)]<|botP 0) (gh2 (m9 1)<|m9 2) Dv OY)]
 |32=>[(0,E1 U0 "rhl" (F7 [(7,.int .i64),(6,.acc tHd 2)] nob) (gh2 (m9 5)<|l8 2 0) zG Hk)]
 |33=>[(0,E1 U0 "rcc" (F7 [(6,.int .i64)]<|G9 2<|.lst tRS:: .lst qM::g8) (gh2 (m9 5)<|gh2 (l8 2 0)<|PH 2) Wc rccMu)]
 |31=>[(0,E1 U0 "lil" (F7 [(5,.int .i64)] nob) (m9 0) DQ PY)]
 |_=>[]
def lT :Nat->List (Ay×Con)
 |0=>[(LVn,dk "lives")]
 |1=>[(75,cDo),(LVn,dk "lives")]
 |2=>[(30,rc),(76,lr),(LVn,dk "lives")]
 |3=>[(78,om),(79,oo),(LVn,dk "lives")]
 |_=>[(30,rc),(34,cRdp),(LVn,dk "lives")]
def vN (_:Nat)(P:Aw):E4:=[]
def ED :Ar->Prop
 | [.l L,.l F,.i b,.i d,.i e,.i f,.i g,.i h,.i j,.i m,.i k,.s t,.s y,.l a,.s x,.l c]=>∃s D K,isT s k t y a x c/\K0 s/\Rf D L F [b,d,e,f,g,h,j,m]/\WF D K/\K+M1 s<=1000|_=>False
def EE :Ar->Ar->Prop
 | [.l L,.l F,.i e,.i f,.i h,.i j,.i m,.i n,.i o,.i p,.i k,.s t,.s y,.l a,.s x,.l c],[.l d,.l b,.i q,.i r,.i u,.i v,.i w,.i z,.i A,.i B,.i i,.i g]=>
  U32 i/\U32 g/\ ∀s D K,isT s k t y a x c->K0 s->Rf D L F [e,f,h,j,m,n,o,p]->WF D K->K+M1 s<=1000->Rf (X6 D s).1 d b [q,r,u,v,w,z,A,B]/\(i,g)=(X6 D s).2
 |_,_=>False
def Hl :Ar->Nat
 |_::_::_::_::_::_::_::_::_::_::_::_::_::_::_:: .l c::_=>szRs c|_=>0
def cRmo:=mkC "rmo" [rfV,nV] ED [rfV,hV] EE
def zI :Ar->Ar->Prop
 | [.l L,.l F,.i d,.i e,.i f,.i h,.i k,.i m,.i n,.i o,.i i,.i g,.l A],[.i j,.l c,.l b,.i p,.i q,.i r,.i s,.i t,.i u,.i v,.i w]=>
  0<=j/\j<=A.length/\ ∀(a:List Att) D K,A=a.map Att.d->Rf D L F [d,e,f,h,k,m,n,o]->WF D K->K+a.length<=1000->Rf ((a.take j.toNat).foldl (setA i g) D) c b [p,q,r,s,t,u,v,w]
 |_,_=>False
def EC :Ar->Ar->Prop
 | [.l L,.l F,.i d,.i e,.i f,.i h,.i k,.i m,.i n,.i o,.i i,.i g,.l C],[.i j,.l b,.l a,.i p,.i q,.i r,.i s,.i t,.i u,.i v,.i w]=>
  0<=j/\j<=C.length/\ ∀c D K,C=rows c->AllAs c->Rf D L F [d,e,f,h,k,m,n,o]->WF D K->K+mcosts c<=1000->Rf (mntC i g D<|c.take j.toNat) b a [p,q,r,s,t,u,v,w]
 |_,_=>False
def LX :Ar->Ar->Nat
 | [_,_,_,_,_,_,_,_,_,_,_,_,.l A],.i j::_=>(A.length-j).toNat|_,_=>0
abbrev QS:=LX
def Ew :Ar->Prop
 | [.i k,.s t,.s y,.l a,.s x,.l c]=>∃s:c8,isT s k t y a x c/\K0 s/\s.h<=64|_=>False
def Ex :Ar->Ar->Prop
 | [.i k,.s t,.s y,.l a,.s x,.l c],[.i n]=>∀s:c8,isT s k t y a x c->n=eE s|_,_=>False
def Hd :Ar->Nat
 |_::_::_::_::_:: .l c::_=>szRs c|_=>0
def cRas:=mkC "ras" [nV] Ew [iV] Ex
def Et :Ar->Ar->Prop
 | [.l A,.l C],[.i j,.i n]=>0<=j/\j<=C.length/\ ∀l:List c8,C=rows l->n=A.length+attNs (l.take j.toNat)|_,_=>False
def QM :Ar->Ar->Nat
 | [_,.l C],.i j::_=>(C.length-j).toNat|_,_=>0
def Dn :Ay->List (Nat×(Fm->SS->H6))
 | 36 => [(0, E1 U0 "rma" (F7 [(10, .int .i64)]<|G9 7<|.lst tRS :: .lst qM :: g8) (gh2 (gh2 (l8 7 0)<|PH 7)<|gh2 (gh2 (l8 8 0)<|l8 8 1)<|l8 3 3) zI LX),
   (2,E1 U0 "rmc" (F7 [(11,.int .i64)]<|G9 7<|.lst tRS:: .lst qM::g8) (gh2 (gh2 (l8 7 0)<|PH 7)<|gh2 (gh2 (l8 8 0)<|l8 8 1)<|l8 3 5) EC QS)]
 |38=>[(0,E1 U0 "ral" (F7 [(4,.int .i64),(3,.int .i64)] nob) (gh2 (l8 1 3)<|l8 1 5) Et QM)]
 |_=>[]
def Fc :Nat->List (Ay×Con)
 |0=>[(85,ot),(86,ou),(87,cRns),(LVn,dk "lives")]
 |_=>[(LVn,dk "lives")]
def LL (_:Nat)(P:Aw):E4:=[]
end Go.D
namespace Go.D
open Go Go.Xe Go.Sx
abbrev tN :Ax:=30
abbrev tS :Ax:=28
noncomputable def niN :Ba:=(PR.info? tN).getD default
def Jr :PR.info? tN=niN:=by kernel_rfl
def yQ :niN.size=6:=by kernel_rfl
def RQ :PR.underlying tS=some (.slice tN):=by kernel_rfl
def agg_N :(PR.underlying tN).map bP=some true:=by kernel_rfl
def kf_N :kf PR tN=[.int .u8,.str,.str,.f 101,.str,.f tN]:=by kernel_rfl
def fa_N (i o:Nat):P8 PR tN (.pointer<|some ⟨i,o,none⟩) 5=some (.pointer<|some ⟨i,o+5,none⟩):=by kernel_rfl
def fa_A (i o:Nat):P8 PR tN (.pointer<|some ⟨i,o,none⟩) 3=some (.pointer<|some ⟨i,o+3,none⟩):=by kernel_rfl
section
variable {Z X:Hp}{Y:Ao}{i o n e z:Nat}{W:Ao}{vs:Af}{v u a:Av}{x y t:Nat}
def st_N (h:Z.m.l i=some (.cells W n e z))(b:o+6<=n)(a:vs.length=6)(c:vs.all Value.oneCell'):G1 PR Z tN (.pointer<|some ⟨i,o,none⟩) (.agg vs.toArray)=some {Z with m:=Z.m.m i<|some<|.cells (fill W o vs) n e z}:=by have:(Value.agg vs.toArray).cells.toList=vs:=rfl;simp only[G1,h,Jr,yQ,this,a,w9,WQ b,c,Bool.and_self,Xa,N7]
variable {k:Int}
def ix_N {q c:Nat}(a:0<=k)(b:k<q):E0 PR tS (.slice (some ⟨i,o,none⟩) q c) (.int .i64 k)=some (.pointer<|some ⟨i,o+k.toNat*6,none⟩):=by simp only[E0,RQ,Jr,yQ,a,b,XZ,Bool.and_self,Xa]
variable {m:T Blk}
def ld_S' {nx:Nat}{b:Blk}(h:m.l i=b)(c:rdC b=(W,n,z))(a:o+1<=n):G4 PR ⟨m,nx⟩ tS (.pointer<|some ⟨i,o,none⟩)=W.l o:=by simp only[G4,h,c,RQ,bP,Xb,WQ a,Xa]
def Cn {nx:Nat}{b:Blk}(h:m.l i=b)(g:rdC b=(W,n,z))(f:o+6<=n)(e:j8 W o 6=vs):G4 PR ⟨m,nx⟩ tN (.pointer<|some ⟨i,o,none⟩)=some (.agg vs.toArray):=by
 have a:=agg_N;cases c:PR.underlying tN with
 |none=>grind|some d=>rw[c]at a;simp at a;simp only[G4,h,g,c,a,Xa,Jr,yQ,WQ f,e]
def C9 (b:Y.l x=a)(h:G4 PR Z t a=v)(call:i9):xop PR call Y Z (.load t<|.tmp x)=(v,Z):=by simp only[xop,ob,i7,b,XB,h,j4]
def P9 (b:Y.l x=a)(c:Y.l y=u)(h:G1 PR Z t a u=X)(call:i9):xop PR call Y Z (.store t (.tmp x)<|.tmp y)=(undef,X):=by simp only[xop,ob,i7,b,c,XB,h]
def WB (a:Y.l x=some (.pointer<|some ⟨i,o,none⟩))(call:i9):xop PR call Y Z (.fieldAddr tN (.tmp x) 5)=some (.pointer<|some ⟨i,o+5,none⟩,Z):=by simp only[xop,ob,i7,a,XB,fa_N,j4]
def Sj (b:Y.l x=a)(c:Y.l y=u)(h:E0 PR t a u=v)(call:i9):xop PR call Y Z (.indexAddr t (.tmp x)<|.tmp y)=(v,Z):=by simp only[xop,ob,i7,b,c,XB,h,j4]
def oP (b:Nat.beq t rgT=false)(c:Y.l x=a)(call:i9):xop PR call Y Z (.box t<|.tmp x)=some (.pointer<|some ⟨Z.d,0,none⟩,⟨Z.m.m Z.d<|some<|.cells (fill .e 0 a.cells.toList) a.cells.toList.length t a.cells.toList.length,Z.d+1⟩):=by simp only[xop,Qv,b,Xb,xnw,i7,c,XB,V3,Hp.g,CZ,Nw.d,J2]
variable {f:Ay}
def Bo {b:Aa}{fn:Func}(c:PR.funcs[f]? =fn)(d:cN fn){ats:Array Ax}(e:Y.l x=a)(h:P0 PR b f [a] Z v X):XOp PR b (.call ⟨.value<|.func f,#[.tmp x],ats⟩) Y Z v X:=
 h.b λn k=>by simp only[xop,ob,Y8,i7,e,XB,nB,c,d,Xa];exact k
def UZ {m:Int}{c:Ax}(a:Y.l x=some (.int .i64 k))(b:Y.l y=some (.int .i64 m))(call:i9):xop PR call Y Z (.binOp .lss t (.tmp x) (.tmp y) c)=some (.bool<|decide<|k<m,Z):=by simp only[xop,ob,i7,a,b,XB,M3,aO,XZ,Xa,K4,mO,j4]
def Sm {c:Ax}(b:Y.l x=some (.int .i64 k))(d:0<=k)(e:k<1000000)(call:i9):xop PR call Y Z (.binOp .add t (.tmp x) (.const<|.int .i64 1) c)=some (.int .i64<|k+1,Z):=by have h:cst (.int .i64 1)=true:=rfl;have a:IntKind.i64.wrap (k+1)=k+1:=wB (by rw[show IntKind.i64.min= -9223372036854775808 from rfl];omega) (by rw[show IntKind.i64.max=9223372036854775807 from rfl];omega);simp only[xop,ob,i7,b,h,XB,M3,aO,XZ,Xa,K4,j4,a]
def qX (b:Y.l x=a)(call:i9):xop PR call Y Z (.move<|.tmp x)=(a,Z):=by simp only[xop,ob,i7,b,XB,j4]
def De (b:Y.l x=a)(call:i9):xop PR call Y Z (.assign<|.tmp x)=(a,Z):=by simp only[xop,ob,i7,b,XB,j4]
def Sp (call:i9):xop PR call Y Z (.move<|.const<|.int .i64 0)=some (.int .i64 0,Z):=by have h:cst (.int .i64 0)=true:=rfl;simp only[xop,ob,i7,h,Xa,j4]
def WD {q:Aq}{l c:Nat}{a:Array Ax}(d:Y.l x=some (.slice q l c))(b:a.toList=[tS])(call:i9):xop PR call Y Z (.call ⟨.builtin .len,#[.tmp x],a⟩)=some (.int .i64 l,Z):=by simp only[xop,ob,Y8,i7,d,XB,C7,b,hJ RQ q l c,j4]
def Ib {c:Aa}{fn:Func}(d:PR.funcs[f]? =fn)(e:cN fn){ats:Array Ax}{y:Nat}{b:Av}(g:Y.l x=a)(i:Y.l y=b)(h:P0 PR c f [a,b] Z v X):XOp PR c (.call ⟨.value<|.func f,#[.tmp x,.tmp y],ats⟩) Y Z v X:=
 h.b λn k=>by simp only[xop,ob,Y8,i7,g,i,XB,nB,d,e,Xa];exact k
def gp {d:Nat}:(A6 Y (some d) v).l x=if x=d then some v else Y.l x:=by rw[A6,ZD]
def gn :(A6 Y none v).l x=Y.l x:=rfl
end
abbrev tAt :Ax:=101
abbrev FB:=Nat->Bb Blk
def at6 (a:Ao)(o:Nat):Nat->Ag:=λq=>a.l<|o+q
def NH (F:FB)(t:c8)(g:Nat->Ag):Prop:=
 g 0=some (.int .u8 t.k)/\g 1=some (.string ⟨t.t.toArray⟩)/\g 2=some (.string ⟨t.y.toArray⟩)/\(∃b,g 3=some b/\PV PR F (.f tAt) b (.l<|t.a.map Att.d))/\g 4=some (.string ⟨t.x.toArray⟩)
def NT (F:FB)(t:c8)(g:Nat->Ag):Prop:=NH F t g/\ ∃a,g 5=some a/\PV PR F (.f tN) a (.l<|rows t.c)
variable {F:FB}{t:c8}{g:Nat->Ag}
def NH.d {i:FB}(h:Fle F i)(k:NH F t g):NH i t g:=by let⟨a,b,c,⟨j,d,e⟩,f⟩:=k;exact⟨a,b,c,⟨j,d,e.O PR h⟩,f⟩
def NT.w {b:FB}(h:Fle F b)(k:NT F t g):NT b t g:=by let⟨a,c,d,e⟩:=k;exact⟨a.d h,c,d,e.O PR h⟩
def Ef (t:c8):t.m=[.i t.k,.s t.t,.s t.y,.l<|t.a.map Att.d,.s t.x,.l<|rows t.c]:=by
 let⟨k,t,y,a,x,c⟩:=t;have b:∀c:List c8,c8.n c=rows c:=λc=>by
  induction c with
  |nil=>rfl|cons s c d=>simp only[c8.n,rows,XU,d]
 simp only[c8.m,c8.k,c8.t,c8.y,c8.a,c8.x,c8.c,b]
def NT.h (h:NT F t g)(k:Nat)(d:Dat)(c:Kd)(a:t.m[k]? =d)(b:(kf PR tN)[k]? =c):∃x,g k=some x/\PV PR F c x d:=by
 let⟨⟨e,f,i,⟨p,n,j⟩,l⟩,q,o,m⟩:=h;rw[Ef]at a;rw[kf_N]at b
 match k,a,b with
 |0,a,b=>cases a;cases b;exact⟨_,e,.int _ _⟩
 |1,a,b=>cases a;cases b;exact⟨_,f,.str _⟩
 |2,a,b=>cases a;cases b;exact⟨_,i,.str _⟩
 |3,a,b=>grind|4,a,b=>cases a;cases b;exact⟨_,l,.str _⟩
 |5,a,b=>grind|k+6,a,b=>simp at a
def NT.d (h:∀k d a,t.m[k]? =some d->(kf PR tN)[k]? =some a-> ∃x,g k=some x/\PV PR F a x d):NT F t g:=by rw[kf_N,Ef]at h;let⟨r,b,l⟩:=h 0 _ _ rfl rfl;let⟨s,c,m⟩:=h 1 _ _ rfl rfl;let⟨u,e,n⟩:=h 2 _ _ rfl rfl;let⟨v,f,o⟩:=h 3 _ _ rfl rfl;let⟨w,i,p⟩:=h 4 _ _ rfl rfl;let⟨y,j,q⟩:=h 5 _ _ rfl rfl;cases l;cases m;cases n;cases p;exact⟨⟨b,c,e,⟨_,f,o⟩,i⟩,_,j,q⟩
def pT (t:c8):t.m.length=6:=by rw[Ef];rfl
end Go.D
namespace Go.D
open Go Go.Xe Go.Sx
def Kp (W:Nat->Prop)(c a:Hp):Prop:=c.d<=a.d/\ ∀b,b<c.d-> ¬W b->a.m.l b=c.m.l b
structure St (W:Nat->Prop)(n0:Nat)(g0:Ac)(J:Nat->(Ac)->Prop)(k:Nat)(hp:Hp):Prop where
 r:n0<=hp.d
 d:∀b,b<n0-> ¬W b->hp.m.l b=g0 b
 j:J k hp.m.l
structure Ip (P:Aw)(ov:Aa)(i:Nat)(W:Nat->Prop)(n0:Nat)(g0:Ac)(J:Nat->(Ac)->Prop)(Y:Nat->Af->Prop):Prop where
 h:∀k g g',J k g->(∀b,W b->g' b=g b)->J k g'
 r:∀b,W b->b<n0
 d:∀k g b,J k g->W b->g b≠some .dfr
 w:∀k args,Y k args-> ∃ws:Af,args=[.agg ws.toArray]/\ws.length=6/\ws.all Value.oneCell'=true
 s:∀k args hp,St W n0 g0 J k hp->Y k args-> ∃hp',FP P ov i args hp (.bool true) hp'/\St W n0 g0 J (k+1) hp'/\Kp W hp hp'
section
variable {P :Aw}{ov:Aa}{i j U k:Nat}{W:Nat->Prop}{g0:Ac}{J:Nat->(Ac)->Prop}{Y:Nat->Af->Prop}{X Z V:Hp}
def Kp.r :Kp W X X:=⟨Xh _,λ_ _ _=>rfl⟩
def Kp.d (h:Kp W X Z)(a:Kp W Z V):Kp W X V:=⟨Ya h.1 a.1,λb c d=>(a.2 b (XW c h.1) d).trans<|h.2 b c d⟩
variable {x:Bb Blk}
def Kp.A {b n:Nat}(c:X.d<=b)(a:X.d<=n):Kp W X ⟨X.m.m b x,n⟩:=⟨a,λq d _=>by show(X.m.m b x).l q=_;rw[ZD,af]⟩
def Kp.B {b U:Nat}(h:Kp W X Z)(d:X.d<=b):Kp W X ⟨Z.m.m b x,Z.d⟩:=⟨h.1,λq a c=>by show(Z.m.m b x).l q=_;rw[ZD,af];exact h.2 q a c⟩
def Kp.w (h:Kp (λ_=>False) X Z):Kp W X Z:=⟨h.1,λb a _=>h.2 b a id⟩
def Kp.h (h:Kp W X Z)(c:∀b,W b->X.m.l b≠some .dfr):F9 X Z:=⟨h.1,λr d a=>by rw[h.2 r d λe=>c r e a];exact a⟩
def St.h (R:Ip P ov i W U g0 J Y)(h:St W U g0 J k X)(d:U<=V.d)(c:∀b,b<U->V.m.l b=X.m.l b):St W U g0 J k V:=
 ⟨d,λb a e=>(c b a).trans<|h.d b a e,R.h k _ _ h.j λb a=>c b<|R.r b a⟩
end
abbrev aF :Ay:=108
abbrev aG :Ay:=60
abbrev tYl :Ax:=171
def Dk :D3 PR aF=Go.Proofs.Tryz.f108.body.getD .skip:=by kernel_rfl
def a_fn :PR.funcs[aF]? =Go.Proofs.Tryz.f108:=by kernel_rfl
def a_ok :cN Go.Proofs.Tryz.f108:=by kernel_rfl
def Uc :D3 PR aG=Go.Proofs.Tryz.f60.body.getD .skip:=by kernel_rfl
def Ox :PR.funcs[aG]? =Go.Proofs.Tryz.f60:=by kernel_rfl
def Ud :cN Go.Proofs.Tryz.f60:=by kernel_rfl
def OX :Nat.beq tN rgT=false:=by kernel_rfl
def box_Y :Nat.beq tYl rgT=false:=by kernel_rfl
def Uf :(PR.underlying tYl).map bP=some false:=by kernel_rfl
def zN :Av:=(T5 PR tN).getD undef
def zN_eq :T5 PR tN=zN:=by kernel_rfl
def WH :zN.cells.toList.length=6:=by kernel_rfl
def zB :Ao:=fill .e 0 zN.cells.toList
section
variable {ov :Aa}{Z hp':Hp}{X:Ao}{x y t i o n z:Nat}{Y:Ao}{v a:Av}
def uW {m:T Blk}{nx:Nat}{b:Blk}(a:(PR.underlying t).map bP=some false)(h:m.l i=b)(f:rdC b=(Y,n,z))(e:o+1<=n):G4 PR ⟨m,nx⟩ t (.pointer<|some ⟨i,o,none⟩)=Y.l o:=by
 cases c:PR.underlying t with
 |none=>grind|some d=>rw[c]at a;simp at a;simp only[G4,h,f,c,a,Xb,WQ e,Xa]
def FE {b:Bool}(a:X.l x=some (.bool b))(call:i9):xop PR call X Z (.unOp .not t<|.tmp x)=some (.bool<|!b,Z):=by simp only[xop,ob,i7,a,XB,xun,j4]
def xo_fn {f:Ay}(b:X.l x=a)(call:i9):xop PR call X Z (.makeFunc (.func f) #[] #[.tmp x])=some (.func (.func f) #[] #[a],Z):=by simp only[xop,ob,j4,Y8,i7,b,XB]
def MC (call:i9):xop PR call X Z (.assign<|.const .nilFunc)=some (.nilFunc,Z):=by have h:cst .nilFunc=true:=rfl;simp only[xop,ob,i7,h,Xa,j4]
def tI (call:i9):xop PR call X Z (.alloc tN)=some (.pointer<|some ⟨Z.d,0,none⟩,⟨Z.m.m Z.d<|some<|.cells zB 6 tN 6,Z.d+1⟩):=by simp only[xop,fV,OX,Xb,xnw,Z2,zN_eq,V3,Hp.g,Nw.d,J2,WH,zB]
variable {l:List c8}
def VY {F:FB}{v:Av}(h:PV PR F (.f tN) v (.l<|rows l)){j:Nat}{s:c8}(B:l[j]? =s):∃C r E w y D R u,v= .slice (some ⟨C,r,none⟩) l.length E/\F C=some w/\rdC w=some (y,D,R)/\r+j*6+6<=D/\j8 y (r+j*6) 6=some u/\u.length=6/\NT F s (λq=>u[q]?):=by
 generalize hL:rows l=L at h;have a:L.length=l.length:=by rw[<-hL];simp[rows]
 have K:=(WM.1 B).1;cases h with
 |N=>simp only[YS]at a;omega|L=>simp only[YS]at a;omega|sl e i o c b Y n z t x G H S T P U O Z=>
  have p:z=6:=by rw[P,kf_N];rfl
  subst p;have f:L[j]? =s.m:=by rw[<-hL];simp[rows,B]
  have I:(j+1)*6<=L.length*6:=WW _ (by omega);have J:∀q,q<6->Y.l (o+j*6+q)=some (x j q):=λq g=>O j q s.m _ f (WV<|by rw[pT];exact g);have N:j8 Y (o+j*6) 6=((List.range 6).map<|x j):=by have:=B6 (c:=Y) (vs:=(List.range 6).map<|x j) (o:=o+j*6) (λq g=>by simp only[Xc,List.length_range]at g;rw[J q g];simp[g]);simpa using this
  refine⟨i,o,c,b,Y,n,_,_,by rw[a],G,H,by omega,N,by simp,.d λk d Q A M=>?_⟩;have m:k<6:=by have:=(WM.1 A).1;rw[pT]at this;exact this
  exact⟨x j k,by simp[m],Z j k s.m Q d f A M⟩
def VX {F:FB}{v:Av}(h:PV PR F (.f tN) v (.l<|rows l)):∃q c,v= .slice q l.length c:=by
 generalize hL:rows l=L at h;have a:L.length=l.length:=by rw[<-hL];simp[rows]
 cases h with
 |N=>exact⟨_,_,by rw[<-a];rfl⟩|L=>exact⟨_,_,by rw[<-a];rfl⟩|sl e i o c b Y n z d x f g j k r m p Z=>exact⟨_,_,by rw[a]⟩
end
def Gf :Code->Code
 | .rangeFunc _ _ a _=>a|c=>c
def Gg :Code->Code
 | .rangeFunc _ _ _ b=>b|c=>c
abbrev aC :Code:=D3 PR aF
abbrev aR0 :Code:=cdA aC
abbrev aR1 :Code:=cdA<|cdA<|cdB aC
abbrev aR2 :Code:=cdA<|cdB<|cdB aC
abbrev aLB :Code:=cdA<|cdA<|cdB<|cdB<|cdB aC
abbrev aR3 :Code:=cdA aLB
abbrev aL2 :Code:=cdB<|cdB aLB
abbrev aR4 :Code:=cdA<|cdA<|cdA aL2
abbrev aR5 :Code:=cdA<|cdB<|cdA<|cdA aL2
abbrev aRF :Code:=cdA<|cdB<|cdB<|cdA<|cdA aL2
abbrev aR6 :Code:=Gf aRF
abbrev aBo :Code:=Gg aRF
abbrev aR7 :Code:=cdA<|cdA aBo
abbrev aR8 :Code:=cdB aL2
abbrev aLp :Code:= .seq aR3 (.seq (.cond (.tmp 14) .skip<|.exit 0)<|.seq (.block 1<|.seq aR4<|.seq aR5<|.block 2<|.rangeFunc (.tmp 18) #[19] aR6 aBo) aR8)
def Ve :D3 PR aF= .seq aR0 (.seq (.seq aR1<|.cond (.tmp 9) .ret .skip)<|.seq aR2<|.block 0<|.loop aLp):=by kernel_rfl
section
variable {V :Aa}{Z X:Hp}{Y:Ao}{W:Af}{i b y:Nat}{Q:Ao->Hp->Prop}{U cy:Ao}{S:Ai}
def xZ {vs:Af}{o:Nat}(a:vs.length=6):j8 (fill U o vs) o 6=vs:=by have:=B6 (c:=fill U o vs) (vs:=vs) (o:=o) (λq b=>by rw[j6,Xg ⟨by omega,by omega⟩];congr 1;omega);rwa[a]at this
variable {v:Av}
def a_0 (b:Y.l 0=some (.chan<|some i))(c:Y.l 1=v)(k:∀a,a.l 1=some v->a.l 2=some (.pointer<|some ⟨Z.d,0,none⟩)->Q a ⟨Z.m.m Z.d<|some<|.cells (fill .e 0 [.chan (some i)]) 1 tYl 1,Z.d+1⟩):YN PR V S 25 aR0 Y Z Q:=by rw[aR0,aC,Dk];simp only[Go.Proofs.Tryz.f108,XB,cdA,cdB];have e:(Value.chan<|some i).cells.toList=[.chan (some i)]:=rfl;refine .a<|.a rfl rfl (oP box_Y b)<|.b ?_;rw[e];refine⟨⟨Yq _,λr d h=>by show(Z.m.m Z.d _).l r=_;rw[ZD,af];exact h⟩,k _ ?_ ?_⟩;rw[gp,Xd<|by decide];exact c;rw[gp,Xg rfl]
def a_1 (d:Y.l 1=some (.pointer<|some ⟨b,0,none⟩))(f:Y.l 2=some (.pointer<|some ⟨y,0,none⟩))(l:Z.m.l y=some (.cells (fill .e 0 [.chan (some i)]) 1 tYl 1))(g:Z.m.l b=some (.cells U 6 tN 6))(j:j8 U 0 6=W)(c:FP PR V i [.agg W.toArray] Z (.bool true) X)(h:F9 Z X)(k:∀a,(∀x,x<6->a.l x=Y.l x)->a.l 9=some (.bool false)->Q a X):YN PR V S 25 aR1 Y Z Q:=by
 rw[aR1,aC,Dk];simp only[Go.Proofs.Tryz.f108,XB,cdA,cdB];refine .a<|.a rfl rfl (C9 f<|(uW Uf l rfl<|by omega).trans<|by rw[u5 _ _<|by simp];rfl)<|.a rfl rfl (C9 (by rw[gp,Xd<|by decide];exact d)<|Cn g rfl (by omega) j) ?_;refine .d rfl rfl (qY (i:=i) (vs:=[.agg W.toArray]) (by rw[gp,Xd<|by decide,gp,Xg rfl]) ?_ c) ?_;simp only[Y8,i7,gp];rfl;refine .a rfl rfl (FE<|by rw[gp,Xg rfl])<|.b ⟨h,k _ (λx c=>?_) ?_⟩
 .simp only[gp];iterate 4 rw[af]
 simp only[gp];rfl
variable {c:Nat}
def a_2 {q:Aq}{l:Nat}(d:Y.l 1=some (.pointer<|some ⟨b,0,none⟩))(f:Z.m.l b=some (.cells U 6 tN 6))(e:U.l 5=some (.slice q l c))(k:∀a,(∀x,x<6->a.l x=Y.l x)->a.l 11=some (.slice q l c)->a.l 12=some (.int .i64 l)->a.l 13=some (.int .i64 0)->Q a Z):YN PR V S 25 aR2 Y Z Q:=by
 rw[aR2,aC,Dk];simp only[Go.Proofs.Tryz.f108,XB,cdA,cdB];refine .a<|.a rfl rfl (WB d)<|.a rfl rfl (C9 (by simp only[gp];rfl)<|(ld_S' f rfl<|by omega).trans e)<|.a rfl rfl (WD (by simp only[gp];rfl) rfl)<|.a rfl rfl Sp<|.b ⟨.a _,k _ (λx g=>?_) ?_ ?_ ?_⟩
 .simp only[gp];iterate 4 rw[af]
 simp only[gp];rfl;simp only[gp];rfl;simp only[gp];rfl
variable {j:Int}
def a_3 {n:Int}(b:Y.l 12=some (.int .i64 n))(c:Y.l 13=some (.int .i64 j))(k:∀a,(∀x,x≠14->a.l x=Y.l x)->a.l 14=some (.bool<|decide<|j<n)->Q a Z):YN PR V S 25 aR3 Y Z Q:=by rw[aR3,aLB,aC,Dk];simp only[Go.Proofs.Tryz.f108,XB,cdA,cdB];exact .a<|.a rfl rfl (UZ c b)<|.b ⟨.a _,k _ (λx d=>by rw[gp,Xd d])<|by rw[gp,Xg rfl]⟩
def a_4 {d e l o n A:Nat}{f:Blk}{g:Ao}(b:Y.l 11=some (.slice (some ⟨d,e,none⟩) l o))(c:Y.l 13=some (.int .i64 j))(y:0<=j)(z:j<l)(s:Z.m.l d=f)(i:rdC f=(g,n,A))(v:e+j.toNat*6+6<=n)(t:j8 g (e+j.toNat*6) 6=W)(q:W.length=6)(w:W.all Value.oneCell')(u:d<Z.d)(k:∀a,(∀x,x<15->x≠4->a.l x=Y.l x)->a.l 4=some (.pointer<|some ⟨Z.d,0,none⟩)->Q a ⟨(Z.m.m Z.d<|some<|.cells zB 6 tN 6).m Z.d<|some<|.cells (fill zB 0 W) 6 tN 6,Z.d+1⟩):YN PR V S 25 aR4 Y Z Q:=by rw[aR4,aL2,aLB,aC,Dk];simp only[Go.Proofs.Tryz.f108,XB,cdA,cdB];refine .a<|.a rfl rfl (Sj b c<|ix_N y z)<|.a rfl rfl (C9 (by simp only[gp];rfl)<|Cn s i v t)<|.a rfl rfl tI<|.a rfl rfl (P9 (by simp only[gp];rfl) (by simp only[gp];rfl)<|st_N (by rw[ZD,Xg rfl]) (by omega) q w)<|.b ⟨⟨Yq _,λr i h=>?_⟩,k _ (λx B p=>?_) ?_⟩;show((Z.m.m Z.d _).m Z.d _).l r=_;rw[ZD,af,ZD,af];exact h;simp only[gp,gn];rw[Xd p,af,af];simp only[gp,gn];rfl
def a_5 (d:Y.l 4=some (.pointer<|some ⟨c,0,none⟩))(e:Z.m.l c=some (.cells U 6 tN 6))(g:j8 U 0 6=W)(b:P0 PR V aG [.agg W.toArray] Z v X)(f:F9 Z X)(k:∀a,(∀x,x<17->a.l x=Y.l x)->a.l 18=some v->Q a X):YN PR V S 25 aR5 Y Z Q:=by rw[aR5,aL2,aLB,aC,Dk];simp only[Go.Proofs.Tryz.f108,XB,cdA,cdB];refine .a<|.a rfl rfl (C9 d<|Cn e rfl (by omega) g)<|.d rfl rfl (Bo Ox Ud (by simp only[gp];rfl) b)<|.b ⟨f,k _ (λx b=>?_) ?_⟩;simp only[gp];rw[af,af];simp only[gp];rfl
def a_6 (b:Y.l 19=some (.agg W.toArray))(c:W.length=6)(d:W.all Value.oneCell')(k:∀a,(∀x,x≠5->a.l x=Y.l x)->a.l 5=some (.pointer<|some ⟨Z.d,0,none⟩)->Q a ⟨(Z.m.m Z.d<|some<|.cells zB 6 tN 6).m Z.d<|some<|.cells (fill zB 0 W) 6 tN 6,Z.d+1⟩):YN PR V S 25 aR6 Y Z Q:=by rw[aR6,aRF,aL2,aLB,aC,Dk];simp only[Go.Proofs.Tryz.f108,XB,cdA,cdB,Gf];refine .a<|.a rfl rfl tI<|.a rfl rfl (P9 (by simp only[gp];rfl) (by simp only[gp];exact b)<|st_N (by rw[ZD,Xg rfl]) (by omega) c d)<|.b ⟨⟨Yq _,λr f h=>?_⟩,k _ (λx e=>?_) ?_⟩;show((Z.m.m Z.d _).m Z.d _).l r=_;rw[ZD,af,ZD,af];exact h;simp only[gp,gn];rw[Xd e];simp only[gp,gn];rfl
def a_7 (b:Y.l 2=some (.pointer<|some ⟨y,0,none⟩))(d:Y.l 5=some (.pointer<|some ⟨c,0,none⟩))(l:Z.m.l y=some (.cells (fill .e 0 [.chan (some i)]) 1 tYl 1))(f:Z.m.l c=some (.cells U 6 tN 6))(h:j8 U 0 6=W)(j:FP PR V i [.agg W.toArray] Z (.bool true) X)(g:F9 Z X)(k:∀a,a.l 23=some (.bool false)->Q a X):YN PR V S 25 aR7 Y Z Q:=by rw[aR7,aBo,aRF,aL2,aLB,aC,Dk];simp only[Go.Proofs.Tryz.f108,XB,cdA,cdB,Gg];refine .a<|.a rfl rfl (C9 b<|(uW Uf l rfl<|by omega).trans<|by rw[u5 _ _<|by simp];rfl)<|.a rfl rfl (C9 (by rw[gp,Xd<|by decide];exact d)<|Cn f rfl (by omega) h) ?_;refine .d rfl rfl (qY (i:=i) (vs:=[.agg W.toArray]) (by rw[gp,Xd<|by decide,gp,Xg rfl]) ?_ j) ?_;simp only[Y8,i7,gp];rfl;refine .a rfl rfl (FE<|by rw[gp,Xg rfl])<|.b ⟨g,k _ ?_⟩;simp only[gp];rfl
def a_8 (b:Y.l 13=some (.int .i64 j))(c:0<=j)(d:j<1000000)(k:∀a,(∀x,x<13->a.l x=Y.l x)->a.l 13=some (.int .i64<|j+1)->Q a Z):YN PR V S 25 aR8 Y Z Q:=by rw[aR8,aL2,aLB,aC,Dk];simp only[Go.Proofs.Tryz.f108,XB,cdA,cdB];refine .a<|.a rfl rfl (Sm b c d)<|.a rfl rfl (qX<|by simp only[gp];rfl)<|.b ⟨.a _,k _ (λx e=>?_) ?_⟩;simp only[gp];rw[af,af];simp only[gp];rfl
def evt {x:Nat}(h:Y.l x=v):i7 Y (.tmp x)=v:=by simp only[i7,h,XB]
end
structure OSt (n0:Nat)(g0:Ac)(O0:Nat->Prop)(J:Nat->(Nat->Prop)->(Ac)->Prop)(k:Nat)(O:Nat->Prop)(hp:Hp):Prop where
 A:n0<=hp.d
 r:∀b,b<n0-> ¬O b->hp.m.l b=g0 b
 w:∀b,O b->b<hp.d
 s:∀b,b<n0->O b->O0 b
 h:∀b,O0 b->O b
 j:J k O hp.m.l
structure wG (P:Aw)(ov:Aa)(i z n0:Nat)(g0:Ac)(O0:Nat->Prop)(J:Nat->(Nat->Prop)->(Ac)->Prop)(Y:Nat->Af->Prop):Prop where
 h:∀k O g g',J k O g->(∀b,O b->g' b=g b)->J k O g'
 d:∀k O g b,J k O g->O b->g b≠some .dfr
 s:∀k args,Y k args-> ∃ws:Af,args=[.agg ws.toArray]/\ws.length=z/\ws.all Value.oneCell'=true
 r:∀k O args hp,OSt n0 g0 O0 J k O hp->Y k args-> ∃hp' O',FP P ov i args hp (.bool true) hp'/\OSt n0 g0 O0 J (k+1) O' hp'/\Kp O hp hp'/\(∀b,O b->O' b)/\ ∀b,O' b->O b\/hp.d<=b
section
variable {P :Aw}{ov:Aa}{i z V k:Nat}{O U S:Nat->Prop}{T:Ac}{J:Nat->(Nat->Prop)->(Ac)->Prop}{Y:Nat->Af->Prop}{W X Z:Hp}
def OSt.d (R:wG P ov i z V T U J Y)(h:OSt V T U J k O W)(d:W.d<=X.d)(c:∀b,b<V\/O b->X.m.l b=W.m.l b):OSt V T U J k O X:=
 ⟨Ya h.A d,λb a e=>(c b<|.inl a).trans<|h.r b a e,λb a=>XW (h.w b a) d,h.s,h.h,R.h k _ _ _ h.j λb a=>c b<|.inr a⟩
def OSt.B (h:OSt V T U J k O W):OSt W.d W.m.l O J k O W:=
 ⟨Xh _,λ_ _ _=>rfl,h.w,λ_ _ a=>a,λ_ a=>a,h.j⟩
def OSt.C (c:OSt V T U J k S Z){e:Nat}(h:OSt Z.d Z.m.l S J e O W):OSt V T U J e O W:=
 ⟨Ya c.A h.A,λb a d=>(h.r b (XW a c.A) d).trans<|c.r b a λf=>d<|h.h b f,h.w,λb a d=>c.s b a<|h.s b (XW a c.A) d,λb a=>h.h b<|c.h b a,h.j⟩
def OSt.R {a:Nat->Prop}{f:Nat}(p:OSt V T U J k S Z){n:Nat}(h:OSt Z.d Z.m.l S J n O W)(d:OSt V T U J f a X)(g:∀b,b<Z.d-> ¬a b->X.m.l b=Z.m.l b)(i:Z.d<=X.d)(m1:∀b,O b->a b)(o:∀b,a b->O b\/Z.d<=b):OSt Z.d Z.m.l S J f a X:=
 ⟨i,g,d.w,λb c l=>by obtain e|e:=o b l;exact h.s b c e;omega,λb c=>m1 b<|h.h b c,d.j⟩
end
abbrev bF :Ay:=101
abbrev bG :Ay:=53
abbrev tHn :Ax:=34
abbrev tYh :Ax:=162
def Iy :D3 PR bF=Go.Proofs.Tryz.f101.body.getD .skip:=by kernel_rfl
def b_fn :PR.funcs[bF]? =Go.Proofs.Tryz.f101:=by kernel_rfl
def b_ok :cN Go.Proofs.Tryz.f101:=by kernel_rfl
def Uo :PR.funcs[bG]? =Go.Proofs.Tryz.f53:=by kernel_rfl
def bg_ok :cN Go.Proofs.Tryz.f53:=by kernel_rfl
def Ur :Nat.beq tHn rgT=false:=by kernel_rfl
def Vq :Nat.beq tYh rgT=false:=by kernel_rfl
def Oz :(PR.underlying tYh).map bP=some false:=by kernel_rfl
def agg_H :(PR.underlying tHn).map bP=some true:=by kernel_rfl
noncomputable def niH :Ba:=(PR.info? tHn).getD default
def rW :PR.info? tHn=niH:=by kernel_rfl
def eT :niH.size=2:=by kernel_rfl
def zH :Av:=(T5 PR tHn).getD undef
def Va :T5 PR tHn=zH:=by kernel_rfl
def tP :zH.cells.toList.length=2:=by kernel_rfl
def zHB :Ao:=fill .e 0 zH.cells.toList
section
variable {ov :Aa}{Z X hp':Hp}{W:Ao}{x y t i o n e z b:Nat}{Y:Ao}{vs V:Af}{v a:Av}{Q:Ao->Hp->Prop}{ar:Ai}
def MT {m:T Blk}{nx:Nat}{b:Blk}(h:m.l i=b)(g:rdC b=(Y,n,z))(f:o+2<=n)(e:j8 Y o 2=vs):G4 PR ⟨m,nx⟩ tHn (.pointer<|some ⟨i,o,none⟩)=some (.agg vs.toArray):=by
 have a:=agg_H;cases c:PR.underlying tHn with
 |none=>grind|some d=>rw[c]at a;simp at a;simp only[G4,h,g,c,a,Xa,rW,eT,WQ f,e]
def st_H (h:Z.m.l i=some (.cells Y n e z))(b:o+2<=n)(a:vs.length=2)(c:vs.all Value.oneCell'):G1 PR Z tHn (.pointer<|some ⟨i,o,none⟩) (.agg vs.toArray)=some {Z with m:=Z.m.m i<|some<|.cells (fill Y o vs) n e z}:=by have:(Value.agg vs.toArray).cells.toList=vs:=rfl;simp only[G1,h,rW,eT,this,a,w9,WQ b,c,Bool.and_self,Xa,N7]
def tH (call:i9):xop PR call W Z (.alloc tHn)=some (.pointer<|some ⟨Z.d,0,none⟩,⟨Z.m.m Z.d<|some<|.cells zHB 2 tHn 2,Z.d+1⟩):=by simp only[xop,fV,Ur,Xb,xnw,Z2,Va,V3,Hp.g,Nw.d,J2,tP,zHB]
def kY (a:vs.length=2):j8 (fill Y o vs) o 2=vs:=by have:=B6 (c:=fill Y o vs) (vs:=vs) (o:=o) (λq b=>by rw[j6,Xg ⟨by omega,by omega⟩];congr 1;omega);rwa[a]at this
abbrev bC :Code:=D3 PR bF
abbrev bLB :Code:=cdA<|cdA<|cdB<|cdB<|cdB<|cdB bC
abbrev bL2 :Code:=cdB<|cdB bLB
abbrev bRF :Code:=cdA<|cdB<|cdB<|cdA<|cdA bL2
abbrev bR7 :Code:=Gf bRF
abbrev bBo :Code:=Gg bRF
abbrev bR8 :Code:=cdA<|cdA bBo
def b_bo :bBo= .block 3 (.seq bR8<|.cond (.tmp 33) .ret .skip):=by kernel_rfl
def b_7 (b:W.l 29=some (.agg V.toArray))(c:V.length=2)(d:V.all Value.oneCell')(k:∀a,(∀x,x≠8->a.l x=W.l x)->a.l 8=some (.pointer<|some ⟨Z.d,0,none⟩)->Q a ⟨(Z.m.m Z.d<|some<|.cells zHB 2 tHn 2).m Z.d<|some<|.cells (fill zHB 0 V) 2 tHn 2,Z.d+1⟩):YN PR ov ar 35 bR7 W Z Q:=by rw[bR7,bRF,bL2,bLB,bC,Iy];simp only[Go.Proofs.Tryz.f101,XB,cdA,cdB,Gf];refine .a<|.a rfl rfl tH<|.a rfl rfl (P9 (by simp only[gp];rfl) (by simp only[gp];exact b)<|st_H (by rw[ZD,Xg rfl]) (by omega) c d)<|.b ⟨⟨Yq _,λr f h=>?_⟩,k _ (λx e=>?_) ?_⟩;show((Z.m.m Z.d _).m Z.d _).l r=_;rw[ZD,af,ZD,af];exact h;simp only[gp,gn];rw[Xd e];simp only[gp,gn];rfl
def b_8 {c:Nat}(b:W.l 3=some (.pointer<|some ⟨y,0,none⟩))(d:W.l 8=some (.pointer<|some ⟨c,0,none⟩))(l:Z.m.l y=some (.cells (fill .e 0 [.chan (some i)]) 1 tYh 1))(f:Z.m.l c=some (.cells Y 2 tHn 2))(h:j8 Y 0 2=V)(j:FP PR ov i [.agg V.toArray] Z (.bool true) X)(g:F9 Z X)(k:∀a,a.l 33=some (.bool false)->Q a X):YN PR ov ar 35 bR8 W Z Q:=by rw[bR8,bBo,bRF,bL2,bLB,bC,Iy];simp only[Go.Proofs.Tryz.f101,XB,cdA,cdB,Gg];refine .a<|.a rfl rfl (C9 b<|(uW Oz l rfl<|by omega).trans<|by rw[u5 _ _<|by simp];rfl)<|.a rfl rfl (C9 (by rw[gp,Xd<|by decide];exact d)<|MT f rfl (by omega) h) ?_;refine .d rfl rfl (qY (i:=i) (vs:=[.agg V.toArray]) (by rw[gp,Xd<|by decide,gp,Xg rfl]) ?_ j) ?_;simp only[Y8,i7,gp];rfl;refine .a rfl rfl (FE<|by rw[gp,Xg rfl])<|.b ⟨g,k _ ?_⟩;simp only[gp];rfl
end
section
variable {ov :Aa}{i j y V k2 W:Nat}{g0:Ac}{O0 O2:Nat->Prop}{J:Nat->(Nat->Prop)->(Ac)->Prop}{Y:Nat->Af->Prop}{X:Hp}{Z:Ao}
def VJ (R:wG PR ov i 2 V g0 O0 J Y)(S2:OSt V g0 O0 J k2 O2 X)(hj:X.m.l j=some (.loop .ready none 35 Z #[29] bR7 bBo W))(j0:¬O2 j)(P:j<X.d)(jn:V<=j)(hy:X.m.l y=some (.cells (fill .e 0 [.chan (some i)]) 1 tYh 1))(y0:¬O2 y)(Q:y<X.d)(yj:y≠j)(t3:Z.l 3=some (.pointer<|some ⟨y,0,none⟩)):wG PR ov j 2 X.d X.m.l O2 J Y where
 h:=R.h
 d:=R.d
 s:=R.s
 r:=by
  intro k O args d S N;obtain⟨v,rfl,n,ho⟩:=R.s k args N;have u:¬O j:=λh=>j0<|S.s j P h;have p:=(S.r j P u).trans hj;have E:=(S.r y Q (λh=>y0<|S.s y Q h)).trans hy;have aa:=S.A;have ab:=S2.A;obtain⟨o,g,U,q3,q8,z⟩:YN PR ov (some j) 35 bR7 (gA Z [29] [.agg v.toArray]) d λo t=>o.l 3=some (.pointer<|some ⟨y,0,none⟩)/\o.l 8=some (.pointer<|some ⟨d.d,0,none⟩)/\t=⟨(d.m.m d.d<|some<|.cells zHB 2 tHn 2).m d.d<|some<|.cells (fill zHB 0 v) 2 tHn 2,d.d+1⟩:=
   b_7 (by show(Z.m 29 _).l 29=_;rw[ZD,Xg rfl]) n ho λo a b=>⟨by rw[a 3<|by decide];show(Z.m 29 _).l 3=_;rw[ZD,Xd<|by decide];exact t3,b,rfl⟩
  have L:∀b,b≠d.d->g.m.l b=d.m.l b:=λb l=>by rw[z];show((d.m.m d.d _).m d.d _).l b=_;rw[ZD,Xd l,ZD,Xd l]
  have gq:g.m.l d.d=some (.cells (fill zHB 0 v) 2 tHn 2):=by rw[z];show((d.m.m d.d _).m d.d _).l d.d=_;rw[ZD,Xg rfl]
  have I:g.d=d.d+1:=by rw[z]
  have D:g.m.l j=some (.loop .ready none 35 Z #[29] bR7 bBo W):=(L j<|by omega).trans p;let q:Hp:=⟨g.m.m j<|some<|.loop .busy none 35 Z #[29] bR7 bBo W,g.d⟩
  have A:∀b,b≠j->b≠d.d->q.m.l b=d.m.l b:=λb t n=>by show(g.m.m j _).l b=_;rw[ZD,Xd t];exact L b n
  have B:q.m.l j=some (.loop .busy none 35 Z #[29] bR7 bBo W):=by show(g.m.m j _).l j=_;rw[ZD,Xg rfl]
  have ac:q.d=d.d+1:=I;have SB:OSt V g0 O0 J k O q:=(S2.C S).d R (by omega) λb l=>by
   have:b≠j/\b<d.d:=by obtain l|l:=l;omega;exact⟨λe=>u<|by rw[<-e];exact l,S.w b l⟩
   exact A b this.1 (by omega)
  obtain⟨hC,w,XR,SC,KC,m1,G⟩:=R.r k O _ q SB N;obtain⟨K,f,X2,e2⟩:YN PR ov (some j) 35 bBo o q λ_ n=>n=hC:=by rw[b_bo];refine .b<|.h<|b_8 (i:=i) (y:=y) (c:=d.d) (Y:=fill zHB 0 v) q3 q8 ?_ ?_ (kY n) XR (KC.h λb l=>R.d k O _ b SB.j l) λK h=>.d (evt h)<|.f rfl;rw[A y yj<|by omega];exact E;show(g.m.m j _).l d.d=_;rw[ZD,af];exact gq
  subst e2;have C:f.m.l j=some (.loop .busy none 35 Z #[29] bR7 bBo W):=(KC.2 j (by omega) u).trans B;have ad:=KC.1;have H:¬w j:=λh=>by obtain h|h:=G j h;exact u h;omega
  have M:∀b,b<d.d-> ¬O b->(f.m.m j<|some<|.loop .ready none 35 Z #[29] bR7 bBo W).l b=d.m.l b:=λb t n=>by rw[ZD];split;rename_i e;rw[e];exact p.symm;rename_i e;rw[KC.2 b (by omega) n];exact A b e (by omega)
  have x:OSt V g0 O0 J (k+1) w ⟨f.m.m j<|some<|.loop .ready none 35 Z #[29] bR7 bBo W,f.d⟩:=SC.d R (Xh _) λb l=>by show(f.m.m j _).l b=_;rw[ZD,Xd];rintro rfl;obtain l|l:=l;omega;exact H l
  refine⟨⟨f.m.m j<|some<|.loop .ready none 35 Z #[29] bR7 bBo W,f.d⟩,w,xrnd p rfl rfl U D X2 C,S2.R S x (λb l s=>?_) (by show X.d<=f.d;omega) m1<|λb s=>?_,⟨by show d.d<=f.d;omega,M⟩,m1,λb s=>?_⟩;show(f.m.m j _).l b=_;have r:¬O b:=λh=>s<|m1 b h;rw[M b (by omega) r];exact S.r b l r;obtain h|h:=G b s;exact .inl h;exact .inr (by omega);rcases G b s with h|h;exact .inl h;exact .inr (by omega)
end
abbrev tHs :Ax:=41
abbrev tVw :Ax:=108
abbrev tDp :Ax:=25
def AY :PR.underlying tHs=some (.slice tHn):=by kernel_rfl
def Iv :(PR.underlying tHs).map bP=some false:=by kernel_rfl
def Oy :(PR.underlying tDp).map bP=some false:=by kernel_rfl
def Vo :Nat.beq tDp rgT=false:=by kernel_rfl
def fa_V (i o:Nat):P8 PR tVw (.pointer<|some ⟨i,o,none⟩) 8=some (.pointer<|some ⟨i,o+9,none⟩):=by kernel_rfl
abbrev bR0 :Code:=cdA bC
abbrev bR1 :Code:=cdA<|cdA<|cdB bC
abbrev bR2 :Code:=cdA<|cdB<|cdB bC
abbrev bR3 :Code:=cdA<|cdB<|cdB<|cdB bC
abbrev bR4 :Code:=cdA bLB
abbrev bR5 :Code:=cdA<|cdA<|cdA bL2
abbrev bR6 :Code:=cdA<|cdB<|cdA<|cdA bL2
abbrev bR9 :Code:=cdB bL2
abbrev bLp :Code:= .seq bR4 (.seq (.cond (.tmp 23) .skip<|.exit 0)<|.seq (.block 1<|.seq bR5<|.seq bR6<|.block 2<|.rangeFunc (.tmp 28) #[29] bR7 bBo) bR9)
def Vl :D3 PR bF= .seq bR0 (.seq (.seq bR1<|.cond (.tmp 12) .ret .skip)<|.seq bR2<|.seq bR3<|.block 0<|.loop bLp):=by kernel_rfl
section
variable {W :Aa}{Z X:Hp}{Y:Ao}{ws:Af}{i b y:Nat}{Q:Ao->Hp->Prop}{cs:Ao}{ar:Ai}{v:Av}{x t o:Nat}
def ix_H {q c:Nat}{k:Int}(a:0<=k)(b:k<q):E0 PR tHs (.slice (some ⟨i,o,none⟩) q c) (.int .i64 k)=some (.pointer<|some ⟨i,o+k.toNat*2,none⟩):=by simp only[E0,AY,rW,eT,a,b,XZ,Bool.and_self,Xa]
def TT (a:Y.l x=some (.pointer<|some ⟨i,o,none⟩))(call:i9):xop PR call Y Z (.fieldAddr tVw (.tmp x) 8)=some (.pointer<|some ⟨i,o+9,none⟩,Z):=by simp only[xop,ob,i7,a,XB,fa_V,j4]
def TV {q:Aq}{l c:Nat}{a:Array Ax}(d:Y.l x=some (.slice q l c))(b:a.toList=[tHs])(call:i9):xop PR call Y Z (.call ⟨.builtin .len,#[.tmp x],a⟩)=some (.int .i64 l,Z):=by simp only[xop,ob,Y8,i7,d,XB,C7,b,hJ AY q l c,j4]
def b_0 {u v:Av}(b:Y.l 0=some (.chan<|some i))(c:Y.l 1=u)(d:Y.l 2=v)(k:∀a,a.l 1=some u->a.l 2=some v->a.l 3=some (.pointer<|some ⟨Z.d,0,none⟩)->Q a ⟨Z.m.m Z.d<|some<|.cells (fill .e 0 [.chan (some i)]) 1 tYh 1,Z.d+1⟩):YN PR W ar 35 bR0 Y Z Q:=by rw[bR0,bC,Iy];simp only[Go.Proofs.Tryz.f101,XB,cdA,cdB];have e:(Value.chan<|some i).cells.toList=[.chan (some i)]:=rfl;refine .a<|.a rfl rfl (oP Vq b)<|.b ?_;rw[e];refine⟨⟨Yq _,λr f h=>by show(Z.m.m Z.d _).l r=_;rw[ZD,af];exact h⟩,k _ ?_ ?_ ?_⟩;rw[gp,Xd<|by decide];exact c;rw[gp,Xd<|by decide];exact d;rw[gp,Xg rfl]
def b_1 {f g r:Nat}(h:Y.l 1=some (.pointer<|some ⟨b,o,none⟩))(j:Y.l 3=some (.pointer<|some ⟨y,0,none⟩))(q:Z.m.l y=some (.cells (fill .e 0 [.chan (some i)]) 1 tYh 1))(l:Z.m.l b=some (.cells cs f g r))(c:o+2<=f)(p:j8 cs o 2=ws)(d:FP PR W i [.agg ws.toArray] Z (.bool true) X)(n:F9 Z X)(k:∀a,(∀x,x<9->a.l x=Y.l x)->a.l 12=some (.bool false)->Q a X):YN PR W ar 35 bR1 Y Z Q:=by
 rw[bR1,bC,Iy];simp only[Go.Proofs.Tryz.f101,XB,cdA,cdB];refine .a<|.a rfl rfl (C9 j<|(uW Oz q rfl<|by omega).trans<|by rw[u5 _ _<|by simp];rfl)<|.a rfl rfl (C9 (by rw[gp,Xd<|by decide];exact h)<|MT l rfl c p) ?_;refine .d rfl rfl (qY (i:=i) (vs:=[.agg ws.toArray]) (by rw[gp,Xd<|by decide,gp,Xg rfl]) ?_ d) ?_;simp only[Y8,i7,gp];rfl;refine .a rfl rfl (FE<|by rw[gp,Xg rfl])<|.b ⟨n,k _ (λx d=>?_) ?_⟩
 .simp only[gp];iterate 4 rw[af]
 simp only[gp];rfl
def b_4 {n j:Int}(b:Y.l 21=some (.int .i64 n))(c:Y.l 22=some (.int .i64 j))(k:∀a,(∀x,x≠23->a.l x=Y.l x)->a.l 23=some (.bool<|decide<|j<n)->Q a Z):YN PR W ar 35 bR4 Y Z Q:=by rw[bR4,bLB,bC,Iy];simp only[Go.Proofs.Tryz.f101,XB,cdA,cdB];exact .a<|.a rfl rfl (UZ c b)<|.b ⟨.a _,k _ (λx d=>by rw[gp,Xd d])<|by rw[gp,Xg rfl]⟩
def b_9 {j:Int}(b:Y.l 22=some (.int .i64 j))(c:0<=j)(d:j<1000000)(k:∀a,(∀x,x<22->a.l x=Y.l x)->a.l 22=some (.int .i64<|j+1)->Q a Z):YN PR W ar 35 bR9 Y Z Q:=by rw[bR9,bL2,bLB,bC,Iy];simp only[Go.Proofs.Tryz.f101,XB,cdA,cdB];refine .a<|.a rfl rfl (Sm b c d)<|.a rfl rfl (qX<|by simp only[gp];rfl)<|.b ⟨.a _,k _ (λx e=>?_) ?_⟩;simp only[gp];rw[af,af];simp only[gp];rfl
end
section
variable {V :Aa}{Z W:Hp}{Y:Ao}{X:Af}{i b y:Nat}{Q:Ao->Hp->Prop}{cs:Ao}{ar:Ai}{v a:Av}{x t o n z:Nat}
def b_3 {q:Aq}{l c d i e:Nat}(f:Y.l 4=some (.pointer<|some ⟨b,0,none⟩))(h:Z.m.l b=some (.cells cs d e i))(j:10<=d)(g:cs.l 9=some (.slice q l c))(k:∀a,(∀x,x<9->a.l x=Y.l x)->a.l 20=some (.slice q l c)->a.l 21=some (.int .i64 l)->a.l 22=some (.int .i64 0)->Q a Z):YN PR V ar 35 bR3 Y Z Q:=by rw[bR3,bC];refine .a<|.a rfl rfl (TT f)<|.a rfl rfl (C9 (by simp only[gp];rfl)<|(uW Iv h rfl<|by omega).trans g)<|.a rfl rfl (TV (by simp only[gp];rfl) rfl)<|.a rfl rfl Sp<|.b ⟨.a _,k _ (λx n=>?_) ?_ ?_ ?_⟩;simp only[gp];grind;simp only[gp];rfl;simp only[gp];rfl;simp only[gp];rfl
def b_5 {i d l o n y:Nat}{e:Blk}{f:Ao}{j:Int}(b:Y.l 20=some (.slice (some ⟨i,d,none⟩) l o))(c:Y.l 22=some (.int .i64 j))(v:0<=j)(w:j<l)(q:Z.m.l i=e)(g:rdC e=(f,n,y))(t:d+j.toNat*2+2<=n)(s:j8 f (d+j.toNat*2) 2=X)(p:X.length=2)(u:X.all Value.oneCell')(k:∀a,(∀x,x<24->x≠7->a.l x=Y.l x)->a.l 7=some (.pointer<|some ⟨Z.d,0,none⟩)->Q a ⟨(Z.m.m Z.d<|some<|.cells zHB 2 tHn 2).m Z.d<|some<|.cells (fill zHB 0 X) 2 tHn 2,Z.d+1⟩):YN PR V ar 35 bR5 Y Z Q:=by rw[bR5,bL2,bLB,bC];refine .a<|.a rfl rfl (Sj b c<|ix_H v w)<|.a rfl rfl (C9 (by simp only[gp];rfl)<|MT q g t s)<|.a rfl rfl tH<|.a rfl rfl (P9 (by simp only[gp];rfl) (by simp only[gp];rfl)<|st_H (by rw[ZD,Xg rfl]) (by omega) p u)<|.b ⟨⟨Yq _,λr g h=>?_⟩,k _ (λx A z=>?_) ?_⟩;show((Z.m.m Z.d _).m Z.d _).l r=_;rw[ZD,af,ZD,af];exact h;simp only[gp,gn];grind;simp only[gp,gn];rfl
variable {u:Av}
def b_6 {c e d h s i:Nat}{f:Ao}(j:Y.l 2=some (.pointer<|some ⟨e,d,none⟩))(o:Z.m.l e=some (.cells f h i s))(b:d+1<=h)(r:f.l d=u)(l:Y.l 7=some (.pointer<|some ⟨c,0,none⟩))(n:Z.m.l c=some (.cells cs 2 tHn 2))(q:j8 cs 0 2=X)(g:P0 PR V bG [u,.agg X.toArray] Z v W)(p:F9 Z W)(k:∀a,(∀x,x<26->a.l x=Y.l x)->a.l 28=some v->Q a W):YN PR V ar 35 bR6 Y Z Q:=by rw[bR6,bL2,bLB,bC];refine .a<|.a rfl rfl (C9 j<|(uW Oy o rfl b).trans r)<|.a rfl rfl (C9 (by rw[gp,af];exact l)<|MT n rfl (by omega) q)<|.d rfl rfl (Ib Uo bg_ok (by rw[gp,af,gp,Xg rfl]) (by rw[gp,Xg rfl]) g)<|.b ⟨p,k _ (λx g=>?_) ?_⟩;simp only[gp];grind;simp only[gp];rfl
def WC {f:Ay}(b:Y.l x=a)(c:Y.l y=u)(call:i9):xop PR call Y Z (.makeFunc (.func f) #[] #[.tmp x,.tmp y])=some (.func (.func f) #[] #[a,u],Z):=by simp only[xop,ob,j4,Y8,i7,b,c,XB]
abbrev hR0 :Code:=cdA<|D3 PR bG
abbrev hR1 :Code:=cdA<|cdB<|D3 PR bG
def VI :D3 PR bG= .seq hR0 (.seq hR1 .ret):=by kernel_rfl
def ha_0 {p:Aq}(c:Y.l 0=some (.pointer p))(d:Y.l 1=some (.agg X.toArray))(f:X.length=2)(k:∀a,a.l 2=some (.pointer<|some ⟨Z.d,0,none⟩)->a.l 3=some (.pointer<|some ⟨Z.d+1,0,none⟩)->Q a ⟨(Z.m.m Z.d<|some<|.cells (fill .e 0 [.pointer p]) 1 tDp 1).m (Z.d+1)<|some<|.cells (fill .e 0 X) 2 tHn 2,Z.d+2⟩):YN PR V none 6 hR0 Y Z Q:=by rw[hR0];have e:(Value.agg X.toArray).cells.toList=X:=rfl;have b:(Value.pointer p).cells.toList=[.pointer p]:=rfl;refine .a<|.a rfl rfl (oP Vo c)<|.a rfl rfl (oP Ur<|by rw[gp,af];exact d) ?_;rw[e,b,f];refine .a rfl rfl MC<|.b ⟨⟨by grind,λr g h=>?_⟩,k _ ?_ ?_⟩;show((Z.m.m Z.d _).m (Z.d+1) _).l r=_;rw[ZD,af,ZD,af];exact h;simp only[gp];rfl;simp only[gp];rfl
def ha_1 (c:Y.l 2=u)(d:Y.l 3=a)(k:∀b,b.l 4=some (.func (.func bF) #[] #[a,u])->Q b Z):YN PR V none 6 hR1 Y Z Q:=by rw[hR1];refine .a<|.a rfl rfl (WC d c)<|.a rfl rfl (De<|by simp only[gp];rfl)<|.b ⟨.a _,k _ ?_⟩;simp only[gp];rfl
end
def MM {ov:Aa}{hp:Hp}{ws:Af}{p:Aq}(w:Xe.isT (ov bG)=false)(l:ws.length=2):∃d,P0 PR ov bG [.pointer p,.agg ws.toArray] hp (.func (.func bF) #[] #[.pointer (some ⟨hp.d+1,0,none⟩),.pointer<|some ⟨hp.d,0,none⟩]) d/\d.d=hp.d+2/\d.m.l hp.d=some (.cells (fill .e 0 [.pointer p]) 1 tDp 1)/\d.m.l (hp.d+1)=some (.cells (fill .e 0 ws) 2 tHn 2)/\(∀b,b<hp.d->d.m.l b=hp.m.l b):=by
 let⟨f,k,X0,x,y,r⟩:=ha_0 (V:=ov) (Z:=hp) (X:=ws) (p:=p) (Y:=fill .e 0 [.pointer p,.agg ws.toArray]) (Q:=λf u=>f.l 2=some (.pointer<|some ⟨hp.d,0,none⟩)/\f.l 3=some (.pointer<|some ⟨hp.d+1,0,none⟩)/\u=⟨(hp.m.m hp.d<|some<|.cells (fill .e 0 [.pointer p]) 1 tDp 1).m (hp.d+1)<|some<|.cells (fill .e 0 ws) 2 tHn 2,hp.d+2⟩) (by rw[u5 _ _<|by simp];rfl) (by rw[u5 _ _<|by simp];rfl) l λf a b=>⟨a,b,rfl⟩
 let⟨i,j,X1,z,t⟩:=ha_1 (V:=ov) (Z:=k) (Y:=f) (Q:=λi l=>i.l 4=some (.func (.func bF) #[] #[.pointer (some ⟨hp.d+1,0,none⟩),.pointer<|some ⟨hp.d,0,none⟩])/\l=k) x y λi a=>⟨a,rfl⟩
 subst t;have X:XK PR ov none 6 (D3 PR bG) (fill .e 0 [.pointer p,.agg ws.toArray]) hp .ret i j:=by rw[VI];exact X0.a<|X1.a .n
 let⟨o,A,B,q,C⟩:=Z0 (Y:=ov) (args:=[.pointer p,.agg ws.toArray]) (c:=D3 PR bG) Uo (by kernel_rfl) w (show XK PR ov none (2+(Go.Proofs.Tryz.f53.ntmps-2)) _ _ _ _ _ _ from(show 2+(Go.Proofs.Tryz.f53.ntmps-2)=6 from by kernel_rfl)▸X) (.inr rfl) (vs:=[.func (.func bF) #[] #[.pointer (some ⟨hp.d+1,0,none⟩),.pointer<|some ⟨hp.d,0,none⟩]]) (λl _=>by
  have e:Go.Proofs.Tryz.f53.results.toList=[.tmp 4]:=by kernel_rfl
  rw[e];simp only[I6,Z3,z,XB])
 have g:∀b,j.m.l b=if b=hp.d+1 then some (.cells (fill .e 0 ws) 2 tHn 2)else if b=hp.d then some (.cells (fill .e 0 [.pointer p]) 1 tDp 1)else hp.m.l b:=λb=>by rw[r];show((hp.m.m hp.d _).m (hp.d+1) _).l b=_;rw[ZD,ZD]
 refine⟨o,A,by rw[B,r],?_,?_,λb v=>?_⟩;rw[q _ (by rw[g,af,Xg rfl];exactλh=>by cases h),g,af,Xg rfl];rw[q _ (by rw[g,Xg rfl];exactλh=>by cases h),g,Xg rfl]
 .by_cases n:hp.m.l b=some .dfr;rw[C.b b v n,n]
  .have s:j.m.l b=hp.m.l b:=by rw[g,af,af]
   rw[q b<|by rw[s];exact n,s]
abbrev lkF :Ay:=50
def lk_fn :PR.funcs[lkF]? =Go.Proofs.Tryz.f50:=by kernel_rfl
def lk_ok :cN Go.Proofs.Tryz.f50:=by kernel_rfl
def box_V :Nat.beq tVw rgT=false:=by kernel_rfl
noncomputable def niV :Ba:=(PR.info? tVw).getD default
def VN :PR.info? tVw=niV:=by kernel_rfl
def Qp :niV.size=10:=by kernel_rfl
def zV :Av:=(T5 PR tVw).getD undef
def zV_eq :T5 PR tVw=zV:=by kernel_rfl
def WI :zV.cells.toList.length=10:=by kernel_rfl
def zVB :Ao:=fill .e 0 zV.cells.toList
section
variable {ov :Aa}{Y Z:Hp}{X:Ao}{ws vs:Af}{b:Nat}{Q:Ao->Hp->Prop}{cs:Ao}{ar:Ai}{v:Av}{x i o n e z:Nat}
def st_V (h:Y.m.l i=some (.cells cs n e z))(b:o+10<=n)(a:vs.length=10)(c:vs.all Value.oneCell'):G1 PR Y tVw (.pointer<|some ⟨i,o,none⟩) (.agg vs.toArray)=some {Y with m:=Y.m.m i<|some<|.cells (fill cs o vs) n e z}:=by have:(Value.agg vs.toArray).cells.toList=vs:=rfl;simp only[G1,h,VN,Qp,this,a,w9,WQ b,c,Bool.and_self,Xa,N7]
def Of (call:i9):xop PR call X Y (.alloc tVw)=some (.pointer<|some ⟨Y.d,0,none⟩,⟨Y.m.m Y.d<|some<|.cells zVB 10 tVw 10,Y.d+1⟩):=by simp only[xop,fV,box_V,Xb,xnw,Z2,zV_eq,V3,Hp.g,Nw.d,J2,WI,zVB]
def Si {l:Af}{k:Nat}(b:X.l x=some (.tuple l.toArray))(a:l[k]? =v)(call:i9):xop PR call X Y (.extract (.tmp x) k)=(v,Y):=by
 have h:cG (.tuple l.toArray) k=v:=by simp only[cG];simpa using a
 simp only[xop,ob,i7,b,XB,h,j4]
def b_2 {i f n s E p F t:Nat}{j:Ao}{u r:Av}(v:X.l 1=some (.pointer<|some ⟨b,o,none⟩))(y:Y.m.l b=some (.cells cs n s E))(d:o+2<=n)(A:j8 cs o 2=ws)(w:X.l 2=some (.pointer<|some ⟨i,f,none⟩))(z:Y.m.l i=some (.cells j p t F))(e:f+1<=p)(D:j.l f=u)(l:P0 PR ov lkF [u,.agg ws.toArray] Y (.tuple [.agg vs.toArray,r].toArray) Z)(c:F9 Y Z)(g:vs.length=10)(B:vs.all Value.oneCell')(k:∀a,(∀x,x<4->a.l x=X.l x)->a.l 4=some (.pointer<|some ⟨Z.d,0,none⟩)->Q a ⟨(Z.m.m Z.d<|some<|.cells zVB 10 tVw 10).m Z.d<|some<|.cells (fill zVB 0 vs) 10 tVw 10,Z.d+1⟩):YN PR ov ar 35 bR2 X Y Q:=by
 rw[bR2,bC,Iy];simp only[Go.Proofs.Tryz.f101,XB,cdA,cdB];refine .a<|.a rfl rfl (C9 w<|(uW Oy z rfl e).trans D)<|.a rfl rfl (C9 (by rw[gp,Xd<|by decide];exact v)<|MT y rfl d A)<|.d rfl rfl (Ib lk_fn lk_ok (by rw[gp,Xd<|by decide,gp,Xg rfl]) (by rw[gp,Xg rfl]) l) ?_;refine .a rfl rfl (qX<|by simp only[gp];rfl)<|.a rfl rfl (Si (k:=0) (by simp only[gp];rfl) rfl)<|.a rfl rfl (Si (k:=1) (by simp only[gp];rfl) rfl)<|.a rfl rfl Of ?_;refine .a rfl rfl (P9 (by simp only[gp];rfl) (by simp only[gp];rfl)<|st_V (by rw[ZD,Xg rfl]) (by omega) g B)<|.a rfl rfl (De<|by simp only[gp,gn];rfl)<|.b ⟨⟨Ya c.d<|Yq _,λq C h=>?_⟩,k _ (λx l=>?_) ?_⟩;have:=c.d;show((Z.m.m Z.d _).m Z.d _).l q=_;rw[ZD,af,ZD,af];exact c.b q C h
 .simp only[gp,gn];iterate 8 rw[af]
 simp only[gp,gn];rfl
end
def hv (D:DM)(x:Nat):Af:=[.int .u32 x,.int .u32<|D.d x]
def IU (D:DM)(x:Nat):(hv D x).length=2:=rfl
def HSl (D:DM)(l:Ah)(q:Aq)(P:Nat->Blk->Prop):Prop:=∀(j x:Nat),l[j]? =x-> ∃d a b c e f,q=some ⟨d,a,none⟩/\P d b/\rdC b=some (c,e,f)/\a+j*2+2<=e/\j8 c (a+j*2) 2=(hv D x)
def Dj (j:Aa)(D:DM)(f:Nat)(i:FB)(u:Av):Prop:=∀(c:Nat) (s:Sl) (d:Hp),D.L[c]? =s->s.d->f<=d.d->(∀b,b<f->d.m.l b=i b)->
 ∃(a:Hp) (vs:Af) (r:Av) (q:Aq) (h:Nat),P0 PR j lkF [u,.agg (hv D c).toArray] d (.tuple [.agg vs.toArray,r].toArray) a/\d.d<=a.d/\(∀b,b<d.d->a.m.l b=d.m.l b)/\vs.length=10/\vs.all Value.oneCell'/\vs[9]? =some (.slice q s.n.e.length h)/\
  HSl D s.n.e q λe g=>a.m.l e=some g/\e<a.d/\(e<f\/d.d<=e)
def BL (v:Aa)(D:DM)(l:Nat)(z:FB)(u:Av)(c:Nat):Prop:=∀(i k j b o e n s w A t y B:Nat) (g O:Nat->Prop) (h:FB) (J:Nat->(Nat->Prop)->FB->Prop) (Y:Nat->Af->Prop) (a:Hp) (r p:Ao),
 wG PR v i 2 k h g J Y->OSt k h g J j O a->a.m.l b=some (.cells r s w A)->o+2<=s->j8 r o 2=(hv D c)->b<a.d-> ¬O b->a.m.l e=some (.cells p t y B)->n+1<=t->p.l n=u->e<a.d-> ¬O e->
 l<=a.d->(∀b,b<l->a.m.l b=z b)->(∀b,O b->l<=b)->
 (∀(q x:Nat),(bel D 1001 c)[q]? =x->Y (j+q) [.agg (hv D x).toArray])->
 ∃d f,P0 PR v bF [.chan (some i),.pointer<|some ⟨b,o,none⟩,.pointer<|some ⟨e,n,none⟩] a (.tuple #[]) d/\OSt k h g J (j+(bel D 1001 c).length) f d/\Kp O a d/\(∀b,O b->f b)/\ ∀b,f b->O b\/a.d<=b
def Kp.s {O e:Nat->Prop}{d a c:Hp}(h:Kp O d a)(f:Kp e a c)(m:∀b,e b->O b\/d.d<=b):Kp O d c:=
 ⟨Ya h.1 f.1,λb g i=>(f.2 b (XW g h.1) λj=>(m b j).elim i λk=>by omega).trans<|h.2 b g i⟩
section
variable {P :Aa}{D:DM}{nS:Nat}{gS:FB}{u:Av}{i M L y I od nd ed zd ll cc:Nat}{H N:Nat->Prop}{G:FB}{J:Nat->(Nat->Prop)->FB->Prop}{Y:Nat->Af->Prop}{U:Hp}{cd:Ao}{l:Ah}{q:Aq}{p:Aq}
def OU (ax:Xe.isT (P bG)=false)(hu:u= .pointer p)(IH:∀c∈l,BL P D nS gS u c)(bl:l.length<1000000)(R:wG PR P i 2 M G H J Y)(na:M<=U.d)(y0:¬N y)(y1:y<U.d)(hy:U.m.l y=some (.cells (fill .e 0 [.chan (some i)]) 1 tYh 1))(d0:¬N I)(d1:I<U.d)(hd:U.m.l I=some (.cells cd nd ed zd))(az:od+1<=nd)(aw:cd.l od=u)(ns:nS<=U.d)(hS:∀b,b<nS->U.m.l b=gS b)(oS:∀b,N b->nS<=b)(hl:HSl D l q λic bc=>U.m.l ic=some bc/\ic<U.d/\ ¬N ic)(hY:∀(q x:Nat),(l.flatMap<|bel D 1001)[q]? =some x->Y (L+q) [.agg (hv D x).toArray]):∀(r n:Ah) (tm:Ao) (w:Hp) (O:Nat->Prop),l=n++r->tm.l 2=some (.pointer<|some ⟨I,od,none⟩)->tm.l 3=some (.pointer<|some ⟨y,0,none⟩)->tm.l 20=some (.slice q l.length cc)->tm.l 21=some (.int .i64 l.length)->tm.l 22=some (.int .i64 n.length)->OSt M G H J (L+(n.flatMap<|bel D 1001).length) O w->Kp N U w->(∀b,N b->O b)->(∀b,O b->N b\/U.d<=b)-> ∃ad A O',XK PR P none 35 (.loop bLp) tm w (.exit 0) ad A/\OSt M G H J (L+(l.flatMap<|bel D 1001).length) O' A/\Kp N U A/\(∀b,N b->O' b)/\ ∀b,O' b->N b\/U.d<=b:=by
 intro r;induction r with
 |nil=>
  intro n tm w O e t2 t3 ac F C S K m1 m2;rw[YD]at e;let⟨o,f,X3,B,e1⟩:=b_4 (W:=P) (ar:=none) (Z:=w) (Q:=λo h1=>o.l 23=some (.bool<|decide<|(n.length:Int)<(l.length:Int))/\h1=w) F C λo a b=>⟨b,rfl⟩
  subst e1;rw[Yr<|by rw[e];omega]at B;refine⟨o,f,O,XK.p (X3.a<|XK.r (XK.d (evt B) .w) (λh=>by cases h)) (λh=>by cases h),?_,K,m1,m2⟩;rw[e];exact S
 |cons c r ih=>
  intro n tm w O e t2 t3 ac F C S K m1 m2;have bj:n.length<l.length:=by rw[e];simp
  have av:c∈l:=by rw[e];simp
  have au:l[n.length]? =some c:=by rw[e];simp
  let⟨o,f,X3,q3,B,e1⟩:=b_4 (W:=P) (ar:=none) (Z:=w) (Q:=λo h1=>(∀x,x≠23->o.l x=tm.l x)/\o.l 23=some (.bool<|decide<|(n.length:Int)<(l.length:Int))/\h1=w) F C λo a b=>⟨a,b,rfl⟩
  subst e1;rw[decide_eq_true<|by omega]at B;let⟨ic,oc,bc,dc,nc,zc,eq,⟨f1,f2,f3⟩,ba,aq,ay⟩:=hl _ _ au;subst eq;have nO:∀b,b<U.d-> ¬N b-> ¬O b:=λb g h h'=>(m2 b h').elim h λh3=>by omega
  have ak:f.m.l ic=some bc:=(K.2 ic f2 f3).trans f1;have bq:=K.1;have tn:((n.length:Nat):Int).toNat=n.length:=rfl;let⟨z,t,X4,q4,bi,e4⟩:=b_5 (V:=P) (ar:=none) (Y:=o) (Z:=f) (X:=hv D c) (Q:=λz h4=>(∀x,x<24->x≠7->z.l x=o.l x)/\z.l 7=some (.pointer<|some ⟨f.d,0,none⟩)/\h4=⟨(f.m.m f.d<|some<|.cells zHB 2 tHn 2).m f.d<|some<|.cells (fill zHB 0<|hv D c) 2 tHn 2,f.d+1⟩)
   (by rw[q3 20<|by decide];exact ac) (by rw[q3 22<|by decide];exact C) (by omega) (by omega) ak ba (by rw[tn];exact aq) (by rw[tn];exact ay) rfl rfl λz a b=>⟨a,b,rfl⟩
  have g4:∀b,b<f.d->t.m.l b=f.m.l b:=λb g=>by rw[e4];show((f.m.m f.d _).m f.d _).l b=_;rw[ZD,af,ZD,af]
  have an:t.m.l f.d=some (.cells (fill zHB 0<|hv D c) 2 tHn 2):=by rw[e4];show((f.m.m f.d _).m f.d _).l f.d=_;rw[ZD,Xg rfl]
  have bm:t.d=f.d+1:=by rw[e4]
  have hd1:f.m.l I=some (.cells cd nd ed zd):=(K.2 I d1 d0).trans hd;let⟨al,XG,bn,ae,ao,g5⟩:=MM (ov:=P) (hp:=t) (p:=p) (ws:=hv D c) ax rfl;rw[<-hu]at XG ae;have bb:F9 t al:=⟨by omega,λb g h=>by rw[g5 b g];exact h⟩
  let⟨s,d,X5,q5,bh,e5⟩:=b_6 (V:=P) (ar:=none) (Y:=z) (Q:=λs h5=>(∀x,x<26->s.l x=z.l x)/\s.l 28=some (.func (.func bF) #[] #[.pointer (some ⟨t.d+1,0,none⟩),.pointer<|some ⟨t.d,0,none⟩])/\h5=al)
   (by rw[q4 2 (by decide)<|by decide,q3 2<|by decide];exact t2) ((g4 I<|by omega).trans hd1) az aw bi an (kY rfl) XG bb λs a b=>⟨a,b,rfl⟩
  subst e5;have am:s.l 3=some (.pointer<|some ⟨y,0,none⟩):=by rw[q5 3<|by decide,q4 3 (by decide)<|by decide,q3 3<|by decide];exact t3
  have Sn:=S.A;have ai:∀b,b<f.d->d.m.l b=f.m.l b:=λb g=>(g5 b<|by omega).trans<|g4 b g;have aa:=S.w;have S5:OSt M G H J (L+(n.flatMap<|bel D 1001).length) O d:=S.d R (by omega) λb g=>ai b (by obtain g|g:=g;omega;exact aa b g);let lp:Blk:= .loop .ready none 35 s #[29] bR7 bBo d.d
  let k:Hp:=⟨(d.m.m d.d<|some .dfr).m (d.d+1)<|some lp,d.d+2⟩
  have g6:∀b,b<d.d->k.m.l b=d.m.l b:=λb g=>by show((d.m.m d.d _).m (d.d+1) _).l b=_;rw[ZD,af,ZD,af]
  have ap:k.m.l d.d=some .dfr:=by show((d.m.m d.d _).m (d.d+1) _).l d.d=_;rw[ZD,af,ZD,Xg rfl]
  have ah:k.m.l (d.d+1)=lp:=by show((d.m.m d.d _).m (d.d+1) _).l (d.d+1)=_;rw[ZD,Xg rfl]
  have bo:k.d=d.d+2:=rfl;have ab:∀b,b<f.d->k.m.l b=f.m.l b:=λb g=>by rw[g6 b<|by omega,ai b g]
  have nN:∀b,f.d<=b-> ¬O b:=λb g h=>by have:=aa b h;omega
  have gy:k.m.l y=some (.cells (fill .e 0 [.chan (some i)]) 1 tYh 1):=by rw[ab y<|by omega,K.2 y y1 y0];exact hy
  have S6o:OSt M G H J (L+(n.flatMap<|bel D 1001).length) O k:=S5.d R (by omega) λb g=>g6 b (by obtain g|g:=g;omega;have:=aa b g;omega);have RI:wG PR P (d.d+1) 2 k.d k.m.l O J Y:=VJ R S6o ah (nN _<|by omega) (by omega) (by omega) gy (nO y y1 y0) (by omega) (by omega) am;let⟨v,O7,XA,S7,K7,m7,w7⟩:=IH c av (d.d+1) k.d (L+(n.flatMap<|bel D 1001).length) (t.d+1) 0 t.d 0 2 tHn 2 1 tDp 1 O O k.m.l J Y k (fill .e 0<|hv D c) (fill .e 0 [u]) RI S6o.B (by rw[g6 _<|by omega];exact ao) (by omega) (kY rfl) (by omega) (nN _<|by omega)
   (by rw[g6 _<|by omega];exact ae) (by omega) (by rw[u5 _ _<|by simp];rfl) (by omega) (nN _<|by omega) (by omega) (λb g=>by
    have:¬N b:=λh=>by have:=oS b h;omega
    rw[ab b<|by omega,K.2 b (by omega) this];exact hS b g) (λb g=>(m2 b g).elim (oS b) λh=>by omega)
   (λp x w=>by have:=hY ((n.flatMap<|bel D 1001).length+p) x (by rw[e,List.flatMap_append,WR<|by omega,List.flatMap_cons,Yp,WS (WM.1 w).1];exact w);rwa[<-Yc]at this)
  have n7:=S7.A;have o7:∀b,b<k.d-> ¬O b->v.m.l b=k.m.l b:=λb g hw=>K7.2 b g hw;have XR:XK PR P none 35 (.rangeFunc (.tmp 28) #[29] bR7 bBo) s d .normal s ⟨v.m.m (d.d+1) none,v.d⟩:=XK.j (evt bh) b_fn b_ok XA ((o7 _ (by omega)<|nN _<|by omega).trans ap) ((o7 _ (by omega)<|nN _<|by omega).trans ah) (by omega) λb g aj=>by have hw:¬O b:=λhw=>R.d _ _ _ b S5.j hw aj;rw[o7 b (by omega) hw,g6 b g];exact aj
  let h8:Hp:=⟨v.m.m (d.d+1) none,v.d⟩
  have g8:∀b,b<f.d-> ¬O b->h8.m.l b=f.m.l b:=λb g hw=>by show(v.m.m (d.d+1) none).l b=_;rw[ZD,af,o7 b (by omega) hw,ab b g]
  have bp:h8.d=v.d:=rfl;have be:¬O7 (d.d+1):=λh=>by obtain h|h:=w7 _ h;exact nN _ (by omega) h;omega
  have S8:OSt M G H J (L+((n++ [c]).flatMap<|bel D 1001).length) O7 h8:=by
   have e1:((n++ [c]).flatMap<|bel D 1001).length=(n.flatMap<|bel D 1001).length+(bel D 1001 c).length:=by simp[List.flatMap_append]
   rw[e1,<-Yc];refine(S6o.C S7).d R (by omega) λb g=>?_;show(v.m.m (d.d+1) none).l b=_;rw[ZD,Xd];rintro rfl;obtain g|g:=g;omega;exact be g
  have K8:Kp O f h8:=⟨by omega,g8⟩
  let⟨E,bk,X8,q8,bg,e8⟩:=b_9 (W:=P) (ar:=none) (Y:=s) (Z:=h8) (j:=n.length) (Q:=λE h=>(∀x,x<22->E.l x=s.l x)/\E.l 22=some (.int .i64<|(n.length:Int)+1)/\h=h8) (by rw[q5 22<|by decide,q4 22 (by decide)<|by decide,q3 22<|by decide];exact C) (by omega) (by omega) λE a b=>⟨a,b,rfl⟩
  subst e8;let⟨ad,A,O',XL,SL,KL,m',w'⟩:=ih (n++ [c]) E h8 O7 (by rw[e];simp) (by rw[q8 2<|by decide,q5 2<|by decide,q4 2 (by decide)<|by decide,q3 2<|by decide];exact t2) (by rw[q8 3<|by decide];exact am) (by rw[q8 20<|by decide,q5 20<|by decide,q4 20 (by decide)<|by decide,q3 20<|by decide];exact ac) (by rw[q8 21<|by decide,q5 21<|by decide,q4 21 (by decide)<|by decide,q3 21<|by decide];exact F) (by rw[bg];simp) S8 (K.s K8 m2) (λb g=>m7 b<|m1 b g) (λb g=>by obtain h|h:=w7 b g;exact m2 b h;exact .inr<|by omega);exact⟨ad,A,O',XK.q (X3.a<|XK.a (XK.i (evt B) .h)<|XK.a (XK.b<|X4.a<|X5.a<|XK.b XR) X8) XL,SL,KL,m',w'⟩
end
variable {F:FB}
def zA {e:Ax}{v:Av}{L:a8}(h:PV PR F (.f e) v (.l L)):∃q c,v= .slice q L.length c:=by
 cases h with
 |N=>exact⟨_,_,rfl⟩|L=>exact⟨_,_,rfl⟩|sl e i o c=>exact⟨_,_,rfl⟩
def NT.r {t:c8}{g:Af}(s:g.length=6)(h:NT F t (λq=>g[q]?)):g.all Value.oneCell':=by
 match g,s with
 | [a,b,c,d,e,f],_=>let⟨⟨k,m,n,⟨w,o,i⟩,p⟩,x,r,j⟩:=h;obtain⟨q,l,rfl⟩:=zA i;obtain⟨v,u,rfl⟩:=zA j;cases k;cases m;cases n;cases o;cases p;cases r;rfl
def NT.s {t:c8}{a:Ao}(h:NT F t (at6 a 0)):∃f,j8 a 0 6=some f/\f.length=6/\NT F t (λq=>f[q]?):=by
 have g:∀k,k<6-> ∃x,a.l (0+k)=some x:=λk c=>by let⟨x,b,_⟩:=h.h k _ _ (WV<|by rw[pT];exact c)<|WV<|c;exact⟨x,b⟩
 have m:j8 a 0 6=((List.range 6).map λk=>(a.l<|0+k).getD undef):=by have:=B6 (vs:=(List.range 6).map λk=>(a.l<|0+k).getD undef) (o:=0) (λq j=>by let⟨x,b⟩:=g q j;have e:q<6:=j;simp[e];rw[Xq]at b;rw[b];rfl);grind
 refine⟨_,m,by simp,.d λk d p i c=>?_⟩;have l:k<6:=by have:=(WM.1 i).1;rw[pT]at this;exact this
 let⟨x,b,n⟩:=h.h k d p i c;refine⟨x,?_,n⟩;have b:a.l (0+k)=some x:=b;grind
def FX (a:Af):at6 (fill .e 0 a) 0=λp=>a[p]? :=by funext p;rw[at6,j6];by_cases h:p<a.length;rw[Xg ⟨by omega,by omega⟩];congr 1;omega;rw[af,YT<|by omega];simp[ZC]
section
variable {ov :Aa}{i j y Q k P:Nat}{W:Nat->Prop}{g0:Ac}{J:Nat->(Ac)->Prop}{Y:Nat->Af->Prop}{X V:Hp}{Z:Ao}
def inner (R:Ip PR ov i W Q g0 J Y)(hn:Q<=V.d)(r:∀b,b<Q-> ¬W b->V.m.l b=g0 b)(hj:V.m.l j=some (.loop .ready none 25 Z #[19] aR6 aBo P))(I:Q<=j)(j1:j<V.d)(hy:V.m.l y=some (.cells (fill .e 0 [.chan (some i)]) 1 tYl 1))(y0:Q<=y)(y1:y<V.d)(yj:y≠j)(t2:Z.l 2=some (.pointer<|some ⟨y,0,none⟩)):Ip PR ov j W V.d V.m.l J Y where
 h:=R.h
 r:=λb f=>XW (R.r b f) hn
 d:=R.d
 w:=R.w
 s:=by
  intro k args X S H;obtain⟨t,rfl,G,ho⟩:=R.w k args H;have A:∀b,Q<=b-> ¬W b:=λb f l=>by have:=R.r b l;omega
  have o:=(S.d j j1<|A j I).trans hj;have aa:=S.r;obtain⟨g,d,K,q2,q5,D⟩:YN PR ov (some j) 25 aR6 (gA Z [19] [.agg t.toArray]) X λg p=>g.l 2=some (.pointer<|some ⟨y,0,none⟩)/\g.l 5=some (.pointer<|some ⟨X.d,0,none⟩)/\p=⟨(X.m.m X.d<|some<|.cells zB 6 tN 6).m X.d<|some<|.cells (fill zB 0 t) 6 tN 6,X.d+1⟩:=
   a_6 (by show(Z.m 19 _).l 19=_;rw[ZD,Xg rfl]) G ho λg a b=>⟨by rw[a 2<|by omega];show(Z.m 19 _).l 2=_;rw[ZD,af];exact t2,b,rfl⟩
  have E:∀b,b≠X.d->d.m.l b=X.m.l b:=λb f=>by rw[D];rw[ZD,Xd f,ZD,Xd f]
  have O:d.m.l X.d=some (.cells (fill zB 0 t) 6 tN 6):=by rw[D];rw[ZD,Xg rfl]
  let q:Hp:=⟨d.m.m j<|some<|.loop .busy none 25 Z #[19] aR6 aBo P,d.d⟩
  have s:∀b,b≠j->b≠X.d->q.m.l b=X.m.l b:=λb p n=>by rw[ZD,Xd p];exact E b n
  have ab:q.d=X.d+1:=(by grind);have SB:St W Q g0 J k q:=⟨by omega,λb f l=>by rw[s b (by omega)<|by omega,S.d b (by omega) l];exact r b f l,R.h k _ _ S.j λb l=>s b (by grind)<|by grind⟩
  let⟨hC,XR,SC,KC⟩:=R.s k _ q SB H;obtain⟨C,c,L,M⟩:YN PR ov (some j) 25 aBo g q λ_ n=>n=hC:=by refine .b<|.h<|a_7 (U:=fill zB 0 t) q2 q5 ?_ ?_ (xZ G) XR (KC.h λb f=>R.d k _ b SB.j f) λC h=>.d (evt h)<|.f rfl;rw[s y yj<|by omega];exact (S.d y y1<|A y y0).trans hy;show(d.m.m j _).l X.d=_;rw[ZD,af];exact O
  subst M;have v:c.m.l j=some (.loop .busy none 25 Z #[19] aR6 aBo P):=(KC.2 j (by omega)<|A j I).trans (by rw[ZD,Xg rfl]);have ac:=KC.1;have N:∀b,b<X.d-> ¬W b->b≠j->c.m.l b=X.m.l b:=λb p n h3=>by rw[KC.2 b (by omega) n];exact s b h3 (by omega)
  have F:∀b,b<X.d-> ¬W b->(c.m.m j<|some<|.loop .ready none 25 Z #[19] aR6 aBo P).l b=X.m.l b:=λb p n=>by rw[ZD];split;rename_i e;rw[e];exact o.symm;rename_i e;exact N b p n e
  refine⟨⟨c.m.m j<|some<|.loop .ready none 25 Z #[19] aR6 aBo P,c.d⟩,xrnd o rfl rfl K ((E j<|by omega).trans o) L v,⟨by show V.d<=c.d;omega,λb f l=>?_,?_⟩,⟨by show X.d<=c.d;omega,F⟩⟩;show(c.m.m j _).l b=_;rw[F b (by omega) l];exact S.d b f l;refine R.h (k+1) _ _ SC.j λb l=>?_;rw[ZD,Xd<|by grind]
end
end Go.D
namespace Go.D
open Go Go.Xe Go.Sx
mutual
def jS :c8->List c8
 | .mk k t y a x c=>.mk k t y a x c::preL c
def preL :List c8->List c8
 | []=>[]
 |s::l=>jS s++preL l
end
def GV (s:c8):jS s=s::preL s.c:=by cases s;simp only[jS];rfl
mutual
def GW :∀s:c8,(jS s).length=s.h
 | .mk k t y a x c=>by simp only[jS,c8.h,XD,preL_len c]
def preL_len :∀l:List c8,(preL l).length=c8.d l
 | []=>rfl|s::l=>by simp only[preL,c8.d,Xl,GW s,preL_len l]
end
def GX :∀ {l m:List c8},preL (l++m)=preL l++preL m
 | [],m=>rfl|s::l,m=>by simp only[Ye,preL,GX (l:=l),WX]
def lN {l:List c8}{c:c8}(h:c∈l):c.h<=c8.d l:=by
 induction l with
 |nil=>cases h
 |cons a l b=>simp only[c8.d];obtain rfl|h:=Xw.1 h;omega;have:=b h;omega
def Tl {s c n:c8}{a r:List c8}{q:Nat}(e:s.c=a++c::r)(h:(jS c)[q]? =n):(jS s)[1+c8.d a+q]? =n:=by rw[GV,e,GX,preL,show 1+c8.d a+q=c8.d a+q+1 by omega,WU,WR<|by rw[preL_len];omega,preL_len,show c8.d a+q-c8.d a=q by omega,WS (WM.1 h).1];exact h
def TY j s:=∀(i f e b:Nat) (W:Nat->Prop) (d:FB) (J:Nat->FB->Prop) (Y:Nat->Af->Prop) (F:FB) (a:Hp) (h:Ao),
 Ip PR j i W f d J Y->St W f d J e a->a.m.l b=some (.cells h 6 tN 6)->b<a.d-> ¬W b->NT F s (at6 h 0)->(∀x y,F x=some y->a.m.l x=some y/\x<a.d/\ ¬W x)->
 (∀(q:Nat) (n:c8) (g:Af),(jS s)[q]? =n->g.length=6->NT F n (λp=>g[p]?)->Y (e+q) [.agg g.toArray])->
 ∃c,P0 PR j aF [.chan (some i),.pointer<|some ⟨b,0,none⟩] a (.tuple #[]) c/\St W f d J (e+s.h) c/\Kp W a c
section
variable {W :Aa}{Z:Hp}{Y:Af}
abbrev gR0 :Code:=cdA<|D3 PR aG
abbrev gR1 :Code:=cdA<|cdB<|D3 PR aG
def Vz :D3 PR aG= .seq gR0 (.seq gR1 .ret):=by kernel_rfl
variable {Q:Ao->Hp->Prop}{V:Ao}
def ga_0 {v:Av}(b:V.l 0=some (.agg Y.toArray))(k:∀a,a.l 1=some (.pointer<|some ⟨Z.d,0,none⟩)->Q a ⟨Z.m.m Z.d<|some<|.cells (fill .e 0 Y) Y.length tN Y.length,Z.d+1⟩):YN PR W none 4 gR0 V Z Q:=by
 rw[gR0,Uc];simp only[Go.Proofs.Tryz.f60,XB,cdA,cdB];have e:(Value.agg Y.toArray).cells.toList=Y:=by simp[Value.cells]
 refine .a<|.a rfl rfl (oP OX b)<|.a rfl rfl MC<|.b ?_;rw[e];refine⟨⟨Yq _,λr c h=>by show(Z.m.m Z.d _).l r=_;rw[ZD,af];exact h⟩,k _ ?_⟩;simp only[gp];rfl
variable {v:Av}
def ga_1 (b:V.l 1=v)(k:∀a,a.l 2=some (.func (.func aF) #[] #[v])->Q a Z):YN PR W none 4 gR1 V Z Q:=by rw[gR1,Uc];simp only[Go.Proofs.Tryz.f60,XB,cdA,cdB];refine .a<|.a rfl rfl (xo_fn b)<|.a rfl rfl (De<|by simp only[gp];rfl)<|.b ⟨.a _,k _ ?_⟩;simp only[gp];rfl
def KS (x:Xe.isT (W aG)=false)(u:Y.length=6):∃d,P0 PR W aG [.agg Y.toArray] Z (.func (.func aF) #[] #[.pointer (some ⟨Z.d,0,none⟩)]) d/\d.d=Z.d+1/\d.m.l Z.d=some (.cells (fill .e 0 Y) 6 tN 6)/\(∀b,b<Z.d->d.m.l b=Z.m.l b):=by
 let⟨f,k,X0,y,o⟩:=ga_0 (W:=W) (v:=undef) (Z:=Z) (Y:=Y) (V:=fill .e 0 [.agg Y.toArray]) (Q:=λf t=>f.l 1=some (.pointer<|some ⟨Z.d,0,none⟩)/\t=⟨Z.m.m Z.d<|some<|.cells (fill .e 0 Y) Y.length tN Y.length,Z.d+1⟩) (by rw[u5 _ _<|by simp];rfl) λf a=>⟨a,rfl⟩
 let⟨i,j,X1,z,s⟩:=ga_1 (W:=W) (Z:=k) (V:=f) (Q:=λi q=>i.l 2=some (.func (.func aF) #[] #[.pointer (some ⟨Z.d,0,none⟩)])/\q=k) y λi a=>⟨a,rfl⟩
 subst s;have X:XK PR W none 4 (D3 PR aG) (fill .e 0 [.agg Y.toArray]) Z .ret i j:=by rw[Vz];exact X0.a<|X1.a .n
 let⟨n,A,B,r,C⟩:=Z0 (Y:=W) (args:=[.agg Y.toArray]) (c:=D3 PR aG) Ox (by kernel_rfl) x (show XK PR W none (1+(Go.Proofs.Tryz.f60.ntmps-1)) _ _ _ _ _ _ from(show 1+(Go.Proofs.Tryz.f60.ntmps-1)=4 from by kernel_rfl)▸X) (.inr rfl) (vs:=[.func (.func aF) #[] #[.pointer (some ⟨Z.d,0,none⟩)]]) (λq _=>by
  have e:Go.Proofs.Tryz.f60.results.toList=[.tmp 2]:=by kernel_rfl
  rw[e];simp only[I6,Z3,z,XB])
 have g:∀b,j.m.l b=if b=Z.d then some (.cells (fill .e 0 Y) 6 tN 6)else Z.m.l b:=λb=>by rw[o];show(Z.m.m Z.d _).l b=_;rw[ZD,u]
 refine⟨n,A,by rw[B,o],?_,λb w=>?_⟩;rw[r _ (by rw[g,Xg rfl];exactλh=>by cases h),g,Xg rfl]
 .by_cases l:Z.m.l b=some .dfr;rw[C.b b w l,l]
  .have p:j.m.l b=Z.m.l b:=by rw[g,af]
   rw[r b<|by rw[p];exact l,p]
end
end Go.D
namespace Go.D
open Go Go.Xe Go.Sx
def Cq :∀l:List c8,l.length<=c8.d l
 | []=>Xh _|s::l=>by have:=Cq l;have:=G8 s;simp only[c8.d,XD];omega
section
variable {U :Aa}{s:c8}{i O P y:Nat}{W:Nat->Prop}{N F:FB}{J:Nat->FB->Prop}{Y:Nat->Af->Prop}{X:Hp}{vc:Av}
def OB (ap:Xe.isT (U aG)=false)(IH:∀c∈s.c,TY U c)(be:s.c.length<1000000)(R:Ip PR U i W O N J Y)(y0:O<=y)(y1:y<X.d)(hy:X.m.l y=some (.cells (fill .e 0 [.chan (some i)]) 1 tYl 1))(hF:∀x z,F x=some z->X.m.l x=some z/\x<X.d/\ ¬W x)(hv:PV PR F (.f tN) vc (.l<|rows s.c))(hY:∀(q:Nat) (n:c8) (ws:Af),(jS s)[q]? =some n->ws.length=6->NT F n (λp=>ws[p]?)->Y (P+q) [.agg ws.toArray]):∀(r o:List c8) (M:Ao) (I:Hp),s.c=o++r->M.l 2=some (.pointer<|some ⟨y,0,none⟩)->M.l 11=vc->M.l 12=some (.int .i64 s.c.length)->M.l 13=some (.int .i64 o.length)->St W O N J (P+1+c8.d o) I->Kp W X I-> ∃ab C,XK PR U none 25 (.loop aLp) M I (.exit 0) ab C/\St W O N J (P+1+c8.d s.c) C/\Kp W X C:=by
 have nW:∀b,O<=b-> ¬W b:=λb v u=>by have:=R.r b u;omega
 intro r;induction r with
 |nil=>
  intro o M I e t2 aa L E S K;rw[YD]at e;let⟨k,f,X3,D,e1⟩:=a_3 (V:=U) (S:=none) (Z:=I) (Q:=λk h1=>k.l 14=some (.bool<|decide<|(o.length:Int)<(s.c.length:Int))/\h1=I) L E λk a b=>⟨b,rfl⟩
  subst e1;rw[Yr<|by rw[e];omega]at D;refine⟨k,f,XK.p (X3.a<|XK.r (XK.d (evt D) .w) (λh=>by cases h)) (λh=>by cases h),?_,K⟩;rw[e];exact S
 |cons c r ih=>
  intro o M I e t2 aa L E S K;have ba:o.length<s.c.length:=by rw[e];simp
  have ao:c∈s.c:=by rw[e];simp
  have an:s.c[o.length]? =some c:=by rw[e];simp
  let⟨k,f,X3,q3,D,e1⟩:=a_3 (V:=U) (S:=none) (Z:=I) (Q:=λk h1=>(∀x,x≠14->k.l x=M.l x)/\k.l 14=some (.bool<|decide<|(o.length:Int)<(s.c.length:Int))/\h1=I) L E λk a b=>⟨a,b,rfl⟩
  subst e1;rw[decide_eq_true<|by omega]at D;let⟨ic,oc,cc,bc,dc,nc,zc,ws,ev,aq,av,am,au,h6,ad⟩:=VY hv an;subst ev;let⟨f1,f2,f3⟩:=hF ic bc aq;have bk:=K.1;have tn:((o.length:Nat):Int).toNat=o.length:=rfl;let⟨B,w,X4,q4,az,e4⟩:=a_4 (V:=U) (S:=none) (Y:=k) (Z:=f) (W:=ws) (Q:=λB h4=>(∀x,x<15->x≠4->B.l x=k.l x)/\B.l 4=some (.pointer<|some ⟨f.d,0,none⟩)/\h4=⟨(f.m.m f.d<|some<|.cells zB 6 tN 6).m f.d<|some<|.cells (fill zB 0 ws) 6 tN 6,f.d+1⟩)
   (by rw[q3 11<|by decide];exact aa) (by rw[q3 13<|by decide];exact E) (by omega) (by omega) ((K.2 ic f2 f3).trans f1) av (by rw[tn];exact am) (by rw[tn];exact au) h6 (ad.r h6) (by omega) λB a b=>⟨a,b,rfl⟩
  have g4:∀b,b<f.d->w.m.l b=f.m.l b:=λb v=>by rw[e4];show((f.m.m f.d _).m f.d _).l b=_;rw[ZD,af,ZD,af]
  have aj:w.m.l f.d=some (.cells (fill zB 0 ws) 6 tN 6):=by rw[e4];show((f.m.m f.d _).m f.d _).l f.d=_;rw[ZD,Xg rfl]
  have bg:w.d=f.d+1:=by rw[e4]
  let⟨ah,XG,bh,ak,g5⟩:=KS (W:=U) (Z:=w) ap h6;have aw:F9 w ah:=⟨by omega,λb v h=>by rw[g5 b v];exact h⟩
  let⟨t,d,X5,q5,ay,e5⟩:=a_5 (V:=U) (S:=none) (Y:=B) (Q:=λt h5=>(∀x,x<17->t.l x=B.l x)/\t.l 18=some (.func (.func aF) #[] #[.pointer (some ⟨w.d,0,none⟩)])/\h5=ah) az aj (xZ h6) XG aw λt a b=>⟨a,b,rfl⟩
  subst e5;have ai:t.l 2=some (.pointer<|some ⟨y,0,none⟩):=by rw[q5 2<|by decide,q4 2 (by decide)<|by decide,q3 2<|by decide];exact t2
  have Sn:=S.r;have H:∀b,b<f.d->d.m.l b=f.m.l b:=λb v=>(g5 b<|by omega).trans<|g4 b v;have S5:St W O N J (P+1+c8.d o) d:=S.h R (by omega) λb v=>H b (by omega);let lp:Blk:= .loop .ready none 25 t #[19] aR6 aBo d.d
  let g:Hp:=⟨(d.m.m d.d<|some .dfr).m (d.d+1)<|some lp,d.d+2⟩
  have g6:∀b,b<d.d->g.m.l b=d.m.l b:=λb v=>by show((d.m.m d.d _).m (d.d+1) _).l b=_;rw[ZD,af,ZD,af]
  have al:g.m.l d.d=some .dfr:=by show((d.m.m d.d _).m (d.d+1) _).l d.d=_;rw[ZD,af,ZD,Xg rfl]
  have ac:g.m.l (d.d+1)=lp:=by show((d.m.m d.d _).m (d.d+1) _).l (d.d+1)=_;rw[ZD,Xg rfl]
  have bi:g.d=d.d+2:=rfl;have gy:g.m.l y=some (.cells (fill .e 0 [.chan (some i)]) 1 tYl 1):=by rw[g6 y<|by omega,H y<|by omega,K.2 y y1<|nW y y0];exact hy
  have S6:St W g.d g.m.l J (P+1+c8.d o) g:=⟨Xh _,λ_ _ _=>rfl,R.h _ _ _ S5.j λb u=>g6 b (by have:=R.r b u;omega)⟩
  let⟨A,XA,S7,K7⟩:=IH c ao (d.d+1) g.d (P+1+c8.d o) w.d W g.m.l J Y F g (fill .e 0 ws) (inner R (by omega) (λb v u=>by rw[g6 b<|by omega];exact S5.d b v u) ac (by omega) (by omega) gy y0 (by omega) (by omega) ai) S6 (by rw[g6 _<|by omega];exact ak) (by omega) (nW _<|by omega) (by rw[FX];exact ad)
   (λx z hx=>by let⟨a1,a2,a3⟩:=hF x z hx;exact⟨by rw[g6 x<|by omega,H x<|by omega,K.2 x a2 a3];exact a1,by omega,a3⟩)
   (λq n us hq hu hn=>by have:=hY _ n us (Tl e hq) hu hn;rwa[show P+(1+c8.d o+q)=P+1+c8.d o+q by omega]at this)
  have n7:=S7.r;have XR:XK PR U none 25 (.rangeFunc (.tmp 18) #[19] aR6 aBo) t d .normal t ⟨A.m.m (d.d+1) none,A.d⟩:=XK.j (evt ay) a_fn a_ok XA ((S7.d _ (by omega)<|nW _<|by omega).trans al) ((S7.d _ (by omega)<|nW _<|by omega).trans ac) (by omega) λb v hd=>by have u:¬W b:=λu=>R.d _ _ b S5.j u hd;rw[S7.d b (by omega) u,g6 b v];exact hd
  let h8:Hp:=⟨A.m.m (d.d+1) none,A.d⟩
  have g8:∀b,b<f.d-> ¬W b->h8.m.l b=f.m.l b:=λb v u=>by show(A.m.m (d.d+1) none).l b=_;rw[ZD,af,S7.d b (by omega) u,g6 b<|by omega,H b v]
  have bj:h8.d=A.d:=rfl;have S8:St W O N J (P+1+c8.d (o++ [c])) h8:=by refine⟨by omega,λb v u=>by rw[g8 b (by omega) u];exact S.d b v u,?_⟩;rw[bL,show P+1+(c8.d o+c8.d [c])=P+1+c8.d o+c.h by simp only[c8.d];omega];refine R.h _ _ _ S7.j λb u=>?_;show(A.m.m (d.d+1) none).l b=_;rw[ZD,Xd (by have:=R.r b u;omega)]
  have K8:Kp W X h8:=K.d ⟨by omega,g8⟩;let⟨G,bb,X8,q8,ax,e8⟩:=a_8 (V:=U) (S:=none) (Y:=t) (Z:=h8) (j:=o.length) (Q:=λG h=>(∀x,x<13->G.l x=t.l x)/\G.l 13=some (.int .i64<|(o.length:Int)+1)/\h=h8) (by rw[q5 13<|by decide,q4 13 (by decide)<|by decide,q3 13<|by decide];exact E) (by omega) (by omega) λG a b=>⟨a,b,rfl⟩
  subst e8;let⟨ab,C,XL,SL,KL⟩:=ih (o++ [c]) G h8 (by rw[e];simp) (by rw[q8 2<|by decide];exact ai) (by rw[q8 11<|by decide,q5 11<|by decide,q4 11 (by decide)<|by decide,q3 11<|by decide];exact aa) (by rw[q8 12<|by decide,q5 12<|by decide,q4 12 (by decide)<|by decide,q3 12<|by decide];exact L) (by rw[ax];simp) S8 K8;exact⟨ab,C,XK.q (X3.a<|XK.a (XK.i (evt D) .h)<|XK.a (XK.b<|X4.a<|X5.a<|XK.b XR) X8) XL,SL,KL⟩
end
def Kp.f {W:Nat->Prop}{e a c:Hp}(K:Kp W e a)(i:c.d=a.d)(h:∀b,a.m.l b≠some .dfr->c.m.l b=a.m.l b)(j:F9 e c):Kp W e c:=
 ⟨by rw[i];exact K.1,λb d g=>by by_cases f:a.m.l b=some .dfr;have:=K.2 b d g;rw[f]at this;rw[<-this];exact j.b b d this.symm;rw[h b f];exact K.2 b d g⟩
def OA {n:Aa}(D:Xe.isT (n aF)=false)(E:Xe.isT (n aG)=false):∀(N:Nat) (s:c8),s.h<=N->s.h<1000000->TY n s
 |0,s,h,_=>by have:=G8 s;omega|N+1,s,hN,hs=>by
  intro i n0 H b W g0 J Y F f cs R S U b1 bw B hF hY;have ac:=G8 s;let⟨ws,hl,h6,u⟩:=B.s;have nW:∀b,n0<=b-> ¬W b:=λb U u=>by have:=R.r b u;omega
  have Sn:=S.r;let⟨l,k,X0,q1,q2,P⟩:=a_0 (V:=n) (S:=none) (i:=i) (v:= .pointer (some ⟨b,0,none⟩)) (Z:=f) (Y:=fill .e 0 [.chan (some i),.pointer<|some ⟨b,0,none⟩]) (Q:=λl h1=>l.l 1=some (.pointer<|some ⟨b,0,none⟩)/\l.l 2=some (.pointer<|some ⟨f.d,0,none⟩)/\h1=⟨f.m.m f.d<|some<|.cells (fill .e 0 [.chan (some i)]) 1 tYl 1,f.d+1⟩)
   (by rw[u5 _ _<|by simp];rfl) (by rw[u5 _ _<|by simp];rfl) λl a c=>⟨a,c,rfl⟩
  have w:∀c,c<f.d->k.m.l c=f.m.l c:=λc C=>by rw[P];show(f.m.m f.d _).l c=_;rw[ZD,af]
  have gy:k.m.l f.d=some (.cells (fill .e 0 [.chan (some i)]) 1 tYl 1):=by rw[P];show(f.m.m f.d _).l f.d=_;rw[ZD,Xg rfl]
  have ak:k.d=f.d+1:=by rw[P]
  have Ka:Kp W f k:=⟨by omega,λc C _=>w c C⟩
  have Sa:St W n0 g0 J H k:=S.h R (by omega) λc C=>w c (by omega);let⟨aa,XR,Sb,Kb⟩:=R.s H [.agg ws.toArray] k Sa<|hY 0 s ws (by rw[GV];rfl) h6 u;have ad:=Kb.h λc C=>R.d H _ c Sa.j C;have al:=Kb.1;let⟨o,p,X1,I,q9,eb⟩:=a_1 (V:=n) (S:=none) (Y:=l) (Q:=λo h2=>(∀x,x<6->o.l x=l.l x)/\o.l 9=some (.bool false)/\h2=aa) q1 q2 gy ((w b b1).trans U) hl XR ad λo a c=>⟨a,c,rfl⟩
  subst eb;let⟨hH,vc,A,hv⟩:=B;have A:cs.l 5=vc:=by have A:cs.l (0+5)=vc:=A;rwa[Xq]at A
  let⟨q,c,ev⟩:=VX hv;subst ev;let⟨g,r,X2,ai,ae,K,ah,e2⟩:=a_2 (V:=n) (S:=none) (Y:=o) (Z:=p) (Q:=λg h3=>(∀x,x<6->g.l x=o.l x)/\g.l 11=some (.slice q s.c.length c)/\g.l 12=some (.int .i64 s.c.length)/\g.l 13=some (.int .i64 0)/\h3=p) (by rw[I 1<|by decide];exact q1) (by rw[Kb.2 b (by omega) bw,w b b1];exact U) A λg M O L a4=>⟨M,O,L,a4,rfl⟩
  subst e2;let⟨aj,ab,XL,SL,KL⟩:=OB E (IH:=λd t=>OA D E N d (by have:=lN t;omega) (by have:=lN t;omega)) (by have:=Cq s.c;omega) R (y:=f.d) (X:=r) Sn (by omega) (by rw[Kb.2 f.d (by omega)<|nW _ Sn];exact gy)
   (λx z hx=>by let⟨M,O,L⟩:=hF x z hx;exact⟨by rw[Kb.2 x (by omega) L,w x O];exact M,by omega,L⟩) hv hY s.c [] g r rfl (by rw[ai 2<|by decide,I 2<|by decide];exact q2) ae K ah (by simpa [c8.d]using Sb) .r
  have X:XK PR n none 25 (D3 PR aF) (fill .e 0 [.chan (some i),.pointer<|some ⟨b,0,none⟩]) f .normal aj ab:=by rw[Ve];exact X0.a<|(X1.a<|XK.d (evt q9) .h).a<|X2.a<|XK.m XL
  let⟨G,r1,r2,r3,r4⟩:=Z0 (Y:=n) (args:=[.chan (some i),.pointer<|some ⟨b,0,none⟩]) (c:=D3 PR aF) a_fn (by kernel_rfl) D (show XK PR n none (2+(Go.Proofs.Tryz.f108.ntmps-2)) _ _ _ _ _ _ from(show 2+(Go.Proofs.Tryz.f108.ntmps-2)=25 from by kernel_rfl)▸X) (.inl rfl) (vs:=[]) (λ_ _=>by
   have e:Go.Proofs.Tryz.f108.results.toList=[]:=by kernel_rfl
   rw[e];rfl)
  have K3:Kp W f G:=((Ka.d Kb).d KL).f r2 r3 r4;have k1:=K3.1;refine⟨G,r1,⟨by omega,λd t u=>by rw[K3.2 d (by omega) u];exact S.d d t u,?_⟩,K3⟩;rw[ac,show H+(c8.d s.c+1)=H+1+c8.d s.c by omega];exact R.h _ _ _ SL.j λd t=>r3 d<|R.d _ _ d SL.j t
section
variable {P :Aa}{D:DM}{M K c:Nat}{H:FB}{u:Av}{p:Aq}{s:Sl}
def Ga (ax:Xe.isT (P bF)=false)(ay:Xe.isT (P bG)=false)(w:WF D K)(hL:Dj P D M H u)(hu:u= .pointer p)(hs:D.L[c]? =some s)(us:s.d)(IH:∀j∈s.n.e,BL P D M H u j)(az:s.n.e.length<1000000):BL P D M H u c:=by
 intro i n0 k0 b oq bd od nb eb zb nd ed zd O0 O g0 J Y g cs cd R S E ai hl b1 bw hd aj ah d1 dw bl hS oS hY;rw[Z4 w hs us]at hY⊢;have Sn:=S.A;have ae:=S.w;have nN:∀b,g.d<=b-> ¬O b:=λb E h=>by have:=ae b h;omega
 let⟨o,l,X0,q1,q2,q3,ea⟩:=b_0 (W:=P) (ar:=none) (i:=i) (u:= .pointer (some ⟨b,oq,none⟩)) (v:= .pointer (some ⟨bd,od,none⟩)) (Z:=g) (Y:=fill .e 0 [.chan (some i),.pointer<|some ⟨b,oq,none⟩,.pointer<|some ⟨bd,od,none⟩]) (Q:=λo h1=>o.l 1=some (.pointer<|some ⟨b,oq,none⟩)/\o.l 2=some (.pointer<|some ⟨bd,od,none⟩)/\o.l 3=some (.pointer<|some ⟨g.d,0,none⟩)/\h1=⟨g.m.m g.d<|some<|.cells (fill .e 0 [.chan (some i)]) 1 tYh 1,g.d+1⟩)
  (by rw[u5 _ _<|by simp];rfl) (by rw[u5 _ _<|by simp];rfl) (by rw[u5 _ _<|by simp];rfl) λo a1 a2 a3=>⟨a1,a2,a3,rfl⟩
 have ga:∀c,c<g.d->l.m.l c=g.m.l c:=λc k=>by rw[ea];show(g.m.m g.d _).l c=_;rw[ZD,af]
 have gy:l.m.l g.d=some (.cells (fill .e 0 [.chan (some i)]) 1 tYh 1):=by rw[ea];show(g.m.m g.d _).l g.d=_;rw[ZD,Xg rfl]
 have bm:l.d=g.d+1:=by rw[ea]
 have Ka:Kp O g l:=⟨by omega,λc k _=>ga c k⟩
 have Sa:OSt n0 g0 O0 J k0 O l:=S.d R (by omega) λc k=>ga c (by obtain k|k:=k;omega;exact ae c k);let⟨al,O1,XR,Sb,Kb,m1,m2⟩:=R.r k0 O [.agg (hv D c).toArray] l Sa<|hY 0 c rfl;have ba:=Kb.h λc k=>R.d k0 _ _ c Sa.j k;have bn:=Kb.1;have gb:∀c,c<g.d-> ¬O c->al.m.l c=g.m.l c:=λc k hw=>(Kb.2 c (by omega) hw).trans<|ga c k;let⟨B,z,X1,aa,q9,au⟩:=b_1 (W:=P) (ar:=none) (Y:=o) (Q:=λB h2=>(∀x,x<9->B.l x=o.l x)/\B.l 12=some (.bool false)/\h2=al) q1 q3 gy ((ga b b1).trans E) ai hl XR ba λB a c=>⟨a,c,rfl⟩
 subst au;have ad:∀b,b<M-> ¬O b:=λb E h=>by have:=oS b h;omega
 let⟨f,vs,rr,q,cc,XL,be,gc,bk,ho,h9,aw⟩:=hL c s z hs us (by omega) λb E=>(gb b (by omega)<|ad b E).trans<|hS b E;have bb:F9 z f:=⟨be,λr hr h=>by rw[gc r hr];exact h⟩
 let⟨C,A,X2,an,q4,ab⟩:=b_2 (ov:=P) (ar:=none) (X:=B) (vs:=vs) (Q:=λC h3=>(∀x,x<4->C.l x=B.l x)/\C.l 4=some (.pointer<|some ⟨f.d,0,none⟩)/\h3=⟨(f.m.m f.d<|some<|.cells zVB 10 tVw 10).m f.d<|some<|.cells (fill zVB 0 vs) 10 tVw 10,f.d+1⟩)
  (by rw[aa 1<|by decide];exact q1) ((gb b b1 bw).trans E) ai hl (by rw[aa 2<|by decide];exact q2) ((gb bd d1 dw).trans hd) aj ah XL bb bk ho λC a c=>⟨a,c,rfl⟩
 have gd:∀c,c<f.d->A.m.l c=f.m.l c:=λc k=>by rw[ab];show((f.m.m f.d _).m f.d _).l c=_;rw[ZD,af,ZD,af]
 have av:A.m.l f.d=some (.cells (fill zVB 0 vs) 10 tVw 10):=by rw[ab];show((f.m.m f.d _).m f.d _).l f.d=_;rw[ZD,Xg rfl]
 have bo:A.d=f.d+1:=by rw[ab]
 have F:∀c,c<z.d->A.m.l c=z.m.l c:=λc k=>(gd c<|by omega).trans<|gc c k;let⟨t,G,X3,ao,bg,bh,bi,e4⟩:=b_3 (V:=P) (ar:=none) (Y:=C) (Z:=A) (Q:=λt h4=>(∀x,x<9->t.l x=C.l x)/\t.l 20=some (.slice q s.n.e.length cc)/\t.l 21=some (.int .i64 s.n.e.length)/\t.l 22=some (.int .i64 0)/\h4=A) q4 av (by omega) (by rw[j6,Xg ⟨by omega,by omega⟩];exact h9) λt a1 a2 a3 a4=>⟨a1,a2,a3,a4,rfl⟩
 subst e4;have ap:OSt n0 g0 O0 J (k0+1) O1 G:=Sb.d R (by omega) λc k=>F c (by rcases k with k|k;omega;exact Sb.w c k);have ac:∀c,c<l.d-> ¬O c-> ¬O1 c:=λc k h h'=>(m2 c h').elim h λh3=>by omega
 let⟨bj,am,O',aq,SL,KL,m',w'⟩:=OU (cc:=cc) (L:=k0+1) ay hu IH az R (y:=g.d) (U:=G) (N:=O1) (by omega) (ac _ (by omega)<|nN _<|Xh _) (by omega) (by rw[F _<|by omega,Kb.2 g.d (by omega)<|nN _<|Xh _];exact gy)
  (I:=bd) (ac _ (by omega) dw) (by omega) (by rw[F _<|by omega,gb bd d1 dw];exact hd) aj ah (by omega) (λb E=>by rw[F b<|by omega,gb b (by omega)<|ad b E];exact hS b E) (λb E=>(m2 b E).elim (oS b) λh=>by omega)
  (λj x hj=>by let⟨ic,oc,bc,dc,nc,zc,k1,⟨k2,k3,k4⟩,k5⟩:=aw j x hj;refine⟨ic,oc,bc,dc,nc,zc,k1,⟨(gd ic k3).trans k2,by omega,λh=>?_⟩,k5⟩;have:=Sb.w ic h;obtain k4|k4:=k4;exact ac ic (by omega) (ad ic k4) h;omega)
  (λq x hq=>by have:=hY (q+1) x (by rw[WU];exact hq);rwa[show k0+(q+1)=k0+1+q by omega]at this)
  s.n.e [] t G O1 rfl (by rw[ao 2<|by decide,an 2<|by decide,aa 2<|by decide];exact q2) (by rw[ao 3<|by decide,an 3<|by decide,aa 3<|by decide];exact q3) bg bh bi ap .r (λb h=>h) (λb h=>.inl h)
 have X:XK PR P none 35 (D3 PR bF) (fill .e 0 [.chan (some i),.pointer<|some ⟨b,oq,none⟩,.pointer<|some ⟨bd,od,none⟩]) g .normal bj am:=by rw[Vl];exact X0.a<|(X1.a<|XK.d (evt q9) .h).a<|X2.a<|X3.a<|XK.m aq
 let⟨ak,r1,r2,r3,r4⟩:=Z0 (Y:=P) (args:=[.chan (some i),.pointer<|some ⟨b,oq,none⟩,.pointer<|some ⟨bd,od,none⟩]) (c:=D3 PR bF) b_fn (by kernel_rfl) ax (show XK PR P none (3+(Go.Proofs.Tryz.f101.ntmps-3)) _ _ _ _ _ _ from(show 3+(Go.Proofs.Tryz.f101.ntmps-3)=35 from by kernel_rfl)▸X) (.inl rfl) (vs:=[]) (λ_ _=>by
  have e:Go.Proofs.Tryz.f101.results.toList=[]:=by kernel_rfl
  rw[e];rfl)
 have mm:∀b,O b->O' b:=λb h=>m' b<|m1 b h;have Kz:Kp O g am:=((Ka.d Kb).d ⟨by omega,λc k _=>F c k⟩).s KL λc h=>(m2 c h).imp id λh=>by omega
 have K3:Kp O g ak:=Kz.f r2 r3 r4;have k1:=K3.1;refine⟨ak,O',r1,⟨by omega,λd hd hw=>?_,λd hd=>by rw[r2];exact SL.w d hd,SL.s,SL.h,?_⟩,K3,mm,λd hd=>?_⟩;rw[K3.2 d (by omega) λh=>hw<|mm d h];exact S.r d hd λh=>hw<|mm d h;rw[XD,show k0+((s.n.e.flatMap<|bel D 1001).length+1)=k0+1+(s.n.e.flatMap<|bel D 1001).length by omega];exact R.h _ _ _ _ SL.j λd hd=>r3 d<|R.d _ _ _ d SL.j hd
 .rcases w' d hd with h|h;exact(m2 d h).imp id λh=>by omega
  exact .inr (by omega)
def Pe (w:WF D K)(e:D.L[c]? =s)(f:s.d):s.n.e.length<1000000:=by
 let⟨a,b⟩:=w.A c s e f;have:s.n.e ⊆ List.range D.L.length:=λj d=>by let⟨g,k,_⟩:=b j d;exact List.mem_range.2 (WM.1 k).1
 have:=a.length_le_of_subset this;have:=w.m;simp at*;omega
def KZ (d:Xe.isT (P bF)=false)(e:Xe.isT (P bG)=false)(w:WF D K)(hL:Dj P D M H u)(k:u= .pointer p){r:Nat->Nat}(g:∀i,r i<=K)(h:∀(i:Nat) s,D.L[i]? =some s->s.d-> ∀j∈s.n.e,r i<r j):∀(N c:Nat) (s:Sl),D.L[c]? =some s->s.d->K-r c<=N->BL P D M H u c
 |0,c,s,a,b,l=>Ga d e w hL k a b (λj f=>by have:=h c s a b j f;have:=g j;omega)<|Pe w a b|N+1,c,s,a,b,l=>Ga d e w hL k a b (λj f=>by let⟨q,m,o,_⟩:=(w.A c s a b).2 j f;have:=h c s a b j f;have:=g j;exact KZ d e w hL k g h N j q m o<|by omega)<|Pe w a b
def Vm (a:Xe.isT (P bF)=false)(b:Xe.isT (P bG)=false)(w:WF D K)(hL:Dj P D M H u)(g:u= .pointer p)(f:D.L[c]? =s)(h:s.d):BL P D M H u c:=by let⟨r,d,e⟩:=w.B;exact KZ a b w hL g d e _ c s f h<|Xh _
end
abbrev sF :Ay:=100
def QZ :D3 PR sF=Go.Proofs.Tryz.f100.body.getD .skip:=by kernel_rfl
def s_fn :PR.funcs[sF]? =Go.Proofs.Tryz.f100:=by kernel_rfl
def s_ok :cN Go.Proofs.Tryz.f100:=by kernel_rfl
def Vp :Nat.beq tHs rgT=false:=by kernel_rfl
noncomputable def niHs :Ba:=(PR.info? tHs).getD default
def Te :PR.info? tHs=niHs:=by kernel_rfl
def Nj :niHs.size=1:=by kernel_rfl
def Qo :Nat.ble niH.bytes 1048576:=by kernel_rfl
def UQ :niH.zero=zH:=by kernel_rfl
section
variable {S :Aa}{Z V W:Hp}{X:Ao}{x y t i o n e z b:Nat}{cs:Ao}{vs Y:Af}{v a u:Av}{Q:Ao->Hp->Prop}{R:Ai}
variable {q:Aq}{c:Nat}
def st_Hs {l:Nat}(h:Z.m.l i=some (.cells cs n e z))(b:o+1<=n):G1 PR Z tHs (.pointer<|some ⟨i,o,none⟩) (.slice q l c)=some {Z with m:=Z.m.m i<|some<|.cells (fill cs o [.slice q l c]) n e z}:=by have:(Value.slice q l c).cells.toList=[.slice q l c]:=rfl;have a: [Value.slice q l c].all Value.oneCell'=true:=rfl;simp only[G1,h,Te,Nj,this,XD,YS,Xq,w9,WQ b,a,Bool.and_self,Xa,N7]
def Wy (g:X.l x=some (.agg Y.toArray))(a:Y.length=2)(call:i9):xop PR call X Z (.buildSlice tHs 1 #[(0,.tmp x)])=some (.slice (some ⟨Z.d,0,none⟩) 1 1,⟨Z.m.m Z.d<|some<|.cells (fill .e 0 Y) 2 tHn 2,Z.d+1⟩):=by
 have b:(Value.agg Y.toArray).cells.toList=Y:=rfl;have c:splice (xrep 1 zH.cells.toList) 0 Y=Y:=by
  refine List.ext_getElem? λj=>?_;have f:(xrep 1 zH.cells.toList).length=2:=by rw[Xe.xrep_length,tP]
  simp only[splice,List.take_zero,List.nil_append,Xq];grind
 have d:Nat.ble (0*2+2) (xrep 1 zH.cells.toList).length:=by rw[Xe.xrep_length,tP];rfl
 simp only[xop,ob,aP,i7,g,XB,xnw,KB,AY,rW,Va,eT,tP,w9,Bool.and_self];rw[show Nat.ble 1 16777216=true from rfl,show Nat.ble (1*2) 16777216 from rfl];simp only[Bool.and_self,Xa,nC,b,a,w9,d];rw[YC,c];simp only[V3,Hp.g,Nw.d,J2,a]
def Wx {w:Av}{a:Array Ax}(b:a.toList=[tHs,tHs])(c:X.l x=w)(d:X.l y=u)(h:C7 PR Z .append [tHs,tHs] [w,u]=(v,W))(call:i9):xop PR call X Z (.call ⟨.builtin .append,#[.tmp x,.tmp y],a⟩)=(v,W):=by simp only[xop,ob,Y8,i7,c,d,XB,b,h]
def MD (call:i9):xop PR call X Z (.assign<|.const<|.slice none 0 0)=some (.slice none 0 0,Z):=by have h:cst (.slice none 0 0)=true:=rfl;simp only[xop,ob,i7,h,Xa,j4]
def SlK (Z:FB)(v:Av)(k:Nat)(a:Af)(q:Ai):Prop:=(k=0/\v= .slice none 0 0/\a=[]/\q=none)\/(1<=k/\ ∃(r:Nat) (c:Ao),v= .slice (some ⟨r,0,none⟩) k (i4 k 0)/\Z r=some (.cells c (k*2) tHn 2)/\j8 c 0 (k*2)=a/\q=r)
variable {k:Nat}{U:Af}
def SlK.f {g:FB}{q:Ai}(h:SlK g v k U q):∃p c,v= .slice p k c:=by obtain⟨rfl,rfl,_⟩| ⟨_,r,c,rfl,_⟩:=h;exact⟨_,_,rfl⟩;exact⟨_,_,rfl⟩
def GF {c:Ao}{Y:Af}(h:j8 c 0 k=U):j8 (fill c k Y) 0 (k+Y.length)=(U++Y):=by let⟨d,a⟩:=u7 h;have:=B6 (c:=fill c k Y) (vs:=U++Y) (o:=0) (λq e=>by rw[Xq,j6];by_cases b:q<k;rw[af,WS<|by omega];have:=a q b;rw[Xq]at this;exact this.symm;rw[Xl]at e;rw[Xg ⟨by omega,by omega⟩,WR<|by omega];congr 1;omega);rwa[Xl,d]at this
def appH {q:Ai}(h:SlK Z.m.l v k U q)(E:k<=1000000)(z:Z.m.l c=some (.cells (fill .e 0 Y) 2 tHn 2))(f:Y.length=2)(A:Y.all Value.oneCell'=true)(B:∀r,q=some r->r<Z.d):∃n W,C7 PR Z .append [tHs,tHs] [v,.slice (some ⟨c,0,none⟩) 1 1]=some (n,W)/\W.d=Z.d+1/\SlK W.m.l n (k+1) (U++Y) (some Z.d)/\(∀b,b<Z.d->q≠some b->W.m.l b=Z.m.l b)/\ ∀b,q=some b->W.m.l b=none:=by
 have i:A8 Z 2 (.slice (some ⟨c,0,none⟩) 1 1)=some (1,Y):=by simp only[A8,z,rdC];rw[show Nat.ble (0+1*2) 2=true from rfl,Nat.one_mul,kY f];rfl
 have l:Nat.beq 2 2=true:=rfl;rcases h with⟨rfl,rfl,rfl,rfl⟩| ⟨F,r,d,rfl,C,j,rfl⟩;refine⟨.slice (some ⟨Z.d,0,none⟩) 1<|i4 1 0,Z.f Y tHn 2,?_,rfl,.inr ⟨by omega,Z.d,fill .e 0 Y,rfl,?_,?_,rfl⟩,λb a _=>?_,λb a=>by cases a⟩;simp only[C7,F8,AY,rW,UQ,tP,eT,Qo,l,Bool.and_self,Xa,i];rfl;show(Z.m.m Z.d _).l Z.d=_;rw[ZD,Xg rfl,f];rw[List.nil_append];exact kY f;show(Z.m.m Z.d _).l b=_;rw[ZD,af]
 .have D:=B r rfl;refine⟨.slice (some ⟨Z.d,0,none⟩) (k+1)<|i4 (k+1) 0,⟨(Z.m.m r none).m Z.d<|some<|.cells (fill d (k*2) Y) ((k+1)*2) tHn 2,Z.d+1⟩,?_,rfl,.inr ⟨by omega,Z.d,fill d (k*2) Y,rfl,?_,?_,rfl⟩,λb a g=>?_,λb a=>?_⟩
  .have o:Nat.ble (k+1) 67108864=true:=WQ (by omega);have p:Nat.beq 1 0=false:=rfl;have s:Nat.ble unk (i4 k 0)=true:=WQ<|y5 _ _;have t:Nat.ble 1 (I0<|i4 k 0)=false:=by rw[J4 I8];rfl
   have u:Nat.ble (0+k*2) (k*2)=true:=WQ (by omega);have w:Nat.ble (k+1) (R7<|i4 k 0)=false:=by
    rw[K9 I8];cases h:Nat.ble (k+1) k with
    |false=>rfl|true=>have:=WN h;omega
   have x:Nat.beq tHn tHn=true:=rfl;have y:Nat.beq 0 0=true:=rfl;simp only[C7,F8,AY,rW,UQ,tP,eT,Qo,l,Bool.and_self,Xa,i,C,o,A,p,Xb,s,t,Bool.false_and,x,u,w,j,y,ZB]
  show((Z.m.m r none).m Z.d _).l Z.d=_;rw[ZD,Xg rfl];rw[show(k+1)*2=k*2+Y.length by omega];exact GF j;show((Z.m.m r none).m Z.d _).l b=_;rw[ZD,af,ZD,Xd<|by rintro rfl;exact g rfl];cases a;show((Z.m.m r none).m Z.d _).l r=_;rw[ZD,af,ZD,Xg rfl]
abbrev sR0 :Code:=cdA<|D3 PR sF
abbrev sR1 :Code:=cdA<|cdA<|cdB<|D3 PR sF
abbrev sRF :Code:=cdA<|cdB<|cdA<|cdB<|D3 PR sF
abbrev sR2 :Code:=Gf sRF
abbrev sBo :Code:=Gg sRF
abbrev sR3 :Code:=cdA sBo
abbrev sR4 :Code:=cdA<|cdB<|cdB<|D3 PR sF
def Wi :D3 PR sF= .seq sR0 (.seq (.seq sR1<|.block 0<|.rangeFunc (.tmp 6) #[7] sR2 sBo)<|.seq sR4 .ret):=by kernel_rfl
def s_bo :sBo= .block 1 sR3:=by kernel_rfl
def s_0 (b:X.l 0=some (.slice none 0 0))(c:X.l 1=v)(k:∀a,a.l 1=some v->a.l 2=some (.pointer<|some ⟨Z.d,0,none⟩)->Q a ⟨Z.m.m Z.d<|some<|.cells (fill .e 0 [.slice none 0 0]) 1 tHs 1,Z.d+1⟩):YN PR S R 13 sR0 X Z Q:=by rw[sR0,QZ];simp only[Go.Proofs.Tryz.f100,XB,cdA,cdB];have e:(Value.slice none 0 0).cells.toList=[.slice none 0 0]:=rfl;refine .a<|.a rfl rfl (oP Vp b) ?_;rw[e];refine .a rfl rfl MD<|.b ⟨⟨Yq _,λr d h=>by show(Z.m.m Z.d _).l r=_;rw[ZD,af];exact h⟩,k _ ?_ ?_⟩;simp only[gp];exact c;simp only[gp];rfl
def s_1 (b:X.l 1=v)(k:∀a,(∀x,x≠6->a.l x=X.l x)->a.l 6=some v->Q a Z):YN PR S R 13 sR1 X Z Q:=by rw[sR1,QZ];simp only[Go.Proofs.Tryz.f100,XB,cdA,cdB];exact .a<|.a rfl rfl (qX b)<|.b ⟨.a _,k _ (λx c=>by rw[gp,Xd c])<|by rw[gp,Xg rfl]⟩
def s_2 (c:X.l 7=some (.agg Y.toArray))(b:Y.length=2)(d:Y.all Value.oneCell')(k:∀a,(∀x,x≠5->a.l x=X.l x)->a.l 5=some (.pointer<|some ⟨Z.d,0,none⟩)->Q a ⟨(Z.m.m Z.d<|some<|.cells zHB 2 tHn 2).m Z.d<|some<|.cells (fill zHB 0 Y) 2 tHn 2,Z.d+1⟩):YN PR S R 13 sR2 X Z Q:=by rw[sR2,sRF,QZ];simp only[Go.Proofs.Tryz.f100,XB,cdA,cdB,Gf];refine .a<|.a rfl rfl tH<|.a rfl rfl (P9 (by simp only[gp];rfl) (by simp only[gp];exact c)<|st_H (by rw[ZD,Xg rfl]) (by omega) b d)<|.b ⟨⟨Yq _,λr f h=>?_⟩,k _ (λx e=>?_) ?_⟩;show((Z.m.m Z.d _).m Z.d _).l r=_;rw[ZD,af,ZD,af];exact h;simp only[gp,gn];rw[Xd e];simp only[gp,gn];rfl
variable {W:Ao}
def s_3 {a:Nat}{cc:Ao}{l m:Nat}(f:X.l 2=some (.pointer<|some ⟨a,0,none⟩))(g:Z.m.l a=some (.cells W 1 tHs 1))(hv:W.l 0=v)(u:a<Z.d)(j:X.l 5=some (.pointer<|some ⟨c,0,none⟩))(o:Z.m.l c=some (.cells cc 2 tHn 2))(p:j8 cc 0 2=Y)(t:Y.length=2)(n:C7 PR ⟨Z.m.m Z.d<|some<|.cells (fill .e 0 Y) 2 tHn 2,Z.d+1⟩ .append [tHs,tHs] [v,.slice (some ⟨Z.d,0,none⟩) 1 1]=some (.slice q l m,V))(b:V.m.l a=some (.cells W 1 tHs 1))(i:F9 Z V)(k:∀d,Q d ⟨V.m.m a<|some<|.cells (fill W 0 [.slice q l m]) 1 tHs 1,V.d⟩):YN PR S R 13 sR3 X Z Q:=by rw[sR3,sBo,sRF,QZ];simp only[Go.Proofs.Tryz.f100,XB,cdA,cdB,Gg];refine .a<|.a rfl rfl (C9 f<|(uW Iv g rfl<|by omega).trans hv)<|.a rfl rfl (C9 (by rw[gp,Xd<|by decide];exact j)<|MT o rfl (by omega) p)<|.a rfl rfl (Wy (by simp only[gp];rfl) t)<|.a rfl rfl (Wx rfl (by simp only[gp];rfl) (by simp only[gp];rfl) n)<|.a rfl rfl (P9 (by simp only[gp];exact f) (by simp only[gp];rfl)<|st_Hs b<|by omega)<|.b ⟨⟨i.d,λr s h=>?_⟩,k _⟩;show(V.m.m a _).l r=_;rw[ZD,Xd (by rintro rfl;rw[g]at h;cases h)];exact i.b r s h
def s_4 {b:Nat}(c:X.l 2=some (.pointer<|some ⟨b,0,none⟩))(d:Z.m.l b=some (.cells W 1 tHs 1))(hv:W.l 0=v)(k:∀a,a.l 4=some v->Q a Z):YN PR S R 13 sR4 X Z Q:=by rw[sR4,QZ];simp only[Go.Proofs.Tryz.f100,XB,cdA,cdB];refine .a<|.a rfl rfl (C9 c<|(uW Iv d rfl<|by omega).trans hv)<|.a rfl rfl (De<|by simp only[gp];rfl)<|.b ⟨.a _,k _ ?_⟩;simp only[gp];rfl
end
def appJ (D:DM)(L:Ah)(a:Nat)(k:Nat)(O:Nat->Prop)(g:FB):Prop:=O a/\(∀b,O b->g b≠some .dfr)/\ ∃(c:Ao) (v:Av) (q:Ai),g a=some (.cells c 1 tHs 1)/\c.l 0=v/\SlK g v k ((L.take k).flatMap<|hv D) q/\ ∀r,q=some r->O r/\r≠a
def appY (D:DM)(L:Ah)(k:Nat)(args:Af):Prop:=∃x:Nat,L[k]? =x/\args=[.agg (hv D x).toArray]
def SlK.d {g a:FB}{v:Av}{k:Nat}{d:Af}{q:Ai}(h:SlK g v k d q)(l:∀r,q=some r->a r=g r):SlK a v k d q:=by obtain h| ⟨e,r,c,f,i,j,b⟩:=h;exact .inl h;exact .inr ⟨e,r,c,f,(l r b).trans i,j,b⟩
section
variable {ov :Aa}{D:DM}{L:Ah}{j X U:Nat}{V:Hp}{W:Ao}
def OJ (hL:L.length<=1000000)(hj:V.m.l j=some (.loop .ready none 13 W #[7] sR2 sBo U))(j1:j<V.d)(bn:X<V.d)(I:X≠j)(t2:W.l 2=some (.pointer<|some ⟨X,0,none⟩)):wG PR ov j 2 V.d V.m.l (λb=>b=X) (appJ D L X) (appY D L) where
 h:=λk O g g' ⟨C,z,B,v,q,h3,h4,h5,h6⟩ hh=>⟨C,λb d=>by rw[hh b d];exact z b d,B,v,q,by rw[hh X C];exact h3,h4,h5.d λr u=>hh r (h6 r u).1,h6⟩
 d:=λk O g b h d=>h.2.1 b d
 s:=λk args ⟨x,_,h⟩=>⟨hv D x,h,rfl,rfl⟩
 r:=by
  intro k O args f S hY;obtain⟨x,hx,rfl⟩:=hY;let⟨oB,nd,B,v,q,G,hg,ah,H⟩:=S.j;have nj:¬O j:=λh=>I (S.s j j1 h).symm;have F:=(S.r j j1 nj).trans hj;have ao:=S.A;have bl:=S.w X oB;have hk:k<L.length:=(WM.1 hx).1;obtain⟨t,n,X1,q2,q5,e1⟩:YN PR ov (some j) 13 sR2 (gA W [7] [.agg (hv D x).toArray]) f λt C=>t.l 2=some (.pointer<|some ⟨X,0,none⟩)/\t.l 5=some (.pointer<|some ⟨f.d,0,none⟩)/\C=⟨(f.m.m f.d<|some<|.cells zHB 2 tHn 2).m f.d<|some<|.cells (fill zHB 0<|hv D x) 2 tHn 2,f.d+1⟩:=
   s_2 (by show(W.m 7 _).l 7=_;rw[ZD,Xg rfl]) rfl rfl λt a b=>⟨by rw[a 2<|by decide];show(W.m 7 _).l 2=_;rw[ZD,Xd<|by decide];exact t2,b,rfl⟩
  have g1:∀b,b≠f.d->n.m.l b=f.m.l b:=λb d=>by rw[e1];show((f.m.m f.d _).m f.d _).l b=_;rw[ZD,Xd d,ZD,Xd d]
  have gq:n.m.l f.d=some (.cells (fill zHB 0<|hv D x) 2 tHn 2):=by rw[e1];show((f.m.m f.d _).m f.d _).l f.d=_;rw[ZD,Xg rfl]
  have ak:n.d=f.d+1:=by rw[e1]
  let l:Hp:=⟨n.m.m j<|some<|.loop .busy none 13 W #[7] sR2 sBo U,n.d⟩
  have gB:∀b,b≠j->b≠f.d->l.m.l b=f.m.l b:=λb C z=>by show(n.m.m j _).l b=_;rw[ZD,Xd C];exact g1 b z
  have aa:l.m.l j=some (.loop .busy none 13 W #[7] sR2 sBo U):=by show(n.m.m j _).l j=_;rw[ZD,Xg rfl]
  have ab:l.m.l f.d=some (.cells (fill zHB 0<|hv D x) 2 tHn 2):=by show(n.m.m j _).l f.d=_;rw[ZD,af];exact gq
  have aq:l.d=f.d+1:=ak;let y:Hp:=⟨l.m.m l.d<|some<|.cells (fill .e 0<|hv D x) 2 tHn 2,l.d+1⟩
  have N:∀b,b≠l.d->y.m.l b=l.m.l b:=λb h=>by show(l.m.m l.d _).l b=_;rw[ZD,Xd h]
  have av:y.d=f.d+2:=by show l.d+1=_;omega
  have gO:∀b,O b->y.m.l b=f.m.l b:=λb d=>by have:=S.w b d;rw[N b<|by omega,gB b (λe=>nj<|by rw[<-e];exact d)<|by omega]
  let⟨v',i,ha,ap,s,o,ai⟩:=appH (Z:=y) (c:=l.d) (Y:=hv D x) (ah.d λr u=>gO r (H r u).1) (by omega) (by show(l.m.m l.d _).l l.d=_;rw[ZD,Xg rfl]) rfl rfl (λr u=>by have:=S.w r (H r u).1;omega);obtain⟨p,m,rfl⟩:=s.f;have qO:∀b,¬O b->q≠some b:=λb d e=>d (H b e).1;have bq:q≠some X:=λe=>(H X e).2 rfl;have J:i.m.l X=some (.cells B 1 tHs 1):=(o X (by omega) bq).trans ((gO X oB).trans G);have aj:F9 l i:=⟨by omega,λr u h=>by
   have Q:r≠l.d:=by omega
   rw[o r (by omega) λe=>nd r (H r e).1<|by rw[<-gO r (H r e).1,N r Q];exact h,N r Q];exact h⟩
  obtain⟨am,w,X2,e2⟩:YN PR ov (some j) 13 sBo t l λ_ z=>z=⟨i.m.m X<|some<|.cells (fill B 0 [.slice p (k+1) m]) 1 tHs 1,i.d⟩:=by rw[s_bo];exact .b<|s_3 (c:=f.d) (cc:=fill zHB 0<|hv D x) q2 ((gB X I<|by omega).trans G) hg (by omega) q5 ab (kY rfl) rfl ha J aj λam=>rfl
  have R:∀b,b≠X->w.m.l b=i.m.l b:=λb d=>by rw[e2];show(i.m.m X _).l b=_;rw[ZD,Xd d]
  have K:w.m.l X=some (.cells (fill B 0 [.slice p (k+1) m]) 1 tHs 1):=by rw[e2];show(i.m.m X _).l X=_;rw[ZD,Xg rfl]
  have al:w.d=f.d+3:=by rw[e2];show i.d=_;omega
  have ad:w.m.l j=some (.loop .busy none 13 W #[7] sR2 sBo U):=by rw[R j<|λe=>I e.symm,o j (by omega)<|qO j nj,N j<|by omega];exact aa
  let E:Hp:=⟨w.m.m j<|some<|.loop .ready none 13 W #[7] sR2 sBo U,w.d⟩
  have M:∀b,b≠j->E.m.l b=w.m.l b:=λb d=>by show(w.m.m j _).l b=_;rw[ZD,Xd d]
  have gN:∀b,b<f.d-> ¬O b->E.m.l b=f.m.l b:=λb C z=>by by_cases e:b=j;subst e;show(w.m.m b _).l b=_;rw[ZD,Xg rfl];exact F.symm;rw[M b e,R b<|λe=>z<|by rw[e];exact oB,o b (by omega)<|qO b z,N b<|by omega,gB b e<|by omega]
  have au:E.d=f.d+3:=al;have A:E.m.l y.d=i.m.l y.d:=by rw[M _<|by omega,R _<|by omega]
  have us:(L.take k).flatMap (hv D)++hv D x=(L.take<|k+1).flatMap (hv D):=by rw[List.take_add_one,hx,List.flatMap_append];simp
  rw[us]at s;refine⟨E,λb=>O b\/b=y.d,xrnd F rfl rfl X1 ((g1 j<|by omega).trans F) X2 ad,⟨by show V.d<=E.d;omega,λb d G=>?_,λb d=>?_,λb d G=>?_,λb d=>.inl<|S.h b d,.inl oB,λb d=>?_,fill B 0 [.slice p (k+1) m],.slice p (k+1) m,some y.d,?_,?_,s.d λr u=>?_,λr u=>?_⟩,⟨by show f.d<=E.d;omega,gN⟩,λb d=>.inl d,λb d=>?_⟩;rw[gN b (by omega) λh=>G<|.inl h];exact S.r b d λh=>G<|.inl h;rcases d with d|rfl;have:=S.w b d;omega;omega;obtain h|h:=G;exact S.s b d h;omega
  .rcases d with d|rfl
   .by_cases e:b=X;subst e;rw[M b I,K];exactλh=>by cases h
    .have an:=S.w b d;rw[M b<|λe=>nj<|by rw[<-e];exact d,R b e];by_cases P:q=some b;rw[ai b P];exactλh=>by cases h
     rw[o b (by omega) P,gO b d];exact nd b d
   rw[A];obtain⟨h,_⟩| ⟨_,r,c,_,h3,_,h5⟩:=s;omega;cases h5;rw[h3];exactλh=>by cases h
  rw[M X I];exact K;rw[j6,Xg ⟨by omega,by simp⟩];rfl;cases u;exact A;cases u;exact⟨.inr rfl,by omega⟩;obtain d|rfl:=d;exact .inl d;exact .inr (by omega)
end
section
variable {O :Aa}{D:DM}{c b M N K nb eb zb nd ed zd:Nat}{u:Av}{Y P:Hp}{cs cd:Ao}{J:Ao}{Q:Ao->Hp->Prop}{v a:Av}
def ColR (D:DM)(c:Nat)(Y:Hp)(v:Av)(P:Hp):Prop:=Y.d<=P.d/\(∀b,b<Y.d->P.m.l b=Y.m.l b)/\ ∃q,SlK P.m.l v (bel D 1001 c).length ((bel D 1001 c).flatMap<|hv D) q/\ ∀r,q=some r->Y.d<=r/\r<P.d
def TB (ac:Xe.isT (O sF)=false)(hB:BL O D Y.d Y.m.l u c)(B:(bel D 1001 c).length<=1000000)(f:Y.m.l b=some (.cells cs nb eb zb))(ad:M+2<=nb)(hl:j8 cs M 2=some (hv D c))(b1:b<Y.d)(hd:Y.m.l N=some (.cells cd nd ed zd))(ae:K+1<=nd)(ab:cd.l K=some u)(d1:N<Y.d):∃v P,P0 PR O sF [.slice none 0 0,.func (.func bF) #[] #[.pointer (some ⟨b,M,none⟩),.pointer<|some ⟨N,K,none⟩]] Y v P/\ColR D c Y v P:=by
 let⟨o,n,X0,p1,p2,I⟩:=s_0 (S:=O) (R:=none) (Z:=Y) (v:= .func (.func bF) #[] #[.pointer (some ⟨b,M,none⟩),.pointer<|some ⟨N,K,none⟩]) (X:=fill .e 0 [.slice none 0 0,.func (.func bF) #[] #[.pointer (some ⟨b,M,none⟩),.pointer<|some ⟨N,K,none⟩]]) (Q:=λo h1=>o.l 1=some (.func (.func bF) #[] #[.pointer (some ⟨b,M,none⟩),.pointer<|some ⟨N,K,none⟩])/\o.l 2=some (.pointer<|some ⟨Y.d,0,none⟩)/\h1=⟨Y.m.m Y.d<|some<|.cells (fill .e 0 [.slice none 0 0]) 1 tHs 1,Y.d+1⟩)
  (by rw[u5 _ _<|by simp];rfl) (by rw[u5 _ _<|by simp];rfl) λo a1 a2=>⟨a1,a2,rfl⟩
 have g1:∀c,c<Y.d->n.m.l c=Y.m.l c:=λc hc=>by rw[I];show(Y.m.m Y.d _).l c=_;rw[ZD,af]
 have w:n.m.l Y.d=some (.cells (fill .e 0 [.slice none 0 0]) 1 tHs 1):=by rw[I];show(Y.m.m Y.d _).l Y.d=_;rw[ZD,Xg rfl]
 have al:n.d=Y.d+1:=by rw[I]
 let⟨i,d,X1,q2,q6,e2⟩:=s_1 (S:=O) (R:=none) (Z:=n) (Q:=λi h2=>(∀x,x≠6->i.l x=o.l x)/\i.l 6=some (.func (.func bF) #[] #[.pointer (some ⟨b,M,none⟩),.pointer<|some ⟨N,K,none⟩])/\h2=n) p1 λi a b=>⟨a,b,rfl⟩
 subst e2;let lp:Blk:= .loop .ready none 13 i #[7] sR2 sBo d.d
 let k:Hp:=⟨(d.m.m d.d<|some .dfr).m (d.d+1)<|some lp,d.d+2⟩
 have J:∀b,b<d.d->k.m.l b=d.m.l b:=λb f=>by show((d.m.m d.d _).m (d.d+1) _).l b=_;rw[ZD,af,ZD,af]
 have aa:k.m.l d.d=some .dfr:=by show((d.m.m d.d _).m (d.d+1) _).l d.d=_;rw[ZD,af,ZD,Xg rfl]
 have z:k.m.l (d.d+1)=some lp:=by show((d.m.m d.d _).m (d.d+1) _).l (d.d+1)=_;rw[ZD,Xg rfl]
 have am:k.d=Y.d+3:=by show d.d+2=_;omega
 have p:∀b,b<Y.d->k.m.l b=Y.m.l b:=λb f=>(J b<|by omega).trans<|g1 b f;have y:k.m.l Y.d=some (.cells (fill .e 0 [.slice none 0 0]) 1 tHs 1):=(J _<|by omega).trans w;have RI:=OJ (ov:=O) (D:=D) (L:=bel D 1001 c) (j:=d.d+1) (X:=Y.d) (U:=d.d) (V:=k) (W:=i) B z (by omega) (by omega) (by omega) (by rw[q2 2<|by decide];exact p2);have S6:OSt k.d k.m.l (λb=>b=Y.d) (appJ D (bel D 1001 c) Y.d) 0 (λb=>b=Y.d) k:=
  ⟨Xh _,λ_ _ _=>rfl,λb f=>by omega,λ_ _ h=>h,λ_ h=>h,rfl,λb (f:b=Y.d)=>(by rw[f,y];exactλh=>(by cases h)),fill .e 0 [.slice none 0 0],.slice none 0 0,none,y,(by rw[u5 _ _<|by simp];rfl),.inl ⟨rfl,rfl,rfl,rfl⟩,λr C=>(by cases C)⟩
 let⟨g,O7,XA,S7,K7,m7,w7⟩:=hB (d.d+1) k.d 0 b M N K nb eb zb nd ed zd (λb=>b=Y.d) (λb=>b=Y.d) k.m.l _ _ k cs cd RI S6 (by rw[p b b1];exact f) ad hl (by omega) (by omega) (by rw[p N d1];exact hd) ae ab (by omega) (by omega) (by omega) (λb f=>p b f) (λb f=>by omega)
  (λq x G=>⟨x,by rw[Xq];exact G,rfl⟩)
 have H:∀b,b<k.d->b≠Y.d->g.m.l b=k.m.l b:=λb f F=>K7.2 b f F;have n7:=S7.A;have XR:XK PR O none 13 (.rangeFunc (.tmp 6) #[7] sR2 sBo) i d .normal i ⟨g.m.m (d.d+1) none,g.d⟩:=XK.j (evt q6) b_fn b_ok XA ((H _ (by omega)<|by omega).trans aa) ((H _ (by omega)<|by omega).trans z) (by omega) λb f l=>by
  have F:b≠Y.d:=λe=>by rw[e,w]at l;cases l
  rw[H b (by omega) F,J b f];exact l
 let t:Hp:=⟨g.m.m (d.d+1) none,g.d⟩
 have g8:∀b,b≠d.d+1->t.m.l b=g.m.l b:=λb f=>by show(g.m.m (d.d+1) none).l b=_;rw[ZD,Xd f]
 have aj:¬O7 (d.d+1):=λh=>by rcases w7 _ h with h|h<;>omega
 obtain⟨oB,ai,cw,v,q,F,hg,E,G⟩:=S7.j;rw[Xq,List.take_length]at E;obtain⟨s,ak,X4,u4,e9⟩:=s_4 (S:=O) (R:=none) (X:=i) (Z:=t) (v:=v) (W:=cw) (Q:=λs h9=>s.l 4=some v/\h9=t) (by rw[q2 2<|by decide];exact p2) (by rw[g8 _<|by omega];exact F) hg λs a=>⟨a,rfl⟩
 subst e9;have X:XK PR O none 13 (D3 PR sF) (fill .e 0 [.slice none 0 0,.func (.func bF) #[] #[.pointer (some ⟨b,M,none⟩),.pointer<|some ⟨N,K,none⟩]]) Y .ret s t:=by rw[Wi];exact X0.a<|XK.a (X1.a<|XK.b XR)<|X4.a .n
 obtain⟨ah,r1,r2,r3,r4⟩:=Z0 (Y:=O) (args:=[.slice none 0 0,.func (.func bF) #[] #[.pointer (some ⟨b,M,none⟩),.pointer<|some ⟨N,K,none⟩]]) (c:=D3 PR sF) s_fn (by kernel_rfl) ac (show XK PR O none (2+(Go.Proofs.Tryz.f100.ntmps-2)) _ _ _ _ _ _ from(show 2+(Go.Proofs.Tryz.f100.ntmps-2)=13 from by kernel_rfl)▸X) (.inr rfl) (vs:=[v]) (λh2 _=>by
  have e:Go.Proofs.Tryz.f100.results.toList=[.tmp 4]:=by kernel_rfl
  rw[e];simp only[I6,Z3,u4,XB])
 have o8:∀b,b<Y.d->t.m.l b=Y.m.l b:=λb f=>by rw[g8 b<|by omega,H b (by omega)<|by omega,p b f]
 have an:t.d=g.d:=rfl;refine⟨v,ah,r1,by omega,λb f=>?_,q,E.d λr C=>?_,λr C=>?_⟩;by_cases l:Y.m.l b=some .dfr;rw[r4.b b f l,l];rw[r3 b<|by rw[o8 b f];exact l,o8 b f];have A:=(G r C).1;have e8:t.m.l r=g.m.l r:=g8 r λe=>aj (by rw[<-e];exact A);rw[r3 r<|by rw[e8];exact ai r A,e8];have A:=(G r C).1;have:=S7.w r A;refine⟨?_,by omega⟩;rcases w7 r A with h|h<;>omega
abbrev oF :Ay:=52
def o_eq :D3 PR oF=Go.Proofs.Tryz.f52.body.getD .skip:=by kernel_rfl
def o_fn :PR.funcs[oF]? =Go.Proofs.Tryz.f52:=by kernel_rfl
def Sh {f:Ay}{fn:Func}{x:Nat}(c:PR.funcs[f]? =fn)(d:cN fn){ats:Array Ax}(e:J.l x=a)(h:P0 PR O f [.slice none 0 0,a] Y v P):XOp PR O (.call ⟨.value<|.func f,#[.const (.slice none 0 0),.tmp x],ats⟩) J Y v P:=
 h.b λn k=>by have b:cst (.slice none 0 0)=true:=rfl;simp only[xop,ob,Y8,i7,b,e,XB,nB,c,d,Xa];exact k
abbrev oR0 :Code:=cdA<|D3 PR oF
abbrev oR1 :Code:=cdA<|cdB<|D3 PR oF
def VP :D3 PR oF= .seq oR0 (.seq oR1 .ret):=by kernel_rfl
def o_0 (b:J.l 0=v)(k:∀a,a.l 0=some v->Q a Y):YN PR O none 5 oR0 J Y Q:=by rw[oR0,o_eq];simp only[Go.Proofs.Tryz.f52,XB,cdA,cdB];exact .a<|.a rfl rfl MD<|.b ⟨.a _,k _<|by simp only[gp];exact b⟩
def o_1 (c:J.l 0=v)(h:P0 PR O sF [.slice none 0 0,v] Y a P)(d:F9 Y P)(k:∀b,b.l 2=some a->Q b P):YN PR O none 5 oR1 J Y Q:=by rw[oR1,o_eq];simp only[Go.Proofs.Tryz.f52,XB,cdA,cdB];refine .a<|.a rfl rfl (qX c)<|.d rfl rfl (Sh s_fn s_ok (by rw[gp,Xg rfl]) h)<|.a rfl rfl (De<|by simp only[gp];rfl)<|.b ⟨d,k _ ?_⟩;simp only[gp];rfl
def SI (n:Xe.isT (O oF)=false)(h:P0 PR O sF [.slice none 0 0,u] Y v P)(E:ColR D c Y v P):∃i,P0 PR O oF [u] Y v i/\ColR D c Y v i:=by
 let⟨F,s,q,w,G⟩:=E;let⟨f,d,X0,I,y⟩:=o_0 (O:=O) (Y:=Y) (v:=u) (J:=fill .e 0 [u]) (Q:=λf A=>f.l 0=some u/\A=Y) (by rw[u5 _ _<|by simp];rfl) λf a=>⟨a,rfl⟩
 subst y;have H:F9 d P:=⟨F,λr j h=>by rw[s r j];exact h⟩
 obtain⟨g,o,X1,K,z⟩:=o_1 (O:=O) (Y:=d) (J:=f) (Q:=λg t=>g.l 2=some v/\t=P) I h H λg a=>⟨a,rfl⟩
 subst z;have X:XK PR O none 5 (D3 PR oF) (fill .e 0 [u]) d .ret g o:=by rw[VP];exact X0.a<|X1.a .n
 obtain⟨p,L,S,x,M⟩:=Z0 (Y:=O) (args:=[u]) (c:=D3 PR oF) o_fn (by kernel_rfl) n (show XK PR O none (1+(Go.Proofs.Tryz.f52.ntmps-1)) _ _ _ _ _ _ from(show 1+(Go.Proofs.Tryz.f52.ntmps-1)=5 from by kernel_rfl)▸X) (.inr rfl) (vs:=[v]) (λt _=>by
  have e:Go.Proofs.Tryz.f52.results.toList=[.tmp 2]:=by kernel_rfl
  rw[e];simp only[I6,Z3,K,XB])
 refine⟨p,L,by omega,λb l=>?_,q,w.d λr j=>?_,λr j=>?_⟩;by_cases k:d.m.l b=some .dfr;rw[M.b b l k,k];rw[x b<|by rw[s b l];exact k,s b l];refine x r ?_;rcases w with⟨_,_,_,h⟩| ⟨_,R,N,_,B,_,C⟩;rw[h]at j;cases j;rw[C]at j;cases j;rw[B];exactλh=>by cases h
 have:=G r j;omega
end
def IF :Ar->Prop
 | .i i:: .i g:: .l S::d=>U32 i/\U32 g/\He (.l S::d)/\z9 S i g|_=>False
def Ph :Ar->Ar->Prop
 | [.i i,.i g,.l S,.i fr,.i a,.i _,.i _,.i _,.i _,.i _,.i _,.i _,.i _,.l _,.l N],[.l O]=>∀D K c,RlE D S N->WF D K->D.m i g=some c->O=(bel D 1001 c).map (D4 D.d)|_,_=>False
def co2B :List cJ:=[(tHd,2,hL),(25,1,[.ptr 2 13]),(RK,13,Pr),(tNd,10,[.g (.rgl 10)])]
def fh :Con:=⟨ "co2",[.t (.clo 101 [(0,2),(1,1)])],co2B,λargs s=>match args with
 | [.H _ _ [.g a _ _ _,.g b _ _ _]]=>match s.f b,rgB s with
  |some (.f [.g e _ _ _] _ _),some r=>some [a,b,e,r]|_,_=>none
 |_=>none,IF,[.t (.g<|.lst tHd)],[],noB,Ph⟩
def IR :Ar->Prop
 | .i i:: .i g::d=>U32 i/\U32 g/\He d|_=>False
def DN :Ar->Ar->Prop
 | [.i i,.i g,.l S,.i fr,.i a,.i _,.i _,.i _,.i _,.i _,.i _,.i _,.i _,.l _,.l N],[.l O,.i r]=>∀D K,RlE D S N->WF D K->match D.m i g with
  |none=>r=11/\O=[]
  |some c=>r=0/\O=(bel D 1001 c).map (D4 D.d)
 |_,_=>False
def cHa2:=mkR "ha2" [dV,hV] uU Gk IR [.t (.g<|.clp tHd),iV] DN
def OD :Ay->List (Nat×(Fm->SS->H6)):=λ_=>[]
def TH :Nat->List (Ay×Con)
 |_=>[(LVn,dk "lives")]
def LJ :Nat->Aw->E4
 |_,P=>[(50,kro P U0 lf),(52,kro P U0 fh)]
def u8 (n:Int):Prop:=0<=n/\n<256
def bytes (L:a8):Prop:=∃l:Ak,L=l.map (λn=>[Dat.i n])/\ ∀n∈l,u8 n
def AS :Ar->Prop
 | [.i n]=>u8 n|_=>False
def AT :Ar->Ar->Prop
 | [.i n],[.s s]=>v5 s|_,_=>False
def cTgx:=mkC "tgx" [uV] AS [sV] AT
def oU (a:List Att):Prop:=a.length<=3/\(∀x∈a,v5 x.n/\D7 x.v)/\Asc (a.map Att.n)
def Dq:=AS
def bQ :Ar->Ar->Prop
 | [.i n],[.l L]=>∃a:List Att,L=a.map Att.d/\oU a|_,_=>False
def cAts:=mkC "ats" [uV] Dq [.t (.g<|.lst 101)] bQ
def FO (l:List c8)(a n:Int):Prop:=l.length<=16/\AllAs l/\iL (l.map c8.y)/\a+c8.e l<=6/\c8.d l<=n
def nI :Ar->Prop
 | [.l C,.i i,.i a]=>bytes C/\0<=i/\i<=19/\2<=a/\a<=5|_=>False
def pA :Ar->Nat
 | [_,_,.i a]=>(6-a).toNat|_=>0
def aE :Ar->Ar->Prop
 | [.l C,.i i,.i b],[.l L,.i a]=>i<=a/\a<=19/\ ∃l,L=rows l/\FO l b (a-i)|_,_=>False
def cBld:=mkC "bld" [.t (.g<|.lst 5),iV,iV] nI [cV,iV] aE
def Kt :Ar->Prop
 | [.i t,.i y,.l C]=>u8 t/\u8 y/\bytes C|_=>False
def AX :Ar->Ar->Prop
 |_,[.i k,.s t,.s y,.l a,.s x,.l c]=>∃s,isT s k t y a x c/\A9 s/\s.h<=20|_,_=>False
def cTrw:=mkC "trw" [.u [.g (.int .u8),.g<|.int .u8,.g<|.lst 5]] Kt [nV] AX
def bR :Ar->Ar->Prop
 | [.l C,.i a,.i b],[.i i,.l L]=>bytes C/\0<=a/\a<=i/\i<=19/\2<=b/\b<=5/\ ∃l,L=rows l/\FO l b (i-a)|_,_=>False
def eF :Ar->Ar->Nat
 |_,.i i::_=>(19-i).toNat|_,_=>0
def rR :Ar->Ar->Prop
 | [.l L,.s t0,.s b,.l d],[.i i,.i k,.s t,.s y,.l a,.s x,.l c]=>0<=i/\i<=L.length/\k=1/\t=t0/\a=d/\x=[]/\c=[]/\(y=[]\/y=b/\ ∀z∈(pN L).take i.toNat,z≠b)|_,_=>False
def xR:=B2
def iU :Ay->List (Nat×(Fm->SS->H6))
 | 41 => [(0, E1 U0 "bl" (F7 [(1, .int .i64), (8, .acc 30 6)] nob) (gh2 (m9 0)<|gh2 (m9 1)<|m9 2) bR eF),
   (2,E1 U0 "key" (F7 [(11,.int .i64)]<|G9 10 [.int .u8,.str,.str,.lst 101,.str,.lst 30]) (gh2 (m9 8)<|gh2 (l8 10 1)<|gh2 (l8 10 2)<|l8 10 3) rR B2)]
 |_=>[]
def lU :Nat->List (Ay×Con)
 |0=>[(LVn,dk "lives")]
 |1=>[(39,cTgx),(40,cAts),(LVn,dk "lives")]
 |_=>[(41,cBld),(39,cTgx),(40,cAts),(LVn,dk "lives")]
def vO (_:Nat)(P:Aw):E4:=[]
def EK :Ar->Prop
 | [.i k,.s t,.s y,.l a,.s x,.l c]=>∃s:c8,isT s k t y a x c/\A9 s|_=>False
def zT :Ar->Ar->Prop
 | [.i k,.s t,.s y,.l a,.s x,.l c],[.i e,.s f,.s h,.l b,.s g,.l d]=>∀s:c8,isT s k t y a x c->isT (R0 false s) e f h b g d|_,_=>False
def Hr :Ar->Nat
 |_::_::_::_::_:: .l c::_=>szRs c|_=>0
def cRsp:=mkC "rsp" [nV] EK [nV] zT
def Er :Ar->Ar->Prop
 | [.i b,.s t0,.s d,.l A],[.i i,.i k,.s t,.s y,.l a,.s x,.l c]=>0<=i/\i<=A.length/\k=b/\t=t0/\y=[]/\a=A.take i.toNat/\x=d/\c=[]
 |_,_=>False
def LP :Ar->Ar->Nat
 | [_,_,_,.l A],.i i::_=>(A.length-i).toNat|_,_=>0
def Es :Ar->Ar->Prop
 | [.i b,.s t0,.s d,.l A,.l C],[.i i,.i k,.s t,.s y,.l a,.s x,.l c]=>0<=i/\i<=C.length/\k=b/\t=t0/\y=[]/\a=A/\x=d/\ ∀l:List c8,C=rows l->c=rows (strips false<|l.take i.toNat)|_,_=>False
def LQ :Ar->Ar->Nat
 | [_,_,_,_,.l C],.i i::_=>(C.length-i).toNat|_,_=>0
def OG :Ay->List (Nat×(Fm->SS->H6))
 | 16 => [(0, E1 U0 "raa" (F7 [(4, .int .i64)]<|G9 3 [.int .u8, .str, .str, .acc 101 2, .str, .acc 30 6]) (gh2 (l8 1 0)<|gh2 (l8 1 1)<|gh2 (l8 1 4)<|l8 1 3) Er LP),
   (2,E1 U0 "rab" (F7 [(5,.int .i64)]<|G9 3 [.int .u8,.str,.str,.lst 101,.str,.acc 30 6]) (gh2 (l8 1 0)<|gh2 (l8 1 1)<|gh2 (l8 1 4)<|gh2 (l8 1 3)<|l8 1 5) Es LQ)]
 |_=>[]
def Mv :Nat->List (Ay×Con)
 |_=>[(22,lq),(LVn,dk "lives")]
def To (_:Nat)(P:Aw):E4:=[]
def xV :Vs:= .u [.g (.int .u8),.g<|.int .u8,.g<|.lst 5]
def Qi :Ar->Prop
 | [.l l,.i t,.i y,.l C,.l N]=>N=[]/\(∀r∈l,O5 r)/\u8 t/\u8 y/\bytes C|_=>False
abbrev G0:=Qb
def cMmo :Con:=⟨ "mmo",[.t (.g<|.lst 74),xV],[(tNd,10,[.g (.rgl 10)])],rgF,Qi,[bV],[(tNd,10,[.g (.rgl 10)])],noB,G0⟩
def OE :Ay->List (Nat×(Fm->SS->H6)):=λ_=>[]
def Mt :Nat->List (Ay×Con)
 |_=>[(28,cNwb),(29,cBpl),(9,cTrw),(10,cMnt),(36,cRmo),(88,lm),(38,cRas),(15,cSam),(16,cRsp),(32,cRha),(31,cLis),(LVn,dk "lives")]
def LK :Nat->Aw->E4
 |_,P=>[(35,kro P U0 cSme),(23,kro P U0 cCos),(12,kro P U0 cTee),(13,kro P U0 cHa2),(19,kro P U0 cIs)]
open Go Go.Xe Go.Sx
def jw t u v w x y Q j o p z A B C D F G H I J K a S x42 x43 x44 x45 x46 x47 x48 x49 x50 x51 c d f g h:=
 Ca (G0 [.l c,.i d,.i f,.l g,.l h] [.b false,.l a]) λE=>Cg Ew Ex [.i t,.s u,.s v,.l w,.s x,.l y] λR=>∀L,R [.i L]->((Q=L->Nq (ln j) (Cg gQ aN (.i o::.i p::JD j z A B C D F G H I J K a) λR=>∀T U V M W X k,R [.i T,.s U,.s V,.l M,.s W,.l X,.i k]->Nq (ln j) (Cg PP GA (.i o::.i p::.i t::.s u::.s v::.l w::.s x::.l y::JD j z A B C D F G H I J K a) λR=>∀N m,R [.b N,.i m]->Nq (ln j) (Cg IR DN (.i o::.i p::JD j z A B C D F G H I J K a) λR=>∀q r,R [.l q,.i r]->Nd (I64<|k+m) (Nd (I64<|(k+m)+r)<|((k+m)+r=0->((N=true->Cg EK zT [.i t,.s u,.s v,.l w,.s x,.l y] (λR=>∀Y Z x36 x37 x38 x39,R [.i Y,.s Z,.s x36,.l x37,.s x38,.l x39]->Nq (ln M) (Cg sQ gJ [.i T,.s U,.s V,.l M,.s W,.l X,.i Y,.s Z,.s x36,.l x37,.s x38,.l x39] λR=>∀O,R [.i O]->((O=1->((ln q=S->Cg JI JJ (.l x42::.l x43::J10 x44 x45 x46 x47 x48 x49 x50 x51 o p []) (λR=>∀x52,R [.l x52]->Cg IZ nR [.l q,.l x52] (λR=>∀P,R [.i P]->((P=1->Nd (PZ []) (∀x54,GE [] [.b x54]->Nd (G0 [.l c,.i d,.i f,.l g,.l h] [.b x54,.l a]) True))/\(¬P=1->Nd E True)))))/\(¬ln q=S->Nd E True)))/\(¬O=1->Nd E True)))))/\(¬N=true->Nd E True)))/\(¬(k+m)+r=0->Nd E True))))))/\(¬Q=L->Nd E True))
def yl :Prop:=
 ∀a c d f g,Qi [.l a,.i c,.i d,.l f,.l g]->Nd (Ju []) (∀x5 x6 x7 x8 x9 x10 x11 x12 x13 x14 x15 x16 x17 x18 x19 x20 x21 x22 x23 x24 x25 x26 x27,Jv [] (.l x5::.l x6::J8 x7 x8 x9 x10 x11 x12 x13 x14 (.l x15::JE x16 x17 x18 x19 x20 x21 x22 x23 x24 x25 x26 x27))->Cg Kt AX [.i c,.i d,.l f] (λR=>∀k m o p q r,R [.i k,.s m,.s o,.l p,.s q,.l r]->Nq (ln x15) (Nq (ln x16)<|Cg Iz Du (.l a::.i 30::.l x5::.l x6::J8 x7 x8 x9 x10 x11 x12 x13 x14 (.l x15::JD x16 x17 x18 x19 x20 x21 x22 x23 x24 x25 x26 x27 g)) λR=>∀x34 x35 x36 B C D F G H I J x45 x46 x47 x48 x49 x50 x51 x52 x53 x54 x55 x56 x57 x58,R (.i x34::.l x35::.l x36::J8 B C D F G H I J (.l x45::JD x46 x47 x48 x49 x50 x51 x52 x53 x54 x55 x56 x57 x58))->((x34=0->Nd (G0 [.l a,.i c,.i d,.l f,.l g] [.b false,.l x58]) True)/\(¬x34=0->Nq (ln x46) (Cg Jk Ea (.i k::.s m::.s o::.l p::.s q::.l r::JD x46 x47 x48 x49 x50 x51 x52 x53 x54 x55 x56 x57 x58) λR=>∀K L x61 M P Q S T U V W X Y Z x73 h,R (.i K::.i L::.i x61::JD M P Q S T U V W X Y Z x73 h)->Ca (G0 [.l a,.i c,.i d,.l f,.l g] [.b false,.l h]) λE=>Cg ED EE (.l x35::.l x36::J8 B C D F G H I J [.i k,.s m,.s o,.l p,.s q,.l r]) (λR=>∀x75 x76 t u v w x y z A x85 x86,R (.l x75::.l x76::J10 t u v w x y z A x85 x86 [])->Cg Pi IG [.i k,.s m,.s o,.l p,.s q,.l r] (λR=>∀j x88 x89 x90 x91 x92 N x94 x95,R (J8 j x88 x89 x90 x91 x92 N x94 [.i x95])->((x61=0->((x95=0->((K=x85->((L=x86->Nq (ln x45) (Nq (ln M)<|Cg Ke EO (.l x75::.l x76::J8 t u v w x y z A (.l x45::JD M P Q S T U V W X Y Z x73 h)) λR=>∀x96,R [.i x96]->((x96=0->Nd E True)/\(¬x96=0->Nd (I64<|t-B) (Nd (I64<|u-C)<|Nd (I64<|v-D)<|Nd (I64<|w-F)<|Nd (I64<|x-G)<|Nd (I64<|y-H)<|Nd (I64<|z-I)<|Nd (I64<|A-J)<|(j=t-B->((x88=u-C->((x89=v-D->((x90=w-F->((x91=x-G->((x92=y-H->((N=z-I->((x94=A-J->Cg gC W4 [.i k,.s m,.s o,.l p,.s q,.l r,.i 6] (λR=>∀O,R [.i O]->((64<O->((j=0->jw k m o p q r N M K L P Q S T U V W X Y Z x73 h j x75 x76 t u v w x y z A a c d f g)/\(¬j=0->Nd E True)))/\(¬64<O->((j=O->jw k m o p q r N M K L P Q S T U V W X Y Z x73 h j x75 x76 t u v w x y z A a c d f g)/\(¬j=O->Nd E True))))))/\(¬x94=A-J->Nd E True)))/\(¬N=z-I->Nd E True)))/\(¬x92=y-H->Nd E True)))/\(¬x91=x-G->Nd E True)))/\(¬x90=w-F->Nd E True)))/\(¬x89=v-D->Nd E True)))/\(¬x88=u-C->Nd E True)))/\(¬j=t-B->Nd E True))))))/\(¬L=x86->Nd E True)))/\(¬K=x85->Nd E True)))/\(¬x95=0->Nd E True)))/\(¬x61=0->Nd E True))))))))))
def yk :kq cMmo OE (Mt 0) (LK 0) 7=yl:=by kernel_rfl
open Go Go.Xe Go.Sx
def jf n H I J K L M N O P Q d f g c x59 x60 x61 x62 x63 x64 x65 x66 x67 x68 x69 x70 x71 x72:=
 ∀h v w x y z A B C D F,zI (.l H::JE I J K L M N O P Q d f g) (.i h::.l v::.l w::J8 x y z A B C D F [])->((h<ln g->Nb h (ln g) (Nb h (ln g)<|Cg pX bB (.l v::.l w::J10 x y z A B C D F d f [.s (cS g h 0),.b false,.s<|cS g h 1]) λR=>∀a j k m o p q r t u G,R (.l a::.l j::J8 k m o p q r t u [.i G])->Nd (I64<|h+1) (Nd (zI (.l H::JE I J K L M N O P Q d f g)<|.i (h+1)::.l a::.l j::J8 k m o p q r t u [])<|Nd (LX (.l H::JE I J K L M N O P Q d f g) (.i (h+1)::.l a::.l j::J8 k m o p q r t u [])<LX (.l H::JE I J K L M N O P Q d f g) (.i h::.l v::.l w::J8 x y z A B C D F [])) True)))/\(¬h<ln g->Nd (EC (.l v::JE w x y z A B C D F d f c)<|.i 0::.l v::.l w::J8 x y z A B C D F []) (∀a j k m o p q r t u G,EC (.l v::JE w x y z A B C D F d f c) (.i a::.l j::.l k::J8 m o p q r t u G [])->((a<ln c->Nb a (ln c) (Nd (ED (.l j::.l k::J8 m o p q r t u G [.i (cI c a 0),.s<|cS c a 1,.s<|cS c a 2,.l<|cL c a 3,.s<|cS c a 4,.l<|cL c a 5])/\Hl (.l j::.l k::J8 m o p q r t u G [.i (cI c a 0),.s<|cS c a 1,.s<|cS c a 2,.l<|cL c a 3,.s<|cS c a 4,.l<|cL c a 5])<n)<|
 ∀x36 x37 x38 x39 x40 x41 x42 x43 x44 x45 x46 x47,EE (.l j::.l k::J8 m o p q r t u G [.i (cI c a 0),.s<|cS c a 1,.s<|cS c a 2,.l<|cL c a 3,.s<|cS c a 4,.l<|cL c a 5]) (.l x36::.l x37::J10 x38 x39 x40 x41 x42 x43 x44 x45 x46 x47 [])->Cg zJ jX (.l x36::.l x37::J10 x38 x39 x40 x41 x42 x43 x44 x45 d f [.i x46,.i x47,.i 0,.i 0]) (λR=>∀S T U V W X Y Z x56 x57 x58,R (.l S::.l T::J8 U V W X Y Z x56 x57 [.i x58])->Nd (I64<|a+1) (Nd (EC (.l v::JE w x y z A B C D F d f c)<|.i (a+1)::.l S::.l T::J8 U V W X Y Z x56 x57 [])<|Nd (QS (.l v::JE w x y z A B C D F d f c) (.i (a+1)::.l S::.l T::J8 U V W X Y Z x56 x57 [])<QS (.l v::JE w x y z A B C D F d f c) (.i a::.l j::.l k::J8 m o p q r t u G [])) True))))/\(¬a<ln c->Nd (EE (.l x59::.l x60::J8 x61 x62 x63 x64 x65 x66 x67 x68 [.i x69,.s x70,.s x71,.l g,.s x72,.l c])<|.l j::.l k::J10 m o p q r t u G d f []) True)))))
def vo n:=
 ∀r t u v w x y z A B o D G C F H,(ED (.l r::.l t::J8 u v w x y z A B [.i o,.s D,.s G,.l C,.s F,.l H])/\Hl (.l r::.l t::J8 u v w x y z A B [.i o,.s D,.s G,.l C,.s F,.l H])<n+1)->((o=2->Cg lE J7 (.l r::.l t::J8 u v w x y z A B [.i o,.s F]) (λR=>∀a b c d f g h j k m p q I,R (.l a::.l b::J10 c d f g h j k m p q [.i I])->Nd (zI (.l a::JE b c d f g h j k m p q C)<|.i 0::.l a::.l b::J8 c d f g h j k m []) (jf n a b c d f g h j k m p q C H r t u v w x y z A B o D G F)))/\(¬o=2->Cg lE J7 (.l r::.l t::J8 u v w x y z A B [.i o,.s D]) (λR=>∀a b c d f g h j k m p q I,R (.l a::.l b::J10 c d f g h j k m p q [.i I])->Nd (zI (.l a::JE b c d f g h j k m p q C)<|.i 0::.l a::.l b::J8 c d f g h j k m []) (jf n a b c d f g h j k m p q C H r t u v w x y z A B o D G F))))
def vl (n:Nat):kq (cRmo.g Hl<|n+1) Dn ((36,cRmo.g Hl n)::Fc 0) (LL 0) 36=vo n:=by kernel_rfl
def wo n:=
 ∀g h j c k a,(Ew [.i g,.s h,.s j,.l c,.s k,.l a]/\Hd [.i g,.s h,.s j,.l c,.s k,.l a]<n+1)->Ca [.l c,.l a] λW=>Nd (Et W [.i 0,.i<|ln c]) (∀b d,Et W [.i b,.i d]->Ca [.i (cI a b 0),.s<|cS a b 1,.s<|cS a b 2,.l<|cL a b 3,.s<|cS a b 4,.l<|cL a b 5] λV=>((b<ln a->Nb b (ln a) (Nd (Ew V/\Hd V<n)<|∀f,Ex V [.i f]->Nd (I64<|d+f) (Nd (I64<|b+1)<|Nd (Et W [.i (b+1),.i<|d+f])<|Nd (QM W [.i (b+1),.i<|d+f]<QM W [.i b,.i d]) True)))/\(¬b<ln a->Nd (Ex [.i g,.s h,.s j,.l c,.s k,.l a] [.i d]) True)))
def wm (n:Nat):kq (cRas.g Hd<|n+1) Dn ((38,cRas.g Hd n)::Fc 1) (LL 1) 38=wo n:=by kernel_rfl
abbrev cF :Ay:=23
abbrev tC :Ax:=48
abbrev tW :Ax:=3
abbrev tAs :Ax:=27
def Dw :D3 PR cF=Go.Proofs.Tryz.f23.body.getD .skip:=by kernel_rfl
def c_fn :PR.funcs[cF]? =Go.Proofs.Tryz.f23:=by kernel_rfl
abbrev nF :Ay:=18
def n_fn :PR.funcs[nF]? =Go.Proofs.Tryz.f18:=by kernel_rfl
def n_ok :cN Go.Proofs.Tryz.f18:=by kernel_rfl
def zC :Av:=(T5 PR tC).getD undef
def zC_eq :T5 PR tC=zC:=by kernel_rfl
def WG :zC.cells.toList.length=8:=by kernel_rfl
def zCB :Ao:=fill .e 0 zC.cells.toList
def box_C :Nat.beq tC rgT=false:=by kernel_rfl
def box_W :Nat.beq tW rgT=false:=by kernel_rfl
def i64 (n:Int):Av:= .int .i64 n
def zW :Ao:=fill .e 0 [i64 0]
def zW_eq :T5 PR tW=(i64 0):=by kernel_rfl
def Ue :(PR.underlying tW).map bP=some false:=by kernel_rfl
def Vf :(PR.underlying tAs).map bP=some false:=by kernel_rfl
def Wp :PR.underlying tAs=some (.slice tAt):=by kernel_rfl
noncomputable def niC :Ba:=(PR.info? tC).getD default
def Qn :PR.info? tC=niC:=by kernel_rfl
def GP :niC.size=8:=by kernel_rfl
noncomputable def niW :Ba:=(PR.info? tW).getD default
def VO :PR.info? tW=niW:=by kernel_rfl
def Qq :niW.size=1:=by kernel_rfl
def agg_C :(PR.underlying tC).map bP=some true:=by kernel_rfl
def bld_0 :oN PR tC []=some (.agg #[i64 0,i64 0,i64 0,i64 0,i64 0,i64 0,i64 0,i64 0]):=by kernel_rfl
def bld_4 (a b c d:Int):oN PR tC [(0,i64 a),(1,i64 b),(3,i64 c),(6,i64 d)]=some (.agg #[i64 a,i64 b,i64 0,i64 c,i64 0,i64 0,i64 d,i64 0]):=by kernel_rfl
section
variable {ov :Aa}{Z X:Hp}{Y:Ao}{x y t i o n e z:Nat}{W:Ao}{vs:Af}{v a:Av}
def ld_C {m:T Blk}{nx:Nat}(h:m.l i=some (.cells W n e z))(f:o+8<=n)(c:j8 W o 8=vs):G4 PR ⟨m,nx⟩ tC (.pointer<|some ⟨i,o,none⟩)=some (.agg vs.toArray):=by
 have a:=agg_C;cases b:PR.underlying tC with
 |none=>grind|some d=>rw[b]at a;simp at a;simp only[G4,h,rdC,b,a,Xa,Qn,GP,WQ f,c]
def st_C (h:Z.m.l i=some (.cells W n e z))(b:o+8<=n)(a:vs.length=8)(c:vs.all Value.oneCell'):G1 PR Z tC (.pointer<|some ⟨i,o,none⟩) (.agg vs.toArray)=some {Z with m:=Z.m.m i<|some<|.cells (fill W o vs) n e z}:=by have:(Value.agg vs.toArray).cells.toList=vs:=rfl;simp only[G1,h,Qn,GP,this,a,w9,WQ b,c,Bool.and_self,Xa,N7]
variable {k:Int}
def st_W (h:Z.m.l i=some (.cells W n e z))(b:o+1<=n):G1 PR Z tW (.pointer<|some ⟨i,o,none⟩) (i64 k)=some {Z with m:=Z.m.m i<|some<|.cells (fill W o [i64 k]) n e z}:=by have:(i64 k).cells.toList=[i64 k]:=rfl;have a: [i64 k].all Value.oneCell'=true:=rfl;simp only[G1,h,VO,Qq,this,XD,YS,Xq,w9,WQ b,a,Bool.and_self,Xa,N7]
def KH (k:Int)(call:i9):xop PR call Y Z (.assign<|.const<|.int .i64 k)=(i64 k,Z):=by have h:cst (.int .i64 k)=true:=rfl;simp only[xop,ob,i7,h,Xa,j4];rfl
def Oe (call:i9):xop PR call Y Z (.alloc tC)=some (.pointer<|some ⟨Z.d,0,none⟩,⟨Z.m.m Z.d<|some<|.cells zCB 8 tC 8,Z.d+1⟩):=by simp only[xop,fV,box_C,Xb,xnw,Z2,zC_eq,V3,Hp.g,Nw.d,J2,WG,zCB]
def Og (call:i9):xop PR call Y Z (.alloc tW)=some (.pointer<|some ⟨Z.d,0,none⟩,⟨Z.m.m Z.d<|some<|.cells zW 1 tW 1,Z.d+1⟩):=by simp only[xop,fV,box_W,Xb,xnw,Z2,zW_eq,V3,Hp.g,Nw.d,J2];rfl
def Oh (c:Y.l x=a)(h:G1 PR Z t a (i64 k)=X)(call:i9):xop PR call Y Z (.store t (.tmp x)<|.const<|.int .i64 k)=(undef,X):=by have b:cst (.int .i64 k)=true:=rfl;have h:G1 PR Z t a (.int .i64 k)=some X:=h;simp only[xop,ob,i7,c,b,Xa,XB,h]
def WA {b:Ax}(a:Y.l x=(i64 k))(call:i9):xop PR call Y Z (.binOp .eql t (.tmp x) (.const<|.int .i64 0) b)=some (.bool<|decide<|k=0,Z):=by have h:cst (.int .i64 0)=true:=rfl;have a:Y.l x=some (.int .i64 k):=a;simp only[xop,ob,i7,a,h,XB,M3,aO,XZ,Xa,K4,mO,j4]
def Wz {c:Ax}(a:Y.l x=some (i64 k))(d:1<=k)(e:k<1000000)(call:i9):xop PR call Y Z (.binOp .sub t (.tmp x) (.const<|.int .i64 1) c)=some (i64<|k-1,Z):=by have h:cst (.int .i64 1)=true:=rfl;have a:Y.l x=some (.int .i64 k):=a;have b:IntKind.i64.wrap (k-1)=k-1:=wB (by rw[show IntKind.i64.min= -9223372036854775808 from rfl];omega) (by rw[show IntKind.i64.max=9223372036854775807 from rfl];omega);simp only[xop,ob,i7,a,h,XB,M3,aO,XZ,Xa,K4,j4,b];rfl
def Ww {l:Int}{d:Ax}(a:Y.l x=(i64 k))(b:Y.l y=(i64 l))(e:0<=k)(f:k<1000000)(g:0<=l)(h:l<1000000)(call:i9):xop PR call Y Z (.binOp .add t (.tmp x) (.tmp y) d)=(i64<|k+l,Z):=by have a:Y.l x=some (.int .i64 k):=a;have b:Y.l y=some (.int .i64 l):=b;have c:IntKind.i64.wrap (k+l)=k+l:=wB (by rw[show IntKind.i64.min= -9223372036854775808 from rfl];omega) (by rw[show IntKind.i64.max=9223372036854775807 from rfl];omega);simp only[xop,ob,i7,a,b,XB,M3,aO,XZ,Xa,K4,j4,c];rfl
def TS (a:Y.l x=some (.pointer<|some ⟨i,o,none⟩))(call:i9):xop PR call Y Z (.fieldAddr tN (.tmp x) 3)=some (.pointer<|some ⟨i,o+3,none⟩,Z):=by simp only[xop,ob,i7,a,XB,fa_A,j4]
def TU {q:Aq}{l c:Nat}{a:Array Ax}(d:Y.l x=some (.slice q l c))(b:a.toList=[tAs])(call:i9):xop PR call Y Z (.call ⟨.builtin .len,#[.tmp x],a⟩)=(i64 l,Z):=by simp only[xop,ob,Y8,i7,d,XB,C7,b,hJ Wp q l c,j4];rfl
def TP (call:i9):xop PR call Y Z (.build tC #[])=some (.agg #[i64 0,i64 0,i64 0,i64 0,i64 0,i64 0,i64 0,i64 0],Z):=by simp only[xop,ob,aP,bld_0,j4]
def TQ {e f g h:Nat}{a b c d:Int}(i:Y.l e=(i64 a))(j:Y.l f=(i64 b))(k:Y.l g=(i64 c))(l:Y.l h=(i64 d))(call:i9):xop PR call Y Z (.build tC #[(0,.tmp e),(1,.tmp f),(3,.tmp g),(6,.tmp h)])=some (.agg #[i64 a,i64 b,i64 0,i64 c,i64 0,i64 0,i64 d,i64 0],Z):=by simp only[xop,ob,aP,i7,i,j,k,l,XB,bld_4,j4]
end
abbrev cC :Code:=D3 PR cF
abbrev cX :Code:=cdB<|cdB cC
abbrev cR0 :Code:=cdA cC
abbrev cR1 :Code:=cdA<|cdB cC
abbrev cR2 :Code:=cdA<|cdA cX
abbrev cR3 :Code:=cdA<|cdA<|cdB<|cdA cX
abbrev cR4 :Code:=cdA<|cdB cX
abbrev cY :Code:=cdA<|cdB<|cdB cX
abbrev cR5 :Code:=cdA cY
abbrev cRF :Code:=cdA<|cdB cY
abbrev cR6 :Code:=Gf cRF
abbrev cBo :Code:=Gg cRF
abbrev cR7 :Code:=cdA cBo
abbrev cR8 :Code:=cdA<|cdB<|cdB<|cdB cX
def c_bo :cBo= .block 1 cR7:=by kernel_rfl
def Pa :D3 PR cF= .seq cR0 (.seq cR1<|.seq (.seq cR2<|.cond (.tmp 10) (.seq cR3 .ret) .skip)<|.seq cR4<|.seq (.seq cR5<|.block 0<|.rangeFunc (.tmp 13) #[14] cR6 cBo)<|.seq cR8 .ret):=by kernel_rfl
section
variable {V :Aa}{Z X:Hp}{Y:Ao}{W:Af}{b U P:Nat}{Q:Ao->Hp->Prop}{S:Ao}{R:Ai}
def c_0 (b:Y.l 0=some (.agg W.toArray))(c:W.length=6)(k:∀a,a.l 1=some (.pointer<|some ⟨Z.d,0,none⟩)->a.l 2=some (.pointer<|some ⟨Z.d+1,0,none⟩)->Q a ⟨(Z.m.m Z.d<|some<|.cells (fill .e 0 W) 6 tN 6).m (Z.d+1)<|some<|.cells zCB 8 tC 8,Z.d+2⟩):YN PR V R 26 cR0 Y Z Q:=by
 rw[cR0,cC,Dw];simp only[Go.Proofs.Tryz.f23,XB,cdA,cdB];have e:(Value.agg W.toArray).cells.toList=W:=by simp[Value.cells]
 refine .a<|.a rfl rfl (oP OX b) ?_;rw[e,c];refine .a rfl rfl Oe<|.a rfl rfl (KH 0)<|.b ⟨⟨by show Z.d<=Z.d+1+1;omega,λr d h=>?_⟩,k _ ?_ ?_⟩;show((Z.m.m Z.d _).m (Z.d+1) _).l r=_;rw[ZD,af,ZD,af];exact h;simp only[gp];rfl;simp only[gp];rfl
variable {n:Int}
def c_1 (d:Y.l 1=some (.pointer<|some ⟨b,0,none⟩))(e:Z.m.l b=some (.cells S 6 tN 6))(g:j8 S 0 6=W)(c:P0 PR V nF [.agg W.toArray] Z (i64 n) X)(f:F9 Z X)(k:∀a,(∀x,x<3->a.l x=Y.l x)->a.l 4=some (i64 n)->Q a X):YN PR V R 26 cR1 Y Z Q:=by rw[cR1,cC,Dw];simp only[Go.Proofs.Tryz.f23,XB,cdA,cdB];refine .a<|.a rfl rfl (C9 d<|Cn e rfl (by omega) g)<|.d rfl rfl (Bo n_fn n_ok (by simp only[gp];rfl) c)<|.a rfl rfl (De<|by simp only[gp];rfl)<|.b ⟨f,k _ (λx c=>?_) ?_⟩;simp only[gp];rw[af,af,af];simp only[gp];rfl
def c_2 (b:Y.l 4=(i64 n))(k:∀a,(∀x,x<5->a.l x=Y.l x)->a.l 10=some (.bool<|decide<|n=0)->Q a Z):YN PR V R 26 cR2 Y Z Q:=by rw[cR2,cX,cC,Dw];simp only[Go.Proofs.Tryz.f23,XB,cdA,cdB];refine .a<|.a rfl rfl (qX b)<|.a rfl rfl (WA (k:=n)<|by simp only[gp];rfl)<|.b ⟨.a _,k _ (λx c=>?_) ?_⟩;simp only[gp];rw[af,af];simp only[gp];rfl
def c_3 (b:Y.l 2=some (.pointer<|some ⟨U,0,none⟩))(c:Z.m.l U=some (.cells S 8 tC 8))(k:∀a,a.l 2=some (.pointer<|some ⟨U,0,none⟩)->a.l 3=some (i64 14)->Q a ⟨Z.m.m U<|some<|.cells (fill S 0 [i64 0,i64 0,i64 0,i64 0,i64 0,i64 0,i64 0,i64 0]) 8 tC 8,Z.d⟩):YN PR V R 26 cR3 Y Z Q:=by rw[cR3,cX,cC,Dw];simp only[Go.Proofs.Tryz.f23,XB,cdA,cdB];refine .a<|.a rfl rfl TP<|.a rfl rfl (P9 (by simp only[gp];exact b) (by simp only[gp];rfl)<|st_C (vs:=[i64 0,i64 0,i64 0,i64 0,i64 0,i64 0,i64 0,i64 0]) c (by omega) rfl rfl)<|.a rfl rfl (KH 14)<|.b ⟨⟨Xh _,λr d h=>?_⟩,k _ ?_ ?_⟩;show(Z.m.m U _).l r=_;rw[ZD];split;rename_i e;rw[e,c]at h;cases h;exact h;simp only[gp,gn];exact b;simp only[gp,gn];rfl
def c_4 (k:∀a,(∀x,x<5->a.l x=Y.l x)->a.l 5=some (.pointer<|some ⟨Z.d,0,none⟩)->Q a ⟨(Z.m.m Z.d<|some<|.cells zW 1 tW 1).m Z.d<|some<|.cells (fill zW 0 [i64 0]) 1 tW 1,Z.d+1⟩):YN PR V R 26 cR4 Y Z Q:=by rw[cR4,cX,cC,Dw];simp only[Go.Proofs.Tryz.f23,XB,cdA,cdB];refine .a<|.a rfl rfl Og<|.a rfl rfl (Oh (k:=0) (by simp only[gp];rfl)<|st_W (by rw[ZD,Xg rfl])<|by omega)<|.b ⟨⟨Yq _,λr b h=>?_⟩,k _ (λx c=>?_) ?_⟩;show((Z.m.m Z.d _).m Z.d _).l r=_;rw[ZD,af,ZD,af];exact h;simp only[gp,gn];rw[af];simp only[gp,gn];rfl
def c_5 {v:Av}(d:Y.l 1=some (.pointer<|some ⟨b,0,none⟩))(e:Z.m.l b=some (.cells S 6 tN 6))(g:j8 S 0 6=W)(c:P0 PR V aG [.agg W.toArray] Z v X)(f:F9 Z X)(k:∀a,(∀x,x<6->a.l x=Y.l x)->a.l 13=some v->Q a X):YN PR V R 26 cR5 Y Z Q:=by rw[cR5,cY,cX,cC,Dw];simp only[Go.Proofs.Tryz.f23,XB,cdA,cdB];refine .a<|.a rfl rfl (C9 d<|Cn e rfl (by omega) g)<|.d rfl rfl (Bo Ox Ud (by simp only[gp];rfl) c)<|.b ⟨f,k _ (λx c=>?_) ?_⟩;simp only[gp];rw[af,af];simp only[gp];rfl
def c_6 (b:Y.l 14=some (.agg W.toArray))(c:W.length=6)(d:W.all Value.oneCell')(k:∀a,(∀x,x≠6->a.l x=Y.l x)->a.l 6=some (.pointer<|some ⟨Z.d,0,none⟩)->Q a ⟨(Z.m.m Z.d<|some<|.cells zB 6 tN 6).m Z.d<|some<|.cells (fill zB 0 W) 6 tN 6,Z.d+1⟩):YN PR V R 26 cR6 Y Z Q:=by rw[cR6,cRF,cY,cX,cC,Dw];simp only[Go.Proofs.Tryz.f23,XB,cdA,cdB,Gf];refine .a<|.a rfl rfl tI<|.a rfl rfl (P9 (by simp only[gp];rfl) (by simp only[gp];exact b)<|st_N (by rw[ZD,Xg rfl]) (by omega) c d)<|.b ⟨⟨Yq _,λr f h=>?_⟩,k _ (λx e=>?_) ?_⟩;show((Z.m.m Z.d _).m Z.d _).l r=_;rw[ZD,af,ZD,af];exact h;simp only[gp,gn];rw[Xd e];simp only[gp,gn];rfl
variable {X:Ao}
def c_7 {c l j:Nat}{q:Aq}{a:Int}(f:Y.l 5=some (.pointer<|some ⟨P,0,none⟩))(b:Z.m.l P=some (.cells X 1 tW 1))(s:X.l 0=(i64 a))(o:Y.l 6=some (.pointer<|some ⟨c,0,none⟩))(p:Z.m.l c=some (.cells S 6 tN 6))(n:S.l 3=some (.slice q l j))(g:0<=a)(i:a<1000000)(u:l<1000000)(k:∀d,Q d ⟨Z.m.m P<|some<|.cells (fill X 0 [i64 (a+l)]) 1 tW 1,Z.d⟩):YN PR V R 26 cR7 Y Z Q:=by rw[cR7,cBo,cRF,cY,cX,cC,Dw];simp only[Go.Proofs.Tryz.f23,XB,cdA,cdB,Gg];refine .a<|.a rfl rfl (C9 f<|(uW Ue b rfl<|by omega).trans s)<|.a rfl rfl (TS<|by simp only[gp];exact o)<|.a rfl rfl (C9 (by simp only[gp];rfl)<|(uW Vf p rfl<|by omega).trans n)<|.a rfl rfl (TU (by simp only[gp];rfl) rfl) ?_;refine .a rfl rfl (Ww (k:=a) (l:=l) (by simp only[gp];rfl) (by simp only[gp];rfl) g i (by omega)<|by omega)<|.a rfl rfl (P9 (by simp only[gp];exact f) (by simp only[gp];rfl)<|st_W b<|by omega)<|.b ⟨⟨Xh _,λr t h=>?_⟩,k _⟩;show(Z.m.m P _).l r=_;rw[ZD];split;rename_i e;rw[e,b]at h;cases h;exact h
def c_8 {a:Int}(i:Y.l 2=some (.pointer<|some ⟨U,0,none⟩))(g:Y.l 4=(i64 n))(l:Y.l 5=some (.pointer<|some ⟨P,0,none⟩))(j:Z.m.l U=some (.cells S 8 tC 8))(p:Z.m.l P=some (.cells X 1 tW 1))(o:X.l 0=(i64 a))(q:1<=n)(s:n<1000000)(k:∀f,f.l 2=some (.pointer<|some ⟨U,0,none⟩)->f.l 3=some (i64 0)->Q f ⟨Z.m.m U<|some<|.cells (fill S 0 [i64 n,i64 n,i64 0,i64<|n-1,i64 0,i64 0,i64 a,i64 0]) 8 tC 8,Z.d⟩):YN PR V R 26 cR8 Y Z Q:=by rw[cR8,cX,cC,Dw];simp only[Go.Proofs.Tryz.f23,XB,cdA,cdB];refine .a<|.a rfl rfl (qX g)<|.a rfl rfl (qX<|by simp only[gp];exact g)<|.a rfl rfl (qX<|by simp only[gp];exact g)<|.a rfl rfl (Wz (k:=n) (by simp only[gp];rfl) q s) ?_;refine .a rfl rfl (C9 (by simp only[gp];exact l)<|(uW Ue p rfl<|by omega).trans o)<|.a rfl rfl (TQ (a:=n) (b:=n) (c:=n-1) (d:=a) (by simp only[gp];rfl) (by simp only[gp];rfl) (by simp only[gp];rfl)<|by simp only[gp];rfl) ?_;refine .a rfl rfl (P9 (by simp only[gp];exact i) (by simp only[gp];rfl)<|st_C (vs:=[i64 n,i64 n,i64 0,i64<|n-1,i64 0,i64 0,i64 a,i64 0]) j (by omega) rfl rfl)<|.a rfl rfl (KH 0)<|.b ⟨⟨Xh _,λr t h=>?_⟩,k _ ?_ ?_⟩;show(Z.m.m U _).l r=_;rw[ZD];split;rename_i e;rw[e,j]at h;cases h;exact h;simp only[gp,gn];exact i;simp only[gp,gn];rfl
end
def aL (n:c8):Nat:=n.a.length
def Bv (s:c8)(k:Nat):Nat:=(((jS s).take k).map aL).sum
mutual
def wN :∀s:c8,((jS s).map aL).sum=eE s
 | .mk k t y a x c=>by simp only[jS,XU,List.sum_cons,eE,attNs_pre c];rfl
def attNs_pre :∀l:List c8,((preL l).map aL).sum=attNs l
 | []=>rfl|s::l=>by simp only[preL,XJ,List.sum_append,attNs,wN s,attNs_pre l]
end
def OP (s:c8):Bv s s.h=eE s:=by rw[Bv,XP<|by rw[GW];exact Xh _,wN]
def MK {s n:c8}{k:Nat}(h:(jS s)[k]? =n):Bv s (k+1)=Bv s k+aL n:=by unfold Bv;rw[List.take_add_one,h,XJ,List.sum_append];simp
def SE (s:c8)(k:Nat):Bv s k<=eE s:=by
 have:=wN s;have e:((jS s).map aL).sum=(((jS s).take k).map aL).sum+(((jS s).drop k).map aL).sum:=by rw[<-List.sum_append,<-XJ,YH]
 rw[Bv];omega
mutual
def vF :∀s:c8,K0 s->eE s<=8*s.h
 | .mk k t y a x c,h=>by
  rw[K0] at h;have b:a.length<=8:=by obtain h|h:=h.1;have:a=[]:=h.2.2.2.2.1;simp[this];exact h.2.2.2.2.1
  have:=attNs_le c h.2;simp only[eE,c8.h];omega
def attNs_le :∀l:List c8,AllAs l->attNs l<=8*c8.d l
 | [],_=>by simp[attNs]|s::l,h=>by rw[AllAs] at h;have:=vF s h.1;have:=attNs_le l h.2;simp only[attNs,c8.d];omega
end
def Uv (s:c8)(b:Nat)(k:Nat)(g:FB):Prop:=∃a:Ao,g b=some (.cells a 1 tW 1)/\a.l 0=(i64<|Bv s k)
def costY (F:FB)(s:c8)(k:Nat)(args:Af):Prop:=∃(n:c8) (a:Af),(jS s)[k]? =n/\args=[.agg a.toArray]/\a.length=6/\NT F n (λp=>a[p]?)
section
variable {ov :Aa}{s:c8}{F:FB}{j Y V:Nat}{W:Hp}{Z:Ao}
def MP (hs:eE s<1000000)(hj:W.m.l j=some (.loop .ready none 26 Z #[14] cR6 cBo V))(j1:j<W.d)(C:Y<W.d)(y:Y≠j)(t5:Z.l 5=some (.pointer<|some ⟨Y,0,none⟩)):Ip PR ov j (λb=>b=Y) W.d W.m.l (Uv s Y) (costY F s) where
 h:=λk g g' ⟨u,p,r⟩ hh=>⟨u,by rw[hh Y rfl];exact p,r⟩
 r:=λb t=>by rw[t];exact C
 d:=λk g b ⟨u,p,r⟩ t h=>by rw[t,p]at h;cases h
 w:=λk args ⟨n,w,_,r,A,h4⟩=>⟨w,r,A,h4.r A⟩
 s:=by
  intro k args d S hY;obtain⟨n,w,hn,rfl,O,x⟩:=hY;have ho:=x.r O;let⟨u,B,hg⟩:=S.j;have v:=(S.d j j1 λe=>y e.symm).trans hj;have aa:=S.r;obtain⟨i,f,P,q5,q6,D⟩:YN PR ov (some j) 26 cR6 (gA Z [14] [.agg w.toArray]) d λi p=>i.l 5=some (.pointer<|some ⟨Y,0,none⟩)/\i.l 6=some (.pointer<|some ⟨d.d,0,none⟩)/\p=⟨(d.m.m d.d<|some<|.cells zB 6 tN 6).m d.d<|some<|.cells (fill zB 0 w) 6 tN 6,d.d+1⟩:=
   c_6 (by show(Z.m 14 _).l 14=_;rw[ZD,Xg rfl]) O ho λi a b=>⟨by rw[a 5<|by decide];show(Z.m 14 _).l 5=_;rw[ZD,Xd<|by decide];exact t5,b,rfl⟩
  have E:∀b,b≠d.d->f.m.l b=d.m.l b:=λb t=>by rw[D];show((d.m.m d.d _).m d.d _).l b=_;rw[ZD,Xd t,ZD,Xd t]
  have R:f.m.l d.d=some (.cells (fill zB 0 w) 6 tN 6):=by rw[D];show((d.m.m d.d _).m d.d _).l d.d=_;rw[ZD,Xg rfl]
  have L:f.d=d.d+1:=by rw[D]
  have K:f.m.l j=some (.loop .ready none 26 Z #[14] cR6 cBo V):=(E j<|by omega).trans v;let l:Hp:=⟨f.m.m j<|some<|.loop .busy none 26 Z #[14] cR6 cBo V,f.d⟩
  have G:∀b,b≠j->l.m.l b=f.m.l b:=λb p=>by show(f.m.m j _).l b=_;rw[ZD,Xd p]
  have H:l.m.l j=some (.loop .busy none 26 Z #[14] cR6 cBo V):=by show(f.m.m j _).l j=_;rw[ZD,Xg rfl]
  let⟨⟨_,_,_,⟨va,A,I⟩,_⟩,_⟩:=x;obtain⟨q,c,rfl⟩:=zA I;have la:(n.a.map Att.d).length=aL n:=by rw[Xc];rfl
  have st:=MK hn;have bd:=SE s<|k+1;have U:l.m.l Y=some (.cells u 1 tW 1):=by rw[G Y y,E Y<|by omega];exact B
  obtain⟨M,o,Q,z⟩:YN PR ov (some j) 26 cBo i l λ_ r=>r=⟨l.m.m Y<|some<|.cells (fill u 0 [i64 (Bv s k+((n.a.map Att.d).length:Nat))]) 1 tW 1,l.d⟩:=by rw[c_bo];refine .b<|c_7 (c:=d.d) (S:=fill zB 0 w) (X:=u) q5 U hg q6 (by rw[G _<|by omega];exact R) (by rw[j6,Xg ⟨by omega,by omega⟩];exact A) (by omega) (by omega) (by omega) λM=>rfl
  have J:o.m.l j=some (.loop .busy none 26 Z #[14] cR6 cBo V):=by rw[z];show(l.m.m Y _).l j=_;rw[ZD,Xd<|λe=>y e.symm];exact H
  have ab:o.d=d.d+1:=by rw[z];exact L
  have N:∀b,b<d.d-> ¬b=Y->(o.m.m j<|some<|.loop .ready none 26 Z #[14] cR6 cBo V).l b=d.m.l b:=λb p r=>by rw[ZD];split;rename_i e;rw[e];exact v.symm;rename_i e;rw[z];show(l.m.m Y _).l b=_;rw[ZD,Xd r,G b e,E b<|by omega]
  refine⟨⟨o.m.m j<|some<|.loop .ready none 26 Z #[14] cR6 cBo V,o.d⟩,xrnd v rfl rfl P K Q J,⟨by show W.d<=o.d;omega,λb t B=>?_,fill u 0 [i64 (Bv s k+((n.a.map Att.d).length:Nat))],?_,?_⟩,⟨by show d.d<=o.d;omega,N⟩⟩;show(o.m.m j _).l b=_;rw[N b (by omega) B];exact S.d b t B;show(o.m.m j _).l Y=_;rw[ZD,Xd y,z];show(l.m.m Y _).l Y=_;rw[ZD,Xg rfl];rw[j6,Xg ⟨by omega,by simp⟩,la,st];simp
end
def UT {l:List c8}{m:Int}{u:c8}(b:l[m.toNat]? =u):cI (rows l) m 0=u.k/\cS (rows l) m 1=u.t/\cS (rows l) m 2=u.y/\cL (rows l) m 3=u.a.map Att.d/\cS (rows l) m 4=u.x/\cL (rows l) m 5=rows u.c:=by simp only[cI,cS,cL,H7 b,t0,t1,t2,t3,t4,t5,U8,B1,S0,and_self]
def OQ (s:c8):eE s=s.a.length+attNs s.c:=by cases s;simp only[eE];rfl
def rE :∀ {l m:List c8},attNs (l++m)=attNs l+attNs m
 | [],m=>by simp[attNs]|s::l,m=>by simp only[Ye,attNs,rE (l:=l)];omega
def rmo0 {n:Nat}{s:c8}{D:DM}{K:Nat}{L F L1 F1:a8}{tx:Str}{B C E G H I J M b0 b1 b2 b3 b4 b5 b6 b7 i g r:Int}(hA:K0 s)(aj:szRs (rows s.c)<n+1)(h1:(if s.k=1 then tx else [])=s.t)(h2:(if s.k=1 then []else tx)=s.x)(b:Rf D L F [B,C,E,G,H,I,J,M])(o:WF D K)(v:K+M1 s<=1000)(hC:J7 (.l L::.l F::J8 B C E G H I J M [.i s.k,.s tx]) (.l L1::.l F1::J10 b0 b1 b2 b3 b4 b5 b6 b7 i g [.i r])):jf n L1 F1 b0 b1 b2 b3 b4 b5 b6 b7 i g (s.a.map Att.d) (rows s.c) L F B C E G H I J M s.k s.t s.y s.x:=by
 have hk:=wJ hA;have ac:=Ct s;have f:∀ {D:DM} {K:Nat},Rf D L F [B,C,E,G,H,I,J,M]->WF D K->K+M1 s<=1000->Rf (z5 D s.k s.t s.x).1 L1 F1 [b0,b1,b2,b3,b4,b5,b6,b7]/\WF (z5 D s.k s.t s.x).1 (K+1)/\i=(z5 D s.k s.t s.x).2.1/\g=(z5 D s.k s.t s.x).2.2.1/\U32 i/\U32 g:=λ{D K} b w h=>by let⟨p1,d⟩:=hC D K b w;rw[h1,h2]at p1 d;let⟨_,q1,q2⟩:=II (D:=D) (k:=s.k) (t:=s.t) (x:=s.x) w (by omega) hk;simp only[Prod.ext_iff]at d;exact⟨p1,w.V (by omega) (by obtain h|h:=hk;exact .inl h.1;exact .inr h.1),d.1,d.2.1,by rw[d.1];exact q1,by rw[d.2.1];exact q2⟩
 let⟨hR1,S,_,_,ui,ug⟩:=f b o v;have lA:((s.a.map Att.d).length:Int)=s.a.length:=by rw[Xc]
 rw[jf];intro j L2 F2 d0 d1 d2 d3 d4 d5 d6 d7 hI;let⟨j0,j1,hI⟩:=hI;refine⟨λV=>?_,λV=>?_⟩
 .have ad:j<s.a.length:=by rw[ln] at V;omega
  let⟨x0,hx⟩:=Sx.get_at j0 ad;have a0:=OR hx;refine ag<|ndi V<|ag<|ndi V<|ndi ⟨ui,ug,λh=>(by cases h),_,_,hI s.a _ (K+1) rfl hR1 S<|by omega,ZP S<|by rw[Xt];omega⟩ λL3 F3 e0 e1 e2 e3 e4 e5 e6 e7 r' hE=>?_;refine ndi (by rw[I64];omega)<|ndi ⟨by omega,by omega,λa D K e b o v=>?_⟩<|ndt (by show(_-_:Int).toNat<(_-_:Int).toNat;omega);obtain rfl:=P1 e;have:=(hE _ _ (hI s.a D K rfl b o v)<|ZP o<|by rw[Xt];omega).1;rw[a0.1,a0.2]at this;rw[m8 j0 hx,List.foldl_append];exact this
 .have N:s.a.take j.toNat=s.a:=v7 (by rw[ln] at V;omega);refine ndi ⟨by omega,by omega,λc D K e _ b o v=>by simpa [mntC]using b⟩ λm L3 F3 e0 e1 e2 e3 e4 e5 e6 e7 O=>?_;let⟨m0,m1,O⟩:=O;have p:AllAs s.c:=((B4 s).1 hA).2;have lC:((rows s.c).length:Int)=s.c.length:=by rw[rows,Xc]
  have R2:∀ {D:DM} {K:Nat},Rf D L F [B,C,E,G,H,I,J,M]->WF D K->K+M1 s<=1000->Rf (s.a.foldl (setA i g) (z5 D s.k s.t s.x).1) L2 F2 [d0,d1,d2,d3,d4,d5,d6,d7]/\WF (s.a.foldl (setA i g) (z5 D s.k s.t s.x).1) (K+1+s.a.length):=λ{D K} b w h=>by let⟨k1,k2,_⟩:=f b w h;have:=hI s.a _ (K+1) rfl k1 k2 (by omega);rw[N]at this;exact⟨this,ZP k2<|by omega⟩
  let⟨ab,T⟩:=R2 b o v;refine⟨λZ=>?_,λZ=>?_⟩
  .have ae:m<s.c.length:=by rw[ln] at Z;omega
   let⟨u,W⟩:=Sx.get_at m0 ae;have X:=O3 p W;have al:=aA W;have uc:=rV W;have tk:=tZ s.c m.toNat;have ak:=(Z1 ((B4 s).1 hA).1).1;have Q:=O s.c _ _ rfl p ab T (by omega);have A:WF _ (K+1+s.a.length+mcosts (s.c.take m.toNat)):=WF.F (s.c.take m.toNat) (i:=i) (g:=g) T (bM p _) (by omega);let⟨g0,g1,g2,g3,g4,g5⟩:=UT W;rw[g0,g1,g2,g3,g4,g5];refine ag<|ndi Z<|ndi ⟨⟨u,_,_,⟨rfl,rfl,rfl,rfl,rfl,rfl⟩,X,Q,A,by omega⟩,by show szRs (rows u.c)<n;omega⟩ λL4 F4 f0 f1 f2 f3 f4 f5 f6 f7 i' g' Y=>?_;let⟨ai,ah,Y⟩:=Y;let⟨q1,q2⟩:=Y u _ _ ⟨rfl,rfl,rfl,rfl,rfl,rfl⟩ X Q A (by omega);refine ndi ⟨ui,ug,ai,ah,by rw[U32];omega,by rw[U32];omega,_,_,q1,WF.Q u A X<|by omega⟩ λL5 F5 h0 h1 h2 h3 h4 h5 h6 h7 r5 hN=>?_;refine ndi (by rw[I64];omega)<|ndi ⟨by omega,by omega,λc D K e U b o v=>?_⟩<|ndt (by show(_-_:Int).toNat<(_-_:Int).toNat;omega);have e:=bD.mp e;subst e;have kW:WF _ (K+mcosts (s.c.take m.toNat)):=WF.F (s.c.take m.toNat) (i:=i) (g:=g) o (bM U _) (by omega);let⟨p1,d⟩:=Y u _ _ ⟨rfl,rfl,rfl,rfl,rfl,rfl⟩ X (O s.c _ _ rfl U b o v) kW (by omega);have:=(hN _ _ p1<|WF.Q u kW X<|by omega).1;rw[m8 m0 W,yJ];simp only[mntC];simp only[Prod.ext_iff]at d;rw[d.1,d.2]at this;exact this
  refine ndt ⟨ui,ug,λs' D' K' h aa P R z=>?_⟩;rw[y4]at h;rw[h]at aa z⊢;let⟨k1,k2⟩:=R2 P R z;let⟨_,_,e1,e2,_⟩:=f P R z;have:=O s.c _ _ rfl p k1 k2 (by omega);rw[v7 (by unfold ln at Z;omega)]at this;rw[GL,<-e1,<-e2];exact⟨this,rfl⟩
def vk (n:Nat):vo n:=by
 rw[vo];rintro L F H I J M N O P Q k t y a x c ⟨⟨s,D,K,⟨rfl,rfl,rfl,rfl,rfl,rfl⟩,m,b,d,l⟩,f⟩;have p:=wJ m;refine⟨λe=>?_,λe=>?_⟩;exact ndi ⟨.inr e,D,K,b,d⟩ λu q v w z A B C E G i g r o=>ndi ⟨by omega,by omega,λa D K e b d l=>by simpa using b⟩<|rmo0 m f (by obtain h|h:=p;omega;rw[af,h.2.2]) (by rw[af]) b d l o
 .have j:s.k=1/\s.x=[]:=by obtain h|h:=p;exact⟨h.1,h.2.2⟩;exact absurd h.1 e
  exact ndi ⟨.inl j.1,D,K,b,d⟩ λu q v w z A B C E G i g r o=>ndi ⟨by omega,by omega,λa D K e b d l=>by simpa using b⟩<|rmo0 m f (by rw[Xg j.1]) (by rw[Xg j.1,j.2]) b d l o
def wl (n:Nat):wo n:=by
 rw[wo];rintro k t y a x c ⟨⟨s,⟨rfl,rfl,rfl,rfl,rfl,rfl⟩,g,E⟩,b⟩;have b:szRs (rows s.c)<n+1:=b;have i:=((B4 s).1 g).2;have L:((s.a.map Att.d).length:Int)=s.a.length:=by rw[Xc]
 have M:((rows s.c).length:Int)=s.c.length:=by rw[rows,Xc]
 have I:=OQ s;have O:=vF s g;refine ndi ⟨by omega,by omega,λl e=>by simp[attNs,ln]⟩ λj m ⟨v,K,p⟩=>⟨λf=>?_,λf=>ndt λP h=>?_⟩
 .have o:j<s.c.length:=by rw[ln] at f;omega
  let⟨u,d⟩:=Sx.get_at v o;have H:=aA d;have S:=lN<|WT d;have Q:=G8 s;have J:=p s.c rfl;have R:attNs (s.c.take (j+1).toNat)=attNs (s.c.take j.toNat)+eE u:=by rw[m8 v d,rE];simp[attNs]
  have N:attNs (s.c.take (j+1).toNat)<=attNs s.c:=by have:=rE (l:=s.c.take (j+1).toNat) (m:=s.c.drop (j+1).toNat);rw[YH]at this;omega
  have F:=(Z1 ((B4 s).1 g).1).1;let⟨w,z,A,B,C,D⟩:=UT d;rw[w,z,A,B,C,D];refine ag<|ndi f<|ndi ⟨⟨u,⟨rfl,rfl,rfl,rfl,rfl,rfl⟩,O3 i d,by omega⟩,by show szRs (rows u.c)<n;omega⟩ λr q=>?_;have q:=q u ⟨rfl,rfl,rfl,rfl,rfl,rfl⟩;refine ndi (by rw[I64];omega)<|ndi (by rw[I64];omega)<|ndi ⟨by omega,by omega,λl e=>?_⟩<|ndt (by show(_-_:Int).toNat<(_-_:Int).toNat;omega);have e:=bD.mp e;subst e;omega
 rw[y4]at h;subst h;have:=p _ rfl;rw[v7 (by rw[ln] at f;omega)]at this;omega
end Go.D
namespace Go.D
open Go Go.Xe Go.Sx
def nx :Ah->Nat->Nat->Ah
 |_,_,0=>[]
 |i::f,n,k+1=>i::nx f n k| [],n,k+1=>n::nx [] (n+1) k
def Jw :∀ {f:Ah} {n a b:Nat},nx f n (a+b)=nx f n a++nx (f.drop a) (n+(a-f.length)) b
 |f,n,0,b=>by cases f<;>simp[nx]
 |i::f,n,a+1,b=>by rw[show a+1+b=a+b+1 by omega];simp only[nx,Ye,Jw (f:=f) (a:=a),List.drop_succ_cons,XD];rw[show a+1-(f.length+1)=a-f.length by omega]| [],n,a+1,b=>by rw[show a+1+b=a+b+1 by omega];simp only[nx,Ye,Jw (f:=[]) (n:=n+1) (a:=a),List.drop_nil,YS];rw[show n+1+(a-0)=n+(a+1-0) by omega]
def Eg :∀ {f:Ah} {n k:Nat},(nx f n k).length=k
 |f,n,0=>by cases f<;>rfl
 |i::f,n,k+1=>by simp only[nx,XD,Eg]| [],n,k+1=>by simp only[nx,XD,Eg]
def Jx :∀ {f:Ah} {n k j:Nat},j∈nx f n k->j∈f\/n<=j/\j<n+(k-f.length)
 |f,n,0,j,h=>by cases f<;>simp[nx]at h
 |i::f,n,k+1,j,h=>by obtain rfl|h:=Xw.1 h;exact .inl List.mem_cons_self;obtain h|h:=Jx h;exact .inl<|Yb _ h;exact .inr (by simp only[XD];omega)
 | [],n,k+1,j,h=>by obtain rfl|h:=Xw.1 h;exact .inr (by simp);obtain h|h:=Jx h;simp at h;exact .inr (by simp at h⊢;omega)
abbrev DM.y (D:DM)(k:Nat):Ah:=Go.D.nx D.h D.L.length k
def vw (D:DM)(j:Nat):Bb (Bool×Int×Str×List Att×Str×Ah):=D.L[j]?.map λs=>(s.d,s.n.j,s.n.o,s.n.d,s.n.m,s.n.e)
mutual
def TA (D:DM):c8->Nat->Ah->Prop
 | .mk k t y a x c,i,l=>∃b d,vw D i=some (true,k,t,a,x,b)/\l=i::d/\TAs D c b d
def TAs (D:DM):List c8->Ah->Ah->Prop
 | [],b,l=>b=[]/\l=[]
 |s::c,b,l=>∃k a d e,b=k::a/\l=d++e/\TA D s k d/\TAs D c a e
end
section
variable {D D' D1 D2:DM}{K i j k r n m:Nat}{ex ex' ex2:Nat->Prop}{l Z:Ah}{s:c8}{c:List c8}
mutual
def TA.b :∀(s:c8) {i:Nat} {l:Ah},TA D s i l->(∀j∈l,vw D' j=vw D j)->TA D' s i l
 | .mk k t y a x c,i,l,h,hv=>by rw[TA] at h⊢;obtain⟨Z,f,b,rfl,d⟩:=h;exact⟨Z,f,(hv i List.mem_cons_self).trans b,rfl,TAs.b c d λj e=>hv j<|Yb _ e⟩
def TAs.b :∀(c:List c8) {Z l:Ah},TAs D c Z l->(∀j∈l,vw D' j=vw D j)->TAs D' c Z l
 | [],Z,l,h,hv=>by rw[TAs] at h⊢;exact h|s::c,Z,l,h,hv=>by rw[TAs] at h⊢;obtain⟨k,b,f,g,rfl,rfl,d,e⟩:=h;exact⟨k,b,f,g,rfl,rfl,TA.b s d λj a=>hv j<|YK _ a,TAs.b c e λj a=>hv j<|Yy _ a⟩
end
mutual
def TA.d :∀(s:c8) {i:Nat} {l:Ah},TA D s i l-> ∀j∈l,∃sl,D.L[j]? =some sl/\sl.d
 | .mk k t y a x c,i,l,h,j,b=>by rw[TA] at h;obtain⟨m,n,d,rfl,e⟩:=h;obtain rfl|b:=Xw.1 b;rw[vw] at d;let⟨sl,f,g⟩:=Yx.1 d;exact⟨sl,f,(Prod.mk.inj g).1⟩;exact TAs.d c e j b
def TAs.d :∀(c:List c8) {b l:Ah},TAs D c b l-> ∀j∈l,∃sl,D.L[j]? =some sl/\sl.d
 | [],b,l,h,j,a=>by rw[TAs] at h;rw[h.2]at a;cases a
 |s::c,b,l,h,j,a=>by rw[TAs] at h;obtain⟨k,f,g,i,rfl,rfl,d,e⟩:=h;obtain a|a:=Xv.1 a;exact TA.d s d j a;exact TAs.d c e j a
end
def TA.e (h:TA D s i l):∃a,l=i::a:=by cases s;rw[TA] at h;let⟨_,a,_,h,_⟩:=h;exact⟨a,h⟩
def RV {v:Bool×Int×Str×List Att×Str×Ah}(h:vw D i=v):(D.e i).j=v.2.1/\(D.e i).o=v.2.2.1/\(D.e i).d=v.2.2.2.1/\(D.e i).m=v.2.2.2.2.1/\(D.e i).e=v.2.2.2.2.2:=by rw[vw] at h;obtain⟨sl,a,rfl⟩:=Yx.1 h;rw[Za a];exact⟨rfl,rfl,rfl,rfl,rfl⟩
mutual
def TA.f :∀(s:c8) {i:Nat} {l:Ah} {f:Nat},TA D s i l->s.j<=f+1->bel D f i=l
 | .mk k t y a x c,i,l,f,h,d=>by
  rw[TA] at h;obtain⟨g,j,e,rfl,b⟩:=h;simp only[c8.j]at d;cases f with
  |zero=>
   cases c with
   |nil=>rw[TAs] at b;rw[b.2];rfl|cons s c=>cases s;simp only[c8.e,c8.j]at d;omega
  |succ f=>rw[Go.D.bel,(RV e).2.2.2.2];congr 1;exact TAs.e c b (by omega)
def TAs.e :∀(c:List c8) {a l:Ah} {f:Nat},TAs D c a l->c8.e c<=f+1->a.flatMap (Go.D.bel D f)=l
 | [],a,l,f,h,b=>by rw[TAs] at h;rw[h.1,h.2];rfl|s::c,a,l,f,h,b=>by rw[TAs] at h;obtain⟨k,g,i,j,rfl,rfl,d,e⟩:=h;simp only[c8.e]at b;rw[List.flatMap_cons,TA.f s d<|by omega,TAs.e c e<|by omega]
end
mutual
def TA.h :∀(s:c8) {i:Nat} {l:Ah} {f:Nat},TA D s i l->K0 s->s.j<=f->X9 D f i=R0 false s
 | .mk k t y a x c,i,l,f,h,b,p=>by
  rw[TA] at h;obtain⟨v,w,n,rfl,o⟩:=h;simp only[c8.j]at p;rw[K0] at b;obtain⟨f,rfl⟩:∃q,f=q+1:=⟨f-1,by omega⟩
  let⟨d,e,g,j,m⟩:=RV n;have u:c.length<=16:=by obtain h|h:=b.1;have:c=[]:=h.2.2.2.2.2;simp[this];exact h.2.2.2.2.2.1
  let⟨r,z⟩:=TAs.f c (f:=f) o b.2 (by omega);rw[X9,m];simp only at*;rw[af,d,e,g,j,r];simp[R0]
def TAs.f :∀(c:List c8) {a l:Ah} {f:Nat},TAs D c a l->AllAs c->c8.e c<=f->a.map (X9 D f)=strips false c/\a.length=c.length
 | [],a,l,f,h,b,d=>by rw[TAs] at h;rw[h.1];exact⟨rfl,rfl⟩|s::c,a,l,f,h,b,d=>by rw[TAs] at h;obtain⟨k,i,n,o,rfl,rfl,e,g⟩:=h;simp only[c8.e]at d;rw[AllAs] at b;let⟨j,m⟩:=TAs.f c (f:=f) g b.2 (by omega);rw[XU,TA.h s e b.1<|by omega,j];exact⟨rfl,by simp[m]⟩
end
def cq (k i w q:Nat):Int:=if q<=1 then k else if q=3 then i else if q=6 then w else 0
structure Gw (D D':DM)(k i w:Nat)(ex:Nat->Prop):Prop where
 e:∀(j:Nat) sl,D.L[j]? =some sl->sl.d=true-> ¬ex j->D'.L[j]? =some sl
 d:D'.h=D.h.drop k
 f:D'.L.length=D.L.length+(k-D.h.length)
 h:∀q:Nat,D'.C[q]? =D.C[q]?.map (· +cq k i w q)
 o:∀j,j<D.L.length->D'.d j=D.d j
 u:∀j,D.L.length<=j->j<D'.L.length->D'.d j=1
def Gw.b {d w e:Nat}(h:Gw D D1 n i w ex)(a:Gw D1 D2 m d e ex')(r:∀(j:Nat) sl,D.L[j]? =some sl->sl.d-> ¬ex2 j-> ¬ex j/\ ¬ex' j):Gw D D2 (n+m) (i+d) (w+e) ex2:=by
 have t:=h.f;have p:=a.f;have s:D1.h.length=D.h.length-n:=by rw[h.d,XV]
 refine⟨λj sl b c o=>?_,?_,by omega,λq=>by rw[a.h,h.h,Option.map_map];congr 1;funext x;simp only[cq,Function.comp];grind,λj b=>(a.o j<|by omega).trans<|h.o j b,λj k l=>?_⟩;let⟨f,g⟩:=r j sl b c o;exact a.e j sl (h.e j sl b c f) c g;rw[a.d,h.d,List.drop_drop];by_cases b:j<D1.L.length;rw[a.o j b];exact h.u j k b;exact a.u j (by omega) l
def Qu (w:WF D K)(h:j∈D.y k){sl:Sl}(b:D.L[j]? =sl):sl.d=false:=by obtain h|h:=Jx h;let⟨s,a,c⟩:=w.t.2 j h;rw[b]at a;cases a;exact c;have:=(WM.1 b).1;omega
def Gw.y {w:Nat}(h:Gw D D1 n i w ex):D.y (n+m)=D.y n++D1.y m:=by show Go.D.nx _ _ _=_++Go.D.nx _ _ _;rw[Jw,h.d,h.f]
def Gw.A {w:Nat}(h:Gw D D' k i w ex){sl:Sl}(a:D.L[j]? =sl)(c:sl.d)(b:¬ex j):Go.D.vw D' j=Go.D.vw D j:=by unfold Go.D.vw;rw[h.e j sl a c b,a]
def Gw.z {w p:Nat}(h:Gw D D' k p w ex)(b:TA D s i l)(e:∀j∈l,¬ex j):TA D' s i l:=b.b s λj a=>by let⟨sl,c,d⟩:=b.d s j a;exact h.A c d<|e j a
end
section
variable {D D':DM}{K r p c:Nat}{sl Z Y:Sl}{t x:Str}{k:Int}
def vH {n q:Nat}:(D.o n).C[q]? =D.C[q]?.map (· +if n=q then 1 else 0):=by simp only[DM.o,List.getElem?_modify];cases D.C[q]? <;>by_cases e:n=q<;>simp[e]
def SQ (h:∀j:Nat,D'.L[j]?.map Sl.g=D.L[j]?.map Sl.g)(j:Nat):D'.d j=D.d j:=by
 have:=h j;unfold DM.d;cases e:D.L[j]? with
 |none=>cases a:D'.L[j]? with
  |none=>rfl|some s=>rw[e,a]at this;cases this
 |some s=>cases a:D'.L[j]? with
  |none=>rw[e,a]at this;cases this
  |some b=>rw[e,a]at this;simpa using this
def Vu (w:WF D K)(A:K+1<=1000)(p:¬((k=1/\v5 t=false)\/(k=2/\D7 x=false))):∃r g:Nat,(z5 D k t x).2=((r:Int),(g:Int),(0:Int))/\(z5 D k t x).1.L[r]? =some ⟨g,true,A2 k t x⟩/\Gw D (z5 D k t x).1 1 0 0 (λ_=>False)/\D.y 1=[r]:=by
 have z:=w.m;have v:∀D1:DM,D1.C=D.C-> ∀q:Nat,((D1.o 0).o 1).C[q]? =D.C[q]?.map (· +cq 1 0 0 q):=λD1 e q=>by rw[vH,vH,e,Option.map_map];congr 1;funext x;simp only[cq,Function.comp];grind
 rw[z5,Xd p];simp only;by_cases e:D.h=[]
 .have a:D.b (A2 k t x)=(⟨(D.L++ [(⟨1,false,A2 0 [] []⟩:Sl)]).modify D.L.length λs:Sl=>(⟨s.g,true,A2 k t x⟩:Sl),[],D.C⟩,D.L.length):=by rw[DM.b,DM.f,Xg e]
  have n:((D.L++ [(⟨1,false,A2 0 [] []⟩:Sl)]).modify D.L.length λs:Sl=>(⟨s.g,true,A2 k t x⟩:Sl))[D.L.length]? =some ⟨1,true,A2 k t x⟩:=by rw[j9,Xg rfl,WR<|by omega];simp
  have o:∀j:Nat,j<D.L.length->((D.L++ [(⟨1,false,A2 0 [] []⟩:Sl)]).modify D.L.length λs:Sl=>(⟨s.g,true,A2 k t x⟩:Sl))[j]? =D.L[j]? :=λj o=>by rw[j9,af,WS o]
  have d:(D.b<|A2 k t x).1.d D.L.length=1:=by rw[a];simp only[DM.d,n]
  refine⟨D.L.length,1,by rw[a]at d⊢;rw[d],by rw[a];exact n,⟨λj sl c b _=>?_,?_,?_,?_,λj h=>?_,λj c b=>?_⟩,?_⟩;rw[a];exact(o j (WM.1 c).1).trans c;rw[a,e];rfl;rw[a,e];show((D.L++ [(⟨1,false,A2 0 [] []⟩:Sl)]).modify _ _).length=_;simp;exact v _ (by rw[a]);rw[a];simp only[DM.d,DM.o,o j h]
  .rw[a]at b⊢;have:j=D.L.length:=by have:j<(List.modify _ _ _).length:=b;simp at this;omega
   subst this;rw[a]at d;exact d
  show Go.D.nx _ _ _=_;rw[e];rfl
 .cases f:D.h with
  |nil=>exact absurd f e|cons i l=>
  let⟨s,u,y⟩:=w.t.2 i (by rw[f];exact List.mem_cons_self);have a:D.b (A2 k t x)=(⟨D.L.modify i λs:Sl=>(⟨s.g,true,A2 k t x⟩:Sl),l,D.C⟩,i):=by rw[DM.b,DM.f,Xd e,f]
  have n:(D.L.modify i λs:Sl=>(⟨s.g,true,A2 k t x⟩:Sl))[i]? =some ⟨s.g,true,A2 k t x⟩:=by rw[j9,Xg rfl,u];rfl
  have d:(D.b<|A2 k t x).1.d i=s.g:=by rw[a];simp only[DM.d,n]
  have m:∀j:Nat,(D.L.modify i λs:Sl=>(⟨s.g,true,A2 k t x⟩:Sl))[j]?.map Sl.g=D.L[j]?.map Sl.g:=λj=>by rw[j9];split;rw[Option.map_map];rfl;rfl
  refine⟨i,s.g,by rw[a]at d⊢;rw[d],by rw[a];exact n,⟨λj sl c b _=>?_,?_,?_,?_,λj h=>?_,λj c b=>?_⟩,?_⟩;rw[a];show(D.L.modify i _)[j]? =_;rw[j9,Xd,c];rintro rfl;rw[u]at c;cases c;rw[y]at b;cases b;rw[a,f];rfl;rw[a,f];show(List.modify _ _ _).length=_;simp;exact v _ (by rw[a]);rw[a];exact SQ m j;rw[a]at b;have:j<(List.modify _ _ _).length:=b;simp at this;omega;show Go.D.nx _ _ _=_;rw[f];rfl
variable {q:Nod->Nod}
def TC :Gw D ((D.j r q).o 6) 0 0 1 (λj=>j=r):=
 ⟨λj sl a b c=>by show(D.L.modify r _)[j]? =_;rw[j9,Xd<|Ne.symm c];exact a,rfl,by show(D.L.modify r _).length=_;simp,λq=>by rw[vH];show Option.map _ D.C[q]? =_;congr 1;funext x;simp only[cq];grind,λj _=>congrFun (DM.t (D:=D)) j,λj a b=>by have:j<(D.L.modify r _).length:=b;simp at this;omega⟩
def Rm {n:Nat}(h:D.L[r]? =sl):((D.j r q).o n).L[r]? =some {sl with n:=q sl.n}:=by show(D.L.modify r _)[r]? =_;rw[j9,Xg rfl,h];rfl
def FW {e:Ed}(c:e.d=false):∀ {l:List Att},(∀b∈l,lt b.n e.n)->O9 l e=l++ [⟨e.n,e.v⟩]/\bad1 l e=false
 | [],_=>by simp[O9,edA,bad1,c]|a::l,h=>by let⟨f,g⟩:=FW c (l:=l) λb i=>h b<|Yb _ i;have:=h a List.mem_cons_self;simp[O9,bad1,this,f,g]
def Mi :∀(a b:List Att) {D:DM} {sl:Sl},D.L[r]? =sl->sl.d->sl.n.j=1->sl.n.d=b->(b++a).length<=8->(∀z∈a,v5 z.n/\D7 z.v)->Asc ((b++a).map Att.n)->Gw D (a.foldl (setA r sl.g) D) 0 0 a.length (λj=>j=r)/\(a.foldl (setA r sl.g) D).L[r]? =some ⟨sl.g,true,{sl.n with d:=b++a}⟩
 | [],b,D,sl,h,f,o,m,i,hv,c=>by refine⟨⟨λj s t _ _=>t,rfl,by simp,λq=>by simp[cq],λ_ _=>rfl,λj t C=>by simp at C;omega⟩,?_⟩;rw[YD,<-m];simp only[List.foldl_nil,h];cases sl;simp at f;subst f;rfl
 |z::a,b,D,sl,h,f,o,m,i,hv,c=>by
  have k:D.m r sl.g=r:=by have:=YY h f;rwa[YZ h]at this
  have d:apF sl.n.d ⟨z.n,false,z.v⟩=(b++ [z],0):=by
   rw[m];let⟨u,w⟩:=FW (e:=⟨z.n,false,z.v⟩) rfl (l:=b) λy p=>by rw[Asc] at c;rw[XJ,List.pairwise_append]at c;exact c.2.2 y.n (List.mem_map_of_mem p) z.n (by simp)
   rw[apF,u,w];simp at i⊢;omega
  have e:setA r sl.g D z=(D.j r λn=> {n with d:=(apF n.d ⟨z.n,false,z.v⟩).1}).o 6:=by rw[setA,V7,k];simp only;rw[Za h,o,d];simp[cM,hv z List.mem_cons_self]
  rw[List.foldl_cons,e];let⟨x,A⟩:=Mi a (b++ [z]) (D:=(D.j r λn=> {n with d:=(apF n.d ⟨z.n,false,z.v⟩).1}).o 6) (Rm (q:=λn=> {n with d:=(apF n.d ⟨z.n,false,z.v⟩).1}) (n:=6) h) f o (by show(apF sl.n.d _).1=_;rw[d]) (by simpa using i) (λy p=>hv y<|Yb _ p) (by simpa using c);exact⟨by rw[XD,Nat.add_comm];exact TC.b x λj s _ _ h=>⟨h,h⟩,by simpa using A⟩
def VK (d:D.L[p]? =Z)(up:Z.d)(y:Z.n.j=1)(z:Z.n.h= -1)(k:D.L[c]? =Y)(w:Y.d)(r:Y.n.h= -1)(b:p≠c):Gw D (Y3 D p Z.g c Y.g 0 0).1 0 1 0 (λj=>j=p\/j=c)/\(Y3 D p Z.g c Y.g 0 0).1.L[p]? =some ⟨Z.g,true,{Z.n with e:=Z.n.e++ [c]}⟩/\ ∀j,j≠p->vw (Y3 D p Z.g c Y.g 0 0).1 j=vw D j:=by
 have m:D.m p Z.g=p:=by have:=YY d up;rwa[YZ d]at this
 have o:D.m c Y.g=c:=by have:=YY k w;rwa[YZ k]at this
 have i:¬Abv D c p:=λh=>by obtain h| ⟨q,s,a,f,_⟩:=h.A;exact b h.symm;rw[d]at a;cases a;omega
 have e:(Y3 D p Z.g c Y.g 0 0).1=D.n p c (Z.n.e++ [c]) p 3:=by rw[Y3,m,o];simp only[DM.r,and_self,YE];rw[Za d,Za k,af,Xd (by rintro (h|h);exact h r;exact i h),af,Ep<|by omega]
 rw[e];have get:∀j:Nat,(D.n p c (Z.n.e++ [c]) p 3).L[j]? =D.L[j]?.map λs=>(⟨s.g,s.d,{s.n with e:=(if p=j then Z.n.e++ [c]else s.n.e),h:=(if c=j then(p:Int)else s.n.h)}⟩:Sl):=λj=>by
  simp only[DM.n,DM.o,DM.j,j9];cases D.L[j]? with
  |none=>simp|some s=>by_cases t:p=j<;>by_cases u:c=j<;>simp[t,u]
 refine⟨⟨λj sl a f l=>?_,rfl,?_,λq=>?_,λj _=>congrFun DM.v j,λj a f=>?_⟩,?_,λj v=>?_⟩;rw[get,a,not_or]at*;simp[Ne.symm l.1,Ne.symm l.2];show(List.modify _ _ _).length=_;simp[DM.j];rw[DM.n,vH];show Option.map _ D.C[q]? =_;congr 1;funext x;simp only[cq];grind;have:j<(List.modify _ _ _).length:=f;simp[DM.j]at this;omega;rw[get,d];simp[Ne.symm b,up]
 .unfold vw;rw[get];cases D.L[j]? with
  |none=>rfl|some s=>simp[Ne.symm v]
end
structure Mnt (D D':DM)(s:c8)(r:Nat):Prop where
 f:Gw D D' s.h (s.h-1) (eE s) λ_=>False
 b:TA D' s r (D.y s.h)
 d:∃sl,D'.L[r]? =some sl/\sl.n.h= -1
def Mnt.h {D a:DM}{K:Nat}{s:c8}{r:Nat}(h:Mnt D a s r)(w:WF D K){sl:Sl}(b:D.L[r]? =sl):sl.d=false:=by let⟨c,e⟩:=h.b.e;exact Qu w (k:=s.h) (by rw[e];exact List.mem_cons_self) b
def Mnt.e {D D':DM}{s:c8}{r:Nat}(h:Mnt D D' s r):∃sl,D'.L[r]? =some sl/\sl.d/\sl.n.h= -1/\D'.m r (D'.d r)=r:=by let⟨sl,a,d⟩:=h.d;let⟨g,e⟩:=h.b.e;let⟨f,b,c⟩:=h.b.d s r (by rw[e];exact List.mem_cons_self);rw[a]at b;cases b;exact⟨sl,a,c,d,YY a c⟩
mutual
def Ql :∀(s:c8) {D:DM} {K:Nat},WF D K->K0 s->K+M1 s<=1000-> ∃r:Nat,(X6 D s).2=((r:Int),((X6 D s).1.d r:Int))/\Mnt D (X6 D s).1 s r
 | .mk k t y a x c,D,K,w,A,M=>by
  have o:=wJ A;simp only[c8.k,c8.t,c8.x]at o;have l:=A;rw[K0] at l;simp only[M1]at M;have v:¬((k=1/\v5 t=false)\/(k=2/\D7 x=false)):=by obtain⟨b,d,_⟩| ⟨b,d,_⟩:=o;rintro (⟨_,f⟩| ⟨f,_⟩);rw[d]at f;cases f;omega;rintro (⟨f,_⟩| ⟨_,f⟩);omega;rw[d]at f;cases f
  let⟨r,g,F,C,H,E⟩:=Vu w (by omega) v;have S:t=(if k=1 then t else [])/\x=(if k=1 then []else x):=by obtain⟨b,_,f⟩| ⟨b,_,f⟩:=o;rw[f];simp[b];rw[f];simp[b]
  have u:Gw (z5 D k t x).1 (a.foldl (setA r g) (z5 D k t x).1) 0 0 a.length (λj=>j=r)/\(a.foldl (setA r g) (z5 D k t x).1).L[r]? =some ⟨g,true,{A2 k t x with d:=a}⟩:=by obtain h|h:=l.1;have N:a=[]:=h.2.2.2.2.1;subst N;exact⟨⟨λj s b _ _=>b,rfl,by simp,λq=>by simp[cq],λ_ _=>rfl,λj b d=>by simp at d;omega⟩,C⟩;exact Mi a [] (sl:=⟨g,true,A2 k t x⟩) C rfl h.1 rfl h.2.2.2.2.1 h.2.2.2.2.2.2.1 h.2.2.2.2.2.2.2.1
  let⟨I,P⟩:=u;have R:=ZP (i:=r) (g:=g) (a:=a) (w.V (q:=k) (t:=t) (x:=x) (by omega) (by rcases o with h|h;exact .inl h.1;exact .inr h.1)) (by omega);let⟨O,J,z,t3⟩:=mntC_ok c (p:=r) (sp:=⟨g,true,{A2 k t x with d:=a}⟩) R l.2 (by omega) P rfl (λh=>by obtain q|q:=l.1;exact absurd q.2.2.2.2.2 h;exact q.1) rfl;have G:(X6 D<|.mk k t y a x c)=(mntC r g (a.foldl (setA r g) (z5 D k t x).1) c,(r:Int),(g:Int)):=by simp only[X6,F]
  rw[G];simp only at*;have un:∀(j:Nat) sl,D.L[j]? =some sl->sl.d->j≠r:=λj sl b d e=>by have:=Qu w (k:=1) (j:=j) (by rw[E,e];simp) b;rw[this]at d;cases d
  have m:Gw D (a.foldl (setA r g) (z5 D k t x).1) 1 0 a.length (λ_=>False):=by simpa using H.b I (ex2:=λ_=>False) λj sl b d _=>⟨id,un j sl b d⟩
  have n:Gw D (mntC r g (a.foldl (setA r g) (z5 D k t x).1) c) (1+c8.d c) (c8.d c) (a.length+attNs c) (λ_=>False):=by simpa using m.b J (ex2:=λ_=>False) λj sl b d _=>⟨id,un j sl b d⟩
  have B:D.y (1+c8.d c)=r::(a.foldl (setA r g) (z5 D k t x).1).y (c8.d c):=by rw[m.y,E];rfl
  rw[show 1+c8.d c=(c8.mk k t y a x c).h by simp only[c8.h];omega]at n B;refine⟨r,by rw[YZ z],by simpa only[c8.h,Nat.add_sub_cancel,eE]using n,?_,⟨_,z,rfl⟩⟩;rw[TA];exact⟨O,_,by rw[vw,z];rfl,B,t3⟩
def mntC_ok :∀(l:List c8) {D:DM} {K p:Nat} {sp:Sl},WF D K->AllAs l->K+mcosts l<=1000->D.L[p]? =sp->sp.d->(l≠ []->sp.n.j=1)->sp.n.h= -1-> ∃k,Gw D (mntC p sp.g D l) (c8.d l) (c8.d l) (attNs l) (λj=>j=p)/\(mntC p sp.g D l).L[p]? =some ⟨sp.g,true,{sp.n with e:=sp.n.e++k}⟩/\TAs (mntC p sp.g D l) l k (D.y<|c8.d l)
 | [],D,K,p,sp,w,d,F,f,up,v,B=>by refine⟨[],⟨λj s a _ _=>by simpa [mntC]using a,by simp[mntC,c8.d],by simp[mntC,c8.d],λq=>by simp[mntC,c8.d,attNs,cq],λ_ _=>by simp[mntC],λj a b=>by simp[mntC]at b;omega⟩,?_,?_⟩;rw[YD];simp only[mntC,f];cases sp;simp at up;subst up;rfl;rw[TAs];exact⟨rfl,WP Eg⟩
 |s::l,D,K,p,sp,w,d,F,f,up,v,B=>by
  rw[AllAs] at d;simp only[mcosts]at F;let⟨r,N,m1⟩:=Ql s w d.1 (by omega);let⟨U,G,R,M,_⟩:=m1.e;have z:p≠r:=λe=>by have:=m1.h w (sl:=sp) (by rw[<-e];exact f);rw[up]at this;cases this
  let⟨C,H,J⟩:=VK (m1.f.e p sp f up id) up (v<|by simp) B G R M z;rw[<-(YZ G)]at C H J;have T:=(WF.Q s w d.1 (by omega)).W (i:=p) (g:=sp.g) (j:=r) (m:=((X6 D s).1.d r:Int)) (x:=0) (y:=0) (by omega);have O:mntC p sp.g D (s::l)=mntC p sp.g (Y3 (X6 D s).1 p sp.g r ((X6 D s).1.d r:Int) 0 0).1 l:=by simp only[mntC,N]
  rw[O];let⟨k,E,Q,t3⟩:=mntC_ok l (p:=p) (sp:=⟨sp.g,true,{sp.n with e:=sp.n.e++ [r]}⟩) T d.2 (by omega) H rfl (λ_=>v<|by simp) B;have un:∀(j:Nat) sl,D.L[j]? =some sl->sl.d->j≠r:=λj sl a b e=>by subst e;have:=m1.h w a;rw[this]at b;cases b
  have c:Gw D (Y3 (X6 D s).1 p sp.g r ((X6 D s).1.d r:Int) 0 0).1 s.h s.h (eE s) (λj=>j=p):=by
   have:=m1.f.b C (ex2:=λj=>j=p) λj sl a b o=>⟨id,by rintro (h|h);exact o h;exact un j sl a b h⟩
   rwa[show s.h-1+1=s.h by have:=G8 s;omega]at this
  have I:∀j∈D.y s.h,j≠p:=λj u e=>by subst e;have:=Qu w u f;rw[up]at this;cases this
  refine⟨r::k,c.b E (ex2:=λj=>j=p) λj sl a b o=>⟨o,o⟩,by rw[Q];simp,?_⟩;rw[TAs];refine⟨r,k,D.y s.h,_,rfl,?_,E.z (m1.b.b s λj u=>J j<|I j u) I,t3⟩;show D.y (s.h+c8.d l)=_;exact c.y
end
mutual
def AM :∀s:c8,(R0 false s).h=s.h/\(R0 false s).j=s.j/\R0 false (R0 false s)=R0 false s/\(K0 s->K0 (R0 false s))
 | .mk k t y a x c=>by let⟨b,d,e,f,g,i⟩:=strips_size c;simp only[R0,c8.h,c8.j,b,d,e];refine⟨trivial,trivial,rfl,λh=>?_⟩;rw[K0] at h⊢;refine⟨?_,f h.2⟩;obtain q|q:=h.1;have j:c=[]:=q.2.2.2.2.2;exact .inl ⟨q.1,q.2.1,q.2.2.1,rfl,q.2.2.2.2.1,by rw[j];rfl⟩;exact .inr ⟨q.1,q.2.1,.inl rfl,q.2.2.2.1,q.2.2.2.2.1,by show(strips false c).length<=16;rw[i];exact q.2.2.2.2.2.1,q.2.2.2.2.2.2.1,q.2.2.2.2.2.2.2.1,by show iL ((strips false c).map c8.y);rw[g];rw[iL,List.pairwise_map];exact List.pairwise_of_forall λ_ _ h=>absurd rfl h⟩
def strips_size :∀l:List c8,c8.d (strips false l)=c8.d l/\c8.e (strips false l)=c8.e l/\strips false (strips false l)=strips false l/\(AllAs l->AllAs (strips false l))/\(strips false l).map c8.y=l.map (λ_=>[])/\(strips false l).length=l.length
 | []=>⟨rfl,rfl,rfl,id,rfl,rfl⟩
 | .mk k t y a x c::l=>by let⟨b,d,e,f⟩:=AM<|.mk k t y a x c;let⟨g,i,j,m,n,o⟩:=strips_size l;simp only[strips,c8.d,c8.e,b,d,e,g,i,j,XU,n,XD,o];refine⟨trivial,trivial,trivial,λh=>?_,rfl,trivial⟩;rw[AllAs] at h⊢;exact⟨f h.1,m h.2⟩
end
def HG {s:c8}(h:A9 s):A9 (R0 false s):=by let⟨a,b,_,c⟩:=AM s;exact⟨c h.1,by rw[a];exact h.2.1,by rw[b];exact h.2.2⟩
section
variable {D D1 D2 D':DM}{K r i j k a:Nat}{s n m:c8}{l:Ah}{sl:Sl}
end
open Go Go.Xe Go.Sx
def WF.drp {D:DM}{K:Nat}{i g:Int}(w:WF D K)(a:K+2<=1000):WF (drpF D i g).1 (K+2):=by rw[drpF];split;exact w.q (by omega) a;split;exact(w.fre (i:=i) (g:=g)<|by omega).q (by omega) a;exact(w.rem (i:=i) (g:=g)<|by omega).fre (by omega)
def WF.y :∀ {l:List (Int×Int)} {D:DM} {K:Nat},WF D K->K+2*l.length<=1000->WF (Go.D.drpL D l) (K+2*l.length)
 | [],D,K,w,_=>w|x::l,D,K,w,h=>by simp only[XD]at h;have:=WF.y (l:=l) (w.drp (i:=x.1) (g:=x.2)<|by omega) (by omega);simp only[XD];rwa[show K+2*(l.length+1)=K+2+2*l.length by omega]
def DE :DM:=⟨[],[],[0,0,0,0,0,0,0,0]⟩
def wfE :WF DE 0:=⟨⟨Xh _,by omega⟩,λs h=>by simp[DE]at h,λi s h=>by simp[DE]at h,λi s h=>by simp[DE]at h,⟨λ_=>0,λ_=>Xh _,λi s h=>by simp[DE]at h⟩,λi s h=>by simp[DE]at h,⟨0,0,0,0,0,0,0,rfl,rfl,by omega,by simp⟩,λi s h=>by simp[DE]at h,⟨List.nodup_nil,λi h=>by simp[DE]at h⟩⟩
def rlE {N:a8}{a:Ak}(h:∃M:List RN,N=M.map RN.d)(b:a=[0,0,0,0,0,0,0,0]):RlC DE [] N 0 0 a:=by let⟨M,e⟩:=h;exact⟨⟨[],M,rfl,e,rfl,λi s h=>by simp[DE]at h,λi j c d h=>by simp at h,rfl,List.nodup_nil,λi s h=>by simp[DE]at h,rfl⟩,b⟩
def yesB {d:Ar}{b:Bool}(h:GE d [.b b]):b:=by have h: [Dat.b b]=[.b true]:=h;simpa using h
open Go Go.Xe Go.Sx
def dv (a b:a8)(c d f g h:Int)(j k:a8)(m o p q r s t u:Int)(v:a8)(w x y z A B C D F G:Int)(H I J K:a8)(L M N O P Q R S T U V W X Y Z x47 x48 x49:Int)(x50 x51:a8):Prop:=
 Nq (ln a)<|Nq (ln b)<|Nd (Cd (.i c::.i d::.i f::.i g::.i h::.l j::.l k::J8 m o p q r s t u (.l a::JD v w x y z A B C D F G H I))<|.i 1::.l J::.l K::J8 L M N O P Q R S (.l a::JD b T U V W X Y Z x47 x48 x49 x50 x51)) True
def dp (a b:a8)(c d f g h:Int)(j k:a8)(m o p q r s t u:Int)(v:a8)(w x y z A B C D F G:Int)(H I J K:a8)(L M N O P Q R S T U V W X Y Z x47 x48 x49:Int)(x50 x51:a8):Prop:=
 Nq (ln a)<|Nq (ln b)<|Nd (Cd (.i c::.i d::.i f::.i g::.i h::.l j::.l k::J8 m o p q r s t u (.l a::JD v w x y z A B C D F G H I))<|.i 0::.l J::.l K::J8 L M N O P Q R S (.l a::JD b T U V W X Y Z x47 x48 x49 x50 x51)) True
def oe (x0 x1 c:Int)(a:a8)(x4:Int)(b:a8)(d f g h j:Int)(k m:a8)(o p q r s t u v:Int)(w:a8)(x y z A B C D F G H:Int)(I J K L:a8)(M N O P Q R S T x44 U V W X Y Z x51 x52 x53 x54:Int)(x55 x56:a8):Prop:=
 Ca (.i d::.i f::.i g::.i h::.i j::.l k::.l m::J8 o p q r s t u v (.l a::JD w x y z A B C D F G H I J)) λE=>(x0=x1->((c=0->Ni (ln a) (Nd (ln a+1<67108865)<|Nr (ln a)<|(x4=c->Nq (ln a+1) (Nq (ln b)<|Nd (Cd E<|.i 1::.l K::.l L::J8 M N O P Q R S T (.l (a++b9 2 1 [.i x44,.i x1])::JD b U V W X Y Z x51 x52 x53 x54 x55 x56)) True))/\(¬x4=c->Nq (ln a+1) (Nq (ln b)<|Nd (Cd E<|.i 0::.l K::.l L::J8 M N O P Q R S T (.l (a++b9 2 1 [.i x44,.i x1])::JD b U V W X Y Z x51 x52 x53 x54 x55 x56)) True))))/\(¬c=0->((x4=c->dv a b d f g h j k m o p q r s t u v w x y z A B C D F G H I J K L M N O P Q R S T U V W X Y Z x51 x52 x53 x54 x55 x56)/\(¬x4=c->dp a b d f g h j k m o p q r s t u v w x y z A B C D F G H I J K L M N O P Q R S T U V W X Y Z x51 x52 x53 x54 x55 x56)))))/\(¬x0=x1->dp a b d f g h j k m o p q r s t u v w x y z A B C D F G H I J K L M N O P Q R S T U V W X Y Z x51 x52 x53 x54 x55 x56)
def nu (c:Int)(d f:a8)(g h j k m o p q:Int)(a:a8)(r t u v w x y z A B:Int)(C D x54:a8)(x55 x56 x57 x58:Int):Prop:=
 ∀F,oL [.i c] [.s F]->Cg lE J7 (.l d::.l f::J8 g h j k m o p q [.i 2,.s F]) (λR=>∀G H I J K L M N O P b x23 x24,R (.l G::.l H::J10 I J K L M N O P b x23 [.i x24])->Nq (ln a) (Cg rL dN (.i 2::.s []::.s []::.l []::.s F::.l []::JD a r t u v w x y z A B C D) λR=>∀Q x39 x40 S T U V W X Y Z x49 x50 x51 x52 x53,R (.i Q::.i x39::.i x40::JD S T U V W X Y Z x49 x50 x51 x52 x53)->((Q=b->oe x39 x23 x24 x54 x40 S x55 x56 x57 x58 c d f g h j k m o p q a r t u v w x y z A B C D G H I J K L M N O P b T U V W X Y Z x49 x50 x51 x52 x53)/\(¬Q=b->dp x54 S x55 x56 x57 x58 c d f g h j k m o p q a r t u v w x y z A B C D G H I J K L M N O P T U V W X Y Z x49 x50 x51 x52 x53))))
def li (a b:Int)(d f:a8)(g h j k m o p q:Int)(c:a8)(r t u v w x y z A B:Int)(C D G:a8)(H I J:Int):Prop:=
 Cg Fh Fi [.i a] λR=>∀K,R [.s K]->(((b:Int).tmod 16=3->Nd (kK [.i a]) (nu a d f g h j k m o p q c r t u v w x y z A B C D G b H I J))/\(¬(b:Int).tmod 16=3->Cg lE J7 (.l d::.l f::J8 g h j k m o p q [.i 1,.s K]) (λR=>∀L M N O P Q S T U V F x24 x25,R (.l L::.l M::J10 N O P Q S T U V F x24 [.i x25])->Nq (ln c) (Cg rL dN (.i 1::.s K::.s []::.l []::.s []::.l []::JD c r t u v w x y z A B C D) λR=>∀W x40 x41 X Y Z x45 x46 x47 x48 x49 x50 x51 x52 x53 x54,R (.i W::.i x40::.i x41::JD X Y Z x45 x46 x47 x48 x49 x50 x51 x52 x53 x54)->((W=F->oe x40 x24 x25 G x41 X b H I J a d f g h j k m o p q c r t u v w x y z A B C D L M N O P Q S T U V F Y Z x45 x46 x47 x48 x49 x50 x51 x52 x53 x54)/\(¬W=F->dp G X b H I J a d f g h j k m o p q c r t u v w x y z A B C D L M N O P Q S T U V Y Z x45 x46 x47 x48 x49 x50 x51 x52 x53 x54))))))
def ip (F:Int)(a:a8)(x2 x3 x4 x5 G H I J K L M N O P:Int)(Q S T U:a8)(V W X Y Z x39 x40 x41:Int)(x53:a8)(x54 x55 x56 x57 x58 x59:Int):Prop:=
 Ca (JD a G H I J K L M N O P Q S) λE=>((F:Int).tmod 16<9->Nq (ln a) (Cg xQ bW (J6 x2 x3 x4 x5 0 0 E) λR=>∀b c d f g h j k m o p q r s,R (.i b::JD c d f g h j k m o p q r s)->Cg zJ jX (.l T::.l U::J10 V W X Y Z x39 x40 x41 x2 x3 [.i x4,.i x5,.i 0,.i 0]) (λR=>∀t u v w x y z A B C D,R (.l t::.l u::J8 v w x y z A B C [.i D])->((b=D->dv x53 c F x54 x55 x56 x57 T U V W X Y Z x39 x40 x41 a G H I J K L M N O P Q S t u v w x y z A B C d f g h j k m o p q r s)/\(¬b=D->dp x53 c F x54 x55 x56 x57 T U V W X Y Z x39 x40 x41 a G H I J K L M N O P Q S t u v w x y z A B C d f g h j k m o p q r s)))))/\(¬(F:Int).tmod 16<9->Nq (ln a) (Cg xQ bW (J6 x2 x3 x4 x5 x58 x59 E) λR=>∀b c d f g h j k m o p q r s,R (.i b::JD c d f g h j k m o p q r s)->Cg zJ jX (.l T::.l U::J10 V W X Y Z x39 x40 x41 x2 x3 [.i x4,.i x5,.i x58,.i x59]) (λR=>∀t u v w x y z A B C D,R (.l t::.l u::J8 v w x y z A B C [.i D])->((b=D->dv x53 c F x54 x55 x56 x57 T U V W X Y Z x39 x40 x41 a G H I J K L M N O P Q S t u v w x y z A B C d f g h j k m o p q r s)/\(¬b=D->dp x53 c F x54 x55 x56 x57 T U V W X Y Z x39 x40 x41 a G H I J K L M N O P Q S t u v w x y z A B C d f g h j k m o p q r s)))))
def nq (a:a8)(x1 x2 x3 x4 b c d f g h j k m o:Int)(p q r s:a8)(t u v w x y z A:Int)(x52:a8)(x53 x54 x55 x56 x57:Int):Prop:=
 Nq (ln a)<|Cg Jm fU (.i x1::.i x2::.i x3::.i x4::JD a b c d f g h j k m o p q) λR=>∀B C D F G H I J K L M N O P,R (.i B::JD C D F G H I J K L M N O P)->Cg JM sK (.l r::.l s::J10 t u v w x y z A x1 x2 [.i x3,.i x4]) (λR=>∀Q S T U V W X Y Z x50 x51,R (.l Q::.l S::J8 T U V W X Y Z x50 [.i x51])->((B=x51->dv x52 C x53 x54 x55 x56 x57 r s t u v w x y z A a b c d f g h j k m o p q Q S T U V W X Y Z x50 D F G H I J K L M N O P)/\(¬B=x51->dp x52 C x53 x54 x55 x56 x57 r s t u v w x y z A a b c d f g h j k m o p q Q S T U V W X Y Z x50 D F G H I J K L M N O P)))
def vcDo :Prop:=
 ∀a I J H c f g h j k m o p q r G d t u v w x y z A B C D F,Pq (.i a::.i I::.i J::.i H::.i c::.l f::.l g::J8 h j k m o p q r (.l G::JD d t u v w x y z A B C D F))->Ca (JD d t u v w x y z A B C D F) λE=>Nq (ln G) (Nq (ln d)<|Cg yV dR (.i I::.l f::.l g::J8 h j k m o p q r (.l G::E)) λR=>∀x29 x30,R [.i x29,.i x30]->Nq (ln G) (Nq (ln d)<|Cg yV dR (.i J::.l f::.l g::J8 h j k m o p q r (.l G::E)) λR=>∀x31 x32,R [.i x31,.i x32]->Nq (ln G) (Nq (ln d)<|Cg yV dR (.i H::.l f::.l g::J8 h j k m o p q r (.l G::E)) λR=>∀x33 x34,R [.i x33,.i x34]->(((a:Int).tmod 16=0->li c a f g h j k m o p q r d t u v w x y z A B C D F G I J H)/\(¬(a:Int).tmod 16=0->(((a:Int).tmod 16=1->li c a f g h j k m o p q r d t u v w x y z A B C D F G I J H)/\(¬(a:Int).tmod 16=1->(((a:Int).tmod 16=2->li c a f g h j k m o p q r d t u v w x y z A B C D F G I J H)/\(¬(a:Int).tmod 16=2->(((a:Int).tmod 16=3->Cg Fh Fi [.i c] (λR=>∀x35,R [.s x35]->Nd ((a:Int).tmod 16=3) (Nd (kK [.i c])<|nu c f g h j k m o p q r d t u v w x y z A B C D F G a I J H)))/\(¬(a:Int).tmod 16=3->(((a:Int).tmod 16=4->Cg rX rY [.i c] (λR=>∀x35,R [.s x35]->Cg kK oL [.i (IntKind.wrap .u8<|(c:Int).tdiv 8)] (λR=>∀x36,R [.s x36]->Nq (ln d) (Cg wX dO (.i x29::.i x30::.s x35::.b false::.s x36::.i 1::E) λR=>∀K L M N O P Q S T U V W X x50,R (.i K::JD L M N O P Q S T U V W X x50)->Cg rX rY [.i c] (λR=>∀x51,R [.s x51]->Cg kK oL [.i (IntKind.wrap .u8<|(c:Int).tdiv 8)] (λR=>∀x52,R [.s x52]->Cg pX bB (.l f::.l g::J10 h j k m o p q r x29 x30 [.s x51,.b false,.s x52]) (λR=>∀Y Z x55 x56 x57 x58 x59 x60 x61 x62 x63,R (.l Y::.l Z::J8 x55 x56 x57 x58 x59 x60 x61 x62 [.i x63])->((K=x63->dv G L a I J H c f g h j k m o p q r d t u v w x y z A B C D F Y Z x55 x56 x57 x58 x59 x60 x61 x62 M N O P Q S T U V W X x50)/\(¬K=x63->dp G L a I J H c f g h j k m o p q r d t u v w x y z A B C D F Y Z x55 x56 x57 x58 x59 x60 x61 x62 M N O P Q S T U V W X x50)))))))))/\(¬(a:Int).tmod 16=4->(((a:Int).tmod 16=5->Cg rX rY [.i c] (λR=>∀x35,R [.s x35]->Nq (ln d) (Cg wX dO (.i x29::.i x30::.s x35::.b true::.s []::.i 17::E) λR=>∀x36 K L M N O P Q S T U V W X,R (.i x36::JD K L M N O P Q S T U V W X)->Cg rX rY [.i c] (λR=>∀x50,R [.s x50]->Cg pX bB (.l f::.l g::J10 h j k m o p q r x29 x30 [.s x50,.b true,.s []]) (λR=>∀x51 x52 Y Z x55 x56 x57 x58 x59 x60 x61,R (.l x51::.l x52::J8 Y Z x55 x56 x57 x58 x59 x60 [.i x61])->((x36=x61->dv G K a I J H c f g h j k m o p q r d t u v w x y z A B C D F x51 x52 Y Z x55 x56 x57 x58 x59 x60 L M N O P Q S T U V W X)/\(¬x36=x61->dp G K a I J H c f g h j k m o p q r d t u v w x y z A B C D F x51 x52 Y Z x55 x56 x57 x58 x59 x60 L M N O P Q S T U V W X)))))))/\(¬(a:Int).tmod 16=5->(((a:Int).tmod 16=6->Cg kK oL [.i c] (λR=>∀x35,R [.s x35]->Nq (ln d) (Cg Ks AQ (.i x29::.i x30::.s x35::E) λR=>∀x36 K L M N O P Q S T U V W X,R (.i x36::JD K L M N O P Q S T U V W X)->Cg kK oL [.i c] (λR=>∀x50,R [.s x50]->Cg EM qH (.l f::.l g::J10 h j k m o p q r x29 x30 [.s x50]) (λR=>∀x51 x52 Y Z x55 x56 x57 x58 x59 x60 x61,R (.l x51::.l x52::J8 Y Z x55 x56 x57 x58 x59 x60 [.i x61])->((x36=x61->dv G K a I J H c f g h j k m o p q r d t u v w x y z A B C D F x51 x52 Y Z x55 x56 x57 x58 x59 x60 L M N O P Q S T U V W X)/\(¬x36=x61->dp G K a I J H c f g h j k m o p q r d t u v w x y z A B C D F x51 x52 Y Z x55 x56 x57 x58 x59 x60 L M N O P Q S T U V W X)))))))/\(¬(a:Int).tmod 16=6->(((a:Int).tmod 16=7->ip a d x29 x30 x31 x32 t u v w x y z A B C D F f g h j k m o p q r G I J H c x33 x34)/\(¬(a:Int).tmod 16=7->(((a:Int).tmod 16=8->ip a d x29 x30 x31 x32 t u v w x y z A B C D F f g h j k m o p q r G I J H c x33 x34)/\(¬(a:Int).tmod 16=8->(((a:Int).tmod 16=9->ip a d x29 x30 x31 x32 t u v w x y z A B C D F f g h j k m o p q r G I J H c x33 x34)/\(¬(a:Int).tmod 16=9->(((a:Int).tmod 16=10->ip a d x29 x30 x31 x32 t u v w x y z A B C D F f g h j k m o p q r G I J H c x33 x34)/\(¬(a:Int).tmod 16=10->(((a:Int).tmod 16=11->Nq (ln d) (Cg EA zF (.i x29::.i x30::E) λR=>∀x35 x36 K L M N O P Q S T U V W,R (.i x35::JD x36 K L M N O P Q S T U V W)->Cg vS qG (.l f::.l g::J10 h j k m o p q r x29 x30 []) (λR=>∀X x50 x51 x52 Y Z x55 x56 x57 x58 x59,R (.l X::.l x50::J8 x51 x52 Y Z x55 x56 x57 x58 [.i x59])->((x35=x59->dv G x36 a I J H c f g h j k m o p q r d t u v w x y z A B C D F X x50 x51 x52 Y Z x55 x56 x57 x58 K L M N O P Q S T U V W)/\(¬x35=x59->dp G x36 a I J H c f g h j k m o p q r d t u v w x y z A B C D F X x50 x51 x52 Y Z x55 x56 x57 x58 K L M N O P Q S T U V W)))))/\(¬(a:Int).tmod 16=11->(((a:Int).tmod 16=12->nq d x29 x30 x31 x32 t u v w x y z A B C D F f g h j k m o p q r G a I J H c)/\(¬(a:Int).tmod 16=12->(((a:Int).tmod 16=13->nq d x29 x30 x31 x32 t u v w x y z A B C D F f g h j k m o p q r G a I J H c)/\(¬(a:Int).tmod 16=13->(((a:Int).tmod 16=14->Nd (I64 c) (Nd (I64<|c+(-100))<|Nd (I64 H)<|Nq (ln d)<|Cg JB yW (.i x29::.i x30::.i (c+(-100))::.i H::.b (decide<|(c:Int).tmod 2=1)::E) λR=>∀x35 x36 K L M N O P Q S T U V W,R (.i x35::JD x36 K L M N O P Q S T U V W)->Nd (I64 c) (Nd (I64<|c+(-100))<|Nd (I64 H)<|Cg EJ qD (.l f::.l g::J10 h j k m o p q r x29 x30 [.i (c+(-100)),.i H,.b<|decide<|(c:Int).tmod 2=1]) λR=>∀X x50 x51 x52 Y Z x55 x56 x57 x58 x59,R (.l X::.l x50::J8 x51 x52 Y Z x55 x56 x57 x58 [.i x59])->((x35=x59->dv G x36 a I J H c f g h j k m o p q r d t u v w x y z A B C D F X x50 x51 x52 Y Z x55 x56 x57 x58 K L M N O P Q S T U V W)/\(¬x35=x59->dp G x36 a I J H c f g h j k m o p q r d t u v w x y z A B C D F X x50 x51 x52 Y Z x55 x56 x57 x58 K L M N O P Q S T U V W)))))/\(¬(a:Int).tmod 16=14->Nq (ln d) (Cg DK rO (.i x29::.i x30::E) λR=>∀x35 x36 K L M N O P Q S T U V W,R (.i x35::JD x36 K L M N O P Q S T U V W)->Cg EB qA (.l f::.l g::J10 h j k m o p q r x29 x30 []) (λR=>∀X x50 x51 x52 Y Z x55 x56 x57 x58 x59,R (.l X::.l x50::J8 x51 x52 Y Z x55 x56 x57 x58 [.i x59])->((x35=x59->dv G x36 a I J H c f g h j k m o p q r d t u v w x y z A B C D F X x50 x51 x52 Y Z x55 x56 x57 x58 K L M N O P Q S T U V W)/\(¬x35=x59->dp G x36 a I J H c f g h j k m o p q r d t u v w x y z A B C D F X x50 x51 x52 Y Z x55 x56 x57 x58 K L M N O P Q S T U V W)))))))))))))))))))))))))))))))))))))
def vcDo_eq :kq cDo Um (RD 0) (QF 0) 75=vcDo:=by kernel_rfl
open Go Go.Xe Go.Sx
def xh a b c d f g h j k m o p q r s t u v w x y z A B C:=
 Nd (dR (.i a::.l b::.l c::J8 d f g h j k m o (.l p::JD q r s t u v w x y z A B C)) [.i 0,.i 0]) True
def xj :Prop:=
 ∀b c d f g h j k m o p a q r s t u v w x y z A B C,yV (.i b::.l c::.l d::J8 f g h j k m o p (.l a::JD q r s t u v w x y z A B C))->Ca (.i b::.l c::.l d::J8 f g h j k m o p (.l a::JD q r s t u v w x y z A B C)) λV=>((b=250->xh b c d f g h j k m o p a q r s t u v w x y z A B C)/\(¬b=250->((ln a=0->xh b c d f g h j k m o p a q r s t u v w x y z A B C)/\(¬ln a=0->Nd (I64 b) (Nd (¬ln a=0)<|Nb ((b:Int).tmod<|ln a) (ln a)<|Nd ((b:Int).tmod (ln a)<ln a)<|(b=251->Nd (dR V [.i (cI a ((b:Int).tmod<|ln a) 0),.i<|IntKind.wrap .u32<|cI a ((b:Int).tmod<|ln a) 1+1]) True)/\(¬b=251->((b=252->Nd (dR V [.i (IntKind.wrap .u32<|cI a ((b:Int).tmod<|ln a) 0+1),.i<|cI a ((b:Int).tmod<|ln a) 1]) True)/\(¬b=252->((b=253->Nd (dR V [.i 4294967295,.i 1]) True)/\(¬b=253->Nd (dR V [.i (cI a ((b:Int).tmod<|ln a) 0),.i<|cI a ((b:Int).tmod<|ln a) 1]) True))))))))))
def xg :kr cPck iD (sU 0) (sE 0) 121=xj:=by kernel_rfl
def th :Prop:=
 ∀a,Fh [.i a]->Nb ((a:Int).tmod 5) 5 (Nd ((a:Int).tmod 5<5)<|Nd (Fi [.i a] [.s (cS (b9 1 5 [.s ([97]:Ae),.s ([98]:Ae),.s ([108,105]:Ae),.s ([65]:Ae),.s []]) ((a:Int).tmod 5) 0)]) True)
def tf :kq cTag iD (sU 0) (sE 0) 122=th:=by kernel_rfl
def xw :Prop:=
 ∀a,rX [.i a]->Nb ((a:Int).tmod 5) 5 (Nd ((a:Int).tmod 5<5)<|Nd (rY [.i a] [.s (cS (b9 1 5 [.s ([99,108,97,115,115]:Ae),.s ([105,100]:Ae),.s ([120]:Ae),.s ([121]:Ae),.s ([90]:Ae)]) ((a:Int).tmod 5) 0)]) True)
def xu :kq cNms iD (sU 0) (sE 0) 124=xw:=by kernel_rfl
def sa :Prop:=
 ∀a,kK [.i a]->Nb ((a:Int).tmod 4) 4 (Nd ((a:Int).tmod 4<4)<|Nd (oL [.i a] [.s (cS (b9 1 4 [.s [],.s ([104,105]:Ae),.s ([126]:Ae),.s ([0]:Ae)]) ((a:Int).tmod 4) 0)]) True)
def ry :kq cTxt iD (sU 0) (sE 0) 123=sa:=by kernel_rfl
def fq a b c d f g h j k m o p q r s t u v w x y z A B C D:=
 Nd (fO (.l a::.l b::.l c::.l d::J8 f g h j k m o p (.l q::JD r s t u v w x y z A B C D)) [.i 0]) True
def yz :Prop:=
 ∀a c d f g h j k m o p q r s t u v w x y z A B C D F,dP (.l a::.l c::.l d::.l f::J8 g h j k m o p q (.l r::JD s t u v w x y z A B C D F))->Ca [.l a,.l c,.l d] λV=>((ln a=ln c->((ln a=ln a->Nd (rP V [.i 0]) (∀b,rP V [.i b]->Ca (xL V [.i (b+1)]<xL V [.i b]) λX=>Ca (cI c b 0) λW=>((b<ln a->Nb b (ln a) (Nb b (ln c)<|(cI c b 0<0->((cI a b 0=0->((cI a b 1=0->Nd (I64<|b+1) (Nd (rP V [.i (b+1)])<|Nd X True))/\(¬cI a b 1=0->fq a c d f g h j k m o p q r s t u v w x y z A B C D F)))/\(¬cI a b 0=0->fq a c d f g h j k m o p q r s t u v w x y z A B C D F)))/\(¬cI c b 0<0->Nb W (ln d) ((cI a b 0=IntKind.wrap .u32 W->((cI a b 1=cI d W 0->Nd (I64<|b+1) (Nd (rP V [.i (b+1)])<|Nd X True))/\(¬cI a b 1=cI d W 0->fq a c d f g h j k m o p q r s t u v w x y z A B C D F)))/\(¬cI a b 0=IntKind.wrap .u32 W->fq a c d f g h j k m o p q r s t u v w x y z A B C D F)))))/\(¬b<ln a->Nd (fO (.l a::.l c::.l d::.l f::J8 g h j k m o p q (.l r::JD s t u v w x y z A B C D F)) [.i 1]) True))))/\(¬ln a=ln a->fq a c d f g h j k m o p q r s t u v w x y z A B C D F)))/\(¬ln a=ln c->fq a c d f g h j k m o p q r s t u v w x y z A B C D F))
def yy :kr cHnd iD (sU 0) (sE 0) 81=yz:=by kernel_rfl
def vcAsm :Prop:=
 ∀a b,nH [.l a,.l b]->Ca [.l a,.l b] λV=>((ln a=ln b->Nd (Dp V [.i 0]) (∀c,Dp V [.i c]->((c<ln a->Nb c (ln a) (Nb c (ln b)<|(cS a c 0=cS b c 0->((cS a c 1=cS b c 1->Nd (I64<|c+1) (Nd (Dp V [.i (c+1)])<|Nd (OO V [.i (c+1)]<OO V [.i c]) True))/\(¬cS a c 1=cS b c 1->Nd (dM V [.i 0]) True)))/\(¬cS a c 0=cS b c 0->Nd (dM V [.i 0]) True)))/\(¬c<ln a->Nd (dM V [.i 1]) True))))/\(¬ln a=ln b->Nd (dM V [.i 0]) True))
def vcAsm_eq :kq cAsm iD (sU 0) (sE 0) 80=vcAsm:=by kernel_rfl
open Go Go.Xe Go.Sx
def wk :Prop:=
 ∀b f g h j k m o p q c d,U2 (.l b::.l f::J10 g h j k m o p q c d [])->Ca (.l b::.l f::J10 g h j k m o p q c d []) λX=>Ca [.l b,.i c,.i d] λV=>Nd (oE V [.i 0]) (∀a,oE V [.i a]->Ca (oE V [.i (a+1)]) λY=>Ca (pW V [.i (a+1)]<pW V [.i a]) λW=>((a<ln b->((IntKind.wrap .u32 a=c->Nb a (ln b) ((cB b a 1->Nb a (ln b) ((cI b a 0=d->Nd (R4 X [.i a]) True)/\(¬cI b a 0=d->Nd (I64<|a+1) (Nd Y<|Nd W True))))/\(¬cB b a 1->Nd (I64<|a+1) (Nd Y<|Nd W True))))/\(¬IntKind.wrap .u32 a=c->Nd (I64<|a+1) (Nd Y<|Nd W True))))/\(¬a<ln b->Nd (R4 X [.i (-1)]) True)))
def wj :kq rc aS (oK 0) (dS 0) 30=wk:=by kernel_rfl
def wd :Prop:=
 ∀a d g h j k m o p q,R5 (.l a::.l d::J8 g h j k m o p q [])->Nd (ln d<67108865) (Nq (ln d)<|Nd (Ez (.l a::.l d::J8 g h j k m o p q [])<|.i 0::.l []::.l d::J8 g h j k m o p q [])<|∀c f r t u v w x y z A,Ez (.l a::.l d::J8 g h j k m o p q []) (.i c::.l f::.l r::J8 t u v w x y z A [])->((c<ln a->Nb c (ln a) (Nd (ln (cL a c 4)<67108865)<|Nd (ln (cL a c 10)<67108865)<|Nq (ln<|cL a c 4)<|Nq (ln<|cL a c 10)<|Ni (ln f)<|Nd (ln f+1<67108865)<|Nr (ln f)<|Nd (I64<|c+1)<|Nq (ln f+1)<|Nd (Ez (.l a::.l d::J8 g h j k m o p q [])<|.i (c+1)::.l (f++b9 11 1 [.i (cI a c 0),.b<|cB a c 1,.i<|cI a c 2,.s<|cS a c 3,.l<|cL a c 4,.s<|cS a c 5,.i<|cI a c 6,.i<|cI a c 7,.b<|cB a c 8,.i<|cI a c 9,.l<|cL a c 10])::.l r::J8 t u v w x y z A [])<|
 Nd (QO (.l a::.l d::J8 g h j k m o p q []) (.i (c+1)::.l (f++b9 11 1 [.i (cI a c 0),.b<|cB a c 1,.i<|cI a c 2,.s<|cS a c 3,.l<|cL a c 4,.s<|cS a c 5,.i<|cI a c 6,.i<|cI a c 7,.b<|cB a c 8,.i<|cI a c 9,.l<|cL a c 10])::.l r::J8 t u v w x y z A [])<QO (.l a::.l d::J8 g h j k m o p q []) (.i c::.l f::.l r::J8 t u v w x y z A [])) True))/\(¬c<ln a->Nq (ln f) (Nd (aJ (.l a::.l d::J8 g h j k m o p q [])<|.l f::.l r::J8 t u v w x y z A []) True))))
def wc :kq cRcp aS (oK 0) (dS 0) 132=wd:=by kernel_rfl
def uv :Prop:=
 ∀a c,zS [.l a,.i c]->Ca [.l a,.i c] λV=>Nd (sN V [.i 0]) (∀b,sN V [.i b]->((b<ln a->Nb b (ln a) ((cI a b 0=c->Nd (EH V [.i b]) True)/\(¬cI a b 0=c->Nd (I64<|b+1) (Nd (sN V [.i (b+1)])<|Nd (QW V [.i (b+1)]<QW V [.i b]) True))))/\(¬b<ln a->Nd (EH V [.i (-1)]) True)))
def uu :kq cRpl aS (oK 0) (dS 0) 142=uv:=by kernel_rfl
def mi :Prop:=
 ∀b f d,vR [.l b,.i f,.i d]->Ca [.l b,.i f,.i d] λV=>Nd (gE V [.i 0,.l []]) (∀c a,gE V [.i c,.l a]->Ca (ln a+1<67108865) λY=>Ca [.i (c+1),.l<|a++b9 1 1 [.i (cI b c 0)]] λX=>Ca [.i (c+1),.l<|(a++b9 1 1 [.i f])++b9 1 1 [.i (cI b c 0)]] λW=>((c<ln b->Nb c (ln b) ((cI b c 0=d->Ni (ln a) (Nd Y<|Nr (ln a)<|Nb c (ln b)<|Ni (ln a+1)<|Nd (ln a+2<67108865)<|Nr (ln a+1)<|Nd (I64<|c+1)<|Nq (ln a+2)<|Nd (gE V W)<|Nd (sO V W<sO V [.i c,.l a]) True))/\(¬cI b c 0=d->Nb c (ln b) (Ni (ln a)<|Nd Y<|Nr (ln a)<|Nd (I64<|c+1)<|Nq (ln a+1)<|Nd (gE V X)<|Nd (sO V X<sO V [.i c,.l a]) True))))/\(¬c<ln b->((d<0->Ni (ln a) (Nd Y<|Nr (ln a)<|Nq (ln a+1)<|Nd (qE V [.l (a++b9 1 1 [.i f])]) True))/\(¬d<0->Nq (ln a) (Nd (qE V [.l a]) True))))))
def qi :kq cRput aS (oK 0) (dS 0) 143=mi:=by kernel_rfl
def mc :Prop:=
 ∀a d,lK [.l a,.i d]->Ca [.l a,.i d] λV=>Nd (gH V [.i 0,.l []]) (∀b c,gH V [.i b,.l c]->Ca [.i (b+1),.l<|c++b9 1 1 [.i (cI a b 0)]] λW=>((b<ln a->Nb b (ln a) ((cI a b 0=d->Nd (I64<|b+1) (Nq (ln c)<|Nd (gH V [.i (b+1),.l c])<|Nd (sP V [.i (b+1),.l c]<sP V [.i b,.l c]) True))/\(¬cI a b 0=d->Nb b (ln a) (Ni (ln c)<|Nd (ln c+1<67108865)<|Nr (ln c)<|Nd (I64<|b+1)<|Nq (ln c+1)<|Nd (gH V W)<|Nd (sP V W<sP V [.i b,.l c]) True))))/\(¬b<ln a->Nq (ln c) (Nd (vU V [.l c]) True))))
def pl :kq cRwit aS (oK 0) (dS 0) 133=mc:=by kernel_rfl
def zw :Prop:=
 ∀a c,DI [.l a,.s c]->Ca [.l a,.s c] λV=>Nd (rN V [.i 0]) (∀b,rN V [.i b]->((b<ln a->Nb b (ln a) ((cS a b 0=c->Nd (xA V [.i b]) True)/\(¬cS a b 0=c->Nd (I64<|b+1) (Nd (rN V [.i (b+1)])<|Nd (Px V [.i (b+1)]<Px V [.i b]) True))))/\(¬b<ln a->Nd (xA V [.i (-1)]) True)))
def zu :kq cFnd aS (oK 0) (dS 0) 138=zw:=by kernel_rfl
def fy a c d f g h:=
 Ca [.i (a+1),.l<|d++b9 2 1 [.s (cS c a 0),.s<|cS c a 1],.b h] λV=>Ca [.l c,.s f,.s g] λW=>Nb a (ln c)<|Ni (ln d)<|Nd (ln d+1<67108865)<|Nr (ln d)<|Nd (I64<|a+1)<|Nq (ln d+1)<|Nd (gD W V)<|Nd (sJ W V<sJ W [.i a,.l d,.b h]) True
def mo :Prop:=
 ∀a f g,vP [.l a,.s f,.s g]->Ca [.l a,.s f,.s g] λV=>Nd (gD V [.i 0,.l [],.b false]) (∀d c h,gD V [.i d,.l c,.b h]->Ca [.i (d+1),.l<|(c++b9 2 1 [.s f,.s g])++b9 2 1 [.s (cS a d 0),.s<|cS a d 1],.b true] λW=>((d<ln a->((h=true->fy d a c f g h)/\(¬h=true->Nb d (ln a) ((Op.bytesLess f (cS a d 0)->Ni (ln c) (Nd (ln c+1<67108865)<|Nr (ln c)<|Nb d (ln a)<|Ni (ln c+1)<|Nd (ln c+2<67108865)<|Nr (ln c+1)<|Nd (I64<|d+1)<|Nq (ln c+2)<|Nd (gD V W)<|Nd (sJ V W<sJ V [.i d,.l c,.b h]) True))/\(¬Op.bytesLess f (cS a d 0)->fy d a c f g h)))))/\(¬d<ln a->((h=true->Nq (ln c) (Nd (qB V [.l c]) True))/\(¬h=true->Ni (ln c) (Nd (ln c+1<67108865)<|Nr (ln c)<|Nq (ln c+1)<|Nd (qB V [.l (c++b9 2 1 [.s f,.s g])]) True))))))
def qm :kq cRins aS (oK 0) (dS 0) 176=mo:=by kernel_rfl
open Go Go.Xe Go.Sx
def ke a q r b c d f g h j k l m o p:=
 Ca (JD a b c d f g h j k l m o p) λV=>Nq (ln a)<|Nd (rO (.i q::.i r::V)<|.i 10::V) True
def zo :Prop:=
 ∀s t a d f g h j k m o p q r c,DK (.i s::.i t::JD a d f g h j k m o p q r c)->Ca (.i s::.i t::JE a d f g h j k m o p q r) λW=>Ca (JD a d f g h j k m o p q r c) λV=>Nq (ln a) (Cg L7 H4 W λR=>∀w,R [.b w]->((w=true->Nq (ln a) (Cg y8 y7 W λR=>∀u,R [.i u]->Nb u (ln c) ((cI c u 7=0->((cI c u 8=0->Nq (ln a) (Cg xC xD (.i s::.i t::.l a::J10 d f g h j k m o p q [.l r,.l c,.l [],.l []]) λR=>∀x A B y C z D F G H I J K v L,R (.l x::J10 A B y C z D F G H I [.l J,.l K,.l v,.l L])->Nd (I64<|y-ln v) (Nd (I64<|z+ln v)<|Nq (ln x)<|Nd (rO (.i s::.i t::V)<|.i 0::JD x A B (y-ln v) C (z+ln v) D F G H I J K) True)))/\(¬cI c u 8=0->ke a s t d f g h j k m o p q r c)))/\(¬cI c u 7=0->ke a s t d f g h j k m o p q r c))))/\(¬w=true->Nq (ln a) (Nd (rO (.i s::.i t::V)<|.i 11::V) True))))
def zn :kq cFre Ul (RC 0) (VV 0) 46=zo:=by kernel_rfl
def Ts {G a:Nat->Nat}{n:Nod}(d:n.h= -1\/ ∃p:Nat,n.h=p/\G p=a p)(f:∀j∈n.e,G j=a j):n.n G=n.n a:=by
 unfold Nod.n;have b:hG' G n.h=hG' a n.h:=by unfold hG';obtain e| ⟨p,e,h⟩:=d;rw[e];rfl;rw[e,af,af,Xz,h]
 have c:n.e.map (D4 G)=n.e.map (D4 a):=List.map_congr_left λj g=>by unfold D4;rw[f j g]
 rw[b,c]
section
variable {D :DM}{S N S' N':a8}{fr Z Y X i g:Int}{K c:Nat}{s:Sl}
def RlX.b (h:RlX D (bel D 1001 c) S N fr Z)(w:WF D K)(i:D.L[c]? =s)(l:s.d)(t:s.n.h= -1){C:Ak}:Rl ((bel D 1001 c).foldl C0 D).d {(bel D 1001 c).foldl C0 D with C:=C} S N fr Z:=by
 obtain⟨T,M,rfl,rfl,h⟩:=h;have k:RlT ((bel D 1001 c).foldl C0 D).d ((bel D 1001 c).foldl C0 D) T M fr Z:=h.b λj z g d=>by
  have a:∀ {q:Nat},q∉bel D 1001 c->D.d q=((bel D 1001 c).foldl C0 D).d q:=λm=>by unfold DM.d;rw[K6 m]
  by_cases m:j∈bel D 1001 c;let⟨_,E,o,_⟩:=M5 w i l j m;rw[pJ (O4 (f:=1001) w i l) m o]at g;cases g;cases d;rw[K6 m]at g;let⟨u,v⟩:=Cf w i l t g d m;refine Ts ?_ λb p=>a<|v b p;obtain e| ⟨q,A,e,x,y,B⟩:=w.u j z g d;exact .inl e;exact .inr ⟨q,e,a<|u q A e x y⟩
 exact⟨T,M,rfl,rfl,k.h,k.m,k.o,k.d,k.e,k.v,k.w⟩
def zm :zo:=by
 rw[zo];intro i g S fr Z F G H I J M O P st N h;let⟨hi,hg,u⟩:=h;have ac:=u;let⟨D,K,⟨m,r⟩,j⟩:=u;have q:=m.e j;refine bS ⟨hi,hg,q⟩ ⟨λhv=>?_,λhv=>nin<|nrn<|ndt<|G3 λD K o j=>?_⟩
 .have k:∀ {D K},RlC D S N fr Z [F,G,H,I,J,M,O,P]->WF D K-> ∃c s,D.m i g=some c/\D.L[c]? =some s/\s.d/\0<=atF S i g/\atF S i g<N.length/\((cI N (atF S i g) 7=0/\cI N (atF S i g) 8=0)↔s.n.h= -1)/\fL D i g=if s.n.h≠ -1 then(D,10)else({(bel D 1001 c).foldl C0 D with C:=(D.C.modify 0 (· -(bel D 1001 c).length)).modify 2 (· +(bel D 1001 c).length)},0):=λ{D K} o j=>by let⟨c,r⟩:=o.1.d.1 hv;let⟨s,t,h2,h3,h4,h5,h6,h7,h8,h9,aa,ab⟩:=o.1.b r;refine⟨c,s,r,t,h2,h6,h7,?_,?_⟩;rw[h9,aa];exact j.z t h2;rw[fL,r];simp only;rw[h3]
  let⟨c,s,w,T,U,V,W,x,y⟩:=k ⟨m,r⟩ j;have bad:¬(cI N (atF S i g) 7=0/\cI N (atF S i g) 8=0)->ke S i g fr Z F G H I J M O P st N:=λhb=>by rw[ke];refine nin<|nrn<|ndt<|G3 λD K o j=>?_;let⟨c,s,w,T,U,V,W,x,y⟩:=k o j;rw[y,Xg λh=>hb<|x.2 h];exact⟨rfl,rfl⟩
  refine J1 ⟨hi,hg,q⟩<|E9 V W ⟨λQ=>⟨λR=>?_,λR=>bad λh=>R h.2⟩,λQ=>bad λh=>Q h.1⟩;have us:=m.us;have lS:cO S<=1000:=by have:cO S<=S.length:=List.countP_le_length;omega
  refine nin<|nrn<|ndi ⟨hi,hg,by show 0+cO S<=1000;omega,rfl,D,[],K,c,m,j,w,λ_ _=>by simp⟩ λS' Y X B b1 E b3 b4 b5 b6 b7 ad N' Q' W' hr=>?_;obtain⟨eb,rfl,_,hF,o⟩:=hr;simp only[Yl,Yo]at eb;obtain⟨rfl,rfl,rfl,rfl,rfl,rfl,rfl,rfl⟩:=eb;have v:∀ {D K},RlC D S N' fr Z [B,b1,E,b3,b4,b5,b6,b7]->WF D K-> ∃c s,D.L[c]? =some s/\s.d/\s.n.h= -1/\RlX D (bel D 1001 c) S' N' Y X/\Q'.length=(bel D 1001 c).length/\fL D i g=({(bel D 1001 c).foldl C0 D with C:=(D.C.modify 0 (· -(bel D 1001 c).length)).modify 2 (· +(bel D 1001 c).length)},0):=λ{D K} m j=>by
   let⟨c,s,w,T,U,V,W,x,y⟩:=k m j;let⟨q1,q2⟩:=o D [] K c ((λh=>h.1) m) j w λ_ _=>by simp
   have u:=x.1 ⟨Q,R⟩;exact⟨c,s,T,U,u,by simpa using q1,by simpa using q2,by rw[y,Xd<|by simp[u]]⟩
  let⟨c,s,z,A,k3,k4,k5,k6⟩:=v ⟨m,r⟩ j;have bl:(bel D 1001 c).length<=1000:=by have:=bT (O4 (f:=1001) j z A) λb hb=>(M5 j z A b hb).2;have:=List.countP_le_length (p:=λs:Sl=>s.d) (l:=D.L);have:=j.m;omega
  have cb:0<=B/\B<=1000/\0<=E/\E<=1000:=by let⟨a,b,c,d,e,f,h',t,_,h3,h4⟩:=j.P;have:=j.m;have:=List.countP_le_length (p:=λs:Sl=>s.d) (l:=D.L);rw[<-r]at t;simp only[Yl,Yo]at t;simp only[List.forall_mem_cons]at h4;omega
  have lQ:ln Q'=((bel D 1001 c).length:Int):=by simp only[ln];omega
  refine ndi (by rw[I64];omega)<|ndi (by rw[I64];omega)<|nin<|nrn<|ndt ⟨hF,λD K m j=>?_⟩;let⟨c,s,z,A,k3,k4,k5,k6⟩:=v m j;show RlC (fL D i g).1 S' N' Y X _/\(0:Int)=(fL D i g).2;rw[k6];refine⟨⟨k4.b j z A k3,?_⟩,rfl⟩;rw[<-m.2,<-k5];rfl
 rw[fL,o.1.h hv];exact⟨rfl,rfl⟩
end
def wi :wk:=by
 rw[wk];intro L F o p q r s t u v i g h;obtain⟨f,w,x⟩:=h;have z:ln L=(L.length:Int):=rfl;rw[U32] at f;refine ndi ⟨by omega,by omega,λh=>by omega⟩ λk j=>?_;obtain⟨n,y,hI⟩:=j;have next:k<L.length->(z9 L i g->i≠k)->Sx.Nd (I64<|k+1) (Sx.Nd (oE [.l L,.i i,.i g] [.i (k+1)])<|Sx.Nd (pW [.l L,.i i,.i g] [.i (k+1)]<pW [.l L,.i i,.i g] [.i k]) True):=λh m=>
  ndi (by rw[I64];omega) (ndi ⟨by omega,by omega,λhv=>by have:=hI hv;have:=m hv;omega⟩<|ndt<|by simp only[pW,B2,ln];omega)
 refine⟨λh=>?_,λh=>ndt ?_⟩
 .have h:k<L.length:=h;rw[(λh=>T7 (by simp[IntKind.min,IntKind.signed];omega) (by simp[IntKind.max,IntKind.signed,IntKind.bits];omega)) h];refine⟨λe=>ag<|ndi h ⟨λa=>ag<|ndi h ⟨λb=>ndt ?_,λb=>next h λhv _=>?_⟩,λa=>next h λhv _=>?_⟩,λe=>next h λ_ c=>e c.symm⟩;all_goals subst e
  .show k=if z9 L k g=true then k else-1
   rw[Xg];rw[z9];simp[n,h,a,b]
  rw[z9] at hv;simp only[WK,Xf]at hv;exact b hv.2;rw[z9] at hv;simp only[WK,Xf]at hv;exact a hv.1.2
 .show(-1:Int)=if z9 L i g=true then i else-1
  rw[Xd λhv=>?_];have:=hI hv;rw[z9] at hv;simp only[WK,Xf]at hv;omega
def Sl.b (s:Sl){L:a8}{k:Int}(h:∀j,A7 L k j=s.f.getD j (.i 0)):b9 11 1 [(.i<|cI L k 0),(.b<|cB L k 1),(.i<|cI L k 2),(.s<|cS L k 3),(.l<|cL L k 4),(.s<|cS L k 5),(.i<|cI L k 6),(.i<|cI L k 7),(.b<|cB L k 8),(.i<|cI L k 9),(.l<|cL L k 10)]=[s.f]:=by simp only[cI,cB,cS,cL,h];rw[Sl.f];split<;>rfl
def WF.lens {D:DM}{K:Nat}(w:WF D K){s:Sl}(c:s∈D.L){L:a8}{k:Int}(h:∀j,A7 L k j=s.f.getD j (.i 0)):(cL L k 4).length<=8/\(cL L k 10).length<=1000:=by simp only[cL,h];let⟨j,a⟩:=YV c;rw[Sl.f];split;rename_i b;have:=(w.w j s a b).1;have:=w.o a b;simp[Dat.m];omega;simp[Dat.m]
def wa :wd:=by
 rw[wd];intro L F r t u v x y z A h;obtain⟨D,K,⟨rfl,rfl,P⟩,w⟩:=h;have o:=w.m;have N:D.h.length<=1000:=by
  have a:D.h ⊆ List.range D.L.length:=λj g=>by let⟨s,d,_⟩:=w.t.2 j g;exact List.mem_range.2 (WM.1 d).1
  have:=w.t.1.length_le_of_subset a;rw[List.length_range]at this;omega
 have Q:ln (D.L.map Sl.f)=(D.L.length:Int):=by simp[ln]
 refine ndi (by simp only[ln,Xc];omega)<|nin<|nrn<|ndi ⟨by omega,by omega,by simp,rfl⟩ λk O q B C E G H I J M hI=>?_;let⟨l,m,b,f⟩:=hI;cases f;have n:(O.length:Int)=k:=by
  have:k<=D.L.length:=by simpa using m
  rw[b,Xt,Xc];omega
 have p:ln O=k:=n;refine⟨λh=>?_,λh=>nin<|nrn<|ndt ?_⟩
 .obtain⟨s,a⟩:=Sx.get_at (T:=D.L) l (by omega);have c:∀j,A7 (D.L.map Sl.f) k j=s.f.getD j (.i 0):=λj=>d9 a j;let⟨R,S⟩:=w.lens (WT a) c;rw[s.b c];refine ag<|ndi h<|ndi (by simp only[ln];omega)<|ndi (by simp only[ln];omega)<|nin<|nrn<|nin<|nrn<|nin<|ag<|nrn<|ndi (by rw[I64];omega)<|nin<|nrn<|ndi ⟨by omega,?_,?_,rfl⟩<|ndt ?_;simp;omega
  .have e:(k+1).toNat=k.toNat+1:=by omega
   rw[e,b,J9<|I7 a]
  simp only[QO,B2];simp only[ln,Xc]at*;omega
 refine⟨?_,rfl,rfl,rfl,rfl,rfl,rfl,rfl,rfl,rfl⟩;rw[b];exact XP (by simp;omega)
def zQ :∀ {l m:Ah},l.map B9=m.map B9->l=m
 | [],[],_=>rfl| [],_::_,h=>by simp at h|_::_,[],h=>by simp at h|a::l,b::m,h=>by
  simp only[XU,Yl]at h;have c:((a:Nat):Int)=b:=by have:=h.1;simp only[B9,Yl,Dat.i.injEq]at this;exact this.1
  rw[zQ h.2,show a=b by omega]
section
variable {l :Ah}{c:Nat}{k a:Int}{O:a8}
def iR {P:Ah->Nat->Prop}:(∀(m:Ah) (d:Nat),l.map B9=m.map B9->(c:Int)=d->P m d)↔P l c:=
 ⟨λh=>h l c rfl rfl,λh m d a b=>by rw[<-zQ a,show d=c by omega];exact h⟩
def fg {b:Nat}(h:l[k.toNat]? =b):cI (l.map B9) k 0=b:=by simp only[cI,d9 h];rfl
def EI :sN [.l (l.map B9),.i c] [.i k]↔0<=k/\k<=(l.length:Int)/\c∉l.take k.toNat:=by simp only[sN,Xc,iR (P:=λl c=>c∉l.take k.toNat)]
def ut :uv:=by
 rw[uv];rintro L i ⟨l,c,rfl,rfl,g⟩;have f:ln (l.map B9)=(l.length:Int):=by simp[ln]
 refine ndi (EI.2 ⟨by omega,by omega,by simp⟩) λk hI=>?_;let⟨d,j,hI⟩:=EI.1 hI;rw[f];refine⟨λh=>?_,λh=>ndt<|iR (P:=λl c=>(-1:Int)<0↔c∉l)|>.2 ?_⟩
 .obtain⟨b,a⟩:=Sx.get_at (T:=l) d h;rw[fg a];refine ag (ndi h ⟨λe=>ndt<|iR (P:=λl c=>k<0↔c∉l)|>.2 ?_,λe=>ndi (by rw[I64];omega)<|ndi (EI.2 ⟨by omega,by omega,?_⟩)<|ndt ?_⟩)
  .have:c∈l:=by rw[show c=b by omega];exact WT a
   simp[this];omega
  rw[m8 d a];simp only[Xv,Yh,not_or];exact⟨hI,by omega⟩;simp only[QW,B2,f];omega
 rw[v7<|by omega]at hI;simp[hI]
def qF :gE [.l (l.map B9),.i c,.i a] [.i k,.l O]↔0<=k/\k<=(l.length:Int)/\(O.length:Int)<=2*k/\O=(uZ (l.take k.toNat) c a).map B9:=by simp only[gE,Xc,iR (P:=λl c=>O=(uZ (l.take k.toNat) c a).map B9)]
def GZ (l m:Ah):uZ (l++m) c a=uZ l c a++uZ m c a:=by unfold uZ;rw[List.flatMap_append]
def qh :mi:=by
 rw[mi];rintro L i a ⟨l,c,rfl,rfl,q⟩;have o:ln (l.map B9)=(l.length:Int):=by simp[ln]
 refine ndi (qF.2 ⟨by omega,by omega,by simp,by simp[uZ]⟩) λk O hI=>?_;let⟨n,r,s,f⟩:=qF.1 hI;have t:ln O=(O.length:Int):=rfl;rw[o];have p:∀ {A:a8},(O++A).length=O.length+A.length:=λ{A}=>Xl;refine⟨λh=>?_,λh=>⟨λj=>?_,λj=>?_⟩⟩;let⟨b,m⟩:=Sx.get_at (T:=l) n h;rw[fg m];have g:∀x:Nat,b9 1 1 [.i (x:Int)]=([x]:Ah).map B9:=λ_=>rfl;refine ag<|ndi h ⟨λe=>nin<|ag<|nrn<|ag<|ndi h<|nin<|ag<|nrn<|ndi (by rw[I64];omega)<|nin<|nrn<|ndi (qF.2 ⟨by omega,by omega,?_,?_⟩)<|ndt ?_,λe=>ag<|ndi h<|nin<|ag<|nrn<|ndi (by rw[I64];omega)<|nin<|nrn<|ndi (qF.2 ⟨by omega,by omega,?_,?_⟩)<|ndt ?_⟩;simp[b9];omega;rw[g,g,m8 n m,GZ,f];unfold uZ;rw[List.flatMap_singleton,Xg e];simp;simp only[sO,B2,o];omega;simp[b9];omega;rw[g,m8 n m,GZ,f];unfold uZ;rw[List.flatMap_singleton,Xd e];simp;simp only[sO,B2,o];omega;refine nin<|ag<|nrn<|nin<|nrn<|ndt<|iR (P:=λl d=>O++b9 1 1 [.i ↑c]=(X7 l d a).map B9)|>.2 ?_;rw[f,v7<|by omega];rw[X7,uZ,Xg j];simp[b9,B9];refine nin<|nrn<|ndt<|iR (P:=λl c=>O=(X7 l c a).map B9)|>.2 ?_;rw[f,v7<|by omega];rw[X7,uZ,Xd j];simp
def qI :gH [.l (l.map B9),.i c] [.i k,.l O]↔0<=k/\k<=(l.length:Int)/\(O.length:Int)<=k/\O=(N8 (l.take k.toNat) c).map B9:=by simp only[gH,Xc,iR (P:=λl c=>O=(N8 (l.take k.toNat) c).map B9)]
def pk :mc:=by
 rw[mc];rintro L i ⟨l,c,rfl,rfl,j⟩;have g:ln (l.map B9)=(l.length:Int):=by simp[ln]
 refine ndi (qI.2 ⟨by omega,by omega,by simp,by simp[N8]⟩) λk O hI=>?_;let⟨f,m,n,a⟩:=qI.1 hI;have o:ln O=(O.length:Int):=rfl;rw[g];refine⟨λh=>?_,λh=>nin<|nrn<|ndt<|iR (P:=λl c=>O=(N8 l c).map B9)|>.2 ?_⟩;let⟨b,d⟩:=Sx.get_at (T:=l) f h;rw[fg d];refine ag<|ndi h ⟨λe=>ndi (by rw[I64];omega)<|nin<|nrn<|ndi (qI.2 ⟨by omega,by omega,by omega,?_⟩)<|ndt ?_,λe=>ag<|ndi h<|nin<|ag<|nrn<|ndi (by rw[I64];omega)<|nin<|nrn<|ndi (qI.2 ⟨by omega,by omega,?_,?_⟩)<|ndt ?_⟩;rw[m8 f d,a];unfold N8;rw[List.filter_append];simp[show b=c by omega];simp only[sP,B2,g];omega;simp[b9];omega;rw[m8 f d,a];unfold N8;rw[List.filter_append];simp[show b≠c by omega,b9,B9];simp only[sP,B2,g];omega;rw[a,v7<|by omega]
end
section
variable {l :List Att}{k:Int}{n v:Str}{O:a8}{p:Bool}
def rC {P:List Att->Prop}:(∀m:List Att,l.map Att.d=m.map Att.d->P m)↔P l:=⟨λh=>h l rfl,λh m e=>by rw[<-P1 e];exact h⟩
def DJ :rN [.l (l.map Att.d),.s n] [.i k]↔0<=k/\k<=(l.length:Int)/\ ∀a∈l.take k.toNat,a.n≠n:=by simp only[rN,Xc,rC (P:=λl=>∀a∈l.take k.toNat,a.n≠n)]
def ef {b:Att}(h:l[k.toNat]? =b):cS (l.map Att.d) k 0=b.n/\cS (l.map Att.d) k 1=b.v:=by simp only[cS,d9 h];exact⟨rfl,rfl⟩
def zt :zw:=by
 rw[zw];rintro L n ⟨l,rfl,i⟩;have f:ln (l.map Att.d)=(l.length:Int):=by simp[ln]
 refine ndi (DJ.2 ⟨by omega,by omega,by simp⟩) λk hI=>?_;let⟨d,j,hI⟩:=DJ.1 hI;rw[f];refine⟨λh=>?_,λh=>ndt ⟨by omega,by omega,rC (P:=λl=>((-1:Int)<0/\ ∀a∈l,a.n≠n)\/_)|>.2 (.inl ⟨by omega,?_⟩)⟩⟩;let⟨b,c⟩:=Sx.get_at (T:=l) d h;rw[(ef c).1];refine ag<|ndi h ⟨λe=>ndt ⟨by omega,by simpa using h,rC (P:=λl=>(k<0/\ ∀a∈l,a.n≠n)\/(0<=k/\ ∃a,l[k.toNat]? =some a/\a.n=n))|>.2 (.inr ⟨d,b,c,e⟩)⟩,λe=>ndi (by rw[I64];omega)<|ndi (DJ.2 ⟨by omega,by omega,?_⟩)<|ndt ?_⟩;rw[m8 d c];intro a g;obtain h|h:=Xv.1 g;exact hI a h;rw[Yh.1 h];exact e;simp only[Px,B2,f];omega;rwa[v7<|by omega]at hI
def qC :gD [.l (l.map Att.d),.s n,.s v] [.i k,.l O,.b p]↔0<=k/\k<=(l.length:Int)/\(O.length:Int)<=k+(if p then 1 else 0)/\ ∃o:List Att,O=o.map Att.d/\(if p then o++l.drop k.toNat else o++eM (l.drop k.toNat) ⟨n,v⟩)=eM l ⟨n,v⟩:=by simp only[gD,Xc,rC (P:=λl=>∃o:List Att,O=o.map Att.d/\(if p then o++l.drop k.toNat else o++eM (l.drop k.toNat) ⟨n,v⟩)=eM l ⟨n,v⟩)]
def ql :mo:=by
 rw[mo];rintro L n v ⟨l,rfl,u⟩;have r:ln (l.map Att.d)=(l.length:Int):=by simp[ln]
 refine ndi (qC.2 ⟨by omega,by omega,by simp,[],rfl,by simp⟩) λk O p hI=>?_;obtain⟨t,w,i,o,rfl,f⟩:=qC.1 hI;have q:ln (o.map Att.d)=(o.length:Int):=by simp[ln]
 have i:(o.length:Int)<=k+(if p then 1 else 0):=by simpa using i
 have x:(o.length:Int)<=k+1:=by split at i<;>omega
 rw[r,q];refine⟨λh=>?_,λh=>⟨λc=>nin<|nrn<|ndt ?_,λc=>nin<|ag<|nrn<|nin<|nrn<|ndt ?_⟩⟩
 .obtain⟨b,g⟩:=Sx.get_at (T:=l) t h;have m:l.drop k.toNat=b::l.drop (k+1).toNat:=by obtain⟨j,rfl⟩:=WM.1 g;rw[show(k+1).toNat=k.toNat+1 by omega];exact List.drop_eq_getElem_cons j
  have d:(p=true\/lt n b.n=false)->fy k (l.map Att.d) (o.map Att.d) n v p:=λc=>by rw[fy,r,q,(ef g).1,(ef g).2];refine ag<|ndi h<|nin<|ag<|nrn<|ndi (by rw[I64];omega)<|nin<|nrn<|ndi (qC.2 ⟨by omega,by omega,?_,o++ [b],by rw[XJ];rfl,?_⟩)<|ndt ?_;rw[Xl,Xc];show((o.length+1:Nat):Int)<=_;split at i<;>rename_i j;rw[Xg j];omega;rw[Xd j];omega;rw[<-f,m];obtain rfl|c:=c;simp;cases p;simp[eM,c];simp;simp only[sJ,B2];simp only[ln,Xc]at*;omega
  refine⟨λc=>d<|.inl c,λc=>ag<|ndi h ⟨λa=>?_,λa=>d<|.inr ?_⟩⟩;rw[(ef g).1,(ef g).2];rw[(ef g).1]at a;have a:lt n b.n:=a;refine nin<|ag<|nrn<|ag<|ndi h<|nin<|ag<|nrn<|ndi (by rw[I64];omega)<|nin<|nrn<|ndi (qC.2 ⟨by omega,by omega,?_,o++ [⟨n,v⟩]++ [b],by simp[b9,Att.d],?_⟩)<|ndt ?_;rw[Xl,Xl,Xc,Xg rfl];show((o.length+1+1:Nat):Int)<=_;rw[Xd c]at i;omega;rw[Xd c,m]at f;rw[Xg rfl,<-f];simp[eM,a];simp only[sJ,B2];simp only[ln,Xc]at*;omega
  .rw[(ef g).1]at a;cases e:lt n b.n with
   |false=>rfl|true=>exact absurd e a
 refine rC (P:=λl=>o.map Att.d=(eM l ⟨n,v⟩).map Att.d)|>.2 ?_;rw[Xg c,List.drop_eq_nil_of_le<|by omega,YD]at f;rw[f];refine rC (P:=λl=>o.map Att.d++b9 2 1 [.s n,.s v]=(eM l ⟨n,v⟩).map Att.d)|>.2 ?_;rw[Xd c,List.drop_eq_nil_of_le<|by omega]at f;rw[<-f];simp[b9,Att.d,eM]
