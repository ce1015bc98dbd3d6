/- Mounts: contracts (Clear, Clone; what Cost answers; the law MountsErrors).
  Conditions: none. -/
import Derived.Test.YtoegfalhkackeaaGreatN7
set_option linter.all false
noncomputable section
namespace Go.D
open Go Go.Xe Go.Sx
def drpL (D:DM)(l:List (Int×Int)):DM:=l.foldl (fun D h=>(wD D h.1 h.2).1) D
def EJ (D:DM)(i g:Int):DM×Int:=match D.at i g with
 |none=>(D,11)
 |some c=>if(D.nod c).kind≠1 then(D,1)else(drpL D ((D.nod c).ch.map fun(j:Nat)=>((j:Int),(D.gen j:Int))),0)
def zX :Ar->Prop
 | [.int i,.int g,.lst S,.int fr,.int lv,.int a,.int b,.int c,.int d,.int e,.int f,.int h,.int m,.lst _,.lst N]=>U32 i/\U32 g/\ ∃D K,RlC D S N fr lv [a,b,c,d,e,f,h,m]/\WF D K/\ ∀q,D.at i g=some q->K+2*(D.nod q).ch.length<=1000|_=>False
def oG :Ar->Ar->Prop
 | [.int i,.int g,.lst S,.int fr,.int lv,.int a,.int b,.int c,.int d,.int e,.int f,.int h,.int m,.lst _,.lst N],[.int r,.lst S',.int fr',.int lv',.int a',.int b',.int c',.int d',.int e',.int f',.int h',.int m',.lst _,.lst N']=>
  Fr S N S' N'/\ ∀D K,RlC D S N fr lv [a,b,c,d,e,f,h,m]->WF D K->(∀q,D.at i g=some q->K+2*(D.nod q).ch.length<=1000)->RlC (EJ D i g).1 S' N' fr' lv' [a',b',c',d',e',f',h',m']/\r=(EJ D i g).2
 |_,_=>False
def cClr:=mkD "clr" [hV] zX [iV] oG
def LR (h:Int×Int):Ar:=[.int h.1,.int h.2]
def zV :Ar->Ar->Prop
 | [.lst N,.lst S,.int fr,.int lv,.int c0,.int c1,.int c2,.int c3,.int c4,.int c5,.int c6,.int c7,.lst C],[.lst N',.int j,.lst S',.int fr',.int lv',.int c0',.int c1',.int c2',.int c3',.int c4',.int c5',.int c6',.int c7',.bool z,.lst _]=>
  z=false/\0<=j/\j<=C.length/\Fr S N S' N'/\ ∀(l:List (Int×Int)) D K,C=l.map LR->RlC D S N fr lv [c0,c1,c2,c3,c4,c5,c6,c7]->WF D K->K+2*l.length<=1000->RlC (drpL D (l.take j.toNat)) S' N' fr' lv' [c0',c1',c2',c3',c4',c5',c6',c7']
 |_,_=>False
def Kr :Ar->Ar->Nat
 | [_,_,_,_,_,_,_,_,_,_,_,_,.lst C],_:: .int j::_=>(C.length-j).toNat|_,_=>0
def domR (t:Nat):Fm->SS->Bb (List (Nat×List G)):=fun f s=>match lk f t with
 |some (.ptr e _ _ _)=>some [(e,OP)]|_=>none
def domH (t:Nat):Fm->SS->List (So×E):=fun f s=>match lk f t with
 |some (.ptr e _ _ _)=>match s.get e with
  |some (.cells (c::l) _ _)=>slG c s++(l.take 10).flatMap svG|_=>[]
 |_=>[]
def zU :Ar->Prop
 | [.int i,.int g,.lst S,.int fr,.int lv,.int a,.int b,.int c,.int d,.int e,.int f,.int h,.int m,.lst _,.lst N]=>U32 i/\U32 g/\ ∃D K,RlC D S N fr lv [a,b,c,d,e,f,h,m]/\WF D K/\ ∀q,D.at i g=some q->z5 (N8 D 6 q)->K+M2 (N8 D 6 q)<=1000|_=>False
def sD :Ar->Ar->Prop
 | [.int i,.int g,.lst S,.int fr,.int lv,.int a,.int b,.int c,.int d,.int e,.int f,.int h,.int m,.lst _,.lst N],[.int i',.int g',.int r,.lst S',.int fr',.int lv',.int a',.int b',.int c',.int d',.int e',.int f',.int h',.int m',.lst _,.lst N']=>
  U32 i'/\U32 g'/\Fr S N S' N'/\ ∀D K,RlC D S N fr lv [a,b,c,d,e,f,h,m]->WF D K->(∀q,D.at i g=some q->z5 (N8 D 6 q)->K+M2 (N8 D 6 q)<=1000)->match D.at i g with
  |none=>RlC D S' N' fr' lv' [a',b',c',d',e',f',h',m']/\r=11|some q=>(z5 (N8 D 6 q)->RlC (gD D (N8 D 6 q)).1 S' N' fr' lv' [a',b',c',d',e',f',h',m']/\(i',g')=(gD D (N8 D 6 q)).2/\r=0)/\(¬z5 (N8 D 6 q)->RlC D S' N' fr' lv' [a',b',c',d',e',f',h',m']/\r=14)
 |_,_=>False
def cCln:=mkD "cln" [hV] zU [hV,iV] sD
mutual
def qU :a9->Nat
 | .mk _ _ _ a _ c=>a.length+attNs c
def attNs :List a9->Nat
 | []=>0|s::l=>qU s+attNs l
end
def Kv:=qN
def EM :Ar->Ar->Prop
 | [.int k,.str t,.str y,.lst a,.str x,.lst c],[.int c0,.int c1,.int c2,.int c3,.int c4,.int c5,.int c6,.int c7,.int r]=>∀s:a9,isT s k t y a x c->(z5 s->[c0,c1,c2,c3,c4,c5,c6,c7]=[(s.size:Int),s.size,0,s.size-1,0,0,qU s,0]/\r=0)/\(¬z5 s->[c0,c1,c2,c3,c4,c5,c6,c7]=[0,0,0,0,0,0,0,0]/\r=14)|_,_=>False
def c8V :Vs:= .agg [.g (.int .i64),.g (.int .i64),.g (.int .i64),.g (.int .i64),.g (.int .i64),.g (.int .i64),.g (.int .i64),.g (.int .i64)]
def cCos:=mkR "cos" [nV] [] noF Kv [c8V,iV] EM
def KZ :Ar->Prop
 | [.int k,.str t,.str y,.lst a,.str x,.lst c,.int i,.int g,.lst N]=>N=[]/\(∃s:a9,isT s k t y a x c)/\U32 i/\U32 g|_=>False
def w9 :Ar->Ar->Prop
 |_,.bool r::_=>r=true|_,_=>False
def cMer :Con:=⟨ "mer",[nV,hV],[(tNd,10,[.g (.rgl 10)])],rgF,KZ,[bV],[(tNd,10,[.g (.rgl 10)])],noB,w9⟩
def isP :As->Bool
 | .ptr _ _ _ _::_=>true|_=>false
def DP (p:As->Bool)(k1 k2:As->M SV):As->M SV:=fun l=>bif p l then k1 l else k2 l
def Fw (g:Ay)(P:Aw):As->M SV:=sxF P U0 (fun _=>[]) (jX P U0 [(LVn,cYes "lives")] []) 400 g
def nZ :Ay->List (Nat×(Fm->SS->K0))
 |24=>[(1,P8 U0 "clr" (mkPr rgR [(26,.int .i64)] (domR 0)) (gh2 (gh2 kL (domH 0)) (B0 24)) zV Kr)]
 |_=>[]
def iN :Nat->List (Ay×Con)
 |0=>[(14,cDrp),(LVn,cYes "lives")]
 |1=>[(10,cMnt),(LVn,cYes "lives")]
 |_=>[(21,cWgh),(22,cRchk),(8,cNwd),(61,cCre),(LVn,cYes "lives")]
def iD :Nat->Aw->I9
 |0,P=>[(50,kro P U0 cLok)]
 |1,P=>[(12,kro P U0 cTee)]
 | _, P => [(23, kro P U0 cCos),
   (10,DP isP (EY P U0 cMnt) (Fw 10 P)),
   (13,DP isP (kro P U0 cHan) (Fw 13 P)),
   (19,DP isP (kro P U0 cIs) (Fw 19 P)),
   (11,DP isP (EY P U0 cCln) (Fw 11 P)),
   (14,DP isP (EY P U0 cDrp) (Fw 14 P)),
   (24,DP isP (EY P U0 cClr) (Fw 24 P))]
