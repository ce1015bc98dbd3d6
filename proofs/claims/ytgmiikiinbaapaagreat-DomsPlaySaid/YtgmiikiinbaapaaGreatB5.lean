/- The DOM: changes of a node's own fields: model and contracts (SetText, Place).
  Conditions: none. -/
import Derived.Test.YtgmiikiinbaapaaGreatB2
import Derived.Test.YtgmiikiinbaapaaGreatA5
import Derived.Test.YtgmiikiinbaapaaGreatRows
import Derived.KernelRfl
set_option linter.all false
noncomputable section
namespace Go.D
open Go Go.Xe Go.Sx
def DM.nod (D:DM)(c:Nat):Nod:=match D.L[c]? with
 |some s=>s.n|none=>⟨0,[],[],[],0,0,false, -1,[]⟩
def DM.setN (D:DM)(c:Nat)(q:Nod->Nod):DM:= {D with L:=D.L.modify c fun s=> {s with n:=q s.n}}
def DM.cnt (D:DM)(k:Nat):DM:= {D with C:=D.C.modify k (· +1)}
def Y7 (D:DM)(i g:Int)(t:Str):DM×Int:=match D.at i g with
 |none=>(D,11)
 |some c=>if(D.nod c).kind≠2\/H7 t=false then(D,1)else((D.setN c fun n=> {n with text:=t}).cnt 6,0)
def kT (D:DM)(i g top size:Int)(pin:Bool):DM×Int:=match D.at i g with
 |none=>(D,11)
 |some c=>if(D.nod c).kind≠1 then(D,1)else((D.setN c fun n=> {n with top:=top,size:=size,pin:=pin}).cnt 7,0)
def RlC (D:DM)(S N:Sx.Rows)(fr lv:Int)(cs:Ak):Prop:=Rl D.gen D S N fr lv/\cs=D.C
def Fr (S N S' N':Sx.Rows):Prop:=N.length<=N'.length/\(∀k:Nat,k<N.length->(∀j:Nat,j<S.length->cB S j 1=true->cI S j 3≠k)->N'[k]? =N[k]?)/\
 ∀i:Nat,i<S'.length->cB S' i 1=true->(∃j:Nat,j<S.length/\cB S j 1=true/\cI S j 3=cI S' i 3)\/(N.length:Int)<=cI S' i 3
def oX (S N:Sx.Rows)(fr lv:Int)(cs:Ak):Prop:=∃D K,RlC D S N fr lv cs/\WF D K
def W5 (S N:Sx.Rows)(fr lv:Int)(cs:Ak)(S' N':Sx.Rows)(fr' lv':Int)(cs':Ak)(f:DM->DM×Prop):Prop:=
 Fr S N S' N'/\ ∀D K,RlC D S N fr lv cs->WF D K->RlC (f D).1 S' N' fr' lv' cs'/\(f D).2
def FI :Ar->Prop
 | [.int i,.int g,.str t,.lst S,.int fr,.int lv,.int a,.int b,.int c,.int d,.int e,.int f,.int h,.int k,.lst _,.lst N]=>U32 i/\U32 g/\oX S N fr lv [a,b,c,d,e,f,h,k]|_=>False
def uG :Ar->Ar->Prop
 | [.int i,.int g,.str t,.lst S,.int fr,.int lv,.int a,.int b,.int c,.int d,.int e,.int f,.int h,.int k,.lst _,.lst N],[.int x,.lst S',.int fr',.int lv',.int a',.int b',.int c',.int d',.int e',.int f',.int h',.int k',.lst _,.lst N']=>
  W5 S N fr lv [a,b,c,d,e,f,h,k] S' N' fr' lv' [a',b',c',d',e',f',h',k'] fun D=>((Y7 D i g t).1,x=(Y7 D i g t).2)
 |_,_=>False
def EQ :Ar->Prop
 | [.int i,.int g,.int _,.int _,.bool _,.lst S,.int fr,.int lv,.int a,.int b,.int c,.int d,.int e,.int f,.int h,.int k,.lst _,.lst N]=>U32 i/\U32 g/\oX S N fr lv [a,b,c,d,e,f,h,k]|_=>False
def sU :Ar->Ar->Prop
 | [.int i,.int g,.int t,.int z,.bool p,.lst S,.int fr,.int lv,.int a,.int b,.int c,.int d,.int e,.int f,.int h,.int k,.lst _,.lst N],[.int x,.lst S',.int fr',.int lv',.int a',.int b',.int c',.int d',.int e',.int f',.int h',.int k',.lst _,.lst N']=>
  W5 S N fr lv [a,b,c,d,e,f,h,k] S' N' fr' lv' [a',b',c',d',e',f',h',k'] fun D=>((kT D i g t z p).1,x=(kT D i g t z p).2)
 |_,_=>False
def cStx:=mkD "stx" [hV,sV] FI [iV] uG
def cPlk:=mkD "plk" [hV,iV,iV,bV] EQ [iV] sU
def Gh :Ay->List (Nat×(Fm->SS->G5)):=T5
def FE :Nat->List (Ay×Con)
 |_=>[(60,cChk),(LVn,cYes "lives")]
def S8 :Nat->Aw->E8
 |_,P=>[(45,kro P U0 cAt),(110,kro P U0 cVld),(48,kro P U0 cPlc),(46,kro P U0 cAbo)]
set_option maxRecDepth 100000
open Go Go.Xe Go.Sx
def vcStx0 (a:Sx.Rows)(p q:Int)(r:Ae)(b c d f g h i j k l:Int)(m o:Sx.Rows):Prop:=
 Nq (ln a)<|Nd (uG (.int p::.int q::.str r::JD a b c d f g h i j k l m o) (.int 1::JD a b c d f g h i j k l m o)) True
def vcStx :Prop:=
 ∀p q r a d f g h i j k l c m o b,FI (.int p::.int q::.str r::JD a d f g h i j k l c m o b)->Nq (ln a) (Cg H4 D3 (.int p::.int q::JE a d f g h i j k l c m o) fun R=>∀u,R [.bool u]->((u=true->Nq (ln a) (Cg u7 u5 (.int p::.int q::JE a d f g h i j k l c m o) fun R=>∀s,R [.int s]->Nb s (ln b) ((cI b s 0=2->Cg eA Q9 [.int 2,.str [],.str [],.lst [],.str r,.lst []] (fun R=>∀v,R [.int v]->((v=0->Nq (ln a) (Cg u7 u5 (.int p::.int q::JE a d f g h i j k l c m o) fun R=>∀t,R [.int t]->Nb t (ln b) (Nb t (ln b)<|Nd (I64 (c+1))<|Nq (ln a)<|Nd (uG (.int p::.int q::.str r::JD a d f g h i j k l c m o b) (.int 0::JD a d f g h i j k l (c+1) m o (a8 b t 3 (.str r)))) True)))/\(¬v=0->vcStx0 a p q r d f g h i j k l c m o b))))/\(¬cI b s 0=2->vcStx0 a p q r d f g h i j k l c m o b))))/\(¬u=true->Nq (ln a) (Nd (uG (.int p::.int q::.str r::JD a d f g h i j k l c m o b) (.int 11::JD a d f g h i j k l c m o b)) True))))
def vcStx_eq :kq Go.Proofs.Tryz.prog cStx Gh (FE 0) (S8 0) 33=vcStx:=by kernel_rfl
def vcPlk :Prop:=
 ∀q r s t u a d f g h i j k l m c o b,EQ (.int q::.int r::.int s::.int t::.bool u::JD a d f g h i j k l m c o b)->Nq (ln a) (Cg H4 D3 (.int q::.int r::JE a d f g h i j k l m c o) fun R=>∀w,R [.bool w]->((w=true->Nq (ln a) (Cg u7 u5 (.int q::.int r::JE a d f g h i j k l m c o) fun R=>∀v,R [.int v]->Nb v (ln b) ((cI b v 0=1->Nq (ln a) (Cg u7 u5 (.int q::.int r::JE a d f g h i j k l m c o) fun R=>∀p,R [.int p]->Nb p (ln b) (Nb p (ln b)<|Nb p (ln b)<|Nb p (ln b)<|Nd (I64 (c+1))<|Nq (ln a)<|Nd (sU (.int q::.int r::.int s::.int t::.bool u::JD a d f g h i j k l m c o b) (.int 0::.lst a::J10 d f g h i j k l m (c+1) [.lst o,.lst (a8 (a8 (a8 b p 4 (.int s)) p 5 (.int t)) p 6 (.bool u))])) True)))/\(¬cI b v 0=1->Nq (ln a) (Nd (sU (.int q::.int r::.int s::.int t::.bool u::JD a d f g h i j k l m c o b) (.int 1::JD a d f g h i j k l m c o b)) True)))))/\(¬w=true->Nq (ln a) (Nd (sU (.int q::.int r::.int s::.int t::.bool u::JD a d f g h i j k l m c o b) (.int 11::JD a d f g h i j k l m c o b)) True))))
def vcPlk_eq :kq Go.Proofs.Tryz.prog cPlk Gh (FE 0) (S8 0) 36=vcPlk:=by kernel_rfl
end Go.D
