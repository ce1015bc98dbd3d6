/- One call on both DOMs: contract (Do).
  Conditions: none. -/
import Derived.Test.YtgmiikiinbaapaaGreatR4
set_option linter.all false
noncomputable section
namespace Go.D
open Go Go.Xe Go.Sx
def B8 (x:Int):Prop:=0<=x/\x<256
def oV :Vs:= .agg [.g (.int .u8),.g (.int .u8),.g (.int .u8),.g (.int .u8),.g (.int .u8)]
def KH :Ar->Prop
 | [.int k,.int x,.int y,.int z,.int s,.lst L,.lst F,.int b0,.int b1,.int b2,.int b3,.int b4,.int b5,.int b6,.int b7,.lst H,.lst S,.int fr,.int lv,.int c0,.int c1,.int c2,.int c3,.int c4,.int c5,.int c6,.int c7,.lst _,.lst N]=>
  B8 k/\B8 x/\B8 y/\B8 z/\B8 s/\ ∃K,K+1<=1000/\BI K L F [b0,b1,b2,b3,b4,b5,b6,b7] H S fr lv [c0,c1,c2,c3,c4,c5,c6,c7] N
 |_=>False
def yO :Ar->Ar->Prop
 | [.int _,.int _,.int _,.int _,.int _,.lst L,.lst F,.int b0,.int b1,.int b2,.int b3,.int b4,.int b5,.int b6,.int b7,.lst H,.lst S,.int fr,.int lv,.int c0,.int c1,.int c2,.int c3,.int c4,.int c5,.int c6,.int c7,.lst _,.lst N],
  [.int r,.lst L',.lst F',.int b0',.int b1',.int b2',.int b3',.int b4',.int b5',.int b6',.int b7',.lst H',.lst S',.int fr',.int lv',.int c0',.int c1',.int c2',.int c3',.int c4',.int c5',.int c6',.int c7',.lst _,.lst N']=>
  r=1/\Fr S N S' N'/\ ∀K,K+1<=1000->BI K L F [b0,b1,b2,b3,b4,b5,b6,b7] H S fr lv [c0,c1,c2,c3,c4,c5,c6,c7] N->BI (K+1) L' F' [b0',b1',b2',b3',b4',b5',b6',b7'] H' S' fr' lv' [c0',c1',c2',c3',c4',c5',c6',c7'] N'
 |_,_=>False
def cDo :Con:=⟨ "do",[pV,oV],Ky,botF,KH,[iV],Ky,noB,yO⟩
def OA :Ay->List (Nat×(Fm->SS->H6)):=W6
def MJ :Nat->List (Ay×Con)
 | _ => [(65, cTag), (68, cNms), (66, cTxt),
   (37,cCre),(38,cEdt),(33,cStx),(36,cPlk),(13,cIns),(34,cRem),(35,cMov),(14,cFre),
   (67,cRcre),(69,cRatt),(70,cRtxt),(74,cRplk),(71,cRns),(72,cRrem),(73,cRmv),(75,cRfre),(LVn,cYes "lives")]
def LR :Nat->Aw->F8
 |_,P=>[(64,kro P U0 cPck)]
def wE :Ar->Prop
 | [.lst L,.lst F,.int b0,.int b1,.int b2,.int b3,.int b4,.int b5,.int b6,.int b7,.lst H,.lst S,.int fr,.int lv,.int c0,.int c1,.int c2,.int c3,.int c4,.int c5,.int c6,.int c7,.lst _,.lst N]=>
  ∃K,BI K L F [b0,b1,b2,b3,b4,b5,b6,b7] H S fr lv [c0,c1,c2,c3,c4,c5,c6,c7] N
 |_=>False
def pP :Ar->Ar->Prop
 |_,[.int r]=>r=1|_,_=>False
def cSme:=mkBR "sme" [] wE [iV] pP
def jC (L:Sx.Rows)(n:Nat):Ah:=(List.range n).filter fun i=>cB L i 1&&decide (cI L i 9<0)
def gR :Ar->Ar->Prop
 | [.lst L],[.int k,.lst O]=>0<=k/\k<=L.length/\(O.length:Int)<=k/\O=(jC L k.toNat).map l9|_,_=>False
def eS:=B6
def OB :Ay->List (Nat×(Fm->SS->H6))
 |23=>[(0,D5 U0 "sml" (D9 [(5,.int .i64),(4,.acc wM 1)] nob) (z5 0 1) gR B6)]
 |_=>[]
def MK :Nat->List (Ay×Con)
 |_=>[(79,cRtre),(80,cRchk),(81,cSam),(77,cAsm),(LVn,cYes "lives")]
def LS :Nat->Aw->F8
 |_,P=>[(17,kro P U0 cLok),(16,kro P U0 cTee),(25,kro P U0 cRoo),(58,kro P U0 cWai),(78,kro P U0 cHnd)]
def O5 (r:Ar):Prop:=∃a b c d e:Int,r=[.int a,.int b,.int c,.int d,.int e]/\B8 a/\B8 b/\B8 c/\B8 d/\B8 e
def Gb :Ar->Prop:=fun _=>True
def Gc :Ar->Ar->Prop
 |_,[.lst L,.lst F,.int b0,.int b1,.int b2,.int b3,.int b4,.int b5,.int b6,.int b7,.lst H,.lst S,.int fr,.int lv,.int c0,.int c1,.int c2,.int c3,.int c4,.int c5,.int c6,.int c7,.lst _]=>
  L=[]/\F=[]/\H=[]/\S=[]/\fr=0/\lv=0/\[b0,b1,b2,b3,b4,b5,b6,b7]=[0,0,0,0,0,0,0,0]/\[c0,c1,c2,c3,c4,c5,c6,c7]=[0,0,0,0,0,0,0,0]
 |_,_=>False
def nwbF :SV->SS->Bb (Ah):=fun v s=>match v with
 | .ptr b _ _ _=>match s.get b with
  |some (.cells (.ptr d _ _ _::_) _ _)=>some [b,d]|_=>none
 |_=>none
def cNwb :Con:=⟨ "nwb",[],[],noF,Gb,[pV],[(Pe,12,botL),(JO,13,IK)],nwbF,Gc⟩
def Gk :Ar->Ar->Prop
 |_,.bool r::_=>r=true|_,_=>False
def botP (t:Nat):Fm->SS->Bb (List (Nat×List G)):=fun f s=>match lk f t with
 |some (.ptr b _ _ _)=>match s.get b with
  |some (.cells (.ptr d _ _ _::_) _ _)=>some [(b,.keep:: .lst tRS:: .lst wM::(g8++ [.acc tHd 2])),(d,.acc Ad 4:: .int .i64:: .int .i64::(g8++ [.bool,.lst Iw]))]|_=>none
 |_=>none
def PZ :Ar->Ar->Prop
 | [.lst l],[.lst N,.int k,.lst L,.lst F,.int b0,.int b1,.int b2,.int b3,.int b4,.int b5,.int b6,.int b7,.lst H,.lst S,.int fr,.int lv,.int c0,.int c1,.int c2,.int c3,.int c4,.int c5,.int c6,.int c7,.bool z,.lst _]=>
  0<=k/\k<=l.length/\k<=50/\z=false/\BI k.toNat L F [b0,b1,b2,b3,b4,b5,b6,b7] H S fr lv [c0,c1,c2,c3,c4,c5,c6,c7] N
 |_,_=>False
def pllMu :Ar->Ar->Nat
 | [.lst l],_:: .int k::_=>(l.length-k).toNat|_,_=>0
def OC :Ay->List (Nat×(Fm->SS->H6))
 |4=>[(0,D5 U0 "pll" (mkPr rgR [(4,.int .i64)] (botP 3)) (l8 0) PZ pllMu)]
 |_=>[]
def Qo :Nat->List (Ay×Con)
 |0=>[(LVn,cYes "lives")]
 |_=>[(21,cNwb),(22,cDo),(LVn,cYes "lives")]
def LU :Nat->Aw->F8
 |_,P=>[(23,kro P U0 cSme)]
abbrev PK:=kK
abbrev PL:=P7
abbrev Qs:=pX
abbrev Qt:=pY
abbrev Qg:=Mc
abbrev Qh:=BK
def vwO :Vs:= .agg [.g (.int .u8),.g .str,.g (.acc rQ 2),.g .str,.g (.int .i64),.g (.int .i64),.g .bool,.g (.int .u32),.g (.int .u32),.g (.acc tHd 2)]
def cWaa:=mkR "waa" [dV] dmB dmF Qs [.one (.g (.acc tHd 2))] Qt
def cRoa:=mkR "roa" [dV] oM AT Qg [.one (.g (.acc tHd 2))] Qh
def cLka:=mkR "lka" [dV,hV] oM AT PK [vwO,iV] PL
def kb (m:Int):Nat:=if m=10 then 50 else 0
def sY :Ar->Prop
 | [.lst l,.int m,.lst L,.lst F,.int b0,.int b1,.int b2,.int b3,.int b4,.int b5,.int b6,.int b7,.lst H,.lst S,.int fr,.int lv,.int c0,.int c1,.int c2,.int c3,.int c4,.int c5,.int c6,.int c7,.lst _,.lst N]=>
  (∀r∈l,O5 r)/\0<=m/\m<=40/\BI (kb m) L F [b0,b1,b2,b3,b4,b5,b6,b7] H S fr lv [c0,c1,c2,c3,c4,c5,c6,c7] N
 |_=>False
def oH :Ar->Ar->Prop
 | [.lst _,.int m,.lst _,.lst _,.int _,.int _,.int _,.int _,.int _,.int _,.int _,.int _,.lst _,.lst S,.int _,.int _,.int _,.int _,.int _,.int _,.int _,.int _,.int _,.int _,.lst _,.lst N],
  [.int r,.lst L',.lst F',.int b0',.int b1',.int b2',.int b3',.int b4',.int b5',.int b6',.int b7',.lst H',.lst S',.int fr',.int lv',.int c0',.int c1',.int c2',.int c3',.int c4',.int c5',.int c6',.int c7',.lst _,.lst N']=>
  r=1/\Fr S N S' N'/\BI (kb m+m.toNat) L' F' [b0',b1',b2',b3',b4',b5',b6',b7'] H' S' fr' lv' [c0',c1',c2',c3',c4',c5',c6',c7'] N'
 |_,_=>False
def cBpl :Con:=⟨ "bpl",[pV,.one (.g (.lst 56)),iV],Ky,botF,sY,[iV],Ky,noB,oH⟩
def slotP (t:Nat):Fm->SS->List (So×E):=fun f s=>match lk f t with
 |some (.ptr b _ _ _)=>match s.get b with
  |some (.cells (.ptr d _ _ _::_) _ _)=>match s.get d with
   |some (.cells (c::_) _ _)=>slG c s|_=>[]
  |_=>[]
 |_=>[]
def ghO (t j:Nat):Fm->SS->List (So×E):=fun f s=>match lk f t with
 |some (.ptr b _ _ _)=>match s.get b with
  |some (.cells l _ _)=>slG (l.getD j .any) s|_=>[]
 |_=>[]
def AP :Ar->Ar->Prop
 | [.lst l,.int m,.lst S0,.lst N0],[.lst N,.int k,.lst L,.lst F,.int b0,.int b1,.int b2,.int b3,.int b4,.int b5,.int b6,.int b7,.lst H,.lst S,.int fr,.int lv,.int c0,.int c1,.int c2,.int c3,.int c4,.int c5,.int c6,.int c7,.bool z,.lst _]=>
  0<=k/\k<=l.length/\k<=m/\z=false/\Fr S0 N0 S N/\BI (kb m+k.toNat) L F [b0,b1,b2,b3,b4,b5,b6,b7] H S fr lv [c0,c1,c2,c3,c4,c5,c6,c7] N
 |_,_=>False
def Kz :Ar->Ar->Nat
 | .lst l::_,_:: .int k::_=>(l.length-k).toNat|_,_=>0
def PU :Ar->Ar->Prop
 | [.lst H],[.int i]=>0<=i/\i<=H.length|_,_=>False
def oolMu :Ar->Ar->Nat
 | [.lst H],[.int i]=>(H.length-i).toNat|_,_=>0
def LL :Ar->Ar->Prop
 |_,[.int k,.int _,.str _,.lst A,.str _,.int _,.int _,.bool _,.int _,.int _,.lst C]=>0<=k/\A.length<=1000/\C.length<=1000|_,_=>False
def ovaMu :Ar->Ar->Nat
 |_,[.int k,.int _,.str _,.lst A,.str _,.int _,.int _,.bool _,.int _,.int _,.lst _]=>(A.length-k).toNat|_,_=>0
abbrev PY:=LL
def ovcMu :Ar->Ar->Nat
 |_,[.int k,.int _,.str _,.lst _,.str _,.int _,.int _,.bool _,.int _,.int _,.lst C]=>(C.length-k).toNat|_,_=>0
def LH :Ar->Ar->Prop
 |_,[.int k,.lst C]=>0<=k/\C.length<=1000|_,_=>False
def OU :Ar->Ar->Nat
 |_,[.int k,.lst C]=>(C.length-k).toNat|_,_=>0
def noG :Fm->SS->List (So×E):=fun _ _=>[]
def vwG :List G:=[.int .u8,.str,.acc rQ 2,.str,.int .i64,.int .i64,.bool,.int .u32,.int .u32,.acc tHd 2]
def Ko :Ay->List (Nat×(Fm->SS->H6))
 |24=>[(0,D5 U0 "bpp" (mkPr rgR [(7,.int .i64)] (botP 0)) (gh2 (l8 1) (gh2 (l8 2) (gh2 (slotP 0) kM))) AP Kz)]
 | 5 => [(0, D5 U0 "ool" (D9 [(4, .int .i64)] nob) (ghO 3 11) PU oolMu),
   (2,D5 U0 "ova" (D9 [(7,.int .i64)] (H7 5 vwG)) noG LL ovaMu),
   (4,D5 U0 "ovc" (D9 [(8,.int .i64)] (H7 5 vwG)) noG PY ovcMu),
   (6,D5 U0 "ohd" (D9 [(12,.int .i64),(10,.acc tHd 2)] nob) noG LH OU),
   (8,D5 U0 "ohd" (D9 [(13,.int .i64),(11,.acc tHd 2)] nob) noG LH OU)]
 |_=>[]
def Iu :Nat->List (Ay×Con)
 |0=>[(22,cDo),(LVn,cYes "lives")]
 |_=>[(21,cNwb),(24,cBpl),(LVn,cYes "lives")]
def HU :Nat->Aw->F8
 |0,_=>[]
 |_,P=>[(23,kro P U0 cSme),(17,kro P U0 cLka),(16,kro P U0 cTee),(25,kro P U0 cRoa),(58,kro P U0 cWaa)]
def HR2 (A:Sx.Rows):Prop:=∀r∈A,∃i g:Int,r=[.int i,.int g]
def AW :Ar->Prop
 | [.lst A,.lst B]=>HR2 A/\HR2 B/\A.length<=1000|_=>False
def aX :Ar->Ar->Prop
 | [.lst A,.lst B],[.bool b]=>b=true↔A=B|_,_=>False
def Fz :Ar->Prop
 | [.lst A,.lst B]=>(∃l m:List Att,A=l.map Att.row/\B=m.map Att.row)/\A.length<=1000|_=>False
abbrev fS:=aX
def cEqh:=mkC "eqh" [.one (.g (.lst tHd)),.one (.g (.lst tHd))] AW [bV] aX
def cEqa:=mkC "eqa" [alV,alV] Fz [bV] fS
def I1 :Ar->Ar->Prop
 | [.lst A,.lst B],[.int k]=>0<=k/\k<=A.length/\A.length=B.length/\A.take k.toNat=B.take k.toNat|_,_=>False
abbrev V7:=B6
def two (f:Sx.Rows->Int->Int->Ak->Sx.Rows->Int->Int->Ak->Sx.Rows->Prop):Ar->Prop
 | [.lst S,.int fr,.int lv,.int c0,.int c1,.int c2,.int c3,.int c4,.int c5,.int c6,.int c7,.lst _,.lst S2,.int fr2,.int lv2,.int d0,.int d1,.int d2,.int d3,.int d4,.int d5,.int d6,.int d7,.lst _,.lst N]=>f S fr lv [c0,c1,c2,c3,c4,c5,c6,c7] S2 fr2 lv2 [d0,d1,d2,d3,d4,d5,d6,d7] N|_=>False
def alk (N S S2:Sx.Rows)(i g:Int):Prop:=∀f,f<10->p8 N (atF S i g) f=p8 N (atF S2 i g) f
def GG :Ar->Prop
 | .int i:: .int g:: .int j:: .int h::d=>U32 i/\U32 g/\U32 j/\U32 h/\two (fun S fr lv cs S2 fr2 lv2 ds N=>∃D D2 K K2 a b,RlC D S N fr lv cs/\RlC D2 S2 N fr2 lv2 ds/\WF D K/\WF D2 K2/\D.at i g=some a/\D2.at j h=some b) d|_=>False
def BW :Ar->Ar->Prop
 | .int i:: .int g:: .int j:: .int h::d,[.bool r]=>two (fun S _ _ _ S2 _ _ _ N=>r=true↔i=j/\g=h/\alk N S S2 i g) d|_,_=>False
def tJ :Ar->Prop:=two fun S fr lv cs S2 fr2 lv2 ds N=>∃D D2 K K2,RlC D S N fr lv cs/\RlC D2 S2 N fr2 lv2 ds/\WF D K/\WF D2 K2
def oN :Ar->Ar->Prop
 |d,[.bool r]=>two (fun S fr lv cs S2 fr2 lv2 ds N=>∀D D2 K K2,RlC D S N fr lv cs->RlC D2 S2 N fr2 lv2 ds->WF D K->WF D2 K2->(r=true↔D.L.map Sl.row=D2.L.map Sl.row/\D.free=D2.free/\D.C=D2.C)) d|_,_=>False
abbrev tPD :Ax:=22
def dm2 :List bN:=[(JO,13,IK),(JO,13,IK),(tNd,10,[.g (.rgl 10)])]
def sm1F :As->SS->Bb (Ah):=fun args s=>match args,rgB s with
 | [_,_,.ptr a _ _ _,.ptr b _ _ _],some r=>match s.get a,s.get b with
  |some (.cells [.ptr d _ _ _] _ _),some (.cells [.ptr e _ _ _] _ _)=>some [d,e,r,a,b]|_,_=>none
 |_,_=>none
def dsmF :As->SS->Bb (Ah):=fun args s=>match args,rgB s with
 | [.ptr a _ _ _,.ptr b _ _ _],some r=>some [a,b,r]|_,_=>none
def cSm1:=mkR "sm1" [hV,hV,.one (.ptr 3 1),.one (.ptr 4 1)] (dm2++ [(tPD,1,[.ptr 0 13]),(tPD,1,[.ptr 1 13])]) sm1F GG [bV] BW
def cDsm:=mkR "dsm" [.one (.ptr 0 13),.one (.ptr 1 13)] dm2 dsmF tJ [bV] oN
def capD (t k:Nat):Fm->SS->List (So×E):=fun f s=>match lk f t with
 |some (.fn _ _ cs)=>match cs[k]? with
  |some (.ptr a _ _ _)=>match s.get a with
   |some (.cells [.ptr d _ _ _] _ _)=>match s.get d with
    |some (.cells (c::_) _ _)=>slG c s|_=>[]
   |_=>[]
  |_=>[]
 |_=>[]
def AV :Ar->Ar->Prop
 | [.lst A,.lst B,.lst S,.lst S2,.lst N],[.int k]=>0<=k/\k<=A.length/\A.length=B.length/\A.take k.toNat=B.take k.toNat/\ ∀r∈A.take k.toNat,alk N S S2 (r.getD 0 (.int 0)).toInt (r.getD 1 (.int 0)).toInt|_,_=>False
abbrev KK:=B6
def Fx :Ar->Prop
 | [.lst S,.int fr,.int lv,.int c0,.int c1,.int c2,.int c3,.int c4,.int c5,.int c6,.int c7,.lst _,.lst N]=>mR S N fr lv [c0,c1,c2,c3,c4,c5,c6,c7]|_=>False
def Fresh (n:Nat)(S:Sx.Rows):Prop:=∀j:Nat,j<S.length->cB S j 1=true->(n:Int)<=cI S j 3
def Fy :Ar->Ar->Prop
 | [.lst S,.int fr,.int lv,.int c0,.int c1,.int c2,.int c3,.int c4,.int c5,.int c6,.int c7,.lst _,.lst N],[.lst S',.int fr',.int lv',.int c0',.int c1',.int c2',.int c3',.int c4',.int c5',.int c6',.int c7',.lst _,.lst N',.lst S2,.int fr2,.int lv2,.int d0,.int d1,.int d2,.int d3,.int d4,.int d5,.int d6,.int d7,.lst _]=>
  S'=S/\fr'=fr/\lv'=lv/\[c0',c1',c2',c3',c4',c5',c6',c7']=[c0,c1,c2,c3,c4,c5,c6,c7]/\N<+:N'/\Fresh N.length S2/\ ∀D K,RlC D S N fr lv [c0,c1,c2,c3,c4,c5,c6,c7]->WF D K->RlC D S2 N' fr2 lv2 [d0,d1,d2,d3,d4,d5,d6,d7]
 |_,_=>False
def dcpG :SV->SS->Bb (Ah):=fun v _=>match v with
 | .ptr b _ _ _=>some [b]|_=>none
def cDcp :Con:=⟨ "dcp",[dV],oM,AT,Fx,[.one (.ptr 2 13)],oM++ [(JO,13,IK)],dcpG,Fy⟩
def domT (t:Nat):Fm->SS->List (So×E):=fun f s=>match lk f t with
 |some (.ptr b _ _ _)=>match s.get b with
  |some (.cells (c::l) _ _)=>slG c s++(l.take 10).flatMap svG|_=>[]
 |_=>[]
def tI :Ar->Ar->Prop
 | [.lst N0,.lst H,.lst S0,.int fr,.int lv,.int c0,.int c1,.int c2,.int c3,.int c4,.int c5,.int c6,.int c7],[.lst N,.int k,.lst S,.int fr',.int lv',.int c0',.int c1',.int c2',.int c3',.int c4',.int c5',.int c6',.int c7',.bool z,.lst _]=>
  z=false/\fr'=fr/\lv'=lv/\[c0',c1',c2',c3',c4',c5',c6',c7']=[c0,c1,c2,c3,c4,c5,c6,c7]/\0<=k/\k<=H.length/\N0<+:N/\ ∀D K,Rl D.gen D S0 N0 fr lv->WF D K->H=hdF S0 0->Rl D.gen D S N fr lv/\ ∀r∈H.take k.toNat,(N0.length:Int)<=cI S (r.getD 0 (.int 0)).toInt 3
 |_,_=>False
def De :Ar->Ar->Nat
 |_:: .lst H::_,_:: .int k::_=>(H.length-k).toNat|_,_=>0
def vwL :Vs:= .agg [.g (.int .u8),.g .str,.g (.lst rQ),.g .str,.g (.int .i64),.g (.int .i64),.g .bool,.g (.int .u32),.g (.int .u32),.g (.lst tHd)]
def Gi :Ar->Prop
 | [.int _,.str _,.lst A,.str _,.int _,.int _,.bool _,.int _,.int _,.lst C]=>A.length<=1000/\C.length<=1000|_=>False
def W0 :Ar->Ar->Prop:=fun d e=>e=d
def cOwv:=mkC "owv" [vwL] Gi [vwL] W0
def Fu :Ar->Prop
 | [.lst S]=>S.length<=1000|_=>False
def tF :Ar->Ar->Prop:=fun d e=>e=d
def cClo:=mkR "clo" [.one (.g (.acc Ad 4))] [] (fun _ _=>some []) Fu [.one (.g (.acc Ad 4))] tF
def FA :Ar->Prop
 | [.lst L,.lst F,.int b0,.int b1,.int b2,.int b3,.int b4,.int b5,.int b6,.int b7,.lst L2,.lst F2,.int d0,.int d1,.int d2,.int d3,.int d4,.int d5,.int d6,.int d7]=>(∃D K,Rf D L F [b0,b1,b2,b3,b4,b5,b6,b7]/\WF D K)/\ ∃D K,Rf D L2 F2 [d0,d1,d2,d3,d4,d5,d6,d7]/\WF D K|_=>False
def AX :Ar->Ar->Prop
 | [.lst L,.lst F,.int b0,.int b1,.int b2,.int b3,.int b4,.int b5,.int b6,.int b7,.lst L2,.lst F2,.int d0,.int d1,.int d2,.int d3,.int d4,.int d5,.int d6,.int d7],[.int r]=>r=1↔L=L2/\F=F2/\[b0,b1,b2,b3,b4,b5,b6,b7]=[d0,d1,d2,d3,d4,d5,d6,d7]
 |_,_=>False
def cEql:=mkC "eql" [rfV,rfV] FA [iV] AX
def KE :Ar->Prop
 | [.lst l,.lst m,.lst n,.lst N]=>N=[]/\(∀r∈l,O5 r)/\(∀r∈m,O5 r)/\ ∀r∈n,O5 r|_=>False
def Y9:=Gk
def osV :Vs:= .one (.g (.lst 56))
def cCpy :Con:=⟨ "cpy",[osV,osV,osV],[(tNd,10,[.g (.rgl 10)])],rgF,KE,[bV],[(tNd,10,[.g (.rgl 10)])],noB,Y9⟩
def gT2 :Fm->SS->List (So×E):=gh2 (l8 0) (l8 1)
def K9 :Ay->List (Nat×(Fm->SS->H6))
 |87=>[(0,D5 U0 "teq" (D9 [(13,.int .i64)] nob) gT2 I1 V7)]
 |90=>[(0,D5 U0 "teq" (D9 [(13,.int .i64)] nob) gT2 I1 V7)]
 |88=>[(0,D5 U0 "eqf" (D9 [(17,.int .i64)] nob) (gh2 gT2 (gh2 (capD 2 0) (gh2 (capD 2 1) kM))) AV KK)]
 |30=>[(0,D5 U0 "dcl" (mkPr rgR [(25,.int .i64)] (H7 3 (.acc Ad 4:: .int .i64:: .int .i64::(g8++ [.bool,.lst Iw])))) (gh2 kM (gh2 (l8 23) (domT 3))) tI De)]
 |32=>[(0,D5 U0 "teq" (D9 [(5,.int .i64)] nob) (gh2 (z5 2 1) (z5 3 1)) I1 V7),(2,D5 U0 "teq" (D9 [(6,.int .i64)] nob) (gh2 (z5 2 0) (z5 3 0)) I1 V7),(4,D5 U0 "teq" (D9 [(11,.int .i64)] nob) (gh2 (z5 9 8) (z5 10 8)) I1 V7)]
 |_=>[]
def G3 :Nat->List (Ay×Con)
 |0=>[(77,cAsm),(LVn,cYes "lives")]
 |1=>[(87,cEqh),(90,cEqa),(LVn,cYes "lives")]
 |3=>[(87,cEqh),(90,cEqa),(LVn,cYes "lives")]
 |4=>[(62,cOwv),(LVn,cYes "lives")]
 |_=>[(21,cNwb),(24,cBpl),(30,cDcp),(29,cRcp),(32,cEql),(LVn,cYes "lives")]
def ptr2 :As->Bool
 | [.ptr _ _ _ _,.ptr _ _ _ _]=>true|_=>false
def orK (p:As->Bool)(k1 k2:As->M SV):As->M SV:=fun l=>bif p l then k1 l else k2 l
def OT (P:Aw):As->M SV:=sxF P U0 (fun _=>[]) (jZ P U0 [(LVn,cYes "lives")] []) 400 31
def N9 :Nat->Aw->F8
 |0,_=>[]
 |3,P=>[(45,kro P U0 cAt)]
 |4,P=>[(140,kro P U0 cClo),(45,kro P U0 cAt),(82,kro P U0 cHds)]
 |1,P=>[(45,kro P U0 cAt),(82,kro P U0 cHds),(58,kro P U0 cWai),(89,kro P U0 cSm1)]
 |_,P=>[(23,kro P U0 cSme),(31,orK ptr2 (kro P U0 cDsm) (OT P))]
