/- One call on both DOMs: contract (Do).
  Conditions: none. -/
import Derived.Test.YtgmiikiinbaapaaGreatR4
set_option linter.all false
noncomputable section
namespace Go.D
open Go Go.Xe Go.Sx
def B8 (x:Int):Prop:=0<=x/\x<256
def oV :Vs:= .agg [.g (.int .u8),.g (.int .u8),.g (.int .u8),.g (.int .u8),.g (.int .u8)]
def JM :Ar->Prop
 | [.int k,.int x,.int y,.int z,.int s,.lst L,.lst F,.int b0,.int b1,.int b2,.int b3,.int b4,.int b5,.int b6,.int b7,.lst H,.lst S,.int fr,.int lv,.int c0,.int c1,.int c2,.int c3,.int c4,.int c5,.int c6,.int c7,.lst _,.lst N]=>
  B8 k/\B8 x/\B8 y/\B8 z/\B8 s/\ ∃K,K+1<=1000/\BI K L F [b0,b1,b2,b3,b4,b5,b6,b7] H S fr lv [c0,c1,c2,c3,c4,c5,c6,c7] N
 |_=>False
def wZ :Ar->Ar->Prop
 | [.int _,.int _,.int _,.int _,.int _,.lst L,.lst F,.int b0,.int b1,.int b2,.int b3,.int b4,.int b5,.int b6,.int b7,.lst H,.lst S,.int fr,.int lv,.int c0,.int c1,.int c2,.int c3,.int c4,.int c5,.int c6,.int c7,.lst _,.lst N],
  [.int r,.lst L',.lst F',.int b0',.int b1',.int b2',.int b3',.int b4',.int b5',.int b6',.int b7',.lst H',.lst S',.int fr',.int lv',.int c0',.int c1',.int c2',.int c3',.int c4',.int c5',.int c6',.int c7',.lst _,.lst N']=>
  r=1/\Fr S N S' N'/\ ∀K,K+1<=1000->BI K L F [b0,b1,b2,b3,b4,b5,b6,b7] H S fr lv [c0,c1,c2,c3,c4,c5,c6,c7] N->BI (K+1) L' F' [b0',b1',b2',b3',b4',b5',b6',b7'] H' S' fr' lv' [c0',c1',c2',c3',c4',c5',c6',c7'] N'
 |_,_=>False
def cDo :Con:=⟨ "do",[pV,oV],JB,botF,JM,[iV],JB,noB,wZ⟩
def Nz :Ay->List (Nat×(Fm->SS->G5)):=T9
def LH :Nat->List (Ay×Con)
 | _ => [(65, cTag), (68, cNms), (66, cTxt),
   (37,cCre),(38,cEdt),(33,cStx),(36,cPlk),(13,cIns),(34,cRem),(35,cMov),(14,cFre),
   (67,cRcre),(69,cRatt),(70,cRtxt),(74,cRplk),(71,cRns),(72,cRrem),(73,cRmv),(75,cRfre),(LVn,cYes "lives")]
def KO :Nat->Aw->E7
 |_,P=>[(64,kro P U0 cPck)]
def FW :Ar->Prop
 | [.lst L,.lst F,.int b0,.int b1,.int b2,.int b3,.int b4,.int b5,.int b6,.int b7,.lst H,.lst S,.int fr,.int lv,.int c0,.int c1,.int c2,.int c3,.int c4,.int c5,.int c6,.int c7,.lst _,.lst N]=>
  ∃K,BI K L F [b0,b1,b2,b3,b4,b5,b6,b7] H S fr lv [c0,c1,c2,c3,c4,c5,c6,c7] N
 |_=>False
def Bm :Ar->Ar->Prop
 |_,[.int r]=>r=1|_,_=>False
def cSme:=mkBR "sme" [] FW [iV] Bm
def fG (L:Sx.Rows)(n:Nat):Ah:=(List.range n).filter fun i=>cB L i 1&&decide (cI L i 9<0)
def fN :Ar->Ar->Prop
 | [.lst L],[.int k,.lst O]=>0<=k/\k<=L.length/\(O.length:Int)<=k/\O=(fG L k.toNat).map A5|_,_=>False
def dN:=A7
def NA :Ay->List (Nat×(Fm->SS->G5))
 |23=>[(0,D8 U0 "sml" (E6 [(5,.int .i64),(4,.acc uZ 1)] nob) (A2 0 1) fN A7)]
 |_=>[]
def LI :Nat->List (Ay×Con)
 |_=>[(79,cRtre),(80,cRchk),(81,cSam),(77,cAsm),(LVn,cYes "lives")]
def KP :Nat->Aw->E7
 |_,P=>[(17,kro P U0 cLok),(16,kro P U0 cTee),(25,kro P U0 cRoo),(58,kro P U0 cWai),(78,kro P U0 cHnd)]
def O5 (r:Ar):Prop:=∃a b c d e:Int,r=[.int a,.int b,.int c,.int d,.int e]/\B8 a/\B8 b/\B8 c/\B8 d/\B8 e
def Fk :Ar->Prop:=fun _=>True
def Fl :Ar->Ar->Prop
 |_,[.lst L,.lst F,.int b0,.int b1,.int b2,.int b3,.int b4,.int b5,.int b6,.int b7,.lst H,.lst S,.int fr,.int lv,.int c0,.int c1,.int c2,.int c3,.int c4,.int c5,.int c6,.int c7,.lst _]=>
  L=[]/\F=[]/\H=[]/\S=[]/\fr=0/\lv=0/\[b0,b1,b2,b3,b4,b5,b6,b7]=[0,0,0,0,0,0,0,0]/\[c0,c1,c2,c3,c4,c5,c6,c7]=[0,0,0,0,0,0,0,0]
 |_,_=>False
def nwbF :SV->SS->Bb (Ah):=fun v s=>match v with
 | .ptr b _ _ _=>match s.get b with
  |some (.cells (.ptr d _ _ _::_) _ _)=>some [b,d]|_=>none
 |_=>none
def cNwb :Con:=⟨ "nwb",[],[],noF,Fk,[pV],[(Oa,12,botL),(tDom,13,domL)],nwbF,Fl⟩
def OL :Ar->Prop
 | [.lst l,.lst N]=>N=[]/\ ∀r∈l,O5 r|_=>False
def Fv :Ar->Ar->Prop
 |_,.bool r::_=>r=true|_,_=>False
def botP (t:Nat):Fm->SS->Bb (List (Nat×List G)):=fun f s=>match lk f t with
 |some (.ptr b _ _ _)=>match s.get b with
  |some (.cells (.ptr d _ _ _::_) _ _)=>some [(b,.keep:: .lst tRS:: .lst uZ::(g8++ [.acc tHd 2])),(d,.acc LM 4:: .int .i64:: .int .i64::(g8++ [.bool,.lst LN]))]|_=>none
 |_=>none
def OK :Ar->Ar->Prop
 | [.lst l],[.lst N,.int k,.lst L,.lst F,.int b0,.int b1,.int b2,.int b3,.int b4,.int b5,.int b6,.int b7,.lst H,.lst S,.int fr,.int lv,.int c0,.int c1,.int c2,.int c3,.int c4,.int c5,.int c6,.int c7,.bool z,.lst _]=>
  0<=k/\k<=l.length/\k<=50/\z=false/\BI k.toNat L F [b0,b1,b2,b3,b4,b5,b6,b7] H S fr lv [c0,c1,c2,c3,c4,c5,c6,c7] N
 |_,_=>False
def pllMu :Ar->Ar->Nat
 | [.lst l],_:: .int k::_=>(l.length-k).toNat|_,_=>0
def NC :Ay->List (Nat×(Fm->SS->G5))
 |4=>[(0,D8 U0 "pll" (mkPr rgR [(4,.int .i64)] (botP 3)) (m9 0) OK pllMu)]
 |_=>[]
def OY :Nat->List (Ay×Con)
 |0=>[(LVn,cYes "lives")]
 |_=>[(21,cNwb),(22,cDo),(LVn,cYes "lives")]
def KQ :Nat->Aw->E7
 |_,P=>[(23,kro P U0 cSme)]
abbrev ES:=jC
abbrev R6:=N3
abbrev Gk:=BG
abbrev Gl:=BH
abbrev FC:=KW
abbrev FD:=AX
def vwO :Vs:= .agg [.g (.int .u8),.g .str,.g (.acc uY 2),.g .str,.g (.int .i64),.g (.int .i64),.g .bool,.g (.int .u32),.g (.int .u32),.g (.acc tHd 2)]
def cWaa:=mkR "waa" [dV] dmB dmF Gk [.one (.g (.acc tHd 2))] Gl
def cRoa:=mkR "roa" [dV] rU Cx FC [.one (.g (.acc tHd 2))] FD
def cLka:=mkR "lka" [dV,hV] rU Cx ES [vwO,iV] R6
def mZ:=kO
def Bw:=uQ
def AN:=nS
def kb (m:Int):Nat:=if m=10 then 50 else 0
def EC :Ar->Prop
 | [.lst l,.int m,.lst L,.lst F,.int b0,.int b1,.int b2,.int b3,.int b4,.int b5,.int b6,.int b7,.lst H,.lst S,.int fr,.int lv,.int c0,.int c1,.int c2,.int c3,.int c4,.int c5,.int c6,.int c7,.lst _,.lst N]=>
  (∀r∈l,O5 r)/\0<=m/\m<=40/\BI (kb m) L F [b0,b1,b2,b3,b4,b5,b6,b7] H S fr lv [c0,c1,c2,c3,c4,c5,c6,c7] N
 |_=>False
def zG :Ar->Ar->Prop
 | [.lst _,.int m,.lst _,.lst _,.int _,.int _,.int _,.int _,.int _,.int _,.int _,.int _,.lst _,.lst S,.int _,.int _,.int _,.int _,.int _,.int _,.int _,.int _,.int _,.int _,.lst _,.lst N],
  [.int r,.lst L',.lst F',.int b0',.int b1',.int b2',.int b3',.int b4',.int b5',.int b6',.int b7',.lst H',.lst S',.int fr',.int lv',.int c0',.int c1',.int c2',.int c3',.int c4',.int c5',.int c6',.int c7',.lst _,.lst N']=>
  r=1/\Fr S N S' N'/\BI (kb m+m.toNat) L' F' [b0',b1',b2',b3',b4',b5',b6',b7'] H' S' fr' lv' [c0',c1',c2',c3',c4',c5',c6',c7'] N'
 |_,_=>False
def cBpl :Con:=⟨ "bpl",[pV,.one (.g (.lst 56)),iV],JB,botF,EC,[iV],JB,noB,zG⟩
def slotP (t:Nat):Fm->SS->List (So×E):=fun f s=>match lk f t with
 |some (.ptr b _ _ _)=>match s.get b with
  |some (.cells (.ptr d _ _ _::_) _ _)=>match s.get d with
   |some (.cells (c::_) _ _)=>slG c s|_=>[]
  |_=>[]
 |_=>[]
def ghO (t j:Nat):Fm->SS->List (So×E):=fun f s=>match lk f t with
 |some (.ptr b _ _ _)=>match s.get b with
  |some (.cells l _ _)=>slG (l.getD j .any) s|_=>[]
 |_=>[]
def zH :Ar->Ar->Prop
 | [.lst l,.int m,.lst S0,.lst N0],[.lst N,.int k,.lst L,.lst F,.int b0,.int b1,.int b2,.int b3,.int b4,.int b5,.int b6,.int b7,.lst H,.lst S,.int fr,.int lv,.int c0,.int c1,.int c2,.int c3,.int c4,.int c5,.int c6,.int c7,.bool z,.lst _]=>
  0<=k/\k<=l.length/\k<=m/\z=false/\Fr S0 N0 S N/\BI (kb m+k.toNat) L F [b0,b1,b2,b3,b4,b5,b6,b7] H S fr lv [c0,c1,c2,c3,c4,c5,c6,c7] N
 |_,_=>False
def JC :Ar->Ar->Nat
 | .lst l::_,_:: .int k::_=>(l.length-k).toNat|_,_=>0
def KJ:=OL
def AK:=Fv
def cOwn :Con:=⟨ "own",[.one (.g (.lst 56))],[(tNd,10,[.g (.rgl 10)])],rgF,KJ,[bV],[(tNd,10,[.g (.rgl 10)])],noB,AK⟩
def fA :Ar->Ar->Prop
 | [.lst H],[.int i]=>0<=i/\i<=H.length|_,_=>False
def fB :Ar->Ar->Nat
 | [.lst H],[.int i]=>(H.length-i).toNat|_,_=>0
def tL :Ar->Ar->Prop
 |_,[.int k,.int _,.str _,.lst A,.str _,.int _,.int _,.bool _,.int _,.int _,.lst C]=>0<=k/\A.length<=1000/\C.length<=1000|_,_=>False
def KH :Ar->Ar->Nat
 |_,[.int k,.int _,.str _,.lst A,.str _,.int _,.int _,.bool _,.int _,.int _,.lst _]=>(A.length-k).toNat|_,_=>0
abbrev AJ:=tL
def KI :Ar->Ar->Nat
 |_,[.int k,.int _,.str _,.lst _,.str _,.int _,.int _,.bool _,.int _,.int _,.lst C]=>(C.length-k).toNat|_,_=>0
def jE :Ar->Ar->Prop
 |_,[.int k,.lst C]=>0<=k/\C.length<=1000|_,_=>False
def Hf :Ar->Ar->Nat
 |_,[.int k,.lst C]=>(C.length-k).toNat|_,_=>0
def noG :Fm->SS->List (So×E):=fun _ _=>[]
def vwG :List G:=[.int .u8,.str,.acc uY 2,.str,.int .i64,.int .i64,.bool,.int .u32,.int .u32,.acc tHd 2]
def zB :Ay->List (Nat×(Fm->SS->G5))
 |24=>[(0,D8 U0 "bpp" (mkPr rgR [(7,.int .i64)] (botP 0)) (gh2 (m9 1) (gh2 (m9 2) (gh2 (slotP 0) tD))) zH JC)]
 | 5 => [(0, D8 U0 "ool" (E6 [(4, .int .i64)] nob) (ghO 3 11) fA fB),
   (2,D8 U0 "ova" (E6 [(7,.int .i64)] (G9 5 vwG)) noG tL KH),
   (4,D8 U0 "ovc" (E6 [(8,.int .i64)] (G9 5 vwG)) noG AJ KI),
   (6,D8 U0 "ohd" (E6 [(12,.int .i64),(10,.acc tHd 2)] nob) noG jE Hf),
   (8,D8 U0 "ohd" (E6 [(13,.int .i64),(11,.acc tHd 2)] nob) noG jE Hf)]
 |_=>[]
def rD :Nat->List (Ay×Con)
 |0=>[(22,cDo),(LVn,cYes "lives")]
 |_=>[(21,cNwb),(24,cBpl),(LVn,cYes "lives")]
def qQ :Nat->Aw->E7
 |0,_=>[]
 |_,P=>[(23,kro P U0 cSme),(17,kro P U0 cLka),(16,kro P U0 cTee),(25,kro P U0 cRoa),(58,kro P U0 cWaa)]
