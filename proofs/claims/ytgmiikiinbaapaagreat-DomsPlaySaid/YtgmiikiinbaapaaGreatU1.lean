/- The law's own functions: what is kept of both DOMs; contracts of pick, tag, name, text, handles, and of the reference's Same of attributes.
  Conditions: none. -/
import Derived.Test.YtgmiikiinbaapaaGreatR4
set_option linter.all false
noncomputable section
namespace Go.D
open Go Go.Xe Go.Sx
abbrev Nx :Ax:=66
def HOK (H:Sx.Rows):Prop:=∀r∈H,∃i g:Int,r=[.int i,.int g]/\U32 i/\U32 g
def BI (K:Nat)(L F:Sx.Rows)(bs:Ak)(H S:Sx.Rows)(fr lv:Int)(cs:Ak)(N:Sx.Rows):Prop:=∃D,Rf D L F bs/\RlC D S N fr lv cs/\WF D K/\HOK H/\H.length<=K
def botL :List Lf:= .ptr 1 13:: .g (.lst tRS):: .g (.lst uJ)::(i8++ [.g (.acc tHd 2)])
def botB :List bI:=(Nx,12,botL)::yU
def botF :As->SS->Bb (Ah):=fun args s=>match args with
 | .ptr b _ _ _::_=>match s.get b with
  |some (.cells (.ptr d _ _ _::_) _ _)=>match rgB s with
   |some r=>some [b,d,r]|none=>none
  |_=>none
 |_=>none
def pV :Vs:= .one (.ptr 0 12)
def mkBR (n:String)(args:List Vs)(pre:Ar->Prop)(res:List Vs)(rel:Ar->Ar->Prop):Con:=mkR n (pV::args) botB botF pre res rel
def sS :Ar->Prop
 | [.int n,.lst L,.lst F,.int _,.int _,.int _,.int _,.int _,.int _,.int _,.int _,.lst H,.lst S,.int fr,.int lv,.int _,.int _,.int _,.int _,.int _,.int _,.int _,.int _,.lst _,.lst N]=>0<=n/\n<256/\HOK H|_=>False
def Z7 :Ar->Ar->Prop
 |_,[.int i,.int g]=>U32 i/\U32 g|_,_=>False
def cPck:=mkBR "pck" [uV] sS [hV] Z7
def Hj :Ar->Prop
 | [.int n]=>0<=n/\n<256|_=>False
def NE :Ar->Ar->Prop:=fun _ _=>True
def Bg:=Hj
def Bh:=NE
def nmsF (n:Int):Str:=cS (b8 1 5 [.str [99,108,97,115,115],.str [105,100],.str [120],.str [121],.str [90]]) (n.tmod 5) 0
def txtF (n:Int):Str:=cS (b8 1 4 [.str [],.str [104,105],.str [126],.str [0]]) (n.tmod 4) 0
def nB:=Hj
def nC :Ar->Ar->Prop
 | [.int n],[.str s]=>s=nmsF n|_,_=>False
def fI:=Hj
def jJ :Ar->Ar->Prop
 | [.int n],[.str s]=>s=txtF n|_,_=>False
def cTag:=mkC "tag" [uV] Bg [sV] Bh
def cNms:=mkC "nms" [uV] nB [sV] nC
def cTxt:=mkC "txt" [uV] fI [sV] jJ
def Z2 :Ar->Prop
 | .lst P:: .lst X:: .lst L::_=>∃l:Ah,X=l.map A3/\P=l.map (fun j:Nat=>[Dat.int j,.int (cI L j 0)])/\(∀j∈l,j<L.length)/\l.length<=1000/\L.length<=1000|_=>False
def bP :Ar->Ar->Prop
 |_,[.int r]=>r=1|_,_=>False
def cHnd:=mkBR "hnd" [.one (.g (.clp tHd)),ilV] Z2 [iV] bP
def iJ :Ar->Prop
 | [.lst A,.lst B]=>∃l m:List Att,A=l.map Att.row/\B=m.map Att.row/\l.length<=8|_=>False
def Z1 :Ar->Ar->Prop
 | [.lst A,.lst B],[.int r]=>(A=B->r=1)/\(A≠B->r=0)|_,_=>False
def cAsm:=mkC "asm" [alV,alV] iJ [iV] Z1
def mU :Ar->Ar->Prop
 | [.lst P,.lst X,.lst L],[.int k]=>0<=k/\k<=P.length|_,_=>False
def rR:=A5
def yN :Ar->Ar->Prop
 | [.lst A,.lst B],[.int k]=>0<=k/\k<=A.length/\A.length=B.length/\A.take k.toNat=B.take k.toNat|_,_=>False
def IY:=A5
def dE :Ay->List (Nat×(Fm->SS->G5))
 |78=>[(0,G1 U0 "hnl" (G9 [(7,.int .i64)] nob) (gh2 (m8 1) (gh2 (m8 2) (A0 0 1))) mU A5)]
 |77=>[(0,G1 U0 "asl" (G9 [(5,.int .i64)] nob) (gh2 (m8 0) (m8 1)) yN A5)]
 |_=>[]
def nU :Nat->List (Ay×Con)
 |_=>[(LVn,cYes "lives")]
def nF :Nat->Aw->E8:=Z8
end Go.D
noncomputable section
namespace Go.D
open Go Go.Xe Go.Sx
def B8 (x:Int):Prop:=0<=x/\x<256
def oV :Vs:= .agg [.g (.int .u8),.g (.int .u8),.g (.int .u8),.g (.int .u8),.g (.int .u8)]
def Jj :Ar->Prop
 | [.int k,.int x,.int y,.int z,.int s,.lst L,.lst F,.int b0,.int b1,.int b2,.int b3,.int b4,.int b5,.int b6,.int b7,.lst H,.lst S,.int fr,.int lv,.int c0,.int c1,.int c2,.int c3,.int c4,.int c5,.int c6,.int c7,.lst _,.lst N]=>
  B8 k/\B8 x/\B8 y/\B8 z/\B8 s/\ ∃K,K+1<=1000/\BI K L F [b0,b1,b2,b3,b4,b5,b6,b7] H S fr lv [c0,c1,c2,c3,c4,c5,c6,c7] N
 |_=>False
def wJ :Ar->Ar->Prop
 | [.int _,.int _,.int _,.int _,.int _,.lst L,.lst F,.int b0,.int b1,.int b2,.int b3,.int b4,.int b5,.int b6,.int b7,.lst H,.lst S,.int fr,.int lv,.int c0,.int c1,.int c2,.int c3,.int c4,.int c5,.int c6,.int c7,.lst _,.lst N],
  [.int r,.lst L',.lst F',.int b0',.int b1',.int b2',.int b3',.int b4',.int b5',.int b6',.int b7',.lst H',.lst S',.int fr',.int lv',.int c0',.int c1',.int c2',.int c3',.int c4',.int c5',.int c6',.int c7',.lst _,.lst N']=>
  r=1/\Fr S N S' N'/\ ∀K,K+1<=1000->BI K L F [b0,b1,b2,b3,b4,b5,b6,b7] H S fr lv [c0,c1,c2,c3,c4,c5,c6,c7] N->BI (K+1) L' F' [b0',b1',b2',b3',b4',b5',b6',b7'] H' S' fr' lv' [c0',c1',c2',c3',c4',c5',c6',c7'] N'
 |_,_=>False
def cDo :Con:=⟨ "do",[pV,oV],botB,botF,Jj,[iV],botB,noB,wJ⟩
def MP :Ay->List (Nat×(Fm->SS->G5)):=T5
def Lb :Nat->List (Ay×Con)
 | _ => [(65, cTag), (68, cNms), (66, cTxt),
   (37,cCre),(38,cEdt),(33,cStx),(36,cPlk),(13,cIns),(34,cRem),(35,cMov),(14,cFre),
   (67,cRcre),(69,cRatt),(70,cRtxt),(74,cRplk),(71,cRns),(72,cRrem),(73,cRmv),(75,cRfre),(LVn,cYes "lives")]
def Ko :Nat->Aw->E8
 |_,P=>[(64,kro P U0 cPck)]
end Go.D
noncomputable section
namespace Go.D
open Go Go.Xe Go.Sx
def AP :Ar->Prop
 | [.lst L,.lst F,.int b0,.int b1,.int b2,.int b3,.int b4,.int b5,.int b6,.int b7,.lst H,.lst S,.int fr,.int lv,.int c0,.int c1,.int c2,.int c3,.int c4,.int c5,.int c6,.int c7,.lst _,.lst N]=>
  ∃K,BI K L F [b0,b1,b2,b3,b4,b5,b6,b7] H S fr lv [c0,c1,c2,c3,c4,c5,c6,c7] N
 |_=>False
def uB :Ar->Ar->Prop
 |_,[.int r]=>r=1|_,_=>False
def cSme:=mkBR "sme" [] AP [iV] uB
def gT (L:Sx.Rows)(n:Nat):Ah:=(List.range n).filter fun i=>cB L i 1&&decide (cI L i 9<0)
def fE :Ar->Ar->Prop
 | [.lst L],[.int k,.lst O]=>0<=k/\k<=L.length/\(O.length:Int)<=k/\O=(gT L k.toNat).map A3|_,_=>False
def dH:=A5
def MQ :Ay->List (Nat×(Fm->SS->G5))
 |23=>[(0,G1 U0 "sml" (G9 [(5,.int .i64),(4,.acc uJ 1)] nob) (A0 0 1) fE A5)]
 |_=>[]
def Lc :Nat->List (Ay×Con)
 |_=>[(79,cRtre),(80,cRchk),(81,cSam),(77,cAsm),(LVn,cYes "lives")]
def Kp :Nat->Aw->E8
 |_,P=>[(17,kro P U0 cLok),(16,kro P U0 cTee),(25,kro P U0 cRoo),(58,kro P U0 cWai),(78,kro P U0 cHnd)]
end Go.D
