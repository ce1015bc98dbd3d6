/- The trees of the laws: contracts of Tag, attrs, build and Of.
  Conditions: none. -/
import Derived.Test.YtcjhhnoaoldcmaaA1
set_option linter.unusedVariables false
noncomputable section
namespace Go.D
open Go.Xe Go.Sx
def u8 (n:Int):Prop:=0<=n/\n<256
def bytes (L:Sx.Rows):Prop:=∃l:List Int,L=l.map (fun n=>[Dat.int n])/\ ∀n∈l,u8 n
def tagPre :List Dat->Prop
 | [.int n]=>u8 n
 |_=>False
def tagRel :List Dat->List Dat->Prop
 | [.int n],[.str s]=>vName s=true
 |_,_=>False
def cTag:=mkC "tag" [uV] tagPre [sV] tagRel
def OkAts (a:List Att):Prop:=a.length<=3/\(∀x∈a,vName x.n=true/\vStr x.v=true)/\Asc (a.map Att.n)
def atsPre:=tagPre
def atsRel :List Dat->List Dat->Prop
 | [.int n],[.lst L]=>∃a:List Att,L=a.map Att.row/\OkAts a
 |_,_=>False
def cAts:=mkC "ats" [uV] atsPre [.one (.g (.lst 82))] atsRel
def Kids (l:List Tree)(lv n:Int):Prop:=l.length<=16/\AllAs l/\Keys (l.map Tree.y)/\lv+Tree.depths l<=6/\Tree.sizes l<=n
def bldPre :List Dat->Prop
 | [.lst C,.int i,.int lv]=>bytes C/\0<=i/\i<=19/\2<=lv/\lv<=5
 |_=>False
def bldMu :List Dat->Nat
 | [_,_,.int lv]=>(6-lv).toNat
 |_=>0
def bldRel :List Dat->List Dat->Prop
 | [.lst C,.int i,.int lv],[.lst L,.int i']=>i<=i'/\i'<=19/\ ∃l,L=rows l/\Kids l lv (i'-i)
 |_,_=>False
def cBld:=mkC "bld" [.one (.g (.lst 5)),iV,iV] bldPre [cV,iV] bldRel
def treePre :List Dat->Prop
 | [.int t,.int y,.lst C]=>u8 t/\u8 y/\bytes C
 |_=>False
def treeRel :List Dat->List Dat->Prop
 |_,[.int k,.str t,.str y,.lst a,.str x,.lst c]=>∃s,isT s k t y a x c/\Valid s/\s.k=1
 |_,_=>False
def cTree:=mkC "tree" [.agg [.g (.int .u8),.g (.int .u8),.g (.lst 5)]] treePre [nV] treeRel
def blInv :List Dat->List Dat->Prop
 | [.lst C,.int i0,.int lv],[.int i,.lst L]=>bytes C/\0<=i0/\i0<=i/\i<=19/\2<=lv/\lv<=5/\ ∃l,L=rows l/\Kids l lv (i-i0)
 |_,_=>False
def blMu :List Dat->List Dat->Nat
 |_,.int i::_=>(19-i).toNat
 |_,_=>0
def keyInv :List Dat->List Dat->Prop
 | [.lst L,.str t0,.str y0,.lst a0],[.int i,.int k,.str t,.str y,.lst a,.str x,.lst c]=>0<=i/\i<=L.length/\k=1/\t=t0/\a=a0/\x=[]/\c=[]/\(y=[]\/y=y0/\ ∀z∈(keysR L).take i.toNat,z≠y0)
 |_,_=>False
def keyMu:=slMu
def annsB : FuncId → List (Nat × (Fm → SS → R5))
 | 23 => [(0, H8 U0 "bl" (H9 [(1, .int .i64), (8, .acc 28 6)] nob) (gh2 (ghostT 0) (gh2 (ghostT 1) (ghostT 2))) blInv blMu),
   (2,H8 U0 "key" (H9 [(11,.int .i64)] (A7 10 [.int .u8,.str,.str,.lst 82,.str,.lst 28])) (gh2 (ghostT 8) (gh2 (ghCell 10 1) (gh2 (ghCell 10 2) (ghCell 10 3)))) keyInv slMu)]
 |_=>[]
def stageB :Nat->List (FuncId×Con)
 |0=>[(LVn,R7 "lives")]
 |1=>[(21,cTag),(22,cAts),(LVn,R7 "lives")]
 |_=>[(23,cBld),(21,cTag),(22,cAts),(LVn,R7 "lives")]
def primsB (P:Program):aa6:=[]
end Go.D
