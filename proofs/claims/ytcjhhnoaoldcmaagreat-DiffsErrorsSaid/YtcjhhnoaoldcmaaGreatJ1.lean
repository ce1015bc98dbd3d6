/- DiffsErrors: its contract.
  Conditions: none. -/
import Derived.Test.YtcjhhnoaoldcmaaGreatG1
set_option linter.unusedVariables false
noncomputable section
namespace Go.D
open Go.Xe Go.Sx
open Go.C36 (row t6 lis cLong cRlong longPre longRel rlongPre rlongRel)
def errPre :List Dat->Prop
 | [.int k,.str t,.str y,.lst a,.str x,.lst c,.lst M]=>(∃s:Tree,isT s k t y a x c)/\ ∃m:List Int,M=m.map row
 |_=>False
def errRel :List Dat->List Dat->Prop
 |_,[.bool b]=>b=true
 |_,_=>False
def cErr:=mkC "err" [nV,intV] errPre [bV] errRel
def eoInv :List Dat->List Dat->Prop
 | [.lst M],[.int i,.bool r]=>0<=i/\i<=ln M/\ ∀m:List Int,M=m.map row->(r=true↔OKm (m.take i.toNat))
 |_,_=>False
def eoMu:=slMu
def eiInv :List Dat->List Dat->Prop
 | [.lst M,.int i],[.int k,.bool r]=>0<=k/\k<=i/\i<ln M/\ ∀m:List Int,M=m.map row->(r=true↔OKm (m.take i.toNat)/\ -1<=m.getD i.toNat 0/\(0<=m.getD i.toNat 0-> ∀z∈m.take k.toNat,z≠m.getD i.toNat 0))
 |_,_=>False
def eiMu :List Dat->List Dat->Nat
 | [_,.int i],.int k::_=>(i-k).toNat
 |_,_=>0
def euInv :List Dat->List Dat->Prop
 | [.lst S,.lst I],[.int i]=>0<=i/\i<=ln S/\ln S=ln I
 |_,_=>False
def euMu:=slMu
def annsJ : FuncId → List (Nat × (Fm → SS → R9))
 | 6 => [(0, D3 U0 "eo" (D4 [(22, .int .i64), (21, .bool), (23, .any)] nob) (ghostT 1) eoInv eoMu), (2, D3 U0 "ei" (D4 [(23, .int .i64), (21, .bool)] nob) (gh2 (ghostT 1) (ghostT 22)) eiInv eiMu),
   (4,D3 U0 "eu" (D4 [(26,.int .i64)] nob) (gh2 (ghostT 24) (ghostT 25)) euInv euMu)]
 |_=>[]
def stageJ :Nat->List (FuncId×Con)
 |_=>[(16,cWgh),(15,cRchk),(21,cDmt),(8,cDde),(22,cKpt),(34,cChk),(45,cCpd),(23,cStay),(24,cRstay),(LVn,M8 "lives")]
def primsJ (P:Program):ab1:=[]
end Go.D
