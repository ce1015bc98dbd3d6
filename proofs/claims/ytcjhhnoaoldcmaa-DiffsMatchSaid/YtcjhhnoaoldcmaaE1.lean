/- What DiffsMatch computes: its contract.
  Conditions: none. -/
import Derived.Test.YtcjhhnoaoldcmaaA7
import Derived.Test.YtcjhhnoaoldcmaaD1
set_option linter.unusedVariables false
noncomputable section
namespace Go.D
open Go.Xe Go.Sx
open Go.C36 (row A2 lis cLong cRlong longPre longRel rlongPre rlongRel)
def dmV :Vs:= .agg [.g (.int .u8),.g (.int .u8),.g (.lst 5)]
def dmPre :List Dat->Prop
 | [.int t,.int y,.lst C,.int t',.int y',.lst C']=>u8 t/\u8 y/\bytes C/\u8 t'/\u8 y'/\bytes C'
 |_=>False
def dmRel :List Dat->List Dat->Prop
 |_,[.bool b]=>b=true
 |_,_=>False
def cDm:=mkC "dm" [dmV,dmV] dmPre [bV] dmRel
def wnInv :List Dat->List Dat->Prop
 | [.lst W,.lst I],[.int i,.int k,.int j]=>0<=i/\i<=ln W/\ ∀m:List Int,W=m.map row->I=(stayM m).map irow->k=(pl (m.take i.toNat)).length/\0<=j/\k=j+mvs (m.take i.toNat) ((stayM m).take i.toNat)
 |_,_=>False
def wnMu:=slMu
def cuInv :List Dat->List Dat->Prop
 | [.lst S],[.int i,.int c0,.int c1,.int c2,.int c3,.int c4,.int c5,.int c6,.int c7]=>0<=i/\i<=ln S/\(∀c∈ [c0,c1,c2,c3,c4,c5,c6,c7],0<=c/\c<=i)/\(SOK 1 6 0 S->c4=cnt 4 0 (S.take i.toNat)/\c5=cnt 5 0 (S.take i.toNat)/\c6=cnt 6 0 (S.take i.toNat))
 |_,_=>False
def cuMu:=slMu
def annsE : FuncId → List (Nat × (Fm → SS → R5))
 | 3 => [(0, H8 U0 "wn" (H9 [(16, .int .i64), (14, .int .i64), (15, .int .i64)] nob) (gh2 (ghostT 11) (ghostT 13)) wnInv wnMu),
   (2,H8 U0 "cu" (H9 [(18,.int .i64)] (A7 17 [.int .i64,.int .i64,.int .i64,.int .i64,.int .i64,.int .i64,.int .i64,.int .i64])) (ghostT 9) cuInv cuMu)]
 |_=>[]
def stageE :Nat->List (FuncId×Con)
 |_=>[(6,cTree),(7,cDmt),(8,cDdf),(9,cRmat),(10,cStay),(11,cRstay),(LVn,R7 "lives")]
def primsE (P:Program):aa6:=[]
end Go.D
