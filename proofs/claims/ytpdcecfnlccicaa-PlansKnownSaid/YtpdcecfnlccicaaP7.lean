/- Chapter 36, counting the steps of a plan: contracts and loops.
  Conditions: none. -/
import Derived.Test.YtpdcecfnlccicaaP3
set_option linter.unusedVariables false
noncomputable section
namespace Go.C36
open Go.Xe Go.Sx
structure Stp where
 w : Int
 o : Int
 m : Bool
 deriving DecidableEq
def Stp.row (s : Stp) : List Dat:=[.int s.w, .int s.o, .bool s.m]
def stOf (r : List Dat) : Stp:=⟨(r.getD 0 (.int 0)).toInt,(r.getD 1 (.int 0)).toInt,(r.getD 2 (.int 0)).toBool⟩
def stps (L : Sx.Rows) : List Stp:=L.map stOf
def many (f : Stp→Bool) (l : List Stp) : Int:=l.countP f
def isStay (s : Stp) : Bool:=decide (s.w=1)
def isMove (s : Stp) : Bool:=s.m
def pV : Vs := .agg [.g (.lst 49), .g (.lst 40)]
def planPre : List Dat→Prop
 | [.lst _, .lst S] => ∃ l : List Stp,S=l.map Stp.row∧l.length≤1024
 | _=>False
def nstaysPre:=planPre
def nstaysRel : List Dat→List Dat→Prop
 | [.lst _, .lst S],[.int n]=>n=many isStay (stps S)
 | _,_=>False
def cNstays:=mkC "nstays" [pV] nstaysPre [iV] nstaysRel
def nmovesPre:=planPre
def nmovesRel : List Dat→List Dat→Prop
 | [.lst _, .lst S],[.int n]=>n=many isMove (stps S)
 | _,_=>False
def cNmoves:=mkC "nmoves" [pV] nmovesPre [iV] nmovesRel
def mnsInv : List Dat→List Dat→Prop
 | [.lst S],[.int k, .int n]=>0≤k∧k≤S.length∧n=many isStay ((stps S).take k.toNat)∧0≤n∧n≤k
 | _,_=>False
def mnmInv : List Dat→List Dat→Prop
 | [.lst S],[.int k, .int n]=>0≤k∧k≤S.length∧n=many isMove ((stps S).take k.toNat)∧0≤n∧n≤k
 | _,_=>False
def mnsMu : List Dat→List Dat→Nat
 | [.lst S], .int k :: _=>(S.length - k).toNat
 | _,_=>0
def mnmMu:=mnsMu
def annsU : FuncId→List (Nat × (Fm→SS→LAnn))
 | 34=>[(0,gAnn U0 "mns" (mkPl [(11, .int .i64),(5, .int .i64)] nob) (ghostT 9) mnsInv mnsMu)]
 | _=>[]
def stageU : Nat→List (FuncId × Con):=fun _=>[(12,cYes "lives")]
def annsX : FuncId→List (Nat × (Fm→SS→LAnn))
 | 34=>[(0,gAnn U0 "mnm" (mkPl [(11, .int .i64),(5, .int .i64)] nob) (ghostT 9) mnmInv mnmMu)]
 | _=>[]
def stageX : Nat→List (FuncId × Con):=fun _=>[(12,cYes "lives")]
end Go.C36
