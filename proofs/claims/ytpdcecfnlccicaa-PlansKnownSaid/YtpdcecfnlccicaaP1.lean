/- Chapter 36, rows, checking, pools: contracts and loops.
  Conditions: none. -/
import Derived.Test.YtpdcecfnlccicaaR11
set_option linter.unusedVariables false
noncomputable section
namespace Go.C36
open Go.Xe Go.Sx
structure Rw where
 k : Int
 t : Int
 deriving DecidableEq
def Rw.row (r : Rw) : List Dat:=[.int r.k, .int r.t]
def rwOf (r : List Dat) : Rw:=⟨(r.getD 0 (.int 0)).toInt,(r.getD 1 (.int 0)).toInt⟩
def rws (L : Sx.Rows) : List Rw:=L.map rwOf
def Rw.Ok (r : Rw) : Prop:=0≤r.k∧r.k < 18446744073709551616∧0≤r.t∧r.t < 256
def isR (L : Sx.Rows) : Prop := ∃ l : List Rw,L=l.map Rw.row∧l.length≤1024 ∧ ∀ r ∈ l,r.Ok
def chkR (types : Int) (seen : List Int) : List Rw→Int
 | []=>0
 | x :: l=>if x.k=0 then 9 else if types≤x.t then 1 else if x.k ∈ seen then 8 else chkR types (seen ++ [x.k]) l
def chkP (types : Int) (l : List Rw) : Int:=if types < 1 ∨ 8 < types then 1 else chkR types [] l
def rightB (p b : List Int) : Prop:=1≤b.length∧b.length≤8∧p.length=b.length ∧ ∀ (i : Nat) (x y : Int),p[i]? = some x→b[i]? = some y→0≤x∧x≤y
def lV : Vs := .one (.g (.lst 47))
def pcheckPre : List Dat→Prop
 | [.lst L, .int n]=>isR L ∧ -9223372036854775808≤n∧n < 9223372036854775808
 | _=>False
def pcheckRel : List Dat→List Dat→Prop
 | [.lst L, .int n],[.int e]=>e=chkP n (rws L)
 | _,_=>False
def cPcheck:=mkC "pcheck" [lV,iV] pcheckPre [iV] pcheckRel
def rightPre : List Dat→Prop
 | [.lst P, .lst B]=>isN P∧isN B
 | _=>False
def rightRel : List Dat→List Dat→Prop
 | [.lst P, .lst B],[.bool b]=>b=true ↔ rightB (nums P) (nums B)
 | _,_=>False
def cRight:=mkC "right" [nV,nV] rightPre [bV] rightRel
def psInv : List Dat→List Dat→Prop
 | [.lst L, .int n],[.int k, .lst M]=>0≤k∧k≤L.length∧(∀ x,(mgetR M [x] (.bool false)).toBool=decide (x ∈ ((rws L).take k.toNat).map Rw.k))∧chkR n (((rws L).take k.toNat).map Rw.k) ((rws L).drop k.toNat)=chkR n [] (rws L)
 | _,_=>False
def psMu : List Dat→List Dat→Nat
 | [.lst L,_], .int k :: _=>(L.length - k).toNat
 | _,_=>0
def rgInv : List Dat→List Dat→Prop
 | [.lst P, .lst B],[.int k]=>0≤k∧k≤P.length ∧ ∀ (i : Nat) (x y : Int),(i : Int) < k→(nums P)[i]? = some x→(nums B)[i]? = some y→0≤x∧x≤y
 | _,_=>False
def rgMu : List Dat→List Dat→Nat
 | [.lst P,_],[.int k]=>(P.length - k).toNat
 | _,_=>0
def annsP : FuncId→List (Nat × (Fm→SS→LAnn))
 | 24=>[(0,gAnn U0 "ps" (mkPl [(20, .int .i64),(5, .mac 45 4)] nob) (gh2 (ghostT 0) (ghostT 1)) psInv psMu)]
 | 27=>[(0,gAnn U0 "rg" (mkPl [(24, .int .i64)] nob) (gh2 (ghostT 0) (ghostT 1)) rgInv rgMu)]
 | _=>[]
def stageP : Nat→List (FuncId × Con):=fun _=>[(12,cYes "lives")]
end Go.C36
