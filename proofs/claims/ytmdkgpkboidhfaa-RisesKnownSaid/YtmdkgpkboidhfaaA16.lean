/- Chapter 08, what is kept of two orders: contracts and loops.
  Conditions: none. -/
import Derived.Test.YtmdkgpkboidhfaaA15
set_option linter.unusedVariables false
noncomputable section
namespace Go.C08
open Go.Xe Go.Sx
def pairE (l m : List Int) : Int:=if chk l=0 then (if chk m=0 then (if l.length=m.length ∧ ∀ x ∈ m,x ∈ l then 0 else 16) else chk m) else chk l
def ordOf (l m : List Int) : List Int:=m.map (atI l)
def twoPre : List Dat→Prop
 | [.lst L, .lst M]=>isN L∧isN M
 | _=>False
def keptiPre:=twoPre
def keptiRel : List Dat→List Dat→Prop
 | [.lst L, .lst M],[.lst D, .int e]=>D=(if pairE (nums L) (nums M)=0 then lis (ordOf (nums L) (nums M)) else []).map row∧e=pairE (nums L) (nums M)
 | _,_=>False
def cKepti:=mkC "kepti" [nV,nV] keptiPre [cV,iV] keptiRel
def keptPre:=twoPre
def keptL (l m : List Int) : List Int:=(lis (ordOf l m)).map fun k=>m.getD k.toNat 0
def keptRel : List Dat→List Dat→Prop
 | [.lst L, .lst M],[.lst D, .int e]=>D=(if pairE (nums L) (nums M)=0 then keptL (nums L) (nums M) else []).map row∧e=pairE (nums L) (nums M)
 | _,_=>False
def cKept:=mkC "kept" [nV,nV] keptPre [cV,iV] keptRel
def plInv : List Dat→List Dat→Prop
 | [.lst L],[.int k, .lst M]=>0≤k∧k≤L.length ∧ ∀ x,mhasR M [x]=decide (x ∈ (nums L).take k.toNat)∧(x ∈ (nums L).take k.toNat→mgetR M [x] (.int 0) = .int (atI (nums L) x))
 | _,_=>False
def plMu : List Dat→List Dat→Nat
 | [.lst L], .int k :: _=>(L.length - k).toNat
 | _,_=>0
def orInv : List Dat→List Dat→Prop
 | [.lst L, .lst N],[.int k, .lst O]=>0≤k∧k≤N.length∧(0 < k→L.length=N.length)∧(∀ x ∈ (nums N).take k.toNat,x ∈ nums L) ∧ ∃ o : List Int,O=o.map row∧o.length=N.length∧o.take k.toNat=ordOf (nums L) ((nums N).take k.toNat)
 | _,_=>False
def orMu : List Dat→List Dat→Nat
 | [_, .lst N], .int k :: _=>(N.length - k).toNat
 | _,_=>0
def klInv : List Dat→List Dat→Prop
 | [.lst N, .lst I],[.int k, .lst O]=>0≤k∧k≤I.length ∧ ∃ o : List Int,O=o.map row∧o.length=I.length∧o.take k.toNat=((nums I).take k.toNat).map fun j=>(nums N).getD j.toNat 0
 | _,_=>False
def klMu : List Dat→List Dat→Nat
 | [_, .lst I], .int k :: _=>(I.length - k).toNat
 | _,_=>0
def annsW : FuncId→List (Nat × (Fm→SS→LAnn))
 | 27=>[(2,gAnn U0 "pl" (mkPl [(32, .int .i64),(9, .mac 3 3)] nob) (ghostT 0) plInv plMu),(4,gAnn U0 "or" (mkPl [(46, .int .i64),(12, .acc 3 1)] nob) (gh2 (ghostT 0) (ghostT 1)) orInv orMu)]
 | 14=>[(0,gAnn U0 "kl" (mkPl [(30, .int .i64),(8, .acc 3 1)] nob) (gh2 (ghostT 1) (ghostT 6)) klInv klMu)]
 | _=>[]
def stageW : Nat→List (FuncId × Con)
 | 0=>[(23,cCheck),(10,cLong),(9,cYes "lives")]
 | _=>[(27,cKepti),(9,cYes "lives")]
end Go.C08
