/- Chapter 36 (rises), orders: contracts and loops of checking, of what is kept.
  Conditions: none. -/
import Derived.Test.YtpdcecfnlccicaaR5
set_option linter.unusedVariables false
noncomputable section
namespace Go.C36
open Go.Xe Go.Sx
def Vl (l : List Int) : Option Int→Int→List Int→Prop
 | _,_,[]=>True
 | last,k,a :: o=>k≤a∧0≤a ∧ ∃ x,l[a.toNat]? = some x∧(∀ y,last=some y→y < x)∧Vl l (some x) (a+1) o
def chkF (seen : List Int) : List Int→Int
 | []=>0
 | x :: l=>if x < 0 then 1 else if x ∈ seen then 8 else chkF (seen ++ [x]) l
def chk (l : List Int) : Int:=chkF [] l
def atI : List Int→Int→Int
 | [],_ => -1
 | y :: l,x=>if y=x then 0 else (let k:=atI l x; if k < 0 then -1 else k+1)
def checkPre:=onePre
def checkRel : List Dat→List Dat→Prop
 | [.lst L],[.int e]=>e=chk (nums L)
 | _,_=>False
def cCheck:=mkC "check" [nV] checkPre [iV] checkRel
def seenInv : List Dat→List Dat→Prop
 | [.lst L],[.int k, .lst M]=>0≤k∧k≤L.length∧(∀ x,(mgetR M [x] (.bool false)).toBool=decide (x ∈ (nums L).take k.toNat))∧chkF ((nums L).take k.toNat) ((nums L).drop k.toNat)=chk (nums L)
 | _,_=>False
def seenMu : List Dat→List Dat→Nat
 | [.lst L], .int k :: _=>(L.length - k).toNat
 | _,_=>0
def pairE (l m : List Int) : Int:=if chk l=0 then (if chk m=0 then (if l.length=m.length ∧ ∀ x ∈ m,x ∈ l then 0 else 16) else chk m) else chk l
def ordOf (l m : List Int) : List Int:=m.map (atI l)
def twoPre : List Dat→Prop
 | [.lst L, .lst M]=>isN L∧isN M
 | _=>False
def keptiPre:=twoPre
def keptiRel : List Dat→List Dat→Prop
 | [.lst L, .lst M],[.lst D, .int e]=>D=(if pairE (nums L) (nums M)=0 then lis (ordOf (nums L) (nums M)) else []).map row∧e=pairE (nums L) (nums M)
 | _,_=>False
def cKepti:=mkC "kepti" [nV,nV] keptiPre [cV,iV] keptiRel
def keptPre:=twoPre
def keptL (l m : List Int) : List Int:=(lis (ordOf l m)).map fun k=>m.getD k.toNat 0
def keptRel : List Dat→List Dat→Prop
 | [.lst L, .lst M],[.lst D, .int e]=>D=(if pairE (nums L) (nums M)=0 then keptL (nums L) (nums M) else []).map row∧e=pairE (nums L) (nums M)
 | _,_=>False
def cKept:=mkC "kept" [nV,nV] keptPre [cV,iV] keptRel
def plInv : List Dat→List Dat→Prop
 | [.lst L],[.int k, .lst M]=>0≤k∧k≤L.length ∧ ∀ x,mhasR M [x]=decide (x ∈ (nums L).take k.toNat)∧(x ∈ (nums L).take k.toNat→mgetR M [x] (.int 0) = .int (atI (nums L) x))
 | _,_=>False
def plMu : List Dat→List Dat→Nat
 | [.lst L], .int k :: _=>(L.length - k).toNat
 | _,_=>0
def orInv : List Dat→List Dat→Prop
 | [.lst L, .lst N],[.int k, .lst O]=>0≤k∧k≤N.length∧(0 < k→L.length=N.length)∧(∀ x ∈ (nums N).take k.toNat,x ∈ nums L) ∧ ∃ o : List Int,O=o.map row∧o.length=N.length∧o.take k.toNat=ordOf (nums L) ((nums N).take k.toNat)
 | _,_=>False
def orMu : List Dat→List Dat→Nat
 | [_, .lst N], .int k :: _=>(N.length - k).toNat
 | _,_=>0
def klInv : List Dat→List Dat→Prop
 | [.lst N, .lst I],[.int k, .lst O]=>0≤k∧k≤I.length ∧ ∃ o : List Int,O=o.map row∧o.length=I.length∧o.take k.toNat=((nums I).take k.toNat).map fun j=>(nums N).getD j.toNat 0
 | _,_=>False
def klMu : List Dat→List Dat→Nat
 | [_, .lst I], .int k :: _=>(I.length - k).toNat
 | _,_=>0
def annsV : FuncId→List (Nat × (Fm→SS→LAnn))
 | 46=>[(0,gAnn U0 "seen" (mkPl [(12, .int .i64),(3, .mac 3 4)] nob) (ghostT 0) seenInv seenMu)]
 | 42=>[(2,gAnn U0 "pl" (mkPl [(32, .int .i64),(9, .mac 3 3)] nob) (ghostT 0) plInv plMu),(4,gAnn U0 "or" (mkPl [(46, .int .i64),(12, .acc 3 1)] nob) (gh2 (ghostT 0) (ghostT 1)) orInv orMu)]
 | 30=>[(0,gAnn U0 "kl" (mkPl [(30, .int .i64),(8, .acc 3 1)] nob) (gh2 (ghostT 1) (ghostT 6)) klInv klMu)]
 | _=>[]
def stageV : Nat→List (FuncId × Con)
 | 0=>[(12,cYes "lives")]
 | 1=>[(46,cCheck),(47,cLong),(12,cYes "lives")]
 | _=>[(42,cKepti),(12,cYes "lives")]
end Go.C36
