/- Chapter 08, the closed law RisesKnown: contracts and loops.
  Conditions: none. -/
import Derived.Test.YtmdkgpkboidhfaaA34
set_option linter.unusedVariables false
noncomputable section
namespace Go.C08
open Go.Xe Go.Sx
def listPre : List Dat→Prop
 | [.lst L] => ∃ l : List Int,L=l.map row
 | _=>False
def longxRel : List Dat→List Dat→Prop
 | [.lst L],[.lst D, .int e]=>D=(if 4096 < (L.length : Int) then [] else lis (nums L)).map row∧e=if 4096 < (L.length : Int) then 3 else 0
 | _,_=>False
def longxPre:=listPre
def cLongx:=mkC "longx" [nV] longxPre [cV,iV] longxRel
def checkxRel : List Dat→List Dat→Prop
 | [.lst L],[.int e]=>e=if 4096 < (L.length : Int) then 3 else chk (nums L)
 | _,_=>False
def checkxPre:=listPre
def cCheckx:=mkC "checkx" [nV] checkxPre [iV] checkxRel
def knPre (d : List Dat) : Prop:=d=[]
def knRel:=trueRel
def cKn:=mkC "kn" [] knPre [bV] knRel
def noGh : Fm→SS→List (So × E):=fun _ _=>[]
def kaInv : List Dat→List Dat→Prop
 | _,[.lst A, .lst B, .int k]=>0≤k∧k≤4097 ∧ ∃ a b : List Int,A=a.map row∧B=b.map row∧a.length=4097∧b.length=4097 ∧ ∀ i : Nat,(i : Int) < k→a[i]? = some (i : Int)∧b[i]? = some (4097 - (i : Int))
 | _,_=>False
def kaMu : List Dat→List Dat→Nat
 | _,[_,_, .int k]=>(4097 - k).toNat
 | _,_=>0
def kbInv : List Dat→List Dat→Prop
 | _,[.lst A, .int k]=>0≤k∧k≤4096 ∧ ∃ a : List Int,A=a.map row∧a.length=4096 ∧ ∀ i : Nat,(i : Int) < k→a[i]? = some (((i : Int)+1000).tmod 4096)
 | _,_=>False
def kbMu : List Dat→List Dat→Nat
 | _,[_, .int k]=>(4097 - k).toNat
 | _,_=>0
def kcMu:=kbMu
def kcInv : List Dat→List Dat→Prop
 | _,[.lst A, .int k]=>0≤k∧k≤4097 ∧ ∃ a : List Sp,A=a.map Sp.row∧a.length=4097 ∧ ∀ i : Nat,(i : Int) < k→a[i]? = some ⟨1, -1⟩
 | _,_=>False
def annsK : FuncId → List (Nat × (Fm → SS → LAnn))
 | 8 => [(0, gAnn U0 "ka" (mkPr (fun f s => rowsT 1 f s ++ rowsT 2 f s) [(4, .int .i64)] nob) noGh kaInv kaMu),
   (2,gAnn U0 "kb" (mkPr (rowsT 3) [(5, .int .i64)] nob) noGh kbInv kbMu),
   (4,gAnn U0 "kc" (mkPr (rowsT 16) [(17, .int .i64)] nob) noGh kcInv kcMu)]
 | 10=>annsS 10
 | 23=>annsV 23
 | _=>[]
def stageK : Nat→List (FuncId × Con)
 | 0=>[(24,cLen),(25,cMax),(9,cYes "lives")]
 | 1=>[(9,cYes "lives")]
 | _=>[(10,cLongx),(23,cCheckx),(15,cMoves),(19,cCarry),(11,cSame),(9,cYes "lives")]
end Go.C08
