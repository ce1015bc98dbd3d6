/- Chapter 08, the orders of a law: contracts and loops.
  Conditions: none. -/
import Derived.Test.YtmdkgpkboidhfaaA25
set_option linter.unusedVariables false
noncomputable section
namespace Go.C08
open Go.Xe Go.Sx
def restL (f : Int) : Nat→List Int
 | 0=>[]
 | n+1=>restL f n ++ [f+3 * (n : Int)]
def isU8 (L : Sx.Rows) : Prop := ∃ l : List Int,L=l.map row ∧ ∀ x ∈ l,0≤x∧x < 256
def P4 : Vs := .agg [.g (.int .u8), .g (.int .u8), .g (.lst 5), .g (.lst 5)]
def orderPre : List Dat→Prop
 | [.int n, .int f, .lst _, .lst _, .lst L]=>(0≤n∧n < 256)∧(0≤f∧f < 256)∧isU8 L
 | _=>False
def orderRel : List Dat→List Dat→Prop
 | [.int n, .int f, .lst _, .lst _, .lst _],[.lst D] => ∃ o : List Int,D=o.map row∧o.Perm (restL f (n.tmod 41).toNat)
 | _,_=>False
def cOrder:=mkC "order" [P4, .one (.g (.lst 5))] orderPre [nV] orderRel
def od0Inv : List Dat→List Dat→Prop
 | [.int n, .int f],[.int k, .lst R]=>0≤k∧k≤n.tmod 41∧R=(restL f k.toNat).map row
 | _,_=>False
def od0Mu : List Dat→List Dat→Nat
 | .int n :: _, .int k :: _=>(n.tmod 41 - k).toNat
 | _,_=>0
def od2Inv : List Dat→List Dat→Prop
 | [.int n, .int f, .lst L],[.int k, .lst R, .lst O]=>0≤k ∧ ∃ r o : List Int,R=r.map row∧O=o.map row∧(o.length : Int)=k∧(o ++ r).Perm (restL f (n.tmod 41).toNat)
 | _,_=>False
def od2Mu : List Dat→List Dat→Nat
 | _,[_, .lst R,_]=>R.length
 | _,_=>0
def pofPre : List Dat→Prop
 | [.int n, .int f, .lst A, .lst B]=>(0≤n∧n < 256)∧(0≤f∧f < 256)∧isU8 A∧isU8 B
 | _=>False
def pofRel : List Dat→List Dat→Prop
 | [.int n, .int f, .lst _, .lst _],[.lst D, .lst E]=>(∃ o : List Int,D=o.map row∧o.Perm (restL f (n.tmod 41).toNat)) ∧ ∃ o : List Int,E=o.map row∧o.Perm (restL f (n.tmod 41).toNat)
 | _,_=>False
def cPof:=mkC "pof" [P4] pofPre [nV,nV] pofRel
def annsP : FuncId → List (Nat × (Fm → SS → LAnn))
 | 26 => [(0, gAnn U0 "od0" (mkPl [(7, .int .i64), (5, .acc 3 1)] nob) (gh2 (ghCell 2 0) (ghCell 2 1)) od0Inv od0Mu),
   (2,gAnn U0 "od2" (mkPl [(8, .int .i64),(5, .lst 3),(6, .acc 3 1)] nob) (gh2 (ghCell 2 0) (gh2 (ghCell 2 1) (ghostT 1))) od2Inv od2Mu)]
 | _=>[]
def stageP : Nat→List (FuncId × Con)
 | 0=>[(9,cYes "lives")]
 | _=>[(26,cOrder),(9,cYes "lives")]
end Go.C08
