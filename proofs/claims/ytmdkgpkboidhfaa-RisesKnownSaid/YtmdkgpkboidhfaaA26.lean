/- Chapter 08, the orders of a law: contracts and loops.
  Conditions: none. -/
import Derived.Test.YtmdkgpkboidhfaaA25
set_option linter.unusedVariables false
noncomputable section
namespace Go.C08
open Go.Xe Go.Sx
def restL (f : Int) : Nat→List Int
 | 0=>[]
 | n+1=>restL f n ++ [f+3 * (n : Int)]
def isU8 (L : Sx.Rows) : Prop := ∃ l : List Int,L=l.map row ∧ ∀ x ∈ l,0≤x∧x < 256
def P4 : Vs := .agg [.g (.int .u8), .g (.int .u8), .g (.lst 5), .g (.lst 5)]
def pofPre : List Dat→Prop
 | [.int n, .int f, .lst A, .lst B]=>(0≤n∧n < 256)∧(0≤f∧f < 256)∧isU8 A∧isU8 B
 | _=>False
def pofRel : List Dat→List Dat→Prop
 | [.int n, .int f, .lst _, .lst _],[.lst D, .lst E]=>(∃ o : List Int,D=o.map row∧o.Perm (restL f (n.tmod 41).toNat)) ∧ ∃ o : List Int,E=o.map row∧o.Perm (restL f (n.tmod 41).toNat)
 | _,_=>False
def cPof:=mkC "pof" [P4] pofPre [nV,nV] pofRel
end Go.C08
