/- Chapter 36, the rows and pools of a law: contract.
  Conditions: none. -/
import Derived.Test.YtpdcecfnlccicaaP10
set_option linter.unusedVariables false
noncomputable section
namespace Go.C36
open Go.Xe Go.Sx
def uV : Vs := .agg (.g (.lst 23) :: .g (.lst 23) :: List.replicate 6 (.g (.int .u8)))
def bndOf (a : Int) : Int := a.tmod 5
def inOf (a b : Int) : Int := b.tmod (bndOf a + 1)
def u8 (n : Int) : Prop := 0 ≤ n ∧ n < 256
def uofPre : List Dat → Prop
 | [.lst O, .lst N, .int a, .int b, .int c, .int d, .int e, .int f] => (∃ l : List (Int × Int),O = l.map prRow ∧ ∀ p ∈ l,okPr p) ∧ (∃ l : List (Int × Int),N = l.map prRow ∧ ∀ p ∈ l,okPr p) ∧ u8 a ∧ u8 b ∧ u8 c ∧ u8 d ∧ u8 e ∧ u8 f
 | _ => False
def uofRel : List Dat → List Dat → Prop
 | [.lst O, .lst N, .int a, .int b, .int c, .int d, .int e, .int f],[.lst A, .lst B, .lst P, .lst Q] => A = (rowsL (prs O)).map Rw.row ∧ B = (rowsL (prs N)).map Rw.row ∧ P = [inOf a b,inOf c d,inOf e f].map row ∧ Q = [bndOf a,bndOf c,bndOf e].map row
 | _,_ => False
def cUof := mkC "uof" [uV] uofPre [lV,lV,nV,nV] uofRel
def annsY : FuncId → List (Nat × (Fm → SS → LAnn))
 | _ => []
def stageY : Nat → List (FuncId × Con) := fun _ => [(26,cRows),(12,cYes "lives")]
end Go.C36
