/- Chapter 08, RisesLeast: its contract and loops.
  Conditions: none. -/
import Derived.Test.YtmdkgpkboidhfaaA6
set_option linter.unusedVariables false
noncomputable section
namespace Go.C08
open Go.Xe Go.Sx

/-- A rising subsequence from place k on, whose first number is greater than the last one. -/
def Vl (l : List Int) : Option Int → Int → List Int → Prop
  | _, _, [] => True
  | last, k, a :: o => k ≤ a ∧ 0 ≤ a ∧ ∃ x, l[a.toNat]? = some x ∧ (∀ y, last = some y → y < x) ∧ Vl l (some x) (a + 1) o

def leastPre : List Dat → Prop
  | [.lst L, .int w] => (∃ l : List Int, L = l.map row) ∧ 0 ≤ w ∧ w < 65536
  | _ => False
def leastRel := trueRel
def cLeast := mkC "least" [nV, .one (.g (.int .u16))] leastPre [bV] leastRel

def chkInv : List Dat → List Dat → Prop
  | [.lst L, .lst G], [.int k] => 0 ≤ k ∧ k ≤ G.length
  | _, _ => False
def chkMu : List Dat → List Dat → Nat
  | [_, .lst G], [.int k] => (G.length - k).toNat
  | _, _ => 0
def othInv : List Dat → List Dat → Prop
  | [.lst L], [.int k, .lst O] => 0 ≤ k ∧ k ≤ L.length ∧ ∃ o : List Int, O = o.map row ∧ Vl (nums L) none 0 o ∧ (∀ a ∈ o, 0 ≤ a ∧ a < k) ∧ (o.length : Int) ≤ k
  | _, _ => False
def othMu : List Dat → List Dat → Nat
  | [.lst L], .int k :: _ => (L.length - k).toNat
  | _, _ => 0
def cmpInv : List Dat → List Dat → Prop
  | [.lst G, .lst O], [.int k] => 0 ≤ k ∧ k ≤ G.length ∧ (nums G).take k.toNat = (nums O).take k.toNat
  | _, _ => False
def cmpMu : List Dat → List Dat → Nat
  | [.lst G, _], [.int k] => (G.length - k).toNat
  | _, _ => 0

def annsT : FuncId → List (Nat × (Fm → SS → LAnn))
  | 4 => [(0, gAnn U0 "chk" (mkPl [(7, .int .i64)] nob) (gh2 (ghostT 0) (ghostT 5)) chkInv chkMu),
      (2, gAnn U0 "oth" (mkPl [(9, .int .i64), (8, .acc 3 1)] nob) (ghostT 0) othInv othMu),
      (4, gAnn U0 "cmp" (mkPl [(10, .int .i64)] nob) (gh2 (ghostT 5) (ghostT 8)) cmpInv cmpMu)]
  | _ => []
def stageT : Nat → List (FuncId × Con) := fun _ => [(10, cLong), (9, cYes "lives")]
def todoT : List (Nat × FuncId × Con) := [(0, 4, cLeast)]

end Go.C08
