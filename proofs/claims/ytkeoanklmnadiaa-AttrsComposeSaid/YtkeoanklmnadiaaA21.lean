/- Chapter 13, AttrsDiff and AttrsCompose: contracts and loops.
  Conditions: none. -/
import Derived.Test.YtkeoanklmnadiaaA19
set_option linter.unusedVariables false
noncomputable section
namespace Go.C13
open Go Go.Xe Go.Sx

def compsPre (d : List Dat) : Prop := ∃ t vs a as' b bs, lPre t vs ∧ wPre a as' ∧ wPre b bs ∧ d = .int t :: vs.map Dat.int ++ .int a :: as'.map Dat.int ++ .int b :: bs.map Dat.int
def compsRel := trueRel
def cComps := mkC "comps" [lV, wV, wV] compsPre [bV] compsRel

def zeroE : Ed := ⟨[], false, []⟩
/-- The last edit of a name. -/
def lastW (l : List Ed) (n : Str) : Ed := l.foldl (fun w e => if e.n = n then e else w) zeroE

def dropInv : List Dat → List Dat → Prop
  | [.lst L, .lst M, .lst D], [.int k] => 0 ≤ k ∧ k ≤ D.length
  | _, _ => False
def dropMu : List Dat → List Dat → Nat
  | [_, _, .lst D], [.int k] => (D.length - k).toNat
  | _, _ => 0
def namesInv : List Dat → List Dat → Prop
  | [.lst P, .lst Q, .lst C], [.int k] => 0 ≤ k ∧ k ≤ 12
  | _, _ => False
def namesMu : List Dat → List Dat → Nat
  | _, [.int k] => (12 - k).toNat
  | _, _ => 0
def lastInv : List Dat → List Dat → Prop
  | [.lst A, .int i], [.int k, .str n, .bool d, .str v] => 0 ≤ k ∧ k ≤ A.length ∧ (⟨n, d, v⟩ : Ed) = lastW ((eds A).take k.toNat) (nameOf i)
  | _, _ => False
def lastMu : List Dat → List Dat → Nat
  | [.lst A, _], .int k :: _ => (A.length - k).toNat
  | _, _ => 0

def gh3 (a b c : Fm → SS → List (So × E)) : Fm → SS → List (So × E) := fun f s => a f s ++ b f s ++ c f s
def annsD : FuncId → List (Nat × (Fm → SS → LAnn))
  | 3 => [(0, gAnn U0 "drop" (mkPl [(11, .int .i64)] nob) (gh3 (ghostT 5) (ghostT 6) (ghostT 7)) dropInv dropMu)]
  | 5 => [(0, gAnn U0 "names" (mkPl [(11, .int .i64)] nob) (gh3 (ghostT 7) (ghostT 8) (ghostT 9)) namesInv namesMu),
      (2, gAnn U0 "last" (mkPl [(14, .int .i64)] (cellsT 12 [.str, .bool, .str])) (gh2 (ghostT 13) (ghostT 11)) lastInv lastMu),
      (4, gAnn U0 "last" (mkPl [(17, .int .i64)] (cellsT 15 [.str, .bool, .str])) (gh2 (ghostT 16) (ghostT 11)) lastInv lastMu)]
  | _ => []
def stageD : Nat → List (FuncId × Con) := stageL
def todoD : List (Nat × FuncId × Con) := [(0, 3, cDiffs), (0, 5, cComps)]

end Go.C13
