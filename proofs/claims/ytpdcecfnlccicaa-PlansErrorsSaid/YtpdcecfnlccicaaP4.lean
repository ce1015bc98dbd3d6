/- Chapter 36, the rows that a law makes: contract and loops.
  Conditions: none. -/
import Derived.Test.YtpdcecfnlccicaaP3
set_option linter.unusedVariables false
noncomputable section
namespace Go.C36
open Go.Xe Go.Sx
def prRow (p : Int × Int) : List Dat := [.int p.1, .int p.2]
def prOf (r : List Dat) : Int × Int := ((r.getD 0 (.int 0)).toInt, (r.getD 1 (.int 0)).toInt)
def prs (L : Sx.Rows) : List (Int × Int) := L.map prOf
def okPr (p : Int × Int) : Prop := (0 ≤ p.1 ∧ p.1 < 256) ∧ 0 ≤ p.2 ∧ p.2 < 256
def mkRw (p : Int × Int) : Rw := ⟨1 + p.1.tmod 30, p.2.tmod 3⟩
def addR (o : List Rw) (p : Int × Int) : List Rw := if (mkRw p).k ∈ o.map Rw.k then o else o ++ [mkRw p]
def rowsL (l : List (Int × Int)) : List Rw := (l.take 20).foldl addR []
end Go.C36
