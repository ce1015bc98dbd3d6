/- Chapter 36, the rows that a law makes: contract and loops.
  Conditions: none. -/
import Derived.Test.YtpdcecfnlccicaaP3
set_option linter.unusedVariables false
noncomputable section
namespace Go.C36
open Go.Xe Go.Sx
def prRow (p : Int × Int) : List Dat := [.int p.1, .int p.2]
def prOf (r : List Dat) : Int × Int := ((r.getD 0 (.int 0)).toInt,(r.getD 1 (.int 0)).toInt)
def prs (L : Sx.Rows) : List (Int × Int) := L.map prOf
def okPr (p : Int × Int) : Prop := (0 ≤ p.1 ∧ p.1 < 256) ∧ 0 ≤ p.2 ∧ p.2 < 256
def mkRw (p : Int × Int) : Rw := ⟨1 + p.1.tmod 30,p.2.tmod 3⟩
def addR (o : List Rw) (p : Int × Int) : List Rw := if (mkRw p).k ∈ o.map Rw.k then o else o ++ [mkRw p]
def rowsL (l : List (Int × Int)) : List Rw := (l.take 20).foldl addR []
def rowsPre : List Dat → Prop
 | [.lst L] => ∃ l : List (Int × Int),L = l.map prRow ∧ ∀ p ∈ l,okPr p
 | _ => False
def rowsRel : List Dat → List Dat → Prop
 | [.lst L],[.lst D] => D = (rowsL (prs L)).map Rw.row
 | _,_ => False
def cRows := mkC "rows" [.one (.g (.lst 23))] rowsPre [lV] rowsRel
def rwInv : List Dat → List Dat → Prop
 | [.lst L],[.int k, .lst O] => 0 ≤ k ∧ k ≤ L.length ∧ k ≤ 20 ∧ O = (((prs L).take k.toNat).foldl addR []).map Rw.row ∧ (O.length : Int) ≤ k
 | _,_ => False
def rwMu : List Dat → List Dat → Nat
 | [.lst L], .int k :: _ => (L.length - k).toNat
 | _,_ => 0
def twInv : List Dat → List Dat → Prop
 | [.lst O, .int x],[.int k, .bool b] => 0 ≤ k ∧ k ≤ O.length ∧ b = decide (x ∈ ((rws O).take k.toNat).map Rw.k)
 | _,_ => False
def twMu : List Dat → List Dat → Nat
 | [.lst O,_], .int k :: _ => (O.length - k).toNat
 | _,_ => 0
def ghKey (t : Nat) : Fm → SS → List (So × E) := fun f s => match lk f t with
 | some (.ptr b _ _ _) => match s.get b with
  | some (.cells (.int _ e :: _) _ _) => [(.i,e)]
  | _ => []
 | _ => []
def annsQ : FuncId → List (Nat × (Fm → SS → LAnn))
 | 26 => [(0,gAnn U0 "rw" (mkPl [(4, .int .i64),(3, .acc 47 2)] nob) (ghostT 0) rwInv rwMu),(2,gAnn U0 "tw" (mkPl [(7, .int .i64),(6, .bool)] nob) (gh2 (ghostT 3) (ghKey 5)) twInv twMu)]
 | _ => []
def stageQ : Nat → List (FuncId × Con) := fun _ => [(12,cYes "lives")]
end Go.C36
