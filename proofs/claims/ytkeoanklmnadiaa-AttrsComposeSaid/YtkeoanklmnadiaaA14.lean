/- Chapter 13, the laws: contracts, loops and the stage.
  Conditions: none. -/
import Derived.Test.YtkeoanklmnadiaaA13
noncomputable section
namespace Go.C13
open Go Go.Xe Go.Sx

/-- Numbers, as an argument that is a struct. -/
def lPre (t : Int) (vs : List Int) : Prop := u8 t ∧ vs.length = 8 ∧ ∀ n ∈ vs, u8 n
def wPre (w : Int) (vs : List Int) : Prop := (0 ≤ w ∧ w < 4294967296) ∧ vs.length = 12 ∧ ∀ n ∈ vs, u8 n

def errPre : List Dat → Prop
  | [.lst L, .lst E, .str _] => (∃ l : List Att, L = l.map Att.row) ∧ ∃ l : List Ed, E = l.map Ed.row
  | _ => False
def errRel := trueRel
def cErr := mkC "err" [aV, eV, sV] errPre [bV] errRel

def appliesPre (d : List Dat) : Prop := ∃ t vs w ws, lPre t vs ∧ wPre w ws ∧ d = .int t :: vs.map Dat.int ++ .int w :: ws.map Dat.int
def appliesRel := trueRel
def cApplies := mkC "applies" [lV, wV] appliesPre [bV] appliesRel

def diffsPre (d : List Dat) : Prop := ∃ t vs w ws, lPre t vs ∧ lPre w ws ∧ d = .int t :: vs.map Dat.int ++ .int w :: ws.map Dat.int
def diffsRel := trueRel
def cDiffs := mkC "diffs" [lV, lV] diffsPre [bV] diffsRel

def annsL : FuncId → List (Nat × (Fm → SS → LAnn))
  | _ => []

def stageL : Nat → List (FuncId × Con)
  | _ => (9, cDiff) :: (10, cApp) :: (17, cComp) :: (21, cFind) :: (13, cRapp) :: (12, cCedits) :: stageA0
def todoL : List (Nat × FuncId × Con) := [(0, 6, cErr), (0, 4, cApplies)]

end Go.C13
