/- Chapter 36, PlansSame: contract and loop.
  Conditions: none. -/
import Derived.Test.YtpdcecfnlccicaaP17
set_option linter.unusedVariables false
noncomputable section
namespace Go.C36
open Go.Xe Go.Sx

def trueR (_ e : List Dat) : Prop := e = [.bool true]
def psamePre := uofPre
def psameRel := trueR
def cPsame := mkC "psame" [uV] psamePre [bV] psameRel
def sameSInv : List Dat → List Dat → Prop
  | [.lst S], [.int k] => 0 ≤ k ∧ k ≤ S.length
  | _, _ => False
def sameSMu : List Dat → List Dat → Nat
  | [.lst S], .int k :: _ => (S.length - k).toNat
  | _, _ => 0
def annsA : FuncId → List (Nat × (Fm → SS → LAnn))
  | 3 => [(0, gAnn U0 "sameS" (mkPl [(13, .int .i64)] nob) (ghCell 7 1) sameSInv sameSMu)]
  | _ => []
def stageA : Nat → List (FuncId × Con)
  | _ => [(8, cUof), (9, cOf), (10, cNstays), (11, cNmoves), (12, cYes "lives")]
def todoA : List (Nat × FuncId × Con) := [(0, 3, cPsame)]

end Go.C36
