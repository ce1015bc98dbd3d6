/- Chapter 36, PlansOf and PlansErrors: contracts and loops.
  Conditions: none. -/
import Derived.Test.YtpdcecfnlccicaaQ5
set_option linter.unusedVariables false
noncomputable section
namespace Go.C36
open Go.Xe Go.Sx
def isElse (s : Stp) : Bool := decide (s.w ≠ 1 ∧ s.w ≠ 2)
def isOut (s : Stp) : Bool := decide (s.w < 1 ∨ 3 < s.w)
def perrPre : List Dat → Prop
 | [.lst O, .lst N, .lst P, .lst B, .lst L, .lst S] => (∃ o : List Rw, O = o.map Rw.row ∧ ∀ r ∈ o, r.Ok) ∧ (∃ n : List Rw, N = n.map Rw.row ∧ ∀ r ∈ n, r.Ok) ∧ (∃ p : List Int, P = p.map row) ∧ (∃ b : List Int, B = b.map row ∧ ∀ x ∈ b, x < 9223372036854775808) ∧
   (∃ l : List Lv, L = l.map Lv.row) ∧ ∃ s : List Stp, S = s.map Stp.row
 | _ => False
def perrRel := trueR
def cPerr := mkC "perr" [.agg [.g (.lst 47), .g (.lst 47)], .agg [.g (.lst 3), .g (.lst 3)], pV] perrPre [bV] perrRel
def w0Inv : List Dat → List Dat → Prop
 | [.lst S], [.int i, .int a, .int b, .int c, .int m, .lst A] => 0 ≤ i ∧ i ≤ S.length ∧ a = many isStay ((stps S).take i.toNat) ∧ b = many isBind ((stps S).take i.toNat) ∧ c = many isElse ((stps S).take i.toNat) ∧ m = many isMove ((stps S).take i.toNat) ∧
   a ≤ i ∧ b ≤ i ∧ c ≤ i ∧ m ≤ i ∧ (A.length : Int) = i ∧ ∃ x : List Int, A = x.map row ∧ x = (aheadF 0 (stps S)).take i.toNat
 | _, _ => False
def w0Mu : List Dat → List Dat → Nat
 | .lst S :: _, .int i :: _ => (S.length - i).toNat
 | _, _ => 0
def w3Inv : List Dat → List Dat → Prop
 | [.lst S, .int i], [.int k, .int n] => i ≤ k ∧ k < S.length ∧ n = nxt (k + 1) ((stps S).drop (k + 1).toNat)
 | _, _ => False
def w3Mu : List Dat → List Dat → Nat
 | [_, .int i], .int k :: _ => (k - i).toNat
 | _, _ => 0
def w5Inv : List Dat → List Dat → Prop
 | [.lst L], [.int i, .int n] => 0 ≤ i ∧ i ≤ L.length ∧ n = drops ((lvs L).take i.toNat) ∧ n ≤ i
 | _, _ => False
def w5Mu := w0Mu
def ty0Inv : List Dat → List Dat → Prop
 | [], [.int k] => -1 ≤ k ∧ k ≤ 10
 | _, _ => False
def ty0Mu : List Dat → List Dat → Nat
 | _, [.int k] => (10 - k).toNat
 | _, _ => 0
def ot2Inv : List Dat → List Dat → Prop
 | [.lst S], [.int i, .int n] => 0 ≤ i ∧ i ≤ S.length ∧ n = many isOut ((stps S).take i.toNat) ∧ n ≤ i
 | _, _ => False
def ot2Mu := w0Mu
def annsE : FuncId → List (Nat × (Fm → SS → LAnn))
 | 5 => [(0, gAnn U0 "w0" (mkPl [(16, .int .i64), (10, .int .i64), (11, .int .i64), (12, .int .i64), (14, .int .i64), (15, .acc 3 1)] nob) (ghCell 7 1) w0Inv w0Mu),
   (3, gAnn U0 "w3" (mkPl [(19, .int .i64), (18, .int .i64)] nob) (gh2 (ghCell 7 1) (ghostT 16)) w3Inv w3Mu),
   (5, gAnn U0 "w5" (mkPl [(20, .int .i64), (13, .int .i64)] nob) (ghCell 7 0) w5Inv w5Mu)]
 | 6 => [(0, gAnn U0 "ty0" (mkPl [(10, .int .i64)] nob) (fun _ _ => []) ty0Inv ty0Mu), (2, gAnn U0 "ot2" (mkPl [(12, .int .i64), (11, .int .i64)] nob) (ghCell 5 1) ot2Inv ot2Mu)]
 | _ => []
def stageE : Nat → List (FuncId × Con)
 | 0 => [(8, cUof), (19, cRof), (9, cOf), (20, cPeq), (13, cAhead), (21, cInts), (10, cNstays), (22, cNbinds), (17, cNmakes), (18, cNdrops), (11, cNmoves), (12, cYes "lives")]
 | _ => [(19, cRof), (9, cOf), (20, cPeq), (13, cAhead), (10, cNstays), (22, cNbinds), (17, cNmakes), (18, cNdrops), (11, cNmoves), (24, cPcheck), (25, cRcheck), (23, cRerr), (12, cYes "lives")]
end Go.C36
