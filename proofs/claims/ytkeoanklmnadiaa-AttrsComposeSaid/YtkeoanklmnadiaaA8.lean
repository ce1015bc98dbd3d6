/- Chapter 13, the functions of attrs and the reference's Apply: loops and stages.
  Conditions: none. -/
import Derived.Test.YtkeoanklmnadiaaA7
noncomputable section
namespace Go.C13
open Go Go.Xe Go.Sx

def cedInv : List Dat → List Dat → Prop
  | [.lst L], [.int k] => 0 ≤ k ∧ k ≤ L.length ∧ ∀ a ∈ (eds L).take k.toNat, okEd a = true
  | _, _ => False
def cedMu := llMu
def ceoInv : List Dat → List Dat → Prop
  | [.lst L], [.int k] => 1 ≤ k ∧ (k ≤ L.length ∨ k = 1) ∧ pw (((eds L).take k.toNat).map Ed.n)
  | _, _ => False
def ceoMu := llMu
def bseInv : List Dat → List Dat → Prop
  | [.lst L, .str n], [.int i, .int j] => 0 ≤ i ∧ i ≤ j ∧ j ≤ L.length ∧ (∀ (x : Nat) (a : Att), (x : Int) < i → (ats L)[x]? = some a → lt a.n n = true) ∧ (∀ (x : Nat) (a : Att), j ≤ (x : Int) → (ats L)[x]? = some a → lt a.n n = false)
  | _, _ => False
def bseMu : List Dat → List Dat → Nat
  | _, [.int i, .int j] => (j - i).toNat
  | _, _ => 0
def rapInv : List Dat → List Dat → Prop
  | [.lst L, .lst E], [.lst O, .int k] => 0 ≤ k ∧ k ≤ E.length ∧ ∃ o : List Att, O = o.map Att.row ∧ (o.length : Int) ≤ L.length + k ∧ stepsA o ((eds E).drop k.toNat) = stepsA (ats L) (eds E)
  | _, _ => False
def rapMu : List Dat → List Dat → Nat
  | [_, .lst E], [_, .int k] => (E.length - k).toNat
  | _, _ => 0
def merMu : List Dat → List Dat → Nat
  | [.lst A, .lst B], .int i :: .int k :: _ => ((A.length - i) + (B.length - k)).toNat
  | _, _ => 0
def merDInv : List Dat → List Dat → Prop
  | [.lst A, .lst B], [.int i, .int k, .lst O] => 0 ≤ i ∧ i ≤ A.length ∧ 0 ≤ k ∧ k ≤ B.length ∧ ∃ o : List Ed, O = o.map Ed.row ∧ (o.length : Int) ≤ i + k ∧ o ++ diffM ((ats A).drop i.toNat) ((ats B).drop k.toNat) = diffM (ats A) (ats B)
  | _, _ => False
def merAInv : List Dat → List Dat → Prop
  | [.lst A, .lst B], [.int i, .int k, .lst O, .int e] => 0 ≤ i ∧ i ≤ A.length ∧ 0 ≤ k ∧ k ≤ B.length ∧ (e = 0 ∧ badM ((ats A).drop i.toNat) ((eds B).drop k.toNat) = badM (ats A) (eds B) ∨ e = 11 ∧ badM (ats A) (eds B) = true) ∧
      ∃ o : List Att, O = o.map Att.row ∧ (o.length : Int) ≤ i + k ∧ o ++ appM ((ats A).drop i.toNat) ((eds B).drop k.toNat) = appM (ats A) (eds B)
  | _, _ => False
def merCInv : List Dat → List Dat → Prop
  | [.lst A, .lst B], [.int i, .int k, .lst O] => 0 ≤ i ∧ i ≤ A.length ∧ 0 ≤ k ∧ k ≤ B.length ∧ ∃ o : List Ed, O = o.map Ed.row ∧ (o.length : Int) ≤ i + k ∧ o ++ compM ((eds A).drop i.toNat) ((eds B).drop k.toNat) = compM (eds A) (eds B)
  | _, _ => False
def merDMu := merMu
def merAMu := merMu
def merCMu := merMu

def annsA : FuncId → List (Nat × (Fm → SS → LAnn))
  | 12 => [(0, gAnn U0 "ced" (mkPl [(8, .int .i64)] nob) (ghostT 6) cedInv cedMu), (2, gAnn U0 "ceo" (mkPl [(5, .int .i64)] nob) (ghostT 0) ceoInv ceoMu)]
  | 44 => [(0, gAnn U0 "bse" (mkPl [(9, .int .i64), (10, .int .i64)] nob) (gh2 (ghostT 0) (ghostT 1)) bseInv bseMu)]
  | 13 => [(0, gAnn U0 "rap" (mkPl [(6, .lst 59), (7, .int .i64)] nob) (gh2 (ghostT 0) (ghostT 1)) rapInv rapMu)]
  | 26 => [(0, gAnn U0 "merD" (mkPl [(10, .int .i64), (11, .int .i64)] (capB 4 0 [.acc 61 3])) (gh2 (ghostT 0) (ghostT 1)) merDInv merDMu)]
  | 29 => [(0, gAnn U0 "merA" (mkPl [(10, .int .i64), (11, .int .i64)] (cap2 (capB 4 0 [.acc 59 2]) (capB 4 3 [.int .i64]))) (gh2 (ghostT 0) (ghostT 1)) merAInv merAMu)]
  | 35 => [(0, gAnn U0 "merC" (mkPl [(10, .int .i64), (11, .int .i64)] (capB 4 0 [.acc 61 3])) (gh2 (ghostT 0) (ghostT 1)) merCInv merCMu)]
  | _ => []

def stageA0 : List (FuncId × Con) := [(54, cNamed), (53, cText), (37, cRname), (38, cRstr), (42, cCmp), (19, cNm), (24, cVal), (22, cCheck), (20, cRcheck), (18, cRcedits), (23, cRfind), (11, cSame), (33, cIns), (14, cPlain), (8, cOfl), (16, cOfw), (15, cYes "lives")]
def stageA : Nat → List (FuncId × Con)
  | 0 => stageA0
  | _ => (12, cCedits) :: stageA0
def todoA : List (Nat × FuncId × Con) := [(0, 12, cCedits), (0, 21, cFind), (0, 13, cRapp), (1, 9, cDiff), (1, 10, cApp), (1, 17, cComp)]

end Go.C13
