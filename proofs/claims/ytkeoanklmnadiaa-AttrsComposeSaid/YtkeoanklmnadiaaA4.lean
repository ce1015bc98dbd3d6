/- Chapter 13, lists: loops of the functions that check, copy and change lists.
  Conditions: none. -/
import Derived.Test.YtkeoanklmnadiaaA3
noncomputable section
namespace Go.C13
open Go Go.Xe Go.Sx

/-- The cells of the block that a temporary points to. -/
def ghV : SV → Option (So × E)
  | .int _ e => some (.i, e)
  | .bool e => some (.b, e)
  | .str e => some (.s, e)
  | .lst _ e _ => some (.l, e)
  | _ => none
def ghC (t : Nat) (js : List Nat) : Fm → SS → List (So × E) := fun f s => match lk f t with
  | some (.ptr b _ _ _) => match s.get b with
    | some (.cells l _ _) => js.filterMap fun j => match l[j]? with
      | some v => ghV v
      | none => none
    | _ => []
  | _ => []

def pw (l : List Str) : Prop := l.Pairwise fun a b => lt a b = true
/-- The first k attributes are right. -/
def attInv : List Dat → List Dat → Prop
  | [.lst L], [.int k] => 0 ≤ k ∧ k ≤ L.length ∧ (∀ a ∈ (ats L).take k.toNat, okAt a = true) ∧ asc (((ats L).take k.toNat).map Att.n) = true
  | _, _ => False
def attMu := llMu
def oneInv : List Dat → List Dat → Prop
  | [.lst L], [.int k] => 0 ≤ k ∧ k ≤ L.length ∧ (∀ a ∈ (ats L).take k.toNat, okAt a = true) ∧ pw (((ats L).take k.toNat).map Att.n)
  | _, _ => False
def oneMu := llMu
/-- The names ahead of number i are less, the first k of them. -/
def oneKInv : List Dat → List Dat → Prop
  | [.lst L, .int i], [.int k] => 0 ≤ k ∧ k ≤ i ∧ ∀ (j : Nat) (a b : Att), (j : Int) < k → (ats L)[j]? = some a → (ats L)[i.toNat]? = some b → lt a.n b.n = true
  | _, _ => False
def oneKMu : List Dat → List Dat → Nat
  | [_, .int i], [.int k] => (i - k).toNat
  | _, _ => 0
def redInv : List Dat → List Dat → Prop
  | [.lst L], [.int o, .int k] => 0 ≤ k ∧ k ≤ L.length ∧ (∀ a ∈ (eds L).take k.toNat, okEd a = true) ∧ (o = 0 ∧ pw (((eds L).take k.toNat).map Ed.n) ∨ o = 16 ∧ ¬ pw (((eds L).take k.toNat).map Ed.n))
  | _, _ => False
def redMu : List Dat → List Dat → Nat
  | [.lst L], [_, .int k] => (L.length - k).toNat
  | _, _ => 0
def lessK (l : List Ed) (i : Nat) (k : Int) : Prop := ∀ (j : Nat) (a b : Ed), (j : Int) < k → l[j]? = some a → l[i]? = some b → lt a.n b.n = true
def redKInv : List Dat → List Dat → Prop
  | [.lst L, .int i], [.int o, .int k] => 0 ≤ k ∧ k ≤ i ∧ (o = 0 ∧ (pw (((eds L).take i.toNat).map Ed.n) ∧ lessK (eds L) i.toNat k) ∨ o = 16 ∧ ¬ (pw (((eds L).take i.toNat).map Ed.n) ∧ lessK (eds L) i.toNat k))
  | _, _ => False
def redKMu : List Dat → List Dat → Nat
  | [_, .int i], [_, .int k] => (i - k).toNat
  | _, _ => 0
def rfiInv : List Dat → List Dat → Prop
  | [.lst L, .str n], [.int k] => 0 ≤ k ∧ k ≤ L.length ∧ idxA (ats L) n = (if idxA ((ats L).drop k.toNat) n < 0 then -1 else k + idxA ((ats L).drop k.toNat) n)
  | _, _ => False
def rfiMu := llMu
def samInv : List Dat → List Dat → Prop
  | [.lst L, .lst M], [.int k] => 0 ≤ k ∧ k ≤ L.length ∧ (ats L).take k.toNat = (ats M).take k.toNat
  | _, _ => False
def samMu := llMu
def insInv : List Dat → List Dat → Prop
  | [.lst L, .str n, .str v], [.lst O, .bool p, .int k] => 0 ≤ k ∧ k ≤ L.length ∧ ∃ o : List Att, O = o.map Att.row ∧ o.length = (if p then k + 1 else k) ∧ o ++ (if p then (ats L).drop k.toNat else insA ((ats L).drop k.toNat) ⟨n, v⟩) = insA (ats L) ⟨n, v⟩
  | _, _ => False
def insMu : List Dat → List Dat → Nat
  | .lst L :: _, [_, _, .int k] => (L.length - k).toNat
  | _, _ => 0
def plaInv : List Dat → List Dat → Prop
  | [.lst L], [.lst O, .int k] => 0 ≤ k ∧ k ≤ L.length ∧ O = ((eds L).take k.toNat).map Ed.row
  | _, _ => False
def plaMu : List Dat → List Dat → Nat
  | [.lst L], [_, .int k] => (L.length - k).toNat
  | _, _ => 0
def oflInv : List Dat → List Dat → Prop
  | .int t :: vs, [.lst O, .int k] => 0 ≤ k ∧ k ≤ 8 ∧ O = (listL t (ints vs) k.toNat).map Att.row
  | _, _ => False
def oflMu : List Dat → List Dat → Nat
  | _, [_, .int k] => (8 - k).toNat
  | _, _ => 0
def ofwInv : List Dat → List Dat → Prop
  | .int t :: vs, [.lst O, .int k] => 0 ≤ k ∧ k ≤ 12 ∧ O = (listW t (ints vs) k.toNat).map Ed.row
  | _, _ => False
def ofwMu : List Dat → List Dat → Nat
  | _, [_, .int k] => (12 - k).toNat
  | _, _ => 0

def annsM : FuncId → List (Nat × (Fm → SS → LAnn))
  | 52 => [(0, gAnn U0 "att" (mkPl [(103, .int .i64)] nob) (ghostT 101) attInv attMu)]
  | 50 => [(0, gAnn U0 "one" (mkPl [(3, .int .i64)] nob) (ghC 1 [3]) oneInv oneMu),
      (2, gAnn U0 "oneK" (mkPl [(4, .int .i64)] nob) (gh2 (ghC 1 [3]) (ghostT 3)) oneKInv oneKMu)]
  | 18 => [(0, gAnn U0 "red" (mkPl [(3, .int .i64), (4, .int .i64)] nob) (ghostT 0) redInv redMu),
      (2, gAnn U0 "redK" (mkPl [(3, .int .i64), (5, .int .i64)] nob) (gh2 (ghostT 0) (ghostT 4)) redKInv redKMu)]
  | 23 => [(0, gAnn U0 "rfi" (mkPl [(5, .int .i64)] nob) (gh2 (ghostT 0) (ghostT 1)) rfiInv rfiMu)]
  | 11 => [(0, gAnn U0 "sam" (mkPl [(5, .int .i64)] nob) (gh2 (ghostT 0) (ghostT 1)) samInv samMu)]
  | 33 => [(0, gAnn U0 "ins" (mkPl [(5, .acc 59 2), (6, .bool), (7, .int .i64)] nob) (gh2 (ghostT 0) (ghC 3 [0, 1])) insInv insMu)]
  | 14 => [(0, gAnn U0 "pla" (mkPl [(3, .acc 50 3), (4, .int .i64)] nob) (ghostT 0) plaInv plaMu)]
  | 8 => [(0, gAnn U0 "ofl" (mkPl [(3, .acc 59 2), (4, .int .i64)] nob) (ghC 1 [0, 1, 2, 3, 4, 5, 6, 7, 8]) oflInv oflMu)]
  | 16 => [(0, gAnn U0 "ofw" (mkPl [(3, .acc 61 3), (4, .int .i64)] nob) (ghC 1 [0, 1, 2, 3, 4, 5, 6, 7, 8, 9, 10, 11, 12]) ofwInv ofwMu)]
  | _ => []

def stageM : Nat → List (FuncId × Con) := fun _ => [(54, cNamed), (53, cText), (37, cRname), (38, cRstr), (42, cCmp), (19, cNm), (24, cVal), (15, cYes "lives")]
def todoM : List (Nat × FuncId × Con) := [(0, 22, cCheck), (0, 20, cRcheck), (0, 18, cRcedits), (0, 23, cRfind), (0, 11, cSame), (0, 33, cIns), (0, 14, cPlain), (0, 8, cOfl), (0, 16, cOfw)]

end Go.C13
