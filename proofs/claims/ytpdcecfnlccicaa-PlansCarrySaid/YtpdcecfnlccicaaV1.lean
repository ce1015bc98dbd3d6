/- Chapter 36, PlansCarry: contract and loops.
  Conditions: none. -/
import Derived.Test.YtpdcecfnlccicaaS7
import Derived.Test.YtpdcecfnlccicaaSm3
set_option linter.unusedVariables false
noncomputable section
namespace Go.C36
open Go.Xe Go.Sx
def trueC (_ e : List Dat) : Prop := e = [.bool true]
def pcarPre := uofPre
def pcarRel := trueC
def cPcar := mkC "pcar" [uV] pcarPre [bV] pcarRel
def lvGo (O : List Rw) (B : List Int) : List Lv → List Int → List Int → List Int → List Int → Prop
 | [],t,l,t',l' => t = t' ∧ l = l'
 | s :: r, t, l, t', l' => ∃ x : Rw, 0 ≤ s.a ∧ O[s.a.toNat]? = some x ∧ ∃ w v : Int, t[x.t.toNat]? = some w ∧ B[x.t.toNat]? = some v ∧
   (if s.d = true then w = v ∧ lvGo O B r t (l.filter fun y => decide (y ≠ x.k)) t' l' else w < v ∧ lvGo O B r (t.set x.t.toNat (w + 1)) (l.filter fun y => decide (y ≠ x.k)) t' l')
def kkL : List Rw → List Stp → List Int
 | x :: l,s :: r => if s.w = 1 ∧ s.m = false then x.k :: kkL l r else kkL l r
 | _,_ => []
def carI (O N : List Rw) (S : List Stp) (i : Nat) (l : List Int) : Prop :=
 (l.filter fun y => decide (y ∈ (N.take i).map Rw.k ++ kkL (N.drop i) (S.drop i))) = (N.take i).map Rw.k ++ kkL (N.drop i) (S.drop i) ∧
  ∀ y ∈ l,y ∈ (N.take i).map Rw.k ∨ ∃ z ∈ N.drop i,z ∈ O ∧ z.k = y
def bKeys (O N : List Rw) : List Int := (O.filter fun x => decide (x ∈ N)).map Rw.k
def q0Inv : List Dat → List Dat → Prop
 | [.lst O],[.int k, .lst L] => 0 ≤ k ∧ k ≤ O.length ∧ L = (((rws O).take k.toNat).map Rw.k).map row
 | _,_ => False
def q0Mu : List Dat → List Dat → Nat
 | .lst O :: _, .int k :: _ => (O.length - k).toNat
 | _,_ => 0
def q2Inv : List Dat → List Dat → Prop
 | [.lst W, .lst O, .lst N, .lst P, .lst B],[.int i, .lst L, .lst T] => 0 ≤ i ∧ i ≤ W.length ∧ ∃ l t : List Int,L = l.map row ∧ T = t.map row ∧ inB t (nums B) ∧ l.length ≤ O.length ∧ lvGo (rws O) (nums B) ((lvs W).drop i.toNat) t l (lvOut (rws O) (rws N) (nums P) (nums B)).th (bKeys (rws O) (rws N))
 | _,_ => False
def q2Mu := q0Mu
def q4Inv : List Dat → List Dat → Prop
 | [.lst S, .lst O, .lst N, .lst P, .lst B], [.int i, .lst L, .lst T, .lst H] => 0 ≤ i ∧ i ≤ N.length ∧ ∃ (l t h : List Int) (s : List Stp), L = l.map row ∧ T = t.map row ∧ H = h.map row ∧ inB t (nums B) ∧ (s.length : Int) = i ∧ (h.length : Int) ≤ i ∧ (l.length : Int) ≤ O.length + i ∧
   stAll (rws O) ((rws N).drop i.toNat) ⟨t,h,s⟩ = stOut (rws O) (rws N) (nums P) (nums B) ∧ carI (rws O) (rws N) (stps S) i.toNat l
 | _,_ => False
def q4Mu : List Dat → List Dat → Nat
 | _ :: _ :: .lst N :: _, .int k :: _ => (N.length - k).toNat
 | _,_ => 0
def q9Inv : List Dat → List Dat → Prop
 | [.lst N],[.int i] => 0 ≤ i ∧ i ≤ N.length
 | _,_ => False
def q9Mu := q0Mu
def take2Pre := takePre
def take2Rel := takeRel
def cTake2 := mkC "take2" [qV,uV64] take2Pre [.one (.g (.acc 45 1))] take2Rel
def annsG : FuncId → List (Nat × (Fm → SS → LAnn))
 | 4 => [(0, gAnn U0 "q0" (mkPl [(11, .int .i64), (10, .acc 45 1)] nob) (ghostT 3) q0Inv q0Mu),
   (2,gAnn U0 "q2" (mkPl [(13, .int .i64),(10, .lst 45),(12, .acc 3 1)] nob) (gh2 (ghCell 7 0) (gh2 (ghostT 3) (gh2 (ghostT 4) (gh2 (ghostT 5) (ghostT 6))))) q2Inv q2Mu),
   (4,gAnn U0 "q4" (mkPl [(16, .int .i64),(10, .lst 45),(12, .acc 3 1),(15, .acc 3 1)] nob) (gh2 (ghCell 7 1) (gh2 (ghostT 3) (gh2 (ghostT 4) (gh2 (ghostT 5) (ghostT 6))))) q4Inv q4Mu),
   (9,gAnn U0 "q9" (mkPl [(21, .int .i64)] nob) (ghostT 4) q9Inv q9Mu)]
 | 14 => [(0,gAnn U0 "tk" (mkPl [(6, .int .i64),(5, .acc 45 1)] nob) (gh2 (ghostT 0) (ghostT 1)) tkInv tkMu)]
 | _ => []
def stageG : Nat → List (FuncId × Con)
 | 1 => [(12,cYes "lives")]
 | _ => [(8,cUof),(9,cOf),(13,cAhead),(14,cTake2),(15,cPut),(16,cRlongest),(11,cNmoves),(17,cNmakes),(18,cNdrops),(12,cYes "lives")]
end Go.C36
