/- Chapter 15, the parts: what the arena's functions do, as contracts.
  Conditions: none. -/
import Derived.Test.YtdhbegidnfapjaaSm3

noncomputable section
namespace Go.C15
open Go.Xe Go.Sx

/-! ## Arenas -/

structure Slot where
  gen : Int
  used : Bool
  next : Int
  x : Int

def Slot.row (s : Slot) : List Dat := [.int s.gen, .bool s.used, .int s.next, .int s.x]

/-- An arena: its slots, and which are free, in order. -/
structure Ar where
  T : List Slot
  c : List Nat

def linkOf : List Nat → Int
  | [] => 0
  | i :: _ => i + 1

def live (T : List Slot) : Nat := (T.filter Slot.used).length

def Ar.dats (A : Ar) : List Dat := [.lst (A.T.map Slot.row), .int (linkOf A.c), .int (live A.T)]

/-- The chain of free slots. -/
def Chain (T : List Slot) : List Nat → Prop
  | [] => True
  | i :: c => (∃ s, T[i]? = some s ∧ s.used = false ∧ s.next = linkOf c) ∧ i ∉ c ∧ Chain T c

structure Ar.Ok (A : Ar) : Prop where
  chain : Chain A.T A.c
  size : A.T.length ≤ 100000
  gen : ∀ s ∈ A.T, 1 ≤ s.gen ∧ s.gen < 4294967295

def Ar.take (A : Ar) (x : Int) : Ar := match A.c with
  | [] => ⟨A.T ++ [⟨1, true, 0, x⟩], []⟩
  | i :: c => ⟨A.T.modify i (fun s => { s with used := true, next := 0, x := x }), c⟩
def genAt (T : List Slot) (i : Nat) : Int := ((T[i]?).map Slot.gen).getD 1
def Ar.tidx (A : Ar) : Nat := match A.c with
  | [] => A.T.length
  | i :: _ => i
def Ar.tgen (A : Ar) : Int := genAt A.T A.tidx

def Ar.valid (A : Ar) (i g : Int) : Bool := match A.T[i.toNat]? with
  | some s => s.used && decide (s.gen = g)
  | none => false
def Ar.free (A : Ar) (i : Int) : Ar := ⟨A.T.modify i.toNat (fun s => ⟨s.gen + 1, false, linkOf A.c, 0⟩), i.toNat :: A.c⟩
def xAt (T : List Slot) (i : Nat) : Int := ((T[i]?).map Slot.x).getD 0

def hrow (i g : Int) : List Dat := [.int i, .int g]
def Ar.waiting (A : Ar) : Sx.Rows := A.c.map fun i : Nat => hrow (i : Int) (genAt A.T i)

/-! ## Contracts -/

def arB : BlkS := (61, 3, [.g (.acc 63 4), .g (.int .i64), .g (.int .i64)])
def arP : Vs := .one (.ptr 0 3)
def iV : Vs := .one (.g (.int .i64))
def bV : Vs := .one (.g .bool)
def hV : Vs := .agg [.g (.int .u32), .g (.int .u32)]

def find0 : List SV → SS → Option (List Nat) := fun l _ => match l with
  | .ptr b _ _ _ :: _ => some [b]
  | _ => none
def noB : SV → SS → Option (List Nat) := fun _ _ => some []
def noF : List SV → SS → Option (List Nat) := fun _ _ => some []

def takePre (d : List Dat) : Prop := ∃ A : Ar, ∃ x : Int, A.Ok ∧ A.T.length < 100000 ∧ d = .int x :: A.dats
structure takeRel (d e : List Dat) : Prop where
  of : ∀ A : Ar, ∀ x : Int, A.Ok → d = .int x :: A.dats → e = .int A.tidx :: .int A.tgen :: .int 0 :: (A.take x).dats
def cTake : Con := ⟨ "take", [arP, iV], [arB], find0, takePre, [hV, iV], [arB], noB, takeRel⟩

def atPre (d : List Dat) : Prop := ∃ A : Ar, ∃ i g : Int, A.Ok ∧ 0 ≤ i ∧ i < 4294967296 ∧ 0 ≤ g ∧ g < 4294967296 ∧ d = .int i :: .int g :: A.dats
structure freeRel (d e : List Dat) : Prop where
  of : ∀ A : Ar, ∀ i g : Int, A.Ok → d = .int i :: .int g :: A.dats → e = if A.valid i g then .int (xAt A.T i.toNat) :: .int 0 :: (A.free i).dats else .int 0 :: .int 11 :: A.dats
def cFree : Con := ⟨ "free", [arP, hV], [arB], find0, atPre, [iV, iV], [arB], noB, freeRel⟩

structure validRel (d e : List Dat) : Prop where
  of : ∀ A : Ar, ∀ i g : Int, A.Ok → d = .int i :: .int g :: A.dats → e = .bool (A.valid i g) :: A.dats
def cValid : Con := ⟨ "valid", [arP, hV], [arB], find0, atPre, [bV], [arB], noB, validRel⟩

def okPre (d : List Dat) : Prop := ∃ A : Ar, A.Ok ∧ d = A.dats
structure waitRel (d e : List Dat) : Prop where
  of : ∀ A : Ar, A.Ok → d = A.dats → e = .lst A.waiting :: A.dats
def cWait : Con := ⟨ "wait", [arP], [arB], find0, okPre, [.one (.g (.lst 27))], [arB], noB, waitRel⟩

def anyPre (d : List Dat) : Prop := d = []
def trueRel (_ e : List Dat) : Prop := e = [.bool true]
def cLives : Con := ⟨ "lives", [], [], noF, anyPre, [bV], [], noB, trueRel⟩

def freePre := atPre
def validPre := atPre
def waitPre := okPre
def livesPre := anyPre
def livesRel := trueRel

/-! ## Loops -/

def U0 : Nat → List Dat → Dat := fun _ _ => .int 0

/-- The cells of the block that a temporary points to, as data. -/
def ghostB (t : Nat) (ks : List So) : Fm → SS → List (So × E) := fun f s => match ptrT f t with
  | some b => match s.get b with
    | some (.cells l _ _) => (ks.zip l).filterMap fun p => match p.2 with
      | .int _ e => some (p.1, e)
      | .bool e => some (p.1, e)
      | .str e => some (p.1, e)
      | .lst _ e _ => some (p.1, e)
      | .sl b' _ _ _ _ => match s.get b' with
        | some (.rows e _ _ _) => some (p.1, e)
        | _ => none
      | _ => none
    | _ => []
  | none => []

/-- Waiting: the list so far, the next one. -/
def waitInv (g d : List Dat) : Prop := ∃ A : Ar, ∃ pre rest : List Nat, A.Ok ∧ A.c = pre ++ rest ∧ g = A.dats ∧ d = [.lst (pre.map fun i : Nat => hrow (i : Int) (genAt A.T i)), .int (linkOf rest)]
def waitMu (_ d : List Dat) : Nat := match d with
  | .lst l :: _ => 100001 - l.length
  | _ => 0

/-! ## A handle that was freed is never valid again -/

def ghostT (t : Nat) : Fm → SS → List (So × E) := fun f s => match lk f t with
  | some (.lst _ e _) => [(.l, e)]
  | some (.sl b _ _ _ _) => match s.get b with
    | some (.rows e _ _ _) => [(.l, e)]
    | _ => []
  | _ => []
def ghost2 (a b : Fm → SS → List (So × E)) : Fm → SS → List (So × E) := fun f s => a f s ++ b f s

structure Op where
  kind : Int
  which : Int
  x : Int
def Op.row (o : Op) : List Dat := [.int o.kind, .int o.which, .int o.x]
structure Op.Ok (o : Op) : Prop where
  k : 0 ≤ o.kind ∧ o.kind ≤ 255
  w : 0 ≤ o.which ∧ o.which ≤ 255
  x : 0 ≤ o.x ∧ o.x ≤ 255

abbrev Hd := Int × Int
def hr (h : Hd) : List Dat := hrow h.1 h.2

def opsPre (d : List Dat) : Prop := ∃ L : List Op, (∀ o ∈ L, o.Ok) ∧ d = [.lst (L.map Op.row)]
def neverPre := opsPre
def neverRel := trueRel
def cNever : Con := ⟨ "never", [.one (.g (.lst 39))], [], noF, neverPre, [bV], [], noB, neverRel⟩

/-- A handle that was taken; one that was freed. -/
def Past (A : Ar) (h : Hd) : Prop := 0 ≤ h.1 ∧ 0 ≤ h.2 ∧ ∃ s, A.T[h.1.toNat]? = some s ∧ h.2 ≤ s.gen ∧ (s.used = false → h.2 < s.gen)
def Dead (A : Ar) (h : Hd) : Prop := 0 ≤ h.1 ∧ 0 ≤ h.2 ∧ ∃ s, A.T[h.1.toNat]? = some s ∧ h.2 < s.gen

structure Nev (A : Ar) (H G : List Hd) (i : Int) : Prop where
  ok : A.Ok
  i0 : 0 ≤ i ∧ i ≤ 80
  size : (A.T.length : Int) ≤ i
  gens : ∀ s ∈ A.T, s.gen ≤ i + 1
  hl : (H.length : Int) ≤ i ∧ (G.length : Int) ≤ i
  past : ∀ h ∈ H, Past A h
  dead : ∀ h ∈ G, Dead A h
  lv : (live A.T : Int) = H.length - G.length
  fr : live A.T + A.c.length = A.T.length

def nevInv (_ d : List Dat) : Prop := ∃ A : Ar, ∃ H G : List Hd, ∃ i : Int, Nev A H G i ∧ d = .lst (H.map hr) :: .lst (G.map hr) :: .int i :: A.dats
def nevMu (_ d : List Dat) : Nat := match d with
  | [_, _, .int i, _, _, _] => (100 - i).toNat
  | _ => 0
def nevBInv (g d : List Dat) : Prop := ∃ H : List Hd, ∃ i x k : Int, g = [.lst (H.map hr), .int i, .int x] ∧ (∀ h ∈ H, h ≠ (i, x)) ∧ 0 ≤ k ∧ k ≤ H.length ∧ d = [.int k]
def nevBMu (g d : List Dat) : Nat := match g, d with
  | .lst l :: _, [.int k] => (l.length - k).toNat
  | _, _ => 0
def nevCInv (g d : List Dat) : Prop := ∃ A : Ar, ∃ G : List Hd, ∃ k : Int, A.Ok ∧ g = .lst (G.map hr) :: A.dats ∧ (∀ h ∈ G, Dead A h) ∧ 0 ≤ k ∧ k ≤ G.length ∧ d = .int k :: A.dats
def nevCMu (g d : List Dat) : Nat := match g, d with
  | .lst l :: _, .int k :: _ => (l.length - k).toNat
  | _, _ => 0

def arenaAt (t : Nat) (f : Fm) (_ : SS) : Option (List (Nat × List G)) := match ptrT f t with
  | some b => some [(b, [.acc 63 4, .int .i64, .int .i64])]
  | none => none

def anns : FuncId → List (Nat × (Fm → SS → LAnn))
  | 14 => [(0, gAnn U0 "wait" (mkPl [(3, .acc 27 2), (4, .int .i64)] fun _ _ => some []) (ghostB 0 [.l, .i, .i]) waitInv waitMu)]
  | 4 => [(0, gAnn U0 "nev" (mkPl [(4, .acc 27 2), (5, .acc 27 2), (6, .int .i64)] (arenaAt 3)) (fun _ _ => []) nevInv nevMu),
      (2, gAnn U0 "nevB" (mkPl [(9, .int .i64)] fun _ _ => some []) (ghost2 (ghostT 4) (ghostB 7 [.i, .i])) nevBInv nevBMu),
      (4, gAnn U0 "nevC" (mkPl [(13, .int .i64)] (arenaAt 3)) (ghost2 (ghostT 5) (ghostB 3 [.l, .i, .i])) nevCInv nevCMu)]
  | _ => []

/-- The contracts that stand at a stage; those to prove, with the stage that their proofs use. -/
def stage : Nat → List (FuncId × Con)
  | 0 => []
  | _ => [(10, cTake), (11, cFree), (16, cValid), (14, cWait), (15, cLives)]
def todo : List (Nat × FuncId × Con) := [(0, 10, cTake), (0, 11, cFree), (0, 16, cValid), (0, 14, cWait), (0, 15, cLives), (1, 4, cNever)]

end Go.C15
