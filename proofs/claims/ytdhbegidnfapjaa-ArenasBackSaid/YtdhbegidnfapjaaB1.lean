/- Chapter 15, the parts of ArenasPlay, ArenasBack and ArenasCopy: the other functions of the arena, those of the definition, as contracts.
  Conditions: none. -/
import Derived.Test.YtdhbegidnfapjaaA6
noncomputable section
namespace Go.C15
open Go.Xe Go.Sx

/-! ## The definition's arenas -/

structure RS where
  gen : Int
  used : Bool
  x : Int
def RS.row (s : RS) : List Dat := [.int s.gen, .bool s.used, .int s.x]
structure Rf where
  L : List RS
  F : List Nat
def irow (i : Nat) : List Dat := [.int i]
def Rf.dats (R : Rf) : List Dat := [.lst (R.L.map RS.row), .lst (R.F.map irow)]
structure Rf.Ok (R : Rf) : Prop where
  free : ∀ i ∈ R.F, i < R.L.length
  size : R.L.length ≤ 100000
  fsize : R.F.length ≤ 100000
  gen : ∀ s ∈ R.L, 1 ≤ s.gen ∧ s.gen < 4294967295

def Rf.take (R : Rf) (x : Int) : Rf := match R.F with
  | [] => ⟨R.L ++ [⟨1, true, x⟩], []⟩
  | i :: F => ⟨R.L.modify i (fun s => { s with used := true, x := x }), F⟩
def rgenAt (L : List RS) (i : Nat) : Int := ((L[i]?).map RS.gen).getD 1
def rxAt (L : List RS) (i : Nat) : Int := ((L[i]?).map RS.x).getD 0
def Rf.tidx (R : Rf) : Nat := match R.F with
  | [] => R.L.length
  | i :: _ => i
def Rf.tgen (R : Rf) : Int := rgenAt R.L R.tidx
def Rf.valid (R : Rf) (i g : Int) : Bool := match R.L[i.toNat]? with
  | some s => s.used && decide (s.gen = g)
  | none => false
def Rf.free (R : Rf) (i : Int) : Rf := ⟨R.L.modify i.toNat (fun s => ⟨s.gen + 1, false, 0⟩), i.toNat :: R.F⟩
def Rf.untake (R : Rf) (i g : Int) : Rf × Int :=
  if R.valid i g = false then (R, 11) else if g = 1 ∧ i < R.L.length - 1 then (R, 10) else if g = 1 then (⟨R.L.take i.toNat, R.F⟩, 0) else (⟨R.L.modify i.toNat (fun s => { s with used := false, x := 0 }), i.toNat :: R.F⟩, 0)
def Rf.unfree (R : Rf) (i g x : Int) : Rf × Int := match R.F with
  | [] => (R, 10)
  | j :: F => if (j : Int) = i ∧ g ≠ 0 ∧ rgenAt R.L j - 1 = g then (⟨R.L.modify j (fun _ => ⟨g, true, x⟩), F⟩, 0) else (R, 10)
def Rf.set (R : Rf) (i x : Int) : Rf := ⟨R.L.modify i.toNat (fun s => { s with x := x }), R.F⟩

def aV : Vs := .agg [.g (.lst 54), .g (.lst 3)]

def U32 (n : Int) : Prop := 0 ≤ n ∧ n < 4294967296
/-- The integers of Go that are far from the ends. -/
def Small (n : Int) : Prop := -1000000000000 ≤ n ∧ n ≤ 1000000000000

def rtakePre (d : List Dat) : Prop := ∃ R : Rf, ∃ x : Int, R.Ok ∧ d = R.dats ++ [.int x]
structure rtakeRel (d e : List Dat) : Prop where
  of : ∀ R : Rf, ∀ x : Int, R.Ok → d = R.dats ++ [.int x] → e = (R.take x).dats ++ [.int R.tidx, .int R.tgen]
def cRtake : Con := ⟨ "rtake", [aV, iV], [], noF, rtakePre, [aV, hV], [], noB, rtakeRel⟩

def rhPre (d : List Dat) : Prop := ∃ R : Rf, ∃ i g : Int, R.Ok ∧ U32 i ∧ U32 g ∧ d = R.dats ++ [.int i, .int g]
def rvalidPre := rhPre
structure rvalidRel (d e : List Dat) : Prop where
  of : ∀ R : Rf, ∀ i g : Int, R.Ok → d = R.dats ++ [.int i, .int g] → e = [.bool (R.valid i g)]
def cRvalid : Con := ⟨ "rvalid", [aV, hV], [], noF, rvalidPre, [bV], [], noB, rvalidRel⟩

def rfreePre := rhPre
structure rfreeRel (d e : List Dat) : Prop where
  of : ∀ R : Rf, ∀ i g : Int, R.Ok → d = R.dats ++ [.int i, .int g] → e = if R.valid i g then (R.free i).dats ++ [.int (rxAt R.L i.toNat), .int 0] else R.dats ++ [.int 0, .int 11]
def cRfree : Con := ⟨ "rfree", [aV, hV], [], noF, rfreePre, [aV, iV, iV], [], noB, rfreeRel⟩

def runtakePre := rhPre
structure runtakeRel (d e : List Dat) : Prop where
  of : ∀ R : Rf, ∀ i g : Int, R.Ok → d = R.dats ++ [.int i, .int g] → e = (R.untake i g).1.dats ++ [.int (R.untake i g).2]
def cRuntake : Con := ⟨ "runtake", [aV, hV], [], noF, runtakePre, [aV, iV], [], noB, runtakeRel⟩

def runfreePre (d : List Dat) : Prop := ∃ R : Rf, ∃ i g x : Int, R.Ok ∧ U32 i ∧ U32 g ∧ d = R.dats ++ [.int i, .int g, .int x]
structure runfreeRel (d e : List Dat) : Prop where
  of : ∀ R : Rf, ∀ i g x : Int, R.Ok → d = R.dats ++ [.int i, .int g, .int x] → e = (R.unfree i g x).1.dats ++ [.int (R.unfree i g x).2]
def cRunfree : Con := ⟨ "runfree", [aV, hV, iV], [], noF, runfreePre, [aV, iV], [], noB, runfreeRel⟩

/-! ## The other functions of the arena -/

def Ar.set (A : Ar) (i x : Int) : Ar := ⟨A.T.modify i.toNat (fun s => { s with x := x }), A.c⟩
def Ar.untake (A : Ar) (i g : Int) : Ar × Int :=
  if A.valid i g = false then (A, 11) else if g = 1 ∧ i < A.T.length - 1 then (A, 10) else if g = 1 then (⟨A.T.take i.toNat, A.c⟩, 0) else (⟨A.T.modify i.toNat (fun s => ⟨s.gen, false, linkOf A.c, 0⟩), i.toNat :: A.c⟩, 0)
def Ar.unfree (A : Ar) (i g x : Int) : Ar × Int := match A.c with
  | [] => (A, 10)
  | j :: c => if (j : Int) = i ∧ g ≠ 0 ∧ genAt A.T j - 1 = g then (⟨A.T.modify j (fun _ => ⟨g, true, 0, x⟩), c⟩, 0) else (A, 10)

def agetPre := atPre
structure agetRel (d e : List Dat) : Prop where
  of : ∀ A : Ar, ∀ i g : Int, A.Ok → d = .int i :: .int g :: A.dats → e = (if A.valid i g then [.int (xAt A.T i.toNat), .int 0] else [.int 0, .int 11]) ++ A.dats
def cAget : Con := ⟨ "aget", [arP, hV], [arB], find0, agetPre, [iV, iV], [arB], noB, agetRel⟩

def at2Pre (d : List Dat) : Prop := ∃ A : Ar, ∃ i g x : Int, A.Ok ∧ U32 i ∧ U32 g ∧ d = .int i :: .int g :: .int x :: A.dats
def asetPre := at2Pre
structure asetRel (d e : List Dat) : Prop where
  of : ∀ A : Ar, ∀ i g x : Int, A.Ok → d = .int i :: .int g :: .int x :: A.dats → e = if A.valid i g then .int 0 :: (A.set i x).dats else .int 11 :: A.dats
def cAset : Con := ⟨ "aset", [arP, hV, iV], [arB], find0, asetPre, [iV], [arB], noB, asetRel⟩

def auntakePre := atPre
structure auntakeRel (d e : List Dat) : Prop where
  of : ∀ A : Ar, ∀ i g : Int, A.Ok → d = .int i :: .int g :: A.dats → e = .int (A.untake i g).2 :: (A.untake i g).1.dats
def cAuntake : Con := ⟨ "auntake", [arP, hV], [arB], find0, auntakePre, [iV], [arB], noB, auntakeRel⟩

def aunfreePre := at2Pre
structure aunfreeRel (d e : List Dat) : Prop where
  of : ∀ A : Ar, ∀ i g x : Int, A.Ok → d = .int i :: .int g :: .int x :: A.dats → e = .int (A.unfree i g x).2 :: (A.unfree i g x).1.dats
def cAunfree : Con := ⟨ "aunfree", [arP, hV, iV], [arB], find0, aunfreePre, [iV], [arB], noB, aunfreeRel⟩

/-- Never called: no slot has the last generation. -/
def awaitsPre (_ : List Dat) : Prop := False
def awaitsRel (_ _ : List Dat) : Prop := True
def cAwaits : Con := ⟨ "awaits", [arP, hV], [arB], find0, awaitsPre, [bV], [arB], noB, awaitsRel⟩

def usedH : Nat → List Slot → List Hd
  | _, [] => []
  | i, s :: T => if s.used then ((i : Int), s.gen) :: usedH (i + 1) T else usedH (i + 1) T
def Ar.handles (A : Ar) : List Hd := usedH 0 A.T
def freeH (A : Ar) : List Hd := A.c.map fun i : Nat => ((i : Int), genAt A.T i)

def ahandlesPre := okPre
structure ahandlesRel (d e : List Dat) : Prop where
  of : ∀ A : Ar, A.Ok → d = A.dats → e = .lst (A.handles.map hr) :: A.dats
def cAhandles : Con := ⟨ "ahandles", [arP], [arB], find0, ahandlesPre, [.one (.g (.clp 27))], [arB], noB, ahandlesRel⟩
def awaitPre := okPre
structure awaitRel (d e : List Dat) : Prop where
  of : ∀ A : Ar, A.Ok → d = A.dats → e = .lst ((freeH A).map hr) :: A.dats
def cAwait : Con := ⟨ "await", [arP], [arB], find0, awaitPre, [.one (.g (.clp 27))], [arB], noB, awaitRel⟩

/-! ## Handles that are picked -/

def inc32 (n : Int) : Int := if n = 4294967295 then 0 else n + 1
def dec32 (n : Int) : Int := if n = 0 then 4294967295 else n - 1
def pickH (o : Op) (H : List Hd) : Hd := match H[(o.which.tmod H.length).toNat]? with
  | none => (0, 0)
  | some h => if o.which = 251 then (h.1, inc32 h.2) else if o.which = 252 then (h.1, dec32 h.2) else if o.which = 253 then (inc32 h.1, h.2) else if o.which = 254 then (0, 0) else if o.which = 255 then (4294967295, 4294967295) else h

def HOk (H : List Hd) : Prop := H.length ≤ 100000 ∧ ∀ h ∈ H, U32 h.1 ∧ U32 h.2
def pickPre (d : List Dat) : Prop := ∃ o : Op, ∃ H : List Hd, o.Ok ∧ HOk H ∧ d = o.row ++ [.lst (H.map hr)]
structure pickRel (d e : List Dat) : Prop where
  of : ∀ o : Op, ∀ H : List Hd, o.Ok → HOk H → d = o.row ++ [.lst (H.map hr)] → e = hr (pickH o H)
def oV : Vs := .agg [.g (.int .u8), .g (.int .u8), .g (.int .u8)]
def cPick : Con := ⟨ "pick", [oV, .one (.g (.lst 27))], [], noF, pickPre, [hV], [], noB, pickRel⟩

/-! ## Loops -/

def rvalidLInv (g d : List Dat) : Prop := ∃ R : Rf, ∃ i h k : Int, R.Ok ∧ g = R.dats ++ [.int i, .int h] ∧ d = [.int k] ∧ 0 ≤ k ∧ k ≤ R.L.length ∧ (i < k → R.valid i h = false)
def rvalidLMu (g d : List Dat) : Nat := match g, d with
  | .lst l :: _, [.int k] => (l.length - k).toNat
  | _, _ => 0

def ahandlesLInv (g d : List Dat) : Prop := ∃ A : Ar, ∃ k : Nat, A.Ok ∧ g = A.dats ∧ k ≤ A.T.length ∧ d = [.lst ((usedH 0 (A.T.take k)).map hr), .int k]
def ahandlesLMu (g d : List Dat) : Nat := match g, d with
  | .lst l :: _, [_, .int k] => (l.length - k).toNat
  | _, _ => 0

def awaitLInv (g d : List Dat) : Prop := ∃ A : Ar, ∃ pre rest : List Nat, A.Ok ∧ A.c = pre ++ rest ∧ g = A.dats ∧ d = [.lst (pre.map fun i : Nat => hrow (i : Int) (genAt A.T i)), .int (linkOf rest)]
def awaitLMu := waitMu

def awaitsLInv (_ _ : List Dat) : Prop := False
def awaitsLMu (_ _ : List Dat) : Nat := 0

/-- The cells of the box that a temporary points to, with lists that are data. -/
def annsB : FuncId → List (Nat × (Fm → SS → LAnn))
  | 14 => [(0, gAnn U0 "awaitL" (mkPl [(3, .acc 27 2), (4, .int .i64)] fun _ _ => some []) (ghostB 0 [.l, .i, .i]) awaitLInv awaitLMu)]
  | 21 => [(0, gAnn U0 "rvalidL" (mkPl [(5, .int .i64)] fun _ _ => some []) (ghost2 (ghostB 2 [.l, .l]) (ghostB 3 [.i, .i])) rvalidLInv rvalidLMu)]
  | 27 => [(0, gAnn U0 "ahandlesL" (mkPl [(3, .acc 27 2), (18, .int .i64)] fun _ _ => some []) (ghostB 0 [.l, .i, .i]) ahandlesLInv ahandlesLMu)]
  | 45 => [(0, gAnn U0 "awaitsL" (mkPl [(5, .int .i64)] fun _ _ => some []) (fun _ _ => []) awaitsLInv awaitsLMu)]
  | _ => []

def stageB : Nat → List (FuncId × Con)
  | 0 => []
  | 2 => [(45, cAwaits)]
  | 1 => [(21, cRvalid)]
  | _ => [(21, cRvalid), (10, cTake), (11, cFree), (16, cValid), (26, cAget), (24, cAset), (22, cAuntake), (23, cAunfree), (27, cAhandles), (14, cAwait), (15, cLives), (40, cRtake), (41, cRfree), (42, cRuntake), (43, cRunfree), (20, cPick)]
def todoB : List (Nat × FuncId × Con) := [(0, 45, cAwaits), (0, 26, cAget), (0, 24, cAset), (0, 22, cAuntake), (2, 23, cAunfree), (0, 27, cAhandles), (0, 14, cAwait), (0, 21, cRvalid), (0, 40, cRtake), (1, 41, cRfree), (1, 42, cRuntake), (0, 43, cRunfree), (0, 20, cPick)]

end Go.C15
