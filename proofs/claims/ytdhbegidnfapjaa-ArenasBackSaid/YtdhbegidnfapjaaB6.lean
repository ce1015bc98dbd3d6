/- Chapter 15, both arenas at once: what an operation does, as contracts, and the three laws.
  Conditions: none. -/
import Derived.Test.YtdhbegidnfapjaaB5
import Derived.Test.YtdhbegidnfapjaaSm3
noncomputable section
namespace Go.C15
open Go.Xe Go.Sx

def Slot.rs (s : Slot) : RS := ⟨s.gen, s.used, s.x⟩
def Ar.toR (A : Ar) : Rf := ⟨A.T.map Slot.rs, A.c⟩

/-- Both arenas, and the handles that were taken. -/
structure Bo where
  A : Ar
  H : List Hd
def Bo.dats (p : Bo) : List Dat := p.A.toR.dats ++ [.lst (p.H.map hr)] ++ p.A.dats

structure Bo.Ok (p : Bo) (n : Nat) : Prop where
  ok : p.A.Ok
  tl : p.A.T.length ≤ n
  gl : ∀ s ∈ p.A.T, s.gen ≤ n + 1
  hl : p.H.length ≤ n
  hu : ∀ h ∈ p.H, U32 h.1 ∧ U32 h.2
  xs : ∀ s ∈ p.A.T, 0 ≤ s.x ∧ s.x ≤ 255
  fr : ∀ i ∈ p.A.c, ∀ s, p.A.T[i]? = some s → 2 ≤ s.gen ∧ s.x = 0
  us : ∀ s ∈ p.A.T, s.used = true → s.next = 0

def Bo.step (p : Bo) (o : Op) : Bo :=
  let h := pickH o p.H
  let k := o.kind.tmod 8
  if k = 0 ∨ k = 1 ∨ k = 2 then ⟨p.A.take o.x, p.H ++ [((p.A.tidx : Int), p.A.tgen)]⟩
  else if k = 3 ∨ k = 4 then ⟨if p.A.valid h.1 h.2 then p.A.free h.1 else p.A, p.H⟩
  else if k = 5 then ⟨if p.A.valid h.1 h.2 then p.A.set h.1 o.x else p.A, p.H⟩
  else if k = 6 then ⟨(p.A.untake h.1 h.2).1, p.H⟩
  else ⟨(p.A.unfree h.1 h.2 o.x).1, p.H⟩

def botB : BlkS := (48, 4, [.ptr 1 3, .g (.lst 54), .g (.lst 3), .g (.acc 27 2)])
def botP : Vs := .one (.ptr 0 4)
def find2 : List SV → SS → Option (List Nat) := fun l s => match l with
  | .ptr b _ _ _ :: _ => match s.get b with
    | some (.cells (.ptr a _ _ _ :: _) _ _) => some [b, a]
    | _ => none
  | _ => none

def doPre (d : List Dat) : Prop := ∃ o : Op, ∃ p : Bo, ∃ n : Nat, o.Ok ∧ p.Ok n ∧ n < 1000 ∧ d = o.row ++ p.dats
structure doRel (d e : List Dat) : Prop where
  of : ∀ o : Op, ∀ p : Bo, ∀ n : Nat, o.Ok → p.Ok n → n < 1000 → d = o.row ++ p.dats → e = .int 1 :: (p.step o).dats
def cDo : Con := ⟨ "do", [botP, oV], [botB, arB], find2, doPre, [iV], [botB, arB], noB, doRel⟩

def samePre (d : List Dat) : Prop := ∃ p : Bo, ∃ n : Nat, p.Ok n ∧ n < 1000 ∧ d = p.dats
structure sameRel (d e : List Dat) : Prop where
  of : ∀ p : Bo, ∀ n : Nat, p.Ok n → n < 1000 → d = p.dats → e = .int 1 :: p.dats
def cSame : Con := ⟨ "same", [botP], [botB, arB], find2, samePre, [iV], [botB, arB], noB, sameRel⟩

def playPre := opsPre
def playRel := trueRel
def cPlay : Con := ⟨ "play", [.one (.g (.lst 39))], [], noF, playPre, [bV], [], noB, playRel⟩
def backPre (d : List Dat) : Prop := ∃ L M : List Op, (∀ o ∈ L, o.Ok) ∧ (∀ o ∈ M, o.Ok) ∧ d = [.lst (L.map Op.row), .lst (M.map Op.row)]
def backRel := trueRel
def cBack : Con := ⟨ "back", [.one (.g (.lst 39)), .one (.g (.lst 39))], [], noF, backPre, [bV], [], noB, backRel⟩
def copyPre (d : List Dat) : Prop := ∃ L M N : List Op, (∀ o ∈ L, o.Ok) ∧ (∀ o ∈ M, o.Ok) ∧ (∀ o ∈ N, o.Ok) ∧ d = [.lst (L.map Op.row), .lst (M.map Op.row), .lst (N.map Op.row)]
def copyRel := trueRel
def cCopy : Con := ⟨ "copy", [.one (.g (.lst 39)), .one (.g (.lst 39)), .one (.g (.lst 39))], [], noF, copyPre, [bV], [], noB, copyRel⟩

/-! ## Loops -/

/-- The block that the first cell of a temporary's block points to. -/
def secB (t : Nat) (f : Fm) (s : SS) : Option Nat := match ptrT f t with
  | some b => match s.get b with
    | some (.cells (.ptr a _ _ _ :: _) _ _) => some a
    | _ => none
  | none => none
def ghostC (t : Nat) (ks : List So) : Fm → SS → List (So × E) := fun f s => match secB t f s with
  | some b => match s.get b with
    | some (.cells l _ _) => (ks.zip l).filterMap fun p => match p.2 with
      | .int _ e => some (p.1, e)
      | .bool e => some (p.1, e)
      | .lst _ e _ => some (p.1, e)
      | .sl b' _ _ _ _ => match s.get b' with
        | some (.rows e _ _ _) => some (p.1, e)
        | _ => none
      | _ => none
    | _ => []
  | none => []
/-- The arena of both; both. -/
def arenaIn (t : Nat) (f : Fm) (s : SS) : Option (List (Nat × List G)) := match secB t f s with
  | some a => some [(a, [.acc 63 4, .int .i64, .int .i64])]
  | none => none
def botAt (t : Nat) (f : Fm) (s : SS) : Option (List (Nat × List G)) := match ptrT f t, secB t f s with
  | some b, some a => some [(b, [.keep, .lst 54, .lst 3, .acc 27 2]), (a, [.acc 63 4, .int .i64, .int .i64])]
  | _, _ => none
def botsAt (t u : Nat) (f : Fm) (s : SS) : Option (List (Nat × List G)) := match botAt t f s, botAt u f s with
  | some l, some m => some (l ++ m)
  | _, _ => none

def listLInv (g d : List Dat) : Prop := ∃ H : List Hd, ∃ k : Nat, g = [.lst (H.map hr), .lst (H.map hr)] ∧ k ≤ H.length ∧ d = [.int k]
def listLMu (g d : List Dat) : Nat := match g, d with
  | .lst l :: _, [.int k] => (l.length - k).toNat
  | _, _ => 0

/-- What is known of both where they are compared. -/
def sameLInv (g d : List Dat) : Prop := ∃ A : Ar, ∃ k : Nat, A.Ok ∧ g = A.toR.dats ++ A.dats ∧ k ≤ A.T.length ∧ d = [.lst ((usedH 0 (A.T.take k)).map hr), .int k] ++ A.dats
def sameLMu (g d : List Dat) : Nat := match g, d with
  | .lst l :: _, _ :: .int k :: _ => (l.length - k).toNat
  | _, _ => 0
def sameMInv (g d : List Dat) : Prop := ∃ A : Ar, ∃ k : Nat, A.Ok ∧ g = A.toR.dats ++ A.dats ∧ k ≤ A.c.length ∧ d = [.lst (((A.c.take k).map fun i : Nat => ((i : Int), genAt A.T i)).map hr), .int k]
def sameMMu (g d : List Dat) : Nat := match g, d with
  | _ :: .lst l :: _, _ :: .int k :: _ => (l.length - k).toNat
  | _, _ => 0

def playLInv (_ d : List Dat) : Prop := ∃ p : Bo, ∃ k : Nat, p.Ok k ∧ k ≤ 60 ∧ d = .int k :: p.dats
def playLMu (_ d : List Dat) : Nat := match d with
  | .int k :: _ => (60 - k).toNat
  | _ => 0

def copyMInv (_ d : List Dat) : Prop := ∃ p q : Bo, ∃ k : Nat, p.Ok (60 + k) ∧ q.Ok (60 + k) ∧ k ≤ 20 ∧ d = .int k :: (p.dats ++ q.dats)
def copyMMu (_ d : List Dat) : Nat := match d with
  | .int k :: _ => (20 - k).toNat
  | _ => 0

/-- One operation taken back. -/
def Ar.undo (A : Ar) (o : Op) (h : Hd) : Ar × Int :=
  if o.kind = 0 ∨ o.kind = 1 ∨ o.kind = 2 then A.untake h.1 h.2
  else if o.kind = 3 ∨ o.kind = 4 then A.unfree h.1 h.2 o.x
  else if A.valid h.1 h.2 then (A.set h.1 o.x, 0) else (A, 11)

/-- From the one arena to the other, by taking back. -/
inductive Und (n : Nat) (A0 : Ar) : List Op → List Hd → Ar → Prop where
  | nil : Und n A0 [] [] A0
  | snoc (D : List Op) (K : List Hd) (A B : Ar) (o : Op) (h : Hd) : Und n A0 D K A → o.Ok → o.kind < 6 → U32 h.1 → U32 h.2 → B.Ok → B.undo o h = (A, 0) → Und n A0 (D ++ [o]) (K ++ [h]) B

def backMInv (g d : List Dat) : Prop := ∃ A0 : Ar, ∃ p : Bo, ∃ k : Nat, ∃ D : List Op, ∃ K : List Hd, p.Ok (60 + k) ∧ Bo.Ok ⟨A0, []⟩ 200 ∧ k ≤ 40 ∧ Und 200 A0 D K p.A ∧ D.length ≤ k ∧ g = A0.toR.dats ∧ d = [.lst (D.map Op.row), .lst (K.map hr), .int k] ++ p.dats
def backMMu (_ d : List Dat) : Nat := match d with
  | _ :: _ :: .int k :: _ => (40 - k).toNat
  | _ => 0
def backUInv (g d : List Dat) : Prop := ∃ A0 A : Ar, ∃ k : Nat, ∃ D : List Op, ∃ K : List Hd, A.Ok ∧ Bo.Ok ⟨A0, []⟩ 200 ∧ k ≤ D.length ∧ Und 200 A0 (D.take k) (K.take k) A ∧ g = A0.toR.dats ++ [.lst (D.map Op.row), .lst (K.map hr)] ∧ d = .int ((k : Int) - 1) :: A.dats
def backUMu (_ d : List Dat) : Nat := match d with
  | .int k :: _ => (k + 1).toNat
  | _ => 0

def annsC : FuncId → List (Nat × (Fm → SS → LAnn))
  | 44 => [(0, gAnn U0 "listL" (mkPl [(5, .int .i64)] fun _ _ => some []) (ghost2 (ghostT 0) (ghostT 1)) listLInv listLMu)]
  | 18 => [(0, gAnn U0 "sameL" (mkPl [(3, .acc 27 2), (5, .int .i64)] (arenaIn 0)) (ghost2 (ghostB 0 [.i, .l, .l]) (ghostC 0 [.l, .i, .i])) sameLInv sameLMu),
      (2, gAnn U0 "sameM" (mkPl [(4, .acc 27 2), (8, .int .i64)] fun _ _ => some []) (ghost2 (ghostB 0 [.i, .l, .l]) (ghostC 0 [.l, .i, .i])) sameMInv sameMMu)]
  | 5 => [(0, gAnn U0 "playL" (mkPl [(4, .int .i64)] (botAt 3)) (fun _ _ => []) playLInv playLMu)]
  | 6 => [(0, gAnn U0 "playL" (mkPl [(6, .int .i64)] (botAt 5)) (fun _ _ => []) playLInv playLMu),
      (2, gAnn U0 "backM" (mkPl [(8, .acc 39 3), (9, .acc 27 2), (10, .int .i64)] (botAt 5)) (ghostB 7 [.l, .l]) backMInv backMMu),
      (4, gAnn U0 "backU" (mkPl [(13, .int .i64)] (arenaIn 5)) (ghost2 (ghostB 7 [.l, .l]) (ghost2 (ghostT 8) (ghostT 9))) backUInv backUMu)]
  | 7 => [(0, gAnn U0 "playL" (mkPl [(8, .int .i64)] (botAt 7)) (fun _ _ => []) playLInv playLMu),
      (2, gAnn U0 "copyM" (mkPl [(10, .int .i64)] (botsAt 7 9)) (fun _ _ => []) copyMInv copyMMu)]
  | _ => []

/-- Picking a handle, whose paths are joined. -/
def pickGh (l : List SV) (s : SS) : List (So × E) := match l with
  | [.agg [.int _ a, .int _ b, .int _ c], v] => [(.i, a), (.i, b), (.i, c)] ++ match v with
    | .lst _ e _ => [(.l, e)]
    | .nils => [(.l, .op .nil [])]
    | .sl b' _ _ _ _ => match s.get b' with
      | some (.rows e _ _ _) => [(.l, e)]
      | _ => []
    | _ => []
  | _ => []
def joinsC : List (FuncId × Jn) := [(20, ⟨ "pick", pickGh, false, [some .u32, some .u32], pickRel⟩)]

def stageC : Nat → List (FuncId × Con)
  | 0 => [(21, cRvalid), (10, cTake), (11, cFree), (16, cValid), (26, cAget), (24, cAset), (22, cAuntake), (23, cAunfree), (27, cAhandles), (14, cAwait), (15, cLives), (40, cRtake), (41, cRfree), (42, cRuntake), (43, cRunfree)]
  | _ => [(17, cDo), (18, cSame), (15, cLives), (21, cRvalid), (22, cAuntake), (23, cAunfree), (24, cAset)]
def todoC : List (Nat × FuncId × Con) := [(0, 17, cDo), (0, 18, cSame), (1, 5, cPlay), (1, 6, cBack), (1, 7, cCopy)]

end Go.C15
