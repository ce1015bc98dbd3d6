/- Chapter 13, lists of attributes and of edits: what the functions compute, as contracts.
  Conditions: none. -/
import Derived.Test.YtkeoanklmnadiaaSm3
noncomputable section
namespace Go.C13
open Go.Xe Go.Sx

abbrev Str := List UInt8

/-! ## Strings -/

def nameB (b : UInt8) : Bool := decide (97 ≤ b.toNat) && decide (b.toNat ≤ 122) || decide (48 ≤ b.toNat) && decide (b.toNat ≤ 57)
def strB (b : UInt8) : Bool := decide (32 ≤ b.toNat) && decide (b.toNat ≤ 126)
def vName (s : Str) : Bool := decide (1 ≤ s.length) && decide (s.length ≤ 16) && s.all nameB
def vStr (s : Str) : Bool := decide (s.length ≤ 64) && s.all strB
def lt (a b : Str) : Bool := Op.bytesLess a b
def cmpS (a b : Str) : Int := if lt a b then -1 else if a = b then 0 else 1

/-! ## Attributes, edits -/

structure Att where
  n : Str
  v : Str
  deriving DecidableEq
structure Ed where
  n : Str
  d : Bool
  v : Str
  deriving DecidableEq

def Att.row (a : Att) : List Dat := [.str a.n, .str a.v]
def Ed.row (e : Ed) : List Dat := [.str e.n, .bool e.d, .str e.v]
def atOf (r : List Dat) : Att := ⟨(r.getD 0 (.int 0)).toStr, (r.getD 1 (.int 0)).toStr⟩
def edOf (r : List Dat) : Ed := ⟨(r.getD 0 (.int 0)).toStr, (r.getD 1 (.int 0)).toBool, (r.getD 2 (.int 0)).toStr⟩
def ats (L : Sx.Rows) : List Att := L.map atOf
def eds (L : Sx.Rows) : List Ed := L.map edOf

def asc : List Str → Bool
  | a :: b :: l => lt a b && asc (b :: l)
  | _ => true
def okAt (a : Att) : Bool := vName a.n && vStr a.v
def vAts (l : List Att) : Bool := decide (l.length ≤ 8) && l.all okAt && asc (l.map Att.n)
def ckAts (l : List Att) : Int := if vAts l then 0 else 14
def okEd (e : Ed) : Bool := vName e.n && vStr e.v && (!e.d || e.v.isEmpty)
def ckEds (l : List Ed) : Int := if l.all okEd then (if asc (l.map Ed.n) then 0 else 16) else 14

def findA : List Att → Str → Option Str
  | [], _ => none
  | a :: l, n => if a.n = n then some a.v else findA l n
def idxA : List Att → Str → Int
  | [], _ => -1
  | a :: l, n => if a.n = n then 0 else (let k := idxA l n; if k < 0 then -1 else k + 1)
def insA : List Att → Att → List Att
  | [], a => [a]
  | b :: l, a => if lt a.n b.n then a :: b :: l else b :: insA l a
def dropA (l : List Att) (n : Str) : List Att := match l with
  | [] => []
  | a :: l => if a.n = n then l else a :: dropA l n

/-- One edit, as the reference carries it out: none, if it drops what is not there. -/
def stepA (l : List Att) (e : Ed) : Option (List Att) := if e.d then (if idxA l e.n < 0 then none else some (dropA l e.n)) else some (insA (dropA l e.n) ⟨e.n, e.v⟩)
def stepsA : List Att → List Ed → Option (List Att)
  | l, [] => some l
  | l, e :: es => match stepA l e with
    | none => none
    | some m => stepsA m es
def rapp (l : List Att) (es : List Ed) : List Att × Int := match stepsA l es with
  | none => ([], 11)
  | some m => if m.length > 8 then ([], 3) else (m, 0)

/-! ## The merges -/

def diffM : List Att → List Att → List Ed
  | [], [] => []
  | a :: as, [] => ⟨a.n, true, []⟩ :: diffM as []
  | [], b :: bs => ⟨b.n, false, b.v⟩ :: diffM [] bs
  | a :: as, b :: bs =>
    if lt a.n b.n then ⟨a.n, true, []⟩ :: diffM as (b :: bs)
    else if a.n = b.n then (if a.v = b.v then diffM as bs else ⟨b.n, false, b.v⟩ :: diffM as bs)
    else ⟨b.n, false, b.v⟩ :: diffM (a :: as) bs
  termination_by a b => a.length + b.length

def edA (e : Ed) : List Att := if e.d then [] else [⟨e.n, e.v⟩]
def appM : List Att → List Ed → List Att
  | [], [] => []
  | a :: as, [] => a :: appM as []
  | [], e :: es => edA e ++ appM [] es
  | a :: as, e :: es =>
    if lt a.n e.n then a :: appM as (e :: es)
    else if a.n = e.n then edA e ++ appM as es
    else edA e ++ appM (a :: as) es
  termination_by a b => a.length + b.length
/-- Whether an edit drops what is not there. -/
def badM : List Att → List Ed → Bool
  | [], [] => false
  | _ :: as, [] => badM as []
  | [], e :: es => e.d || badM [] es
  | a :: as, e :: es =>
    if lt a.n e.n then badM as (e :: es)
    else if a.n = e.n then badM as es
    else e.d || badM (a :: as) es
  termination_by a b => a.length + b.length
def app (l : List Att) (es : List Ed) : List Att × Int :=
  if vAts l then (if ckEds es = 0 then (if badM l es then ([], 11) else if (appM l es).length > 8 then ([], 3) else (appM l es, 0)) else ([], ckEds es)) else ([], 14)

def compM : List Ed → List Ed → List Ed
  | [], [] => []
  | a :: as, [] => a :: compM as []
  | [], b :: bs => b :: compM [] bs
  | a :: as, b :: bs =>
    if lt a.n b.n then a :: compM as (b :: bs)
    else if a.n = b.n then b :: compM as bs
    else b :: compM (a :: as) bs
  termination_by a b => a.length + b.length

/-! ## The law's data -/

def names : List Str := [[97], [97, 97], [98], [99], [99, 108, 97, 115, 115], [105, 100], [120], [122], [122, 97], [122, 98], [122, 99], [122, 100]]
def nameOf (i : Int) : Str := names.getD i.toNat []
def values : List Str := [[], [49], [50], [120, 32, 34, 121]]
def valOf (n : Int) : Str := values.getD (n.tmod 4).toNat []
/-- The attributes from number i on. -/
def ofL (t : Int) (vs : List Int) (i : Nat) : Option Att := if (shrI .u8 t i).tmod 2 = 1 then some ⟨nameOf i, valOf (vs.getD i 0)⟩ else none
def ofW (w : Int) (vs : List Int) (i : Nat) : Option Ed :=
  if (shrI .u32 w (2 * i)).tmod 4 = 1 then some ⟨nameOf i, false, valOf (vs.getD i 0)⟩ else if (shrI .u32 w (2 * i)).tmod 4 = 2 then some ⟨nameOf i, true, []⟩ else none
def listL (t : Int) (vs : List Int) (n : Nat) : List Att := (List.range n).filterMap (ofL t vs)
def listW (w : Int) (vs : List Int) (n : Nat) : List Ed := (List.range n).filterMap (ofW w vs)

/-! ## Contracts -/

def sV : Vs := .one (.g .str)
def iV : Vs := .one (.g (.int .i64))
def bV : Vs := .one (.g .bool)
def aV : Vs := .one (.g (.lst 59))
def eV : Vs := .one (.g (.lst 61))
def rV : Vs := .one (.g (.lst 50))
def noB : SV → SS → Option (List Nat) := fun _ _ => some []
def noF : List SV → SS → Option (List Nat) := fun _ _ => some []
def mkC (n : String) (args : List Vs) (pre : List Dat → Prop) (res : List Vs) (rel : List Dat → List Dat → Prop) : Con := ⟨n, args, [], noF, pre, res, [], noB, rel⟩

def big (l : List Dat) : Prop := l.length ≤ 1000
def lim : Nat := 67108864
def sPre : List Dat → Prop
  | [.str _] => True
  | _ => False
def namedPre := sPre
def textPre := sPre
def rnamePre := sPre
def rstrPre := sPre
def namedRel : List Dat → List Dat → Prop
  | [.str s], [.bool b] => b = vName s
  | _, _ => False
def textRel : List Dat → List Dat → Prop
  | [.str s], [.bool b] => b = vStr s
  | _, _ => False
def rnameRel := namedRel
def rstrRel := textRel
def cNamed := mkC "named" [sV] namedPre [bV] namedRel
def cText := mkC "text" [sV] textPre [bV] textRel
def cRname := mkC "rname" [sV] rnamePre [bV] rnameRel
def cRstr := mkC "rstr" [sV] rstrPre [bV] rstrRel

def cmpPre : List Dat → Prop
  | [.str _, .str _] => True
  | _ => False
def cmpRel : List Dat → List Dat → Prop
  | [.str a, .str b], [.int n] => n = cmpS a b
  | _, _ => False
def cCmp := mkC "cmp" [sV, sV] cmpPre [iV] cmpRel

def nmPre : List Dat → Prop
  | [.int i] => 0 ≤ i ∧ i < 12
  | _ => False
def nmRel : List Dat → List Dat → Prop
  | [.int i], [.str s] => s = nameOf i
  | _, _ => False
def cNm := mkC "nm" [iV] nmPre [sV] nmRel
def valPre : List Dat → Prop
  | [.int i] => 0 ≤ i ∧ i < 256
  | _ => False
def valRel : List Dat → List Dat → Prop
  | [.int i], [.str s] => s = valOf i
  | _, _ => False
def cVal := mkC "val" [.one (.g (.int .u8))] valPre [sV] valRel

/-- A list of not too many attributes. -/
def AtsOK (l : List Att) : Prop := l.length ≤ 1000
def EdsOK (l : List Ed) : Prop := l.length ≤ 1000
def isAts (L : Sx.Rows) : Prop := ∃ l : List Att, L = l.map Att.row ∧ AtsOK l
def isEds (L : Sx.Rows) : Prop := ∃ l : List Ed, L = l.map Ed.row ∧ EdsOK l

def checkPre : List Dat → Prop
  | [.lst L] => isAts L
  | _ => False
def checkRel : List Dat → List Dat → Prop
  | [.lst L], [.int n] => n = ckAts (ats L)
  | _, _ => False
def cCheck := mkC "check" [aV] checkPre [iV] checkRel
def rcheckPre := checkPre
def rcheckRel := checkRel
def cRcheck := mkC "rcheck" [aV] rcheckPre [iV] rcheckRel
def ceditsPre : List Dat → Prop
  | [.lst L] => isEds L
  | _ => False
def ceditsRel : List Dat → List Dat → Prop
  | [.lst L], [.int n] => n = ckEds (eds L)
  | _, _ => False
def cCedits := mkC "cedits" [eV] ceditsPre [iV] ceditsRel
def rceditsPre := ceditsPre
def rceditsRel := ceditsRel
def cRcedits := mkC "rcedits" [rV] rceditsPre [iV] rceditsRel

def at2Pre : List Dat → Prop
  | [.lst L, .lst M] => isAts L ∧ isAts M
  | _ => False
def samePre := at2Pre
def sameRel : List Dat → List Dat → Prop
  | [.lst L, .lst M], [.int n] => n = if ats L = ats M then 1 else 0
  | _, _ => False
def cSame := mkC "same" [aV, aV] samePre [iV] sameRel
def diffPre := at2Pre
def diffRel : List Dat → List Dat → Prop
  | [.lst L, .lst M], [.lst D, .int n] => D = (if vAts (ats L) && vAts (ats M) then diffM (ats L) (ats M) else []).map Ed.row ∧ n = if vAts (ats L) && vAts (ats M) then 0 else 14
  | _, _ => False
def cDiff := mkC "diff" [aV, aV] diffPre [.one (.g (.clp 61)), iV] diffRel

def aePre : List Dat → Prop
  | [.lst L, .lst E] => isAts L ∧ isEds E
  | _ => False
def appPre := aePre
def appRel : List Dat → List Dat → Prop
  | [.lst L, .lst E], [.lst D, .int n] => D = (app (ats L) (eds E)).1.map Att.row ∧ n = (app (ats L) (eds E)).2
  | _, _ => False
def cApp := mkC "app" [aV, eV] appPre [.one (.g (.clp 59)), iV] appRel
def rappPre : List Dat → Prop
  | [.lst L, .lst E] => isAts L ∧ isEds E ∧ L.length + E.length ≤ 1000
  | _ => False
def rappRel : List Dat → List Dat → Prop
  | [.lst L, .lst E], [.lst D, .int n] => D = (rapp (ats L) (eds E)).1.map Att.row ∧ n = (rapp (ats L) (eds E)).2
  | _, _ => False
def cRapp := mkC "rapp" [aV, rV] rappPre [aV, iV] rappRel

def compPre : List Dat → Prop
  | [.lst L, .lst M] => isEds L ∧ isEds M
  | _ => False
def cmpE (a b : List Ed) : Int := if ckEds a = 0 then ckEds b else ckEds a
def compRel : List Dat → List Dat → Prop
  | [.lst L, .lst M], [.lst D, .int n] => D = (if cmpE (eds L) (eds M) = 0 then compM (eds L) (eds M) else []).map Ed.row ∧ n = cmpE (eds L) (eds M)
  | _, _ => False
def cComp := mkC "comp" [eV, eV] compPre [.one (.g (.clp 61)), iV] compRel

def asPre : List Dat → Prop
  | [.lst L, .str _] => isAts L
  | _ => False
def findPre := asPre
def findV (l : List Att) (n : Str) : Str := if vAts l then (findA l n).getD [] else []
def findN (l : List Att) (n : Str) : Int := if vAts l then (if (findA l n).isSome then 0 else 11) else 14
def findRel : List Dat → List Dat → Prop
  | [.lst L, .str s], [.str v, .int n] => v = findV (ats L) s ∧ n = findN (ats L) s
  | _, _ => False
def cFind := mkC "find" [aV, sV] findPre [sV, iV] findRel
def rfindPre := asPre
def rfindRel : List Dat → List Dat → Prop
  | [.lst L, .str s], [.int n] => n = idxA (ats L) s
  | _, _ => False
def cRfind := mkC "rfind" [aV, sV] rfindPre [iV] rfindRel

def insPre : List Dat → Prop
  | [.lst L, .str _, .str _] => isAts L
  | _ => False
def insRel : List Dat → List Dat → Prop
  | [.lst L, .str s, .str v], [.lst D] => D = (insA (ats L) ⟨s, v⟩).map Att.row
  | _, _ => False
def cIns := mkC "ins" [aV, .agg [.g .str, .g .str]] insPre [aV] insRel

def plainPre := ceditsPre
def plainRel : List Dat → List Dat → Prop
  | [.lst L], [.lst D] => D = (eds L).map Ed.row
  | _, _ => False
def cPlain := mkC "plain" [eV] plainPre [.one (.g (.acc 50 3))] plainRel

def u8 (n : Int) : Prop := 0 ≤ n ∧ n < 256
def lV : Vs := .agg (.g (.int .u8) :: List.replicate 8 (.g (.int .u8)))
def wV : Vs := .agg (.g (.int .u32) :: List.replicate 12 (.g (.int .u8)))
def ints : List Dat → List Int
  | [] => []
  | d :: l => d.toInt :: ints l
def oflPre : List Dat → Prop
  | .int t :: vs => u8 t ∧ ∃ l : List Int, l.length = 8 ∧ (∀ n ∈ l, u8 n) ∧ vs = l.map Dat.int
  | _ => False
def oflRel : List Dat → List Dat → Prop
  | .int t :: vs, [.lst D] => D = (listL t (ints vs) 8).map Att.row
  | _, _ => False
def cOfl := mkC "ofl" [lV] oflPre [aV] oflRel
def ofwPre : List Dat → Prop
  | .int t :: vs => (0 ≤ t ∧ t < 4294967296) ∧ ∃ l : List Int, l.length = 12 ∧ (∀ n ∈ l, u8 n) ∧ vs = l.map Dat.int
  | _ => False
def ofwRel : List Dat → List Dat → Prop
  | .int t :: vs, [.lst D] => D = (listW t (ints vs) 12).map Ed.row
  | _, _ => False
def cOfw := mkC "ofw" [wV] ofwPre [eV] ofwRel

def trueRel (_ e : List Dat) : Prop := e = [.bool true]
def livesPre (d : List Dat) : Prop := d = []
def livesRel := yesRel

/-! ## Loops -/

def U0 : Nat → List Dat → Dat := fun _ _ => .int 0

def ghostT (t : Nat) : Fm → SS → List (So × E) := fun f s => match lk f t with
  | some (.lst _ e _) => [(.l, e)]
  | some (.str e) => [(.s, e)]
  | some (.int _ e) => [(.i, e)]
  | some (.sl b _ _ _ _) => match s.get b with
    | some (.rows e _ _ _) => [(.l, e)]
    | none => match lk s.fz b with
      | some r => [(.l, r.1)]
      | none => []
    | _ => []
  | _ => []
def gh2 (a b : Fm → SS → List (So × E)) : Fm → SS → List (So × E) := fun f s => a f s ++ b f s
def gh0 : Fm → SS → List (So × E) := fun _ _ => []
def nob : Fm → SS → Option (List (Nat × List G)) := fun _ _ => some []
/-- The block that captured variable j of the function in a temporary is. -/
def capB (t j : Nat) (gs : List G) : Fm → SS → Option (List (Nat × List G)) := fun f _ => match lk f t with
  | some (.fn _ _ cs) => match cs[j]? with
    | some (.ptr b _ _ _) => some [(b, gs)]
    | _ => none
  | _ => none
def cap2 (a b : Fm → SS → Option (List (Nat × List G))) : Fm → SS → Option (List (Nat × List G)) := fun f s => match a f s, b f s with
  | some x, some y => some (x ++ y)
  | _, _ => none
def cellsT (t : Nat) (gs : List G) : Fm → SS → Option (List (Nat × List G)) := fun f _ => match lk f t with
  | some (.ptr b _ _ _) => some [(b, gs)]
  | _ => none
def itrPl (t : Nat) : Code → Fm → SS → Option (List (At × G) × List Nat) := fun c f s => match ptrT f t with
  | some b => match s.get b with
    | some (.iter str _) => mkPl [(t, .itr str)] nob c f s
    | _ => none
  | none => none

def nmInv : List Dat → List Dat → Prop
  | [.str s], [.int k] => 0 ≤ k ∧ k ≤ s.length ∧ (s.take k.toNat).all nameB = true
  | _, _ => False
def slMu : List Dat → List Dat → Nat
  | .str s :: _, .int k :: _ => (s.length - k).toNat
  | _, _ => 0
def stInv : List Dat → List Dat → Prop
  | [.str s], [.int k] => 0 ≤ k ∧ k ≤ s.length ∧ (s.take k.toNat).all strB = true
  | _, _ => False
def nm17Inv : List Dat → List Dat → Prop
  | [.str s], [.int k] => 0 ≤ k ∧ k ≤ s.length ∧ k ≤ 17 ∧ (s.take k.toNat).all nameB = true
  | _, _ => False
def llMu : List Dat → List Dat → Nat
  | .lst l :: _, .int k :: _ => (l.length - k).toNat
  | _, _ => 0

def annsS : FuncId → List (Nat × (Fm → SS → LAnn))
  | 54 => [(0, gAnn U0 "nm" (mkPl [(14, .int .i64)] nob) (ghostT 0) nmInv slMu)]
  | 61 => [(0, gAnn U0 "st" (itrPl 10) (ghostT 0) stInv slMu)]
  | 37 => [(0, gAnn U0 "nm17" (mkPl [(3, .int .i64)] nob) (ghostT 0) nm17Inv slMu)]
  | 38 => [(0, gAnn U0 "st" (mkPl [(3, .int .i64)] nob) (ghostT 0) stInv slMu)]
  | _ => []
def stMu := slMu
def nmMu := slMu
def nm17Mu := slMu

def stageS : Nat → List (FuncId × Con) := fun _ => [(15, cYes "lives")]
def todoS : List (Nat × FuncId × Con) := [(0, 54, cNamed), (0, 53, cText), (0, 37, cRname), (0, 38, cRstr), (0, 42, cCmp), (0, 19, cNm), (0, 24, cVal)]

end Go.C13
