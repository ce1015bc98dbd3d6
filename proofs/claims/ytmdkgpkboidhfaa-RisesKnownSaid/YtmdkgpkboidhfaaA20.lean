/- Chapter 08, moves: contracts and loops of RisesErrors.
  Conditions: none. -/
import Derived.Test.YtmdkgpkboidhfaaA19
import Derived.Test.YtmdkgpkboidhfaaA12
import Derived.Test.YtmdkgpkboidhfaaSm3
set_option linter.unusedVariables false
noncomputable section
namespace Go.C08
open Go.Xe Go.Sx
structure Sp where
 w : Int
 a : Int
 deriving DecidableEq
def Sp.row (s : Sp) : List Dat:=[.int s.w, .int s.a]
def spOf (r : List Dat) : Sp:=⟨(r.getD 0 (.int 0)).toInt,(r.getD 1 (.int 0)).toInt⟩
def sps (L : Sx.Rows) : List Sp:=L.map spOf
def hdN : List Int→Int
 | [] => -1
 | x :: _=>x
def mvF (K : List Int) : Int→List Int→List Sp
 | _,[]=>[]
 | j,x :: l=>mvF K (j+1) l ++ if j ∈ K then [] else [⟨x,hdN l⟩]
def mvV (S : List Int) : List Int→List Sp
 | []=>[]
 | x :: l=>mvV S l ++ if x ∈ S then [] else [⟨x,hdN l⟩]
def movesL (l m : List Int) : List Sp:=mvF (lis (ordOf l m)) 0 m
def pairPre:=twoPre
def pairRel : List Dat→List Dat→Prop
 | [.lst L, .lst M],[.int e]=>e=pairE (nums L) (nums M)
 | _,_=>False
def cPair:=mkC "pair" [nV,nV] pairPre [iV] pairRel
def paInv : List Dat→List Dat→Prop
 | [.lst L, .lst M],[.int k]=>0≤k∧k≤M.length ∧ ∀ x ∈ (nums M).take k.toNat,x ∈ nums L
 | _,_=>False
def paMu : List Dat→List Dat→Nat
 | [_, .lst M], .int k :: _=>(M.length - k).toNat
 | _,_=>0
def rkeptPre : List Dat→Prop
 | [.lst L, .lst M]=>isN L∧isN M∧pairE (nums L) (nums M)=0
 | _=>False
def rkeptRel : List Dat→List Dat→Prop
 | [.lst L, .lst M],[.lst D]=>D=(keptL (nums L) (nums M)).map row
 | _,_=>False
def cRkept:=mkC "rkept" [nV,nV] rkeptPre [oV] rkeptRel
def rk0Inv : List Dat→List Dat→Prop
 | [.lst L, .lst M],[.int k, .lst O]=>0≤k∧k≤M.length∧O=(ordOf (nums L) ((nums M).take k.toNat)).map row
 | _,_=>False
def rk0Mu:=paMu
def rk2Inv : List Dat→List Dat→Prop
 | [.lst M, .lst I],[.int k, .lst O]=>0≤k∧k≤I.length∧O=(((nums I).take k.toNat).map fun j=>(nums M).getD j.toNat 0).map row
 | _,_=>False
def rk2Mu:=paMu
def movesPre:=twoPre
def movesRel : List Dat→List Dat→Prop
 | [.lst L, .lst M],[.lst D, .int e]=>D=(if pairE (nums L) (nums M)=0 then movesL (nums L) (nums M) else []).map Sp.row∧e=pairE (nums L) (nums M)
 | _,_=>False
def cMoves:=mkC "moves" [nV,nV] movesPre [.one (.g (.clp 50)),iV] movesRel
def yldF (f : Fm) : Fm:=match lk f 0 with
 | some (.yld ks vs _ _ _ _ _)=>ks.zip vs
 | _=>[]
def ghCell (t j : Nat) : Fm→SS→List (So × E):=fun f s=>match lk f t with
 | some (.ptr b _ _ _)=>match s.get b with
  | some (.cells l _ _)=>match l[j]? with
   | some (.lst _ e _)=>[(.l,e)]
   | some (.int _ e)=>[(.i,e)]
   | _=>[]
  | _=>[]
 | _=>[]
def mvInv : List Dat → List Dat → Prop
 | [.lst N, .lst K], [.int i, .lst L, .lst O, .int a] => -1 ≤ i ∧ i < N.length ∧ ∃ n : Nat, L = ((nums K).take n).map row ∧ n ≤ K.length ∧ (∀ j ∈ (nums K).take n, j ≤ i) ∧ (∀ j ∈ (nums K).drop n, i < j) ∧
   a=hdN ((nums N).drop (i+1).toNat)∧O=(mvF (nums K) (i+1) ((nums N).drop (i+1).toNat)).map Sp.row∧(O.length : Int)+(K.length - n)=N.length - (i+1)
 | _,_=>False
def mvMu : List Dat→List Dat→Nat
 | _, .int i :: _=>(i+1).toNat
 | _,_=>0
def rmovesPre:=rkeptPre
def rmovesRel : List Dat→List Dat→Prop
 | [.lst L, .lst M],[.lst D]=>D=(mvV (keptL (nums L) (nums M)) (nums M)).map Sp.row
 | _,_=>False
def cRmoves:=mkC "rmoves" [nV,nV] rmovesPre [.one (.g (.acc 52 2))] rmovesRel
def rmInv : List Dat→List Dat→Prop
 | [.lst M, .lst S],[.int i, .lst O, .lst T] => -1≤i∧i < M.length∧T=S∧(O.length : Int)≤M.length - (i+1)∧O=(mvV (nums S) ((nums M).drop (i+1).toNat)).map Sp.row
 | _,_=>False
def rmMu:=mvMu
def stepsPre : List Dat→Prop
 | [.lst L, .int _, .lst M, .int _]=>(∃ l : List Sp,L=l.map Sp.row) ∧ ∃ m : List Sp,M=m.map Sp.row∧m.length≤4096
 | _=>False
def stepsRel : List Dat→List Dat→Prop
 | [.lst L, .int e, .lst M, .int f],[.bool b]=>b=decide (e=f∧sps L=sps M)
 | _,_=>False
def cSteps:=mkC "steps" [.one (.g (.clp 50)),iV, .one (.g (.lst 52)),iV] stepsPre [bV] stepsRel
def seqInv : List Dat→List Dat→Prop
 | [.lst L, .lst M],[.int k]=>0≤k∧k≤M.length∧L.length=M.length∧(sps L).take k.toNat=(sps M).take k.toNat
 | _,_=>False
def seqMu:=paMu
def annsE : FuncId → List (Nat × (Fm → SS → LAnn))
 | 21=>[(0,gAnn U0 "pa" (mkPl [(6, .int .i64)] nob) (gh2 (ghostT 0) (ghostT 1)) paInv paMu)]
 | 16=>[(0,gAnn U0 "rk0" (mkPl [(6, .int .i64),(5, .acc 3 1)] nob) (gh2 (ghostT 0) (ghostT 1)) rk0Inv rk0Mu),(2,gAnn U0 "rk2" (mkPl [(9, .int .i64),(8, .acc 3 1)] nob) (gh2 (ghostT 1) (ghostT 7)) rk2Inv rk2Mu)]
 | 38 => [(0, gAnn U0 "mv" (mkPl [(3, .int .i64)] (fun f s => match cellsT 6 [.lst 3] (yldF f) s, cellsT 8 [.acc 50 2] (yldF f) s, cellsT 9 [.int .i64] (yldF f) s with
   | some a,some b,some c=>some (a ++ (b ++ c))
   | _,_,_=>none)) (gh2 (ghCell 1 0) (fun f s=>ghostT 17 (yldF f) s)) mvInv mvMu)]
 | 18=>[(0,gAnn U0 "rm" (mkPl [(7, .int .i64),(6, .acc 52 2),(5, .lst 3)] nob) (gh2 (ghostT 1) (ghostT 5)) rmInv rmMu)]
 | 17=>[(0,gAnn U0 "seq" (mkPl [(9, .int .i64)] nob) (gh2 (ghostT 0) (ghostT 2)) seqInv seqMu)]
 | _=>[]
def stageE : Nat→List (FuncId × Con)
 | 0=>[(22,cRcheck),(29,cRat),(9,cYes "lives")]
 | 1=>[(29,cRat),(12,cRlong),(9,cYes "lives")]
 | 2=>[(27,cKepti),(9,cYes "lives")]
 | 3=>[(16,cRkept),(29,cRat),(9,cYes "lives")]
 | 4=>[(9,cYes "lives")]
 | _=>[(21,cPair),(14,cKept),(15,cMoves),(22,cRcheck),(23,cCheck),(16,cRkept),(11,cSame),(18,cRmoves),(17,cSteps),(9,cYes "lives")]
end Go.C08
