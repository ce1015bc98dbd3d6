/- Chapter 36: contracts and loops of the reference's plan, of its errors, of taking and putting keys.
  Conditions: none. -/
import Derived.Test.YtpdcecfnlccicaaQ4
set_option linter.unusedVariables false
noncomputable section
namespace Go.C36
open Go.Xe Go.Sx
def r0Inv : List Dat → List Dat → Prop
 | [.lst P],[.int k, .lst T] => 0 ≤ k ∧ k ≤ P.length ∧ ∃ t : List Int,T = t.map row ∧ t.length = P.length ∧ t.take k.toNat = (nums P).take k.toNat
 | _,_ => False
def r0Mu : List Dat → List Dat → Nat
 | .lst P :: _, .int k :: _ => (P.length - k).toNat
 | _,_ => 0
def r2Inv : List Dat → List Dat → Prop
 | [.lst O, .lst N, .lst P, .lst B],[.int k, .lst T, .lst L] => 0 ≤ k ∧ k ≤ O.length ∧ ∃ (t f : List Int) (l : List Lv),T = t.map row ∧ L = l.map Lv.row ∧ inB t (nums B) ∧ (l.length : Int) ≤ k ∧ lvAll (rws N) (nums B) k ((rws O).drop k.toNat) ⟨t,l,f⟩ = lvOut (rws O) (rws N) (nums P) (nums B)
 | _,_ => False
def r2Mu := r0Mu
def r4Inv : List Dat → List Dat → Prop
 | [.lst O, .lst N],[.int k, .lst R] => 0 ≤ k ∧ k ≤ N.length ∧ (R.length : Int) ≤ k ∧ R = ((((rws N).take k.toNat).filter fun x => decide (x ∈ rws O)).map (atR (rws O))).map row
 | _,_ => False
def r4Mu : List Dat → List Dat → Nat
 | _ :: .lst N :: _, .int k :: _ => (N.length - k).toNat
 | _,_ => 0
def r6Inv : List Dat → List Dat → Prop
 | [.lst O, .lst N, .lst B, .lst K, .lst L0, .lst T0], [.int k, .lst T, .lst L, .lst S] => 0 ≤ k ∧ k ≤ N.length ∧ L = L0 ∧
   ∃ (t0 t h : List Int) (s : List Stp),T0 = t0.map row ∧ T = t.map row ∧ S = (s.map (keepS (nums K))).map Stp.row ∧ inB t (nums B) ∧ (s.length : Int) = k ∧ stAll (rws O) ((rws N).drop k.toNat) ⟨t,h,s⟩ = stAll (rws O) (rws N) ⟨t0,[],[]⟩
 | _,_ => False
def r6Mu := r4Mu
def r8Inv : List Dat → List Dat → Prop
 | [.lst K, .int a],[.int k, .int o, .bool m] => 0 ≤ k ∧ k ≤ K.length ∧ o = a ∧ m = decide (a ∉ (nums K).take k.toNat)
 | _,_ => False
def r8Mu := r0Mu
def rcheckPre := pcheckPre
def rcheckRel := pcheckRel
def cRcheck := mkC "rcheck" [lV,iV] rcheckPre [iV] rcheckRel
def c0Inv : List Dat → List Dat → Prop
 | [.lst L, .int n],[.int i] => 0 ≤ i ∧ i ≤ L.length ∧ chkR n (((rws L).take i.toNat).map Rw.k) ((rws L).drop i.toNat) = chkR n [] (rws L)
 | _,_ => False
def c0Mu := r0Mu
def c2Inv : List Dat → List Dat → Prop
 | [.lst L, .int i],[.int k] => 0 ≤ k ∧ k ≤ i ∧ i < L.length ∧ ∀ x : Rw,(rws L)[i.toNat]? = some x → x.k ∉ ((rws L).take k.toNat).map Rw.k
 | _,_ => False
def c2Mu : List Dat → List Dat → Nat
 | [_, .int i],[.int k] => (i - k).toNat
 | _,_ => 0
def e0Inv := rgInv
def e0Mu := rgMu
def qV : Vs := .one (.g (.lst 45))
def uV64 : Vs := .one (.g (.int .u64))
def isQ (L : Sx.Rows) : Prop := ∃ l : List Int,L = l.map row ∧ l.length ≤ 4096
def takePre : List Dat → Prop
 | [.lst L, .int _] => isQ L
 | _ => False
def takeRel : List Dat → List Dat → Prop
 | [.lst L, .int x],[.lst D] => D = ((nums L).filter fun y => decide (y ≠ x)).map row
 | _,_ => False
def putF (x a : Int) : List Int → List Int
 | [] => []
 | y :: l => if y = a then x :: y :: putF x a l else y :: putF x a l
def putL (l : List Int) (x a : Int) : List Int := if a = 0 then putF x a l ++ [x] else putF x a l
def putPre : List Dat → Prop
 | [.lst L, .int _, .int _] => isQ L
 | _ => False
def putRel : List Dat → List Dat → Prop
 | [.lst L, .int x, .int a],[.lst D] => D = (putL (nums L) x a).map row
 | _,_ => False
def cPut := mkC "put" [qV,uV64,uV64] putPre [qV] putRel
def tkInv : List Dat → List Dat → Prop
 | [.lst L, .int x],[.int k, .lst O] => 0 ≤ k ∧ k ≤ L.length ∧ (O.length : Int) ≤ k ∧ O = (((nums L).take k.toNat).filter fun y => decide (y ≠ x)).map row
 | _,_ => False
def tkMu := r0Mu
def puInv : List Dat → List Dat → Prop
 | [.lst L, .int x, .int a],[.int k, .lst O] => 0 ≤ k ∧ k ≤ L.length ∧ (O.length : Int) ≤ 2 * k ∧ O = (putF x a ((nums L).take k.toNat)).map row
 | _,_ => False
def puMu := r0Mu
def annsC : FuncId → List (Nat × (Fm → SS → LAnn))
 | 19 => [(0, gAnn U0 "r0" (mkPl [(11, .int .i64), (10, .acc 3 1)] nob) (ghostT 2) r0Inv r0Mu),
   (2,gAnn U0 "r2" (mkPl [(12, .int .i64),(10, .acc 3 1)] (cellsT 9 [.acc 49 2, .keep])) (gh2 (ghostT 0) (gh2 (ghostT 1) (gh2 (ghostT 2) (ghostT 3)))) r2Inv r2Mu),
   (4,gAnn U0 "r4" (mkPl [(16, .int .i64),(15, .acc 3 1)] nob) (gh2 (ghostT 0) (ghostT 1)) r4Inv r4Mu),
   (6,gAnn U0 "r6" (mkPl [(18, .int .i64),(10, .acc 3 1)] (cellsT 9 [.acc 49 2, .acc 40 3])) (gh2 (ghostT 0) (gh2 (ghostT 1) (gh2 (ghostT 3) (gh2 (ghostT 17) (gh2 (ghCell 9 0) (ghostT 10)))))) r6Inv r6Mu),
   (8,gAnn U0 "r8" (mkPl [(22, .int .i64)] (cellsT 21 [.keep, .int .i64, .bool])) (gh2 (ghostT 17) (ghostT 20)) r8Inv r8Mu)]
 | 25 => [(0,gAnn U0 "c0" (mkPl [(5, .int .i64)] nob) (gh2 (ghostT 0) (ghostT 1)) c0Inv c0Mu),(2,gAnn U0 "c2" (mkPl [(6, .int .i64)] nob) (gh2 (ghostT 0) (ghostT 5)) c2Inv c2Mu)]
 | 23 => [(0,gAnn U0 "e0" (mkPl [(9, .int .i64)] nob) (gh2 (ghostT 2) (ghostT 3)) e0Inv e0Mu)]
 | 14 => [(0,gAnn U0 "tk" (mkPl [(6, .int .i64),(5, .acc 45 1)] nob) (gh2 (ghostT 0) (ghostT 1)) tkInv tkMu)]
 | 15 => [(0,gAnn U0 "pu" (mkPl [(8, .int .i64),(7, .acc 45 1)] nob) (gh2 (ghostT 0) (gh2 (ghostT 1) (ghostT 2))) puInv puMu)]
 | _ => []
def stageC : Nat → List (FuncId × Con)
 | 0 => [(40,cPfind),(38,cRkept),(12,cYes "lives")]
 | 1 => [(25,cRcheck),(12,cYes "lives")]
 | _ => [(12,cYes "lives")]
end Go.C36
