/- Chapter 36: contracts and loops of what stands ahead, of counting, of comparing, of the reference's parts.
  Conditions: none. -/
import Derived.Test.YtpdcecfnlccicaaP16
set_option linter.unusedVariables false
noncomputable section
namespace Go.C36
open Go.Xe Go.Sx
def nxt : Int→List Stp→Int
 | _,[] => -1
 | i,s :: l=>if s.w=1∧s.m=false then i else nxt (i+1) l
def aheadF : Int→List Stp→List Int
 | _,[]=>[]
 | i,s :: l=>nxt (i+1) l :: aheadF (i+1) l
def vpick : List Int→List Int→Int→Int→List Int
 | x :: l,f :: fs,left,last=>if f=left∧last < x then x :: vpick l fs (left - 1) x else vpick l fs left last
 | _,_,_,_=>[]
def rkept (l : List Int) : List Int:=vpick l (frm l) (maxL (frm l)) (-1)
def isBind (s : Stp) : Bool:=decide (s.w=2)
def isMake (s : Stp) : Bool:=decide (s.w=3)
def nbindsPre:=planPre
def nbindsRel : List Dat→List Dat→Prop
 | [.lst _, .lst S],[.int n]=>n=many isBind (stps S)
 | _,_=>False
def cNbinds:=mkC "nbinds" [pV] nbindsPre [iV] nbindsRel
def nmakesPre:=planPre
def nmakesRel : List Dat→List Dat→Prop
 | [.lst _, .lst S],[.int n]=>n=many isMake (stps S)
 | _,_=>False
def cNmakes:=mkC "nmakes" [pV] nmakesPre [iV] nmakesRel
def drops (l : List Lv) : Int:=l.countP fun x=>x.d
def isLv (L : Sx.Rows) : Prop := ∃ l : List Lv,L=l.map Lv.row∧l.length≤1024
def ndropsPre : List Dat→Prop
 | [.lst L, .lst _]=>isLv L
 | _=>False
def ndropsRel : List Dat→List Dat→Prop
 | [.lst L, .lst _],[.int n]=>n=drops (lvs L)
 | _,_=>False
def cNdrops:=mkC "ndrops" [pV] ndropsPre [iV] ndropsRel
def rlensPre:=onePre
def rlensRel:=lenRel
def cRlens:=mkC "rlens" [nV] rlensPre [oV] rlensRel
def rkeptPre:=onePre
def rkeptRel : List Dat→List Dat→Prop
 | [.lst L],[.lst D]=>D=(rkept (nums L)).map row
 | _,_=>False
def cRkept:=mkC "rkept" [nV] rkeptPre [oV] rkeptRel
def ahInv : List Dat→List Dat→Prop
 | [.lst S],[.lst O, .int i, .int n] => -1≤i∧i < S.length∧n=nxt (i+1) ((stps S).drop (i+1).toNat) ∧ ∃ o : List Int,O=o.map row∧o.length=S.length∧o.drop (i+1).toNat=aheadF (i+1) ((stps S).drop (i+1).toNat)
 | _,_=>False
def ahMu : List Dat→List Dat→Nat
 | _,[_, .int i,_]=>(i+1).toNat
 | _,_=>0
def mnbInv : List Dat→List Dat→Prop
 | [.lst S],[.int k, .int n]=>0≤k∧k≤S.length∧n=many isBind ((stps S).take k.toNat)∧0≤n∧n≤k
 | _,_=>False
def mnbMu:=mnsMu
def mnkInv : List Dat→List Dat→Prop
 | [.lst S],[.int k, .int n]=>0≤k∧k≤S.length∧n=many isMake ((stps S).take k.toNat)∧0≤n∧n≤k
 | _,_=>False
def mnkMu:=mnsMu
def ndInv : List Dat→List Dat→Prop
 | [.lst L],[.int k, .int n]=>0≤k∧k≤L.length∧n=drops ((lvs L).take k.toNat)∧0≤n∧n≤k
 | _,_=>False
def ndMu:=mnsMu
def iqInv : List Dat→List Dat→Prop
 | [.lst A, .lst B],[.int k]=>0≤k∧k≤A.length∧A.length=B.length∧(nums A).take k.toNat=(nums B).take k.toNat
 | _,_=>False
def iqMu : List Dat→List Dat→Nat
 | [.lst A,_],[.int k]=>(A.length - k).toNat
 | _,_=>0
def qlInv : List Dat→List Dat→Prop
 | [.lst A, .lst B],[.int k]=>0≤k∧k≤A.length∧A.length=B.length∧(lvs A).take k.toNat=(lvs B).take k.toNat
 | _,_=>False
def qlMu:=iqMu
def qsInv : List Dat→List Dat→Prop
 | [.lst A, .lst B],[.int k]=>0≤k∧k≤A.length∧A.length=B.length∧(stps A).take k.toNat=(stps B).take k.toNat
 | _,_=>False
def qsMu:=iqMu
def fdInv : List Dat→List Dat→Prop
 | [.lst L, .int x, .int t],[.int k]=>0≤k∧k≤L.length∧(⟨x,t⟩ : Rw) ∉ (rws L).take k.toNat
 | _,_=>False
def fdMu : List Dat→List Dat→Nat
 | .lst L :: _,[.int k]=>(L.length - k).toNat
 | _,_=>0
def rlInv : List Dat→List Dat→Prop
 | [.lst L],[.int i, .lst F] => -1≤i∧i < L.length ∧ ∃ f : List Int,F=f.map row∧f.length=L.length∧f.drop (i+1).toNat=frm ((nums L).drop (i+1).toNat)
 | _,_=>False
def rlMu : List Dat→List Dat→Nat
 | _,[.int i,_]=>(i+1).toNat
 | _,_=>0
def kmInv : List Dat→List Dat→Prop
 | [.lst F],[.int k, .int m]=>0≤k∧k≤F.length∧m=maxL ((nums F).take k.toNat)
 | _,_=>False
def kmMu : List Dat→List Dat→Nat
 | [.lst F],[.int k,_]=>(F.length - k).toNat
 | _,_=>0
def kpInv : List Dat→List Dat→Prop
 | [.lst L, .lst F, .int m],[.int k, .lst O, .int y]=>0≤k∧k≤L.length ∧ ∃ o : List Int,O=o.map row∧(o.length : Int)≤k∧o ++ vpick ((nums L).drop k.toNat) ((nums F).drop k.toNat) (m - o.length) y=vpick (nums L) (nums F) m (-1)
 | _,_=>False
def kpMu : List Dat→List Dat→Nat
 | .lst L :: _, .int k :: _=>(L.length - k).toNat
 | _,_=>0
def yldF (f : Fm) : Fm:=match lk f 0 with
 | some (.yld ks vs _ _ _ _ _)=>ks.zip vs
 | _=>[]
def rowsC (t j : Nat) (f : Fm) (s : SS) : List (At × G):=match lk f t with
 | some (.ptr b _ _ _)=>match s.get b with
  | some (.cells l _ _)=>match l[j]? with
   | some (.sl c _ _ _ _)=>match s.get c with
    | some (.rows _ e z ph)=>[(.no, .rwk c e z ph)]
    | _=>[]
   | _=>[]
  | _=>[]
 | _=>[]
def annsB : FuncId → List (Nat × (Fm → SS → LAnn))
 | 44=>[(0,gAnn U0 "ah" (mkPr (fun f s=>rowsC 3 0 (yldF f) s) [(3, .int .i64)] (fun f s=>cellsT 4 [.int .i64] (yldF f) s)) (ghCell 1 0) ahInv ahMu)]
 | 34 => [(0, fun f s => match lk f 1 with
   | some (.fn (.func 39) _ _)=>gAnn U0 "mnk" (mkPl [(11, .int .i64),(5, .int .i64)] nob) (ghostT 9) mnkInv mnkMu f s
   | _=>gAnn U0 "mnb" (mkPl [(11, .int .i64),(5, .int .i64)] nob) (ghostT 9) mnbInv mnbMu f s)]
 | 18=>[(0,gAnn U0 "nd" (mkPl [(9, .int .i64),(3, .int .i64)] nob) (ghostT 7) ndInv ndMu)]
 | 21=>[(0,gAnn U0 "iq" (mkPl [(5, .int .i64)] nob) (gh2 (ghostT 0) (ghostT 1)) iqInv iqMu)]
 | 20=>[(0,gAnn U0 "ql" (mkPl [(5, .int .i64)] nob) (gh2 (ghCell 2 0) (ghCell 3 0)) qlInv qlMu),(2,gAnn U0 "qs" (mkPl [(6, .int .i64)] nob) (gh2 (ghCell 2 1) (ghCell 3 1)) qsInv qsMu)]
 | 40=>[(0,gAnn U0 "fd" (mkPl [(5, .int .i64)] nob) (gh2 (ghostT 0) (gh2 (ghCell 3 0) (ghCell 3 1))) fdInv fdMu)]
 | 45=>[(0,gAnn U0 "rl" (mkPl [(4, .int .i64),(3, .acc 3 1)] nob) (ghostT 0) rlInv rlMu),(2,gAnn U0 "inn" (mkPl [(5, .int .i64),(3, .acc 3 1)] nob) (gh2 (ghostT 0) (ghostT 4)) innInv innMu)]
 | 38=>[(0,gAnn U0 "km" (mkPl [(5, .int .i64),(4, .int .i64)] nob) (ghostT 3) kmInv kmMu),(2,gAnn U0 "kp" (mkPl [(8, .int .i64),(6, .acc 3 1),(7, .int .i64)] nob) (gh2 (ghostT 0) (gh2 (ghostT 3) (ghostT 4))) kpInv kpMu)]
 | _=>[]
def stageB : Nat→List (FuncId × Con)
 | 0=>[(12,cYes "lives")]
 | 1=>[(45,cRlens),(12,cYes "lives")]
 | _=>[(38,cRkept),(12,cYes "lives")]
end Go.C36
