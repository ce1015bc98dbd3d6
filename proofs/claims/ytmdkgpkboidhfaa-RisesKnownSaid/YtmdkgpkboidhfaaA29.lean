/- Chapter 08, carrying steps out: contracts and loops of RisesMoves and RisesFewest.
  Conditions: none. -/
import Derived.Test.YtmdkgpkboidhfaaA28
import Derived.Test.YtmdkgpkboidhfaaSm4
set_option linter.unusedVariables false
noncomputable section
namespace Go.C08
open Go.Xe Go.Sx
def stepL (l : List Int) (s : Sp) : List Int :=
 let m:=l.erase s.w
 let k:=if s.a = -1 then m.length else m.idxOf s.a
 m.take k ++ s.w :: m.drop k
def stepE (l : List Int) (s : Sp) : Int:=if s.w ∉ l ∨ s.a ≠ -1∧s.a ∉ l then 11 else if s.w=s.a then 1 else 0
def carL : List Int→List Sp→List Int × Int
 | l,[]=>(l,0)
 | l,s :: ss=>if stepE l s=0 then carL (stepL l s) ss else ([],stepE l s)
def carryL (l : List Int) (ss : List Sp) : List Int × Int:=if chk l ≠ 0 then ([],chk l) else if 4096 < ss.length then ([],3) else carL l ss
def rstepL (l : List Int) (s : Sp) : List Int:=(l.flatMap fun x=>(if x=s.a then [s.w] else []) ++ if x=s.w then [] else [x]) ++ if s.a = -1 then [s.w] else []
def carryPre : List Dat→Prop
 | [.lst L, .lst S]=>isN L ∧ ∃ s : List Sp,S=s.map Sp.row
 | _=>False
def carryRel : List Dat→List Dat→Prop
 | [.lst L, .lst S],[.lst D, .int e]=>D=(carryL (nums L) (sps S)).1.map row∧e=(carryL (nums L) (sps S)).2
 | _,_=>False
def cCarry:=mkC "carry" [nV, .one (.g (.lst 50))] carryPre [cV,iV] carryRel
def caInv : List Dat→List Dat→Prop
 | [.lst L, .lst S],[.int k, .lst O]=>0≤k∧k≤S.length ∧ ∃ o : List Int,O=o.map row∧o.length=L.length∧carL (nums L) ((sps S).take k.toNat)=(o,0)
 | _,_=>False
def caMu : List Dat→List Dat→Nat
 | [_, .lst S], .int k :: _=>(S.length - k).toNat
 | _,_=>0
def ixInv : List Dat→List Dat→Prop
 | [.lst L, .int x],[.int k]=>0≤k∧k≤L.length∧x ∉ (nums L).take k.toNat
 | _,_=>False
def ixMu : List Dat→List Dat→Nat
 | [.lst L,_],[.int k]=>(L.length - k).toNat
 | _,_=>0
def rcarryPre : List Dat→Prop
 | [.lst L, .int _, .int _]=>isN L
 | _=>False
def rcarryRel : List Dat→List Dat→Prop
 | [.lst L, .int w, .int a],[.lst D, .int e]=>e=stepE (nums L) ⟨w,a⟩∧D=(if e=0 then rstepL (nums L) ⟨w,a⟩ else []).map row
 | _,_=>False
def cRcarry:=mkC "rcarry" [nV, .agg [.g (.int .i64), .g (.int .i64)]] rcarryPre [oV,iV] rcarryRel
def rcInv : List Dat→List Dat→Prop
 | [.lst L, .int w, .int a],[.int k, .lst O]=>0≤k∧k≤L.length∧O=(((nums L).take k.toNat).flatMap fun x=>(if x=a then [w] else []) ++ if x=w then [] else [x]).map row
 | _,_=>False
def rcMu : List Dat→List Dat→Nat
 | .lst L :: _, .int k :: _=>(L.length - k).toNat
 | _,_=>0
def rcarL : List Int→List Sp→List Int × Int
 | l,[]=>(l,0)
 | l,s :: ss=>if stepE l s=0 then rcarL (rstepL l s) ss else ([],stepE l s)
def rfInv : List Dat→List Dat→Prop
 | [.lst O, .lst S],[.int k, .int f, .lst W]=>0≤k∧k≤S.length ∧ ∃ w : List Int,W=w.map row∧w.length≤60∧(f=0 ∨ k=S.length ∨ f ≠ 0)∧rcarL (nums O) ((sps S).take k.toNat)=(w,f)
 | _,_=>False
def rfMu : List Dat→List Dat→Nat
 | [_, .lst S], .int k :: _=>(S.length - k).toNat
 | _,_=>0
def annsC : FuncId→List (Nat × (Fm→SS→LAnn))
 | 19=>[(0,gAnn U0 "ca" (mkPl [(24, .int .i64),(7, .acc 3 1)] nob) (gh2 (ghostT 0) (ghostT 22)) caInv caMu)]
 | 31=>[(0,gAnn U0 "ix" (mkPl [(8, .int .i64)] nob) (gh2 (ghostT 0) (ghostT 1)) ixInv ixMu)]
 | 20=>[(0,gAnn U0 "rc" (mkPl [(7, .int .i64),(6, .acc 3 1)] nob) (gh2 (ghostT 0) (gh2 (ghCell 3 0) (ghCell 3 1))) rcInv rcMu)]
 | 6=>[(0,gAnn U0 "rf" (mkPl [(9, .int .i64),(8, .int .i64),(7, .lst 3)] nob) (gh2 (ghostT 5) (ghostT 1)) rfInv rfMu)]
 | _=>[]
def primsC (P : Program) : Prims:=[(33,sdel P U0 3 1),(34,sins P U0 3 1)]
def stageC : Nat→List (FuncId × Con)
 | 0=>[(23,cCheck),(9,cYes "lives")]
 | 1=>[(29,cRat),(9,cYes "lives")]
 | 2=>[(13,cPof),(14,cKept),(15,cMoves),(16,cRkept),(11,cSame),(18,cRmoves),(17,cSteps),(19,cCarry),(9,cYes "lives")]
 | _=>[(13,cPof),(15,cMoves),(11,cSame),(20,cRcarry),(19,cCarry),(9,cYes "lives")]
end Go.C08
