/- Chapter 36, the closed law PlansKnown: contracts and loops.
  Conditions: none. -/
import Derived.Test.YtpdcecfnlccicaaK0
import Derived.Test.YtpdcecfnlccicaaSm3
set_option linter.unusedVariables false
noncomputable section
namespace Go.C36
open Go.Xe Go.Sx
def isRx (L : Sx.Rows) : Prop := ∃ l : List Rw,L=l.map Rw.row ∧ ∀ r ∈ l,r.Ok
def chkX (types : Int) (l : List Rw) : Int:=if types < 1 ∨ 8 < types then 1 else if 1024 < (l.length : Int) then 3 else chkR types [] l
def pcheckxPre : List Dat→Prop
 | [.lst L, .int n]=>isRx L ∧ -9223372036854775808≤n∧n < 9223372036854775808
 | _=>False
def pcheckxRel : List Dat→List Dat→Prop
 | [.lst L, .int n],[.int e]=>e=chkX n (rws L)
 | _,_=>False
def cPcheckx:=mkC "pcheckx" [lV,iV] pcheckxPre [iV] pcheckxRel
open Classical in
def ofErrX (O N : List Rw) (P B : List Int) : Int:=if rightB P B then (if chkX B.length O=0 then chkX B.length N else chkX B.length O) else 1
def ofxPre : List Dat→Prop
 | [.lst O, .lst N, .lst P, .lst B]=>isRx O∧isRx N∧isN P∧isN B ∧ ∀ x ∈ nums B,x < 9223372036854775808
 | _=>False
def ofxRel : List Dat→List Dat→Prop
 | [.lst O, .lst N, .lst P, .lst B],[.lst L, .lst S, .int e]=>e=ofErrX (rws O) (rws N) (nums P) (nums B)∧L=(if e=0 then ofLeaves (rws O) (rws N) (nums P) (nums B) else []).map Lv.row∧S=(if e=0 then ofSteps (rws O) (rws N) (nums P) (nums B) else []).map Stp.row
 | _,_=>False
def cOfx:=mkC "ofx" [lV,lV,nV,nV] ofxPre [.agg [.g (.acc 49 2), .g (.acc 40 3)],iV] ofxRel
def upW (n : Nat) : List Rw:=(asc 1 n).map fun k=>⟨k,0⟩
def dnW (n : Nat) : List Rw:=(dwn 1024 n).map fun k=>⟨k,0⟩
def chW (n : Nat) : List Rw:=(asc 1 n).map fun k=>⟨k,1⟩
def knPre (d : List Dat) : Prop:=d=[]
def knRel : List Dat→List Dat→Prop
 | _,[.bool b]=>b=true
 | _,_=>False
def cKn:=mkC "kn" [] knPre [bV] knRel
def noGh : Fm→SS→List (So × E):=fun _ _=>[]
def kaInv : List Dat→List Dat→Prop
 | _,[.int k, .lst A, .lst B]=>0≤k∧k≤1024∧A=(upW k.toNat).map Rw.row∧B=(dnW k.toNat).map Rw.row
 | _,_=>False
def kaMu : List Dat→List Dat→Nat
 | _, .int k :: _=>(1024 - k).toNat
 | _,_=>0
def kbInv : List Dat→List Dat→Prop
 | _,[.lst A, .int k]=>0≤k∧k≤1024 ∧ ∃ a : List Rw,A=a.map Rw.row∧a.length=1024 ∧ ∀ i : Nat,(i : Int) < k→a[i]? = some ⟨1+i,1⟩
 | _,_=>False
def kbMu : List Dat→List Dat→Nat
 | _,[_, .int k]=>(1024 - k).toNat
 | _,_=>0
def annsK : FuncId→List (Nat × (Fm→SS→LAnn))
 | 7=>[(0,gAnn U0 "ka" (mkPl [(3, .int .i64),(1, .acc 47 2),(2, .acc 47 2)] nob) noGh kaInv kaMu),(2,gAnn U0 "kb" (mkPr (rowsT 2) [(8, .int .i64)] nob) noGh kbInv kbMu)]
 | 24=>annsP 24
 | g=>annsZ g
def stageK : Nat→List (FuncId × Con)
 | 0=>[(12,cYes "lives")]
 | 1=>[(24,cPcheckx),(27,cRight),(30,cKept),(43,cIdx),(12,cYes "lives")]
 | _=>[(10,cNstays),(11,cNmoves),(18,cNdrops),(22,cNbinds),(17,cNmakes),(12,cYes "lives")]
def lendsK : Nat→List (FuncId × Con)
 | 2=>[(9,cOfx)]
 | _=>[]
end Go.C36
