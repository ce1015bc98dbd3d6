/- Chapter 08, orders: contracts and loops of checking, of what is kept.
  Conditions: none. -/
import Derived.Test.YtmdkgpkboidhfaaA6
set_option linter.unusedVariables false
noncomputable section
namespace Go.C08
open Go.Xe Go.Sx
def chkF (seen : List Int) : List Int→Int
 | []=>0
 | x :: l=>if x < 0 then 1 else if x ∈ seen then 8 else chkF (seen ++ [x]) l
def chk (l : List Int) : Int:=chkF [] l
def atI : List Int→Int→Int
 | [],_ => -1
 | y :: l,x=>if y=x then 0 else (let k:=atI l x; if k < 0 then -1 else k+1)
def checkPre:=onePre
def checkRel : List Dat→List Dat→Prop
 | [.lst L],[.int e]=>e=chk (nums L)
 | _,_=>False
def cCheck:=mkC "check" [nV] checkPre [iV] checkRel
def rcheckPre:=onePre
def rcheckRel:=checkRel
def cRcheck:=mkC "rcheck" [nV] rcheckPre [iV] rcheckRel
def ratPre : List Dat→Prop
 | [.lst L, .int _]=>isN L
 | _=>False
def ratRel : List Dat→List Dat→Prop
 | [.lst L, .int x],[.int k]=>k=atI (nums L) x
 | _,_=>False
def cRat:=mkC "rat" [nV,iV] ratPre [iV] ratRel
def seenInv : List Dat→List Dat→Prop
 | [.lst L],[.int k, .lst M]=>0≤k∧k≤L.length∧(∀ x,(mgetR M [x] (.bool false)).toBool=decide (x ∈ (nums L).take k.toNat))∧chkF ((nums L).take k.toNat) ((nums L).drop k.toNat)=chk (nums L)
 | _,_=>False
def seenMu : List Dat→List Dat→Nat
 | [.lst L], .int k :: _=>(L.length - k).toNat
 | _,_=>0
def rceInv : List Dat→List Dat→Prop
 | [.lst L],[.int k]=>0≤k∧k≤L.length∧chkF ((nums L).take k.toNat) ((nums L).drop k.toNat)=chk (nums L)
 | _,_=>False
def rceMu : List Dat→List Dat→Nat
 | [.lst L],[.int k]=>(L.length - k).toNat
 | _,_=>0
def rcfInv : List Dat→List Dat→Prop
 | [.lst L, .int i],[.int k]=>0≤k∧k≤i ∧ ∀ (j : Nat) (x : Int),(j : Int) < k→(nums L)[j]? = some x→(nums L)[i.toNat]? ≠ some x
 | _,_=>False
def rcfMu : List Dat→List Dat→Nat
 | [_, .int i],[.int k]=>(i - k).toNat
 | _,_=>0
def ratInv : List Dat→List Dat→Prop
 | [.lst L, .int x],[.int k]=>0≤k∧k≤L.length∧x ∉ (nums L).take k.toNat
 | _,_=>False
def ratMu : List Dat→List Dat→Nat
 | [.lst L,_],[.int k]=>(L.length - k).toNat
 | _,_=>0
def annsV : FuncId→List (Nat × (Fm→SS→LAnn))
 | 23=>[(0,gAnn U0 "seen" (mkPl [(12, .int .i64),(3, .mac 3 4)] nob) (ghostT 0) seenInv seenMu)]
 | 22=>[(0,gAnn U0 "rce" (mkPl [(3, .int .i64)] nob) (ghostT 0) rceInv rceMu),(2,gAnn U0 "rcf" (mkPl [(4, .int .i64)] nob) (gh2 (ghostT 0) (ghostT 3)) rcfInv rcfMu)]
 | 29=>[(0,gAnn U0 "rat" (mkPl [(5, .int .i64)] nob) (gh2 (ghostT 0) (ghostT 1)) ratInv ratMu)]
 | _=>[]
def stageV : Nat→List (FuncId × Con):=fun _=>[(9,cYes "lives")]
end Go.C08
