/- Chapter 19: 'lives' answers true.
  Conditions: none. -/
import Derived.Test.YtcjhhnoaoldcmaaP1
import Derived.Test.YtcjhhnoaoldcmaaA1
import Derived.RowKit
import Derived.Test.YtcjhhnoaoldcmaaSm4
set_option linter.unusedVariables false
noncomputable section
namespace Go.D
open Go Go.Xe Go.Sx Go.RowKit
open Go.Proofs
theorem LO_ok :∀g t,LO g=some t->Z2 PR g t:=bb9 (Z2.of 4 (by kernel_rfl) (by kernel_rfl) (by kernel_rfl) (by kernel_rfl) (by kernel_rfl)) bu8
set_option maxRecDepth 100000 in
theorem lives_yes (hm:PR.follows .mixedOrders=true):aU2 PR LVn:=fun w=>
 as2 (P:=PR) (f:=13) (k:=4) (n:=5000) (m:=5000) (nt:=92) (s:=sLV) hm LO_ok (by kernel_rfl) (by kernel_rfl) (by kernel_rfl) (O2.step (k:=0) O2.start 4 (bo4 (aI0 hm LO_ok 5000) (ao6 hm) lvA)) lvB w
noncomputable def LM :FuncId->Option TypeId:=aC0 97 26 LO
theorem LM_ok :∀g t,LM g=some t->Z2 PR g t:=bb9 (Z2.of 4 (by kernel_rfl) (by kernel_rfl) (by kernel_rfl) (by kernel_rfl) (by kernel_rfl)) LO_ok
noncomputable def LV :FuncId->Option TypeId:=aC0 LVn af4 LM
theorem LV_ok (hm:PR.follows .mixedOrders=true):∀g t,LV g=some t->Z2 PR g t:=by
 intro g t h
 unfold LV aC0 at h
 cases hb:Nat.beq g LVn with
 |true=>
  rw[hb,bB8,bA1]at h
  rw[<-h,bA6 hb]
  exact bv1 (lives_yes hm)
 |false=>rw[hb,bB9]at h;exact LM_ok g t h
end Go.D
noncomputable section
namespace Go.C36
open Go.Xe Go.Sx
def row (n:Int):List Dat:=[.int n]
def j8 (L:Sx.Rows):List Int:=L.map fun r=>(r.getD 0 (.int 0)).toInt
def maxL :List Int->Int
 | []=>0
 |x::l=>max x (maxL l)
def best (x:Int):List Int->List Int->Int
 |y::l,f::fs=>if x<y then max f (best x l fs)else best x l fs
 |_,_=>0
def frm :List Int->List Int
 | []=>[]
 |x::l=>(1+best x l (frm l))::frm l
def pickL :List Int->List Int->Int->Int->Option Int->List Int
 |x::l,f::fs,i,left,last=>if 0<left/\f=left/\(∀y,last=some y->y<x)then i::pickL l fs (i+1) (left-1) (some x)else pickL l fs (i+1) left last
 |_,_,_,_,_=>[]
def lis (l:List Int):List Int:=pickL l (frm l) 0 (maxL (frm l)) none
def lastN (l o:List Int):Option Int:=match o.getLast? with
 |some i=>l[i.toNat]?
 |none=>none
def iV :Vs:= .one (.g (.int .i64))
def bV :Vs:= .one (.g .bool)
def nV :Vs:= .one (.g (.lst 3))
def cV :Vs:= .one (.g (.clp 3))
def oV :Vs:= .one (.g (.acc 3 1))
def noB :SV->SS->Option (List Nat):=fun _ _=>some []
def noF :List SV->SS->Option (List Nat):=fun _ _=>some []
def mkC (n:String)(args:List Vs)(pre:List Dat->Prop)(res:List Vs)(rel:List Dat->List Dat->Prop):Con:=⟨n,args,[],noF,pre,res,[],noB,rel⟩
def isN (L:Sx.Rows):Prop:=∃l:List Int,L=l.map row/\l.length<=4096
def onePre :List Dat->Prop
 | [.lst L]=>isN L
 |_=>False
def longPre:=onePre
def longRel :List Dat->List Dat->Prop
 | [.lst L],[.lst D,.int e]=>D=(lis (j8 L)).map row/\e=0
 |_,_=>False
def cLong:=mkC "long" [nV] longPre [cV,iV] longRel
def rlongPre:=onePre
def rlongRel :List Dat->List Dat->Prop
 | [.lst L],[.lst D]=>D=(lis (j8 L)).map row
 |_,_=>False
def cRlong:=mkC "rlong" [nV] rlongPre [oV] rlongRel
def LVn :FuncId:=13
def livesPre (d:List Dat):Prop:=d=[]
def livesRel:=ba2
def U0 :Nat->List Dat->Dat:=fun _ _=>.int 0
def ghostT (t:Nat):Fm->SS->List (So×E):=fun f s=>match lk f t with
 |some (.lst _ e _)=>[(.l,e)]
 |some (.str e)=>[(.s,e)]
 |some (.int _ e)=>[(.i,e)]
 |some (.sl b _ _ _ _)=>match s.get b with
  |some (.rows e _ _ _)=>[(.l,e)]
  |none=>match lk s.fz b with
   |some r=>[(.l,r.1)]
   |none=>[]
  |_=>[]
 |_=>[]
def gh2 (a b:Fm->SS->List (So×E)):Fm->SS->List (So×E):=fun f s=>a f s++b f s
def nob :Fm->SS->Option (List (Nat×List G)):=fun _ _=>some []
def B7 (t:Nat)(gs:List G):Fm->SS->Option (List (Nat×List G)):=fun f _=>match lk f t with
 |some (.ptr b _ _ _)=>some [(b,gs)]
 |_=>none
structure St (W s:List Int):Prop where
 desc:∀(i j:Nat) (x y:Int),W[i]? =some x->W[j]? =some y->i<j->y<x
 has:∀(j:Nat) (x:Int),W[j]? =some x-> ∃k:Nat,(frm s)[k]? =some ((j:Int)+1)/\s[k]? =some x
 top:∀(k:Nat) (f x:Int),(frm s)[k]? =some f->s[k]? =some x->1<=f/\ ∃y,W[(f-1).toNat]? =some y/\x<=y
def pickInv : List Dat → List Dat → Prop
 | [.lst L, .lst F], [.int k, .int n, .lst O] => 0 ≤ k ∧ k ≤ L.length ∧ 0 ≤ n ∧ n + O.length = maxL (j8 F) ∧ ∃ o : List Int, O = o.map row ∧ (∀ x ∈ o, 0 ≤ x ∧ x < k) ∧
   o++pickL ((j8 L).drop k.toNat) ((j8 F).drop k.toNat) k n (lastN (j8 L) o)=lis (j8 L)
 |_,_=>False
def rpInv :List Dat->List Dat->Prop
 | [.lst L,.lst F,.int m],[.int k,.lst O]=>m=maxL (j8 F)/\pickInv [.lst L,.lst F] [.int k,.int (m-O.length),.lst O]
 |_,_=>False
def rpMu :List Dat->List Dat->Nat
 | [.lst L,_,_],.int k::_=>(L.length-k).toNat
 |_,_=>0
end Go.C36
