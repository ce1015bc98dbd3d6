/- Chapter 36 (rises), rising subsequences: what the functions compute, as contracts; loops.
  Conditions: none. -/
import Derived.Test.YtcjhhnoaoldcmaaGreatSm4
set_option linter.unusedVariables false
noncomputable section
namespace Go.C36
open Go.Xe Go.Sx
def row (n:Int):List Dat:=[.int n]
def j0 (L:Sx.Rows):List Int:=L.map fun r=>(r.getD 0 (.int 0)).toInt
def maxL :List Int->Int
 | []=>0
 |x::l=>max x (maxL l)
def best (x:Int):List Int->List Int->Int
 |y::l,f::fs=>if x<y then max f (best x l fs)else best x l fs
 |_,_=>0
def frm :List Int->List Int
 | []=>[]
 |x::l=>(1+best x l (frm l))::frm l
def pickL :List Int->List Int->Int->Int->Option Int->List Int
 |x::l,f::fs,i,left,last=>if 0<left/\f=left/\(∀y,last=some y->y<x)then i::pickL l fs (i+1) (left-1) (some x)else pickL l fs (i+1) left last
 |_,_,_,_,_=>[]
def lis (l:List Int):List Int:=pickL l (frm l) 0 (maxL (frm l)) none
def lastN (l o:List Int):Option Int:=match o.getLast? with
 |some i=>l[i.toNat]?
 |none=>none
def iV :Vs:= .one (.g (.int .i64))
def bV :Vs:= .one (.g .bool)
def nV :Vs:= .one (.g (.lst 3))
def cV :Vs:= .one (.g (.clp 3))
def oV :Vs:= .one (.g (.acc 3 1))
def noB :SV->SS->Option (List Nat):=fun _ _=>some []
def noF :List SV->SS->Option (List Nat):=fun _ _=>some []
def mkC (n:String)(args:List Vs)(pre:List Dat->Prop)(res:List Vs)(rel:List Dat->List Dat->Prop):Con:=⟨n,args,[],noF,pre,res,[],noB,rel⟩
def isN (L:Sx.Rows):Prop:=∃l:List Int,L=l.map row/\l.length<=4096
def onePre :List Dat->Prop
 | [.lst L]=>isN L
 |_=>False
def lenPre:=onePre
def lenRel :List Dat->List Dat->Prop
 | [.lst L],[.lst D]=>D=(frm (j0 L)).map row
 |_,_=>False
def cLen:=mkC "len" [nV] lenPre [oV] lenRel
def maxPre :List Dat->Prop
 | [.lst L]=>∃l:List Int,L=l.map row/\1<=l.length/\l.length<=4096/\ ∀x∈l,0<=x
 |_=>False
def maxRel :List Dat->List Dat->Prop
 | [.lst L],[.int n]=>n=maxL (j0 L)
 |_,_=>False
def cMax:=mkC "max" [nV] maxPre [iV] maxRel
def longPre:=onePre
def longRel :List Dat->List Dat->Prop
 | [.lst L],[.lst D,.int e]=>D=(lis (j0 L)).map row/\e=0
 |_,_=>False
def cLong:=mkC "long" [nV] longPre [cV,iV] longRel
def rlongPre:=onePre
def rlongRel :List Dat->List Dat->Prop
 | [.lst L],[.lst D]=>D=(lis (j0 L)).map row
 |_,_=>False
def cRlong:=mkC "rlong" [nV] rlongPre [oV] rlongRel
def LVn :FuncId:=14
def livesPre (d:List Dat):Prop:=d=[]
def livesRel:=bd3
def U0 :Nat->List Dat->Dat:=fun _ _=>.int 0
def ghostT (t:Nat):Fm->SS->List (So×E):=fun f s=>match lk f t with
 |some (.lst _ e _)=>[(.l,e)]
 |some (.str e)=>[(.s,e)]
 |some (.int _ e)=>[(.i,e)]
 |some (.sl b _ _ _ _)=>match s.get b with
  |some (.rows e _ _ _)=>[(.l,e)]
  |none=>match lk s.fz b with
   |some r=>[(.l,r.1)]
   |none=>[]
  |_=>[]
 |_=>[]
def gh2 (a b:Fm->SS->List (So×E)):Fm->SS->List (So×E):=fun f s=>a f s++b f s
def nob :Fm->SS->Option (List (Nat×List G)):=fun _ _=>some []
def t9 (t:Nat)(gs:List G):Fm->SS->Option (List (Nat×List G)):=fun f _=>match lk f t with
 |some (.ptr b _ _ _)=>some [(b,gs)]
 |_=>none
def ghSe :Fm->SS->List (So×E):=fun f s=>match lk f 1 with
 |some (.fn _ _ [.ptr b4 _ _ _,.ptr b1 _ _ _,.ptr b5 _ _ _])=>match s.get b4,s.get b1,s.get b5 with
  |some (.cells [.sl bs _ _ _ _] _ _),some (.cells [.lst _ e _] _ _),some (.cells [.int _ i] _ _)=>match s.get bs with
   |some (.rows R _ _ _)=>[(.l,R),(.l,e),(.i,i)]
   |_=>[]
  |_,_,_=>[]
 |_=>[]
structure St (W s:List Int):Prop where
 desc:∀(i j:Nat) (x y:Int),W[i]? =some x->W[j]? =some y->i<j->y<x
 has:∀(j:Nat) (x:Int),W[j]? =some x-> ∃k:Nat,(frm s)[k]? =some ((j:Int)+1)/\s[k]? =some x
 top:∀(k:Nat) (f x:Int),(frm s)[k]? =some f->s[k]? =some x->1<=f/\ ∃y,W[(f-1).toNat]? =some y/\x<=y
def lensInv :List Dat->List Dat->Prop
 | [.lst L],[.lst D,.int i,.lst W]=> -1<=i/\i<L.length/\ ∃d w:List Int,D=d.map row/\W=w.map row/\d.length=L.length/\d.drop (i+1).toNat=frm ((j0 L).drop (i+1).toNat)/\St w ((j0 L).drop (i+1).toNat)/\(w.length:Int)+i+1<=L.length
 |_,_=>False
def lensMu :List Dat->List Dat->Nat
 |_,[_,.int i,_]=>(i+1).toNat
 |_,_=>0
def seInv : List Dat → List Dat → Prop
 | [.lst W, .lst L, .int i], [.int a, .int b] => 0 ≤ a ∧ a ≤ b ∧ b ≤ W.length ∧ (∀ (j : Nat) (x y : Int), (j : Int) < a → (j0 W)[j]? = some x → (j0 L)[i.toNat]? = some y → y < x) ∧
   (∀(j:Nat) (x y:Int),b<=(j:Int)->(j0 W)[j]? =some x->(j0 L)[i.toNat]? =some y->x<=y)
 |_,_=>False
def seMu :List Dat->List Dat->Nat
 |_,[.int a,.int b]=>(b-a).toNat
 |_,_=>0
def pickInv : List Dat → List Dat → Prop
 | [.lst L, .lst F], [.int k, .int n, .lst O] => 0 ≤ k ∧ k ≤ L.length ∧ 0 ≤ n ∧ n + O.length = maxL (j0 F) ∧ ∃ o : List Int, O = o.map row ∧ (∀ x ∈ o, 0 ≤ x ∧ x < k) ∧
   o++pickL ((j0 L).drop k.toNat) ((j0 F).drop k.toNat) k n (lastN (j0 L) o)=lis (j0 L)
 |_,_=>False
def pickMu :List Dat->List Dat->Nat
 | [.lst L,_],.int k::_=>(L.length-k).toNat
 |_,_=>0
def mxInv :List Dat->List Dat->Prop
 | [.lst L],[.int k,.int m]=>1<=k/\k<=L.length/\m=maxL ((j0 L).take k.toNat)
 |_,_=>False
def mxMu :List Dat->List Dat->Nat
 | [.lst L],.int k::_=>(L.length-k).toNat
 |_,_=>0
def outInv :List Dat->List Dat->Prop
 | [.lst L],[.int m,.int i,.lst F]=> -1<=i/\i<L.length/\ ∃f:List Int,F=f.map row/\f.length=L.length/\f.drop (i+1).toNat=frm ((j0 L).drop (i+1).toNat)/\m=maxL (frm ((j0 L).drop (i+1).toNat))
 |_,_=>False
def outMu :List Dat->List Dat->Nat
 |_,[_,.int i,_]=>(i+1).toNat
 |_,_=>0
def innInv : List Dat → List Dat → Prop
 | [.lst L, .int i], [.int k, .lst F] => 0 ≤ i ∧ i < k ∧ k ≤ L.length ∧ ∃ (f : List Int) (x v : Int), F = f.map row ∧ f.length = L.length ∧ f.drop (i + 1).toNat = frm ((j0 L).drop (i + 1).toNat) ∧
   (j0 L)[i.toNat]? =some x/\f[i.toNat]? =some v/\1<=v/\max v (1+best x ((j0 L).drop k.toNat) (f.drop k.toNat))=1+best x ((j0 L).drop (i+1).toNat) (f.drop (i+1).toNat)
 |_,_=>False
def innMu :List Dat->List Dat->Nat
 | [.lst L,_],.int k::_=>(L.length-k).toNat
 |_,_=>0
def rpInv :List Dat->List Dat->Prop
 | [.lst L,.lst F,.int m],[.int k,.lst O]=>m=maxL (j0 F)/\pickInv [.lst L,.lst F] [.int k,.int (m-O.length),.lst O]
 |_,_=>False
def rpMu :List Dat->List Dat->Nat
 | [.lst L,_,_],.int k::_=>(L.length-k).toNat
 |_,_=>0
def annsS : FuncId → List (Nat × (Fm → SS → M1))
 |77=>[(0,y5 U0 "lens" (y7 [(3,.acc 3 1),(5,.cel .i64 3)] (t9 4 [.acc 3 1])) (ghostT 0) lensInv lensMu)]
 |100=>[(0,y5 U0 "se" (y7 [(5,.int .i64),(6,.int .i64)] nob) ghSe seInv seMu)]
 |43=>[(0,y5 U0 "pick" (y7 [(23,.int .i64),(5,.int .i64),(6,.acc 3 1)] nob) (gh2 (ghostT 0) (ghostT 4)) pickInv pickMu)]
 |78=>[(0,y5 U0 "mx" (y7 [(4,.int .i64),(3,.int .i64)] nob) (ghostT 0) mxInv mxMu)]
 | 44 => [(0, y5 U0 "out" (y7 [(4, .int .i64), (5, .int .i64), (3, .acc 3 1)] nob) (ghostT 0) outInv outMu),
   (2,y5 U0 "inn" (y7 [(6,.int .i64),(3,.acc 3 1)] nob) (gh2 (ghostT 0) (ghostT 5)) innInv innMu),
   (4,y5 U0 "rp" (y7 [(8,.int .i64),(7,.acc 3 1)] nob) (gh2 (ghostT 0) (gh2 (ghostT 3) (ghostT 4))) rpInv rpMu)]
 |_=>[]
def stageS :Nat->List (FuncId×Con)
 |0=>[(LVn,D1 "lives")]
 |_=>[(77,cLen),(78,cMax),(LVn,D1 "lives")]
def primsS (P:Program):P7:=[]
end Go.C36
