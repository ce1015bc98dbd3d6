/- Which children match, and which stay: contracts.
  Conditions: none. -/
import Derived.Test.YtcjhhnoaoldcmaaA1
import Derived.Test.YtcjhhnoaoldcmaaF0
set_option linter.unusedVariables false
noncomputable section
namespace Go.D
open Go.Xe Go.Sx
open Go.C36 (row j8 lis cLong cRlong longPre longRel rlongPre rlongRel)
def bef (l:List Tree)(k:Int)(t:Str):Nat:=(l.filter fun x=>decide (x.y=[]/\x.k=k/\x.t=t)).length
def spk (c:Tree)(n:Nat):List KV:=[.i c.k,.s c.t,.s c.y,.i (if c.y=[]then(n:Int)else 0)]
def spotAt (l:List Tree)(j:Nat):List KV:=match l[j]? with
 |some c=>spk c (bef (l.take j) c.k c.t)
 |none=>[]
def lastIx (f:Nat->List KV):Nat->List KV->Int
 |0,_=> -1
 |n+1,s=>if f n=s then n else lastIx f n s
def mtch (o n:List Tree):List Int:=(List.range n.length).map fun i=>lastIx (spotAt o) o.length (spotAt n i)
def pl (m:List Int):List Int:=m.filter fun x=>decide (0<=x)
def atF :Int->List Int->List Int
 |_,[]=>[]
 |i,x::m=>if 0<=x then i::atF (i+1) m else atF (i+1) m
def P5 {α:Type}(a:List Int)(v:α):List Int->List α->List α
 | [],o=>o
 |k::z,o=>P5 a v z (o.set (a.getD k.toNat 0).toNat v)
def OKm (m:List Int):Prop:=(∀x∈m, -1<=x)/\(pl m).Nodup
def brow (b:Bool):List Dat:=[.bool b]
def irow (b:Bool):List Dat:=[.int (if b then 1 else 0)]
def twoPre :List Dat->Prop
 | [.lst L,.lst M]=>∃o n,L=rows o/\M=rows n/\o.length<=1000/\n.length<=1000
 |_=>False
def matPre:=twoPre
def matRel :List Dat->List Dat->Prop
 | [.lst L,.lst M],[.lst O]=>∀o n,L=rows o->M=rows n->O=(mtch o n).map row
 |_,_=>False
def cMat:=mkC "mat" [cV,cV] matPre [.one (.g (.clp 3))] matRel
def rmatPre:=twoPre
def rmatRel:=matRel
def cRmat:=mkC "rmat" [cV,cV] rmatPre [.one (.g (.lst 3))] rmatRel
def befPre :List Dat->Prop
 | [.lst L,.int i,.int k,.str t,.str y,.lst a,.str x,.lst c]=>(∃l,L=rows l/\l.length<=1000)/\0<=i/\i<=ln L
 |_=>False
def befRel :List Dat->List Dat->Prop
 | [.lst L,.int i,.int k,.str t,.str y,.lst a,.str x,.lst c],[.int n]=>∀l,L=rows l->n=bef (l.take i.toNat) k t
 |_,_=>False
def cBef:=mkC "bef" [cV,iV,nV] befPre [iV] befRel
def t2Pre :List Dat->Prop
 | [.int k,.str t,.str y,.lst a,.str x,.lst c,.int k',.str t',.str y',.lst a',.str x',.lst c']=>(∃s:Tree,isT s k t y a x c)/\ ∃s':Tree,isT s' k' t' y' a' x' c'
 |_=>False
def fit (s t:Tree):Prop:=s.k=t.k/\s.t=t.t
def Seen (S:Sx.Rows)(l:List Tree):Prop:=∀k t,mgetR S [.i k,.s t,.s [],.i 0] (.int 0)= .int (bef l k t)
def There (T:Sx.Rows)(f:Nat->List KV)(n:Nat):Prop:=∀s:List KV,s.length=4->mhasR T s=decide (0<=lastIx f n s)/\(0<=lastIx f n s->mgetR T s (.int 0)= .int (lastIx f n s))
def spInv :List Dat->List Dat->Prop
 | [.lst L],[.int i,.lst S,.lst T]=>0<=i/\i<=ln L/\ ∀l,L=rows l->Seen S (l.take i.toNat)/\There T (spotAt l) i.toNat
 |_,_=>False
def spMu:=slMu
def lkT (T:Sx.Rows)(s:List KV):Int:=if mhasR T s then(mgetR T s (.int 0)).toInt else-1
def soInv :List Dat->List Dat->Prop
 | [.lst L,.lst T],[.lst O,.int i,.lst S]=>0<=i/\i<=ln L/\ln O=ln L/\ ∀l,L=rows l->Seen S (l.take i.toNat)/\O.take i.toNat=((List.range i.toNat).map fun j=>lkT T (spotAt l j)).map row
 |_,_=>False
def soMu :List Dat->List Dat->Nat
 | .lst L::_,_:: .int k::_=>(L.length-k).toNat
 |_,_=>0
def rmInv :List Dat->List Dat->Prop
 | [.lst L,.lst M],[.int i,.lst O]=>0<=i/\i<=ln M/\ ∀o n,L=rows o->M=rows n->O=((mtch o n).take i.toNat).map row
 |_,_=>False
def rmMu :List Dat->List Dat->Nat
 | [_,.lst M],.int k::_=>(M.length-k).toNat
 |_,_=>0
def rkInv :List Dat->List Dat->Prop
 | [.lst L,.lst M,.int i],[.int k,.int p]=>0<=k/\k<=ln L/\ ∀o n,L=rows o->M=rows n->p=lastIx (spotAt o) k.toNat (spotAt n i.toNat)
 |_,_=>False
def rkMu:=slMu
def bfInv :List Dat->List Dat->Prop
 | [.lst L,.int i,.int k,.str t],[.int j,.int n]=>0<=j/\j<=i/\i<=ln L/\ ∀l,L=rows l->n=bef (l.take j.toNat) k t
 |_,_=>False
def bfMu :List Dat->List Dat->Nat
 | [_,.int i,_,_],.int k::_=>(i-k).toNat
 |_,_=>0
def syInv :List Dat->List Dat->Prop
 | [.lst L],[.int i,.lst A,.lst Q,.lst S]=>0<=i/\i<=ln L/\ ∀m:List Int,L=m.map row->OKm (m.take i.toNat)/\A=(atF 0 (m.take i.toNat)).map row/\Q=(pl (m.take i.toNat)).map row/\ ∀x:Int,(mgetR S [.i x] (.bool false)).toBool=decide (x∈pl (m.take i.toNat))
 |_,_=>False
def syMu:=slMu
def szInv :List Dat->List Dat->Prop
 | [.lst L,.lst A,.lst Z],[.int j,.lst O]=>0<=j/\j<=ln Z/\ln O=ln L/\ ∀m:List Int,L=m.map row->A=(atF 0 m).map row->Z=(lis (pl m)).map row->O=(P5 (atF 0 m) true ((lis (pl m)).take j.toNat) (List.replicate m.length false)).map brow
 |_,_=>False
def szMu :List Dat->List Dat->Nat
 | [_,_,.lst Z],.int k::_=>(Z.length-k).toNat
 |_,_=>0
def riInv :List Dat->List Dat->Prop
 | [.lst L],[.int i,.lst A,.lst Q]=>0<=i/\i<=ln L/\ ∀m:List Int,L=m.map row->A=(atF 0 (m.take i.toNat)).map row/\Q=(pl (m.take i.toNat)).map row
 |_,_=>False
def riMu:=slMu
def rzInv :List Dat->List Dat->Prop
 | [.lst L,.lst A,.lst Z],[.int j,.lst O]=>0<=j/\j<=ln Z/\ln O=ln L/\ ∀m:List Int,L=m.map row->A=(atF 0 m).map row->Z=(lis (pl m)).map row->O=(P5 (atF 0 m) true ((lis (pl m)).take j.toNat) (List.replicate m.length false)).map irow
 |_,_=>False
def rzMu:=szMu
def yldF (f:Fm):Fm:=match lk f 0 with
 |some (.yld ks vs _ _ _ _ _)=>ks.zip vs
 |_=>[]
def yldP (f:Fm):Nat:=match lk f 0 with
 |some (.yld _ _ _ _ (p::_) _ _)=>p
 |_=>0
def rowsC (t j:Nat)(f:Fm)(s:SS):List (At×G):=match lk f t with
 |some (.ptr b _ _ _)=>match s.get b with
  |some (.cells l _ _)=>match l[j]? with
   |some (.sl c _ _ _ _)=>match s.get c with
    |some (.rows _ e z ph)=>[(.no,.rwk c e z ph)]
    |_=>[]
   |_=>[]
  |_=>[]
 |_=>[]
def mapC (t j:Nat)(f:Fm)(s:SS):List (So×E):=match lk f t with
 |some (.ptr b _ _ _)=>match s.get b with
  |some (.cells l _ _)=>match l[j]? with
   |some (.map c)=>match s.get c with
    |some (.map e _ _)=>[(.l,e)]
    |_=>[]
   |_=>[]
  |_=>[]
 |_=>[]
def annsC : FuncId → List (Nat × (Fm → SS → L3))
 | 66 => [(0, fun f s => bif Nat.beq (yldP f) 16 then E5 U0 "sp" (E7 [(11, .int .i64), (3, .mac 88 3)] (fun f s => B7 5 [.mac 88 3] (yldF f) s)) (ghostT 9) spInv spMu f s
   else E5 U0 "so" (mkPr (fun f s=>rowsC 8 0 (yldF f) s) [(11,.int .i64),(3,.mac 88 3)] nob) (gh2 (ghostT 9) (fun f s=>mapC 5 0 (yldF f) s)) soInv soMu f s)]
 |9=>[(0,E5 U0 "rm" (E7 [(6,.int .i64),(5,.acc 3 1)] nob) (gh2 (ghostT 0) (ghostT 1)) rmInv rmMu),(2,E5 U0 "rk" (E7 [(8,.int .i64),(7,.int .i64)] nob) (gh2 (ghostT 0) (gh2 (ghostT 1) (ghostT 6))) rkInv rkMu)]
 |30=>[(0,E5 U0 "bf" (E7 [(8,.int .i64),(7,.int .i64)] nob) (gh2 (ghostT 0) (gh2 (ghostT 1) (gh2 (ghCell 5 0) (ghCell 5 1)))) bfInv bfMu)]
 | 10 => [(0, E5 U0 "sy" (E7 [(19, .int .i64), (3, .acc 3 1), (4, .acc 3 1), (5, .mac 3 4)] nob) (ghostT 17) syInv syMu),
   (3,E5 U0 "sz" (E7 [(56,.int .i64),(8,.acc 4 1)] nob) (gh2 (ghostT 17) (gh2 (ghostT 3) (ghostT 54))) szInv szMu)]
 | 11 => [(0, E5 U0 "ri" (E7 [(5, .int .i64), (3, .acc 3 1), (4, .acc 3 1)] nob) (ghostT 0) riInv riMu),
   (2,E5 U0 "rz" (E7 [(8,.int .i64),(6,.acc 3 1)] nob) (gh2 (ghostT 0) (gh2 (ghostT 3) (ghostT 7))) rzInv rzMu)]
 |_=>[]
def stageC :Nat->List (FuncId×Con)
 |0=>[(31,cLong),(32,cRlong),(LVn,J4 "lives")]
 |1=>[(30,cBef),(LVn,J4 "lives")]
 |_=>[(25,cMat),(34,cChk),(LVn,J4 "lives")]
def primsC (P:Program):R9:=[]
end Go.D
