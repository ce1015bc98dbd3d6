/- The writer of a diff: contracts. How many steps of each kind it writes, and where.
  Conditions: none. -/
import Derived.Test.YtcjhhnoaoldcmaaGreatC1
set_option linter.unusedVariables false
noncomputable section
namespace Go.D
open Go.Xe Go.Sx
open Go.C36 (row t6 lis cLong cRlong longPre longRel rlongPre rlongRel)
def wh (r:List Dat):Int:=(r.getD 0 (.int 0)).toInt
def pln (r:List Dat):Nat:=(r.getD 1 (.int 0)).rows.length
def SOK (a b:Int)(p:Nat)(S:Sx.Rows):Prop:=∀r∈S,a<=wh r/\wh r<=b/\p<=pln r
def cnt (k:Int)(p:Nat)(S:Sx.Rows):Nat:=(S.filter fun r=>decide (wh r=k/\pln r=p)).length
def negs (m:List Int):Nat:=(m.filter fun x=>decide (x<0)).length
def mvs :List Int->List Bool->Nat
 |x::m,b::l=>(if 0<=x/\b=false then 1 else 0)+mvs m l
 |_,_=>0
def trL :List Lf:=[.g (.int .u8),.g (.lst 3),.g .str,.g .str,.g (.int .i64),.g (.int .i64)]++tG
def wB :List al1:=[(71,1,[.g (.acc 47 12)])]
def wF :List SV->SS->Option (List Nat):=fun args s=>match args with
 | .ptr a _ _ _::_=>some [a]
 |_=>none
def wC (n:String)(args:List Vs)(pre:List Dat->Prop)(rel:List Dat->List Dat->Prop):Con:=⟨n,.one (.ptr 0 1)::args,wB,wF,pre,[],wB,noB,rel⟩
def plV :Vs:= .one (.g (.lst 3))
def cmpPre :List Dat->Prop
 | [.str _,.str _]=>True
 |_=>False
def cmpRel :List Dat->List Dat->Prop
 | [.str _,.str _],[.int n]=>True
 |_,_=>False
def cCmp:=mkC "cmp" [sV,sV] cmpPre [iV] cmpRel
def aV :Vs:= .one (.g (.lst 88))
def adfPre :List Dat->Prop
 | [.lst A,.lst B]=>∃a b:List Att,A=a.map Att.row/\B=b.map Att.row/\a.length<=8/\b.length<=8
 |_=>False
def adfRel :List Dat->List Dat->Prop
 | [.lst A,.lst B],[.lst D,.int e]=>D.length<=16
 |_,_=>False
def cAdf:=mkC "adf" [aV,aV] adfPre [.one (.g (.lst 106)),iV] adfRel
def putPre :List Dat->Prop
 | [.int w,.lst p,.str n,.str v,.int at_,.int to,.int k,.str t,.str y,.lst a,.str x,.lst c,.lst P,.lst L]=>P.length<=1000/\L.length<=100000
 |_=>False
def putRel :List Dat->List Dat->Prop
 | [.int w,.lst p,.str n,.str v,.int at_,.int to,.int k,.str t,.str y,.lst a,.str x,.lst c,.lst P,.lst L],[.lst L']=>L'=L++ [[.int w,.lst P,.str n,.str v,.int at_,.int to,.int k,.str t,.str y,.lst a,.str x,.lst c]]
 |_,_=>False
def cPut:=wC "put" [.agg trL,plV] putPre putRel
def ownPre :List Dat->Prop
 | [.int k,.str t,.str y,.lst a,.str x,.lst c,.int k',.str t',.str y',.lst a',.str x',.lst c',.lst P,.lst L]=>(∃s:Tree,isT s k t y a x c/\AllA s)/\(∃s:Tree,isT s k' t' y' a' x' c'/\AllA s)/\P.length<=100/\L.length<=10000
 |_=>False
def ownRel :List Dat->List Dat->Prop
 | [.int k,.str t,.str y,.lst a,.str x,.lst c,.int k',.str t',.str y',.lst a',.str x',.lst c',.lst P,.lst L],[.lst L']=>∃S,L'=L++S/\S.length<=17/\SOK 1 3 P.length S
 |_,_=>False
def cOwn:=wC "own" [nV,nV,plV] ownPre ownRel
def Cnts (o n:List Tree)(p:Nat)(S:Sx.Rows):Prop:=SOK 1 6 p S/\cnt 4 p S+(pl (mtch o n)).length=o.length/\cnt 5 p S=negs (mtch o n)/\cnt 6 p S=mvs (mtch o n) (stayM (mtch o n))
def nodePre :List Dat->Prop
 | [.int k,.str t,.str y,.lst a,.str x,.lst c,.int k',.str t',.str y',.lst a',.str x',.lst c',.lst P,.lst L]=>(∃s:Tree,isT s k t y a x c/\AllA s)/\ ∃s:Tree,isT s k' t' y' a' x' c'/\AllA s/\P.length+s.depth<=10/\L.length+100*s.size<=8000
 |_=>False
def nodeRel :List Dat->List Dat->Prop
 | [.int k,.str t,.str y,.lst a,.str x,.lst c,.int k',.str t',.str y',.lst a',.str x',.lst c',.lst P,.lst L],[.lst L']=>∀s s':Tree,isT s k t y a x c->isT s' k' t' y' a' x' c'-> ∃S,L'=L++S/\S.length<=100*s'.size/\Cnts s.c s'.c P.length S
 |_,_=>False
def nodeMu :List Dat->Nat
 | [_,_,_,_,_,_,_,_,_,_,_,.lst c,_,_]=>szRs c
 |_=>0
def cNode:=wC "node" [nV,nV,plV] nodePre nodeRel
def sliceE :SV->SS->List (So×E)
 | .lst _ e _,_=>[(.l,e)]
 | .nils,_=>[(.l,.op .nil [])]
 | .sl c _ _ _ _,s=>match s.get c with
  |some (.rows e _ _ _)=>[(.l,e)]
  |_=>match lk s.fz c with
   |some r=>[(.l,r.1)]
   |none=>[]
 |_,_=>[]
def ghSl (t j:Nat):Fm->SS->List (So×E):=fun f s=>match lk f t with
 |some (.ptr b _ _ _)=>match s.get b with
  |some (.cells l _ _)=>sliceE (l.getD j .any) s
  |_=>[]
 |_=>[]
def ghL (t:Nat):Fm->SS->List (So×E):=fun f s=>sliceE ((lk f t).getD .any) s
def capB (t:Nat)(gs:List G):Fm->SS->Option (List (Nat×List G)):=fun f _=>match lk f t with
 |some (.fn _ _ (.ptr b _ _ _::_))=>some [(b,gs)]
 |_=>none
def ixnInv :List Dat->List Dat->Prop
 | [.lst L,.int v],[.int k]=>0<=k/\k<=ln L/\ ∀l:List Int,L=l.map row->v∉l.take k.toNat
 |_,_=>False
def ixnMu:=slMu
def merInv :List Dat->List Dat->Prop
 | [.lst A,.lst B],[.int i,.int k,.lst O]=>0<=i/\i<=ln A/\0<=k/\k<=ln B/\ln O<=i+k
 |_,_=>False
def merMu :List Dat->List Dat->Nat
 | [.lst A,.lst B],.int i:: .int k::_=>((A.length-i)+(B.length-k)).toNat
 |_,_=>0
def owInv :List Dat->List Dat->Prop
 | [.lst E,.lst P,.lst L0],[.int i,.lst L]=>0<=i/\i<=ln E/\ ∃S,L=L0++S/\S.length=i/\SOK 1 3 P.length S
 |_,_=>False
def owMu:=slMu
def frInv :List Dat->List Dat->Prop
 | [.lst C,.lst M,.lst P,.lst L0],[.int i,.lst T,.lst L]=>0<=i/\i<=ln C/\ ∀m:List Int,M=m.map row->T=(((List.range i.toNat).map Int.ofNat).filter fun x=>decide (x∈m)).map row/\ ∃S,L=L0++S/\S.length+T.length=i/\SOK 4 4 P.length S/\cnt 4 P.length S=S.length
 |_,_=>False
def frMu:=slMu
def ahInv :List Dat->List Dat->Prop
 | [.lst M],[.int k]=>0<=k
 |_,_=>False
def ahMu:=slMu
def ndInv : List Dat → List Dat → Prop
 | [.lst N, .lst M, .lst Q, .lst P, .lst T0, .lst L0], [.int i, .lst T, .lst L] => 0 ≤ i ∧ i ≤ ln N ∧ ∀ (n : List Tree) (m : List Int) (q : List Bool), N = rows n → M = m.map row → Q = q.map brow → ∃ (t : List Int) (S : Sx.Rows),
   T=t.map row/\L=L0++S/\t.length<=T0.length+i/\S.length<=100*Tree.sizes (n.take i.toNat)+i/\(∀x∈pl m,x∈t)/\SOK 1 6 P.length S/\cnt 4 P.length S=0/\cnt 5 P.length S=negs (m.take i.toNat)/\cnt 6 P.length S=mvs (m.take i.toNat) (q.take i.toNat)
 |_,_=>False
def ndMu:=slMu
def annsD : FuncId → List (Nat × (Fm → SS → R9))
 |50=>[(0,D3 U0 "ixn" (D4 [(8,.int .i64)] nob) (gh2 (ghL 0) (ghostT 1)) ixnInv ixnMu)]
 |103=>[(0,D3 U0 "mer" (D4 [(10,.int .i64),(11,.int .i64)] (capB 4 [.acc 106 3])) (gh2 (ghostT 0) (ghostT 1)) merInv merMu)]
 |46=>[(0,D3 U0 "ow" (D4 [(33,.int .i64)] (B8 0 [.acc 47 12])) (gh2 (ghL 31) (gh2 (ghL 3) (ghSl 0 0))) owInv owMu)]
 | 31 => [(0, D3 U0 "fr" (D4 [(33, .int .i64)] (bl2 (B8 10 [.acc 3 1]) (B8 0 [.acc 47 12]))) (gh2 (ghostT 31) (gh2 (ghSl 8 0) (gh2 (ghL 3) (ghSl 0 0)))) frInv frMu),
   (2,D3 U0 "nd" (D4 [(54,.int .i64)] (bl2 (B8 10 [.acc 3 1]) (B8 0 [.acc 47 12]))) (gh2 (ghostT 52) (gh2 (ghSl 8 0) (gh2 (ghSl 9 0) (gh2 (ghL 3) (gh2 (ghSl 10 0) (ghSl 0 0)))))) ndInv ndMu)]
 |49=>[(0,D3 U0 "ah" (D4 [(6,.int .i64)] nob) (ghSl 1 0) ahInv ahMu)]
 |_=>[]
def stageD :Nat->List (FuncId×Con)
 |0=>[(LVn,M8 "lives")]
 |1=>[(34,cChk),(112,cCmp),(LVn,M8 "lives")]
 |2=>[(81,cAdf),(48,cPut),(LVn,M8 "lives")]
 |3=>[(48,cPut),(46,cOwn),(41,cMat),(23,cStay),(34,cChk),(45,cCpd),(LVn,M8 "lives")]
 |_=>[(34,cChk),(45,cCpd),(31,cNode),(LVn,M8 "lives")]
def primsD (P:Program):ab1:=[(53,sdel P U0 3 1),(51,sins P U0 3 1)]
end Go.D
