/- The writer of a diff: contracts. How many steps of each kind it writes, and where.
  Conditions: none. -/
import Derived.Test.YtcjhhnoaoldcmaaGreatC1
set_option linter.unusedVariables false
noncomputable section
namespace Go.D
open Go.Xe Go.Sx
open Go.C36 (row j0 lis cLong cRlong longPre longRel rlongPre rlongRel)
def zT :Tree:= .mk 0 [] [] [] [] []
def stp (w:Int)(P:Sx.Rows)(n v:Str)(a t:Int)(T:Tree):List Dat:=[.int w,.lst P,.str n,.str v,.int a,.int t,.int T.k,.str T.t,.str T.y,.lst (T.a.map Att.row),.str T.x,.lst (rows T.c)]
structure Ed where
 n:Str
 d:Bool
 v:Str
def Ed.row (e:Ed):List Dat:=[.str e.n,.bool e.d,.str e.v]
def adf :List Att->List Att->List Ed
 | [],[]=>[]
 |x::a,[]=>⟨x.n,true,[]⟩::adf a []
 | [],y::b=>⟨y.n,false,y.v⟩::adf [] b
 |x::a,y::b=>if lt x.n y.n then⟨x.n,true,[]⟩::adf a (y::b)else if x.n=y.n then(if x.v=y.v then adf a b else⟨y.n,false,y.v⟩::adf a b)else⟨y.n,false,y.v⟩::adf (x::a) b
 termination_by a b=>a.length+b.length
def edS (P:Sx.Rows)(e:Ed):List Dat:=if e.d then stp 1 P e.n [] 0 0 zT else stp 2 P e.n e.v 0 0 zT
def ownS (s s':Tree)(P:Sx.Rows):Sx.Rows:=(if s.x=s'.x then []else [stp 3 P [] s'.x 0 0 zT])++(adf s.a s'.a).map (edS P)
def ins (l:List Int)(k v:Int):List Int:=l.take k.toNat++v::l.drop k.toNat
def del (l:List Int)(k:Int):List Int:=l.take k.toNat++l.drop (k+1).toNat
def thereL (m:List Int)(i:Nat):List Int:=((List.range i).map Int.ofNat).filter fun x=>decide (x∈m)
def freesS (m:List Int)(P:Sx.Rows):Nat->Sx.Rows
 |0=>[]
 |i+1=>if(i:Int)∈m then freesS m P i else freesS m P i++ [stp 4 P [] [] (thereL m i).length 0 zT]
def aheadF (t:List Int):List Int->List Bool->Int
 |v::m,b::q=>if b then(t.idxOf v:Nat)else aheadF t m q
 |_,_=>t.length
def kidR (rec:Tree->Tree->Sx.Rows->Sx.Rows)(o n:List Tree)(m:List Int)(q:List Bool)(P:Sx.Rows)(i:Nat)(t:List Int):List Int×Sx.Rows:=
 let v:=m.getD i 0
 if v<0 then(ins t (aheadF t (m.drop (i+1)) (q.drop (i+1))) (-1-i),[stp 5 P [] [] 0 (aheadF t (m.drop (i+1)) (q.drop (i+1))) (n.getD i zT)])
 else let a:Int:=(t.idxOf v:Nat)
  let S:=rec (o.getD v.toNat zT) (n.getD i zT) (P++ [[.int a]])
  if q.getD i false then(t,S)else let to:=aheadF (del t a) (m.drop (i+1)) (q.drop (i+1))
   (ins (del t a) to v,S++ [stp 6 P [] [] a to zT])
def kidS (rec:Tree->Tree->Sx.Rows->Sx.Rows)(o n:List Tree)(m:List Int)(q:List Bool)(P:Sx.Rows)(t0:List Int):Nat->List Int×Sx.Rows
 |0=>(t0,[])
 |i+1=>let r:=kidS rec o n m q P t0 i
  let k:=kidR rec o n m q P i r.1
  (k.1,r.2++k.2)
def diffN : Nat → Tree → Tree → Sx.Rows → Sx.Rows
 |0,_,_,_=>[]
 | f + 1, s, s', P => ownS s s' P ++ (freesS (mtch s.c s'.c) P s.c.length ++
   (kidS (diffN f) s.c s'.c (mtch s.c s'.c) (stayM (mtch s.c s'.c)) P (thereL (mtch s.c s'.c) s.c.length) s'.c.length).2)
def trL :List Lf:=[.g (.int .u8),.g (.lst 3),.g .str,.g .str,.g (.int .i64),.g (.int .i64)]++tG
def wB :List af8:=[(71,1,[.g (.acc 47 12)])]
def wF :List SV->SS->Option (List Nat):=fun args s=>match args with
 | .ptr a _ _ _::_=>some [a]
 |_=>none
def wC (n:String)(args:List Vs)(pre:List Dat->Prop)(rel:List Dat->List Dat->Prop):Con:=⟨n,.one (.ptr 0 1)::args,wB,wF,pre,[],wB,noB,rel⟩
def plV :Vs:= .one (.g (.lst 3))
def cmpPre :List Dat->Prop
 | [.str _,.str _]=>True
 |_=>False
def cmpRel :List Dat->List Dat->Prop
 | [.str a,.str b],[.int n]=>(lt a b=true->n= -1)/\(lt a b=false->a=b->n=0)/\(lt a b=false->a≠b->n=1)
 |_,_=>False
def cCmp:=mkC "cmp" [sV,sV] cmpPre [iV] cmpRel
def aV :Vs:= .one (.g (.lst 88))
def adfPre :List Dat->Prop
 | [.lst A,.lst B]=>∃a b:List Att,A=a.map Att.row/\B=b.map Att.row/\Valid (.mk 1 [97] [] a [] [])/\Valid (.mk 1 [97] [] b [] [])
 |_=>False
def adfRel :List Dat->List Dat->Prop
 | [.lst A,.lst B],[.lst D,.int e]=>∀a b:List Att,A=a.map Att.row->B=b.map Att.row->D=(adf a b).map Ed.row/\D.length<=16
 |_,_=>False
def cAdf:=mkC "adf" [aV,aV] adfPre [.one (.g (.lst 106)),iV] adfRel
def putPre :List Dat->Prop
 | [.int w,.lst p,.str n,.str v,.int at_,.int to,.int k,.str t,.str y,.lst a,.str x,.lst c,.lst P,.lst L]=>P.length<=1000/\L.length<=100000
 |_=>False
def putRel :List Dat->List Dat->Prop
 | [.int w,.lst p,.str n,.str v,.int at_,.int to,.int k,.str t,.str y,.lst a,.str x,.lst c,.lst P,.lst L],[.lst L']=>L'=L++ [[.int w,.lst P,.str n,.str v,.int at_,.int to,.int k,.str t,.str y,.lst a,.str x,.lst c]]
 |_,_=>False
def cPut:=wC "put" [.agg trL,plV] putPre putRel
def ownPre :List Dat->Prop
 | [.int k,.str t,.str y,.lst a,.str x,.lst c,.int k',.str t',.str y',.lst a',.str x',.lst c',.lst P,.lst L]=>(∃s:Tree,isT s k t y a x c/\AllA s)/\(∃s:Tree,isT s k' t' y' a' x' c'/\AllA s)/\P.length<=100/\L.length<=10000
 |_=>False
def ownRel :List Dat->List Dat->Prop
 | [.int k,.str t,.str y,.lst a,.str x,.lst c,.int k',.str t',.str y',.lst a',.str x',.lst c',.lst P,.lst L],[.lst L']=>∀s s':Tree,isT s k t y a x c->isT s' k' t' y' a' x' c'->L'=L++ownS s s' P/\(ownS s s' P).length<=17
 |_,_=>False
def cOwn:=wC "own" [nV,nV,plV] ownPre ownRel
def nodePre :List Dat->Prop
 | [.int k,.str t,.str y,.lst a,.str x,.lst c,.int k',.str t',.str y',.lst a',.str x',.lst c',.lst P,.lst L]=>(∃s:Tree,isT s k t y a x c/\AllA s)/\ ∃s:Tree,isT s k' t' y' a' x' c'/\Valid s/\P.length+s.depth<=10/\L.length+100*s.size<=8000
 |_=>False
def nodeRel :List Dat->List Dat->Prop
 | [.int k,.str t,.str y,.lst a,.str x,.lst c,.int k',.str t',.str y',.lst a',.str x',.lst c',.lst P,.lst L],[.lst L']=>∀s s':Tree,isT s k t y a x c->isT s' k' t' y' a' x' c'->L'.length<=L.length+100*s'.size/\ ∀f,s'.depth<=f->L'=L++diffN f s s' P
 |_,_=>False
def nodeMu :List Dat->Nat
 | [_,_,_,_,_,_,_,_,_,_,_,.lst c,_,_]=>szRs c
 |_=>0
def cNode:=wC "node" [nV,nV,plV] nodePre nodeRel
def ddfPre :List Dat->Prop
 | [.int k,.str t,.str y,.lst a,.str x,.lst c,.int k',.str t',.str y',.lst a',.str x',.lst c']=>k=k'/\t=t'/\(∃s:Tree,isT s k t y a x c/\Valid s)/\ ∃s:Tree,isT s k' t' y' a' x' c'/\Valid s
 |_=>False
def ddfRel :List Dat->List Dat->Prop
 | [.int k,.str t,.str y,.lst a,.str x,.lst c,.int k',.str t',.str y',.lst a',.str x',.lst c'],[.lst S,.int e]=>∀s s':Tree,isT s k t y a x c->isT s' k' t' y' a' x' c'->e=0/\S.length<=6400/\ ∀f,s'.depth<=f->S=diffN f s s' []
 |_,_=>False
def sliceE :SV->SS->List (So×E)
 | .lst _ e _,_=>[(.l,e)]
 | .nils,_=>[(.l,.op .nil [])]
 | .sl c _ _ _ _,s=>match s.get c with
  |some (.rows e _ _ _)=>[(.l,e)]
  |_=>match lk s.fz c with
   |some r=>[(.l,r.1)]
   |none=>[]
 |_,_=>[]
def ghSl (t j:Nat):Fm->SS->List (So×E):=fun f s=>match lk f t with
 |some (.ptr b _ _ _)=>match s.get b with
  |some (.cells l _ _)=>sliceE (l.getD j .any) s
  |_=>[]
 |_=>[]
def ghL (t:Nat):Fm->SS->List (So×E):=fun f s=>sliceE ((lk f t).getD .any) s
def capB (t:Nat)(gs:List G):Fm->SS->Option (List (Nat×List G)):=fun f _=>match lk f t with
 |some (.fn _ _ (.ptr b _ _ _::_))=>some [(b,gs)]
 |_=>none
def ixnInv :List Dat->List Dat->Prop
 | [.lst L,.int v],[.int k]=>0<=k/\k<=ln L/\ ∀l:List Int,L=l.map row->v∉l.take k.toNat
 |_,_=>False
def ixnMu:=slMu
def merInv :List Dat->List Dat->Prop
 | [.lst A,.lst B],[.int i,.int k,.lst O]=>0<=i/\i<=ln A/\0<=k/\k<=ln B/\ln O<=i+k/\ ∀a b:List Att,A=a.map Att.row->B=b.map Att.row->(adf a b).map Ed.row=O++(adf (a.drop i.toNat) (b.drop k.toNat)).map Ed.row
 |_,_=>False
def merMu :List Dat->List Dat->Nat
 | [.lst A,.lst B],.int i:: .int k::_=>((A.length-i)+(B.length-k)).toNat
 |_,_=>0
def owInv :List Dat->List Dat->Prop
 | [.lst E,.lst P,.lst L0],[.int i,.lst L]=>0<=i/\i<=ln E/\ln L=ln L0+i/\ ∀es:List Ed,E=es.map Ed.row->L=L0++(es.take i.toNat).map (edS P)
 |_,_=>False
def owMu:=slMu
def frInv :List Dat->List Dat->Prop
 | [.lst C,.lst M,.lst P,.lst L0],[.int i,.lst T,.lst L]=>0<=i/\i<=ln C/\ ∀m:List Int,M=m.map row->T=(thereL m i.toNat).map row/\L=L0++freesS m P i.toNat/\ln L+ln T=ln L0+i
 |_,_=>False
def frMu:=slMu
def ahInv :List Dat->List Dat->Prop
 | [.lst Q,.int i],[.int k]=>0<=i/\i<k/\k<=ln Q+i+1/\ ∀q:List Bool,Q=q.map brow-> ∀j:Nat,i<j->(j:Int)<k->q.getD j false=false
 |_,_=>False
def ahMu :List Dat->List Dat->Nat
 | .lst Q:: .int i::_,.int k::_=>(ln Q+i+1-k).toNat
 |_,_=>0
def ndInv : List Dat → List Dat → Prop
 | [.lst C, .lst N, .lst M, .lst Q, .lst P, .lst T0, .lst L0], [.int i, .lst T, .lst L] => 0 ≤ i ∧ i ≤ ln N ∧ ∀ (o n : List Tree) (m : List Int) (q : List Bool) (t0 : List Int), C = rows o → N = rows n → M = m.map row → Q = q.map brow → T0 = t0.map row → ∃ (t : List Int) (S : Sx.Rows),
   T=t.map row/\L=L0++S/\t.length<=t0.length+i/\S.length<=100*Tree.sizes (n.take i.toNat)+i/\(∀x∈pl m,x∈t)/\ ∀f,Tree.depths n<=f->kidS (diffN f) o n m q P t0 i.toNat=(t,S)
 |_,_=>False
def ndMu :List Dat->List Dat->Nat
 |_:: .lst N::_,.int k::_=>(N.length-k).toNat
 |_,_=>0
def annsD : FuncId → List (Nat × (Fm → SS → M1))
 |50=>[(0,y5 U0 "ixn" (y7 [(8,.int .i64)] nob) (gh2 (ghL 0) (ghostT 1)) ixnInv ixnMu)]
 |103=>[(0,y5 U0 "mer" (y7 [(10,.int .i64),(11,.int .i64)] (capB 4 [.acc 106 3])) (gh2 (ghostT 0) (ghostT 1)) merInv merMu)]
 |46=>[(0,y5 U0 "ow" (y7 [(33,.int .i64)] (t9 0 [.acc 47 12])) (gh2 (ghL 31) (gh2 (ghL 3) (ghSl 0 0))) owInv owMu)]
 | 31 => [(0, y5 U0 "fr" (y7 [(33, .int .i64)] (bl2 (t9 10 [.acc 3 1]) (t9 0 [.acc 47 12]))) (gh2 (ghostT 31) (gh2 (ghSl 8 0) (gh2 (ghL 3) (ghSl 0 0)))) frInv frMu),
   (2,y5 U0 "nd" (y7 [(54,.int .i64)] (bl2 (t9 10 [.acc 3 1]) (t9 0 [.acc 47 12]))) (gh2 (ghostT 31) (gh2 (ghostT 52) (gh2 (ghSl 8 0) (gh2 (ghSl 9 0) (gh2 (ghL 3) (gh2 (ghSl 10 0) (ghSl 0 0))))))) ndInv ndMu)]
 |49=>[(0,y5 U0 "ah" (y7 [(6,.int .i64)] nob) (gh2 (ghSl 2 0) (ghostT 0)) ahInv ahMu)]
 |_=>[]
def stageD :Nat->List (FuncId×Con)
 |0=>[(LVn,D1 "lives")]
 |1=>[(34,cChk),(112,cCmp),(LVn,D1 "lives")]
 |2=>[(81,cAdf),(48,cPut),(LVn,D1 "lives")]
 |3=>[(48,cPut),(46,cOwn),(41,cMat),(23,cStay),(34,cChk),(45,cCpd),(LVn,D1 "lives")]
 |_=>[(34,cChk),(45,cCpd),(31,cNode),(LVn,D1 "lives")]
def primsD (P:Program):P7:=[(53,sdel P U0 3 1),(51,sins P U0 3 1)]
end Go.D
