/- Trees: what the functions of nodes compute, as contracts.
  Conditions: none. -/
import Derived.Test.YtcjhhnoaoldcmaaGreatSm4
import Derived.Test.YtcjhhnoaoldcmaaGreatP1
import Derived.RowKit
set_option linter.all false
noncomputable section
namespace Go.D
open Go.Xe Go.Sx
abbrev Str:=Ae
def fN (b:UInt8):Bool:=decide (97<=b.toNat)&&decide (b.toNat<=122)||decide (48<=b.toNat)&&decide (b.toNat<=57)
def vk (b:UInt8):Bool:=decide (32<=b.toNat)&&decide (b.toNat<=126)
def j8 (s:Str):Bool:=decide (1<=s.length)&&decide (s.length<=16)&&s.all fN
def A9 (s:Str):Bool:=decide (s.length<=64)&&s.all vk
def lt (a b:Str):Bool:=Op.bytesLess a b
structure Att where
 n:Str
 v:Str
def Att.row (a:Att):As:=[.str a.n,.str a.v]
def atOf (r:As):Att:=⟨(r.getD 0 (.int 0)).toStr,(r.getD 1 (.int 0)).toStr⟩
def ats (L:Sx.Rows):List Att:=L.map atOf
inductive a8 where
 |mk (k:Int) (t y:Str) (a:List Att) (x:Str) (c:List a8)
namespace a8
def k :a8->Int|mk k _ _ _ _ _=>k
def t :a8->Str|mk _ t _ _ _ _=>t
def y :a8->Str|mk _ _ y _ _ _=>y
def a :a8->List Att|mk _ _ _ a _ _=>a
def x :a8->Str|mk _ _ _ _ x _=>x
def c :a8->List a8|mk _ _ _ _ _ c=>c
mutual
def row :a8->As
 |mk k t y a x c=>[.int k,.str t,.str y,.lst (a.map Att.row),.str x,.lst (rows c)]
def rows :List a8->Sx.Rows
 | []=>[]
 |s::l=>s.row::rows l
end
mutual
def size :a8->Nat
 |mk _ _ _ _ _ c=>sizes c+1
def sizes :List a8->Nat
 | []=>0|s::l=>s.size+sizes l
end
mutual
def depth :a8->Nat
 |mk _ _ _ _ _ c=>depths c+1
def depths :List a8->Nat
 | []=>0|s::l=>max s.depth (depths l)
end
end a8
abbrev rows (l:List a8):Sx.Rows:=l.map a8.row
def gO (l:List Str):Prop:=l.Pairwise fun a b=>b≠ []->a≠b
def Asc (l:List Str):Prop:=l.Pairwise fun a b=>lt a b=true
def de (s:a8):Prop:=(s.k=2/\A9 s.x=true/\s.t=[]/\s.y=[]/\s.a=[]/\s.c=[])\/
 (s.k=1/\j8 s.t=true/\(s.y=[]\/j8 s.y=true)/\s.x=[]/\s.a.length<=8/\s.c.length<=16/\(∀a∈s.a,j8 a.n=true/\A9 a.v=true)/\Asc (s.a.map Att.n)/\gO (s.c.map a8.y))
mutual
def fV :a8->Prop
 | .mk k t y a x c=>de (.mk k t y a x c)/\AllAs c
def AllAs :List a8->Prop
 | []=>True|s::l=>fV s/\AllAs l
end
def z7 (s:a8):Prop:=fV s/\s.size<=64/\s.depth<=6
mutual
def strip (b:Bool):a8->a8
 | .mk k t y a x c=>.mk k t (if b then y else []) a x (strips b c)
def strips (b:Bool):List a8->List a8
 | []=>[]
 |s::l=>strip b s::strips b l
end
def isT (s:a8)(k:Int)(t y:Str)(a:Sx.Rows)(x:Str)(c:Sx.Rows):Prop:=k=s.k/\t=s.t/\y=s.y/\a=s.a.map Att.row/\x=s.x/\c=rows s.c
def U0 :Ab:=fun _ _=>.int 0
def iV :Vs:= .one (.g (.int .i64))
def uV :Vs:= .one (.g (.int .u8))
def bV :Vs:= .one (.g .bool)
def sV :Vs:= .one (.g .str)
def tG :List Lf:=[.g (.int .u8),.g .str,.g .str,.g (.lst 88),.g .str,.g (.lst 28)]
def nV :Vs:= .agg tG
def noB :SV->SS->Bc (Ah):=fun _ _=>some []
def noF :Au->SS->Bc (Ah):=fun _ _=>some []
def mkC (n:String)(args:List Vs)(pre:As->Prop)(res:List Vs)(rel:As->As->Prop):Con:=⟨n,args,[],noF,pre,res,[],noB,rel⟩
def uN :As->Prop
 | [.str _]=>True|_=>False
def X9:=uN
def eZ:=uN
def B8 :As->As->Prop
 | [.str s],[.bool b]=>b=j8 s|_,_=>False
def J5 :As->As->Prop
 | [.str s],[.bool b]=>b=A9 s|_,_=>False
def cNamed:=mkC "named" [sV] X9 [bV] B8
def cText:=mkC "text" [sV] eZ [bV] J5
def dC :As->Prop
 | [.lst L]=>∃s:a8,L=[s.row]
 |_=>False
def n9 :As->As->Prop
 | [.lst L],[.bool b]=>∀s:a8,L=[s.row]->(b=true↔de s)
 |_,_=>False
def cAlone:=mkC "alone" [.one (.g (.pp 28))] dC [bV] n9
def Good (s:a8)(lv n:Int):Prop:=fV s/\lv+s.depth<=7/\n+s.size<=64
def cN :As->Prop
 | [.lst L,.int lv,.int n,.int d]=>(∃s:a8,L=[s.row])/\1<=lv/\lv<=7/\0<=n/\n<=64/\0<=d/\d<=7|_=>False
def ep :As->Nat
 | [_,.int lv,_,_]=>(8-lv).toNat|_=>0
def F9 :As->As->Prop
 | [.lst L,.int lv,.int n,.int d],[.bool b,.int n',.int d']=>0<=n'/\n'<=65/\0<=d'/\d'<=7/\ ∀s:a8,L=[s.row]->(b=true↔Good s lv n)/\(b=true->n'=n+s.size/\d'=max d (lv+s.depth-1))|_,_=>False
def IC :List lf:=[(3,1,[.g (.int .i64)]),(3,1,[.g (.int .i64)]),(152,1,[.clo 107 [(0,1),(1,1),(2,1)]])]
def walkF :Au->SS->Bc (Ah):=fun args s=>match args with
 | [_,_,.ptr a _ _ _,.ptr b _ _ _,.ptr c _ _ _]=>some [a,b,c]|_=>none
def cWalk :Con:=⟨ "walk",[.one (.g (.pp 28)),iV,.one (.ptr 0 1),.one (.ptr 1 1),.one (.ptr 2 1)],IC,walkF,cN,[bV],IC,noB,F9⟩
def FC :As->Prop
 | [.int k,.str t,.str y,.lst a,.str x,.lst c]=>∃s:a8,isT s k t y a x c|_=>False
def wB:=FC
def dK :As->As->Prop
 | [.int k,.str t,.str y,.lst a,.str x,.lst c],[.int n]=>∀s:a8,isT s k t y a x c->(n=0↔z7 s)/\(n=0\/n=14)|_,_=>False
def cChk:=mkC "chk" [nV] wB [iV] dK
mutual
def szD :Dat->Nat
 | .lst r=>szRs r|_=>0
def szR :As->Nat
 | []=>0|d::l=>szD d+szR l
def szRs :List (As)->Nat
 | []=>0|r::l=>szR r+1+szRs l
end
def t8 (t:Nat):Fm->SS->List (So×E):=fun f s=>match lk f t with
 |some (.lst _ e _)=>[(.l,e)]
 |some (.str e)=>[(.s,e)]
 |some (.bool e)=>[(.b,e)]
 |some (.int _ e)=>[(.i,e)]
 |some (.pptr _ L _ _)=>[(.l,L)]
 |some (.sl b _ _ _ _)=>match s.get b with
  |some (.rows e _ _ _)=>[(.l,e)]
  |none=>match lk s.fz b with
   |some r=>[(.l,r.1)]
   |none=>[]
  |_=>[]
 |_=>[]
def gh2 (a b:Fm->SS->List (So×E)):Fm->SS->List (So×E):=fun f s=>a f s++b f s
def svG :SV->List (So×E)
 | .lst _ e _=>[(.l,e)]
 | .str e=>[(.s,e)]
 | .int _ e=>[(.i,e)]
 | .bool e=>[(.b,e)]
 |_=>[]
def In (b j:Nat)(s:SS):List (So×E):=match s.get b with
 |some (.cells l _ _)=>svG (l.getD j .any)|_=>[]
def D3 (t j:Nat):Fm->SS->List (So×E):=fun f s=>match lk f t with
 |some (.ptr b _ _ _)=>In b j s|_=>[]
def ghCap (t k j:Nat):Fm->SS->List (So×E):=fun f s=>match lk f t with
 |some (.fn _ _ cs)=>match cs[k]? with
  |some (.ptr b _ _ _)=>In b j s|_=>[]
 |_=>[]
def nob :Fm->SS->Bc (List (Nat×List G)):=fun _ _=>some []
def J7 (t:Nat)(gs:List G):Fm->SS->Bc (List (Nat×List G)):=fun f _=>match lk f t with
 |some (.ptr b _ _ _)=>some [(b,gs)]|_=>none
def bl2 (a b:Fm->SS->Bc (List (Nat×List G))):Fm->SS->Bc (List (Nat×List G)):=fun f s=>match a f s,b f s with
 |some x,some y=>some (x++y)|_,_=>none
def itrPl (t:Nat):Code->Fm->SS->Bc (List (At×G)×Ah):=fun c f s=>match lk f t with
 |some (.ptr b _ _ _)=>match s.get b with
  |some (.iter e _)=>U7 [(t,.itr e)] nob c f s|_=>none
 |_=>none
def N0 :As->As->Nat
 | [.str s],.int k::_=>(s.length-k).toNat| .lst L::_,.int k::_=>(L.length-k).toNat|_,_=>0
def kE :As->As->Prop
 | [.str s],[.int k]=>0<=k/\k<=s.length/\(s.take k.toNat).all fN=true|_,_=>False
def Eu:=N0
def nF :As->As->Prop
 | [.str s],[.int k]=>0<=k/\k<=s.length/\(s.take k.toNat).all vk=true|_,_=>False
def stMu:=N0
def iZ :As->As->Prop
 | [.lst L],[.int k]=>0<=k/\k<=L.length/\(∀a∈(ats L).take k.toNat,j8 a.n=true/\A9 a.v=true)/\Asc (((ats L).take k.toNat).map Att.n)|_,_=>False
def sZ:=N0
def hK (L:Sx.Rows):List Str:=L.map fun r=>(r.getD 2 (.int 0)).toStr
def gf :As->As->Prop
 | [.lst L],[.int k]=>0<=k/\k<=L.length/\gO ((hK L).take k.toNat)|_,_=>False
def mH:=N0
def mw :As->As->Prop
 | [.lst L,.str y],[.int k]=>0<=k/\k<=L.length/\ ∀z∈(hK L).take k.toNat,z≠y|_,_=>False
def DF:=N0
def er :As->As->Prop
 | [.lst L,.int lv,.int n,.int d],[.int k,.int n',.int d']=>0<=k/\1<=lv/\lv<=6/\ ∀s:a8,L=[s.row]->k<=s.c.length/\AllAs (s.c.take k.toNat)/\n'=n+a8.sizes (s.c.take k.toNat)/\n'<=64/\d'=max d (lv+a8.depths (s.c.take k.toNat))/\d'<=7/\lv+a8.depths (s.c.take k.toNat)<=6/\lv<=d|_,_=>False
def qk :As->As->Nat
 | [.lst L,_,_,_],[.int k,_,_]=>((H6 L 0 5).rows.length-k).toNat|_,_=>0
def IM :As->As->Prop
 | [.lst C,.bool b],[.int k,.lst D]=>0<=k/\k<=C.length/\D.length=C.length/\ ∀c:List a8,C=rows c->D.take k.toNat=rows (strips b (c.take k.toNat))/\ ∀r∈D,r.length=6|_,_=>False
def fJ :Az->List (Nat×(Fm->SS->Z7))
 |115=>[(0,U6 U0 "nm" (U7 [(14,.int .i64)] nob) (t8 0) kE N0)]
 |126=>[(0,U6 U0 "st" (itrPl 10) (t8 0) nF N0)]
 |108=>[(0,U6 U0 "att" (U7 [(103,.int .i64)] nob) (t8 101) iZ N0),(2,U6 U0 "kid" (U7 [(142,.int .i64)] nob) (t8 140) gf N0)]
 |124=>[(0,U6 U0 "idx" (U7 [(8,.int .i64)] nob) (gh2 (t8 0) (ghCap 1 0 2)) mw N0)]
 |107=>[(0,U6 U0 "wlk" (U7 [(30,.int .i64)] (bl2 (bl2 (J7 2 [.int .i64]) (J7 3 [.int .i64])) (J7 4 [.keep]))) (gh2 (gh2 (t8 0) (t8 1)) (gh2 (t8 10) (t8 13))) er qk)]
 |45=>[(0,U6 U0 "cpi" (U7 [(23,.int .i64),(5,.acc 28 6)] nob) (gh2 (t8 21) (t8 1)) IM N0)]
 |_=>[]
def LVn :Az:=14
def X5 (d:As):Prop:=d=[]
def X6:=yg
def ek :Nat->List (Az×Con)
 |0=>[(LVn,cYes "lives")]
 |1=>[(115,cNamed),(114,cText),(LVn,cYes "lives")]
 |2=>[(108,cAlone),(LVn,cYes "lives")]
 |3=>[(107,cWalk),(LVn,cYes "lives")]
 |_=>[(LVn,cYes "lives")]
def nf (P:Ax):fG:=[]
end Go.D
noncomputable section
namespace Go.D
open Go Go.Xe Go.Sx Go.RowKit
open Go.Proofs
def HW :∀g t,LO g=some t->dq PR g t:=rK (dq.of 4 (by kernel_rfl) (by kernel_rfl) (by kernel_rfl) (by kernel_rfl) (by kernel_rfl)) He
set_option maxRecDepth 100000 in
def AZ (hm:PR.follows .mixedOrders=true):wm PR LVn:=fun w=>
 qO (P:=PR) (f:=14) (k:=4) (n:=5000) (m:=5000) (s:=sLV) hm HW (by kernel_rfl) (by kernel_rfl) lvA lvB w
noncomputable def LM :Aa:=ne 110 26 LO
def LM_ok :∀g t,LM g=some t->dq PR g t:=rK (dq.of 4 (by kernel_rfl) (by kernel_rfl) (by kernel_rfl) (by kernel_rfl) (by kernel_rfl)) HW
end Go.D
