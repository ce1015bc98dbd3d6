/- Trees: what the functions of nodes compute, as contracts.
  Conditions: none. -/
import Derived.Test.YtgmiikiinbaapaaGreatSm4
set_option linter.all false
noncomputable section
namespace Go.D
open Go.Xe Go.Sx
abbrev J6 (a b c d e f:Int)(z:List Dat):List Dat:=.int a::.int b::.int c::.int d::.int e::.int f::z
abbrev J8 (a b c d e f g h:Int)(z:List Dat):List Dat:=.int a::.int b::.int c::.int d::.int e::.int f::.int g::.int h::z
abbrev J10 (a b c d e f g h i j:Int)(z:List Dat):List Dat:=.int a::.int b::.int c::.int d::.int e::.int f::.int g::.int h::.int i::.int j::z
abbrev JE (x:Sx.Rows)(a b c d e f g h i j:Int)(y:Sx.Rows):List Dat:=.lst x::J10 a b c d e f g h i j [.lst y]
abbrev JD (x:Sx.Rows)(a b c d e f g h i j:Int)(y z:Sx.Rows):List Dat:=.lst x::J10 a b c d e f g h i j [.lst y,.lst z]
abbrev Nb (x y:Int)(q:Prop):Prop:=Nd (¬x<0) (Nd (x<y) q)
abbrev Nq (x:Int)(q:Prop):Prop:=Ni x<|Nr x q
abbrev Cg (p:List Dat→Prop)(r:List Dat→List Dat→Prop)(x:List Dat)(k:(List Dat→Prop)→Prop):Prop:=Nd (p x)<|k (r x)
abbrev Str:=Ae
def iH (b:UInt8):Bool:=decide (97<=b.toNat)&&decide (b.toNat<=122)||decide (48<=b.toNat)&&decide (b.toNat<=57)
def DH (b:UInt8):Bool:=decide (32<=b.toNat)&&decide (b.toNat<=126)
def B1 (s:Str):Bool:=decide (1<=s.length)&&decide (s.length<=16)&&s.all iH
def I0 (s:Str):Bool:=decide (s.length<=64)&&s.all DH
def lt (a b:Str):Bool:=Op.bytesLess a b
structure Att where
 n:Str
 v:Str
def Att.row (a:Att):Ar:=[.str a.n,.str a.v]
def atOf (r:Ar):Att:=⟨(r.getD 0 (.int 0)).toStr,(r.getD 1 (.int 0)).toStr⟩
def ats (L:Sx.Rows):List Att:=L.map atOf
inductive c9 where
 |mk (k:Int) (t y:Str) (a:List Att) (x:Str) (c:List c9)
namespace c9
def k :c9->Int|mk k _ _ _ _ _=>k
def t :c9->Str|mk _ t _ _ _ _=>t
def y :c9->Str|mk _ _ y _ _ _=>y
def a :c9->List Att|mk _ _ _ a _ _=>a
def x :c9->Str|mk _ _ _ _ x _=>x
def c :c9->List c9|mk _ _ _ _ _ c=>c
mutual
def row :c9->Ar
 |mk k t y a x c=>[.int k,.str t,.str y,.lst (a.map Att.row),.str x,.lst (rows c)]
def rows :List c9->Sx.Rows
 | []=>[]
 |s::l=>s.row::rows l
end
mutual
def size :c9->Nat
 |mk _ _ _ _ _ c=>sizes c+1
def sizes :List c9->Nat
 | []=>0|s::l=>s.size+sizes l
end
mutual
def depth :c9->Nat
 |mk _ _ _ _ _ c=>depths c+1
def depths :List c9->Nat
 | []=>0|s::l=>max s.depth (depths l)
end
end c9
abbrev rows (l:List c9):Sx.Rows:=l.map c9.row
def iP (l:List Str):Prop:=l.Pairwise fun a b=>b≠ []->a≠b
def Asc (l:List Str):Prop:=l.Pairwise fun a b=>lt a b=true
def V8 (s:c9):Prop:=(s.k=2/\I0 s.x=true/\s.t=[]/\s.y=[]/\s.a=[]/\s.c=[])\/
 (s.k=1/\B1 s.t=true/\(s.y=[]\/B1 s.y=true)/\s.x=[]/\s.a.length<=8/\s.c.length<=16/\(∀a∈s.a,B1 a.n=true/\I0 a.v=true)/\Asc (s.a.map Att.n)/\iP (s.c.map c9.y))
mutual
def kG :c9->Prop
 | .mk k t y a x c=>V8 (.mk k t y a x c)/\AllAs c
def AllAs :List c9->Prop
 | []=>True|s::l=>kG s/\AllAs l
end
def W0 (s:c9):Prop:=kG s/\s.size<=64/\s.depth<=6
mutual
def DI (b:Bool):c9->c9
 | .mk k t y a x c=>.mk k t (if b then y else []) a x (strips b c)
def strips (b:Bool):List c9->List c9
 | []=>[]
 |s::l=>DI b s::strips b l
end
def isT (s:c9)(k:Int)(t y:Str)(a:Sx.Rows)(x:Str)(c:Sx.Rows):Prop:=k=s.k/\t=s.t/\y=s.y/\a=s.a.map Att.row/\x=s.x/\c=rows s.c
def U0 :Ab:=fun _ _=>.int 0
abbrev kq (P:Aw)(c:Con)(a:Ay->List (Nat×(Fm->SS->G5)))(s:List (Ay×Con))(p:Aw->E7)(f:Ay):Prop:=(cvc P U0 c (sxF P U0 a (kU P U0 s (p P)) 400 f)).vc U0 (fun _=>True)
abbrev kr (P:Aw)(c:Con)(a:Ay->List (Nat×(Fm->SS->G5)))(s:List (Ay×Con))(p:Aw->E7)(f:Ay):Prop:=(cvr P U0 c (sxF P U0 a (kU P U0 s (p P)) 400 f)).vc U0 (fun _=>True)
def iV :Vs:= .one (.g (.int .i64))
def uV :Vs:= .one (.g (.int .u8))
def bV :Vs:= .one (.g .bool)
def sV :Vs:= .one (.g .str)
def tG :List Lf:=[.g (.int .u8),.g .str,.g .str,.g (.lst 68),.g .str,.g (.lst 40)]
def nV :Vs:= .agg tG
def nO :Vs:= .agg [.g (.int .u8),.g .str,.g .str,.g (.acc 68 2),.g .str,.g (.lst 40)]
def noB :SV->SS->Bb (Ah):=fun _ _=>some []
def noF :As->SS->Bb (Ah):=fun _ _=>some []
def mkC (n:String)(args:List Vs)(pre:Ar->Prop)(res:List Vs)(rel:Ar->Ar->Prop):Con:=⟨n,args,[],noF,pre,res,[],noB,rel⟩
def Dr :Ar->Prop
 | [.str _]=>True|_=>False
def W9:=Dr
def gR:=Dr
def D1 :Ar->Ar->Prop
 | [.str s],[.bool b]=>b=B1 s|_,_=>False
def J4 :Ar->Ar->Prop
 | [.str s],[.bool b]=>b=I0 s|_,_=>False
def cNamed:=mkC "named" [sV] W9 [bV] D1
def cText:=mkC "text" [sV] gR [bV] J4
def eA :Ar->Prop
 | [.lst L]=>∃s:c9,L=[s.row]
 |_=>False
def y9 :Ar->Ar->Prop
 | [.lst L],[.bool b]=>∀s:c9,L=[s.row]->(b=true↔V8 s)
 |_,_=>False
def cAlone:=mkC "alone" [.one (.g (.pp 40))] eA [bV] y9
def Good (s:c9)(lv n:Int):Prop:=kG s/\lv+s.depth<=7/\n+s.size<=64
def cY :Ar->Prop
 | [.lst L,.int lv,.int n,.int d]=>(∃s:c9,L=[s.row])/\1<=lv/\lv<=7/\0<=n/\n<=64/\0<=d/\d<=7|_=>False
def fU :Ar->Nat
 | [_,.int lv,_,_]=>(8-lv).toNat|_=>0
def G8 :Ar->Ar->Prop
 | [.lst L,.int lv,.int n,.int d],[.bool b,.int n',.int d']=>0<=n'/\n'<=65/\0<=d'/\d'<=7/\ ∀s:c9,L=[s.row]->(b=true↔Good s lv n)/\(b=true->n'=n+s.size/\d'=max d (lv+s.depth-1))|_,_=>False
def Oc :List bN:=[(3,1,[.g (.int .i64)]),(3,1,[.g (.int .i64)]),(201,1,[.clo 155 [(0,1),(1,1),(2,1)]])]
def walkF :As->SS->Bb (Ah):=fun args s=>match args with
 | [_,_,.ptr a _ _ _,.ptr b _ _ _,.ptr c _ _ _]=>some [a,b,c]|_=>none
def cWalk :Con:=⟨ "walk",[.one (.g (.pp 40)),iV,.one (.ptr 0 1),.one (.ptr 1 1),.one (.ptr 2 1)],Oc,walkF,cY,[bV],Oc,noB,G8⟩
def LS :Ar->Prop
 | [.int k,.str t,.str y,.lst a,.str x,.lst c]=>∃s:c9,isT s k t y a x c|_=>False
def eG:=LS
def R4 :Ar->Ar->Prop
 | [.int k,.str t,.str y,.lst a,.str x,.lst c],[.int n]=>∀s:c9,isT s k t y a x c->(n=0↔W0 s)/\(n=0\/n=14)|_,_=>False
def cChk:=mkC "chk" [nV] eG [iV] R4
def rT :Ar->Prop
 | [.int k,.str t,.str y,.lst a,.str x,.lst c,.bool _]=>∃s:c9,isT s k t y a x c/\kG s|_=>False
mutual
def szD :Dat->Nat
 | .lst r=>szRs r|_=>0
def szR :Ar->Nat
 | []=>0|d::l=>szD d+szR l
def szRs :List (Ar)->Nat
 | []=>0|r::l=>szR r+1+szRs l
end
def wT :Ar->Nat
 | [_,_,_,_,_,.lst c,_]=>szRs c|_=>0
def W4 :Ar->Ar->Prop
 | [.int k,.str t,.str y,.lst a,.str x,.lst c,.bool b],[.int k',.str t',.str y',.lst a',.str x',.lst c']=>∀s:c9,isT s k t y a x c->isT (DI b s) k' t' y' a' x' c'|_,_=>False
def cCpd:=mkC "cpd" [nV,bV] rT [nO] W4
def m9 (t:Nat):Fm->SS->List (So×E):=fun f s=>match lk f t with
 |some (.lst _ e _)=>[(.l,e)]
 |some (.str e)=>[(.s,e)]
 |some (.bool e)=>[(.b,e)]
 |some (.int _ e)=>[(.i,e)]
 |some (.pptr _ L _ _)=>[(.l,L)]
 |some (.sl b _ _ _ _)=>match s.get b with
  |some (.rows e _ _ _)=>[(.l,e)]
  |none=>match lk s.fz b with
   |some r=>[(.l,r.1)]
   |none=>[]
  |_=>[]
 |_=>[]
def gh2 (a b:Fm->SS->List (So×E)):Fm->SS->List (So×E):=fun f s=>a f s++b f s
def svG :SV->List (So×E)
 | .lst _ e _=>[(.l,e)]
 | .str e=>[(.s,e)]
 | .int _ e=>[(.i,e)]
 | .bool e=>[(.b,e)]
 |_=>[]
def NF (b j:Nat)(s:SS):List (So×E):=match s.get b with
 |some (.cells l _ _)=>svG (l.getD j .any)|_=>[]
def A2 (t j:Nat):Fm->SS->List (So×E):=fun f s=>match lk f t with
 |some (.ptr b _ _ _)=>NF b j s|_=>[]
def ghCap (t k j:Nat):Fm->SS->List (So×E):=fun f s=>match lk f t with
 |some (.fn _ _ cs)=>match cs[k]? with
  |some (.ptr b _ _ _)=>NF b j s|_=>[]
 |_=>[]
def nob :Fm->SS->Bb (List (Nat×List G)):=fun _ _=>some []
def G9 (t:Nat)(gs:List G):Fm->SS->Bb (List (Nat×List G)):=fun f _=>match lk f t with
 |some (.ptr b _ _ _)=>some [(b,gs)]|_=>none
def bl2 (a b:Fm->SS->Bb (List (Nat×List G))):Fm->SS->Bb (List (Nat×List G)):=fun f s=>match a f s,b f s with
 |some x,some y=>some (x++y)|_,_=>none
def itrPl (t:Nat):Code->Fm->SS->Bb (List (At×G)×Ah):=fun c f s=>match lk f t with
 |some (.ptr b _ _ _)=>match s.get b with
  |some (.iter e _)=>E6 [(t,.itr e)] nob c f s|_=>none
 |_=>none
def A7 :Ar->Ar->Nat
 | [.str s],.int k::_=>(s.length-k).toNat| .lst L::_,.int k::_=>(L.length-k).toNat|_,_=>0
def pH :Ar->Ar->Prop
 | [.str s],[.int k]=>0<=k/\k<=s.length/\(s.take k.toNat).all iH=true|_,_=>False
def Ky:=A7
def uP :Ar->Ar->Prop
 | [.str s],[.int k]=>0<=k/\k<=s.length/\(s.take k.toNat).all DH=true|_,_=>False
def stMu:=A7
def nA :Ar->Ar->Prop
 | [.lst L],[.int k]=>0<=k/\k<=L.length/\(∀a∈(ats L).take k.toNat,B1 a.n=true/\I0 a.v=true)/\Asc (((ats L).take k.toNat).map Att.n)|_,_=>False
def Cq:=A7
def pD (L:Sx.Rows):List Str:=L.map fun r=>(r.getD 2 (.int 0)).toStr
def jA :Ar->Ar->Prop
 | [.lst L],[.int k]=>0<=k/\k<=L.length/\iP ((pD L).take k.toNat)|_,_=>False
def sL:=A7
def sI :Ar->Ar->Prop
 | [.lst L,.str y],[.int k]=>0<=k/\k<=L.length/\ ∀z∈(pD L).take k.toNat,z≠y|_,_=>False
def Kc:=A7
def fV :Ar->Ar->Prop
 | [.lst L,.int lv,.int n,.int d],[.int k,.int n',.int d']=>0<=k/\1<=lv/\lv<=6/\ ∀s:c9,L=[s.row]->k<=s.c.length/\AllAs (s.c.take k.toNat)/\n'=n+c9.sizes (s.c.take k.toNat)/\n'<=64/\d'=max d (lv+c9.depths (s.c.take k.toNat))/\d'<=7/\lv+c9.depths (s.c.take k.toNat)<=6/\lv<=d|_,_=>False
def yS :Ar->Ar->Nat
 | [.lst L,_,_,_],[.int k,_,_]=>((z4 L 0 5).rows.length-k).toNat|_,_=>0
def J9 :Ar->Ar->Prop
 | [.lst C,.bool b],[.int k,.lst D]=>0<=k/\k<=C.length/\D.length=C.length/\ ∀c:List c9,C=rows c->D.take k.toNat=rows (strips b (c.take k.toNat))/\ ∀r∈D,r.length=6|_,_=>False
def JI:=A7
def dJ :Ay->List (Nat×(Fm->SS->G5))
 |160=>[(0,D8 U0 "nm" (E6 [(14,.int .i64)] nob) (m9 0) pH A7)]
 |167=>[(0,D8 U0 "st" (itrPl 10) (m9 0) uP A7)]
 |156=>[(0,D8 U0 "att" (E6 [(103,.int .i64)] nob) (m9 101) nA A7),(2,D8 U0 "kid" (E6 [(142,.int .i64)] nob) (m9 140) jA A7)]
 |166=>[(0,D8 U0 "idx" (E6 [(8,.int .i64)] nob) (gh2 (m9 0) (ghCap 1 0 2)) sI A7)]
 |155=>[(0,D8 U0 "wlk" (E6 [(30,.int .i64)] (bl2 (bl2 (G9 2 [.int .i64]) (G9 3 [.int .i64])) (G9 4 [.keep]))) (gh2 (gh2 (m9 0) (m9 1)) (gh2 (m9 10) (m9 13))) fV yS)]
 |122=>[(0,D8 U0 "cpi" (E6 [(23,.int .i64),(5,.acc 40 6)] nob) (gh2 (m9 21) (m9 1)) J9 A7)]
 |_=>[]
def LVn :Ay:=20
def Km (d:Ar):Prop:=d=[]
def Kn:=Mg
def cT :Nat->List (Ay×Con)
 |0=>[(LVn,cYes "lives")]
 |1=>[(160,cNamed),(159,cText),(LVn,cYes "lives")]
 |2=>[(156,cAlone),(LVn,cYes "lives")]
 |3=>[(155,cWalk),(LVn,cYes "lives")]
 |_=>[(LVn,cYes "lives")]
def nR (_:Nat)(P:Aw):E7:=[]
