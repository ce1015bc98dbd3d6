/- Trees: what the functions of nodes compute, as contracts.
  Conditions: none. -/
import Derived.Test.YtoegfalhkackeaaGreatSm4
set_option linter.all false
noncomputable section
namespace Go.D
open Go.Xe Go.Sx
abbrev J6 (a b c d e f:Int)(z:List Dat):List Dat:=.int a::.int b::.int c::.int d::.int e::.int f::z
abbrev J10 (a b c d e f g h i j:Int)(z:List Dat):List Dat:=.int a::.int b::.int c::.int d::.int e::.int f::.int g::.int h::.int i::.int j::z
abbrev JE (x:Sx.Rows)(a b c d e f g h i j:Int)(y:Sx.Rows):List Dat:=.lst x::J10 a b c d e f g h i j [.lst y]
abbrev JD (x:Sx.Rows)(a b c d e f g h i j:Int)(y z:Sx.Rows):List Dat:=.lst x::J10 a b c d e f g h i j [.lst y,.lst z]
abbrev Nb (x y:Int)(q:Prop):Prop:=Nd (¬x<0) (Nd (x<y) q)
abbrev Nq (x:Int)(q:Prop):Prop:=Ni x<|Nr x q
abbrev Cg (p:List Dat→Prop)(r:List Dat→List Dat→Prop)(x:List Dat)(k:(List Dat→Prop)→Prop):Prop:=Nd (p x)<|k (r x)
abbrev Str:=Ae
def kL (b:UInt8):Bool:=decide (97<=b.toNat)&&decide (b.toNat<=122)||decide (48<=b.toNat)&&decide (b.toNat<=57)
def Ey (b:UInt8):Bool:=decide (32<=b.toNat)&&decide (b.toNat<=126)
def v5 (s:Str):Bool:=decide (1<=s.length)&&decide (s.length<=16)&&s.all kL
def E8 (s:Str):Bool:=decide (s.length<=64)&&s.all Ey
def lt (a b:Str):Bool:=Op.bytesLess a b
structure Att where
 n:Str
 v:Str
def Att.row (a:Att):Ar:=[.str a.n,.str a.v]
def atOf (r:Ar):Att:=⟨(r.getD 0 (.int 0)).toStr,(r.getD 1 (.int 0)).toStr⟩
def ats (L:Sx.Rows):List Att:=L.map atOf
inductive a9 where
 |mk (k:Int) (t y:Str) (a:List Att) (x:Str) (c:List a9)
namespace a9
def k :a9->Int|mk k _ _ _ _ _=>k
def t :a9->Str|mk _ t _ _ _ _=>t
def y :a9->Str|mk _ _ y _ _ _=>y
def a :a9->List Att|mk _ _ _ a _ _=>a
def x :a9->Str|mk _ _ _ _ x _=>x
def c :a9->List a9|mk _ _ _ _ _ c=>c
mutual
def row :a9->Ar
 |mk k t y a x c=>[.int k,.str t,.str y,.lst (a.map Att.row),.str x,.lst (rows c)]
def rows :List a9->Sx.Rows
 | []=>[]
 |s::l=>s.row::rows l
end
mutual
def size :a9->Nat
 |mk _ _ _ _ _ c=>sizes c+1
def sizes :List a9->Nat
 | []=>0|s::l=>s.size+sizes l
end
mutual
def depth :a9->Nat
 |mk _ _ _ _ _ c=>depths c+1
def depths :List a9->Nat
 | []=>0|s::l=>max s.depth (depths l)
end
end a9
abbrev rows (l:List a9):Sx.Rows:=l.map a9.row
def fV (l:List Str):Prop:=l.Pairwise fun a b=>b≠ []->a≠b
def Asc (l:List Str):Prop:=l.Pairwise fun a b=>lt a b=true
def aG (s:a9):Prop:=(s.k=2/\E8 s.x=true/\s.t=[]/\s.y=[]/\s.a=[]/\s.c=[])\/
 (s.k=1/\v5 s.t=true/\(s.y=[]\/v5 s.y=true)/\s.x=[]/\s.a.length<=8/\s.c.length<=16/\(∀a∈s.a,v5 a.n=true/\E8 a.v=true)/\Asc (s.a.map Att.n)/\fV (s.c.map a9.y))
mutual
def J3 :a9->Prop
 | .mk k t y a x c=>aG (.mk k t y a x c)/\AllAs c
def AllAs :List a9->Prop
 | []=>True|s::l=>J3 s/\AllAs l
end
def w9 (s:a9):Prop:=J3 s/\s.size<=64/\s.depth<=6
mutual
def strip (b:Bool):a9->a9
 | .mk k t y a x c=>.mk k t (if b then y else []) a x (strips b c)
def strips (b:Bool):List a9->List a9
 | []=>[]
 |s::l=>strip b s::strips b l
end
def isT (s:a9)(k:Int)(t y:Str)(a:Sx.Rows)(x:Str)(c:Sx.Rows):Prop:=k=s.k/\t=s.t/\y=s.y/\a=s.a.map Att.row/\x=s.x/\c=rows s.c
def U0 :Ab:=fun _ _=>.int 0
abbrev kq (P:Aw)(c:Con)(a:Ay->List (Nat×(Fm->SS->J0)))(s:List (Ay×Con))(p:Aw->G1)(f:Ay):Prop:=(cvc P U0 c (sxF P U0 a (lB P U0 s (p P)) 400 f)).vc U0 (fun _=>True)
abbrev kr (P:Aw)(c:Con)(a:Ay->List (Nat×(Fm->SS->J0)))(s:List (Ay×Con))(p:Aw->G1)(f:Ay):Prop:=(cvr P U0 c (sxF P U0 a (lB P U0 s (p P)) 400 f)).vc U0 (fun _=>True)
def iV :Vs:= .one (.g (.int .i64))
def uV :Vs:= .one (.g (.int .u8))
def bV :Vs:= .one (.g .bool)
def sV :Vs:= .one (.g .str)
def tG :List Lf:=[.g (.int .u8),.g .str,.g .str,.g (.lst 101),.g .str,.g (.lst 30)]
def nV :Vs:= .agg tG
def nO :Vs:= .agg [.g (.int .u8),.g .str,.g .str,.g (.acc 101 2),.g .str,.g (.lst 30)]
def cV :Vs:= .one (.g (.lst 30))
def noB :SV->SS->Bb (Ah):=fun _ _=>some []
def noF :As->SS->Bb (Ah):=fun _ _=>some []
def mkC (n:String)(args:List Vs)(pre:Ar->Prop)(res:List Vs)(rel:Ar->Ar->Prop):Con:=⟨n,args,[],noF,pre,res,[],noB,rel⟩
def Eh :Ar->Prop
 | [.str _]=>True|_=>False
def aO:=Eh
def jL:=Eh
def E3 :Ar->Ar->Prop
 | [.str s],[.bool b]=>b=v5 s|_,_=>False
def L7 :Ar->Ar->Prop
 | [.str s],[.bool b]=>b=E8 s|_,_=>False
def cNamed:=mkC "named" [sV] aO [bV] E3
def cText:=mkC "text" [sV] jL [bV] L7
def gI :Ar->Prop
 | [.lst L]=>∃s:a9,L=[s.row]
 |_=>False
def A3 :Ar->Ar->Prop
 | [.lst L],[.bool b]=>∀s:a9,L=[s.row]->(b=true↔aG s)
 |_,_=>False
def cAlone:=mkC "alone" [.one (.g (.pp 30))] gI [bV] A3
def Good (s:a9)(lv n:Int):Prop:=J3 s/\lv+s.depth<=7/\n+s.size<=64
def aA :Ar->Prop
 | [.lst L,.int lv,.int n,.int d]=>(∃s:a9,L=[s.row])/\1<=lv/\lv<=7/\0<=n/\n<=64/\0<=d/\d<=7|_=>False
def iK :Ar->Nat
 | [_,.int lv,_,_]=>(8-lv).toNat|_=>0
def G0 :Ar->Ar->Prop
 | [.lst L,.int lv,.int n,.int d],[.bool b,.int n',.int d']=>0<=n'/\n'<=65/\0<=d'/\d'<=7/\ ∀s:a9,L=[s.row]->(b=true↔Good s lv n)/\(b=true->n'=n+s.size/\d'=max d (lv+s.depth-1))|_,_=>False
def QX :List bW:=[(3,1,[.g (.int .i64)]),(3,1,[.g (.int .i64)]),(167,1,[.clo 104 [(0,1),(1,1),(2,1)]])]
def walkF :As->SS->Bb (Ah):=fun args s=>match args with
 | [_,_,.ptr a _ _ _,.ptr b _ _ _,.ptr c _ _ _]=>some [a,b,c]|_=>none
def cWalk :Con:=⟨ "walk",[.one (.g (.pp 30)),iV,.one (.ptr 0 1),.one (.ptr 1 1),.one (.ptr 2 1)],QX,walkF,aA,[bV],QX,noB,G0⟩
def zP :Ar->Prop
 | [.int k,.str t,.str y,.lst a,.str x,.lst c]=>∃s:a9,isT s k t y a x c|_=>False
def V4:=zP
def L3 :Ar->Ar->Prop
 | [.int k,.str t,.str y,.lst a,.str x,.lst c],[.int n]=>∀s:a9,isT s k t y a x c->(n=0↔w9 s)/\(n=0\/n=14)|_,_=>False
def cChk:=mkC "chk" [nV] V4 [iV] L3
def pB :Ar->Prop
 | [.int k,.str t,.str y,.lst a,.str x,.lst c,.bool _]=>∃s:a9,isT s k t y a x c/\J3 s|_=>False
mutual
def szD :Dat->Nat
 | .lst r=>szRs r|_=>0
def szR :Ar->Nat
 | []=>0|d::l=>szD d+szR l
def szRs :List (Ar)->Nat
 | []=>0|r::l=>szR r+1+szRs l
end
def xS :Ar->Nat
 | [_,_,_,_,_,.lst c,_]=>szRs c|_=>0
def Y4 :Ar->Ar->Prop
 | [.int k,.str t,.str y,.lst a,.str x,.lst c,.bool b],[.int k',.str t',.str y',.lst a',.str x',.lst c']=>∀s:a9,isT s k t y a x c->isT (strip b s) k' t' y' a' x' c'|_,_=>False
def cCpd:=mkC "cpd" [nV,bV] pB [nO] Y4
def y7 (t:Nat):Fm->SS->List (So×E):=fun f s=>match lk f t with
 |some (.lst _ e _)=>[(.l,e)]
 |some (.str e)=>[(.s,e)]
 |some (.bool e)=>[(.b,e)]
 |some (.int _ e)=>[(.i,e)]
 |some (.pptr _ L _ _)=>[(.l,L)]
 |some (.sl b _ _ _ _)=>match s.get b with
  |some (.rows e _ _ _)=>[(.l,e)]
  |none=>match lk s.fz b with
   |some r=>[(.l,r.1)]
   |none=>[]
  |_=>[]
 |_=>[]
def gh2 (a b:Fm->SS->List (So×E)):Fm->SS->List (So×E):=fun f s=>a f s++b f s
def svG :SV->List (So×E)
 | .lst _ e _=>[(.l,e)]
 | .str e=>[(.s,e)]
 | .int _ e=>[(.i,e)]
 | .bool e=>[(.b,e)]
 |_=>[]
def Qy (b j:Nat)(s:SS):List (So×E):=match s.get b with
 |some (.cells l _ _)=>svG (l.getD j .any)|_=>[]
def C5 (t j:Nat):Fm->SS->List (So×E):=fun f s=>match lk f t with
 |some (.ptr b _ _ _)=>Qy b j s|_=>[]
def ghCap (t k j:Nat):Fm->SS->List (So×E):=fun f s=>match lk f t with
 |some (.fn _ _ cs)=>match cs[k]? with
  |some (.ptr b _ _ _)=>Qy b j s|_=>[]
 |_=>[]
def nob :Fm->SS->Bb (List (Nat×List G)):=fun _ _=>some []
def L2 (t:Nat)(gs:List G):Fm->SS->Bb (List (Nat×List G)):=fun f _=>match lk f t with
 |some (.ptr b _ _ _)=>some [(b,gs)]|_=>none
def bl2 (a b:Fm->SS->Bb (List (Nat×List G))):Fm->SS->Bb (List (Nat×List G)):=fun f s=>match a f s,b f s with
 |some x,some y=>some (x++y)|_,_=>none
def itrPl (t:Nat):Code->Fm->SS->Bb (List (At×G)×Ah):=fun c f s=>match lk f t with
 |some (.ptr b _ _ _)=>match s.get b with
  |some (.iter e _)=>N7 [(t,.itr e)] nob c f s|_=>none
 |_=>none
def J9 :Ar->Ar->Nat
 | [.str s],.int k::_=>(s.length-k).toNat| .lst L::_,.int k::_=>(L.length-k).toNat|_,_=>0
def rB :Ar->Ar->Prop
 | [.str s],[.int k]=>0<=k/\k<=s.length/\(s.take k.toNat).all kL=true|_,_=>False
def MQ:=J9
def vN :Ar->Ar->Prop
 | [.str s],[.int k]=>0<=k/\k<=s.length/\(s.take k.toNat).all Ey=true|_,_=>False
def stMu:=J9
def oU :Ar->Ar->Prop
 | [.lst L],[.int k]=>0<=k/\k<=L.length/\(∀a∈(ats L).take k.toNat,v5 a.n=true/\E8 a.v=true)/\Asc (((ats L).take k.toNat).map Att.n)|_,_=>False
def CJ:=J9
def nH (L:Sx.Rows):List Str:=L.map fun r=>(r.getD 2 (.int 0)).toStr
def lH :Ar->Ar->Prop
 | [.lst L],[.int k]=>0<=k/\k<=L.length/\fV ((nH L).take k.toNat)|_,_=>False
def tU:=J9
def tP :Ar->Ar->Prop
 | [.lst L,.str y],[.int k]=>0<=k/\k<=L.length/\ ∀z∈(nH L).take k.toNat,z≠y|_,_=>False
def Mk:=J9
def iL :Ar->Ar->Prop
 | [.lst L,.int lv,.int n,.int d],[.int k,.int n',.int d']=>0<=k/\1<=lv/\lv<=6/\ ∀s:a9,L=[s.row]->k<=s.c.length/\AllAs (s.c.take k.toNat)/\n'=n+a9.sizes (s.c.take k.toNat)/\n'<=64/\d'=max d (lv+a9.depths (s.c.take k.toNat))/\d'<=7/\lv+a9.depths (s.c.take k.toNat)<=6/\lv<=d|_,_=>False
def zS :Ar->Ar->Nat
 | [.lst L,_,_,_],[.int k,_,_]=>((D6 L 0 5).rows.length-k).toNat|_,_=>0
def L9 :Ar->Ar->Prop
 | [.lst C,.bool b],[.int k,.lst D]=>0<=k/\k<=C.length/\D.length=C.length/\ ∀c:List a9,C=rows c->D.take k.toNat=rows (strips b (c.take k.toNat))/\ ∀r∈D,r.length=6|_,_=>False
def LU:=J9
def cW :Ay->List (Nat×(Fm->SS->J0))
 |161=>[(0,L4 U0 "nm" (N7 [(14,.int .i64)] nob) (y7 0) rB J9)]
 |189=>[(0,L4 U0 "st" (itrPl 10) (y7 0) vN J9)]
 |105=>[(0,L4 U0 "att" (N7 [(103,.int .i64)] nob) (y7 101) oU J9),(2,L4 U0 "kid" (N7 [(142,.int .i64)] nob) (y7 140) lH J9)]
 |186=>[(0,L4 U0 "idx" (N7 [(8,.int .i64)] nob) (gh2 (y7 0) (ghCap 1 0 2)) tP J9)]
 |104=>[(0,L4 U0 "wlk" (N7 [(30,.int .i64)] (bl2 (bl2 (L2 2 [.int .i64]) (L2 3 [.int .i64])) (L2 4 [.keep]))) (gh2 (gh2 (y7 0) (y7 1)) (gh2 (y7 10) (y7 13))) iL zS)]
 |98=>[(0,L4 U0 "cpi" (N7 [(23,.int .i64),(5,.acc 30 6)] nob) (gh2 (y7 21) (y7 1)) L9 J9)]
 |_=>[]
def LVn :Ay:=20
def Mu (d:Ar):Prop:=d=[]
def Dq:=OJ
def cO :Nat->List (Ay×Con)
 |0=>[(LVn,cYes "lives")]
 |1=>[(161,cNamed),(160,cText),(LVn,cYes "lives")]
 |2=>[(105,cAlone),(LVn,cYes "lives")]
 |3=>[(104,cWalk),(LVn,cYes "lives")]
 |_=>[(LVn,cYes "lives")]
def pR (_:Nat)(P:Aw):G1:=[]
