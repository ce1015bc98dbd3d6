/- Trees: what the functions of nodes compute, as contracts.
  Conditions: none. -/
import Derived.Test.YtoegfalhkackeaaGreatSm4
set_option linter.all false
noncomputable section
namespace Go.D
open Go.Xe Go.Sx
abbrev J6 (a b c d e f:Int)(z:List Dat):List Dat:=.int a::.int b::.int c::.int d::.int e::.int f::z
abbrev J8 (a b c d e f g h:Int)(z:List Dat):List Dat:=.int a::.int b::.int c::.int d::.int e::.int f::.int g::.int h::z
abbrev J10 (a b c d e f g h i j:Int)(z:List Dat):List Dat:=.int a::.int b::.int c::.int d::.int e::.int f::.int g::.int h::.int i::.int j::z
abbrev JE (x:Sx.Rows)(a b c d e f g h i j:Int)(y:Sx.Rows):List Dat:=.lst x::J10 a b c d e f g h i j [.lst y]
abbrev JD (x:Sx.Rows)(a b c d e f g h i j:Int)(y z:Sx.Rows):List Dat:=.lst x::J10 a b c d e f g h i j [.lst y,.lst z]
abbrev Nb (x y:Int)(q:Prop):Prop:=Nd (¬x<0) (Nd (x<y) q)
abbrev Nq (x:Int)(q:Prop):Prop:=Ni x<|Nr x q
abbrev Cg (p:List Dat→Prop)(r:List Dat→List Dat→Prop)(x:List Dat)(k:(List Dat→Prop)→Prop):Prop:=Nd (p x)<|k (r x)
abbrev Str:=Ae
def jL (b:UInt8):Bool:=decide (97<=b.toNat)&&decide (b.toNat<=122)||decide (48<=b.toNat)&&decide (b.toNat<=57)
def DN (b:UInt8):Bool:=decide (32<=b.toNat)&&decide (b.toNat<=126)
def C9 (s:Str):Bool:=decide (1<=s.length)&&decide (s.length<=16)&&s.all jL
def N9 (s:Str):Bool:=decide (s.length<=64)&&s.all DN
def lt (a b:Str):Bool:=Op.bytesLess a b
structure Att where
 n:Str
 v:Str
def Att.row (a:Att):Ar:=[.str a.n,.str a.v]
def atOf (r:Ar):Att:=⟨(r.getD 0 (.int 0)).toStr,(r.getD 1 (.int 0)).toStr⟩
def ats (L:Sx.Rows):List Att:=L.map atOf
inductive a9 where
 |mk (k:Int) (t y:Str) (a:List Att) (x:Str) (c:List a9)
namespace a9
def k :a9->Int|mk k _ _ _ _ _=>k
def t :a9->Str|mk _ t _ _ _ _=>t
def y :a9->Str|mk _ _ y _ _ _=>y
def a :a9->List Att|mk _ _ _ a _ _=>a
def x :a9->Str|mk _ _ _ _ x _=>x
def c :a9->List a9|mk _ _ _ _ _ c=>c
mutual
def row :a9->Ar
 |mk k t y a x c=>[.int k,.str t,.str y,.lst (a.map Att.row),.str x,.lst (rows c)]
def rows :List a9->Sx.Rows
 | []=>[]
 |s::l=>s.row::rows l
end
mutual
def size :a9->Nat
 |mk _ _ _ _ _ c=>sizes c+1
def sizes :List a9->Nat
 | []=>0|s::l=>s.size+sizes l
end
mutual
def depth :a9->Nat
 |mk _ _ _ _ _ c=>depths c+1
def depths :List a9->Nat
 | []=>0|s::l=>max s.depth (depths l)
end
end a9
abbrev rows (l:List a9):Sx.Rows:=l.map a9.row
def jT (l:List Str):Prop:=l.Pairwise fun a b=>b≠ []->a≠b
def Asc (l:List Str):Prop:=l.Pairwise fun a b=>lt a b=true
def Z5 (s:a9):Prop:=(s.k=2/\N9 s.x=true/\s.t=[]/\s.y=[]/\s.a=[]/\s.c=[])\/
 (s.k=1/\C9 s.t=true/\(s.y=[]\/C9 s.y=true)/\s.x=[]/\s.a.length<=8/\s.c.length<=16/\(∀a∈s.a,C9 a.n=true/\N9 a.v=true)/\Asc (s.a.map Att.n)/\jT (s.c.map a9.y))
mutual
def U7 :a9->Prop
 | .mk k t y a x c=>Z5 (.mk k t y a x c)/\AllAs c
def AllAs :List a9->Prop
 | []=>True|s::l=>U7 s/\AllAs l
end
def z5 (s:a9):Prop:=U7 s/\s.size<=64/\s.depth<=6
mutual
def jO (b:Bool):a9->a9
 | .mk k t y a x c=>.mk k t (if b then y else []) a x (strips b c)
def strips (b:Bool):List a9->List a9
 | []=>[]
 |s::l=>jO b s::strips b l
end
def isT (s:a9)(k:Int)(t y:Str)(a:Sx.Rows)(x:Str)(c:Sx.Rows):Prop:=k=s.k/\t=s.t/\y=s.y/\a=s.a.map Att.row/\x=s.x/\c=rows s.c
def U0 :Ab:=fun _ _=>.int 0
abbrev kq (P:Aw)(c:Con)(a:Ay->List (Nat×(Fm->SS->K0)))(s:List (Ay×Con))(p:Aw->I9)(f:Ay):Prop:=(cvc P U0 c (sxF P U0 a (jX P U0 s (p P)) 400 f)).vc U0 (fun _=>True)
abbrev kr (P:Aw)(c:Con)(a:Ay->List (Nat×(Fm->SS->K0)))(s:List (Ay×Con))(p:Aw->I9)(f:Ay):Prop:=(cvr P U0 c (sxF P U0 a (jX P U0 s (p P)) 400 f)).vc U0 (fun _=>True)
def iV :Vs:= .one (.g (.int .i64))
def bV :Vs:= .one (.g .bool)
def sV :Vs:= .one (.g .str)
def tG :List Lf:=[.g (.int .u8),.g .str,.g .str,.g (.lst 101),.g .str,.g (.lst 30)]
def nV :Vs:= .agg tG
def nO :Vs:= .agg [.g (.int .u8),.g .str,.g .str,.g (.acc 101 2),.g .str,.g (.lst 30)]
def noB :SV->SS->Bb (Ah):=fun _ _=>some []
def noF :As->SS->Bb (Ah):=fun _ _=>some []
def mkC (n:String)(args:List Vs)(pre:Ar->Prop)(res:List Vs)(rel:Ar->Ar->Prop):Con:=⟨n,args,[],noF,pre,res,[],noB,rel⟩
def Du :Ar->Prop
 | [.str _]=>True|_=>False
def aA:=Du
def iP:=Du
def D6 :Ar->Ar->Prop
 | [.str s],[.bool b]=>b=C9 s|_,_=>False
def J9 :Ar->Ar->Prop
 | [.str s],[.bool b]=>b=N9 s|_,_=>False
def cNamed:=mkC "named" [sV] aA [bV] D6
def cText:=mkC "text" [sV] iP [bV] J9
def fN :Ar->Prop
 | [.lst L]=>∃s:a9,L=[s.row]
 |_=>False
def z9 :Ar->Ar->Prop
 | [.lst L],[.bool b]=>∀s:a9,L=[s.row]->(b=true↔Z5 s)
 |_,_=>False
def cAlone:=mkC "alone" [.one (.g (.pp 30))] fN [bV] z9
def Good (s:a9)(lv n:Int):Prop:=U7 s/\lv+s.depth<=7/\n+s.size<=64
def Y9 :Ar->Prop
 | [.lst L,.int lv,.int n,.int d]=>(∃s:a9,L=[s.row])/\1<=lv/\lv<=7/\0<=n/\n<=64/\0<=d/\d<=7|_=>False
def gV :Ar->Nat
 | [_,.int lv,_,_]=>(8-lv).toNat|_=>0
def E6 :Ar->Ar->Prop
 | [.lst L,.int lv,.int n,.int d],[.bool b,.int n',.int d']=>0<=n'/\n'<=65/\0<=d'/\d'<=7/\ ∀s:a9,L=[s.row]->(b=true↔Good s lv n)/\(b=true->n'=n+s.size/\d'=max d (lv+s.depth-1))|_,_=>False
def Pj :List bX:=[(3,1,[.g (.int .i64)]),(3,1,[.g (.int .i64)]),(167,1,[.clo 104 [(0,1),(1,1),(2,1)]])]
def walkF :As->SS->Bb (Ah):=fun args s=>match args with
 | [_,_,.ptr a _ _ _,.ptr b _ _ _,.ptr c _ _ _]=>some [a,b,c]|_=>none
def cWalk :Con:=⟨ "walk",[.one (.g (.pp 30)),iV,.one (.ptr 0 1),.one (.ptr 1 1),.one (.ptr 2 1)],Pj,walkF,Y9,[bV],Pj,noB,E6⟩
def qN :Ar->Prop
 | [.int k,.str t,.str y,.lst a,.str x,.lst c]=>∃s:a9,isT s k t y a x c|_=>False
def T4:=qN
def J7 :Ar->Ar->Prop
 | [.int k,.str t,.str y,.lst a,.str x,.lst c],[.int n]=>∀s:a9,isT s k t y a x c->(n=0↔z5 s)/\(n=0\/n=14)|_,_=>False
def cChk:=mkC "chk" [nV] T4 [iV] J7
def oH :Ar->Prop
 | [.int k,.str t,.str y,.lst a,.str x,.lst c,.bool _]=>∃s:a9,isT s k t y a x c/\U7 s|_=>False
mutual
def szD :Dat->Nat
 | .lst r=>szRs r|_=>0
def szR :Ar->Nat
 | []=>0|d::l=>szD d+szR l
def szRs :List (Ar)->Nat
 | []=>0|r::l=>szR r+1+szRs l
end
def wY :Ar->Nat
 | [_,_,_,_,_,.lst c,_]=>szRs c|_=>0
def V6 :Ar->Ar->Prop
 | [.int k,.str t,.str y,.lst a,.str x,.lst c,.bool b],[.int k',.str t',.str y',.lst a',.str x',.lst c']=>∀s:a9,isT s k t y a x c->isT (jO b s) k' t' y' a' x' c'|_,_=>False
def cCpd:=mkC "cpd" [nV,bV] oH [nO] V6
def B0 (t:Nat):Fm->SS->List (So×E):=fun f s=>match lk f t with
 |some (.lst _ e _)=>[(.l,e)]
 |some (.str e)=>[(.s,e)]
 |some (.bool e)=>[(.b,e)]
 |some (.int _ e)=>[(.i,e)]
 |some (.pptr _ L _ _)=>[(.l,L)]
 |some (.sl b _ _ _ _)=>match s.get b with
  |some (.rows e _ _ _)=>[(.l,e)]
  |none=>match lk s.fz b with
   |some r=>[(.l,r.1)]
   |none=>[]
  |_=>[]
 |_=>[]
def gh2 (a b:Fm->SS->List (So×E)):Fm->SS->List (So×E):=fun f s=>a f s++b f s
def svG :SV->List (So×E)
 | .lst _ e _=>[(.l,e)]
 | .str e=>[(.s,e)]
 | .int _ e=>[(.i,e)]
 | .bool e=>[(.b,e)]
 |_=>[]
def OK (b j:Nat)(s:SS):List (So×E):=match s.get b with
 |some (.cells l _ _)=>svG (l.getD j .any)|_=>[]
def V7 (t j:Nat):Fm->SS->List (So×E):=fun f s=>match lk f t with
 |some (.ptr b _ _ _)=>OK b j s|_=>[]
def ghCap (t k j:Nat):Fm->SS->List (So×E):=fun f s=>match lk f t with
 |some (.fn _ _ cs)=>match cs[k]? with
  |some (.ptr b _ _ _)=>OK b j s|_=>[]
 |_=>[]
def nob :Fm->SS->Bb (List (Nat×List G)):=fun _ _=>some []
def O5 (t:Nat)(gs:List G):Fm->SS->Bb (List (Nat×List G)):=fun f _=>match lk f t with
 |some (.ptr b _ _ _)=>some [(b,gs)]|_=>none
def bl2 (a b:Fm->SS->Bb (List (Nat×List G))):Fm->SS->Bb (List (Nat×List G)):=fun f s=>match a f s,b f s with
 |some x,some y=>some (x++y)|_,_=>none
def itrPl (t:Nat):Code->Fm->SS->Bb (List (At×G)×Ah):=fun c f s=>match lk f t with
 |some (.ptr b _ _ _)=>match s.get b with
  |some (.iter e _)=>T6 [(t,.itr e)] nob c f s|_=>none
 |_=>none
def N0 :Ar->Ar->Nat
 | [.str s],.int k::_=>(s.length-k).toNat| .lst L::_,.int k::_=>(L.length-k).toNat|_,_=>0
def qD :Ar->Ar->Prop
 | [.str s],[.int k]=>0<=k/\k<=s.length/\(s.take k.toNat).all jL=true|_,_=>False
def Lu:=N0
def uW :Ar->Ar->Prop
 | [.str s],[.int k]=>0<=k/\k<=s.length/\(s.take k.toNat).all DN=true|_,_=>False
def stMu:=N0
def oB :Ar->Ar->Prop
 | [.lst L],[.int k]=>0<=k/\k<=L.length/\(∀a∈(ats L).take k.toNat,C9 a.n=true/\N9 a.v=true)/\Asc (((ats L).take k.toNat).map Att.n)|_,_=>False
def Cm:=N0
def pY (L:Sx.Rows):List Str:=L.map fun r=>(r.getD 2 (.int 0)).toStr
def kH :Ar->Ar->Prop
 | [.lst L],[.int k]=>0<=k/\k<=L.length/\jT ((pY L).take k.toNat)|_,_=>False
def sY:=N0
def sR :Ar->Ar->Prop
 | [.lst L,.str y],[.int k]=>0<=k/\k<=L.length/\ ∀z∈(pY L).take k.toNat,z≠y|_,_=>False
def KO:=N0
def gW :Ar->Ar->Prop
 | [.lst L,.int lv,.int n,.int d],[.int k,.int n',.int d']=>0<=k/\1<=lv/\lv<=6/\ ∀s:a9,L=[s.row]->k<=s.c.length/\AllAs (s.c.take k.toNat)/\n'=n+a9.sizes (s.c.take k.toNat)/\n'<=64/\d'=max d (lv+a9.depths (s.c.take k.toNat))/\d'<=7/\lv+a9.depths (s.c.take k.toNat)<=6/\lv<=d|_,_=>False
def zA :Ar->Ar->Nat
 | [.lst L,_,_,_],[.int k,_,_]=>((D1 L 0 5).rows.length-k).toNat|_,_=>0
def K1 :Ar->Ar->Prop
 | [.lst C,.bool b],[.int k,.lst D]=>0<=k/\k<=C.length/\D.length=C.length/\ ∀c:List a9,C=rows c->D.take k.toNat=rows (strips b (c.take k.toNat))/\ ∀r∈D,r.length=6|_,_=>False
def Ky:=N0
def cD :Ay->List (Nat×(Fm->SS->K0))
 |161=>[(0,P8 U0 "nm" (T6 [(14,.int .i64)] nob) (B0 0) qD N0)]
 |189=>[(0,P8 U0 "st" (itrPl 10) (B0 0) uW N0)]
 |105=>[(0,P8 U0 "att" (T6 [(103,.int .i64)] nob) (B0 101) oB N0),(2,P8 U0 "kid" (T6 [(142,.int .i64)] nob) (B0 140) kH N0)]
 |186=>[(0,P8 U0 "idx" (T6 [(8,.int .i64)] nob) (gh2 (B0 0) (ghCap 1 0 2)) sR N0)]
 |104=>[(0,P8 U0 "wlk" (T6 [(30,.int .i64)] (bl2 (bl2 (O5 2 [.int .i64]) (O5 3 [.int .i64])) (O5 4 [.keep]))) (gh2 (gh2 (B0 0) (B0 1)) (gh2 (B0 10) (B0 13))) gW zA)]
 |98=>[(0,P8 U0 "cpi" (T6 [(23,.int .i64),(5,.acc 30 6)] nob) (gh2 (B0 21) (B0 1)) K1 N0)]
 |_=>[]
def LVn :Ay:=20
def tB (d:Ar):Prop:=d=[]
def mK:=MU
def bS :Nat->List (Ay×Con)
 |0=>[(LVn,cYes "lives")]
 |1=>[(161,cNamed),(160,cText),(LVn,cYes "lives")]
 |2=>[(105,cAlone),(LVn,cYes "lives")]
 |3=>[(104,cWalk),(LVn,cYes "lives")]
 |_=>[(LVn,cYes "lives")]
def oT (_:Nat)(P:Aw):I9:=[]
