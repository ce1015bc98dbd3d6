/- Trees: what the functions of nodes compute, as contracts.
  Conditions: none. -/
import Derived.Test.YtoegfalhkackeaaGreatRows
import Derived.Test.YtoegfalhkackeaaGreatSm4
set_option maxRecDepth 100000
set_option linter.all false
noncomputable section
namespace Go.D
open Go.Xe Go.Sx
abbrev J6 (a b c d e f:Int)(z:List Dat):List Dat:=.i a::.i b::.i c::.i d::.i e::.i f::z
abbrev J8 (a b c d e f g h:Int)(z:List Dat):List Dat:=.i a::.i b::.i c::.i d::.i e::.i f::.i g::.i h::z
abbrev J10 (a b c d e f g h i j:Int)(z:List Dat):List Dat:=.i a::.i b::.i c::.i d::.i e::.i f::.i g::.i h::.i i::.i j::z
abbrev JE (x:List (List Dat))(a b c d e f g h i j:Int)(y:List (List Dat)):List Dat:=.l x::J10 a b c d e f g h i j [.l y]
abbrev JD (x:List (List Dat))(a b c d e f g h i j:Int)(y z:List (List Dat)):List Dat:=.l x::J10 a b c d e f g h i j [.l y,.l z]
abbrev Nb (x y:Int)(q:Prop):Prop:=Nd (¬x<0)<|Nd (x<y) q
abbrev Nq (x:Int)(q:Prop):Prop:=Ni x<|Nr x q
abbrev Ca {α:Type}(x:α)(f:α→Prop):Prop:=f x
abbrev Cg (p:List Dat→Prop)(r:List Dat→List Dat→Prop)(x:List Dat)(k:(List Dat→Prop)→Prop):Prop:=Nd (p x)<|k<|r x
abbrev Str:=Ae
def mW (b:UInt8):Bool:=decide (97<=b.toNat)&&decide (b.toNat<=122)||decide (48<=b.toNat)&&decide (b.toNat<=57)
def HF (b:UInt8):Bool:=decide (32<=b.toNat)&&decide (b.toNat<=126)
def v5 (s:Str):Bool:=decide (1<=s.length)&&decide (s.length<=16)&&s.all mW
def D7 (s:Str):Bool:=decide (s.length<=64)&&s.all HF
def lt (a b:Str):Bool:=Op.bytesLess a b
structure Att where
 n:Str
 v:Str
def Att.d (a:Att):Ar:=[.s a.n,.s a.v]
def atOf (r:Ar):Att:=⟨(r.getD 0<|.i 0).g,(r.getD 1<|.i 0).g⟩
def ats (L:a8):List Att:=L.map atOf
inductive c8 where
 |mk (k:Int) (t y:Str) (a:List Att) (x:Str) (c:List c8)
namespace c8
def k :c8->Int|mk k _ _ _ _ _=>k
def t :c8->Str|mk _ t _ _ _ _=>t
def y :c8->Str|mk _ _ y _ _ _=>y
def a :c8->List Att|mk _ _ _ a _ _=>a
def x :c8->Str|mk _ _ _ _ x _=>x
def c :c8->List c8|mk _ _ _ _ _ c=>c
mutual
def m :c8->Ar
 |mk k t y a x c=>[.i k,.s t,.s y,.l<|a.map Att.d,.s x,.l<|n c]
def n :List c8->a8
 | []=>[]
 |s::l=>s.m::n l
end
mutual
def h :c8->Nat
 |mk _ _ _ _ _ c=>d c+1
def d :List c8->Nat
 | []=>0|s::l=>s.h+d l
end
mutual
def j :c8->Nat
 |mk _ _ _ _ _ c=>e c+1
def e :List c8->Nat
 | []=>0|s::l=>max s.j<|e l
end
end c8
abbrev rows (l:List c8):a8:=l.map c8.m
def iL (l:List Str):Prop:=l.Pairwise λa b=>b≠ []->a≠b
def Asc (l:List Str):Prop:=l.Pairwise λa b=>lt a b=true
def bN (s:c8):Prop:=(s.k=2/\D7 s.x=true/\s.t=[]/\s.y=[]/\s.a=[]/\s.c=[])\/
 (s.k=1/\v5 s.t=true/\(s.y=[]\/v5 s.y=true)/\s.x=[]/\s.a.length<=8/\s.c.length<=16/\(∀a∈s.a,v5 a.n=true/\D7 a.v=true)/\Asc (s.a.map Att.n)/\iL (s.c.map c8.y))
mutual
def K0 :c8->Prop
 | .mk k t y a x c=>bN (.mk k t y a x c)/\AllAs c
def AllAs :List c8->Prop
 | []=>True|s::l=>K0 s/\AllAs l
end
def A9 (s:c8):Prop:=K0 s/\s.h<=64/\s.j<=6
mutual
def R0 (b:Bool):c8->c8
 | .mk k t y a x c=>.mk k t (if b then y else []) a x<|strips b c
def strips (b:Bool):List c8->List c8
 | []=>[]
 |s::l=>R0 b s::strips b l
end
def isT (s:c8)(k:Int)(t y:Str)(a:a8)(x:Str)(c:a8):Prop:=k=s.k/\t=s.t/\y=s.y/\a=s.a.map Att.d/\x=s.x/\c=rows s.c
def U0 :Ab:=λ_ _=>.i 0
abbrev Pg:=Go.Proofs.Tryz.prog
abbrev kq (c:Con)(a:Ay->List (Nat×(Fm->SS->H6)))(s:List (Ay×Con))(p:Aw->E4)(f:Ay):Prop:=(cvc Pg U0 c<|sxF Pg U0 a (pF Pg U0 s<|p Pg) 400 f).q U0<|λ_=>True
abbrev kr (c:Con)(a:Ay->List (Nat×(Fm->SS->H6)))(s:List (Ay×Con))(p:Aw->E4)(f:Ay):Prop:=(cvr Pg U0 c<|sxF Pg U0 a (pF Pg U0 s<|p Pg) 400 f).q U0<|λ_=>True
def iV :Vs:= .t (.g<|.int .i64)
def uV :Vs:= .t (.g<|.int .u8)
def bV :Vs:= .t (.g .bool)
def sV :Vs:= .t (.g .str)
def tG :List Lf:=[.g (.int .u8),.g .str,.g .str,.g<|.lst 101,.g .str,.g<|.lst 30]
def nV :Vs:= .u tG
def nO :Vs:= .u [.g (.int .u8),.g .str,.g .str,.g<|.acc 101 2,.g .str,.g<|.lst 30]
def cV :Vs:= .t (.g<|.lst 30)
def noB :SV->SS->Bb (Ah):=λ_ _=>some []
def noF :As->SS->Bb (Ah):=λ_ _=>some []
def mkC (n:String)(args:List Vs)(pre:Ar->Prop)(b:List Vs)(a:Ar->Ar->Prop):Con:=⟨n,args,[],noF,pre,b,[],noB,a⟩
def Hs :Ar->Prop
 | [.s _]=>True|_=>False
def bZ:=Hs
def lY:=Hs
def G5 :Ar->Ar->Prop
 | [.s s],[.b b]=>b=v5 s|_,_=>False
def O8 :Ar->Ar->Prop
 | [.s s],[.b b]=>b=D7 s|_,_=>False
def nl:=mkC "named" [sV] bZ [bV] G5
def cText:=mkC "text" [sV] lY [bV] O8
def iS :Ar->Prop
 | [.l L]=>∃s:c8,L=[s.m]
 |_=>False
def B5 :Ar->Ar->Prop
 | [.l L],[.b b]=>∀s:c8,L=[s.m]->(b=true↔bN s)
 |_,_=>False
def np:=mkC "alone" [.t (.g<|.pp 30)] iS [bV] B5
def Good (s:c8)(a n:Int):Prop:=K0 s/\a+s.j<=7/\n+s.h<=64
def bH :Ar->Prop
 | [.l L,.i a,.i n,.i d]=>(∃s:c8,L=[s.m])/\1<=a/\a<=7/\0<=n/\n<=64/\0<=d/\d<=7|_=>False
def kL :Ar->Nat
 | [_,.i a,_,_]=>(8-a).toNat|_=>0
def I9 :Ar->Ar->Prop
 | [.l L,.i e,.i n,.i d],[.b b,.i c,.i a]=>0<=c/\c<=65/\0<=a/\a<=7/\ ∀s:c8,L=[s.m]->(b=true↔Good s e n)/\(b=true->c=n+s.h/\a=max d (e+s.j-1))|_,_=>False
def UY :List cJ:=[(3,1,[.g (.int .i64)]),(3,1,[.g (.int .i64)]),(167,1,[.clo 104 [(0,1),(1,1),(2,1)]])]
def walkF :As->SS->Bb (Ah):=λargs s=>match args with
 | [_,_,.g a _ _ _,.g b _ _ _,.g c _ _ _]=>some [a,b,c]|_=>none
def oh :Con:=⟨ "walk",[.t (.g<|.pp 30),iV,.t<|.ptr 0 1,.t<|.ptr 1 1,.t<|.ptr 2 1],UY,walkF,bH,[bV],UY,noB,I9⟩
def uL :Ar->Prop
 | [.i k,.s t,.s y,.l a,.s x,.l c]=>∃s:c8,isT s k t y a x c|_=>False
def V5:=uL
def M6 :Ar->Ar->Prop
 | [.i k,.s t,.s y,.l a,.s x,.l c],[.i n]=>∀s:c8,isT s k t y a x c->(n=0↔A9 s)/\(n=0\/n=14)|_,_=>False
def gz:=mkC "chk" [nV] V5 [iV] M6
def rK :Ar->Prop
 | [.i k,.s t,.s y,.l a,.s x,.l c,.b _]=>∃s:c8,isT s k t y a x c/\K0 s|_=>False
mutual
def szD :Dat->Nat
 | .l r=>szRs r|_=>0
def szR :Ar->Nat
 | []=>0|d::l=>szD d+szR l
def szRs :List (Ar)->Nat
 | []=>0|r::l=>szR r+1+szRs l
end
def BW :Ar->Nat
 | [_,_,_,_,_,.l c,_]=>szRs c|_=>0
def aH :Ar->Ar->Prop
 | [.i k,.s t,.s y,.l a,.s x,.l c,.b b],[.i f,.s g,.s j,.l d,.s h,.l e]=>∀s:c8,isT s k t y a x c->isT (R0 b s) f g j d h e|_,_=>False
def cCpd:=mkC "cpd" [nV,bV] rK [nO] aH
def m9 (t:Nat):Fm->SS->List (So×E):=λf s=>match lk f t with
 |some (.m _ e _)=>[(.l,e)]
 |some (.p e)=>[(.s,e)]
 |some (.j e)=>[(.b,e)]
 |some (.f _ e)=>[(.i,e)]
 |some (.B _ L _ _)=>[(.l,L)]
 |some (.z b _ _ _ _)=>match s.f b with
  |some (.g e _ _ _)=>[(.l,e)]
  |none=>match lk s.r b with
   |some r=>[(.l,r.1)]
   |none=>[]
  |_=>[]
 |_=>[]
def gh2 (a b:Fm->SS->List (So×E)):Fm->SS->List (So×E):=λf s=>a f s++b f s
def svG :SV->List (So×E)
 | .m _ e _=>[(.l,e)]
 | .p e=>[(.s,e)]
 | .f _ e=>[(.i,e)]
 | .j e=>[(.b,e)]
 |_=>[]
def Ut (b j:Nat)(s:SS):List (So×E):=match s.f b with
 |some (.f l _ _)=>svG<|l.getD j .r|_=>[]
def l8 (t j:Nat):Fm->SS->List (So×E):=λf s=>match lk f t with
 |some (.g b _ _ _)=>Ut b j s|_=>[]
def ghCap (t k j:Nat):Fm->SS->List (So×E):=λf s=>match lk f t with
 |some (.H _ _ a)=>match a[k]? with
  |some (.g b _ _ _)=>Ut b j s|_=>[]
 |_=>[]
def nob :Fm->SS->Bb (List<|Nat×List G):=λ_ _=>some []
def G9 (t:Nat)(a:List G):Fm->SS->Bb (List<|Nat×List G):=λf _=>match lk f t with
 |some (.g b _ _ _)=>some [(b,a)]|_=>none
def bl2 (a b:Fm->SS->Bb (List<|Nat×List G)):Fm->SS->Bb (List<|Nat×List G):=λf s=>match a f s,b f s with
 |some x,some y=>some<|x++y|_,_=>none
def itrPl (t:Nat):Code->Fm->SS->Bb (List (At×G)×Ah):=λc f s=>match lk f t with
 |some (.g b _ _ _)=>match s.f b with
  |some (.j e _)=>F7 [(t,.itr e)] nob c f s|_=>none
 |_=>none
def B2 :Ar->Ar->Nat
 | [.s s],.i k::_=>(s.length-k).toNat| .l L::_,.i k::_=>(L.length-k).toNat|_,_=>0
def uC :Ar->Ar->Prop
 | [.s s],[.i k]=>0<=k/\k<=s.length/\(s.take k.toNat).all mW=true|_,_=>False
def Qr:=B2
def AI :Ar->Ar->Prop
 | [.s s],[.i k]=>0<=k/\k<=s.length/\(s.take k.toNat).all HF=true|_,_=>False
def stMu:=B2
def rD :Ar->Ar->Prop
 | [.l L],[.i k]=>0<=k/\k<=L.length/\(∀a∈(ats L).take k.toNat,v5 a.n=true/\D7 a.v=true)/\Asc (((ats L).take k.toNat).map Att.n)|_,_=>False
def FY:=B2
def pN (L:a8):List Str:=L.map λr=>(r.getD 2<|.i 0).g
def nQ :Ar->Ar->Prop
 | [.l L],[.i k]=>0<=k/\k<=L.length/\iL ((pN L).take k.toNat)|_,_=>False
def xS:=B2
def xN :Ar->Ar->Prop
 | [.l L,.s y],[.i k]=>0<=k/\k<=L.length/\ ∀z∈(pN L).take k.toNat,z≠y|_,_=>False
def PL:=B2
def kM :Ar->Ar->Prop
 | [.l L,.i a,.i n,.i d],[.i k,.i e,.i b]=>0<=k/\1<=a/\a<=6/\ ∀s:c8,L=[s.m]->k<=s.c.length/\AllAs (s.c.take k.toNat)/\e=n+c8.d (s.c.take k.toNat)/\e<=64/\b=max d (a+c8.e (s.c.take k.toNat))/\b<=7/\a+c8.e (s.c.take k.toNat)<=6/\a<=d|_,_=>False
def CX :Ar->Ar->Nat
 | [.l L,_,_,_],[.i k,_,_]=>((A7 L 0 5).m.length-k).toNat|_,_=>0
def P2 :Ar->Ar->Prop
 | [.l C,.b b],[.i k,.l D]=>0<=k/\k<=C.length/\D.length=C.length/\ ∀c:List c8,C=rows c->D.take k.toNat=rows (strips b<|c.take k.toNat)/\ ∀r∈D,r.length=6|_,_=>False
def Pn:=B2
def eD :Ay->List (Nat×(Fm->SS->H6))
 |161=>[(0,E1 U0 "nm" (F7 [(14,.int .i64)] nob) (m9 0) uC B2)]
 |189=>[(0,E1 U0 "st" (itrPl 10) (m9 0) AI B2)]
 |105=>[(0,E1 U0 "att" (F7 [(103,.int .i64)] nob) (m9 101) rD B2),(2,E1 U0 "kid" (F7 [(142,.int .i64)] nob) (m9 140) nQ B2)]
 |186=>[(0,E1 U0 "idx" (F7 [(8,.int .i64)] nob) (gh2 (m9 0)<|ghCap 1 0 2) xN B2)]
 |104=>[(0,E1 U0 "wlk" (F7 [(30,.int .i64)]<|bl2 (bl2 (G9 2 [.int .i64])<|G9 3 [.int .i64])<|G9 4 [.keep]) (gh2 (gh2 (m9 0)<|m9 1)<|gh2 (m9 10)<|m9 13) kM CX)]
 |98=>[(0,E1 U0 "cpi" (F7 [(23,.int .i64),(5,.acc 30 6)] nob) (gh2 (m9 21)<|m9 1) P2 B2)]
 |_=>[]
def LVn :Ay:=20
def PZ (d:Ar):Prop:=d=[]
def GE:=Ss
def dX :Nat->List (Ay×Con)
 |0=>[(LVn,dk "lives")]
 |1=>[(161,nl),(160,cText),(LVn,dk "lives")]
 |2=>[(105,np),(LVn,dk "lives")]
 |3=>[(104,oh),(LVn,dk "lives")]
 |_=>[(LVn,dk "lives")]
def sD (_:Nat)(P:Aw):E4:=[]
open Go Go.Xe Go.Sx
structure Nod where
 j:Int
 o:Str
 d:List Att
 m:Str
 t:Int
 r:Int
 u:Bool
 h:Int
 e:Ah
structure Sl where
 g:Nat
 d:Bool
 n:Nod
structure DM where
 L:List Sl
 h:Ah
 C:Ak
def DM.d (D:DM)(i:Nat):Nat:=match D.L[i]? with
 |some s=>s.g|none=>0
def DM.m (D:DM)(i g:Int):Ai:=if 0<=i then match D.L[i.toNat]? with
  |some s=>if s.d=true/\(s.g:Int)=g then some i.toNat else none
  |none=>none
 else none
structure RS where
 g:Int
 u:Bool
 e:Int
 p:Int
def RS.d (r:RS):Ar:=[.i r.g,.b r.u,.i r.e,.i r.p]
structure RN where
 n:Int
 o:Str
 a:a8
 h:Str
 j:Int
 e:Int
 m:Bool
 t:Int
 r:Int
 c:a8
def RN.d (r:RN):Ar:=[.i r.n,.s r.o,.l r.a,.s r.h,.i r.j,.i r.e,.b r.m,.i r.t,.i r.r,.l r.c]
def D4 (G:Nat->Nat)(j:Nat):Ar:=[.i j,.i<|G j]
def hI (p:Int):Int:=if p<0 then 0 else p
def hG' (G:Nat->Nat)(p:Int):Int:=if p<0 then 0 else(G p.toNat:Int)
def Nod.n (G:Nat->Nat)(n:Nod):RN:=⟨n.j,n.o,n.d.map Att.d,n.m,n.t,n.r,n.u,hI n.h,hG' G n.h,n.e.map<|D4 G⟩
def Ch (T:List RS):Int->Ah->Prop
 |fr,[]=>fr=0|fr,i::l=>fr=i+1/\ ∃r,T[i]? =some r/\r.u=false/\Ch T r.e l
structure RlT (G:Nat->Nat)(D:DM)(T:List RS)(M:List RN)(fr w:Int):Prop where
 h:T.length=D.L.length
 m:∀(i:Nat) s,D.L[i]? =some s-> ∃r,T[i]? =some r/\r.g=s.g/\r.u=s.d/\(s.d=true->0<=r.p/\M[r.p.toNat]? =some (s.n.n G))
 o:∀(i j:Nat) ri rj,T[i]? =some ri->T[j]? =some rj->ri.u=true->rj.u=true->ri.p=rj.p->i=j
 d:Ch T fr D.h
 e:D.h.Nodup
 v:∀(i:Nat) s,D.L[i]? =some s->s.d=false->i∈D.h
 w:w=(D.L.countP (·.d):Int)
def Rl (G:Nat->Nat)(D:DM)(S N:a8)(fr a:Int):Prop:=∃T M,S=T.map RS.d/\N=M.map RN.d/\RlT G D T M fr a
structure WF (D:DM)(K:Nat):Prop where
 m:D.L.length<=K/\K<=1000
 J:∀s∈D.L,1<=s.g/\s.g<=K+1
 u:∀(i:Nat) s,D.L[i]? =some s->s.d=true->s.n.h= -1\/ ∃(p:Nat) (sp:Sl),s.n.h=p/\D.L[p]? =some sp/\sp.d=true/\i∈sp.n.e
 A:∀(i:Nat) s,D.L[i]? =some s->s.d=true->s.n.e.Nodup/\ ∀j∈s.n.e,∃sj,D.L[j]? =some sj/\sj.d=true/\sj.n.h=i
 B:∃r:Nat->Nat,(∀i,r i<=K)/\ ∀(i:Nat) s,D.L[i]? =some s->s.d=true-> ∀j∈s.n.e,r i<r j
 w:∀(i:Nat) s,D.L[i]? =some s->s.d=true->s.n.d.length<=8/\(∀a∈s.n.d,v5 a.n=true/\D7 a.v=true)/\Asc (s.n.d.map Att.n)
 P:∃a b c d e f h:Int,D.C=[(D.L.countP (·.d):Int),a,b,c,d,e,f,h]/\a=D.L.countP (·.d)+b/\0<=b/\(∀x∈ [a,b,c,d,e,f,h],0<=x/\x<=K)
 O:∀(i:Nat) s,D.L[i]? =some s->s.d=true->(s.n.j=1\/s.n.j=2)/\(s.n.j=2->s.n.e=[]/\s.n.d=[])
 t:D.h.Nodup/\ ∀i∈D.h,∃s,D.L[i]? =some s/\s.d=false
def z9 (S:a8)(i g:Int):Bool:=decide (0<=i)&&decide (i<S.length)&&(A7 S i 1).f&&decide ((A7 S i 0).j=g)
def atF (S:a8)(i g:Int):Int:=if z9 S i g=true then(A7 S i 3).j else-1
section
variable {G :Nat->Nat}{D:DM}{S N:a8}{fr lv i g:Int}{T:List RS}{M:List RN}{K:Nat}
def RlT.t (h:RlT G D T M fr lv){i:Nat}{r:RS}(c:T[i]? =some r):∃s,D.L[i]? =some s/\r.g=s.g/\r.u=s.d/\(s.d=true->0<=r.p/\M[r.p.toNat]? =some (s.n.n G)):=by
 have b:i<D.L.length:=by rw[<-h.h];exact(WM.1 c).1
 obtain⟨e,a,d⟩:=h.m i _<|WV b;rw[c]at a;cases a;exact⟨_,WV b,d⟩
def RlT.B (h:RlT G D T M fr lv):z9 (T.map RS.d) i g=true↔ ∃k,D.m i g=some k:=by
 unfold z9 DM.m;by_cases a:0<=i
 .rw[Xg a];cases c:D.L[i.toNat]? with
  |none=>
   have:T.length<=i.toNat:=by rw[h.h];exact List.getElem?_eq_none_iff.1 c
   simp;omega
  |some s=>
   obtain⟨r,b,d,e,_⟩:=h.m _ s c;have f:i<(T.length:Int):=by have:=(WM.1 b).1;omega
   rw[d9 b,d9 b];simp[RS.d,a,f,Dat.f,Dat.j,d,e]
 simp[a]
def RlT.z (h:RlT G D T M fr lv){k:Nat}(a:D.m i g=some k):∃s r,i=k/\D.L[k]? =some s/\s.d=true/\(s.g:Int)=g/\T[k]? =some r/\atF (T.map RS.d) i g=r.p/\0<=r.p/\M[r.p.toNat]? =some (s.n.n G):=by have hv:=h.B.2 ⟨k,a⟩;unfold DM.m at a;split at a;split at a;rename_i l s d;split at a;rename_i b;cases a;obtain⟨r,c,m,o,e⟩:=h.m _ s d;obtain⟨f,j⟩:=e b.1;exact⟨s,r,by omega,d,b.1,b.2,c,by unfold atF;rw[Xg hv,d9 c];rfl,f,j⟩;cases a;cases a;cases a
def Y5 {b:Type}{f:b->Ar}{T:List b}{i:Int}{j:Nat}{d:Dat}(q:b->b)(h:∀a,(f a).set j d=f (q a)):a9 (T.map f) i j d=(T.modify i.toNat q).map f:=by
 unfold a9;apply List.ext_getElem?;intro k;simp only[List.getElem?_modify,XQ];cases T[k]? with
 |none=>simp|some a=>by_cases e:i.toNat=k<;>simp[e,h]
end
abbrev RK :Ax:=93
abbrev tNd :Ax:=130
abbrev Mx :Ax:=214
abbrev My :Ax:=216
abbrev tHd :Ax:=34
abbrev vC :Ax:=101
def hL :List Lf:=[.g (.int .u32),.g<|.int .u32]
def hV :Vs:= .u hL
def dV :Vs:= .t (.ptr 0 13)
def Pr :List Lf:=[.g (.acc Mx 4),.g<|.int .i64,.g<|.int .i64,.g<|.int .i64,.g<|.int .i64,.g<|.int .i64,.g<|.int .i64,.g<|.int .i64,.g<|.int .i64,.g<|.int .i64,.g<|.int .i64,.cst .bool<|.bool false,.g<|.lst My]
def uU :List cJ:=[(RK,13,Pr),(tNd,10,[.g (.rgl 10)])]
def Gk :As->SS->Bb (Ah):=λargs s=>match args with
 | .g b _ _ _::_=>match rgB s with
  |some r=>some [b,r]|none=>none
 |_=>none
def dmB :List cJ:=[(RK,13,Pr)]
def dmF :As->SS->Bb (Ah):=λargs s=>match args with
 | .g b _ _ _::_=>some [b]|_=>none
def rgB1 :List cJ:=[(tNd,10,[.g (.rgl 10)])]
def rgF :As->SS->Bb (Ah):=λargs s=>match rgB s with
 |some r=>some [r]|none=>none
def mkD (n:String)(args:List Vs)(pre:Ar->Prop)(b:List Vs)(a:Ar->Ar->Prop):Con:=⟨n,dV::args,uU,Gk,pre,b,uU,noB,a⟩
def mkR (n:String)(args:List Vs)(a:List cJ)(b:As->SS->Bb (Ah))(pre:Ar->Prop)(d:List Vs)(c:Ar->Ar->Prop):Con:=⟨n,args,a,b,pre,d,[],noB,c⟩
def U32 (x:Int):Prop:=0<=x/\x<4294967296
def y8 :Ar->Prop
 | .i i:: .i g:: .l S::_=>U32 i/\U32 g/\S.length<=1000|_=>False
def y7 :Ar->Ar->Prop
 | .i i:: .i g:: .l S::_,[.i p]=>p=atF S i g|_,_=>False
def L7:=y8
def H4 :Ar->Ar->Prop
 | .i i:: .i g:: .l S::_,[.b b]=>b=z9 S i g|_,_=>False
def ixF :a8->Int->Int->Int->Int
 | [],_,_,_=> -1|r::C,i,g,k=>if(r.getD 0<|.i 0).j=i/\(r.getD 1<|.i 0).j=g then k else ixF C i g (k+1)
def plF (C:a8)(i g:Int):Int:=if i=0/\g=0 then C.length else ixF C i g 0
def U1 :Ar->Prop
 | [.i p,.i i,.i g,.l N]=>U32 i/\U32 g/\0<=p/\p<N.length/\(cL N p 9).length<=1000|_=>False
def R3 :Ar->Ar->Prop
 | [.i p,.i i,.i g,.l N],[.i r]=>r=plF (cL N p 9) i g|_,_=>False
def RlE (D:DM)(S N:a8):Prop:=∃fr a,Rl D.d D S N fr a
inductive Abv (D:DM)(a:Nat):Nat->Prop
 |z:Abv D a a
 |B (b p:Nat) (s:Sl) (h:D.L[b]? =some s) (hp:s.n.h=p) (k:Abv D a p):Abv D a b
def It :Ar->Prop
 | [.i i,.i g,.i j,.i k,.l S,.i fr,.i c,.i _,.i _,.i _,.i _,.i _,.i _,.i _,.i _,.l _,.l N]=>U32 i/\U32 g/\U32 j/\U32 k/\ ∃D K a b,Rl D.d D S N fr c/\WF D K/\D.m i g=some a/\D.m j k=some b|_=>False
def Iu :Ar->Ar->Prop
 | [.i i,.i g,.i j,.i k,.l S,.i fr,.i c,.i _,.i _,.i _,.i _,.i _,.i _,.i _,.i _,.l _,.l N],[.b r]=>∀D K a b,Rl D.d D S N fr c->WF D K->D.m i g=some a->D.m j k=some b->(r=true↔Abv D a b)
 |_,_=>False
def cAt:=mkR "at" [dV,hV] dmB dmF y8 [.t (.g .rpt)] y7
def cVld:=mkR "vld" [dV,hV] dmB dmF L7 [bV] H4
def cPlc:=mkR "plc" [.t (.g .rpt),hV] rgB1 rgF U1 [iV] R3
def cAbo:=mkR "abo" [dV,hV,hV] uU Gk It [bV] Iu
def jF :Ar->Ar->Prop
 | [.l C,.i i,.i g],[.i k]=>0<=k/\k<=C.length/\ixF C i g 0=ixF (C.drop k.toNat) i g k|_,_=>False
def Ci:=B2
def upC (S N:a8):Nat->Int->Int->Nat
 |0,_,_=>0|f+1,x,y=>if x=0/\y=0 then 0 else upC S N f (cI N (atF S x y) 7) (cI N (atF S x y) 8)+1
def Dm :Ar->Ar->Prop
 | [.l S,.l N,.i i,.i g,.i j,.i k],[.i x,.i y]=>U32 x/\U32 y/\ ∀D K a b,RlE D S N->WF D K->D.m i g=some a->D.m j k=some b->(x=0/\y=0/\ ¬Abv D a b)\/ ∃c,D.m x y=some c/\(Abv D a b↔Abv D a c)|_,_=>False
def Ov :Ar->Ar->Nat
 | [.l S,.l N,_,_,_,_],[.i x,.i y]=>upC S N 1002 x y|_,_=>0
def slG (v:SV)(s:SS):List (So×E):=match v with
 | .z b _ _ _ _=>match s.f b with
  |some (.g e _ _ _)=>[(.l,e)]
  |_=>[]
 | .m _ e _=>[(.l,e)]
 | .q=>[(.l,.C .p [])]
 |_=>[]
def AG (t:Nat):Fm->SS->List (So×E):=λf s=>match lk f t with
 |some (.g b _ _ _)=>match s.f b with
  |some (.f (c::_) _ _)=>slG c s|_=>[]
 |_=>[]
def sB :Fm->SS->List (So×E):=λ_ s=>match rgB s with
 |some r=>match s.f r with
  |some (.m _ L _)=>[(.l,L)]
  |_=>[]
 |none=>[]
def hdT (t:Nat):Fm->SS->List (So×E):=λf s=>match lk f t with
 |some (.w [.f _ i,.f _ g])=>[(.i,i),(.i,g)]
 |_=>[]
def aQ :Ay->List (Nat×(Fm->SS->H6))
 |117=>[(0,E1 U0 "hix" (F7 [(8,.int .i64)] nob) (gh2 (m9 0)<|gh2 (l8 3 0)<|l8 3 1) jF B2)]
 |69=>[(0,E1 U0 "abv" (F7 []<|G9 5 [.int .u32,.int .u32]) (gh2 (gh2 (AG 0) sB)<|gh2 (hdT 1)<|hdT 2) Dm Ov)]
 |_=>[]
def EZ :Nat->List (Ay×Con)
 |_=>[(LVn,dk "lives")]
def yX :Nat->Aw->E4
 |0,_=>[]
 |_,P=>[(68,kro P U0 cAt)]
open Go Go.Xe Go.Sx
def vcAt :Prop:=
 ∀a c b d f g h j k l m o p q,y8 (.i a::.i c::JE b d f g h j k l m o p q)->Nd ((¬a<0)/\a<18446744073709551616) (Nd ((¬ln b<0)/\ln b<18446744073709551616)<|(a<ln b->Nd (¬a<0) (Nd (a<ln b)<|Nd (a<ln b)<|(cB b a 1=true->Nd (a<ln b) ((cI b a 0=c->Nd (a<ln b) (Nd (y7 (.i a::.i c::JE b d f g h j k l m o p q) [.i (cI b a 3)]) True))/\(¬cI b a 0=c->Nd (y7 (.i a::.i c::JE b d f g h j k l m o p q) [.i (-1)]) True)))/\(¬cB b a 1=true->Nd (y7 (.i a::.i c::JE b d f g h j k l m o p q) [.i (-1)]) True)))/\(¬a<ln b->Nd (y7 (.i a::.i c::JE b d f g h j k l m o p q) [.i (-1)]) True))
def vcAt_eq :kr cAt aQ (EZ 0) (yX 0) 68=vcAt:=by kernel_rfl
def ru :Prop:=
 ∀a d c f g h j k l m o p q r,L7 (.i a::.i d::JE c f g h j k l m o p q r)->Nd ((¬a<0)/\a<18446744073709551616) (Nd ((¬ln c<0)/\ln c<18446744073709551616)<|(a<ln c->Nd (¬a<0) (Nd (a<ln c)<|Nd (a<ln c)<|(cB c a 1=true->Nd (a<ln c) ((cI c a 0=d->Nd (H4 (.i a::.i d::JE c f g h j k l m o p q r) [.b true]) True)/\(¬cI c a 0=d->Nd (H4 (.i a::.i d::JE c f g h j k l m o p q r) [.b false]) True)))/\(¬cB c a 1=true->Nd (H4 (.i a::.i d::JE c f g h j k l m o p q r) [.b false]) True)))/\(¬a<ln c->Nd (H4 (.i a::.i d::JE c f g h j k l m o p q r) [.b false]) True))
def rq :kr cVld aQ (EZ 0) (yX 0) 97=ru:=by kernel_rfl
def jk (a:Int)(b:a8)(c d f:Int):Prop:=
 Nd (I64<|a+1)<|Nd (jF [.l (cL b c 9),.i d,.i f] [.i (a+1)])<|Nd (Ci [.l (cL b c 9),.i d,.i f] [.i (a+1)]<Ci [.l (cL b c 9),.i d,.i f] [.i a]) True
def jj (a:Int)(b:a8)(d f:Int):Prop:=
 Nd (¬a<0)<|Nd (a<ln b)<|Nd (jF [.l (cL b a 9),.i d,.i f] [.i 0])<|∀c,jF [.l (cL b a 9),.i d,.i f] [.i c]->((c<ln (cL b a 9)->Nd (¬c<0) (Nd (c<ln (cL b a 9))<|(d=cI (cL b a 9) c 0->((f=cI (cL b a 9) c 1->Nd (R3 [.i a,.i d,.i f,.l b] [.i c]) True)/\(¬f=cI (cL b a 9) c 1->jk c b a d f)))/\(¬d=cI (cL b a 9) c 0->jk c b a d f)))/\(¬c<ln (cL b a 9)->Nd (R3 [.i a,.i d,.i f,.l b] [.i (-1)]) True))
def xe :Prop:=
 ∀a b c d,U1 [.i a,.i b,.i c,.l d]->((b=0->((c=0->Nd (¬a<0) (Nd (a<ln d)<|Nd (R3 [.i a,.i b,.i c,.l d] [.i (ln<|cL d a 9)]) True))/\(¬c=0->jj a d b c)))/\(¬b=0->jj a d b c))
def xc :kr cPlc aQ (EZ 0) (yX 0) 71=xe:=by kernel_rfl
def lc (a c d f:Int)(g:a8)(h j k l m o p q r s:Int)(t u:a8)(v w:Int):Prop:=
 Nd (Iu (.i a::.i c::.i d::.i f::JD g h j k l m o p q r s t u) [.b (decide (v=a)&&decide (w=c))]) True
def kz (b:a8)(d f m o p q r s t u v w:Int)(x a:a8)(g h j k:Int):Prop:=
 Ni (ln b)<|Nr (ln b)<|Nd (y8<|.i d::.i f::JE b m o p q r s t u v w x)<|∀c,y7 (.i d::.i f::JE b m o p q r s t u v w x) [.i c]->Nd (¬c<0) (Nd (c<ln a)<|Nd (Dm [.l b,.l a,.i g,.i h,.i j,.i k] [.i (cI a c 7),.i<|cI a c 8])<|Nd (Ov [.l b,.l a,.i g,.i h,.i j,.i k] [.i (cI a c 7),.i<|cI a c 8]<Ov [.l b,.l a,.i g,.i h,.i j,.i k] [.i d,.i f]) True)
def ft (a b c d f g:Int)(h:a8)(i j k l m o p q r s:Int)(t u:a8):Prop:=
 (a=b->((c=d->lc b d f g h i j k l m o p q r s t u a c)/\(¬c=d->kz h a c i j k l m o p q r s t u b d f g)))/\(¬a=b->kz h a c i j k l m o p q r s t u b d f g)
def vcAbo :Prop:=
 ∀c d a b f k m o p q r s t u v w g,It (.i c::.i d::.i a::.i b::JD f k m o p q r s t u v w g)->Nd (Dm [.l f,.l g,.i c,.i d,.i a,.i b] [.i a,.i b]) (∀h j,Dm [.l f,.l g,.i c,.i d,.i a,.i b] [.i h,.i j]->((h=0->((j=0->lc c d a b f k m o p q r s t u v w g h j)/\(¬j=0->ft h c j d a b f k m o p q r s t u v w g)))/\(¬h=0->ft h c j d a b f k m o p q r s t u v w g)))
def vcAbo_eq :kr cAbo aQ (EZ 1) (yX 1) 69=vcAbo:=by kernel_rfl
def vcAt_ok :vcAt:=by unfold vcAt;intro i g S _ _ _ _ _ _ _ _ _ _ _ h;obtain⟨d,e,f⟩:=h;obtain⟨d,j⟩:=d;simp only[Nd,y7,atF,z9,yO,yN,Yf,Yo,Yk,XE,ln];refine⟨⟨by omega,by omega⟩,λ_=>⟨⟨by omega,by omega⟩,λ_=>⟨λa=>⟨by omega,λ_=>⟨a,λ_=>⟨λb=>⟨a,λ_=>⟨λc=>⟨a,?_⟩,λc=>?_⟩⟩,λb=>?_⟩⟩⟩,λa=>?_⟩⟩⟩;simp only[cB]at b;simp[d,a,b,c];simp only[cI]at c;simp[c];simp only[cB]at b;simp[b];simp[a]
def rm :ru:=by unfold ru;intro i g S _ _ _ _ _ _ _ _ _ _ _ h;obtain⟨d,e,f⟩:=h;obtain⟨d,j⟩:=d;simp only[Nd,H4,z9,yO,yN,Yf,Yo,Yk,XE,ln];refine⟨⟨by omega,by omega⟩,λ_=>⟨⟨by omega,by omega⟩,λ_=>⟨λa=>⟨by omega,λ_=>⟨a,λ_=>⟨λb=>⟨a,λ_=>⟨λc=>?_,λc=>?_⟩⟩,λb=>?_⟩⟩⟩,λa=>?_⟩⟩⟩;simp only[cB]at b;simp[d,a,b,c];simp only[cI]at c;simp[c];simp only[cB]at b;simp[b];simp[a]
def Lt {i g:Int}:∀ {C:a8} {k:Int},C=[]->ixF C i g k= -1
 |_,_,rfl=>rfl
def eI {C:a8}{k:Int}(a:0<=k)(b:k<C.length):∃r,C.drop k.toNat=r::C.drop (k+1).toNat/\ ∀j,A7 C k j=r.getD j (.i 0):=by have h:C[k.toNat]? =some (C[k.toNat]'(by omega)):=WV (by omega);refine⟨_,by rw[Lg h,gT a],λj=>?_⟩;unfold A7;rw[Xp (l:=C),h];rfl
def jG {r:Ar}{C:a8}{i g k:Int}:ixF (r::C) i g k=if(r.getD 0<|.i 0).j=i/\(r.getD 1<|.i 0).j=g then k else ixF C i g (k+1):=rfl
def xb :xe:=by
 unfold xe;intro p i g N h;obtain⟨A,z,x,u,y⟩:=h;have j:jj p N i g\/(i=0/\g=0):=by
  by_cases e:i=0/\g=0;exact .inr e
  .left;have d:plF (cL N p 9) i g=ixF (cL N p 9) i g 0:=by unfold plF;rw[Xd e]
   unfold jj;refine⟨by omega,λ_=>⟨u,λ_=>⟨⟨by omega,by omega,by simp⟩,λ_ k w=>?_⟩⟩⟩;obtain⟨v,B,q⟩:=w;have l:∀c:k<ln (cL N p 9),(¬i=cI (cL N p 9) k 0\/ ¬g=cI (cL N p 9) k 1)->jk k N p i g:=by intro c f;have c:k<((cL N p 9).length:Int):=c;obtain⟨r,s,t⟩:=eI v c;unfold jk;refine⟨⟨by omega,by omega⟩,λ_=>⟨⟨by omega,by omega,?_⟩,λ_=>⟨?_,λ_=>trivial⟩⟩⟩;rw[q,s];simp only[cI,t]at f;rw[jG,Xd (by rintro ⟨a,b⟩;rcases f with h|h;exact h a.symm;exact h b.symm)];simp only[Ci,B2];omega
   refine⟨λc=>⟨by omega,λ_=>⟨c,λ_=>⟨λm=>⟨λn=>⟨?_,λ_=>trivial⟩,λn=>l c<|.inr n⟩,λm=>l c<|.inl m⟩⟩⟩,λc=>⟨?_,λ_=>trivial⟩⟩;show k=_;obtain⟨r,s,t⟩:=eI v c;simp only[cI,t]at m n;rw[d,q,s];rw[jG,Xg ⟨m.symm,n.symm⟩];have c:¬k<((cL N p 9).length:Int):=c;show(-1:Int)=_;rw[d,q,Lt<|List.drop_eq_nil_of_le<|by omega]
 refine⟨λo=>⟨λd=>⟨by omega,λ_=>⟨u,λ_=>⟨?_,λ_=>trivial⟩⟩⟩,λd=>j.resolve_right λh=>d h.2⟩,λo=>j.resolve_right λh=>o h.1⟩;show _=plF _ _ _;unfold plF;rw[Xg ⟨o,d⟩]
section
variable {D :DM}{S N:a8}{fr Z i g x y:Int}{K a b c p:Nat}
def Rl.j {G:Nat->Nat}(h:Rl G D S N fr Z)(l:D.m x y=some c):∃s,D.L[c]? =some s/\x=c/\s.d=true/\(s.g:Int)=y/\0<=atF S x y/\atF S x y<N.length/\ ∀j,A7 N (atF S x y) j=(s.n.n G).d.getD j (.i 0):=by obtain⟨T,M,rfl,rfl,h⟩:=h;obtain⟨s,r,b,d,e,f,m,k,o,a⟩:=h.z l;have:=(WM.1 a).1;refine⟨s,d,b,e,f,by omega,by rw[Xc];omega,λj=>?_⟩;rw[k,d9 a]
def DM.J {s:Sl}(a:D.L[c]? =some s)(b:s.d=true):D.m c (D.d c)=some c:=by unfold DM.m DM.d;simp[a,b]
def YY:type_of% @DM.J:=@DM.J
def DM.B (h:D.m x y=some c):∃s,D.L[c]? =some s/\s.d=true/\x=c/\y=s.g:=by unfold DM.m at h;split at h;split at h;rename_i d s b;split at h;rename_i a;cases h;exact⟨s,b,a.1,by omega,a.2.symm⟩;cases h;cases h;cases h
def YX:type_of% @DM.B:=@DM.B
def WF.H (w:WF D K)(h:D.m x y=some c):U32 x/\U32 y/\1<=y:=by obtain⟨s,a,b,rfl,rfl⟩:=YX h;have:=w.m;have:=w.J s<|WT a;have:=(WM.1 a).1;unfold U32;omega
def MA (h:Rl D.d D S N fr Z)(w:WF D K)(q:D.m x y=some c):∃s,D.L[c]? =some s/\s.d=true/\0<=atF S x y/\atF S x y<N.length/\((s.n.h= -1/\cI N (atF S x y) 7=0/\cI N (atF S x y) 8=0)\/ ∃p:Nat,s.n.h=p/\D.m (cI N (atF S x y) 7) (cI N (atF S x y) 8)=some p/\ ∃a,D.L[p]? =some a/\a.d=true/\c∈a.n.e):=by
 obtain⟨s,d,r,f,t,m,o,g⟩:=h.j q;have k:cI N (atF S x y) 7=hI s.n.h:=by unfold cI;rw[g];rfl
 have l:cI N (atF S x y) 8=hG' D.d s.n.h:=by unfold cI;rw[g];rfl
 refine⟨s,d,f,m,o,?_⟩;rw[k,l];rcases w.u c s d f with e| ⟨p,a,e,i,j,b⟩;rw[e];exact .inl ⟨rfl,rfl,rfl⟩
 .refine .inr ⟨p,e,?_,a,i,j,b⟩;rw[e];have:hI (p:Int)=p:=by unfold hI;rw[af]
  rw[this];have:hG' D.d (p:Int)=D.d p:=by unfold hG';rw[af];rfl
  rw[this];exact YY i j
def RR (h:Rl D.d D S N fr Z)(w:WF D K){r:Nat->Nat}(u:∀(i:Nat) s,D.L[i]? =some s->s.d=true-> ∀j∈s.n.e,r i<r j):∀(n:Nat) {x y:Int} {c:Nat},D.m x y=some c->r c<=n-> ∀f a,n+1<f->n+1<a->upC S N f x y=upC S N a x y:=by
 intro n;induction n using Nat.strongRecOn with
 |ind n v=>
  intro x y c b G f a E t;obtain⟨f,rfl⟩:∃k,f=k+1:=⟨f-1,by omega⟩
  obtain⟨a,rfl⟩:∃k,a=k+1:=⟨a-1,by omega⟩
  have H:=(w.H b).2.2;unfold upC;rw[af,af];obtain⟨s,A,B,_,_,⟨_,d,e⟩| ⟨p,C,g,z,l,o,q⟩⟩:=MA h w b
  .rw[d,e];have:∀m,0<m->upC S N m 0 0=0:=λm F=>by
    obtain⟨m,rfl⟩:∃k,m=k+1:=⟨m-1,by omega⟩
    unfold upC;simp
   rw[this f<|by omega,this a<|by omega]
  have:=u p z l o c q;rw[v (r p) (by omega) g (Xh _) f a (by omega)<|by omega]
def Abv.A (h:Abv D a b):a=b\/ ∃(p:Nat) (s:Sl),D.L[b]? =some s/\s.n.h=p/\Abv D a p:=by
 cases h with
 |z=>exact .inl rfl|B _ p s h c k=>exact .inr ⟨p,s,h,c,k⟩
def vcAbo_ok :vcAbo:=by
 unfold vcAbo;intro i g j k S fr Z _ _ _ _ _ _ _ _ st N h;obtain⟨hi,hg,hj,hk,D,K,a,b,m,d,o,F⟩:=h;have R:S.length<=1000:=by obtain⟨T,M,rfl,rfl,h⟩:=m;rw[Xc,h.h];have:=d.m;omega
 refine⟨⟨hj,hk,λD K a b _ _ _ F=>.inr ⟨b,F,Iff.rfl⟩⟩,λ_ x y hI=>?_⟩;obtain⟨ux,uy,hI⟩:=hI;have O:(¬(x=0/\y=0)-> ∀D K a b,RlE D S N->WF D K->D.m i g=some a->D.m j k=some b-> ∃c,D.m x y=some c/\(Abv D a b↔Abv D a c)):=λG D K a b n E h3 h4=>(hI D K a b n E h3 h4).resolve_left λh=>G ⟨h.1,h.2.1⟩;have H:¬(x=0/\y=0)-> ¬(x=i/\y=g)-> ∀q t u v w z A B,kz S x y fr Z q t u v w z A B st N i g j k:=by
  intro G ab q t u v w z A B;unfold kz;refine⟨by omega,λ_=>⟨rfl,λ_=>⟨⟨ux,uy,R⟩,λ_ p U=>?_⟩⟩⟩;have U:p=atF S x y:=U;subst U;obtain⟨c,n,_⟩:=O G D K a b ⟨_,_,m⟩ d o F;obtain⟨s,E,h3,h4,h5,P⟩:=MA m d n;refine⟨by omega,λ_=>⟨h5,λ_=>⟨⟨?_,?_,?_⟩,λ_=>⟨?_,λ_=>trivial⟩⟩⟩⟩;rcases P with⟨_,f,l⟩| ⟨p,_,I,_⟩;rw[f];exact⟨by omega,by omega⟩;exact(d.H I).1;rcases P with⟨_,f,l⟩| ⟨p,_,I,_⟩;rw[l];exact⟨by omega,by omega⟩;exact(d.H I).2.1
  .intro D K a b m d o F;obtain⟨c,n,Y⟩:=O G D K a b m d o F;obtain⟨ac,ae,m⟩:=m;obtain⟨s,E,h3,h4,h5,P⟩:=MA m d n;have Q:a≠c:=λe=>by subst e;obtain⟨s1,L,q2,rfl,rfl⟩:=YX n;obtain⟨s2,q3,q4,rfl,rfl⟩:=YX o;rw[L]at q3;cases q3;exact ab ⟨rfl,rfl⟩
   rcases P with⟨e0,f,l⟩| ⟨p,U,I,_⟩;refine .inl ⟨f,l,λJ=>?_⟩;rcases(Y.1 J).A with h| ⟨p,s',L,q2,_⟩;exact Q h;rw[E]at L;cases L;omega
   .refine .inr ⟨p,I,Y.trans ⟨λJ=>?_,λJ=>.B c p s E U J⟩⟩;rcases J.A with h| ⟨p',s',L,q2,q3⟩;exact absurd h Q
    .rw[E]at L;cases L;have:p=p':=by omega
     rw[this];exact q3
  .show upC S N 1002 _ _<upC S N 1002 x y;have:upC S N 1002 x y=upC S N 1001 (cI N (atF S x y) 7) (cI N (atF S x y) 8)+1:=by
    conv=>lhs;unfold upC
    rw[Xd G]
   rw[this];rcases P with⟨_,f,l⟩| ⟨p,_,I,sp,Y,h9,aa⟩;rw[f,l];unfold upC;simp;obtain⟨r,V,W⟩:=d.B;have:=V p;have:=d.m;have:=W p sp Y h9 c aa;have:=V c;rw[RR m d W (r p) I (Xh _) 1002 1001 (by omega)<|by omega];omega
 have yes:¬(x=0/\y=0)->ft x i y g j k S fr Z=ft x i y g j k S fr Z:=λ_=>rfl;have C:∀q t u v w z A B,(x=0/\y=0)\/(x=i/\y=g)->lc i g j k S fr Z q t u v w z A B st N x y:=by intro q t u v w z A B hc;unfold lc;refine⟨?_,λ_=>trivial⟩;intro D K a b m d o F;have ad:=(d.H o).2.2;simp only[WK,Xf];rcases hc with⟨rfl,rfl⟩| ⟨rfl,rfl⟩;refine⟨λh=>by omega,λJ=>?_⟩;rcases hI D K a b ⟨_,_,m⟩ d o F with⟨_,_,h⟩| ⟨c,n,_⟩;exact absurd J h;have:=(d.H n).2.2;omega;refine⟨λ_=>?_,λ_=>⟨rfl,rfl⟩⟩;rcases hI D K a b ⟨_,_,m⟩ d o F with⟨_,h,_⟩| ⟨c,n,E⟩;omega;rw[o]at n;cases n;exact E.2 .z
 have X:∀q t u v w z A B,¬(x=0/\y=0)->ft x i y g j k S fr Z q t u v w z A B st N:=by intro q t u v w z A B G;unfold ft;exact⟨λf=>⟨λl=>C _ _ _ _ _ _ _ _<|.inr ⟨f,l⟩,λl=>H G (λh=>l h.2) ..⟩,λf=>H G (λh=>f h.1) ..⟩
 exact⟨λf=>⟨λl=>C _ _ _ _ _ _ _ _<|.inl ⟨f,l⟩,λl=>X _ _ _ _ _ _ _ _ λh=>l h.2⟩,λf=>X _ _ _ _ _ _ _ _ λh=>f h.1⟩
end
open Go Go.Xe Go.Sx
def gu (a:Ae)(c:Int):Prop:=
 (Sx.byteAt a c<48->Nd (G5 [.s a] [.b false]) True)/\(¬Sx.byteAt a c<48->((57<Sx.byteAt a c->Nd (G5 [.s a] [.b false]) True)/\(¬57<Sx.byteAt a c->Nd (I64<|c+1) (Nd (uC [.s a] [.i (c+1)])<|Nd (Qr [.s a] [.i (c+1)]<Qr [.s a] [.i c]) True))))
def jm :Prop:=
 ∀a,bZ [.s a]->((ln a<1->Nd (G5 [.s a] [.b false]) True)/\(¬ln a<1->((16<ln a->Nd (G5 [.s a] [.b false]) True)/\(¬16<ln a->Nd (uC [.s a] [.i 0]) (∀c,uC [.s a] [.i c]->((c<ln a->Nd (¬c<0) (Nd (c<ln a)<|(Sx.byteAt a c<97->gu a c)/\(¬Sx.byteAt a c<97->((122<Sx.byteAt a c->gu a c)/\(¬122<Sx.byteAt a c->Nd (I64<|c+1) (Nd (uC [.s a] [.i (c+1)])<|Nd (Qr [.s a] [.i (c+1)]<Qr [.s a] [.i c]) True))))))/\(¬c<ln a->Nd (G5 [.s a] [.b true]) True)))))))
def ne :kq nl eD (dX 0) (sD 0) 161=jm:=by kernel_rfl
def lu :Prop:=
 ∀a,lY [.s a]->((64<ln a->Nd (O8 [.s a] [.b false]) True)/\(¬64<ln a->Nd (a=a) (Nd (AI [.s a] [.i 0])<|∀c,AI [.s a] [.i c]->((c<ln a->((Sx.runeAt a c<32->Nd (O8 [.s a] [.b (decide<|c<0)]) True)/\(¬Sx.runeAt a c<32->((126<Sx.runeAt a c->Nd (O8 [.s a] [.b (decide<|c<0)]) True)/\(¬126<Sx.runeAt a c->Nd (a=a) (Nd (AI [.s a] [.i (c+Sx.runeW a c)])<|Nd (stMu [.s a] [.i (c+Sx.runeW a c)]<stMu [.s a] [.i c]) True))))))/\(¬c<ln a->Nd (O8 [.s a] [.b true]) True)))))
def pf :kq cText eD (dX 0) (sD 0) 160=lu:=by kernel_rfl
def ff (a:a8):Prop:=
 (cS a 0 4=([]:Ae)->((8<ln (cL a 0 3)->Nd (B5 [.l a] [.b false]) True)/\(¬8<ln (cL a 0 3)->((16<ln (cL a 0 5)->Nd (B5 [.l a] [.b false]) True)/\(¬16<ln (cL a 0 5)->Nd (rD [.l (cL a 0 3)] [.i 0]) (∀d,rD [.l (cL a 0 3)] [.i d]->((d<ln (cL a 0 3)->Nd (¬d<0) (Nd (d<ln (cL a 0 3))<|Nd (bZ [.s (cS (cL a 0 3) d 0)])<|∀c,G5 [.s (cS (cL a 0 3) d 0)] [.b c]->((c=true->Nd (lY [.s (cS (cL a 0 3) d 1)]) (∀f,O8 [.s (cS (cL a 0 3) d 1)] [.b f]->((f=true->((0<d->Nd (I64<|d+(-1)) (Nd (¬d+(-1)<0)<|Nd (d+(-1)<ln (cL a 0 3))<|(Op.bytesLess (cS (cL a 0 3) d 0) (cS (cL a 0 3) (d+(-1)) 0)=true->Nd (B5 [.l a] [.b false]) True)/\(¬Op.bytesLess (cS (cL a 0 3) d 0) (cS (cL a 0 3) (d+(-1)) 0)=true->((cS (cL a 0 3) d 0=cS (cL a 0 3) (d+(-1)) 0->Nd (B5 [.l a] [.b false]) True)/\(¬cS (cL a 0 3) d 0=cS (cL a 0 3) (d+(-1)) 0->Nd (I64<|d+1) (Nd (rD [.l (cL a 0 3)] [.i (d+1)])<|Nd (FY [.l (cL a 0 3)] [.i (d+1)]<FY [.l (cL a 0 3)] [.i d]) True))))))/\(¬0<d->Nd (I64<|d+1) (Nd (rD [.l (cL a 0 3)] [.i (d+1)])<|Nd (FY [.l (cL a 0 3)] [.i (d+1)]<FY [.l (cL a 0 3)] [.i d]) True))))/\(¬f=true->Nd (B5 [.l a] [.b false]) True))))/\(¬c=true->Nd (B5 [.l a] [.b false]) True))))/\(¬d<ln (cL a 0 3)->Nd (nQ [.l (cL a 0 5)] [.i 0]) (∀c,nQ [.l (cL a 0 5)] [.i c]->((c<ln (cL a 0 5)->Nd (¬c<0) (Nd (c<ln (cL a 0 5))<|(cS (cL a 0 5) c 2=([]:Ae)->Nd (I64<|c+1) (Nd (nQ [.l (cL a 0 5)] [.i (c+1)])<|Nd (xS [.l (cL a 0 5)] [.i (c+1)]<xS [.l (cL a 0 5)] [.i c]) True))/\(¬cS (cL a 0 5) c 2=([]:Ae)->Nd (¬c<0) (Nd (¬ln (cL a 0 5)<c)<|Nd (xN [.l (pQ (cL a 0 5) 0 c),.s<|cS (cL a 0 5) c 2] [.i 0])<|∀f,xN [.l (pQ (cL a 0 5) 0 c),.s<|cS (cL a 0 5) c 2] [.i f]->((f<ln (pQ (cL a 0 5) 0 c)->Nd (¬f<0) (Nd (f<ln (pQ (cL a 0 5) 0 c))<|(cS (pQ (cL a 0 5) 0 c) f 2=cS (cL a 0 5) c 2->((f<0->Nd (I64<|c+1) (Nd (nQ [.l (cL a 0 5)] [.i (c+1)])<|Nd (xS [.l (cL a 0 5)] [.i (c+1)]<xS [.l (cL a 0 5)] [.i c]) True))/\(¬f<0->Nd (B5 [.l a] [.b false]) True)))/\(¬cS (pQ (cL a 0 5) 0 c) f 2=cS (cL a 0 5) c 2->Nd (I64<|f+1) (Nd (xN [.l (pQ (cL a 0 5) 0 c),.s<|cS (cL a 0 5) c 2] [.i (f+1)])<|Nd (PL [.l (pQ (cL a 0 5) 0 c),.s<|cS (cL a 0 5) c 2] [.i (f+1)]<PL [.l (pQ (cL a 0 5) 0 c),.s<|cS (cL a 0 5) c 2] [.i f]) True))))/\(¬f<ln (pQ (cL a 0 5) 0 c)->Nd (I64<|c+1) (Nd (nQ [.l (cL a 0 5)] [.i (c+1)])<|Nd (xS [.l (cL a 0 5)] [.i (c+1)]<xS [.l (cL a 0 5)] [.i c]) True)))))))/\(¬c<ln (cL a 0 5)->Nd (B5 [.l a] [.b true]) True)))))))))))/\(¬cS a 0 4=([]:Ae)->Nd (B5 [.l a] [.b false]) True)
def og :Prop:=
 ∀a,iS [.l a]->((cI a 0 0=2->Nd (lY [.s (cS a 0 4)]) (∀c,O8 [.s (cS a 0 4)] [.b c]->((c=true->((cS a 0 1=([]:Ae)->((cS a 0 2=([]:Ae)->((ln (cL a 0 3)=0->Nd (B5 [.l a] [.b (decide<|ln (cL a 0 5)=0)]) True)/\(¬ln (cL a 0 3)=0->Nd (B5 [.l a] [.b false]) True)))/\(¬cS a 0 2=([]:Ae)->Nd (B5 [.l a] [.b false]) True)))/\(¬cS a 0 1=([]:Ae)->Nd (B5 [.l a] [.b false]) True)))/\(¬c=true->Nd (B5 [.l a] [.b false]) True))))/\(¬cI a 0 0=2->((cI a 0 0=1->Nd (bZ [.s (cS a 0 1)]) (∀c,G5 [.s (cS a 0 1)] [.b c]->((c=true->((cS a 0 2=([]:Ae)->ff a)/\(¬cS a 0 2=([]:Ae)->Nd (bZ [.s (cS a 0 2)]) (∀d,G5 [.s (cS a 0 2)] [.b d]->((d=true->ff a)/\(¬d=true->Nd (B5 [.l a] [.b false]) True))))))/\(¬c=true->Nd (B5 [.l a] [.b false]) True))))/\(¬cI a 0 0=1->Nd (B5 [.l a] [.b false]) True))))
def nh :kq np eD (dX 1) (sD 1) 105=og:=by kernel_rfl
def rf (n:Nat):Prop:=
 ∀c a d g,(bH [.l c,.i a,.i d,.i g]/\kL [.l c,.i a,.i d,.i g]<n+1)->Nd (I64<|d+1) ((g<a->((6<a->Nd (I9 [.l c,.i a,.i d,.i g] [.b false,.i<|d+1,.i a]) True)/\(¬6<a->((64<d+1->Nd (I9 [.l c,.i a,.i d,.i g] [.b false,.i<|d+1,.i a]) True)/\(¬64<d+1->Nd (iS [.l (pQ c 0 1)]) (∀o,B5 [.l (pQ c 0 1)] [.b o]->((o=true->Nd (kM [.l c,.i a,.i<|d+1,.i a] [.i 0,.i<|d+1,.i a]) (∀f h j,kM [.l c,.i a,.i<|d+1,.i a] [.i f,.i h,.i j]->((f<ln (cL c 0 5)->Nd (¬f<0) (Nd (f<ln (cL c 0 5))<|Nd (I64<|a+1)<|Nd (bH [.l (pQ (cL c 0 5) f 1),.i<|a+1,.i h,.i j]/\kL [.l (pQ (cL c 0 5) f 1),.i<|a+1,.i h,.i j]<n)<|∀p k m,I9 [.l (pQ (cL c 0 5) f 1),.i<|a+1,.i h,.i j] [.b p,.i k,.i m]->((p=true->Nd (I64<|f+1) (Nd (kM [.l c,.i a,.i<|d+1,.i a] [.i (f+1),.i k,.i m])<|Nd (CX [.l c,.i a,.i<|d+1,.i a] [.i (f+1),.i k,.i m]<CX [.l c,.i a,.i<|d+1,.i a] [.i f,.i h,.i j]) True))/\(¬p=true->Nd (I9 [.l c,.i a,.i d,.i g] [.b false,.i k,.i m]) True))))/\(¬f<ln (cL c 0 5)->Nd (I9 [.l c,.i a,.i d,.i g] [.b true,.i h,.i j]) True))))/\(¬o=true->Nd (I9 [.l c,.i a,.i d,.i g] [.b false,.i<|d+1,.i a]) True))))))))/\(¬g<a->((6<a->Nd (I9 [.l c,.i a,.i d,.i g] [.b false,.i<|d+1,.i g]) True)/\(¬6<a->((64<d+1->Nd (I9 [.l c,.i a,.i d,.i g] [.b false,.i<|d+1,.i g]) True)/\(¬64<d+1->Nd (iS [.l (pQ c 0 1)]) (∀o,B5 [.l (pQ c 0 1)] [.b o]->((o=true->Nd (kM [.l c,.i a,.i<|d+1,.i g] [.i 0,.i<|d+1,.i g]) (∀f h j,kM [.l c,.i a,.i<|d+1,.i g] [.i f,.i h,.i j]->((f<ln (cL c 0 5)->Nd (¬f<0) (Nd (f<ln (cL c 0 5))<|Nd (I64<|a+1)<|Nd (bH [.l (pQ (cL c 0 5) f 1),.i<|a+1,.i h,.i j]/\kL [.l (pQ (cL c 0 5) f 1),.i<|a+1,.i h,.i j]<n)<|∀p k m,I9 [.l (pQ (cL c 0 5) f 1),.i<|a+1,.i h,.i j] [.b p,.i k,.i m]->((p=true->Nd (I64<|f+1) (Nd (kM [.l c,.i a,.i<|d+1,.i g] [.i (f+1),.i k,.i m])<|Nd (CX [.l c,.i a,.i<|d+1,.i g] [.i (f+1),.i k,.i m]<CX [.l c,.i a,.i<|d+1,.i g] [.i f,.i h,.i j]) True))/\(¬p=true->Nd (I9 [.l c,.i a,.i d,.i g] [.b false,.i k,.i m]) True))))/\(¬f<ln (cL c 0 5)->Nd (I9 [.l c,.i a,.i d,.i g] [.b true,.i h,.i j]) True))))/\(¬o=true->Nd (I9 [.l c,.i a,.i d,.i g] [.b false,.i<|d+1,.i g]) True)))))))))
def oy (n:Nat):kq (oh.g kL<|n+1) eD ((104,oh.g kL n)::dX 2) (sD 2) 104=rf n:=by kernel_rfl
def vcChk :Prop:=
 ∀a c d f g h,V5 [.i a,.s c,.s d,.l f,.s g,.l h]->Nd (bH [.l (pQ (b9 6 1 [.i a,.s c,.s d,.l f,.s g,.l h]) 0 1),.i 1,.i 0,.i 0]) (∀j k m,I9 [.l (pQ (b9 6 1 [.i a,.s c,.s d,.l f,.s g,.l h]) 0 1),.i 1,.i 0,.i 0] [.b j,.i k,.i m]->((j=true->((k=0->Nd (M6 [.i a,.s c,.s d,.l f,.s g,.l h] [.i 14]) True)/\(¬k=0->Nd (M6 [.i a,.s c,.s d,.l f,.s g,.l h] [.i 0]) True)))/\(¬j=true->Nd (M6 [.i a,.s c,.s d,.l f,.s g,.l h] [.i 14]) True)))
def vcChk_eq :kq gz eD (dX 3) (sD 3) 42=vcChk:=by kernel_rfl
def dz (n:Nat)(a:Int)(c:a8)(f:Bool)(d:a8):Prop:=
 Nd (¬a<0)<|Nd (a<ln c)<|Nd (rK [.i (cI c a 0),.s<|cS c a 1,.s<|cS c a 2,.l<|cL c a 3,.s<|cS c a 4,.l<|cL c a 5,.b f]/\BW [.i (cI c a 0),.s<|cS c a 1,.s<|cS c a 2,.l<|cL c a 3,.s<|cS c a 4,.l<|cL c a 5,.b f]<n)<|∀h j k g m o,aH [.i (cI c a 0),.s<|cS c a 1,.s<|cS c a 2,.l<|cL c a 3,.s<|cS c a 4,.l<|cL c a 5,.b f] [.i h,.s j,.s k,.l g,.s m,.l o]->Nd (¬a<0) (Nd (a<ln d)<|Ni (ln g)<|Nr (ln g)<|Nd (a<ln d)<|Nd (I64<|a+1)<|Ni (ln d)<|Nr (ln d)<|Nr (ln c)<|Ni (ln c)<|Nd (P2 [.l c,.b f] [.i (a+1),.l<|a9 (a9 (a9 (a9 (a9 (a9 d a 0<|.i h) a 1<|.s j) a 2<|.s k) a 3<|.l g) a 4<|.s m) a 5<|.l o])<|Nd (Pn [.l c,.b f] [.i (a+1),.l<|a9 (a9 (a9 (a9 (a9 (a9 d a 0<|.i h) a 1<|.s j) a 2<|.s k) a 3<|.l g) a 4<|.s m) a 5<|.l o]<Pn [.l c,.b f] [.i a,.l d]) True)
def vcCpd (n:Nat):Prop:=
 ∀h j m c k a g,(rK [.i h,.s j,.s m,.l c,.s k,.l a,.b g]/\BW [.i h,.s j,.s m,.l c,.s k,.l a,.b g]<n+1)->((g=true->∀(o:Bool),(o=true->ln c=0->Nd (¬ln a<0) (Ni (ln a)<|Nd (ln a<1048577)<|Nd (¬ln (List.replicate (ln a).toNat [.i 0,.s [],.s [],.l [],.s [],.l []]:a8)<ln a)<|Nr (ln a)<|Ni (ln a)<|Nd (P2 [.l a,.b g] [.i 0,.l<|pQ (List.replicate (ln a).toNat [.i 0,.s [],.s [],.l [],.s [],.l []]:a8) 0<|ln a])<|∀f d,P2 [.l a,.b g] [.i f,.l d]->((f<ln a->dz n f a g d)/\(¬f<ln a->Ni (ln d) (Nr (ln d)<|Nd (aH [.i h,.s j,.s m,.l c,.s k,.l a,.b g] [.i h,.s j,.s m,.l [],.s k,.l d]) True)))))/\(¬o=true->Nd (ln c<67108865) ((0<ln c->Nd (¬ln c<0) (Ni (ln c)<|Ni (ln c)<|Nd (¬ln a<0)<|Ni (ln a)<|Nd (ln a<1048577)<|Nd (¬ln (List.replicate (ln a).toNat [.i 0,.s [],.s [],.l [],.s [],.l []]:a8)<ln a)<|Nr (ln a)<|Ni (ln a)<|Nd (P2 [.l a,.b g] [.i 0,.l<|pQ (List.replicate (ln a).toNat [.i 0,.s [],.s [],.l [],.s [],.l []]:a8) 0<|ln a])<|∀f d,P2 [.l a,.b g] [.i f,.l d]->((f<ln a->dz n f a g d)/\(¬f<ln a->Ni (ln d) (Nr (ln d)<|Ni (ln c)<|Nr (ln c)<|Nr (ln c)<|Nd (ln c<67108865)<|Nd (aH [.i h,.s j,.s m,.l c,.s k,.l a,.b g] [.i h,.s j,.s m,.l<|b9 2 0 []++c,.s k,.l d]) True)))))/\(¬0<ln c->Nd (¬ln c<0) (Ni (ln c)<|Nd (¬0<ln c)<|Nd (¬ln a<0)<|Ni (ln a)<|Nd (ln a<1048577)<|Nd (¬ln (List.replicate (ln a).toNat [.i 0,.s [],.s [],.l [],.s [],.l []]:a8)<ln a)<|Nr (ln a)<|Ni (ln a)<|Nd (P2 [.l a,.b g] [.i 0,.l<|pQ (List.replicate (ln a).toNat [.i 0,.s [],.s [],.l [],.s [],.l []]:a8) 0<|ln a])<|
 ∀f d,P2 [.l a,.b g] [.i f,.l d]->((f<ln a->dz n f a g d)/\(¬f<ln a->Ni (ln d) (Nr (ln d)<|Nd (¬ln (Sx.over (b9 2 0 []) 0 c)<ln c)<|Nr (ln c)<|Nd (ln c<67108865)<|Nd (aH [.i h,.s j,.s m,.l c,.s k,.l a,.b g] [.i h,.s j,.s m,.l<|pQ (Sx.over (b9 2 0 []) 0 c) 0<|ln c,.s k,.l d]) True))))))))/\(¬g=true->∀(o:Bool),(o=true->ln c=0->Nd (¬ln a<0) (Ni (ln a)<|Nd (ln a<1048577)<|Nd (¬ln (List.replicate (ln a).toNat [.i 0,.s [],.s [],.l [],.s [],.l []]:a8)<ln a)<|Nr (ln a)<|Ni (ln a)<|Nd (P2 [.l a,.b g] [.i 0,.l<|pQ (List.replicate (ln a).toNat [.i 0,.s [],.s [],.l [],.s [],.l []]:a8) 0<|ln a])<|∀f d,P2 [.l a,.b g] [.i f,.l d]->((f<ln a->dz n f a g d)/\(¬f<ln a->Ni (ln d) (Nr (ln d)<|Nd (aH [.i h,.s j,.s m,.l c,.s k,.l a,.b g] [.i h,.s j,.s [],.l [],.s k,.l d]) True)))))/\(¬o=true->Nd (ln c<67108865) ((0<ln c->Nd (¬ln c<0) (Ni (ln c)<|Ni (ln c)<|Nd (¬ln a<0)<|Ni (ln a)<|Nd (ln a<1048577)<|Nd (¬ln (List.replicate (ln a).toNat [.i 0,.s [],.s [],.l [],.s [],.l []]:a8)<ln a)<|Nr (ln a)<|Ni (ln a)<|Nd (P2 [.l a,.b g] [.i 0,.l<|pQ (List.replicate (ln a).toNat [.i 0,.s [],.s [],.l [],.s [],.l []]:a8) 0<|ln a])<|∀f d,P2 [.l a,.b g] [.i f,.l d]->((f<ln a->dz n f a g d)/\(¬f<ln a->Ni (ln d) (Nr (ln d)<|Ni (ln c)<|Nr (ln c)<|Nr (ln c)<|Nd (ln c<67108865)<|Nd (aH [.i h,.s j,.s m,.l c,.s k,.l a,.b g] [.i h,.s j,.s [],.l<|b9 2 0 []++c,.s k,.l d]) True)))))/\(¬0<ln c->Nd (¬ln c<0) (Ni (ln c)<|Nd (¬0<ln c)<|Nd (¬ln a<0)<|Ni (ln a)<|Nd (ln a<1048577)<|Nd (¬ln (List.replicate (ln a).toNat [.i 0,.s [],.s [],.l [],.s [],.l []]:a8)<ln a)<|Nr (ln a)<|Ni (ln a)<|Nd (P2 [.l a,.b g] [.i 0,.l<|pQ (List.replicate (ln a).toNat [.i 0,.s [],.s [],.l [],.s [],.l []]:a8) 0<|ln a])<|
 ∀f d,P2 [.l a,.b g] [.i f,.l d]->((f<ln a->dz n f a g d)/\(¬f<ln a->Ni (ln d) (Nr (ln d)<|Nd (¬ln (Sx.over (b9 2 0 []) 0 c)<ln c)<|Nr (ln c)<|Nd (ln c<67108865)<|Nd (aH [.i h,.s j,.s m,.l c,.s k,.l a,.b g] [.i h,.s j,.s [],.l<|pQ (Sx.over (b9 2 0 []) 0 c) 0<|ln c,.s k,.l d]) True)))))))))
def ZV (n:Nat):kq (cCpd.g BW<|n+1) eD ((98,cCpd.g BW n)::dX 4) (sD 4) 98=vcCpd n:=by kernel_rfl
open Go Go.Xe Go.Sx
variable {s:Str}
theorem vG {k:Int}(a:0<=k)(c:k<(s.length:Int)):∃b,s[k.toNat]? =some b/\byteAt s k=b.toNat:=by obtain⟨b,d⟩:=Sx.get_at a c;refine⟨b,d,?_⟩;unfold byteAt;grind
variable {p:UInt8->Bool}{k:Nat}{b:UInt8}
theorem oX (h:s[k]? =some b)(a:p b=false):s.all p=false:=by grind
theorem oY {k:Int}(h:s[k.toNat]? =some b)(a:0<=k)(c:(s.take k.toNat).all p=true)(d:p b=true):(s.take (k+1).toNat).all p=true:=by rw[gT a,J9 h,List.all_append,c];grind
def GO (h:(97<=b.toNat/\b.toNat<=122)\/(48<=b.toNat/\b.toNat<=57)):mW b=true:=by unfold mW;simp;exact h
def CC (h:¬((97<=b.toNat/\b.toNat<=122)\/(48<=b.toNat/\b.toNat<=57))):mW b=false:=by
 cases a:mW b with
 |false=>rfl|true=>unfold mW at a;simp at a;exact absurd a h
def CV (h:s.all mW=false):v5 s=false:=by unfold v5;rw[h];simp
theorem mD (h:s.length<1\/16<s.length):v5 s=false:=by unfold v5;grind
theorem CW (a:1<=s.length)(b:s.length<=16)(h:s.all mW=true):v5 s=true:=by unfold v5;grind
def dG {k:Int}(h:(s.take k.toNat).all p=true)(a:(s.length:Int)<=k):s.all p=true:=by rwa[XP<|by omega]at h
def mz :jm:=by
 unfold jm gu Nd;intro s i;simp only[ln,I64,G5,uC,Qr,B2,Yf,Yo];refine Xm (λh=>(mD<|.inl<|by omega).symm) λh=>Xm (λf=>(mD<|.inr<|by omega).symm) λf=>Xm ⟨by omega,by omega,rfl⟩ λ_ k ⟨d,j,e⟩=>Xm (λc=>?_) λc=>?_
 .obtain⟨b,a,g⟩:=vG d c
  repeat' first| (refine Xm ?_ ?_)|intro _
  all_goals first|omega|exact(CV<|oX a<|CC<|by omega).symm|exact oY a d e (GO<|by omega)
 exact(CW (by omega) (by omega)<|dG e<|by omega).symm
def Mw (a:32<=b.toNat)(c:b.toNat<=126):HF b=true:=by unfold HF;rw[decide_eq_true a,decide_eq_true c];rfl
theorem AK (h:b.toNat<32\/126<b.toNat):HF b=false:=by unfold HF;grind
def Bd (h:s.all HF=false):D7 s=false:=by unfold D7;rw[h];simp
def HL (h:64<s.length):D7 s=false:=by unfold D7;rw[Yr<|by omega];rfl
def HM (a:s.length<=64)(h:s.all HF=true):D7 s=true:=by unfold D7;rw[decide_eq_true a,h];rfl
theorem Gt (h:s[k]? =some b):(⟨s.toArray⟩:ByteArray).get! (k+0)=b:=by show s.toArray[k+0]! =b;grind
theorem JQ (h:s[k]? =some b)(a:b.toNat<128):runeAt s k=b.toNat/\runeW s k=1:=by
 have c:Utf8.decode ⟨s.toArray⟩ k=(b.toNat,1):=by simp only[Utf8.decode,Gt h];grind
 unfold runeAt runeW;grind
theorem JP (h:s[k]? =some b)(a:128<=b.toNat):128<=runeAt s k:=by
 have c:128<=(Utf8.decode ⟨s.toArray⟩ k).1:=by simp only[Utf8.decode,Gt h];rw[af];split;split;grind;decide;split;split;grind;decide;split;split;grind;decide;decide
 unfold runeAt;grind
def oz :lu:=by
 unfold lu Nd;intro s n;simp only[ln,O8,AI,stMu,B2,Yf,Yo,Yk,XE];refine Xm (λh=>(HL<|by omega).symm) λh=>Xm ⟨by omega,by omega,rfl⟩ λ_ k ⟨g,o,i⟩=>Xm (λf=>?_) λf=>(HM (by omega)<|dG i<|by omega).symm;obtain⟨b,c,m⟩:=vG g f;have e:((k.toNat:Nat):Int)=k:=by omega
 have l:decide (k<0)=false:=Yr (by omega);rw[l];by_cases a:b.toNat<128
 .obtain⟨d,j⟩:=JQ c a;rw[e]at d j;rw[d,j]
  repeat' first| (refine Xm ?_ ?_)|intro _
  all_goals first|omega|exact(Bd<|oX c<|AK<|by omega).symm|exact oY c g i (Mw (by omega)<|by omega)
 .have d:=JP c (by omega);rw[e]at d
  repeat' first| (refine Xm ?_ ?_)|intro _
  all_goals first|omega|exact(Bd<|oX c<|AK<|by omega).symm
def lt_irrefl :∀a:Str,lt a a=false
 | []=>rfl|a::x=>by have:=lt_irrefl x;unfold lt at this⊢;simp[Op.bytesLess,this]
theorem pO :∀ {a b c:Str},lt a b=true->lt b c=true->lt a c=true
 |_,[],_,h,_=>by unfold lt at h;cases‹Ae› <;>simp[Op.bytesLess]at h
 |_,_::_,[],_,h=>by unfold lt at h;simp[Op.bytesLess]at h| [],_::_,_::_,_,_=>rfl|a::x,b::y,c::z,h,k=>by unfold lt at h k⊢;simp only[Op.bytesLess,Ys,Xf,WK,beq_iff_eq]at h k⊢;rcases h with h| ⟨rfl,h⟩;grind;rcases k with k| ⟨rfl,k⟩;grind;exact .inr ⟨rfl,pO h k⟩
theorem DT :∀ {a b:Str},lt a b=false->a≠b->lt b a=true
 | [],[],_,h=>absurd rfl h| [],b::y,h,_=>by unfold lt at h;simp[Op.bytesLess]at h|a::x,[],_,_=>rfl|a::x,b::y,h,k=>by unfold lt at h⊢;simp only[Op.bytesLess,YW,XM,Bool.and_eq_false_iff,Ys,Xf,WK,beq_iff_eq]at h⊢;by_cases e:a=b;subst e;refine .inr ⟨rfl,DT (by rcases h.2 with c|c;simp at c;exact c) λe=>k<|by grind⟩;grind
def yD {a b:Str}(h:lt a b=true):lt b a=false:=by
 cases c:lt b a with
 |false=>rfl|true=>have:=pO h c;rw[lt_irrefl]at this;cases this
def T6 (s:c8):s.m=[.i s.k,.s s.t,.s s.y,.l<|s.a.map Att.d,.s s.x,.l<|rows s.c]:=by
 have h:∀l:List c8,c8.n l=rows l:=λl=>by induction l with|nil=>rfl|cons a l b=>simp[c8.n,rows,b]
 cases s;simp[c8.m,c8.k,c8.t,c8.y,c8.a,c8.x,c8.c,h]
theorem P1 {a b:List Att}(h:a.map Att.d=b.map Att.d):a=b:=by
 have e:∀l:List Att,(l.map Att.d).map atOf=l:=λl=>by rw[List.map_map];exact List.map_id' l
 grind
mutual
def vQ :∀ {s t:c8},s.m=t.m->s=t
 | .mk ..,.mk ..,h=>by simp only[c8.m,Yl,Dat.i.injEq,Dat.s.injEq,Dat.l.injEq,Yo]at h;obtain⟨rfl,rfl,rfl,a,rfl,b⟩:=h;rw[P1 a,rows_inj b]
def rows_inj :∀ {l m:List c8},c8.n l=c8.n m->l=m
 | [],[],_=>rfl| [],_::_,h=>by cases h
 |_::_,[],h=>by cases h
 |s::l,t::m,h=>by simp only[c8.n,Yl]at h;rw[vQ h.1,rows_inj h.2]
end
def sL {s t:c8}:(s.m=t.m)=(s=t):=propext ⟨vQ,λh=>h▸rfl⟩
theorem bD {l m:List c8}:(rows l=rows m)=(l=m):=propext ⟨λh=>by
 induction l generalizing m with
 |nil=>simp_all|cons a l c=>cases m with|nil=>cases h|cons b m=>simp at h;rw[vQ h.1,c h.2],λh=>h▸rfl⟩
def SA (l:List Att):ats (l.map Att.d)=l:=by unfold ats;rw[List.map_map];exact List.map_id' l
def qR {s t:c8}(b:s.k=t.k)(d:s.t=t.t)(e:s.y=t.y)(f:s.a=t.a)(g:s.x=t.x)(h:s.c=t.c):s=t:=by cases s;cases t;subst b d e f g h;rfl
def y4 {s c:c8}:isT s c.k c.t c.y (c.a.map Att.d) c.x (rows c.c)=(s=c):=propext ⟨λ⟨b,d,e,f,g,i⟩=>qR b.symm d.symm e.symm (P1 f).symm g.symm (bD.mp i).symm,λh=>by subst h;exact⟨rfl,rfl,rfl,rfl,rfl,rfl⟩⟩
def t0 (c:c8):c.m.getD 0 (.i 0)= .i c.k:=by rw[T6];rfl
def t1 (c:c8):c.m.getD 1 (.i 0)= .s c.t:=by rw[T6];rfl
def t2 (c:c8):c.m.getD 2 (.i 0)= .s c.y:=by rw[T6];rfl
def t3 (c:c8):c.m.getD 3 (.i 0)= .l (c.a.map Att.d):=by rw[T6];rfl
def t4 (c:c8):c.m.getD 4 (.i 0)= .s c.x:=by rw[T6];rfl
def t5 (c:c8):c.m.getD 5 (.i 0)= .l (rows c.c):=by rw[T6];rfl
def Pc (r:Ar)(j:Nat):A7 [r] 0 j=r.getD j (.i 0):=rfl
def part1 (r:Ar):pQ [r] 0 1=[r]:=rfl
def H7 {l:List c8}{i:Int}{c:c8}(h:l[i.toNat]? =some c)(j:Nat):A7 (rows l) i j=c.m.getD j (.i 0):=d9 h j
def fR (l:List c8):pN (rows l)=l.map c8.y:=by unfold pN rows;rw[List.map_map];exact List.map_congr_left λc _=>by simp only[Function.comp,t2,B1]
theorem QB {l:List c8}{i:Int}{c:c8}(h:l[i.toNat]? =some c):pQ (rows l) i 1=[c.m]:=by
 unfold pQ rows;have:=(WM.1 h)
 rw[List.drop_eq_getElem_cons<|by grind];grind
open Go Go.Xe Go.Sx
variable {k:Int}
def m8 {b:Type}{l:List b}{a:b}(c:0<=k)(h:l[k.toNat]? =some a):l.take (k+1).toNat=l.take k.toNat++ [a]:=by rw[gT c,J9 h]
def v7 {a:Type}{l:List a}(h:(l.length:Int)<=k):l.take k.toNat=l:=XP (by omega)
theorem I7 {b c:Type}{f:b->c}{l:List b}{k:Nat}{a:b}(h:l[k]? =some a):(l.map f)[k]? =some (f a):=by grind
def Hb {c:Type}{R:c->c->Prop}{l:List c}(h:l.Pairwise R){i j:Nat}{a b:c}(g:l[i]? =some a)(k:l[j]? =some b)(d:i<j):R a b:=by obtain⟨e,rfl⟩:=WM.1 g;obtain⟨f,rfl⟩:=WM.1 k;exact List.pairwise_iff_getElem.1 h i j e f d
variable {l:List Str}{a b:Str}
theorem ON (p:0<k)(d:l[k.toNat]? =some a)(f:l[(k+ -1).toNat]? =some b)(m:lt b a=true)(h:Asc (l.take k.toNat)):Asc (l.take (k+1).toNat):=by
 unfold Asc at h⊢;rw[m8 (by omega) d,List.pairwise_append];refine⟨h,List.pairwise_singleton _ _,λx n y o=>?_⟩;rw[Yh.1 o];obtain⟨i,c⟩:=XY.1 n;have g:i<k.toNat:=by have:=(WM.1 c).1;rw[Xt]at this;omega
 by_cases e:i=(k+ -1).toNat;simp_all;refine pO (Hb h c (j:=(k+ -1).toNat) ?_ (by omega)) m;rw[Xr,Xg<|by omega];exact f
def KW (f:0<k)(c:l[k.toNat]? =some a)(d:l[(k+ -1).toNat]? =some b)(h:lt a b=true\/a=b):¬Asc l:=λe=>by have:=Hb e d c (by omega);rcases h with h|h;rw[yD this]at h;cases h;rw[h,lt_irrefl]at this;cases this
theorem rS (b:0<=k)(c:l[k.toNat]? =some a)(h:iL (l.take k.toNat))(d:a=[]\/ ∀z∈l.take k.toNat,z≠a):iL (l.take (k+1).toNat):=by unfold iL at h⊢;rw[m8 b c,List.pairwise_append];grind
def GB {i j:Nat}(f:l[i]? =some a)(g:l[j]? =some b)(c:i<j)(d:b≠ [])(e:a=b):¬iL l:=λh=>Hb h f g c d e
def at0 (a:Att):a.d.getD 0 (.i 0)= .s a.n:=rfl
def at1 (a:Att):a.d.getD 1 (.i 0)= .s a.v:=rfl
def H2 {p:Prop}(h:¬p):(false=true↔p):=⟨λe=>(by cases e),λe=>absurd e h⟩
theorem PG {c:Type}{l:List c}{j:Int}(d:0<=j)(h:j<((l.take k.toNat).length:Int)):∃a,l[j.toNat]? =some a/\(l.take k.toNat)[j.toNat]? =some a/\j<k:=by
 rw[Xt]at h;have b:j.toNat<l.length:=by omega
 exact⟨l[j.toNat],WV b,by grind,by omega⟩
theorem FU (s:c8)(H:¬s.k=2)(I:s.k=1)(ht:v5 s.t=true)(w:s.y=[]\/v5 s.y=true)(R:a8)(U:R=[s.m]):ff R:=by
 subst U;have S:bN s↔(s.x=[]/\s.a.length<=8/\s.c.length<=16/\(∀a∈s.a,v5 a.n=true/\D7 a.v=true)/\Asc (s.a.map Att.n)/\iL (s.c.map c8.y)):=by unfold bN;simp[I,ht,w]
 have p:∀k:Int,pQ (rows s.c) 0 k=rows (s.c.take k.toNat):=λk=>by simp[pQ,rows,List.map_take]
 unfold ff;simp only[Nd,ln,I64,cS,cL,Pc,t3,t4,t5,B1,S0,Xc,B5,rD,FY,nQ,xS,xN,PL,B2,G5,O8,bZ,lY,Hs,Yl,Yo,Yk,sL,forall_eq',forall_eq,Yf,XE,SA,fR,S,p];refine Xm (λg=>Xm (λh=>H2 λV=>by omega) λh8=>Xm (λh=>H2 λV=>by omega) λX=>Xm ⟨by omega,by omega,by simp,List.Pairwise.nil⟩ λ_ k ⟨Q,k1,M,E⟩=>Xm (λH=>?_) λH=>?_) λg=>H2 λh=>g h.1
 .obtain⟨a,q⟩:=Sx.get_at Q H;have B:=WT q;have J:=I7 (f:=Att.n) q;rw[List.map_take]at E;simp only[d9 q,at0,at1,B1];have A:v5 a.n=true->D7 a.v=true-> ∀x∈s.a.take (k+1).toNat,v5 x.n=true/\D7 x.v=true:=λW Y x g=>by rw[m8 Q q,Xv,Yh]at g;rcases g with g|rfl;exact M x g;exact⟨W,Y⟩
  by_cases o:0<k
  .obtain⟨b,N⟩:=Sx.get_at (T:=s.a) (i:=k+ -1) (by omega) (by omega);have m:=I7 (f:=Att.n) N;simp only[d9 N,at0,B1,List.map_take]
   repeat' first| (refine Xm ?_ ?_)|intro _
   all_goals first|omega|exact H2 λh=>absurd (h.2.2.2.1 a B).1 ‹_› |exact H2 λh=>absurd (h.2.2.2.1 a B).2 ‹_› |exact H2 λh=>KW o J m (.inl ‹_›) h.2.2.2.2.1|exact H2 λh=>KW o J m (.inr ‹_›) h.2.2.2.2.1|exact A ‹_› ‹_› _ ‹_› |exact(A ‹_› ‹_› _ ‹_›).1|exact(A ‹_› ‹_› _ ‹_›).2|exact ON o J m (DT (by unfold lt;simpa using‹¬Op.bytesLess a.n b.n=true›) ‹_›) E
  .obtain rfl:k=0:=by omega
   repeat' first| (refine Xm ?_ ?_)|intro _
   all_goals first|omega|exact H2 λh=>absurd (h.2.2.2.1 a B).1 ‹_› |exact H2 λh=>absurd (h.2.2.2.1 a B).2 ‹_› |exact(A ‹_› ‹_› _ ‹_›).1|exact(A ‹_› ‹_› _ ‹_›).2| (rw[m8 (by omega) q];exact List.pairwise_singleton _ _)
 .rw[v7 (by omega)]at M E;refine Xm ⟨by omega,by omega,List.Pairwise.nil⟩ λ_ j ⟨L,j1,D⟩=>Xm (λG=>?_) λG=>?_
  .obtain⟨c,O⟩:=Sx.get_at L G;have w:=I7 (f:=c8.y) O;have u:((s.c.take j.toNat).length:Int)=j:=by rw[Xt];omega
   simp only[H7 O,t2,B1,u];have nx:iL ((s.c.map c8.y).take (j+1).toNat)->(¬j+1< -9223372036854775808/\j+1<9223372036854775808)/\(¬j+1< -9223372036854775808/\j+1<9223372036854775808->(0<=j+1/\j+1<=(s.c.length:Int)/\iL ((s.c.map c8.y).take (j+1).toNat))/\(0<=j+1/\j+1<=(s.c.length:Int)/\iL ((s.c.map c8.y).take (j+1).toNat)->((s.c.length:Int)-(j+1)).toNat<((s.c.length:Int)-j).toNat)):=
    λh=>(by grind)
   refine⟨by omega,λ_=>⟨G,λ_=>⟨λF=>nx<|rS L w D<|.inl F,λF=>⟨by omega,λ_=>⟨by omega,λ_=>⟨⟨by omega,by omega,by simp⟩,λ_ i ⟨P,i1,K⟩=>Xm (λhi=>?_) λhi=>nx<|rS L w D<|.inr ?_⟩⟩⟩⟩⟩⟩;obtain⟨d,Z,r,aa⟩:=PG (l:=s.c) (k:=j) P (by omega);simp only[H7 r,t2,B1];refine⟨by omega,λ_=>⟨by omega,λ_=>⟨λe=>⟨λh=>by omega,λ_=>H2 λh=>GB (I7 Z) w (by omega) F e h.2.2.2.2.2⟩,λe=>⟨⟨by omega,by omega⟩,λ_=>⟨⟨by omega,by omega,λz C=>?_⟩,λ_=>by omega⟩⟩⟩⟩⟩;rw[m8 P<|I7 r,Xv,Yh]at C;rcases C with C|rfl;exact K z C;exact e;rw[v7<|by grind,List.map_take]at K;exact K
  rw[v7<|by grind]at D;exact⟨λ_=>⟨g,by omega,by omega,M,E,D⟩,λ_=>by trivial⟩
theorem ng :og:=by
 rintro _ ⟨s,rfl⟩;have d:=FU s;simp only[Nd,ln,cI,cS,cL,Pc,t0,t1,t2,t3,t4,t5,U8,B1,S0,Xc,B5,G5,O8,bZ,lY,Hs,Yl,Yo,Yk,sL,forall_eq',forall_eq,Yf,XE];refine⟨λb=>?_,λb=>⟨λe=>⟨λf=>⟨λi=>d b e f (.inl i) _ rfl,λi=>⟨λg=>d b e f (.inr g) _ rfl,λg=>H2 λh=>?_⟩⟩,λf=>H2 λh=>?_⟩,λe=>H2 λh=>?_⟩⟩
 .have d:bN s↔(D7 s.x=true/\s.t=[]/\s.y=[]/\s.a=[]/\s.c=[]):=by unfold bN;simp[b]
  simp_all
 all_goals
  rcases h<;>grind
open Go Go.Xe Go.Sx
def B4 (s:c8):K0 s↔bN s/\AllAs s.c:=by cases s;unfold K0;rfl
def G8 (s:c8):s.h=c8.d s.c+1:=by cases s;rfl
def Y2 (s:c8):s.j=c8.e s.c+1:=by cases s;rfl
def kR (l m:List c8):AllAs (l++m)↔AllAs l/\AllAs m:=by
 induction l with
 |nil=>simp[AllAs]|cons a l b=>simp[AllAs,b,and_assoc]
def bL (l m:List c8):c8.d (l++m)=c8.d l+c8.d m:=by
 induction l with
 |nil=>simp[c8.d]|cons a l b=>simp only[c8.d,Ye,b];omega
def fJ (l m:List c8):c8.e (l++m)=max (c8.e l) (c8.e m):=by
 induction l with
 |nil=>simp[c8.e]|cons a l b=>simp only[c8.e,Ye,b];omega
def Hz (l:List c8)(k:Nat):c8.d (l.take k)<=c8.d l:=by rw(occs:= .pos [2]) [<-YH k l];rw[bL];omega
def Cc (l:List c8)(k:Nat):c8.e (l.take k)<=c8.e l:=by rw(occs:= .pos [2]) [<-YH k l];rw[fJ];omega
variable {l:List c8}
def bM (h:AllAs l)(k:Nat):AllAs (l.take k):=by rw[<-YH k l,kR]at h;exact h.1
theorem O3 (h:AllAs l){k:Nat}{a:c8}(c:l[k]? =some a):K0 a:=by
 induction l generalizing k with
 |nil=>grind|cons b l d=>cases k with
  |zero=>cases c;exact h.1
  |succ k=>exact d h.2 (by simpa using c)
def Rn (s:c8):1<=s.h:=by rw[G8];omega
theorem Z1 {s:c8}(h:bN s):s.c.length<=16/\s.a.length<=8:=by rcases h<;>grind
def bad {p q:Prop}(h:¬p):(false=true↔p)/\(false=true->q):=⟨H2 h,λe=>(by cases e)⟩
def LH (c:c8):c8.d [c]=c.h:=by simp[c8.d]
def Qz (c:c8):c8.e [c]=c.j:=by simp[c8.e]
def ox (n:Nat):rf n:=by
 rintro _ B C K ⟨⟨⟨s,rfl⟩,O,P,Q,R,S,r⟩,w⟩;simp only[kL]at w;simp only[Nd,ln,I64,cL,Pc,part1,t5,S0,Xc,B5,iS,I9,bH,kL,kM,CX,Yl,Yo,Yk,sL,forall_eq',exists_eq',Yf,XE];refine⟨⟨by omega,by omega⟩,λ_=>⟨λu=>?_,λu=>?_⟩⟩;all_goals
  have x:=G8 s;have v:=Y2 s;refine⟨λh=>⟨by omega,by omega,by omega,by omega,bad λg=>?_⟩,λr=>⟨λh=>⟨by omega,by omega,by omega,by omega,bad λg=>?_⟩,λt b d=>⟨λe=>⟨⟨by omega,by omega,by omega,by omega,trivial,by simp[c8.d],by omega,by simp only[Int.toNat_zero,List.take_zero,c8.e];omega,by omega,by simp only[Int.toNat_zero,List.take_zero,c8.e];omega,by omega⟩,λ_ k W J ⟨o,_,_,T,l,y,U,z,V,A,_⟩=>⟨λi=>?_,λi=>?_⟩⟩,λe=>⟨by omega,by omega,by omega,by omega,bad λg=>e<|d.2 ((B4 s).1 g.1).1⟩⟩⟩⟩;have:=g.2.1;omega;have:=g.2.2;omega;obtain⟨c,f⟩:=Sx.get_at o i;have:=Z1<|d.1 e;have j:=Hz s.c (k+1).toNat;have hd1:=Cc s.c (k+1).toNat;simp only[QB f,Yl,Yo,sL,forall_eq',exists_eq',Yk];simp only[m8 o f,bL,LH,fJ,Qz]at j hd1⊢;refine⟨by omega,λ_=>⟨i,λ_=>⟨⟨by omega,by omega⟩,λ_=>⟨⟨⟨by omega,by omega,by omega,by omega,by omega,by omega⟩,by omega⟩,λ_ I m L ⟨D,E,F,G,p,H⟩=>⟨λa=>?_,λa=>?_⟩⟩⟩⟩⟩;obtain⟨q,M,N⟩:=p.1 a;obtain⟨X,Y⟩:=H a;exact⟨⟨by omega,by omega⟩,λ_=>⟨⟨by omega,by omega,by omega,by omega,(kR _ _).2 ⟨l,q,trivial⟩,by omega,by omega,by omega,by omega,by omega,by omega⟩,λ_=>by omega⟩⟩;refine⟨D,E,F,G,bad λg=>a<|p.2 ⟨O3 ((B4 s).1 g.1).2 f,?_,?_⟩⟩;have:=g.2.1;omega;have:=g.2.2;omega
  .rw[v7 (by omega)]at l y z A;have g:Good s B C:=⟨(B4 s).2 ⟨d.1 e,l⟩,by omega,by omega⟩
   exact⟨by omega,by omega,by omega,by omega,⟨λ_=>g,λ_=>trivial⟩,by omega,by omega⟩
def no14 {p:Prop}(h:¬p):((14:Int)=0↔p):=⟨λe=>absurd e<|by decide,λe=>absurd e h⟩
def vcChk_ok :vcChk:=by
 rintro _ _ _ _ _ _ ⟨s,rfl,rfl,rfl,rfl,rfl,rfl⟩;have e:pQ (b9 6 1 [(.i s.k),(.s s.t),(.s s.y),(.l<|s.a.map Att.d),(.s s.x),(.l<|rows s.c)]) 0 1=[s.m]:=by rw[T6];rfl
 simp only[Nd,e,bH,I9,M6,y4,Yl,Yo,sL,forall_eq',forall_eq,exists_eq',Yk,Yf];refine⟨by omega,λ_ b n d ⟨p,q,r,u,f,j⟩=>⟨λe=>?_,λe=>⟨no14 λh=>absurd (f.2 ⟨h.1,by have:=h.2.2;omega,by have:=h.2.1;omega⟩) e,.inr trivial⟩⟩⟩;obtain⟨g,m,o⟩:=f.1 e;have:=(j e).1;have:=Rn s;exact⟨λh=>by omega,λ_=>⟨⟨λ_=>⟨g,by omega,by omega⟩,λ_=>trivial⟩,.inl trivial⟩⟩
open Go Go.Xe Go.Sx
theorem set6 {L:a8}{i:Int}{a b c d e f:Dat}(k:0<=i)(h:i<(L.length:Int))(m:∀r∈L,r.length=6):a9 (a9 (a9 (a9 (a9 (a9 L i 0 a) i 1 b) i 2 c) i 3 d) i 4 e) i 5 f=L.set i.toNat [a,b,c,d,e,f]:=by
 obtain⟨r,g⟩:=Sx.get_at k h;have l:=m r<|WT g
 match r,l with
 | [_,_,_,_,_,_],_=>refine List.ext_getElem? λj=>?_;simp only[a9,List.getElem?_modify,List.getElem?_set];by_cases e:i.toNat=j;subst e;simp[g];omega;grind
def RL {b:Type}{L:List b}{i:Int}{a:b}(c:0<=i)(h:i<(L.length:Int)):(L.set i.toNat a).take (i+1).toNat=L.take i.toNat++ [a]:=by rw[m8 c<|by rw[List.getElem?_set_self<|by omega],List.take_set_of_le<|Xh _]
def AP (b:Bool)(l m:List c8):strips b (l++m)=strips b l++strips b m:=by
 induction l with
 |nil=>simp[strips]|cons a l c=>simp[strips,c]
def Kr (b:Bool)(l:List c8):(strips b l).length=l.length:=by
 induction l with
 |nil=>simp[strips]|cons a l c=>simp[strips,c]
def Tt (c:c8):c.m.length=6:=by rw[T6];rfl
theorem aA :∀ {l:List c8} {k:Nat} {c:c8},l[k]? =some c->szRs (rows c.c)<szRs (rows l)
 | [],k,c,h=>by grind|a::l,0,c,h=>by cases h;show _<szR a.m+1+szRs (rows l);rw[T6];simp only[szR,szD];omega
 |a::l,k+1,c,h=>by have:=aA (by simpa using h);show _<szR a.m+1+szRs (rows l);omega
def vI {s:c8}{k:Int}{t y x:Str}{a c:a8}(h:isT s k t y a x c): [Dat.i k,.s t,.s y,.l a,.s x,.l c]=s.m:=by obtain⟨rfl,rfl,rfl,rfl,rfl,rfl⟩:=h;exact(T6 s).symm
theorem Pk (n:Nat)(s:c8)(b:Bool)(f:K0 s)(F:szRs (rows s.c)<n+1)(k:Int)(D:a8)(w:P2 [.l (rows s.c),.b b] [.i k,.l D])(o:k<((rows s.c).length:Int)):dz n k (rows s.c) b D:=by
 obtain⟨j,A,u,p⟩:=w;obtain⟨p,B⟩:=p s.c rfl;rw[Xc]at A u o;obtain⟨c,g⟩:=Sx.get_at j o;have f:=(B4 s).1 f;have q:=(Z1 f.1).1;have m:=O3 f.2 g;have d:=aA g;have d:szRs (rows c.c)<n:=by omega
 simp only[dz,Nd,Nr,Ni,ln,I64,cI,cS,cL,H7 g,t0,t1,t2,t3,t4,t5,U8,B1,S0,Xc,rK,BW,aH,Pn,B2,y4,forall_eq,exists_eq_left,Yk,XE,Yf,Yo,u];refine⟨by omega,λ_=>⟨o,λ_=>⟨⟨m,d⟩,λ_ G t y a x C v=>⟨by omega,λ_=>⟨by omega,λ_=>⟨Int.lt_irrefl _,λ_=>⟨by omega,λ_=>⟨⟨by omega,by omega⟩,λ_=>⟨by omega,λ_=>⟨by omega,λ_=>⟨?_,λ_=>by omega⟩⟩⟩⟩⟩⟩⟩⟩⟩⟩⟩;rw[set6 j (by omega) B,vI v];refine⟨by omega,by grind,by grind,λE e=>?_⟩;rw[<-bD.mp e,RL j<|by omega,m8 j g,AP,p];refine⟨by simp[rows,strips],λr z=>?_⟩;rcases List.mem_or_eq_of_mem_set z with h|rfl;grind;exact Tt _
theorem ZU (n:Nat):vcCpd n:=by
 rintro _ _ _ _ _ _ b ⟨⟨s,⟨rfl,rfl,rfl,rfl,rfl,rfl⟩,j⟩,w⟩;have B:=Pk n s b j w;have g:=(B4 s).1 j;obtain⟨u,E⟩:=Z1 g.1;have S:P2 [.l (rows s.c),.b b] [.i 0,.l<|pQ (List.replicate ((ln<|rows s.c)).toNat [(.i<|0),(.s ([]:Ae)),(.s ([]:Ae)),(.l ([]:a8)),(.s ([]:Ae)),(.l ([]:a8))]:a8) 0<|ln<|rows s.c]:=by refine⟨by omega,by omega,by simp[pQ],λc e=>⟨by simp[strips],λr z=>?_⟩⟩;rw[(List.mem_replicate.1<|Yz z).2];rfl
 have F:∀k D f,P2 [.l (rows s.c),.b b] [.i k,.l D]-> ¬k<ln (rows s.c)->f=s.a.map Att.d->aH [.i s.k,.s s.t,.s s.y,.l<|s.a.map Att.d,.s s.x,.l<|rows s.c,.b b] [.i s.k,.s s.t,.s (if b then s.y else []),.l f,.s s.x,.l D]:=by intro k D f ⟨G,H,I,d⟩ v e;obtain⟨d,_⟩:=d s.c rfl;unfold ln at v;rw[v7<|by omega,v7<|by grind]at d;intro C h;rw[y4]at h;subst h;subst e;subst d;cases C;exact⟨rfl,rfl,rfl,rfl,rfl,rfl⟩
 have m:b9 2 0 []++s.a.map Att.d=s.a.map Att.d:=rfl;have o:pQ (Sx.over (b9 2 0 []) 0<|s.a.map Att.d) 0 (ln<|s.a.map Att.d)=s.a.map Att.d:=by simp[pQ,Sx.over,b9,ln,<-List.map_take]
 have p:ln (Sx.over (b9 2 0 []) 0<|s.a.map Att.d)=ln (s.a.map Att.d):=by simp[Sx.over,b9,ln]
 have q:ln (s.a.map Att.d)=0->([]:a8)=s.a.map Att.d:=λh=>by
  have:s.a=[]:=by simpa [ln]using h
  rw[this];rfl
 have J:ln (rows s.c)<=16:=by simp[ln];omega
 have K:ln (s.a.map Att.d)<=8:=by simp[ln];omega
 have L:0<=ln (rows s.c):=by simp[ln]
 have M:0<=ln (s.a.map Att.d):=by simp[ln]
 have A:ln (List.replicate (ln<|rows s.c).toNat [(.i<|0),(.s ([]:Ae)),(.s ([]:Ae)),(.l ([]:a8)),(.s ([]:Ae)),(.l ([]:a8))]:a8)=ln (rows s.c):=by simp[ln]
 simp only[m,o,p,A];cases b;all_goals
  simp only[Yn,if_false,YE]at F;simp only[Nd,Nr,Ni,false_implies,XE,Yk,not_false_eq_true,Yn,not_true_eq_false,Yo]
  repeat' with_reducible first|exact trivial|exact S|exact B _ _ ‹_› ‹_› |exact F _ _ _ ‹_› ‹_› rfl|exact F _ _ _ ‹_› ‹_› (q ‹_›)|omega| (refine Xm ?_ ?_)|intro _
end Go.D
namespace Go.D
open Go Go.Xe Go.Sx
def DM.e (D:DM)(c:Nat):Nod:=match D.L[c]? with
 |some s=>s.n|none=>⟨0,[],[],[],0,0,false, -1,[]⟩
def DM.j (D:DM)(c:Nat)(q:Nod->Nod):DM:= {D with L:=D.L.modify c λs=> {s with n:=q s.n}}
def DM.o (D:DM)(k:Nat):DM:= {D with C:=D.C.modify k (· +1)}
def dH (D:DM)(i g:Int)(t:Str):DM×Int:=match D.m i g with
 |none=>(D,11)
 |some c=>if(D.e c).j≠2\/D7 t=false then(D,1)else((D.j c λn=> {n with m:=t}).o 6,0)
def pU (D:DM)(i g top size:Int)(pin:Bool):DM×Int:=match D.m i g with
 |none=>(D,11)
 |some c=>if(D.e c).j≠1 then(D,1)else((D.j c λn=> {n with t:=top,r:=size,u:=pin}).o 7,0)
def RlC (D:DM)(S N:a8)(fr b:Int)(a:Ak):Prop:=Rl D.d D S N fr b/\a=D.C
def Fr (S N S' N':a8):Prop:=N.length<=N'.length/\(∀k:Nat,k<N.length->(∀j:Nat,j<S.length->cB S j 1=true->cI S j 3≠k)->N'[k]? =N[k]?)/\
 ∀i:Nat,i<S'.length->cB S' i 1=true->(∃j:Nat,j<S.length/\cB S j 1=true/\cI S j 3=cI S' i 3)\/(N.length:Int)<=cI S' i 3
def uE (S N:a8)(fr b:Int)(a:Ak):Prop:=∃D K,RlC D S N fr b a/\WF D K
def cD (S N:a8)(fr h:Int)(g:Ak)(e d:a8)(b c:Int)(a:Ak)(f:DM->DM×Prop):Prop:=
 Fr S N e d/\ ∀D K,RlC D S N fr h g->WF D K->RlC (f D).1 e d b c a/\(f D).2
def Ks :Ar->Prop
 | [.i i,.i g,.s t,.l S,.i fr,.i j,.i a,.i b,.i c,.i d,.i e,.i f,.i h,.i k,.l _,.l N]=>U32 i/\U32 g/\uE S N fr j [a,b,c,d,e,f,h,k]|_=>False
def AQ :Ar->Ar->Prop
 | [.i i,.i g,.s t,.l S,.i fr,.i A,.i a,.i b,.i c,.i d,.i e,.i f,.i h,.i k,.l _,.l N],[.i x,.l o,.i j,.i m,.i p,.i q,.i r,.i u,.i v,.i w,.i y,.i z,.l _,.l n]=>
  cD S N fr A [a,b,c,d,e,f,h,k] o n j m [p,q,r,u,v,w,y,z] λD=>((dH D i g t).1,x=(dH D i g t).2)
 |_,_=>False
def JB :Ar->Prop
 | [.i i,.i g,.i _,.i _,.b _,.l S,.i fr,.i j,.i a,.i b,.i c,.i d,.i e,.i f,.i h,.i k,.l _,.l N]=>U32 i/\U32 g/\uE S N fr j [a,b,c,d,e,f,h,k]|_=>False
def yW :Ar->Ar->Prop
 | [.i i,.i g,.i t,.i z,.b p,.l S,.i fr,.i B,.i a,.i b,.i c,.i d,.i e,.i f,.i h,.i k,.l _,.l N],[.i x,.l o,.i j,.i m,.i q,.i r,.i s,.i u,.i v,.i w,.i y,.i A,.l _,.l n]=>
  cD S N fr B [a,b,c,d,e,f,h,k] o n j m [q,r,s,u,v,w,y,A] λD=>((pU D i g t z p).1,x=(pU D i g t z p).2)
 |_,_=>False
def cStx:=mkD "stx" [hV,sV] Ks [iV] AQ
def cPlk:=mkD "plk" [hV,iV,iV,bV] JB [iV] yW
def KT :Ay->List (Nat×(Fm->SS->H6)):=aQ
def Kn :Nat->List (Ay×Con)
 |_=>[(42,gz),(LVn,dk "lives")]
def aI :Nat->Aw->E4
 |_,P=>[(68,kro P U0 cAt),(97,kro P U0 cVld),(71,kro P U0 cPlc),(69,kro P U0 cAbo)]
open Go Go.Xe Go.Sx
def iw (a:a8)(q r:Int)(t:Ae)(b c d f g h j k l m:Int)(o p:a8):Prop:=
 Ca (JD a b c d f g h j k l m o p) λV=>Nq (ln a)<|Nd (AQ (.i q::.i r::.s t::V)<|.i 1::V) True
def tl :Prop:=
 ∀t u v a f g h j k m o p d q r c,Ks (.i t::.i u::.s v::JD a f g h j k m o p d q r c)->Ca (JD a f g h j k m o p d q r c) λW=>Ca (.i t::.i u::JE a f g h j k m o p d q r) λV=>Nq (ln a) (Cg L7 H4 V λR=>∀y,R [.b y]->((y=true->Nq (ln a) (Cg y8 y7 V λR=>∀w,R [.i w]->Nb w (ln c) ((cI c w 0=2->Cg V5 M6 [.i 2,.s [],.s [],.l [],.s v,.l []] (λR=>∀z,R [.i z]->((z=0->Nq (ln a) (Cg y8 y7 V λR=>∀x,R [.i x]->Nb x (ln c) (Nb x (ln c)<|Nd (I64<|d+1)<|Nq (ln a)<|Nd (AQ (.i t::.i u::.s v::W)<|.i 0::JD a f g h j k m o p (d+1) q r (a9 c x 3<|.s v)) True)))/\(¬z=0->iw a t u v f g h j k m o p d q r c))))/\(¬cI c w 0=2->iw a t u v f g h j k m o p d q r c))))/\(¬y=true->Nq (ln a) (Nd (AQ (.i t::.i u::.s v::W)<|.i 11::W) True))))
def tj :kq cStx KT (Kn 0) (aI 0) 126=tl:=by kernel_rfl
def xa :Prop:=
 ∀t u v w x a f g h j k m o p q d r c,JB (.i t::.i u::.i v::.i w::.b x::JD a f g h j k m o p q d r c)->Ca (JD a f g h j k m o p q d r c) λX=>Ca (.i t::.i u::JE a f g h j k m o p q d r) λW=>Ca (.i t::.i u::.i v::.i w::.b x::X) λV=>Nq (ln a) (Cg L7 H4 W λR=>∀z,R [.b z]->((z=true->Nq (ln a) (Cg y8 y7 W λR=>∀y,R [.i y]->Nb y (ln c) ((cI c y 0=1->Nq (ln a) (Cg y8 y7 W λR=>∀s,R [.i s]->Nb s (ln c) (Nb s (ln c)<|Nb s (ln c)<|Nb s (ln c)<|Nd (I64<|d+1)<|Nq (ln a)<|Nd (yW V<|.i 0::.l a::J10 f g h j k m o p q (d+1) [.l r,.l<|a9 (a9 (a9 c s 4<|.i v) s 5<|.i w) s 6<|.b x]) True)))/\(¬cI c y 0=1->Nq (ln a) (Nd (yW V<|.i 1::X) True)))))/\(¬z=true->Nq (ln a) (Nd (yW V<|.i 11::X) True))))
def wz :kq cPlk KT (Kn 0) (aI 0) 130=xa:=by kernel_rfl
variable {q:Prop}
def nin {a:Int}(h:q):Ni a q:=⟨Int.lt_irrefl a,λ_=>h⟩
def nrn {a:Int}(h:q):Nr a q:=⟨rfl,λ_=>h⟩
def ndi {p:Prop}(a:p)(h:q):Sx.Nd p q:=⟨a,λ_=>h⟩
theorem ag {p q:Prop}(k:q)(h:p:=by omega):Sx.Nd p q:=⟨h,λ_=>k⟩
def ndt {p:Prop}(a:p):Sx.Nd p True:=⟨a,λ_=>trivial⟩
def j9 {a:Type}(l:List a)(i j:Nat)(f:a->a):(l.modify i f)[j]? =if i=j then l[j]?.map f else l[j]? :=by rw[List.getElem?_modify];by_cases e:i=j<;>cases l[j]? <;>simp[e]
def CA {L:List Sl}{f:Sl->Sl}(b:∀s,(f s).d=s.d):∀c,(L.modify c f).countP (·.d)=L.countP (·.d):=by
 induction L with
 |nil=>intro c;simp
 |cons a L d=>intro c;cases c<;>simp[List.countP_cons,b,d]
section
variable {D :DM}{S N S' X:a8}{fr Z i g x y:Int}{K a b c p:Nat}{G:Nat->Nat}{T:List RS}{M:List RN}{Y:Ak}
def Rl.e (h:Rl G D S N fr Z)(w:WF D K):S.length<=1000:=by obtain⟨T,M,rfl,rfl,h⟩:=h;rw[Xc,h.h];have:=w.m;omega
def Rl.d (h:Rl G D S N fr Z):z9 S i g=true↔ ∃k,D.m i g=some k:=by obtain⟨T,M,rfl,rfl,h⟩:=h;exact h.B
def DM.A {s:Sl}(h:D.L[c]? =some s):D.e c=s.n:=by unfold DM.e;rw[h]
def Za:type_of% @DM.A:=@DM.A
def Fr.e :Fr S N S N:=⟨Xh _,λ_ _ _=>rfl,λj a b=>.inl ⟨j,a,b,rfl⟩⟩
def Fr.h (h:Fr S N S X){j:Nat}(e:j<S.length)(g:cB S j 1=true){F:Ar->Ar}(i:0<=cI S j 3):Fr S N S (X.modify (cI S j 3).toNat F):=by obtain⟨b,c,d⟩:=h;refine⟨by simpa using b,λq f a=>?_,d⟩;have:=a j e g;rw[j9,af,<-c q f a]
variable {q:Nod->Nod}
def RlT.A (h:RlT G D T M fr Z){r:RS}{s:Sl}(w:D.L[c]? =some s)(l:s.d=true)(k:T[c]? =some r){f:RN->RN}(C:(q s.n).n G=f (s.n.n G)):RlT G (D.j c q) T (M.modify r.p.toNat f) fr Z:=by
 have d:=h.m c s w;have get:∀j,(D.j c q).L[j]? =if c=j then D.L[j]?.map (λs=> {s with n:=q s.n})else D.L[j]? :=λj=>j9 ..
 refine⟨by unfold DM.j;simpa using h.h,λj x a=>?_,h.o,h.d,h.e,λj x a y=>?_,?_⟩;rw[get]at a;by_cases e:c=j;subst e;rw[Xg rfl,w]at a;cases a;obtain⟨m,b,o,i,t⟩:=d;rw[k]at b;cases b;refine⟨r,k,o,i,λ_=>?_⟩;obtain⟨u,v⟩:=t l;exact⟨u,by rw[j9,Xg rfl,v];simp[C]⟩;rw[Xd e]at a;obtain⟨m,b,o,i,t⟩:=h.m j x a;refine⟨m,b,o,i,λg=>?_⟩;obtain⟨u,v⟩:=t g;obtain⟨I,z,H,E,F⟩:=d;rw[k]at z;cases z;have B:r.p≠m.p:=λA=>e<|h.o c j r m k b (E.trans l) (i.trans g) A;have:=(F l).1;exact⟨u,by rw[j9,af];exact v⟩;rw[get]at a;by_cases e:c=j;subst e;rw[Xg rfl,w]at a;cases a;exact absurd (l.symm.trans y) (by simp);rw[Xd e]at a;exact h.v j x a y;rw[h.w];exact congrArg Int.ofNat (CA (f:=λs=> {s with n:=q s.n}) (λ_=>rfl) c).symm
def DM.t :(D.j c q).d=D.d:=by funext j;unfold DM.d DM.j;simp only[j9];by_cases e:c=j<;>cases D.L[j]? <;>simp[e]
def Rl.m (h:Rl G D S N fr Z)(f:D.m i g=some c):∃s,D.L[c]? =some s/\s.d=true/\c<S.length/\cB S c 1=true/\cI S c 3=atF S i g/\0<=atF S i g/\atF S i g<N.length/\(∀j,A7 N (atF S i g) j=(s.n.n G).d.getD j (.i 0)):=by
 obtain⟨s,a,v,d,w,m,o,p⟩:=h.j f;obtain⟨T,M,rfl,rfl,h⟩:=h;obtain⟨F,r,x,k,y,z,b,t,A,B⟩:=h.z f;rw[a]at k;cases k;have q:=(WM.1 b).1;obtain⟨E,l,C,u,_⟩:=h.m c s a;rw[b]at l;cases l;have e:T[((c:Nat):Int).toNat]? =some r:=by rw[Xz];exact b
 refine⟨s,a,d,by rw[Xc];exact q,?_,?_,m,o,p⟩;unfold cB;rw[d9 e];simp[RS.d,Dat.f,u,d];unfold cI;rw[d9 e,t];rfl
def uM {t:Str}:A9 (.mk 2 [] [] [] t [])↔D7 t=true:=by simp[A9,K0,AllAs,bN,c8.k,c8.x,c8.t,c8.y,c8.a,c8.c,c8.h,c8.d,c8.j,c8.e]
def WF.I (w:WF D K){k:Nat}{x:Int}(h:D.C[k]? =some x):I64 (x+1):=by
 obtain⟨a,b,c,d,e,f,m,i,_,n,j⟩:=w.P;have:=w.m;have g:x∈D.C:=WT h;have o:(D.L.countP (·.d):Int)<=K:=by have:=List.countP_le_length (p:=λs:Sl=>s.d) (l:=D.L);omega
 rw[i]at g;have:0<=x/\x<=K:=by rcases Xw.1 g with rfl|g;omega;exact j x g
 unfold I64;omega
def RlT.C (h:RlT G D T M fr Z)(k:Nat):RlT G (D.o k) T M fr Z:=⟨h.h,h.m,h.o,h.d,h.e,h.v,h.w⟩
def Rl.o (h:Rl G D S N fr Z)(k:Nat):Rl G (D.o k) S N fr Z:=by obtain⟨T,M,a,b,h⟩:=h;exact⟨T,M,a,b,h.C k⟩
variable {F:Ar->Ar}
def Jl {b:Type}{f:b->Ar}{L:List b}{i:Nat}(q:b->b)(h:∀a,F (f a)=f (q a)):(L.map f).modify i F=(L.modify i q).map f:=by
 apply List.ext_getElem?;intro k;simp only[j9,XQ];cases L[k]? with
 |none=>simp|some a=>by_cases e:i=k<;>simp[e,h]
def Rl.t (h:Rl G D S N fr Z)(b:D.m i g=some c){q:Nod->Nod}{q':RN->RN}{F:Ar->Ar}(d:∀r:RN,F r.d=(q' r).d)(a:∀n,(q n).n G=q' (n.n G)):Rl G (D.j c q) S (N.modify (atF S i g).toNat F) fr Z:=by obtain⟨T,M,rfl,rfl,h⟩:=h;obtain⟨s,r,l,e,f,m,j,k,o,t⟩:=h.z b;refine⟨T,M.modify r.p.toNat q',rfl,by rw[k];exact Jl q' d,h.A e f j<|a _⟩
def Rl.n (h:Rl G D S N fr Z)(j:D.m i g=some c)(f:Fr S N S X):Fr S N S (X.modify (atF S i g).toNat F):=by obtain⟨s,k,l,b,d,a,e,m,n⟩:=h.m j;rw[<-a];exact f.h b d (by rw[a];exact e)
variable {f:DM->DM ×Prop}
def Jz (hv:z9 S i g=true){k:Nat}{q':RN->RN}{a:Ak}(u:∀r:RN,F r.d=(q' r).d)(j:∀G n,(q n).n G=q' (n.n G))(h:a=Y.modify k (· +1))(o:X=N.modify (atF S i g).toNat F)(t:∀D K c,RlC D S N fr Z Y->WF D K->D.m i g=some c->(f D).1=(D.j c q).o k/\(f D).2):(∃D K,RlC D S N fr Z Y/\WF D K)->cD S N fr Z Y S X fr Z a f:=by rintro ⟨v,w,b,s⟩;subst o;refine⟨?_,λD K d p=>?_⟩;obtain⟨c,e⟩:=b.1.d.1 hv;exact b.1.n e Fr.e;obtain⟨c,e⟩:=d.1.d.1 hv;obtain⟨l,m⟩:=t D K c d p e;refine⟨?_,m⟩;rw[l];refine⟨?_,by rw[h,d.2];rfl⟩;have:((D.j c q).o k).d=D.d:=DM.t;rw[this];exact(d.1.t e u<|j _).o k
def G3 (c:∀D K,RlC D S N fr Z Y->WF D K->(f D).1=D/\(f D).2):cD S N fr Z Y S N fr Z Y f:=
 ⟨Fr.e,λD K a b=>⟨by rw[(c D K a b).1];exact a,(c D K a b).2⟩⟩
def Rl.h (h:Rl G D S N fr Z)(hv:¬z9 S i g=true):D.m i g=none:=by
 cases e:D.m i g with
 |none=>rfl|some k=>exact absurd (h.d.2 ⟨k,e⟩) hv
def ti :tl:=by
 unfold tl;intro i g t S fr Z G H I J L M O P W N h;obtain⟨hi,Y,d⟩:=h;have E:=d;obtain⟨D,K,⟨B,X⟩,v⟩:=d;have f:y8 [.i i,.i g,.l S,.i fr,.i Z,.i G,.i H,.i I,.i J,.i L,.i M,.i O,.i P,.l W]:=⟨hi,Y,B.e v⟩
 refine nin<|nrn<|ndi f λb o=>⟨λj=>?_,λC=>nin<|nrn<|ndt ?_⟩
 .have o:b=z9 S i g:=o;subst o;obtain⟨c,a⟩:=B.d.1 j;obtain⟨s,x,Q,R,T,U,V,u,y⟩:=B.m a;have bad:((cI N (atF S i g) 0)≠2\/D7 t=false)->iw S i g t fr Z G H I J L M O P W N:=by
   intro w;unfold iw;refine nin<|nrn<|ndt<|G3 λD K m v=>?_;obtain⟨c,a⟩:=m.1.d.1 j;obtain⟨s,x,Q,R,T,U,V,u,y⟩:=m.1.m a;have:(D.e c).j≠2\/D7 t=false:=by
    rw[Za x];have:cI N (atF S i g) 0=s.n.j:=by unfold cI;rw[y];rfl
    rwa[this]at w
   unfold dH;rw[a];simp only;rw[Xg this];exact⟨rfl,rfl⟩
  refine nin<|nrn<|ndi f λp d=>?_;have d:p=atF S i g:=d;subst d;refine ag<|ndi u ⟨λz=>ndi ⟨.mk 2 [] [] [] t [],rfl,rfl,rfl,rfl,rfl,rfl⟩ λn hn=>?_,λz=>bad<|.inl z⟩;have hv:=(hn (.mk 2 [] [] [] t []) ⟨rfl,rfl,rfl,rfl,rfl,rfl⟩).1;rw[uM]at hv;refine⟨λA=>nin<|nrn<|ndi f λp d=>?_,λA=>bad<|.inr<|by simpa using λh=>A<|hv.2 h⟩;have d:p=atF S i g:=d;subst d;refine ag<|ndi u<|ag<|ndi u<|ndi (v.I (k:=6)<|by rw[<-X];rfl)<|nin<|nrn<|ndt ?_;refine Jz (q:=λn=> {n with m:=t}) (q':=λr=> {r with h:=t}) (F:=λr=>r.set 3<|.s t) (k:=6) j (λ_=>rfl) (λ_ _=>rfl) rfl rfl (λD K c m v a=>?_) E;obtain⟨s,x,Q,R,T,U,V,u,y⟩:=m.1.m a;have e:cI N (atF S i g) 0=s.n.j:=by unfold cI;rw[y];rfl
  rw[e]at z;unfold dH;rw[a];simp only;rw[Za x,Xd<|by simp[z,hv.1 A]];exact⟨rfl,rfl⟩
 have o:b=z9 S i g:=o;subst o;refine G3 λD K m v=>?_;unfold dH;rw[m.1.h C];exact⟨rfl,rfl⟩
def D8 {b:Type}{L:List b}{i:Nat}{f h:b->b}:(L.modify i f).modify i h=L.modify i (λa=>h<|f a):=by apply List.ext_getElem?;intro k;simp only[j9];by_cases e:i=k<;>cases L[k]? <;>simp[e]
def wy :xa:=by
 unfold xa;intro i g t z b S fr Z B C E G H I J L st N h;obtain⟨Y,X,d⟩:=h;have A:=d;obtain⟨D,K,⟨v,W⟩,u⟩:=d;have f:y8 [.i i,.i g,.l S,.i fr,.i Z,.i B,.i C,.i E,.i G,.i H,.i I,.i J,.i L,.l st]:=⟨Y,X,v.e u⟩
 refine nin<|nrn<|ndi f λw o=>⟨λj=>?_,λx=>nin<|nrn<|ndt ?_⟩
 .have o:w=z9 S i g:=o;subst o;obtain⟨c,a⟩:=v.d.1 j;obtain⟨s,M,Q,R,T,U,V,m,O⟩:=v.m a;have P:∀ {D:DM} {c:Nat},RlC D S N fr Z [B,C,E,G,H,I,J,L]->D.m i g=some c->(D.e c).j=cI N (atF S i g) 0:=by intro D c e a;obtain⟨s,M,Q,R,T,U,V,m,O⟩:=e.1.m a;rw[Za M];unfold cI;rw[O];rfl
  refine nin<|nrn<|ndi f λp d=>?_;have d:p=atF S i g:=d;subst d;refine ag<|ndi m ⟨λy=>nin<|nrn<|ndi f λp d=>?_,λy=>nin<|nrn<|ndt<|G3 λD K e u=>?_⟩;have d:p=atF S i g:=d;subst d;refine ag<|ndi m<|ag<|ndi m<|ag<|ndi m<|ag<|ndi m<|ndi (u.I (k:=7)<|by rw[<-W];rfl)<|nin<|nrn<|ndt ?_;refine Jz (q:=λn=> {n with t:=t,r:=z,u:=b}) (q':=λr=> {r with j:=t,e:=z,m:=b}) (F:=λr=>((r.set 4<|.i t).set 5<|.i z).set 6<|.b b) (k:=7) j (λ_=>rfl) (λ_ _=>rfl) rfl ?_ (λD K c e u a=>?_) A;unfold a9;rw[D8,D8];unfold pU;rw[a];simp only;rw[Xd<|by rw[P e a];exactλh=>h y];exact⟨rfl,rfl⟩;obtain⟨c,a⟩:=e.1.d.1 j;unfold pU;rw[a];simp only;rw[Xg<|by rw[P e a];exact y];exact⟨rfl,rfl⟩
 have o:w=z9 S i g:=o;subst o;refine G3 λD K e u=>?_;unfold pU;rw[e.1.h x];exact⟨rfl,rfl⟩
end
end Go.D
namespace Go.D
open Go Go.Xe Go.Sx
def N8 (l:Ah)(c:Nat):Ah:=l.filter (· ≠c)
def X7 (l:Ah)(c:Nat)(a:Int):Ah:=(l.flatMap λ(x:Nat)=>if(x:Int)=a then [c,x]else [x])++if a<0 then [c]else []
def DM.r (D:DM)(x y:Int):Bb Int:=if x=0/\y=0 then some (-1)else match D.m x y with
 |some a=>some a|none=>none
def DM.n (D:DM)(p c:Nat)(l:Ah)(par:Int)(k:Nat):DM:=((D.j p λn=> {n with e:=l}).j c λn=> {n with h:=par}).o k
open Classical in
def Y3 (D:DM)(i g j k x y:Int):DM×Int:=match D.m i g,D.m j k,D.r x y with
 |some p,some c,some a=>if(D.e p).j≠1 then(D,1)else if(D.e c).h≠ -1\/Abv D c p then(D,10)else if 0<=a/\a.toNat∉(D.e p).e then(D,1)else(D.n p c (X7 (D.e p).e c a) p 3,0)
 |_,_,_=>(D,11)
def mL (D:DM)(i g:Int):DM×Int:=match D.m i g with
 |some c=>if(D.e c).h= -1 then(D,10)else(D.n (D.e c).h.toNat c (N8 (D.e (D.e c).h.toNat).e c) (-1) 4,0)
 |none=>(D,11)
def eS (D:DM)(i g x y:Int):DM×Int:=match D.m i g,D.r x y with
 |some c,some a=>if(D.e c).h= -1 then(D,10)else if a=c\/(0<=a/\a.toNat∉(D.e (D.e c).h.toNat).e)then(D,1)else(D.n (D.e c).h.toNat c (X7 (N8 (D.e (D.e c).h.toNat).e c) c a) (D.e c).h 5,0)
 |_,_=>(D,11)
def xQ :Ar->Prop
 | [.i i,.i g,.i j,.i k,.i x,.i y,.l S,.i fr,.i n,.i a,.i b,.i c,.i d,.i e,.i f,.i h,.i m,.l _,.l N]=>U32 i/\U32 g/\U32 j/\U32 k/\U32 x/\U32 y/\uE S N fr n [a,b,c,d,e,f,h,m]|_=>False
def bW :Ar->Ar->Prop
 | [.i i,.i g,.i j,.i k,.i x,.i y,.l S,.i fr,.i B,.i a,.i b,.i c,.i d,.i e,.i f,.i h,.i m,.l _,.l N],[.i r,.l q,.i n,.i o,.i s,.i t,.i u,.i v,.i w,.i z,.i A,.i C,.l _,.l p]=>
  cD S N fr B [a,b,c,d,e,f,h,m] q p n o [s,t,u,v,w,z,A,C] λD=>((Y3 D i g j k x y).1,r=(Y3 D i g j k x y).2)
 |_,_=>False
def EA :Ar->Prop
 | [.i i,.i g,.l S,.i fr,.i j,.i a,.i b,.i c,.i d,.i e,.i f,.i h,.i m,.l _,.l N]=>U32 i/\U32 g/\uE S N fr j [a,b,c,d,e,f,h,m]|_=>False
def zF :Ar->Ar->Prop
 | [.i i,.i g,.l S,.i fr,.i x,.i a,.i b,.i c,.i d,.i e,.i f,.i h,.i m,.l _,.l N],[.i r,.l o,.i j,.i k,.i p,.i q,.i s,.i t,.i u,.i v,.i w,.i y,.l _,.l n]=>
  cD S N fr x [a,b,c,d,e,f,h,m] o n j k [p,q,s,t,u,v,w,y] λD=>((mL D i g).1,r=(mL D i g).2)
 |_,_=>False
def Jm :Ar->Prop
 | [.i i,.i g,.i x,.i y,.l S,.i fr,.i j,.i a,.i b,.i c,.i d,.i e,.i f,.i h,.i m,.l _,.l N]=>U32 i/\U32 g/\U32 x/\U32 y/\uE S N fr j [a,b,c,d,e,f,h,m]|_=>False
def fU :Ar->Ar->Prop
 | [.i i,.i g,.i x,.i y,.l S,.i fr,.i z,.i a,.i b,.i c,.i d,.i e,.i f,.i h,.i m,.l _,.l N],[.i r,.l o,.i j,.i k,.i p,.i q,.i s,.i t,.i u,.i v,.i w,.i A,.l _,.l n]=>
  cD S N fr z [a,b,c,d,e,f,h,m] o n j k [p,q,s,t,u,v,w,A] λD=>((eS D i g x y).1,r=(eS D i g x y).2)
 |_,_=>False
def cIns:=mkD "ins" [hV,hV,hV] xQ [iV] bW
def cRem:=mkD "rem" [hV] EA [iV] zF
def cMov:=mkD "mov" [hV,hV] Jm [iV] fU
def BP :Ay->List (Nat×(Fm->SS->H6)):=aQ
def Km :Nat->List (Ay×Con)
 |_=>[(LVn,dk "lives")]
def Eo :Nat->Aw->E4
 |_,P=>(159,sdel P U0 tHd 2)::(73,wkM U0<|sins P U0 tHd 2)::aI 0 P
end Go.D
namespace Go.D
open Go Go.Xe Go.Sx
def gx a q r s t u v b c d f g h j k l m o p:=
 Ca (JD a b c d f g h j k l m o p) λV=>Nq (ln a)<|Nd (bW (J6 q r s t u v V)<|.i 10::V) True
def jz a q r s t u v b c d f g h j k l m o p:=
 Ca (JD a b c d f g h j k l m o p) λV=>Nq (ln a)<|Nd (bW (J6 q r s t u v V)<|.i 1::V) True
def jy c u v h j k m o g p q r s t a y z A B:=
 Ca (Cg y8 y7<|.i u::.i v::JE c h j k m o g p q r s t) λV=>Ca (Cg y8 y7<|.i y::.i z::JE c h j k m o g p q r s t) λW=>Ca (J6 u v y z A B<|JD c h j k m o g p q r s t a) λX=>Ca (b9 2 0 []) λY=>Nq (ln c)<|V λR=>∀D,R [.i D]->Nb D (ln a) ((cI a D 0=1->Nq (ln c) (W λR=>∀C,R [.i C]->Nb C (ln a) ((cI a C 7=0->((cI a C 8=0->Nq (ln c) (Cg It Iu (.i y::.i z::.i u::.i v::JD c h j k m o g p q r s t a) λR=>∀F,R [.b F]->((F=true->gx c u v y z A B h j k m o g p q r s t a)/\(¬F=true->Nq (ln c) (V λR=>∀H,R [.i H]->Cg U1 R3 [.i H,.i A,.i B,.l a] (λR=>∀G,R [.i G]->((G<0->jz c u v y z A B h j k m o g p q r s t a)/\(¬G<0->Nq (ln c) (V λR=>∀d,R [.i d]->Ca (Cg U1 R3 [.i d,.i A,.i B,.l a]) λS=>Ca (b9 2 0 []++cL a d 9) λT=>Ca (cL a d 9) λZ=>Nb d (ln a) (∀(I:Bool),(I->ln Z=0->S (λR=>∀f,R [.i f]->Nd (¬f<0) (Nd (¬0<f)<|Nq (ln c)<|V λR=>∀w,R [.i w]->Nq (ln c) (W λR=>∀x,R [.i x]->Nb w (ln a) (Nb x (ln a)<|Nd (¬w<0)<|Nd (¬(ln (pQ ([]:a8) 0 f)+1)+ln (pQ ([]:a8) f<|0-f)<1)<|Nd (w<ln a)<|Nb x (ln a)<|Nd (I64<|g+1)<|Nq (ln c)<|Nd (bW X<|.i 0::.l c::J10 h j k m o (g+1) p q r s [.l t,.l<|a9 (a9 (a9 a w 9<|.l<|pQ ((pQ ([]:a8) 0 f++b9 2 1 [.i y,.i z])++pQ ([]:a8) f (0-f)) 0 1) x 7<|.i u) x 8<|.i v]) True)))))/\(¬I->Nd (ln Z<67108865) ((0<ln Z->S (λR=>∀f,R [.i f]->Ni (ln Z) (Nd (¬f<0)<|Nd (¬ln Z<f)<|Nd (ln Z<67108864)<|Nq (ln c)<|V λR=>∀w,R [.i w]->Nq (ln c) (W λR=>∀x,R [.i x]->Nb w (ln a) (Nb x (ln a)<|Nd (¬w<0)<|Nd (¬(ln (pQ T 0 f)+1)+ln (pQ T f<|ln Z-f)<ln Z+1)<|Nd (w<ln a)<|Nb x (ln a)<|Nd (I64<|g+1)<|Nq (ln c)<|Nd (bW X<|.i 0::.l c::J10 h j k m o (g+1) p q r s [.l t,.l<|a9 (a9 (a9 a w 9<|.l<|pQ ((pQ T 0 f++b9 2 1 [.i y,.i z])++pQ T f (ln Z-f)) 0<|ln Z+1) x 7<|.i u) x 8<|.i v]) True)))))/\(¬0<ln Z->S (λR=>∀f,R [.i f]->Nd (0=ln Z) (Nd (¬ln (Sx.over Y 0 Z)<ln Z)<|Nd (ln Z<67108865)<|Nd (¬ln (Sx.over Y 0 Z)<ln Z)<|Nd (¬f<0)<|Nd (¬ln Z<f)<|Nd (ln Z<67108864)<|Nq (ln c)<|V λR=>∀w,R [.i w]->Nq (ln c) (W λR=>∀x,R [.i x]->Nb w (ln a) (Nb x (ln a)<|Nd (¬w<0)<|Nd (¬(ln (pQ (Sx.over Y 0 Z) 0 f)+1)+ln (pQ (Sx.over Y 0 Z) f<|ln Z-f)<ln Z+1)<|Nd (w<ln a)<|Nb x (ln a)<|Nd (I64<|g+1)<|Nq (ln c)<|Nd (bW X<|.i 0::.l c::J10 h j k m o (g+1) p q r s [.l t,.l<|a9 (a9 (a9 a w 9<|.l<|pQ ((pQ (Sx.over Y 0 Z) 0 f++b9 2 1 [.i y,.i z])++pQ (Sx.over Y 0 Z) f (ln Z-f)) 0<|ln Z+1) x 7<|.i u) x 8<|.i v]) True)))))))))))))))))/\(¬cI a C 8=0->gx c u v y z A B h j k m o g p q r s t a)))/\(¬cI a C 7=0->gx c u v y z A B h j k m o g p q r s t a))))/\(¬cI a D 0=1->jz c u v y z A B h j k m o g p q r s t a))
def eu a q r s t u v b c d f g h j k l m o p:=
 Ca (JD a b c d f g h j k l m o p) λV=>Nq (ln a)<|Nd (bW (J6 q r s t u v V)<|.i 11::V) True
def jx a q r c d f g h j k l m o p s t u v w:=
 Ca (JE a c d f g h j k l m o p) λV=>Nq (ln a)<|Cg L7 H4 (.i q::.i r::V) λR=>∀x,R [.b x]->((x=true->Nq (ln a) (Cg L7 H4 (.i s::.i t::V) λR=>∀y,R [.b y]->((y=true->Nq (ln a) (Cg L7 H4 (.i u::.i v::V) λR=>∀z,R [.b z]->((z=true->jy a q r c d f g h j k l m o p w s t u v)/\(¬z=true->eu a q r s t u v c d f g h j k l m o p w))))/\(¬y=true->eu a q r s t u v c d f g h j k l m o p w))))/\(¬x=true->eu a q r s t u v c d f g h j k l m o p w))
def yw :Prop:=
 ∀s t u v c d a f g h j k l m o p q r w,xQ (J6 s t u v c d<|JD a f g h j k l m o p q r w)->Ca (JE a f g h j k l m o p q r) λV=>((c=0->((d=0->Nq (ln a) (Cg L7 H4 (.i s::.i t::V) λR=>∀x,R [.b x]->((x=true->Nq (ln a) (Cg L7 H4 (.i u::.i v::V) λR=>∀y,R [.b y]->((y=true->jy a s t f g h j k l m o p q r w u v c d)/\(¬y=true->eu a s t u v c d f g h j k l m o p q r w))))/\(¬x=true->eu a s t u v c d f g h j k l m o p q r w))))/\(¬d=0->jx a s t f g h j k l m o p q r u v c d w)))/\(¬c=0->jx a s t f g h j k l m o p q r u v c d w))
def yv :kq cIns BP (Km 0) (Eo 0) 27=yw:=by kernel_rfl
def jg d t u g h j k m o f p q r s a:=
 Ca (JE d g h j k m o f p q r s) λV=>Ca (Cg y8 y7<|.i t::.i u::V) λW=>Nq (ln d)<|W λR=>∀x,R [.i x]->Nb x (ln a) (Nq (ln d)<|W λR=>∀y,R [.i y]->Nb y (ln a) (Nq (ln d)<|Cg y8 y7 (.i (cI a y 7)::.i (cI a y 8)::V) λR=>∀b,R [.i b]->Ca (b9 2 0 []++cL a b 9) λY=>Ca (cL a b 9) λX=>Cg U1 R3 [.i b,.i t,.i u,.l a] (λR=>∀c,R [.i c]->Ca (ln X-(c+1)) λZ=>Nb b (ln a) (∀(z:Bool),(z->ln X=0->Nd (I64<|c+1) False)/\(¬z->Nd (ln X<67108865) ((0<ln X->Nd (I64<|c+1) (Ni (ln X)<|Nb c (c+1)<|Nd (¬ln X<c+1)<|Nq (ln d)<|Cg y8 y7 (.i (cI a x 7)::.i (cI a x 8)::V) λR=>∀v,R [.i v]->Nq (ln d) (W λR=>∀w,R [.i w]->Nb v (ln a) (Nb w (ln a)<|Nd (¬v<0)<|Nd (¬ln (pQ Y 0 c)+ln (pQ Y (c+1) Z)<c+Z)<|Nd (v<ln a)<|Nb w (ln a)<|Nd (I64<|f+1)<|Nq (ln d)<|Nd (zF (.i t::.i u::JD d g h j k m o f p q r s a)<|.i 0::.l d::J10 g h j k m o (f+1) p q r [.l s,.l<|a9 (a9 (a9 a v 9<|.l<|pQ (pQ Y 0 c++pQ Y (c+1) Z) 0<|c+Z) w 7<|.i 0) w 8<|.i 0]) True))))/\(¬0<ln X->Nd (I64<|c+1) False)))))))
def vz :Prop:=
 ∀r s a d f g h j k l m o p q c,EA (.i r::.i s::JD a d f g h j k l m o p q c)->Ca (.i r::.i s::JE a d f g h j k l m o p q) λW=>Ca (JD a d f g h j k l m o p q c) λV=>Nq (ln a) (Cg L7 H4 W λR=>∀u,R [.b u]->((u=true->Nq (ln a) (Cg y8 y7 W λR=>∀t,R [.i t]->Nb t (ln c) ((cI c t 7=0->((cI c t 8=0->Nq (ln a) (Nd (zF (.i r::.i s::V)<|.i 10::V) True))/\(¬cI c t 8=0->jg a r s d f g h j k l m o p q c)))/\(¬cI c t 7=0->jg a r s d f g h j k l m o p q c))))/\(¬u=true->Nq (ln a) (Nd (zF (.i r::.i s::V)<|.i 11::V) True))))
def vu :kq cRem BP (Km 0) (Eo 0) 54=vz:=by kernel_rfl
def gv a q r s t b c d f g h j k l m o p:=
 Ca (JD a b c d f g h j k l m o p) λV=>Nq (ln a)<|Nd (fU (.i q::.i r::.i s::.i t::V)<|.i 10::V) True
def dy a q r s t b c d f g h j k l m o p:=
 Ca (JD a b c d f g h j k l m o p) λV=>Nq (ln a)<|Nd (fU (.i q::.i r::.i s::.i t::V)<|.i 1::V) True
def jv d t u g h j k m o p f q r s a y z:=
 Nq (ln d)<|Cg y8 y7 (.i t::.i u::JE d g h j k m o p f q r s) λR=>∀A,R [.i A]->Nb A (ln a) (Nq (ln d)<|Cg y8 y7 (.i (cI a A 7)::.i (cI a A 8)::JE d g h j k m o p f q r s) λR=>∀D,R [.i D]->Cg U1 R3 [.i D,.i y,.i z,.l a] (λR=>∀C,R [.i C]->((C<0->dy d t u y z g h j k m o p f q r s a)/\(¬C<0->Nq (ln d) (Cg y8 y7 (.i t::.i u::JE d g h j k m o p f q r s) λR=>∀v,R [.i v]->Nb v (ln a) (Nq (ln d)<|Cg y8 y7 (.i t::.i u::JE d g h j k m o p f q r s) λR=>∀B,R [.i B]->Nb B (ln a) (Nq (ln d)<|Cg y8 y7 (.i (cI a B 7)::.i (cI a B 8)::JE d g h j k m o p f q r s) λR=>∀c,R [.i c]->Cg U1 R3 [.i c,.i t,.i u,.l a] (λR=>∀b,R [.i b]->Nb c (ln a) (∀(F:Bool),(F->ln (cL a c 9)=0->Nd (I64<|b+1) False)/\(¬F->Nd (ln (cL a c 9)<67108865) ((0<ln (cL a c 9)->Nd (I64<|b+1) (Ni (ln<|cL a c 9)<|Nb b (b+1)<|Nd (¬ln (cL a c 9)<b+1)<|Nd (y=0)<|Nd (z=0)<|Nd (¬ln (pQ (b9 2 0 []++cL a c 9) 0 b)+ln (pQ (b9 2 0 []++cL a c 9) (b+1)<|ln (cL a c 9)-(b+1))<b+(ln (cL a c 9)-(b+1)))<|Nd (¬b+(ln (cL a c 9)-(b+1))<0)<|Ni (b+(ln (cL a c 9)-(b+1)))<|
 Nd (b+(ln (cL a c 9)-(b+1))<67108864)<|Nq (ln d)<|Cg y8 y7 (.i (cI a v 7)::.i (cI a v 8)::JE d g h j k m o p f q r s) λR=>∀w,R [.i w]->Nq (ln d) (Cg y8 y7 (.i t::.i u::JE d g h j k m o p f q r s) λR=>∀x,R [.i x]->Nb w (ln a) (Nb x (ln a)<|Nd (¬w<0)<|Nd (¬(ln (pQ (pQ (b9 2 0 []++cL a c 9) 0 b++pQ (b9 2 0 []++cL a c 9) (b+1) (ln (cL a c 9)-(b+1))) 0<|b+(ln (cL a c 9)-(b+1)))+1)+ln (pQ (pQ (b9 2 0 []++cL a c 9) 0 b++pQ (b9 2 0 []++cL a c 9) (b+1) (ln (cL a c 9)-(b+1))) (b+(ln (cL a c 9)-(b+1)))<|(b+(ln (cL a c 9)-(b+1)))-(b+(ln (cL a c 9)-(b+1))))<(b+(ln (cL a c 9)-(b+1)))+1)<|
 Nd (w<ln a)<|Nb x (ln a)<|Nd (I64<|f+1)<|Nq (ln d)<|Nd (fU (.i t::.i u::.i y::.i z::JD d g h j k m o p f q r s a)<|.i 0::.l d::J10 g h j k m o p (f+1) q r [.l s,.l<|a9 (a9 (a9 a w 9<|.l<|pQ ((pQ (pQ (b9 2 0 []++cL a c 9) 0 b++pQ (b9 2 0 []++cL a c 9) (b+1) (ln (cL a c 9)-(b+1))) 0 (b+(ln (cL a c 9)-(b+1)))++b9 2 1 [.i t,.i u])++pQ (pQ (b9 2 0 []++cL a c 9) 0 b++pQ (b9 2 0 []++cL a c 9) (b+1) (ln (cL a c 9)-(b+1))) (b+(ln (cL a c 9)-(b+1))) ((b+(ln (cL a c 9)-(b+1)))-(b+(ln (cL a c 9)-(b+1))))) 0<|(b+(ln (cL a c 9)-(b+1)))+1) x 7<|.i<|cI a v 7) x 8<|.i<|cI a v 8]) True))))/\(¬0<ln (cL a c 9)->Nd (I64<|b+1) False))))))))))))
def ju a b c d f g h i j k l m o p q r s:=
 (a=b->((c=d->dy f b d a c g h i j k l m o p q r s)/\(¬c=d->jv f b d g h i j k l m o p q r s a c)))/\(¬a=b->jv f b d g h i j k l m o p q r s a c)
def er a q r s t b c d f g h j k l m o p:=
 Ca (JD a b c d f g h j k l m o p) λV=>Nq (ln a)<|Nd (fU (.i q::.i r::.i s::.i t::V)<|.i 11::V) True
def jt d a b c f g:=
 Ca [.l (pQ (b9 2 0 []++cL a b 9) 0 c++pQ (b9 2 0 []++cL a b 9) (c+1) (ln (cL a b 9)-(c+1))),.i f,.i g] λV=>Nd (I64<|d+1)<|Nd (jF V [.i (d+1)])<|Nd (Ci V [.i (d+1)]<Ci V [.i d]) True
def js a c b x y f k m o p q r s t j u v w z A:=
 ∀d,jF [.l (pQ (b9 2 0 []++cL a c 9) 0 b++pQ (b9 2 0 []++cL a c 9) (b+1) (ln (cL a c 9)-(b+1))),.i x,.i y] [.i d]->((d<b+(ln (cL a c 9)-(b+1))->Nb d (b+(ln (cL a c 9)-(b+1))) (Nd (d<ln (pQ (b9 2 0 []++cL a c 9) 0 b)+ln (pQ (b9 2 0 []++cL a c 9) (b+1)<|ln (cL a c 9)-(b+1)))<|(x=cI (pQ (b9 2 0 []++cL a c 9) 0 b++pQ (b9 2 0 []++cL a c 9) (b+1) (ln (cL a c 9)-(b+1))) d 0->((y=cI (pQ (b9 2 0 []++cL a c 9) 0 b++pQ (b9 2 0 []++cL a c 9) (b+1) (ln (cL a c 9)-(b+1))) d 1->Nd (¬ln (pQ (b9 2 0 []++cL a c 9) 0 b)+ln (pQ (b9 2 0 []++cL a c 9) (b+1)<|ln (cL a c 9)-(b+1))<b+(ln (cL a c 9)-(b+1))) (Nd (¬d<0)<|Nd (¬b+(ln (cL a c 9)-(b+1))<d)<|Nd (b+(ln (cL a c 9)-(b+1))<67108864)<|Nq (ln f)<|Cg y8 y7 (.i (cI a k 7)::.i (cI a k 8)::JE f m o p q r s t j u v w) λR=>∀g,R [.i g]->Nq (ln f) (Cg y8 y7 (.i z::.i A::JE f m o p q r s t j u v w) λR=>∀h,R [.i h]->Nb g (ln a) (Nb h (ln a)<|Nd (¬g<0)<|Nd (¬(ln (pQ (pQ (b9 2 0 []++cL a c 9) 0 b++pQ (b9 2 0 []++cL a c 9) (b+1) (ln (cL a c 9)-(b+1))) 0 d)+1)+ln (pQ (pQ (b9 2 0 []++cL a c 9) 0 b++pQ (b9 2 0 []++cL a c 9) (b+1) (ln (cL a c 9)-(b+1))) d<|(b+(ln (cL a c 9)-(b+1)))-d)<(b+(ln (cL a c 9)-(b+1)))+1)<|
 Nd (g<ln a)<|Nb h (ln a)<|Nd (I64<|j+1)<|Nq (ln f)<|Nd (fU (.i z::.i A::.i x::.i y::JD f m o p q r s t j u v w a)<|.i 0::.l f::J10 m o p q r s t (j+1) u v [.l w,.l<|a9 (a9 (a9 a g 9<|.l<|pQ ((pQ (pQ (b9 2 0 []++cL a c 9) 0 b++pQ (b9 2 0 []++cL a c 9) (b+1) (ln (cL a c 9)-(b+1))) 0 d++b9 2 1 [.i z,.i A])++pQ (pQ (b9 2 0 []++cL a c 9) 0 b++pQ (b9 2 0 []++cL a c 9) (b+1) (ln (cL a c 9)-(b+1))) d ((b+(ln (cL a c 9)-(b+1)))-d)) 0<|(b+(ln (cL a c 9)-(b+1)))+1) h 7<|.i<|cI a k 7) h 8<|.i<|cI a k 8]) True))))/\(¬y=cI (pQ (b9 2 0 []++cL a c 9) 0 b++pQ (b9 2 0 []++cL a c 9) (b+1) (ln (cL a c 9)-(b+1))) d 1->jt d a c b x y)))/\(¬x=cI (pQ (b9 2 0 []++cL a c 9) 0 b++pQ (b9 2 0 []++cL a c 9) (b+1) (ln (cL a c 9)-(b+1))) d 0->jt d a c b x y)))/\(¬d<b+(ln (cL a c 9)-(b+1))->Nd (¬ln (pQ (b9 2 0 []++cL a c 9) 0 b)+ln (pQ (b9 2 0 []++cL a c 9) (b+1)<|ln (cL a c 9)-(b+1))<b+(ln (cL a c 9)-(b+1))) (Nd (false)<|Nd (¬b+(ln (cL a c 9)-(b+1))<(-1))<|Nd (b+(ln (cL a c 9)-(b+1))<67108864)<|Nq (ln f)<|Cg y8 y7 (.i (cI a k 7)::.i (cI a k 8)::JE f m o p q r s t j u v w) λR=>∀g,R [.i g]->Nq (ln f) (Cg y8 y7 (.i z::.i A::JE f m o p q r s t j u v w) λR=>∀h,R [.i h]->Nb g (ln a) (Nb h (ln a)<|Nd (¬g<0)<|Nd (¬(ln (pQ (pQ (b9 2 0 []++cL a c 9) 0 b++pQ (b9 2 0 []++cL a c 9) (b+1) (ln (cL a c 9)-(b+1))) 0<|-1)+1)+ln (pQ (pQ (b9 2 0 []++cL a c 9) 0 b++pQ (b9 2 0 []++cL a c 9) (b+1) (ln (cL a c 9)-(b+1))) (-1)<|(b+(ln (cL a c 9)-(b+1)))+1)<(b+(ln (cL a c 9)-(b+1)))+1)<|
 Nd (g<ln a)<|Nb h (ln a)<|Nd (I64<|j+1)<|Nq (ln f)<|Nd (fU (.i z::.i A::.i x::.i y::JD f m o p q r s t j u v w a)<|.i 0::.l f::J10 m o p q r s t (j+1) u v [.l w,.l<|a9 (a9 (a9 a g 9<|.l<|pQ ((pQ (pQ (b9 2 0 []++cL a c 9) 0 b++pQ (b9 2 0 []++cL a c 9) (b+1) (ln (cL a c 9)-(b+1))) 0 (-1)++b9 2 1 [.i z,.i A])++pQ (pQ (b9 2 0 []++cL a c 9) 0 b++pQ (b9 2 0 []++cL a c 9) (b+1) (ln (cL a c 9)-(b+1))) (-1) ((b+(ln (cL a c 9)-(b+1)))+1)) 0<|(b+(ln (cL a c 9)-(b+1)))+1) h 7<|.i<|cI a k 7) h 8<|.i<|cI a k 8]) True)))))
def jr c t u f g h j k m o p q r s a v w:=
 Ca (JE c f g h j k m o p q r s) λV=>Ca (Cg y8 y7<|.i t::.i u::V) λW=>Nq (ln c)<|W λR=>∀x,R [.i x]->Nb x (ln a) (Nq (ln c)<|Cg y8 y7 (.i (cI a x 7)::.i (cI a x 8)::V) λR=>∀B,R [.i B]->Cg U1 R3 [.i B,.i v,.i w,.l a] (λR=>∀z,R [.i z]->((z<0->dy c t u v w f g h j k m o p q r s a)/\(¬z<0->Nq (ln c) (W λR=>∀A,R [.i A]->Nb A (ln a) (Nq (ln c)<|W λR=>∀y,R [.i y]->Nb y (ln a) (Nq (ln c)<|Cg y8 y7 (.i (cI a y 7)::.i (cI a y 8)::V) λR=>∀b,R [.i b]->Ca (cL a b 9) λX=>Cg U1 R3 [.i b,.i t,.i u,.l a] (λR=>∀d,R [.i d]->Nb b (ln a) (∀(C:Bool),(C->ln X=0->Nd (I64<|d+1) False)/\(¬C->Nd (ln X<67108865) ((0<ln X->Nd (I64<|d+1) (Ni (ln X)<|Nb d (d+1)<|Nd (¬ln X<d+1)<|Nd (v=0)<|Nd (¬w=0)<|Nd (jF [.l (pQ (b9 2 0 []++cL a b 9) 0 d++pQ (b9 2 0 []++cL a b 9) (d+1) (ln X-(d+1))),.i v,.i w] [.i 0])<|js a b d v w c A f g h j k m o p q r s t u))/\(¬0<ln X->Nd (I64<|d+1) False))))))))))))
def jq a b c d f g h i j k l m o p q r s:=
 (a=b->((c=d->dy f b d a c g h i j k l m o p q r s)/\(¬c=d->jr f b d g h i j k l m o p q r s a c)))/\(¬a=b->jr f b d g h i j k l m o p q r s a c)
def jp c t u f g h j k m o p q r s a v w:=
 Ca (JE c f g h j k m o p q r s) λV=>Ca (Cg y8 y7<|.i t::.i u::V) λW=>Nq (ln c)<|W λR=>∀x,R [.i x]->Nb x (ln a) (Nq (ln c)<|Cg y8 y7 (.i (cI a x 7)::.i (cI a x 8)::V) λR=>∀B,R [.i B]->Cg U1 R3 [.i B,.i v,.i w,.l a] (λR=>∀z,R [.i z]->((z<0->dy c t u v w f g h j k m o p q r s a)/\(¬z<0->Nq (ln c) (W λR=>∀A,R [.i A]->Nb A (ln a) (Nq (ln c)<|W λR=>∀y,R [.i y]->Nb y (ln a) (Nq (ln c)<|Cg y8 y7 (.i (cI a y 7)::.i (cI a y 8)::V) λR=>∀b,R [.i b]->Ca (cL a b 9) λX=>Cg U1 R3 [.i b,.i t,.i u,.l a] (λR=>∀d,R [.i d]->Nb b (ln a) (∀(C:Bool),(C->ln X=0->Nd (I64<|d+1) False)/\(¬C->Nd (ln X<67108865) ((0<ln X->Nd (I64<|d+1) (Ni (ln X)<|Nb d (d+1)<|Nd (¬ln X<d+1)<|Nd (¬v=0)<|Nd (jF [.l (pQ (b9 2 0 []++cL a b 9) 0 d++pQ (b9 2 0 []++cL a b 9) (d+1) (ln X-(d+1))),.i v,.i w] [.i 0])<|js a b d v w c A f g h j k m o p q r s t u))/\(¬0<ln X->Nd (I64<|d+1) False))))))))))))
def gk a b c d f g h i j k l m o p q r s:=
 (a=b->((c=d->dy f b d a c g h i j k l m o p q r s)/\(¬c=d->jp f b d g h i j k l m o p q r s a c)))/\(¬a=b->jp f b d g h i j k l m o p q r s a c)
def ya :Prop:=
 ∀r s t u a d f g h j k l m o p q c,Jm (.i r::.i s::.i t::.i u::JD a d f g h j k l m o p q c)->Ca (JE a d f g h j k l m o p q) λW=>Ca (.i r::.i s::W) λV=>((t=0->((u=0->Nq (ln a) (Cg L7 H4 V λR=>∀x,R [.b x]->((x=true->Nq (ln a) (Cg y8 y7 V λR=>∀v,R [.i v]->Nb v (ln c) ((cI c v 7=0->((cI c v 8=0->gv a r s t u d f g h j k l m o p q c)/\(¬cI c v 8=0->ju t r u s a d f g h j k l m o p q c)))/\(¬cI c v 7=0->ju t r u s a d f g h j k l m o p q c))))/\(¬x=true->er a r s t u d f g h j k l m o p q c))))/\(¬u=0->Nq (ln a) (Cg L7 H4 V λR=>∀x,R [.b x]->((x=true->Nq (ln a) (Cg L7 H4 (.i t::.i u::W) λR=>∀v,R [.b v]->((v=true->Nq (ln a) (Cg y8 y7 V λR=>∀w,R [.i w]->Nb w (ln c) ((cI c w 7=0->((cI c w 8=0->gv a r s t u d f g h j k l m o p q c)/\(¬cI c w 8=0->jq t r u s a d f g h j k l m o p q c)))/\(¬cI c w 7=0->jq t r u s a d f g h j k l m o p q c))))/\(¬v=true->er a r s t u d f g h j k l m o p q c))))/\(¬x=true->er a r s t u d f g h j k l m o p q c))))))/\(¬t=0->Nq (ln a) (Cg L7 H4 V λR=>∀x,R [.b x]->((x=true->Nq (ln a) (Cg L7 H4 (.i t::.i u::W) λR=>∀v,R [.b v]->((v=true->Nq (ln a) (Cg y8 y7 V λR=>∀w,R [.i w]->Nb w (ln c) ((cI c w 7=0->((cI c w 8=0->gv a r s t u d f g h j k l m o p q c)/\(¬cI c w 8=0->gk t r u s a d f g h j k l m o p q c)))/\(¬cI c w 7=0->gk t r u s a d f g h j k l m o p q c))))/\(¬v=true->er a r s t u d f g h j k l m o p q c))))/\(¬x=true->er a r s t u d f g h j k l m o p q c)))))
def xz :kq cMov BP (Km 0) (Eo 0) 128=ya:=by kernel_rfl
section
variable {G :Nat->Nat}{c:Nat}{a:Nat}
def SU {j:Nat}(h:((D4 G j).getD 0<|.i 0).j=(c:Int)/\((D4 G j).getD 1<|.i 0).j=(G c:Int)):j=c:=by have h:(j:Int)=c:=h.1;omega
def DP :∀ {l:Ah} {k:Int},ixF (l.map<|D4 G) c (G c) k=if c∈l then k+(l.idxOf c:Nat)else-1
 | [],k=>rfl|j::l,k=>by
  rw[XU,jG,DP (l:=l)];by_cases e:j=c;subst e;rw[Xg ⟨rfl,rfl⟩,Xg<|by simp];simp
  .rw[Xd λh=>e<|SU h];by_cases m:c∈l
   .rw[Xg m,Xg<|by simp[m],List.idxOf_cons];have:(j==c)=false:=by simpa using e
    rw[this];simp;omega
   rw[Xd m,Xd<|by simp[m];exactλh=>e h.symm]
def Fq :∀ {l:Ah},l.Nodup->c∈l->l.take (l.idxOf c)++l.drop (l.idxOf c+1)=N8 l c
 | [],_,h=>by simp at h|j::l,g,h=>by
  let⟨a,b⟩:=List.nodup_cons.1 g;rw[N8,List.idxOf_cons];by_cases e:j=c;subst e;simp;exact(List.filter_eq_self.2 λx i=>by simp;rintro rfl;exact a i).symm
  .have d:(j==c)=false:=by simpa using e
   have f:c∈l:=by obtain h|h:=Xw.1 h;exact absurd h.symm e;exact h
   rw[d];have:=Fq b f;rw[N8] at this;simp[e,this]
def LM :∀ {l:Ah},a∉l->(l.flatMap λ(x:Nat)=>if(x:Int)=(a:Int)then [c,x]else [x])=l
 | [],_=>rfl|j::l,h=>by rw[List.flatMap_cons,Xd (λe=>h (by simp[show j=a by omega])),LM λm=>h<|by simp[m]];rfl
def JG :∀ {l:Ah},l.Nodup->a∈l->l.take (l.idxOf a)++ [c]++l.drop (l.idxOf a)=X7 l c a
 | [],_,h=>by simp at h|j::l,k,h=>by
  let⟨b,d⟩:=List.nodup_cons.1 k;rw[X7,af,YD,List.idxOf_cons,List.flatMap_cons];by_cases e:j=a;subst e;rw[Xg rfl,LM b];simp
  .have g:(j==a)=false:=by simpa using e
   have i:a∈l:=by obtain h|h:=Xw.1 h;exact absurd h.symm e;exact h
   rw[g,af];have:=JG d i;rw[X7] at this;rw[af,YD]at this;rw[<-this];simp
def Ep {l:Ah}{z:Int}(h:z<0):X7 l c z=l++ [c]:=by
 rw[X7,Xg h];congr 1;induction l with
 |nil=>rfl|cons j l a=>rw[List.flatMap_cons,af,a];rfl
end
section
variable {D :DM}{S N S' N':a8}{fr Z i g j m x y:Int}{K c p k:Nat}{G:Nat->Nat}{cs:Ak}{Lr:a8}
def Rl.b (h:Rl G D S N fr Z)(l:D.m i g=c):∃s,D.L[c]? =some s/\s.d/\D.e c=s.n/\i=c/\(s.g:Int)=g/\0<=atF S i g/\atF S i g<N.length/\cI N (atF S i g) 0=s.n.j/\cI N (atF S i g) 7=hI s.n.h/\cI N (atF S i g) 8=hG' G s.n.h/\cL N (atF S i g) 9=s.n.e.map (D4 G):=by let⟨s,b,d,e,f,j,k,a⟩:=h.j l;refine⟨s,b,e,Za b,d,f,j,k,?_,?_,?_,?_⟩;rw[cI,a];rfl;rw[cI,a];rfl;rw[cI,a];rfl;rw[cL,a];rfl
def DM.I {q:Nod->Nod}:(D.j p q).m i g=D.m i g:=by simp only[DM.m,DM.j,j9];by_cases e:p=i.toNat<;>cases D.L[i.toNat]? <;>simp[e]
variable {s:Sl}
def DM.z (h:D.L[c]? =s):D.d c=s.g:=by rw[DM.d,h]
def YZ:type_of% @DM.z:=@DM.z
def DM.v {l:Ah}{z:Int}:(D.n p c l z k).d=D.d:=by rw[DM.n];have:∀D:DM,(D.o k).d=D.d:=λ_=>rfl;rw[this,DM.t,DM.t]
def El {f:DM->DM×Prop}(t:∀D K,RlC D S N fr Z cs->WF D K-> ∃p c l z,D.m i g=some p/\D.m j m=some c/\(f D).1=D.n p c l z k/\(f D).2/\Lr=l.map (D4 D.d)/\x=hI z/\y=hG' D.d z)(u:∃D K,RlC D S N fr Z cs/\WF D K){b:Ak}(s:b=cs.modify k (· +1)):cD S N fr Z cs S (a9 (a9 (a9 N (atF S i g) 9<|.l Lr) (atF S j m) 7<|.i x) (atF S j m) 8<|.i y) fr Z b f:=by
 have e:a9 (a9 (a9 N (atF S i g) 9<|.l Lr) (atF S j m) 7<|.i x) (atF S j m) 8 (.i y)=(N.modify (atF S i g).toNat λr=>r.set 9<|.l Lr).modify (atF S j m).toNat λr=>(r.set 7<|.i x).set 8 (.i y):=by unfold a9;rw[D8 (L:=N.modify _ _)]
 rw[e,s];refine⟨?_,λD K a o=>?_⟩;let⟨D,K,a,o⟩:=u;let⟨p,c,l,z,d,h,_⟩:=t D K a o;exact a.1.n h<|a.1.n d Fr.e;obtain⟨p,c,l,z,d,h,v,w,rfl,rfl,rfl⟩:=t D K a o;refine⟨?_,w⟩;rw[v];refine⟨?_,by rw[a.2];rfl⟩;rw[DM.v];have s2:=(a.1.t d (q:=λn=> {n with e:=l}) (q':=λr=> {r with c:=l.map<|D4 D.d}) (F:=λr=>r.set 9<|.l<|l.map<|D4 D.d) (λ_=>rfl)<|λ_=>rfl).t (i:=j) (g:=m) (c:=c) (by rw[DM.I];exact h) (q:=λn=> {n with h:=z}) (q':=λr=> {r with t:=hI z,r:=hG' D.d z}) (F:=λr=>(r.set 7<|.i<|hI z).set 8<|.i<|hG' D.d z) (λ_=>rfl)<|λ_=>rfl;exact s2.o k
variable {rest:Ar}{Q:Int->Prop}
def J1 {a b:Int}(h:U32 i/\U32 g/\S.length<=1000)(k:Q (atF S i g)):Ni a (Nr b<|Sx.Nd (y8<|.i i:: .i g:: .l S::rest) (∀p,y7 (.i i:: .i g:: .l S::rest) [.i p]->Q p)):=
 nin (nrn (ndi h λp c=>by have c:p=atF S i g:=c;subst c;exact k))
def bS {a b:Int}{Q:Bool->Prop}(h:U32 i/\U32 g/\S.length<=1000)(k:Q (z9 S i g)):Ni a (Nr b<|Sx.Nd (L7<|.i i:: .i g:: .l S::rest) (∀p,H4 (.i i:: .i g:: .l S::rest) [.b p]->Q p)):=
 nin (nrn (ndi h λp c=>by have c:p=z9 S i g:=c;subst c;exact k))
def iX {q:Int}(h:U32 i/\U32 g/\0<=q/\q<N.length/\(cL N q 9).length<=1000)(k:Q (plF (cL N q 9) i g)):Sx.Nd (U1 [.i q,.i i,.i g,.l N]) (∀p,R3 [.i q,.i i,.i g,.l N] [.i p]->Q p):=
 ndi h λp a=>by have a:p=plF (cL N q 9) i g:=a;subst a;exact k
def E9 {q:Int}{Q:Prop}(b:0<=q)(a:q<N.length)(k:Q):Sx.Nd (¬q<0) (Sx.Nd (q<ln N) Q):=ag<|ndi a k
def WF.o (w:WF D K)(h:D.L[c]? =s)(g:s.d):s.n.e.length<=1000:=by
 let⟨a,b⟩:=w.A c s h g;have:s.n.e.length<=D.L.length:=by
  have f:s.n.e ⊆ List.range D.L.length:=λj e=>by let⟨i,d,_⟩:=b j e;exact List.mem_range.2 (WM.1 d).1
  have:=a.length_le_of_subset f;simpa using this
 have:=w.m;omega
def WF.z (w:WF D K)(h:D.L[c]? =s)(f:s.d):(hI s.n.h=0/\hG' D.d s.n.h=0)↔s.n.h= -1:=by
 obtain e| ⟨q,b,e,a,i,j⟩:=w.u c s h f;rw[e];simp[hI,hG']
 .rw[e];have d:hG' D.d (q:Int)=b.g:=by rw[hG',af,Xz,YZ a]
  rw[d];have:=w.J b<|WT a;constructor;intro h;omega;intro h;omega
end
section
variable {D :DM}{S N S' N':a8}{fr Z i g j m x y:Int}{K c p k:Nat}{G:Nat->Nat}{cs:Ak}{Lr:a8}
def Rl.v (h:Rl D.d D S N fr Z)(w:WF D K)(f:D.m i g=c)(m:(D.e c).h≠ -1):∃(q:Nat) (a:Sl),(D.e c).h=q/\D.m (cI N (atF S i g) 7) (cI N (atF S i g) 8)=q/\D.L[q]? =a/\a.d/\D.e q=a.n/\c∈a.n.e/\a.n.e.Nodup/\a.n.e.length<=1000/\cL N (atF S (cI N (atF S i g) 7)<|cI N (atF S i g) 8) 9=a.n.e.map (D4 D.d)/\plF (a.n.e.map<|D4 D.d) i g=(a.n.e.idxOf c:Nat)/\0<=atF S (cI N (atF S i g) 7) (cI N (atF S i g) 8)/\atF S (cI N (atF S i g) 7) (cI N (atF S i g) 8)<N.length/\U32 (cI N (atF S i g) 7)/\U32 (cI N (atF S i g) 8):=by
 let⟨s,l,H,v,x,y,I,J,M,O,t,u⟩:=h.b f;let⟨s',o,Q,R,T,A⟩:=MA h w f;rw[l]at o;cases o;rw[v]at m⊢;obtain⟨e,_⟩| ⟨q,e,b,a,d,j,p⟩:=A;exact absurd e m
 .obtain⟨G,r,U,C,V,W,E,F,X,Y,B,k⟩:=h.b b;rw[d]at r;cases r;have P:=w.H f;have z:g=(D.d c:Int):=by rw[YZ l,y]
  refine⟨q,a,e,b,d,j,C,p,(w.A q a d j).1,w.o d j,k,?_,E,F,(w.H b).1,(w.H b).2.1⟩;rw[plF,af,x,z,DP,Xg p];omega
def rQ {l:Ah}(h:c∈l):l.idxOf c<l.length:=List.idxOf_lt_length_of_mem h
def ia (i g:Int){S st N:a8}{fr Z L M O P Q R T U:Int}(hp:∃D K,RlC D S N fr Z [L,M,O,P,Q,R,T,U]/\WF D K)(hv:z9 S i g=true)(H:U32 i)(G:U32 g)(hn:¬(cI N (atF S i g) 7=0/\cI N (atF S i g) 8=0)):jg S i g fr Z L M O P Q R T U st N:=by
 have W:=hp;obtain⟨D,K,⟨F,hc⟩,r⟩:=hp;have a:=F.e r;have m:∀ {D K},RlC D S N fr Z [L,M,O,P,Q,R,T,U]->WF D K-> ∃c,D.m i g=some c/\(D.e c).h≠ -1:=by intro D K C r;let⟨c,o⟩:=C.1.d.1 hv;let⟨s,h1,h2,h3,h4,h5,A,B,h8,h9,y,V⟩:=C.1.b o;refine⟨c,o,λe=>hn ?_⟩;rw[h9,y];exact(r.z h1 h2).2 (by rw[<-h3];exact e)
 let⟨c,o,d⟩:=m ⟨F,hc⟩ r;let⟨q,f,X,Y,e3,e4,e5,E,e7,e8,x,u,p,j,v,w⟩:=F.v r o d;let⟨s,h1,h2,h3,h4,h5,A,B,h8,h9,y,V⟩:=F.b o;have ix:=rQ E;rw[jg];refine J1 ⟨H,G,a⟩<|E9 A B<|J1 ⟨H,G,a⟩<|E9 A B<|J1 ⟨v,w,a⟩<|iX ⟨H,G,p,j,by rw[x,Xc];exact e8⟩<|E9 p j λb=>?_;have I:ln (cL N (atF S (cI N (atF S i g) 7)<|cI N (atF S i g) 8) 9)=(f.n.e.length:Int):=by rw[x];simp[ln]
 have J:plF (cL N (atF S (cI N (atF S i g) 7)<|cI N (atF S i g) 8) 9) i g=(f.n.e.idxOf c:Nat):=by rw[x,u]
 refine⟨λ_ h=>?_,λ_=>ndi (by rw[I];omega) ⟨λ_=>?_,λh=>?_⟩⟩;rw[I]at h;omega
 .refine ndi (by rw[J];rw[I64];omega) (nin<|ndi (by rw[J];omega)<|ag<|ndi (by rw[I,J];omega)<|J1 ⟨v,w,a⟩<|J1 ⟨H,G,a⟩ ?_);refine E9 p j<|E9 A B<|ag<|ndi ?_ (ndi j<|E9 A B<|ndi (r.I (k:=4)<|by rw[<-hc];rfl)<|nin<|nrn<|ndt ?_);rw[J,x];simp[ln,pQ,b9];omega
  .refine El (k:=4) (λD K C r=>?_) W rfl;let⟨c,o,d⟩:=m C r;let⟨q,f,X,Y,e3,e4,e5,E,e7,e8,x,u,p,j,v,w⟩:=C.1.v r o d;have ix:=rQ E;refine⟨q,c,N8 f.n.e c, -1,Y,o,?_,?_,?_,rfl,rfl⟩;unfold mL;rw[o];simp only;rw[Xd d,X,Xz,e5];unfold mL;rw[o];simp only;rw[Xd d]
   .rw[x,u];have z:b9 2 0 []++f.n.e.map (D4 D.d)=f.n.e.map (D4 D.d):=rfl;rw[z,R8,R8,<-XJ,R8,<-Fq e7 E];congr 1;have l1:ln (f.n.e.map<|D4 D.d)=(f.n.e.length:Int):=by simp[ln]
    rw[l1];generalize f.n.e.idxOf c=t at*;have a1:((t:Int)+1).toNat=t+1:=by omega
    have a2:((f.n.e.length:Int)-((t:Int)+1)).toNat=f.n.e.length-(t+1):=by omega
    rw[a1,a2,Xz,Int.toNat_zero,YJ,YJ,XP (l:=f.n.e.drop<|t+1)<|by simp];rw[XP<|by simp;omega]
 rw[I]at h;omega
def vt :vz:=by rw[vz];intro i g S fr Z B C E F G H I J M N h;let⟨m,l,x⟩:=h;have d:=x;let⟨D,K,⟨p,L⟩,k⟩:=x;have a:=p.e k;refine bS ⟨m,l,a⟩ ⟨λhv=>?_,λhv=>nin<|nrn<|ndt<|G3 λD K j k=>?_⟩;let⟨c,n⟩:=p.d.1 hv;let⟨s,q,r,t,y,z,u,v,A,w,b,o⟩:=p.b n;refine J1 ⟨m,l,a⟩<|E9 u v ⟨λe=>⟨λf=>nin<|nrn<|ndt<|G3 λD K j k=>?_,λf=>ia i g d hv m l λh=>f h.2⟩,λe=>ia i g d hv m l λh=>e h.1⟩;let⟨c,n⟩:=j.1.d.1 hv;let⟨s,q,r,t,y,z,u,v,A,w,b,o⟩:=j.1.b n;rw[w]at e;rw[b]at f;have:=(k.z q r).1 ⟨e,f⟩;rw[mL,n];simp only;rw[Xg<|by rw[t];exact this];exact⟨rfl,rfl⟩;rw[mL,j.1.h hv];exact⟨rfl,rfl⟩
end
section
variable {D :DM}{S N S' N' P:a8}{fr Z i g j m x y X W V Y U T R Q:Int}{K c p k:Nat}{G:Nat->Nat}{cs:Ak}{Lr:a8}{l:Ah}{t a:Int}
def Ha (g:0<=t)(h:t<=l.length){n q:Int}(d:n=(l.length:Int)-t)(f:q=(l.length:Int)+1):pQ ((pQ (l.map<|D4 G) 0 t++b9 2 1 [.i c,.i<|G c])++pQ (l.map<|D4 G) t n) 0 q=(l.take t.toNat++ [c]++l.drop t.toNat).map (D4 G):=by
 subst d f;have e:b9 2 1 [.i c,.i<|G c]=[c].map (D4 G):=rfl;rw[e,R8,R8,<-XJ,<-XJ,R8];congr 1;have a:((l.length:Int)-t).toNat=l.length-t.toNat:=by omega
 have b:((l.length:Int)+1).toNat=l.length+1:=by omega
 rw[a,b,Int.toNat_zero,YJ,YJ,XP (l:=l.drop t.toNat)<|by simp];rw[XP<|by simp;omega]
def fY (j:l.Nodup)(d:D.r x y=a):(plF (l.map<|D4 D.d) x y<0↔0<=a/\a.toNat∉l)/\(¬plF (l.map<|D4 D.d) x y<0->plF (l.map<|D4 D.d) x y<=l.length/\ ∀c,l.take (plF (l.map<|D4 D.d) x y).toNat++ [c]++l.drop (plF (l.map<|D4 D.d) x y).toNat=X7 l c a):=by
 rw[DM.r] at d;rw[plF];by_cases e:x=0/\y=0;rw[Xg e]at d⊢;cases d;rw[Xc];refine⟨by omega,λ_=>⟨by omega,λc=>?_⟩⟩;rw[Ep<|by omega,Xz,List.take_length,List.drop_length];simp
 .rw[Xd e]at d⊢;cases f:D.m x y with
  |none=>rw[f]at d;cases d
  |some b=>
   rw[f]at d;cases d;obtain⟨k,i,n,rfl,rfl⟩:=YX f;rw[show(k.g:Int)=(D.d b:Nat) by rw[YZ i],DP];by_cases m:b∈l
   .have:=rQ m;rw[Xg m];refine⟨by simp[m],λ_=>⟨by omega,λc=>?_⟩⟩;have e:((0:Int)+(l.idxOf b:Nat)).toNat=l.idxOf b:=by omega
    rw[e,JG j m]
   rw[Xd m];exact⟨by simp[m],λh=>absurd (by omega) h⟩
def Rl.u (h:Rl G D S N fr Z)(d:(x=0/\y=0)\/z9 S x y):∃a,D.r x y=some a:=by rw[DM.r];obtain e|e:=d;exact⟨-1,by rw[Xg e]⟩;let⟨b,c⟩:=h.d.1 e;by_cases e:x=0/\y=0;exact⟨-1,by rw[Xg e]⟩;exact⟨b,by rw[Xd e,c]⟩
def io (hp:∃D K,RlC D S N fr Z [X,W,V,Y,U,T,R,Q]/\WF D K)(hv:z9 S i g)(hw:z9 S j m)(hx:(x=0/\y=0)\/z9 S x y)(hi:U32 i)(hg:U32 g)(hj:U32 j)(hm:U32 m)(ux:U32 x)(uy:U32 y):jy S i g fr Z X W V Y U T R Q P N j m x y:=by
 let⟨D,K,⟨hR,hc⟩,f⟩:=hp;have d:=hR.e f;have o:∀ {D K},RlC D S N fr Z [X,W,V,Y,U,T,R,Q]->WF D K-> ∃(p c:Nat) (a:Int) (r M:Sl),D.m i g=some p/\D.m j m=some c/\D.r x y=a/\D.L[p]? =r/\r.d/\D.e p=r.n/\D.L[c]? =M/\M.d/\D.e c=M.n/\i=p/\g=D.d p/\j=c/\m=D.d c/\cI N (atF S i g) 0=r.n.j/\cL N (atF S i g) 9=r.n.e.map (D4 D.d)/\((cI N (atF S j m) 7=0/\cI N (atF S j m) 8=0)↔M.n.h= -1)/\Y3 D i g j m x y=open Classical in if(D.e p).j≠1 then(D,1)else if(D.e c).h≠ -1\/Abv D c p then(D,10)else if 0<=a/\a.toNat∉(D.e p).e then(D,1)else(D.n p c (X7 (D.e p).e c a) p 3,0):=by intro D K u f;let⟨p,hp⟩:=u.1.d.1 hv;let⟨c,hc⟩:=u.1.d.1 hw;let⟨a,ha⟩:=u.1.u hx;let⟨r,h1,h2,h3,h4,h5,h6,J,h8,h9,al,aj⟩:=u.1.b hp;let⟨M,k1,k2,k3,k4,k5,k6,k7,k8,k9,ak,ap⟩:=u.1.b hc;refine⟨p,c,a,r,M,hp,hc,ha,h1,h2,h3,k1,k2,k3,h4,by rw[YZ h1,h5],k4,by rw[YZ k1,k5],h8,aj,by rw[k9,ak];exact f.z k1 k2,?_⟩;rw[Y3,hp,hc,ha]
 let⟨p,c,a,r,M,f1,f2,f3,f4,f5,f6,f7,f8,f9,aq,au,av,aw,O,A,ax,ay⟩:=o ⟨hR,hc⟩ f;let⟨s,h1,h2,h3,h4,h5,h6,J,h8,h9,al,aj⟩:=hR.b f1;let⟨s',k1,k2,k3,k4,k5,k6,k7,k8,k9,ak,ap⟩:=hR.b f2;have bad:r.n.j=1->((¬(cI N (atF S j m) 7=0/\cI N (atF S j m) 8=0))\/ ∀D K c p,RlC D S N fr Z [X,W,V,Y,U,T,R,Q]->WF D K->D.m j m=some c->D.m i g=some p->Abv D c p)->gx S i g j m x y fr Z X W V Y U T R Q P N:=by intro t H;rw[gx];refine nin<|nrn<|ndt<|G3 λD K u f=>?_;let⟨p,c,a,az,M,g1,g2,g3,g4,g5,g6,g7,g8,g9,aa,ab,ac,ad,C,E,F,v⟩:=o u f;rw[v,Xd<|by rw[g6,<-C,O];simp[t],Xg (by rcases H with H|H;exact .inl (by rw[g9];exactλe=>H<|F.2 e);exact .inr<|H D K c p u f g2 g1)];exact⟨rfl,rfl⟩
 have bad1:((cI N (atF S i g) 0≠1)\/((cI N (atF S j m) 7=0/\cI N (atF S j m) 8=0)/\(∀D K c p,RlC D S N fr Z [X,W,V,Y,U,T,R,Q]->WF D K->D.m j m=some c->D.m i g=some p-> ¬Abv D c p)/\plF (cL N (atF S i g) 9) x y<0))->jz S i g j m x y fr Z X W V Y U T R Q P N:=λH=>by rw[jz];refine nin<|nrn<|ndt<|G3 λD K u f=>?_;let⟨p,c,a,r,M,g1,g2,g3,g4,g5,g6,g7,g8,g9,aa,ab,ac,ad,C,E,F,v⟩:=o u f;by_cases t:r.n.j=1;rcases H with H| ⟨n1,n2,n3⟩;exact absurd (C.trans t) H;rw[E]at n3;rw[v,Xd<|by rw[g6];simp[t],Xd<|by rw[g9];exactλh=>h.elim (λh=>h<|F.1 n1)<|n2 D K c p u f g2 g1,Xg<|by rw[g6];exact(fY (f.A _ _ g4 g5).1 g3).1.1 n3];exact⟨rfl,rfl⟩;rw[v,Xg<|by rw[g6];exact t];exact⟨rfl,rfl⟩
 have G:cI N (atF S i g) 0=1->(cI N (atF S j m) 7=0/\cI N (atF S j m) 8=0)->(∀D K c p,RlC D S N fr Z [X,W,V,Y,U,T,R,Q]->WF D K->D.m j m=some c->D.m i g=some p-> ¬Abv D c p)-> ¬plF (cL N (atF S i g) 9) x y<0-> ∀B:a8,B=cL N (atF S i g) 9-> ∀n q:Int,n=ln (cL N (atF S i g) 9)-plF (cL N (atF S i g) 9) x y->q=ln (cL N (atF S i g) 9)+1->
   bW (J6 i g j m x y<|JD S fr Z X W V Y U T R Q P N) (.i 0::.l S::J10 fr Z X W V (Y+1) U T R Q [.l P,.l<|a9 (a9 (a9 N (atF S i g) 9<|.l<|pQ ((pQ B 0 (plF (cL N (atF S i g) 9) x y)++b9 2 1 [.i j,.i m])++pQ B (plF (cL N (atF S i g) 9) x y) n) 0 q) (atF S j m) 7<|.i i) (atF S j m) 8<|.i g]):=by
  intro t H hA ai B hB n q ah hq;subst hB;refine El (k:=3) (λD K u f=>?_) hp rfl;let⟨p,c,a,r,M,g1,g2,g3,g4,g5,g6,g7,g8,g9,aa,ab,ac,ad,C,E,F,v⟩:=o u f;have e:Y3 D i g j m x y=(D.n p c (X7 r.n.e c a) p 3,0):=by rw[v,Xd<|by rw[g6,<-C];simp[t],Xd<|by rw[g9];exactλh=>h.elim (λh=>h<|F.1 H)<|hA D K c p u f g2 g1,Xd (by rw[g6];exactλh=>ai<|by rw[E];exact(fY (f.A _ _ g4 g5).1 g3).1.2 h),g6]
  rw[E]at ai ah hq⊢;let⟨b1,b2⟩:=(fY (f.A _ _ g4 g5).1 g3).2 ai;have l1:ln (r.n.e.map<|D4 D.d)=(r.n.e.length:Int):=by simp[ln]
  rw[l1]at ah hq;refine⟨p,c,X7 r.n.e c a,p,g1,g2,by rw[e],by rw[e],?_,?_,?_⟩;rw[ac,ad,Ha (by omega) b1 ah hq,b2];rw[aa];rw[hI,af];rw[ab];rw[hG',af,Xz]
 rw[jy];refine J1 ⟨hi,hg,d⟩<|E9 h6 J ⟨λt=>J1 ⟨hj,hm,d⟩<|E9 k6 k7 ⟨λe7=>⟨λe8=>?_,λe8=>bad (by rw[<-O];exact t)<|.inl λh=>e8 h.2⟩,λe7=>bad (by rw[<-O];exact t)<|.inl λh=>e7 h.1⟩,λt=>bad1<|.inl t⟩;refine nin<|nrn<|ndi ⟨hj,hm,hi,hg,D,K,c,p,hR,f,f2,f1⟩ λb hb=>⟨λan=>bad (by rw[<-O];exact t)<|.inr λD K c p h1 h2 h3 h4=>(hb D K c p h1.1 h2 h3 h4).1 an,λam=>?_⟩;have hA:∀D K c p,RlC D S N fr Z [X,W,V,Y,U,T,R,Q]->WF D K->D.m j m=some c->D.m i g=some p-> ¬Abv D c p:=λD K c p h1 h2 h3 h4 h=>am<|(hb D K c p h1.1 h2 h3 h4).2 h;have hP:U1 [.i (atF S i g),.i x,.i y,.l N]:=⟨ux,uy,h6,J,by rw[A,Xc];exact f.o f4 f5⟩
 have kl:=f.o f4 f5;have ll:ln (cL N (atF S i g) 9)=(r.n.e.length:Int):=by rw[A];simp[ln]
 have ae:I64 (Y+1):=f.I (k:=3) (by rw[<-hc];rfl);have pq:=fY (f.A _ _ f4 f5).1 f3;rw[<-A]at pq;refine J1 ⟨hi,hg,d⟩<|iX hP ⟨λw=>bad1<|.inr ⟨⟨e7,e8⟩,hA,w⟩,λw=>J1 ⟨hi,hg,d⟩<|E9 h6 J λb=>⟨λhb h0=>?_,λhb=>ag ⟨λh0=>?_,λh0=>?_⟩⟩⟩
 .have I:cL N (atF S i g) 9=[]:=by rw[A];rw[ll]at h0;have:r.n.e=[]:=WP (by omega);rw[this];rfl
  have z:plF (cL N (atF S i g) 9) x y=0:=by have:=(pq.2 w).1;rw[ll]at h0;omega
  refine iX hP<|ndi w<|ag<|J1 ⟨hi,hg,d⟩<|J1 ⟨hj,hm,d⟩<|E9 h6 J<|E9 k6 k7<|ag<|ndi ?_ (ndi J<|E9 k6 k7<|ndi ae<|nin<|nrn<|ndt ?_);rw[z];simp[pQ,ln];exact G t ⟨e7,e8⟩ hA w [] I.symm (0-plF (cL N (atF S i g) 9) x y) 1 (by rw[h0]) (by rw[h0];rfl)
 have z:b9 2 0 []++cL N (atF S i g) 9=cL N (atF S i g) 9:=rfl;refine iX hP<|nin<|ndi w<|ndi (by have:=(pq.2 w).1;omega)<|ag<|J1 ⟨hi,hg,d⟩<|J1 ⟨hj,hm,d⟩<|E9 h6 J<|E9 k6 k7<|ag<|ndi ?_ (ndi J<|E9 k6 k7<|ndi ae<|nin<|nrn<|ndt ?_);rw[z];have:=(pq.2 w).1;simp only[pQ,ln,Xt,XV]at ll⊢;omega;rw[z];exact G t ⟨e7,e8⟩ hA w _ rfl _ _ rfl rfl
 .have I:cL N (atF S i g) 9=[]:=by rw[A];rw[ll]at h0;have:r.n.e=[]:=WP (by omega);rw[this];rfl
  have z:Sx.over (b9 2 0 []) 0 (cL N (atF S i g) 9)=cL N (atF S i g) 9:=by rw[I];rfl
  refine iX hP<|ag<|ndi (by rw[z];omega)<|ag<|ndi (by rw[z];omega)<|ndi w<|ndi (by have:=(pq.2 w).1;omega)<|ag<|J1 ⟨hi,hg,d⟩<|J1 ⟨hj,hm,d⟩<|E9 h6 J<|E9 k6 k7<|ag<|ndi ?_ (ndi J<|E9 k6 k7<|ndi ae<|nin<|nrn<|ndt ?_);rw[z];have:=(pq.2 w).1;simp only[pQ,ln,Xt,XV]at ll⊢;omega;rw[z];exact G t ⟨e7,e8⟩ hA w _ rfl _ _ rfl rfl
def du (h:z9 S i g=false\/z9 S j m=false\/(¬(x=0/\y=0)/\z9 S x y=false)):eu S i g j m x y fr Z X W V Y U T R Q P N:=by
 rw[eu];refine nin<|nrn<|ndt<|G3 λD K a c=>?_;have:Y3 D i g j m x y=(D,11):=by
  rw[Y3];obtain h|h| ⟨h,b⟩:=h;rw[a.1.h<|by simp[h]];rw[a.1.h (i:=j)<|by simp[h]];split<;>simp_all
  .have:D.r x y=none:=by rw[DM.r,Xd h,a.1.h (i:=x)<|by simp[b]]
   rw[this];split<;>simp_all
 rw[this];exact⟨rfl,rfl⟩
def yu :yw:=by
 rw[yw];intro i g j m x y S fr Z X W V Y U T R Q P N h;let⟨k,f,l,n,p,q,s⟩:=h;have e:=s;let⟨D,K,⟨t,w⟩,u⟩:=s;have a:=t.e u;have b:¬(x=0/\y=0)->jx S i g fr Z X W V Y U T R Q P j m x y N:=λv=>by rw[jx];exact bS ⟨k,f,a⟩ ⟨λc=>bS ⟨l,n,a⟩ ⟨λd=>bS ⟨p,q,a⟩ ⟨λr=>io e c d (.inr r) k f l n p q,λr=>du<|.inr<|.inr ⟨v,by simpa using r⟩⟩,λd=>du<|.inr<|.inl<|by simpa using d⟩,λc=>du<|.inl<|by simpa using c⟩
 refine⟨λex=>⟨λo=>bS ⟨k,f,a⟩ ⟨λc=>bS ⟨l,n,a⟩ ⟨λd=>io e c d (.inl ⟨ex,o⟩) k f l n p q,λd=>du<|.inr<|.inl<|by simpa using d⟩,λc=>du<|.inl<|by simpa using c⟩,λo=>b λh=>o h.2⟩,λex=>b λh=>ex h.1⟩
end
section
variable {D :DM}{S N S' N' P B:a8}{fr Z i g j m x y X W V U T Y R Q:Int}{K c p k:Nat}{G:Nat->Nat}{cs:Ak}{Lr:a8}{l:Ah}{t a n q:Int}
def Pp (f:l.Nodup)(a:c∈l)(g:t=(l.idxOf c:Nat))(e:n=(l.length:Int)-(t+1)):pQ (l.map<|D4 G) 0 t++pQ (l.map<|D4 G) (t+1) n=(N8 l c).map (D4 G):=by
 have h:=rQ a;subst g e;rw[R8,R8,<-XJ,<-Fq f a];congr 1;generalize l.idxOf c=t at*;have b:((t:Int)+1).toNat=t+1:=by omega
 have d:((l.length:Int)-((t:Int)+1)).toNat=l.length-(t+1):=by omega
 rw[b,d,Xz,Int.toNat_zero,YJ,XP (l:=l.drop<|t+1)<|by simp]
def TN (b:l.Nodup)(a:c∈l):(N8 l c).length+1=l.length:=by have d:=rQ a;rw[<-Fq b a];simp;omega
def mE {b:Nat}:b∈N8 l c↔b∈l/\b≠c:=by rw[N8];simp
def paI (S N:a8)(i g:Int):Int:=atF S (cI N (atF S i g) 7)<|cI N (atF S i g) 8
def paL (S N:a8)(i g:Int):a8:=cL N (paI S N i g) 9
def deL (S N:a8)(i g:Int):a8:=pQ (b9 2 0 []++paL S N i g) 0 (plF (paL S N i g) i g)++pQ (b9 2 0 []++paL S N i g) (plF (paL S N i g) i g+1) (ln (paL S N i g)-(plF (paL S N i g) i g+1))
structure MvH (S N:a8)(fr Z i g x y:Int)(cs:Ak):Prop where
 u:∃D K,RlC D S N fr Z cs/\WF D K
 z:z9 S i g=true
 w:¬(cI N (atF S i g) 7=0/\cI N (atF S i g) 8=0)
 v:(x=0/\y=0)\/z9 S x y=true
 f:U32 i
 e:U32 g
 r:U32 x
 o:U32 y
def MvH.d (h:MvH S N fr Z i g x y cs)(r:RlC D S N fr Z cs)(v:WF D K):∃(c q:Nat) (a:Int) (d:Sl),D.m i g=c/\D.r x y=a/\(D.e c).h=q/\D.m (cI N (atF S i g) 7) (cI N (atF S i g) 8)=q/\D.L[q]? =d/\d.d/\c∈d.n.e/\d.n.e.Nodup/\paL S N i g=d.n.e.map (D4 D.d)/\plF (paL S N i g) i g=(d.n.e.idxOf c:Nat)/\deL S N i g=(N8 d.n.e c).map (D4 D.d)/\(a=c↔x=i/\y=g)/\i=c/\g=D.d c/\cI N (atF S i g) 7=hI q/\cI N (atF S i g) 8=hG' D.d q/\eS D i g x y=if a=c\/(0<=a/\a.toNat∉d.n.e)then(D,1)else(D.n q c (X7 (N8 d.n.e c) c a) q 5,0):=by
 let⟨c,k⟩:=r.1.d.1 h.z;let⟨a,f⟩:=r.1.u h.v;let⟨s,t,U,u,B,C,W,X,Y,E,m,T⟩:=r.1.b k;have j:(D.e c).h≠ -1:=λe=>by refine h.w ?_;rw[E,m];exact(v.z t U).2 (by rw[<-u];exact e)
 let⟨q,d,p,M,O,P,Q,z,A,V,R,l,G,H,I,J⟩:=r.1.v v k j;have w:paL S N i g=d.n.e.map (D4 D.d):=R;refine⟨c,q,a,d,k,f,p,M,O,P,z,A,w,by rw[w,l],?_,?_,B,by rw[YZ t,C],by rw[E,<-u,p],by rw[m,<-u,p],?_⟩;rw[deL,w,l];exact Pp A z rfl (by simp[ln])
 .unfold DM.r at f;have hg:=v.H k;by_cases e:x=0/\y=0;rw[Xg e]at f;cases f;constructor;intro h;omega;rintro ⟨rfl,rfl⟩;omega
  .rw[Xd e]at f;cases o:D.m x y with
   |none=>rw[o]at f;cases f
   |some b=>
    rw[o]at f;cases f;constructor
    .intro h;have:b=c:=by omega
     subst this;obtain⟨s1,F,q2,rfl,rfl⟩:=YX o;rw[t]at F;cases F;exact⟨B.symm,C⟩
    rintro ⟨rfl,rfl⟩;rw[k]at o;cases o;rfl
 rw[eS,k,f];simp only;rw[Xd j,p,Xz,Q]
def MvH.h (h:MvH S N fr Z i g x y [X,W,V,U,T,Y,R,Q])(L:¬(x=i/\y=g))(w:¬plF (paL S N i g) x y<0):ln (deL S N i g)=plF (paL S N i g) i g+(ln (paL S N i g)-(plF (paL S N i g) i g+1))/\0<=plF (deL S N i g) x y/\plF (deL S N i g) x y<=ln (deL S N i g)/\ ∀n q:Int,n=ln (deL S N i g)-plF (deL S N i g) x y->q=ln (deL S N i g)+1->fU (.i i::.i g::.i x::.i y::JD S fr Z X W V U T Y R Q P N) (.i 0::.l S::J10 fr Z X W V U T (Y+1) R Q [.l P,.l<|a9 (a9 (a9 N (paI S N i g) 9<|.l<|pQ ((pQ (deL S N i g) 0 (plF (deL S N i g) x y)++b9 2 1 [.i i,.i g])++pQ (deL S N i g) (plF (deL S N i g) x y) n) 0 q) (atF S i g) 7<|.i<|cI N (atF S i g) 7) (atF S i g) 8<|.i<|cI N (atF S i g) 8]):=by
 have A:∀ {D K},RlC D S N fr Z [X,W,V,U,T,Y,R,Q]->WF D K-> ∃(c q:Nat) (a:Int) (b:Sl),D.m i g=c/\D.m (cI N (atF S i g) 7) (cI N (atF S i g) 8)=some q/\i=c/\g=D.d c/\cI N (atF S i g) 7=hI q/\cI N (atF S i g) 8=hG' D.d q/\deL S N i g=(N8 b.n.e c).map (D4 D.d)/\eS D i g x y=(D.n q c (X7 (N8 b.n.e c) c a) q 5,0)/\ ¬plF (deL S N i g) x y<0/\plF (deL S N i g) x y<=(N8 b.n.e c).length/\(N8 b.n.e c).take (plF (deL S N i g) x y).toNat++ [c]++(N8 b.n.e c).drop (plF (deL S N i g) x y).toNat=X7 (N8 b.n.e c) c a:=by
  intro D K j m;let⟨c,q,a,b,f1,F,f3,f4,f5,f6,f7,B,H,o,d,p,r,s,t,u,v⟩:=h.d j m;rw[H]at w;have h1:¬(0<=a/\a.toNat∉b.n.e):=λh=>w<|(fY B F).1.2 h;have pp:=fY (l:=N8 b.n.e c) (B.filter _) F;rw[<-d]at pp;have I:¬plF (deL S N i g) x y<0:=λh=>by have:=pp.1.1 h;rw[mE]at this;exact h1 ⟨this.1,λhm=>this.2 ⟨hm,by omega⟩⟩
  exact⟨c,q,a,b,f1,f4,r,s,t,u,d,by rw[v,Xd<|λh=>h.elim (λe=>L<|p.1 e) h1],I,(pp.2 I).1,(pp.2 I).2 c⟩
 let⟨D,K,j,m⟩:=h.u;let⟨c,q,a,b,f1,F,f3,f4,f5,f6,f7,B,H,o,d,p,r,s,t,u,v⟩:=h.d j m;let⟨c',O,a',aa,k1,k2,k3,k4,k5,k6,C,M,k9,f,z⟩:=A j m;have E:ln (deL S N i g)=((N8 aa.n.e c').length:Int):=by rw[C];simp[ln]
 refine⟨?_,by omega,by rw[E];exact f,λn q hn hq=>?_⟩
 .have e2:ln (deL S N i g)=((N8 b.n.e c).length:Int):=by rw[d];simp[ln]
  have e3:ln (paL S N i g)=(b.n.e.length:Int):=by rw[H];simp[ln]
  have:=TN B f7;rw[e2,e3,o];omega
 .refine El (k:=5) (λD K j m=>?_) h.u rfl;let⟨c,O,a,b,k1,k2,k3,k4,k5,k6,C,M,k9,f,z⟩:=A j m;have E:ln (deL S N i g)=((N8 b.n.e c).length:Int):=by rw[C];simp[ln]
  rw[E]at hn hq;refine⟨O,c,X7 (N8 b.n.e c) c a,O,k2,k1,by rw[M],by rw[M],?_,k5,k6⟩;rw[<-z];rw[<-Ha (G:=D.d) (c:=c) (by omega) f hn hq,<-C,<-k3,<-k4]
def dn (h:MvH S N fr Z i g x y [X,W,V,U,T,Y,R,Q])(u:(x=i/\y=g)\/plF (paL S N i g) x y<0):dy S i g x y fr Z X W V U T Y R Q P N:=by rw[dy];refine nin<|nrn<|ndt<|G3 λD K s t=>?_;let⟨c,q,a,E,v,o,w,z,A,B,C,p,r,f,j,b,k,l,m,n,d⟩:=h.d s t;rw[d,Xg];exact⟨rfl,rfl⟩;obtain e|e:=u;exact .inl<|b.2 e;rw[r]at e;exact .inr<|(fY p o).1.1 e
def MvH.b (h:MvH S N fr Z i g x y [X,W,V,U,T,Y,R,Q]):S.length<=1000/\0<=atF S i g/\atF S i g<N.length/\0<=paI S N i g/\paI S N i g<N.length/\U32 (cI N (atF S i g) 7)/\U32 (cI N (atF S i g) 8)/\(paL S N i g).length<=1000/\0<ln (paL S N i g)/\0<=plF (paL S N i g) i g/\plF (paL S N i g) i g<ln (paL S N i g)/\I64 (Y+1):=by
 let⟨D,K,b,d⟩:=h.u;let⟨c,q,a,H,j,J,L,e,z,A,B,M,f,l,m,o,p,r,t,v,w⟩:=h.d b d;let⟨s,O,P,h3,h4,h5,C,E,_⟩:=b.1.b j;let⟨s',k1,k2,k3,k4,k5,F,G,_⟩:=b.1.b e;have ix:=rQ B;have u:=d.H e;have I:ln (paL S N i g)=(H.n.e.length:Int):=by rw[f];simp[ln]
 refine⟨b.1.e d,C,E,F,G,u.1,u.2.1,by rw[f,Xc];exact d.o z A,by omega,by omega,by omega,d.I (k:=5)<|by rw[<-b.2];rfl⟩
def Qa (A B:a8):ln (A++B)=ln A+ln B:=by simp[ln]
def il (h:MvH S N fr Z i g x y [X,W,V,U,T,Y,R,Q])(d:¬(x=i/\y=g))(m:¬plF (paL S N i g) x y<0)(G:¬(x=0/\y=0)):js N (paI S N i g) (plF (paL S N i g) i g) x y S (atF S i g) fr Z X W V U T Y R Q P i g:=by
 obtain⟨s1,s2,w,z,A,K,L,s8,s9,H,I,q⟩:=h.b;obtain⟨D,E,O,F⟩:=h.h (P:=P) d m;have s:plF (deL S N i g) x y=ixF (deL S N i g) x y 0:=by unfold plF;rw[Xd G]
 rw[js];intro k u;have l:pQ (b9 2 0 []++cL N (paI S N i g) 9) 0 (plF (paL S N i g) i g)++pQ (b9 2 0 []++cL N (paI S N i g) 9) (plF (paL S N i g) i g+1) (ln (cL N (paI S N i g) 9)-(plF (paL S N i g) i g+1))=deL S N i g:=rfl;have M:cL N (paI S N i g) 9=paL S N i g:=rfl;have B:plF (paL S N i g) i g+(ln (cL N (paI S N i g) 9)-(plF (paL S N i g) i g+1))=ln (deL S N i g):=D.symm;have J:ln (paL S N i g)<=1000:=by simp only[ln];omega
 rw[l]at u;rw[<-Qa,l,B];obtain⟨v,k1,n⟩:=u;have e:∀c:k<ln (deL S N i g),(¬x=cI (deL S N i g) k 0\/ ¬y=cI (deL S N i g) k 1)->jt k N (paI S N i g) (plF (paL S N i g) i g) x y:=by
  intro c d;have c:k<((deL S N i g).length:Int):=c;let⟨r,o,p⟩:=eI v c;rw[jt,l];have t:ln (deL S N i g)<=1000:=by omega
  have t:((deL S N i g).length:Int)<=1000:=t;refine ndi (by rw[I64];omega)<|ndi ⟨by omega,by omega,?_⟩<|ndt ?_;rw[n,o];simp only[cI,p]at d;rw[jG,Xd (λ⟨a,b⟩=>by obtain h|h:=d;exact h a.symm;exact h b.symm)];simp only[Ci,B2];omega
 refine⟨λc=>ag<|ndi c<|ndi c ⟨λf=>⟨λj=>?_,λj=>e c<|.inr j⟩,λf=>e c<|.inl f⟩,λc=>?_⟩
 .have C:plF (deL S N i g) x y=k:=by let⟨r,o,p⟩:=eI v c;simp only[cI,p]at f j;rw[s,n,o,jG,Xg ⟨f.symm,j.symm⟩]
  subst C;refine ag<|ag<|ag<|ag<|J1 ⟨K,L,s1⟩<|J1 ⟨h.f,h.e,s1⟩<|E9 z A<|E9 s2 w<|ndi (Int.not_lt.2 z)<|ndi ?_ (ndi A<|E9 s2 w<|ndi q<|nin<|nrn<|ndt<|F _ _ rfl rfl);simp only[pQ,ln,Xt,XV];simp only[ln]at c;omega
 rw[s,n,Lt<|List.drop_eq_nil_of_le (by simp only[ln]at c;omega)]at E;omega
def im (h:MvH S N fr Z i g x y [X,W,V,U,T,Y,R,Q])(j:¬(x=i/\y=g))(ex:x=0)(o:y=0):jv S i g fr Z X W V U T Y R Q P N x y:=by
 obtain⟨s1,s2,a,c,d,m,n,q,r,A,B,k⟩:=h.b;have C:ln (paL S N i g)<=1000:=by simp only[ln];omega
 have l:ln (paL S N i g)<67108865:=by omega
 rw[jv];refine J1 ⟨h.f,h.e,s1⟩<|E9 s2 a<|J1 ⟨m,n,s1⟩<|iX ⟨h.r,h.o,c,d,q⟩ ⟨λf=>dn h<|.inr f,λf=>J1 ⟨h.f,h.e,s1⟩<|E9 s2 a<|J1 ⟨h.f,h.e,s1⟩<|E9 s2 a<|J1 ⟨m,n,s1⟩<|iX ⟨h.f,h.e,c,d,q⟩<|E9 c d λb=>⟨λz e=>absurd e<|Int.ne_of_gt r,λz=>ndi l ⟨λe=>?_,λe=>absurd r e⟩⟩⟩;let⟨w,D,E,p⟩:=h.h (P:=P) j f;have s:pQ (b9 2 0 []++cL N (atF S (cI N (atF S i g) 7)<|cI N (atF S i g) 8) 9) 0 (plF (cL N (atF S (cI N (atF S i g) 7)<|cI N (atF S i g) 8) 9) i g)++pQ (b9 2 0 []++cL N (atF S (cI N (atF S i g) 7)<|cI N (atF S i g) 8) 9) (plF (cL N (atF S (cI N (atF S i g) 7)<|cI N (atF S i g) 8) 9) i g+1) (ln (cL N (atF S (cI N (atF S i g) 7)<|cI N (atF S i g) 8) 9)-(plF (cL N (atF S (cI N (atF S i g) 7)<|cI N (atF S i g) 8) 9) i g+1))=deL S N i g:=rfl;have t:plF (cL N (atF S (cI N (atF S i g) 7)<|cI N (atF S i g) 8) 9) i g+(ln (cL N (atF S (cI N (atF S i g) 7)<|cI N (atF S i g) 8) 9)-(plF (cL N (atF S (cI N (atF S i g) 7)<|cI N (atF S i g) 8) 9) i g+1))=ln (deL S N i g):=w.symm;rw[<-Qa,s,t];have u:cL N (atF S (cI N (atF S i g) 7)<|cI N (atF S i g) 8) 9=paL S N i g:=rfl;rw[u];have v:plF (deL S N i g) x y=ln (deL S N i g):=by unfold plF;rw[Xg ⟨ex,o⟩]
 rw[v]at p;refine ndi (by rw[I64];omega)<|nin<|ag<|ag<|ag<|ndi ex<|ndi o<|nin<|ag<|nin<|ag<|J1 ⟨m,n,s1⟩<|J1 ⟨h.f,h.e,s1⟩<|E9 c d<|E9 s2 a<|ndi (Int.not_lt.2 c)<|ndi ?_ (ndi d<|E9 s2 a<|ndi k<|nin<|nrn<|ndt<|p _ _ rfl rfl);simp only[pQ,ln,Xt,XV];omega
def ii (h:MvH S N fr Z i g x y [X,W,V,U,T,Y,R,Q])(d:¬(x=i/\y=g))(ex:x=0)(m:¬y=0):jr S i g fr Z X W V U T Y R Q P N x y:=by
 obtain⟨s1,s2,j,k,l,n,o,p,q,t,u,v⟩:=h.b;have w:ln (paL S N i g)<=1000:=by simp only[ln];omega
 have f:ln (paL S N i g)<67108865:=by omega
 rw[jr];refine J1 ⟨h.f,h.e,s1⟩<|E9 s2 j<|J1 ⟨n,o,s1⟩<|iX ⟨h.r,h.o,k,l,p⟩ ⟨λc=>dn h<|.inr c,λc=>J1 ⟨h.f,h.e,s1⟩<|E9 s2 j<|J1 ⟨h.f,h.e,s1⟩<|E9 s2 j<|J1 ⟨n,o,s1⟩<|iX ⟨h.f,h.e,k,l,p⟩<|E9 k l λb=>⟨λs a=>absurd a<|Int.ne_of_gt q,λs=>ndi f ⟨λa=>?_,λa=>absurd q a⟩⟩⟩;have r:cL N (atF S (cI N (atF S i g) 7)<|cI N (atF S i g) 8) 9=paL S N i g:=rfl;rw[r];exact ndi (by rw[I64];omega)<|nin<|ag<|ag<|ag<|ndi ex<|ndi m<|ndi ⟨by omega,by omega,rfl⟩<|il h d c λe=>m e.2
def ig (h:MvH S N fr Z i g x y [X,W,V,U,T,Y,R,Q])(d:¬(x=i/\y=g))(ex:¬x=0):jp S i g fr Z X W V U T Y R Q P N x y:=by
 obtain⟨s1,s2,j,k,l,m,n,o,p,s,t,u⟩:=h.b;have v:ln (paL S N i g)<=1000:=by simp only[ln];omega
 have f:ln (paL S N i g)<67108865:=by omega
 rw[jp];refine J1 ⟨h.f,h.e,s1⟩<|E9 s2 j<|J1 ⟨m,n,s1⟩<|iX ⟨h.r,h.o,k,l,o⟩ ⟨λc=>dn h<|.inr c,λc=>J1 ⟨h.f,h.e,s1⟩<|E9 s2 j<|J1 ⟨h.f,h.e,s1⟩<|E9 s2 j<|J1 ⟨m,n,s1⟩<|iX ⟨h.f,h.e,k,l,o⟩<|E9 k l λb=>⟨λr a=>absurd a<|Int.ne_of_gt p,λr=>ndi f ⟨λa=>?_,λa=>absurd p a⟩⟩⟩;have q:cL N (atF S (cI N (atF S i g) 7)<|cI N (atF S i g) 8) 9=paL S N i g:=rfl;rw[q];exact ndi (by rw[I64];omega)<|nin<|ag<|ag<|ag<|ndi ex<|ndi ⟨by omega,by omega,rfl⟩<|il h d c λe=>ex e.1
def dt (h:z9 S i g=false\/(¬(x=0/\y=0)/\z9 S x y=false)):er S i g x y fr Z X W V U T Y R Q P N:=by
 rw[er];refine nin<|nrn<|ndt<|G3 λD K a c=>?_;have:eS D i g x y=(D,11):=by
  rw[eS];obtain h| ⟨h,b⟩:=h;rw[a.1.h<|by simp[h]]
  .have:D.r x y=none:=by rw[DM.r,Xd h,a.1.h (i:=x)<|by simp[b]]
   rw[this];split<;>simp_all
 rw[this];exact⟨rfl,rfl⟩
def fp (r:∃D K,RlC D S N fr Z [X,W,V,U,T,Y,R,Q]/\WF D K)(hv:z9 S i g)(q:(x=0/\y=0)\/z9 S x y)(m:cI N (atF S i g) 7=0)(n:cI N (atF S i g) 8=0):gv S i g x y fr Z X W V U T Y R Q P N:=by rw[gv];refine nin<|nrn<|ndt<|G3 λD K e o=>?_;let⟨c,f⟩:=e.1.d.1 hv;let⟨a,p⟩:=e.1.u q;let⟨s,h,k,l,t,u,v,w,j,b,d,_⟩:=e.1.b f;rw[eS,f,p];simp only;rw[Xg<|by rw[l];exact(o.z h k).1 ⟨b.symm.trans m,d.symm.trans n⟩];exact⟨rfl,rfl⟩
def xy :ya:=by
 rw[ya];intro i g x y S fr Z X W V U T Y R Q P N h;let⟨r,q,z,A,B⟩:=h;have p:=B;let⟨D,K,⟨v,hc⟩,I⟩:=B;have a:=v.e I;have mk:z9 S i g->(x=0/\y=0)\/z9 S x y-> ¬(cI N (atF S i g) 7=0/\cI N (atF S i g) 8=0)->MvH S N fr Z i g x y [X,W,V,U,T,Y,R,Q]:=λhv L t=>⟨p,hv,t,L,r,q,z,A⟩
 have j:z9 S i g->0<=atF S i g/\atF S i g<N.length:=λhv=>by let⟨c,J⟩:=v.d.1 hv;let⟨s,M,O,h3,h4,h5,F,G,_⟩:=v.b J;exact⟨F,G⟩
 have C:x=0->y=0->z9 S i g-> ¬(cI N (atF S i g) 7=0/\cI N (atF S i g) 8=0)->ju x i y g S fr Z X W V U T Y R Q P N:=λex f hv t=>by have H:=mk hv (.inl ⟨ex,f⟩) t;rw[ju];exact⟨λk=>⟨λl=>dn H<|.inl ⟨k,l⟩,λl=>im H (λe=>l e.2) ex f⟩,λk=>im H (λe=>k e.1) ex f⟩
 have E:x=0-> ¬y=0->z9 S i g->z9 S x y-> ¬(cI N (atF S i g) 7=0/\cI N (atF S i g) 8=0)->jq x i y g S fr Z X W V U T Y R Q P N:=λex f hv w t=>by have H:=mk hv (.inr w) t;rw[jq];exact⟨λk=>⟨λl=>dn H<|.inl ⟨k,l⟩,λl=>ii H (λe=>l e.2) ex f⟩,λk=>ii H (λe=>k e.1) ex f⟩
 have u:¬x=0->z9 S i g->z9 S x y-> ¬(cI N (atF S i g) 7=0/\cI N (atF S i g) 8=0)->gk x i y g S fr Z X W V U T Y R Q P N:=λex hv w t=>by have H:=mk hv (.inr w) t;rw[gk];exact⟨λk=>⟨λl=>dn H<|.inl ⟨k,l⟩,λl=>ig H (λe=>l e.2) ex⟩,λk=>ig H (λe=>k e.1) ex⟩
 have no:∀ {b:Bool},¬b->b=false:=by simp
 refine⟨λex=>⟨λf=>bS ⟨r,q,a⟩ ⟨λd=>J1 ⟨r,q,a⟩<|E9 (j d).1 (j d).2 ⟨λm=>⟨λn=>fp p d (.inl ⟨ex,f⟩) m n,λn=>C ex f d λe=>n e.2⟩,λm=>C ex f d λe=>m e.1⟩,λd=>dt<|.inl<|no d⟩,λf=>bS ⟨r,q,a⟩ ⟨λd=>bS ⟨z,A,a⟩ ⟨λo=>J1 ⟨r,q,a⟩<|E9 (j d).1 (j d).2 ⟨λm=>⟨λn=>fp p d (.inr o) m n,λn=>E ex f d o λe=>n e.2⟩,λm=>E ex f d o λe=>m e.1⟩,λo=>dt<|.inr ⟨λe=>f e.2,no o⟩⟩,λd=>dt<|.inl<|no d⟩⟩,λex=>bS ⟨r,q,a⟩ ⟨λd=>bS ⟨z,A,a⟩ ⟨λo=>J1 ⟨r,q,a⟩<|E9 (j d).1 (j d).2 ⟨λm=>⟨λn=>fp p d (.inr o) m n,λn=>u ex d o λe=>n e.2⟩,λm=>u ex d o λe=>m e.1⟩,λo=>dt<|.inr ⟨λe=>ex e.1,no o⟩⟩,λd=>dt<|.inl<|no d⟩⟩
end
def A2 (k:Int)(t x:Str):Nod:=⟨k,t,[],x,0,0,false, -1,[]⟩
def DM.f (D:DM):DM:=if D.h=[]then⟨D.L++ [⟨1,false,A2 0 [] []⟩],[D.L.length],D.C⟩else D
def DM.b (D:DM)(n:Nod):DM×Nat:=match D.f.h with
 |i::l=>(⟨D.f.L.modify i λs=>⟨s.g,true,n⟩,l,D.C⟩,i)
 | []=>(D,0)
def z5 (D:DM)(k:Int)(t x:Str):DM×Int×Int×Int:=if(k=1/\v5 t=false)\/(k=2/\D7 x=false)then(D,0,0,1)else
 let r:=D.b (A2 k t x)
 ((r.1.o 0).o 1,r.2,r.1.d r.2,0)
def rL :Ar->Prop
 | [.i k,.s t,.s y,.l g,.s x,.l ch,.l S,.i fr,.i j,.i a,.i b,.i c,.i d,.i e,.i f,.i h,.i m,.l _,.l N]=>y=[]/\g=[]/\ch=[]/\((k=1/\x=[])\/(k=2/\t=[]))/\uE S N fr j [a,b,c,d,e,f,h,m]|_=>False
def dN :Ar->Ar->Prop
 | [.i k,.s t,.s y,.l u,.s x,.l ch,.l S,.i fr,.i E,.i a,.i b,.i c,.i d,.i e,.i f,.i h,.i m,.l _,.l N],[.i i,.i g,.i r,.l p,.i j,.i n,.i q,.i v,.i w,.i z,.i A,.i B,.i C,.i F,.l _,.l o]=>
  cD S N fr E [a,b,c,d,e,f,h,m] p o j n [q,v,w,z,A,B,C,F] λD=>((z5 D k t x).1,(i,g,r)=(z5 D k t x).2)
 |_,_=>False
def cCre:=mkD "cre" [nV] rL [hV,iV] dN
def Ug :Ay->List (Nat×(Fm->SS->H6)):=aQ
def Wk :Nat->List (Ay×Con)
 |_=>[(42,gz),(LVn,dk "lives")]
def VQ :Nat->Aw->E4:=aI
open Go Go.Xe Go.Sx
def Cl :a8:=(b9 4 1 [(.i<|1),(.b false),(.i<|0),(.i<|-1)])
def ZT :Prop:=
 ∀j k w x m y a c d f g o p q r t u v h,rL (.i j::.s k::.s w::.l x::.s m::.l y::JD a c d f g o p q r t u v h)->Ca (JD a c d f g o p q r t u v h) λT=>Ca (c+(-1)<ln a) λZ=>Ca (ln a<ln a+1) λY=>Ca (c+(-1)) λX=>Ca (h++b9 10 1 [.i j,.s k,.l [],.s m,.i 0,.i 0,.b false,.i 0,.i 0,.l []]) λW=>Ca (.i j::.s k::.s w::.l x::.s m::.l y::T) λV=>Cg V5 M6 [.i j,.s k,.s w,.l x,.s m,.l y] (λR=>∀z,R [.i z]->((z=0->((c=0->((ln a=1048576->Nq (ln a) (Nd (dN V<|.i 0::.i 0::.i 3::JD a c d f g o p q r t u v W) True))/\(¬ln a=1048576->Nd (c=0) (Ni (ln a)<|Nd (ln a+1<67108865)<|Nr (ln a)<|Nd (I64<|ln a)<|Nb (ln a) (ln a+1)<|Nd Y<|Nd Y<|Nd Y<|Nd Y<|Nd (I64<|d+1)<|Nd Y<|Nd (I64<|f+1)<|Nd (I64<|g+1)<|Nq (ln a+1)<|Nd (dN V<|.i (IntKind.wrap .u32<|ln a)::.i (cI (a++Cl) (ln a) 0)::.i 0::.l (a9 (a9 (a9 (a++Cl) (ln a) 2<|.i 0) (ln a) 1<|.b true) (ln a) 3<|.i<|ln h)::J10 (cI (a++Cl) (ln a) 2) (d+1) (f+1) (g+1) o p q r t u [.l v,.l W]) True))))/\(¬c=0->Nd (¬c=0) (Nd (I64 X)<|Nb X (ln a)<|Nd Z<|Nd Z<|Nd Z<|Nd Z<|Nd (I64<|d+1)<|Nd Z<|Nd (I64<|f+1)<|Nd (I64<|g+1)<|Nq (ln a)<|Nd (dN V<|.i (IntKind.wrap .u32 X)::.i (cI a X 0)::.i 0::.l (a9 (a9 (a9 a X 2<|.i 0) X 1<|.b true) X 3<|.i<|ln h)::J10 (cI a X 2) (d+1) (f+1) (g+1) o p q r t u [.l v,.l W]) True))))/\(¬z=0->Nq (ln a) (Nd (dN V<|.i 0::.i 0::.i 1::T) True))))
def ZS :kq cCre Ug (Wk 0) (VQ 0) 61=ZT:=by kernel_rfl
section
variable {D D':DM}{S N S' N' st:a8}{fr Z i g x y c0 c1 c2 c3 c4 c5 c6 c7:Int}{K c k:Nat}{G Y:Nat->Nat}{T T':List RS}{M:List RN}{cs:Ak}
def WF.rn_eq (w:WF D K){s:Sl}(h:D.L[c]? =some s)(f:s.d)(d:∀(j:Nat) s,D.L[j]? =some s->s.d->G j=Y j):s.n.n G=s.n.n Y:=by
 unfold Nod.n;have g:hG' G s.n.h=hG' Y s.n.h:=by unfold hG';obtain e| ⟨p,m,e,a,b,_⟩:=w.u c s h f;rw[e];rfl;rw[e,af,af,Xz,d p m a b]
 have i:s.n.e.map (D4 G)=s.n.e.map (D4 Y):=List.map_congr_left λj k=>by let⟨l,a,b,_⟩:=(w.A c s h f).2 j k;unfold D4;rw[d j l a b]
 rw[g,i]
def RlT.b (h:RlT G D T M fr Z)(j:∀(c:Nat) s,D.L[c]? =some s->s.d->s.n.n G=s.n.n Y):RlT Y D T M fr Z:=
 ⟨h.h,λi s a=>by let⟨r,d,e,f,g⟩:=h.m i s a;exact⟨r,d,e,f,λb=>by rw[<-j i s a b];exact g b⟩,h.o,h.d,h.e,h.v,h.w⟩
def Ch.e {q:RS->RS}{j:Nat}:∀ {l:Ah} {fr:Int},Ch T fr l->j∉l->Ch (T.modify j q) fr l
 | [],_,h,_=>h|a::l,_,⟨c,r,d,f,g⟩,b=>by exact⟨c,r,by rw[j9,Xd (λe=>b (by simp[e]))];exact d,f,g.e λm=>b<|by simp[m]⟩
def Ch.b :∀ {l:Ah} {fr:Int},Ch T fr l-> ∀j∈l,∃r,T[j]? =some r/\r.u=false
 | [],_,_,j,h=>by simp at h|a::l,_,⟨e,r,b,c,d⟩,j,h=>by obtain rfl|h:=Xw.1 h;exact⟨r,b,c⟩;exact d.b j h
variable {n:Nod}
def nY {L:List Sl}:∀ {c:Nat} {s:Sl},L[c]? =some s->s.d=false->(L.modify c λs=>⟨s.g,true,n⟩).countP (·.d)=L.countP (·.d)+1:=by
 induction L with
 |nil=>intro c s h;simp at h
 |cons a L d=>
  intro c s h b;cases c with
  |zero=>simp at h;subst h;simp[List.countP_cons,b]|succ c=>simp at h;simp[List.countP_cons,d h b];omega
variable {C:Ak}
def RlT.F {i:Nat}{l:Ah}(h:RlT G D T M fr Z)(E:D.h=i::l){r:RS}(t:T[i]? =some r):RlT G ⟨D.L.modify i λs=>⟨s.g,true,n⟩,l,C⟩ (T.modify i λr=>⟨r.g,true,0,M.length⟩) (M++ [n.n G]) r.e (Z+1):=by
 have q:=h.d;rw[E]at q;let⟨_,r',v,I,Y⟩:=q;rw[t]at v;cases v;have d:=h.e;rw[E]at d;let⟨X,d⟩:=List.nodup_cons.1 d;let⟨s,F,W,H,_⟩:=h.t t;have w:∀j:Nat,∀o,T[j]? =some o->o.u->o.p<M.length:=λj o A B=>by let⟨z,k1,k2,k3,k4⟩:=h.t A;let⟨k5,k6⟩:=k4 (by rw[<-k3];exact B);have:=(WM.1 k6).1;omega
 refine⟨by simpa using h.h,λj z c=>?_,λa b N O f k P Q e=>?_,Y.e X,d,λj z c K=>?_,?_⟩;simp only[j9]at c⊢;by_cases e:i=j;subst e;rw[Xg rfl,F]at c;cases c;exact⟨⟨r.g,true,0,M.length⟩,by rw[Xg rfl,t];rfl,W,rfl,λ_=>⟨by simp,by simp⟩⟩;rw[Xd e]at c⊢;let⟨o,A,B,S,U⟩:=h.m j z c;refine⟨o,A,B,S,λH=>?_⟩;let⟨V,J⟩:=U H;exact⟨V,by rw[WS (WM.1 J).1];exact J⟩;simp only[j9]at f k;by_cases x:i=a<;>by_cases y:i=b;omega;rw[Xg x]at f;rw[Xd y]at k;subst x;rw[t]at f;cases f;have:=w b O k Q;simp only at e;omega;rw[Xd x]at f;rw[Xg y]at k;subst y;rw[t]at k;cases k;have:=w a N f P;simp only at e;omega;rw[Xd x]at f;rw[Xd y]at k;exact h.o a b N O f k P Q e;simp only[j9]at c;by_cases e:i=j;subst e;rw[Xg rfl,F]at c;cases c;simp at K;rw[Xd e]at c;have:=h.v j z c K;rw[E]at this;obtain R|m:=Xw.1 this;exact absurd R.symm e;exact m;rw[h.w];have:=nY (n:=n) F (by rw[<-H];exact I);simp only[this];omega
def RlT.H (h:RlT G D T M fr Z)(q:D.h=[]):RlT G ⟨D.L++ [⟨1,false,n⟩],[D.L.length],C⟩ (T++ [⟨1,false,0, -1⟩]) M (D.L.length+1) Z:=by
 have get:∀(j:Nat) s,(D.L++ [⟨1,false,n⟩])[j]? =some s->D.L[j]? =some s\/(j=D.L.length/\s=⟨1,false,n⟩):=λj s c=>by
  by_cases e:j<D.L.length;rw[WS e]at c;exact .inl c
  .rw[WR (by omega)]at c;have:j-D.L.length=0:=by by_cases z:j-D.L.length=0;exact z;rw[YT<|by simp;omega]at c;cases c
   rw[this]at c;cases c;exact .inr ⟨by omega,rfl⟩
 have d:∀(j:Nat) r,(T++ [⟨1,false,0, -1⟩])[j]? =some r->r.u->T[j]? =some r:=λj r c v=>by
  by_cases e:j<T.length;rw[WS e]at c;exact c
  .rw[WR (by omega)]at c;have:j-T.length=0:=by by_cases z:j-T.length=0;exact z;rw[YT<|by simp;omega]at c;cases c
   rw[this]at c;cases c;simp at v
 refine⟨by simpa using h.h,λj s c=>?_,λa b g i o p k l e=>h.o a b g i (d a g o k) (d b i p l) k l e,⟨rfl,⟨1,false,0, -1⟩,?_,rfl,rfl⟩,by simp,λj s c t=>?_,?_⟩;obtain c| ⟨rfl,rfl⟩:=get j s c;let⟨r,f,m⟩:=h.m j s c;exact⟨r,by rw[WS (WM.1 f).1];exact f,m⟩;exact⟨⟨1,false,0, -1⟩,by rw[<-h.h];simp,rfl,rfl,λh=>by simp at h⟩;rw[<-h.h];simp;obtain c| ⟨rfl,rfl⟩:=get j s c;have:=h.v j s c t;rw[q]at this;simp at this;simp;rw[h.w];simp[List.countP_append]
def Uz {X:a8}(h:∀(j:Nat) c,T'[j]? =some c->c.u->(∃r,T[j]? =some r/\r.u/\r.p=c.p)\/(N.length:Int)<=c.p):Fr (T.map RS.d) N (T'.map RS.d) (N++X):=by
 refine⟨by simp,λk l _=>WS l,λj b e=>?_⟩;rw[Xc]at b;have d:T'[((j:Nat):Int).toNat]? =(T'[j]'b):=by rw[Xz];exact WV b
 simp only[cB,cI]at e⊢;rw[d9 d]at e⊢;obtain⟨r,a,g,i⟩|a:=h j _ (WV b) e
 .have f:T[((j:Nat):Int).toNat]? =some r:=by rw[Xz];exact a
  refine .inl ⟨j,by rw[Xc];exact(WM.1 a).1,?_,?_⟩;rw[d9 f];exact g;rw[d9 f];exact i
 exact .inr a
end
section
variable {D D':DM}{S N S' N' st Z:a8}{fr lv i g x y X:Int}{K c k:Nat}{G G':Nat->Nat}{T T':List RS}{M:List RN}{cs:Ak}{n:Nod}
def DM.H {j:Nat}{s:Sl}(h:D.L[j]? =s):D.f.L[j]? =s:=by rw[DM.f];split;rw[WS (WM.1 h).1];exact h;exact h
def DM.F {j:Nat}{s:Sl}(h:D.f.L[j]? =s)(a:s.d):D.L[j]? =s:=by rw[DM.f] at h;split at h;by_cases e:j<D.L.length;rw[WS e]at h;exact h;rw[WR<|by omega]at h;have:=WT h;simp at this;rw[this]at a;simp at a;exact h
def Rl.r (h:Rl D.d D S N fr lv)(w:WF D K)(W:(fr=0/\Z=S++Cl/\X=ln S+1)\/(fr≠0/\Z=S/\X=fr))(P:n.h= -1/\n.e=[]):∃i:Nat,X=i+1/\(D.b n).2=i/\i<Z.length/\cI Z i 0=(D.b n).1.d i/\i<=1000/\Z.length<=1001/\(D.b n).1.C=D.C/\Rl (D.b n).1.d (D.b n).1 (a9 (a9 (a9 Z i 2<|.i 0) i 1<|.b true) i 3<|.i<|ln N) (N++ [(n.n D.d).d]) (cI Z i 2) (lv+1)/\Fr S N (a9 (a9 (a9 Z i 2<|.i 0) i 1<|.b true) i 3<|.i<|ln N) (N++ [(n.n D.d).d]):=by
 obtain⟨T,M,rfl,rfl,t⟩:=h;have hl:=t.h;have ab:=w.m;have f:∃T1 i l,Z=T1.map RS.d/\RlT D.d D.f T1 M X lv/\D.f.h=i::l/\(∀(j:Nat) r,T1[j]? =some r->r.u->T[j]? =some r)/\T1.length<=1001:=by
  obtain⟨rfl,rfl,rfl⟩| ⟨V,rfl,rfl⟩:=W
  .have m:D.h=[]:=by
    have:=t.d;cases e:D.h with
    |nil=>rfl|cons a l=>rw[e]at this;have:=this.1;omega
   refine⟨T++ [⟨1,false,0, -1⟩],D.L.length,[],by simp[Cl,RS.d,b9],?_,by rw[DM.f,Xg m],λj r d J=>?_,by simp;omega⟩
   .have U:ln (T.map RS.d)=(D.L.length:Int):=by simp[ln,hl]
    rw[DM.f,Xg m,U];exact t.H m (n:=A2 0 [] []) (C:=D.C)
   by_cases e:j<T.length;rw[WS e]at d;exact d;rw[WR<|by omega]at d;have:=WT d;simp at this;rw[this]at J;simp at J
  .cases e:D.h with
   |nil=>have:=t.d;rw[e]at this;exact absurd this V|cons a l=>
    have G:D.f=D:=by rw[DM.f,Xd<|by simp[e]]
    exact⟨T,a,l,rfl,by rw[G];exact t,by rw[G];exact e,λ_ _ h _=>h,by omega⟩
 obtain⟨T1,i,l,rfl,k,m,A,z⟩:=f;have x:=k.d;rw[m]at x;let⟨aa,r,B,J,_⟩:=x;have hi:=(WM.1 B).1;have q:D.b n=(⟨D.f.L.modify i λs=>⟨s.g,true,n⟩,l,D.C⟩,i):=by rw[DM.b,m]
 have y:∀(j:Nat) s,D.L[j]? =some s->D.d j=(D.b n).1.d j:=λj s d=>by rw[YZ d,q];simp only[DM.d,j9,DM.H d];by_cases e:i=j<;>simp[e]
 have E:T1[((i:Nat):Int).toNat]? =some r:=by rw[Xz];exact B
 let⟨s,Q,I,o,_⟩:=k.t B;have O:a9 (a9 (a9 (T1.map RS.d) i 2<|.i 0) i 1<|.b true) i 3 (.i<|ln<|M.map RN.d)=(T1.modify i λr=>⟨r.g,true,0,M.length⟩).map RS.d:=by rw[Y5 (λr:RS=> {r with e:=0})<|λ_=>rfl,Y5 (λr:RS=> {r with u:=true})<|λ_=>rfl,Y5 (λr:RS=> {r with p:=(M.length:Int)}) (λa=>by simp[RS.d,ln]),Xz,D8,D8]
 refine⟨i,by omega,by rw[q],by rw[Xc];exact hi,?_,by omega,by rw[Xc];exact z,by rw[q],?_,?_⟩;simp only[cI];rw[d9 E,q];simp only[DM.d,j9,Q];simp[RS.d,Dat.j,I]
 .rw[O];have H:cI (T1.map RS.d) i 2=r.e:=by simp only[cI];rw[d9 E];rfl
  rw[H];refine⟨_,M++ [n.n D.d],rfl,by simp,?_⟩;have:=(k.F (C:=D.C) (n:=n) m B).b (Y:=(D.b n).1.d) λc s v o=>?_;rw[show(D.b n).1=⟨D.f.L.modify i λs=>⟨s.g,true,n⟩,l,D.C⟩ by rw[q]]at this⊢;exact this;simp only[j9]at v;by_cases e:i=c;subst e;rw[Xg rfl,Q]at v;cases v;simp only[Nod.n,P.1,P.2];rfl;rw[Xd e]at v;exact w.rn_eq (DM.F v o) o λj s h _=>y j s h
 rw[O];refine Uz λj R d F=>?_;simp only[j9]at d;by_cases e:i=j;subst e;rw[Xg rfl,B]at d;cases d;exact .inr (by simp);rw[Xd e]at d;exact .inl ⟨R,A j R d F,F,rfl⟩
end
section
variable {D :DM}{S N Z W:a8}{fr Y X p k V U c2 c3 c4 c5 c6 c7:Int}{t x:Str}{K:Nat}
def Jq :A9 (.mk 1 t [] [] [] [])↔v5 t:=by simp[A9,K0,AllAs,bN,c8.k,c8.x,c8.t,c8.y,c8.a,c8.c,c8.h,c8.d,c8.j,c8.e,iL,Asc]
def WF.live (w:WF D K)(h:Rl D.d D S N fr Y):0<=Y/\Y<=1000:=by obtain⟨T,M,rfl,rfl,h⟩:=h;have:=w.m;have:=List.countP_le_length (p:=λs:Sl=>s.d) (l:=D.L);rw[h.w];omega
def Ld (z:(k=1/\x=[])\/(k=2/\t=[]))(f:¬((k=1/\v5 t=false)\/(k=2/\D7 x=false)))(y:∃D K,RlC D S N fr Y [V,U,c2,c3,c4,c5,c6,c7]/\WF D K)(q:(fr=0/\W=S++Cl/\X=ln S+1)\/(fr≠0/\W=S/\X=fr))(A:p=X-1):0<=p/\p<ln W/\p<=1000/\dN (.i k::.s t::.s []::.l []::.s x::.l []::JD S fr Y V U c2 c3 c4 c5 c6 c7 Z N) (.i (IntKind.wrap .u32 p)::.i (cI W p 0)::.i 0::.l (a9 (a9 (a9 W p 2<|.i 0) p 1<|.b true) p 3<|.i<|ln N)::J10 (cI W p 2) (Y+1) (V+1) (U+1) c2 c3 c4 c5 c6 c7 [.l Z,.l<|N++b9 10 1 [.i k,.s t,.l [],.s x,.i 0,.i 0,.b false,.i 0,.i 0,.l []]]):=by
 have row:∀G,(b9 10 1 [.i k,.s t,.l [],.s x,.i 0,.i 0,.b false,.i 0,.i 0,.l []]:a8)=[((A2 k t x).n G).d]:=λG=>rfl;let⟨D,K,c,d⟩:=y;let⟨i,r,g,u,h,v,w,j,m,o⟩:=c.1.r d q (n:=A2 k t x) ⟨rfl,rfl⟩;have a:p=i:=by omega
 refine⟨by omega,by rw[a];simp only[ln];omega,by omega,by rw[row D.d,a];exact o,λD K c d=>?_⟩;let⟨i,r,g,u,h,v,w,j,m,o⟩:=c.1.r d q (n:=A2 k t x) ⟨rfl,rfl⟩;have a:p=i:=by omega
 have e:z5 D k t x=(((D.b<|A2 k t x).1.o 0).o 1,((D.b<|A2 k t x).2:Int),((D.b<|A2 k t x).1.d (D.b<|A2 k t x).2:Int),0):=by rw[z5,Xd f]
 refine⟨⟨?_,?_⟩,?_⟩<;>simp only[e];rw[row D.d,a];exact(m.o 0).o 1;show _=(((D.b<|A2 k t x).1.o 0).o 1).C;unfold DM.o;simp only;rw[j,<-c.2];rfl;rw[a,h,g,T7 (by simp[IntKind.min,IntKind.signed])<|by simp[IntKind.max,IntKind.signed,IntKind.bits];omega]
def ZR :ZT:=by
 rw[ZT];intro k t y u x ch S fr Y V U c2 c3 c4 c5 c6 c7 Z N h;obtain⟨rfl,rfl,rfl,j,q⟩:=h;have d:=q;let⟨D,K,⟨m,n⟩,c⟩:=q;have o:=m.e c;have l:=c.live m;have r:I64 (V+1):=c.I (k:=0) (by rw[<-n];rfl);have s:I64 (U+1):=c.I (k:=1) (by rw[<-n];rfl);have E:ln S<=1000:=by simp only[ln];omega
 have B:0<=ln S:=by simp only[ln];omega
 refine ndi ⟨.mk k t [] [] x [],rfl,rfl,rfl,rfl,rfl,rfl⟩ λe i=>?_;have hv:e=0↔ ¬((k=1/\v5 t=false)\/(k=2/\D7 x=false)):=by rw[(i (.mk k t [] [] x []) ⟨rfl,rfl,rfl,rfl,rfl,rfl⟩).1];obtain⟨rfl,rfl⟩| ⟨rfl,rfl⟩:=j;rw[Jq];simp;rw[uM];simp
 refine⟨λf=>⟨λb=>⟨λv=>by omega,λ_=>?_⟩,λb=>?_⟩,λf=>nin<|nrn<|ndt<|G3 λD K C c=>?_⟩
 .obtain⟨w,a,A,g⟩:=Ld (Z:=Z) (p:=ln S) j (hv.1 f) d (.inl ⟨b,rfl,rfl⟩) (by omega);have z:ln S<ln S+1:=by omega
  exact ndi b<|nin<|ag<|nrn<|ndi (by rw[I64];omega)<|ag<|ndi z<|ndi z<|ndi z<|ndi z<|ndi z<|ndi (by rw[I64];omega)<|ndi z<|ndi r<|ndi s<|nin<|nrn<|ndt g
 let⟨w,a,A,g⟩:=Ld (Z:=Z) (p:=fr+ -1) j (hv.1 f) d (.inr ⟨b,rfl,rfl⟩) (by omega);exact ndi b<|ndi (by rw[I64];omega)<|ag<|ndi a<|ndi a<|ndi a<|ndi a<|ndi a<|ndi (by rw[I64];omega)<|ndi a<|ndi r<|ndi s<|nin<|nrn<|ndt g;have:(k=1/\v5 t=false)\/(k=2/\D7 x=false):=Classical.byContradiction λh=>f<|hv.2 h;rw[z5,Xg this];exact⟨rfl,rfl⟩
end
structure Ed where
 n:Str
 d:Bool
 v:Str
def Ed.b (e:Ed):Ar:=[.s e.n,.b e.d,.s e.v]
def cM (e:Ed):Bool:=v5 e.n&&D7 e.v&&(!e.d||e.v.isEmpty)
def edA (e:Ed):List Att:=if e.d then []else [⟨e.n,e.v⟩]
def O9 :List Att->Ed->List Att
 | [],e=>edA e|a::l,e=>if lt a.n e.n then a::O9 l e else if a.n=e.n then edA e++l else edA e++a::l
def bad1 :List Att->Ed->Bool
 | [],e=>e.d|a::l,e=>if lt a.n e.n then bad1 l e else if a.n=e.n then false else e.d
def apF (l:List Att)(e:Ed):List Att×Int:=if bad1 l e then([],11)else if 8<(O9 l e).length then([],3)else(O9 l e,0)
def iW (l:List Att)(e:Ed)(i k:Int):List Att:=if k=0 then O9 (l.drop i.toNat) e else l.drop i.toNat
def mH (l:List Att)(e:Ed)(i k:Int):Bool:=if k=0 then bad1 (l.drop i.toNat) e else false
def vAt (l:List Att):Prop:=l.length<=8/\(∀a∈l,v5 a.n/\D7 a.v)/\Asc (l.map Att.n)
def IE (a b:Str):Int:=if lt a b then-1 else if a=b then 0 else 1
def ID :Ar->Prop
 | [.s _,.s _]=>True|_=>False
def jB :Ar->Ar->Prop
 | [.s a,.s b],[.i n]=>n=IE a b|_,_=>False
def cCmp:=mkC "cmp" [sV,sV] ID [iV] jB
def Dx :Ar->Prop
 | [.l L]=>∃e:Ed,L=[e.b]
 |_=>False
def jA :Ar->Ar->Prop
 | [.l L],[.i r]=>∀e:Ed,L=[e.b]->(r=0↔cM e=true)
 |_,_=>False
def cCed:=mkC "ced" [.t (.g<|.lst 155)] Dx [iV] jA
def Do :Ar->Prop
 | [.l L,.l E]=>∃(l:List Att) (e:Ed),L=l.map Att.d/\E=[e.b]/\vAt l/\cM e=true|_=>False
def fH :Ar->Ar->Prop
 | [.l L,.l E],[.l O,.i r]=>∀(l:List Att) (e:Ed),L=l.map Att.d->E=[e.b]->O=(apF l e).1.map Att.d/\r=(apF l e).2|_,_=>False
def cApp:=mkC "app" [.t (.g<|.lst vC),.t<|.g<|.lst 155] Do [.t (.g<|.clp vC),iV] fH
def capB (t j:Nat)(c:List G):Fm->SS->Bb (List<|Nat×List G):=λf _=>match lk f t with
 |some (.H _ _ a)=>match a[j]? with
  |some (.g b _ _ _)=>some [(b,c)]|_=>none
 |_=>none
def BV :Ar->Ar->Prop
 | [.l L],[.i i]=>0<=i/\i<=L.length/\ ∀e:Ed,L=[e.b]->0<i->cM e|_,_=>False
def IC:=B2
def Lb :Ar->Ar->Prop
 | [.l L],[.i i]=>1<=i|_,_=>False
def cfMu:=B2
def iF :Ar->Ar->Prop
 | [.l A, .l B], [.i i, .i k, .l O, .i r] => 0 ≤ i ∧ i ≤ A.length ∧ 0 ≤ k ∧ k ≤ B.length ∧ ∀ (l : List Att) (e : Ed), A = l.map Att.d → B = [e.b] → ((r = 0 ∧ mH l e i k = bad1 l e) ∨ (r = 11 ∧ bad1 l e = true)) ∧
   ∃o:List Att,O=o.map Att.d/\(o.length:Int)<=i+k/\o++iW l e i k=O9 l e
 |_,_=>False
def cK :Ar->Ar->Nat
 | [.l A,.l B],.i i:: .i k::_=>((A.length-i)+(B.length-k)).toNat|_,_=>0
def BO :Ay->List (Nat×(Fm->SS->H6))
 |146=>[(0,E1 U0 "ce" (F7 [(8,.int .i64),(4,.any)] nob) (m9 0) BV IC),(2,E1 U0 "cf" (F7 [(5,.int .i64)] nob) (m9 0) Lb cfMu)]
 |178=>[(0,E1 U0 "mg" (F7 [(10,.int .i64),(11,.int .i64)]<|bl2 (capB 4 0 [.acc vC 2])<|capB 4 3 [.int .i64]) (gh2 (m9 0)<|m9 1) iF cK)]
 |f=>aQ f
def Fa :Nat->List (Ay×Con)
 |0=>[(42,gz),(LVn,dk "lives")]
 |_=>[(188,cCmp),(42,gz),(146,cCed),(LVn,dk "lives")]
def JC (_:Nat)(P:Aw):E4:=[]
end Go.D
namespace Go.D
open Go Go.Xe Go.Sx
def vcCmp :Prop:=
 ∀b a,ID [.s b,.s a]->Ca [.s b,.s a] λV=>((b=b->((a=a->((Op.bytesLess b a->Nd (jB V [.i (-1)]) True)/\(¬Op.bytesLess b a->Nd (¬Op.bytesLess b a) ((b=a->Nd (jB V [.i 0]) True)/\(¬b=a->Nd (jB V [.i 1]) True)))))/\(¬a=a->Nd (jB V [.i 1]) True)))/\(¬b=b->((a=a->Nd (jB V [.i (-1)]) True)/\(¬a=a->Nd (jB V [.i 0]) True))))
def ZZ :kq cCmp BO (Fa 0) (JC 0) 188=vcCmp:=by kernel_rfl
def vcCed :Prop:=
 ∀a,Dx [.l a]->Nd (BV [.l a] [.i 0]) (∀c,BV [.l a] [.i c]->Ca (IC [.l a] [.i (c+1)]<IC [.l a] [.i c]) λV=>((c<ln a->Nb c (ln a) (Cg V5 M6 [.i 1,.s ([97]:Ae),.s [],.l<|b9 2 1 [.s (cS a c 0),.s<|cS a c 2],.s [],.l []] λR=>∀b,R [.i b]->((b=0->((cB a c 1->((cS a c 2=([]:Ae)->Nd (I64<|c+1) (Nd (BV [.l a] [.i (c+1)])<|Nd V True))/\(¬cS a c 2=([]:Ae)->Nd (jA [.l a] [.i 14]) True)))/\(¬cB a c 1->Nd (I64<|c+1) (Nd (BV [.l a] [.i (c+1)])<|Nd V True))))/\(¬b=0->Nd (jA [.l a] [.i 14]) True))))/\(¬c<ln a->Nd (Lb [.l a] [.i 1]) (∀b,Lb [.l a] [.i b]->Ca (b+(-1)) λW=>((b<ln a->Nb b (ln a) (Nd (I64 W)<|Nb W (ln a)<|(Op.bytesLess (cS a b 0) (cS a W 0)->Nd (jA [.l a] [.i 16]) True)/\(¬Op.bytesLess (cS a b 0) (cS a W 0)->((cS a b 0=cS a W 0->Nd (jA [.l a] [.i 16]) True)/\(¬cS a b 0=cS a W 0->Nd (I64<|b+1) (Nd (Lb [.l a] [.i (b+1)])<|Nd (cfMu [.l a] [.i (b+1)]<cfMu [.l a] [.i b]) True))))))/\(¬b<ln a->Nd (jA [.l a] [.i 0]) True))))))
def vcCed_eq :kq cCed BO (Fa 0) (JC 0) 146=vcCed:=by kernel_rfl
def kw a d b c f g:=
 Ca [.l d,.l c] λV=>Ca [.i f,.i<|a+1,.l<|b++b9 2 1 [.s (cS d (-1) 0),.s<|cS d (-1) 1],.i g] λW=>Ca [.i f,.i<|a+1,.l<|b++b9 2 1 [.s (cS c a 0),.s<|cS c a 2],.i g] λX=>Ca [.i f,.i a,.l b,.i g] λY=>Ca [.i f,.i<|a+1,.l b,.i 11] λZ=>(a<0->Nd (false) (Nd ((-1)<ln d)<|Ni (ln b)<|Nd (ln b+1<67108865)<|Nr (ln b)<|Nd (I64<|a+1)<|Nq (ln b+1)<|Nd (iF V W)<|Nd (cK V W<cK V Y) True))/\(¬a<0->Nb a (ln c) ((cB c a 1->Nd (I64<|a+1) (Nq (ln b)<|Nd (iF V Z)<|Nd (cK V Z<cK V Y) True))/\(¬cB c a 1->Nb a (ln c) (Nb a (ln c)<|Ni (ln b)<|Nd (ln b+1<67108865)<|Nr (ln b)<|Nd (I64<|a+1)<|Nq (ln b+1)<|Nd (iF V X)<|Nd (cK V X<cK V Y) True))))
def kv a b c d f g:=
 Ca [.i (a+1),.i f,.l<|c++b9 2 1 [.s (cS b a 0),.s<|cS b a 1],.i g] λV=>Nb a (ln b)<|Ni (ln c)<|Nd (ln c+1<67108865)<|Nr (ln c)<|Nd (I64<|a+1)<|Nq (ln c+1)<|Nd (iF [.l b,.l d] V)<|Nd (cK [.l b,.l d] V<cK [.l b,.l d] [.i a,.i f,.l c,.i g]) True
def ko b f a d c g:=
 Ca [.l f,.l c] λV=>Ca [.i (b+1),.i<|a+1,.l<|d++b9 2 1 [.s (cS f b 0),.s<|cS f b 1],.i g] λW=>Ca [.i (b+1),.i<|a+1,.l<|d++b9 2 1 [.s (cS c a 0),.s<|cS c a 2],.i g] λX=>Ca [.i b,.i a,.l d,.i g] λY=>Ca (I64<|b+1) λZ=>Ca (I64<|a+1) λT=>Ca [.i (b+1),.i<|a+1,.l d,.i 11] λS=>Ca [.i (b+1),.i<|a+1,.l d,.i g] λK=>(b=ln f->kw a f d c b g)/\(¬b=ln f->((a=ln c->kv b f d c a g)/\(¬a=ln c->Nb b (ln f) (Nb a (ln c)<|Cg ID jB [.s (cS f b 0),.s<|cS c a 0] λR=>∀h,R [.i h]->((h<0->kv b f d c a g)/\(¬h<0->((0<h->kw a f d c b g)/\(¬0<h->((a<0->Nb b (ln f) (Ni (ln d)<|Nd (ln d+1<67108865)<|Nr (ln d)<|Nd Z<|Nd T<|Nq (ln d+1)<|Nd (iF V W)<|Nd (cK V W<cK V Y) True))/\(¬a<0->Nb a (ln c) ((cB c a 1->((b<0->Nd Z (Nd T<|Nq (ln d)<|Nd (iF V S)<|Nd (cK V S<cK V Y) True))/\(¬b<0->Nd Z (Nd T<|Nq (ln d)<|Nd (iF V K)<|Nd (cK V K<cK V Y) True))))/\(¬cB c a 1->Nb a (ln c) (Nb a (ln c)<|Ni (ln d)<|Nd (ln d+1<67108865)<|Nr (ln d)<|Nd Z<|Nd T<|Nq (ln d+1)<|Nd (iF V X)<|Nd (cK V X<cK V Y) True)))))))))))))
def vcApp :Prop:=
 ∀a b,Do [.l a,.l b]->Ca [.l a,.l b] λV=>Cg V5 M6 [.i 1,.s ([97]:Ae),.s [],.l a,.s [],.l []] (λR=>∀h,R [.i h]->((h=0->Cg Dx jA [.l b] (λR=>∀j,R [.i j]->((j=0->Nd (iF V [.i 0,.i 0,.l [],.i 0]) (∀f g c d,iF V [.i f,.i g,.l c,.i d]->((f<ln a->ko f a g c b d)/\(¬f<ln a->((g<ln b->ko f a g c b d)/\(¬g<ln b->((d=0->((8<ln c->Nd (fH V [.l [],.i 3]) True)/\(¬8<ln c->Nd (d=0) (Nd (¬ln c<0)<|Ni (ln c)<|Nq (ln c)<|Nq (ln c)<|Nd (fH V [.l c,.i 0]) True))))/\(¬d=0->Nd (¬d=0) (Nd (fH V [.l [],.i d]) True)))))))))/\(¬j=0->Nd (fH V [.l [],.i j]) True))))/\(¬h=0->Nd (fH V [.l [],.i h]) True)))
def vcApp_eq :kq cApp BO (Fa 1) (JC 1) 148=vcApp:=by kernel_rfl
def ZY :vcCmp:=λa b _=>by refine⟨λ_=>⟨λ_=>⟨λh=>ndt ?_,λh=>ndi h ⟨λe=>ndt ?_,λe=>ndt ?_⟩⟩,λh=>absurd rfl h⟩,λh=>absurd rfl h⟩<;>show _=IE _ _<;>unfold IE lt;rw[Xg h];rw[Xd h,Xg e];rw[Xd h,Xd e]
def nK {e a:Ed}(h: [e.b]=[a.b]):e=a:=by let⟨n,d,v⟩:=e;let⟨f,c,g⟩:=a;simp only[Ed.b,Yl,Dat.s.injEq,Dat.b.injEq,Yo]at h;obtain⟨rfl,rfl,rfl⟩:=h;rfl
def Nm {n v:Str}:A9 (.mk 1 [97] [] [⟨n,v⟩] [] [])↔v5 n/\D7 v:=by
 have:v5 [97]:=by decide
 simp[A9,K0,AllAs,bN,c8.k,c8.x,c8.t,c8.y,c8.a,c8.c,c8.h,c8.d,c8.j,c8.e,iL,Asc,this]
def vcCed_ok :vcCed:=by
 rintro _ ⟨e,rfl⟩;have A:ln [e.b]=1:=rfl;refine ndi ⟨by omega,by simp,λ_ _ h=>by omega⟩ λi hI=>?_;let⟨y,t,p⟩:=hI;have p:=p e rfl;have t:i<=1:=t;refine⟨λq=>?_,λq=>ndi (Yg _) λj s=>⟨λh=>?_,λh=>ndt λk a=>?_⟩⟩
 .have z:i=0:=by omega
  subst z;have u:cS [e.b] 0 0=e.n:=rfl;have w:cS [e.b] 0 2=e.v:=rfl;have x:cB [e.b] 0 1=e.d:=rfl;rw[u,w,x];refine ag<|ndi q<|ndi ⟨.mk 1 [97] [] [⟨e.n,e.v⟩] [] [],rfl,rfl,rfl,rfl,rfl,rfl⟩ λr b=>?_;have b:=(b (.mk 1 [97] [] [⟨e.n,e.v⟩] [] []) ⟨rfl,rfl,rfl,rfl,rfl,rfl⟩).1;rw[Nm]at b;have c:cM e->Nd (I64<|0+1) (Nd (BV [.l [e.b]] [.i (0+1)])<|Nd (IC [.l [e.b]] [.i (0+1)]<IC [.l [e.b]] [.i 0]) True):=λh=>
   ndi (by rw[I64];omega) (ndi ⟨by omega,by simp,λk a _=>by cases nK a;exact h⟩<|ndt (by show(((1:Nat):Int)-(0+1)).toNat<(((1:Nat):Int)-0).toNat;decide))
  refine⟨λg=>⟨λo=>⟨λhv=>c ?_,λhv=>ndt λk a=>?_⟩,λo=>c ?_⟩,λg=>ndt λk a=>?_⟩;let⟨m,f⟩:=b.1 g;rw[hv]at f;simp[cM,m,f,hv];cases nK a;simp[cM,o,hv];let⟨m,f⟩:=b.1 g;simp[cM,m,f,o];cases nK a;constructor;intro h;omega;intro h;simp[cM]at h;exact absurd (b.2 h.1) g
 have s:1<=j:=s;omega;cases nK a;exact⟨λ_=>p<|by omega,λ_=>rfl⟩
section
variable {l :List Att}{e:Ed}{i k r:Int}{o:List Att}
def MgK (l:List Att)(e:Ed)(i k:Int)(o:List Att)(r:Int):Prop:=((r=0/\mH l e i k=bad1 l e)\/(r=11/\bad1 l e))/\(o.length:Int)<=i+k/\o++iW l e i k=O9 l e
def Cu (c:0<=i)(d:i<=l.length)(f:0<=k)(g:k<=1)(h:MgK l e i k o r):iF [.l (l.map Att.d),.l [e.b]] [.i i,.i k,.l<|o.map Att.d,.i r]:=
 ⟨c,by rw[Xc];exact d,f,g,λm j a b=>by cases P1 a;cases nK b;exact⟨h.1,o,rfl,h.2⟩⟩
def yF (o:List Att)(n v:Str):o.map Att.d++b9 2 1 [.s n,.s v]=(o++ [(⟨n,v⟩:Att)]).map Att.d:=by rw[XJ];rfl
def iu (x:l.length<=8)(g:0<=i)(j:i<=l.length)(t:k=0)(h:MgK l e i k o r)(f:iW l e i 0=edA e++iW l e i 1)(s:mH l e i 0=e.d):kw k (l.map Att.d) (o.map Att.d) [e.b] i r:=by
 subst t;let⟨a,w,c⟩:=h;have m:cS [e.b] 0 0=e.n:=rfl;have p:cS [e.b] 0 2=e.v:=rfl;have q:cB [e.b] 0 1=e.d:=rfl;have y:ln (o.map Att.d)=(o.length:Int):=by simp[ln]
 have u:(0:Int)+1=1:=rfl;rw[s]at a;unfold kw;rw[m,p,q,yF o e.n e.v,u];refine⟨λh=>by omega,λ_=>ag<|ndi (show(0:Int)<1 by omega) ⟨λb=>?_,λb=>?_⟩⟩;refine ndi (by rw[I64];omega)<|nin<|nrn<|ndi (Cu g j (by omega) (by omega) ⟨.inr ⟨rfl,?_⟩,by omega,?_⟩)<|ndt ?_;obtain a|a:=a;rw[<-a.2];exact b;exact a.2;rw[f,edA,Xg b]at c;exact c;simp only[cK,Xc,XD,YS];omega;refine ag<|ndi (show(0:Int)<1 by omega)<|ag<|ndi (show(0:Int)<1 by omega)<|nin<|ag<|nrn<|ndi (by rw[I64];omega)<|nin<|nrn<|ndi (Cu g j (by omega) (by omega) ⟨?_,by simp;omega,?_⟩)<|ndt ?_;obtain a|a:=a;exact .inl ⟨a.1,by rw[<-a.2];rw[mH,af];simpa using b⟩;exact .inr a;rw[f,edA,Xd b,<-WX]at c;exact c;simp only[cK,Xc,XD,YS];omega
def ir (t:l.length<=8)(u:0<=i){a:Att}(b:l[i.toNat]? =a)(p:0<=k)(q:k<=1)(h:MgK l e i k o r)(m:iW l e i k=a::iW l e (i+1) k)(j:mH l e i k=mH l e (i+1) k):kv i (l.map Att.d) (o.map Att.d) [e.b] k r:=by
 let⟨g,s,c⟩:=h;have w:=(WM.1 b).1;have d:cS (l.map Att.d) i 0=a.n:=by simp only[cS,d9 b];rfl
 have f:cS (l.map Att.d) i 1=a.v:=by simp only[cS,d9 b];rfl
 have y:ln (o.map Att.d)=(o.length:Int):=by simp[ln]
 have x:ln (l.map Att.d)=(l.length:Int):=by simp[ln]
 rw[kv,d,f,yF];refine ag<|ag<|nin<|ag<|nrn<|ndi (by rw[I64];omega)<|nin<|nrn<|ndi (Cu (by omega) (by omega) p q ⟨by rw[<-j];exact g,by simp;omega,?_⟩)<|ndt ?_;rw[m]at c;rw[WX];exact c;simp only[cK,Xc,XD,YS];omega
def iq (u:l.length<=8)(p:0<=i)(z:i<=l.length)(A:0<=k)(B:k<=1)(h:MgK l e i k o r)(m:i<l.length\/k<1):ko i (l.map Att.d) k (o.map Att.d) [e.b] r:=by
 have N:ln (l.map Att.d)=(l.length:Int):=by simp[ln]
 rw[ko];refine⟨λJ=>iu u p z (by omega) h ?_ ?_,λJ=>?_⟩;unfold iW;rw[Xg rfl,af,List.drop_eq_nil_of_le<|by omega];rw[O9];simp;unfold mH;rw[Xg rfl,List.drop_eq_nil_of_le<|by omega];rfl;let⟨a,t⟩:=Sx.get_at (T:=l) p (by omega);have g:=Lg t;have s:=gT p;refine⟨λj=>?_,λj=>?_⟩;have j:k=1:=j;refine ir u p t A B h ?_ ?_;unfold iW;rw[af,af,g,s];unfold mH;rw[af,af]
 .have j:k=0:=by have j:¬k=1:=j;omega
  subst j;have F:cS (l.map Att.d) i 0=a.n:=by simp only[cS,d9 t];rfl
  have G:cS [e.b] 0 0=e.n:=rfl;have H:cS [e.b] 0 2=e.v:=rfl;have I:cB [e.b] 0 1=e.d:=rfl;have O:ln (o.map Att.d)=(o.length:Int):=by simp[ln]
  have x:iW l e i 0=O9 (a::l.drop (i.toNat+1)) e:=by unfold iW;rw[Xg rfl,g]
  have y:mH l e i 0=bad1 (a::l.drop (i.toNat+1)) e:=by rw[mH,Xg rfl,g]
  rw[F,G,H,I];refine ag<|ag<|ag<|ndi (show(0:Int)<1 by omega)<|ndi trivial λc b=>?_;have b:c=IE a.n e.n:=b;have C:(0:Int)+1=1:=rfl;refine⟨λD=>?_,λD=>⟨λE=>?_,λE=>?_⟩⟩
  .have m:lt a.n e.n:=by
    rw[IE] at b;split at b
    .assumption
    split at b<;>omega
   refine ir u p t A B h ?_ ?_;rw[x];rw[O9,Xg m];rw[iW,Xg rfl,s];rw[y];rw[bad1,Xg m];rw[mH,Xg rfl,s]
  .have f:¬lt a.n e.n/\ ¬a.n=e.n:=by rw[IE] at b;split at b;omega;split at b;omega;exact⟨by assumption,by assumption⟩
   refine iu u p z rfl h ?_ ?_;rw[x];rw[O9,Xd f.1,Xd f.2];rw[iW,af,g];rw[y];rw[bad1,Xd f.1,Xd f.2]
  .have f:¬lt a.n e.n/\a.n=e.n:=by rw[IE] at b;split at b;omega;split at b;exact⟨by assumption,by assumption⟩;omega
   let⟨w,M,q⟩:=h;have K:iW l e i 0=edA e++iW l e (i+1) 1:=by rw[x];rw[O9,Xd f.1,Xg f.2];rw[iW,af,s]
   have L:mH l e i 0=mH l e (i+1) 1:=by rw[y];rw[bad1,Xd f.1,Xg f.2];rw[mH,af]
   rw[K]at q;rw[L]at w;refine⟨λh=>by omega,λ_=>ag<|ndi (show(0:Int)<1 by omega) ⟨λg=>⟨λh=>by omega,λ_=>?_⟩,λg=>?_⟩⟩;rw[C];refine ndi (by rw[I64];omega)<|ndi (by rw[I64];omega)<|nin<|nrn<|ndi (Cu (by omega) (by omega) (by omega) (by omega) ⟨w,by omega,?_⟩)<|ndt ?_;rw[edA,Xg g]at q;exact q;simp only[cK,Xc,XD,YS];omega;rw[C,yF];refine ag<|ndi (show(0:Int)<1 by omega)<|ag<|ndi (show(0:Int)<1 by omega)<|nin<|ag<|nrn<|ndi (by rw[I64];omega)<|ndi (by rw[I64];omega)<|nin<|nrn<|ndi (Cu (by omega) (by omega) (by omega) (by omega) ⟨w,by simp;omega,?_⟩)<|ndt ?_;rw[edA,Xd g,<-WX]at q;exact q;simp only[cK,Xc,XD,YS];omega
end
def Ja {l:List Att}(h:vAt l):A9 (.mk 1 [97] [] l [] []):=by let⟨a,b,c⟩:=h;refine⟨⟨.inr ⟨rfl,(show v5 [97] from by decide),.inl rfl,rfl,a,(show 0<=16 by omega),b,c,List.Pairwise.nil⟩,trivial⟩,by simp[c8.h,c8.d],by simp[c8.j,c8.e]⟩
def vcApp_ok :vcApp:=by
 rintro _ _ ⟨l,e,rfl,rfl,t,D⟩;have J:ln (l.map Att.d)=(l.length:Int):=by simp[ln]
 have un:∀ {O:a8} {r:Int},O=(apF l e).1.map Att.d->r=(apF l e).2->fH [.l (l.map Att.d),.l [e.b]] [.l O,.i r]:=λb m I H p n=>by cases P1 p;cases nK n;exact⟨b,m⟩
 refine ndi ⟨.mk 1 [97] [] l [] [],rfl,rfl,rfl,rfl,rfl,rfl⟩ λx F=>⟨λz=>ndi ⟨e,rfl⟩ λy G=>⟨λA=>ndi ?_ λi k O r hI=>?_,λA=>absurd ((G e rfl).2 D) A⟩,λz=>absurd ((F _ ⟨rfl,rfl,rfl,rfl,rfl,rfl⟩).1.2<|Ja t) z⟩
 refine Cu (o:=[]) (by omega) (by omega) (by omega) (by omega) ⟨.inl ⟨rfl,?_⟩,by simp,?_⟩;rw[mH,Xg rfl];rfl;rw[iW,Xg rfl];rfl
 .obtain⟨u,q,v,g,C⟩:=hI;obtain⟨b,o,rfl,m,d⟩:=C l e rfl rfl;rw[Xc]at q;have g:k<=1:=g;have w:=t.1;have K:ln (o.map Att.d)=(o.length:Int):=by simp[ln]
  have s:MgK l e i k o r:=⟨b,m,d⟩
  refine⟨λE=>iq w u q v g s<|.inl<|by omega,λE=>⟨λf=>iq w u q v g s<|.inr f,λf=>?_⟩⟩;have f:¬k<1:=f;have c:o=O9 l e:=by rw[iW] at d;rw[af,List.drop_eq_nil_of_le<|by omega,YD]at d;exact d
  have a:(r=0/\bad1 l e=false)\/(r=11/\bad1 l e):=by rw[mH] at b;rw[af]at b;obtain h|h:=b;exact .inl ⟨h.1,h.2.symm⟩;exact .inr h
  refine⟨λj=>⟨λB=>ndt<|un ?_ ?_,λB=>ndi j<|ag<|nin<|nin<|nrn<|nin<|nrn<|ndt<|un ?_ ?_⟩,λj=>ndi j<|ndt<|un ?_ ?_⟩;all_goals rw[apF]
  rw[Xd (by obtain h|h:=a;simp[h.2];omega),<-c,Xg<|by omega];rfl;rw[Xd (by obtain h|h:=a;simp[h.2];omega),<-c,Xg<|by omega];rw[Xd (by obtain h|h:=a;simp[h.2];omega),<-c,af];rw[Xd (by obtain h|h:=a;simp[h.2];omega),<-c,af];rw[Xg (by obtain h|h:=a;omega;exact h.2)];rfl;rw[Xg (by obtain h|h:=a;omega;exact h.2)];obtain h|h:=a;exact absurd h.1 j;exact h.1
def V7 (D:DM)(i g:Int)(e:Ed)(w:Int):DM×Int:=match D.m i g with
 |none=>(D,11)
 |some c=>if(D.e c).j≠1 then(D,1)else if cM e=false then(D,w)else
  if(apF (D.e c).d e).2=0 then((D.j c λn=> {n with d:=(apF n.d e).1}).o 6,0)else(D,if(apF (D.e c).d e).2=11 then 17 else(apF (D.e c).d e).2)
def wX :Ar->Prop
 | [.i i,.i g,.s _,.b _,.s _,.i w,.l S,.i fr,.i j,.i a,.i b,.i c,.i d,.i e,.i f,.i h,.i m,.l _,.l N]=>U32 i/\U32 g/\w≠0/\uE S N fr j [a,b,c,d,e,f,h,m]|_=>False
def dO :Ar->Ar->Prop
 | [.i i,.i g,.s n,.b z,.s v,.i w,.l S,.i fr,.i C,.i a,.i b,.i c,.i d,.i e,.i f,.i h,.i m,.l _,.l N],[.i r,.l p,.i j,.i k,.i q,.i t,.i u,.i x,.i y,.i A,.i B,.i E,.l _,.l o]=>
  cD S N fr C [a,b,c,d,e,f,h,m] p o j k [q,t,u,x,y,A,B,E] λD=>((V7 D i g ⟨n,z,v⟩ w).1,r=(V7 D i g ⟨n,z,v⟩ w).2)
 |_,_=>False
def cEdt:=mkD "edt" [hV,.u [.g .str,.g .bool,.g .str],iV] wX [iV] dO
def Uh :Ay->List (Nat×(Fm->SS->H6)):=aQ
def RA :Nat->List (Ay×Con)
 |_=>[(146,cCed),(148,cApp),(LVn,dk "lives")]
def VS :Nat->Aw->E4:=aI
open Go Go.Xe Go.Sx
def kg a u v f g h j k m o p d q r c w x y A:=
 Ca (.i u::.i v::.s w::.b x::.s y::.i A::JD a f g h j k m o p d q r c) λV=>Ca (Cg y8 y7<|.i u::.i v::JE a f g h j k m o p d q r) λW=>Ca (JD a f g h j k m o p d q r c) λX=>Nq (ln a)<|W λR=>∀B,R [.i B]->Nb B (ln c) (Cg Do fH [.l (cL c B 2),.l<|b9 3 1 [.s w,.b x,.s y]] λR=>∀C t,R [.l C,.i t]->((t=11->Nq (ln a) (Nd (dO V<|.i 17::X) True))/\(¬t=11->((t=0->Nq (ln a) (W λR=>∀z,R [.i z]->Nb z (ln c) (Nb z (ln c)<|Nd (I64<|d+1)<|Nq (ln a)<|Nd (dO V<|.i 0::JD a f g h j k m o p (d+1) q r (a9 c z 2<|.l C)) True)))/\(¬t=0->Nd (¬t=0) (Nq (ln a)<|Nd (dO V<|.i t::X) True))))))
def ZQ :Prop:=
 ∀u v w x y t a d f g h j k m o p q r c,wX (.i u::.i v::.s w::.b x::.s y::.i t::JD a d f g h j k m o p q r c)->Ca (.i u::.i v::JE a d f g h j k m o p q r) λW=>Ca (JD a d f g h j k m o p q r c) λV=>Nq (ln a) (Cg L7 H4 W λR=>∀A,R [.b A]->((A=true->Nq (ln a) (Cg y8 y7 W λR=>∀z,R [.i z]->Nb z (ln c) ((cI c z 0=1->Cg Dx jA [.l (b9 3 1 [.s w,.b x,.s y])] (λR=>∀B,R [.i B]->((B=0->kg a u v d f g h j k m o p q r c w x y t)/\(¬B=0->((t=0->kg a u v d f g h j k m o p q r c w x y t)/\(¬t=0->Nd (¬t=0) (Nq (ln a)<|Nd (dO (.i u::.i v::.s w::.b x::.s y::.i t::V)<|.i t::V) True)))))))/\(¬cI c z 0=1->Nq (ln a) (Nd (dO (.i u::.i v::.s w::.b x::.s y::.i t::V)<|.i 1::V) True)))))/\(¬A=true->Nq (ln a) (Nd (dO (.i u::.i v::.s w::.b x::.s y::.i t::V)<|.i 11::V) True))))
def ST :kq cEdt Uh (RA 0) (VS 0) 89=ZQ:=by kernel_rfl
section
variable {D :DM}{S N st:a8}{fr Z i g w Y X W V U T R Q:Int}{K:Nat}{e:Ed}
def ra (hp:∃D K,RlC D S N fr Z [Y,X,W,V,U,T,R,Q]/\WF D K)(hv:z9 S i g=true)(hi:U32 i)(hg:U32 g)(hk:cI N (atF S i g) 0=1)(he:cM e=true):kg S i g fr Z Y X W V U T R Q st N e.n e.d e.v w:=by
 have aa:=hp;obtain⟨D,K,⟨hR,hc⟩,C⟩:=hp;have p:=hR.e C;have o:∀ {D K},RlC D S N fr Z [Y,X,W,V,U,T,R,Q]->WF D K-> ∃c,D.m i g=some c/\0<=atF S i g/\atF S i g<N.length/\cL N (atF S i g) 2=(D.e c).d.map Att.d/\vAt (D.e c).d/\V7 D i g e w=if(apF (D.e c).d e).2=0 then((D.j c λn=> {n with d:=(apF n.d e).1}).o 6,0)else(D,if(apF (D.e c).d e).2=11 then 17 else(apF (D.e c).d e).2):=by
  intro D K hD C;let⟨c,m⟩:=hD.1.d.1 hv;let⟨s,t,h2,h3,h4,h5,h6,P⟩:=hD.1.j m;have kd:s.n.j=1:=by rw[<-hk];unfold cI;rw[P];rfl
  refine⟨c,m,h5,h6,?_,?_,?_⟩;rw[Za t];unfold cL;rw[P];rfl;rw[Za t];exact C.w c s t h3;unfold V7;rw[m];simp only;rw[Xd<|by rw[Za t];simp[kd],Xd<|by simp[he]]
 let⟨c,f1,H,I,J,f5,f6⟩:=o ⟨hR,hc⟩ C;rw[kg];refine J1 ⟨hi,hg,p⟩<|E9 H I<|ndi ⟨(D.e c).d,e,J,rfl,f5,he⟩ λO r y=>?_;have y:=y (D.e c).d e J rfl;have all:∀ {D' A},RlC D' S N fr Z [Y,X,W,V,U,T,R,Q]->WF D' A-> ∃h,D'.m i g=some h/\O=(apF (D'.e h).d e).1.map Att.d/\r=(apF (D'.e h).d e).2/\(D'.e h).d=(D.e c).d/\V7 D' i g e w=if r=0 then((D'.j h λn=> {n with d:=(apF n.d e).1}).o 6,0)else(D',if r=11 then 17 else r):=by intro D' A b f;let⟨h,u,L,M,B,x,g6⟩:=o b f;have:(D'.e h).d=(D.e c).d:=P1<|B.symm.trans J;refine⟨h,u,by rw[this];exact y.1,by rw[this];exact y.2,this,?_⟩;rw[g6,this,<-y.2]
 refine⟨λr1=>nin<|nrn<|ndt<|G3 λD' A b f=>?_,λr1=>⟨λE=>J1 ⟨hi,hg,p⟩<|E9 H I<|E9 H I<|ndi (C.I (k:=6)<|by rw[<-hc];rfl)<|nin<|nrn<|ndt ?_,λE=>ndi E<|nin<|nrn<|ndt<|G3 λD' A b f=>?_⟩⟩;let⟨h,u,L,M,B,x⟩:=all b f;show(V7 D' i g e w).1=D'/\_=(V7 D' i g e w).2;rw[x,af,Xg r1];exact⟨rfl,rfl⟩
 .have l0:(apF (D.e c).d e).1.map Att.d=O:=y.1.symm;refine Jz (q:=λn=> {n with d:=(apF (D.e c).d e).1}) (q':=λr=> {r with a:=O}) (F:=λr=>r.set 2<|.l O) (k:=6) hv (λ_=>rfl) (λG n=>by unfold Nod.n;rw[l0]) rfl rfl (λD' A h b f m=>?_) aa;let⟨ab,u,L,M,B,x⟩:=all b f;rw[m]at u;cases u;show(V7 D' i g e w).1=_/\_=(V7 D' i g e w).2;rw[x,Xg E];refine⟨?_,rfl⟩;let⟨s,t,h2,h3,h4,h5,h6,P⟩:=b.1.j m;have hs:s.n.d=(D.e c).d:=by rw[<-B,Za t]
  have:D'.j h (λn=> {n with d:=(apF n.d e).1})=D'.j h λn=> {n with d:=(apF (D.e c).d e).1}:=by rw[DM.j];congr 1;apply List.ext_getElem?;intro j;simp only[j9];by_cases z:h=j;subst z;rw[Xg rfl,Xg rfl,t];simp[hs];rw[Xd z,Xd z]
  rw[this]
 let⟨h,u,L,M,B,x⟩:=all b f;show(V7 D' i g e w).1=D'/\_=(V7 D' i g e w).2;rw[x,Xd E,Xd r1];exact⟨rfl,rfl⟩
def LT :ZQ:=by
 rw[ZQ];intro i g n d v w S fr Z Y X W V U T R Q st N h;let⟨u,t,G,E⟩:=h;let⟨D,K,⟨q,I⟩,l⟩:=E;have b:=q.e l;refine bS ⟨u,t,b⟩ ⟨λhv=>?_,λhv=>nin<|nrn<|ndt<|G3 λD K f l=>?_⟩
 .obtain⟨c,a⟩:=q.d.1 hv;let⟨s,j,A,B,C,o,p,k⟩:=q.j a;refine J1 ⟨u,t,b⟩ (E9 o p ⟨λm=>ndi ⟨⟨n,d,v⟩,rfl⟩ λr F=>⟨λz=>ra (e:=⟨n,d,v⟩) E hv u t m<|(F ⟨n,d,v⟩ rfl).1 z,λz=>⟨λH=>absurd H G,λ_=>ndi G<|nin<|nrn<|ndt<|G3 λD K f l=>?_⟩⟩,λm=>nin<|nrn<|ndt<|G3 λD K f l=>?_⟩)
  .obtain⟨c,a⟩:=f.1.d.1 hv;let⟨s,j,A,B,C,o,p,k⟩:=f.1.j a;have y:s.n.j=1:=by rw[<-m];rw[cI,k];rfl
   rw[V7,a];simp only;rw[Xd<|by rw[Za j];simp[y],Xg<|by simpa using λh=>z<|(F ⟨n,d,v⟩ rfl).2 h];exact⟨rfl,rfl⟩
  .obtain⟨c,a⟩:=f.1.d.1 hv;let⟨s,j,A,B,C,o,p,k⟩:=f.1.j a;have y:s.n.j≠1:=λh=>by apply m;rw[<-h];rw[cI,k];rfl
   rw[V7,a];simp only;rw[Xg<|by rw[Za j];exact y];exact⟨rfl,rfl⟩
 rw[V7,f.1.h hv];exact⟨rfl,rfl⟩
end
def hdF :a8->Int->a8
 | [],_=>[]
 |r::S,k=>if(r.getD 1<|.i 0).f then [.i k,r.getD 0<|.i 0]::hdF S (k+1)else hdF S (k+1)
def waF (S:a8):Nat->Int->a8
 |0,_=>[]
 |f+1,i=>if 0<i then [.i (i-1),.i<|cI S (i-1) 0]::waF S f (cI S (i-1) 2)else []
def roB (S N:a8)(r:Ar):Bool:=decide (cI N (atF S (r.getD 0<|.i 0).j (r.getD 1<|.i 0).j) 7=0)&&decide (cI N (atF S (r.getD 0<|.i 0).j (r.getD 1<|.i 0).j) 8=0)
def IS :Ar->Prop
 | .l S:: .i _:: .i a::_=>S.length<=1000/\a=(hdF S 0).length/\ ∀r∈S,∃n:Int,r.getD 0 (.i 0)= .i n|_=>False
def IT :Ar->Ar->Prop
 | .l S::_,[.l O]=>O=hdF S 0|_,_=>False
def He :Ar->Prop
 | [.l S,.i fr,.i a,.i _,.i _,.i _,.i _,.i _,.i _,.i _,.i _,.l _,.l N]=>∃D K,Rl D.d D S N fr a/\WF D K|_=>False
def JN:=He
def Ku :Ar->Prop
 | .l S:: .i fr:: .i a::_=>∃D K N,Rl D.d D S N fr a/\WF D K|_=>False
def Kv :Ar->Ar->Prop
 | .l S:: .i fr:: .i a::_,[.l O]=>O=waF S 1001 fr|_,_=>False
def JO :Ar->Ar->Prop
 | [.l S,.i fr,.i a,.i _,.i _,.i _,.i _,.i _,.i _,.i _,.i _,.l _,.l N],[.l O]=>O=(hdF S 0).filter (roB S N)|_,_=>False
def jJ :Ar->Prop
 | .i i:: .i g::d=>U32 i/\U32 g/\He d|_=>False
def R1 :Ar->Ar->Prop
 | [.i i,.i g,.l S,.i fr,.i f,.i _,.i _,.i _,.i _,.i _,.i _,.i _,.i _,.l _,.l N],[.i k,.s t,.l a,.s x,.i e,.i d,.b c,.i pi,.i pg,.l ch,.i r]=>
  if z9 S i g then k=cI N (atF S i g) 0/\t=cS N (atF S i g) 1/\a=cL N (atF S i g) 2/\x=cS N (atF S i g) 3/\e=cI N (atF S i g) 4/\d=cI N (atF S i g) 5/\c=cB N (atF S i g) 6/\pi=cI N (atF S i g) 7/\pg=cI N (atF S i g) 8/\ch=cL N (atF S i g) 9/\r=0 else r=11
 |_,_=>False
def vwV :Vs:= .u [.g (.int .u8),.g .str,.g<|.clp vC,.g .str,.g<|.int .i64,.g<|.int .i64,.g .bool,.g<|.int .u32,.g<|.int .u32,.g<|.clp tHd]
def cHds:=mkR "hds" [dV] dmB dmF IS [.t (.g<|.lst tHd)] IT
def cWai:=mkR "wai" [dV] dmB dmF Ku [.t (.g<|.clp tHd)] Kv
def cRoo:=mkR "roo" [dV] uU Gk JN [.t (.g<|.clp tHd)] JO
def lf:=mkR "lok" [dV,hV] uU Gk jJ [vwV,iV] R1
def xI :Ar->Ar->Prop
 | [.l S,.i a],[.l O,.i k]=>0<=k/\k<=S.length/\(O.length:Int)<=k/\O++hdF (S.drop k.toNat) k=hdF S 0|_,_=>False
def xJ :Ar->Ar->Nat
 | [.l S,_],[_,.i k]=>(S.length-k).toNat|_,_=>0
def chL (S:a8):Nat->Int->Nat
 |0,_=>0|f+1,i=>if 0<i then chL S f (cI S (i-1) 2)+1 else 0
def Fp :Ar->Ar->Prop
 | [.l S,.i fr],[.l O,.i i]=>0<=i/\i<=S.length/\O++waF S (1001-O.length) i=waF S 1001 fr/\O.length+chL S 1001 i<=1000/\(∃(T:List RS) (l:Ah),S=T.map RS.d/\Ch T i l/\l.Nodup)|_,_=>False
def RW :Ar->Ar->Nat
 | [.l S,_],[_,.i i]=>chL S 1001 i|_,_=>0
def zO :Ar->Ar->Prop
 | [.l S,.l N,.l H],[.l O,.i k]=>0<=k/\k<=H.length/\(O.length:Int)<=k/\O++(H.drop k.toNat).filter (roB S N)=H.filter (roB S N)|_,_=>False
def zP :Ar->Ar->Nat
 | [_,_,.l H],[_,.i k]=>(H.length-k).toNat|_,_=>0
def freT (t:Nat):Fm->SS->List (So×E):=λf s=>match lk f t with
 |some (.g b _ _ _)=>match s.f b with
  |some (.f (_::c::_) _ _)=>svG c|_=>[]
 |_=>[]
def livT (t:Nat):Fm->SS->List (So×E):=λf s=>match lk f t with
 |some (.g b _ _ _)=>match s.f b with
  |some (.f (_::_::c::_) _ _)=>svG c|_=>[]
 |_=>[]
def tR :Ay->List (Nat×(Fm->SS->H6))
 |135=>[(0,E1 U0 "wal" (F7 [(3,.acc tHd 2),(4,.int .i64)] nob) (gh2 (AG 0)<|freT 0) Fp RW)]
 |134=>[(0,E1 U0 "hdl" (F7 [(3,.acc tHd 2),(18,.int .i64)] nob) (gh2 (AG 0)<|livT 0) xI xJ)]
 |83=>[(0,E1 U0 "rol" (F7 [(3,.acc tHd 2),(13,.int .i64)] nob) (gh2 (AG 0)<|gh2 sB<|m9 11) zO zP)]
 |_=>[]
def Fb :Nat->List (Ay×Con)
 |_=>[(LVn,dk "lives")]
def yY :Nat->Aw->E4
 |0,P=>aI 0 P|_,P=>(134,kro P U0 cHds)::aI 0 P
open Go Go.Xe Go.Sx
def zf :Prop:=
 ∀d f b g h j k m o p q r,IS (JE d f b g h j k m o p q r)->Ca (List.replicate (b).toNat [.i 0,.i 0]:a8) λX=>Ca [.l d,.i b] λW=>Nb b 1048577 (Nd (¬ln X<0)<|Nr b<|Ni b<|Nd (xI W [.l (pQ X 0 0),.i 0])<|∀a c,xI W [.l a,.i c]->Ca (Sx.over a (ln a)<|b9 2 1 [.i (IntKind.wrap .u32 c),.i<|cI d c 0]) λV=>((c<ln d->Nb c (ln d) (Nd (c<ln d)<|(cB d c 1->Ni (ln a) (Nd (ln a+1<67108865)<|(b<ln a+1->Nr (ln a) (Nd (I64<|c+1)<|Nq (ln a+1) False))/\(¬b<ln a+1->Ni b (Nd (I64<|c+1)<|Nd (¬ln V<ln a+1)<|Nr b<|Ni b<|Nd (xI W [.l (pQ V 0<|ln a+1),.i<|c+1])<|Nd (xJ W [.l (pQ V 0<|ln a+1),.i<|c+1]<xJ W [.l a,.i c]) True))))/\(¬cB d c 1->Nd (I64<|c+1) (Nq (ln a)<|Nr b<|Ni b<|Nd (xI W [.l a,.i<|c+1])<|Nd (xJ W [.l a,.i<|c+1]<xJ W [.l a,.i c]) True))))/\(¬c<ln d->Nq (ln a) (Nd (IT (JE d f b g h j k m o p q r) [.l a]) True))))
def ze :kr cHds tR (Fb 0) (yY 0) 134=zf:=by kernel_rfl
def rl :Prop:=
 ∀b d f g h j k m o p q r,Ku (JE b d f g h j k m o p q r)->Nd (Fp [.l b,.i d] [.l [],.i d]) (∀c a,Fp [.l b,.i d] [.l c,.i a]->((0<a->Nd (I64<|a+(-1)) (Nd (I64<|a+(-1))<|Nb (a+(-1)) (ln b)<|Nd (a+(-1)<ln b)<|Ni (ln c)<|Nd (ln c+1<67108865)<|Nr (ln c)<|Nd (I64<|a+(-1))<|Nb (a+(-1)) (ln b)<|Nd (a+(-1)<ln b)<|Nq (ln c+1)<|Nd (Fp [.l b,.i d] [.l (c++b9 2 1 [.i (IntKind.wrap .u32<|a+(-1)),.i<|cI b (a+(-1)) 0]),.i<|cI b (a+(-1)) 2])<|
 Nd (RW [.l b,.i d] [.l (c++b9 2 1 [.i (IntKind.wrap .u32<|a+(-1)),.i<|cI b (a+(-1)) 0]),.i<|cI b (a+(-1)) 2]<RW [.l b,.i d] [.l c,.i a]) True))/\(¬0<a->Nd (¬ln c<0) (Ni (ln c)<|Nq (ln c)<|Nq (ln c)<|Nd (Kv (JE b d f g h j k m o p q r) [.l c]) True))))
def rk :kr cWai tR (Fb 0) (yY 0) 135=rl:=by kernel_rfl
def iz a b c d f:=
 Ca [.l c,.l d,.l f] λV=>Nd (I64<|a+1)<|Nq (ln b)<|Nd (zO V [.l b,.i<|a+1])<|Nd (zP V [.l b,.i<|a+1]<zP V [.l b,.i a]) True
def vb :Prop:=
 ∀f h j k m o p q r s t u d,JN (JD f h j k m o p q r s t u d)->Ca (JE f h j k m o p q r s t u) λX=>Nq (ln f) (Cg IS IT X λR=>∀a,R [.l a]->Ca [.l f,.l d,.l a] λV=>Nd (zO V [.l [],.i 0]) (∀c b,zO V [.l c,.i b]->Ca [.l (c++b9 2 1 [.i (cI a b 0),.i<|cI a b 1]),.i<|b+1] λW=>((b<ln a->Nb b (ln a) (Nq (ln f)<|Cg y8 y7 (.i (cI a b 0)::.i (cI a b 1)::X) λR=>∀g,R [.i g]->Nb g (ln d) ((cI d g 7=0->((cI d g 8=0->Ni (ln c) (Nd (ln c+1<67108865)<|Nr (ln c)<|Nd (I64<|b+1)<|Nq (ln c+1)<|Nd (zO V W)<|Nd (zP V W<zP V [.l c,.i b]) True))/\(¬cI d g 8=0->iz b c f d a)))/\(¬cI d g 7=0->iz b c f d a))))/\(¬b<ln a->Nd (¬ln c<0) (Ni (ln c)<|Nq (ln c)<|Nq (ln c)<|Nd (JO (JD f h j k m o p q r s t u d) [.l c]) True)))))
def uz :kr cRoo tR (Fb 1) (yY 1) 83=vb:=by kernel_rfl
def yo :Prop:=
 Ca (b9 2 0 []) λV=>∀f g d h j k m o p q r t u v a,jJ (.i f::.i g::JD d h j k m o p q r t u v a)->Ca (.i f::.i g::JE d h j k m o p q r t u v) λQ=>Ca (.i f::.i g::JD d h j k m o p q r t u v a) λX=>Nq (ln d) (Cg L7 H4 Q λR=>∀x,R [.b x]->((x=true->Nq (ln d) (Cg y8 y7 Q λR=>∀c,R [.i c]->Ca (b9 2 0 []++cL a c 2) λE=>Ca (b9 2 0 []++cL a c 9) λG=>Ca (cI a c 8) λH=>Ca (cI a c 7) λN=>Ca (cB a c 6) λM=>Ca (cI a c 5) λL=>Ca (cI a c 4) λK=>Ca (cS a c 3) λS=>Ca (cS a c 1) λT=>Ca (cI a c 0) λZ=>Ca (cL a c 2) λY=>Ca (cL a c 9) λW=>Nb c (ln a) (∀(y:Bool),(y->ln Y=0->∀(w:Bool),(w->ln W=0->Nd (R1 X [.i Z,.s T,.l [],.s S,.i K,.i L,.b M,.i N,.i H,.l [],.i 0]) True)/\(¬w->Nd (ln W<67108865) ((0<ln W->Nd (¬ln W<0) (Ni (ln W)<|Nq (ln W)<|Nq (ln W)<|Nd (R1 X [.i Z,.s T,.l [],.s S,.i K,.i L,.b M,.i N,.i H,.l G,.i 0]) True))/\(¬0<ln W->Nd (¬ln W<0) (Ni (ln W)<|Nd (¬0<ln W)<|Nr (ln W)<|Nd (¬ln (Sx.over V 0 W)<ln W)<|Nd (R1 X [.i Z,.s T,.l [],.s S,.i K,.i L,.b M,.i N,.i H,.l<|pQ (Sx.over V 0 W) 0<|ln W,.i 0]) True)))))/\(¬y->Nd (ln Y<67108865) ((0<ln Y->Nd (¬ln Y<0) (Ni (ln Y)<|Ni (ln Y)<|∀(w:Bool),(w->ln W=0->Nr (ln Y) (Nq (ln Y)<|Nd (R1 X [.i Z,.s T,.l E,.s S,.i K,.i L,.b M,.i N,.i H,.l [],.i 0]) True))/\(¬w->Nd (ln W<67108865) ((0<ln W->Nd (¬ln W<0) (Ni (ln W)<|Ni (ln W)<|Nr (ln Y)<|Nq (ln Y)<|Nr (ln W)<|Nq (ln W)<|Nd (R1 X [.i Z,.s T,.l E,.s S,.i K,.i L,.b M,.i N,.i H,.l G,.i 0]) True))/\(¬0<ln W->Nd (¬ln W<0) (Ni (ln W)<|Nd (¬0<ln W)<|Nr (ln Y)<|Nq (ln Y)<|Nr (ln W)<|Nd (¬ln (Sx.over V 0 W)<ln W)<|Nd (R1 X [.i Z,.s T,.l E,.s S,.i K,.i L,.b M,.i N,.i H,.l<|pQ (Sx.over V 0 W) 0<|ln W,.i 0]) True))))))/\(¬0<ln Y->Nd (¬ln Y<0) (Ni (ln Y)<|Nd (¬0<ln Y)<|∀(w:Bool),(w->ln W=0->Nr (ln Y) (Nd (¬ln (Sx.over V 0 Y)<ln Y)<|Nd (R1 X [.i Z,.s T,.l<|pQ (Sx.over V 0 Y) 0<|ln Y,.s S,.i K,.i L,.b M,.i N,.i H,.l [],.i 0]) True))/\(¬w->Nd (ln W<67108865) ((0<ln W->Nd (¬ln W<0) (Ni (ln W)<|Ni (ln W)<|Nr (ln Y)<|Nd (¬ln (Sx.over V 0 Y)<ln Y)<|Nr (ln W)<|Nq (ln W)<|Nd (R1 X [.i Z,.s T,.l<|pQ (Sx.over V 0 Y) 0<|ln Y,.s S,.i K,.i L,.b M,.i N,.i H,.l G,.i 0]) True))/\(¬0<ln W->Nd (¬ln W<0) (Ni (ln W)<|Nd (¬0<ln W)<|Nr (ln Y)<|Nd (¬ln (Sx.over V 0 Y)<ln Y)<|Nr (ln W)<|Nd (¬ln (Sx.over V 0 W)<ln W)<|Nd (R1 X [.i Z,.s T,.l<|pQ (Sx.over V 0 Y) 0<|ln Y,.s S,.i K,.i L,.b M,.i N,.i H,.l<|pQ (Sx.over V 0 W) 0<|ln W,.i 0]) True)))))))))))/\(¬x=true->Nd (R1 X [.i 0,.s [],.l [],.s [],.i 0,.i 0,.b false,.i 0,.i 0,.l [],.i 11]) True)))
def yn :kr lf tR (Fb 0) (yY 0) 50=yo:=by kernel_rfl
def PJ {S:a8}{k:Int}(b:0<=k)(c:k<S.length):∃r,r∈S/\(∀j,A7 S k j=r.getD j (.i 0))/\hdF (S.drop k.toNat) k=if(r.getD 1<|.i 0).f then [.i k,r.getD 0<|.i 0]::hdF (S.drop (k+1).toNat) (k+1)else hdF (S.drop (k+1).toNat) (k+1):=by let⟨r,a,d⟩:=eI b c;exact⟨r,YA<|by rw[a];exact List.mem_cons_self,d,by rw[a];rfl⟩
def Ns {O:a8}{r:Ar}:pQ (Sx.over O (ln O) [r]) 0 (ln O+1)=O++ [r]:=by
 rw[pQ,Sx.over];have e:(ln O+1).toNat=O.length+1:=by simp only[ln];omega
 have a:(ln O).toNat=O.length:=by simp only[ln];omega
 rw[e,a,List.take_length,List.drop_of_length_le (l:=O)<|by omega,YD,Int.toNat_zero,YJ];exact XP (by simp)
def za :zf:=by
 rw[zf];intro S fr I t u v x y z A B J h;let⟨C,D,l⟩:=h;have o:∀(S:a8) (k:Int),(hdF S k).length<=S.length:=by
  intro S;induction S with
  |nil=>intro k;exact Xh _
  |cons r S q=>intro k;rw[hdF];have:=q<|k+1;split<;>simp<;>omega
 have:=o S 0;have H:ln S<=1000:=by simp only[ln];omega
 refine ag<|ag<|ndi (by simp only[ln];omega)<|nrn<|nin<|ndi ⟨by omega,by omega,by simp[pQ],by simp[pQ]⟩ λO k hI=>?_;let⟨s,E,F,a⟩:=hI;have G:ln O<=1000:=by simp only[ln];omega
 refine⟨λb=>?_,λb=>nin<|nrn<|ndt ?_⟩
 .have f:k<S.length:=b;let⟨r,m,g,j⟩:=PJ s f;let⟨n,p⟩:=l r m;have c:cB S k 1=(r.getD 1<|.i 0).f:=by simp only[cB,g]
  have e:(.i (cI S k 0):Dat)=r.getD 0 (.i 0):=by simp only[cI,g,p];rfl
  refine ag<|ndi b<|ndi b ⟨λd=>?_,λd=>?_⟩
  .rw[c]at d;rw[j,Xg d]at a;have lk:O.length+1<=(hdF S 0).length:=by rw[<-a];simp
   have row:(b9 2 1 [.i (IntKind.wrap .u32 k),.i<|cI S k 0]:a8)=[[.i k,r.getD 0<|.i 0]]:=by rw[T7 (by simp[IntKind.min,IntKind.signed];omega) (by simp[IntKind.max,IntKind.signed,IntKind.bits];omega),<-e];rfl
   rw[row,Ns];refine nin<|ag ⟨λh=>?_,λh=>nin<|ndi (by rw[I64];omega)<|ndi ?_ (nrn<|nin<|ndi ⟨by omega,by omega,by simp;omega,?_⟩<|ndt ?_)⟩;simp only[ln]at h;omega;simp only[Sx.over,ln,Xl,Xt,XV,XD,YS];omega;rw[WX];exact a;simp only[xJ];omega
  rw[c]at d;rw[j,Xd d]at a;refine ndi (by rw[I64];omega)<|nin<|nrn<|nrn<|nin<|ndi ⟨by omega,by omega,by omega,a⟩<|ndt ?_;simp only[xJ];omega
 have b:¬k<(S.length:Int):=b;rw[List.drop_eq_nil_of_le<|by omega]at a;show O=hdF S 0;rw[<-a];simp[hdF]
def ym :yo:=by
 rw[yo];intro i g S fr Q z C E F G H I J R N h;let⟨y,x,D,K,q,r⟩:=h;have j:=q.e r;refine bS ⟨y,x,j⟩ ⟨λhv=>?_,λhv=>ndt ?_⟩
 .obtain⟨c,P⟩:=q.d.1 hv;let⟨s,u,U,v,V,M,O,w⟩:=q.j P;have W:ln (cL N (atF S i g) 2)<=8:=by
   have:cL N (atF S i g) 2=s.n.d.map Att.d:=by rw[cL,w];rfl
   rw[this];simp only[ln,Xc];have:=(r.w c s u v).1;omega
  have X:ln (cL N (atF S i g) 9)<=1000:=by
   have:cL N (atF S i g) 9=s.n.e.map (D4 D.d):=by rw[cL,w];rfl
   rw[this];simp only[ln,Xc];have:=r.o u v;omega
  have a:∀ {A B:a8},A=cL N (atF S i g) 2->B=cL N (atF S i g) 9->R1 [.i i,.i g,.l S,.i fr,.i Q,.i z,.i C,.i E,.i F,.i G,.i H,.i I,.i J,.l R,.l N] [.i (cI N (atF S i g) 0),.s<|cS N (atF S i g) 1,.l A,.s<|cS N (atF S i g) 3,.i<|cI N (atF S i g) 4,.i<|cI N (atF S i g) 5,.b<|cB N (atF S i g) 6,.i<|cI N (atF S i g) 7,.i<|cI N (atF S i g) 8,.l B,.i 0]:=λf d=>by show ite _ _ _;rw[Xg hv];exact⟨rfl,rfl,f,rfl,rfl,rfl,rfl,rfl,rfl,d,rfl⟩
  refine J1 ⟨y,x,j⟩<|E9 M O ?_;have k:∀ {L:a8},ln L=0->[]=L:=λh=>(WP (by simp only[ln]at h;omega)).symm;have p:∀ {L:a8},0<=ln L:=λ{L}=>by simp only[ln];omega
  have o:∀ {L:a8},¬0<ln L->Sx.over (b9 2 0 []) 0 L=L:=λ{L} h=>by have:=k (L:=L) (by have:=p (L:=L);omega);subst this;rfl
  have pt:∀ {L:a8},¬0<ln L->pQ (Sx.over (b9 2 0 []) 0 L) 0 (ln L)=L:=λ{L} h=>by have:=k (L:=L) (by have:=p (L:=L);omega);subst this;rfl
  have Y:=p (L:=cL N (atF S i g) 2);have zB:=p (L:=cL N (atF S i g) 9);exactλT=>⟨λ_ m t=>⟨λ_ e=>ndt<|a (k m)<|k e,λ_=>ag ⟨λd=>ag<|nin<|nin<|nrn<|nin<|nrn<|ndt<|a (k m) rfl,λd=>ag<|nin<|ndi d<|nrn<|ndi (by rw[o d];omega)<|ndt<|a (k m)<|pt d⟩⟩,
   λ_=>ag ⟨λf=>ag<|nin<|nin λt=>⟨λ_ e=>nrn<|nin<|nrn<|ndt<|a rfl<|k e,λ_=>ag ⟨λd=>ag<|nin<|nin<|nrn<|nin<|nrn<|nrn<|nin<|nrn<|ndt<|a rfl rfl,λd=>ag<|nin<|ndi d<|nrn<|nin<|nrn<|nrn<|ndi (by rw[o d];omega)<|ndt<|a rfl<|pt d⟩⟩,
    λf=>ag<|nin<|ndi f λt=>⟨λ_ e=>nrn<|ndi (by rw[o f];omega)<|ndt<|a (pt f)<|k e,λ_=>ag ⟨λd=>ag<|nin<|nin<|nrn<|ndi (by rw[o f];omega)<|nrn<|nin<|nrn<|ndt<|a (pt f) rfl,λd=>ag<|nin<|ndi d<|nrn<|ndi (by rw[o f];omega)<|nrn<|ndi (by rw[o d];omega)<|ndt<|a (pt f)<|pt d⟩⟩⟩⟩
 show ite _ _ _;rw[Xd hv]
section
variable {D :DM}{S N:a8}{fr Z i k:Int}{K:Nat}{T:List RS}{M:List RN}{l:Ah}{G:Nat->Nat}
def Ch.d :∀ {l:Ah} {i:Int},Ch T i l-> ∀f,l.length<=f->chL (T.map RS.d) f i=l.length
 | [],i,h,f,_=>by have h:i=0:=h;subst h;cases f<;>simp[chL]
 |a::l,i,⟨j,r,c,m,d⟩,f,b=>by
  obtain⟨f,rfl⟩:∃k,f=k+1:=⟨f-1,by simp at b;omega⟩
  have e:i-1=(a:Int):=by omega
  have g:T[((a:Nat):Int).toNat]? =some r:=by rw[Xz];exact c
  rw[chL,Xg<|by omega,e,show cI (T.map RS.d) a 2=r.e by simp only[cI];rw[d9 g];rfl,d.d f (by simp at b;omega)];rfl
def Ch.f :∀ {l:Ah} {i:Int},Ch T i l->0<=i/\i<=T.length
 | [],i,h=>by have h:i=0:=h;omega|a::l,i,⟨c,r,b,d,e⟩=>by have:=(WM.1 b).1;omega
def Ch.h (h:Ch T i l)(c:l.Nodup):l.length<=T.length:=by
 have d:l ⊆ List.range T.length:=λj b=>by let⟨r,a,_⟩:=h.b j b;exact List.mem_range.2 (WM.1 a).1
 simpa using c.length_le_of_subset d
def rh :rl:=by
 rw[rl];intro S fr Z G H I J L P Q R st h;obtain⟨D,K,N,⟨T,M,rfl,rfl,b⟩,y⟩:=h;have Y:=b.h;have E:=y.m;have U:=b.d.h b.e;have s:=b.d.f;refine ndi ⟨s.1,by rw[Xc];exact s.2,rfl,by rw[b.d.d 1001<|by omega];simp;omega,T,_,rfl,b.d,b.e⟩ λO i hI=>?_;let⟨i0,A,o,j,T',l,q,g,v⟩:=hI;rw[q]at A o j⊢;have C:T'.length=T.length:=by have:=congrArg List.length q;simpa using this.symm
 have ll:=g.h v;have p:=g.d 1001 (by omega);rw[p]at j;have lo:ln O<=1000:=by simp only[ln];omega
 have F:0<=ln O:=by simp only[ln];omega
 have B:ln (T'.map RS.d)=(T.length:Int):=by simp[ln,C]
 refine⟨λm=>?_,λm=>ag<|nin<|nin<|nrn<|nin<|nrn<|ndt ?_⟩
 .cases l with
  |nil=>have:i=0:=g;omega|cons a l=>
   let⟨V,r,t,W,d⟩:=g;have X:=(WM.1 t).1;have e:i+ -1=(a:Int):=by omega
   have x:i-1=(a:Int):=by omega
   have z:T'[((a:Nat):Int).toNat]? =some r:=by rw[Xz];exact t
   have nx:cI (T'.map RS.d) a 2=r.e:=by simp only[cI];rw[d9 z];rfl
   rw[e];have w:IntKind.wrap .u32 (a:Int)=a:=T7 (by simp[IntKind.min,IntKind.signed]) (by simp[IntKind.max,IntKind.signed,IntKind.bits];omega);rw[w,nx];have c:(a:Int)<ln (T'.map RS.d):=by rw[B];omega
   have k:I64 (a:Int):=by rw[I64];omega
   have n:=(List.nodup_cons.1 v).2;have j:O.length+(l.length+1)<=1000:=j;have u:=d.f;refine ndi k<|ndi k<|ag<|ndi c<|ndi c<|nin<|ag<|nrn<|ndi k<|ag<|ndi c<|ndi c<|nin<|nrn<|ndi ⟨u.1,by rw[Xc];exact u.2,?_,?_,T',l,rfl,d,n⟩<|ndt ?_
   .rw[<-o,WX];congr 1;have:(1001-O.length)=(1001-(O++b9 2 1 [.i (a:Int),.i<|cI (T'.map RS.d) a 0]).length)+1:=by
     have:(O++b9 2 1 [.i (a:Int),.i<|cI (T'.map RS.d) a 0]).length=O.length+1:=by rw[Xl];rfl
     omega
    rw[this]
    conv=>rhs;rw[waF]
    rw[Xg m,x,nx];rfl
   rw[d.d 1001<|by omega,Xl];show O.length+1+l.length<=1000;omega;show chL (T'.map RS.d) 1001 r.e<chL (T'.map RS.d) 1001 i;rw[d.d 1001<|by omega,p];simp
 .show O=waF (T'.map RS.d) 1001 fr;rw[<-o];have:∀f,waF (T'.map RS.d) f i=[]:=λf=>by cases f<;>simp[waF,m]
  rw[this,YD]
def Ls :∀ {T:List RS} {k:Int} {r:Ar},r∈hdF (T.map RS.d) k-> ∃(j:Nat) (q:RS),T[j]? =q/\q.u/\r=[.i (k+j),.i q.g]
 | [],_,_,h=>by simp[hdF]at h|q::T,k,r,h=>by
  rw[XU]at h;rw[hdF] at h;have a:r∈hdF (T.map RS.d) (k+1)-> ∃(j:Nat) (b:RS),(q::T)[j]? =b/\b.u/\r=[.i (k+j),.i b.g]:=λh=>by let⟨j,b,d,e,f⟩:=Ls h;exact⟨j+1,b,by simpa using d,e,by rw[f];simp;omega⟩
  by_cases c:q.u;rw[Xg<|by simpa [RS.d,Dat.f]using c]at h;obtain h|h:=Xw.1 h;exact⟨0,q,rfl,c,by rw[h];simp[RS.d]⟩;exact a h;rw[Xd<|by simpa [RS.d,Dat.f]using c]at h;exact a h
def DO :∀ {T:List RS} {k:Int},(hdF (T.map RS.d) k).length=T.countP (·.u)
 | [],_=>rfl|q::T,k=>by rw[XU];rw[hdF];by_cases a:q.u;rw[Xg<|by simpa [RS.d,Dat.f]using a,XD,DO,List.countP_cons_of_pos<|by exact a];rw[Xd<|by simpa [RS.d,Dat.f]using a,DO,List.countP_cons_of_neg<|by exact a]
def RlT.f (h:RlT G D T M fr Z):T.countP (·.u)=D.L.countP (·.d):=by
 have:T.map (·.u)=D.L.map (·.d):=by
  apply List.ext_getElem?;intro j;simp only[XQ];cases a:D.L[j]? with
  |none=>rw[YT<|by rw[h.h];exact List.getElem?_eq_none_iff.1 a];rfl|some s=>let⟨r,b,e,d,_⟩:=h.m j s a;rw[b];simp[d]
 simpa [List.countP_map,Function.comp_def]using (congrArg (List.countP id) this)
def Rl.q (h:Rl D.d D S N fr Z)(w:WF D K):(S.length<=1000/\Z=(hdF S 0).length/\ ∀r∈S,∃n:Int,r.getD 0 (.i 0)= .i n)/\ ∀r∈hdF S 0,∃(i g:Int) (c:Nat),r=[.i i,.i g]/\D.m i g=some c:=by have k:=h.e w;obtain⟨T,M,rfl,rfl,h⟩:=h;refine⟨⟨k,by rw[h.w,DO,h.f],λr a=>?_⟩,λr a=>?_⟩;obtain⟨q,_,rfl⟩:=Yw.1 a;exact⟨q.g,rfl⟩;let⟨j,q,d,e,f⟩:=Ls a;let⟨s,b,l,m,o⟩:=h.t d;refine⟨_,_,j,f,?_⟩;have:=YY b (by rw[<-m];exact e);rw[YZ b,<-l]at this;rw[Int.zero_add];exact this
def uw :vb:=by
 rw[vb];intro S fr Z J L M P Q R T U st N h;let⟨D,K,p,q⟩:=h;let⟨o,B⟩:=p.q q;have j:=o.1;refine nin<|nrn<|ndi o λH d=>ndi ?_ λO k hI=>?_;exact⟨by omega,by omega,by simp,rfl⟩;have d:H=hdF S 0:=d;let⟨E,k1,k2,a⟩:=hI;have G:(H.length:Int)=Z:=by rw[d];exact o.2.1.symm
 have I:=q.live p;have lo:ln O<=1000:=by simp only[ln];omega
 have F:0<=ln O:=by simp only[ln];omega
 refine⟨λf=>?_,λf=>ag<|nin<|nin<|nrn<|nin<|nrn<|ndt ?_⟩
 .have t:k<H.length:=f;let⟨r,l,w⟩:=eI E t;have C:r∈H:=YA (by rw[l];exact List.mem_cons_self);obtain⟨i,g,c,rfl,v⟩:=B r (by rw[<-d];exact C);have x:cI H k 0=i:=by simp only[cI,w];rfl
  have y:cI H k 1=g:=by simp only[cI,w];rfl
  have u:=q.H v;let⟨s,V,W,X,Y,h5,z,A,_⟩:=p.b v;rw[l]at a;have step:∀b,roB S N [.i i,.i g]=b->(H.drop k.toNat).filter (roB S N)=(if b then [[.i i,.i g]]else [])++(H.drop (k+1).toNat).filter (roB S N):=λb e=>by rw[l,List.filter_cons,e];cases b<;>simp
  rw[<-l]at a;rw[x,y];have no:roB S N [.i i,.i g]=false->iz k O S N H:=λe=>by unfold iz;rw[step false e]at a;refine ndi (by rw[I64];omega)<|nin<|nrn<|ndi ⟨by omega,by omega,by omega,by simpa using a⟩<|ndt ?_;simp only[zP];omega
  refine ag<|ndi f<|J1 ⟨u.1,u.2.1,j⟩ ?_;refine E9 z A ⟨λm=>⟨λn=>?_,λn=>no ?_⟩,λm=>no ?_⟩
  .have e:roB S N [.i i,.i g]:=by show(decide (cI N (atF S i g) 7=0)&&decide (cI N (atF S i g) 8=0))=true;simp[m,n]
   rw[step true e]at a;refine nin<|ag<|nrn<|ndi (by rw[I64];omega)<|nin<|nrn<|ndi ⟨by omega,by omega,?_,?_⟩<|ndt ?_;rw[Xl];show((O.length+1:Nat):Int)<=k+1;omega;rw[WX];exact a;simp only[zP];omega
  show(decide (cI N (atF S i g) 7=0)&&decide (cI N (atF S i g) 8=0))=false;simp[n];show(decide (cI N (atF S i g) 7=0)&&decide (cI N (atF S i g) 8=0))=false;simp[m]
 have f:¬k<(H.length:Int):=f;rw[List.drop_eq_nil_of_le<|by omega]at a;show O=(hdF S 0).filter (roB S N);rw[<-d,<-a];simp
end
def HI :c8:= .mk 0 [] [] [] [] []
def X9 (D:DM):Nat->Nat->c8
 |0,_=>HI|l+1,c=>if 16<(D.e c).e.length then HI else .mk (D.e c).j (D.e c).o [] (D.e c).d (D.e c).m ((D.e c).e.map<|X9 D l)
def Fl :Ar->Prop
 | [.i i,.i g,.i n,.l S,.i fr,.i a,.i _,.i _,.i _,.i _,.i _,.i _,.i _,.i _,.l _,.l N]=>U32 i/\U32 g/\0<=n/\n<=6/\ ∃D K c,Rl D.d D S N fr a/\WF D K/\D.m i g=some c|_=>False
def AW :Ar->Ar->Prop
 | [.i i,.i g,.i n,.l S,.i fr,.i b,.i _,.i _,.i _,.i _,.i _,.i _,.i _,.i _,.l _,.l N],[.i k,.s t,.s y,.l a,.s x,.l ch]=>∀D K c,RlE D S N->WF D K->D.m i g=some c->isT (X9 D n.toNat c) k t y a x ch|_,_=>False
def HH :Ar->Nat
 |_::_:: .i n::_=>n.toNat|_=>0
def cTre:=mkR "tre" [dV,hV,iV] uU Gk Fl [nV] AW
def Fo :Ar->Ar->Prop
 | [.l S,.l N,.i i,.i g,.i n,.l L],[.i j,.i k,.s t,.s y,.l a,.s x,.l O]=>0<=j/\j<=L.length/\(O.length:Int)=j/\ ∀D K c,RlE D S N->WF D K->D.m i g=some c->L=(D.e c).e.map (D4 D.d)/\k=(D.e c).j/\t=(D.e c).o/\y=[]/\a=(D.e c).d.map Att.d/\x=(D.e c).m/\O=rows (((D.e c).e.take j.toNat).map<|X9 D<|n.toNat-1)|_,_=>False
def RP :Ar->Ar->Nat
 | [_,_,_,_,_,.l L],.i j::_=>(L.length-j).toNat|_,_=>0
def Ui :Ay->List (Nat×(Fm->SS->H6))
 |48=>[(0,E1 U0 "trl" (F7 [(53,.int .i64)]<|G9 8 [.int .u8,.str,.str,.lst vC,.str,.acc 30 6]) (gh2 (gh2 (AG 0) sB)<|gh2 (hdT 1)<|gh2 (m9 2)<|m9 51) Fo RP)]
 |_=>[]
def Wl :Nat->List (Ay×Con)
 |_=>[(LVn,dk "lives")]
def VT :Nat->Aw->E4
 |_,P=>aI 0 P
open Go Go.Xe Go.Sx
def iv (n:Nat)(a b c:Int)(d:a8)(f g h j k m o p q r:Int)(t u:a8):Prop:=
 Nd (AW (.i a::.i b::.i c::JD d f g h j k m o p q r t u) [.i 0,.s [],.s [],.l [],.s [],.l []]) True
def sk n:=
 ∀g h c d k m o p q r t u v w x a,(Fl (.i g::.i h::.i c::JD d k m o p q r t u v w x a)/\HH (.i g::.i h::.i c::JD d k m o p q r t u v w x a)<n+1)->Nq (ln d) (Cg y8 y7 (.i g::.i h::JE d k m o p q r t u v w x) λR=>∀b,R [.i b]->Nb b (ln a) (Nb b (ln a)<|Nb b (ln a)<|Nb b (ln a)<|(c=0->iv n g h c d k m o p q r t u v w x a)/\(¬c=0->Nb b (ln a) ((16<ln (cL a b 9)->iv n g h c d k m o p q r t u v w x a)/\(¬16<ln (cL a b 9)->Nb b (ln a) (Nd (Fo [.l d,.l a,.i g,.i h,.i c,.l<|cL a b 9] [.i 0,.i<|cI a b 0,.s<|cS a b 1,.s [],.l<|cL a b 2,.s<|cS a b 3,.l []])<|∀f y z A B C j,Fo [.l d,.l a,.i g,.i h,.i c,.l<|cL a b 9] [.i f,.i y,.s z,.s A,.l B,.s C,.l j]->((f<ln (cL a b 9)->Nb f (ln<|cL a b 9) (Nd (I64<|c+(-1))<|Nq (ln d)<|Nd (Fl (.i (cI (cL a b 9) f 0)::.i (cI (cL a b 9) f 1)::.i (c+(-1))::JD d k m o p q r t u v w x a)/\HH (.i (cI (cL a b 9) f 0)::.i (cI (cL a b 9) f 1)::.i (c+(-1))::JD d k m o p q r t u v w x a)<n)<|
 ∀D F G H I J,AW (.i (cI (cL a b 9) f 0)::.i (cI (cL a b 9) f 1)::.i (c+(-1))::JD d k m o p q r t u v w x a) [.i D,.s F,.s G,.l H,.s I,.l J]->Ni (ln j) (Nd (ln j+1<67108865)<|Nr (ln j)<|Nd (I64<|f+1)<|Nq (ln j+1)<|Nd (Fo [.l d,.l a,.i g,.i h,.i c,.l<|cL a b 9] [.i (f+1),.i y,.s z,.s A,.l B,.s C,.l<|j++b9 6 1 [.i D,.s F,.s G,.l H,.s I,.l J]])<|Nd (RP [.l d,.l a,.i g,.i h,.i c,.l<|cL a b 9] [.i (f+1),.i y,.s z,.s A,.l B,.s C,.l<|j++b9 6 1 [.i D,.s F,.s G,.l H,.s I,.l J]]<RP [.l d,.l a,.i g,.i h,.i c,.l<|cL a b 9] [.i f,.i y,.s z,.s A,.l B,.s C,.l j]) True)))/\(¬f<ln (cL a b 9)->Nq (ln j) (Nd (AW (.i g::.i h::.i c::JD d k m o p q r t u v w x a) [.i y,.s z,.s A,.l B,.s C,.l j]) True)))))))))
def si (n:Nat):kr (cTre.g HH<|n+1) Ui (Wl 0) (λ_=>((48,kro Go.Proofs.Tryz.prog U0<|cTre.g HH n)::VT 0 Go.Proofs.Tryz.prog)) 48=sk n:=by kernel_rfl
def sh (n:Nat):sk n:=by
 rw[sk];intro i g m S fr lv c0 c1 c2 c3 c4 c5 c6 c7 st N h;let⟨⟨hi,hg,m0,m6,D,K,c,A,d,f⟩,I⟩:=h;have I:m.toNat<n+1:=I;have H:=A.e d;let⟨s,G,W,M,h4,h5,w,p,_⟩:=A.b f;have Y:∀ {D K c},RlE D S N->WF D K->D.m i g=some c->cI N (atF S i g) 0=(D.e c).j/\cS N (atF S i g) 1=(D.e c).o/\cL N (atF S i g) 2=(D.e c).d.map Att.d/\cS N (atF S i g) 3=(D.e c).m/\cL N (atF S i g) 9=(D.e c).e.map (D4 D.d)/\ ∀b∈(D.e c).e,D.m b (D.d b)=some b:=by rintro D K c ⟨fr,lv,A⟩ d f;let⟨s,G,W,M,h4,h5,w,p⟩:=A.j f;rw[Za G];refine⟨by unfold cI;rw[p];rfl,by unfold cS;rw[p];rfl,by rw[cL,p];rfl,by rw[cS,p];rfl,by rw[cL,p];rfl,λb r=>?_⟩;let⟨sb,k1,k2,_⟩:=(d.A c s G M).2 b r;exact YY k1 k2
 have Q:∀ {D K c},RlE D S N->WF D K->D.m i g=some c->ln (cL N (atF S i g) 9)=((D.e c).e.length:Int):=λG W M=>by rw[(Y G W M).2.2.2.2.1];simp[ln]
 have o:RlE D S N:=⟨_,_,A⟩
 have t0:m=0\/16<ln (cL N (atF S i g) 9)->iv n i g m S fr lv c0 c1 c2 c3 c4 c5 c6 c7 st N:=λX=>by
  rw[iv];refine ndt λD K c o d f=>?_;have:X9 D m.toNat c=HI:=by
   obtain rfl|X:=X;rfl
   .rw[Q o d f]at X;cases m.toNat with
    |zero=>rfl|succ k=>rw[X9,Xg<|by omega]
  rw[this];exact⟨rfl,rfl,rfl,rfl,rfl,rfl⟩
 refine J1 ⟨hi,hg,H⟩<|E9 w p<|E9 w p<|E9 w p<|E9 w p ⟨λz=>t0<|.inl z,λz=>E9 w p ⟨λz=>t0<|.inr z,λab=>E9 w p<|ndi ?_ λj k t y a x O hI=>?_⟩⟩;refine⟨by omega,by omega,rfl,λD K c o d f=>?_⟩;let⟨J,B,C,E,v,_⟩:=Y o d f;exact⟨v,J,B,rfl,C,E,rfl⟩;let⟨j0,j1,jo,Z⟩:=hI;have aa:=Q o d f;have lz:ln (cL N (atF S i g) 9)<=16:=by omega
 have j1:j<=ln (cL N (atF S i g) 9):=j1;have lo:ln O=j:=jo;refine⟨λP=>?_,λP=>nin<|nrn<|ndt λD K c o d f=>?_⟩
 .have F:∀ {D K c},RlE D S N->WF D K->D.m i g=some c-> ∃b:Nat,(D.e c).e[j.toNat]? =some b/\D.m (cI (cL N (atF S i g) 9) j 0) (cI (cL N (atF S i g) 9) j 1)=some b:=by
   intro D K c o d f;have e:=Q o d f;let⟨J,B,C,E,v,L⟩:=Y o d f;let⟨b,r⟩:=Sx.get_at (T:=(D.e c).e) j0 (by omega);refine⟨b,r,?_⟩;have e0:cI (cL N (atF S i g) 9) j 0=b:=by rw[v];simp only[cI,d9 r];rfl
   have e1:cI (cL N (atF S i g) 9) j 1=D.d b:=by rw[v];simp only[cI,d9 r];rfl
   rw[e0,e1];exact L b<|WT r
  let⟨b,r,q⟩:=F o d f;have u:=d.H q;refine ag<|ndi P<|ndi (by rw[I64];omega)<|nin<|nrn<|ndi ⟨⟨u.1,u.2.1,by omega,by omega,D,K,b,A,d,q⟩,?_⟩ λk' t' y' a' x' U he=>?_;show(m+ -1).toNat<n;omega
  .refine nin (ag<|nrn<|ndi (by rw[I64];omega)<|nin<|nrn<|ndi ⟨by omega,?_,?_,λD K c o d f=>?_⟩<|ndt ?_);show j+1<=ln (cL N (atF S i g) 9);omega;rw[Xl];show((O.length+1:Nat):Int)=j+1;omega
   .obtain⟨J,B,C,E,v,L,R⟩:=Z D K c o d f;refine⟨J,B,C,E,v,L,?_⟩;let⟨b,r,q⟩:=F o d f;have hs:=vI<|he D K b o d q;have ct:(b9 6 1 [.i k',.s t',.s y',.l a',.s x',.l U]:a8)=[(X9 D (m+ -1).toNat b).m]:=by rw[<-hs];rfl
    have V:(m+ -1).toNat=m.toNat-1:=by omega
    have ej:(j+1).toNat=j.toNat+1:=by omega
    rw[ct,R,ej,J9 r,V];simp[rows]
   show((cL N (atF S i g) 9).length-(j+1)).toNat<((cL N (atF S i g) 9).length-j).toNat;have P:j<((cL N (atF S i g) 9).length:Int):=P;omega
 .obtain⟨J,B,C,E,v,L,R⟩:=Z D K c o d f;have e:=Q o d f;have V:m.toNat=(m.toNat-1)+1:=by omega
  rw[V];rw[X9,af];rw[XP<|by omega]at R;exact⟨B,C,E,v,L,R⟩
def gQ:=jJ
def aN :Ar->Ar->Prop
 | [.i i,.i g,.l S,.i fr,.i b,.i _,.i _,.i _,.i _,.i _,.i _,.i _,.i _,.l _,.l N],[.i k,.s t,.s y,.l a,.s x,.l ch,.i r]=>∀D K,RlE D S N->WF D K->match D.m i g with
  |none=>r=11|some c=>(A9 (X9 D 6 c)->r=0/\ ∃s,s=R0 true (X9 D 6 c)/\isT s k t y a x ch)/\(¬A9 (X9 D 6 c)->r=14)
 |_,_=>False
def cTee:=mkR "tee" [dV,hV] uU Gk gQ [nO,iV] aN
def Uj :Ay->List (Nat×(Fm->SS->H6)):=aQ
def RB :Nat->List (Ay×Con)
 |_=>[(42,gz),(98,cCpd),(LVn,dk "lives")]
def QD :Nat->Aw->E4
 |_,P=>(48,kro P U0 cTre)::aI 0 P
open Go Go.Xe Go.Sx
def sw :Prop:=
 ∀c d a f g h j k m o p q r t u,gQ (.i c::.i d::JD a f g h j k m o p q r t u)->Ca (JD a f g h j k m o p q r t u) λX=>Ca (.i c::.i d::X) λV=>Nq (ln a) (Cg L7 H4 (.i c::.i d::JE a f g h j k m o p q r t) λR=>∀C,R [.b C]->((C=true->Nq (ln a) (Cg Fl AW (.i c::.i d::.i 6::X) λR=>∀v w x y z A,R [.i v,.s w,.s x,.l y,.s z,.l A]->Ca (Cg V5 M6 [.i v,.s w,.s x,.l y,.s z,.l A]) λW=>W (λR=>∀B,R [.i B]->((B=0->W (λR=>∀D,R [.i D]->((D=0->Cg rK aH [.i v,.s w,.s x,.l y,.s z,.l A,.b true] (λR=>∀G H I F J K,R [.i G,.s H,.s I,.l F,.s J,.l K]->Nq (ln F) (Nd (aN V [.i G,.s H,.s I,.l F,.s J,.l K,.i 0]) True)))/\(¬D=0->Nd (aN V [.i 0,.s [],.s [],.l [],.s [],.l [],.i 0]) True))))/\(¬B=0->Nd (aN V [.i 0,.s [],.s [],.l [],.s [],.l [],.i B]) True)))))/\(¬C=true->Nd (aN V [.i 0,.s [],.s [],.l [],.s [],.l [],.i 11]) True)))
def sv :kr cTee Uj (RB 0) (QD 0) 12=sw:=by kernel_rfl
def su :sw:=by
 rw[sw];intro i g S fr Z P Q R T U V W X st N h;let⟨H,G,D,K,v,z⟩:=h;have L:RlE D S N:=⟨_,_,v⟩
 refine bS ⟨H,G,v.e z⟩ ⟨λhv=>?_,λhv=>ndt λD' l b d=>?_⟩
 .obtain⟨c,F⟩:=v.d.1 hv;refine nin<|nrn<|ndi ⟨H,G,by omega,by omega,D,K,c,v,z,F⟩ λk t y a x ch E=>?_;have n:isT (X9 D 6 c) k t y a x ch:=E D K c L z F;have u:∀D' l,RlE D' S N->WF D' l-> ∃m,D'.m i g=some m/\isT (X9 D' 6 m) k t y a x ch:=λD' l b d=>by let⟨w,C,j⟩:=b;let⟨m,e⟩:=j.d.1 hv;exact⟨m,e,E D' l m ⟨_,_,j⟩ d e⟩
  refine ndi ⟨_,n⟩ λr q=>⟨λo=>ndi ⟨_,n⟩ λr' A=>⟨λs=>ndi ⟨_,n,((q _ n).1.1 o).1⟩ λY t' y' O x' I J=>nin<|nrn<|ndt λD' l b d=>?_,λs=>absurd ((A _ n).1.2<|(q _ n).1.1 o) s⟩,λo=>ndt λD' l b d=>?_⟩
  let⟨m,e,f⟩:=u D' l b d;rw[e];exact⟨λ_=>⟨rfl,_,rfl,J _ f⟩,λM=>absurd ((q _ f).1.1 o) M⟩;let⟨m,e,f⟩:=u D' l b d;rw[e];exact⟨λB=>absurd ((q _ f).1.2 B) o,λ_=>(q _ f).2.resolve_left o⟩
 let⟨w,C,j⟩:=b;rw[j.h hv]
def C0 (D:DM)(c:Nat):DM:=⟨D.L.modify c λs=>⟨s.g+1,false,A2 0 [] []⟩,c::D.h,D.C⟩
def bel (D:DM):Nat->Nat->Ah
 |0,c=>[c]
 |f+1,c=>c::(D.e c).e.flatMap (bel D f)
def RlX (D:DM)(X:Ah)(S N:a8)(fr a:Int):Prop:=Rl D.d (X.foldl C0 D) S N fr a
def xC :Ar->Prop
 | [.i i,.i g,.l S,.i fr,.i a,.i _,.i _,.i _,.i _,.i _,.i _,.i _,.i _,.l _,.l N,.l Q,.l W]=>U32 i/\U32 g/\Q.length+S.countP (λr=>(r.getD 1<|.i 0).f)<=1000/\W.length=Q.length/\ ∃D X K c,RlX D X S N fr a/\WF D K/\D.m i g=some c/\ ∀b∈bel D 1001 c,b∉X|_=>False
def xD :Ar->Ar->Prop
 | [.i i,.i g,.l S,.i fr,.i w,.i a,.i b,.i c,.i d,.i e,.i f,.i h,.i m,.l _,.l N,.l Q,.l W],[.l o,.i k,.i n,.i p,.i q,.i r,.i s,.i t,.i u,.i v,.i x,.l _,.l j,.l Q',.l W']=>
  [p,q,r,s,t,u,v,x]=[a,b,c,d,e,f,h,m]/\j=N/\W'.length=Q'.length/\Fr S N o j/\ ∀D X K c,RlX D X S N fr w->WF D K->D.m i g=some c->(∀b∈bel D 1001 c,b∉X)->RlX D (X++bel D 1001 c) o j k n/\Q'.length=Q.length+(bel D 1001 c).length
 |_,_=>False
def Ce :Ar->Nat
 |_::_:: .l S::_=>S.countP λr=>(r.getD 1<|.i 0).f
 |_=>0
def frcB :List cJ:=uU++ [(25,1,[.ptr 0 13]),(41,1,[.g (.acc tHd 2)]),(156,1,[.g (.acc 131 1)]),(157,1,[.clo 91 [(2,1),(3,1),(4,1),(5,1)]])]
def frcF :As->SS->Bb (Ah):=λargs s=>match args,rgB s with
 | [_,.g d _ _ _,.g a _ _ _,.g b _ _ _,.g c _ _ _],some r=>match s.f d with
  |some (.f [.g e _ _ _] _ _)=>some [e,r,d,a,b,c]|_=>none
 |_,_=>none
def cFrc :Con:=⟨ "frc",[hV,.t<|.ptr 2 1,.t<|.ptr 3 1,.t<|.ptr 4 1,.t<|.ptr 5 1],frcB,frcF,xC,[],frcB,noB,xD⟩
def frlB :Fm->SS->Bb (List<|Nat×List G):=λf s=>match lk f 1,lk f 2,lk f 3,lk f 4 with
 |some (.g d _ _ _),some (.g a _ _ _),some (.g b _ _ _),some (.g q _ _ _)=>match s.f d with
  |some (.f [.g e _ _ _] _ _)=>some [(e,[.acc Mx 4,.int .i64,.int .i64,.int .i64,.int .i64,.int .i64,.int .i64,.int .i64,.int .i64,.int .i64,.int .i64,.bool,.lst My]),(a,[.acc tHd 2]),(b,[.acc 131 1]),(d,[.keep]),(q,[.keep])]|_=>none
 |_,_,_,_=>none
def rgR :Fm->SS->List (At×G):=λ_ s=>match rgB s with
 |some r=>[(.g,.rgk r 10)]
 |none=>[]
def domG :Fm->SS->List (So×E):=λf s=>match lk f 1 with
 |some (.g d _ _ _)=>match s.f d with
  |some (.f [.g e _ _ _] _ _)=>match s.f e with
   |some (.f (c::l) _ _)=>slG c s++(l.take 10).flatMap svG|_=>[]
  |_=>[]
 |_=>[]
def lstG (t:Nat):Fm->SS->List (So×E):=λf s=>match lk f t with
 |some (.g d _ _ _)=>match s.f d with
  |some (.f [c] _ _)=>slG c s|_=>[]
 |_=>[]
def nL :Ar->Ar->Prop
 | [.l N,.l L,.l S,.i fr,.i A,.i a,.i b,.i c,.i d,.i e,.i f,.i h,.i m,.l Q,.l W],[.l p,.i j,.l S',.i k,.i o,.i s,.i t,.i u,.i v,.i w,.i x,.i y,.i B,.b z,.l _,.l Q',.l W']=>
  p=N/\z=false/\[s,t,u,v,w,x,y,B]=[a,b,c,d,e,f,h,m]/\0<=j/\j<=L.length/\W'.length=Q'.length/\Q'.length+S'.countP (λr=>(r.getD 1<|.i 0).f)<=1000/\S'.countP (λr=>(r.getD 1<|.i 0).f)<=S.countP (λr=>(r.getD 1<|.i 0).f)/\Fr S N S' N/\
   ∀D X K (q:Nat) g,RlX D X S N fr A->WF D K->D.L[q]? =some g->g.d->L=g.n.e.map (D4 D.d)->(∀b∈g.n.e.flatMap (bel D 1001),b∉X)->RlX D (X++(g.n.e.take j.toNat).flatMap (bel D 1001)) S' N k o/\Q'.length=Q.length+((g.n.e.take j.toNat).flatMap<|bel D 1001).length
 |_,_=>False
def Gr :Ar->Ar->Nat
 |_:: .l L::_,_:: .i j::_=>(L.length-j).toNat|_,_=>0
def Uk :Ay->List (Nat×(Fm->SS->H6))
 |91=>[(0,E1 U0 "frl" (mkPr rgR [(32,.int .i64)] frlB) (gh2 (gh2 sB<|m9 30)<|gh2 domG<|gh2 (lstG 2)<|lstG 3) nL Gr)]
 |_=>[]
def Wm :Nat->List (Ay×Con)
 |_=>[(LVn,dk "lives")]
def VU :Nat->Aw->E4:=aI
open Go Go.Xe Go.Sx
def nf (n:Nat)(a:a8)(d:Bool)(b c:a8)(f g:Int)(h:a8)(j k m o p q r s t u:Int)(v w x y:a8)(z A B C D F G H I J:Int)(K L:a8):Prop:=
 Nq (ln a)<|Nd (¬d)<|Nq (ln b)<|Nq (ln c)<|Nd (xD (.i f::.i g::.l h::J10 j k m o p q r s t u [.l v,.l w,.l x,.l y])<|.l a::J10 z A B C D F G H I J [.l K,.l L,.l b,.l c]) True
def zr n:=
 ∀a j c m k o p q r s t u v x13 d f g,(xC (.i a::.i j::.l c::J10 m k o p q r s t u v [.l x13,.l d,.l f,.l g])/\Ce (.i a::.i j::.l c::J10 m k o p q r s t u v [.l x13,.l d,.l f,.l g])<n+1)->Nd ((¬a<0)/\a<18446744073709551616) (Nd ((¬ln c<0)/\ln c<18446744073709551616)<|(a<ln c->Nb a (ln c) (Nd (a<ln c)<|(cB c a 1->Nd (a<ln c) ((cI c a 0=j->Nd (a<ln c) (Nd (a<ln c)<|Nd (a<ln c)<|Nd (I64<|k+(-1))<|Nd (a<ln c)<|(cI c a 0<4294967295->Nd (a<ln c) (Nd (a<ln c)<|Nb a (ln c)<|Nd (a<ln c)<|Nd (I64 a)<|Nd (I64<|a+1)<|Ni (ln f)<|Nd (ln f+1<67108865)<|Nr (ln f)<|Ni (ln g)<|Nd (ln g+1<67108865)<|Nr (ln g)<|Nb (cI c a 3) (ln d)<|Nq (ln c)<|Nq (ln f+1)<|Nq (ln g+1)<|Nd (nL (.l d::.l (cL d (cI c a 3) 9)::.l (a9 (a9 (a9 (a9 c a 1<|.b false) a 3<|.i<|-1) a 0<|.i<|IntKind.wrap .u32<|cI c a 0+1) a 2<|.i m)::J10 (a+1) (k+(-1)) o p q r s t u v [.l (f++b9 2 1 [.i a,.i j]),.l<|g++b9 1 1 [.i (cI c a 3)]])<|.l d::.i 0::.l (a9 (a9 (a9 (a9 c a 1<|.b false) a 3<|.i<|-1) a 0<|.i<|IntKind.wrap .u32<|cI c a 0+1) a 2<|.i m)::J10 (a+1) (k+(-1)) o p q r s t u v [.b false,.l x13,.l<|f++b9 2 1 [.i a,.i j],.l<|g++b9 1 1 [.i (cI c a 3)]])<|
 ∀z h w A B C D F G H I J K M L x y,nL (.l d::.l (cL d (cI c a 3) 9)::.l (a9 (a9 (a9 (a9 c a 1<|.b false) a 3<|.i<|-1) a 0<|.i<|IntKind.wrap .u32<|cI c a 0+1) a 2<|.i m)::J10 (a+1) (k+(-1)) o p q r s t u v [.l (f++b9 2 1 [.i a,.i j]),.l<|g++b9 1 1 [.i (cI c a 3)]]) (.l z::.i h::.l w::J10 A B C D F G H I J K [.b M,.l L,.l x,.l y])->((h<ln (cL d (cI c a 3) 9)->Nb h (ln<|cL d (cI c a 3) 9) (Nq (ln w)<|Nd (¬M=true)<|Nq (ln x)<|Nq (ln y)<|Nd (xC (.i (cI (cL d (cI c a 3) 9) h 0)::.i (cI (cL d (cI c a 3) 9) h 1)::.l w::J10 A B C D F G H I J K [.l L,.l z,.l x,.l y])/\Ce (.i (cI (cL d (cI c a 3) 9) h 0)::.i (cI (cL d (cI c a 3) 9) h 1)::.l w::J10 A B C D F G H I J K [.l L,.l z,.l x,.l y])<n)<|
 ∀N Q R S T U V W X Y Z x45 x46 O P,xD (.i (cI (cL d (cI c a 3) 9) h 0)::.i (cI (cL d (cI c a 3) 9) h 1)::.l w::J10 A B C D F G H I J K [.l L,.l z,.l x,.l y]) (.l N::J10 Q R S T U V W X Y Z [.l x45,.l x46,.l O,.l P])->Nd (I64<|h+1) (Nq (ln N)<|Nq (ln O)<|Nq (ln P)<|Nd (nL (.l d::.l (cL d (cI c a 3) 9)::.l (a9 (a9 (a9 (a9 c a 1<|.b false) a 3<|.i<|-1) a 0<|.i<|IntKind.wrap .u32<|cI c a 0+1) a 2<|.i m)::J10 (a+1) (k+(-1)) o p q r s t u v [.l (f++b9 2 1 [.i a,.i j]),.l<|g++b9 1 1 [.i (cI c a 3)]])<|.l x46::.i (h+1)::.l N::J10 Q R S T U V W X Y Z [.b false,.l x45,.l O,.l P])<|
 Nd (Gr (.l d::.l (cL d (cI c a 3) 9)::.l (a9 (a9 (a9 (a9 c a 1<|.b false) a 3<|.i<|-1) a 0<|.i<|IntKind.wrap .u32<|cI c a 0+1) a 2<|.i m)::J10 (a+1) (k+(-1)) o p q r s t u v [.l (f++b9 2 1 [.i a,.i j]),.l<|g++b9 1 1 [.i (cI c a 3)]]) (.l x46::.i (h+1)::.l N::J10 Q R S T U V W X Y Z [.b false,.l x45,.l O,.l P])<Gr (.l d::.l (cL d (cI c a 3) 9)::.l (a9 (a9 (a9 (a9 c a 1<|.b false) a 3<|.i<|-1) a 0<|.i<|IntKind.wrap .u32<|cI c a 0+1) a 2<|.i m)::J10 (a+1) (k+(-1)) o p q r s t u v [.l (f++b9 2 1 [.i a,.i j]),.l<|g++b9 1 1 [.i (cI c a 3)]]) (.l z::.i h::.l w::J10 A B C D F G H I J K [.b M,.l L,.l x,.l y])) True)))/\(¬h<ln (cL d (cI c a 3) 9)->nf n w M x y a j c m k o p q r s t u v x13 d f g A B C D F G H I J K L z))))/\(¬cI c a 0<4294967295->Ni (ln f) (Nd (ln f+1<67108865)<|Nr (ln f)<|Ni (ln g)<|Nd (ln g+1<67108865)<|Nr (ln g)<|Nb (cI c a 3) (ln d)<|Nq (ln c)<|Nq (ln f+1)<|Nq (ln g+1)<|Nd (nL (.l d::.l (cL d (cI c a 3) 9)::.l (a9 (a9 c a 1<|.b false) a 3<|.i<|-1)::J10 m (k+(-1)) o p q r s t u v [.l (f++b9 2 1 [.i a,.i j]),.l<|g++b9 1 1 [.i (cI c a 3)]])<|.l d::.i 0::.l (a9 (a9 c a 1<|.b false) a 3<|.i<|-1)::J10 m (k+(-1)) o p q r s t u v [.b false,.l x13,.l<|f++b9 2 1 [.i a,.i j],.l<|g++b9 1 1 [.i (cI c a 3)]])<|
 ∀z h w A B C D F G H I J K M L x y,nL (.l d::.l (cL d (cI c a 3) 9)::.l (a9 (a9 c a 1<|.b false) a 3<|.i<|-1)::J10 m (k+(-1)) o p q r s t u v [.l (f++b9 2 1 [.i a,.i j]),.l<|g++b9 1 1 [.i (cI c a 3)]]) (.l z::.i h::.l w::J10 A B C D F G H I J K [.b M,.l L,.l x,.l y])->((h<ln (cL d (cI c a 3) 9)->Nb h (ln<|cL d (cI c a 3) 9) (Nq (ln w)<|Nd (¬M=true)<|Nq (ln x)<|Nq (ln y)<|Nd (xC (.i (cI (cL d (cI c a 3) 9) h 0)::.i (cI (cL d (cI c a 3) 9) h 1)::.l w::J10 A B C D F G H I J K [.l L,.l z,.l x,.l y])/\Ce (.i (cI (cL d (cI c a 3) 9) h 0)::.i (cI (cL d (cI c a 3) 9) h 1)::.l w::J10 A B C D F G H I J K [.l L,.l z,.l x,.l y])<n)<|
 ∀N Q R S T U V W X Y Z x45 x46 O P,xD (.i (cI (cL d (cI c a 3) 9) h 0)::.i (cI (cL d (cI c a 3) 9) h 1)::.l w::J10 A B C D F G H I J K [.l L,.l z,.l x,.l y]) (.l N::J10 Q R S T U V W X Y Z [.l x45,.l x46,.l O,.l P])->Nd (I64<|h+1) (Nq (ln N)<|Nq (ln O)<|Nq (ln P)<|Nd (nL (.l d::.l (cL d (cI c a 3) 9)::.l (a9 (a9 c a 1<|.b false) a 3<|.i<|-1)::J10 m (k+(-1)) o p q r s t u v [.l (f++b9 2 1 [.i a,.i j]),.l<|g++b9 1 1 [.i (cI c a 3)]])<|.l x46::.i (h+1)::.l N::J10 Q R S T U V W X Y Z [.b false,.l x45,.l O,.l P])<|
 Nd (Gr (.l d::.l (cL d (cI c a 3) 9)::.l (a9 (a9 c a 1<|.b false) a 3<|.i<|-1)::J10 m (k+(-1)) o p q r s t u v [.l (f++b9 2 1 [.i a,.i j]),.l<|g++b9 1 1 [.i (cI c a 3)]]) (.l x46::.i (h+1)::.l N::J10 Q R S T U V W X Y Z [.b false,.l x45,.l O,.l P])<Gr (.l d::.l (cL d (cI c a 3) 9)::.l (a9 (a9 c a 1<|.b false) a 3<|.i<|-1)::J10 m (k+(-1)) o p q r s t u v [.l (f++b9 2 1 [.i a,.i j]),.l<|g++b9 1 1 [.i (cI c a 3)]]) (.l z::.i h::.l w::J10 A B C D F G H I J K [.b M,.l L,.l x,.l y])) True)))/\(¬h<ln (cL d (cI c a 3) 9)->nf n w M x y a j c m k o p q r s t u v x13 d f g A B C D F G H I J K L z))))))/\(¬cI c a 0=j->Ni (ln f) (Nd (ln f+1<67108865)<|Nr (ln f)<|Ni (ln g)<|Nd (ln g+1<67108865)<|Nr (ln g) False))))/\(¬cB c a 1->Ni (ln f) (Nd (ln f+1<67108865)<|Nr (ln f)<|Ni (ln g)<|Nd (ln g+1<67108865)<|Nr (ln g) False))))/\(¬a<ln c->Ni (ln f) (Nd (ln f+1<67108865)<|Nr (ln f)<|Ni (ln g)<|Nd (ln g+1<67108865)<|Nr (ln g) False)))
def zq (n:Nat):kq (cFrc.g Ce<|n+1) Uk ((91,cFrc.g Ce n)::Wm 0) (VU 0) 91=zr n:=by kernel_rfl
section
variable {D :DM}{S N:a8}{fr lv i g:Int}{K c:Nat}{G:Nat->Nat}{T:List RS}{M:List RN}
def OT (w:WF D K){r:Nat->Nat}(m:∀i,r i<=K)(p:∀(i:Nat) s,D.L[i]? =some s->s.d-> ∀j∈s.n.e,r i<r j):∀(n:Nat) {c:Nat} {s:Sl},D.L[c]? =some s->s.d->K-r c<=n-> ∀f b,n<f->n<b->bel D f c=bel D b c:=by
 intro n;induction n with
 |zero=>
  intro c s d g t f b q h;obtain⟨f,rfl⟩:∃k,f=k+1:=⟨f-1,by omega⟩
  obtain⟨b,rfl⟩:∃k,b=k+1:=⟨b-1,by omega⟩
  unfold bel;rw[Za d];cases e:s.n.e with
  |nil=>rfl|cons a l=>have:=p c s d g a (by simp[e]);have:=m a;omega
 |succ n u=>
  intro c s d g t f b q h;obtain⟨f,rfl⟩:∃k,f=k+1:=⟨f-1,by omega⟩
  obtain⟨b,rfl⟩:∃k,b=k+1:=⟨b-1,by omega⟩
  unfold bel;rw[Za d];congr 1;rw[List.flatMap_def,List.flatMap_def];congr 1;refine List.map_congr_left λj o=>?_;let⟨y,v,x,_⟩:=(w.A c s d g).2 j o;have:=p c s d g j o;have:=m j;exact u v x (by omega) f b (by omega) (by omega)
def Z4 (w:WF D K){s:Sl}(a:D.L[c]? =s)(e:s.d):bel D 1001 c=c::s.n.e.flatMap (bel D 1001):=by
 let⟨r,b,d⟩:=w.B;have f:=w.m;rw[OT w b d K a e (by omega) 1001 1002 (by omega)<|by omega]
 conv=>lhs;rw[bel]
 rw[Za a]
def yK {L:List Sl}{q:Sl->Sl}(d:∀s,(q s).d=false):∀ {c:Nat} {s:Sl},L[c]? =some s->s.d->(L.modify c q).countP (·.d)+1=L.countP (·.d):=by
 induction L with
 |nil=>intro c s h;simp at h
 |cons a L e=>
  intro c s h b;cases c with
  |zero=>simp at h;subst h;simp[List.countP_cons,b,d]|succ c=>simp at h;have:=e h b;simp[List.countP_cons];omega
def RlT.q (h:RlT G D T M fr lv){s:Sl}(p:D.L[c]? =some s)(v:s.d):RlT G (C0 D c) (T.modify c λr=>⟨r.g+1,false,fr, -1⟩) M (c+1) (lv-1):=by
 let⟨r,k,A,o,_⟩:=h.m c s p;have u:c∉D.h:=λm=>by let⟨F,w,x⟩:=h.d.b c m;rw[k]at w;cases w;rw[o,v]at x;cases x
 have get:∀j,(C0 D c).L[j]? =if c=j then D.L[j]?.map (λs=>⟨s.g+1,false,A2 0 [] []⟩)else D.L[j]? :=λj=>j9 ..
 refine⟨by rw[C0];simpa using h.h,λj t d=>?_,λa b C E f i y z e=>?_,⟨rfl,⟨r.g+1,false,fr, -1⟩,by rw[j9,Xg rfl,k];rfl,rfl,h.d.e u⟩,List.nodup_cons.2 ⟨u,h.e⟩,λj t d B=>?_,?_⟩;rw[get]at d;simp only[j9];by_cases e:c=j;subst e;rw[Xg rfl,p]at d;cases d;exact⟨⟨r.g+1,false,fr, -1⟩,by rw[Xg rfl,k];rfl,by simp[A],rfl,λh=>by simp at h⟩;rw[Xd e]at d⊢;exact h.m j t d;simp only[j9]at f i;by_cases l:c=a;rw[Xg l]at f;subst l;rw[k]at f;cases f;simp at y;by_cases n:c=b;rw[Xg n]at i;subst n;rw[k]at i;cases i;simp at z;rw[Xd l]at f;rw[Xd n]at i;exact h.o a b C E f i y z e;rw[get]at d;by_cases e:c=j;subst e;exact List.mem_cons_self;rw[Xd e]at d;exact Yb _<|h.v j t d B;rw[h.w];have:=yK (q:=λs=>⟨s.g+1,false,A2 0 [] []⟩) (λ_=>rfl) p v;rw[C0];simp only;omega
end
section
variable {D :DM}{S N S' N' W V:a8}{fr Z i g:Int}{K a b c:Nat}{G:Nat->Nat}{T:List RS}{M:List RN}{X Y:Ah}
def Fr.d (h:Fr S N S' N')(l:Fr S' N' W V):Fr S N W V:=by let⟨x,m,f⟩:=h;let⟨y,s,t⟩:=l;refine⟨by omega,λk r g=>?_,λi n a=>?_⟩;rw[s k (by omega) λj o a e=>?_,m k r g];obtain⟨q,b,c,d⟩|h:=f j o a;exact g q b c<|d.trans e;omega;obtain⟨q,b,c,d⟩|h:=t i n a;obtain⟨p,u,v,w⟩|h:=f q b c;exact .inl ⟨p,u,v,w.trans d⟩;exact .inr (by omega);exact .inr (by omega)
def K6 :∀ {X:Ah} {D:DM} {j:Nat},j∉X->(X.foldl C0 D).L[j]? =D.L[j]?
 | [],_,_,_=>rfl|x::X,D,j,h=>by rw[List.foldl_cons,K6<|λm=>h<|Yb _ m];simp only[C0,j9];rw[Xd (show¬x=j fromλe=>h<|by simp[e])]
def xE :∀ {X:Ah} {D:DM},(X.foldl C0 D).L.length=D.L.length
 | [],_=>rfl|x::X,D=>by rw[List.foldl_cons,xE];rw[C0];simp
def bT :∀ {Y:Ah} {D:DM},Y.Nodup->(∀b∈Y,∃s,D.L[b]? =some s/\s.d)->(Y.foldl C0 D).L.countP (·.d)+Y.length=D.L.countP (·.d)
 | [],_,_,_=>rfl|y::Y,D,a,h=>by
  let⟨i,a⟩:=List.nodup_cons.1 a;let⟨s,d,f⟩:=h y List.mem_cons_self;rw[List.foldl_cons];have:=bT (D:=C0 D y) a λb c=>by let⟨s,j,l⟩:=h b<|Yb _ c;refine⟨s,?_,l⟩;simp only[C0,j9];rw[Xd (show¬y=b fromλe=>i<|by rw[e];exact c)];exact j
  have:(C0 D y).L.countP (·.d)+1=D.L.countP (·.d):=yK (q:=λs=>⟨s.g+1,false,A2 0 [] []⟩) (λ_=>rfl) d f;rw[XD];omega
def Abv.C {p:Nat}{s:Sl}(h:D.L[a]? =s)(d:s.n.h=p)(k:Abv D a b):Abv D p b:=by
 induction k with
 |z=>exact .B _ _ _ h d .z|B b q g c e _ f=>exact .B _ _ _ c e f
def Abv.y (h:Abv D a b)(k:Abv D c b):Abv D a c\/Abv D c a:=by
 induction h with
 |z=>exact .inr k|B b p s d f j i=>
  cases k with
  |z=>exact .inl<|.B _ _ _ d f j|B _ m n e g l=>
   rw[d]at e;cases e;have:p=m:=by omega
   subst this;exact i l
def Abv.x (w:WF D K){r:Nat->Nat}(m:∀(i:Nat) s,D.L[i]? =some s->s.d-> ∀j∈s.n.e,r i<r j)(h:Abv D a b):(∃s,D.L[b]? =some s/\s.d)->r a<=r b/\ ∃s,D.L[a]? =some s/\s.d:=by
 induction h with
 |z=>exactλh=>⟨Xh _,h⟩
 |B b p s h u k o=>
  rintro ⟨v,c,l⟩;rw[h]at c;cases c;obtain e| ⟨q,g,e,d,f,t⟩:=w.u b s h l;omega
  .have:p=q:=by omega
   subst this;have:=m p g d f b t;have:=o ⟨g,d,f⟩;exact⟨by omega,this.2⟩
def M5 (w:WF D K):∀ {f c:Nat} {s:Sl},D.L[c]? =some s->s.d-> ∀b∈bel D f c,Abv D c b/\ ∃s,D.L[b]? =some s/\s.d
 |0,c,s,d,e,b,a=>by rw[Yh.1 a];exact⟨.z,s,d,e⟩|f+1,c,s,d,e,b,a=>by rw[bel] at a;rw[Za d]at a;obtain rfl|a:=Xw.1 a;exact⟨.z,s,d,e⟩;let⟨j,h,a⟩:=List.mem_flatMap.1 a;let⟨n,g,i,k⟩:=(w.A c s d e).2 j h;let⟨l,m⟩:=M5 w g i b a;exact⟨l.C g k,m⟩
def O4 (w:WF D K):∀ {f c:Nat} {s:Sl},D.L[c]? =s->s.d->(bel D f c).Nodup
 |0,c,s,b,d=>by rw[bel];simp|f+1,c,s,b,d=>by
  let⟨r,_,t⟩:=w.B;let⟨J,l⟩:=w.A c s b d;rw[bel,Za b];refine List.nodup_cons.2 ⟨λm=>?_,List.pairwise_flatMap.2 ⟨λj o=>?_,?_⟩⟩;let⟨j,o,I⟩:=List.mem_flatMap.1 m;let⟨Q,g,k,A⟩:=l j o;have:=((M5 w g k c I).1.x w t ⟨s,b,d⟩).1;have:=t c s b d j o;omega;let⟨Q,g,k,A⟩:=l j o;exact O4 w g k
  .refine List.Pairwise.imp_of_mem (λ{x y} i u a=>?_) J;let⟨sx,g,k,A⟩:=l x i;let⟨v,E,N,O⟩:=l y u;rintro p C q M rfl;let⟨F,S⟩:=M5 w g k p C;let⟨G,_⟩:=M5 w E N p M;have no:∀ {x y:Nat} {v:Sl},x∈s.n.e->y∈s.n.e->x≠y->D.L[y]? =v->v.n.h=c->Abv D x y->False:=λ{x y v} i u a z C h=>by
    obtain e| ⟨p,P,B,R,H⟩:=h.A;exact a e
    .rw[z]at B;cases B;have:p=c:=by omega
     subst this;have:=(H.x w t ⟨s,b,d⟩).1;have:=t p s b d x i;omega
   obtain h|h:=F.y G;exact no i u a E O h;exact no u i (Ne.symm a) g A h
def cO (S:a8):Nat:=S.countP λr=>(r.getD 1<|.i 0).f
def Rl.us (h:Rl G D S N fr Z):cO S=D.L.countP (·.d)/\Z=cO S:=by
 obtain⟨T,M,rfl,rfl,h⟩:=h;have e:cO (T.map RS.d)=D.L.countP (·.d):=by rw[cO,List.countP_map,<-h.f];rfl
 exact⟨e,by rw[e];exact h.w⟩
def frS (S:a8)(i fr:Int)(g:Int):a8:=a9 (a9 (a9 (a9 S i 1<|.b false) i 3<|.i<|-1) i 0<|.i g) i 2<|.i fr
def Rl.p (h:Rl G D S N fr Z)(m:D.m i g=c):Rl G (C0 D c) (frS S i fr<|g+1) N (i+1) (Z+ -1)/\Fr S N (frS S i fr<|g+1) N:=by
 obtain⟨T,M,rfl,rfl,h⟩:=h;let⟨s,r,n,f,o,q,b,v,w,x⟩:=h.z m;subst n;let⟨l,k,t,_⟩:=h.m c s f;rw[b]at k;cases k;have e:frS (T.map RS.d) c fr (g+1)=(T.modify c λr=>⟨r.g+1,false,fr, -1⟩).map RS.d:=by rw[frS,Y5 (λr:RS=> {r with u:=false})<|λ_=>rfl,Y5 (λr:RS=> {r with p:= -1})<|λ_=>rfl,Y5 (λr:RS=> {r with g:=g+1})<|λ_=>rfl,Y5 (λr:RS=> {r with e:=fr})<|λ_=>rfl,Xz,D8,D8,D8];congr 1;apply List.ext_getElem?;intro j;simp only[j9];by_cases e:c=j;subst e;simp[b,t,q];simp[e]
 rw[e];refine⟨⟨_,M,rfl,rfl,h.q f o⟩,?_⟩;have:=Uz (N:=M.map RN.d) (T:=T) (T':=T.modify c λr=>⟨r.g+1,false,fr, -1⟩) (X:=[]) λj l a d=>by simp only[j9]at a;by_cases e:c=j;rw[Xg e]at a;subst e;rw[b]at a;cases a;simp at d;rw[Xd e]at a;exact .inl ⟨l,a,d,rfl⟩
 simpa using this
def MS :C0 (X.foldl C0 D) c=(X++ [c]).foldl C0 D:=by rw[List.foldl_append];rfl
def RlX.n (f:D.m i g=c)(d:c∉X):(X.foldl C0 D).m i g=c:=by
 obtain⟨s,a,b,rfl,rfl⟩:=YX f;have e:(X.foldl C0 D).L[c]? =s:=by rw[K6 d];exact a
 have:=YY e b;rwa[YZ e]at this
def RlX.m (h:RlX D X S N fr Z)(b:D.m i g=some c)(a:c∉X):RlX D (X++ [c]) (frS S i fr<|g+1) N (i+1) (Z+ -1)/\Fr S N (frS S i fr<|g+1) N:=by have:=Rl.p h<|RlX.n b a;rw[RlX,<-MS];exact this
def RlX.h (h:RlX D X S N fr Z)(w:WF D K):S.length<=1000:=by obtain⟨T,M,rfl,rfl,h⟩:=h;rw[Xc,h.h,xE];have:=w.m;omega
def RlX.f (h:RlX D X S N fr Z)(e:D.m i g=some c)(d:c∉X):∃s,D.L[c]? =some s/\s.d=true/\cL N (cI S i 3) 9=s.n.e.map (D4 D.d)/\0<=cI S i 3/\cI S i 3<N.length/\cB S i 1=true/\cI S i 0=g/\0<=i/\i<S.length:=by have a:=RlX.n (X:=X) e d;let⟨s,b,f,q,j,k,l,m,o⟩:=Rl.m h a;let⟨_,_,_,p,_⟩:=YX e;subst p;have hv:=(Rl.d h).2 ⟨c,a⟩;rw[z9] at hv;simp only[WK,Xf]at hv;rw[K6 d]at b;rw[k];exact⟨s,b,f,by rw[cL,o];rfl,l,m,j,hv.2,by omega,by omega⟩
def RlX.d {a c:Int}(h:RlX D X S N fr Z)(d:RlX D (X++Y) S' N' a c)(j:Y.Nodup)(k:∀b∈Y,b∉X/\ ∃s,D.L[b]? =some s/\s.d=true):cO S'+Y.length=cO S:=by rw[h.us.1,d.us.1,List.foldl_append];exact bT j λb i=>by let⟨e,s,f,g⟩:=k b i;exact⟨s,by rw[K6 e];exact f,g⟩
end
section
variable {D :DM}{S N S1 S':a8}{fr lv fr1 lv1 i g j:Int}{K c b:Nat}{X:Ah}{s:Sl}
def kU :c∈bel D 1001 c:=by rw[bel];exact List.mem_cons_self
def PS (w:WF D K)(g:D.L[c]? =some s)(h:s.d=true){k:Nat}(l:s.n.e[k]? =some b)(r:∀q∈s.n.e.flatMap (bel D 1001),q∉X):D.m b (D.d b)=some b/\(∀q∈bel D 1001 b,q∉X++(s.n.e.take k).flatMap (bel D 1001))/\(s.n.e.take<|k+1).flatMap (bel D 1001)=(s.n.e.take k).flatMap (bel D 1001)++bel D 1001 b/\(bel D 1001 b).Nodup/\(∀q∈bel D 1001 b,∃s,D.L[q]? =some s/\s.d=true):=by
 have o:=WT l;let⟨t,i,j,_⟩:=(w.A c s g h).2 b o;have a:=O4 (f:=1001) w g h;rw[Z4 w g h]at a;have a:=(List.nodup_cons.1 a).2;have p:(s.n.e.take<|k+1).flatMap (bel D 1001)=(s.n.e.take k).flatMap (bel D 1001)++bel D 1001 b:=by rw[J9 l];simp
 refine⟨YY i j,λq d m=>?_,p,O4 w i j,λq d=>(M5 w i j q d).2⟩;obtain m|m:=Xv.1 m;exact r q (List.mem_flatMap.2 ⟨b,o,d⟩) m;have e:s.n.e=s.n.e.take (k+1)++s.n.e.drop (k+1):=(YH ..).symm;rw[e,List.flatMap_append,p]at a;exact ((YU.1 (YU.1 a).1).2.2) q m q d rfl
end
def zp (n:Nat):zr n:=by
 unfold zr;rintro i g S fr lv c0 c1 c2 c3 c4 c5 c6 c7 st N Q W ⟨⟨hi,hg,hQ,hW,D,X,K,c,o,w,r,p⟩,hm⟩;have hQ:Q.length+cO S<=1000:=hQ;have hm:cO S<n+1:=hm;have aj:=w.m;have ad:=o.h w;obtain⟨s,x,A,Z,h4,h5,h6,h7,h8,l⟩:=o.f r<|p c kU;have lS:ln S=(S.length:Int):=rfl;have lQ:ln Q=(Q.length:Int):=rfl;have lW:ln W=(W.length:Int):=rfl;have am:=o.us.2;have ub:cO S<=S.length:=List.countP_le_length;have gb:=w.H r;have ew:IntKind.wrap .u32 (cI S i 0+1)=g+1:=by rw[h7];obtain⟨s',a,t,d,e⟩:=YX r;have:=w.J s'<|WT a;exact T7 (by simp[IntKind.min,IntKind.signed];omega) (by simp[IntKind.max,IntKind.signed,IntKind.bits];omega)
 have gs:g<=1001:=by obtain⟨s',a,t,d,e⟩:=YX r;have:=w.J s'<|WT a;omega
 have step:∀ {D X K c},RlX D X S N fr lv->WF D K->D.m i g=some c->(∀b∈bel D 1001 c,b∉X)->RlX D (X++ [c]) (frS S i fr<|g+1) N (i+1) (lv+ -1)/\Fr S N (frS S i fr<|g+1) N/\ ∃s,D.L[c]? =some s/\s.d=true/\cL N (cI S i 3) 9=s.n.e.map (D4 D.d)/\(∀q∈s.n.e.flatMap (bel D 1001),q∉X++ [c])/\bel D 1001 c=c::s.n.e.flatMap (bel D 1001):=λ{D X K c} o w r p=>by obtain⟨a,t⟩:=o.m r<|p c kU;obtain⟨s,x,A,Z,_⟩:=o.f r<|p c kU;have R:=Z4 w x A;refine⟨a,t,s,x,A,Z,λq B m=>?_,R⟩;have hn:=O4 (f:=1001) w x A;rw[R]at hn p;rcases Xv.1 m with m|m;exact p q (Yb _ B) m;rw[Yh.1 m]at B;exact(List.nodup_cons.1 hn).1 B
 obtain⟨s1,s2,_⟩:=step o w r p;have u1:cO (frS S i fr<|g+1)+1=cO S:=o.d s1 (by simp) λb I=>by rw[Yh.1 I];exact⟨p c kU,s,x,A⟩
 refine ndi ⟨by unfold U32 at hi;omega,by unfold U32 at hi;omega⟩<|ndi ⟨by omega,by omega⟩ ⟨λ_=>?_,λh=>absurd l h⟩;have V:¬i<0:=by omega
 refine ndi V<|ndi l<|ndi l ⟨λ_=>ndi l ⟨λ_=>?_,λh=>absurd h7 h⟩,λh=>absurd h6 h⟩;refine ndi l<|ndi l<|ndi l<|ndi (by unfold I64;omega)<|ndi l ⟨λ_=>?_,λh=>absurd (by rw[h7];omega) h⟩;refine ndi l<|ndi l<|ndi V<|ndi l<|ndi l<|ndi (by unfold I64;omega)<|ndi (by unfold I64;omega)<|nin<|ag<|nrn<|nin<|ag<|nrn<|E9 h4 h5<|nin<|nrn<|nin<|nrn<|nin<|nrn ?_;rw[ew];generalize P:a9 (a9 (a9 (a9 S i 1<|.b false) i 3<|.i<|-1) i 0<|.i<|g+1) i 2 (.i fr)=F;have P:frS S i fr (g+1)=F:=P;rw[P]at s1 s2 u1;generalize Y:cL N (cI S i 3) 9=L;have ab:(Q++b9 2 1 [.i i,.i g]).length=Q.length+1:=by rw[Xl];rfl
 have ac:(W++b9 1 1 [.i (cI S i 3)]).length=W.length+1:=by rw[Xl];rfl
 generalize eQ:Q++b9 2 1 [.i i,.i g]=Q1 at ab⊢;generalize eW:W++b9 1 1 [.i (cI S i 3)]=W1 at ac⊢;refine ndi ?_ λN' j U ah ak a0 V a2 a3 a4 a5 a6 a7 z an Q' W' hI=>?_;refine⟨rfl,rfl,rfl,by omega,by omega,by omega,?_,Xh _,Fr.e,λD X K q k x A Z h4 h5 h6=>?_⟩;show Q1.length+cO F<=1000;omega;simpa using x;obtain⟨rfl,rfl,ea,j0,j1,J,y,H,hF,hD⟩:=hI;have y:Q'.length+cO U<=1000:=y;have H:cO U<=cO F:=H;have ae:ln L<=1000:=by obtain⟨_,_,s,a,t,d,_⟩:=step o w r p;have:=w.o a t;rw[<-Y,d];simp only[ln,Xc];omega
 have lL:ln L=(L.length:Int):=rfl;refine⟨λhj=>?_,λhj=>?_⟩
 .have v:∀ {D:DM} {X:Ah} {K q:Nat} {k:Sl},RlX D X F N' (i+1) (lv+ -1)->WF D K->D.L[q]? =some k->k.d=true->L=k.n.e.map (D4 D.d)->(∀b∈k.n.e.flatMap (bel D 1001),b∉X)-> ∃b:Nat,D.m (cI L j 0) (cI L j 1)=some b/\(∀q∈bel D 1001 b,q∉X++(k.n.e.take j.toNat).flatMap (bel D 1001))/\(k.n.e.take (j+1).toNat).flatMap (bel D 1001)=(k.n.e.take j.toNat).flatMap (bel D 1001)++bel D 1001 b/\(bel D 1001 b).Nodup/\(∀q∈bel D 1001 b,∃s,D.L[q]? =some s/\s.d=true):=λ{D X K q k} a w d e u C=>by
   have lj:j<(k.n.e.length:Int):=by have:=congrArg List.length u;simp at this;omega
   obtain⟨b,I⟩:=Sx.get_at (T:=k.n.e) j0 lj;obtain⟨t1,t2,t3,t4,t5⟩:=PS w d e I C;have e0:cI L j 0=b:=by rw[u];simp only[cI,d9 I];rfl
   have e1:cI L j 1=D.d b:=by rw[u];simp only[cI,d9 I];rfl
   rw[e0,e1,show(j+1).toNat=j.toNat+1 by omega];exact⟨b,t1,t2,t3,t4,t5⟩
  obtain⟨_,_,s,a,t,d,e,_⟩:=step o w r p;rw[Y]at d;obtain⟨b,t1,t2,t3,t4,t5⟩:=v s1 w a t d e;obtain⟨O,r2⟩:=hD D _ K c s s1 w a t d e;have tu:=w.H t1;refine ag<|ndi hj<|nin<|nrn<|ndi (by simp)<|nin<|nrn<|nin<|nrn<|ndi ⟨⟨tu.1,tu.2.1,y,J,D,_,K,b,O,w,t1,t2⟩,?_⟩ λS2 ai al b0 b1 b2 b3 b4 b5 b6 b7 ao N2 Q2 W2 hr=>?_;show cO U<n;omega;obtain⟨R,rfl,M,aa,G⟩:=hr;obtain⟨E,q2⟩:=G D _ K b O w t1 t2;have cu:=O.d E t4 λq B=>⟨t2 q B,t5 q B⟩
  refine ndi (by unfold I64;omega)<|nin<|nrn<|nin<|nrn<|nin<|nrn<|ndi ⟨rfl,rfl,R.trans ea,by omega,by omega,M,?_,?_,hF.d aa,λD X K q k a w d e u C=>?_⟩<|ndt ?_;show Q2.length+cO S2<=1000;omega;show cO S2<=cO F;omega;obtain⟨b,t1,t2,t3,t4,t5⟩:=v a w d e u C;obtain⟨O,r2⟩:=hD D X K q k a w d e u C;obtain⟨E,q2⟩:=G D _ K b O w t1 t2;rw[t3,<-WX,Xl];exact⟨E,by omega⟩;show(L.length-(j+1)).toNat<(L.length-j).toNat;omega
 unfold nf;refine nin<|nrn<|ndi (by simp)<|nin<|nrn<|nin<|nrn<|ndt ⟨ea,rfl,J,s2.d hF,λD X K c o w r p=>?_⟩;obtain⟨a,_,s,t,d,e,u,C⟩:=step o w r p;rw[Y]at e;rw[P]at a;obtain⟨E,q2⟩:=hD D _ K c s a w t d e u;have el:s.n.e.take j.toNat=s.n.e:=XP (by have:=congrArg List.length e;simp at this;omega);rw[el]at E q2;rw[C];exact⟨by simpa using E,by rw[XD];omega⟩
def fL (D:DM)(i g:Int):DM×Int:=match D.m i g with
 |none=>(D,11)
 |some c=>if(D.e c).h≠ -1 then(D,10)else({(bel D 1001 c).foldl C0 D with C:=(D.C.modify 0 (· -(bel D 1001 c).length)).modify 2 (· +(bel D 1001 c).length)},0)
def rO :Ar->Ar->Prop
 | [.i i,.i g,.l S,.i fr,.i x,.i a,.i b,.i c,.i d,.i e,.i f,.i h,.i m,.l _,.l N],[.i r,.l o,.i j,.i k,.i p,.i q,.i s,.i t,.i u,.i v,.i w,.i y,.l _,.l n]=>
  cD S N fr x [a,b,c,d,e,f,h,m] o n j k [p,q,s,t,u,v,w,y] λD=>((fL D i g).1,r=(fL D i g).2)
 |_,_=>False
def DK:=EA
def cFre:=mkD "fre" [hV] DK [iV] rO
def Ul :Ay->List (Nat×(Fm->SS->H6)):=aQ
def RC :Nat->List (Ay×Con)
 |_=>[(91,cFrc),(LVn,dk "lives")]
def VV :Nat->Aw->E4:=aI
open Go.Xe Go.Sx
def R9:=Hs
def G7:=G5
def ld:=mkC "rname" [sV] R9 [bV] G7
def W5:=Hs
def M8:=O8
def ol:=mkC "rstr" [sV] W5 [bV] M8
def Jy:=uL
def K2 :Ar->Ar->Prop
 | [.i k,.s t,.s y,.l a,.s x,.l c],[.b b]=>∀s:c8,isT s k t y a x c->(b↔bN s)
 |_,_=>False
def cOne:=mkC "one" [nV] Jy [bV] K2
def Fits s a:=K0 s/\(s.j:Int)<=a/\s.h<=64
def gC :Ar->Prop
 | [.i k,.s t,.s y,.l a,.s x,.l c,.i b]=>0<=b/\b<=6/\ ∃s:c8,isT s k t y a x c|_=>False
def W4 :Ar->Ar->Prop
 | [.i k,.s t,.s y,.l a,.s x,.l c,.i b],[.i n]=>1<=n/\n<=1000+64*b/\ ∀s:c8,isT s k t y a x c->(n<=64↔Fits s b)/\(n<=64->n=s.h)|_,_=>False
def sH :Ar->Nat
 | [_,_,_,_,_,_,.i a]=>a.toNat|_=>0
def lm:=mkC "rcnt" [nV,iV] gC [iV] W4
def dC:=uL
def W3:=M6
def lq:=mkC "rchk" [nV] dC [iV] W3
def CN:=uC
def NC:=B2
def Hq:=AI
def rsMu:=B2
def CE :Ar->Ar->Prop
 | [.l L],[.i i]=>0<=i/\i<=ln L/\ ∀a:List Att,L=a.map Att.d->(∀z∈a.take i.toNat,v5 z.n/\D7 z.v)/\Asc ((a.take i.toNat).map Att.n)|_,_=>False
def oaMu:=B2
def CF :Ar->Ar->Prop
 | [.l L,.i i],[.i k]=>0<=k/\k<=i/\i<ln L/\ ∀a:List Att,L=a.map Att.d-> ∀z∈a.take k.toNat,lt z.n (a.getD i.toNat ⟨[],[]⟩).n|_,_=>False
def Qw :Ar->Ar->Nat
 | [_,.i i],[.i k]=>(i-k).toNat|_,_=>0
def GQ :Ar->Ar->Prop
 | [.l L],[.i i]=>0<=i/\i<=ln L/\iL ((pN L).take i.toNat)|_,_=>False
def ocMu:=B2
def CG :Ar->Ar->Prop
 | [.l L,.i i],[.i k]=>0<=k/\k<=i/\i<ln L/\((pN L).getD i.toNat []=[]\/ ∀z∈(pN L).take k.toNat,z≠(pN L).getD i.toNat [])|_,_=>False
def Nl:=Qw
def tU :Ar->Ar->Prop
 | [.l C,.i a],[.i i,.i n]=>0<=i/\i<=ln C/\1<=a/\1<=n/\n<=1000+64*a/\ ∀c:List c8,C=rows c->(n<=64↔AllAs (c.take i.toNat)/\(c8.e (c.take i.toNat):Int)+1<=a/\c8.d (c.take i.toNat)+1<=64)/\(n<=64->n=c8.d (c.take i.toNat)+1)|_,_=>False
def ctMu:=B2
def mS :Ay->List (Nat×(Fm->SS->H6))
 |136=>[(0,E1 U0 "rn" (F7 [(3,.int .i64)] nob) (m9 0) CN NC)]
 |137=>[(0,E1 U0 "rs" (F7 [(3,.int .i64)] nob) (m9 0) Hq rsMu)]
 | 144 => [(0, E1 U0 "oa" (F7 [(3, .int .i64), (4, .any)] nob) (l8 1 3) CE oaMu), (2, E1 U0 "ob" (F7 [(4, .int .i64)] nob) (gh2 (l8 1 3)<|m9 3) CF Qw),
   (4,E1 U0 "oc" (F7 [(5,.int .i64),(6,.any)] nob) (l8 1 5) GQ ocMu),(6,E1 U0 "od" (F7 [(6,.int .i64)] nob) (gh2 (l8 1 5)<|m9 5) CG Nl)]
 |88=>[(0,E1 U0 "ct" (F7 [(6,.int .i64),(5,.int .i64)] nob) (gh2 (l8 2 5)<|m9 1) tU ctMu)]
 |_=>[]
def kI :Nat->List (Ay×Con)
 |0=>[(LVn,dk "lives")]
 |1=>[(136,ld),(137,ol),(LVn,dk "lives")]
 |2=>[(144,cOne),(LVn,dk "lives")]
 |_=>[(88,lm),(LVn,dk "lives")]
def yZ (_:Nat)(P:Aw):E4:=[]
def UV :Ar->Prop
 | [.i k,.s t,.s y,.l a,.s x,.l c,.i e,.s g,.s j,.l b,.s h,.l d]=>(∃s:c8,isT s k t y a x c)/\ ∃f:c8,isT f e g j b h d|_=>False
def DF :Ar->Prop
 | [.i k,.s t,.s y,.l a,.s x,.l c,.i f,.s g,.s j,.l d,.s h,.l e]=>(∃s:c8,isT s k t y a x c/\K0 s)/\ ∃b:c8,isT b f g j d h e/\K0 b|_=>False
def V8 :Ar->Ar->Prop
 | [.i k,.s t,.s y,.l a,.s x,.l c,.i f,.s g,.s j,.l d,.s h,.l e],[.i n]=>∀s b:c8,isT s k t y a x c->isT b f g j d h e->(s=b->n=1)/\(s≠b->n=0)|_,_=>False
def Gn :Ar->Nat
 | [_,_,_,_,_,.l c,_,_,_,_,_,_]=>szRs c|_=>0
def cEqu:=mkC "equ" [nV,nV] DF [iV] V8
def sQ:=UV
def gJ :Ar->Ar->Prop
 | [.i k,.s t,.s y,.l a,.s x,.l c,.i f,.s g,.s j,.l d,.s h,.l e],[.i n]=>∀s b:c8,isT s k t y a x c->isT b f g j d h e->(A9 s/\s=b->n=1)/\(¬(A9 s/\s=b)->n=0)|_,_=>False
def cSam:=mkC "sam" [nV,nV] sQ [iV] gJ
def Gl :Ar->Ar->Prop
 | [.l L,.l M],[.i i]=>0<=i/\i<=ln L/\ln L=ln M/\L.take i.toNat=M.take i.toNat|_,_=>False
def eaMu:=B2
def Lh:=Gl
def ecMu:=B2
def KU :Ay->List (Nat×(Fm->SS->H6))
 |55=>[(0,E1 U0 "ea" (F7 [(5,.int .i64)] nob) (gh2 (l8 2 3)<|l8 3 3) Gl eaMu),(2,E1 U0 "ec" (F7 [(6,.int .i64)] nob) (gh2 (l8 2 5)<|l8 3 5) Lh ecMu)]
 |_=>[]
def Ko :Nat->List (Ay×Con)
 |0=>[(LVn,dk "lives")]
 |_=>[(22,lq),(55,cEqu),(LVn,dk "lives")]
def QE (_:Nat)(P:Aw):E4:=[]
abbrev tRS :Ax:=81
abbrev qM :Ax:=3
def B9 (j:Nat):Ar:=[.i j]
def Sl.f (s:Sl):Ar:=if s.d then [.i s.g,.b true,.i s.n.j,.s s.n.o,.l<|s.n.d.map Att.d,.s s.n.m,.i s.n.t,.i s.n.r,.b s.n.u,.i s.n.h,.l<|s.n.e.map B9]else [.i s.g,.b false,.i 0,.s [],.l [],.s [],.i 0,.i 0,.b false,.i 0,.l []]
def Rf (D:DM)(L F:a8)(a:Ak):Prop:=L=D.L.map Sl.f/\F=D.h.map B9/\a=D.C
def jW (L F:a8)(a:Ak):Prop:=∃D K,Rf D L F a/\WF D K
def eV (L F:a8)(d:Ak)(c b:a8)(a:Ak)(f:DM->DM×Prop):Prop:=∀D K,Rf D L F d->WF D K->Rf (f D).1 c b a/\(f D).2
def i8 :List Lf:=[.g (.int .i64),.g<|.int .i64,.g<|.int .i64,.g<|.int .i64,.g<|.int .i64,.g<|.int .i64,.g<|.int .i64,.g<|.int .i64]
def rfV :Vs:= .u (.g (.lst tRS):: .g (.lst qM)::i8)
def rfO :Vs:= .u (.g (.acc tRS 11):: .g (.lst qM)::i8)
def ilV :Vs:= .t (.g<|.lst qM)
def alV :Vs:= .t (.g<|.lst vC)
def aV :Vs:= .u [.g .str,.g .str]
def U2 :Ar->Prop
 | [.l L,.l F,.i a,.i b,.i c,.i d,.i e,.i f,.i h,.i m,.i i,.i g]=>U32 i/\U32 g/\L.length<=1000|_=>False
def R4 :Ar->Ar->Prop
 | [.l L,.l F,.i a,.i b,.i c,.i d,.i e,.i f,.i h,.i m,.i i,.i g],[.i r]=>r=if z9 L i g=true then i else-1
 |_,_=>False
def rc:=mkC "rat" [rfV,hV] U2 [iV] R4
def R5 :Ar->Prop
 | [.l L,.l F,.i a,.i b,.i c,.i d,.i e,.i f,.i h,.i m]=>jW L F [a,b,c,d,e,f,h,m]|_=>False
def aJ :Ar->Ar->Prop
 | [.l L,.l F,.i a,.i b,.i c,.i d,.i e,.i f,.i h,.i m],[.l j,.l g,.i k,.i n,.i o,.i p,.i q,.i r,.i s,.i t]=>j=L/\g=F/\k=a/\n=b/\o=c/\p=d/\q=e/\r=f/\s=h/\t=m|_,_=>False
def cRcp:=mkC "rcp" [rfV] R5 [rfO] aJ
def UN (L:a8)(i:Int):Prop:=∃(l:Ah) (c:Nat),L=l.map B9/\i=c/\l.length<=1000
def zS :Ar->Prop
 | [.l L,.i i]=>UN L i|_=>False
def EH :Ar->Ar->Prop
 | [.l L,.i i],[.i r]=>∀(l:Ah) (c:Nat),L=l.map B9->i=c->(r<0↔c∉l)
 |_,_=>False
def cRpl:=mkC "rpl" [ilV,iV] zS [iV] EH
def vR :Ar->Prop
 | [.l L,.i i,.i a]=>UN L i|_=>False
def qE :Ar->Ar->Prop
 | [.l L,.i i,.i a],[.l O]=>∀(l:Ah) (c:Nat),L=l.map B9->i=c->O=(X7 l c a).map B9|_,_=>False
def cRput:=mkC "rput" [ilV,iV,iV] vR [ilV] qE
def lK:=zS
def vU :Ar->Ar->Prop
 | [.l L,.i i],[.l O]=>∀(l:Ah) (c:Nat),L=l.map B9->i=c->O=(N8 l c).map B9|_,_=>False
def cRwit:=mkC "rwit" [ilV,iV] lK [ilV] vU
def DI :Ar->Prop
 | [.l L,.s _]=>∃l:List Att,L=l.map Att.d/\l.length<=8|_=>False
def xA :Ar->Ar->Prop
 | [.l L,.s n],[.i r]=> -1<=r/\r<L.length/\ ∀l:List Att,L=l.map Att.d->(r<0/\ ∀a∈l,a.n≠n)\/(0<=r/\ ∃a,l[r.toNat]? =some a/\a.n=n)|_,_=>False
def cFnd:=mkC "fnd" [alV,sV] DI [iV] xA
def eM :List Att->Att->List Att
 | [],a=>[a]
 |b::l,a=>if lt a.n b.n then a::b::l else b::eM l a
def vP :Ar->Prop
 | [.l L,.s _,.s _]=>∃l:List Att,L=l.map Att.d/\l.length<=8|_=>False
def qB :Ar->Ar->Prop
 | [.l L,.s n,.s v],[.l O]=>∀l:List Att,L=l.map Att.d->O=(eM l ⟨n,v⟩).map Att.d|_,_=>False
def cRins:=mkC "rins" [alV,aV] vP [alV] qB
def oE :Ar->Ar->Prop
 | [.l L,.i i,.i g],[.i k]=>0<=k/\k<=L.length/\(z9 L i g->k<=i)|_,_=>False
def pW:=B2
def Ez :Ar->Ar->Prop
 | .l L::d,.i k:: .l O::a=>0<=k/\k<=L.length/\O=L.take k.toNat/\a=d|_,_=>False
def QO:=B2
def sN :Ar->Ar->Prop
 | [.l L,.i i],[.i k]=>0<=k/\k<=L.length/\ ∀(l:Ah) (c:Nat),L=l.map B9->i=c->c∉l.take k.toNat|_,_=>False
def QW:=B2
def uZ (l:Ah)(c:Nat)(a:Int):Ah:=l.flatMap λ(x:Nat)=>if(x:Int)=a then [c,x]else [x]
def gE :Ar->Ar->Prop
 | [.l L,.i i,.i a],[.i k,.l O]=>0<=k/\k<=L.length/\(O.length:Int)<=2*k/\ ∀(l:Ah) (c:Nat),L=l.map B9->i=c->O=(uZ (l.take k.toNat) c a).map B9|_,_=>False
def sO:=B2
def gH :Ar->Ar->Prop
 | [.l L,.i i],[.i k,.l O]=>0<=k/\k<=L.length/\(O.length:Int)<=k/\ ∀(l:Ah) (c:Nat),L=l.map B9->i=c->O=(N8 (l.take k.toNat) c).map B9|_,_=>False
def sP:=B2
def rN :Ar->Ar->Prop
 | [.l L,.s n],[.i k]=>0<=k/\k<=L.length/\ ∀l:List Att,L=l.map Att.d-> ∀a∈l.take k.toNat,a.n≠n|_,_=>False
def Px:=B2
def gD :Ar->Ar->Prop
 | [.l L,.s n,.s v],[.i k,.l O,.b p]=>0<=k/\k<=L.length/\(O.length:Int)<=k+(if p then 1 else 0)/\ ∀l:List Att,L=l.map Att.d-> ∃o:List Att,O=o.map Att.d/\(if p then o++l.drop k.toNat else o++eM (l.drop k.toNat) ⟨n,v⟩)=eM l ⟨n,v⟩|_,_=>False
def sJ:=B2
def g8 :List G:=[.int .i64,.int .i64,.int .i64,.int .i64,.int .i64,.int .i64,.int .i64,.int .i64]
def PH (t:Nat):Fm->SS->List (So×E):=gh2 (l8 t 1)<|gh2 (l8 t 2)<|gh2 (l8 t 3)<|gh2 (l8 t 4)<|gh2 (l8 t 5)<|gh2 (l8 t 6)<|gh2 (l8 t 7)<|gh2 (l8 t 8)<|l8 t 9
def aS :Ay->List (Nat×(Fm->SS->H6))
 |30=>[(0,E1 U0 "rat" (F7 [(5,.int .i64)] nob) (gh2 (l8 2 0)<|gh2 (l8 3 0)<|l8 3 1) oE B2)]
 |132=>[(0,E1 U0 "rcp" (F7 [(4,.int .i64)]<|G9 3<|.acc tRS 11:: .lst qM::g8) (gh2 (l8 1 0)<|PH 1) Ez B2)]
 |142=>[(0,E1 U0 "rpl" (F7 [(5,.int .i64)] nob) (gh2 (m9 0)<|m9 1) sN B2)]
 |143=>[(0,E1 U0 "rput" (F7 [(8,.int .i64),(7,.acc qM 1)] nob) (gh2 (m9 0)<|gh2 (m9 1)<|m9 2) gE B2)]
 |133=>[(0,E1 U0 "rwit" (F7 [(6,.int .i64),(5,.acc qM 1)] nob) (gh2 (m9 0)<|m9 1) gH B2)]
 |138=>[(0,E1 U0 "fnd" (F7 [(5,.int .i64)] nob) (gh2 (m9 0)<|m9 1) rN B2)]
 |176=>[(0,E1 U0 "rins" (F7 [(7,.int .i64),(5,.acc vC 2),(6,.bool)] nob) (gh2 (m9 0)<|gh2 (l8 3 0)<|l8 3 1) gD B2)]
 |_=>[]
def oK :Nat->List (Ay×Con)
 |_=>[(LVn,dk "lives")]
def dS :Nat->Aw->E4
 |_,_=>[]
