/- Trees: what the functions of nodes compute, as contracts.
  Conditions: none. -/
import Derived.Test.YtoegfalhkackeaaGreatRows
import Derived.Test.YtoegfalhkackeaaGreatSm4
set_option maxRecDepth 100000
set_option linter.all false
noncomputable section
namespace Go.D
open Go.Xe Go.Sx
abbrev J6 (a b c d e f:Int)(z:List Dat):List Dat:=.i a::.i b::.i c::.i d::.i e::.i f::z
abbrev J8 (a b c d e f g h:Int)(z:List Dat):List Dat:=.i a::.i b::.i c::.i d::.i e::.i f::.i g::.i h::z
abbrev J10 (a b c d e f g h i j:Int)(z:List Dat):List Dat:=.i a::.i b::.i c::.i d::.i e::.i f::.i g::.i h::.i i::.i j::z
abbrev JE (x:List (List Dat))(a b c d e f g h i j:Int)(y:List (List Dat)):List Dat:=.l x::J10 a b c d e f g h i j [.l y]
abbrev JD (x:List (List Dat))(a b c d e f g h i j:Int)(y z:List (List Dat)):List Dat:=.l x::J10 a b c d e f g h i j [.l y,.l z]
abbrev Nb (x y:Int)(q:Prop):Prop:=Nd (¬x<0) (Nd (x<y) q)
abbrev Nq (x:Int)(q:Prop):Prop:=Ni x<|Nr x q
abbrev We {α:Type}(x:α)(f:α→Prop):Prop:=f x
abbrev Cg (p:List Dat→Prop)(r:List Dat→List Dat→Prop)(x:List Dat)(k:(List Dat→Prop)→Prop):Prop:=Nd (p x)<|k (r x)
abbrev Str:=Ae
def jW (b:UInt8):Bool:=decide (97<=b.toNat)&&decide (b.toNat<=122)||decide (48<=b.toNat)&&decide (b.toNat<=57)
def EO (b:UInt8):Bool:=decide (32<=b.toNat)&&decide (b.toNat<=126)
def B3 (s:Str):Bool:=decide (1<=s.length)&&decide (s.length<=16)&&s.all jW
def H9 (s:Str):Bool:=decide (s.length<=64)&&s.all EO
def lt (a b:Str):Bool:=Op.bytesLess a b
structure Att where
 n:Str
 v:Str
def Att.row (a:Att):Ar:=[.s a.n,.s a.v]
def atOf (r:Ar):Att:=⟨(r.getD 0 (.i 0)).toStr,(r.getD 1 (.i 0)).toStr⟩
def ats (L:a8):List Att:=L.map atOf
inductive c9 where
 |mk (k:Int) (t y:Str) (a:List Att) (x:Str) (c:List c9)
namespace c9
def k :c9->Int|mk k _ _ _ _ _=>k
def t :c9->Str|mk _ t _ _ _ _=>t
def y :c9->Str|mk _ _ y _ _ _=>y
def a :c9->List Att|mk _ _ _ a _ _=>a
def x :c9->Str|mk _ _ _ _ x _=>x
def c :c9->List c9|mk _ _ _ _ _ c=>c
mutual
def row :c9->Ar
 |mk k t y a x c=>[.i k,.s t,.s y,.l (a.map Att.row),.s x,.l (rows c)]
def rows :List c9->a8
 | []=>[]
 |s::l=>s.row::rows l
end
mutual
def size :c9->Nat
 |mk _ _ _ _ _ c=>sizes c+1
def sizes :List c9->Nat
 | []=>0|s::l=>s.size+sizes l
end
mutual
def depth :c9->Nat
 |mk _ _ _ _ _ c=>depths c+1
def depths :List c9->Nat
 | []=>0|s::l=>max s.depth (depths l)
end
end c9
abbrev rows (l:List c9):a8:=l.map c9.row
def kH (l:List Str):Prop:=l.Pairwise λa b=>b≠ []->a≠b
def Asc (l:List Str):Prop:=l.Pairwise λa b=>lt a b=true
def Y4 (s:c9):Prop:=(s.k=2/\H9 s.x=true/\s.t=[]/\s.y=[]/\s.a=[]/\s.c=[])\/
 (s.k=1/\B3 s.t=true/\(s.y=[]\/B3 s.y=true)/\s.x=[]/\s.a.length<=8/\s.c.length<=16/\(∀a∈s.a,B3 a.n=true/\H9 a.v=true)/\Asc (s.a.map Att.n)/\kH (s.c.map c9.y))
mutual
def U7 :c9->Prop
 | .mk k t y a x c=>Y4 (.mk k t y a x c)/\AllAs c
def AllAs :List c9->Prop
 | []=>True|s::l=>U7 s/\AllAs l
end
def E3 (s:c9):Prop:=U7 s/\s.size<=64/\s.depth<=6
mutual
def kC (b:Bool):c9->c9
 | .mk k t y a x c=>.mk k t (if b then y else []) a x (strips b c)
def strips (b:Bool):List c9->List c9
 | []=>[]
 |s::l=>kC b s::strips b l
end
def isT (s:c9)(k:Int)(t y:Str)(a:a8)(x:Str)(c:a8):Prop:=k=s.k/\t=s.t/\y=s.y/\a=s.a.map Att.row/\x=s.x/\c=rows s.c
def U0 :Ab:=λ_ _=>.i 0
abbrev Pg:=Go.Proofs.Tryz.prog
abbrev kq (c:Con)(a:Ay->List (Nat×(Fm->SS->F9)))(s:List (Ay×Con))(p:Aw->D4)(f:Ay):Prop:=(cvc Pg U0 c (sxF Pg U0 a (kM Pg U0 s (p Pg)) 400 f)).vc U0 (λ_=>True)
abbrev kr (c:Con)(a:Ay->List (Nat×(Fm->SS->F9)))(s:List (Ay×Con))(p:Aw->D4)(f:Ay):Prop:=(cvr Pg U0 c (sxF Pg U0 a (kM Pg U0 s (p Pg)) 400 f)).vc U0 (λ_=>True)
def iV :Vs:= .one (.g (.int .i64))
def uV :Vs:= .one (.g (.int .u8))
def bV :Vs:= .one (.g .bool)
def sV :Vs:= .one (.g .str)
def tG :List Lf:=[.g (.int .u8),.g .str,.g .str,.g (.lst 101),.g .str,.g (.lst 30)]
def nV :Vs:= .agg tG
def nO :Vs:= .agg [.g (.int .u8),.g .str,.g .str,.g (.acc 101 2),.g .str,.g (.lst 30)]
def noB :SV->SS->Bb (Ah):=λ_ _=>some []
def noF :As->SS->Bb (Ah):=λ_ _=>some []
def mkC (n:String)(args:List Vs)(pre:Ar->Prop)(res:List Vs)(rel:Ar->Ar->Prop):Con:=⟨n,args,[],noF,pre,res,[],noB,rel⟩
def EC :Ar->Prop
 | [.s _]=>True|_=>False
def Z4:=EC
def jB:=EC
def D6 :Ar->Ar->Prop
 | [.s s],[.b b]=>b=B3 s|_,_=>False
def L4 :Ar->Ar->Prop
 | [.s s],[.b b]=>b=H9 s|_,_=>False
def mj:=mkC "named" [sV] Z4 [bV] D6
def zh:=mkC "text" [sV] jB [bV] L4
def fO :Ar->Prop
 | [.l L]=>∃s:c9,L=[s.row]
 |_=>False
def z7 :Ar->Ar->Prop
 | [.l L],[.b b]=>∀s:c9,L=[s.row]->(b=true↔Y4 s)
 |_,_=>False
def ml:=mkC "alone" [.one (.g (.pp 30))] fO [bV] z7
def Good (s:c9)(lv n:Int):Prop:=U7 s/\lv+s.depth<=7/\n+s.size<=64
def eH :Ar->Prop
 | [.l L,.i lv,.i n,.i d]=>(∃s:c9,L=[s.row])/\1<=lv/\lv<=7/\0<=n/\n<=64/\0<=d/\d<=7|_=>False
def iA :Ar->Nat
 | [_,.i lv,_,_]=>(8-lv).toNat|_=>0
def H3 :Ar->Ar->Prop
 | [.l L,.i lv,.i n,.i d],[.b b,.i n',.i d']=>0<=n'/\n'<=65/\0<=d'/\d'<=7/\ ∀s:c9,L=[s.row]->(b=true↔Good s lv n)/\(b=true->n'=n+s.size/\d'=max d (lv+s.depth-1))|_,_=>False
def QD :List Z9:=[(3,1,[.g (.int .i64)]),(3,1,[.g (.int .i64)]),(167,1,[.clo 104 [(0,1),(1,1),(2,1)]])]
def Xb :As->SS->Bb (Ah):=λargs s=>match args with
 | [_,_,.ptr a _ _ _,.ptr b _ _ _,.ptr c _ _ _]=>some [a,b,c]|_=>none
def ms :Con:=⟨ "walk",[.one (.g (.pp 30)),iV,.one (.ptr 0 1),.one (.ptr 1 1),.one (.ptr 2 1)],QD,Xb,eH,[bV],QD,noB,H3⟩
def EP :Ar->Prop
 | [.i k,.s t,.s y,.l a,.s x,.l c]=>∃s:c9,isT s k t y a x c|_=>False
def fV:=EP
def T5 :Ar->Ar->Prop
 | [.i k,.s t,.s y,.l a,.s x,.l c],[.i n]=>∀s:c9,isT s k t y a x c->(n=0↔E3 s)/\(n=0\/n=14)|_,_=>False
def fp:=mkC "chk" [nV] fV [iV] T5
def tK :Ar->Prop
 | [.i k,.s t,.s y,.l a,.s x,.l c,.b _]=>∃s:c9,isT s k t y a x c/\U7 s|_=>False
mutual
def szD :Dat->Nat
 | .l r=>szRs r|_=>0
def szR :Ar->Nat
 | []=>0|d::l=>szD d+szR l
def szRs :List (Ar)->Nat
 | []=>0|r::l=>szR r+1+szRs l
end
def yT :Ar->Nat
 | [_,_,_,_,_,.l c,_]=>szRs c|_=>0
def Y8 :Ar->Ar->Prop
 | [.i k,.s t,.s y,.l a,.s x,.l c,.b b],[.i k',.s t',.s y',.l a',.s x',.l c']=>∀s:c9,isT s k t y a x c->isT (kC b s) k' t' y' a' x' c'|_,_=>False
def zw:=mkC "cpd" [nV,bV] tK [nO] Y8
def j9 (t:Nat):Fm->SS->List (So×E):=λf s=>match lk f t with
 |some (.lst _ e _)=>[(.l,e)]
 |some (.str e)=>[(.s,e)]
 |some (.bool e)=>[(.b,e)]
 |some (.int _ e)=>[(.i,e)]
 |some (.pptr _ L _ _)=>[(.l,L)]
 |some (.sl b _ _ _ _)=>match s.get b with
  |some (.rows e _ _ _)=>[(.l,e)]
  |none=>match lk s.fz b with
   |some r=>[(.l,r.1)]
   |none=>[]
  |_=>[]
 |_=>[]
def gh2 (a b:Fm->SS->List (So×E)):Fm->SS->List (So×E):=λf s=>a f s++b f s
def svG :SV->List (So×E)
 | .lst _ e _=>[(.l,e)]
 | .str e=>[(.s,e)]
 | .int _ e=>[(.i,e)]
 | .bool e=>[(.b,e)]
 |_=>[]
def Qf (b j:Nat)(s:SS):List (So×E):=match s.get b with
 |some (.cells l _ _)=>svG (l.getD j .any)|_=>[]
def y8 (t j:Nat):Fm->SS->List (So×E):=λf s=>match lk f t with
 |some (.ptr b _ _ _)=>Qf b j s|_=>[]
def XP (t k j:Nat):Fm->SS->List (So×E):=λf s=>match lk f t with
 |some (.fn _ _ cs)=>match cs[k]? with
  |some (.ptr b _ _ _)=>Qf b j s|_=>[]
 |_=>[]
def nob :Fm->SS->Bb (List (Nat×List G)):=λ_ _=>some []
def J1 (t:Nat)(gs:List G):Fm->SS->Bb (List (Nat×List G)):=λf _=>match lk f t with
 |some (.ptr b _ _ _)=>some [(b,gs)]|_=>none
def bl2 (a b:Fm->SS->Bb (List (Nat×List G))):Fm->SS->Bb (List (Nat×List G)):=λf s=>match a f s,b f s with
 |some x,some y=>some (x++y)|_,_=>none
def XI (t:Nat):Code->Fm->SS->Bb (List (At×G)×Ah):=λc f s=>match lk f t with
 |some (.ptr b _ _ _)=>match s.get b with
  |some (.iter e _)=>F5 [(t,.itr e)] nob c f s|_=>none
 |_=>none
def A2 :Ar->Ar->Nat
 | [.s s],.i k::_=>(s.length-k).toNat| .l L::_,.i k::_=>(L.length-k).toNat|_,_=>0
def rB :Ar->Ar->Prop
 | [.s s],[.i k]=>0<=k/\k<=s.length/\(s.take k.toNat).all jW=true|_,_=>False
def MJ:=A2
def wL :Ar->Ar->Prop
 | [.s s],[.i k]=>0<=k/\k<=s.length/\(s.take k.toNat).all EO=true|_,_=>False
def Wk:=A2
def oJ :Ar->Ar->Prop
 | [.l L],[.i k]=>0<=k/\k<=L.length/\(∀a∈(ats L).take k.toNat,B3 a.n=true/\H9 a.v=true)/\Asc (((ats L).take k.toNat).map Att.n)|_,_=>False
def Do:=A2
def qY (L:a8):List Str:=L.map λr=>(r.getD 2 (.i 0)).toStr
def kU :Ar->Ar->Prop
 | [.l L],[.i k]=>0<=k/\k<=L.length/\kH ((qY L).take k.toNat)|_,_=>False
def uB:=A2
def tY :Ar->Ar->Prop
 | [.l L,.s y],[.i k]=>0<=k/\k<=L.length/\ ∀z∈(qY L).take k.toNat,z≠y|_,_=>False
def Mk:=A2
def iB :Ar->Ar->Prop
 | [.l L,.i lv,.i n,.i d],[.i k,.i n',.i d']=>0<=k/\1<=lv/\lv<=6/\ ∀s:c9,L=[s.row]->k<=s.c.length/\AllAs (s.c.take k.toNat)/\n'=n+c9.sizes (s.c.take k.toNat)/\n'<=64/\d'=max d (lv+c9.depths (s.c.take k.toNat))/\d'<=7/\lv+c9.depths (s.c.take k.toNat)<=6/\lv<=d|_,_=>False
def AS :Ar->Ar->Nat
 | [.l L,_,_,_],[.i k,_,_]=>((z8 L 0 5).rows.length-k).toNat|_,_=>0
def L6 :Ar->Ar->Prop
 | [.l C,.b b],[.i k,.l D]=>0<=k/\k<=C.length/\D.length=C.length/\ ∀c:List c9,C=rows c->D.take k.toNat=rows (strips b (c.take k.toNat))/\ ∀r∈D,r.length=6|_,_=>False
def LJ:=A2
def eZ :Ay->List (Nat×(Fm->SS->F9))
 |161=>[(0,D5 U0 "nm" (F5 [(14,.int .i64)] nob) (j9 0) rB A2)]
 |189=>[(0,D5 U0 "st" (XI 10) (j9 0) wL A2)]
 |105=>[(0,D5 U0 "att" (F5 [(103,.int .i64)] nob) (j9 101) oJ A2),(2,D5 U0 "kid" (F5 [(142,.int .i64)] nob) (j9 140) kU A2)]
 |186=>[(0,D5 U0 "idx" (F5 [(8,.int .i64)] nob) (gh2 (j9 0) (XP 1 0 2)) tY A2)]
 |104=>[(0,D5 U0 "wlk" (F5 [(30,.int .i64)] (bl2 (bl2 (J1 2 [.int .i64]) (J1 3 [.int .i64])) (J1 4 [.keep]))) (gh2 (gh2 (j9 0) (j9 1)) (gh2 (j9 10) (j9 13))) iB AS)]
 |98=>[(0,D5 U0 "cpi" (F5 [(23,.int .i64),(5,.acc 30 6)] nob) (gh2 (j9 21) (j9 1)) L6 A2)]
 |_=>[]
def LVn :Ay:=20
def Mt (d:Ar):Prop:=d=[]
def DR:=OA
def eD :Nat->List (Ay×Con)
 |0=>[(LVn,cq "lives")]
 |1=>[(161,mj),(160,zh),(LVn,cq "lives")]
 |2=>[(105,ml),(LVn,cq "lives")]
 |3=>[(104,ms),(LVn,cq "lives")]
 |_=>[(LVn,cq "lives")]
def pG (_:Nat)(P:Aw):D4:=[]
open Go Go.Xe Go.Sx
structure Nod where
 kind:Int
 tag:Str
 atts:List Att
 text:Str
 top:Int
 size:Int
 pin:Bool
 par:Int
 ch:Ah
structure Sl where
 g:Nat
 used:Bool
 n:Nod
structure DM where
 L:List Sl
 free:Ah
 C:Ak
def DM.gen (D:DM)(i:Nat):Nat:=match D.L[i]? with
 |some s=>s.g|none=>0
def DM.at (D:DM)(i g:Int):Ai:=if 0<=i then match D.L[i.toNat]? with
  |some s=>if s.used=true/\(s.g:Int)=g then some i.toNat else none
  |none=>none
 else none
structure RS where
 g:Int
 u:Bool
 nx:Int
 p:Int
def RS.row (r:RS):Ar:=[.i r.g,.b r.u,.i r.nx,.i r.p]
structure RN where
 kind:Int
 tag:Str
 a:a8
 text:Str
 top:Int
 size:Int
 pin:Bool
 pi:Int
 pg:Int
 c:a8
def RN.row (r:RN):Ar:=[.i r.kind,.s r.tag,.l r.a,.s r.text,.i r.top,.i r.size,.b r.pin,.i r.pi,.i r.pg,.l r.c]
def B2 (G:Nat->Nat)(j:Nat):Ar:=[.i j,.i (G j)]
def hI (p:Int):Int:=if p<0 then 0 else p
def hG' (G:Nat->Nat)(p:Int):Int:=if p<0 then 0 else(G p.toNat:Int)
def Nod.rn (G:Nat->Nat)(n:Nod):RN:=⟨n.kind,n.tag,n.atts.map Att.row,n.text,n.top,n.size,n.pin,hI n.par,hG' G n.par,n.ch.map (B2 G)⟩
def Ch (T:List RS):Int->Ah->Prop
 |fr,[]=>fr=0|fr,i::l=>fr=i+1/\ ∃r,T[i]? =some r/\r.u=false/\Ch T r.nx l
structure RlT (G:Nat->Nat)(D:DM)(T:List RS)(M:List RN)(fr lv:Int):Prop where
 len:T.length=D.L.length
 row:∀(i:Nat) s,D.L[i]? =some s-> ∃r,T[i]? =some r/\r.g=s.g/\r.u=s.used/\(s.used=true->0<=r.p/\M[r.p.toNat]? =some (s.n.rn G))
 inj:∀(i j:Nat) ri rj,T[i]? =some ri->T[j]? =some rj->ri.u=true->rj.u=true->ri.p=rj.p->i=j
 free:Ch T fr D.free
 nodup:D.free.Nodup
 all:∀(i:Nat) s,D.L[i]? =some s->s.used=false->i∈D.free
 lv:lv=(D.L.countP (·.used):Int)
def Rl (G:Nat->Nat)(D:DM)(S N:a8)(fr lv:Int):Prop:=∃T M,S=T.map RS.row/\N=M.map RN.row/\RlT G D T M fr lv
structure WF (D:DM)(K:Nat):Prop where
 lim:D.L.length<=K/\K<=1000
 gen:∀s∈D.L,1<=s.g/\s.g<=K+1
 par:∀(i:Nat) s,D.L[i]? =some s->s.used=true->s.n.par= -1\/ ∃(p:Nat) (sp:Sl),s.n.par=p/\D.L[p]? =some sp/\sp.used=true/\i∈sp.n.ch
 ch:∀(i:Nat) s,D.L[i]? =some s->s.used=true->s.n.ch.Nodup/\ ∀j∈s.n.ch,∃sj,D.L[j]? =some sj/\sj.used=true/\sj.n.par=i
 rank:∃r:Nat->Nat,(∀i,r i<=K)/\ ∀(i:Nat) s,D.L[i]? =some s->s.used=true-> ∀j∈s.n.ch,r i<r j
 atts:∀(i:Nat) s,D.L[i]? =some s->s.used=true->s.n.atts.length<=8/\(∀a∈s.n.atts,B3 a.n=true/\H9 a.v=true)/\Asc (s.n.atts.map Att.n)
 cnt:∃a b c d e f h:Int,D.C=[(D.L.countP (·.used):Int),a,b,c,d,e,f,h]/\a=D.L.countP (·.used)+b/\0<=b/\(∀x∈ [a,b,c,d,e,f,h],0<=x/\x<=K)
 kind:∀(i:Nat) s,D.L[i]? =some s->s.used=true->(s.n.kind=1\/s.n.kind=2)/\(s.n.kind=2->s.n.ch=[]/\s.n.atts=[])
 free:D.free.Nodup/\ ∀i∈D.free,∃s,D.L[i]? =some s/\s.used=false
def t9 (S:a8)(i g:Int):Bool:=decide (0<=i)&&decide (i<S.length)&&(z8 S i 1).toBool&&decide ((z8 S i 0).toInt=g)
def atF (S:a8)(i g:Int):Int:=if t9 S i g=true then(z8 S i 3).toInt else-1
section
variable {G :Nat->Nat}{D:DM}{S N:a8}{fr lv i g:Int}{T:List RS}{M:List RN}{K:Nat}
def RlT.back (h:RlT G D T M fr lv){i:Nat}{r:RS}(hr:T[i]? =some r):∃s,D.L[i]? =some s/\r.g=s.g/\r.u=s.used/\(s.used=true->0<=r.p/\M[r.p.toNat]? =some (s.n.rn G)):=by
 have hi:i<D.L.length:=by rw[<-h.len];exact(SW.1 hr).1
 obtain⟨a,h1,h2⟩:=h.row i _ (Tf hi);rw[hr]at h1;cases h1;exact⟨_,Tf hi,h2⟩
def RlT.vld (h:RlT G D T M fr lv):t9 (T.map RS.row) i g=true↔ ∃k,D.at i g=some k:=by
 unfold t9 DM.at;by_cases h0:0<=i
 .rw[Tp h0];cases hs:D.L[i.toNat]? with
  |none=>
   have:T.length<=i.toNat:=by rw[h.len];exact List.getElem?_eq_none_iff.1 hs
   simp;omega
  |some s=>
   obtain⟨r,h1,h2,h3,_⟩:=h.row _ s hs;have hi:i<(T.length:Int):=by have:=(SW.1 h1).1;omega
   rw[d9 h1,d9 h1];simp[RS.row,h0,hi,Dat.toBool,Dat.toInt,h2,h3]
 simp[h0]
def RlT.at_ (h:RlT G D T M fr lv){k:Nat}(hk:D.at i g=some k):∃s r,i=k/\D.L[k]? =some s/\s.used=true/\(s.g:Int)=g/\T[k]? =some r/\atF (T.map RS.row) i g=r.p/\0<=r.p/\M[r.p.toNat]? =some (s.n.rn G):=by have hv:=h.vld.2 ⟨k,hk⟩;unfold DM.at at hk;split at hk;split at hk;rename_i h0 s hs;split at hk;rename_i a;cases hk;obtain⟨r,h1,h2,h3,h4⟩:=h.row _ s hs;obtain⟨b,c⟩:=h4 a.1;exact⟨s,r,by omega,hs,a.1,a.2,h1,by unfold atF;rw[Tp hv,d9 h1];rfl,b,c⟩;cases hk;cases hk;cases hk
def T7 {α:Type}{f:α->Ar}{T:List α}{i:Int}{j:Nat}{d:Dat}(q:α->α)(h:∀a,(f a).set j d=f (q a)):a9 (T.map f) i j d=(T.modify i.toNat q).map f:=by
 unfold a9;apply List.ext_getElem?;intro k;simp only[List.getElem?_modify,TU];cases T[k]? with
 |none=>simp|some a=>by_cases e:i.toNat=k<;>simp[e,h]
end
abbrev KB :Ax:=93
abbrev tNd :Ax:=130
abbrev Jg :Ax:=214
abbrev Jh :Ax:=216
abbrev tHd :Ax:=34
abbrev rV :Ax:=101
def hL :List Lf:=[.g (.int .u32),.g (.int .u32)]
def hV :Vs:= .agg hL
def dV :Vs:= .one (.ptr 0 13)
def JC :List Lf:=[.g (.acc Jg 4),.g (.int .i64),.g (.int .i64),.g (.int .i64),.g (.int .i64),.g (.int .i64),.g (.int .i64),.g (.int .i64),.g (.int .i64),.g (.int .i64),.g (.int .i64),.cst .bool (.bool false),.g (.lst Jh)]
def oQ :List Z9:=[(KB,13,JC),(tNd,10,[.g (.rgl 10)])]
def Bu :As->SS->Bb (Ah):=λargs s=>match args with
 | .ptr b _ _ _::_=>match rgB s with
  |some r=>some [b,r]|none=>none
 |_=>none
def dmB :List Z9:=[(KB,13,JC)]
def dmF :As->SS->Bb (Ah):=λargs s=>match args with
 | .ptr b _ _ _::_=>some [b]|_=>none
def rgB1 :List Z9:=[(tNd,10,[.g (.rgl 10)])]
def rgF :As->SS->Bb (Ah):=λargs s=>match rgB s with
 |some r=>some [r]|none=>none
def mkD (n:String)(args:List Vs)(pre:Ar->Prop)(res:List Vs)(rel:Ar->Ar->Prop):Con:=⟨n,dV::args,oQ,Bu,pre,res,oQ,noB,rel⟩
def mkR (n:String)(args:List Vs)(blks:List Z9)(find:As->SS->Bb (Ah))(pre:Ar->Prop)(res:List Vs)(rel:Ar->Ar->Prop):Con:=⟨n,args,blks,find,pre,res,[],noB,rel⟩
def U32 (x:Int):Prop:=0<=x/\x<4294967296
def u9 :Ar->Prop
 | .i i:: .i g:: .l S::_=>U32 i/\U32 g/\S.length<=1000|_=>False
def u6 :Ar->Ar->Prop
 | .i i:: .i g:: .l S::_,[.i p]=>p=atF S i g|_,_=>False
def I0:=u9
def E2 :Ar->Ar->Prop
 | .i i:: .i g:: .l S::_,[.b b]=>b=t9 S i g|_,_=>False
def ixF :a8->Int->Int->Int->Int
 | [],_,_,_=> -1|r::C,i,g,k=>if(r.getD 0 (.i 0)).toInt=i/\(r.getD 1 (.i 0)).toInt=g then k else ixF C i g (k+1)
def plF (C:a8)(i g:Int):Int:=if i=0/\g=0 then C.length else ixF C i g 0
def P7 :Ar->Prop
 | [.i p,.i i,.i g,.l N]=>U32 i/\U32 g/\0<=p/\p<N.length/\(cL N p 9).length<=1000|_=>False
def N9 :Ar->Ar->Prop
 | [.i p,.i i,.i g,.l N],[.i r]=>r=plF (cL N p 9) i g|_,_=>False
def RlE (D:DM)(S N:a8):Prop:=∃fr lv,Rl D.gen D S N fr lv
inductive Abv (D:DM)(a:Nat):Nat->Prop
 |here:Abv D a a
 |up (b p:Nat) (s:Sl) (h:D.L[b]? =some s) (hp:s.n.par=p) (k:Abv D a p):Abv D a b
def FL :Ar->Prop
 | [.i i,.i g,.i j,.i k,.l S,.i fr,.i lv,.i _,.i _,.i _,.i _,.i _,.i _,.i _,.i _,.l _,.l N]=>U32 i/\U32 g/\U32 j/\U32 k/\ ∃D K a b,Rl D.gen D S N fr lv/\WF D K/\D.at i g=some a/\D.at j k=some b|_=>False
def FM :Ar->Ar->Prop
 | [.i i,.i g,.i j,.i k,.l S,.i fr,.i lv,.i _,.i _,.i _,.i _,.i _,.i _,.i _,.i _,.l _,.l N],[.b r]=>∀D K a b,Rl D.gen D S N fr lv->WF D K->D.at i g=some a->D.at j k=some b->(r=true↔Abv D a b)
 |_,_=>False
def cAt:=mkR "at" [dV,hV] dmB dmF u9 [.one (.g .rpt)] u6
def Wm:=mkR "vld" [dV,hV] dmB dmF I0 [bV] E2
def WA:=mkR "plc" [.one (.g .rpt),hV] rgB1 rgF P7 [iV] N9
def WS:=mkR "abo" [dV,hV,hV] oQ Bu FL [bV] FM
def gB :Ar->Ar->Prop
 | [.l C,.i i,.i g],[.i k]=>0<=k/\k<=C.length/\ixF C i g 0=ixF (C.drop k.toNat) i g k|_,_=>False
def zE:=A2
def upC (S N:a8):Nat->Int->Int->Nat
 |0,_,_=>0|f+1,x,y=>if x=0/\y=0 then 0 else upC S N f (cI N (atF S x y) 7) (cI N (atF S x y) 8)+1
def Bh :Ar->Ar->Prop
 | [.l S,.l N,.i i,.i g,.i j,.i k],[.i x,.i y]=>U32 x/\U32 y/\ ∀D K a b,RlE D S N->WF D K->D.at i g=some a->D.at j k=some b->(x=0/\y=0/\ ¬Abv D a b)\/ ∃c,D.at x y=some c/\(Abv D a b↔Abv D a c)|_,_=>False
def Lb :Ar->Ar->Nat
 | [.l S,.l N,_,_,_,_],[.i x,.i y]=>upC S N 1002 x y|_,_=>0
def slG (v:SV)(s:SS):List (So×E):=match v with
 | .sl b _ _ _ _=>match s.get b with
  |some (.rows e _ _ _)=>[(.l,e)]
  |_=>[]
 | .lst _ e _=>[(.l,e)]
 | .nils=>[(.l,.op .nil [])]
 |_=>[]
def wJ (t:Nat):Fm->SS->List (So×E):=λf s=>match lk f t with
 |some (.ptr b _ _ _)=>match s.get b with
  |some (.cells (c::_) _ _)=>slG c s|_=>[]
 |_=>[]
def uT :Fm->SS->List (So×E):=λ_ s=>match rgB s with
 |some r=>match s.get r with
  |some (.reg _ L _)=>[(.l,L)]
  |_=>[]
 |none=>[]
def hdT (t:Nat):Fm->SS->List (So×E):=λf s=>match lk f t with
 |some (.agg [.int _ i,.int _ g])=>[(.i,i),(.i,g)]
 |_=>[]
def W3 :Ay->List (Nat×(Fm->SS->F9))
 |117=>[(0,D5 U0 "hix" (F5 [(8,.int .i64)] nob) (gh2 (j9 0) (gh2 (y8 3 0) (y8 3 1))) gB A2)]
 |69=>[(0,D5 U0 "abv" (F5 [] (J1 5 [.int .u32,.int .u32])) (gh2 (gh2 (wJ 0) uT) (gh2 (hdT 1) (hdT 2))) Bh Lb)]
 |_=>[]
def CB :Nat->List (Ay×Con)
 |_=>[(LVn,cq "lives")]
def vC :Nat->Aw->D4
 |0,_=>[]
 |_,P=>[(68,kro P U0 cAt)]
open Go Go.Xe Go.Sx
def Wj :Prop:=
 ∀a c b d f g h j k l m o p q,u9 (.i a::.i c::JE b d f g h j k l m o p q)->Nd ((¬a<0)/\a<18446744073709551616) (Nd ((¬ln b<0)/\ln b<18446744073709551616)<|(a<ln b->Nd (¬a<0) (Nd (a<ln b)<|Nd (a<ln b)<|(cB b a 1=true->Nd (a<ln b) ((cI b a 0=c->Nd (a<ln b) (Nd (u6 (.i a::.i c::JE b d f g h j k l m o p q) [.i (cI b a 3)]) True))/\(¬cI b a 0=c->Nd (u6 (.i a::.i c::JE b d f g h j k l m o p q) [.i (-1)]) True)))/\(¬cB b a 1=true->Nd (u6 (.i a::.i c::JE b d f g h j k l m o p q) [.i (-1)]) True)))/\(¬a<ln b->Nd (u6 (.i a::.i c::JE b d f g h j k l m o p q) [.i (-1)]) True))
def Fd :kr cAt W3 (CB 0) (vC 0) 68=Wj:=by kernel_rfl
def qm :Prop:=
 ∀a d c f g h j k l m o p q r,I0 (.i a::.i d::JE c f g h j k l m o p q r)->Nd ((¬a<0)/\a<18446744073709551616) (Nd ((¬ln c<0)/\ln c<18446744073709551616)<|(a<ln c->Nd (¬a<0) (Nd (a<ln c)<|Nd (a<ln c)<|(cB c a 1=true->Nd (a<ln c) ((cI c a 0=d->Nd (E2 (.i a::.i d::JE c f g h j k l m o p q r) [.b true]) True)/\(¬cI c a 0=d->Nd (E2 (.i a::.i d::JE c f g h j k l m o p q r) [.b false]) True)))/\(¬cB c a 1=true->Nd (E2 (.i a::.i d::JE c f g h j k l m o p q r) [.b false]) True)))/\(¬a<ln c->Nd (E2 (.i a::.i d::JE c f g h j k l m o p q r) [.b false]) True))
def ql :kr Wm W3 (CB 0) (vC 0) 97=qm:=by kernel_rfl
def iu (a:Int)(b:a8)(c d f:Int):Prop:=
 Nd (I64 (a+1))<|Nd (gB [.l (cL b c 9),.i d,.i f] [.i (a+1)])<|Nd (zE [.l (cL b c 9),.i d,.i f] [.i (a+1)]<zE [.l (cL b c 9),.i d,.i f] [.i a]) True
def ir (a:Int)(b:a8)(d f:Int):Prop:=
 Nd (¬a<0)<|Nd (a<ln b)<|Nd (gB [.l (cL b a 9),.i d,.i f] [.i 0])<|∀c,gB [.l (cL b a 9),.i d,.i f] [.i c]->((c<ln (cL b a 9)->Nd (¬c<0) (Nd (c<ln (cL b a 9))<|(d=cI (cL b a 9) c 0->((f=cI (cL b a 9) c 1->Nd (N9 [.i a,.i d,.i f,.l b] [.i c]) True)/\(¬f=cI (cL b a 9) c 1->iu c b a d f)))/\(¬d=cI (cL b a 9) c 0->iu c b a d f)))/\(¬c<ln (cL b a 9)->Nd (N9 [.i a,.i d,.i f,.l b] [.i (-1)]) True))
def ve :Prop:=
 ∀a b c d,P7 [.i a,.i b,.i c,.l d]->((b=0->((c=0->Nd (¬a<0) (Nd (a<ln d)<|Nd (N9 [.i a,.i b,.i c,.l d] [.i (ln (cL d a 9))]) True))/\(¬c=0->ir a d b c)))/\(¬b=0->ir a d b c))
def vd :kr WA W3 (CB 0) (vC 0) 71=ve:=by kernel_rfl
def jv (a c d f:Int)(g:a8)(h j k l m o p q r s:Int)(t u:a8)(v w:Int):Prop:=
 Nd (FM (.i a::.i c::.i d::.i f::JD g h j k l m o p q r s t u) [.b (decide (v=a)&&decide (w=c))]) True
def ju (b:a8)(d f m o p q r s t u v w:Int)(x a:a8)(g h j k:Int):Prop:=
 Ni (ln b)<|Nr (ln b)<|Nd (u9 (.i d::.i f::JE b m o p q r s t u v w x))<|∀c,u6 (.i d::.i f::JE b m o p q r s t u v w x) [.i c]->Nd (¬c<0) (Nd (c<ln a)<|Nd (Bh [.l b,.l a,.i g,.i h,.i j,.i k] [.i (cI a c 7),.i (cI a c 8)])<|Nd (Lb [.l b,.l a,.i g,.i h,.i j,.i k] [.i (cI a c 7),.i (cI a c 8)]<Lb [.l b,.l a,.i g,.i h,.i j,.i k] [.i d,.i f]) True)
def em (a b c d f g:Int)(h:a8)(i j k l m o p q r s:Int)(t u:a8):Prop:=
 (a=b->((c=d->jv b d f g h i j k l m o p q r s t u a c)/\(¬c=d->ju h a c i j k l m o p q r s t u b d f g)))/\(¬a=b->ju h a c i j k l m o p q r s t u b d f g)
def zg :Prop:=
 ∀c d a b f k m o p q r s t u v w g,FL (.i c::.i d::.i a::.i b::JD f k m o p q r s t u v w g)->Nd (Bh [.l f,.l g,.i c,.i d,.i a,.i b] [.i a,.i b]) (∀h j,Bh [.l f,.l g,.i c,.i d,.i a,.i b] [.i h,.i j]->((h=0->((j=0->jv c d a b f k m o p q r s t u v w g h j)/\(¬j=0->em h c j d a b f k m o p q r s t u v w g)))/\(¬h=0->em h c j d a b f k m o p q r s t u v w g)))
def zf :kr WS W3 (CB 1) (vC 1) 69=zg:=by kernel_rfl
def Eq :Wj:=by unfold Wj;intro i g S _ _ _ _ _ _ _ _ _ _ _ h;obtain⟨h1,h2,h3⟩:=h;obtain⟨h1,h4⟩:=h1;simp only[Nd,u6,atF,t9,uR,uQ,Ug,Up,Ul,TN,ln];refine⟨⟨by omega,by omega⟩,λ_=>⟨⟨by omega,by omega⟩,λ_=>⟨λa=>⟨by omega,λ_=>⟨a,λ_=>⟨λb=>⟨a,λ_=>⟨λc=>⟨a,?_⟩,λc=>?_⟩⟩,λb=>?_⟩⟩⟩,λa=>?_⟩⟩⟩;simp only[cB]at b;simp[h1,a,b,c];simp only[cI]at c;simp[c];simp only[cB]at b;simp[b];simp[a]
def qk :qm:=by unfold qm;intro i g S _ _ _ _ _ _ _ _ _ _ _ h;obtain⟨h1,h2,h3⟩:=h;obtain⟨h1,h4⟩:=h1;simp only[Nd,E2,t9,uR,uQ,Ug,Up,Ul,TN,ln];refine⟨⟨by omega,by omega⟩,λ_=>⟨⟨by omega,by omega⟩,λ_=>⟨λa=>⟨by omega,λ_=>⟨a,λ_=>⟨λb=>⟨a,λ_=>⟨λc=>?_,λc=>?_⟩⟩,λb=>?_⟩⟩⟩,λa=>?_⟩⟩⟩;simp only[cB]at b;simp[h1,a,b,c];simp only[cI]at c;simp[c];simp only[cB]at b;simp[b];simp[a]
def Il {i g:Int}:∀ {C:a8} {k:Int},C=[]->ixF C i g k= -1
 |_,_,rfl=>rfl
def cC {C:a8}{k:Int}(h0:0<=k)(h1:k<C.length):∃r,C.drop k.toNat=r::C.drop (k+1).toNat/\ ∀j,z8 C k j=r.getD j (.i 0):=by have h:C[k.toNat]? =some (C[k.toNat]'(by omega)):=Tf (by omega);refine⟨_,by rw[Ic h,eG h0],λj=>?_⟩;unfold z8;rw[Tz (l:=C),h];rfl
def gC {r:Ar}{C:a8}{i g k:Int}:ixF (r::C) i g k=if(r.getD 0 (.i 0)).toInt=i/\(r.getD 1 (.i 0)).toInt=g then k else ixF C i g (k+1):=rfl
def vb :ve:=by
 unfold ve;intro p i g N h;obtain⟨hi,hg,h0,h1,h2⟩:=h;have j:ir p N i g\/(i=0/\g=0):=by
  by_cases e:i=0/\g=0;exact .inr e
  .left;have d:plF (cL N p 9) i g=ixF (cL N p 9) i g 0:=by unfold plF;rw[Tn e]
   unfold ir;refine⟨by omega,λ_=>⟨h1,λ_=>⟨⟨by omega,by omega,by simp⟩,λ_ k hk=>?_⟩⟩⟩;obtain⟨k0,k1,k2⟩:=hk;have l:∀c:k<ln (cL N p 9),(¬i=cI (cL N p 9) k 0\/ ¬g=cI (cL N p 9) k 1)->iu k N p i g:=by intro c f;have c:k<((cL N p 9).length:Int):=c;obtain⟨r,r1,q⟩:=cC k0 c;unfold iu;refine⟨⟨by omega,by omega⟩,λ_=>⟨⟨by omega,by omega,?_⟩,λ_=>⟨?_,λ_=>trivial⟩⟩⟩;rw[k2,r1];simp only[cI,q]at f;rw[gC,Tn (by rintro ⟨a,b⟩;rcases f with h|h;exact h a.symm;exact h b.symm)];simp only[zE,A2];omega
   refine⟨λc=>⟨by omega,λ_=>⟨c,λ_=>⟨λm=>⟨λn=>⟨?_,λ_=>trivial⟩,λn=>l c (.inr n)⟩,λm=>l c (.inl m)⟩⟩⟩,λc=>⟨?_,λ_=>trivial⟩⟩;show k=_;obtain⟨r,r1,q⟩:=cC k0 c;simp only[cI,q]at m n;rw[d,k2,r1];rw[gC,Tp ⟨m.symm,n.symm⟩];have c:¬k<((cL N p 9).length:Int):=c;show(-1:Int)=_;rw[d,k2,Il (List.drop_eq_nil_of_le (by omega))]
 refine⟨λo=>⟨λd=>⟨by omega,λ_=>⟨h1,λ_=>⟨?_,λ_=>trivial⟩⟩⟩,λd=>j.resolve_right λh=>d h.2⟩,λo=>j.resolve_right λh=>o h.1⟩;show _=plF _ _ _;unfold plF;rw[Tp ⟨o,d⟩]
section
variable {D :DM}{S N:a8}{fr lv i g x y:Int}{K a b c p:Nat}
def Rl.node {G:Nat->Nat}(h:Rl G D S N fr lv)(hk:D.at x y=some c):∃s,D.L[c]? =some s/\x=c/\s.used=true/\(s.g:Int)=y/\0<=atF S x y/\atF S x y<N.length/\ ∀j,z8 N (atF S x y) j=(s.n.rn G).row.getD j (.i 0):=by obtain⟨T,M,rfl,rfl,h⟩:=h;obtain⟨s,r,h1,h2,h3,h4,f,e,k,d⟩:=h.at_ hk;have:=(SW.1 d).1;refine⟨s,h2,h1,h3,h4,by omega,by rw[Tm];omega,λj=>?_⟩;rw[e,d9 d]
def DM.at_of {s:Sl}(hs:D.L[c]? =some s)(d:s.used=true):D.at c (D.gen c)=some c:=by unfold DM.at DM.gen;simp[hs,d]
def UX:type_of% @DM.at_of:=@DM.at_of
def DM.at_gen (h:D.at x y=some c):∃s,D.L[c]? =some s/\s.used=true/\x=c/\y=s.g:=by unfold DM.at at h;split at h;split at h;rename_i h0 s hs;split at h;rename_i d;cases h;exact⟨s,hs,d.1,by omega,d.2.symm⟩;cases h;cases h;cases h
def UW:type_of% @DM.at_gen:=@DM.at_gen
def WF.u32 (w:WF D K)(h:D.at x y=some c):U32 x/\U32 y/\1<=y:=by obtain⟨s,h1,h2,rfl,rfl⟩:=UW h;have:=w.lim;have:=w.gen s (Td h1);have:=(SW.1 h1).1;unfold U32;omega
def Jj (h:Rl D.gen D S N fr lv)(w:WF D K)(hk:D.at x y=some c):∃s,D.L[c]? =some s/\s.used=true/\0<=atF S x y/\atF S x y<N.length/\((s.n.par= -1/\cI N (atF S x y) 7=0/\cI N (atF S x y) 8=0)\/ ∃p:Nat,s.n.par=p/\D.at (cI N (atF S x y) 7) (cI N (atF S x y) 8)=some p/\ ∃sp,D.L[p]? =some sp/\sp.used=true/\c∈sp.n.ch):=by
 obtain⟨s,h1,h2,h3,h4,o,q,f⟩:=h.node hk;have l:cI N (atF S x y) 7=hI s.n.par:=by unfold cI;rw[f];rfl
 have m:cI N (atF S x y) 8=hG' D.gen s.n.par:=by unfold cI;rw[f];rfl
 refine⟨s,h1,h3,o,q,?_⟩;rw[l,m];rcases w.par c s h1 h3 with e| ⟨p,sp,e,j,k,d⟩;rw[e];exact .inl ⟨rfl,rfl,rfl⟩
 .refine .inr ⟨p,e,?_,sp,j,k,d⟩;rw[e];have:hI (p:Int)=p:=by unfold hI;rw[Tn (by omega)]
  rw[this];have:hG' D.gen (p:Int)=D.gen p:=by unfold hG';rw[Tn (by omega)];rfl
  rw[this];exact UX j k
def Ok (h:Rl D.gen D S N fr lv)(w:WF D K){r:Nat->Nat}(hr:∀(i:Nat) s,D.L[i]? =some s->s.used=true-> ∀j∈s.n.ch,r i<r j):∀(n:Nat) {x y:Int} {c:Nat},D.at x y=some c->r c<=n-> ∀f d,n+1<f->n+1<d->upC S N f x y=upC S N d x y:=by
 intro n;induction n using Nat.strongRecOn with
 |ind n v=>
  intro x y c hk hn f d hf u;obtain⟨f,rfl⟩:∃k,f=k+1:=⟨f-1,by omega⟩
  obtain⟨d,rfl⟩:∃k,d=k+1:=⟨d-1,by omega⟩
  have hy:=(w.u32 hk).2.2;unfold upC;rw[Tn (by omega),Tn (by omega)];obtain⟨s,h1,h2,_,_,⟨_,e,l⟩| ⟨p,h3,h4,sp,o,q,t⟩⟩:=Jj h w hk
  .rw[e,l];have:∀m,0<m->upC S N m 0 0=0:=λm hm=>by
    obtain⟨m,rfl⟩:∃k,m=k+1:=⟨m-1,by omega⟩
    unfold upC;simp
   rw[this f (by omega),this d (by omega)]
  have:=hr p sp o q c t;rw[v (r p) (by omega) h4 (Tq _) f d (by omega) (by omega)]
def Abv.inv (h:Abv D a b):a=b\/ ∃(p:Nat) (s:Sl),D.L[b]? =some s/\s.n.par=p/\Abv D a p:=by
 cases h with
 |here=>exact .inl rfl|up _ p s h hp k=>exact .inr ⟨p,s,h,hp,k⟩
def ze :zg:=by
 unfold zg;intro i g j k S fr lv _ _ _ _ _ _ _ _ st N h;obtain⟨hi,hg,hj,hk,D,K,a,b,m,d,n,hb⟩:=h;have J:S.length<=1000:=by obtain⟨T,M,rfl,rfl,h⟩:=m;rw[Tm,h.len];have:=d.lim;omega
 refine⟨⟨hj,hk,λD K a b _ _ _ hb=>.inr ⟨b,hb,Iff.rfl⟩⟩,λ_ x y hI=>?_⟩;obtain⟨ux,uy,hI⟩:=hI;have G:(¬(x=0/\y=0)-> ∀D K a b,RlE D S N->WF D K->D.at i g=some a->D.at j k=some b-> ∃c,D.at x y=some c/\(Abv D a b↔Abv D a c)):=λhn D K a b h1 h2 h3 h4=>(hI D K a b h1 h2 h3 h4).resolve_left λh=>hn ⟨h.1,h.2.1⟩;have B:¬(x=0/\y=0)-> ¬(x=i/\y=g)-> ∀c0 o q t u v w z,ju S x y fr lv c0 o q t u v w z st N i g j k:=by
  intro hn V c0 o q t u v w z;unfold ju;refine⟨by omega,λ_=>⟨rfl,λ_=>⟨⟨ux,uy,J⟩,λ_ p hp=>?_⟩⟩⟩;have hp:p=atF S x y:=hp;subst hp;obtain⟨c,h1,_⟩:=G hn D K a b ⟨_,_,m⟩ d n hb;obtain⟨s,h2,h3,h4,W,H⟩:=Jj m d h1;refine⟨by omega,λ_=>⟨W,λ_=>⟨⟨?_,?_,?_⟩,λ_=>⟨?_,λ_=>trivial⟩⟩⟩⟩;rcases H with⟨_,f,l⟩| ⟨p,_,C,_⟩;rw[f];exact⟨by omega,by omega⟩;exact(d.u32 C).1;rcases H with⟨_,f,l⟩| ⟨p,_,C,_⟩;rw[l];exact⟨by omega,by omega⟩;exact(d.u32 C).2.1
  .intro D K a b m d n hb;obtain⟨c,h1,Q⟩:=G hn D K a b m d n hb;obtain⟨Y,ab,m⟩:=m;obtain⟨s,h2,h3,h4,W,H⟩:=Jj m d h1;have I:a≠c:=λe=>by subst e;obtain⟨s1,F,X,rfl,rfl⟩:=UW h1;obtain⟨s2,R,q4,rfl,rfl⟩:=UW n;rw[F]at R;cases R;exact V ⟨rfl,rfl⟩
   rcases H with⟨e0,f,l⟩| ⟨p,hp,C,_⟩;refine .inl ⟨f,l,λE=>?_⟩;rcases(Q.1 E).inv with h| ⟨p,s',F,X,_⟩;exact I h;rw[h2]at F;cases F;omega
   .refine .inr ⟨p,C,Q.trans ⟨λE=>?_,λE=>.up c p s h2 hp E⟩⟩;rcases E.inv with h| ⟨p',s',F,X,R⟩;exact absurd h I
    .rw[h2]at F;cases F;have:p=p':=by omega
     rw[this];exact R
  .show upC S N 1002 _ _<upC S N 1002 x y;have:upC S N 1002 x y=upC S N 1001 (cI N (atF S x y) 7) (cI N (atF S x y) 8)+1:=by
    conv=>lhs;unfold upC
    rw[Tn hn]
   rw[this];rcases H with⟨_,f,l⟩| ⟨p,_,C,sp,Q,Z,U⟩;rw[f,l];unfold upC;simp;obtain⟨r,L,O⟩:=d.rank;have:=L p;have:=d.lim;have:=O p sp Q Z c U;have:=L c;rw[Ok m d O (r p) C (Tq _) 1002 1001 (by omega) (by omega)];omega
 have yes:¬(x=0/\y=0)->em x i y g j k S fr lv=em x i y g j k S fr lv:=λ_=>rfl;have A:∀c0 o q t u v w z,(x=0/\y=0)\/(x=i/\y=g)->jv i g j k S fr lv c0 o q t u v w z st N x y:=by intro c0 o q t u v w z hc;unfold jv;refine⟨?_,λ_=>trivial⟩;intro D K a b m d n hb;have aa:=(d.u32 n).2.2;simp only[SR,To];rcases hc with⟨rfl,rfl⟩| ⟨rfl,rfl⟩;refine⟨λh=>by omega,λE=>?_⟩;rcases hI D K a b ⟨_,_,m⟩ d n hb with⟨_,_,h⟩| ⟨c,h1,_⟩;exact absurd E h;have:=(d.u32 h1).2.2;omega;refine⟨λ_=>?_,λ_=>⟨rfl,rfl⟩⟩;rcases hI D K a b ⟨_,_,m⟩ d n hb with⟨_,h,_⟩| ⟨c,h1,h2⟩;omega;rw[n]at h1;cases h1;exact h2.2 .here
 have P:∀c0 o q t u v w z,¬(x=0/\y=0)->em x i y g j k S fr lv c0 o q t u v w z st N:=by intro c0 o q t u v w z hn;unfold em;exact⟨λf=>⟨λl=>A _ _ _ _ _ _ _ _ (.inr ⟨f,l⟩),λl=>B hn (λh=>l h.2) ..⟩,λf=>B hn (λh=>f h.1) ..⟩
 exact⟨λf=>⟨λl=>A _ _ _ _ _ _ _ _ (.inl ⟨f,l⟩),λl=>P _ _ _ _ _ _ _ _ λh=>l h.2⟩,λf=>P _ _ _ _ _ _ _ _ λh=>f h.1⟩
