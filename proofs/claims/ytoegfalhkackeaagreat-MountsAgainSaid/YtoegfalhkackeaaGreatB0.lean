/- The DOM: its model, what the program keeps in memory for it, and what is always so.
  Conditions: none. -/
import Derived.Test.YtoegfalhkackeaaGreatA1
set_option linter.all false
noncomputable section
namespace Go.D
open Go Go.Xe Go.Sx
structure Nod where
 kind:Int
 tag:Str
 atts:List Att
 text:Str
 top:Int
 size:Int
 pin:Bool
 par:Int
 ch:Ah
structure Sl where
 g:Nat
 used:Bool
 n:Nod
structure DM where
 L:List Sl
 free:Ah
 C:Ak
def DM.gen (D:DM)(i:Nat):Nat:=match D.L[i]? with
 |some s=>s.g|none=>0
def DM.at (D:DM)(i g:Int):Ai:=if 0<=i then match D.L[i.toNat]? with
  |some s=>if s.used=true/\(s.g:Int)=g then some i.toNat else none
  |none=>none
 else none
structure RS where
 g:Int
 u:Bool
 nx:Int
 p:Int
def RS.row (r:RS):Ar:=[.int r.g,.bool r.u,.int r.nx,.int r.p]
structure RN where
 kind:Int
 tag:Str
 a:Sx.Rows
 text:Str
 top:Int
 size:Int
 pin:Bool
 pi:Int
 pg:Int
 c:Sx.Rows
def RN.row (r:RN):Ar:=[.int r.kind,.str r.tag,.lst r.a,.str r.text,.int r.top,.int r.size,.bool r.pin,.int r.pi,.int r.pg,.lst r.c]
def z9 (G:Nat->Nat)(j:Nat):Ar:=[.int j,.int (G j)]
def hI (p:Int):Int:=if p<0 then 0 else p
def hG' (G:Nat->Nat)(p:Int):Int:=if p<0 then 0 else(G p.toNat:Int)
def Nod.rn (G:Nat->Nat)(n:Nod):RN:=⟨n.kind,n.tag,n.atts.map Att.row,n.text,n.top,n.size,n.pin,hI n.par,hG' G n.par,n.ch.map (z9 G)⟩
def Ch (T:List RS):Int->Ah->Prop
 |fr,[]=>fr=0|fr,i::l=>fr=i+1/\ ∃r,T[i]? =some r/\r.u=false/\Ch T r.nx l
structure RlT (G:Nat->Nat)(D:DM)(T:List RS)(M:List RN)(fr lv:Int):Prop where
 len:T.length=D.L.length
 row:∀(i:Nat) s,D.L[i]? =some s-> ∃r,T[i]? =some r/\r.g=s.g/\r.u=s.used/\(s.used=true->0<=r.p/\M[r.p.toNat]? =some (s.n.rn G))
 inj:∀(i j:Nat) ri rj,T[i]? =some ri->T[j]? =some rj->ri.u=true->rj.u=true->ri.p=rj.p->i=j
 free:Ch T fr D.free
 nodup:D.free.Nodup
 all:∀(i:Nat) s,D.L[i]? =some s->s.used=false->i∈D.free
 lv:lv=(D.L.countP (·.used):Int)
def Rl (G:Nat->Nat)(D:DM)(S N:Sx.Rows)(fr lv:Int):Prop:=∃T M,S=T.map RS.row/\N=M.map RN.row/\RlT G D T M fr lv
structure WF (D:DM)(K:Nat):Prop where
 lim:D.L.length<=K/\K<=1000
 gen:∀s∈D.L,1<=s.g/\s.g<=K+1
 par:∀(i:Nat) s,D.L[i]? =some s->s.used=true->s.n.par= -1\/ ∃(p:Nat) (sp:Sl),s.n.par=p/\D.L[p]? =some sp/\sp.used=true/\i∈sp.n.ch
 ch:∀(i:Nat) s,D.L[i]? =some s->s.used=true->s.n.ch.Nodup/\ ∀j∈s.n.ch,∃sj,D.L[j]? =some sj/\sj.used=true/\sj.n.par=i
 rank:∃r:Nat->Nat,(∀i,r i<=K)/\ ∀(i:Nat) s,D.L[i]? =some s->s.used=true-> ∀j∈s.n.ch,r i<r j
 atts:∀(i:Nat) s,D.L[i]? =some s->s.used=true->s.n.atts.length<=8/\(∀a∈s.n.atts,v5 a.n=true/\E8 a.v=true)/\Asc (s.n.atts.map Att.n)
 cnt:∃a b c d e f h:Int,D.C=[(D.L.countP (·.used):Int),a,b,c,d,e,f,h]/\a=D.L.countP (·.used)+b/\0<=b/\(∀x∈ [a,b,c,d,e,f,h],0<=x/\x<=K)
 kind:∀(i:Nat) s,D.L[i]? =some s->s.used=true->(s.n.kind=1\/s.n.kind=2)/\(s.n.kind=2->s.n.ch=[]/\s.n.atts=[])
 free:D.free.Nodup/\ ∀i∈D.free,∃s,D.L[i]? =some s/\s.used=false
def K0 (S:Sx.Rows)(i g:Int):Bool:=decide (0<=i)&&decide (i<S.length)&&(D6 S i 1).toBool&&decide ((D6 S i 0).toInt=g)
def atF (S:Sx.Rows)(i g:Int):Int:=if K0 S i g=true then(D6 S i 3).toInt else-1
section
variable {G :Nat->Nat}{D:DM}{S N:Sx.Rows}{fr lv i g:Int}{T:List RS}{M:List RN}{K:Nat}
def RlT.back (h:RlT G D T M fr lv){i:Nat}{r:RS}(hr:T[i]? =some r):∃s,D.L[i]? =some s/\r.g=s.g/\r.u=s.used/\(s.used=true->0<=r.p/\M[r.p.toNat]? =some (s.n.rn G)):=by
 have hi:i<D.L.length:=by rw[<-h.len];exact(Tn.1 hr).1
 obtain⟨a,h1,h2⟩:=h.row i _ (Tx hi);rw[hr]at h1;cases h1;exact⟨_,Tx hi,h2⟩
def RlT.vld (h:RlT G D T M fr lv):K0 (T.map RS.row) i g=true↔ ∃k,D.at i g=some k:=by
 unfold K0 DM.at;by_cases h0:0<=i
 ·rw[TJ h0];cases hs:D.L[i.toNat]? with
  |none=>
   have:T.length<=i.toNat:=by rw[h.len];exact List.getElem?_eq_none_iff.1 hs
   simp;omega
  |some s=>
   obtain⟨r,h1,h2,h3,_⟩:=h.row _ s hs;have hi:i<(T.length:Int):=by have:=(Tn.1 h1).1;omega
   rw[i9 h1,i9 h1];simp[RS.row,h0,hi,Dat.toBool,Dat.toInt,h2,h3]
 simp[h0]
def RlT.at_ (h:RlT G D T M fr lv){k:Nat}(hk:D.at i g=some k):∃s r,i=k/\D.L[k]? =some s/\s.used=true/\(s.g:Int)=g/\T[k]? =some r/\atF (T.map RS.row) i g=r.p/\0<=r.p/\M[r.p.toNat]? =some (s.n.rn G):=by have hv:=h.vld.2 ⟨k,hk⟩;unfold DM.at at hk;split at hk;split at hk;rename_i h0 s hs;split at hk;rename_i a;cases hk;obtain⟨r,h1,h2,h3,h4⟩:=h.row _ s hs;obtain⟨h5,b⟩:=h4 a.1;exact⟨s,r,by omega,hs,a.1,a.2,h1,by unfold atF;rw[TJ hv,i9 h1];rfl,h5,b⟩;cases hk;cases hk;cases hk
def V7 {α:Type}{f:α->Ar}{T:List α}{i:Int}{j:Nat}{d:Dat}(q:α->α)(h:∀a,(f a).set j d=f (q a)):i6 (T.map f) i j d=(T.modify i.toNat q).map f:=by
 unfold i6;apply List.ext_getElem?;intro k;simp only[List.getElem?_modify,Ul];cases T[k]? with
 |none=>simp|some a=>by_cases e:i.toNat=k<;>simp[e,h]
end
abbrev Oh :Ax:=93
abbrev tNd :Ax:=130
abbrev Oi :Ax:=214
abbrev Oj :Ax:=216
abbrev tHd :Ax:=34
abbrev EA :Ax:=101
def hL :List Lf:=[.g (.int .u32),.g (.int .u32)]
def hV :Vs:= .agg hL
def dV :Vs:= .one (.ptr 0 13)
def LZ :List Lf:=[.g (.acc Oi 4),.g (.int .i64),.g (.int .i64),.g (.int .i64),.g (.int .i64),.g (.int .i64),.g (.int .i64),.g (.int .i64),.g (.int .i64),.g (.int .i64),.g (.int .i64),.cst .bool (.bool false),.g (.lst Oj)]
def tC :List bW:=[(Oh,13,LZ),(tNd,10,[.g (.rgl 10)])]
def CV :As->SS->Bb (Ah):=fun args s=>match args with
 | .ptr b _ _ _::_=>match rgB s with
  |some r=>some [b,r]|none=>none
 |_=>none
def dmB :List bW:=[(Oh,13,LZ)]
def dmF :As->SS->Bb (Ah):=fun args s=>match args with
 | .ptr b _ _ _::_=>some [b]|_=>none
def rgB1 :List bW:=[(tNd,10,[.g (.rgl 10)])]
def rgF :As->SS->Bb (Ah):=fun args s=>match rgB s with
 |some r=>some [r]|none=>none
def mkD (n:String)(args:List Vs)(pre:Ar->Prop)(res:List Vs)(rel:Ar->Ar->Prop):Con:=⟨n,dV::args,tC,CV,pre,res,tC,noB,rel⟩
def mkR (n:String)(args:List Vs)(blks:List bW)(find:As->SS->Bb (Ah))(pre:Ar->Prop)(res:List Vs)(rel:Ar->Ar->Prop):Con:=⟨n,args,blks,find,pre,res,[],noB,rel⟩
def U32 (x:Int):Prop:=0<=x/\x<4294967296
def H8 :Ar->Prop
 | .int i:: .int g:: .lst S::_=>U32 i/\U32 g/\S.length<=1000|_=>False
def G2 :Ar->Ar->Prop
 | .int i:: .int g:: .lst S::_,[.int p]=>p=atF S i g|_,_=>False
def V9:=H8
def M5 :Ar->Ar->Prop
 | .int i:: .int g:: .lst S::_,[.bool b]=>b=K0 S i g|_,_=>False
def ixF :Sx.Rows->Int->Int->Int->Int
 | [],_,_,_=> -1|r::C,i,g,k=>if(r.getD 0 (.int 0)).toInt=i/\(r.getD 1 (.int 0)).toInt=g then k else ixF C i g (k+1)
def plF (C:Sx.Rows)(i g:Int):Int:=if i=0/\g=0 then C.length else ixF C i g 0
def eO :Ar->Prop
 | [.int p,.int i,.int g,.lst N]=>U32 i/\U32 g/\0<=p/\p<N.length/\(cL N p 9).length<=1000|_=>False
def cG :Ar->Ar->Prop
 | [.int p,.int i,.int g,.lst N],[.int r]=>r=plF (cL N p 9) i g|_,_=>False
def RlE (D:DM)(S N:Sx.Rows):Prop:=∃fr lv,Rl D.gen D S N fr lv
inductive Abv (D:DM)(a:Nat):Nat->Prop
 |here:Abv D a a
 |up (b p:Nat) (s:Sl) (h:D.L[b]? =some s) (hp:s.n.par=p) (k:Abv D a p):Abv D a b
def Fo :Ar->Prop
 | [.int i,.int g,.int j,.int k,.lst S,.int fr,.int lv,.int _,.int _,.int _,.int _,.int _,.int _,.int _,.int _,.lst _,.lst N]=>U32 i/\U32 g/\U32 j/\U32 k/\ ∃D K a b,Rl D.gen D S N fr lv/\WF D K/\D.at i g=some a/\D.at j k=some b|_=>False
def Fp :Ar->Ar->Prop
 | [.int i,.int g,.int j,.int k,.lst S,.int fr,.int lv,.int _,.int _,.int _,.int _,.int _,.int _,.int _,.int _,.lst _,.lst N],[.bool r]=>∀D K a b,Rl D.gen D S N fr lv->WF D K->D.at i g=some a->D.at j k=some b->(r=true↔Abv D a b)
 |_,_=>False
def cAt:=mkR "at" [dV,hV] dmB dmF H8 [.one (.g .rpt)] G2
def cVld:=mkR "vld" [dV,hV] dmB dmF V9 [bV] M5
def cPlc:=mkR "plc" [.one (.g .rpt),hV] rgB1 rgF eO [iV] cG
def cAbo:=mkR "abo" [dV,hV,hV] tC CV Fo [bV] Fp
def AV :Ar->Ar->Prop
 | [.lst C,.int i,.int g],[.int k]=>0<=k/\k<=C.length/\ixF C i g 0=ixF (C.drop k.toNat) i g k|_,_=>False
def Mi:=J9
def upC (S N:Sx.Rows):Nat->Int->Int->Nat
 |0,_,_=>0|f+1,x,y=>if x=0/\y=0 then 0 else upC S N f (cI N (atF S x y) 7) (cI N (atF S x y) 8)+1
def AD :Ar->Ar->Prop
 | [.lst S,.lst N,.int i,.int g,.int j,.int k],[.int x,.int y]=>U32 x/\U32 y/\ ∀D K a b,RlE D S N->WF D K->D.at i g=some a->D.at j k=some b->(x=0/\y=0/\ ¬Abv D a b)\/ ∃c,D.at x y=some c/\(Abv D a b↔Abv D a c)|_,_=>False
def Ll :Ar->Ar->Nat
 | [.lst S,.lst N,_,_,_,_],[.int x,.int y]=>upC S N 1002 x y|_,_=>0
def slG (v:SV)(s:SS):List (So×E):=match v with
 | .sl b _ _ _ _=>match s.get b with
  |some (.rows e _ _ _)=>[(.l,e)]
  |_=>[]
 | .lst _ e _=>[(.l,e)]
 | .nils=>[(.l,.op .nil [])]
 |_=>[]
def vL (t:Nat):Fm->SS->List (So×E):=fun f s=>match lk f t with
 |some (.ptr b _ _ _)=>match s.get b with
  |some (.cells (c::_) _ _)=>slG c s|_=>[]
 |_=>[]
def lN :Fm->SS->List (So×E):=fun _ s=>match rgB s with
 |some r=>match s.get r with
  |some (.reg _ L _)=>[(.l,L)]
  |_=>[]
 |none=>[]
def hdT (t:Nat):Fm->SS->List (So×E):=fun f s=>match lk f t with
 |some (.agg [.int _ i,.int _ g])=>[(.i,i),(.i,g)]
 |_=>[]
def bD :Ay->List (Nat×(Fm->SS->J0))
 |117=>[(0,L4 U0 "hix" (N7 [(8,.int .i64)] nob) (gh2 (y7 0) (gh2 (C5 3 0) (C5 3 1))) AV J9)]
 |69=>[(0,L4 U0 "abv" (N7 [] (L2 5 [.int .u32,.int .u32])) (gh2 (gh2 (vL 0) lN) (gh2 (hdT 1) (hdT 2))) AD Ll)]
 |_=>[]
def BQ :Nat->List (Ay×Con)
 |_=>[(LVn,cYes "lives")]
def uS :Nat->Aw->G1
 |0,_=>[]
 |_,P=>[(68,kro P U0 cAt)]
