/- The symbolic engine, parts 1, 2, 3, 4, 5, 6, 7, 8, 9, 10, 11, 12.
  Conditions: none. -/
import Derived.Test.YtcjhhnoaoldcmaaXm3
set_option linter.unusedSimpArgs false
set_option linter.unusedVariables false
namespace Go.Sx
abbrev Nd (p q:Prop):Prop:=p/\(p->q)
abbrev I64 (x:Int):Prop:=(¬x< -9223372036854775808)/\x<9223372036854775808
inductive Dat where
 |int (n:Int)
 |bool (b:Bool)
 |str (s:List UInt8)
 |lst (rows:List (List Dat))
instance : Inhabited Dat:=⟨.int 0⟩
def Dat.toInt (d:Dat):Int:=match d with| .int n=>n|_=>0
def Dat.toBool (d:Dat):Bool:=match d with| .bool b=>b|_=>false
def Dat.toStr (d:Dat):List UInt8:=match d with| .str s=>s|_=>[]
def Dat.rows (d:Dat):List (List Dat):=match d with| .lst l=>l|_=>[]
abbrev Rows:=List (List Dat)
def u5 (L:Rows)(i:Int)(j:Nat):Dat:=(L.getD i.toNat []).getD j (.int 0)
def setAt (L:Rows)(i:Int)(j:Nat)(d:Dat):Rows:=L.modify i.toNat (fun r=>r.set j d)
def part (L:Rows)(a n:Int):Rows:=(L.drop a.toNat).take n.toNat
def over (L:Rows)(a:Int)(l:Rows):Rows:=L.take a.toNat++l++L.drop (a.toNat+l.length)
def chunk (z:Nat):Nat->List Dat->Rows
 |0,_=>[]
 |n+1,l=>l.take z::chunk z n (l.drop z)
inductive KV where
 |i (n:Int)
 |s (l:List UInt8)
 deriving DecidableEq
def KV.dat (k:KV):Dat:=match k with| .i n=>.int n| .s l=>.str l
def Dat.kv (d:Dat):KV:=match d with| .int n=>.i n| .str l=>.s l|_=>.i 0
def aa0 (z:Nat)(r:List Dat):List KV:=(r.take z).map Dat.kv
def mhasR :Rows->List KV->Bool
 | [],_=>false
 |r::L,ks=>decide (aa0 ks.length r=ks)||mhasR L ks
def mgetR :Rows->List KV->Dat->Dat
 | [],_,d=>d
 |r::L,ks,d=>if aa0 ks.length r=ks then r.getD ks.length (.int 0)else mgetR L ks d
def mputR :Rows->List KV->Dat->Rows
 | [],ks,v=>[ks.map KV.dat++ [v]]
 |r::L,ks,v=>if aa0 ks.length r=ks then(ks.map KV.dat++ [v])::L else r::mputR L ks v
def midxR :Rows->List KV->Nat
 | [],_=>0
 |r::L,ks=>if aa0 ks.length r=ks then 0 else midxR L ks+1
def runeAt (l:List UInt8)(i:Int):Int:=(Utf8.decode ⟨l.toArray⟩ i.toNat).1
def runeW (l:List UInt8)(i:Int):Int:=(Utf8.decode ⟨l.toArray⟩ i.toNat).2
inductive Sy where
 |add|sub|mul|tdiv|tmod
 |wrap (k:IntKind)
 |bits (op:BinOp) (k:IntKind)
 |shl (k:IntKind)|shr (k:IntKind)
 |lt|eqi|eqb|eqs|lts
 |not|and|or
 |len|get (j:Nat)|upd (j:Nat)|nil|app|part|over
 |rows (n z:Nat)|rep
 |slen|sidx|sapp|ssub|srune|srw
 |castI|castB|castS|castL
 |mhas|mget|mput|mix
 |user (n:Nat)
inductive E where
 |int (n:Int)
 |bool (c:Bool)
 |str (l:List UInt8)
 |var (n:Nat)
 |dat (n:Nat) (d:Dat)
 |op (o:Sy) (as:List E)
instance : Inhabited E:=⟨.int 0⟩
section
variable (U :Nat->List Dat->Dat)
def Sy.den (o:Sy)(as:List Dat):Dat:=
 match o with
 | .add=>match as with| [a,b]=>.int (a.toInt+b.toInt)|_=>.int 0
 | .sub=>match as with| [a,b]=>.int (a.toInt-b.toInt)|_=>.int 0
 | .mul=>match as with| [a,b]=>.int (a.toInt*b.toInt)|_=>.int 0
 | .tdiv=>match as with| [a,b]=>.int (a.toInt.tdiv b.toInt)|_=>.int 0
 | .tmod=>match as with| [a,b]=>.int (a.toInt.tmod b.toInt)|_=>.int 0
 | .wrap k=>match as with| [a]=>.int (k.wrap a.toInt)|_=>.int 0
 | .bits op k=>match as with| [a,b]=>.int (Go.bits op k a.toInt b.toInt)|_=>.int 0
 | .shl k=>match as with| [a,b]=>.int (k.wrap (a.toInt*2^(min b.toInt.toNat k.bits)))|_=>.int 0
 | .shr k=>match as with| [a,b]=>.int (a.toInt.fdiv (2^(min b.toInt.toNat k.bits)))|_=>.int 0
 | .lt=>match as with| [a,b]=>.bool (decide (a.toInt<b.toInt))|_=>.int 0
 | .eqi=>match as with| [a,b]=>.bool (decide (a.toInt=b.toInt))|_=>.int 0
 | .eqb=>match as with| [a,b]=>.bool (a.toBool==b.toBool)|_=>.int 0
 | .eqs=>match as with| [a,b]=>.bool (a.toStr==b.toStr)|_=>.int 0
 | .lts=>match as with| [a,b]=>.bool (Op.bytesLess a.toStr b.toStr)|_=>.int 0
 | .not=>match as with| [a]=>.bool (!a.toBool)|_=>.int 0
 | .and=>match as with| [a,b]=>.bool (a.toBool&&b.toBool)|_=>.int 0
 | .or=>match as with| [a,b]=>.bool (a.toBool||b.toBool)|_=>.int 0
 | .len=>match as with| [l]=>.int l.rows.length|_=>.int 0
 | .get j=>match as with| [l,i]=>u5 l.rows i.toInt j|_=>.int 0
 | .upd j=>match as with| [l,i,c]=>.lst (setAt l.rows i.toInt j c)|_=>.int 0
 | .nil=>.lst []
 | .app=>match as with| [l,m]=>.lst (l.rows++m.rows)|_=>.int 0
 | .part=>match as with| [l,a,n]=>.lst (Sx.part l.rows a.toInt n.toInt)|_=>.int 0
 | .over=>match as with| [l,a,m]=>.lst (Sx.over l.rows a.toInt m.rows)|_=>.int 0
 | .rows n z=>.lst (chunk z n as)
 | .rep=>match as with|n::cs=>.lst (List.replicate n.toInt.toNat cs)|_=>.int 0
 | .slen=>match as with| [s]=>.int s.toStr.length|_=>.int 0
 | .sidx=>match as with| [s,i]=>.int ((s.toStr.getD i.toInt.toNat 0).toNat:Int)|_=>.int 0
 | .sapp=>match as with| [s,t]=>.str (s.toStr++t.toStr)|_=>.int 0
 | .ssub=>match as with| [s,a,b]=>.str ((s.toStr.take b.toInt.toNat).drop a.toInt.toNat)|_=>.int 0
 | .srune=>match as with| [s,i]=>.int (runeAt s.toStr i.toInt)|_=>.int 0
 | .srw=>match as with| [s,i]=>.int (runeW s.toStr i.toInt)|_=>.int 0
 | .castI=>match as with| [a]=>.int a.toInt|_=>.int 0
 | .castB=>match as with| [a]=>.bool a.toBool|_=>.int 0
 | .castS=>match as with| [a]=>.str a.toStr|_=>.int 0
 | .castL=>match as with| [a]=>.lst a.rows|_=>.int 0
 | .mhas=>match as with|l::ks=>.bool (mhasR l.rows (ks.map Dat.kv))|_=>.int 0
 | .mget=>match as with|l::d::ks=>mgetR l.rows (ks.map Dat.kv) d|_=>.int 0
 | .mput=>match as with|l::v::ks=>.lst (mputR l.rows (ks.map Dat.kv) v)|_=>.int 0
 | .mix=>match as with|l::ks=>.int (midxR l.rows (ks.map Dat.kv):Nat)|_=>.int 0
 | .user n=>U n as
mutual
def E.den :E->Dat
 | .int n=>.int n
 | .bool c=>.bool c
 | .str l=>.str l
 | .var _=>.int 0
 | .dat _ d=>d
 | .op o as=>o.den U (E.dens as)
def E.dens :List E->List Dat
 | []=>[]
 |a::as=>a.den::E.dens as
end
theorem E.dens_eq :∀as:List E,E.dens U as=as.map (E.den U)
 | []=>rfl
 |a::as=>by simp[E.dens,E.dens_eq as]
def E.pr :E->Prop
 | .bool c=>c=true
 | .op .lt [a,b]=>(a.den U).toInt<(b.den U).toInt
 | .op .eqi [a,b]=>(a.den U).toInt=(b.den U).toInt
 | .op .eqs [a,b]=>(a.den U).toStr=(b.den U).toStr
 | .op .not [a]=>¬a.pr
 | .op .and [a,b]=>a.pr/\b.pr
 | .op .or [a,b]=>a.pr\/b.pr
 |e=>(e.den U).toBool=true
theorem E.pr_iff (e:E):e.pr U↔(e.den U).toBool=true:=by
 fun_induction E.pr U e with
 |case1 c=>simp[E.den,Dat.toBool]
 |case2 a b=>simp[E.den,E.dens,Sy.den,Dat.toBool]
 |case3 a b=>simp[E.den,E.dens,Sy.den,Dat.toBool]
 |case4 a b=>simp[E.den,E.dens,Sy.den,Dat.toBool]
 |case5 a j=>simp[E.den,E.dens,Sy.den,Dat.toBool,j]
 |case6 a b f g=>simp[E.den,E.dens,Sy.den,Dat.toBool,f,g]
 |case7 a b f g=>simp[E.den,E.dens,Sy.den,Dat.toBool,f,g]
 |case8 e _ _ _ _ _ _ _=>exact Iff.rfl
def Sy.like :Sy->Sy->Bool
 | .add,.add| .sub,.sub| .mul,.mul| .tdiv,.tdiv| .tmod,.tmod| .lt,.lt| .eqi,.eqi| .eqb,.eqb| .eqs,.eqs| .lts,.lts| .not,.not| .and,.and| .or,.or
 | .len,.len| .nil,.nil| .app,.app| .part,.part| .over,.over| .rep,.rep| .slen,.slen| .sidx,.sidx| .sapp,.sapp| .ssub,.ssub| .srune,.srune| .srw,.srw| .castI,.castI| .castB,.castB| .castS,.castS| .castL,.castL| .mhas,.mhas| .mget,.mget| .mput,.mput| .mix,.mix=>true
 | .shr k,.shr k'=>decide (k=k')
 | .wrap k,.wrap k'=>decide (k=k')
 | .shl k,.shl k'=>decide (k=k')
 | .bits o k,.bits o' k'=>decide (o=o')&&decide (k=k')
 | .get j,.get j'=>Nat.beq j j'
 | .upd j,.upd j'=>Nat.beq j j'
 | .user j,.user j'=>Nat.beq j j'
 | .rows n z,.rows n' z'=>Nat.beq n n'&&Nat.beq z z'
 |_,_=>false
mutual
def E.like :E->E->Bool
 | .int n,.int m=>decide (n=m)
 | .bool p,.bool q=>p==q
 | .str p,.str q=>p==q
 | .var n,.var m=>Nat.beq n m
 | .dat n _,.dat m _=>Nat.beq n m
 | .op o as,.op o' bs=>Sy.like o o'&&E.likes as bs
 |_,_=>false
def E.likes :List E->List E->Bool
 | [],[]=>true
 |a::as,b::bs=>E.like a b&&E.likes as bs
 |_,_=>false
end
inductive So where
 |i|b|s|l
 deriving DecidableEq
inductive Lab where
 |e (c:E)
 |p (name:String) (as:List E)
 |q (a b:E)
 |pt (name:String) (gs:List (List (So×E)))
 |mu (name:String) (g a b:List (So×E))
inductive Tr (α:Type) where
 |ret (a:α)
 |done
 |fail (s:String)
 |br (c:E) (t e:Tr α)
 |need (l:Lab) (p:Prop) (t:Tr α)
 |asm (l:Lab) (p:Prop) (t:Tr α)
 |both (t e:Tr α)
 |all (k:So) (n:Nat) (f:E->Tr α)
def Tr.bind {α β:Type}:Tr α->(α->Tr β)->Tr β
 | .ret a,k=>k a
 | .done,_=>.done
 | .fail s,_=>.fail s
 | .br c t e,k=>.br c (t.bind k) (e.bind k)
 | .need l p t,k=>.need l p (t.bind k)
 | .asm l p t,k=>.asm l p (t.bind k)
 | .both t e,k=>.both (t.bind k) (e.bind k)
 | .all o n f,k=>.all o n fun e=>(f e).bind k
def Tr.vc {α:Type}:Tr α->(α->Prop)->Prop
 | .ret a,Q=>Q a
 | .done,_=>True
 | .fail _,_=>False
 | .br c t e,Q=>(c.pr U->t.vc Q)/\(¬c.pr U->e.vc Q)
 | .need _ p t,Q=>p/\(p->t.vc Q)
 | .asm _ p t,Q=>p->t.vc Q
 | .both t e,Q=>t.vc Q/\e.vc Q
 | .all .i n f,Q=>∀x:Int,(f (.dat n (.int x))).vc Q
 | .all .b n f,Q=>∀x:Bool,(f (.dat n (.bool x))).vc Q
 | .all .s n f,Q=>∀x:List UInt8,(f (.dat n (.str x))).vc Q
 | .all .l n f,Q=>∀x:Rows,(f (.dat n (.lst x))).vc Q
theorem Tr.vc_bind {α g:Type}(t:Tr α)(k:α->Tr g)(Q:g->Prop):(t.bind k).vc U Q↔t.vc U fun a=>(k a).vc U Q:=by
 induction t with
 |ret a=>exact Iff.rfl
 |done=>exact Iff.rfl
 |fail s=>exact Iff.rfl
 |br c t e h1 h2=>simp only[Tr.bind,Tr.vc,h1,h2]
 |need l p t h=>simp only[Tr.bind,Tr.vc,h]
 |asm l p t h=>simp only[Tr.bind,Tr.vc,h]
 |both t e h1 h2=>simp only[Tr.bind,Tr.vc,h1,h2]
 |all k n f h=>cases k<;>simp only[Tr.bind,Tr.vc,h]
theorem Tr.vc_mono {α:Type}(t:Tr α){Q R:α->Prop}(hq:∀a,Q a->R a):t.vc U Q->t.vc U R:=by
 induction t with
 |ret a=>exact hq a
 |done=>exact id
 |fail s=>exact id
 |br c t e h1 h2=>exact fun h=>⟨fun x=>h1 (h.1 x),fun x=>h2 (h.2 x)⟩
 |need l p t h=>exact fun x=>⟨x.1,fun y=>h (x.2 y)⟩
 |asm l p t h=>exact fun x y=>h (x y)
 |both t e h1 h2=>exact fun h=>⟨h1 h.1,h2 h.2⟩
 |all k n f h=>cases k<;>exact fun x y=>h _ (x y)
end
end Go.Sx
namespace Go.Sx
open Go.Xe
inductive Cp where
 |ex (e:E)
 |ge
 |un
inductive SV where
 |any
 |int (k:IntKind) (e:E)
 |bool (e:E)
 |str (e:E)
 |nilp
 |ptr (b z:Nat) (row:E) (fld:Nat)
 |pptr (t:TypeId) (L row:E) (fld:Nat)
 |nils
 |sl (b z:Nat) (off len:E) (cap:Cp)
 |lst (t:TypeId) (L:E) (clip:Bool)
 |agg (l:List SV)
 |tup (l:List SV)
 |fn (f:Fn) (a b:List SV)
 |nilf
 |map (b:Nat)
 |nilm
 |iface (t:TypeId) (v:SV)
 |nili
 |yld (ks:List Nat) (vs:List SV) (g:FuncId) (nt:Nat) (ps:List Nat) (as bo:Code)
instance : Inhabited SV:=⟨.any⟩
def lk {α:Type}:List (Nat×α)->Nat->Option α
 | [],_=>none
 | (k,a)::l,n=>bif Nat.beq k n then some a else lk l n
mutual
def noY :SV->Bool
 | .yld _ _ _ _ _ _ _=>false
 | .agg l=>noYs l
 | .tup l=>noYs l
 | .fn _ a b=>noYs a&&noYs b
 | .iface _ v=>noY v
 |_=>true
def noYs :List SV->Bool
 | []=>true
 |a::l=>noY a&&noYs l
end
inductive Kd where
 |int (k:IntKind)
 |bool
 |str
 |sl (e:TypeId)
 |bad
 deriving DecidableEq
def kd1 (P:Program)(t:TypeId):Kd:=match P.underlying t with
 |some (.int k)=>.int k
 |some .bool=>.bool
 |some .string=>.str
 |some (.slice e)=>.sl e
 |_=>.bad
def kdF (f:TypeId->List Kd):List Field->List Kd
 | []=>[]
 |x::xs=>f x.type++kdF f xs
def kds (P:Program):Nat->TypeId->List Kd
 |0,_=>[.bad]
 |d+1,t=>match P.underlying t with
  |some (.struct fs)=>kdF (kds P d) fs.toList
  |some (.array n e)=>(List.replicate n (kds P d e)).flatten
  |_=>[kd1 P t]
def kf (P:Program)(t:TypeId):List Kd:=kds P 20 t
def bx4 (P:Program)(f:Field):Option Kd:=bif f.name== "_" then none else match P.underlying f.type with
 |some (.int k)=>some (.int k)
 |some .string=>some .str
 |_=>none
def aw5 (P:Program):Nat->List Field->Option (List Kd)
 |_,[]=>some []
 |o,f::fs=>bif Nat.beq f.offset o then match bx4 P f with
  |some k=>match aw5 P (o+1) fs with
   |some ks=>some (k::ks)
   |none=>none
  |none=>none
  else none
def J6 (P:Program)(kt:TypeId):Option (Bool×List Kd):=
 match P.underlying kt with
 |some (.int k)=>some (false,[.int k])
 |some (.struct fs)=>bif P.stoodInHeld kt then none else match aw5 P 0 fs.toList with
  |some ks=>some (true,ks)
  |none=>none
 |_=>none
def kv1 (k:Kd)(x:KV):Value:=match x with
 | .s l=>.string ⟨l.toArray⟩
 | .i n=>match k with| .int k=>.int k n|_=>.int .i64 n
def aa1 :List Kd->List KV->Bool
 | [],[]=>true
 |k::ps,x::ks=>(match k,x with| .int _,.i _=>true| .str,.s _=>true|_,_=>false)&&aa1 ps ks
 |_,_=>false
def V1 (ps:List Kd)(ks:List KV):List Value:=List.zipWith kv1 ps ks
def Y8 (sh:Bool×List Kd)(ks:List KV):Value:=bif sh.1 then .agg (V1 sh.2 ks).toArray else(V1 sh.2 ks).headD undef
inductive n5 where
 |cells (l:List SV) (e z:Nat)
 |rows (L:E) (e z:Nat) (ph:E)
 |map (L:E) (kt vt:TypeId)
 |iter (s pos:E)
structure SS where
 h:List (Nat×Option n5)
 nx:Nat
 fc:List (E×Bool)
 fv:Nat
 fz:List (Nat×E×TypeId×Nat)
def SS.get (s:SS)(b:Nat):Option n5:=match lk s.h b with|some x=>x|none=>none
def SS.set (s:SS)(b:Nat)(x:Option n5):SS:= {s with h:=(b,x)::s.h}
theorem j4 {α:Type}(k n:Nat)(a:α)(l:List (Nat×α)):lk ((k,a)::l) n=if k=n then some a else lk l n:=by
 by_cases h:k=n
 ·rw[bC3 h,lk,l8 h];rfl
 ·rw[bC1 h,lk,n8 h];rfl
theorem M6 {α:Type}{b:Nat}{x:α}:∀ {l:List (Nat×α)},lk l b=some x->(b,x)∈l
 | [],h=>by cases h
 | (k,y)::l,h=>by
  rw[j4]at h;split at h
  ·grind
  ·exact bF9 _ (M6 h)
theorem SS.get_set (s:SS)(b c:Nat)(x:Option n5):(s.set b x).get c=if c=b then x else s.get c:=by
 unfold SS.get SS.set;simp only[j4]
 grind
def arr (b:Blk):Option (T Value×Nat×Nat):=rdC b
def roC (b:Blk)(c zb z:Nat):Prop:=(P4 b=true->c<unk)/\(P4 b=false->zb=z)
theorem roC.mk {b:Blk}{c z:Nat}(h:P4 b=false:=by rfl):roC b c z z:=⟨fun e=>(by rw[h]at e;cases e),fun _=>rfl⟩
def ap8 (l c:Nat):Prop:=(c<unk/\l<=c)\/(∃lo,c=g9 lo 0/\lo<=67108864/\l<=67108864)
section
variable (P :Program)
inductive PV (F : Nat → Option Blk) : Kd → Value → Dat → Prop
 |int (k:IntKind) (n:Int):PV F (.int k) (.int k n) (.int n)
 |bool (b:Bool):PV F .bool (.bool b) (.bool b)
 |str (s:List UInt8):PV F .str (.string ⟨s.toArray⟩) (.str s)
 |nils (e:TypeId):PV F (.sl e) (.slice none 0 0) (.lst [])
 |vague (e:TypeId):PV F (.sl e) (.slice (some ⟨0,0,some 0⟩) 0 unk) (.lst [])
 | sl (e : TypeId) (i o c : Nat) (b : Blk) (cs : T Value) (n z : Nat) {zb : Nat} (rows : Rows) (x : Nat → Nat → Value) (hF : F i = some b) (hb : arr b = some (cs, n, zb)) (hc : ap8 rows.length c ∧ roC b c zb z)
   (hn:o+rows.length*z<=n) (hz:z=(kf P e).length) (hr:∀r∈rows,r.length=z)
   (hx:∀(r k:Nat) (row:List Dat) (d:Dat),rows[r]? =some row->row[k]? =some d->cs.get (o+r*z+k)=some (x r k))
   (hp:∀(r k:Nat) (row:List Dat) (kd:Kd) (d:Dat),rows[r]? =some row->row[k]? =some d->(kf P e)[k]? =some kd->PV F kd (x r k) d):
   PV F (.sl e) (.slice (some ⟨i,o,none⟩) rows.length c) (.lst rows)
def Fle (F F':Nat->Option Blk):Prop:=∀i b,F i=some b->F' i=some b
theorem Fle.refl (F:Nat->Option Blk):Fle F F:=fun _ _ h=>h
variable {F:Nat->Option Blk}
theorem Fle.trans {G H:Nat->Option Blk}(h:Fle F G)(k:Fle G H):Fle F H:=fun i b e=>k i b (h i b e)
variable {F':Nat->Option Blk}{v:Value}
theorem PV.mono (h:Fle F F'){k:Kd}{d:Dat}(p:PV P F k v d):PV P F' k v d:=by
 induction p with
 |int k n=>exact .int k n
 |bool b=>exact .bool b
 |str s=>exact .str s
 |nils e=>exact .nils e
 |vague e=>exact .vague e
 |sl e i o c b cs n z rows x hF hb hc hn hz hr hx _ f=>exact .sl e i o c b cs n z rows x (h _ _ hF) hb hc hn hz hr hx f
abbrev Tau:=Nat->Option (Option (Nat×Nat))
variable (U :Nat->List Dat->Dat)
abbrev E.toI (e:E):Int:=(e.den U).toInt
abbrev E.toN (e:E):Nat:=(e.den U).toInt.toNat
abbrev E.toR (e:E):Rows:=(e.den U).rows
def aB7 (len:E):Cp->Nat->Prop
 | .ex e,c=>0<=e.toI U/\c=e.toN U/\c<unk/\len.toI U<=e.toI U
 | .ge,c=>∃lo,c=g9 lo 0/\lo<=67108864/\len.toI U<=67108864
 | .un,c=>(c<unk/\c=len.toN U/\len.toI U<=67108864)\/ ∃lo,c=g9 lo 0/\lo<=67108864/\len.toI U<=67108864
inductive VD (τ : Tau) (F : Nat → Option Blk) : SV → Value → Prop
 |any (v:Value):VD τ F .any v
 |int (k:IntKind) (e:E):VD τ F (.int k e) (.int k (e.toI U))
 |bool (e:E):VD τ F (.bool e) (.bool (e.den U).toBool)
 |str (e:E):VD τ F (.str e) (.string ⟨(e.den U).toStr.toArray⟩)
 |nilp:VD τ F .nilp (.pointer none)
 |ptr (b z:Nat) (row:E) (fld i o:Nat) (h:τ b=some (some (i,o))) (h0:0<=row.toI U):VD τ F (.ptr b z row fld) (.pointer (some ⟨i,o+row.toN U*z+fld,none⟩))
 | pptr (t : TypeId) (L row : E) (fld i o l c : Nat) (h : PV P F (.sl t) (.slice (some ⟨i, o, none⟩) l c) (.lst (L.toR U))) (h0 : 0 ≤ row.toI U) (h1 : row.toI U < (L.toR U).length) :
   VD τ F (.pptr t L row fld) (.pointer (some ⟨i,o+row.toN U*(kf P t).length+fld,none⟩))
 |nils:VD τ F .nils (.slice none 0 0)
 | sl (b z : Nat) (off len : E) (cap : Cp) (i o c : Nat) (h : τ b = some (some (i, o))) (h0 : 0 ≤ off.toI U) (h1 : 0 ≤ len.toI U) (hc : aB7 U len cap c) :
   VD τ F (.sl b z off len cap) (.slice (some ⟨i,o+off.toN U*z,none⟩) (len.toN U) c)
 |sl0 (b z:Nat) (off len:E) (cap:Cp) (h:τ b=some none) (h0:off.toI U=0) (h1:len.toI U=0) (hc:∀e,cap= .ex e->e.toI U=0):VD τ F (.sl b z off len cap) (.slice none 0 0)
 |lst (t:TypeId) (L:E) (clip:Bool) (v:Value) (h:PV P F (.sl t) v (.lst (L.toR U))) (hc:clip=true-> ∃a l,v= .slice a l l):VD τ F (.lst t L clip) v
 |agg (l:List SV) (xs:List Value) (h1:l.length=xs.length) (h2:∀(i:Nat) a x,l[i]? =some a->xs[i]? =some x->VD τ F a x):VD τ F (.agg l) (.agg xs.toArray)
 |tup (l:List SV) (xs:List Value) (h1:l.length=xs.length) (h2:∀(i:Nat) a x,l[i]? =some a->xs[i]? =some x->VD τ F a x):VD τ F (.tup l) (.tuple xs.toArray)
 | fn (f : Fn) (l m : List SV) (xs ys : List Value) (h1 : l.length = xs.length) (h2 : ∀ (i : Nat) a x, l[i]? = some a → xs[i]? = some x → VD τ F a x)
   (h3:m.length=ys.length) (h4:∀(i:Nat) a x,m[i]? =some a->ys[i]? =some x->VD τ F a x):VD τ F (.fn f l m) (.func f xs.toArray ys.toArray)
 |nilf:VD τ F .nilf .nilFunc
 |map (b i o:Nat) (h:τ b=some (some (i,o))):VD τ F (.map b) (.map (some i))
 |nilm:VD τ F .nilm (.map none)
 |iface (t:TypeId) (v:SV) (x:Value) (h:VD τ F v x):VD τ F (.iface t v) (.iface t x)
 |nili:VD τ F .nili .nilIface
 | yld (ks : List Nat) (vs : List SV) (g : FuncId) (nt : Nat) (ps : List Nat) (as bo : Code) (i : Nat) (tms : T Value) (pr : Array Tmp) (db : Nat) (hF : F i = some (.loop .ready none nt tms pr as bo db)) (hp : pr.toList = ps)
   (h:∀k a,lk (ks.zip vs) k=some a->VD τ F a ((tms.get k).getD undef)):VD τ F (.yld ks vs g nt ps as bo) (.chan (some i))
def Tle (τ τ':Tau):Prop:=∀b p,τ b=some p->τ' b=some p
theorem Tle.refl (τ:Tau):Tle τ τ:=fun _ _ h=>h
theorem Tle.trans {a b c:Tau}(h:Tle a b)(k:Tle b c):Tle a c:=fun i p e=>k i p (h i p e)
variable {P U}
variable {τ:Tau}
theorem VD.mono {τ':Tau}(ht:Tle τ τ')(h:Fle F F'){s:SV}(p:VD P U τ F s v):VD P U τ' F' s v:=by
 induction p with
 |any v=>exact .any v
 |int k e=>exact .int k e
 |bool e=>exact .bool e
 |str e=>exact .str e
 |nilp=>exact .nilp
 |ptr b z row fld i o k h0=>exact .ptr b z row fld i o (ht _ _ k) h0
 |pptr t L row fld i o l c k h0 h1=>exact .pptr t L row fld i o l c (k.mono P h) h0 h1
 |nils=>exact .nils
 |sl b z off len cap i o c k h0 h1 hc=>exact .sl b z off len cap i o c (ht _ _ k) h0 h1 hc
 |sl0 b z off len cap k h0 h1 hc=>exact .sl0 b z off len cap (ht _ _ k) h0 h1 hc
 |lst t L clip v k hc=>exact .lst t L clip v (k.mono P h) hc
 |agg l xs h1 _ j=>exact .agg l xs h1 j
 |tup l xs h1 _ j=>exact .tup l xs h1 j
 |fn f l m xs ys h1 _ h3 _ q r=>exact .fn f l m xs ys h1 q h3 r
 |nilf=>exact .nilf
 |map b i o k=>exact .map b i o (ht _ _ k)
 |nilm=>exact .nilm
 |iface t v x _ j=>exact .iface t v x j
 |nili=>exact .nili
 |yld ks vs g nt ps as bo i tms pr db hF hp _ j=>exact .yld ks vs g nt ps as bo i tms pr db (h _ _ hF) hp j
theorem PV.sub (h:∀i y,F i=some y->(arr y).isSome=true->F' i=some y){k:Kd}{d:Dat}(p:PV P F k v d):PV P F' k v d:=by
 induction p with
 |int k n=>exact .int k n
 |bool b=>exact .bool b
 |str s=>exact .str s
 |nils e=>exact .nils e
 |vague e=>exact .vague e
 |sl e i o c b cs n z rows x hF hb hc hn hz hr hx _ f=>exact .sl e i o c b cs n z rows x (h _ _ hF (by rw[hb];rfl)) hb hc hn hz hr hx f
theorem O6 :∀ {l:List SV} {i:Nat} {a:SV},noYs l=true->l[i]? =some a->noY a=true
 | [],i,a,_,h=>by simp at h
 |b::l,i,a,hn,h=>by
  unfold noYs at hn;rw[bA2]at hn;cases i with
  |zero=>grind
  |succ i=>simp only[bB2]at h;exact O6 hn.2 h
theorem VD.sub (p:Bool)(h:∀i y,F i=some y->((arr y).isSome=true\/p=true/\y≠ .dfr)->F' i=some y){s:SV}(C:VD P U τ F s v)(hn:p=true\/noY s=true):VD P U τ F' s v:=by
 have B:∀i y,F i=some y->(arr y).isSome=true->F' i=some y:=fun i y h1 h2=>h i y h1 (.inl h2)
 induction C with
 |any v=>exact .any v
 |int k e=>exact .int k e
 |bool e=>exact .bool e
 |str e=>exact .str e
 |nilp=>exact .nilp
 |ptr b z row fld i o k h0=>exact .ptr b z row fld i o k h0
 |pptr t L row fld i o l c k h0 h1=>exact .pptr t L row fld i o l c (k.sub B) h0 h1
 |nils=>exact .nils
 |sl b z off len cap i o c k h0 h1 hc=>exact .sl b z off len cap i o c k h0 h1 hc
 |sl0 b z off len cap k h0 h1 hc=>exact .sl0 b z off len cap k h0 h1 hc
 |lst t L clip v k hc=>exact .lst t L clip v (k.sub B) hc
 |agg l xs h1 _ q=>exact .agg l xs h1 fun i a x j hx=>q i a x j hx (hn.imp id fun k=>O6 (by unfold noY at k;exact k) j)
 |tup l xs h1 _ q=>exact .tup l xs h1 fun i a x j hx=>q i a x j hx (hn.imp id fun k=>O6 (by unfold noY at k;exact k) j)
 |fn f l m xs ys h1 _ h3 _ w A=>
  have r:p=true\/noYs l=true/\noYs m=true:=hn.imp id fun k=>by unfold noY at k;rwa[bA2]at k
  exact .fn f l m xs ys h1 (fun i a x j hx=>w i a x j hx (r.imp id fun k=>O6 k.1 j)) h3 fun i a x j hx=>A i a x j hx (r.imp id fun k=>O6 k.2 j)
 |nilf=>exact .nilf
 |map b i o k=>exact .map b i o k
 |nilm=>exact .nilm
 |iface t v x _ q=>exact .iface t v x (q (hn.imp id fun k=>by unfold noY at k;exact k))
 |nili=>exact .nili
 |yld ks vs g nt ps as bo i tms pr db hF hp _ q=>
  rcases hn with hn|hn
  ·exact .yld ks vs g nt ps as bo i tms pr db (h _ _ hF (.inr ⟨hn,by simp⟩)) hp fun k a j=>q k a j (.inl hn)
  ·unfold noY at hn;cases hn
variable (P U)
def VDL (τ:Tau)(F:Nat->Option Blk)(l:List SV)(xs:List Value):Prop:=l.length=xs.length/\ ∀(i:Nat) a x,l[i]? =some a->xs[i]? =some x->VD P U τ F a x
def j7 (F:Nat->Option Blk)(e:TypeId)(z o n:Nat)(cs:T Value)(rows:Rows):Prop:=
 o+rows.length*z<=n/\z=(kf P e).length/\(∀r∈rows,r.length=z)/\
 ∀(r k:Nat) (row:List Dat) (d:Dat),rows[r]? =some row->row[k]? =some d-> ∃x,cs.get (o+r*z+k)=some x/\ ∀kd,(kf P e)[k]? =some kd->PV P F kd x d
def N0 (F:Nat->Option Blk)(kt vt:TypeId)(es:List (Value×Value))(rows:Rows):Prop:=
 es.length=rows.length/\ ∀(j:Nat) row e,rows[j]? =some row->es[j]? =some e-> ∃sh ks d,J6 P kt=some sh/\aa1 sh.2 ks=true/\row=ks.map KV.dat++ [d]/\e.1=Y8 sh ks/\PV P F (kd1 P vt) e.2 d
def BD (τ:Tau)(F:Nat->Option Blk)(o:Nat):n5->Blk->Prop
 | .cells l e z,b=>∃cs n,b= .cells cs n e z/\o+l.length<=n/\ ∀(j:Nat) a,l[j]? =some a-> ∃x,cs.get (o+j)=some x/\VD P U τ F a x
 | .rows L e z ph,b=>∃cs n,b= .cells cs n e z/\j7 P F e z o n cs (L.toR U)/\o+ph.toN U*z<=n
 | .map L kt vt,b=>o=0/\ ∃es reg,b= .map es reg/\reg=true/\N0 P F kt vt es (L.toR U)
 | .iter s pos,b=>o=0/\ ∃n:Nat,b= .sit ⟨(s.den U).toStr.toArray⟩ n/\pos.toI U=n
def be4 (τ:Tau)(F:Nat->Option Blk)(r:Nat×E×TypeId×Nat):Prop:=
 (∃i o cs n,τ r.1=some (some (i,o))/\F i=some (.cells cs n r.2.2.1 r.2.2.2)/\j7 P F r.2.2.1 r.2.2.2 o n cs (r.2.1.toR U))\/(τ r.1=some none/\r.2.1.toR U=[])
structure SD (τ:Tau)(F:Nat->Option Blk)(s:SS)(hp:Hp):Prop where
 live:∀b x,s.get b=some x->(∃i o y,τ b=some (some (i,o))/\hp.m.get i=some y/\F i=none/\BD P U τ F o x y)\/
  (τ b=some none/\ ∃L e z ph,x= .rows L e z ph/\L.toR U=[]/\z=(kf P e).length/\ph.toI U<=0)
 inj:∀b c x y i o j q,s.get b=some x->s.get c=some y->b≠c->τ b=some (some (i,o))->τ c=some (some (j,q))->i≠j
 frz:∀i b,F i=some b->hp.m.get i=some b
 lt:∀b i o,τ b=some (some (i,o))->i<hp.nx
 flt:∀i b,F i=some b->i<hp.nx
 new:∀b,s.nx<=b->τ b=none
 fc:∀c t,(c,t)∈s.fc->(c.den U).toBool=t
 fz:∀r∈s.fz,be4 P U τ F r
def nyS (s:SS):Bool:=s.h.all fun p=>match p.2 with
 |some (.cells l _ _)=>noYs l
 |_=>true
variable {P U}
theorem BD.sub (p:Bool)(h:∀i y,F i=some y->((arr y).isSome=true\/p=true/\y≠ .dfr)->F' i=some y){o:Nat}{x:n5}{y:Blk}(hb:BD P U τ F o x y)(hn:p=true\/ ∀l e z,x= .cells l e z->noYs l=true):BD P U τ F' o x y:=by
 have c:∀i y,F i=some y->(arr y).isSome=true->F' i=some y:=fun i y h1 h2=>h i y h1 (.inl h2)
 cases x with
 |cells l e z=>
  obtain⟨cs,n,h1,h2,h3⟩:=hb;exact⟨cs,n,h1,h2,fun j a f=>let⟨x,k1,k2⟩:=h3 j a f;⟨x,k1,k2.sub p h (hn.imp id fun k=>O6 (k l e z rfl) f)⟩⟩
 |rows L e z ph=>
  obtain⟨cs,n,h1,⟨h2,h3,h4,h5⟩,g⟩:=hb;exact⟨cs,n,h1,⟨h2,h3,h4,fun r k row d hr hd=>let⟨x,k1,k2⟩:=h5 r k row d hr hd;⟨x,k1,fun kd hk=>(k2 kd hk).sub c⟩⟩,g⟩
 |map L kt vt=>
  obtain⟨h0,es,reg,h1,hr,h2,h3⟩:=hb;exact⟨h0,es,reg,h1,hr,h2,fun j row e hr he=>let⟨w,ks,d,k1,k2,k3,m,q⟩:=h3 j row e hr he;⟨w,ks,d,k1,k2,k3,m,q.sub c⟩⟩
 |iter s pos=>exact hb
theorem SD.sub   {s : SS} {hp hp' : Hp} (hs : SD P U τ F s hp) (p : Bool) (h : ∀ i y, F i = some y → ((arr y).isSome = true ∨ p = true ∧ y ≠ .dfr) → F' i = some y) (hn : p = true ∨ nyS s = true)
  (c:hp.nx<=hp'.nx) (hm:∀b x i o,s.get b=some x->τ b=some (some (i,o))->hp'.m.get i=hp.m.get i/\F' i=none) (hf:∀i y,F' i=some y->hp'.m.get i=some y/\i<hp'.nx):SD P U τ F' s hp':=by
 refine⟨fun b x hb=>?_,hs.inj,fun i y hy=>(hf i y hy).1,fun b i o hb=>bF3 (hs.lt b i o hb) c,fun i y hy=>(hf i y hy).2,hs.new,hs.fc,fun r hr=>?_⟩
 ·rcases hs.live b x hb with⟨i,o,y,h1,h2,h3,h4⟩|h1
  ·obtain⟨k1,k2⟩:=hm b x i o hb h1
   refine .inl ⟨i,o,y,h1,by rw[k1];exact h2,k2,h4.sub p h (hn.imp id fun k l e z hx=>?_)⟩
   unfold nyS at k;rw[bD1]at k;subst hx;unfold SS.get at hb;split at hb
   ·rename_i q hq
    subst hb;exact k _ (M6 hq)
   ·cases hb
  ·grind
 ·rcases hs.fz r hr with⟨i,o,cs,n,h1,h2,h3,h4,h5,f⟩|h1
  ·exact .inl ⟨i,o,cs,n,h1,h _ _ h2 (.inl rfl),h3,h4,h5,fun a k row d hr hd=>let⟨x,k1,k2⟩:=f a k row d hr hd;⟨x,k1,fun kd hk=>(k2 kd hk).sub fun i y h1 h2=>h i y h1 (.inl h2)⟩⟩
  ·exact .inr h1
end
end Go.Sx
namespace Go.Sx
open Go.Xe
def l9 (a b:E):E:=match a,b with
 | .int m,.int n=>.int (m+n)
 | .int m,b=>bif decide (m=0)then b else .op .add [b,.int m]
 | .op .add [x,.int m],.int n=>bif decide (m+n=0)then x else .op .add [x,.int (m+n)]
 |a,.int n=>bif decide (n=0)then a else .op .add [a,.int n]
 |a,b=>.op .add [a,b]
def J2 (a b:E):E:=match b with
 | .int n=>l9 a (.int (-n))
 |b=>.op .sub [a,b]
def bn2 (a b:E):E:=match a,b with
 | .int m,.int n=>.int (m*n)
 |a,b=>.op .mul [a,b]
def k9 (a:E):E:=match a with
 | .bool c=>.bool (!c)
 | .op .not [x]=>x
 |a=>.op .not [a]
def l6 (a b:E):E:=match a,b with
 | .int m,.int n=>.bool (decide (m<n))
 |a,b=>.op .lt [a,b]
def A3 (a b:E):E:=match a,b with
 | .int m,.int n=>.bool (decide (m=n))
 |a,b=>.op .eqi [a,b]
def bb3 (a b:E):E:=match a,b with
 | .bool p,b=>bif p then b else k9 b
 |a,.bool p=>bif p then a else k9 a
 |a,b=>.op .eqb [a,b]
def aj7 (a b:E):E:=match a,b with
 | .str p,.str q=>.bool (p==q)
 |a,b=>.op .eqs [a,b]
def bb2 (a b:E):E:=match a,b with
 | .bool p,b=>bif p then b else .bool false
 |a,.bool p=>bif p then a else .bool false
 |a,b=>.op .and [a,b]
def mkOr (a b:E):E:=match a,b with
 | .bool p,b=>bif p then .bool true else b
 |a,.bool p=>bif p then .bool true else a
 |a,b=>.op .or [a,b]
def aF1 :Nat->E->E
 |0,L=>.op .len [L]
 |d+1,L=>match L with
  | .op .nil _=>.int 0
  | .op (.rows n _) _=>.int n
  | .op .app [a,b]=>l9 (aF1 d a) (aF1 d b)
  | .op (.upd _) [a,_,_]=>aF1 d a
  |L=>.op .len [L]
def i9 (L:E):E:=aF1 50 L
def bb4 :Nat->Nat->E->E->E
 |0,j,L,r=>.op (.get j) [L,r]
 |d+1,j,L,r=>match L with
  | .op (.upd j') [a,i,c]=>bif Nat.beq j j' then .op (.get j) [.op (.upd j') [a,i,c],r]else bb4 d j a r
  |L=>.op (.get j) [L,r]
def aN3 (j:Nat)(L r:E):E:=bb4 50 j L r
def N1 (a b:E):E:=match a,b with
 | .op .nil _,b=>b
 |a,.op .nil _=>a
 |a,b=>.op .app [a,b]
section
variable {U :Nat->List Dat->Dat}
theorem o6 (n:Int):(E.int n).toI U=n:=rfl
theorem f7 (a b:E):(l9 a b).toI U=a.toI U+b.toI U:=by
 unfold l9;split
 ·rfl
 ·rename_i b m _
  by_cases h:m=0
  ·subst h;simp only[bF7,bB8];exact(Int.zero_add _).symm
  ·simp only[h,decide_false,bB9];exact Int.add_comm _ _
 ·rename_i x m n
  by_cases h:m+n=0
  ·simp only[h,bF7,bB8];show _=(x.toI U+m)+n;omega
  ·simp only[h,decide_false,bB9];show x.toI U+(m+n)=(x.toI U+m)+n;omega
 ·rename_i a n _ _
  by_cases h:n=0
  ·subst h;simp only[bF7,bB8];show _=_+0;omega
  ·simp only[h,decide_false,bB9];rfl
 ·rfl
theorem j5 (a b:E):(J2 a b).toI U=a.toI U-b.toI U:=by
 unfold J2;split
 ·rename_i n;rw[f7];show _+ -n=_-n;omega
 ·rfl
theorem bf7 (a b:E):(bn2 a b).toI U=a.toI U*b.toI U:=by
 unfold bn2;split<;>rfl
theorem u7 (a:E):((k9 a).den U).toBool= !(a.den U).toBool:=by
 unfold k9;split
 ·rfl
 ·rename_i x;show _= !(!(x.den U).toBool);simp
 ·rfl
theorem s9 (a b:E):((l6 a b).den U).toBool=decide (a.toI U<b.toI U):=by
 unfold l6;split<;>rfl
theorem D7 (a b:E):((A3 a b).den U).toBool=decide (a.toI U=b.toI U):=by
 unfold A3;split<;>rfl
theorem J7 (a b:E):((aj7 a b).den U).toBool=((a.den U).toStr==(b.den U).toStr):=by
 unfold aj7;split<;>rfl
theorem aE9 (a b:E):((bb3 a b).den U).toBool=((a.den U).toBool==(b.den U).toBool):=by
 unfold bb3;split
 ·rename_i b p;cases p
  ·simp only[bB9,u7];show _=(false==_);simp
  ·simp only[bB8];show _=(true==_);simp
 ·rename_i a p _;cases p
  ·simp only[bB9,u7];show _=(_==false);simp
  ·simp only[bB8];show _=(_==true);simp
 ·rfl
theorem aE8 (a b:E):((bb2 a b).den U).toBool=((a.den U).toBool&&(b.den U).toBool):=by
 unfold bb2;split
 ·rename_i b p;cases p
  ·rfl
  ·show _=(true&&_);simp
 ·rename_i a p _;cases p
  ·show false=(_&&false);simp
  ·show _=(_&&true);simp
 ·rfl
theorem aO5 (a b:E):((mkOr a b).den U).toBool=((a.den U).toBool|| (b.den U).toBool):=by
 unfold mkOr;split
 ·rename_i b p;cases p
  ·show _=(false||_);simp
  ·rfl
 ·rename_i a p _;cases p
  ·show _=(_||false);simp
  ·show true=(_||true);simp
 ·rfl
theorem D5 (z:Nat):∀(n:Nat) (l:List Dat),(chunk z n l).length=n
 |0,_=>rfl
 |n+1,l=>by simp[chunk,D5 z n]
theorem ac4 :∀(d:Nat) (L:E),(aF1 d L).toI U=((L.toR U).length:Int)
 |0,L=>rfl
 |d+1,L=>by
  unfold aF1;split
  ·rfl
  ·rename_i n z as;show(n:Int)=((chunk z n _).length:Int);rw[D5]
  ·rename_i a b;rw[f7,ac4 d a,ac4 d b]
   show _=(((a.toR U)++(b.toR U)).length:Int);simp
  ·rename_i j a i c;rw[ac4 d a]
   show _=((setAt (a.toR U) _ j _).length:Int);simp[setAt]
  ·rfl
theorem c9 (L:E):(i9 L).toI U=((L.toR U).length:Int):=ac4 50 L
theorem as3 (L:Rows)(i r:Int){j j':Nat}(d:Dat)(h:j≠j'):u5 (setAt L i j' d) r j=u5 L r j:=by
 unfold u5 setAt
 grind
theorem aF0 :∀(d j:Nat) (L r:E),(bb4 d j L r).den U=u5 (L.toR U) (r.toI U) j
 |0,j,L,r=>rfl
 |d+1,j,L,r=>by
  unfold bb4;split
  ·rename_i j' a i c
   by_cases h:j=j'
   ·rw[l8 h];rfl
   ·rw[n8 h,bB9,aF0 d j a r]
    exact(as3 _ _ _ _ h).symm
  ·rfl
theorem aw2 (j:Nat)(L r:E):(aN3 j L r).den U=u5 (L.toR U) (r.toI U) j:=aF0 50 j L r
theorem T4 (a b:E):(N1 a b).toR U=a.toR U++b.toR U:=by
 unfold N1;split
 ·rfl
 ·show _=_++([]:Rows);simp
 ·rfl
def FT (U:Nat->List Dat->Dat)(l:List (E×Bool)):Prop:=∀c t,(c,t)∈l->(c.den U).toBool=t
def M (α:Type):=SS->Tr (α×SS)
def b9 {α:Type}(a:α):M α:=fun s=>.ret (a,s)
def a6 {α:Type}(t:String):M α:=fun _=>.fail t
def a7 {α β:Type}(m:M α)(k:α->M β):M β:=fun s=>(m s).bind fun x=>k x.1 x.2
def i7 {α:Type}(k:SS->M α):M α:=fun s=>k s s
def ae2 {α:Type}(t:String)(x:Option α):M α:=match x with|some a=>b9 a|none=>a6 t
def addF (s:SS)(c:E)(t:Bool):SS:= {s with fc:=(c,t)::s.fc}
variable (U) in
def i3 (c:E):M Unit:=fun s=>match c with
 | .bool true=>.ret ((),s)
 |c=>.need (.e c) (c.pr U) (.ret ((),addF s c true))
def bl6 :List (E×Bool)->E->Option Bool
 | [],_=>none
 | (d,t)::l,c=>bif E.like d c then some t else bl6 l c
variable (U) in
def testA (c:E):M Bool:=fun s=>match c with
 | .bool b=>.ret (b,s)
 |c=>match bl6 s.fc c with
  |some true=>.need (.e c) (c.pr U) (.ret (true,s))
  |some false=>.need (.e (k9 c)) (¬c.pr U) (.ret (false,s))
  |none=>.br c (.ret (true,addF s c true)) (.ret (false,addF s c false))
variable (U) in
def testF :Nat->E->M Bool
 |0,c=>testA U c
 |d+1,c=>match c with
  | .op .not [a]=>a7 (testF d a) fun t=>b9 (!t)
  | .op .and [a,b]=>a7 (testF d a) fun t=>bif t then testF d b else b9 false
  | .op .or [a,b]=>a7 (testF d a) fun t=>bif t then b9 true else testF d b
  |c=>testA U c
variable (U) in
def aa4 (c:E):M Bool:=testF U 20 c
structure O1 (s s':SS):Prop where
 h:s'.h=s.h
 nx:s'.nx=s.nx
 fc:∃l,s'.fc=l++s.fc
 fz:s'.fz=s.fz
theorem O1.refl (s:SS):O1 s s:=⟨rfl,rfl,⟨[],rfl⟩,rfl⟩
theorem O1.trans {a b c:SS}(h:O1 a b)(k:O1 b c):O1 a c:=
 ⟨k.h.trans h.h,k.nx.trans h.nx,by obtain⟨l,e⟩:=h.fc;obtain⟨m,e'⟩:=k.fc;exact⟨m++l,by rw[e',e,bB5]⟩,k.fz.trans h.fz⟩
theorem O1.addF (s:SS)(c:E)(t:Bool):O1 s (addF s c t):=⟨rfl,rfl,⟨[(c,t)],rfl⟩,rfl⟩
variable {s:SS}
theorem O1.get {s':SS}(h:O1 s s')(b:Nat):s'.get b=s.get b:=by unfold SS.get;rw[h.h]
variable (U) in
def OKp {α:Type}(m:M α)(s:SS)(R:α->Prop):Prop:=
 ∀Q,(m s).vc U Q->FT U s.fc-> ∃a s',Q (a,s')/\O1 s s'/\FT U s'.fc/\R a
theorem OKp.ret {α:Type}{a:α}{R:α->Prop}(h:R a):OKp U (b9 a) s R:=fun _ hq hf=>⟨a,s,hq,O1.refl s,hf,h⟩
variable {t:String}
theorem OKp.fail {α:Type}{R:α->Prop}:OKp U (a6 t:M α) s R:=fun _ hq _=>hq.elim
theorem OKp.bind {α f:Type}{m:M α}{k:α->M f}{R:α->Prop}{c:f->Prop}(h:OKp U m s R)(hk:∀a s',O1 s s'->FT U s'.fc->R a->OKp U (k a) s' c):OKp U (a7 m k) s c:=by
 intro Q hq hf;unfold a7 at hq;rw[Tr.vc_bind]at hq;obtain⟨a,s1,h1,h2,h3,h4⟩:=h _ hq hf;obtain⟨b,s2,h5,g,j,p⟩:=hk a s1 h2 h3 h4 Q h1 h3;exact⟨b,s2,h5,h2.trans g,j,p⟩
theorem OKp.mono {α:Type}{m:M α}{R c:α->Prop}(h:OKp U m s R)(hr:∀a,R a->c a):OKp U m s c:=by
 intro Q hq hf;obtain⟨a,s1,h1,h2,h3,h4⟩:=h Q hq hf
 grind
theorem OKp.opt {α:Type}{x:Option α}{R:α->Prop}(h:∀a,x=some a->R a):OKp U (ae2 t x) s R:=by
 cases x with
 |none=>exact OKp.fail
 |some a=>exact OKp.ret (h a rfl)
theorem OKp.read {α:Type}{k:SS->M α}{R:α->Prop}(h:OKp U (k s) s R):OKp U (i7 k) s R:=h
theorem FT.cons {l:List (E×Bool)}{c:E}{t:Bool}(h:FT U l)(hc:(c.den U).toBool=t):FT U ((c,t)::l):=by
 intro d u hd
 rcases bD9.1 hd with e|e
 ·grind
 ·exact h d u e
theorem aW2 {c:E}(h:¬c.pr U):(c.den U).toBool=false:=by
 rw[E.pr_iff]at h;simpa using h
theorem OKp.need {c:E}:OKp U (i3 U c) s fun _=>c.pr U:=by
 intro Q hq hf;unfold i3 at hq;split at hq
 ·exact⟨(),s,hq,O1.refl s,hf,rfl⟩
 ·obtain⟨h1,h2⟩:=hq
  exact⟨(),_,h2 h1,O1.addF s _ _,hf.cons ((E.pr_iff U _).1 h1),h1⟩
theorem OKp.testA {c:E}{s:SS}:OKp U (testA U c) s fun t=>(c.den U).toBool=t:=by
 intro Q hq hf;unfold Sx.testA at hq;split at hq
 ·exact⟨_,s,hq,O1.refl s,hf,rfl⟩
 ·split at hq
  ·exact⟨true,s,hq.2 hq.1,O1.refl s,hf,(E.pr_iff U _).1 hq.1⟩
  ·exact⟨false,s,hq.2 hq.1,O1.refl s,hf,aW2 hq.1⟩
  ·by_cases h:c.pr U
   ·exact⟨true,_,hq.1 h,O1.addF s _ _,hf.cons ((E.pr_iff U _).1 h),(E.pr_iff U _).1 h⟩
   ·exact⟨false,_,hq.2 h,O1.addF s _ _,hf.cons (aW2 h),aW2 h⟩
theorem OKp.testF :∀(d:Nat) (c:E) (s:SS),OKp U (testF U d c) s fun t=>(c.den U).toBool=t
 |0,c,s=>OKp.testA
 |d+1,c,s=>by
  unfold Sx.testF;split
  ·rename_i a
   refine(OKp.testF d a s).bind fun t s' _ _ h=>OKp.ret ?_
   show(!(a.den U).toBool)= !t;rw[h]
  ·rename_i a b
   refine(OKp.testF d a s).bind fun t s' _ _ h=>?_
   cases t with
   |true=>exact(OKp.testF d b s').mono fun u f=>by show((a.den U).toBool&&(b.den U).toBool)=u;rw[h,f];rfl
   |false=>exact OKp.ret (by show((a.den U).toBool&&(b.den U).toBool)=false;rw[h];rfl)
  ·rename_i a b
   refine(OKp.testF d a s).bind fun t s' _ _ h=>?_
   cases t with
   |true=>exact OKp.ret (by show((a.den U).toBool|| (b.den U).toBool)=true;rw[h];rfl)
   |false=>exact(OKp.testF d b s').mono fun u f=>by show((a.den U).toBool|| (b.den U).toBool)=u;rw[h,f];rfl
  ·exact OKp.testA
theorem OKp.test {c:E}:OKp U (aa4 U c) s fun t=>(c.den U).toBool=t:=OKp.testF 20 c s
end
end Go.Sx
namespace Go.Sx
open Go.Xe
abbrev Fm:=List (Nat×SV)
def V9 :Value->SV
 | .bool b=>.bool (.bool b)
 | .int k n=>.int k (.int n)
 | .string s=>.str (.str s.data.toList)
 | .pointer none=>.nilp
 | .slice none 0 0=>.nils
 | .map none=>.nilm
 | .nilFunc=>.nilf
 | .nilIface=>.nili
 |_=>.any
def aX3 :Value->SV
 | .agg cs=>.agg (cs.toList.map V9)
 | .tuple vs=>.tup (vs.toList.map V9)
 |v=>V9 v
def f6 (f:Fm):Operand->Option SV
 | .tmp t=>some ((lk f t).getD .any)
 | .const v=>bif cst v then some (aX3 v)else none
 | .global _=>none
 | .func g=>some (.fn (.func g) [] [])
def aQ9 (f:Fm):List Operand->Option (List SV)
 | []=>some []
 |x::xs=>match f6 f x with
  |some v=>match aQ9 f xs with
   |some vs=>some (v::vs)
   |none=>none
  |none=>none
def ab3 (f:Fm):List (Nat×Operand)->Option (List (Nat×SV))
 | []=>some []
 | (i,x)::xs=>match f6 f x with
  |some v=>match ab3 f xs with
   |some vs=>some ((i,v)::vs)
   |none=>none
  |none=>none
def o8 :SV->Option (List SV)
 | .any=>none
 | .yld _ _ _ _ _ _ _=>none
 | .agg l=>some l
 |v=>some [v]
def aG4 (P : Program) (t : TypeId) (cs : List SV) (off : Nat) : Option SV :=
 match P.underlying t with
 |none=>none
 | some d => bif ae1 d then
   match P.info? t with
   |some i=>some (.agg ((cs.drop off).take i.size))
   |none=>none
  else cs[off]?
def aX4 (P:Program)(xt:TypeId)(x:SV)(f:Nat):Option SV:=
 match P.underlying xt with
 |some (.struct fs)=>match fs.toList[f]? with
  |some fd=>match x with
   | .agg cs=>aG4 P fd.type cs fd.offset
   |_=>none
  |none=>none
 |_=>none
def az0 (x:SV)(i:Nat):Option SV:=
 match x with
 | .tup vs=>vs[i]?
 |_=>none
def H7 (cells:List SV)(off:Nat)(vs:List SV):List SV:=cells.take off++vs++cells.drop (off+vs.length)
def ar0 (place:Nat->Option (Nat×Nat))(cells:List SV):List (Nat×SV)->Option (List SV)
 | []=>some cells
 | (i,v)::rest=>match place i with
  |none=>none
  |some (off,size)=>match o8 v with
   |none=>none
   |some vs=>bif Nat.beq vs.length size&&Nat.ble (off+size) cells.length then ar0 place (H7 cells off vs) rest else none
def ab4 (P:Program)(t:TypeId):Option (List SV):=match E1 P t with
 |some z=>some (z.cells.toList.map V9)
 |none=>none
def aX2 (P:Program)(t:TypeId)(parts:List (Nat×SV)):Option SV:=
 match ab4 P t with
 |none=>none
 |some z=>match P.underlying t with
  |some (.struct fs)=>match W9 P fs.toList with
   |some pl=>match ar0 (fun i=>pl[i]?) z parts with
    |some cs=>some (.agg cs)
    |none=>none
   |none=>none
  |some (.array _ e)=>match P.info? e with
   |some ie=>match ar0 (fun i=>some (i*ie.size,ie.size)) z parts with
    |some cs=>some (.agg cs)
    |none=>none
   |none=>none
  |_=>none
section
variable {P :Program}{U:Nat->List Dat->Dat}{τ:Tau}{F:Nat->Option Blk}
def TD (P:Program)(U:Nat->List Dat->Dat)(τ:Tau)(F:Nat->Option Blk)(f:Fm)(tm:T Value):Prop:=∀k a,lk f k=some a->VD P U τ F a ((tm.get k).getD undef)
theorem ay7 (v:Value):VD P U τ F (V9 v) v:=by
 unfold V9;split
 ·exact .bool (.bool _)
 ·exact .int _ (.int _)
 ·rename_i s;exact .str (.str s.data.toList)
 ·exact .nilp
 ·exact .nils
 ·exact .nilm
 ·exact .nilf
 ·exact .nili
 ·exact .any _
theorem W0 (l:List Value):VDL P U τ F (l.map V9) l:=by
 refine⟨by simp,fun i a x c hx=>?_⟩
 simp only[bF1,hx,bE6,bA1]at c;subst c;exact ay7 x
theorem bh8 (v:Value):VD P U τ F (aX3 v) v:=by
 unfold aX3;split
 ·rename_i cs
  have h:=W0 (P:=P) (U:=U) (τ:=τ) (F:=F) cs.toList;exact VD.agg _ cs.toList h.1 h.2
 ·rename_i cs
  have h:=W0 (P:=P) (U:=U) (τ:=τ) (F:=F) cs.toList;exact VD.tup _ cs.toList h.1 h.2
 ·exact ay7 v
theorem VDL.nil :VDL P U τ F [] []:=⟨rfl,fun i a x h _=>by simp at h⟩
variable {a:SV}{l:List SV}{xs:List Value}
theorem VDL.cons {x:Value}(h:VD P U τ F a x)(hs:VDL P U τ F l xs):VDL P U τ F (a::l) (x::xs):=by
 refine⟨by simp[hs.1],fun i b y hb hy=>?_⟩
 cases i with
 |zero=>grind
 |succ i=>simp at hb hy;exact hs.2 i b y hb hy
theorem VDL.uncons (h:VDL P U τ F (a::l) xs):∃y ys,xs=y::ys/\VD P U τ F a y/\VDL P U τ F l ys:=by
 cases xs with
 |nil=>exact absurd h.1 (by simp)
 |cons y ys=>exact⟨y,ys,rfl,h.2 0 _ _ rfl rfl,by have:=h.1;simpa using this,fun i a b c hb=>h.2 (i+1) a b (by simpa using c) (by simpa using hb)⟩
theorem VDL.mono {τ':Tau}{F':Nat->Option Blk}(ht:Tle τ τ')(hf:Fle F F')(h:VDL P U τ F l xs):VDL P U τ' F' l xs:=⟨h.1,fun i a x c hx=>(h.2 i a x c hx).mono ht hf⟩
theorem VDL.get (h:VDL P U τ F l xs){i:Nat}(c:l[i]? =some a):∃x,xs[i]? =some x/\VD P U τ F a x:=by
 have hi:i<l.length:=(bA4.1 c).1;have hx:i<xs.length:=by rw[<-h.1];exact hi
 exact⟨xs[i],by simp[hx],h.2 i a _ c (by simp[hx])⟩
theorem VDL.drop (h:VDL P U τ F l xs)(n:Nat):VDL P U τ F (l.drop n) (xs.drop n):=
 ⟨by simp[h.1],fun i a x c hx=>h.2 (n+i) a x (by simpa using c) (by simpa using hx)⟩
theorem VDL.take (h:VDL P U τ F l xs)(n:Nat):VDL P U τ F (l.take n) (xs.take n):=by
 refine⟨by simp[h.1],fun i a x c hx=>?_⟩
 rw[bD4]at c hx
 by_cases hi:i<n
 ·rw[bC3 hi]at c hx;exact h.2 i a x c hx
 ·grind
theorem VDL.append {m:List SV}{ys:List Value}(h:VDL P U τ F l xs)(k:VDL P U τ F m ys):VDL P U τ F (l++m) (xs++ys):=by
 induction l generalizing xs with
 |nil=>obtain⟨h1,_⟩:=h;have:xs=[]:=bA7 h1.symm;subst this;exact k
 |cons a l c=>obtain⟨y,f,rfl,h1,h2⟩:=h.uncons;exact VDL.cons h1 (c h2)
theorem VDL.splice {l m:List SV}{xs ys:List Value}(h:VDL P U τ F l xs)(k:VDL P U τ F m ys)(o:Nat):VDL P U τ F (H7 l o m) (splice xs o ys):=by
 unfold H7 Xe.splice;rw[k.1];exact((h.take o).append k).append (h.drop _)
theorem VDL.agg (h:VDL P U τ F l xs):VD P U τ F (.agg l) (.agg xs.toArray):= .agg l xs h.1 h.2
theorem VDL.tup (h:VDL P U τ F l xs):VD P U τ F (.tup l) (.tuple xs.toArray):= .tup l xs h.1 h.2
variable {v:Value}
theorem VDL.of_agg (h:VD P U τ F (.agg l) v):∃xs:List Value,v= .agg xs.toArray/\VDL P U τ F l xs:=by
 cases h with|agg _ xs h1 h2=>exact⟨xs,rfl,h1,h2⟩
theorem VDL.of_tup (h:VD P U τ F (.tup l) v):∃xs:List Value,v= .tuple xs.toArray/\VDL P U τ F l xs:=by
 cases h with|tup _ xs h1 h2=>exact⟨xs,rfl,h1,h2⟩
theorem PV.one {k:Kd}{d:Dat}(h:PV P F k v d):v.cells= #[v]:=by cases h<;>rfl
theorem ac9 (h:VD P U τ F a v)(e:o8 a=some l):VDL P U τ F l v.cells.toList:=by
 cases h with
 |any v=>simp[o8]at e
 |agg l' xs h1 h2=>simp only[o8,bA1]at e;subst e;exact⟨by simpa [Value.cells]using h1,fun i a x g hx=>h2 i a x g (by simpa [Value.cells]using hx)⟩
 |int k x=>simp only[o8,bA1]at e;subst e;exact VDL.cons (.int k x) VDL.nil
 |bool x=>simp only[o8,bA1]at e;subst e;exact VDL.cons (.bool x) VDL.nil
 |str x=>simp only[o8,bA1]at e;subst e;exact VDL.cons (.str x) VDL.nil
 |nilp=>simp only[o8,bA1]at e;subst e;exact VDL.cons .nilp VDL.nil
 |ptr b z row fld i o h h0=>simp only[o8,bA1]at e;subst e;exact VDL.cons (.ptr b z row fld i o h h0) VDL.nil
 |pptr t L row fld i o l c h h0 h1=>simp only[o8,bA1]at e;subst e;exact VDL.cons (.pptr t L row fld i o l c h h0 h1) VDL.nil
 |nils=>simp only[o8,bA1]at e;subst e;exact VDL.cons .nils VDL.nil
 |sl b z off len cap i o c h h0 h1 hc=>simp only[o8,bA1]at e;subst e;exact VDL.cons (.sl b z off len cap i o c h h0 h1 hc) VDL.nil
 |sl0 b z off len cap h h0 h1 hc=>simp only[o8,bA1]at e;subst e;exact VDL.cons (.sl0 b z off len cap h h0 h1 hc) VDL.nil
 |lst t L clip v h hc=>
  simp only[o8,bA1]at e;subst e;rw[h.one];exact VDL.cons (.lst t L clip v h hc) VDL.nil
 |tup l' xs h1 h2=>simp only[o8,bA1]at e;subst e;exact VDL.cons (.tup l' xs h1 h2) VDL.nil
 |fn f l' m xs ys h1 h2 h3 h4=>simp only[o8,bA1]at e;subst e;exact VDL.cons (.fn f l' m xs ys h1 h2 h3 h4) VDL.nil
 |nilf=>simp only[o8,bA1]at e;subst e;exact VDL.cons .nilf VDL.nil
 |map b i o h=>simp only[o8,bA1]at e;subst e;exact VDL.cons (.map b i o h) VDL.nil
 |nilm=>simp only[o8,bA1]at e;subst e;exact VDL.cons .nilm VDL.nil
 |iface t v x h=>simp only[o8,bA1]at e;subst e;exact VDL.cons (.iface t v x h) VDL.nil
 |nili=>simp only[o8,bA1]at e;subst e;exact VDL.cons .nili VDL.nil
 |yld=>simp[o8]at e
theorem o7 {f:Fm}{tm:T Value}(h:TD P U τ F f tm){o:Operand}(e:f6 f o=some a):∃v,a8 tm o=some v/\VD P U τ F a v:=by
 cases o with
 |tmp t=>
  simp only[f6,bA1]at e;refine⟨_,rfl,?_⟩;cases hl:lk f t with
  |none=>rw[hl]at e;subst e;exact .any _
  |some b=>rw[hl]at e;subst e;exact h t b hl
 |const v=>
  simp only[f6]at e;cases hc:cst v with
  |false=>grind
  |true=>simp only[hc,bB8,bA1]at e;subst e;exact⟨v,by simp[a8,hc],bh8 v⟩
 |global g=>simp[f6]at e
 |func g=>simp only[f6,bA1]at e;subst e;exact⟨_,rfl,.fn _ [] [] [] [] rfl (fun i a x h _=>by simp at h) rfl (fun i a x h _=>by simp at h)⟩
theorem au3 {f:Fm}{tm:T Value}(h:TD P U τ F f tm):∀ {os:List Operand} {l:List SV},aQ9 f os=some l-> ∃vs,U2 tm os=some vs/\VDL P U τ F l vs
 | [],l,e=>by simp only[aQ9,bA1]at e;subst e;exact⟨[],rfl,VDL.nil⟩
 |o::os,l,e=>by
  simp only[aQ9]at e;cases g:f6 f o with
  |none=>grind
  |some a=>
   cases c:aQ9 f os with
   |none=>grind
   |some l'=>
    simp only[g,c,bA1]at e;subst e;obtain⟨v,h1,h2⟩:=o7 h g;obtain⟨vs,h3,h4⟩:=au3 h c;exact⟨v::vs,by simp[U2,h1,h3],VDL.cons h2 h4⟩
def PVD (P:Program)(U:Nat->List Dat->Dat)(τ:Tau)(F:Nat->Option Blk):List (Nat×SV)->List (Nat×Value)->Prop
 | [],[]=>True
 | (i,a)::l,(j,v)::m=>i=j/\VD P U τ F a v/\PVD P U τ F l m
 |_,_=>False
theorem ad2 {f:Fm}{tm:T Value}(h:TD P U τ F f tm):∀ {os:List (Nat×Operand)} {l:List (Nat×SV)},ab3 f os=some l-> ∃vs,R5 tm os=some vs/\PVD P U τ F l vs
 | [],l,e=>by simp only[ab3,bA1]at e;subst e;exact⟨[],rfl,trivial⟩
 | (i,o)::os,l,e=>by
  simp only[ab3]at e;cases g:f6 f o with
  |none=>grind
  |some a=>
   cases c:ab3 f os with
   |none=>grind
   |some l'=>
    simp only[g,c,bA1]at e;subst e;obtain⟨v,h1,h2⟩:=o7 h g;obtain⟨vs,h3,h4⟩:=ad2 h c;exact⟨(i,v)::vs,by simp[R5,h1,h3],rfl,h2,h4⟩
theorem ak7 {t:TypeId}(h:VDL P U τ F l xs){off:Nat}(e:aG4 P t l off=some a):∃v,U5 P t xs off=some v/\VD P U τ F a v:=by
 unfold aG4 at e;unfold U5;split at e
 ·cases e
 ·rename_i d hd
  rw[hd];cases hb:ae1 d with
  |true=>
   simp only[hb,bB8]at e⊢;split at e
   ·rename_i i hi
    simp only[bA1]at e;subst e;exact⟨_,by rw[hi],((h.drop off).take i.size).agg⟩
   ·cases e
  |false=>
   simp only[hb,bB9]at e⊢;obtain⟨x,h1,h2⟩:=h.get e
   grind
theorem bi1 {t:TypeId}(h:VD P U τ F a v){f:Nat}{b:SV}(e:aX4 P t a f=some b):∃u,ah4 P t v f=some u/\VD P U τ F b u:=by
 unfold aX4 at e;unfold ah4;split at e
 ·rename_i j g
  split at e
  ·rename_i fd c
   split at e
   ·rename_i cs
    obtain⟨xs,rfl,hx⟩:=VDL.of_agg h;obtain⟨u,h1,h2⟩:=ak7 hx e
    grind
   ·cases e
  ·cases e
 ·cases e
theorem aR0 (h:VD P U τ F a v){i:Nat}{b:SV}(e:az0 a i=some b):∃u,P0 v i=some u/\VD P U τ F b u:=by
 unfold az0 at e;split at e
 ·obtain⟨xs,rfl,hx⟩:=VDL.of_tup h
  obtain⟨u,h1,h2⟩:=hx.get e;exact⟨u,by simpa [P0]using h1,h2⟩
 ·cases e
theorem ab2 {place : Nat → Option (Nat × Nat)} : ∀ {ps : List (Nat × SV)} { g : List (Nat × Value)} {l : List SV} {xs : List Value} {r : List SV}, VDL P U τ F l xs → PVD P U τ F ps  g → ar0 place l ps = some r →
  ∃ys,al6 place xs g=some ys/\VDL P U τ F r ys
 | [],[],l,xs,r,h,_,e=>by simp only[ar0,bA1]at e;subst e;exact⟨xs,rfl,h⟩
 | (i,a)::ps,(j,v)::g,l,xs,r,h,hp,e=>by
  obtain⟨rfl,m,hp'⟩:=hp;simp only[ar0]at e;split at e
  ·cases e
  ·rename_i off size c
   split at e
   ·cases e
   ·rename_i vs f
    have hc:=ac9 m f;simp only[al6,c];rw[hc.1,h.1]at e;cases hb:Nat.beq v.cells.toList.length size&&Nat.ble (off+size) xs.length with
    |false=>grind
    |true=>
     simp only[hb,bB8]at e⊢;exact ab2 (h.splice hc off) hp' e
 | [],_::_,l,xs,r,h,hp,e=>hp.elim
 |_::_,[],l,xs,r,h,hp,e=>hp.elim
theorem H8 {t:TypeId}(e:ab4 P t=some l):∃z,E1 P t=some z/\VDL P U τ F l z.cells.toList:=by
 unfold ab4 at e;split at e
 ·rename_i z hz;simp only[bA1]at e;subst e;exact⟨z,hz,W0 _⟩
 ·cases e
theorem bh7 {t:TypeId}{ps:List (Nat×SV)}{m:List (Nat×Value)}(h:PVD P U τ F ps m)(e:aX2 P t ps=some a):∃v,ah1 P t m=some v/\VD P U τ F a v:=by
 unfold aX2 at e;unfold ah1;split at e
 ·cases e
 ·rename_i l hl
  obtain⟨z,h1,h2⟩:=H8 (U:=U) (τ:=τ) (F:=F) hl;rw[h1];split at e
  ·rename_i q f
   split at e
   ·rename_i pl j
    split at e
    ·rename_i cs c
     simp only[bA1]at e;subst e;obtain⟨ys,h3,h4⟩:=ab2 h2 h c;exact⟨_,by simp only[f,j,h3],h4.agg⟩
    ·cases e
   ·cases e
  ·rename_i ie f
   split at e
   ·rename_i p g
    split at e
    ·rename_i cs c
     simp only[bA1]at e;subst e;obtain⟨ys,h3,h4⟩:=ab2 h2 h c;exact⟨_,by simp only[f,g,h3],h4.agg⟩
    ·cases e
   ·cases e
  ·cases e
end
end Go.Sx
namespace Go.Sx
open Go.Xe
def rng (e:E)(k:IntKind):E:=bb2 (k9 (l6 e (.int k.min))) (l6 e (.int (k.max+1)))
def an3 (op:BinOp)(k:IntKind)(a b:E):E:=match a,b with
 | .int m,.int n=>.int (Go.bits op k m n)
 |a,b=>.op (.bits op k) [a,b]
def bn3 (a b:E):E:=match a,b with
 | .int m,.int n=>.int (m.tdiv n)
 |a,b=>.op .tdiv [a,b]
def bn4 (a b:E):E:=match a,b with
 | .int m,.int n=>.int (m.tmod n)
 |a,b=>.op .tmod [a,b]
def bn5 (k:IntKind)(a b:E):E:=match a,b with
 | .int m,.int n=>.int (k.wrap (m*2^(min n.toNat k.bits)))
 |a,b=>.op (.shl k) [a,b]
def bn6 (k:IntKind)(a b:E):E:=match a,b with
 | .int m,.int n=>.int (m.fdiv (2^(min n.toNat k.bits)))
 |a,b=>.op (.shr k) [a,b]
def aV2 (a b:E):E:=match a,b with
 | .str p,.str q=>.str (p++q)
 |a,b=>.op .sapp [a,b]
def R0 (a:E):E:=match a with
 | .str p=>.int p.length
 |a=>.op .slen [a]
def aF2 (a b:E):E:=match a,b with
 | .str p,.str q=>.bool (Op.bytesLess p q)
 |a,b=>.op .lts [a,b]
section
variable (P :Program)(U:Nat->List Dat->Dat)
def ax2 (k:IntKind)(e:E):M SV:=match e with
 | .int n=>b9 (.int k (.int (k.wrap n)))
 |e=>bif decide (k= .i64)then a7 (i3 U (rng e .i64)) fun _=>b9 (.int k e)else b9 (.int k (.op (.wrap k) [e]))
def scmp (op:BinOp)(a b:E):Option E:=
 match op with
 | .eql=>some (A3 a b)
 | .neq=>some (k9 (A3 a b))
 | .lss=>some (l6 a b)
 | .leq=>some (k9 (l6 b a))
 | .gtr=>some (l6 b a)
 | .geq=>some (k9 (l6 a b))
 |_=>none
def aX1 (op:BinOp)(k:IntKind)(a b:E):M SV:=
 match op with
 | .add=>ax2 U k (l9 a b)
 | .sub=>ax2 U k (J2 a b)
 | .mul=>ax2 U k (bn2 a b)
 | .quo=>a7 (i3 U (k9 (A3 b (.int 0)))) fun _=>ax2 U k (bn3 a b)
 | .rem=>a7 (i3 U (k9 (A3 b (.int 0)))) fun _=>b9 (.int k (bn4 a b))
 | .and=>b9 (.int k (an3 .and k a b))
 | .or=>b9 (.int k (an3 .or k a b))
 | .xor=>b9 (.int k (an3 .xor k a b))
 | .andNot=>b9 (.int k (an3 .andNot k a b))
 |op=>match scmp op a b with|some c=>b9 (.bool c)|none=>a6 "arith"
def aK2 (op:BinOp)(k:IntKind)(a b:E):M SV:=
 a7 (i3 U (k9 (l6 b (.int 0)))) fun _=>
 match op with
 | .shl=>b9 (.int k (bn5 k a b))
 | .shr=>b9 (.int k (bn6 k a b))
 |_=>a6 "shift"
def sstr (op:BinOp)(a b:E):M SV:=
 match op with
 | .add=>a7 (i3 U (l6 (l9 (R0 a) (R0 b)) (.int 1000000001))) fun _=>b9 (.str (aV2 a b))
 | .eql=>b9 (.bool (aj7 a b))
 | .neq=>b9 (.bool (k9 (aj7 a b)))
 | .lss=>b9 (.bool (aF2 a b))
 | .leq=>b9 (.bool (mkOr (aF2 a b) (aj7 a b)))
 | .gtr=>b9 (.bool (k9 (mkOr (aF2 a b) (aj7 a b))))
 | .geq=>b9 (.bool (k9 (aF2 a b)))
 |_=>a6 "str"
def bh9 (eq:TypeId->SV->SV->Option E)(xs ys:List SV):List Field->Option E
 | []=>some (.bool true)
 |f::fs=>bif f.name== "_" then bh9 eq xs ys fs else
  match aG4 P f.type xs f.offset,aG4 P f.type ys f.offset with
  |some a,some b=>match eq f.type a b,bh9 eq xs ys fs with
   |some p,some q=>some (bb2 p q)
   |_,_=>none
  |_,_=>none
def ag4 :SV->Bool
 | .ptr _ _ _ _| .pptr _ _ _ _=>true
 |_=>false
def aJ4 (size:Nat)(x y:SV):Option E:=
 match x,y with
 | .nilp,.nilp=>some (.bool true)
 | .nilp,y=>bif ag4 y then some (.bool false)else none
 |x,.nilp=>bif ag4 x then some (.bool false)else none
 | .ptr b z row fld,.ptr b' z' row' fld'=>bif Nat.beq b b'&&Nat.beq z z'&&Nat.beq fld fld'&&Nat.ble 1 z&&Nat.ble 1 size then some (A3 row row')else none
 |_,_=>none
def bd1 (x y:SV):Option E:=
 match x,y with
 | .nils,.nils=>some (.bool true)
 |_,_=>none
def ak4 (x y:SV):Option E:=
 match x,y with
 | .nilm,.nilm=>some (.bool true)
 | .map _,.nilm=>some (.bool false)
 | .nilm,.map _=>some (.bool false)
 |_,_=>none
def bd0 (x y:SV):Option E:=
 match x,y with
 | .nilf,.nilf=>some (.bool true)
 | .nilf,.fn _ _ _=>some (.bool false)
 | .fn _ _ _,.nilf=>some (.bool false)
 |_,_=>none
def aC2 : Nat → TypeId → SV → SV → Option E
 |0,_,_,_=>none
 | d + 1, t, x, y => match P.underlying t with
  |some .bool=>match x,y with
   | .bool a,.bool b=>some (bb3 a b)
   |_,_=>none
  |some (.int _)=>match x,y with
   | .int k a,.int k' b=>bif decide (k=k')then some (A3 a b)else none
   |_,_=>none
  |some .string=>match x,y with
   | .str a,.str b=>some (aj7 a b)
   |_,_=>none
  |some (.pointer e)=>match P.info? e with
   |some ie=>aJ4 ie.size x y
   |none=>none
  |some (.struct fs)=>match x,y with
   | .agg xs,.agg ys=>bif P.stoodInHeld t then none else bh9 P (aC2 d) xs ys fs.toList
   |_,_=>none
  |some (.slice _)=>bd1 x y
  |some (.map _ _)=>ak4 x y
  |some (.func _ _ _)=>bd0 x y
  | some (.interface _) => match x, y with
   | .nili,.iface _ _=>some (.bool false)
   | .iface _ _,.nili=>some (.bool false)
   | .iface tx vx, .iface ty vy => bif decide (tx = ty) then
     match P.info? tx with
     |some i=>bif i.comparable then aC2 d tx vx vy else none
     |none=>none
    else some (.bool false)
   |_,_=>none
  |_=>none
def R4 (t:TypeId):SV->Bool
 | .any=>false
 | .agg _=> !P.eqGuardType P.depth t
 | .nili=>false
 |_=>true
def sbin (op:BinOp)(t:TypeId)(x y:SV):M SV:=
 match x,y with
 | .int k a,.int k' b=>match op with
  | .shl=>aK2 U .shl k a b
  | .shr=>aK2 U .shr k a b
  |op=>bif decide (k=k')then aX1 U op k a b else a6 "kinds"
 | .str a,.str b=>sstr U op a b
 |x,y=>match op with
  | .eql=>bif R4 P t x then match aC2 P 10000 t x y with
   |some b=>b9 (.bool b)
   |none=>a6 "eq" else a6 "eq guard"
  | .neq=>bif R4 P t x then match aC2 P 10000 t x y with
   |some b=>b9 (.bool (k9 b))
   |none=>a6 "eq" else a6 "eq guard"
  |_=>a6 "binop"
def snil (len:E):M SV:=fun s=>.all .b s.fv fun d=>
 .br d (.asm (.e (A3 len (.int 0))) ((A3 len (.int 0)).pr U) (.ret (.bool (.bool true),addF {s with fv:=s.fv+1} (A3 len (.int 0)) true))) (.ret (.bool (.bool false),{s with fv:=s.fv+1}))
def aN7 (op:BinOp)(t:TypeId)(x y:SV):Option E:=match P.underlying t with
 |some (.slice _)=>match op,x,y with
  | .eql,.sl _ _ _ len _,.nils=>some len
  | .eql,.lst _ L _,.nils=>some (i9 L)
  |_,_,_=>none
 |_=>none
def bp4 (op:BinOp)(t:TypeId)(x y:SV):M SV:=match aN7 P op t x y with
 |some len=>snil U len
 |none=>sbin P U op t x y
def srune :M SV:=fun s=>.all .s s.fv fun d=>.asm (.e (l6 (.op .slen [d]) (.int 5))) ((l6 (.op .slen [d]) (.int 5)).pr U) (.ret (.str d,{s with fv:=s.fv+1}))
def bp7 (src dst:TypeId)(x:SV):M SV:=
 match P.underlying src with
 |none=>a6 "conv"
 |some _=>match P.underlying dst,x with
  |some (.int k),.int k0 e=>match e with
   | .int n=>b9 (.int k (.int (k.wrap n)))
   |e=>bif Nat.blt k.bits k0.bits then b9 (.int k (.op (.wrap k) [e]))else a7 (i3 U (rng e k)) fun _=>b9 (.int k e)
  |some .string,.str s=>b9 (.str s)
  |some .string,.int _ _=>srune U
  |_,_=>a6 "conv"
def sun (op:UnOp)(x:SV):M SV:=
 match op,x with
 | .neg,.int k e=>ax2 U k (J2 (.int 0) e)
 | .not,.bool b=>b9 (.bool (k9 b))
 |_,_=>a6 "unop"
def aX5 (t:TypeId)(x:SV):Option SV:=
 match P.underlying t with
 |some (.interface _)=>none
 |some _=>some (.iface t x)
 |none=>none
def bi4 (big:Bool):SV->List SV->M SV
 |v,[]=>match v with
  | .int k n=>b9 (.int k n)
  |_=>a6 "min"
 |v,y::ys=>match v,y with
  | .int k a,.int _ b=>a7 (aa4 U (bif big then l6 a b else l6 b a)) fun t=>bi4 big (.int k (bif t then b else a)) ys
  |_,_=>a6 "min"
end
section
variable {P :Program}{U:Nat->List Dat->Dat}{τ:Tau}{F:Nat->Option Blk}
variable {k:IntKind}{n:Int}
theorem be1 (h1:k.min<=n)(h2:n<=k.max):k.wrap n=n:=by
 unfold IntKind.wrap;unfold IntKind.min at h1;unfold IntKind.max at h2;cases k<;>simp[IntKind.signed,IntKind.bits]at h1 h2⊢ <;>omega
theorem bp2 {e:E}(h:(rng e k).pr U):k.wrap (e.toI U)=e.toI U:=by
 rw[E.pr_iff,rng,aE8,u7,s9,s9]at h;simp only[bA2,bE7,bE9,bC2]at h;simp only[o6]at h;exact be1 (by omega) (by omega)
theorem V3 (op:BinOp)(k:IntKind)(a b:E):(an3 op k a b).toI U=Go.bits op k (a.toI U) (b.toI U):=by unfold an3;split<;>rfl
theorem bf8 (a b:E):(bn3 a b).toI U=(a.toI U).tdiv (b.toI U):=by unfold bn3;split<;>rfl
theorem bf9 (a b:E):(bn4 a b).toI U=(a.toI U).tmod (b.toI U):=by unfold bn4;split<;>rfl
theorem bg0 (k:IntKind)(a b:E):(bn5 k a b).toI U=k.wrap (a.toI U*2^(min (b.toI U).toNat k.bits)):=by unfold bn5;split<;>rfl
theorem bg1 (k:IntKind)(a b:E):(bn6 k a b).toI U=(a.toI U).fdiv (2^(min (b.toI U).toNat k.bits)):=by unfold bn6;split<;>rfl
theorem aV3 (a b:E):((aV2 a b).den U).toStr=(a.den U).toStr++(b.den U).toStr:=by unfold aV2;split<;>rfl
theorem G2 (a:E):(R0 a).toI U=((a.den U).toStr.length:Int):=by unfold R0;split<;>rfl
theorem ac5 (a b:E):((aF2 a b).den U).toBool=Op.bytesLess (a.den U).toStr (b.den U).toStr:=by unfold aF2;split<;>rfl
theorem VD.int' {e:E}(h:e.toI U=n):VD P U τ F (.int k e) (.int k n):=by subst h;exact .int k e
theorem VD.bool' {e:E}{b:Bool}(h:(e.den U).toBool=b):VD P U τ F (.bool e) (.bool b):=by subst h;exact .bool e
variable {s:SS}
theorem aa5 {e:E}(h:e.toI U=n):OKp U (ax2 U k e) s fun a=>VD P U τ F a (.int k (k.wrap n)):=by
 subst h;unfold ax2;split
 ·exact OKp.ret (.int k (.int _))
 ·by_cases hk:k= .i64
  ·subst hk
   simp only[bF7,bB8];exact OKp.need.bind fun _ s' _ _ hp=>OKp.ret (VD.int' (bp2 hp).symm)
  ·simp only[hk,decide_false,bB9]
   exact OKp.ret (.int k (.op (.wrap k) [_]))
theorem bb7 {b:E}(h:(k9 (A3 b (.int 0))).pr U):¬b.toI U=0:=by
 rw[E.pr_iff,u7,D7,bE7,bE9]at h;exact h
variable {op:BinOp}
theorem bv9 {a b c:E}(h:scmp op a b=some c):ah2 op (a.toI U) (b.toI U)=some (.bool (c.den U).toBool):=by
 unfold scmp at h;split at h<;>simp only[bA1,reduceCtorEq]at h<;>subst h<;>simp only[ah2,u7,s9,D7,bA1,Value.bool.injEq]
 ·grind
 ·grind
theorem bh6 {a b:E}:OKp U (aX1 U op k a b) s fun c=>∃v,t8 op k (a.toI U) (b.toI U)=some v/\VD P U τ F c v:=by
 unfold aX1;split
 ·exact(aa5 (f7 a b)).mono fun c h=>⟨_,rfl,h⟩
 ·exact(aa5 (j5 a b)).mono fun c h=>⟨_,rfl,h⟩
 ·exact(aa5 (bf7 a b)).mono fun c h=>⟨_,rfl,h⟩
 ·refine OKp.need.bind fun _ s' _ _ hp=>(aa5 (bf8 a b)).mono fun c h=>⟨_,?_,h⟩
  simp[t8,bb7 hp]
 ·refine OKp.need.bind fun _ s' _ _ hp=>OKp.ret ⟨_,?_,VD.int' (bf9 a b)⟩
  simp[t8,bb7 hp]
 ·exact OKp.ret ⟨_,rfl,VD.int' (V3 _ k a b)⟩
 ·exact OKp.ret ⟨_,rfl,VD.int' (V3 _ k a b)⟩
 ·exact OKp.ret ⟨_,rfl,VD.int' (V3 _ k a b)⟩
 ·exact OKp.ret ⟨_,rfl,VD.int' (V3 _ k a b)⟩
 ·split
  ·rename_i c hc
   refine OKp.ret ⟨_,?_,.bool c⟩;rw[<-bv9 (U:=U) hc];cases op<;>first|rfl| (exact absurd rfl (by assumption))
  ·exact OKp.fail
theorem V4 {b:E}(h:(k9 (l6 b (.int 0))).pr U):0<=b.toI U:=by
 rw[E.pr_iff,u7,s9,bE7,bE9]at h;exact Int.not_lt.1 h
theorem aG5 {a b:E}:OKp U (aK2 U op k a b) s fun c=>∃v,ap5 op k (a.toI U) (b.toI U)=some v/\VD P U τ F c v:=by
 unfold aK2;refine OKp.need.bind fun _ s' _ _ hp=>?_
 have h0:=V4 hp;have e:decide (b.toI U<0)=false:=by grind
 split
 ·exact OKp.ret ⟨_,by simp only[ap5,e,bB9],VD.int' (bg0 k a b)⟩
 ·exact OKp.ret ⟨_,by simp only[ap5,e,bB9],VD.int' (bg1 k a b)⟩
 ·exact OKp.fail
theorem VD.str' {e:E}{l:List UInt8}(h:(e.den U).toStr=l):VD P U τ F (.str e) (.string ⟨l.toArray⟩):=by subst h;exact .str e
theorem bw2 {a b:E}:OKp U (sstr U op a b) s fun c=>∃v,bt2 op ⟨(a.den U).toStr.toArray⟩ ⟨(b.den U).toStr.toArray⟩=some v/\VD P U τ F c v:=by
 unfold sstr;split
 ·refine OKp.need.bind fun _ s' _ _ hp=>?_
  rw[E.pr_iff,s9,f7,G2,G2]at hp;simp only[bC2]at hp;simp only[o6]at hp;refine OKp.ret ⟨_,?_,VD.str' (aV3 a b)⟩;have hb:Nat.ble ((a.den U).toStr.length+(b.den U).toStr.length) 1000000000=true:=bA8 (by omega)
  simp only[bt2,hb,bB8]
 ·exact OKp.ret ⟨.bool ((a.den U).toStr==(b.den U).toStr),rfl,VD.bool' (J7 a b)⟩
 ·exact OKp.ret ⟨.bool (!((a.den U).toStr==(b.den U).toStr)),rfl,VD.bool' (by rw[u7,J7])⟩
 ·exact OKp.ret ⟨.bool (Op.bytesLess (a.den U).toStr (b.den U).toStr),rfl,VD.bool' (ac5 a b)⟩
 ·exact OKp.ret ⟨.bool (Op.bytesLess (a.den U).toStr (b.den U).toStr|| (a.den U).toStr==(b.den U).toStr),rfl,VD.bool' (by rw[aO5,ac5,J7])⟩
 ·exact OKp.ret ⟨.bool (!(Op.bytesLess (a.den U).toStr (b.den U).toStr|| (a.den U).toStr==(b.den U).toStr)),rfl,VD.bool' (by rw[u7,aO5,ac5,J7])⟩
 ·exact OKp.ret ⟨.bool (!Op.bytesLess (a.den U).toStr (b.den U).toStr),rfl,VD.bool' (by rw[u7,ac5])⟩
 ·exact OKp.fail
theorem aJ3 {eq : TypeId → SV → SV → Option E} { j : TypeId → Value → Value → Option Bool} (h : ∀ t a b v u c, VD P U τ F a v → VD P U τ F b u → eq t a b = some c →  j t v u = some (c.den U).toBool)
  {l m:List SV} {xs ys:List Value} (hl:VDL P U τ F l xs) (hm:VDL P U τ F m ys):∀ {g:List Field} {c:E},bh9 P eq l m g=some c->aA5 P j xs ys g=some (c.den U).toBool
 | [],c,e=>by simp only[bh9,bA1]at e;subst e;rfl
 |f::g,c,e=>by
  simp only[bh9]at e;simp only[aA5];cases hn:f.name== "_" with
  |true=>simp only[hn,bB8]at e⊢;exact aJ3 h hl hm e
  |false=>
   simp only[hn,bB9]at e⊢;split at e
   ·rename_i a b r hb
    split at e
    ·rename_i p q hp hq
     simp only[bA1]at e;subst e;obtain⟨v,h1,h2⟩:=ak7 hl r;obtain⟨u,h3,h4⟩:=ak7 hm hb;simp only[h1,h3,h _ _ _ _ _ _ h2 h4 hp];rw[aE8];cases w:(p.den U).toBool with
     |true=>simp only[bK0];exact aJ3 h hl hm hq
     |false=>rfl
    ·cases e
   ·cases e
variable {a:SV}{v:Value}
theorem aF7 (h:VD P U τ F a v)(e:ag4 a=true):∃p,v= .pointer (some p):=by
 cases h<;>first|exact⟨_,rfl⟩| (simp[ag4]at e)
variable {x y:SV}{u:Value}{d:Nat}
theorem bi0 {size : Nat}   (hx : VD P U τ F x v) (hy : VD P U τ F y u) {c : E} (e : aJ4 size x y = some c)  {t t' : TypeId} (ht : P.underlying t = some (.pointer t')) {ie : TypeInfo} (hi : P.info? t' = some ie)
  (hs:ie.size=size):xeq P (d+1) t v u=some (c.den U).toBool:=by
 unfold aJ4 at e;split at e
 ·simp only[bA1]at e;subst e;cases hx;cases hy;simp[xeq,ht];rfl
 ·cases hp:ag4 y with
  |false=>grind
  |true=>
   simp only[hp,bB8,bA1]at e;subst e;obtain⟨p,rfl⟩:=aF7 hy hp;cases hx;simp[xeq,ht];rfl
 ·cases hp:ag4 x with
  |false=>grind
  |true=>
   simp only[hp,bB8,bA1]at e;subst e;obtain⟨p,rfl⟩:=aF7 hx hp;cases hy;simp[xeq,ht];rfl
 ·rename_i b z row fld b' q g f
  cases hb:Nat.beq b b'&&Nat.beq z q&&Nat.beq fld f&&Nat.ble 1 z&&Nat.ble 1 size with
  |false=>grind
  |true=>
   simp only[hb,bB8,bA1]at e;subst e;simp only[bA2,bE1,bF4]at hb;obtain⟨⟨⟨⟨rfl,rfl⟩,rfl⟩,hz⟩,m⟩:=hb;cases hx with
   |ptr _ _ _ _ i o h h0=>
    cases hy with
    |ptr _ _ _ _ r o' h' j=>
     rw[h]at h';simp only[bA1,bA3]at h';obtain⟨rfl,rfl⟩:=h';simp only[xeq,ht,l8,bB8,hi];rw[n8 (by omega),bB9,D7]
     congr 1
     rw[Bool.eq_iff_iff];simp only[bE1,bC2]
     constructor
     ·intro h
      have:row.toN U*z=g.toN U*z:=by omega
      have:=Nat.eq_of_mul_eq_mul_right (by omega) this
      grind
     ·grind
 ·cases e
theorem VD.not_int (h:VD P U τ F a (.int k n)):a= .any\/ ∃e,a= .int k e:=by
 cases h with
 |any=>grind
 |int k e=>grind
 |lst t L clip v h hc=>cases h
theorem VD.not_str {s:ByteArray}(h:VD P U τ F a (.string s)):a= .any\/ ∃e,a= .str e:=by
 cases h with
 |any=>grind
 |str e=>grind
 |lst t L clip v h hc=>cases h
theorem VD.not_complex {f:FloatKind}{m n:Nat}(h:VD P U τ F a (.complex f m n)):a= .any:=by
 cases h with
 |any=>rfl
 |lst t L clip v h hc=>cases h
theorem bq0 (hx:VD P U τ F x v)(hy:VD P U τ F y u){c:E}(e:bd1 x y=some c){t t':TypeId}(ht:P.underlying t=some (.slice t')):xeq P (d+1) t v u=some (c.den U).toBool:=by
 unfold bd1 at e;split at e<;>simp only[bA1,reduceCtorEq]at e<;>subst e<;>cases hx<;>cases hy<;>simp[xeq,ht]<;>rfl
theorem aQ8 (hx:VD P U τ F x v)(hy:VD P U τ F y u){c:E}(e:ak4 x y=some c){t t' f:TypeId}(ht:P.underlying t=some (.map t' f)):xeq P (d+1) t v u=some (c.den U).toBool:=by
 unfold ak4 at e;split at e<;>simp only[bA1,reduceCtorEq]at e<;>subst e<;>cases hx<;>cases hy<;>simp[xeq,ht]<;>rfl
theorem bp9 (hx:VD P U τ F x v)(hy:VD P U τ F y u){c:E}(e:bd0 x y=some c){t:TypeId}{ps f:Array TypeId}{b:Bool}(ht:P.underlying t=some (.func ps f b)):xeq P (d+1) t v u=some (c.den U).toBool:=by
 unfold bd0 at e;split at e<;>simp only[bA1,reduceCtorEq]at e<;>subst e<;>cases hx<;>cases hy<;>simp[xeq,ht]<;>rfl
theorem au2 :∀(d:Nat) (t:TypeId) (a b:SV) (v u:Value) (c:E),VD P U τ F a v->VD P U τ F b u->aC2 P d t a b=some c->xeq P d t v u=some (c.den U).toBool
 |0,t,a,b,v,u,c,f,hb,e=>by simp[aC2]at e
 |d+1,t,a,b,v,u,c,f,hb,e=>by
  simp only[aC2]at e;split at e
  ·rename_i ht
   split at e
   ·simp only[bA1]at e;subst e;cases f;cases hb
    simp only[xeq,ht,aE9]
   ·cases e
  ·rename_i ht
   split at e
   ·rename_i k x k' y
    by_cases hk:k=k'
    ·simp only[hk,bF7,bB8,bA1]at e;subst e;subst hk;cases f;cases hb
     simp only[xeq,ht,D7,bF7,bB8]
    ·grind
   ·cases e
  ·rename_i ht
   split at e
   ·simp only[bA1]at e;subst e;cases f;cases hb
    simp only[xeq,ht,J7]
   ·cases e
  ·rename_i t' ht
   split at e
   ·rename_i ie j
    exact bi0 f hb e ht j rfl
   ·cases e
  ·rename_i q ht
   split at e
   ·rename_i xs ys
    cases hs:P.stoodInHeld t with
    |true=>grind
    |false=>
     simp only[hs,bB9]at e;obtain⟨vs,rfl,h1⟩:=VDL.of_agg f;obtain⟨r,rfl,h2⟩:=VDL.of_agg hb;simp only[xeq,ht,hs,bB9];exact aJ3 (au2 d) h1 h2 e
   ·cases e
  ·rename_i ht;exact bq0 f hb e ht
  ·rename_i ht;exact aQ8 f hb e ht
  ·rename_i ht;exact bp9 f hb e ht
  ·rename_i ht
   split at e
   ·simp only[bA1]at e;subst e;cases f;cases hb;simp only[xeq,ht];rfl
   ·simp only[bA1]at e;subst e;cases f;cases hb;simp only[xeq,ht];rfl
   ·rename_i m vx ty p
    cases f with
    |iface _ _ x hx=>
     cases hb with
     |iface _ _ y hy=>
      by_cases hk:m=ty
      ·subst hk
       simp only[bF7,bB8]at e;split at e
       ·rename_i i hi
        cases g:i.comparable with
        |false=>grind
        |true=>
         simp only[g,bB8]at e;simp only[xeq,ht,bF7,bB8,hi,g];exact au2 d m vx p x y c hx hy e
       ·cases e
      ·simp only[hk,decide_false,bB9,bA1]at e;subst e
       simp only[xeq,ht,hk,decide_false,bB9];rfl
   ·cases e
  ·cases e
theorem PV.guard {k:Kd}{d:Dat}(h:PV P F k v d)(t:TypeId):E2 P t v=true:=by cases h<;>rfl
theorem ad1 {t:TypeId}(h:VD P U τ F a v)(e:R4 P t a=true):E2 P t v=true:=by
 cases h with
 |any=>simp[R4]at e
 |nili=>simp[R4]at e
 |yld=>first|exact e|rfl|simp[R4,E2]at e⊢
 |agg l xs h1 h2=>exact e
 |lst t' L clip v h hc=>exact h.guard t
 |_=>rfl
theorem F5 {t:TypeId}{w:Value}(h:ae4 P op t v u=some w):T8 P op t v u=some w:=by
 unfold T8;rw[h]
theorem K4  {t : TypeId}  (h1 : ∀ k a k' b, v = .int k a → u = .int k' b → False) (h2 : ∀ a b, v = .string a → u = .string b → False) (h3 : ∀ f m n, u = .complex f m n → False) :
  ae4 P op t v u=match op with
  | .eql=>bif E2 P t v then match xeq P 10000 t v u with
   |some b=>some (.bool b)
   |none=>none else none
  | .neq=>bif E2 P t v then match xeq P 10000 t v u with
   |some b=>some (.bool (!b))
   |none=>none else none
  |_=>none:=by
 unfold ae4
 grind
theorem br9 {t:TypeId}{a b:Int}(h:t8 op k a b=some v):ae4 P op t (.int k a) (.int k b)=some v:=by
 unfold ae4;simp only[bF7,bB8];cases op<;>first|exact h| (simp[t8,ah2]at h)
variable {b:SV}
theorem bv7 {t:TypeId}(g:VD P U τ F a v)(hb:VD P U τ F b u):OKp U (sbin P U op t a b) s fun c=>∃w,T8 P op t v u=some w/\VD P U τ F c w:=by
 unfold sbin;split
 ·rename_i k x k' y
  cases g;cases hb;split
  ·exact aG5.mono fun c ⟨w,h1,h2⟩=>⟨w,F5 h1,h2⟩
  ·exact aG5.mono fun c ⟨w,h1,h2⟩=>⟨w,F5 h1,h2⟩
  ·by_cases hk:k=k'
   ·subst hk
    simp only[bF7,bB8];exact bh6.mono fun c ⟨w,h1,h2⟩=>⟨w,F5 (br9 h1),h2⟩
   ·simp only[hk,decide_false,bB9];exact OKp.fail
 ·cases g;cases hb
  exact bw2.mono fun c ⟨w,h1,h2⟩=>⟨w,F5 h1,h2⟩
 ·rename_i hi hs
  have key:∀c,R4 P t a=true->aC2 P 10000 t a b=some c->(∀k p k' q,v= .int k p->u= .int k' q->False)/\(∀p q,v= .string p->u= .string q->False)/\(∀f m n,u= .complex f m n->False):=by
   intro c j hq;have na:a≠ .any:=fun e=>by subst e;simp[R4]at j
   have nb:b≠ .any:=by
    intro e;subst e;have:∀d,aC2 P (d+1) t a .any=none:=by
     intro d;simp only[aC2];split<;>(try rfl)<;>(try (split<;>first|rfl| (rename_i h;cases h)|skip))
     all_goals (first| (unfold aJ4;split<;>first|rfl| (rename_i h;cases h;done)| (simp[ag4]))| (unfold bd1;split<;>first|rfl| (rename_i h;cases h;done))| (unfold ak4;split<;>first|rfl| (rename_i h;cases h;done))| (unfold bd0;split<;>first|rfl| (rename_i h;cases h;done))|simp_all)
    grind
   refine⟨fun k p k' q r A=>?_,fun p q r A=>?_,fun f m n e=>?_⟩
   ·subst r;subst A
    obtain⟨e,rfl⟩:=g.not_int.resolve_left na;obtain⟨e',rfl⟩:=hb.not_int.resolve_left nb
    grind
   ·subst r;subst A
    obtain⟨e,rfl⟩:=g.not_str.resolve_left na;obtain⟨e',rfl⟩:=hb.not_str.resolve_left nb
    grind
   ·subst e;exact nb hb.not_complex
  split
  ·cases j:R4 P t a with
   |false=>exact OKp.fail
   |true=>
    simp only[bB8];split
    ·rename_i c hc
     obtain⟨k1,k2,k3⟩:=key c j hc;refine OKp.ret ⟨_,F5 ?_,.bool c⟩;rw[K4 k1 k2 k3];simp only[ad1 g j,bB8,au2 _ _ _ _ _ _ _ g hb hc]
    ·exact OKp.fail
  ·cases j:R4 P t a with
   |false=>exact OKp.fail
   |true=>
    simp only[bB8];split
    ·rename_i c hc
     obtain⟨k1,k2,k3⟩:=key c j hc;refine OKp.ret ⟨_,F5 ?_,VD.bool' (u7 c)⟩;rw[K4 k1 k2 k3];simp only[ad1 g j,bB8,au2 _ _ _ _ _ _ _ g hb hc]
    ·exact OKp.fail
  ·exact OKp.fail
theorem bp5 {t:TypeId}(g:VD P U τ F a v)(hb:VD P U τ F b u):OKp U (bp4 P U op t a b) s fun c=>∃w,T8 P op t v u=some w/\VD P U τ F c w:=by
 unfold bp4;split
 ·rename_i len h
  unfold aN7 at h;split at h
  ·rename_i t' ht
   split at h
   ·rename_i b' z off f cap
    simp only[bA1]at h;subst h;have j:E2 P t v=true:=ad1 g rfl;cases hb;intro Q hq hf;cases g with
    |sl _ _ _ _ _ i o c k h0 h1 hc=>
     refine⟨_,_,(hq false).2 (fun h=>by rw[E.pr_iff]at h;cases h),⟨rfl,rfl,⟨[],rfl⟩,rfl⟩,hf,.bool false,F5 ?_,.bool (.bool false)⟩
     rw[K4 (fun _ _ _ _ h=>by cases h) (fun _ _ h=>by cases h) (fun _ _ _ h=>by cases h)]
     simp only[j,bB8];simp[xeq,ht]
    |sl0 _ _ _ _ _ k h0 h1 hc=>
     have hp:(A3 f (.int 0)).pr U:=(E.pr_iff U _).2 (by rw[D7];simp only[h1];rfl)
     refine⟨_,_,(hq true).1 ((E.pr_iff U _).2 rfl) hp,⟨rfl,rfl,⟨[(A3 f (.int 0),true)],rfl⟩,rfl⟩,hf.cons ((E.pr_iff U _).1 hp),.bool true,F5 ?_,.bool (.bool true)⟩;rw[K4 (fun _ _ _ _ h=>by cases h) (fun _ _ h=>by cases h) (fun _ _ _ h=>by cases h)]
     simp only[j,bB8];simp[xeq,ht]
   ·rename_i t' L clip
    cases h;have j:E2 P t v=true:=ad1 g rfl;cases hb;intro Q hq hf;cases g with
    |lst _ _ _ _ m _=>
     have key:∀(v:Value) (d:Dat),PV P F (.sl t') v d->v= .slice none 0 0->d.rows=[]:=fun v d h e=>by
      cases h with
      |nils=>rfl
      |vague=>rfl
      |sl=>cases e
     have p:∀(v:Value) (d:Dat),PV P F (.sl t') v d->v= .slice none 0 0\/ ∃a l c,v= .slice (some a) l c:=fun v d h=>by
      cases h with
      |nils=>grind
      |vague=>grind
      |sl=>grind
     by_cases q:v= .slice none 0 0
     ·subst q
      have r:(L.toR U).length=0:=by have h0:=key _ (.lst (L.toR U)) m rfl;rw[show L.toR U=[]from h0];rfl
      have hp:(A3 (i9 L) (.int 0)).pr U:=(E.pr_iff U _).2 (by rw[D7];show decide ((i9 L).toI U=(E.int 0).toI U)=true;rw[c9,r];rfl)
      refine⟨_,_,(hq true).1 ((E.pr_iff U _).2 rfl) hp,⟨rfl,rfl,⟨[(A3 (i9 L) (.int 0),true)],rfl⟩,rfl⟩,hf.cons ((E.pr_iff U _).1 hp),.bool true,F5 ?_,.bool (.bool true)⟩;rw[K4 (fun _ _ _ _ h=>by cases h) (fun _ _ h=>by cases h) (fun _ _ _ h=>by cases h)]
      simp only[j,bB8];simp[xeq,ht]
     ·have hs:∃a l c,v= .slice (some a) l c:=(p _ _ m).resolve_left q
      obtain⟨a,l,c,rfl⟩:=hs;refine⟨_,_,(hq false).2 (fun h=>by rw[E.pr_iff]at h;cases h),⟨rfl,rfl,⟨[],rfl⟩,rfl⟩,hf,.bool false,F5 ?_,.bool (.bool false)⟩
      rw[K4 (fun _ _ _ _ h=>by cases h) (fun _ _ h=>by cases h) (fun _ _ _ h=>by cases h)]
      simp only[j,bB8];simp[xeq,ht]
   ·cases h
  ·cases h
 ·exact bv7 g hb
theorem bu0 (r:Int):(Utf8.encode r).data.toList.length<=4:=by
 unfold Utf8.encode;simp only[];generalize (if Utf8.valid r=true then r.toNat else Utf8.runeError)=c
 by_cases h1:c<0x80
 ·rw[bC3 h1];exact bA5 rfl
 ·rw[bC1 h1]
  by_cases h2:c<0x800
  ·rw[bC3 h2];exact bA5 rfl
  ·rw[bC1 h2]
   by_cases h3:c<0x10000
   ·rw[bC3 h3];exact bA5 rfl
   ·rw[bC1 h3];exact bA5 rfl
theorem bp8 {src dst:TypeId}(f:VD P U τ F a v):OKp U (bp7 P U src dst a) s fun c=>∃w,ab7 P src dst v=some w/\VD P U τ F c w:=by
 unfold bp7;split
 ·exact OKp.fail
 ·rename_i d hd
  split
  ·rename_i k k0 e hk
   cases f;split
   ·rename_i n
    exact OKp.ret ⟨.int k (k.wrap n),by simp only[ab7,hd,hk];rfl,VD.int' rfl⟩
   ·cases Nat.blt k.bits k0.bits with
    |true=>exact OKp.ret ⟨.int k (k.wrap (e.toI U)),by simp only[ab7,hd,hk],VD.int' rfl⟩
    |false=>exact OKp.need.bind fun _ s' _ _ hp=>OKp.ret ⟨.int k (k.wrap (e.toI U)),by simp only[ab7,hd,hk],VD.int' (bp2 hp).symm⟩
  ·rename_i e hk
   cases f;exact OKp.ret ⟨_,by simp only[ab7,hd,hk],.str e⟩
  ·rename_i e hk
   cases f;intro Q hq hf;exact⟨_,_,hq (Utf8.encode (e.toI U)).data.toList ((E.pr_iff U _).2 (by rw[s9];exact decide_eq_true (by have:=bu0 (e.toI U);show((Utf8.encode (e.toI U)).data.toList.length:Int)<5;omega))),⟨rfl,rfl,⟨[],rfl⟩,rfl⟩,hf,.string (Utf8.encode (e.toI U)),by simp only[ab7,hd,hk,bt1],.str (.dat _ (.str _))⟩
  ·exact OKp.fail
theorem bz3 {op:UnOp}(f:VD P U τ F a v):OKp U (sun U op a) s fun c=>∃w,xun op v=some w/\VD P U τ F c w:=by
 unfold sun;split
 ·cases f
  exact(aa5 (j5 _ _)).mono fun c h=>⟨_,rfl,h⟩
 ·cases f
  exact OKp.ret ⟨_,rfl,VD.bool' (u7 _)⟩
 ·exact OKp.fail
theorem bi2 {t:TypeId}(c:VD P U τ F a v)(e:aX5 P t a=some b):∃w,ah5 P t v=some w/\VD P U τ F b w:=by
 unfold aX5 at e;unfold ah5;cases h:P.underlying t with
 |none=>grind
 |some d=>
  rw[h]at e;cases d<;>first
   | (simp at e;done)
   | (simp only[bA1]at e;subst e;exact⟨_,rfl,.iface t a v c⟩)
theorem aJ8 {big:Bool}:∀ {l:List SV} {xs:List Value} {a:SV} {v:Value} {s:SS},VD P U τ F a v->VDL P U τ F l xs->OKp U (bi4 U big a l) s fun c=>∃w,Y4 big v xs=some w/\VD P U τ F c w
 | [],xs,a,v,s,f,hl=>by
  have:xs=[]:=bA7 hl.1.symm;subst this;unfold bi4;split
  ·cases f;exact OKp.ret ⟨_,rfl,.int _ _⟩
  ·exact OKp.fail
 |b::l,xs,a,v,s,f,hl=>by
  obtain⟨y,ys,rfl,hb,g⟩:=hl.uncons;unfold bi4;split
  ·rename_i k x k' z
   cases f;cases hb;refine OKp.test.bind fun t s' _ _ ht=>?_
   have e:(bif big then(bif decide (x.toI U<z.toI U)then z.toI U else x.toI U)else(bif decide (z.toI U<x.toI U)then z.toI U else x.toI U))=(bif t then z else x).toI U:=by
    cases big
    ·simp only[bB9,s9]at ht⊢;rw[ht];cases t<;>rfl
    ·simp only[bB8,s9]at ht⊢;rw[ht];cases t<;>rfl
   have:=aJ8 (big:=big) (s:=s') (VD.int' (P:=P) (τ:=τ) (F:=F) (k:=k) e.symm) g;exact this
  ·exact OKp.fail
end
end Go.Sx
namespace Go.Sx
open Go.Xe
section
variable {P :Program}{U:Nat->List Dat->Dat}
structure Ext (τ:Tau)(F:Nat->Option Blk)(s:SS)(hp:Hp)(τ':Tau)(F':Nat->Option Blk)(s':SS)(hp':Hp):Prop where
 t:Tle τ τ'
 f:Fle F F'
 nx:hp.nx<=hp'.nx
 snx:s.nx<=s'.nx
 st:∀b,b<s.nx->τ' b=τ b
 low:∀b x,s'.get b=some x->b<s.nx-> ∃y,s.get b=some y
 hh:∃l,s'.h=l++s.h/\(∀i,i<hp.nx->(∀b x o,s.get b=some x->τ b=some (some (i,o))->b∈l.map Prod.fst->False)->hp'.m.get i=hp.m.get i)/\
  (∀b i o,s.nx<=b->τ' b=some (some (i,o))->hp.nx<=i\/ ∃b0 x o0,s.get b0=some x/\τ b0=some (some (i,o0))/\b0∈l.map Prod.fst)/\
  (∀i y,i<hp.nx->F' i=some y->F i=some y\/ ∃b o,τ' b=some (some (i,o))/\b∈l.map Prod.fst)/\
  ((∀p∈l,p.2≠none)-> ∀i y,F' i=some y->F i=some y)
 hf:∃l,s'.fc=l++s.fc
 win:∃l,s'.h=l++s.h/\ ∀b c e z i o cs n,s.get b=some (.cells c e z)->τ b=some (some (i,o))->i<hp.nx->hp.m.get i=some (.cells cs n e z)->(∀x,(b,x)∈l-> ∃c',x=some (.cells c' e z)/\c'.length=c.length)->
  ∃cs',hp'.m.get i=some (.cells cs' n e z)/\ ∀j,j<o\/o+c.length<=j->cs'.get j=cs.get j
variable {b:Nat}
theorem by4 {l m : List (Nat × Option n5)}  {c : List SV} {e z : Nat} {x0 : n5} (h0 : (match lk m b with | some x => x | none => none) = some x0) (hx : ∃ c0, x0 = .cells c0 e z ∧ c0.length = c.length) (h : ∀ x, (b, x) ∈ l → ∃ c', x = some (.cells c' e z) ∧ c'.length = c.length) :
  ∃c',(match lk (l++m) b with|some x=>x|none=>none)=some (.cells c' e z)/\c'.length=c.length:=by
 induction l with
 |nil=>obtain⟨c0,rfl,h2⟩:=hx;exact⟨c0,h0,h2⟩
 |cons p l f=>
  obtain⟨k,y⟩:=p;rw[bG2,j4]
  by_cases hk:k=b
  ·subst hk
   obtain⟨c',h1,h2⟩:=h y (List.mem_cons_self ..);rw[bC3 rfl];exact⟨c',h1,h2⟩
  ·rw[bC1 hk]
   exact f fun x hx=>h x (bF9 _ hx)
variable {τ':Tau}{F':Nat->Option Blk}{s':SS}{hp':Hp}
theorem Ext.kept {τ:Tau}{F:Nat->Option Blk}{s:SS}{hp:Hp}(h:Ext τ F s hp τ' F' s' hp'):∀i,i<hp.nx->(∀b x o,s.get b=some x->τ b=some (some (i,o))->False)->hp'.m.get i=hp.m.get i:=by
 obtain⟨l,_,h1,_⟩:=h.hh
 grind
theorem Ext.fresh {τ:Tau}{F:Nat->Option Blk}{s:SS}{hp:Hp}(h:Ext τ F s hp τ' F' s' hp'):∀b i o,s.nx<=b->τ' b=some (some (i,o))->hp.nx<=i\/ ∃b0 x o0,s.get b0=some x/\τ b0=some (some (i,o0)):=by
 obtain⟨l,_,_,h1,_⟩:=h.hh
 grind
variable {x:n5}
theorem SD.bound {τ:Tau}{F:Nat->Option Blk}{s:SS}{hp:Hp}(h:SD P U τ F s hp)(hb:s.get b=some x):b<s.nx:=by
 have:τ b≠none:=by rcases h.live b x hb with⟨i,o,y,h1,_⟩| ⟨h1,_⟩<;>rw[h1]<;>simp
 exact Nat.lt_of_not_le fun c=>this (h.new b c)
theorem Ext.refl {τ:Tau}{F:Nat->Option Blk}{s:SS}{hp:Hp}(h:SD P U τ F s hp):Ext τ F s hp τ F s hp:=
 ⟨Tle.refl τ,Fle.refl F,bC4 _,bC4 _,fun _ _=>rfl,fun b x hb _=>⟨x,hb⟩,⟨[],rfl,fun _ _ _=>rfl,fun b i o hb ht=>(by rw[h.new b hb]at ht;cases ht),fun _ _ _ h=>.inl h,fun _ _ _ h=>h⟩,⟨[],rfl⟩,⟨[],rfl,fun _ _ _ _ _ _ cs _ _ _ _ c _=>⟨cs,c,fun _ _=>rfl⟩⟩⟩
variable {F2:Nat->Option Blk}
theorem Ext.trans {τ τ1 τ2 : Tau} {F F1:Nat → Option Blk} {s s1 s2 : SS} {hp hp1 hp2 : Hp} (h : Ext τ F s hp τ1 F1 s1 hp1) (k : Ext τ1 F1 s1 hp1 τ2 F2 s2 hp2) : Ext τ F s hp τ2 F2 s2 hp2 := by
 obtain⟨C,a1,a2,a3,a4,a5⟩:=h.hh;obtain⟨D,E,G,H,I,J⟩:=k.hh;refine⟨h.t.trans k.t,h.f.trans k.f,bF8 h.nx k.nx,bF8 h.snx k.snx,fun b hb=>?_,fun b x hb hlt=>?_,⟨D++C,by rw[E,a1,bB5],fun i hi hn=>?_,fun b i o hb ht=>?_,fun i y hi hy=>?_,fun hp i y hy=>a5 (fun p h=>hp p (bI3 _ h)) i y (J (fun p h=>hp p (bJ0 _ h)) i y hy)⟩,?_,?_⟩
 ·rw[k.st b (bF3 hb h.snx),h.st b hb]
 ·obtain⟨y,hy⟩:=k.low b x hb (bF3 hlt h.snx)
  exact h.low b y hy hlt
 ·rw[G i (bF3 hi h.nx) ?_,a2 i hi fun b x o hb ht hm=>hn b x o hb ht (by simp only[bE8,bD8];exact .inr hm)]
  intro b x o hb ht hm
  by_cases hlt:b<s.nx
  ·obtain⟨y,hy⟩:=h.low b x hb hlt
   rw[h.st b hlt]at ht
   grind
  ·grind
 ·have key : ∀ b i o, s.nx ≤ b → τ1 b = some (some (i, o)) → hp.nx ≤ i ∨ ∃ b0 x o0, s.get b0 = some x ∧ τ b0 = some (some (i, o0)) ∧ b0 ∈ ( D ++  C).map Prod.fst := by
   grind
  by_cases hlt:b<s1.nx
  ·rw[k.st b hlt]at ht
   grind
  ·rcases H b i o (bH7 hlt) ht with h1| ⟨b0,y,o0,h1,h2,h3⟩
   ·exact .inl (bF8 h.nx h1)
   ·by_cases g:b0<s.nx
    ·obtain⟨z,hz⟩:=h.low b0 y h1 g
     rw[h.st b0 g]at h2
     grind
    ·grind
 ·rcases I i y (bF3 hi h.nx) hy with h1| ⟨b,o,h1,h2⟩
  ·rcases a4 i y hi h1 with h2| ⟨b,o,h2,h3⟩
   ·grind
   ·exact .inr ⟨b,o,k.t _ _ h2,by simp only[bE8,bD8];exact .inr h3⟩
  ·grind
 ·obtain⟨l,e⟩:=h.hf;obtain⟨m,e'⟩:=k.hf;exact⟨m++l,by rw[e',e,bB5]⟩
 ·obtain⟨l,B,S⟩:=h.win
  obtain⟨m,L,T⟩:=k.win;refine⟨m++l,by rw[L,B,bB5],fun b c e z i o cs n hb ht hi R hl=>?_⟩
  obtain⟨w,M,N⟩:=S b c e z i o cs n hb ht hi R fun x hx=>hl x (bI3 _ hx)
  obtain⟨K,q,r⟩:=by4 (l:=l) (m:=s.h) (b:=b) (c:=c) (e:=e) (z:=z) hb ⟨c,rfl,rfl⟩ fun x hx=>hl x (bI3 _ hx)
  rw[<-B]at q;obtain⟨A,O,Q⟩:=T b K e z i o w n q (h.t _ _ ht) (bF3 hi h.nx) M fun x hx=>let⟨c',q1,q2⟩:=hl x (bJ0 _ hx);⟨c',q1,q2.trans r.symm⟩
  exact⟨A,O,fun j hj=>(Q j (by rw[r];exact hj)).trans (N j hj)⟩
theorem SD.only {τ:Tau}{F:Nat->Option Blk}{s:SS}{hp:Hp}(h:SD P U τ F s hp)(f:O1 s s')(hf:FT U s'.fc):SD P U τ F s' hp:=
 ⟨fun b x hb=>h.live b x (by rw[<-f.get];exact hb),fun b c x y i o j q hb hc=>h.inj b c x y i o j q (by rw[<-f.get];exact hb) (by rw[<-f.get];exact hc),
  h.frz,h.lt,h.flt,fun b hb=>h.new b (by rw[<-f.nx];exact hb),hf,fun r hr=>h.fz r (by rw[<-f.fz];exact hr)⟩
theorem Ext.only {τ:Tau}{F:Nat->Option Blk}{s:SS}{hp:Hp}(h:SD P U τ F s hp)(c:O1 s s'):Ext τ F s hp τ F s' hp:=
 ⟨Tle.refl τ,Fle.refl F,bC4 _,by rw[c.nx];exact bC4 _,fun _ _=>rfl,fun b x hb _=>⟨x,by rw[<-c.get];exact hb⟩,
  ⟨[],by rw[c.h];rfl,fun _ _ _=>rfl,fun b i o hb ht=>(by rw[h.new b hb]at ht;cases ht),fun _ _ _ h=>.inl h,fun _ _ _ h=>h⟩,c.fc,⟨[],by rw[c.h];rfl,fun _ _ _ _ _ _ cs _ _ _ _ f _=>⟨cs,f,fun _ _=>rfl⟩⟩⟩
variable (P U) in
def OKh {α:Type}(m:M α)(τ:Tau)(F:Nat->Option Blk)(s:SS)(hp:Hp)(R:α->Tau->(Nat->Option Blk)->Hp->Prop):Prop:=
 ∀Q,(m s).vc U Q->SD P U τ F s hp-> ∃a s',Q (a,s')/\ ∃τ' F' hp',Ext τ F s hp τ' F' s' hp'/\SD P U τ' F' s' hp'/\R a τ' F' hp'
variable {τ :Tau}{F:Nat->Option Blk}{s:SS}{hp:Hp}
theorem OKh.ret {α:Type}{a:α}{R:α->Tau->(Nat->Option Blk)->Hp->Prop}(h:R a τ F hp):OKh P U (b9 a) τ F s hp R:=fun _ hq hs=>⟨a,s,hq,τ,F,hp,Ext.refl hs,hs,h⟩
theorem OKh.fail {α:Type}{t:String}{R:α->Tau->(Nat->Option Blk)->Hp->Prop}:OKh P U (a6 t:M α) τ F s hp R:=fun _ hq _=>hq.elim
theorem OKp.up {α:Type}{m:M α}{R:α->Prop}(h:OKp U m s R):OKh P U m τ F s hp fun a τ' F' hp'=>τ'=τ/\F'=F/\hp'=hp/\R a:=by
 intro Q hq hs;obtain⟨a,s',h1,h2,h3,h4⟩:=h Q hq hs.fc;exact⟨a,s',h1,τ,F,hp,Ext.only hs h2,hs.only h2 h3,rfl,rfl,rfl,h4⟩
theorem OKh.mono {α:Type}{m:M α}{R c:α->Tau->(Nat->Option Blk)->Hp->Prop}(h:OKh P U m τ F s hp R)(hr:∀a τ' F' hp',Tle τ τ'->Fle F F'->R a τ' F' hp'->c a τ' F' hp'):OKh P U m τ F s hp c:=by
 intro Q hq hs;obtain⟨a,s',h1,τ',F',hp',h2,h3,h4⟩:=h Q hq hs;exact⟨a,s',h1,τ',F',hp',h2,h3,hr _ _ _ _ h2.t h2.f h4⟩
theorem OKh.bind {α f : Type} {m : M α} {k : α → M f} {R : α → Tau → (Nat → Option Blk) → Hp → Prop} { c : f → Tau → (Nat → Option Blk) → Hp → Prop} (h : OKh P U m τ F s hp R)
  (hk:∀a τ' F' s' hp',Ext τ F s hp τ' F' s' hp'->SD P U τ' F' s' hp'->R a τ' F' hp'->OKh P U (k a) τ' F' s' hp' c):OKh P U (a7 m k) τ F s hp c:=by
 intro Q hq hs;unfold a7 at hq;rw[Tr.vc_bind]at hq;obtain⟨a,s1,h1,τ1,F1,hp1,h2,h3,h4⟩:=h _ hq hs;obtain⟨b,s2,h5,τ2,F2,hp2,g,j,p⟩:=hk a τ1 F1 s1 hp1 h2 h3 h4 Q h1 h3;exact⟨b,s2,h5,τ2,F2,hp2,Ext.trans h2 g,j,p⟩
theorem OKh.read {α:Type}{k:SS->M α}{R:α->Tau->(Nat->Option Blk)->Hp->Prop}(h:OKh P U (k s) τ F s hp R):OKh P U (i7 k) τ F s hp R:=h
theorem OKh.bindp {α f : Type} {m : M α} {k : α → M f} {R : α → Prop} { c : f → Tau → (Nat → Option Blk) → Hp → Prop} (h : OKp U m s R)
  (hk:∀a s',O1 s s'->SD P U τ F s' hp->R a->OKh P U (k a) τ F s' hp c):OKh P U (a7 m k) τ F s hp c:=by
 intro Q hq hs;unfold a7 at hq;rw[Tr.vc_bind]at hq;obtain⟨a,s1,h1,h2,h3,h4⟩:=h _ hq hs.fc;have hs1:=hs.only h2 h3;obtain⟨b,s2,h5,τ2,F2,hp2,g,j,p⟩:=hk a s1 h2 hs1 h4 Q h1 hs1;exact⟨b,s2,h5,τ2,F2,hp2,Ext.trans (Ext.only hs h2) g,j,p⟩
theorem OKh.bindE {α f : Type} {m : M α} {k : α → M f} {R : α → Tau → (Nat → Option Blk) → Hp → Prop} { c : f → Tau → (Nat → Option Blk) → Hp → Prop} (h : OKh P U m τ F s hp R)
  (hk:∀a τ1 F1 s1 hp1,Ext τ F s hp τ1 F1 s1 hp1->SD P U τ1 F1 s1 hp1->R a τ1 F1 hp1-> ∀Q,(k a s1).vc U Q-> ∃b s2,Q (b,s2)/\ ∃τ2 F2 hp2,Ext τ F s hp τ2 F2 s2 hp2/\SD P U τ2 F2 s2 hp2/\c b τ2 F2 hp2):OKh P U (a7 m k) τ F s hp c:=by
 intro Q hq hs;unfold a7 at hq;rw[Tr.vc_bind]at hq;obtain⟨a,s1,h1,τ1,F1,hp1,h2,h3,h4⟩:=h _ hq hs
 grind
theorem Ext.shrink {τ:Tau}{F:Nat->Option Blk}{s:SS}{hp hp2:Hp}(h:Ext τ F s hp τ' F' s' hp')(hn:hp'.nx<=hp2.nx)(hm:∀i,i<hp.nx->hp2.m.get i=hp'.m.get i)(hF:∀i y,F2 i=some y->F' i=some y)(hf:Fle F F2):Ext τ F s hp τ' F2 s' hp2:=by
 obtain⟨l,a1,a2,a3,a4,a5⟩:=h.hh;exact⟨h.t,hf,bF8 h.nx hn,h.snx,h.st,h.low,⟨l,a1,fun i hi f=>by rw[hm i hi];exact a2 i hi f,a3,fun i y hi hy=>a4 i y hi (hF i y hy),fun hp i y hy=>a5 hp i y (hF i y hy)⟩,h.hf,
  let⟨l,g,p⟩:=h.win;⟨l,g,fun b c e z i o cs n hb ht hi j hl=>by rw[hm i hi];exact p b c e z i o cs n hb ht hi j hl⟩⟩
variable {y:Blk}
theorem Ext.dfr {τ:Tau}{F:Nat->Option Blk}{s:SS}{hp:Hp}(h:Ext τ F s hp τ' F' s' hp')(hs:SD P U τ F s hp){r:Nat}(hr:r<hp.nx)(c:hp.m.get r=some y)(hy:y= .dfr\/F r=some y):hp'.m.get r=some y:=by
 rw[h.kept r hr fun b x o hb ht=>?_,c]
 rcases hs.live b x hb with⟨i,o',f,h1,h2,h3,h4⟩| ⟨h1,_⟩
 ·rw[ht]at h1
  cases h1;rw[c]at h2;cases h2
  rcases hy with rfl|hy
  ·cases x with
   |cells l e z=>obtain⟨cs,n,h,_⟩:=h4;cases h
   |rows L e z ph=>obtain⟨cs,n,h,_⟩:=h4;cases h
   |map L kt vt=>obtain⟨_,es,reg,h,_⟩:=h4;cases h
   |iter s p=>obtain⟨_,n,h,_⟩:=h4;cases h
  ·rw[hy]at h3;cases h3
 ·rw[ht]at h1;cases h1
def put (τ:Tau)(b:Nat)(p:Option (Nat×Nat)):Tau:=fun c=>if c=b then some p else τ c
theorem j9 (τ:Tau)(b:Nat)(p:Option (Nat×Nat)):put τ b p b=some p:=by simp[put]
theorem v7 (τ:Tau){c:Nat}(p:Option (Nat×Nat))(h:c≠b):put τ b p c=τ c:=by simp[put,h]
theorem an7 {τ:Tau}(p:Option (Nat×Nat))(h:τ b=none):Tle τ (put τ b p):=fun c q hc=>by
 by_cases e:c=b
 ·grind
 ·rw[v7 τ p e];exact hc
variable {o:Nat}
theorem BD.mono {τ:Tau}{F:Nat->Option Blk}(ht:Tle τ τ')(hf:Fle F F')(h:BD P U τ F o x y):BD P U τ' F' o x y:=by
 cases x with
 |cells l e z=>
  obtain⟨cs,n,h1,h2,h3⟩:=h;exact⟨cs,n,h1,h2,fun j a g=>let⟨x,k1,k2⟩:=h3 j a g;⟨x,k1,k2.mono ht hf⟩⟩
 |rows L e z ph=>
  obtain⟨cs,n,h1,⟨h2,h3,h4,h5⟩,f⟩:=h;exact⟨cs,n,h1,⟨h2,h3,h4,fun r k row d hr hk=>let⟨x,k1,k2⟩:=h5 r k row d hr hk;⟨x,k1,fun kd c=>(k2 kd c).mono P hf⟩⟩,f⟩
 |map L kt vt=>
  obtain⟨h0,es,reg,h1,hr,h2,h3⟩:=h;exact⟨h0,es,reg,h1,hr,h2,fun j row e hr he=>let⟨w,ks,d,k1,k2,k3,m,q⟩:=h3 j row e hr he;⟨w,ks,d,k1,k2,k3,m,q.mono P hf⟩⟩
 |iter s p=>exact h
theorem be4.mono {τ:Tau}{F:Nat->Option Blk}(ht:Tle τ τ')(hf:Fle F F'){r:Nat×E×TypeId×Nat}(h:be4 P U τ F r):be4 P U τ' F' r:=by
 rcases h with⟨i,o,cs,n,h1,h2,h3,h4,h5,f⟩| ⟨h1,h2⟩
 ·exact .inl ⟨i,o,cs,n,ht _ _ h1,hf _ _ h2,h3,h4,h5,fun r k row d hr hk=>let⟨x,k1,k2⟩:=f r k row d hr hk;⟨x,k1,fun kd c=>(k2 kd c).mono P hf⟩⟩
 ·exact .inr ⟨ht _ _ h1,h2⟩
theorem bt5 (hp:Hp)(y:Blk)(i:Nat)(h:i<hp.nx):(hp.m.set hp.nx (some y)).get i=hp.m.get i:=by
 rw[T.get_set,bC1 (by omega)]
def as7 (s:SS)(x:n5):SS:= {s with h:=(s.nx,some x)::s.h,nx:=s.nx+1}
theorem ak6 (s:SS)(x:n5)(b:Nat):(as7 s x).get b=if b=s.nx then some x else s.get b:=by
 have:=SS.get_set s s.nx b (some x);exact this
def V8 (x:n5):M Nat:=fun s=>.ret (s.nx,as7 s x)
theorem SD.alloc (hs : SD P U τ F s hp)  {p : Option (Nat × Nat)}  (hn : hp.nx ≤ hp'.nx) (hk : ∀ i, i < hp.nx → hp'.m.get i = hp.m.get i)
  (hx:(∃i o y,p=some (i,o)/\hp.nx<=i/\i<hp'.nx/\hp'.m.get i=some y/\BD P U (put τ s.nx p) F o x y)\/(p=none/\ ∃L e z ph,x= .rows L e z ph/\L.toR U=[]/\z=(kf P e).length/\ph.toI U<=0)):
  Ext τ F s hp (put τ s.nx p) F (as7 s x) hp'/\SD P U (put τ s.nx p) F (as7 s x) hp':=by
 have h0:τ s.nx=none:=hs.new _ (bC4 _);have ht:=an7 (τ:=τ) p h0;refine⟨⟨ht,Fle.refl F,hn,by simp[as7],fun b hb=>v7 τ p (by omega),fun b y hb hlt=>?_,⟨[(s.nx,some x)],rfl,fun i hi _=>hk i hi,fun b i o hb f=>?_,fun _ _ _ h=>.inl h,fun _ _ _ h=>h⟩,⟨[],rfl⟩,⟨[(s.nx,some x)],rfl,fun _ _ _ _ i _ cs _ _ _ hi D _=>⟨cs,by rw[hk i hi];exact D,fun _ _=>rfl⟩⟩⟩,?_⟩
 ·rw[ak6,bC1 (by omega)]at hb;exact⟨y,hb⟩
 ·by_cases e:b=s.nx
  ·subst e
   rw[j9]at f
   grind
  ·rw[v7 τ p e,hs.new b hb]at f;cases f
 ·have old : ∀ b y, b ≠ s.nx → (as7 s x).get b = some y → s.get b = some y := fun b y e hb => by rw [ak6, bC1 e] at hb; exact hb
  refine⟨fun b y hb=>?_,fun b c y z i o j q hb hc A B g=>?_,fun i y hi=>by rw[hk i (hs.flt i y hi)];exact hs.frz i y hi,fun b i o hb=>?_,fun i y hi=>bF3 (hs.flt i y hi) hn,fun b hb=>?_,hs.fc,fun r hr=>(hs.fz r hr).mono ht (Fle.refl F)⟩
  ·by_cases e:b=s.nx
   ·subst e
    rw[ak6,bC3 rfl,bA1]at hb;subst hb
    rcases hx with⟨i,o,y,rfl,h1,h2,h3,h4⟩| ⟨rfl,h⟩
    ·refine .inl ⟨i,o,y,j9 _ _ _,h3,?_,h4⟩
     cases hF:F i with
     |none=>rfl
     |some b=>exact absurd (hs.flt i b hF) (by omega)
    ·exact .inr ⟨j9 _ _ _,h⟩
   ·rcases hs.live b y (old b y e hb)with⟨i,o,E,h1,h2,h3,h4⟩| ⟨h1,h2⟩
    ·exact .inl ⟨i,o,E,by rw[v7 τ p e];exact h1,by rw[hk i (hs.lt b i o h1)];exact h2,h3,h4.mono ht (Fle.refl F)⟩
    ·exact .inr ⟨by rw[v7 τ p e];exact h1,h2⟩
  ·have new : ∀ c i o, c = s.nx → put τ s.nx p c = some (some (i, o)) → hp.nx ≤ i := by
    intro c i o hc h;subst hc;rw[j9]at h
    grind
   by_cases C:b=s.nx
   ·have h1:=new b i o C B
    have w:c≠s.nx:=fun h=>A (by rw[C,h])
    rw[v7 τ p w]at g;have:=hs.lt c j q g;omega
   ·rw[v7 τ p C]at B
    by_cases w:c=s.nx
    ·have h1:=new c j q w g
     have:=hs.lt b i o B;omega
    ·rw[v7 τ p w]at g
     exact hs.inj b c y z i o j q (old b y C hb) (old c z w hc) A B g
  ·by_cases e:b=s.nx
   ·subst e
    rw[j9]at hb
    grind
   ·rw[v7 τ p e]at hb;exact bF3 (hs.lt b i o hb) hn
  ·have:s.nx+1<=b:=hb
   rw[v7 τ p (by omega)];exact hs.new b (by omega)
variable {i:Nat}
theorem SD.change (hs : SD P U τ F s hp)  {x':n5} (hb : s.get b = some x) (ht : τ b = some (some (i, o)))   (hn : hp'.nx = hp.nx) (hk : ∀ j, j ≠ i → hp'.m.get j = hp.m.get j) (hi : hp'.m.get i = some y) (hd : BD P U τ F o x' y)
  (H:∀c e z c',x= .cells c e z->x'= .cells c' e z->c'.length=c.length-> ∀cs n,hp.m.get i=some (.cells cs n e z)-> ∃cs',y= .cells cs' n e z/\ ∀j,j<o\/o+c.length<=j->cs'.get j=cs.get j:=by intro _ _ _ _ h h';first| (cases h;done)| (cases h';done)):
  Ext τ F s hp τ F (s.set b (some x')) hp'/\SD P U τ F (s.set b (some x')) hp':=by
 refine⟨⟨Tle.refl τ,Fle.refl F,by omega,bC4 _,fun _ _=>rfl,fun c y hc _=>?_,⟨[(b,some x')],rfl,fun j hj A=>hk j (fun e=>A b x o hb (by rw[e];exact ht) (by simp)),fun c j q hc h=>(by rw[hs.new c hc]at h;cases h),fun _ _ _ h=>.inl h,fun _ _ _ h=>h⟩,⟨[],rfl⟩,⟨[(b,some x')],rfl,fun d c e z j q cs n f hq hj B hl=>?_⟩⟩,?_⟩
 ·rw[SS.get_set]at hc
  grind
 ·by_cases h:d=b
  ·subst h
   obtain⟨c',k1,k2⟩:=hl _ (bG5.2 rfl);rw[hb]at f;rw[ht]at hq;simp only[bA1,bA3]at k1 f hq;obtain⟨rfl,rfl⟩:=hq;obtain⟨cs',I,J⟩:=H c e z c' f k1 k2 cs n B;exact⟨cs',by rw[hi,I],J⟩
  ·exact⟨cs,by rw[hk j (hs.inj d b _ x j q i o f hb h hq ht)];exact B,fun _ _=>rfl⟩
 ·have  G : F i = none := by
   rcases hs.live b x hb with⟨L,o',p,h1,_,h3,_⟩| ⟨h1,_⟩
   ·grind
   ·grind
  have g:∀c,(∃y,(s.set b (some x')).get c=some y)-> ∃y,s.get c=some y:=by
   rintro c ⟨y,hc⟩
   rw[SS.get_set]at hc
   grind
  refine⟨fun c z hc=>?_,fun c d y z j q k r hc f w C D=>?_,fun j y hj=>?_,fun c j q h=>by rw[hn];exact hs.lt c j q h,fun j y h=>by rw[hn];exact hs.flt j y h,hs.new,hs.fc,hs.fz⟩
  ·rw[SS.get_set]at hc
   by_cases e:c=b
   ·grind
   ·rw[bC1 e]at hc
    rcases hs.live c z hc with⟨j,q,p,h1,h2,h3,h4⟩|h
    ·refine .inl ⟨j,q,p,h1,?_,h3,h4⟩
     rw[hk j ?_];exact h2;intro E;subst E;exact hs.inj c b z x j q j o hc hb e h1 ht rfl
    ·grind
  ·obtain⟨p,hy⟩:=g c ⟨y,hc⟩
   obtain⟨K,hz⟩:=g d ⟨z,f⟩;exact hs.inj c d p K j q k r hy hz w C D
  ·rw[hk j (fun e=>by rw[e,G]at hj;cases hj)];exact hs.frz j y hj
theorem SD.move (hs : SD P U τ F s hp)  {x':n5} (hb : s.get b = some x) (ht : τ b = some (some (i, o)))  (hn : hp.nx ≤ hp'.nx) (hk : ∀ j, j < hp.nx → j ≠ i → hp'.m.get j = hp.m.get j) {j q : Nat} (hj : j = i ∨ hp.nx ≤ j) (  G : j < hp'.nx)
   (hi:hp'.m.get j=some y) (hd:BD P U (put τ s.nx (some (j,q))) F q x' y):
  Ext τ F s hp (put τ s.nx (some (j,q))) F (as7 (s.set b none) x') hp'/\SD P U (put τ s.nx (some (j,q))) F (as7 (s.set b none) x') hp':=by
 have h0:τ s.nx=none:=hs.new _ (bC4 _);have B:=an7 (τ:=τ) (some (j,q)) h0;have hlt:b<s.nx:=hs.bound hb;have S:i<hp.nx:=hs.lt b i o ht;have L:F i=none:=by
  rcases hs.live b x hb with⟨W,o',M,h1,_,h3,_⟩| ⟨h1,_⟩
  ·grind
  ·grind
 have O:F j=none:=by
  rcases hj with rfl|hj
  ·exact L
  ·cases hF:F j with
   |none=>rfl
   |some w=>exact absurd (hs.flt j w hF) (by omega)
 have Q:∀c,(as7 (s.set b none) x').get c=if c=s.nx then some x' else if c=b then none else s.get c:=by
  intro c;rw[ak6,SS.get_set];rfl
 refine⟨⟨B,Fle.refl F,hn,by simp[as7,SS.set],fun c hc=>v7 τ _ (by omega),fun c y hc hlt=>?_,⟨[(s.nx,some x'),(b,none)],rfl,fun k f K=>hk k f (fun e=>K b x o hb (by rw[e];exact ht) (by simp)),fun c k r hc h=>?_,fun _ _ _ h=>.inl h,fun _ _ _ h=>h⟩,⟨[],rfl⟩,⟨[(s.nx,some x'),(b,none)],rfl,fun d c e z j' T cs n p hq G R hl=>?_⟩⟩,?_⟩
 ·grind
 rotate_left
 ·by_cases h:d=b
  ·subst h
   obtain⟨c',k1,_⟩:=hl none (by simp)
   cases k1
  ·exact⟨cs,by rw[hk j' G (hs.inj d b _ x j' T i o p hb h hq ht)];exact R,fun _ _=>rfl⟩
 rotate_left
 ·by_cases e:c=s.nx
  ·subst e;rw[j9]at h;simp only[bA1,bA3]at h
   grind
  ·rw[v7 τ _ e,hs.new c hc]at h;cases h
 ·have inv : ∀ c z, (as7 (s.set b none) x').get c = some z → c ≠ s.nx → c ≠ b ∧ s.get c = some z := by
   grind
  have apart:∀c z k r,c≠b->s.get c=some z->τ c=some (some (k,r))->k≠j:=by
   intro c z k r e hc h J;subst J
   rcases hj with rfl|hj
   ·exact hs.inj c b z x _ r _ o hc hb e h ht rfl
   ·have:=hs.lt c _ r h;omega
  refine⟨fun c z hc=>?_,fun c d y z k r k' V hc p H D E=>?_,fun k y f=>?_,fun c k r h=>?_,fun k y h=>bF3 (hs.flt k y h) hn,fun c hc=>?_,hs.fc,fun r hr=>(hs.fz r hr).mono B (Fle.refl F)⟩
  ·by_cases e:c=s.nx
   ·subst e
    rw[Q,bC3 rfl,bA1]at hc;subst hc;exact .inl ⟨j,q,y,j9 _ _ _,hi,O,hd⟩
   ·obtain⟨e',g⟩:=inv c z hc e
    rcases hs.live c z g with⟨k,r,M,h1,h2,h3,h4⟩| ⟨h1,h2⟩
    ·refine .inl ⟨k,r,M,by rw[v7 τ _ e];exact h1,?_,h3,h4.mono B (Fle.refl F)⟩
     rw[hk k (hs.lt c k r h1) ?_];exact h2;intro J;subst J;exact hs.inj c b z x _ r _ o g hb e' h1 ht rfl
    ·exact .inr ⟨by rw[v7 τ _ e];exact h1,h2⟩
  ·by_cases I:c=s.nx
   ·subst I
    have C:d≠s.nx:=fun h=>H h.symm
    rw[j9]at D;simp only[bA1,bA3]at D;obtain⟨rfl,_⟩:=D;obtain⟨e',A⟩:=inv d z p C;rw[v7 τ _ C]at E
    grind
   ·obtain⟨e',g⟩:=inv c y hc I
    rw[v7 τ _ I]at D
    by_cases C:d=s.nx
    ·subst C
     rw[j9]at E;simp only[bA1,bA3]at E
     grind
    ·obtain⟨N,A⟩:=inv d z p C
     rw[v7 τ _ C]at E;exact hs.inj c d y z k r k' V g A H D E
  ·rw[hk k (hs.flt k y f) (fun e=>by rw[e,L]at f;cases f)];exact hs.frz k y f
  ·by_cases e:c=s.nx
   ·subst e;rw[j9]at h;simp only[bA1,bA3]at h
    grind
   ·rw[v7 τ _ e]at h;exact bF3 (hs.lt c k r h) hn
  ·have:s.nx+1<=c:=hc
   rw[v7 τ _ (by omega)];exact hs.new c (by omega)
theorem SD.freeze (hs : SD P U τ F s hp)   (hb : s.get b = some x) (ht : τ b = some (some (i, o)))  (hi : hp.m.get i = some y) :
  ∃F',Fle F F'/\F' i=some y/\Ext τ F s hp τ F' (s.set b none) hp/\SD P U τ F' (s.set b none) hp:=by
 have H:F i=none:=by
  rcases hs.live b x hb with⟨I,o',A,h1,_,h3,_⟩| ⟨h1,_⟩
  ·grind
  ·grind
 have hF:Fle F (fun j=>if j=i then some y else F j):=fun j w hj=>by
  grind
 have inv:∀c z,(s.set b none).get c=some z->c≠b/\s.get c=some z:=by
  intro c z hc;rw[SS.get_set]at hc
  grind
 refine⟨fun j=>if j=i then some y else F j,hF,by simp,⟨Tle.refl τ,hF,bC4 _,bC4 _,fun _ _=>rfl,fun c z hc _=>⟨z,(inv c z hc).2⟩,⟨[(b,none)],rfl,fun _ _ _=>rfl,fun c j q hc h=>(by rw[hs.new c hc]at h;cases h),fun j w _ hj=>?_,fun hp=>absurd rfl (hp (b,none) (by simp))⟩,⟨[],rfl⟩,⟨[(b,none)],rfl,fun _ _ _ _ _ _ cs _ _ _ _ E _=>⟨cs,E,fun _ _=>rfl⟩⟩⟩,?_⟩
 ·grind
 refine⟨fun c z hc=>?_,fun c d y z k r k' G hc g p B C=>hs.inj c d y z k r k' G (inv c y hc).2 (inv d z g).2 p B C,fun j w hj=>?_,hs.lt,fun j w hj=>?_,hs.new,hs.fc,fun r hr=>(hs.fz r hr).mono (Tle.refl τ) hF⟩
 ·obtain⟨e,f⟩:=inv c z hc
  rcases hs.live c z f with⟨k,r,A,h1,h2,h3,h4⟩|h
  ·refine .inl ⟨k,r,A,h1,h2,?_,h4.mono (Tle.refl τ) hF⟩
   have:k≠i:=fun D=>by subst D;exact hs.inj c b z x _ r _ o f hb e h1 ht rfl
   grind
  ·grind
 ·by_cases e:j=i
  ·grind
  ·rw[bC1 e]at hj;exact hs.frz j w hj
 ·by_cases e:j=i
  ·subst e;exact hs.lt b _ o ht
  ·rw[bC1 e]at hj;exact hs.flt j w hj
theorem SD.drop (hs:SD P U τ F s hp)(b:Nat):Ext τ F s hp τ F (s.set b none) hp/\SD P U τ F (s.set b none) hp:=by
 have inv:∀c z,(s.set b none).get c=some z->c≠b/\s.get c=some z:=by
  intro c z hc;rw[SS.get_set]at hc
  grind
 exact⟨⟨Tle.refl τ,Fle.refl F,bC4 _,bC4 _,fun _ _=>rfl,fun c z hc _=>⟨z,(inv c z hc).2⟩,⟨[(b,none)],rfl,fun _ _ _=>rfl,fun c j q hc h=>(by rw[hs.new c hc]at h;cases h),fun _ _ _ h=>.inl h,fun _ _ _ h=>h⟩,⟨[],rfl⟩,⟨[(b,none)],rfl,fun _ _ _ _ _ _ cs _ _ _ _ w _=>⟨cs,w,fun _ _=>rfl⟩⟩⟩,
  fun c z hc=>hs.live c z (inv c z hc).2,fun c d y z k r k' A hc f g m p=>hs.inj c d y z k r k' A (inv c y hc).2 (inv d z f).2 g m p,hs.frz,hs.lt,hs.flt,hs.new,hs.fc,hs.fz⟩
end
end Go.Sx
namespace Go.Sx
open Go.Xe
def isI :E->Bool
 | .int _=>true
 | .dat _ (.int _)=>true
 | .op o _=>match o with
  | .add| .sub| .mul| .tdiv| .tmod| .wrap _| .bits _ _| .shl _| .shr _| .len| .slen| .sidx| .srune| .srw| .castI=>true
  |_=>false
 |_=>false
def isB :E->Bool
 | .bool _=>true
 | .dat _ (.bool _)=>true
 | .op .lt [_,_]| .op .eqi [_,_]| .op .eqb [_,_]| .op .eqs [_,_]| .op .lts [_,_]| .op .not [_]| .op .and [_,_]| .op .or [_,_]| .op .castB [_]=>true
 |_=>false
def isS :E->Bool
 | .str _=>true
 | .dat _ (.str _)=>true
 | .op .sapp [_,_]| .op .ssub [_,_,_]| .op .castS [_]=>true
 |_=>false
def isL :E->Bool
 | .dat _ (.lst _)=>true
 | .op .nil _| .op (.rows _ _) _| .op .app [_,_]| .op (.upd _) [_,_,_]| .op .part [_,_,_]| .op .over [_,_,_]| .op .rep (_::_)| .op .castL [_]=>true
 |_=>false
def mkCI (e:E):E:=bif isI e then e else .op .castI [e]
def mkCB (e:E):E:=bif isB e then e else .op .castB [e]
def mkCS (e:E):E:=bif isS e then e else .op .castS [e]
def aa3 (e:E):E:=bif isL e then e else .op .castL [e]
section
variable {U :Nat->List Dat->Dat}
theorem bu3 {e:E}(h:isI e=true):e.den U= .int (e.toI U):=by
 cases e with
 |int n=>rfl
 |dat n d=>cases d<;>first|rfl| (simp[isI]at h)
 |op o as=>
  cases o<;>first
   | (simp[isI]at h;done)
   | (simp only[E.toI,E.den,Sy.den];split<;>rfl)
 |_=>simp[isI]at h
theorem bu2 {e:E}(h:isB e=true):e.den U= .bool (e.den U).toBool:=by
 unfold isB at h;split at h<;>first|rfl|cases h
theorem bu5 {e:E}(h:isS e=true):e.den U= .str (e.den U).toStr:=by
 unfold isS at h;split at h<;>first|rfl|cases h
theorem bu4 {e:E}(h:isL e=true):e.den U= .lst (e.toR U):=by
 unfold isL at h;split at h<;>first|rfl|cases h
theorem bm9 (e:E):(mkCI e).den U= .int (e.toI U):=by
 unfold mkCI;cases h:isI e with
 |true=>exact bu3 h
 |false=>rfl
theorem bm8 (e:E):(mkCB e).den U= .bool (e.den U).toBool:=by
 unfold mkCB;cases h:isB e with
 |true=>exact bu2 h
 |false=>rfl
theorem bn0 (e:E):(mkCS e).den U= .str (e.den U).toStr:=by
 unfold mkCS;cases h:isS e with
 |true=>exact bu5 h
 |false=>rfl
theorem aj6 (e:E):(aa3 e).den U= .lst (e.toR U):=by
 unfold aa3;cases h:isL e with
 |true=>exact bu4 h
 |false=>rfl
end
section
variable (P :Program)(U:Nat->List Dat->Dat)
def ag6 (t:TypeId)(x:SV)(f:Nat):Option SV:=
 match P.underlying t with
 |some (.struct fs)=>match fs.toList[f]? with
  |some fd=>match P.info? fd.type with
   |some i=>bif Nat.beq i.size 0 then none else
    match x with
    | .ptr b z row fld=>some (.ptr b z row (fld+fd.offset))
    | .pptr e L row fld=>some (.pptr e L row (fld+fd.offset))
    |_=>none
   |none=>none
  |none=>none
 |_=>none
def ag7 (t:TypeId)(x ix:SV):M SV:=
 match ix with
 | .int _ n=>match P.underlying t with
  |some (.slice e)=>match P.info? e with
   |some ie=>match x with
    | .sl b z off len _=>bif Nat.beq z ie.size then a7 (i3 U (k9 (l6 n (.int 0)))) fun _=>a7 (i3 U (l6 n len)) fun _=>b9 (.ptr b z (l9 off n) 0)else a6 "index: size"
    | .lst e' L _=>bif Nat.beq (kf P e').length ie.size then a7 (i3 U (k9 (l6 n (.int 0)))) fun _=>a7 (i3 U (l6 n (i9 L))) fun _=>b9 (.pptr e' L n 0)else a6 "index: size"
    |_=>a6 "index: no slice"
   |none=>a6 "index: type"
  |some (.array len e)=>match P.info? e with
   |some ie=>match x with
    | .ptr b z row fld=>match n with
     | .int m=>bif decide (0<=m)&&decide (m<len)then b9 (.ptr b z row (fld+m.toNat*ie.size))else a6 "index: array"
     |n=>match row with
      | .int r=>bif decide (0<=r)then a7 (i3 U (k9 (l6 n (.int 0)))) fun _=>a7 (i3 U (l6 n (.int len))) fun _=>b9 (.ptr b ie.size n (r.toNat*z+fld))else a6 "index: array"
      |_=>a6 "index: array"
    | .pptr e' L row fld=>match n with
     | .int m=>bif decide (0<=m)&&decide (m<len)then b9 (.pptr e' L row (fld+m.toNat*ie.size))else a6 "index: array"
     |_=>a6 "index: array"
    |_=>a6 "index: array"
   |none=>a6 "index: type"
  |_=>a6 "index: type"
 |_=>a6 "index: no int"
def ldk (t : TypeId) : Option (Bool × Nat) :=
 match P.underlying t with
 | some d => bif ae1 d then
   match P.info? t with
   |some ti=>some (true,ti.size)
   |none=>none
  else some (false,1)
 |none=>none
def bn1 (ag:Bool)(l:List SV):Option SV:=bif ag then some (.agg l)else l.head?
def aE0 (k:Kd)(c:E):Option SV:=
 match k with
 | .int k=>some (.int k c)
 | .bool=>some (.bool c)
 | .str=>some (.str c)
 | .sl e=>some (.lst e c false)
 | .bad=>none
def Z8 (ks:List Kd)(L row:E):Nat->Nat->Option (List SV)
 |_,0=>some []
 |j,n+1=>match ks[j]? with
  |some k=>match aE0 k (aN3 j L row)with
   |some a=>match Z8 ks L row (j+1) n with
    |some l=>some (a::l)
    |none=>none
   |none=>none
  |none=>none
def aC7 (k:Kd)(a:SV):Option E:=
 match k,a with
 | .int k,.int k' e=>bif decide (k=k')then some (mkCI e)else none
 | .bool,.bool e=>some (mkCB e)
 | .str,.str e=>some (mkCS e)
 | .sl _,.nils=>some (.op .nil [])
 | .sl e,.lst e' L _=>bif Nat.beq e e' then some (aa3 L)else none
 |_,_=>none
def bj1 (ks:List Kd):Nat->List SV->Option (List E)
 |_,[]=>some []
 |j,a::l=>match ks[j % ks.length]? with
  |some k=>match aC7 k a with
   |some e=>match bj1 ks (j+1) l with
    |some es=>some (e::es)
    |none=>none
   |none=>none
  |none=>none
def ay3 (e:TypeId)(z:Nat)(l:List SV):Option E:=
 bif Nat.ble 1 z&&Nat.beq z (kf P e).length&&Nat.beq (l.length/z*z) l.length then
  match bj1 (kf P e) 0 l with
  |some es=>some (.op (.rows (l.length/z) z) es)
  |none=>none
 else none
def N9 (ag:Bool)(n:Nat)(e:TypeId)(L row:E)(fld:Nat):Option SV:=
 match Z8 (kf P e) L row fld n with
 |some l=>bn1 ag l
 |none=>none
def aE1 (k:IntKind):List SV->Option (List E)
 | []=>some []
 | .int k' e::l=>bif decide (k=k')then match aE1 k l with
  |some es=>some (e::es)
  |none=>none else none
 |_=>none
def bq2 (l:List SV)(row:E):M SV:=match l with
 | .int k e::l'=>match aE1 k (.int k e::l')with
  |some es=>a7 (i3 U (l6 row (.int es.length))) fun _=>b9 (.int k (aN3 0 (.op (.rows es.length 1) es) row))
  |none=>a6 "load: rows"
 |_=>a6 "load: rows"
def bd4 (t:TypeId)(a:SV):M SV:=
 match ldk P t with
 |none=>a6 "load: type"
 |some (ag,n)=>match a with
  | .ptr b z row fld=>i7 fun s=>match s.get b with
   |some (.cells l e _)=>match row with
    | .int r=>bif decide (0<=r)&&Nat.ble (r.toNat*z+fld+n) l.length then ae2 "load" (bn1 ag ((l.drop (r.toNat*z+fld)).take n))else a6 "load: beyond"
    |row=>match ay3 P e z l with
     |some L=>bif Nat.ble (fld+n) z then a7 (i3 U (l6 row (i9 L))) fun _=>ae2 "load" (N9 P ag n e L row fld)else a6 "load: beyond"
     |none=>bif !ag&&Nat.beq z 1&&Nat.beq n 1 then bq2 U (l.drop fld) row else a6 "load: rows"
   |some (.rows L e z' _)=>bif Nat.beq z z'&&Nat.ble (fld+n) z then a7 (i3 U (l6 row (i9 L))) fun _=>ae2 "load" (N9 P ag n e L row fld)else a6 "load: beyond"
   |some (.map _ _ _)=>a6 "load: no block"
   |some (.iter _ _)=>a6 "load: no block"
   |none=>match lk s.fz b with
    |some (L,e,z')=>bif Nat.beq z z'&&Nat.ble (fld+n) z then a7 (i3 U (l6 row (i9 L))) fun _=>ae2 "load" (N9 P ag n e L row fld)else a6 "load: beyond"
    |none=>a6 "load: no block"
  | .pptr e L row fld=>bif Nat.ble (fld+n) (kf P e).length then ae2 "load" (N9 P ag n e L row fld)else a6 "load: beyond"
  |_=>a6 "load: no address"
end
section
variable {P :Program}{U:Nat->List Dat->Dat}{τ:Tau}{F:Nat->Option Blk}{s:SS}{hp:Hp}
variable {fld i o z:Nat}
theorem VD.ptr' {b a:Nat}{row:E}(h:τ b=some (some (i,o)))(h0:0<=row.toI U)(e:a=o+row.toN U*z+fld):VD P U τ F (.ptr b z row fld) (.pointer (some ⟨i,a,none⟩)):=by
 subst e;exact .ptr b z row fld i o h h0
theorem VD.pptr' {t : TypeId} {L row : E} {l c a:Nat} (h : PV P F (.sl t) (.slice (some ⟨i, o, none⟩) l c) (.lst (L.toR U))) (h0 : 0 ≤ row.toI U) (h1 : row.toI U < (L.toR U).length) (e : a = o + row.toN U * (kf P t).length + fld) :
  VD P U τ F (.pptr t L row fld) (.pointer (some ⟨i,a,none⟩)):=by
 subst e;exact .pptr t L row fld i o l c h h0 h1
variable {a:SV}{v:Value}
theorem aC3 {t:TypeId}{b:SV}{f:Nat}(p:VD P U τ F a v)(e:ag6 P t a f=some b):∃w,D2 P t v f=some w/\VD P U τ F b w:=by
 unfold ag6 at e;unfold D2;split at e
 ·rename_i q j
  split at e
  ·rename_i fd g
   split at e
   ·rename_i i hi
    cases hz:Nat.beq i.size 0 with
    |true=>grind
    |false=>
     simp only[hz,bB9]at e;split at e
     ·rename_i b z row fld
      simp only[bA1]at e;subst e;cases p with
      |ptr _ _ _ _ m o h h0=>exact⟨.pointer (some ⟨m,o+row.toN U*z+fld+fd.offset,none⟩),by simp only[j,g,hi,hz,bB9],VD.ptr' h h0 (by omega)⟩
     ·rename_i t L row fld
      simp only[bA1]at e;subst e;cases p with
      |pptr _ _ _ _ m o l c h h0 h1=>exact⟨.pointer (some ⟨m,o+row.toN U*(kf P t).length+fld+fd.offset,none⟩),by simp only[j,g,hi,hz,bB9],VD.pptr' h h0 h1 (by omega)⟩
     ·cases e
   ·cases e
  ·cases e
 ·cases e
theorem q8 {a b:E}(h:(l6 a b).pr U):a.toI U<b.toI U:=by
 rw[E.pr_iff,s9,bC2]at h;exact h
theorem n9 {a b:E}(h:(k9 (l6 a b)).pr U):b.toI U<=a.toI U:=by
 rw[E.pr_iff,u7,s9,bE7,bE9]at h;exact Int.not_lt.1 h
theorem Q0 {a b:E}(h:(A3 a b).pr U):a.toI U=b.toI U:=by
 rw[E.pr_iff,D7,bC2]at h;exact h
theorem PV.len {t:TypeId}{a:Option Addr}{l c:Nat}{d:Dat}(h:PV P F (.sl t) (.slice a l c) d):l=d.rows.length:=by
 cases h<;>rfl
theorem aC4 {t : TypeId} { B:SV} {w:Value} ( p : VD P U τ F a v) (hi : VD P U τ F  B w) : OKp U (ag7 P U t a  B) s fun b => ∃ u, k8 P t v w = some u ∧ VD P U τ F b u := by
 unfold ag7;split
 ·rename_i k n
  cases hi;split
  ·rename_i e he
   split
   ·rename_i ie   f
    split
    ·rename_i b z off len cap
     cases hz:Nat.beq z ie.size with
     |false=>exact OKp.fail
     | true =>
      simp only[bB8];refine OKp.need.bind fun _ s1 _ _ h1=>OKp.need.bind fun _ s2 _ _ h2=>OKp.ret ?_
      have h1:=V4 h1;have h2:=q8 h2;have j:z=ie.size:=bA6 hz;cases p with
      | sl _ _ _ _ _ i o c h h0   q hc =>
       refine⟨.pointer (some ⟨i,o+off.toN U*z+n.toN U*ie.size,none⟩),?_,VD.ptr' h (by rw[f7];omega) ?_⟩
       ·simp only[k8,he,f]
        grind
       ·have : (l9 off n).toN U = off.toN U + n.toN U := by
         show((l9 off n).toI U).toNat=(off.toI U).toNat+(n.toI U).toNat;rw[f7];omega
        grind
      |sl0 _ _ _ _ _ h h0 q hc=>omega
    ·rename_i e' L clip
     cases hz:Nat.beq (kf P e').length ie.size with
     |false=>exact OKp.fail
     |true=>
      simp only[bB8];refine OKp.need.bind fun _ s1 _ _ h1=>OKp.need.bind fun _ s2 _ _ h2=>OKp.ret ?_
      have h1:=V4 h1;have h2:=q8 h2;rw[c9]at h2;have j:(kf P e').length=ie.size:=bA6 hz;cases p with
      |lst _ _ _ _ h hc=>
       have hl:∃i o l c,v= .slice (some ⟨i,o,none⟩) l c:=by
        cases D:L.toR U with
        |nil=>grind
        |cons r G=>
         rw[D]at h;cases h with
         |sl _ i o c b cs n z rows x hF hb C hn A hr hx hp=>grind
       obtain⟨i,o,l,c,rfl⟩:=hl;have g:=h.len;refine⟨.pointer (some ⟨i,o+n.toN U*ie.size,none⟩),?_,VD.pptr' h h1 h2 (by rw[j];omega)⟩
       simp only[k8,he,f];rw[show(decide (0<=n.toI U)&&decide (n.toI U<(l:Int)))=true by
        simp only[bA2,bC2];have:(l:Int)=((L.toR U).length:Int):=by rw[g];rfl
        omega]
       rfl
    ·exact OKp.fail
   ·exact OKp.fail
  ·rename_i len e he
   split
   ·rename_i ie f
    split
    ·rename_i b z row fld
     cases p with
     |ptr _ _ _ _ i o h h0=>
      split
      ·rename_i m
       cases hb:decide (0<=m)&&decide (m<(len:Int))with
       |false=>exact OKp.fail
       |true=>
        simp only[bB8];refine OKp.ret ⟨.pointer (some ⟨i,o+row.toN U*z+fld+m.toNat*ie.size,none⟩),?_,VD.ptr' h h0 (by omega)⟩
        simp only[k8,he,f];rw[show(decide (0<=(E.int m).toI U)&&decide ((E.int m).toI U<(len:Int)))=true from hb];rfl
      ·split
       ·rename_i r
        cases hr:decide (0<=r)with
        |false=>exact OKp.fail
        |true=>
         simp only[bB8];refine OKp.need.bind fun _ s1 _ _ h1=>OKp.need.bind fun _ s2 _ _ h2=>OKp.ret ?_
         have h1:=V4 h1;have h2:=q8 h2;simp only[o6]at h2;refine⟨.pointer (some ⟨i,o+r.toNat*z+fld+n.toN U*ie.size,none⟩),?_,VD.ptr' h h1 (by omega)⟩
         simp only[k8,he,f];rw[show(decide (0<=n.toI U)&&decide (n.toI U<(len:Int)))=true by simp only[bA2,bC2];omega]
         rfl
       ·exact OKp.fail
    ·rename_i e' L row fld
     cases p with
     |pptr _ _ _ _ i o l c h h0 h1=>
      split
      ·rename_i m
       cases hb:decide (0<=m)&&decide (m<(len:Int))with
       |false=>exact OKp.fail
       |true=>
        simp only[bB8];refine OKp.ret ⟨.pointer (some ⟨i,o+row.toN U*(kf P e').length+fld+m.toNat*ie.size,none⟩),?_,VD.pptr' h h0 h1 (by omega)⟩
        simp only[k8,he,f];rw[show(decide (0<=(E.int m).toI U)&&decide ((E.int m).toI U<(len:Int)))=true from hb];rfl
      ·exact OKp.fail
    ·exact OKp.fail
   ·exact OKp.fail
  ·exact OKp.fail
 ·exact OKp.fail
variable {ag:Bool}{k n:Nat}{y:Blk}
theorem bm3 {t : TypeId}   (h : ldk P t = some (ag, n))   {c : T Value} ( p : hp.m.get i = some y) (hr : rdC y = some (c, k, z)) (hk : o + n ≤ k) {vs : List Value} (hl : f9 c o n = some vs) :
  ∃v,A8 P hp t (.pointer (some ⟨i,o,none⟩))=some v/\((ag=true/\v= .agg vs.toArray)\/(ag=false/\vs=[v])):=by
 unfold ldk at h;split at h
 ·rename_i d hd
  cases f:ae1 d with
  |true=>
   simp only[f,bB8]at h;split at h
   ·rename_i q g
    simp only[bA1,bA3]at h;obtain⟨rfl,rfl⟩:=h;refine⟨.agg vs.toArray,?_,.inl ⟨rfl,rfl⟩⟩;simp only[A8,p,hr,hd,f,bB8,g,bA8 hk,hl]
   ·cases h
  |false=>
   simp only[f,bB9,bA1,bA3]at h;obtain⟨rfl,rfl⟩:=h;simp only[f9]at hl;cases j:c.get o with
   |none=>simp[j]at hl
   |some v=>
    simp only[j,bA1]at hl;refine⟨v,?_,.inr ⟨rfl,hl.symm⟩⟩;simp only[A8,p,hr,hd,f,bB9,bA8 hk,bB8,j]
 ·cases h
theorem C0 {c : T Value} {R : Nat → Value → Prop} : ∀ (n o j : Nat), (∀ k, k < n → ∃ x, c.get (o + k) = some x ∧ R (j + k) x) → ∃ vs, f9 c o n = some vs ∧ vs.length = n ∧ ∀ k x, vs[k]? = some x → R (j + k) x
 |0,o,j,_=>⟨[],rfl,rfl,fun k x h=>by simp at h⟩
 | n + 1, o, j, h => by
  obtain⟨x,h1,h2⟩:=h 0 (by omega)
  obtain ⟨vs, h3, h4, h5⟩ := C0 n (o + 1) (j + 1) fun k hk => by
   obtain⟨x,k1,k2⟩:=h (k+1) (by omega)
   exact ⟨x, by rw [← k1]; congr 1; omega, by have : j + 1 + k = j + (k + 1) := by omega
                                              rw[this];exact k2⟩
  refine⟨x::vs,by simp only[f9];rw[show c.get o=some x from h1,h3],by simp[h4],fun k y hy=>?_⟩
  grind
theorem ag3 {t : TypeId}   (h : ldk P t = some (ag, n))   {c : T Value} ( q : hp.m.get i = some y) (  g : rdC y = some (c, k, z)) (hk : o + n ≤ k) {l : List SV} (hl : l.length = n)
  (hc:∀(j:Nat) a,l[j]? =some a-> ∃x,c.get (o+j)=some x/\VD P U τ F a x) (f:bn1 ag l=some a):∃v,A8 P hp t (.pointer (some ⟨i,o,none⟩))=some v/\VD P U τ F a v:=by
 obtain⟨vs,h1,h2,h3⟩:=C0 (c:=c) (R:=fun j x=>∀a,l[j]? =some a->VD P U τ F a x) n o 0 fun j hj=>by
  have:l[j]? =some l[j]:=by simp[hl,hj]
  obtain⟨x,k1,k2⟩:=hc j _ this;exact⟨x,k1,fun a f=>by rw[bD3,this]at f;cases f;exact k2⟩
 obtain⟨v,h4,h5⟩:=bm3 h q g hk h1;refine⟨v,h4,?_⟩;have p:VDL P U τ F l vs:=⟨by rw[hl,h2],fun j a x hj hx=>h3 j x hx a (by rw[bD3];exact hj)⟩
 rcases h5 with⟨rfl,rfl⟩| ⟨rfl,rfl⟩
 ·simp only[bn1,bB8,bA1]at f;subst f;exact p.agg
 ·simp only[bn1,bB9]at f
  cases l with
  |nil=>simp at f
  |cons b l=>simp at f;subst f;exact p.2 0 _ _ rfl rfl
theorem aj2 {k : Kd} {e : E}  {x : Value} (hp : PV P F k x (e.den U)) (h : aE0 k e = some a) : VD P U τ F a x := by
 unfold aE0 at h;generalize hd:e.den U=d at hp;cases hp<;>simp only[bA1]at h<;>subst h
 ·exact VD.int' (by show(e.den U).toInt=_;rw[hd];rfl)
 ·exact VD.bool' (by rw[hd];rfl)
 ·exact VD.str' (by rw[hd];rfl)
 ·exact .lst _ e false _ (by have : e.toR U = [] := by { show (e.den U).rows = _; rw [hd]; rfl }
                             rw[this];exact .nils _) (fun h=>by cases h)
 ·exact .lst _ e false _ (by have : e.toR U = [] := by { show (e.den U).rows = _; rw [hd]; rfl }
                             rw[this];exact .vague _) (fun h=>by cases h)
 ·rename_i i o c b cs n z zb rows x hF hb hc hn hz hr hx   f
  exact .lst _ e false _ (by have : e.toR U = rows := by { show (e.den U).rows = _; rw [hd]; rfl }
                             rw[this];exact .sl _ i o c b cs n z rows x hF hb hc hn hz hr hx f) (fun h=>by cases h)
theorem aj1 {ks:List Kd}{L row:E}:∀ {n j:Nat} {l:List SV},Z8 ks L row j n=some l->l.length=n/\ ∀(q:Nat) a,l[q]? =some a-> ∃k,ks[j+q]? =some k/\aE0 k (aN3 (j+q) L row)=some a
 |0,j,l,h=>by simp only[Z8,bA1]at h;subst h;exact⟨rfl,fun q a h=>by simp at h⟩
 |n+1,j,l,h=>by
  simp only[Z8]at h;split at h
  ·rename_i k hk
   split at h
   ·rename_i a f
    split at h
    ·rename_i l' c
     simp only[bA1]at h;subst h;obtain⟨h1,h2⟩:=aj1 c
     grind
    ·cases h
   ·cases h
  ·cases h
theorem aU4 {rows:Rows}{r:Int}{row:List Dat}{d:Dat}(h1:rows[r.toNat]? =some row)(h2:row[k]? =some d):u5 rows r k=d:=by
 unfold u5
 grind
variable {e:Nat}{cs:T Value}
theorem V2 {t : TypeId}   (h : ldk P t = some (ag, n)) { D:Nat}   ( C : hp.m.get i = some y) (  w : rdC y = some (cs, k,  D)) {L row : E} (hr : j7 P F e z o k cs (L.toR U)) (h0 : 0 ≤ row.toI U) (h1 : row.toI U < (L.toR U).length)  (hf : fld + n ≤ z)
   (p:N9 P ag n e L row fld=some a):∃v,A8 P hp t (.pointer (some ⟨i,o+row.toN U*z+fld,none⟩))=some v/\VD P U τ F a v:=by
 unfold N9 at p;split at p
 ·rename_i l hl
  obtain⟨q,r⟩:=aj1 hl;obtain⟨G,H,A,B⟩:=hr;have f:row.toN U<(L.toR U).length:=by
   show(row.toI U).toNat<_;omega
  have c:(L.toR U)[row.toN U]? =some (L.toR U)[row.toN U]:=by simp[f]
  have g:(L.toR U)[row.toN U].length=z:=A _ (List.getElem_mem f);refine ag3 h C w ?_ q (fun j b hb=>?_) p
  ·have:row.toN U*z+z<=(L.toR U).length*z:=by rw[<-bG7];exact bB4 z f
   omega
  ·obtain⟨kd,h3,h4⟩:=r j b hb
   have hj:j<n:=by have:=(bA4.1 hb).1;omega
   have hk:(L.toR U)[row.toN U][fld+j]? =some ((L.toR U)[row.toN U][fld+j]'(by omega)):=by simp[g,show fld+j<z by omega]
   obtain⟨x,k1,k2⟩:=B _ _ _ _ c hk;refine⟨x,by rw[<-k1];congr 1;omega,aj2 ?_ h4⟩
   rw[aw2,aU4 c hk];exact k2 kd h3
 ·cases p
theorem Q2 {k:Kd}(f:VD P U τ F a v){e:E}(h:aC7 k a=some e):PV P F k v (e.den U):=by
 unfold aC7 at h;split at h
 ·rename_i k k' x
  by_cases hk:k=k'
  ·subst hk
   simp only[bF7,bB8,bA1]at h;subst h;cases f;rw[bm9];exact .int k _
  ·grind
 ·simp only[bA1]at h;subst h;cases f;rw[bm8];exact .bool _
 ·simp only[bA1]at h;subst h;cases f;rw[bn0];exact .str _
 ·simp only[bA1]at h;subst h;cases f;exact .nils _
 ·rename_i e' g L c
  cases hb:Nat.beq e' g with
  |false=>grind
  |true=>
   simp only[hb,bB8,bA1]at h;subst h;have:=bA6 hb;subst this;cases f with
   |lst _ _ _ _ h hc=>rw[aj6];exact h
 ·cases h
theorem am6 {z:Nat}:∀ {n:Nat} {l:List Dat} {r:Nat} {row:List Dat},(chunk z n l)[r]? =some row->row=(l.drop (r*z)).take z
 |0,l,r,row,h=>by simp[chunk]at h
 |n+1,l,0,row,h=>by simp[chunk]at h;simp[h]
 |n+1,l,r+1,row,h=>by
  simp only[chunk,bB2]at h;rw[am6 h,List.drop_drop]
  grind
theorem R3   {es : List E} {N : Nat} (hz : z = (kf P e).length) ( q : es.length = N * z) (hn : o + es.length ≤ n)
  (hc:∀(j:Nat) d,es[j]? =some d-> ∃x,cs.get (o+j)=some x/\ ∀kd,(kf P e)[j % z]? =some kd->PV P F kd x (d.den U)):j7 P F e z o n cs ((E.op (.rows N z) es).toR U):=by
 have p:(E.op (.rows N z) es).toR U=chunk z N (es.map (E.den U)):=by
  show(Dat.lst (chunk z N (E.dens U es))).rows=_;rw[E.dens_eq];rfl
 rw[p];have c:∀r row,(chunk z N (es.map (E.den U)))[r]? =some row->r<N/\row.length=z:=by
  intro r row h;have h1:=(bA4.1 h).1;rw[D5]at h1;refine⟨h1,?_⟩;rw[am6 h];simp only[bD6,List.length_drop,bC0,q];have:r*z+z<=N*z:=by rw[<-bG7];exact bB4 z h1
  omega
 refine⟨by rw[D5];omega,hz,fun row g=>?_,fun r k row d hr hk=>?_⟩
 ·obtain⟨r,hr⟩:=bK1 g
  exact(c r row hr).2
 ·obtain⟨h1,h2⟩:=c r row hr
  have f:k<z:=by have:=(bA4.1 hk).1;omega
  rw[am6 hr,bD4,bC3 f,bE0,bF1]at hk;cases he:es[r*z+k]? with
  |none=>simp[he]at hk
  |some x=>
   simp only[he,bE6,bA1]at hk;obtain⟨y,k1,k2⟩:=hc _ _ he;refine⟨y,by rw[<-k1];congr 1;omega,fun kd m=>?_⟩
   rw[<-hk];exact k2 kd (by rw[show(r*z+k) % z=k by rw[Nat.mul_comm,Nat.mul_add_mod];exact Nat.mod_eq_of_lt f];exact m)
theorem aA0 {ks:List Kd}:∀ {l:List SV} {j:Nat} {es:List E},bj1 ks j l=some es->es.length=l.length/\ ∀(q:Nat) a e,l[q]? =some a->es[q]? =some e-> ∃k,ks[(j+q) % ks.length]? =some k/\aC7 k a=some e
 | [],j,es,h=>by simp only[bj1,bA1]at h;subst h;exact⟨rfl,fun q a e h=>by simp at h⟩
 |a::l,j,es,h=>by
  simp only[bj1]at h;split at h
  ·rename_i k hk
   split at h
   ·rename_i e he
    split at h
    ·rename_i f c
     simp only[bA1]at h;subst h;obtain⟨h1,h2⟩:=aA0 c
     grind
    ·cases h
   ·cases h
  ·cases h
theorem an9 {l:List SV}{L:E}(h:ay3 P e z l=some L)(hn:o+l.length<=n)(hc:∀(j:Nat) a,l[j]? =some a-> ∃x,cs.get (o+j)=some x/\VD P U τ F a x):j7 P F e z o n cs (L.toR U):=by
 unfold ay3 at h;cases hb:Nat.ble 1 z&&Nat.beq z (kf P e).length&&Nat.beq (l.length/z*z) l.length with
 |false=>grind
 |true=>
  rw[hb,bB8]at h;simp only[bA2,bE1,bF4]at hb;obtain⟨⟨h1,h2⟩,h3⟩:=hb;split at h
  ·rename_i es c
   simp only[bA1]at h;subst h;obtain⟨h4,h5⟩:=aA0 c;refine R3 h2 (by rw[h4,h3]) (by rw[h4];exact hn) fun j d hd=>?_
   have hj:j<l.length:=by grind
   have g:l[j]? =some l[j]:=by simp[hj]
   obtain⟨x,k1,k2⟩:=hc j _ g;obtain⟨k,k3,m⟩:=h5 j _ d g hd;refine⟨x,k1,fun kd f=>?_⟩
   rw[bD3,<-h2,f,bA1]at k3;subst k3;exact Q2 k2 m
  ·cases h
theorem am9 {k:IntKind}:∀ {l:List SV} {es:List E},aE1 k l=some es->es.length=l.length/\ ∀(j:Nat) e,es[j]? =some e->l[j]? =some (.int k e)
 | [],es,h=>by simp only[aE1,bA1]at h;subst h;exact⟨rfl,fun j e h=>by simp at h⟩
 |a::l,es,h=>by
  unfold aE1 at h;split at h
  ·grind
  ·rename_i k' e l' c
   cases c;cases hk:decide (k=k')with
   |false=>grind
   |true=>
    rw[hk,bB8]at h;rw[bC2]at hk;subst hk;split at h
    ·rename_i g f
     cases h;obtain⟨h1,h2⟩:=am9 f
     grind
    ·cases h
  ·cases h
theorem Q8 :∀(ds:List Dat) (n:Nat),(chunk 1 ds.length ds)[n]? =(ds[n]?).map fun d=>[d]
 | [],n=>by simp[chunk]
 |d::ds,0=>by simp[chunk]
 |d::ds,n+1=>by simp[chunk,Q8 ds n]
theorem aR2 {t:TypeId}(p:VD P U τ F a v)(hs:SD P U τ F s hp):OKp U (bd4 P U t a) s fun b=>∃u,A8 P hp t v=some u/\VD P U τ F b u:=by
 unfold bd4;split
 ·exact OKp.fail
 ·rename_i ag n f
  split
  ·rename_i b z row fld
   refine OKp.read ?_;split
   ·rename_i l e C hb
    rcases hs.live b _ hb with⟨i,o,y,h1,h2,_,cs,k,rfl,h4,h5⟩| ⟨h1,N,e',M,ph,h2,_⟩
    ·cases p with
     |ptr _ _ _ _ B o' h h0=>
      rw[h1]at h;simp only[bA1,bA3]at h;obtain⟨rfl,rfl⟩:=h;split
      ·rename_i r
       cases hq:decide (0<=r)&&Nat.ble (r.toNat*z+fld+n) l.length with
       |false=>exact OKp.fail
       |true=>
        simp only[bB8];simp only[bA2,bC2,bF4]at hq;refine OKp.opt fun c hc=>?_
        refine ag3 f h2 rfl (o:=o+(E.int r).toN U*z+fld) ?_ (l:=(l.drop (r.toNat*z+fld)).take n) ?_ (fun j b hb=>?_) hc
        ·show o+r.toNat*z+fld+n<=k;omega
        ·grind
        ·rw[bD4]at hb
         split at hb
         ·rw[bE0]at hb
          obtain⟨x,k1,k2⟩:=h5 _ _ hb;exact⟨x,by rw[<-k1];congr 1;show o+r.toNat*z+fld+j=_;omega,k2⟩
         ·cases hb
      ·split
       ·rename_i L O
        cases hq:Nat.ble (fld+n) z with
        |false=>exact OKp.fail
        |true=>
         simp only[bB8];refine OKp.need.bind fun _ s1 _ _ hlt=>OKp.opt fun c hc=>?_
         have hlt:=q8 hlt;rw[c9]at hlt;exact V2 f h2 rfl (an9 O h4 h5) h0 hlt (bA5 hq) hc
       ·cases hq: !ag&&Nat.beq z 1&&Nat.beq n 1 with
        |false=>exact OKp.fail
        |true=>
         rw[bB8];simp only[bA2,bE1,bE7]at hq;obtain⟨⟨rfl,rfl⟩,rfl⟩:=hq;unfold bq2;split
         ·rename_i k0 e0 l' H
          split
          ·rename_i es D
           obtain⟨q1,q2⟩:=am9 D;refine OKp.need.bind fun _ s1 _ _ hlt=>OKp.ret ?_
           have hlt:=q8 hlt;simp only[o6]at hlt;have hr:row.toN U<es.length:=by grind
           have q:=q2 (row.toN U) _ (bB3 hr);rw[<-H,bE0]at q;obtain⟨x,k1,k2⟩:=h5 _ _ q;refine ag3 (l:=[.int k0 (aN3 0 (.op (.rows es.length 1) es) row)]) f h2 rfl (o:=o+row.toN U*1+fld) ?_ rfl (fun j a p=>?_) rfl
           ·grind
           ·cases j with
            |succ j=>simp at p
            |zero=>
             simp only[bB7,bA1]at p;subst p;refine⟨x,by rw[<-k1];congr 1;omega,?_⟩
             cases k2;refine VD.int' ?_;show((aN3 0 (.op (.rows es.length 1) es) row).den U).toInt=_;rw[aw2];show(u5 (chunk 1 es.length (E.dens U es)) (row.toI U) 0).toInt=_;unfold u5;have I:es.length=(E.dens U es).length:=by rw[E.dens_eq,bC0]
             rw[I,bD2 (l:=chunk _ _ _),Q8,E.dens_eq,bF1,bB3 hr];rfl
          ·exact OKp.fail
         ·exact OKp.fail
    ·cases h2
   ·rename_i L e C ph hb
    cases hq:Nat.beq z C&&Nat.ble (fld+n) z with
    |false=>exact OKp.fail
    |true=>
     simp only[bB8];simp only[bA2,bE1,bF4]at hq;obtain⟨rfl,hq⟩:=hq;refine OKp.need.bind fun _ s1 _ _ hlt=>OKp.opt fun c hc=>?_
     have hlt:=q8 hlt;rw[c9]at hlt
     rcases hs.live b _ hb with⟨i,o,y,h1,h2,_,cs,k,rfl,h4,h5⟩| ⟨h1,N,e',M,S,h2,h3,_⟩
     ·cases p with
      |ptr _ _ _ _ B o' h h0=>
       rw[h1]at h;simp only[bA1,bA3]at h;obtain⟨rfl,rfl⟩:=h;exact V2 f h2 rfl h4 h0 hlt hq hc
     ·cases p with
      |ptr _ _ _ _ B o' h h0=>grind
   ·exact OKp.fail
   ·exact OKp.fail
   ·split
    ·rename_i L e C hb
     cases hq:Nat.beq z C&&Nat.ble (fld+n) z with
     |false=>exact OKp.fail
     |true=>
      simp only[bB8];simp only[bA2,bE1,bF4]at hq;obtain⟨rfl,hq⟩:=hq;refine OKp.need.bind fun _ s1 _ _ hlt=>OKp.opt fun c hc=>?_
      have hlt:=q8 hlt;rw[c9]at hlt
      rcases hs.fz _ (M6 hb)with⟨i,o,cs,k,h1,h2,h4⟩| ⟨h1,h2⟩
      ·cases p with
       |ptr _ _ _ _ B o' h h0=>
        rw[h1]at h;simp only[bA1,bA3]at h;obtain⟨rfl,rfl⟩:=h;exact V2 f (hs.frz _ _ h2) rfl h4 h0 hlt hq hc
      ·cases p with
       |ptr _ _ _ _ B o' h h0=>grind
    ·exact OKp.fail
  ·rename_i e L row fld
   cases hq:Nat.ble (fld+n) (kf P e).length with
   |false=>exact OKp.fail
   |true=>
    simp only[bB8];refine OKp.opt fun c hc=>?_
    cases p with
    |pptr _ _ _ _ i o l c' h h0 h1=>
     generalize g:L.toR U=rows at h h1;cases h with
     |sl _ _ _ _ y cs k z rows x hF hb Q hn hz hr hx J=>
      have R:hp.m.get i=some y:=hs.frz _ _ hF;have K:j7 P F e z o k cs (L.toR U):=by
       rw[g];exact⟨hn,hz,hr,fun r k row d A w=>⟨x r k,hx r k row d A w,fun kd G=>J r k row kd d A w G⟩⟩
      rw[<-hz]at hq⊢;exact V2 f R hb K h0 (by rw[g];exact h1) (bA5 hq) hc
  ·exact OKp.fail
end
end Go.Sx
namespace Go.Sx
open Go.Xe
def mfz (b:Nat)(L:E)(e z:Nat):M Unit:=fun s=>.ret ((),{s with fz:=(b,L,e,z)::s.fz})
def Y9 (b:Nat)(x:Option n5):M Unit:=fun s=>.ret ((),s.set b x)
def br1 :Nat->List SV->List SV
 |0,_=>[]
 |n+1,zs=>zs++br1 n zs
def ax7 :SV->Bool
 | .agg _| .tup _| .any=>false
 |_=>true
section
variable (P :Program)(U:Nat->List Dat->Dat)
def sbox (e:TypeId)(l:List SV):M SV:=a7 (V8 (.cells l e l.length)) fun b=>b9 (.ptr b l.length (.int 0) 0)
def aa8 (t : TypeId) (len : Nat) (parts : List (Nat × SV)) : M SV :=
 match P.underlying t with
 | some (.slice e) => match P.info? e with
  | some ie => match ab4 P e with
   | some z => bif Nat.beq z.length ie.size && Nat.ble (len * ie.size) 16777216 && Nat.ble len 16777216 then
     match ar0 (fun i=>some (i*ie.size,ie.size)) (br1 len z) parts with
     |some cs=>a7 (V8 (.cells cs e ie.size)) fun b=>b9 (.sl b ie.size (.int 0) (.int len) (.ex (.int len)))
     |none=>a6 "buildSlice"
    else a6 "buildSlice"
   |none=>a6 "buildSlice: zero"
  |none=>a6 "buildSlice: type"
 |_=>a6 "buildSlice: type"
def aX9 :E->Option Nat
 | .int k=>bif decide (0<=k)&&decide (k<=64)then some k.toNat else none
 |_=>none
theorem aG2 {U:Nat->List Dat->Dat}{c:E}{n:Nat}(h:aX9 c=some n):n=c.toN U:=by
 unfold aX9 at h;split at h
 ·rename_i k
  cases hk:decide (0<=k)&&decide (k<=64)with
  |false=>grind
  |true=>rw[hk,bB8,bA1]at h;rw[<-h];rfl
 ·cases h
def ag8 (t : TypeId) (l c : SV) : M SV :=
 match l,c with
 | .int _ ln, .int _ cn => match P.underlying t with
  | some (.slice e) => match P.info? e with
   | some ie => match ab4 P e with
    | some z => bif Nat.ble ie.bytes 1048576 && Nat.beq z.length ie.size then
      a7 (i3 U (k9 (l6 ln (.int 0)))) fun _=>a7 (i3 U (k9 (l6 cn ln))) fun _=>a7 (i3 U (l6 cn (.int 1048577))) fun _=>
      match aX9 cn with
      |some k=>a7 (V8 (.cells (br1 k z) e ie.size)) fun b=>b9 (.sl b ie.size (.int 0) ln (.ex cn))
      | none => bif Nat.beq (kf P e).length ie.size && Nat.ble 1 ie.size then
        match bj1 (kf P e) 0 z with
        |some es=>a7 (V8 (.rows (.op .rep (cn::es)) e ie.size cn)) fun b=>b9 (.sl b ie.size (.int 0) ln (.ex cn))
        |none=>a6 "makeSlice: zero"
       else a6 "makeSlice: kinds"
     else a6 "makeSlice: size"
    |none=>a6 "makeSlice: zero"
   |none=>a6 "makeSlice: type"
  |_=>a6 "makeSlice: type"
 |_,_=>a6 "makeSlice: no ints"
def X9 (L off len:E):M E:=
 match off with
 | .int m=>bif decide (m=0)&&E.like len (i9 L)then a7 (i3 U (A3 len (i9 L))) fun _=>b9 (aa3 L)else b9 (.op .part [L,off,len])
 |_=>b9 (.op .part [L,off,len])
def aE6 (f:Kd->SV->M E)(ks:List Kd):Nat->List SV->M (List E)
 |_,[]=>b9 []
 |j,a::l=>match ks[j % ks.length]? with
  |some k=>a7 (f k a) fun e=>a7 (aE6 f ks (j+1) l) fun es=>b9 (e::es)
  |none=>a6 "data: kind"
def aQ6 : Nat → Kd → SV → M E
 |0,_,_=>a6 "data: depth"
 | d + 1, k, a => match aC7 k a with
  |some e=>b9 e
  | none => match k, a with
   | .sl e, .sl b z off len _ => i7 fun s => match s.get b with
    | some (.rows L e' z' _) => bif Nat.beq e e' && Nat.beq z z' then
      a7 (i3 U (k9 (l6 (i9 L) (l9 off len)))) fun _=>a7 (Y9 b none) fun _=>a7 (mfz b L e z) fun _=>X9 U L off len
     else a6 "data: type"
    | some (.cells l e' z') => bif Nat.beq e e' && Nat.beq z z' && Nat.beq z (kf P e).length && Nat.beq (l.length / z * z) l.length then
      a7 (i3 U (k9 (l6 (.int (l.length/z:Nat)) (l9 off len)))) fun _=>a7 (Y9 b none) fun _=>
      a7 (aE6 (aQ6 d) (kf P e) 0 l) fun es=>a7 (mfz b (.op (.rows (l.length/z) z) es) e z) fun _=>X9 U (.op (.rows (l.length/z) z) es) off len
     else a6 "data: type"
    |some (.map _ _ _)=>a6 "data: no block"
    |some (.iter _ _)=>a6 "data: no block"
    | none => match lk s.fz b with
     | some (L, e', z') => bif Nat.beq e e' && Nat.beq z z' then
       a7 (i3 U (k9 (l6 (i9 L) (l9 off len)))) fun _=>X9 U L off len
      else a6 "data: type"
     |none=>a6 "data: no block"
   |_,_=>a6 "data: value"
def br6 (L row:E):Nat->List E->E
 |_,[]=>L
 |j,e::es=>br6 (.op (.upd j) [L,row,e]) row (j+1) es
def aO7 (b:Nat):M Unit:=i7 fun s=>match s.get b with
 |some (.cells l e z)=>match ay3 P e z l with
  |some L=>Y9 b (some (.rows L e z (.int (l.length/z:Nat))))
  |none=>a6 "rows"
 |_=>b9 ()
def phT (ph L:E):Bool:=match ph with
 | .int _=>false
 |ph=> !(E.like ph (i9 L))
def W1 (b z : Nat) (row : E) (fld : Nat) (vs : List SV) : M SV := i7 fun s => match s.get b with
 | some (.rows _ e _ _) => bif Nat.ble (fld + vs.length) z && Nat.beq z (kf P e).length then
   a7 (aE6 (aQ6 P U 20) (kf P e) fld vs) fun es=>i7 fun s=>match s.get b with
   | some (.rows L e' z' ph) => bif Nat.beq e e' && Nat.beq z z' then
     bif phT ph L&&Nat.beq z 1&&Nat.beq fld 0&&Nat.beq es.length 1 then
      a7 (i3 U (k9 (l6 (i9 L) row))) fun _=>a7 (i3 U (l6 row ph)) fun _=>a7 (Y9 b (some (.rows (.op .over [L,row,.op (.rows 1 1) es]) e' z' ph))) fun _=>b9 (.tup [])
     else a7 (i3 U (l6 row (i9 L))) fun _=>a7 (Y9 b (some (.rows (br6 L row fld es) e' z' ph))) fun _=>b9 (.tup [])
    else a6 "store: type"
   |_=>a6 "store: block"
  else a6 "store: beyond"
 |_=>a6 "store: no rows"
def hset (k:IntKind)(es:List E)(row w:E):List SV:=(List.range es.length).map fun j:Nat=>.int k (aN3 0 (.op .over [.op (.rows es.length 1) es,row,.op (.rows 1 1) [w]]) (.int (j:Int)))
def aK3 (b:Nat)(l:List SV)(e z:Nat)(row:E)(fld:Nat):List SV->M SV
 | [.int k w]=>match aE1 k (l.drop fld)with
  |some es=>a7 (i3 U (l6 row (.int es.length))) fun _=>a7 (Y9 b (some (.cells (l.take fld++hset k es row w) e z))) fun _=>b9 (.tup [])
  |none=>a6 "store: no integers"
 |_=>a6 "store: no integer"
def aY5 (t : TypeId) (a x : SV) : M SV :=
 match P.info? t with
 |none=>a6 "store: type"
 | some ti => match o8 x with
  |none=>a6 "store: value"
  | some vs => bif Nat.beq vs.length ti.size && vs.all ax7 then
   match a with
   | .ptr b z row fld => i7 fun s => match s.get b with
    | some (.cells l e z') => match row with
     | .int r => bif decide (0 ≤ r) && Nat.ble (r.toNat * z + fld + vs.length) l.length then
       a7 (Y9 b (some (.cells (H7 l (r.toNat*z+fld) vs) e z'))) fun _=>b9 (.tup [])else a6 "store: beyond"
     |row=>bif Nat.beq z 1&& !Nat.beq z' 1&&Nat.ble fld l.length then aK3 U b l e z' row fld vs else a7 (aO7 P b) fun _=>W1 P U b z row fld vs
    |some (.rows _ _ _ _)=>W1 P U b z row fld vs
    |_=>a6 "store: no block"
   |_=>a6 "store: no address"
   else a6 "store: size"
end
section
variable {P :Program}{U:Nat->List Dat->Dat}{τ:Tau}{F:Nat->Option Blk}{s:SS}{hp:Hp}
theorem OKh.alloc {x : n5} {y : Blk} (hs : SD P U τ F s hp) (hy : ∀ τ', Tle τ τ' → BD P U τ' F 0 x y) :
  OKh P U (V8 x) τ F s hp fun b τ' F' hp'=>F'=F/\τ' b=some (some (hp.nx,0))/\hp'=⟨hp.m.set hp.nx (some y),hp.nx+1⟩:=by
 intro Q hq _;have h0:τ s.nx=none:=hs.new _ (bC4 _);obtain⟨h1,h2⟩:=hs.alloc (x:=x) (p:=some (hp.nx,0)) (hp':=⟨hp.m.set hp.nx (some y),hp.nx+1⟩) (bH4 _) (fun i hi=>bt5 hp y i hi)
  (.inl ⟨hp.nx,0,y,rfl,bC4 _,bG1 _,by simp[T.get_set],hy _ (an7 _ h0)⟩)
 exact⟨s.nx,_,hq,_,F,_,h1,h2,rfl,j9 _ _ _,rfl⟩
theorem G1 (vs:List Value)(j:Nat)(x:Value)(h:vs[j]? =some x):(fill .e 0 vs).get j=some x:=by
 rw[j3,bC3 ⟨bI9 _,by have:=(bA4.1 h).1;omega⟩]
 grind
variable {l:List SV}{vs:List Value}
theorem R6 (h:VDL P U τ F l vs)(e z:Nat):BD P U τ F 0 (.cells l e z) (A4 vs e z):=by
 refine⟨fill .e 0 vs,vs.length,rfl,by rw[h.1];omega,fun j a c=>?_⟩
 obtain⟨x,h1,h2⟩:=h.get c;exact⟨x,by rw[bD3];exact G1 vs j x h1,h2⟩
theorem bc5 {e : TypeId}   (h : VDL P U τ F l vs) (hs : SD P U τ F s hp) :
  OKh P U (sbox e l) τ F s hp fun a τ' F' hp'=>(a,hp')=(a,(hp.add ⟨A4 vs e vs.length,.ptr,rfl⟩).2)/\VD P U τ' F' a (hp.add ⟨A4 vs e vs.length,.ptr,rfl⟩).1:=by
 unfold sbox;refine(OKh.alloc (y:=A4 vs e vs.length) hs fun τ' ht=>?_).bind fun b τ' F' s' hp' _ c ⟨h1,h2,h3⟩=>?_
 ·rw[h.1];exact R6 (h.mono ht (Fle.refl F)) e vs.length
 ·subst h1;subst h3
  refine OKh.ret ⟨rfl,?_⟩;exact VD.ptr' h2 (by show(0:Int)<=0;omega) (by show 0=0+(0:Int).toNat*_+0;simp)
theorem au4 {l:List SV}{vs:List Value}(h:VDL P U τ F l vs):∀n,VDL P U τ F (br1 n l) (xrep n vs)
 |0=>VDL.nil
 |n+1=>h.append (au4 h n)
theorem ay5 {t : TypeId} {len : Nat} {ps : List (Nat × SV)} { g : List (Nat × Value)} (h : PVD P U τ F ps  g) (hs : SD P U τ F s hp) :
  OKh P U (aa8 P t len ps) τ F s hp fun a τ' F' hp'=>∃n,bj2 P t len g=some n/\hp'=(hp.add n).2/\VD P U τ' F' a (hp.add n).1:=by
 unfold aa8;split
 ·rename_i e he
  split
  ·rename_i ie   f
   split
   ·rename_i z hz
    obtain⟨zv,h1,h2⟩:=H8 (U:=U) (τ:=τ) (F:=F) hz;rw[h2.1];cases hb:Nat.beq zv.cells.toList.length ie.size&&Nat.ble (len*ie.size) 16777216&&Nat.ble len 16777216 with
    |false=>exact OKh.fail
    | true =>
     simp only[bB8];split
     ·rename_i cs   c
      obtain⟨ys,h3,h4⟩:=ab2 (au4 h2 len) h c;refine(OKh.alloc (y:=A4 ys e ie.size) hs fun τ' ht=>R6 (h4.mono ht (Fle.refl F)) e ie.size).bind fun b τ' F' s' hp' _ p ⟨k1,k2,k3⟩=>?_
      subst k1;subst k3;refine OKh.ret ⟨⟨A4 ys e ie.size,.slice len len,rfl⟩,?_,rfl,?_⟩
      ·simp only[bj2,he,f,h1,hb,bB8,h3]
      ·have  q : len < unk := by
        simp only[bA2,bF4]at hb;unfold unk;omega
       have:=VD.sl (P:=P) (U:=U) (F:=F') b ie.size (.int 0) (.int len) (.ex (.int len)) hp.nx 0 len k2 (bG4 0) (Int.natCast_nonneg len) ⟨Int.natCast_nonneg len,(bE2 len).symm,q,bG4 _⟩;have j:(E.int (len:Int)).toN U=len:=bE2 len;rw[j]at this;have m:(E.int 0).toN U*ie.size=0:=by show(0:Int).toNat*_=0;simp
       rw[m]at this;exact this
     ·exact OKh.fail
   ·exact OKh.fail
  ·exact OKh.fail
 ·exact OKh.fail
theorem xrep_length (n:Nat)(vs:List Value):(xrep n vs).length=n*vs.length:=by
 induction n with
 |zero=>simp[xrep]
 |succ n c=>simp[xrep,c,bG7];omega
theorem ac2 {z:Nat}{vs:List Value}(hz:vs.length=z):∀ {n r k:Nat},r<n->k<z->(xrep n vs)[r*z+k]? =vs[k]?
 |0,r,k,h,_=>by omega
 |n+1,0,k,_,hk=>by simp only[xrep,Nat.zero_mul,bD3];rw[bB0 (by omega)]
 |n+1,r+1,k,h,hk=>by
  simp only[xrep];rw[bA9 (by rw[hz,bG7];omega),hz]
  rw[show(r+1)*z+k-z=r*z+k by rw[bG7];omega]
  exact ac2 hz (by omega) hk
theorem aC5 {t : TypeId} {a b : SV} {v u : Value} ( R : VD P U τ F a v) (hb : VD P U τ F b u) (hs : SD P U τ F s hp) :
  OKh P U (ag8 P U t a b) τ F s hp fun c τ' F' hp'=>∃n,aZ5 P t v u=some n/\hp'=(hp.add n).2/\VD P U τ' F' c (hp.add n).1:=by
 unfold ag8;split
 ·rename_i k1 ln k2  f
  cases R;cases hb;split
  ·rename_i e he
   split
   ·rename_i ie   H
    split
    ·rename_i z hz
     obtain⟨zv,h1,h2⟩:=H8 (U:=U) (τ:=τ) (F:=F) hz;rw[h2.1];cases hb:Nat.ble ie.bytes 1048576&&Nat.beq zv.cells.toList.length ie.size with
     |false=>exact OKh.fail
     | true =>
      simp only[bB8];refine OKh.bindp OKp.need fun _ s1 _ hs1 p1=>OKh.bindp OKp.need fun _ s2 _ S p2=>OKh.bindp OKp.need fun _ s3 _ C X=>?_
      have M:=V4 p1;have N:=n9 p2;have W:=q8 X;simp only[o6]at W;simp only[bA2,bF4,bE1]at hb;have hx:aZ5 P t (.int k1 (ln.toI U)) (.int k2 (f.toI U))=some ⟨A4 (xrep (f.toN U) zv.cells.toList) e ie.size,.slice (ln.toN U) (f.toN U),rfl⟩:=by
       simp only[aZ5,he,H,h1];rw[show(decide (0<=ln.toI U)&&decide (ln.toI U<=f.toI U)&&decide (f.toI U<=1048576)&&Nat.ble ie.bytes 1048576&&Nat.beq zv.cells.toList.length ie.size)=true by
        simp only[bA2,bC2,bF4,bE1];exact⟨⟨⟨⟨M,N⟩,by omega⟩,hb.1⟩,hb.2⟩]
       rfl
      have m:∀(τ':Tau) (g:Nat),τ' g=some (some (hp.nx,0))->VD P U τ' F (.sl g ie.size (.int 0) ln (.ex f)) (.slice (some ⟨hp.nx,0,none⟩) (ln.toN U) (f.toN U)):=by
       intro τ' g J;have T:f.toN U<unk:=by unfold unk;show(f.toI U).toNat<_;omega
       have:=VD.sl (P:=P) (U:=U) (F:=F) g ie.size (.int 0) ln (.ex f) hp.nx 0 (f.toN U) J (bG4 0) M ⟨by omega,rfl,T,N⟩
       have e2:(E.int 0).toN U*ie.size=0:=by show(0:Int).toNat*_=0;simp
       grind
      split
      ·rename_i k hk
       rw[<-aG2 (U:=U) hk]at hx;have w:∀(τ':Tau) (g:Nat),τ' g=some (some (hp.nx,0))->VD P U τ' F (.sl g ie.size (.int 0) ln (.ex f)) (.slice (some ⟨hp.nx,0,none⟩) (ln.toN U) k):=by
        rw[aG2 (U:=U) hk];exact m
       refine(OKh.alloc (y:=A4 (xrep k zv.cells.toList) e ie.size) C fun τ' ht=>R6 (au4 (h2.mono ht (Fle.refl F)) _) e ie.size).bind fun g τ' F' s' hp' _ I ⟨q1,q2,K⟩=>?_
       subst q1;subst K;exact OKh.ret ⟨_,hx,rfl,w τ' g q2⟩
      ·cases hk : Nat.beq (kf P e).length ie.size && Nat.ble 1 ie.size with
       |false=>exact OKh.fail
       | true =>
        simp only[bB8];simp only[bA2,bF4,bE1]at hk;split
        ·rename_i es   G
         obtain⟨t1,t2⟩:=aA0 G;have j:zv.cells.toList.length=ie.size:=hb.2;have L:es.length=ie.size:=by rw[t1,h2.1,j]
         refine(OKh.alloc (y:=A4 (xrep (f.toN U) zv.cells.toList) e ie.size) C fun τ' ht=>?_).bind fun g τ' F' s' hp' _ I ⟨q1,q2,K⟩=>?_
         ·have  Q : (E.op .rep ( f :: es)).toR U = List.replicate ( f.toN U) (es.map (E.den U)) := by
           show(Dat.lst (List.replicate _ (E.dens U es))).rows=_;rw[E.dens_eq];rfl
          refine⟨_,_,rfl,?_,?_⟩
          ·rw[Q]
           refine⟨by rw[xrep_length,j];simp,hk.1.symm,fun r hr=>?_,fun r k row d hr p=>?_⟩
           ·grind
           ·rw[List.getElem?_replicate]at hr
            split at hr
            ·rename_i hlt
             simp only[bA1]at hr;subst hr;have q:k<ie.size:=by grind
             rw[bF1]at p;cases A:es[k]? with
             |none=>grind
             |some x=>
              simp only[A,bE6,bA1]at p;have D:z[k]? =some (z[k]'(by rw[h2.1,j];exact q)):=by grind
              obtain⟨y,Y,Z⟩:=h2.get D;obtain⟨kd,O,w4⟩:=t2 k _ _ D A;refine⟨y,?_,fun V B=>?_⟩
              ·rw[bD3]
               exact G1 _ _ _ (by rw[ac2 j hlt q];exact Y)
              ·rw[bD3,hk.1,Nat.mod_eq_of_lt q,B,bA1]at O
               subst O;rw[<-p];exact Q2 Z w4
            ·cases hr
          ·rw[xrep_length,j];omega
         ·subst q1;subst K
          exact OKh.ret ⟨_,hx,rfl,m τ' g q2⟩
        ·exact OKh.fail
    ·exact OKh.fail
   ·exact OKh.fail
  ·exact OKh.fail
 ·exact OKh.fail
end
end Go.Sx
namespace Go.Sx
open Go.Xe
section
variable {P :Program}{U:Nat->List Dat->Dat}{τ:Tau}{F:Nat->Option Blk}{s:SS}{hp:Hp}
theorem av5 {len:E}{cap:Cp}{c:Nat}(h:aB7 U len cap c)(h0:0<=len.toI U):ap8 (len.toN U) c:=by
 cases cap with
 |ex e=>
  obtain⟨h1,h2,h3,h4⟩:=h;exact .inl ⟨h3,by rw[h2];show(len.toI U).toNat<=(e.toI U).toNat;omega⟩
 |ge=>
  obtain⟨lo,h1,h2,h3⟩:=h;exact .inr ⟨lo,h1,h2,by show(len.toI U).toNat<=_;omega⟩
 |un=>
  rcases h with⟨h1,h2,h3⟩| ⟨lo,h1,h2,h3⟩
  ·exact .inl ⟨h1,by rw[h2];exact bC4 _⟩
  ·exact .inr ⟨lo,h1,h2,by show(len.toI U).toNat<=_;omega⟩
variable {rows:Rows}{len off:Int}
theorem L9 (h0:0<=off)(h1:0<=len)(h2:off+len<=rows.length):(part rows off len).length=len.toNat:=by
 unfold part
 grind
theorem T5 {r:Nat}{row:List Dat}(h:(part rows off len)[r]? =some row):rows[off.toNat+r]? =some row:=by
 unfold part at h
 grind
theorem PV.of_rows {F : Nat → Option Blk} {e e' z  f o n i c : Nat} {cs : T Value}   (hF : F i = some (.cells cs n e'  f)) (  m :  f = z) (hr : j7 P F e z o n cs rows) (h0 : 0 ≤ off) (h1 : 0 ≤ len) (h2 : off + len ≤ rows.length) (hc : ap8 len.toNat c) :
  PV P F (.sl e) (.slice (some ⟨i,o+off.toNat*z,none⟩) len.toNat c) (.lst (part rows off len)):=by
 subst m;obtain⟨B,p,q,w⟩:=hr;have hl:=L9 h0 h1 h2;have hx:∀(r k:Nat),∃x,∀row d,(part rows off len)[r]? =some row->row[k]? =some d->cs.get (o+off.toNat*f+r*f+k)=some x/\ ∀kd,(kf P e)[k]? =some kd->PV P F kd x d:=by
  intro r k;cases g:(part rows off len)[r]? with
  |none=>exact⟨undef,fun row d h=>by cases h⟩
  |some row=>
   cases hd:row[k]? with
   |none=>exact⟨undef,fun j d h h'=>by cases h;rw[hd]at h';cases h'⟩
   |some d=>
    obtain⟨x,k1,k2⟩:=w _ k row d (T5 g) hd;refine⟨x,fun j A h h'=>?_⟩
    grind
 have:=PV.sl (P:=P) (F:=F) e i (o+off.toNat*f) c _ cs n f (part rows off len) (fun r k=>(hx r k).choose) hF rfl ⟨by rw[hl];exact hc,.mk⟩
  (by
   rw[hl];have:off.toNat*f+len.toNat*f<=rows.length*f:=by rw[<-bD7];exact bB4 f (by omega)
   omega) p (fun r hr=>q r (List.mem_of_mem_drop (List.mem_of_mem_take hr)))
  (fun r k row d h1 h2=>((hx r k).choose_spec row d h1 h2).1) (fun r k row kd d h1 h2 h3=>((hx r k).choose_spec row d h1 h2).2 kd h3)
 grind
theorem t6 {L off len:E}:OKp U (X9 U L off len) s fun e=>e.den U= .lst (part (L.toR U) (off.toI U) (len.toI U)):=by
 unfold X9;split
 ·rename_i m
  cases hb:decide (m=0)&&E.like len (i9 L)with
  |false=>exact OKp.ret rfl
  |true=>
   simp only[bB8];simp only[bA2,bC2]at hb;refine OKp.need.bind fun _ s1 _ _ h=>OKp.ret ?_
   have h:=Q0 h;rw[c9]at h;rw[aj6]
   congr 1
   unfold part;have c:((E.int m).toI U).toNat=0:=by rw[hb.1];rfl
   rw[c,h,bE2,List.drop_zero,List.take_length]
 ·exact OKp.ret rfl
variable {b:Nat}
theorem OKh.drop :OKh P U (Y9 b none) τ F s hp fun _ τ' F' hp'=>τ'=τ/\F'=F/\hp'=hp:=by
 intro Q hq hs;obtain⟨h1,h2⟩:=hs.drop b;exact⟨(),_,hq,τ,F,hp,h1,h2,rfl,rfl,rfl⟩
theorem OKh.freeze {i o:Nat}{x:n5}(hb:s.get b=some x)(ht:τ b=some (some (i,o))){y:Blk}(hi:hp.m.get i=some y):OKh P U (Y9 b none) τ F s hp fun _ τ' F' hp'=>τ'=τ/\hp'=hp/\F' i=some y:=by
 intro Q hq hs;obtain⟨F',h1,h2,h3,h4⟩:=hs.freeze hb ht hi;exact⟨(),_,hq,τ,F',hp,h3,h4,rfl,rfl,h2⟩
theorem OKh.fz {L:E}{e z:Nat}(h:be4 P U τ F (b,L,e,z)):OKh P U (mfz b L e z) τ F s hp fun _ τ' F' hp'=>τ'=τ/\F'=F/\hp'=hp:=by
 intro Q hq hs;refine⟨(),_,hq,τ,F,hp,?_,⟨hs.live,hs.inj,hs.frz,hs.lt,hs.flt,hs.new,hs.fc,fun r hr=>?_⟩,rfl,rfl,rfl⟩
 ·have h:=Ext.refl hs
  exact⟨h.t,h.f,h.nx,h.snx,h.st,h.low,h.hh,h.hf,h.win⟩
 ·rcases bD9.1 hr with rfl|hr
  ·exact h
  ·exact hs.fz r hr
theorem aj4 {f : Kd → SV → M E} {ks : List Kd} (hf : ∀ k a v τ F s hp, VD P U τ F a v → SD P U τ F s hp → OKh P U (f k a) τ F s hp fun e τ' F' hp' => τ' = τ ∧ hp' = hp ∧ PV P F' k v (e.den U)) :
  ∀ {l:List SV} {vs:List Value} {j:Nat} {τ:Tau} {F:Nat->Option Blk} {s:SS} {hp:Hp},VDL P U τ F l vs->SD P U τ F s hp->OKh P U (aE6 f ks j l) τ F s hp fun es τ' F' hp'=>τ'=τ/\hp'=hp/\es.length=l.length/\
   ∀(q:Nat) x e,vs[q]? =some x->es[q]? =some e-> ∃kd,ks[(j+q) % ks.length]? =some kd/\PV P F' kd x (e.den U)
 | [],vs,j,τ,F,s,hp,h,hs=>OKh.ret ⟨rfl,rfl,rfl,fun q x e _ h=>by simp at h⟩
 |a::l,vs,j,τ,F,s,hp,h,hs=>by
  obtain⟨y,ys,rfl,h1,h2⟩:=h.uncons;unfold aE6;split
  ·rename_i k hk
   refine(hf k a y τ F s hp h1 hs).bind fun e τ1 F1 s1 hp1 ex hs1 ⟨g,m,p⟩=>?_
   subst g;subst m;refine(aj4 hf (h2.mono ex.t ex.f) hs1).bind fun es τ2 F2 s2 hp2 c B ⟨r,w,A,C⟩=>OKh.ret ⟨r,w,by simp[A],fun q x d hx hd=>?_⟩
   cases q with
   |zero=>simp at hx hd;subst hx;subst hd;exact⟨k,hk,p.mono P c.f⟩
   |succ q=>grind
  ·exact OKh.fail
theorem ad0 :∀(d:Nat) (k:Kd) (a:SV) (v:Value) (τ:Tau) (F:Nat->Option Blk) (s:SS) (hp:Hp),VD P U τ F a v->SD P U τ F s hp->OKh P U (aQ6 P U d k a) τ F s hp fun e τ' F' hp'=>τ'=τ/\hp'=hp/\PV P F' k v (e.den U)
 |0,k,a,v,τ,F,s,hp,p,hs=>OKh.fail
 |d+1,k,a,v,τ,F,s,hp,p,hs=>by
  unfold aQ6;split
  ·rename_i e he
   exact OKh.ret ⟨rfl,rfl,Q2 p he⟩
  ·split
   ·rename_i e b z off len cap _
    refine OKh.read ?_;split
    ·rename_i L e' H ph hb
     cases hq:Nat.beq e e'&&Nat.beq z H with
     |false=>exact OKh.fail
     |true=>
      simp only[bB8];simp only[bA2,bE1]at hq;obtain⟨rfl,rfl⟩:=hq;refine OKh.bindp OKp.need fun _ s1 W hs1 p1=>?_
      have p1:=n9 p1;rw[f7,c9]at p1;have q:s1.get b=some (.rows L e z ph):=by rw[W.get];exact hb
      rcases hs1.live b _ q with⟨i,o,y,h1,h2,_,cs,n,rfl,h4,h5⟩| ⟨h1,L',e',H,Y,h2,h3,_⟩
      ·cases p with
       |sl _ _ _ _ _ V o' c h h0 g hc=>
        rw[h1]at h;simp only[bA1,bA3]at h;obtain⟨rfl,rfl⟩:=h;refine(OKh.freeze q h1 h2).bind fun _ τ2 F2 s2 hp2 ex G ⟨B,C,A⟩=>?_
        subst B;subst C;have O:j7 P F2 e z o n cs (L.toR U):=⟨h4.1,h4.2.1,h4.2.2.1,fun r k row d w1 w2=>let⟨x,w3,w4⟩:=h4.2.2.2 r k row d w1 w2;⟨x,w3,fun kd w5=>(w4 kd w5).mono P ex.f⟩⟩
        refine(OKh.fz (.inl ⟨i,o,cs,n,h1,A,O⟩)).bind fun _ T F3 Z hp3 D Q ⟨J,K,I⟩=>?_
        subst J;subst K;subst I;refine OKh.bindp' t6 fun c' he=>⟨rfl,rfl,?_⟩
        rw[he];exact PV.of_rows A rfl O h0 g p1 (av5 hc g)
       |sl0 _ _ _ _ _ h h0 g hc=>grind
      ·cases p with
       |sl _ _ _ _ _ V o' c h h0 g hc=>grind
       |sl0 _ _ _ _ _ h h0 g hc=>
        refine OKh.drop.bind fun _ τ2 F2 s2 hp2 ex G ⟨B,C,A⟩=>?_
        subst B;subst C;subst A;simp only[n5.rows.injEq]at h2;obtain⟨rfl,_⟩:=h2;refine(OKh.fz (.inr ⟨h1,h3⟩)).bind fun _ T F3 Z hp3 D Q ⟨J,K,I⟩=>?_
        subst J;subst K;subst I;refine OKh.bindp' t6 fun c' he=>⟨rfl,rfl,?_⟩
        rw[he,h3];have:part [] (off.toI U) (len.toI U)=[]:=by simp[part]
        rw[this];exact .nils _
    ·rename_i l e' H hb
     cases hq:Nat.beq e e'&&Nat.beq z H&&Nat.beq z (kf P e).length&&Nat.beq (l.length/z*z) l.length with
     |false=>exact OKh.fail
     |true=>
      simp only[bB8];simp only[bA2,bE1]at hq;obtain⟨⟨⟨rfl,rfl⟩,hz⟩,hN⟩:=hq;refine OKh.bindp OKp.need fun _ s1 W hs1 p1=>?_
      have p1:=n9 p1;rw[f7]at p1;simp only[o6]at p1;have q:s1.get b=some (.cells l e z):=by rw[W.get];exact hb
      rcases hs1.live b _ q with⟨i,o,y,h1,h2,_,cs,n,rfl,h4,h5⟩| ⟨h1,L',e',H,Y,h2,h3,_⟩
      ·cases p with
       |sl _ _ _ _ _ V o' c h h0 g hc=>
        rw[h1]at h;simp only[bA1,bA3]at h;obtain⟨rfl,rfl⟩:=h;refine(OKh.freeze q h1 h2).bind fun _ τ2 F2 s2 hp2 ex G ⟨B,C,A⟩=>?_
        subst B;subst C;obtain⟨vs,v1,v2,v3⟩:=C0 (c:=cs) (R:=fun j x=>∀a,l[j]? =some a->VD P U τ2 F2 a x) l.length o 0 fun j hj=>by
         have:l[j]? =some l[j]:=by simp[hj]
         obtain⟨x,k1,k2⟩:=h5 j _ this;exact⟨x,k1,fun a p=>by rw[bD3,this]at p;cases p;exact k2.mono ex.t ex.f⟩
        have hv:VDL P U τ2 F2 l vs:=⟨v2.symm,fun j a x p hx=>v3 j x hx a (by rw[bD3];exact p)⟩
        refine(aj4 (fun k a v τ F s hp=>ad0 d k a v τ F s hp) hv G).bind fun es T F3 Z hp3 D Q ⟨J,K,I,f4⟩=>?_
        subst J;subst K;have N:F3 i=some (.cells cs n e z):=D.f _ _ A;have w:j7 P F3 e z o n cs ((E.op (.rows (l.length/z) z) es).toR U):=by
         refine R3 hz (by rw[I,hN]) (by rw[I];exact h4) fun j x hx=>?_
         have hj:j<l.length:=by grind
         have S:vs[j]? =some (vs[j]'(by omega)):=by grind
         obtain⟨kd,w1,w2⟩:=f4 j _ _ S hx;refine⟨_,by rw[<-(u6 v1).2 j hj];exact S,fun ae ab=>?_⟩
         grind
        refine(OKh.fz (.inl ⟨i,o,cs,n,h1,N,w⟩)).bind fun _ ah F4 s4 ac aa ad ⟨g1,g2,g3⟩=>?_
        subst g1;subst g2;subst g3;refine OKh.bindp' t6 fun c' he=>⟨rfl,rfl,?_⟩
        rw[he];refine PV.of_rows N rfl w h0 g ?_ (av5 hc g);have:((E.op (.rows (l.length/z) z) es).toR U).length=l.length/z:=by
         show(chunk z (l.length/z) _).length=_;rw[D5]
        grind
       |sl0 _ _ _ _ _ h h0 g hc=>grind
      ·cases h2
    ·exact OKh.fail
    ·exact OKh.fail
    ·split
     ·rename_i L e' H hb
      cases hq:Nat.beq e e'&&Nat.beq z H with
      |false=>exact OKh.fail
      |true=>
       simp only[bB8];simp only[bA2,bE1]at hq;obtain⟨rfl,rfl⟩:=hq;refine OKh.bindp OKp.need fun _ s1 W hs1 p1=>?_
       have p1:=n9 p1;rw[f7,c9]at p1;refine OKh.bindp' t6 fun c' he=>⟨rfl,rfl,?_⟩
       rw[he]
       rcases hs.fz _ (M6 hb)with⟨i,o,cs,n,h1,h2,h4⟩| ⟨h1,h2⟩
       ·cases p with
        |sl _ _ _ _ _ V o' c h h0 g hc=>
         rw[h1]at h;simp only[bA1,bA3]at h;obtain⟨rfl,rfl⟩:=h;exact PV.of_rows h2 rfl h4 h0 g p1 (av5 hc g)
        |sl0 _ _ _ _ _ h h0 g hc=>grind
       ·cases p with
        |sl _ _ _ _ _ V o' c h h0 g hc=>grind
        |sl0 _ _ _ _ _ h h0 g hc=>
         have X:L.toR U=[]:=h2;have:part [] (off.toI U) (len.toI U)=[]:=by simp[part]
         rw[X,this];exact .nils _
     ·exact OKh.fail
   ·exact OKh.fail
where
 OKh.bindp' {m:M E} {R:E->Prop} {R':E->Tau->(Nat->Option Blk)->Hp->Prop} {τ:Tau} {F:Nat->Option Blk} {s:SS} {hp:Hp} (h:OKp U m s R) (hr:∀e,R e->R' e τ F hp):OKh P U m τ F s hp R':=
  (h.up (P:=P) (τ:=τ) (F:=F) (hp:=hp)).mono fun a τ' F' hp' _ _ ⟨B,C,A,e4⟩=>by subst B;subst C;subst A;exact hr a e4
end
end Go.Sx
namespace Go.Sx
open Go.Xe
section
variable {P :Program}{U:Nat->List Dat->Dat}{τ:Tau}{F:Nat->Option Blk}{s:SS}{hp:Hp}
variable {z:Nat}
theorem aM2 {r k c k':Nat}(hk:k<z)(f:k'<z)(h:r*z+k=c*z+k'):r=c/\k=k':=by
 have h1:(r*z+k)/z=r:=by rw[Nat.mul_comm,Nat.mul_add_div (by omega),Nat.div_eq_of_lt hk];omega
 have h2:(c*z+k')/z=c:=by rw[Nat.mul_comm,Nat.mul_add_div (by omega),Nat.div_eq_of_lt f];omega
 grind
variable {e o:Nat}{cs:T Value}{rows:Rows}{x:Value}
theorem j7.set1 {F : Nat → Option Blk} {n:Nat}   (h : j7 P F e z o n cs rows) {r : Int} {j : Nat} (hj : j < z)  {d : Dat} (hx : ∀ kd, (kf P e)[j]? = some kd → PV P F kd x d) :
  j7 P F e z o n (cs.set (o+r.toNat*z+j) (some x)) (setAt rows r j d):=by
 obtain⟨B,C,D,A⟩:=h;unfold setAt;refine⟨by simpa using B,C,fun row hr=>?_,fun f k row p hr hk=>?_⟩
 ·obtain⟨q,hq⟩:=bK1 hr
  grind
 ·rw[List.getElem?_modify]at hr
  cases g:rows[f]? with
  |none=>grind
  |some row0=>
   have hl:=D row0 (bB1 g);rw[g]at hr
   by_cases e:r.toNat=f
   ·simp only[e,bI6,Option.map_eq_map,bE6,bA1]at hr
    rw[<-hr,List.getElem?_set]at hk
    by_cases w:j=k
    ·subst w
     rw[bC3 rfl,bC3 (by rw[hl];exact hj),bA1]at hk
     refine⟨x,?_,fun kd m=>by rw[<-hk];exact hx kd m⟩
     rw[T.get_set,bC3 (by rw[e])]
    ·rw[bC1 w]at hk
     obtain⟨y,k1,k2⟩:=A f k row0 p g hk;have c:k<z:=by grind
     refine⟨y,?_,k2⟩;rw[T.get_set,bC1]
     ·exact k1
     ·grind
   ·simp only[e,if_false,Option.map_eq_map,bE6,bA1]at hr
    subst hr;obtain⟨y,k1,k2⟩:=A f k row0 p g hk;have c:k<z:=by grind
    refine⟨y,?_,k2⟩;rw[T.get_set,bC1]
    ·exact k1
    ·intro h
     exact e (aM2 c hj (show f*z+k=r.toNat*z+j by omega)).1.symm
theorem aG8 {F : Nat → Option Blk} {e z o n : Nat} {row : E} (h0 : 0 ≤ row.toI U) : ∀ {es : List E} {vs : List Value} {L : E} {cs : T Value} {fld : Nat}, j7 P F e z o n cs (L.toR U) → es.length = vs.length → fld + es.length ≤ z →
  (∀(q:Nat) x d,vs[q]? =some x->es[q]? =some d-> ∀kd,(kf P e)[fld+q]? =some kd->PV P F kd x (d.den U))->j7 P F e z o n (fill cs (o+row.toN U*z+fld) vs) ((br6 L row fld es).toR U)
 | [],[],L,cs,fld,h,_,_,_=>h
 |d::es,x::vs,L,cs,fld,h,hl,hf,hp=>by
  simp only[fill,br6];have h1:=h.set1 (r:=row.toI U) (j:=fld) (x:=x) (d:=d.den U) (by simp at hf;omega) (fun kd c=>hp 0 x d rfl rfl kd c)
  have h2:=aG8 (e:=e) (n:=n) h0 (es:=es) (vs:=vs) (L:= .op (.upd fld) [L,row,d]) (fld:=fld+1) h1 (by simpa using hl) (by simp at hf;omega)
   (fun q y w hy f kd c=>hp (q+1) y w (by simpa using hy) (by simpa using f) kd (by rw[<-c];congr 1;omega))
  exact h2
 | [],_::_,_,_,_,_,hl,_,_=>by simp at hl
 |_::_,[],_,_,_,_,hl,_,_=>by simp at hl
variable {v:Value}
theorem bv0 {a:SV}(h:VD P U τ F a v)(e:ax7 a=true):v.oneCell'=true:=by
 cases h with
 |any=>simp[ax7]at e
 |agg=>simp[ax7]at e
 |tup=>simp[ax7]at e
 |lst t L clip v h hc=>generalize L.toR U=rows at h;cases h<;>rfl
 |_=>rfl
theorem aP2 {l:List SV}{vs:List Value}(h:VDL P U τ F l vs)(e:l.all ax7=true):vs.all Value.oneCell'=true:=by
 rw[bD1]at e⊢;intro x hx;obtain⟨i,hi⟩:=bK1 hx;have c:i<l.length:=by have:=(bA4.1 hi).1;rw[h.1];exact this
 have f:l[i]? =some l[i]:=by simp[c]
 exact bv0 (h.2 i _ _ f hi) (e _ (bB1 f))
theorem ae0 {t : TypeId} { f : TypeInfo} (  g : P.info? t = some  f)  (hx : x.cells.toList.length =  f.size) ( p : x.cells.toList.all Value.oneCell' = true) {i n:Nat} {c : T Value} ( j : hp.m.get i = some (.cells c n e z)) (hn : o +  f.size ≤ n) :
  A9 P hp t (.pointer (some ⟨i,o,none⟩)) x=some {hp with m:=hp.m.set i (some (.cells (fill c o x.cells.toList) n e z))}:=by
 simp only[A9,j,g];rw[show(Nat.beq x.cells.toList.length f.size&&Nat.ble (o+f.size) n&&x.cells.toList.all Value.oneCell')=true by
  simp only[bA2,bE1,bF4];exact⟨⟨hx,hn⟩,p⟩]
 simp only[bB8,ap2,T.force_eq]
variable {b:Nat}
theorem OKh.change {i:Nat} {x x' : n5} (hb : s.get b = some x) (ht : τ b = some (some (i, o))) {y : Blk} {m : T Blk} (hk : ∀ j, j ≠ i → m.get j = hp.m.get j) (hi : m.get i = some y) (hd : BD P U τ F o x' y)
  (f:∀c e z c',x= .cells c e z->x'= .cells c' e z->c'.length=c.length-> ∀cs n,hp.m.get i=some (.cells cs n e z)-> ∃cs',y= .cells cs' n e z/\ ∀j,j<o\/o+c.length<=j->cs'.get j=cs.get j:=by intro _ _ _ _ h h';first| (cases h;done)| (cases h';done)):
  OKh P U (Y9 b (some x')) τ F s hp fun _ τ' F' hp'=>τ'=τ/\F'=F/\hp'= {hp with m:=m}:=by
 intro Q hq hs;obtain⟨h1,h2⟩:=hs.change (hp':= {hp with m:=m}) hb ht rfl hk hi hd f
 exact⟨(),_,hq,τ,F,_,h1,h2,rfl,rfl,rfl⟩
theorem ax1 (hs:SD P U τ F s hp):OKh P U (aO7 P b) τ F s hp fun _ τ' F' hp'=>τ'=τ/\F'=F/\hp'=hp:=by
 unfold aO7;refine OKh.read ?_;split
 ·rename_i l e z hb
  split
  ·rename_i L j
   rcases hs.live b _ hb with⟨i,o,y,h1,h2,_,cs,n,rfl,h4,h5⟩| ⟨h1,q,e',r,p,h2,h3,_⟩
   ·have hr:=an9 j h4 h5
    refine(OKh.change (m:=hp.m) (x':= .rows L e z (.int (l.length/z:Nat))) hb h1 (fun _ _=>rfl) h2 ⟨cs,n,rfl,hr,?_⟩).mono fun _ τ' F' hp' _ _ ⟨c,f,g⟩=>⟨c,f,g⟩
    have c:(E.int ((l.length/z:Nat):Int)).toN U=l.length/z:=bE2 _;rw[c];have:l.length/z*z<=l.length:=Nat.div_mul_le_self _ _;omega
   ·cases h2
  ·exact OKh.fail
 ·exact OKh.ret ⟨rfl,rfl,rfl⟩
variable {a:Int}{l:Rows}
theorem aF4    (h1 : a ≤ rows.length) {r : Nat} {row : List Dat} (h : (Sx.over rows a l)[r]? = some row) :
  (r<a.toNat/\rows[r]? =some row)\/(a.toNat<=r/\r<a.toNat+l.length/\l[r-a.toNat]? =some row)\/(a.toNat+l.length<=r/\rows[r]? =some row):=by
 unfold Sx.over at h;have hl:(rows.take a.toNat).length=a.toNat:=by grind
 by_cases c:r<a.toNat
 ·grind
 ·by_cases f:r<a.toNat+l.length
  ·grind
  ·rw[bB5,bA9 (by omega),hl,bA9 (by omega),bE0]at h
   grind
theorem aP3 (h1:a<=rows.length):(Sx.over rows a l).length=Nat.max rows.length (a.toNat+l.length):=by
 unfold Sx.over
 grind
theorem j7.over {k:Nat}   {news : List Value} (hr : j7 P F e z o k cs rows)  (h1 : a ≤ rows.length) (hl : ∀ r ∈ l, r.length = z) (hn : news.length = l.length * z) (hk : o + (a.toNat + l.length) * z ≤ k)
  (hx:∀(r j:Nat) (row:List Dat) (d:Dat),l[r]? =some row->row[j]? =some d-> ∃x,news[r*z+j]? =some x/\ ∀kd,(kf P e)[j]? =some kd->PV P F kd x d):j7 P F e z o k (fill cs (o+a.toNat*z) news) (Sx.over rows a l):=by
 obtain⟨A,g,f,B⟩:=hr;refine⟨?_,g,fun r h=>?_,fun r j row d h h'=>?_⟩
 ·rw[aP3 h1]
  grind
 ·obtain⟨q,hq⟩:=bK1 h
  rcases aF4 h1 hq with⟨_,h⟩| ⟨_,_,h⟩| ⟨_,h⟩
  ·grind
  ·grind
  ·grind
 ·rw[j3,hn]
  rcases aF4 h1 h with⟨c,h⟩| ⟨m,p,h⟩| ⟨c,h⟩
  ·have hj:j<z:=by have:=f _ (bB1 h);have:=(bA4.1 h').1;omega
   have:r*z+z<=a.toNat*z:=by rw[<-bG7];exact bB4 z c
   grind
  ·have hj:j<z:=by have:=hl _ (bB1 h);have:=(bA4.1 h').1;omega
   obtain⟨x,k1,k2⟩:=hx _ j row d h h';have w:r*z=a.toNat*z+(r-a.toNat)*z:=by rw[<-bD7];congr 1;omega
   grind
  ·have hj:j<z:=by have:=f _ (bB1 h);have:=(bA4.1 h').1;omega
   have:(a.toNat+l.length)*z<=r*z:=bB4 z c
   grind
variable {vs:List SV}
theorem af3 {t : TypeId} { I : TypeInfo} (  D : P.info? t = some  I) {fld:Nat} {row : E}   (ha : VD P U τ F (.ptr b z row fld) v) ( H : VDL P U τ F vs x.cells.toList) (hx : x.cells.toList.length =  I.size)
  (ho:x.cells.toList.all Value.oneCell'=true) (hs:SD P U τ F s hp):OKh P U (W1 P U b z row fld vs) τ F s hp fun a _ _ hp'=>a= .tup []/\A9 P hp t v x=some hp':=by
 unfold W1;refine OKh.read ?_;split
 ·rename_i L0 e z0 ah ab
  cases hq:Nat.ble (fld+vs.length) z&&Nat.beq z (kf P e).length with
  |false=>exact OKh.fail
  |true=>
   simp only[bB8];simp only[bA2,bE1,bF4]at hq;obtain⟨hf,hz⟩:=hq;refine(aj4 (ks:=kf P e) (j:=fld) (fun k a v τ F s hp=>ad0 20 k a v τ F s hp) H hs).bind fun es τ1 F1 s1 hp1 ex hs1 ⟨e1,e2,J,e4⟩=>OKh.read ?_
   subst e1;subst e2;split
   ·rename_i L e' z' ph hb
    cases hq:Nat.beq e e'&&Nat.beq z z' with
    |false=>exact OKh.fail
    |true=>
     simp only[bB8];simp only[bA2,bE1]at hq;obtain⟨rfl,rfl⟩:=hq;cases hT:phT ph L&&Nat.beq z 1&&Nat.beq fld 0&&Nat.beq es.length 1 with
     |true=>
      simp only[bB8];simp only[bA2,bE1]at hT;obtain⟨⟨⟨_,rfl⟩,rfl⟩,K⟩:=hT;obtain⟨e0,rfl⟩:∃e0,es=[e0]:=by
       match es,K with
       | [e0],_=>grind
      refine OKh.bindp OKp.need fun _ s2 X C p1=>OKh.bindp OKp.need fun _ Z o3 Q p2=>?_
      have p1:=n9 p1;have p2:=q8 p2;rw[c9]at p1;have w:Z.get b=some (.rows L e 1 ph):=by rw[o3.get,X.get];exact hb
      have p:=ha.mono ex.t ex.f
      rcases Q.live b _ w with⟨i,o,y,h1,h2,_,cs,n,rfl,h4,h5⟩| ⟨h1,L',e',z',Y,h2,h3,_⟩
      ·cases p with
       |ptr _ _ _ _ V o' h h0=>
        rw[h1]at h;simp only[bA1,bA3]at h;obtain⟨rfl,rfl⟩:=h;have ad:row.toN U+1<=ph.toN U:=by grind
        have S:x.cells.toList.length=1:=by rw[<-H.1,<-J];rfl
        have c:o+row.toN U*1+0+I.size<=n:=by grind
        have R:=ae0 D hx ho h2 c;have g:=j7.over (P:=P) (F:=F1) (news:=x.cells.toList) (l:=[[e0.den U]]) (a:=row.toI U) h4 p1 (fun r hr=>by simp at hr;rw[hr];rfl) (by rw[S];rfl)
         (by show o+(row.toN U+1)*1<=n;omega) (fun r j q d hr hd=>by
          have N:r=0:=by grind
          subst N;simp at hr;subst hr;have M:j=0:=by grind
          subst M;simp at hd;subst hd;obtain⟨y,hy⟩:∃y,x.cells.toList[0]? =some y:=⟨_,bB3 (by omega)⟩
          refine⟨y,hy,fun kd A=>?_⟩
          obtain⟨W,B,G⟩:=e4 0 y e0 hy rfl;rw[<-hz,A,bA1]at B;subst B;exact G)
        refine(OKh.change (x':= .rows (.op .over [L,row,.op (.rows 1 1) [e0]]) e 1 ph) (y:= .cells (fill cs (o+row.toN U*1+0) x.cells.toList) n e 1) (m:=hp1.m.set i (some (.cells (fill cs (o+row.toN U*1+0) x.cells.toList) n e 1))) w h1 (fun j hj=>by rw[T.get_set,bC1 hj]) (by rw[T.get_set,bC3 rfl]) ⟨_,n,rfl,g,h5⟩).bind fun _ aa F3 Z hp3 _ _ ⟨B,G,w3⟩=>OKh.ret ⟨rfl,?_⟩
        grind
      ·cases p with
       |ptr _ _ _ _ V o' h h0=>grind
     |false=>
     simp only[bB9];refine OKh.bindp OKp.need fun _ s2 X C p1=>?_
     have p1:=q8 p1;rw[c9]at p1;have w:s2.get b=some (.rows L e z ph):=by rw[X.get];exact hb
     have p:=ha.mono ex.t ex.f
     rcases C.live b _ w with⟨i,o,y,h1,h2,_,cs,n,rfl,h4,h5⟩| ⟨h1,L',e',z',Y,h2,h3,_⟩
     ·cases p with
      |ptr _ _ _ _ V o' h h0=>
       rw[h1]at h;simp only[bA1,bA3]at h;obtain⟨rfl,rfl⟩:=h;have O:row.toN U<(L.toR U).length:=by grind
       have ac:row.toN U*z+z<=(L.toR U).length*z:=by rw[<-bG7];exact bB4 z O
       have g1:=h4.1;have c:o+row.toN U*z+fld+I.size<=n:=by rw[<-hx,<-H.1];omega
       have R:=ae0 D hx ho h2 c;have g:=aG8 (P:=P) (F:=F1) h0 (es:=es) (vs:=x.cells.toList) (fld:=fld) h4 (by rw[J,H.1]) (by rw[J];exact hf) (fun q y d hy hd kd A=>by
        obtain⟨W,B,G⟩:=e4 q y d hy hd;have ae:q<es.length:=(bA4.1 hd).1;rw[<-hz,Nat.mod_eq_of_lt (by omega),A,bA1]at B
        subst B;exact G)
       refine(OKh.change (x':= .rows (br6 L row fld es) e z ph) (m:=hp1.m.set i (some (.cells (fill cs (o+row.toN U*z+fld) x.cells.toList) n e z))) w h1 (fun j hj=>by rw[T.get_set,bC1 hj]) (by rw[T.get_set,bC3 rfl]) ⟨_,n,rfl,g,h5⟩).bind fun _ aa F3 Z hp3 _ _ ⟨B,G,w3⟩=>OKh.ret ⟨rfl,?_⟩
       grind
     ·cases p with
      |ptr _ _ _ _ V o' h h0=>grind
   ·exact OKh.fail
 ·exact OKh.fail
theorem ae8 :∀ds:List Dat,(chunk 1 ds.length ds).length=ds.length
 | []=>rfl
 |d::ds=>by simp[chunk,ae8 ds]
theorem bl8 {k:IntKind}{es:List E}{row w:E}{j:Nat}{c:SV}(h0:0<=row.toI U)(hr:row.toN U<es.length)(h:(hset k es row w)[j]? =some c):∃e,c= .int k e/\e.toI U=if j=row.toN U then w.toI U else(es.getD j (.int 0)).toI U:=by
 unfold hset at h;rw[bF1]at h
 by_cases hj:j<es.length
 ·rw[List.getElem?_range hj]at h
  cases h;refine⟨_,rfl,?_⟩;show((aN3 0 _ _).den U).toInt=_;rw[aw2];show(u5 (Sx.over (chunk 1 es.length (E.dens U es)) (row.toI U) (chunk 1 1 [w.den U])) ((j:Nat):Int) 0).toInt=_;have hl:es.length=(E.dens U es).length:=by rw[E.dens_eq,bC0]
  have g:=Q8 (E.dens U es);rw[<-hl]at g;have f:=ae8 (E.dens U es);rw[<-hl]at f;have m:row.toN U=(row.toI U).toNat:=rfl;unfold u5 Sx.over;rw[bE2,bB5,bD2 (l:=_++_)];have ht:((chunk 1 es.length (E.dens U es)).take (row.toI U).toNat).length=row.toN U:=by grind
  by_cases e:j=row.toN U
  ·rw[bC3 e,bA9 (by omega),ht,e,bJ7];rfl
  ·rw[bC1 e]
   have key:(List.take (row.toI U).toNat (chunk 1 es.length (E.dens U es))++(chunk 1 1 [w.den U]++List.drop ((row.toI U).toNat+(chunk 1 1 [w.den U]).length) (chunk 1 es.length (E.dens U es))))[j]? =(chunk 1 es.length (E.dens U es))[j]? :=by
    by_cases c:j<row.toN U
    ·grind
    ·rw[bA9 (by omega),ht,bA9 (by show 1<=_;omega),bE0]
     show _[(row.toI U).toNat+1+(j-row.toN U-1)]? =_
     grind
   rw[key,g,E.dens_eq,bF1,bD2 (l:=es),bB3 hj];rfl
 ·grind
theorem aY6 {t : TypeId} { M : TypeInfo} (  I : P.info? t = some  M) { B fld:Nat} {l : List SV} {row : E}   (hb : s.get b = some (.cells l e  B)) (hf : fld ≤ l.length) ( Q : VD P U τ F (.ptr b 1 row fld) v) ( K : VDL P U τ F vs x.cells.toList) (hx : x.cells.toList.length =  M.size)
  (R:x.cells.toList.all Value.oneCell'=true) (hs:SD P U τ F s hp):OKh P U (aK3 U b l e B row fld vs) τ F s hp fun a _ _ hp'=>a= .tup []/\A9 P hp t v x=some hp':=by
 unfold aK3;split
 ·rename_i k w
  split
  ·rename_i es G
   obtain⟨q1,q2⟩:=am9 G;refine OKh.bindp OKp.need fun _ s2 V H hlt=>?_
   have hlt:=q8 hlt;simp only[o6]at hlt;have g:s2.get b=some (.cells l e B):=by rw[V.get];exact hb
   rcases H.live b _ g with⟨i,o,y,h1,h2,_,cs,n,rfl,h4,h5⟩| ⟨h1,Z,e',X,W,h2,h3,_⟩
   ·cases Q with
    |ptr _ _ _ _ i' o' h h0=>
     rw[h1]at h;simp only[bA1,bA3]at h;obtain⟨rfl,rfl⟩:=h;have hr:row.toN U<es.length:=by grind
     rw[List.length_drop]at q1;have A:x.cells.toList.length=1:=by rw[<-K.1];rfl
     have S:=ae0 I hx R h2 (o:=o+row.toN U*1+fld) (by rw[<-hx,A];omega)
     refine(OKh.change (x':= .cells (l.take fld++hset k es row w) e B) (m:=hp.m.set i (some (.cells (fill cs (o+row.toN U*1+fld) x.cells.toList) n e B))) g h1 (fun j hj=>by rw[T.get_set,bC1 hj]) (by rw[T.get_set,bC3 rfl])
      ⟨_,n,rfl,?_,fun j c hc=>?_⟩ (by intro c _ _ c' k1 _ _ N n1 J;cases k1;rw[h2]at J;cases J;exact⟨_,rfl,fun j hj=>by rw[j3,bC1 (by omega)]⟩)).bind fun _ Y F3 s3 hp3 _ _ ⟨C,D,w3⟩=>OKh.ret ⟨rfl,?_⟩
     ·simp[hset];omega
     ·have O:(l.take fld).length=fld:=by simp;omega
      rw[j3,A]
      by_cases hj:j<fld
      ·grind
      ·rw[bA9 (by omega),O]at hc
       obtain⟨c',rfl,f⟩:=bl8 h0 hr hc
       by_cases p:j-fld=row.toN U
       ·rw[bC3 (by omega)]
        obtain⟨y,C,D⟩:=K.get (i:=0) (a:= .int k w) rfl;refine⟨y,by rw[<-C];congr 1;omega,?_⟩
        rw[bC3 p]at f;cases D;exact VD.int' f
       ·rw[bC1 (by omega)]
        rw[bC1 p]at f;have r:=(bA4.1 hc).1;have q:j-fld<es.length:=by simpa [hset]using r
        have L:=q2 _ _ (bB3 q);rw[bE0,show fld+(j-fld)=j by omega]at L
        obtain⟨y,C,D⟩:=h5 _ _ L;refine⟨y,C,?_⟩;rw[bD2,bB3 q]at f;cases D;exact VD.int' f
     ·grind
   ·cases h2
  ·exact OKh.fail
 ·exact OKh.fail
theorem bj0 {t:TypeId}{a b:SV}(C:VD P U τ F a v)(hb:VD P U τ F b x)(hs:SD P U τ F s hp):OKh P U (aY5 P U t a b) τ F s hp fun c _ _ hp'=>c= .tup []/\A9 P hp t v x=some hp':=by
 unfold aY5;split
 ·exact OKh.fail
 ·rename_i L g
  split
  ·exact OKh.fail
  ·rename_i vs J
   have f:=ac9 hb J;cases hq:Nat.beq vs.length L.size&&vs.all ax7 with
   |false=>exact OKh.fail
   |true=>
    simp only[bB8];simp only[bA2,bE1]at hq;obtain⟨A,B⟩:=hq;have hx:x.cells.toList.length=L.size:=by rw[<-f.1];exact A
    have D:=aP2 f B;split
    ·rename_i b' z row fld
     refine OKh.read ?_;split
     ·rename_i l e G p
      split
      ·rename_i r
       cases hq:decide (0<=r)&&Nat.ble (r.toNat*z+fld+vs.length) l.length with
       |false=>exact OKh.fail
       |true=>
        simp only[bB8];simp only[bA2,bC2,bF4]at hq
        rcases hs.live b' _ p with⟨i,o,y,h1,h2,_,cs,n,rfl,h4,h5⟩| ⟨h1,X,e',G,R,h2,h3,_⟩
        ·cases C with
         |ptr _ _ _ _ Y o' h h0=>
          rw[h1]at h;simp only[bA1,bA3]at h;obtain⟨rfl,rfl⟩:=h;have H:(E.int r).toN U=r.toNat:=rfl;have Q:=ae0 g hx D h2 (o:=o+(E.int r).toN U*z+fld) (by rw[H,<-hx,<-f.1];omega)
          refine(OKh.change (x':= .cells (H7 l (r.toNat*z+fld) vs) e G) (m:=hp.m.set i (some (.cells (fill cs (o+(E.int r).toN U*z+fld) x.cells.toList) n e G))) p h1 (fun j hj=>by rw[T.get_set,bC1 hj]) (by rw[T.get_set,bC3 rfl])
           ⟨_,n,rfl,?_,fun j c hc=>?_⟩ (by intro c _ _ c' k1 _ _ M Z K;cases k1;rw[h2]at K;cases K;exact⟨_,rfl,fun j hj=>by rw[j3,bC1 (by rw[H];have:=f.1;omega)]⟩)).bind fun _ W F3 s3 hp3 _ _ ⟨S,V,w3⟩=>OKh.ret ⟨rfl,?_⟩
          ·unfold H7;simp;omega
          ·unfold H7 at hc
           rw[j3,H]
           by_cases hj:r.toNat*z+fld<=j/\j<r.toNat*z+fld+x.cells.toList.length
           ·rw[bC3 (by omega)]
            have q:(l.take (r.toNat*z+fld)).length=r.toNat*z+fld:=by grind
            rw[bB5,bA9 (by omega),bB0 (by rw[q,f.1];omega),q]at hc
            obtain⟨w,S,V⟩:=f.get hc
            grind
           ·rw[bC1 (by omega)]
            by_cases I:j<r.toNat*z+fld
            ·rw[bB5,bB0 (by simp;omega),bD4,bC3 I]at hc
             grind
            ·have q:(l.take (r.toNat*z+fld)).length=r.toNat*z+fld:=by simp;omega
             rw[bB5,bA9 (by omega),q,bA9 (by rw[f.1];omega),bE0]at hc
             grind
          ·grind
        ·cases h2
      ·cases hq:Nat.beq z 1&& !Nat.beq G 1&&Nat.ble fld l.length with
       |true=>
        rw[bB8];simp only[bA2,bE1,bF4]at hq;obtain⟨⟨rfl,_⟩,hf⟩:=hq;exact aY6 g p hf C f hx D hs
       |false=>
        rw[bB9];refine(ax1 hs).bind fun _ τ1 F1 s1 hp1 ex hs1 ⟨q,N,O⟩=>?_
        subst q;subst N;subst O;exact af3 g C f hx D hs1
     ·exact af3 g C f hx D hs
     ·exact OKh.fail
    ·exact OKh.fail
end
end Go.Sx
namespace Go.Sx
open Go.Xe
def aV6 (e l h:E):E:=match e,l,h with
 | .str p,.int a,.int b=>.str ((p.take b.toNat).drop a.toNat)
 |e,l,h=>.op .ssub [e,l,h]
def H3 (x:Option SV)(d:E):Option E:=match x with
 |none=>some d
 |some (.int _ e)=>some e
 |some _=>none
def ag1 :E->Bool
 | .int n=>decide (n=0)
 |_=>false
section
variable (P :Program)(U:Nat->List Dat->Dat)
def slen (t:TypeId)(x:SV):M SV:=
 match P.underlying t,x with
 |some .string,.str e=>b9 (.int .i64 (R0 e))
 |some (.array n _),_=>b9 (.int .i64 (.int n))
 |some (.slice _),.sl _ _ _ len _=>b9 (.int .i64 len)
 |some (.slice _),.lst _ L _=>b9 (.int .i64 (i9 L))
 |some (.slice _),.nils=>b9 (.int .i64 (.int 0))
 |some (.map _ _),.nilm=>b9 (.int .i64 (.int 0))
 |_,_=>a6 "len"
def scap (t:TypeId)(x:SV):M SV:=
 match P.underlying t,x with
 |some (.slice _),.sl _ _ _ _ (.ex c)=>b9 (.int .i64 c)
 |some (.slice _),.lst _ L true=>b9 (.int .i64 (i9 L))
 |some (.slice _),.nils=>b9 (.int .i64 (.int 0))
 |some (.array n _),_=>b9 (.int .i64 (.int n))
 |_,_=>a6 "cap"
def K8 (l h top:E):M Unit:=a7 (i3 U (k9 (l6 l (.int 0)))) fun _=>a7 (i3 U (k9 (l6 h l))) fun _=>i3 U (k9 (l6 top h))
def aD6 (b z:Nat)(off l h c:E):M SV:=
 bif ag1 l then b9 (.sl b z off h (.ex c))else
  a7 (aa4 U (A3 c l)) fun t=>bif t then b9 (.sl b z off (J2 h l) (.ex (J2 c l)))else b9 (.sl b z (l9 off l) (J2 h l) (.ex (J2 c l)))
def bx3 (e b z : Nat) (off len l h : E) : M SV :=
 bif ag1 l then b9 (.sl b z off h .ge) else
  a7 (aa4 U (l6 l len)) fun t => i7 fun s => match s.get b with
   | some (.rows L e' z' _) => bif Nat.beq e e' && Nat.beq z z' then
     (bif t then b9 (.sl b z (l9 off l) (J2 h l) .ge)else
      a7 (i3 U (k9 (l6 (i9 L) (l9 off len)))) fun _=>a7 (Y9 b none) fun _=>b9 (.lst e (.op .nil []) false))
    else a6 "slice: type"
   |some (.cells _ e' z')=>bif Nat.beq e e'&&Nat.beq z z'&&t then b9 (.sl b z (l9 off l) (J2 h l) .ge)else a6 "slice: cells"
   |_=>a6 "slice: no block"
def aY4 (t : TypeId) (x : SV) (lo hi mx : Option SV) : M SV :=
 match P.underlying t with
 |some .string=>match x,mx with
  | .str e,none=>match H3 lo (.int 0),H3 hi (R0 e)with
   |some l,some h=>a7 (K8 U l h (R0 e)) fun _=>b9 (.str (aV6 e l h))
   |_,_=>a6 "slice: bounds"
  |_,_=>a6 "slice: string"
 | some (.slice e) => match P.info? e with
  |none=>a6 "slice: type"
  | some ie => match x with
   | .nils=>match H3 lo (.int 0),H3 hi (.int 0),mx with
    |some l,some h,none=>a7 (K8 U l h (.int 0)) fun _=>b9 .nils
    |some l,some h,some m=>match H3 (some m) (.int 0),hi with
     |some m,some _=>a7 (K8 U l h m) fun _=>a7 (i3 U (k9 (l6 (.int 0) m))) fun _=>b9 .nils
     |_,_=>a6 "slice: bounds"
    |_,_,_=>a6 "slice: bounds"
   | .sl b z off len cap => bif Nat.beq z ie.size then
     match H3 lo (.int 0),H3 hi len,mx with
     |some l,some h,none=>match cap with
      | .ex c=>a7 (K8 U l h c) fun _=>aD6 U b z off l h c
      | .ge=>a7 (K8 U l h len) fun _=>bx3 U e b z off len l h
      | .un=>a6 "slice: room"
     |some l,some h,some m=>match H3 (some m) (.int 0),hi with
      |some m,some _=>a7 (K8 U l h m) fun _=>a7 (i3 U (k9 (l6 (match cap with| .ex c=>c|_=>len) m))) fun _=>aD6 U b z off l h m
      |_,_=>a6 "slice: bounds"
     |_,_,_=>a6 "slice: bounds"
    else a6 "slice: size"
   | .lst e' L clip => bif Nat.beq e e' && Nat.beq ie.size (kf P e).length then
     match H3 lo (.int 0),H3 hi (i9 L),mx with
     |some l,some h,none=>a7 (K8 U l h (i9 L)) fun _=>a7 (X9 U L l (J2 h l)) fun c=>b9 (.lst e' c (clip&&hi.isNone))
     | some l, some h, some m => match H3 (some m) (.int 0), hi with
      | some m, some _ => a7 (K8 U l h m) fun _ => a7 (i3 U (k9 (l6 (i9 L) m))) fun _ => a7 (bif clip then b9 () else i3 U (l6 (.int 0) (i9 L))) fun _ =>
        a7 (X9 U L l (J2 h l)) fun c=>bif E.like h m then a7 (i3 U (A3 h m)) fun _=>b9 (.lst e' c true)else b9 (.lst e' c false)
      |_,_=>a6 "slice: bounds"
     |_,_,_=>a6 "slice: bounds"
    else a6 "slice: list"
   |_=>a6 "slice: value"
 |_=>a6 "slice: type"
end
section
variable {P :Program}{U:Nat->List Dat->Dat}{τ:Tau}{F:Nat->Option Blk}{s:SS}{hp:Hp}
variable {v:Value}
theorem H0 {t:TypeId}{w:Value}(h:at2 P t v=some w)(hm:∀i,v≠ .map (some i)):Q3 hp P t v=some w:=by
 unfold Q3;split
 ·rename_i i _;exact absurd rfl (hm i)
 ·exact h
theorem PV.slice {e:TypeId}{d:Dat}(h:PV P F (.sl e) v d):∃a c,v= .slice a d.rows.length c:=by
 cases h<;>exact⟨_,_,rfl⟩
theorem bw0 {t:TypeId}{a:SV}(f:VD P U τ F a v):OKp U (slen P t a) s fun b=>∃w,Q3 hp P t v=some w/\VD P U τ F b w:=by
 unfold slen;split
 ·rename_i e ht
  cases f;refine OKp.ret ⟨.int .i64 ((e.den U).toStr.length:Nat),H0 ?_ (fun i h=>by cases h),VD.int' (G2 e)⟩
  simp[at2,ht]
 ·rename_i _ _ _ n e ht
  refine OKp.ret ⟨.int .i64 (n:Nat),?_,VD.int' rfl⟩;unfold Q3;split
  ·simp_all
  ·simp only[at2,ht]
 ·rename_i e' b z off len cap ht
  cases f with
  |sl _ _ _ _ _ i o c h h0 h1 hc=>
   refine OKp.ret ⟨.int .i64 (len.toN U:Nat),H0 ?_ (fun i h=>by cases h),VD.int' (by show len.toI U=((len.toI U).toNat:Int);omega)⟩
   simp[at2,ht]
  |sl0 _ _ _ _ _ h h0 h1 hc=>
   refine OKp.ret ⟨.int .i64 0,H0 ?_ (fun i h=>by cases h),VD.int' h1⟩
   simp[at2,ht]
 ·rename_i e' t' L clip ht
  cases f with
  |lst _ _ _ _ h hc=>
   obtain⟨a,c,rfl⟩:=h.slice;refine OKp.ret ⟨.int .i64 ((L.toR U).length:Nat),H0 ?_ (fun i h=>by cases h),VD.int' (c9 L)⟩
   simp only[at2,ht];rfl
 ·rename_i e' ht
  cases f;refine OKp.ret ⟨.int .i64 0,H0 ?_ (fun i h=>by cases h),VD.int' rfl⟩
  simp[at2,ht]
 ·rename_i k' e' ht
  cases f;refine OKp.ret ⟨.int .i64 0,H0 ?_ (fun i h=>by cases h),VD.int' rfl⟩
  simp[at2,ht]
 ·exact OKp.fail
theorem ba5 {e:TypeId}{a:Option Addr}{l:Nat}{d:Dat}(h:PV P F (.sl e) (.slice a l l) d):a=none\/l<unk:=by
 cases h with
 |nils=>grind
 |sl _ i o c b cs n z rows x hF hb hc hn hz hr hx hp=>
  right
  rcases hc.1 with⟨h,_⟩| ⟨lo,h1,h2,h3⟩
  ·exact h
  ·have:=u9 lo 0
   rw[<-h1]at this;unfold unk at*;omega
theorem bv8 {t:TypeId}{a:SV}(f:VD P U τ F a v):OKp U (scap P t a) s fun b=>∃w,as8 P t v=some w/\VD P U τ F b w:=by
 unfold scap;split
 ·rename_i e' b z off len c ht
  cases f with
  |sl _ _ _ _ _ i o c' h h0 h1 hc=>
   obtain⟨k1,k2,k3,g⟩:=hc;refine OKp.ret ⟨.int .i64 (c':Nat),?_,VD.int' (by rw[k2];show c.toI U=((c.toI U).toNat:Int);omega)⟩
   have:Nat.ble unk c'=false:=by
    cases hb:Nat.ble unk c' with
    |false=>rfl
    |true=>simp_all;omega
   simp only[as8,ht,this,bB9]
  |sl0 _ _ _ _ _ h h0 h1 hc=>
   refine OKp.ret ⟨.int .i64 0,?_,VD.int' (hc c rfl)⟩;simp[as8,ht]
 ·rename_i e' t' L ht
  cases f with
  |lst _ _ _ _ h hc=>
   obtain⟨a,l,rfl⟩:=hc rfl;have hl:=h.len;refine OKp.ret ⟨.int .i64 (l:Nat),?_,VD.int' (by rw[c9,hl];rfl)⟩
   rcases ba5 h with rfl|hlt
   ·simp only[as8,ht]
   ·cases a with
    |none=>simp only[as8,ht]
    |some a=>
     have:Nat.ble unk l=false:=by
      cases hb:Nat.ble unk l with
      |false=>rfl
      |true=>simp_all;omega
     simp only[as8,ht,this,bB9]
 ·rename_i e' ht
  cases f;refine OKp.ret ⟨.int .i64 0,?_,VD.int' rfl⟩;simp[as8,ht]
 ·rename_i _ _ _ n e' ht
  refine OKp.ret ⟨.int .i64 (n:Nat),?_,VD.int' rfl⟩;simp only[as8,ht]
 ·exact OKp.fail
def OVD (P:Program)(U:Nat->List Dat->Dat)(τ:Tau)(F:Nat->Option Blk):Option SV->Option Value->Prop
 |none,none=>True
 |some a,some v=>VD P U τ F a v
 |_,_=>False
theorem C8 {l h top:E}:OKp U (K8 U l h top) s fun _=>0<=l.toI U/\l.toI U<=h.toI U/\h.toI U<=top.toI U:=by
 unfold K8;exact OKp.need.bind fun _ _ _ _ h1=>OKp.need.bind fun _ _ _ _ h2=>OKp.need.mono fun _ h3=>⟨V4 h1,n9 h2,n9 h3⟩
theorem ai8 {x:Option SV}{v:Option Value}(h:OVD P U τ F x v){d e:E}(he:H3 x d=some e):(v=none/\e=d)\/ ∃k,v=some (.int k (e.toI U)):=by
 unfold H3 at he;split at he
 ·simp only[bA1]at he;subst he
  cases v with
  |none=>grind
  |some v=>exact h.elim
 ·simp only[bA1]at he;subst he
  cases v with
  |none=>exact h.elim
  |some v=>
   have:VD P U τ F (.int _ _) v:=h;cases this;exact .inr ⟨_,rfl⟩
 ·cases he
theorem T9 {k:IntKind}{n:Int}{y:Nat}(h0:0<=n)(h1:n<=y):D1 (.int k n) y=some n.toNat:=by
 show(bif decide (0<=n)&&decide (n<=(y:Int))then some n.toNat else none)=some n.toNat
 grind
variable {hi lo:Option SV}{vhi vlo:Option Value}
theorem A5   (  g : OVD P U τ F lo vlo) (  c : OVD P U τ F hi vhi) {l h dl  j : E} ( q : H3 lo dl = some l) ( m : H3 hi  j = some h) {len  f : Nat} (h1 : 0 ≤ l.toI U) (h2 : l.toI U ≤ h.toI U) (h3 : h.toI U ≤  f)
  (A:dl.toI U=0) (w:hi=none->h.toN U=len):v6 len f vlo vhi none=some (l.toN U,h.toN U,none):=by
 have p:(match vhi with|some v=>D1 v f|none=>some len)=some (h.toN U):=by
  rcases ai8 c m with⟨rfl,rfl⟩| ⟨k,rfl⟩
  ·cases hi with
   |none=>grind
   |some x=>exact c.elim
  ·exact T9 (by omega) h3
 have r:(match vlo with|some v=>D1 v (h.toN U)|none=>some 0)=some (l.toN U):=by
  rcases ai8 g q with⟨rfl,rfl⟩| ⟨k,rfl⟩
  ·grind
  ·exact T9 h1 (by show l.toI U<=((h.toI U).toNat:Int);omega)
 unfold v6
 grind
theorem I7   {mx : SV} {vm : Value} (  j : OVD P U τ F lo vlo) (  f : OVD P U τ F hi vhi) (  p : VD P U τ F mx vm) {l h m dl  q  r : E} ( A : H3 lo dl = some l) ( w : H3 hi  q = some h) ( C : H3 (some mx)  r = some m) {len  g : Nat}
  (h1:0<=l.toI U) (h2:l.toI U<=h.toI U) (h3:h.toI U<=m.toI U) (h4:m.toI U<=g) (G:dl.toI U=0) (hh:hi≠none):v6 len g vlo vhi (some vm)=some (l.toN U,h.toN U,some (m.toN U)):=by
 have D:D1 vm g=some (m.toN U):=by
  rcases ai8 (x:=some mx) (v:=some vm) p C with⟨e,_⟩| ⟨k,e⟩
  ·cases e
  ·cases e;exact T9 (by omega) h4
 have c:∃v,vhi=some v/\D1 v (m.toN U)=some (h.toN U):=by
  rcases ai8 f w with⟨rfl,rfl⟩| ⟨k,rfl⟩
  ·cases hi with
   |none=>grind
   |some x=>exact f.elim
  ·exact⟨_,rfl,T9 (by omega) (by show h.toI U<=((m.toI U).toNat:Int);omega)⟩
 have B:(match vlo with|some v=>D1 v (h.toN U)|none=>some 0)=some (l.toN U):=by
  rcases ai8 j A with⟨rfl,rfl⟩| ⟨k,rfl⟩
  ·grind
  ·exact T9 h1 (by show l.toI U<=((h.toI U).toNat:Int);omega)
 obtain⟨v,rfl,c⟩:=c;unfold v6
 grind
theorem aE2 {e:E}(h:ag1 e=true):e.toI U=0:=by
 unfold ag1 at h;split at h
 ·rename_i n;exact bH8 h
 ·cases h
theorem W4 {a b:E}(h0:0<=b.toI U):(J2 a b).toN U=a.toN U-b.toN U:=by
 show((J2 a b).toI U).toNat=(a.toI U).toNat-(b.toI U).toNat;rw[j5];omega
theorem al1 {a b:E}(h0:0<=a.toI U)(h1:0<=b.toI U):(l9 a b).toN U=a.toN U+b.toN U:=by
 show((l9 a b).toI U).toNat=(a.toI U).toNat+(b.toI U).toNat;rw[f7];omega
variable {b z:Nat}
theorem VD.sl' {i o c n a:Nat}{off len:E}{cap:Cp}(h:τ b=some (some (i,o)))(h0:0<=off.toI U)(h1:0<=len.toI U)(hc:aB7 U len cap c)(f:a=o+off.toN U*z)(hn:n=len.toN U):VD P U τ F (.sl b z off len cap) (.slice (some ⟨i,a,none⟩) n c):=by
 subst f;subst hn;exact .sl b z off len cap i o c h h0 h1 hc
theorem Z6 {i o:Nat} {off l h c : E} ( f : τ b = some (some (i, o))) (h0 : 0 ≤ off.toI U) (h1 : 0 ≤ l.toI U) (h2 : l.toI U ≤ h.toI U) (h3 : h.toI U ≤ c.toI U) ( p : c.toN U < unk) {a : Nat} ( m : a = o + off.toN U * z) :
  OKp U (aD6 U b z off l h c) s fun x=>VD P U τ F x (bif Nat.beq (c.toN U) (l.toN U)then .slice (some ⟨i,a,none⟩) (h.toN U-l.toN U) (c.toN U-l.toN U)else .slice (some ⟨i,a+l.toN U*z,none⟩) (h.toN U-l.toN U) (c.toN U-l.toN U)):=by
 subst m;unfold aD6;have g:aB7 U (J2 h l) (.ex (J2 c l)) (c.toN U-l.toN U):=by
  refine⟨by rw[j5];omega,by rw[W4 h1],by omega,?_⟩
  rw[j5,j5];omega
 cases hz:ag1 l with
 |true=>
  simp only[bB8];have hl:=aE2 (U:=U) hz;have j:l.toN U=0:=by grind
  refine OKp.ret ?_;rw[j];have q:VD P U τ F (.sl b z off h (.ex c)) (.slice (some ⟨i,o+off.toN U*z,none⟩) (h.toN U-0) (c.toN U-0)):=VD.sl' f h0 (by omega) ⟨by omega,by omega,by omega,h3⟩ rfl (by omega)
  grind
 |false=>
  simp only[bB9];refine OKp.test.bind fun t _ _ _ ht=>?_
  rw[D7]at ht;cases t with
  |true=>
   simp only[bC2]at ht;simp only[bB8];refine OKp.ret ?_;rw[l8 (show c.toN U=l.toN U by show(c.toI U).toNat=_;rw[ht]),bB8]
   exact VD.sl' f h0 (by rw[j5];omega) g rfl (by rw[W4 h1])
  |false=>
   simp only[bE9]at ht;simp only[bB9];refine OKp.ret ?_;rw[n8 (show c.toN U≠l.toN U by show(c.toI U).toNat≠(l.toI U).toNat;omega),bB9]
   exact VD.sl' f (by rw[f7];omega) (by rw[j5];omega) g (by rw[al1 h0 h1,bD7];omega) (by rw[W4 h1])
theorem aD7 {off l h c:E}(f:τ b=some none)(h0:off.toI U=0)(h1:0<=l.toI U)(h2:l.toI U<=h.toI U)(h3:h.toI U<=c.toI U)(h4:c.toI U<=0):OKp U (aD6 U b z off l h c) s fun x=>VD P U τ F x (.slice none 0 0):=by
 unfold aD6;cases hz:ag1 l with
 |true=>
  simp only[bB8];exact OKp.ret (.sl0 b z off h (.ex c) f h0 (by omega) (fun e he=>by cases he;omega))
 |false=>
  simp only[bB9];refine OKp.test.bind fun t _ _ _ ht=>?_
  have hs:(J2 h l).toI U=0:=by rw[j5];omega
  have hc:∀e,Cp.ex (J2 c l)= .ex e->e.toI U=0:=fun e he=>by cases he;rw[j5];omega
  cases t with
  |true=>exact OKp.ret (.sl0 b z off _ _ f h0 hs hc)
  |false=>exact OKp.ret (.sl0 b z _ _ _ f (by rw[f7];omega) hs hc)
end
end Go.Sx
namespace Go.Sx
open Go.Xe
section
variable {P :Program}{U:Nat->List Dat->Dat}{τ:Tau}{F:Nat->Option Blk}{s:SS}{hp:Hp}
variable {n:Nat}
theorem au6 (h:n<=67108864):n<unk:=by unfold unk;omega
variable {a:Nat}
theorem X6 {b:Nat}(h:b<a):Nat.ble a b=false:=by
 cases hb:Nat.ble a b with
 |false=>rfl
 |true=>simp_all;omega
theorem av4 (lo:Nat):G4 (g9 lo 0)=lo:=L8 I3
theorem aM8 (lo:Nat):B4 (g9 lo 0)=0:=L7 I3
theorem aV7 (e l h:E):((aV6 e l h).den U).toStr=((e.den U).toStr.take (h.toN U)).drop (l.toN U):=by
 unfold aV6;split<;>rfl
variable (P U) in
def ba3 (hp:Hp)(t:TypeId)(v:Value)(lo hi mx:Option Value)(c:SV)(τ:Tau)(F:Nat->Option Blk)(hp':Hp):Prop:=hp'=hp/\ ∃w,o9 P hp t v lo hi mx=some (w,hp)/\VD P U τ F c w
variable {v:Value}{lo mx:Option Value}
theorem OKp.slice {m:M SV}{t:TypeId}{hi:Option Value}(h:OKp U m s fun c=>∃w,o9 P hp t v lo hi mx=some (w,hp)/\VD P U τ F c w):OKh P U m τ F s hp (ba3 P U hp t v lo hi mx):=
 (h.up (P:=P) (τ:=τ) (F:=F) (hp:=hp)).mono fun _ _ _ _ _ _ ⟨f,g,j,h⟩=>by subst f;subst g;subst j;exact⟨rfl,h⟩
variable {h i l len:Nat}{hi':Option Value}
theorem U6 {t e : TypeId} {ie : TypeInfo} (ht : P.underlying t = some (.slice e)) (hi : P.info? e = some ie) {cap:Nat} ( c : cap < unk) (hl : len ≤ cap)   {m : Option Nat} (hb : v6 len cap lo hi' mx = some (l, h, m)) :
  o9 P hp t (.slice (some ⟨i,a,none⟩) len cap) lo hi' mx=some (bif Nat.beq (m.getD cap) l then .slice (some ⟨i,a,none⟩) (h-l) (m.getD cap-l)else .slice (some ⟨i,a+l*ie.size,none⟩) (h-l) (m.getD cap-l),hp):=by
 simp only[o9,ht,hi];rw[X6 c,bB9,bA8 hl,bB8,hb]
 grind
theorem ah9 {t e : TypeId} {ie : TypeInfo} (ht : P.underlying t = some (.slice e)) (hi : P.info? e = some ie) {  c:Nat} (  f :   c ≤ 67108864) (hl : len ≤ 67108864)  {m:Nat} (hb : v6 len (Nat.max   c len) lo hi' mx = some (l, h, some m)) :
  o9 P hp t (.slice (some ⟨i,a,none⟩) len (g9 c 0)) lo hi' mx=some (bif Nat.beq m l then .slice (some ⟨i,a,none⟩) (h-l) (m-l)else .slice (some ⟨i,a+l*ie.size,none⟩) (h-l) (m-l),hp):=by
 simp only[o9,ht,hi];rw[bA8 (u9 c 0),bB8,av4,bA8 (Nat.max_le.2 ⟨f,hl⟩),bB8,hb]
 grind
theorem X3 {t e : TypeId} {ie : TypeInfo} (ht : P.underlying t = some (.slice e)) (hi : P.info? e = some ie) {  c:Nat} (  f :   c ≤ 67108864) (hl : len ≤ 67108864)   (hb : v6 len (Nat.max   c len) lo hi' none = some (l, h, none)) :
  o9 P hp t (.slice (some ⟨i,a,none⟩) len (g9 c 0)) lo hi' none=bif Nat.beq l 0 then some (.slice (some ⟨i,a,none⟩) h (g9 (Nat.max c len) 0),hp)else
   bif Nat.beq l (Nat.max c len)then some (.slice (some ⟨0,0,some 0⟩) 0 unk,hp)else match hp.m.get i with
    |some (.cells _ _ _ g)=>bif Nat.beq g ie.size then some (.slice (some ⟨i,a+l*ie.size,none⟩) (h-l) (g9 (Nat.max c len-l) (0-l)),hp)else none
    |_=>none:=by
 simp only[o9,ht,hi];rw[bA8 (u9 c 0),bB8,av4,aM8,bA8 (Nat.max_le.2 ⟨f,hl⟩),bB8,hb];rfl
theorem D3 {t e:TypeId}{ie:TypeInfo}(ht:P.underlying t=some (.slice e))(hi:P.info? e=some ie){r:Nat×Nat×Option Nat}(hb:v6 0 0 lo hi' mx=some r):o9 P hp t (.slice none 0 0) lo hi' mx=some (.slice none 0 0,hp):=by
 simp only[o9,ht,hi];rw[hb];rfl
theorem aL8 {t e : TypeId} {ie : TypeInfo} (ht : P.underlying t = some (.slice e)) (hi : P.info? e = some ie)   (hb : v6 0 0 lo hi' none = some (l, h, none)) :
  o9 P hp t (.slice (some ⟨0,0,some 0⟩) 0 unk) lo hi' none=some (.slice (some ⟨0,0,some 0⟩) 0 unk,hp):=by
 simp only[o9,ht,hi];rw[hb]
theorem S9 {b:Nat}(h:a<=n)(k:b<=n):Nat.max a b<=n:=Nat.max_le.2 ⟨h,k⟩
theorem O5 (a b:Nat):b<=Nat.max a b:=Nat.le_max_right a b
variable {cs:T Value}{rows:Rows}
theorem PV.cut {e c z zb:Nat} {b : Blk}   {x : Nat → Nat → Value} (hF : F i = some b) (hb : arr b = some (cs, n, zb)) (hn : a + rows.length * z ≤ n) (hz : z = (kf P e).length) (hr : ∀ r ∈ rows, r.length = z)
  (hx:∀(r k:Nat) (row:List Dat) (d:Dat),rows[r]? =some row->row[k]? =some d->cs.get (a+r*z+k)=some (x r k))
  (hp:∀(r k:Nat) (row:List Dat) (kd:Kd) (d:Dat),rows[r]? =some row->row[k]? =some d->(kf P e)[k]? =some kd->PV P F kd (x r k) d) {l len:Int} (h0:0<=l) (h1:0<=len) (h2:l+len<=rows.length) (hc:ap8 len.toNat c/\roC b c zb z):
  PV P F (.sl e) (.slice (some ⟨i,a+l.toNat*z,none⟩) len.toNat c) (.lst (part rows l len)):=by
 have hl:=L9 h0 h1 h2;have := PV.sl (P := P) (F := F) e i (a + l.toNat * z) c b cs n z (part rows l len) (fun r k => x (l.toNat + r) k) hF hb (by rw [hl]; exact hc)
  (by rw [hl]
      have:l.toNat*z+len.toNat*z<=rows.length*z:=by rw[<-bD7];exact bB4 z (by omega)
      omega) hz (fun r h=>hr r (List.mem_of_mem_drop (List.mem_of_mem_take h)))
  (fun r k row d h1 h2=>by rw[<-hx _ k row d (T5 h1) h2];congr 1;rw[bD7];omega) (fun r k row kd d h1 h2 h3=>hp _ k row kd d (T5 h1) h2 h3)
 grind
theorem PV.cut0 {e c z zb:Nat}{b:Blk}(hF:F i=some b)(hb:arr b=some (cs,n,zb))(hn:a<=n)(hz:z=(kf P e).length)(hc:ap8 0 c/\roC b c zb z):PV P F (.sl e) (.slice (some ⟨i,a,none⟩) 0 c) (.lst []):=
 PV.sl (P:=P) (F:=F) e i a c b cs n z [] (fun _ _=>undef) hF hb hc (by simpa using hn) hz (fun r h=>by simp at h) (fun r k row d h=>by simp at h) (fun r k row kd d h=>by simp at h)
theorem G6 {l len:Int}(h:len<=0):part rows l len=[]:=by
 unfold part
 simp_all
variable {hi:Option SV}{vhi vlo:Option Value}
theorem bh2 {t e : TypeId} {ie : TypeInfo} (ht : P.underlying t = some (.slice e)) (  r : P.info? e = some ie) (  K : ie.size = (kf P e).length) (   H : ∀ i b, F i = some b → hp.m.get i = some b)   (hv : PV P F (.sl e) v (.lst rows)) {lo:Option SV} 
  (B:OVD P U τ F lo vlo) (q:OVD P U τ F hi vhi) {l h T:E} (N:H3 lo (.int 0)=some l) (D:H3 hi T=some h) (ac:T.toI U=rows.length) (h1:0<=l.toI U) (h2:l.toI U<=h.toI U) (h3:h.toI U<=rows.length):
  ∃w,o9 P hp t v vlo vhi none=some (w,hp)/\PV P F (.sl e) w (.lst (part rows (l.toI U) (h.toI U-l.toI U)))/\((∃a n,v= .slice a n n)->hi=none-> ∃a n,w= .slice a n n):=by
 have A:hi=none->h.toN U=rows.length:=fun hn=>by
  subst hn;simp only[H3,bA1]at D;subst D
  grind
 have ab:l.toI U=((l.toN U:Nat):Int):=by grind
 have aa:h.toI U=((h.toN U:Nat):Int):=by grind
 have M:(h.toI U-l.toI U).toNat=h.toN U-l.toN U:=by omega
 cases hv with
 |nils=>
  simp only[bJ8]at h3;refine⟨.slice none 0 0,D3 ht r (A5 B q N D h1 h2 h3 rfl A),?_,fun _ _=>⟨_,_,rfl⟩⟩
  rw[G6 (by omega)];exact .nils e
 |vague=>
  simp only[bJ8]at h3;refine⟨_,aL8 ht r (A5 B q N D h1 h2 h3 rfl A),?_,fun⟨a,n,e⟩ _=>?_⟩
  ·rw[G6 (by omega)];exact .vague e
  ·cases e
 | sl _ i o c b cs n z _ x hF hb hc hn hz hr hx hp' =>
  have hg:=H i b hF;obtain⟨hc,p⟩:=hc
  rcases hc with⟨Y,L⟩| ⟨j,rfl,L,S⟩
  ·have f:=U6 (hp:=hp) (i:=i) (a:=o) ht r Y L (A5 B q N D h1 h2 (show h.toI U<=(c:Int) by omega) rfl A)
   simp only[Option.getD_none]at f;refine⟨_,f,?_,fun⟨a,m,O⟩ ad=>?_⟩
   ·by_cases G:c=l.toN U
    ·rw[l8 G,bB8,G6 (by omega),show h.toN U-l.toN U=0 by omega]
     exact PV.cut0 hF hb (by omega) hz ⟨.inl ⟨by omega,by omega⟩,fun _=>by omega,p.2⟩
    ·rw[n8 G,bB9,<-M,K,<-hz]
     exact PV.cut (l:=l.toI U) (len:=h.toI U-l.toI U) hF hb hn hz hr hx hp' h1 (by omega) (by omega) ⟨.inl ⟨by omega,by rw[M];omega⟩,fun _=>by omega,p.2⟩
   ·grind
  ·have   J : P4 b = false := by
    cases h:P4 b with
    |false=>rfl
    |true=>have h1:=p.1 h;have h2:=u9 j 0;omega
   have W:=O5 j rows.length;have R:=S9 L S;have f:=X3 (hp:=hp) (i:=i) (a:=o) ht r L S (A5 B q N D h1 h2 (show h.toI U<=((Nat.max j rows.length:Nat):Int) by omega) rfl A)
   have g:(∃a n,Value.slice (some ⟨i,o,none⟩) rows.length (g9 j 0)= .slice a n n)->False:=fun⟨a,m,O⟩=>by
    have hge:=u9 j 0;simp only[Value.slice.injEq]at O;obtain⟨_,V,e3⟩:=O;rw[<-V]at e3;unfold unk at hge;omega
   by_cases C:l.toN U=0
   ·rw[l8 C,bB8]at f
    refine⟨_,f,?_,fun h _=>(g h).elim⟩
    have:=PV.cut (c:=g9 (Nat.max j rows.length) 0) hF hb hn hz hr hx hp' h1 (show 0<=h.toI U-l.toI U by omega) (by omega) ⟨.inr ⟨_,rfl,R,by omega⟩,fun h=>(by rw[J]at h;cases h),p.2⟩
    grind
   ·by_cases I:l.toN U=Nat.max j rows.length
    ·rw[n8 C,bB9,l8 I,bB8]at f
     refine⟨_,f,?_,fun h _=>(g h).elim⟩
     rw[G6 (by omega)];exact .vague e
    ·rw[n8 C,bB9,n8 I,bB9,hg]at f
     cases b with
     |cells Z n2 V X=>
      simp only[arr,rdC,bA1,bA3]at hb;obtain⟨rfl,rfl,rfl⟩:=hb;have Q:X=z:=p.2 rfl;subst Q;simp only[l8 (show X=ie.size by omega),bB8,Nat.zero_sub]at f
      refine⟨_,f,?_,fun h _=>(g h).elim⟩
      rw[<-M,K,<-hz];exact PV.cut (l:=l.toI U) (len:=h.toI U-l.toI U) hF rfl hn hz hr hx hp' h1 (by omega) (by omega) ⟨.inr ⟨_,rfl,by omega,by rw[M];omega⟩,.mk⟩
     |ro=>cases J
     |_=>simp[arr,rdC]at hb
theorem bh3 {t e : TypeId} {ie : TypeInfo} (ht : P.underlying t = some (.slice e)) (  g : P.info? e = some ie) (  K : ie.size = (kf P e).length)   ( W : PV P F (.sl e) v (.lst rows)) (  J : rows ≠ [] ∨ ∃ a n, v = .slice a n n) {lo:Option SV}  {mx : SV} {vm : Value}
  (j:OVD P U τ F lo vlo) (f:OVD P U τ F hi vhi) (p:VD P U τ F mx vm) {l h m Q R:E} (G:H3 lo (.int 0)=some l) (D:H3 hi Q=some h) (H:H3 (some mx) R=some m) (hh:hi≠none) (h1:0<=l.toI U) (h2:l.toI U<=h.toI U) (h3:h.toI U<=m.toI U) (h4:m.toI U<=rows.length):
  ∃w,o9 P hp t v vlo vhi (some vm)=some (w,hp)/\PV P F (.sl e) w (.lst (part rows (l.toI U) (h.toI U-l.toI U)))/\(h.toI U=m.toI U-> ∃a n,w= .slice a n n):=by
 have T:l.toI U=((l.toN U:Nat):Int):=by grind
 have S:h.toI U=((h.toN U:Nat):Int):=by grind
 have V:m.toI U=((m.toN U:Nat):Int):=by grind
 have L:(h.toI U-l.toI U).toNat=h.toN U-l.toN U:=by omega
 have I:∀ {i o:Nat},h.toI U=m.toI U-> ∃a n,(bif Nat.beq (m.toN U) (l.toN U)then Value.slice (some ⟨i,o,none⟩) (h.toN U-l.toN U) (m.toN U-l.toN U)else .slice (some ⟨i,o+l.toN U*ie.size,none⟩) (h.toN U-l.toN U) (m.toN U-l.toN U))= .slice a n n:=by
  intro i o X;have:h.toN U=m.toN U:=by omega
  rw[this];cases Nat.beq (m.toN U) (l.toN U)<;>exact⟨_,_,rfl⟩
 cases W with
 |nils=>
  simp only[bJ8]at h4;refine⟨.slice none 0 0,D3 ht g (I7 j f p G D H h1 h2 h3 h4 rfl hh),?_,fun _=>⟨_,_,rfl⟩⟩
  rw[G6 (by omega)];exact .nils e
 |vague=>
  rcases J with h| ⟨a,n,e⟩
  ·grind
  ·cases e
 |sl _ i o c b cs n z _ x hF hb hc hn hz hr hx hp'=>
  obtain⟨hc,r⟩:=hc;have key:PV P F (.sl e) (bif Nat.beq (m.toN U) (l.toN U)then Value.slice (some ⟨i,o,none⟩) (h.toN U-l.toN U) (m.toN U-l.toN U)else .slice (some ⟨i,o+l.toN U*ie.size,none⟩) (h.toN U-l.toN U) (m.toN U-l.toN U)) (.lst (part rows (l.toI U) (h.toI U-l.toI U)))\/ ¬m.toN U<unk:=by
   by_cases Y:m.toN U<unk
   ·left
    by_cases q:m.toN U=l.toN U
    ·rw[l8 q,bB8,G6 (by omega),show h.toN U-l.toN U=0 by omega]
     exact PV.cut0 hF hb (by omega) hz ⟨.inl ⟨by omega,by omega⟩,fun _=>by omega,r.2⟩
    ·rw[n8 q,bB9,<-L,K,<-hz]
     exact PV.cut (l:=l.toI U) (len:=h.toI U-l.toI U) hF hb hn hz hr hx hp' h1 (by omega) (by omega) ⟨.inl ⟨by omega,by rw[L];omega⟩,fun _=>by omega,r.2⟩
   ·grind
  rcases hc with⟨N,C⟩| ⟨B,rfl,C,O⟩
  ·have A:=U6 (hp:=hp) (i:=i) (a:=o) ht g N C (I7 j f p G D H h1 h2 h3 (show m.toI U<=(c:Int) by omega) rfl hh)
   grind
  ·have M:=O5 B rows.length
   have A:=ah9 (hp:=hp) (i:=i) (a:=o) ht g C O (I7 j f p G D H h1 h2 h3 (show m.toI U<=((Nat.max B rows.length:Nat):Int) by omega) rfl hh)
   exact⟨_,A,key.resolve_right (fun h=>h (au6 (by omega))),I⟩
theorem bi9 {t : TypeId} {a : SV}  {lo mx:Option SV} {  I:Option Value} ( V : VD P U τ F a v) (  p : OVD P U τ F lo vlo) (  j : OVD P U τ F hi vhi) (  B : OVD P U τ F mx   I) (hs : SD P U τ F s hp) :
  OKh P U (aY4 P U t a lo hi mx) τ F s hp (ba3 P U hp t v vlo vhi I):=by
 unfold aY4;split
 ·
  rename_i ht;split
  ·rename_i e
   cases I with
   |some v=>exact B.elim
   |none=>
    split
    ·rename_i l h D q
     refine OKp.slice (C8.bind fun _ _ _ _ hb=>OKp.ret ?_)
     obtain⟨h1,h2,h3⟩:=hb;rw[G2]at h3;cases V;refine⟨.string ⟨(((e.den U).toStr.take (h.toN U)).drop (l.toN U)).toArray⟩,?_,VD.str' (aV7 e l h)⟩;simp only[o9,ht];rw[A5 p j D q h1 h2 h3 rfl (fun hn=>by
      subst hn;simp only[H3,bA1]at q;subst q;show((R0 e).toI U).toNat=_;rw[G2];omega)]
    ·exact OKh.fail
  ·exact OKh.fail
 ·rename_i e ht
  split
  ·exact OKh.fail
  ·rename_i ie   r
   split
   ·
    cases V;split
    ·rename_i l h D q
     cases I with
     |some v=>exact B.elim
     |none=>
      refine OKp.slice (C8.bind fun _ _ _ _ hb=>OKp.ret ⟨.slice none 0 0,?_,.nils⟩)
      obtain⟨h1,h2,h3⟩:=hb;refine D3 ht r (A5 p j D q h1 h2 h3 rfl (fun hn=>?_))
      subst hn;simp only[H3,bA1]at q;subst q;rfl
    ·rename_i l h m' D q
     cases I with
     |none=>exact B.elim
     |some vm=>
      split
      ·rename_i m x T
       refine OKp.slice (C8.bind fun _ _ _ _ hb=>OKp.need.bind fun _ _ _ _ hm=>OKp.ret ⟨.slice none 0 0,?_,.nils⟩)
       obtain⟨h1,h2,h3⟩:=hb;have hm:=n9 hm;exact D3 ht r (I7 p j B D q T h1 h2 h3 hm rfl (by simp))
      ·exact OKh.fail
    ·exact OKh.fail
   ·
    rename_i b z off len cap;cases hz:Nat.beq z ie.size with
    |false=>exact OKh.fail
    |true=>
     simp only[bB8];have H:z=ie.size:=bA6 hz;split
     ·rename_i l h D q
      cases I with
      |some v=>exact B.elim
      |none=>
       split
       ·
        rename_i c;refine OKh.bindp C8 fun _ s1 _ hs1 hb=>OKp.slice ?_
        obtain⟨h1,h2,h3⟩:=hb;cases V with
        |sl _ _ _ _ _ i o c' f h0 G hc=>
         obtain⟨J,S,X,c4⟩:=hc;subst S;refine(Z6 f h0 h1 h2 h3 X rfl).mono fun x hx=>⟨_,?_,hx⟩
         rw[U6 ht r X (show len.toN U<=c.toN U by show(len.toI U).toNat<=(c.toI U).toNat;omega)
          (A5 p j D q h1 h2 (show h.toI U<=((c.toN U:Nat):Int) by show h.toI U<=(((c.toI U).toNat:Nat):Int);omega) rfl (fun hn=>by subst hn;simp only[H3,bA1]at q;subst q;rfl))]
         subst H;rfl
        |sl0 _ _ _ _ _ f h0 G hc=>
         have hc:=hc c rfl;refine(aD7 f h0 h1 h2 h3 (by omega)).mono fun x hx=>⟨_,?_,hx⟩
         refine D3 ht r (A5 p j D q h1 h2 (by omega) rfl (fun hn=>?_))
         subst hn;simp only[H3,bA1]at q;subst q;show(len.toI U).toNat=0;omega
       ·
        refine OKh.bindp C8 fun _ s1 o1 hs1 hb=>?_
        obtain⟨h1,h2,h3⟩:=hb;have M:hi=none->h.toN U=len.toN U:=fun hn=>by subst hn;simp only[H3,bA1]at q;subst q;rfl
        unfold bx3;cases ax:ag1 l with
        |true=>
         simp only[bB8];have hl:=aE2 (U:=U) ax;have aq:l.toN U=0:=by show(l.toI U).toNat=0;rw[hl];rfl
         refine OKp.slice (OKp.ret ?_);cases V with
         |sl _ _ _ _ _ i o c' f h0 G hc=>
          obtain⟨g,rfl,J,S⟩:=hc;have A:len.toN U<=67108864:=by show(len.toI U).toNat<=_;omega
          have W:=S9 J A;have hb:=A5 p j D q h1 h2 (show h.toI U<=((Nat.max g (len.toN U):Nat):Int) by
           have:=O5 g (len.toN U);have e1:len.toI U=((len.toN U:Nat):Int):=by show len.toI U=((len.toI U).toNat:Int);omega
           omega) rfl M
          refine⟨_,by rw[X3 ht r J A hb,aq,l8 rfl,bB8],?_⟩
          exact VD.sl' f h0 (by omega) ⟨Nat.max g (len.toN U),rfl,by omega,by omega⟩ rfl rfl
         |sl0 _ _ _ _ _ f h0 G hc=>
          refine⟨.slice none 0 0,D3 ht r (A5 p j D q h1 h2 (by omega) rfl (fun hn=>by rw[M hn];show(len.toI U).toNat=0;omega)),?_⟩
          exact .sl0 b z off h .ge f h0 (by omega) (fun e he=>by cases he)
        |false=>
         simp only[bB9];refine OKh.bindp OKp.test fun tt s2 o2 ac Q=>OKh.read ?_
         rw[s9]at Q;split
         ·rename_i L e' z' ph hb
          cases hq:Nat.beq e e'&&Nat.beq z z' with
          |false=>exact OKh.fail
          |true=>
           simp only[bB8];simp only[bA2,bE1]at hq;obtain⟨rfl,rfl⟩:=hq
           rcases ac.live b _ hb with⟨i,o,y,k1,k2,kF,cs,n,rfl,k4,k5⟩| ⟨k1,L',e',z',ay,k2,k3,k4,k5⟩
           ·cases V with
            |sl _ _ _ _ _ i' o' c' f h0 G hc=>
             rw[k1]at f;simp only[bA1,bA3]at f;obtain⟨rfl,rfl⟩:=f;obtain⟨g,rfl,J,S⟩:=hc;have A:len.toN U<=67108864:=by show(len.toI U).toNat<=_;omega
             have e1:len.toI U=((len.toN U:Nat):Int):=by show len.toI U=((len.toI U).toNat:Int);omega
             have ah:l.toI U=((l.toN U:Nat):Int):=by show l.toI U=((l.toI U).toNat:Int);omega
             have N:=O5 g (len.toN U);have W:=S9 J A;have Y:=A5 p j D q h1 h2 (show h.toI U<=((Nat.max g (len.toN U):Nat):Int) by omega) rfl M
             have hx:=X3 (hp:=hp) (i:=i) (a:=o+off.toN U*z) ht r J A Y;cases tt with
             |true=>
              simp only[bB8];simp only[bC2]at Q;refine OKp.slice (OKp.ret ?_)
              by_cases C:l.toN U=0
              ·rw[l8 C,bB8]at hx
               refine⟨_,hx,VD.sl' k1 (by rw[f7];omega) (by rw[j5];omega) ⟨Nat.max g (len.toN U),rfl,by omega,by rw[j5];omega⟩ ?_ ?_⟩
               ·rw[al1 h0 h1,C];simp
               ·rw[W4 h1,C];simp
              ·rw[n8 C,bB9,n8 (by omega),bB9,k2]at hx
               simp only[l8 H,bB8,Nat.zero_sub]at hx;refine⟨_,hx,VD.sl' k1 (by rw[f7];omega) (by rw[j5];omega) ⟨Nat.max g (len.toN U)-l.toN U,rfl,by omega,by rw[j5];omega⟩ ?_ ?_⟩
               ·rw[al1 h0 h1,bD7,H];omega
               ·rw[W4 h1]
             |false=>
              simp only[bB9];simp only[bE9]at Q;refine OKh.bindp OKp.need fun _ s3 o3 av p1=>?_
              have p1:=n9 p1;rw[f7,c9]at p1;have aj:s3.get b=some (.rows L e z ph):=by rw[o3.get];exact hb
              refine(OKh.freeze aj k1 k2).bind fun _ τ2 F2 s4 hp2 ex aw ⟨f1,f2,f3⟩=>?_
              subst f1;subst f2;refine OKh.ret ⟨rfl,?_⟩;have az:l.toN U=len.toN U:=by omega
              have ap:h.toN U-l.toN U=0:=by
               have:h.toI U=l.toI U:=by omega
               show(h.toI U).toNat-(l.toI U).toNat=0;rw[this];omega
              have ai:o+off.toN U*z+l.toN U*z<=n:=by
               have g1:=k4.1;have:off.toN U*z+l.toN U*z<=(L.toR U).length*z:=by
                rw[<-bD7];exact bB4 z (by show(off.toI U).toNat+l.toN U<=_;omega)
               omega
              have O:(E.op .nil []).toR U=[]:=rfl
              by_cases C:l.toN U=0
              ·rw[l8 C,bB8]at hx
               have ao:h.toN U=0:=by omega
               rw[ao]at hx;refine⟨_,hx,.lst e _ false _ ?_ (fun h=>by cases h)⟩
               rw[O];exact PV.cut0 f3 rfl (by omega) k4.2.1 ⟨.inr ⟨_,rfl,by omega,by omega⟩,.mk⟩
              ·by_cases ad:l.toN U=Nat.max g (len.toN U)
               ·rw[n8 C,bB9,l8 ad,bB8]at hx
                refine⟨_,hx,.lst e _ false _ ?_ (fun h=>by cases h)⟩
                rw[O];exact .vague e
               ·rw[n8 C,bB9,n8 ad,bB9,k2]at hx
                simp only[l8 H,bB8,Nat.zero_sub,ap]at hx;refine⟨_,hx,.lst e _ false _ ?_ (fun h=>by cases h)⟩
                rw[O,<-H];exact PV.cut0 f3 rfl ai k4.2.1 ⟨.inr ⟨_,rfl,by omega,by omega⟩,.mk⟩
            |sl0 _ _ _ _ _ f h0 G hc=>rw[k1]at f;cases f
           ·cases V with
            |sl _ _ _ _ _ i' o' c' f h0 G hc=>rw[k1]at f;cases f
            |sl0 _ _ _ _ _ f h0 G hc=>
             have hx:o9 P hp t (.slice none 0 0) vlo vhi none=some (.slice none 0 0,hp):=D3 ht r (A5 p j D q h1 h2 (by omega) rfl (fun hn=>by rw[M hn];show(len.toI U).toNat=0;omega))
             cases tt with
             |true=>simp only[bC2]at Q;omega
             |false=>
              simp only[bB9];refine OKh.bindp OKp.need fun _ s3 o3 av p1=>?_
              refine OKh.drop.bind fun _ τ2 F2 s4 hp2 ex aw ⟨f1,f2,f3⟩=>?_
              subst f1;subst f2;subst f3;exact OKh.ret ⟨rfl,_,hx,.lst e _ false _ (.nils e) (fun h=>by cases h)⟩
         ·rename_i cl e' z' hb
          cases hq:Nat.beq e e'&&Nat.beq z z'&&tt with
          |false=>exact OKh.fail
          |true=>
           simp only[bB8];simp only[bA2,bE1]at hq;obtain⟨⟨rfl,rfl⟩,rfl⟩:=hq;simp only[bC2]at Q
           rcases ac.live b _ hb with⟨i,o,y,k1,k2,kF,cs,n,rfl,k4,k5⟩| ⟨k1,L',e',z',ay,k2,k3,k4,k5⟩
           ·cases V with
            |sl _ _ _ _ _ i' o' c' f h0 G hc=>
             rw[k1]at f;simp only[bA1,bA3]at f;obtain⟨rfl,rfl⟩:=f;obtain⟨g,rfl,J,S⟩:=hc;have A:len.toN U<=67108864:=by show(len.toI U).toNat<=_;omega
             have e1:len.toI U=((len.toN U:Nat):Int):=by show len.toI U=((len.toI U).toNat:Int);omega
             have ah:l.toI U=((l.toN U:Nat):Int):=by show l.toI U=((l.toI U).toNat:Int);omega
             have N:=O5 g (len.toN U);have W:=S9 J A;have Y:=A5 p j D q h1 h2 (show h.toI U<=((Nat.max g (len.toN U):Nat):Int) by omega) rfl M
             have hx:=X3 (hp:=hp) (i:=i) (a:=o+off.toN U*z) ht r J A Y;refine OKp.slice (OKp.ret ?_)
             by_cases C:l.toN U=0
             ·rw[l8 C,bB8]at hx
              refine⟨_,hx,VD.sl' k1 (by rw[f7];omega) (by rw[j5];omega) ⟨Nat.max g (len.toN U),rfl,by omega,by rw[j5];omega⟩ ?_ ?_⟩
              ·rw[al1 h0 h1,C];simp
              ·rw[W4 h1,C];simp
             ·rw[n8 C,bB9,n8 (by omega),bB9,k2]at hx
              simp only[l8 H,bB8,Nat.zero_sub]at hx;refine⟨_,hx,VD.sl' k1 (by rw[f7];omega) (by rw[j5];omega) ⟨Nat.max g (len.toN U)-l.toN U,rfl,by omega,by rw[j5];omega⟩ ?_ ?_⟩
              ·rw[al1 h0 h1,bD7,H];omega
              ·rw[W4 h1]
            |sl0 _ _ _ _ _ f h0 G hc=>rw[k1]at f;cases f
           ·cases k2
         ·exact OKh.fail
       ·exact OKh.fail
     ·rename_i l h m' D q
      cases I with
      |none=>exact B.elim
      |some vm=>
       split
       ·rename_i m x T
        refine OKh.bindp C8 fun _ s1 _ hs1 hb=>OKh.bindp OKp.need fun _ s2 _ ac hm=>OKp.slice ?_
        obtain⟨h1,h2,h3⟩:=hb;have hm:=n9 hm;cases V with
        |sl _ _ _ _ _ i o c' f h0 G hc=>
         cases cap with
         |ex c=>
          obtain⟨J,S,X,c4⟩:=hc;subst S;have ab:m.toI U<=((c.toN U:Nat):Int):=by have:m.toI U<=c.toI U:=hm;show m.toI U<=(((c.toI U).toNat:Nat):Int);omega
          have K:m.toN U<unk:=by show(m.toI U).toNat<unk;have:c.toN U<unk:=X;omega
          refine(Z6 f h0 h1 h2 h3 K rfl).mono fun x hx=>⟨_,?_,hx⟩
          rw[U6 ht r X (show len.toN U<=c.toN U by show(len.toI U).toNat<=(c.toI U).toNat;omega) (I7 p j B D q T h1 h2 h3 ab rfl (by simp))]
          subst H;rfl
         |ge=>
          obtain⟨g,rfl,J,S⟩:=hc;have hm:m.toI U<=len.toI U:=hm;have A:len.toN U<=67108864:=by show(len.toI U).toNat<=_;omega
          have e1:len.toI U=((len.toN U:Nat):Int):=by show len.toI U=((len.toI U).toNat:Int);omega
          have N:=O5 g (len.toN U);have W:=S9 J A;have K:m.toN U<unk:=au6 (by show(m.toI U).toNat<=_;omega)
          refine(Z6 f h0 h1 h2 h3 K rfl).mono fun x hx=>⟨_,?_,hx⟩
          rw[ah9 ht r J A (I7 p j B D q T h1 h2 h3 (by omega) rfl (by simp))]
          subst H;rfl
         |un=>
          have hm:m.toI U<=len.toI U:=hm
          rcases hc with⟨X,rfl,S⟩| ⟨g,rfl,J,S⟩
          ·have ab:m.toI U<=((len.toN U:Nat):Int):=by show m.toI U<=(((len.toI U).toNat:Nat):Int);omega
           have K:m.toN U<unk:=by show(m.toI U).toNat<unk;have:(len.toI U).toNat<unk:=X;omega
           refine(Z6 f h0 h1 h2 h3 K rfl).mono fun x hx=>⟨_,?_,hx⟩
           rw[U6 ht r X (bC4 _) (I7 p j B D q T h1 h2 h3 ab rfl (by simp))]
           subst H;rfl
          ·have A:len.toN U<=67108864:=by show(len.toI U).toNat<=_;omega
           have e1:len.toI U=((len.toN U:Nat):Int):=by show len.toI U=((len.toI U).toNat:Int);omega
           have N:=O5 g (len.toN U);have W:=S9 J A;have K:m.toN U<unk:=au6 (by show(m.toI U).toNat<=_;omega)
           refine(Z6 f h0 h1 h2 h3 K rfl).mono fun x hx=>⟨_,?_,hx⟩
           rw[ah9 ht r J A (I7 p j B D q T h1 h2 h3 (by omega) rfl (by simp))]
           subst H;rfl
        |sl0 _ _ _ _ _ f h0 G hc=>
         have ar:m.toI U<=0:=by
          cases cap with
          |ex c=>have:=hc c rfl;have hm:m.toI U<=c.toI U:=hm;omega
          |ge=>have hm:m.toI U<=len.toI U:=hm;omega
          |un=>have hm:m.toI U<=len.toI U:=hm;omega
         exact(aD7 f h0 h1 h2 h3 ar).mono fun x hx=>⟨_,D3 ht r (I7 p j B D q T h1 h2 h3 (by omega) rfl (by simp)),hx⟩
       ·exact OKh.fail
     ·exact OKh.fail
   ·
    rename_i e' L clip;cases hq:Nat.beq e e'&&Nat.beq ie.size (kf P e).length with
    |false=>exact OKh.fail
    | true =>
     simp only[bB8];simp only[bA2,bE1]at hq;obtain⟨rfl,ae⟩:=hq;cases V with
     | lst _ _ _ _ hv hc =>
      split
      ·rename_i l h  D  q
       cases I with
       |some v=>exact B.elim
       | none =>
        refine OKp.slice (C8.bind fun _ _ _ _ hb=>t6.bind fun c _ _ _ Z=>OKp.ret ?_)
        obtain⟨h1,h2,h3⟩:=hb;rw[c9]at h3;obtain⟨w,w1,w2,w3⟩:=bh2 (hp:=hp) ht r ae hs.frz hv p j D q (c9 L) h1 h2 h3;refine⟨w,w1,.lst e c _ w ?_ (fun aa=>?_)⟩
        ·have : c.toR U = part (L.toR U) (l.toI U) (h.toI U - l.toI U) := by
          show(c.den U).rows=_;rw[Z,j5];rfl
         rw[this];exact w2
        ·simp only[bA2]at aa
         exact w3 (hc aa.1) (by cases hi with|none=>rfl|some x=>simp at aa)
      ·rename_i l h m' D q
       cases I with
       |none=>exact B.elim
       |some vm=>
        split
        ·rename_i m x T
         refine OKp.slice (C8.bind fun _ _ _ _ hb=>OKp.need.bind fun _ _ _ _ hm=>?_)
         obtain⟨h1,h2,h3⟩:=hb;have hm:=n9 hm;rw[c9]at hm;refine OKp.bind (R:=fun _=>L.toR U≠ []\/ ∃a n,v= .slice a n n) ?_ fun _ _ _ _ au=>?_
         ·cases clip with
          |true=>exact OKp.ret (.inr (hc rfl))
          |false=>
           refine OKp.need.mono fun _ h=>.inl fun h'=>?_
           have:=q8 h;rw[c9,h']at this;simp[o6]at this
         ·refine t6.bind fun c _ _ _ Z=>?_
          obtain⟨w,w1,w2,w3⟩:=bh3 (hp:=hp) ht r ae hv au p j B D q T (by simp) h1 h2 h3 hm
          have ak:c.toR U=part (L.toR U) (l.toI U) (h.toI U-l.toI U):=by
           show(c.den U).rows=_;rw[Z,j5];rfl
          rw[<-ak]at w2;cases E.like h m with
          |true=>
           simp only[bB8];exact OKp.need.bind fun _ _ _ _ al=>OKp.ret ⟨w,w1,.lst e c true w w2 (fun _=>w3 (Q0 al))⟩
          |false=>exact OKp.ret ⟨w,w1,.lst e c false w w2 (fun h=>by cases h)⟩
        ·exact OKh.fail
      ·exact OKh.fail
   ·exact OKh.fail
 ·exact OKh.fail
end
end Go.Sx
