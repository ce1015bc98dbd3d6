/- The symbolic engine, parts 1, 2, 3, 4, 5, 6, 7, 8, 9, 10, 11, 12.
  Conditions: none. -/
import Derived.Test.YtcjhhnoaoldcmaaGreatXm3
set_option linter.unusedSimpArgs false
set_option linter.unusedVariables false
namespace Go.Sx
abbrev Nd (p q:Prop):Prop:=p/\(p->q)
abbrev I64 (x:Int):Prop:=(¬x< -9223372036854775808)/\x<9223372036854775808
inductive Dat where
 |int (n:Int)
 |bool (b:Bool)
 |str (s:List UInt8)
 |lst (rows:List (List Dat))
instance : Inhabited Dat:=⟨.int 0⟩
def Dat.toInt (d:Dat):Int:=match d with| .int n=>n|_=>0
def Dat.toBool (d:Dat):Bool:=match d with| .bool b=>b|_=>false
def Dat.toStr (d:Dat):List UInt8:=match d with| .str s=>s|_=>[]
def Dat.rows (d:Dat):List (List Dat):=match d with| .lst l=>l|_=>[]
abbrev Rows:=List (List Dat)
def A9 (L:Rows)(i:Int)(j:Nat):Dat:=(L.getD i.toNat []).getD j (.int 0)
def setAt (L:Rows)(i:Int)(j:Nat)(d:Dat):Rows:=L.modify i.toNat (fun r=>r.set j d)
def part (L:Rows)(a n:Int):Rows:=(L.drop a.toNat).take n.toNat
def over (L:Rows)(a:Int)(l:Rows):Rows:=L.take a.toNat++l++L.drop (a.toNat+l.length)
def chunk (z:Nat):Nat->List Dat->Rows
 |0,_=>[]
 |n+1,l=>l.take z::chunk z n (l.drop z)
inductive KV where
 |i (n:Int)
 |s (l:List UInt8)
 deriving DecidableEq
def KV.dat (k:KV):Dat:=match k with| .i n=>.int n| .s l=>.str l
def Dat.kv (d:Dat):KV:=match d with| .int n=>.i n| .str l=>.s l|_=>.i 0
def ad3 (z:Nat)(r:List Dat):List KV:=(r.take z).map Dat.kv
def mhasR :Rows->List KV->Bool
 | [],_=>false
 |r::L,ks=>decide (ad3 ks.length r=ks)||mhasR L ks
def mgetR :Rows->List KV->Dat->Dat
 | [],_,d=>d
 |r::L,ks,d=>if ad3 ks.length r=ks then r.getD ks.length (.int 0)else mgetR L ks d
def mputR :Rows->List KV->Dat->Rows
 | [],ks,v=>[ks.map KV.dat++ [v]]
 |r::L,ks,v=>if ad3 ks.length r=ks then(ks.map KV.dat++ [v])::L else r::mputR L ks v
def midxR :Rows->List KV->Nat
 | [],_=>0
 |r::L,ks=>if ad3 ks.length r=ks then 0 else midxR L ks+1
def runeAt (l:List UInt8)(i:Int):Int:=(Utf8.decode ⟨l.toArray⟩ i.toNat).1
def runeW (l:List UInt8)(i:Int):Int:=(Utf8.decode ⟨l.toArray⟩ i.toNat).2
inductive Sy where
 |add|sub|mul|tdiv|tmod
 |wrap (k:IntKind)
 |bits (op:BinOp) (k:IntKind)
 |shl (k:IntKind)|shr (k:IntKind)
 |lt|eqi|eqb|eqs|lts
 |not|and|or
 |len|get (j:Nat)|upd (j:Nat)|nil|app|part|over
 |rows (n z:Nat)|rep
 |slen|sidx|sapp|ssub|srune|srw
 |castI|castB|castS|castL
 |mhas|mget|mput|mix
 |user (n:Nat)
inductive E where
 |int (n:Int)
 |bool (c:Bool)
 |str (l:List UInt8)
 |var (n:Nat)
 |dat (n:Nat) (d:Dat)
 |op (o:Sy) (as:List E)
instance : Inhabited E:=⟨.int 0⟩
section
variable (U :Nat->List Dat->Dat)
def Sy.den (o:Sy)(as:List Dat):Dat:=
 match o with
 | .add=>match as with| [a,b]=>.int (a.toInt+b.toInt)|_=>.int 0
 | .sub=>match as with| [a,b]=>.int (a.toInt-b.toInt)|_=>.int 0
 | .mul=>match as with| [a,b]=>.int (a.toInt*b.toInt)|_=>.int 0
 | .tdiv=>match as with| [a,b]=>.int (a.toInt.tdiv b.toInt)|_=>.int 0
 | .tmod=>match as with| [a,b]=>.int (a.toInt.tmod b.toInt)|_=>.int 0
 | .wrap k=>match as with| [a]=>.int (k.wrap a.toInt)|_=>.int 0
 | .bits op k=>match as with| [a,b]=>.int (Go.bits op k a.toInt b.toInt)|_=>.int 0
 | .shl k=>match as with| [a,b]=>.int (k.wrap (a.toInt*2^(min b.toInt.toNat k.bits)))|_=>.int 0
 | .shr k=>match as with| [a,b]=>.int (a.toInt.fdiv (2^(min b.toInt.toNat k.bits)))|_=>.int 0
 | .lt=>match as with| [a,b]=>.bool (decide (a.toInt<b.toInt))|_=>.int 0
 | .eqi=>match as with| [a,b]=>.bool (decide (a.toInt=b.toInt))|_=>.int 0
 | .eqb=>match as with| [a,b]=>.bool (a.toBool==b.toBool)|_=>.int 0
 | .eqs=>match as with| [a,b]=>.bool (a.toStr==b.toStr)|_=>.int 0
 | .lts=>match as with| [a,b]=>.bool (Op.bytesLess a.toStr b.toStr)|_=>.int 0
 | .not=>match as with| [a]=>.bool (!a.toBool)|_=>.int 0
 | .and=>match as with| [a,b]=>.bool (a.toBool&&b.toBool)|_=>.int 0
 | .or=>match as with| [a,b]=>.bool (a.toBool||b.toBool)|_=>.int 0
 | .len=>match as with| [l]=>.int l.rows.length|_=>.int 0
 | .get j=>match as with| [l,i]=>A9 l.rows i.toInt j|_=>.int 0
 | .upd j=>match as with| [l,i,c]=>.lst (setAt l.rows i.toInt j c)|_=>.int 0
 | .nil=>.lst []
 | .app=>match as with| [l,m]=>.lst (l.rows++m.rows)|_=>.int 0
 | .part=>match as with| [l,a,n]=>.lst (Sx.part l.rows a.toInt n.toInt)|_=>.int 0
 | .over=>match as with| [l,a,m]=>.lst (Sx.over l.rows a.toInt m.rows)|_=>.int 0
 | .rows n z=>.lst (chunk z n as)
 | .rep=>match as with|n::cs=>.lst (List.replicate n.toInt.toNat cs)|_=>.int 0
 | .slen=>match as with| [s]=>.int s.toStr.length|_=>.int 0
 | .sidx=>match as with| [s,i]=>.int ((s.toStr.getD i.toInt.toNat 0).toNat:Int)|_=>.int 0
 | .sapp=>match as with| [s,t]=>.str (s.toStr++t.toStr)|_=>.int 0
 | .ssub=>match as with| [s,a,b]=>.str ((s.toStr.take b.toInt.toNat).drop a.toInt.toNat)|_=>.int 0
 | .srune=>match as with| [s,i]=>.int (runeAt s.toStr i.toInt)|_=>.int 0
 | .srw=>match as with| [s,i]=>.int (runeW s.toStr i.toInt)|_=>.int 0
 | .castI=>match as with| [a]=>.int a.toInt|_=>.int 0
 | .castB=>match as with| [a]=>.bool a.toBool|_=>.int 0
 | .castS=>match as with| [a]=>.str a.toStr|_=>.int 0
 | .castL=>match as with| [a]=>.lst a.rows|_=>.int 0
 | .mhas=>match as with|l::ks=>.bool (mhasR l.rows (ks.map Dat.kv))|_=>.int 0
 | .mget=>match as with|l::d::ks=>mgetR l.rows (ks.map Dat.kv) d|_=>.int 0
 | .mput=>match as with|l::v::ks=>.lst (mputR l.rows (ks.map Dat.kv) v)|_=>.int 0
 | .mix=>match as with|l::ks=>.int (midxR l.rows (ks.map Dat.kv):Nat)|_=>.int 0
 | .user n=>U n as
mutual
def E.den :E->Dat
 | .int n=>.int n
 | .bool c=>.bool c
 | .str l=>.str l
 | .var _=>.int 0
 | .dat _ d=>d
 | .op o as=>o.den U (E.dens as)
def E.dens :List E->List Dat
 | []=>[]
 |a::as=>a.den::E.dens as
end
theorem E.dens_eq :∀as:List E,E.dens U as=as.map (E.den U)
 | []=>rfl
 |a::as=>by simp[E.dens,E.dens_eq as]
def E.pr :E->Prop
 | .bool c=>c=true
 | .op .lt [a,b]=>(a.den U).toInt<(b.den U).toInt
 | .op .eqi [a,b]=>(a.den U).toInt=(b.den U).toInt
 | .op .eqs [a,b]=>(a.den U).toStr=(b.den U).toStr
 | .op .not [a]=>¬a.pr
 | .op .and [a,b]=>a.pr/\b.pr
 | .op .or [a,b]=>a.pr\/b.pr
 |e=>(e.den U).toBool=true
theorem E.pr_iff (e:E):e.pr U↔(e.den U).toBool=true:=by
 fun_induction E.pr U e with
 |case1 c=>simp[E.den,Dat.toBool]
 |case2 a b=>simp[E.den,E.dens,Sy.den,Dat.toBool]
 |case3 a b=>simp[E.den,E.dens,Sy.den,Dat.toBool]
 |case4 a b=>simp[E.den,E.dens,Sy.den,Dat.toBool]
 |case5 a ih=>simp[E.den,E.dens,Sy.den,Dat.toBool,ih]
 |case6 a b ih1 ih2=>simp[E.den,E.dens,Sy.den,Dat.toBool,ih1,ih2]
 |case7 a b ih1 ih2=>simp[E.den,E.dens,Sy.den,Dat.toBool,ih1,ih2]
 |case8 e _ _ _ _ _ _ _=>exact Iff.rfl
def Sy.like :Sy->Sy->Bool
 | .add,.add| .sub,.sub| .mul,.mul| .tdiv,.tdiv| .tmod,.tmod| .lt,.lt| .eqi,.eqi| .eqb,.eqb| .eqs,.eqs| .lts,.lts| .not,.not| .and,.and| .or,.or
 | .len,.len| .nil,.nil| .app,.app| .part,.part| .over,.over| .rep,.rep| .slen,.slen| .sidx,.sidx| .sapp,.sapp| .ssub,.ssub| .srune,.srune| .srw,.srw| .castI,.castI| .castB,.castB| .castS,.castS| .castL,.castL| .mhas,.mhas| .mget,.mget| .mput,.mput| .mix,.mix=>true
 | .shr k,.shr k'=>decide (k=k')
 | .wrap k,.wrap k'=>decide (k=k')
 | .shl k,.shl k'=>decide (k=k')
 | .bits o k,.bits o' k'=>decide (o=o')&&decide (k=k')
 | .get j,.get j'=>Nat.beq j j'
 | .upd j,.upd j'=>Nat.beq j j'
 | .user j,.user j'=>Nat.beq j j'
 | .rows n z,.rows n' z'=>Nat.beq n n'&&Nat.beq z z'
 |_,_=>false
mutual
def E.like :E->E->Bool
 | .int n,.int m=>decide (n=m)
 | .bool p,.bool q=>p==q
 | .str p,.str q=>p==q
 | .var n,.var m=>Nat.beq n m
 | .dat n _,.dat m _=>Nat.beq n m
 | .op o as,.op o' bs=>Sy.like o o'&&E.likes as bs
 |_,_=>false
def E.likes :List E->List E->Bool
 | [],[]=>true
 |a::as,b::bs=>E.like a b&&E.likes as bs
 |_,_=>false
end
inductive So where
 |i|b|s|l
 deriving DecidableEq
inductive Lab where
 |e (c:E)
 |p (name:String) (as:List E)
 |q (a b:E)
 |pt (name:String) (gs:List (List (So×E)))
 |mu (name:String) (g a b:List (So×E))
inductive Tr (α:Type) where
 |ret (a:α)
 |done
 |fail (s:String)
 |br (c:E) (t e:Tr α)
 |need (l:Lab) (p:Prop) (t:Tr α)
 |asm (l:Lab) (p:Prop) (t:Tr α)
 |both (t e:Tr α)
 |all (k:So) (n:Nat) (f:E->Tr α)
def Tr.bind {α β:Type}:Tr α->(α->Tr β)->Tr β
 | .ret a,k=>k a
 | .done,_=>.done
 | .fail s,_=>.fail s
 | .br c t e,k=>.br c (t.bind k) (e.bind k)
 | .need l p t,k=>.need l p (t.bind k)
 | .asm l p t,k=>.asm l p (t.bind k)
 | .both t e,k=>.both (t.bind k) (e.bind k)
 | .all o n f,k=>.all o n fun e=>(f e).bind k
def Tr.vc {α:Type}:Tr α->(α->Prop)->Prop
 | .ret a,Q=>Q a
 | .done,_=>True
 | .fail _,_=>False
 | .br c t e,Q=>(c.pr U->t.vc Q)/\(¬c.pr U->e.vc Q)
 | .need _ p t,Q=>p/\(p->t.vc Q)
 | .asm _ p t,Q=>p->t.vc Q
 | .both t e,Q=>t.vc Q/\e.vc Q
 | .all .i n f,Q=>∀x:Int,(f (.dat n (.int x))).vc Q
 | .all .b n f,Q=>∀x:Bool,(f (.dat n (.bool x))).vc Q
 | .all .s n f,Q=>∀x:List UInt8,(f (.dat n (.str x))).vc Q
 | .all .l n f,Q=>∀x:Rows,(f (.dat n (.lst x))).vc Q
theorem Tr.vc_bind {α β:Type}(t:Tr α)(k:α->Tr β)(Q:β->Prop):(t.bind k).vc U Q↔t.vc U fun a=>(k a).vc U Q:=by
 induction t with
 |ret a=>exact Iff.rfl
 |done=>exact Iff.rfl
 |fail s=>exact Iff.rfl
 |br c t e h1 h2=>simp only[Tr.bind,Tr.vc,h1,h2]
 |need l p t h=>simp only[Tr.bind,Tr.vc,h]
 |asm l p t h=>simp only[Tr.bind,Tr.vc,h]
 |both t e h1 h2=>simp only[Tr.bind,Tr.vc,h1,h2]
 |all k n f h=>cases k<;>simp only[Tr.bind,Tr.vc,h]
theorem Tr.vc_mono {α:Type}(t:Tr α){Q R:α->Prop}(hq:∀a,Q a->R a):t.vc U Q->t.vc U R:=by
 induction t with
 |ret a=>exact hq a
 |done=>exact id
 |fail s=>exact id
 |br c t e h1 h2=>exact fun h=>⟨fun x=>h1 (h.1 x),fun x=>h2 (h.2 x)⟩
 |need l p t h=>exact fun x=>⟨x.1,fun y=>h (x.2 y)⟩
 |asm l p t h=>exact fun x y=>h (x y)
 |both t e h1 h2=>exact fun h=>⟨h1 h.1,h2 h.2⟩
 |all k n f h=>cases k<;>exact fun x y=>h _ (x y)
end
end Go.Sx
namespace Go.Sx
open Go.Xe
inductive Cp where
 |ex (e:E)
 |ge
 |un
inductive SV where
 |any
 |int (k:IntKind) (e:E)
 |bool (e:E)
 |str (e:E)
 |nilp
 |ptr (b z:Nat) (row:E) (fld:Nat)
 |pptr (t:TypeId) (L row:E) (fld:Nat)
 |nils
 |sl (b z:Nat) (off len:E) (cap:Cp)
 |lst (t:TypeId) (L:E) (clip:Bool)
 |agg (l:List SV)
 |tup (l:List SV)
 |fn (f:Fn) (a b:List SV)
 |nilf
 |map (b:Nat)
 |nilm
 |iface (t:TypeId) (v:SV)
 |nili
 |yld (ks:List Nat) (vs:List SV) (g:FuncId) (nt:Nat) (ps:List Nat) (as bo:Code)
instance : Inhabited SV:=⟨.any⟩
def lk {α:Type}:List (Nat×α)->Nat->Option α
 | [],_=>none
 | (k,a)::l,n=>bif Nat.beq k n then some a else lk l n
mutual
def noY :SV->Bool
 | .yld _ _ _ _ _ _ _=>false
 | .agg l=>noYs l
 | .tup l=>noYs l
 | .fn _ a b=>noYs a&&noYs b
 | .iface _ v=>noY v
 |_=>true
def noYs :List SV->Bool
 | []=>true
 |a::l=>noY a&&noYs l
end
inductive Kd where
 |int (k:IntKind)
 |bool
 |str
 |sl (e:TypeId)
 |bad
 deriving DecidableEq
def kd1 (P:Program)(t:TypeId):Kd:=match P.underlying t with
 |some (.int k)=>.int k
 |some .bool=>.bool
 |some .string=>.str
 |some (.slice e)=>.sl e
 |_=>.bad
def kdF (f:TypeId->List Kd):List Field->List Kd
 | []=>[]
 |x::xs=>f x.type++kdF f xs
def kds (P:Program):Nat->TypeId->List Kd
 |0,_=>[.bad]
 |d+1,t=>match P.underlying t with
  |some (.struct fs)=>kdF (kds P d) fs.toList
  |some (.array n e)=>(List.replicate n (kds P d e)).flatten
  |_=>[kd1 P t]
def kf (P:Program)(t:TypeId):List Kd:=kds P 20 t
def bF5 (P:Program)(f:Field):Option Kd:=bif f.name== "_" then none else match P.underlying f.type with
 |some (.int k)=>some (.int k)
 |some .string=>some .str
 |_=>none
def aA6 (P:Program):Nat->List Field->Option (List Kd)
 |_,[]=>some []
 |o,f::fs=>bif Nat.beq f.offset o then match bF5 P f with
  |some k=>match aA6 P (o+1) fs with
   |some ks=>some (k::ks)
   |none=>none
  |none=>none
  else none
def N0 (P:Program)(kt:TypeId):Option (Bool×List Kd):=
 match P.underlying kt with
 |some (.int k)=>some (false,[.int k])
 |some (.struct fs)=>bif P.stoodInHeld kt then none else match aA6 P 0 fs.toList with
  |some ks=>some (true,ks)
  |none=>none
 |_=>none
def kv1 (k:Kd)(x:KV):Value:=match x with
 | .s l=>.string ⟨l.toArray⟩
 | .i n=>match k with| .int k=>.int k n|_=>.int .i64 n
def ad4 :List Kd->List KV->Bool
 | [],[]=>true
 |k::ps,x::ks=>(match k,x with| .int _,.i _=>true| .str,.s _=>true|_,_=>false)&&ad4 ps ks
 |_,_=>false
def Y6 (ps:List Kd)(ks:List KV):List Value:=List.zipWith kv1 ps ks
def ac0 (sh:Bool×List Kd)(ks:List KV):Value:=bif sh.1 then .agg (Y6 sh.2 ks).toArray else(Y6 sh.2 ks).headD undef
inductive y4 where
 |cells (l:List SV) (e z:Nat)
 |rows (L:E) (e z:Nat) (ph:E)
 |map (L:E) (kt vt:TypeId)
 |iter (s pos:E)
structure SS where
 h:List (Nat×Option y4)
 nx:Nat
 fc:List (E×Bool)
 fv:Nat
 fz:List (Nat×E×TypeId×Nat)
def SS.get (s:SS)(b:Nat):Option y4:=match lk s.h b with|some x=>x|none=>none
def SS.set (s:SS)(b:Nat)(x:Option y4):SS:= {s with h:=(b,x)::s.h}
theorem t8 {α:Type}(k n:Nat)(a:α)(l:List (Nat×α)):lk ((k,a)::l) n=if k=n then some a else lk l n:=by
 by_cases h:k=n
 ·rw[bK1 h,lk,t7 h];rfl
 ·rw[bJ9 h,lk,u9 h];rfl
theorem Q9 {α:Type}{b:Nat}{x:α}:∀ {l:List (Nat×α)},lk l b=some x->(b,x)∈l
 | [],h=>by cases h
 | (k,y)::l,h=>by
  rw[t8]at h;split at h
  ·grind
  ·exact bN8 _ (Q9 h)
theorem SS.get_set (s:SS)(b c:Nat)(x:Option y4):(s.set b x).get c=if c=b then x else s.get c:=by
 unfold SS.get SS.set;simp only[t8]
 grind
def arr (b:Blk):Option (T Value×Nat×Nat):=rdC b
def roC (b:Blk)(c zb z:Nat):Prop:=(S7 b=true->c<unk)/\(S7 b=false->zb=z)
theorem roC.mk {b:Blk}{c z:Nat}(h:S7 b=false:=by rfl):roC b c z z:=⟨fun e=>(by rw[h]at e;cases e),fun _=>rfl⟩
def aH5 (l c:Nat):Prop:=(c<unk/\l<=c)\/(∃lo,c=c7 lo 0/\lo<=67108864/\l<=67108864)
section
variable (P :Program)
inductive PV (F : Nat → Option Blk) : Kd → Value → Dat → Prop
 |int (k:IntKind) (n:Int):PV F (.int k) (.int k n) (.int n)
 |bool (b:Bool):PV F .bool (.bool b) (.bool b)
 |str (s:List UInt8):PV F .str (.string ⟨s.toArray⟩) (.str s)
 |nils (e:TypeId):PV F (.sl e) (.slice none 0 0) (.lst [])
 |vague (e:TypeId):PV F (.sl e) (.slice (some ⟨0,0,some 0⟩) 0 unk) (.lst [])
 | sl (e : TypeId) (i o c : Nat) (b : Blk) (cs : T Value) (n z : Nat) {zb : Nat} (rows : Rows) (x : Nat → Nat → Value) (hF : F i = some b) (hb : arr b = some (cs, n, zb)) (hc : aH5 rows.length c ∧ roC b c zb z)
   (hn:o+rows.length*z<=n) (hz:z=(kf P e).length) (hr:∀r∈rows,r.length=z)
   (hx:∀(r k:Nat) (row:List Dat) (d:Dat),rows[r]? =some row->row[k]? =some d->cs.get (o+r*z+k)=some (x r k))
   (hp:∀(r k:Nat) (row:List Dat) (kd:Kd) (d:Dat),rows[r]? =some row->row[k]? =some d->(kf P e)[k]? =some kd->PV F kd (x r k) d):
   PV F (.sl e) (.slice (some ⟨i,o,none⟩) rows.length c) (.lst rows)
def Fle (F F':Nat->Option Blk):Prop:=∀i b,F i=some b->F' i=some b
theorem Fle.refl (F:Nat->Option Blk):Fle F F:=fun _ _ h=>h
theorem Fle.trans {F G H:Nat->Option Blk}(h:Fle F G)(k:Fle G H):Fle F H:=fun i b e=>k i b (h i b e)
theorem PV.mono {F F':Nat->Option Blk}(h:Fle F F'){k:Kd}{v:Value}{d:Dat}(p:PV P F k v d):PV P F' k v d:=by
 induction p with
 |int k n=>exact .int k n
 |bool b=>exact .bool b
 |str s=>exact .str s
 |nils e=>exact .nils e
 |vague e=>exact .vague e
 |sl e i o c b cs n z rows x hF hb hc hn hz hr hx _ ih=>exact .sl e i o c b cs n z rows x (h _ _ hF) hb hc hn hz hr hx ih
abbrev Tau:=Nat->Option (Option (Nat×Nat))
variable (U :Nat->List Dat->Dat)
abbrev E.toI (e:E):Int:=(e.den U).toInt
abbrev E.toN (e:E):Nat:=(e.den U).toInt.toNat
abbrev E.toR (e:E):Rows:=(e.den U).rows
def az5 (len:E):Cp->Nat->Prop
 | .ex e,c=>0<=e.toI U/\c=e.toN U/\c<unk/\len.toI U<=e.toI U
 | .ge,c=>∃lo,c=c7 lo 0/\lo<=67108864/\len.toI U<=67108864
 | .un,c=>(c<unk/\c=len.toN U/\len.toI U<=67108864)\/ ∃lo,c=c7 lo 0/\lo<=67108864/\len.toI U<=67108864
inductive VD (τ : Tau) (F : Nat → Option Blk) : SV → Value → Prop
 |any (v:Value):VD τ F .any v
 |int (k:IntKind) (e:E):VD τ F (.int k e) (.int k (e.toI U))
 |bool (e:E):VD τ F (.bool e) (.bool (e.den U).toBool)
 |str (e:E):VD τ F (.str e) (.string ⟨(e.den U).toStr.toArray⟩)
 |nilp:VD τ F .nilp (.pointer none)
 |ptr (b z:Nat) (row:E) (fld i o:Nat) (h:τ b=some (some (i,o))) (h0:0<=row.toI U):VD τ F (.ptr b z row fld) (.pointer (some ⟨i,o+row.toN U*z+fld,none⟩))
 | pptr (t : TypeId) (L row : E) (fld i o l c : Nat) (h : PV P F (.sl t) (.slice (some ⟨i, o, none⟩) l c) (.lst (L.toR U))) (h0 : 0 ≤ row.toI U) (h1 : row.toI U < (L.toR U).length) :
   VD τ F (.pptr t L row fld) (.pointer (some ⟨i,o+row.toN U*(kf P t).length+fld,none⟩))
 |nils:VD τ F .nils (.slice none 0 0)
 | sl (b z : Nat) (off len : E) (cap : Cp) (i o c : Nat) (h : τ b = some (some (i, o))) (h0 : 0 ≤ off.toI U) (h1 : 0 ≤ len.toI U) (hc : az5 U len cap c) :
   VD τ F (.sl b z off len cap) (.slice (some ⟨i,o+off.toN U*z,none⟩) (len.toN U) c)
 |sl0 (b z:Nat) (off len:E) (cap:Cp) (h:τ b=some none) (h0:off.toI U=0) (h1:len.toI U=0) (hc:∀e,cap= .ex e->e.toI U=0):VD τ F (.sl b z off len cap) (.slice none 0 0)
 |lst (t:TypeId) (L:E) (clip:Bool) (v:Value) (h:PV P F (.sl t) v (.lst (L.toR U))) (hc:clip=true-> ∃a l,v= .slice a l l):VD τ F (.lst t L clip) v
 |agg (l:List SV) (xs:List Value) (h1:l.length=xs.length) (h2:∀(i:Nat) a x,l[i]? =some a->xs[i]? =some x->VD τ F a x):VD τ F (.agg l) (.agg xs.toArray)
 |tup (l:List SV) (xs:List Value) (h1:l.length=xs.length) (h2:∀(i:Nat) a x,l[i]? =some a->xs[i]? =some x->VD τ F a x):VD τ F (.tup l) (.tuple xs.toArray)
 | fn (f : Fn) (l m : List SV) (xs ys : List Value) (h1 : l.length = xs.length) (h2 : ∀ (i : Nat) a x, l[i]? = some a → xs[i]? = some x → VD τ F a x)
   (h3:m.length=ys.length) (h4:∀(i:Nat) a x,m[i]? =some a->ys[i]? =some x->VD τ F a x):VD τ F (.fn f l m) (.func f xs.toArray ys.toArray)
 |nilf:VD τ F .nilf .nilFunc
 |map (b i o:Nat) (h:τ b=some (some (i,o))):VD τ F (.map b) (.map (some i))
 |nilm:VD τ F .nilm (.map none)
 |iface (t:TypeId) (v:SV) (x:Value) (h:VD τ F v x):VD τ F (.iface t v) (.iface t x)
 |nili:VD τ F .nili .nilIface
 | yld (ks : List Nat) (vs : List SV) (g : FuncId) (nt : Nat) (ps : List Nat) (as bo : Code) (i : Nat) (tms : T Value) (pr : Array Tmp) (db : Nat) (hF : F i = some (.loop .ready none nt tms pr as bo db)) (hp : pr.toList = ps)
   (h:∀k a,lk (ks.zip vs) k=some a->VD τ F a ((tms.get k).getD undef)):VD τ F (.yld ks vs g nt ps as bo) (.chan (some i))
def Tle (τ τ':Tau):Prop:=∀b p,τ b=some p->τ' b=some p
theorem Tle.refl (τ:Tau):Tle τ τ:=fun _ _ h=>h
theorem Tle.trans {a b c:Tau}(h:Tle a b)(k:Tle b c):Tle a c:=fun i p e=>k i p (h i p e)
variable {P U}
theorem VD.mono {τ τ':Tau}{F F':Nat->Option Blk}(ht:Tle τ τ')(h:Fle F F'){s:SV}{v:Value}(p:VD P U τ F s v):VD P U τ' F' s v:=by
 induction p with
 |any v=>exact .any v
 |int k e=>exact .int k e
 |bool e=>exact .bool e
 |str e=>exact .str e
 |nilp=>exact .nilp
 |ptr b z row fld i o k h0=>exact .ptr b z row fld i o (ht _ _ k) h0
 |pptr t L row fld i o l c k h0 h1=>exact .pptr t L row fld i o l c (k.mono P h) h0 h1
 |nils=>exact .nils
 |sl b z off len cap i o c k h0 h1 hc=>exact .sl b z off len cap i o c (ht _ _ k) h0 h1 hc
 |sl0 b z off len cap k h0 h1 hc=>exact .sl0 b z off len cap (ht _ _ k) h0 h1 hc
 |lst t L clip v k hc=>exact .lst t L clip v (k.mono P h) hc
 |agg l xs h1 _ ih=>exact .agg l xs h1 ih
 |tup l xs h1 _ ih=>exact .tup l xs h1 ih
 |fn f l m xs ys h1 _ h3 _ ih1 ih2=>exact .fn f l m xs ys h1 ih1 h3 ih2
 |nilf=>exact .nilf
 |map b i o k=>exact .map b i o (ht _ _ k)
 |nilm=>exact .nilm
 |iface t v x _ ih=>exact .iface t v x ih
 |nili=>exact .nili
 |yld ks vs g nt ps as bo i tms pr db hF hp _ ih=>exact .yld ks vs g nt ps as bo i tms pr db (h _ _ hF) hp ih
theorem PV.sub {F F':Nat->Option Blk}(h:∀i y,F i=some y->(arr y).isSome=true->F' i=some y){k:Kd}{v:Value}{d:Dat}(p:PV P F k v d):PV P F' k v d:=by
 induction p with
 |int k n=>exact .int k n
 |bool b=>exact .bool b
 |str s=>exact .str s
 |nils e=>exact .nils e
 |vague e=>exact .vague e
 |sl e i o c b cs n z rows x hF hb hc hn hz hr hx _ ih=>exact .sl e i o c b cs n z rows x (h _ _ hF (by rw[hb];rfl)) hb hc hn hz hr hx ih
theorem R3 :∀ {l:List SV} {i:Nat} {a:SV},noYs l=true->l[i]? =some a->noY a=true
 | [],i,a,_,h=>by simp at h
 |b::l,i,a,hn,h=>by
  unfold noYs at hn;rw[bI0]at hn;cases i with
  |zero=>grind
  |succ i=>simp only[bJ0]at h;exact R3 hn.2 h
theorem VD.sub {τ:Tau}{F F':Nat->Option Blk}(p:Bool)(h:∀i y,F i=some y->((arr y).isSome=true\/p=true/\y≠ .dfr)->F' i=some y){s:SV}{v:Value}(hv:VD P U τ F s v)(hn:p=true\/noY s=true):VD P U τ F' s v:=by
 have hP:∀i y,F i=some y->(arr y).isSome=true->F' i=some y:=fun i y h1 h2=>h i y h1 (.inl h2)
 induction hv with
 |any v=>exact .any v
 |int k e=>exact .int k e
 |bool e=>exact .bool e
 |str e=>exact .str e
 |nilp=>exact .nilp
 |ptr b z row fld i o k h0=>exact .ptr b z row fld i o k h0
 |pptr t L row fld i o l c k h0 h1=>exact .pptr t L row fld i o l c (k.sub hP) h0 h1
 |nils=>exact .nils
 |sl b z off len cap i o c k h0 h1 hc=>exact .sl b z off len cap i o c k h0 h1 hc
 |sl0 b z off len cap k h0 h1 hc=>exact .sl0 b z off len cap k h0 h1 hc
 |lst t L clip v k hc=>exact .lst t L clip v (k.sub hP) hc
 |agg l xs h1 _ ih=>exact .agg l xs h1 fun i a x ha hx=>ih i a x ha hx (hn.imp id fun k=>R3 (by unfold noY at k;exact k) ha)
 |tup l xs h1 _ ih=>exact .tup l xs h1 fun i a x ha hx=>ih i a x ha hx (hn.imp id fun k=>R3 (by unfold noY at k;exact k) ha)
 |fn f l m xs ys h1 _ h3 _ ih1 ih2=>
  have hn':p=true\/noYs l=true/\noYs m=true:=hn.imp id fun k=>by unfold noY at k;rwa[bI0]at k
  exact .fn f l m xs ys h1 (fun i a x ha hx=>ih1 i a x ha hx (hn'.imp id fun k=>R3 k.1 ha)) h3 fun i a x ha hx=>ih2 i a x ha hx (hn'.imp id fun k=>R3 k.2 ha)
 |nilf=>exact .nilf
 |map b i o k=>exact .map b i o k
 |nilm=>exact .nilm
 |iface t v x _ ih=>exact .iface t v x (ih (hn.imp id fun k=>by unfold noY at k;exact k))
 |nili=>exact .nili
 |yld ks vs g nt ps as bo i tms pr db hF hp _ ih=>
  rcases hn with hn|hn
  ·exact .yld ks vs g nt ps as bo i tms pr db (h _ _ hF (.inr ⟨hn,by simp⟩)) hp fun k a ha=>ih k a ha (.inl hn)
  ·unfold noY at hn;cases hn
variable (P U)
def VDL (τ:Tau)(F:Nat->Option Blk)(l:List SV)(xs:List Value):Prop:=l.length=xs.length/\ ∀(i:Nat) a x,l[i]? =some a->xs[i]? =some x->VD P U τ F a x
def y9 (F:Nat->Option Blk)(e:TypeId)(z o n:Nat)(cs:T Value)(rows:Rows):Prop:=
 o+rows.length*z<=n/\z=(kf P e).length/\(∀r∈rows,r.length=z)/\
 ∀(r k:Nat) (row:List Dat) (d:Dat),rows[r]? =some row->row[k]? =some d-> ∃x,cs.get (o+r*z+k)=some x/\ ∀kd,(kf P e)[k]? =some kd->PV P F kd x d
def O7 (F:Nat->Option Blk)(kt vt:TypeId)(es:List (Value×Value))(rows:Rows):Prop:=
 es.length=rows.length/\ ∀(j:Nat) row e,rows[j]? =some row->es[j]? =some e-> ∃sh ks d,N0 P kt=some sh/\ad4 sh.2 ks=true/\row=ks.map KV.dat++ [d]/\e.1=ac0 sh ks/\PV P F (kd1 P vt) e.2 d
def BD (τ:Tau)(F:Nat->Option Blk)(o:Nat):y4->Blk->Prop
 | .cells l e z,b=>∃cs n,b= .cells cs n e z/\o+l.length<=n/\ ∀(j:Nat) a,l[j]? =some a-> ∃x,cs.get (o+j)=some x/\VD P U τ F a x
 | .rows L e z ph,b=>∃cs n,b= .cells cs n e z/\y9 P F e z o n cs (L.toR U)/\o+ph.toN U*z<=n
 | .map L kt vt,b=>o=0/\ ∃es reg,b= .map es reg/\reg=true/\O7 P F kt vt es (L.toR U)
 | .iter s pos,b=>o=0/\ ∃n:Nat,b= .sit ⟨(s.den U).toStr.toArray⟩ n/\pos.toI U=n
def bk4 (τ:Tau)(F:Nat->Option Blk)(r:Nat×E×TypeId×Nat):Prop:=
 (∃i o cs n,τ r.1=some (some (i,o))/\F i=some (.cells cs n r.2.2.1 r.2.2.2)/\y9 P F r.2.2.1 r.2.2.2 o n cs (r.2.1.toR U))\/(τ r.1=some none/\r.2.1.toR U=[])
structure SD (τ:Tau)(F:Nat->Option Blk)(s:SS)(hp:Hp):Prop where
 live:∀b x,s.get b=some x->(∃i o y,τ b=some (some (i,o))/\hp.m.get i=some y/\F i=none/\BD P U τ F o x y)\/
  (τ b=some none/\ ∃L e z ph,x= .rows L e z ph/\L.toR U=[]/\z=(kf P e).length/\ph.toI U<=0)
 inj:∀b c x y i o j q,s.get b=some x->s.get c=some y->b≠c->τ b=some (some (i,o))->τ c=some (some (j,q))->i≠j
 frz:∀i b,F i=some b->hp.m.get i=some b
 lt:∀b i o,τ b=some (some (i,o))->i<hp.nx
 flt:∀i b,F i=some b->i<hp.nx
 new:∀b,s.nx<=b->τ b=none
 fc:∀c t,(c,t)∈s.fc->(c.den U).toBool=t
 fz:∀r∈s.fz,bk4 P U τ F r
def nyS (s:SS):Bool:=s.h.all fun p=>match p.2 with
 |some (.cells l _ _)=>noYs l
 |_=>true
variable {P U}
theorem BD.sub {τ:Tau}{F F':Nat->Option Blk}(p:Bool)(h:∀i y,F i=some y->((arr y).isSome=true\/p=true/\y≠ .dfr)->F' i=some y){o:Nat}{x:y4}{y:Blk}(hb:BD P U τ F o x y)(hn:p=true\/ ∀l e z,x= .cells l e z->noYs l=true):BD P U τ F' o x y:=by
 have hP:∀i y,F i=some y->(arr y).isSome=true->F' i=some y:=fun i y h1 h2=>h i y h1 (.inl h2)
 cases x with
 |cells l e z=>
  obtain⟨cs,n,h1,h2,h3⟩:=hb;exact⟨cs,n,h1,h2,fun j a ha=>let⟨x,k1,k2⟩:=h3 j a ha;⟨x,k1,k2.sub p h (hn.imp id fun k=>R3 (k l e z rfl) ha)⟩⟩
 |rows L e z ph=>
  obtain⟨cs,n,h1,⟨h2,h3,h4,h5⟩,h6⟩:=hb;exact⟨cs,n,h1,⟨h2,h3,h4,fun r k row d hr hd=>let⟨x,k1,k2⟩:=h5 r k row d hr hd;⟨x,k1,fun kd hk=>(k2 kd hk).sub hP⟩⟩,h6⟩
 |map L kt vt=>
  obtain⟨h0,es,reg,h1,hr,h2,h3⟩:=hb;exact⟨h0,es,reg,h1,hr,h2,fun j row e hr he=>let⟨sh,ks,d,k1,k2,k3,k4,k5⟩:=h3 j row e hr he;⟨sh,ks,d,k1,k2,k3,k4,k5.sub hP⟩⟩
 |iter s pos=>exact hb
theorem SD.sub {τ : Tau} {F F' : Nat → Option Blk} {s : SS} {hp hp' : Hp} (hs : SD P U τ F s hp) (p : Bool) (h : ∀ i y, F i = some y → ((arr y).isSome = true ∨ p = true ∧ y ≠ .dfr) → F' i = some y) (hn : p = true ∨ nyS s = true)
  (hnx:hp.nx<=hp'.nx) (hm:∀b x i o,s.get b=some x->τ b=some (some (i,o))->hp'.m.get i=hp.m.get i/\F' i=none) (hf:∀i y,F' i=some y->hp'.m.get i=some y/\i<hp'.nx):SD P U τ F' s hp':=by
 refine⟨fun b x hb=>?_,hs.inj,fun i y hy=>(hf i y hy).1,fun b i o hb=>bN2 (hs.lt b i o hb) hnx,fun i y hy=>(hf i y hy).2,hs.new,hs.fc,fun r hr=>?_⟩
 ·rcases hs.live b x hb with⟨i,o,y,h1,h2,h3,h4⟩|h1
  ·obtain⟨k1,k2⟩:=hm b x i o hb h1
   refine .inl ⟨i,o,y,h1,by rw[k1];exact h2,k2,h4.sub p h (hn.imp id fun k l e z hx=>?_)⟩
   unfold nyS at k;rw[bK9]at k;subst hx;unfold SS.get at hb;split at hb
   ·rename_i q hq
    subst hb;exact k _ (Q9 hq)
   ·cases hb
  ·grind
 ·rcases hs.fz r hr with⟨i,o,cs,n,h1,h2,h3,h4,h5,h6⟩|h1
  ·exact .inl ⟨i,o,cs,n,h1,h _ _ h2 (.inl rfl),h3,h4,h5,fun a k row d hr hd=>let⟨x,k1,k2⟩:=h6 a k row d hr hd;⟨x,k1,fun kd hk=>(k2 kd hk).sub fun i y h1 h2=>h i y h1 (.inl h2)⟩⟩
  ·exact .inr h1
end
end Go.Sx
namespace Go.Sx
open Go.Xe
def t9 (a b:E):E:=match a,b with
 | .int m,.int n=>.int (m+n)
 | .int m,b=>bif decide (m=0)then b else .op .add [b,.int m]
 | .op .add [x,.int m],.int n=>bif decide (m+n=0)then x else .op .add [x,.int (m+n)]
 |a,.int n=>bif decide (n=0)then a else .op .add [a,.int n]
 |a,b=>.op .add [a,b]
def I0 (a b:E):E:=match b with
 | .int n=>t9 a (.int (-n))
 |b=>.op .sub [a,b]
def bv0 (a b:E):E:=match a,b with
 | .int m,.int n=>.int (m*n)
 |a,b=>.op .mul [a,b]
def u5 (a:E):E:=match a with
 | .bool c=>.bool (!c)
 | .op .not [x]=>x
 |a=>.op .not [a]
def v6 (a b:E):E:=match a,b with
 | .int m,.int n=>.bool (decide (m<n))
 |a,b=>.op .lt [a,b]
def E5 (a b:E):E:=match a,b with
 | .int m,.int n=>.bool (decide (m=n))
 |a,b=>.op .eqi [a,b]
def bu8 (a b:E):E:=match a,b with
 | .bool p,b=>bif p then b else u5 b
 |a,.bool p=>bif p then a else u5 a
 |a,b=>.op .eqb [a,b]
def au4 (a b:E):E:=match a,b with
 | .str p,.str q=>.bool (p==q)
 |a,b=>.op .eqs [a,b]
def bh1 (a b:E):E:=match a,b with
 | .bool p,b=>bif p then b else .bool false
 |a,.bool p=>bif p then a else .bool false
 |a,b=>.op .and [a,b]
def mkOr (a b:E):E:=match a,b with
 | .bool p,b=>bif p then .bool true else b
 |a,.bool p=>bif p then .bool true else a
 |a,b=>.op .or [a,b]
def aJ2 :Nat->E->E
 |0,L=>.op .len [L]
 |d+1,L=>match L with
  | .op .nil _=>.int 0
  | .op (.rows n _) _=>.int n
  | .op .app [a,b]=>t9 (aJ2 d a) (aJ2 d b)
  | .op (.upd _) [a,_,_]=>aJ2 d a
  |L=>.op .len [L]
def y6 (L:E):E:=aJ2 50 L
def bh2 :Nat->Nat->E->E->E
 |0,j,L,r=>.op (.get j) [L,r]
 |d+1,j,L,r=>match L with
  | .op (.upd j') [a,i,c]=>bif Nat.beq j j' then .op (.get j) [.op (.upd j') [a,i,c],r]else bh2 d j a r
  |L=>.op (.get j) [L,r]
def aS3 (j:Nat)(L r:E):E:=bh2 50 j L r
def D6 (a b:E):E:=match a,b with
 | .op .nil _,b=>b
 |a,.op .nil _=>a
 |a,b=>.op .app [a,b]
section
variable {U :Nat->List Dat->Dat}
theorem z8 (n:Int):(E.int n).toI U=n:=rfl
theorem f8 (a b:E):(t9 a b).toI U=a.toI U+b.toI U:=by
 unfold t9;split
 ·rfl
 ·rename_i b m _
  by_cases h:m=0
  ·subst h;simp only[bN6,bJ6];exact(Int.zero_add _).symm
  ·simp only[h,decide_false,bJ7];exact Int.add_comm _ _
 ·rename_i x m n
  by_cases h:m+n=0
  ·simp only[h,bN6,bJ6];show _=(x.toI U+m)+n;omega
  ·simp only[h,decide_false,bJ7];show x.toI U+(m+n)=(x.toI U+m)+n;omega
 ·rename_i a n _ _
  by_cases h:n=0
  ·subst h;simp only[bN6,bJ6];show _=_+0;omega
  ·simp only[h,decide_false,bJ7];rfl
 ·rfl
theorem p8 (a b:E):(I0 a b).toI U=a.toI U-b.toI U:=by
 unfold I0;split
 ·rename_i n;rw[f8];show _+ -n=_-n;omega
 ·rfl
theorem bm2 (a b:E):(bv0 a b).toI U=a.toI U*b.toI U:=by
 unfold bv0;split<;>rfl
theorem C6 (a:E):((u5 a).den U).toBool= !(a.den U).toBool:=by
 unfold u5;split
 ·rfl
 ·rename_i x;show _= !(!(x.den U).toBool);simp
 ·rfl
theorem C8 (a b:E):((v6 a b).den U).toBool=decide (a.toI U<b.toI U):=by
 unfold v6;split<;>rfl
theorem F8 (a b:E):((E5 a b).den U).toBool=decide (a.toI U=b.toI U):=by
 unfold E5;split<;>rfl
theorem P9 (a b:E):((au4 a b).den U).toBool=((a.den U).toStr==(b.den U).toStr):=by
 unfold au4;split<;>rfl
theorem bm1 (a b:E):((bu8 a b).den U).toBool=((a.den U).toBool==(b.den U).toBool):=by
 unfold bu8;split
 ·rename_i b p;cases p
  ·simp only[bJ7,C6];show _=(false==_);simp
  ·simp only[bJ6];show _=(true==_);simp
 ·rename_i a p _;cases p
  ·simp only[bJ7,C6];show _=(_==false);simp
  ·simp only[bJ6];show _=(_==true);simp
 ·rfl
theorem aJ0 (a b:E):((bh1 a b).den U).toBool=((a.den U).toBool&&(b.den U).toBool):=by
 unfold bh1;split
 ·rename_i b p;cases p
  ·rfl
  ·show _=(true&&_);simp
 ·rename_i a p _;cases p
  ·show false=(_&&false);simp
  ·show _=(_&&true);simp
 ·rfl
theorem aT5 (a b:E):((mkOr a b).den U).toBool=((a.den U).toBool|| (b.den U).toBool):=by
 unfold mkOr;split
 ·rename_i b p;cases p
  ·show _=(false||_);simp
  ·rfl
 ·rename_i a p _;cases p
  ·show _=(_||false);simp
  ·show true=(_||true);simp
 ·rfl
theorem H4 (z:Nat):∀(n:Nat) (l:List Dat),(chunk z n l).length=n
 |0,_=>rfl
 |n+1,l=>by simp[chunk,H4 z n]
theorem af5 :∀(d:Nat) (L:E),(aJ2 d L).toI U=((L.toR U).length:Int)
 |0,L=>rfl
 |d+1,L=>by
  unfold aJ2;split
  ·rfl
  ·rename_i n z as;show(n:Int)=((chunk z n _).length:Int);rw[H4]
  ·rename_i a b;rw[f8,af5 d a,af5 d b]
   show _=(((a.toR U)++(b.toR U)).length:Int);simp
  ·rename_i j a i c;rw[af5 d a]
   show _=((setAt (a.toR U) _ j _).length:Int);simp[setAt]
  ·rfl
theorem d9 (L:E):(y6 L).toI U=((L.toR U).length:Int):=af5 50 L
theorem aw5 (L:Rows)(i r:Int){j j':Nat}(d:Dat)(h:j≠j'):A9 (setAt L i j' d) r j=A9 L r j:=by
 unfold A9 setAt
 grind
theorem aJ1 :∀(d j:Nat) (L r:E),(bh2 d j L r).den U=A9 (L.toR U) (r.toI U) j
 |0,j,L,r=>rfl
 |d+1,j,L,r=>by
  unfold bh2;split
  ·rename_i j' a i c
   by_cases h:j=j'
   ·rw[t7 h];rfl
   ·rw[u9 h,bJ7,aJ1 d j a r]
    exact(aw5 _ _ _ _ h).symm
  ·rfl
theorem aA3 (j:Nat)(L r:E):(aS3 j L r).den U=A9 (L.toR U) (r.toI U) j:=aJ1 50 j L r
theorem N2 (a b:E):(D6 a b).toR U=a.toR U++b.toR U:=by
 unfold D6;split
 ·rfl
 ·show _=_++([]:Rows);simp
 ·rfl
def FT (U:Nat->List Dat->Dat)(l:List (E×Bool)):Prop:=∀c t,(c,t)∈l->(c.den U).toBool=t
def M (α:Type):=SS->Tr (α×SS)
def c8 {α:Type}(a:α):M α:=fun s=>.ret (a,s)
def a7 {α:Type}(t:String):M α:=fun _=>.fail t
def a8 {α β:Type}(m:M α)(k:α->M β):M β:=fun s=>(m s).bind fun x=>k x.1 x.2
def m9 {α:Type}(k:SS->M α):M α:=fun s=>k s s
def ah2 {α:Type}(t:String)(x:Option α):M α:=match x with|some a=>c8 a|none=>a7 t
def addF (s:SS)(c:E)(t:Bool):SS:= {s with fc:=(c,t)::s.fc}
variable (U) in
def j7 (c:E):M Unit:=fun s=>match c with
 | .bool true=>.ret ((),s)
 |c=>.need (.e c) (c.pr U) (.ret ((),addF s c true))
def bs8 :List (E×Bool)->E->Option Bool
 | [],_=>none
 | (d,t)::l,c=>bif E.like d c then some t else bs8 l c
variable (U) in
def testA (c:E):M Bool:=fun s=>match c with
 | .bool b=>.ret (b,s)
 |c=>match bs8 s.fc c with
  |some true=>.need (.e c) (c.pr U) (.ret (true,s))
  |some false=>.need (.e (u5 c)) (¬c.pr U) (.ret (false,s))
  |none=>.br c (.ret (true,addF s c true)) (.ret (false,addF s c false))
variable (U) in
def testF :Nat->E->M Bool
 |0,c=>testA U c
 |d+1,c=>match c with
  | .op .not [a]=>a8 (testF d a) fun t=>c8 (!t)
  | .op .and [a,b]=>a8 (testF d a) fun t=>bif t then testF d b else c8 false
  | .op .or [a,b]=>a8 (testF d a) fun t=>bif t then c8 true else testF d b
  |c=>testA U c
variable (U) in
def ad7 (c:E):M Bool:=testF U 20 c
structure Q3 (s s':SS):Prop where
 h:s'.h=s.h
 nx:s'.nx=s.nx
 fc:∃l,s'.fc=l++s.fc
 fz:s'.fz=s.fz
theorem Q3.refl (s:SS):Q3 s s:=⟨rfl,rfl,⟨[],rfl⟩,rfl⟩
theorem Q3.trans {a b c:SS}(h:Q3 a b)(k:Q3 b c):Q3 a c:=
 ⟨k.h.trans h.h,k.nx.trans h.nx,by obtain⟨l,e⟩:=h.fc;obtain⟨m,e'⟩:=k.fc;exact⟨m++l,by rw[e',e,bJ3]⟩,k.fz.trans h.fz⟩
theorem Q3.addF (s:SS)(c:E)(t:Bool):Q3 s (addF s c t):=⟨rfl,rfl,⟨[(c,t)],rfl⟩,rfl⟩
theorem Q3.get {s s':SS}(h:Q3 s s')(b:Nat):s'.get b=s.get b:=by unfold SS.get;rw[h.h]
variable (U) in
def OKp {α:Type}(m:M α)(s:SS)(R:α->Prop):Prop:=
 ∀Q,(m s).vc U Q->FT U s.fc-> ∃a s',Q (a,s')/\Q3 s s'/\FT U s'.fc/\R a
theorem OKp.ret {α:Type}{a:α}{s:SS}{R:α->Prop}(h:R a):OKp U (c8 a) s R:=fun _ hq hf=>⟨a,s,hq,Q3.refl s,hf,h⟩
theorem OKp.fail {α:Type}{t:String}{s:SS}{R:α->Prop}:OKp U (a7 t:M α) s R:=fun _ hq _=>hq.elim
theorem OKp.bind {α β:Type}{m:M α}{k:α->M β}{s:SS}{R:α->Prop}{R':β->Prop}(h:OKp U m s R)(hk:∀a s',Q3 s s'->FT U s'.fc->R a->OKp U (k a) s' R'):OKp U (a8 m k) s R':=by
 intro Q hq hf;unfold a8 at hq;rw[Tr.vc_bind]at hq;obtain⟨a,s1,h1,h2,h3,h4⟩:=h _ hq hf;obtain⟨b,s2,h5,h6,h7,h8⟩:=hk a s1 h2 h3 h4 Q h1 h3;exact⟨b,s2,h5,h2.trans h6,h7,h8⟩
theorem OKp.mono {α:Type}{m:M α}{s:SS}{R R':α->Prop}(h:OKp U m s R)(hr:∀a,R a->R' a):OKp U m s R':=by
 intro Q hq hf;obtain⟨a,s1,h1,h2,h3,h4⟩:=h Q hq hf
 grind
theorem OKp.opt {α:Type}{t:String}{x:Option α}{s:SS}{R:α->Prop}(h:∀a,x=some a->R a):OKp U (ah2 t x) s R:=by
 cases x with
 |none=>exact OKp.fail
 |some a=>exact OKp.ret (h a rfl)
theorem OKp.read {α:Type}{k:SS->M α}{s:SS}{R:α->Prop}(h:OKp U (k s) s R):OKp U (m9 k) s R:=h
theorem FT.cons {l:List (E×Bool)}{c:E}{t:Bool}(h:FT U l)(hc:(c.den U).toBool=t):FT U ((c,t)::l):=by
 intro d u hd
 rcases bL7.1 hd with e|e
 ·grind
 ·exact h d u e
theorem bb5 {c:E}(h:¬c.pr U):(c.den U).toBool=false:=by
 rw[E.pr_iff]at h;simpa using h
theorem OKp.need {c:E}{s:SS}:OKp U (j7 U c) s fun _=>c.pr U:=by
 intro Q hq hf;unfold j7 at hq;split at hq
 ·exact⟨(),s,hq,Q3.refl s,hf,rfl⟩
 ·obtain⟨h1,h2⟩:=hq
  exact⟨(),_,h2 h1,Q3.addF s _ _,hf.cons ((E.pr_iff U _).1 h1),h1⟩
theorem OKp.testA {c:E}{s:SS}:OKp U (testA U c) s fun t=>(c.den U).toBool=t:=by
 intro Q hq hf;unfold Sx.testA at hq;split at hq
 ·exact⟨_,s,hq,Q3.refl s,hf,rfl⟩
 ·split at hq
  ·exact⟨true,s,hq.2 hq.1,Q3.refl s,hf,(E.pr_iff U _).1 hq.1⟩
  ·exact⟨false,s,hq.2 hq.1,Q3.refl s,hf,bb5 hq.1⟩
  ·by_cases h:c.pr U
   ·exact⟨true,_,hq.1 h,Q3.addF s _ _,hf.cons ((E.pr_iff U _).1 h),(E.pr_iff U _).1 h⟩
   ·exact⟨false,_,hq.2 h,Q3.addF s _ _,hf.cons (bb5 h),bb5 h⟩
theorem OKp.testF :∀(d:Nat) (c:E) (s:SS),OKp U (testF U d c) s fun t=>(c.den U).toBool=t
 |0,c,s=>OKp.testA
 |d+1,c,s=>by
  unfold Sx.testF;split
  ·rename_i a
   refine(OKp.testF d a s).bind fun t s' _ _ h=>OKp.ret ?_
   show(!(a.den U).toBool)= !t;rw[h]
  ·rename_i a b
   refine(OKp.testF d a s).bind fun t s' _ _ h=>?_
   cases t with
   |true=>exact(OKp.testF d b s').mono fun u hu=>by show((a.den U).toBool&&(b.den U).toBool)=u;rw[h,hu];rfl
   |false=>exact OKp.ret (by show((a.den U).toBool&&(b.den U).toBool)=false;rw[h];rfl)
  ·rename_i a b
   refine(OKp.testF d a s).bind fun t s' _ _ h=>?_
   cases t with
   |true=>exact OKp.ret (by show((a.den U).toBool|| (b.den U).toBool)=true;rw[h];rfl)
   |false=>exact(OKp.testF d b s').mono fun u hu=>by show((a.den U).toBool|| (b.den U).toBool)=u;rw[h,hu];rfl
  ·exact OKp.testA
theorem OKp.test {c:E}{s:SS}:OKp U (ad7 U c) s fun t=>(c.den U).toBool=t:=OKp.testF 20 c s
end
end Go.Sx
namespace Go.Sx
open Go.Xe
abbrev Fm:=List (Nat×SV)
def Z4 :Value->SV
 | .bool b=>.bool (.bool b)
 | .int k n=>.int k (.int n)
 | .string s=>.str (.str s.data.toList)
 | .pointer none=>.nilp
 | .slice none 0 0=>.nils
 | .map none=>.nilm
 | .nilFunc=>.nilf
 | .nilIface=>.nili
 |_=>.any
def bc6 :Value->SV
 | .agg cs=>.agg (cs.toList.map Z4)
 | .tuple vs=>.tup (vs.toList.map Z4)
 |v=>Z4 v
def j8 (f:Fm):Operand->Option SV
 | .tmp t=>some ((lk f t).getD .any)
 | .const v=>bif cst v then some (bc6 v)else none
 | .global _=>none
 | .func g=>some (.fn (.func g) [] [])
def aV9 (f:Fm):List Operand->Option (List SV)
 | []=>some []
 |x::xs=>match j8 f x with
  |some v=>match aV9 f xs with
   |some vs=>some (v::vs)
   |none=>none
  |none=>none
def ae6 (f:Fm):List (Nat×Operand)->Option (List (Nat×SV))
 | []=>some []
 | (i,x)::xs=>match j8 f x with
  |some v=>match ae6 f xs with
   |some vs=>some ((i,v)::vs)
   |none=>none
  |none=>none
def A7 :SV->Option (List SV)
 | .any=>none
 | .yld _ _ _ _ _ _ _=>none
 | .agg l=>some l
 |v=>some [v]
def aK4 (P : Program) (t : TypeId) (cs : List SV) (off : Nat) : Option SV :=
 match P.underlying t with
 |none=>none
 | some d => bif ap6 d then
   match P.info? t with
   |some i=>some (.agg ((cs.drop off).take i.size))
   |none=>none
  else cs[off]?
def bc8 (P:Program)(xt:TypeId)(x:SV)(f:Nat):Option SV:=
 match P.underlying xt with
 |some (.struct fs)=>match fs.toList[f]? with
  |some fd=>match x with
   | .agg cs=>aK4 P fd.type cs fd.offset
   |_=>none
  |none=>none
 |_=>none
def aC8 (x:SV)(i:Nat):Option SV:=
 match x with
 | .tup vs=>vs[i]?
 |_=>none
def L8 (cells:List SV)(off:Nat)(vs:List SV):List SV:=cells.take off++vs++cells.drop (off+vs.length)
def av2 (place:Nat->Option (Nat×Nat))(cells:List SV):List (Nat×SV)->Option (List SV)
 | []=>some cells
 | (i,v)::rest=>match place i with
  |none=>none
  |some (off,size)=>match A7 v with
   |none=>none
   |some vs=>bif Nat.beq vs.length size&&Nat.ble (off+size) cells.length then av2 place (L8 cells off vs) rest else none
def ae7 (P:Program)(t:TypeId):Option (List SV):=match I3 P t with
 |some z=>some (z.cells.toList.map Z4)
 |none=>none
def bc5 (P:Program)(t:TypeId)(parts:List (Nat×SV)):Option SV:=
 match ae7 P t with
 |none=>none
 |some z=>match P.underlying t with
  |some (.struct fs)=>match aa6 P fs.toList with
   |some pl=>match av2 (fun i=>pl[i]?) z parts with
    |some cs=>some (.agg cs)
    |none=>none
   |none=>none
  |some (.array _ e)=>match P.info? e with
   |some ie=>match av2 (fun i=>some (i*ie.size,ie.size)) z parts with
    |some cs=>some (.agg cs)
    |none=>none
   |none=>none
  |_=>none
section
variable {P :Program}{U:Nat->List Dat->Dat}{τ:Tau}{F:Nat->Option Blk}
def TD (P:Program)(U:Nat->List Dat->Dat)(τ:Tau)(F:Nat->Option Blk)(f:Fm)(tm:T Value):Prop:=∀k a,lk f k=some a->VD P U τ F a ((tm.get k).getD undef)
theorem aC6 (v:Value):VD P U τ F (Z4 v) v:=by
 unfold Z4;split
 ·exact .bool (.bool _)
 ·exact .int _ (.int _)
 ·rename_i s;exact .str (.str s.data.toList)
 ·exact .nilp
 ·exact .nils
 ·exact .nilm
 ·exact .nilf
 ·exact .nili
 ·exact .any _
theorem Z5 (l:List Value):VDL P U τ F (l.map Z4) l:=by
 refine⟨by simp,fun i a x ha hx=>?_⟩
 simp only[bM9,hx,bM4,bH9]at ha;subst ha;exact aC6 x
theorem bo5 (v:Value):VD P U τ F (bc6 v) v:=by
 unfold bc6;split
 ·rename_i cs
  have h:=Z5 (P:=P) (U:=U) (τ:=τ) (F:=F) cs.toList;exact VD.agg _ cs.toList h.1 h.2
 ·rename_i cs
  have h:=Z5 (P:=P) (U:=U) (τ:=τ) (F:=F) cs.toList;exact VD.tup _ cs.toList h.1 h.2
 ·exact aC6 v
theorem VDL.nil :VDL P U τ F [] []:=⟨rfl,fun i a x h _=>by simp at h⟩
theorem VDL.cons {a:SV}{x:Value}{l:List SV}{xs:List Value}(h:VD P U τ F a x)(hs:VDL P U τ F l xs):VDL P U τ F (a::l) (x::xs):=by
 refine⟨by simp[hs.1],fun i b y hb hy=>?_⟩
 cases i with
 |zero=>grind
 |succ i=>simp at hb hy;exact hs.2 i b y hb hy
theorem VDL.uncons {a:SV}{l:List SV}{xs:List Value}(h:VDL P U τ F (a::l) xs):∃y ys,xs=y::ys/\VD P U τ F a y/\VDL P U τ F l ys:=by
 cases xs with
 |nil=>exact absurd h.1 (by simp)
 |cons y ys=>exact⟨y,ys,rfl,h.2 0 _ _ rfl rfl,by have:=h.1;simpa using this,fun i a b ha hb=>h.2 (i+1) a b (by simpa using ha) (by simpa using hb)⟩
theorem VDL.mono {τ':Tau}{F':Nat->Option Blk}(ht:Tle τ τ')(hf:Fle F F'){l:List SV}{xs:List Value}(h:VDL P U τ F l xs):VDL P U τ' F' l xs:=⟨h.1,fun i a x ha hx=>(h.2 i a x ha hx).mono ht hf⟩
theorem VDL.get {l:List SV}{xs:List Value}(h:VDL P U τ F l xs){i:Nat}{a:SV}(ha:l[i]? =some a):∃x,xs[i]? =some x/\VD P U τ F a x:=by
 have hi:i<l.length:=(bI2.1 ha).1;have hx:i<xs.length:=by rw[<-h.1];exact hi
 exact⟨xs[i],by simp[hx],h.2 i a _ ha (by simp[hx])⟩
theorem VDL.drop {l:List SV}{xs:List Value}(h:VDL P U τ F l xs)(n:Nat):VDL P U τ F (l.drop n) (xs.drop n):=
 ⟨by simp[h.1],fun i a x ha hx=>h.2 (n+i) a x (by simpa using ha) (by simpa using hx)⟩
theorem VDL.take {l:List SV}{xs:List Value}(h:VDL P U τ F l xs)(n:Nat):VDL P U τ F (l.take n) (xs.take n):=by
 refine⟨by simp[h.1],fun i a x ha hx=>?_⟩
 rw[bL2]at ha hx
 by_cases hi:i<n
 ·rw[bK1 hi]at ha hx;exact h.2 i a x ha hx
 ·grind
theorem VDL.append {l m:List SV}{xs ys:List Value}(h:VDL P U τ F l xs)(k:VDL P U τ F m ys):VDL P U τ F (l++m) (xs++ys):=by
 induction l generalizing xs with
 |nil=>obtain⟨h1,_⟩:=h;have:xs=[]:=bI5 h1.symm;subst this;exact k
 |cons a l ih=>obtain⟨y,ys',rfl,h1,h2⟩:=h.uncons;exact VDL.cons h1 (ih h2)
theorem VDL.splice {l m:List SV}{xs ys:List Value}(h:VDL P U τ F l xs)(k:VDL P U τ F m ys)(o:Nat):VDL P U τ F (L8 l o m) (splice xs o ys):=by
 unfold L8 Xe.splice;rw[k.1];exact((h.take o).append k).append (h.drop _)
theorem VDL.agg {l:List SV}{xs:List Value}(h:VDL P U τ F l xs):VD P U τ F (.agg l) (.agg xs.toArray):= .agg l xs h.1 h.2
theorem VDL.tup {l:List SV}{xs:List Value}(h:VDL P U τ F l xs):VD P U τ F (.tup l) (.tuple xs.toArray):= .tup l xs h.1 h.2
theorem VDL.of_agg {l:List SV}{v:Value}(h:VD P U τ F (.agg l) v):∃xs:List Value,v= .agg xs.toArray/\VDL P U τ F l xs:=by
 cases h with|agg _ xs h1 h2=>exact⟨xs,rfl,h1,h2⟩
theorem VDL.of_tup {l:List SV}{v:Value}(h:VD P U τ F (.tup l) v):∃xs:List Value,v= .tuple xs.toArray/\VDL P U τ F l xs:=by
 cases h with|tup _ xs h1 h2=>exact⟨xs,rfl,h1,h2⟩
theorem PV.one {k:Kd}{v:Value}{d:Dat}(h:PV P F k v d):v.cells= #[v]:=by cases h<;>rfl
theorem ag1 {a:SV}{v:Value}(h:VD P U τ F a v){l:List SV}(e:A7 a=some l):VDL P U τ F l v.cells.toList:=by
 cases h with
 |any v=>simp[A7]at e
 |agg l' xs h1 h2=>simp only[A7,bH9]at e;subst e;exact⟨by simpa [Value.cells]using h1,fun i a x ha hx=>h2 i a x ha (by simpa [Value.cells]using hx)⟩
 |int k x=>simp only[A7,bH9]at e;subst e;exact VDL.cons (.int k x) VDL.nil
 |bool x=>simp only[A7,bH9]at e;subst e;exact VDL.cons (.bool x) VDL.nil
 |str x=>simp only[A7,bH9]at e;subst e;exact VDL.cons (.str x) VDL.nil
 |nilp=>simp only[A7,bH9]at e;subst e;exact VDL.cons .nilp VDL.nil
 |ptr b z row fld i o h h0=>simp only[A7,bH9]at e;subst e;exact VDL.cons (.ptr b z row fld i o h h0) VDL.nil
 |pptr t L row fld i o l c h h0 h1=>simp only[A7,bH9]at e;subst e;exact VDL.cons (.pptr t L row fld i o l c h h0 h1) VDL.nil
 |nils=>simp only[A7,bH9]at e;subst e;exact VDL.cons .nils VDL.nil
 |sl b z off len cap i o c h h0 h1 hc=>simp only[A7,bH9]at e;subst e;exact VDL.cons (.sl b z off len cap i o c h h0 h1 hc) VDL.nil
 |sl0 b z off len cap h h0 h1 hc=>simp only[A7,bH9]at e;subst e;exact VDL.cons (.sl0 b z off len cap h h0 h1 hc) VDL.nil
 |lst t L clip v h hc=>
  simp only[A7,bH9]at e;subst e;rw[h.one];exact VDL.cons (.lst t L clip v h hc) VDL.nil
 |tup l' xs h1 h2=>simp only[A7,bH9]at e;subst e;exact VDL.cons (.tup l' xs h1 h2) VDL.nil
 |fn f l' m xs ys h1 h2 h3 h4=>simp only[A7,bH9]at e;subst e;exact VDL.cons (.fn f l' m xs ys h1 h2 h3 h4) VDL.nil
 |nilf=>simp only[A7,bH9]at e;subst e;exact VDL.cons .nilf VDL.nil
 |map b i o h=>simp only[A7,bH9]at e;subst e;exact VDL.cons (.map b i o h) VDL.nil
 |nilm=>simp only[A7,bH9]at e;subst e;exact VDL.cons .nilm VDL.nil
 |iface t v x h=>simp only[A7,bH9]at e;subst e;exact VDL.cons (.iface t v x h) VDL.nil
 |nili=>simp only[A7,bH9]at e;subst e;exact VDL.cons .nili VDL.nil
 |yld=>simp[A7]at e
theorem A6 {f:Fm}{tm:T Value}(h:TD P U τ F f tm){o:Operand}{a:SV}(e:j8 f o=some a):∃v,a9 tm o=some v/\VD P U τ F a v:=by
 cases o with
 |tmp t=>
  simp only[j8,bH9]at e;refine⟨_,rfl,?_⟩;cases hl:lk f t with
  |none=>rw[hl]at e;subst e;exact .any _
  |some b=>rw[hl]at e;subst e;exact h t b hl
 |const v=>
  simp only[j8]at e;cases hc:cst v with
  |false=>grind
  |true=>simp only[hc,bJ6,bH9]at e;subst e;exact⟨v,by simp[a9,hc],bo5 v⟩
 |global g=>simp[j8]at e
 |func g=>simp only[j8,bH9]at e;subst e;exact⟨_,rfl,.fn _ [] [] [] [] rfl (fun i a x h _=>by simp at h) rfl (fun i a x h _=>by simp at h)⟩
theorem ay1 {f:Fm}{tm:T Value}(h:TD P U τ F f tm):∀ {os:List Operand} {l:List SV},aV9 f os=some l-> ∃vs,ah4 tm os=some vs/\VDL P U τ F l vs
 | [],l,e=>by simp only[aV9,bH9]at e;subst e;exact⟨[],rfl,VDL.nil⟩
 |o::os,l,e=>by
  simp only[aV9]at e;cases ho:j8 f o with
  |none=>grind
  |some a=>
   cases hos:aV9 f os with
   |none=>grind
   |some l'=>
    simp only[ho,hos,bH9]at e;subst e;obtain⟨v,h1,h2⟩:=A6 h ho;obtain⟨vs,h3,h4⟩:=ay1 h hos;exact⟨v::vs,by simp[ah4,h1,h3],VDL.cons h2 h4⟩
def PVD (P:Program)(U:Nat->List Dat->Dat)(τ:Tau)(F:Nat->Option Blk):List (Nat×SV)->List (Nat×Value)->Prop
 | [],[]=>True
 | (i,a)::l,(j,v)::m=>i=j/\VD P U τ F a v/\PVD P U τ F l m
 |_,_=>False
theorem ag4 {f:Fm}{tm:T Value}(h:TD P U τ F f tm):∀ {os:List (Nat×Operand)} {l:List (Nat×SV)},ae6 f os=some l-> ∃vs,V5 tm os=some vs/\PVD P U τ F l vs
 | [],l,e=>by simp only[ae6,bH9]at e;subst e;exact⟨[],rfl,trivial⟩
 | (i,o)::os,l,e=>by
  simp only[ae6]at e;cases ho:j8 f o with
  |none=>grind
  |some a=>
   cases hos:ae6 f os with
   |none=>grind
   |some l'=>
    simp only[ho,hos,bH9]at e;subst e;obtain⟨v,h1,h2⟩:=A6 h ho;obtain⟨vs,h3,h4⟩:=ag4 h hos;exact⟨(i,v)::vs,by simp[V5,h1,h3],rfl,h2,h4⟩
theorem an8 {t:TypeId}{l:List SV}{xs:List Value}(h:VDL P U τ F l xs){off:Nat}{a:SV}(e:aK4 P t l off=some a):∃v,X6 P t xs off=some v/\VD P U τ F a v:=by
 unfold aK4 at e;unfold X6;split at e
 ·cases e
 ·rename_i d hd
  rw[hd];cases hb:ap6 d with
  |true=>
   simp only[hb,bJ6]at e⊢;split at e
   ·rename_i i hi
    simp only[bH9]at e;subst e;exact⟨_,by rw[hi],((h.drop off).take i.size).agg⟩
   ·cases e
  |false=>
   simp only[hb,bJ7]at e⊢;obtain⟨x,h1,h2⟩:=h.get e
   grind
theorem bo8 {t:TypeId}{a:SV}{v:Value}(h:VD P U τ F a v){f:Nat}{b:SV}(e:bc8 P t a f=some b):∃u,ak5 P t v f=some u/\VD P U τ F b u:=by
 unfold bc8 at e;unfold ak5;split at e
 ·rename_i fs hfs
  split at e
  ·rename_i fd hfd
   split at e
   ·rename_i cs
    obtain⟨xs,rfl,hx⟩:=VDL.of_agg h;obtain⟨u,h1,h2⟩:=an8 hx e
    grind
   ·cases e
  ·cases e
 ·cases e
theorem aW0 {a:SV}{v:Value}(h:VD P U τ F a v){i:Nat}{b:SV}(e:aC8 a i=some b):∃u,R7 v i=some u/\VD P U τ F b u:=by
 unfold aC8 at e;split at e
 ·obtain⟨xs,rfl,hx⟩:=VDL.of_tup h
  obtain⟨u,h1,h2⟩:=hx.get e;exact⟨u,by simpa [R7]using h1,h2⟩
 ·cases e
theorem ae4 {place : Nat → Option (Nat × Nat)} : ∀ {ps : List (Nat × SV)} {qs : List (Nat × Value)} {l : List SV} {xs : List Value} {r : List SV}, VDL P U τ F l xs → PVD P U τ F ps qs → av2 place l ps = some r →
  ∃ys,ao8 place xs qs=some ys/\VDL P U τ F r ys
 | [],[],l,xs,r,h,_,e=>by simp only[av2,bH9]at e;subst e;exact⟨xs,rfl,h⟩
 | (i,a)::ps,(j,v)::qs,l,xs,r,h,hp,e=>by
  obtain⟨rfl,hv,hp'⟩:=hp;simp only[av2]at e;split at e
  ·cases e
  ·rename_i off size hpl
   split at e
   ·cases e
   ·rename_i vs hvs
    have hc:=ag1 hv hvs;simp only[ao8,hpl];rw[hc.1,h.1]at e;cases hb:Nat.beq v.cells.toList.length size&&Nat.ble (off+size) xs.length with
    |false=>grind
    |true=>
     simp only[hb,bJ6]at e⊢;exact ae4 (h.splice hc off) hp' e
 | [],_::_,l,xs,r,h,hp,e=>hp.elim
 |_::_,[],l,xs,r,h,hp,e=>hp.elim
theorem L9 {t:TypeId}{l:List SV}(e:ae7 P t=some l):∃z,I3 P t=some z/\VDL P U τ F l z.cells.toList:=by
 unfold ae7 at e;split at e
 ·rename_i z hz;simp only[bH9]at e;subst e;exact⟨z,hz,Z5 _⟩
 ·cases e
theorem bo4 {t:TypeId}{ps:List (Nat×SV)}{qs:List (Nat×Value)}(h:PVD P U τ F ps qs){a:SV}(e:bc5 P t ps=some a):∃v,ak2 P t qs=some v/\VD P U τ F a v:=by
 unfold bc5 at e;unfold ak2;split at e
 ·cases e
 ·rename_i l hl
  obtain⟨z,h1,h2⟩:=L9 (U:=U) (τ:=τ) (F:=F) hl;rw[h1];split at e
  ·rename_i fs hfs
   split at e
   ·rename_i pl hpl
    split at e
    ·rename_i cs hcs
     simp only[bH9]at e;subst e;obtain⟨ys,h3,h4⟩:=ae4 h2 h hcs;exact⟨_,by simp only[hfs,hpl,h3],h4.agg⟩
    ·cases e
   ·cases e
  ·rename_i ie hfs
   split at e
   ·rename_i ie' hie
    split at e
    ·rename_i cs hcs
     simp only[bH9]at e;subst e;obtain⟨ys,h3,h4⟩:=ae4 h2 h hcs;exact⟨_,by simp only[hfs,hie,h3],h4.agg⟩
    ·cases e
   ·cases e
  ·cases e
end
end Go.Sx
namespace Go.Sx
open Go.Xe
def rng (e:E)(k:IntKind):E:=bh1 (u5 (v6 e (.int k.min))) (v6 e (.int (k.max+1)))
def aq6 (op:BinOp)(k:IntKind)(a b:E):E:=match a,b with
 | .int m,.int n=>.int (Go.bits op k m n)
 |a,b=>.op (.bits op k) [a,b]
def bv1 (a b:E):E:=match a,b with
 | .int m,.int n=>.int (m.tdiv n)
 |a,b=>.op .tdiv [a,b]
def bv2 (a b:E):E:=match a,b with
 | .int m,.int n=>.int (m.tmod n)
 |a,b=>.op .tmod [a,b]
def bv3 (k:IntKind)(a b:E):E:=match a,b with
 | .int m,.int n=>.int (k.wrap (m*2^(min n.toNat k.bits)))
 |a,b=>.op (.shl k) [a,b]
def bv4 (k:IntKind)(a b:E):E:=match a,b with
 | .int m,.int n=>.int (m.fdiv (2^(min n.toNat k.bits)))
 |a,b=>.op (.shr k) [a,b]
def ba8 (a b:E):E:=match a,b with
 | .str p,.str q=>.str (p++q)
 |a,b=>.op .sapp [a,b]
def U8 (a:E):E:=match a with
 | .str p=>.int p.length
 |a=>.op .slen [a]
def aJ3 (a b:E):E:=match a,b with
 | .str p,.str q=>.bool (Op.bytesLess p q)
 |a,b=>.op .lts [a,b]
section
variable (P :Program)(U:Nat->List Dat->Dat)
def aB3 (k:IntKind)(e:E):M SV:=match e with
 | .int n=>c8 (.int k (.int (k.wrap n)))
 |e=>bif decide (k= .i64)then a8 (j7 U (rng e .i64)) fun _=>c8 (.int k e)else c8 (.int k (.op (.wrap k) [e]))
def scmp (op:BinOp)(a b:E):Option E:=
 match op with
 | .eql=>some (E5 a b)
 | .neq=>some (u5 (E5 a b))
 | .lss=>some (v6 a b)
 | .leq=>some (u5 (v6 b a))
 | .gtr=>some (v6 b a)
 | .geq=>some (u5 (v6 a b))
 |_=>none
def bc4 (op:BinOp)(k:IntKind)(a b:E):M SV:=
 match op with
 | .add=>aB3 U k (t9 a b)
 | .sub=>aB3 U k (I0 a b)
 | .mul=>aB3 U k (bv0 a b)
 | .quo=>a8 (j7 U (u5 (E5 b (.int 0)))) fun _=>aB3 U k (bv1 a b)
 | .rem=>a8 (j7 U (u5 (E5 b (.int 0)))) fun _=>c8 (.int k (bv2 a b))
 | .and=>c8 (.int k (aq6 .and k a b))
 | .or=>c8 (.int k (aq6 .or k a b))
 | .xor=>c8 (.int k (aq6 .xor k a b))
 | .andNot=>c8 (.int k (aq6 .andNot k a b))
 |op=>match scmp op a b with|some c=>c8 (.bool c)|none=>a7 "arith"
def aO6 (op:BinOp)(k:IntKind)(a b:E):M SV:=
 a8 (j7 U (u5 (v6 b (.int 0)))) fun _=>
 match op with
 | .shl=>c8 (.int k (bv3 k a b))
 | .shr=>c8 (.int k (bv4 k a b))
 |_=>a7 "shift"
def sstr (op:BinOp)(a b:E):M SV:=
 match op with
 | .add=>a8 (j7 U (v6 (t9 (U8 a) (U8 b)) (.int 1000000001))) fun _=>c8 (.str (ba8 a b))
 | .eql=>c8 (.bool (au4 a b))
 | .neq=>c8 (.bool (u5 (au4 a b)))
 | .lss=>c8 (.bool (aJ3 a b))
 | .leq=>c8 (.bool (mkOr (aJ3 a b) (au4 a b)))
 | .gtr=>c8 (.bool (u5 (mkOr (aJ3 a b) (au4 a b))))
 | .geq=>c8 (.bool (u5 (aJ3 a b)))
 |_=>a7 "str"
def bo6 (eq:TypeId->SV->SV->Option E)(xs ys:List SV):List Field->Option E
 | []=>some (.bool true)
 |f::fs=>bif f.name== "_" then bo6 eq xs ys fs else
  match aK4 P f.type xs f.offset,aK4 P f.type ys f.offset with
  |some a,some b=>match eq f.type a b,bo6 eq xs ys fs with
   |some p,some q=>some (bh1 p q)
   |_,_=>none
  |_,_=>none
def aj3 :SV->Bool
 | .ptr _ _ _ _| .pptr _ _ _ _=>true
 |_=>false
def aN7 (size:Nat)(x y:SV):Option E:=
 match x,y with
 | .nilp,.nilp=>some (.bool true)
 | .nilp,y=>bif aj3 y then some (.bool false)else none
 |x,.nilp=>bif aj3 x then some (.bool false)else none
 | .ptr b z row fld,.ptr b' z' row' fld'=>bif Nat.beq b b'&&Nat.beq z z'&&Nat.beq fld fld'&&Nat.ble 1 z&&Nat.ble 1 size then some (E5 row row')else none
 |_,_=>none
def bj0 (x y:SV):Option E:=
 match x,y with
 | .nils,.nils=>some (.bool true)
 |_,_=>none
def an6 (x y:SV):Option E:=
 match x,y with
 | .nilm,.nilm=>some (.bool true)
 | .map _,.nilm=>some (.bool false)
 | .nilm,.map _=>some (.bool false)
 |_,_=>none
def bi9 (x y:SV):Option E:=
 match x,y with
 | .nilf,.nilf=>some (.bool true)
 | .nilf,.fn _ _ _=>some (.bool false)
 | .fn _ _ _,.nilf=>some (.bool false)
 |_,_=>none
def aG1 : Nat → TypeId → SV → SV → Option E
 |0,_,_,_=>none
 | d + 1, t, x, y => match P.underlying t with
  |some .bool=>match x,y with
   | .bool a,.bool b=>some (bu8 a b)
   |_,_=>none
  |some (.int _)=>match x,y with
   | .int k a,.int k' b=>bif decide (k=k')then some (E5 a b)else none
   |_,_=>none
  |some .string=>match x,y with
   | .str a,.str b=>some (au4 a b)
   |_,_=>none
  |some (.pointer e)=>match P.info? e with
   |some ie=>aN7 ie.size x y
   |none=>none
  |some (.struct fs)=>match x,y with
   | .agg xs,.agg ys=>bif P.stoodInHeld t then none else bo6 P (aG1 d) xs ys fs.toList
   |_,_=>none
  |some (.slice _)=>bj0 x y
  |some (.map _ _)=>an6 x y
  |some (.func _ _ _)=>bi9 x y
  | some (.interface _) => match x, y with
   | .nili,.iface _ _=>some (.bool false)
   | .iface _ _,.nili=>some (.bool false)
   | .iface tx vx, .iface ty vy => bif decide (tx = ty) then
     match P.info? tx with
     |some i=>bif i.comparable then aG1 d tx vx vy else none
     |none=>none
    else some (.bool false)
   |_,_=>none
  |_=>none
def V4 (t:TypeId):SV->Bool
 | .any=>false
 | .agg _=> !P.eqGuardType P.depth t
 | .nili=>false
 |_=>true
def sbin (op:BinOp)(t:TypeId)(x y:SV):M SV:=
 match x,y with
 | .int k a,.int k' b=>match op with
  | .shl=>aO6 U .shl k a b
  | .shr=>aO6 U .shr k a b
  |op=>bif decide (k=k')then bc4 U op k a b else a7 "kinds"
 | .str a,.str b=>sstr U op a b
 |x,y=>match op with
  | .eql=>bif V4 P t x then match aG1 P 10000 t x y with
   |some b=>c8 (.bool b)
   |none=>a7 "eq" else a7 "eq guard"
  | .neq=>bif V4 P t x then match aG1 P 10000 t x y with
   |some b=>c8 (.bool (u5 b))
   |none=>a7 "eq" else a7 "eq guard"
  |_=>a7 "binop"
def snil (len:E):M SV:=fun s=>.all .b s.fv fun d=>
 .br d (.asm (.e (E5 len (.int 0))) ((E5 len (.int 0)).pr U) (.ret (.bool (.bool true),addF {s with fv:=s.fv+1} (E5 len (.int 0)) true))) (.ret (.bool (.bool false),{s with fv:=s.fv+1}))
def aS8 (op:BinOp)(t:TypeId)(x y:SV):Option E:=match P.underlying t with
 |some (.slice _)=>match op,x,y with
  | .eql,.sl _ _ _ len _,.nils=>some len
  | .eql,.lst _ L _,.nils=>some (y6 L)
  |_,_,_=>none
 |_=>none
def bx5 (op:BinOp)(t:TypeId)(x y:SV):M SV:=match aS8 P op t x y with
 |some len=>snil U len
 |none=>sbin P U op t x y
def bx8 (src dst:TypeId)(x:SV):M SV:=
 match P.underlying src with
 |none=>a7 "conv"
 |some _=>match P.underlying dst,x with
  |some (.int k),.int k0 e=>match e with
   | .int n=>c8 (.int k (.int (k.wrap n)))
   |e=>bif Nat.blt k.bits k0.bits then c8 (.int k (.op (.wrap k) [e]))else a8 (j7 U (rng e k)) fun _=>c8 (.int k e)
  |some .string,.str s=>c8 (.str s)
  |_,_=>a7 "conv"
def sun (op:UnOp)(x:SV):M SV:=
 match op,x with
 | .neg,.int k e=>aB3 U k (I0 (.int 0) e)
 | .not,.bool b=>c8 (.bool (u5 b))
 |_,_=>a7 "unop"
def bc9 (t:TypeId)(x:SV):Option SV:=
 match P.underlying t with
 |some (.interface _)=>none
 |some _=>some (.iface t x)
 |none=>none
def bp1 (big:Bool):SV->List SV->M SV
 |v,[]=>match v with
  | .int k n=>c8 (.int k n)
  |_=>a7 "min"
 |v,y::ys=>match v,y with
  | .int k a,.int _ b=>a8 (ad7 U (bif big then v6 a b else v6 b a)) fun t=>bp1 big (.int k (bif t then b else a)) ys
  |_,_=>a7 "min"
end
section
variable {P :Program}{U:Nat->List Dat->Dat}{τ:Tau}{F:Nat->Option Blk}
theorem bE6 {k:IntKind}{n:Int}(h1:k.min<=n)(h2:n<=k.max):k.wrap n=n:=by
 unfold IntKind.wrap;unfold IntKind.min at h1;unfold IntKind.max at h2;cases k<;>simp[IntKind.signed,IntKind.bits]at h1 h2⊢ <;>omega
theorem bx3 {e:E}{k:IntKind}(h:(rng e k).pr U):k.wrap (e.toI U)=e.toI U:=by
 rw[E.pr_iff,rng,aJ0,C6,C8,C8]at h;simp only[bI0,bM5,bM7,bK0]at h;simp only[z8]at h;exact bE6 (by omega) (by omega)
theorem Y9 (op:BinOp)(k:IntKind)(a b:E):(aq6 op k a b).toI U=Go.bits op k (a.toI U) (b.toI U):=by unfold aq6;split<;>rfl
theorem bm3 (a b:E):(bv1 a b).toI U=(a.toI U).tdiv (b.toI U):=by unfold bv1;split<;>rfl
theorem bm4 (a b:E):(bv2 a b).toI U=(a.toI U).tmod (b.toI U):=by unfold bv2;split<;>rfl
theorem bm5 (k:IntKind)(a b:E):(bv3 k a b).toI U=k.wrap (a.toI U*2^(min (b.toI U).toNat k.bits)):=by unfold bv3;split<;>rfl
theorem bm6 (k:IntKind)(a b:E):(bv4 k a b).toI U=(a.toI U).fdiv (2^(min (b.toI U).toNat k.bits)):=by unfold bv4;split<;>rfl
theorem ba9 (a b:E):((ba8 a b).den U).toStr=(a.den U).toStr++(b.den U).toStr:=by unfold ba8;split<;>rfl
theorem J4 (a:E):(U8 a).toI U=((a.den U).toStr.length:Int):=by unfold U8;split<;>rfl
theorem af6 (a b:E):((aJ3 a b).den U).toBool=Op.bytesLess (a.den U).toStr (b.den U).toStr:=by unfold aJ3;split<;>rfl
theorem VD.int' {k:IntKind}{e:E}{n:Int}(h:e.toI U=n):VD P U τ F (.int k e) (.int k n):=by subst h;exact .int k e
theorem VD.bool' {e:E}{b:Bool}(h:(e.den U).toBool=b):VD P U τ F (.bool e) (.bool b):=by subst h;exact .bool e
theorem ad8 {k:IntKind}{e:E}{s:SS}{n:Int}(h:e.toI U=n):OKp U (aB3 U k e) s fun a=>VD P U τ F a (.int k (k.wrap n)):=by
 subst h;unfold aB3;split
 ·exact OKp.ret (.int k (.int _))
 ·by_cases hk:k= .i64
  ·subst hk
   simp only[bN6,bJ6];exact OKp.need.bind fun _ s' _ _ hp=>OKp.ret (VD.int' (bx3 hp).symm)
  ·simp only[hk,decide_false,bJ7]
   exact OKp.ret (.int k (.op (.wrap k) [_]))
theorem bh5 {b:E}(h:(u5 (E5 b (.int 0))).pr U):¬b.toI U=0:=by
 rw[E.pr_iff,C6,F8,bM5,bM7]at h;exact h
theorem bE0 {op:BinOp}{a b c:E}(h:scmp op a b=some c):ak3 op (a.toI U) (b.toI U)=some (.bool (c.den U).toBool):=by
 unfold scmp at h;split at h<;>simp only[bH9,reduceCtorEq]at h<;>subst h<;>simp only[ak3,C6,C8,F8,bH9,Value.bool.injEq]
 ·grind
 ·grind
theorem bo2 {op:BinOp}{k:IntKind}{a b:E}{s:SS}:OKp U (bc4 U op k a b) s fun c=>∃v,B4 op k (a.toI U) (b.toI U)=some v/\VD P U τ F c v:=by
 unfold bc4;split
 ·exact(ad8 (f8 a b)).mono fun c h=>⟨_,rfl,h⟩
 ·exact(ad8 (p8 a b)).mono fun c h=>⟨_,rfl,h⟩
 ·exact(ad8 (bm2 a b)).mono fun c h=>⟨_,rfl,h⟩
 ·refine OKp.need.bind fun _ s' _ _ hp=>(ad8 (bm3 a b)).mono fun c h=>⟨_,?_,h⟩
  simp[B4,bh5 hp]
 ·refine OKp.need.bind fun _ s' _ _ hp=>OKp.ret ⟨_,?_,VD.int' (bm4 a b)⟩
  simp[B4,bh5 hp]
 ·exact OKp.ret ⟨_,rfl,VD.int' (Y9 _ k a b)⟩
 ·exact OKp.ret ⟨_,rfl,VD.int' (Y9 _ k a b)⟩
 ·exact OKp.ret ⟨_,rfl,VD.int' (Y9 _ k a b)⟩
 ·exact OKp.ret ⟨_,rfl,VD.int' (Y9 _ k a b)⟩
 ·split
  ·rename_i c hc
   refine OKp.ret ⟨_,?_,.bool c⟩;rw[<-bE0 (U:=U) hc];cases op<;>first|rfl| (exact absurd rfl (by assumption))
  ·exact OKp.fail
theorem P4 {b:E}(h:(u5 (v6 b (.int 0))).pr U):0<=b.toI U:=by
 rw[E.pr_iff,C6,C8,bM5,bM7]at h;exact Int.not_lt.1 h
theorem aK5 {op:BinOp}{k:IntKind}{a b:E}{s:SS}:OKp U (aO6 U op k a b) s fun c=>∃v,at6 op k (a.toI U) (b.toI U)=some v/\VD P U τ F c v:=by
 unfold aO6;refine OKp.need.bind fun _ s' _ _ hp=>?_
 have h0:=P4 hp;have e:decide (b.toI U<0)=false:=by grind
 split
 ·exact OKp.ret ⟨_,by simp only[at6,e,bJ7],VD.int' (bm5 k a b)⟩
 ·exact OKp.ret ⟨_,by simp only[at6,e,bJ7],VD.int' (bm6 k a b)⟩
 ·exact OKp.fail
theorem VD.str' {e:E}{l:List UInt8}(h:(e.den U).toStr=l):VD P U τ F (.str e) (.string ⟨l.toArray⟩):=by subst h;exact .str e
theorem bE2 {op:BinOp}{a b:E}{s:SS}:OKp U (sstr U op a b) s fun c=>∃v,bB2 op ⟨(a.den U).toStr.toArray⟩ ⟨(b.den U).toStr.toArray⟩=some v/\VD P U τ F c v:=by
 unfold sstr;split
 ·refine OKp.need.bind fun _ s' _ _ hp=>?_
  rw[E.pr_iff,C8,f8,J4,J4]at hp;simp only[bK0]at hp;simp only[z8]at hp;refine OKp.ret ⟨_,?_,VD.str' (ba9 a b)⟩;have hb:Nat.ble ((a.den U).toStr.length+(b.den U).toStr.length) 1000000000=true:=bI6 (by omega)
  simp only[bB2,hb,bJ6]
 ·exact OKp.ret ⟨.bool ((a.den U).toStr==(b.den U).toStr),rfl,VD.bool' (P9 a b)⟩
 ·exact OKp.ret ⟨.bool (!((a.den U).toStr==(b.den U).toStr)),rfl,VD.bool' (by rw[C6,P9])⟩
 ·exact OKp.ret ⟨.bool (Op.bytesLess (a.den U).toStr (b.den U).toStr),rfl,VD.bool' (af6 a b)⟩
 ·exact OKp.ret ⟨.bool (Op.bytesLess (a.den U).toStr (b.den U).toStr|| (a.den U).toStr==(b.den U).toStr),rfl,VD.bool' (by rw[aT5,af6,P9])⟩
 ·exact OKp.ret ⟨.bool (!(Op.bytesLess (a.den U).toStr (b.den U).toStr|| (a.den U).toStr==(b.den U).toStr)),rfl,VD.bool' (by rw[C6,aT5,af6,P9])⟩
 ·exact OKp.ret ⟨.bool (!Op.bytesLess (a.den U).toStr (b.den U).toStr),rfl,VD.bool' (by rw[C6,af6])⟩
 ·exact OKp.fail
theorem aN6 {eq : TypeId → SV → SV → Option E} {xe : TypeId → Value → Value → Option Bool} (h : ∀ t a b v u c, VD P U τ F a v → VD P U τ F b u → eq t a b = some c → xe t v u = some (c.den U).toBool)
  {l m:List SV} {xs ys:List Value} (hl:VDL P U τ F l xs) (hm:VDL P U τ F m ys):∀ {fs:List Field} {c:E},bo6 P eq l m fs=some c->aE3 P xe xs ys fs=some (c.den U).toBool
 | [],c,e=>by simp only[bo6,bH9]at e;subst e;rfl
 |f::fs,c,e=>by
  simp only[bo6]at e;simp only[aE3];cases hn:f.name== "_" with
  |true=>simp only[hn,bJ6]at e⊢;exact aN6 h hl hm e
  |false=>
   simp only[hn,bJ7]at e⊢;split at e
   ·rename_i a b ha hb
    split at e
    ·rename_i p q hp hq
     simp only[bH9]at e;subst e;obtain⟨v,h1,h2⟩:=an8 hl ha;obtain⟨u,h3,h4⟩:=an8 hm hb;simp only[h1,h3,h _ _ _ _ _ _ h2 h4 hp];rw[aJ0];cases hpd:(p.den U).toBool with
     |true=>simp only[bS9];exact aN6 h hl hm hq
     |false=>rfl
    ·cases e
   ·cases e
theorem aJ7 {a:SV}{v:Value}(h:VD P U τ F a v)(e:aj3 a=true):∃p,v= .pointer (some p):=by
 cases h<;>first|exact⟨_,rfl⟩| (simp[aj3]at e)
theorem bo7 {size : Nat} {x y : SV} {v u : Value} (hx : VD P U τ F x v) (hy : VD P U τ F y u) {c : E} (e : aN7 size x y = some c) {d : Nat} {t t' : TypeId} (ht : P.underlying t = some (.pointer t')) {ie : TypeInfo} (hi : P.info? t' = some ie)
  (hs:ie.size=size):xeq P (d+1) t v u=some (c.den U).toBool:=by
 unfold aN7 at e;split at e
 ·simp only[bH9]at e;subst e;cases hx;cases hy;simp[xeq,ht];rfl
 ·cases hp:aj3 y with
  |false=>grind
  |true=>
   simp only[hp,bJ6,bH9]at e;subst e;obtain⟨p,rfl⟩:=aJ7 hy hp;cases hx;simp[xeq,ht];rfl
 ·cases hp:aj3 x with
  |false=>grind
  |true=>
   simp only[hp,bJ6,bH9]at e;subst e;obtain⟨p,rfl⟩:=aJ7 hx hp;cases hy;simp[xeq,ht];rfl
 ·rename_i b z row fld b' z' row' fld'
  cases hb:Nat.beq b b'&&Nat.beq z z'&&Nat.beq fld fld'&&Nat.ble 1 z&&Nat.ble 1 size with
  |false=>grind
  |true=>
   simp only[hb,bJ6,bH9]at e;subst e;simp only[bI0,bL9,bN3]at hb;obtain⟨⟨⟨⟨rfl,rfl⟩,rfl⟩,hz⟩,hsz⟩:=hb;cases hx with
   |ptr _ _ _ _ i o h h0=>
    cases hy with
    |ptr _ _ _ _ i' o' h' h0'=>
     rw[h]at h';simp only[bH9,bI1]at h';obtain⟨rfl,rfl⟩:=h';simp only[xeq,ht,t7,bJ6,hi];rw[u9 (by omega),bJ7,F8]
     congr 1
     rw[Bool.eq_iff_iff];simp only[bL9,bK0]
     constructor
     ·intro h
      have:row.toN U*z=row'.toN U*z:=by omega
      have:=Nat.eq_of_mul_eq_mul_right (by omega) this
      grind
     ·grind
 ·cases e
theorem VD.not_int {a:SV}{k:IntKind}{n:Int}(h:VD P U τ F a (.int k n)):a= .any\/ ∃e,a= .int k e:=by
 cases h with
 |any=>grind
 |int k e=>grind
 |lst t L clip v h hc=>cases h
theorem VD.not_str {a:SV}{s:ByteArray}(h:VD P U τ F a (.string s)):a= .any\/ ∃e,a= .str e:=by
 cases h with
 |any=>grind
 |str e=>grind
 |lst t L clip v h hc=>cases h
theorem VD.not_complex {a:SV}{f:FloatKind}{m n:Nat}(h:VD P U τ F a (.complex f m n)):a= .any:=by
 cases h with
 |any=>rfl
 |lst t L clip v h hc=>cases h
theorem by1 {x y:SV}{v u:Value}(hx:VD P U τ F x v)(hy:VD P U τ F y u){c:E}(e:bj0 x y=some c){d:Nat}{t t':TypeId}(ht:P.underlying t=some (.slice t')):xeq P (d+1) t v u=some (c.den U).toBool:=by
 unfold bj0 at e;split at e<;>simp only[bH9,reduceCtorEq]at e<;>subst e<;>cases hx<;>cases hy<;>simp[xeq,ht]<;>rfl
theorem aV8 {x y:SV}{v u:Value}(hx:VD P U τ F x v)(hy:VD P U τ F y u){c:E}(e:an6 x y=some c){d:Nat}{t t' t'':TypeId}(ht:P.underlying t=some (.map t' t'')):xeq P (d+1) t v u=some (c.den U).toBool:=by
 unfold an6 at e;split at e<;>simp only[bH9,reduceCtorEq]at e<;>subst e<;>cases hx<;>cases hy<;>simp[xeq,ht]<;>rfl
theorem by0 {x y:SV}{v u:Value}(hx:VD P U τ F x v)(hy:VD P U τ F y u){c:E}(e:bi9 x y=some c){d:Nat}{t:TypeId}{ps rs:Array TypeId}{b:Bool}(ht:P.underlying t=some (.func ps rs b)):xeq P (d+1) t v u=some (c.den U).toBool:=by
 unfold bi9 at e;split at e<;>simp only[bH9,reduceCtorEq]at e<;>subst e<;>cases hx<;>cases hy<;>simp[xeq,ht]<;>rfl
theorem ay0 :∀(d:Nat) (t:TypeId) (a b:SV) (v u:Value) (c:E),VD P U τ F a v->VD P U τ F b u->aG1 P d t a b=some c->xeq P d t v u=some (c.den U).toBool
 |0,t,a,b,v,u,c,ha,hb,e=>by simp[aG1]at e
 |d+1,t,a,b,v,u,c,ha,hb,e=>by
  simp only[aG1]at e;split at e
  ·rename_i ht
   split at e
   ·simp only[bH9]at e;subst e;cases ha;cases hb
    simp only[xeq,ht,bm1]
   ·cases e
  ·rename_i ht
   split at e
   ·rename_i k x k' y
    by_cases hk:k=k'
    ·simp only[hk,bN6,bJ6,bH9]at e;subst e;subst hk;cases ha;cases hb
     simp only[xeq,ht,F8,bN6,bJ6]
    ·grind
   ·cases e
  ·rename_i ht
   split at e
   ·simp only[bH9]at e;subst e;cases ha;cases hb
    simp only[xeq,ht,P9]
   ·cases e
  ·rename_i t' ht
   split at e
   ·rename_i ie hie
    exact bo7 ha hb e ht hie rfl
   ·cases e
  ·rename_i fs ht
   split at e
   ·rename_i xs ys
    cases hs:P.stoodInHeld t with
    |true=>grind
    |false=>
     simp only[hs,bJ7]at e;obtain⟨vs,rfl,h1⟩:=VDL.of_agg ha;obtain⟨us,rfl,h2⟩:=VDL.of_agg hb;simp only[xeq,ht,hs,bJ7];exact aN6 (ay0 d) h1 h2 e
   ·cases e
  ·rename_i ht;exact by1 ha hb e ht
  ·rename_i ht;exact aV8 ha hb e ht
  ·rename_i ht;exact by0 ha hb e ht
  ·rename_i ht
   split at e
   ·simp only[bH9]at e;subst e;cases ha;cases hb;simp only[xeq,ht];rfl
   ·simp only[bH9]at e;subst e;cases ha;cases hb;simp only[xeq,ht];rfl
   ·rename_i tx vx ty vy
    cases ha with
    |iface _ _ x hx=>
     cases hb with
     |iface _ _ y hy=>
      by_cases hk:tx=ty
      ·subst hk
       simp only[bN6,bJ6]at e;split at e
       ·rename_i i hi
        cases hcm:i.comparable with
        |false=>grind
        |true=>
         simp only[hcm,bJ6]at e;simp only[xeq,ht,bN6,bJ6,hi,hcm];exact ay0 d tx vx vy x y c hx hy e
       ·cases e
      ·simp only[hk,decide_false,bJ7,bH9]at e;subst e
       simp only[xeq,ht,hk,decide_false,bJ7];rfl
   ·cases e
  ·cases e
theorem PV.guard {k:Kd}{v:Value}{d:Dat}(h:PV P F k v d)(t:TypeId):I4 P t v=true:=by cases h<;>rfl
theorem ag3 {t:TypeId}{a:SV}{v:Value}(h:VD P U τ F a v)(e:V4 P t a=true):I4 P t v=true:=by
 cases h with
 |any=>simp[V4]at e
 |nili=>simp[V4]at e
 |yld=>first|exact e|rfl|simp[V4,I4]at e⊢
 |agg l xs h1 h2=>exact e
 |lst t' L clip v h hc=>exact h.guard t
 |_=>rfl
theorem J1 {op:BinOp}{t:TypeId}{v u w:Value}(h:Z9 P op t v u=some w):G7 P op t v u=some w:=by
 unfold G7;rw[h]
theorem N6 {op : BinOp} {t : TypeId} {v u : Value} (h1 : ∀ k a k' b, v = .int k a → u = .int k' b → False) (h2 : ∀ a b, v = .string a → u = .string b → False) (h3 : ∀ f m n, u = .complex f m n → False) :
  Z9 P op t v u=match op with
  | .eql=>bif I4 P t v then match xeq P 10000 t v u with
   |some b=>some (.bool b)
   |none=>none else none
  | .neq=>bif I4 P t v then match xeq P 10000 t v u with
   |some b=>some (.bool (!b))
   |none=>none else none
  |_=>none:=by
 unfold Z9
 grind
theorem bA1 {op:BinOp}{t:TypeId}{k:IntKind}{a b:Int}{v:Value}(h:B4 op k a b=some v):Z9 P op t (.int k a) (.int k b)=some v:=by
 unfold Z9;simp only[bN6,bJ6];cases op<;>first|exact h| (simp[B4,ak3]at h)
theorem bD8 {op:BinOp}{t:TypeId}{a b:SV}{v u:Value}(ha:VD P U τ F a v)(hb:VD P U τ F b u){s:SS}:OKp U (sbin P U op t a b) s fun c=>∃w,G7 P op t v u=some w/\VD P U τ F c w:=by
 unfold sbin;split
 ·rename_i k x k' y
  cases ha;cases hb;split
  ·exact aK5.mono fun c ⟨w,h1,h2⟩=>⟨w,J1 h1,h2⟩
  ·exact aK5.mono fun c ⟨w,h1,h2⟩=>⟨w,J1 h1,h2⟩
  ·by_cases hk:k=k'
   ·subst hk
    simp only[bN6,bJ6];exact bo2.mono fun c ⟨w,h1,h2⟩=>⟨w,J1 (bA1 h1),h2⟩
   ·simp only[hk,decide_false,bJ7];exact OKp.fail
 ·cases ha;cases hb
  exact bE2.mono fun c ⟨w,h1,h2⟩=>⟨w,J1 h1,h2⟩
 ·rename_i hi hs
  have key:∀c,V4 P t a=true->aG1 P 10000 t a b=some c->(∀k p k' q,v= .int k p->u= .int k' q->False)/\(∀p q,v= .string p->u= .string q->False)/\(∀f m n,u= .complex f m n->False):=by
   intro c hg hq;have na:a≠ .any:=fun e=>by subst e;simp[V4]at hg
   have nb:b≠ .any:=by
    intro e;subst e;have:∀d,aG1 P (d+1) t a .any=none:=by
     intro d;simp only[aG1];split<;>(try rfl)<;>(try (split<;>first|rfl| (rename_i h;cases h)|skip))
     all_goals (first| (unfold aN7;split<;>first|rfl| (rename_i h;cases h;done)| (simp[aj3]))| (unfold bj0;split<;>first|rfl| (rename_i h;cases h;done))| (unfold an6;split<;>first|rfl| (rename_i h;cases h;done))| (unfold bi9;split<;>first|rfl| (rename_i h;cases h;done))|simp_all)
    grind
   refine⟨fun k p k' q e1 e2=>?_,fun p q e1 e2=>?_,fun f m n e=>?_⟩
   ·subst e1;subst e2
    obtain⟨e,rfl⟩:=ha.not_int.resolve_left na;obtain⟨e',rfl⟩:=hb.not_int.resolve_left nb
    grind
   ·subst e1;subst e2
    obtain⟨e,rfl⟩:=ha.not_str.resolve_left na;obtain⟨e',rfl⟩:=hb.not_str.resolve_left nb
    grind
   ·subst e;exact nb hb.not_complex
  split
  ·cases hg:V4 P t a with
   |false=>exact OKp.fail
   |true=>
    simp only[bJ6];split
    ·rename_i c hc
     obtain⟨k1,k2,k3⟩:=key c hg hc;refine OKp.ret ⟨_,J1 ?_,.bool c⟩;rw[N6 k1 k2 k3];simp only[ag3 ha hg,bJ6,ay0 _ _ _ _ _ _ _ ha hb hc]
    ·exact OKp.fail
  ·cases hg:V4 P t a with
   |false=>exact OKp.fail
   |true=>
    simp only[bJ6];split
    ·rename_i c hc
     obtain⟨k1,k2,k3⟩:=key c hg hc;refine OKp.ret ⟨_,J1 ?_,VD.bool' (C6 c)⟩;rw[N6 k1 k2 k3];simp only[ag3 ha hg,bJ6,ay0 _ _ _ _ _ _ _ ha hb hc]
    ·exact OKp.fail
  ·exact OKp.fail
theorem bx6 {op:BinOp}{t:TypeId}{a b:SV}{v u:Value}(ha:VD P U τ F a v)(hb:VD P U τ F b u){s:SS}:OKp U (bx5 P U op t a b) s fun c=>∃w,G7 P op t v u=some w/\VD P U τ F c w:=by
 unfold bx5;split
 ·rename_i len h
  unfold aS8 at h;split at h
  ·rename_i t' ht
   split at h
   ·rename_i b' z off len' cap
    simp only[bH9]at h;subst h;have hg:I4 P t v=true:=ag3 ha rfl;cases hb;intro Q hq hf;cases ha with
    |sl _ _ _ _ _ i o c k h0 h1 hc=>
     refine⟨_,_,(hq false).2 (fun h=>by rw[E.pr_iff]at h;cases h),⟨rfl,rfl,⟨[],rfl⟩,rfl⟩,hf,.bool false,J1 ?_,.bool (.bool false)⟩
     rw[N6 (fun _ _ _ _ h=>by cases h) (fun _ _ h=>by cases h) (fun _ _ _ h=>by cases h)]
     simp only[hg,bJ6];simp[xeq,ht]
    |sl0 _ _ _ _ _ k h0 h1 hc=>
     have hp:(E5 len' (.int 0)).pr U:=(E.pr_iff U _).2 (by rw[F8];simp only[h1];rfl)
     refine⟨_,_,(hq true).1 ((E.pr_iff U _).2 rfl) hp,⟨rfl,rfl,⟨[(E5 len' (.int 0),true)],rfl⟩,rfl⟩,hf.cons ((E.pr_iff U _).1 hp),.bool true,J1 ?_,.bool (.bool true)⟩;rw[N6 (fun _ _ _ _ h=>by cases h) (fun _ _ h=>by cases h) (fun _ _ _ h=>by cases h)]
     simp only[hg,bJ6];simp[xeq,ht]
   ·rename_i t' L clip
    cases h;have hg:I4 P t v=true:=ag3 ha rfl;cases hb;intro Q hq hf;cases ha with
    |lst _ _ _ _ hpv _=>
     have key:∀(v:Value) (d:Dat),PV P F (.sl t') v d->v= .slice none 0 0->d.rows=[]:=fun v d h e=>by
      cases h with
      |nils=>rfl
      |vague=>rfl
      |sl=>cases e
     have key2:∀(v:Value) (d:Dat),PV P F (.sl t') v d->v= .slice none 0 0\/ ∃a l c,v= .slice (some a) l c:=fun v d h=>by
      cases h with
      |nils=>grind
      |vague=>grind
      |sl=>grind
     by_cases hv:v= .slice none 0 0
     ·subst hv
      have hL:(L.toR U).length=0:=by have h0:=key _ (.lst (L.toR U)) hpv rfl;rw[show L.toR U=[]from h0];rfl
      have hp:(E5 (y6 L) (.int 0)).pr U:=(E.pr_iff U _).2 (by rw[F8];show decide ((y6 L).toI U=(E.int 0).toI U)=true;rw[d9,hL];rfl)
      refine⟨_,_,(hq true).1 ((E.pr_iff U _).2 rfl) hp,⟨rfl,rfl,⟨[(E5 (y6 L) (.int 0),true)],rfl⟩,rfl⟩,hf.cons ((E.pr_iff U _).1 hp),.bool true,J1 ?_,.bool (.bool true)⟩;rw[N6 (fun _ _ _ _ h=>by cases h) (fun _ _ h=>by cases h) (fun _ _ _ h=>by cases h)]
      simp only[hg,bJ6];simp[xeq,ht]
     ·have hs:∃a l c,v= .slice (some a) l c:=(key2 _ _ hpv).resolve_left hv
      obtain⟨a,l,c,rfl⟩:=hs;refine⟨_,_,(hq false).2 (fun h=>by rw[E.pr_iff]at h;cases h),⟨rfl,rfl,⟨[],rfl⟩,rfl⟩,hf,.bool false,J1 ?_,.bool (.bool false)⟩
      rw[N6 (fun _ _ _ _ h=>by cases h) (fun _ _ h=>by cases h) (fun _ _ _ h=>by cases h)]
      simp only[hg,bJ6];simp[xeq,ht]
   ·cases h
  ·cases h
 ·exact bD8 ha hb
theorem bx9 {src dst:TypeId}{a:SV}{v:Value}(ha:VD P U τ F a v){s:SS}:OKp U (bx8 P U src dst a) s fun c=>∃w,ai2 P src dst v=some w/\VD P U τ F c w:=by
 unfold bx8;split
 ·exact OKp.fail
 ·rename_i d hd
  split
  ·rename_i k k0 e hk
   cases ha;split
   ·rename_i n
    exact OKp.ret ⟨.int k (k.wrap n),by simp only[ai2,hd,hk];rfl,VD.int' rfl⟩
   ·cases Nat.blt k.bits k0.bits with
    |true=>exact OKp.ret ⟨.int k (k.wrap (e.toI U)),by simp only[ai2,hd,hk],VD.int' rfl⟩
    |false=>exact OKp.need.bind fun _ s' _ _ hp=>OKp.ret ⟨.int k (k.wrap (e.toI U)),by simp only[ai2,hd,hk],VD.int' (bx3 hp).symm⟩
  ·rename_i e hk
   cases ha;exact OKp.ret ⟨_,by simp only[ai2,hd,hk],.str e⟩
  ·exact OKp.fail
theorem bH2 {op:UnOp}{a:SV}{v:Value}(ha:VD P U τ F a v){s:SS}:OKp U (sun U op a) s fun c=>∃w,xun op v=some w/\VD P U τ F c w:=by
 unfold sun;split
 ·cases ha
  exact(ad8 (p8 _ _)).mono fun c h=>⟨_,rfl,h⟩
 ·cases ha
  exact OKp.ret ⟨_,rfl,VD.bool' (C6 _)⟩
 ·exact OKp.fail
theorem bo9 {t:TypeId}{a b:SV}{v:Value}(ha:VD P U τ F a v)(e:bc9 P t a=some b):∃w,ak6 P t v=some w/\VD P U τ F b w:=by
 unfold bc9 at e;unfold ak6;cases h:P.underlying t with
 |none=>grind
 |some d=>
  rw[h]at e;cases d<;>first
   | (simp at e;done)
   | (simp only[bH9]at e;subst e;exact⟨_,rfl,.iface t a v ha⟩)
theorem aO1 {big:Bool}:∀ {l:List SV} {xs:List Value} {a:SV} {v:Value} {s:SS},VD P U τ F a v->VDL P U τ F l xs->OKp U (bp1 U big a l) s fun c=>∃w,ab6 big v xs=some w/\VD P U τ F c w
 | [],xs,a,v,s,ha,hl=>by
  have:xs=[]:=bI5 hl.1.symm;subst this;unfold bp1;split
  ·cases ha;exact OKp.ret ⟨_,rfl,.int _ _⟩
  ·exact OKp.fail
 |b::l,xs,a,v,s,ha,hl=>by
  obtain⟨y,ys,rfl,hb,hl'⟩:=hl.uncons;unfold bp1;split
  ·rename_i k x k' z
   cases ha;cases hb;refine OKp.test.bind fun t s' _ _ ht=>?_
   have e:(bif big then(bif decide (x.toI U<z.toI U)then z.toI U else x.toI U)else(bif decide (z.toI U<x.toI U)then z.toI U else x.toI U))=(bif t then z else x).toI U:=by
    cases big
    ·simp only[bJ7,C8]at ht⊢;rw[ht];cases t<;>rfl
    ·simp only[bJ6,C8]at ht⊢;rw[ht];cases t<;>rfl
   have:=aO1 (big:=big) (s:=s') (VD.int' (P:=P) (τ:=τ) (F:=F) (k:=k) e.symm) hl';exact this
  ·exact OKp.fail
end
end Go.Sx
namespace Go.Sx
open Go.Xe
section
variable {P :Program}{U:Nat->List Dat->Dat}
structure Ext (τ:Tau)(F:Nat->Option Blk)(s:SS)(hp:Hp)(τ':Tau)(F':Nat->Option Blk)(s':SS)(hp':Hp):Prop where
 t:Tle τ τ'
 f:Fle F F'
 nx:hp.nx<=hp'.nx
 snx:s.nx<=s'.nx
 st:∀b,b<s.nx->τ' b=τ b
 low:∀b x,s'.get b=some x->b<s.nx-> ∃y,s.get b=some y
 hh:∃l,s'.h=l++s.h/\(∀i,i<hp.nx->(∀b x o,s.get b=some x->τ b=some (some (i,o))->b∈l.map Prod.fst->False)->hp'.m.get i=hp.m.get i)/\
  (∀b i o,s.nx<=b->τ' b=some (some (i,o))->hp.nx<=i\/ ∃b0 x o0,s.get b0=some x/\τ b0=some (some (i,o0))/\b0∈l.map Prod.fst)/\
  (∀i y,i<hp.nx->F' i=some y->F i=some y\/ ∃b o,τ' b=some (some (i,o))/\b∈l.map Prod.fst)/\
  ((∀p∈l,p.2≠none)-> ∀i y,F' i=some y->F i=some y)
 hf:∃l,s'.fc=l++s.fc
theorem Ext.kept {τ τ':Tau}{F F':Nat->Option Blk}{s s':SS}{hp hp':Hp}(h:Ext τ F s hp τ' F' s' hp'):∀i,i<hp.nx->(∀b x o,s.get b=some x->τ b=some (some (i,o))->False)->hp'.m.get i=hp.m.get i:=by
 obtain⟨l,_,h1,_⟩:=h.hh
 grind
theorem Ext.fresh {τ τ':Tau}{F F':Nat->Option Blk}{s s':SS}{hp hp':Hp}(h:Ext τ F s hp τ' F' s' hp'):∀b i o,s.nx<=b->τ' b=some (some (i,o))->hp.nx<=i\/ ∃b0 x o0,s.get b0=some x/\τ b0=some (some (i,o0)):=by
 obtain⟨l,_,_,h1,_⟩:=h.hh
 grind
theorem SD.bound {τ:Tau}{F:Nat->Option Blk}{s:SS}{hp:Hp}(h:SD P U τ F s hp){b:Nat}{x:y4}(hb:s.get b=some x):b<s.nx:=by
 have:τ b≠none:=by rcases h.live b x hb with⟨i,o,y,h1,_⟩| ⟨h1,_⟩<;>rw[h1]<;>simp
 exact Nat.lt_of_not_le fun hle=>this (h.new b hle)
theorem Ext.refl {τ:Tau}{F:Nat->Option Blk}{s:SS}{hp:Hp}(h:SD P U τ F s hp):Ext τ F s hp τ F s hp:=
 ⟨Tle.refl τ,Fle.refl F,bK2 _,bK2 _,fun _ _=>rfl,fun b x hb _=>⟨x,hb⟩,⟨[],rfl,fun _ _ _=>rfl,fun b i o hb ht=>(by rw[h.new b hb]at ht;cases ht),fun _ _ _ h=>.inl h,fun _ _ _ h=>h⟩,⟨[],rfl⟩⟩
theorem Ext.trans {τ τ1 τ2 : Tau} {F F1 F2 : Nat → Option Blk} {s s1 s2 : SS} {hp hp1 hp2 : Hp} (h : Ext τ F s hp τ1 F1 s1 hp1) (k : Ext τ1 F1 s1 hp1 τ2 F2 s2 hp2) : Ext τ F s hp τ2 F2 s2 hp2 := by
 obtain⟨l1,a1,a2,a3,a4,a5⟩:=h.hh;obtain⟨l2,b1,b2,b3,b4,b5⟩:=k.hh;refine⟨h.t.trans k.t,h.f.trans k.f,bN7 h.nx k.nx,bN7 h.snx k.snx,fun b hb=>?_,fun b x hb hlt=>?_,⟨l2++l1,by rw[b1,a1,bJ3],fun i hi hn=>?_,fun b i o hb ht=>?_,fun i y hi hy=>?_,fun hp i y hy=>a5 (fun p h=>hp p (bQ4 _ h)) i y (b5 (fun p h=>hp p (bR6 _ h)) i y hy)⟩,?_⟩
 ·rw[k.st b (bN2 hb h.snx),h.st b hb]
 ·obtain⟨y,hy⟩:=k.low b x hb (bN2 hlt h.snx)
  exact h.low b y hy hlt
 ·rw[b2 i (bN2 hi h.nx) ?_,a2 i hi fun b x o hb ht hm=>hn b x o hb ht (by simp only[bM6,bL6];exact .inr hm)]
  intro b x o hb ht hm
  by_cases hlt:b<s.nx
  ·obtain⟨y,hy⟩:=h.low b x hb hlt
   rw[h.st b hlt]at ht
   grind
  ·grind
 ·have key : ∀ b i o, s.nx ≤ b → τ1 b = some (some (i, o)) → hp.nx ≤ i ∨ ∃ b0 x o0, s.get b0 = some x ∧ τ b0 = some (some (i, o0)) ∧ b0 ∈ (l2 ++ l1).map Prod.fst := by
   grind
  by_cases hlt:b<s1.nx
  ·rw[k.st b hlt]at ht
   grind
  ·rcases b3 b i o (bP7 hlt) ht with h1| ⟨b0,y,o0,h1,h2,h3⟩
   ·exact .inl (bN7 h.nx h1)
   ·by_cases hb0:b0<s.nx
    ·obtain⟨z,hz⟩:=h.low b0 y h1 hb0
     rw[h.st b0 hb0]at h2
     grind
    ·grind
 ·rcases b4 i y (bN2 hi h.nx) hy with h1| ⟨b,o,h1,h2⟩
  ·rcases a4 i y hi h1 with h2| ⟨b,o,h2,h3⟩
   ·grind
   ·exact .inr ⟨b,o,k.t _ _ h2,by simp only[bM6,bL6];exact .inr h3⟩
  ·grind
 ·obtain⟨l,e⟩:=h.hf;obtain⟨m,e'⟩:=k.hf;exact⟨m++l,by rw[e',e,bJ3]⟩
theorem SD.only {τ:Tau}{F:Nat->Option Blk}{s s':SS}{hp:Hp}(h:SD P U τ F s hp)(ho:Q3 s s')(hf:FT U s'.fc):SD P U τ F s' hp:=
 ⟨fun b x hb=>h.live b x (by rw[<-ho.get];exact hb),fun b c x y i o j q hb hc=>h.inj b c x y i o j q (by rw[<-ho.get];exact hb) (by rw[<-ho.get];exact hc),
  h.frz,h.lt,h.flt,fun b hb=>h.new b (by rw[<-ho.nx];exact hb),hf,fun r hr=>h.fz r (by rw[<-ho.fz];exact hr)⟩
theorem Ext.only {τ:Tau}{F:Nat->Option Blk}{s s':SS}{hp:Hp}(h:SD P U τ F s hp)(ho:Q3 s s'):Ext τ F s hp τ F s' hp:=
 ⟨Tle.refl τ,Fle.refl F,bK2 _,by rw[ho.nx];exact bK2 _,fun _ _=>rfl,fun b x hb _=>⟨x,by rw[<-ho.get];exact hb⟩,
  ⟨[],by rw[ho.h];rfl,fun _ _ _=>rfl,fun b i o hb ht=>(by rw[h.new b hb]at ht;cases ht),fun _ _ _ h=>.inl h,fun _ _ _ h=>h⟩,ho.fc⟩
variable (P U) in
def OKh {α:Type}(m:M α)(τ:Tau)(F:Nat->Option Blk)(s:SS)(hp:Hp)(R:α->Tau->(Nat->Option Blk)->Hp->Prop):Prop:=
 ∀Q,(m s).vc U Q->SD P U τ F s hp-> ∃a s',Q (a,s')/\ ∃τ' F' hp',Ext τ F s hp τ' F' s' hp'/\SD P U τ' F' s' hp'/\R a τ' F' hp'
variable {τ :Tau}{F:Nat->Option Blk}{s:SS}{hp:Hp}
theorem OKh.ret {α:Type}{a:α}{R:α->Tau->(Nat->Option Blk)->Hp->Prop}(h:R a τ F hp):OKh P U (c8 a) τ F s hp R:=fun _ hq hs=>⟨a,s,hq,τ,F,hp,Ext.refl hs,hs,h⟩
theorem OKh.fail {α:Type}{t:String}{R:α->Tau->(Nat->Option Blk)->Hp->Prop}:OKh P U (a7 t:M α) τ F s hp R:=fun _ hq _=>hq.elim
theorem OKp.up {α:Type}{m:M α}{R:α->Prop}(h:OKp U m s R):OKh P U m τ F s hp fun a τ' F' hp'=>τ'=τ/\F'=F/\hp'=hp/\R a:=by
 intro Q hq hs;obtain⟨a,s',h1,h2,h3,h4⟩:=h Q hq hs.fc;exact⟨a,s',h1,τ,F,hp,Ext.only hs h2,hs.only h2 h3,rfl,rfl,rfl,h4⟩
theorem OKh.mono {α:Type}{m:M α}{R R':α->Tau->(Nat->Option Blk)->Hp->Prop}(h:OKh P U m τ F s hp R)(hr:∀a τ' F' hp',Tle τ τ'->Fle F F'->R a τ' F' hp'->R' a τ' F' hp'):OKh P U m τ F s hp R':=by
 intro Q hq hs;obtain⟨a,s',h1,τ',F',hp',h2,h3,h4⟩:=h Q hq hs;exact⟨a,s',h1,τ',F',hp',h2,h3,hr _ _ _ _ h2.t h2.f h4⟩
theorem OKh.bind {α β : Type} {m : M α} {k : α → M β} {R : α → Tau → (Nat → Option Blk) → Hp → Prop} {R' : β → Tau → (Nat → Option Blk) → Hp → Prop} (h : OKh P U m τ F s hp R)
  (hk:∀a τ' F' s' hp',Ext τ F s hp τ' F' s' hp'->SD P U τ' F' s' hp'->R a τ' F' hp'->OKh P U (k a) τ' F' s' hp' R'):OKh P U (a8 m k) τ F s hp R':=by
 intro Q hq hs;unfold a8 at hq;rw[Tr.vc_bind]at hq;obtain⟨a,s1,h1,τ1,F1,hp1,h2,h3,h4⟩:=h _ hq hs;obtain⟨b,s2,h5,τ2,F2,hp2,h6,h7,h8⟩:=hk a τ1 F1 s1 hp1 h2 h3 h4 Q h1 h3;exact⟨b,s2,h5,τ2,F2,hp2,Ext.trans h2 h6,h7,h8⟩
theorem OKh.read {α:Type}{k:SS->M α}{R:α->Tau->(Nat->Option Blk)->Hp->Prop}(h:OKh P U (k s) τ F s hp R):OKh P U (m9 k) τ F s hp R:=h
theorem OKh.bindp {α β : Type} {m : M α} {k : α → M β} {R : α → Prop} {R' : β → Tau → (Nat → Option Blk) → Hp → Prop} (h : OKp U m s R)
  (hk:∀a s',Q3 s s'->SD P U τ F s' hp->R a->OKh P U (k a) τ F s' hp R'):OKh P U (a8 m k) τ F s hp R':=by
 intro Q hq hs;unfold a8 at hq;rw[Tr.vc_bind]at hq;obtain⟨a,s1,h1,h2,h3,h4⟩:=h _ hq hs.fc;have hs1:=hs.only h2 h3;obtain⟨b,s2,h5,τ2,F2,hp2,h6,h7,h8⟩:=hk a s1 h2 hs1 h4 Q h1 hs1;exact⟨b,s2,h5,τ2,F2,hp2,Ext.trans (Ext.only hs h2) h6,h7,h8⟩
theorem OKh.bindE {α β : Type} {m : M α} {k : α → M β} {R : α → Tau → (Nat → Option Blk) → Hp → Prop} {R' : β → Tau → (Nat → Option Blk) → Hp → Prop} (h : OKh P U m τ F s hp R)
  (hk:∀a τ1 F1 s1 hp1,Ext τ F s hp τ1 F1 s1 hp1->SD P U τ1 F1 s1 hp1->R a τ1 F1 hp1-> ∀Q,(k a s1).vc U Q-> ∃b s2,Q (b,s2)/\ ∃τ2 F2 hp2,Ext τ F s hp τ2 F2 s2 hp2/\SD P U τ2 F2 s2 hp2/\R' b τ2 F2 hp2):OKh P U (a8 m k) τ F s hp R':=by
 intro Q hq hs;unfold a8 at hq;rw[Tr.vc_bind]at hq;obtain⟨a,s1,h1,τ1,F1,hp1,h2,h3,h4⟩:=h _ hq hs
 grind
theorem Ext.shrink {τ τ':Tau}{F F' F2:Nat->Option Blk}{s s':SS}{hp hp' hp2:Hp}(h:Ext τ F s hp τ' F' s' hp')(hn:hp'.nx<=hp2.nx)(hm:∀i,i<hp.nx->hp2.m.get i=hp'.m.get i)(hF:∀i y,F2 i=some y->F' i=some y)(hf:Fle F F2):Ext τ F s hp τ' F2 s' hp2:=by
 obtain⟨l,a1,a2,a3,a4,a5⟩:=h.hh;exact⟨h.t,hf,bN7 h.nx hn,h.snx,h.st,h.low,⟨l,a1,fun i hi hno=>by rw[hm i hi];exact a2 i hi hno,a3,fun i y hi hy=>a4 i y hi (hF i y hy),fun hp i y hy=>a5 hp i y (hF i y hy)⟩,h.hf⟩
theorem Ext.dfr {τ τ':Tau}{F F':Nat->Option Blk}{s s':SS}{hp hp':Hp}(h:Ext τ F s hp τ' F' s' hp')(hs:SD P U τ F s hp){r:Nat}(hr:r<hp.nx){y:Blk}(hg:hp.m.get r=some y)(hy:y= .dfr\/F r=some y):hp'.m.get r=some y:=by
 rw[h.kept r hr fun b x o hb ht=>?_,hg]
 rcases hs.live b x hb with⟨i,o',y',h1,h2,h3,h4⟩| ⟨h1,_⟩
 ·rw[ht]at h1
  cases h1;rw[hg]at h2;cases h2
  rcases hy with rfl|hy
  ·cases x with
   |cells l e z=>obtain⟨cs,n,h,_⟩:=h4;cases h
   |rows L e z ph=>obtain⟨cs,n,h,_⟩:=h4;cases h
   |map L kt vt=>obtain⟨_,es,reg,h,_⟩:=h4;cases h
   |iter s p=>obtain⟨_,n,h,_⟩:=h4;cases h
  ·rw[hy]at h3;cases h3
 ·rw[ht]at h1;cases h1
def put (τ:Tau)(b:Nat)(p:Option (Nat×Nat)):Tau:=fun c=>if c=b then some p else τ c
theorem l8 (τ:Tau)(b:Nat)(p:Option (Nat×Nat)):put τ b p b=some p:=by simp[put]
theorem y7 (τ:Tau){b c:Nat}(p:Option (Nat×Nat))(h:c≠b):put τ b p c=τ c:=by simp[put,h]
theorem V0 {τ:Tau}{b:Nat}(p:Option (Nat×Nat))(h:τ b=none):Tle τ (put τ b p):=fun c q hc=>by
 by_cases e:c=b
 ·grind
 ·rw[y7 τ p e];exact hc
theorem BD.mono {τ τ':Tau}{F F':Nat->Option Blk}(ht:Tle τ τ')(hf:Fle F F'){o:Nat}{x:y4}{y:Blk}(h:BD P U τ F o x y):BD P U τ' F' o x y:=by
 cases x with
 |cells l e z=>
  obtain⟨cs,n,h1,h2,h3⟩:=h;exact⟨cs,n,h1,h2,fun j a ha=>let⟨x,k1,k2⟩:=h3 j a ha;⟨x,k1,k2.mono ht hf⟩⟩
 |rows L e z ph=>
  obtain⟨cs,n,h1,⟨h2,h3,h4,h5⟩,h6⟩:=h;exact⟨cs,n,h1,⟨h2,h3,h4,fun r k row d hr hk=>let⟨x,k1,k2⟩:=h5 r k row d hr hk;⟨x,k1,fun kd hkd=>(k2 kd hkd).mono P hf⟩⟩,h6⟩
 |map L kt vt=>
  obtain⟨h0,es,reg,h1,hr,h2,h3⟩:=h;exact⟨h0,es,reg,h1,hr,h2,fun j row e hr he=>let⟨sh,ks,d,k1,k2,k3,k4,k5⟩:=h3 j row e hr he;⟨sh,ks,d,k1,k2,k3,k4,k5.mono P hf⟩⟩
 |iter s p=>exact h
theorem bk4.mono {τ τ':Tau}{F F':Nat->Option Blk}(ht:Tle τ τ')(hf:Fle F F'){r:Nat×E×TypeId×Nat}(h:bk4 P U τ F r):bk4 P U τ' F' r:=by
 rcases h with⟨i,o,cs,n,h1,h2,h3,h4,h5,h6⟩| ⟨h1,h2⟩
 ·exact .inl ⟨i,o,cs,n,ht _ _ h1,hf _ _ h2,h3,h4,h5,fun r k row d hr hk=>let⟨x,k1,k2⟩:=h6 r k row d hr hk;⟨x,k1,fun kd hkd=>(k2 kd hkd).mono P hf⟩⟩
 ·exact .inr ⟨ht _ _ h1,h2⟩
theorem bB4 (hp:Hp)(y:Blk)(i:Nat)(h:i<hp.nx):(hp.m.set hp.nx (some y)).get i=hp.m.get i:=by
 rw[T.get_set,bJ9 (by omega)]
def ac3 (s:SS)(x:y4):SS:= {s with h:=(s.nx,some x)::s.h,nx:=s.nx+1}
theorem ae5 (s:SS)(x:y4)(b:Nat):(ac3 s x).get b=if b=s.nx then some x else s.get b:=by
 have:=SS.get_set s s.nx b (some x);exact this
def V3 (x:y4):M Nat:=fun s=>.ret (s.nx,ac3 s x)
theorem SD.alloc (hs : SD P U τ F s hp) {x : y4} {p : Option (Nat × Nat)} {hp' : Hp} (hn : hp.nx ≤ hp'.nx) (hk : ∀ i, i < hp.nx → hp'.m.get i = hp.m.get i)
  (hx:(∃i o y,p=some (i,o)/\hp.nx<=i/\i<hp'.nx/\hp'.m.get i=some y/\BD P U (put τ s.nx p) F o x y)\/(p=none/\ ∃L e z ph,x= .rows L e z ph/\L.toR U=[]/\z=(kf P e).length/\ph.toI U<=0)):
  Ext τ F s hp (put τ s.nx p) F (ac3 s x) hp'/\SD P U (put τ s.nx p) F (ac3 s x) hp':=by
 have h0:τ s.nx=none:=hs.new _ (bK2 _);have ht:=V0 (τ:=τ) p h0;refine⟨⟨ht,Fle.refl F,hn,by simp[ac3],fun b hb=>y7 τ p (by omega),fun b y hb hlt=>?_,⟨[(s.nx,some x)],rfl,fun i hi _=>hk i hi,fun b i o hb hτ=>?_,fun _ _ _ h=>.inl h,fun _ _ _ h=>h⟩,⟨[],rfl⟩⟩,?_⟩
 ·rw[ae5,bJ9 (by omega)]at hb;exact⟨y,hb⟩
 ·by_cases e:b=s.nx
  ·subst e
   rw[l8]at hτ
   grind
  ·rw[y7 τ p e,hs.new b hb]at hτ;cases hτ
 ·have old : ∀ b y, b ≠ s.nx → (ac3 s x).get b = some y → s.get b = some y := fun b y e hb => by rw [ae5, bJ9 e] at hb; exact hb
  refine⟨fun b y hb=>?_,fun b c y z i o j q hb hc hne e1 e2=>?_,fun i y hi=>by rw[hk i (hs.flt i y hi)];exact hs.frz i y hi,fun b i o hb=>?_,fun i y hi=>bN2 (hs.flt i y hi) hn,fun b hb=>?_,hs.fc,fun r hr=>(hs.fz r hr).mono ht (Fle.refl F)⟩
  ·by_cases e:b=s.nx
   ·subst e
    rw[ae5,bK1 rfl,bH9]at hb;subst hb
    rcases hx with⟨i,o,y,rfl,h1,h2,h3,h4⟩| ⟨rfl,h⟩
    ·refine .inl ⟨i,o,y,l8 _ _ _,h3,?_,h4⟩
     cases hF:F i with
     |none=>rfl
     |some b=>exact absurd (hs.flt i b hF) (by omega)
    ·exact .inr ⟨l8 _ _ _,h⟩
   ·rcases hs.live b y (old b y e hb)with⟨i,o,y',h1,h2,h3,h4⟩| ⟨h1,h2⟩
    ·exact .inl ⟨i,o,y',by rw[y7 τ p e];exact h1,by rw[hk i (hs.lt b i o h1)];exact h2,h3,h4.mono ht (Fle.refl F)⟩
    ·exact .inr ⟨by rw[y7 τ p e];exact h1,h2⟩
  ·have new : ∀ c i o, c = s.nx → put τ s.nx p c = some (some (i, o)) → hp.nx ≤ i := by
    intro c i o hc h;subst hc;rw[l8]at h
    grind
   by_cases eb:b=s.nx
   ·have h1:=new b i o eb e1
    have ec:c≠s.nx:=fun h=>hne (by rw[eb,h])
    rw[y7 τ p ec]at e2;have:=hs.lt c j q e2;omega
   ·rw[y7 τ p eb]at e1
    by_cases ec:c=s.nx
    ·have h1:=new c j q ec e2
     have:=hs.lt b i o e1;omega
    ·rw[y7 τ p ec]at e2
     exact hs.inj b c y z i o j q (old b y eb hb) (old c z ec hc) hne e1 e2
  ·by_cases e:b=s.nx
   ·subst e
    rw[l8]at hb
    grind
   ·rw[y7 τ p e]at hb;exact bN2 (hs.lt b i o hb) hn
  ·have:s.nx+1<=b:=hb
   rw[y7 τ p (by omega)];exact hs.new b (by omega)
theorem SD.change (hs : SD P U τ F s hp) {b i o : Nat} {x x' : y4} (hb : s.get b = some x) (ht : τ b = some (some (i, o))) {y : Blk} {hp' : Hp} (hn : hp'.nx = hp.nx) (hk : ∀ j, j ≠ i → hp'.m.get j = hp.m.get j) (hi : hp'.m.get i = some y) (hd : BD P U τ F o x' y) :
  Ext τ F s hp τ F (s.set b (some x')) hp'/\SD P U τ F (s.set b (some x')) hp':=by
 refine⟨⟨Tle.refl τ,Fle.refl F,by omega,bK2 _,fun _ _=>rfl,fun c y hc _=>?_,⟨[(b,some x')],rfl,fun j hj hnl=>hk j (fun e=>hnl b x o hb (by rw[e];exact ht) (by simp)),fun c j q hc h=>(by rw[hs.new c hc]at h;cases h),fun _ _ _ h=>.inl h,fun _ _ _ h=>h⟩,⟨[],rfl⟩⟩,?_⟩
 ·rw[SS.get_set]at hc
  grind
 ·have fi : F i = none := by
   rcases hs.live b x hb with⟨i',o',y',h1,_,h3,_⟩| ⟨h1,_⟩
   ·grind
   ·grind
  have liv:∀c,(∃y,(s.set b (some x')).get c=some y)-> ∃y,s.get c=some y:=by
   rintro c ⟨y,hc⟩
   rw[SS.get_set]at hc
   grind
  refine⟨fun c z hc=>?_,fun c d y z j q k r hc hd' hne e1 e2=>?_,fun j y hj=>?_,fun c j q h=>by rw[hn];exact hs.lt c j q h,fun j y h=>by rw[hn];exact hs.flt j y h,hs.new,hs.fc,hs.fz⟩
  ·rw[SS.get_set]at hc
   by_cases e:c=b
   ·grind
   ·rw[bJ9 e]at hc
    rcases hs.live c z hc with⟨j,q,y',h1,h2,h3,h4⟩|h
    ·refine .inl ⟨j,q,y',h1,?_,h3,h4⟩
     rw[hk j ?_];exact h2;intro ej;subst ej;exact hs.inj c b z x j q j o hc hb e h1 ht rfl
    ·grind
  ·obtain⟨y',hy⟩:=liv c ⟨y,hc⟩
   obtain⟨z',hz⟩:=liv d ⟨z,hd'⟩;exact hs.inj c d y' z' j q k r hy hz hne e1 e2
  ·rw[hk j (fun e=>by rw[e,fi]at hj;cases hj)];exact hs.frz j y hj
theorem SD.move (hs : SD P U τ F s hp) {b i o : Nat} {x x' : y4} (hb : s.get b = some x) (ht : τ b = some (some (i, o))) {hp' : Hp} (hn : hp.nx ≤ hp'.nx) (hk : ∀ j, j < hp.nx → j ≠ i → hp'.m.get j = hp.m.get j) {j q : Nat} (hj : j = i ∨ hp.nx ≤ j) (hj' : j < hp'.nx)
  {y:Blk} (hi:hp'.m.get j=some y) (hd:BD P U (put τ s.nx (some (j,q))) F q x' y):
  Ext τ F s hp (put τ s.nx (some (j,q))) F (ac3 (s.set b none) x') hp'/\SD P U (put τ s.nx (some (j,q))) F (ac3 (s.set b none) x') hp':=by
 have h0:τ s.nx=none:=hs.new _ (bK2 _);have hle:=V0 (τ:=τ) (some (j,q)) h0;have hlt:b<s.nx:=hs.bound hb;have hil:i<hp.nx:=hs.lt b i o ht;have fi:F i=none:=by
  rcases hs.live b x hb with⟨i',o',y',h1,_,h3,_⟩| ⟨h1,_⟩
  ·grind
  ·grind
 have fj:F j=none:=by
  rcases hj with rfl|hj
  ·exact fi
  ·cases hF:F j with
   |none=>rfl
   |some w=>exact absurd (hs.flt j w hF) (by omega)
 have gt:∀c,(ac3 (s.set b none) x').get c=if c=s.nx then some x' else if c=b then none else s.get c:=by
  intro c;rw[ae5,SS.get_set];rfl
 refine⟨⟨hle,Fle.refl F,hn,by simp[ac3,SS.set],fun c hc=>y7 τ _ (by omega),fun c y hc hlt=>?_,⟨[(s.nx,some x'),(b,none)],rfl,fun k hk' hnl=>hk k hk' (fun e=>hnl b x o hb (by rw[e];exact ht) (by simp)),fun c k r hc h=>?_,fun _ _ _ h=>.inl h,fun _ _ _ h=>h⟩,⟨[],rfl⟩⟩,?_⟩
 ·grind
 ·by_cases e:c=s.nx
  ·subst e;rw[l8]at h;simp only[bH9,bI1]at h
   grind
  ·rw[y7 τ _ e,hs.new c hc]at h;cases h
 ·have inv : ∀ c z, (ac3 (s.set b none) x').get c = some z → c ≠ s.nx → c ≠ b ∧ s.get c = some z := by
   grind
  have apart:∀c z k r,c≠b->s.get c=some z->τ c=some (some (k,r))->k≠j:=by
   intro c z k r e hc h ek;subst ek
   rcases hj with rfl|hj
   ·exact hs.inj c b z x _ r _ o hc hb e h ht rfl
   ·have:=hs.lt c _ r h;omega
  refine⟨fun c z hc=>?_,fun c d y z k r k' r' hc hd' hne e1 e2=>?_,fun k y hk'=>?_,fun c k r h=>?_,fun k y h=>bN2 (hs.flt k y h) hn,fun c hc=>?_,hs.fc,fun r hr=>(hs.fz r hr).mono hle (Fle.refl F)⟩
  ·by_cases e:c=s.nx
   ·subst e
    rw[gt,bK1 rfl,bH9]at hc;subst hc;exact .inl ⟨j,q,y,l8 _ _ _,hi,fj,hd⟩
   ·obtain⟨e',hc'⟩:=inv c z hc e
    rcases hs.live c z hc' with⟨k,r,y',h1,h2,h3,h4⟩| ⟨h1,h2⟩
    ·refine .inl ⟨k,r,y',by rw[y7 τ _ e];exact h1,?_,h3,h4.mono hle (Fle.refl F)⟩
     rw[hk k (hs.lt c k r h1) ?_];exact h2;intro ek;subst ek;exact hs.inj c b z x _ r _ o hc' hb e' h1 ht rfl
    ·exact .inr ⟨by rw[y7 τ _ e];exact h1,h2⟩
  ·by_cases ec:c=s.nx
   ·subst ec
    have ed:d≠s.nx:=fun h=>hne h.symm
    rw[l8]at e1;simp only[bH9,bI1]at e1;obtain⟨rfl,_⟩:=e1;obtain⟨e',hd''⟩:=inv d z hd' ed;rw[y7 τ _ ed]at e2
    grind
   ·obtain⟨e',hc'⟩:=inv c y hc ec
    rw[y7 τ _ ec]at e1
    by_cases ed:d=s.nx
    ·subst ed
     rw[l8]at e2;simp only[bH9,bI1]at e2
     grind
    ·obtain⟨e'',hd''⟩:=inv d z hd' ed
     rw[y7 τ _ ed]at e2;exact hs.inj c d y z k r k' r' hc' hd'' hne e1 e2
  ·rw[hk k (hs.flt k y hk') (fun e=>by rw[e,fi]at hk';cases hk')];exact hs.frz k y hk'
  ·by_cases e:c=s.nx
   ·subst e;rw[l8]at h;simp only[bH9,bI1]at h
    grind
   ·rw[y7 τ _ e]at h;exact bN2 (hs.lt c k r h) hn
  ·have:s.nx+1<=c:=hc
   rw[y7 τ _ (by omega)];exact hs.new c (by omega)
theorem SD.freeze (hs : SD P U τ F s hp) {b i o : Nat} {x : y4} (hb : s.get b = some x) (ht : τ b = some (some (i, o))) {y : Blk} (hi : hp.m.get i = some y) :
  ∃F',Fle F F'/\F' i=some y/\Ext τ F s hp τ F' (s.set b none) hp/\SD P U τ F' (s.set b none) hp:=by
 have fi:F i=none:=by
  rcases hs.live b x hb with⟨i',o',y',h1,_,h3,_⟩| ⟨h1,_⟩
  ·grind
  ·grind
 have hF:Fle F (fun j=>if j=i then some y else F j):=fun j w hj=>by
  grind
 have inv:∀c z,(s.set b none).get c=some z->c≠b/\s.get c=some z:=by
  intro c z hc;rw[SS.get_set]at hc
  grind
 refine⟨fun j=>if j=i then some y else F j,hF,by simp,⟨Tle.refl τ,hF,bK2 _,bK2 _,fun _ _=>rfl,fun c z hc _=>⟨z,(inv c z hc).2⟩,⟨[(b,none)],rfl,fun _ _ _=>rfl,fun c j q hc h=>(by rw[hs.new c hc]at h;cases h),fun j w _ hj=>?_,fun hp=>absurd rfl (hp (b,none) (by simp))⟩,⟨[],rfl⟩⟩,?_⟩
 ·grind
 refine⟨fun c z hc=>?_,fun c d y z k r k' r' hc hd' hne e1 e2=>hs.inj c d y z k r k' r' (inv c y hc).2 (inv d z hd').2 hne e1 e2,fun j w hj=>?_,hs.lt,fun j w hj=>?_,hs.new,hs.fc,fun r hr=>(hs.fz r hr).mono (Tle.refl τ) hF⟩
 ·obtain⟨e,hc'⟩:=inv c z hc
  rcases hs.live c z hc' with⟨k,r,y',h1,h2,h3,h4⟩|h
  ·refine .inl ⟨k,r,y',h1,h2,?_,h4.mono (Tle.refl τ) hF⟩
   have:k≠i:=fun ek=>by subst ek;exact hs.inj c b z x _ r _ o hc' hb e h1 ht rfl
   grind
  ·grind
 ·by_cases e:j=i
  ·grind
  ·rw[bJ9 e]at hj;exact hs.frz j w hj
 ·by_cases e:j=i
  ·subst e;exact hs.lt b _ o ht
  ·rw[bJ9 e]at hj;exact hs.flt j w hj
theorem SD.drop (hs:SD P U τ F s hp)(b:Nat):Ext τ F s hp τ F (s.set b none) hp/\SD P U τ F (s.set b none) hp:=by
 have inv:∀c z,(s.set b none).get c=some z->c≠b/\s.get c=some z:=by
  intro c z hc;rw[SS.get_set]at hc
  grind
 exact⟨⟨Tle.refl τ,Fle.refl F,bK2 _,bK2 _,fun _ _=>rfl,fun c z hc _=>⟨z,(inv c z hc).2⟩,⟨[(b,none)],rfl,fun _ _ _=>rfl,fun c j q hc h=>(by rw[hs.new c hc]at h;cases h),fun _ _ _ h=>.inl h,fun _ _ _ h=>h⟩,⟨[],rfl⟩⟩,
  fun c z hc=>hs.live c z (inv c z hc).2,fun c d y z k r k' r' hc hd' hne e1 e2=>hs.inj c d y z k r k' r' (inv c y hc).2 (inv d z hd').2 hne e1 e2,hs.frz,hs.lt,hs.flt,hs.new,hs.fc,hs.fz⟩
end
end Go.Sx
namespace Go.Sx
open Go.Xe
def isI :E->Bool
 | .int _=>true
 | .dat _ (.int _)=>true
 | .op o _=>match o with
  | .add| .sub| .mul| .tdiv| .tmod| .wrap _| .bits _ _| .shl _| .shr _| .len| .slen| .sidx| .srune| .srw| .castI=>true
  |_=>false
 |_=>false
def isB :E->Bool
 | .bool _=>true
 | .dat _ (.bool _)=>true
 | .op .lt [_,_]| .op .eqi [_,_]| .op .eqb [_,_]| .op .eqs [_,_]| .op .lts [_,_]| .op .not [_]| .op .and [_,_]| .op .or [_,_]| .op .castB [_]=>true
 |_=>false
def isS :E->Bool
 | .str _=>true
 | .dat _ (.str _)=>true
 | .op .sapp [_,_]| .op .ssub [_,_,_]| .op .castS [_]=>true
 |_=>false
def isL :E->Bool
 | .dat _ (.lst _)=>true
 | .op .nil _| .op (.rows _ _) _| .op .app [_,_]| .op (.upd _) [_,_,_]| .op .part [_,_,_]| .op .over [_,_,_]| .op .rep (_::_)| .op .castL [_]=>true
 |_=>false
def mkCI (e:E):E:=bif isI e then e else .op .castI [e]
def mkCB (e:E):E:=bif isB e then e else .op .castB [e]
def mkCS (e:E):E:=bif isS e then e else .op .castS [e]
def ad5 (e:E):E:=bif isL e then e else .op .castL [e]
section
variable {U :Nat->List Dat->Dat}
theorem bC3 {e:E}(h:isI e=true):e.den U= .int (e.toI U):=by
 cases e with
 |int n=>rfl
 |dat n d=>cases d<;>first|rfl| (simp[isI]at h)
 |op o as=>
  cases o<;>first
   | (simp[isI]at h;done)
   | (simp only[E.toI,E.den,Sy.den];split<;>rfl)
 |_=>simp[isI]at h
theorem bC2 {e:E}(h:isB e=true):e.den U= .bool (e.den U).toBool:=by
 unfold isB at h;split at h<;>first|rfl|cases h
theorem bC5 {e:E}(h:isS e=true):e.den U= .str (e.den U).toStr:=by
 unfold isS at h;split at h<;>first|rfl|cases h
theorem bC4 {e:E}(h:isL e=true):e.den U= .lst (e.toR U):=by
 unfold isL at h;split at h<;>first|rfl|cases h
theorem bu6 (e:E):(mkCI e).den U= .int (e.toI U):=by
 unfold mkCI;cases h:isI e with
 |true=>exact bC3 h
 |false=>rfl
theorem bu5 (e:E):(mkCB e).den U= .bool (e.den U).toBool:=by
 unfold mkCB;cases h:isB e with
 |true=>exact bC2 h
 |false=>rfl
theorem bu7 (e:E):(mkCS e).den U= .str (e.den U).toStr:=by
 unfold mkCS;cases h:isS e with
 |true=>exact bC5 h
 |false=>rfl
theorem am7 (e:E):(ad5 e).den U= .lst (e.toR U):=by
 unfold ad5;cases h:isL e with
 |true=>exact bC4 h
 |false=>rfl
end
section
variable (P :Program)(U:Nat->List Dat->Dat)
def aj6 (t:TypeId)(x:SV)(f:Nat):Option SV:=
 match P.underlying t with
 |some (.struct fs)=>match fs.toList[f]? with
  |some fd=>match P.info? fd.type with
   |some i=>bif Nat.beq i.size 0 then none else
    match x with
    | .ptr b z row fld=>some (.ptr b z row (fld+fd.offset))
    | .pptr e L row fld=>some (.pptr e L row (fld+fd.offset))
    |_=>none
   |none=>none
  |none=>none
 |_=>none
def aj7 (t:TypeId)(x ix:SV):M SV:=
 match ix with
 | .int _ n=>match P.underlying t with
  |some (.slice e)=>match P.info? e with
   |some ie=>match x with
    | .sl b z off len _=>bif Nat.beq z ie.size then a8 (j7 U (u5 (v6 n (.int 0)))) fun _=>a8 (j7 U (v6 n len)) fun _=>c8 (.ptr b z (t9 off n) 0)else a7 "index: size"
    | .lst e' L _=>bif Nat.beq (kf P e').length ie.size then a8 (j7 U (u5 (v6 n (.int 0)))) fun _=>a8 (j7 U (v6 n (y6 L))) fun _=>c8 (.pptr e' L n 0)else a7 "index: size"
    |_=>a7 "index: no slice"
   |none=>a7 "index: type"
  |some (.array len e)=>match P.info? e with
   |some ie=>match x with
    | .ptr b z row fld=>match n with
     | .int m=>bif decide (0<=m)&&decide (m<len)then c8 (.ptr b z row (fld+m.toNat*ie.size))else a7 "index: array"
     |n=>match row with
      | .int r=>bif decide (0<=r)then a8 (j7 U (u5 (v6 n (.int 0)))) fun _=>a8 (j7 U (v6 n (.int len))) fun _=>c8 (.ptr b ie.size n (r.toNat*z+fld))else a7 "index: array"
      |_=>a7 "index: array"
    | .pptr e' L row fld=>match n with
     | .int m=>bif decide (0<=m)&&decide (m<len)then c8 (.pptr e' L row (fld+m.toNat*ie.size))else a7 "index: array"
     |_=>a7 "index: array"
    |_=>a7 "index: array"
   |none=>a7 "index: type"
  |_=>a7 "index: type"
 |_=>a7 "index: no int"
def ldk (t : TypeId) : Option (Bool × Nat) :=
 match P.underlying t with
 | some d => bif ap6 d then
   match P.info? t with
   |some ti=>some (true,ti.size)
   |none=>none
  else some (false,1)
 |none=>none
def bu9 (ag:Bool)(l:List SV):Option SV:=bif ag then some (.agg l)else l.head?
def aI1 (k:Kd)(c:E):Option SV:=
 match k with
 | .int k=>some (.int k c)
 | .bool=>some (.bool c)
 | .str=>some (.str c)
 | .sl e=>some (.lst e c false)
 | .bad=>none
def ad2 (ks:List Kd)(L row:E):Nat->Nat->Option (List SV)
 |_,0=>some []
 |j,n+1=>match ks[j]? with
  |some k=>match aI1 k (aS3 j L row)with
   |some a=>match ad2 ks L row (j+1) n with
    |some l=>some (a::l)
    |none=>none
   |none=>none
  |none=>none
def aG6 (k:Kd)(a:SV):Option E:=
 match k,a with
 | .int k,.int k' e=>bif decide (k=k')then some (mkCI e)else none
 | .bool,.bool e=>some (mkCB e)
 | .str,.str e=>some (mkCS e)
 | .sl _,.nils=>some (.op .nil [])
 | .sl e,.lst e' L _=>bif Nat.beq e e' then some (ad5 L)else none
 |_,_=>none
def bp8 (ks:List Kd):Nat->List SV->Option (List E)
 |_,[]=>some []
 |j,a::l=>match ks[j % ks.length]? with
  |some k=>match aG6 k a with
   |some e=>match bp8 ks (j+1) l with
    |some es=>some (e::es)
    |none=>none
   |none=>none
  |none=>none
def aC2 (e:TypeId)(z:Nat)(l:List SV):Option E:=
 bif Nat.ble 1 z&&Nat.beq z (kf P e).length&&Nat.beq (l.length/z*z) l.length then
  match bp8 (kf P e) 0 l with
  |some es=>some (.op (.rows (l.length/z) z) es)
  |none=>none
 else none
def Q1 (ag:Bool)(n:Nat)(e:TypeId)(L row:E)(fld:Nat):Option SV:=
 match ad2 (kf P e) L row fld n with
 |some l=>bu9 ag l
 |none=>none
def aI2 (k:IntKind):List SV->Option (List E)
 | []=>some []
 | .int k' e::l=>bif decide (k=k')then match aI2 k l with
  |some es=>some (e::es)
  |none=>none else none
 |_=>none
def by3 (l:List SV)(row:E):M SV:=match l with
 | .int k e::l'=>match aI2 k (.int k e::l')with
  |some es=>a8 (j7 U (v6 row (.int es.length))) fun _=>c8 (.int k (aS3 0 (.op (.rows es.length 1) es) row))
  |none=>a7 "load: rows"
 |_=>a7 "load: rows"
def bj4 (t:TypeId)(a:SV):M SV:=
 match ldk P t with
 |none=>a7 "load: type"
 |some (ag,n)=>match a with
  | .ptr b z row fld=>m9 fun s=>match s.get b with
   |some (.cells l e _)=>match row with
    | .int r=>bif decide (0<=r)&&Nat.ble (r.toNat*z+fld+n) l.length then ah2 "load" (bu9 ag ((l.drop (r.toNat*z+fld)).take n))else a7 "load: beyond"
    |row=>match aC2 P e z l with
     |some L=>bif Nat.ble (fld+n) z then a8 (j7 U (v6 row (y6 L))) fun _=>ah2 "load" (Q1 P ag n e L row fld)else a7 "load: beyond"
     |none=>bif !ag&&Nat.beq z 1&&Nat.beq n 1 then by3 U (l.drop fld) row else a7 "load: rows"
   |some (.rows L e z' _)=>bif Nat.beq z z'&&Nat.ble (fld+n) z then a8 (j7 U (v6 row (y6 L))) fun _=>ah2 "load" (Q1 P ag n e L row fld)else a7 "load: beyond"
   |some (.map _ _ _)=>a7 "load: no block"
   |some (.iter _ _)=>a7 "load: no block"
   |none=>match lk s.fz b with
    |some (L,e,z')=>bif Nat.beq z z'&&Nat.ble (fld+n) z then a8 (j7 U (v6 row (y6 L))) fun _=>ah2 "load" (Q1 P ag n e L row fld)else a7 "load: beyond"
    |none=>a7 "load: no block"
  | .pptr e L row fld=>bif Nat.ble (fld+n) (kf P e).length then ah2 "load" (Q1 P ag n e L row fld)else a7 "load: beyond"
  |_=>a7 "load: no address"
end
section
variable {P :Program}{U:Nat->List Dat->Dat}{τ:Tau}{F:Nat->Option Blk}{s:SS}{hp:Hp}
theorem VD.ptr' {b z fld i o a:Nat}{row:E}(h:τ b=some (some (i,o)))(h0:0<=row.toI U)(e:a=o+row.toN U*z+fld):VD P U τ F (.ptr b z row fld) (.pointer (some ⟨i,a,none⟩)):=by
 subst e;exact .ptr b z row fld i o h h0
theorem VD.pptr' {t : TypeId} {L row : E} {fld i o l c a : Nat} (h : PV P F (.sl t) (.slice (some ⟨i, o, none⟩) l c) (.lst (L.toR U))) (h0 : 0 ≤ row.toI U) (h1 : row.toI U < (L.toR U).length) (e : a = o + row.toN U * (kf P t).length + fld) :
  VD P U τ F (.pptr t L row fld) (.pointer (some ⟨i,a,none⟩)):=by
 subst e;exact .pptr t L row fld i o l c h h0 h1
theorem aG2 {t:TypeId}{a b:SV}{v:Value}{f:Nat}(ha:VD P U τ F a v)(e:aj6 P t a f=some b):∃w,J6 P t v f=some w/\VD P U τ F b w:=by
 unfold aj6 at e;unfold J6;split at e
 ·rename_i fs hfs
  split at e
  ·rename_i fd hfd
   split at e
   ·rename_i i hi
    cases hz:Nat.beq i.size 0 with
    |true=>grind
    |false=>
     simp only[hz,bJ7]at e;split at e
     ·rename_i b z row fld
      simp only[bH9]at e;subst e;cases ha with
      |ptr _ _ _ _ i' o h h0=>exact⟨.pointer (some ⟨i',o+row.toN U*z+fld+fd.offset,none⟩),by simp only[hfs,hfd,hi,hz,bJ7],VD.ptr' h h0 (by omega)⟩
     ·rename_i t L row fld
      simp only[bH9]at e;subst e;cases ha with
      |pptr _ _ _ _ i' o l c h h0 h1=>exact⟨.pointer (some ⟨i',o+row.toN U*(kf P t).length+fld+fd.offset,none⟩),by simp only[hfs,hfd,hi,hz,bJ7],VD.pptr' h h0 h1 (by omega)⟩
     ·cases e
   ·cases e
  ·cases e
 ·cases e
theorem A5 {a b:E}(h:(v6 a b).pr U):a.toI U<b.toI U:=by
 rw[E.pr_iff,C8,bK0]at h;exact h
theorem w9 {a b:E}(h:(u5 (v6 a b)).pr U):b.toI U<=a.toI U:=by
 rw[E.pr_iff,C6,C8,bM5,bM7]at h;exact Int.not_lt.1 h
theorem af7 {a b:E}(h:(E5 a b).pr U):a.toI U=b.toI U:=by
 rw[E.pr_iff,F8,bK0]at h;exact h
theorem PV.len {t:TypeId}{a:Option Addr}{l c:Nat}{d:Dat}(h:PV P F (.sl t) (.slice a l c) d):l=d.rows.length:=by
 cases h<;>rfl
theorem aG3 {t : TypeId} {a ix : SV} {v w : Value} (ha : VD P U τ F a v) (hi : VD P U τ F ix w) : OKp U (aj7 P U t a ix) s fun b => ∃ u, B9 P t v w = some u ∧ VD P U τ F b u := by
 unfold aj7;split
 ·rename_i k n
  cases hi;split
  ·rename_i e he
   split
   ·rename_i ie hie
    split
    ·rename_i b z off len cap
     cases hz:Nat.beq z ie.size with
     |false=>exact OKp.fail
     | true =>
      simp only[bJ6];refine OKp.need.bind fun _ s1 _ _ h1=>OKp.need.bind fun _ s2 _ _ h2=>OKp.ret ?_
      have h1:=P4 h1;have h2:=A5 h2;have hz':z=ie.size:=bI4 hz;cases ha with
      | sl _ _ _ _ _ i o c h h0 h0' hc =>
       refine⟨.pointer (some ⟨i,o+off.toN U*z+n.toN U*ie.size,none⟩),?_,VD.ptr' h (by rw[f8];omega) ?_⟩
       ·simp only[B9,he,hie]
        grind
       ·have : (t9 off n).toN U = off.toN U + n.toN U := by
         show((t9 off n).toI U).toNat=(off.toI U).toNat+(n.toI U).toNat;rw[f8];omega
        grind
      |sl0 _ _ _ _ _ h h0 h0' hc=>omega
    ·rename_i e' L clip
     cases hz:Nat.beq (kf P e').length ie.size with
     |false=>exact OKp.fail
     |true=>
      simp only[bJ6];refine OKp.need.bind fun _ s1 _ _ h1=>OKp.need.bind fun _ s2 _ _ h2=>OKp.ret ?_
      have h1:=P4 h1;have h2:=A5 h2;rw[d9]at h2;have hz':(kf P e').length=ie.size:=bI4 hz;cases ha with
      |lst _ _ _ _ h hc=>
       have hl:∃i o l c,v= .slice (some ⟨i,o,none⟩) l c:=by
        cases hv:L.toR U with
        |nil=>grind
        |cons r rs=>
         rw[hv]at h;cases h with
         |sl _ i o c b cs n z rows x hF hb hc' hn hz'' hr hx hp=>grind
       obtain⟨i,o,l,c,rfl⟩:=hl;have hlen:=h.len;refine⟨.pointer (some ⟨i,o+n.toN U*ie.size,none⟩),?_,VD.pptr' h h1 h2 (by rw[hz'];omega)⟩
       simp only[B9,he,hie];rw[show(decide (0<=n.toI U)&&decide (n.toI U<(l:Int)))=true by
        simp only[bI0,bK0];have:(l:Int)=((L.toR U).length:Int):=by rw[hlen];rfl
        omega]
       rfl
    ·exact OKp.fail
   ·exact OKp.fail
  ·rename_i len e he
   split
   ·rename_i ie hie
    split
    ·rename_i b z row fld
     cases ha with
     |ptr _ _ _ _ i o h h0=>
      split
      ·rename_i m
       cases hb:decide (0<=m)&&decide (m<(len:Int))with
       |false=>exact OKp.fail
       |true=>
        simp only[bJ6];refine OKp.ret ⟨.pointer (some ⟨i,o+row.toN U*z+fld+m.toNat*ie.size,none⟩),?_,VD.ptr' h h0 (by omega)⟩
        simp only[B9,he,hie];rw[show(decide (0<=(E.int m).toI U)&&decide ((E.int m).toI U<(len:Int)))=true from hb];rfl
      ·split
       ·rename_i r
        cases hr:decide (0<=r)with
        |false=>exact OKp.fail
        |true=>
         simp only[bJ6];refine OKp.need.bind fun _ s1 _ _ h1=>OKp.need.bind fun _ s2 _ _ h2=>OKp.ret ?_
         have h1:=P4 h1;have h2:=A5 h2;simp only[z8]at h2;refine⟨.pointer (some ⟨i,o+r.toNat*z+fld+n.toN U*ie.size,none⟩),?_,VD.ptr' h h1 (by omega)⟩
         simp only[B9,he,hie];rw[show(decide (0<=n.toI U)&&decide (n.toI U<(len:Int)))=true by simp only[bI0,bK0];omega]
         rfl
       ·exact OKp.fail
    ·rename_i e' L row fld
     cases ha with
     |pptr _ _ _ _ i o l c h h0 h1=>
      split
      ·rename_i m
       cases hb:decide (0<=m)&&decide (m<(len:Int))with
       |false=>exact OKp.fail
       |true=>
        simp only[bJ6];refine OKp.ret ⟨.pointer (some ⟨i,o+row.toN U*(kf P e').length+fld+m.toNat*ie.size,none⟩),?_,VD.pptr' h h0 h1 (by omega)⟩
        simp only[B9,he,hie];rw[show(decide (0<=(E.int m).toI U)&&decide ((E.int m).toI U<(len:Int)))=true from hb];rfl
      ·exact OKp.fail
    ·exact OKp.fail
   ·exact OKp.fail
  ·exact OKp.fail
 ·exact OKp.fail
theorem bu0 {t : TypeId} {ag : Bool} {n : Nat} (h : ldk P t = some (ag, n)) {i o k z : Nat} {y : Blk} {c : T Value} (hg : hp.m.get i = some y) (hr : rdC y = some (c, k, z)) (hk : o + n ≤ k) {vs : List Value} (hl : n9 c o n = some vs) :
  ∃v,O3 P hp t (.pointer (some ⟨i,o,none⟩))=some v/\((ag=true/\v= .agg vs.toArray)\/(ag=false/\vs=[v])):=by
 unfold ldk at h;split at h
 ·rename_i d hd
  cases ha:ap6 d with
  |true=>
   simp only[ha,bJ6]at h;split at h
   ·rename_i ti hti
    simp only[bH9,bI1]at h;obtain⟨rfl,rfl⟩:=h;refine⟨.agg vs.toArray,?_,.inl ⟨rfl,rfl⟩⟩;simp only[O3,hg,hr,hd,ha,bJ6,hti,bI6 hk,hl]
   ·cases h
  |false=>
   simp only[ha,bJ7,bH9,bI1]at h;obtain⟨rfl,rfl⟩:=h;simp only[n9]at hl;cases hv:c.get o with
   |none=>simp[hv]at hl
   |some v=>
    simp only[hv,bH9]at hl;refine⟨v,?_,.inr ⟨rfl,hl.symm⟩⟩;simp only[O3,hg,hr,hd,ha,bJ7,bI6 hk,bJ6,hv]
 ·cases h
theorem C7 {c : T Value} {R : Nat → Value → Prop} : ∀ (n o j : Nat), (∀ k, k < n → ∃ x, c.get (o + k) = some x ∧ R (j + k) x) → ∃ vs, n9 c o n = some vs ∧ vs.length = n ∧ ∀ k x, vs[k]? = some x → R (j + k) x
 |0,o,j,_=>⟨[],rfl,rfl,fun k x h=>by simp at h⟩
 | n + 1, o, j, h => by
  obtain⟨x,h1,h2⟩:=h 0 (by omega)
  obtain ⟨vs, h3, h4, h5⟩ := C7 n (o + 1) (j + 1) fun k hk => by
   obtain⟨x,k1,k2⟩:=h (k+1) (by omega)
   exact ⟨x, by rw [← k1]; congr 1; omega, by have : j + 1 + k = j + (k + 1) := by omega
                                              rw[this];exact k2⟩
  refine⟨x::vs,by simp only[n9];rw[show c.get o=some x from h1,h3],by simp[h4],fun k y hy=>?_⟩
  grind
theorem aj2 {t : TypeId} {ag : Bool} {n : Nat} (h : ldk P t = some (ag, n)) {i o k z : Nat} {y : Blk} {c : T Value} (hg : hp.m.get i = some y) (hrd : rdC y = some (c, k, z)) (hk : o + n ≤ k) {l : List SV} (hl : l.length = n)
  (hc:∀(j:Nat) a,l[j]? =some a-> ∃x,c.get (o+j)=some x/\VD P U τ F a x) {a:SV} (ha:bu9 ag l=some a):∃v,O3 P hp t (.pointer (some ⟨i,o,none⟩))=some v/\VD P U τ F a v:=by
 obtain⟨vs,h1,h2,h3⟩:=C7 (c:=c) (R:=fun j x=>∀a,l[j]? =some a->VD P U τ F a x) n o 0 fun j hj=>by
  have:l[j]? =some l[j]:=by simp[hl,hj]
  obtain⟨x,k1,k2⟩:=hc j _ this;exact⟨x,k1,fun a ha=>by rw[bL1,this]at ha;cases ha;exact k2⟩
 obtain⟨v,h4,h5⟩:=bu0 h hg hrd hk h1;refine⟨v,h4,?_⟩;have hv:VDL P U τ F l vs:=⟨by rw[hl,h2],fun j a x hj hx=>h3 j x hx a (by rw[bL1];exact hj)⟩
 rcases h5 with⟨rfl,rfl⟩| ⟨rfl,rfl⟩
 ·simp only[bu9,bJ6,bH9]at ha;subst ha;exact hv.agg
 ·simp only[bu9,bJ7]at ha
  cases l with
  |nil=>simp at ha
  |cons b l=>simp at ha;subst ha;exact hv.2 0 _ _ rfl rfl
theorem am3 {k : Kd} {e : E} {a : SV} {x : Value} (hp : PV P F k x (e.den U)) (h : aI1 k e = some a) : VD P U τ F a x := by
 unfold aI1 at h;generalize hd:e.den U=d at hp;cases hp<;>simp only[bH9]at h<;>subst h
 ·exact VD.int' (by show(e.den U).toInt=_;rw[hd];rfl)
 ·exact VD.bool' (by rw[hd];rfl)
 ·exact VD.str' (by rw[hd];rfl)
 ·exact .lst _ e false _ (by have : e.toR U = [] := by { show (e.den U).rows = _; rw [hd]; rfl }
                             rw[this];exact .nils _) (fun h=>by cases h)
 ·exact .lst _ e false _ (by have : e.toR U = [] := by { show (e.den U).rows = _; rw [hd]; rfl }
                             rw[this];exact .vague _) (fun h=>by cases h)
 ·rename_i i o c b cs n z zb rows x hF hb hc hn hz hr hx hpx
  exact .lst _ e false _ (by have : e.toR U = rows := by { show (e.den U).rows = _; rw [hd]; rfl }
                             rw[this];exact .sl _ i o c b cs n z rows x hF hb hc hn hz hr hx hpx) (fun h=>by cases h)
theorem am2 {ks:List Kd}{L row:E}:∀ {n j:Nat} {l:List SV},ad2 ks L row j n=some l->l.length=n/\ ∀(q:Nat) a,l[q]? =some a-> ∃k,ks[j+q]? =some k/\aI1 k (aS3 (j+q) L row)=some a
 |0,j,l,h=>by simp only[ad2,bH9]at h;subst h;exact⟨rfl,fun q a h=>by simp at h⟩
 |n+1,j,l,h=>by
  simp only[ad2]at h;split at h
  ·rename_i k hk
   split at h
   ·rename_i a ha
    split at h
    ·rename_i l' hl'
     simp only[bH9]at h;subst h;obtain⟨h1,h2⟩:=am2 hl'
     grind
    ·cases h
   ·cases h
  ·cases h
theorem ba0 {rows:Rows}{r:Int}{row:List Dat}{k:Nat}{d:Dat}(h1:rows[r.toNat]? =some row)(h2:row[k]? =some d):A9 rows r k=d:=by
 unfold A9
 grind
theorem Y8 {t : TypeId} {ag : Bool} {n : Nat} (h : ldk P t = some (ag, n)) {i o k e z z' : Nat} {y : Blk} {cs : T Value} (hg : hp.m.get i = some y) (hrd : rdC y = some (cs, k, z')) {L row : E} (hr : y9 P F e z o k cs (L.toR U)) (h0 : 0 ≤ row.toI U) (h1 : row.toI U < (L.toR U).length) {fld : Nat} (hf : fld + n ≤ z)
  {a:SV} (ha:Q1 P ag n e L row fld=some a):∃v,O3 P hp t (.pointer (some ⟨i,o+row.toN U*z+fld,none⟩))=some v/\VD P U τ F a v:=by
 unfold Q1 at ha;split at ha
 ·rename_i l hl
  obtain⟨hl1,hl2⟩:=am2 hl;obtain⟨g1,g2,g3,g4⟩:=hr;have hrn:row.toN U<(L.toR U).length:=by
   show(row.toI U).toNat<_;omega
  have hrow:(L.toR U)[row.toN U]? =some (L.toR U)[row.toN U]:=by simp[hrn]
  have hlen:(L.toR U)[row.toN U].length=z:=g3 _ (List.getElem_mem hrn);refine aj2 h hg hrd ?_ hl1 (fun j b hb=>?_) ha
  ·have:row.toN U*z+z<=(L.toR U).length*z:=by rw[<-bO6];exact bJ2 z hrn
   omega
  ·obtain⟨kd,h3,h4⟩:=hl2 j b hb
   have hj:j<n:=by have:=(bI2.1 hb).1;omega
   have hk:(L.toR U)[row.toN U][fld+j]? =some ((L.toR U)[row.toN U][fld+j]'(by omega)):=by simp[hlen,show fld+j<z by omega]
   obtain⟨x,k1,k2⟩:=g4 _ _ _ _ hrow hk;refine⟨x,by rw[<-k1];congr 1;omega,am3 ?_ h4⟩
   rw[aA3,ba0 hrow hk];exact k2 kd h3
 ·cases ha
theorem U3 {k:Kd}{a:SV}{v:Value}(ha:VD P U τ F a v){e:E}(h:aG6 k a=some e):PV P F k v (e.den U):=by
 unfold aG6 at h;split at h
 ·rename_i k k' x
  by_cases hk:k=k'
  ·subst hk
   simp only[bN6,bJ6,bH9]at h;subst h;cases ha;rw[bu6];exact .int k _
  ·grind
 ·simp only[bH9]at h;subst h;cases ha;rw[bu5];exact .bool _
 ·simp only[bH9]at h;subst h;cases ha;rw[bu7];exact .str _
 ·simp only[bH9]at h;subst h;cases ha;exact .nils _
 ·rename_i e' e'' L c
  cases hb:Nat.beq e' e'' with
  |false=>grind
  |true=>
   simp only[hb,bJ6,bH9]at h;subst h;have:=bI4 hb;subst this;cases ha with
   |lst _ _ _ _ h hc=>rw[am7];exact h
 ·cases h
theorem aq0 {z:Nat}:∀ {n:Nat} {l:List Dat} {r:Nat} {row:List Dat},(chunk z n l)[r]? =some row->row=(l.drop (r*z)).take z
 |0,l,r,row,h=>by simp[chunk]at h
 |n+1,l,0,row,h=>by simp[chunk]at h;simp[h]
 |n+1,l,r+1,row,h=>by
  simp only[chunk,bJ0]at h;rw[aq0 h,List.drop_drop]
  grind
theorem V2 {e z o n : Nat} {cs : T Value} {es : List E} {N : Nat} (hz : z = (kf P e).length) (hN : es.length = N * z) (hn : o + es.length ≤ n)
  (hc:∀(j:Nat) d,es[j]? =some d-> ∃x,cs.get (o+j)=some x/\ ∀kd,(kf P e)[j % z]? =some kd->PV P F kd x (d.den U)):y9 P F e z o n cs ((E.op (.rows N z) es).toR U):=by
 have hL:(E.op (.rows N z) es).toR U=chunk z N (es.map (E.den U)):=by
  show(Dat.lst (chunk z N (E.dens U es))).rows=_;rw[E.dens_eq];rfl
 rw[hL];have hlen:∀r row,(chunk z N (es.map (E.den U)))[r]? =some row->r<N/\row.length=z:=by
  intro r row h;have h1:=(bI2.1 h).1;rw[H4]at h1;refine⟨h1,?_⟩;rw[aq0 h];simp only[bL4,bN1,bJ8,hN];have:r*z+z<=N*z:=by rw[<-bO6];exact bJ2 z h1
  omega
 refine⟨by rw[H4];omega,hz,fun row hrow=>?_,fun r k row d hr hk=>?_⟩
 ·obtain⟨r,hr⟩:=bT0 hrow
  exact(hlen r row hr).2
 ·obtain⟨h1,h2⟩:=hlen r row hr
  have hkz:k<z:=by have:=(bI2.1 hk).1;omega
  rw[aq0 hr,bL2,bK1 hkz,bL8,bM9]at hk;cases he:es[r*z+k]? with
  |none=>simp[he]at hk
  |some x=>
   simp only[he,bM4,bH9]at hk;obtain⟨y,k1,k2⟩:=hc _ _ he;refine⟨y,by rw[<-k1];congr 1;omega,fun kd hkd=>?_⟩
   rw[<-hk];exact k2 kd (by rw[show(r*z+k) % z=k by rw[Nat.mul_comm,Nat.mul_add_mod];exact bS3 hkz];exact hkd)
theorem aD6 {ks:List Kd}:∀ {l:List SV} {j:Nat} {es:List E},bp8 ks j l=some es->es.length=l.length/\ ∀(q:Nat) a e,l[q]? =some a->es[q]? =some e-> ∃k,ks[(j+q) % ks.length]? =some k/\aG6 k a=some e
 | [],j,es,h=>by simp only[bp8,bH9]at h;subst h;exact⟨rfl,fun q a e h=>by simp at h⟩
 |a::l,j,es,h=>by
  simp only[bp8]at h;split at h
  ·rename_i k hk
   split at h
   ·rename_i e he
    split at h
    ·rename_i es' hes
     simp only[bH9]at h;subst h;obtain⟨h1,h2⟩:=aD6 hes
     grind
    ·cases h
   ·cases h
  ·cases h
theorem ar3 {e z o n:Nat}{cs:T Value}{l:List SV}{L:E}(h:aC2 P e z l=some L)(hn:o+l.length<=n)(hc:∀(j:Nat) a,l[j]? =some a-> ∃x,cs.get (o+j)=some x/\VD P U τ F a x):y9 P F e z o n cs (L.toR U):=by
 unfold aC2 at h;cases hb:Nat.ble 1 z&&Nat.beq z (kf P e).length&&Nat.beq (l.length/z*z) l.length with
 |false=>grind
 |true=>
  rw[hb,bJ6]at h;simp only[bI0,bL9,bN3]at hb;obtain⟨⟨h1,h2⟩,h3⟩:=hb;split at h
  ·rename_i es hes
   simp only[bH9]at h;subst h;obtain⟨h4,h5⟩:=aD6 hes;refine V2 h2 (by rw[h4,h3]) (by rw[h4];exact hn) fun j d hd=>?_
   have hj:j<l.length:=by grind
   have ha:l[j]? =some l[j]:=by simp[hj]
   obtain⟨x,k1,k2⟩:=hc j _ ha;obtain⟨k,k3,k4⟩:=h5 j _ d ha hd;refine⟨x,k1,fun kd hkd=>?_⟩
   rw[bL1,<-h2,hkd,bH9]at k3;subst k3;exact U3 k2 k4
  ·cases h
theorem aq2 {k:IntKind}:∀ {l:List SV} {es:List E},aI2 k l=some es->es.length=l.length/\ ∀(j:Nat) e,es[j]? =some e->l[j]? =some (.int k e)
 | [],es,h=>by simp only[aI2,bH9]at h;subst h;exact⟨rfl,fun j e h=>by simp at h⟩
 |a::l,es,h=>by
  unfold aI2 at h;split at h
  ·grind
  ·rename_i k' e l' heq
   cases heq;cases hk:decide (k=k')with
   |false=>grind
   |true=>
    rw[hk,bJ6]at h;rw[bK0]at hk;subst hk;split at h
    ·rename_i es' hes
     cases h;obtain⟨h1,h2⟩:=aq2 hes
     grind
    ·cases h
  ·cases h
theorem U7 :∀(ds:List Dat) (n:Nat),(chunk 1 ds.length ds)[n]? =(ds[n]?).map fun d=>[d]
 | [],n=>by simp[chunk]
 |d::ds,0=>by simp[chunk]
 |d::ds,n+1=>by simp[chunk,U7 ds n]
theorem aW3 {t:TypeId}{a:SV}{v:Value}(ha:VD P U τ F a v)(hs:SD P U τ F s hp):OKp U (bj4 P U t a) s fun b=>∃u,O3 P hp t v=some u/\VD P U τ F b u:=by
 unfold bj4;split
 ·exact OKp.fail
 ·rename_i ag n hld
  split
  ·rename_i b z row fld
   refine OKp.read ?_;split
   ·rename_i l e z' hb
    rcases hs.live b _ hb with⟨i,o,y,h1,h2,_,cs,k,rfl,h4,h5⟩| ⟨h1,L',e',z'',ph,h2,_⟩
    ·cases ha with
     |ptr _ _ _ _ i' o' h h0=>
      rw[h1]at h;simp only[bH9,bI1]at h;obtain⟨rfl,rfl⟩:=h;split
      ·rename_i r
       cases hq:decide (0<=r)&&Nat.ble (r.toNat*z+fld+n) l.length with
       |false=>exact OKp.fail
       |true=>
        simp only[bJ6];simp only[bI0,bK0,bN3]at hq;refine OKp.opt fun c hc=>?_
        refine aj2 hld h2 rfl (o:=o+(E.int r).toN U*z+fld) ?_ (l:=(l.drop (r.toNat*z+fld)).take n) ?_ (fun j b hb=>?_) hc
        ·show o+r.toNat*z+fld+n<=k;omega
        ·grind
        ·rw[bL2]at hb
         split at hb
         ·rw[bL8]at hb
          obtain⟨x,k1,k2⟩:=h5 _ _ hb;exact⟨x,by rw[<-k1];congr 1;show o+r.toNat*z+fld+j=_;omega,k2⟩
         ·cases hb
      ·split
       ·rename_i L hL
        cases hq:Nat.ble (fld+n) z with
        |false=>exact OKp.fail
        |true=>
         simp only[bJ6];refine OKp.need.bind fun _ s1 _ _ hlt=>OKp.opt fun c hc=>?_
         have hlt:=A5 hlt;rw[d9]at hlt;exact Y8 hld h2 rfl (ar3 hL h4 h5) h0 hlt (bI3 hq) hc
       ·cases hq: !ag&&Nat.beq z 1&&Nat.beq n 1 with
        |false=>exact OKp.fail
        |true=>
         rw[bJ6];simp only[bI0,bL9,bM5]at hq;obtain⟨⟨rfl,rfl⟩,rfl⟩:=hq;unfold by3;split
         ·rename_i k0 e0 l' hl0
          split
          ·rename_i es hes
           obtain⟨q1,q2⟩:=aq2 hes;refine OKp.need.bind fun _ s1 _ _ hlt=>OKp.ret ?_
           have hlt:=A5 hlt;simp only[z8]at hlt;have hr:row.toN U<es.length:=by grind
           have hel:=q2 (row.toN U) _ (bJ1 hr);rw[<-hl0,bL8]at hel;obtain⟨x,k1,k2⟩:=h5 _ _ hel;refine aj2 (l:=[.int k0 (aS3 0 (.op (.rows es.length 1) es) row)]) hld h2 rfl (o:=o+row.toN U*1+fld) ?_ rfl (fun j a ha=>?_) rfl
           ·grind
           ·cases j with
            |succ j=>simp at ha
            |zero=>
             simp only[bJ5,bH9]at ha;subst ha;refine⟨x,by rw[<-k1];congr 1;omega,?_⟩
             cases k2;refine VD.int' ?_;show((aS3 0 (.op (.rows es.length 1) es) row).den U).toInt=_;rw[aA3];show(A9 (chunk 1 es.length (E.dens U es)) (row.toI U) 0).toInt=_;unfold A9;have hl9:es.length=(E.dens U es).length:=by rw[E.dens_eq,bJ8]
             rw[hl9,bL0 (l:=chunk _ _ _),U7,E.dens_eq,bM9,bJ1 hr];rfl
          ·exact OKp.fail
         ·exact OKp.fail
    ·cases h2
   ·rename_i L e z' ph hb
    cases hq:Nat.beq z z'&&Nat.ble (fld+n) z with
    |false=>exact OKp.fail
    |true=>
     simp only[bJ6];simp only[bI0,bL9,bN3]at hq;obtain⟨rfl,hq⟩:=hq;refine OKp.need.bind fun _ s1 _ _ hlt=>OKp.opt fun c hc=>?_
     have hlt:=A5 hlt;rw[d9]at hlt
     rcases hs.live b _ hb with⟨i,o,y,h1,h2,_,cs,k,rfl,h4,h5⟩| ⟨h1,L',e',z'',ph',h2,h3,_⟩
     ·cases ha with
      |ptr _ _ _ _ i' o' h h0=>
       rw[h1]at h;simp only[bH9,bI1]at h;obtain⟨rfl,rfl⟩:=h;exact Y8 hld h2 rfl h4 h0 hlt hq hc
     ·cases ha with
      |ptr _ _ _ _ i' o' h h0=>grind
   ·exact OKp.fail
   ·exact OKp.fail
   ·split
    ·rename_i L e z' hb
     cases hq:Nat.beq z z'&&Nat.ble (fld+n) z with
     |false=>exact OKp.fail
     |true=>
      simp only[bJ6];simp only[bI0,bL9,bN3]at hq;obtain⟨rfl,hq⟩:=hq;refine OKp.need.bind fun _ s1 _ _ hlt=>OKp.opt fun c hc=>?_
      have hlt:=A5 hlt;rw[d9]at hlt
      rcases hs.fz _ (Q9 hb)with⟨i,o,cs,k,h1,h2,h4⟩| ⟨h1,h2⟩
      ·cases ha with
       |ptr _ _ _ _ i' o' h h0=>
        rw[h1]at h;simp only[bH9,bI1]at h;obtain⟨rfl,rfl⟩:=h;exact Y8 hld (hs.frz _ _ h2) rfl h4 h0 hlt hq hc
      ·cases ha with
       |ptr _ _ _ _ i' o' h h0=>grind
    ·exact OKp.fail
  ·rename_i e L row fld
   cases hq:Nat.ble (fld+n) (kf P e).length with
   |false=>exact OKp.fail
   |true=>
    simp only[bJ6];refine OKp.opt fun c hc=>?_
    cases ha with
    |pptr _ _ _ _ i o l c' h h0 h1=>
     generalize hrows:L.toR U=rows at h h1;cases h with
     |sl _ _ _ _ y cs k z rows x hF hb hc' hn hz hr hx hpx=>
      have hg:hp.m.get i=some y:=hs.frz _ _ hF;have hra:y9 P F e z o k cs (L.toR U):=by
       rw[hrows];exact⟨hn,hz,hr,fun r k row d hr' hk'=>⟨x r k,hx r k row d hr' hk',fun kd hkd=>hpx r k row kd d hr' hk' hkd⟩⟩
      rw[<-hz]at hq⊢;exact Y8 hld hg hb hra h0 (by rw[hrows];exact h1) (bI3 hq) hc
  ·exact OKp.fail
end
end Go.Sx
namespace Go.Sx
open Go.Xe
def mfz (b:Nat)(L:E)(e z:Nat):M Unit:=fun s=>.ret ((),{s with fz:=(b,L,e,z)::s.fz})
def ac2 (b:Nat)(x:Option y4):M Unit:=fun s=>.ret ((),s.set b x)
def bz5 :Nat->List SV->List SV
 |0,_=>[]
 |n+1,zs=>zs++bz5 n zs
def aU3 :SV->Bool
 | .agg _| .tup _| .any=>false
 |_=>true
section
variable (P :Program)(U:Nat->List Dat->Dat)
def sbox (e:TypeId)(l:List SV):M SV:=a8 (V3 (.cells l e l.length)) fun b=>c8 (.ptr b l.length (.int 0) 0)
def ae2 (t : TypeId) (len : Nat) (parts : List (Nat × SV)) : M SV :=
 match P.underlying t with
 | some (.slice e) => match P.info? e with
  | some ie => match ae7 P e with
   | some z => bif Nat.beq z.length ie.size && Nat.ble (len * ie.size) 16777216 && Nat.ble len 16777216 then
     match av2 (fun i=>some (i*ie.size,ie.size)) (bz5 len z) parts with
     |some cs=>a8 (V3 (.cells cs e ie.size)) fun b=>c8 (.sl b ie.size (.int 0) (.int len) (.ex (.int len)))
     |none=>a7 "buildSlice"
    else a7 "buildSlice"
   |none=>a7 "buildSlice: zero"
  |none=>a7 "buildSlice: type"
 |_=>a7 "buildSlice: type"
def bd3 :E->Option Nat
 | .int k=>bif decide (0<=k)&&decide (k<=64)then some k.toNat else none
 |_=>none
theorem aK1 {U:Nat->List Dat->Dat}{c:E}{n:Nat}(h:bd3 c=some n):n=c.toN U:=by
 unfold bd3 at h;split at h
 ·rename_i k
  cases hk:decide (0<=k)&&decide (k<=64)with
  |false=>grind
  |true=>rw[hk,bJ6,bH9]at h;rw[<-h];rfl
 ·cases h
def aj8 (t : TypeId) (l c : SV) : M SV :=
 match l,c with
 | .int _ ln, .int _ cn => match P.underlying t with
  | some (.slice e) => match P.info? e with
   | some ie => match ae7 P e with
    | some z => bif Nat.ble ie.bytes 1048576 && Nat.beq z.length ie.size then
      a8 (j7 U (u5 (v6 ln (.int 0)))) fun _=>a8 (j7 U (u5 (v6 cn ln))) fun _=>a8 (j7 U (v6 cn (.int 1048577))) fun _=>
      match bd3 cn with
      |some k=>a8 (V3 (.cells (bz5 k z) e ie.size)) fun b=>c8 (.sl b ie.size (.int 0) ln (.ex cn))
      | none => bif Nat.beq (kf P e).length ie.size && Nat.ble 1 ie.size then
        match bp8 (kf P e) 0 z with
        |some es=>a8 (V3 (.rows (.op .rep (cn::es)) e ie.size cn)) fun b=>c8 (.sl b ie.size (.int 0) ln (.ex cn))
        |none=>a7 "makeSlice: zero"
       else a7 "makeSlice: kinds"
     else a7 "makeSlice: size"
    |none=>a7 "makeSlice: zero"
   |none=>a7 "makeSlice: type"
  |_=>a7 "makeSlice: type"
 |_,_=>a7 "makeSlice: no ints"
def O9 (L off len:E):M E:=
 match off with
 | .int m=>bif decide (m=0)&&E.like len (y6 L)then a8 (j7 U (E5 len (y6 L))) fun _=>c8 (ad5 L)else c8 (.op .part [L,off,len])
 |_=>c8 (.op .part [L,off,len])
def aI8 (f:Kd->SV->M E)(ks:List Kd):Nat->List SV->M (List E)
 |_,[]=>c8 []
 |j,a::l=>match ks[j % ks.length]? with
  |some k=>a8 (f k a) fun e=>a8 (aI8 f ks (j+1) l) fun es=>c8 (e::es)
  |none=>a7 "data: kind"
def aV6 : Nat → Kd → SV → M E
 |0,_,_=>a7 "data: depth"
 | d + 1, k, a => match aG6 k a with
  |some e=>c8 e
  | none => match k, a with
   | .sl e, .sl b z off len _ => m9 fun s => match s.get b with
    | some (.rows L e' z' _) => bif Nat.beq e e' && Nat.beq z z' then
      a8 (j7 U (u5 (v6 (y6 L) (t9 off len)))) fun _=>a8 (ac2 b none) fun _=>a8 (mfz b L e z) fun _=>O9 U L off len
     else a7 "data: type"
    | some (.cells l e' z') => bif Nat.beq e e' && Nat.beq z z' && Nat.beq z (kf P e).length && Nat.beq (l.length / z * z) l.length then
      a8 (j7 U (u5 (v6 (.int (l.length/z:Nat)) (t9 off len)))) fun _=>a8 (ac2 b none) fun _=>
      a8 (aI8 (aV6 d) (kf P e) 0 l) fun es=>a8 (mfz b (.op (.rows (l.length/z) z) es) e z) fun _=>O9 U (.op (.rows (l.length/z) z) es) off len
     else a7 "data: type"
    |some (.map _ _ _)=>a7 "data: no block"
    |some (.iter _ _)=>a7 "data: no block"
    | none => match lk s.fz b with
     | some (L, e', z') => bif Nat.beq e e' && Nat.beq z z' then
       a8 (j7 U (u5 (v6 (y6 L) (t9 off len)))) fun _=>O9 U L off len
      else a7 "data: type"
     |none=>a7 "data: no block"
   |_,_=>a7 "data: value"
def bz9 (L row:E):Nat->List E->E
 |_,[]=>L
 |j,e::es=>bz9 (.op (.upd j) [L,row,e]) row (j+1) es
def aB2 (b:Nat):M Unit:=m9 fun s=>match s.get b with
 |some (.cells l e z)=>match aC2 P e z l with
  |some L=>ac2 b (some (.rows L e z (.int (l.length/z:Nat))))
  |none=>a7 "rows"
 |_=>c8 ()
def phT (ph L:E):Bool:=match ph with
 | .int _=>false
 |ph=> !(E.like ph (y6 L))
def Z6 (b z : Nat) (row : E) (fld : Nat) (vs : List SV) : M SV := m9 fun s => match s.get b with
 | some (.rows _ e _ _) => bif Nat.ble (fld + vs.length) z && Nat.beq z (kf P e).length then
   a8 (aI8 (aV6 P U 20) (kf P e) fld vs) fun es=>m9 fun s=>match s.get b with
   | some (.rows L e' z' ph) => bif Nat.beq e e' && Nat.beq z z' then
     bif phT ph L&&Nat.beq z 1&&Nat.beq fld 0&&Nat.beq es.length 1 then
      a8 (j7 U (u5 (v6 (y6 L) row))) fun _=>a8 (j7 U (v6 row ph)) fun _=>a8 (ac2 b (some (.rows (.op .over [L,row,.op (.rows 1 1) es]) e' z' ph))) fun _=>c8 (.tup [])
     else a8 (j7 U (v6 row (y6 L))) fun _=>a8 (ac2 b (some (.rows (bz9 L row fld es) e' z' ph))) fun _=>c8 (.tup [])
    else a7 "store: type"
   |_=>a7 "store: block"
  else a7 "store: beyond"
 |_=>a7 "store: no rows"
def hset (k:IntKind)(es:List E)(row w:E):List SV:=(List.range es.length).map fun j:Nat=>.int k (aS3 0 (.op .over [.op (.rows es.length 1) es,row,.op (.rows 1 1) [w]]) (.int (j:Int)))
def aO7 (b:Nat)(l:List SV)(e z:Nat)(row:E)(fld:Nat):List SV->M SV
 | [.int k w]=>match aI2 k (l.drop fld)with
  |some es=>a8 (j7 U (v6 row (.int es.length))) fun _=>a8 (ac2 b (some (.cells (l.take fld++hset k es row w) e z))) fun _=>c8 (.tup [])
  |none=>a7 "store: no integers"
 |_=>a7 "store: no integer"
def bd9 (t : TypeId) (a x : SV) : M SV :=
 match P.info? t with
 |none=>a7 "store: type"
 | some ti => match A7 x with
  |none=>a7 "store: value"
  | some vs => bif Nat.beq vs.length ti.size && vs.all aU3 then
   match a with
   | .ptr b z row fld => m9 fun s => match s.get b with
    | some (.cells l e z') => match row with
     | .int r => bif decide (0 ≤ r) && Nat.ble (r.toNat * z + fld + vs.length) l.length then
       a8 (ac2 b (some (.cells (L8 l (r.toNat*z+fld) vs) e z'))) fun _=>c8 (.tup [])else a7 "store: beyond"
     |row=>bif Nat.beq z 1&& !Nat.beq z' 1&&Nat.ble fld l.length then aO7 U b l e z' row fld vs else a8 (aB2 P b) fun _=>Z6 P U b z row fld vs
    |some (.rows _ _ _ _)=>Z6 P U b z row fld vs
    |_=>a7 "store: no block"
   |_=>a7 "store: no address"
   else a7 "store: size"
end
section
variable {P :Program}{U:Nat->List Dat->Dat}{τ:Tau}{F:Nat->Option Blk}{s:SS}{hp:Hp}
theorem OKh.alloc {x : y4} {y : Blk} (hs : SD P U τ F s hp) (hy : ∀ τ', Tle τ τ' → BD P U τ' F 0 x y) :
  OKh P U (V3 x) τ F s hp fun b τ' F' hp'=>F'=F/\τ' b=some (some (hp.nx,0))/\hp'=⟨hp.m.set hp.nx (some y),hp.nx+1⟩:=by
 intro Q hq _;have h0:τ s.nx=none:=hs.new _ (bK2 _);obtain⟨h1,h2⟩:=hs.alloc (x:=x) (p:=some (hp.nx,0)) (hp':=⟨hp.m.set hp.nx (some y),hp.nx+1⟩) (bP4 _) (fun i hi=>bB4 hp y i hi)
  (.inl ⟨hp.nx,0,y,rfl,bK2 _,bO0 _,by simp[T.get_set],hy _ (V0 _ h0)⟩)
 exact⟨s.nx,_,hq,_,F,_,h1,h2,rfl,l8 _ _ _,rfl⟩
theorem G2 (vs:List Value)(j:Nat)(x:Value)(h:vs[j]? =some x):(fill .e 0 vs).get j=some x:=by
 rw[l6,bK1 ⟨bR4 _,by have:=(bI2.1 h).1;omega⟩]
 grind
theorem V6 {l:List SV}{vs:List Value}(h:VDL P U τ F l vs)(e z:Nat):BD P U τ F 0 (.cells l e z) (G5 vs e z):=by
 refine⟨fill .e 0 vs,vs.length,rfl,by rw[h.1];omega,fun j a ha=>?_⟩
 obtain⟨x,h1,h2⟩:=h.get ha;exact⟨x,by rw[bL1];exact G2 vs j x h1,h2⟩
theorem bi3 {e : TypeId} {l : List SV} {vs : List Value} (h : VDL P U τ F l vs) (hs : SD P U τ F s hp) :
  OKh P U (sbox e l) τ F s hp fun a τ' F' hp'=>(a,hp')=(a,(hp.add ⟨G5 vs e vs.length,.ptr,rfl⟩).2)/\VD P U τ' F' a (hp.add ⟨G5 vs e vs.length,.ptr,rfl⟩).1:=by
 unfold sbox;refine(OKh.alloc (y:=G5 vs e vs.length) hs fun τ' ht=>?_).bind fun b τ' F' s' hp' _ hs' ⟨h1,h2,h3⟩=>?_
 ·rw[h.1];exact V6 (h.mono ht (Fle.refl F)) e vs.length
 ·subst h1;subst h3
  refine OKh.ret ⟨rfl,?_⟩;exact VD.ptr' h2 (by show(0:Int)<=0;omega) (by show 0=0+(0:Int).toNat*_+0;simp)
theorem ay2 {l:List SV}{vs:List Value}(h:VDL P U τ F l vs):∀n,VDL P U τ F (bz5 n l) (xrep n vs)
 |0=>VDL.nil
 |n+1=>h.append (ay2 h n)
theorem aC4 {t : TypeId} {len : Nat} {ps : List (Nat × SV)} {qs : List (Nat × Value)} (h : PVD P U τ F ps qs) (hs : SD P U τ F s hp) :
  OKh P U (ae2 P t len ps) τ F s hp fun a τ' F' hp'=>∃n,bp9 P t len qs=some n/\hp'=(hp.add n).2/\VD P U τ' F' a (hp.add n).1:=by
 unfold ae2;split
 ·rename_i e he
  split
  ·rename_i ie hie
   split
   ·rename_i z hz
    obtain⟨zv,h1,h2⟩:=L9 (U:=U) (τ:=τ) (F:=F) hz;rw[h2.1];cases hb:Nat.beq zv.cells.toList.length ie.size&&Nat.ble (len*ie.size) 16777216&&Nat.ble len 16777216 with
    |false=>exact OKh.fail
    | true =>
     simp only[bJ6];split
     ·rename_i cs hcs
      obtain⟨ys,h3,h4⟩:=ae4 (ay2 h2 len) h hcs;refine(OKh.alloc (y:=G5 ys e ie.size) hs fun τ' ht=>V6 (h4.mono ht (Fle.refl F)) e ie.size).bind fun b τ' F' s' hp' _ hs' ⟨k1,k2,k3⟩=>?_
      subst k1;subst k3;refine OKh.ret ⟨⟨G5 ys e ie.size,.slice len len,rfl⟩,?_,rfl,?_⟩
      ·simp only[bp9,he,hie,h1,hb,bJ6,h3]
      ·have hu : len < unk := by
        simp only[bI0,bN3]at hb;unfold unk;omega
       have:=VD.sl (P:=P) (U:=U) (F:=F') b ie.size (.int 0) (.int len) (.ex (.int len)) hp.nx 0 len k2 (bO3 0) (Int.natCast_nonneg len) ⟨Int.natCast_nonneg len,(bM0 len).symm,hu,bO3 _⟩;have e1:(E.int (len:Int)).toN U=len:=bM0 len;rw[e1]at this;have e2:(E.int 0).toN U*ie.size=0:=by show(0:Int).toNat*_=0;simp
       rw[e2]at this;exact this
     ·exact OKh.fail
   ·exact OKh.fail
  ·exact OKh.fail
 ·exact OKh.fail
theorem C9 (n:Nat)(vs:List Value):(xrep n vs).length=n*vs.length:=by
 induction n with
 |zero=>simp[xrep]
 |succ n ih=>simp[xrep,ih,bO6];omega
theorem X7 {z:Nat}{vs:List Value}(hz:vs.length=z):∀ {n r k:Nat},r<n->k<z->(xrep n vs)[r*z+k]? =vs[k]?
 |0,r,k,h,_=>by omega
 |n+1,0,k,_,hk=>by simp only[xrep,bQ8,bL1];rw[bI8 (by omega)]
 |n+1,r+1,k,h,hk=>by
  simp only[xrep];rw[bI7 (by rw[hz,bO6];omega),hz]
  rw[show(r+1)*z+k-z=r*z+k by rw[bO6];omega]
  exact X7 hz (by omega) hk
theorem aG4 {t : TypeId} {a b : SV} {v u : Value} (ha : VD P U τ F a v) (hb : VD P U τ F b u) (hs : SD P U τ F s hp) :
  OKh P U (aj8 P U t a b) τ F s hp fun c τ' F' hp'=>∃n,bq6 P t v u=some n/\hp'=(hp.add n).2/\VD P U τ' F' c (hp.add n).1:=by
 unfold aj8;split
 ·rename_i k1 ln k2 cn
  cases ha;cases hb;split
  ·rename_i e he
   split
   ·rename_i ie hie
    split
    ·rename_i z hz
     obtain⟨zv,h1,h2⟩:=L9 (U:=U) (τ:=τ) (F:=F) hz;rw[h2.1];cases hb:Nat.ble ie.bytes 1048576&&Nat.beq zv.cells.toList.length ie.size with
     |false=>exact OKh.fail
     | true =>
      simp only[bJ6];refine OKh.bindp OKp.need fun _ s1 _ hs1 p1=>OKh.bindp OKp.need fun _ s2 _ hs2 p2=>OKh.bindp OKp.need fun _ s3 _ hs3 p3=>?_
      have n1:=P4 p1;have n2:=w9 p2;have n3:=A5 p3;simp only[z8]at n3;simp only[bI0,bN3,bL9]at hb;have hx:bq6 P t (.int k1 (ln.toI U)) (.int k2 (cn.toI U))=some ⟨G5 (xrep (cn.toN U) zv.cells.toList) e ie.size,.slice (ln.toN U) (cn.toN U),rfl⟩:=by
       simp only[bq6,he,hie,h1];rw[show(decide (0<=ln.toI U)&&decide (ln.toI U<=cn.toI U)&&decide (cn.toI U<=1048576)&&Nat.ble ie.bytes 1048576&&Nat.beq zv.cells.toList.length ie.size)=true by
        simp only[bI0,bK0,bN3,bL9];exact⟨⟨⟨⟨n1,n2⟩,by omega⟩,hb.1⟩,hb.2⟩]
       rfl
      have hval:∀(τ':Tau) (bn:Nat),τ' bn=some (some (hp.nx,0))->VD P U τ' F (.sl bn ie.size (.int 0) ln (.ex cn)) (.slice (some ⟨hp.nx,0,none⟩) (ln.toN U) (cn.toN U)):=by
       intro τ' bn hτ;have hu:cn.toN U<unk:=by unfold unk;show(cn.toI U).toNat<_;omega
       have:=VD.sl (P:=P) (U:=U) (F:=F) bn ie.size (.int 0) ln (.ex cn) hp.nx 0 (cn.toN U) hτ (bO3 0) n1 ⟨by omega,rfl,hu,n2⟩
       have e2:(E.int 0).toN U*ie.size=0:=by show(0:Int).toNat*_=0;simp
       grind
      split
      ·rename_i k hk
       rw[<-aK1 (U:=U) hk]at hx;have hval':∀(τ':Tau) (bn:Nat),τ' bn=some (some (hp.nx,0))->VD P U τ' F (.sl bn ie.size (.int 0) ln (.ex cn)) (.slice (some ⟨hp.nx,0,none⟩) (ln.toN U) k):=by
        rw[aK1 (U:=U) hk];exact hval
       refine(OKh.alloc (y:=G5 (xrep k zv.cells.toList) e ie.size) hs3 fun τ' ht=>V6 (ay2 (h2.mono ht (Fle.refl F)) _) e ie.size).bind fun bn τ' F' s' hp' _ hs' ⟨q1,q2,q3⟩=>?_
       subst q1;subst q3;exact OKh.ret ⟨_,hx,rfl,hval' τ' bn q2⟩
      ·cases hk : Nat.beq (kf P e).length ie.size && Nat.ble 1 ie.size with
       |false=>exact OKh.fail
       | true =>
        simp only[bJ6];simp only[bI0,bN3,bL9]at hk;split
        ·rename_i es hes
         obtain⟨t1,t2⟩:=aD6 hes;have hzl:zv.cells.toList.length=ie.size:=hb.2;have hesl:es.length=ie.size:=by rw[t1,h2.1,hzl]
         refine(OKh.alloc (y:=G5 (xrep (cn.toN U) zv.cells.toList) e ie.size) hs3 fun τ' ht=>?_).bind fun bn τ' F' s' hp' _ hs' ⟨q1,q2,q3⟩=>?_
         ·have hL : (E.op .rep (cn :: es)).toR U = List.replicate (cn.toN U) (es.map (E.den U)) := by
           show(Dat.lst (List.replicate _ (E.dens U es))).rows=_;rw[E.dens_eq];rfl
          refine⟨_,_,rfl,?_,?_⟩
          ·rw[hL]
           refine⟨by rw[C9,hzl];simp,hk.1.symm,fun r hr=>?_,fun r k row d hr hkd=>?_⟩
           ·grind
           ·rw[List.getElem?_replicate]at hr
            split at hr
            ·rename_i hlt
             simp only[bH9]at hr;subst hr;have hkz:k<ie.size:=by grind
             rw[bM9]at hkd;cases hek:es[k]? with
             |none=>grind
             |some x=>
              simp only[hek,bM4,bH9]at hkd;have hzk:z[k]? =some (z[k]'(by rw[h2.1,hzl];exact hkz)):=by grind
              obtain⟨y,w1,w2⟩:=h2.get hzk;obtain⟨kd,w3,w4⟩:=t2 k _ _ hzk hek;refine⟨y,?_,fun kd' hkd'=>?_⟩
              ·rw[bL1]
               exact G2 _ _ _ (by rw[X7 hzl hlt hkz];exact w1)
              ·rw[bL1,hk.1,bS3 hkz,hkd',bH9]at w3
               subst w3;rw[<-hkd];exact U3 w2 w4
            ·cases hr
          ·rw[C9,hzl];omega
         ·subst q1;subst q3
          exact OKh.ret ⟨_,hx,rfl,hval τ' bn q2⟩
        ·exact OKh.fail
    ·exact OKh.fail
   ·exact OKh.fail
  ·exact OKh.fail
 ·exact OKh.fail
end
end Go.Sx
namespace Go.Sx
open Go.Xe
section
variable {P :Program}{U:Nat->List Dat->Dat}{τ:Tau}{F:Nat->Option Blk}{s:SS}{hp:Hp}
theorem az4 {len:E}{cap:Cp}{c:Nat}(h:az5 U len cap c)(h0:0<=len.toI U):aH5 (len.toN U) c:=by
 cases cap with
 |ex e=>
  obtain⟨h1,h2,h3,h4⟩:=h;exact .inl ⟨h3,by rw[h2];show(len.toI U).toNat<=(e.toI U).toNat;omega⟩
 |ge=>
  obtain⟨lo,h1,h2,h3⟩:=h;exact .inr ⟨lo,h1,h2,by show(len.toI U).toNat<=_;omega⟩
 |un=>
  rcases h with⟨h1,h2,h3⟩| ⟨lo,h1,h2,h3⟩
  ·exact .inl ⟨h1,by rw[h2];exact bK2 _⟩
  ·exact .inr ⟨lo,h1,h2,by show(len.toI U).toNat<=_;omega⟩
theorem O0 {rows:Rows}{off len:Int}(h0:0<=off)(h1:0<=len)(h2:off+len<=rows.length):(part rows off len).length=len.toNat:=by
 unfold part
 grind
theorem W5 {rows:Rows}{off len:Int}{r:Nat}{row:List Dat}(h:(part rows off len)[r]? =some row):rows[off.toNat+r]? =some row:=by
 unfold part at h
 grind
theorem PV.of_rows {F : Nat → Option Blk} {e e' z z' o n i c : Nat} {cs : T Value} {rows : Rows} {off len : Int} (hF : F i = some (.cells cs n e' z')) (hz' : z' = z) (hr : y9 P F e z o n cs rows) (h0 : 0 ≤ off) (h1 : 0 ≤ len) (h2 : off + len ≤ rows.length) (hc : aH5 len.toNat c) :
  PV P F (.sl e) (.slice (some ⟨i,o+off.toNat*z,none⟩) len.toNat c) (.lst (part rows off len)):=by
 subst hz';obtain⟨g1,g2,g3,g4⟩:=hr;have hl:=O0 h0 h1 h2;have hx:∀(r k:Nat),∃x,∀row d,(part rows off len)[r]? =some row->row[k]? =some d->cs.get (o+off.toNat*z'+r*z'+k)=some x/\ ∀kd,(kf P e)[k]? =some kd->PV P F kd x d:=by
  intro r k;cases hrow:(part rows off len)[r]? with
  |none=>exact⟨undef,fun row d h=>by cases h⟩
  |some row=>
   cases hd:row[k]? with
   |none=>exact⟨undef,fun row' d h h'=>by cases h;rw[hd]at h';cases h'⟩
   |some d=>
    obtain⟨x,k1,k2⟩:=g4 _ k row d (W5 hrow) hd;refine⟨x,fun row' d' h h'=>?_⟩
    grind
 have:=PV.sl (P:=P) (F:=F) e i (o+off.toNat*z') c _ cs n z' (part rows off len) (fun r k=>(hx r k).choose) hF rfl ⟨by rw[hl];exact hc,.mk⟩
  (by
   rw[hl];have:off.toNat*z'+len.toNat*z'<=rows.length*z':=by rw[<-bL5];exact bJ2 z' (by omega)
   omega) g2 (fun r hr=>g3 r (bQ6 (bQ5 hr)))
  (fun r k row d h1 h2=>((hx r k).choose_spec row d h1 h2).1) (fun r k row kd d h1 h2 h3=>((hx r k).choose_spec row d h1 h2).2 kd h3)
 grind
theorem z6 {L off len:E}:OKp U (O9 U L off len) s fun e=>e.den U= .lst (part (L.toR U) (off.toI U) (len.toI U)):=by
 unfold O9;split
 ·rename_i m
  cases hb:decide (m=0)&&E.like len (y6 L)with
  |false=>exact OKp.ret rfl
  |true=>
   simp only[bJ6];simp only[bI0,bK0]at hb;refine OKp.need.bind fun _ s1 _ _ h=>OKp.ret ?_
   have h:=af7 h;rw[d9]at h;rw[am7]
   congr 1
   unfold part;have e1:((E.int m).toI U).toNat=0:=by rw[hb.1];rfl
   rw[e1,h,bM0,bR5,List.take_length]
 ·exact OKp.ret rfl
theorem OKh.drop {b:Nat}:OKh P U (ac2 b none) τ F s hp fun _ τ' F' hp'=>τ'=τ/\F'=F/\hp'=hp:=by
 intro Q hq hs;obtain⟨h1,h2⟩:=hs.drop b;exact⟨(),_,hq,τ,F,hp,h1,h2,rfl,rfl,rfl⟩
theorem OKh.freeze {b i o:Nat}{x:y4}(hb:s.get b=some x)(ht:τ b=some (some (i,o))){y:Blk}(hi:hp.m.get i=some y):OKh P U (ac2 b none) τ F s hp fun _ τ' F' hp'=>τ'=τ/\hp'=hp/\F' i=some y:=by
 intro Q hq hs;obtain⟨F',h1,h2,h3,h4⟩:=hs.freeze hb ht hi;exact⟨(),_,hq,τ,F',hp,h3,h4,rfl,rfl,h2⟩
theorem OKh.fz {b:Nat}{L:E}{e z:Nat}(h:bk4 P U τ F (b,L,e,z)):OKh P U (mfz b L e z) τ F s hp fun _ τ' F' hp'=>τ'=τ/\F'=F/\hp'=hp:=by
 intro Q hq hs;refine⟨(),_,hq,τ,F,hp,?_,⟨hs.live,hs.inj,hs.frz,hs.lt,hs.flt,hs.new,hs.fc,fun r hr=>?_⟩,rfl,rfl,rfl⟩
 ·have h:=Ext.refl hs
  exact⟨h.t,h.f,h.nx,h.snx,h.st,h.low,h.hh,h.hf⟩
 ·rcases bL7.1 hr with rfl|hr
  ·exact h
  ·exact hs.fz r hr
theorem am5 {f : Kd → SV → M E} {ks : List Kd} (hf : ∀ k a v τ F s hp, VD P U τ F a v → SD P U τ F s hp → OKh P U (f k a) τ F s hp fun e τ' F' hp' => τ' = τ ∧ hp' = hp ∧ PV P F' k v (e.den U)) :
  ∀ {l:List SV} {vs:List Value} {j:Nat} {τ:Tau} {F:Nat->Option Blk} {s:SS} {hp:Hp},VDL P U τ F l vs->SD P U τ F s hp->OKh P U (aI8 f ks j l) τ F s hp fun es τ' F' hp'=>τ'=τ/\hp'=hp/\es.length=l.length/\
   ∀(q:Nat) x e,vs[q]? =some x->es[q]? =some e-> ∃kd,ks[(j+q) % ks.length]? =some kd/\PV P F' kd x (e.den U)
 | [],vs,j,τ,F,s,hp,h,hs=>OKh.ret ⟨rfl,rfl,rfl,fun q x e _ h=>by simp at h⟩
 |a::l,vs,j,τ,F,s,hp,h,hs=>by
  obtain⟨y,ys,rfl,h1,h2⟩:=h.uncons;unfold aI8;split
  ·rename_i k hk
   refine(hf k a y τ F s hp h1 hs).bind fun e τ1 F1 s1 hp1 ex hs1 ⟨e1,e2,e3⟩=>?_
   subst e1;subst e2;refine(am5 hf (h2.mono ex.t ex.f) hs1).bind fun es τ2 F2 s2 hp2 ex2 hs2 ⟨e4,e5,e6,e7⟩=>OKh.ret ⟨e4,e5,by simp[e6],fun q x d hx hd=>?_⟩
   cases q with
   |zero=>simp at hx hd;subst hx;subst hd;exact⟨k,hk,e3.mono P ex2.f⟩
   |succ q=>grind
  ·exact OKh.fail
theorem ag2 :∀(d:Nat) (k:Kd) (a:SV) (v:Value) (τ:Tau) (F:Nat->Option Blk) (s:SS) (hp:Hp),VD P U τ F a v->SD P U τ F s hp->OKh P U (aV6 P U d k a) τ F s hp fun e τ' F' hp'=>τ'=τ/\hp'=hp/\PV P F' k v (e.den U)
 |0,k,a,v,τ,F,s,hp,ha,hs=>OKh.fail
 |d+1,k,a,v,τ,F,s,hp,ha,hs=>by
  unfold aV6;split
  ·rename_i e he
   exact OKh.ret ⟨rfl,rfl,U3 ha he⟩
  ·split
   ·rename_i e b z off len cap _
    refine OKh.read ?_;split
    ·rename_i L e' z' ph hb
     cases hq:Nat.beq e e'&&Nat.beq z z' with
     |false=>exact OKh.fail
     |true=>
      simp only[bJ6];simp only[bI0,bL9]at hq;obtain⟨rfl,rfl⟩:=hq;refine OKh.bindp OKp.need fun _ s1 o1 hs1 p1=>?_
      have p1:=w9 p1;rw[f8,d9]at p1;have hb1:s1.get b=some (.rows L e z ph):=by rw[o1.get];exact hb
      rcases hs1.live b _ hb1 with⟨i,o,y,h1,h2,_,cs,n,rfl,h4,h5⟩| ⟨h1,L',e',z',ph',h2,h3,_⟩
      ·cases ha with
       |sl _ _ _ _ _ i' o' c h h0 h0' hc=>
        rw[h1]at h;simp only[bH9,bI1]at h;obtain⟨rfl,rfl⟩:=h;refine(OKh.freeze hb1 h1 h2).bind fun _ τ2 F2 s2 hp2 ex hs2 ⟨e1,e2,e3⟩=>?_
        subst e1;subst e2;have hrw:y9 P F2 e z o n cs (L.toR U):=⟨h4.1,h4.2.1,h4.2.2.1,fun r k row d w1 w2=>let⟨x,w3,w4⟩:=h4.2.2.2 r k row d w1 w2;⟨x,w3,fun kd w5=>(w4 kd w5).mono P ex.f⟩⟩
        refine(OKh.fz (.inl ⟨i,o,cs,n,h1,e3,hrw⟩)).bind fun _ τ3 F3 s3 hp3 ex3 hs3 ⟨f1,f2,f3⟩=>?_
        subst f1;subst f2;subst f3;refine OKh.bindp' z6 fun c' he=>⟨rfl,rfl,?_⟩
        rw[he];exact PV.of_rows e3 rfl hrw h0 h0' p1 (az4 hc h0')
       |sl0 _ _ _ _ _ h h0 h0' hc=>grind
      ·cases ha with
       |sl _ _ _ _ _ i' o' c h h0 h0' hc=>grind
       |sl0 _ _ _ _ _ h h0 h0' hc=>
        refine OKh.drop.bind fun _ τ2 F2 s2 hp2 ex hs2 ⟨e1,e2,e3⟩=>?_
        subst e1;subst e2;subst e3;simp only[y4.rows.injEq]at h2;obtain⟨rfl,_⟩:=h2;refine(OKh.fz (.inr ⟨h1,h3⟩)).bind fun _ τ3 F3 s3 hp3 ex3 hs3 ⟨f1,f2,f3⟩=>?_
        subst f1;subst f2;subst f3;refine OKh.bindp' z6 fun c' he=>⟨rfl,rfl,?_⟩
        rw[he,h3];have:part [] (off.toI U) (len.toI U)=[]:=by simp[part]
        rw[this];exact .nils _
    ·rename_i l e' z' hb
     cases hq:Nat.beq e e'&&Nat.beq z z'&&Nat.beq z (kf P e).length&&Nat.beq (l.length/z*z) l.length with
     |false=>exact OKh.fail
     |true=>
      simp only[bJ6];simp only[bI0,bL9]at hq;obtain⟨⟨⟨rfl,rfl⟩,hz⟩,hN⟩:=hq;refine OKh.bindp OKp.need fun _ s1 o1 hs1 p1=>?_
      have p1:=w9 p1;rw[f8]at p1;simp only[z8]at p1;have hb1:s1.get b=some (.cells l e z):=by rw[o1.get];exact hb
      rcases hs1.live b _ hb1 with⟨i,o,y,h1,h2,_,cs,n,rfl,h4,h5⟩| ⟨h1,L',e',z',ph',h2,h3,_⟩
      ·cases ha with
       |sl _ _ _ _ _ i' o' c h h0 h0' hc=>
        rw[h1]at h;simp only[bH9,bI1]at h;obtain⟨rfl,rfl⟩:=h;refine(OKh.freeze hb1 h1 h2).bind fun _ τ2 F2 s2 hp2 ex hs2 ⟨e1,e2,e3⟩=>?_
        subst e1;subst e2;obtain⟨vs,v1,v2,v3⟩:=C7 (c:=cs) (R:=fun j x=>∀a,l[j]? =some a->VD P U τ2 F2 a x) l.length o 0 fun j hj=>by
         have:l[j]? =some l[j]:=by simp[hj]
         obtain⟨x,k1,k2⟩:=h5 j _ this;exact⟨x,k1,fun a ha=>by rw[bL1,this]at ha;cases ha;exact k2.mono ex.t ex.f⟩
        have hv:VDL P U τ2 F2 l vs:=⟨v2.symm,fun j a x ha hx=>v3 j x hx a (by rw[bL1];exact ha)⟩
        refine(am5 (fun k a v τ F s hp=>ag2 d k a v τ F s hp) hv hs2).bind fun es τ3 F3 s3 hp3 ex3 hs3 ⟨f1,f2,f3,f4⟩=>?_
        subst f1;subst f2;have hF3:F3 i=some (.cells cs n e z):=ex3.f _ _ e3;have hrows:y9 P F3 e z o n cs ((E.op (.rows (l.length/z) z) es).toR U):=by
         refine V2 hz (by rw[f3,hN]) (by rw[f3];exact h4) fun j x hx=>?_
         have hj:j<l.length:=by grind
         have hvj:vs[j]? =some (vs[j]'(by omega)):=by grind
         obtain⟨kd,w1,w2⟩:=f4 j _ _ hvj hx;refine⟨_,by rw[<-(j9 v1).2 j hj];exact hvj,fun kd' hkd=>?_⟩
         grind
        refine(OKh.fz (.inl ⟨i,o,cs,n,h1,hF3,hrows⟩)).bind fun _ τ4 F4 s4 hp4 ex4 hs4 ⟨g1,g2,g3⟩=>?_
        subst g1;subst g2;subst g3;refine OKh.bindp' z6 fun c' he=>⟨rfl,rfl,?_⟩
        rw[he];refine PV.of_rows hF3 rfl hrows h0 h0' ?_ (az4 hc h0');have:((E.op (.rows (l.length/z) z) es).toR U).length=l.length/z:=by
         show(chunk z (l.length/z) _).length=_;rw[H4]
        grind
       |sl0 _ _ _ _ _ h h0 h0' hc=>grind
      ·cases h2
    ·exact OKh.fail
    ·exact OKh.fail
    ·split
     ·rename_i L e' z' hb
      cases hq:Nat.beq e e'&&Nat.beq z z' with
      |false=>exact OKh.fail
      |true=>
       simp only[bJ6];simp only[bI0,bL9]at hq;obtain⟨rfl,rfl⟩:=hq;refine OKh.bindp OKp.need fun _ s1 o1 hs1 p1=>?_
       have p1:=w9 p1;rw[f8,d9]at p1;refine OKh.bindp' z6 fun c' he=>⟨rfl,rfl,?_⟩
       rw[he]
       rcases hs.fz _ (Q9 hb)with⟨i,o,cs,n,h1,h2,h4⟩| ⟨h1,h2⟩
       ·cases ha with
        |sl _ _ _ _ _ i' o' c h h0 h0' hc=>
         rw[h1]at h;simp only[bH9,bI1]at h;obtain⟨rfl,rfl⟩:=h;exact PV.of_rows h2 rfl h4 h0 h0' p1 (az4 hc h0')
        |sl0 _ _ _ _ _ h h0 h0' hc=>grind
       ·cases ha with
        |sl _ _ _ _ _ i' o' c h h0 h0' hc=>grind
        |sl0 _ _ _ _ _ h h0 h0' hc=>
         have h2':L.toR U=[]:=h2;have:part [] (off.toI U) (len.toI U)=[]:=by simp[part]
         rw[h2',this];exact .nils _
     ·exact OKh.fail
   ·exact OKh.fail
where
 OKh.bindp' {m:M E} {R:E->Prop} {R':E->Tau->(Nat->Option Blk)->Hp->Prop} {τ:Tau} {F:Nat->Option Blk} {s:SS} {hp:Hp} (h:OKp U m s R) (hr:∀e,R e->R' e τ F hp):OKh P U m τ F s hp R':=
  (h.up (P:=P) (τ:=τ) (F:=F) (hp:=hp)).mono fun a τ' F' hp' _ _ ⟨e1,e2,e3,e4⟩=>by subst e1;subst e2;subst e3;exact hr a e4
end
end Go.Sx
namespace Go.Sx
open Go.Xe
section
variable {P :Program}{U:Nat->List Dat->Dat}{τ:Tau}{F:Nat->Option Blk}{s:SS}{hp:Hp}
theorem aR0 {z r k r' k':Nat}(hk:k<z)(hk':k'<z)(h:r*z+k=r'*z+k'):r=r'/\k=k':=by
 have h1:(r*z+k)/z=r:=by rw[Nat.mul_comm,Nat.mul_add_div (by omega),Nat.div_eq_of_lt hk];omega
 have h2:(r'*z+k')/z=r':=by rw[Nat.mul_comm,Nat.mul_add_div (by omega),Nat.div_eq_of_lt hk'];omega
 grind
theorem y9.set1 {F : Nat → Option Blk} {e z o n : Nat} {cs : T Value} {rows : Rows} (h : y9 P F e z o n cs rows) {r : Int} {j : Nat} (hj : j < z) {x : Value} {d : Dat} (hx : ∀ kd, (kf P e)[j]? = some kd → PV P F kd x d) :
  y9 P F e z o n (cs.set (o+r.toNat*z+j) (some x)) (setAt rows r j d):=by
 obtain⟨g1,g2,g3,g4⟩:=h;unfold setAt;refine⟨by simpa using g1,g2,fun row hr=>?_,fun r' k row d' hr hk=>?_⟩
 ·obtain⟨q,hq⟩:=bT0 hr
  grind
 ·rw[List.getElem?_modify]at hr
  cases ho:rows[r']? with
  |none=>grind
  |some row0=>
   have hl:=g3 row0 (bI9 ho);rw[ho]at hr
   by_cases e:r.toNat=r'
   ·simp only[e,bR1,Option.map_eq_map,bM4,bH9]at hr
    rw[<-hr,List.getElem?_set]at hk
    by_cases ek:j=k
    ·subst ek
     rw[bK1 rfl,bK1 (by rw[hl];exact hj),bH9]at hk
     refine⟨x,?_,fun kd hkd=>by rw[<-hk];exact hx kd hkd⟩
     rw[T.get_set,bK1 (by rw[e])]
    ·rw[bJ9 ek]at hk
     obtain⟨y,k1,k2⟩:=g4 r' k row0 d' ho hk;have hkz:k<z:=by grind
     refine⟨y,?_,k2⟩;rw[T.get_set,bJ9]
     ·exact k1
     ·grind
   ·simp only[e,bR0,Option.map_eq_map,bM4,bH9]at hr
    subst hr;obtain⟨y,k1,k2⟩:=g4 r' k row0 d' ho hk;have hkz:k<z:=by grind
    refine⟨y,?_,k2⟩;rw[T.get_set,bJ9]
    ·exact k1
    ·intro h
     exact e (aR0 hkz hj (show r'*z+k=r.toNat*z+j by omega)).1.symm
theorem aK8 {F : Nat → Option Blk} {e z o n : Nat} {row : E} (h0 : 0 ≤ row.toI U) : ∀ {es : List E} {vs : List Value} {L : E} {cs : T Value} {fld : Nat}, y9 P F e z o n cs (L.toR U) → es.length = vs.length → fld + es.length ≤ z →
  (∀(q:Nat) x d,vs[q]? =some x->es[q]? =some d-> ∀kd,(kf P e)[fld+q]? =some kd->PV P F kd x (d.den U))->y9 P F e z o n (fill cs (o+row.toN U*z+fld) vs) ((bz9 L row fld es).toR U)
 | [],[],L,cs,fld,h,_,_,_=>h
 |d::es,x::vs,L,cs,fld,h,hl,hf,hp=>by
  simp only[fill,bz9];have h1:=h.set1 (r:=row.toI U) (j:=fld) (x:=x) (d:=d.den U) (by simp at hf;omega) (fun kd hkd=>hp 0 x d rfl rfl kd hkd)
  have h2:=aK8 (e:=e) (n:=n) h0 (es:=es) (vs:=vs) (L:= .op (.upd fld) [L,row,d]) (fld:=fld+1) h1 (by simpa using hl) (by simp at hf;omega)
   (fun q y w hy hw kd hkd=>hp (q+1) y w (by simpa using hy) (by simpa using hw) kd (by rw[<-hkd];congr 1;omega))
  exact h2
 | [],_::_,_,_,_,_,hl,_,_=>by simp at hl
 |_::_,[],_,_,_,_,hl,_,_=>by simp at hl
theorem bD0 {a:SV}{v:Value}(h:VD P U τ F a v)(e:aU3 a=true):v.oneCell'=true:=by
 cases h with
 |any=>simp[aU3]at e
 |agg=>simp[aU3]at e
 |tup=>simp[aU3]at e
 |lst t L clip v h hc=>generalize L.toR U=rows at h;cases h<;>rfl
 |_=>rfl
theorem aU4 {l:List SV}{vs:List Value}(h:VDL P U τ F l vs)(e:l.all aU3=true):vs.all Value.oneCell'=true:=by
 rw[bK9]at e⊢;intro x hx;obtain⟨i,hi⟩:=bT0 hx;have hil:i<l.length:=by have:=(bI2.1 hi).1;rw[h.1];exact this
 have ha:l[i]? =some l[i]:=by simp[hil]
 exact bD0 (h.2 i _ _ ha hi) (e _ (bI9 ha))
theorem ah0 {t : TypeId} {ti : TypeInfo} (hti : P.info? t = some ti) {x : Value} (hx : x.cells.toList.length = ti.size) (ho : x.cells.toList.all Value.oneCell' = true) {i o n e z : Nat} {c : T Value} (hg : hp.m.get i = some (.cells c n e z)) (hn : o + ti.size ≤ n) :
  J7 P hp t (.pointer (some ⟨i,o,none⟩)) x=some {hp with m:=hp.m.set i (some (.cells (fill c o x.cells.toList) n e z))}:=by
 simp only[J7,hg,hti];rw[show(Nat.beq x.cells.toList.length ti.size&&Nat.ble (o+ti.size) n&&x.cells.toList.all Value.oneCell')=true by
  simp only[bI0,bL9,bN3];exact⟨⟨hx,hn⟩,ho⟩]
 simp only[bJ6,at3,T.force_eq]
theorem OKh.change {b i o : Nat} {x x' : y4} (hb : s.get b = some x) (ht : τ b = some (some (i, o))) {y : Blk} {m : T Blk} (hk : ∀ j, j ≠ i → m.get j = hp.m.get j) (hi : m.get i = some y) (hd : BD P U τ F o x' y) :
  OKh P U (ac2 b (some x')) τ F s hp fun _ τ' F' hp'=>τ'=τ/\F'=F/\hp'= {hp with m:=m}:=by
 intro Q hq hs;obtain⟨h1,h2⟩:=hs.change (hp':= {hp with m:=m}) hb ht rfl hk hi hd
 exact⟨(),_,hq,τ,F,_,h1,h2,rfl,rfl,rfl⟩
theorem ad6 {b:Nat}(hs:SD P U τ F s hp):OKh P U (aB2 P b) τ F s hp fun _ τ' F' hp'=>τ'=τ/\F'=F/\hp'=hp:=by
 unfold aB2;refine OKh.read ?_;split
 ·rename_i l e z hb
  split
  ·rename_i L hL
   rcases hs.live b _ hb with⟨i,o,y,h1,h2,_,cs,n,rfl,h4,h5⟩| ⟨h1,L',e',z',ph',h2,h3,_⟩
   ·have hr:=ar3 hL h4 h5
    refine(OKh.change (m:=hp.m) (x':= .rows L e z (.int (l.length/z:Nat))) hb h1 (fun _ _=>rfl) h2 ⟨cs,n,rfl,hr,?_⟩).mono fun _ τ' F' hp' _ _ ⟨e1,e2,e3⟩=>⟨e1,e2,e3⟩
    have e1:(E.int ((l.length/z:Nat):Int)).toN U=l.length/z:=bM0 _;rw[e1];have:l.length/z*z<=l.length:=Nat.div_mul_le_self _ _;omega
   ·cases h2
  ·exact OKh.fail
 ·exact OKh.ret ⟨rfl,rfl,rfl⟩
theorem aJ5 {rows : Rows} {a : Int} {l : Rows} (h1 : a ≤ rows.length) {r : Nat} {row : List Dat} (h : (Sx.over rows a l)[r]? = some row) :
  (r<a.toNat/\rows[r]? =some row)\/(a.toNat<=r/\r<a.toNat+l.length/\l[r-a.toNat]? =some row)\/(a.toNat+l.length<=r/\rows[r]? =some row):=by
 unfold Sx.over at h;have hl:(rows.take a.toNat).length=a.toNat:=by grind
 by_cases c1:r<a.toNat
 ·grind
 ·by_cases c2:r<a.toNat+l.length
  ·grind
  ·rw[bJ3,bI7 (by omega),hl,bI7 (by omega),bL8]at h
   grind
theorem aU5 {rows:Rows}{a:Int}{l:Rows}(h1:a<=rows.length):(Sx.over rows a l).length=Nat.max rows.length (a.toNat+l.length):=by
 unfold Sx.over
 grind
theorem y9.over {e z o k : Nat} {cs : T Value} {rows l : Rows} {news : List Value} (hr : y9 P F e z o k cs rows) {a : Int} (h1 : a ≤ rows.length) (hl : ∀ r ∈ l, r.length = z) (hn : news.length = l.length * z) (hk : o + (a.toNat + l.length) * z ≤ k)
  (hx:∀(r j:Nat) (row:List Dat) (d:Dat),l[r]? =some row->row[j]? =some d-> ∃x,news[r*z+j]? =some x/\ ∀kd,(kf P e)[j]? =some kd->PV P F kd x d):y9 P F e z o k (fill cs (o+a.toNat*z) news) (Sx.over rows a l):=by
 obtain⟨g1,g2,g3,g4⟩:=hr;refine⟨?_,g2,fun r h=>?_,fun r j row d h h'=>?_⟩
 ·rw[aU5 h1]
  grind
 ·obtain⟨q,hq⟩:=bT0 h
  rcases aJ5 h1 hq with⟨_,h⟩| ⟨_,_,h⟩| ⟨_,h⟩
  ·grind
  ·grind
  ·grind
 ·rw[l6,hn]
  rcases aJ5 h1 h with⟨c,h⟩| ⟨c1,c2,h⟩| ⟨c,h⟩
  ·have hj:j<z:=by have:=g3 _ (bI9 h);have:=(bI2.1 h').1;omega
   have:r*z+z<=a.toNat*z:=by rw[<-bO6];exact bJ2 z c
   grind
  ·have hj:j<z:=by have:=hl _ (bI9 h);have:=(bI2.1 h').1;omega
   obtain⟨x,k1,k2⟩:=hx _ j row d h h';have e1:r*z=a.toNat*z+(r-a.toNat)*z:=by rw[<-bL5];congr 1;omega
   grind
  ·have hj:j<z:=by have:=g3 _ (bI9 h);have:=(bI2.1 h').1;omega
   have:(a.toNat+l.length)*z<=r*z:=bJ2 z c
   grind
theorem ai0 {t : TypeId} {ti : TypeInfo} (hti : P.info? t = some ti) {b z fld : Nat} {row : E} {v x : Value} {vs : List SV} (ha : VD P U τ F (.ptr b z row fld) v) (hv : VDL P U τ F vs x.cells.toList) (hx : x.cells.toList.length = ti.size)
  (ho:x.cells.toList.all Value.oneCell'=true) (hs:SD P U τ F s hp):OKh P U (Z6 P U b z row fld vs) τ F s hp fun a _ _ hp'=>a= .tup []/\J7 P hp t v x=some hp':=by
 unfold Z6;refine OKh.read ?_;split
 ·rename_i L0 e z0 ph0 hb0
  cases hq:Nat.ble (fld+vs.length) z&&Nat.beq z (kf P e).length with
  |false=>exact OKh.fail
  |true=>
   simp only[bJ6];simp only[bI0,bL9,bN3]at hq;obtain⟨hf,hz⟩:=hq;refine(am5 (ks:=kf P e) (j:=fld) (fun k a v τ F s hp=>ag2 20 k a v τ F s hp) hv hs).bind fun es τ1 F1 s1 hp1 ex hs1 ⟨e1,e2,e3,e4⟩=>OKh.read ?_
   subst e1;subst e2;split
   ·rename_i L e' z' ph hb
    cases hq:Nat.beq e e'&&Nat.beq z z' with
    |false=>exact OKh.fail
    |true=>
     simp only[bJ6];simp only[bI0,bL9]at hq;obtain⟨rfl,rfl⟩:=hq;cases hT:phT ph L&&Nat.beq z 1&&Nat.beq fld 0&&Nat.beq es.length 1 with
     |true=>
      simp only[bJ6];simp only[bI0,bL9]at hT;obtain⟨⟨⟨_,rfl⟩,rfl⟩,hes⟩:=hT;obtain⟨e0,rfl⟩:∃e0,es=[e0]:=by
       match es,hes with
       | [e0],_=>grind
      refine OKh.bindp OKp.need fun _ s2 o2 hs2 p1=>OKh.bindp OKp.need fun _ s3 o3 hs3 p2=>?_
      have p1:=w9 p1;have p2:=A5 p2;rw[d9]at p1;have hb2:s3.get b=some (.rows L e 1 ph):=by rw[o3.get,o2.get];exact hb
      have ha':=ha.mono ex.t ex.f
      rcases hs3.live b _ hb2 with⟨i,o,y,h1,h2,_,cs,n,rfl,h4,h5⟩| ⟨h1,L',e',z',ph',h2,h3,_⟩
      ·cases ha' with
       |ptr _ _ _ _ i' o' h h0=>
        rw[h1]at h;simp only[bH9,bI1]at h;obtain⟨rfl,rfl⟩:=h;have hph:row.toN U+1<=ph.toN U:=by grind
        have hxl:x.cells.toList.length=1:=by rw[<-hv.1,<-e3];rfl
        have hbound:o+row.toN U*1+0+ti.size<=n:=by grind
        have hst:=ah0 hti hx ho h2 hbound;have hrows:=y9.over (P:=P) (F:=F1) (news:=x.cells.toList) (l:=[[e0.den U]]) (a:=row.toI U) h4 p1 (fun r hr=>by simp at hr;rw[hr];rfl) (by rw[hxl];rfl)
         (by show o+(row.toN U+1)*1<=n;omega) (fun r j q d hr hd=>by
          have hr0:r=0:=by grind
          subst hr0;simp at hr;subst hr;have hj0:j=0:=by grind
          subst hj0;simp at hd;subst hd;obtain⟨y,hy⟩:∃y,x.cells.toList[0]? =some y:=⟨_,bJ1 (by omega)⟩
          refine⟨y,hy,fun kd hkd=>?_⟩
          obtain⟨kd',w1,w2⟩:=e4 0 y e0 hy rfl;rw[<-hz,hkd,bH9]at w1;subst w1;exact w2)
        refine(OKh.change (x':= .rows (.op .over [L,row,.op (.rows 1 1) [e0]]) e 1 ph) (y:= .cells (fill cs (o+row.toN U*1+0) x.cells.toList) n e 1) (m:=hp1.m.set i (some (.cells (fill cs (o+row.toN U*1+0) x.cells.toList) n e 1))) hb2 h1 (fun j hj=>by rw[T.get_set,bJ9 hj]) (by rw[T.get_set,bK1 rfl]) ⟨_,n,rfl,hrows,h5⟩).bind fun _ τ3 F3 s3 hp3 _ _ ⟨w1,w2,w3⟩=>OKh.ret ⟨rfl,?_⟩
        grind
      ·cases ha' with
       |ptr _ _ _ _ i' o' h h0=>grind
     |false=>
     simp only[bJ7];refine OKh.bindp OKp.need fun _ s2 o2 hs2 p1=>?_
     have p1:=A5 p1;rw[d9]at p1;have hb2:s2.get b=some (.rows L e z ph):=by rw[o2.get];exact hb
     have ha':=ha.mono ex.t ex.f
     rcases hs2.live b _ hb2 with⟨i,o,y,h1,h2,_,cs,n,rfl,h4,h5⟩| ⟨h1,L',e',z',ph',h2,h3,_⟩
     ·cases ha' with
      |ptr _ _ _ _ i' o' h h0=>
       rw[h1]at h;simp only[bH9,bI1]at h;obtain⟨rfl,rfl⟩:=h;have hrn:row.toN U<(L.toR U).length:=by grind
       have hle:row.toN U*z+z<=(L.toR U).length*z:=by rw[<-bO6];exact bJ2 z hrn
       have g1:=h4.1;have hbound:o+row.toN U*z+fld+ti.size<=n:=by rw[<-hx,<-hv.1];omega
       have hst:=ah0 hti hx ho h2 hbound;have hrows:=aK8 (P:=P) (F:=F1) h0 (es:=es) (vs:=x.cells.toList) (fld:=fld) h4 (by rw[e3,hv.1]) (by rw[e3];exact hf) (fun q y d hy hd kd hkd=>by
        obtain⟨kd',w1,w2⟩:=e4 q y d hy hd;have hql:q<es.length:=(bI2.1 hd).1;rw[<-hz,bS3 (by omega),hkd,bH9]at w1
        subst w1;exact w2)
       refine(OKh.change (x':= .rows (bz9 L row fld es) e z ph) (m:=hp1.m.set i (some (.cells (fill cs (o+row.toN U*z+fld) x.cells.toList) n e z))) hb2 h1 (fun j hj=>by rw[T.get_set,bJ9 hj]) (by rw[T.get_set,bK1 rfl]) ⟨_,n,rfl,hrows,h5⟩).bind fun _ τ3 F3 s3 hp3 _ _ ⟨w1,w2,w3⟩=>OKh.ret ⟨rfl,?_⟩
       grind
     ·cases ha' with
      |ptr _ _ _ _ i' o' h h0=>grind
   ·exact OKh.fail
 ·exact OKh.fail
theorem ah9 :∀ds:List Dat,(chunk 1 ds.length ds).length=ds.length
 | []=>rfl
 |d::ds=>by simp[chunk,ah9 ds]
theorem bt1 {k:IntKind}{es:List E}{row w:E}{j:Nat}{c:SV}(h0:0<=row.toI U)(hr:row.toN U<es.length)(h:(hset k es row w)[j]? =some c):∃e,c= .int k e/\e.toI U=if j=row.toN U then w.toI U else(es.getD j (.int 0)).toI U:=by
 unfold hset at h;rw[bM9]at h
 by_cases hj:j<es.length
 ·rw[List.getElem?_range hj]at h
  cases h;refine⟨_,rfl,?_⟩;show((aS3 0 _ _).den U).toInt=_;rw[aA3];show(A9 (Sx.over (chunk 1 es.length (E.dens U es)) (row.toI U) (chunk 1 1 [w.den U])) ((j:Nat):Int) 0).toInt=_;have hl:es.length=(E.dens U es).length:=by rw[E.dens_eq,bJ8]
  have hg:=U7 (E.dens U es);rw[<-hl]at hg;have hcl:=ah9 (E.dens U es);rw[<-hl]at hcl;have hro:row.toN U=(row.toI U).toNat:=rfl;unfold A9 Sx.over;rw[bM0,bJ3,bL0 (l:=_++_)];have ht:((chunk 1 es.length (E.dens U es)).take (row.toI U).toNat).length=row.toN U:=by grind
  by_cases e:j=row.toN U
  ·rw[bK1 e,bI7 (by omega),ht,e,bS6];rfl
  ·rw[bJ9 e]
   have key:(List.take (row.toI U).toNat (chunk 1 es.length (E.dens U es))++(chunk 1 1 [w.den U]++List.drop ((row.toI U).toNat+(chunk 1 1 [w.den U]).length) (chunk 1 es.length (E.dens U es))))[j]? =(chunk 1 es.length (E.dens U es))[j]? :=by
    by_cases c:j<row.toN U
    ·grind
    ·rw[bI7 (by omega),ht,bI7 (by show 1<=_;omega),bL8]
     show _[(row.toI U).toNat+1+(j-row.toN U-1)]? =_
     grind
   rw[key,hg,E.dens_eq,bM9,bL0 (l:=es),bJ1 hj];rfl
 ·grind
theorem be0 {t : TypeId} {ti : TypeInfo} (hti : P.info? t = some ti) {b e z' fld : Nat} {l : List SV} {row : E} {v x : Value} {vs : List SV} (hb : s.get b = some (.cells l e z')) (hf : fld ≤ l.length) (ha : VD P U τ F (.ptr b 1 row fld) v) (hv : VDL P U τ F vs x.cells.toList) (hx : x.cells.toList.length = ti.size)
  (ho:x.cells.toList.all Value.oneCell'=true) (hs:SD P U τ F s hp):OKh P U (aO7 U b l e z' row fld vs) τ F s hp fun a _ _ hp'=>a= .tup []/\J7 P hp t v x=some hp':=by
 unfold aO7;split
 ·rename_i k w
  split
  ·rename_i es hes
   obtain⟨q1,q2⟩:=aq2 hes;refine OKh.bindp OKp.need fun _ s2 o2 hs2 hlt=>?_
   have hlt:=A5 hlt;simp only[z8]at hlt;have hb2:s2.get b=some (.cells l e z'):=by rw[o2.get];exact hb
   rcases hs2.live b _ hb2 with⟨i,o,y,h1,h2,_,cs,n,rfl,h4,h5⟩| ⟨h1,L',e',z'',ph',h2,h3,_⟩
   ·cases ha with
    |ptr _ _ _ _ i' o' h h0=>
     rw[h1]at h;simp only[bH9,bI1]at h;obtain⟨rfl,rfl⟩:=h;have hr:row.toN U<es.length:=by grind
     rw[bN1]at q1;have hxl:x.cells.toList.length=1:=by rw[<-hv.1];rfl
     have hst:=ah0 hti hx ho h2 (o:=o+row.toN U*1+fld) (by rw[<-hx,hxl];omega)
     refine(OKh.change (x':= .cells (l.take fld++hset k es row w) e z') (m:=hp.m.set i (some (.cells (fill cs (o+row.toN U*1+fld) x.cells.toList) n e z'))) hb2 h1 (fun j hj=>by rw[T.get_set,bJ9 hj]) (by rw[T.get_set,bK1 rfl])
      ⟨_,n,rfl,?_,fun j c hc=>?_⟩).bind fun _ τ3 F3 s3 hp3 _ _ ⟨w1,w2,w3⟩=>OKh.ret ⟨rfl,?_⟩
     ·simp[hset];omega
     ·have e1:(l.take fld).length=fld:=by simp;omega
      rw[l6,hxl]
      by_cases hj:j<fld
      ·grind
      ·rw[bI7 (by omega),e1]at hc
       obtain⟨c',rfl,hc'⟩:=bt1 h0 hr hc
       by_cases hj2:j-fld=row.toN U
       ·rw[bK1 (by omega)]
        obtain⟨y,w1,w2⟩:=hv.get (i:=0) (a:= .int k w) rfl;refine⟨y,by rw[<-w1];congr 1;omega,?_⟩
        rw[bK1 hj2]at hc';cases w2;exact VD.int' hc'
       ·rw[bJ9 (by omega)]
        rw[bJ9 hj2]at hc';have hlen:=(bI2.1 hc).1;have hje:j-fld<es.length:=by simpa [hset]using hlen
        have q3:=q2 _ _ (bJ1 hje);rw[bL8,show fld+(j-fld)=j by omega]at q3
        obtain⟨y,w1,w2⟩:=h5 _ _ q3;refine⟨y,w1,?_⟩;rw[bL0,bJ1 hje]at hc';cases w2;exact VD.int' hc'
     ·grind
   ·cases h2
  ·exact OKh.fail
 ·exact OKh.fail
theorem bp7 {t:TypeId}{a b:SV}{v x:Value}(ha:VD P U τ F a v)(hb:VD P U τ F b x)(hs:SD P U τ F s hp):OKh P U (bd9 P U t a b) τ F s hp fun c _ _ hp'=>c= .tup []/\J7 P hp t v x=some hp':=by
 unfold bd9;split
 ·exact OKh.fail
 ·rename_i ti hti
  split
  ·exact OKh.fail
  ·rename_i vs hvs
   have hv:=ag1 hb hvs;cases hq:Nat.beq vs.length ti.size&&vs.all aU3 with
   |false=>exact OKh.fail
   |true=>
    simp only[bJ6];simp only[bI0,bL9]at hq;obtain⟨hlen,hone⟩:=hq;have hx:x.cells.toList.length=ti.size:=by rw[<-hv.1];exact hlen
    have ho:=aU4 hv hone;split
    ·rename_i b' z row fld
     refine OKh.read ?_;split
     ·rename_i l e z' hb'
      split
      ·rename_i r
       cases hq:decide (0<=r)&&Nat.ble (r.toNat*z+fld+vs.length) l.length with
       |false=>exact OKh.fail
       |true=>
        simp only[bJ6];simp only[bI0,bK0,bN3]at hq
        rcases hs.live b' _ hb' with⟨i,o,y,h1,h2,_,cs,n,rfl,h4,h5⟩| ⟨h1,L',e',z',ph',h2,h3,_⟩
        ·cases ha with
         |ptr _ _ _ _ i' o' h h0=>
          rw[h1]at h;simp only[bH9,bI1]at h;obtain⟨rfl,rfl⟩:=h;have er:(E.int r).toN U=r.toNat:=rfl;have hst:=ah0 hti hx ho h2 (o:=o+(E.int r).toN U*z+fld) (by rw[er,<-hx,<-hv.1];omega)
          refine(OKh.change (x':= .cells (L8 l (r.toNat*z+fld) vs) e z') (m:=hp.m.set i (some (.cells (fill cs (o+(E.int r).toN U*z+fld) x.cells.toList) n e z'))) hb' h1 (fun j hj=>by rw[T.get_set,bJ9 hj]) (by rw[T.get_set,bK1 rfl])
           ⟨_,n,rfl,?_,fun j c hc=>?_⟩).bind fun _ τ3 F3 s3 hp3 _ _ ⟨w1,w2,w3⟩=>OKh.ret ⟨rfl,?_⟩
          ·unfold L8;simp;omega
          ·unfold L8 at hc
           rw[l6,er]
           by_cases hj:r.toNat*z+fld<=j/\j<r.toNat*z+fld+x.cells.toList.length
           ·rw[bK1 (by omega)]
            have e1:(l.take (r.toNat*z+fld)).length=r.toNat*z+fld:=by grind
            rw[bJ3,bI7 (by omega),bI8 (by rw[e1,hv.1];omega),e1]at hc
            obtain⟨w,w1,w2⟩:=hv.get hc
            grind
           ·rw[bJ9 (by omega)]
            by_cases hj1:j<r.toNat*z+fld
            ·rw[bJ3,bI8 (by simp;omega),bL2,bK1 hj1]at hc
             grind
            ·have e1:(l.take (r.toNat*z+fld)).length=r.toNat*z+fld:=by simp;omega
             rw[bJ3,bI7 (by omega),e1,bI7 (by rw[hv.1];omega),bL8]at hc
             grind
          ·grind
        ·cases h2
      ·cases hq:Nat.beq z 1&& !Nat.beq z' 1&&Nat.ble fld l.length with
       |true=>
        rw[bJ6];simp only[bI0,bL9,bN3]at hq;obtain⟨⟨rfl,_⟩,hf⟩:=hq;exact be0 hti hb' hf ha hv hx ho hs
       |false=>
        rw[bJ7];refine(ad6 hs).bind fun _ τ1 F1 s1 hp1 ex hs1 ⟨e1,e2,e3⟩=>?_
        subst e1;subst e2;subst e3;exact ai0 hti ha hv hx ho hs1
     ·exact ai0 hti ha hv hx ho hs
     ·exact OKh.fail
    ·exact OKh.fail
end
end Go.Sx
namespace Go.Sx
open Go.Xe
def bb2 (e l h:E):E:=match e,l,h with
 | .str p,.int a,.int b=>.str ((p.take b.toNat).drop a.toNat)
 |e,l,h=>.op .ssub [e,l,h]
def K8 (x:Option SV)(d:E):Option E:=match x with
 |none=>some d
 |some (.int _ e)=>some e
 |some _=>none
def aj1 :E->Bool
 | .int n=>decide (n=0)
 |_=>false
section
variable (P :Program)(U:Nat->List Dat->Dat)
def slen (t:TypeId)(x:SV):M SV:=
 match P.underlying t,x with
 |some .string,.str e=>c8 (.int .i64 (U8 e))
 |some (.array n _),_=>c8 (.int .i64 (.int n))
 |some (.slice _),.sl _ _ _ len _=>c8 (.int .i64 len)
 |some (.slice _),.lst _ L _=>c8 (.int .i64 (y6 L))
 |some (.slice _),.nils=>c8 (.int .i64 (.int 0))
 |some (.map _ _),.nilm=>c8 (.int .i64 (.int 0))
 |_,_=>a7 "len"
def scap (t:TypeId)(x:SV):M SV:=
 match P.underlying t,x with
 |some (.slice _),.sl _ _ _ _ (.ex c)=>c8 (.int .i64 c)
 |some (.slice _),.lst _ L true=>c8 (.int .i64 (y6 L))
 |some (.slice _),.nils=>c8 (.int .i64 (.int 0))
 |some (.array n _),_=>c8 (.int .i64 (.int n))
 |_,_=>a7 "cap"
def N8 (l h top:E):M Unit:=a8 (j7 U (u5 (v6 l (.int 0)))) fun _=>a8 (j7 U (u5 (v6 h l))) fun _=>j7 U (u5 (v6 top h))
def aH7 (b z:Nat)(off l h c:E):M SV:=
 bif aj1 l then c8 (.sl b z off h (.ex c))else
  a8 (ad7 U (E5 c l)) fun t=>bif t then c8 (.sl b z off (I0 h l) (.ex (I0 c l)))else c8 (.sl b z (t9 off l) (I0 h l) (.ex (I0 c l)))
def bF4 (e b z : Nat) (off len l h : E) : M SV :=
 bif aj1 l then c8 (.sl b z off h .ge) else
  a8 (ad7 U (v6 l len)) fun t => m9 fun s => match s.get b with
   | some (.rows L e' z' _) => bif Nat.beq e e' && Nat.beq z z' then
     (bif t then c8 (.sl b z (t9 off l) (I0 h l) .ge)else
      a8 (j7 U (u5 (v6 (y6 L) (t9 off len)))) fun _=>a8 (ac2 b none) fun _=>c8 (.lst e (.op .nil []) false))
    else a7 "slice: type"
   |some (.cells _ e' z')=>bif Nat.beq e e'&&Nat.beq z z'&&t then c8 (.sl b z (t9 off l) (I0 h l) .ge)else a7 "slice: cells"
   |_=>a7 "slice: no block"
def bd8 (t : TypeId) (x : SV) (lo hi mx : Option SV) : M SV :=
 match P.underlying t with
 |some .string=>match x,mx with
  | .str e,none=>match K8 lo (.int 0),K8 hi (U8 e)with
   |some l,some h=>a8 (N8 U l h (U8 e)) fun _=>c8 (.str (bb2 e l h))
   |_,_=>a7 "slice: bounds"
  |_,_=>a7 "slice: string"
 | some (.slice e) => match P.info? e with
  |none=>a7 "slice: type"
  | some ie => match x with
   | .nils=>match K8 lo (.int 0),K8 hi (.int 0),mx with
    |some l,some h,none=>a8 (N8 U l h (.int 0)) fun _=>c8 .nils
    |some l,some h,some m=>match K8 (some m) (.int 0),hi with
     |some m,some _=>a8 (N8 U l h m) fun _=>a8 (j7 U (u5 (v6 (.int 0) m))) fun _=>c8 .nils
     |_,_=>a7 "slice: bounds"
    |_,_,_=>a7 "slice: bounds"
   | .sl b z off len cap => bif Nat.beq z ie.size then
     match K8 lo (.int 0),K8 hi len,mx with
     |some l,some h,none=>match cap with
      | .ex c=>a8 (N8 U l h c) fun _=>aH7 U b z off l h c
      | .ge=>a8 (N8 U l h len) fun _=>bF4 U e b z off len l h
      | .un=>a7 "slice: room"
     |some l,some h,some m=>match K8 (some m) (.int 0),hi with
      |some m,some _=>a8 (N8 U l h m) fun _=>a8 (j7 U (u5 (v6 (match cap with| .ex c=>c|_=>len) m))) fun _=>aH7 U b z off l h m
      |_,_=>a7 "slice: bounds"
     |_,_,_=>a7 "slice: bounds"
    else a7 "slice: size"
   | .lst e' L clip => bif Nat.beq e e' && Nat.beq ie.size (kf P e).length then
     match K8 lo (.int 0),K8 hi (y6 L),mx with
     |some l,some h,none=>a8 (N8 U l h (y6 L)) fun _=>a8 (O9 U L l (I0 h l)) fun c=>c8 (.lst e' c (clip&&hi.isNone))
     | some l, some h, some m => match K8 (some m) (.int 0), hi with
      | some m, some _ => a8 (N8 U l h m) fun _ => a8 (j7 U (u5 (v6 (y6 L) m))) fun _ => a8 (bif clip then c8 () else j7 U (v6 (.int 0) (y6 L))) fun _ =>
        a8 (O9 U L l (I0 h l)) fun c=>bif E.like h m then a8 (j7 U (E5 h m)) fun _=>c8 (.lst e' c true)else c8 (.lst e' c false)
      |_,_=>a7 "slice: bounds"
     |_,_,_=>a7 "slice: bounds"
    else a7 "slice: list"
   |_=>a7 "slice: value"
 |_=>a7 "slice: type"
end
section
variable {P :Program}{U:Nat->List Dat->Dat}{τ:Tau}{F:Nat->Option Blk}{s:SS}{hp:Hp}
theorem K5 {t:TypeId}{v w:Value}(h:ax0 P t v=some w)(hm:∀i,v≠ .map (some i)):U4 hp P t v=some w:=by
 unfold U4;split
 ·rename_i i _;exact absurd rfl (hm i)
 ·exact h
theorem PV.slice {e:TypeId}{v:Value}{d:Dat}(h:PV P F (.sl e) v d):∃a c,v= .slice a d.rows.length c:=by
 cases h<;>exact⟨_,_,rfl⟩
theorem bE1 {t:TypeId}{a:SV}{v:Value}(ha:VD P U τ F a v):OKp U (slen P t a) s fun b=>∃w,U4 hp P t v=some w/\VD P U τ F b w:=by
 unfold slen;split
 ·rename_i e ht
  cases ha;refine OKp.ret ⟨.int .i64 ((e.den U).toStr.length:Nat),K5 ?_ (fun i h=>by cases h),VD.int' (J4 e)⟩
  simp[ax0,ht]
 ·rename_i _ _ _ n e ht
  refine OKp.ret ⟨.int .i64 (n:Nat),?_,VD.int' rfl⟩;unfold U4;split
  ·simp_all
  ·simp only[ax0,ht]
 ·rename_i e' b z off len cap ht
  cases ha with
  |sl _ _ _ _ _ i o c h h0 h1 hc=>
   refine OKp.ret ⟨.int .i64 (len.toN U:Nat),K5 ?_ (fun i h=>by cases h),VD.int' (by show len.toI U=((len.toI U).toNat:Int);omega)⟩
   simp[ax0,ht]
  |sl0 _ _ _ _ _ h h0 h1 hc=>
   refine OKp.ret ⟨.int .i64 0,K5 ?_ (fun i h=>by cases h),VD.int' h1⟩
   simp[ax0,ht]
 ·rename_i e' t' L clip ht
  cases ha with
  |lst _ _ _ _ h hc=>
   obtain⟨a,c,rfl⟩:=h.slice;refine OKp.ret ⟨.int .i64 ((L.toR U).length:Nat),K5 ?_ (fun i h=>by cases h),VD.int' (d9 L)⟩
   simp only[ax0,ht];rfl
 ·rename_i e' ht
  cases ha;refine OKp.ret ⟨.int .i64 0,K5 ?_ (fun i h=>by cases h),VD.int' rfl⟩
  simp[ax0,ht]
 ·rename_i k' e' ht
  cases ha;refine OKp.ret ⟨.int .i64 0,K5 ?_ (fun i h=>by cases h),VD.int' rfl⟩
  simp[ax0,ht]
 ·exact OKp.fail
theorem bg1 {e:TypeId}{a:Option Addr}{l:Nat}{d:Dat}(h:PV P F (.sl e) (.slice a l l) d):a=none\/l<unk:=by
 cases h with
 |nils=>grind
 |sl _ i o c b cs n z rows x hF hb hc hn hz hr hx hp=>
  right
  rcases hc.1 with⟨h,_⟩| ⟨lo,h1,h2,h3⟩
  ·exact h
  ·have:=p7 lo 0
   rw[<-h1]at this;unfold unk at*;omega
theorem bD9 {t:TypeId}{a:SV}{v:Value}(ha:VD P U τ F a v):OKp U (scap P t a) s fun b=>∃w,ao5 P t v=some w/\VD P U τ F b w:=by
 unfold scap;split
 ·rename_i e' b z off len c ht
  cases ha with
  |sl _ _ _ _ _ i o c' h h0 h1 hc=>
   obtain⟨k1,k2,k3,k4⟩:=hc;refine OKp.ret ⟨.int .i64 (c':Nat),?_,VD.int' (by rw[k2];show c.toI U=((c.toI U).toNat:Int);omega)⟩
   have:Nat.ble unk c'=false:=by
    cases hb:Nat.ble unk c' with
    |false=>rfl
    |true=>simp_all;omega
   simp only[ao5,ht,this,bJ7]
  |sl0 _ _ _ _ _ h h0 h1 hc=>
   refine OKp.ret ⟨.int .i64 0,?_,VD.int' (hc c rfl)⟩;simp[ao5,ht]
 ·rename_i e' t' L ht
  cases ha with
  |lst _ _ _ _ h hc=>
   obtain⟨a,l,rfl⟩:=hc rfl;have hl:=h.len;refine OKp.ret ⟨.int .i64 (l:Nat),?_,VD.int' (by rw[d9,hl];rfl)⟩
   rcases bg1 h with rfl|hlt
   ·simp only[ao5,ht]
   ·cases a with
    |none=>simp only[ao5,ht]
    |some a=>
     have:Nat.ble unk l=false:=by
      cases hb:Nat.ble unk l with
      |false=>rfl
      |true=>simp_all;omega
     simp only[ao5,ht,this,bJ7]
 ·rename_i e' ht
  cases ha;refine OKp.ret ⟨.int .i64 0,?_,VD.int' rfl⟩;simp[ao5,ht]
 ·rename_i _ _ _ n e' ht
  refine OKp.ret ⟨.int .i64 (n:Nat),?_,VD.int' rfl⟩;simp only[ao5,ht]
 ·exact OKp.fail
def OVD (P:Program)(U:Nat->List Dat->Dat)(τ:Tau)(F:Nat->Option Blk):Option SV->Option Value->Prop
 |none,none=>True
 |some a,some v=>VD P U τ F a v
 |_,_=>False
theorem G3 {l h top:E}:OKp U (N8 U l h top) s fun _=>0<=l.toI U/\l.toI U<=h.toI U/\h.toI U<=top.toI U:=by
 unfold N8;exact OKp.need.bind fun _ _ _ _ h1=>OKp.need.bind fun _ _ _ _ h2=>OKp.need.mono fun _ h3=>⟨P4 h1,w9 h2,w9 h3⟩
theorem am0 {x:Option SV}{v:Option Value}(h:OVD P U τ F x v){d e:E}(he:K8 x d=some e):(v=none/\e=d)\/ ∃k,v=some (.int k (e.toI U)):=by
 unfold K8 at he;split at he
 ·simp only[bH9]at he;subst he
  cases v with
  |none=>grind
  |some v=>exact h.elim
 ·simp only[bH9]at he;subst he
  cases v with
  |none=>exact h.elim
  |some v=>
   have:VD P U τ F (.int _ _) v:=h;cases this;exact .inr ⟨_,rfl⟩
 ·cases he
theorem X3 {k:IntKind}{n:Int}{y:Nat}(h0:0<=n)(h1:n<=y):E9 (.int k n) y=some n.toNat:=by
 show(bif decide (0<=n)&&decide (n<=(y:Int))then some n.toNat else none)=some n.toNat
 grind
theorem E1 {lo hi : Option SV} {vlo vhi : Option Value} (hlo : OVD P U τ F lo vlo) (hhi : OVD P U τ F hi vhi) {l h dl dh : E} (el : K8 lo dl = some l) (eh : K8 hi dh = some h) {len cb : Nat} (h1 : 0 ≤ l.toI U) (h2 : l.toI U ≤ h.toI U) (h3 : h.toI U ≤ cb)
  (hdl:dl.toI U=0) (hdh:hi=none->h.toN U=len):v9 len cb vlo vhi none=some (l.toN U,h.toN U,none):=by
 have ehv:(match vhi with|some v=>E9 v cb|none=>some len)=some (h.toN U):=by
  rcases am0 hhi eh with⟨rfl,rfl⟩| ⟨k,rfl⟩
  ·cases hi with
   |none=>grind
   |some x=>exact hhi.elim
  ·exact X3 (by omega) h3
 have elv:(match vlo with|some v=>E9 v (h.toN U)|none=>some 0)=some (l.toN U):=by
  rcases am0 hlo el with⟨rfl,rfl⟩| ⟨k,rfl⟩
  ·grind
  ·exact X3 h1 (by show l.toI U<=((h.toI U).toNat:Int);omega)
 unfold v9
 grind
theorem M3 {lo hi : Option SV} {vlo vhi : Option Value} {mx : SV} {vm : Value} (hlo : OVD P U τ F lo vlo) (hhi : OVD P U τ F hi vhi) (hmx : VD P U τ F mx vm) {l h m dl dh dm : E} (el : K8 lo dl = some l) (eh : K8 hi dh = some h) (em : K8 (some mx) dm = some m) {len cb : Nat}
  (h1:0<=l.toI U) (h2:l.toI U<=h.toI U) (h3:h.toI U<=m.toI U) (h4:m.toI U<=cb) (hdl:dl.toI U=0) (hh:hi≠none):v9 len cb vlo vhi (some vm)=some (l.toN U,h.toN U,some (m.toN U)):=by
 have emv:E9 vm cb=some (m.toN U):=by
  rcases am0 (x:=some mx) (v:=some vm) hmx em with⟨e,_⟩| ⟨k,e⟩
  ·cases e
  ·cases e;exact X3 (by omega) h4
 have ehv:∃v,vhi=some v/\E9 v (m.toN U)=some (h.toN U):=by
  rcases am0 hhi eh with⟨rfl,rfl⟩| ⟨k,rfl⟩
  ·cases hi with
   |none=>grind
   |some x=>exact hhi.elim
  ·exact⟨_,rfl,X3 (by omega) (by show h.toI U<=((m.toI U).toNat:Int);omega)⟩
 have elv:(match vlo with|some v=>E9 v (h.toN U)|none=>some 0)=some (l.toN U):=by
  rcases am0 hlo el with⟨rfl,rfl⟩| ⟨k,rfl⟩
  ·grind
  ·exact X3 h1 (by show l.toI U<=((h.toI U).toNat:Int);omega)
 obtain⟨v,rfl,ehv⟩:=ehv;unfold v9
 grind
theorem aI3 {e:E}(h:aj1 e=true):e.toI U=0:=by
 unfold aj1 at h;split at h
 ·rename_i n;exact bP8 h
 ·cases h
theorem Z8 {a b:E}(h0:0<=b.toI U):(I0 a b).toN U=a.toN U-b.toN U:=by
 show((I0 a b).toI U).toNat=(a.toI U).toNat-(b.toI U).toNat;rw[p8];omega
theorem ao2 {a b:E}(h0:0<=a.toI U)(h1:0<=b.toI U):(t9 a b).toN U=a.toN U+b.toN U:=by
 show((t9 a b).toI U).toNat=(a.toI U).toNat+(b.toI U).toNat;rw[f8];omega
theorem VD.sl' {b z i o c n a:Nat}{off len:E}{cap:Cp}(h:τ b=some (some (i,o)))(h0:0<=off.toI U)(h1:0<=len.toI U)(hc:az5 U len cap c)(ha:a=o+off.toN U*z)(hn:n=len.toN U):VD P U τ F (.sl b z off len cap) (.slice (some ⟨i,a,none⟩) n c):=by
 subst ha;subst hn;exact .sl b z off len cap i o c h h0 h1 hc
theorem ac9 {b z i o : Nat} {off l h c : E} (hτ : τ b = some (some (i, o))) (h0 : 0 ≤ off.toI U) (h1 : 0 ≤ l.toI U) (h2 : l.toI U ≤ h.toI U) (h3 : h.toI U ≤ c.toI U) (hu : c.toN U < unk) {a : Nat} (ha : a = o + off.toN U * z) :
  OKp U (aH7 U b z off l h c) s fun x=>VD P U τ F x (bif Nat.beq (c.toN U) (l.toN U)then .slice (some ⟨i,a,none⟩) (h.toN U-l.toN U) (c.toN U-l.toN U)else .slice (some ⟨i,a+l.toN U*z,none⟩) (h.toN U-l.toN U) (c.toN U-l.toN U)):=by
 subst ha;unfold aH7;have hcr:az5 U (I0 h l) (.ex (I0 c l)) (c.toN U-l.toN U):=by
  refine⟨by rw[p8];omega,by rw[Z8 h1],by omega,?_⟩
  rw[p8,p8];omega
 cases hz:aj1 l with
 |true=>
  simp only[bJ6];have hl:=aI3 (U:=U) hz;have hl':l.toN U=0:=by grind
  refine OKp.ret ?_;rw[hl'];have hv:VD P U τ F (.sl b z off h (.ex c)) (.slice (some ⟨i,o+off.toN U*z,none⟩) (h.toN U-0) (c.toN U-0)):=VD.sl' hτ h0 (by omega) ⟨by omega,by omega,by omega,h3⟩ rfl (by omega)
  grind
 |false=>
  simp only[bJ7];refine OKp.test.bind fun t _ _ _ ht=>?_
  rw[F8]at ht;cases t with
  |true=>
   simp only[bK0]at ht;simp only[bJ6];refine OKp.ret ?_;rw[t7 (show c.toN U=l.toN U by show(c.toI U).toNat=_;rw[ht]),bJ6]
   exact VD.sl' hτ h0 (by rw[p8];omega) hcr rfl (by rw[Z8 h1])
  |false=>
   simp only[bM7]at ht;simp only[bJ7];refine OKp.ret ?_;rw[u9 (show c.toN U≠l.toN U by show(c.toI U).toNat≠(l.toI U).toNat;omega),bJ7]
   exact VD.sl' hτ (by rw[f8];omega) (by rw[p8];omega) hcr (by rw[ao2 h0 h1,bL5];omega) (by rw[Z8 h1])
theorem aH8 {b z:Nat}{off l h c:E}(hτ:τ b=some none)(h0:off.toI U=0)(h1:0<=l.toI U)(h2:l.toI U<=h.toI U)(h3:h.toI U<=c.toI U)(h4:c.toI U<=0):OKp U (aH7 U b z off l h c) s fun x=>VD P U τ F x (.slice none 0 0):=by
 unfold aH7;cases hz:aj1 l with
 |true=>
  simp only[bJ6];exact OKp.ret (.sl0 b z off h (.ex c) hτ h0 (by omega) (fun e he=>by cases he;omega))
 |false=>
  simp only[bJ7];refine OKp.test.bind fun t _ _ _ ht=>?_
  have hs:(I0 h l).toI U=0:=by rw[p8];omega
  have hc:∀e,Cp.ex (I0 c l)= .ex e->e.toI U=0:=fun e he=>by cases he;rw[p8];omega
  cases t with
  |true=>exact OKp.ret (.sl0 b z off _ _ hτ h0 hs hc)
  |false=>exact OKp.ret (.sl0 b z _ _ _ hτ (by rw[f8];omega) hs hc)
end
end Go.Sx
namespace Go.Sx
open Go.Xe
section
variable {P :Program}{U:Nat->List Dat->Dat}{τ:Tau}{F:Nat->Option Blk}{s:SS}{hp:Hp}
theorem ay4 {n:Nat}(h:n<=67108864):n<unk:=by unfold unk;omega
theorem V9 {a b:Nat}(h:b<a):Nat.ble a b=false:=by
 cases hb:Nat.ble a b with
 |false=>rfl
 |true=>simp_all;omega
theorem az3 (lo:Nat):I6 (c7 lo 0)=lo:=G4 D7
theorem aR5 (lo:Nat):C3 (c7 lo 0)=0:=F5 D7
theorem bb3 (e l h:E):((bb2 e l h).den U).toStr=((e.den U).toStr.take (h.toN U)).drop (l.toN U):=by
 unfold bb2;split<;>rfl
variable (P U) in
def bf9 (hp:Hp)(t:TypeId)(v:Value)(lo hi mx:Option Value)(c:SV)(τ:Tau)(F:Nat->Option Blk)(hp':Hp):Prop:=hp'=hp/\ ∃w,q9 P hp t v lo hi mx=some (w,hp)/\VD P U τ F c w
theorem OKp.slice {m:M SV}{t:TypeId}{v:Value}{lo hi mx:Option Value}(h:OKp U m s fun c=>∃w,q9 P hp t v lo hi mx=some (w,hp)/\VD P U τ F c w):OKh P U m τ F s hp (bf9 P U hp t v lo hi mx):=
 (h.up (P:=P) (τ:=τ) (F:=F) (hp:=hp)).mono fun _ _ _ _ _ _ ⟨e1,e2,e3,h⟩=>by subst e1;subst e2;subst e3;exact⟨rfl,h⟩
theorem X8 {t e : TypeId} {ie : TypeInfo} (ht : P.underlying t = some (.slice e)) (hi : P.info? e = some ie) {i a len cap : Nat} (hu : cap < unk) (hl : len ≤ cap) {lo hi' mx : Option Value} {l h : Nat} {m : Option Nat} (hb : v9 len cap lo hi' mx = some (l, h, m)) :
  q9 P hp t (.slice (some ⟨i,a,none⟩) len cap) lo hi' mx=some (bif Nat.beq (m.getD cap) l then .slice (some ⟨i,a,none⟩) (h-l) (m.getD cap-l)else .slice (some ⟨i,a+l*ie.size,none⟩) (h-l) (m.getD cap-l),hp):=by
 simp only[q9,ht,hi];rw[V9 hu,bJ7,bI6 hl,bJ6,hb]
 grind
theorem ak9 {t e : TypeId} {ie : TypeInfo} (ht : P.underlying t = some (.slice e)) (hi : P.info? e = some ie) {i a len lo0 : Nat} (hl0 : lo0 ≤ 67108864) (hl : len ≤ 67108864) {lo hi' mx : Option Value} {l h m : Nat} (hb : v9 len (Nat.max lo0 len) lo hi' mx = some (l, h, some m)) :
  q9 P hp t (.slice (some ⟨i,a,none⟩) len (c7 lo0 0)) lo hi' mx=some (bif Nat.beq m l then .slice (some ⟨i,a,none⟩) (h-l) (m-l)else .slice (some ⟨i,a+l*ie.size,none⟩) (h-l) (m-l),hp):=by
 simp only[q9,ht,hi];rw[bI6 (p7 lo0 0),bJ6,az3,bI6 (Nat.max_le.2 ⟨hl0,hl⟩),bJ6,hb]
 grind
theorem aa8 {t e : TypeId} {ie : TypeInfo} (ht : P.underlying t = some (.slice e)) (hi : P.info? e = some ie) {i a len lo0 : Nat} (hl0 : lo0 ≤ 67108864) (hl : len ≤ 67108864) {lo hi' : Option Value} {l h : Nat} (hb : v9 len (Nat.max lo0 len) lo hi' none = some (l, h, none)) :
  q9 P hp t (.slice (some ⟨i,a,none⟩) len (c7 lo0 0)) lo hi' none=bif Nat.beq l 0 then some (.slice (some ⟨i,a,none⟩) h (c7 (Nat.max lo0 len) 0),hp)else
   bif Nat.beq l (Nat.max lo0 len)then some (.slice (some ⟨0,0,some 0⟩) 0 unk,hp)else match hp.m.get i with
    |some (.cells _ _ _ z')=>bif Nat.beq z' ie.size then some (.slice (some ⟨i,a+l*ie.size,none⟩) (h-l) (c7 (Nat.max lo0 len-l) (0-l)),hp)else none
    |_=>none:=by
 simp only[q9,ht,hi];rw[bI6 (p7 lo0 0),bJ6,az3,aR5,bI6 (Nat.max_le.2 ⟨hl0,hl⟩),bJ6,hb];rfl
theorem H2 {t e:TypeId}{ie:TypeInfo}(ht:P.underlying t=some (.slice e))(hi:P.info? e=some ie){lo hi' mx:Option Value}{r:Nat×Nat×Option Nat}(hb:v9 0 0 lo hi' mx=some r):q9 P hp t (.slice none 0 0) lo hi' mx=some (.slice none 0 0,hp):=by
 simp only[q9,ht,hi];rw[hb];rfl
theorem aQ3 {t e : TypeId} {ie : TypeInfo} (ht : P.underlying t = some (.slice e)) (hi : P.info? e = some ie) {lo hi' : Option Value} {l h : Nat} (hb : v9 0 0 lo hi' none = some (l, h, none)) :
  q9 P hp t (.slice (some ⟨0,0,some 0⟩) 0 unk) lo hi' none=some (.slice (some ⟨0,0,some 0⟩) 0 unk,hp):=by
 simp only[q9,ht,hi];rw[hb]
theorem W3 {a b n:Nat}(h:a<=n)(k:b<=n):Nat.max a b<=n:=Nat.max_le.2 ⟨h,k⟩
theorem R0 (a b:Nat):b<=Nat.max a b:=bO9 a b
theorem PV.cut {e i a c n z zb : Nat} {b : Blk} {cs : T Value} {rows : Rows} {x : Nat → Nat → Value} (hF : F i = some b) (hb : arr b = some (cs, n, zb)) (hn : a + rows.length * z ≤ n) (hz : z = (kf P e).length) (hr : ∀ r ∈ rows, r.length = z)
  (hx:∀(r k:Nat) (row:List Dat) (d:Dat),rows[r]? =some row->row[k]? =some d->cs.get (a+r*z+k)=some (x r k))
  (hp:∀(r k:Nat) (row:List Dat) (kd:Kd) (d:Dat),rows[r]? =some row->row[k]? =some d->(kf P e)[k]? =some kd->PV P F kd (x r k) d) {l len:Int} (h0:0<=l) (h1:0<=len) (h2:l+len<=rows.length) (hc:aH5 len.toNat c/\roC b c zb z):
  PV P F (.sl e) (.slice (some ⟨i,a+l.toNat*z,none⟩) len.toNat c) (.lst (part rows l len)):=by
 have hl:=O0 h0 h1 h2;have := PV.sl (P := P) (F := F) e i (a + l.toNat * z) c b cs n z (part rows l len) (fun r k => x (l.toNat + r) k) hF hb (by rw [hl]; exact hc)
  (by rw [hl]
      have:l.toNat*z+len.toNat*z<=rows.length*z:=by rw[<-bL5];exact bJ2 z (by omega)
      omega) hz (fun r h=>hr r (bQ6 (bQ5 h)))
  (fun r k row d h1 h2=>by rw[<-hx _ k row d (W5 h1) h2];congr 1;rw[bL5];omega) (fun r k row kd d h1 h2 h3=>hp _ k row kd d (W5 h1) h2 h3)
 grind
theorem PV.cut0 {e i a c n z zb:Nat}{b:Blk}{cs:T Value}(hF:F i=some b)(hb:arr b=some (cs,n,zb))(hn:a<=n)(hz:z=(kf P e).length)(hc:aH5 0 c/\roC b c zb z):PV P F (.sl e) (.slice (some ⟨i,a,none⟩) 0 c) (.lst []):=
 PV.sl (P:=P) (F:=F) e i a c b cs n z [] (fun _ _=>undef) hF hb hc (by simpa using hn) hz (fun r h=>by simp at h) (fun r k row d h=>by simp at h) (fun r k row kd d h=>by simp at h)
theorem K0 {rows:Rows}{l len:Int}(h:len<=0):part rows l len=[]:=by
 unfold part
 simp_all
theorem bn6 {t e : TypeId} {ie : TypeInfo} (ht : P.underlying t = some (.slice e)) (hie : P.info? e = some ie) (hsz : ie.size = (kf P e).length) (hfrz : ∀ i b, F i = some b → hp.m.get i = some b) {v : Value} {rows : Rows} (hv : PV P F (.sl e) v (.lst rows)) {lo hi : Option SV} {vlo vhi : Option Value}
  (hlo:OVD P U τ F lo vlo) (hhi:OVD P U τ F hi vhi) {l h dh:E} (el:K8 lo (.int 0)=some l) (eh:K8 hi dh=some h) (hdh:dh.toI U=rows.length) (h1:0<=l.toI U) (h2:l.toI U<=h.toI U) (h3:h.toI U<=rows.length):
  ∃w,q9 P hp t v vlo vhi none=some (w,hp)/\PV P F (.sl e) w (.lst (part rows (l.toI U) (h.toI U-l.toI U)))/\((∃a n,v= .slice a n n)->hi=none-> ∃a n,w= .slice a n n):=by
 have hlh:hi=none->h.toN U=rows.length:=fun hn=>by
  subst hn;simp only[K8,bH9]at eh;subst eh
  grind
 have el1:l.toI U=((l.toN U:Nat):Int):=by grind
 have eh1:h.toI U=((h.toN U:Nat):Int):=by grind
 have ed:(h.toI U-l.toI U).toNat=h.toN U-l.toN U:=by omega
 cases hv with
 |nils=>
  simp only[bS7]at h3;refine⟨.slice none 0 0,H2 ht hie (E1 hlo hhi el eh h1 h2 h3 rfl hlh),?_,fun _ _=>⟨_,_,rfl⟩⟩
  rw[K0 (by omega)];exact .nils e
 |vague=>
  simp only[bS7]at h3;refine⟨_,aQ3 ht hie (E1 hlo hhi el eh h1 h2 h3 rfl hlh),?_,fun⟨a,n,e⟩ _=>?_⟩
  ·rw[K0 (by omega)];exact .vague e
  ·cases e
 | sl _ i o c b cs n z _ x hF hb hc hn hz hr hx hp' =>
  have hg:=hfrz i b hF;obtain⟨hc,hro⟩:=hc
  rcases hc with⟨c1,c2⟩| ⟨lo0,rfl,c2,c3⟩
  ·have hxs:=X8 (hp:=hp) (i:=i) (a:=o) ht hie c1 c2 (E1 hlo hhi el eh h1 h2 (show h.toI U<=(c:Int) by omega) rfl hlh)
   simp only[Option.getD_none]at hxs;refine⟨_,hxs,?_,fun⟨a,m,e1⟩ hn'=>?_⟩
   ·by_cases hcl:c=l.toN U
    ·rw[t7 hcl,bJ6,K0 (by omega),show h.toN U-l.toN U=0 by omega]
     exact PV.cut0 hF hb (by omega) hz ⟨.inl ⟨by omega,by omega⟩,fun _=>by omega,hro.2⟩
    ·rw[u9 hcl,bJ7,<-ed,hsz,<-hz]
     exact PV.cut (l:=l.toI U) (len:=h.toI U-l.toI U) hF hb hn hz hr hx hp' h1 (by omega) (by omega) ⟨.inl ⟨by omega,by rw[ed];omega⟩,fun _=>by omega,hro.2⟩
   ·grind
  ·have hnr : S7 b = false := by
    cases h:S7 b with
    |false=>rfl
    |true=>have h1:=hro.1 h;have h2:=p7 lo0 0;omega
   have hmx':=R0 lo0 rows.length;have hmy:=W3 c2 c3;have hxs:=aa8 (hp:=hp) (i:=i) (a:=o) ht hie c2 c3 (E1 hlo hhi el eh h1 h2 (show h.toI U<=((Nat.max lo0 rows.length:Nat):Int) by omega) rfl hlh)
   have noclip:(∃a n,Value.slice (some ⟨i,o,none⟩) rows.length (c7 lo0 0)= .slice a n n)->False:=fun⟨a,m,e1⟩=>by
    have hge:=p7 lo0 0;simp only[Value.slice.injEq]at e1;obtain⟨_,e2,e3⟩:=e1;rw[<-e2]at e3;unfold unk at hge;omega
   by_cases hl0:l.toN U=0
   ·rw[t7 hl0,bJ6]at hxs
    refine⟨_,hxs,?_,fun h _=>(noclip h).elim⟩
    have:=PV.cut (c:=c7 (Nat.max lo0 rows.length) 0) hF hb hn hz hr hx hp' h1 (show 0<=h.toI U-l.toI U by omega) (by omega) ⟨.inr ⟨_,rfl,hmy,by omega⟩,fun h=>(by rw[hnr]at h;cases h),hro.2⟩
    grind
   ·by_cases hlm:l.toN U=Nat.max lo0 rows.length
    ·rw[u9 hl0,bJ7,t7 hlm,bJ6]at hxs
     refine⟨_,hxs,?_,fun h _=>(noclip h).elim⟩
     rw[K0 (by omega)];exact .vague e
    ·rw[u9 hl0,bJ7,u9 hlm,bJ7,hg]at hxs
     cases b with
     |cells c2' n2 e2 z2=>
      simp only[arr,rdC,bH9,bI1]at hb;obtain⟨rfl,rfl,rfl⟩:=hb;have ezb:z2=z:=hro.2 rfl;subst ezb;simp only[t7 (show z2=ie.size by omega),bJ6,Nat.zero_sub]at hxs
      refine⟨_,hxs,?_,fun h _=>(noclip h).elim⟩
      rw[<-ed,hsz,<-hz];exact PV.cut (l:=l.toI U) (len:=h.toI U-l.toI U) hF rfl hn hz hr hx hp' h1 (by omega) (by omega) ⟨.inr ⟨_,rfl,by omega,by rw[ed];omega⟩,.mk⟩
     |ro=>cases hnr
     |_=>simp[arr,rdC]at hb
theorem bn7 {t e : TypeId} {ie : TypeInfo} (ht : P.underlying t = some (.slice e)) (hie : P.info? e = some ie) (hsz : ie.size = (kf P e).length) {v : Value} {rows : Rows} (hv : PV P F (.sl e) v (.lst rows)) (hnv : rows ≠ [] ∨ ∃ a n, v = .slice a n n) {lo hi : Option SV} {vlo vhi : Option Value} {mx : SV} {vm : Value}
  (hlo:OVD P U τ F lo vlo) (hhi:OVD P U τ F hi vhi) (hmx:VD P U τ F mx vm) {l h m dh dm:E} (el:K8 lo (.int 0)=some l) (eh:K8 hi dh=some h) (em:K8 (some mx) dm=some m) (hh:hi≠none) (h1:0<=l.toI U) (h2:l.toI U<=h.toI U) (h3:h.toI U<=m.toI U) (h4:m.toI U<=rows.length):
  ∃w,q9 P hp t v vlo vhi (some vm)=some (w,hp)/\PV P F (.sl e) w (.lst (part rows (l.toI U) (h.toI U-l.toI U)))/\(h.toI U=m.toI U-> ∃a n,w= .slice a n n):=by
 have el1:l.toI U=((l.toN U:Nat):Int):=by grind
 have eh1:h.toI U=((h.toN U:Nat):Int):=by grind
 have em1:m.toI U=((m.toN U:Nat):Int):=by grind
 have ed:(h.toI U-l.toI U).toNat=h.toN U-l.toN U:=by omega
 have fin:∀ {i o:Nat},h.toI U=m.toI U-> ∃a n,(bif Nat.beq (m.toN U) (l.toN U)then Value.slice (some ⟨i,o,none⟩) (h.toN U-l.toN U) (m.toN U-l.toN U)else .slice (some ⟨i,o+l.toN U*ie.size,none⟩) (h.toN U-l.toN U) (m.toN U-l.toN U))= .slice a n n:=by
  intro i o e1;have:h.toN U=m.toN U:=by omega
  rw[this];cases Nat.beq (m.toN U) (l.toN U)<;>exact⟨_,_,rfl⟩
 cases hv with
 |nils=>
  simp only[bS7]at h4;refine⟨.slice none 0 0,H2 ht hie (M3 hlo hhi hmx el eh em h1 h2 h3 h4 rfl hh),?_,fun _=>⟨_,_,rfl⟩⟩
  rw[K0 (by omega)];exact .nils e
 |vague=>
  rcases hnv with h| ⟨a,n,e⟩
  ·grind
  ·cases e
 |sl _ i o c b cs n z _ x hF hb hc hn hz hr hx hp'=>
  obtain⟨hc,hro⟩:=hc;have key:PV P F (.sl e) (bif Nat.beq (m.toN U) (l.toN U)then Value.slice (some ⟨i,o,none⟩) (h.toN U-l.toN U) (m.toN U-l.toN U)else .slice (some ⟨i,o+l.toN U*ie.size,none⟩) (h.toN U-l.toN U) (m.toN U-l.toN U)) (.lst (part rows (l.toI U) (h.toI U-l.toI U)))\/ ¬m.toN U<unk:=by
   by_cases hu:m.toN U<unk
   ·left
    by_cases hcl:m.toN U=l.toN U
    ·rw[t7 hcl,bJ6,K0 (by omega),show h.toN U-l.toN U=0 by omega]
     exact PV.cut0 hF hb (by omega) hz ⟨.inl ⟨by omega,by omega⟩,fun _=>by omega,hro.2⟩
    ·rw[u9 hcl,bJ7,<-ed,hsz,<-hz]
     exact PV.cut (l:=l.toI U) (len:=h.toI U-l.toI U) hF hb hn hz hr hx hp' h1 (by omega) (by omega) ⟨.inl ⟨by omega,by rw[ed];omega⟩,fun _=>by omega,hro.2⟩
   ·grind
  rcases hc with⟨c1,c2⟩| ⟨lo0,rfl,c2,c3⟩
  ·have hxs:=X8 (hp:=hp) (i:=i) (a:=o) ht hie c1 c2 (M3 hlo hhi hmx el eh em h1 h2 h3 (show m.toI U<=(c:Int) by omega) rfl hh)
   grind
  ·have hmx':=R0 lo0 rows.length
   have hxs:=ak9 (hp:=hp) (i:=i) (a:=o) ht hie c2 c3 (M3 hlo hhi hmx el eh em h1 h2 h3 (show m.toI U<=((Nat.max lo0 rows.length:Nat):Int) by omega) rfl hh)
   exact⟨_,hxs,key.resolve_right (fun h=>h (ay4 (by omega))),fin⟩
theorem bp6 {t : TypeId} {a : SV} {v : Value} {lo hi mx : Option SV} {vlo vhi vmx : Option Value} (ha : VD P U τ F a v) (hlo : OVD P U τ F lo vlo) (hhi : OVD P U τ F hi vhi) (hmx : OVD P U τ F mx vmx) (hs : SD P U τ F s hp) :
  OKh P U (bd8 P U t a lo hi mx) τ F s hp (bf9 P U hp t v vlo vhi vmx):=by
 unfold bd8;split
 ·
  rename_i ht;split
  ·rename_i e
   cases vmx with
   |some v=>exact hmx.elim
   |none=>
    split
    ·rename_i l h el eh
     refine OKp.slice (G3.bind fun _ _ _ _ hb=>OKp.ret ?_)
     obtain⟨h1,h2,h3⟩:=hb;rw[J4]at h3;cases ha;refine⟨.string ⟨(((e.den U).toStr.take (h.toN U)).drop (l.toN U)).toArray⟩,?_,VD.str' (bb3 e l h)⟩;simp only[q9,ht];rw[E1 hlo hhi el eh h1 h2 h3 rfl (fun hn=>by
      subst hn;simp only[K8,bH9]at eh;subst eh;show((U8 e).toI U).toNat=_;rw[J4];omega)]
    ·exact OKh.fail
  ·exact OKh.fail
 ·rename_i e ht
  split
  ·exact OKh.fail
  ·rename_i ie hie
   split
   ·
    cases ha;split
    ·rename_i l h el eh
     cases vmx with
     |some v=>exact hmx.elim
     |none=>
      refine OKp.slice (G3.bind fun _ _ _ _ hb=>OKp.ret ⟨.slice none 0 0,?_,.nils⟩)
      obtain⟨h1,h2,h3⟩:=hb;refine H2 ht hie (E1 hlo hhi el eh h1 h2 h3 rfl (fun hn=>?_))
      subst hn;simp only[K8,bH9]at eh;subst eh;rfl
    ·rename_i l h m' el eh
     cases vmx with
     |none=>exact hmx.elim
     |some vm=>
      split
      ·rename_i m x em
       refine OKp.slice (G3.bind fun _ _ _ _ hb=>OKp.need.bind fun _ _ _ _ hm=>OKp.ret ⟨.slice none 0 0,?_,.nils⟩)
       obtain⟨h1,h2,h3⟩:=hb;have hm:=w9 hm;exact H2 ht hie (M3 hlo hhi hmx el eh em h1 h2 h3 hm rfl (by simp))
      ·exact OKh.fail
    ·exact OKh.fail
   ·
    rename_i b z off len cap;cases hz:Nat.beq z ie.size with
    |false=>exact OKh.fail
    |true=>
     simp only[bJ6];have hz':z=ie.size:=bI4 hz;split
     ·rename_i l h el eh
      cases vmx with
      |some v=>exact hmx.elim
      |none=>
       split
       ·
        rename_i c;refine OKh.bindp G3 fun _ s1 _ hs1 hb=>OKp.slice ?_
        obtain⟨h1,h2,h3⟩:=hb;cases ha with
        |sl _ _ _ _ _ i o c' hτ h0 h0' hc=>
         obtain⟨c1,c2,c3,c4⟩:=hc;subst c2;refine(ac9 hτ h0 h1 h2 h3 c3 rfl).mono fun x hx=>⟨_,?_,hx⟩
         rw[X8 ht hie c3 (show len.toN U<=c.toN U by show(len.toI U).toNat<=(c.toI U).toNat;omega)
          (E1 hlo hhi el eh h1 h2 (show h.toI U<=((c.toN U:Nat):Int) by show h.toI U<=(((c.toI U).toNat:Nat):Int);omega) rfl (fun hn=>by subst hn;simp only[K8,bH9]at eh;subst eh;rfl))]
         subst hz';rfl
        |sl0 _ _ _ _ _ hτ h0 h0' hc=>
         have hc:=hc c rfl;refine(aH8 hτ h0 h1 h2 h3 (by omega)).mono fun x hx=>⟨_,?_,hx⟩
         refine H2 ht hie (E1 hlo hhi el eh h1 h2 (by omega) rfl (fun hn=>?_))
         subst hn;simp only[K8,bH9]at eh;subst eh;show(len.toI U).toNat=0;omega
       ·
        refine OKh.bindp G3 fun _ s1 o1 hs1 hb=>?_
        obtain⟨h1,h2,h3⟩:=hb;have hlh:hi=none->h.toN U=len.toN U:=fun hn=>by subst hn;simp only[K8,bH9]at eh;subst eh;rfl
        unfold bF4;cases hzl:aj1 l with
        |true=>
         simp only[bJ6];have hl:=aI3 (U:=U) hzl;have hl':l.toN U=0:=by show(l.toI U).toNat=0;rw[hl];rfl
         refine OKp.slice (OKp.ret ?_);cases ha with
         |sl _ _ _ _ _ i o c' hτ h0 h0' hc=>
          obtain⟨lo0,rfl,c1,c2⟩:=hc;have hln:len.toN U<=67108864:=by show(len.toI U).toNat<=_;omega
          have hmy:=W3 c1 hln;have hb:=E1 hlo hhi el eh h1 h2 (show h.toI U<=((Nat.max lo0 (len.toN U):Nat):Int) by
           have:=R0 lo0 (len.toN U);have e1:len.toI U=((len.toN U:Nat):Int):=by show len.toI U=((len.toI U).toNat:Int);omega
           omega) rfl hlh
          refine⟨_,by rw[aa8 ht hie c1 hln hb,hl',t7 rfl,bJ6],?_⟩
          exact VD.sl' hτ h0 (by omega) ⟨Nat.max lo0 (len.toN U),rfl,by omega,by omega⟩ rfl rfl
         |sl0 _ _ _ _ _ hτ h0 h0' hc=>
          refine⟨.slice none 0 0,H2 ht hie (E1 hlo hhi el eh h1 h2 (by omega) rfl (fun hn=>by rw[hlh hn];show(len.toI U).toNat=0;omega)),?_⟩
          exact .sl0 b z off h .ge hτ h0 (by omega) (fun e he=>by cases he)
        |false=>
         simp only[bJ7];refine OKh.bindp OKp.test fun tt s2 o2 hs2 htt=>OKh.read ?_
         rw[C8]at htt;split
         ·rename_i L e' z' ph hb
          cases hq:Nat.beq e e'&&Nat.beq z z' with
          |false=>exact OKh.fail
          |true=>
           simp only[bJ6];simp only[bI0,bL9]at hq;obtain⟨rfl,rfl⟩:=hq
           rcases hs2.live b _ hb with⟨i,o,y,k1,k2,kF,cs,n,rfl,k4,k5⟩| ⟨k1,L',e',z',ph',k2,k3,k4,k5⟩
           ·cases ha with
            |sl _ _ _ _ _ i' o' c' hτ h0 h0' hc=>
             rw[k1]at hτ;simp only[bH9,bI1]at hτ;obtain⟨rfl,rfl⟩:=hτ;obtain⟨lo0,rfl,c1,c2⟩:=hc;have hln:len.toN U<=67108864:=by show(len.toI U).toNat<=_;omega
             have e1:len.toI U=((len.toN U:Nat):Int):=by show len.toI U=((len.toI U).toNat:Int);omega
             have el1:l.toI U=((l.toN U:Nat):Int):=by show l.toI U=((l.toI U).toNat:Int);omega
             have hmx':=R0 lo0 (len.toN U);have hmy:=W3 c1 hln;have hbd:=E1 hlo hhi el eh h1 h2 (show h.toI U<=((Nat.max lo0 (len.toN U):Nat):Int) by omega) rfl hlh
             have hx:=aa8 (hp:=hp) (i:=i) (a:=o+off.toN U*z) ht hie c1 hln hbd;cases tt with
             |true=>
              simp only[bJ6];simp only[bK0]at htt;refine OKp.slice (OKp.ret ?_)
              by_cases hl0:l.toN U=0
              ·rw[t7 hl0,bJ6]at hx
               refine⟨_,hx,VD.sl' k1 (by rw[f8];omega) (by rw[p8];omega) ⟨Nat.max lo0 (len.toN U),rfl,by omega,by rw[p8];omega⟩ ?_ ?_⟩
               ·rw[ao2 h0 h1,hl0];simp
               ·rw[Z8 h1,hl0];simp
              ·rw[u9 hl0,bJ7,u9 (by omega),bJ7,k2]at hx
               simp only[t7 hz',bJ6,Nat.zero_sub]at hx;refine⟨_,hx,VD.sl' k1 (by rw[f8];omega) (by rw[p8];omega) ⟨Nat.max lo0 (len.toN U)-l.toN U,rfl,by omega,by rw[p8];omega⟩ ?_ ?_⟩
               ·rw[ao2 h0 h1,bL5,hz'];omega
               ·rw[Z8 h1]
             |false=>
              simp only[bJ7];simp only[bM7]at htt;refine OKh.bindp OKp.need fun _ s3 o3 hs3 p1=>?_
              have p1:=w9 p1;rw[f8,d9]at p1;have hb3:s3.get b=some (.rows L e z ph):=by rw[o3.get];exact hb
              refine(OKh.freeze hb3 k1 k2).bind fun _ τ2 F2 s4 hp2 ex hs4 ⟨f1,f2,f3⟩=>?_
              subst f1;subst f2;refine OKh.ret ⟨rfl,?_⟩;have hll:l.toN U=len.toN U:=by omega
              have hhh:h.toN U-l.toN U=0:=by
               have:h.toI U=l.toI U:=by omega
               show(h.toI U).toNat-(l.toI U).toNat=0;rw[this];omega
              have han:o+off.toN U*z+l.toN U*z<=n:=by
               have g1:=k4.1;have:off.toN U*z+l.toN U*z<=(L.toR U).length*z:=by
                rw[<-bL5];exact bJ2 z (by show(off.toI U).toNat+l.toN U<=_;omega)
               omega
              have hnil:(E.op .nil []).toR U=[]:=rfl
              by_cases hl0:l.toN U=0
              ·rw[t7 hl0,bJ6]at hx
               have hh0:h.toN U=0:=by omega
               rw[hh0]at hx;refine⟨_,hx,.lst e _ false _ ?_ (fun h=>by cases h)⟩
               rw[hnil];exact PV.cut0 f3 rfl (by omega) k4.2.1 ⟨.inr ⟨_,rfl,by omega,by omega⟩,.mk⟩
              ·by_cases hlm:l.toN U=Nat.max lo0 (len.toN U)
               ·rw[u9 hl0,bJ7,t7 hlm,bJ6]at hx
                refine⟨_,hx,.lst e _ false _ ?_ (fun h=>by cases h)⟩
                rw[hnil];exact .vague e
               ·rw[u9 hl0,bJ7,u9 hlm,bJ7,k2]at hx
                simp only[t7 hz',bJ6,Nat.zero_sub,hhh]at hx;refine⟨_,hx,.lst e _ false _ ?_ (fun h=>by cases h)⟩
                rw[hnil,<-hz'];exact PV.cut0 f3 rfl han k4.2.1 ⟨.inr ⟨_,rfl,by omega,by omega⟩,.mk⟩
            |sl0 _ _ _ _ _ hτ h0 h0' hc=>rw[k1]at hτ;cases hτ
           ·cases ha with
            |sl _ _ _ _ _ i' o' c' hτ h0 h0' hc=>rw[k1]at hτ;cases hτ
            |sl0 _ _ _ _ _ hτ h0 h0' hc=>
             have hx:q9 P hp t (.slice none 0 0) vlo vhi none=some (.slice none 0 0,hp):=H2 ht hie (E1 hlo hhi el eh h1 h2 (by omega) rfl (fun hn=>by rw[hlh hn];show(len.toI U).toNat=0;omega))
             cases tt with
             |true=>simp only[bK0]at htt;omega
             |false=>
              simp only[bJ7];refine OKh.bindp OKp.need fun _ s3 o3 hs3 p1=>?_
              refine OKh.drop.bind fun _ τ2 F2 s4 hp2 ex hs4 ⟨f1,f2,f3⟩=>?_
              subst f1;subst f2;subst f3;exact OKh.ret ⟨rfl,_,hx,.lst e _ false _ (.nils e) (fun h=>by cases h)⟩
         ·rename_i cl e' z' hb
          cases hq:Nat.beq e e'&&Nat.beq z z'&&tt with
          |false=>exact OKh.fail
          |true=>
           simp only[bJ6];simp only[bI0,bL9]at hq;obtain⟨⟨rfl,rfl⟩,rfl⟩:=hq;simp only[bK0]at htt
           rcases hs2.live b _ hb with⟨i,o,y,k1,k2,kF,cs,n,rfl,k4,k5⟩| ⟨k1,L',e',z',ph',k2,k3,k4,k5⟩
           ·cases ha with
            |sl _ _ _ _ _ i' o' c' hτ h0 h0' hc=>
             rw[k1]at hτ;simp only[bH9,bI1]at hτ;obtain⟨rfl,rfl⟩:=hτ;obtain⟨lo0,rfl,c1,c2⟩:=hc;have hln:len.toN U<=67108864:=by show(len.toI U).toNat<=_;omega
             have e1:len.toI U=((len.toN U:Nat):Int):=by show len.toI U=((len.toI U).toNat:Int);omega
             have el1:l.toI U=((l.toN U:Nat):Int):=by show l.toI U=((l.toI U).toNat:Int);omega
             have hmx':=R0 lo0 (len.toN U);have hmy:=W3 c1 hln;have hbd:=E1 hlo hhi el eh h1 h2 (show h.toI U<=((Nat.max lo0 (len.toN U):Nat):Int) by omega) rfl hlh
             have hx:=aa8 (hp:=hp) (i:=i) (a:=o+off.toN U*z) ht hie c1 hln hbd;refine OKp.slice (OKp.ret ?_)
             by_cases hl0:l.toN U=0
             ·rw[t7 hl0,bJ6]at hx
              refine⟨_,hx,VD.sl' k1 (by rw[f8];omega) (by rw[p8];omega) ⟨Nat.max lo0 (len.toN U),rfl,by omega,by rw[p8];omega⟩ ?_ ?_⟩
              ·rw[ao2 h0 h1,hl0];simp
              ·rw[Z8 h1,hl0];simp
             ·rw[u9 hl0,bJ7,u9 (by omega),bJ7,k2]at hx
              simp only[t7 hz',bJ6,Nat.zero_sub]at hx;refine⟨_,hx,VD.sl' k1 (by rw[f8];omega) (by rw[p8];omega) ⟨Nat.max lo0 (len.toN U)-l.toN U,rfl,by omega,by rw[p8];omega⟩ ?_ ?_⟩
              ·rw[ao2 h0 h1,bL5,hz'];omega
              ·rw[Z8 h1]
            |sl0 _ _ _ _ _ hτ h0 h0' hc=>rw[k1]at hτ;cases hτ
           ·cases k2
         ·exact OKh.fail
       ·exact OKh.fail
     ·rename_i l h m' el eh
      cases vmx with
      |none=>exact hmx.elim
      |some vm=>
       split
       ·rename_i m x em
        refine OKh.bindp G3 fun _ s1 _ hs1 hb=>OKh.bindp OKp.need fun _ s2 _ hs2 hm=>OKp.slice ?_
        obtain⟨h1,h2,h3⟩:=hb;have hm:=w9 hm;cases ha with
        |sl _ _ _ _ _ i o c' hτ h0 h0' hc=>
         cases cap with
         |ex c=>
          obtain⟨c1,c2,c3,c4⟩:=hc;subst c2;have hm':m.toI U<=((c.toN U:Nat):Int):=by have:m.toI U<=c.toI U:=hm;show m.toI U<=(((c.toI U).toNat:Nat):Int);omega
          have hmu:m.toN U<unk:=by show(m.toI U).toNat<unk;have:c.toN U<unk:=c3;omega
          refine(ac9 hτ h0 h1 h2 h3 hmu rfl).mono fun x hx=>⟨_,?_,hx⟩
          rw[X8 ht hie c3 (show len.toN U<=c.toN U by show(len.toI U).toNat<=(c.toI U).toNat;omega) (M3 hlo hhi hmx el eh em h1 h2 h3 hm' rfl (by simp))]
          subst hz';rfl
         |ge=>
          obtain⟨lo0,rfl,c1,c2⟩:=hc;have hm:m.toI U<=len.toI U:=hm;have hln:len.toN U<=67108864:=by show(len.toI U).toNat<=_;omega
          have e1:len.toI U=((len.toN U:Nat):Int):=by show len.toI U=((len.toI U).toNat:Int);omega
          have hmx':=R0 lo0 (len.toN U);have hmy:=W3 c1 hln;have hmu:m.toN U<unk:=ay4 (by show(m.toI U).toNat<=_;omega)
          refine(ac9 hτ h0 h1 h2 h3 hmu rfl).mono fun x hx=>⟨_,?_,hx⟩
          rw[ak9 ht hie c1 hln (M3 hlo hhi hmx el eh em h1 h2 h3 (by omega) rfl (by simp))]
          subst hz';rfl
         |un=>
          have hm:m.toI U<=len.toI U:=hm
          rcases hc with⟨c3,rfl,c2⟩| ⟨lo0,rfl,c1,c2⟩
          ·have hm':m.toI U<=((len.toN U:Nat):Int):=by show m.toI U<=(((len.toI U).toNat:Nat):Int);omega
           have hmu:m.toN U<unk:=by show(m.toI U).toNat<unk;have:(len.toI U).toNat<unk:=c3;omega
           refine(ac9 hτ h0 h1 h2 h3 hmu rfl).mono fun x hx=>⟨_,?_,hx⟩
           rw[X8 ht hie c3 (bK2 _) (M3 hlo hhi hmx el eh em h1 h2 h3 hm' rfl (by simp))]
           subst hz';rfl
          ·have hln:len.toN U<=67108864:=by show(len.toI U).toNat<=_;omega
           have e1:len.toI U=((len.toN U:Nat):Int):=by show len.toI U=((len.toI U).toNat:Int);omega
           have hmx':=R0 lo0 (len.toN U);have hmy:=W3 c1 hln;have hmu:m.toN U<unk:=ay4 (by show(m.toI U).toNat<=_;omega)
           refine(ac9 hτ h0 h1 h2 h3 hmu rfl).mono fun x hx=>⟨_,?_,hx⟩
           rw[ak9 ht hie c1 hln (M3 hlo hhi hmx el eh em h1 h2 h3 (by omega) rfl (by simp))]
           subst hz';rfl
        |sl0 _ _ _ _ _ hτ h0 h0' hc=>
         have hm0:m.toI U<=0:=by
          cases cap with
          |ex c=>have:=hc c rfl;have hm:m.toI U<=c.toI U:=hm;omega
          |ge=>have hm:m.toI U<=len.toI U:=hm;omega
          |un=>have hm:m.toI U<=len.toI U:=hm;omega
         exact(aH8 hτ h0 h1 h2 h3 hm0).mono fun x hx=>⟨_,H2 ht hie (M3 hlo hhi hmx el eh em h1 h2 h3 (by omega) rfl (by simp)),hx⟩
       ·exact OKh.fail
     ·exact OKh.fail
   ·
    rename_i e' L clip;cases hq:Nat.beq e e'&&Nat.beq ie.size (kf P e).length with
    |false=>exact OKh.fail
    | true =>
     simp only[bJ6];simp only[bI0,bL9]at hq;obtain⟨rfl,hsz⟩:=hq;cases ha with
     | lst _ _ _ _ hv hc =>
      split
      ·rename_i l h el eh
       cases vmx with
       |some v=>exact hmx.elim
       | none =>
        refine OKp.slice (G3.bind fun _ _ _ _ hb=>z6.bind fun c _ _ _ hcd=>OKp.ret ?_)
        obtain⟨h1,h2,h3⟩:=hb;rw[d9]at h3;obtain⟨w,w1,w2,w3⟩:=bn6 (hp:=hp) ht hie hsz hs.frz hv hlo hhi el eh (d9 L) h1 h2 h3;refine⟨w,w1,.lst e c _ w ?_ (fun hcl=>?_)⟩
        ·have : c.toR U = part (L.toR U) (l.toI U) (h.toI U - l.toI U) := by
          show(c.den U).rows=_;rw[hcd,p8];rfl
         rw[this];exact w2
        ·simp only[bI0]at hcl
         exact w3 (hc hcl.1) (by cases hi with|none=>rfl|some x=>simp at hcl)
      ·rename_i l h m' el eh
       cases vmx with
       |none=>exact hmx.elim
       |some vm=>
        split
        ·rename_i m x em
         refine OKp.slice (G3.bind fun _ _ _ _ hb=>OKp.need.bind fun _ _ _ _ hm=>?_)
         obtain⟨h1,h2,h3⟩:=hb;have hm:=w9 hm;rw[d9]at hm;refine OKp.bind (R:=fun _=>L.toR U≠ []\/ ∃a n,v= .slice a n n) ?_ fun _ _ _ _ hnv=>?_
         ·cases clip with
          |true=>exact OKp.ret (.inr (hc rfl))
          |false=>
           refine OKp.need.mono fun _ h=>.inl fun h'=>?_
           have:=A5 h;rw[d9,h']at this;simp[z8]at this
         ·refine z6.bind fun c _ _ _ hcd=>?_
          obtain⟨w,w1,w2,w3⟩:=bn7 (hp:=hp) ht hie hsz hv hnv hlo hhi hmx el eh em (by simp) h1 h2 h3 hm
          have hcR:c.toR U=part (L.toR U) (l.toI U) (h.toI U-l.toI U):=by
           show(c.den U).rows=_;rw[hcd,p8];rfl
          rw[<-hcR]at w2;cases E.like h m with
          |true=>
           simp only[bJ6];exact OKp.need.bind fun _ _ _ _ hem=>OKp.ret ⟨w,w1,.lst e c true w w2 (fun _=>w3 (af7 hem))⟩
          |false=>exact OKp.ret ⟨w,w1,.lst e c false w w2 (fun h=>by cases h)⟩
        ·exact OKh.fail
      ·exact OKh.fail
   ·exact OKh.fail
 ·exact OKh.fail
end
end Go.Sx
