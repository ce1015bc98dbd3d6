/- The symbolic engine, parts 1, 2, 3, 4, 5, 6, 7, 8, 9, 10, 11, 12.
  Conditions: none. -/
import Derived.Test.YtcjhhnoaoldcmaaXm3
set_option linter.unusedSimpArgs false
set_option linter.unusedVariables false
namespace Go.Sx
abbrev Nd (p q:Prop):Prop:=p/\(p->q)
abbrev I64 (x:Int):Prop:=(¬x< -9223372036854775808)/\x<9223372036854775808
inductive Dat where
 |int (n:Int)
 |bool (b:Bool)
 |str (s:List UInt8)
 |lst (rows:List (List Dat))
instance : Inhabited Dat:=⟨.int 0⟩
def Dat.toInt (d:Dat):Int:=match d with| .int n=>n|_=>0
def Dat.toBool (d:Dat):Bool:=match d with| .bool b=>b|_=>false
def Dat.toStr (d:Dat):List UInt8:=match d with| .str s=>s|_=>[]
def Dat.rows (d:Dat):List (List Dat):=match d with| .lst l=>l|_=>[]
abbrev Rows:=List (List Dat)
def A1 (L:Rows)(i:Int)(j:Nat):Dat:=(L.getD i.toNat []).getD j (.int 0)
def setAt (L:Rows)(i:Int)(j:Nat)(d:Dat):Rows:=L.modify i.toNat (fun r=>r.set j d)
def part (L:Rows)(a n:Int):Rows:=(L.drop a.toNat).take n.toNat
def over (L:Rows)(a:Int)(l:Rows):Rows:=L.take a.toNat++l++L.drop (a.toNat+l.length)
def chunk (z:Nat):Nat->List Dat->Rows
 |0,_=>[]
 |n+1,l=>l.take z::chunk z n (l.drop z)
inductive KV where
 |i (n:Int)
 |s (l:List UInt8)
 deriving DecidableEq
def KV.dat (k:KV):Dat:=match k with| .i n=>.int n| .s l=>.str l
def Dat.kv (d:Dat):KV:=match d with| .int n=>.i n| .str l=>.s l|_=>.i 0
def ac4 (z:Nat)(r:List Dat):List KV:=(r.take z).map Dat.kv
def mhasR :Rows->List KV->Bool
 | [],_=>false
 |r::L,ks=>decide (ac4 ks.length r=ks)||mhasR L ks
def mgetR :Rows->List KV->Dat->Dat
 | [],_,d=>d
 |r::L,ks,d=>if ac4 ks.length r=ks then r.getD ks.length (.int 0)else mgetR L ks d
def mputR :Rows->List KV->Dat->Rows
 | [],ks,v=>[ks.map KV.dat++ [v]]
 |r::L,ks,v=>if ac4 ks.length r=ks then(ks.map KV.dat++ [v])::L else r::mputR L ks v
def midxR :Rows->List KV->Nat
 | [],_=>0
 |r::L,ks=>if ac4 ks.length r=ks then 0 else midxR L ks+1
def runeAt (l:List UInt8)(i:Int):Int:=(Utf8.decode ⟨l.toArray⟩ i.toNat).1
def runeW (l:List UInt8)(i:Int):Int:=(Utf8.decode ⟨l.toArray⟩ i.toNat).2
inductive Sy where
 |add|sub|mul|tdiv|tmod
 |wrap (k:IntKind)
 |bits (op:BinOp) (k:IntKind)
 |shl (k:IntKind)|shr (k:IntKind)
 |lt|eqi|eqb|eqs|lts
 |not|and|or
 |len|get (j:Nat)|upd (j:Nat)|nil|app|part|over
 |rows (n z:Nat)|rep
 |slen|sidx|sapp|ssub|srune|srw
 |castI|castB|castS|castL
 |mhas|mget|mput|mix
 |user (n:Nat)
inductive E where
 |int (n:Int)
 |bool (c:Bool)
 |str (l:List UInt8)
 |var (n:Nat)
 |dat (n:Nat) (d:Dat)
 |op (o:Sy) (as:List E)
instance : Inhabited E:=⟨.int 0⟩
section
variable (U :Nat->List Dat->Dat)
def Sy.den (o:Sy)(as:List Dat):Dat:=
 match o with
 | .add=>match as with| [a,b]=>.int (a.toInt+b.toInt)|_=>.int 0
 | .sub=>match as with| [a,b]=>.int (a.toInt-b.toInt)|_=>.int 0
 | .mul=>match as with| [a,b]=>.int (a.toInt*b.toInt)|_=>.int 0
 | .tdiv=>match as with| [a,b]=>.int (a.toInt.tdiv b.toInt)|_=>.int 0
 | .tmod=>match as with| [a,b]=>.int (a.toInt.tmod b.toInt)|_=>.int 0
 | .wrap k=>match as with| [a]=>.int (k.wrap a.toInt)|_=>.int 0
 | .bits op k=>match as with| [a,b]=>.int (Go.bits op k a.toInt b.toInt)|_=>.int 0
 | .shl k=>match as with| [a,b]=>.int (k.wrap (a.toInt*2^(min b.toInt.toNat k.bits)))|_=>.int 0
 | .shr k=>match as with| [a,b]=>.int (a.toInt.fdiv (2^(min b.toInt.toNat k.bits)))|_=>.int 0
 | .lt=>match as with| [a,b]=>.bool (decide (a.toInt<b.toInt))|_=>.int 0
 | .eqi=>match as with| [a,b]=>.bool (decide (a.toInt=b.toInt))|_=>.int 0
 | .eqb=>match as with| [a,b]=>.bool (a.toBool==b.toBool)|_=>.int 0
 | .eqs=>match as with| [a,b]=>.bool (a.toStr==b.toStr)|_=>.int 0
 | .lts=>match as with| [a,b]=>.bool (Op.bytesLess a.toStr b.toStr)|_=>.int 0
 | .not=>match as with| [a]=>.bool (!a.toBool)|_=>.int 0
 | .and=>match as with| [a,b]=>.bool (a.toBool&&b.toBool)|_=>.int 0
 | .or=>match as with| [a,b]=>.bool (a.toBool||b.toBool)|_=>.int 0
 | .len=>match as with| [l]=>.int l.rows.length|_=>.int 0
 | .get j=>match as with| [l,i]=>A1 l.rows i.toInt j|_=>.int 0
 | .upd j=>match as with| [l,i,c]=>.lst (setAt l.rows i.toInt j c)|_=>.int 0
 | .nil=>.lst []
 | .app=>match as with| [l,m]=>.lst (l.rows++m.rows)|_=>.int 0
 | .part=>match as with| [l,a,n]=>.lst (Sx.part l.rows a.toInt n.toInt)|_=>.int 0
 | .over=>match as with| [l,a,m]=>.lst (Sx.over l.rows a.toInt m.rows)|_=>.int 0
 | .rows n z=>.lst (chunk z n as)
 | .rep=>match as with|n::cs=>.lst (List.replicate n.toInt.toNat cs)|_=>.int 0
 | .slen=>match as with| [s]=>.int s.toStr.length|_=>.int 0
 | .sidx=>match as with| [s,i]=>.int ((s.toStr.getD i.toInt.toNat 0).toNat:Int)|_=>.int 0
 | .sapp=>match as with| [s,t]=>.str (s.toStr++t.toStr)|_=>.int 0
 | .ssub=>match as with| [s,a,b]=>.str ((s.toStr.take b.toInt.toNat).drop a.toInt.toNat)|_=>.int 0
 | .srune=>match as with| [s,i]=>.int (runeAt s.toStr i.toInt)|_=>.int 0
 | .srw=>match as with| [s,i]=>.int (runeW s.toStr i.toInt)|_=>.int 0
 | .castI=>match as with| [a]=>.int a.toInt|_=>.int 0
 | .castB=>match as with| [a]=>.bool a.toBool|_=>.int 0
 | .castS=>match as with| [a]=>.str a.toStr|_=>.int 0
 | .castL=>match as with| [a]=>.lst a.rows|_=>.int 0
 | .mhas=>match as with|l::ks=>.bool (mhasR l.rows (ks.map Dat.kv))|_=>.int 0
 | .mget=>match as with|l::d::ks=>mgetR l.rows (ks.map Dat.kv) d|_=>.int 0
 | .mput=>match as with|l::v::ks=>.lst (mputR l.rows (ks.map Dat.kv) v)|_=>.int 0
 | .mix=>match as with|l::ks=>.int (midxR l.rows (ks.map Dat.kv):Nat)|_=>.int 0
 | .user n=>U n as
mutual
def E.den :E->Dat
 | .int n=>.int n
 | .bool c=>.bool c
 | .str l=>.str l
 | .var _=>.int 0
 | .dat _ d=>d
 | .op o as=>o.den U (E.dens as)
def E.dens :List E->List Dat
 | []=>[]
 |a::as=>a.den::E.dens as
end
theorem E.dens_eq :∀as:List E,E.dens U as=as.map (E.den U)
 | []=>rfl
 |a::as=>by simp[E.dens,E.dens_eq as]
def E.pr :E->Prop
 | .bool c=>c=true
 | .op .lt [a,b]=>(a.den U).toInt<(b.den U).toInt
 | .op .eqi [a,b]=>(a.den U).toInt=(b.den U).toInt
 | .op .eqs [a,b]=>(a.den U).toStr=(b.den U).toStr
 | .op .not [a]=>¬a.pr
 | .op .and [a,b]=>a.pr/\b.pr
 | .op .or [a,b]=>a.pr\/b.pr
 |e=>(e.den U).toBool=true
theorem E.pr_iff (e:E):e.pr U↔(e.den U).toBool=true:=by
 fun_induction E.pr U e with
 |case1 c=>simp[E.den,Dat.toBool]
 |case2 a b=>simp[E.den,E.dens,Sy.den,Dat.toBool]
 |case3 a b=>simp[E.den,E.dens,Sy.den,Dat.toBool]
 |case4 a b=>simp[E.den,E.dens,Sy.den,Dat.toBool]
 |case5 a ih=>simp[E.den,E.dens,Sy.den,Dat.toBool,ih]
 |case6 a b ih1 ih2=>simp[E.den,E.dens,Sy.den,Dat.toBool,ih1,ih2]
 |case7 a b ih1 ih2=>simp[E.den,E.dens,Sy.den,Dat.toBool,ih1,ih2]
 |case8 e _ _ _ _ _ _ _=>exact Iff.rfl
def Sy.like :Sy->Sy->Bool
 | .add,.add| .sub,.sub| .mul,.mul| .tdiv,.tdiv| .tmod,.tmod| .lt,.lt| .eqi,.eqi| .eqb,.eqb| .eqs,.eqs| .lts,.lts| .not,.not| .and,.and| .or,.or
 | .len,.len| .nil,.nil| .app,.app| .part,.part| .over,.over| .rep,.rep| .slen,.slen| .sidx,.sidx| .sapp,.sapp| .ssub,.ssub| .srune,.srune| .srw,.srw| .castI,.castI| .castB,.castB| .castS,.castS| .castL,.castL| .mhas,.mhas| .mget,.mget| .mput,.mput| .mix,.mix=>true
 | .shr k,.shr k'=>decide (k=k')
 | .wrap k,.wrap k'=>decide (k=k')
 | .shl k,.shl k'=>decide (k=k')
 | .bits o k,.bits o' k'=>decide (o=o')&&decide (k=k')
 | .get j,.get j'=>Nat.beq j j'
 | .upd j,.upd j'=>Nat.beq j j'
 | .user j,.user j'=>Nat.beq j j'
 | .rows n z,.rows n' z'=>Nat.beq n n'&&Nat.beq z z'
 |_,_=>false
mutual
def E.like :E->E->Bool
 | .int n,.int m=>decide (n=m)
 | .bool p,.bool q=>p==q
 | .str p,.str q=>p==q
 | .var n,.var m=>Nat.beq n m
 | .dat n _,.dat m _=>Nat.beq n m
 | .op o as,.op o' bs=>Sy.like o o'&&E.likes as bs
 |_,_=>false
def E.likes :List E->List E->Bool
 | [],[]=>true
 |a::as,b::bs=>E.like a b&&E.likes as bs
 |_,_=>false
end
inductive So where
 |i|b|s|l
 deriving DecidableEq
inductive Lab where
 |e (c:E)
 |p (name:String) (as:List E)
 |q (a b:E)
 |pt (name:String) (gs:List (List (So×E)))
 |mu (name:String) (g a b:List (So×E))
inductive Tr (α:Type) where
 |ret (a:α)
 |done
 |fail (s:String)
 |br (c:E) (t e:Tr α)
 |need (l:Lab) (p:Prop) (t:Tr α)
 |asm (l:Lab) (p:Prop) (t:Tr α)
 |both (t e:Tr α)
 |all (k:So) (n:Nat) (f:E->Tr α)
def Tr.bind {α β:Type}:Tr α->(α->Tr β)->Tr β
 | .ret a,k=>k a
 | .done,_=>.done
 | .fail s,_=>.fail s
 | .br c t e,k=>.br c (t.bind k) (e.bind k)
 | .need l p t,k=>.need l p (t.bind k)
 | .asm l p t,k=>.asm l p (t.bind k)
 | .both t e,k=>.both (t.bind k) (e.bind k)
 | .all o n f,k=>.all o n fun e=>(f e).bind k
def Tr.vc {α:Type}:Tr α->(α->Prop)->Prop
 | .ret a,Q=>Q a
 | .done,_=>True
 | .fail _,_=>False
 | .br c t e,Q=>(c.pr U->t.vc Q)/\(¬c.pr U->e.vc Q)
 | .need _ p t,Q=>p/\(p->t.vc Q)
 | .asm _ p t,Q=>p->t.vc Q
 | .both t e,Q=>t.vc Q/\e.vc Q
 | .all .i n f,Q=>∀x:Int,(f (.dat n (.int x))).vc Q
 | .all .b n f,Q=>∀x:Bool,(f (.dat n (.bool x))).vc Q
 | .all .s n f,Q=>∀x:List UInt8,(f (.dat n (.str x))).vc Q
 | .all .l n f,Q=>∀x:Rows,(f (.dat n (.lst x))).vc Q
theorem Tr.vc_bind {α β:Type}(t:Tr α)(k:α->Tr β)(Q:β->Prop):(t.bind k).vc U Q↔t.vc U fun a=>(k a).vc U Q:=by
 induction t with
 |ret a=>exact Iff.rfl
 |done=>exact Iff.rfl
 |fail s=>exact Iff.rfl
 |br c t e h1 h2=>simp only[Tr.bind,Tr.vc,h1,h2]
 |need l p t h=>simp only[Tr.bind,Tr.vc,h]
 |asm l p t h=>simp only[Tr.bind,Tr.vc,h]
 |both t e h1 h2=>simp only[Tr.bind,Tr.vc,h1,h2]
 |all k n f h=>cases k<;>simp only[Tr.bind,Tr.vc,h]
theorem Tr.vc_mono {α:Type}(t:Tr α){Q R:α->Prop}(hq:∀a,Q a->R a):t.vc U Q->t.vc U R:=by
 induction t with
 |ret a=>exact hq a
 |done=>exact id
 |fail s=>exact id
 |br c t e h1 h2=>exact fun h=>⟨fun x=>h1 (h.1 x),fun x=>h2 (h.2 x)⟩
 |need l p t h=>exact fun x=>⟨x.1,fun y=>h (x.2 y)⟩
 |asm l p t h=>exact fun x y=>h (x y)
 |both t e h1 h2=>exact fun h=>⟨h1 h.1,h2 h.2⟩
 |all k n f h=>cases k<;>exact fun x y=>h _ (x y)
end
end Go.Sx
namespace Go.Sx
open Go.Xe
inductive Cp where
 |ex (e:E)
 |ge
 |un
inductive SV where
 |any
 |int (k:IntKind) (e:E)
 |bool (e:E)
 |str (e:E)
 |nilp
 |ptr (b z:Nat) (row:E) (fld:Nat)
 |pptr (t:TypeId) (L row:E) (fld:Nat)
 |rp (row:E) (fld:Nat)
 |rpq (e:E)
 |rv (L:E) (z:Nat)
 |nils
 |sl (b z:Nat) (off len:E) (cap:Cp)
 |lst (t:TypeId) (L:E) (clip:Bool)
 |agg (l:List SV)
 |tup (l:List SV)
 |fn (f:Fn) (a b:List SV)
 |nilf
 |map (b:Nat)
 |nilm
 |iface (t:TypeId) (v:SV)
 |nili
 |yld (ks:List Nat) (vs:List SV) (g:FuncId) (nt:Nat) (ps:List Nat) (as bo:Code)
instance : Inhabited SV:=⟨.any⟩
def lk {α:Type}:List (Nat×α)->Nat->Option α
 | [],_=>none
 | (k,a)::l,n=>bif Nat.beq k n then some a else lk l n
mutual
def noY :SV->Bool
 | .yld _ _ _ _ _ _ _=>false
 | .agg l=>noYs l
 | .tup l=>noYs l
 | .fn _ a b=>noYs a&&noYs b
 | .iface _ v=>noY v
 |_=>true
def noYs :List SV->Bool
 | []=>true
 |a::l=>noY a&&noYs l
end
inductive Kd where
 |int (k:IntKind)
 |bool
 |str
 |sl (e:TypeId)
 |rp
 |bad
 deriving DecidableEq
def kd1 (P:Program)(t:TypeId):Kd:=match P.underlying t with
 |some (.int k)=>.int k
 |some .bool=>.bool
 |some .string=>.str
 |some (.slice e)=>.sl e
 |some (.pointer e)=>bif Nat.beq e rgT then .rp else .bad
 |_=>.bad
def kdF (f:TypeId->List Kd):List Field->List Kd
 | []=>[]
 |x::xs=>f x.type++kdF f xs
def kds (P:Program):Nat->TypeId->List Kd
 |0,_=>[.bad]
 |d+1,t=>match P.underlying t with
  |some (.struct fs)=>kdF (kds P d) fs.toList
  |some (.array n e)=>(List.replicate n (kds P d e)).flatten
  |_=>[kd1 P t]
def kf (P:Program)(t:TypeId):List Kd:=kds P 20 t
def bC5 (P:Program)(f:Field):Option Kd:=bif f.name== "_" then none else match P.underlying f.type with
 |some (.int k)=>some (.int k)
 |some .string=>some .str
 |_=>none
def ax8 (P:Program):Nat->List Field->Option (List Kd)
 |_,[]=>some []
 |o,f::fs=>bif Nat.beq f.offset o then match bC5 P f with
  |some k=>match ax8 P (o+1) fs with
   |some ks=>some (k::ks)
   |none=>none
  |none=>none
  else none
def M6 (P:Program)(kt:TypeId):Option (Bool×List Kd):=
 match P.underlying kt with
 |some (.int k)=>some (false,[.int k])
 |some (.struct fs)=>bif P.stoodInHeld kt then none else match ax8 P 0 fs.toList with
  |some ks=>some (true,ks)
  |none=>none
 |_=>none
def kv1 (k:Kd)(x:KV):Value:=match x with
 | .s l=>.string ⟨l.toArray⟩
 | .i n=>match k with| .int k=>.int k n|_=>.int .i64 n
def ac5 :List Kd->List KV->Bool
 | [],[]=>true
 |k::ps,x::ks=>(match k,x with| .int _,.i _=>true| .str,.s _=>true|_,_=>false)&&ac5 ps ks
 |_,_=>false
def Y0 (ps:List Kd)(ks:List KV):List Value:=List.zipWith kv1 ps ks
def ab2 (sh:Bool×List Kd)(ks:List KV):Value:=bif sh.1 then .agg (Y0 sh.2 ks).toArray else(Y0 sh.2 ks).headD undef
inductive v9 where
 |cells (l:List SV) (e z:Nat)
 |rows (L:E) (e z:Nat) (ph:E)
 |map (L:E) (kt vt:TypeId)
 |iter (s pos:E)
 |reg (b:Nat) (L:E) (z:Nat)
structure SS where
 h:List (Nat×Option v9)
 nx:Nat
 fc:List (E×Bool)
 fv:Nat
 fz:List (Nat×E×TypeId×Nat)
def SS.get (s:SS)(b:Nat):Option v9:=match lk s.h b with|some x=>x|none=>none
def SS.set (s:SS)(b:Nat)(x:Option v9):SS:= {s with h:=(b,x)::s.h}
theorem v6 {α:Type}(k n:Nat)(a:α)(l:List (Nat×α)):lk ((k,a)::l) n=if k=n then some a else lk l n:=by
 by_cases h:k=n
 ·rw[bH6 h,lk,j9 h];rfl
 ·rw[bH4 h,lk,u6 h];rfl
theorem U1 {α:Type}{b:Nat}{x:α}:∀ {l:List (Nat×α)},lk l b=some x->(b,x)∈l
 | [],h=>by cases h
 | (k,y)::l,h=>by
  rw[v6]at h;split at h
  ·rename_i e;subst e;simp only[bF4]at h;subst h;simp
  ·exact bL3 _ (U1 h)
theorem SS.get_set (s:SS)(b c:Nat)(x:Option v9):(s.set b x).get c=if c=b then x else s.get c:=by
 unfold SS.get SS.set;simp only[v6]
 by_cases h:b=c
 ·subst h;simp
 ·rw[bH4 h,bH4 (fun e=>h e.symm)]
def arr (b:Blk):Option (T Value×Nat×Nat):=rdC b
def roC (b:Blk)(c zb z:Nat):Prop:=(Q1 b=true->c<unk)/\(Q1 b=false->zb=z)
theorem roC.mk {b:Blk}{c z:Nat}(h:Q1 b=false:=by rfl):roC b c z z:=⟨fun e=>(by rw[h]at e;cases e),fun _=>rfl⟩
def aG0 (l c:Nat):Prop:=(c<unk/\l<=c)\/(∃lo,c=d8 lo 0/\lo<=67108864/\l<=67108864)
section
variable (P :Program)
inductive PV (F : Nat → Option Blk) : Kd → Value → Dat → Prop
 |int (k:IntKind) (n:Int):PV F (.int k) (.int k n) (.int n)
 |bool (b:Bool):PV F .bool (.bool b) (.bool b)
 |str (s:List UInt8):PV F .str (.string ⟨s.toArray⟩) (.str s)
 |nils (e:TypeId):PV F (.sl e) (.slice none 0 0) (.lst [])
 |rp (k:Nat):PV F .rp (.pointer (some ⟨k,0,some 1⟩)) (.int k)
 |rpn:PV F .rp (.pointer none) (.int (-1))
 |vague (e:TypeId):PV F (.sl e) (.slice (some ⟨0,0,some 0⟩) 0 unk) (.lst [])
 | sl (e : TypeId) (i o c : Nat) (b : Blk) (cs : T Value) (n z : Nat) {zb : Nat} (rows : Rows) (x : Nat → Nat → Value) (hF : F i = some b) (hb : arr b = some (cs, n, zb)) (hc : aG0 rows.length c ∧ roC b c zb z)
   (hn:o+rows.length*z<=n) (hz:z=(kf P e).length) (hr:∀r∈rows,r.length=z)
   (hx:∀(r k:Nat) (row:List Dat) (d:Dat),rows[r]? =some row->row[k]? =some d->cs.get (o+r*z+k)=some (x r k))
   (hp:∀(r k:Nat) (row:List Dat) (kd:Kd) (d:Dat),rows[r]? =some row->row[k]? =some d->(kf P e)[k]? =some kd->PV F kd (x r k) d):
   PV F (.sl e) (.slice (some ⟨i,o,none⟩) rows.length c) (.lst rows)
def Fle (F F':Nat->Option Blk):Prop:=∀i b,F i=some b->F' i=some b
theorem Fle.refl (F:Nat->Option Blk):Fle F F:=fun _ _ h=>h
theorem Fle.trans {F G H:Nat->Option Blk}(h:Fle F G)(k:Fle G H):Fle F H:=fun i b e=>k i b (h i b e)
theorem PV.mono {F F':Nat->Option Blk}(h:Fle F F'){k:Kd}{v:Value}{d:Dat}(p:PV P F k v d):PV P F' k v d:=by
 induction p with
 |int k n=>exact .int k n
 |bool b=>exact .bool b
 |str s=>exact .str s
 |nils e=>exact .nils e
 |rp k=>exact .rp k
 |rpn=>exact .rpn
 |vague e=>exact .vague e
 |sl e i o c b cs n z rows x hF hb hc hn hz hr hx _ ih=>exact .sl e i o c b cs n z rows x (h _ _ hF) hb hc hn hz hr hx ih
abbrev Tau:=Nat->Option (Option (Nat×Nat))
variable (U :Nat->List Dat->Dat)
abbrev E.toI (e:E):Int:=(e.den U).toInt
abbrev E.toN (e:E):Nat:=(e.den U).toInt.toNat
abbrev E.toR (e:E):Rows:=(e.den U).rows
def aw8 (len:E):Cp->Nat->Prop
 | .ex e,c=>0<=e.toI U/\c=e.toN U/\c<unk/\len.toI U<=e.toI U
 | .ge,c=>∃lo,c=d8 lo 0/\lo<=67108864/\len.toI U<=67108864
 | .un,c=>(c<unk/\c=len.toN U/\len.toI U<=67108864)\/ ∃lo,c=d8 lo 0/\lo<=67108864/\len.toI U<=67108864
def RowsIn (F:Nat->Option Blk)(z:Nat)(xs:List Value)(rows:Rows):Prop:=
 xs.length=rows.length*z/\z=(kf P rgT).length/\(∀r∈rows,r.length=z)/\
 ∀(r k:Nat) (row:List Dat) (d:Dat),rows[r]? =some row->row[k]? =some d-> ∃x,xs[r*z+k]? =some x/\ ∀kd,(kf P rgT)[k]? =some kd->PV P F kd x d
theorem RowsIn.mono {F F':Nat->Option Blk}(h:Fle F F'){z:Nat}{xs:List Value}{rows:Rows}(p:RowsIn P F z xs rows):RowsIn P F' z xs rows:=
 ⟨p.1,p.2.1,p.2.2.1,fun r k row d hr hk=>let⟨x,k1,k2⟩:=p.2.2.2 r k row d hr hk;⟨x,k1,fun kd hkd=>(k2 kd hkd).mono P h⟩⟩
inductive VD (τ : Tau) (F : Nat → Option Blk) : SV → Value → Prop
 |any (v:Value):VD τ F .any v
 |int (k:IntKind) (e:E):VD τ F (.int k e) (.int k (e.toI U))
 |bool (e:E):VD τ F (.bool e) (.bool (e.den U).toBool)
 |str (e:E):VD τ F (.str e) (.string ⟨(e.den U).toStr.toArray⟩)
 |nilp:VD τ F .nilp (.pointer none)
 |ptr (b z:Nat) (row:E) (fld i o:Nat) (h:τ b=some (some (i,o))) (h0:0<=row.toI U):VD τ F (.ptr b z row fld) (.pointer (some ⟨i,o+row.toN U*z+fld,none⟩))
 | pptr (t : TypeId) (L row : E) (fld i o l c : Nat) (h : PV P F (.sl t) (.slice (some ⟨i, o, none⟩) l c) (.lst (L.toR U))) (h0 : 0 ≤ row.toI U) (h1 : row.toI U < (L.toR U).length) :
   VD τ F (.pptr t L row fld) (.pointer (some ⟨i,o+row.toN U*(kf P t).length+fld,none⟩))
 |rp (row:E) (fld:Nat) (h0:0<=row.toI U):VD τ F (.rp row fld) (.pointer (some ⟨row.toN U,fld,some 1⟩))
 |rpq (e:E) (v:Value) (h:PV P F .rp v (.int (e.toI U))):VD τ F (.rpq e) v
 |rv (L:E) (z:Nat) (xs:List Value) (h:RowsIn P F z xs (L.toR U)):VD τ F (.rv L z) (.func (.func 0) xs.toArray #[])
 |nils:VD τ F .nils (.slice none 0 0)
 | sl (b z : Nat) (off len : E) (cap : Cp) (i o c : Nat) (h : τ b = some (some (i, o))) (h0 : 0 ≤ off.toI U) (h1 : 0 ≤ len.toI U) (hc : aw8 U len cap c) :
   VD τ F (.sl b z off len cap) (.slice (some ⟨i,o+off.toN U*z,none⟩) (len.toN U) c)
 |sl0 (b z:Nat) (off len:E) (cap:Cp) (h:τ b=some none) (h0:off.toI U=0) (h1:len.toI U=0) (hc:∀e,cap= .ex e->e.toI U=0):VD τ F (.sl b z off len cap) (.slice none 0 0)
 |lst (t:TypeId) (L:E) (clip:Bool) (v:Value) (h:PV P F (.sl t) v (.lst (L.toR U))) (hc:clip=true-> ∃a l,v= .slice a l l):VD τ F (.lst t L clip) v
 |agg (l:List SV) (xs:List Value) (h1:l.length=xs.length) (h2:∀(i:Nat) a x,l[i]? =some a->xs[i]? =some x->VD τ F a x):VD τ F (.agg l) (.agg xs.toArray)
 |tup (l:List SV) (xs:List Value) (h1:l.length=xs.length) (h2:∀(i:Nat) a x,l[i]? =some a->xs[i]? =some x->VD τ F a x):VD τ F (.tup l) (.tuple xs.toArray)
 | fn (f : Fn) (l m : List SV) (xs ys : List Value) (h1 : l.length = xs.length) (h2 : ∀ (i : Nat) a x, l[i]? = some a → xs[i]? = some x → VD τ F a x)
   (h3:m.length=ys.length) (h4:∀(i:Nat) a x,m[i]? =some a->ys[i]? =some x->VD τ F a x):VD τ F (.fn f l m) (.func f xs.toArray ys.toArray)
 |nilf:VD τ F .nilf .nilFunc
 |map (b i o:Nat) (h:τ b=some (some (i,o))):VD τ F (.map b) (.map (some i))
 |nilm:VD τ F .nilm (.map none)
 |iface (t:TypeId) (v:SV) (x:Value) (h:VD τ F v x):VD τ F (.iface t v) (.iface t x)
 |nili:VD τ F .nili .nilIface
 | yld (ks : List Nat) (vs : List SV) (g : FuncId) (nt : Nat) (ps : List Nat) (as bo : Code) (i : Nat) (tms : T Value) (pr : Array Tmp) (db : Nat) (hF : F i = some (.loop .ready none nt tms pr as bo db)) (hp : pr.toList = ps)
   (h:∀k a,lk (ks.zip vs) k=some a->VD τ F a ((tms.get k).getD undef)):VD τ F (.yld ks vs g nt ps as bo) (.chan (some i))
def Tle (τ τ':Tau):Prop:=∀b p,τ b=some p->τ' b=some p
theorem Tle.refl (τ:Tau):Tle τ τ:=fun _ _ h=>h
theorem Tle.trans {a b c:Tau}(h:Tle a b)(k:Tle b c):Tle a c:=fun i p e=>k i p (h i p e)
variable {P U}
theorem VD.mono {τ τ':Tau}{F F':Nat->Option Blk}(ht:Tle τ τ')(h:Fle F F'){s:SV}{v:Value}(p:VD P U τ F s v):VD P U τ' F' s v:=by
 induction p with
 |any v=>exact .any v
 |int k e=>exact .int k e
 |bool e=>exact .bool e
 |str e=>exact .str e
 |nilp=>exact .nilp
 |ptr b z row fld i o k h0=>exact .ptr b z row fld i o (ht _ _ k) h0
 |pptr t L row fld i o l c k h0 h1=>exact .pptr t L row fld i o l c (k.mono P h) h0 h1
 |rp row fld h0=>exact .rp row fld h0
 |rpq e v k=>exact .rpq e v (k.mono P h)
 |rv L z xs k=>exact .rv L z xs (k.mono P h)
 |nils=>exact .nils
 |sl b z off len cap i o c k h0 h1 hc=>exact .sl b z off len cap i o c (ht _ _ k) h0 h1 hc
 |sl0 b z off len cap k h0 h1 hc=>exact .sl0 b z off len cap (ht _ _ k) h0 h1 hc
 |lst t L clip v k hc=>exact .lst t L clip v (k.mono P h) hc
 |agg l xs h1 _ ih=>exact .agg l xs h1 ih
 |tup l xs h1 _ ih=>exact .tup l xs h1 ih
 |fn f l m xs ys h1 _ h3 _ ih1 ih2=>exact .fn f l m xs ys h1 ih1 h3 ih2
 |nilf=>exact .nilf
 |map b i o k=>exact .map b i o (ht _ _ k)
 |nilm=>exact .nilm
 |iface t v x _ ih=>exact .iface t v x ih
 |nili=>exact .nili
 |yld ks vs g nt ps as bo i tms pr db hF hp _ ih=>exact .yld ks vs g nt ps as bo i tms pr db (h _ _ hF) hp ih
theorem PV.sub {F F':Nat->Option Blk}(h:∀i y,F i=some y->(arr y).isSome=true->F' i=some y){k:Kd}{v:Value}{d:Dat}(p:PV P F k v d):PV P F' k v d:=by
 induction p with
 |int k n=>exact .int k n
 |bool b=>exact .bool b
 |str s=>exact .str s
 |nils e=>exact .nils e
 |rp k=>exact .rp k
 |rpn=>exact .rpn
 |vague e=>exact .vague e
 |sl e i o c b cs n z rows x hF hb hc hn hz hr hx _ ih=>exact .sl e i o c b cs n z rows x (h _ _ hF (by rw[hb];rfl)) hb hc hn hz hr hx ih
theorem Q6 :∀ {l:List SV} {i:Nat} {a:SV},noYs l=true->l[i]? =some a->noY a=true
 | [],i,a,_,h=>by simp at h
 |b::l,i,a,hn,h=>by
  unfold noYs at hn;rw[bF5]at hn;cases i with
  |zero=>simp only[bH0,bF4]at h;subst h;exact hn.1
  |succ i=>simp only[bG5]at h;exact Q6 hn.2 h
theorem VD.sub {τ:Tau}{F F':Nat->Option Blk}(p:Bool)(h:∀i y,F i=some y->((arr y).isSome=true\/p=true/\y≠ .dfr)->F' i=some y){s:SV}{v:Value}(hv:VD P U τ F s v)(hn:p=true\/noY s=true):VD P U τ F' s v:=by
 have hP:∀i y,F i=some y->(arr y).isSome=true->F' i=some y:=fun i y h1 h2=>h i y h1 (.inl h2)
 induction hv with
 |any v=>exact .any v
 |int k e=>exact .int k e
 |bool e=>exact .bool e
 |str e=>exact .str e
 |nilp=>exact .nilp
 |ptr b z row fld i o k h0=>exact .ptr b z row fld i o k h0
 |pptr t L row fld i o l c k h0 h1=>exact .pptr t L row fld i o l c (k.sub hP) h0 h1
 |rp row fld h0=>exact .rp row fld h0
 |rpq e v k=>exact .rpq e v (k.sub hP)
 |rv L z xs k=>exact .rv L z xs ⟨k.1,k.2.1,k.2.2.1,fun r q row d hr hq=>let⟨x,k1,k2⟩:=k.2.2.2 r q row d hr hq;⟨x,k1,fun kd hkd=>(k2 kd hkd).sub hP⟩⟩
 |nils=>exact .nils
 |sl b z off len cap i o c k h0 h1 hc=>exact .sl b z off len cap i o c k h0 h1 hc
 |sl0 b z off len cap k h0 h1 hc=>exact .sl0 b z off len cap k h0 h1 hc
 |lst t L clip v k hc=>exact .lst t L clip v (k.sub hP) hc
 |agg l xs h1 _ ih=>exact .agg l xs h1 fun i a x ha hx=>ih i a x ha hx (hn.imp id fun k=>Q6 (by unfold noY at k;exact k) ha)
 |tup l xs h1 _ ih=>exact .tup l xs h1 fun i a x ha hx=>ih i a x ha hx (hn.imp id fun k=>Q6 (by unfold noY at k;exact k) ha)
 |fn f l m xs ys h1 _ h3 _ ih1 ih2=>
  have hn':p=true\/noYs l=true/\noYs m=true:=hn.imp id fun k=>by unfold noY at k;rwa[bF5]at k
  exact .fn f l m xs ys h1 (fun i a x ha hx=>ih1 i a x ha hx (hn'.imp id fun k=>Q6 k.1 ha)) h3 fun i a x ha hx=>ih2 i a x ha hx (hn'.imp id fun k=>Q6 k.2 ha)
 |nilf=>exact .nilf
 |map b i o k=>exact .map b i o k
 |nilm=>exact .nilm
 |iface t v x _ ih=>exact .iface t v x (ih (hn.imp id fun k=>by unfold noY at k;exact k))
 |nili=>exact .nili
 |yld ks vs g nt ps as bo i tms pr db hF hp _ ih=>
  rcases hn with hn|hn
  ·exact .yld ks vs g nt ps as bo i tms pr db (h _ _ hF (.inr ⟨hn,by simp⟩)) hp fun k a ha=>ih k a ha (.inl hn)
  ·unfold noY at hn;cases hn
variable (P U)
def VDL (τ:Tau)(F:Nat->Option Blk)(l:List SV)(xs:List Value):Prop:=l.length=xs.length/\ ∀(i:Nat) a x,l[i]? =some a->xs[i]? =some x->VD P U τ F a x
def v8 (F:Nat->Option Blk)(e:TypeId)(z o n:Nat)(cs:T Value)(rows:Rows):Prop:=
 o+rows.length*z<=n/\z=(kf P e).length/\(∀r∈rows,r.length=z)/\
 ∀(r k:Nat) (row:List Dat) (d:Dat),rows[r]? =some row->row[k]? =some d-> ∃x,cs.get (o+r*z+k)=some x/\ ∀kd,(kf P e)[k]? =some kd->PV P F kd x d
def O0 (F:Nat->Option Blk)(kt vt:TypeId)(es:List (Value×Value))(rows:Rows):Prop:=
 es.length=rows.length/\ ∀(j:Nat) row e,rows[j]? =some row->es[j]? =some e-> ∃sh ks d,M6 P kt=some sh/\ac5 sh.2 ks=true/\row=ks.map KV.dat++ [d]/\e.1=ab2 sh ks/\PV P F (kd1 P vt) e.2 d
def BD (τ:Tau)(F:Nat->Option Blk)(o:Nat):v9->Blk->Prop
 | .cells l e z,b=>∃cs n,b= .cells cs n e z/\o+l.length<=n/\ ∀(j:Nat) a,l[j]? =some a-> ∃x,cs.get (o+j)=some x/\VD P U τ F a x
 | .rows L e z ph,b=>∃cs n,b= .cells cs n e z/\v8 P F e z o n cs (L.toR U)/\o+ph.toN U*z<=n
 | .map L kt vt,b=>o=0/\ ∃es reg,b= .map es reg/\reg=true/\O0 P F kt vt es (L.toR U)
 | .reg r L z,b=>o=0/\τ r=some (some (0,0))/\ ∃cs,b= .reg cs (L.toR U).length rgT z/\v8 P F rgT z 0 ((L.toR U).length*z) cs (L.toR U)
 | .iter s pos,b=>o=0/\ ∃n:Nat,b= .sit ⟨(s.den U).toStr.toArray⟩ n/\pos.toI U=n
def bj1 (τ:Tau)(F:Nat->Option Blk)(r:Nat×E×TypeId×Nat):Prop:=
 (∃i o cs n,τ r.1=some (some (i,o))/\F i=some (.cells cs n r.2.2.1 r.2.2.2)/\v8 P F r.2.2.1 r.2.2.2 o n cs (r.2.1.toR U))\/(τ r.1=some none/\r.2.1.toR U=[])
structure SD (τ:Tau)(F:Nat->Option Blk)(s:SS)(hp:Hp):Prop where
 live:∀b x,s.get b=some x->(∃i o y,τ b=some (some (i,o))/\hp.m.get i=some y/\F i=none/\BD P U τ F o x y)\/
  (τ b=some none/\ ∃L e z ph,x= .rows L e z ph/\L.toR U=[]/\z=(kf P e).length/\ph.toI U<=0)
 inj:∀b c x y i o j q,s.get b=some x->s.get c=some y->b≠c->τ b=some (some (i,o))->τ c=some (some (j,q))->i≠j
 frz:∀i b,F i=some b->hp.m.get i=some b
 lt:∀b i o,τ b=some (some (i,o))->i<hp.nx
 flt:∀i b,F i=some b->i<hp.nx
 new:∀b,s.nx<=b->τ b=none
 fc:∀c t,(c,t)∈s.fc->(c.den U).toBool=t
 fz:∀r∈s.fz,bj1 P U τ F r
def nyS (s:SS):Bool:=s.h.all fun p=>match p.2 with
 |some (.cells l _ _)=>noYs l
 |_=>true
variable {P U}
theorem BD.sub {τ:Tau}{F F':Nat->Option Blk}(p:Bool)(h:∀i y,F i=some y->((arr y).isSome=true\/p=true/\y≠ .dfr)->F' i=some y){o:Nat}{x:v9}{y:Blk}(hb:BD P U τ F o x y)(hn:p=true\/ ∀l e z,x= .cells l e z->noYs l=true):BD P U τ F' o x y:=by
 have hP:∀i y,F i=some y->(arr y).isSome=true->F' i=some y:=fun i y h1 h2=>h i y h1 (.inl h2)
 cases x with
 |cells l e z=>
  obtain⟨cs,n,h1,h2,h3⟩:=hb;exact⟨cs,n,h1,h2,fun j a ha=>let⟨x,k1,k2⟩:=h3 j a ha;⟨x,k1,k2.sub p h (hn.imp id fun k=>Q6 (k l e z rfl) ha)⟩⟩
 |rows L e z ph=>
  obtain⟨cs,n,h1,⟨h2,h3,h4,h5⟩,h6⟩:=hb;exact⟨cs,n,h1,⟨h2,h3,h4,fun r k row d hr hd=>let⟨x,k1,k2⟩:=h5 r k row d hr hd;⟨x,k1,fun kd hk=>(k2 kd hk).sub hP⟩⟩,h6⟩
 |map L kt vt=>
  obtain⟨h0,es,reg,h1,hr,h2,h3⟩:=hb;exact⟨h0,es,reg,h1,hr,h2,fun j row e hr he=>let⟨sh,ks,d,k1,k2,k3,k4,k5⟩:=h3 j row e hr he;⟨sh,ks,d,k1,k2,k3,k4,k5.sub hP⟩⟩
 |iter s pos=>exact hb
 |reg r L z=>
  obtain⟨h0,h6,cs,h1,h2,h3,h4,h5⟩:=hb;exact⟨h0,h6,cs,h1,h2,h3,h4,fun r k row d hr hd=>let⟨x,k1,k2⟩:=h5 r k row d hr hd;⟨x,k1,fun kd hk=>(k2 kd hk).sub hP⟩⟩
theorem SD.sub {τ : Tau} {F F' : Nat → Option Blk} {s : SS} {hp hp' : Hp} (hs : SD P U τ F s hp) (p : Bool) (h : ∀ i y, F i = some y → ((arr y).isSome = true ∨ p = true ∧ y ≠ .dfr) → F' i = some y) (hn : p = true ∨ nyS s = true)
  (hnx:hp.nx<=hp'.nx) (hm:∀b x i o,s.get b=some x->τ b=some (some (i,o))->hp'.m.get i=hp.m.get i/\F' i=none) (hf:∀i y,F' i=some y->hp'.m.get i=some y/\i<hp'.nx):SD P U τ F' s hp':=by
 refine⟨fun b x hb=>?_,hs.inj,fun i y hy=>(hf i y hy).1,fun b i o hb=>bK7 (hs.lt b i o hb) hnx,fun i y hy=>(hf i y hy).2,hs.new,hs.fc,fun r hr=>?_⟩
 ·rcases hs.live b x hb with⟨i,o,y,h1,h2,h3,h4⟩|h1
  ·obtain⟨k1,k2⟩:=hm b x i o hb h1
   refine .inl ⟨i,o,y,h1,by rw[k1];exact h2,k2,h4.sub p h (hn.imp id fun k l e z hx=>?_)⟩
   unfold nyS at k;rw[bI4]at k;subst hx;unfold SS.get at hb;split at hb
   ·rename_i q hq
    subst hb;exact k _ (U1 hq)
   ·cases hb
  ·exact .inr h1
 ·rcases hs.fz r hr with⟨i,o,cs,n,h1,h2,h3,h4,h5,h6⟩|h1
  ·exact .inl ⟨i,o,cs,n,h1,h _ _ h2 (.inl rfl),h3,h4,h5,fun a k row d hr hd=>let⟨x,k1,k2⟩:=h6 a k row d hr hd;⟨x,k1,fun kd hk=>(k2 kd hk).sub fun i y h1 h2=>h i y h1 (.inl h2)⟩⟩
  ·exact .inr h1
end
end Go.Sx
namespace Go.Sx
open Go.Xe
def t7 (a b:E):E:=match a,b with
 | .int m,.int n=>.int (m+n)
 | .int m,b=>bif decide (m=0)then b else .op .add [b,.int m]
 | .op .add [x,.int m],.int n=>bif decide (m+n=0)then x else .op .add [x,.int (m+n)]
 |a,.int n=>bif decide (n=0)then a else .op .add [a,.int n]
 |a,b=>.op .add [a,b]
def H7 (a b:E):E:=match b with
 | .int n=>t7 a (.int (-n))
 |b=>.op .sub [a,b]
def bt0 (a b:E):E:=match a,b with
 | .int m,.int n=>.int (m*n)
 |a,b=>.op .mul [a,b]
def t6 (a:E):E:=match a with
 | .bool c=>.bool (!c)
 | .op .not [x]=>x
 |a=>.op .not [a]
def t9 (a b:E):E:=match a,b with
 | .int m,.int n=>.bool (decide (m<n))
 |a,b=>.op .lt [a,b]
def C8 (a b:E):E:=match a,b with
 | .int m,.int n=>.bool (decide (m=n))
 |a,b=>.op .eqi [a,b]
def bs9 (a b:E):E:=match a,b with
 | .bool p,b=>bif p then b else t6 b
 |a,.bool p=>bif p then a else t6 a
 |a,b=>.op .eqb [a,b]
def ar5 (a b:E):E:=match a,b with
 | .str p,.str q=>.bool (p==q)
 |a,b=>.op .eqs [a,b]
def bf9 (a b:E):E:=match a,b with
 | .bool p,b=>bif p then b else .bool false
 |a,.bool p=>bif p then a else .bool false
 |a,b=>.op .and [a,b]
def mkOr (a b:E):E:=match a,b with
 | .bool p,b=>bif p then .bool true else b
 |a,.bool p=>bif p then .bool true else a
 |a,b=>.op .or [a,b]
def aH6 :Nat->E->E
 |0,L=>.op .len [L]
 |d+1,L=>match L with
  | .op .nil _=>.int 0
  | .op (.rows n _) _=>.int n
  | .op .app [a,b]=>t7 (aH6 d a) (aH6 d b)
  | .op (.upd _) [a,_,_]=>aH6 d a
  |L=>.op .len [L]
def v5 (L:E):E:=aH6 50 L
def bg0 :Nat->Nat->E->E->E
 |0,j,L,r=>.op (.get j) [L,r]
 |d+1,j,L,r=>match L with
  | .op (.upd j') [a,i,c]=>bif Nat.beq j j' then .op (.get j) [.op (.upd j') [a,i,c],r]else bg0 d j a r
  |L=>.op (.get j) [L,r]
def aQ8 (j:Nat)(L r:E):E:=bg0 50 j L r
def B3 (a b:E):E:=match a,b with
 | .op .nil _,b=>b
 |a,.op .nil _=>a
 |a,b=>.op .app [a,b]
section
variable {U :Nat->List Dat->Dat}
theorem w9 (n:Int):(E.int n).toI U=n:=rfl
theorem i4 (a b:E):(t7 a b).toI U=a.toI U+b.toI U:=by
 unfold t7;split
 ·rfl
 ·rename_i b m _
  by_cases h:m=0
  ·subst h;simp only[bL1,bH1];exact(Int.zero_add _).symm
  ·simp only[h,decide_false,bH2];exact Int.add_comm _ _
 ·rename_i x m n
  by_cases h:m+n=0
  ·simp only[h,bL1,bH1];show _=(x.toI U+m)+n;omega
  ·simp only[h,decide_false,bH2];show x.toI U+(m+n)=(x.toI U+m)+n;omega
 ·rename_i a n _ _
  by_cases h:n=0
  ·subst h;simp only[bL1,bH1];show _=_+0;omega
  ·simp only[h,decide_false,bH2];rfl
 ·rfl
theorem p7 (a b:E):(H7 a b).toI U=a.toI U-b.toI U:=by
 unfold H7;split
 ·rename_i n;rw[i4];show _+ -n=_-n;omega
 ·rfl
theorem bk7 (a b:E):(bt0 a b).toI U=a.toI U*b.toI U:=by
 unfold bt0;split<;>rfl
theorem B9 (a:E):((t6 a).den U).toBool= !(a.den U).toBool:=by
 unfold t6;split
 ·rfl
 ·rename_i x;show _= !(!(x.den U).toBool);simp
 ·rfl
theorem C3 (a b:E):((t9 a b).den U).toBool=decide (a.toI U<b.toI U):=by
 unfold t9;split<;>rfl
theorem B8 (a b:E):((C8 a b).den U).toBool=decide (a.toI U=b.toI U):=by
 unfold C8;split<;>rfl
theorem P3 (a b:E):((ar5 a b).den U).toBool=((a.den U).toStr==(b.den U).toStr):=by
 unfold ar5;split<;>rfl
theorem bk6 (a b:E):((bs9 a b).den U).toBool=((a.den U).toBool==(b.den U).toBool):=by
 unfold bs9;split
 ·rename_i b p;cases p
  ·simp only[bH2,B9];show _=(false==_);simp
  ·simp only[bH1];show _=(true==_);simp
 ·rename_i a p _;cases p
  ·simp only[bH2,B9];show _=(_==false);simp
  ·simp only[bH1];show _=(_==true);simp
 ·rfl
theorem aH4 (a b:E):((bf9 a b).den U).toBool=((a.den U).toBool&&(b.den U).toBool):=by
 unfold bf9;split
 ·rename_i b p;cases p
  ·rfl
  ·show _=(true&&_);simp
 ·rename_i a p _;cases p
  ·show false=(_&&false);simp
  ·show _=(_&&true);simp
 ·rfl
theorem aS1 (a b:E):((mkOr a b).den U).toBool=((a.den U).toBool|| (b.den U).toBool):=by
 unfold mkOr;split
 ·rename_i b p;cases p
  ·show _=(false||_);simp
  ·rfl
 ·rename_i a p _;cases p
  ·show _=(_||false);simp
  ·show true=(_||true);simp
 ·rfl
theorem G6 (z:Nat):∀(n:Nat) (l:List Dat),(chunk z n l).length=n
 |0,_=>rfl
 |n+1,l=>by simp[chunk,G6 z n]
theorem ae7 :∀(d:Nat) (L:E),(aH6 d L).toI U=((L.toR U).length:Int)
 |0,L=>rfl
 |d+1,L=>by
  unfold aH6;split
  ·rfl
  ·rename_i n z as;show(n:Int)=((chunk z n _).length:Int);rw[G6]
  ·rename_i a b;rw[i4,ae7 d a,ae7 d b]
   show _=(((a.toR U)++(b.toR U)).length:Int);simp
  ·rename_i j a i c;rw[ae7 d a]
   show _=((setAt (a.toR U) _ j _).length:Int);simp[setAt]
  ·rfl
theorem e9 (L:E):(v5 L).toI U=((L.toR U).length:Int):=ae7 50 L
theorem au2 (L:Rows)(i r:Int){j j':Nat}(d:Dat)(h:j≠j'):A1 (setAt L i j' d) r j=A1 L r j:=by
 unfold A1 setAt;simp only[bI5,List.getElem?_modify];cases hL:L[r.toNat]? with
 |none=>simp
 |some row=>
  by_cases e:i.toNat=r.toNat
  ·simp[e,Ne.symm h]
  ·simp[e]
theorem aH5 :∀(d j:Nat) (L r:E),(bg0 d j L r).den U=A1 (L.toR U) (r.toI U) j
 |0,j,L,r=>rfl
 |d+1,j,L,r=>by
  unfold bg0;split
  ·rename_i j' a i c
   by_cases h:j=j'
   ·rw[j9 h];rfl
   ·rw[u6 h,bH2,aH5 d j a r]
    exact(au2 _ _ _ _ h).symm
  ·rfl
theorem al3 (j:Nat)(L r:E):(aQ8 j L r).den U=A1 (L.toR U) (r.toI U) j:=aH5 50 j L r
theorem G8 (a b:E):(B3 a b).toR U=a.toR U++b.toR U:=by
 unfold B3;split
 ·rfl
 ·show _=_++([]:Rows);simp
 ·rfl
def FT (U:Nat->List Dat->Dat)(l:List (E×Bool)):Prop:=∀c t,(c,t)∈l->(c.den U).toBool=t
def M (α:Type):=SS->Tr (α×SS)
def c9 {α:Type}(a:α):M α:=fun s=>.ret (a,s)
def a8 {α:Type}(t:String):M α:=fun _=>.fail t
def a9 {α β:Type}(m:M α)(k:α->M β):M β:=fun s=>(m s).bind fun x=>k x.1 x.2
def l7 {α:Type}(k:SS->M α):M α:=fun s=>k s s
def ac8 {α:Type}(t:String)(x:Option α):M α:=match x with|some a=>c9 a|none=>a8 t
def addF (s:SS)(c:E)(t:Bool):SS:= {s with fc:=(c,t)::s.fc}
variable (U) in
def i9 (c:E):M Unit:=fun s=>match c with
 | .bool true=>.ret ((),s)
 |c=>.need (.e c) (c.pr U) (.ret ((),addF s c true))
def br3 :List (E×Bool)->E->Option Bool
 | [],_=>none
 | (d,t)::l,c=>bif E.like d c then some t else br3 l c
variable (U) in
def testA (c:E):M Bool:=fun s=>match c with
 | .bool b=>.ret (b,s)
 |c=>match br3 s.fc c with
  |some true=>.need (.e c) (c.pr U) (.ret (true,s))
  |some false=>.need (.e (t6 c)) (¬c.pr U) (.ret (false,s))
  |none=>.br c (.ret (true,addF s c true)) (.ret (false,addF s c false))
variable (U) in
def testF :Nat->E->M Bool
 |0,c=>testA U c
 |d+1,c=>match c with
  | .op .not [a]=>a9 (testF d a) fun t=>c9 (!t)
  | .op .and [a,b]=>a9 (testF d a) fun t=>bif t then testF d b else c9 false
  | .op .or [a,b]=>a9 (testF d a) fun t=>bif t then c9 true else testF d b
  |c=>testA U c
variable (U) in
def ad0 (c:E):M Bool:=testF U 20 c
structure P7 (s s':SS):Prop where
 h:s'.h=s.h
 nx:s'.nx=s.nx
 fc:∃l,s'.fc=l++s.fc
 fz:s'.fz=s.fz
theorem P7.refl (s:SS):P7 s s:=⟨rfl,rfl,⟨[],rfl⟩,rfl⟩
theorem P7.trans {a b c:SS}(h:P7 a b)(k:P7 b c):P7 a c:=
 ⟨k.h.trans h.h,k.nx.trans h.nx,by obtain⟨l,e⟩:=h.fc;obtain⟨m,e'⟩:=k.fc;exact⟨m++l,by rw[e',e,bG8]⟩,k.fz.trans h.fz⟩
theorem P7.addF (s:SS)(c:E)(t:Bool):P7 s (addF s c t):=⟨rfl,rfl,⟨[(c,t)],rfl⟩,rfl⟩
theorem P7.get {s s':SS}(h:P7 s s')(b:Nat):s'.get b=s.get b:=by unfold SS.get;rw[h.h]
variable (U) in
def OKp {α:Type}(m:M α)(s:SS)(R:α->Prop):Prop:=
 ∀Q,(m s).vc U Q->FT U s.fc-> ∃a s',Q (a,s')/\P7 s s'/\FT U s'.fc/\R a
theorem OKp.ret {α:Type}{a:α}{s:SS}{R:α->Prop}(h:R a):OKp U (c9 a) s R:=fun _ hq hf=>⟨a,s,hq,P7.refl s,hf,h⟩
theorem OKp.fail {α:Type}{t:String}{s:SS}{R:α->Prop}:OKp U (a8 t:M α) s R:=fun _ hq _=>hq.elim
theorem OKp.bind {α β:Type}{m:M α}{k:α->M β}{s:SS}{R:α->Prop}{R':β->Prop}(h:OKp U m s R)(hk:∀a s',P7 s s'->FT U s'.fc->R a->OKp U (k a) s' R'):OKp U (a9 m k) s R':=by
 intro Q hq hf;unfold a9 at hq;rw[Tr.vc_bind]at hq;obtain⟨a,s1,h1,h2,h3,h4⟩:=h _ hq hf;obtain⟨b,s2,h5,h6,h7,h8⟩:=hk a s1 h2 h3 h4 Q h1 h3;exact⟨b,s2,h5,h2.trans h6,h7,h8⟩
theorem OKp.mono {α:Type}{m:M α}{s:SS}{R R':α->Prop}(h:OKp U m s R)(hr:∀a,R a->R' a):OKp U m s R':=by
 intro Q hq hf;obtain⟨a,s1,h1,h2,h3,h4⟩:=h Q hq hf;exact⟨a,s1,h1,h2,h3,hr a h4⟩
theorem OKp.opt {α:Type}{t:String}{x:Option α}{s:SS}{R:α->Prop}(h:∀a,x=some a->R a):OKp U (ac8 t x) s R:=by
 cases x with
 |none=>exact OKp.fail
 |some a=>exact OKp.ret (h a rfl)
theorem OKp.read {α:Type}{k:SS->M α}{s:SS}{R:α->Prop}(h:OKp U (k s) s R):OKp U (l7 k) s R:=h
theorem FT.cons {l:List (E×Bool)}{c:E}{t:Bool}(h:FT U l)(hc:(c.den U).toBool=t):FT U ((c,t)::l):=by
 intro d u hd
 rcases bJ2.1 hd with e|e
 ·injection e with e1 e2;subst e1;subst e2;exact hc
 ·exact h d u e
theorem ba5 {c:E}(h:¬c.pr U):(c.den U).toBool=false:=by
 rw[E.pr_iff]at h;simpa using h
theorem OKp.need {c:E}{s:SS}:OKp U (i9 U c) s fun _=>c.pr U:=by
 intro Q hq hf;unfold i9 at hq;split at hq
 ·exact⟨(),s,hq,P7.refl s,hf,rfl⟩
 ·obtain⟨h1,h2⟩:=hq
  exact⟨(),_,h2 h1,P7.addF s _ _,hf.cons ((E.pr_iff U _).1 h1),h1⟩
theorem OKp.testA {c:E}{s:SS}:OKp U (testA U c) s fun t=>(c.den U).toBool=t:=by
 intro Q hq hf;unfold Sx.testA at hq;split at hq
 ·exact⟨_,s,hq,P7.refl s,hf,rfl⟩
 ·split at hq
  ·exact⟨true,s,hq.2 hq.1,P7.refl s,hf,(E.pr_iff U _).1 hq.1⟩
  ·exact⟨false,s,hq.2 hq.1,P7.refl s,hf,ba5 hq.1⟩
  ·by_cases h:c.pr U
   ·exact⟨true,_,hq.1 h,P7.addF s _ _,hf.cons ((E.pr_iff U _).1 h),(E.pr_iff U _).1 h⟩
   ·exact⟨false,_,hq.2 h,P7.addF s _ _,hf.cons (ba5 h),ba5 h⟩
theorem OKp.testF :∀(d:Nat) (c:E) (s:SS),OKp U (testF U d c) s fun t=>(c.den U).toBool=t
 |0,c,s=>OKp.testA
 |d+1,c,s=>by
  unfold Sx.testF;split
  ·rename_i a
   refine(OKp.testF d a s).bind fun t s' _ _ h=>OKp.ret ?_
   show(!(a.den U).toBool)= !t;rw[h]
  ·rename_i a b
   refine(OKp.testF d a s).bind fun t s' _ _ h=>?_
   cases t with
   |true=>exact(OKp.testF d b s').mono fun u hu=>by show((a.den U).toBool&&(b.den U).toBool)=u;rw[h,hu];rfl
   |false=>exact OKp.ret (by show((a.den U).toBool&&(b.den U).toBool)=false;rw[h];rfl)
  ·rename_i a b
   refine(OKp.testF d a s).bind fun t s' _ _ h=>?_
   cases t with
   |true=>exact OKp.ret (by show((a.den U).toBool|| (b.den U).toBool)=true;rw[h];rfl)
   |false=>exact(OKp.testF d b s').mono fun u hu=>by show((a.den U).toBool|| (b.den U).toBool)=u;rw[h,hu];rfl
  ·exact OKp.testA
theorem OKp.test {c:E}{s:SS}:OKp U (ad0 U c) s fun t=>(c.den U).toBool=t:=OKp.testF 20 c s
end
end Go.Sx
namespace Go.Sx
open Go.Xe
abbrev Fm:=List (Nat×SV)
def Z0 :Value->SV
 | .bool b=>.bool (.bool b)
 | .int k n=>.int k (.int n)
 | .string s=>.str (.str s.data.toList)
 | .pointer none=>.nilp
 | .slice none 0 0=>.nils
 | .map none=>.nilm
 | .nilFunc=>.nilf
 | .nilIface=>.nili
 |_=>.any
def bb4 :Value->SV
 | .agg cs=>.agg (cs.toList.map Z0)
 | .tuple vs=>.tup (vs.toList.map Z0)
 |v=>Z0 v
def m9 (f:Fm):Operand->Option SV
 | .tmp t=>some ((lk f t).getD .any)
 | .const v=>bif cst v then some (bb4 v)else none
 | .global _=>none
 | .func g=>some (.fn (.func g) [] [])
def aU4 (f:Fm):List Operand->Option (List SV)
 | []=>some []
 |x::xs=>match m9 f x with
  |some v=>match aU4 f xs with
   |some vs=>some (v::vs)
   |none=>none
  |none=>none
def ad9 (f:Fm):List (Nat×Operand)->Option (List (Nat×SV))
 | []=>some []
 | (i,x)::xs=>match m9 f x with
  |some v=>match ad9 f xs with
   |some vs=>some ((i,v)::vs)
   |none=>none
  |none=>none
def z7 :SV->Option (List SV)
 | .any=>none
 | .yld _ _ _ _ _ _ _=>none
 | .agg l=>some l
 |v=>some [v]
def aI8 (P : Program) (t : TypeId) (cs : List SV) (off : Nat) : Option SV :=
 match P.underlying t with
 |none=>none
 | some d => bif ag1 d then
   match P.info? t with
   |some i=>some (.agg ((cs.drop off).take i.size))
   |none=>none
  else cs[off]?
def bb6 (P:Program)(xt:TypeId)(x:SV)(f:Nat):Option SV:=
 match P.underlying xt with
 |some (.struct fs)=>match fs.toList[f]? with
  |some fd=>match x with
   | .agg cs=>aI8 P fd.type cs fd.offset
   |_=>none
  |none=>none
 |_=>none
def aA4 (x:SV)(i:Nat):Option SV:=
 match x with
 | .tup vs=>vs[i]?
 |_=>none
def K9 (cells:List SV)(off:Nat)(vs:List SV):List SV:=cells.take off++vs++cells.drop (off+vs.length)
def as6 (place:Nat->Option (Nat×Nat))(cells:List SV):List (Nat×SV)->Option (List SV)
 | []=>some cells
 | (i,v)::rest=>match place i with
  |none=>none
  |some (off,size)=>match z7 v with
   |none=>none
   |some vs=>bif Nat.beq vs.length size&&Nat.ble (off+size) cells.length then as6 place (K9 cells off vs) rest else none
def ae0 (P:Program)(t:TypeId):Option (List SV):=match G5 P t with
 |some z=>some (z.cells.toList.map Z0)
 |none=>none
def bb3 (P:Program)(t:TypeId)(parts:List (Nat×SV)):Option SV:=
 match ae0 P t with
 |none=>none
 |some z=>match P.underlying t with
  |some (.struct fs)=>match aa2 P fs.toList with
   |some pl=>match as6 (fun i=>pl[i]?) z parts with
    |some cs=>some (.agg cs)
    |none=>none
   |none=>none
  |some (.array _ e)=>match P.info? e with
   |some ie=>match as6 (fun i=>some (i*ie.size,ie.size)) z parts with
    |some cs=>some (.agg cs)
    |none=>none
   |none=>none
  |_=>none
section
variable {P :Program}{U:Nat->List Dat->Dat}{τ:Tau}{F:Nat->Option Blk}
def TD (P:Program)(U:Nat->List Dat->Dat)(τ:Tau)(F:Nat->Option Blk)(f:Fm)(tm:T Value):Prop:=∀k a,lk f k=some a->VD P U τ F a ((tm.get k).getD undef)
theorem aA2 (v:Value):VD P U τ F (Z0 v) v:=by
 unfold Z0;split
 ·exact .bool (.bool _)
 ·exact .int _ (.int _)
 ·rename_i s;exact .str (.str s.data.toList)
 ·exact .nilp
 ·exact .nils
 ·exact .nilm
 ·exact .nilf
 ·exact .nili
 ·exact .any _
theorem Z1 (l:List Value):VDL P U τ F (l.map Z0) l:=by
 refine⟨by simp,fun i a x ha hx=>?_⟩
 simp only[bK4,hx,bJ9,bF4]at ha;subst ha;exact aA2 x
theorem bm8 (v:Value):VD P U τ F (bb4 v) v:=by
 unfold bb4;split
 ·rename_i cs
  have h:=Z1 (P:=P) (U:=U) (τ:=τ) (F:=F) cs.toList;exact VD.agg _ cs.toList h.1 h.2
 ·rename_i cs
  have h:=Z1 (P:=P) (U:=U) (τ:=τ) (F:=F) cs.toList;exact VD.tup _ cs.toList h.1 h.2
 ·exact aA2 v
theorem VDL.nil :VDL P U τ F [] []:=⟨rfl,fun i a x h _=>by simp at h⟩
theorem VDL.cons {a:SV}{x:Value}{l:List SV}{xs:List Value}(h:VD P U τ F a x)(hs:VDL P U τ F l xs):VDL P U τ F (a::l) (x::xs):=by
 refine⟨by simp[hs.1],fun i b y hb hy=>?_⟩
 cases i with
 |zero=>simp at hb hy;subst hb;subst hy;exact h
 |succ i=>simp at hb hy;exact hs.2 i b y hb hy
theorem VDL.uncons {a:SV}{l:List SV}{xs:List Value}(h:VDL P U τ F (a::l) xs):∃y ys,xs=y::ys/\VD P U τ F a y/\VDL P U τ F l ys:=by
 cases xs with
 |nil=>exact absurd h.1 (by simp)
 |cons y ys=>exact⟨y,ys,rfl,h.2 0 _ _ rfl rfl,by have:=h.1;simpa using this,fun i a b ha hb=>h.2 (i+1) a b (by simpa using ha) (by simpa using hb)⟩
theorem VDL.mono {τ':Tau}{F':Nat->Option Blk}(ht:Tle τ τ')(hf:Fle F F'){l:List SV}{xs:List Value}(h:VDL P U τ F l xs):VDL P U τ' F' l xs:=⟨h.1,fun i a x ha hx=>(h.2 i a x ha hx).mono ht hf⟩
theorem VDL.get {l:List SV}{xs:List Value}(h:VDL P U τ F l xs){i:Nat}{a:SV}(ha:l[i]? =some a):∃x,xs[i]? =some x/\VD P U τ F a x:=by
 have hi:i<l.length:=(bF7.1 ha).1;have hx:i<xs.length:=by rw[<-h.1];exact hi
 exact⟨xs[i],by simp[hx],h.2 i a _ ha (by simp[hx])⟩
theorem VDL.drop {l:List SV}{xs:List Value}(h:VDL P U τ F l xs)(n:Nat):VDL P U τ F (l.drop n) (xs.drop n):=
 ⟨by simp[h.1],fun i a x ha hx=>h.2 (n+i) a x (by simpa using ha) (by simpa using hx)⟩
theorem VDL.take {l:List SV}{xs:List Value}(h:VDL P U τ F l xs)(n:Nat):VDL P U τ F (l.take n) (xs.take n):=by
 refine⟨by simp[h.1],fun i a x ha hx=>?_⟩
 rw[bI7]at ha hx
 by_cases hi:i<n
 ·rw[bH6 hi]at ha hx;exact h.2 i a x ha hx
 ·rw[bH4 hi]at ha;cases ha
theorem VDL.append {l m:List SV}{xs ys:List Value}(h:VDL P U τ F l xs)(k:VDL P U τ F m ys):VDL P U τ F (l++m) (xs++ys):=by
 induction l generalizing xs with
 |nil=>obtain⟨h1,_⟩:=h;have:xs=[]:=bG0 h1.symm;subst this;exact k
 |cons a l ih=>obtain⟨y,ys',rfl,h1,h2⟩:=h.uncons;exact VDL.cons h1 (ih h2)
theorem VDL.splice {l m:List SV}{xs ys:List Value}(h:VDL P U τ F l xs)(k:VDL P U τ F m ys)(o:Nat):VDL P U τ F (K9 l o m) (splice xs o ys):=by
 unfold K9 Xe.splice;rw[k.1];exact((h.take o).append k).append (h.drop _)
theorem VDL.agg {l:List SV}{xs:List Value}(h:VDL P U τ F l xs):VD P U τ F (.agg l) (.agg xs.toArray):= .agg l xs h.1 h.2
theorem VDL.tup {l:List SV}{xs:List Value}(h:VDL P U τ F l xs):VD P U τ F (.tup l) (.tuple xs.toArray):= .tup l xs h.1 h.2
theorem VDL.of_agg {l:List SV}{v:Value}(h:VD P U τ F (.agg l) v):∃xs:List Value,v= .agg xs.toArray/\VDL P U τ F l xs:=by
 cases h with|agg _ xs h1 h2=>exact⟨xs,rfl,h1,h2⟩
theorem VDL.of_tup {l:List SV}{v:Value}(h:VD P U τ F (.tup l) v):∃xs:List Value,v= .tuple xs.toArray/\VDL P U τ F l xs:=by
 cases h with|tup _ xs h1 h2=>exact⟨xs,rfl,h1,h2⟩
theorem PV.one {k:Kd}{v:Value}{d:Dat}(h:PV P F k v d):v.cells= #[v]:=by cases h<;>rfl
theorem W0 {a:SV}{v:Value}(h:VD P U τ F a v){l:List SV}(e:z7 a=some l):VDL P U τ F l v.cells.toList:=by
 cases h with
 |any v=>simp[z7]at e
 |agg l' xs h1 h2=>simp only[z7,bF4]at e;subst e;exact⟨by simpa [Value.cells]using h1,fun i a x ha hx=>h2 i a x ha (by simpa [Value.cells]using hx)⟩
 |int k x=>simp only[z7,bF4]at e;subst e;exact VDL.cons (.int k x) VDL.nil
 |bool x=>simp only[z7,bF4]at e;subst e;exact VDL.cons (.bool x) VDL.nil
 |str x=>simp only[z7,bF4]at e;subst e;exact VDL.cons (.str x) VDL.nil
 |nilp=>simp only[z7,bF4]at e;subst e;exact VDL.cons .nilp VDL.nil
 |ptr b z row fld i o h h0=>simp only[z7,bF4]at e;subst e;exact VDL.cons (.ptr b z row fld i o h h0) VDL.nil
 |pptr t L row fld i o l c h h0 h1=>simp only[z7,bF4]at e;subst e;exact VDL.cons (.pptr t L row fld i o l c h h0 h1) VDL.nil
 |rp row fld h0=>simp only[z7,bF4]at e;subst e;exact VDL.cons (.rp row fld h0) VDL.nil
 |rv L z xs h=>simp only[z7,bF4]at e;subst e;exact VDL.cons (.rv L z xs h) VDL.nil
 |rpq x v h=>
  simp only[z7,bF4]at e;subst e;rw[h.one];exact VDL.cons (.rpq x v h) VDL.nil
 |nils=>simp only[z7,bF4]at e;subst e;exact VDL.cons .nils VDL.nil
 |sl b z off len cap i o c h h0 h1 hc=>simp only[z7,bF4]at e;subst e;exact VDL.cons (.sl b z off len cap i o c h h0 h1 hc) VDL.nil
 |sl0 b z off len cap h h0 h1 hc=>simp only[z7,bF4]at e;subst e;exact VDL.cons (.sl0 b z off len cap h h0 h1 hc) VDL.nil
 |lst t L clip v h hc=>
  simp only[z7,bF4]at e;subst e;rw[h.one];exact VDL.cons (.lst t L clip v h hc) VDL.nil
 |tup l' xs h1 h2=>simp only[z7,bF4]at e;subst e;exact VDL.cons (.tup l' xs h1 h2) VDL.nil
 |fn f l' m xs ys h1 h2 h3 h4=>simp only[z7,bF4]at e;subst e;exact VDL.cons (.fn f l' m xs ys h1 h2 h3 h4) VDL.nil
 |nilf=>simp only[z7,bF4]at e;subst e;exact VDL.cons .nilf VDL.nil
 |map b i o h=>simp only[z7,bF4]at e;subst e;exact VDL.cons (.map b i o h) VDL.nil
 |nilm=>simp only[z7,bF4]at e;subst e;exact VDL.cons .nilm VDL.nil
 |iface t v x h=>simp only[z7,bF4]at e;subst e;exact VDL.cons (.iface t v x h) VDL.nil
 |nili=>simp only[z7,bF4]at e;subst e;exact VDL.cons .nili VDL.nil
 |yld=>simp[z7]at e
theorem A5 {f:Fm}{tm:T Value}(h:TD P U τ F f tm){o:Operand}{a:SV}(e:m9 f o=some a):∃v,d6 tm o=some v/\VD P U τ F a v:=by
 cases o with
 |tmp t=>
  simp only[m9,bF4]at e;refine⟨_,rfl,?_⟩;cases hl:lk f t with
  |none=>rw[hl]at e;subst e;exact .any _
  |some b=>rw[hl]at e;subst e;exact h t b hl
 |const v=>
  simp only[m9]at e;cases hc:cst v with
  |false=>simp[hc]at e
  |true=>simp only[hc,bH1,bF4]at e;subst e;exact⟨v,by simp[d6,hc],bm8 v⟩
 |global g=>simp[m9]at e
 |func g=>simp only[m9,bF4]at e;subst e;exact⟨_,rfl,.fn _ [] [] [] [] rfl (fun i a x h _=>by simp at h) rfl (fun i a x h _=>by simp at h)⟩
theorem av7 {f:Fm}{tm:T Value}(h:TD P U τ F f tm):∀ {os:List Operand} {l:List SV},aU4 f os=some l-> ∃vs,ag2 tm os=some vs/\VDL P U τ F l vs
 | [],l,e=>by simp only[aU4,bF4]at e;subst e;exact⟨[],rfl,VDL.nil⟩
 |o::os,l,e=>by
  simp only[aU4]at e;cases ho:m9 f o with
  |none=>simp[ho]at e
  |some a=>
   cases hos:aU4 f os with
   |none=>simp[ho,hos]at e
   |some l'=>
    simp only[ho,hos,bF4]at e;subst e;obtain⟨v,h1,h2⟩:=A5 h ho;obtain⟨vs,h3,h4⟩:=av7 h hos;exact⟨v::vs,by simp[ag2,h1,h3],VDL.cons h2 h4⟩
def PVD (P:Program)(U:Nat->List Dat->Dat)(τ:Tau)(F:Nat->Option Blk):List (Nat×SV)->List (Nat×Value)->Prop
 | [],[]=>True
 | (i,a)::l,(j,v)::m=>i=j/\VD P U τ F a v/\PVD P U τ F l m
 |_,_=>False
theorem af4 {f:Fm}{tm:T Value}(h:TD P U τ F f tm):∀ {os:List (Nat×Operand)} {l:List (Nat×SV)},ad9 f os=some l-> ∃vs,U8 tm os=some vs/\PVD P U τ F l vs
 | [],l,e=>by simp only[ad9,bF4]at e;subst e;exact⟨[],rfl,trivial⟩
 | (i,o)::os,l,e=>by
  simp only[ad9]at e;cases ho:m9 f o with
  |none=>simp[ho]at e
  |some a=>
   cases hos:ad9 f os with
   |none=>simp[ho,hos]at e
   |some l'=>
    simp only[ho,hos,bF4]at e;subst e;obtain⟨v,h1,h2⟩:=A5 h ho;obtain⟨vs,h3,h4⟩:=af4 h hos;exact⟨(i,v)::vs,by simp[U8,h1,h3],rfl,h2,h4⟩
theorem am2 {t:TypeId}{l:List SV}{xs:List Value}(h:VDL P U τ F l xs){off:Nat}{a:SV}(e:aI8 P t l off=some a):∃v,W8 P t xs off=some v/\VD P U τ F a v:=by
 unfold aI8 at e;unfold W8;split at e
 ·cases e
 ·rename_i d hd
  rw[hd];cases hb:ag1 d with
  |true=>
   simp only[hb,bH1]at e⊢;split at e
   ·rename_i i hi
    simp only[bF4]at e;subst e;exact⟨_,by rw[hi],((h.drop off).take i.size).agg⟩
   ·cases e
  |false=>
   simp only[hb,bH2]at e⊢;obtain⟨x,h1,h2⟩:=h.get e;exact⟨x,h1,h2⟩
theorem bn1 {t:TypeId}{a:SV}{v:Value}(h:VD P U τ F a v){f:Nat}{b:SV}(e:bb6 P t a f=some b):∃u,aj6 P t v f=some u/\VD P U τ F b u:=by
 unfold bb6 at e;unfold aj6;split at e
 ·rename_i fs hfs
  split at e
  ·rename_i fd hfd
   split at e
   ·rename_i cs
    obtain⟨xs,rfl,hx⟩:=VDL.of_agg h;obtain⟨u,h1,h2⟩:=am2 hx e;exact⟨u,by simp only[hfs,hfd];exact h1,h2⟩
   ·cases e
  ·cases e
 ·cases e
theorem aU5 {a:SV}{v:Value}(h:VD P U τ F a v){i:Nat}{b:SV}(e:aA4 a i=some b):∃u,R1 v i=some u/\VD P U τ F b u:=by
 unfold aA4 at e;split at e
 ·obtain⟨xs,rfl,hx⟩:=VDL.of_tup h
  obtain⟨u,h1,h2⟩:=hx.get e;exact⟨u,by simpa [R1]using h1,h2⟩
 ·cases e
theorem ad7 {place : Nat → Option (Nat × Nat)} : ∀ {ps : List (Nat × SV)} {qs : List (Nat × Value)} {l : List SV} {xs : List Value} {r : List SV}, VDL P U τ F l xs → PVD P U τ F ps qs → as6 place l ps = some r →
  ∃ys,an2 place xs qs=some ys/\VDL P U τ F r ys
 | [],[],l,xs,r,h,_,e=>by simp only[as6,bF4]at e;subst e;exact⟨xs,rfl,h⟩
 | (i,a)::ps,(j,v)::qs,l,xs,r,h,hp,e=>by
  obtain⟨rfl,hv,hp'⟩:=hp;simp only[as6]at e;split at e
  ·cases e
  ·rename_i off size hpl
   split at e
   ·cases e
   ·rename_i vs hvs
    have hc:=W0 hv hvs;simp only[an2,hpl];rw[hc.1,h.1]at e;cases hb:Nat.beq v.cells.toList.length size&&Nat.ble (off+size) xs.length with
    |false=>simp only[hb,bH2]at e;cases e
    |true=>
     simp only[hb,bH1]at e⊢;exact ad7 (h.splice hc off) hp' e
 | [],_::_,l,xs,r,h,hp,e=>hp.elim
 |_::_,[],l,xs,r,h,hp,e=>hp.elim
theorem L5 {t:TypeId}{l:List SV}(e:ae0 P t=some l):∃z,G5 P t=some z/\VDL P U τ F l z.cells.toList:=by
 unfold ae0 at e;split at e
 ·rename_i z hz;simp only[bF4]at e;subst e;exact⟨z,hz,Z1 _⟩
 ·cases e
theorem bm7 {t:TypeId}{ps:List (Nat×SV)}{qs:List (Nat×Value)}(h:PVD P U τ F ps qs){a:SV}(e:bb3 P t ps=some a):∃v,aj3 P t qs=some v/\VD P U τ F a v:=by
 unfold bb3 at e;unfold aj3;split at e
 ·cases e
 ·rename_i l hl
  obtain⟨z,h1,h2⟩:=L5 (U:=U) (τ:=τ) (F:=F) hl;rw[h1];split at e
  ·rename_i fs hfs
   split at e
   ·rename_i pl hpl
    split at e
    ·rename_i cs hcs
     simp only[bF4]at e;subst e;obtain⟨ys,h3,h4⟩:=ad7 h2 h hcs;exact⟨_,by simp only[hfs,hpl,h3],h4.agg⟩
    ·cases e
   ·cases e
  ·rename_i ie hfs
   split at e
   ·rename_i ie' hie
    split at e
    ·rename_i cs hcs
     simp only[bF4]at e;subst e;obtain⟨ys,h3,h4⟩:=ad7 h2 h hcs;exact⟨_,by simp only[hfs,hie,h3],h4.agg⟩
    ·cases e
   ·cases e
  ·cases e
end
end Go.Sx
namespace Go.Sx
open Go.Xe
def rng (e:E)(k:IntKind):E:=bf9 (t6 (t9 e (.int k.min))) (t9 e (.int (k.max+1)))
def ao7 (op:BinOp)(k:IntKind)(a b:E):E:=match a,b with
 | .int m,.int n=>.int (Go.bits op k m n)
 |a,b=>.op (.bits op k) [a,b]
def bt1 (a b:E):E:=match a,b with
 | .int m,.int n=>.int (m.tdiv n)
 |a,b=>.op .tdiv [a,b]
def bt2 (a b:E):E:=match a,b with
 | .int m,.int n=>.int (m.tmod n)
 |a,b=>.op .tmod [a,b]
def bt3 (k:IntKind)(a b:E):E:=match a,b with
 | .int m,.int n=>.int (k.wrap (m*2^(min n.toNat k.bits)))
 |a,b=>.op (.shl k) [a,b]
def bt4 (k:IntKind)(a b:E):E:=match a,b with
 | .int m,.int n=>.int (m.fdiv (2^(min n.toNat k.bits)))
 |a,b=>.op (.shr k) [a,b]
def aZ7 (a b:E):E:=match a,b with
 | .str p,.str q=>.str (p++q)
 |a,b=>.op .sapp [a,b]
def U2 (a:E):E:=match a with
 | .str p=>.int p.length
 |a=>.op .slen [a]
def aH7 (a b:E):E:=match a,b with
 | .str p,.str q=>.bool (Op.bytesLess p q)
 |a,b=>.op .lts [a,b]
section
variable (P :Program)(U:Nat->List Dat->Dat)
def ay6 (k:IntKind)(e:E):M SV:=match e with
 | .int n=>c9 (.int k (.int (k.wrap n)))
 |e=>bif decide (k= .i64)then a9 (i9 U (rng e .i64)) fun _=>c9 (.int k e)else c9 (.int k (.op (.wrap k) [e]))
def scmp (op:BinOp)(a b:E):Option E:=
 match op with
 | .eql=>some (C8 a b)
 | .neq=>some (t6 (C8 a b))
 | .lss=>some (t9 a b)
 | .leq=>some (t6 (t9 b a))
 | .gtr=>some (t9 b a)
 | .geq=>some (t6 (t9 a b))
 |_=>none
def bb2 (op:BinOp)(k:IntKind)(a b:E):M SV:=
 match op with
 | .add=>ay6 U k (t7 a b)
 | .sub=>ay6 U k (H7 a b)
 | .mul=>ay6 U k (bt0 a b)
 | .quo=>a9 (i9 U (t6 (C8 b (.int 0)))) fun _=>ay6 U k (bt1 a b)
 | .rem=>a9 (i9 U (t6 (C8 b (.int 0)))) fun _=>c9 (.int k (bt2 a b))
 | .and=>c9 (.int k (ao7 .and k a b))
 | .or=>c9 (.int k (ao7 .or k a b))
 | .xor=>c9 (.int k (ao7 .xor k a b))
 | .andNot=>c9 (.int k (ao7 .andNot k a b))
 |op=>match scmp op a b with|some c=>c9 (.bool c)|none=>a8 "arith"
def aM6 (op:BinOp)(k:IntKind)(a b:E):M SV:=
 a9 (i9 U (t6 (t9 b (.int 0)))) fun _=>
 match op with
 | .shl=>c9 (.int k (bt3 k a b))
 | .shr=>c9 (.int k (bt4 k a b))
 |_=>a8 "shift"
def sstr (op:BinOp)(a b:E):M SV:=
 match op with
 | .add=>a9 (i9 U (t9 (t7 (U2 a) (U2 b)) (.int 1000000001))) fun _=>c9 (.str (aZ7 a b))
 | .eql=>c9 (.bool (ar5 a b))
 | .neq=>c9 (.bool (t6 (ar5 a b)))
 | .lss=>c9 (.bool (aH7 a b))
 | .leq=>c9 (.bool (mkOr (aH7 a b) (ar5 a b)))
 | .gtr=>c9 (.bool (t6 (mkOr (aH7 a b) (ar5 a b))))
 | .geq=>c9 (.bool (t6 (aH7 a b)))
 |_=>a8 "str"
def bm9 (eq:TypeId->SV->SV->Option E)(xs ys:List SV):List Field->Option E
 | []=>some (.bool true)
 |f::fs=>bif f.name== "_" then bm9 eq xs ys fs else
  match aI8 P f.type xs f.offset,aI8 P f.type ys f.offset with
  |some a,some b=>match eq f.type a b,bm9 eq xs ys fs with
   |some p,some q=>some (bf9 p q)
   |_,_=>none
  |_,_=>none
def ai5 :SV->Bool
 | .ptr _ _ _ _| .pptr _ _ _ _| .rp _ _=>true
 |_=>false
def aL7 (size:Nat)(x y:SV):Option E:=
 match x,y with
 | .nilp,.nilp=>some (.bool true)
 | .rpq e,.nilp=>some (C8 e (.int (-1)))
 | .nilp,.rpq e=>some (C8 e (.int (-1)))
 | .nilp,y=>bif ai5 y then some (.bool false)else none
 |x,.nilp=>bif ai5 x then some (.bool false)else none
 | .ptr b z row fld,.ptr b' z' row' fld'=>bif Nat.beq b b'&&Nat.beq z z'&&Nat.beq fld fld'&&Nat.ble 1 z&&Nat.ble 1 size then some (C8 row row')else none
 |_,_=>none
def bh7 (x y:SV):Option E:=
 match x,y with
 | .nils,.nils=>some (.bool true)
 |_,_=>none
def am0 (x y:SV):Option E:=
 match x,y with
 | .nilm,.nilm=>some (.bool true)
 | .map _,.nilm=>some (.bool false)
 | .nilm,.map _=>some (.bool false)
 |_,_=>none
def bh6 (x y:SV):Option E:=
 match x,y with
 | .nilf,.nilf=>some (.bool true)
 | .nilf,.fn _ _ _=>some (.bool false)
 | .fn _ _ _,.nilf=>some (.bool false)
 |_,_=>none
def aE6 : Nat → TypeId → SV → SV → Option E
 |0,_,_,_=>none
 | d + 1, t, x, y => match P.underlying t with
  |some .bool=>match x,y with
   | .bool a,.bool b=>some (bs9 a b)
   |_,_=>none
  |some (.int _)=>match x,y with
   | .int k a,.int k' b=>bif decide (k=k')then some (C8 a b)else none
   |_,_=>none
  |some .string=>match x,y with
   | .str a,.str b=>some (ar5 a b)
   |_,_=>none
  |some (.pointer e)=>match P.info? e with
   |some ie=>aL7 ie.size x y
   |none=>none
  |some (.struct fs)=>match x,y with
   | .agg xs,.agg ys=>bif P.stoodInHeld t then none else bm9 P (aE6 d) xs ys fs.toList
   |_,_=>none
  |some (.slice _)=>bh7 x y
  |some (.map _ _)=>am0 x y
  |some (.func _ _ _)=>bh6 x y
  | some (.interface _) => match x, y with
   | .nili,.iface _ _=>some (.bool false)
   | .iface _ _,.nili=>some (.bool false)
   | .iface tx vx, .iface ty vy => bif decide (tx = ty) then
     match P.info? tx with
     |some i=>bif i.comparable then aE6 d tx vx vy else none
     |none=>none
    else some (.bool false)
   |_,_=>none
  |_=>none
def U7 (t:TypeId):SV->Bool
 | .any=>false
 | .agg _=> !P.eqGuardType P.depth t
 | .nili=>false
 |_=>true
def sbin (op:BinOp)(t:TypeId)(x y:SV):M SV:=
 match x,y with
 | .int k a,.int k' b=>match op with
  | .shl=>aM6 U .shl k a b
  | .shr=>aM6 U .shr k a b
  |op=>bif decide (k=k')then bb2 U op k a b else a8 "kinds"
 | .str a,.str b=>sstr U op a b
 |x,y=>match op with
  | .eql=>bif U7 P t x then match aE6 P 10000 t x y with
   |some b=>c9 (.bool b)
   |none=>a8 "eq" else a8 "eq guard"
  | .neq=>bif U7 P t x then match aE6 P 10000 t x y with
   |some b=>c9 (.bool (t6 b))
   |none=>a8 "eq" else a8 "eq guard"
  |_=>a8 "binop"
def snil (len:E):M SV:=fun s=>.all .b s.fv fun d=>
 .br d (.asm (.e (C8 len (.int 0))) ((C8 len (.int 0)).pr U) (.ret (.bool (.bool true),addF {s with fv:=s.fv+1} (C8 len (.int 0)) true))) (.ret (.bool (.bool false),{s with fv:=s.fv+1}))
def aR3 (op:BinOp)(t:TypeId)(x y:SV):Option E:=match P.underlying t with
 |some (.slice _)=>match op,x,y with
  | .eql,.sl _ _ _ len _,.nils=>some len
  | .eql,.lst _ L _,.nils=>some (v5 L)
  |_,_,_=>none
 |_=>none
def bv7 (op:BinOp)(t:TypeId)(x y:SV):M SV:=match aR3 P op t x y with
 |some len=>snil U len
 |none=>sbin P U op t x y
def bw0 (src dst:TypeId)(x:SV):M SV:=
 match P.underlying src with
 |none=>a8 "conv"
 |some _=>match P.underlying dst,x with
  |some (.int k),.int k0 e=>match e with
   | .int n=>c9 (.int k (.int (k.wrap n)))
   |e=>bif Nat.blt k.bits k0.bits then c9 (.int k (.op (.wrap k) [e]))else a9 (i9 U (rng e k)) fun _=>c9 (.int k e)
  |some .string,.str s=>c9 (.str s)
  |_,_=>a8 "conv"
def sun (op:UnOp)(x:SV):M SV:=
 match op,x with
 | .neg,.int k e=>ay6 U k (H7 (.int 0) e)
 | .not,.bool b=>c9 (.bool (t6 b))
 |_,_=>a8 "unop"
def bb7 (t:TypeId)(x:SV):Option SV:=
 match P.underlying t with
 |some (.interface _)=>none
 |some _=>some (.iface t x)
 |none=>none
def bn4 (big:Bool):SV->List SV->M SV
 |v,[]=>match v with
  | .int k n=>c9 (.int k n)
  |_=>a8 "min"
 |v,y::ys=>match v,y with
  | .int k a,.int _ b=>a9 (ad0 U (bif big then t9 a b else t9 b a)) fun t=>bn4 big (.int k (bif t then b else a)) ys
  |_,_=>a8 "min"
end
section
variable {P :Program}{U:Nat->List Dat->Dat}{τ:Tau}{F:Nat->Option Blk}
theorem bB6 {k:IntKind}{n:Int}(h1:k.min<=n)(h2:n<=k.max):k.wrap n=n:=by
 unfold IntKind.wrap;unfold IntKind.min at h1;unfold IntKind.max at h2;cases k<;>simp[IntKind.signed,IntKind.bits]at h1 h2⊢ <;>omega
theorem bv5 {e:E}{k:IntKind}(h:(rng e k).pr U):k.wrap (e.toI U)=e.toI U:=by
 rw[E.pr_iff,rng,aH4,B9,C3,C3]at h;simp only[bF5,bK0,bK2,bH5]at h;simp only[w9]at h;exact bB6 (by omega) (by omega)
theorem Y3 (op:BinOp)(k:IntKind)(a b:E):(ao7 op k a b).toI U=Go.bits op k (a.toI U) (b.toI U):=by unfold ao7;split<;>rfl
theorem bk8 (a b:E):(bt1 a b).toI U=(a.toI U).tdiv (b.toI U):=by unfold bt1;split<;>rfl
theorem bk9 (a b:E):(bt2 a b).toI U=(a.toI U).tmod (b.toI U):=by unfold bt2;split<;>rfl
theorem bl0 (k:IntKind)(a b:E):(bt3 k a b).toI U=k.wrap (a.toI U*2^(min (b.toI U).toNat k.bits)):=by unfold bt3;split<;>rfl
theorem bl1 (k:IntKind)(a b:E):(bt4 k a b).toI U=(a.toI U).fdiv (2^(min (b.toI U).toNat k.bits)):=by unfold bt4;split<;>rfl
theorem aZ8 (a b:E):((aZ7 a b).den U).toStr=(a.den U).toStr++(b.den U).toStr:=by unfold aZ7;split<;>rfl
theorem J0 (a:E):(U2 a).toI U=((a.den U).toStr.length:Int):=by unfold U2;split<;>rfl
theorem ae8 (a b:E):((aH7 a b).den U).toBool=Op.bytesLess (a.den U).toStr (b.den U).toStr:=by unfold aH7;split<;>rfl
theorem VD.int' {k:IntKind}{e:E}{n:Int}(h:e.toI U=n):VD P U τ F (.int k e) (.int k n):=by subst h;exact .int k e
theorem VD.bool' {e:E}{b:Bool}(h:(e.den U).toBool=b):VD P U τ F (.bool e) (.bool b):=by subst h;exact .bool e
theorem ad1 {k:IntKind}{e:E}{s:SS}{n:Int}(h:e.toI U=n):OKp U (ay6 U k e) s fun a=>VD P U τ F a (.int k (k.wrap n)):=by
 subst h;unfold ay6;split
 ·exact OKp.ret (.int k (.int _))
 ·by_cases hk:k= .i64
  ·subst hk
   simp only[bL1,bH1];exact OKp.need.bind fun _ s' _ _ hp=>OKp.ret (VD.int' (bv5 hp).symm)
  ·simp only[hk,decide_false,bH2]
   exact OKp.ret (.int k (.op (.wrap k) [_]))
theorem bg3 {b:E}(h:(t6 (C8 b (.int 0))).pr U):¬b.toI U=0:=by
 rw[E.pr_iff,B9,B8,bK0,bK2]at h;exact h
theorem bB1 {op:BinOp}{a b c:E}(h:scmp op a b=some c):aj4 op (a.toI U) (b.toI U)=some (.bool (c.den U).toBool):=by
 unfold scmp at h;split at h<;>simp only[bF4,reduceCtorEq]at h<;>subst h<;>simp only[aj4,B9,C3,B8,bF4,Value.bool.injEq]
 ·by_cases h:b.toI U<a.toI U<;>simp[h]<;>omega
 ·by_cases h:a.toI U<b.toI U<;>simp[h]<;>omega
theorem bm6 {op:BinOp}{k:IntKind}{a b:E}{s:SS}:OKp U (bb2 U op k a b) s fun c=>∃v,A9 op k (a.toI U) (b.toI U)=some v/\VD P U τ F c v:=by
 unfold bb2;split
 ·exact(ad1 (i4 a b)).mono fun c h=>⟨_,rfl,h⟩
 ·exact(ad1 (p7 a b)).mono fun c h=>⟨_,rfl,h⟩
 ·exact(ad1 (bk7 a b)).mono fun c h=>⟨_,rfl,h⟩
 ·refine OKp.need.bind fun _ s' _ _ hp=>(ad1 (bk8 a b)).mono fun c h=>⟨_,?_,h⟩
  simp[A9,bg3 hp]
 ·refine OKp.need.bind fun _ s' _ _ hp=>OKp.ret ⟨_,?_,VD.int' (bk9 a b)⟩
  simp[A9,bg3 hp]
 ·exact OKp.ret ⟨_,rfl,VD.int' (Y3 _ k a b)⟩
 ·exact OKp.ret ⟨_,rfl,VD.int' (Y3 _ k a b)⟩
 ·exact OKp.ret ⟨_,rfl,VD.int' (Y3 _ k a b)⟩
 ·exact OKp.ret ⟨_,rfl,VD.int' (Y3 _ k a b)⟩
 ·split
  ·rename_i c hc
   refine OKp.ret ⟨_,?_,.bool c⟩;rw[<-bB1 (U:=U) hc];cases op<;>first|rfl| (exact absurd rfl (by assumption))
  ·exact OKp.fail
theorem O6 {b:E}(h:(t6 (t9 b (.int 0))).pr U):0<=b.toI U:=by
 rw[E.pr_iff,B9,C3,bK0,bK2]at h;exact Int.not_lt.1 h
theorem aI9 {op:BinOp}{k:IntKind}{a b:E}{s:SS}:OKp U (aM6 U op k a b) s fun c=>∃v,aq5 op k (a.toI U) (b.toI U)=some v/\VD P U τ F c v:=by
 unfold aM6;refine OKp.need.bind fun _ s' _ _ hp=>?_
 have h0:=O6 hp;have e:decide (b.toI U<0)=false:=by simp;exact h0
 split
 ·exact OKp.ret ⟨_,by simp only[aq5,e,bH2],VD.int' (bl0 k a b)⟩
 ·exact OKp.ret ⟨_,by simp only[aq5,e,bH2],VD.int' (bl1 k a b)⟩
 ·exact OKp.fail
theorem VD.str' {e:E}{l:List UInt8}(h:(e.den U).toStr=l):VD P U τ F (.str e) (.string ⟨l.toArray⟩):=by subst h;exact .str e
theorem bB3 {op:BinOp}{a b:E}{s:SS}:OKp U (sstr U op a b) s fun c=>∃v,by6 op ⟨(a.den U).toStr.toArray⟩ ⟨(b.den U).toStr.toArray⟩=some v/\VD P U τ F c v:=by
 unfold sstr;split
 ·refine OKp.need.bind fun _ s' _ _ hp=>?_
  rw[E.pr_iff,C3,i4,J0,J0]at hp;simp only[bH5]at hp;simp only[w9]at hp;refine OKp.ret ⟨_,?_,VD.str' (aZ8 a b)⟩;have hb:Nat.ble ((a.den U).toStr.length+(b.den U).toStr.length) 1000000000=true:=bG1 (by omega)
  simp only[by6,hb,bH1]
 ·exact OKp.ret ⟨.bool ((a.den U).toStr==(b.den U).toStr),rfl,VD.bool' (P3 a b)⟩
 ·exact OKp.ret ⟨.bool (!((a.den U).toStr==(b.den U).toStr)),rfl,VD.bool' (by rw[B9,P3])⟩
 ·exact OKp.ret ⟨.bool (Op.bytesLess (a.den U).toStr (b.den U).toStr),rfl,VD.bool' (ae8 a b)⟩
 ·exact OKp.ret ⟨.bool (Op.bytesLess (a.den U).toStr (b.den U).toStr|| (a.den U).toStr==(b.den U).toStr),rfl,VD.bool' (by rw[aS1,ae8,P3])⟩
 ·exact OKp.ret ⟨.bool (!(Op.bytesLess (a.den U).toStr (b.den U).toStr|| (a.den U).toStr==(b.den U).toStr)),rfl,VD.bool' (by rw[B9,aS1,ae8,P3])⟩
 ·exact OKp.ret ⟨.bool (!Op.bytesLess (a.den U).toStr (b.den U).toStr),rfl,VD.bool' (by rw[B9,ae8])⟩
 ·exact OKp.fail
theorem aL6 {eq : TypeId → SV → SV → Option E} {xe : TypeId → Value → Value → Option Bool} (h : ∀ t a b v u c, VD P U τ F a v → VD P U τ F b u → eq t a b = some c → xe t v u = some (c.den U).toBool)
  {l m:List SV} {xs ys:List Value} (hl:VDL P U τ F l xs) (hm:VDL P U τ F m ys):∀ {fs:List Field} {c:E},bm9 P eq l m fs=some c->aC0 P xe xs ys fs=some (c.den U).toBool
 | [],c,e=>by simp only[bm9,bF4]at e;subst e;rfl
 |f::fs,c,e=>by
  simp only[bm9]at e;simp only[aC0];cases hn:f.name== "_" with
  |true=>simp only[hn,bH1]at e⊢;exact aL6 h hl hm e
  |false=>
   simp only[hn,bH2]at e⊢;split at e
   ·rename_i a b ha hb
    split at e
    ·rename_i p q hp hq
     simp only[bF4]at e;subst e;obtain⟨v,h1,h2⟩:=am2 hl ha;obtain⟨u,h3,h4⟩:=am2 hm hb;simp only[h1,h3,h _ _ _ _ _ _ h2 h4 hp];rw[aH4];cases hpd:(p.den U).toBool with
     |true=>simp only[bQ7];exact aL6 h hl hm hq
     |false=>rfl
    ·cases e
   ·cases e
theorem aI0 {a:SV}{v:Value}(h:VD P U τ F a v)(e:ai5 a=true):∃p,v= .pointer (some p):=by
 cases h<;>first|exact⟨_,rfl⟩| (simp[ai5]at e)
theorem bn0 {size : Nat} {x y : SV} {v u : Value} (hx : VD P U τ F x v) (hy : VD P U τ F y u) {c : E} (e : aL7 size x y = some c) {d : Nat} {t t' : TypeId} (ht : P.underlying t = some (.pointer t')) {ie : TypeInfo} (hi : P.info? t' = some ie)
  (hs:ie.size=size):xeq P (d+1) t v u=some (c.den U).toBool:=by
 unfold aL7 at e;split at e
 ·simp only[bF4]at e;subst e;cases hx;cases hy;simp[xeq,ht];rfl
 ·rename_i q
  simp only[bF4]at e;subst e;cases hy;rw[B8,w9];cases hx with
  |rpq _ _ h=>
  generalize hq:q.toI U=m at h;cases h with
  |rp k=>rw[show decide ((k:Int)= -1)=false from bN0 (by omega)];simp[xeq,ht]
  |rpn=>simp[xeq,ht]
 ·rename_i q
  simp only[bF4]at e;subst e;cases hx;rw[B8,w9];cases hy with
  |rpq _ _ h=>
  generalize hq:q.toI U=m at h;cases h with
  |rp k=>rw[show decide ((k:Int)= -1)=false from bN0 (by omega)];simp[xeq,ht]
  |rpn=>simp[xeq,ht]
 ·cases hp:ai5 y with
  |false=>simp[hp]at e
  |true=>
   simp only[hp,bH1,bF4]at e;subst e;obtain⟨p,rfl⟩:=aI0 hy hp;cases hx;simp[xeq,ht];rfl
 ·cases hp:ai5 x with
  |false=>simp[hp]at e
  |true=>
   simp only[hp,bH1,bF4]at e;subst e;obtain⟨p,rfl⟩:=aI0 hx hp;cases hy;simp[xeq,ht];rfl
 ·rename_i b z row fld b' z' row' fld'
  cases hb:Nat.beq b b'&&Nat.beq z z'&&Nat.beq fld fld'&&Nat.ble 1 z&&Nat.ble 1 size with
  |false=>simp[hb]at e
  |true=>
   simp only[hb,bH1,bF4]at e;subst e;simp only[bF5,bJ4,bK8]at hb;obtain⟨⟨⟨⟨rfl,rfl⟩,rfl⟩,hz⟩,hsz⟩:=hb;cases hx with
   |ptr _ _ _ _ i o h h0=>
    cases hy with
    |ptr _ _ _ _ i' o' h' h0'=>
     rw[h]at h';simp only[bF4,bF6]at h';obtain⟨rfl,rfl⟩:=h';simp only[xeq,ht,j9,bH1,hi];rw[u6 (by omega),bH2,B8]
     congr 1
     rw[Bool.eq_iff_iff];simp only[bJ4,bH5]
     constructor
     ·intro h
      have:row.toN U*z=row'.toN U*z:=by omega
      have:=Nat.eq_of_mul_eq_mul_right (by omega) this
      show row.toI U=row'.toI U;have e1:(row.toI U).toNat=(row'.toI U).toNat:=this;omega
     ·intro h
      have:row.toI U=row'.toI U:=h;show o+(row.toI U).toNat*z+fld=o+(row'.toI U).toNat*z+fld;rw[this]
 ·cases e
theorem VD.not_int {a:SV}{k:IntKind}{n:Int}(h:VD P U τ F a (.int k n)):a= .any\/ ∃e,a= .int k e:=by
 cases h with
 |any=>exact .inl rfl
 |int k e=>exact .inr ⟨e,rfl⟩
 |rpq x v h=>cases h
 |lst t L clip v h hc=>cases h
theorem VD.not_str {a:SV}{s:ByteArray}(h:VD P U τ F a (.string s)):a= .any\/ ∃e,a= .str e:=by
 cases h with
 |any=>exact .inl rfl
 |str e=>exact .inr ⟨e,rfl⟩
 |rpq x v h=>cases h
 |lst t L clip v h hc=>cases h
theorem VD.not_complex {a:SV}{f:FloatKind}{m n:Nat}(h:VD P U τ F a (.complex f m n)):a= .any:=by
 cases h with
 |any=>rfl
 |rpq x v h=>cases h
 |lst t L clip v h hc=>cases h
theorem bw3 {x y:SV}{v u:Value}(hx:VD P U τ F x v)(hy:VD P U τ F y u){c:E}(e:bh7 x y=some c){d:Nat}{t t':TypeId}(ht:P.underlying t=some (.slice t')):xeq P (d+1) t v u=some (c.den U).toBool:=by
 unfold bh7 at e;split at e<;>simp only[bF4,reduceCtorEq]at e<;>subst e<;>cases hx<;>cases hy<;>simp[xeq,ht]<;>rfl
theorem aU3 {x y:SV}{v u:Value}(hx:VD P U τ F x v)(hy:VD P U τ F y u){c:E}(e:am0 x y=some c){d:Nat}{t t' t'':TypeId}(ht:P.underlying t=some (.map t' t'')):xeq P (d+1) t v u=some (c.den U).toBool:=by
 unfold am0 at e;split at e<;>simp only[bF4,reduceCtorEq]at e<;>subst e<;>cases hx<;>cases hy<;>simp[xeq,ht]<;>rfl
theorem bw2 {x y:SV}{v u:Value}(hx:VD P U τ F x v)(hy:VD P U τ F y u){c:E}(e:bh6 x y=some c){d:Nat}{t:TypeId}{ps rs:Array TypeId}{b:Bool}(ht:P.underlying t=some (.func ps rs b)):xeq P (d+1) t v u=some (c.den U).toBool:=by
 unfold bh6 at e;split at e<;>simp only[bF4,reduceCtorEq]at e<;>subst e<;>cases hx<;>cases hy<;>simp[xeq,ht]<;>rfl
theorem av6 :∀(d:Nat) (t:TypeId) (a b:SV) (v u:Value) (c:E),VD P U τ F a v->VD P U τ F b u->aE6 P d t a b=some c->xeq P d t v u=some (c.den U).toBool
 |0,t,a,b,v,u,c,ha,hb,e=>by simp[aE6]at e
 |d+1,t,a,b,v,u,c,ha,hb,e=>by
  simp only[aE6]at e;split at e
  ·rename_i ht
   split at e
   ·simp only[bF4]at e;subst e;cases ha;cases hb
    simp only[xeq,ht,bk6]
   ·cases e
  ·rename_i ht
   split at e
   ·rename_i k x k' y
    by_cases hk:k=k'
    ·simp only[hk,bL1,bH1,bF4]at e;subst e;subst hk;cases ha;cases hb
     simp only[xeq,ht,B8,bL1,bH1]
    ·simp[hk]at e
   ·cases e
  ·rename_i ht
   split at e
   ·simp only[bF4]at e;subst e;cases ha;cases hb
    simp only[xeq,ht,P3]
   ·cases e
  ·rename_i t' ht
   split at e
   ·rename_i ie hie
    exact bn0 ha hb e ht hie rfl
   ·cases e
  ·rename_i fs ht
   split at e
   ·rename_i xs ys
    cases hs:P.stoodInHeld t with
    |true=>simp[hs]at e
    |false=>
     simp only[hs,bH2]at e;obtain⟨vs,rfl,h1⟩:=VDL.of_agg ha;obtain⟨us,rfl,h2⟩:=VDL.of_agg hb;simp only[xeq,ht,hs,bH2];exact aL6 (av6 d) h1 h2 e
   ·cases e
  ·rename_i ht;exact bw3 ha hb e ht
  ·rename_i ht;exact aU3 ha hb e ht
  ·rename_i ht;exact bw2 ha hb e ht
  ·rename_i ht
   split at e
   ·simp only[bF4]at e;subst e;cases ha;cases hb;simp only[xeq,ht];rfl
   ·simp only[bF4]at e;subst e;cases ha;cases hb;simp only[xeq,ht];rfl
   ·rename_i tx vx ty vy
    cases ha with
    |iface _ _ x hx=>
     cases hb with
     |iface _ _ y hy=>
      by_cases hk:tx=ty
      ·subst hk
       simp only[bL1,bH1]at e;split at e
       ·rename_i i hi
        cases hcm:i.comparable with
        |false=>simp[hcm]at e
        |true=>
         simp only[hcm,bH1]at e;simp only[xeq,ht,bL1,bH1,hi,hcm];exact av6 d tx vx vy x y c hx hy e
       ·cases e
      ·simp only[hk,decide_false,bH2,bF4]at e;subst e
       simp only[xeq,ht,hk,decide_false,bH2];rfl
   ·cases e
  ·cases e
theorem PV.guard {k:Kd}{v:Value}{d:Dat}(h:PV P F k v d)(t:TypeId):I0 P t v=true:=by cases h<;>rfl
theorem af3 {t:TypeId}{a:SV}{v:Value}(h:VD P U τ F a v)(e:U7 P t a=true):I0 P t v=true:=by
 cases h with
 |any=>simp[U7]at e
 |nili=>simp[U7]at e
 |yld=>first|exact e|rfl|simp[U7,I0]at e⊢
 |agg l xs h1 h2=>exact e
 |lst t' L clip v h hc=>exact h.guard t
 |rpq x v h=>exact h.guard t
 |_=>rfl
theorem I9 {op:BinOp}{t:TypeId}{v u w:Value}(h:Z5 P op t v u=some w):F9 P op t v u=some w:=by
 unfold F9;rw[h]
theorem N0 {op : BinOp} {t : TypeId} {v u : Value} (h1 : ∀ k a k' b, v = .int k a → u = .int k' b → False) (h2 : ∀ a b, v = .string a → u = .string b → False) (h3 : ∀ f m n, u = .complex f m n → False) :
  Z5 P op t v u=match op with
  | .eql=>bif I0 P t v then match xeq P 10000 t v u with
   |some b=>some (.bool b)
   |none=>none else none
  | .neq=>bif I0 P t v then match xeq P 10000 t v u with
   |some b=>some (.bool (!b))
   |none=>none else none
  |_=>none:=by
 unfold Z5;split
 ·exact(h1 _ _ _ _ rfl rfl).elim
 ·exact(h2 _ _ rfl rfl).elim
 ·exact(h3 _ _ _ rfl).elim
 ·rfl
theorem by0 {op:BinOp}{t:TypeId}{k:IntKind}{a b:Int}{v:Value}(h:A9 op k a b=some v):Z5 P op t (.int k a) (.int k b)=some v:=by
 unfold Z5;simp only[bL1,bH1];cases op<;>first|exact h| (simp[A9,aj4]at h)
theorem bA9 {op:BinOp}{t:TypeId}{a b:SV}{v u:Value}(ha:VD P U τ F a v)(hb:VD P U τ F b u){s:SS}:OKp U (sbin P U op t a b) s fun c=>∃w,F9 P op t v u=some w/\VD P U τ F c w:=by
 unfold sbin;split
 ·rename_i k x k' y
  cases ha;cases hb;split
  ·exact aI9.mono fun c ⟨w,h1,h2⟩=>⟨w,I9 h1,h2⟩
  ·exact aI9.mono fun c ⟨w,h1,h2⟩=>⟨w,I9 h1,h2⟩
  ·by_cases hk:k=k'
   ·subst hk
    simp only[bL1,bH1];exact bm6.mono fun c ⟨w,h1,h2⟩=>⟨w,I9 (by0 h1),h2⟩
   ·simp only[hk,decide_false,bH2];exact OKp.fail
 ·cases ha;cases hb
  exact bB3.mono fun c ⟨w,h1,h2⟩=>⟨w,I9 h1,h2⟩
 ·rename_i hi hs
  have key:∀c,U7 P t a=true->aE6 P 10000 t a b=some c->(∀k p k' q,v= .int k p->u= .int k' q->False)/\(∀p q,v= .string p->u= .string q->False)/\(∀f m n,u= .complex f m n->False):=by
   intro c hg hq;have na:a≠ .any:=fun e=>by subst e;simp[U7]at hg
   have nb:b≠ .any:=by
    intro e;subst e;have:∀d,aE6 P (d+1) t a .any=none:=by
     intro d;simp only[aE6];split<;>(try rfl)<;>(try (split<;>first|rfl| (rename_i h;cases h)|skip))
     all_goals (first| (unfold aL7;split<;>first|rfl| (rename_i h;cases h;done)| (simp[ai5]))| (unfold bh7;split<;>first|rfl| (rename_i h;cases h;done))| (unfold am0;split<;>first|rfl| (rename_i h;cases h;done))| (unfold bh6;split<;>first|rfl| (rename_i h;cases h;done))|simp_all)
    rw[this 9999]at hq;cases hq
   refine⟨fun k p k' q e1 e2=>?_,fun p q e1 e2=>?_,fun f m n e=>?_⟩
   ·subst e1;subst e2
    obtain⟨e,rfl⟩:=ha.not_int.resolve_left na;obtain⟨e',rfl⟩:=hb.not_int.resolve_left nb;exact hi _ _ _ _ rfl rfl
   ·subst e1;subst e2
    obtain⟨e,rfl⟩:=ha.not_str.resolve_left na;obtain⟨e',rfl⟩:=hb.not_str.resolve_left nb;exact hs _ _ rfl rfl
   ·subst e;exact nb hb.not_complex
  split
  ·cases hg:U7 P t a with
   |false=>exact OKp.fail
   |true=>
    simp only[bH1];split
    ·rename_i c hc
     obtain⟨k1,k2,k3⟩:=key c hg hc;refine OKp.ret ⟨_,I9 ?_,.bool c⟩;rw[N0 k1 k2 k3];simp only[af3 ha hg,bH1,av6 _ _ _ _ _ _ _ ha hb hc]
    ·exact OKp.fail
  ·cases hg:U7 P t a with
   |false=>exact OKp.fail
   |true=>
    simp only[bH1];split
    ·rename_i c hc
     obtain⟨k1,k2,k3⟩:=key c hg hc;refine OKp.ret ⟨_,I9 ?_,VD.bool' (B9 c)⟩;rw[N0 k1 k2 k3];simp only[af3 ha hg,bH1,av6 _ _ _ _ _ _ _ ha hb hc]
    ·exact OKp.fail
  ·exact OKp.fail
theorem bv8 {op:BinOp}{t:TypeId}{a b:SV}{v u:Value}(ha:VD P U τ F a v)(hb:VD P U τ F b u){s:SS}:OKp U (bv7 P U op t a b) s fun c=>∃w,F9 P op t v u=some w/\VD P U τ F c w:=by
 unfold bv7;split
 ·rename_i len h
  unfold aR3 at h;split at h
  ·rename_i t' ht
   split at h
   ·rename_i b' z off len' cap
    simp only[bF4]at h;subst h;have hg:I0 P t v=true:=af3 ha rfl;cases hb;intro Q hq hf;cases ha with
    |sl _ _ _ _ _ i o c k h0 h1 hc=>
     refine⟨_,_,(hq false).2 (fun h=>by rw[E.pr_iff]at h;cases h),⟨rfl,rfl,⟨[],rfl⟩,rfl⟩,hf,.bool false,I9 ?_,.bool (.bool false)⟩
     rw[N0 (fun _ _ _ _ h=>by cases h) (fun _ _ h=>by cases h) (fun _ _ _ h=>by cases h)]
     simp only[hg,bH1];simp[xeq,ht]
    |sl0 _ _ _ _ _ k h0 h1 hc=>
     have hp:(C8 len' (.int 0)).pr U:=(E.pr_iff U _).2 (by rw[B8];simp only[h1];rfl)
     refine⟨_,_,(hq true).1 ((E.pr_iff U _).2 rfl) hp,⟨rfl,rfl,⟨[(C8 len' (.int 0),true)],rfl⟩,rfl⟩,hf.cons ((E.pr_iff U _).1 hp),.bool true,I9 ?_,.bool (.bool true)⟩;rw[N0 (fun _ _ _ _ h=>by cases h) (fun _ _ h=>by cases h) (fun _ _ _ h=>by cases h)]
     simp only[hg,bH1];simp[xeq,ht]
   ·rename_i t' L clip
    simp only[bF4]at h;subst h;have hg:I0 P t v=true:=af3 ha rfl;cases hb;intro Q hq hf;cases ha with
    |lst _ _ _ _ hpv _=>
     have key:∀(v:Value) (d:Dat),PV P F (.sl t') v d->v= .slice none 0 0->d.rows=[]:=fun v d h e=>by
      cases h with
      |nils=>rfl
      |vague=>rfl
      |sl=>cases e
     have key2:∀(v:Value) (d:Dat),PV P F (.sl t') v d->v= .slice none 0 0\/ ∃a l c,v= .slice (some a) l c:=fun v d h=>by
      cases h with
      |nils=>exact .inl rfl
      |vague=>exact .inr ⟨_,_,_,rfl⟩
      |sl=>exact .inr ⟨_,_,_,rfl⟩
     by_cases hv:v= .slice none 0 0
     ·subst hv
      have hL:(L.toR U).length=0:=by have h0:=key _ (.lst (L.toR U)) hpv rfl;rw[show L.toR U=[]from h0];rfl
      have hp:(C8 (v5 L) (.int 0)).pr U:=(E.pr_iff U _).2 (by rw[B8];show decide ((v5 L).toI U=(E.int 0).toI U)=true;rw[e9,hL];rfl)
      refine⟨_,_,(hq true).1 ((E.pr_iff U _).2 rfl) hp,⟨rfl,rfl,⟨[(C8 (v5 L) (.int 0),true)],rfl⟩,rfl⟩,hf.cons ((E.pr_iff U _).1 hp),.bool true,I9 ?_,.bool (.bool true)⟩;rw[N0 (fun _ _ _ _ h=>by cases h) (fun _ _ h=>by cases h) (fun _ _ _ h=>by cases h)]
      simp only[hg,bH1];simp[xeq,ht]
     ·have hs:∃a l c,v= .slice (some a) l c:=(key2 _ _ hpv).resolve_left hv
      obtain⟨a,l,c,rfl⟩:=hs;refine⟨_,_,(hq false).2 (fun h=>by rw[E.pr_iff]at h;cases h),⟨rfl,rfl,⟨[],rfl⟩,rfl⟩,hf,.bool false,I9 ?_,.bool (.bool false)⟩
      rw[N0 (fun _ _ _ _ h=>by cases h) (fun _ _ h=>by cases h) (fun _ _ _ h=>by cases h)]
      simp only[hg,bH1];simp[xeq,ht]
   ·cases h
  ·cases h
 ·exact bA9 ha hb
theorem bw1 {src dst:TypeId}{a:SV}{v:Value}(ha:VD P U τ F a v){s:SS}:OKp U (bw0 P U src dst a) s fun c=>∃w,ah3 P src dst v=some w/\VD P U τ F c w:=by
 unfold bw0;split
 ·exact OKp.fail
 ·rename_i d hd
  split
  ·rename_i k k0 e hk
   cases ha;split
   ·rename_i n
    exact OKp.ret ⟨.int k (k.wrap n),by simp only[ah3,hd,hk];rfl,VD.int' rfl⟩
   ·cases Nat.blt k.bits k0.bits with
    |true=>exact OKp.ret ⟨.int k (k.wrap (e.toI U)),by simp only[ah3,hd,hk],VD.int' rfl⟩
    |false=>exact OKp.need.bind fun _ s' _ _ hp=>OKp.ret ⟨.int k (k.wrap (e.toI U)),by simp only[ah3,hd,hk],VD.int' (bv5 hp).symm⟩
  ·rename_i e hk
   cases ha;exact OKp.ret ⟨_,by simp only[ah3,hd,hk],.str e⟩
  ·exact OKp.fail
theorem bE7 {op:UnOp}{a:SV}{v:Value}(ha:VD P U τ F a v){s:SS}:OKp U (sun U op a) s fun c=>∃w,xun op v=some w/\VD P U τ F c w:=by
 unfold sun;split
 ·cases ha
  exact(ad1 (p7 _ _)).mono fun c h=>⟨_,rfl,h⟩
 ·cases ha
  exact OKp.ret ⟨_,rfl,VD.bool' (B9 _)⟩
 ·exact OKp.fail
theorem bn2 {t:TypeId}{a b:SV}{v:Value}(ha:VD P U τ F a v)(e:bb7 P t a=some b):∃w,aj7 P t v=some w/\VD P U τ F b w:=by
 unfold bb7 at e;unfold aj7;cases h:P.underlying t with
 |none=>simp[h]at e
 |some d=>
  rw[h]at e;cases d<;>first
   | (simp at e;done)
   | (simp only[bF4]at e;subst e;exact⟨_,rfl,.iface t a v ha⟩)
theorem aM1 {big:Bool}:∀ {l:List SV} {xs:List Value} {a:SV} {v:Value} {s:SS},VD P U τ F a v->VDL P U τ F l xs->OKp U (bn4 U big a l) s fun c=>∃w,ab0 big v xs=some w/\VD P U τ F c w
 | [],xs,a,v,s,ha,hl=>by
  have:xs=[]:=bG0 hl.1.symm;subst this;unfold bn4;split
  ·cases ha;exact OKp.ret ⟨_,rfl,.int _ _⟩
  ·exact OKp.fail
 |b::l,xs,a,v,s,ha,hl=>by
  obtain⟨y,ys,rfl,hb,hl'⟩:=hl.uncons;unfold bn4;split
  ·rename_i k x k' z
   cases ha;cases hb;refine OKp.test.bind fun t s' _ _ ht=>?_
   have e:(bif big then(bif decide (x.toI U<z.toI U)then z.toI U else x.toI U)else(bif decide (z.toI U<x.toI U)then z.toI U else x.toI U))=(bif t then z else x).toI U:=by
    cases big
    ·simp only[bH2,C3]at ht⊢;rw[ht];cases t<;>rfl
    ·simp only[bH1,C3]at ht⊢;rw[ht];cases t<;>rfl
   have:=aM1 (big:=big) (s:=s') (VD.int' (P:=P) (τ:=τ) (F:=F) (k:=k) e.symm) hl';exact this
  ·exact OKp.fail
end
end Go.Sx
namespace Go.Sx
open Go.Xe
section
variable {P :Program}{U:Nat->List Dat->Dat}
structure Ext (τ:Tau)(F:Nat->Option Blk)(s:SS)(hp:Hp)(τ':Tau)(F':Nat->Option Blk)(s':SS)(hp':Hp):Prop where
 t:Tle τ τ'
 f:Fle F F'
 nx:hp.nx<=hp'.nx
 snx:s.nx<=s'.nx
 st:∀b,b<s.nx->τ' b=τ b
 low:∀b x,s'.get b=some x->b<s.nx-> ∃y,s.get b=some y
 hh:∃l,s'.h=l++s.h/\(∀i,i<hp.nx->(∀b x o,s.get b=some x->τ b=some (some (i,o))->b∈l.map Prod.fst->False)->hp'.m.get i=hp.m.get i)/\
  (∀b i o,s.nx<=b->τ' b=some (some (i,o))->hp.nx<=i\/ ∃b0 x o0,s.get b0=some x/\τ b0=some (some (i,o0))/\b0∈l.map Prod.fst)/\
  (∀i y,i<hp.nx->F' i=some y->F i=some y\/ ∃b o,τ' b=some (some (i,o))/\b∈l.map Prod.fst)/\
  ((∀p∈l,p.2≠none)-> ∀i y,F' i=some y->F i=some y)
 hf:∃l,s'.fc=l++s.fc
theorem Ext.kept {τ τ':Tau}{F F':Nat->Option Blk}{s s':SS}{hp hp':Hp}(h:Ext τ F s hp τ' F' s' hp'):∀i,i<hp.nx->(∀b x o,s.get b=some x->τ b=some (some (i,o))->False)->hp'.m.get i=hp.m.get i:=by
 obtain⟨l,_,h1,_⟩:=h.hh
 grind
theorem Ext.fresh {τ τ':Tau}{F F':Nat->Option Blk}{s s':SS}{hp hp':Hp}(h:Ext τ F s hp τ' F' s' hp'):∀b i o,s.nx<=b->τ' b=some (some (i,o))->hp.nx<=i\/ ∃b0 x o0,s.get b0=some x/\τ b0=some (some (i,o0)):=by
 obtain⟨l,_,_,h1,_⟩:=h.hh
 grind
theorem SD.bound {τ:Tau}{F:Nat->Option Blk}{s:SS}{hp:Hp}(h:SD P U τ F s hp){b:Nat}{x:v9}(hb:s.get b=some x):b<s.nx:=by
 have:τ b≠none:=by rcases h.live b x hb with⟨i,o,y,h1,_⟩| ⟨h1,_⟩<;>rw[h1]<;>simp
 exact Nat.lt_of_not_le fun hle=>this (h.new b hle)
theorem Ext.refl {τ:Tau}{F:Nat->Option Blk}{s:SS}{hp:Hp}(h:SD P U τ F s hp):Ext τ F s hp τ F s hp:=
 ⟨Tle.refl τ,Fle.refl F,bH7 _,bH7 _,fun _ _=>rfl,fun b x hb _=>⟨x,hb⟩,⟨[],rfl,fun _ _ _=>rfl,fun b i o hb ht=>(by rw[h.new b hb]at ht;cases ht),fun _ _ _ h=>.inl h,fun _ _ _ h=>h⟩,⟨[],rfl⟩⟩
theorem Ext.trans {τ τ1 τ2 : Tau} {F F1 F2 : Nat → Option Blk} {s s1 s2 : SS} {hp hp1 hp2 : Hp} (h : Ext τ F s hp τ1 F1 s1 hp1) (k : Ext τ1 F1 s1 hp1 τ2 F2 s2 hp2) : Ext τ F s hp τ2 F2 s2 hp2 := by
 obtain⟨l1,a1,a2,a3,a4,a5⟩:=h.hh;obtain⟨l2,b1,b2,b3,b4,b5⟩:=k.hh;refine⟨h.t.trans k.t,h.f.trans k.f,bL2 h.nx k.nx,bL2 h.snx k.snx,fun b hb=>?_,fun b x hb hlt=>?_,⟨l2++l1,by rw[b1,a1,bG8],fun i hi hn=>?_,fun b i o hb ht=>?_,fun i y hi hy=>?_,fun hp i y hy=>a5 (fun p h=>hp p (bN9 _ h)) i y (b5 (fun p h=>hp p (bP2 _ h)) i y hy)⟩,?_⟩
 ·rw[k.st b (bK7 hb h.snx),h.st b hb]
 ·obtain⟨y,hy⟩:=k.low b x hb (bK7 hlt h.snx)
  exact h.low b y hy hlt
 ·rw[b2 i (bK7 hi h.nx) ?_,a2 i hi fun b x o hb ht hm=>hn b x o hb ht (by simp only[bK1,bJ1];exact .inr hm)]
  intro b x o hb ht hm
  by_cases hlt:b<s.nx
  ·obtain⟨y,hy⟩:=h.low b x hb hlt
   rw[h.st b hlt]at ht
   grind
  ·grind
 ·have key : ∀ b i o, s.nx ≤ b → τ1 b = some (some (i, o)) → hp.nx ≤ i ∨ ∃ b0 x o0, s.get b0 = some x ∧ τ b0 = some (some (i, o0)) ∧ b0 ∈ (l2 ++ l1).map Prod.fst := by
   grind
  by_cases hlt:b<s1.nx
  ·rw[k.st b hlt]at ht
   grind
  ·rcases b3 b i o (bN2 hlt) ht with h1| ⟨b0,y,o0,h1,h2,h3⟩
   ·exact .inl (bL2 h.nx h1)
   ·by_cases hb0:b0<s.nx
    ·obtain⟨z,hz⟩:=h.low b0 y h1 hb0
     rw[h.st b0 hb0]at h2
     grind
    ·grind
 ·rcases b4 i y (bK7 hi h.nx) hy with h1| ⟨b,o,h1,h2⟩
  ·rcases a4 i y hi h1 with h2| ⟨b,o,h2,h3⟩
   ·grind
   ·exact .inr ⟨b,o,k.t _ _ h2,by simp only[bK1,bJ1];exact .inr h3⟩
  ·grind
 ·obtain⟨l,e⟩:=h.hf;obtain⟨m,e'⟩:=k.hf;exact⟨m++l,by rw[e',e,bG8]⟩
theorem SD.only {τ:Tau}{F:Nat->Option Blk}{s s':SS}{hp:Hp}(h:SD P U τ F s hp)(ho:P7 s s')(hf:FT U s'.fc):SD P U τ F s' hp:=
 ⟨fun b x hb=>h.live b x (by rw[<-ho.get];exact hb),fun b c x y i o j q hb hc=>h.inj b c x y i o j q (by rw[<-ho.get];exact hb) (by rw[<-ho.get];exact hc),
  h.frz,h.lt,h.flt,fun b hb=>h.new b (by rw[<-ho.nx];exact hb),hf,fun r hr=>h.fz r (by rw[<-ho.fz];exact hr)⟩
theorem Ext.only {τ:Tau}{F:Nat->Option Blk}{s s':SS}{hp:Hp}(h:SD P U τ F s hp)(ho:P7 s s'):Ext τ F s hp τ F s' hp:=
 ⟨Tle.refl τ,Fle.refl F,bH7 _,by rw[ho.nx];exact bH7 _,fun _ _=>rfl,fun b x hb _=>⟨x,by rw[<-ho.get];exact hb⟩,
  ⟨[],by rw[ho.h];rfl,fun _ _ _=>rfl,fun b i o hb ht=>(by rw[h.new b hb]at ht;cases ht),fun _ _ _ h=>.inl h,fun _ _ _ h=>h⟩,ho.fc⟩
variable (P U) in
def OKh {α:Type}(m:M α)(τ:Tau)(F:Nat->Option Blk)(s:SS)(hp:Hp)(R:α->Tau->(Nat->Option Blk)->Hp->Prop):Prop:=
 ∀Q,(m s).vc U Q->SD P U τ F s hp-> ∃a s',Q (a,s')/\ ∃τ' F' hp',Ext τ F s hp τ' F' s' hp'/\SD P U τ' F' s' hp'/\R a τ' F' hp'
variable {τ :Tau}{F:Nat->Option Blk}{s:SS}{hp:Hp}
theorem OKh.ret {α:Type}{a:α}{R:α->Tau->(Nat->Option Blk)->Hp->Prop}(h:R a τ F hp):OKh P U (c9 a) τ F s hp R:=fun _ hq hs=>⟨a,s,hq,τ,F,hp,Ext.refl hs,hs,h⟩
theorem OKh.fail {α:Type}{t:String}{R:α->Tau->(Nat->Option Blk)->Hp->Prop}:OKh P U (a8 t:M α) τ F s hp R:=fun _ hq _=>hq.elim
theorem OKp.up {α:Type}{m:M α}{R:α->Prop}(h:OKp U m s R):OKh P U m τ F s hp fun a τ' F' hp'=>τ'=τ/\F'=F/\hp'=hp/\R a:=by
 intro Q hq hs;obtain⟨a,s',h1,h2,h3,h4⟩:=h Q hq hs.fc;exact⟨a,s',h1,τ,F,hp,Ext.only hs h2,hs.only h2 h3,rfl,rfl,rfl,h4⟩
theorem OKh.mono {α:Type}{m:M α}{R R':α->Tau->(Nat->Option Blk)->Hp->Prop}(h:OKh P U m τ F s hp R)(hr:∀a τ' F' hp',Tle τ τ'->Fle F F'->R a τ' F' hp'->R' a τ' F' hp'):OKh P U m τ F s hp R':=by
 intro Q hq hs;obtain⟨a,s',h1,τ',F',hp',h2,h3,h4⟩:=h Q hq hs;exact⟨a,s',h1,τ',F',hp',h2,h3,hr _ _ _ _ h2.t h2.f h4⟩
theorem OKh.bind {α β : Type} {m : M α} {k : α → M β} {R : α → Tau → (Nat → Option Blk) → Hp → Prop} {R' : β → Tau → (Nat → Option Blk) → Hp → Prop} (h : OKh P U m τ F s hp R)
  (hk:∀a τ' F' s' hp',Ext τ F s hp τ' F' s' hp'->SD P U τ' F' s' hp'->R a τ' F' hp'->OKh P U (k a) τ' F' s' hp' R'):OKh P U (a9 m k) τ F s hp R':=by
 intro Q hq hs;unfold a9 at hq;rw[Tr.vc_bind]at hq;obtain⟨a,s1,h1,τ1,F1,hp1,h2,h3,h4⟩:=h _ hq hs;obtain⟨b,s2,h5,τ2,F2,hp2,h6,h7,h8⟩:=hk a τ1 F1 s1 hp1 h2 h3 h4 Q h1 h3;exact⟨b,s2,h5,τ2,F2,hp2,Ext.trans h2 h6,h7,h8⟩
theorem OKh.read {α:Type}{k:SS->M α}{R:α->Tau->(Nat->Option Blk)->Hp->Prop}(h:OKh P U (k s) τ F s hp R):OKh P U (l7 k) τ F s hp R:=h
theorem OKh.bindp {α β : Type} {m : M α} {k : α → M β} {R : α → Prop} {R' : β → Tau → (Nat → Option Blk) → Hp → Prop} (h : OKp U m s R)
  (hk:∀a s',P7 s s'->SD P U τ F s' hp->R a->OKh P U (k a) τ F s' hp R'):OKh P U (a9 m k) τ F s hp R':=by
 intro Q hq hs;unfold a9 at hq;rw[Tr.vc_bind]at hq;obtain⟨a,s1,h1,h2,h3,h4⟩:=h _ hq hs.fc;have hs1:=hs.only h2 h3;obtain⟨b,s2,h5,τ2,F2,hp2,h6,h7,h8⟩:=hk a s1 h2 hs1 h4 Q h1 hs1;exact⟨b,s2,h5,τ2,F2,hp2,Ext.trans (Ext.only hs h2) h6,h7,h8⟩
theorem OKh.bindE {α β : Type} {m : M α} {k : α → M β} {R : α → Tau → (Nat → Option Blk) → Hp → Prop} {R' : β → Tau → (Nat → Option Blk) → Hp → Prop} (h : OKh P U m τ F s hp R)
  (hk:∀a τ1 F1 s1 hp1,Ext τ F s hp τ1 F1 s1 hp1->SD P U τ1 F1 s1 hp1->R a τ1 F1 hp1-> ∀Q,(k a s1).vc U Q-> ∃b s2,Q (b,s2)/\ ∃τ2 F2 hp2,Ext τ F s hp τ2 F2 s2 hp2/\SD P U τ2 F2 s2 hp2/\R' b τ2 F2 hp2):OKh P U (a9 m k) τ F s hp R':=by
 intro Q hq hs;unfold a9 at hq;rw[Tr.vc_bind]at hq;obtain⟨a,s1,h1,τ1,F1,hp1,h2,h3,h4⟩:=h _ hq hs
 grind
theorem Ext.shrink {τ τ':Tau}{F F' F2:Nat->Option Blk}{s s':SS}{hp hp' hp2:Hp}(h:Ext τ F s hp τ' F' s' hp')(hn:hp'.nx<=hp2.nx)(hm:∀i,i<hp.nx->hp2.m.get i=hp'.m.get i)(hF:∀i y,F2 i=some y->F' i=some y)(hf:Fle F F2):Ext τ F s hp τ' F2 s' hp2:=by
 obtain⟨l,a1,a2,a3,a4,a5⟩:=h.hh;exact⟨h.t,hf,bL2 h.nx hn,h.snx,h.st,h.low,⟨l,a1,fun i hi hno=>by rw[hm i hi];exact a2 i hi hno,a3,fun i y hi hy=>a4 i y hi (hF i y hy),fun hp i y hy=>a5 hp i y (hF i y hy)⟩,h.hf⟩
theorem Ext.dfr {τ τ':Tau}{F F':Nat->Option Blk}{s s':SS}{hp hp':Hp}(h:Ext τ F s hp τ' F' s' hp')(hs:SD P U τ F s hp){r:Nat}(hr:r<hp.nx){y:Blk}(hg:hp.m.get r=some y)(hy:y= .dfr\/F r=some y):hp'.m.get r=some y:=by
 rw[h.kept r hr fun b x o hb ht=>?_,hg]
 rcases hs.live b x hb with⟨i,o',y',h1,h2,h3,h4⟩| ⟨h1,_⟩
 ·rw[ht]at h1
  cases h1;rw[hg]at h2;cases h2
  rcases hy with rfl|hy
  ·cases x with
   |cells l e z=>obtain⟨cs,n,h,_⟩:=h4;cases h
   |rows L e z ph=>obtain⟨cs,n,h,_⟩:=h4;cases h
   |map L kt vt=>obtain⟨_,es,reg,h,_⟩:=h4;cases h
   |iter s p=>obtain⟨_,n,h,_⟩:=h4;cases h
   |reg r L z=>obtain⟨_,_,cs,h,_⟩:=h4;cases h
  ·grind
 ·grind
def put (τ:Tau)(b:Nat)(p:Option (Nat×Nat)):Tau:=fun c=>if c=b then some p else τ c
theorem m8 (τ:Tau)(b:Nat)(p:Option (Nat×Nat)):put τ b p b=some p:=by simp[put]
theorem y4 (τ:Tau){b c:Nat}(p:Option (Nat×Nat))(h:c≠b):put τ b p c=τ c:=by simp[put,h]
theorem U3 {τ:Tau}{b:Nat}(p:Option (Nat×Nat))(h:τ b=none):Tle τ (put τ b p):=fun c q hc=>by
 by_cases e:c=b
 ·grind
 ·rw[y4 τ p e];exact hc
theorem BD.mono {τ τ':Tau}{F F':Nat->Option Blk}(ht:Tle τ τ')(hf:Fle F F'){o:Nat}{x:v9}{y:Blk}(h:BD P U τ F o x y):BD P U τ' F' o x y:=by
 cases x with
 |cells l e z=>
  obtain⟨cs,n,h1,h2,h3⟩:=h;exact⟨cs,n,h1,h2,fun j a ha=>let⟨x,k1,k2⟩:=h3 j a ha;⟨x,k1,k2.mono ht hf⟩⟩
 |rows L e z ph=>
  obtain⟨cs,n,h1,⟨h2,h3,h4,h5⟩,h6⟩:=h;exact⟨cs,n,h1,⟨h2,h3,h4,fun r k row d hr hk=>let⟨x,k1,k2⟩:=h5 r k row d hr hk;⟨x,k1,fun kd hkd=>(k2 kd hkd).mono P hf⟩⟩,h6⟩
 |map L kt vt=>
  obtain⟨h0,es,reg,h1,hr,h2,h3⟩:=h;exact⟨h0,es,reg,h1,hr,h2,fun j row e hr he=>let⟨sh,ks,d,k1,k2,k3,k4,k5⟩:=h3 j row e hr he;⟨sh,ks,d,k1,k2,k3,k4,k5.mono P hf⟩⟩
 |iter s p=>exact h
 |reg r L z=>
  obtain⟨h0,h6,cs,h1,h2,h3,h4,h5⟩:=h;exact⟨h0,ht _ _ h6,cs,h1,h2,h3,h4,fun r k row d hr hk=>let⟨x,k1,k2⟩:=h5 r k row d hr hk;⟨x,k1,fun kd hkd=>(k2 kd hkd).mono P hf⟩⟩
theorem bj1.mono {τ τ':Tau}{F F':Nat->Option Blk}(ht:Tle τ τ')(hf:Fle F F'){r:Nat×E×TypeId×Nat}(h:bj1 P U τ F r):bj1 P U τ' F' r:=by
 rcases h with⟨i,o,cs,n,h1,h2,h3,h4,h5,h6⟩| ⟨h1,h2⟩
 ·exact .inl ⟨i,o,cs,n,ht _ _ h1,hf _ _ h2,h3,h4,h5,fun r k row d hr hk=>let⟨x,k1,k2⟩:=h6 r k row d hr hk;⟨x,k1,fun kd hkd=>(k2 kd hkd).mono P hf⟩⟩
 ·exact .inr ⟨ht _ _ h1,h2⟩
theorem by8 (hp:Hp)(y:Blk)(i:Nat)(h:i<hp.nx):(hp.m.set hp.nx (some y)).get i=hp.m.get i:=by
 rw[T.get_set,bH4 (by omega)]
def ab4 (s:SS)(x:v9):SS:= {s with h:=(s.nx,some x)::s.h,nx:=s.nx+1}
theorem ad8 (s:SS)(x:v9)(b:Nat):(ab4 s x).get b=if b=s.nx then some x else s.get b:=by
 have:=SS.get_set s s.nx b (some x);exact this
def U6 (x:v9):M Nat:=fun s=>.ret (s.nx,ab4 s x)
theorem SD.alloc (hs : SD P U τ F s hp) {x : v9} {p : Option (Nat × Nat)} {hp' : Hp} (hn : hp.nx ≤ hp'.nx) (hk : ∀ i, i < hp.nx → hp'.m.get i = hp.m.get i)
  (hx:(∃i o y,p=some (i,o)/\hp.nx<=i/\i<hp'.nx/\hp'.m.get i=some y/\BD P U (put τ s.nx p) F o x y)\/(p=none/\ ∃L e z ph,x= .rows L e z ph/\L.toR U=[]/\z=(kf P e).length/\ph.toI U<=0)):
  Ext τ F s hp (put τ s.nx p) F (ab4 s x) hp'/\SD P U (put τ s.nx p) F (ab4 s x) hp':=by
 have h0:τ s.nx=none:=hs.new _ (bH7 _);have ht:=U3 (τ:=τ) p h0;refine⟨⟨ht,Fle.refl F,hn,by simp[ab4],fun b hb=>y4 τ p (by omega),fun b y hb hlt=>?_,⟨[(s.nx,some x)],rfl,fun i hi _=>hk i hi,fun b i o hb hτ=>?_,fun _ _ _ h=>.inl h,fun _ _ _ h=>h⟩,⟨[],rfl⟩⟩,?_⟩
 ·rw[ad8,bH4 (by omega)]at hb;exact⟨y,hb⟩
 ·by_cases e:b=s.nx
  ·subst e
   rw[m8]at hτ
   grind
  ·rw[y4 τ p e,hs.new b hb]at hτ;cases hτ
 ·have old : ∀ b y, b ≠ s.nx → (ab4 s x).get b = some y → s.get b = some y := fun b y e hb => by rw [ad8, bH4 e] at hb; exact hb
  refine⟨fun b y hb=>?_,fun b c y z i o j q hb hc hne e1 e2=>?_,fun i y hi=>by rw[hk i (hs.flt i y hi)];exact hs.frz i y hi,fun b i o hb=>?_,fun i y hi=>bK7 (hs.flt i y hi) hn,fun b hb=>?_,hs.fc,fun r hr=>(hs.fz r hr).mono ht (Fle.refl F)⟩
  ·by_cases e:b=s.nx
   ·subst e
    rw[ad8,bH6 rfl,bF4]at hb;subst hb
    rcases hx with⟨i,o,y,rfl,h1,h2,h3,h4⟩| ⟨rfl,h⟩
    ·refine .inl ⟨i,o,y,m8 _ _ _,h3,?_,h4⟩
     cases hF:F i with
     |none=>rfl
     |some b=>exact absurd (hs.flt i b hF) (by omega)
    ·exact .inr ⟨m8 _ _ _,h⟩
   ·rcases hs.live b y (old b y e hb)with⟨i,o,y',h1,h2,h3,h4⟩| ⟨h1,h2⟩
    ·exact .inl ⟨i,o,y',by rw[y4 τ p e];exact h1,by rw[hk i (hs.lt b i o h1)];exact h2,h3,h4.mono ht (Fle.refl F)⟩
    ·exact .inr ⟨by rw[y4 τ p e];exact h1,h2⟩
  ·have new : ∀ c i o, c = s.nx → put τ s.nx p c = some (some (i, o)) → hp.nx ≤ i := by
    intro c i o hc h;subst hc;rw[m8]at h
    grind
   by_cases eb:b=s.nx
   ·have h1:=new b i o eb e1
    have ec:c≠s.nx:=fun h=>hne (by rw[eb,h])
    rw[y4 τ p ec]at e2;have:=hs.lt c j q e2;omega
   ·rw[y4 τ p eb]at e1
    by_cases ec:c=s.nx
    ·have h1:=new c j q ec e2
     have:=hs.lt b i o e1;omega
    ·rw[y4 τ p ec]at e2
     exact hs.inj b c y z i o j q (old b y eb hb) (old c z ec hc) hne e1 e2
  ·by_cases e:b=s.nx
   ·subst e
    rw[m8]at hb
    grind
   ·rw[y4 τ p e]at hb;exact bK7 (hs.lt b i o hb) hn
  ·have:s.nx+1<=b:=hb
   rw[y4 τ p (by omega)];exact hs.new b (by omega)
theorem SD.change (hs : SD P U τ F s hp) {b i o : Nat} {x x' : v9} (hb : s.get b = some x) (ht : τ b = some (some (i, o))) {y : Blk} {hp' : Hp} (hn : hp'.nx = hp.nx) (hk : ∀ j, j ≠ i → hp'.m.get j = hp.m.get j) (hi : hp'.m.get i = some y) (hd : BD P U τ F o x' y) :
  Ext τ F s hp τ F (s.set b (some x')) hp'/\SD P U τ F (s.set b (some x')) hp':=by
 refine⟨⟨Tle.refl τ,Fle.refl F,by omega,bH7 _,fun _ _=>rfl,fun c y hc _=>?_,⟨[(b,some x')],rfl,fun j hj hnl=>hk j (fun e=>hnl b x o hb (by rw[e];exact ht) (by simp)),fun c j q hc h=>(by rw[hs.new c hc]at h;cases h),fun _ _ _ h=>.inl h,fun _ _ _ h=>h⟩,⟨[],rfl⟩⟩,?_⟩
 ·rw[SS.get_set]at hc
  grind
 ·have fi : F i = none := by
   rcases hs.live b x hb with⟨i',o',y',h1,_,h3,_⟩| ⟨h1,_⟩
   ·grind
   ·grind
  have liv:∀c,(∃y,(s.set b (some x')).get c=some y)-> ∃y,s.get c=some y:=by
   rintro c ⟨y,hc⟩
   rw[SS.get_set]at hc
   grind
  refine⟨fun c z hc=>?_,fun c d y z j q k r hc hd' hne e1 e2=>?_,fun j y hj=>?_,fun c j q h=>by rw[hn];exact hs.lt c j q h,fun j y h=>by rw[hn];exact hs.flt j y h,hs.new,hs.fc,hs.fz⟩
  ·rw[SS.get_set]at hc
   by_cases e:c=b
   ·grind
   ·rw[bH4 e]at hc
    rcases hs.live c z hc with⟨j,q,y',h1,h2,h3,h4⟩|h
    ·refine .inl ⟨j,q,y',h1,?_,h3,h4⟩
     rw[hk j ?_];exact h2;intro ej;subst ej;exact hs.inj c b z x j q j o hc hb e h1 ht rfl
    ·grind
  ·obtain⟨y',hy⟩:=liv c ⟨y,hc⟩
   obtain⟨z',hz⟩:=liv d ⟨z,hd'⟩;exact hs.inj c d y' z' j q k r hy hz hne e1 e2
  ·rw[hk j (fun e=>by rw[e,fi]at hj;cases hj)];exact hs.frz j y hj
theorem SD.move (hs : SD P U τ F s hp) {b i o : Nat} {x x' : v9} (hb : s.get b = some x) (ht : τ b = some (some (i, o))) {hp' : Hp} (hn : hp.nx ≤ hp'.nx) (hk : ∀ j, j < hp.nx → j ≠ i → hp'.m.get j = hp.m.get j) {j q : Nat} (hj : j = i ∨ hp.nx ≤ j) (hj' : j < hp'.nx)
  {y:Blk} (hi:hp'.m.get j=some y) (hd:BD P U (put τ s.nx (some (j,q))) F q x' y):
  Ext τ F s hp (put τ s.nx (some (j,q))) F (ab4 (s.set b none) x') hp'/\SD P U (put τ s.nx (some (j,q))) F (ab4 (s.set b none) x') hp':=by
 have h0:τ s.nx=none:=hs.new _ (bH7 _);have hle:=U3 (τ:=τ) (some (j,q)) h0;have hlt:b<s.nx:=hs.bound hb;have hil:i<hp.nx:=hs.lt b i o ht;have fi:F i=none:=by
  rcases hs.live b x hb with⟨i',o',y',h1,_,h3,_⟩| ⟨h1,_⟩
  ·grind
  ·grind
 have fj:F j=none:=by
  rcases hj with rfl|hj
  ·exact fi
  ·cases hF:F j with
   |none=>rfl
   |some w=>exact absurd (hs.flt j w hF) (by omega)
 have gt:∀c,(ab4 (s.set b none) x').get c=if c=s.nx then some x' else if c=b then none else s.get c:=by
  intro c;rw[ad8,SS.get_set];rfl
 refine⟨⟨hle,Fle.refl F,hn,by simp[ab4,SS.set],fun c hc=>y4 τ _ (by omega),fun c y hc hlt=>?_,⟨[(s.nx,some x'),(b,none)],rfl,fun k hk' hnl=>hk k hk' (fun e=>hnl b x o hb (by rw[e];exact ht) (by simp)),fun c k r hc h=>?_,fun _ _ _ h=>.inl h,fun _ _ _ h=>h⟩,⟨[],rfl⟩⟩,?_⟩
 ·grind
 ·by_cases e:c=s.nx
  ·subst e;rw[m8]at h;simp only[bF4,bF6]at h
   grind
  ·rw[y4 τ _ e,hs.new c hc]at h;cases h
 ·have inv : ∀ c z, (ab4 (s.set b none) x').get c = some z → c ≠ s.nx → c ≠ b ∧ s.get c = some z := by
   grind
  have apart:∀c z k r,c≠b->s.get c=some z->τ c=some (some (k,r))->k≠j:=by
   intro c z k r e hc h ek;subst ek
   rcases hj with rfl|hj
   ·exact hs.inj c b z x _ r _ o hc hb e h ht rfl
   ·have:=hs.lt c _ r h;omega
  refine⟨fun c z hc=>?_,fun c d y z k r k' r' hc hd' hne e1 e2=>?_,fun k y hk'=>?_,fun c k r h=>?_,fun k y h=>bK7 (hs.flt k y h) hn,fun c hc=>?_,hs.fc,fun r hr=>(hs.fz r hr).mono hle (Fle.refl F)⟩
  ·by_cases e:c=s.nx
   ·subst e
    rw[gt,bH6 rfl,bF4]at hc;subst hc;exact .inl ⟨j,q,y,m8 _ _ _,hi,fj,hd⟩
   ·obtain⟨e',hc'⟩:=inv c z hc e
    rcases hs.live c z hc' with⟨k,r,y',h1,h2,h3,h4⟩| ⟨h1,h2⟩
    ·refine .inl ⟨k,r,y',by rw[y4 τ _ e];exact h1,?_,h3,h4.mono hle (Fle.refl F)⟩
     rw[hk k (hs.lt c k r h1) ?_];exact h2;intro ek;subst ek;exact hs.inj c b z x _ r _ o hc' hb e' h1 ht rfl
    ·exact .inr ⟨by rw[y4 τ _ e];exact h1,h2⟩
  ·by_cases ec:c=s.nx
   ·subst ec
    have ed:d≠s.nx:=fun h=>hne h.symm
    rw[m8]at e1;simp only[bF4,bF6]at e1;obtain⟨rfl,_⟩:=e1;obtain⟨e',hd''⟩:=inv d z hd' ed;rw[y4 τ _ ed]at e2
    grind
   ·obtain⟨e',hc'⟩:=inv c y hc ec
    rw[y4 τ _ ec]at e1
    by_cases ed:d=s.nx
    ·subst ed
     rw[m8]at e2;simp only[bF4,bF6]at e2
     grind
    ·obtain⟨e'',hd''⟩:=inv d z hd' ed
     rw[y4 τ _ ed]at e2;exact hs.inj c d y z k r k' r' hc' hd'' hne e1 e2
  ·rw[hk k (hs.flt k y hk') (fun e=>by rw[e,fi]at hk';cases hk')];exact hs.frz k y hk'
  ·by_cases e:c=s.nx
   ·subst e;rw[m8]at h;simp only[bF4,bF6]at h
    grind
   ·rw[y4 τ _ e]at h;exact bK7 (hs.lt c k r h) hn
  ·have:s.nx+1<=c:=hc
   rw[y4 τ _ (by omega)];exact hs.new c (by omega)
theorem SD.freeze (hs : SD P U τ F s hp) {b i o : Nat} {x : v9} (hb : s.get b = some x) (ht : τ b = some (some (i, o))) {y : Blk} (hi : hp.m.get i = some y) :
  ∃F',Fle F F'/\F' i=some y/\Ext τ F s hp τ F' (s.set b none) hp/\SD P U τ F' (s.set b none) hp:=by
 have fi:F i=none:=by
  rcases hs.live b x hb with⟨i',o',y',h1,_,h3,_⟩| ⟨h1,_⟩
  ·grind
  ·grind
 have hF:Fle F (fun j=>if j=i then some y else F j):=fun j w hj=>by
  grind
 have inv:∀c z,(s.set b none).get c=some z->c≠b/\s.get c=some z:=by
  intro c z hc;rw[SS.get_set]at hc
  grind
 refine⟨fun j=>if j=i then some y else F j,hF,by simp,⟨Tle.refl τ,hF,bH7 _,bH7 _,fun _ _=>rfl,fun c z hc _=>⟨z,(inv c z hc).2⟩,⟨[(b,none)],rfl,fun _ _ _=>rfl,fun c j q hc h=>(by rw[hs.new c hc]at h;cases h),fun j w _ hj=>?_,fun hp=>absurd rfl (hp (b,none) (by simp))⟩,⟨[],rfl⟩⟩,?_⟩
 ·grind
 refine⟨fun c z hc=>?_,fun c d y z k r k' r' hc hd' hne e1 e2=>hs.inj c d y z k r k' r' (inv c y hc).2 (inv d z hd').2 hne e1 e2,fun j w hj=>?_,hs.lt,fun j w hj=>?_,hs.new,hs.fc,fun r hr=>(hs.fz r hr).mono (Tle.refl τ) hF⟩
 ·obtain⟨e,hc'⟩:=inv c z hc
  rcases hs.live c z hc' with⟨k,r,y',h1,h2,h3,h4⟩|h
  ·refine .inl ⟨k,r,y',h1,h2,?_,h4.mono (Tle.refl τ) hF⟩
   have:k≠i:=fun ek=>by subst ek;exact hs.inj c b z x _ r _ o hc' hb e h1 ht rfl
   grind
  ·grind
 ·by_cases e:j=i
  ·grind
  ·rw[bH4 e]at hj;exact hs.frz j w hj
 ·by_cases e:j=i
  ·subst e;exact hs.lt b _ o ht
  ·rw[bH4 e]at hj;exact hs.flt j w hj
theorem SD.drop (hs:SD P U τ F s hp)(b:Nat):Ext τ F s hp τ F (s.set b none) hp/\SD P U τ F (s.set b none) hp:=by
 have inv:∀c z,(s.set b none).get c=some z->c≠b/\s.get c=some z:=by
  intro c z hc;rw[SS.get_set]at hc
  grind
 exact⟨⟨Tle.refl τ,Fle.refl F,bH7 _,bH7 _,fun _ _=>rfl,fun c z hc _=>⟨z,(inv c z hc).2⟩,⟨[(b,none)],rfl,fun _ _ _=>rfl,fun c j q hc h=>(by rw[hs.new c hc]at h;cases h),fun _ _ _ h=>.inl h,fun _ _ _ h=>h⟩,⟨[],rfl⟩⟩,
  fun c z hc=>hs.live c z (inv c z hc).2,fun c d y z k r k' r' hc hd' hne e1 e2=>hs.inj c d y z k r k' r' (inv c y hc).2 (inv d z hd').2 hne e1 e2,hs.frz,hs.lt,hs.flt,hs.new,hs.fc,hs.fz⟩
end
end Go.Sx
namespace Go.Sx
open Go.Xe
def isI :E->Bool
 | .int _=>true
 | .dat _ (.int _)=>true
 | .op o _=>match o with
  | .add| .sub| .mul| .tdiv| .tmod| .wrap _| .bits _ _| .shl _| .shr _| .len| .slen| .sidx| .srune| .srw| .castI=>true
  |_=>false
 |_=>false
def isB :E->Bool
 | .bool _=>true
 | .dat _ (.bool _)=>true
 | .op .lt [_,_]| .op .eqi [_,_]| .op .eqb [_,_]| .op .eqs [_,_]| .op .lts [_,_]| .op .not [_]| .op .and [_,_]| .op .or [_,_]| .op .castB [_]=>true
 |_=>false
def isS :E->Bool
 | .str _=>true
 | .dat _ (.str _)=>true
 | .op .sapp [_,_]| .op .ssub [_,_,_]| .op .castS [_]=>true
 |_=>false
def isL :E->Bool
 | .dat _ (.lst _)=>true
 | .op .nil _| .op (.rows _ _) _| .op .app [_,_]| .op (.upd _) [_,_,_]| .op .part [_,_,_]| .op .over [_,_,_]| .op .rep (_::_)| .op .castL [_]=>true
 |_=>false
def bs7 (e:E):E:=bif isI e then e else .op .castI [e]
def mkCB (e:E):E:=bif isB e then e else .op .castB [e]
def mkCS (e:E):E:=bif isS e then e else .op .castS [e]
def ac7 (e:E):E:=bif isL e then e else .op .castL [e]
section
variable {U :Nat->List Dat->Dat}
theorem bz4 {e:E}(h:isI e=true):e.den U= .int (e.toI U):=by
 cases e with
 |int n=>rfl
 |dat n d=>cases d<;>first|rfl| (simp[isI]at h)
 |op o as=>
  cases o<;>first
   | (simp[isI]at h;done)
   | (simp only[E.toI,E.den,Sy.den];split<;>rfl)
 |_=>simp[isI]at h
theorem bz3 {e:E}(h:isB e=true):e.den U= .bool (e.den U).toBool:=by
 unfold isB at h;split at h<;>first|rfl|cases h
theorem bz6 {e:E}(h:isS e=true):e.den U= .str (e.den U).toStr:=by
 unfold isS at h;split at h<;>first|rfl|cases h
theorem bz5 {e:E}(h:isL e=true):e.den U= .lst (e.toR U):=by
 unfold isL at h;split at h<;>first|rfl|cases h
theorem ay4 (e:E):(bs7 e).den U= .int (e.toI U):=by
 unfold bs7;cases h:isI e with
 |true=>exact bz4 h
 |false=>rfl
theorem bs6 (e:E):(mkCB e).den U= .bool (e.den U).toBool:=by
 unfold mkCB;cases h:isB e with
 |true=>exact bz3 h
 |false=>rfl
theorem bs8 (e:E):(mkCS e).den U= .str (e.den U).toStr:=by
 unfold mkCS;cases h:isS e with
 |true=>exact bz6 h
 |false=>rfl
theorem al5 (e:E):(ac7 e).den U= .lst (e.toR U):=by
 unfold ac7;cases h:isL e with
 |true=>exact bz5 h
 |false=>rfl
end
section
variable (P :Program)(U:Nat->List Dat->Dat)
def ai7 (t:TypeId)(x:SV)(f:Nat):Option SV:=
 match P.underlying t with
 |some (.struct fs)=>match fs.toList[f]? with
  |some fd=>match P.info? fd.type with
   |some i=>bif Nat.beq i.size 0 then none else
    match x with
    | .ptr b z row fld=>some (.ptr b z row (fld+fd.offset))
    | .pptr e L row fld=>some (.pptr e L row (fld+fd.offset))
    | .rp row fld=>some (.rp row (fld+fd.offset))
    |_=>none
   |none=>none
  |none=>none
 |_=>none
def ai8 (t:TypeId)(x ix:SV):M SV:=
 match ix with
 | .int _ n=>match P.underlying t with
  |some (.slice e)=>match P.info? e with
   |some ie=>match x with
    | .sl b z off len _=>bif Nat.beq z ie.size then a9 (i9 U (t6 (t9 n (.int 0)))) fun _=>a9 (i9 U (t9 n len)) fun _=>c9 (.ptr b z (t7 off n) 0)else a8 "index: size"
    | .lst e' L _=>bif Nat.beq (kf P e').length ie.size then a9 (i9 U (t6 (t9 n (.int 0)))) fun _=>a9 (i9 U (t9 n (v5 L))) fun _=>c9 (.pptr e' L n 0)else a8 "index: size"
    |_=>a8 "index: no slice"
   |none=>a8 "index: type"
  |some (.array len e)=>match P.info? e with
   |some ie=>match x with
    | .ptr b z row fld=>match n with
     | .int m=>bif decide (0<=m)&&decide (m<len)then c9 (.ptr b z row (fld+m.toNat*ie.size))else a8 "index: array"
     |n=>match row with
      | .int r=>bif decide (0<=r)then a9 (i9 U (t6 (t9 n (.int 0)))) fun _=>a9 (i9 U (t9 n (.int len))) fun _=>c9 (.ptr b ie.size n (r.toNat*z+fld))else a8 "index: array"
      |_=>a8 "index: array"
    | .pptr e' L row fld=>match n with
     | .int m=>bif decide (0<=m)&&decide (m<len)then c9 (.pptr e' L row (fld+m.toNat*ie.size))else a8 "index: array"
     |_=>a8 "index: array"
    |_=>a8 "index: array"
   |none=>a8 "index: type"
  |_=>a8 "index: type"
 |_=>a8 "index: no int"
def ldk (t : TypeId) : Option (Bool × Nat) :=
 match P.underlying t with
 | some d => bif ag1 d then
   match P.info? t with
   |some ti=>some (true,ti.size)
   |none=>none
  else some (false,1)
 |none=>none
def aZ6 (ag:Bool)(l:List SV):Option SV:=bif ag then some (.agg l)else l.head?
def aG6 (k:Kd)(c:E):Option SV:=
 match k with
 | .int k=>some (.int k c)
 | .bool=>some (.bool c)
 | .str=>some (.str c)
 | .sl e=>some (.lst e c false)
 | .rp=>some (.rpq c)
 | .bad=>none
def ac2 (ks:List Kd)(L row:E):Nat->Nat->Option (List SV)
 |_,0=>some []
 |j,n+1=>match ks[j]? with
  |some k=>match aG6 k (aQ8 j L row)with
   |some a=>match ac2 ks L row (j+1) n with
    |some l=>some (a::l)
    |none=>none
   |none=>none
  |none=>none
def aF1 (k:Kd)(a:SV):Option E:=
 match k,a with
 | .int k,.int k' e=>bif decide (k=k')then some (bs7 e)else none
 | .bool,.bool e=>some (mkCB e)
 | .str,.str e=>some (mkCS e)
 | .sl _,.nils=>some (.op .nil [])
 | .sl e,.lst e' L _=>bif Nat.beq e e' then some (ac7 L)else none
 | .rp,.rpq e=>some (bs7 e)
 | .rp,.rp e 0=>some (bs7 e)
 | .rp,.nilp=>some (.int (-1))
 |_,_=>none
def bo4 (ks:List Kd):Nat->List SV->Option (List E)
 |_,[]=>some []
 |j,a::l=>match ks[j % ks.length]? with
  |some k=>match aF1 k a with
   |some e=>match bo4 ks (j+1) l with
    |some es=>some (e::es)
    |none=>none
   |none=>none
  |none=>none
def az8 (e:TypeId)(z:Nat)(l:List SV):Option E:=
 bif Nat.ble 1 z&&Nat.beq z (kf P e).length&&Nat.beq (l.length/z*z) l.length then
  match bo4 (kf P e) 0 l with
  |some es=>some (.op (.rows (l.length/z) z) es)
  |none=>none
 else none
def H2 (ag:Bool)(n:Nat)(e:TypeId)(L row:E)(fld:Nat):Option SV:=
 match ac2 (kf P e) L row fld n with
 |some l=>aZ6 ag l
 |none=>none
def aG7 (k:IntKind):List SV->Option (List E)
 | []=>some []
 | .int k' e::l=>bif decide (k=k')then match aG7 k l with
  |some es=>some (e::es)
  |none=>none else none
 |_=>none
def bw5 (l:List SV)(row:E):M SV:=match l with
 | .int k e::l'=>match aG7 k (.int k e::l')with
  |some es=>a9 (i9 U (t9 row (.int es.length))) fun _=>c9 (.int k (aQ8 0 (.op (.rows es.length 1) es) row))
  |none=>a8 "load: rows"
 |_=>a8 "load: rows"
def rgF :List (Nat×Option v9)->Option Nat
 | []=>none
 | (b,some (.reg _ _ _))::_=>some b
 |_::l=>rgF l
def aE0 (s:SS):Option (Nat×E×Nat):=match rgF s.h with
 |some b=>match s.get b with
  |some (.reg r L z)=>bif Nat.beq r b then some (b,L,z)else none
  |_=>none
 |none=>none
def rgB (s:SS):Option Nat:=(aE0 s).map fun r=>r.1
def bi1 (t:TypeId)(a:SV):M SV:=
 match ldk P t with
 |none=>a8 "load: type"
 |some (ag,n)=>match a with
  | .ptr b z row fld=>l7 fun s=>match s.get b with
   |some (.cells l e _)=>match row with
    | .int r=>bif decide (0<=r)&&Nat.ble (r.toNat*z+fld+n) l.length then ac8 "load" (aZ6 ag ((l.drop (r.toNat*z+fld)).take n))else a8 "load: beyond"
    |row=>match az8 P e z l with
     |some L=>bif Nat.ble (fld+n) z then a9 (i9 U (t9 row (v5 L))) fun _=>ac8 "load" (H2 P ag n e L row fld)else a8 "load: beyond"
     |none=>bif !ag&&Nat.beq z 1&&Nat.beq n 1 then bw5 U (l.drop fld) row else a8 "load: rows"
   |some (.rows L e z' _)=>bif Nat.beq z z'&&Nat.ble (fld+n) z then a9 (i9 U (t9 row (v5 L))) fun _=>ac8 "load" (H2 P ag n e L row fld)else a8 "load: beyond"
   |some (.map _ _ _)=>a8 "load: no block"
   |some (.iter _ _)=>a8 "load: no block"
   |some (.reg _ _ _)=>a8 "load: no block"
   |none=>match lk s.fz b with
    |some (L,e,z')=>bif Nat.beq z z'&&Nat.ble (fld+n) z then a9 (i9 U (t9 row (v5 L))) fun _=>ac8 "load" (H2 P ag n e L row fld)else a8 "load: beyond"
    |none=>a8 "load: no block"
  | .rp row fld=>l7 fun s=>match aE0 s with
   |some (_,L,z)=>bif Nat.ble (fld+n) z then a9 (i9 U (t9 row (v5 L))) fun _=>ac8 "load" (H2 P ag n rgT L row fld)else a8 "load: beyond"
   |none=>a8 "load: no region"
  | .pptr e L row fld=>bif Nat.ble (fld+n) (kf P e).length then ac8 "load" (H2 P ag n e L row fld)else a8 "load: beyond"
  |_=>a8 "load: no address"
end
section
variable {P :Program}{U:Nat->List Dat->Dat}{τ:Tau}{F:Nat->Option Blk}{s:SS}{hp:Hp}
theorem VD.ptr' {b z fld i o a:Nat}{row:E}(h:τ b=some (some (i,o)))(h0:0<=row.toI U)(e:a=o+row.toN U*z+fld):VD P U τ F (.ptr b z row fld) (.pointer (some ⟨i,a,none⟩)):=by
 subst e;exact .ptr b z row fld i o h h0
theorem VD.pptr' {t : TypeId} {L row : E} {fld i o l c a : Nat} (h : PV P F (.sl t) (.slice (some ⟨i, o, none⟩) l c) (.lst (L.toR U))) (h0 : 0 ≤ row.toI U) (h1 : row.toI U < (L.toR U).length) (e : a = o + row.toN U * (kf P t).length + fld) :
  VD P U τ F (.pptr t L row fld) (.pointer (some ⟨i,a,none⟩)):=by
 subst e;exact .pptr t L row fld i o l c h h0 h1
theorem aE7 {t:TypeId}{a b:SV}{v:Value}{f:Nat}(ha:VD P U τ F a v)(e:ai7 P t a f=some b):∃w,J2 P t v f=some w/\VD P U τ F b w:=by
 unfold ai7 at e;unfold J2;split at e
 ·rename_i fs hfs
  split at e
  ·rename_i fd hfd
   split at e
   ·rename_i i hi
    cases hz:Nat.beq i.size 0 with
    |true=>simp[hz]at e
    |false=>
     simp only[hz,bH2]at e;split at e
     ·rename_i b z row fld
      simp only[bF4]at e;subst e;cases ha with
      |ptr _ _ _ _ i' o h h0=>exact⟨.pointer (some ⟨i',o+row.toN U*z+fld+fd.offset,none⟩),by simp only[hfs,hfd,hi,hz,bH2],VD.ptr' h h0 (by omega)⟩
     ·rename_i t L row fld
      simp only[bF4]at e;subst e;cases ha with
      |pptr _ _ _ _ i' o l c h h0 h1=>exact⟨.pointer (some ⟨i',o+row.toN U*(kf P t).length+fld+fd.offset,none⟩),by simp only[hfs,hfd,hi,hz,bH2],VD.pptr' h h0 h1 (by omega)⟩
     ·rename_i row fld
      simp only[bF4]at e;subst e;cases ha with
      |rp _ _ h0=>exact⟨.pointer (some ⟨row.toN U,fld+fd.offset,some 1⟩),by simp only[hfs,hfd,hi,hz,bH2],.rp _ _ h0⟩
     ·cases e
   ·cases e
  ·cases e
 ·cases e
theorem y8 {a b:E}(h:(t9 a b).pr U):a.toI U<b.toI U:=by
 rw[E.pr_iff,C3,bH5]at h;exact h
theorem u7 {a b:E}(h:(t6 (t9 a b)).pr U):b.toI U<=a.toI U:=by
 rw[E.pr_iff,B9,C3,bK0,bK2]at h;exact Int.not_lt.1 h
theorem ae9 {a b:E}(h:(C8 a b).pr U):a.toI U=b.toI U:=by
 rw[E.pr_iff,B8,bH5]at h;exact h
theorem bD7 {n len:Int}(h0:0<=n)(h1:n<len):(decide (0<=n)&&decide (n<((len.toNat:Nat):Int)))=true:=by
 simp only[bF5,bH5];omega
theorem PV.len {t:TypeId}{a:Option Addr}{l c:Nat}{d:Dat}(h:PV P F (.sl t) (.slice a l c) d):l=d.rows.length:=by
 cases h<;>rfl
theorem aE8 {t : TypeId} {a ix : SV} {v w : Value} (ha : VD P U τ F a v) (hi : VD P U τ F ix w) : OKp U (ai8 P U t a ix) s fun b => ∃ u, B4 P t v w = some u ∧ VD P U τ F b u := by
 unfold ai8;split
 ·rename_i k n
  cases hi;split
  ·rename_i e he
   split
   ·rename_i ie hie
    split
    ·rename_i b z off len cap
     cases hz:Nat.beq z ie.size with
     |false=>exact OKp.fail
     | true =>
      simp only[bH1];refine OKp.need.bind fun _ s1 _ _ h1=>OKp.need.bind fun _ s2 _ _ h2=>OKp.ret ?_
      have h1:=O6 h1;have h2:=y8 h2;have hz':z=ie.size:=bF9 hz;cases ha with
      | sl _ _ _ _ _ i o c h h0 h0' hc =>
       refine⟨.pointer (some ⟨i,o+off.toN U*z+n.toN U*ie.size,none⟩),?_,VD.ptr' h (by rw[i4];omega) ?_⟩
       ·simp only[B4,he,hie]
        rw[show(decide (0<=n.toI U)&&decide (n.toI U<((len.toN U:Nat):Int)))=true from bD7 h1 h2];rfl
       ·have : (t7 off n).toN U = off.toN U + n.toN U := by
         show((t7 off n).toI U).toNat=(off.toI U).toNat+(n.toI U).toNat;rw[i4];omega
        rw[this,<-hz',bJ0];omega
      |sl0 _ _ _ _ _ h h0 h0' hc=>omega
    ·rename_i e' L clip
     cases hz:Nat.beq (kf P e').length ie.size with
     |false=>exact OKp.fail
     |true=>
      simp only[bH1];refine OKp.need.bind fun _ s1 _ _ h1=>OKp.need.bind fun _ s2 _ _ h2=>OKp.ret ?_
      have h1:=O6 h1;have h2:=y8 h2;rw[e9]at h2;have hz':(kf P e').length=ie.size:=bF9 hz;cases ha with
      |lst _ _ _ _ h hc=>
       have hl:∃i o l c,v= .slice (some ⟨i,o,none⟩) l c:=by
        cases hv:L.toR U with
        |nil=>rw[hv]at h2;simp at h2;omega
        |cons r rs=>
         rw[hv]at h;cases h with
         |sl _ i o c b cs n z rows x hF hb hc' hn hz'' hr hx hp=>exact⟨i,o,_,c,rfl⟩
       obtain⟨i,o,l,c,rfl⟩:=hl;have hlen:=h.len;refine⟨.pointer (some ⟨i,o+n.toN U*ie.size,none⟩),?_,VD.pptr' h h1 h2 (by rw[hz'];omega)⟩
       simp only[B4,he,hie];rw[show(decide (0<=n.toI U)&&decide (n.toI U<(l:Int)))=true by
        simp only[bF5,bH5];have:(l:Int)=((L.toR U).length:Int):=by rw[hlen];rfl
        omega]
       rfl
    ·exact OKp.fail
   ·exact OKp.fail
  ·rename_i len e he
   split
   ·rename_i ie hie
    split
    ·rename_i b z row fld
     cases ha with
     |ptr _ _ _ _ i o h h0=>
      split
      ·rename_i m
       cases hb:decide (0<=m)&&decide (m<(len:Int))with
       |false=>exact OKp.fail
       |true=>
        simp only[bH1];refine OKp.ret ⟨.pointer (some ⟨i,o+row.toN U*z+fld+m.toNat*ie.size,none⟩),?_,VD.ptr' h h0 (by omega)⟩
        simp only[B4,he,hie];rw[show(decide (0<=(E.int m).toI U)&&decide ((E.int m).toI U<(len:Int)))=true from hb];rfl
      ·split
       ·rename_i r
        cases hr:decide (0<=r)with
        |false=>exact OKp.fail
        |true=>
         simp only[bH1];refine OKp.need.bind fun _ s1 _ _ h1=>OKp.need.bind fun _ s2 _ _ h2=>OKp.ret ?_
         have h1:=O6 h1;have h2:=y8 h2;simp only[w9]at h2;refine⟨.pointer (some ⟨i,o+r.toNat*z+fld+n.toN U*ie.size,none⟩),?_,VD.ptr' h h1 (by omega)⟩
         simp only[B4,he,hie];rw[show(decide (0<=n.toI U)&&decide (n.toI U<(len:Int)))=true by simp only[bF5,bH5];omega]
         rfl
       ·exact OKp.fail
    ·rename_i e' L row fld
     cases ha with
     |pptr _ _ _ _ i o l c h h0 h1=>
      split
      ·rename_i m
       cases hb:decide (0<=m)&&decide (m<(len:Int))with
       |false=>exact OKp.fail
       |true=>
        simp only[bH1];refine OKp.ret ⟨.pointer (some ⟨i,o+row.toN U*(kf P e').length+fld+m.toNat*ie.size,none⟩),?_,VD.pptr' h h0 h1 (by omega)⟩
        simp only[B4,he,hie];rw[show(decide (0<=(E.int m).toI U)&&decide ((E.int m).toI U<(len:Int)))=true from hb];rfl
      ·exact OKp.fail
    ·exact OKp.fail
   ·exact OKp.fail
  ·exact OKp.fail
 ·exact OKp.fail
theorem bs2 {t : TypeId} {ag : Bool} {n : Nat} (h : ldk P t = some (ag, n)) {i o k z : Nat} {y : Blk} {c : T Value} (hg : hp.m.get i = some y) (hr : rdC y = some (c, k, z)) (hk : o + n ≤ k) {vs : List Value} (hl : l9 c o n = some vs) :
  ∃v,E8 P hp t (.pointer (some ⟨i,o,none⟩))=some v/\((ag=true/\v= .agg vs.toArray)\/(ag=false/\vs=[v])):=by
 unfold ldk at h;split at h
 ·rename_i d hd
  cases ha:ag1 d with
  |true=>
   simp only[ha,bH1]at h;split at h
   ·rename_i ti hti
    simp only[bF4,bF6]at h;obtain⟨rfl,rfl⟩:=h;refine⟨.agg vs.toArray,?_,.inl ⟨rfl,rfl⟩⟩;simp only[E8,hg,hr,hd,ha,bH1,hti,bG1 hk,hl]
   ·cases h
  |false=>
   simp only[ha,bH2,bF4,bF6]at h;obtain⟨rfl,rfl⟩:=h;simp only[l9]at hl;cases hv:c.get o with
   |none=>simp[hv]at hl
   |some v=>
    simp only[hv,bF4]at hl;refine⟨v,?_,.inr ⟨rfl,hl.symm⟩⟩;simp only[E8,hg,hr,hd,ha,bH2,bG1 hk,bH1,hv]
 ·cases h
theorem B2 {c : T Value} {R : Nat → Value → Prop} : ∀ (n o j : Nat), (∀ k, k < n → ∃ x, c.get (o + k) = some x ∧ R (j + k) x) → ∃ vs, l9 c o n = some vs ∧ vs.length = n ∧ ∀ k x, vs[k]? = some x → R (j + k) x
 |0,o,j,_=>⟨[],rfl,rfl,fun k x h=>by simp at h⟩
 | n + 1, o, j, h => by
  obtain⟨x,h1,h2⟩:=h 0 (by omega)
  obtain ⟨vs, h3, h4, h5⟩ := B2 n (o + 1) (j + 1) fun k hk => by
   obtain⟨x,k1,k2⟩:=h (k+1) (by omega)
   exact ⟨x, by rw [← k1]; congr 1; omega, by have : j + 1 + k = j + (k + 1) := by omega
                                              rw[this];exact k2⟩
  refine⟨x::vs,by simp only[l9];rw[show c.get o=some x from h1,h3],by simp[h4],fun k y hy=>?_⟩
  cases k with
  |zero=>simp at hy;subst hy;exact h2
  |succ k=>
   simp only[bG5]at hy;have:=h5 k y hy;rw[show j+(k+1)=j+1+k by omega];exact this
theorem ai4 {t : TypeId} {ag : Bool} {n : Nat} (h : ldk P t = some (ag, n)) {i o k z : Nat} {y : Blk} {c : T Value} (hg : hp.m.get i = some y) (hrd : rdC y = some (c, k, z)) (hk : o + n ≤ k) {l : List SV} (hl : l.length = n)
  (hc:∀(j:Nat) a,l[j]? =some a-> ∃x,c.get (o+j)=some x/\VD P U τ F a x) {a:SV} (ha:aZ6 ag l=some a):∃v,E8 P hp t (.pointer (some ⟨i,o,none⟩))=some v/\VD P U τ F a v:=by
 obtain⟨vs,h1,h2,h3⟩:=B2 (c:=c) (R:=fun j x=>∀a,l[j]? =some a->VD P U τ F a x) n o 0 fun j hj=>by
  have:l[j]? =some l[j]:=by simp[hl,hj]
  obtain⟨x,k1,k2⟩:=hc j _ this;exact⟨x,k1,fun a ha=>by rw[bI6,this]at ha;cases ha;exact k2⟩
 obtain⟨v,h4,h5⟩:=bs2 h hg hrd hk h1;refine⟨v,h4,?_⟩;have hv:VDL P U τ F l vs:=⟨by rw[hl,h2],fun j a x hj hx=>h3 j x hx a (by rw[bI6];exact hj)⟩
 rcases h5 with⟨rfl,rfl⟩| ⟨rfl,rfl⟩
 ·simp only[aZ6,bH1,bF4]at ha;subst ha;exact hv.agg
 ·simp only[aZ6,bH2]at ha
  cases l with
  |nil=>simp at ha
  |cons b l=>simp at ha;subst ha;exact hv.2 0 _ _ rfl rfl
theorem ac3 {k : Kd} {e : E} {a : SV} {x : Value} (hp : PV P F k x (e.den U)) (h : aG6 k e = some a) : VD P U τ F a x := by
 unfold aG6 at h;generalize hd:e.den U=d at hp;cases hp<;>simp only[bF4]at h<;>subst h
 ·exact VD.int' (by show(e.den U).toInt=_;rw[hd];rfl)
 ·exact VD.bool' (by rw[hd];rfl)
 ·exact VD.str' (by rw[hd];rfl)
 ·exact .lst _ e false _ (by have : e.toR U = [] := by { show (e.den U).rows = _; rw [hd]; rfl }
                             rw[this];exact .nils _) (fun h=>by cases h)
 ·exact .rpq e _ (by show PV P F .rp _ (.int (e.den U).toInt);rw[hd];exact .rp _)
 ·exact .rpq e _ (by show PV P F .rp _ (.int (e.den U).toInt);rw[hd];exact .rpn)
 ·exact .lst _ e false _ (by have : e.toR U = [] := by { show (e.den U).rows = _; rw [hd]; rfl }
                             rw[this];exact .vague _) (fun h=>by cases h)
 ·rename_i i o c b cs n z zb rows x hF hb hc hn hz hr hx hpx
  exact .lst _ e false _ (by have : e.toR U = rows := by { show (e.den U).rows = _; rw [hd]; rfl }
                             rw[this];exact .sl _ i o c b cs n z rows x hF hb hc hn hz hr hx hpx) (fun h=>by cases h)
theorem X6 {ks:List Kd}{L row:E}:∀ {n j:Nat} {l:List SV},ac2 ks L row j n=some l->l.length=n/\ ∀(q:Nat) a,l[q]? =some a-> ∃k,ks[j+q]? =some k/\aG6 k (aQ8 (j+q) L row)=some a
 |0,j,l,h=>by simp only[ac2,bF4]at h;subst h;exact⟨rfl,fun q a h=>by simp at h⟩
 |n+1,j,l,h=>by
  simp only[ac2]at h;split at h
  ·rename_i k hk
   split at h
   ·rename_i a ha
    split at h
    ·rename_i l' hl'
     simp only[bF4]at h;subst h;obtain⟨h1,h2⟩:=X6 hl';refine⟨by simp[h1],fun q b hb=>?_⟩
     cases q with
     |zero=>simp at hb;subst hb;exact⟨k,hk,ha⟩
     |succ q=>
      simp only[bG5]at hb;obtain⟨k',h3,h4⟩:=h2 q b hb;exact⟨k',by rw[<-h3];congr 1;omega,by rw[<-h4];congr 2;omega⟩
    ·cases h
   ·cases h
  ·cases h
theorem aw9 {rows:Rows}{r:Int}{row:List Dat}{k:Nat}{d:Dat}(h1:rows[r.toNat]? =some row)(h2:row[k]? =some d):A1 rows r k=d:=by
 unfold A1;simp only[bI5,h1,h2,bJ6]
theorem Y2 {t : TypeId} {ag : Bool} {n : Nat} (h : ldk P t = some (ag, n)) {i o k e z z' : Nat} {y : Blk} {cs : T Value} (hg : hp.m.get i = some y) (hrd : rdC y = some (cs, k, z')) {L row : E} (hr : v8 P F e z o k cs (L.toR U)) (h0 : 0 ≤ row.toI U) (h1 : row.toI U < (L.toR U).length) {fld : Nat} (hf : fld + n ≤ z)
  {a:SV} (ha:H2 P ag n e L row fld=some a):∃v,E8 P hp t (.pointer (some ⟨i,o+row.toN U*z+fld,none⟩))=some v/\VD P U τ F a v:=by
 unfold H2 at ha;split at ha
 ·rename_i l hl
  obtain⟨hl1,hl2⟩:=X6 hl;obtain⟨g1,g2,g3,g4⟩:=hr;have hrn:row.toN U<(L.toR U).length:=by
   show(row.toI U).toNat<_;omega
  have hrow:(L.toR U)[row.toN U]? =some (L.toR U)[row.toN U]:=by simp[hrn]
  have hlen:(L.toR U)[row.toN U].length=z:=g3 _ (bQ0 hrn);refine ai4 h hg hrd ?_ hl1 (fun j b hb=>?_) ha
  ·have:row.toN U*z+z<=(L.toR U).length*z:=by rw[<-bM1];exact bG7 z hrn
   omega
  ·obtain⟨kd,h3,h4⟩:=hl2 j b hb
   have hj:j<n:=by have:=(bF7.1 hb).1;omega
   have hk:(L.toR U)[row.toN U][fld+j]? =some ((L.toR U)[row.toN U][fld+j]'(by omega)):=by simp[hlen,show fld+j<z by omega]
   obtain⟨x,k1,k2⟩:=g4 _ _ _ _ hrow hk;refine⟨x,by rw[<-k1];congr 1;omega,ac3 ?_ h4⟩
   rw[al3,aw9 hrow hk];exact k2 kd h3
 ·cases ha
theorem T4 {k:Kd}{a:SV}{v:Value}(ha:VD P U τ F a v){e:E}(h:aF1 k a=some e):PV P F k v (e.den U):=by
 unfold aF1 at h;split at h
 ·rename_i k k' x
  by_cases hk:k=k'
  ·subst hk
   simp only[bL1,bH1,bF4]at h;subst h;cases ha;rw[ay4];exact .int k _
  ·simp[hk]at h
 ·simp only[bF4]at h;subst h;cases ha;rw[bs6];exact .bool _
 ·simp only[bF4]at h;subst h;cases ha;rw[bs8];exact .str _
 ·simp only[bF4]at h;subst h;cases ha;exact .nils _
 ·rename_i e' e'' L c
  cases hb:Nat.beq e' e'' with
  |false=>simp[hb]at h
  |true=>
   simp only[hb,bH1,bF4]at h;subst h;have:=bF9 hb;subst this;cases ha with
   |lst _ _ _ _ h hc=>rw[al5];exact h
 ·simp only[bF4]at h;subst h;cases ha;rename_i h;rw[ay4];exact h
 ·rename_i x
  simp only[bF4]at h;subst h;cases ha with
  |rp _ _ h0=>rw[ay4,show x.toI U=((x.toN U:Nat):Int) by show x.toI U=((x.toI U).toNat:Int);omega];exact .rp _
 ·simp only[bF4]at h;subst h;cases ha;exact .rpn
 ·cases h
theorem ao3 {z:Nat}:∀ {n:Nat} {l:List Dat} {r:Nat} {row:List Dat},(chunk z n l)[r]? =some row->row=(l.drop (r*z)).take z
 |0,l,r,row,h=>by simp[chunk]at h
 |n+1,l,0,row,h=>by simp[chunk]at h;simp[h]
 |n+1,l,r+1,row,h=>by
  simp only[chunk,bG5]at h;rw[ao3 h,List.drop_drop]
  congr 2
  rw[bM1];omega
theorem U5 {e z o n : Nat} {cs : T Value} {es : List E} {N : Nat} (hz : z = (kf P e).length) (hN : es.length = N * z) (hn : o + es.length ≤ n)
  (hc:∀(j:Nat) d,es[j]? =some d-> ∃x,cs.get (o+j)=some x/\ ∀kd,(kf P e)[j % z]? =some kd->PV P F kd x (d.den U)):v8 P F e z o n cs ((E.op (.rows N z) es).toR U):=by
 have hL:(E.op (.rows N z) es).toR U=chunk z N (es.map (E.den U)):=by
  show(Dat.lst (chunk z N (E.dens U es))).rows=_;rw[E.dens_eq];rfl
 rw[hL];have hlen:∀r row,(chunk z N (es.map (E.den U)))[r]? =some row->r<N/\row.length=z:=by
  intro r row h;have h1:=(bF7.1 h).1;rw[G6]at h1;refine⟨h1,?_⟩;rw[ao3 h];simp only[bI9,bK6,bH3,hN];have:r*z+z<=N*z:=by rw[<-bM1];exact bG7 z h1
  omega
 refine⟨by rw[G6];omega,hz,fun row hrow=>?_,fun r k row d hr hk=>?_⟩
 ·obtain⟨r,hr⟩:=bQ9 hrow
  exact(hlen r row hr).2
 ·obtain⟨h1,h2⟩:=hlen r row hr
  have hkz:k<z:=by have:=(bF7.1 hk).1;omega
  rw[ao3 hr,bI7,bH6 hkz,bJ3,bK4]at hk;cases he:es[r*z+k]? with
  |none=>simp[he]at hk
  |some x=>
   simp only[he,bJ9,bF4]at hk;obtain⟨y,k1,k2⟩:=hc _ _ he;refine⟨y,by rw[<-k1];congr 1;omega,fun kd hkd=>?_⟩
   rw[<-hk];exact k2 kd (by rw[show(r*z+k) % z=k by rw[Nat.mul_comm,Nat.mul_add_mod];exact bP9 hkz];exact hkd)
theorem aB2 {ks:List Kd}:∀ {l:List SV} {j:Nat} {es:List E},bo4 ks j l=some es->es.length=l.length/\ ∀(q:Nat) a e,l[q]? =some a->es[q]? =some e-> ∃k,ks[(j+q) % ks.length]? =some k/\aF1 k a=some e
 | [],j,es,h=>by simp only[bo4,bF4]at h;subst h;exact⟨rfl,fun q a e h=>by simp at h⟩
 |a::l,j,es,h=>by
  simp only[bo4]at h;split at h
  ·rename_i k hk
   split at h
   ·rename_i e he
    split at h
    ·rename_i es' hes
     simp only[bF4]at h;subst h;obtain⟨h1,h2⟩:=aB2 hes;refine⟨by simp[h1],fun q b x hb hx=>?_⟩
     cases q with
     |zero=>simp at hb hx;subst hb;subst hx;exact⟨k,hk,he⟩
     |succ q=>
      simp only[bG5]at hb hx;obtain⟨k',h3,h4⟩:=h2 q b x hb hx;exact⟨k',by rw[<-h3];congr 2;omega,h4⟩
    ·cases h
   ·cases h
  ·cases h
theorem ao9 {e z o n:Nat}{cs:T Value}{l:List SV}{L:E}(h:az8 P e z l=some L)(hn:o+l.length<=n)(hc:∀(j:Nat) a,l[j]? =some a-> ∃x,cs.get (o+j)=some x/\VD P U τ F a x):v8 P F e z o n cs (L.toR U):=by
 unfold az8 at h;cases hb:Nat.ble 1 z&&Nat.beq z (kf P e).length&&Nat.beq (l.length/z*z) l.length with
 |false=>rw[hb]at h;cases h
 |true=>
  rw[hb,bH1]at h;simp only[bF5,bJ4,bK8]at hb;obtain⟨⟨h1,h2⟩,h3⟩:=hb;split at h
  ·rename_i es hes
   simp only[bF4]at h;subst h;obtain⟨h4,h5⟩:=aB2 hes;refine U5 h2 (by rw[h4,h3]) (by rw[h4];exact hn) fun j d hd=>?_
   have hj:j<l.length:=by have:=(bF7.1 hd).1;omega
   have ha:l[j]? =some l[j]:=by simp[hj]
   obtain⟨x,k1,k2⟩:=hc j _ ha;obtain⟨k,k3,k4⟩:=h5 j _ d ha hd;refine⟨x,k1,fun kd hkd=>?_⟩
   rw[bI6,<-h2,hkd,bF4]at k3;subst k3;exact T4 k2 k4
  ·cases h
theorem ao5 {k:IntKind}:∀ {l:List SV} {es:List E},aG7 k l=some es->es.length=l.length/\ ∀(j:Nat) e,es[j]? =some e->l[j]? =some (.int k e)
 | [],es,h=>by simp only[aG7,bF4]at h;subst h;exact⟨rfl,fun j e h=>by simp at h⟩
 |a::l,es,h=>by
  unfold aG7 at h;split at h
  ·rename_i heq;cases heq
  ·rename_i k' e l' heq
   cases heq;cases hk:decide (k=k')with
   |false=>rw[hk]at h;cases h
   |true=>
    rw[hk,bH1]at h;rw[bH5]at hk;subst hk;split at h
    ·rename_i es' hes
     simp only[bF4]at h;subst h;obtain⟨h1,h2⟩:=ao5 hes;refine⟨by simp[h1],fun j e' hj=>?_⟩
     cases j with
     |zero=>simp at hj;subst hj;rfl
     |succ j=>simp at hj;simpa using h2 j e' hj
    ·cases h
  ·cases h
theorem T9 :∀(ds:List Dat) (n:Nat),(chunk 1 ds.length ds)[n]? =(ds[n]?).map fun d=>[d]
 | [],n=>by simp[chunk]
 |d::ds,0=>by simp[chunk]
 |d::ds,n+1=>by simp[chunk,T9 ds n]
theorem af1 (hs:SD P U τ F s hp){b:Nat}{L:E}{z:Nat}(h:aE0 s=some (b,L,z)):s.get b=some (.reg b L z)/\τ b=some (some (0,0))/\F 0=none/\ ∃cs,hp.m.get 0=some (.reg cs (L.toR U).length rgT z)/\v8 P F rgT z 0 ((L.toR U).length*z) cs (L.toR U):=by
 unfold aE0 at h;split at h
 ·rename_i b' _
  split at h
  ·rename_i r L' z' hg
   cases hb:Nat.beq r b' with
   |false=>rw[hb]at h;cases h
   |true=>
    rw[hb,bH1]at h;simp only[bF4,bF6]at h;obtain⟨rfl,rfl,rfl⟩:=h;have:=bF9 hb;subst this
    rcases hs.live _ _ hg with⟨i,o,y,h1,h2,h3,h4,h5,cs,h6,h7⟩| ⟨_,_,_,_,_,h,_⟩
    ·rw[h5]at h1
     simp only[bF4,bF6]at h1;obtain⟨rfl,rfl⟩:=h1;subst h6;exact⟨hg,h5,h3,cs,h2,h7⟩
    ·cases h
  ·cases h
 ·cases h
theorem bk2 {t : TypeId} {ag : Bool} {n : Nat} (h : ldk P t = some (ag, n)) {k o N e z : Nat} {c : T Value} (hg : hp.m.get 0 = some (.reg c N e z)) (hk : k < N) (ho : o + n ≤ z) {vs : List Value} (hl : l9 c (k * z + o) n = some vs) :
  ∃v,E8 P hp t (.pointer (some ⟨k,o,some 1⟩))=some v/\((ag=true/\v= .agg vs.toArray)\/(ag=false/\vs=[v])):=by
 have hk':Nat.ble (k+1) N=true:=bG1 hk;unfold ldk at h;split at h
 ·rename_i d hd
  cases ha:ag1 d with
  |true=>
   simp only[ha,bH1]at h;split at h
   ·rename_i ti hti
    simp only[bF4,bF6]at h;obtain⟨rfl,rfl⟩:=h;refine⟨.agg vs.toArray,?_,.inl ⟨rfl,rfl⟩⟩;simp only[E8,aq2,hg,hd,ha,bH1,hti,hk',bG1 ho,hl,bO2]
   ·cases h
  |false=>
   simp only[ha,bH2,bF4,bF6]at h;obtain⟨rfl,rfl⟩:=h;simp only[l9]at hl;cases hv:c.get (k*z+o)with
   |none=>simp[hv]at hl
   |some v=>
    simp only[hv,bF4]at hl;refine⟨v,?_,.inr ⟨rfl,hl.symm⟩⟩;simp only[E8,aq2,hg,hd,ha,bH2,hk',bG1 ho,bH1,hv,bO2]
 ·cases h
theorem aZ4 {t : TypeId} {ag : Bool} {n : Nat} (h : ldk P t = some (ag, n)) {z : Nat} {cs : T Value} {L row : E} (hg : hp.m.get 0 = some (.reg cs (L.toR U).length rgT z)) (hr : v8 P F rgT z 0 ((L.toR U).length * z) cs (L.toR U)) (h0 : 0 ≤ row.toI U) (h1 : row.toI U < (L.toR U).length) {fld : Nat} (hf : fld + n ≤ z)
  {a:SV} (ha:H2 P ag n rgT L row fld=some a):∃v,E8 P hp t (.pointer (some ⟨row.toN U,fld,some 1⟩))=some v/\VD P U τ F a v:=by
 unfold H2 at ha;split at ha
 ·rename_i l hl
  obtain⟨hl1,hl2⟩:=X6 hl;obtain⟨g1,g2,g3,g4⟩:=hr;have hrn:row.toN U<(L.toR U).length:=by
   show(row.toI U).toNat<_;omega
  have hrow:(L.toR U)[row.toN U]? =some (L.toR U)[row.toN U]:=by simp[hrn]
  have hlen:(L.toR U)[row.toN U].length=z:=g3 _ (bQ0 hrn);have hc:∀(j:Nat) b,l[j]? =some b-> ∃x,cs.get (row.toN U*z+fld+j)=some x/\VD P U τ F b x:=fun j b hb=>by
   obtain⟨kd,h3,h4⟩:=hl2 j b hb;have hj:j<n:=by have:=(bF7.1 hb).1;omega
   have hk:(L.toR U)[row.toN U][fld+j]? =some ((L.toR U)[row.toN U][fld+j]'(by omega)):=by simp[hlen,show fld+j<z by omega]
   obtain⟨x,k1,k2⟩:=g4 _ _ _ _ hrow hk;refine⟨x,by rw[<-k1];congr 1;omega,ac3 ?_ h4⟩
   rw[al3,aw9 hrow hk];exact k2 kd h3
  obtain⟨vs,q1,q2,q3⟩:=B2 (c:=cs) (R:=fun j x=>∀a,l[j]? =some a->VD P U τ F a x) n (row.toN U*z+fld) 0 fun j hj=>by
   have:l[j]? =some l[j]:=by simp[hl1,hj]
   obtain⟨x,k1,k2⟩:=hc j _ this;exact⟨x,k1,fun a ha=>by rw[bI6,this]at ha;cases ha;exact k2⟩
  obtain⟨v,h4,h5⟩:=bk2 h hg hrn hf q1;refine⟨v,h4,?_⟩;have hv:VDL P U τ F l vs:=⟨by rw[hl1,q2],fun j a x hj hx=>q3 j x hx a (by rw[bI6];exact hj)⟩
  rcases h5 with⟨rfl,rfl⟩| ⟨rfl,rfl⟩
  ·simp only[aZ6,bH1,bF4]at ha;subst ha;exact hv.agg
  ·simp only[aZ6,bH2]at ha
   cases l with
   |nil=>simp at ha
   |cons b l=>simp at ha;subst ha;exact hv.2 0 _ _ rfl rfl
 ·cases ha
theorem aU8 {t:TypeId}{a:SV}{v:Value}(ha:VD P U τ F a v)(hs:SD P U τ F s hp):OKp U (bi1 P U t a) s fun b=>∃u,E8 P hp t v=some u/\VD P U τ F b u:=by
 unfold bi1;split
 ·exact OKp.fail
 ·rename_i ag n hld
  split
  ·rename_i b z row fld
   refine OKp.read ?_;split
   ·rename_i l e z' hb
    rcases hs.live b _ hb with⟨i,o,y,h1,h2,_,cs,k,rfl,h4,h5⟩| ⟨h1,L',e',z'',ph,h2,_⟩
    ·cases ha with
     |ptr _ _ _ _ i' o' h h0=>
      rw[h1]at h;simp only[bF4,bF6]at h;obtain⟨rfl,rfl⟩:=h;split
      ·rename_i r
       cases hq:decide (0<=r)&&Nat.ble (r.toNat*z+fld+n) l.length with
       |false=>exact OKp.fail
       |true=>
        simp only[bH1];simp only[bF5,bH5,bK8]at hq;refine OKp.opt fun c hc=>?_
        refine ai4 hld h2 rfl (o:=o+(E.int r).toN U*z+fld) ?_ (l:=(l.drop (r.toNat*z+fld)).take n) ?_ (fun j b hb=>?_) hc
        ·show o+r.toNat*z+fld+n<=k;omega
        ·simp;omega
        ·rw[bI7]at hb
         split at hb
         ·rw[bJ3]at hb
          obtain⟨x,k1,k2⟩:=h5 _ _ hb;exact⟨x,by rw[<-k1];congr 1;show o+r.toNat*z+fld+j=_;omega,k2⟩
         ·cases hb
      ·split
       ·rename_i L hL
        cases hq:Nat.ble (fld+n) z with
        |false=>exact OKp.fail
        |true=>
         simp only[bH1];refine OKp.need.bind fun _ s1 _ _ hlt=>OKp.opt fun c hc=>?_
         have hlt:=y8 hlt;rw[e9]at hlt;exact Y2 hld h2 rfl (ao9 hL h4 h5) h0 hlt (bF8 hq) hc
       ·cases hq: !ag&&Nat.beq z 1&&Nat.beq n 1 with
        |false=>exact OKp.fail
        |true=>
         rw[bH1];simp only[bF5,bJ4,bK0]at hq;obtain⟨⟨rfl,rfl⟩,rfl⟩:=hq;unfold bw5;split
         ·rename_i k0 e0 l' hl0
          split
          ·rename_i es hes
           obtain⟨q1,q2⟩:=ao5 hes;refine OKp.need.bind fun _ s1 _ _ hlt=>OKp.ret ?_
           have hlt:=y8 hlt;simp only[w9]at hlt;have hr:row.toN U<es.length:=by show(row.toI U).toNat<_;omega
           have hel:=q2 (row.toN U) _ (bG6 hr);rw[<-hl0,bJ3]at hel;obtain⟨x,k1,k2⟩:=h5 _ _ hel;refine ai4 (l:=[.int k0 (aQ8 0 (.op (.rows es.length 1) es) row)]) hld h2 rfl (o:=o+row.toN U*1+fld) ?_ rfl (fun j a ha=>?_) rfl
           ·have h9:=(bF7.1 hel).1
            omega
           ·cases j with
            |succ j=>simp at ha
            |zero=>
             simp only[bH0,bF4]at ha;subst ha;refine⟨x,by rw[<-k1];congr 1;omega,?_⟩
             cases k2;refine VD.int' ?_;show((aQ8 0 (.op (.rows es.length 1) es) row).den U).toInt=_;rw[al3];show(A1 (chunk 1 es.length (E.dens U es)) (row.toI U) 0).toInt=_;unfold A1;have hl9:es.length=(E.dens U es).length:=by rw[E.dens_eq,bH3]
             rw[hl9,bI5 (l:=chunk _ _ _),T9,E.dens_eq,bK4,bG6 hr];rfl
          ·exact OKp.fail
         ·exact OKp.fail
    ·cases h2
   ·rename_i L e z' ph hb
    cases hq:Nat.beq z z'&&Nat.ble (fld+n) z with
    |false=>exact OKp.fail
    |true=>
     simp only[bH1];simp only[bF5,bJ4,bK8]at hq;obtain⟨rfl,hq⟩:=hq;refine OKp.need.bind fun _ s1 _ _ hlt=>OKp.opt fun c hc=>?_
     have hlt:=y8 hlt;rw[e9]at hlt
     rcases hs.live b _ hb with⟨i,o,y,h1,h2,_,cs,k,rfl,h4,h5⟩| ⟨h1,L',e',z'',ph',h2,h3,_⟩
     ·cases ha with
      |ptr _ _ _ _ i' o' h h0=>
       rw[h1]at h;simp only[bF4,bF6]at h;obtain⟨rfl,rfl⟩:=h;exact Y2 hld h2 rfl h4 h0 hlt hq hc
     ·cases ha with
      |ptr _ _ _ _ i' o' h h0=>rw[h1]at h;cases h
   ·exact OKp.fail
   ·exact OKp.fail
   ·exact OKp.fail
   ·split
    ·rename_i L e z' hb
     cases hq:Nat.beq z z'&&Nat.ble (fld+n) z with
     |false=>exact OKp.fail
     |true=>
      simp only[bH1];simp only[bF5,bJ4,bK8]at hq;obtain⟨rfl,hq⟩:=hq;refine OKp.need.bind fun _ s1 _ _ hlt=>OKp.opt fun c hc=>?_
      have hlt:=y8 hlt;rw[e9]at hlt
      rcases hs.fz _ (U1 hb)with⟨i,o,cs,k,h1,h2,h4⟩| ⟨h1,h2⟩
      ·cases ha with
       |ptr _ _ _ _ i' o' h h0=>
        rw[h1]at h;simp only[bF4,bF6]at h;obtain⟨rfl,rfl⟩:=h;exact Y2 hld (hs.frz _ _ h2) rfl h4 h0 hlt hq hc
      ·cases ha with
       |ptr _ _ _ _ i' o' h h0=>rw[h1]at h;cases h
    ·exact OKp.fail
  ·rename_i row fld
   refine OKp.read ?_;split
   ·rename_i b L z hr
    cases hq:Nat.ble (fld+n) z with
    |false=>exact OKp.fail
    |true=>
     rw[bH1];refine OKp.need.bind fun _ s1 _ _ hlt=>OKp.opt fun c hc=>?_
     have hlt:=y8 hlt;rw[e9]at hlt;obtain⟨_,_,_,cs,h2,h3⟩:=af1 hs hr;cases ha with
     |rp _ _ h0=>exact aZ4 hld h2 h3 h0 hlt (bF8 hq) hc
   ·exact OKp.fail
  ·rename_i e L row fld
   cases hq:Nat.ble (fld+n) (kf P e).length with
   |false=>exact OKp.fail
   |true=>
    simp only[bH1];refine OKp.opt fun c hc=>?_
    cases ha with
    |pptr _ _ _ _ i o l c' h h0 h1=>
     generalize hrows:L.toR U=rows at h h1;cases h with
     |sl _ _ _ _ y cs k z rows x hF hb hc' hn hz hr hx hpx=>
      have hg:hp.m.get i=some y:=hs.frz _ _ hF;have hra:v8 P F e z o k cs (L.toR U):=by
       rw[hrows];exact⟨hn,hz,hr,fun r k row d hr' hk'=>⟨x r k,hx r k row d hr' hk',fun kd hkd=>hpx r k row kd d hr' hk' hkd⟩⟩
      rw[<-hz]at hq⊢;exact Y2 hld hg hb hra h0 (by rw[hrows];exact h1) (bF8 hq) hc
  ·exact OKp.fail
end
end Go.Sx
namespace Go.Sx
open Go.Xe
def mfz (b:Nat)(L:E)(e z:Nat):M Unit:=fun s=>.ret ((),{s with fz:=(b,L,e,z)::s.fz})
def V7 (b:Nat)(x:Option v9):M Unit:=fun s=>.ret ((),s.set b x)
def bx5 :Nat->List SV->List SV
 |0,_=>[]
 |n+1,zs=>zs++bx5 n zs
def aD9 :SV->Bool
 | .agg _| .tup _| .any=>false
 |_=>true
section
variable (P :Program)(U:Nat->List Dat->Dat)
def sbox (e:TypeId)(l:List SV):M SV:=a9 (U6 (.cells l e l.length)) fun b=>c9 (.ptr b l.length (.int 0) 0)
def ad5 (t : TypeId) (len : Nat) (parts : List (Nat × SV)) : M SV :=
 match P.underlying t with
 | some (.slice e) => match P.info? e with
  | some ie => match ae0 P e with
   | some z => bif Nat.beq z.length ie.size && Nat.ble (len * ie.size) 16777216 && Nat.ble len 16777216 then
     match as6 (fun i=>some (i*ie.size,ie.size)) (bx5 len z) parts with
     |some cs=>a9 (U6 (.cells cs e ie.size)) fun b=>c9 (.sl b ie.size (.int 0) (.int len) (.ex (.int len)))
     |none=>a8 "buildSlice"
    else a8 "buildSlice"
   |none=>a8 "buildSlice: zero"
  |none=>a8 "buildSlice: type"
 |_=>a8 "buildSlice: type"
def bc1 :E->Option Nat
 | .int k=>bif decide (0<=k)&&decide (k<=64)then some k.toNat else none
 |_=>none
theorem aI5 {U:Nat->List Dat->Dat}{c:E}{n:Nat}(h:bc1 c=some n):n=c.toN U:=by
 unfold bc1 at h;split at h
 ·rename_i k
  cases hk:decide (0<=k)&&decide (k<=64)with
  |false=>rw[hk]at h;cases h
  |true=>rw[hk,bH1,bF4]at h;rw[<-h];rfl
 ·cases h
def ai9 (t : TypeId) (l c : SV) : M SV :=
 match l,c with
 | .int _ ln, .int _ cn => match P.underlying t with
  | some (.slice e) => match P.info? e with
   | some ie => match ae0 P e with
    | some z => bif Nat.ble ie.bytes 1048576 && Nat.beq z.length ie.size then
      a9 (i9 U (t6 (t9 ln (.int 0)))) fun _=>a9 (i9 U (t6 (t9 cn ln))) fun _=>a9 (i9 U (t9 cn (.int 1048577))) fun _=>
      match bc1 cn with
      |some k=>a9 (U6 (.cells (bx5 k z) e ie.size)) fun b=>c9 (.sl b ie.size (.int 0) ln (.ex cn))
      | none => bif Nat.beq (kf P e).length ie.size && Nat.ble 1 ie.size then
        match bo4 (kf P e) 0 z with
        |some es=>a9 (U6 (.rows (.op .rep (cn::es)) e ie.size cn)) fun b=>c9 (.sl b ie.size (.int 0) ln (.ex cn))
        |none=>a8 "makeSlice: zero"
       else a8 "makeSlice: kinds"
     else a8 "makeSlice: size"
    |none=>a8 "makeSlice: zero"
   |none=>a8 "makeSlice: type"
  |_=>a8 "makeSlice: type"
 |_,_=>a8 "makeSlice: no ints"
def O2 (L off len:E):M E:=
 match off with
 | .int m=>bif decide (m=0)&&E.like len (v5 L)then a9 (i9 U (C8 len (v5 L))) fun _=>c9 (ac7 L)else c9 (.op .part [L,off,len])
 |_=>c9 (.op .part [L,off,len])
def ar4 (f:Kd->SV->M E)(ks:List Kd):Nat->List SV->M (List E)
 |_,[]=>c9 []
 |j,a::l=>match ks[j % ks.length]? with
  |some k=>a9 (f k a) fun e=>a9 (ar4 f ks (j+1) l) fun es=>c9 (e::es)
  |none=>a8 "data: kind"
def aE3 : Nat → Kd → SV → M E
 |0,_,_=>a8 "data: depth"
 | d + 1, k, a => match aF1 k a with
  |some e=>c9 e
  | none => match k, a with
   | .sl e, .sl b z off len _ => l7 fun s => match s.get b with
    | some (.rows L e' z' _) => bif Nat.beq e e' && Nat.beq z z' then
      a9 (i9 U (t6 (t9 (v5 L) (t7 off len)))) fun _=>a9 (V7 b none) fun _=>a9 (mfz b L e z) fun _=>O2 U L off len
     else a8 "data: type"
    | some (.cells l e' z') => bif Nat.beq e e' && Nat.beq z z' && Nat.beq z (kf P e).length && Nat.beq (l.length / z * z) l.length then
      a9 (i9 U (t6 (t9 (.int (l.length/z:Nat)) (t7 off len)))) fun _=>a9 (V7 b none) fun _=>
      a9 (ar4 (aE3 d) (kf P e) 0 l) fun es=>a9 (mfz b (.op (.rows (l.length/z) z) es) e z) fun _=>O2 U (.op (.rows (l.length/z) z) es) off len
     else a8 "data: type"
    |some (.map _ _ _)=>a8 "data: no block"
    |some (.iter _ _)=>a8 "data: no block"
    |some (.reg _ _ _)=>a8 "data: no block"
    | none => match lk s.fz b with
     | some (L, e', z') => bif Nat.beq e e' && Nat.beq z z' then
       a9 (i9 U (t6 (t9 (v5 L) (t7 off len)))) fun _=>O2 U L off len
      else a8 "data: type"
     |none=>a8 "data: no block"
   |_,_=>a8 "data: value"
def aN0 (L row:E):Nat->List E->E
 |_,[]=>L
 |j,e::es=>aN0 (.op (.upd j) [L,row,e]) row (j+1) es
def ay5 (b:Nat):M Unit:=l7 fun s=>match s.get b with
 |some (.cells l e z)=>match az8 P e z l with
  |some L=>V7 b (some (.rows L e z (.int (l.length/z:Nat))))
  |none=>a8 "rows"
 |_=>c9 ()
def phT (ph L:E):Bool:=match ph with
 | .int _=>false
 |ph=> !(E.like ph (v5 L))
def Z2 (b z : Nat) (row : E) (fld : Nat) (vs : List SV) : M SV := l7 fun s => match s.get b with
 | some (.rows _ e _ _) => bif Nat.ble (fld + vs.length) z && Nat.beq z (kf P e).length then
   a9 (ar4 (aE3 P U 20) (kf P e) fld vs) fun es=>l7 fun s=>match s.get b with
   | some (.rows L e' z' ph) => bif Nat.beq e e' && Nat.beq z z' then
     bif phT ph L&&Nat.beq z 1&&Nat.beq fld 0&&Nat.beq es.length 1 then
      a9 (i9 U (t6 (t9 (v5 L) row))) fun _=>a9 (i9 U (t9 row ph)) fun _=>a9 (V7 b (some (.rows (.op .over [L,row,.op (.rows 1 1) es]) e' z' ph))) fun _=>c9 (.tup [])
     else a9 (i9 U (t9 row (v5 L))) fun _=>a9 (V7 b (some (.rows (aN0 L row fld es) e' z' ph))) fun _=>c9 (.tup [])
    else a8 "store: type"
   |_=>a8 "store: block"
  else a8 "store: beyond"
 |_=>a8 "store: no rows"
def aM7 (row : E) (fld : Nat) (vs : List SV) : M SV := l7 fun s => match aE0 s with
 | some (_, _, z) => bif Nat.ble (fld + vs.length) z then
   a9 (ar4 (aE3 P U 20) (kf P rgT) fld vs) fun es=>l7 fun s=>match aE0 s with
   | some (b, L, z') => bif Nat.beq z z' then
     a9 (i9 U (t9 row (v5 L))) fun _=>a9 (V7 b (some (.reg b (aN0 L row fld es) z'))) fun _=>c9 (.tup [])
    else a8 "store: type"
   |none=>a8 "store: region"
  else a8 "store: beyond"
 |none=>a8 "store: region"
def bi2 (l : List SV) : M SV := l7 fun s => match aE0 s with
 | some (_, _, z) => bif Nat.beq l.length z && Nat.ble 1 z && l.all aD9 then
   a9 (ar4 (aE3 P U 20) (kf P rgT) 0 l) fun es=>l7 fun s=>match aE0 s with
   |some (b,L,z')=>bif Nat.beq z z' then a9 (V7 b (some (.reg b (B3 L (.op (.rows 1 z) es)) z))) fun _=>c9 (.rp (v5 L) 0)else a8 "new: region"
   |none=>a8 "new: region"
  else a8 "new: size"
 |none=>a8 "new: region"
def hset (k:IntKind)(es:List E)(row w:E):List SV:=(List.range es.length).map fun j:Nat=>.int k (aQ8 0 (.op .over [.op (.rows es.length 1) es,row,.op (.rows 1 1) [w]]) (.int (j:Int)))
def aM8 (b:Nat)(l:List SV)(e z:Nat)(row:E)(fld:Nat):List SV->M SV
 | [.int k w]=>match aG7 k (l.drop fld)with
  |some es=>a9 (i9 U (t9 row (.int es.length))) fun _=>a9 (V7 b (some (.cells (l.take fld++hset k es row w) e z))) fun _=>c9 (.tup [])
  |none=>a8 "store: no integers"
 |_=>a8 "store: no integer"
def bc7 (t : TypeId) (a x : SV) : M SV :=
 match P.info? t with
 |none=>a8 "store: type"
 | some ti => match z7 x with
  |none=>a8 "store: value"
  | some vs => bif Nat.beq vs.length ti.size && vs.all aD9 then
   match a with
   | .ptr b z row fld => l7 fun s => match s.get b with
    | some (.cells l e z') => match row with
     | .int r => bif decide (0 ≤ r) && Nat.ble (r.toNat * z + fld + vs.length) l.length then
       a9 (V7 b (some (.cells (K9 l (r.toNat*z+fld) vs) e z'))) fun _=>c9 (.tup [])else a8 "store: beyond"
     |row=>bif Nat.beq z 1&& !Nat.beq z' 1&&Nat.ble fld l.length then aM8 U b l e z' row fld vs else a9 (ay5 P b) fun _=>Z2 P U b z row fld vs
    |some (.rows _ _ _ _)=>Z2 P U b z row fld vs
    |_=>a8 "store: no block"
   | .rp row fld=>aM7 P U row fld vs
   |_=>a8 "store: no address"
   else a8 "store: size"
end
section
variable {P :Program}{U:Nat->List Dat->Dat}{τ:Tau}{F:Nat->Option Blk}{s:SS}{hp:Hp}
theorem OKh.alloc {x : v9} {y : Blk} (hs : SD P U τ F s hp) (hy : ∀ τ', Tle τ τ' → BD P U τ' F 0 x y) :
  OKh P U (U6 x) τ F s hp fun b τ' F' hp'=>F'=F/\τ' b=some (some (hp.nx,0))/\hp'=⟨hp.m.set hp.nx (some y),hp.nx+1⟩:=by
 intro Q hq _;have h0:τ s.nx=none:=hs.new _ (bH7 _);obtain⟨h1,h2⟩:=hs.alloc (x:=x) (p:=some (hp.nx,0)) (hp':=⟨hp.m.set hp.nx (some y),hp.nx+1⟩) (bM9 _) (fun i hi=>by8 hp y i hi)
  (.inl ⟨hp.nx,0,y,rfl,bH7 _,bL5 _,by simp[T.get_set],hy _ (U3 _ h0)⟩)
 exact⟨s.nx,_,hq,_,F,_,h1,h2,rfl,m8 _ _ _,rfl⟩
theorem E9 (vs:List Value)(j:Nat)(x:Value)(h:vs[j]? =some x):(fill .e 0 vs).get j=some x:=by
 rw[i8,bH6 ⟨bP0 _,by have:=(bF7.1 h).1;omega⟩]
 simpa using h
theorem U9 {l:List SV}{vs:List Value}(h:VDL P U τ F l vs)(e z:Nat):BD P U τ F 0 (.cells l e z) (F7 vs e z):=by
 refine⟨fill .e 0 vs,vs.length,rfl,by rw[h.1];omega,fun j a ha=>?_⟩
 obtain⟨x,h1,h2⟩:=h.get ha;exact⟨x,by rw[bI6];exact E9 vs j x h1,h2⟩
theorem bh0 {e : TypeId} {l : List SV} {vs : List Value} (h : VDL P U τ F l vs) (hs : SD P U τ F s hp) :
  OKh P U (sbox e l) τ F s hp fun a τ' F' hp'=>(a,hp')=(a,(hp.add ⟨F7 vs e vs.length,.ptr,rfl⟩).2)/\VD P U τ' F' a (hp.add ⟨F7 vs e vs.length,.ptr,rfl⟩).1:=by
 unfold sbox;refine(OKh.alloc (y:=F7 vs e vs.length) hs fun τ' ht=>?_).bind fun b τ' F' s' hp' _ hs' ⟨h1,h2,h3⟩=>?_
 ·rw[h.1];exact U9 (h.mono ht (Fle.refl F)) e vs.length
 ·subst h1;subst h3
  refine OKh.ret ⟨rfl,?_⟩;exact VD.ptr' h2 (by show(0:Int)<=0;omega) (by show 0=0+(0:Int).toNat*_+0;simp)
theorem av8 {l:List SV}{vs:List Value}(h:VDL P U τ F l vs):∀n,VDL P U τ F (bx5 n l) (xrep n vs)
 |0=>VDL.nil
 |n+1=>h.append (av8 h n)
theorem aA0 {t : TypeId} {len : Nat} {ps : List (Nat × SV)} {qs : List (Nat × Value)} (h : PVD P U τ F ps qs) (hs : SD P U τ F s hp) :
  OKh P U (ad5 P t len ps) τ F s hp fun a τ' F' hp'=>∃n,bo5 P t len qs=some n/\hp'=(hp.add n).2/\VD P U τ' F' a (hp.add n).1:=by
 unfold ad5;split
 ·rename_i e he
  split
  ·rename_i ie hie
   split
   ·rename_i z hz
    obtain⟨zv,h1,h2⟩:=L5 (U:=U) (τ:=τ) (F:=F) hz;rw[h2.1];cases hb:Nat.beq zv.cells.toList.length ie.size&&Nat.ble (len*ie.size) 16777216&&Nat.ble len 16777216 with
    |false=>exact OKh.fail
    | true =>
     simp only[bH1];split
     ·rename_i cs hcs
      obtain⟨ys,h3,h4⟩:=ad7 (av8 h2 len) h hcs;refine(OKh.alloc (y:=F7 ys e ie.size) hs fun τ' ht=>U9 (h4.mono ht (Fle.refl F)) e ie.size).bind fun b τ' F' s' hp' _ hs' ⟨k1,k2,k3⟩=>?_
      subst k1;subst k3;refine OKh.ret ⟨⟨F7 ys e ie.size,.slice len len,rfl⟩,?_,rfl,?_⟩
      ·simp only[bo5,he,hie,h1,hb,bH1,h3]
      ·have hu : len < unk := by
        simp only[bF5,bK8]at hb;unfold unk;omega
       have:=VD.sl (P:=P) (U:=U) (F:=F') b ie.size (.int 0) (.int len) (.ex (.int len)) hp.nx 0 len k2 (bL8 0) (Int.natCast_nonneg len) ⟨Int.natCast_nonneg len,(bJ5 len).symm,hu,bL8 _⟩;have e1:(E.int (len:Int)).toN U=len:=bJ5 len;rw[e1]at this;have e2:(E.int 0).toN U*ie.size=0:=by show(0:Int).toNat*_=0;simp
       rw[e2]at this;exact this
     ·exact OKh.fail
   ·exact OKh.fail
  ·exact OKh.fail
 ·exact OKh.fail
theorem C4 (n:Nat)(vs:List Value):(xrep n vs).length=n*vs.length:=by
 induction n with
 |zero=>simp[xrep]
 |succ n ih=>simp[xrep,ih,bM1];omega
theorem W9 {z:Nat}{vs:List Value}(hz:vs.length=z):∀ {n r k:Nat},r<n->k<z->(xrep n vs)[r*z+k]? =vs[k]?
 |0,r,k,h,_=>by omega
 |n+1,0,k,_,hk=>by simp only[xrep,bO3,bI6];rw[bG3 (by omega)]
 |n+1,r+1,k,h,hk=>by
  simp only[xrep];rw[bG2 (by rw[hz,bM1];omega),hz]
  rw[show(r+1)*z+k-z=r*z+k by rw[bM1];omega]
  exact W9 hz (by omega) hk
theorem aE9 {t : TypeId} {a b : SV} {v u : Value} (ha : VD P U τ F a v) (hb : VD P U τ F b u) (hs : SD P U τ F s hp) :
  OKh P U (ai9 P U t a b) τ F s hp fun c τ' F' hp'=>∃n,bp2 P t v u=some n/\hp'=(hp.add n).2/\VD P U τ' F' c (hp.add n).1:=by
 unfold ai9;split
 ·rename_i k1 ln k2 cn
  cases ha;cases hb;split
  ·rename_i e he
   split
   ·rename_i ie hie
    split
    ·rename_i z hz
     obtain⟨zv,h1,h2⟩:=L5 (U:=U) (τ:=τ) (F:=F) hz;rw[h2.1];cases hb:Nat.ble ie.bytes 1048576&&Nat.beq zv.cells.toList.length ie.size with
     |false=>exact OKh.fail
     | true =>
      simp only[bH1];refine OKh.bindp OKp.need fun _ s1 _ hs1 p1=>OKh.bindp OKp.need fun _ s2 _ hs2 p2=>OKh.bindp OKp.need fun _ s3 _ hs3 p3=>?_
      have n1:=O6 p1;have n2:=u7 p2;have n3:=y8 p3;simp only[w9]at n3;simp only[bF5,bK8,bJ4]at hb;have hx:bp2 P t (.int k1 (ln.toI U)) (.int k2 (cn.toI U))=some ⟨F7 (xrep (cn.toN U) zv.cells.toList) e ie.size,.slice (ln.toN U) (cn.toN U),rfl⟩:=by
       simp only[bp2,he,hie,h1];rw[show(decide (0<=ln.toI U)&&decide (ln.toI U<=cn.toI U)&&decide (cn.toI U<=1048576)&&Nat.ble ie.bytes 1048576&&Nat.beq zv.cells.toList.length ie.size)=true by
        simp only[bF5,bH5,bK8,bJ4];exact⟨⟨⟨⟨n1,n2⟩,by omega⟩,hb.1⟩,hb.2⟩]
       rfl
      have hval:∀(τ':Tau) (bn:Nat),τ' bn=some (some (hp.nx,0))->VD P U τ' F (.sl bn ie.size (.int 0) ln (.ex cn)) (.slice (some ⟨hp.nx,0,none⟩) (ln.toN U) (cn.toN U)):=by
       intro τ' bn hτ;have hu:cn.toN U<unk:=by unfold unk;show(cn.toI U).toNat<_;omega
       have:=VD.sl (P:=P) (U:=U) (F:=F) bn ie.size (.int 0) ln (.ex cn) hp.nx 0 (cn.toN U) hτ (bL8 0) n1 ⟨by omega,rfl,hu,n2⟩
       have e2:(E.int 0).toN U*ie.size=0:=by show(0:Int).toNat*_=0;simp
       rw[e2]at this;exact this
      split
      ·rename_i k hk
       rw[<-aI5 (U:=U) hk]at hx;have hval':∀(τ':Tau) (bn:Nat),τ' bn=some (some (hp.nx,0))->VD P U τ' F (.sl bn ie.size (.int 0) ln (.ex cn)) (.slice (some ⟨hp.nx,0,none⟩) (ln.toN U) k):=by
        rw[aI5 (U:=U) hk];exact hval
       refine(OKh.alloc (y:=F7 (xrep k zv.cells.toList) e ie.size) hs3 fun τ' ht=>U9 (av8 (h2.mono ht (Fle.refl F)) _) e ie.size).bind fun bn τ' F' s' hp' _ hs' ⟨q1,q2,q3⟩=>?_
       subst q1;subst q3;exact OKh.ret ⟨_,hx,rfl,hval' τ' bn q2⟩
      ·cases hk : Nat.beq (kf P e).length ie.size && Nat.ble 1 ie.size with
       |false=>exact OKh.fail
       | true =>
        simp only[bH1];simp only[bF5,bK8,bJ4]at hk;split
        ·rename_i es hes
         obtain⟨t1,t2⟩:=aB2 hes;have hzl:zv.cells.toList.length=ie.size:=hb.2;have hesl:es.length=ie.size:=by rw[t1,h2.1,hzl]
         refine(OKh.alloc (y:=F7 (xrep (cn.toN U) zv.cells.toList) e ie.size) hs3 fun τ' ht=>?_).bind fun bn τ' F' s' hp' _ hs' ⟨q1,q2,q3⟩=>?_
         ·have hL : (E.op .rep (cn :: es)).toR U = List.replicate (cn.toN U) (es.map (E.den U)) := by
           show(Dat.lst (List.replicate _ (E.dens U es))).rows=_;rw[E.dens_eq];rfl
          refine⟨_,_,rfl,?_,?_⟩
          ·rw[hL]
           refine⟨by rw[C4,hzl];simp,hk.1.symm,fun r hr=>?_,fun r k row d hr hkd=>?_⟩
           ·rw[List.mem_replicate]at hr;rw[hr.2];simp[hesl]
           ·rw[List.getElem?_replicate]at hr
            split at hr
            ·rename_i hlt
             simp only[bF4]at hr;subst hr;have hkz:k<ie.size:=by have:=(bF7.1 hkd).1;simpa [hesl]using this
             rw[bK4]at hkd;cases hek:es[k]? with
             |none=>simp[hek]at hkd
             |some x=>
              simp only[hek,bJ9,bF4]at hkd;have hzk:z[k]? =some (z[k]'(by rw[h2.1,hzl];exact hkz)):=by simp[h2.1,hzl,hkz]
              obtain⟨y,w1,w2⟩:=h2.get hzk;obtain⟨kd,w3,w4⟩:=t2 k _ _ hzk hek;refine⟨y,?_,fun kd' hkd'=>?_⟩
              ·rw[bI6]
               exact E9 _ _ _ (by rw[W9 hzl hlt hkz];exact w1)
              ·rw[bI6,hk.1,bP9 hkz,hkd',bF4]at w3
               subst w3;rw[<-hkd];exact T4 w2 w4
            ·cases hr
          ·rw[C4,hzl];omega
         ·subst q1;subst q3
          exact OKh.ret ⟨_,hx,rfl,hval τ' bn q2⟩
        ·exact OKh.fail
    ·exact OKh.fail
   ·exact OKh.fail
  ·exact OKh.fail
 ·exact OKh.fail
end
end Go.Sx
namespace Go.Sx
open Go.Xe
section
variable {P :Program}{U:Nat->List Dat->Dat}{τ:Tau}{F:Nat->Option Blk}{s:SS}{hp:Hp}
theorem aw7 {len:E}{cap:Cp}{c:Nat}(h:aw8 U len cap c)(h0:0<=len.toI U):aG0 (len.toN U) c:=by
 cases cap with
 |ex e=>
  obtain⟨h1,h2,h3,h4⟩:=h;exact .inl ⟨h3,by rw[h2];show(len.toI U).toNat<=(e.toI U).toNat;omega⟩
 |ge=>
  obtain⟨lo,h1,h2,h3⟩:=h;exact .inr ⟨lo,h1,h2,by show(len.toI U).toNat<=_;omega⟩
 |un=>
  rcases h with⟨h1,h2,h3⟩| ⟨lo,h1,h2,h3⟩
  ·exact .inl ⟨h1,by rw[h2];exact bH7 _⟩
  ·exact .inr ⟨lo,h1,h2,by show(len.toI U).toNat<=_;omega⟩
theorem N5 {rows:Rows}{off len:Int}(h0:0<=off)(h1:0<=len)(h2:off+len<=rows.length):(part rows off len).length=len.toNat:=by
 unfold part;simp only[bI9,bK6];omega
theorem V8 {rows:Rows}{off len:Int}{r:Nat}{row:List Dat}(h:(part rows off len)[r]? =some row):rows[off.toNat+r]? =some row:=by
 unfold part at h;rw[bI7]at h;split at h
 ·rw[bJ3]at h;exact h
 ·cases h
theorem PV.of_rows {F : Nat → Option Blk} {e e' z z' o n i c : Nat} {cs : T Value} {rows : Rows} {off len : Int} (hF : F i = some (.cells cs n e' z')) (hz' : z' = z) (hr : v8 P F e z o n cs rows) (h0 : 0 ≤ off) (h1 : 0 ≤ len) (h2 : off + len ≤ rows.length) (hc : aG0 len.toNat c) :
  PV P F (.sl e) (.slice (some ⟨i,o+off.toNat*z,none⟩) len.toNat c) (.lst (part rows off len)):=by
 subst hz';obtain⟨g1,g2,g3,g4⟩:=hr;have hl:=N5 h0 h1 h2;have hx:∀(r k:Nat),∃x,∀row d,(part rows off len)[r]? =some row->row[k]? =some d->cs.get (o+off.toNat*z'+r*z'+k)=some x/\ ∀kd,(kf P e)[k]? =some kd->PV P F kd x d:=by
  intro r k;cases hrow:(part rows off len)[r]? with
  |none=>exact⟨undef,fun row d h=>by cases h⟩
  |some row=>
   cases hd:row[k]? with
   |none=>exact⟨undef,fun row' d h h'=>by cases h;rw[hd]at h';cases h'⟩
   |some d=>
    obtain⟨x,k1,k2⟩:=g4 _ k row d (V8 hrow) hd;refine⟨x,fun row' d' h h'=>?_⟩
    cases h;rw[hd]at h';cases h';exact⟨by rw[<-k1];congr 1;rw[bJ0];omega,k2⟩
 have:=PV.sl (P:=P) (F:=F) e i (o+off.toNat*z') c _ cs n z' (part rows off len) (fun r k=>(hx r k).choose) hF rfl ⟨by rw[hl];exact hc,.mk⟩
  (by
   rw[hl];have:off.toNat*z'+len.toNat*z'<=rows.length*z':=by rw[<-bJ0];exact bG7 z' (by omega)
   omega) g2 (fun r hr=>g3 r (bO1 (bO0 hr)))
  (fun r k row d h1 h2=>((hx r k).choose_spec row d h1 h2).1) (fun r k row kd d h1 h2 h3=>((hx r k).choose_spec row d h1 h2).2 kd h3)
 rw[hl]at this;exact this
theorem y7 {L off len:E}:OKp U (O2 U L off len) s fun e=>e.den U= .lst (part (L.toR U) (off.toI U) (len.toI U)):=by
 unfold O2;split
 ·rename_i m
  cases hb:decide (m=0)&&E.like len (v5 L)with
  |false=>exact OKp.ret rfl
  |true=>
   simp only[bH1];simp only[bF5,bH5]at hb;refine OKp.need.bind fun _ s1 _ _ h=>OKp.ret ?_
   have h:=ae9 h;rw[e9]at h;rw[al5]
   congr 1
   unfold part;have e1:((E.int m).toI U).toNat=0:=by rw[hb.1];rfl
   rw[e1,h,bJ5,bP1,List.take_length]
 ·exact OKp.ret rfl
theorem OKh.drop {b:Nat}:OKh P U (V7 b none) τ F s hp fun _ τ' F' hp'=>τ'=τ/\F'=F/\hp'=hp:=by
 intro Q hq hs;obtain⟨h1,h2⟩:=hs.drop b;exact⟨(),_,hq,τ,F,hp,h1,h2,rfl,rfl,rfl⟩
theorem OKh.freeze {b i o:Nat}{x:v9}(hb:s.get b=some x)(ht:τ b=some (some (i,o))){y:Blk}(hi:hp.m.get i=some y):OKh P U (V7 b none) τ F s hp fun _ τ' F' hp'=>τ'=τ/\hp'=hp/\F' i=some y:=by
 intro Q hq hs;obtain⟨F',h1,h2,h3,h4⟩:=hs.freeze hb ht hi;exact⟨(),_,hq,τ,F',hp,h3,h4,rfl,rfl,h2⟩
theorem OKh.fz {b:Nat}{L:E}{e z:Nat}(h:bj1 P U τ F (b,L,e,z)):OKh P U (mfz b L e z) τ F s hp fun _ τ' F' hp'=>τ'=τ/\F'=F/\hp'=hp:=by
 intro Q hq hs;refine⟨(),_,hq,τ,F,hp,?_,⟨hs.live,hs.inj,hs.frz,hs.lt,hs.flt,hs.new,hs.fc,fun r hr=>?_⟩,rfl,rfl,rfl⟩
 ·have h:=Ext.refl hs
  exact⟨h.t,h.f,h.nx,h.snx,h.st,h.low,h.hh,h.hf⟩
 ·rcases bJ2.1 hr with rfl|hr
  ·exact h
  ·exact hs.fz r hr
theorem V6 {f : Kd → SV → M E} {ks : List Kd} (hf : ∀ k a v τ F s hp, VD P U τ F a v → SD P U τ F s hp → OKh P U (f k a) τ F s hp fun e τ' F' hp' => τ' = τ ∧ hp' = hp ∧ PV P F' k v (e.den U)) :
  ∀ {l:List SV} {vs:List Value} {j:Nat} {τ:Tau} {F:Nat->Option Blk} {s:SS} {hp:Hp},VDL P U τ F l vs->SD P U τ F s hp->OKh P U (ar4 f ks j l) τ F s hp fun es τ' F' hp'=>τ'=τ/\hp'=hp/\es.length=l.length/\
   ∀(q:Nat) x e,vs[q]? =some x->es[q]? =some e-> ∃kd,ks[(j+q) % ks.length]? =some kd/\PV P F' kd x (e.den U)
 | [],vs,j,τ,F,s,hp,h,hs=>OKh.ret ⟨rfl,rfl,rfl,fun q x e _ h=>by simp at h⟩
 |a::l,vs,j,τ,F,s,hp,h,hs=>by
  obtain⟨y,ys,rfl,h1,h2⟩:=h.uncons;unfold ar4;split
  ·rename_i k hk
   refine(hf k a y τ F s hp h1 hs).bind fun e τ1 F1 s1 hp1 ex hs1 ⟨e1,e2,e3⟩=>?_
   subst e1;subst e2;refine(V6 hf (h2.mono ex.t ex.f) hs1).bind fun es τ2 F2 s2 hp2 ex2 hs2 ⟨e4,e5,e6,e7⟩=>OKh.ret ⟨e4,e5,by simp[e6],fun q x d hx hd=>?_⟩
   cases q with
   |zero=>simp at hx hd;subst hx;subst hd;exact⟨k,hk,e3.mono P ex2.f⟩
   |succ q=>
    simp only[bG5]at hx hd;obtain⟨kd,w1,w2⟩:=e7 q x d hx hd;exact⟨kd,by rw[<-w1];congr 2;omega,w2⟩
  ·exact OKh.fail
theorem S8 :∀(d:Nat) (k:Kd) (a:SV) (v:Value) (τ:Tau) (F:Nat->Option Blk) (s:SS) (hp:Hp),VD P U τ F a v->SD P U τ F s hp->OKh P U (aE3 P U d k a) τ F s hp fun e τ' F' hp'=>τ'=τ/\hp'=hp/\PV P F' k v (e.den U)
 |0,k,a,v,τ,F,s,hp,ha,hs=>OKh.fail
 |d+1,k,a,v,τ,F,s,hp,ha,hs=>by
  unfold aE3;split
  ·rename_i e he
   exact OKh.ret ⟨rfl,rfl,T4 ha he⟩
  ·split
   ·rename_i e b z off len cap _
    refine OKh.read ?_;split
    ·rename_i L e' z' ph hb
     cases hq:Nat.beq e e'&&Nat.beq z z' with
     |false=>exact OKh.fail
     |true=>
      simp only[bH1];simp only[bF5,bJ4]at hq;obtain⟨rfl,rfl⟩:=hq;refine OKh.bindp OKp.need fun _ s1 o1 hs1 p1=>?_
      have p1:=u7 p1;rw[i4,e9]at p1;have hb1:s1.get b=some (.rows L e z ph):=by rw[o1.get];exact hb
      rcases hs1.live b _ hb1 with⟨i,o,y,h1,h2,_,cs,n,rfl,h4,h5⟩| ⟨h1,L',e',z',ph',h2,h3,_⟩
      ·cases ha with
       |sl _ _ _ _ _ i' o' c h h0 h0' hc=>
        rw[h1]at h;simp only[bF4,bF6]at h;obtain⟨rfl,rfl⟩:=h;refine(OKh.freeze hb1 h1 h2).bind fun _ τ2 F2 s2 hp2 ex hs2 ⟨e1,e2,e3⟩=>?_
        subst e1;subst e2;have hrw:v8 P F2 e z o n cs (L.toR U):=⟨h4.1,h4.2.1,h4.2.2.1,fun r k row d w1 w2=>let⟨x,w3,w4⟩:=h4.2.2.2 r k row d w1 w2;⟨x,w3,fun kd w5=>(w4 kd w5).mono P ex.f⟩⟩
        refine(OKh.fz (.inl ⟨i,o,cs,n,h1,e3,hrw⟩)).bind fun _ τ3 F3 s3 hp3 ex3 hs3 ⟨f1,f2,f3⟩=>?_
        subst f1;subst f2;subst f3;refine OKh.bindp' y7 fun c' he=>⟨rfl,rfl,?_⟩
        rw[he];exact PV.of_rows e3 rfl hrw h0 h0' p1 (aw7 hc h0')
       |sl0 _ _ _ _ _ h h0 h0' hc=>rw[h1]at h;cases h
      ·cases ha with
       |sl _ _ _ _ _ i' o' c h h0 h0' hc=>rw[h1]at h;cases h
       |sl0 _ _ _ _ _ h h0 h0' hc=>
        refine OKh.drop.bind fun _ τ2 F2 s2 hp2 ex hs2 ⟨e1,e2,e3⟩=>?_
        subst e1;subst e2;subst e3;simp only[v9.rows.injEq]at h2;obtain⟨rfl,_⟩:=h2;refine(OKh.fz (.inr ⟨h1,h3⟩)).bind fun _ τ3 F3 s3 hp3 ex3 hs3 ⟨f1,f2,f3⟩=>?_
        subst f1;subst f2;subst f3;refine OKh.bindp' y7 fun c' he=>⟨rfl,rfl,?_⟩
        rw[he,h3];have:part [] (off.toI U) (len.toI U)=[]:=by simp[part]
        rw[this];exact .nils _
    ·rename_i l e' z' hb
     cases hq:Nat.beq e e'&&Nat.beq z z'&&Nat.beq z (kf P e).length&&Nat.beq (l.length/z*z) l.length with
     |false=>exact OKh.fail
     |true=>
      simp only[bH1];simp only[bF5,bJ4]at hq;obtain⟨⟨⟨rfl,rfl⟩,hz⟩,hN⟩:=hq;refine OKh.bindp OKp.need fun _ s1 o1 hs1 p1=>?_
      have p1:=u7 p1;rw[i4]at p1;simp only[w9]at p1;have hb1:s1.get b=some (.cells l e z):=by rw[o1.get];exact hb
      rcases hs1.live b _ hb1 with⟨i,o,y,h1,h2,_,cs,n,rfl,h4,h5⟩| ⟨h1,L',e',z',ph',h2,h3,_⟩
      ·cases ha with
       |sl _ _ _ _ _ i' o' c h h0 h0' hc=>
        rw[h1]at h;simp only[bF4,bF6]at h;obtain⟨rfl,rfl⟩:=h;refine(OKh.freeze hb1 h1 h2).bind fun _ τ2 F2 s2 hp2 ex hs2 ⟨e1,e2,e3⟩=>?_
        subst e1;subst e2;obtain⟨vs,v1,v2,v3⟩:=B2 (c:=cs) (R:=fun j x=>∀a,l[j]? =some a->VD P U τ2 F2 a x) l.length o 0 fun j hj=>by
         have:l[j]? =some l[j]:=by simp[hj]
         obtain⟨x,k1,k2⟩:=h5 j _ this;exact⟨x,k1,fun a ha=>by rw[bI6,this]at ha;cases ha;exact k2.mono ex.t ex.f⟩
        have hv:VDL P U τ2 F2 l vs:=⟨v2.symm,fun j a x ha hx=>v3 j x hx a (by rw[bI6];exact ha)⟩
        refine(V6 (fun k a v τ F s hp=>S8 d k a v τ F s hp) hv hs2).bind fun es τ3 F3 s3 hp3 ex3 hs3 ⟨f1,f2,f3,f4⟩=>?_
        subst f1;subst f2;have hF3:F3 i=some (.cells cs n e z):=ex3.f _ _ e3;have hrows:v8 P F3 e z o n cs ((E.op (.rows (l.length/z) z) es).toR U):=by
         refine U5 hz (by rw[f3,hN]) (by rw[f3];exact h4) fun j x hx=>?_
         have hj:j<l.length:=by have:=(bF7.1 hx).1;omega
         have hvj:vs[j]? =some (vs[j]'(by omega)):=by simp[v2,hj]
         obtain⟨kd,w1,w2⟩:=f4 j _ _ hvj hx;refine⟨_,by rw[<-(j7 v1).2 j hj];exact hvj,fun kd' hkd=>?_⟩
         rw[bI6,<-hz,hkd,bF4]at w1;subst w1;exact w2
        refine(OKh.fz (.inl ⟨i,o,cs,n,h1,hF3,hrows⟩)).bind fun _ τ4 F4 s4 hp4 ex4 hs4 ⟨g1,g2,g3⟩=>?_
        subst g1;subst g2;subst g3;refine OKh.bindp' y7 fun c' he=>⟨rfl,rfl,?_⟩
        rw[he];refine PV.of_rows hF3 rfl hrows h0 h0' ?_ (aw7 hc h0');have:((E.op (.rows (l.length/z) z) es).toR U).length=l.length/z:=by
         show(chunk z (l.length/z) _).length=_;rw[G6]
        rw[this];exact p1
       |sl0 _ _ _ _ _ h h0 h0' hc=>rw[h1]at h;cases h
      ·cases h2
    ·exact OKh.fail
    ·exact OKh.fail
    ·exact OKh.fail
    ·split
     ·rename_i L e' z' hb
      cases hq:Nat.beq e e'&&Nat.beq z z' with
      |false=>exact OKh.fail
      |true=>
       simp only[bH1];simp only[bF5,bJ4]at hq;obtain⟨rfl,rfl⟩:=hq;refine OKh.bindp OKp.need fun _ s1 o1 hs1 p1=>?_
       have p1:=u7 p1;rw[i4,e9]at p1;refine OKh.bindp' y7 fun c' he=>⟨rfl,rfl,?_⟩
       rw[he]
       rcases hs.fz _ (U1 hb)with⟨i,o,cs,n,h1,h2,h4⟩| ⟨h1,h2⟩
       ·cases ha with
        |sl _ _ _ _ _ i' o' c h h0 h0' hc=>
         rw[h1]at h;simp only[bF4,bF6]at h;obtain⟨rfl,rfl⟩:=h;exact PV.of_rows h2 rfl h4 h0 h0' p1 (aw7 hc h0')
        |sl0 _ _ _ _ _ h h0 h0' hc=>rw[h1]at h;cases h
       ·cases ha with
        |sl _ _ _ _ _ i' o' c h h0 h0' hc=>rw[h1]at h;cases h
        |sl0 _ _ _ _ _ h h0 h0' hc=>
         have h2':L.toR U=[]:=h2;have:part [] (off.toI U) (len.toI U)=[]:=by simp[part]
         rw[h2',this];exact .nils _
     ·exact OKh.fail
   ·exact OKh.fail
where
 OKh.bindp' {m:M E} {R:E->Prop} {R':E->Tau->(Nat->Option Blk)->Hp->Prop} {τ:Tau} {F:Nat->Option Blk} {s:SS} {hp:Hp} (h:OKp U m s R) (hr:∀e,R e->R' e τ F hp):OKh P U m τ F s hp R':=
  (h.up (P:=P) (τ:=τ) (F:=F) (hp:=hp)).mono fun a τ' F' hp' _ _ ⟨e1,e2,e3,e4⟩=>by subst e1;subst e2;subst e3;exact hr a e4
end
end Go.Sx
namespace Go.Sx
open Go.Xe
section
variable {P :Program}{U:Nat->List Dat->Dat}{τ:Tau}{F:Nat->Option Blk}{s:SS}{hp:Hp}
theorem aP4 {z r k r' k':Nat}(hk:k<z)(hk':k'<z)(h:r*z+k=r'*z+k'):r=r'/\k=k':=by
 have h1:(r*z+k)/z=r:=by rw[Nat.mul_comm,Nat.mul_add_div (by omega),Nat.div_eq_of_lt hk];omega
 have h2:(r'*z+k')/z=r':=by rw[Nat.mul_comm,Nat.mul_add_div (by omega),Nat.div_eq_of_lt hk'];omega
 grind
theorem v8.set1 {F : Nat → Option Blk} {e z o n : Nat} {cs : T Value} {rows : Rows} (h : v8 P F e z o n cs rows) {r : Int} {j : Nat} (hj : j < z) {x : Value} {d : Dat} (hx : ∀ kd, (kf P e)[j]? = some kd → PV P F kd x d) :
  v8 P F e z o n (cs.set (o+r.toNat*z+j) (some x)) (setAt rows r j d):=by
 obtain⟨g1,g2,g3,g4⟩:=h;unfold setAt;refine⟨by simpa using g1,g2,fun row hr=>?_,fun r' k row d' hr hk=>?_⟩
 ·obtain⟨q,hq⟩:=bQ9 hr
  grind
 ·rw[List.getElem?_modify]at hr
  cases ho:rows[r']? with
  |none=>grind
  |some row0=>
   have hl:=g3 row0 (bG4 ho);rw[ho]at hr
   by_cases e:r.toNat=r'
   ·simp only[e,bO6,Option.map_eq_map,bJ9,bF4]at hr
    rw[<-hr,bQ8]at hk
    by_cases ek:j=k
    ·subst ek
     rw[bH6 rfl,bH6 (by rw[hl];exact hj),bF4]at hk
     refine⟨x,?_,fun kd hkd=>by rw[<-hk];exact hx kd hkd⟩
     rw[T.get_set,bH6 (by rw[e])]
    ·rw[bH4 ek]at hk
     obtain⟨y,k1,k2⟩:=g4 r' k row0 d' ho hk;have hkz:k<z:=by grind
     refine⟨y,?_,k2⟩;rw[T.get_set,bH4]
     ·exact k1
     ·grind
   ·simp only[e,bO5,Option.map_eq_map,bJ9,bF4]at hr
    subst hr;obtain⟨y,k1,k2⟩:=g4 r' k row0 d' ho hk;have hkz:k<z:=by grind
    refine⟨y,?_,k2⟩;rw[T.get_set,bH4]
    ·exact k1
    ·intro h
     exact e (aP4 hkz hj (show r'*z+k=r.toNat*z+j by omega)).1.symm
theorem ap4 {F : Nat → Option Blk} {e z o n : Nat} {row : E} (h0 : 0 ≤ row.toI U) : ∀ {es : List E} {vs : List Value} {L : E} {cs : T Value} {fld : Nat}, v8 P F e z o n cs (L.toR U) → es.length = vs.length → fld + es.length ≤ z →
  (∀(q:Nat) x d,vs[q]? =some x->es[q]? =some d-> ∀kd,(kf P e)[fld+q]? =some kd->PV P F kd x (d.den U))->v8 P F e z o n (fill cs (o+row.toN U*z+fld) vs) ((aN0 L row fld es).toR U)
 | [],[],L,cs,fld,h,_,_,_=>h
 |d::es,x::vs,L,cs,fld,h,hl,hf,hp=>by
  simp only[fill,aN0];have h1:=h.set1 (r:=row.toI U) (j:=fld) (x:=x) (d:=d.den U) (by simp at hf;omega) (fun kd hkd=>hp 0 x d rfl rfl kd hkd)
  have h2:=ap4 (e:=e) (n:=n) h0 (es:=es) (vs:=vs) (L:= .op (.upd fld) [L,row,d]) (fld:=fld+1) h1 (by simpa using hl) (by simp at hf;omega)
   (fun q y w hy hw kd hkd=>hp (q+1) y w (by simpa using hy) (by simpa using hw) kd (by rw[<-hkd];congr 1;omega))
  exact h2
 | [],_::_,_,_,_,_,hl,_,_=>by simp at hl
 |_::_,[],_,_,_,_,hl,_,_=>by simp at hl
theorem bA1 {a:SV}{v:Value}(h:VD P U τ F a v)(e:aD9 a=true):v.oneCell'=true:=by
 cases h with
 |any=>simp[aD9]at e
 |agg=>simp[aD9]at e
 |tup=>simp[aD9]at e
 |lst t L clip v h hc=>generalize L.toR U=rows at h;cases h<;>rfl
 |rpq x v h=>generalize x.toI U=n at h;cases h<;>rfl
 |_=>rfl
theorem aS8 {l:List SV}{vs:List Value}(h:VDL P U τ F l vs)(e:l.all aD9=true):vs.all Value.oneCell'=true:=by
 rw[bI4]at e⊢;intro x hx;obtain⟨i,hi⟩:=bQ9 hx;have hil:i<l.length:=by have:=(bF7.1 hi).1;rw[h.1];exact this
 have ha:l[i]? =some l[i]:=by simp[hil]
 exact bA1 (h.2 i _ _ ha hi) (e _ (bG4 ha))
theorem ag0 {t : TypeId} {ti : TypeInfo} (hti : P.info? t = some ti) {x : Value} (hx : x.cells.toList.length = ti.size) (ho : x.cells.toList.all Value.oneCell' = true) {i o n e z : Nat} {c : T Value} (hg : hp.m.get i = some (.cells c n e z)) (hn : o + ti.size ≤ n) :
  N9 P hp t (.pointer (some ⟨i,o,none⟩)) x=some {hp with m:=hp.m.set i (some (.cells (fill c o x.cells.toList) n e z))}:=by
 simp only[N9,hg,hti];rw[show(Nat.beq x.cells.toList.length ti.size&&Nat.ble (o+ti.size) n&&x.cells.toList.all Value.oneCell')=true by
  simp only[bF5,bJ4,bK8];exact⟨⟨hx,hn⟩,ho⟩]
 simp only[bH1,aq3,T.force_eq]
theorem OKh.change {b i o : Nat} {x x' : v9} (hb : s.get b = some x) (ht : τ b = some (some (i, o))) {y : Blk} {m : T Blk} (hk : ∀ j, j ≠ i → m.get j = hp.m.get j) (hi : m.get i = some y) (hd : BD P U τ F o x' y) :
  OKh P U (V7 b (some x')) τ F s hp fun _ τ' F' hp'=>τ'=τ/\F'=F/\hp'= {hp with m:=m}:=by
 intro Q hq hs;obtain⟨h1,h2⟩:=hs.change (hp':= {hp with m:=m}) hb ht rfl hk hi hd
 exact⟨(),_,hq,τ,F,_,h1,h2,rfl,rfl,rfl⟩
theorem ac9 {b:Nat}(hs:SD P U τ F s hp):OKh P U (ay5 P b) τ F s hp fun _ τ' F' hp'=>τ'=τ/\F'=F/\hp'=hp:=by
 unfold ay5;refine OKh.read ?_;split
 ·rename_i l e z hb
  split
  ·rename_i L hL
   rcases hs.live b _ hb with⟨i,o,y,h1,h2,_,cs,n,rfl,h4,h5⟩| ⟨h1,L',e',z',ph',h2,h3,_⟩
   ·have hr:=ao9 hL h4 h5
    refine(OKh.change (m:=hp.m) (x':= .rows L e z (.int (l.length/z:Nat))) hb h1 (fun _ _=>rfl) h2 ⟨cs,n,rfl,hr,?_⟩).mono fun _ τ' F' hp' _ _ ⟨e1,e2,e3⟩=>⟨e1,e2,e3⟩
    have e1:(E.int ((l.length/z:Nat):Int)).toN U=l.length/z:=bJ5 _;rw[e1];have:l.length/z*z<=l.length:=Nat.div_mul_le_self _ _;omega
   ·cases h2
  ·exact OKh.fail
 ·exact OKh.ret ⟨rfl,rfl,rfl⟩
theorem aH8 {rows : Rows} {a : Int} {l : Rows} (h1 : a ≤ rows.length) {r : Nat} {row : List Dat} (h : (Sx.over rows a l)[r]? = some row) :
  (r<a.toNat/\rows[r]? =some row)\/(a.toNat<=r/\r<a.toNat+l.length/\l[r-a.toNat]? =some row)\/(a.toNat+l.length<=r/\rows[r]? =some row):=by
 unfold Sx.over at h;have hl:(rows.take a.toNat).length=a.toNat:=by grind
 by_cases c1:r<a.toNat
 ·grind
 ·by_cases c2:r<a.toNat+l.length
  ·grind
  ·rw[bG8,bG2 (by omega),hl,bG2 (by omega),bJ3]at h
   grind
theorem aS9 {rows:Rows}{a:Int}{l:Rows}(h1:a<=rows.length):(Sx.over rows a l).length=Nat.max rows.length (a.toNat+l.length):=by
 unfold Sx.over
 grind
theorem v8.over {e z o k : Nat} {cs : T Value} {rows l : Rows} {news : List Value} (hr : v8 P F e z o k cs rows) {a : Int} (h1 : a ≤ rows.length) (hl : ∀ r ∈ l, r.length = z) (hn : news.length = l.length * z) (hk : o + (a.toNat + l.length) * z ≤ k)
  (hx:∀(r j:Nat) (row:List Dat) (d:Dat),l[r]? =some row->row[j]? =some d-> ∃x,news[r*z+j]? =some x/\ ∀kd,(kf P e)[j]? =some kd->PV P F kd x d):v8 P F e z o k (fill cs (o+a.toNat*z) news) (Sx.over rows a l):=by
 obtain⟨g1,g2,g3,g4⟩:=hr;refine⟨?_,g2,fun r h=>?_,fun r j row d h h'=>?_⟩
 ·rw[aS9 h1]
  grind
 ·obtain⟨q,hq⟩:=bQ9 h
  rcases aH8 h1 hq with⟨_,h⟩| ⟨_,_,h⟩| ⟨_,h⟩
  ·grind
  ·grind
  ·grind
 ·rw[i8,hn]
  rcases aH8 h1 h with⟨c,h⟩| ⟨c1,c2,h⟩| ⟨c,h⟩
  ·have hj:j<z:=by have:=g3 _ (bG4 h);have:=(bF7.1 h').1;omega
   have:r*z+z<=a.toNat*z:=by rw[<-bM1];exact bG7 z c
   grind
  ·have hj:j<z:=by have:=hl _ (bG4 h);have:=(bF7.1 h').1;omega
   obtain⟨x,k1,k2⟩:=hx _ j row d h h';have e1:r*z=a.toNat*z+(r-a.toNat)*z:=by rw[<-bJ0];congr 1;omega
   grind
  ·have hj:j<z:=by have:=g3 _ (bG4 h);have:=(bF7.1 h').1;omega
   have:(a.toNat+l.length)*z<=r*z:=bG7 z c
   grind
theorem ah1 {t : TypeId} {ti : TypeInfo} (hti : P.info? t = some ti) {b z fld : Nat} {row : E} {v x : Value} {vs : List SV} (ha : VD P U τ F (.ptr b z row fld) v) (hv : VDL P U τ F vs x.cells.toList) (hx : x.cells.toList.length = ti.size)
  (ho:x.cells.toList.all Value.oneCell'=true) (hs:SD P U τ F s hp):OKh P U (Z2 P U b z row fld vs) τ F s hp fun a _ _ hp'=>a= .tup []/\N9 P hp t v x=some hp':=by
 unfold Z2;refine OKh.read ?_;split
 ·rename_i L0 e z0 ph0 hb0
  cases hq:Nat.ble (fld+vs.length) z&&Nat.beq z (kf P e).length with
  |false=>exact OKh.fail
  |true=>
   simp only[bH1];simp only[bF5,bJ4,bK8]at hq;obtain⟨hf,hz⟩:=hq;refine(V6 (ks:=kf P e) (j:=fld) (fun k a v τ F s hp=>S8 20 k a v τ F s hp) hv hs).bind fun es τ1 F1 s1 hp1 ex hs1 ⟨e1,e2,e3,e4⟩=>OKh.read ?_
   subst e1;subst e2;split
   ·rename_i L e' z' ph hb
    cases hq:Nat.beq e e'&&Nat.beq z z' with
    |false=>exact OKh.fail
    |true=>
     simp only[bH1];simp only[bF5,bJ4]at hq;obtain⟨rfl,rfl⟩:=hq;cases hT:phT ph L&&Nat.beq z 1&&Nat.beq fld 0&&Nat.beq es.length 1 with
     |true=>
      simp only[bH1];simp only[bF5,bJ4]at hT;obtain⟨⟨⟨_,rfl⟩,rfl⟩,hes⟩:=hT;obtain⟨e0,rfl⟩:∃e0,es=[e0]:=by
       match es,hes with
       | [e0],_=>grind
      refine OKh.bindp OKp.need fun _ s2 o2 hs2 p1=>OKh.bindp OKp.need fun _ s3 o3 hs3 p2=>?_
      have p1:=u7 p1;have p2:=y8 p2;rw[e9]at p1;have hb2:s3.get b=some (.rows L e 1 ph):=by rw[o3.get,o2.get];exact hb
      have ha':=ha.mono ex.t ex.f
      rcases hs3.live b _ hb2 with⟨i,o,y,h1,h2,_,cs,n,rfl,h4,h5⟩| ⟨h1,L',e',z',ph',h2,h3,_⟩
      ·cases ha' with
       |ptr _ _ _ _ i' o' h h0=>
        rw[h1]at h;simp only[bF4,bF6]at h;obtain⟨rfl,rfl⟩:=h;have hph:row.toN U+1<=ph.toN U:=by grind
        have hxl:x.cells.toList.length=1:=by rw[<-hv.1,<-e3];rfl
        have hbound:o+row.toN U*1+0+ti.size<=n:=by grind
        have hst:=ag0 hti hx ho h2 hbound;have hrows:=v8.over (P:=P) (F:=F1) (news:=x.cells.toList) (l:=[[e0.den U]]) (a:=row.toI U) h4 p1 (fun r hr=>by simp at hr;rw[hr];rfl) (by rw[hxl];rfl)
         (by show o+(row.toN U+1)*1<=n;omega) (fun r j q d hr hd=>by
          have hr0:r=0:=by grind
          subst hr0;simp at hr;subst hr;have hj0:j=0:=by grind
          subst hj0;simp at hd;subst hd;obtain⟨y,hy⟩:∃y,x.cells.toList[0]? =some y:=⟨_,bG6 (by omega)⟩
          refine⟨y,hy,fun kd hkd=>?_⟩
          obtain⟨kd',w1,w2⟩:=e4 0 y e0 hy rfl;rw[<-hz,hkd,bF4]at w1;subst w1;exact w2)
        refine(OKh.change (x':= .rows (.op .over [L,row,.op (.rows 1 1) [e0]]) e 1 ph) (y:= .cells (fill cs (o+row.toN U*1+0) x.cells.toList) n e 1) (m:=hp1.m.set i (some (.cells (fill cs (o+row.toN U*1+0) x.cells.toList) n e 1))) hb2 h1 (fun j hj=>by rw[T.get_set,bH4 hj]) (by rw[T.get_set,bH6 rfl]) ⟨_,n,rfl,hrows,h5⟩).bind fun _ τ3 F3 s3 hp3 _ _ ⟨w1,w2,w3⟩=>OKh.ret ⟨rfl,?_⟩
        grind
      ·cases ha' with
       |ptr _ _ _ _ i' o' h h0=>grind
     |false=>
     simp only[bH2];refine OKh.bindp OKp.need fun _ s2 o2 hs2 p1=>?_
     have p1:=y8 p1;rw[e9]at p1;have hb2:s2.get b=some (.rows L e z ph):=by rw[o2.get];exact hb
     have ha':=ha.mono ex.t ex.f
     rcases hs2.live b _ hb2 with⟨i,o,y,h1,h2,_,cs,n,rfl,h4,h5⟩| ⟨h1,L',e',z',ph',h2,h3,_⟩
     ·cases ha' with
      |ptr _ _ _ _ i' o' h h0=>
       rw[h1]at h;simp only[bF4,bF6]at h;obtain⟨rfl,rfl⟩:=h;have hrn:row.toN U<(L.toR U).length:=by grind
       have hle:row.toN U*z+z<=(L.toR U).length*z:=by rw[<-bM1];exact bG7 z hrn
       have g1:=h4.1;have hbound:o+row.toN U*z+fld+ti.size<=n:=by rw[<-hx,<-hv.1];omega
       have hst:=ag0 hti hx ho h2 hbound;have hrows:=ap4 (P:=P) (F:=F1) h0 (es:=es) (vs:=x.cells.toList) (fld:=fld) h4 (by rw[e3,hv.1]) (by rw[e3];exact hf) (fun q y d hy hd kd hkd=>by
        obtain⟨kd',w1,w2⟩:=e4 q y d hy hd;have hql:q<es.length:=(bF7.1 hd).1;rw[<-hz,bP9 (by omega),hkd,bF4]at w1
        subst w1;exact w2)
       refine(OKh.change (x':= .rows (aN0 L row fld es) e z ph) (m:=hp1.m.set i (some (.cells (fill cs (o+row.toN U*z+fld) x.cells.toList) n e z))) hb2 h1 (fun j hj=>by rw[T.get_set,bH4 hj]) (by rw[T.get_set,bH6 rfl]) ⟨_,n,rfl,hrows,h5⟩).bind fun _ τ3 F3 s3 hp3 _ _ ⟨w1,w2,w3⟩=>OKh.ret ⟨rfl,?_⟩
       grind
     ·cases ha' with
      |ptr _ _ _ _ i' o' h h0=>grind
   ·exact OKh.fail
 ·exact OKh.fail
theorem aB4 {row:E}:∀ {es:List E} {L:E} {fld:Nat},((aN0 L row fld es).toR U).length=(L.toR U).length
 | [],L,fld=>rfl
 |d::es,L,fld=>by
  unfold aN0;rw[aB4 (es:=es)];show(setAt (L.toR U) _ fld _).length=_;simp[setAt]
theorem bc8 {t : TypeId} {ti : TypeInfo} (hti : P.info? t = some ti) {fld : Nat} {row : E} {v x : Value} {vs : List SV} (ha : VD P U τ F (.rp row fld) v) (hv : VDL P U τ F vs x.cells.toList) (hx : x.cells.toList.length = ti.size)
  (ho:x.cells.toList.all Value.oneCell'=true) (hs:SD P U τ F s hp):OKh P U (aM7 P U row fld vs) τ F s hp fun a _ _ hp'=>a= .tup []/\N9 P hp t v x=some hp':=by
 unfold aM7;refine OKh.read ?_;split
 ·rename_i b0 L0 z hr0
  obtain⟨_,_,_,_,_,g0⟩:=af1 hs hr0;cases hq:Nat.ble (fld+vs.length) z with
  |false=>exact OKh.fail
  |true=>
   simp only[bH1];have hf:=bF8 hq;have hz:=g0.2.1;refine(V6 (ks:=kf P rgT) (j:=fld) (fun k a v τ F s hp=>S8 20 k a v τ F s hp) hv hs).bind fun es τ1 F1 s1 hp1 ex hs1 ⟨e1,e2,e3,e4⟩=>OKh.read ?_
   subst e1;subst e2;split
   ·rename_i b L z' hr
    cases hq:Nat.beq z z' with
    |false=>exact OKh.fail
    |true=>
     rw[bH1];have:=bF9 hq;subst this;refine OKh.bindp OKp.need fun _ s2 o2 hs2 p1=>?_
     have p1:=y8 p1;rw[e9]at p1;have hr2:aE0 s2=some (b,L,z):=by
      unfold aE0 at hr⊢;rw[o2.h];split at hr
      ·rename_i b' hb'
       rw[o2.get];exact hr
      ·cases hr
     obtain⟨hb2,h1,_,cs,h2,h4⟩:=af1 hs2 hr2;cases ha with
     |rp _ _ h0=>
      have hrn:row.toN U<(L.toR U).length:=by grind
      have hrows:=ap4 (P:=P) (F:=F1) h0 (es:=es) (vs:=x.cells.toList) (fld:=fld) h4 (by rw[e3,hv.1]) (by rw[e3];exact hf) (fun q y d hy hd kd hkd=>by
       obtain⟨kd',w1,w2⟩:=e4 q y d hy hd;have hql:q<es.length:=(bF7.1 hd).1;rw[<-hz,bP9 (by omega),hkd,bF4]at w1
       subst w1;exact w2)
      rw[bI6]at hrows;have hst:N9 P hp1 t (.pointer (some ⟨row.toN U,fld,some 1⟩)) x=some (hp1.setR (fill cs (row.toN U*z+fld) x.cells.toList) (L.toR U).length rgT z):=by
       simp only[N9,aO8,h2,hti];rw[show(Nat.beq x.cells.toList.length ti.size&&Nat.ble (row.toN U+1) (L.toR U).length&&Nat.ble (fld+ti.size) z&&x.cells.toList.all Value.oneCell')=true by
        simp only[bF5,bJ4,bK8];exact⟨⟨⟨hx,hrn⟩,by rw[<-hx,<-hv.1];omega⟩,ho⟩]
       rfl
      refine(OKh.change (x':= .reg b (aN0 L row fld es) z) (m:=hp1.m.set 0 (some (.reg (fill cs (row.toN U*z+fld) x.cells.toList) (L.toR U).length rgT z))) hb2 h1 (fun j hj=>by rw[T.get_set,bH4 hj]) (by rw[T.get_set,bH6 rfl]) ⟨rfl,h1,_,by rw[aB4],by rw[aB4];exact hrows⟩).bind fun _ τ3 F3 s3 hp3 _ _ ⟨w1,w2,w3⟩=>OKh.ret ⟨rfl,?_⟩
      rw[hst,w3];rfl
   ·exact OKh.fail
 ·exact OKh.fail
theorem aV1 {l:List SV}{vs:List Value}(hv:VDL P U τ F l vs)(hs:SD P U τ F s hp):OKh P U (bi2 P U l) τ F s hp fun a τ' F' hp'=>∃v,aC9 hp vs=some (v,hp')/\VD P U τ' F' a v:=by
 unfold bi2;refine OKh.read ?_;split
 ·rename_i b0 L0 z hr0
  obtain⟨_,_,_,_,_,g0⟩:=af1 hs hr0;cases hq:Nat.beq l.length z&&Nat.ble 1 z&&l.all aD9 with
  |false=>exact OKh.fail
  |true=>
   simp only[bH1];simp only[bF5,bJ4,bK8]at hq;obtain⟨⟨hl,hz1⟩,_⟩:=hq;have hz:=g0.2.1;refine(V6 (ks:=kf P rgT) (j:=0) (fun k a v τ F s hp=>S8 20 k a v τ F s hp) hv hs).bind fun es τ1 F1 s1 hp1 ex hs1 ⟨e1,e2,e3,e4⟩=>OKh.read ?_
   subst e1;subst e2;split
   ·rename_i b L z' hr
    cases hq:Nat.beq z z' with
    |false=>exact OKh.fail
    |true=>
     rw[bH1];have:=bF9 hq;subst this;obtain⟨hb2,h1,_,cs,h2,h4⟩:=af1 hs1 hr;have hvl:vs.length=z:=by rw[<-hv.1];exact hl
     have hrow:(E.op (.rows 1 z) es).toR U=[es.map (E.den U)]:=by
      show(Dat.lst (chunk z 1 (E.dens U es))).rows=_;rw[E.dens_eq];show [(es.map (E.den U)).take z]=_;rw[bK3 (by simp;omega)]
     have hlen:((B3 L (.op (.rows 1 z) es)).toR U).length=(L.toR U).length+1:=by rw[G8,hrow];simp
     have hover:Sx.over (L.toR U) ((L.toR U).length:Int) [es.map (E.den U)]=L.toR U++ [es.map (E.den U)]:=by
      unfold Sx.over;rw[bJ5,List.take_length,List.drop_eq_nil_of_le (by simp),bO4]
     have hrows:=v8.over (P:=P) (F:=F1) (k:=((L.toR U).length+1)*z) (news:=vs) (l:=[es.map (E.den U)]) (a:=((L.toR U).length:Int)) ⟨by rw[bJ0];have:=h4.1;omega,h4.2.1,h4.2.2.1,h4.2.2.2⟩ (bL8 _)
      (fun r hr=>by simp at hr;rw[hr];simp;omega) (by rw[hvl];simp) (by rw[bJ5];simp) (fun r j q d hr hd=>by
       have hr0:r=0:=by grind
       subst hr0;simp at hr;subst hr;rw[bK4]at hd;cases he:es[j]? with
       |none=>grind
       |some e0=>
        rw[he,bJ9,bF4]at hd;have hj:j<es.length:=(bF7.1 he).1;obtain⟨y,hy⟩:∃y,vs[j]? =some y:=⟨_,bG6 (by omega)⟩
        refine⟨y,by rw[bO3,bI6];exact hy,fun kd hkd=>?_⟩
        obtain⟨kd',w1,w2⟩:=e4 j y e0 hy he;rw[<-hz,bI6,bP9 (by omega),hkd,bF4]at w1
        subst w1;rw[<-hd];exact w2)
     rw[hover,bI6,bJ5]at hrows;have hst:aC9 hp1 vs=some (.pointer (some ⟨(L.toR U).length,0,some 1⟩),hp1.setR (fill cs ((L.toR U).length*z) vs) ((L.toR U).length+1) rgT z):=by
      simp only[aC9,h2]
      simp_all
     refine(OKh.change (x':= .reg b (B3 L (.op (.rows 1 z) es)) z) (m:=hp1.m.set 0 (some (.reg (fill cs ((L.toR U).length*z) vs) ((L.toR U).length+1) rgT z))) hb2 h1 (fun j hj=>by rw[T.get_set,bH4 hj]) (by rw[T.get_set,bH6 rfl]) ⟨rfl,h1,_,by rw[hlen],by rw[hlen,G8,hrow];exact hrows⟩).bind fun _ τ3 F3 s3 hp3 _ _ ⟨w1,w2,w3⟩=>OKh.ret ⟨.pointer (some ⟨(L.toR U).length,0,some 1⟩),hst.trans (by rw[w3];rfl),?_⟩
     have:=VD.rp (P:=P) (U:=U) (τ:=τ3) (F:=F3) (v5 L) 0 (by rw[e9];omega)
     rw[show(v5 L).toN U=(L.toR U).length by show((v5 L).toI U).toNat=_;rw[e9];omega]at this
     exact this
   ·exact OKh.fail
 ·exact OKh.fail
theorem ag9 :∀ds:List Dat,(chunk 1 ds.length ds).length=ds.length
 | []=>rfl
 |d::ds=>by simp[chunk,ag9 ds]
theorem br4 {k:IntKind}{es:List E}{row w:E}{j:Nat}{c:SV}(h0:0<=row.toI U)(hr:row.toN U<es.length)(h:(hset k es row w)[j]? =some c):∃e,c= .int k e/\e.toI U=if j=row.toN U then w.toI U else(es.getD j (.int 0)).toI U:=by
 unfold hset at h;rw[bK4]at h
 by_cases hj:j<es.length
 ·rw[List.getElem?_range hj]at h
  cases h;refine⟨_,rfl,?_⟩;show((aQ8 0 _ _).den U).toInt=_;rw[al3];show(A1 (Sx.over (chunk 1 es.length (E.dens U es)) (row.toI U) (chunk 1 1 [w.den U])) ((j:Nat):Int) 0).toInt=_;have hl:es.length=(E.dens U es).length:=by rw[E.dens_eq,bH3]
  have hg:=T9 (E.dens U es);rw[<-hl]at hg;have hcl:=ag9 (E.dens U es);rw[<-hl]at hcl;have hro:row.toN U=(row.toI U).toNat:=rfl;unfold A1 Sx.over;rw[bJ5,bG8,bI5 (l:=_++_)];have ht:((chunk 1 es.length (E.dens U es)).take (row.toI U).toNat).length=row.toN U:=by grind
  by_cases e:j=row.toN U
  ·rw[bH6 e,bG2 (by omega),ht,e,bQ4];rfl
  ·rw[bH4 e]
   have key:(List.take (row.toI U).toNat (chunk 1 es.length (E.dens U es))++(chunk 1 1 [w.den U]++List.drop ((row.toI U).toNat+(chunk 1 1 [w.den U]).length) (chunk 1 es.length (E.dens U es))))[j]? =(chunk 1 es.length (E.dens U es))[j]? :=by
    by_cases c:j<row.toN U
    ·grind
    ·rw[bG2 (by omega),ht,bG2 (by show 1<=_;omega),bJ3]
     show _[(row.toI U).toNat+1+(j-row.toN U-1)]? =_
     grind
   rw[key,hg,E.dens_eq,bK4,bI5 (l:=es),bG6 hj];rfl
 ·grind
theorem bc9 {t : TypeId} {ti : TypeInfo} (hti : P.info? t = some ti) {b e z' fld : Nat} {l : List SV} {row : E} {v x : Value} {vs : List SV} (hb : s.get b = some (.cells l e z')) (hf : fld ≤ l.length) (ha : VD P U τ F (.ptr b 1 row fld) v) (hv : VDL P U τ F vs x.cells.toList) (hx : x.cells.toList.length = ti.size)
  (ho:x.cells.toList.all Value.oneCell'=true) (hs:SD P U τ F s hp):OKh P U (aM8 U b l e z' row fld vs) τ F s hp fun a _ _ hp'=>a= .tup []/\N9 P hp t v x=some hp':=by
 unfold aM8;split
 ·rename_i k w
  split
  ·rename_i es hes
   obtain⟨q1,q2⟩:=ao5 hes;refine OKh.bindp OKp.need fun _ s2 o2 hs2 hlt=>?_
   have hlt:=y8 hlt;simp only[w9]at hlt;have hb2:s2.get b=some (.cells l e z'):=by rw[o2.get];exact hb
   rcases hs2.live b _ hb2 with⟨i,o,y,h1,h2,_,cs,n,rfl,h4,h5⟩| ⟨h1,L',e',z'',ph',h2,h3,_⟩
   ·cases ha with
    |ptr _ _ _ _ i' o' h h0=>
     rw[h1]at h;simp only[bF4,bF6]at h;obtain⟨rfl,rfl⟩:=h;have hr:row.toN U<es.length:=by grind
     rw[bK6]at q1;have hxl:x.cells.toList.length=1:=by rw[<-hv.1];rfl
     have hst:=ag0 hti hx ho h2 (o:=o+row.toN U*1+fld) (by rw[<-hx,hxl];omega)
     refine(OKh.change (x':= .cells (l.take fld++hset k es row w) e z') (m:=hp.m.set i (some (.cells (fill cs (o+row.toN U*1+fld) x.cells.toList) n e z'))) hb2 h1 (fun j hj=>by rw[T.get_set,bH4 hj]) (by rw[T.get_set,bH6 rfl])
      ⟨_,n,rfl,?_,fun j c hc=>?_⟩).bind fun _ τ3 F3 s3 hp3 _ _ ⟨w1,w2,w3⟩=>OKh.ret ⟨rfl,?_⟩
     ·simp[hset];omega
     ·have e1:(l.take fld).length=fld:=by simp;omega
      rw[i8,hxl]
      by_cases hj:j<fld
      ·grind
      ·rw[bG2 (by omega),e1]at hc
       obtain⟨c',rfl,hc'⟩:=br4 h0 hr hc
       by_cases hj2:j-fld=row.toN U
       ·rw[bH6 (by omega)]
        obtain⟨y,w1,w2⟩:=hv.get (i:=0) (a:= .int k w) rfl;refine⟨y,by rw[<-w1];congr 1;omega,?_⟩
        rw[bH6 hj2]at hc';cases w2;exact VD.int' hc'
       ·rw[bH4 (by omega)]
        rw[bH4 hj2]at hc';have hlen:=(bF7.1 hc).1;have hje:j-fld<es.length:=by simpa [hset]using hlen
        have q3:=q2 _ _ (bG6 hje);rw[bJ3,show fld+(j-fld)=j by omega]at q3
        obtain⟨y,w1,w2⟩:=h5 _ _ q3;refine⟨y,w1,?_⟩;rw[bI5,bG6 hje]at hc';cases w2;exact VD.int' hc'
     ·grind
   ·cases h2
  ·exact OKh.fail
 ·exact OKh.fail
theorem bo2 {t:TypeId}{a b:SV}{v x:Value}(ha:VD P U τ F a v)(hb:VD P U τ F b x)(hs:SD P U τ F s hp):OKh P U (bc7 P U t a b) τ F s hp fun c _ _ hp'=>c= .tup []/\N9 P hp t v x=some hp':=by
 unfold bc7;split
 ·exact OKh.fail
 ·rename_i ti hti
  split
  ·exact OKh.fail
  ·rename_i vs hvs
   have hv:=W0 hb hvs;cases hq:Nat.beq vs.length ti.size&&vs.all aD9 with
   |false=>exact OKh.fail
   |true=>
    simp only[bH1];simp only[bF5,bJ4]at hq;obtain⟨hlen,hone⟩:=hq;have hx:x.cells.toList.length=ti.size:=by rw[<-hv.1];exact hlen
    have ho:=aS8 hv hone;split
    ·rename_i b' z row fld
     refine OKh.read ?_;split
     ·rename_i l e z' hb'
      split
      ·rename_i r
       cases hq:decide (0<=r)&&Nat.ble (r.toNat*z+fld+vs.length) l.length with
       |false=>exact OKh.fail
       |true=>
        simp only[bH1];simp only[bF5,bH5,bK8]at hq
        rcases hs.live b' _ hb' with⟨i,o,y,h1,h2,_,cs,n,rfl,h4,h5⟩| ⟨h1,L',e',z',ph',h2,h3,_⟩
        ·cases ha with
         |ptr _ _ _ _ i' o' h h0=>
          rw[h1]at h;simp only[bF4,bF6]at h;obtain⟨rfl,rfl⟩:=h;have er:(E.int r).toN U=r.toNat:=rfl;have hst:=ag0 hti hx ho h2 (o:=o+(E.int r).toN U*z+fld) (by rw[er,<-hx,<-hv.1];omega)
          refine(OKh.change (x':= .cells (K9 l (r.toNat*z+fld) vs) e z') (m:=hp.m.set i (some (.cells (fill cs (o+(E.int r).toN U*z+fld) x.cells.toList) n e z'))) hb' h1 (fun j hj=>by rw[T.get_set,bH4 hj]) (by rw[T.get_set,bH6 rfl])
           ⟨_,n,rfl,?_,fun j c hc=>?_⟩).bind fun _ τ3 F3 s3 hp3 _ _ ⟨w1,w2,w3⟩=>OKh.ret ⟨rfl,?_⟩
          ·unfold K9;simp;omega
          ·unfold K9 at hc
           rw[i8,er]
           by_cases hj:r.toNat*z+fld<=j/\j<r.toNat*z+fld+x.cells.toList.length
           ·rw[bH6 (by omega)]
            have e1:(l.take (r.toNat*z+fld)).length=r.toNat*z+fld:=by grind
            rw[bG8,bG2 (by omega),bG3 (by rw[e1,hv.1];omega),e1]at hc
            obtain⟨w,w1,w2⟩:=hv.get hc
            grind
           ·rw[bH4 (by omega)]
            by_cases hj1:j<r.toNat*z+fld
            ·rw[bG8,bG3 (by simp;omega),bI7,bH6 hj1]at hc
             grind
            ·have e1:(l.take (r.toNat*z+fld)).length=r.toNat*z+fld:=by simp;omega
             rw[bG8,bG2 (by omega),e1,bG2 (by rw[hv.1];omega),bJ3]at hc
             grind
          ·grind
        ·cases h2
      ·cases hq:Nat.beq z 1&& !Nat.beq z' 1&&Nat.ble fld l.length with
       |true=>
        rw[bH1];simp only[bF5,bJ4,bK8]at hq;obtain⟨⟨rfl,_⟩,hf⟩:=hq;exact bc9 hti hb' hf ha hv hx ho hs
       |false=>
        rw[bH2];refine(ac9 hs).bind fun _ τ1 F1 s1 hp1 ex hs1 ⟨e1,e2,e3⟩=>?_
        subst e1;subst e2;subst e3;exact ah1 hti ha hv hx ho hs1
     ·exact ah1 hti ha hv hx ho hs
     ·exact OKh.fail
    ·exact bc8 hti ha hv hx ho hs
    ·exact OKh.fail
end
end Go.Sx
namespace Go.Sx
open Go.Xe
def ba1 (e l h:E):E:=match e,l,h with
 | .str p,.int a,.int b=>.str ((p.take b.toNat).drop a.toNat)
 |e,l,h=>.op .ssub [e,l,h]
def K4 (x:Option SV)(d:E):Option E:=match x with
 |none=>some d
 |some (.int _ e)=>some e
 |some _=>none
def ai3 :E->Bool
 | .int n=>decide (n=0)
 |_=>false
section
variable (P :Program)(U:Nat->List Dat->Dat)
def slen (t:TypeId)(x:SV):M SV:=
 match P.underlying t,x with
 |some .string,.str e=>c9 (.int .i64 (U2 e))
 |some (.array n _),_=>c9 (.int .i64 (.int n))
 |some (.slice _),.sl _ _ _ len _=>c9 (.int .i64 len)
 |some (.slice _),.lst _ L _=>c9 (.int .i64 (v5 L))
 |some (.slice _),.nils=>c9 (.int .i64 (.int 0))
 |some (.map _ _),.nilm=>c9 (.int .i64 (.int 0))
 |_,_=>a8 "len"
def scap (t:TypeId)(x:SV):M SV:=
 match P.underlying t,x with
 |some (.slice _),.sl _ _ _ _ (.ex c)=>c9 (.int .i64 c)
 |some (.slice _),.lst _ L true=>c9 (.int .i64 (v5 L))
 |some (.slice _),.nils=>c9 (.int .i64 (.int 0))
 |some (.array n _),_=>c9 (.int .i64 (.int n))
 |_,_=>a8 "cap"
def N3 (l h top:E):M Unit:=a9 (i9 U (t6 (t9 l (.int 0)))) fun _=>a9 (i9 U (t6 (t9 h l))) fun _=>i9 U (t6 (t9 top h))
def aG2 (b z:Nat)(off l h c:E):M SV:=
 bif ai3 l then c9 (.sl b z off h (.ex c))else
  a9 (ad0 U (C8 c l)) fun t=>bif t then c9 (.sl b z off (H7 h l) (.ex (H7 c l)))else c9 (.sl b z (t7 off l) (H7 h l) (.ex (H7 c l)))
def bC3 (e b z : Nat) (off len l h : E) : M SV :=
 bif ai3 l then c9 (.sl b z off h .ge) else
  a9 (ad0 U (t9 l len)) fun t => l7 fun s => match s.get b with
   | some (.rows L e' z' _) => bif Nat.beq e e' && Nat.beq z z' then
     (bif t then c9 (.sl b z (t7 off l) (H7 h l) .ge)else
      a9 (i9 U (t6 (t9 (v5 L) (t7 off len)))) fun _=>a9 (V7 b none) fun _=>c9 (.lst e (.op .nil []) false))
    else a8 "slice: type"
   |some (.cells _ e' z')=>bif Nat.beq e e'&&Nat.beq z z'&&t then c9 (.sl b z (t7 off l) (H7 h l) .ge)else a8 "slice: cells"
   |_=>a8 "slice: no block"
def bc6 (t : TypeId) (x : SV) (lo hi mx : Option SV) : M SV :=
 match P.underlying t with
 |some .string=>match x,mx with
  | .str e,none=>match K4 lo (.int 0),K4 hi (U2 e)with
   |some l,some h=>a9 (N3 U l h (U2 e)) fun _=>c9 (.str (ba1 e l h))
   |_,_=>a8 "slice: bounds"
  |_,_=>a8 "slice: string"
 | some (.slice e) => match P.info? e with
  |none=>a8 "slice: type"
  | some ie => match x with
   | .nils=>match K4 lo (.int 0),K4 hi (.int 0),mx with
    |some l,some h,none=>a9 (N3 U l h (.int 0)) fun _=>c9 .nils
    |some l,some h,some m=>match K4 (some m) (.int 0),hi with
     |some m,some _=>a9 (N3 U l h m) fun _=>a9 (i9 U (t6 (t9 (.int 0) m))) fun _=>c9 .nils
     |_,_=>a8 "slice: bounds"
    |_,_,_=>a8 "slice: bounds"
   | .sl b z off len cap => bif Nat.beq z ie.size then
     match K4 lo (.int 0),K4 hi len,mx with
     |some l,some h,none=>match cap with
      | .ex c=>a9 (N3 U l h c) fun _=>aG2 U b z off l h c
      | .ge=>a9 (N3 U l h len) fun _=>bC3 U e b z off len l h
      | .un=>a8 "slice: room"
     |some l,some h,some m=>match K4 (some m) (.int 0),hi with
      |some m,some _=>a9 (N3 U l h m) fun _=>a9 (i9 U (t6 (t9 (match cap with| .ex c=>c|_=>len) m))) fun _=>aG2 U b z off l h m
      |_,_=>a8 "slice: bounds"
     |_,_,_=>a8 "slice: bounds"
    else a8 "slice: size"
   | .lst e' L clip => bif Nat.beq e e' && Nat.beq ie.size (kf P e).length then
     match K4 lo (.int 0),K4 hi (v5 L),mx with
     |some l,some h,none=>a9 (N3 U l h (v5 L)) fun _=>a9 (O2 U L l (H7 h l)) fun c=>c9 (.lst e' c (clip&&hi.isNone))
     | some l, some h, some m => match K4 (some m) (.int 0), hi with
      | some m, some _ => a9 (N3 U l h m) fun _ => a9 (i9 U (t6 (t9 (v5 L) m))) fun _ => a9 (bif clip then c9 () else i9 U (t9 (.int 0) (v5 L))) fun _ =>
        a9 (O2 U L l (H7 h l)) fun c=>bif E.like h m then a9 (i9 U (C8 h m)) fun _=>c9 (.lst e' c true)else c9 (.lst e' c false)
      |_,_=>a8 "slice: bounds"
     |_,_,_=>a8 "slice: bounds"
    else a8 "slice: list"
   |_=>a8 "slice: value"
 |_=>a8 "slice: type"
end
section
variable {P :Program}{U:Nat->List Dat->Dat}{τ:Tau}{F:Nat->Option Blk}{s:SS}{hp:Hp}
theorem J9 {t:TypeId}{v w:Value}(h:au7 P t v=some w)(hm:∀i,v≠ .map (some i)):T5 hp P t v=some w:=by
 unfold T5;split
 ·rename_i i _;exact absurd rfl (hm i)
 ·exact h
theorem PV.slice {e:TypeId}{v:Value}{d:Dat}(h:PV P F (.sl e) v d):∃a c,v= .slice a d.rows.length c:=by
 cases h<;>exact⟨_,_,rfl⟩
theorem bB2 {t:TypeId}{a:SV}{v:Value}(ha:VD P U τ F a v):OKp U (slen P t a) s fun b=>∃w,T5 hp P t v=some w/\VD P U τ F b w:=by
 unfold slen;split
 ·rename_i e ht
  cases ha;refine OKp.ret ⟨.int .i64 ((e.den U).toStr.length:Nat),J9 ?_ (fun i h=>by cases h),VD.int' (J0 e)⟩
  simp[au7,ht]
 ·rename_i _ _ _ n e ht
  refine OKp.ret ⟨.int .i64 (n:Nat),?_,VD.int' rfl⟩;unfold T5;split
  ·simp_all
  ·simp only[au7,ht]
 ·rename_i e' b z off len cap ht
  cases ha with
  |sl _ _ _ _ _ i o c h h0 h1 hc=>
   refine OKp.ret ⟨.int .i64 (len.toN U:Nat),J9 ?_ (fun i h=>by cases h),VD.int' (by show len.toI U=((len.toI U).toNat:Int);omega)⟩
   simp[au7,ht]
  |sl0 _ _ _ _ _ h h0 h1 hc=>
   refine OKp.ret ⟨.int .i64 0,J9 ?_ (fun i h=>by cases h),VD.int' h1⟩
   simp[au7,ht]
 ·rename_i e' t' L clip ht
  cases ha with
  |lst _ _ _ _ h hc=>
   obtain⟨a,c,rfl⟩:=h.slice;refine OKp.ret ⟨.int .i64 ((L.toR U).length:Nat),J9 ?_ (fun i h=>by cases h),VD.int' (e9 L)⟩
   simp only[au7,ht];rfl
 ·rename_i e' ht
  cases ha;refine OKp.ret ⟨.int .i64 0,J9 ?_ (fun i h=>by cases h),VD.int' rfl⟩
  simp[au7,ht]
 ·rename_i k' e' ht
  cases ha;refine OKp.ret ⟨.int .i64 0,J9 ?_ (fun i h=>by cases h),VD.int' rfl⟩
  simp[au7,ht]
 ·exact OKp.fail
theorem bf0 {e:TypeId}{a:Option Addr}{l:Nat}{d:Dat}(h:PV P F (.sl e) (.slice a l l) d):a=none\/l<unk:=by
 cases h with
 |nils=>exact .inl rfl
 |sl _ i o c b cs n z rows x hF hb hc hn hz hr hx hp=>
  right
  rcases hc.1 with⟨h,_⟩| ⟨lo,h1,h2,h3⟩
  ·exact h
  ·have:=n9 lo 0
   rw[<-h1]at this;unfold unk at*;omega
theorem bB0 {t:TypeId}{a:SV}{v:Value}(ha:VD P U τ F a v):OKp U (scap P t a) s fun b=>∃w,am9 P t v=some w/\VD P U τ F b w:=by
 unfold scap;split
 ·rename_i e' b z off len c ht
  cases ha with
  |sl _ _ _ _ _ i o c' h h0 h1 hc=>
   obtain⟨k1,k2,k3,k4⟩:=hc;refine OKp.ret ⟨.int .i64 (c':Nat),?_,VD.int' (by rw[k2];show c.toI U=((c.toI U).toNat:Int);omega)⟩
   have:Nat.ble unk c'=false:=by
    cases hb:Nat.ble unk c' with
    |false=>rfl
    |true=>have:=bF8 hb;omega
   simp only[am9,ht,this,bH2]
  |sl0 _ _ _ _ _ h h0 h1 hc=>
   refine OKp.ret ⟨.int .i64 0,?_,VD.int' (hc c rfl)⟩;simp[am9,ht]
 ·rename_i e' t' L ht
  cases ha with
  |lst _ _ _ _ h hc=>
   obtain⟨a,l,rfl⟩:=hc rfl;have hl:=h.len;refine OKp.ret ⟨.int .i64 (l:Nat),?_,VD.int' (by rw[e9,hl];rfl)⟩
   rcases bf0 h with rfl|hlt
   ·simp only[am9,ht]
   ·cases a with
    |none=>simp only[am9,ht]
    |some a=>
     have:Nat.ble unk l=false:=by
      cases hb:Nat.ble unk l with
      |false=>rfl
      |true=>have:=bF8 hb;omega
     simp only[am9,ht,this,bH2]
 ·rename_i e' ht
  cases ha;refine OKp.ret ⟨.int .i64 0,?_,VD.int' rfl⟩;simp[am9,ht]
 ·rename_i _ _ _ n e' ht
  refine OKp.ret ⟨.int .i64 (n:Nat),?_,VD.int' rfl⟩;simp only[am9,ht]
 ·exact OKp.fail
def OVD (P:Program)(U:Nat->List Dat->Dat)(τ:Tau)(F:Nat->Option Blk):Option SV->Option Value->Prop
 |none,none=>True
 |some a,some v=>VD P U τ F a v
 |_,_=>False
theorem F5 {l h top:E}:OKp U (N3 U l h top) s fun _=>0<=l.toI U/\l.toI U<=h.toI U/\h.toI U<=top.toI U:=by
 unfold N3;exact OKp.need.bind fun _ _ _ _ h1=>OKp.need.bind fun _ _ _ _ h2=>OKp.need.mono fun _ h3=>⟨O6 h1,u7 h2,u7 h3⟩
theorem al1 {x:Option SV}{v:Option Value}(h:OVD P U τ F x v){d e:E}(he:K4 x d=some e):(v=none/\e=d)\/ ∃k,v=some (.int k (e.toI U)):=by
 unfold K4 at he;split at he
 ·simp only[bF4]at he;subst he
  cases v with
  |none=>exact .inl ⟨rfl,rfl⟩
  |some v=>exact h.elim
 ·simp only[bF4]at he;subst he
  cases v with
  |none=>exact h.elim
  |some v=>
   have:VD P U τ F (.int _ _) v:=h;cases this;exact .inr ⟨_,rfl⟩
 ·cases he
theorem W5 {k:IntKind}{n:Int}{y:Nat}(h0:0<=n)(h1:n<=y):E0 (.int k n) y=some n.toNat:=by
 show(bif decide (0<=n)&&decide (n<=(y:Int))then some n.toNat else none)=some n.toNat
 rw[show(decide (0<=n)&&decide (n<=(y:Int)))=true by simp only[bF5,bH5];exact⟨h0,h1⟩]
 rfl
theorem D3 {lo hi : Option SV} {vlo vhi : Option Value} (hlo : OVD P U τ F lo vlo) (hhi : OVD P U τ F hi vhi) {l h dl dh : E} (el : K4 lo dl = some l) (eh : K4 hi dh = some h) {len cb : Nat} (h1 : 0 ≤ l.toI U) (h2 : l.toI U ≤ h.toI U) (h3 : h.toI U ≤ cb)
  (hdl:dl.toI U=0) (hdh:hi=none->h.toN U=len):v7 len cb vlo vhi none=some (l.toN U,h.toN U,none):=by
 have ehv:(match vhi with|some v=>E0 v cb|none=>some len)=some (h.toN U):=by
  rcases al1 hhi eh with⟨rfl,rfl⟩| ⟨k,rfl⟩
  ·cases hi with
   |none=>simp only;rw[hdh rfl]
   |some x=>exact hhi.elim
  ·exact W5 (by omega) h3
 have elv:(match vlo with|some v=>E0 v (h.toN U)|none=>some 0)=some (l.toN U):=by
  rcases al1 hlo el with⟨rfl,rfl⟩| ⟨k,rfl⟩
  ·simp only;show some 0=some (l.toI U).toNat;rw[hdl];rfl
  ·exact W5 h1 (by show l.toI U<=((h.toI U).toNat:Int);omega)
 unfold v7;cases vhi<;>cases vlo<;>simp_all
theorem L8 {lo hi : Option SV} {vlo vhi : Option Value} {mx : SV} {vm : Value} (hlo : OVD P U τ F lo vlo) (hhi : OVD P U τ F hi vhi) (hmx : VD P U τ F mx vm) {l h m dl dh dm : E} (el : K4 lo dl = some l) (eh : K4 hi dh = some h) (em : K4 (some mx) dm = some m) {len cb : Nat}
  (h1:0<=l.toI U) (h2:l.toI U<=h.toI U) (h3:h.toI U<=m.toI U) (h4:m.toI U<=cb) (hdl:dl.toI U=0) (hh:hi≠none):v7 len cb vlo vhi (some vm)=some (l.toN U,h.toN U,some (m.toN U)):=by
 have emv:E0 vm cb=some (m.toN U):=by
  rcases al1 (x:=some mx) (v:=some vm) hmx em with⟨e,_⟩| ⟨k,e⟩
  ·cases e
  ·cases e;exact W5 (by omega) h4
 have ehv:∃v,vhi=some v/\E0 v (m.toN U)=some (h.toN U):=by
  rcases al1 hhi eh with⟨rfl,rfl⟩| ⟨k,rfl⟩
  ·cases hi with
   |none=>exact absurd rfl hh
   |some x=>exact hhi.elim
  ·exact⟨_,rfl,W5 (by omega) (by show h.toI U<=((m.toI U).toNat:Int);omega)⟩
 have elv:(match vlo with|some v=>E0 v (h.toN U)|none=>some 0)=some (l.toN U):=by
  rcases al1 hlo el with⟨rfl,rfl⟩| ⟨k,rfl⟩
  ·simp only;show some 0=some (l.toI U).toNat;rw[hdl];rfl
  ·exact W5 h1 (by show l.toI U<=((h.toI U).toNat:Int);omega)
 obtain⟨v,rfl,ehv⟩:=ehv;unfold v7;cases vlo<;>simp_all
theorem aG8 {e:E}(h:ai3 e=true):e.toI U=0:=by
 unfold ai3 at h;split at h
 ·rename_i n;exact bN3 h
 ·cases h
theorem Z3 {a b:E}(h0:0<=b.toI U):(H7 a b).toN U=a.toN U-b.toN U:=by
 show((H7 a b).toI U).toNat=(a.toI U).toNat-(b.toI U).toNat;rw[p7];omega
theorem am6 {a b:E}(h0:0<=a.toI U)(h1:0<=b.toI U):(t7 a b).toN U=a.toN U+b.toN U:=by
 show((t7 a b).toI U).toNat=(a.toI U).toNat+(b.toI U).toNat;rw[i4];omega
theorem VD.sl' {b z i o c n a:Nat}{off len:E}{cap:Cp}(h:τ b=some (some (i,o)))(h0:0<=off.toI U)(h1:0<=len.toI U)(hc:aw8 U len cap c)(ha:a=o+off.toN U*z)(hn:n=len.toN U):VD P U τ F (.sl b z off len cap) (.slice (some ⟨i,a,none⟩) n c):=by
 subst ha;subst hn;exact .sl b z off len cap i o c h h0 h1 hc
theorem ab9 {b z i o : Nat} {off l h c : E} (hτ : τ b = some (some (i, o))) (h0 : 0 ≤ off.toI U) (h1 : 0 ≤ l.toI U) (h2 : l.toI U ≤ h.toI U) (h3 : h.toI U ≤ c.toI U) (hu : c.toN U < unk) {a : Nat} (ha : a = o + off.toN U * z) :
  OKp U (aG2 U b z off l h c) s fun x=>VD P U τ F x (bif Nat.beq (c.toN U) (l.toN U)then .slice (some ⟨i,a,none⟩) (h.toN U-l.toN U) (c.toN U-l.toN U)else .slice (some ⟨i,a+l.toN U*z,none⟩) (h.toN U-l.toN U) (c.toN U-l.toN U)):=by
 subst ha;unfold aG2;have hcr:aw8 U (H7 h l) (.ex (H7 c l)) (c.toN U-l.toN U):=by
  refine⟨by rw[p7];omega,by rw[Z3 h1],by omega,?_⟩
  rw[p7,p7];omega
 cases hz:ai3 l with
 |true=>
  simp only[bH1];have hl:=aG8 (U:=U) hz;have hl':l.toN U=0:=by show(l.toI U).toNat=0;rw[hl];rfl
  refine OKp.ret ?_;rw[hl'];have hv:VD P U τ F (.sl b z off h (.ex c)) (.slice (some ⟨i,o+off.toN U*z,none⟩) (h.toN U-0) (c.toN U-0)):=VD.sl' hτ h0 (by omega) ⟨by omega,by omega,by omega,h3⟩ rfl (by omega)
  cases Nat.beq (c.toN U) 0 with
  |true=>exact hv
  |false=>simp only[bH2,bO3,bM0];exact hv
 |false=>
  simp only[bH2];refine OKp.test.bind fun t _ _ _ ht=>?_
  rw[B8]at ht;cases t with
  |true=>
   simp only[bH5]at ht;simp only[bH1];refine OKp.ret ?_;rw[j9 (show c.toN U=l.toN U by show(c.toI U).toNat=_;rw[ht]),bH1]
   exact VD.sl' hτ h0 (by rw[p7];omega) hcr rfl (by rw[Z3 h1])
  |false=>
   simp only[bK2]at ht;simp only[bH2];refine OKp.ret ?_;rw[u6 (show c.toN U≠l.toN U by show(c.toI U).toNat≠(l.toI U).toNat;omega),bH2]
   exact VD.sl' hτ (by rw[i4];omega) (by rw[p7];omega) hcr (by rw[am6 h0 h1,bJ0];omega) (by rw[Z3 h1])
theorem aG3 {b z:Nat}{off l h c:E}(hτ:τ b=some none)(h0:off.toI U=0)(h1:0<=l.toI U)(h2:l.toI U<=h.toI U)(h3:h.toI U<=c.toI U)(h4:c.toI U<=0):OKp U (aG2 U b z off l h c) s fun x=>VD P U τ F x (.slice none 0 0):=by
 unfold aG2;cases hz:ai3 l with
 |true=>
  simp only[bH1];exact OKp.ret (.sl0 b z off h (.ex c) hτ h0 (by omega) (fun e he=>by cases he;omega))
 |false=>
  simp only[bH2];refine OKp.test.bind fun t _ _ _ ht=>?_
  have hs:(H7 h l).toI U=0:=by rw[p7];omega
  have hc:∀e,Cp.ex (H7 c l)= .ex e->e.toI U=0:=fun e he=>by cases he;rw[p7];omega
  cases t with
  |true=>exact OKp.ret (.sl0 b z off _ _ hτ h0 hs hc)
  |false=>exact OKp.ret (.sl0 b z _ _ _ hτ (by rw[i4];omega) hs hc)
end
end Go.Sx
namespace Go.Sx
open Go.Xe
section
variable {P :Program}{U:Nat->List Dat->Dat}{τ:Tau}{F:Nat->Option Blk}{s:SS}{hp:Hp}
theorem aw0 {n:Nat}(h:n<=67108864):n<unk:=by unfold unk;omega
theorem V2 {a b:Nat}(h:b<a):Nat.ble a b=false:=by
 cases hb:Nat.ble a b with
 |false=>rfl
 |true=>have:=bF8 hb;omega
theorem aw6 (lo:Nat):I4 (d8 lo 0)=lo:=F6 C9
theorem aQ1 (lo:Nat):B5 (d8 lo 0)=0:=E2 C9
theorem ba2 (e l h:E):((ba1 e l h).den U).toStr=((e.den U).toStr.take (h.toN U)).drop (l.toN U):=by
 unfold ba1;split<;>rfl
variable (P U) in
def be8 (hp:Hp)(t:TypeId)(v:Value)(lo hi mx:Option Value)(c:SV)(τ:Tau)(F:Nat->Option Blk)(hp':Hp):Prop:=hp'=hp/\ ∃w,p8 P hp t v lo hi mx=some (w,hp)/\VD P U τ F c w
theorem OKp.slice {m:M SV}{t:TypeId}{v:Value}{lo hi mx:Option Value}(h:OKp U m s fun c=>∃w,p8 P hp t v lo hi mx=some (w,hp)/\VD P U τ F c w):OKh P U m τ F s hp (be8 P U hp t v lo hi mx):=
 (h.up (P:=P) (τ:=τ) (F:=F) (hp:=hp)).mono fun _ _ _ _ _ _ ⟨e1,e2,e3,h⟩=>by subst e1;subst e2;subst e3;exact⟨rfl,h⟩
theorem X1 {t e : TypeId} {ie : TypeInfo} (ht : P.underlying t = some (.slice e)) (hi : P.info? e = some ie) {i a len cap : Nat} (hu : cap < unk) (hl : len ≤ cap) {lo hi' mx : Option Value} {l h : Nat} {m : Option Nat} (hb : v7 len cap lo hi' mx = some (l, h, m)) :
  p8 P hp t (.slice (some ⟨i,a,none⟩) len cap) lo hi' mx=some (bif Nat.beq (m.getD cap) l then .slice (some ⟨i,a,none⟩) (h-l) (m.getD cap-l)else .slice (some ⟨i,a+l*ie.size,none⟩) (h-l) (m.getD cap-l),hp):=by
 simp only[p8,ht,hi];rw[V2 hu,bH2,bG1 hl,bH1,hb];simp only;cases Nat.beq (m.getD cap) l<;>rfl
theorem ak1 {t e : TypeId} {ie : TypeInfo} (ht : P.underlying t = some (.slice e)) (hi : P.info? e = some ie) {i a len lo0 : Nat} (hl0 : lo0 ≤ 67108864) (hl : len ≤ 67108864) {lo hi' mx : Option Value} {l h m : Nat} (hb : v7 len (Nat.max lo0 len) lo hi' mx = some (l, h, some m)) :
  p8 P hp t (.slice (some ⟨i,a,none⟩) len (d8 lo0 0)) lo hi' mx=some (bif Nat.beq m l then .slice (some ⟨i,a,none⟩) (h-l) (m-l)else .slice (some ⟨i,a+l*ie.size,none⟩) (h-l) (m-l),hp):=by
 simp only[p8,ht,hi];rw[bG1 (n9 lo0 0),bH1,aw6,bG1 (Nat.max_le.2 ⟨hl0,hl⟩),bH1,hb];simp only;cases Nat.beq m l<;>rfl
theorem aa4 {t e : TypeId} {ie : TypeInfo} (ht : P.underlying t = some (.slice e)) (hi : P.info? e = some ie) {i a len lo0 : Nat} (hl0 : lo0 ≤ 67108864) (hl : len ≤ 67108864) {lo hi' : Option Value} {l h : Nat} (hb : v7 len (Nat.max lo0 len) lo hi' none = some (l, h, none)) :
  p8 P hp t (.slice (some ⟨i,a,none⟩) len (d8 lo0 0)) lo hi' none=bif Nat.beq l 0 then some (.slice (some ⟨i,a,none⟩) h (d8 (Nat.max lo0 len) 0),hp)else
   bif Nat.beq l (Nat.max lo0 len)then some (.slice (some ⟨0,0,some 0⟩) 0 unk,hp)else match hp.m.get i with
    |some (.cells _ _ _ z')=>bif Nat.beq z' ie.size then some (.slice (some ⟨i,a+l*ie.size,none⟩) (h-l) (d8 (Nat.max lo0 len-l) (0-l)),hp)else none
    |_=>none:=by
 simp only[p8,ht,hi];rw[bG1 (n9 lo0 0),bH1,aw6,aQ1,bG1 (Nat.max_le.2 ⟨hl0,hl⟩),bH1,hb];rfl
theorem G4 {t e:TypeId}{ie:TypeInfo}(ht:P.underlying t=some (.slice e))(hi:P.info? e=some ie){lo hi' mx:Option Value}{r:Nat×Nat×Option Nat}(hb:v7 0 0 lo hi' mx=some r):p8 P hp t (.slice none 0 0) lo hi' mx=some (.slice none 0 0,hp):=by
 simp only[p8,ht,hi];rw[hb];rfl
theorem aO5 {t e : TypeId} {ie : TypeInfo} (ht : P.underlying t = some (.slice e)) (hi : P.info? e = some ie) {lo hi' : Option Value} {l h : Nat} (hb : v7 0 0 lo hi' none = some (l, h, none)) :
  p8 P hp t (.slice (some ⟨0,0,some 0⟩) 0 unk) lo hi' none=some (.slice (some ⟨0,0,some 0⟩) 0 unk,hp):=by
 simp only[p8,ht,hi];rw[hb]
theorem V5 {a b n:Nat}(h:a<=n)(k:b<=n):Nat.max a b<=n:=Nat.max_le.2 ⟨h,k⟩
theorem Q5 (a b:Nat):b<=Nat.max a b:=bM4 a b
theorem PV.cut {e i a c n z zb : Nat} {b : Blk} {cs : T Value} {rows : Rows} {x : Nat → Nat → Value} (hF : F i = some b) (hb : arr b = some (cs, n, zb)) (hn : a + rows.length * z ≤ n) (hz : z = (kf P e).length) (hr : ∀ r ∈ rows, r.length = z)
  (hx:∀(r k:Nat) (row:List Dat) (d:Dat),rows[r]? =some row->row[k]? =some d->cs.get (a+r*z+k)=some (x r k))
  (hp:∀(r k:Nat) (row:List Dat) (kd:Kd) (d:Dat),rows[r]? =some row->row[k]? =some d->(kf P e)[k]? =some kd->PV P F kd (x r k) d) {l len:Int} (h0:0<=l) (h1:0<=len) (h2:l+len<=rows.length) (hc:aG0 len.toNat c/\roC b c zb z):
  PV P F (.sl e) (.slice (some ⟨i,a+l.toNat*z,none⟩) len.toNat c) (.lst (part rows l len)):=by
 have hl:=N5 h0 h1 h2;have := PV.sl (P := P) (F := F) e i (a + l.toNat * z) c b cs n z (part rows l len) (fun r k => x (l.toNat + r) k) hF hb (by rw [hl]; exact hc)
  (by rw [hl]
      have:l.toNat*z+len.toNat*z<=rows.length*z:=by rw[<-bJ0];exact bG7 z (by omega)
      omega) hz (fun r h=>hr r (bO1 (bO0 h)))
  (fun r k row d h1 h2=>by rw[<-hx _ k row d (V8 h1) h2];congr 1;rw[bJ0];omega) (fun r k row kd d h1 h2 h3=>hp _ k row kd d (V8 h1) h2 h3)
 rw[hl]at this;exact this
theorem PV.cut0 {e i a c n z zb:Nat}{b:Blk}{cs:T Value}(hF:F i=some b)(hb:arr b=some (cs,n,zb))(hn:a<=n)(hz:z=(kf P e).length)(hc:aG0 0 c/\roC b c zb z):PV P F (.sl e) (.slice (some ⟨i,a,none⟩) 0 c) (.lst []):=
 PV.sl (P:=P) (F:=F) e i a c b cs n z [] (fun _ _=>undef) hF hb hc (by simpa using hn) hz (fun r h=>by simp at h) (fun r k row d h=>by simp at h) (fun r k row kd d h=>by simp at h)
theorem J5 {rows:Rows}{l len:Int}(h:len<=0):part rows l len=[]:=by
 unfold part;have:len.toNat=0:=by omega
 rw[this,List.take_zero]
theorem bm1 {t e : TypeId} {ie : TypeInfo} (ht : P.underlying t = some (.slice e)) (hie : P.info? e = some ie) (hsz : ie.size = (kf P e).length) (hfrz : ∀ i b, F i = some b → hp.m.get i = some b) {v : Value} {rows : Rows} (hv : PV P F (.sl e) v (.lst rows)) {lo hi : Option SV} {vlo vhi : Option Value}
  (hlo:OVD P U τ F lo vlo) (hhi:OVD P U τ F hi vhi) {l h dh:E} (el:K4 lo (.int 0)=some l) (eh:K4 hi dh=some h) (hdh:dh.toI U=rows.length) (h1:0<=l.toI U) (h2:l.toI U<=h.toI U) (h3:h.toI U<=rows.length):
  ∃w,p8 P hp t v vlo vhi none=some (w,hp)/\PV P F (.sl e) w (.lst (part rows (l.toI U) (h.toI U-l.toI U)))/\((∃a n,v= .slice a n n)->hi=none-> ∃a n,w= .slice a n n):=by
 have hlh:hi=none->h.toN U=rows.length:=fun hn=>by
  subst hn;simp only[K4,bF4]at eh;subst eh;show(dh.toI U).toNat=_;rw[hdh];omega
 have el1:l.toI U=((l.toN U:Nat):Int):=by show l.toI U=((l.toI U).toNat:Int);omega
 have eh1:h.toI U=((h.toN U:Nat):Int):=by show h.toI U=((h.toI U).toNat:Int);omega
 have ed:(h.toI U-l.toI U).toNat=h.toN U-l.toN U:=by omega
 cases hv with
 |nils=>
  simp only[bQ5]at h3;refine⟨.slice none 0 0,G4 ht hie (D3 hlo hhi el eh h1 h2 h3 rfl hlh),?_,fun _ _=>⟨_,_,rfl⟩⟩
  rw[J5 (by omega)];exact .nils e
 |vague=>
  simp only[bQ5]at h3;refine⟨_,aO5 ht hie (D3 hlo hhi el eh h1 h2 h3 rfl hlh),?_,fun⟨a,n,e⟩ _=>?_⟩
  ·rw[J5 (by omega)];exact .vague e
  ·cases e
 | sl _ i o c b cs n z _ x hF hb hc hn hz hr hx hp' =>
  have hg:=hfrz i b hF;obtain⟨hc,hro⟩:=hc
  rcases hc with⟨c1,c2⟩| ⟨lo0,rfl,c2,c3⟩
  ·have hxs:=X1 (hp:=hp) (i:=i) (a:=o) ht hie c1 c2 (D3 hlo hhi el eh h1 h2 (show h.toI U<=(c:Int) by omega) rfl hlh)
   simp only[Option.getD_none]at hxs;refine⟨_,hxs,?_,fun⟨a,m,e1⟩ hn'=>?_⟩
   ·by_cases hcl:c=l.toN U
    ·rw[j9 hcl,bH1,J5 (by omega),show h.toN U-l.toN U=0 by omega]
     exact PV.cut0 hF hb (by omega) hz ⟨.inl ⟨by omega,by omega⟩,fun _=>by omega,hro.2⟩
    ·rw[u6 hcl,bH2,<-ed,hsz,<-hz]
     exact PV.cut (l:=l.toI U) (len:=h.toI U-l.toI U) hF hb hn hz hr hx hp' h1 (by omega) (by omega) ⟨.inl ⟨by omega,by rw[ed];omega⟩,fun _=>by omega,hro.2⟩
   ·have hh:=hlh hn'
    cases e1;cases Nat.beq rows.length (l.toN U)with
    |true=>exact⟨some ⟨i,o,none⟩,rows.length-l.toN U,by rw[hh];rfl⟩
    |false=>exact⟨some ⟨i,o+l.toN U*ie.size,none⟩,rows.length-l.toN U,by rw[hh];rfl⟩
  ·have hnr : Q1 b = false := by
    cases h:Q1 b with
    |false=>rfl
    |true=>have h1:=hro.1 h;have h2:=n9 lo0 0;omega
   have hmx':=Q5 lo0 rows.length;have hmy:=V5 c2 c3;have hxs:=aa4 (hp:=hp) (i:=i) (a:=o) ht hie c2 c3 (D3 hlo hhi el eh h1 h2 (show h.toI U<=((Nat.max lo0 rows.length:Nat):Int) by omega) rfl hlh)
   have noclip:(∃a n,Value.slice (some ⟨i,o,none⟩) rows.length (d8 lo0 0)= .slice a n n)->False:=fun⟨a,m,e1⟩=>by
    have hge:=n9 lo0 0;simp only[Value.slice.injEq]at e1;obtain⟨_,e2,e3⟩:=e1;rw[<-e2]at e3;unfold unk at hge;omega
   by_cases hl0:l.toN U=0
   ·rw[j9 hl0,bH1]at hxs
    refine⟨_,hxs,?_,fun h _=>(noclip h).elim⟩
    have:=PV.cut (c:=d8 (Nat.max lo0 rows.length) 0) hF hb hn hz hr hx hp' h1 (show 0<=h.toI U-l.toI U by omega) (by omega) ⟨.inr ⟨_,rfl,hmy,by omega⟩,fun h=>(by rw[hnr]at h;cases h),hro.2⟩
    rw[show(l.toI U).toNat=0 from hl0,bO3,bM0,ed,hl0,bN6]at this;exact this
   ·by_cases hlm:l.toN U=Nat.max lo0 rows.length
    ·rw[u6 hl0,bH2,j9 hlm,bH1]at hxs
     refine⟨_,hxs,?_,fun h _=>(noclip h).elim⟩
     rw[J5 (by omega)];exact .vague e
    ·rw[u6 hl0,bH2,u6 hlm,bH2,hg]at hxs
     cases b with
     |cells c2' n2 e2 z2=>
      simp only[arr,rdC,bF4,bF6]at hb;obtain⟨rfl,rfl,rfl⟩:=hb;have ezb:z2=z:=hro.2 rfl;subst ezb;simp only[j9 (show z2=ie.size by omega),bH1,Nat.zero_sub]at hxs
      refine⟨_,hxs,?_,fun h _=>(noclip h).elim⟩
      rw[<-ed,hsz,<-hz];exact PV.cut (l:=l.toI U) (len:=h.toI U-l.toI U) hF rfl hn hz hr hx hp' h1 (by omega) (by omega) ⟨.inr ⟨_,rfl,by omega,by rw[ed];omega⟩,.mk⟩
     |ro=>cases hnr
     |_=>simp[arr,rdC]at hb
theorem bm2 {t e : TypeId} {ie : TypeInfo} (ht : P.underlying t = some (.slice e)) (hie : P.info? e = some ie) (hsz : ie.size = (kf P e).length) {v : Value} {rows : Rows} (hv : PV P F (.sl e) v (.lst rows)) (hnv : rows ≠ [] ∨ ∃ a n, v = .slice a n n) {lo hi : Option SV} {vlo vhi : Option Value} {mx : SV} {vm : Value}
  (hlo:OVD P U τ F lo vlo) (hhi:OVD P U τ F hi vhi) (hmx:VD P U τ F mx vm) {l h m dh dm:E} (el:K4 lo (.int 0)=some l) (eh:K4 hi dh=some h) (em:K4 (some mx) dm=some m) (hh:hi≠none) (h1:0<=l.toI U) (h2:l.toI U<=h.toI U) (h3:h.toI U<=m.toI U) (h4:m.toI U<=rows.length):
  ∃w,p8 P hp t v vlo vhi (some vm)=some (w,hp)/\PV P F (.sl e) w (.lst (part rows (l.toI U) (h.toI U-l.toI U)))/\(h.toI U=m.toI U-> ∃a n,w= .slice a n n):=by
 have el1:l.toI U=((l.toN U:Nat):Int):=by show l.toI U=((l.toI U).toNat:Int);omega
 have eh1:h.toI U=((h.toN U:Nat):Int):=by show h.toI U=((h.toI U).toNat:Int);omega
 have em1:m.toI U=((m.toN U:Nat):Int):=by show m.toI U=((m.toI U).toNat:Int);omega
 have ed:(h.toI U-l.toI U).toNat=h.toN U-l.toN U:=by omega
 have fin:∀ {i o:Nat},h.toI U=m.toI U-> ∃a n,(bif Nat.beq (m.toN U) (l.toN U)then Value.slice (some ⟨i,o,none⟩) (h.toN U-l.toN U) (m.toN U-l.toN U)else .slice (some ⟨i,o+l.toN U*ie.size,none⟩) (h.toN U-l.toN U) (m.toN U-l.toN U))= .slice a n n:=by
  intro i o e1;have:h.toN U=m.toN U:=by omega
  rw[this];cases Nat.beq (m.toN U) (l.toN U)<;>exact⟨_,_,rfl⟩
 cases hv with
 |nils=>
  simp only[bQ5]at h4;refine⟨.slice none 0 0,G4 ht hie (L8 hlo hhi hmx el eh em h1 h2 h3 h4 rfl hh),?_,fun _=>⟨_,_,rfl⟩⟩
  rw[J5 (by omega)];exact .nils e
 |vague=>
  rcases hnv with h| ⟨a,n,e⟩
  ·exact absurd rfl h
  ·cases e
 |sl _ i o c b cs n z _ x hF hb hc hn hz hr hx hp'=>
  obtain⟨hc,hro⟩:=hc;have key:PV P F (.sl e) (bif Nat.beq (m.toN U) (l.toN U)then Value.slice (some ⟨i,o,none⟩) (h.toN U-l.toN U) (m.toN U-l.toN U)else .slice (some ⟨i,o+l.toN U*ie.size,none⟩) (h.toN U-l.toN U) (m.toN U-l.toN U)) (.lst (part rows (l.toI U) (h.toI U-l.toI U)))\/ ¬m.toN U<unk:=by
   by_cases hu:m.toN U<unk
   ·left
    by_cases hcl:m.toN U=l.toN U
    ·rw[j9 hcl,bH1,J5 (by omega),show h.toN U-l.toN U=0 by omega]
     exact PV.cut0 hF hb (by omega) hz ⟨.inl ⟨by omega,by omega⟩,fun _=>by omega,hro.2⟩
    ·rw[u6 hcl,bH2,<-ed,hsz,<-hz]
     exact PV.cut (l:=l.toI U) (len:=h.toI U-l.toI U) hF hb hn hz hr hx hp' h1 (by omega) (by omega) ⟨.inl ⟨by omega,by rw[ed];omega⟩,fun _=>by omega,hro.2⟩
   ·exact .inr hu
  rcases hc with⟨c1,c2⟩| ⟨lo0,rfl,c2,c3⟩
  ·have hxs:=X1 (hp:=hp) (i:=i) (a:=o) ht hie c1 c2 (L8 hlo hhi hmx el eh em h1 h2 h3 (show m.toI U<=(c:Int) by omega) rfl hh)
   simp only[bJ6]at hxs;exact⟨_,hxs,key.resolve_right (fun h=>h (by omega)),fin⟩
  ·have hmx':=Q5 lo0 rows.length
   have hxs:=ak1 (hp:=hp) (i:=i) (a:=o) ht hie c2 c3 (L8 hlo hhi hmx el eh em h1 h2 h3 (show m.toI U<=((Nat.max lo0 rows.length:Nat):Int) by omega) rfl hh)
   exact⟨_,hxs,key.resolve_right (fun h=>h (aw0 (by omega))),fin⟩
theorem bn9 {t : TypeId} {a : SV} {v : Value} {lo hi mx : Option SV} {vlo vhi vmx : Option Value} (ha : VD P U τ F a v) (hlo : OVD P U τ F lo vlo) (hhi : OVD P U τ F hi vhi) (hmx : OVD P U τ F mx vmx) (hs : SD P U τ F s hp) :
  OKh P U (bc6 P U t a lo hi mx) τ F s hp (be8 P U hp t v vlo vhi vmx):=by
 unfold bc6;split
 ·
  rename_i ht;split
  ·rename_i e
   cases vmx with
   |some v=>exact hmx.elim
   |none=>
    split
    ·rename_i l h el eh
     refine OKp.slice (F5.bind fun _ _ _ _ hb=>OKp.ret ?_)
     obtain⟨h1,h2,h3⟩:=hb;rw[J0]at h3;cases ha;refine⟨.string ⟨(((e.den U).toStr.take (h.toN U)).drop (l.toN U)).toArray⟩,?_,VD.str' (ba2 e l h)⟩;simp only[p8,ht];rw[D3 hlo hhi el eh h1 h2 h3 rfl (fun hn=>by
      subst hn;simp only[K4,bF4]at eh;subst eh;show((U2 e).toI U).toNat=_;rw[J0];omega)]
    ·exact OKh.fail
  ·exact OKh.fail
 ·rename_i e ht
  split
  ·exact OKh.fail
  ·rename_i ie hie
   split
   ·
    cases ha;split
    ·rename_i l h el eh
     cases vmx with
     |some v=>exact hmx.elim
     |none=>
      refine OKp.slice (F5.bind fun _ _ _ _ hb=>OKp.ret ⟨.slice none 0 0,?_,.nils⟩)
      obtain⟨h1,h2,h3⟩:=hb;refine G4 ht hie (D3 hlo hhi el eh h1 h2 h3 rfl (fun hn=>?_))
      subst hn;simp only[K4,bF4]at eh;subst eh;rfl
    ·rename_i l h m' el eh
     cases vmx with
     |none=>exact hmx.elim
     |some vm=>
      split
      ·rename_i m x em
       refine OKp.slice (F5.bind fun _ _ _ _ hb=>OKp.need.bind fun _ _ _ _ hm=>OKp.ret ⟨.slice none 0 0,?_,.nils⟩)
       obtain⟨h1,h2,h3⟩:=hb;have hm:=u7 hm;exact G4 ht hie (L8 hlo hhi hmx el eh em h1 h2 h3 hm rfl (by simp))
      ·exact OKh.fail
    ·exact OKh.fail
   ·
    rename_i b z off len cap;cases hz:Nat.beq z ie.size with
    |false=>exact OKh.fail
    |true=>
     simp only[bH1];have hz':z=ie.size:=bF9 hz;split
     ·rename_i l h el eh
      cases vmx with
      |some v=>exact hmx.elim
      |none=>
       split
       ·
        rename_i c;refine OKh.bindp F5 fun _ s1 _ hs1 hb=>OKp.slice ?_
        obtain⟨h1,h2,h3⟩:=hb;cases ha with
        |sl _ _ _ _ _ i o c' hτ h0 h0' hc=>
         obtain⟨c1,c2,c3,c4⟩:=hc;subst c2;refine(ab9 hτ h0 h1 h2 h3 c3 rfl).mono fun x hx=>⟨_,?_,hx⟩
         rw[X1 ht hie c3 (show len.toN U<=c.toN U by show(len.toI U).toNat<=(c.toI U).toNat;omega)
          (D3 hlo hhi el eh h1 h2 (show h.toI U<=((c.toN U:Nat):Int) by show h.toI U<=(((c.toI U).toNat:Nat):Int);omega) rfl (fun hn=>by subst hn;simp only[K4,bF4]at eh;subst eh;rfl))]
         subst hz';rfl
        |sl0 _ _ _ _ _ hτ h0 h0' hc=>
         have hc:=hc c rfl;refine(aG3 hτ h0 h1 h2 h3 (by omega)).mono fun x hx=>⟨_,?_,hx⟩
         refine G4 ht hie (D3 hlo hhi el eh h1 h2 (by omega) rfl (fun hn=>?_))
         subst hn;simp only[K4,bF4]at eh;subst eh;show(len.toI U).toNat=0;omega
       ·
        refine OKh.bindp F5 fun _ s1 o1 hs1 hb=>?_
        obtain⟨h1,h2,h3⟩:=hb;have hlh:hi=none->h.toN U=len.toN U:=fun hn=>by subst hn;simp only[K4,bF4]at eh;subst eh;rfl
        unfold bC3;cases hzl:ai3 l with
        |true=>
         simp only[bH1];have hl:=aG8 (U:=U) hzl;have hl':l.toN U=0:=by show(l.toI U).toNat=0;rw[hl];rfl
         refine OKp.slice (OKp.ret ?_);cases ha with
         |sl _ _ _ _ _ i o c' hτ h0 h0' hc=>
          obtain⟨lo0,rfl,c1,c2⟩:=hc;have hln:len.toN U<=67108864:=by show(len.toI U).toNat<=_;omega
          have hmy:=V5 c1 hln;have hb:=D3 hlo hhi el eh h1 h2 (show h.toI U<=((Nat.max lo0 (len.toN U):Nat):Int) by
           have:=Q5 lo0 (len.toN U);have e1:len.toI U=((len.toN U:Nat):Int):=by show len.toI U=((len.toI U).toNat:Int);omega
           omega) rfl hlh
          refine⟨_,by rw[aa4 ht hie c1 hln hb,hl',j9 rfl,bH1],?_⟩
          exact VD.sl' hτ h0 (by omega) ⟨Nat.max lo0 (len.toN U),rfl,by omega,by omega⟩ rfl rfl
         |sl0 _ _ _ _ _ hτ h0 h0' hc=>
          refine⟨.slice none 0 0,G4 ht hie (D3 hlo hhi el eh h1 h2 (by omega) rfl (fun hn=>by rw[hlh hn];show(len.toI U).toNat=0;omega)),?_⟩
          exact .sl0 b z off h .ge hτ h0 (by omega) (fun e he=>by cases he)
        |false=>
         simp only[bH2];refine OKh.bindp OKp.test fun tt s2 o2 hs2 htt=>OKh.read ?_
         rw[C3]at htt;split
         ·rename_i L e' z' ph hb
          cases hq:Nat.beq e e'&&Nat.beq z z' with
          |false=>exact OKh.fail
          |true=>
           simp only[bH1];simp only[bF5,bJ4]at hq;obtain⟨rfl,rfl⟩:=hq
           rcases hs2.live b _ hb with⟨i,o,y,k1,k2,kF,cs,n,rfl,k4,k5⟩| ⟨k1,L',e',z',ph',k2,k3,k4,k5⟩
           ·cases ha with
            |sl _ _ _ _ _ i' o' c' hτ h0 h0' hc=>
             rw[k1]at hτ;simp only[bF4,bF6]at hτ;obtain⟨rfl,rfl⟩:=hτ;obtain⟨lo0,rfl,c1,c2⟩:=hc;have hln:len.toN U<=67108864:=by show(len.toI U).toNat<=_;omega
             have e1:len.toI U=((len.toN U:Nat):Int):=by show len.toI U=((len.toI U).toNat:Int);omega
             have el1:l.toI U=((l.toN U:Nat):Int):=by show l.toI U=((l.toI U).toNat:Int);omega
             have hmx':=Q5 lo0 (len.toN U);have hmy:=V5 c1 hln;have hbd:=D3 hlo hhi el eh h1 h2 (show h.toI U<=((Nat.max lo0 (len.toN U):Nat):Int) by omega) rfl hlh
             have hx:=aa4 (hp:=hp) (i:=i) (a:=o+off.toN U*z) ht hie c1 hln hbd;cases tt with
             |true=>
              simp only[bH1];simp only[bH5]at htt;refine OKp.slice (OKp.ret ?_)
              by_cases hl0:l.toN U=0
              ·rw[j9 hl0,bH1]at hx
               refine⟨_,hx,VD.sl' k1 (by rw[i4];omega) (by rw[p7];omega) ⟨Nat.max lo0 (len.toN U),rfl,by omega,by rw[p7];omega⟩ ?_ ?_⟩
               ·rw[am6 h0 h1,hl0];simp
               ·rw[Z3 h1,hl0];simp
              ·rw[u6 hl0,bH2,u6 (by omega),bH2,k2]at hx
               simp only[j9 hz',bH1,Nat.zero_sub]at hx;refine⟨_,hx,VD.sl' k1 (by rw[i4];omega) (by rw[p7];omega) ⟨Nat.max lo0 (len.toN U)-l.toN U,rfl,by omega,by rw[p7];omega⟩ ?_ ?_⟩
               ·rw[am6 h0 h1,bJ0,hz'];omega
               ·rw[Z3 h1]
             |false=>
              simp only[bH2];simp only[bK2]at htt;refine OKh.bindp OKp.need fun _ s3 o3 hs3 p1=>?_
              have p1:=u7 p1;rw[i4,e9]at p1;have hb3:s3.get b=some (.rows L e z ph):=by rw[o3.get];exact hb
              refine(OKh.freeze hb3 k1 k2).bind fun _ τ2 F2 s4 hp2 ex hs4 ⟨f1,f2,f3⟩=>?_
              subst f1;subst f2;refine OKh.ret ⟨rfl,?_⟩;have hll:l.toN U=len.toN U:=by omega
              have hhh:h.toN U-l.toN U=0:=by
               have:h.toI U=l.toI U:=by omega
               show(h.toI U).toNat-(l.toI U).toNat=0;rw[this];omega
              have han:o+off.toN U*z+l.toN U*z<=n:=by
               have g1:=k4.1;have:off.toN U*z+l.toN U*z<=(L.toR U).length*z:=by
                rw[<-bJ0];exact bG7 z (by show(off.toI U).toNat+l.toN U<=_;omega)
               omega
              have hnil:(E.op .nil []).toR U=[]:=rfl
              by_cases hl0:l.toN U=0
              ·rw[j9 hl0,bH1]at hx
               have hh0:h.toN U=0:=by omega
               rw[hh0]at hx;refine⟨_,hx,.lst e _ false _ ?_ (fun h=>by cases h)⟩
               rw[hnil];exact PV.cut0 f3 rfl (by omega) k4.2.1 ⟨.inr ⟨_,rfl,by omega,by omega⟩,.mk⟩
              ·by_cases hlm:l.toN U=Nat.max lo0 (len.toN U)
               ·rw[u6 hl0,bH2,j9 hlm,bH1]at hx
                refine⟨_,hx,.lst e _ false _ ?_ (fun h=>by cases h)⟩
                rw[hnil];exact .vague e
               ·rw[u6 hl0,bH2,u6 hlm,bH2,k2]at hx
                simp only[j9 hz',bH1,Nat.zero_sub,hhh]at hx;refine⟨_,hx,.lst e _ false _ ?_ (fun h=>by cases h)⟩
                rw[hnil,<-hz'];exact PV.cut0 f3 rfl han k4.2.1 ⟨.inr ⟨_,rfl,by omega,by omega⟩,.mk⟩
            |sl0 _ _ _ _ _ hτ h0 h0' hc=>rw[k1]at hτ;cases hτ
           ·cases ha with
            |sl _ _ _ _ _ i' o' c' hτ h0 h0' hc=>rw[k1]at hτ;cases hτ
            |sl0 _ _ _ _ _ hτ h0 h0' hc=>
             have hx:p8 P hp t (.slice none 0 0) vlo vhi none=some (.slice none 0 0,hp):=G4 ht hie (D3 hlo hhi el eh h1 h2 (by omega) rfl (fun hn=>by rw[hlh hn];show(len.toI U).toNat=0;omega))
             cases tt with
             |true=>simp only[bH5]at htt;omega
             |false=>
              simp only[bH2];refine OKh.bindp OKp.need fun _ s3 o3 hs3 p1=>?_
              refine OKh.drop.bind fun _ τ2 F2 s4 hp2 ex hs4 ⟨f1,f2,f3⟩=>?_
              subst f1;subst f2;subst f3;exact OKh.ret ⟨rfl,_,hx,.lst e _ false _ (.nils e) (fun h=>by cases h)⟩
         ·rename_i cl e' z' hb
          cases hq:Nat.beq e e'&&Nat.beq z z'&&tt with
          |false=>exact OKh.fail
          |true=>
           simp only[bH1];simp only[bF5,bJ4]at hq;obtain⟨⟨rfl,rfl⟩,rfl⟩:=hq;simp only[bH5]at htt
           rcases hs2.live b _ hb with⟨i,o,y,k1,k2,kF,cs,n,rfl,k4,k5⟩| ⟨k1,L',e',z',ph',k2,k3,k4,k5⟩
           ·cases ha with
            |sl _ _ _ _ _ i' o' c' hτ h0 h0' hc=>
             rw[k1]at hτ;simp only[bF4,bF6]at hτ;obtain⟨rfl,rfl⟩:=hτ;obtain⟨lo0,rfl,c1,c2⟩:=hc;have hln:len.toN U<=67108864:=by show(len.toI U).toNat<=_;omega
             have e1:len.toI U=((len.toN U:Nat):Int):=by show len.toI U=((len.toI U).toNat:Int);omega
             have el1:l.toI U=((l.toN U:Nat):Int):=by show l.toI U=((l.toI U).toNat:Int);omega
             have hmx':=Q5 lo0 (len.toN U);have hmy:=V5 c1 hln;have hbd:=D3 hlo hhi el eh h1 h2 (show h.toI U<=((Nat.max lo0 (len.toN U):Nat):Int) by omega) rfl hlh
             have hx:=aa4 (hp:=hp) (i:=i) (a:=o+off.toN U*z) ht hie c1 hln hbd;refine OKp.slice (OKp.ret ?_)
             by_cases hl0:l.toN U=0
             ·rw[j9 hl0,bH1]at hx
              refine⟨_,hx,VD.sl' k1 (by rw[i4];omega) (by rw[p7];omega) ⟨Nat.max lo0 (len.toN U),rfl,by omega,by rw[p7];omega⟩ ?_ ?_⟩
              ·rw[am6 h0 h1,hl0];simp
              ·rw[Z3 h1,hl0];simp
             ·rw[u6 hl0,bH2,u6 (by omega),bH2,k2]at hx
              simp only[j9 hz',bH1,Nat.zero_sub]at hx;refine⟨_,hx,VD.sl' k1 (by rw[i4];omega) (by rw[p7];omega) ⟨Nat.max lo0 (len.toN U)-l.toN U,rfl,by omega,by rw[p7];omega⟩ ?_ ?_⟩
              ·rw[am6 h0 h1,bJ0,hz'];omega
              ·rw[Z3 h1]
            |sl0 _ _ _ _ _ hτ h0 h0' hc=>rw[k1]at hτ;cases hτ
           ·cases k2
         ·exact OKh.fail
       ·exact OKh.fail
     ·rename_i l h m' el eh
      cases vmx with
      |none=>exact hmx.elim
      |some vm=>
       split
       ·rename_i m x em
        refine OKh.bindp F5 fun _ s1 _ hs1 hb=>OKh.bindp OKp.need fun _ s2 _ hs2 hm=>OKp.slice ?_
        obtain⟨h1,h2,h3⟩:=hb;have hm:=u7 hm;cases ha with
        |sl _ _ _ _ _ i o c' hτ h0 h0' hc=>
         cases cap with
         |ex c=>
          obtain⟨c1,c2,c3,c4⟩:=hc;subst c2;have hm':m.toI U<=((c.toN U:Nat):Int):=by have:m.toI U<=c.toI U:=hm;show m.toI U<=(((c.toI U).toNat:Nat):Int);omega
          have hmu:m.toN U<unk:=by show(m.toI U).toNat<unk;have:c.toN U<unk:=c3;omega
          refine(ab9 hτ h0 h1 h2 h3 hmu rfl).mono fun x hx=>⟨_,?_,hx⟩
          rw[X1 ht hie c3 (show len.toN U<=c.toN U by show(len.toI U).toNat<=(c.toI U).toNat;omega) (L8 hlo hhi hmx el eh em h1 h2 h3 hm' rfl (by simp))]
          subst hz';rfl
         |ge=>
          obtain⟨lo0,rfl,c1,c2⟩:=hc;have hm:m.toI U<=len.toI U:=hm;have hln:len.toN U<=67108864:=by show(len.toI U).toNat<=_;omega
          have e1:len.toI U=((len.toN U:Nat):Int):=by show len.toI U=((len.toI U).toNat:Int);omega
          have hmx':=Q5 lo0 (len.toN U);have hmy:=V5 c1 hln;have hmu:m.toN U<unk:=aw0 (by show(m.toI U).toNat<=_;omega)
          refine(ab9 hτ h0 h1 h2 h3 hmu rfl).mono fun x hx=>⟨_,?_,hx⟩
          rw[ak1 ht hie c1 hln (L8 hlo hhi hmx el eh em h1 h2 h3 (by omega) rfl (by simp))]
          subst hz';rfl
         |un=>
          have hm:m.toI U<=len.toI U:=hm
          rcases hc with⟨c3,rfl,c2⟩| ⟨lo0,rfl,c1,c2⟩
          ·have hm':m.toI U<=((len.toN U:Nat):Int):=by show m.toI U<=(((len.toI U).toNat:Nat):Int);omega
           have hmu:m.toN U<unk:=by show(m.toI U).toNat<unk;have:(len.toI U).toNat<unk:=c3;omega
           refine(ab9 hτ h0 h1 h2 h3 hmu rfl).mono fun x hx=>⟨_,?_,hx⟩
           rw[X1 ht hie c3 (bH7 _) (L8 hlo hhi hmx el eh em h1 h2 h3 hm' rfl (by simp))]
           subst hz';rfl
          ·have hln:len.toN U<=67108864:=by show(len.toI U).toNat<=_;omega
           have e1:len.toI U=((len.toN U:Nat):Int):=by show len.toI U=((len.toI U).toNat:Int);omega
           have hmx':=Q5 lo0 (len.toN U);have hmy:=V5 c1 hln;have hmu:m.toN U<unk:=aw0 (by show(m.toI U).toNat<=_;omega)
           refine(ab9 hτ h0 h1 h2 h3 hmu rfl).mono fun x hx=>⟨_,?_,hx⟩
           rw[ak1 ht hie c1 hln (L8 hlo hhi hmx el eh em h1 h2 h3 (by omega) rfl (by simp))]
           subst hz';rfl
        |sl0 _ _ _ _ _ hτ h0 h0' hc=>
         have hm0:m.toI U<=0:=by
          cases cap with
          |ex c=>have:=hc c rfl;have hm:m.toI U<=c.toI U:=hm;omega
          |ge=>have hm:m.toI U<=len.toI U:=hm;omega
          |un=>have hm:m.toI U<=len.toI U:=hm;omega
         exact(aG3 hτ h0 h1 h2 h3 hm0).mono fun x hx=>⟨_,G4 ht hie (L8 hlo hhi hmx el eh em h1 h2 h3 (by omega) rfl (by simp)),hx⟩
       ·exact OKh.fail
     ·exact OKh.fail
   ·
    rename_i e' L clip;cases hq:Nat.beq e e'&&Nat.beq ie.size (kf P e).length with
    |false=>exact OKh.fail
    | true =>
     simp only[bH1];simp only[bF5,bJ4]at hq;obtain⟨rfl,hsz⟩:=hq;cases ha with
     | lst _ _ _ _ hv hc =>
      split
      ·rename_i l h el eh
       cases vmx with
       |some v=>exact hmx.elim
       | none =>
        refine OKp.slice (F5.bind fun _ _ _ _ hb=>y7.bind fun c _ _ _ hcd=>OKp.ret ?_)
        obtain⟨h1,h2,h3⟩:=hb;rw[e9]at h3;obtain⟨w,w1,w2,w3⟩:=bm1 (hp:=hp) ht hie hsz hs.frz hv hlo hhi el eh (e9 L) h1 h2 h3;refine⟨w,w1,.lst e c _ w ?_ (fun hcl=>?_)⟩
        ·have : c.toR U = part (L.toR U) (l.toI U) (h.toI U - l.toI U) := by
          show(c.den U).rows=_;rw[hcd,p7];rfl
         rw[this];exact w2
        ·simp only[bF5]at hcl
         exact w3 (hc hcl.1) (by cases hi with|none=>rfl|some x=>simp at hcl)
      ·rename_i l h m' el eh
       cases vmx with
       |none=>exact hmx.elim
       |some vm=>
        split
        ·rename_i m x em
         refine OKp.slice (F5.bind fun _ _ _ _ hb=>OKp.need.bind fun _ _ _ _ hm=>?_)
         obtain⟨h1,h2,h3⟩:=hb;have hm:=u7 hm;rw[e9]at hm;refine OKp.bind (R:=fun _=>L.toR U≠ []\/ ∃a n,v= .slice a n n) ?_ fun _ _ _ _ hnv=>?_
         ·cases clip with
          |true=>exact OKp.ret (.inr (hc rfl))
          |false=>
           refine OKp.need.mono fun _ h=>.inl fun h'=>?_
           have:=y8 h;rw[e9,h']at this;simp[w9]at this
         ·refine y7.bind fun c _ _ _ hcd=>?_
          obtain⟨w,w1,w2,w3⟩:=bm2 (hp:=hp) ht hie hsz hv hnv hlo hhi hmx el eh em (by simp) h1 h2 h3 hm
          have hcR:c.toR U=part (L.toR U) (l.toI U) (h.toI U-l.toI U):=by
           show(c.den U).rows=_;rw[hcd,p7];rfl
          rw[<-hcR]at w2;cases E.like h m with
          |true=>
           simp only[bH1];exact OKp.need.bind fun _ _ _ _ hem=>OKp.ret ⟨w,w1,.lst e c true w w2 (fun _=>w3 (ae9 hem))⟩
          |false=>exact OKp.ret ⟨w,w1,.lst e c false w w2 (fun h=>by cases h)⟩
        ·exact OKh.fail
      ·exact OKh.fail
   ·exact OKh.fail
 ·exact OKh.fail
end
end Go.Sx
