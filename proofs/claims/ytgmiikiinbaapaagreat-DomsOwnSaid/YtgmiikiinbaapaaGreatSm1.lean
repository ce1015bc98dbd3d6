/- The symbolic engine, parts 1, 2, 3, 4, 5, 6, 7, 8, 9, 10, 11, 12.
  Conditions: none. -/
import Derived.Test.YtgmiikiinbaapaaGreatXm3
set_option linter.all false
namespace Go.Sx
abbrev Nd (p q:Prop):Prop:=p/\(p->q)
abbrev I64 (x:Int):Prop:=(¬x< -9223372036854775808)/\x<9223372036854775808
inductive Dat where
 |int (n:Int)
 |bool (b:Bool)
 |str (s:Ae)
 |lst (rows:List (List Dat))
abbrev Ar:=List Dat
abbrev Ab:=Nat ->Ar->Dat
instance : Inhabited Dat:=⟨.int 0⟩
def Dat.toInt (d:Dat):Int:=match d with| .int n=>n|_=>0
def Dat.toBool (d:Dat):Bool:=match d with| .bool b=>b|_=>false
def Dat.toStr (d:Dat):Ae:=match d with| .str s=>s|_=>[]
def Dat.rows (d:Dat):List (Ar):=match d with| .lst l=>l|_=>[]
abbrev Rows:=List (Ar)
def z4 (L:Rows)(i:Int)(j:Nat):Dat:=(L.getD i.toNat []).getD j (.int 0)
def a8 (L:Rows)(i:Int)(j:Nat)(d:Dat):Rows:=L.modify i.toNat (fun r=>r.set j d)
def pQ (L:Rows)(a n:Int):Rows:=(L.drop a.toNat).take n.toNat
def over (L:Rows)(a:Int)(l:Rows):Rows:=L.take a.toNat++l++L.drop (a.toNat+l.length)
def b8 (z:Nat):Nat->Ar->Rows
 |0,_=>[]
 |n+1,l=>l.take z::b8 z n (l.drop z)
inductive KV where
 |i (n:Int)
 |s (l:Ae)
 deriving DecidableEq
def KV.dat (k:KV):Dat:=match k with| .i n=>.int n| .s l=>.str l
def Dat.kv (d:Dat):KV:=match d with| .int n=>.i n| .str l=>.s l|_=>.i 0
def keyR (z:Nat)(r:Ar):List KV:=(r.take z).map Dat.kv
def NR :Rows->List KV->Bool
 | [],_=>false|r::L,ks=>decide (keyR ks.length r=ks)||NR L ks
def NQ :Rows->List KV->Dat->Dat
 | [],_,d=>d|r::L,ks,d=>if keyR ks.length r=ks then r.getD ks.length (.int 0)else NQ L ks d
def NT :Rows->List KV->Dat->Rows
 | [],ks,v=>[ks.map KV.dat++ [v]]
 |r::L,ks,v=>if keyR ks.length r=ks then(ks.map KV.dat++ [v])::L else r::NT L ks v
def NS :Rows->List KV->Nat
 | [],_=>0|r::L,ks=>if keyR ks.length r=ks then 0 else NS L ks+1
def runeAt (l:Ae)(i:Int):Int:=(Utf8.decode ⟨l.toArray⟩ i.toNat).1
def runeW (l:Ae)(i:Int):Int:=(Utf8.decode ⟨l.toArray⟩ i.toNat).2
inductive Sy where
 |add|sub|mul|tdiv|tmod
 |wrap (k:IntKind)
 |bits (op:BinOp) (k:IntKind)
 |shl (k:IntKind)|shr (k:IntKind)
 |lt|eqi|eqb|eqs|lts
 |not|and|or
 |len|get (j:Nat)|upd (j:Nat)|nil|app|part|over
 |rows (n z:Nat)|rep
 |slen|sidx|sapp|ssub|srune|srw
 |castI|castB|castS|castL
 |mhas|mget|mput|mix
 |user (n:Nat)
inductive E where
 |int (n:Int)
 |bool (c:Bool)
 |str (l:Ae)
 |var (n:Nat)
 |dat (n:Nat) (d:Dat)
 |op (o:Sy) (as:List E)
abbrev Au:=List E
instance : Inhabited E:=⟨.int 0⟩
section
variable (U :Ab)
def Sy.den (o:Sy)(as:Ar):Dat:=
 match o with
 | .add=>match as with| [a,b]=>.int (a.toInt+b.toInt)|_=>.int 0
 | .sub=>match as with| [a,b]=>.int (a.toInt-b.toInt)|_=>.int 0
 | .mul=>match as with| [a,b]=>.int (a.toInt*b.toInt)|_=>.int 0
 | .tdiv=>match as with| [a,b]=>.int (a.toInt.tdiv b.toInt)|_=>.int 0
 | .tmod=>match as with| [a,b]=>.int (a.toInt.tmod b.toInt)|_=>.int 0
 | .wrap k=>match as with| [a]=>.int (k.wrap a.toInt)|_=>.int 0
 | .bits op k=>match as with| [a,b]=>.int (Go.bits op k a.toInt b.toInt)|_=>.int 0
 | .shl k=>match as with| [a,b]=>.int (k.wrap (a.toInt*2^(min b.toInt.toNat k.bits)))|_=>.int 0
 | .shr k=>match as with| [a,b]=>.int (a.toInt.fdiv (2^(min b.toInt.toNat k.bits)))|_=>.int 0
 | .lt=>match as with| [a,b]=>.bool (decide (a.toInt<b.toInt))|_=>.int 0
 | .eqi=>match as with| [a,b]=>.bool (decide (a.toInt=b.toInt))|_=>.int 0
 | .eqb=>match as with| [a,b]=>.bool (a.toBool==b.toBool)|_=>.int 0
 | .eqs=>match as with| [a,b]=>.bool (a.toStr==b.toStr)|_=>.int 0
 | .lts=>match as with| [a,b]=>.bool (Op.bytesLess a.toStr b.toStr)|_=>.int 0
 | .not=>match as with| [a]=>.bool (!a.toBool)|_=>.int 0
 | .and=>match as with| [a,b]=>.bool (a.toBool&&b.toBool)|_=>.int 0
 | .or=>match as with| [a,b]=>.bool (a.toBool||b.toBool)|_=>.int 0
 | .len=>match as with| [l]=>.int l.rows.length|_=>.int 0
 | .get j=>match as with| [l,i]=>z4 l.rows i.toInt j|_=>.int 0
 | .upd j=>match as with| [l,i,c]=>.lst (a8 l.rows i.toInt j c)|_=>.int 0
 | .nil=>.lst []| .app=>match as with| [l,m]=>.lst (l.rows++m.rows)|_=>.int 0
 | .part=>match as with| [l,a,n]=>.lst (pQ l.rows a.toInt n.toInt)|_=>.int 0
 | .over=>match as with| [l,a,m]=>.lst (Sx.over l.rows a.toInt m.rows)|_=>.int 0
 | .rows n z=>.lst (b8 z n as)| .rep=>match as with|n::cs=>.lst (List.replicate n.toInt.toNat cs)|_=>.int 0
 | .slen=>match as with| [s]=>.int s.toStr.length|_=>.int 0
 | .sidx=>match as with| [s,i]=>.int ((s.toStr.getD i.toInt.toNat 0).toNat:Int)|_=>.int 0
 | .sapp=>match as with| [s,t]=>.str (s.toStr++t.toStr)|_=>.int 0
 | .ssub=>match as with| [s,a,b]=>.str ((s.toStr.take b.toInt.toNat).drop a.toInt.toNat)|_=>.int 0
 | .srune=>match as with| [s,i]=>.int (runeAt s.toStr i.toInt)|_=>.int 0
 | .srw=>match as with| [s,i]=>.int (runeW s.toStr i.toInt)|_=>.int 0
 | .castI=>match as with| [a]=>.int a.toInt|_=>.int 0
 | .castB=>match as with| [a]=>.bool a.toBool|_=>.int 0
 | .castS=>match as with| [a]=>.str a.toStr|_=>.int 0
 | .castL=>match as with| [a]=>.lst a.rows|_=>.int 0
 | .mhas=>match as with|l::ks=>.bool (NR l.rows (ks.map Dat.kv))|_=>.int 0
 | .mget=>match as with|l::d::ks=>NQ l.rows (ks.map Dat.kv) d|_=>.int 0
 | .mput=>match as with|l::v::ks=>.lst (NT l.rows (ks.map Dat.kv) v)|_=>.int 0
 | .mix=>match as with|l::ks=>.int (NS l.rows (ks.map Dat.kv):Nat)|_=>.int 0
 | .user n=>U n as
mutual
def E.den :E->Dat
 | .int n=>.int n| .bool c=>.bool c| .str l=>.str l| .var _=>.int 0| .dat _ d=>d| .op o as=>o.den U (E.dens as)
def E.dens :Au->Ar
 | []=>[]
 |a::as=>a.den::E.dens as
end
def E.dens_eq :∀as:Au,E.dens U as=as.map (E.den U)
 | []=>rfl|a::as=>by simp[E.dens,E.dens_eq as]
def E.pr :E->Prop
 | .bool c=>c=true| .op .lt [a,b]=>(a.den U).toInt<(b.den U).toInt| .op .eqi [a,b]=>(a.den U).toInt=(b.den U).toInt| .op .eqs [a,b]=>(a.den U).toStr=(b.den U).toStr| .op .not [a]=>¬a.pr| .op .and [a,b]=>a.pr/\b.pr| .op .or [a,b]=>a.pr\/b.pr|e=>(e.den U).toBool=true
theorem E.pr_iff (e:E):e.pr U↔(e.den U).toBool=true:=by
 fun_induction E.pr U e with
 |case1 c=>simp[E.den,Dat.toBool]|case2 a b=>simp[E.den,E.dens,Sy.den,Dat.toBool]|case3 a b=>simp[E.den,E.dens,Sy.den,Dat.toBool]|case4 a b=>simp[E.den,E.dens,Sy.den,Dat.toBool]|case5 a j=>simp[E.den,E.dens,Sy.den,Dat.toBool,j]|case6 a b f g=>simp[E.den,E.dens,Sy.den,Dat.toBool,f,g]|case7 a b f g=>simp[E.den,E.dens,Sy.den,Dat.toBool,f,g]|case8 e _ _ _ _ _ _ _=>grind
def Ru:type_of% @E.pr_iff:=@E.pr_iff
def Sy.like :Sy->Sy->Bool
 | .add,.add| .sub,.sub| .mul,.mul| .tdiv,.tdiv| .tmod,.tmod| .lt,.lt| .eqi,.eqi| .eqb,.eqb| .eqs,.eqs| .lts,.lts| .not,.not| .and,.and| .or,.or
 | .len,.len| .nil,.nil| .app,.app| .part,.part| .over,.over| .rep,.rep| .slen,.slen| .sidx,.sidx| .sapp,.sapp| .ssub,.ssub| .srune,.srune| .srw,.srw| .castI,.castI| .castB,.castB| .castS,.castS| .castL,.castL| .mhas,.mhas| .mget,.mget| .mput,.mput| .mix,.mix=>true
 | .shr k,.shr k'=>decide (k=k')| .wrap k,.wrap k'=>decide (k=k')| .shl k,.shl k'=>decide (k=k')| .bits o k,.bits o' k'=>decide (o=o')&&decide (k=k')| .get j,.get j'=>Nat.beq j j'| .upd j,.upd j'=>Nat.beq j j'| .user j,.user j'=>Nat.beq j j'| .rows n z,.rows n' z'=>Nat.beq n n'&&Nat.beq z z'|_,_=>false
mutual
def E.like :E->E->Bool
 | .int n,.int m=>decide (n=m)| .bool p,.bool q=>p==q| .str p,.str q=>p==q| .var n,.var m=>Nat.beq n m| .dat n _,.dat m _=>Nat.beq n m| .op o as,.op o' bs=>Sy.like o o'&&E.likes as bs|_,_=>false
def E.likes :Au->Au->Bool
 | [],[]=>true|a::as,b::bs=>E.like a b&&E.likes as bs|_,_=>false
end
inductive So where
 |i|b|s|l
 deriving DecidableEq
inductive Lab where
 |e (c:E)
 |p (name:String) (as:Au)
 |q (a b:E)
 |pt (name:String) (gs:List (List (So×E)))
 |mu (name:String) (g a b:List (So×E))
inductive Tr (α:Type) where
 |ret (a:α)
 |done
 |fail (s:String)
 |br (c:E) (t e:Tr α)
 |need (l:Lab) (p:Prop) (t:Tr α)
 |asm (l:Lab) (p:Prop) (t:Tr α)
 |both (t e:Tr α)
 |all (k:So) (n:Nat) (f:E->Tr α)
def Tr.bind {α β:Type}:Tr α->(α->Tr β)->Tr β
 | .ret a,k=>k a| .done,_=>.done| .fail s,_=>.fail s| .br c t e,k=>.br c (t.bind k) (e.bind k)| .need l p t,k=>.need l p (t.bind k)| .asm l p t,k=>.asm l p (t.bind k)| .both t e,k=>.both (t.bind k) (e.bind k)| .all o n f,k=>.all o n fun e=>(f e).bind k
def Tr.vc {α:Type}:Tr α->(α->Prop)->Prop
 | .ret a,Q=>Q a| .done,_=>True| .fail _,_=>False| .br c t e,Q=>(c.pr U->t.vc Q)/\(¬c.pr U->e.vc Q)| .need _ p t,Q=>p/\(p->t.vc Q)| .asm _ p t,Q=>p->t.vc Q| .both t e,Q=>t.vc Q/\e.vc Q| .all .i n f,Q=>∀x:Int,(f (.dat n (.int x))).vc Q| .all .b n f,Q=>∀x:Bool,(f (.dat n (.bool x))).vc Q| .all .s n f,Q=>∀x:Ae,(f (.dat n (.str x))).vc Q| .all .l n f,Q=>∀x:Rows,(f (.dat n (.lst x))).vc Q
def Tr.vc_bind {α g:Type}(t:Tr α)(k:α->Tr g)(Q:g->Prop):(t.bind k).vc U Q↔t.vc U fun a=>(k a).vc U Q:=by
 induction t with
 |ret a=>exact Iff.rfl|done=>exact Iff.rfl|fail s=>exact Iff.rfl|br c t e h1 h2=>simp only[Tr.bind,Tr.vc,h1,h2]|need l p t h=>simp only[Tr.bind,Tr.vc,h]|asm l p t h=>simp only[Tr.bind,Tr.vc,h]|both t e h1 h2=>simp only[Tr.bind,Tr.vc,h1,h2]|all k n f h=>cases k<;>simp only[Tr.bind,Tr.vc,h]
def Sc:type_of% @Tr.vc_bind:=@Tr.vc_bind
def Tr.vc_mono {α:Type}(t:Tr α){Q R:α->Prop}(hq:∀a,Q a->R a):t.vc U Q->t.vc U R:=by
 induction t with
 |ret a=>exact hq a|done=>exact id|fail s=>exact id|br c t e h1 h2=>exact fun h=>⟨fun x=>h1 (h.1 x),fun x=>h2 (h.2 x)⟩
 |need l p t h=>exact fun x=>⟨x.1,fun y=>h (x.2 y)⟩
 |asm l p t h=>exact fun x y=>h (x y)
 |both t e h1 h2=>exact fun h=>⟨h1 h.1,h2 h.2⟩
 |all k n f h=>cases k<;>exact fun x y=>h _ (x y)
end
open Go.Xe
inductive Cp where
 |ex (e:E)
 |ge
 |un
inductive SV where
 |any
 |int (k:IntKind) (e:E)
 |bool (e:E)
 |str (e:E)
 |nilp
 |ptr (b z:Nat) (row:E) (fld:Nat)
 |pptr (t:Ax) (L row:E) (fld:Nat)
 |rp (row:E) (fld:Nat)
 |rpq (e:E)
 |rv (L:E) (z:Nat)
 |nils
 |sl (b z:Nat) (off len:E) (cap:Cp)
 |lst (t:Ax) (L:E) (clip:Bool)
 |agg (l:List SV)
 |tup (l:List SV)
 |fn (f:Fn) (a b:List SV)
 |nilf
 |map (b:Nat)
 |nilm
 |iface (t:Ax) (v:SV)
 |nili
 |yld (ks:Ah) (vs:List SV) (g:Ay) (nt:Nat) (ps:Ah) (as bo:Code)
abbrev As:=List SV
instance : Inhabited SV:=⟨.any⟩
def lk {α:Type}:List (Nat×α)->Nat->Bb α
 | [],_=>none| (k,a)::l,n=>bif Nat.beq k n then some a else lk l n
mutual
def noY :SV->Bool
 | .yld _ _ _ _ _ _ _=>false| .agg l=>noYs l| .tup l=>noYs l| .fn _ a b=>noYs a&&noYs b| .iface _ v=>noY v|_=>true
def noYs :As->Bool
 | []=>true|a::l=>noY a&&noYs l
end
inductive Kd where
 |int (k:IntKind)
 |bool
 |str
 |sl (e:Ax)
 |rp
 |bad
 deriving DecidableEq
def kd1 (P:Aw)(t:Ax):Kd:=match P.underlying t with
 |some (.int k)=>.int k|some .bool=>.bool|some .string=>.str|some (.slice e)=>.sl e|some (.pointer e)=>bif Nat.beq e rgT then .rp else .bad|_=>.bad
def kdF (f:Ax->List Kd):List Field->List Kd
 | []=>[]
 |x::xs=>f x.type++kdF f xs
def kds (P:Aw):Nat->Ax->List Kd
 |0,_=>[.bad]
 |d+1,t=>match P.underlying t with
  |some (.struct fs)=>kdF (kds P d) fs.toList|some (.array n e)=>(List.replicate n (kds P d e)).flatten|_=>[kd1 P t]
def kf (P:Aw)(t:Ax):List Kd:=kds P 20 t
def kpart (P:Aw)(f:Field):Bb Kd:=bif f.name== "_" then none else match P.underlying f.type with
 |some (.int k)=>some (.int k)|some .string=>some .str|_=>none
def Kj (P:Aw):Nat->List Field->Bb (List Kd)
 |_,[]=>some []|o,f::fs=>bif Nat.beq f.offset o then match kpart P f with
  |some k=>match Kj P (o+1) fs with
   |some ks=>some (k::ks)|none=>none
  |none=>none
  else none
def EO (P:Aw)(kt:Ax):Bb (Bool×List Kd):=
 match P.underlying kt with
 |some (.int k)=>some (false,[.int k])|some (.struct fs)=>bif P.stoodInHeld kt then none else match Kj P 0 fs.toList with
  |some ks=>some (true,ks)|none=>none
 |_=>none
def kv1 (k:Kd)(x:KV):Av:=match x with
 | .s l=>.string ⟨l.toArray⟩| .i n=>match k with| .int k=>.int k n|_=>.int .i64 n
def kfit :List Kd->List KV->Bool
 | [],[]=>true|k::ps,x::ks=>(match k,x with| .int _,.i _=>true| .str,.s _=>true|_,_=>false)&&kfit ps ks|_,_=>false
def keyL (ps:List Kd)(ks:List KV):Af:=List.zipWith kv1 ps ks
def keyV (sh:Bool×List Kd)(ks:List KV):Av:=bif sh.1 then .agg (keyL sh.2 ks).toArray else(keyL sh.2 ks).headD undef
inductive A9 where
 |cells (l:As) (e z:Nat)
 |rows (L:E) (e z:Nat) (ph:E)
 |map (L:E) (kt vt:Ax)
 |iter (s pos:E)
 |reg (b:Nat) (L:E) (z:Nat)
structure SS where
 h:List (Nat×Bb A9)
 nx:Nat
 fc:List (E×Bool)
 fv:Nat
 fz:List (Nat×E×Ax×Nat)
def SS.get (s:SS)(b:Nat):Bb A9:=match lk s.h b with|some x=>x|none=>none
def SS.set (s:SS)(b:Nat)(x:Bb A9):SS:= {s with h:=(b,x)::s.h}
def y8 {α:Type}(k n:Nat)(a:α)(l:List (Nat×α)):lk ((k,a)::l) n=if k=n then some a else lk l n:=by by_cases h:k=n;rw[PG h,lk,w9 h];rfl;rw[PE h,lk,y7 h];rfl
theorem W7 {α:Type}{b:Nat}{x:α}:∀ {l:List (Nat×α)},lk l b=some x->(b,x)∈l
 | [],h=>by cases h
 | (k,y)::l,h=>by rw[y8]at h;split at h;grind;exact Qu _ (W7 h)
theorem SS.get_set (s:SS)(b c:Nat)(x:Bb A9):(s.set b x).get c=if c=b then x else s.get c:=by unfold SS.get SS.set;simp only[y8];grind
def RP:type_of% @SS.get_set:=@SS.get_set
def arr (b:Blk):Bb (Ao×Nat×Nat):=rdC b
def roC (b:Blk)(c zb z:Nat):Prop:=(bY b=true->c<unk)/\(bY b=false->zb=z)
def roC.mk {b:Blk}{c z:Nat}(h:bY b=false:=by rfl):roC b c z z:=⟨fun e=>(by rw[h]at e;cases e),fun _=>rfl⟩
def wR (l c:Nat):Prop:=(c<unk/\l<=c)\/(∃lo,c=d8 lo 0/\lo<=67108864/\l<=67108864)
section
variable (P :Aw)
inductive PV (F:Ac):Kd->Av->Dat->Prop
 |int (k:IntKind) (n:Int):PV F (.int k) (.int k n) (.int n)
 |bool (b:Bool):PV F .bool (.bool b) (.bool b)
 |str (s:Ae):PV F .str (.string ⟨s.toArray⟩) (.str s)
 |nils (e:Ax):PV F (.sl e) (.slice none 0 0) (.lst [])
 |rp (k:Nat):PV F .rp (.pointer (some ⟨k,0,some 1⟩)) (.int k)
 |rpn:PV F .rp (.pointer none) (.int (-1))
 |vague (e:Ax):PV F (.sl e) (.slice (some ⟨0,0,some 0⟩) 0 unk) (.lst [])
 | sl (e : Ax) (i o c : Nat) (b : Blk) (cs : Ao) (n z : Nat) {zb : Nat} (rows : Rows) (x : Nat → Nat → Av) (hF : F i = some b) (hb : arr b = some (cs, n, zb)) (hc : wR rows.length c ∧ roC b c zb z)
   (hn:o+rows.length*z<=n) (hz:z=(kf P e).length) (hr:∀r∈rows,r.length=z)
   (hx:∀(r k:Nat) (row:Ar) (d:Dat),rows[r]? =some row->row[k]? =some d->cs.get (o+r*z+k)=some (x r k))
   (hp:∀(r k:Nat) (row:Ar) (kd:Kd) (d:Dat),rows[r]? =some row->row[k]? =some d->(kf P e)[k]? =some kd->PV F kd (x r k) d):
   PV F (.sl e) (.slice (some ⟨i,o,none⟩) rows.length c) (.lst rows)
def Fle (F F':Ac):Prop:=∀i b,F i=some b->F' i=some b
def Fle.refl (F:Ac):Fle F F:=fun _ _ h=>h
def Rx:type_of% @Fle.refl:=@Fle.refl
variable {F:Ac}
def Fle.trans {G H:Ac}(h:Fle F G)(k:Fle G H):Fle F H:=fun i b e=>k i b (h i b e)
variable {F':Ac}{v:Av}
def PV.mono (h:Fle F F'){k:Kd}{d:Dat}(p:PV P F k v d):PV P F' k v d:=by
 induction p with
 |int k n=>exact .int k n|bool b=>exact .bool b|str s=>exact .str s|nils e=>exact .nils e|rp k=>exact .rp k|rpn=>exact .rpn|vague e=>exact .vague e|sl e i o c b cs n z rows x hF hb hc hn hz hr hx _ f=>exact .sl e i o c b cs n z rows x (h _ _ hF) hb hc hn hz hr hx f
abbrev Tau:=Nat->Bb (Bb (Nat×Nat))
variable (U :Ab)
abbrev E.toI (e:E):Int:=(e.den U).toInt
abbrev E.toN (e:E):Nat:=(e.den U).toInt.toNat
abbrev E.toR (e:E):Rows:=(e.den U).rows
def kR (len:E):Cp->Nat->Prop
 | .ex e,c=>0<=e.toI U/\c=e.toN U/\c<unk/\len.toI U<=e.toI U| .ge,c=>∃lo,c=d8 lo 0/\lo<=67108864/\len.toI U<=67108864| .un,c=>(c<unk/\c=len.toN U/\len.toI U<=67108864)\/ ∃lo,c=d8 lo 0/\lo<=67108864/\len.toI U<=67108864
def RowsIn (F:Ac)(z:Nat)(xs:Af)(rows:Rows):Prop:=
 xs.length=rows.length*z/\z=(kf P rgT).length/\(∀r∈rows,r.length=z)/\
 ∀(r k:Nat) (row:Ar) (d:Dat),rows[r]? =some row->row[k]? =some d-> ∃x,xs[r*z+k]? =some x/\ ∀kd,(kf P rgT)[k]? =some kd->PV P F kd x d
def RowsIn.mono (h:Fle F F'){z:Nat}{xs:Af}{rows:Rows}(p:RowsIn P F z xs rows):RowsIn P F' z xs rows:=
 ⟨p.1,p.2.1,p.2.2.1,fun r k row d hr hk=>let⟨x,k1,k2⟩:=p.2.2.2 r k row d hr hk;⟨x,k1,fun kd f=>(k2 kd f).mono P h⟩⟩
inductive VD (τ:Tau)(F:Ac):SV->Av->Prop
 |any (v:Av):VD τ F .any v
 |int (k:IntKind) (e:E):VD τ F (.int k e) (.int k (e.toI U))
 |bool (e:E):VD τ F (.bool e) (.bool (e.den U).toBool)
 |str (e:E):VD τ F (.str e) (.string ⟨(e.den U).toStr.toArray⟩)
 |nilp:VD τ F .nilp (.pointer none)
 |ptr (b z:Nat) (row:E) (fld i o:Nat) (h:τ b=some (some (i,o))) (h0:0<=row.toI U):VD τ F (.ptr b z row fld) (.pointer (some ⟨i,o+row.toN U*z+fld,none⟩))
 | pptr (t : Ax) (L row : E) (fld i o l c : Nat) (h : PV P F (.sl t) (.slice (some ⟨i, o, none⟩) l c) (.lst (L.toR U))) (h0 : 0 ≤ row.toI U) (h1 : row.toI U < (L.toR U).length) :
   VD τ F (.pptr t L row fld) (.pointer (some ⟨i,o+row.toN U*(kf P t).length+fld,none⟩))
 |rp (row:E) (fld:Nat) (h0:0<=row.toI U):VD τ F (.rp row fld) (.pointer (some ⟨row.toN U,fld,some 1⟩))
 |rpq (e:E) (v:Av) (h:PV P F .rp v (.int (e.toI U))):VD τ F (.rpq e) v
 |rv (L:E) (z:Nat) (xs:Af) (h:RowsIn P F z xs (L.toR U)):VD τ F (.rv L z) (.func (.func 0) xs.toArray #[])
 |nils:VD τ F .nils (.slice none 0 0)
 | sl (b z : Nat) (off len : E) (cap : Cp) (i o c : Nat) (h : τ b = some (some (i, o))) (h0 : 0 ≤ off.toI U) (h1 : 0 ≤ len.toI U) (hc : kR U len cap c) :
   VD τ F (.sl b z off len cap) (.slice (some ⟨i,o+off.toN U*z,none⟩) (len.toN U) c)
 |sl0 (b z:Nat) (off len:E) (cap:Cp) (h:τ b=some none) (h0:off.toI U=0) (h1:len.toI U=0) (hc:∀e,cap= .ex e->e.toI U=0):VD τ F (.sl b z off len cap) (.slice none 0 0)
 |lst (t:Ax) (L:E) (clip:Bool) (v:Av) (h:PV P F (.sl t) v (.lst (L.toR U))) (hc:clip=true-> ∃a l,v= .slice a l l):VD τ F (.lst t L clip) v
 |agg (l:As) (xs:Af) (h1:l.length=xs.length) (h2:∀(i:Nat) a x,l[i]? =some a->xs[i]? =some x->VD τ F a x):VD τ F (.agg l) (.agg xs.toArray)
 |tup (l:As) (xs:Af) (h1:l.length=xs.length) (h2:∀(i:Nat) a x,l[i]? =some a->xs[i]? =some x->VD τ F a x):VD τ F (.tup l) (.tuple xs.toArray)
 | fn (f : Fn) (l m : As) (xs ys : Af) (h1 : l.length = xs.length) (h2 : ∀ (i : Nat) a x, l[i]? = some a → xs[i]? = some x → VD τ F a x)
   (h3:m.length=ys.length) (h4:∀(i:Nat) a x,m[i]? =some a->ys[i]? =some x->VD τ F a x):VD τ F (.fn f l m) (.func f xs.toArray ys.toArray)
 |nilf:VD τ F .nilf .nilFunc
 |map (b i o:Nat) (h:τ b=some (some (i,o))):VD τ F (.map b) (.map (some i))
 |nilm:VD τ F .nilm (.map none)
 |iface (t:Ax) (v:SV) (x:Av) (h:VD τ F v x):VD τ F (.iface t v) (.iface t x)
 |nili:VD τ F .nili .nilIface
 | yld (ks : Ah) (vs : As) (g : Ay) (nt : Nat) (ps : Ah) (as bo : Code) (i : Nat) (tms : Ao) (pr : Array Tmp) (db : Nat) (hF : F i = some (.loop .ready none nt tms pr as bo db)) (hp : pr.toList = ps)
   (h:∀k a,lk (ks.zip vs) k=some a->VD τ F a ((tms.get k).getD undef)):VD τ F (.yld ks vs g nt ps as bo) (.chan (some i))
def Tle (τ τ':Tau):Prop:=∀b p,τ b=some p->τ' b=some p
def Tle.refl (τ:Tau):Tle τ τ:=fun _ _ h=>h
def Sb:type_of% @Tle.refl:=@Tle.refl
def Tle.trans {a b c:Tau}(h:Tle a b)(k:Tle b c):Tle a c:=fun i p e=>k i p (h i p e)
variable {P U}
variable {τ:Tau}
def VD.mono {τ':Tau}(ht:Tle τ τ')(h:Fle F F'){s:SV}(p:VD P U τ F s v):VD P U τ' F' s v:=by
 induction p with
 |any v=>exact .any v|int k e=>exact .int k e|bool e=>exact .bool e|str e=>exact .str e|nilp=>exact .nilp|ptr b z row fld i o k h0=>exact .ptr b z row fld i o (ht _ _ k) h0|pptr t L row fld i o l c k h0 h1=>exact .pptr t L row fld i o l c (k.mono P h) h0 h1|rp row fld h0=>exact .rp row fld h0|rpq e v k=>exact .rpq e v (k.mono P h)|rv L z xs k=>exact .rv L z xs (k.mono P h)|nils=>exact .nils|sl b z off len cap i o c k h0 h1 hc=>exact .sl b z off len cap i o c (ht _ _ k) h0 h1 hc|sl0 b z off len cap k h0 h1 hc=>exact .sl0 b z off len cap (ht _ _ k) h0 h1 hc|lst t L clip v k hc=>exact .lst t L clip v (k.mono P h) hc|agg l xs h1 _ j=>exact .agg l xs h1 j|tup l xs h1 _ j=>exact .tup l xs h1 j|fn f l m xs ys h1 _ h3 _ q r=>exact .fn f l m xs ys h1 q h3 r|nilf=>exact .nilf|map b i o k=>exact .map b i o (ht _ _ k)|nilm=>exact .nilm|iface t v x _ j=>exact .iface t v x j|nili=>exact .nili|yld ks vs g nt ps as bo i tms pr db hF hp _ j=>exact .yld ks vs g nt ps as bo i tms pr db (h _ _ hF) hp j
def PV.sub (h:∀i y,F i=some y->(arr y).isSome=true->F' i=some y){k:Kd}{d:Dat}(p:PV P F k v d):PV P F' k v d:=by
 induction p with
 |int k n=>exact .int k n|bool b=>exact .bool b|str s=>exact .str s|nils e=>exact .nils e|rp k=>exact .rp k|rpn=>exact .rpn|vague e=>exact .vague e|sl e i o c b cs n z rows x hF hb hc hn hz hr hx _ f=>exact .sl e i o c b cs n z rows x (h _ _ hF (by rw[hb];rfl)) hb hc hn hz hr hx f
theorem bA :∀ {l:As} {i:Nat} {a:SV},noYs l=true->l[i]? =some a->noY a=true
 | [],i,a,_,h=>by grind|b::l,i,a,hn,h=>by
  unfold noYs at hn;rw[Pk]at hn;cases i with
  |zero=>grind|succ i=>exact bA hn.2 h
def VD.sub (p:Bool)(h:∀i y,F i=some y->((arr y).isSome=true\/p=true/\y≠ .dfr)->F' i=some y){s:SV}(hv:VD P U τ F s v)(hn:p=true\/noY s=true):VD P U τ F' s v:=by
 have B:∀i y,F i=some y->(arr y).isSome=true->F' i=some y:=fun i y h1 h2=>h i y h1 (.inl h2);induction hv with
 |any v=>exact .any v|int k e=>exact .int k e|bool e=>exact .bool e|str e=>exact .str e|nilp=>exact .nilp|ptr b z row fld i o k h0=>exact .ptr b z row fld i o k h0|pptr t L row fld i o l c k h0 h1=>exact .pptr t L row fld i o l c (k.sub B) h0 h1|rp row fld h0=>exact .rp row fld h0|rpq e v k=>exact .rpq e v (k.sub B)|rv L z xs k=>exact .rv L z xs ⟨k.1,k.2.1,k.2.2.1,fun r q row d hr hq=>let⟨x,k1,k2⟩:=k.2.2.2 r q row d hr hq;⟨x,k1,fun kd C=>(k2 kd C).sub B⟩⟩|nils=>exact .nils|sl b z off len cap i o c k h0 h1 hc=>exact .sl b z off len cap i o c k h0 h1 hc|sl0 b z off len cap k h0 h1 hc=>exact .sl0 b z off len cap k h0 h1 hc|lst t L clip v k hc=>exact .lst t L clip v (k.sub B) hc|agg l xs h1 _ w=>exact .agg l xs h1 fun i a x j hx=>w i a x j hx (hn.imp id fun k=>bA (by unfold noY at k;exact k) j)
 |tup l xs h1 _ w=>exact .tup l xs h1 fun i a x j hx=>w i a x j hx (hn.imp id fun k=>bA (by unfold noY at k;exact k) j)
 |fn f l m xs ys h1 _ h3 _ D E=>
  have A:p=true\/noYs l=true/\noYs m=true:=hn.imp id fun k=>by unfold noY at k;rwa[Pk]at k
  exact .fn f l m xs ys h1 (fun i a x j hx=>D i a x j hx (A.imp id fun k=>bA k.1 j)) h3 fun i a x j hx=>E i a x j hx (A.imp id fun k=>bA k.2 j)
 |nilf=>exact .nilf|map b i o k=>exact .map b i o k|nilm=>exact .nilm|iface t v x _ w=>exact .iface t v x (w (hn.imp id fun k=>by unfold noY at k;exact k))|nili=>exact .nili|yld ks vs g nt ps as bo i tms pr db hF hp _ w=>rcases hn with hn|hn;exact .yld ks vs g nt ps as bo i tms pr db (h _ _ hF (.inr ⟨hn,by simp⟩)) hp fun k a j=>w k a j (.inl hn);unfold noY at hn;cases hn
variable (P U)
def VDL (τ:Tau)(F:Ac)(l:As)(xs:Af):Prop:=l.length=xs.length/\ ∀(i:Nat) a x,l[i]? =some a->xs[i]? =some x->VD P U τ F a x
def A0 (F:Ac)(e:Ax)(z o n:Nat)(cs:Ao)(rows:Rows):Prop:=
 o+rows.length*z<=n/\z=(kf P e).length/\(∀r∈rows,r.length=z)/\
 ∀(r k:Nat) (row:Ar) (d:Dat),rows[r]? =some row->row[k]? =some d-> ∃x,cs.get (o+r*z+k)=some x/\ ∀kd,(kf P e)[k]? =some kd->PV P F kd x d
def kI (F:Ac)(kt vt:Ax)(es:List (Av×Av))(rows:Rows):Prop:=
 es.length=rows.length/\ ∀(j:Nat) row e,rows[j]? =some row->es[j]? =some e-> ∃sh ks d,EO P kt=some sh/\kfit sh.2 ks=true/\row=ks.map KV.dat++ [d]/\e.1=keyV sh ks/\PV P F (kd1 P vt) e.2 d
def BD (τ:Tau)(F:Ac)(o:Nat):A9->Blk->Prop
 | .cells l e z,b=>∃cs n,b= .cells cs n e z/\o+l.length<=n/\ ∀(j:Nat) a,l[j]? =some a-> ∃x,cs.get (o+j)=some x/\VD P U τ F a x| .rows L e z ph,b=>∃cs n,b= .cells cs n e z/\A0 P F e z o n cs (L.toR U)/\o+ph.toN U*z<=n| .map L kt vt,b=>o=0/\ ∃es reg,b= .map es reg/\reg=true/\kI P F kt vt es (L.toR U)| .reg r L z,b=>o=0/\τ r=some (some (0,0))/\ ∃cs,b= .reg cs (L.toR U).length rgT z/\A0 P F rgT z 0 ((L.toR U).length*z) cs (L.toR U)| .iter s pos,b=>o=0/\ ∃n:Nat,b= .sit ⟨(s.den U).toStr.toArray⟩ n/\pos.toI U=n
def HO (τ:Tau)(F:Ac)(r:Nat×E×Ax×Nat):Prop:=
 (∃i o cs n,τ r.1=some (some (i,o))/\F i=some (.cells cs n r.2.2.1 r.2.2.2)/\A0 P F r.2.2.1 r.2.2.2 o n cs (r.2.1.toR U))\/(τ r.1=some none/\r.2.1.toR U=[])
structure SD (τ:Tau)(F:Ac)(s:SS)(hp:Hp):Prop where
 live:∀b x,s.get b=some x->(∃i o y,τ b=some (some (i,o))/\hp.m.get i=some y/\F i=none/\BD P U τ F o x y)\/
  (τ b=some none/\ ∃L e z ph,x= .rows L e z ph/\L.toR U=[]/\z=(kf P e).length/\ph.toI U<=0)
 inj:∀b c x y i o j q,s.get b=some x->s.get c=some y->b≠c->τ b=some (some (i,o))->τ c=some (some (j,q))->i≠j
 frz:∀i b,F i=some b->hp.m.get i=some b
 lt:∀b i o,τ b=some (some (i,o))->i<hp.nx
 flt:∀i b,F i=some b->i<hp.nx
 new:∀b,s.nx<=b->τ b=none
 fc:∀c t,(c,t)∈s.fc->(c.den U).toBool=t
 fz:∀r∈s.fz,HO P U τ F r
def nyS (s:SS):Bool:=s.h.all fun p=>match p.2 with
 |some (.cells l _ _)=>noYs l|_=>true
variable {P U}
def BD.sub (p:Bool)(h:∀i y,F i=some y->((arr y).isSome=true\/p=true/\y≠ .dfr)->F' i=some y){o:Nat}{x:A9}{y:Blk}(hb:BD P U τ F o x y)(hn:p=true\/ ∀l e z,x= .cells l e z->noYs l=true):BD P U τ F' o x y:=by
 have m:∀i y,F i=some y->(arr y).isSome=true->F' i=some y:=fun i y h1 h2=>h i y h1 (.inl h2);cases x with
 |cells l e z=>obtain⟨cs,n,h1,h2,h3⟩:=hb;exact⟨cs,n,h1,h2,fun j a w=>let⟨x,k1,k2⟩:=h3 j a w;⟨x,k1,k2.sub p h (hn.imp id fun k=>bA (k l e z rfl) w)⟩⟩
 |rows L e z ph=>obtain⟨cs,n,h1,⟨h2,h3,h4,f⟩,g⟩:=hb;exact⟨cs,n,h1,⟨h2,h3,h4,fun r k row d hr q=>let⟨x,k1,k2⟩:=f r k row d hr q;⟨x,k1,fun kd hk=>(k2 kd hk).sub m⟩⟩,g⟩
 |map L kt vt=>obtain⟨h0,es,reg,h1,hr,h2,h3⟩:=hb;exact⟨h0,es,reg,h1,hr,h2,fun j row e hr he=>let⟨C,ks,d,k1,k2,k3,A,B⟩:=h3 j row e hr he;⟨C,ks,d,k1,k2,k3,A,B.sub m⟩⟩
 |iter s pos=>exact hb|reg r L z=>obtain⟨h0,g,cs,h1,h2,h3,h4,f⟩:=hb;exact⟨h0,g,cs,h1,h2,h3,h4,fun r k row d hr q=>let⟨x,k1,k2⟩:=f r k row d hr q;⟨x,k1,fun kd hk=>(k2 kd hk).sub m⟩⟩
theorem SD.sub {s:SS}{hp hp':Hp}(hs:SD P U τ F s hp)(p:Bool)(h:∀i y,F i=some y->((arr y).isSome=true\/p=true/\y≠ .dfr)->F' i=some y)(hn:p=true\/nyS s=true)(f:hp.nx<=hp'.nx)(hm:∀b x i o,s.get b=some x->τ b=some (some (i,o))->hp'.m.get i=hp.m.get i/\F' i=none)(hf:∀i y,F' i=some y->hp'.m.get i=some y/\i<hp'.nx):SD P U τ F' s hp':=by refine⟨fun b x hb=>?_,hs.inj,fun i y hy=>(hf i y hy).1,fun b i o hb=>Qp (hs.lt b i o hb) f,fun i y hy=>(hf i y hy).2,hs.new,hs.fc,fun r hr=>?_⟩;rcases hs.live b x hb with⟨i,o,y,h1,h2,h3,h4⟩|h1;obtain⟨k1,k2⟩:=hm b x i o hb h1;refine .inl ⟨i,o,y,h1,by grind,k2,h4.sub p h (hn.imp id fun k l e z hx=>?_)⟩;unfold nyS at k;rw[PO]at k;subst hx;unfold SS.get at hb;split at hb;rename_i q hq;subst hb;exact k _ (W7 hq);grind;grind;rcases hs.fz r hr with⟨i,o,cs,n,h1,h2,h3,h4,g,j⟩|h1;exact .inl ⟨i,o,cs,n,h1,h _ _ h2 (.inl rfl),h3,h4,g,fun a k row d hr w=>let⟨x,k1,k2⟩:=j a k row d hr w;⟨x,k1,fun kd hk=>(k2 kd hk).sub fun i y h1 h2=>h i y h1 (.inl h2)⟩⟩;exact .inr h1
end
def y0 (a b:E):E:=match a,b with
 | .int m,.int n=>.int (m+n)| .int m,b=>bif decide (m=0)then b else .op .add [b,.int m]| .op .add [x,.int m],.int n=>bif decide (m+n=0)then x else .op .add [x,.int (m+n)]|a,.int n=>bif decide (n=0)then a else .op .add [a,.int n]|a,b=>.op .add [a,b]
def L6 (a b:E):E:=match b with
 | .int n=>y0 a (.int (-n))|b=>.op .sub [a,b]
def Ks (a b:E):E:=match a,b with
 | .int m,.int n=>.int (m*n)|a,b=>.op .mul [a,b]
def y4 (a:E):E:=match a with
 | .bool c=>.bool (!c)| .op .not [x]=>x|a=>.op .not [a]
def y6 (a b:E):E:=match a,b with
 | .int m,.int n=>.bool (decide (m<n))|a,b=>.op .lt [a,b]
def E4 (a b:E):E:=match a,b with
 | .int m,.int n=>.bool (decide (m=n))|a,b=>.op .eqi [a,b]
def Ha (a b:E):E:=match a,b with
 | .bool p,b=>bif p then b else y4 b|a,.bool p=>bif p then a else y4 a|a,b=>.op .eqb [a,b]
def lD (a b:E):E:=match a,b with
 | .str p,.str q=>.bool (p==q)|a,b=>.op .eqs [a,b]
def GZ (a b:E):E:=match a,b with
 | .bool p,b=>bif p then b else .bool false|a,.bool p=>bif p then a else .bool false|a,b=>.op .and [a,b]
def mkOr (a b:E):E:=match a,b with
 | .bool p,b=>bif p then .bool true else b|a,.bool p=>bif p then .bool true else a|a,b=>.op .or [a,b]
def xQ :Nat->E->E
 |0,L=>.op .len [L]|d+1,L=>match L with
  | .op .nil _=>.int 0| .op (.rows n _) _=>.int n| .op .app [a,b]=>y0 (xQ d a) (xQ d b)| .op (.upd _) [a,_,_]=>xQ d a|L=>.op .len [L]
def z9 (L:E):E:=xQ 50 L
def Hb :Nat->Nat->E->E->E
 |0,j,L,r=>.op (.get j) [L,r]|d+1,j,L,r=>match L with
  | .op (.upd j') [a,i,c]=>bif Nat.beq j j' then .op (.get j) [.op (.upd j') [a,i,c],r]else Hb d j a r|L=>.op (.get j) [L,r]
def EK (j:Nat)(L r:E):E:=Hb 50 j L r
def F5 (a b:E):E:=match a,b with
 | .op .nil _,b=>b|a,.op .nil _=>a|a,b=>.op .app [a,b]
section
variable {U :Ab}
def A8 (n:Int):(E.int n).toI U=n:=rfl
def j5 (a b:E):(y0 a b).toI U=a.toI U+b.toI U:=by unfold y0;split;rfl;rename_i b m _;by_cases h:m=0;subst h;exact(Int.zero_add _).symm;simp only[h,decide_false,PC];exact Int.add_comm _ _;rename_i x m n;by_cases h:m+n=0;simp only[h,Qs,PB];show _=(x.toI U+m)+n;omega;simp only[h,decide_false,PC];show x.toI U+(m+n)=(x.toI U+m)+n;omega;rename_i a n _ _;by_cases h:n=0;subst h;simp;show _=_+0;omega;simp only[h,decide_false,PC];rfl;rfl
def v7 (a b:E):(L6 a b).toI U=a.toI U-b.toI U:=by unfold L6;split;rename_i n;rw[j5];show _+ -n=_-n;omega;rfl
def Ib (a b:E):(Ks a b).toI U=a.toI U*b.toI U:=by unfold Ks;split<;>rfl
def F6 (a:E):((y4 a).den U).toBool= !(a.den U).toBool:=by unfold y4;split;rfl;rename_i x;show _= !(!(x.den U).toBool);simp;rfl
def F8 (a b:E):((y6 a b).den U).toBool=decide (a.toI U<b.toI U):=by unfold y6;split<;>rfl
def E0 (a b:E):((E4 a b).den U).toBool=decide (a.toI U=b.toI U):=by unfold E4;split<;>rfl
def R7 (a b:E):((lD a b).den U).toBool=((a.den U).toStr==(b.den U).toStr):=by unfold lD;split<;>rfl
def xN (a b:E):((Ha a b).den U).toBool=((a.den U).toBool==(b.den U).toBool):=by unfold Ha;split;rename_i b p;cases p;simp only[PC,F6];show _=(false==_);simp;show _=(true==_);simp;rename_i a p _;cases p;simp only[PC,F6];show _=(_==false);simp;show _=(_==true);simp;rfl
def xL (a b:E):((GZ a b).den U).toBool=((a.den U).toBool&&(b.den U).toBool):=by unfold GZ;split;rename_i b p;cases p;rfl;show _=(true&&_);simp;rename_i a p _;cases p;show false=(_&&false);simp;show _=(_&&true);simp;rfl
def CP (a b:E):((mkOr a b).den U).toBool=((a.den U).toBool|| (b.den U).toBool):=by unfold mkOr;split;rename_i b p;cases p;show _=(false||_);simp;rfl;rename_i a p _;cases p;show _=(_||false);simp;show true=(_||true);simp;rfl
def K9 (z:Nat):∀(n:Nat) (l:Ar),(b8 z n l).length=n
 |0,_=>rfl|n+1,l=>by simp[b8,K9 z n]
def gF :∀(d:Nat) (L:E),(xQ d L).toI U=((L.toR U).length:Int)
 |0,L=>rfl|d+1,L=>by unfold xQ;split;rfl;rename_i n z as;show(n:Int)=((b8 z n _).length:Int);rw[K9];rename_i a b;rw[j5,gF d a,gF d b];show _=(((a.toR U)++(b.toR U)).length:Int);simp;rename_i j a i c;rw[gF d a];show _=((a8 (a.toR U) _ j _).length:Int);simp[a8];rfl
def i9 (L:E):(z9 L).toI U=((L.toR U).length:Int):=gF 50 L
theorem qE (L:Rows)(i r:Int){j j':Nat}(d:Dat)(h:j≠j'):z4 (a8 L i j' d) r j=z4 L r j:=by unfold z4 a8;grind
def xP :∀(d j:Nat) (L r:E),(Hb d j L r).den U=z4 (L.toR U) (r.toI U) j
 |0,j,L,r=>rfl|d+1,j,L,r=>by unfold Hb;split;rename_i j' a i c;by_cases h:j=j';rw[w9 h];rfl;rw[y7 h,PC,xP d j a r];exact(qE _ _ _ _ h).symm;rfl
def sE (j:Nat)(L r:E):(EK j L r).den U=z4 (L.toR U) (r.toI U) j:=xP 50 j L r
def L2 (a b:E):(F5 a b).toR U=a.toR U++b.toR U:=by unfold F5;split;rfl;show _=_++([]:Rows);simp;rfl
def FT (U:Ab)(l:List (E×Bool)):Prop:=∀c t,(c,t)∈l->(c.den U).toBool=t
def M (α:Type):=SS->Tr (α×SS)
def d9 {α:Type}(a:α):M α:=fun s=>.ret (a,s)
def a9 {α:Type}(t:String):M α:=fun _=>.fail t
def b9 {α β:Type}(m:M α)(k:α->M β):M β:=fun s=>(m s).bind fun x=>k x.1 x.2
def u4 {α:Type}(k:SS->M α):M α:=fun s=>k s s
def eR {α:Type}(t:String)(x:Bb α):M α:=match x with|some a=>d9 a|none=>a9 t
def addF (s:SS)(c:E)(t:Bool):SS:= {s with fc:=(c,t)::s.fc}
variable (U) in
def j7 (c:E):M Unit:=fun s=>match c with
 | .bool true=>.ret ((),s)|c=>.need (.e c) (c.pr U) (.ret ((),addF s c true))
def JP :List (E×Bool)->E->Bb Bool
 | [],_=>none| (d,t)::l,c=>bif E.like d c then some t else JP l c
variable (U) in
def testA (c:E):M Bool:=fun s=>match c with
 | .bool b=>.ret (b,s)|c=>match JP s.fc c with
  |some true=>.need (.e c) (c.pr U) (.ret (true,s))|some false=>.need (.e (y4 c)) (¬c.pr U) (.ret (false,s))|none=>.br c (.ret (true,addF s c true)) (.ret (false,addF s c false))
variable (U) in
def testF :Nat->E->M Bool
 |0,c=>testA U c|d+1,c=>match c with
  | .op .not [a]=>b9 (testF d a) fun t=>d9 (!t)
  | .op .and [a,b]=>b9 (testF d a) fun t=>bif t then testF d b else d9 false
  | .op .or [a,b]=>b9 (testF d a) fun t=>bif t then d9 true else testF d b
  |c=>testA U c
variable (U) in
def eT (c:E):M Bool:=testF U 20 c
structure V9 (s s':SS):Prop where
 h:s'.h=s.h
 nx:s'.nx=s.nx
 fc:∃l,s'.fc=l++s.fc
 fz:s'.fz=s.fz
def V9.refl (s:SS):V9 s s:=⟨rfl,rfl,⟨[],rfl⟩,rfl⟩
theorem V9.trans {a b c:SS}(h:V9 a b)(k:V9 b c):V9 a c:=
 ⟨k.h.trans h.h,k.nx.trans h.nx,by obtain⟨l,e⟩:=h.fc;obtain⟨m,e'⟩:=k.fc;exact(by grind),k.fz.trans h.fz⟩
def V9.addF (s:SS)(c:E)(t:Bool):V9 s (addF s c t):=⟨rfl,rfl,⟨[(c,t)],rfl⟩,rfl⟩
variable {s:SS}
def V9.get {s':SS}(h:V9 s s')(b:Nat):s'.get b=s.get b:=by unfold SS.get;rw[h.h]
variable (U) in
def OKp {α:Type}(m:M α)(s:SS)(R:α->Prop):Prop:=
 ∀Q,(m s).vc U Q->FT U s.fc-> ∃a s',Q (a,s')/\V9 s s'/\FT U s'.fc/\R a
def OKp.ret {α:Type}{a:α}{R:α->Prop}(h:R a):OKp U (d9 a) s R:=fun _ hq hf=>⟨a,s,hq,V9.refl s,hf,h⟩
def RL:type_of% @OKp.ret:=@OKp.ret
variable {t:String}
def OKp.fail {α:Type}{R:α->Prop}:OKp U (a9 t:M α) s R:=fun _ hq _=>hq.elim
def RG:type_of% @OKp.fail:=@OKp.fail
def OKp.bind {α g:Type}{m:M α}{k:α->M g}{R:α->Prop}{f:g->Prop}(h:OKp U m s R)(hk:∀a s',V9 s s'->FT U s'.fc->R a->OKp U (k a) s' f):OKp U (b9 m k) s f:=by intro Q hq hf;unfold b9 at hq;rw[Sc]at hq;obtain⟨a,s1,h1,h2,h3,h4⟩:=h _ hq hf;obtain⟨b,s2,j,p,q,r⟩:=hk a s1 h2 h3 h4 Q h1 h3;exact⟨b,s2,j,h2.trans p,q,r⟩
theorem OKp.mono {α:Type}{m:M α}{R f:α->Prop}(h:OKp U m s R)(hr:∀a,R a->f a):OKp U m s f:=by intro Q hq hf;obtain⟨a,s1,h1,h2,h3,h4⟩:=h Q hq hf;grind
def OKp.opt {α:Type}{x:Bb α}{R:α->Prop}(h:∀a,x=some a->R a):OKp U (eR t x) s R:=by
 cases x with
 |none=>exact RG|some a=>exact RL (h a rfl)
def RJ:type_of% @OKp.opt:=@OKp.opt
def OKp.read {α:Type}{k:SS->M α}{R:α->Prop}(h:OKp U (k s) s R):OKp U (u4 k) s R:=h
def RK:type_of% @OKp.read:=@OKp.read
theorem FT.cons {l:List (E×Bool)}{c:E}{t:Bool}(h:FT U l)(hc:(c.den U).toBool=t):FT U ((c,t)::l):=by intro d u f;rcases Qa.1 f with e|e;grind;exact h d u e
def Fj {c:E}(h:¬c.pr U):(c.den U).toBool=false:=by rw[Ru]at h;simpa using h
def OKp.need {c:E}:OKp U (j7 U c) s fun _=>c.pr U:=by intro Q hq hf;unfold j7 at hq;split at hq;exact⟨(),s,hq,V9.refl s,hf,rfl⟩;obtain⟨h1,h2⟩:=hq;exact⟨(),_,h2 h1,V9.addF s _ _,hf.cons ((Ru U _).1 h1),h1⟩
def RH:type_of% @OKp.need:=@OKp.need
def OKp.testA {c:E}{s:SS}:OKp U (testA U c) s fun t=>(c.den U).toBool=t:=by intro Q hq hf;unfold Sx.testA at hq;split at hq;exact⟨_,s,hq,V9.refl s,hf,rfl⟩;split at hq;exact⟨true,s,hq.2 hq.1,V9.refl s,hf,(Ru U _).1 hq.1⟩;exact⟨false,s,hq.2 hq.1,V9.refl s,hf,Fj hq.1⟩;by_cases h:c.pr U;exact⟨true,_,hq.1 h,V9.addF s _ _,hf.cons ((Ru U _).1 h),(Ru U _).1 h⟩;exact⟨false,_,hq.2 h,V9.addF s _ _,hf.cons (Fj h),Fj h⟩
def OKp.testF :∀(d:Nat) (c:E) (s:SS),OKp U (testF U d c) s fun t=>(c.den U).toBool=t
 |0,c,s=>OKp.testA|d+1,c,s=>by
  unfold Sx.testF;split;rename_i a;refine(OKp.testF d a s).bind fun t s' _ _ h=>RL ?_;show(!(a.den U).toBool)= !t;rw[h]
  ·rename_i a b;refine(OKp.testF d a s).bind fun t s' _ _ h=>?_;cases t with
   |true=>exact(OKp.testF d b s').mono fun u f=>by show((a.den U).toBool&&(b.den U).toBool)=u;rw[h,f];rfl
   |false=>exact RL (by show((a.den U).toBool&&(b.den U).toBool)=false;rw[h];rfl)
  ·rename_i a b;refine(OKp.testF d a s).bind fun t s' _ _ h=>?_;cases t with
   |true=>exact RL (by show((a.den U).toBool|| (b.den U).toBool)=true;rw[h];rfl)|false=>exact(OKp.testF d b s').mono fun u f=>by show((a.den U).toBool|| (b.den U).toBool)=u;rw[h,f];rfl
  exact OKp.testA
def OKp.test {c:E}:OKp U (eT U c) s fun t=>(c.den U).toBool=t:=OKp.testF 20 c s
def RO:type_of% @OKp.test:=@OKp.test
end
abbrev Fm:=List (Nat×SV)
def cQ :Av->SV
 | .bool b=>.bool (.bool b)| .int k n=>.int k (.int n)| .string s=>.str (.str s.data.toList)| .pointer none=>.nilp| .slice none 0 0=>.nils| .map none=>.nilm| .nilFunc=>.nilf| .nilIface=>.nili|_=>.any
def FJ :Av->SV
 | .agg cs=>.agg (cs.toList.map cQ)| .tuple vs=>.tup (vs.toList.map cQ)|v=>cQ v
def v6 (f:Fm):Az->Bb SV
 | .tmp t=>some ((lk f t).getD .any)| .const v=>bif cst v then some (FJ v)else none| .global _=>none| .func g=>some (.fn (.func g) [] [])
def Dw (f:Fm):List Az->Bb (As)
 | []=>some []|x::xs=>match v6 f x with
  |some v=>match Dw f xs with
   |some vs=>some (v::vs)|none=>none
  |none=>none
def fP (f:Fm):List (Nat×Az)->Bb (List (Nat×SV))
 | []=>some []| (i,x)::xs=>match v6 f x with
  |some v=>match fP f xs with
   |some vs=>some ((i,v)::vs)|none=>none
  |none=>none
def B5 :SV->Bb (As)
 | .any=>none| .yld _ _ _ _ _ _ _=>none| .agg l=>some l|v=>some [v]
def yN (P:Aw)(t:Ax)(cs:As)(off:Nat):Bb SV:=
 match P.underlying t with
 |none=>none
 | some d => bif qC d then
   match P.info? t with
   |some i=>some (.agg ((cs.drop off).take i.size))|none=>none
  else cs[off]?
def FN (P:Aw)(xt:Ax)(x:SV)(f:Nat):Bb SV:=
 match P.underlying xt with
 |some (.struct fs)=>match fs.toList[f]? with
  |some fd=>match x with
   | .agg cs=>yN P fd.type cs fd.offset|_=>none
  |none=>none
 |_=>none
def uL (x:SV)(i:Nat):Bb SV:=
 match x with
 | .tup vs=>vs[i]?|_=>none
def Q0 (cells:As)(off:Nat)(vs:As):As:=cells.take off++vs++cells.drop (off+vs.length)
def pM (place:Nat->Bb (Nat×Nat))(cells:As):List (Nat×SV)->Bb (As)
 | []=>some cells| (i,v)::rest=>match place i with
  |none=>none|some (off,size)=>match B5 v with
   |none=>none|some vs=>bif Nat.beq vs.length size&&Nat.ble (off+size) cells.length then pM place (Q0 cells off vs) rest else none
def pP (P:Aw)(t:Ax):Bb (As):=match dR P t with
 |some z=>some (z.cells.toList.map cQ)|none=>none
def FI (P:Aw)(t:Ax)(parts:List (Nat×SV)):Bb SV:=
 match pP P t with
 |none=>none|some z=>match P.underlying t with
  |some (.struct fs)=>match dF P fs.toList with
   |some pl=>match pM (fun i=>pl[i]?) z parts with
    |some cs=>some (.agg cs)|none=>none
   |none=>none
  |some (.array _ e)=>match P.info? e with
   |some ie=>match pM (fun i=>some (i*ie.size,ie.size)) z parts with
    |some cs=>some (.agg cs)|none=>none
   |none=>none
  |_=>none
section
variable {P :Aw}{U:Ab}{τ:Tau}{F:Ac}
def TD (P:Aw)(U:Ab)(τ:Tau)(F:Ac)(f:Fm)(tm:Ao):Prop:=∀k a,lk f k=some a->VD P U τ F a ((tm.get k).getD undef)
def uG (v:Av):VD P U τ F (cQ v) v:=by unfold cQ;split;exact .bool (.bool _);exact .int _ (.int _);rename_i s;exact .str (.str s.data.toList);exact .nilp;exact .nils;exact .nilm;exact .nilf;exact .nili;exact .any _
def cR (l:Af):VDL P U τ F (l.map cQ) l:=by refine⟨by simp,fun i a x f hx=>?_⟩;simp only[Qm,hx,Qh,Pj]at f;subst f;exact uG x
def IE (v:Av):VD P U τ F (FJ v) v:=by unfold FJ;split;rename_i cs;have h:=cR (P:=P) (U:=U) (τ:=τ) (F:=F) cs.toList;exact VD.agg _ cs.toList h.1 h.2;rename_i cs;have h:=cR (P:=P) (U:=U) (τ:=τ) (F:=F) cs.toList;exact VD.tup _ cs.toList h.1 h.2;exact uG v
def VDL.nil :VDL P U τ F [] []:=⟨rfl,fun i a x h _=>by simp at h⟩
def Si:type_of% @VDL.nil:=@VDL.nil
variable {a:SV}{l:As}{xs:Af}
theorem VDL.cons {x:Av}(h:VD P U τ F a x)(hs:VDL P U τ F l xs):VDL P U τ F (a::l) (x::xs):=by
 refine⟨by simp[hs.1],fun i b y hb hy=>?_⟩;cases i with
 |zero=>grind|succ i=>exact hs.2 i b y hb hy
def Sh:type_of% @VDL.cons:=@VDL.cons
theorem VDL.uncons (h:VDL P U τ F (a::l) xs):∃y ys,xs=y::ys/\VD P U τ F a y/\VDL P U τ F l ys:=by
 cases xs with
 |nil=>exact absurd h.1 (by simp)|cons y ys=>exact⟨y,ys,rfl,h.2 0 _ _ rfl rfl,by have:=h.1;simpa using this,fun i a b f hb=>h.2 (i+1) a b (by grind) (by grind)⟩
def VDL.mono {τ':Tau}{F':Ac}(ht:Tle τ τ')(hf:Fle F F')(h:VDL P U τ F l xs):VDL P U τ' F' l xs:=⟨h.1,fun i a x f hx=>(h.2 i a x f hx).mono ht hf⟩
theorem VDL.get (h:VDL P U τ F l xs){i:Nat}(f:l[i]? =some a):∃x,xs[i]? =some x/\VD P U τ F a x:=by
 have hi:=(Po.1 f).1;have hx:i<xs.length:=by rw[<-h.1];exact hi
 exact⟨xs[i],by grind,h.2 i a _ f (by simp)⟩
theorem VDL.drop (h:VDL P U τ F l xs)(n:Nat):VDL P U τ F (l.drop n) (xs.drop n):=
 ⟨by simp[h.1],fun i a x f hx=>h.2 (n+i) a x (by grind) (by grind)⟩
theorem VDL.take (h:VDL P U τ F l xs)(n:Nat):VDL P U τ F (l.take n) (xs.take n):=by refine⟨by simp[h.1],fun i a x f hx=>?_⟩;rw[PS]at f hx;by_cases hi:i<n;rw[PG hi]at f hx;exact h.2 i a x f hx;grind
def VDL.append {m:As}{ys:Af}(h:VDL P U τ F l xs)(k:VDL P U τ F m ys):VDL P U τ F (l++m) (xs++ys):=by
 induction l generalizing xs with
 |nil=>obtain⟨h1,_⟩:=h;have:=Pr h1.symm;subst this;exact k
 |cons a l f=>obtain⟨y,g,rfl,h1,h2⟩:=h.uncons;exact Sh h1 (f h2)
def VDL.splice {l m:As}{xs ys:Af}(h:VDL P U τ F l xs)(k:VDL P U τ F m ys)(o:Nat):VDL P U τ F (Q0 l o m) (splice xs o ys):=by unfold Q0 Xe.splice;rw[k.1];exact((h.take o).append k).append (h.drop _)
def VDL.agg (h:VDL P U τ F l xs):VD P U τ F (.agg l) (.agg xs.toArray):= .agg l xs h.1 h.2
def VDL.tup (h:VDL P U τ F l xs):VD P U τ F (.tup l) (.tuple xs.toArray):= .tup l xs h.1 h.2
variable {v:Av}
def VDL.of_agg (h:VD P U τ F (.agg l) v):∃xs:Af,v= .agg xs.toArray/\VDL P U τ F l xs:=by cases h with|agg _ xs h1 h2=>exact⟨xs,rfl,h1,h2⟩
def Sj:type_of% @VDL.of_agg:=@VDL.of_agg
def VDL.of_tup (h:VD P U τ F (.tup l) v):∃xs:Af,v= .tuple xs.toArray/\VDL P U τ F l xs:=by cases h with|tup _ xs h1 h2=>exact⟨xs,rfl,h1,h2⟩
def PV.one {k:Kd}{d:Dat}(h:PV P F k v d):v.cells= #[v]:=by cases h<;>rfl
def bF (h:VD P U τ F a v)(e:B5 a=some l):VDL P U τ F l v.cells.toList:=by
 cases h with
 |any v=>simp[B5]at e|agg l' xs h1 h2=>simp only[B5,Pj]at e;subst e;exact⟨by simpa [Value.cells]using h1,fun i a x g hx=>h2 i a x g (by simpa [Value.cells]using hx)⟩|int k x=>simp only[B5,Pj]at e;subst e;exact Sh (.int k x) Si|bool x=>simp only[B5,Pj]at e;subst e;exact Sh (.bool x) Si|str x=>simp only[B5,Pj]at e;subst e;exact Sh (.str x) Si|nilp=>simp only[B5,Pj]at e;subst e;exact Sh .nilp Si|ptr b z row fld i o h h0=>simp only[B5,Pj]at e;subst e;exact Sh (.ptr b z row fld i o h h0) Si|pptr t L row fld i o l c h h0 h1=>simp only[B5,Pj]at e;subst e;exact Sh (.pptr t L row fld i o l c h h0 h1) Si|rp row fld h0=>simp only[B5,Pj]at e;subst e;exact Sh (.rp row fld h0) Si|rv L z xs h=>simp only[B5,Pj]at e;subst e;exact Sh (.rv L z xs h) Si|rpq x v h=>simp only[B5,Pj]at e;subst e;rw[h.one];exact Sh (.rpq x v h) Si|nils=>simp only[B5,Pj]at e;subst e;exact Sh .nils Si|sl b z off len cap i o c h h0 h1 hc=>simp only[B5,Pj]at e;subst e;exact Sh (.sl b z off len cap i o c h h0 h1 hc) Si|sl0 b z off len cap h h0 h1 hc=>simp only[B5,Pj]at e;subst e;exact Sh (.sl0 b z off len cap h h0 h1 hc) Si|lst t L clip v h hc=>simp only[B5,Pj]at e;subst e;rw[h.one];exact Sh (.lst t L clip v h hc) Si|tup l' xs h1 h2=>simp only[B5,Pj]at e;subst e;exact Sh (.tup l' xs h1 h2) Si|fn f l' m xs ys h1 h2 h3 h4=>simp only[B5,Pj]at e;subst e;exact Sh (.fn f l' m xs ys h1 h2 h3 h4) Si|nilf=>simp only[B5,Pj]at e;subst e;exact Sh .nilf Si|map b i o h=>simp only[B5,Pj]at e;subst e;exact Sh (.map b i o h) Si|nilm=>simp only[B5,Pj]at e;subst e;exact Sh .nilm Si|iface t v x h=>simp only[B5,Pj]at e;subst e;exact Sh (.iface t v x h) Si|nili=>simp only[B5,Pj]at e;subst e;exact Sh .nili Si|yld=>simp[B5]at e
theorem H7 {f:Fm}{tm:Ao}(h:TD P U τ F f tm){o:Az}(e:v6 f o=some a):∃v,i5 tm o=some v/\VD P U τ F a v:=by
 cases o with
 |tmp t=>
  simp only[v6,Pj]at e;refine⟨_,rfl,?_⟩;cases hl:lk f t with
  |none=>rw[hl]at e;subst e;exact .any _|some b=>rw[hl]at e;subst e;exact h t b hl
 |const v=>
  simp only[v6]at e;cases hc:cst v with
  |false=>grind|true=>simp only[hc,PB,Pj]at e;subst e;exact⟨v,by simp[i5,hc],IE v⟩
 |global g=>simp[v6]at e|func g=>simp only[v6,Pj]at e;subst e;exact⟨_,rfl,.fn _ [] [] [] [] rfl (fun i a x h _=>by grind) rfl (fun i a x h _=>by grind)⟩
theorem rB {f:Fm}{tm:Ao}(h:TD P U τ F f tm):∀ {os:List Az} {l:As},Dw f os=some l-> ∃vs,hM tm os=some vs/\VDL P U τ F l vs
 | [],l,e=>by simp only[Dw,Pj]at e;subst e;exact⟨[],rfl,Si⟩|o::os,l,e=>by
  simp only[Dw]at e;cases j:v6 f o with
  |none=>grind|some a=>
   cases g:Dw f os with
   |none=>grind|some l'=>simp only[j,g,Pj]at e;subst e;obtain⟨v,h1,h2⟩:=H7 h j;obtain⟨vs,h3,h4⟩:=rB h g;exact⟨v::vs,by simp[hM,h1,h3],Sh h2 h4⟩
def PVD (P:Aw)(U:Ab)(τ:Tau)(F:Ac):List (Nat×SV)->List (Nat×Av)->Prop
 | [],[]=>True| (i,a)::l,(j,v)::m=>i=j/\VD P U τ F a v/\PVD P U τ F l m|_,_=>False
theorem gP {f:Fm}{tm:Ao}(h:TD P U τ F f tm):∀ {os:List (Nat×Az)} {l:List (Nat×SV)},fP f os=some l-> ∃vs,aK tm os=some vs/\PVD P U τ F l vs
 | [],l,e=>by simp only[fP,Pj]at e;subst e;exact⟨[],rfl,trivial⟩| (i,o)::os,l,e=>by
  simp only[fP]at e;cases j:v6 f o with
  |none=>grind|some a=>
   cases g:fP f os with
   |none=>grind|some l'=>simp only[j,g,Pj]at e;subst e;obtain⟨v,h1,h2⟩:=H7 h j;obtain⟨vs,h3,h4⟩:=gP h g;exact⟨(i,v)::vs,by simp[aK,h1,h3],rfl,h2,h4⟩
theorem mG {t:Ax}(h:VDL P U τ F l xs){off:Nat}(e:yN P t l off=some a):∃v,pX P t xs off=some v/\VD P U τ F a v:=by
 unfold yN at e;unfold pX;split at e;cases e
 ·rename_i d f;rw[f];cases hb:qC d with
  |true=>simp only[hb,PB]at e⊢;split at e;rename_i i hi;simp at e;subst e;exact⟨_,by grind,((h.drop off).take i.size).agg⟩;cases e
  |false=>simp only[hb,PC]at e⊢;obtain⟨x,h1,h2⟩:=h.get e;grind
theorem IH {t:Ax}(h:VD P U τ F a v){f:Nat}{b:SV}(e:FN P t a f=some b):∃u,jX P t v f=some u/\VD P U τ F b u:=by unfold FN at e;unfold jX;split at e;rename_i p j;split at e;rename_i m g;split at e;rename_i cs;obtain⟨xs,rfl,hx⟩:=Sj h;obtain⟨u,h1,h2⟩:=mG hx e;grind;cases e;cases e;cases e
def Dx (h:VD P U τ F a v){i:Nat}{b:SV}(e:uL a i=some b):∃u,X5 v i=some u/\VD P U τ F b u:=by unfold uL at e;split at e;obtain⟨xs,rfl,hx⟩:=VDL.of_tup h;obtain⟨u,h1,h2⟩:=hx.get e;exact⟨u,by simpa [X5]using h1,h2⟩;cases e
theorem fM {place:Nat->Bb (Nat×Nat)}:∀ {ps:List (Nat×SV)} {m:List (Nat×Av)} {l:As} {xs:Af} {r:As},VDL P U τ F l xs->PVD P U τ F ps m->pM place l ps=some r-> ∃ys,mP place xs m=some ys/\VDL P U τ F r ys
 | [],[],l,xs,r,h,_,e=>by simp only[pM,Pj]at e;subst e;exact⟨xs,rfl,h⟩| (i,a)::ps,(j,v)::m,l,xs,r,h,hp,e=>by
  obtain⟨rfl,hv,hp'⟩:=hp;simp only[pM]at e;split at e;cases e
  ·rename_i off size f;split at e;cases e
   ·rename_i vs g;have hc:=bF hv g;simp only[mP,f];rw[hc.1,h.1]at e;cases hb:Nat.beq v.cells.toList.length size&&Nat.ble (off+size) xs.length with
    |false=>grind|true=>simp only[hb,PB]at e⊢;exact fM (h.splice hc off) hp' e
 | [],_::_,l,xs,r,h,hp,e=>hp.elim|_::_,[],l,xs,r,h,hp,e=>hp.elim
def bH {t:Ax}(e:pP P t=some l):∃z,dR P t=some z/\VDL P U τ F l z.cells.toList:=by unfold pP at e;split at e;rename_i z hz;simp at e;subst e;exact⟨z,hz,cR _⟩;cases e
theorem ID {t:Ax}{ps:List (Nat×SV)}{j:List (Nat×Av)}(h:PVD P U τ F ps j)(e:FI P t ps=some a):∃v,jV P t j=some v/\VD P U τ F a v:=by unfold FI at e;unfold jV;split at e;cases e;rename_i l hl;obtain⟨z,h1,h2⟩:=bH hl;rw[h1];split at e;rename_i r g;split at e;rename_i w p;split at e;rename_i cs f;simp at e;rw[<-e];obtain⟨ys,h3,h4⟩:=fM h2 h f;exact⟨_,by grind,h4.agg⟩;cases e;cases e;rename_i ie g;split at e;rename_i q m;split at e;rename_i cs f;simp at e;rw[<-e];obtain⟨ys,h3,h4⟩:=fM h2 h f;exact⟨_,by grind,h4.agg⟩;cases e;cases e;cases e
end
def rng (e:E)(k:IntKind):E:=GZ (y4 (y6 e (.int k.min))) (y6 e (.int (k.max+1)))
def nM (op:BinOp)(k:IntKind)(a b:E):E:=match a,b with
 | .int m,.int n=>.int (Go.bits op k m n)|a,b=>.op (.bits op k) [a,b]
def Kt (a b:E):E:=match a,b with
 | .int m,.int n=>.int (m.tdiv n)|a,b=>.op .tdiv [a,b]
def Ku (a b:E):E:=match a,b with
 | .int m,.int n=>.int (m.tmod n)|a,b=>.op .tmod [a,b]
def Kv (k:IntKind)(a b:E):E:=match a,b with
 | .int m,.int n=>.int (k.wrap (m*2^(min n.toNat k.bits)))|a,b=>.op (.shl k) [a,b]
def Kw (k:IntKind)(a b:E):E:=match a,b with
 | .int m,.int n=>.int (m.fdiv (2^(min n.toNat k.bits)))|a,b=>.op (.shr k) [a,b]
def EW (a b:E):E:=match a,b with
 | .str p,.str q=>.str (p++q)|a,b=>.op .sapp [a,b]
def aB (a:E):E:=match a with
 | .str p=>.int p.length|a=>.op .slen [a]
def xR (a b:E):E:=match a,b with
 | .str p,.str q=>.bool (Op.bytesLess p q)|a,b=>.op .lts [a,b]
section
variable (P :Aw)(U:Ab)
def tA (k:IntKind)(e:E):M SV:=match e with
 | .int n=>d9 (.int k (.int (k.wrap n)))|e=>bif decide (k= .i64)then b9 (j7 U (rng e .i64)) fun _=>d9 (.int k e)else d9 (.int k (.op (.wrap k) [e]))
def scmp (op:BinOp)(a b:E):Bb E:=
 match op with
 | .eql=>some (E4 a b)| .neq=>some (y4 (E4 a b))| .lss=>some (y6 a b)| .leq=>some (y4 (y6 b a))| .gtr=>some (y6 b a)| .geq=>some (y4 (y6 a b))|_=>none
def FH (op:BinOp)(k:IntKind)(a b:E):M SV:=
 match op with
 | .add=>tA U k (y0 a b)| .sub=>tA U k (L6 a b)| .mul=>tA U k (Ks a b)| .quo=>b9 (j7 U (y4 (E4 b (.int 0)))) fun _=>tA U k (Kt a b)
 | .rem=>b9 (j7 U (y4 (E4 b (.int 0)))) fun _=>d9 (.int k (Ku a b))
 | .and=>d9 (.int k (nM .and k a b))| .or=>d9 (.int k (nM .or k a b))| .xor=>d9 (.int k (nM .xor k a b))| .andNot=>d9 (.int k (nM .andNot k a b))|op=>match scmp op a b with|some c=>d9 (.bool c)|none=>a9 "arith"
def Ga (op:BinOp)(k:IntKind)(a b:E):M SV:=
 b9 (j7 U (y4 (y6 b (.int 0)))) fun _=>
 match op with
 | .shl=>d9 (.int k (Kv k a b))| .shr=>d9 (.int k (Kw k a b))|_=>a9 "shift"
def sstr (op:BinOp)(a b:E):M SV:=
 match op with
 | .add=>b9 (j7 U (y6 (y0 (aB a) (aB b)) (.int 1000000001))) fun _=>d9 (.str (EW a b))
 | .eql=>d9 (.bool (lD a b))| .neq=>d9 (.bool (y4 (lD a b)))| .lss=>d9 (.bool (xR a b))| .leq=>d9 (.bool (mkOr (xR a b) (lD a b)))| .gtr=>d9 (.bool (y4 (mkOr (xR a b) (lD a b))))| .geq=>d9 (.bool (y4 (xR a b)))|_=>a9 "str"
def FM (eq:Ax->SV->SV->Bb E)(xs ys:As):List Field->Bb E
 | []=>some (.bool true)|f::fs=>bif f.name== "_" then FM eq xs ys fs else
  match yN P f.type xs f.offset,yN P f.type ys f.offset with
  |some a,some b=>match eq f.type a b,FM eq xs ys fs with
   |some p,some q=>some (GZ p q)|_,_=>none
  |_,_=>none
def jF :SV->Bool
 | .ptr _ _ _ _| .pptr _ _ _ _| .rp _ _=>true
 |_=>false
def Bi (size:Nat)(x y:SV):Bb E:=
 match x,y with
 | .nilp,.nilp=>some (.bool true)| .rpq e,.nilp=>some (E4 e (.int (-1)))| .nilp,.rpq e=>some (E4 e (.int (-1)))| .nilp,y=>bif jF y then some (.bool false)else none|x,.nilp=>bif jF x then some (.bool false)else none| .ptr b z row fld,.ptr b' z' row' fld'=>bif Nat.beq b b'&&Nat.beq z z'&&Nat.beq fld fld'&&Nat.ble 1 z&&Nat.ble 1 size then some (E4 row row')else none|_,_=>none
def Hx (x y:SV):Bb E:=
 match x,y with
 | .nils,.nils=>some (.bool true)|_,_=>none
def mD (x y:SV):Bb E:=
 match x,y with
 | .nilm,.nilm=>some (.bool true)| .map _,.nilm=>some (.bool false)| .nilm,.map _=>some (.bool false)|_,_=>none
def Hw (x y:SV):Bb E:=
 match x,y with
 | .nilf,.nilf=>some (.bool true)| .nilf,.fn _ _ _=>some (.bool false)| .fn _ _ _,.nilf=>some (.bool false)|_,_=>none
def uI :Nat->Ax->SV->SV->Bb E
 |0,_,_,_=>none|d+1,t,x,y=>match P.underlying t with
  |some .bool=>match x,y with
   | .bool a,.bool b=>some (Ha a b)|_,_=>none
  |some (.int _)=>match x,y with
   | .int k a,.int k' b=>bif decide (k=k')then some (E4 a b)else none|_,_=>none
  |some .string=>match x,y with
   | .str a,.str b=>some (lD a b)|_,_=>none
  |some (.pointer e)=>match P.info? e with
   |some ie=>Bi ie.size x y|none=>none
  |some (.struct fs)=>match x,y with
   | .agg xs,.agg ys=>bif P.stoodInHeld t then none else FM P (uI d) xs ys fs.toList|_,_=>none
  |some (.array n e)=>match x,y with
   | .agg xs,.agg ys=>match P.info? e with
    |some _=>FM P (uI d) xs ys (aFs P e (List.range n))|none=>none
   |_,_=>none
  |some (.slice _)=>Hx x y|some (.map _ _)=>mD x y|some (.func _ _ _)=>Hw x y|some (.interface _)=>match x,y with
   | .nili,.iface _ _=>some (.bool false)| .iface _ _,.nili=>some (.bool false)
   | .iface tx vx, .iface ty vy => bif decide (tx = ty) then
     match P.info? tx with
     |some i=>bif i.comparable then uI d tx vx vy else none|none=>none
    else some (.bool false)
   |_,_=>none
  |_=>none
def aI (t:Ax):SV->Bool
 | .any=>false| .agg _=> !P.eqGuardType P.depth t| .nili=>false|_=>true
def sbin (op:BinOp)(t:Ax)(x y:SV):M SV:=
 match x,y with
 | .int k a,.int k' b=>match op with
  | .shl=>Ga U .shl k a b| .shr=>Ga U .shr k a b|op=>bif decide (k=k')then FH U op k a b else a9 "kinds"
 | .str a,.str b=>sstr U op a b|x,y=>match op with
  | .eql=>bif aI P t x then match uI P 10000 t x y with
   |some b=>d9 (.bool b)|none=>a9 "eq" else a9 "eq guard"
  | .neq=>bif aI P t x then match uI P 10000 t x y with
   |some b=>d9 (.bool (y4 b))|none=>a9 "eq" else a9 "eq guard"
  |_=>a9 "binop"
def snil (len:E):M SV:=fun s=>.all .b s.fv fun d=>
 .br d (.asm (.e (E4 len (.int 0))) ((E4 len (.int 0)).pr U) (.ret (.bool (.bool true),addF {s with fv:=s.fv+1} (E4 len (.int 0)) true))) (.ret (.bool (.bool false),{s with fv:=s.fv+1}))
def CL (op:BinOp)(t:Ax)(x y:SV):Bb E:=match P.underlying t with
 |some (.slice _)=>match op,x,y with
  | .eql,.sl _ _ _ len _,.nils=>some len| .eql,.lst _ L _,.nils=>some (z9 L)|_,_,_=>none
 |_=>none
def Lg (op:BinOp)(t:Ax)(x y:SV):M SV:=match CL P op t x y with
 |some len=>snil U len|none=>sbin P U op t x y
def srune :M SV:=fun s=>.all .s s.fv fun d=>.asm (.e (y6 (.op .slen [d]) (.int 5))) ((y6 (.op .slen [d]) (.int 5)).pr U) (.ret (.str d,{s with fv:=s.fv+1}))
def Lj (src dst:Ax)(x:SV):M SV:=
 match P.underlying src with
 |none=>a9 "conv"|some _=>match P.underlying dst,x with
  |some (.int k),.int k0 e=>match e with
   | .int n=>d9 (.int k (.int (k.wrap n)))|e=>bif Nat.blt k.bits k0.bits then d9 (.int k (.op (.wrap k) [e]))else b9 (j7 U (rng e k)) fun _=>d9 (.int k e)
  |some .string,.str s=>d9 (.str s)|some .string,.int _ _=>srune U|_,_=>a9 "conv"
def sun (op:UnOp)(x:SV):M SV:=
 match op,x with
 | .neg,.int k e=>tA U k (L6 (.int 0) e)| .not,.bool b=>d9 (.bool (y4 b))|_,_=>a9 "unop"
def FO (t:Ax)(x:SV):Bb SV:=
 match P.underlying t with
 |some (.interface _)=>none|some _=>some (.iface t x)|none=>none
def IK (big:Bool):SV->As->M SV
 |v,[]=>match v with
  | .int k n=>d9 (.int k n)|_=>a9 "min"
 |v,y::ys=>match v,y with
  | .int k a,.int _ b=>b9 (eT U (bif big then y6 a b else y6 b a)) fun t=>IK big (.int k (bif t then b else a)) ys
  |_,_=>a9 "min"
end
section
variable {P :Aw}{U:Ab}{τ:Tau}{F:Ac}
variable {k:IntKind}{n:Int}
def Nc (h1:k.min<=n)(h2:n<=k.max):k.wrap n=n:=by unfold IntKind.wrap;unfold IntKind.min at h1;unfold IntKind.max at h2;cases k<;>simp[IntKind.signed,IntKind.bits]at h1 h2⊢ <;>omega
def La {e:E}(h:(rng e k).pr U):k.wrap (e.toI U)=e.toI U:=by rw[Ru,rng,xL,F6,F8,F8]at h;simp at h;simp only[A8]at h;exact Nc (by omega) (by omega)
def cC (op:BinOp)(k:IntKind)(a b:E):(nM op k a b).toI U=Go.bits op k (a.toI U) (b.toI U):=by unfold nM;split<;>rfl
def Ic (a b:E):(Kt a b).toI U=(a.toI U).tdiv (b.toI U):=by unfold Kt;split<;>rfl
def Ie (a b:E):(Ku a b).toI U=(a.toI U).tmod (b.toI U):=by unfold Ku;split<;>rfl
def If (k:IntKind)(a b:E):(Kv k a b).toI U=k.wrap (a.toI U*2^(min (b.toI U).toNat k.bits)):=by unfold Kv;split<;>rfl
def Ig (k:IntKind)(a b:E):(Kw k a b).toI U=(a.toI U).fdiv (2^(min (b.toI U).toNat k.bits)):=by unfold Kw;split<;>rfl
def EY (a b:E):((EW a b).den U).toStr=(a.den U).toStr++(b.den U).toStr:=by unfold EW;split<;>rfl
def N4 (a:E):(aB a).toI U=((a.den U).toStr.length:Int):=by unfold aB;split<;>rfl
def gG (a b:E):((xR a b).den U).toBool=Op.bytesLess (a.den U).toStr (b.den U).toStr:=by unfold xR;split<;>rfl
def VD.int' {e:E}(h:e.toI U=n):VD P U τ F (.int k e) (.int k n):=by subst h;exact .int k e
def Se:type_of% @VD.int':=@VD.int'
def VD.bool' {e:E}{b:Bool}(h:(e.den U).toBool=b):VD P U τ F (.bool e) (.bool b):=by subst h;exact .bool e
def Sd:type_of% @VD.bool':=@VD.bool'
variable {s:SS}
def eU {e:E}(h:e.toI U=n):OKp U (tA U k e) s fun a=>VD P U τ F a (.int k (k.wrap n)):=by subst h;unfold tA;split;exact RL (.int k (.int _));by_cases hk:k= .i64;subst hk;simp;exact OKp.need.bind fun _ s' _ _ hp=>RL (Se (La hp).symm);simp only[hk,decide_false,PC];exact RL (.int k (.op (.wrap k) [_]))
def He {b:E}(h:(y4 (E4 b (.int 0))).pr U):¬b.toI U=0:=by rwa[Ru,F6,E0,Qi,Qk]at h
theorem MT {op:BinOp}{a b c:E}(h:scmp op a b=some c):jW op (a.toI U) (b.toI U)=some (.bool (c.den U).toBool):=by unfold scmp at h;split at h<;>simp at h<;>subst h<;>simp only[jW,F6,F8,E0,Pj,Value.bool.injEq];grind;grind
def IC {op:BinOp}{a b:E}:OKp U (FH U op k a b) s fun c=>∃v,D6 op k (a.toI U) (b.toI U)=some v/\VD P U τ F c v:=by
 unfold FH;split;exact(eU (j5 a b)).mono fun c h=>⟨_,rfl,h⟩
 exact(eU (v7 a b)).mono fun c h=>⟨_,rfl,h⟩
 exact(eU (Ib a b)).mono fun c h=>⟨_,rfl,h⟩
 ·refine OKp.need.bind fun _ s' _ _ hp=>(eU (Ic a b)).mono fun c h=>⟨_,?_,h⟩
  simp[D6,He hp]
 refine OKp.need.bind fun _ s' _ _ hp=>RL ⟨_,?_,Se (Ie a b)⟩;simp[D6,He hp];exact RL ⟨_,rfl,Se (cC _ k a b)⟩;exact RL ⟨_,rfl,Se (cC _ k a b)⟩;exact RL ⟨_,rfl,Se (cC _ k a b)⟩;exact RL ⟨_,rfl,Se (cC _ k a b)⟩
 ·split;rename_i c hc;refine RL ⟨_,?_,.bool c⟩;rw[<-MT hc];cases op<;>first|rfl| (exact absurd rfl (by omega))
  exact RG
def U9 {b:E}(h:(y4 (y6 b (.int 0))).pr U):0<=b.toI U:=by rw[Ru,F6,F8,Qi,Qk]at h;exact Int.not_lt.1 h
theorem yO {op:BinOp}{a b:E}:OKp U (Ga U op k a b) s fun c=>∃v,oU op k (a.toI U) (b.toI U)=some v/\VD P U τ F c v:=by
 refine OKp.need.bind fun _ s' _ _ hp=>?_;have h0:=U9 hp;have e:decide (b.toI U<0)=false:=by grind
 split;exact RL ⟨_,by simp only[oU,e,PC],Se (If k a b)⟩;exact RL ⟨_,by simp only[oU,e,PC],Se (Ig k a b)⟩;exact RG
def VD.str' {e:E}{l:Ae}(h:(e.den U).toStr=l):VD P U τ F (.str e) (.string ⟨l.toArray⟩):=by subst h;exact .str e
def MW {op:BinOp}{a b:E}:OKp U (sstr U op a b) s fun c=>∃v,Mf op ⟨(a.den U).toStr.toArray⟩ ⟨(b.den U).toStr.toArray⟩=some v/\VD P U τ F c v:=by unfold sstr;split;refine OKp.need.bind fun _ s' _ _ hp=>?_;rw[Ru,F8,j5,N4,N4]at hp;simp at hp;simp only[A8]at hp;refine RL ⟨_,?_,VD.str' (EY a b)⟩;have hb:Nat.ble ((a.den U).toStr.length+(b.den U).toStr.length) 1000000000=true:=Ps (by omega);simp only[Mf,hb,PB];exact RL ⟨.bool ((a.den U).toStr==(b.den U).toStr),rfl,Sd (R7 a b)⟩;exact RL ⟨.bool (!((a.den U).toStr==(b.den U).toStr)),rfl,Sd (by rw[F6,R7])⟩;exact RL ⟨.bool (Op.bytesLess (a.den U).toStr (b.den U).toStr),rfl,Sd (gG a b)⟩;exact RL ⟨.bool (Op.bytesLess (a.den U).toStr (b.den U).toStr|| (a.den U).toStr==(b.den U).toStr),rfl,Sd (by rw[CP,gG,R7])⟩;exact RL ⟨.bool (!(Op.bytesLess (a.den U).toStr (b.den U).toStr|| (a.den U).toStr==(b.den U).toStr)),rfl,Sd (by rw[F6,CP,gG,R7])⟩;exact RL ⟨.bool (!Op.bytesLess (a.den U).toStr (b.den U).toStr),rfl,Sd (by rw[F6,gG])⟩;exact RG
def rA {j:Ax->SV->SV->Bb E}{r:Ax->Av->Av->Bb Bool}(h:∀t a b v u c,VD P U τ F a v->VD P U τ F b u->j t a b=some c->r t v u=some (c.den U).toBool){l m:As}{xs ys:Af}(hl:VDL P U τ F l xs)(hm:VDL P U τ F m ys):∀ {g:List Field} {c:E},FM P j l m g=some c->BQ P r xs ys g=some (c.den U).toBool
 | [],c,e=>by simp only[FM,Pj]at e;subst e;rfl|f::g,c,e=>by
  simp only[FM]at e;simp only[BQ];cases hn:f.name== "_" with
  |true=>simp only[hn,PB]at e⊢;exact rA h hl hm e|false=>
   simp only[hn,PC]at e⊢;split at e
   ·rename_i a b w hb;split at e
    ·rename_i p q hp hq;simp at e;subst e;obtain⟨v,h1,h2⟩:=mG hl w;obtain⟨u,h3,h4⟩:=mG hm hb;simp only[h1,h3,h _ _ _ _ _ _ h2 h4 hp];rw[xL];cases z:(p.den U).toBool with
     |true=>exact rA h hl hm hq|false=>rfl
    cases e
   cases e
variable {a:SV}{v:Av}
def yE (h:VD P U τ F a v)(e:jF a=true):∃p,v= .pointer (some p):=by cases h<;>first|exact⟨_,rfl⟩| (simp[jF]at e)
variable {x y:SV}{u:Av}{d:Nat}
theorem IG {size:Nat}(hx:VD P U τ F x v)(hy:VD P U τ F y u){c:E}(e:Bi size x y=some c){t j:Ax}(ht:P.underlying t=some (.pointer j)){ie:Ba}(hi:P.info? j=some ie)(hs:ie.size=size):xeq P (d+1) t v u=some (c.den U).toBool:=by
 unfold Bi at e;split at e;simp only[Pj]at e;subst e;cases hx;cases hy;simp[xeq,ht];rfl
 ·rename_i q;simp only[Pj]at e;subst e;cases hy;rw[E0,A8];cases hx with
  |rpq _ _ h=>
  generalize hq:q.toI U=m at h;cases h with
  |rp k=>rw[show decide ((k:Int)= -1)=false from QK (by omega)];simp[xeq,ht]|rpn=>simp[xeq,ht]
 ·rename_i q;simp only[Pj]at e;subst e;cases hx;rw[E0,A8];cases hy with
  |rpq _ _ h=>
  generalize hq:q.toI U=m at h;cases h with
  |rp k=>rw[show decide ((k:Int)= -1)=false from QK (by omega)];simp[xeq,ht]|rpn=>simp[xeq,ht]
 ·cases hp:jF y with
  |false=>grind|true=>simp only[hp,PB,Pj]at e;subst e;obtain⟨p,rfl⟩:=yE hy hp;cases hx;simp[xeq,ht];rfl
 ·cases hp:jF x with
  |false=>grind|true=>simp only[hp,PB,Pj]at e;subst e;obtain⟨p,rfl⟩:=yE hx hp;cases hy;simp[xeq,ht];rfl
 ·rename_i b z row fld b' A g f;cases hb:Nat.beq b b'&&Nat.beq z A&&Nat.beq fld f&&Nat.ble 1 z&&Nat.ble 1 size with
  |false=>grind|true=>
   simp only[hb,PB,Pj]at e;subst e;simp only[Pk,Qc,Qq]at hb;obtain⟨⟨⟨⟨rfl,rfl⟩,rfl⟩,hz⟩,w⟩:=hb;cases hx with
   |ptr _ _ _ _ i o h h0=>
    cases hy with
    |ptr _ _ _ _ B o' h' r=>
     rw[h]at h';simp only[Pj,Pn]at h';obtain⟨rfl,rfl⟩:=h';simp only[xeq,ht,w9,PB,hi];rw[y7 (by omega),PC,E0];congr 1;rw[Bool.eq_iff_iff];simp only[Qc,PF];constructor
     ·intro h;have:row.toN U*z=g.toN U*z:=by omega
      have:=Nat.eq_of_mul_eq_mul_right (by omega) this;grind
     grind
 cases e
theorem VD.not_int (h:VD P U τ F a (.int k n)):a= .any\/ ∃e,a= .int k e:=by
 cases h with
 |any=>grind|int k e=>grind|rpq x v h=>cases h
 |lst t L clip v h hc=>cases h
theorem VD.not_str {s:ByteArray}(h:VD P U τ F a (.string s)):a= .any\/ ∃e,a= .str e:=by
 cases h with
 |any=>grind|str e=>grind|rpq x v h=>cases h
 |lst t L clip v h hc=>cases h
def VD.not_complex {f:FloatKind}{m n:Nat}(h:VD P U τ F a (.complex f m n)):a= .any:=by
 cases h with
 |any=>rfl|rpq x v h=>cases h
 |lst t L clip v h hc=>cases h
def Lp (hx:VD P U τ F x v)(hy:VD P U τ F y u){c:E}(e:Hx x y=some c){t f:Ax}(ht:P.underlying t=some (.slice f)):xeq P (d+1) t v u=some (c.den U).toBool:=by unfold Hx at e;split at e<;>simp at e<;>subst e<;>cases hx<;>cases hy<;>simp[xeq,ht]<;>rfl
def Dv (hx:VD P U τ F x v)(hy:VD P U τ F y u){c:E}(e:mD x y=some c){t g f:Ax}(ht:P.underlying t=some (.map g f)):xeq P (d+1) t v u=some (c.den U).toBool:=by unfold mD at e;split at e<;>simp at e<;>subst e<;>cases hx<;>cases hy<;>simp[xeq,ht]<;>rfl
def Lm (hx:VD P U τ F x v)(hy:VD P U τ F y u){c:E}(e:Hw x y=some c){t:Ax}{ps f:Array Ax}{b:Bool}(ht:P.underlying t=some (.func ps f b)):xeq P (d+1) t v u=some (c.den U).toBool:=by unfold Hw at e;split at e<;>simp at e<;>subst e<;>cases hx<;>cases hy<;>simp[xeq,ht]<;>rfl
theorem mE :∀(d:Nat) (t:Ax) (a b:SV) (v u:Av) (c:E),VD P U τ F a v->VD P U τ F b u->uI P d t a b=some c->xeq P d t v u=some (c.den U).toBool
 |0,t,a,b,v,u,c,f,hb,e=>by simp[uI]at e|d+1,t,a,b,v,u,c,f,hb,e=>by
  simp only[uI]at e;split at e;rename_i ht;split at e;simp only[Pj]at e;subst e;cases f;cases hb;simp only[xeq,ht,xN];cases e;rename_i ht;split at e;rename_i k x k' y;by_cases hk:k=k';simp only[hk,Qs,PB,Pj]at e;subst e;subst hk;cases f;cases hb;simp only[xeq,ht,E0,Qs,PB];grind;cases e;rename_i ht;split at e;simp only[Pj]at e;subst e;cases f;cases hb;simp only[xeq,ht,R7];cases e;rename_i r ht;split at e;rename_i ie j;exact IG f hb e ht j rfl;cases e
  ·rename_i q ht;split at e
   ·rename_i xs ys;cases hs:P.stoodInHeld t with
    |true=>grind|false=>simp only[hs,PC]at e;obtain⟨vs,rfl,h1⟩:=Sj f;obtain⟨us,rfl,h2⟩:=Sj hb;simp only[xeq,ht,hs,PC];exact rA (mE d) h1 h2 e
   cases e
  rename_i n e' ht;split at e;split at e;rename_i i hi;obtain⟨vs,rfl,h1⟩:=Sj f;obtain⟨us,rfl,h2⟩:=Sj hb;simp only[xeq,ht,hi];exact rA (mE d) h1 h2 e;cases e;cases e;rename_i ht;exact Lp f hb e ht;rename_i ht;exact Dv f hb e ht;rename_i ht;exact Lm f hb e ht
  ·rename_i ht;split at e;simp only[Pj]at e;subst e;cases f;cases hb;simp only[xeq,ht];rfl;simp only[Pj]at e;subst e;cases f;cases hb;simp only[xeq,ht];rfl
   ·rename_i m vx ty p;cases f with
    |iface _ _ x hx=>
     cases hb with
     |iface _ _ y hy=>
      by_cases hk:m=ty
      ·subst hk;simp only[Qs,PB]at e;split at e
       ·rename_i i hi;cases g:i.comparable with
        |false=>grind|true=>simp only[g,PB]at e;simp only[xeq,ht,Qs,PB,hi,g];exact mE d m vx p x y c hx hy e
       cases e
      simp only[hk,decide_false,PC,Pj]at e;subst e;simp only[xeq,ht,hk,decide_false,PC];rfl
   cases e
  cases e
def PV.guard {k:Kd}{d:Dat}(h:PV P F k v d)(t:Ax):M1 P t v=true:=by cases h<;>rfl
def gN {t:Ax}(h:VD P U τ F a v)(e:aI P t a=true):M1 P t v=true:=by
 cases h with
 |any=>simp[aI]at e|nili=>simp[aI]at e|yld=>first|exact e|rfl|simp[aI,M1]at e⊢
 |agg l xs h1 h2=>exact e|lst f L clip v h hc=>exact h.guard t|rpq x v h=>exact h.guard t|_=>rfl
def M8 {op:BinOp}{t:Ax}{w:Av}(h:cZ P op t v u=some w):K5 P op t v u=some w:=by unfold K5;rw[h]
theorem S3 {op:BinOp}{t:Ax}(h1:∀k a k' b,v= .int k a->u= .int k' b->False)(h2:∀a b,v= .string a->u= .string b->False)(h3:∀f m n,u= .complex f m n->False):cZ P op t v u=match op with
  | .eql=>bif M1 P t v then match xeq P 10000 t v u with
   |some b=>some (.bool b)|none=>none else none
  | .neq=>bif M1 P t v then match xeq P 10000 t v u with
   |some b=>some (.bool (!b))|none=>none else none
  |_=>none:=by
 unfold cZ;grind
def LY {op:BinOp}{t:Ax}{a b:Int}(h:D6 op k a b=some v):cZ P op t (.int k a) (.int k b)=some v:=by simp only[cZ,Qs,PB];cases op<;>first|exact h| (simp[D6,jW]at h)
variable {b:SV}
theorem MQ {op:BinOp}{t:Ax}(g:VD P U τ F a v)(hb:VD P U τ F b u):OKp U (sbin P U op t a b) s fun c=>∃w,K5 P op t v u=some w/\VD P U τ F c w:=by
 unfold sbin;split
 ·rename_i k x k' y;cases g;cases hb;split;exact yO.mono fun c ⟨w,h1,h2⟩=>⟨w,M8 h1,h2⟩
  exact yO.mono fun c ⟨w,h1,h2⟩=>⟨w,M8 h1,h2⟩
  ·by_cases hk:k=k';subst hk;simp only[Qs,PB];exact IC.mono fun c ⟨w,h1,h2⟩=>⟨w,M8 (LY h1),h2⟩
   simp only[hk,decide_false,PC];exact RG
 cases g;cases hb;exact MW.mono fun c ⟨w,h1,h2⟩=>⟨w,M8 h1,h2⟩
 ·rename_i hi hs;have j:∀c,aI P t a=true->uI P 10000 t a b=some c->(∀k p k' q,v= .int k p->u= .int k' q->False)/\(∀p q,v= .string p->u= .string q->False)/\(∀f m n,u= .complex f m n->False):=by
   intro c hg hq;have na:a≠ .any:=fun e=>by subst e;simp[aI]at hg
   have nb:b≠ .any:=by
    intro e;have:∀d,uI P (d+1) t a .any=none:=by intro d;simp only[uI];split<;>(try (split<;>first|rfl| (rename_i h;cases h)|skip));all_goals (first| (unfold Bi;split<;>first|rfl| (rename_i h;cases h;done)| (simp[jF]))| (unfold Hx;split<;>first|rfl| (rename_i h;cases h;done))| (unfold mD;split<;>first|rfl| (rename_i h;cases h;done))| (unfold Hw;split<;>first|rfl| (rename_i h;cases h;done))|simp_all)
    grind
   refine⟨fun k p k' q r z=>?_,fun p q r z=>?_,fun f m n e=>?_⟩;subst r;subst z;obtain⟨e,rfl⟩:=g.not_int.resolve_left na;obtain⟨e',rfl⟩:=hb.not_int.resolve_left nb;grind;subst r;subst z;obtain⟨e,rfl⟩:=g.not_str.resolve_left na;obtain⟨e',rfl⟩:=hb.not_str.resolve_left nb;grind;subst e;exact nb hb.not_complex
  split
  ·cases hg:aI P t a with
   |false=>exact RG|true=>split;rename_i c hc;obtain⟨k1,k2,k3⟩:=j c hg hc;refine RL ⟨_,M8 ?_,.bool c⟩;rw[S3 k1 k2 k3];simp only[gN g hg,PB,mE _ _ _ _ _ _ _ g hb hc];exact RG
  ·cases hg:aI P t a with
   |false=>exact RG|true=>split;rename_i c hc;obtain⟨k1,k2,k3⟩:=j c hg hc;refine RL ⟨_,M8 ?_,Sd (F6 c)⟩;rw[S3 k1 k2 k3];simp only[gN g hg,PB,mE _ _ _ _ _ _ _ g hb hc];exact RG
  exact RG
theorem Lh {op:BinOp}{t:Ax}(g:VD P U τ F a v)(hb:VD P U τ F b u):OKp U (Lg P U op t a b) s fun c=>∃w,K5 P op t v u=some w/\VD P U τ F c w:=by
 unfold Lg;split
 ·rename_i len h;unfold CL at h;split at h
  ·rename_i q ht;split at h
   ·rename_i b' z off f cap;simp only[Pj]at h;subst h;have hg:M1 P t v=true:=gN g rfl;cases hb;intro Q hq hf;cases g with
    |sl _ _ _ _ _ i o c k h0 h1 hc=>refine⟨_,_,(hq false).2 (fun h=>by cases h),⟨rfl,rfl,⟨[],rfl⟩,rfl⟩,hf,.bool false,M8 ?_,.bool (.bool false)⟩;rw[S3 (fun _ _ _ _ h=>by grind) (fun _ _ h=>by grind) (fun _ _ _ h=>by grind)];simp only[hg,PB];simp[xeq,ht]|sl0 _ _ _ _ _ k h0 h1 hc=>have hp:(E4 f (.int 0)).pr U:=(Ru U _).2 (by rw[E0];simp only[h1];rfl);refine⟨_,_,(hq true).1 ((Ru U _).2 rfl) hp,⟨rfl,rfl,⟨[(E4 f (.int 0),true)],rfl⟩,rfl⟩,hf.cons ((Ru U _).1 hp),.bool true,M8 ?_,.bool (.bool true)⟩;rw[S3 (fun _ _ _ _ h=>by grind) (fun _ _ h=>by grind) (fun _ _ _ h=>by grind)];simp only[hg,PB];simp[xeq,ht]
   ·rename_i q L clip;cases h;have hg:M1 P t v=true:=gN g rfl;cases hb;intro Q hq hf;cases g with
    |lst _ _ _ _ j _=>
     have p:∀(v:Av) (d:Dat),PV P F (.sl q) v d->v= .slice none 0 0->d.rows=[]:=fun v d h e=>by
      cases h with
      |nils=>rfl|vague=>rfl|sl=>cases e
     have m:∀(v:Av) (d:Dat),PV P F (.sl q) v d->v= .slice none 0 0\/ ∃a l c,v= .slice (some a) l c:=fun v d h=>by
      cases h with
      |nils=>grind|vague=>grind|sl=>grind
     by_cases hv:v= .slice none 0 0
     ·subst hv;have hL:(L.toR U).length=0:=by have h0:=p _ (.lst (L.toR U)) j rfl;rw[show L.toR U=[]from h0];rfl
      have hp:=(Ru U _).2 (by rw[E0];show decide ((z9 L).toI U=(E.int 0).toI U)=true;rw[i9,hL];rfl);refine⟨_,_,(hq true).1 ((Ru U _).2 rfl) hp,⟨rfl,rfl,⟨[(E4 (z9 L) (.int 0),true)],rfl⟩,rfl⟩,hf.cons ((Ru U _).1 hp),.bool true,M8 ?_,.bool (.bool true)⟩;rw[S3 (fun _ _ _ _ h=>by grind) (fun _ _ h=>by grind) (fun _ _ _ h=>by grind)];simp only[hg,PB];simp[xeq,ht]
     obtain⟨a,l,c,rfl⟩:=(m _ _ j).resolve_left hv;refine⟨_,_,(hq false).2 (fun h=>by cases h),⟨rfl,rfl,⟨[],rfl⟩,rfl⟩,hf,.bool false,M8 ?_,.bool (.bool false)⟩;rw[S3 (fun _ _ _ _ h=>by grind) (fun _ _ h=>by grind) (fun _ _ _ h=>by grind)];simp only[hg,PB];simp[xeq,ht]
   cases h
  cases h
 exact MQ g hb
theorem Mp (r:Int):(Utf8.encode r).data.toList.length<=4:=by unfold Utf8.encode;grind
def Lk {src dst:Ax}(g:VD P U τ F a v):OKp U (Lj P U src dst a) s fun c=>∃w,fW P src dst v=some w/\VD P U τ F c w:=by
 unfold Lj;split;exact RG
 ·rename_i d f;split
  ·rename_i k k0 e hk;cases g;split;rename_i n;exact RL ⟨.int k (k.wrap n),by simp only[fW,f,hk];rfl,Se rfl⟩
   ·cases Nat.blt k.bits k0.bits with
    |true=>exact RL ⟨.int k (k.wrap (e.toI U)),by simp only[fW,f,hk],Se rfl⟩|false=>exact OKp.need.bind fun _ s' _ _ hp=>RL ⟨.int k (k.wrap (e.toI U)),by simp only[fW,f,hk],Se (La hp).symm⟩
  rename_i e hk;cases g;exact RL ⟨_,by simp only[fW,f,hk],.str e⟩;rename_i e hk;cases g;intro Q hq hf;exact⟨_,_,hq (Utf8.encode (e.toI U)).data.toList ((Ru U _).2 (by exact decide_eq_true (by have:=Mp (e.toI U);show((Utf8.encode (e.toI U)).data.toList.length:Int)<5;omega))),⟨rfl,rfl,⟨[],rfl⟩,rfl⟩,hf,.string (Utf8.encode (e.toI U)),by simp only[fW,f,hk,Me],.str (.dat _ (.str _))⟩;exact RG
def OZ {op:UnOp}(f:VD P U τ F a v):OKp U (sun U op a) s fun c=>∃w,xun op v=some w/\VD P U τ F c w:=by
 unfold sun;split;cases f;exact(eU (v7 _ _)).mono fun c h=>⟨_,rfl,h⟩
 cases f;exact RL ⟨_,rfl,Sd (F6 _)⟩;exact RG
theorem II {t:Ax}(f:VD P U τ F a v)(e:FO P t a=some b):∃w,jY P t v=some w/\VD P U τ F b w:=by
 unfold FO at e;unfold jY;cases h:P.underlying t with
 |none=>grind|some d=>
  rw[h]at e;cases d<;>first
   | (simp at e;done)
   | (simp at e;subst e;exact⟨_,rfl,.iface t a v f⟩)
def Bn {big:Bool}:∀ {l:As} {xs:Af} {a:SV} {v:Av} {s:SS},VD P U τ F a v->VDL P U τ F l xs->OKp U (IK U big a l) s fun c=>∃w,dP big v xs=some w/\VD P U τ F c w
 | [],xs,a,v,s,f,hl=>by have:=Pr hl.1.symm;subst this;unfold IK;split;cases f;exact RL ⟨_,rfl,.int _ _⟩;exact RG
 |b::l,xs,a,v,s,f,hl=>by
  obtain⟨y,ys,rfl,hb,g⟩:=hl.uncons;unfold IK;split
  ·rename_i k x k' z;cases f;cases hb;refine OKp.test.bind fun t s' _ _ ht=>?_;have e:(bif big then(bif decide (x.toI U<z.toI U)then z.toI U else x.toI U)else(bif decide (z.toI U<x.toI U)then z.toI U else x.toI U))=(bif t then z else x).toI U:=by cases big;simp only[PC,F8]at ht⊢;rw[ht];cases t<;>rfl;simp only[PB,F8]at ht⊢;rw[ht];cases t<;>rfl
   have:=Bn (big:=big) (s:=s') (Se (k:=k) e.symm) g;exact this
  exact RG
end
section
variable {P :Aw}{U:Ab}
structure Ext (τ:Tau)(F:Ac)(s:SS)(hp:Hp)(τ':Tau)(F':Ac)(s':SS)(hp':Hp):Prop where
 t:Tle τ τ'
 f:Fle F F'
 nx:hp.nx<=hp'.nx
 snx:s.nx<=s'.nx
 st:∀b,b<s.nx->τ' b=τ b
 low:∀b x,s'.get b=some x->b<s.nx-> ∃y,s.get b=some y
 hh:∃l,s'.h=l++s.h/\(∀i,i<hp.nx->(∀b x o,s.get b=some x->τ b=some (some (i,o))->b∈l.map Prod.fst->False)->hp'.m.get i=hp.m.get i)/\
  (∀b i o,s.nx<=b->τ' b=some (some (i,o))->hp.nx<=i\/ ∃b0 x o0,s.get b0=some x/\τ b0=some (some (i,o0))/\b0∈l.map Prod.fst)/\
  (∀i y,i<hp.nx->F' i=some y->F i=some y\/ ∃b o,τ' b=some (some (i,o))/\b∈l.map Prod.fst)/\
  ((∀p∈l,p.2≠none)-> ∀i y,F' i=some y->F i=some y)
 hf:∃l,s'.fc=l++s.fc
 win:∃l,s'.h=l++s.h/\ ∀b c e z i o cs n,s.get b=some (.cells c e z)->τ b=some (some (i,o))->i<hp.nx->hp.m.get i=some (.cells cs n e z)->(∀x,(b,x)∈l-> ∃c',x=some (.cells c' e z)/\c'.length=c.length)->
  ∃cs',hp'.m.get i=some (.cells cs' n e z)/\ ∀j,j<o\/o+c.length<=j->cs'.get j=cs.get j
variable {b:Nat}
theorem OD {l m:List (Nat×Bb A9)}{c:As}{e z:Nat}{x0:A9}(h0:(match lk m b with|some x=>x|none=>none)=some x0)(hx:∃c0,x0= .cells c0 e z/\c0.length=c.length)(h:∀x,(b,x)∈l-> ∃c',x=some (.cells c' e z)/\c'.length=c.length):∃c',(match lk (l++m) b with|some x=>x|none=>none)=some (.cells c' e z)/\c'.length=c.length:=by
 induction l with
 |nil=>grind|cons p l f=>obtain⟨k,y⟩:=p;rw[Qx,y8];grind
variable {τ':Tau}{F':Ac}{s':SS}{hp':Hp}
theorem Ext.kept {τ:Tau}{F:Ac}{s:SS}{hp:Hp}(h:Ext τ F s hp τ' F' s' hp'):∀i,i<hp.nx->(∀b x o,s.get b=some x->τ b=some (some (i,o))->False)->hp'.m.get i=hp.m.get i:=by obtain⟨l,_,h1,_⟩:=h.hh;grind
theorem Ext.fresh {τ:Tau}{F:Ac}{s:SS}{hp:Hp}(h:Ext τ F s hp τ' F' s' hp'):∀b i o,s.nx<=b->τ' b=some (some (i,o))->hp.nx<=i\/ ∃b0 x o0,s.get b0=some x/\τ b0=some (some (i,o0)):=by obtain⟨l,_,_,h1,_⟩:=h.hh;grind
variable {x:A9}
def SD.bound {τ:Tau}{F:Ac}{s:SS}{hp:Hp}(h:SD P U τ F s hp)(hb:s.get b=some x):b<s.nx:=by
 have:τ b≠none:=by rcases h.live b x hb with⟨i,o,y,h1,_⟩| ⟨h1,_⟩<;>rw[h1]<;>simp
 exact Nat.lt_of_not_le fun f=>this (h.new b f)
def Ext.refl {τ:Tau}{F:Ac}{s:SS}{hp:Hp}(h:SD P U τ F s hp):Ext τ F s hp τ F s hp:=
 ⟨Sb τ,Rx F,PH _,PH _,fun _ _=>rfl,fun b x hb _=>⟨x,hb⟩,⟨[],rfl,fun _ _ _=>rfl,fun b i o hb ht=>(by rw[h.new b hb]at ht;cases ht),fun _ _ _ h=>.inl h,fun _ _ _ h=>h⟩,⟨[],rfl⟩,⟨[],rfl,fun _ _ _ _ _ _ cs _ _ _ _ hg _=>⟨cs,hg,fun _ _=>rfl⟩⟩⟩
variable {F2:Ac}
theorem Ext.trans {τ τ1 τ2:Tau}{F F1:Ac}{s s1 s2:SS}{hp hp1 r:Hp}(h:Ext τ F s hp τ1 F1 s1 hp1)(k:Ext τ1 F1 s1 hp1 τ2 F2 s2 r):Ext τ F s hp τ2 F2 s2 r:=by
 obtain⟨D,G,H,a3,I,J⟩:=h.hh;obtain⟨E,K,L,M,N,O⟩:=k.hh;refine⟨h.t.trans k.t,h.f.trans k.f,Qt h.nx k.nx,Qt h.snx k.snx,fun b hb=>?_,fun b x hb hlt=>?_,⟨E++D,by rw[K,G,Py],fun i hi hn=>?_,fun b i o hb ht=>?_,fun i y hi hy=>?_,fun hp i y hy=>J (fun p h=>hp p (by grind)) i y (O (fun p h=>hp p (Re _ h)) i y hy)⟩,?_,?_⟩;rw[k.st b (Qp hb h.snx),h.st b hb];obtain⟨y,hy⟩:=k.low b x hb (Qp hlt h.snx);exact h.low b y hy hlt;rw[L i (Qp hi h.nx) ?_,H i hi fun b x o hb ht hm=>hn b x o hb ht (by grind)];intro b x o hb ht hm;by_cases hlt:b<s.nx;obtain⟨y,hy⟩:=h.low b x hb hlt;rw[h.st b hlt]at ht;grind;grind
 ·have X:∀b i o,s.nx<=b->τ1 b=some (some (i,o))->hp.nx<=i\/ ∃b0 x o0,s.get b0=some x/\τ b0=some (some (i,o0))/\b0∈(E++D).map Prod.fst:=by grind
  by_cases hlt:b<s1.nx;rw[k.st b hlt]at ht;grind;rcases M b i o (QM hlt) ht with h1| ⟨b0,y,o0,h1,h2,h3⟩;exact .inl (Qt h.nx h1);by_cases g:b0<s.nx;obtain⟨z,hz⟩:=h.low b0 y h1 g;rw[h.st b0 g]at h2;grind;grind
 rcases N i y (Qp hi h.nx) hy with h1| ⟨b,o,h1,h2⟩;rcases I i y hi h1 with h2| ⟨b,o,h2,h3⟩;grind;exact .inr ⟨b,o,k.t _ _ h2,by simp only[Qj,PZ];exact .inr h3⟩;grind;obtain⟨l,e⟩:=h.hf;obtain⟨m,e'⟩:=k.hf;exact⟨m++l,by rw[e',e,Py]⟩
 ·obtain⟨l,C,w1⟩:=h.win;obtain⟨m,R,w2⟩:=k.win;refine⟨m++l,by rw[R,C,Py],fun b c e z i o cs n hb ht hi hg hl=>?_⟩;obtain⟨w,S,T⟩:=w1 b c e z i o cs n hb ht hi hg fun x hx=>hl x (by grind);obtain⟨Q,q,B⟩:=OD hb ⟨c,rfl,rfl⟩ fun x hx=>hl x (QS _ hx);rw[<-C]at q;obtain⟨A,V,W⟩:=w2 b Q e z i o w n q (h.t _ _ ht) (Qp hi h.nx) S fun x hx=>let⟨c',Y,Z⟩:=hl x (Re _ hx);⟨c',Y,Z.trans B.symm⟩
  exact⟨A,V,fun j hj=>(W j (by omega)).trans (T j hj)⟩
def SD.only {τ:Tau}{F:Ac}{s:SS}{hp:Hp}(h:SD P U τ F s hp)(f:V9 s s')(hf:FT U s'.fc):SD P U τ F s' hp:=
 ⟨fun b x hb=>h.live b x (by rw[<-f.get];exact hb),fun b c x y i o j q hb hc=>h.inj b c x y i o j q (by rw[<-f.get];exact hb) (by rw[<-f.get];exact hc),
  h.frz,h.lt,h.flt,fun b hb=>h.new b (by rw[<-f.nx];exact hb),hf,fun r hr=>h.fz r (by rw[<-f.fz];exact hr)⟩
def Ext.only {τ:Tau}{F:Ac}{s:SS}{hp:Hp}(h:SD P U τ F s hp)(f:V9 s s'):Ext τ F s hp τ F s' hp:=
 ⟨Sb τ,Rx F,PH _,by rw[f.nx];exact PH _,fun _ _=>rfl,fun b x hb _=>⟨x,by rw[<-f.get];exact hb⟩,
  ⟨[],by rw[f.h];rfl,fun _ _ _=>rfl,fun b i o hb ht=>(by rw[h.new b hb]at ht;cases ht),fun _ _ _ h=>.inl h,fun _ _ _ h=>h⟩,f.fc,⟨[],by rw[f.h];rfl,fun _ _ _ _ _ _ cs _ _ _ _ hg _=>⟨cs,hg,fun _ _=>rfl⟩⟩⟩
def Rw:type_of% @Ext.only:=@Ext.only
variable (P U) in
def OKh {α:Type}(m:M α)(τ:Tau)(F:Ac)(s:SS)(hp:Hp)(R:α->Tau->(Ac)->Hp->Prop):Prop:=
 ∀Q,(m s).vc U Q->SD P U τ F s hp-> ∃a s',Q (a,s')/\ ∃τ' F' hp',Ext τ F s hp τ' F' s' hp'/\SD P U τ' F' s' hp'/\R a τ' F' hp'
variable {τ :Tau}{F:Ac}{s:SS}{hp:Hp}
def OKh.ret {α:Type}{a:α}{R:α->Tau->(Ac)->Hp->Prop}(h:R a τ F hp):OKh P U (d9 a) τ F s hp R:=fun _ hq hs=>⟨a,s,hq,τ,F,hp,Ext.refl hs,hs,h⟩
def RE:type_of% @OKh.ret:=@OKh.ret
def OKh.fail {α:Type}{t:String}{R:α->Tau->(Ac)->Hp->Prop}:OKh P U (a9 t:M α) τ F s hp R:=fun _ hq _=>hq.elim
def RC:type_of% @OKh.fail:=@OKh.fail
def OKp.up {α:Type}{m:M α}{R:α->Prop}(h:OKp U m s R):OKh P U m τ F s hp fun a τ' F' hp'=>τ'=τ/\F'=F/\hp'=hp/\R a:=by intro Q hq hs;obtain⟨a,s',h1,h2,h3,h4⟩:=h Q hq hs.fc;exact⟨a,s',h1,τ,F,hp,Rw hs h2,hs.only h2 h3,rfl,rfl,rfl,h4⟩
def OKh.mono {α:Type}{m:M α}{R g:α->Tau->(Ac)->Hp->Prop}(h:OKh P U m τ F s hp R)(hr:∀a τ' F' hp',Tle τ τ'->Fle F F'->R a τ' F' hp'->g a τ' F' hp'):OKh P U m τ F s hp g:=by intro Q hq hs;obtain⟨a,s',h1,τ',F',hp',h2,h3,h4⟩:=h Q hq hs;exact⟨a,s',h1,τ',F',hp',h2,h3,hr _ _ _ _ h2.t h2.f h4⟩
def OKh.bind {α j:Type}{m:M α}{k:α->M j}{R:α->Tau->(Ac)->Hp->Prop}{g:j->Tau->(Ac)->Hp->Prop}(h:OKh P U m τ F s hp R)(hk:∀a τ' F' s' hp',Ext τ F s hp τ' F' s' hp'->SD P U τ' F' s' hp'->R a τ' F' hp'->OKh P U (k a) τ' F' s' hp' g):OKh P U (b9 m k) τ F s hp g:=by intro Q hq hs;unfold b9 at hq;rw[Sc]at hq;obtain⟨a,s1,h1,τ1,F1,hp1,h2,h3,h4⟩:=h _ hq hs;obtain⟨b,s2,p,τ2,F2,f,q,r,w⟩:=hk a τ1 F1 s1 hp1 h2 h3 h4 Q h1 h3;exact⟨b,s2,p,τ2,F2,f,Ext.trans h2 q,r,w⟩
def OKh.read {α:Type}{k:SS->M α}{R:α->Tau->(Ac)->Hp->Prop}(h:OKh P U (k s) τ F s hp R):OKh P U (u4 k) τ F s hp R:=h
def RD:type_of% @OKh.read:=@OKh.read
def OKh.bindp {α j:Type}{m:M α}{k:α->M j}{R:α->Prop}{g:j->Tau->(Ac)->Hp->Prop}(h:OKp U m s R)(hk:∀a s',V9 s s'->SD P U τ F s' hp->R a->OKh P U (k a) τ F s' hp g):OKh P U (b9 m k) τ F s hp g:=by intro Q hq hs;unfold b9 at hq;rw[Sc]at hq;obtain⟨a,s1,h1,h2,h3,h4⟩:=h _ hq hs.fc;have hs1:=hs.only h2 h3;obtain⟨b,s2,p,τ2,F2,f,q,r,w⟩:=hk a s1 h2 hs1 h4 Q h1 hs1;exact⟨b,s2,p,τ2,F2,f,Ext.trans (Rw hs h2) q,r,w⟩
def RA:type_of% @OKh.bindp:=@OKh.bindp
theorem OKh.bindE {α j:Type}{m:M α}{k:α->M j}{R:α->Tau->(Ac)->Hp->Prop}{g:j->Tau->(Ac)->Hp->Prop}(h:OKh P U m τ F s hp R)(hk:∀a τ1 F1 s1 hp1,Ext τ F s hp τ1 F1 s1 hp1->SD P U τ1 F1 s1 hp1->R a τ1 F1 hp1-> ∀Q,(k a s1).vc U Q-> ∃b s2,Q (b,s2)/\ ∃τ2 F2 f,Ext τ F s hp τ2 F2 s2 f/\SD P U τ2 F2 s2 f/\g b τ2 F2 f):OKh P U (b9 m k) τ F s hp g:=by intro Q hq hs;unfold b9 at hq;rw[Sc]at hq;obtain⟨a,s1,h1,τ1,F1,hp1,h2,h3,h4⟩:=h _ hq hs;grind
theorem Ext.shrink {τ:Tau}{F:Ac}{s:SS}{hp f:Hp}(h:Ext τ F s hp τ' F' s' hp')(hn:hp'.nx<=f.nx)(hm:∀i,i<hp.nx->f.m.get i=hp'.m.get i)(hF:∀i y,F2 i=some y->F' i=some y)(hf:Fle F F2):Ext τ F s hp τ' F2 s' f:=by
 obtain⟨l,j,p,q,r,w⟩:=h.hh;exact⟨h.t,hf,Qt h.nx hn,h.snx,h.st,h.low,(by grind),h.hf,
  let⟨l,g,A⟩:=h.win;⟨l,g,fun b c e z i o cs n hb ht hi hg hl=>by grind⟩⟩
variable {y:Blk}
theorem Ext.dfr {τ:Tau}{F:Ac}{s:SS}{hp:Hp}(h:Ext τ F s hp τ' F' s' hp')(hs:SD P U τ F s hp){r:Nat}(hr:r<hp.nx)(hg:hp.m.get r=some y)(hy:y= .dfr\/F r=some y):hp'.m.get r=some y:=by
 rw[h.kept r hr fun b x o hb ht=>?_,hg];rcases hs.live b x hb with⟨i,o',f,h1,h2,h3,h4⟩| ⟨h1,_⟩
 ·rw[ht]at h1;cases h1;rw[hg]at h2;cases h2;rcases hy with rfl|hy
  ·cases x with
   |cells l e z=>obtain⟨cs,n,h,_⟩:=h4;cases h
   |rows L e z ph=>obtain⟨cs,n,h,_⟩:=h4;cases h
   |map L kt vt=>obtain⟨_,es,reg,h,_⟩:=h4;cases h
   |iter s p=>obtain⟨_,n,h,_⟩:=h4;cases h
   |reg r L z=>obtain⟨_,_,cs,h,_⟩:=h4;cases h
  grind
 grind
def put (τ:Tau)(b:Nat)(p:Bb (Nat×Nat)):Tau:=fun c=>if c=b then some p else τ c
def u5 (τ:Tau)(b:Nat)(p:Bb (Nat×Nat)):put τ b p b=some p:=by simp[put]
def B0 (τ:Tau){c:Nat}(p:Bb (Nat×Nat))(h:c≠b):put τ b p c=τ c:=by simp[put,h]
theorem aF {τ:Tau}(p:Bb (Nat×Nat))(h:τ b=none):Tle τ (put τ b p):=fun c q hc=>by by_cases e:c=b;grind;rw[B0 τ p e];exact hc
variable {o:Nat}
def BD.mono {τ:Tau}{F:Ac}(ht:Tle τ τ')(hf:Fle F F')(h:BD P U τ F o x y):BD P U τ' F' o x y:=by
 cases x with
 |cells l e z=>obtain⟨cs,n,h1,h2,h3⟩:=h;exact⟨cs,n,h1,h2,fun j a q=>let⟨x,k1,k2⟩:=h3 j a q;⟨x,k1,k2.mono ht hf⟩⟩
 |rows L e z ph=>obtain⟨cs,n,h1,⟨h2,h3,h4,g⟩,m⟩:=h;exact⟨cs,n,h1,⟨h2,h3,h4,fun r k row d hr hk=>let⟨x,k1,k2⟩:=g r k row d hr hk;⟨x,k1,fun kd f=>(k2 kd f).mono P hf⟩⟩,m⟩
 |map L kt vt=>obtain⟨h0,es,reg,h1,hr,h2,h3⟩:=h;exact⟨h0,es,reg,h1,hr,h2,fun j row e hr he=>let⟨B,ks,d,k1,k2,k3,w,A⟩:=h3 j row e hr he;⟨B,ks,d,k1,k2,k3,w,A.mono P hf⟩⟩
 |iter s p=>exact h|reg r L z=>obtain⟨h0,m,cs,h1,h2,h3,h4,g⟩:=h;exact⟨h0,ht _ _ m,cs,h1,h2,h3,h4,fun r k row d hr hk=>let⟨x,k1,k2⟩:=g r k row d hr hk;⟨x,k1,fun kd f=>(k2 kd f).mono P hf⟩⟩
def HO.mono {τ:Tau}{F:Ac}(ht:Tle τ τ')(hf:Fle F F'){r:Nat×E×Ax×Nat}(h:HO P U τ F r):HO P U τ' F' r:=by rcases h with⟨i,o,cs,n,h1,h2,h3,h4,g,j⟩| ⟨h1,h2⟩;exact .inl ⟨i,o,cs,n,ht _ _ h1,hf _ _ h2,h3,h4,g,fun r k row d hr hk=>let⟨x,k1,k2⟩:=j r k row d hr hk;⟨x,k1,fun kd f=>(k2 kd f).mono P hf⟩⟩;exact .inr ⟨ht _ _ h1,h2⟩
def Mh (hp:Hp)(y:Blk)(i:Nat)(h:i<hp.nx):(hp.m.set hp.nx (some y)).get i=hp.m.get i:=by rw[Sa,PE (by omega)]
def dW (s:SS)(x:A9):SS:= {s with h:=(s.nx,some x)::s.h,nx:=s.nx+1}
def fO (s:SS)(x:A9)(b:Nat):(dW s x).get b=if b=s.nx then some x else s.get b:=by have:=RP s s.nx b (some x);exact this
def aH (x:A9):M Nat:=fun s=>.ret (s.nx,dW s x)
theorem SD.alloc (hs:SD P U τ F s hp){p:Bb (Nat×Nat)}(hn:hp.nx<=hp'.nx)(hk:∀i,i<hp.nx->hp'.m.get i=hp.m.get i)(hx:(∃i o y,p=some (i,o)/\hp.nx<=i/\i<hp'.nx/\hp'.m.get i=some y/\BD P U (put τ s.nx p) F o x y)\/(p=none/\ ∃L e z ph,x= .rows L e z ph/\L.toR U=[]/\z=(kf P e).length/\ph.toI U<=0)):Ext τ F s hp (put τ s.nx p) F (dW s x) hp'/\SD P U (put τ s.nx p) F (dW s x) hp':=by
 have h0:=hs.new _ (PH _);have ht:=aF p h0;refine⟨⟨ht,Rx F,hn,by simp[dW],fun b hb=>B0 τ p (by omega),fun b y hb hlt=>?_,⟨[(s.nx,some x)],rfl,fun i hi _=>hk i hi,fun b i o hb f=>?_,fun _ _ _ h=>.inl h,fun _ _ _ h=>h⟩,⟨[],rfl⟩,⟨[(s.nx,some x)],rfl,fun _ _ _ _ i _ cs _ _ _ hi hg _=>(by grind)⟩⟩,?_⟩;rw[fO,PE (by omega)]at hb;exact⟨y,hb⟩;by_cases e:b=s.nx;subst e;rw[u5]at f;grind;rw[B0 τ p e,hs.new b hb]at f;cases f
 ·have old:∀b y,b≠s.nx->(dW s x).get b=some y->s.get b=some y:=fun b y e hb=>by rw[fO,PE e]at hb;exact hb
  refine⟨fun b y hb=>?_,fun b c y z i o j q hb hc A B g=>?_,fun i y hi=>by rw[hk i (hs.flt i y hi)];exact hs.frz i y hi,fun b i o hb=>?_,fun i y hi=>Qp (hs.flt i y hi) hn,fun b hb=>?_,hs.fc,fun r hr=>(hs.fz r hr).mono ht (Rx F)⟩
  ·by_cases e:b=s.nx
   ·subst e;rw[fO,PG rfl,Pj]at hb;subst hb;rcases hx with⟨i,o,y,rfl,h1,h2,h3,h4⟩| ⟨rfl,h⟩
    ·refine .inl ⟨i,o,y,u5 _ _ _,h3,?_,h4⟩;cases hF:F i with
     |none=>rfl|some b=>exact absurd (hs.flt i b hF) (by omega)
    exact .inr ⟨u5 _ _ _,h⟩
   rcases hs.live b y (old b y e hb)with⟨i,o,D,h1,h2,h3,h4⟩| ⟨h1,h2⟩;exact .inl ⟨i,o,D,by rw[B0 τ p e];exact h1,by rw[hk i (hs.lt b i o h1)];exact h2,h3,h4.mono ht (Rx F)⟩;exact .inr ⟨by rw[B0 τ p e];exact h1,h2⟩
  ·have new:∀c i o,c=s.nx->put τ s.nx p c=some (some (i,o))->hp.nx<=i:=by intro c i o hc h;subst hc;rw[u5]at h;grind
   by_cases C:b=s.nx;have h1:=new b i o C B;have w:c≠s.nx:=fun h=>A (by omega);rw[B0 τ p w]at g;have:=hs.lt c j q g;omega;rw[B0 τ p C]at B;by_cases w:c=s.nx;have h1:=new c j q w g;have:=hs.lt b i o B;omega;rw[B0 τ p w]at g;exact hs.inj b c y z i o j q (old b y C hb) (old c z w hc) A B g
  by_cases e:b=s.nx;subst e;rw[u5]at hb;grind;rw[B0 τ p e]at hb;exact Qp (hs.lt b i o hb) hn;have:s.nx+1<=b:=hb;rw[B0 τ p (by omega)];exact hs.new b (by omega)
variable {i:Nat}
theorem SD.change (hs:SD P U τ F s hp){x':A9}(hb:s.get b=some x)(ht:τ b=some (some (i,o)))(hn:hp'.nx=hp.nx)(hk:∀j,j≠i->hp'.m.get j=hp.m.get j)(hi:hp'.m.get i=some y)(G:BD P U τ F o x' y)(H:∀c e z c',x= .cells c e z->x'= .cells c' e z->c'.length=c.length-> ∀cs n,hp.m.get i=some (.cells cs n e z)-> ∃cs',y= .cells cs' n e z/\ ∀j,j<o\/o+c.length<=j->cs'.get j=cs.get j:=by intro _ _ _ _ h h';first| (cases h;done)| (cases h';done)):Ext τ F s hp τ F (s.set b (some x')) hp'/\SD P U τ F (s.set b (some x')) hp':=by
 refine⟨⟨Sb τ,Rx F,by omega,PH _,fun _ _=>rfl,fun c y hc _=>?_,⟨[(b,some x')],rfl,fun j hj C=>hk j (by grind),fun c j q hc h=>(by rw[hs.new c hc]at h;cases h),fun _ _ _ h=>.inl h,fun _ _ _ h=>h⟩,⟨[],rfl⟩,⟨[(b,some x')],rfl,fun d c e z j q cs n f hq hj hg hl=>?_⟩⟩,?_⟩;rw[RP]at hc;grind;by_cases h:d=b;grind;exact⟨cs,by rw[hk j (hs.inj d b _ x j q i o f hb h hq ht)];exact hg,fun _ _=>rfl⟩
 ·have E:F i=none:=by rcases hs.live b x hb with⟨I,o',g,h1,_,h3,_⟩| ⟨h1,_⟩;grind;grind
  have liv:∀c,(∃y,(s.set b (some x')).get c=some y)-> ∃y,s.get c=some y:=by rintro c ⟨y,hc⟩;rw[RP]at hc;grind
  refine⟨fun c z hc=>?_,fun c d y z j q k r hc f p w A=>?_,fun j y hj=>?_,fun c j q h=>by rw[hn];exact hs.lt c j q h,fun j y h=>by rw[hn];exact hs.flt j y h,hs.new,hs.fc,hs.fz⟩;rw[RP]at hc;by_cases e:c=b;grind;rw[PE e]at hc;rcases hs.live c z hc with⟨j,q,g,h1,h2,h3,h4⟩|h;refine .inl ⟨j,q,g,h1,?_,h3,h4⟩;rw[hk j ?_];exact h2;intro B;subst B;exact hs.inj c b z x j q j o hc hb e h1 ht rfl;grind;obtain⟨g,hy⟩:=liv c ⟨y,hc⟩;obtain⟨D,hz⟩:=liv d ⟨z,f⟩;exact hs.inj c d g D j q k r hy hz p w A;rw[hk j (by grind)];exact hs.frz j y hj
theorem SD.move (hs:SD P U τ F s hp){x':A9}(hb:s.get b=some x)(ht:τ b=some (some (i,o)))(hn:hp.nx<=hp'.nx)(hk:∀j,j<hp.nx->j≠i->hp'.m.get j=hp.m.get j){j q:Nat}(hj:j=i\/hp.nx<=j)(D:j<hp'.nx)(hi:hp'.m.get j=some y)(O:BD P U (put τ s.nx (some (j,q))) F q x' y):Ext τ F s hp (put τ s.nx (some (j,q))) F (dW (s.set b none) x') hp'/\SD P U (put τ s.nx (some (j,q))) F (dW (s.set b none) x') hp':=by
 have h0:=hs.new _ (PH _);have A:=aF (some (j,q)) h0;have S:F i=none:=by rcases hs.live b x hb with⟨T,o',K,h1,_,h3,_⟩| ⟨h1,_⟩;grind;grind
 have M:F j=none:=by
  rcases hj with rfl|hj;grind
  ·cases hF:F j with
   |none=>rfl|some w=>exact absurd (hs.flt j w hF) (by omega)
 have N:∀c,(dW (s.set b none) x').get c=if c=s.nx then some x' else if c=b then none else s.get c:=by intro c;rw[fO,RP];rfl
 refine⟨⟨A,Rx F,hn,by simp[dW,SS.set],fun c hc=>B0 τ _ (by omega),fun c y hc hlt=>?_,⟨[(s.nx,some x'),(b,none)],rfl,fun k g Q=>hk k g (by grind),fun c k r hc h=>?_,fun _ _ _ h=>.inl h,fun _ _ _ h=>h⟩,⟨[],rfl⟩,⟨[(s.nx,some x'),(b,none)],rfl,fun d c e z j' q' cs n p hq D hg hl=>?_⟩⟩,?_⟩;grind
 rotate_left
 by_cases h:d=b;grind;exact⟨cs,by rw[hk j' D (hs.inj d b _ x j' q' i o p hb h hq ht)];exact hg,fun _ _=>rfl⟩
 rotate_left
 by_cases e:c=s.nx;subst e;rw[u5]at h;grind;rw[B0 τ _ e,hs.new c hc]at h;cases h
 ·have inv:∀c z,(dW (s.set b none) x').get c=some z->c≠s.nx->c≠b/\s.get c=some z:=by grind
  have apart:∀c z k r,c≠b->s.get c=some z->τ c=some (some (k,r))->k≠j:=by intro c z k r e hc h J;subst J;rcases hj with rfl|hj;exact hs.inj c b z x _ r _ o hc hb e h ht rfl;have:=hs.lt c _ r h;omega
  refine⟨fun c z hc=>?_,fun c d y z k r k' R hc p E H G=>?_,fun k y g=>?_,fun c k r h=>?_,fun k y h=>Qp (hs.flt k y h) hn,fun c hc=>?_,hs.fc,fun r hr=>(hs.fz r hr).mono A (Rx F)⟩;by_cases e:c=s.nx;subst e;rw[N,PG rfl,Pj]at hc;subst hc;exact .inl ⟨j,q,y,u5 _ _ _,hi,M,O⟩;obtain⟨e',f⟩:=inv c z hc e;rcases hs.live c z f with⟨k,r,K,h1,h2,h3,h4⟩| ⟨h1,h2⟩;refine .inl ⟨k,r,K,by rw[B0 τ _ e];exact h1,?_,h3,h4.mono A (Rx F)⟩;rw[hk k (hs.lt c k r h1) ?_];exact h2;intro J;subst J;exact hs.inj c b z x _ r _ o f hb e' h1 ht rfl;exact .inr ⟨by rw[B0 τ _ e];exact h1,h2⟩;by_cases I:c=s.nx;subst I;have B:d≠s.nx:=fun h=>E h.symm;rw[u5]at H;rw[B0 τ _ B]at G;grind;obtain⟨e',f⟩:=inv c y hc I;rw[B0 τ _ I]at H;by_cases B:d=s.nx;subst B;rw[u5]at G;grind;obtain⟨L,C⟩:=inv d z p B;rw[B0 τ _ B]at G;exact hs.inj c d y z k r k' R f C E H G;rw[hk k (hs.flt k y g) (by grind)];exact hs.frz k y g;by_cases e:c=s.nx;subst e;rw[u5]at h;grind;rw[B0 τ _ e]at h;exact Qp (hs.lt c k r h) hn;have:s.nx+1<=c:=hc;rw[B0 τ _ (by omega)];exact hs.new c (by omega)
theorem SD.freeze (hs:SD P U τ F s hp)(hb:s.get b=some x)(ht:τ b=some (some (i,o)))(hi:hp.m.get i=some y):∃F',Fle F F'/\F' i=some y/\Ext τ F s hp τ F' (s.set b none) hp/\SD P U τ F' (s.set b none) hp:=by
 have G:F i=none:=by rcases hs.live b x hb with⟨H,o',A,h1,_,h3,_⟩| ⟨h1,_⟩;grind;grind
 have hF:Fle F (fun j=>if j=i then some y else F j):=fun j w hj=>by grind
 have inv:∀c z,(s.set b none).get c=some z->c≠b/\s.get c=some z:=by intro c z hc;rw[RP]at hc;grind
 refine⟨fun j=>if j=i then some y else F j,hF,by simp,⟨Sb τ,hF,PH _,PH _,fun _ _=>rfl,fun c z hc _=>⟨z,(inv c z hc).2⟩,⟨[(b,none)],rfl,fun _ _ _=>rfl,fun c j q hc h=>(by rw[hs.new c hc]at h;cases h),fun j w _ hj=>?_,fun hp=>absurd rfl (hp (b,none) (by simp))⟩,⟨[],rfl⟩,⟨[(b,none)],rfl,fun _ _ _ _ _ _ cs _ _ _ _ hg _=>⟨cs,hg,fun _ _=>rfl⟩⟩⟩,?_⟩;grind;refine⟨fun c z hc=>?_,fun c d y z k r k' E hc g p B C=>hs.inj c d y z k r k' E (inv c y hc).2 (inv d z g).2 p B C,fun j w hj=>?_,hs.lt,fun j w hj=>?_,hs.new,hs.fc,fun r hr=>(hs.fz r hr).mono (Sb τ) hF⟩
 ·obtain⟨e,f⟩:=inv c z hc;rcases hs.live c z f with⟨k,r,A,h1,h2,h3,h4⟩|h
  ·refine .inl ⟨k,r,A,h1,h2,?_,h4.mono (Sb τ) hF⟩;have:k≠i:=fun D=>by subst D;exact hs.inj c b z x _ r _ o f hb e h1 ht rfl
   grind
  grind
 by_cases e:j=i;grind;rw[PE e]at hj;exact hs.frz j w hj;by_cases e:j=i;subst e;exact hs.lt b _ o ht;rw[PE e]at hj;exact hs.flt j w hj
theorem SD.drop (hs:SD P U τ F s hp)(b:Nat):Ext τ F s hp τ F (s.set b none) hp/\SD P U τ F (s.set b none) hp:=by
 have inv:∀c z,(s.set b none).get c=some z->c≠b/\s.get c=some z:=by intro c z hc;rw[RP]at hc;grind
 exact⟨⟨Sb τ,Rx F,PH _,PH _,fun _ _=>rfl,fun c z hc _=>⟨z,(inv c z hc).2⟩,⟨[(b,none)],rfl,fun _ _ _=>rfl,fun c j q hc h=>(by rw[hs.new c hc]at h;cases h),fun _ _ _ h=>.inl h,fun _ _ _ h=>h⟩,⟨[],rfl⟩,⟨[(b,none)],rfl,fun _ _ _ _ _ _ cs _ _ _ _ hg _=>⟨cs,hg,fun _ _=>rfl⟩⟩⟩,
  fun c z hc=>hs.live c z (inv c z hc).2,fun c d y z k r k' w hc f g m p=>hs.inj c d y z k r k' w (inv c y hc).2 (inv d z f).2 g m p,hs.frz,hs.lt,hs.flt,hs.new,hs.fc,hs.fz⟩
end
def isI :E->Bool
 | .int _=>true| .dat _ (.int _)=>true| .op o _=>match o with
  | .add| .sub| .mul| .tdiv| .tmod| .wrap _| .bits _ _| .shl _| .shr _| .len| .slen| .sidx| .srune| .srw| .castI=>true
  |_=>false
 |_=>false
def isB :E->Bool
 | .bool _=>true| .dat _ (.bool _)=>true| .op .lt [_,_]| .op .eqi [_,_]| .op .eqb [_,_]| .op .eqs [_,_]| .op .lts [_,_]| .op .not [_]| .op .and [_,_]| .op .or [_,_]| .op .castB [_]=>true
 |_=>false
def isS :E->Bool
 | .str _=>true| .dat _ (.str _)=>true| .op .sapp [_,_]| .op .ssub [_,_,_]| .op .castS [_]=>true
 |_=>false
def isL :E->Bool
 | .dat _ (.lst _)=>true| .op .nil _| .op (.rows _ _) _| .op .app [_,_]| .op (.upd _) [_,_,_]| .op .part [_,_,_]| .op .over [_,_,_]| .op .rep (_::_)| .op .castL [_]=>true
 |_=>false
def Kq (e:E):E:=bif isI e then e else .op .castI [e]
def mkCB (e:E):E:=bif isB e then e else .op .castB [e]
def mkCS (e:E):E:=bif isS e then e else .op .castS [e]
def hG (e:E):E:=bif isL e then e else .op .castL [e]
section
variable {U :Ab}
def Mw {e:E}(h:isI e=true):e.den U= .int (e.toI U):=by
 cases e with
 |int n=>rfl|dat n d=>cases d<;>first|rfl| (simp[isI]at h)
 |op o as=>
  cases o<;>first
   | (simp[isI]at h;done)
   | (simp only[E.toI,E.den,Sy.den];split<;>rfl)
 |_=>simp[isI]at h
def Mv {e:E}(h:isB e=true):e.den U= .bool (e.den U).toBool:=by unfold isB at h;split at h<;>first|rfl|cases h
def My {e:E}(h:isS e=true):e.den U= .str (e.den U).toStr:=by unfold isS at h;split at h<;>first|rfl|cases h
def Mx {e:E}(h:isL e=true):e.den U= .lst (e.toR U):=by unfold isL at h;split at h<;>first|rfl|cases h
def sX (e:E):(Kq e).den U= .int (e.toI U):=by
 unfold Kq;cases h:isI e with
 |true=>exact Mw h|false=>rfl
def Kp (e:E):(mkCB e).den U= .bool (e.den U).toBool:=by
 unfold mkCB;cases h:isB e with
 |true=>exact Mv h|false=>rfl
def Kr (e:E):(mkCS e).den U= .str (e.den U).toStr:=by
 unfold mkCS;cases h:isS e with
 |true=>exact My h|false=>rfl
def lC (e:E):(hG e).den U= .lst (e.toR U):=by
 unfold hG;cases h:isL e with
 |true=>exact Mx h|false=>rfl
end
section
variable (P :Aw)(U:Ab)
def jM (t:Ax)(x:SV)(f:Nat):Bb SV:=
 match P.underlying t with
 |some (.struct fs)=>match fs.toList[f]? with
  |some fd=>match P.info? fd.type with
   |some i=>bif Nat.beq i.size 0 then none else
    match x with
    | .ptr b z row fld=>some (.ptr b z row (fld+fd.offset))| .pptr e L row fld=>some (.pptr e L row (fld+fd.offset))| .rp row fld=>some (.rp row (fld+fd.offset))|_=>none
   |none=>none
  |none=>none
 |_=>none
def jN (t:Ax)(x ix:SV):M SV:=
 match ix with
 | .int _ n=>match P.underlying t with
  |some (.slice e)=>match P.info? e with
   |some ie=>match x with
    | .sl b z off len _=>bif Nat.beq z ie.size then b9 (j7 U (y4 (y6 n (.int 0)))) fun _=>b9 (j7 U (y6 n len)) fun _=>d9 (.ptr b z (y0 off n) 0)else a9 "index: size"
    | .lst e' L _=>bif Nat.beq (kf P e').length ie.size then b9 (j7 U (y4 (y6 n (.int 0)))) fun _=>b9 (j7 U (y6 n (z9 L))) fun _=>d9 (.pptr e' L n 0)else a9 "index: size"
    |_=>a9 "index: no slice"
   |none=>a9 "index: type"
  |some (.array len e)=>match P.info? e with
   |some ie=>match x with
    | .ptr b z row fld=>match n with
     | .int m=>bif decide (0<=m)&&decide (m<len)then d9 (.ptr b z row (fld+m.toNat*ie.size))else a9 "index: array"|n=>match row with
      | .int r=>bif decide (0<=r)then b9 (j7 U (y4 (y6 n (.int 0)))) fun _=>b9 (j7 U (y6 n (.int len))) fun _=>d9 (.ptr b ie.size n (r.toNat*z+fld))else a9 "index: array"
      |_=>a9 "index: array"
    | .pptr e' L row fld=>match n with
     | .int m=>bif decide (0<=m)&&decide (m<len)then d9 (.pptr e' L row (fld+m.toNat*ie.size))else a9 "index: array"|_=>a9 "index: array"
    |_=>a9 "index: array"
   |none=>a9 "index: type"
  |_=>a9 "index: type"
 |_=>a9 "index: no int"
def ldk (t:Ax):Bb (Bool×Nat):=
 match P.underlying t with
 | some d => bif qC d then
   match P.info? t with
   |some ti=>some (true,ti.size)|none=>none
  else some (false,1)
 |none=>none
def EU (ag:Bool)(l:As):Bb SV:=bif ag then some (.agg l)else l.head?
def GU (k:Kd)(c:E):Bb SV:=
 match k with
 | .int k=>some (.int k c)| .bool=>some (.bool c)| .str=>some (.str c)| .sl e=>some (.lst e c false)| .rp=>some (.rpq c)| .bad=>none
def eL (ks:List Kd)(L row:E):Nat->Nat->Bb (As)
 |_,0=>some []|j,n+1=>match ks[j]? with
  |some k=>match GU k (EK j L row)with
   |some a=>match eL ks L row (j+1) n with
    |some l=>some (a::l)|none=>none
   |none=>none
  |none=>none
def LR (k:Kd)(a:SV):Bb E:=
 match k,a with
 | .int k,.int k' e=>bif decide (k=k')then some (Kq e)else none| .bool,.bool e=>some (mkCB e)| .str,.str e=>some (mkCS e)| .sl _,.nils=>some (.op .nil [])| .sl e,.lst e' L _=>bif Nat.beq e e' then some (hG L)else none| .rp,.rpq e=>some (Kq e)| .rp,.rp e 0=>some (Kq e)| .rp,.nilp=>some (.int (-1))|_,_=>none
def IT (ks:List Kd):Nat->As->Bb (Au)
 |_,[]=>some []|j,a::l=>match ks[j % ks.length]? with
  |some k=>match LR k a with
   |some e=>match IT ks (j+1) l with
    |some es=>some (e::es)|none=>none
   |none=>none
  |none=>none
def tW (e:Ax)(z:Nat)(l:As):Bb E:=
 bif Nat.ble 1 z&&Nat.beq z (kf P e).length&&Nat.beq (l.length/z*z) l.length then
  match IT (kf P e) 0 l with
  |some es=>some (.op (.rows (l.length/z) z) es)|none=>none
 else none
def L3 (ag:Bool)(n:Nat)(e:Ax)(L row:E)(fld:Nat):Bb SV:=
 match eL (kf P e) L row fld n with
 |some l=>EU ag l|none=>none
def CI (k:IntKind):As->Bb (Au)
 | []=>some []| .int k' e::l=>bif decide (k=k')then match CI k l with
  |some es=>some (e::es)|none=>none else none
 |_=>none
def Lt (l:As)(row:E):M SV:=match l with
 | .int k e::l'=>match CI k (.int k e::l')with
  |some es=>b9 (j7 U (y6 row (.int es.length))) fun _=>d9 (.int k (EK 0 (.op (.rows es.length 1) es) row))
  |none=>a9 "load: rows"
 |_=>a9 "load: rows"
def rgF :List (Nat×Bb A9)->Ai
 | []=>none| (b,some (.reg _ _ _))::_=>some b|_::l=>rgF l
def vZ (s:SS):Bb (Nat×E×Nat):=match rgF s.h with
 |some b=>match s.get b with
  |some (.reg r L z)=>bif Nat.beq r b then some (b,L,z)else none|_=>none
 |none=>none
def rgB (s:SS):Ai:=(vZ s).map fun r=>r.1
def HB (t:Ax)(a:SV):M SV:=
 match ldk P t with
 |none=>a9 "load: type"|some (ag,n)=>match a with
  | .ptr b z row fld=>u4 fun s=>match s.get b with
   |some (.cells l e _)=>match row with
    | .int r=>bif decide (0<=r)&&Nat.ble (r.toNat*z+fld+n) l.length then eR "load" (EU ag ((l.drop (r.toNat*z+fld)).take n))else a9 "load: beyond"|row=>match tW P e z l with
     |some L=>bif Nat.ble (fld+n) z then b9 (j7 U (y6 row (z9 L))) fun _=>eR "load" (L3 P ag n e L row fld)else a9 "load: beyond"
     |none=>bif !ag&&Nat.beq z 1&&Nat.beq n 1 then Lt U (l.drop fld) row else a9 "load: rows"
   |some (.rows L e z' _)=>bif Nat.beq z z'&&Nat.ble (fld+n) z then b9 (j7 U (y6 row (z9 L))) fun _=>eR "load" (L3 P ag n e L row fld)else a9 "load: beyond"
   |some (.map _ _ _)=>a9 "load: no block"|some (.iter _ _)=>a9 "load: no block"|some (.reg _ _ _)=>a9 "load: no block"|none=>match lk s.fz b with
    |some (L,e,z')=>bif Nat.beq z z'&&Nat.ble (fld+n) z then b9 (j7 U (y6 row (z9 L))) fun _=>eR "load" (L3 P ag n e L row fld)else a9 "load: beyond"
    |none=>a9 "load: no block"
  | .rp row fld=>u4 fun s=>match vZ s with
   |some (_,L,z)=>bif Nat.ble (fld+n) z then b9 (j7 U (y6 row (z9 L))) fun _=>eR "load" (L3 P ag n rgT L row fld)else a9 "load: beyond"
   |none=>a9 "load: no region"
  | .pptr e L row fld=>bif Nat.ble (fld+n) (kf P e).length then eR "load" (L3 P ag n e L row fld)else a9 "load: beyond"|_=>a9 "load: no address"
end
section
variable {P :Aw}{U:Ab}{τ:Tau}{F:Ac}{s:SS}{hp:Hp}
variable {fld i o:Nat}
def VD.ptr' {b z a:Nat}{row:E}(h:τ b=some (some (i,o)))(h0:0<=row.toI U)(e:a=o+row.toN U*z+fld):VD P U τ F (.ptr b z row fld) (.pointer (some ⟨i,a,none⟩)):=by subst e;exact .ptr b z row fld i o h h0
def VD.pptr' {t:Ax}{L row:E}{l c a:Nat}(h:PV P F (.sl t) (.slice (some ⟨i,o,none⟩) l c) (.lst (L.toR U)))(h0:0<=row.toI U)(h1:row.toI U<(L.toR U).length)(e:a=o+row.toN U*(kf P t).length+fld):VD P U τ F (.pptr t L row fld) (.pointer (some ⟨i,a,none⟩)):=by subst e;exact .pptr t L row fld i o l c h h0 h1
variable {a:SV}{v:Av}
theorem wC {t:Ax}{b:SV}{f:Nat}(p:VD P U τ F a v)(e:jM P t a f=some b):∃w,O0 P t v f=some w/\VD P U τ F b w:=by
 unfold jM at e;unfold O0;split at e
 ·rename_i r j;split at e
  ·rename_i m g;split at e
   ·rename_i i hi;cases hz:Nat.beq i.size 0 with
    |true=>grind|false=>
     simp only[hz,PC]at e;split at e
     ·rename_i b z row fld;simp only[Pj]at e;subst e;cases p with
      |ptr _ _ _ _ q o h h0=>exact⟨.pointer (some ⟨q,o+row.toN U*z+fld+m.offset,none⟩),by simp only[j,g,hi,hz,PC],VD.ptr' h h0 (by omega)⟩
     ·rename_i t L row fld;simp only[Pj]at e;subst e;cases p with
      |pptr _ _ _ _ q o l c h h0 h1=>exact⟨.pointer (some ⟨q,o+row.toN U*(kf P t).length+fld+m.offset,none⟩),by simp only[j,g,hi,hz,PC],VD.pptr' h h0 h1 (by omega)⟩
     ·rename_i row fld;simp only[Pj]at e;subst e;cases p with
      |rp _ _ h0=>exact⟨.pointer (some ⟨row.toN U,fld+m.offset,some 1⟩),by simp only[j,g,hi,hz,PC],.rp _ _ h0⟩
     cases e
   cases e
  cases e
 cases e
def B6 {a b:E}(h:(y6 a b).pr U):a.toI U<b.toI U:=by rw[Ru,F8,PF]at h;exact h
def z5 {a b:E}(h:(y4 (y6 a b)).pr U):b.toI U<=a.toI U:=by rw[Ru,F6,F8,Qi,Qk]at h;exact Int.not_lt.1 h
def Y6 {a b:E}(h:(E4 a b).pr U):a.toI U=b.toI U:=by rw[Ru,E0,PF]at h;exact h
def PV.len {t:Ax}{a:Aq}{l c:Nat}{d:Dat}(h:PV P F (.sl t) (.slice a l c) d):l=d.rows.length:=by cases h<;>rfl
theorem wD {t:Ax}{B:SV}{w:Av}(j:VD P U τ F a v)(hi:VD P U τ F B w):OKp U (jN P U t a B) s fun b=>∃u,E5 P t v w=some u/\VD P U τ F b u:=by
 unfold jN;split
 ·rename_i k n;cases hi;split
  ·rename_i e he;split
   ·rename_i ie f;split
    ·rename_i b z off len cap;cases hz:Nat.beq z ie.size with
     |false=>exact RG|true=>
      refine OKp.need.bind fun _ s1 _ _ h1=>OKp.need.bind fun _ s2 _ _ h2=>RL ?_;have h1:=U9 h1;have h2:=B6 h2;have q:z=ie.size:=Pq hz;cases j with
      |sl _ _ _ _ _ i o c h h0 p hc=>
       refine⟨.pointer (some ⟨i,o+off.toN U*z+n.toN U*ie.size,none⟩),?_,VD.ptr' h (by rw[j5];omega) ?_⟩;simp only[E5,he,f];grind
       ·have:(y0 off n).toN U=off.toN U+n.toN U:=by show((y0 off n).toI U).toNat=(off.toI U).toNat+(n.toI U).toNat;rw[j5];omega
        grind
      |sl0 _ _ _ _ _ h h0 p hc=>omega
    ·rename_i e' L clip;cases hz:Nat.beq (kf P e').length ie.size with
     |false=>exact RG|true=>
      refine OKp.need.bind fun _ s1 _ _ h1=>OKp.need.bind fun _ s2 _ _ h2=>RL ?_;have h1:=U9 h1;have h2:=B6 h2;rw[i9]at h2;have q:(kf P e').length=ie.size:=Pq hz;cases j with
      |lst _ _ _ _ h hc=>
       have hl:∃i o l c,v= .slice (some ⟨i,o,none⟩) l c:=by
        cases hv:L.toR U with
        |nil=>grind|cons r D=>
         rw[hv]at h;cases h with
         |sl _ i o c b cs n z rows x hF hb C hn A hr hx hp=>grind
       obtain⟨i,o,l,c,rfl⟩:=hl;have g:=h.len;refine⟨.pointer (some ⟨i,o+n.toN U*ie.size,none⟩),?_,VD.pptr' h h1 h2 (by grind)⟩;simp only[E5,he,f];rw[show(decide (0<=n.toI U)&&decide (n.toI U<(l:Int)))=true by
        simp only[Pk,PF];have:(l:Int)=((L.toR U).length:Int):=by rw[g];rfl
        omega]
       rfl
    exact RG
   exact RG
  ·rename_i len e he;split
   ·rename_i ie f;split
    ·rename_i b z row fld;cases j with
     |ptr _ _ _ _ i o h h0=>
      split
      ·rename_i m;cases hb:decide (0<=m)&&decide (m<(len:Int))with
       |false=>exact RG|true=>refine RL ⟨.pointer (some ⟨i,o+row.toN U*z+fld+m.toNat*ie.size,none⟩),?_,VD.ptr' h h0 (by omega)⟩;simp only[E5,he,f];rw[show(decide (0<=(E.int m).toI U)&&decide ((E.int m).toI U<(len:Int)))=true from hb];rfl
      ·split
       ·rename_i r;cases hr:decide (0<=r)with
        |false=>exact RG|true=>refine OKp.need.bind fun _ s1 _ _ h1=>OKp.need.bind fun _ s2 _ _ h2=>RL ?_;have h1:=U9 h1;have h2:=B6 h2;simp only[A8]at h2;refine⟨.pointer (some ⟨i,o+r.toNat*z+fld+n.toN U*ie.size,none⟩),?_,VD.ptr' h h1 (by omega)⟩;simp only[E5,he,f];rw[show(decide (0<=n.toI U)&&decide (n.toI U<(len:Int)))=true by simp only[Pk,PF];omega];rfl
       exact RG
    ·rename_i e' L row fld;cases j with
     |pptr _ _ _ _ i o l c h h0 h1=>
      split
      ·rename_i m;cases hb:decide (0<=m)&&decide (m<(len:Int))with
       |false=>exact RG|true=>refine RL ⟨.pointer (some ⟨i,o+row.toN U*(kf P e').length+fld+m.toNat*ie.size,none⟩),?_,VD.pptr' h h0 h1 (by omega)⟩;simp only[E5,he,f];rw[show(decide (0<=(E.int m).toI U)&&decide ((E.int m).toI U<(len:Int)))=true from hb];rfl
      exact RG
    exact RG
   exact RG
  exact RG
 exact RG
variable {ag:Bool}{k n:Nat}{y:Blk}{c:Ao}{vs:Af}
theorem Kl {t:Ax}(h:ldk P t=some (ag,n)){z:Nat}(hg:hp.m.get i=some y)(hr:rdC y=some (c,k,z))(hk:o+n<=k)(hl:v5 c o n=some vs):∃v,J5 P hp t (.pointer (some ⟨i,o,none⟩))=some v/\((ag=true/\v= .agg vs.toArray)\/(ag=false/\vs=[v])):=by
 unfold ldk at h;split at h
 ·rename_i d j;cases f:qC d with
  |true=>simp only[f,PB]at h;split at h;rename_i p g;obtain⟨rfl,rfl⟩:=h;refine⟨.agg vs.toArray,?_,.inl ⟨rfl,rfl⟩⟩;simp only[J5,hg,hr,j,f,PB,g,Ps hk,hl];cases h
  |false=>
   simp only[f,PC,Pj,Pn]at h;obtain⟨rfl,rfl⟩:=h;simp only[v5]at hl;cases hv:c.get o with
   |none=>grind|some v=>simp only[hv,Pj]at hl;refine⟨v,?_,.inr ⟨rfl,hl.symm⟩⟩;simp only[J5,hg,hr,j,f,PC,Ps hk,PB,hv]
 cases h
theorem E3 {c:Ao}{R:Nat->Av->Prop}:∀(n o j:Nat),(∀k,k<n-> ∃x,c.get (o+k)=some x/\R (j+k) x)-> ∃vs,v5 c o n=some vs/\vs.length=n/\ ∀k x,vs[k]? =some x->R (j+k) x
 |0,o,j,_=>⟨[],rfl,rfl,fun k x h=>by grind⟩
 |n+1,o,j,h=>by
  obtain⟨x,h1,h2⟩:=h 0 (by omega);obtain⟨vs,h3,h4,f⟩:=E3 n (o+1) (j+1) fun k hk=>by
   obtain⟨x,k1,k2⟩:=h (k+1) (by omega)
   exact ⟨x, by rw [← k1]; congr 1; omega, by have : j + 1 + k = j + (k + 1) := by omega
                                              rw[this];exact k2⟩
  refine⟨x::vs,by simp only[v5];rw[show c.get o=some x from h1,h3],by grind,fun k y hy=>?_⟩;grind
theorem jB {t:Ax}(h:ldk P t=some (ag,n)){z:Nat}(hg:hp.m.get i=some y)(g:rdC y=some (c,k,z))(hk:o+n<=k){l:As}(hl:l.length=n)(hc:∀(j:Nat) a,l[j]? =some a-> ∃x,c.get (o+j)=some x/\VD P U τ F a x)(f:EU ag l=some a):∃v,J5 P hp t (.pointer (some ⟨i,o,none⟩))=some v/\VD P U τ F a v:=by
 obtain⟨vs,h1,h2,h3⟩:=E3 (R:=fun j x=>∀a,l[j]? =some a->VD P U τ F a x) n o 0 fun j hj=>by
  have:l[j]? =some l[j]:=by grind
  obtain⟨x,k1,k2⟩:=hc j _ this;exact⟨x,k1,fun a f=>by grind⟩
 obtain⟨v,h4,p⟩:=Kl h hg g hk h1;refine⟨v,h4,?_⟩;have hv:VDL P U τ F l vs:=⟨by omega,fun j a x hj hx=>h3 j x hx a (by grind)⟩
 rcases p with⟨rfl,rfl⟩| ⟨rfl,rfl⟩;simp only[EU,PB,Pj]at f;subst f;exact hv.agg
 ·simp only[EU,PC]at f;cases l with
  |nil=>grind|cons b l=>simp at f;subst f;exact hv.2 0 _ _ rfl rfl
def CE {k:Kd}{e:E}{x:Av}(hp:PV P F k x (e.den U))(h:GU k e=some a):VD P U τ F a x:=by
 unfold GU at h;generalize f:e.den U=d at hp;cases hp<;>simp only[Pj]at h<;>subst h;exact Se (by show(e.den U).toInt=_;rw[f];rfl);exact Sd (by rw[f];rfl);exact VD.str' (by rw[f];rfl)
 ·exact .lst _ e false _ (by have : e.toR U = [] := by { show (e.den U).rows = _; rw [ f]; rfl }
                             rw[this];exact .nils _) (fun h=>by cases h)
 exact .rpq e _ (by show PV P F .rp _ (.int (e.den U).toInt);rw[f];exact .rp _);exact .rpq e _ (by show PV P F .rp _ (.int (e.den U).toInt);rw[f];exact .rpn)
 ·exact .lst _ e false _ (by have : e.toR U = [] := by { show (e.den U).rows = _; rw [ f]; rfl }
                             rw[this];exact .vague _) (fun h=>by cases h)
 ·rename_i i o c b cs n z zb rows x hF hb hc hn hz hr hx g
  exact .lst _ e false _ (by have : e.toR U = rows := by { show (e.den U).rows = _; rw [ f]; rfl }
                             rw[this];exact .sl _ i o c b cs n z rows x hF hb hc hn hz hr hx g) (fun h=>by cases h)
theorem bS {ks:List Kd}{L row:E}:∀ {n j:Nat} {l:As},eL ks L row j n=some l->l.length=n/\ ∀(q:Nat) a,l[q]? =some a-> ∃k,ks[j+q]? =some k/\GU k (EK (j+q) L row)=some a
 |0,j,l,h=>by simp only[eL,Pj]at h;subst h;exact⟨rfl,fun q a h=>by grind⟩|n+1,j,l,h=>by simp only[eL]at h;split at h;rename_i k hk;split at h;rename_i a g;split at h;rename_i l' f;obtain⟨h1,h2⟩:=bS f;grind;cases h;cases h;cases h
theorem rR {rows:Rows}{r:Int}{row:Ar}{d:Dat}(h1:rows[r.toNat]? =some row)(h2:row[k]? =some d):z4 rows r k=d:=by unfold z4;grind
variable {e:Nat}{cs:Ao}
theorem bZ {t:Ax}(h:ldk P t=some (ag,n)){z D:Nat}(hg:hp.m.get i=some y)(w:rdC y=some (cs,k,D)){L row:E}(hr:A0 P F e z o k cs (L.toR U))(h0:0<=row.toI U)(h1:row.toI U<(L.toR U).length)(hf:fld+n<=z)(p:L3 P ag n e L row fld=some a):∃v,J5 P hp t (.pointer (some ⟨i,o+row.toN U*z+fld,none⟩))=some v/\VD P U τ F a v:=by
 unfold L3 at p;split at p
 ·rename_i l hl;obtain⟨q,r⟩:=bS hl;obtain⟨G,H,B,C⟩:=hr;have g:row.toN U<(L.toR U).length:=by grind
  have f:(L.toR U)[row.toN U]? =some (L.toR U)[row.toN U]:=by grind
  have A:=B _ (List.getElem_mem g);refine jB h hg w ?_ q (fun j b hb=>?_) p
  ·have:row.toN U*z+z<=(L.toR U).length*z:=by rw[<-QC];exact Px z g
   omega
  ·obtain⟨kd,h3,h4⟩:=r j b hb;have hj:j<n:=by grind
   have hk:(L.toR U)[row.toN U][fld+j]? =some ((L.toR U)[row.toN U][fld+j]'(by omega)):=by grind
   obtain⟨x,k1,k2⟩:=C _ _ _ _ f hk;refine⟨x,by rw[<-k1];congr 1;omega,CE ?_ h4⟩;rw[sE,rR f hk];simp_all
 cases p
theorem BC {k:Kd}(f:VD P U τ F a v){e:E}(h:LR k a=some e):PV P F k v (e.den U):=by
 unfold LR at h;split at h;rename_i k k' x;by_cases hk:k=k';subst hk;simp only[Qs,PB,Pj]at h;subst h;cases f;rw[sX];exact .int k _;grind;simp only[Pj]at h;subst h;cases f;rw[Kp];exact .bool _;simp only[Pj]at h;subst h;cases f;rw[Kr];exact .str _;simp only[Pj]at h;subst h;cases f;exact .nils _
 ·rename_i e' g L c;cases hb:Nat.beq e' g with
  |false=>grind|true=>
   simp only[hb,PB,Pj]at h;subst h;have:=Pq hb;subst this;cases f with
   |lst _ _ _ _ h hc=>rw[lC];exact h
 simp only[Pj]at h;subst h;cases f;rename_i h;rw[sX];exact h
 ·rename_i x;simp only[Pj]at h;subst h;cases f with
  |rp _ _ h0=>rw[sX,show x.toI U=((x.toN U:Nat):Int) by show x.toI U=((x.toI U).toNat:Int);omega];exact .rp _
 simp only[Pj]at h;subst h;cases f;exact .rpn;cases h
theorem nD {z:Nat}:∀ {n:Nat} {l:Ar} {r:Nat} {row:Ar},(b8 z n l)[r]? =some row->row=(l.drop (r*z)).take z
 |0,l,r,row,h=>by simp[b8]at h|n+1,l,0,row,h=>by simp[b8]at h;simp[h]|n+1,l,r+1,row,h=>by simp only[b8,List.getElem?_cons_succ]at h;rw[nD h,List.drop_drop];grind
theorem aG {z:Nat}{es:Au}{N:Nat}(hz:z=(kf P e).length)(q:es.length=N*z)(hn:o+es.length<=n)(hc:∀(j:Nat) d,es[j]? =some d-> ∃x,cs.get (o+j)=some x/\ ∀kd,(kf P e)[j % z]? =some kd->PV P F kd x (d.den U)):A0 P F e z o n cs ((E.op (.rows N z) es).toR U):=by
 have hL:(E.op (.rows N z) es).toR U=b8 z N (es.map (E.den U)):=by show(Dat.lst (b8 z N (E.dens U es))).rows=_;rw[E.dens_eq];rfl
 rw[hL];have g:∀r row,(b8 z N (es.map (E.den U)))[r]? =some row->r<N/\row.length=z:=by
  intro r row h;have h1:=(Po.1 h).1;rw[K9]at h1;refine⟨h1,?_⟩;rw[nD h];simp;have:r*z+z<=N*z:=by rw[<-QC];exact Px z h1
  omega
 refine⟨by rw[K9];omega,hz,fun row m=>?_,fun r k row d hr hk=>?_⟩;obtain⟨r,hr⟩:=Rp m;grind
 ·obtain⟨h1,h2⟩:=g r row hr;have f:k<z:=by grind
  rw[nD hr,PS,PG f,Qb,Qm]at hk;cases he:es[r*z+k]? with
  |none=>grind|some x=>simp only[he,Qh,Pj]at hk;obtain⟨y,k1,k2⟩:=hc _ _ he;refine⟨y,by grind,fun kd p=>?_⟩;rw[<-hk];exact k2 kd (by rw[show(r*z+k) % z=k by rw[Nat.mul_comm,Nat.mul_add_mod];exact Rj f];exact p)
theorem vD {ks:List Kd}:∀ {l:As} {j:Nat} {es:Au},IT ks j l=some es->es.length=l.length/\ ∀(q:Nat) a e,l[q]? =some a->es[q]? =some e-> ∃k,ks[(j+q) % ks.length]? =some k/\LR k a=some e
 | [],j,es,h=>by simp only[IT,Pj]at h;subst h;exact(by grind)|a::l,j,es,h=>by simp only[IT]at h;split at h;rename_i k hk;split at h;rename_i e he;split at h;rename_i g f;obtain⟨h1,h2⟩:=vD f;grind;cases h;cases h;cases h
theorem oC {z:Nat}{l:As}{L:E}(h:tW P e z l=some L)(hn:o+l.length<=n)(hc:∀(j:Nat) a,l[j]? =some a-> ∃x,cs.get (o+j)=some x/\VD P U τ F a x):A0 P F e z o n cs (L.toR U):=by
 unfold tW at h;cases hb:Nat.ble 1 z&&Nat.beq z (kf P e).length&&Nat.beq (l.length/z*z) l.length with
 |false=>grind|true=>
  rw[hb,PB]at h;simp at hb;obtain⟨⟨h1,h2⟩,h3⟩:=hb;split at h
  ·rename_i es f;simp at h;subst h;obtain⟨h4,p⟩:=vD f;refine aG h2 (by omega) (by omega) fun j d q=>?_;have hj:j<l.length:=by grind
   have m:l[j]? =some l[j]:=by grind
   obtain⟨x,k1,k2⟩:=hc j _ m;obtain⟨k,k3,r⟩:=p j _ d m q;refine⟨x,k1,fun kd g=>?_⟩;rw[PQ,<-h2,g,Pj]at k3;subst k3;exact BC k2 r
  cases h
theorem xD {k:IntKind}:∀ {l:As} {es:Au},CI k l=some es->es.length=l.length/\ ∀(j:Nat) e,es[j]? =some e->l[j]? =some (.int k e)
 | [],es,h=>by simp only[CI,Pj]at h;subst h;exact(by grind)|a::l,es,h=>by
  unfold CI at h;split at h;grind
  ·rename_i k' e l' f;cases f;cases hk:decide (k=k')with
   |false=>grind|true=>rw[hk,PB]at h;rw[PF]at hk;split at h;rename_i m g;obtain⟨h1,h2⟩:=xD g;grind;cases h
  cases h
def iE :∀(ds:Ar) (n:Nat),(b8 1 ds.length ds)[n]? =(ds[n]?).map fun d=>[d]
 | [],n=>rfl|d::ds,0=>rfl|d::ds,n+1=>by simp[b8,iE ds n]
theorem gK (hs:SD P U τ F s hp){b:Nat}{L:E}{z:Nat}(h:vZ s=some (b,L,z)):s.get b=some (.reg b L z)/\τ b=some (some (0,0))/\F 0=none/\ ∃cs,hp.m.get 0=some (.reg cs (L.toR U).length rgT z)/\A0 P F rgT z 0 ((L.toR U).length*z) cs (L.toR U):=by
 unfold vZ at h;split at h
 ·rename_i b' _;split at h
  ·rename_i r f q hg;cases hb:Nat.beq r b' with
   |false=>grind|true=>rw[hb,PB]at h;cases h;have:=Pq hb;subst this;rcases hs.live _ _ hg with⟨i,o,y,h1,h2,h3,h4,g,cs,j,p⟩| ⟨_,_,_,_,_,h,_⟩;grind;cases h
  cases h
 cases h
theorem HW {t:Ax}(h:ldk P t=some (ag,n)){N z:Nat}(hg:hp.m.get 0=some (.reg c N e z))(hk:k<N)(q:o+n<=z)(hl:v5 c (k*z+o) n=some vs):∃v,J5 P hp t (.pointer (some ⟨k,o,some 1⟩))=some v/\((ag=true/\v= .agg vs.toArray)\/(ag=false/\vs=[v])):=by
 have f:Nat.ble (k+1) N=true:=Ps hk;unfold ldk at h;split at h
 ·rename_i d p;cases g:qC d with
  |true=>simp only[g,PB]at h;split at h;rename_i r j;cases h;refine⟨.agg vs.toArray,?_,.inl ⟨rfl,rfl⟩⟩;simp only[J5,oR,hg,p,g,PB,j,f,Ps q,hl,QV];cases h
  |false=>
   simp only[g,PC,Pj,Pn]at h;obtain⟨rfl,rfl⟩:=h;simp only[v5]at hl;cases hv:c.get (k*z+o)with
   |none=>grind|some v=>simp only[hv,Pj]at hl;refine⟨v,?_,.inr ⟨rfl,hl.symm⟩⟩;simp only[J5,oR,hg,p,g,PC,f,Ps q,PB,hv,QV]
 cases h
theorem ET {t:Ax}(h:ldk P t=some (ag,n)){z:Nat}{L row:E}(hg:hp.m.get 0=some (.reg cs (L.toR U).length rgT z))(hr:A0 P F rgT z 0 ((L.toR U).length*z) cs (L.toR U))(h0:0<=row.toI U)(h1:row.toI U<(L.toR U).length)(hf:fld+n<=z)(f:L3 P ag n rgT L row fld=some a):∃v,J5 P hp t (.pointer (some ⟨row.toN U,fld,some 1⟩))=some v/\VD P U τ F a v:=by
 unfold L3 at f;split at f
 ·rename_i l hl;obtain⟨q,r⟩:=bS hl;obtain⟨I,J,A,B⟩:=hr;have p:row.toN U<(L.toR U).length:=by grind
  have g:(L.toR U)[row.toN U]? =some (L.toR U)[row.toN U]:=by simp[p]
  have w:(L.toR U)[row.toN U].length=z:=A _ (List.getElem_mem p);have hc:∀(j:Nat) b,l[j]? =some b-> ∃x,cs.get (row.toN U*z+fld+j)=some x/\VD P U τ F b x:=fun j b hb=>by
   obtain⟨kd,h3,h4⟩:=r j b hb;have hj:j<n:=by grind
   have hk:(L.toR U)[row.toN U][fld+j]? =some ((L.toR U)[row.toN U][fld+j]'(by omega)):=by grind
   obtain⟨x,k1,k2⟩:=B _ _ _ _ g hk;refine⟨x,by rw[<-k1];congr 1;omega,CE ?_ h4⟩;rw[sE,rR g hk];grind
  obtain⟨vs,D,G,H⟩:=E3 (c:=cs) (R:=fun j x=>∀a,l[j]? =some a->VD P U τ F a x) n (row.toN U*z+fld) 0 fun j hj=>by simp_all
  obtain⟨v,h4,C⟩:=HW h hg p hf D;refine⟨v,h4,?_⟩;have hv:VDL P U τ F l vs:=⟨by rw[q,G],fun j a x hj hx=>H j x hx a (by rw[PQ];exact hj)⟩
  rcases C with⟨rfl,rfl⟩| ⟨rfl,rfl⟩;simp only[EU,PB,Pj]at f;subst f;exact hv.agg
  ·simp only[EU,PC]at f;cases l with
   |nil=>simp at f|cons b l=>simp at f;subst f;exact hv.2 0 _ _ rfl rfl
 cases f
theorem DC {t:Ax}(g:VD P U τ F a v)(hs:SD P U τ F s hp):OKp U (HB P U t a) s fun b=>∃u,J5 P hp t v=some u/\VD P U τ F b u:=by
 unfold HB;split;exact RG
 ·rename_i ag n f;split
  ·rename_i b z row fld;refine RK ?_;split
   ·rename_i l e D hb;rcases hs.live b _ hb with⟨i,o,y,h1,h2,_,cs,k,rfl,h4,B⟩| ⟨h1,O,e',N,ph,h2,_⟩
    ·cases g with
     |ptr _ _ _ _ C o' h h0=>
      rw[h1]at h;simp only[Pj,Pn]at h;obtain⟨rfl,rfl⟩:=h;split
      ·rename_i r;cases hq:decide (0<=r)&&Nat.ble (r.toNat*z+fld+n) l.length with
       |false=>exact RG|true=>simp only[PB];simp only[Pk,PF,Qq]at hq;refine RJ fun c hc=>?_;refine jB f h2 rfl (o:=o+(E.int r).toN U*z+fld) ?_ (l:=(l.drop (r.toNat*z+fld)).take n) ?_ (fun j b hb=>?_) hc;show o+r.toNat*z+fld+n<=k;omega;grind;rw[PS]at hb;split at hb;rw[Qb]at hb;obtain⟨x,k1,k2⟩:=B _ _ hb;exact⟨x,by rw[<-k1];congr 1;show o+r.toNat*z+fld+j=_;omega,k2⟩;cases hb
      ·split
       ·rename_i L hL;cases hq:Nat.ble (fld+n) z with
        |false=>exact RG|true=>simp only[PB];refine OKp.need.bind fun _ s1 _ _ hlt=>RJ fun c hc=>?_;have hlt:=B6 hlt;rw[i9]at hlt;exact bZ f h2 rfl (oC hL h4 B) h0 hlt (Pp hq) hc
       ·cases hq: !ag&&Nat.beq z 1&&Nat.beq n 1 with
        |false=>exact RG|true=>
         rw[PB];simp only[Pk,Qc,Qi]at hq;obtain⟨⟨rfl,rfl⟩,rfl⟩:=hq;unfold Lt;split
         ·rename_i k0 e0 l' I;split
          ·rename_i es G;obtain⟨T,S⟩:=xD G;refine OKp.need.bind fun _ s1 _ _ hlt=>RL ?_;have hlt:=B6 hlt;simp only[A8]at hlt;have hr:row.toN U<es.length:=by grind
           have q:=S (row.toN U) _ (Pw hr);rw[<-I,Qb]at q;obtain⟨x,k1,k2⟩:=B _ _ q;refine jB (l:=[.int k0 (EK 0 (.op (.rows es.length 1) es) row)]) f h2 rfl (o:=o+row.toN U*1+fld) ?_ rfl (fun j a g=>?_) rfl;grind
           ·cases j with
            |succ j=>simp at g|zero=>
             simp only[PA,Pj]at g;subst g;refine⟨x,by rw[<-k1];congr 1;omega,?_⟩;cases k2;refine Se ?_;show((EK 0 (.op (.rows es.length 1) es) row).den U).toInt=_;rw[sE];show(z4 (b8 1 es.length (E.dens U es)) (row.toI U) 0).toInt=_;unfold z4;have J:es.length=(E.dens U es).length:=by rw[E.dens_eq,PD]
             rw[J,PP (l:=b8 _ _ _),iE,E.dens_eq,Qm,Pw hr];rfl
          exact RG
         exact RG
    cases h2
   ·rename_i L e D ph hb;cases hq:Nat.beq z D&&Nat.ble (fld+n) z with
    |false=>exact RG|true=>
     simp only[PB];simp only[Pk,Qc,Qq]at hq;obtain⟨rfl,hq⟩:=hq;refine OKp.need.bind fun _ s1 _ _ hlt=>RJ fun c hc=>?_;have hlt:=B6 hlt;rw[i9]at hlt;rcases hs.live b _ hb with⟨i,o,y,h1,h2,_,cs,k,rfl,h4,B⟩| ⟨h1,O,e',N,R,h2,h3,_⟩
     ·cases g with
      |ptr _ _ _ _ C o' h h0=>rw[h1]at h;simp only[Pj,Pn]at h;obtain⟨rfl,rfl⟩:=h;exact bZ f h2 rfl h4 h0 hlt hq hc
     ·cases g with
      |ptr _ _ _ _ C o' h h0=>grind
   exact RG;exact RG;exact RG
   ·split
    ·rename_i L e D hb;cases hq:Nat.beq z D&&Nat.ble (fld+n) z with
     |false=>exact RG|true=>
      simp only[PB];simp only[Pk,Qc,Qq]at hq;obtain⟨rfl,hq⟩:=hq;refine OKp.need.bind fun _ s1 _ _ hlt=>RJ fun c hc=>?_;have hlt:=B6 hlt;rw[i9]at hlt;rcases hs.fz _ (W7 hb)with⟨i,o,cs,k,h1,h2,h4⟩| ⟨h1,h2⟩
      ·cases g with
       |ptr _ _ _ _ C o' h h0=>rw[h1]at h;simp only[Pj,Pn]at h;obtain⟨rfl,rfl⟩:=h;exact bZ f (hs.frz _ _ h2) rfl h4 h0 hlt hq hc
      ·cases g with
       |ptr _ _ _ _ C o' h h0=>grind
    exact RG
  ·rename_i row fld;refine RK ?_;split
   ·rename_i b L z hr;cases hq:Nat.ble (fld+n) z with
    |false=>exact RG|true=>
     rw[PB];refine OKp.need.bind fun _ s1 _ _ hlt=>RJ fun c hc=>?_;have hlt:=B6 hlt;rw[i9]at hlt;obtain⟨_,_,_,cs,h2,h3⟩:=gK hs hr;cases g with
     |rp _ _ h0=>exact ET f h2 h3 h0 hlt (Pp hq) hc
   exact RG
  ·rename_i e L row fld;cases hq:Nat.ble (fld+n) (kf P e).length with
   |false=>exact RG|true=>
    simp only[PB];refine RJ fun c hc=>?_;cases g with
    |pptr _ _ _ _ i o l c' h h0 h1=>
     generalize p:L.toR U=rows at h h1;cases h with
     |sl _ _ _ _ y cs k z rows x hF hb Q hn hz hr hx K=>
      have hg:hp.m.get i=some y:=hs.frz _ _ hF;have M:A0 P F e z o k cs (L.toR U):=by rw[p];exact⟨hn,hz,hr,fun r k row d A w=>⟨x r k,hx r k row d A w,fun kd H=>K r k row kd d A w H⟩⟩
      rw[<-hz]at hq⊢;exact bZ f hg hb M h0 (by rw[p];exact h1) (Pp hq) hc
  exact RG
end
def mfz (b:Nat)(L:E)(e z:Nat):M Unit:=fun s=>.ret ((),{s with fz:=(b,L,e,z)::s.fz})
def hJ (b:Nat)(x:Bb A9):M Unit:=fun s=>.ret ((),s.set b x)
def LC :Nat->As->As
 |0,_=>[]
 |n+1,zs=>zs++LC n zs
def vY :SV->Bool
 | .agg _| .tup _| .any=>false
 |_=>true
section
variable (P :Aw)(U:Ab)
def sbox (e:Ax)(l:As):M SV:=b9 (aH (.cells l e l.length)) fun b=>d9 (.ptr b l.length (.int 0) 0)
def fK (t:Ax)(len:Nat)(parts:List (Nat×SV)):M SV:=
 match P.underlying t with
 |some (.slice e)=>match P.info? e with
  |some ie=>match pP P e with
   | some z => bif Nat.beq z.length ie.size && Nat.ble (len * ie.size) 16777216 && Nat.ble len 16777216 then
     match pM (fun i=>some (i*ie.size,ie.size)) (LC len z) parts with
     |some cs=>b9 (aH (.cells cs e ie.size)) fun b=>d9 (.sl b ie.size (.int 0) (.int len) (.ex (.int len)))
     |none=>a9 "buildSlice"
    else a9 "buildSlice"
   |none=>a9 "buildSlice: zero"
  |none=>a9 "buildSlice: type"
 |_=>a9 "buildSlice: type"
def FU :E->Ai
 | .int k=>bif decide (0<=k)&&decide (k<=64)then some k.toNat else none|_=>none
theorem yK {U:Ab}{c:E}{n:Nat}(h:FU c=some n):n=c.toN U:=by
 unfold FU at h;split at h
 ·rename_i k;cases hk:decide (0<=k)&&decide (k<=64)with
  |false=>grind|true=>rw[hk,PB,Pj]at h;rw[<-h];rfl
 cases h
def jO (t:Ax)(l c:SV):M SV:=
 match l,c with
 | .int _ ln,.int _ cn=>match P.underlying t with
  |some (.slice e)=>match P.info? e with
   |some ie=>match pP P e with
    | some z => bif Nat.ble ie.bytes 1048576 && Nat.beq z.length ie.size then
      b9 (j7 U (y4 (y6 ln (.int 0)))) fun _=>b9 (j7 U (y4 (y6 cn ln))) fun _=>b9 (j7 U (y6 cn (.int 1048577))) fun _=>
      match FU cn with
      |some k=>b9 (aH (.cells (LC k z) e ie.size)) fun b=>d9 (.sl b ie.size (.int 0) ln (.ex cn))
      | none => bif Nat.beq (kf P e).length ie.size && Nat.ble 1 ie.size then
        match IT (kf P e) 0 z with
        |some es=>b9 (aH (.rows (.op .rep (cn::es)) e ie.size cn)) fun b=>d9 (.sl b ie.size (.int 0) ln (.ex cn))
        |none=>a9 "makeSlice: zero"
       else a9 "makeSlice: kinds"
     else a9 "makeSlice: size"
    |none=>a9 "makeSlice: zero"
   |none=>a9 "makeSlice: type"
  |_=>a9 "makeSlice: type"
 |_,_=>a9 "makeSlice: no ints"
def U5 (L off len:E):M E:=
 match off with
 | .int m=>bif decide (m=0)&&E.like len (z9 L)then b9 (j7 U (E4 len (z9 L))) fun _=>d9 (hG L)else d9 (.op .part [L,off,len])
 |_=>d9 (.op .part [L,off,len])
def pE (f:Kd->SV->M E)(ks:List Kd):Nat->As->M (Au)
 |_,[]=>d9 []|j,a::l=>match ks[j % ks.length]? with
  |some k=>b9 (f k a) fun e=>b9 (pE f ks (j+1) l) fun es=>d9 (e::es)
  |none=>a9 "data: kind"
def wA :Nat->Kd->SV->M E
 |0,_,_=>a9 "data: depth"|d+1,k,a=>match LR k a with
  |some e=>d9 e|none=>match k,a with
   | .sl e,.sl b z off len _=>u4 fun s=>match s.get b with
    | some (.rows L e' z' _) => bif Nat.beq e e' && Nat.beq z z' then
      b9 (j7 U (y4 (y6 (z9 L) (y0 off len)))) fun _=>b9 (hJ b none) fun _=>b9 (mfz b L e z) fun _=>U5 U L off len
     else a9 "data: type"
    | some (.cells l e' z') => bif Nat.beq e e' && Nat.beq z z' && Nat.beq z (kf P e).length && Nat.beq (l.length / z * z) l.length then
      b9 (j7 U (y4 (y6 (.int (l.length/z:Nat)) (y0 off len)))) fun _=>b9 (hJ b none) fun _=>
      b9 (pE (wA d) (kf P e) 0 l) fun es=>b9 (mfz b (.op (.rows (l.length/z) z) es) e z) fun _=>U5 U (.op (.rows (l.length/z) z) es) off len
     else a9 "data: type"
    |some (.map _ _ _)=>a9 "data: no block"|some (.iter _ _)=>a9 "data: no block"|some (.reg _ _ _)=>a9 "data: no block"|none=>match lk s.fz b with
     | some (L, e', z') => bif Nat.beq e e' && Nat.beq z z' then
       b9 (j7 U (y4 (y6 (z9 L) (y0 off len)))) fun _=>U5 U L off len
      else a9 "data: type"
     |none=>a9 "data: no block"
   |_,_=>a9 "data: value"
def DN (L row:E):Nat->Au->E
 |_,[]=>L|j,e::es=>DN (.op (.upd j) [L,row,e]) row (j+1) es
def xT (b:Nat):M Unit:=u4 fun s=>match s.get b with
 |some (.cells l e z)=>match tW P e z l with
  |some L=>hJ b (some (.rows L e z (.int (l.length/z:Nat))))|none=>a9 "rows"
 |_=>d9 ()
def phT (ph L:E):Bool:=match ph with
 | .int _=>false|ph=> !(E.like ph (z9 L))
def jQ (b z:Nat)(row:E)(fld:Nat)(vs:As):M SV:=u4 fun s=>match s.get b with
 | some (.rows _ e _ _) => bif Nat.ble (fld + vs.length) z && Nat.beq z (kf P e).length then
   b9 (pE (wA P U 20) (kf P e) fld vs) fun es=>u4 fun s=>match s.get b with
   | some (.rows L e' z' ph) => bif Nat.beq e e' && Nat.beq z z' then
     bif phT ph L&&Nat.beq z 1&&Nat.beq fld 0&&Nat.beq es.length 1 then
      b9 (j7 U (y4 (y6 (z9 L) row))) fun _=>b9 (j7 U (y6 row ph)) fun _=>b9 (hJ b (some (.rows (.op .over [L,row,.op (.rows 1 1) es]) e' z' ph))) fun _=>d9 (.tup [])
     else b9 (j7 U (y6 row (z9 L))) fun _=>b9 (hJ b (some (.rows (DN L row fld es) e' z' ph))) fun _=>d9 (.tup [])
    else a9 "store: type"
   |_=>a9 "store: block"
  else a9 "store: beyond"
 |_=>a9 "store: no rows"
def Bs (row:E)(fld:Nat)(vs:As):M SV:=u4 fun s=>match vZ s with
 | some (_, _, z) => bif Nat.ble (fld + vs.length) z then
   b9 (pE (wA P U 20) (kf P rgT) fld vs) fun es=>u4 fun s=>match vZ s with
   | some (b, L, z') => bif Nat.beq z z' then
     b9 (j7 U (y6 row (z9 L))) fun _=>b9 (hJ b (some (.reg b (DN L row fld es) z'))) fun _=>d9 (.tup [])
    else a9 "store: type"
   |none=>a9 "store: region"
  else a9 "store: beyond"
 |none=>a9 "store: region"
def HC (l:As):M SV:=u4 fun s=>match vZ s with
 | some (_, _, z) => bif Nat.beq l.length z && Nat.ble 1 z && l.all vY then
   b9 (pE (wA P U 20) (kf P rgT) 0 l) fun es=>u4 fun s=>match vZ s with
   |some (b,L,z')=>bif Nat.beq z z' then b9 (hJ b (some (.reg b (F5 L (.op (.rows 1 z) es)) z))) fun _=>d9 (.rp (z9 L) 0)else a9 "new: region"
   |none=>a9 "new: region"
  else a9 "new: size"
 |none=>a9 "new: region"
def hset (k:IntKind)(es:Au)(row w:E):As:=(List.range es.length).map fun j:Nat=>.int k (EK 0 (.op .over [.op (.rows es.length 1) es,row,.op (.rows 1 1) [w]]) (.int (j:Int)))
def Bt (b:Nat)(l:As)(e z:Nat)(row:E)(fld:Nat):As->M SV:=
 have _:=U
 fun _=>a9 "store"
def Gc (t:Ax)(a x:SV):M SV:=
 match P.info? t with
 |none=>a9 "store: type"|some ti=>match B5 x with
  |none=>a9 "store: value"|some vs=>bif Nat.beq vs.length ti.size&&vs.all vY then
   match a with
   | .ptr b z row fld=>u4 fun s=>match s.get b with
    |some (.cells l e z')=>match row with
     | .int r => bif decide (0 ≤ r) && Nat.ble (r.toNat * z + fld + vs.length) l.length then
       b9 (hJ b (some (.cells (Q0 l (r.toNat*z+fld) vs) e z'))) fun _=>d9 (.tup [])else a9 "store: beyond"
     |row=>bif Nat.beq z 1&& !Nat.beq z' 1&&Nat.ble fld l.length then Bt U b l e z' row fld vs else b9 (xT P b) fun _=>jQ P U b z row fld vs
    |some (.rows _ _ _ _)=>jQ P U b z row fld vs|_=>a9 "store: no block"
   | .rp row fld=>Bs P U row fld vs|_=>a9 "store: no address"
   else a9 "store: size"
end
section
variable {P :Aw}{U:Ab}{τ:Tau}{F:Ac}{s:SS}{hp:Hp}
def OKh.alloc {x:A9}{y:Blk}(hs:SD P U τ F s hp)(hy:∀τ',Tle τ τ'->BD P U τ' F 0 x y):OKh P U (aH x) τ F s hp fun b τ' F' hp'=>F'=F/\τ' b=some (some (hp.nx,0))/\hp'=⟨hp.m.set hp.nx (some y),hp.nx+1⟩:=by
 intro Q hq _;have h0:=hs.new _ (PH _);obtain⟨h1,h2⟩:=hs.alloc (hp':=⟨hp.m.set hp.nx (some y),hp.nx+1⟩) (QJ _) (fun i hi=>Mh hp y i hi)
  (.inl ⟨hp.nx,0,y,rfl,PH _,Qw _,by simp[Sa],hy _ (aF _ h0)⟩)
 exact⟨s.nx,_,hq,_,F,_,h1,h2,rfl,u5 _ _ _,rfl⟩
def Rz:type_of% @OKh.alloc:=@OKh.alloc
theorem K0 (vs:Af)(j:Nat)(x:Av)(h:vs[j]? =some x):(fill .e 0 vs).get j=some x:=by rw[l8,PG (by grind)];grind
variable {l:As}{vs:Af}
def aL (h:VDL P U τ F l vs)(e z:Nat):BD P U τ F 0 (.cells l e z) (N8 vs e z):=by refine⟨fill .e 0 vs,vs.length,rfl,by rw[h.1];omega,fun j a f=>?_⟩;obtain⟨x,h1,h2⟩:=h.get f;exact⟨x,by rw[PQ];exact K0 vs j x h1,h2⟩
def Hr {e:Ax}(h:VDL P U τ F l vs)(hs:SD P U τ F s hp):OKh P U (sbox e l) τ F s hp fun a τ' F' hp'=>(a,hp')=(a,(hp.add ⟨N8 vs e vs.length,.ptr,rfl⟩).2)/\VD P U τ' F' a (hp.add ⟨N8 vs e vs.length,.ptr,rfl⟩).1:=by refine(Rz (y:=N8 vs e vs.length) hs fun τ' ht=>?_).bind fun b τ' F' s' hp' _ f ⟨h1,h2,h3⟩=>?_;rw[h.1];exact aL (h.mono ht (Rx F)) e vs.length;subst h3;exact RE ⟨rfl,VD.ptr' h2 (by show(0:Int)<=0;omega) (by show 0=0+(0:Int).toNat*_+0;simp)⟩
def rC {l:As}{vs:Af}(h:VDL P U τ F l vs):∀n,VDL P U τ F (LC n l) (xrep n vs)
 |0=>Si|n+1=>h.append (rC h n)
def uE {t:Ax}{len:Nat}{ps:List (Nat×SV)}{j:List (Nat×Av)}(h:PVD P U τ F ps j)(hs:SD P U τ F s hp):OKh P U (fK P t len ps) τ F s hp fun a τ' F' hp'=>∃n,IU P t len j=some n/\hp'=(hp.add n).2/\VD P U τ' F' a (hp.add n).1:=by
 unfold fK;split
 ·rename_i e he;split
  ·rename_i ie g;split
   ·rename_i z hz;obtain⟨zv,h1,h2⟩:=bH hz;rw[h2.1];cases hb:Nat.beq zv.cells.toList.length ie.size&&Nat.ble (len*ie.size) 16777216&&Nat.ble len 16777216 with
    |false=>exact RC|true=>
     simp only[PB];split
     ·rename_i cs f;obtain⟨ys,h3,h4⟩:=fM (rC h2 len) h f;refine(Rz hs fun τ' ht=>aL (h4.mono ht (Rx F)) e ie.size).bind fun b τ' F' s' hp' _ p ⟨k1,k2,k3⟩=>?_;subst k3;refine RE ⟨⟨N8 ys e ie.size,.slice len len,rfl⟩,?_,rfl,?_⟩;simp only[IU,he,g,h1,hb,PB,h3]
      ·have q:len<unk:=by simp at hb;unfold unk;omega
       have:=VD.sl (P:=P) (U:=U) (F:=F') b ie.size (.int 0) (.int len) (.ex (.int len)) hp.nx 0 len k2 (Qz 0) (Int.natCast_nonneg len) ⟨Int.natCast_nonneg len,(Qd len).symm,q,Qz _⟩;have r:=Qd len;have m:(E.int 0).toN U*ie.size=0:=by show(0:Int).toNat*_=0;simp
       rwa[m]at this
     exact RC
   exact RC
  exact RC
 exact RC
def F9 (n:Nat)(vs:Af):(xrep n vs).length=n*vs.length:=by
 induction n with
 |zero=>simp[xrep]|succ n f=>simp[xrep,f,QC];omega
theorem bL {z:Nat}{vs:Af}(hz:vs.length=z):∀ {n r k:Nat},r<n->k<z->(xrep n vs)[r*z+k]? =vs[k]?
 |0,r,k,h,_=>by omega|n+1,0,k,_,hk=>by simp only[xrep,QW,PQ];rw[Pu (by omega)]|n+1,r+1,k,h,hk=>by simp only[xrep];rw[Pt (by grind),hz,show(r+1)*z+k-z=r*z+k by rw[QC];omega];exact bL hz (by omega) hk
theorem wE {t:Ax}{a b:SV}{v u:Av}(Q:VD P U τ F a v)(hb:VD P U τ F b u)(hs:SD P U τ F s hp):OKh P U (jO P U t a b) τ F s hp fun c τ' F' hp'=>∃n,Je P t v u=some n/\hp'=(hp.add n).2/\VD P U τ' F' c (hp.add n).1:=by
 unfold jO;split
 ·rename_i k1 ln k2 f;cases Q;cases hb;split
  ·rename_i e he;split
   ·rename_i ie H;split
    ·rename_i z hz;obtain⟨zv,h1,h2⟩:=bH hz;rw[h2.1];cases hb:Nat.ble ie.bytes 1048576&&Nat.beq zv.cells.toList.length ie.size with
     |false=>exact RC|true=>
      refine RA RH fun _ s1 _ hs1 p1=>RA RH fun _ s2 _ R p2=>RA RH fun _ s3 _ C Y=>?_;have V:=U9 p1;have W:=z5 p2;have X:=B6 Y;simp only[A8]at X;simp only[Pk,Qq,Qc]at hb;have hx:Je P t (.int k1 (ln.toI U)) (.int k2 (f.toI U))=some ⟨N8 (xrep (f.toN U) zv.cells.toList) e ie.size,.slice (ln.toN U) (f.toN U),rfl⟩:=by simp only[Je,he,H,h1];rw[show(decide (0<=ln.toI U)&&decide (ln.toI U<=f.toI U)&&decide (f.toI U<=1048576)&&Nat.ble ie.bytes 1048576&&Nat.beq zv.cells.toList.length ie.size)=true by simp only[Pk,PF,Qq,Qc];exact(by grind)];rfl
      have m:∀(τ':Tau) (g:Nat),τ' g=some (some (hp.nx,0))->VD P U τ' F (.sl g ie.size (.int 0) ln (.ex f)) (.slice (some ⟨hp.nx,0,none⟩) (ln.toN U) (f.toN U)):=by
       intro τ' g J;have S:f.toN U<unk:=by unfold unk;show(f.toI U).toNat<_;omega
       have:=VD.sl (P:=P) (F:=F) g ie.size (.int 0) ln (.ex f) hp.nx 0 (f.toN U) J (Qz 0) V ⟨by omega,rfl,S,W⟩;have e2:(E.int 0).toN U*ie.size=0:=by show(0:Int).toNat*_=0;simp
       grind
      split
      ·rename_i k hk;rw[<-yK hk]at hx;have q:∀(τ':Tau) (g:Nat),τ' g=some (some (hp.nx,0))->VD P U τ' F (.sl g ie.size (.int 0) ln (.ex f)) (.slice (some ⟨hp.nx,0,none⟩) (ln.toN U) k):=by rw [yK hk]; exact m
       refine(Rz C fun τ' ht=>aL (rC (h2.mono ht (Rx F)) _) e ie.size).bind fun g τ' F' s' hp' _ I ⟨K,L,M⟩=>?_;subst K;subst M;exact RE ⟨_,hx,rfl,q τ' g L⟩
      ·cases hk:Nat.beq (kf P e).length ie.size&&Nat.ble 1 ie.size with
       |false=>exact RC|true=>
        simp only[PB];simp only[Pk,Qq,Qc]at hk;split
        ·rename_i es G;obtain⟨t1,t2⟩:=vD G;have j:=hb.2;have N:es.length=ie.size:=by rw[t1,h2.1,j]
         refine(Rz (y:=N8 (xrep (f.toN U) zv.cells.toList) e ie.size) C fun τ' ht=>?_).bind fun g τ' F' s' hp' _ I ⟨K,L,M⟩=>?_
         ·have hL:(E.op .rep (f::es)).toR U=List.replicate (f.toN U) (es.map (E.den U)):=by show(Dat.lst (List.replicate _ (E.dens U es))).rows=_;rw[E.dens_eq];rfl
          refine⟨_,_,rfl,?_,?_⟩
          ·rw[hL];refine⟨by rw[F9,j];simp,hk.1.symm,fun r hr=>?_,fun r k row d hr p=>?_⟩;grind
           ·rw[List.getElem?_replicate]at hr;split at hr
            ·rename_i hlt;simp only[Pj]at hr;subst hr;have B:k<ie.size:=by grind
             rw[Qm]at p;cases w:es[k]? with
             |none=>grind|some x=>
              simp only[w,Qh,Pj]at p;have D:z[k]? =some (z[k]'(by omega)):=by grind
              obtain⟨y,Z,w2⟩:=h2.get D;obtain⟨kd,O,w4⟩:=t2 k _ _ D w;refine⟨y,?_,fun T A=>?_⟩;rw[PQ];exact K0 _ _ _ (by rw[bL j hlt B];exact Z);rw[PQ,hk.1,Rj B,A,Pj]at O;subst O;rw[<-p];exact BC w2 w4
            cases hr
          rw[F9,j];omega
         subst K;subst M;exact RE ⟨_,hx,rfl,m τ' g L⟩
        exact RC
    exact RC
   exact RC
  exact RC
 exact RC
end
section
variable {P :Aw}{U:Ab}{τ:Tau}{F:Ac}{s:SS}{hp:Hp}
theorem rQ {len:E}{cap:Cp}{c:Nat}(h:kR U len cap c)(h0:0<=len.toI U):wR (len.toN U) c:=by
 cases cap with
 |ex e=>obtain⟨h1,h2,h3,h4⟩:=h;exact .inl (by grind)
 |ge=>obtain⟨lo,h1,h2,h3⟩:=h;exact .inr (by grind)
 |un=>rcases h with⟨h1,h2,h3⟩| ⟨lo,h1,h2,h3⟩;exact .inl (by grind);exact .inr (by grind)
variable {off:Int}
theorem S8 {rows:Rows}{len:Int}(h0:0<=off)(h1:0<=len)(h2:off+len<=rows.length):(pQ rows off len).length=len.toNat:=by unfold pQ;grind
theorem fC {rows:Rows}{len:Int}{r:Nat}{row:Ar}(h:(pQ rows off len)[r]? =some row):rows[off.toNat+r]? =some row:=by unfold pQ at h;grind
theorem PV.of_rows {F:Ac}{e e' z f o n i c:Nat}{cs:Ao}{rows:Rows}{len:Int}(hF:F i=some (.cells cs n e' f))(m:f=z)(hr:A0 P F e z o n cs rows)(h0:0<=off)(h1:0<=len)(h2:off+len<=rows.length)(hc:wR len.toNat c):PV P F (.sl e) (.slice (some ⟨i,o+off.toNat*z,none⟩) len.toNat c) (.lst (pQ rows off len)):=by
 subst m;obtain⟨C,p,q,w⟩:=hr;have hl:=S8 h0 h1 h2;have hx:∀(r k:Nat),∃x,∀row d,(pQ rows off len)[r]? =some row->row[k]? =some d->cs.get (o+off.toNat*f+r*f+k)=some x/\ ∀kd,(kf P e)[k]? =some kd->PV P F kd x d:=by
  intro r k;cases g:(pQ rows off len)[r]? with
  |none=>exact⟨undef,fun row d h=>by grind⟩|some row=>
   cases A:row[k]? with
   |none=>exact⟨undef,fun j d h h'=>by grind⟩|some d=>obtain⟨x,k1,k2⟩:=w _ k row d (fC g) A;refine⟨x,fun j B h h'=>?_⟩;grind
 have:=PV.sl e i (o+off.toNat*f) c _ cs n f (pQ rows off len) (fun r k=>(hx r k).choose) hF rfl ⟨by grind,.mk⟩
  (by
   rw[hl];have:off.toNat*f+len.toNat*f<=rows.length*f:=by rw[<-PY];exact Px f (by omega)
   omega) p (fun r hr=>q r (QU (QT hr)))
 grind
def B3 {L off len:E}:OKp U (U5 U L off len) s fun e=>e.den U= .lst (pQ (L.toR U) (off.toI U) (len.toI U)):=by
 unfold U5;split
 ·rename_i m;cases hb:decide (m=0)&&E.like len (z9 L)with
  |false=>exact RL rfl|true=>
   simp at hb;refine OKp.need.bind fun _ s1 _ _ h=>RL ?_;have h:=Y6 h;rw[i9]at h;rw[lC];unfold pQ;have f:((E.int m).toI U).toNat=0:=by rw[hb.1];rfl
   rw[f,h,Qd,Rc,List.take_length]
 exact RL rfl
variable {b:Nat}
def OKh.drop :OKh P U (hJ b none) τ F s hp fun _ τ' F' hp'=>τ'=τ/\F'=F/\hp'=hp:=by intro Q hq hs;obtain⟨h1,h2⟩:=hs.drop b;exact⟨(),_,hq,τ,F,hp,h1,h2,rfl,rfl,rfl⟩
def OKh.freeze {i o:Nat}{x:A9}(hb:s.get b=some x)(ht:τ b=some (some (i,o))){y:Blk}(hi:hp.m.get i=some y):OKh P U (hJ b none) τ F s hp fun _ τ' F' hp'=>τ'=τ/\hp'=hp/\F' i=some y:=by intro Q hq hs;obtain⟨F',h1,h2,h3,h4⟩:=hs.freeze hb ht hi;exact⟨(),_,hq,τ,F',hp,h3,h4,rfl,rfl,h2⟩
def OKh.fz {L:E}{e z:Nat}(h:HO P U τ F (b,L,e,z)):OKh P U (mfz b L e z) τ F s hp fun _ τ' F' hp'=>τ'=τ/\F'=F/\hp'=hp:=by intro Q hq hs;refine⟨(),_,hq,τ,F,hp,?_,⟨hs.live,hs.inj,hs.frz,hs.lt,hs.flt,hs.new,hs.fc,fun r hr=>?_⟩,rfl,rfl,rfl⟩;have h:=Ext.refl hs;exact⟨h.t,h.f,h.nx,h.snx,h.st,h.low,h.hh,h.hf,h.win⟩;rcases Qa.1 hr with rfl|hr;exact h;exact hs.fz r hr
theorem aY {f:Kd->SV->M E}{ks:List Kd}(hf:∀k a v τ F s hp,VD P U τ F a v->SD P U τ F s hp->OKh P U (f k a) τ F s hp fun e τ' F' hp'=>τ'=τ/\hp'=hp/\PV P F' k v (e.den U)):∀ {l:As} {vs:Af} {j:Nat} {τ:Tau} {F:Ac} {s:SS} {hp:Hp},VDL P U τ F l vs->SD P U τ F s hp->OKh P U (pE f ks j l) τ F s hp fun es τ' F' hp'=>τ'=τ/\hp'=hp/\es.length=l.length/\ ∀(q:Nat) x e,vs[q]? =some x->es[q]? =some e-> ∃kd,ks[(j+q) % ks.length]? =some kd/\PV P F' kd x (e.den U)
 | [],vs,j,τ,F,s,hp,h,hs=>RE (by grind)|a::l,vs,j,τ,F,s,hp,h,hs=>by
  obtain⟨y,ys,rfl,h1,h2⟩:=h.uncons;unfold pE;split
  ·rename_i k hk;refine(hf k a y τ F s hp h1 hs).bind fun e τ1 F1 s1 hp1 ex hs1 ⟨p,r,w⟩=>?_;subst p;subst r;refine(aY hf (h2.mono ex.t ex.f) hs1).bind fun es τ2 F2 s2 B g C ⟨z,A,D,G⟩=>RE ⟨z,A,by grind,fun q x d hx m=>?_⟩;cases q with
   |zero=>simp at hx m;subst hx;subst m;exact⟨k,hk,w.mono P g.f⟩|succ q=>grind
  exact RC
theorem Y9 :∀(d:Nat) (k:Kd) (a:SV) (v:Av) (τ:Tau) (F:Ac) (s:SS) (hp:Hp),VD P U τ F a v->SD P U τ F s hp->OKh P U (wA P U d k a) τ F s hp fun e τ' F' hp'=>τ'=τ/\hp'=hp/\PV P F' k v (e.den U)
 |0,k,a,v,τ,F,s,hp,p,hs=>RC|d+1,k,a,v,τ,F,s,hp,p,hs=>by
  unfold wA;split;rename_i e he;exact RE ⟨rfl,rfl,BC p he⟩
  ·split
   ·rename_i e b z off len cap _;refine RD ?_;split
    ·rename_i L e' H ph hb;cases hq:Nat.beq e e'&&Nat.beq z H with
     |false=>exact RC|true=>
      simp only[PB];simp only[Pk,Qc]at hq;obtain⟨rfl,rfl⟩:=hq;refine RA RH fun _ s1 Z hs1 p1=>?_;have p1:=z5 p1;rw[j5,i9]at p1;have q:s1.get b=some (.rows L e z ph):=by rw[Z.get];exact hb
      rcases hs1.live b _ q with⟨i,o,y,h1,h2,_,cs,n,rfl,h4,h5⟩| ⟨h1,L',e',H,ab,h2,h3,_⟩
      ·cases p with
       |sl _ _ _ _ _ Y o' c h h0 g hc=>
        rw[h1]at h;simp only[Pj,Pn]at h;obtain⟨rfl,rfl⟩:=h;refine(OKh.freeze q h1 h2).bind fun _ τ2 F2 s2 O ex G ⟨B,C,A⟩=>?_;subst B;subst C;have S:A0 P F2 e z o n cs (L.toR U):=⟨h4.1,h4.2.1,h4.2.2.1,fun r k row d w1 w2=>let⟨x,w3,w4⟩:=h4.2.2.2 r k row d w1 w2;⟨x,w3,fun kd w5=>(w4 kd w5).mono P ex.f⟩⟩
        refine(OKh.fz (.inl ⟨i,o,cs,n,h1,A,S⟩)).bind fun _ W X s3 Q D T ⟨J,K,I⟩=>?_;subst J;subst K;subst I;refine OKh.bindp' B3 fun c' he=>⟨rfl,rfl,?_⟩
        rw[he];exact PV.of_rows A rfl S h0 g p1 (rQ hc g)
       |sl0 _ _ _ _ _ h h0 g hc=>grind
      ·cases p with
       |sl _ _ _ _ _ Y o' c h h0 g hc=>grind|sl0 _ _ _ _ _ h h0 g hc=>
        refine OKh.drop.bind fun _ τ2 F2 s2 O ex G ⟨B,C,A⟩=>?_;subst B;subst C;subst A;simp only[A9.rows.injEq]at h2;obtain⟨rfl,_⟩:=h2;refine(OKh.fz (.inr ⟨h1,h3⟩)).bind fun _ W X s3 Q D T ⟨J,K,I⟩=>?_;subst J;subst K;subst I;refine OKh.bindp' B3 fun c' he=>⟨rfl,rfl,?_⟩
        rw[he,h3];have:pQ [] (off.toI U) (len.toI U)=[]:=by simp[pQ]
        rw[this];exact .nils _
    ·rename_i l e' H hb;cases hq:Nat.beq e e'&&Nat.beq z H&&Nat.beq z (kf P e).length&&Nat.beq (l.length/z*z) l.length with
     |false=>exact RC|true=>
      simp only[PB];simp only[Pk,Qc]at hq;obtain⟨⟨⟨rfl,rfl⟩,hz⟩,hN⟩:=hq;refine RA RH fun _ s1 Z hs1 p1=>?_;have p1:=z5 p1;rw[j5]at p1;simp only[A8]at p1;have q:s1.get b=some (.cells l e z):=by rw[Z.get];exact hb
      rcases hs1.live b _ q with⟨i,o,y,h1,h2,_,cs,n,rfl,h4,h5⟩| ⟨h1,L',e',H,ab,h2,h3,_⟩
      ·cases p with
       |sl _ _ _ _ _ Y o' c h h0 g hc=>
        rw[h1]at h;simp only[Pj,Pn]at h;obtain⟨rfl,rfl⟩:=h;refine(OKh.freeze q h1 h2).bind fun _ τ2 F2 s2 O ex G ⟨B,C,A⟩=>?_;subst B;subst C;obtain⟨vs,v1,v2,v3⟩:=E3 (c:=cs) (R:=fun j x=>∀a,l[j]? =some a->VD P U τ2 F2 a x) l.length o 0 fun j hj=>by
         have:l[j]? =some l[j]:=by simp[hj]
         obtain⟨x,k1,k2⟩:=h5 j _ this;exact⟨x,k1,fun a p=>by rw[PQ,this]at p;cases p;exact k2.mono ex.t ex.f⟩
        have hv:VDL P U τ2 F2 l vs:=⟨v2.symm,fun j a x p hx=>v3 j x hx a (by rw[PQ];exact p)⟩
        refine(aY (fun k a v τ F s hp=>Y9 d k a v τ F s hp) hv G).bind fun es W X s3 Q D T ⟨J,K,I,f4⟩=>?_;subst J;subst K;have N:X i=some (.cells cs n e z):=D.f _ _ A;have w:A0 P X e z o n cs ((E.op (.rows (l.length/z) z) es).toR U):=by
         refine aG hz (by rw[I,hN]) (by rw[I];exact h4) fun j x hx=>?_;have hj:j<l.length:=by grind
         have V:vs[j]? =some (vs[j]'(by omega)):=by grind
         obtain⟨kd,w1,w2⟩:=f4 j _ _ V hx;refine⟨_,by rw[<-(t8 v1).2 j hj];exact V,fun ai ad=>?_⟩;grind
        refine(OKh.fz (.inl ⟨i,o,cs,n,h1,N,w⟩)).bind fun _ aj F4 s4 ae ac ah ⟨g1,g2,g3⟩=>?_;subst g1;subst g2;subst g3;refine OKh.bindp' B3 fun c' he=>⟨rfl,rfl,?_⟩
        rw[he];refine PV.of_rows N rfl w h0 g ?_ (rQ hc g);have:((E.op (.rows (l.length/z) z) es).toR U).length=l.length/z:=by show(b8 z (l.length/z) _).length=_;rw[K9]
        grind
       |sl0 _ _ _ _ _ h h0 g hc=>grind
      cases h2
    exact RC;exact RC;exact RC
    ·split
     ·rename_i L e' H hb;cases hq:Nat.beq e e'&&Nat.beq z H with
      |false=>exact RC|true=>
       simp only[PB];simp only[Pk,Qc]at hq;obtain⟨rfl,rfl⟩:=hq;refine RA RH fun _ s1 Z hs1 p1=>?_;have p1:=z5 p1;rw[j5,i9]at p1;refine OKh.bindp' B3 fun c' he=>⟨rfl,rfl,?_⟩
       rw[he];rcases hs.fz _ (W7 hb)with⟨i,o,cs,n,h1,h2,h4⟩| ⟨h1,h2⟩
       ·cases p with
        |sl _ _ _ _ _ Y o' c h h0 g hc=>rw[h1]at h;simp only[Pj,Pn]at h;obtain⟨rfl,rfl⟩:=h;exact PV.of_rows h2 rfl h4 h0 g p1 (rQ hc g)
        |sl0 _ _ _ _ _ h h0 g hc=>grind
       ·cases p with
        |sl _ _ _ _ _ Y o' c h h0 g hc=>grind|sl0 _ _ _ _ _ h h0 g hc=>
         have aa:L.toR U=[]:=h2;have:pQ [] (off.toI U) (len.toI U)=[]:=by simp[pQ]
         rw[aa,this];exact .nils _
     exact RC
   exact RC
where
 OKh.bindp' {m:M E} {R:E->Prop} {R':E->Tau->(Ac)->Hp->Prop} {τ:Tau} {F:Ac} {s:SS} {hp:Hp} (h:OKp U m s R) (hr:∀e,R e->R' e τ F hp):OKh P U m τ F s hp R':=
  (h.up (P:=P) (τ:=τ) (F:=F) (hp:=hp)).mono fun a τ' F' hp' _ _ ⟨B,C,A,e4⟩=>by subst B;subst C;subst A;exact hr a e4
end
section
variable {P :Aw}{U:Ab}{τ:Tau}{F:Ac}{s:SS}{hp:Hp}
theorem Ck {z r k f k':Nat}(hk:k<z)(g:k'<z)(h:r*z+k=f*z+k'):r=f/\k=k':=by
 have h1:(r*z+k)/z=r:=by rw[Nat.mul_comm,Nat.mul_add_div (by omega),Nat.div_eq_of_lt hk];omega
 have h2:(f*z+k')/z=f:=by rw[Nat.mul_comm,Nat.mul_add_div (by omega),Nat.div_eq_of_lt g];omega
 grind
variable {e o:Nat}{cs:Ao}{x:Av}
theorem A0.set1 {F:Ac}{z n:Nat}{rows:Rows}(h:A0 P F e z o n cs rows){r:Int}{j:Nat}(hj:j<z){d:Dat}(hx:∀kd,(kf P e)[j]? =some kd->PV P F kd x d):A0 P F e z o n (cs.set (o+r.toNat*z+j) (some x)) (a8 rows r j d):=by
 obtain⟨G,C,D,B⟩:=h;unfold a8;refine⟨by grind,C,fun row hr=>?_,fun m k row w hr hk=>?_⟩;obtain⟨q,hq⟩:=Rp hr;grind
 ·rw[List.getElem?_modify]at hr;cases g:rows[m]? with
  |none=>grind|some f=>
   have hl:=D f (Pv g);rw[g]at hr;by_cases e:r.toNat=m;simp only[e,QY,Option.map_eq_map,Qh,Pj]at hr;rw[<-hr,List.getElem?_set]at hk;by_cases A:j=k;subst A;rw[PG rfl,PG (by omega),Pj]at hk;refine⟨x,?_,fun kd E=>by grind⟩;rw[Sa,PG (by grind)];rw[PE A]at hk;obtain⟨y,k1,k2⟩:=B m k f w g hk;refine⟨y,?_,k2⟩;rw[Sa,PE];grind;grind
   ·simp only[e,if_false,Option.map_eq_map,Qh,Pj]at hr;subst hr;obtain⟨y,k1,k2⟩:=B m k f w g hk;have p:k<z:=by grind
    refine⟨y,?_,k2⟩;rw[Sa,PE];grind;intro h;exact e (Ck p hj (by omega)).1.symm
theorem oN {F:Ac}{e z o n:Nat}{row:E}(h0:0<=row.toI U):∀ {es:Au} {vs:Af} {L:E} {cs:Ao} {fld:Nat},A0 P F e z o n cs (L.toR U)->es.length=vs.length->fld+es.length<=z->(∀(q:Nat) x d,vs[q]? =some x->es[q]? =some d-> ∀kd,(kf P e)[fld+q]? =some kd->PV P F kd x (d.den U))->A0 P F e z o n (fill cs (o+row.toN U*z+fld) vs) ((DN L row fld es).toR U)
 | [],[],L,cs,fld,h,_,_,_=>h|d::es,x::vs,L,cs,fld,h,hl,hf,hp=>by
  have h1:=h.set1 (r:=row.toI U) (by grind) (fun kd f=>hp 0 x d rfl rfl kd f);have h2:=oN h0 (L:= .op (.upd fld) [L,row,d]) (fld:=fld+1) h1 (by simpa using hl) (by grind)
   (fun q y w hy g kd f=>hp (q+1) y w (by grind) (by grind) kd (by grind))
  exact h2
 | [],_::_,_,_,_,_,hl,_,_=>by grind|_::_,[],_,_,_,_,hl,_,_=>by grind
variable {v:Av}
def MF {a:SV}(h:VD P U τ F a v)(e:vY a=true):v.oneCell'=true:=by
 cases h with
 |any=>simp[vY]at e|agg=>simp[vY]at e|tup=>simp[vY]at e|lst t L clip v h hc=>generalize L.toR U=rows at h;cases h<;>rfl
 |rpq x v h=>generalize x.toI U=n at h;cases h<;>rfl
 |_=>rfl
variable {l:As}
theorem CW {vs:Af}(h:VDL P U τ F l vs)(e:l.all vY=true):vs.all Value.oneCell'=true:=by
 rw[PO]at e⊢;intro x hx;obtain⟨i,hi⟩:=Rp hx;have g:i<l.length:=by have:=(Po.1 hi).1;rw[h.1];exact this
 have f:l[i]? =some l[i]:=by grind
 exact MF (h.2 i _ _ f hi) (by grind)
def oX {t:Ax}{f:Ba}(g:P.info? t=some f)(hx:x.cells.toList.length=f.size)(j:x.cells.toList.all Value.oneCell'=true){i n z:Nat}{c:Ao}(hg:hp.m.get i=some (.cells c n e z))(hn:o+f.size<=n):T8 P hp t (.pointer (some ⟨i,o,none⟩)) x=some {hp with m:=hp.m.set i (some (.cells (fill c o x.cells.toList) n e z))}:=by simp only[T8,hg,g];rw[show(Nat.beq x.cells.toList.length f.size&&Nat.ble (o+f.size) n&&x.cells.toList.all Value.oneCell')=true by simp only[Pk,Qc,Qq];exact⟨⟨hx,hn⟩,j⟩];simp only[PB,oS,RY]
variable {b:Nat}
def OKh.change {i:Nat}{x x':A9}(hb:s.get b=some x)(ht:τ b=some (some (i,o))){y:Blk}{m:T Blk}(hk:∀j,j≠i->m.get j=hp.m.get j)(hi:m.get i=some y)(f:BD P U τ F o x' y)(g:∀c e z c',x= .cells c e z->x'= .cells c' e z->c'.length=c.length-> ∀cs n,hp.m.get i=some (.cells cs n e z)-> ∃cs',y= .cells cs' n e z/\ ∀j,j<o\/o+c.length<=j->cs'.get j=cs.get j:=by intro _ _ _ _ h h';first| (cases h;done)| (cases h';done)):OKh P U (hJ b (some x')) τ F s hp fun _ τ' F' hp'=>τ'=τ/\F'=F/\hp'= {hp with m:=m}:=by intro Q hq hs;obtain⟨h1,h2⟩:=hs.change (hp':= {hp with m:=m}) hb ht rfl hk hi f g;exact⟨(),_,hq,τ,F,_,h1,h2,rfl,rfl,rfl⟩
def RB:type_of% @OKh.change:=@OKh.change
theorem eS (hs:SD P U τ F s hp):OKh P U (xT P b) τ F s hp fun _ τ' F' hp'=>τ'=τ/\F'=F/\hp'=hp:=by
 refine RD ?_;split
 ·rename_i l e z hb;split
  ·rename_i L hL;rcases hs.live b _ hb with⟨i,o,y,h1,h2,_,cs,n,rfl,h4,m⟩| ⟨h1,q,e',r,p,h2,h3,_⟩
   ·have hr:=oC hL h4 m;refine(RB (x':= .rows L e z (.int (l.length/z:Nat))) hb h1 (fun _ _=>rfl) h2 ⟨cs,n,rfl,hr,?_⟩).mono fun _ τ' F' hp' _ _ ⟨f,g,j⟩=>⟨f,g,j⟩
    have f:(E.int ((l.length/z:Nat):Int)).toN U=l.length/z:=Qd _;rw[f];have:l.length/z*z<=l.length:=Nat.div_mul_le_self _ _;omega
   grind
  exact RC
 exact RE ⟨rfl,rfl,rfl⟩
variable {a:Int}
theorem yC {rows:Rows}{l:Rows}(h1:a<=rows.length){r:Nat}{row:Ar}(h:(Sx.over rows a l)[r]? =some row):(r<a.toNat/\rows[r]? =some row)\/(a.toNat<=r/\r<a.toNat+l.length/\l[r-a.toNat]? =some row)\/(a.toNat+l.length<=r/\rows[r]? =some row):=by
 unfold Sx.over at h;have hl:(rows.take a.toNat).length=a.toNat:=by grind
 by_cases f:r<a.toNat;grind;by_cases g:r<a.toNat+l.length;grind;rw[Py,Pt (by omega),hl,Pt (by omega),Qb]at h;grind
theorem CY {rows:Rows}{l:Rows}(h1:a<=rows.length):(Sx.over rows a l).length=Nat.max rows.length (a.toNat+l.length):=by unfold Sx.over;grind
theorem A0.over {z k:Nat}{rows l:Rows}{news:Af}(hr:A0 P F e z o k cs rows)(h1:a<=rows.length)(hl:∀r∈l,r.length=z)(hn:news.length=l.length*z)(hk:o+(a.toNat+l.length)*z<=k)(hx:∀(r j:Nat) (row:Ar) (d:Dat),l[r]? =some row->row[j]? =some d-> ∃x,news[r*z+j]? =some x/\ ∀kd,(kf P e)[j]? =some kd->PV P F kd x d):A0 P F e z o k (fill cs (o+a.toNat*z) news) (Sx.over rows a l):=by
 obtain⟨w,f,A,B⟩:=hr;refine⟨?_,f,fun r h=>?_,fun r j row d h h'=>?_⟩;rw[CY h1];grind;obtain⟨q,hq⟩:=Rp h;rcases yC h1 hq with⟨_,h⟩| ⟨_,_,h⟩| ⟨_,h⟩;grind;grind;grind
 ·rw[l8,hn];rcases yC h1 h with⟨c,h⟩| ⟨g,m,h⟩| ⟨c,h⟩
  ·have hj:j<z:=by grind
   have:r*z+z<=a.toNat*z:=by rw[<-QC];exact Px z c
   grind
  ·have hj:j<z:=by grind
   have p:r*z=a.toNat*z+(r-a.toNat)*z:=by rw[<-PY];congr 1;omega
   grind
  ·have hj:j<z:=by grind
   have:=Px z c;grind
variable {fld:Nat}{vs:As}
theorem iJ {t:Ax}{J:Ba}(H:P.info? t=some J){z:Nat}{row:E}(ha:VD P U τ F (.ptr b z row fld) v)(hv:VDL P U τ F vs x.cells.toList)(hx:x.cells.toList.length=J.size)(ho:x.cells.toList.all Value.oneCell'=true)(hs:SD P U τ F s hp):OKh P U (jQ P U b z row fld vs) τ F s hp fun a _ _ hp'=>a= .tup []/\T8 P hp t v x=some hp':=by
 refine RD ?_;split
 ·rename_i L0 e z0 ai ac;cases hq:Nat.ble (fld+vs.length) z&&Nat.beq z (kf P e).length with
  |false=>exact RC|true=>
   simp only[PB];simp only[Pk,Qc,Qq]at hq;obtain⟨hf,hz⟩:=hq;refine(aY (fun k a v τ F s hp=>Y9 20 k a v τ F s hp) hv hs).bind fun es τ1 F1 s1 hp1 ex hs1 ⟨e1,e2,K,e4⟩=>RD ?_;split
   ·rename_i L e' z' ph hb;cases hq:Nat.beq e e'&&Nat.beq z z' with
    |false=>exact RC|true=>
     simp only[PB];simp only[Pk,Qc]at hq;obtain⟨rfl,rfl⟩:=hq;cases hT:phT ph L&&Nat.beq z 1&&Nat.beq fld 0&&Nat.beq es.length 1 with
     |true=>
      simp only[Pk,Qc]at hT;obtain⟨⟨⟨_,rfl⟩,rfl⟩,N⟩:=hT;obtain⟨e0,rfl⟩:∃e0,es=[e0]:=by
       match es,N with
       | [e0],_=>grind
      refine RA RH fun _ s2 Z G p1=>RA RH fun _ s3 o3 V p2=>?_;have p1:=z5 p1;have p2:=B6 p2;rw[i9]at p1;have A:s3.get b=some (.rows L e 1 ph):=by rw[o3.get,Z.get];exact hb
      have w:=ha.mono ex.t ex.f;rcases V.live b _ A with⟨i,o,y,h1,h2,_,cs,n,rfl,h4,M⟩| ⟨h1,L',e',z',aa,h2,h3,_⟩
      ·cases w with
       |ptr _ _ _ _ X o' h h0=>
        have ah:x.cells.toList.length=1:=by rw[<-hv.1,<-K];rfl
        have g:o+row.toN U*1+0+J.size<=n:=by grind
        have W:=oX H hx ho h2 g;have p:=A0.over (l:=[[e0.den U]]) h4 p1 (by grind) (by omega)
         (by grind) (fun r j q d hr D=>by
          have R:r=0:=by grind
          subst R;simp at hr;subst hr;have O:j=0:=by grind
          subst O;simp at D;subst D;obtain⟨y,hy⟩:∃y,x.cells.toList[0]? =some y:=⟨_,Pw (by omega)⟩
          refine⟨y,hy,fun kd B=>?_⟩;obtain⟨Y,C,I⟩:=e4 0 y e0 hy rfl;rw[<-hz,B,Pj]at C;subst C;exact I)
        refine(RB (x':= .rows (.op .over [L,row,.op (.rows 1 1) [e0]]) e 1 ph) (y:= .cells (fill cs (o+row.toN U*1+0) x.cells.toList) n e 1) (m:=hp1.m.set i (some (.cells (fill cs (o+row.toN U*1+0) x.cells.toList) n e 1))) A h1 (fun j hj=>by rw[Sa,PE hj]) (by rw[Sa,PG rfl]) ⟨_,n,rfl,p,M⟩).bind fun _ ab F3 s3 Q _ _ ⟨C,I,w3⟩=>RE ⟨rfl,?_⟩;grind
      ·cases w with
       |ptr _ _ _ _ X o' h h0=>grind
     |false=>
     simp only[PC];refine RA RH fun _ s2 Z G p1=>?_;have p1:=B6 p1;rw[i9]at p1;have A:s2.get b=some (.rows L e z ph):=by rw[Z.get];exact hb
     have w:=ha.mono ex.t ex.f;rcases G.live b _ A with⟨i,o,y,h1,h2,_,cs,n,rfl,h4,M⟩| ⟨h1,L',e',z',aa,h2,h3,_⟩
     ·cases w with
      |ptr _ _ _ _ X o' h h0=>
       have S:row.toN U<(L.toR U).length:=by grind
       have ad:row.toN U*z+z<=(L.toR U).length*z:=by rw[<-QC];exact Px z S
       have g1:=h4.1;have g:o+row.toN U*z+fld+J.size<=n:=by rw[<-hx,<-hv.1];omega
       have W:=oX H hx ho h2 g;have p:=oN h0 h4 (by rw[K,hv.1]) (by rw[K];exact hf) (fun q y d hy D kd B=>by obtain⟨Y,C,I⟩:=e4 q y d hy D;have ae:q<es.length:=(Po.1 D).1;rw[<-hz,Rj (by omega),B,Pj]at C;subst C;exact I);refine(RB (x':= .rows (DN L row fld es) e z ph) (m:=hp1.m.set i (some (.cells (fill cs (o+row.toN U*z+fld) x.cells.toList) n e z))) A h1 (fun j hj=>by rw[Sa,PE hj]) (by rw[Sa,PG rfl]) ⟨_,n,rfl,p,M⟩).bind fun _ ab F3 s3 Q _ _ ⟨C,I,w3⟩=>RE ⟨rfl,?_⟩;grind
     ·cases w with
      |ptr _ _ _ _ X o' h h0=>grind
   exact RC
 exact RC
def vF {row:E}:∀ {es:Au} {L:E} {fld:Nat},((DN L row fld es).toR U).length=(L.toR U).length
 | [],L,fld=>rfl|d::es,L,fld=>by unfold DN;rw[vF (es:=es)];show(a8 (L.toR U) _ fld _).length=_;simp[a8]
theorem Gd {t:Ax}{g:Ba}(G:P.info? t=some g){row:E}(S:VD P U τ F (.rp row fld) v)(hv:VDL P U τ F vs x.cells.toList)(hx:x.cells.toList.length=g.size)(W:x.cells.toList.all Value.oneCell'=true)(hs:SD P U τ F s hp):OKh P U (Bs P U row fld vs) τ F s hp fun a _ _ hp'=>a= .tup []/\T8 P hp t v x=some hp':=by
 unfold Bs;refine RD ?_;split
 ·rename_i b0 L0 z w;obtain⟨_,_,_,_,_,R⟩:=gK hs w;cases hq:Nat.ble (fld+vs.length) z with
  |false=>exact RC|true=>
   simp only[PB];have hf:=Pp hq;have hz:=R.2.1;refine(aY (ks:=kf P rgT) (j:=fld) (fun k a v τ F s hp=>Y9 20 k a v τ F s hp) hv hs).bind fun es τ1 F1 s1 hp1 ex hs1 ⟨N,O,I,Q⟩=>RD ?_;subst N;subst O;split
   ·rename_i b L z' hr;cases hq:Nat.beq z z' with
    |false=>exact RC|true=>
     rw[PB];have:=Pq hq;subst this;refine RA RH fun _ s2 K C p1=>?_;have p1:=B6 p1;rw[i9]at p1;have A:vZ s2=some (b,L,z):=by unfold vZ at hr⊢;rw[K.h];split at hr;rename_i b' V;rw[K.get];exact hr;cases hr
     obtain⟨p,h1,_,cs,h2,h4⟩:=gK C A;cases S with
     |rp _ _ h0=>
      have B:row.toN U<(L.toR U).length:=by grind
      have f:=oN (P:=P) (F:=F1) h0 (es:=es) (vs:=x.cells.toList) (fld:=fld) h4 (by rw[I,hv.1]) (by rw[I];exact hf) (fun q y d hy J kd r=>by obtain⟨Z,H,M⟩:=Q q y d hy J;have Y:q<es.length:=(Po.1 J).1;rw[<-hz,Rj (by omega),r,Pj]at H;subst H;exact M);rw[PQ]at f;have D:T8 P hp1 t (.pointer (some ⟨row.toN U,fld,some 1⟩)) x=some (hp1.setR (fill cs (row.toN U*z+fld) x.cells.toList) (L.toR U).length rgT z):=by simp only[T8,Cf,h2,G];rw[show(Nat.beq x.cells.toList.length g.size&&Nat.ble (row.toN U+1) (L.toR U).length&&Nat.ble (fld+g.size) z&&x.cells.toList.all Value.oneCell')=true by simp only[Pk,Qc,Qq];exact⟨⟨⟨hx,B⟩,by rw[<-hx,<-hv.1];omega⟩,W⟩];rfl
      refine(RB (x':= .reg b (DN L row fld es) z) (m:=hp1.m.set 0 (some (.reg (fill cs (row.toN U*z+fld) x.cells.toList) (L.toR U).length rgT z))) p h1 (fun j hj=>by rw[Sa,PE hj]) (by rw[Sa,PG rfl]) ⟨rfl,h1,_,by rw[vF],by rw[vF];exact f⟩).bind fun _ aa F3 s3 X _ _ ⟨H,M,w3⟩=>RE ⟨rfl,?_⟩;rw[D,w3];rfl
   exact RC
 exact RC
theorem DE {vs:Af}(hv:VDL P U τ F l vs)(hs:SD P U τ F s hp):OKh P U (HC P U l) τ F s hp fun a τ' F' hp'=>∃v,vU hp vs=some (v,hp')/\VD P U τ' F' a v:=by
 unfold HC;refine RD ?_;split
 ·rename_i b0 Z z A;obtain⟨_,_,_,_,_,R⟩:=gK hs A;cases hq:Nat.beq l.length z&&Nat.ble 1 z&&l.all vY with
  |false=>exact RC|true=>
   simp only[PB];simp only[Pk,Qc,Qq]at hq;obtain⟨⟨hl,V⟩,_⟩:=hq;have hz:=R.2.1;refine(aY (ks:=kf P rgT) (j:=0) (fun k a v τ F s hp=>Y9 20 k a v τ F s hp) hv hs).bind fun es τ1 F1 s1 hp1 ex hs1 ⟨N,O,e3,Q⟩=>RD ?_;subst N;subst O;split
   ·rename_i b L Y hr;cases hq:Nat.beq z Y with
    |false=>exact RC|true=>
     rw[PB];have:=Pq hq;subst this;obtain⟨B,h1,_,cs,h2,h4⟩:=gK hs1 hr;have H:vs.length=z:=by rw[<-hv.1];exact hl
     have p:(E.op (.rows 1 z) es).toR U=[es.map (E.den U)]:=by show(Dat.lst (b8 z 1 (E.dens U es))).rows=_;rw[E.dens_eq];show [(es.map (E.den U)).take z]=_;rw[Ql (by simp;omega)]
     have g:((F5 L (.op (.rows 1 z) es)).toR U).length=(L.toR U).length+1:=by rw[L2,p];simp
     have w:Sx.over (L.toR U) ((L.toR U).length:Int) [es.map (E.den U)]=L.toR U++ [es.map (E.den U)]:=by unfold Sx.over;rw[Qd,List.take_length,List.drop_eq_nil_of_le (by simp),QX]
     have f:=A0.over (P:=P) (F:=F1) (k:=((L.toR U).length+1)*z) (news:=vs) (l:=[es.map (E.den U)]) (a:=((L.toR U).length:Int)) ⟨by rw[PY];have:=h4.1;omega,h4.2.1,h4.2.2.1,h4.2.2.2⟩ (Qz _)
      (fun r hr=>by simp at hr;rw[hr];simp;omega) (by rw[H];simp) (by rw[Qd];simp) (fun r j q d hr C=>by
       have A:r=0:=by grind
       subst A;simp at hr;subst hr;rw[Qm]at C;cases he:es[j]? with
       |none=>grind|some e0=>
        rw[he,Qh,Pj]at C;have hj:j<es.length:=(Po.1 he).1;obtain⟨y,hy⟩:∃y,vs[j]? =some y:=⟨_,Pw (by omega)⟩
        refine⟨y,by rw[QW,PQ];exact hy,fun kd D=>?_⟩;obtain⟨W,I,K⟩:=Q j y e0 hy he;rw[<-hz,PQ,Rj (by omega),D,Pj]at I;subst I;rw[<-C];exact K)
     rw[w,PQ,Qd]at f;have G:vU hp1 vs=some (.pointer (some ⟨(L.toR U).length,0,some 1⟩),hp1.setR (fill cs ((L.toR U).length*z) vs) ((L.toR U).length+1) rgT z):=by simp only[vU,h2];simp_all
     refine(RB (x':= .reg b (F5 L (.op (.rows 1 z) es)) z) (m:=hp1.m.set 0 (some (.reg (fill cs ((L.toR U).length*z) vs) ((L.toR U).length+1) rgT z))) B h1 (fun j hj=>by rw[Sa,PE hj]) (by rw[Sa,PG rfl]) ⟨rfl,h1,_,by rw[g],by rw[g,L2,p];exact f⟩).bind fun _ J M s3 S _ _ ⟨I,K,X⟩=>RE ⟨.pointer (some ⟨(L.toR U).length,0,some 1⟩),G.trans (by rw[X];rfl),?_⟩;have:=VD.rp (P:=P) (U:=U) (τ:=J) (F:=M) (z9 L) 0 (by rw[i9];omega);rw[show(z9 L).toN U=(L.toR U).length by show((z9 L).toI U).toNat=_;rw[i9];omega]at this;exact this
   exact RC
 exact RC
def Ge {t:Ax}{f:Ba}(j:P.info? t=some f){g:Nat}{row:E}(hb:s.get b=some (.cells l e g))(hf:fld<=l.length)(m:VD P U τ F (.ptr b 1 row fld) v)(hv:VDL P U τ F vs x.cells.toList)(hx:x.cells.toList.length=f.size)(p:x.cells.toList.all Value.oneCell'=true)(hs:SD P U τ F s hp):OKh P U (Bt U b l e g row fld vs) τ F s hp fun a _ _ hp'=>a= .tup []/\T8 P hp t v x=some hp':=by unfold Bt;exact RC
theorem IS {t:Ax}{a b:SV}(q:VD P U τ F a v)(hb:VD P U τ F b x)(hs:SD P U τ F s hp):OKh P U (Gc P U t a b) τ F s hp fun c _ _ hp'=>c= .tup []/\T8 P hp t v x=some hp':=by
 unfold Gc;split;exact RC
 ·rename_i J f;split;exact RC
  ·rename_i vs I;have hv:=bF hb I;cases hq:Nat.beq vs.length J.size&&vs.all vY with
   |false=>exact RC|true=>
    simp only[PB];simp only[Pk,Qc]at hq;obtain⟨A,C⟩:=hq;have hx:x.cells.toList.length=J.size:=by rw[<-hv.1];exact A
    have B:=CW hv C;split
    ·rename_i b' z row fld;refine RD ?_;split
     ·rename_i l e D g;split
      ·rename_i r;cases hq:decide (0<=r)&&Nat.ble (r.toNat*z+fld+vs.length) l.length with
       |false=>exact RC|true=>
        simp only[PB];simp only[Pk,PF,Qq]at hq;rcases hs.live b' _ g with⟨i,o,y,h1,h2,_,cs,n,rfl,h4,Y⟩| ⟨h1,X,e',D,Q,h2,h3,_⟩
        ·cases q with
         |ptr _ _ _ _ Z o' h h0=>
          rw[h1]at h;simp only[Pj,Pn]at h;obtain⟨rfl,rfl⟩:=h;have G:(E.int r).toN U=r.toNat:=rfl;have O:=oX f hx B h2 (o:=o+(E.int r).toN U*z+fld) (by rw[G,<-hx,<-hv.1];omega);refine(RB (x':= .cells (Q0 l (r.toNat*z+fld) vs) e D) (m:=hp.m.set i (some (.cells (fill cs (o+(E.int r).toN U*z+fld) x.cells.toList) n e D))) g h1 (fun j hj=>by rw[Sa,PE hj]) (by rw[Sa,PG rfl])
           ⟨_,n,rfl,?_,fun j c hc=>?_⟩ (by intro c _ _ c' k1 _ _ K n1 hg;cases k1;rw[h2]at hg;cases hg;exact⟨_,rfl,fun j hj=>by rw[l8,PE (by rw[G];have:=hv.1;omega)]⟩)).bind fun _ V W s3 N _ _ ⟨R,S,w3⟩=>RE ⟨rfl,?_⟩
          unfold Q0;simp;omega
          ·unfold Q0 at hc;rw[l8,G];by_cases hj:r.toNat*z+fld<=j/\j<r.toNat*z+fld+x.cells.toList.length
           ·rw[PG (by omega)];have p:(l.take (r.toNat*z+fld)).length=r.toNat*z+fld:=by grind
            rw[Py,Pt (by omega),Pu (by rw[p,hv.1];omega),p]at hc;obtain⟨w,R,S⟩:=hv.get hc;grind
           ·rw[PE (by omega)];by_cases H:j<r.toNat*z+fld;rw[Py,Pu (by simp;omega),PS,PG H]at hc;grind
            ·have p:(l.take (r.toNat*z+fld)).length=r.toNat*z+fld:=by simp;omega
             rw[Py,Pt (by omega),p,Pt (by rw[hv.1];omega),Qb]at hc;grind
          grind
        cases h2
      ·cases hq:Nat.beq z 1&& !Nat.beq D 1&&Nat.ble fld l.length with
       |true=>rw[PB];simp only[Pk,Qc,Qq]at hq;obtain⟨⟨rfl,_⟩,hf⟩:=hq;exact Ge f g hf q hv hx B hs
       |false=>rw[PC];refine(eS hs).bind fun _ τ1 F1 s1 hp1 ex hs1 ⟨p,L,M⟩=>?_;subst p;subst L;subst M;exact iJ f q hv hx B hs1
     exact iJ f q hv hx B hs;exact RC
    exact Gd f q hv hx B hs;exact RC
end
def Fb (e l h:E):E:=match e,l,h with
 | .str p,.int a,.int b=>.str ((p.take b.toNat).drop a.toNat)|e,l,h=>.op .ssub [e,l,h]
def P3 (x:Bb SV)(d:E):Bb E:=match x with
 |none=>some d|some (.int _ e)=>some e|some _=>none
def iZ :E->Bool
 | .int n=>decide (n=0)|_=>false
section
variable (P :Aw)(U:Ab)
def slen (t:Ax)(x:SV):M SV:=
 match P.underlying t,x with
 |some .string,.str e=>d9 (.int .i64 (aB e))|some (.array n _),_=>d9 (.int .i64 (.int n))|some (.slice _),.sl _ _ _ len _=>d9 (.int .i64 len)|some (.slice _),.lst _ L _=>d9 (.int .i64 (z9 L))|some (.slice _),.nils=>d9 (.int .i64 (.int 0))|some (.map _ _),.nilm=>d9 (.int .i64 (.int 0))|_,_=>a9 "len"
def scap (t:Ax)(x:SV):M SV:=
 match P.underlying t,x with
 |some (.slice _),.sl _ _ _ _ (.ex c)=>d9 (.int .i64 c)|some (.slice _),.lst _ L true=>d9 (.int .i64 (z9 L))|some (.slice _),.nils=>d9 (.int .i64 (.int 0))|some (.array n _),_=>d9 (.int .i64 (.int n))|_,_=>a9 "cap"
def U8 (l h top:E):M Unit:=b9 (j7 U (y4 (y6 l (.int 0)))) fun _=>b9 (j7 U (y4 (y6 h l))) fun _=>j7 U (y4 (y6 top h))
def wU (b z:Nat)(off l h c:E):M SV:=
 bif iZ l then d9 (.sl b z off h (.ex c))else
  b9 (eT U (E4 c l)) fun t=>bif t then d9 (.sl b z off (L6 h l) (.ex (L6 c l)))else d9 (.sl b z (y0 off l) (L6 h l) (.ex (L6 c l)))
def NH (e b z:Nat)(off len l h:E):M SV:=
 bif iZ l then d9 (.sl b z off h .ge)else
  b9 (eT U (y6 l len)) fun t=>u4 fun s=>match s.get b with
   | some (.rows L e' z' _) => bif Nat.beq e e' && Nat.beq z z' then
     (bif t then d9 (.sl b z (y0 off l) (L6 h l) .ge)else
      b9 (j7 U (y4 (y6 (z9 L) (y0 off len)))) fun _=>b9 (hJ b none) fun _=>d9 (.lst e (.op .nil []) false))
    else a9 "slice: type"
   |some (.cells _ e' z')=>bif Nat.beq e e'&&Nat.beq z z'&&t then d9 (.sl b z (y0 off l) (L6 h l) .ge)else a9 "slice: cells"|_=>a9 "slice: no block"
def Gb (t:Ax)(x:SV)(lo hi mx:Bb SV):M SV:=
 match P.underlying t with
 |some .string=>match x,mx with
  | .str e,none=>match P3 lo (.int 0),P3 hi (aB e)with
   |some l,some h=>b9 (U8 U l h (aB e)) fun _=>d9 (.str (Fb e l h))
   |_,_=>a9 "slice: bounds"
  |_,_=>a9 "slice: string"
 |some (.slice e)=>match P.info? e with
  |none=>a9 "slice: type"|some ie=>match x with
   | .nils=>match P3 lo (.int 0),P3 hi (.int 0),mx with
    |some l,some h,none=>b9 (U8 U l h (.int 0)) fun _=>d9 .nils
    |some l,some h,some m=>match P3 (some m) (.int 0),hi with
     |some m,some _=>b9 (U8 U l h m) fun _=>b9 (j7 U (y4 (y6 (.int 0) m))) fun _=>d9 .nils
     |_,_=>a9 "slice: bounds"
    |_,_,_=>a9 "slice: bounds"
   | .sl b z off len cap => bif Nat.beq z ie.size then
     match P3 lo (.int 0),P3 hi len,mx with
     |some l,some h,none=>match cap with
      | .ex c=>b9 (U8 U l h c) fun _=>wU U b z off l h c
      | .ge=>b9 (U8 U l h len) fun _=>NH U e b z off len l h
      | .un=>a9 "slice: room"
     |some l,some h,some m=>match P3 (some m) (.int 0),hi with
      |some m,some _=>b9 (U8 U l h m) fun _=>b9 (j7 U (y4 (y6 (match cap with| .ex c=>c|_=>len) m))) fun _=>wU U b z off l h m
      |_,_=>a9 "slice: bounds"
     |_,_,_=>a9 "slice: bounds"
    else a9 "slice: size"
   | .lst e' L clip => bif Nat.beq e e' && Nat.beq ie.size (kf P e).length then
     match P3 lo (.int 0),P3 hi (z9 L),mx with
     |some l,some h,none=>b9 (U8 U l h (z9 L)) fun _=>b9 (U5 U L l (L6 h l)) fun c=>d9 (.lst e' c (clip&&hi.isNone))
     |some l,some h,some m=>match P3 (some m) (.int 0),hi with
      | some m, some _ => b9 (U8 U l h m) fun _ => b9 (j7 U (y4 (y6 (z9 L) m))) fun _ => b9 (bif clip then d9 () else j7 U (y6 (.int 0) (z9 L))) fun _ =>
        b9 (U5 U L l (L6 h l)) fun c=>bif E.like h m then b9 (j7 U (E4 h m)) fun _=>d9 (.lst e' c true)else d9 (.lst e' c false)
      |_,_=>a9 "slice: bounds"
     |_,_,_=>a9 "slice: bounds"
    else a9 "slice: list"
   |_=>a9 "slice: value"
 |_=>a9 "slice: type"
end
section
variable {P :Aw}{U:Ab}{τ:Tau}{F:Ac}{s:SS}{hp:Hp}
variable {v:Av}
theorem O6 {t:Ax}{w:Av}(h:qJ P t v=some w)(hm:∀i,v≠ .map (some i)):Z4 hp P t v=some w:=by unfold Z4;grind
def PV.slice {e:Ax}{d:Dat}(h:PV P F (.sl e) v d):∃a c,v= .slice a d.rows.length c:=by cases h<;>exact⟨_,_,rfl⟩
theorem MV {t:Ax}{a:SV}(f:VD P U τ F a v):OKp U (slen P t a) s fun b=>∃w,Z4 hp P t v=some w/\VD P U τ F b w:=by
 unfold slen;split;rename_i e ht;cases f;refine RL ⟨.int .i64 ((e.den U).toStr.length:Nat),O6 ?_ (fun i h=>by grind),Se (N4 e)⟩;simp[qJ,ht];rename_i _ _ _ n e ht;refine RL ⟨.int .i64 (n:Nat),?_,Se rfl⟩;unfold Z4;split;grind;simp only[qJ,ht]
 ·rename_i e' b z off len cap ht;cases f with
  |sl _ _ _ _ _ i o c h h0 h1 hc=>refine RL ⟨.int .i64 (len.toN U:Nat),O6 ?_ (fun i h=>by grind),Se (by grind)⟩;simp[qJ,ht]|sl0 _ _ _ _ _ h h0 h1 hc=>refine RL ⟨.int .i64 0,O6 ?_ (fun i h=>by grind),Se h1⟩;simp[qJ,ht]
 ·rename_i e' g L clip ht;cases f with
  |lst _ _ _ _ h hc=>obtain⟨a,c,rfl⟩:=h.slice;refine RL ⟨.int .i64 ((L.toR U).length:Nat),O6 ?_ (fun i h=>by grind),Se (i9 L)⟩;simp only[qJ,ht];rfl
 rename_i e' ht;cases f;refine RL ⟨.int .i64 0,O6 ?_ (fun i h=>by grind),Se rfl⟩;simp[qJ,ht];rename_i k' e' ht;cases f;refine RL ⟨.int .i64 0,O6 ?_ (fun i h=>by grind),Se rfl⟩;simp[qJ,ht];exact RG
theorem GN {e:Ax}{a:Aq}{l:Nat}{d:Dat}(h:PV P F (.sl e) (.slice a l l) d):a=none\/l<unk:=by
 cases h with
 |nils=>grind|sl _ i o c b cs n z rows x hF hb hc hn hz hr hx hp=>right;rcases hc.1 with⟨h,_⟩| ⟨lo,h1,h2,h3⟩;exact h;have:=u9 lo 0;unfold unk at*;omega
theorem MR {t:Ax}{a:SV}(f:VD P U τ F a v):OKp U (scap P t a) s fun b=>∃w,mM P t v=some w/\VD P U τ F b w:=by
 unfold scap;split
 ·rename_i e' b z off len c ht;cases f with
  |sl _ _ _ _ _ i o c' h h0 h1 hc=>
   obtain⟨k1,k2,k3,g⟩:=hc;refine RL ⟨.int .i64 (c':Nat),?_,Se (by grind)⟩;have:Nat.ble unk c'=false:=by
    cases hb:Nat.ble unk c' with
    |false=>rfl|true=>simp_all;omega
   simp only[mM,ht,this,PC]
  |sl0 _ _ _ _ _ h h0 h1 hc=>refine RL ⟨.int .i64 0,?_,Se (hc c rfl)⟩;simp[mM,ht]
 ·rename_i e' j L ht;cases f with
  |lst _ _ _ _ h hc=>
   obtain⟨a,l,rfl⟩:=hc rfl;have hl:=h.len;refine RL ⟨.int .i64 (l:Nat),?_,Se (by rw[i9,hl];rfl)⟩;rcases GN h with rfl|hlt;simp only[mM,ht]
   ·cases a with
    |none=>simp only[mM,ht]|some a=>
     have:Nat.ble unk l=false:=by
      cases hb:Nat.ble unk l with
      |false=>rfl|true=>simp_all;omega
     simp only[mM,ht,this,PC]
 rename_i e' ht;cases f;refine RL ⟨.int .i64 0,?_,Se rfl⟩;simp[mM,ht];rename_i _ _ _ n e' ht;refine RL ⟨.int .i64 (n:Nat),?_,Se rfl⟩;simp only[mM,ht];exact RG
def OVD (P:Aw)(U:Ab)(τ:Tau)(F:Ac):Bb SV->Ag->Prop
 |none,none=>True|some a,some v=>VD P U τ F a v|_,_=>False
def K2 {l h top:E}:OKp U (U8 U l h top) s fun _=>0<=l.toI U/\l.toI U<=h.toI U/\h.toI U<=top.toI U:=by exact OKp.need.bind fun _ _ _ _ h1=>OKp.need.bind fun _ _ _ _ h2=>OKp.need.mono fun _ h3=>⟨U9 h1,z5 h2,z5 h3⟩
theorem kV {x:Bb SV}{v:Ag}(h:OVD P U τ F x v){d e:E}(he:P3 x d=some e):(v=none/\e=d)\/ ∃k,v=some (.int k (e.toI U)):=by
 unfold P3 at he;split at he
 ·simp at he;cases v with
  |none=>grind|some v=>exact h.elim
 ·simp at he;subst he;cases v with
  |none=>exact h.elim|some v=>have:=h;cases this;exact .inr ⟨_,rfl⟩
 grind
theorem bJ {k:IntKind}{n:Int}{y:Nat}(h0:0<=n)(h1:n<=y):I6 (.int k n) y=some n.toNat:=by show(bif decide (0<=n)&&decide (n<=(y:Int))then some n.toNat else none)=some n.toNat;grind
variable {hi lo:Bb SV}{vhi vlo:Ag}
theorem H8 (j:OVD P U τ F lo vlo)(f:OVD P U τ F hi vhi){l h dl m:E}(r:P3 lo dl=some l)(p:P3 hi m=some h){len g:Nat}(h1:0<=l.toI U)(h2:l.toI U<=h.toI U)(h3:h.toI U<=g)(A:dl.toI U=0)(z:hi=none->h.toN U=len):A4 len g vlo vhi none=some (l.toN U,h.toN U,none):=by
 have q:(match vhi with|some v=>I6 v g|none=>some len)=some (h.toN U):=by
  rcases kV f p with⟨rfl,rfl⟩| ⟨k,rfl⟩
  ·cases hi with
   |none=>grind|some x=>exact f.elim
  exact bJ (by omega) h3
 have w:(match vlo with|some v=>I6 v (h.toN U)|none=>some 0)=some (l.toN U):=by rcases kV j r with⟨rfl,rfl⟩| ⟨k,rfl⟩;grind;exact bJ h1 (by grind)
 unfold A4;grind
theorem Q3 {mx:SV}{g:Av}(p:OVD P U τ F lo vlo)(f:OVD P U τ F hi vhi)(q:VD P U τ F mx g){l h m dl r w:E}(B:P3 lo dl=some l)(z:P3 hi r=some h)(D:P3 (some mx) w=some m){len j:Nat}(h1:0<=l.toI U)(h2:l.toI U<=h.toI U)(h3:h.toI U<=m.toI U)(h4:m.toI U<=j)(H:dl.toI U=0)(hh:hi≠none):A4 len j vlo vhi (some g)=some (l.toN U,h.toN U,some (m.toN U)):=by
 have G:I6 g j=some (m.toN U):=by rcases kV (x:=some mx) (v:=some g) q D with⟨e,_⟩| ⟨k,e⟩;cases e;cases e;exact bJ (by omega) h4
 have A:∃v,vhi=some v/\I6 v (m.toN U)=some (h.toN U):=by
  rcases kV f z with⟨rfl,rfl⟩| ⟨k,rfl⟩
  ·cases hi with
   |none=>grind|some x=>exact f.elim
  exact⟨_,rfl,bJ (by omega) (by grind)⟩
 have C:(match vlo with|some v=>I6 v (h.toN U)|none=>some 0)=some (l.toN U):=by rcases kV p B with⟨rfl,rfl⟩| ⟨k,rfl⟩;grind;exact bJ h1 (by grind)
 unfold A4;grind
def xE {e:E}(h:iZ e=true):e.toI U=0:=by unfold iZ at h;split at h;exact QN h;cases h
def cV {a b:E}(h0:0<=b.toI U):(L6 a b).toN U=a.toN U-b.toN U:=by show((L6 a b).toI U).toNat=(a.toI U).toNat-(b.toI U).toNat;rw[v7];omega
def mJ {a b:E}(h0:0<=a.toI U)(h1:0<=b.toI U):(y0 a b).toN U=a.toN U+b.toN U:=by show((y0 a b).toI U).toNat=(a.toI U).toNat+(b.toI U).toNat;rw[j5];omega
variable {b:Nat}
def VD.sl' {z i o c n a:Nat}{off len:E}{cap:Cp}(h:τ b=some (some (i,o)))(h0:0<=off.toI U)(h1:0<=len.toI U)(hc:kR U len cap c)(f:a=o+off.toN U*z)(hn:n=len.toN U):VD P U τ F (.sl b z off len cap) (.slice (some ⟨i,a,none⟩) n c):=by subst f;subst hn;exact .sl b z off len cap i o c h h0 h1 hc
def Sf:type_of% @VD.sl':=@VD.sl'
theorem eJ {z i o:Nat}{off l h c:E}(f:τ b=some (some (i,o)))(h0:0<=off.toI U)(h1:0<=l.toI U)(h2:l.toI U<=h.toI U)(h3:h.toI U<=c.toI U)(p:c.toN U<unk){a:Nat}(j:a=o+off.toN U*z):OKp U (wU U b z off l h c) s fun x=>VD P U τ F x (bif Nat.beq (c.toN U) (l.toN U)then .slice (some ⟨i,a,none⟩) (h.toN U-l.toN U) (c.toN U-l.toN U)else .slice (some ⟨i,a+l.toN U*z,none⟩) (h.toN U-l.toN U) (c.toN U-l.toN U)):=by
 subst j;unfold wU;have g:kR U (L6 h l) (.ex (L6 c l)) (c.toN U-l.toN U):=by refine⟨by rw[v7];omega,by rw[cV h1],by omega,?_⟩;rw[v7,v7];omega
 cases hz:iZ l with
 |true=>
  have hl:=xE (U:=U) hz;have m:l.toN U=0:=by grind
  refine RL ?_;have hv:VD P U τ F (.sl b z off h (.ex c)) (.slice (some ⟨i,o+off.toN U*z,none⟩) (h.toN U-0) (c.toN U-0)):=Sf f h0 (by omega) ⟨by omega,by omega,by omega,h3⟩ rfl (by omega);grind
 |false=>
  simp only[PC];refine OKp.test.bind fun t _ _ _ ht=>?_;rw[E0]at ht;cases t with
  |true=>simp at ht;refine RL ?_;rw[w9 (by grind),PB];exact Sf f h0 (by rw[v7];omega) g rfl (by rw[cV h1])|false=>simp at ht;refine RL ?_;rw[y7 (by grind),PC];exact Sf f (by rw[j5];omega) (by rw[v7];omega) g (by rw[mJ h0 h1,PY];omega) (by rw[cV h1])
theorem wV {z:Nat}{off l h c:E}(f:τ b=some none)(h0:off.toI U=0)(h1:0<=l.toI U)(h2:l.toI U<=h.toI U)(h3:h.toI U<=c.toI U)(h4:c.toI U<=0):OKp U (wU U b z off l h c) s fun x=>VD P U τ F x (.slice none 0 0):=by
 unfold wU;cases hz:iZ l with
 |true=>exact RL (.sl0 b z off h (.ex c) f h0 (by omega) (by grind))|false=>
  simp only[PC];refine OKp.test.bind fun t _ _ _ ht=>?_;have hs:(L6 h l).toI U=0:=by rw[v7];omega
  have hc:∀e,Cp.ex (L6 c l)= .ex e->e.toI U=0:=fun e he=>by cases he;rw[v7];omega
  cases t with
  |true=>exact RL (.sl0 b z off _ _ f h0 hs hc)|false=>exact RL (.sl0 b z _ _ _ f (by rw[j5];omega) hs hc)
end
section
variable {P :Aw}{U:Ab}{τ:Tau}{F:Ac}{s:SS}{hp:Hp}
variable {n:Nat}
def rF (h:n<=67108864):n<unk:=by unfold unk;omega
variable {a:Nat}
theorem Y2 {b:Nat}(h:b<a):Nat.ble a b=false:=by
 cases hb:Nat.ble a b with
 |false=>rfl|true=>simp_all;omega
def rP (lo:Nat):O1 (d8 lo 0)=lo:=I7 G7
def Cu (lo:Nat):E8 (d8 lo 0)=0:=H5 G7
def Fc (e l h:E):((Fb e l h).den U).toStr=((e.den U).toStr.take (h.toN U)).drop (l.toN U):=by unfold Fb;split<;>rfl
variable (P U) in
def GE (hp:Hp)(t:Ax)(v:Av)(lo hi mx:Ag)(c:SV)(τ:Tau)(F:Ac)(hp':Hp):Prop:=hp'=hp/\ ∃w,v8 P hp t v lo hi mx=some (w,hp)/\VD P U τ F c w
variable {v:Av}{lo mx:Ag}
def OKp.slice {m:M SV}{t:Ax}{hi:Ag}(h:OKp U m s fun c=>∃w,v8 P hp t v lo hi mx=some (w,hp)/\VD P U τ F c w):OKh P U m τ F s hp (GE P U hp t v lo hi mx):=
 (h.up).mono fun _ _ _ _ _ _ ⟨f,g,j,h⟩=>by subst f;subst g;subst j;exact⟨rfl,h⟩
def RM:type_of% @OKp.slice:=@OKp.slice
variable {h i l:Nat}{hi':Ag}
theorem bM {t e:Ax}{ie:Ba}(ht:P.underlying t=some (.slice e))(hi:P.info? e=some ie){len cap:Nat}(f:cap<unk)(hl:len<=cap){m:Ai}(hb:A4 len cap lo hi' mx=some (l,h,m)):v8 P hp t (.slice (some ⟨i,a,none⟩) len cap) lo hi' mx=some (bif Nat.beq (m.getD cap) l then .slice (some ⟨i,a,none⟩) (h-l) (m.getD cap-l)else .slice (some ⟨i,a+l*ie.size,none⟩) (h-l) (m.getD cap-l),hp):=by simp only[v8,ht,hi];rw[Y2 f,PC,Ps hl,PB,hb];grind
theorem kE {t e:Ax}{ie:Ba}(ht:P.underlying t=some (.slice e))(hi:P.info? e=some ie){len f:Nat}(g:f<=67108864)(hl:len<=67108864){m:Nat}(hb:A4 len (Nat.max f len) lo hi' mx=some (l,h,some m)):v8 P hp t (.slice (some ⟨i,a,none⟩) len (d8 f 0)) lo hi' mx=some (bif Nat.beq m l then .slice (some ⟨i,a,none⟩) (h-l) (m-l)else .slice (some ⟨i,a+l*ie.size,none⟩) (h-l) (m-l),hp):=by simp only[v8,ht,hi];rw[Ps (u9 f 0),PB,rP,Ps (Nat.max_le.2 ⟨g,hl⟩),PB,hb];grind
def dG {t e:Ax}{ie:Ba}(ht:P.underlying t=some (.slice e))(hi:P.info? e=some ie){len f:Nat}(g:f<=67108864)(hl:len<=67108864)(hb:A4 len (Nat.max f len) lo hi' none=some (l,h,none)):v8 P hp t (.slice (some ⟨i,a,none⟩) len (d8 f 0)) lo hi' none=bif Nat.beq l 0 then some (.slice (some ⟨i,a,none⟩) h (d8 (Nat.max f len) 0),hp)else bif Nat.beq l (Nat.max f len)then some (.slice (some ⟨0,0,some 0⟩) 0 unk,hp)else match hp.m.get i with
    |some (.cells _ _ _ j)=>bif Nat.beq j ie.size then some (.slice (some ⟨i,a+l*ie.size,none⟩) (h-l) (d8 (Nat.max f len-l) (0-l)),hp)else none|_=>none:=by
 simp only[v8,ht,hi];rw[Ps (u9 f 0),PB,rP,Cu,Ps (Nat.max_le.2 ⟨g,hl⟩),PB,hb];rfl
theorem K7 {t e:Ax}{ie:Ba}(ht:P.underlying t=some (.slice e))(hi:P.info? e=some ie){r:Nat×Nat×Ai}(hb:A4 0 0 lo hi' mx=some r):v8 P hp t (.slice none 0 0) lo hi' mx=some (.slice none 0 0,hp):=by simp only[v8,ht,hi];simp_all
def Cc {t e:Ax}{ie:Ba}(ht:P.underlying t=some (.slice e))(hi:P.info? e=some ie)(hb:A4 0 0 lo hi' none=some (l,h,none)):v8 P hp t (.slice (some ⟨0,0,some 0⟩) 0 unk) lo hi' none=some (.slice (some ⟨0,0,some 0⟩) 0 unk,hp):=by simp only[v8,ht,hi];rw[hb]
def aX {b:Nat}(h:a<=n)(k:b<=n):Nat.max a b<=n:=Nat.max_le.2 ⟨h,k⟩
def W8 (a b:Nat):b<=Nat.max a b:=QF a b
variable {cs:Ao}
theorem PV.cut {e c z zb:Nat}{b:Blk}{rows:Rows}{x:Nat->Nat->Av}(hF:F i=some b)(hb:arr b=some (cs,n,zb))(hn:a+rows.length*z<=n)(hz:z=(kf P e).length)(hr:∀r∈rows,r.length=z)(hx:∀(r k:Nat) (row:Ar) (d:Dat),rows[r]? =some row->row[k]? =some d->cs.get (a+r*z+k)=some (x r k))(hp:∀(r k:Nat) (row:Ar) (kd:Kd) (d:Dat),rows[r]? =some row->row[k]? =some d->(kf P e)[k]? =some kd->PV P F kd (x r k) d){l len:Int}(h0:0<=l)(h1:0<=len)(h2:l+len<=rows.length)(hc:wR len.toNat c/\roC b c zb z):PV P F (.sl e) (.slice (some ⟨i,a+l.toNat*z,none⟩) len.toNat c) (.lst (pQ rows l len)):=by
 have hl:=S8 h0 h1 h2;have:=PV.sl e i (a+l.toNat*z) c b cs n z (pQ rows l len) (fun r k=>x (l.toNat+r) k) hF hb (by grind)
  (by rw [hl]
      have:l.toNat*z+len.toNat*z<=rows.length*z:=by rw[<-PY];exact Px z (by omega)
      omega) hz (fun r h=>hr r (QU (QT h)))
  (fun r k row d h1 h2=>by rw[<-hx _ k row d (fC h1) h2];congr 1;rw[PY];omega) (fun r k row kd d h1 h2 h3=>hp _ k row kd d (fC h1) h2 h3)
 grind
theorem PV.cut0 {e c z zb:Nat}{b:Blk}(hF:F i=some b)(hb:arr b=some (cs,n,zb))(hn:a<=n)(hz:z=(kf P e).length)(hc:wR 0 c/\roC b c zb z):PV P F (.sl e) (.slice (some ⟨i,a,none⟩) 0 c) (.lst []):=
 PV.sl e i a c b cs n z [] (fun _ _=>undef) hF hb hc (by grind) hz (fun r h=>by grind) (by grind) (by grind)
theorem O3 {rows:Rows}{l len:Int}(h:len<=0):pQ rows l len=[]:=by unfold pQ;simp_all
variable {hi:Bb SV}{vhi vlo:Ag}
theorem It {t e:Ax}{ie:Ba}(ht:P.underlying t=some (.slice e))(r:P.info? e=some ie)(J:ie.size=(kf P e).length)(H:∀i b,F i=some b->hp.m.get i=some b){rows:Rows}(hv:PV P F (.sl e) v (.lst rows)){lo:Bb SV}(B:OVD P U τ F lo vlo)(q:OVD P U τ F hi vhi){l h S:E}(L:P3 lo (.int 0)=some l)(D:P3 hi S=some h)(ac:S.toI U=rows.length)(h1:0<=l.toI U)(h2:l.toI U<=h.toI U)(h3:h.toI U<=rows.length):∃w,v8 P hp t v vlo vhi none=some (w,hp)/\PV P F (.sl e) w (.lst (pQ rows (l.toI U) (h.toI U-l.toI U)))/\((∃a n,v= .slice a n n)->hi=none-> ∃a n,w= .slice a n n):=by
 have A:hi=none->h.toN U=rows.length:=fun hn=>by subst hn;simp only[P3,Pj]at D;grind
 have ab:l.toI U=((l.toN U:Nat):Int):=by grind
 have aa:h.toI U=((h.toN U:Nat):Int):=by grind
 have T:(h.toI U-l.toI U).toNat=h.toN U-l.toN U:=by omega
 cases hv with
 |nils=>simp only[Rm]at h3;refine⟨.slice none 0 0,K7 ht r (H8 B q L D h1 h2 h3 rfl A),?_,fun _ _=>⟨_,_,rfl⟩⟩;rw[O3 (by omega)];exact .nils e|vague=>simp only[Rm]at h3;refine⟨_,Cc ht r (H8 B q L D h1 h2 h3 rfl A),?_,fun⟨a,n,e⟩ _=>?_⟩;rw[O3 (by omega)];exact .vague e;cases e
 |sl _ i o c b cs n z _ x hF hb hc hn hz hr hx hp'=>
  have hg:=H i b hF;obtain⟨hc,p⟩:=hc;rcases hc with⟨X,K⟩| ⟨j,rfl,K,R⟩;have f:=bM (hp:=hp) (i:=i) (a:=o) ht r X K (H8 B q L D h1 h2 (by omega) rfl A);simp only[Option.getD_none]at f;refine⟨_,f,?_,fun⟨a,m,M⟩ ad=>?_⟩;by_cases G:c=l.toN U;rw[w9 G,PB,O3 (by omega),show h.toN U-l.toN U=0 by omega];exact PV.cut0 hF hb (by omega) hz ⟨.inl ⟨by omega,by omega⟩,fun _=>by omega,p.2⟩;rw[y7 G,PC,<-T,J,<-hz];exact PV.cut (l:=l.toI U) hF hb hn hz hr hx hp' h1 (by omega) (by omega) ⟨.inl ⟨by omega,by omega⟩,fun _=>by omega,p.2⟩;grind
  ·have Q:bY b=false:=by
    cases h:bY b with
    |false=>rfl|true=>have h1:=p.1 h;have h2:=u9 j 0;omega
   have V:=W8 j rows.length;have O:=aX K R;have f:=dG (hp:=hp) (i:=i) (a:=o) ht r K R (H8 B q L D h1 h2 (show h.toI U<=((Nat.max j rows.length:Nat):Int) by omega) rfl A);have g:(∃a n,Value.slice (some ⟨i,o,none⟩) rows.length (d8 j 0)= .slice a n n)->False:=fun⟨a,m,M⟩=>by have hge:=u9 j 0;simp only[Value.slice.injEq]at M;obtain⟨_,Z,e3⟩:=M;unfold unk at hge;omega
   by_cases C:l.toN U=0;rw[w9 C,PB]at f;refine⟨_,f,?_,fun h _=>(g h).elim⟩;have:=PV.cut hF hb hn hz hr hx hp' h1 (show 0<=h.toI U-l.toI U by omega) (by omega) ⟨.inr ⟨_,rfl,O,by omega⟩,fun h=>(by grind),p.2⟩;grind
   ·by_cases I:l.toN U=Nat.max j rows.length;rw[y7 C,PC,w9 I,PB]at f;refine⟨_,f,?_,fun h _=>(g h).elim⟩;rw[O3 (by omega)];exact .vague e
    ·rw[y7 C,PC,y7 I,PC,hg]at f;cases b with
     |cells Y n2 Z W=>simp only[arr,rdC,Pj,Pn]at hb;obtain⟨rfl,rfl,rfl⟩:=hb;have N:W=z:=p.2 rfl;subst N;simp only[w9 (show W=ie.size by omega),PB,Nat.zero_sub]at f;refine⟨_,f,?_,fun h _=>(g h).elim⟩;rw[<-T,J,<-hz];exact PV.cut (l:=l.toI U) hF rfl hn hz hr hx hp' h1 (by omega) (by omega) ⟨.inr ⟨_,rfl,by omega,by omega⟩,.mk⟩
     |ro=>cases Q
     |_=>simp[arr,rdC]at hb
theorem Iu {t e:Ax}{ie:Ba}(ht:P.underlying t=some (.slice e))(g:P.info? e=some ie)(I:ie.size=(kf P e).length){rows:Rows}(hv:PV P F (.sl e) v (.lst rows))(H:rows≠ []\/ ∃a n,v= .slice a n n){lo:Bb SV}{mx:SV}{M:Av}(j:OVD P U τ F lo vlo)(f:OVD P U τ F hi vhi)(p:VD P U τ F mx M){l h m Q R:E}(C:P3 lo (.int 0)=some l)(B:P3 hi Q=some h)(D:P3 (some mx) R=some m)(hh:hi≠none)(h1:0<=l.toI U)(h2:l.toI U<=h.toI U)(h3:h.toI U<=m.toI U)(h4:m.toI U<=rows.length):∃w,v8 P hp t v vlo vhi (some M)=some (w,hp)/\PV P F (.sl e) w (.lst (pQ rows (l.toI U) (h.toI U-l.toI U)))/\(h.toI U=m.toI U-> ∃a n,w= .slice a n n):=by
 have V:l.toI U=((l.toN U:Nat):Int):=by grind
 have T:h.toI U=((h.toN U:Nat):Int):=by grind
 have W:m.toI U=((m.toN U:Nat):Int):=by grind
 have S:(h.toI U-l.toI U).toNat=h.toN U-l.toN U:=by omega
 have G:∀ {i o:Nat},h.toI U=m.toI U-> ∃a n,(bif Nat.beq (m.toN U) (l.toN U)then Value.slice (some ⟨i,o,none⟩) (h.toN U-l.toN U) (m.toN U-l.toN U)else .slice (some ⟨i,o+l.toN U*ie.size,none⟩) (h.toN U-l.toN U) (m.toN U-l.toN U))= .slice a n n:=by
  intro i o Y;have:h.toN U=m.toN U:=by omega
  rw[this];cases Nat.beq (m.toN U) (l.toN U)<;>exact⟨_,_,rfl⟩
 cases hv with
 |nils=>simp only[Rm]at h4;refine⟨.slice none 0 0,K7 ht g (Q3 j f p C B D h1 h2 h3 h4 rfl hh),?_,fun _=>⟨_,_,rfl⟩⟩;rw[O3 (by omega)];exact .nils e|vague=>rcases H with h| ⟨a,n,e⟩;grind;cases e
 |sl _ i o c b cs n z _ x hF hb hc hn hz hr hx hp'=>
  obtain⟨hc,r⟩:=hc;have J:PV P F (.sl e) (bif Nat.beq (m.toN U) (l.toN U)then Value.slice (some ⟨i,o,none⟩) (h.toN U-l.toN U) (m.toN U-l.toN U)else .slice (some ⟨i,o+l.toN U*ie.size,none⟩) (h.toN U-l.toN U) (m.toN U-l.toN U)) (.lst (pQ rows (l.toI U) (h.toI U-l.toI U)))\/ ¬m.toN U<unk:=by by_cases Z:m.toN U<unk;left;by_cases q:m.toN U=l.toN U;rw[w9 q,PB,O3 (by omega),show h.toN U-l.toN U=0 by omega];exact PV.cut0 hF hb (by omega) hz ⟨.inl ⟨by omega,by omega⟩,fun _=>by omega,r.2⟩;rw[y7 q,PC,<-S,I,<-hz];exact PV.cut (l:=l.toI U) hF hb hn hz hr hx hp' h1 (by omega) (by omega) ⟨.inl ⟨by omega,by omega⟩,fun _=>by omega,r.2⟩;grind
  rcases hc with⟨N,A⟩| ⟨K,rfl,A,O⟩;have X:=bM (hp:=hp) (i:=i) (a:=o) ht g N A (Q3 j f p C B D h1 h2 h3 (by omega) rfl hh);grind;have L:=W8 K rows.length;exact⟨_,(kE (hp:=hp) (i:=i) (a:=o) ht g A O (Q3 j f p C B D h1 h2 h3 (by omega) rfl hh)),J.resolve_right (fun h=>h (rF (by omega))),G⟩
def IR {t:Ax}{a:SV}{lo mx:Bb SV}{I:Ag}(V:VD P U τ F a v)(p:OVD P U τ F lo vlo)(j:OVD P U τ F hi vhi)(B:OVD P U τ F mx I)(hs:SD P U τ F s hp):OKh P U (Gb P U t a lo hi mx) τ F s hp (GE P U hp t v vlo vhi I):=by
 unfold Gb;split
 ·
  rename_i ht;split
  ·rename_i e;cases I with
   |some v=>exact B.elim|none=>split;rename_i l h D q;refine RM (K2.bind fun _ _ _ _ hb=>RL ?_);obtain⟨h1,h2,h3⟩:=hb;rw[N4]at h3;cases V;refine⟨.string ⟨(((e.den U).toStr.take (h.toN U)).drop (l.toN U)).toArray⟩,?_,VD.str' (Fc e l h)⟩;simp only[v8,ht];rw[H8 p j D q h1 h2 h3 rfl (fun hn=>by subst hn;simp only[P3,Pj]at q;subst q;show((aB e).toI U).toNat=_;rw[N4];omega)];exact RC
  exact RC
 ·rename_i e ht;split;exact RC
  ·rename_i ie r;split
   ·
    cases V;split
    ·rename_i l h D q;cases I with
     |some v=>exact B.elim|none=>refine RM (K2.bind fun _ _ _ _ hb=>RL ⟨.slice none 0 0,?_,.nils⟩);obtain⟨h1,h2,h3⟩:=hb;refine K7 ht r (H8 p j D q h1 h2 h3 rfl (fun hn=>?_));subst hn;simp only[P3,Pj]at q;subst q;rfl
    ·rename_i l h m' D q;cases I with
     |none=>exact B.elim|some vm=>split;rename_i m x T;refine RM (K2.bind fun _ _ _ _ hb=>OKp.need.bind fun _ _ _ _ hm=>RL ⟨.slice none 0 0,?_,.nils⟩);obtain⟨h1,h2,h3⟩:=hb;have hm:=z5 hm;exact K7 ht r (Q3 p j B D q T h1 h2 h3 hm rfl (by simp));exact RC
    exact RC
   ·
    rename_i b z off len cap;cases hz:Nat.beq z ie.size with
    |false=>exact RC|true=>
     simp only[PB];have H:z=ie.size:=Pq hz;split
     ·rename_i l h D q;cases I with
      |some v=>exact B.elim|none=>
       split
       ·
        rename_i c;refine RA K2 fun _ s1 _ hs1 hb=>RM ?_;obtain⟨h1,h2,h3⟩:=hb;cases V with
        |sl _ _ _ _ _ i o c' f h0 G hc=>
         obtain⟨J,S,X,c4⟩:=hc;subst S;refine(eJ f h0 h1 h2 h3 X rfl).mono fun x hx=>⟨_,?_,hx⟩
         rw[bM ht r X (show len.toN U<=c.toN U by show(len.toI U).toNat<=(c.toI U).toNat;omega)
          (H8 p j D q h1 h2 (show h.toI U<=((c.toN U:Nat):Int) by show h.toI U<=(((c.toI U).toNat:Nat):Int);omega) rfl (fun hn=>by subst hn;simp only[P3,Pj]at q;subst q;rfl))]
         subst H;rfl
        |sl0 _ _ _ _ _ f h0 G hc=>
         have hc:=hc c rfl;refine(wV f h0 h1 h2 h3 (by omega)).mono fun x hx=>⟨_,?_,hx⟩
         refine K7 ht r (H8 p j D q h1 h2 (by omega) rfl (fun hn=>?_));subst hn;simp only[P3,Pj]at q;subst q;show(len.toI U).toNat=0;omega
       ·
        refine RA K2 fun _ s1 o1 hs1 hb=>?_;obtain⟨h1,h2,h3⟩:=hb;have M:hi=none->h.toN U=len.toN U:=fun hn=>by subst hn;simp only[P3,Pj]at q;subst q;rfl
        unfold NH;cases ax:iZ l with
        |true=>
         have hl:=xE (U:=U) ax;have ap:l.toN U=0:=by show(l.toI U).toNat=0;rw[hl];rfl
         refine RM (RL ?_);cases V with
         |sl _ _ _ _ _ i o c' f h0 G hc=>
          obtain⟨g,rfl,J,S⟩:=hc;have A:len.toN U<=67108864:=by show(len.toI U).toNat<=_;omega
          have W:=aX J A;have hb:=H8 p j D q h1 h2 (show h.toI U<=((Nat.max g (len.toN U):Nat):Int) by
           have:=W8 g (len.toN U);have e1:len.toI U=((len.toN U:Nat):Int):=by show len.toI U=((len.toI U).toNat:Int);omega
           omega) rfl M
          refine⟨_,by rw[dG ht r J A hb,ap,w9 rfl,PB],?_⟩;exact Sf f h0 (by omega) ⟨Nat.max g (len.toN U),rfl,by omega,by omega⟩ rfl rfl
         |sl0 _ _ _ _ _ f h0 G hc=>refine⟨.slice none 0 0,K7 ht r (H8 p j D q h1 h2 (by omega) rfl (fun hn=>by rw[M hn];show(len.toI U).toNat=0;omega)),?_⟩;exact .sl0 b z off h .ge f h0 (by omega) (fun e he=>by cases he)
        |false=>
         simp only[PC];refine RA RO fun tt s2 o2 ac Q=>RD ?_;rw[F8]at Q;split
         ·rename_i L e' z' ph hb;cases hq:Nat.beq e e'&&Nat.beq z z' with
          |false=>exact RC|true=>
           simp only[PB];simp only[Pk,Qc]at hq;obtain⟨rfl,rfl⟩:=hq;rcases ac.live b _ hb with⟨i,o,y,k1,k2,kF,cs,n,rfl,k4,k5⟩| ⟨k1,L',e',z',ay,k2,k3,k4,k5⟩
           ·cases V with
            |sl _ _ _ _ _ i' o' c' f h0 G hc=>
             rw[k1]at f;simp only[Pj,Pn]at f;obtain⟨rfl,rfl⟩:=f;obtain⟨g,rfl,J,S⟩:=hc;have A:len.toN U<=67108864:=by show(len.toI U).toNat<=_;omega
             have e1:len.toI U=((len.toN U:Nat):Int):=by show len.toI U=((len.toI U).toNat:Int);omega
             have ah:l.toI U=((l.toN U:Nat):Int):=by show l.toI U=((l.toI U).toNat:Int);omega
             have N:=W8 g (len.toN U);have W:=aX J A;have Y:=H8 p j D q h1 h2 (show h.toI U<=((Nat.max g (len.toN U):Nat):Int) by omega) rfl M;have hx:=dG (hp:=hp) (i:=i) (a:=o+off.toN U*z) ht r J A Y;cases tt with
             |true=>simp only[PB];simp only[PF]at Q;refine RM (RL ?_);by_cases C:l.toN U=0;rw[w9 C,PB]at hx;refine⟨_,hx,Sf k1 (by rw[j5];omega) (by rw[v7];omega) ⟨Nat.max g (len.toN U),rfl,by omega,by rw[v7];omega⟩ ?_ ?_⟩;rw[mJ h0 h1,C];simp;rw[cV h1,C];simp;rw[y7 C,PC,y7 (by omega),PC,k2]at hx;simp only[w9 H,PB,Nat.zero_sub]at hx;refine⟨_,hx,Sf k1 (by rw[j5];omega) (by rw[v7];omega) ⟨Nat.max g (len.toN U)-l.toN U,rfl,by omega,by rw[v7];omega⟩ ?_ ?_⟩;rw[mJ h0 h1,PY,H];omega;rw[cV h1]|false=>
              simp only[PC];simp only[Qk]at Q;refine RA RH fun _ s3 o3 av p1=>?_;have p1:=z5 p1;rw[j5,i9]at p1;have aj:s3.get b=some (.rows L e z ph):=by rw[o3.get];exact hb
              refine(OKh.freeze aj k1 k2).bind fun _ τ2 F2 s4 au ex aw ⟨f1,f2,f3⟩=>?_;subst f1;subst f2;refine RE ⟨rfl,?_⟩;have az:l.toN U=len.toN U:=by omega
              have ao:h.toN U-l.toN U=0:=by
               have:h.toI U=l.toI U:=by omega
               show(h.toI U).toNat-(l.toI U).toNat=0;rw[this];omega
              have ai:o+off.toN U*z+l.toN U*z<=n:=by
               have g1:=k4.1;have:off.toN U*z+l.toN U*z<=(L.toR U).length*z:=by rw[<-PY];exact Px z (by show(off.toI U).toNat+l.toN U<=_;omega)
               omega
              have O:(E.op .nil []).toR U=[]:=rfl;by_cases C:l.toN U=0
              ·rw[w9 C,PB]at hx;have an:h.toN U=0:=by omega
               rw[an]at hx;refine⟨_,hx,.lst e _ false _ ?_ (fun h=>by cases h)⟩;rw[O];exact PV.cut0 f3 rfl (by omega) k4.2.1 ⟨.inr ⟨_,rfl,by omega,by omega⟩,.mk⟩
              by_cases ad:l.toN U=Nat.max g (len.toN U);rw[y7 C,PC,w9 ad,PB]at hx;refine⟨_,hx,.lst e _ false _ ?_ (fun h=>by cases h)⟩;rw[O];exact .vague e;rw[y7 C,PC,y7 ad,PC,k2]at hx;simp only[w9 H,PB,Nat.zero_sub,ao]at hx;refine⟨_,hx,.lst e _ false _ ?_ (fun h=>by cases h)⟩;rw[O,<-H];exact PV.cut0 f3 rfl ai k4.2.1 ⟨.inr ⟨_,rfl,by omega,by omega⟩,.mk⟩
            |sl0 _ _ _ _ _ f h0 G hc=>rw[k1]at f;cases f
           ·cases V with
            |sl _ _ _ _ _ i' o' c' f h0 G hc=>rw[k1]at f;cases f
            |sl0 _ _ _ _ _ f h0 G hc=>
             have hx:v8 P hp t (.slice none 0 0) vlo vhi none=some (.slice none 0 0,hp):=K7 ht r (H8 p j D q h1 h2 (by omega) rfl (fun hn=>by rw[M hn];show(len.toI U).toNat=0;omega));cases tt with
             |true=>simp only[PF]at Q;omega|false=>simp only[PC];refine RA RH fun _ s3 o3 av p1=>?_;refine OKh.drop.bind fun _ τ2 F2 s4 au ex aw ⟨f1,f2,f3⟩=>?_;subst f1;subst f2;subst f3;exact RE ⟨rfl,_,hx,.lst e _ false _ (.nils e) (fun h=>by cases h)⟩
         ·rename_i cl e' z' hb;cases hq:Nat.beq e e'&&Nat.beq z z'&&tt with
          |false=>exact RC|true=>
           simp only[PB];simp only[Pk,Qc]at hq;obtain⟨⟨rfl,rfl⟩,rfl⟩:=hq;simp only[PF]at Q;rcases ac.live b _ hb with⟨i,o,y,k1,k2,kF,cs,n,rfl,k4,k5⟩| ⟨k1,L',e',z',ay,k2,k3,k4,k5⟩
           ·cases V with
            |sl _ _ _ _ _ i' o' c' f h0 G hc=>
             rw[k1]at f;simp only[Pj,Pn]at f;obtain⟨rfl,rfl⟩:=f;obtain⟨g,rfl,J,S⟩:=hc;have A:len.toN U<=67108864:=by show(len.toI U).toNat<=_;omega
             have e1:len.toI U=((len.toN U:Nat):Int):=by show len.toI U=((len.toI U).toNat:Int);omega
             have ah:l.toI U=((l.toN U:Nat):Int):=by show l.toI U=((l.toI U).toNat:Int);omega
             have N:=W8 g (len.toN U);have W:=aX J A;have Y:=H8 p j D q h1 h2 (show h.toI U<=((Nat.max g (len.toN U):Nat):Int) by omega) rfl M;have hx:=dG (hp:=hp) (i:=i) (a:=o+off.toN U*z) ht r J A Y;refine RM (RL ?_);by_cases C:l.toN U=0;rw[w9 C,PB]at hx;refine⟨_,hx,Sf k1 (by rw[j5];omega) (by rw[v7];omega) ⟨Nat.max g (len.toN U),rfl,by omega,by rw[v7];omega⟩ ?_ ?_⟩;rw[mJ h0 h1,C];simp;rw[cV h1,C];simp;rw[y7 C,PC,y7 (by omega),PC,k2]at hx;simp only[w9 H,PB,Nat.zero_sub]at hx;refine⟨_,hx,Sf k1 (by rw[j5];omega) (by rw[v7];omega) ⟨Nat.max g (len.toN U)-l.toN U,rfl,by omega,by rw[v7];omega⟩ ?_ ?_⟩;rw[mJ h0 h1,PY,H];omega;rw[cV h1]
            |sl0 _ _ _ _ _ f h0 G hc=>rw[k1]at f;cases f
           cases k2
         exact RC
       exact RC
     ·rename_i l h m' D q;cases I with
      |none=>exact B.elim|some vm=>
       split
       ·rename_i m x T;refine RA K2 fun _ s1 _ hs1 hb=>RA RH fun _ s2 _ ac hm=>RM ?_;obtain⟨h1,h2,h3⟩:=hb;have hm:=z5 hm;cases V with
        |sl _ _ _ _ _ i o c' f h0 G hc=>
         cases cap with
         |ex c=>
          obtain⟨J,S,X,c4⟩:=hc;subst S;have ab:m.toI U<=((c.toN U:Nat):Int):=by have:m.toI U<=c.toI U:=hm;show m.toI U<=(((c.toI U).toNat:Nat):Int);omega
          have K:m.toN U<unk:=by show(m.toI U).toNat<unk;have:c.toN U<unk:=X;omega
          refine(eJ f h0 h1 h2 h3 K rfl).mono fun x hx=>⟨_,?_,hx⟩
          rw[bM ht r X (show len.toN U<=c.toN U by show(len.toI U).toNat<=(c.toI U).toNat;omega) (Q3 p j B D q T h1 h2 h3 ab rfl (by simp))];subst H;rfl
         |ge=>
          obtain⟨g,rfl,J,S⟩:=hc;have hm:m.toI U<=len.toI U:=hm;have A:len.toN U<=67108864:=by show(len.toI U).toNat<=_;omega
          have e1:len.toI U=((len.toN U:Nat):Int):=by show len.toI U=((len.toI U).toNat:Int);omega
          have N:=W8 g (len.toN U);have W:=aX J A;have K:m.toN U<unk:=rF (by show(m.toI U).toNat<=_;omega);refine(eJ f h0 h1 h2 h3 K rfl).mono fun x hx=>⟨_,?_,hx⟩
          rw[kE ht r J A (Q3 p j B D q T h1 h2 h3 (by omega) rfl (by simp))];subst H;rfl
         |un=>
          have hm:m.toI U<=len.toI U:=hm;rcases hc with⟨X,rfl,S⟩| ⟨g,rfl,J,S⟩
          ·have ab:m.toI U<=((len.toN U:Nat):Int):=by show m.toI U<=(((len.toI U).toNat:Nat):Int);omega
           have K:m.toN U<unk:=by show(m.toI U).toNat<unk;have:(len.toI U).toNat<unk:=X;omega
           refine(eJ f h0 h1 h2 h3 K rfl).mono fun x hx=>⟨_,?_,hx⟩
           rw[bM ht r X (PH _) (Q3 p j B D q T h1 h2 h3 ab rfl (by simp))];subst H;rfl
          ·have A:len.toN U<=67108864:=by show(len.toI U).toNat<=_;omega
           have e1:len.toI U=((len.toN U:Nat):Int):=by show len.toI U=((len.toI U).toNat:Int);omega
           have N:=W8 g (len.toN U);have W:=aX J A;have K:m.toN U<unk:=rF (by show(m.toI U).toNat<=_;omega);refine(eJ f h0 h1 h2 h3 K rfl).mono fun x hx=>⟨_,?_,hx⟩
           rw[kE ht r J A (Q3 p j B D q T h1 h2 h3 (by omega) rfl (by simp))];subst H;rfl
        |sl0 _ _ _ _ _ f h0 G hc=>
         have aq:m.toI U<=0:=by
          cases cap with
          |ex c=>have:=hc c rfl;have hm:m.toI U<=c.toI U:=hm;omega|ge=>have hm:m.toI U<=len.toI U:=hm;omega|un=>have hm:m.toI U<=len.toI U:=hm;omega
         exact(wV f h0 h1 h2 h3 aq).mono fun x hx=>⟨_,K7 ht r (Q3 p j B D q T h1 h2 h3 (by omega) rfl (by simp)),hx⟩
       exact RC
     exact RC
   ·
    rename_i e' L clip;cases hq:Nat.beq e e'&&Nat.beq ie.size (kf P e).length with
    |false=>exact RC|true=>
     simp only [PB];simp only [Pk, Qc] at hq;obtain ⟨rfl,ae⟩:=hq;cases V with
     |lst _ _ _ _ hv hc=>
      split
      ·rename_i l h D q;cases I with
       |some v=>exact B.elim|none=>
        refine RM (K2.bind fun _ _ _ _ hb=>B3.bind fun c _ _ _ Z=>RL ?_);obtain⟨h1,h2,h3⟩:=hb;rw[i9]at h3;obtain⟨w,w1,w2,w3⟩:=It (hp:=hp) ht r ae hs.frz hv p j D q (i9 L) h1 h2 h3;refine⟨w,w1,.lst e c _ w ?_ (fun aa=>?_)⟩
        ·have:c.toR U=pQ (L.toR U) (l.toI U) (h.toI U-l.toI U):=by show(c.den U).rows=_;rw[Z,v7];rfl
         rw[this];exact w2
        simp only[Pk]at aa;exact w3 (hc aa.1) (by cases hi with|none=>rfl|some x=>simp at aa)
      ·rename_i l h m' D q;cases I with
       |none=>exact B.elim|some vm=>
        split
        ·rename_i m x T;refine RM (K2.bind fun _ _ _ _ hb=>OKp.need.bind fun _ _ _ _ hm=>?_);obtain⟨h1,h2,h3⟩:=hb;have hm:=z5 hm;rw[i9]at hm;refine OKp.bind (R:=fun _=>L.toR U≠ []\/ ∃a n,v= .slice a n n) ?_ fun _ _ _ _ ar=>?_
         ·cases clip with
          |true=>exact RL (.inr (hc rfl))|false=>refine OKp.need.mono fun _ h=>.inl fun h'=>?_;have:=B6 h;rw[i9,h']at this;simp[A8]at this
         ·refine B3.bind fun c _ _ _ Z=>?_;obtain⟨w,w1,w2,w3⟩:=Iu (hp:=hp) ht r ae hv ar p j B D q T (by simp) h1 h2 h3 hm;have ak:c.toR U=pQ (L.toR U) (l.toI U) (h.toI U-l.toI U):=by show(c.den U).rows=_;rw[Z,v7];rfl
          rw[<-ak]at w2;cases E.like h m with
          |true=>simp only[PB];exact OKp.need.bind fun _ _ _ _ al=>RL ⟨w,w1,.lst e c true w w2 (fun _=>w3 (Y6 al))⟩
          |false=>exact RL ⟨w,w1,.lst e c false w w2 (fun h=>by cases h)⟩
        exact RC
      exact RC
   exact RC
 exact RC
