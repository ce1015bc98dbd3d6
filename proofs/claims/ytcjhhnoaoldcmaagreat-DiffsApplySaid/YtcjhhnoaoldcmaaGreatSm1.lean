/- The symbolic engine, parts 1, 2, 3, 4, 5, 6, 7, 8, 9, 10, 11, 12.
  Conditions: none. -/
import Derived.Test.YtcjhhnoaoldcmaaGreatXm3
set_option linter.all false
namespace Go.Sx
abbrev Nd (p q:Prop):Prop:=p/\(p->q)
abbrev I64 (x:Int):Prop:=(¬x< -9223372036854775808)/\x<9223372036854775808
inductive Dat where
 |int (n:Int)
 |bool (b:Bool)
 |str (s:Ae)
 |lst (rows:List (List Dat))
abbrev As:=List Dat
abbrev Ab:=Nat ->As->Dat
instance : Inhabited Dat:=⟨.int 0⟩
def Dat.toInt (d:Dat):Int:=match d with| .int n=>n|_=>0
def Dat.toBool (d:Dat):Bool:=match d with| .bool b=>b|_=>false
def Dat.toStr (d:Dat):Ae:=match d with| .str s=>s|_=>[]
def Dat.rows (d:Dat):List (As):=match d with| .lst l=>l|_=>[]
abbrev Rows:=List (As)
def H6 (L:Rows)(i:Int)(j:Nat):Dat:=(L.getD i.toNat []).getD j (.int 0)
def setAt (L:Rows)(i:Int)(j:Nat)(d:Dat):Rows:=L.modify i.toNat (fun r=>r.set j d)
def part (L:Rows)(a n:Int):Rows:=(L.drop a.toNat).take n.toNat
def over (L:Rows)(a:Int)(l:Rows):Rows:=L.take a.toNat++l++L.drop (a.toNat+l.length)
def chunk (z:Nat):Nat->As->Rows
 |0,_=>[]
 |n+1,l=>l.take z::chunk z n (l.drop z)
inductive KV where
 |i (n:Int)
 |s (l:Ae)
 deriving DecidableEq
def KV.dat (k:KV):Dat:=match k with| .i n=>.int n| .s l=>.str l
def Dat.kv (d:Dat):KV:=match d with| .int n=>.i n| .str l=>.s l|_=>.i 0
def rh (z:Nat)(r:As):List KV:=(r.take z).map Dat.kv
def kw :Rows->List KV->Bool
 | [],_=>false|r::L,ks=>decide (rh ks.length r=ks)||kw L ks
def Q0 :Rows->List KV->Dat->Dat
 | [],_,d=>d|r::L,ks,d=>if rh ks.length r=ks then r.getD ks.length (.int 0)else Q0 L ks d
def aY :Rows->List KV->Dat->Rows
 | [],ks,v=>[ks.map KV.dat++ [v]]
 |r::L,ks,v=>if rh ks.length r=ks then(ks.map KV.dat++ [v])::L else r::aY L ks v
def aW :Rows->List KV->Nat
 | [],_=>0|r::L,ks=>if rh ks.length r=ks then 0 else aW L ks+1
def runeAt (l:Ae)(i:Int):Int:=(Utf8.decode ⟨l.toArray⟩ i.toNat).1
def runeW (l:Ae)(i:Int):Int:=(Utf8.decode ⟨l.toArray⟩ i.toNat).2
inductive Sy where
 |add|sub|mul|tdiv|tmod
 |wrap (k:IntKind)
 |bits (op:BinOp) (k:IntKind)
 |shl (k:IntKind)|shr (k:IntKind)
 |lt|eqi|eqb|eqs|lts
 |not|and|or
 |len|get (j:Nat)|upd (j:Nat)|nil|app|part|over
 |rows (n z:Nat)|rep
 |slen|sidx|sapp|ssub|srune|srw
 |castI|castB|castS|castL
 |mhas|mget|mput|mix
 |user (n:Nat)
inductive E where
 |int (n:Int)
 |bool (c:Bool)
 |str (l:Ae)
 |var (n:Nat)
 |dat (n:Nat) (d:Dat)
 |op (o:Sy) (as:List E)
abbrev Av:=List E
instance : Inhabited E:=⟨.int 0⟩
section
variable (U :Ab)
def Sy.den (o:Sy)(as:As):Dat:=
 match o with
 | .add=>match as with| [a,b]=>.int (a.toInt+b.toInt)|_=>.int 0
 | .sub=>match as with| [a,b]=>.int (a.toInt-b.toInt)|_=>.int 0
 | .mul=>match as with| [a,b]=>.int (a.toInt*b.toInt)|_=>.int 0
 | .tdiv=>match as with| [a,b]=>.int (a.toInt.tdiv b.toInt)|_=>.int 0
 | .tmod=>match as with| [a,b]=>.int (a.toInt.tmod b.toInt)|_=>.int 0
 | .wrap k=>match as with| [a]=>.int (k.wrap a.toInt)|_=>.int 0
 | .bits op k=>match as with| [a,b]=>.int (Go.bits op k a.toInt b.toInt)|_=>.int 0
 | .shl k=>match as with| [a,b]=>.int (k.wrap (a.toInt*2^(min b.toInt.toNat k.bits)))|_=>.int 0
 | .shr k=>match as with| [a,b]=>.int (a.toInt.fdiv (2^(min b.toInt.toNat k.bits)))|_=>.int 0
 | .lt=>match as with| [a,b]=>.bool (decide (a.toInt<b.toInt))|_=>.int 0
 | .eqi=>match as with| [a,b]=>.bool (decide (a.toInt=b.toInt))|_=>.int 0
 | .eqb=>match as with| [a,b]=>.bool (a.toBool==b.toBool)|_=>.int 0
 | .eqs=>match as with| [a,b]=>.bool (a.toStr==b.toStr)|_=>.int 0
 | .lts=>match as with| [a,b]=>.bool (Op.bytesLess a.toStr b.toStr)|_=>.int 0
 | .not=>match as with| [a]=>.bool (!a.toBool)|_=>.int 0
 | .and=>match as with| [a,b]=>.bool (a.toBool&&b.toBool)|_=>.int 0
 | .or=>match as with| [a,b]=>.bool (a.toBool||b.toBool)|_=>.int 0
 | .len=>match as with| [l]=>.int l.rows.length|_=>.int 0
 | .get j=>match as with| [l,i]=>H6 l.rows i.toInt j|_=>.int 0
 | .upd j=>match as with| [l,i,c]=>.lst (setAt l.rows i.toInt j c)|_=>.int 0
 | .nil=>.lst []| .app=>match as with| [l,m]=>.lst (l.rows++m.rows)|_=>.int 0
 | .part=>match as with| [l,a,n]=>.lst (Sx.part l.rows a.toInt n.toInt)|_=>.int 0
 | .over=>match as with| [l,a,m]=>.lst (Sx.over l.rows a.toInt m.rows)|_=>.int 0
 | .rows n z=>.lst (chunk z n as)| .rep=>match as with|n::cs=>.lst (List.replicate n.toInt.toNat cs)|_=>.int 0
 | .slen=>match as with| [s]=>.int s.toStr.length|_=>.int 0
 | .sidx=>match as with| [s,i]=>.int ((s.toStr.getD i.toInt.toNat 0).toNat:Int)|_=>.int 0
 | .sapp=>match as with| [s,t]=>.str (s.toStr++t.toStr)|_=>.int 0
 | .ssub=>match as with| [s,a,b]=>.str ((s.toStr.take b.toInt.toNat).drop a.toInt.toNat)|_=>.int 0
 | .srune=>match as with| [s,i]=>.int (runeAt s.toStr i.toInt)|_=>.int 0
 | .srw=>match as with| [s,i]=>.int (runeW s.toStr i.toInt)|_=>.int 0
 | .castI=>match as with| [a]=>.int a.toInt|_=>.int 0
 | .castB=>match as with| [a]=>.bool a.toBool|_=>.int 0
 | .castS=>match as with| [a]=>.str a.toStr|_=>.int 0
 | .castL=>match as with| [a]=>.lst a.rows|_=>.int 0
 | .mhas=>match as with|l::ks=>.bool (kw l.rows (ks.map Dat.kv))|_=>.int 0
 | .mget=>match as with|l::d::ks=>Q0 l.rows (ks.map Dat.kv) d|_=>.int 0
 | .mput=>match as with|l::v::ks=>.lst (aY l.rows (ks.map Dat.kv) v)|_=>.int 0
 | .mix=>match as with|l::ks=>.int (aW l.rows (ks.map Dat.kv):Nat)|_=>.int 0
 | .user n=>U n as
mutual
def E.den :E->Dat
 | .int n=>.int n| .bool c=>.bool c| .str l=>.str l| .var _=>.int 0| .dat _ d=>d| .op o as=>o.den U (E.dens as)
def E.dens :Av->As
 | []=>[]
 |a::as=>a.den::E.dens as
end
def E.dens_eq :∀as:Av,E.dens U as=as.map (E.den U)
 | []=>rfl|a::as=>by simp[E.dens,E.dens_eq as]
def E.pr :E->Prop
 | .bool c=>c=true| .op .lt [a,b]=>(a.den U).toInt<(b.den U).toInt| .op .eqi [a,b]=>(a.den U).toInt=(b.den U).toInt| .op .eqs [a,b]=>(a.den U).toStr=(b.den U).toStr| .op .not [a]=>¬a.pr| .op .and [a,b]=>a.pr/\b.pr| .op .or [a,b]=>a.pr\/b.pr|e=>(e.den U).toBool=true
def E.pr_iff (e:E):e.pr U↔(e.den U).toBool=true:=by
 fun_induction E.pr U e with
 |case1 c=>simp[E.den,Dat.toBool]|case2 a b=>simp[E.den,E.dens,Sy.den,Dat.toBool]|case3 a b=>simp[E.den,E.dens,Sy.den,Dat.toBool]|case4 a b=>simp[E.den,E.dens,Sy.den,Dat.toBool]|case5 a j=>simp[E.den,E.dens,Sy.den,Dat.toBool,j]|case6 a b f g=>simp[E.den,E.dens,Sy.den,Dat.toBool,f,g]|case7 a b f g=>simp[E.den,E.dens,Sy.den,Dat.toBool,f,g]|case8 e _ _ _ _ _ _ _=>exact Iff.rfl
def LV:type_of% @E.pr_iff:=@E.pr_iff
def Sy.like :Sy->Sy->Bool
 | .add,.add| .sub,.sub| .mul,.mul| .tdiv,.tdiv| .tmod,.tmod| .lt,.lt| .eqi,.eqi| .eqb,.eqb| .eqs,.eqs| .lts,.lts| .not,.not| .and,.and| .or,.or
 | .len,.len| .nil,.nil| .app,.app| .part,.part| .over,.over| .rep,.rep| .slen,.slen| .sidx,.sidx| .sapp,.sapp| .ssub,.ssub| .srune,.srune| .srw,.srw| .castI,.castI| .castB,.castB| .castS,.castS| .castL,.castL| .mhas,.mhas| .mget,.mget| .mput,.mput| .mix,.mix=>true
 | .shr k,.shr k'=>decide (k=k')| .wrap k,.wrap k'=>decide (k=k')| .shl k,.shl k'=>decide (k=k')| .bits o k,.bits o' k'=>decide (o=o')&&decide (k=k')| .get j,.get j'=>Nat.beq j j'| .upd j,.upd j'=>Nat.beq j j'| .user j,.user j'=>Nat.beq j j'| .rows n z,.rows n' z'=>Nat.beq n n'&&Nat.beq z z'|_,_=>false
mutual
def E.like :E->E->Bool
 | .int n,.int m=>decide (n=m)| .bool p,.bool q=>p==q| .str p,.str q=>p==q| .var n,.var m=>Nat.beq n m| .dat n _,.dat m _=>Nat.beq n m| .op o as,.op o' bs=>Sy.like o o'&&E.likes as bs|_,_=>false
def E.likes :Av->Av->Bool
 | [],[]=>true|a::as,b::bs=>E.like a b&&E.likes as bs|_,_=>false
end
inductive So where
 |i|b|s|l
 deriving DecidableEq
inductive Lab where
 |e (c:E)
 |p (name:String) (as:Av)
 |q (a b:E)
 |pt (name:String) (gs:List (List (So×E)))
 |mu (name:String) (g a b:List (So×E))
inductive Tr (α:Type) where
 |ret (a:α)
 |done
 |fail (s:String)
 |br (c:E) (t e:Tr α)
 |need (l:Lab) (p:Prop) (t:Tr α)
 |asm (l:Lab) (p:Prop) (t:Tr α)
 |both (t e:Tr α)
 |all (k:So) (n:Nat) (f:E->Tr α)
def Tr.bind {α β:Type}:Tr α->(α->Tr β)->Tr β
 | .ret a,k=>k a| .done,_=>.done| .fail s,_=>.fail s| .br c t e,k=>.br c (t.bind k) (e.bind k)| .need l p t,k=>.need l p (t.bind k)| .asm l p t,k=>.asm l p (t.bind k)| .both t e,k=>.both (t.bind k) (e.bind k)| .all o n f,k=>.all o n fun e=>(f e).bind k
def Tr.vc {α:Type}:Tr α->(α->Prop)->Prop
 | .ret a,Q=>Q a| .done,_=>True| .fail _,_=>False| .br c t e,Q=>(c.pr U->t.vc Q)/\(¬c.pr U->e.vc Q)| .need _ p t,Q=>p/\(p->t.vc Q)| .asm _ p t,Q=>p->t.vc Q| .both t e,Q=>t.vc Q/\e.vc Q| .all .i n f,Q=>∀x:Int,(f (.dat n (.int x))).vc Q| .all .b n f,Q=>∀x:Bool,(f (.dat n (.bool x))).vc Q| .all .s n f,Q=>∀x:Ae,(f (.dat n (.str x))).vc Q| .all .l n f,Q=>∀x:Rows,(f (.dat n (.lst x))).vc Q
def Tr.vc_bind {α g:Type}(t:Tr α)(k:α->Tr g)(Q:g->Prop):(t.bind k).vc U Q↔t.vc U fun a=>(k a).vc U Q:=by
 induction t with
 |ret a=>exact Iff.rfl|done=>exact Iff.rfl|fail s=>exact Iff.rfl|br c t e h1 h2=>simp only[Tr.bind,Tr.vc,h1,h2]|need l p t h=>simp only[Tr.bind,Tr.vc,h]|asm l p t h=>simp only[Tr.bind,Tr.vc,h]|both t e h1 h2=>simp only[Tr.bind,Tr.vc,h1,h2]|all k n f h=>cases k<;>simp only[Tr.bind,Tr.vc,h]
def My:type_of% @Tr.vc_bind:=@Tr.vc_bind
def Tr.vc_mono {α:Type}(t:Tr α){Q R:α->Prop}(hq:∀a,Q a->R a):t.vc U Q->t.vc U R:=by
 induction t with
 |ret a=>exact hq a|done=>exact id|fail s=>exact id|br c t e h1 h2=>exact fun h=>⟨fun x=>h1 (h.1 x),fun x=>h2 (h.2 x)⟩
 |need l p t h=>exact fun x=>⟨x.1,fun y=>h (x.2 y)⟩
 |asm l p t h=>exact fun x y=>h (x y)
 |both t e h1 h2=>exact fun h=>⟨h1 h.1,h2 h.2⟩
 |all k n f h=>cases k<;>exact fun x y=>h _ (x y)
end
end Go.Sx
namespace Go.Sx
open Go.Xe
inductive Cp where
 |ex (e:E)
 |ge
 |un
inductive SV where
 |any
 |int (k:IntKind) (e:E)
 |bool (e:E)
 |str (e:E)
 |nilp
 |ptr (b z:Nat) (row:E) (fld:Nat)
 |pptr (t:Ay) (L row:E) (fld:Nat)
 |nils
 |sl (b z:Nat) (off len:E) (cap:Cp)
 |lst (t:Ay) (L:E) (clip:Bool)
 |agg (l:List SV)
 |tup (l:List SV)
 |fn (f:Fn) (a b:List SV)
 |nilf
 |map (b:Nat)
 |nilm
 |iface (t:Ay) (v:SV)
 |nili
 |yld (ks:Ah) (vs:List SV) (g:Az) (nt:Nat) (ps:Ah) (as bo:Code)
abbrev Au:=List SV
instance : Inhabited SV:=⟨.any⟩
def lk {α:Type}:List (Nat×α)->Nat->Bc α
 | [],_=>none| (k,a)::l,n=>bif Nat.beq k n then some a else lk l n
mutual
def noY :SV->Bool
 | .yld _ _ _ _ _ _ _=>false| .agg l=>noYs l| .tup l=>noYs l| .fn _ a b=>noYs a&&noYs b| .iface _ v=>noY v|_=>true
def noYs :Au->Bool
 | []=>true|a::l=>noY a&&noYs l
end
inductive Kd where
 |int (k:IntKind)
 |bool
 |str
 |sl (e:Ay)
 |bad
 deriving DecidableEq
def kd1 (P:Ax)(t:Ay):Kd:=match P.underlying t with
 |some (.int k)=>.int k|some .bool=>.bool|some .string=>.str|some (.slice e)=>.sl e|_=>.bad
def kdF (f:Ay->List Kd):List Field->List Kd
 | []=>[]
 |x::xs=>f x.type++kdF f xs
def kds (P:Ax):Nat->Ay->List Kd
 |0,_=>[.bad]
 |d+1,t=>match P.underlying t with
  |some (.struct fs)=>kdF (kds P d) fs.toList|some (.array n e)=>(List.replicate n (kds P d e)).flatten|_=>[kd1 P t]
def kf (P:Ax)(t:Ay):List Kd:=kds P 20 t
def Iu (P:Ax)(f:Field):Bc Kd:=bif f.name== "_" then none else match P.underlying f.type with
 |some (.int k)=>some (.int k)|some .string=>some .str|_=>none
def mJ (P:Ax):Nat->List Field->Bc (List Kd)
 |_,[]=>some []|o,f::fs=>bif Nat.beq f.offset o then match Iu P f with
  |some k=>match mJ P (o+1) fs with
   |some ks=>some (k::ks)|none=>none
  |none=>none
  else none
def bX (P:Ax)(kt:Ay):Bc (Bool×List Kd):=
 match P.underlying kt with
 |some (.int k)=>some (false,[.int k])|some (.struct fs)=>bif P.stoodInHeld kt then none else match mJ P 0 fs.toList with
  |some ks=>some (true,ks)|none=>none
 |_=>none
def kv1 (k:Kd)(x:KV):Aw:=match x with
 | .s l=>.string ⟨l.toArray⟩| .i n=>match k with| .int k=>.int k n|_=>.int .i64 n
def fA :List Kd->List KV->Bool
 | [],[]=>true|k::ps,x::ks=>(match k,x with| .int _,.i _=>true| .str,.s _=>true|_,_=>false)&&fA ps ks|_,_=>false
def bU (ps:List Kd)(ks:List KV):Af:=List.zipWith kv1 ps ks
def ri (sh:Bool×List Kd)(ks:List KV):Aw:=bif sh.1 then .agg (bU sh.2 ks).toArray else(bU sh.2 ks).headD undef
inductive w9 where
 |cells (l:Au) (e z:Nat)
 |rows (L:E) (e z:Nat) (ph:E)
 |map (L:E) (kt vt:Ay)
 |iter (s pos:E)
structure SS where
 h:List (Nat×Bc w9)
 nx:Nat
 fc:List (E×Bool)
 fv:Nat
 fz:List (Nat×E×Ay×Nat)
def SS.get (s:SS)(b:Nat):Bc w9:=match lk s.h b with|some x=>x|none=>none
def SS.set (s:SS)(b:Nat)(x:Bc w9):SS:= {s with h:=(b,x)::s.h}
def p8 {α:Type}(k n:Nat)(a:α)(l:List (Nat×α)):lk ((k,a)::l) n=if k=n then some a else lk l n:=by
 by_cases h:k=n
 ·rw[if_pos h,lk,l6 h];rfl
 ·rw[if_neg h,lk,s7 h];rfl
theorem X7 {α:Type}{b:Nat}{x:α}:∀ {l:List (Nat×α)},lk l b=some x->(b,x)∈l
 | [],h=>by cases h
 | (k,y)::l,h=>by
  rw[p8]at h;split at h
  ·grind
  ·exact List.mem_cons_of_mem _ (X7 h)
theorem SS.get_set (s:SS)(b c:Nat)(x:Bc w9):(s.set b x).get c=if c=b then x else s.get c:=by unfold SS.get SS.set;simp only[p8];grind
def Mn:type_of% @SS.get_set:=@SS.get_set
def arr (b:Blk):Bc (Ao×Nat×Nat):=rdC b
def roC (b:Blk)(c zb z:Nat):Prop:=(aQ b=true->c<unk)/\(aQ b=false->zb=z)
def roC.mk {b:Blk}{c z:Nat}(h:aQ b=false:=by rfl):roC b c z z:=⟨fun e=>(by rw[h]at e;cases e),fun _=>rfl⟩
def kh (l c:Nat):Prop:=(c<unk/\l<=c)\/(∃lo,c=c8 lo 0/\lo<=67108864/\l<=67108864)
section
variable (P :Ax)
inductive PV (F:Ac):Kd->Aw->Dat->Prop
 |int (k:IntKind) (n:Int):PV F (.int k) (.int k n) (.int n)
 |bool (b:Bool):PV F .bool (.bool b) (.bool b)
 |str (s:Ae):PV F .str (.string ⟨s.toArray⟩) (.str s)
 |nils (e:Ay):PV F (.sl e) (.slice none 0 0) (.lst [])
 |vague (e:Ay):PV F (.sl e) (.slice (some ⟨0,0,some 0⟩) 0 unk) (.lst [])
 | sl (e : Ay) (i o c : Nat) (b : Blk) (cs : Ao) (n z : Nat) {zb : Nat} (rows : Rows) (x : Nat → Nat → Aw) (hF : F i = some b) (hb : arr b = some (cs, n, zb)) (hc : kh rows.length c ∧ roC b c zb z)
   (hn:o+rows.length*z<=n) (hz:z=(kf P e).length) (hr:∀r∈rows,r.length=z)
   (hx:∀(r k:Nat) (row:As) (d:Dat),rows[r]? =some row->row[k]? =some d->cs.get (o+r*z+k)=some (x r k))
   (hp:∀(r k:Nat) (row:As) (kd:Kd) (d:Dat),rows[r]? =some row->row[k]? =some d->(kf P e)[k]? =some kd->PV F kd (x r k) d):
   PV F (.sl e) (.slice (some ⟨i,o,none⟩) rows.length c) (.lst rows)
def Fle (F F':Ac):Prop:=∀i b,F i=some b->F' i=some b
def Fle.refl (F:Ac):Fle F F:=fun _ _ h=>h
def LZ:type_of% @Fle.refl:=@Fle.refl
variable {F:Ac}
def Fle.trans {G H:Ac}(h:Fle F G)(k:Fle G H):Fle F H:=fun i b e=>k i b (h i b e)
variable {F':Ac}{v:Aw}
def PV.mono (h:Fle F F'){k:Kd}{d:Dat}(p:PV P F k v d):PV P F' k v d:=by
 induction p with
 |int k n=>exact .int k n|bool b=>exact .bool b|str s=>exact .str s|nils e=>exact .nils e|vague e=>exact .vague e|sl e i o c b cs n z rows x hF hb hc hn hz hr hx _ a=>exact .sl e i o c b cs n z rows x (h _ _ hF) hb hc hn hz hr hx a
abbrev Tau:=Nat->Bc (Bc (Nat×Nat))
variable (U :Ab)
abbrev E.toI (e:E):Int:=(e.den U).toInt
abbrev E.toN (e:E):Nat:=(e.den U).toInt.toNat
abbrev E.toR (e:E):Rows:=(e.den U).rows
def qP (len:E):Cp->Nat->Prop
 | .ex e,c=>0<=e.toI U/\c=e.toN U/\c<unk/\len.toI U<=e.toI U| .ge,c=>∃lo,c=c8 lo 0/\lo<=67108864/\len.toI U<=67108864| .un,c=>(c<unk/\c=len.toN U/\len.toI U<=67108864)\/ ∃lo,c=c8 lo 0/\lo<=67108864/\len.toI U<=67108864
inductive VD (τ:Tau)(F:Ac):SV->Aw->Prop
 |any (v:Aw):VD τ F .any v
 |int (k:IntKind) (e:E):VD τ F (.int k e) (.int k (e.toI U))
 |bool (e:E):VD τ F (.bool e) (.bool (e.den U).toBool)
 |str (e:E):VD τ F (.str e) (.string ⟨(e.den U).toStr.toArray⟩)
 |nilp:VD τ F .nilp (.pointer none)
 |ptr (b z:Nat) (row:E) (fld i o:Nat) (h:τ b=some (some (i,o))) (h0:0<=row.toI U):VD τ F (.ptr b z row fld) (.pointer (some ⟨i,o+row.toN U*z+fld,none⟩))
 | pptr (t : Ay) (L row : E) (fld i o l c : Nat) (h : PV P F (.sl t) (.slice (some ⟨i, o, none⟩) l c) (.lst (L.toR U))) (h0 : 0 ≤ row.toI U) (h1 : row.toI U < (L.toR U).length) :
   VD τ F (.pptr t L row fld) (.pointer (some ⟨i,o+row.toN U*(kf P t).length+fld,none⟩))
 |nils:VD τ F .nils (.slice none 0 0)
 | sl (b z : Nat) (off len : E) (cap : Cp) (i o c : Nat) (h : τ b = some (some (i, o))) (h0 : 0 ≤ off.toI U) (h1 : 0 ≤ len.toI U) (hc : qP U len cap c) :
   VD τ F (.sl b z off len cap) (.slice (some ⟨i,o+off.toN U*z,none⟩) (len.toN U) c)
 |sl0 (b z:Nat) (off len:E) (cap:Cp) (h:τ b=some none) (h0:off.toI U=0) (h1:len.toI U=0) (hc:∀e,cap= .ex e->e.toI U=0):VD τ F (.sl b z off len cap) (.slice none 0 0)
 |lst (t:Ay) (L:E) (clip:Bool) (v:Aw) (h:PV P F (.sl t) v (.lst (L.toR U))) (hc:clip=true-> ∃a l,v= .slice a l l):VD τ F (.lst t L clip) v
 |agg (l:Au) (xs:Af) (h1:l.length=xs.length) (h2:∀(i:Nat) a x,l[i]? =some a->xs[i]? =some x->VD τ F a x):VD τ F (.agg l) (.agg xs.toArray)
 |tup (l:Au) (xs:Af) (h1:l.length=xs.length) (h2:∀(i:Nat) a x,l[i]? =some a->xs[i]? =some x->VD τ F a x):VD τ F (.tup l) (.tuple xs.toArray)
 | fn (f : Fn) (l m : Au) (xs ys : Af) (h1 : l.length = xs.length) (h2 : ∀ (i : Nat) a x, l[i]? = some a → xs[i]? = some x → VD τ F a x)
   (h3:m.length=ys.length) (h4:∀(i:Nat) a x,m[i]? =some a->ys[i]? =some x->VD τ F a x):VD τ F (.fn f l m) (.func f xs.toArray ys.toArray)
 |nilf:VD τ F .nilf .nilFunc
 |map (b i o:Nat) (h:τ b=some (some (i,o))):VD τ F (.map b) (.map (some i))
 |nilm:VD τ F .nilm (.map none)
 |iface (t:Ay) (v:SV) (x:Aw) (h:VD τ F v x):VD τ F (.iface t v) (.iface t x)
 |nili:VD τ F .nili .nilIface
 | yld (ks : Ah) (vs : Au) (g : Az) (nt : Nat) (ps : Ah) (as bo : Code) (i : Nat) (tms : Ao) (pr : Array Tmp) (db : Nat) (hF : F i = some (.loop .ready none nt tms pr as bo db)) (hp : pr.toList = ps)
   (h:∀k a,lk (ks.zip vs) k=some a->VD τ F a ((tms.get k).getD undef)):VD τ F (.yld ks vs g nt ps as bo) (.chan (some i))
def Tle (τ τ':Tau):Prop:=∀b p,τ b=some p->τ' b=some p
def Tle.refl (τ:Tau):Tle τ τ:=fun _ _ h=>h
def Mx:type_of% @Tle.refl:=@Tle.refl
def Tle.trans {a b c:Tau}(h:Tle a b)(k:Tle b c):Tle a c:=fun i p e=>k i p (h i p e)
variable {P U}
variable {τ:Tau}
def VD.mono {τ':Tau}(ht:Tle τ τ')(h:Fle F F'){s:SV}(p:VD P U τ F s v):VD P U τ' F' s v:=by
 induction p with
 |any v=>exact .any v|int k e=>exact .int k e|bool e=>exact .bool e|str e=>exact .str e|nilp=>exact .nilp|ptr b z row fld i o k h0=>exact .ptr b z row fld i o (ht _ _ k) h0|pptr t L row fld i o l c k h0 h1=>exact .pptr t L row fld i o l c (k.mono P h) h0 h1|nils=>exact .nils|sl b z off len cap i o c k h0 h1 hc=>exact .sl b z off len cap i o c (ht _ _ k) h0 h1 hc|sl0 b z off len cap k h0 h1 hc=>exact .sl0 b z off len cap (ht _ _ k) h0 h1 hc|lst t L clip v k hc=>exact .lst t L clip v (k.mono P h) hc|agg l xs h1 _ a=>exact .agg l xs h1 a|tup l xs h1 _ a=>exact .tup l xs h1 a|fn f l m xs ys h1 _ h3 _ j q=>exact .fn f l m xs ys h1 j h3 q|nilf=>exact .nilf|map b i o k=>exact .map b i o (ht _ _ k)|nilm=>exact .nilm|iface t v x _ a=>exact .iface t v x a|nili=>exact .nili|yld ks vs g nt ps as bo i tms pr db hF hp _ a=>exact .yld ks vs g nt ps as bo i tms pr db (h _ _ hF) hp a
def PV.sub (h:∀i y,F i=some y->(arr y).isSome=true->F' i=some y){k:Kd}{d:Dat}(p:PV P F k v d):PV P F' k v d:=by
 induction p with
 |int k n=>exact .int k n|bool b=>exact .bool b|str s=>exact .str s|nils e=>exact .nils e|vague e=>exact .vague e|sl e i o c b cs n z rows x hF hb hc hn hz hr hx _ a=>exact .sl e i o c b cs n z rows x (h _ _ hF (by rw[hb];rfl)) hb hc hn hz hr hx a
theorem bA :∀ {l:Au} {i:Nat} {a:SV},noYs l=true->l[i]? =some a->noY a=true
 | [],i,a,_,h=>by simp at h|b::l,i,a,hn,h=>by
  unfold noYs at hn;rw[Bool.and_eq_true]at hn;cases i with
  |zero=>grind|succ i=>simp only[List.getElem?_cons_succ]at h;exact bA hn.2 h
def VD.sub (p:Bool)(h:∀i y,F i=some y->((arr y).isSome=true\/p=true/\y≠ .dfr)->F' i=some y){s:SV}(B:VD P U τ F s v)(hn:p=true\/noY s=true):VD P U τ F' s v:=by
 have A:∀i y,F i=some y->(arr y).isSome=true->F' i=some y:=fun i y h1 h2=>h i y h1 (.inl h2);induction B with
 |any v=>exact .any v|int k e=>exact .int k e|bool e=>exact .bool e|str e=>exact .str e|nilp=>exact .nilp|ptr b z row fld i o k h0=>exact .ptr b z row fld i o k h0|pptr t L row fld i o l c k h0 h1=>exact .pptr t L row fld i o l c (k.sub A) h0 h1|nils=>exact .nils|sl b z off len cap i o c k h0 h1 hc=>exact .sl b z off len cap i o c k h0 h1 hc|sl0 b z off len cap k h0 h1 hc=>exact .sl0 b z off len cap k h0 h1 hc|lst t L clip v k hc=>exact .lst t L clip v (k.sub A) hc|agg l xs h1 _ j=>exact .agg l xs h1 fun i a x ha hx=>j i a x ha hx (hn.imp id fun k=>bA (by unfold noY at k;exact k) ha)
 |tup l xs h1 _ j=>exact .tup l xs h1 fun i a x ha hx=>j i a x ha hx (hn.imp id fun k=>bA (by unfold noY at k;exact k) ha)
 |fn f l m xs ys h1 _ h3 _ r w=>
  have q:p=true\/noYs l=true/\noYs m=true:=hn.imp id fun k=>by unfold noY at k;rwa[Bool.and_eq_true]at k
  exact .fn f l m xs ys h1 (fun i a x ha hx=>r i a x ha hx (q.imp id fun k=>bA k.1 ha)) h3 fun i a x ha hx=>w i a x ha hx (q.imp id fun k=>bA k.2 ha)
 |nilf=>exact .nilf|map b i o k=>exact .map b i o k|nilm=>exact .nilm|iface t v x _ j=>exact .iface t v x (j (hn.imp id fun k=>by unfold noY at k;exact k))|nili=>exact .nili|yld ks vs g nt ps as bo i tms pr db hF hp _ j=>
  rcases hn with hn|hn
  ·exact .yld ks vs g nt ps as bo i tms pr db (h _ _ hF (.inr ⟨hn,by simp⟩)) hp fun k a ha=>j k a ha (.inl hn)
  ·unfold noY at hn;cases hn
variable (P U)
def VDL (τ:Tau)(F:Ac)(l:Au)(xs:Af):Prop:=l.length=xs.length/\ ∀(i:Nat) a x,l[i]? =some a->xs[i]? =some x->VD P U τ F a x
def q7 (F:Ac)(e:Ay)(z o n:Nat)(cs:Ao)(rows:Rows):Prop:=
 o+rows.length*z<=n/\z=(kf P e).length/\(∀r∈rows,r.length=z)/\
 ∀(r k:Nat) (row:As) (d:Dat),rows[r]? =some row->row[k]? =some d-> ∃x,cs.get (o+r*z+k)=some x/\ ∀kd,(kf P e)[k]? =some kd->PV P F kd x d
def W6 (F:Ac)(kt vt:Ay)(es:List (Aw×Aw))(rows:Rows):Prop:=
 es.length=rows.length/\ ∀(j:Nat) row e,rows[j]? =some row->es[j]? =some e-> ∃sh ks d,bX P kt=some sh/\fA sh.2 ks=true/\row=ks.map KV.dat++ [d]/\e.1=ri sh ks/\PV P F (kd1 P vt) e.2 d
def BD (τ:Tau)(F:Ac)(o:Nat):w9->Blk->Prop
 | .cells l e z,b=>∃cs n,b= .cells cs n e z/\o+l.length<=n/\ ∀(j:Nat) a,l[j]? =some a-> ∃x,cs.get (o+j)=some x/\VD P U τ F a x| .rows L e z ph,b=>∃cs n,b= .cells cs n e z/\q7 P F e z o n cs (L.toR U)/\o+ph.toN U*z<=n| .map L kt vt,b=>o=0/\ ∃es reg,b= .map es reg/\reg=true/\W6 P F kt vt es (L.toR U)| .iter s pos,b=>o=0/\ ∃n:Nat,b= .sit ⟨(s.den U).toStr.toArray⟩ n/\pos.toI U=n
def AG (τ:Tau)(F:Ac)(r:Nat×E×Ay×Nat):Prop:=
 (∃i o cs n,τ r.1=some (some (i,o))/\F i=some (.cells cs n r.2.2.1 r.2.2.2)/\q7 P F r.2.2.1 r.2.2.2 o n cs (r.2.1.toR U))\/(τ r.1=some none/\r.2.1.toR U=[])
structure SD (τ:Tau)(F:Ac)(s:SS)(hp:Hp):Prop where
 live:∀b x,s.get b=some x->(∃i o y,τ b=some (some (i,o))/\hp.m.get i=some y/\F i=none/\BD P U τ F o x y)\/
  (τ b=some none/\ ∃L e z ph,x= .rows L e z ph/\L.toR U=[]/\z=(kf P e).length/\ph.toI U<=0)
 inj:∀b c x y i o j q,s.get b=some x->s.get c=some y->b≠c->τ b=some (some (i,o))->τ c=some (some (j,q))->i≠j
 frz:∀i b,F i=some b->hp.m.get i=some b
 lt:∀b i o,τ b=some (some (i,o))->i<hp.nx
 flt:∀i b,F i=some b->i<hp.nx
 new:∀b,s.nx<=b->τ b=none
 fc:∀c t,(c,t)∈s.fc->(c.den U).toBool=t
 fz:∀r∈s.fz,AG P U τ F r
def nyS (s:SS):Bool:=s.h.all fun p=>match p.2 with
 |some (.cells l _ _)=>noYs l|_=>true
variable {P U}
def BD.sub (p:Bool)(h:∀i y,F i=some y->((arr y).isSome=true\/p=true/\y≠ .dfr)->F' i=some y){o:Nat}{x:w9}{y:Blk}(hb:BD P U τ F o x y)(hn:p=true\/ ∀l e z,x= .cells l e z->noYs l=true):BD P U τ F' o x y:=by
 have c:∀i y,F i=some y->(arr y).isSome=true->F' i=some y:=fun i y h1 h2=>h i y h1 (.inl h2);cases x with
 |cells l e z=>obtain⟨cs,n,h1,h2,h3⟩:=hb;exact⟨cs,n,h1,h2,fun j a ha=>let⟨x,k1,k2⟩:=h3 j a ha;⟨x,k1,k2.sub p h (hn.imp id fun k=>bA (k l e z rfl) ha)⟩⟩
 |rows L e z ph=>obtain⟨cs,n,h1,⟨h2,h3,h4,h5⟩,f⟩:=hb;exact⟨cs,n,h1,⟨h2,h3,h4,fun r k row d hr hd=>let⟨x,k1,k2⟩:=h5 r k row d hr hd;⟨x,k1,fun kd hk=>(k2 kd hk).sub c⟩⟩,f⟩
 |map L kt vt=>obtain⟨h0,es,reg,h1,hr,h2,h3⟩:=hb;exact⟨h0,es,reg,h1,hr,h2,fun j row e hr he=>let⟨q,ks,d,k1,k2,k3,g,m⟩:=h3 j row e hr he;⟨q,ks,d,k1,k2,k3,g,m.sub c⟩⟩
 |iter s pos=>exact hb
theorem SD.sub {s:SS}{hp hp':Hp}(hs:SD P U τ F s hp)(p:Bool)(h:∀i y,F i=some y->((arr y).isSome=true\/p=true/\y≠ .dfr)->F' i=some y)(hn:p=true\/nyS s=true)(c:hp.nx<=hp'.nx)(hm:∀b x i o,s.get b=some x->τ b=some (some (i,o))->hp'.m.get i=hp.m.get i/\F' i=none)(hf:∀i y,F' i=some y->hp'.m.get i=some y/\i<hp'.nx):SD P U τ F' s hp':=by
 refine⟨fun b x hb=>?_,hs.inj,fun i y hy=>(hf i y hy).1,fun b i o hb=>Nat.lt_of_lt_of_le (hs.lt b i o hb) c,fun i y hy=>(hf i y hy).2,hs.new,hs.fc,fun r hr=>?_⟩
 ·rcases hs.live b x hb with⟨i,o,y,h1,h2,h3,h4⟩|h1
  ·obtain⟨k1,k2⟩:=hm b x i o hb h1;refine .inl ⟨i,o,y,h1,by rw[k1];exact h2,k2,h4.sub p h (hn.imp id fun k l e z hx=>?_)⟩;unfold nyS at k;rw[List.all_eq_true]at k;subst hx;unfold SS.get at hb;split at hb
   ·rename_i q hq;subst hb;exact k _ (X7 hq)
   ·cases hb
  ·grind
 ·rcases hs.fz r hr with⟨i,o,cs,n,h1,h2,h3,h4,h5,f⟩|h1
  ·exact .inl ⟨i,o,cs,n,h1,h _ _ h2 (.inl rfl),h3,h4,h5,fun a k row d hr hd=>let⟨x,k1,k2⟩:=f a k row d hr hd;⟨x,k1,fun kd hk=>(k2 kd hk).sub fun i y h1 h2=>h i y h1 (.inl h2)⟩⟩
  ·exact .inr h1
end
end Go.Sx
namespace Go.Sx
open Go.Xe
def A6 (a b:E):E:=match a,b with
 | .int m,.int n=>.int (m+n)| .int m,b=>bif decide (m=0)then b else .op .add [b,.int m]| .op .add [x,.int m],.int n=>bif decide (m+n=0)then x else .op .add [x,.int (m+n)]|a,.int n=>bif decide (n=0)then a else .op .add [a,.int n]|a,b=>.op .add [a,b]
def ui (a b:E):E:=match b with
 | .int n=>A6 a (.int (-n))|b=>.op .sub [a,b]
def Ej (a b:E):E:=match a,b with
 | .int m,.int n=>.int (m*n)|a,b=>.op .mul [a,b]
def z9 (a:E):E:=match a with
 | .bool c=>.bool (!c)| .op .not [x]=>x|a=>.op .not [a]
def A7 (a b:E):E:=match a,b with
 | .int m,.int n=>.bool (decide (m<n))|a,b=>.op .lt [a,b]
def I8 (a b:E):E:=match a,b with
 | .int m,.int n=>.bool (decide (m=n))|a,b=>.op .eqi [a,b]
def zg (a b:E):E:=match a,b with
 | .bool p,b=>bif p then b else z9 b|a,.bool p=>bif p then a else z9 a|a,b=>.op .eqb [a,b]
def ii (a b:E):E:=match a,b with
 | .str p,.str q=>.bool (p==q)|a,b=>.op .eqs [a,b]
def zf (a b:E):E:=match a,b with
 | .bool p,b=>bif p then b else .bool false|a,.bool p=>bif p then a else .bool false|a,b=>.op .and [a,b]
def mkOr (a b:E):E:=match a,b with
 | .bool p,b=>bif p then .bool true else b|a,.bool p=>bif p then .bool true else a|a,b=>.op .or [a,b]
def pI :Nat->E->E
 |0,L=>.op .len [L]|d+1,L=>match L with
  | .op .nil _=>.int 0| .op (.rows n _) _=>.int n| .op .app [a,b]=>A6 (pI d a) (pI d b)| .op (.upd _) [a,_,_]=>pI d a|L=>.op .len [L]
def A5 (L:E):E:=pI 50 L
def zh :Nat->Nat->E->E->E
 |0,j,L,r=>.op (.get j) [L,r]|d+1,j,L,r=>match L with
  | .op (.upd j') [a,i,c]=>bif Nat.beq j j' then .op (.get j) [.op (.upd j') [a,i,c],r]else zh d j a r|L=>.op (.get j) [L,r]
def wD (j:Nat)(L r:E):E:=zh 50 j L r
def V1 (a b:E):E:=match a,b with
 | .op .nil _,b=>b|a,.op .nil _=>a|a,b=>.op .app [a,b]
section
variable {U :Ab}
def E1 (n:Int):(E.int n).toI U=n:=rfl
def m9 (a b:E):(A6 a b).toI U=a.toI U+b.toI U:=by
 unfold A6;split
 ·rfl
 ·rename_i b m _;by_cases h:m=0
  ·subst h;simp only[decide_true,cond_true];exact(Int.zero_add _).symm
  ·simp only[h,decide_false,cond_false];exact Int.add_comm _ _
 ·rename_i x m n;by_cases h:m+n=0
  ·simp only[h,decide_true,cond_true];show _=(x.toI U+m)+n;omega
  ·simp only[h,decide_false,cond_false];show x.toI U+(m+n)=(x.toI U+m)+n;omega
 ·rename_i a n _ _;by_cases h:n=0
  ·subst h;simp only[decide_true,cond_true];show _=_+0;omega
  ·simp only[h,decide_false,cond_false];rfl
 ·rfl
def jl (a b:E):(ui a b).toI U=a.toI U-b.toI U:=by
 unfold ui;split
 ·rename_i n;rw[m9];show _+ -n=_-n;omega
 ·rfl
def Bg (a b:E):(Ej a b).toI U=a.toI U*b.toI U:=by unfold Ej;split<;>rfl
def D9 (a:E):((z9 a).den U).toBool= !(a.den U).toBool:=by
 unfold z9;split
 ·rfl
 ·rename_i x;show _= !(!(x.den U).toBool);simp
 ·rfl
def E4 (a b:E):((A7 a b).den U).toBool=decide (a.toI U<b.toI U):=by unfold A7;split<;>rfl
def N8 (a b:E):((I8 a b).den U).toBool=decide (a.toI U=b.toI U):=by unfold I8;split<;>rfl
def Q7 (a b:E):((ii a b).den U).toBool=((a.den U).toStr==(b.den U).toStr):=by unfold ii;split<;>rfl
def pG (a b:E):((zg a b).den U).toBool=((a.den U).toBool==(b.den U).toBool):=by
 unfold zg;split
 ·rename_i b p;cases p
  ·simp only[cond_false,D9];show _=(false==_);simp
  ·simp only[cond_true];show _=(true==_);simp
 ·rename_i a p _;cases p
  ·simp only[cond_false,D9];show _=(_==false);simp
  ·simp only[cond_true];show _=(_==true);simp
 ·rfl
def pE (a b:E):((zf a b).den U).toBool=((a.den U).toBool&&(b.den U).toBool):=by
 unfold zf;split
 ·rename_i b p;cases p
  ·rfl
  ·show _=(true&&_);simp
 ·rename_i a p _;cases p
  ·show false=(_&&false);simp
  ·show _=(_&&true);simp
 ·rfl
def uh (a b:E):((mkOr a b).den U).toBool=((a.den U).toBool|| (b.den U).toBool):=by
 unfold mkOr;split
 ·rename_i b p;cases p
  ·show _=(false||_);simp
  ·rfl
 ·rename_i a p _;cases p
  ·show _=(_||false);simp
  ·show true=(_||true);simp
 ·rfl
def K6 (z:Nat):∀(n:Nat) (l:As),(chunk z n l).length=n
 |0,_=>rfl|n+1,l=>by simp[chunk,K6 z n]
def eK :∀(d:Nat) (L:E),(pI d L).toI U=((L.toR U).length:Int)
 |0,L=>rfl|d+1,L=>by
  unfold pI;split
  ·rfl
  ·rename_i n z as;show(n:Int)=((chunk z n _).length:Int);rw[K6]
  ·rename_i a b;rw[m9,eK d a,eK d b];show _=(((a.toR U)++(b.toR U)).length:Int);simp
  ·rename_i j a i c;rw[eK d a];show _=((setAt (a.toR U) _ j _).length:Int);simp[setAt]
  ·rfl
def i4 (L:E):(A5 L).toI U=((L.toR U).length:Int):=eK 50 L
theorem lh (L:Rows)(i r:Int){j j':Nat}(d:Dat)(h:j≠j'):H6 (setAt L i j' d) r j=H6 L r j:=by unfold H6 setAt;grind
def pH :∀(d j:Nat) (L r:E),(zh d j L r).den U=H6 (L.toR U) (r.toI U) j
 |0,j,L,r=>rfl|d+1,j,L,r=>by
  unfold zh;split
  ·rename_i j' a i c;by_cases h:j=j'
   ·rw[l6 h];rfl
   ·rw[s7 h,cond_false,pH d j a r];exact(lh _ _ _ _ h).symm
  ·rfl
def tM (j:Nat)(L r:E):(wD j L r).den U=H6 (L.toR U) (r.toI U) j:=pH 50 j L r
def aX (a b:E):(V1 a b).toR U=a.toR U++b.toR U:=by
 unfold V1;split
 ·rfl
 ·show _=_++([]:Rows);simp
 ·rfl
def FT (U:Ab)(l:List (E×Bool)):Prop:=∀c t,(c,t)∈l->(c.den U).toBool=t
def M (α:Type):=SS->Tr (α×SS)
def e8 {α:Type}(a:α):M α:=fun s=>.ret (a,s)
def a7 {α:Type}(t:String):M α:=fun _=>.fail t
def c6 {α β:Type}(m:M α)(k:α->M β):M β:=fun s=>(m s).bind fun x=>k x.1 x.2
def o8 {α:Type}(k:SS->M α):M α:=fun s=>k s s
def fB {α:Type}(t:String)(x:Bc α):M α:=match x with|some a=>e8 a|none=>a7 t
def addF (s:SS)(c:E)(t:Bool):SS:= {s with fc:=(c,t)::s.fc}
variable (U) in
def n5 (c:E):M Unit:=fun s=>match c with
 | .bool true=>.ret ((),s)|c=>.need (.e c) (c.pr U) (.ret ((),addF s c true))
def Ds :List (E×Bool)->E->Bc Bool
 | [],_=>none| (d,t)::l,c=>bif E.like d c then some t else Ds l c
variable (U) in
def testA (c:E):M Bool:=fun s=>match c with
 | .bool b=>.ret (b,s)|c=>match Ds s.fc c with
  |some true=>.need (.e c) (c.pr U) (.ret (true,s))|some false=>.need (.e (z9 c)) (¬c.pr U) (.ret (false,s))|none=>.br c (.ret (true,addF s c true)) (.ret (false,addF s c false))
variable (U) in
def testF :Nat->E->M Bool
 |0,c=>testA U c|d+1,c=>match c with
  | .op .not [a]=>c6 (testF d a) fun t=>e8 (!t)
  | .op .and [a,b]=>c6 (testF d a) fun t=>bif t then testF d b else e8 false
  | .op .or [a,b]=>c6 (testF d a) fun t=>bif t then e8 true else testF d b
  |c=>testA U c
variable (U) in
def ij (c:E):M Bool:=testF U 20 c
structure W8 (s s':SS):Prop where
 h:s'.h=s.h
 nx:s'.nx=s.nx
 fc:∃l,s'.fc=l++s.fc
 fz:s'.fz=s.fz
def W8.refl (s:SS):W8 s s:=⟨rfl,rfl,⟨[],rfl⟩,rfl⟩
def W8.trans {a b c:SS}(h:W8 a b)(k:W8 b c):W8 a c:=
 ⟨k.h.trans h.h,k.nx.trans h.nx,by obtain⟨l,e⟩:=h.fc;obtain⟨m,e'⟩:=k.fc;exact⟨m++l,by rw[e',e,List.append_assoc]⟩,k.fz.trans h.fz⟩
def W8.addF (s:SS)(c:E)(t:Bool):W8 s (addF s c t):=⟨rfl,rfl,⟨[(c,t)],rfl⟩,rfl⟩
def W8.get {s s':SS}(h:W8 s s')(b:Nat):s'.get b=s.get b:=by unfold SS.get;rw[h.h]
variable (U) in
def OKp {α:Type}(m:M α)(s:SS)(R:α->Prop):Prop:=
 ∀Q,(m s).vc U Q->FT U s.fc-> ∃a s',Q (a,s')/\W8 s s'/\FT U s'.fc/\R a
def OKp.ret {α:Type}{a:α}{s:SS}{R:α->Prop}(h:R a):OKp U (e8 a) s R:=fun _ hq hf=>⟨a,s,hq,W8.refl s,hf,h⟩
def Ml:type_of% @OKp.ret:=@OKp.ret
variable {t:String}
def OKp.fail {α:Type}{s:SS}{R:α->Prop}:OKp U (a7 t:M α) s R:=fun _ hq _=>hq.elim
def Mg:type_of% @OKp.fail:=@OKp.fail
def OKp.bind {α f:Type}{m:M α}{k:α->M f}{s:SS}{R:α->Prop}{c:f->Prop}(h:OKp U m s R)(hk:∀a s',W8 s s'->FT U s'.fc->R a->OKp U (k a) s' c):OKp U (c6 m k) s c:=by intro Q hq hf;unfold c6 at hq;rw[My]at hq;obtain⟨a,s1,h1,h2,h3,h4⟩:=h _ hq hf;obtain⟨b,s2,h5,g,h7,j⟩:=hk a s1 h2 h3 h4 Q h1 h3;exact⟨b,s2,h5,h2.trans g,h7,j⟩
theorem OKp.mono {α:Type}{m:M α}{s:SS}{R c:α->Prop}(h:OKp U m s R)(hr:∀a,R a->c a):OKp U m s c:=by intro Q hq hf;obtain⟨a,s1,h1,h2,h3,h4⟩:=h Q hq hf;grind
def OKp.opt {α:Type}{x:Bc α}{s:SS}{R:α->Prop}(h:∀a,x=some a->R a):OKp U (fB t x) s R:=by
 cases x with
 |none=>exact Mg|some a=>exact Ml (h a rfl)
def Mj:type_of% @OKp.opt:=@OKp.opt
def OKp.read {α:Type}{k:SS->M α}{s:SS}{R:α->Prop}(h:OKp U (k s) s R):OKp U (o8 k) s R:=h
def Mk:type_of% @OKp.read:=@OKp.read
theorem FT.cons {l:List (E×Bool)}{c:E}{t:Bool}(h:FT U l)(hc:(c.den U).toBool=t):FT U ((c,t)::l):=by
 intro d u hd;rcases List.mem_cons.1 hd with e|e
 ·grind
 ·exact h d u e
def wV {c:E}(h:¬c.pr U):(c.den U).toBool=false:=by rw[LV]at h;simpa using h
def OKp.need {c:E}{s:SS}:OKp U (n5 U c) s fun _=>c.pr U:=by
 intro Q hq hf;unfold n5 at hq;split at hq
 ·exact⟨(),s,hq,W8.refl s,hf,rfl⟩
 ·obtain⟨h1,h2⟩:=hq;exact⟨(),_,h2 h1,W8.addF s _ _,hf.cons ((LV U _).1 h1),h1⟩
def Mh:type_of% @OKp.need:=@OKp.need
def OKp.testA {c:E}{s:SS}:OKp U (testA U c) s fun t=>(c.den U).toBool=t:=by
 intro Q hq hf;unfold Sx.testA at hq;split at hq
 ·exact⟨_,s,hq,W8.refl s,hf,rfl⟩
 ·split at hq
  ·exact⟨true,s,hq.2 hq.1,W8.refl s,hf,(LV U _).1 hq.1⟩
  ·exact⟨false,s,hq.2 hq.1,W8.refl s,hf,wV hq.1⟩
  ·by_cases h:c.pr U
   ·exact⟨true,_,hq.1 h,W8.addF s _ _,hf.cons ((LV U _).1 h),(LV U _).1 h⟩
   ·exact⟨false,_,hq.2 h,W8.addF s _ _,hf.cons (wV h),wV h⟩
def OKp.testF :∀(d:Nat) (c:E) (s:SS),OKp U (testF U d c) s fun t=>(c.den U).toBool=t
 |0,c,s=>OKp.testA|d+1,c,s=>by
  unfold Sx.testF;split
  ·rename_i a;refine(OKp.testF d a s).bind fun t s' _ _ h=>Ml ?_;show(!(a.den U).toBool)= !t;rw[h]
  ·rename_i a b;refine(OKp.testF d a s).bind fun t s' _ _ h=>?_;cases t with
   |true=>exact(OKp.testF d b s').mono fun u f=>by show((a.den U).toBool&&(b.den U).toBool)=u;rw[h,f];rfl
   |false=>exact Ml (by show((a.den U).toBool&&(b.den U).toBool)=false;rw[h];rfl)
  ·rename_i a b;refine(OKp.testF d a s).bind fun t s' _ _ h=>?_;cases t with
   |true=>exact Ml (by show((a.den U).toBool|| (b.den U).toBool)=true;rw[h];rfl)|false=>exact(OKp.testF d b s').mono fun u f=>by show((a.den U).toBool|| (b.den U).toBool)=u;rw[h,f];rfl
  ·exact OKp.testA
def OKp.test {c:E}{s:SS}:OKp U (ij U c) s fun t=>(c.den U).toBool=t:=OKp.testF 20 c s
end
end Go.Sx
namespace Go.Sx
open Go.Xe
abbrev Fm:=List (Nat×SV)
def cH :Aw->SV
 | .bool b=>.bool (.bool b)| .int k n=>.int k (.int n)| .string s=>.str (.str s.data.toList)| .pointer none=>.nilp| .slice none 0 0=>.nils| .map none=>.nilm| .nilFunc=>.nilf| .nilIface=>.nili|_=>.any
def xq :Aw->SV
 | .agg cs=>.agg (cs.toList.map cH)| .tuple vs=>.tup (vs.toList.map cH)|v=>cH v
def i6 (f:Fm):Ba->Bc SV
 | .tmp t=>some ((lk f t).getD .any)| .const v=>bif cst v then some (xq v)else none| .global _=>none| .func g=>some (.fn (.func g) [] [])
def uW (f:Fm):List Ba->Bc (Au)
 | []=>some []|x::xs=>match i6 f x with
  |some v=>match uW f xs with
   |some vs=>some (v::vs)|none=>none
  |none=>none
def eh (f:Fm):List (Nat×Ba)->Bc (List (Nat×SV))
 | []=>some []| (i,x)::xs=>match i6 f x with
  |some v=>match eh f xs with
   |some vs=>some ((i,v)::vs)|none=>none
  |none=>none
def B5 :SV->Bc (Au)
 | .any=>none| .yld _ _ _ _ _ _ _=>none| .agg l=>some l|v=>some [v]
def qa (P:Ax)(t:Ay)(cs:Au)(off:Nat):Bc SV:=
 match P.underlying t with
 |none=>none
 | some d => bif R8 d then
   match P.info? t with
   |some i=>some (.agg ((cs.drop off).take i.size))|none=>none
  else cs[off]?
def xu (P:Ax)(xt:Ay)(x:SV)(f:Nat):Bc SV:=
 match P.underlying xt with
 |some (.struct fs)=>match fs.toList[f]? with
  |some fd=>match x with
   | .agg cs=>qa P fd.type cs fd.offset|_=>none
  |none=>none
 |_=>none
def nB (x:SV)(i:Nat):Bc SV:=
 match x with
 | .tup vs=>vs[i]?|_=>none
def P1 (cells:Au)(off:Nat)(vs:Au):Au:=cells.take off++vs++cells.drop (off+vs.length)
def kL (place:Nat->Bc (Nat×Nat))(cells:Au):List (Nat×SV)->Bc (Au)
 | []=>some cells| (i,v)::rest=>match place i with
  |none=>none|some (off,size)=>match B5 v with
   |none=>none|some vs=>bif Nat.beq vs.length size&&Nat.ble (off+size) cells.length then kL place (P1 cells off vs) rest else none
def kP (P:Ax)(t:Ay):Bc (Au):=match D6 P t with
 |some z=>some (z.cells.toList.map cH)|none=>none
def xp (P:Ax)(t:Ay)(parts:List (Nat×SV)):Bc SV:=
 match kP P t with
 |none=>none|some z=>match P.underlying t with
  |some (.struct fs)=>match cZ P fs.toList with
   |some pl=>match kL (fun i=>pl[i]?) z parts with
    |some cs=>some (.agg cs)|none=>none
   |none=>none
  |some (.array _ e)=>match P.info? e with
   |some ie=>match kL (fun i=>some (i*ie.size,ie.size)) z parts with
    |some cs=>some (.agg cs)|none=>none
   |none=>none
  |_=>none
section
variable {P :Ax}{U:Ab}{τ:Tau}{F:Ac}
def TD (P:Ax)(U:Ab)(τ:Tau)(F:Ac)(f:Fm)(tm:Ao):Prop:=∀k a,lk f k=some a->VD P U τ F a ((tm.get k).getD undef)
def ny (v:Aw):VD P U τ F (cH v) v:=by
 unfold cH;split
 ·exact .bool (.bool _)
 ·exact .int _ (.int _)
 ·rename_i s;exact .str (.str s.data.toList)
 ·exact .nilp
 ·exact .nils
 ·exact .nilm
 ·exact .nilf
 ·exact .nili
 ·exact .any _
def cJ (l:Af):VDL P U τ F (l.map cH) l:=by refine⟨by simp,fun i a x ha hx=>?_⟩;simp only[List.getElem?_map,hx,Option.map_some,Option.some.injEq]at ha;subst ha;exact ny x
def BJ (v:Aw):VD P U τ F (xq v) v:=by
 unfold xq;split
 ·rename_i cs;have h:=cJ (P:=P) (U:=U) (τ:=τ) (F:=F) cs.toList;exact VD.agg _ cs.toList h.1 h.2
 ·rename_i cs;have h:=cJ (P:=P) (U:=U) (τ:=τ) (F:=F) cs.toList;exact VD.tup _ cs.toList h.1 h.2
 ·exact ny v
def VDL.nil :VDL P U τ F [] []:=⟨rfl,fun i a x h _=>by simp at h⟩
def MC:type_of% @VDL.nil:=@VDL.nil
variable {l:Au}{xs:Af}
theorem VDL.cons {a:SV}{x:Aw}(h:VD P U τ F a x)(hs:VDL P U τ F l xs):VDL P U τ F (a::l) (x::xs):=by
 refine⟨by simp[hs.1],fun i b y hb hy=>?_⟩;cases i with
 |zero=>grind|succ i=>simp at hb hy;exact hs.2 i b y hb hy
def MB:type_of% @VDL.cons:=@VDL.cons
def VDL.uncons {a:SV}(h:VDL P U τ F (a::l) xs):∃y ys,xs=y::ys/\VD P U τ F a y/\VDL P U τ F l ys:=by
 cases xs with
 |nil=>exact absurd h.1 (by simp)|cons y ys=>exact⟨y,ys,rfl,h.2 0 _ _ rfl rfl,by have:=h.1;simpa using this,fun i a b ha hb=>h.2 (i+1) a b (by simpa using ha) (by simpa using hb)⟩
def VDL.mono {τ':Tau}{F':Ac}(ht:Tle τ τ')(hf:Fle F F')(h:VDL P U τ F l xs):VDL P U τ' F' l xs:=⟨h.1,fun i a x ha hx=>(h.2 i a x ha hx).mono ht hf⟩
def VDL.get (h:VDL P U τ F l xs){i:Nat}{a:SV}(ha:l[i]? =some a):∃x,xs[i]? =some x/\VD P U τ F a x:=by
 have hi:i<l.length:=(List.getElem?_eq_some_iff.1 ha).1;have hx:i<xs.length:=by rw[<-h.1];exact hi
 exact⟨xs[i],by simp[hx],h.2 i a _ ha (by simp[hx])⟩
def VDL.drop (h:VDL P U τ F l xs)(n:Nat):VDL P U τ F (l.drop n) (xs.drop n):=
 ⟨by simp[h.1],fun i a x ha hx=>h.2 (n+i) a x (by simpa using ha) (by simpa using hx)⟩
theorem VDL.take (h:VDL P U τ F l xs)(n:Nat):VDL P U τ F (l.take n) (xs.take n):=by
 refine⟨by simp[h.1],fun i a x ha hx=>?_⟩;rw[List.getElem?_take]at ha hx;by_cases hi:i<n
 ·rw[if_pos hi]at ha hx;exact h.2 i a x ha hx
 ·grind
def VDL.append {m:Au}{ys:Af}(h:VDL P U τ F l xs)(k:VDL P U τ F m ys):VDL P U τ F (l++m) (xs++ys):=by
 induction l generalizing xs with
 |nil=>obtain⟨h1,_⟩:=h;have:xs=[]:=List.eq_nil_of_length_eq_zero h1.symm;subst this;exact k
 |cons a l c=>obtain⟨y,f,rfl,h1,h2⟩:=h.uncons;exact MB h1 (c h2)
def VDL.splice {l m:Au}{xs ys:Af}(h:VDL P U τ F l xs)(k:VDL P U τ F m ys)(o:Nat):VDL P U τ F (P1 l o m) (splice xs o ys):=by unfold P1 Xe.splice;rw[k.1];exact((h.take o).append k).append (h.drop _)
def VDL.agg (h:VDL P U τ F l xs):VD P U τ F (.agg l) (.agg xs.toArray):= .agg l xs h.1 h.2
def VDL.tup (h:VDL P U τ F l xs):VD P U τ F (.tup l) (.tuple xs.toArray):= .tup l xs h.1 h.2
variable {v:Aw}
def VDL.of_agg (h:VD P U τ F (.agg l) v):∃xs:Af,v= .agg xs.toArray/\VDL P U τ F l xs:=by cases h with|agg _ xs h1 h2=>exact⟨xs,rfl,h1,h2⟩
def VDL.of_tup (h:VD P U τ F (.tup l) v):∃xs:Af,v= .tuple xs.toArray/\VDL P U τ F l xs:=by cases h with|tup _ xs h1 h2=>exact⟨xs,rfl,h1,h2⟩
def PV.one {k:Kd}{d:Dat}(h:PV P F k v d):v.cells= #[v]:=by cases h<;>rfl
def eT {a:SV}(h:VD P U τ F a v)(e:B5 a=some l):VDL P U τ F l v.cells.toList:=by
 cases h with
 |any v=>simp[B5]at e|agg l' xs h1 h2=>simp only[B5,Option.some.injEq]at e;subst e;exact⟨by simpa [Value.cells]using h1,fun i a x ha hx=>h2 i a x ha (by simpa [Value.cells]using hx)⟩|int k x=>simp only[B5,Option.some.injEq]at e;subst e;exact MB (.int k x) MC|bool x=>simp only[B5,Option.some.injEq]at e;subst e;exact MB (.bool x) MC|str x=>simp only[B5,Option.some.injEq]at e;subst e;exact MB (.str x) MC|nilp=>simp only[B5,Option.some.injEq]at e;subst e;exact MB .nilp MC|ptr b z row fld i o h h0=>simp only[B5,Option.some.injEq]at e;subst e;exact MB (.ptr b z row fld i o h h0) MC|pptr t L row fld i o l c h h0 h1=>simp only[B5,Option.some.injEq]at e;subst e;exact MB (.pptr t L row fld i o l c h h0 h1) MC|nils=>simp only[B5,Option.some.injEq]at e;subst e;exact MB .nils MC|sl b z off len cap i o c h h0 h1 hc=>simp only[B5,Option.some.injEq]at e;subst e;exact MB (.sl b z off len cap i o c h h0 h1 hc) MC|sl0 b z off len cap h h0 h1 hc=>simp only[B5,Option.some.injEq]at e;subst e;exact MB (.sl0 b z off len cap h h0 h1 hc) MC|lst t L clip v h hc=>simp only[B5,Option.some.injEq]at e;subst e;rw[h.one];exact MB (.lst t L clip v h hc) MC|tup l' xs h1 h2=>simp only[B5,Option.some.injEq]at e;subst e;exact MB (.tup l' xs h1 h2) MC|fn f l' m xs ys h1 h2 h3 h4=>simp only[B5,Option.some.injEq]at e;subst e;exact MB (.fn f l' m xs ys h1 h2 h3 h4) MC|nilf=>simp only[B5,Option.some.injEq]at e;subst e;exact MB .nilf MC|map b i o h=>simp only[B5,Option.some.injEq]at e;subst e;exact MB (.map b i o h) MC|nilm=>simp only[B5,Option.some.injEq]at e;subst e;exact MB .nilm MC|iface t v x h=>simp only[B5,Option.some.injEq]at e;subst e;exact MB (.iface t v x h) MC|nili=>simp only[B5,Option.some.injEq]at e;subst e;exact MB .nili MC|yld=>simp[B5]at e
theorem C0 {f:Fm}{tm:Ao}(h:TD P U τ F f tm){o:Ba}{a:SV}(e:i6 f o=some a):∃v,a9 tm o=some v/\VD P U τ F a v:=by
 cases o with
 |tmp t=>
  simp only[i6,Option.some.injEq]at e;refine⟨_,rfl,?_⟩;cases hl:lk f t with
  |none=>rw[hl]at e;subst e;exact .any _|some b=>rw[hl]at e;subst e;exact h t b hl
 |const v=>
  simp only[i6]at e;cases hc:cst v with
  |false=>grind|true=>simp only[hc,cond_true,Option.some.injEq]at e;subst e;exact⟨v,by simp[a9,hc],BJ v⟩
 |global g=>simp[i6]at e|func g=>simp only[i6,Option.some.injEq]at e;subst e;exact⟨_,rfl,.fn _ [] [] [] [] rfl (fun i a x h _=>by simp at h) rfl (fun i a x h _=>by simp at h)⟩
theorem lP {f:Fm}{tm:Ao}(h:TD P U τ F f tm):∀ {os:List Ba} {l:Au},uW f os=some l-> ∃vs,W3 tm os=some vs/\VDL P U τ F l vs
 | [],l,e=>by simp only[uW,Option.some.injEq]at e;subst e;exact⟨[],rfl,MC⟩|o::os,l,e=>by
  simp only[uW]at e;cases g:i6 f o with
  |none=>grind|some a=>
   cases c:uW f os with
   |none=>grind|some l'=>simp only[g,c,Option.some.injEq]at e;subst e;obtain⟨v,h1,h2⟩:=C0 h g;obtain⟨vs,h3,h4⟩:=lP h c;exact⟨v::vs,by simp[W3,h1,h3],MB h2 h4⟩
def PVD (P:Ax)(U:Ab)(τ:Tau)(F:Ac):List (Nat×SV)->List (Nat×Aw)->Prop
 | [],[]=>True| (i,a)::l,(j,v)::m=>i=j/\VD P U τ F a v/\PVD P U τ F l m|_,_=>False
theorem eW {f:Fm}{tm:Ao}(h:TD P U τ F f tm):∀ {os:List (Nat×Ba)} {l:List (Nat×SV)},eh f os=some l-> ∃vs,K3 tm os=some vs/\PVD P U τ F l vs
 | [],l,e=>by simp only[eh,Option.some.injEq]at e;subst e;exact⟨[],rfl,trivial⟩| (i,o)::os,l,e=>by
  simp only[eh]at e;cases g:i6 f o with
  |none=>grind|some a=>
   cases c:eh f os with
   |none=>grind|some l'=>simp only[g,c,Option.some.injEq]at e;subst e;obtain⟨v,h1,h2⟩:=C0 h g;obtain⟨vs,h3,h4⟩:=eW h c;exact⟨(i,v)::vs,by simp[K3,h1,h3],rfl,h2,h4⟩
theorem iD {t:Ay}(h:VDL P U τ F l xs){off:Nat}{a:SV}(e:qa P t l off=some a):∃v,bJ P t xs off=some v/\VD P U τ F a v:=by
 unfold qa at e;unfold bJ;split at e
 ·cases e
 ·rename_i d hd;rw[hd];cases hb:R8 d with
  |true=>
   simp only[hb,cond_true]at e⊢;split at e
   ·rename_i i hi;simp only[Option.some.injEq]at e;subst e;exact⟨_,by rw[hi],((h.drop off).take i.size).agg⟩
   ·cases e
  |false=>simp only[hb,cond_false]at e⊢;obtain⟨x,h1,h2⟩:=h.get e;grind
theorem BM {t:Ay}{a:SV}(h:VD P U τ F a v){f:Nat}{b:SV}(e:xu P t a f=some b):∃u,gF P t v f=some u/\VD P U τ F b u:=by
 unfold xu at e;unfold gF;split at e
 ·rename_i m g;split at e
  ·rename_i j c;split at e
   ·rename_i cs;obtain⟨xs,rfl,hx⟩:=VDL.of_agg h;obtain⟨u,h1,h2⟩:=iD hx e;grind
   ·cases e
  ·cases e
 ·cases e
def uX {a:SV}(h:VD P U τ F a v){i:Nat}{b:SV}(e:nB a i=some b):∃u,T8 v i=some u/\VD P U τ F b u:=by
 unfold nB at e;split at e
 ·obtain⟨xs,rfl,hx⟩:=VDL.of_tup h;obtain⟨u,h1,h2⟩:=hx.get e;exact⟨u,by simpa [T8]using h1,h2⟩
 ·cases e
theorem eg {place:Nat->Bc (Nat×Nat)}:∀ {ps:List (Nat×SV)} {g:List (Nat×Aw)} {l:Au} {xs:Af} {r:Au},VDL P U τ F l xs->PVD P U τ F ps g->kL place l ps=some r-> ∃ys,dn place xs g=some ys/\VDL P U τ F r ys
 | [],[],l,xs,r,h,_,e=>by simp only[kL,Option.some.injEq]at e;subst e;exact⟨xs,rfl,h⟩| (i,a)::ps,(j,v)::g,l,xs,r,h,hp,e=>by
  obtain⟨rfl,m,hp'⟩:=hp;simp only[kL]at e;split at e
  ·cases e
  ·rename_i off size c;split at e
   ·cases e
   ·rename_i vs f;have hc:=eT m f;simp only[dn,c];rw[hc.1,h.1]at e;cases hb:Nat.beq v.cells.toList.length size&&Nat.ble (off+size) xs.length with
    |false=>grind|true=>simp only[hb,cond_true]at e⊢;exact eg (h.splice hc off) hp' e
 | [],_::_,l,xs,r,h,hp,e=>hp.elim|_::_,[],l,xs,r,h,hp,e=>hp.elim
def bF {t:Ay}(e:kP P t=some l):∃z,D6 P t=some z/\VDL P U τ F l z.cells.toList:=by
 unfold kP at e;split at e
 ·rename_i z hz;simp only[Option.some.injEq]at e;subst e;exact⟨z,hz,cJ _⟩
 ·cases e
def BI {t:Ay}{ps:List (Nat×SV)}{m:List (Nat×Aw)}(h:PVD P U τ F ps m){a:SV}(e:xp P t ps=some a):∃v,R2 P t m=some v/\VD P U τ F a v:=by
 unfold xp at e;unfold R2;split at e
 ·cases e
 ·rename_i l hl;obtain⟨z,h1,h2⟩:=bF (U:=U) (τ:=τ) (F:=F) hl;rw[h1];split at e
  ·rename_i p f;split at e
   ·rename_i q j;split at e
    ·rename_i cs c;simp only[Option.some.injEq]at e;subst e;obtain⟨ys,h3,h4⟩:=eg h2 h c;exact⟨_,by simp only[f,j,h3],h4.agg⟩
    ·cases e
   ·cases e
  ·rename_i ie f;split at e
   ·rename_i o g;split at e
    ·rename_i cs c;simp only[Option.some.injEq]at e;subst e;obtain⟨ys,h3,h4⟩:=eg h2 h c;exact⟨_,by simp only[f,g,h3],h4.agg⟩
    ·cases e
   ·cases e
  ·cases e
end
end Go.Sx
namespace Go.Sx
open Go.Xe
def rng (e:E)(k:IntKind):E:=zf (z9 (A7 e (.int k.min))) (A7 e (.int (k.max+1)))
def jk (op:BinOp)(k:IntKind)(a b:E):E:=match a,b with
 | .int m,.int n=>.int (Go.bits op k m n)|a,b=>.op (.bits op k) [a,b]
def Ek (a b:E):E:=match a,b with
 | .int m,.int n=>.int (m.tdiv n)|a,b=>.op .tdiv [a,b]
def El (a b:E):E:=match a,b with
 | .int m,.int n=>.int (m.tmod n)|a,b=>.op .tmod [a,b]
def Em (k:IntKind)(a b:E):E:=match a,b with
 | .int m,.int n=>.int (k.wrap (m*2^(min n.toNat k.bits)))|a,b=>.op (.shl k) [a,b]
def Eo (k:IntKind)(a b:E):E:=match a,b with
 | .int m,.int n=>.int (m.fdiv (2^(min n.toNat k.bits)))|a,b=>.op (.shr k) [a,b]
def wM (a b:E):E:=match a,b with
 | .str p,.str q=>.str (p++q)|a,b=>.op .sapp [a,b]
def gm (a:E):E:=match a with
 | .str p=>.int p.length|a=>.op .slen [a]
def pJ (a b:E):E:=match a,b with
 | .str p,.str q=>.bool (Op.bytesLess p q)|a,b=>.op .lts [a,b]
section
variable (P :Ax)(U:Ab)
def mQ (k:IntKind)(e:E):M SV:=match e with
 | .int n=>e8 (.int k (.int (k.wrap n)))|e=>bif decide (k= .i64)then c6 (n5 U (rng e .i64)) fun _=>e8 (.int k e)else e8 (.int k (.op (.wrap k) [e]))
def scmp (op:BinOp)(a b:E):Bc E:=
 match op with
 | .eql=>some (I8 a b)| .neq=>some (z9 (I8 a b))| .lss=>some (A7 a b)| .leq=>some (z9 (A7 b a))| .gtr=>some (A7 b a)| .geq=>some (z9 (A7 a b))|_=>none
def xo (op:BinOp)(k:IntKind)(a b:E):M SV:=
 match op with
 | .add=>mQ U k (A6 a b)| .sub=>mQ U k (ui a b)| .mul=>mQ U k (Ej a b)| .quo=>c6 (n5 U (z9 (I8 b (.int 0)))) fun _=>mQ U k (Ek a b)
 | .rem=>c6 (n5 U (z9 (I8 b (.int 0)))) fun _=>e8 (.int k (El a b))
 | .and=>e8 (.int k (jk .and k a b))| .or=>e8 (.int k (jk .or k a b))| .xor=>e8 (.int k (jk .xor k a b))| .andNot=>e8 (.int k (jk .andNot k a b))|op=>match scmp op a b with|some c=>e8 (.bool c)|none=>a7 "arith"
def sf (op:BinOp)(k:IntKind)(a b:E):M SV:=
 c6 (n5 U (z9 (A7 b (.int 0)))) fun _=>
 match op with
 | .shl=>e8 (.int k (Em k a b))| .shr=>e8 (.int k (Eo k a b))|_=>a7 "shift"
def sstr (op:BinOp)(a b:E):M SV:=
 match op with
 | .add=>c6 (n5 U (A7 (A6 (gm a) (gm b)) (.int 1000000001))) fun _=>e8 (.str (wM a b))
 | .eql=>e8 (.bool (ii a b))| .neq=>e8 (.bool (z9 (ii a b)))| .lss=>e8 (.bool (pJ a b))| .leq=>e8 (.bool (mkOr (pJ a b) (ii a b)))| .gtr=>e8 (.bool (z9 (mkOr (pJ a b) (ii a b))))| .geq=>e8 (.bool (z9 (pJ a b)))|_=>a7 "str"
def BK (eq:Ay->SV->SV->Bc E)(xs ys:Au):List Field->Bc E
 | []=>some (.bool true)|f::fs=>bif f.name== "_" then BK eq xs ys fs else
  match qa P f.type xs f.offset,qa P f.type ys f.offset with
  |some a,some b=>match eq f.type a b,BK eq xs ys fs with
   |some p,some q=>some (zf p q)|_,_=>none
  |_,_=>none
def gq :SV->Bool
 | .ptr _ _ _ _| .pptr _ _ _ _=>true
 |_=>false
def rU (size:Nat)(x y:SV):Bc E:=
 match x,y with
 | .nilp,.nilp=>some (.bool true)| .nilp,y=>bif gq y then some (.bool false)else none|x,.nilp=>bif gq x then some (.bool false)else none| .ptr b z row fld,.ptr b' z' row' fld'=>bif Nat.beq b b'&&Nat.beq z z'&&Nat.beq fld fld'&&Nat.ble 1 z&&Nat.ble 1 size then some (I8 row row')else none|_,_=>none
def zM (x y:SV):Bc E:=
 match x,y with
 | .nils,.nils=>some (.bool true)|_,_=>none
def iA (x y:SV):Bc E:=
 match x,y with
 | .nilm,.nilm=>some (.bool true)| .map _,.nilm=>some (.bool false)| .nilm,.map _=>some (.bool false)|_,_=>none
def zK (x y:SV):Bc E:=
 match x,y with
 | .nilf,.nilf=>some (.bool true)| .nilf,.fn _ _ _=>some (.bool false)| .fn _ _ _,.nilf=>some (.bool false)|_,_=>none
def oM :Nat->Ay->SV->SV->Bc E
 |0,_,_,_=>none|d+1,t,x,y=>match P.underlying t with
  |some .bool=>match x,y with
   | .bool a,.bool b=>some (zg a b)|_,_=>none
  |some (.int _)=>match x,y with
   | .int k a,.int k' b=>bif decide (k=k')then some (I8 a b)else none|_,_=>none
  |some .string=>match x,y with
   | .str a,.str b=>some (ii a b)|_,_=>none
  |some (.pointer e)=>match P.info? e with
   |some ie=>rU ie.size x y|none=>none
  |some (.struct fs)=>match x,y with
   | .agg xs,.agg ys=>bif P.stoodInHeld t then none else BK P (oM d) xs ys fs.toList|_,_=>none
  |some (.slice _)=>zM x y|some (.map _ _)=>iA x y|some (.func _ _ _)=>zK x y|some (.interface _)=>match x,y with
   | .nili,.iface _ _=>some (.bool false)| .iface _ _,.nili=>some (.bool false)
   | .iface tx vx, .iface ty vy => bif decide (tx = ty) then
     match P.info? tx with
     |some i=>bif i.comparable then oM d tx vx vy else none|none=>none
    else some (.bool false)
   |_,_=>none
  |_=>none
def aD (t:Ay):SV->Bool
 | .any=>false| .agg _=> !P.eqGuardType P.depth t| .nili=>false|_=>true
def sbin (op:BinOp)(t:Ay)(x y:SV):M SV:=
 match x,y with
 | .int k a,.int k' b=>match op with
  | .shl=>sf U .shl k a b| .shr=>sf U .shr k a b|op=>bif decide (k=k')then xo U op k a b else a7 "kinds"
 | .str a,.str b=>sstr U op a b|x,y=>match op with
  | .eql=>bif aD P t x then match oM P 10000 t x y with
   |some b=>e8 (.bool b)|none=>a7 "eq" else a7 "eq guard"
  | .neq=>bif aD P t x then match oM P 10000 t x y with
   |some b=>e8 (.bool (z9 b))|none=>a7 "eq" else a7 "eq guard"
  |_=>a7 "binop"
def snil (len:E):M SV:=fun s=>.all .b s.fv fun d=>
 .br d (.asm (.e (I8 len (.int 0))) ((I8 len (.int 0)).pr U) (.ret (.bool (.bool true),addF {s with fv:=s.fv+1} (I8 len (.int 0)) true))) (.ret (.bool (.bool false),{s with fv:=s.fv+1}))
def tV (op:BinOp)(t:Ay)(x y:SV):Bc E:=match P.underlying t with
 |some (.slice _)=>match op,x,y with
  | .eql,.sl _ _ _ len _,.nils=>some len| .eql,.lst _ L _,.nils=>some (A5 L)|_,_,_=>none
 |_=>none
def Fa (op:BinOp)(t:Ay)(x y:SV):M SV:=match tV P op t x y with
 |some len=>snil U len|none=>sbin P U op t x y
def srune :M SV:=fun s=>.all .s s.fv fun d=>.asm (.e (A7 (.op .slen [d]) (.int 5))) ((A7 (.op .slen [d]) (.int 5)).pr U) (.ret (.str d,{s with fv:=s.fv+1}))
def Fe (src dst:Ay)(x:SV):M SV:=
 match P.underlying src with
 |none=>a7 "conv"|some _=>match P.underlying dst,x with
  |some (.int k),.int k0 e=>match e with
   | .int n=>e8 (.int k (.int (k.wrap n)))|e=>bif Nat.blt k.bits k0.bits then e8 (.int k (.op (.wrap k) [e]))else c6 (n5 U (rng e k)) fun _=>e8 (.int k e)
  |some .string,.str s=>e8 (.str s)|some .string,.int _ _=>srune U|_,_=>a7 "conv"
def sun (op:UnOp)(x:SV):M SV:=
 match op,x with
 | .neg,.int k e=>mQ U k (ui (.int 0) e)| .not,.bool b=>e8 (.bool (z9 b))|_,_=>a7 "unop"
def xw (t:Ay)(x:SV):Bc SV:=
 match P.underlying t with
 |some (.interface _)=>none|some _=>some (.iface t x)|none=>none
def BP (big:Bool):SV->Au->M SV
 |v,[]=>match v with
  | .int k n=>e8 (.int k n)|_=>a7 "min"
 |v,y::ys=>match v,y with
  | .int k a,.int _ b=>c6 (ij U (bif big then A7 a b else A7 b a)) fun t=>BP big (.int k (bif t then b else a)) ys
  |_,_=>a7 "min"
end
section
variable {P :Ax}{U:Ab}{τ:Tau}{F:Ac}
variable {k:IntKind}{n:Int}
def zX (h1:k.min<=n)(h2:n<=k.max):k.wrap n=n:=by unfold IntKind.wrap;unfold IntKind.min at h1;unfold IntKind.max at h2;cases k<;>simp[IntKind.signed,IntKind.bits]at h1 h2⊢ <;>omega
def EY {e:E}(h:(rng e k).pr U):k.wrap (e.toI U)=e.toI U:=by rw[LV,rng,pE,D9,E4,E4]at h;simp only[Bool.and_eq_true,Bool.not_eq_true',decide_eq_false_iff_not,decide_eq_true_eq]at h;simp only[E1]at h;exact zX (by omega) (by omega)
def cr (op:BinOp)(k:IntKind)(a b:E):(jk op k a b).toI U=Go.bits op k (a.toI U) (b.toI U):=by unfold jk;split<;>rfl
def Bh (a b:E):(Ek a b).toI U=(a.toI U).tdiv (b.toI U):=by unfold Ek;split<;>rfl
def Bi (a b:E):(El a b).toI U=(a.toI U).tmod (b.toI U):=by unfold El;split<;>rfl
def Bj (k:IntKind)(a b:E):(Em k a b).toI U=k.wrap (a.toI U*2^(min (b.toI U).toNat k.bits)):=by unfold Em;split<;>rfl
def Bk (k:IntKind)(a b:E):(Eo k a b).toI U=(a.toI U).fdiv (2^(min (b.toI U).toNat k.bits)):=by unfold Eo;split<;>rfl
def wN (a b:E):((wM a b).den U).toStr=(a.den U).toStr++(b.den U).toStr:=by unfold wM;split<;>rfl
def X8 (a:E):(gm a).toI U=((a.den U).toStr.length:Int):=by unfold gm;split<;>rfl
def eL (a b:E):((pJ a b).den U).toBool=Op.bytesLess (a.den U).toStr (b.den U).toStr:=by unfold pJ;split<;>rfl
def VD.int' {e:E}(h:e.toI U=n):VD P U τ F (.int k e) (.int k n):=by subst h;exact .int k e
def MA:type_of% @VD.int':=@VD.int'
def VD.bool' {e:E}{b:Bool}(h:(e.den U).toBool=b):VD P U τ F (.bool e) (.bool b):=by subst h;exact .bool e
def Mz:type_of% @VD.bool':=@VD.bool'
def dU {e:E}{s:SS}(h:e.toI U=n):OKp U (mQ U k e) s fun a=>VD P U τ F a (.int k (k.wrap n)):=by
 subst h;unfold mQ;split
 ·exact Ml (.int k (.int _))
 ·by_cases hk:k= .i64
  ·subst hk;simp only[decide_true,cond_true];exact OKp.need.bind fun _ s' _ _ hp=>Ml (MA (EY hp).symm)
  ·simp only[hk,decide_false,cond_false];exact Ml (.int k (.op (.wrap k) [_]))
def zo {b:E}(h:(z9 (I8 b (.int 0))).pr U):¬b.toI U=0:=by rw[LV,D9,N8,Bool.not_eq_true',decide_eq_false_iff_not]at h;exact h
theorem Hu {op:BinOp}{a b c:E}(h:scmp op a b=some c):W2 op (a.toI U) (b.toI U)=some (.bool (c.den U).toBool):=by
 unfold scmp at h;split at h<;>simp only[Option.some.injEq,reduceCtorEq]at h<;>subst h<;>simp only[W2,D9,E4,N8,Option.some.injEq,Value.bool.injEq]
 ·grind
 ·grind
def BH {op:BinOp}{a b:E}{s:SS}:OKp U (xo U op k a b) s fun c=>∃v,o7 op k (a.toI U) (b.toI U)=some v/\VD P U τ F c v:=by
 unfold xo;split
 ·exact(dU (m9 a b)).mono fun c h=>⟨_,rfl,h⟩
 ·exact(dU (jl a b)).mono fun c h=>⟨_,rfl,h⟩
 ·exact(dU (Bg a b)).mono fun c h=>⟨_,rfl,h⟩
 ·refine OKp.need.bind fun _ s' _ _ hp=>(dU (Bh a b)).mono fun c h=>⟨_,?_,h⟩
  simp[o7,zo hp]
 ·refine OKp.need.bind fun _ s' _ _ hp=>Ml ⟨_,?_,MA (Bi a b)⟩;simp[o7,zo hp]
 ·exact Ml ⟨_,rfl,MA (cr _ k a b)⟩
 ·exact Ml ⟨_,rfl,MA (cr _ k a b)⟩
 ·exact Ml ⟨_,rfl,MA (cr _ k a b)⟩
 ·exact Ml ⟨_,rfl,MA (cr _ k a b)⟩
 ·split
  ·rename_i c hc;refine Ml ⟨_,?_,.bool c⟩;rw[<-Hu (U:=U) hc];cases op<;>first|rfl| (exact absurd rfl (by assumption))
  ·exact Mg
def eM {b:E}(h:(z9 (A7 b (.int 0))).pr U):0<=b.toI U:=by rw[LV,D9,E4,Bool.not_eq_true',decide_eq_false_iff_not]at h;exact Int.not_lt.1 h
theorem qb {op:BinOp}{a b:E}{s:SS}:OKp U (sf U op k a b) s fun c=>∃v,jV op k (a.toI U) (b.toI U)=some v/\VD P U τ F c v:=by
 unfold sf;refine OKp.need.bind fun _ s' _ _ hp=>?_;have h0:=eM hp;have e:decide (b.toI U<0)=false:=by grind
 split
 ·exact Ml ⟨_,by simp only[jV,e,cond_false],MA (Bj k a b)⟩
 ·exact Ml ⟨_,by simp only[jV,e,cond_false],MA (Bk k a b)⟩
 ·exact Mg
def VD.str' {e:E}{l:Ae}(h:(e.den U).toStr=l):VD P U τ F (.str e) (.string ⟨l.toArray⟩):=by subst h;exact .str e
def Hz {op:BinOp}{a b:E}{s:SS}:OKp U (sstr U op a b) s fun c=>∃v,yd op ⟨(a.den U).toStr.toArray⟩ ⟨(b.den U).toStr.toArray⟩=some v/\VD P U τ F c v:=by
 unfold sstr;split
 ·refine OKp.need.bind fun _ s' _ _ hp=>?_;rw[LV,E4,m9,X8,X8]at hp;simp only[decide_eq_true_eq]at hp;simp only[E1]at hp;refine Ml ⟨_,?_,VD.str' (wN a b)⟩;have hb:Nat.ble ((a.den U).toStr.length+(b.den U).toStr.length) 1000000000=true:=Nat.ble_eq_true_of_le (by omega);simp only[yd,hb,cond_true]
 ·exact Ml ⟨.bool ((a.den U).toStr==(b.den U).toStr),rfl,Mz (Q7 a b)⟩
 ·exact Ml ⟨.bool (!((a.den U).toStr==(b.den U).toStr)),rfl,Mz (by rw[D9,Q7])⟩
 ·exact Ml ⟨.bool (Op.bytesLess (a.den U).toStr (b.den U).toStr),rfl,Mz (eL a b)⟩
 ·exact Ml ⟨.bool (Op.bytesLess (a.den U).toStr (b.den U).toStr|| (a.den U).toStr==(b.den U).toStr),rfl,Mz (by rw[uh,eL,Q7])⟩
 ·exact Ml ⟨.bool (!(Op.bytesLess (a.den U).toStr (b.den U).toStr|| (a.den U).toStr==(b.den U).toStr)),rfl,Mz (by rw[D9,uh,eL,Q7])⟩
 ·exact Ml ⟨.bool (!Op.bytesLess (a.den U).toStr (b.den U).toStr),rfl,Mz (by rw[D9,eL])⟩
 ·exact Mg
def rT {j:Ay->SV->SV->Bc E}{o:Ay->Aw->Aw->Bc Bool}(h:∀t a b v u c,VD P U τ F a v->VD P U τ F b u->j t a b=some c->o t v u=some (c.den U).toBool){l m:Au}{xs ys:Af}(hl:VDL P U τ F l xs)(hm:VDL P U τ F m ys):∀ {g:List Field} {c:E},BK P j l m g=some c->oh P o xs ys g=some (c.den U).toBool
 | [],c,e=>by simp only[BK,Option.some.injEq]at e;subst e;rfl|f::g,c,e=>by
  simp only[BK]at e;simp only[oh];cases hn:f.name== "_" with
  |true=>simp only[hn,cond_true]at e⊢;exact rT h hl hm e|false=>
   simp only[hn,cond_false]at e⊢;split at e
   ·rename_i a b ha hb;split at e
    ·rename_i p q hp hq;simp only[Option.some.injEq]at e;subst e;obtain⟨v,h1,h2⟩:=iD hl ha;obtain⟨u,h3,h4⟩:=iD hm hb;simp only[h1,h3,h _ _ _ _ _ _ h2 h4 hp];rw[pE];cases r:(p.den U).toBool with
     |true=>simp only[Bool.true_and];exact rT h hl hm hq|false=>rfl
    ·cases e
   ·cases e
variable {v:Aw}
def pT {a:SV}(h:VD P U τ F a v)(e:gq a=true):∃p,v= .pointer (some p):=by cases h<;>first|exact⟨_,rfl⟩| (simp[gq]at e)
variable {x y:SV}{u:Aw}{d:Nat}
theorem BL {size:Nat}(hx:VD P U τ F x v)(hy:VD P U τ F y u){c:E}(e:rU size x y=some c){t t':Ay}(ht:P.underlying t=some (.pointer t')){ie:Bb}(hi:P.info? t'=some ie)(hs:ie.size=size):xeq P (d+1) t v u=some (c.den U).toBool:=by
 unfold rU at e;split at e
 ·simp only[Option.some.injEq]at e;subst e;cases hx;cases hy;simp[xeq,ht];rfl
 ·cases hp:gq y with
  |false=>grind|true=>simp only[hp,cond_true,Option.some.injEq]at e;subst e;obtain⟨p,rfl⟩:=pT hy hp;cases hx;simp[xeq,ht];rfl
 ·cases hp:gq x with
  |false=>grind|true=>simp only[hp,cond_true,Option.some.injEq]at e;subst e;obtain⟨p,rfl⟩:=pT hx hp;cases hy;simp[xeq,ht];rfl
 ·rename_i b z row fld b' m f a;cases hb:Nat.beq b b'&&Nat.beq z m&&Nat.beq fld a&&Nat.ble 1 z&&Nat.ble 1 size with
  |false=>grind|true=>
   simp only[hb,cond_true,Option.some.injEq]at e;subst e;simp only[Bool.and_eq_true,Nat.beq_eq,Nat.ble_eq]at hb;obtain⟨⟨⟨⟨rfl,rfl⟩,rfl⟩,hz⟩,j⟩:=hb;cases hx with
   |ptr _ _ _ _ i o h h0=>
    cases hy with
    |ptr _ _ _ _ q o' h' g=>
     rw[h]at h';simp only[Option.some.injEq,Prod.mk.injEq]at h';obtain⟨rfl,rfl⟩:=h';simp only[xeq,ht,l6,cond_true,hi];rw[s7 (by omega),cond_false,N8];congr 1;rw[Bool.eq_iff_iff];simp only[Nat.beq_eq,decide_eq_true_eq];constructor
     ·intro h;have:row.toN U*z=f.toN U*z:=by omega
      have:=Nat.eq_of_mul_eq_mul_right (by omega) this;grind
     ·grind
 ·cases e
theorem VD.not_int {a:SV}(h:VD P U τ F a (.int k n)):a= .any\/ ∃e,a= .int k e:=by
 cases h with
 |any=>grind|int k e=>grind|lst t L clip v h hc=>cases h
theorem VD.not_str {a:SV}{s:ByteArray}(h:VD P U τ F a (.string s)):a= .any\/ ∃e,a= .str e:=by
 cases h with
 |any=>grind|str e=>grind|lst t L clip v h hc=>cases h
def VD.not_complex {a:SV}{f:FloatKind}{m n:Nat}(h:VD P U τ F a (.complex f m n)):a= .any:=by
 cases h with
 |any=>rfl|lst t L clip v h hc=>cases h
def Fh (hx:VD P U τ F x v)(hy:VD P U τ F y u){c:E}(e:zM x y=some c){t t':Ay}(ht:P.underlying t=some (.slice t')):xeq P (d+1) t v u=some (c.den U).toBool:=by unfold zM at e;split at e<;>simp only[Option.some.injEq,reduceCtorEq]at e<;>subst e<;>cases hx<;>cases hy<;>simp[xeq,ht]<;>rfl
def uS (hx:VD P U τ F x v)(hy:VD P U τ F y u){c:E}(e:iA x y=some c){t t' a:Ay}(ht:P.underlying t=some (.map t' a)):xeq P (d+1) t v u=some (c.den U).toBool:=by unfold iA at e;split at e<;>simp only[Option.some.injEq,reduceCtorEq]at e<;>subst e<;>cases hx<;>cases hy<;>simp[xeq,ht]<;>rfl
def Fg (hx:VD P U τ F x v)(hy:VD P U τ F y u){c:E}(e:zK x y=some c){t:Ay}{ps a:Array Ay}{b:Bool}(ht:P.underlying t=some (.func ps a b)):xeq P (d+1) t v u=some (c.den U).toBool:=by unfold zK at e;split at e<;>simp only[Option.some.injEq,reduceCtorEq]at e<;>subst e<;>cases hx<;>cases hy<;>simp[xeq,ht]<;>rfl
theorem lO :∀(d:Nat) (t:Ay) (a b:SV) (v u:Aw) (c:E),VD P U τ F a v->VD P U τ F b u->oM P d t a b=some c->xeq P d t v u=some (c.den U).toBool
 |0,t,a,b,v,u,c,ha,hb,e=>by simp[oM]at e|d+1,t,a,b,v,u,c,ha,hb,e=>by
  simp only[oM]at e;split at e
  ·rename_i ht;split at e
   ·simp only[Option.some.injEq]at e;subst e;cases ha;cases hb;simp only[xeq,ht,pG]
   ·cases e
  ·rename_i ht;split at e
   ·rename_i k x k' y;by_cases hk:k=k'
    ·simp only[hk,decide_true,cond_true,Option.some.injEq]at e;subst e;subst hk;cases ha;cases hb;simp only[xeq,ht,N8,decide_true,cond_true]
    ·grind
   ·cases e
  ·rename_i ht;split at e
   ·simp only[Option.some.injEq]at e;subst e;cases ha;cases hb;simp only[xeq,ht,Q7]
   ·cases e
  ·rename_i t' ht;split at e
   ·rename_i ie g;exact BL ha hb e ht g rfl
   ·cases e
  ·rename_i o ht;split at e
   ·rename_i xs ys;cases hs:P.stoodInHeld t with
    |true=>grind|false=>simp only[hs,cond_false]at e;obtain⟨vs,rfl,h1⟩:=VDL.of_agg ha;obtain⟨us,rfl,h2⟩:=VDL.of_agg hb;simp only[xeq,ht,hs,cond_false];exact rT (lO d) h1 h2 e
   ·cases e
  ·rename_i ht;exact Fh ha hb e ht
  ·rename_i ht;exact uS ha hb e ht
  ·rename_i ht;exact Fg ha hb e ht
  ·rename_i ht;split at e
   ·simp only[Option.some.injEq]at e;subst e;cases ha;cases hb;simp only[xeq,ht];rfl
   ·simp only[Option.some.injEq]at e;subst e;cases ha;cases hb;simp only[xeq,ht];rfl
   ·rename_i j vx ty m;cases ha with
    |iface _ _ x hx=>
     cases hb with
     |iface _ _ y hy=>
      by_cases hk:j=ty
      ·subst hk;simp only[decide_true,cond_true]at e;split at e
       ·rename_i i hi;cases f:i.comparable with
        |false=>grind|true=>simp only[f,cond_true]at e;simp only[xeq,ht,decide_true,cond_true,hi,f];exact lO d j vx m x y c hx hy e
       ·cases e
      ·simp only[hk,decide_false,cond_false,Option.some.injEq]at e;subst e;simp only[xeq,ht,hk,decide_false,cond_false];rfl
   ·cases e
  ·cases e
def PV.guard {k:Kd}{d:Dat}(h:PV P F k v d)(t:Ay):I1 P t v=true:=by cases h<;>rfl
def eV {t:Ay}{a:SV}(h:VD P U τ F a v)(e:aD P t a=true):I1 P t v=true:=by
 cases h with
 |any=>simp[aD]at e|nili=>simp[aD]at e|yld=>first|exact e|rfl|simp[aD,I1]at e⊢
 |agg l xs h1 h2=>exact e|lst t' L clip v h hc=>exact h.guard t|_=>rfl
def N2 {op:BinOp}{t:Ay}{w:Aw}(h:J3 P op t v u=some w):v6 P op t v u=some w:=by unfold v6;rw[h]
theorem R1 {op:BinOp}{t:Ay}(h1:∀k a k' b,v= .int k a->u= .int k' b->False)(h2:∀a b,v= .string a->u= .string b->False)(h3:∀f m n,u= .complex f m n->False):J3 P op t v u=match op with
  | .eql=>bif I1 P t v then match xeq P 10000 t v u with
   |some b=>some (.bool b)|none=>none else none
  | .neq=>bif I1 P t v then match xeq P 10000 t v u with
   |some b=>some (.bool (!b))|none=>none else none
  |_=>none:=by
 unfold J3;grind
def FI {op:BinOp}{t:Ay}{a b:Int}(h:o7 op k a b=some v):J3 P op t (.int k a) (.int k b)=some v:=by unfold J3;simp only[decide_true,cond_true];cases op<;>first|exact h| (simp[o7,W2]at h)
variable {b:SV}
theorem Hs {op:BinOp}{t:Ay}{a:SV}(ha:VD P U τ F a v)(hb:VD P U τ F b u){s:SS}:OKp U (sbin P U op t a b) s fun c=>∃w,v6 P op t v u=some w/\VD P U τ F c w:=by
 unfold sbin;split
 ·rename_i k x k' y;cases ha;cases hb;split
  ·exact qb.mono fun c ⟨w,h1,h2⟩=>⟨w,N2 h1,h2⟩
  ·exact qb.mono fun c ⟨w,h1,h2⟩=>⟨w,N2 h1,h2⟩
  ·by_cases hk:k=k'
   ·subst hk;simp only[decide_true,cond_true];exact BH.mono fun c ⟨w,h1,h2⟩=>⟨w,N2 (FI h1),h2⟩
   ·simp only[hk,decide_false,cond_false];exact Mg
 ·cases ha;cases hb;exact Hz.mono fun c ⟨w,h1,h2⟩=>⟨w,N2 h1,h2⟩
 ·rename_i hi hs;have key:∀c,aD P t a=true->oM P 10000 t a b=some c->(∀k p k' q,v= .int k p->u= .int k' q->False)/\(∀p q,v= .string p->u= .string q->False)/\(∀f m n,u= .complex f m n->False):=by
   intro c g hq;have na:a≠ .any:=fun e=>by subst e;simp[aD]at g
   have nb:b≠ .any:=by
    intro e;subst e;have:∀d,oM P (d+1) t a .any=none:=by intro d;simp only[oM];split<;>(try rfl)<;>(try (split<;>first|rfl| (rename_i h;cases h)|skip));all_goals (first| (unfold rU;split<;>first|rfl| (rename_i h;cases h;done)| (simp[gq]))| (unfold zM;split<;>first|rfl| (rename_i h;cases h;done))| (unfold iA;split<;>first|rfl| (rename_i h;cases h;done))| (unfold zK;split<;>first|rfl| (rename_i h;cases h;done))|simp_all)
    grind
   refine⟨fun k p k' q j o=>?_,fun p q j o=>?_,fun f m n e=>?_⟩
   ·subst j;subst o;obtain⟨e,rfl⟩:=ha.not_int.resolve_left na;obtain⟨e',rfl⟩:=hb.not_int.resolve_left nb;grind
   ·subst j;subst o;obtain⟨e,rfl⟩:=ha.not_str.resolve_left na;obtain⟨e',rfl⟩:=hb.not_str.resolve_left nb;grind
   ·subst e;exact nb hb.not_complex
  split
  ·cases g:aD P t a with
   |false=>exact Mg|true=>
    simp only[cond_true];split
    ·rename_i c hc;obtain⟨k1,k2,k3⟩:=key c g hc;refine Ml ⟨_,N2 ?_,.bool c⟩;rw[R1 k1 k2 k3];simp only[eV ha g,cond_true,lO _ _ _ _ _ _ _ ha hb hc]
    ·exact Mg
  ·cases g:aD P t a with
   |false=>exact Mg|true=>
    simp only[cond_true];split
    ·rename_i c hc;obtain⟨k1,k2,k3⟩:=key c g hc;refine Ml ⟨_,N2 ?_,Mz (D9 c)⟩;rw[R1 k1 k2 k3];simp only[eV ha g,cond_true,lO _ _ _ _ _ _ _ ha hb hc]
    ·exact Mg
  ·exact Mg
theorem Fb {op:BinOp}{t:Ay}{a:SV}(ha:VD P U τ F a v)(hb:VD P U τ F b u){s:SS}:OKp U (Fa P U op t a b) s fun c=>∃w,v6 P op t v u=some w/\VD P U τ F c w:=by
 unfold Fa;split
 ·rename_i len h;unfold tV at h;split at h
  ·rename_i t' ht;split at h
   ·rename_i b' z off f cap;simp only[Option.some.injEq]at h;subst h;have g:I1 P t v=true:=eV ha rfl;cases hb;intro Q hq hf;cases ha with
    |sl _ _ _ _ _ i o c k h0 h1 hc=>refine⟨_,_,(hq false).2 (fun h=>by rw[LV]at h;cases h),⟨rfl,rfl,⟨[],rfl⟩,rfl⟩,hf,.bool false,N2 ?_,.bool (.bool false)⟩;rw[R1 (fun _ _ _ _ h=>by cases h) (fun _ _ h=>by cases h) (fun _ _ _ h=>by cases h)];simp only[g,cond_true];simp[xeq,ht]|sl0 _ _ _ _ _ k h0 h1 hc=>have hp:(I8 f (.int 0)).pr U:=(LV U _).2 (by rw[N8];simp only[h1];rfl);refine⟨_,_,(hq true).1 ((LV U _).2 rfl) hp,⟨rfl,rfl,⟨[(I8 f (.int 0),true)],rfl⟩,rfl⟩,hf.cons ((LV U _).1 hp),.bool true,N2 ?_,.bool (.bool true)⟩;rw[R1 (fun _ _ _ _ h=>by cases h) (fun _ _ h=>by cases h) (fun _ _ _ h=>by cases h)];simp only[g,cond_true];simp[xeq,ht]
   ·rename_i t' L clip;cases h;have g:I1 P t v=true:=eV ha rfl;cases hb;intro Q hq hf;cases ha with
    |lst _ _ _ _ j _=>
     have key:∀(v:Aw) (d:Dat),PV P F (.sl t') v d->v= .slice none 0 0->d.rows=[]:=fun v d h e=>by
      cases h with
      |nils=>rfl|vague=>rfl|sl=>cases e
     have m:∀(v:Aw) (d:Dat),PV P F (.sl t') v d->v= .slice none 0 0\/ ∃a l c,v= .slice (some a) l c:=fun v d h=>by
      cases h with
      |nils=>grind|vague=>grind|sl=>grind
     by_cases p:v= .slice none 0 0
     ·subst p;have q:(L.toR U).length=0:=by have h0:=key _ (.lst (L.toR U)) j rfl;rw[show L.toR U=[]from h0];rfl
      have hp:(I8 (A5 L) (.int 0)).pr U:=(LV U _).2 (by rw[N8];show decide ((A5 L).toI U=(E.int 0).toI U)=true;rw[i4,q];rfl);refine⟨_,_,(hq true).1 ((LV U _).2 rfl) hp,⟨rfl,rfl,⟨[(I8 (A5 L) (.int 0),true)],rfl⟩,rfl⟩,hf.cons ((LV U _).1 hp),.bool true,N2 ?_,.bool (.bool true)⟩;rw[R1 (fun _ _ _ _ h=>by cases h) (fun _ _ h=>by cases h) (fun _ _ _ h=>by cases h)];simp only[g,cond_true];simp[xeq,ht]
     ·have hs:∃a l c,v= .slice (some a) l c:=(m _ _ j).resolve_left p;obtain⟨a,l,c,rfl⟩:=hs;refine⟨_,_,(hq false).2 (fun h=>by rw[LV]at h;cases h),⟨rfl,rfl,⟨[],rfl⟩,rfl⟩,hf,.bool false,N2 ?_,.bool (.bool false)⟩;rw[R1 (fun _ _ _ _ h=>by cases h) (fun _ _ h=>by cases h) (fun _ _ _ h=>by cases h)];simp only[g,cond_true];simp[xeq,ht]
   ·cases h
  ·cases h
 ·exact Hs ha hb
def GE (r:Int):(Utf8.encode r).data.toList.length<=4:=by
 unfold Utf8.encode;simp only[];generalize (if Utf8.valid r=true then r.toNat else Utf8.runeError)=c;by_cases h1:c<0x80
 ·rw[if_pos h1];exact Nat.le_of_ble_eq_true rfl
 ·rw[if_neg h1];by_cases h2:c<0x800
  ·rw[if_pos h2];exact Nat.le_of_ble_eq_true rfl
  ·rw[if_neg h2];by_cases h3:c<0x10000
   ·rw[if_pos h3];exact Nat.le_of_ble_eq_true rfl
   ·rw[if_neg h3];exact Nat.le_of_ble_eq_true rfl
def Ff {src dst:Ay}{a:SV}(ha:VD P U τ F a v){s:SS}:OKp U (Fe P U src dst a) s fun c=>∃w,ew P src dst v=some w/\VD P U τ F c w:=by
 unfold Fe;split
 ·exact Mg
 ·rename_i d hd;split
  ·rename_i k k0 e hk;cases ha;split
   ·rename_i n;exact Ml ⟨.int k (k.wrap n),by simp only[ew,hd,hk];rfl,MA rfl⟩
   ·cases Nat.blt k.bits k0.bits with
    |true=>exact Ml ⟨.int k (k.wrap (e.toI U)),by simp only[ew,hd,hk],MA rfl⟩|false=>exact OKp.need.bind fun _ s' _ _ hp=>Ml ⟨.int k (k.wrap (e.toI U)),by simp only[ew,hd,hk],MA (EY hp).symm⟩
  ·rename_i e hk;cases ha;exact Ml ⟨_,by simp only[ew,hd,hk],.str e⟩
  ·rename_i e hk;cases ha;intro Q hq hf;exact⟨_,_,hq (Utf8.encode (e.toI U)).data.toList ((LV U _).2 (by rw[E4];exact decide_eq_true (by have:=GE (e.toI U);show((Utf8.encode (e.toI U)).data.toList.length:Int)<5;omega))),⟨rfl,rfl,⟨[],rfl⟩,rfl⟩,hf,.string (Utf8.encode (e.toI U)),by simp only[ew,hd,hk,Gd],.str (.dat _ (.str _))⟩
  ·exact Mg
def Js {op:UnOp}{a:SV}(ha:VD P U τ F a v){s:SS}:OKp U (sun U op a) s fun c=>∃w,xun op v=some w/\VD P U τ F c w:=by
 unfold sun;split
 ·cases ha;exact(dU (jl _ _)).mono fun c h=>⟨_,rfl,h⟩
 ·cases ha;exact Ml ⟨_,rfl,Mz (D9 _)⟩
 ·exact Mg
theorem BN {t:Ay}{a:SV}(ha:VD P U τ F a v)(e:xw P t a=some b):∃w,gG P t v=some w/\VD P U τ F b w:=by
 unfold xw at e;unfold gG;cases h:P.underlying t with
 |none=>grind|some d=>
  rw[h]at e;cases d<;>first
   | (simp at e;done)
   | (simp only[Option.some.injEq]at e;subst e;exact⟨_,rfl,.iface t a v ha⟩)
def rZ {big:Bool}:∀ {l:Au} {xs:Af} {a:SV} {v:Aw} {s:SS},VD P U τ F a v->VDL P U τ F l xs->OKp U (BP U big a l) s fun c=>∃w,dp big v xs=some w/\VD P U τ F c w
 | [],xs,a,v,s,ha,hl=>by
  have:xs=[]:=List.eq_nil_of_length_eq_zero hl.1.symm;subst this;unfold BP;split
  ·cases ha;exact Ml ⟨_,rfl,.int _ _⟩
  ·exact Mg
 |b::l,xs,a,v,s,ha,hl=>by
  obtain⟨y,ys,rfl,hb,f⟩:=hl.uncons;unfold BP;split
  ·rename_i k x k' z;cases ha;cases hb;refine OKp.test.bind fun t s' _ _ ht=>?_;have e:(bif big then(bif decide (x.toI U<z.toI U)then z.toI U else x.toI U)else(bif decide (z.toI U<x.toI U)then z.toI U else x.toI U))=(bif t then z else x).toI U:=by
    cases big
    ·simp only[cond_false,E4]at ht⊢;rw[ht];cases t<;>rfl
    ·simp only[cond_true,E4]at ht⊢;rw[ht];cases t<;>rfl
   have:=rZ (big:=big) (s:=s') (MA (P:=P) (τ:=τ) (F:=F) (k:=k) e.symm) f;exact this
  ·exact Mg
end
end Go.Sx
namespace Go.Sx
open Go.Xe
section
variable {P :Ax}{U:Ab}
structure Ext (τ:Tau)(F:Ac)(s:SS)(hp:Hp)(τ':Tau)(F':Ac)(s':SS)(hp':Hp):Prop where
 t:Tle τ τ'
 f:Fle F F'
 nx:hp.nx<=hp'.nx
 snx:s.nx<=s'.nx
 st:∀b,b<s.nx->τ' b=τ b
 low:∀b x,s'.get b=some x->b<s.nx-> ∃y,s.get b=some y
 hh:∃l,s'.h=l++s.h/\(∀i,i<hp.nx->(∀b x o,s.get b=some x->τ b=some (some (i,o))->b∈l.map Prod.fst->False)->hp'.m.get i=hp.m.get i)/\
  (∀b i o,s.nx<=b->τ' b=some (some (i,o))->hp.nx<=i\/ ∃b0 x o0,s.get b0=some x/\τ b0=some (some (i,o0))/\b0∈l.map Prod.fst)/\
  (∀i y,i<hp.nx->F' i=some y->F i=some y\/ ∃b o,τ' b=some (some (i,o))/\b∈l.map Prod.fst)/\
  ((∀p∈l,p.2≠none)-> ∀i y,F' i=some y->F i=some y)
 hf:∃l,s'.fc=l++s.fc
 win:∃l,s'.h=l++s.h/\ ∀b c e z i o cs n,s.get b=some (.cells c e z)->τ b=some (some (i,o))->i<hp.nx->hp.m.get i=some (.cells cs n e z)->(∀x,(b,x)∈l-> ∃c',x=some (.cells c' e z)/\c'.length=c.length)->
  ∃cs',hp'.m.get i=some (.cells cs' n e z)/\ ∀j,j<o\/o+c.length<=j->cs'.get j=cs.get j
variable {b:Nat}
def Jd {l m:List (Nat×Bc w9)}{c:Au}{e z:Nat}{x0:w9}(h0:(match lk m b with|some x=>x|none=>none)=some x0)(hx:∃c0,x0= .cells c0 e z/\c0.length=c.length)(h:∀x,(b,x)∈l-> ∃c',x=some (.cells c' e z)/\c'.length=c.length):∃c',(match lk (l++m) b with|some x=>x|none=>none)=some (.cells c' e z)/\c'.length=c.length:=by
 induction l with
 |nil=>obtain⟨c0,rfl,h2⟩:=hx;exact⟨c0,h0,h2⟩
 |cons p l a=>
  obtain⟨k,y⟩:=p;rw[List.cons_append,p8];by_cases hk:k=b
  ·subst hk;obtain⟨c',h1,h2⟩:=h y (List.mem_cons_self ..);rw[if_pos rfl];exact⟨c',h1,h2⟩
  ·rw[if_neg hk];exact a fun x hx=>h x (List.mem_cons_of_mem _ hx)
variable {τ':Tau}{F':Ac}{s':SS}{hp':Hp}
theorem Ext.kept {τ:Tau}{F:Ac}{s:SS}{hp:Hp}(h:Ext τ F s hp τ' F' s' hp'):∀i,i<hp.nx->(∀b x o,s.get b=some x->τ b=some (some (i,o))->False)->hp'.m.get i=hp.m.get i:=by obtain⟨l,_,h1,_⟩:=h.hh;grind
theorem Ext.fresh {τ:Tau}{F:Ac}{s:SS}{hp:Hp}(h:Ext τ F s hp τ' F' s' hp'):∀b i o,s.nx<=b->τ' b=some (some (i,o))->hp.nx<=i\/ ∃b0 x o0,s.get b0=some x/\τ b0=some (some (i,o0)):=by obtain⟨l,_,_,h1,_⟩:=h.hh;grind
variable {x:w9}
def SD.bound {τ:Tau}{F:Ac}{s:SS}{hp:Hp}(h:SD P U τ F s hp)(hb:s.get b=some x):b<s.nx:=by
 have:τ b≠none:=by rcases h.live b x hb with⟨i,o,y,h1,_⟩| ⟨h1,_⟩<;>rw[h1]<;>simp
 exact Nat.lt_of_not_le fun a=>this (h.new b a)
def Ext.refl {τ:Tau}{F:Ac}{s:SS}{hp:Hp}(h:SD P U τ F s hp):Ext τ F s hp τ F s hp:=
 ⟨Mx τ,LZ F,Nat.le_refl _,Nat.le_refl _,fun _ _=>rfl,fun b x hb _=>⟨x,hb⟩,⟨[],rfl,fun _ _ _=>rfl,fun b i o hb ht=>(by rw[h.new b hb]at ht;cases ht),fun _ _ _ h=>.inl h,fun _ _ _ h=>h⟩,⟨[],rfl⟩,⟨[],rfl,fun _ _ _ _ _ _ cs _ _ _ _ a _=>⟨cs,a,fun _ _=>rfl⟩⟩⟩
variable {F2:Ac}
theorem Ext.trans {τ τ1 τ2:Tau}{F F1:Ac}{s s1 s2:SS}{hp hp1 hp2:Hp}(h:Ext τ F s hp τ1 F1 s1 hp1)(k:Ext τ1 F1 s1 hp1 τ2 F2 s2 hp2):Ext τ F s hp τ2 F2 s2 hp2:=by
 obtain⟨B,a1,a2,a3,a4,a5⟩:=h.hh;obtain⟨C,b1,b2,b3,b4,b5⟩:=k.hh;refine⟨h.t.trans k.t,h.f.trans k.f,Nat.le_trans h.nx k.nx,Nat.le_trans h.snx k.snx,fun b hb=>?_,fun b x hb hlt=>?_,⟨C++B,by rw[b1,a1,List.append_assoc],fun i hi hn=>?_,fun b i o hb ht=>?_,fun i y hi hy=>?_,fun hp i y hy=>a5 (fun p h=>hp p (List.mem_append_right _ h)) i y (b5 (fun p h=>hp p (List.mem_append_left _ h)) i y hy)⟩,?_,?_⟩
 ·rw[k.st b (Nat.lt_of_lt_of_le hb h.snx),h.st b hb]
 ·obtain⟨y,hy⟩:=k.low b x hb (Nat.lt_of_lt_of_le hlt h.snx);exact h.low b y hy hlt
 ·rw[b2 i (Nat.lt_of_lt_of_le hi h.nx) ?_,a2 i hi fun b x o hb ht hm=>hn b x o hb ht (by simp only[List.map_append,List.mem_append];exact .inr hm)];intro b x o hb ht hm;by_cases hlt:b<s.nx
  ·obtain⟨y,hy⟩:=h.low b x hb hlt;rw[h.st b hlt]at ht;grind
  ·grind
 ·have key:∀b i o,s.nx<=b->τ1 b=some (some (i,o))->hp.nx<=i\/ ∃b0 x o0,s.get b0=some x/\τ b0=some (some (i,o0))/\b0∈(C++B).map Prod.fst:=by grind
  by_cases hlt:b<s1.nx
  ·rw[k.st b hlt]at ht;grind
  ·rcases b3 b i o (Nat.le_of_not_lt hlt) ht with h1| ⟨b0,y,o0,h1,h2,h3⟩
   ·exact .inl (Nat.le_trans h.nx h1)
   ·by_cases a:b0<s.nx
    ·obtain⟨z,hz⟩:=h.low b0 y h1 a;rw[h.st b0 a]at h2;grind
    ·grind
 ·rcases b4 i y (Nat.lt_of_lt_of_le hi h.nx) hy with h1| ⟨b,o,h1,h2⟩
  ·rcases a4 i y hi h1 with h2| ⟨b,o,h2,h3⟩
   ·grind
   ·exact .inr ⟨b,o,k.t _ _ h2,by simp only[List.map_append,List.mem_append];exact .inr h3⟩
  ·grind
 ·obtain⟨l,e⟩:=h.hf;obtain⟨m,e'⟩:=k.hf;exact⟨m++l,by rw[e',e,List.append_assoc]⟩
 ·obtain⟨l,A,L⟩:=h.win;obtain⟨m,E,M⟩:=k.win;refine⟨m++l,by rw[E,A,List.append_assoc],fun b c e z i o cs n hb ht hi K hl=>?_⟩;obtain⟨r,G,H⟩:=L b c e z i o cs n hb ht hi K fun x hx=>hl x (List.mem_append_right _ hx);obtain⟨D,g,q⟩:=Jd (l:=l) (m:=s.h) (b:=b) (c:=c) (e:=e) (z:=z) hb ⟨c,rfl,rfl⟩ fun x hx=>hl x (List.mem_append_right _ hx);rw[<-A]at g;obtain⟨w,I,J⟩:=M b D e z i o r n g (h.t _ _ ht) (Nat.lt_of_lt_of_le hi h.nx) G fun x hx=>let⟨c',q1,q2⟩:=hl x (List.mem_append_left _ hx);⟨c',q1,q2.trans q.symm⟩
  exact⟨w,I,fun j hj=>(J j (by rw[q];exact hj)).trans (H j hj)⟩
def SD.only {τ:Tau}{F:Ac}{s:SS}{hp:Hp}(h:SD P U τ F s hp)(a:W8 s s')(hf:FT U s'.fc):SD P U τ F s' hp:=
 ⟨fun b x hb=>h.live b x (by rw[<-a.get];exact hb),fun b c x y i o j q hb hc=>h.inj b c x y i o j q (by rw[<-a.get];exact hb) (by rw[<-a.get];exact hc),
  h.frz,h.lt,h.flt,fun b hb=>h.new b (by rw[<-a.nx];exact hb),hf,fun r hr=>h.fz r (by rw[<-a.fz];exact hr)⟩
def Ext.only {τ:Tau}{F:Ac}{s:SS}{hp:Hp}(h:SD P U τ F s hp)(a:W8 s s'):Ext τ F s hp τ F s' hp:=
 ⟨Mx τ,LZ F,Nat.le_refl _,by rw[a.nx];exact Nat.le_refl _,fun _ _=>rfl,fun b x hb _=>⟨x,by rw[<-a.get];exact hb⟩,
  ⟨[],by rw[a.h];rfl,fun _ _ _=>rfl,fun b i o hb ht=>(by rw[h.new b hb]at ht;cases ht),fun _ _ _ h=>.inl h,fun _ _ _ h=>h⟩,a.fc,⟨[],by rw[a.h];rfl,fun _ _ _ _ _ _ cs _ _ _ _ c _=>⟨cs,c,fun _ _=>rfl⟩⟩⟩
def LY:type_of% @Ext.only:=@Ext.only
variable (P U) in
def OKh {α:Type}(m:M α)(τ:Tau)(F:Ac)(s:SS)(hp:Hp)(R:α->Tau->(Ac)->Hp->Prop):Prop:=
 ∀Q,(m s).vc U Q->SD P U τ F s hp-> ∃a s',Q (a,s')/\ ∃τ' F' hp',Ext τ F s hp τ' F' s' hp'/\SD P U τ' F' s' hp'/\R a τ' F' hp'
variable {τ :Tau}{F:Ac}{s:SS}{hp:Hp}
def OKh.ret {α:Type}{a:α}{R:α->Tau->(Ac)->Hp->Prop}(h:R a τ F hp):OKh P U (e8 a) τ F s hp R:=fun _ hq hs=>⟨a,s,hq,τ,F,hp,Ext.refl hs,hs,h⟩
def Mf:type_of% @OKh.ret:=@OKh.ret
def OKh.fail {α:Type}{t:String}{R:α->Tau->(Ac)->Hp->Prop}:OKh P U (a7 t:M α) τ F s hp R:=fun _ hq _=>hq.elim
def Md:type_of% @OKh.fail:=@OKh.fail
def OKp.up {α:Type}{m:M α}{R:α->Prop}(h:OKp U m s R):OKh P U m τ F s hp fun a τ' F' hp'=>τ'=τ/\F'=F/\hp'=hp/\R a:=by intro Q hq hs;obtain⟨a,s',h1,h2,h3,h4⟩:=h Q hq hs.fc;exact⟨a,s',h1,τ,F,hp,LY hs h2,hs.only h2 h3,rfl,rfl,rfl,h4⟩
def OKh.mono {α:Type}{m:M α}{R c:α->Tau->(Ac)->Hp->Prop}(h:OKh P U m τ F s hp R)(hr:∀a τ' F' hp',Tle τ τ'->Fle F F'->R a τ' F' hp'->c a τ' F' hp'):OKh P U m τ F s hp c:=by intro Q hq hs;obtain⟨a,s',h1,τ',F',hp',h2,h3,h4⟩:=h Q hq hs;exact⟨a,s',h1,τ',F',hp',h2,h3,hr _ _ _ _ h2.t h2.f h4⟩
def OKh.bind {α f:Type}{m:M α}{k:α->M f}{R:α->Tau->(Ac)->Hp->Prop}{c:f->Tau->(Ac)->Hp->Prop}(h:OKh P U m τ F s hp R)(hk:∀a τ' F' s' hp',Ext τ F s hp τ' F' s' hp'->SD P U τ' F' s' hp'->R a τ' F' hp'->OKh P U (k a) τ' F' s' hp' c):OKh P U (c6 m k) τ F s hp c:=by intro Q hq hs;unfold c6 at hq;rw[My]at hq;obtain⟨a,s1,h1,τ1,F1,hp1,h2,h3,h4⟩:=h _ hq hs;obtain⟨b,s2,h5,τ2,F2,hp2,g,h7,j⟩:=hk a τ1 F1 s1 hp1 h2 h3 h4 Q h1 h3;exact⟨b,s2,h5,τ2,F2,hp2,Ext.trans h2 g,h7,j⟩
def OKh.read {α:Type}{k:SS->M α}{R:α->Tau->(Ac)->Hp->Prop}(h:OKh P U (k s) τ F s hp R):OKh P U (o8 k) τ F s hp R:=h
def Me:type_of% @OKh.read:=@OKh.read
def OKh.bindp {α f:Type}{m:M α}{k:α->M f}{R:α->Prop}{c:f->Tau->(Ac)->Hp->Prop}(h:OKp U m s R)(hk:∀a s',W8 s s'->SD P U τ F s' hp->R a->OKh P U (k a) τ F s' hp c):OKh P U (c6 m k) τ F s hp c:=by intro Q hq hs;unfold c6 at hq;rw[My]at hq;obtain⟨a,s1,h1,h2,h3,h4⟩:=h _ hq hs.fc;have hs1:=hs.only h2 h3;obtain⟨b,s2,h5,τ2,F2,hp2,g,h7,j⟩:=hk a s1 h2 hs1 h4 Q h1 hs1;exact⟨b,s2,h5,τ2,F2,hp2,Ext.trans (LY hs h2) g,h7,j⟩
def Mb:type_of% @OKh.bindp:=@OKh.bindp
theorem OKh.bindE {α f:Type}{m:M α}{k:α->M f}{R:α->Tau->(Ac)->Hp->Prop}{c:f->Tau->(Ac)->Hp->Prop}(h:OKh P U m τ F s hp R)(hk:∀a τ1 F1 s1 hp1,Ext τ F s hp τ1 F1 s1 hp1->SD P U τ1 F1 s1 hp1->R a τ1 F1 hp1-> ∀Q,(k a s1).vc U Q-> ∃b s2,Q (b,s2)/\ ∃τ2 F2 hp2,Ext τ F s hp τ2 F2 s2 hp2/\SD P U τ2 F2 s2 hp2/\c b τ2 F2 hp2):OKh P U (c6 m k) τ F s hp c:=by intro Q hq hs;unfold c6 at hq;rw[My]at hq;obtain⟨a,s1,h1,τ1,F1,hp1,h2,h3,h4⟩:=h _ hq hs;grind
def Ext.shrink {τ:Tau}{F:Ac}{s:SS}{hp hp2:Hp}(h:Ext τ F s hp τ' F' s' hp')(hn:hp'.nx<=hp2.nx)(hm:∀i,i<hp.nx->hp2.m.get i=hp'.m.get i)(hF:∀i y,F2 i=some y->F' i=some y)(hf:Fle F F2):Ext τ F s hp τ' F2 s' hp2:=by
 obtain⟨l,a1,a2,a3,a4,a5⟩:=h.hh;exact⟨h.t,hf,Nat.le_trans h.nx hn,h.snx,h.st,h.low,⟨l,a1,fun i hi a=>by rw[hm i hi];exact a2 i hi a,a3,fun i y hi hy=>a4 i y hi (hF i y hy),fun hp i y hy=>a5 hp i y (hF i y hy)⟩,h.hf,
  let⟨l,f,j⟩:=h.win;⟨l,f,fun b c e z i o cs n hb ht hi g hl=>by rw[hm i hi];exact j b c e z i o cs n hb ht hi g hl⟩⟩
variable {y:Blk}
def Ext.dfr {τ:Tau}{F:Ac}{s:SS}{hp:Hp}(h:Ext τ F s hp τ' F' s' hp')(hs:SD P U τ F s hp){r:Nat}(hr:r<hp.nx)(a:hp.m.get r=some y)(hy:y= .dfr\/F r=some y):hp'.m.get r=some y:=by
 rw[h.kept r hr fun b x o hb ht=>?_,a];rcases hs.live b x hb with⟨i,o',c,h1,h2,h3,h4⟩| ⟨h1,_⟩
 ·rw[ht]at h1;cases h1;rw[a]at h2;cases h2;rcases hy with rfl|hy
  ·cases x with
   |cells l e z=>obtain⟨cs,n,h,_⟩:=h4;cases h
   |rows L e z ph=>obtain⟨cs,n,h,_⟩:=h4;cases h
   |map L kt vt=>obtain⟨_,es,reg,h,_⟩:=h4;cases h
   |iter s p=>obtain⟨_,n,h,_⟩:=h4;cases h
  ·rw[hy]at h3;cases h3
 ·rw[ht]at h1;cases h1
def put (τ:Tau)(b:Nat)(p:Bc (Nat×Nat)):Tau:=fun c=>if c=b then some p else τ c
def o9 (τ:Tau)(b:Nat)(p:Bc (Nat×Nat)):put τ b p b=some p:=by simp[put]
def F5 (τ:Tau){c:Nat}(p:Bc (Nat×Nat))(h:c≠b):put τ b p c=τ c:=by simp[put,h]
theorem js {τ:Tau}(p:Bc (Nat×Nat))(h:τ b=none):Tle τ (put τ b p):=fun c q hc=>by
 by_cases e:c=b
 ·grind
 ·rw[F5 τ p e];exact hc
def BD.mono {τ:Tau}{F:Ac}(ht:Tle τ τ')(hf:Fle F F'){o:Nat}(h:BD P U τ F o x y):BD P U τ' F' o x y:=by
 cases x with
 |cells l e z=>obtain⟨cs,n,h1,h2,h3⟩:=h;exact⟨cs,n,h1,h2,fun j a ha=>let⟨x,k1,k2⟩:=h3 j a ha;⟨x,k1,k2.mono ht hf⟩⟩
 |rows L e z ph=>obtain⟨cs,n,h1,⟨h2,h3,h4,h5⟩,f⟩:=h;exact⟨cs,n,h1,⟨h2,h3,h4,fun r k row d hr hk=>let⟨x,k1,k2⟩:=h5 r k row d hr hk;⟨x,k1,fun kd c=>(k2 kd c).mono P hf⟩⟩,f⟩
 |map L kt vt=>obtain⟨h0,es,reg,h1,hr,h2,h3⟩:=h;exact⟨h0,es,reg,h1,hr,h2,fun j row e hr he=>let⟨q,ks,d,k1,k2,k3,g,m⟩:=h3 j row e hr he;⟨q,ks,d,k1,k2,k3,g,m.mono P hf⟩⟩
 |iter s p=>exact h
def AG.mono {τ:Tau}{F:Ac}(ht:Tle τ τ')(hf:Fle F F'){r:Nat×E×Ay×Nat}(h:AG P U τ F r):AG P U τ' F' r:=by
 rcases h with⟨i,o,cs,n,h1,h2,h3,h4,h5,c⟩| ⟨h1,h2⟩
 ·exact .inl ⟨i,o,cs,n,ht _ _ h1,hf _ _ h2,h3,h4,h5,fun r k row d hr hk=>let⟨x,k1,k2⟩:=c r k row d hr hk;⟨x,k1,fun kd a=>(k2 kd a).mono P hf⟩⟩
 ·exact .inr ⟨ht _ _ h1,h2⟩
def Gh (hp:Hp)(y:Blk)(i:Nat)(h:i<hp.nx):(hp.m.set hp.nx (some y)).get i=hp.m.get i:=by rw[Mw,if_neg (by omega)]
def lq (s:SS)(x:w9):SS:= {s with h:=(s.nx,some x)::s.h,nx:=s.nx+1}
def iC (s:SS)(x:w9)(b:Nat):(lq s x).get b=if b=s.nx then some x else s.get b:=by have:=Mn s s.nx b (some x);exact this
def gv (x:w9):M Nat:=fun s=>.ret (s.nx,lq s x)
theorem SD.alloc (hs:SD P U τ F s hp){p:Bc (Nat×Nat)}(hn:hp.nx<=hp'.nx)(hk:∀i,i<hp.nx->hp'.m.get i=hp.m.get i)(hx:(∃i o y,p=some (i,o)/\hp.nx<=i/\i<hp'.nx/\hp'.m.get i=some y/\BD P U (put τ s.nx p) F o x y)\/(p=none/\ ∃L e z ph,x= .rows L e z ph/\L.toR U=[]/\z=(kf P e).length/\ph.toI U<=0)):Ext τ F s hp (put τ s.nx p) F (lq s x) hp'/\SD P U (put τ s.nx p) F (lq s x) hp':=by
 have h0:τ s.nx=none:=hs.new _ (Nat.le_refl _);have ht:=js (τ:=τ) p h0;refine⟨⟨ht,LZ F,hn,by simp[lq],fun b hb=>F5 τ p (by omega),fun b y hb hlt=>?_,⟨[(s.nx,some x)],rfl,fun i hi _=>hk i hi,fun b i o hb a=>?_,fun _ _ _ h=>.inl h,fun _ _ _ h=>h⟩,⟨[],rfl⟩,⟨[(s.nx,some x)],rfl,fun _ _ _ _ i _ cs _ _ _ hi C _=>⟨cs,by rw[hk i hi];exact C,fun _ _=>rfl⟩⟩⟩,?_⟩
 ·rw[iC,if_neg (by omega)]at hb;exact⟨y,hb⟩
 ·by_cases e:b=s.nx
  ·subst e;rw[o9]at a;grind
  ·rw[F5 τ p e,hs.new b hb]at a;cases a
 ·have old:∀b y,b≠s.nx->(lq s x).get b=some y->s.get b=some y:=fun b y e hb=>by rw[iC,if_neg e]at hb;exact hb
  refine⟨fun b y hb=>?_,fun b c y z i o j q hb hc w A f=>?_,fun i y hi=>by rw[hk i (hs.flt i y hi)];exact hs.frz i y hi,fun b i o hb=>?_,fun i y hi=>Nat.lt_of_lt_of_le (hs.flt i y hi) hn,fun b hb=>?_,hs.fc,fun r hr=>(hs.fz r hr).mono ht (LZ F)⟩
  ·by_cases e:b=s.nx
   ·subst e;rw[iC,if_pos rfl,Option.some.injEq]at hb;subst hb;rcases hx with⟨i,o,y,rfl,h1,h2,h3,h4⟩| ⟨rfl,h⟩
    ·refine .inl ⟨i,o,y,o9 _ _ _,h3,?_,h4⟩;cases hF:F i with
     |none=>rfl|some b=>exact absurd (hs.flt i b hF) (by omega)
    ·exact .inr ⟨o9 _ _ _,h⟩
   ·rcases hs.live b y (old b y e hb)with⟨i,o,D,h1,h2,h3,h4⟩| ⟨h1,h2⟩
    ·exact .inl ⟨i,o,D,by rw[F5 τ p e];exact h1,by rw[hk i (hs.lt b i o h1)];exact h2,h3,h4.mono ht (LZ F)⟩
    ·exact .inr ⟨by rw[F5 τ p e];exact h1,h2⟩
  ·have new:∀c i o,c=s.nx->put τ s.nx p c=some (some (i,o))->hp.nx<=i:=by intro c i o hc h;subst hc;rw[o9]at h;grind
   by_cases B:b=s.nx
   ·have h1:=new b i o B A;have g:c≠s.nx:=fun h=>w (by rw[B,h]);rw[F5 τ p g]at f;have:=hs.lt c j q f;omega
   ·rw[F5 τ p B]at A;by_cases g:c=s.nx
    ·have h1:=new c j q g f;have:=hs.lt b i o A;omega
    ·rw[F5 τ p g]at f;exact hs.inj b c y z i o j q (old b y B hb) (old c z g hc) w A f
  ·by_cases e:b=s.nx
   ·subst e;rw[o9]at hb;grind
   ·rw[F5 τ p e]at hb;exact Nat.lt_of_lt_of_le (hs.lt b i o hb) hn
  ·have:s.nx+1<=b:=hb;rw[F5 τ p (by omega)];exact hs.new b (by omega)
variable {i:Nat}
theorem SD.change (hs:SD P U τ F s hp){o:Nat}{x':w9}(hb:s.get b=some x)(ht:τ b=some (some (i,o)))(hn:hp'.nx=hp.nx)(hk:∀j,j≠i->hp'.m.get j=hp.m.get j)(hi:hp'.m.get i=some y)(hd:BD P U τ F o x' y)(hw:∀c e z c',x= .cells c e z->x'= .cells c' e z->c'.length=c.length-> ∀cs n,hp.m.get i=some (.cells cs n e z)-> ∃cs',y= .cells cs' n e z/\ ∀j,j<o\/o+c.length<=j->cs'.get j=cs.get j:=by intro _ _ _ _ h h';first| (cases h;done)| (cases h';done)):Ext τ F s hp τ F (s.set b (some x')) hp'/\SD P U τ F (s.set b (some x')) hp':=by
 refine⟨⟨Mx τ,LZ F,by omega,Nat.le_refl _,fun _ _=>rfl,fun c y hc _=>?_,⟨[(b,some x')],rfl,fun j hj w=>hk j (fun e=>w b x o hb (by rw[e];exact ht) (by simp)),fun c j q hc h=>(by rw[hs.new c hc]at h;cases h),fun _ _ _ h=>.inl h,fun _ _ _ h=>h⟩,⟨[],rfl⟩,⟨[(b,some x')],rfl,fun d c e z j q cs n a hq hj A hl=>?_⟩⟩,?_⟩
 ·rw[Mn]at hc;grind
 ·by_cases h:d=b
  ·subst h;obtain⟨c',k1,k2⟩:=hl _ (List.mem_singleton.2 rfl);rw[hb]at a;rw[ht]at hq;simp only[Option.some.injEq,Prod.mk.injEq]at k1 a hq;obtain⟨rfl,rfl⟩:=hq;obtain⟨cs',G,H⟩:=hw c e z c' a k1 k2 cs n A;exact⟨cs',by rw[hi,G],H⟩
  ·exact⟨cs,by rw[hk j (hs.inj d b _ x j q i o a hb h hq ht)];exact A,fun _ _=>rfl⟩
 ·have E:F i=none:=by
   rcases hs.live b x hb with⟨J,o',g,h1,_,h3,_⟩| ⟨h1,_⟩
   ·grind
   ·grind
  have f:∀c,(∃y,(s.set b (some x')).get c=some y)-> ∃y,s.get c=some y:=by rintro c ⟨y,hc⟩;rw[Mn]at hc;grind
  refine⟨fun c z hc=>?_,fun c d y z j q k r hc a p B C=>?_,fun j y hj=>?_,fun c j q h=>by rw[hn];exact hs.lt c j q h,fun j y h=>by rw[hn];exact hs.flt j y h,hs.new,hs.fc,hs.fz⟩
  ·rw[Mn]at hc;by_cases e:c=b
   ·grind
   ·rw[if_neg e]at hc;rcases hs.live c z hc with⟨j,q,g,h1,h2,h3,h4⟩|h
    ·refine .inl ⟨j,q,g,h1,?_,h3,h4⟩;rw[hk j ?_];exact h2;intro D;subst D;exact hs.inj c b z x j q j o hc hb e h1 ht rfl
    ·grind
  ·obtain⟨g,hy⟩:=f c ⟨y,hc⟩;obtain⟨I,hz⟩:=f d ⟨z,a⟩;exact hs.inj c d g I j q k r hy hz p B C
  ·rw[hk j (fun e=>by rw[e,E]at hj;cases hj)];exact hs.frz j y hj
theorem SD.move (hs:SD P U τ F s hp){o:Nat}{x':w9}(hb:s.get b=some x)(ht:τ b=some (some (i,o)))(hn:hp.nx<=hp'.nx)(hk:∀j,j<hp.nx->j≠i->hp'.m.get j=hp.m.get j){j q:Nat}(hj:j=i\/hp.nx<=j)(E:j<hp'.nx)(hi:hp'.m.get j=some y)(hd:BD P U (put τ s.nx (some (j,q))) F q x' y):Ext τ F s hp (put τ s.nx (some (j,q))) F (lq (s.set b none) x') hp'/\SD P U (put τ s.nx (some (j,q))) F (lq (s.set b none) x') hp':=by
 have h0:τ s.nx=none:=hs.new _ (Nat.le_refl _);have A:=js (τ:=τ) (some (j,q)) h0;have hlt:b<s.nx:=hs.bound hb;have R:i<hp.nx:=hs.lt b i o ht;have K:F i=none:=by
  rcases hs.live b x hb with⟨V,o',L,h1,_,h3,_⟩| ⟨h1,_⟩
  ·grind
  ·grind
 have N:F j=none:=by
  rcases hj with rfl|hj
  ·exact K
  ·cases hF:F j with
   |none=>rfl|some w=>exact absurd (hs.flt j w hF) (by omega)
 have O:∀c,(lq (s.set b none) x').get c=if c=s.nx then some x' else if c=b then none else s.get c:=by intro c;rw[iC,Mn];rfl
 refine⟨⟨A,LZ F,hn,by simp[lq,SS.set],fun c hc=>F5 τ _ (by omega),fun c y hc hlt=>?_,⟨[(s.nx,some x'),(b,none)],rfl,fun k a J=>hk k a (fun e=>J b x o hb (by rw[e];exact ht) (by simp)),fun c k r hc h=>?_,fun _ _ _ h=>.inl h,fun _ _ _ h=>h⟩,⟨[],rfl⟩,⟨[(s.nx,some x'),(b,none)],rfl,fun d c e z j' S cs n g hq E Q hl=>?_⟩⟩,?_⟩
 ·grind
 rotate_left
 ·by_cases h:d=b
  ·subst h;obtain⟨c',k1,_⟩:=hl none (by simp);cases k1
  ·exact⟨cs,by rw[hk j' E (hs.inj d b _ x j' S i o g hb h hq ht)];exact Q,fun _ _=>rfl⟩
 rotate_left
 ·by_cases e:c=s.nx
  ·subst e;rw[o9]at h;simp only[Option.some.injEq,Prod.mk.injEq]at h;grind
  ·rw[F5 τ _ e,hs.new c hc]at h;cases h
 ·have inv:∀c z,(lq (s.set b none) x').get c=some z->c≠s.nx->c≠b/\s.get c=some z:=by grind
  have apart:∀c z k r,c≠b->s.get c=some z->τ c=some (some (k,r))->k≠j:=by
   intro c z k r e hc h I;subst I;rcases hj with rfl|hj
   ·exact hs.inj c b z x _ r _ o hc hb e h ht rfl
   ·have:=hs.lt c _ r h;omega
  refine⟨fun c z hc=>?_,fun c d y z k r k' T hc g G C D=>?_,fun k y a=>?_,fun c k r h=>?_,fun k y h=>Nat.lt_of_lt_of_le (hs.flt k y h) hn,fun c hc=>?_,hs.fc,fun r hr=>(hs.fz r hr).mono A (LZ F)⟩
  ·by_cases e:c=s.nx
   ·subst e;rw[O,if_pos rfl,Option.some.injEq]at hc;subst hc;exact .inl ⟨j,q,y,o9 _ _ _,hi,N,hd⟩
   ·obtain⟨e',f⟩:=inv c z hc e;rcases hs.live c z f with⟨k,r,L,h1,h2,h3,h4⟩| ⟨h1,h2⟩
    ·refine .inl ⟨k,r,L,by rw[F5 τ _ e];exact h1,?_,h3,h4.mono A (LZ F)⟩;rw[hk k (hs.lt c k r h1) ?_];exact h2;intro I;subst I;exact hs.inj c b z x _ r _ o f hb e' h1 ht rfl
    ·exact .inr ⟨by rw[F5 τ _ e];exact h1,h2⟩
  ·by_cases H:c=s.nx
   ·subst H;have B:d≠s.nx:=fun h=>G h.symm;rw[o9]at C;simp only[Option.some.injEq,Prod.mk.injEq]at C;obtain⟨rfl,_⟩:=C;obtain⟨e',p⟩:=inv d z g B;rw[F5 τ _ B]at D;grind
   ·obtain⟨e',f⟩:=inv c y hc H;rw[F5 τ _ H]at C;by_cases B:d=s.nx
    ·subst B;rw[o9]at D;simp only[Option.some.injEq,Prod.mk.injEq]at D;grind
    ·obtain⟨M,p⟩:=inv d z g B;rw[F5 τ _ B]at D;exact hs.inj c d y z k r k' T f p G C D
  ·rw[hk k (hs.flt k y a) (fun e=>by rw[e,K]at a;cases a)];exact hs.frz k y a
  ·by_cases e:c=s.nx
   ·subst e;rw[o9]at h;simp only[Option.some.injEq,Prod.mk.injEq]at h;grind
   ·rw[F5 τ _ e]at h;exact Nat.lt_of_lt_of_le (hs.lt c k r h) hn
  ·have:s.nx+1<=c:=hc;rw[F5 τ _ (by omega)];exact hs.new c (by omega)
theorem SD.freeze (hs:SD P U τ F s hp){o:Nat}(hb:s.get b=some x)(ht:τ b=some (some (i,o)))(hi:hp.m.get i=some y):∃F',Fle F F'/\F' i=some y/\Ext τ F s hp τ F' (s.set b none) hp/\SD P U τ F' (s.set b none) hp:=by
 have G:F i=none:=by
  rcases hs.live b x hb with⟨H,o',p,h1,_,h3,_⟩| ⟨h1,_⟩
  ·grind
  ·grind
 have hF:Fle F (fun j=>if j=i then some y else F j):=fun j w hj=>by grind
 have inv:∀c z,(s.set b none).get c=some z->c≠b/\s.get c=some z:=by intro c z hc;rw[Mn]at hc;grind
 refine⟨fun j=>if j=i then some y else F j,hF,by simp,⟨Mx τ,hF,Nat.le_refl _,Nat.le_refl _,fun _ _=>rfl,fun c z hc _=>⟨z,(inv c z hc).2⟩,⟨[(b,none)],rfl,fun _ _ _=>rfl,fun c j q hc h=>(by rw[hs.new c hc]at h;cases h),fun j w _ hj=>?_,fun hp=>absurd rfl (hp (b,none) (by simp))⟩,⟨[],rfl⟩,⟨[(b,none)],rfl,fun _ _ _ _ _ _ cs _ _ _ _ D _=>⟨cs,D,fun _ _=>rfl⟩⟩⟩,?_⟩
 ·grind
 refine⟨fun c z hc=>?_,fun c d y z k r k' E hc f g A B=>hs.inj c d y z k r k' E (inv c y hc).2 (inv d z f).2 g A B,fun j w hj=>?_,hs.lt,fun j w hj=>?_,hs.new,hs.fc,fun r hr=>(hs.fz r hr).mono (Mx τ) hF⟩
 ·obtain⟨e,a⟩:=inv c z hc;rcases hs.live c z a with⟨k,r,p,h1,h2,h3,h4⟩|h
  ·refine .inl ⟨k,r,p,h1,h2,?_,h4.mono (Mx τ) hF⟩;have:k≠i:=fun C=>by subst C;exact hs.inj c b z x _ r _ o a hb e h1 ht rfl
   grind
  ·grind
 ·by_cases e:j=i
  ·grind
  ·rw[if_neg e]at hj;exact hs.frz j w hj
 ·by_cases e:j=i
  ·subst e;exact hs.lt b _ o ht
  ·rw[if_neg e]at hj;exact hs.flt j w hj
theorem SD.drop (hs:SD P U τ F s hp)(b:Nat):Ext τ F s hp τ F (s.set b none) hp/\SD P U τ F (s.set b none) hp:=by
 have inv:∀c z,(s.set b none).get c=some z->c≠b/\s.get c=some z:=by intro c z hc;rw[Mn]at hc;grind
 exact⟨⟨Mx τ,LZ F,Nat.le_refl _,Nat.le_refl _,fun _ _=>rfl,fun c z hc _=>⟨z,(inv c z hc).2⟩,⟨[(b,none)],rfl,fun _ _ _=>rfl,fun c j q hc h=>(by rw[hs.new c hc]at h;cases h),fun _ _ _ h=>.inl h,fun _ _ _ h=>h⟩,⟨[],rfl⟩,⟨[(b,none)],rfl,fun _ _ _ _ _ _ cs _ _ _ _ o _=>⟨cs,o,fun _ _=>rfl⟩⟩⟩,
  fun c z hc=>hs.live c z (inv c z hc).2,fun c d y z k r k' p hc a f g m=>hs.inj c d y z k r k' p (inv c y hc).2 (inv d z a).2 f g m,hs.frz,hs.lt,hs.flt,hs.new,hs.fc,hs.fz⟩
end
end Go.Sx
namespace Go.Sx
open Go.Xe
def isI :E->Bool
 | .int _=>true| .dat _ (.int _)=>true| .op o _=>match o with
  | .add| .sub| .mul| .tdiv| .tmod| .wrap _| .bits _ _| .shl _| .shr _| .len| .slen| .sidx| .srune| .srw| .castI=>true
  |_=>false
 |_=>false
def isB :E->Bool
 | .bool _=>true| .dat _ (.bool _)=>true| .op .lt [_,_]| .op .eqi [_,_]| .op .eqb [_,_]| .op .eqs [_,_]| .op .lts [_,_]| .op .not [_]| .op .and [_,_]| .op .or [_,_]| .op .castB [_]=>true
 |_=>false
def isS :E->Bool
 | .str _=>true| .dat _ (.str _)=>true| .op .sapp [_,_]| .op .ssub [_,_,_]| .op .castS [_]=>true
 |_=>false
def isL :E->Bool
 | .dat _ (.lst _)=>true| .op .nil _| .op (.rows _ _) _| .op .app [_,_]| .op (.upd _) [_,_,_]| .op .part [_,_,_]| .op .over [_,_,_]| .op .rep (_::_)| .op .castL [_]=>true
 |_=>false
def mkCI (e:E):E:=bif isI e then e else .op .castI [e]
def mkCB (e:E):E:=bif isB e then e else .op .castB [e]
def mkCS (e:E):E:=bif isS e then e else .op .castS [e]
def dS (e:E):E:=bif isL e then e else .op .castL [e]
section
variable {U :Ab}
def GS {e:E}(h:isI e=true):e.den U= .int (e.toI U):=by
 cases e with
 |int n=>rfl|dat n d=>cases d<;>first|rfl| (simp[isI]at h)
 |op o as=>
  cases o<;>first
   | (simp[isI]at h;done)
   | (simp only[E.toI,E.den,Sy.den];split<;>rfl)
 |_=>simp[isI]at h
def GR {e:E}(h:isB e=true):e.den U= .bool (e.den U).toBool:=by unfold isB at h;split at h<;>first|rfl|cases h
def GU {e:E}(h:isS e=true):e.den U= .str (e.den U).toStr:=by unfold isS at h;split at h<;>first|rfl|cases h
def GT {e:E}(h:isL e=true):e.den U= .lst (e.toR U):=by unfold isL at h;split at h<;>first|rfl|cases h
def Eg (e:E):(mkCI e).den U= .int (e.toI U):=by
 unfold mkCI;cases h:isI e with
 |true=>exact GS h|false=>rfl
def Ef (e:E):(mkCB e).den U= .bool (e.den U).toBool:=by
 unfold mkCB;cases h:isB e with
 |true=>exact GR h|false=>rfl
def Eh (e:E):(mkCS e).den U= .str (e.den U).toStr:=by
 unfold mkCS;cases h:isS e with
 |true=>exact GU h|false=>rfl
def ig (e:E):(dS e).den U= .lst (e.toR U):=by
 unfold dS;cases h:isL e with
 |true=>exact GT h|false=>rfl
end
section
variable (P :Ax)(U:Ab)
def gx (t:Ay)(x:SV)(f:Nat):Bc SV:=
 match P.underlying t with
 |some (.struct fs)=>match fs.toList[f]? with
  |some fd=>match P.info? fd.type with
   |some i=>bif Nat.beq i.size 0 then none else
    match x with
    | .ptr b z row fld=>some (.ptr b z row (fld+fd.offset))| .pptr e L row fld=>some (.pptr e L row (fld+fd.offset))|_=>none
   |none=>none
  |none=>none
 |_=>none
def gy (t:Ay)(x ix:SV):M SV:=
 match ix with
 | .int _ n=>match P.underlying t with
  |some (.slice e)=>match P.info? e with
   |some ie=>match x with
    | .sl b z off len _=>bif Nat.beq z ie.size then c6 (n5 U (z9 (A7 n (.int 0)))) fun _=>c6 (n5 U (A7 n len)) fun _=>e8 (.ptr b z (A6 off n) 0)else a7 "index: size"
    | .lst e' L _=>bif Nat.beq (kf P e').length ie.size then c6 (n5 U (z9 (A7 n (.int 0)))) fun _=>c6 (n5 U (A7 n (A5 L))) fun _=>e8 (.pptr e' L n 0)else a7 "index: size"
    |_=>a7 "index: no slice"
   |none=>a7 "index: type"
  |some (.array len e)=>match P.info? e with
   |some ie=>match x with
    | .ptr b z row fld=>match n with
     | .int m=>bif decide (0<=m)&&decide (m<len)then e8 (.ptr b z row (fld+m.toNat*ie.size))else a7 "index: array"|n=>match row with
      | .int r=>bif decide (0<=r)then c6 (n5 U (z9 (A7 n (.int 0)))) fun _=>c6 (n5 U (A7 n (.int len))) fun _=>e8 (.ptr b ie.size n (r.toNat*z+fld))else a7 "index: array"
      |_=>a7 "index: array"
    | .pptr e' L row fld=>match n with
     | .int m=>bif decide (0<=m)&&decide (m<len)then e8 (.pptr e' L row (fld+m.toNat*ie.size))else a7 "index: array"|_=>a7 "index: array"
    |_=>a7 "index: array"
   |none=>a7 "index: type"
  |_=>a7 "index: type"
 |_=>a7 "index: no int"
def ldk (t:Ay):Bc (Bool×Nat):=
 match P.underlying t with
 | some d => bif R8 d then
   match P.info? t with
   |some ti=>some (true,ti.size)|none=>none
  else some (false,1)
 |none=>none
def Ei (ag:Bool)(l:Au):Bc SV:=bif ag then some (.agg l)else l.head?
def yT (k:Kd)(c:E):Bc SV:=
 match k with
 | .int k=>some (.int k c)| .bool=>some (.bool c)| .str=>some (.str c)| .sl e=>some (.lst e c false)| .bad=>none
def dN (ks:List Kd)(L row:E):Nat->Nat->Bc (Au)
 |_,0=>some []|j,n+1=>match ks[j]? with
  |some k=>match yT k (wD j L row)with
   |some a=>match dN ks L row (j+1) n with
    |some l=>some (a::l)|none=>none
   |none=>none
  |none=>none
def Cb (k:Kd)(a:SV):Bc E:=
 match k,a with
 | .int k,.int k' e=>bif decide (k=k')then some (mkCI e)else none| .bool,.bool e=>some (mkCB e)| .str,.str e=>some (mkCS e)| .sl _,.nils=>some (.op .nil [])| .sl e,.lst e' L _=>bif Nat.beq e e' then some (dS L)else none|_,_=>none
def FA (ks:List Kd):Nat->Au->Bc (Av)
 |_,[]=>some []|j,a::l=>match ks[j % ks.length]? with
  |some k=>match Cb k a with
   |some e=>match FA ks (j+1) l with
    |some es=>some (e::es)|none=>none
   |none=>none
  |none=>none
def np (e:Ay)(z:Nat)(l:Au):Bc E:=
 bif Nat.ble 1 z&&Nat.beq z (kf P e).length&&Nat.beq (l.length/z*z) l.length then
  match FA (kf P e) 0 l with
  |some es=>some (.op (.rows (l.length/z) z) es)|none=>none
 else none
def W5 (ag:Bool)(n:Nat)(e:Ay)(L row:E)(fld:Nat):Bc SV:=
 match dN (kf P e) L row fld n with
 |some l=>Ei ag l|none=>none
def tR (k:IntKind):Au->Bc (Av)
 | []=>some []| .int k' e::l=>bif decide (k=k')then match tR k l with
  |some es=>some (e::es)|none=>none else none
 |_=>none
def Fk (l:Au)(row:E):M SV:=match l with
 | .int k e::l'=>match tR k (.int k e::l')with
  |some es=>c6 (n5 U (A7 row (.int es.length))) fun _=>e8 (.int k (wD 0 (.op (.rows es.length 1) es) row))
  |none=>a7 "load: rows"
 |_=>a7 "load: rows"
def zQ (t:Ay)(a:SV):M SV:=
 match ldk P t with
 |none=>a7 "load: type"|some (ag,n)=>match a with
  | .ptr b z row fld=>o8 fun s=>match s.get b with
   |some (.cells l e _)=>match row with
    | .int r=>bif decide (0<=r)&&Nat.ble (r.toNat*z+fld+n) l.length then fB "load" (Ei ag ((l.drop (r.toNat*z+fld)).take n))else a7 "load: beyond"|row=>match np P e z l with
     |some L=>bif Nat.ble (fld+n) z then c6 (n5 U (A7 row (A5 L))) fun _=>fB "load" (W5 P ag n e L row fld)else a7 "load: beyond"
     |none=>bif !ag&&Nat.beq z 1&&Nat.beq n 1 then Fk U (l.drop fld) row else a7 "load: rows"
   |some (.rows L e z' _)=>bif Nat.beq z z'&&Nat.ble (fld+n) z then c6 (n5 U (A7 row (A5 L))) fun _=>fB "load" (W5 P ag n e L row fld)else a7 "load: beyond"
   |some (.map _ _ _)=>a7 "load: no block"|some (.iter _ _)=>a7 "load: no block"|none=>match lk s.fz b with
    |some (L,e,z')=>bif Nat.beq z z'&&Nat.ble (fld+n) z then c6 (n5 U (A7 row (A5 L))) fun _=>fB "load" (W5 P ag n e L row fld)else a7 "load: beyond"
    |none=>a7 "load: no block"
  | .pptr e L row fld=>bif Nat.ble (fld+n) (kf P e).length then fB "load" (W5 P ag n e L row fld)else a7 "load: beyond"|_=>a7 "load: no address"
end
section
variable {P :Ax}{U:Ab}{τ:Tau}{F:Ac}{s:SS}{hp:Hp}
variable {fld i z:Nat}
def VD.ptr' {b o a:Nat}{row:E}(h:τ b=some (some (i,o)))(h0:0<=row.toI U)(e:a=o+row.toN U*z+fld):VD P U τ F (.ptr b z row fld) (.pointer (some ⟨i,a,none⟩)):=by subst e;exact .ptr b z row fld i o h h0
def VD.pptr' {t:Ay}{L row:E}{o l c a:Nat}(h:PV P F (.sl t) (.slice (some ⟨i,o,none⟩) l c) (.lst (L.toR U)))(h0:0<=row.toI U)(h1:row.toI U<(L.toR U).length)(e:a=o+row.toN U*(kf P t).length+fld):VD P U τ F (.pptr t L row fld) (.pointer (some ⟨i,a,none⟩)):=by subst e;exact .pptr t L row fld i o l c h h0 h1
variable {v:Aw}
theorem oN {t:Ay}{a b:SV}{f:Nat}(ha:VD P U τ F a v)(e:gx P t a f=some b):∃w,i7 P t v f=some w/\VD P U τ F b w:=by
 unfold gx at e;unfold i7;split at e
 ·rename_i q j;split at e
  ·rename_i p g;split at e
   ·rename_i i hi;cases hz:Nat.beq i.size 0 with
    |true=>grind|false=>
     simp only[hz,cond_false]at e;split at e
     ·rename_i b z row fld;simp only[Option.some.injEq]at e;subst e;cases ha with
      |ptr _ _ _ _ m o h h0=>exact⟨.pointer (some ⟨m,o+row.toN U*z+fld+p.offset,none⟩),by simp only[j,g,hi,hz,cond_false],VD.ptr' h h0 (by omega)⟩
     ·rename_i t L row fld;simp only[Option.some.injEq]at e;subst e;cases ha with
      |pptr _ _ _ _ m o l c h h0 h1=>exact⟨.pointer (some ⟨m,o+row.toN U*(kf P t).length+fld+p.offset,none⟩),by simp only[j,g,hi,hz,cond_false],VD.pptr' h h0 h1 (by omega)⟩
     ·cases e
   ·cases e
  ·cases e
 ·cases e
def H8 {a b:E}(h:(A7 a b).pr U):a.toI U<b.toI U:=by rw[LV,E4,decide_eq_true_eq]at h;exact h
def J0 {a b:E}(h:(z9 (A7 a b)).pr U):b.toI U<=a.toI U:=by rw[LV,D9,E4,Bool.not_eq_true',decide_eq_false_iff_not]at h;exact Int.not_lt.1 h
def cu {a b:E}(h:(I8 a b).pr U):a.toI U=b.toI U:=by rw[LV,N8,decide_eq_true_eq]at h;exact h
def PV.len {t:Ay}{a:Ar}{l c:Nat}{d:Dat}(h:PV P F (.sl t) (.slice a l c) d):l=d.rows.length:=by cases h<;>rfl
theorem oO {t:Ay}{a A:SV}{w:Aw}(ha:VD P U τ F a v)(hi:VD P U τ F A w):OKp U (gy P U t a A) s fun b=>∃u,j7 P t v w=some u/\VD P U τ F b u:=by
 unfold gy;split
 ·rename_i k n;cases hi;split
  ·rename_i e he;split
   ·rename_i ie f;split
    ·rename_i b z off len cap;cases hz:Nat.beq z ie.size with
     |false=>exact Mg|true=>
      simp only[cond_true];refine OKp.need.bind fun _ s1 _ _ h1=>OKp.need.bind fun _ s2 _ _ h2=>Ml ?_;have h1:=eM h1;have h2:=H8 h2;have j:z=ie.size:=Nat.eq_of_beq_eq_true hz;cases ha with
      |sl _ _ _ _ _ i o c h h0 p hc=>
       refine⟨.pointer (some ⟨i,o+off.toN U*z+n.toN U*ie.size,none⟩),?_,VD.ptr' h (by rw[m9];omega) ?_⟩
       ·simp only[j7,he,f];grind
       ·have:(A6 off n).toN U=off.toN U+n.toN U:=by show((A6 off n).toI U).toNat=(off.toI U).toNat+(n.toI U).toNat;rw[m9];omega
        grind
      |sl0 _ _ _ _ _ h h0 p hc=>omega
    ·rename_i e' L clip;cases hz:Nat.beq (kf P e').length ie.size with
     |false=>exact Mg|true=>
      simp only[cond_true];refine OKp.need.bind fun _ s1 _ _ h1=>OKp.need.bind fun _ s2 _ _ h2=>Ml ?_;have h1:=eM h1;have h2:=H8 h2;rw[i4]at h2;have j:(kf P e').length=ie.size:=Nat.eq_of_beq_eq_true hz;cases ha with
      |lst _ _ _ _ h hc=>
       have hl:∃i o l c,v= .slice (some ⟨i,o,none⟩) l c:=by
        cases C:L.toR U with
        |nil=>grind|cons r D=>
         rw[C]at h;cases h with
         |sl _ i o c b cs n z rows x hF hb B hn q hr hx hp=>grind
       obtain⟨i,o,l,c,rfl⟩:=hl;have g:=h.len;refine⟨.pointer (some ⟨i,o+n.toN U*ie.size,none⟩),?_,VD.pptr' h h1 h2 (by rw[j];omega)⟩;simp only[j7,he,f];rw[show(decide (0<=n.toI U)&&decide (n.toI U<(l:Int)))=true by
        simp only[Bool.and_eq_true,decide_eq_true_eq];have:(l:Int)=((L.toR U).length:Int):=by rw[g];rfl
        omega]
       rfl
    ·exact Mg
   ·exact Mg
  ·rename_i len e he;split
   ·rename_i ie f;split
    ·rename_i b z row fld;cases ha with
     |ptr _ _ _ _ i o h h0=>
      split
      ·rename_i m;cases hb:decide (0<=m)&&decide (m<(len:Int))with
       |false=>exact Mg|true=>simp only[cond_true];refine Ml ⟨.pointer (some ⟨i,o+row.toN U*z+fld+m.toNat*ie.size,none⟩),?_,VD.ptr' h h0 (by omega)⟩;simp only[j7,he,f];rw[show(decide (0<=(E.int m).toI U)&&decide ((E.int m).toI U<(len:Int)))=true from hb];rfl
      ·split
       ·rename_i r;cases hr:decide (0<=r)with
        |false=>exact Mg|true=>simp only[cond_true];refine OKp.need.bind fun _ s1 _ _ h1=>OKp.need.bind fun _ s2 _ _ h2=>Ml ?_;have h1:=eM h1;have h2:=H8 h2;simp only[E1]at h2;refine⟨.pointer (some ⟨i,o+r.toNat*z+fld+n.toN U*ie.size,none⟩),?_,VD.ptr' h h1 (by omega)⟩;simp only[j7,he,f];rw[show(decide (0<=n.toI U)&&decide (n.toI U<(len:Int)))=true by simp only[Bool.and_eq_true,decide_eq_true_eq];omega];rfl
       ·exact Mg
    ·rename_i e' L row fld;cases ha with
     |pptr _ _ _ _ i o l c h h0 h1=>
      split
      ·rename_i m;cases hb:decide (0<=m)&&decide (m<(len:Int))with
       |false=>exact Mg|true=>simp only[cond_true];refine Ml ⟨.pointer (some ⟨i,o+row.toN U*(kf P e').length+fld+m.toNat*ie.size,none⟩),?_,VD.pptr' h h0 h1 (by omega)⟩;simp only[j7,he,f];rw[show(decide (0<=(E.int m).toI U)&&decide ((E.int m).toI U<(len:Int)))=true from hb];rfl
      ·exact Mg
    ·exact Mg
   ·exact Mg
  ·exact Mg
 ·exact Mg
variable {ag:Bool}{k n:Nat}{y:Blk}
def DR {t:Ay}(h:ldk P t=some (ag,n)){o:Nat}{c:Ao}(g:hp.m.get i=some y)(hr:rdC y=some (c,k,z))(hk:o+n<=k){vs:Af}(hl:d6 c o n=some vs):∃v,B0 P hp t (.pointer (some ⟨i,o,none⟩))=some v/\((ag=true/\v= .agg vs.toArray)\/(ag=false/\vs=[v])):=by
 unfold ldk at h;split at h
 ·rename_i d hd;cases ha:R8 d with
  |true=>
   simp only[ha,cond_true]at h;split at h
   ·rename_i j a;simp only[Option.some.injEq,Prod.mk.injEq]at h;obtain⟨rfl,rfl⟩:=h;refine⟨.agg vs.toArray,?_,.inl ⟨rfl,rfl⟩⟩;simp only[B0,g,hr,hd,ha,cond_true,a,Nat.ble_eq_true_of_le hk,hl]
   ·cases h
  |false=>
   simp only[ha,cond_false,Option.some.injEq,Prod.mk.injEq]at h;obtain⟨rfl,rfl⟩:=h;simp only[d6]at hl;cases f:c.get o with
   |none=>simp[f]at hl|some v=>simp only[f,Option.some.injEq]at hl;refine⟨v,?_,.inr ⟨rfl,hl.symm⟩⟩;simp only[B0,g,hr,hd,ha,cond_false,Nat.ble_eq_true_of_le hk,cond_true,f]
 ·cases h
theorem i8 {c:Ao}{R:Nat->Aw->Prop}:∀(n o j:Nat),(∀k,k<n-> ∃x,c.get (o+k)=some x/\R (j+k) x)-> ∃vs,d6 c o n=some vs/\vs.length=n/\ ∀k x,vs[k]? =some x->R (j+k) x
 |0,o,j,_=>⟨[],rfl,rfl,fun k x h=>by simp at h⟩
 |n+1,o,j,h=>by
  obtain⟨x,h1,h2⟩:=h 0 (by omega);obtain⟨vs,h3,h4,h5⟩:=i8 n (o+1) (j+1) fun k hk=>by
   obtain⟨x,k1,k2⟩:=h (k+1) (by omega)
   exact ⟨x, by rw [← k1]; congr 1; omega, by have : j + 1 + k = j + (k + 1) := by omega
                                              rw[this];exact k2⟩
  refine⟨x::vs,by simp only[d6];rw[show c.get o=some x from h1,h3],by simp[h4],fun k y hy=>?_⟩;grind
def gk {t:Ay}(h:ldk P t=some (ag,n)){o:Nat}{c:Ao}(p:hp.m.get i=some y)(f:rdC y=some (c,k,z))(hk:o+n<=k){l:Au}(hl:l.length=n)(hc:∀(j:Nat) a,l[j]? =some a-> ∃x,c.get (o+j)=some x/\VD P U τ F a x){a:SV}(ha:Ei ag l=some a):∃v,B0 P hp t (.pointer (some ⟨i,o,none⟩))=some v/\VD P U τ F a v:=by
 obtain⟨vs,h1,h2,h3⟩:=i8 (c:=c) (R:=fun j x=>∀a,l[j]? =some a->VD P U τ F a x) n o 0 fun j hj=>by
  have:l[j]? =some l[j]:=by simp[hl,hj]
  obtain⟨x,k1,k2⟩:=hc j _ this;exact⟨x,k1,fun a ha=>by rw[Nat.zero_add,this]at ha;cases ha;exact k2⟩
 obtain⟨v,h4,h5⟩:=DR h p f hk h1;refine⟨v,h4,?_⟩;have g:VDL P U τ F l vs:=⟨by rw[hl,h2],fun j a x hj hx=>h3 j x hx a (by rw[Nat.zero_add];exact hj)⟩
 rcases h5 with⟨rfl,rfl⟩| ⟨rfl,rfl⟩
 ·simp only[Ei,cond_true,Option.some.injEq]at ha;subst ha;exact g.agg
 ·simp only[Ei,cond_false]at ha;cases l with
  |nil=>simp at ha|cons b l=>simp at ha;subst ha;exact g.2 0 _ _ rfl rfl
def DC {k:Kd}{e:E}{a:SV}{x:Aw}(hp:PV P F k x (e.den U))(h:yT k e=some a):VD P U τ F a x:=by
 unfold yT at h;generalize hd:e.den U=d at hp;cases hp<;>simp only[Option.some.injEq]at h<;>subst h
 ·exact MA (by show(e.den U).toInt=_;rw[hd];rfl)
 ·exact Mz (by rw[hd];rfl)
 ·exact VD.str' (by rw[hd];rfl)
 ·exact .lst _ e false _ (by have : e.toR U = [] := by { show (e.den U).rows = _; rw [hd]; rfl }
                             rw[this];exact .nils _) (fun h=>by cases h)
 ·exact .lst _ e false _ (by have : e.toR U = [] := by { show (e.den U).rows = _; rw [hd]; rfl }
                             rw[this];exact .vague _) (fun h=>by cases h)
 ·rename_i i o c b cs n z zb rows x hF hb hc hn hz hr hx f
  exact .lst _ e false _ (by have : e.toR U = rows := by { show (e.den U).rows = _; rw [hd]; rfl }
                             rw[this];exact .sl _ i o c b cs n z rows x hF hb hc hn hz hr hx f) (fun h=>by cases h)
theorem hE {ks:List Kd}{L row:E}:∀ {n j:Nat} {l:Au},dN ks L row j n=some l->l.length=n/\ ∀(q:Nat) a,l[q]? =some a-> ∃k,ks[j+q]? =some k/\yT k (wD (j+q) L row)=some a
 |0,j,l,h=>by simp only[dN,Option.some.injEq]at h;subst h;exact⟨rfl,fun q a h=>by simp at h⟩|n+1,j,l,h=>by
  simp only[dN]at h;split at h
  ·rename_i k hk;split at h
   ·rename_i a ha;split at h
    ·rename_i l' c;simp only[Option.some.injEq]at h;subst h;obtain⟨h1,h2⟩:=hE c;grind
    ·cases h
   ·cases h
  ·cases h
theorem wA {rows:Rows}{r:Int}{row:As}{d:Dat}(h1:rows[r.toNat]? =some row)(h2:row[k]? =some d):H6 rows r k=d:=by unfold H6;grind
variable {e:Nat}{cs:Ao}
def cq {t:Ay}(h:ldk P t=some (ag,n)){o C:Nat}(B:hp.m.get i=some y)(r:rdC y=some (cs,k,C)){L row:E}(hr:q7 P F e z o k cs (L.toR U))(h0:0<=row.toI U)(h1:row.toI U<(L.toR U).length)(hf:fld+n<=z){a:SV}(ha:W5 P ag n e L row fld=some a):∃v,B0 P hp t (.pointer (some ⟨i,o+row.toN U*z+fld,none⟩))=some v/\VD P U τ F a v:=by
 unfold W5 at ha;split at ha
 ·rename_i l hl;obtain⟨p,q⟩:=hE hl;obtain⟨D,G,w,A⟩:=hr;have f:row.toN U<(L.toR U).length:=by show(row.toI U).toNat<_;omega
  have c:(L.toR U)[row.toN U]? =some (L.toR U)[row.toN U]:=by simp[f]
  have g:(L.toR U)[row.toN U].length=z:=w _ (List.getElem_mem f);refine gk h B r ?_ p (fun j b hb=>?_) ha
  ·have:row.toN U*z+z<=(L.toR U).length*z:=by rw[<-Nat.succ_mul];exact Nat.mul_le_mul_right z f
   omega
  ·obtain⟨kd,h3,h4⟩:=q j b hb;have hj:j<n:=by have:=(List.getElem?_eq_some_iff.1 hb).1;omega
   have hk:(L.toR U)[row.toN U][fld+j]? =some ((L.toR U)[row.toN U][fld+j]'(by omega)):=by simp[g,show fld+j<z by omega]
   obtain⟨x,k1,k2⟩:=A _ _ _ _ c hk;refine⟨x,by rw[<-k1];congr 1;omega,DC ?_ h4⟩;rw[tM,wA c hk];exact k2 kd h3
 ·cases ha
theorem sk {k:Kd}{a:SV}(ha:VD P U τ F a v){e:E}(h:Cb k a=some e):PV P F k v (e.den U):=by
 unfold Cb at h;split at h
 ·rename_i k k' x;by_cases hk:k=k'
  ·subst hk;simp only[decide_true,cond_true,Option.some.injEq]at h;subst h;cases ha;rw[Eg];exact .int k _
  ·grind
 ·simp only[Option.some.injEq]at h;subst h;cases ha;rw[Ef];exact .bool _
 ·simp only[Option.some.injEq]at h;subst h;cases ha;rw[Eh];exact .str _
 ·simp only[Option.some.injEq]at h;subst h;cases ha;exact .nils _
 ·rename_i e' f L c;cases hb:Nat.beq e' f with
  |false=>grind|true=>
   simp only[hb,cond_true,Option.some.injEq]at h;subst h;have:=Nat.eq_of_beq_eq_true hb;subst this;cases ha with
   |lst _ _ _ _ h hc=>rw[ig];exact h
 ·cases h
theorem jd {z:Nat}:∀ {n:Nat} {l:As} {r:Nat} {row:As},(chunk z n l)[r]? =some row->row=(l.drop (r*z)).take z
 |0,l,r,row,h=>by simp[chunk]at h|n+1,l,0,row,h=>by simp[chunk]at h;simp[h]|n+1,l,r+1,row,h=>by simp only[chunk,List.getElem?_cons_succ]at h;rw[jd h,List.drop_drop];grind
def aC {o:Nat}{es:Av}{N:Nat}(hz:z=(kf P e).length)(hN:es.length=N*z)(hn:o+es.length<=n)(hc:∀(j:Nat) d,es[j]? =some d-> ∃x,cs.get (o+j)=some x/\ ∀kd,(kf P e)[j % z]? =some kd->PV P F kd x (d.den U)):q7 P F e z o n cs ((E.op (.rows N z) es).toR U):=by
 have m:(E.op (.rows N z) es).toR U=chunk z N (es.map (E.den U)):=by show(Dat.lst (chunk z N (E.dens U es))).rows=_;rw[E.dens_eq];rfl
 rw[m];have a:∀r row,(chunk z N (es.map (E.den U)))[r]? =some row->r<N/\row.length=z:=by
  intro r row h;have h1:=(List.getElem?_eq_some_iff.1 h).1;rw[K6]at h1;refine⟨h1,?_⟩;rw[jd h];simp only[List.length_take,List.length_drop,List.length_map,hN];have:r*z+z<=N*z:=by rw[<-Nat.succ_mul];exact Nat.mul_le_mul_right z h1
  omega
 refine⟨by rw[K6];omega,hz,fun row f=>?_,fun r k row d hr hk=>?_⟩
 ·obtain⟨r,hr⟩:=List.getElem?_of_mem f;exact(a r row hr).2
 ·obtain⟨h1,h2⟩:=a r row hr;have c:k<z:=by have:=(List.getElem?_eq_some_iff.1 hk).1;omega
  rw[jd hr,List.getElem?_take,if_pos c,List.getElem?_drop,List.getElem?_map]at hk;cases he:es[r*z+k]? with
  |none=>simp[he]at hk|some x=>simp only[he,Option.map_some,Option.some.injEq]at hk;obtain⟨y,k1,k2⟩:=hc _ _ he;refine⟨y,by rw[<-k1];congr 1;omega,fun kd g=>?_⟩;rw[<-hk];exact k2 kd (by rw[show(r*z+k) % z=k by rw[Nat.mul_comm,Nat.mul_add_mod];exact Nat.mod_eq_of_lt c];exact g)
theorem vq {ks:List Kd}:∀ {l:Au} {j:Nat} {es:Av},FA ks j l=some es->es.length=l.length/\ ∀(q:Nat) a e,l[q]? =some a->es[q]? =some e-> ∃k,ks[(j+q) % ks.length]? =some k/\Cb k a=some e
 | [],j,es,h=>by simp only[FA,Option.some.injEq]at h;subst h;exact⟨rfl,fun q a e h=>by simp at h⟩|a::l,j,es,h=>by
  simp only[FA]at h;split at h
  ·rename_i k hk;split at h
   ·rename_i e he;split at h
    ·rename_i f c;simp only[Option.some.injEq]at h;subst h;obtain⟨h1,h2⟩:=vq c;grind
    ·cases h
   ·cases h
  ·cases h
theorem jy {o:Nat}{l:Au}{L:E}(h:np P e z l=some L)(hn:o+l.length<=n)(hc:∀(j:Nat) a,l[j]? =some a-> ∃x,cs.get (o+j)=some x/\VD P U τ F a x):q7 P F e z o n cs (L.toR U):=by
 unfold np at h;cases hb:Nat.ble 1 z&&Nat.beq z (kf P e).length&&Nat.beq (l.length/z*z) l.length with
 |false=>grind|true=>
  rw[hb,cond_true]at h;simp only[Bool.and_eq_true,Nat.beq_eq,Nat.ble_eq]at hb;obtain⟨⟨h1,h2⟩,h3⟩:=hb;split at h
  ·rename_i es c;simp only[Option.some.injEq]at h;subst h;obtain⟨h4,h5⟩:=vq c;refine aC h2 (by rw[h4,h3]) (by rw[h4];exact hn) fun j d hd=>?_;have hj:j<l.length:=by grind
   have ha:l[j]? =some l[j]:=by simp[hj]
   obtain⟨x,k1,k2⟩:=hc j _ ha;obtain⟨k,k3,g⟩:=h5 j _ d ha hd;refine⟨x,k1,fun kd f=>?_⟩;rw[Nat.zero_add,<-h2,f,Option.some.injEq]at k3;subst k3;exact sk k2 g
  ·cases h
theorem pu {k:IntKind}:∀ {l:Au} {es:Av},tR k l=some es->es.length=l.length/\ ∀(j:Nat) e,es[j]? =some e->l[j]? =some (.int k e)
 | [],es,h=>by simp only[tR,Option.some.injEq]at h;subst h;exact⟨rfl,fun j e h=>by simp at h⟩|a::l,es,h=>by
  unfold tR at h;split at h
  ·grind
  ·rename_i k' e l' c;cases c;cases hk:decide (k=k')with
   |false=>grind|true=>
    rw[hk,cond_true]at h;rw[decide_eq_true_eq]at hk;subst hk;split at h
    ·rename_i g f;cases h;obtain⟨h1,h2⟩:=pu f;grind
    ·cases h
  ·cases h
def fM :∀(ds:As) (n:Nat),(chunk 1 ds.length ds)[n]? =(ds[n]?).map fun d=>[d]
 | [],n=>by simp[chunk]|d::ds,0=>by simp[chunk]|d::ds,n+1=>by simp[chunk,fM ds n]
theorem vb {t:Ay}{a:SV}(ha:VD P U τ F a v)(hs:SD P U τ F s hp):OKp U (zQ P U t a) s fun b=>∃u,B0 P hp t v=some u/\VD P U τ F b u:=by
 unfold zQ;split
 ·exact Mg
 ·rename_i ag n f;split
  ·rename_i b z row fld;refine Mk ?_;split
   ·rename_i l e B hb;rcases hs.live b _ hb with⟨i,o,y,h1,h2,_,cs,k,rfl,h4,h5⟩| ⟨h1,M,e',K,ph,h2,_⟩
    ·cases ha with
     |ptr _ _ _ _ A o' h h0=>
      rw[h1]at h;simp only[Option.some.injEq,Prod.mk.injEq]at h;obtain⟨rfl,rfl⟩:=h;split
      ·rename_i r;cases hq:decide (0<=r)&&Nat.ble (r.toNat*z+fld+n) l.length with
       |false=>exact Mg|true=>
        simp only[cond_true];simp only[Bool.and_eq_true,decide_eq_true_eq,Nat.ble_eq]at hq;refine Mj fun c hc=>?_;refine gk f h2 rfl (o:=o+(E.int r).toN U*z+fld) ?_ (l:=(l.drop (r.toNat*z+fld)).take n) ?_ (fun j b hb=>?_) hc
        ·show o+r.toNat*z+fld+n<=k;omega
        ·grind
        ·rw[List.getElem?_take]at hb;split at hb
         ·rw[List.getElem?_drop]at hb;obtain⟨x,k1,k2⟩:=h5 _ _ hb;exact⟨x,by rw[<-k1];congr 1;show o+r.toNat*z+fld+j=_;omega,k2⟩
         ·cases hb
      ·split
       ·rename_i L N;cases hq:Nat.ble (fld+n) z with
        |false=>exact Mg|true=>simp only[cond_true];refine OKp.need.bind fun _ s1 _ _ hlt=>Mj fun c hc=>?_;have hlt:=H8 hlt;rw[i4]at hlt;exact cq f h2 rfl (jy N h4 h5) h0 hlt (Nat.le_of_ble_eq_true hq) hc
       ·cases hq: !ag&&Nat.beq z 1&&Nat.beq n 1 with
        |false=>exact Mg|true=>
         rw[cond_true];simp only[Bool.and_eq_true,Nat.beq_eq,Bool.not_eq_true']at hq;obtain⟨⟨rfl,rfl⟩,rfl⟩:=hq;unfold Fk;split
         ·rename_i k0 e0 l' G;split
          ·rename_i es C;obtain⟨q1,q2⟩:=pu C;refine OKp.need.bind fun _ s1 _ _ hlt=>Ml ?_;have hlt:=H8 hlt;simp only[E1]at hlt;have hr:row.toN U<es.length:=by grind
           have p:=q2 (row.toN U) _ (List.getElem?_eq_getElem hr);rw[<-G,List.getElem?_drop]at p;obtain⟨x,k1,k2⟩:=h5 _ _ p;refine gk (l:=[.int k0 (wD 0 (.op (.rows es.length 1) es) row)]) f h2 rfl (o:=o+row.toN U*1+fld) ?_ rfl (fun j a ha=>?_) rfl
           ·grind
           ·cases j with
            |succ j=>simp at ha|zero=>
             simp only[List.getElem?_cons_zero,Option.some.injEq]at ha;subst ha;refine⟨x,by rw[<-k1];congr 1;omega,?_⟩;cases k2;refine MA ?_;show((wD 0 (.op (.rows es.length 1) es) row).den U).toInt=_;rw[tM];show(H6 (chunk 1 es.length (E.dens U es)) (row.toI U) 0).toInt=_;unfold H6;have H:es.length=(E.dens U es).length:=by rw[E.dens_eq,List.length_map]
             rw[H,List.getD_eq_getElem?_getD (l:=chunk _ _ _),fM,E.dens_eq,List.getElem?_map,List.getElem?_eq_getElem hr];rfl
          ·exact Mg
         ·exact Mg
    ·cases h2
   ·rename_i L e B ph hb;cases hq:Nat.beq z B&&Nat.ble (fld+n) z with
    |false=>exact Mg|true=>
     simp only[cond_true];simp only[Bool.and_eq_true,Nat.beq_eq,Nat.ble_eq]at hq;obtain⟨rfl,hq⟩:=hq;refine OKp.need.bind fun _ s1 _ _ hlt=>Mj fun c hc=>?_;have hlt:=H8 hlt;rw[i4]at hlt;rcases hs.live b _ hb with⟨i,o,y,h1,h2,_,cs,k,rfl,h4,h5⟩| ⟨h1,M,e',K,R,h2,h3,_⟩
     ·cases ha with
      |ptr _ _ _ _ A o' h h0=>rw[h1]at h;simp only[Option.some.injEq,Prod.mk.injEq]at h;obtain⟨rfl,rfl⟩:=h;exact cq f h2 rfl h4 h0 hlt hq hc
     ·cases ha with
      |ptr _ _ _ _ A o' h h0=>grind
   ·exact Mg
   ·exact Mg
   ·split
    ·rename_i L e B hb;cases hq:Nat.beq z B&&Nat.ble (fld+n) z with
     |false=>exact Mg|true=>
      simp only[cond_true];simp only[Bool.and_eq_true,Nat.beq_eq,Nat.ble_eq]at hq;obtain⟨rfl,hq⟩:=hq;refine OKp.need.bind fun _ s1 _ _ hlt=>Mj fun c hc=>?_;have hlt:=H8 hlt;rw[i4]at hlt;rcases hs.fz _ (X7 hb)with⟨i,o,cs,k,h1,h2,h4⟩| ⟨h1,h2⟩
      ·cases ha with
       |ptr _ _ _ _ A o' h h0=>rw[h1]at h;simp only[Option.some.injEq,Prod.mk.injEq]at h;obtain⟨rfl,rfl⟩:=h;exact cq f (hs.frz _ _ h2) rfl h4 h0 hlt hq hc
      ·cases ha with
       |ptr _ _ _ _ A o' h h0=>grind
    ·exact Mg
  ·rename_i e L row fld;cases hq:Nat.ble (fld+n) (kf P e).length with
   |false=>exact Mg|true=>
    simp only[cond_true];refine Mj fun c hc=>?_;cases ha with
    |pptr _ _ _ _ i o l c' h h0 h1=>
     generalize g:L.toR U=rows at h h1;cases h with
     |sl _ _ _ _ y cs k z rows x hF hb O hn hz hr hx I=>
      have Q:hp.m.get i=some y:=hs.frz _ _ hF;have J:q7 P F e z o k cs (L.toR U):=by rw[g];exact⟨hn,hz,hr,fun r k row d w q=>⟨x r k,hx r k row d w q,fun kd D=>I r k row kd d w q D⟩⟩
      rw[<-hz]at hq⊢;exact cq f Q hb J h0 (by rw[g];exact h1) (Nat.le_of_ble_eq_true hq) hc
  ·exact Mg
end
end Go.Sx
namespace Go.Sx
open Go.Xe
def mfz (b:Nat)(L:E)(e z:Nat):M Unit:=fun s=>.ret ((),{s with fz:=(b,L,e,z)::s.fz})
def jn (b:Nat)(x:Bc w9):M Unit:=fun s=>.ret ((),s.set b x)
def srep :Nat->Au->Au
 |0,_=>[]
 |n+1,zs=>zs++srep n zs
def uv :SV->Bool
 | .agg _| .tup _| .any=>false
 |_=>true
section
variable (P :Ax)(U:Ab)
def sbox (e:Ay)(l:Au):M SV:=c6 (gv (.cells l e l.length)) fun b=>e8 (.ptr b l.length (.int 0) 0)
def dZ (t:Ay)(len:Nat)(parts:List (Nat×SV)):M SV:=
 match P.underlying t with
 |some (.slice e)=>match P.info? e with
  |some ie=>match kP P e with
   | some z => bif Nat.beq z.length ie.size && Nat.ble (len * ie.size) 16777216 && Nat.ble len 16777216 then
     match kL (fun i=>some (i*ie.size,ie.size)) (srep len z) parts with
     |some cs=>c6 (gv (.cells cs e ie.size)) fun b=>e8 (.sl b ie.size (.int 0) (.int len) (.ex (.int len)))
     |none=>a7 "buildSlice"
    else a7 "buildSlice"
   |none=>a7 "buildSlice: zero"
  |none=>a7 "buildSlice: type"
 |_=>a7 "buildSlice: type"
def gz (t:Ay)(l c:SV):M SV:=
 have _:=P;have _:=U
 a7 "smakeSlice"
def dT (L off len:E):M E:=
 match off with
 | .int m=>bif decide (m=0)&&E.like len (A5 L)then c6 (n5 U (I8 len (A5 L))) fun _=>e8 (dS L)else e8 (.op .part [L,off,len])
 |_=>e8 (.op .part [L,off,len])
def pD (f:Kd->SV->M E)(ks:List Kd):Nat->Au->M (Av)
 |_,[]=>e8 []|j,a::l=>match ks[j % ks.length]? with
  |some k=>c6 (f k a) fun e=>c6 (pD f ks (j+1) l) fun es=>e8 (e::es)
  |none=>a7 "data: kind"
def uQ :Nat->Kd->SV->M E
 |0,_,_=>a7 "data: depth"|d+1,k,a=>match Cb k a with
  |some e=>e8 e|none=>match k,a with
   | .sl e,.sl b z off len _=>o8 fun s=>match s.get b with
    | some (.rows L e' z' _) => bif Nat.beq e e' && Nat.beq z z' then
      c6 (n5 U (z9 (A7 (A5 L) (A6 off len)))) fun _=>c6 (jn b none) fun _=>c6 (mfz b L e z) fun _=>dT U L off len
     else a7 "data: type"
    | some (.cells l e' z') => bif Nat.beq e e' && Nat.beq z z' && Nat.beq z (kf P e).length && Nat.beq (l.length / z * z) l.length then
      c6 (n5 U (z9 (A7 (.int (l.length/z:Nat)) (A6 off len)))) fun _=>c6 (jn b none) fun _=>
      c6 (pD (uQ d) (kf P e) 0 l) fun es=>c6 (mfz b (.op (.rows (l.length/z) z) es) e z) fun _=>dT U (.op (.rows (l.length/z) z) es) off len
     else a7 "data: type"
    |some (.map _ _ _)=>a7 "data: no block"|some (.iter _ _)=>a7 "data: no block"|none=>match lk s.fz b with
     | some (L, e', z') => bif Nat.beq e e' && Nat.beq z z' then
       c6 (n5 U (z9 (A7 (A5 L) (A6 off len)))) fun _=>dT U L off len
      else a7 "data: type"
     |none=>a7 "data: no block"
   |_,_=>a7 "data: value"
def FE (L row:E):Nat->Av->E
 |_,[]=>L|j,e::es=>FE (.op (.upd j) [L,row,e]) row (j+1) es
def uj (b:Nat):M Unit:=o8 fun s=>match s.get b with
 |some (.cells l e z)=>match np P e z l with
  |some L=>jn b (some (.rows L e z (.int (l.length/z:Nat))))|none=>a7 "rows"
 |_=>e8 ()
def phT (ph L:E):Bool:=match ph with
 | .int _=>false|ph=> !(E.like ph (A5 L))
def cK (b z:Nat)(row:E)(fld:Nat)(vs:Au):M SV:=o8 fun s=>match s.get b with
 | some (.rows _ e _ _) => bif Nat.ble (fld + vs.length) z && Nat.beq z (kf P e).length then
   c6 (pD (uQ P U 20) (kf P e) fld vs) fun es=>o8 fun s=>match s.get b with
   | some (.rows L e' z' ph) => bif Nat.beq e e' && Nat.beq z z' then
     bif phT ph L&&Nat.beq z 1&&Nat.beq fld 0&&Nat.beq es.length 1 then
      c6 (n5 U (z9 (A7 (A5 L) row))) fun _=>c6 (n5 U (A7 row ph)) fun _=>c6 (jn b (some (.rows (.op .over [L,row,.op (.rows 1 1) es]) e' z' ph))) fun _=>e8 (.tup [])
     else c6 (n5 U (A7 row (A5 L))) fun _=>c6 (jn b (some (.rows (FE L row fld es) e' z' ph))) fun _=>e8 (.tup [])
    else a7 "store: type"
   |_=>a7 "store: block"
  else a7 "store: beyond"
 |_=>a7 "store: no rows"
def hset (k:IntKind)(es:Av)(row w:E):Au:=(List.range es.length).map fun j:Nat=>.int k (wD 0 (.op .over [.op (.rows es.length 1) es,row,.op (.rows 1 1) [w]]) (.int (j:Int)))
def sg (b:Nat)(l:Au)(e z:Nat)(row:E)(fld:Nat):Au->M SV:=
 have _:=U
 fun _=>a7 "store"
def xG (t:Ay)(a x:SV):M SV:=
 match P.info? t with
 |none=>a7 "store: type"|some ti=>match B5 x with
  |none=>a7 "store: value"|some vs=>bif Nat.beq vs.length ti.size&&vs.all uv then
   match a with
   | .ptr b z row fld=>o8 fun s=>match s.get b with
    |some (.cells l e z')=>match row with
     | .int r => bif decide (0 ≤ r) && Nat.ble (r.toNat * z + fld + vs.length) l.length then
       c6 (jn b (some (.cells (P1 l (r.toNat*z+fld) vs) e z'))) fun _=>e8 (.tup [])else a7 "store: beyond"
     |row=>bif Nat.beq z 1&& !Nat.beq z' 1&&Nat.ble fld l.length then sg U b l e z' row fld vs else c6 (uj P b) fun _=>cK P U b z row fld vs
    |some (.rows _ _ _ _)=>cK P U b z row fld vs|_=>a7 "store: no block"
   |_=>a7 "store: no address"
   else a7 "store: size"
end
section
variable {P :Ax}{U:Ab}{τ:Tau}{F:Ac}{s:SS}{hp:Hp}
def OKh.alloc {x:w9}{y:Blk}(hs:SD P U τ F s hp)(hy:∀τ',Tle τ τ'->BD P U τ' F 0 x y):OKh P U (gv x) τ F s hp fun b τ' F' hp'=>F'=F/\τ' b=some (some (hp.nx,0))/\hp'=⟨hp.m.set hp.nx (some y),hp.nx+1⟩:=by
 intro Q hq _;have h0:τ s.nx=none:=hs.new _ (Nat.le_refl _);obtain⟨h1,h2⟩:=hs.alloc (x:=x) (p:=some (hp.nx,0)) (hp':=⟨hp.m.set hp.nx (some y),hp.nx+1⟩) (Nat.le_succ _) (fun i hi=>Gh hp y i hi)
  (.inl ⟨hp.nx,0,y,rfl,Nat.le_refl _,Nat.lt_succ_self _,by simp[Mw],hy _ (js _ h0)⟩)
 exact⟨s.nx,_,hq,_,F,_,h1,h2,rfl,o9 _ _ _,rfl⟩
theorem Q5 (vs:Af)(j:Nat)(x:Aw)(h:vs[j]? =some x):(fill .e 0 vs).get j=some x:=by rw[f6,if_pos ⟨Nat.zero_le _,by have:=(List.getElem?_eq_some_iff.1 h).1;omega⟩];grind
variable {l:Au}{vs:Af}
def eG (h:VDL P U τ F l vs)(e z:Nat):BD P U τ F 0 (.cells l e z) (A0 vs e z):=by refine⟨fill .e 0 vs,vs.length,rfl,by rw[h.1];omega,fun j a ha=>?_⟩;obtain⟨x,h1,h2⟩:=h.get ha;exact⟨x,by rw[Nat.zero_add];exact Q5 vs j x h1,h2⟩
def zE {e:Ay}(h:VDL P U τ F l vs)(hs:SD P U τ F s hp):OKh P U (sbox e l) τ F s hp fun a τ' F' hp'=>(a,hp')=(a,(hp.add ⟨A0 vs e vs.length,.ptr,rfl⟩).2)/\VD P U τ' F' a (hp.add ⟨A0 vs e vs.length,.ptr,rfl⟩).1:=by
 unfold sbox;refine(OKh.alloc (y:=A0 vs e vs.length) hs fun τ' ht=>?_).bind fun b τ' F' s' hp' _ c ⟨h1,h2,h3⟩=>?_
 ·rw[h.1];exact eG (h.mono ht (LZ F)) e vs.length
 ·subst h1;subst h3;refine Mf ⟨rfl,?_⟩;exact VD.ptr' h2 (by show(0:Int)<=0;omega) (by show 0=0+(0:Int).toNat*_+0;simp)
def se {l:Au}{vs:Af}(h:VDL P U τ F l vs):∀n,VDL P U τ F (srep n l) (xrep n vs)
 |0=>MC|n+1=>h.append (se h n)
def nu {t:Ay}{len:Nat}{ps:List (Nat×SV)}{g:List (Nat×Aw)}(h:PVD P U τ F ps g)(hs:SD P U τ F s hp):OKh P U (dZ P t len ps) τ F s hp fun a τ' F' hp'=>∃n,sw P t len g=some n/\hp'=(hp.add n).2/\VD P U τ' F' a (hp.add n).1:=by
 unfold dZ;split
 ·rename_i e he;split
  ·rename_i ie f;split
   ·rename_i z hz;obtain⟨zv,h1,h2⟩:=bF (U:=U) (τ:=τ) (F:=F) hz;rw[h2.1];cases hb:Nat.beq zv.cells.toList.length ie.size&&Nat.ble (len*ie.size) 16777216&&Nat.ble len 16777216 with
    |false=>exact Md|true=>
     simp only[cond_true];split
     ·rename_i cs c;obtain⟨ys,h3,h4⟩:=eg (se h2 len) h c;refine(OKh.alloc (y:=A0 ys e ie.size) hs fun τ' ht=>eG (h4.mono ht (LZ F)) e ie.size).bind fun b τ' F' s' hp' _ o ⟨k1,k2,k3⟩=>?_;subst k1;subst k3;refine Mf ⟨⟨A0 ys e ie.size,.slice len len,rfl⟩,?_,rfl,?_⟩
      ·simp only[sw,he,f,h1,hb,cond_true,h3]
      ·have p:len<unk:=by simp only[Bool.and_eq_true,Nat.ble_eq]at hb;unfold unk;omega
       have:=VD.sl (P:=P) (U:=U) (F:=F') b ie.size (.int 0) (.int len) (.ex (.int len)) hp.nx 0 len k2 (Int.le_refl 0) (Int.natCast_nonneg len) ⟨Int.natCast_nonneg len,(Int.toNat_natCast len).symm,p,Int.le_refl _⟩;have j:(E.int (len:Int)).toN U=len:=Int.toNat_natCast len;rw[j]at this;have m:(E.int 0).toN U*ie.size=0:=by show(0:Int).toNat*_=0;simp
       rw[m]at this;exact this
     ·exact Md
   ·exact Md
  ·exact Md
 ·exact Md
def xrep_length (n:Nat)(vs:Af):(xrep n vs).length=n*vs.length:=by
 induction n with
 |zero=>simp[xrep]|succ n a=>simp[xrep,a,Nat.succ_mul];omega
def eE {z:Nat}{vs:Af}(hz:vs.length=z):∀ {n r k:Nat},r<n->k<z->(xrep n vs)[r*z+k]? =vs[k]?
 |0,r,k,h,_=>by omega|n+1,0,k,_,hk=>by simp only[xrep,Nat.zero_mul,Nat.zero_add];rw[List.getElem?_append_left (by omega)]|n+1,r+1,k,h,hk=>by simp only[xrep];rw[List.getElem?_append_right (by rw[hz,Nat.succ_mul];omega),hz];rw[show(r+1)*z+k-z=r*z+k by rw[Nat.succ_mul];omega];exact eE hz (by omega) hk
def oP {t:Ay}{a b:SV}{v u:Aw}(ha:VD P U τ F a v)(hb:VD P U τ F b u)(hs:SD P U τ F s hp):OKh P U (gz P U t a b) τ F s hp fun c τ' F' hp'=>∃n,FU P t v u=some n/\hp'=(hp.add n).2/\VD P U τ' F' c (hp.add n).1:=by unfold gz;exact Md
end
end Go.Sx
namespace Go.Sx
open Go.Xe
section
variable {P :Ax}{U:Ab}{τ:Tau}{F:Ac}{s:SS}{hp:Hp}
def mf {len:E}{cap:Cp}{c:Nat}(h:qP U len cap c)(h0:0<=len.toI U):kh (len.toN U) c:=by
 cases cap with
 |ex e=>obtain⟨h1,h2,h3,h4⟩:=h;exact .inl ⟨h3,by rw[h2];show(len.toI U).toNat<=(e.toI U).toNat;omega⟩
 |ge=>obtain⟨lo,h1,h2,h3⟩:=h;exact .inr ⟨lo,h1,h2,by show(len.toI U).toNat<=_;omega⟩
 |un=>
  rcases h with⟨h1,h2,h3⟩| ⟨lo,h1,h2,h3⟩
  ·exact .inl ⟨h1,by rw[h2];exact Nat.le_refl _⟩
  ·exact .inr ⟨lo,h1,h2,by show(len.toI U).toNat<=_;omega⟩
variable {off:Int}
theorem S7 {rows:Rows}{len:Int}(h0:0<=off)(h1:0<=len)(h2:off+len<=rows.length):(part rows off len).length=len.toNat:=by unfold part;grind
theorem bB {rows:Rows}{len:Int}{r:Nat}{row:As}(h:(part rows off len)[r]? =some row):rows[off.toNat+r]? =some row:=by unfold part at h;grind
theorem PV.of_rows {F:Ac}{e e' z a o n i c:Nat}{cs:Ao}{rows:Rows}{len:Int}(hF:F i=some (.cells cs n e' a))(j:a=z)(hr:q7 P F e z o n cs rows)(h0:0<=off)(h1:0<=len)(h2:off+len<=rows.length)(hc:kh len.toNat c):PV P F (.sl e) (.slice (some ⟨i,o+off.toNat*z,none⟩) len.toNat c) (.lst (part rows off len)):=by
 subst j;obtain⟨A,m,p,q⟩:=hr;have hl:=S7 h0 h1 h2;have hx:∀(r k:Nat),∃x,∀row d,(part rows off len)[r]? =some row->row[k]? =some d->cs.get (o+off.toNat*a+r*a+k)=some x/\ ∀kd,(kf P e)[k]? =some kd->PV P F kd x d:=by
  intro r k;cases f:(part rows off len)[r]? with
  |none=>exact⟨undef,fun row d h=>by cases h⟩|some row=>
   cases hd:row[k]? with
   |none=>exact⟨undef,fun g d h h'=>by cases h;rw[hd]at h';cases h'⟩|some d=>obtain⟨x,k1,k2⟩:=q _ k row d (bB f) hd;refine⟨x,fun g w h h'=>?_⟩;grind
 have:=PV.sl (P:=P) (F:=F) e i (o+off.toNat*a) c _ cs n a (part rows off len) (fun r k=>(hx r k).choose) hF rfl ⟨by rw[hl];exact hc,.mk⟩
  (by
   rw[hl];have:off.toNat*a+len.toNat*a<=rows.length*a:=by rw[<-Nat.add_mul];exact Nat.mul_le_mul_right a (by omega)
   omega) m (fun r hr=>p r (List.mem_of_mem_drop (List.mem_of_mem_take hr)))
  (fun r k row d h1 h2=>((hx r k).choose_spec row d h1 h2).1) (fun r k row kd d h1 h2 h3=>((hx r k).choose_spec row d h1 h2).2 kd h3)
 grind
def E5 {L off len:E}:OKp U (dT U L off len) s fun e=>e.den U= .lst (part (L.toR U) (off.toI U) (len.toI U)):=by
 unfold dT;split
 ·rename_i m;cases hb:decide (m=0)&&E.like len (A5 L)with
  |false=>exact Ml rfl|true=>
   simp only[cond_true];simp only[Bool.and_eq_true,decide_eq_true_eq]at hb;refine OKp.need.bind fun _ s1 _ _ h=>Ml ?_;have h:=cu h;rw[i4]at h;rw[ig];congr 1;unfold part;have a:((E.int m).toI U).toNat=0:=by rw[hb.1];rfl
   rw[a,h,Int.toNat_natCast,List.drop_zero,List.take_length]
 ·exact Ml rfl
variable {b:Nat}
def OKh.drop :OKh P U (jn b none) τ F s hp fun _ τ' F' hp'=>τ'=τ/\F'=F/\hp'=hp:=by intro Q hq hs;obtain⟨h1,h2⟩:=hs.drop b;exact⟨(),_,hq,τ,F,hp,h1,h2,rfl,rfl,rfl⟩
def OKh.freeze {i o:Nat}{x:w9}(hb:s.get b=some x)(ht:τ b=some (some (i,o))){y:Blk}(hi:hp.m.get i=some y):OKh P U (jn b none) τ F s hp fun _ τ' F' hp'=>τ'=τ/\hp'=hp/\F' i=some y:=by intro Q hq hs;obtain⟨F',h1,h2,h3,h4⟩:=hs.freeze hb ht hi;exact⟨(),_,hq,τ,F',hp,h3,h4,rfl,rfl,h2⟩
def OKh.fz {L:E}{e z:Nat}(h:AG P U τ F (b,L,e,z)):OKh P U (mfz b L e z) τ F s hp fun _ τ' F' hp'=>τ'=τ/\F'=F/\hp'=hp:=by
 intro Q hq hs;refine⟨(),_,hq,τ,F,hp,?_,⟨hs.live,hs.inj,hs.frz,hs.lt,hs.flt,hs.new,hs.fc,fun r hr=>?_⟩,rfl,rfl,rfl⟩
 ·have h:=Ext.refl hs;exact⟨h.t,h.f,h.nx,h.snx,h.st,h.low,h.hh,h.hf,h.win⟩
 ·rcases List.mem_cons.1 hr with rfl|hr
  ·exact h
  ·exact hs.fz r hr
theorem hX {f:Kd->SV->M E}{ks:List Kd}(hf:∀k a v τ F s hp,VD P U τ F a v->SD P U τ F s hp->OKh P U (f k a) τ F s hp fun e τ' F' hp'=>τ'=τ/\hp'=hp/\PV P F' k v (e.den U)):∀ {l:Au} {vs:Af} {j:Nat} {τ:Tau} {F:Ac} {s:SS} {hp:Hp},VDL P U τ F l vs->SD P U τ F s hp->OKh P U (pD f ks j l) τ F s hp fun es τ' F' hp'=>τ'=τ/\hp'=hp/\es.length=l.length/\ ∀(q:Nat) x e,vs[q]? =some x->es[q]? =some e-> ∃kd,ks[(j+q) % ks.length]? =some kd/\PV P F' kd x (e.den U)
 | [],vs,j,τ,F,s,hp,h,hs=>Mf ⟨rfl,rfl,rfl,fun q x e _ h=>by simp at h⟩|a::l,vs,j,τ,F,s,hp,h,hs=>by
  obtain⟨y,ys,rfl,h1,h2⟩:=h.uncons;unfold pD;split
  ·rename_i k hk;refine(hf k a y τ F s hp h1 hs).bind fun e τ1 F1 s1 hp1 ex hs1 ⟨g,m,o⟩=>?_;subst g;subst m;refine(hX hf (h2.mono ex.t ex.f) hs1).bind fun es τ2 F2 s2 hp2 c A ⟨p,r,w,B⟩=>Mf ⟨p,r,by simp[w],fun q x d hx hd=>?_⟩;cases q with
   |zero=>simp at hx hd;subst hx;subst hd;exact⟨k,hk,o.mono P c.f⟩|succ q=>grind
  ·exact Md
theorem eU :∀(d:Nat) (k:Kd) (a:SV) (v:Aw) (τ:Tau) (F:Ac) (s:SS) (hp:Hp),VD P U τ F a v->SD P U τ F s hp->OKh P U (uQ P U d k a) τ F s hp fun e τ' F' hp'=>τ'=τ/\hp'=hp/\PV P F' k v (e.den U)
 |0,k,a,v,τ,F,s,hp,ha,hs=>Md|d+1,k,a,v,τ,F,s,hp,ha,hs=>by
  unfold uQ;split
  ·rename_i e he;exact Mf ⟨rfl,rfl,sk ha he⟩
  ·split
   ·rename_i e b z off len cap _;refine Me ?_;split
    ·rename_i L e' G ph hb;cases hq:Nat.beq e e'&&Nat.beq z G with
     |false=>exact Md|true=>
      simp only[cond_true];simp only[Bool.and_eq_true,Nat.beq_eq]at hq;obtain⟨rfl,rfl⟩:=hq;refine Mb Mh fun _ s1 X hs1 p1=>?_;have p1:=J0 p1;rw[m9,i4]at p1;have p:s1.get b=some (.rows L e z ph):=by rw[X.get];exact hb
      rcases hs1.live b _ p with⟨i,o,y,h1,h2,_,cs,n,rfl,h4,h5⟩| ⟨h1,L',e',G,Z,h2,h3,_⟩
      ·cases ha with
       |sl _ _ _ _ _ W o' c h h0 g hc=>
        rw[h1]at h;simp only[Option.some.injEq,Prod.mk.injEq]at h;obtain⟨rfl,rfl⟩:=h;refine(OKh.freeze p h1 h2).bind fun _ τ2 F2 s2 hp2 ex D ⟨A,B,w⟩=>?_;subst A;subst B;have O:q7 P F2 e z o n cs (L.toR U):=⟨h4.1,h4.2.1,h4.2.2.1,fun r k row d w1 w2=>let⟨x,w3,w4⟩:=h4.2.2.2 r k row d w1 w2;⟨x,w3,fun kd w5=>(w4 kd w5).mono P ex.f⟩⟩
        refine(OKh.fz (.inl ⟨i,o,cs,n,h1,w,O⟩)).bind fun _ T V s3 N C Q ⟨I,J,H⟩=>?_;subst I;subst J;subst H;refine OKh.bindp' E5 fun c' he=>⟨rfl,rfl,?_⟩
        rw[he];exact PV.of_rows w rfl O h0 g p1 (mf hc g)
       |sl0 _ _ _ _ _ h h0 g hc=>grind
      ·cases ha with
       |sl _ _ _ _ _ W o' c h h0 g hc=>grind|sl0 _ _ _ _ _ h h0 g hc=>
        refine OKh.drop.bind fun _ τ2 F2 s2 hp2 ex D ⟨A,B,w⟩=>?_;subst A;subst B;subst w;simp only[w9.rows.injEq]at h2;obtain⟨rfl,_⟩:=h2;refine(OKh.fz (.inr ⟨h1,h3⟩)).bind fun _ T V s3 N C Q ⟨I,J,H⟩=>?_;subst I;subst J;subst H;refine OKh.bindp' E5 fun c' he=>⟨rfl,rfl,?_⟩
        rw[he,h3];have:part [] (off.toI U) (len.toI U)=[]:=by simp[part]
        rw[this];exact .nils _
    ·rename_i l e' G hb;cases hq:Nat.beq e e'&&Nat.beq z G&&Nat.beq z (kf P e).length&&Nat.beq (l.length/z*z) l.length with
     |false=>exact Md|true=>
      simp only[cond_true];simp only[Bool.and_eq_true,Nat.beq_eq]at hq;obtain⟨⟨⟨rfl,rfl⟩,hz⟩,hN⟩:=hq;refine Mb Mh fun _ s1 X hs1 p1=>?_;have p1:=J0 p1;rw[m9]at p1;simp only[E1]at p1;have p:s1.get b=some (.cells l e z):=by rw[X.get];exact hb
      rcases hs1.live b _ p with⟨i,o,y,h1,h2,_,cs,n,rfl,h4,h5⟩| ⟨h1,L',e',G,Z,h2,h3,_⟩
      ·cases ha with
       |sl _ _ _ _ _ W o' c h h0 g hc=>
        rw[h1]at h;simp only[Option.some.injEq,Prod.mk.injEq]at h;obtain⟨rfl,rfl⟩:=h;refine(OKh.freeze p h1 h2).bind fun _ τ2 F2 s2 hp2 ex D ⟨A,B,w⟩=>?_;subst A;subst B;obtain⟨vs,v1,v2,v3⟩:=i8 (c:=cs) (R:=fun j x=>∀a,l[j]? =some a->VD P U τ2 F2 a x) l.length o 0 fun j hj=>by
         have:l[j]? =some l[j]:=by simp[hj]
         obtain⟨x,k1,k2⟩:=h5 j _ this;exact⟨x,k1,fun a ha=>by rw[Nat.zero_add,this]at ha;cases ha;exact k2.mono ex.t ex.f⟩
        have hv:VDL P U τ2 F2 l vs:=⟨v2.symm,fun j a x ha hx=>v3 j x hx a (by rw[Nat.zero_add];exact ha)⟩
        refine(hX (fun k a v τ F s hp=>eU d k a v τ F s hp) hv D).bind fun es T V s3 N C Q ⟨I,J,H,f4⟩=>?_;subst I;subst J;have K:V i=some (.cells cs n e z):=C.f _ _ w;have q:q7 P V e z o n cs ((E.op (.rows (l.length/z) z) es).toR U):=by
         refine aC hz (by rw[H,hN]) (by rw[H];exact h4) fun j x hx=>?_;have hj:j<l.length:=by grind
         have S:vs[j]? =some (vs[j]'(by omega)):=by grind
         obtain⟨kd,w1,w2⟩:=f4 j _ _ S hx;refine⟨_,by rw[<-(g9 v1).2 j hj];exact S,fun ae ab=>?_⟩;grind
        refine(OKh.fz (.inl ⟨i,o,cs,n,h1,K,q⟩)).bind fun _ ah F4 s4 ac aa ad ⟨g1,g2,g3⟩=>?_;subst g1;subst g2;subst g3;refine OKh.bindp' E5 fun c' he=>⟨rfl,rfl,?_⟩
        rw[he];refine PV.of_rows K rfl q h0 g ?_ (mf hc g);have:((E.op (.rows (l.length/z) z) es).toR U).length=l.length/z:=by show(chunk z (l.length/z) _).length=_;rw[K6]
        grind
       |sl0 _ _ _ _ _ h h0 g hc=>grind
      ·cases h2
    ·exact Md
    ·exact Md
    ·split
     ·rename_i L e' G hb;cases hq:Nat.beq e e'&&Nat.beq z G with
      |false=>exact Md|true=>
       simp only[cond_true];simp only[Bool.and_eq_true,Nat.beq_eq]at hq;obtain⟨rfl,rfl⟩:=hq;refine Mb Mh fun _ s1 X hs1 p1=>?_;have p1:=J0 p1;rw[m9,i4]at p1;refine OKh.bindp' E5 fun c' he=>⟨rfl,rfl,?_⟩
       rw[he];rcases hs.fz _ (X7 hb)with⟨i,o,cs,n,h1,h2,h4⟩| ⟨h1,h2⟩
       ·cases ha with
        |sl _ _ _ _ _ W o' c h h0 g hc=>rw[h1]at h;simp only[Option.some.injEq,Prod.mk.injEq]at h;obtain⟨rfl,rfl⟩:=h;exact PV.of_rows h2 rfl h4 h0 g p1 (mf hc g)
        |sl0 _ _ _ _ _ h h0 g hc=>grind
       ·cases ha with
        |sl _ _ _ _ _ W o' c h h0 g hc=>grind|sl0 _ _ _ _ _ h h0 g hc=>
         have Y:L.toR U=[]:=h2;have:part [] (off.toI U) (len.toI U)=[]:=by simp[part]
         rw[Y,this];exact .nils _
     ·exact Md
   ·exact Md
where
 OKh.bindp' {m:M E} {R:E->Prop} {R':E->Tau->(Ac)->Hp->Prop} {τ:Tau} {F:Ac} {s:SS} {hp:Hp} (h:OKp U m s R) (hr:∀e,R e->R' e τ F hp):OKh P U m τ F s hp R':=
  (h.up (P:=P) (τ:=τ) (F:=F) (hp:=hp)).mono fun a τ' F' hp' _ _ ⟨A,B,w,e4⟩=>by subst A;subst B;subst w;exact hr a e4
end
end Go.Sx
namespace Go.Sx
open Go.Xe
section
variable {P :Ax}{U:Ab}{τ:Tau}{F:Ac}{s:SS}{hp:Hp}
variable {z:Nat}
theorem sU {r k a k':Nat}(hk:k<z)(c:k'<z)(h:r*z+k=a*z+k'):r=a/\k=k':=by
 have h1:(r*z+k)/z=r:=by rw[Nat.mul_comm,Nat.mul_add_div (by omega),Nat.div_eq_of_lt hk];omega
 have h2:(a*z+k')/z=a:=by rw[Nat.mul_comm,Nat.mul_add_div (by omega),Nat.div_eq_of_lt c];omega
 grind
variable {e:Nat}{cs:Ao}{x:Aw}
theorem q7.set1 {F:Ac}{o n:Nat}{rows:Rows}(h:q7 P F e z o n cs rows){r:Int}{j:Nat}(hj:j<z){d:Dat}(hx:∀kd,(kf P e)[j]? =some kd->PV P F kd x d):q7 P F e z o n (cs.set (o+r.toNat*z+j) (some x)) (setAt rows r j d):=by
 obtain⟨B,C,D,A⟩:=h;unfold setAt;refine⟨by simpa using B,C,fun row hr=>?_,fun f k row p hr hk=>?_⟩
 ·obtain⟨q,hq⟩:=List.getElem?_of_mem hr;grind
 ·rw[List.getElem?_modify]at hr;cases g:rows[f]? with
  |none=>grind|some a=>
   have hl:=D a (List.mem_of_getElem? g);rw[g]at hr;by_cases e:r.toNat=f
   ·simp only[e,if_true,Option.map_eq_map,Option.map_some,Option.some.injEq]at hr;rw[<-hr,List.getElem?_set]at hk;by_cases w:j=k
    ·subst w;rw[if_pos rfl,if_pos (by rw[hl];exact hj),Option.some.injEq]at hk;refine⟨x,?_,fun kd m=>by rw[<-hk];exact hx kd m⟩;rw[Mw,if_pos (by rw[e])]
    ·rw[if_neg w]at hk;obtain⟨y,k1,k2⟩:=A f k a p g hk;have c:k<z:=by grind
     refine⟨y,?_,k2⟩;rw[Mw,if_neg]
     ·exact k1
     ·grind
   ·simp only[e,if_false,Option.map_eq_map,Option.map_some,Option.some.injEq]at hr;subst hr;obtain⟨y,k1,k2⟩:=A f k a p g hk;have c:k<z:=by grind
    refine⟨y,?_,k2⟩;rw[Mw,if_neg]
    ·exact k1
    ·intro h;exact e (sU c hj (show f*z+k=r.toNat*z+j by omega)).1.symm
def qf {F:Ac}{e z o n:Nat}{row:E}(h0:0<=row.toI U):∀ {es:Av} {vs:Af} {L:E} {cs:Ao} {fld:Nat},q7 P F e z o n cs (L.toR U)->es.length=vs.length->fld+es.length<=z->(∀(q:Nat) x d,vs[q]? =some x->es[q]? =some d-> ∀kd,(kf P e)[fld+q]? =some kd->PV P F kd x (d.den U))->q7 P F e z o n (fill cs (o+row.toN U*z+fld) vs) ((FE L row fld es).toR U)
 | [],[],L,cs,fld,h,_,_,_=>h|d::es,x::vs,L,cs,fld,h,hl,hf,hp=>by
  simp only[fill,FE];have h1:=h.set1 (r:=row.toI U) (j:=fld) (x:=x) (d:=d.den U) (by simp at hf;omega) (fun kd a=>hp 0 x d rfl rfl kd a);have h2:=qf (e:=e) (n:=n) h0 (es:=es) (vs:=vs) (L:= .op (.upd fld) [L,row,d]) (fld:=fld+1) h1 (by simpa using hl) (by simp at hf;omega)
   (fun q y w hy hw kd a=>hp (q+1) y w (by simpa using hy) (by simpa using hw) kd (by rw[<-a];congr 1;omega))
  exact h2
 | [],_::_,_,_,_,_,hl,_,_=>by simp at hl|_::_,[],_,_,_,_,hl,_,_=>by simp at hl
variable {v:Aw}
def Hg {a:SV}(h:VD P U τ F a v)(e:uv a=true):v.oneCell'=true:=by
 cases h with
 |any=>simp[uv]at e|agg=>simp[uv]at e|tup=>simp[uv]at e|lst t L clip v h hc=>generalize L.toR U=rows at h;cases h<;>rfl
 |_=>rfl
def uw {l:Au}{vs:Af}(h:VDL P U τ F l vs)(e:l.all uv=true):vs.all Value.oneCell'=true:=by
 rw[List.all_eq_true]at e⊢;intro x hx;obtain⟨i,hi⟩:=List.getElem?_of_mem hx;have a:i<l.length:=by have:=(List.getElem?_eq_some_iff.1 hi).1;rw[h.1];exact this
 have ha:l[i]? =some l[i]:=by simp[a]
 exact Hg (h.2 i _ _ ha hi) (e _ (List.mem_of_getElem? ha))
def jY {t:Ay}{a:Bb}(f:P.info? t=some a)(hx:x.cells.toList.length=a.size)(j:x.cells.toList.all Value.oneCell'=true){i o n:Nat}{c:Ao}(g:hp.m.get i=some (.cells c n e z))(hn:o+a.size<=n):A8 P hp t (.pointer (some ⟨i,o,none⟩)) x=some {hp with m:=hp.m.set i (some (.cells (fill c o x.cells.toList) n e z))}:=by simp only[A8,g,f];rw[show(Nat.beq x.cells.toList.length a.size&&Nat.ble (o+a.size) n&&x.cells.toList.all Value.oneCell')=true by simp only[Bool.and_eq_true,Nat.beq_eq,Nat.ble_eq];exact⟨⟨hx,hn⟩,j⟩];simp only[cond_true,jS,Mt]
variable {b:Nat}
def OKh.change {i o:Nat}{x x':w9}(hb:s.get b=some x)(ht:τ b=some (some (i,o))){y:Blk}{m:T Blk}(hk:∀j,j≠i->m.get j=hp.m.get j)(hi:m.get i=some y)(hd:BD P U τ F o x' y)(hw:∀c e z c',x= .cells c e z->x'= .cells c' e z->c'.length=c.length-> ∀cs n,hp.m.get i=some (.cells cs n e z)-> ∃cs',y= .cells cs' n e z/\ ∀j,j<o\/o+c.length<=j->cs'.get j=cs.get j:=by intro _ _ _ _ h h';first| (cases h;done)| (cases h';done)):OKh P U (jn b (some x')) τ F s hp fun _ τ' F' hp'=>τ'=τ/\F'=F/\hp'= {hp with m:=m}:=by intro Q hq hs;obtain⟨h1,h2⟩:=hs.change (hp':= {hp with m:=m}) hb ht rfl hk hi hd hw;exact⟨(),_,hq,τ,F,_,h1,h2,rfl,rfl,rfl⟩
def Mc:type_of% @OKh.change:=@OKh.change
def mP (hs:SD P U τ F s hp):OKh P U (uj P b) τ F s hp fun _ τ' F' hp'=>τ'=τ/\F'=F/\hp'=hp:=by
 unfold uj;refine Me ?_;split
 ·rename_i l e z hb;split
  ·rename_i L g;rcases hs.live b _ hb with⟨i,o,y,h1,h2,_,cs,n,rfl,h4,h5⟩| ⟨h1,p,e',q,j,h2,h3,_⟩
   ·have hr:=jy g h4 h5;refine(Mc (m:=hp.m) (x':= .rows L e z (.int (l.length/z:Nat))) hb h1 (fun _ _=>rfl) h2 ⟨cs,n,rfl,hr,?_⟩).mono fun _ τ' F' hp' _ _ ⟨a,c,f⟩=>⟨a,c,f⟩
    have a:(E.int ((l.length/z:Nat):Int)).toN U=l.length/z:=Int.toNat_natCast _;rw[a];have:l.length/z*z<=l.length:=Nat.div_mul_le_self _ _;omega
   ·cases h2
  ·exact Md
 ·exact Mf ⟨rfl,rfl,rfl⟩
variable {l:Rows}
theorem pR {rows:Rows}{a:Int}(h1:a<=rows.length){r:Nat}{row:As}(h:(Sx.over rows a l)[r]? =some row):(r<a.toNat/\rows[r]? =some row)\/(a.toNat<=r/\r<a.toNat+l.length/\l[r-a.toNat]? =some row)\/(a.toNat+l.length<=r/\rows[r]? =some row):=by
 unfold Sx.over at h;have hl:(rows.take a.toNat).length=a.toNat:=by grind
 by_cases c:r<a.toNat
 ·grind
 ·by_cases f:r<a.toNat+l.length
  ·grind
  ·rw[List.append_assoc,List.getElem?_append_right (by omega),hl,List.getElem?_append_right (by omega),List.getElem?_drop]at h;grind
theorem ux {rows:Rows}{a:Int}(h1:a<=rows.length):(Sx.over rows a l).length=Nat.max rows.length (a.toNat+l.length):=by unfold Sx.over;grind
theorem q7.over {o k:Nat}{rows:Rows}{news:Af}(hr:q7 P F e z o k cs rows){a:Int}(h1:a<=rows.length)(hl:∀r∈l,r.length=z)(hn:news.length=l.length*z)(hk:o+(a.toNat+l.length)*z<=k)(hx:∀(r j:Nat) (row:As) (d:Dat),l[r]? =some row->row[j]? =some d-> ∃x,news[r*z+j]? =some x/\ ∀kd,(kf P e)[j]? =some kd->PV P F kd x d):q7 P F e z o k (fill cs (o+a.toNat*z) news) (Sx.over rows a l):=by
 obtain⟨A,g,f,B⟩:=hr;refine⟨?_,g,fun r h=>?_,fun r j row d h h'=>?_⟩
 ·rw[ux h1];grind
 ·obtain⟨q,hq⟩:=List.getElem?_of_mem h;rcases pR h1 hq with⟨_,h⟩| ⟨_,_,h⟩| ⟨_,h⟩
  ·grind
  ·grind
  ·grind
 ·rw[f6,hn];rcases pR h1 h with⟨c,h⟩| ⟨m,p,h⟩| ⟨c,h⟩
  ·have hj:j<z:=by have:=f _ (List.mem_of_getElem? h);have:=(List.getElem?_eq_some_iff.1 h').1;omega
   have:r*z+z<=a.toNat*z:=by rw[<-Nat.succ_mul];exact Nat.mul_le_mul_right z c
   grind
  ·have hj:j<z:=by have:=hl _ (List.mem_of_getElem? h);have:=(List.getElem?_eq_some_iff.1 h').1;omega
   obtain⟨x,k1,k2⟩:=hx _ j row d h h';have w:r*z=a.toNat*z+(r-a.toNat)*z:=by rw[<-Nat.add_mul];congr 1;omega
   grind
  ·have hj:j<z:=by have:=f _ (List.mem_of_getElem? h);have:=(List.getElem?_eq_some_iff.1 h').1;omega
   have:(a.toNat+l.length)*z<=r*z:=Nat.mul_le_mul_right z c;grind
variable {vs:Au}
theorem fP {t:Ay}{H:Bb}(C:P.info? t=some H){fld:Nat}{row:E}(ha:VD P U τ F (.ptr b z row fld) v)(G:VDL P U τ F vs x.cells.toList)(hx:x.cells.toList.length=H.size)(ho:x.cells.toList.all Value.oneCell'=true)(hs:SD P U τ F s hp):OKh P U (cK P U b z row fld vs) τ F s hp fun a _ _ hp'=>a= .tup []/\A8 P hp t v x=some hp':=by
 unfold cK;refine Me ?_;split
 ·rename_i L0 e z0 ah ab;cases hq:Nat.ble (fld+vs.length) z&&Nat.beq z (kf P e).length with
  |false=>exact Md|true=>
   simp only[cond_true];simp only[Bool.and_eq_true,Nat.beq_eq,Nat.ble_eq]at hq;obtain⟨hf,hz⟩:=hq;refine(hX (ks:=kf P e) (j:=fld) (fun k a v τ F s hp=>eU 20 k a v τ F s hp) G hs).bind fun es τ1 F1 s1 hp1 ex hs1 ⟨e1,e2,I,e4⟩=>Me ?_;subst e1;subst e2;split
   ·rename_i L e' z' ph hb;cases hq:Nat.beq e e'&&Nat.beq z z' with
    |false=>exact Md|true=>
     simp only[cond_true];simp only[Bool.and_eq_true,Nat.beq_eq]at hq;obtain⟨rfl,rfl⟩:=hq;cases hT:phT ph L&&Nat.beq z 1&&Nat.beq fld 0&&Nat.beq es.length 1 with
     |true=>
      simp only[cond_true];simp only[Bool.and_eq_true,Nat.beq_eq]at hT;obtain⟨⟨⟨_,rfl⟩,rfl⟩,J⟩:=hT;obtain⟨e0,rfl⟩:∃e0,es=[e0]:=by
       match es,J with
       | [e0],_=>grind
      refine Mb Mh fun _ s2 X B p1=>Mb Mh fun _ Z o3 Q p2=>?_;have p1:=J0 p1;have p2:=H8 p2;rw[i4]at p1;have hb2:Z.get b=some (.rows L e 1 ph):=by rw[o3.get,X.get];exact hb
      have p:=ha.mono ex.t ex.f;rcases Q.live b _ hb2 with⟨i,o,y,h1,h2,_,cs,n,rfl,h4,h5⟩| ⟨h1,L',e',z',Y,h2,h3,_⟩
      ·cases p with
       |ptr _ _ _ _ V o' h h0=>
        rw[h1]at h;simp only[Option.some.injEq,Prod.mk.injEq]at h;obtain⟨rfl,rfl⟩:=h;have ad:row.toN U+1<=ph.toN U:=by grind
        have S:x.cells.toList.length=1:=by rw[<-G.1,<-I];rfl
        have c:o+row.toN U*1+0+H.size<=n:=by grind
        have R:=jY C hx ho h2 c;have g:=q7.over (P:=P) (F:=F1) (news:=x.cells.toList) (l:=[[e0.den U]]) (a:=row.toI U) h4 p1 (fun r hr=>by simp at hr;rw[hr];rfl) (by rw[S];rfl)
         (by show o+(row.toN U+1)*1<=n;omega) (fun r j q d hr hd=>by
          have N:r=0:=by grind
          subst N;simp at hr;subst hr;have K:j=0:=by grind
          subst K;simp at hd;subst hd;obtain⟨y,hy⟩:∃y,x.cells.toList[0]? =some y:=⟨_,List.getElem?_eq_getElem (by omega)⟩
          refine⟨y,hy,fun kd w=>?_⟩;obtain⟨W,A,D⟩:=e4 0 y e0 hy rfl;rw[<-hz,w,Option.some.injEq]at A;subst A;exact D)
        refine(Mc (x':= .rows (.op .over [L,row,.op (.rows 1 1) [e0]]) e 1 ph) (y:= .cells (fill cs (o+row.toN U*1+0) x.cells.toList) n e 1) (m:=hp1.m.set i (some (.cells (fill cs (o+row.toN U*1+0) x.cells.toList) n e 1))) hb2 h1 (fun j hj=>by rw[Mw,if_neg hj]) (by rw[Mw,if_pos rfl]) ⟨_,n,rfl,g,h5⟩).bind fun _ aa F3 Z M _ _ ⟨A,D,w3⟩=>Mf ⟨rfl,?_⟩;grind
      ·cases p with
       |ptr _ _ _ _ V o' h h0=>grind
     |false=>
     simp only[cond_false];refine Mb Mh fun _ s2 X B p1=>?_;have p1:=H8 p1;rw[i4]at p1;have hb2:s2.get b=some (.rows L e z ph):=by rw[X.get];exact hb
     have p:=ha.mono ex.t ex.f;rcases B.live b _ hb2 with⟨i,o,y,h1,h2,_,cs,n,rfl,h4,h5⟩| ⟨h1,L',e',z',Y,h2,h3,_⟩
     ·cases p with
      |ptr _ _ _ _ V o' h h0=>
       rw[h1]at h;simp only[Option.some.injEq,Prod.mk.injEq]at h;obtain⟨rfl,rfl⟩:=h;have O:row.toN U<(L.toR U).length:=by grind
       have ac:row.toN U*z+z<=(L.toR U).length*z:=by rw[<-Nat.succ_mul];exact Nat.mul_le_mul_right z O
       have g1:=h4.1;have c:o+row.toN U*z+fld+H.size<=n:=by rw[<-hx,<-G.1];omega
       have R:=jY C hx ho h2 c;have g:=qf (P:=P) (F:=F1) h0 (es:=es) (vs:=x.cells.toList) (fld:=fld) h4 (by rw[I,G.1]) (by rw[I];exact hf) (fun q y d hy hd kd w=>by obtain⟨W,A,D⟩:=e4 q y d hy hd;have ae:q<es.length:=(List.getElem?_eq_some_iff.1 hd).1;rw[<-hz,Nat.mod_eq_of_lt (by omega),w,Option.some.injEq]at A;subst A;exact D);refine(Mc (x':= .rows (FE L row fld es) e z ph) (m:=hp1.m.set i (some (.cells (fill cs (o+row.toN U*z+fld) x.cells.toList) n e z))) hb2 h1 (fun j hj=>by rw[Mw,if_neg hj]) (by rw[Mw,if_pos rfl]) ⟨_,n,rfl,g,h5⟩).bind fun _ aa F3 Z M _ _ ⟨A,D,w3⟩=>Mf ⟨rfl,?_⟩;grind
     ·cases p with
      |ptr _ _ _ _ V o' h h0=>grind
   ·exact Md
 ·exact Md
def xH {t:Ay}{c:Bb}(g:P.info? t=some c){f fld:Nat}{l:Au}{row:E}(hb:s.get b=some (.cells l e f))(hf:fld<=l.length)(ha:VD P U τ F (.ptr b 1 row fld) v)(m:VDL P U τ F vs x.cells.toList)(hx:x.cells.toList.length=c.size)(j:x.cells.toList.all Value.oneCell'=true)(hs:SD P U τ F s hp):OKh P U (sg U b l e f row fld vs) τ F s hp fun a _ _ hp'=>a= .tup []/\A8 P hp t v x=some hp':=by unfold sg;exact Md
theorem BY {t:Ay}{a b:SV}(ha:VD P U τ F a v)(hb:VD P U τ F b x)(hs:SD P U τ F s hp):OKh P U (xG P U t a b) τ F s hp fun c _ _ hp'=>c= .tup []/\A8 P hp t v x=some hp':=by
 unfold xG;split
 ·exact Md
 ·rename_i K g;split
  ·exact Md
  ·rename_i vs I;have f:=eT hb I;cases hq:Nat.beq vs.length K.size&&vs.all uv with
   |false=>exact Md|true=>
    simp only[cond_true];simp only[Bool.and_eq_true,Nat.beq_eq]at hq;obtain⟨A,B⟩:=hq;have hx:x.cells.toList.length=K.size:=by rw[<-f.1];exact A
    have C:=uw f B;split
    ·rename_i b' z row fld;refine Me ?_;split
     ·rename_i l e D p;split
      ·rename_i r;cases hq:decide (0<=r)&&Nat.ble (r.toNat*z+fld+vs.length) l.length with
       |false=>exact Md|true=>
        simp only[cond_true];simp only[Bool.and_eq_true,decide_eq_true_eq,Nat.ble_eq]at hq;rcases hs.live b' _ p with⟨i,o,y,h1,h2,_,cs,n,rfl,h4,h5⟩| ⟨h1,Y,e',D,R,h2,h3,_⟩
        ·cases ha with
         |ptr _ _ _ _ Z o' h h0=>
          rw[h1]at h;simp only[Option.some.injEq,Prod.mk.injEq]at h;obtain⟨rfl,rfl⟩:=h;have G:(E.int r).toN U=r.toNat:=rfl;have Q:=jY g hx C h2 (o:=o+(E.int r).toN U*z+fld) (by rw[G,<-hx,<-f.1];omega);refine(Mc (x':= .cells (P1 l (r.toNat*z+fld) vs) e D) (m:=hp.m.set i (some (.cells (fill cs (o+(E.int r).toN U*z+fld) x.cells.toList) n e D))) p h1 (fun j hj=>by rw[Mw,if_neg hj]) (by rw[Mw,if_pos rfl])
           ⟨_,n,rfl,?_,fun j c hc=>?_⟩ (by intro c _ _ c' k1 _ _ L n1 J;cases k1;rw[h2]at J;cases J;exact⟨_,rfl,fun j hj=>by rw[f6,if_neg (by rw[G];have:=f.1;omega)]⟩)).bind fun _ W X s3 O _ _ ⟨S,V,w3⟩=>Mf ⟨rfl,?_⟩
          ·unfold P1;simp;omega
          ·unfold P1 at hc;rw[f6,G];by_cases hj:r.toNat*z+fld<=j/\j<r.toNat*z+fld+x.cells.toList.length
           ·rw[if_pos (by omega)];have q:(l.take (r.toNat*z+fld)).length=r.toNat*z+fld:=by grind
            rw[List.append_assoc,List.getElem?_append_right (by omega),List.getElem?_append_left (by rw[q,f.1];omega),q]at hc;obtain⟨w,S,V⟩:=f.get hc;grind
           ·rw[if_neg (by omega)];by_cases H:j<r.toNat*z+fld
            ·rw[List.append_assoc,List.getElem?_append_left (by simp;omega),List.getElem?_take,if_pos H]at hc;grind
            ·have q:(l.take (r.toNat*z+fld)).length=r.toNat*z+fld:=by simp;omega
             rw[List.append_assoc,List.getElem?_append_right (by omega),q,List.getElem?_append_right (by rw[f.1];omega),List.getElem?_drop]at hc;grind
          ·grind
        ·cases h2
      ·cases hq:Nat.beq z 1&& !Nat.beq D 1&&Nat.ble fld l.length with
       |true=>rw[cond_true];simp only[Bool.and_eq_true,Nat.beq_eq,Nat.ble_eq]at hq;obtain⟨⟨rfl,_⟩,hf⟩:=hq;exact xH g p hf ha f hx C hs
       |false=>rw[cond_false];refine(mP hs).bind fun _ τ1 F1 s1 hp1 ex hs1 ⟨q,M,N⟩=>?_;subst q;subst M;subst N;exact fP g ha f hx C hs1
     ·exact fP g ha f hx C hs
     ·exact Md
    ·exact Md
end
end Go.Sx
namespace Go.Sx
open Go.Xe
def qU (x:Bc SV)(d:E):Bc E:=match x with
 |none=>some d|some (.int _ e)=>some e|some _=>none
section
variable (P :Ax)(U:Ab)
def slen (t:Ay)(x:SV):M SV:=
 match P.underlying t,x with
 |some .string,.str e=>e8 (.int .i64 (gm e))|some (.array n _),_=>e8 (.int .i64 (.int n))|some (.slice _),.sl _ _ _ len _=>e8 (.int .i64 len)|some (.slice _),.lst _ L _=>e8 (.int .i64 (A5 L))|some (.slice _),.nils=>e8 (.int .i64 (.int 0))|some (.map _ _),.nilm=>e8 (.int .i64 (.int 0))|_,_=>a7 "len"
def scap (t:Ay)(x:SV):M SV:=
 have _:=P
 a7 "scap"
def rA (l h top:E):M Unit:=c6 (n5 U (z9 (A7 l (.int 0)))) fun _=>c6 (n5 U (z9 (A7 h l))) fun _=>n5 U (z9 (A7 top h))
def xF (t:Ay)(x:SV)(lo hi mx:Bc SV):M SV:=
 match P.underlying t with
 |some (.slice e)=>match P.info? e with
  |none=>a7 "slice"|some ie=>match x with
   | .lst e' L clip => bif Nat.beq e e' && Nat.beq ie.size (kf P e).length then
     match qU lo (.int 0),qU hi (A5 L),mx with
     |some l,some h,none=>c6 (rA U l h (A5 L)) fun _=>c6 (dT U L l (ui h l)) fun c=>e8 (.lst e' c (clip&&hi.isNone))
     |_,_,_=>a7 "slice"
    else a7 "slice"
   |_=>a7 "slice"
 |_=>a7 "slice"
end
section
variable {P :Ax}{U:Ab}{τ:Tau}{F:Ac}{s:SS}{hp:Hp}
variable {v:Aw}
def O1 {t:Ay}{w:Aw}(h:lu P t v=some w)(hm:∀i,v≠ .map (some i)):V3 hp P t v=some w:=by
 unfold V3;split
 ·rename_i i _;exact absurd rfl (hm i)
 ·exact h
def PV.slice {e:Ay}{d:Dat}(h:PV P F (.sl e) v d):∃a c,v= .slice a d.rows.length c:=by cases h<;>exact⟨_,_,rfl⟩
theorem Hw {t:Ay}{a:SV}(ha:VD P U τ F a v):OKp U (slen P t a) s fun b=>∃w,V3 hp P t v=some w/\VD P U τ F b w:=by
 unfold slen;split
 ·rename_i e ht;cases ha;refine Ml ⟨.int .i64 ((e.den U).toStr.length:Nat),O1 ?_ (fun i h=>by cases h),MA (X8 e)⟩;simp[lu,ht]
 ·rename_i _ _ _ n e ht;refine Ml ⟨.int .i64 (n:Nat),?_,MA rfl⟩;unfold V3;split
  ·simp_all
  ·simp only[lu,ht]
 ·rename_i e' b z off len cap ht;cases ha with
  |sl _ _ _ _ _ i o c h h0 h1 hc=>refine Ml ⟨.int .i64 (len.toN U:Nat),O1 ?_ (fun i h=>by cases h),MA (by show len.toI U=((len.toI U).toNat:Int);omega)⟩;simp[lu,ht]|sl0 _ _ _ _ _ h h0 h1 hc=>refine Ml ⟨.int .i64 0,O1 ?_ (fun i h=>by cases h),MA h1⟩;simp[lu,ht]
 ·rename_i e' t' L clip ht;cases ha with
  |lst _ _ _ _ h hc=>obtain⟨a,c,rfl⟩:=h.slice;refine Ml ⟨.int .i64 ((L.toR U).length:Nat),O1 ?_ (fun i h=>by cases h),MA (i4 L)⟩;simp only[lu,ht];rfl
 ·rename_i e' ht;cases ha;refine Ml ⟨.int .i64 0,O1 ?_ (fun i h=>by cases h),MA rfl⟩;simp[lu,ht]
 ·rename_i k' e' ht;cases ha;refine Ml ⟨.int .i64 0,O1 ?_ (fun i h=>by cases h),MA rfl⟩;simp[lu,ht]
 ·exact Mg
theorem Gx {e:Ay}{a:Ar}{l:Nat}{d:Dat}(h:PV P F (.sl e) (.slice a l l) d):a=none\/l<unk:=by
 cases h with
 |nils=>grind|sl _ i o c b cs n z rows x hF hb hc hn hz hr hx hp=>
  right;rcases hc.1 with⟨h,_⟩| ⟨lo,h1,h2,h3⟩
  ·exact h
  ·have:=j1 lo 0;rw[<-h1]at this;unfold unk at*;omega
def Ht {t:Ay}{a:SV}(ha:VD P U τ F a v):OKp U (scap P t a) s fun b=>∃w,xQ P t v=some w/\VD P U τ F b w:=by unfold scap;exact Mg
def OVD (P:Ax)(U:Ab)(τ:Tau)(F:Ac):Bc SV->Ag->Prop
 |none,none=>True|some a,some v=>VD P U τ F a v|_,_=>False
def wK {l h top:E}:OKp U (rA U l h top) s fun _=>0<=l.toI U/\l.toI U<=h.toI U/\h.toI U<=top.toI U:=by unfold rA;exact OKp.need.bind fun _ _ _ _ h1=>OKp.need.bind fun _ _ _ _ h2=>OKp.need.mono fun _ h3=>⟨eM h1,J0 h2,J0 h3⟩
theorem yH {x:Bc SV}{v:Ag}(h:OVD P U τ F x v){d e:E}(he:qU x d=some e):(v=none/\e=d)\/ ∃k,v=some (.int k (e.toI U)):=by
 unfold qU at he;split at he
 ·simp only[Option.some.injEq]at he;subst he;cases v with
  |none=>grind|some v=>exact h.elim
 ·simp only[Option.some.injEq]at he;subst he;cases v with
  |none=>exact h.elim|some v=>have:VD P U τ F (.int _ _) v:=h;cases this;exact .inr ⟨_,rfl⟩
 ·cases he
theorem ql {k:IntKind}{n:Int}{y:Nat}(h0:0<=n)(h1:n<=y):M4 (.int k n) y=some n.toNat:=by show(bif decide (0<=n)&&decide (n<=(y:Int))then some n.toNat else none)=some n.toNat;grind
theorem iM {lo hi:Bc SV}{vlo vhi:Ag}(c:OVD P U τ F lo vlo)(a:OVD P U τ F hi vhi){l h dl dh:E}(j:qU lo dl=some l)(f:qU hi dh=some h){len cb:Nat}(h1:0<=l.toI U)(h2:l.toI U<=h.toI U)(h3:h.toI U<=cb)(p:dl.toI U=0)(o:hi=none->h.toN U=len):p9 len cb vlo vhi none=some (l.toN U,h.toN U,none):=by
 have g:(match vhi with|some v=>M4 v cb|none=>some len)=some (h.toN U):=by
  rcases yH a f with⟨rfl,rfl⟩| ⟨k,rfl⟩
  ·cases hi with
   |none=>grind|some x=>exact a.elim
  ·exact ql (by omega) h3
 have m:(match vlo with|some v=>M4 v (h.toN U)|none=>some 0)=some (l.toN U):=by
  rcases yH c j with⟨rfl,rfl⟩| ⟨k,rfl⟩
  ·grind
  ·exact ql h1 (by show l.toI U<=((h.toI U).toNat:Int);omega)
 unfold p9;grind
def VD.sl' {b z i o c n a:Nat}{off len:E}{cap:Cp}(h:τ b=some (some (i,o)))(h0:0<=off.toI U)(h1:0<=len.toI U)(hc:qP U len cap c)(ha:a=o+off.toN U*z)(hn:n=len.toN U):VD P U τ F (.sl b z off len cap) (.slice (some ⟨i,a,none⟩) n c):=by subst ha;subst hn;exact .sl b z off len cap i o c h h0 h1 hc
end
end Go.Sx
namespace Go.Sx
open Go.Xe
section
variable {P :Ax}{U:Ab}{τ:Tau}{F:Ac}{s:SS}{hp:Hp}
variable {n:Nat}
def HG (h:n<=67108864):n<unk:=by unfold unk;omega
theorem ble_f {a b:Nat}(h:b<a):Nat.ble a b=false:=by
 cases hb:Nat.ble a b with
 |false=>rfl|true=>simp_all;omega
def tn (lo:Nat):L6 (c8 lo 0)=lo:=G2 E6
def tl (lo:Nat):D1 (c8 lo 0)=0:=G1 E6
variable (P U) in
def yj (hp:Hp)(t:Ay)(v:Aw)(lo hi mx:Ag)(c:SV)(τ:Tau)(F:Ac)(hp':Hp):Prop:=hp'=hp/\ ∃w,i9 P hp t v lo hi mx=some (w,hp)/\VD P U τ F c w
variable {v:Aw}{lo mx:Ag}
def OKp.slice {m:M SV}{t:Ay}{hi:Ag}(h:OKp U m s fun c=>∃w,i9 P hp t v lo hi mx=some (w,hp)/\VD P U τ F c w):OKh P U m τ F s hp (yj P U hp t v lo hi mx):=
 (h.up (P:=P) (τ:=τ) (F:=F) (hp:=hp)).mono fun _ _ _ _ _ _ ⟨a,f,g,h⟩=>by subst a;subst f;subst g;exact⟨rfl,h⟩
variable {h i l:Nat}{hi':Ag}
theorem Cm {t e:Ay}{ie:Bb}(ht:P.underlying t=some (.slice e))(hi:P.info? e=some ie){a len cap:Nat}(c:cap<unk)(hl:len<=cap){m:Ai}(hb:p9 len cap lo hi' mx=some (l,h,m)):i9 P hp t (.slice (some ⟨i,a,none⟩) len cap) lo hi' mx=some (bif Nat.beq (m.getD cap) l then .slice (some ⟨i,a,none⟩) (h-l) (m.getD cap-l)else .slice (some ⟨i,a+l*ie.size,none⟩) (h-l) (m.getD cap-l),hp):=by simp only[i9,ht,hi];rw[ble_f c,cond_false,Nat.ble_eq_true_of_le hl,cond_true,hb];grind
def yb {t e:Ay}{ie:Bb}(ht:P.underlying t=some (.slice e))(hi:P.info? e=some ie){a len c:Nat}(f:c<=67108864)(hl:len<=67108864)(hb:p9 len (Nat.max c len) lo hi' none=some (l,h,none)):i9 P hp t (.slice (some ⟨i,a,none⟩) len (c8 c 0)) lo hi' none=bif Nat.beq l 0 then some (.slice (some ⟨i,a,none⟩) h (c8 (Nat.max c len) 0),hp)else bif Nat.beq l (Nat.max c len)then some (.slice (some ⟨0,0,some 0⟩) 0 unk,hp)else match hp.m.get i with
    |some (.cells _ _ _ g)=>bif Nat.beq g ie.size then some (.slice (some ⟨i,a+l*ie.size,none⟩) (h-l) (c8 (Nat.max c len-l) (0-l)),hp)else none|_=>none:=by
 simp only[i9,ht,hi];rw[Nat.ble_eq_true_of_le (j1 c 0),cond_true,tn,tl,Nat.ble_eq_true_of_le (Nat.max_le.2 ⟨f,hl⟩),cond_true,hb];rfl
def yc {t e:Ay}{ie:Bb}(ht:P.underlying t=some (.slice e))(hi:P.info? e=some ie){r:Nat×Nat×Ai}(hb:p9 0 0 lo hi' mx=some r):i9 P hp t (.slice none 0 0) lo hi' mx=some (.slice none 0 0,hp):=by simp only[i9,ht,hi];rw[hb];rfl
def sK {t e:Ay}{ie:Bb}(ht:P.underlying t=some (.slice e))(hi:P.info? e=some ie)(hb:p9 0 0 lo hi' none=some (l,h,none)):i9 P hp t (.slice (some ⟨0,0,some 0⟩) 0 unk) lo hi' none=some (.slice (some ⟨0,0,some 0⟩) 0 unk,hp):=by simp only[i9,ht,hi];rw[hb]
def Ed {a b:Nat}(h:a<=n)(k:b<=n):Nat.max a b<=n:=Nat.max_le.2 ⟨h,k⟩
def Ec (a b:Nat):b<=Nat.max a b:=Nat.le_max_right a b
variable {cs:Ao}
theorem PV.cut {e a c z zb:Nat}{b:Blk}{rows:Rows}{x:Nat->Nat->Aw}(hF:F i=some b)(hb:arr b=some (cs,n,zb))(hn:a+rows.length*z<=n)(hz:z=(kf P e).length)(hr:∀r∈rows,r.length=z)(hx:∀(r k:Nat) (row:As) (d:Dat),rows[r]? =some row->row[k]? =some d->cs.get (a+r*z+k)=some (x r k))(hp:∀(r k:Nat) (row:As) (kd:Kd) (d:Dat),rows[r]? =some row->row[k]? =some d->(kf P e)[k]? =some kd->PV P F kd (x r k) d){l len:Int}(h0:0<=l)(h1:0<=len)(h2:l+len<=rows.length)(hc:kh len.toNat c/\roC b c zb z):PV P F (.sl e) (.slice (some ⟨i,a+l.toNat*z,none⟩) len.toNat c) (.lst (part rows l len)):=by
 have hl:=S7 h0 h1 h2;have:=PV.sl (P:=P) (F:=F) e i (a+l.toNat*z) c b cs n z (part rows l len) (fun r k=>x (l.toNat+r) k) hF hb (by rw[hl];exact hc)
  (by rw [hl]
      have:l.toNat*z+len.toNat*z<=rows.length*z:=by rw[<-Nat.add_mul];exact Nat.mul_le_mul_right z (by omega)
      omega) hz (fun r h=>hr r (List.mem_of_mem_drop (List.mem_of_mem_take h)))
  (fun r k row d h1 h2=>by rw[<-hx _ k row d (bB h1) h2];congr 1;rw[Nat.add_mul];omega) (fun r k row kd d h1 h2 h3=>hp _ k row kd d (bB h1) h2 h3)
 grind
def PV.cut0 {e a c z zb:Nat}{b:Blk}(hF:F i=some b)(hb:arr b=some (cs,n,zb))(hn:a<=n)(hz:z=(kf P e).length)(hc:kh 0 c/\roC b c zb z):PV P F (.sl e) (.slice (some ⟨i,a,none⟩) 0 c) (.lst []):=
 PV.sl (P:=P) (F:=F) e i a c b cs n z [] (fun _ _=>undef) hF hb hc (by simpa using hn) hz (fun r h=>by simp at h) (fun r k row d h=>by simp at h) (fun r k row kd d h=>by simp at h)
theorem Z4 {rows:Rows}{l len:Int}(h:len<=0):part rows l len=[]:=by unfold part;simp_all
variable {hi:Bc SV}{vhi vlo:Ag}
theorem jr {t e:Ay}{ie:Bb}(ht:P.underlying t=some (.slice e))(r:P.info? e=some ie)(K:ie.size=(kf P e).length)(H:∀i b,F i=some b->hp.m.get i=some b){rows:Rows}(hv:PV P F (.sl e) v (.lst rows)){lo:Bc SV}(B:OVD P U τ F lo vlo)(q:OVD P U τ F hi vhi){l h dh:E}(N:qU lo (.int 0)=some l)(D:qU hi dh=some h)(ab:dh.toI U=rows.length)(h1:0<=l.toI U)(h2:l.toI U<=h.toI U)(h3:h.toI U<=rows.length):∃w,i9 P hp t v vlo vhi none=some (w,hp)/\PV P F (.sl e) w (.lst (part rows (l.toI U) (h.toI U-l.toI U)))/\((∃a n,v= .slice a n n)->hi=none-> ∃a n,w= .slice a n n):=by
 have A:hi=none->h.toN U=rows.length:=fun hn=>by subst hn;simp only[qU,Option.some.injEq]at D;subst D;grind
 have aa:l.toI U=((l.toN U:Nat):Int):=by grind
 have Z:h.toI U=((h.toN U:Nat):Int):=by grind
 have M:(h.toI U-l.toI U).toNat=h.toN U-l.toN U:=by omega
 cases hv with
 |nils=>simp only[List.length_nil]at h3;refine⟨.slice none 0 0,yc ht r (iM B q N D h1 h2 h3 rfl A),?_,fun _ _=>⟨_,_,rfl⟩⟩;rw[Z4 (by omega)];exact .nils e|vague=>
  simp only[List.length_nil]at h3;refine⟨_,sK ht r (iM B q N D h1 h2 h3 rfl A),?_,fun⟨a,n,e⟩ _=>?_⟩
  ·rw[Z4 (by omega)];exact .vague e
  ·cases e
 |sl _ i o c b cs n z _ x hF hb hc hn hz hr hx hp'=>
  have hg:=H i b hF;obtain⟨hc,p⟩:=hc;rcases hc with⟨W,L⟩| ⟨j,rfl,L,S⟩
  ·have f:=Cm (hp:=hp) (i:=i) (a:=o) ht r W L (iM B q N D h1 h2 (show h.toI U<=(c:Int) by omega) rfl A);simp only[Option.getD_none]at f;refine⟨_,f,?_,fun⟨a,m,O⟩ ac=>?_⟩
   ·by_cases G:c=l.toN U
    ·rw[l6 G,cond_true,Z4 (by omega),show h.toN U-l.toN U=0 by omega];exact PV.cut0 hF hb (by omega) hz ⟨.inl ⟨by omega,by omega⟩,fun _=>by omega,p.2⟩
    ·rw[s7 G,cond_false,<-M,K,<-hz];exact PV.cut (l:=l.toI U) (len:=h.toI U-l.toI U) hF hb hn hz hr hx hp' h1 (by omega) (by omega) ⟨.inl ⟨by omega,by rw[M];omega⟩,fun _=>by omega,p.2⟩
   ·grind
  ·have J:aQ b=false:=by
    cases h:aQ b with
    |false=>rfl|true=>have h1:=p.1 h;have h2:=j1 j 0;omega
   have V:=Ec j rows.length;have R:=Ed L S;have f:=yb (hp:=hp) (i:=i) (a:=o) ht r L S (iM B q N D h1 h2 (show h.toI U<=((Nat.max j rows.length:Nat):Int) by omega) rfl A);have g:(∃a n,Value.slice (some ⟨i,o,none⟩) rows.length (c8 j 0)= .slice a n n)->False:=fun⟨a,m,O⟩=>by have hge:=j1 j 0;simp only[Value.slice.injEq]at O;obtain⟨_,T,Y⟩:=O;rw[<-T]at Y;unfold unk at hge;omega
   by_cases C:l.toN U=0
   ·rw[l6 C,cond_true]at f;refine⟨_,f,?_,fun h _=>(g h).elim⟩;have:=PV.cut (c:=c8 (Nat.max j rows.length) 0) hF hb hn hz hr hx hp' h1 (show 0<=h.toI U-l.toI U by omega) (by omega) ⟨.inr ⟨_,rfl,R,by omega⟩,fun h=>(by rw[J]at h;cases h),p.2⟩;grind
   ·by_cases I:l.toN U=Nat.max j rows.length
    ·rw[s7 C,cond_false,l6 I,cond_true]at f;refine⟨_,f,?_,fun h _=>(g h).elim⟩;rw[Z4 (by omega)];exact .vague e
    ·rw[s7 C,cond_false,s7 I,cond_false,hg]at f;cases b with
     |cells X n2 T z2=>simp only[arr,rdC,Option.some.injEq,Prod.mk.injEq]at hb;obtain⟨rfl,rfl,rfl⟩:=hb;have Q:z2=z:=p.2 rfl;subst Q;simp only[l6 (show z2=ie.size by omega),cond_true,Nat.zero_sub]at f;refine⟨_,f,?_,fun h _=>(g h).elim⟩;rw[<-M,K,<-hz];exact PV.cut (l:=l.toI U) (len:=h.toI U-l.toI U) hF rfl hn hz hr hx hp' h1 (by omega) (by omega) ⟨.inr ⟨_,rfl,by omega,by rw[M];omega⟩,.mk⟩
     |ro=>cases J
     |_=>simp[arr,rdC]at hb
def BW {t:Ay}{a:SV}{lo mx:Bc SV}{g:Ag}(ha:VD P U τ F a v)(p:OVD P U τ F lo vlo)(m:OVD P U τ F hi vhi)(q:OVD P U τ F mx g)(hs:SD P U τ F s hp):OKh P U (xF P U t a lo hi mx) τ F s hp (yj P U hp t v vlo vhi g):=by
 unfold xF;split
 ·rename_i e ht;split
  ·exact Md
  ·rename_i ie o;split
   ·rename_i e' L clip;cases hq:Nat.beq e e'&&Nat.beq ie.size (kf P e).length with
    |false=>exact Md|true=>
     simp only [cond_true];simp only [Bool.and_eq_true, Nat.beq_eq] at hq;obtain ⟨rfl,r⟩:=hq;cases ha with
     |lst _ _ _ _ C hc=>
      split
      ·rename_i l h B A;cases g with
       |some v=>exact q.elim|none=>
        refine OKp.slice (wK.bind fun _ _ _ _ hb=>E5.bind fun c _ _ _ j=>Ml ?_);obtain⟨h1,h2,h3⟩:=hb;rw[i4]at h3;obtain⟨w,D,E,G⟩:=jr (hp:=hp) ht o r hs.frz C p m B A (i4 L) h1 h2 h3;refine⟨w,D,.lst e c _ w ?_ (fun f=>?_)⟩
        ·have:c.toR U=part (L.toR U) (l.toI U) (h.toI U-l.toI U):=by show(c.den U).rows=_;rw[j,jl];rfl
         rw[this];exact E
        ·simp only[Bool.and_eq_true]at f;exact G (hc f.1) (by cases hi with|none=>rfl|some x=>simp at f)
      ·exact Md
   ·exact Md
 ·exact Md
end
end Go.Sx
