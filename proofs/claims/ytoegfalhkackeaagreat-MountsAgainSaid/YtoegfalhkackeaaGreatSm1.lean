/- The symbolic engine, parts 1, 2, 3, 4, 5, 6, 7, 8, 9, 10, 11, 12.
  Conditions: none. -/
import Derived.Test.YtoegfalhkackeaaGreatXm3
set_option linter.all false
namespace Go.Sx
abbrev Nd (p q:Prop):Prop:=p/\(p->q)
abbrev I64 (x:Int):Prop:=(¬x< -9223372036854775808)/\x<9223372036854775808
inductive Dat where
 |int (n:Int)
 |bool (b:Bool)
 |str (s:Ae)
 |lst (rows:List (List Dat))
abbrev Ar:=List Dat
abbrev Ab:=Nat ->Ar->Dat
instance : Inhabited Dat:=⟨.int 0⟩
def Dat.toInt (d:Dat):Int:=match d with| .int n=>n|_=>0
def Dat.toBool (d:Dat):Bool:=match d with| .bool b=>b|_=>false
def Dat.toStr (d:Dat):Ae:=match d with| .str s=>s|_=>[]
def Dat.rows (d:Dat):List (Ar):=match d with| .lst l=>l|_=>[]
abbrev Rows:=List (Ar)
def D6 (L:Rows)(i:Int)(j:Nat):Dat:=(L.getD i.toNat []).getD j (.int 0)
def i6 (L:Rows)(i:Int)(j:Nat)(d:Dat):Rows:=L.modify i.toNat (fun r=>r.set j d)
def pQ (L:Rows)(a n:Int):Rows:=(L.drop a.toNat).take n.toNat
def over (L:Rows)(a:Int)(l:Rows):Rows:=L.take a.toNat++l++L.drop (a.toNat+l.length)
def d8 (z:Nat):Nat->Ar->Rows
 |0,_=>[]
 |n+1,l=>l.take z::d8 z n (l.drop z)
inductive KV where
 |i (n:Int)
 |s (l:Ae)
 deriving DecidableEq
def KV.dat (k:KV):Dat:=match k with| .i n=>.int n| .s l=>.str l
def Dat.kv (d:Dat):KV:=match d with| .int n=>.i n| .str l=>.s l|_=>.i 0
def keyR (z:Nat)(r:Ar):List KV:=(r.take z).map Dat.kv
def QM :Rows->List KV->Bool
 | [],_=>false|r::L,ks=>decide (keyR ks.length r=ks)||QM L ks
def QL :Rows->List KV->Dat->Dat
 | [],_,d=>d|r::L,ks,d=>if keyR ks.length r=ks then r.getD ks.length (.int 0)else QL L ks d
def QP :Rows->List KV->Dat->Rows
 | [],ks,v=>[ks.map KV.dat++ [v]]
 |r::L,ks,v=>if keyR ks.length r=ks then(ks.map KV.dat++ [v])::L else r::QP L ks v
def QN :Rows->List KV->Nat
 | [],_=>0|r::L,ks=>if keyR ks.length r=ks then 0 else QN L ks+1
def runeAt (l:Ae)(i:Int):Int:=(Utf8.decode ⟨l.toArray⟩ i.toNat).1
def runeW (l:Ae)(i:Int):Int:=(Utf8.decode ⟨l.toArray⟩ i.toNat).2
inductive Sy where
 |add|sub|mul|tdiv|tmod
 |wrap (k:IntKind)
 |bits (op:BinOp) (k:IntKind)
 |shl (k:IntKind)|shr (k:IntKind)
 |lt|eqi|eqb|eqs|lts
 |not|and|or
 |len|get (j:Nat)|upd (j:Nat)|nil|app|part|over
 |rows (n z:Nat)|rep
 |slen|sidx|sapp|ssub|srune|srw
 |castI|castB|castS|castL
 |mhas|mget|mput|mix
 |user (n:Nat)
inductive E where
 |int (n:Int)
 |bool (c:Bool)
 |str (l:Ae)
 |var (n:Nat)
 |dat (n:Nat) (d:Dat)
 |op (o:Sy) (as:List E)
abbrev Au:=List E
instance : Inhabited E:=⟨.int 0⟩
section
variable (U :Ab)
def Sy.den (o:Sy)(as:Ar):Dat:=
 match o with
 | .add=>match as with| [a,b]=>.int (a.toInt+b.toInt)|_=>.int 0
 | .sub=>match as with| [a,b]=>.int (a.toInt-b.toInt)|_=>.int 0
 | .mul=>match as with| [a,b]=>.int (a.toInt*b.toInt)|_=>.int 0
 | .tdiv=>match as with| [a,b]=>.int (a.toInt.tdiv b.toInt)|_=>.int 0
 | .tmod=>match as with| [a,b]=>.int (a.toInt.tmod b.toInt)|_=>.int 0
 | .wrap k=>match as with| [a]=>.int (k.wrap a.toInt)|_=>.int 0
 | .bits op k=>match as with| [a,b]=>.int (Go.bits op k a.toInt b.toInt)|_=>.int 0
 | .shl k=>match as with| [a,b]=>.int (k.wrap (a.toInt*2^(min b.toInt.toNat k.bits)))|_=>.int 0
 | .shr k=>match as with| [a,b]=>.int (a.toInt.fdiv (2^(min b.toInt.toNat k.bits)))|_=>.int 0
 | .lt=>match as with| [a,b]=>.bool (decide (a.toInt<b.toInt))|_=>.int 0
 | .eqi=>match as with| [a,b]=>.bool (decide (a.toInt=b.toInt))|_=>.int 0
 | .eqb=>match as with| [a,b]=>.bool (a.toBool==b.toBool)|_=>.int 0
 | .eqs=>match as with| [a,b]=>.bool (a.toStr==b.toStr)|_=>.int 0
 | .lts=>match as with| [a,b]=>.bool (Op.bytesLess a.toStr b.toStr)|_=>.int 0
 | .not=>match as with| [a]=>.bool (!a.toBool)|_=>.int 0
 | .and=>match as with| [a,b]=>.bool (a.toBool&&b.toBool)|_=>.int 0
 | .or=>match as with| [a,b]=>.bool (a.toBool||b.toBool)|_=>.int 0
 | .len=>match as with| [l]=>.int l.rows.length|_=>.int 0
 | .get j=>match as with| [l,i]=>D6 l.rows i.toInt j|_=>.int 0
 | .upd j=>match as with| [l,i,c]=>.lst (i6 l.rows i.toInt j c)|_=>.int 0
 | .nil=>.lst []| .app=>match as with| [l,m]=>.lst (l.rows++m.rows)|_=>.int 0
 | .part=>match as with| [l,a,n]=>.lst (pQ l.rows a.toInt n.toInt)|_=>.int 0
 | .over=>match as with| [l,a,m]=>.lst (Sx.over l.rows a.toInt m.rows)|_=>.int 0
 | .rows n z=>.lst (d8 z n as)| .rep=>match as with|n::cs=>.lst (List.replicate n.toInt.toNat cs)|_=>.int 0
 | .slen=>match as with| [s]=>.int s.toStr.length|_=>.int 0
 | .sidx=>match as with| [s,i]=>.int ((s.toStr.getD i.toInt.toNat 0).toNat:Int)|_=>.int 0
 | .sapp=>match as with| [s,t]=>.str (s.toStr++t.toStr)|_=>.int 0
 | .ssub=>match as with| [s,a,b]=>.str ((s.toStr.take b.toInt.toNat).drop a.toInt.toNat)|_=>.int 0
 | .srune=>match as with| [s,i]=>.int (runeAt s.toStr i.toInt)|_=>.int 0
 | .srw=>match as with| [s,i]=>.int (runeW s.toStr i.toInt)|_=>.int 0
 | .castI=>match as with| [a]=>.int a.toInt|_=>.int 0
 | .castB=>match as with| [a]=>.bool a.toBool|_=>.int 0
 | .castS=>match as with| [a]=>.str a.toStr|_=>.int 0
 | .castL=>match as with| [a]=>.lst a.rows|_=>.int 0
 | .mhas=>match as with|l::ks=>.bool (QM l.rows (ks.map Dat.kv))|_=>.int 0
 | .mget=>match as with|l::d::ks=>QL l.rows (ks.map Dat.kv) d|_=>.int 0
 | .mput=>match as with|l::v::ks=>.lst (QP l.rows (ks.map Dat.kv) v)|_=>.int 0
 | .mix=>match as with|l::ks=>.int (QN l.rows (ks.map Dat.kv):Nat)|_=>.int 0
 | .user n=>U n as
mutual
def E.den :E->Dat
 | .int n=>.int n| .bool c=>.bool c| .str l=>.str l| .var _=>.int 0| .dat _ d=>d| .op o as=>o.den U (E.dens as)
def E.dens :Au->Ar
 | []=>[]
 |a::as=>a.den::E.dens as
end
def E.dens_eq :∀as:Au,E.dens U as=as.map (E.den U)
 | []=>rfl|a::as=>by simp[E.dens,E.dens_eq as]
def E.pr :E->Prop
 | .bool c=>c=true| .op .lt [a,b]=>(a.den U).toInt<(b.den U).toInt| .op .eqi [a,b]=>(a.den U).toInt=(b.den U).toInt| .op .eqs [a,b]=>(a.den U).toStr=(b.den U).toStr| .op .not [a]=>¬a.pr| .op .and [a,b]=>a.pr/\b.pr| .op .or [a,b]=>a.pr\/b.pr|e=>(e.den U).toBool=true
theorem E.pr_iff (e:E):e.pr U↔(e.den U).toBool=true:=by
 fun_induction E.pr U e with
 |case1 c=>simp[E.den,Dat.toBool]|case2 a b=>simp[E.den,E.dens,Sy.den,Dat.toBool]|case3 a b=>simp[E.den,E.dens,Sy.den,Dat.toBool]|case4 a b=>simp[E.den,E.dens,Sy.den,Dat.toBool]|case5 a j=>simp[E.den,E.dens,Sy.den,Dat.toBool,j]|case6 a b f g=>simp[E.den,E.dens,Sy.den,Dat.toBool,f,g]|case7 a b f g=>simp[E.den,E.dens,Sy.den,Dat.toBool,f,g]|case8 e _ _ _ _ _ _ _=>grind
def Vq:type_of% @E.pr_iff:=@E.pr_iff
def Sy.like :Sy->Sy->Bool
 | .add,.add| .sub,.sub| .mul,.mul| .tdiv,.tdiv| .tmod,.tmod| .lt,.lt| .eqi,.eqi| .eqb,.eqb| .eqs,.eqs| .lts,.lts| .not,.not| .and,.and| .or,.or
 | .len,.len| .nil,.nil| .app,.app| .part,.part| .over,.over| .rep,.rep| .slen,.slen| .sidx,.sidx| .sapp,.sapp| .ssub,.ssub| .srune,.srune| .srw,.srw| .castI,.castI| .castB,.castB| .castS,.castS| .castL,.castL| .mhas,.mhas| .mget,.mget| .mput,.mput| .mix,.mix=>true
 | .shr k,.shr k'=>decide (k=k')| .wrap k,.wrap k'=>decide (k=k')| .shl k,.shl k'=>decide (k=k')| .bits o k,.bits o' k'=>decide (o=o')&&decide (k=k')| .get j,.get j'=>Nat.beq j j'| .upd j,.upd j'=>Nat.beq j j'| .user j,.user j'=>Nat.beq j j'| .rows n z,.rows n' z'=>Nat.beq n n'&&Nat.beq z z'|_,_=>false
mutual
def E.like :E->E->Bool
 | .int n,.int m=>decide (n=m)| .bool p,.bool q=>p==q| .str p,.str q=>p==q| .var n,.var m=>Nat.beq n m| .dat n _,.dat m _=>Nat.beq n m| .op o as,.op o' bs=>Sy.like o o'&&E.likes as bs|_,_=>false
def E.likes :Au->Au->Bool
 | [],[]=>true|a::as,b::bs=>E.like a b&&E.likes as bs|_,_=>false
end
inductive So where
 |i|b|s|l
 deriving DecidableEq
inductive Lab where
 |e (c:E)
 |p (name:String) (as:Au)
 |q (a b:E)
 |pt (name:String) (gs:List (List (So×E)))
 |mu (name:String) (g a b:List (So×E))
inductive Tr (α:Type) where
 |ret (a:α)
 |done
 |fail (s:String)
 |br (c:E) (t e:Tr α)
 |need (l:Lab) (p:Prop) (t:Tr α)
 |asm (l:Lab) (p:Prop) (t:Tr α)
 |both (t e:Tr α)
 |all (k:So) (n:Nat) (f:E->Tr α)
def Tr.bind {α β:Type}:Tr α->(α->Tr β)->Tr β
 | .ret a,k=>k a| .done,_=>.done| .fail s,_=>.fail s| .br c t e,k=>.br c (t.bind k) (e.bind k)| .need l p t,k=>.need l p (t.bind k)| .asm l p t,k=>.asm l p (t.bind k)| .both t e,k=>.both (t.bind k) (e.bind k)| .all o n f,k=>.all o n fun e=>(f e).bind k
def Tr.vc {α:Type}:Tr α->(α->Prop)->Prop
 | .ret a,Q=>Q a| .done,_=>True| .fail _,_=>False| .br c t e,Q=>(c.pr U->t.vc Q)/\(¬c.pr U->e.vc Q)| .need _ p t,Q=>p/\(p->t.vc Q)| .asm _ p t,Q=>p->t.vc Q| .both t e,Q=>t.vc Q/\e.vc Q| .all .i n f,Q=>∀x:Int,(f (.dat n (.int x))).vc Q| .all .b n f,Q=>∀x:Bool,(f (.dat n (.bool x))).vc Q| .all .s n f,Q=>∀x:Ae,(f (.dat n (.str x))).vc Q| .all .l n f,Q=>∀x:Rows,(f (.dat n (.lst x))).vc Q
def Tr.vc_bind {α g:Type}(t:Tr α)(k:α->Tr g)(Q:g->Prop):(t.bind k).vc U Q↔t.vc U fun a=>(k a).vc U Q:=by
 induction t with
 |ret a=>exact Iff.rfl|done=>exact Iff.rfl|fail s=>exact Iff.rfl|br c t e h1 h2=>simp only[Tr.bind,Tr.vc,h1,h2]|need l p t h=>simp only[Tr.bind,Tr.vc,h]|asm l p t h=>simp only[Tr.bind,Tr.vc,h]|both t e h1 h2=>simp only[Tr.bind,Tr.vc,h1,h2]|all k n f h=>cases k<;>simp only[Tr.bind,Tr.vc,h]
def VZ:type_of% @Tr.vc_bind:=@Tr.vc_bind
def Tr.vc_mono {α:Type}(t:Tr α){Q R:α->Prop}(hq:∀a,Q a->R a):t.vc U Q->t.vc U R:=by
 induction t with
 |ret a=>exact hq a|done=>exact id|fail s=>exact id|br c t e h1 h2=>exact fun h=>⟨fun x=>h1 (h.1 x),fun x=>h2 (h.2 x)⟩
 |need l p t h=>exact fun x=>⟨x.1,fun y=>h (x.2 y)⟩
 |asm l p t h=>exact fun x y=>h (x y)
 |both t e h1 h2=>exact fun h=>⟨h1 h.1,h2 h.2⟩
 |all k n f h=>cases k<;>exact fun x y=>h _ (x y)
end
open Go.Xe
inductive Cp where
 |ex (e:E)
 |ge
 |un
inductive SV where
 |any
 |int (k:IntKind) (e:E)
 |bool (e:E)
 |str (e:E)
 |nilp
 |ptr (b z:Nat) (row:E) (fld:Nat)
 |pptr (t:Ax) (L row:E) (fld:Nat)
 |rp (row:E) (fld:Nat)
 |rpq (e:E)
 |rv (L:E) (z:Nat)
 |nils
 |sl (b z:Nat) (off len:E) (cap:Cp)
 |lst (t:Ax) (L:E) (clip:Bool)
 |agg (l:List SV)
 |tup (l:List SV)
 |fn (f:Fn) (a b:List SV)
 |nilf
 |map (b:Nat)
 |nilm
 |iface (t:Ax) (v:SV)
 |nili
 |yld (ks:Ah) (vs:List SV) (g:Ay) (nt:Nat) (ps:Ah) (as bo:Code)
abbrev As:=List SV
instance : Inhabited SV:=⟨.any⟩
def lk {α:Type}:List (Nat×α)->Nat->Bb α
 | [],_=>none| (k,a)::l,n=>bif Nat.beq k n then some a else lk l n
mutual
def noY :SV->Bool
 | .yld _ _ _ _ _ _ _=>false| .agg l=>noYs l| .tup l=>noYs l| .fn _ a b=>noYs a&&noYs b| .iface _ v=>noY v|_=>true
def noYs :As->Bool
 | []=>true|a::l=>noY a&&noYs l
end
inductive Kd where
 |int (k:IntKind)
 |bool
 |str
 |sl (e:Ax)
 |rp
 |bad
 deriving DecidableEq
def kd1 (P:Aw)(t:Ax):Kd:=match P.underlying t with
 |some (.int k)=>.int k|some .bool=>.bool|some .string=>.str|some (.slice e)=>.sl e|some (.pointer e)=>bif Nat.beq e rgT then .rp else .bad|_=>.bad
def kdF (f:Ax->List Kd):List Field->List Kd
 | []=>[]
 |x::xs=>f x.type++kdF f xs
def kds (P:Aw):Nat->Ax->List Kd
 |0,_=>[.bad]
 |d+1,t=>match P.underlying t with
  |some (.struct fs)=>kdF (kds P d) fs.toList|some (.array n e)=>(List.replicate n (kds P d e)).flatten|_=>[kd1 P t]
def kf (P:Aw)(t:Ax):List Kd:=kds P 20 t
def kpart (P:Aw)(f:Field):Bb Kd:=bif f.name== "_" then none else match P.underlying f.type with
 |some (.int k)=>some (.int k)|some .string=>some .str|_=>none
def Ms (P:Aw):Nat->List Field->Bb (List Kd)
 |_,[]=>some []|o,f::fs=>bif Nat.beq f.offset o then match kpart P f with
  |some k=>match Ms P (o+1) fs with
   |some ks=>some (k::ks)|none=>none
  |none=>none
  else none
def FQ (P:Aw)(kt:Ax):Bb (Bool×List Kd):=
 match P.underlying kt with
 |some (.int k)=>some (false,[.int k])|some (.struct fs)=>bif P.stoodInHeld kt then none else match Ms P 0 fs.toList with
  |some ks=>some (true,ks)|none=>none
 |_=>none
def kv1 (k:Kd)(x:KV):Av:=match x with
 | .s l=>.string ⟨l.toArray⟩| .i n=>match k with| .int k=>.int k n|_=>.int .i64 n
def kfit :List Kd->List KV->Bool
 | [],[]=>true|k::ps,x::ks=>(match k,x with| .int _,.i _=>true| .str,.s _=>true|_,_=>false)&&kfit ps ks|_,_=>false
def keyL (ps:List Kd)(ks:List KV):Af:=List.zipWith kv1 ps ks
def keyV (sh:Bool×List Kd)(ks:List KV):Av:=bif sh.1 then .agg (keyL sh.2 ks).toArray else(keyL sh.2 ks).headD undef
inductive B4 where
 |cells (l:As) (e z:Nat)
 |rows (L:E) (e z:Nat) (ph:E)
 |map (L:E) (kt vt:Ax)
 |iter (s pos:E)
 |reg (b:Nat) (L:E) (z:Nat)
structure SS where
 h:List (Nat×Bb B4)
 nx:Nat
 fc:List (E×Bool)
 fv:Nat
 fz:List (Nat×E×Ax×Nat)
def SS.get (s:SS)(b:Nat):Bb B4:=match lk s.h b with|some x=>x|none=>none
def SS.set (s:SS)(b:Nat)(x:Bb B4):SS:= {s with h:=(b,x)::s.h}
def A0 {α:Type}(k n:Nat)(a:α)(l:List (Nat×α)):lk ((k,a)::l) n=if k=n then some a else lk l n:=by by_cases h:k=n;rw[TJ h,lk,t9 h];rfl;rw[TH h,lk,z8 h];rfl
theorem aM {α:Type}{b:Nat}{x:α}:∀ {l:List (Nat×α)},lk l b=some x->(b,x)∈l
 | [],h=>by cases h
 | (k,y)::l,h=>by rw[A0]at h;split at h;grind;exact Ut _ (aM h)
theorem SS.get_set (s:SS)(b c:Nat)(x:Bb B4):(s.set b x).get c=if c=b then x else s.get c:=by unfold SS.get SS.set;simp only[A0];grind
def VN:type_of% @SS.get_set:=@SS.get_set
def arr (b:Blk):Bb (Ao×Nat×Nat):=rdC b
def roC (b:Blk)(c zb z:Nat):Prop:=(cC b=true->c<unk)/\(cC b=false->zb=z)
def roC.mk {b:Blk}{c z:Nat}(h:cC b=false:=by rfl):roC b c z z:=⟨fun e=>(by rw[h]at e;cases e),fun _=>rfl⟩
def xQ (l c:Nat):Prop:=(c<unk/\l<=c)\/(∃lo,c=d9 lo 0/\lo<=67108864/\l<=67108864)
section
variable (P :Aw)
inductive PV (F:Ac):Kd->Av->Dat->Prop
 |int (k:IntKind) (n:Int):PV F (.int k) (.int k n) (.int n)
 |bool (b:Bool):PV F .bool (.bool b) (.bool b)
 |str (s:Ae):PV F .str (.string ⟨s.toArray⟩) (.str s)
 |nils (e:Ax):PV F (.sl e) (.slice none 0 0) (.lst [])
 |rp (k:Nat):PV F .rp (.pointer (some ⟨k,0,some 1⟩)) (.int k)
 |rpn:PV F .rp (.pointer none) (.int (-1))
 |vague (e:Ax):PV F (.sl e) (.slice (some ⟨0,0,some 0⟩) 0 unk) (.lst [])
 | sl (e : Ax) (i o c : Nat) (b : Blk) (cs : Ao) (n z : Nat) {zb : Nat} (rows : Rows) (x : Nat → Nat → Av) (hF : F i = some b) (hb : arr b = some (cs, n, zb)) (hc : xQ rows.length c ∧ roC b c zb z)
   (hn:o+rows.length*z<=n) (hz:z=(kf P e).length) (hr:∀r∈rows,r.length=z)
   (hx:∀(r k:Nat) (row:Ar) (d:Dat),rows[r]? =some row->row[k]? =some d->cs.get (o+r*z+k)=some (x r k))
   (hp:∀(r k:Nat) (row:Ar) (kd:Kd) (d:Dat),rows[r]? =some row->row[k]? =some d->(kf P e)[k]? =some kd->PV F kd (x r k) d):
   PV F (.sl e) (.slice (some ⟨i,o,none⟩) rows.length c) (.lst rows)
def Fle (F F':Ac):Prop:=∀i b,F i=some b->F' i=some b
def Fle.refl (F:Ac):Fle F F:=fun _ _ h=>h
def Vu:type_of% @Fle.refl:=@Fle.refl
variable {F:Ac}
def Fle.trans {G H:Ac}(h:Fle F G)(k:Fle G H):Fle F H:=fun i b e=>k i b (h i b e)
variable {F':Ac}{v:Av}
def PV.mono (h:Fle F F'){k:Kd}{d:Dat}(p:PV P F k v d):PV P F' k v d:=by
 induction p with
 |int k n=>exact .int k n|bool b=>exact .bool b|str s=>exact .str s|nils e=>exact .nils e|rp k=>exact .rp k|rpn=>exact .rpn|vague e=>exact .vague e|sl e i o c b cs n z rows x hF hb hc hn hz hr hx _ f=>exact .sl e i o c b cs n z rows x (h _ _ hF) hb hc hn hz hr hx f
abbrev Tau:=Nat->Bb (Bb (Nat×Nat))
variable (U :Ab)
abbrev E.toI (e:E):Int:=(e.den U).toInt
abbrev E.toN (e:E):Nat:=(e.den U).toInt.toNat
abbrev E.toR (e:E):Rows:=(e.den U).rows
def mY (len:E):Cp->Nat->Prop
 | .ex e,c=>0<=e.toI U/\c=e.toN U/\c<unk/\len.toI U<=e.toI U| .ge,c=>∃lo,c=d9 lo 0/\lo<=67108864/\len.toI U<=67108864| .un,c=>(c<unk/\c=len.toN U/\len.toI U<=67108864)\/ ∃lo,c=d9 lo 0/\lo<=67108864/\len.toI U<=67108864
def RowsIn (F:Ac)(z:Nat)(xs:Af)(rows:Rows):Prop:=
 xs.length=rows.length*z/\z=(kf P rgT).length/\(∀r∈rows,r.length=z)/\
 ∀(r k:Nat) (row:Ar) (d:Dat),rows[r]? =some row->row[k]? =some d-> ∃x,xs[r*z+k]? =some x/\ ∀kd,(kf P rgT)[k]? =some kd->PV P F kd x d
def RowsIn.mono (h:Fle F F'){z:Nat}{xs:Af}{rows:Rows}(p:RowsIn P F z xs rows):RowsIn P F' z xs rows:=
 ⟨p.1,p.2.1,p.2.2.1,fun r k row d hr hk=>let⟨x,k1,k2⟩:=p.2.2.2 r k row d hr hk;⟨x,k1,fun kd f=>(k2 kd f).mono P h⟩⟩
inductive VD (τ:Tau)(F:Ac):SV->Av->Prop
 |any (v:Av):VD τ F .any v
 |int (k:IntKind) (e:E):VD τ F (.int k e) (.int k (e.toI U))
 |bool (e:E):VD τ F (.bool e) (.bool (e.den U).toBool)
 |str (e:E):VD τ F (.str e) (.string ⟨(e.den U).toStr.toArray⟩)
 |nilp:VD τ F .nilp (.pointer none)
 |ptr (b z:Nat) (row:E) (fld i o:Nat) (h:τ b=some (some (i,o))) (h0:0<=row.toI U):VD τ F (.ptr b z row fld) (.pointer (some ⟨i,o+row.toN U*z+fld,none⟩))
 | pptr (t : Ax) (L row : E) (fld i o l c : Nat) (h : PV P F (.sl t) (.slice (some ⟨i, o, none⟩) l c) (.lst (L.toR U))) (h0 : 0 ≤ row.toI U) (h1 : row.toI U < (L.toR U).length) :
   VD τ F (.pptr t L row fld) (.pointer (some ⟨i,o+row.toN U*(kf P t).length+fld,none⟩))
 |rp (row:E) (fld:Nat) (h0:0<=row.toI U):VD τ F (.rp row fld) (.pointer (some ⟨row.toN U,fld,some 1⟩))
 |rpq (e:E) (v:Av) (h:PV P F .rp v (.int (e.toI U))):VD τ F (.rpq e) v
 |rv (L:E) (z:Nat) (xs:Af) (h:RowsIn P F z xs (L.toR U)):VD τ F (.rv L z) (.func (.func 0) xs.toArray #[])
 |nils:VD τ F .nils (.slice none 0 0)
 | sl (b z : Nat) (off len : E) (cap : Cp) (i o c : Nat) (h : τ b = some (some (i, o))) (h0 : 0 ≤ off.toI U) (h1 : 0 ≤ len.toI U) (hc : mY U len cap c) :
   VD τ F (.sl b z off len cap) (.slice (some ⟨i,o+off.toN U*z,none⟩) (len.toN U) c)
 |sl0 (b z:Nat) (off len:E) (cap:Cp) (h:τ b=some none) (h0:off.toI U=0) (h1:len.toI U=0) (hc:∀e,cap= .ex e->e.toI U=0):VD τ F (.sl b z off len cap) (.slice none 0 0)
 |lst (t:Ax) (L:E) (clip:Bool) (v:Av) (h:PV P F (.sl t) v (.lst (L.toR U))) (hc:clip=true-> ∃a l,v= .slice a l l):VD τ F (.lst t L clip) v
 |agg (l:As) (xs:Af) (h1:l.length=xs.length) (h2:∀(i:Nat) a x,l[i]? =some a->xs[i]? =some x->VD τ F a x):VD τ F (.agg l) (.agg xs.toArray)
 |tup (l:As) (xs:Af) (h1:l.length=xs.length) (h2:∀(i:Nat) a x,l[i]? =some a->xs[i]? =some x->VD τ F a x):VD τ F (.tup l) (.tuple xs.toArray)
 | fn (f : Fn) (l m : As) (xs ys : Af) (h1 : l.length = xs.length) (h2 : ∀ (i : Nat) a x, l[i]? = some a → xs[i]? = some x → VD τ F a x)
   (h3:m.length=ys.length) (h4:∀(i:Nat) a x,m[i]? =some a->ys[i]? =some x->VD τ F a x):VD τ F (.fn f l m) (.func f xs.toArray ys.toArray)
 |nilf:VD τ F .nilf .nilFunc
 |map (b i o:Nat) (h:τ b=some (some (i,o))):VD τ F (.map b) (.map (some i))
 |nilm:VD τ F .nilm (.map none)
 |iface (t:Ax) (v:SV) (x:Av) (h:VD τ F v x):VD τ F (.iface t v) (.iface t x)
 |nili:VD τ F .nili .nilIface
 | yld (ks : Ah) (vs : As) (g : Ay) (nt : Nat) (ps : Ah) (as bo : Code) (i : Nat) (tms : Ao) (pr : Array Tmp) (db : Nat) (hF : F i = some (.loop .ready none nt tms pr as bo db)) (hp : pr.toList = ps)
   (h:∀k a,lk (ks.zip vs) k=some a->VD τ F a ((tms.get k).getD undef)):VD τ F (.yld ks vs g nt ps as bo) (.chan (some i))
def Tle (τ τ':Tau):Prop:=∀b p,τ b=some p->τ' b=some p
def Tle.refl (τ:Tau):Tle τ τ:=fun _ _ h=>h
def VY:type_of% @Tle.refl:=@Tle.refl
def Tle.trans {a b c:Tau}(h:Tle a b)(k:Tle b c):Tle a c:=fun i p e=>k i p (h i p e)
variable {P U}
variable {τ:Tau}
def VD.mono {τ':Tau}(ht:Tle τ τ')(h:Fle F F'){s:SV}(p:VD P U τ F s v):VD P U τ' F' s v:=by
 induction p with
 |any v=>exact .any v|int k e=>exact .int k e|bool e=>exact .bool e|str e=>exact .str e|nilp=>exact .nilp|ptr b z row fld i o k h0=>exact .ptr b z row fld i o (ht _ _ k) h0|pptr t L row fld i o l c k h0 h1=>exact .pptr t L row fld i o l c (k.mono P h) h0 h1|rp row fld h0=>exact .rp row fld h0|rpq e v k=>exact .rpq e v (k.mono P h)|rv L z xs k=>exact .rv L z xs (k.mono P h)|nils=>exact .nils|sl b z off len cap i o c k h0 h1 hc=>exact .sl b z off len cap i o c (ht _ _ k) h0 h1 hc|sl0 b z off len cap k h0 h1 hc=>exact .sl0 b z off len cap (ht _ _ k) h0 h1 hc|lst t L clip v k hc=>exact .lst t L clip v (k.mono P h) hc|agg l xs h1 _ j=>exact .agg l xs h1 j|tup l xs h1 _ j=>exact .tup l xs h1 j|fn f l m xs ys h1 _ h3 _ q r=>exact .fn f l m xs ys h1 q h3 r|nilf=>exact .nilf|map b i o k=>exact .map b i o (ht _ _ k)|nilm=>exact .nilm|iface t v x _ j=>exact .iface t v x j|nili=>exact .nili|yld ks vs g nt ps as bo i tms pr db hF hp _ j=>exact .yld ks vs g nt ps as bo i tms pr db (h _ _ hF) hp j
def PV.sub (h:∀i y,F i=some y->(arr y).isSome=true->F' i=some y){k:Kd}{d:Dat}(p:PV P F k v d):PV P F' k v d:=by
 induction p with
 |int k n=>exact .int k n|bool b=>exact .bool b|str s=>exact .str s|nils e=>exact .nils e|rp k=>exact .rp k|rpn=>exact .rpn|vague e=>exact .vague e|sl e i o c b cs n z rows x hF hb hc hn hz hr hx _ f=>exact .sl e i o c b cs n z rows x (h _ _ hF (by rw[hb];rfl)) hb hc hn hz hr hx f
theorem dI :∀ {l:As} {i:Nat} {a:SV},noYs l=true->l[i]? =some a->noY a=true
 | [],i,a,_,h=>by grind|b::l,i,a,hn,h=>by
  unfold noYs at hn;rw[Tl]at hn;cases i with
  |zero=>grind|succ i=>exact dI hn.2 h
def VD.sub (p:Bool)(h:∀i y,F i=some y->((arr y).isSome=true\/p=true/\y≠ .dfr)->F' i=some y){s:SV}(hv:VD P U τ F s v)(hn:p=true\/noY s=true):VD P U τ F' s v:=by
 have B:∀i y,F i=some y->(arr y).isSome=true->F' i=some y:=fun i y h1 h2=>h i y h1 (.inl h2);induction hv with
 |any v=>exact .any v|int k e=>exact .int k e|bool e=>exact .bool e|str e=>exact .str e|nilp=>exact .nilp|ptr b z row fld i o k h0=>exact .ptr b z row fld i o k h0|pptr t L row fld i o l c k h0 h1=>exact .pptr t L row fld i o l c (k.sub B) h0 h1|rp row fld h0=>exact .rp row fld h0|rpq e v k=>exact .rpq e v (k.sub B)|rv L z xs k=>exact .rv L z xs ⟨k.1,k.2.1,k.2.2.1,fun r q row d hr hq=>let⟨x,k1,k2⟩:=k.2.2.2 r q row d hr hq;⟨x,k1,fun kd C=>(k2 kd C).sub B⟩⟩|nils=>exact .nils|sl b z off len cap i o c k h0 h1 hc=>exact .sl b z off len cap i o c k h0 h1 hc|sl0 b z off len cap k h0 h1 hc=>exact .sl0 b z off len cap k h0 h1 hc|lst t L clip v k hc=>exact .lst t L clip v (k.sub B) hc|agg l xs h1 _ w=>exact .agg l xs h1 fun i a x j hx=>w i a x j hx (hn.imp id fun k=>dI (by unfold noY at k;exact k) j)
 |tup l xs h1 _ w=>exact .tup l xs h1 fun i a x j hx=>w i a x j hx (hn.imp id fun k=>dI (by unfold noY at k;exact k) j)
 |fn f l m xs ys h1 _ h3 _ D E=>
  have A:p=true\/noYs l=true/\noYs m=true:=hn.imp id fun k=>by unfold noY at k;rwa[Tl]at k
  exact .fn f l m xs ys h1 (fun i a x j hx=>D i a x j hx (A.imp id fun k=>dI k.1 j)) h3 fun i a x j hx=>E i a x j hx (A.imp id fun k=>dI k.2 j)
 |nilf=>exact .nilf|map b i o k=>exact .map b i o k|nilm=>exact .nilm|iface t v x _ w=>exact .iface t v x (w (hn.imp id fun k=>by unfold noY at k;exact k))|nili=>exact .nili|yld ks vs g nt ps as bo i tms pr db hF hp _ w=>rcases hn with hn|hn;exact .yld ks vs g nt ps as bo i tms pr db (h _ _ hF (.inr ⟨hn,by simp⟩)) hp fun k a j=>w k a j (.inl hn);unfold noY at hn;cases hn
variable (P U)
def VDL (τ:Tau)(F:Ac)(l:As)(xs:Af):Prop:=l.length=xs.length/\ ∀(i:Nat) a x,l[i]? =some a->xs[i]? =some x->VD P U τ F a x
def A8 (F:Ac)(e:Ax)(z o n:Nat)(cs:Ao)(rows:Rows):Prop:=
 o+rows.length*z<=n/\z=(kf P e).length/\(∀r∈rows,r.length=z)/\
 ∀(r k:Nat) (row:Ar) (d:Dat),rows[r]? =some row->row[k]? =some d-> ∃x,cs.get (o+r*z+k)=some x/\ ∀kd,(kf P e)[k]? =some kd->PV P F kd x d
def mO (F:Ac)(kt vt:Ax)(es:List (Av×Av))(rows:Rows):Prop:=
 es.length=rows.length/\ ∀(j:Nat) row e,rows[j]? =some row->es[j]? =some e-> ∃sh ks d,FQ P kt=some sh/\kfit sh.2 ks=true/\row=ks.map KV.dat++ [d]/\e.1=keyV sh ks/\PV P F (kd1 P vt) e.2 d
def BD (τ:Tau)(F:Ac)(o:Nat):B4->Blk->Prop
 | .cells l e z,b=>∃cs n,b= .cells cs n e z/\o+l.length<=n/\ ∀(j:Nat) a,l[j]? =some a-> ∃x,cs.get (o+j)=some x/\VD P U τ F a x| .rows L e z ph,b=>∃cs n,b= .cells cs n e z/\A8 P F e z o n cs (L.toR U)/\o+ph.toN U*z<=n| .map L kt vt,b=>o=0/\ ∃es reg,b= .map es reg/\reg=true/\mO P F kt vt es (L.toR U)| .reg r L z,b=>o=0/\τ r=some (some (0,0))/\ ∃cs,b= .reg cs (L.toR U).length rgT z/\A8 P F rgT z 0 ((L.toR U).length*z) cs (L.toR U)| .iter s pos,b=>o=0/\ ∃n:Nat,b= .sit ⟨(s.den U).toStr.toArray⟩ n/\pos.toI U=n
def Jj (τ:Tau)(F:Ac)(r:Nat×E×Ax×Nat):Prop:=
 (∃i o cs n,τ r.1=some (some (i,o))/\F i=some (.cells cs n r.2.2.1 r.2.2.2)/\A8 P F r.2.2.1 r.2.2.2 o n cs (r.2.1.toR U))\/(τ r.1=some none/\r.2.1.toR U=[])
structure SD (τ:Tau)(F:Ac)(s:SS)(hp:Hp):Prop where
 live:∀b x,s.get b=some x->(∃i o y,τ b=some (some (i,o))/\hp.m.get i=some y/\F i=none/\BD P U τ F o x y)\/
  (τ b=some none/\ ∃L e z ph,x= .rows L e z ph/\L.toR U=[]/\z=(kf P e).length/\ph.toI U<=0)
 inj:∀b c x y i o j q,s.get b=some x->s.get c=some y->b≠c->τ b=some (some (i,o))->τ c=some (some (j,q))->i≠j
 frz:∀i b,F i=some b->hp.m.get i=some b
 lt:∀b i o,τ b=some (some (i,o))->i<hp.nx
 flt:∀i b,F i=some b->i<hp.nx
 new:∀b,s.nx<=b->τ b=none
 fc:∀c t,(c,t)∈s.fc->(c.den U).toBool=t
 fz:∀r∈s.fz,Jj P U τ F r
def nyS (s:SS):Bool:=s.h.all fun p=>match p.2 with
 |some (.cells l _ _)=>noYs l|_=>true
variable {P U}
def BD.sub (p:Bool)(h:∀i y,F i=some y->((arr y).isSome=true\/p=true/\y≠ .dfr)->F' i=some y){o:Nat}{x:B4}{y:Blk}(hb:BD P U τ F o x y)(hn:p=true\/ ∀l e z,x= .cells l e z->noYs l=true):BD P U τ F' o x y:=by
 have g:∀i y,F i=some y->(arr y).isSome=true->F' i=some y:=fun i y h1 h2=>h i y h1 (.inl h2);cases x with
 |cells l e z=>obtain⟨cs,n,h1,h2,h3⟩:=hb;exact⟨cs,n,h1,h2,fun j a q=>let⟨x,k1,k2⟩:=h3 j a q;⟨x,k1,k2.sub p h (hn.imp id fun k=>dI (k l e z rfl) q)⟩⟩
 |rows L e z ph=>obtain⟨cs,n,h1,⟨h2,h3,h4,h5⟩,f⟩:=hb;exact⟨cs,n,h1,⟨h2,h3,h4,fun r k row d hr m=>let⟨x,k1,k2⟩:=h5 r k row d hr m;⟨x,k1,fun kd hk=>(k2 kd hk).sub g⟩⟩,f⟩
 |map L kt vt=>obtain⟨h0,es,reg,h1,hr,h2,h3⟩:=hb;exact⟨h0,es,reg,h1,hr,h2,fun j row e hr he=>let⟨A,ks,d,k1,k2,k3,k4,w⟩:=h3 j row e hr he;⟨A,ks,d,k1,k2,k3,k4,w.sub g⟩⟩
 |iter s pos=>exact hb|reg r L z=>obtain⟨h0,f,cs,h1,h2,h3,h4,h5⟩:=hb;exact⟨h0,f,cs,h1,h2,h3,h4,fun r k row d hr m=>let⟨x,k1,k2⟩:=h5 r k row d hr m;⟨x,k1,fun kd hk=>(k2 kd hk).sub g⟩⟩
theorem SD.sub {s:SS}{hp hp':Hp}(hs:SD P U τ F s hp)(p:Bool)(h:∀i y,F i=some y->((arr y).isSome=true\/p=true/\y≠ .dfr)->F' i=some y)(hn:p=true\/nyS s=true)(f:hp.nx<=hp'.nx)(hm:∀b x i o,s.get b=some x->τ b=some (some (i,o))->hp'.m.get i=hp.m.get i/\F' i=none)(hf:∀i y,F' i=some y->hp'.m.get i=some y/\i<hp'.nx):SD P U τ F' s hp':=by refine⟨fun b x hb=>?_,hs.inj,fun i y hy=>(hf i y hy).1,fun b i o hb=>Uo (hs.lt b i o hb) f,fun i y hy=>(hf i y hy).2,hs.new,hs.fc,fun r hr=>?_⟩;rcases hs.live b x hb with⟨i,o,y,h1,h2,h3,h4⟩|h1;obtain⟨k1,k2⟩:=hm b x i o hb h1;refine .inl ⟨i,o,y,h1,by grind,k2,h4.sub p h (hn.imp id fun k l e z hx=>?_)⟩;unfold nyS at k;rw[TS]at k;subst hx;unfold SS.get at hb;split at hb;rename_i q hq;subst hb;exact k _ (aM hq);grind;grind;rcases hs.fz r hr with⟨i,o,cs,n,h1,h2,h3,h4,h5,g⟩|h1;exact .inl ⟨i,o,cs,n,h1,h _ _ h2 (.inl rfl),h3,h4,h5,fun a k row d hr j=>let⟨x,k1,k2⟩:=g a k row d hr j;⟨x,k1,fun kd hk=>(k2 kd hk).sub fun i y h1 h2=>h i y h1 (.inl h2)⟩⟩;exact .inr h1
end
def y4 (a b:E):E:=match a,b with
 | .int m,.int n=>.int (m+n)| .int m,b=>bif decide (m=0)then b else .op .add [b,.int m]| .op .add [x,.int m],.int n=>bif decide (m+n=0)then x else .op .add [x,.int (m+n)]|a,.int n=>bif decide (n=0)then a else .op .add [a,.int n]|a,b=>.op .add [a,b]
def O6 (a b:E):E:=match b with
 | .int n=>y4 a (.int (-n))|b=>.op .sub [a,b]
def MC (a b:E):E:=match a,b with
 | .int m,.int n=>.int (m*n)|a,b=>.op .mul [a,b]
def y5 (a:E):E:=match a with
 | .bool c=>.bool (!c)| .op .not [x]=>x|a=>.op .not [a]
def y8 (a b:E):E:=match a,b with
 | .int m,.int n=>.bool (decide (m<n))|a,b=>.op .lt [a,b]
def F7 (a b:E):E:=match a,b with
 | .int m,.int n=>.bool (decide (m=n))|a,b=>.op .eqi [a,b]
def HY (a b:E):E:=match a,b with
 | .bool p,b=>bif p then b else y5 b|a,.bool p=>bif p then a else y5 a|a,b=>.op .eqb [a,b]
def nL (a b:E):E:=match a,b with
 | .str p,.str q=>.bool (p==q)|a,b=>.op .eqs [a,b]
def HX (a b:E):E:=match a,b with
 | .bool p,b=>bif p then b else .bool false|a,.bool p=>bif p then a else .bool false|a,b=>.op .and [a,b]
def mkOr (a b:E):E:=match a,b with
 | .bool p,b=>bif p then .bool true else b|a,.bool p=>bif p then .bool true else a|a,b=>.op .or [a,b]
def yM :Nat->E->E
 |0,L=>.op .len [L]|d+1,L=>match L with
  | .op .nil _=>.int 0| .op (.rows n _) _=>.int n| .op .app [a,b]=>y4 (yM d a) (yM d b)| .op (.upd _) [a,_,_]=>yM d a|L=>.op .len [L]
def A7 (L:E):E:=yM 50 L
def HZ :Nat->Nat->E->E->E
 |0,j,L,r=>.op (.get j) [L,r]|d+1,j,L,r=>match L with
  | .op (.upd j') [a,i,c]=>bif Nat.beq j j' then .op (.get j) [.op (.upd j') [a,i,c],r]else HZ d j a r|L=>.op (.get j) [L,r]
def FJ (j:Nat)(L r:E):E:=HZ 50 j L r
def G4 (a b:E):E:=match a,b with
 | .op .nil _,b=>b|a,.op .nil _=>a|a,b=>.op .app [a,b]
section
variable {U :Ab}
def B7 (n:Int):(E.int n).toI U=n:=rfl
def j7 (a b:E):(y4 a b).toI U=a.toI U+b.toI U:=by unfold y4;split;rfl;rename_i b m _;by_cases h:m=0;subst h;exact(Int.zero_add _).symm;simp only[h,decide_false,TF];exact Int.add_comm _ _;rename_i x m n;by_cases h:m+n=0;simp only[h,Ur,TE];show _=(x.toI U+m)+n;omega;simp only[h,decide_false,TF];show x.toI U+(m+n)=(x.toI U+m)+n;omega;rename_i a n _ _;by_cases h:n=0;subst h;simp;show _=_+0;omega;simp only[h,decide_false,TF];rfl;rfl
def v6 (a b:E):(O6 a b).toI U=a.toI U-b.toI U:=by unfold O6;split;rename_i n;rw[j7];show _+ -n=_-n;omega;rfl
def JL (a b:E):(MC a b).toI U=a.toI U*b.toI U:=by unfold MC;split<;>rfl
def G6 (a:E):((y5 a).den U).toBool= !(a.den U).toBool:=by unfold y5;split;rfl;rename_i x;show _= !(!(x.den U).toBool);simp;rfl
def G9 (a b:E):((y8 a b).den U).toBool=decide (a.toI U<b.toI U):=by unfold y8;split<;>rfl
def E7 (a b:E):((F7 a b).den U).toBool=decide (a.toI U=b.toI U):=by unfold F7;split<;>rfl
def V6 (a b:E):((nL a b).den U).toBool=((a.den U).toStr==(b.den U).toStr):=by unfold nL;split<;>rfl
def yK (a b:E):((HY a b).den U).toBool=((a.den U).toBool==(b.den U).toBool):=by unfold HY;split;rename_i b p;cases p;simp only[TF,G6];show _=(false==_);simp;show _=(true==_);simp;rename_i a p _;cases p;simp only[TF,G6];show _=(_==false);simp;show _=(_==true);simp;rfl
def yJ (a b:E):((HX a b).den U).toBool=((a.den U).toBool&&(b.den U).toBool):=by unfold HX;split;rename_i b p;cases p;rfl;show _=(true&&_);simp;rename_i a p _;cases p;show false=(_&&false);simp;show _=(_&&true);simp;rfl
def Dy (a b:E):((mkOr a b).den U).toBool=((a.den U).toBool|| (b.den U).toBool):=by unfold mkOr;split;rename_i b p;cases p;show _=(false||_);simp;rfl;rename_i a p _;cases p;show _=(_||false);simp;show true=(_||true);simp;rfl
def M9 (z:Nat):∀(n:Nat) (l:Ar),(d8 z n l).length=n
 |0,_=>rfl|n+1,l=>by simp[d8,M9 z n]
def iY :∀(d:Nat) (L:E),(yM d L).toI U=((L.toR U).length:Int)
 |0,L=>rfl|d+1,L=>by unfold yM;split;rfl;rename_i n z as;show(n:Int)=((d8 z n _).length:Int);rw[M9];rename_i a b;rw[j7,iY d a,iY d b];show _=(((a.toR U)++(b.toR U)).length:Int);simp;rename_i j a i c;rw[iY d a];show _=((i6 (a.toR U) _ j _).length:Int);simp[i6];rfl
def j2 (L:E):(A7 L).toI U=((L.toR U).length:Int):=iY 50 L
theorem rR (L:Rows)(i r:Int){j j':Nat}(d:Dat)(h:j≠j'):D6 (i6 L i j' d) r j=D6 L r j:=by unfold D6 i6;grind
def yL :∀(d j:Nat) (L r:E),(HZ d j L r).den U=D6 (L.toR U) (r.toI U) j
 |0,j,L,r=>rfl|d+1,j,L,r=>by unfold HZ;split;rename_i j' a i c;by_cases h:j=j';rw[t9 h];rfl;rw[z8 h,TF,yL d j a r];exact(rR _ _ _ _ h).symm;rfl
def tM (j:Nat)(L r:E):(FJ j L r).den U=D6 (L.toR U) (r.toI U) j:=yL 50 j L r
def N6 (a b:E):(G4 a b).toR U=a.toR U++b.toR U:=by unfold G4;split;rfl;show _=_++([]:Rows);simp;rfl
def FT (U:Ab)(l:List (E×Bool)):Prop:=∀c t,(c,t)∈l->(c.den U).toBool=t
def M (α:Type):=SS->Tr (α×SS)
def i3 {α:Type}(a:α):M α:=fun s=>.ret (a,s)
def a8 {α:Type}(t:String):M α:=fun _=>.fail t
def b9 {α β:Type}(m:M α)(k:α->M β):M β:=fun s=>(m s).bind fun x=>k x.1 x.2
def p9 {α:Type}(k:SS->M α):M α:=fun s=>k s s
def hH {α:Type}(t:String)(x:Bb α):M α:=match x with|some a=>i3 a|none=>a8 t
def addF (s:SS)(c:E)(t:Bool):SS:= {s with fc:=(c,t)::s.fc}
variable (U) in
def l8 (c:E):M Unit:=fun s=>match c with
 | .bool true=>.ret ((),s)|c=>.need (.e c) (c.pr U) (.ret ((),addF s c true))
def Me :List (E×Bool)->E->Bb Bool
 | [],_=>none| (d,t)::l,c=>bif E.like d c then some t else Me l c
variable (U) in
def testA (c:E):M Bool:=fun s=>match c with
 | .bool b=>.ret (b,s)|c=>match Me s.fc c with
  |some true=>.need (.e c) (c.pr U) (.ret (true,s))|some false=>.need (.e (y5 c)) (¬c.pr U) (.ret (false,s))|none=>.br c (.ret (true,addF s c true)) (.ret (false,addF s c false))
variable (U) in
def testF :Nat->E->M Bool
 |0,c=>testA U c|d+1,c=>match c with
  | .op .not [a]=>b9 (testF d a) fun t=>i3 (!t)
  | .op .and [a,b]=>b9 (testF d a) fun t=>bif t then testF d b else i3 false
  | .op .or [a,b]=>b9 (testF d a) fun t=>bif t then i3 true else testF d b
  |c=>testA U c
variable (U) in
def hK (c:E):M Bool:=testF U 20 c
structure aH (s s':SS):Prop where
 h:s'.h=s.h
 nx:s'.nx=s.nx
 fc:∃l,s'.fc=l++s.fc
 fz:s'.fz=s.fz
def aH.refl (s:SS):aH s s:=⟨rfl,rfl,⟨[],rfl⟩,rfl⟩
theorem aH.trans {a b c:SS}(h:aH a b)(k:aH b c):aH a c:=
 ⟨k.h.trans h.h,k.nx.trans h.nx,by obtain⟨l,e⟩:=h.fc;obtain⟨m,e'⟩:=k.fc;exact(by grind),k.fz.trans h.fz⟩
def aH.addF (s:SS)(c:E)(t:Bool):aH s (addF s c t):=⟨rfl,rfl,⟨[(c,t)],rfl⟩,rfl⟩
variable {s:SS}
def aH.get {s':SS}(h:aH s s')(b:Nat):s'.get b=s.get b:=by unfold SS.get;rw[h.h]
variable (U) in
def OKp {α:Type}(m:M α)(s:SS)(R:α->Prop):Prop:=
 ∀Q,(m s).vc U Q->FT U s.fc-> ∃a s',Q (a,s')/\aH s s'/\FT U s'.fc/\R a
def OKp.ret {α:Type}{a:α}{R:α->Prop}(h:R a):OKp U (i3 a) s R:=fun _ hq hf=>⟨a,s,hq,aH.refl s,hf,h⟩
def VJ:type_of% @OKp.ret:=@OKp.ret
variable {t:String}
def OKp.fail {α:Type}{R:α->Prop}:OKp U (a8 t:M α) s R:=fun _ hq _=>hq.elim
def VE:type_of% @OKp.fail:=@OKp.fail
def OKp.bind {α g:Type}{m:M α}{k:α->M g}{R:α->Prop}{f:g->Prop}(h:OKp U m s R)(hk:∀a s',aH s s'->FT U s'.fc->R a->OKp U (k a) s' f):OKp U (b9 m k) s f:=by intro Q hq hf;unfold b9 at hq;rw[VZ]at hq;obtain⟨a,s1,h1,h2,h3,h4⟩:=h _ hq hf;obtain⟨b,s2,h5,j,p,q⟩:=hk a s1 h2 h3 h4 Q h1 h3;exact⟨b,s2,h5,h2.trans j,p,q⟩
theorem OKp.mono {α:Type}{m:M α}{R f:α->Prop}(h:OKp U m s R)(hr:∀a,R a->f a):OKp U m s f:=by intro Q hq hf;obtain⟨a,s1,h1,h2,h3,h4⟩:=h Q hq hf;grind
def OKp.opt {α:Type}{x:Bb α}{R:α->Prop}(h:∀a,x=some a->R a):OKp U (hH t x) s R:=by
 cases x with
 |none=>exact VE|some a=>exact VJ (h a rfl)
def VH:type_of% @OKp.opt:=@OKp.opt
def OKp.read {α:Type}{k:SS->M α}{R:α->Prop}(h:OKp U (k s) s R):OKp U (p9 k) s R:=h
def VI:type_of% @OKp.read:=@OKp.read
theorem FT.cons {l:List (E×Bool)}{c:E}{t:Bool}(h:FT U l)(hc:(c.den U).toBool=t):FT U ((c,t)::l):=by intro d u f;rcases TZ.1 f with e|e;grind;exact h d u e
def Gl {c:E}(h:¬c.pr U):(c.den U).toBool=false:=by rw[Vq]at h;simpa using h
def OKp.need {c:E}:OKp U (l8 U c) s fun _=>c.pr U:=by intro Q hq hf;unfold l8 at hq;split at hq;exact⟨(),s,hq,aH.refl s,hf,rfl⟩;obtain⟨h1,h2⟩:=hq;exact⟨(),_,h2 h1,aH.addF s _ _,hf.cons ((Vq U _).1 h1),h1⟩
def VF:type_of% @OKp.need:=@OKp.need
def OKp.testA {c:E}{s:SS}:OKp U (testA U c) s fun t=>(c.den U).toBool=t:=by intro Q hq hf;unfold Sx.testA at hq;split at hq;exact⟨_,s,hq,aH.refl s,hf,rfl⟩;split at hq;exact⟨true,s,hq.2 hq.1,aH.refl s,hf,(Vq U _).1 hq.1⟩;exact⟨false,s,hq.2 hq.1,aH.refl s,hf,Gl hq.1⟩;by_cases h:c.pr U;exact⟨true,_,hq.1 h,aH.addF s _ _,hf.cons ((Vq U _).1 h),(Vq U _).1 h⟩;exact⟨false,_,hq.2 h,aH.addF s _ _,hf.cons (Gl h),Gl h⟩
def OKp.testF :∀(d:Nat) (c:E) (s:SS),OKp U (testF U d c) s fun t=>(c.den U).toBool=t
 |0,c,s=>OKp.testA|d+1,c,s=>by
  unfold Sx.testF;split;rename_i a;refine(OKp.testF d a s).bind fun t s' _ _ h=>VJ ?_;show(!(a.den U).toBool)= !t;rw[h]
  ·rename_i a b;refine(OKp.testF d a s).bind fun t s' _ _ h=>?_;cases t with
   |true=>exact(OKp.testF d b s').mono fun u f=>by show((a.den U).toBool&&(b.den U).toBool)=u;rw[h,f];rfl
   |false=>exact VJ (by show((a.den U).toBool&&(b.den U).toBool)=false;rw[h];rfl)
  ·rename_i a b;refine(OKp.testF d a s).bind fun t s' _ _ h=>?_;cases t with
   |true=>exact VJ (by show((a.den U).toBool|| (b.den U).toBool)=true;rw[h];rfl)|false=>exact(OKp.testF d b s').mono fun u f=>by show((a.den U).toBool|| (b.den U).toBool)=u;rw[h,f];rfl
  exact OKp.testA
def OKp.test {c:E}:OKp U (hK U c) s fun t=>(c.den U).toBool=t:=OKp.testF 20 c s
def VL:type_of% @OKp.test:=@OKp.test
end
abbrev Fm:=List (Nat×SV)
def eS :Av->SV
 | .bool b=>.bool (.bool b)| .int k n=>.int k (.int n)| .string s=>.str (.str s.data.toList)| .pointer none=>.nilp| .slice none 0 0=>.nils| .map none=>.nilm| .nilFunc=>.nilf| .nilIface=>.nili|_=>.any
def GH :Av->SV
 | .agg cs=>.agg (cs.toList.map eS)| .tuple vs=>.tup (vs.toList.map eS)|v=>eS v
def u6 (f:Fm):Az->Bb SV
 | .tmp t=>some ((lk f t).getD .any)| .const v=>bif cst v then some (GH v)else none| .global _=>none| .func g=>some (.fn (.func g) [] [])
def Em (f:Fm):List Az->Bb (As)
 | []=>some []|x::xs=>match u6 f x with
  |some v=>match Em f xs with
   |some vs=>some (v::vs)|none=>none
  |none=>none
def iH (f:Fm):List (Nat×Az)->Bb (List (Nat×SV))
 | []=>some []| (i,x)::xs=>match u6 f x with
  |some v=>match iH f xs with
   |some vs=>some ((i,v)::vs)|none=>none
  |none=>none
def C6 :SV->Bb (As)
 | .any=>none| .yld _ _ _ _ _ _ _=>none| .agg l=>some l|v=>some [v]
def zK (P:Aw)(t:Ax)(cs:As)(off:Nat):Bb SV:=
 match P.underlying t with
 |none=>none
 | some d => bif dY d then
   match P.info? t with
   |some i=>some (.agg ((cs.drop off).take i.size))|none=>none
  else cs[off]?
def GL (P:Aw)(xt:Ax)(x:SV)(f:Nat):Bb SV:=
 match P.underlying xt with
 |some (.struct fs)=>match fs.toList[f]? with
  |some fd=>match x with
   | .agg cs=>zK P fd.type cs fd.offset|_=>none
  |none=>none
 |_=>none
def vK (x:SV)(i:Nat):Bb SV:=
 match x with
 | .tup vs=>vs[i]?|_=>none
def U1 (cells:As)(off:Nat)(vs:As):As:=cells.take off++vs++cells.drop (off+vs.length)
def rG (place:Nat->Bb (Nat×Nat))(cells:As):List (Nat×SV)->Bb (As)
 | []=>some cells| (i,v)::rest=>match place i with
  |none=>none|some (off,size)=>match C6 v with
   |none=>none|some vs=>bif Nat.beq vs.length size&&Nat.ble (off+size) cells.length then rG place (U1 cells off vs) rest else none
def rJ (P:Aw)(t:Ax):Bb (As):=match V0 P t with
 |some z=>some (z.cells.toList.map eS)|none=>none
def GG (P:Aw)(t:Ax)(parts:List (Nat×SV)):Bb SV:=
 match rJ P t with
 |none=>none|some z=>match P.underlying t with
  |some (.struct fs)=>match fH P fs.toList with
   |some pl=>match rG (fun i=>pl[i]?) z parts with
    |some cs=>some (.agg cs)|none=>none
   |none=>none
  |some (.array _ e)=>match P.info? e with
   |some ie=>match rG (fun i=>some (i*ie.size,ie.size)) z parts with
    |some cs=>some (.agg cs)|none=>none
   |none=>none
  |_=>none
section
variable {P :Aw}{U:Ab}{τ:Tau}{F:Ac}
def TD (P:Aw)(U:Ab)(τ:Tau)(F:Ac)(f:Fm)(tm:Ao):Prop:=∀k a,lk f k=some a->VD P U τ F a ((tm.get k).getD undef)
def vH (v:Av):VD P U τ F (eS v) v:=by unfold eS;split;exact .bool (.bool _);exact .int _ (.int _);rename_i s;exact .str (.str s.data.toList);exact .nilp;exact .nils;exact .nilm;exact .nilf;exact .nili;exact .any _
def eT (l:Af):VDL P U τ F (l.map eS) l:=by refine⟨by simp,fun i a x f hx=>?_⟩;simp only[Ul,hx,Ug,Tk]at f;subst f;exact vH x
def Ks (v:Av):VD P U τ F (GH v) v:=by unfold GH;split;rename_i cs;have h:=eT (P:=P) (U:=U) (τ:=τ) (F:=F) cs.toList;exact VD.agg _ cs.toList h.1 h.2;rename_i cs;have h:=eT (P:=P) (U:=U) (τ:=τ) (F:=F) cs.toList;exact VD.tup _ cs.toList h.1 h.2;exact vH v
def VDL.nil :VDL P U τ F [] []:=⟨rfl,fun i a x h _=>by simp at h⟩
def We:type_of% @VDL.nil:=@VDL.nil
variable {a:SV}{l:As}{xs:Af}
theorem VDL.cons {x:Av}(h:VD P U τ F a x)(hs:VDL P U τ F l xs):VDL P U τ F (a::l) (x::xs):=by
 refine⟨by simp[hs.1],fun i b y hb hy=>?_⟩;cases i with
 |zero=>grind|succ i=>exact hs.2 i b y hb hy
def Wd:type_of% @VDL.cons:=@VDL.cons
theorem VDL.uncons (h:VDL P U τ F (a::l) xs):∃y ys,xs=y::ys/\VD P U τ F a y/\VDL P U τ F l ys:=by
 cases xs with
 |nil=>exact absurd h.1 (by simp)|cons y ys=>exact⟨y,ys,rfl,h.2 0 _ _ rfl rfl,by have:=h.1;simpa using this,fun i a b f hb=>h.2 (i+1) a b (by grind) (by grind)⟩
def VDL.mono {τ':Tau}{F':Ac}(ht:Tle τ τ')(hf:Fle F F')(h:VDL P U τ F l xs):VDL P U τ' F' l xs:=⟨h.1,fun i a x f hx=>(h.2 i a x f hx).mono ht hf⟩
theorem VDL.get (h:VDL P U τ F l xs){i:Nat}(f:l[i]? =some a):∃x,xs[i]? =some x/\VD P U τ F a x:=by
 have hi:=(Tn.1 f).1;have hx:i<xs.length:=by rw[<-h.1];exact hi
 exact⟨xs[i],by grind,h.2 i a _ f (by simp)⟩
theorem VDL.drop (h:VDL P U τ F l xs)(n:Nat):VDL P U τ F (l.drop n) (xs.drop n):=
 ⟨by simp[h.1],fun i a x f hx=>h.2 (n+i) a x (by grind) (by grind)⟩
theorem VDL.take (h:VDL P U τ F l xs)(n:Nat):VDL P U τ F (l.take n) (xs.take n):=by refine⟨by simp[h.1],fun i a x f hx=>?_⟩;rw[TU]at f hx;by_cases hi:i<n;rw[TJ hi]at f hx;exact h.2 i a x f hx;grind
def VDL.append {m:As}{ys:Af}(h:VDL P U τ F l xs)(k:VDL P U τ F m ys):VDL P U τ F (l++m) (xs++ys):=by
 induction l generalizing xs with
 |nil=>obtain⟨h1,_⟩:=h;have:=Tq h1.symm;subst this;exact k
 |cons a l f=>obtain⟨y,g,rfl,h1,h2⟩:=h.uncons;exact Wd h1 (f h2)
def VDL.splice {l m:As}{xs ys:Af}(h:VDL P U τ F l xs)(k:VDL P U τ F m ys)(o:Nat):VDL P U τ F (U1 l o m) (splice xs o ys):=by unfold U1 Xe.splice;rw[k.1];exact((h.take o).append k).append (h.drop _)
def VDL.agg (h:VDL P U τ F l xs):VD P U τ F (.agg l) (.agg xs.toArray):= .agg l xs h.1 h.2
def VDL.tup (h:VDL P U τ F l xs):VD P U τ F (.tup l) (.tuple xs.toArray):= .tup l xs h.1 h.2
variable {v:Av}
def VDL.of_agg (h:VD P U τ F (.agg l) v):∃xs:Af,v= .agg xs.toArray/\VDL P U τ F l xs:=by cases h with|agg _ xs h1 h2=>exact⟨xs,rfl,h1,h2⟩
def Wf:type_of% @VDL.of_agg:=@VDL.of_agg
def VDL.of_tup (h:VD P U τ F (.tup l) v):∃xs:Af,v= .tuple xs.toArray/\VDL P U τ F l xs:=by cases h with|tup _ xs h1 h2=>exact⟨xs,rfl,h1,h2⟩
def PV.one {k:Kd}{d:Dat}(h:PV P F k v d):v.cells= #[v]:=by cases h<;>rfl
def dL (h:VD P U τ F a v)(e:C6 a=some l):VDL P U τ F l v.cells.toList:=by
 cases h with
 |any v=>simp[C6]at e|agg l' xs h1 h2=>simp only[C6,Tk]at e;subst e;exact⟨by simpa [Value.cells]using h1,fun i a x g hx=>h2 i a x g (by simpa [Value.cells]using hx)⟩|int k x=>simp only[C6,Tk]at e;subst e;exact Wd (.int k x) We|bool x=>simp only[C6,Tk]at e;subst e;exact Wd (.bool x) We|str x=>simp only[C6,Tk]at e;subst e;exact Wd (.str x) We|nilp=>simp only[C6,Tk]at e;subst e;exact Wd .nilp We|ptr b z row fld i o h h0=>simp only[C6,Tk]at e;subst e;exact Wd (.ptr b z row fld i o h h0) We|pptr t L row fld i o l c h h0 h1=>simp only[C6,Tk]at e;subst e;exact Wd (.pptr t L row fld i o l c h h0 h1) We|rp row fld h0=>simp only[C6,Tk]at e;subst e;exact Wd (.rp row fld h0) We|rv L z xs h=>simp only[C6,Tk]at e;subst e;exact Wd (.rv L z xs h) We|rpq x v h=>simp only[C6,Tk]at e;subst e;rw[h.one];exact Wd (.rpq x v h) We|nils=>simp only[C6,Tk]at e;subst e;exact Wd .nils We|sl b z off len cap i o c h h0 h1 hc=>simp only[C6,Tk]at e;subst e;exact Wd (.sl b z off len cap i o c h h0 h1 hc) We|sl0 b z off len cap h h0 h1 hc=>simp only[C6,Tk]at e;subst e;exact Wd (.sl0 b z off len cap h h0 h1 hc) We|lst t L clip v h hc=>simp only[C6,Tk]at e;subst e;rw[h.one];exact Wd (.lst t L clip v h hc) We|tup l' xs h1 h2=>simp only[C6,Tk]at e;subst e;exact Wd (.tup l' xs h1 h2) We|fn f l' m xs ys h1 h2 h3 h4=>simp only[C6,Tk]at e;subst e;exact Wd (.fn f l' m xs ys h1 h2 h3 h4) We|nilf=>simp only[C6,Tk]at e;subst e;exact Wd .nilf We|map b i o h=>simp only[C6,Tk]at e;subst e;exact Wd (.map b i o h) We|nilm=>simp only[C6,Tk]at e;subst e;exact Wd .nilm We|iface t v x h=>simp only[C6,Tk]at e;subst e;exact Wd (.iface t v x h) We|nili=>simp only[C6,Tk]at e;subst e;exact Wd .nili We|yld=>simp[C6]at e
theorem I6 {f:Fm}{tm:Ao}(h:TD P U τ F f tm){o:Az}(e:u6 f o=some a):∃v,c9 tm o=some v/\VD P U τ F a v:=by
 cases o with
 |tmp t=>
  simp only[u6,Tk]at e;refine⟨_,rfl,?_⟩;cases hl:lk f t with
  |none=>rw[hl]at e;subst e;exact .any _|some b=>rw[hl]at e;subst e;exact h t b hl
 |const v=>
  simp only[u6]at e;cases hc:cst v with
  |false=>grind|true=>simp only[hc,TE,Tk]at e;subst e;exact⟨v,by simp[c9,hc],Ks v⟩
 |global g=>simp[u6]at e|func g=>simp only[u6,Tk]at e;subst e;exact⟨_,rfl,.fn _ [] [] [] [] rfl (fun i a x h _=>by grind) rfl (fun i a x h _=>by grind)⟩
theorem sI {f:Fm}{tm:Ao}(h:TD P U τ F f tm):∀ {os:List Az} {l:As},Em f os=some l-> ∃vs,Y8 tm os=some vs/\VDL P U τ F l vs
 | [],l,e=>by simp only[Em,Tk]at e;subst e;exact⟨[],rfl,We⟩|o::os,l,e=>by
  simp only[Em]at e;cases j:u6 f o with
  |none=>grind|some a=>
   cases g:Em f os with
   |none=>grind|some l'=>simp only[j,g,Tk]at e;subst e;obtain⟨v,h1,h2⟩:=I6 h j;obtain⟨vs,h3,h4⟩:=sI h g;exact⟨v::vs,by simp[Y8,h1,h3],Wd h2 h4⟩
def PVD (P:Aw)(U:Ab)(τ:Tau)(F:Ac):List (Nat×SV)->List (Nat×Av)->Prop
 | [],[]=>True| (i,a)::l,(j,v)::m=>i=j/\VD P U τ F a v/\PVD P U τ F l m|_,_=>False
theorem jI {f:Fm}{tm:Ao}(h:TD P U τ F f tm):∀ {os:List (Nat×Az)} {l:List (Nat×SV)},iH f os=some l-> ∃vs,aT tm os=some vs/\PVD P U τ F l vs
 | [],l,e=>by simp only[iH,Tk]at e;subst e;exact⟨[],rfl,trivial⟩| (i,o)::os,l,e=>by
  simp only[iH]at e;cases j:u6 f o with
  |none=>grind|some a=>
   cases g:iH f os with
   |none=>grind|some l'=>simp only[j,g,Tk]at e;subst e;obtain⟨v,h1,h2⟩:=I6 h j;obtain⟨vs,h3,h4⟩:=jI h g;exact⟨(i,v)::vs,by simp[aT,h1,h3],rfl,h2,h4⟩
theorem oD {t:Ax}(h:VDL P U τ F l xs){off:Nat}(e:zK P t l off=some a):∃v,rN P t xs off=some v/\VD P U τ F a v:=by
 unfold zK at e;unfold rN;split at e;cases e
 ·rename_i d f;rw[f];cases hb:dY d with
  |true=>simp only[hb,TE]at e⊢;split at e;rename_i i hi;simp at e;subst e;exact⟨_,by grind,((h.drop off).take i.size).agg⟩;cases e
  |false=>simp only[hb,TF]at e⊢;obtain⟨x,h1,h2⟩:=h.get e;grind
theorem Kv {t:Ax}(h:VD P U τ F a v){f:Nat}{b:SV}(e:GL P t a f=some b):∃u,mG P t v f=some u/\VD P U τ F b u:=by unfold GL at e;unfold mG;split at e;rename_i p j;split at e;rename_i m g;split at e;rename_i cs;obtain⟨xs,rfl,hx⟩:=Wf h;obtain⟨u,h1,h2⟩:=oD hx e;grind;cases e;cases e;cases e
def Eo (h:VD P U τ F a v){i:Nat}{b:SV}(e:vK a i=some b):∃u,U5 v i=some u/\VD P U τ F b u:=by unfold vK at e;split at e;obtain⟨xs,rfl,hx⟩:=VDL.of_tup h;obtain⟨u,h1,h2⟩:=hx.get e;exact⟨u,by simpa [U5]using h1,h2⟩;cases e
theorem iF {place:Nat->Bb (Nat×Nat)}:∀ {ps:List (Nat×SV)} {m:List (Nat×Av)} {l:As} {xs:Af} {r:As},VDL P U τ F l xs->PVD P U τ F ps m->rG place l ps=some r-> ∃ys,kR place xs m=some ys/\VDL P U τ F r ys
 | [],[],l,xs,r,h,_,e=>by simp only[rG,Tk]at e;subst e;exact⟨xs,rfl,h⟩| (i,a)::ps,(j,v)::m,l,xs,r,h,hp,e=>by
  obtain⟨rfl,hv,hp'⟩:=hp;simp only[rG]at e;split at e;cases e
  ·rename_i off size f;split at e;cases e
   ·rename_i vs g;have hc:=dL hv g;simp only[kR,f];rw[hc.1,h.1]at e;cases hb:Nat.beq v.cells.toList.length size&&Nat.ble (off+size) xs.length with
    |false=>grind|true=>simp only[hb,TE]at e⊢;exact iF (h.splice hc off) hp' e
 | [],_::_,l,xs,r,h,hp,e=>hp.elim|_::_,[],l,xs,r,h,hp,e=>hp.elim
def dQ {t:Ax}(e:rJ P t=some l):∃z,V0 P t=some z/\VDL P U τ F l z.cells.toList:=by unfold rJ at e;split at e;rename_i z hz;simp at e;subst e;exact⟨z,hz,eT _⟩;cases e
theorem Kr {t:Ax}{ps:List (Nat×SV)}{j:List (Nat×Av)}(h:PVD P U τ F ps j)(e:GG P t ps=some a):∃v,mF P t j=some v/\VD P U τ F a v:=by unfold GG at e;unfold mF;split at e;cases e;rename_i l hl;obtain⟨z,h1,h2⟩:=dQ hl;rw[h1];split at e;rename_i r g;split at e;rename_i w p;split at e;rename_i cs f;simp at e;rw[<-e];obtain⟨ys,h3,h4⟩:=iF h2 h f;exact⟨_,by grind,h4.agg⟩;cases e;cases e;rename_i ie g;split at e;rename_i q m;split at e;rename_i cs f;simp at e;rw[<-e];obtain⟨ys,h3,h4⟩:=iF h2 h f;exact⟨_,by grind,h4.agg⟩;cases e;cases e;cases e
end
def rng (e:E)(k:IntKind):E:=HX (y5 (y8 e (.int k.min))) (y8 e (.int (k.max+1)))
def pK (op:BinOp)(k:IntKind)(a b:E):E:=match a,b with
 | .int m,.int n=>.int (Go.bits op k m n)|a,b=>.op (.bits op k) [a,b]
def MD (a b:E):E:=match a,b with
 | .int m,.int n=>.int (m.tdiv n)|a,b=>.op .tdiv [a,b]
def ME (a b:E):E:=match a,b with
 | .int m,.int n=>.int (m.tmod n)|a,b=>.op .tmod [a,b]
def MF (k:IntKind)(a b:E):E:=match a,b with
 | .int m,.int n=>.int (k.wrap (m*2^(min n.toNat k.bits)))|a,b=>.op (.shl k) [a,b]
def MG (k:IntKind)(a b:E):E:=match a,b with
 | .int m,.int n=>.int (m.fdiv (2^(min n.toNat k.bits)))|a,b=>.op (.shr k) [a,b]
def Ga (a b:E):E:=match a,b with
 | .str p,.str q=>.str (p++q)|a,b=>.op .sapp [a,b]
def cE (a:E):E:=match a with
 | .str p=>.int p.length|a=>.op .slen [a]
def yN (a b:E):E:=match a,b with
 | .str p,.str q=>.bool (Op.bytesLess p q)|a,b=>.op .lts [a,b]
section
variable (P :Aw)(U:Ab)
def uK (k:IntKind)(e:E):M SV:=match e with
 | .int n=>i3 (.int k (.int (k.wrap n)))|e=>bif decide (k= .i64)then b9 (l8 U (rng e .i64)) fun _=>i3 (.int k e)else i3 (.int k (.op (.wrap k) [e]))
def scmp (op:BinOp)(a b:E):Bb E:=
 match op with
 | .eql=>some (F7 a b)| .neq=>some (y5 (F7 a b))| .lss=>some (y8 a b)| .leq=>some (y5 (y8 b a))| .gtr=>some (y8 b a)| .geq=>some (y5 (y8 a b))|_=>none
def GF (op:BinOp)(k:IntKind)(a b:E):M SV:=
 match op with
 | .add=>uK U k (y4 a b)| .sub=>uK U k (O6 a b)| .mul=>uK U k (MC a b)| .quo=>b9 (l8 U (y5 (F7 b (.int 0)))) fun _=>uK U k (MD a b)
 | .rem=>b9 (l8 U (y5 (F7 b (.int 0)))) fun _=>i3 (.int k (ME a b))
 | .and=>i3 (.int k (pK .and k a b))| .or=>i3 (.int k (pK .or k a b))| .xor=>i3 (.int k (pK .xor k a b))| .andNot=>i3 (.int k (pK .andNot k a b))|op=>match scmp op a b with|some c=>i3 (.bool c)|none=>a8 "arith"
def GV (op:BinOp)(k:IntKind)(a b:E):M SV:=
 b9 (l8 U (y5 (y8 b (.int 0)))) fun _=>
 match op with
 | .shl=>i3 (.int k (MF k a b))| .shr=>i3 (.int k (MG k a b))|_=>a8 "shift"
def sstr (op:BinOp)(a b:E):M SV:=
 match op with
 | .add=>b9 (l8 U (y8 (y4 (cE a) (cE b)) (.int 1000000001))) fun _=>i3 (.str (Ga a b))
 | .eql=>i3 (.bool (nL a b))| .neq=>i3 (.bool (y5 (nL a b)))| .lss=>i3 (.bool (yN a b))| .leq=>i3 (.bool (mkOr (yN a b) (nL a b)))| .gtr=>i3 (.bool (y5 (mkOr (yN a b) (nL a b))))| .geq=>i3 (.bool (y5 (yN a b)))|_=>a8 "str"
def GK (eq:Ax->SV->SV->Bb E)(xs ys:As):List Field->Bb E
 | []=>some (.bool true)|f::fs=>bif f.name== "_" then GK eq xs ys fs else
  match zK P f.type xs f.offset,zK P f.type ys f.offset with
  |some a,some b=>match eq f.type a b,GK eq xs ys fs with
   |some p,some q=>some (HX p q)|_,_=>none
  |_,_=>none
def lO :SV->Bool
 | .ptr _ _ _ _| .pptr _ _ _ _| .rp _ _=>true
 |_=>false
def BC (size:Nat)(x y:SV):Bb E:=
 match x,y with
 | .nilp,.nilp=>some (.bool true)| .rpq e,.nilp=>some (F7 e (.int (-1)))| .nilp,.rpq e=>some (F7 e (.int (-1)))| .nilp,y=>bif lO y then some (.bool false)else none|x,.nilp=>bif lO x then some (.bool false)else none| .ptr b z row fld,.ptr b' z' row' fld'=>bif Nat.beq b b'&&Nat.beq z z'&&Nat.beq fld fld'&&Nat.ble 1 z&&Nat.ble 1 size then some (F7 row row')else none|_,_=>none
def IG (x y:SV):Bb E:=
 match x,y with
 | .nils,.nils=>some (.bool true)|_,_=>none
def nY (x y:SV):Bb E:=
 match x,y with
 | .nilm,.nilm=>some (.bool true)| .map _,.nilm=>some (.bool false)| .nilm,.map _=>some (.bool false)|_,_=>none
def IF (x y:SV):Bb E:=
 match x,y with
 | .nilf,.nilf=>some (.bool true)| .nilf,.fn _ _ _=>some (.bool false)| .fn _ _ _,.nilf=>some (.bool false)|_,_=>none
def vJ :Nat->Ax->SV->SV->Bb E
 |0,_,_,_=>none|d+1,t,x,y=>match P.underlying t with
  |some .bool=>match x,y with
   | .bool a,.bool b=>some (HY a b)|_,_=>none
  |some (.int _)=>match x,y with
   | .int k a,.int k' b=>bif decide (k=k')then some (F7 a b)else none|_,_=>none
  |some .string=>match x,y with
   | .str a,.str b=>some (nL a b)|_,_=>none
  |some (.pointer e)=>match P.info? e with
   |some ie=>BC ie.size x y|none=>none
  |some (.struct fs)=>match x,y with
   | .agg xs,.agg ys=>bif P.stoodInHeld t then none else GK P (vJ d) xs ys fs.toList|_,_=>none
  |some (.array n e)=>match x,y with
   | .agg xs,.agg ys=>match P.info? e with
    |some _=>GK P (vJ d) xs ys (aFs P e (List.range n))|none=>none
   |_,_=>none
  |some (.slice _)=>IG x y|some (.map _ _)=>nY x y|some (.func _ _ _)=>IF x y|some (.interface _)=>match x,y with
   | .nili,.iface _ _=>some (.bool false)| .iface _ _,.nili=>some (.bool false)
   | .iface tx vx, .iface ty vy => bif decide (tx = ty) then
     match P.info? tx with
     |some i=>bif i.comparable then vJ d tx vx vy else none|none=>none
    else some (.bool false)
   |_,_=>none
  |_=>none
def cN (t:Ax):SV->Bool
 | .any=>false| .agg _=> !P.eqGuardType P.depth t| .nili=>false|_=>true
def sbin (op:BinOp)(t:Ax)(x y:SV):M SV:=
 match x,y with
 | .int k a,.int k' b=>match op with
  | .shl=>GV U .shl k a b| .shr=>GV U .shr k a b|op=>bif decide (k=k')then GF U op k a b else a8 "kinds"
 | .str a,.str b=>sstr U op a b|x,y=>match op with
  | .eql=>bif cN P t x then match vJ P 10000 t x y with
   |some b=>i3 (.bool b)|none=>a8 "eq" else a8 "eq guard"
  | .neq=>bif cN P t x then match vJ P 10000 t x y with
   |some b=>i3 (.bool (y5 b))|none=>a8 "eq" else a8 "eq guard"
  |_=>a8 "binop"
def snil (len:E):M SV:=fun s=>.all .b s.fv fun d=>
 .br d (.asm (.e (F7 len (.int 0))) ((F7 len (.int 0)).pr U) (.ret (.bool (.bool true),addF {s with fv:=s.fv+1} (F7 len (.int 0)) true))) (.ret (.bool (.bool false),{s with fv:=s.fv+1}))
def Dk (op:BinOp)(t:Ax)(x y:SV):Bb E:=match P.underlying t with
 |some (.slice _)=>match op,x,y with
  | .eql,.sl _ _ _ len _,.nils=>some len| .eql,.lst _ L _,.nils=>some (A7 L)|_,_,_=>none
 |_=>none
def Ny (op:BinOp)(t:Ax)(x y:SV):M SV:=match Dk P op t x y with
 |some len=>snil U len|none=>sbin P U op t x y
def srune :M SV:=fun s=>.all .s s.fv fun d=>.asm (.e (y8 (.op .slen [d]) (.int 5))) ((y8 (.op .slen [d]) (.int 5)).pr U) (.ret (.str d,{s with fv:=s.fv+1}))
def NC (src dst:Ax)(x:SV):M SV:=
 match P.underlying src with
 |none=>a8 "conv"|some _=>match P.underlying dst,x with
  |some (.int k),.int k0 e=>match e with
   | .int n=>i3 (.int k (.int (k.wrap n)))|e=>bif Nat.blt k.bits k0.bits then i3 (.int k (.op (.wrap k) [e]))else b9 (l8 U (rng e k)) fun _=>i3 (.int k e)
  |some .string,.str s=>i3 (.str s)|some .string,.int _ _=>srune U|_,_=>a8 "conv"
def sun (op:UnOp)(x:SV):M SV:=
 match op,x with
 | .neg,.int k e=>uK U k (O6 (.int 0) e)| .not,.bool b=>i3 (.bool (y5 b))|_,_=>a8 "unop"
def GM (t:Ax)(x:SV):Bb SV:=
 match P.underlying t with
 |some (.interface _)=>none|some _=>some (.iface t x)|none=>none
def KA (big:Bool):SV->As->M SV
 |v,[]=>match v with
  | .int k n=>i3 (.int k n)|_=>a8 "min"
 |v,y::ys=>match v,y with
  | .int k a,.int _ b=>b9 (hK U (bif big then y8 a b else y8 b a)) fun t=>KA big (.int k (bif t then b else a)) ys
  |_,_=>a8 "min"
end
section
variable {P :Aw}{U:Ab}{τ:Tau}{F:Ac}
variable {k:IntKind}{n:Int}
def Jc (h1:k.min<=n)(h2:n<=k.max):k.wrap n=n:=by unfold IntKind.wrap;unfold IntKind.min at h1;unfold IntKind.max at h2;cases k<;>simp[IntKind.signed,IntKind.bits]at h1 h2⊢ <;>omega
def Nt {e:E}(h:(rng e k).pr U):k.wrap (e.toI U)=e.toI U:=by rw[Vq,rng,yJ,G6,G9,G9]at h;simp at h;simp only[B7]at h;exact Jc (by omega) (by omega)
def eK (op:BinOp)(k:IntKind)(a b:E):(pK op k a b).toI U=Go.bits op k (a.toI U) (b.toI U):=by unfold pK;split<;>rfl
def JM (a b:E):(MD a b).toI U=(a.toI U).tdiv (b.toI U):=by unfold MD;split<;>rfl
def JN (a b:E):(ME a b).toI U=(a.toI U).tmod (b.toI U):=by unfold ME;split<;>rfl
def JO (k:IntKind)(a b:E):(MF k a b).toI U=k.wrap (a.toI U*2^(min (b.toI U).toNat k.bits)):=by unfold MF;split<;>rfl
def JP (k:IntKind)(a b:E):(MG k a b).toI U=(a.toI U).fdiv (2^(min (b.toI U).toNat k.bits)):=by unfold MG;split<;>rfl
def Gb (a b:E):((Ga a b).den U).toStr=(a.den U).toStr++(b.den U).toStr:=by unfold Ga;split<;>rfl
def Q6 (a:E):(cE a).toI U=((a.den U).toStr.length:Int):=by unfold cE;split<;>rfl
def iZ (a b:E):((yN a b).den U).toBool=Op.bytesLess (a.den U).toStr (b.den U).toStr:=by unfold yN;split<;>rfl
def VD.int' {e:E}(h:e.toI U=n):VD P U τ F (.int k e) (.int k n):=by subst h;exact .int k e
def Wb:type_of% @VD.int':=@VD.int'
def VD.bool' {e:E}{b:Bool}(h:(e.den U).toBool=b):VD P U τ F (.bool e) (.bool b):=by subst h;exact .bool e
def Wa:type_of% @VD.bool':=@VD.bool'
variable {s:SS}
def hM {e:E}(h:e.toI U=n):OKp U (uK U k e) s fun a=>VD P U τ F a (.int k (k.wrap n)):=by subst h;unfold uK;split;exact VJ (.int k (.int _));by_cases hk:k= .i64;subst hk;simp;exact OKp.need.bind fun _ s' _ _ hp=>VJ (Wb (Nt hp).symm);simp only[hk,decide_false,TF];exact VJ (.int k (.op (.wrap k) [_]))
def Ig {b:E}(h:(y5 (F7 b (.int 0))).pr U):¬b.toI U=0:=by rwa[Vq,G6,E7,Uh,Uj]at h
theorem PL {op:BinOp}{a b c:E}(h:scmp op a b=some c):jY op (a.toI U) (b.toI U)=some (.bool (c.den U).toBool):=by unfold scmp at h;split at h<;>simp at h<;>subst h<;>simp only[jY,G6,G9,E7,Tk,Value.bool.injEq];grind;grind
def Kq {op:BinOp}{a b:E}:OKp U (GF U op k a b) s fun c=>∃v,E2 op k (a.toI U) (b.toI U)=some v/\VD P U τ F c v:=by
 unfold GF;split;exact(hM (j7 a b)).mono fun c h=>⟨_,rfl,h⟩
 exact(hM (v6 a b)).mono fun c h=>⟨_,rfl,h⟩
 exact(hM (JL a b)).mono fun c h=>⟨_,rfl,h⟩
 ·refine OKp.need.bind fun _ s' _ _ hp=>(hM (JM a b)).mono fun c h=>⟨_,?_,h⟩
  simp[E2,Ig hp]
 refine OKp.need.bind fun _ s' _ _ hp=>VJ ⟨_,?_,Wb (JN a b)⟩;simp[E2,Ig hp];exact VJ ⟨_,rfl,Wb (eK _ k a b)⟩;exact VJ ⟨_,rfl,Wb (eK _ k a b)⟩;exact VJ ⟨_,rfl,Wb (eK _ k a b)⟩;exact VJ ⟨_,rfl,Wb (eK _ k a b)⟩
 ·split;rename_i c hc;refine VJ ⟨_,?_,.bool c⟩;rw[<-PL hc];cases op<;>first|rfl| (exact absurd rfl (by omega))
  exact VE
def Z5 {b:E}(h:(y5 (y8 b (.int 0))).pr U):0<=b.toI U:=by rw[Vq,G6,G9,Uh,Uj]at h;exact Int.not_lt.1 h
theorem zL {op:BinOp}{a b:E}:OKp U (GV U op k a b) s fun c=>∃v,qP op k (a.toI U) (b.toI U)=some v/\VD P U τ F c v:=by
 refine OKp.need.bind fun _ s' _ _ hp=>?_;have h0:=Z5 hp;have e:decide (b.toI U<0)=false:=by grind
 split;exact VJ ⟨_,by simp only[qP,e,TF],Wb (JO k a b)⟩;exact VJ ⟨_,by simp only[qP,e,TF],Wb (JP k a b)⟩;exact VE
def VD.str' {e:E}{l:Ae}(h:(e.den U).toStr=l):VD P U τ F (.str e) (.string ⟨l.toArray⟩):=by subst h;exact .str e
def PP {op:BinOp}{a b:E}:OKp U (sstr U op a b) s fun c=>∃v,OI op ⟨(a.den U).toStr.toArray⟩ ⟨(b.den U).toStr.toArray⟩=some v/\VD P U τ F c v:=by unfold sstr;split;refine OKp.need.bind fun _ s' _ _ hp=>?_;rw[Vq,G9,j7,Q6,Q6]at hp;simp at hp;simp only[B7]at hp;refine VJ ⟨_,?_,VD.str' (Gb a b)⟩;have hb:Nat.ble ((a.den U).toStr.length+(b.den U).toStr.length) 1000000000=true:=Ts (by omega);simp only[OI,hb,TE];exact VJ ⟨.bool ((a.den U).toStr==(b.den U).toStr),rfl,Wa (V6 a b)⟩;exact VJ ⟨.bool (!((a.den U).toStr==(b.den U).toStr)),rfl,Wa (by rw[G6,V6])⟩;exact VJ ⟨.bool (Op.bytesLess (a.den U).toStr (b.den U).toStr),rfl,Wa (iZ a b)⟩;exact VJ ⟨.bool (Op.bytesLess (a.den U).toStr (b.den U).toStr|| (a.den U).toStr==(b.den U).toStr),rfl,Wa (by rw[Dy,iZ,V6])⟩;exact VJ ⟨.bool (!(Op.bytesLess (a.den U).toStr (b.den U).toStr|| (a.den U).toStr==(b.den U).toStr)),rfl,Wa (by rw[G6,Dy,iZ,V6])⟩;exact VJ ⟨.bool (!Op.bytesLess (a.den U).toStr (b.den U).toStr),rfl,Wa (by rw[G6,iZ])⟩;exact VE
def sH {j:Ax->SV->SV->Bb E}{r:Ax->Av->Av->Bb Bool}(h:∀t a b v u c,VD P U τ F a v->VD P U τ F b u->j t a b=some c->r t v u=some (c.den U).toBool){l m:As}{xs ys:Af}(hl:VDL P U τ F l xs)(hm:VDL P U τ F m ys):∀ {g:List Field} {c:E},GK P j l m g=some c->Cm P r xs ys g=some (c.den U).toBool
 | [],c,e=>by simp only[GK,Tk]at e;subst e;rfl|f::g,c,e=>by
  simp only[GK]at e;simp only[Cm];cases hn:f.name== "_" with
  |true=>simp only[hn,TE]at e⊢;exact sH h hl hm e|false=>
   simp only[hn,TF]at e⊢;split at e
   ·rename_i a b w hb;split at e
    ·rename_i p q hp hq;simp at e;subst e;obtain⟨v,h1,h2⟩:=oD hl w;obtain⟨u,h3,h4⟩:=oD hm hb;simp only[h1,h3,h _ _ _ _ _ _ h2 h4 hp];rw[yJ];cases z:(p.den U).toBool with
     |true=>exact sH h hl hm hq|false=>rfl
    cases e
   cases e
variable {a:SV}{v:Av}
def zA (h:VD P U τ F a v)(e:lO a=true):∃p,v= .pointer (some p):=by cases h<;>first|exact⟨_,rfl⟩| (simp[lO]at e)
variable {x y:SV}{u:Av}{d:Nat}
theorem Ku {size:Nat}(hx:VD P U τ F x v)(hy:VD P U τ F y u){c:E}(e:BC size x y=some c){t t':Ax}(ht:P.underlying t=some (.pointer t')){ie:Ba}(hi:P.info? t'=some ie)(hs:ie.size=size):xeq P (d+1) t v u=some (c.den U).toBool:=by
 unfold BC at e;split at e;simp only[Tk]at e;subst e;cases hx;cases hy;simp[xeq,ht];rfl
 ·rename_i q;simp only[Tk]at e;subst e;cases hy;rw[E7,B7];cases hx with
  |rpq _ _ h=>
  generalize hq:q.toI U=m at h;cases h with
  |rp k=>rw[show decide ((k:Int)= -1)=false from UJ (by omega)];simp[xeq,ht]|rpn=>simp[xeq,ht]
 ·rename_i q;simp only[Tk]at e;subst e;cases hx;rw[E7,B7];cases hy with
  |rpq _ _ h=>
  generalize hq:q.toI U=m at h;cases h with
  |rp k=>rw[show decide ((k:Int)= -1)=false from UJ (by omega)];simp[xeq,ht]|rpn=>simp[xeq,ht]
 ·cases hp:lO y with
  |false=>grind|true=>simp only[hp,TE,Tk]at e;subst e;obtain⟨p,rfl⟩:=zA hy hp;cases hx;simp[xeq,ht];rfl
 ·cases hp:lO x with
  |false=>grind|true=>simp only[hp,TE,Tk]at e;subst e;obtain⟨p,rfl⟩:=zA hx hp;cases hy;simp[xeq,ht];rfl
 ·rename_i b z row fld b' w g f;cases hb:Nat.beq b b'&&Nat.beq z w&&Nat.beq fld f&&Nat.ble 1 z&&Nat.ble 1 size with
  |false=>grind|true=>
   simp only[hb,TE,Tk]at e;subst e;simp only[Tl,Ub,Up]at hb;obtain⟨⟨⟨⟨rfl,rfl⟩,rfl⟩,hz⟩,r⟩:=hb;cases hx with
   |ptr _ _ _ _ i o h h0=>
    cases hy with
    |ptr _ _ _ _ A o' h' j=>
     rw[h]at h';simp only[Tk,Tm]at h';obtain⟨rfl,rfl⟩:=h';simp only[xeq,ht,t9,TE,hi];rw[z8 (by omega),TF,E7];congr 1;rw[Bool.eq_iff_iff];simp only[Ub,TI];constructor
     ·intro h;have:row.toN U*z=g.toN U*z:=by omega
      have:=Nat.eq_of_mul_eq_mul_right (by omega) this;grind
     grind
 cases e
theorem VD.not_int (h:VD P U τ F a (.int k n)):a= .any\/ ∃e,a= .int k e:=by
 cases h with
 |any=>grind|int k e=>grind|rpq x v h=>cases h
 |lst t L clip v h hc=>cases h
theorem VD.not_str {s:ByteArray}(h:VD P U τ F a (.string s)):a= .any\/ ∃e,a= .str e:=by
 cases h with
 |any=>grind|str e=>grind|rpq x v h=>cases h
 |lst t L clip v h hc=>cases h
def VD.not_complex {f:FloatKind}{m n:Nat}(h:VD P U τ F a (.complex f m n)):a= .any:=by
 cases h with
 |any=>rfl|rpq x v h=>cases h
 |lst t L clip v h hc=>cases h
def NI (hx:VD P U τ F x v)(hy:VD P U τ F y u){c:E}(e:IG x y=some c){t t':Ax}(ht:P.underlying t=some (.slice t')):xeq P (d+1) t v u=some (c.den U).toBool:=by unfold IG at e;split at e<;>simp at e<;>subst e<;>cases hx<;>cases hy<;>simp[xeq,ht]<;>rfl
def El (hx:VD P U τ F x v)(hy:VD P U τ F y u){c:E}(e:nY x y=some c){t t' f:Ax}(ht:P.underlying t=some (.map t' f)):xeq P (d+1) t v u=some (c.den U).toBool:=by unfold nY at e;split at e<;>simp at e<;>subst e<;>cases hx<;>cases hy<;>simp[xeq,ht]<;>rfl
def NG (hx:VD P U τ F x v)(hy:VD P U τ F y u){c:E}(e:IF x y=some c){t:Ax}{ps f:Array Ax}{b:Bool}(ht:P.underlying t=some (.func ps f b)):xeq P (d+1) t v u=some (c.den U).toBool:=by unfold IF at e;split at e<;>simp at e<;>subst e<;>cases hx<;>cases hy<;>simp[xeq,ht]<;>rfl
theorem nZ :∀(d:Nat) (t:Ax) (a b:SV) (v u:Av) (c:E),VD P U τ F a v->VD P U τ F b u->vJ P d t a b=some c->xeq P d t v u=some (c.den U).toBool
 |0,t,a,b,v,u,c,f,hb,e=>by simp[vJ]at e|d+1,t,a,b,v,u,c,f,hb,e=>by
  simp only[vJ]at e;split at e;rename_i ht;split at e;simp only[Tk]at e;subst e;cases f;cases hb;simp only[xeq,ht,yK];cases e;rename_i ht;split at e;rename_i k x k' y;by_cases hk:k=k';simp only[hk,Ur,TE,Tk]at e;subst e;subst hk;cases f;cases hb;simp only[xeq,ht,E7,Ur,TE];grind;cases e;rename_i ht;split at e;simp only[Tk]at e;subst e;cases f;cases hb;simp only[xeq,ht,V6];cases e;rename_i t' ht;split at e;rename_i ie j;exact Ku f hb e ht j rfl;cases e
  ·rename_i q ht;split at e
   ·rename_i xs ys;cases hs:P.stoodInHeld t with
    |true=>grind|false=>simp only[hs,TF]at e;obtain⟨vs,rfl,h1⟩:=Wf f;obtain⟨us,rfl,h2⟩:=Wf hb;simp only[xeq,ht,hs,TF];exact sH (nZ d) h1 h2 e
   cases e
  rename_i n e' ht;split at e;split at e;rename_i i hi;obtain⟨vs,rfl,h1⟩:=Wf f;obtain⟨us,rfl,h2⟩:=Wf hb;simp only[xeq,ht,hi];exact sH (nZ d) h1 h2 e;cases e;cases e;rename_i ht;exact NI f hb e ht;rename_i ht;exact El f hb e ht;rename_i ht;exact NG f hb e ht
  ·rename_i ht;split at e;simp only[Tk]at e;subst e;cases f;cases hb;simp only[xeq,ht];rfl;simp only[Tk]at e;subst e;cases f;cases hb;simp only[xeq,ht];rfl
   ·rename_i m vx ty p;cases f with
    |iface _ _ x hx=>
     cases hb with
     |iface _ _ y hy=>
      by_cases hk:m=ty
      ·subst hk;simp only[Ur,TE]at e;split at e
       ·rename_i i hi;cases g:i.comparable with
        |false=>grind|true=>simp only[g,TE]at e;simp only[xeq,ht,Ur,TE,hi,g];exact nZ d m vx p x y c hx hy e
       cases e
      simp only[hk,decide_false,TF,Tk]at e;subst e;simp only[xeq,ht,hk,decide_false,TF];rfl
   cases e
  cases e
def PV.guard {k:Kd}{d:Dat}(h:PV P F k v d)(t:Ax):P2 P t v=true:=by cases h<;>rfl
def jH {t:Ax}(h:VD P U τ F a v)(e:cN P t a=true):P2 P t v=true:=by
 cases h with
 |any=>simp[cN]at e|nili=>simp[cN]at e|yld=>first|exact e|rfl|simp[cN,P2]at e⊢
 |agg l xs h1 h2=>exact e|lst t' L clip v h hc=>exact h.guard t|rpq x v h=>exact h.guard t|_=>rfl
def Q0 {op:BinOp}{t:Ax}{w:Av}(h:cQ P op t v u=some w):K9 P op t v u=some w:=by unfold K9;rw[h]
theorem W3 {op:BinOp}{t:Ax}(h1:∀k a k' b,v= .int k a->u= .int k' b->False)(h2:∀a b,v= .string a->u= .string b->False)(h3:∀f m n,u= .complex f m n->False):cQ P op t v u=match op with
  | .eql=>bif P2 P t v then match xeq P 10000 t v u with
   |some b=>some (.bool b)|none=>none else none
  | .neq=>bif P2 P t v then match xeq P 10000 t v u with
   |some b=>some (.bool (!b))|none=>none else none
  |_=>none:=by
 unfold cQ;grind
def Ov {op:BinOp}{t:Ax}{a b:Int}(h:E2 op k a b=some v):cQ P op t (.int k a) (.int k b)=some v:=by simp only[cQ,Ur,TE];cases op<;>first|exact h| (simp[E2,jY]at h)
variable {b:SV}
theorem PJ {op:BinOp}{t:Ax}(g:VD P U τ F a v)(hb:VD P U τ F b u):OKp U (sbin P U op t a b) s fun c=>∃w,K9 P op t v u=some w/\VD P U τ F c w:=by
 unfold sbin;split
 ·rename_i k x k' y;cases g;cases hb;split;exact zL.mono fun c ⟨w,h1,h2⟩=>⟨w,Q0 h1,h2⟩
  exact zL.mono fun c ⟨w,h1,h2⟩=>⟨w,Q0 h1,h2⟩
  ·by_cases hk:k=k';subst hk;simp only[Ur,TE];exact Kq.mono fun c ⟨w,h1,h2⟩=>⟨w,Q0 (Ov h1),h2⟩
   simp only[hk,decide_false,TF];exact VE
 cases g;cases hb;exact PP.mono fun c ⟨w,h1,h2⟩=>⟨w,Q0 h1,h2⟩
 ·rename_i hi hs;have j:∀c,cN P t a=true->vJ P 10000 t a b=some c->(∀k p k' q,v= .int k p->u= .int k' q->False)/\(∀p q,v= .string p->u= .string q->False)/\(∀f m n,u= .complex f m n->False):=by
   intro c hg hq;have na:a≠ .any:=fun e=>by subst e;simp[cN]at hg
   have nb:b≠ .any:=by
    intro e;have:∀d,vJ P (d+1) t a .any=none:=by intro d;simp only[vJ];split<;>(try (split<;>first|rfl| (rename_i h;cases h)|skip));all_goals (first| (unfold BC;split<;>first|rfl| (rename_i h;cases h;done)| (simp[lO]))| (unfold IG;split<;>first|rfl| (rename_i h;cases h;done))| (unfold nY;split<;>first|rfl| (rename_i h;cases h;done))| (unfold IF;split<;>first|rfl| (rename_i h;cases h;done))|simp_all)
    grind
   refine⟨fun k p k' q e1 e2=>?_,fun p q e1 e2=>?_,fun f m n e=>?_⟩;subst e1;subst e2;obtain⟨e,rfl⟩:=g.not_int.resolve_left na;obtain⟨e',rfl⟩:=hb.not_int.resolve_left nb;grind;subst e1;subst e2;obtain⟨e,rfl⟩:=g.not_str.resolve_left na;obtain⟨e',rfl⟩:=hb.not_str.resolve_left nb;grind;subst e;exact nb hb.not_complex
  split
  ·cases hg:cN P t a with
   |false=>exact VE|true=>split;rename_i c hc;obtain⟨k1,k2,k3⟩:=j c hg hc;refine VJ ⟨_,Q0 ?_,.bool c⟩;rw[W3 k1 k2 k3];simp only[jH g hg,TE,nZ _ _ _ _ _ _ _ g hb hc];exact VE
  ·cases hg:cN P t a with
   |false=>exact VE|true=>split;rename_i c hc;obtain⟨k1,k2,k3⟩:=j c hg hc;refine VJ ⟨_,Q0 ?_,Wa (G6 c)⟩;rw[W3 k1 k2 k3];simp only[jH g hg,TE,nZ _ _ _ _ _ _ _ g hb hc];exact VE
  exact VE
theorem Nz {op:BinOp}{t:Ax}(g:VD P U τ F a v)(hb:VD P U τ F b u):OKp U (Ny P U op t a b) s fun c=>∃w,K9 P op t v u=some w/\VD P U τ F c w:=by
 unfold Ny;split
 ·rename_i len h;unfold Dk at h;split at h
  ·rename_i t' ht;split at h
   ·rename_i b' z off f cap;simp only[Tk]at h;subst h;have hg:P2 P t v=true:=jH g rfl;cases hb;intro Q hq hf;cases g with
    |sl _ _ _ _ _ i o c k h0 h1 hc=>refine⟨_,_,(hq false).2 (fun h=>by cases h),⟨rfl,rfl,⟨[],rfl⟩,rfl⟩,hf,.bool false,Q0 ?_,.bool (.bool false)⟩;rw[W3 (fun _ _ _ _ h=>by grind) (fun _ _ h=>by grind) (fun _ _ _ h=>by grind)];simp only[hg,TE];simp[xeq,ht]|sl0 _ _ _ _ _ k h0 h1 hc=>have hp:(F7 f (.int 0)).pr U:=(Vq U _).2 (by rw[E7];simp only[h1];rfl);refine⟨_,_,(hq true).1 ((Vq U _).2 rfl) hp,⟨rfl,rfl,⟨[(F7 f (.int 0),true)],rfl⟩,rfl⟩,hf.cons ((Vq U _).1 hp),.bool true,Q0 ?_,.bool (.bool true)⟩;rw[W3 (fun _ _ _ _ h=>by grind) (fun _ _ h=>by grind) (fun _ _ _ h=>by grind)];simp only[hg,TE];simp[xeq,ht]
   ·rename_i t' L clip;cases h;have hg:P2 P t v=true:=jH g rfl;cases hb;intro Q hq hf;cases g with
    |lst _ _ _ _ j _=>
     have p:∀(v:Av) (d:Dat),PV P F (.sl t') v d->v= .slice none 0 0->d.rows=[]:=fun v d h e=>by
      cases h with
      |nils=>rfl|vague=>rfl|sl=>cases e
     have m:∀(v:Av) (d:Dat),PV P F (.sl t') v d->v= .slice none 0 0\/ ∃a l c,v= .slice (some a) l c:=fun v d h=>by
      cases h with
      |nils=>grind|vague=>grind|sl=>grind
     by_cases hv:v= .slice none 0 0
     ·subst hv;have hL:(L.toR U).length=0:=by have h0:=p _ (.lst (L.toR U)) j rfl;rw[show L.toR U=[]from h0];rfl
      have hp:=(Vq U _).2 (by rw[E7];show decide ((A7 L).toI U=(E.int 0).toI U)=true;rw[j2,hL];rfl);refine⟨_,_,(hq true).1 ((Vq U _).2 rfl) hp,⟨rfl,rfl,⟨[(F7 (A7 L) (.int 0),true)],rfl⟩,rfl⟩,hf.cons ((Vq U _).1 hp),.bool true,Q0 ?_,.bool (.bool true)⟩;rw[W3 (fun _ _ _ _ h=>by grind) (fun _ _ h=>by grind) (fun _ _ _ h=>by grind)];simp only[hg,TE];simp[xeq,ht]
     obtain⟨a,l,c,rfl⟩:=(m _ _ j).resolve_left hv;refine⟨_,_,(hq false).2 (fun h=>by cases h),⟨rfl,rfl,⟨[],rfl⟩,rfl⟩,hf,.bool false,Q0 ?_,.bool (.bool false)⟩;rw[W3 (fun _ _ _ _ h=>by grind) (fun _ _ h=>by grind) (fun _ _ _ h=>by grind)];simp only[hg,TE];simp[xeq,ht]
   cases h
  cases h
 exact PJ g hb
theorem OV (r:Int):(Utf8.encode r).data.toList.length<=4:=by unfold Utf8.encode;grind
def ND {src dst:Ax}(g:VD P U τ F a v):OKp U (NC P U src dst a) s fun c=>∃w,iM P src dst v=some w/\VD P U τ F c w:=by
 unfold NC;split;exact VE
 ·rename_i d f;split
  ·rename_i k k0 e hk;cases g;split;rename_i n;exact VJ ⟨.int k (k.wrap n),by simp only[iM,f,hk];rfl,Wb rfl⟩
   ·cases Nat.blt k.bits k0.bits with
    |true=>exact VJ ⟨.int k (k.wrap (e.toI U)),by simp only[iM,f,hk],Wb rfl⟩|false=>exact OKp.need.bind fun _ s' _ _ hp=>VJ ⟨.int k (k.wrap (e.toI U)),by simp only[iM,f,hk],Wb (Nt hp).symm⟩
  rename_i e hk;cases g;exact VJ ⟨_,by simp only[iM,f,hk],.str e⟩;rename_i e hk;cases g;intro Q hq hf;exact⟨_,_,hq (Utf8.encode (e.toI U)).data.toList ((Vq U _).2 (by exact decide_eq_true (by have:=OV (e.toI U);show((Utf8.encode (e.toI U)).data.toList.length:Int)<5;omega))),⟨rfl,rfl,⟨[],rfl⟩,rfl⟩,hf,.string (Utf8.encode (e.toI U)),by simp only[iM,f,hk,OH],.str (.dat _ (.str _))⟩;exact VE
def SM {op:UnOp}(f:VD P U τ F a v):OKp U (sun U op a) s fun c=>∃w,xun op v=some w/\VD P U τ F c w:=by
 unfold sun;split;cases f;exact(hM (v6 _ _)).mono fun c h=>⟨_,rfl,h⟩
 cases f;exact VJ ⟨_,rfl,Wa (G6 _)⟩;exact VE
theorem Kw {t:Ax}(f:VD P U τ F a v)(e:GM P t a=some b):∃w,mH P t v=some w/\VD P U τ F b w:=by
 unfold GM at e;unfold mH;cases h:P.underlying t with
 |none=>grind|some d=>
  rw[h]at e;cases d<;>first
   | (simp at e;done)
   | (simp at e;subst e;exact⟨_,rfl,.iface t a v f⟩)
def BH {big:Bool}:∀ {l:As} {xs:Af} {a:SV} {v:Av} {s:SS},VD P U τ F a v->VDL P U τ F l xs->OKp U (KA U big a l) s fun c=>∃w,fR big v xs=some w/\VD P U τ F c w
 | [],xs,a,v,s,f,hl=>by have:=Tq hl.1.symm;subst this;unfold KA;split;cases f;exact VJ ⟨_,rfl,.int _ _⟩;exact VE
 |b::l,xs,a,v,s,f,hl=>by
  obtain⟨y,ys,rfl,hb,g⟩:=hl.uncons;unfold KA;split
  ·rename_i k x k' z;cases f;cases hb;refine OKp.test.bind fun t s' _ _ ht=>?_;have e:(bif big then(bif decide (x.toI U<z.toI U)then z.toI U else x.toI U)else(bif decide (z.toI U<x.toI U)then z.toI U else x.toI U))=(bif t then z else x).toI U:=by cases big;simp only[TF,G9]at ht⊢;rw[ht];cases t<;>rfl;simp only[TE,G9]at ht⊢;rw[ht];cases t<;>rfl
   have:=BH (big:=big) (s:=s') (Wb (k:=k) e.symm) g;exact this
  exact VE
end
section
variable {P :Aw}{U:Ab}
structure Ext (τ:Tau)(F:Ac)(s:SS)(hp:Hp)(τ':Tau)(F':Ac)(s':SS)(hp':Hp):Prop where
 t:Tle τ τ'
 f:Fle F F'
 nx:hp.nx<=hp'.nx
 snx:s.nx<=s'.nx
 st:∀b,b<s.nx->τ' b=τ b
 low:∀b x,s'.get b=some x->b<s.nx-> ∃y,s.get b=some y
 hh:∃l,s'.h=l++s.h/\(∀i,i<hp.nx->(∀b x o,s.get b=some x->τ b=some (some (i,o))->b∈l.map Prod.fst->False)->hp'.m.get i=hp.m.get i)/\
  (∀b i o,s.nx<=b->τ' b=some (some (i,o))->hp.nx<=i\/ ∃b0 x o0,s.get b0=some x/\τ b0=some (some (i,o0))/\b0∈l.map Prod.fst)/\
  (∀i y,i<hp.nx->F' i=some y->F i=some y\/ ∃b o,τ' b=some (some (i,o))/\b∈l.map Prod.fst)/\
  ((∀p∈l,p.2≠none)-> ∀i y,F' i=some y->F i=some y)
 hf:∃l,s'.fc=l++s.fc
 win:∃l,s'.h=l++s.h/\ ∀b c e z i o cs n,s.get b=some (.cells c e z)->τ b=some (some (i,o))->i<hp.nx->hp.m.get i=some (.cells cs n e z)->(∀x,(b,x)∈l-> ∃c',x=some (.cells c' e z)/\c'.length=c.length)->
  ∃cs',hp'.m.get i=some (.cells cs' n e z)/\ ∀j,j<o\/o+c.length<=j->cs'.get j=cs.get j
variable {b:Nat}
theorem RP {l m:List (Nat×Bb B4)}{c:As}{e z:Nat}{x0:B4}(h0:(match lk m b with|some x=>x|none=>none)=some x0)(hx:∃c0,x0= .cells c0 e z/\c0.length=c.length)(h:∀x,(b,x)∈l-> ∃c',x=some (.cells c' e z)/\c'.length=c.length):∃c',(match lk (l++m) b with|some x=>x|none=>none)=some (.cells c' e z)/\c'.length=c.length:=by
 induction l with
 |nil=>grind|cons p l f=>obtain⟨k,y⟩:=p;rw[Uw,A0];grind
variable {τ':Tau}{F':Ac}{s':SS}{hp':Hp}
theorem Ext.kept {τ:Tau}{F:Ac}{s:SS}{hp:Hp}(h:Ext τ F s hp τ' F' s' hp'):∀i,i<hp.nx->(∀b x o,s.get b=some x->τ b=some (some (i,o))->False)->hp'.m.get i=hp.m.get i:=by obtain⟨l,_,h1,_⟩:=h.hh;grind
theorem Ext.fresh {τ:Tau}{F:Ac}{s:SS}{hp:Hp}(h:Ext τ F s hp τ' F' s' hp'):∀b i o,s.nx<=b->τ' b=some (some (i,o))->hp.nx<=i\/ ∃b0 x o0,s.get b0=some x/\τ b0=some (some (i,o0)):=by obtain⟨l,_,_,h1,_⟩:=h.hh;grind
variable {x:B4}
def SD.bound {τ:Tau}{F:Ac}{s:SS}{hp:Hp}(h:SD P U τ F s hp)(hb:s.get b=some x):b<s.nx:=by
 have:τ b≠none:=by rcases h.live b x hb with⟨i,o,y,h1,_⟩| ⟨h1,_⟩<;>rw[h1]<;>simp
 exact Nat.lt_of_not_le fun f=>this (h.new b f)
def Ext.refl {τ:Tau}{F:Ac}{s:SS}{hp:Hp}(h:SD P U τ F s hp):Ext τ F s hp τ F s hp:=
 ⟨VY τ,Vu F,TK _,TK _,fun _ _=>rfl,fun b x hb _=>⟨x,hb⟩,⟨[],rfl,fun _ _ _=>rfl,fun b i o hb ht=>(by rw[h.new b hb]at ht;cases ht),fun _ _ _ h=>.inl h,fun _ _ _ h=>h⟩,⟨[],rfl⟩,⟨[],rfl,fun _ _ _ _ _ _ cs _ _ _ _ hg _=>⟨cs,hg,fun _ _=>rfl⟩⟩⟩
variable {F2:Ac}
theorem Ext.trans {τ τ1 τ2:Tau}{F F1:Ac}{s s1 s2:SS}{hp hp1 hp2:Hp}(h:Ext τ F s hp τ1 F1 s1 hp1)(k:Ext τ1 F1 s1 hp1 τ2 F2 s2 hp2):Ext τ F s hp τ2 F2 s2 hp2:=by
 obtain⟨B,D,a2,a3,E,G⟩:=h.hh;obtain⟨C,H,I,J,K,b5⟩:=k.hh;refine⟨h.t.trans k.t,h.f.trans k.f,Us h.nx k.nx,Us h.snx k.snx,fun b hb=>?_,fun b x hb hlt=>?_,⟨C++B,by rw[H,D,Tz],fun i hi hn=>?_,fun b i o hb ht=>?_,fun i y hi hy=>?_,fun hp i y hy=>G (fun p h=>hp p (by grind)) i y (b5 (fun p h=>hp p (Va _ h)) i y hy)⟩,?_,?_⟩;rw[k.st b (Uo hb h.snx),h.st b hb];obtain⟨y,hy⟩:=k.low b x hb (Uo hlt h.snx);exact h.low b y hy hlt;rw[I i (Uo hi h.nx) ?_,a2 i hi fun b x o hb ht hm=>hn b x o hb ht (by grind)];intro b x o hb ht hm;by_cases hlt:b<s.nx;obtain⟨y,hy⟩:=h.low b x hb hlt;rw[h.st b hlt]at ht;grind;grind
 ·have R:∀b i o,s.nx<=b->τ1 b=some (some (i,o))->hp.nx<=i\/ ∃b0 x o0,s.get b0=some x/\τ b0=some (some (i,o0))/\b0∈(C++B).map Prod.fst:=by grind
  by_cases hlt:b<s1.nx;rw[k.st b hlt]at ht;grind;rcases J b i o (UL hlt) ht with h1| ⟨b0,y,o0,h1,h2,h3⟩;exact .inl (Us h.nx h1);by_cases g:b0<s.nx;obtain⟨z,hz⟩:=h.low b0 y h1 g;rw[h.st b0 g]at h2;grind;grind
 rcases K i y (Uo hi h.nx) hy with h1| ⟨b,o,h1,h2⟩;rcases E i y hi h1 with h2| ⟨b,o,h2,h3⟩;grind;exact .inr ⟨b,o,k.t _ _ h2,by simp only[Ui,TY];exact .inr h3⟩;grind;obtain⟨l,e⟩:=h.hf;obtain⟨m,e'⟩:=k.hf;exact⟨m++l,by rw[e',e,Tz]⟩
 ·obtain⟨l,e1,w1⟩:=h.win;obtain⟨m,e2,w2⟩:=k.win;refine⟨m++l,by rw[e2,e1,Tz],fun b c e z i o cs n hb ht hi hg hl=>?_⟩;obtain⟨r,M,N⟩:=w1 b c e z i o cs n hb ht hi hg fun x hx=>hl x (by grind);obtain⟨L,q,A⟩:=RP hb ⟨c,rfl,rfl⟩ fun x hx=>hl x (UQ _ hx);rw[<-e1]at q;obtain⟨w,O,Q⟩:=w2 b L e z i o r n q (h.t _ _ ht) (Uo hi h.nx) M fun x hx=>let⟨c',S,T⟩:=hl x (Va _ hx);⟨c',S,T.trans A.symm⟩
  exact⟨w,O,fun j hj=>(Q j (by omega)).trans (N j hj)⟩
def SD.only {τ:Tau}{F:Ac}{s:SS}{hp:Hp}(h:SD P U τ F s hp)(f:aH s s')(hf:FT U s'.fc):SD P U τ F s' hp:=
 ⟨fun b x hb=>h.live b x (by rw[<-f.get];exact hb),fun b c x y i o j q hb hc=>h.inj b c x y i o j q (by rw[<-f.get];exact hb) (by rw[<-f.get];exact hc),
  h.frz,h.lt,h.flt,fun b hb=>h.new b (by rw[<-f.nx];exact hb),hf,fun r hr=>h.fz r (by rw[<-f.fz];exact hr)⟩
def Ext.only {τ:Tau}{F:Ac}{s:SS}{hp:Hp}(h:SD P U τ F s hp)(f:aH s s'):Ext τ F s hp τ F s' hp:=
 ⟨VY τ,Vu F,TK _,by rw[f.nx];exact TK _,fun _ _=>rfl,fun b x hb _=>⟨x,by rw[<-f.get];exact hb⟩,
  ⟨[],by rw[f.h];rfl,fun _ _ _=>rfl,fun b i o hb ht=>(by rw[h.new b hb]at ht;cases ht),fun _ _ _ h=>.inl h,fun _ _ _ h=>h⟩,f.fc,⟨[],by rw[f.h];rfl,fun _ _ _ _ _ _ cs _ _ _ _ hg _=>⟨cs,hg,fun _ _=>rfl⟩⟩⟩
def Vt:type_of% @Ext.only:=@Ext.only
variable (P U) in
def OKh {α:Type}(m:M α)(τ:Tau)(F:Ac)(s:SS)(hp:Hp)(R:α->Tau->(Ac)->Hp->Prop):Prop:=
 ∀Q,(m s).vc U Q->SD P U τ F s hp-> ∃a s',Q (a,s')/\ ∃τ' F' hp',Ext τ F s hp τ' F' s' hp'/\SD P U τ' F' s' hp'/\R a τ' F' hp'
variable {τ :Tau}{F:Ac}{s:SS}{hp:Hp}
def OKh.ret {α:Type}{a:α}{R:α->Tau->(Ac)->Hp->Prop}(h:R a τ F hp):OKh P U (i3 a) τ F s hp R:=fun _ hq hs=>⟨a,s,hq,τ,F,hp,Ext.refl hs,hs,h⟩
def VC:type_of% @OKh.ret:=@OKh.ret
def OKh.fail {α:Type}{t:String}{R:α->Tau->(Ac)->Hp->Prop}:OKh P U (a8 t:M α) τ F s hp R:=fun _ hq _=>hq.elim
def VA:type_of% @OKh.fail:=@OKh.fail
def OKp.up {α:Type}{m:M α}{R:α->Prop}(h:OKp U m s R):OKh P U m τ F s hp fun a τ' F' hp'=>τ'=τ/\F'=F/\hp'=hp/\R a:=by intro Q hq hs;obtain⟨a,s',h1,h2,h3,h4⟩:=h Q hq hs.fc;exact⟨a,s',h1,τ,F,hp,Vt hs h2,hs.only h2 h3,rfl,rfl,rfl,h4⟩
def OKh.mono {α:Type}{m:M α}{R g:α->Tau->(Ac)->Hp->Prop}(h:OKh P U m τ F s hp R)(hr:∀a τ' F' hp',Tle τ τ'->Fle F F'->R a τ' F' hp'->g a τ' F' hp'):OKh P U m τ F s hp g:=by intro Q hq hs;obtain⟨a,s',h1,τ',F',hp',h2,h3,h4⟩:=h Q hq hs;exact⟨a,s',h1,τ',F',hp',h2,h3,hr _ _ _ _ h2.t h2.f h4⟩
def OKh.bind {α g:Type}{m:M α}{k:α->M g}{R:α->Tau->(Ac)->Hp->Prop}{f:g->Tau->(Ac)->Hp->Prop}(h:OKh P U m τ F s hp R)(hk:∀a τ' F' s' hp',Ext τ F s hp τ' F' s' hp'->SD P U τ' F' s' hp'->R a τ' F' hp'->OKh P U (k a) τ' F' s' hp' f):OKh P U (b9 m k) τ F s hp f:=by intro Q hq hs;unfold b9 at hq;rw[VZ]at hq;obtain⟨a,s1,h1,τ1,F1,hp1,h2,h3,h4⟩:=h _ hq hs;obtain⟨b,s2,h5,τ2,F2,hp2,j,p,q⟩:=hk a τ1 F1 s1 hp1 h2 h3 h4 Q h1 h3;exact⟨b,s2,h5,τ2,F2,hp2,Ext.trans h2 j,p,q⟩
def OKh.read {α:Type}{k:SS->M α}{R:α->Tau->(Ac)->Hp->Prop}(h:OKh P U (k s) τ F s hp R):OKh P U (p9 k) τ F s hp R:=h
def VB:type_of% @OKh.read:=@OKh.read
def OKh.bindp {α g:Type}{m:M α}{k:α->M g}{R:α->Prop}{f:g->Tau->(Ac)->Hp->Prop}(h:OKp U m s R)(hk:∀a s',aH s s'->SD P U τ F s' hp->R a->OKh P U (k a) τ F s' hp f):OKh P U (b9 m k) τ F s hp f:=by intro Q hq hs;unfold b9 at hq;rw[VZ]at hq;obtain⟨a,s1,h1,h2,h3,h4⟩:=h _ hq hs.fc;have hs1:=hs.only h2 h3;obtain⟨b,s2,h5,τ2,F2,hp2,j,p,q⟩:=hk a s1 h2 hs1 h4 Q h1 hs1;exact⟨b,s2,h5,τ2,F2,hp2,Ext.trans (Vt hs h2) j,p,q⟩
def Vy:type_of% @OKh.bindp:=@OKh.bindp
theorem OKh.bindE {α g:Type}{m:M α}{k:α->M g}{R:α->Tau->(Ac)->Hp->Prop}{f:g->Tau->(Ac)->Hp->Prop}(h:OKh P U m τ F s hp R)(hk:∀a τ1 F1 s1 hp1,Ext τ F s hp τ1 F1 s1 hp1->SD P U τ1 F1 s1 hp1->R a τ1 F1 hp1-> ∀Q,(k a s1).vc U Q-> ∃b s2,Q (b,s2)/\ ∃τ2 F2 hp2,Ext τ F s hp τ2 F2 s2 hp2/\SD P U τ2 F2 s2 hp2/\f b τ2 F2 hp2):OKh P U (b9 m k) τ F s hp f:=by intro Q hq hs;unfold b9 at hq;rw[VZ]at hq;obtain⟨a,s1,h1,τ1,F1,hp1,h2,h3,h4⟩:=h _ hq hs;grind
theorem Ext.shrink {τ:Tau}{F:Ac}{s:SS}{hp hp2:Hp}(h:Ext τ F s hp τ' F' s' hp')(hn:hp'.nx<=hp2.nx)(hm:∀i,i<hp.nx->hp2.m.get i=hp'.m.get i)(hF:∀i y,F2 i=some y->F' i=some y)(hf:Fle F F2):Ext τ F s hp τ' F2 s' hp2:=by
 obtain⟨l,f,a2,a3,g,j⟩:=h.hh;exact⟨h.t,hf,Us h.nx hn,h.snx,h.st,h.low,(by grind),h.hf,
  let⟨l,e1,w1⟩:=h.win;⟨l,e1,fun b c e z i o cs n hb ht hi hg hl=>by grind⟩⟩
variable {y:Blk}
theorem Ext.dfr {τ:Tau}{F:Ac}{s:SS}{hp:Hp}(h:Ext τ F s hp τ' F' s' hp')(hs:SD P U τ F s hp){r:Nat}(hr:r<hp.nx)(hg:hp.m.get r=some y)(hy:y= .dfr\/F r=some y):hp'.m.get r=some y:=by
 rw[h.kept r hr fun b x o hb ht=>?_,hg];rcases hs.live b x hb with⟨i,o',f,h1,h2,h3,h4⟩| ⟨h1,_⟩
 ·rw[ht]at h1;cases h1;rw[hg]at h2;cases h2;rcases hy with rfl|hy
  ·cases x with
   |cells l e z=>obtain⟨cs,n,h,_⟩:=h4;cases h
   |rows L e z ph=>obtain⟨cs,n,h,_⟩:=h4;cases h
   |map L kt vt=>obtain⟨_,es,reg,h,_⟩:=h4;cases h
   |iter s p=>obtain⟨_,n,h,_⟩:=h4;cases h
   |reg r L z=>obtain⟨_,_,cs,h,_⟩:=h4;cases h
  grind
 grind
def put (τ:Tau)(b:Nat)(p:Bb (Nat×Nat)):Tau:=fun c=>if c=b then some p else τ c
def t6 (τ:Tau)(b:Nat)(p:Bb (Nat×Nat)):put τ b p b=some p:=by simp[put]
def B8 (τ:Tau){c:Nat}(p:Bb (Nat×Nat))(h:c≠b):put τ b p c=τ c:=by simp[put,h]
theorem cJ {τ:Tau}(p:Bb (Nat×Nat))(h:τ b=none):Tle τ (put τ b p):=fun c q hc=>by by_cases e:c=b;grind;rw[B8 τ p e];exact hc
variable {o:Nat}
def BD.mono {τ:Tau}{F:Ac}(ht:Tle τ τ')(hf:Fle F F')(h:BD P U τ F o x y):BD P U τ' F' o x y:=by
 cases x with
 |cells l e z=>obtain⟨cs,n,h1,h2,h3⟩:=h;exact⟨cs,n,h1,h2,fun j a m=>let⟨x,k1,k2⟩:=h3 j a m;⟨x,k1,k2.mono ht hf⟩⟩
 |rows L e z ph=>obtain⟨cs,n,h1,⟨h2,h3,h4,h5⟩,g⟩:=h;exact⟨cs,n,h1,⟨h2,h3,h4,fun r k row d hr hk=>let⟨x,k1,k2⟩:=h5 r k row d hr hk;⟨x,k1,fun kd f=>(k2 kd f).mono P hf⟩⟩,g⟩
 |map L kt vt=>obtain⟨h0,es,reg,h1,hr,h2,h3⟩:=h;exact⟨h0,es,reg,h1,hr,h2,fun j row e hr he=>let⟨w,ks,d,k1,k2,k3,k4,q⟩:=h3 j row e hr he;⟨w,ks,d,k1,k2,k3,k4,q.mono P hf⟩⟩
 |iter s p=>exact h|reg r L z=>obtain⟨h0,g,cs,h1,h2,h3,h4,h5⟩:=h;exact⟨h0,ht _ _ g,cs,h1,h2,h3,h4,fun r k row d hr hk=>let⟨x,k1,k2⟩:=h5 r k row d hr hk;⟨x,k1,fun kd f=>(k2 kd f).mono P hf⟩⟩
def Jj.mono {τ:Tau}{F:Ac}(ht:Tle τ τ')(hf:Fle F F'){r:Nat×E×Ax×Nat}(h:Jj P U τ F r):Jj P U τ' F' r:=by rcases h with⟨i,o,cs,n,h1,h2,h3,h4,h5,g⟩| ⟨h1,h2⟩;exact .inl ⟨i,o,cs,n,ht _ _ h1,hf _ _ h2,h3,h4,h5,fun r k row d hr hk=>let⟨x,k1,k2⟩:=g r k row d hr hk;⟨x,k1,fun kd f=>(k2 kd f).mono P hf⟩⟩;exact .inr ⟨ht _ _ h1,h2⟩
def OK (hp:Hp)(y:Blk)(i:Nat)(h:i<hp.nx):(hp.m.set hp.nx (some y)).get i=hp.m.get i:=by rw[VX,TH (by omega)]
def gD (s:SS)(x:B4):SS:= {s with h:=(s.nx,some x)::s.h,nx:=s.nx+1}
def iG (s:SS)(x:B4)(b:Nat):(gD s x).get b=if b=s.nx then some x else s.get b:=by have:=VN s s.nx b (some x);exact this
def cM (x:B4):M Nat:=fun s=>.ret (s.nx,gD s x)
theorem SD.alloc (hs:SD P U τ F s hp){p:Bb (Nat×Nat)}(hn:hp.nx<=hp'.nx)(hk:∀i,i<hp.nx->hp'.m.get i=hp.m.get i)(hx:(∃i o y,p=some (i,o)/\hp.nx<=i/\i<hp'.nx/\hp'.m.get i=some y/\BD P U (put τ s.nx p) F o x y)\/(p=none/\ ∃L e z ph,x= .rows L e z ph/\L.toR U=[]/\z=(kf P e).length/\ph.toI U<=0)):Ext τ F s hp (put τ s.nx p) F (gD s x) hp'/\SD P U (put τ s.nx p) F (gD s x) hp':=by
 have h0:=hs.new _ (TK _);have ht:=cJ p h0;refine⟨⟨ht,Vu F,hn,by simp[gD],fun b hb=>B8 τ p (by omega),fun b y hb hlt=>?_,⟨[(s.nx,some x)],rfl,fun i hi _=>hk i hi,fun b i o hb f=>?_,fun _ _ _ h=>.inl h,fun _ _ _ h=>h⟩,⟨[],rfl⟩,⟨[(s.nx,some x)],rfl,fun _ _ _ _ i _ cs _ _ _ hi hg _=>(by grind)⟩⟩,?_⟩;rw[iG,TH (by omega)]at hb;exact⟨y,hb⟩;by_cases e:b=s.nx;subst e;rw[t6]at f;grind;rw[B8 τ p e,hs.new b hb]at f;cases f
 ·have old:∀b y,b≠s.nx->(gD s x).get b=some y->s.get b=some y:=fun b y e hb=>by rw[iG,TH e]at hb;exact hb
  refine⟨fun b y hb=>?_,fun b c y z i o j q hb hc w e1 e2=>?_,fun i y hi=>by rw[hk i (hs.flt i y hi)];exact hs.frz i y hi,fun b i o hb=>?_,fun i y hi=>Uo (hs.flt i y hi) hn,fun b hb=>?_,hs.fc,fun r hr=>(hs.fz r hr).mono ht (Vu F)⟩
  ·by_cases e:b=s.nx
   ·subst e;rw[iG,TJ rfl,Tk]at hb;subst hb;rcases hx with⟨i,o,y,rfl,h1,h2,h3,h4⟩| ⟨rfl,h⟩
    ·refine .inl ⟨i,o,y,t6 _ _ _,h3,?_,h4⟩;cases hF:F i with
     |none=>rfl|some b=>exact absurd (hs.flt i b hF) (by omega)
    exact .inr ⟨t6 _ _ _,h⟩
   rcases hs.live b y (old b y e hb)with⟨i,o,B,h1,h2,h3,h4⟩| ⟨h1,h2⟩;exact .inl ⟨i,o,B,by rw[B8 τ p e];exact h1,by rw[hk i (hs.lt b i o h1)];exact h2,h3,h4.mono ht (Vu F)⟩;exact .inr ⟨by rw[B8 τ p e];exact h1,h2⟩
  ·have new:∀c i o,c=s.nx->put τ s.nx p c=some (some (i,o))->hp.nx<=i:=by intro c i o hc h;subst hc;rw[t6]at h;grind
   by_cases A:b=s.nx;have h1:=new b i o A e1;have g:c≠s.nx:=fun h=>w (by omega);rw[B8 τ p g]at e2;have:=hs.lt c j q e2;omega;rw[B8 τ p A]at e1;by_cases g:c=s.nx;have h1:=new c j q g e2;have:=hs.lt b i o e1;omega;rw[B8 τ p g]at e2;exact hs.inj b c y z i o j q (old b y A hb) (old c z g hc) w e1 e2
  by_cases e:b=s.nx;subst e;rw[t6]at hb;grind;rw[B8 τ p e]at hb;exact Uo (hs.lt b i o hb) hn;have:s.nx+1<=b:=hb;rw[B8 τ p (by omega)];exact hs.new b (by omega)
variable {i:Nat}
theorem SD.change (hs:SD P U τ F s hp){x':B4}(hb:s.get b=some x)(ht:τ b=some (some (i,o)))(hn:hp'.nx=hp.nx)(hk:∀j,j≠i->hp'.m.get j=hp.m.get j)(hi:hp'.m.get i=some y)(D:BD P U τ F o x' y)(E:∀c e z c',x= .cells c e z->x'= .cells c' e z->c'.length=c.length-> ∀cs n,hp.m.get i=some (.cells cs n e z)-> ∃cs',y= .cells cs' n e z/\ ∀j,j<o\/o+c.length<=j->cs'.get j=cs.get j:=by intro _ _ _ _ h h';first| (cases h;done)| (cases h';done)):Ext τ F s hp τ F (s.set b (some x')) hp'/\SD P U τ F (s.set b (some x')) hp':=by
 refine⟨⟨VY τ,Vu F,by omega,TK _,fun _ _=>rfl,fun c y hc _=>?_,⟨[(b,some x')],rfl,fun j hj A=>hk j (by grind),fun c j q hc h=>(by rw[hs.new c hc]at h;cases h),fun _ _ _ h=>.inl h,fun _ _ _ h=>h⟩,⟨[],rfl⟩,⟨[(b,some x')],rfl,fun d c e z j q cs n f hq hj hg hl=>?_⟩⟩,?_⟩;rw[VN]at hc;grind;by_cases h:d=b;grind;exact⟨cs,by rw[hk j (hs.inj d b _ x j q i o f hb h hq ht)];exact hg,fun _ _=>rfl⟩
 ·have C:F i=none:=by rcases hs.live b x hb with⟨G,o',g,h1,_,h3,_⟩| ⟨h1,_⟩;grind;grind
  have liv:∀c,(∃y,(s.set b (some x')).get c=some y)-> ∃y,s.get c=some y:=by rintro c ⟨y,hc⟩;rw[VN]at hc;grind
  refine⟨fun c z hc=>?_,fun c d y z j q k r hc f p e1 e2=>?_,fun j y hj=>?_,fun c j q h=>by rw[hn];exact hs.lt c j q h,fun j y h=>by rw[hn];exact hs.flt j y h,hs.new,hs.fc,hs.fz⟩;rw[VN]at hc;by_cases e:c=b;grind;rw[TH e]at hc;rcases hs.live c z hc with⟨j,q,g,h1,h2,h3,h4⟩|h;refine .inl ⟨j,q,g,h1,?_,h3,h4⟩;rw[hk j ?_];exact h2;intro w;subst w;exact hs.inj c b z x j q j o hc hb e h1 ht rfl;grind;obtain⟨g,hy⟩:=liv c ⟨y,hc⟩;obtain⟨B,hz⟩:=liv d ⟨z,f⟩;exact hs.inj c d g B j q k r hy hz p e1 e2;rw[hk j (by grind)];exact hs.frz j y hj
theorem SD.move (hs:SD P U τ F s hp){x':B4}(hb:s.get b=some x)(ht:τ b=some (some (i,o)))(hn:hp.nx<=hp'.nx)(hk:∀j,j<hp.nx->j≠i->hp'.m.get j=hp.m.get j){j q:Nat}(hj:j=i\/hp.nx<=j)(D:j<hp'.nx)(hi:hp'.m.get j=some y)(M:BD P U (put τ s.nx (some (j,q))) F q x' y):Ext τ F s hp (put τ s.nx (some (j,q))) F (gD (s.set b none) x') hp'/\SD P U (put τ s.nx (some (j,q))) F (gD (s.set b none) x') hp':=by
 have h0:=hs.new _ (TK _);have A:=cJ (some (j,q)) h0;have Q:F i=none:=by rcases hs.live b x hb with⟨R,o',I,h1,_,h3,_⟩| ⟨h1,_⟩;grind;grind
 have K:F j=none:=by
  rcases hj with rfl|hj;grind
  ·cases hF:F j with
   |none=>rfl|some w=>exact absurd (hs.flt j w hF) (by omega)
 have L:∀c,(gD (s.set b none) x').get c=if c=s.nx then some x' else if c=b then none else s.get c:=by intro c;rw[iG,VN];rfl
 refine⟨⟨A,Vu F,hn,by simp[gD,SS.set],fun c hc=>B8 τ _ (by omega),fun c y hc hlt=>?_,⟨[(s.nx,some x'),(b,none)],rfl,fun k g N=>hk k g (by grind),fun c k r hc h=>?_,fun _ _ _ h=>.inl h,fun _ _ _ h=>h⟩,⟨[],rfl⟩,⟨[(s.nx,some x'),(b,none)],rfl,fun d c e z j' q' cs n p hq D hg hl=>?_⟩⟩,?_⟩;grind
 rotate_left
 by_cases h:d=b;grind;exact⟨cs,by rw[hk j' D (hs.inj d b _ x j' q' i o p hb h hq ht)];exact hg,fun _ _=>rfl⟩
 rotate_left
 by_cases e:c=s.nx;subst e;rw[t6]at h;grind;rw[B8 τ _ e,hs.new c hc]at h;cases h
 ·have inv:∀c z,(gD (s.set b none) x').get c=some z->c≠s.nx->c≠b/\s.get c=some z:=by grind
  have apart:∀c z k r,c≠b->s.get c=some z->τ c=some (some (k,r))->k≠j:=by intro c z k r e hc h H;subst H;rcases hj with rfl|hj;exact hs.inj c b z x _ r _ o hc hb e h ht rfl;have:=hs.lt c _ r h;omega
  refine⟨fun c z hc=>?_,fun c d y z k r k' O hc p E e1 e2=>?_,fun k y g=>?_,fun c k r h=>?_,fun k y h=>Uo (hs.flt k y h) hn,fun c hc=>?_,hs.fc,fun r hr=>(hs.fz r hr).mono A (Vu F)⟩;by_cases e:c=s.nx;subst e;rw[L,TJ rfl,Tk]at hc;subst hc;exact .inl ⟨j,q,y,t6 _ _ _,hi,K,M⟩;obtain⟨e',f⟩:=inv c z hc e;rcases hs.live c z f with⟨k,r,I,h1,h2,h3,h4⟩| ⟨h1,h2⟩;refine .inl ⟨k,r,I,by rw[B8 τ _ e];exact h1,?_,h3,h4.mono A (Vu F)⟩;rw[hk k (hs.lt c k r h1) ?_];exact h2;intro H;subst H;exact hs.inj c b z x _ r _ o f hb e' h1 ht rfl;exact .inr ⟨by rw[B8 τ _ e];exact h1,h2⟩;by_cases G:c=s.nx;subst G;have B:d≠s.nx:=fun h=>E h.symm;rw[t6]at e1;rw[B8 τ _ B]at e2;grind;obtain⟨e',f⟩:=inv c y hc G;rw[B8 τ _ G]at e1;by_cases B:d=s.nx;subst B;rw[t6]at e2;grind;obtain⟨J,C⟩:=inv d z p B;rw[B8 τ _ B]at e2;exact hs.inj c d y z k r k' O f C E e1 e2;rw[hk k (hs.flt k y g) (by grind)];exact hs.frz k y g;by_cases e:c=s.nx;subst e;rw[t6]at h;grind;rw[B8 τ _ e]at h;exact Uo (hs.lt c k r h) hn;have:s.nx+1<=c:=hc;rw[B8 τ _ (by omega)];exact hs.new c (by omega)
theorem SD.freeze (hs:SD P U τ F s hp)(hb:s.get b=some x)(ht:τ b=some (some (i,o)))(hi:hp.m.get i=some y):∃F',Fle F F'/\F' i=some y/\Ext τ F s hp τ F' (s.set b none) hp/\SD P U τ F' (s.set b none) hp:=by
 have D:F i=none:=by rcases hs.live b x hb with⟨E,o',A,h1,_,h3,_⟩| ⟨h1,_⟩;grind;grind
 have hF:Fle F (fun j=>if j=i then some y else F j):=fun j w hj=>by grind
 have inv:∀c z,(s.set b none).get c=some z->c≠b/\s.get c=some z:=by intro c z hc;rw[VN]at hc;grind
 refine⟨fun j=>if j=i then some y else F j,hF,by simp,⟨VY τ,hF,TK _,TK _,fun _ _=>rfl,fun c z hc _=>⟨z,(inv c z hc).2⟩,⟨[(b,none)],rfl,fun _ _ _=>rfl,fun c j q hc h=>(by rw[hs.new c hc]at h;cases h),fun j w _ hj=>?_,fun hp=>absurd rfl (hp (b,none) (by simp))⟩,⟨[],rfl⟩,⟨[(b,none)],rfl,fun _ _ _ _ _ _ cs _ _ _ _ hg _=>⟨cs,hg,fun _ _=>rfl⟩⟩⟩,?_⟩;grind;refine⟨fun c z hc=>?_,fun c d y z k r k' C hc g p e1 e2=>hs.inj c d y z k r k' C (inv c y hc).2 (inv d z g).2 p e1 e2,fun j w hj=>?_,hs.lt,fun j w hj=>?_,hs.new,hs.fc,fun r hr=>(hs.fz r hr).mono (VY τ) hF⟩
 ·obtain⟨e,f⟩:=inv c z hc;rcases hs.live c z f with⟨k,r,A,h1,h2,h3,h4⟩|h
  ·refine .inl ⟨k,r,A,h1,h2,?_,h4.mono (VY τ) hF⟩;have:k≠i:=fun B=>by subst B;exact hs.inj c b z x _ r _ o f hb e h1 ht rfl
   grind
  grind
 by_cases e:j=i;grind;rw[TH e]at hj;exact hs.frz j w hj;by_cases e:j=i;subst e;exact hs.lt b _ o ht;rw[TH e]at hj;exact hs.flt j w hj
theorem SD.drop (hs:SD P U τ F s hp)(b:Nat):Ext τ F s hp τ F (s.set b none) hp/\SD P U τ F (s.set b none) hp:=by
 have inv:∀c z,(s.set b none).get c=some z->c≠b/\s.get c=some z:=by intro c z hc;rw[VN]at hc;grind
 exact⟨⟨VY τ,Vu F,TK _,TK _,fun _ _=>rfl,fun c z hc _=>⟨z,(inv c z hc).2⟩,⟨[(b,none)],rfl,fun _ _ _=>rfl,fun c j q hc h=>(by rw[hs.new c hc]at h;cases h),fun _ _ _ h=>.inl h,fun _ _ _ h=>h⟩,⟨[],rfl⟩,⟨[(b,none)],rfl,fun _ _ _ _ _ _ cs _ _ _ _ hg _=>⟨cs,hg,fun _ _=>rfl⟩⟩⟩,
  fun c z hc=>hs.live c z (inv c z hc).2,fun c d y z k r k' m hc f g e1 e2=>hs.inj c d y z k r k' m (inv c y hc).2 (inv d z f).2 g e1 e2,hs.frz,hs.lt,hs.flt,hs.new,hs.fc,hs.fz⟩
end
def isI :E->Bool
 | .int _=>true| .dat _ (.int _)=>true| .op o _=>match o with
  | .add| .sub| .mul| .tdiv| .tmod| .wrap _| .bits _ _| .shl _| .shr _| .len| .slen| .sidx| .srune| .srw| .castI=>true
  |_=>false
 |_=>false
def isB :E->Bool
 | .bool _=>true| .dat _ (.bool _)=>true| .op .lt [_,_]| .op .eqi [_,_]| .op .eqb [_,_]| .op .eqs [_,_]| .op .lts [_,_]| .op .not [_]| .op .and [_,_]| .op .or [_,_]| .op .castB [_]=>true
 |_=>false
def isS :E->Bool
 | .str _=>true| .dat _ (.str _)=>true| .op .sapp [_,_]| .op .ssub [_,_,_]| .op .castS [_]=>true
 |_=>false
def isL :E->Bool
 | .dat _ (.lst _)=>true| .op .nil _| .op (.rows _ _) _| .op .app [_,_]| .op (.upd _) [_,_,_]| .op .part [_,_,_]| .op .over [_,_,_]| .op .rep (_::_)| .op .castL [_]=>true
 |_=>false
def MA (e:E):E:=bif isI e then e else .op .castI [e]
def mkCB (e:E):E:=bif isB e then e else .op .castB [e]
def mkCS (e:E):E:=bif isS e then e else .op .castS [e]
def jV (e:E):E:=bif isL e then e else .op .castL [e]
section
variable {U :Ab}
def Pf {e:E}(h:isI e=true):e.den U= .int (e.toI U):=by
 cases e with
 |int n=>rfl|dat n d=>cases d<;>first|rfl| (simp[isI]at h)
 |op o as=>
  cases o<;>first
   | (simp[isI]at h;done)
   | (simp only[E.toI,E.den,Sy.den];split<;>rfl)
 |_=>simp[isI]at h
def Pe {e:E}(h:isB e=true):e.den U= .bool (e.den U).toBool:=by unfold isB at h;split at h<;>first|rfl|cases h
def Ph {e:E}(h:isS e=true):e.den U= .str (e.den U).toStr:=by unfold isS at h;split at h<;>first|rfl|cases h
def Pg {e:E}(h:isL e=true):e.den U= .lst (e.toR U):=by unfold isL at h;split at h<;>first|rfl|cases h
def uG (e:E):(MA e).den U= .int (e.toI U):=by
 unfold MA;cases h:isI e with
 |true=>exact Pf h|false=>rfl
def Mz (e:E):(mkCB e).den U= .bool (e.den U).toBool:=by
 unfold mkCB;cases h:isB e with
 |true=>exact Pe h|false=>rfl
def MB (e:E):(mkCS e).den U= .str (e.den U).toStr:=by
 unfold mkCS;cases h:isS e with
 |true=>exact Ph h|false=>rfl
def nK (e:E):(jV e).den U= .lst (e.toR U):=by
 unfold jV;cases h:isL e with
 |true=>exact Pg h|false=>rfl
end
section
variable (P :Aw)(U:Ab)
def lX (t:Ax)(x:SV)(f:Nat):Bb SV:=
 match P.underlying t with
 |some (.struct fs)=>match fs.toList[f]? with
  |some fd=>match P.info? fd.type with
   |some i=>bif Nat.beq i.size 0 then none else
    match x with
    | .ptr b z row fld=>some (.ptr b z row (fld+fd.offset))| .pptr e L row fld=>some (.pptr e L row (fld+fd.offset))| .rp row fld=>some (.rp row (fld+fd.offset))|_=>none
   |none=>none
  |none=>none
 |_=>none
def lY (t:Ax)(x ix:SV):M SV:=
 match ix with
 | .int _ n=>match P.underlying t with
  |some (.slice e)=>match P.info? e with
   |some ie=>match x with
    | .sl b z off len _=>bif Nat.beq z ie.size then b9 (l8 U (y5 (y8 n (.int 0)))) fun _=>b9 (l8 U (y8 n len)) fun _=>i3 (.ptr b z (y4 off n) 0)else a8 "index: size"
    | .lst e' L _=>bif Nat.beq (kf P e').length ie.size then b9 (l8 U (y5 (y8 n (.int 0)))) fun _=>b9 (l8 U (y8 n (A7 L))) fun _=>i3 (.pptr e' L n 0)else a8 "index: size"
    |_=>a8 "index: no slice"
   |none=>a8 "index: type"
  |some (.array len e)=>match P.info? e with
   |some ie=>match x with
    | .ptr b z row fld=>match n with
     | .int m=>bif decide (0<=m)&&decide (m<len)then i3 (.ptr b z row (fld+m.toNat*ie.size))else a8 "index: array"|n=>match row with
      | .int r=>bif decide (0<=r)then b9 (l8 U (y5 (y8 n (.int 0)))) fun _=>b9 (l8 U (y8 n (.int len))) fun _=>i3 (.ptr b ie.size n (r.toNat*z+fld))else a8 "index: array"
      |_=>a8 "index: array"
    | .pptr e' L row fld=>match n with
     | .int m=>bif decide (0<=m)&&decide (m<len)then i3 (.pptr e' L row (fld+m.toNat*ie.size))else a8 "index: array"|_=>a8 "index: array"
    |_=>a8 "index: array"
   |none=>a8 "index: type"
  |_=>a8 "index: type"
 |_=>a8 "index: no int"
def ldk (t:Ax):Bb (Bool×Nat):=
 match P.underlying t with
 | some d => bif dY d then
   match P.info? t with
   |some ti=>some (true,ti.size)|none=>none
  else some (false,1)
 |none=>none
def FZ (ag:Bool)(l:As):Bb SV:=bif ag then some (.agg l)else l.head?
def HP (k:Kd)(c:E):Bb SV:=
 match k with
 | .int k=>some (.int k c)| .bool=>some (.bool c)| .str=>some (.str c)| .sl e=>some (.lst e c false)| .rp=>some (.rpq c)| .bad=>none
def gV (ks:List Kd)(L row:E):Nat->Nat->Bb (As)
 |_,0=>some []|j,n+1=>match ks[j]? with
  |some k=>match HP k (FJ j L row)with
   |some a=>match gV ks L row (j+1) n with
    |some l=>some (a::l)|none=>none
   |none=>none
  |none=>none
def Om (k:Kd)(a:SV):Bb E:=
 match k,a with
 | .int k,.int k' e=>bif decide (k=k')then some (MA e)else none| .bool,.bool e=>some (mkCB e)| .str,.str e=>some (mkCS e)| .sl _,.nils=>some (.op .nil [])| .sl e,.lst e' L _=>bif Nat.beq e e' then some (jV L)else none| .rp,.rpq e=>some (MA e)| .rp,.rp e 0=>some (MA e)| .rp,.nilp=>some (.int (-1))|_,_=>none
def KI (ks:List Kd):Nat->As->Bb (Au)
 |_,[]=>some []|j,a::l=>match ks[j % ks.length]? with
  |some k=>match Om k a with
   |some e=>match KI ks (j+1) l with
    |some es=>some (e::es)|none=>none
   |none=>none
  |none=>none
def uZ (e:Ax)(z:Nat)(l:As):Bb E:=
 bif Nat.ble 1 z&&Nat.beq z (kf P e).length&&Nat.beq (l.length/z*z) l.length then
  match KI (kf P e) 0 l with
  |some es=>some (.op (.rows (l.length/z) z) es)|none=>none
 else none
def O3 (ag:Bool)(n:Nat)(e:Ax)(L row:E)(fld:Nat):Bb SV:=
 match gV (kf P e) L row fld n with
 |some l=>FZ ag l|none=>none
def Dh (k:IntKind):As->Bb (Au)
 | []=>some []| .int k' e::l=>bif decide (k=k')then match Dh k l with
  |some es=>some (e::es)|none=>none else none
 |_=>none
def NM (l:As)(row:E):M SV:=match l with
 | .int k e::l'=>match Dh k (.int k e::l')with
  |some es=>b9 (l8 U (y8 row (.int es.length))) fun _=>i3 (.int k (FJ 0 (.op (.rows es.length 1) es) row))
  |none=>a8 "load: rows"
 |_=>a8 "load: rows"
def rgF :List (Nat×Bb B4)->Ai
 | []=>none| (b,some (.reg _ _ _))::_=>some b|_::l=>rgF l
def wW (s:SS):Bb (Nat×E×Nat):=match rgF s.h with
 |some b=>match s.get b with
  |some (.reg r L z)=>bif Nat.beq r b then some (b,L,z)else none|_=>none
 |none=>none
def rgB (s:SS):Ai:=(wW s).map fun r=>r.1
def IL (t:Ax)(a:SV):M SV:=
 match ldk P t with
 |none=>a8 "load: type"|some (ag,n)=>match a with
  | .ptr b z row fld=>p9 fun s=>match s.get b with
   |some (.cells l e _)=>match row with
    | .int r=>bif decide (0<=r)&&Nat.ble (r.toNat*z+fld+n) l.length then hH "load" (FZ ag ((l.drop (r.toNat*z+fld)).take n))else a8 "load: beyond"|row=>match uZ P e z l with
     |some L=>bif Nat.ble (fld+n) z then b9 (l8 U (y8 row (A7 L))) fun _=>hH "load" (O3 P ag n e L row fld)else a8 "load: beyond"
     |none=>bif !ag&&Nat.beq z 1&&Nat.beq n 1 then NM U (l.drop fld) row else a8 "load: rows"
   |some (.rows L e z' _)=>bif Nat.beq z z'&&Nat.ble (fld+n) z then b9 (l8 U (y8 row (A7 L))) fun _=>hH "load" (O3 P ag n e L row fld)else a8 "load: beyond"
   |some (.map _ _ _)=>a8 "load: no block"|some (.iter _ _)=>a8 "load: no block"|some (.reg _ _ _)=>a8 "load: no block"|none=>match lk s.fz b with
    |some (L,e,z')=>bif Nat.beq z z'&&Nat.ble (fld+n) z then b9 (l8 U (y8 row (A7 L))) fun _=>hH "load" (O3 P ag n e L row fld)else a8 "load: beyond"
    |none=>a8 "load: no block"
  | .rp row fld=>p9 fun s=>match wW s with
   |some (_,L,z)=>bif Nat.ble (fld+n) z then b9 (l8 U (y8 row (A7 L))) fun _=>hH "load" (O3 P ag n rgT L row fld)else a8 "load: beyond"
   |none=>a8 "load: no region"
  | .pptr e L row fld=>bif Nat.ble (fld+n) (kf P e).length then hH "load" (O3 P ag n e L row fld)else a8 "load: beyond"|_=>a8 "load: no address"
end
section
variable {P :Aw}{U:Ab}{τ:Tau}{F:Ac}{s:SS}{hp:Hp}
variable {fld i o:Nat}
def VD.ptr' {b z a:Nat}{row:E}(h:τ b=some (some (i,o)))(h0:0<=row.toI U)(e:a=o+row.toN U*z+fld):VD P U τ F (.ptr b z row fld) (.pointer (some ⟨i,a,none⟩)):=by subst e;exact .ptr b z row fld i o h h0
def VD.pptr' {t:Ax}{L row:E}{l c a:Nat}(h:PV P F (.sl t) (.slice (some ⟨i,o,none⟩) l c) (.lst (L.toR U)))(h0:0<=row.toI U)(h1:row.toI U<(L.toR U).length)(e:a=o+row.toN U*(kf P t).length+fld):VD P U τ F (.pptr t L row fld) (.pointer (some ⟨i,a,none⟩)):=by subst e;exact .pptr t L row fld i o l c h h0 h1
variable {a:SV}{v:Av}
theorem wZ {t:Ax}{b:SV}{f:Nat}(p:VD P U τ F a v)(e:lX P t a f=some b):∃w,M6 P t v f=some w/\VD P U τ F b w:=by
 unfold lX at e;unfold M6;split at e
 ·rename_i r j;split at e
  ·rename_i m g;split at e
   ·rename_i i hi;cases hz:Nat.beq i.size 0 with
    |true=>grind|false=>
     simp only[hz,TF]at e;split at e
     ·rename_i b z row fld;simp only[Tk]at e;subst e;cases p with
      |ptr _ _ _ _ q o h h0=>exact⟨.pointer (some ⟨q,o+row.toN U*z+fld+m.offset,none⟩),by simp only[j,g,hi,hz,TF],VD.ptr' h h0 (by omega)⟩
     ·rename_i t L row fld;simp only[Tk]at e;subst e;cases p with
      |pptr _ _ _ _ q o l c h h0 h1=>exact⟨.pointer (some ⟨q,o+row.toN U*(kf P t).length+fld+m.offset,none⟩),by simp only[j,g,hi,hz,TF],VD.pptr' h h0 h1 (by omega)⟩
     ·rename_i row fld;simp only[Tk]at e;subst e;cases p with
      |rp _ _ h0=>exact⟨.pointer (some ⟨row.toN U,fld+m.offset,some 1⟩),by simp only[j,g,hi,hz,TF],.rp _ _ h0⟩
     cases e
   cases e
  cases e
 cases e
def C7 {a b:E}(h:(y8 a b).pr U):a.toI U<b.toI U:=by rw[Vq,G9,TI]at h;exact h
def A4 {a b:E}(h:(y5 (y8 a b)).pr U):b.toI U<=a.toI U:=by rw[Vq,G6,G9,Uh,Uj]at h;exact Int.not_lt.1 h
def bL {a b:E}(h:(F7 a b).pr U):a.toI U=b.toI U:=by rw[Vq,E7,TI]at h;exact h
def PV.len {t:Ax}{a:Aq}{l c:Nat}{d:Dat}(h:PV P F (.sl t) (.slice a l c) d):l=d.rows.length:=by cases h<;>rfl
theorem xA {t:Ax}{B:SV}{w:Av}(j:VD P U τ F a v)(hi:VD P U τ F B w):OKp U (lY P U t a B) s fun b=>∃u,C4 P t v w=some u/\VD P U τ F b u:=by
 unfold lY;split
 ·rename_i k n;cases hi;split
  ·rename_i e he;split
   ·rename_i ie f;split
    ·rename_i b z off len cap;cases hz:Nat.beq z ie.size with
     |false=>exact VE|true=>
      refine OKp.need.bind fun _ s1 _ _ h1=>OKp.need.bind fun _ s2 _ _ h2=>VJ ?_;have h1:=Z5 h1;have h2:=C7 h2;have q:z=ie.size:=Tp hz;cases j with
      |sl _ _ _ _ _ i o c h h0 p hc=>
       refine⟨.pointer (some ⟨i,o+off.toN U*z+n.toN U*ie.size,none⟩),?_,VD.ptr' h (by rw[j7];omega) ?_⟩;simp only[C4,he,f];grind
       ·have:(y4 off n).toN U=off.toN U+n.toN U:=by show((y4 off n).toI U).toNat=(off.toI U).toNat+(n.toI U).toNat;rw[j7];omega
        grind
      |sl0 _ _ _ _ _ h h0 p hc=>omega
    ·rename_i e' L clip;cases hz:Nat.beq (kf P e').length ie.size with
     |false=>exact VE|true=>
      refine OKp.need.bind fun _ s1 _ _ h1=>OKp.need.bind fun _ s2 _ _ h2=>VJ ?_;have h1:=Z5 h1;have h2:=C7 h2;rw[j2]at h2;have q:(kf P e').length=ie.size:=Tp hz;cases j with
      |lst _ _ _ _ h hc=>
       have hl:∃i o l c,v= .slice (some ⟨i,o,none⟩) l c:=by
        cases hv:L.toR U with
        |nil=>grind|cons r D=>
         rw[hv]at h;cases h with
         |sl _ i o c b cs n z rows x hF hb C hn A hr hx hp=>grind
       obtain⟨i,o,l,c,rfl⟩:=hl;have g:=h.len;refine⟨.pointer (some ⟨i,o+n.toN U*ie.size,none⟩),?_,VD.pptr' h h1 h2 (by grind)⟩;simp only[C4,he,f];rw[show(decide (0<=n.toI U)&&decide (n.toI U<(l:Int)))=true by
        simp only[Tl,TI];have:(l:Int)=((L.toR U).length:Int):=by rw[g];rfl
        omega]
       rfl
    exact VE
   exact VE
  ·rename_i len e he;split
   ·rename_i ie f;split
    ·rename_i b z row fld;cases j with
     |ptr _ _ _ _ i o h h0=>
      split
      ·rename_i m;cases hb:decide (0<=m)&&decide (m<(len:Int))with
       |false=>exact VE|true=>refine VJ ⟨.pointer (some ⟨i,o+row.toN U*z+fld+m.toNat*ie.size,none⟩),?_,VD.ptr' h h0 (by omega)⟩;simp only[C4,he,f];rw[show(decide (0<=(E.int m).toI U)&&decide ((E.int m).toI U<(len:Int)))=true from hb];rfl
      ·split
       ·rename_i r;cases hr:decide (0<=r)with
        |false=>exact VE|true=>refine OKp.need.bind fun _ s1 _ _ h1=>OKp.need.bind fun _ s2 _ _ h2=>VJ ?_;have h1:=Z5 h1;have h2:=C7 h2;simp only[B7]at h2;refine⟨.pointer (some ⟨i,o+r.toNat*z+fld+n.toN U*ie.size,none⟩),?_,VD.ptr' h h1 (by omega)⟩;simp only[C4,he,f];rw[show(decide (0<=n.toI U)&&decide (n.toI U<(len:Int)))=true by simp only[Tl,TI];omega];rfl
       exact VE
    ·rename_i e' L row fld;cases j with
     |pptr _ _ _ _ i o l c h h0 h1=>
      split
      ·rename_i m;cases hb:decide (0<=m)&&decide (m<(len:Int))with
       |false=>exact VE|true=>refine VJ ⟨.pointer (some ⟨i,o+row.toN U*(kf P e').length+fld+m.toNat*ie.size,none⟩),?_,VD.pptr' h h0 h1 (by omega)⟩;simp only[C4,he,f];rw[show(decide (0<=(E.int m).toI U)&&decide ((E.int m).toI U<(len:Int)))=true from hb];rfl
      exact VE
    exact VE
   exact VE
  exact VE
 exact VE
variable {ag:Bool}{k n:Nat}{y:Blk}{c:Ao}{vs:Af}
theorem Mt {t:Ax}(h:ldk P t=some (ag,n)){z:Nat}(hg:hp.m.get i=some y)(hr:rdC y=some (c,k,z))(hk:o+n<=k)(hl:j9 c o n=some vs):∃v,F8 P hp t (.pointer (some ⟨i,o,none⟩))=some v/\((ag=true/\v= .agg vs.toArray)\/(ag=false/\vs=[v])):=by
 unfold ldk at h;split at h
 ·rename_i d j;cases f:dY d with
  |true=>simp only[f,TE]at h;split at h;rename_i p g;obtain⟨rfl,rfl⟩:=h;refine⟨.agg vs.toArray,?_,.inl ⟨rfl,rfl⟩⟩;simp only[F8,hg,hr,j,f,TE,g,Ts hk,hl];cases h
  |false=>
   simp only[f,TF,Tk,Tm]at h;obtain⟨rfl,rfl⟩:=h;simp only[j9]at hl;cases hv:c.get o with
   |none=>grind|some v=>simp only[hv,Tk]at hl;refine⟨v,?_,.inr ⟨rfl,hl.symm⟩⟩;simp only[F8,hg,hr,j,f,TF,Ts hk,TE,hv]
 cases h
theorem B3 {c:Ao}{R:Nat->Av->Prop}:∀(n o j:Nat),(∀k,k<n-> ∃x,c.get (o+k)=some x/\R (j+k) x)-> ∃vs,j9 c o n=some vs/\vs.length=n/\ ∀k x,vs[k]? =some x->R (j+k) x
 |0,o,j,_=>⟨[],rfl,rfl,fun k x h=>by grind⟩
 |n+1,o,j,h=>by
  obtain⟨x,h1,h2⟩:=h 0 (by omega);obtain⟨vs,h3,h4,h5⟩:=B3 n (o+1) (j+1) fun k hk=>by
   obtain⟨x,k1,k2⟩:=h (k+1) (by omega)
   exact ⟨x, by rw [← k1]; congr 1; omega, by have : j + 1 + k = j + (k + 1) := by omega
                                              rw[this];exact k2⟩
  refine⟨x::vs,by simp only[j9];rw[show c.get o=some x from h1,h3],by grind,fun k y hy=>?_⟩;grind
theorem lI {t:Ax}(h:ldk P t=some (ag,n)){z:Nat}(hg:hp.m.get i=some y)(g:rdC y=some (c,k,z))(hk:o+n<=k){l:As}(hl:l.length=n)(hc:∀(j:Nat) a,l[j]? =some a-> ∃x,c.get (o+j)=some x/\VD P U τ F a x)(f:FZ ag l=some a):∃v,F8 P hp t (.pointer (some ⟨i,o,none⟩))=some v/\VD P U τ F a v:=by
 obtain⟨vs,h1,h2,h3⟩:=B3 (R:=fun j x=>∀a,l[j]? =some a->VD P U τ F a x) n o 0 fun j hj=>by
  have:l[j]? =some l[j]:=by grind
  obtain⟨x,k1,k2⟩:=hc j _ this;exact⟨x,k1,fun a f=>by grind⟩
 obtain⟨v,h4,h5⟩:=Mt h hg g hk h1;refine⟨v,h4,?_⟩;have hv:VDL P U τ F l vs:=⟨by omega,fun j a x hj hx=>h3 j x hx a (by grind)⟩
 rcases h5 with⟨rfl,rfl⟩| ⟨rfl,rfl⟩;simp only[FZ,TE,Tk]at f;subst f;exact hv.agg
 ·simp only[FZ,TF]at f;cases l with
  |nil=>grind|cons b l=>simp at f;subst f;exact hv.2 0 _ _ rfl rfl
def Dc {k:Kd}{e:E}{x:Av}(hp:PV P F k x (e.den U))(h:HP k e=some a):VD P U τ F a x:=by
 unfold HP at h;generalize f:e.den U=d at hp;cases hp<;>simp only[Tk]at h<;>subst h;exact Wb (by show(e.den U).toInt=_;rw[f];rfl);exact Wa (by rw[f];rfl);exact VD.str' (by rw[f];rfl)
 ·exact .lst _ e false _ (by have : e.toR U = [] := by { show (e.den U).rows = _; rw [ f]; rfl }
                             rw[this];exact .nils _) (fun h=>by cases h)
 exact .rpq e _ (by show PV P F .rp _ (.int (e.den U).toInt);rw[f];exact .rp _);exact .rpq e _ (by show PV P F .rp _ (.int (e.den U).toInt);rw[f];exact .rpn)
 ·exact .lst _ e false _ (by have : e.toR U = [] := by { show (e.den U).rows = _; rw [ f]; rfl }
                             rw[this];exact .vague _) (fun h=>by cases h)
 ·rename_i i o c b cs n z zb rows x hF hb hc hn hz hr hx g
  exact .lst _ e false _ (by have : e.toR U = rows := by { show (e.den U).rows = _; rw [ f]; rfl }
                             rw[this];exact .sl _ i o c b cs n z rows x hF hb hc hn hz hr hx g) (fun h=>by cases h)
theorem eE {ks:List Kd}{L row:E}:∀ {n j:Nat} {l:As},gV ks L row j n=some l->l.length=n/\ ∀(q:Nat) a,l[q]? =some a-> ∃k,ks[j+q]? =some k/\HP k (FJ (j+q) L row)=some a
 |0,j,l,h=>by simp only[gV,Tk]at h;subst h;exact⟨rfl,fun q a h=>by grind⟩|n+1,j,l,h=>by simp only[gV]at h;split at h;rename_i k hk;split at h;rename_i a g;split at h;rename_i l' f;obtain⟨h1,h2⟩:=eE f;grind;cases h;cases h;cases h
theorem sZ {rows:Rows}{r:Int}{row:Ar}{d:Dat}(h1:rows[r.toNat]? =some row)(h2:row[k]? =some d):D6 rows r k=d:=by unfold D6;grind
variable {e:Nat}{cs:Ao}
theorem eJ {t:Ax}(h:ldk P t=some (ag,n)){z D:Nat}(hg:hp.m.get i=some y)(w:rdC y=some (cs,k,D)){L row:E}(hr:A8 P F e z o k cs (L.toR U))(h0:0<=row.toI U)(h1:row.toI U<(L.toR U).length)(hf:fld+n<=z)(p:O3 P ag n e L row fld=some a):∃v,F8 P hp t (.pointer (some ⟨i,o+row.toN U*z+fld,none⟩))=some v/\VD P U τ F a v:=by
 unfold O3 at p;split at p
 ·rename_i l hl;obtain⟨q,r⟩:=eE hl;obtain⟨G,H,B,C⟩:=hr;have g:row.toN U<(L.toR U).length:=by grind
  have f:(L.toR U)[row.toN U]? =some (L.toR U)[row.toN U]:=by grind
  have A:=B _ (Vf g);refine lI h hg w ?_ q (fun j b hb=>?_) p
  ·have:row.toN U*z+z<=(L.toR U).length*z:=by rw[<-UB];exact Ty z g
   omega
  ·obtain⟨kd,h3,h4⟩:=r j b hb;have hj:j<n:=by grind
   have hk:(L.toR U)[row.toN U][fld+j]? =some ((L.toR U)[row.toN U][fld+j]'(by omega)):=by grind
   obtain⟨x,k1,k2⟩:=C _ _ _ _ f hk;refine⟨x,by rw[<-k1];congr 1;omega,Dc ?_ h4⟩;rw[tM,sZ f hk];simp_all
 cases p
theorem BY {k:Kd}(f:VD P U τ F a v){e:E}(h:Om k a=some e):PV P F k v (e.den U):=by
 unfold Om at h;split at h;rename_i k k' x;by_cases hk:k=k';subst hk;simp only[Ur,TE,Tk]at h;subst h;cases f;rw[uG];exact .int k _;grind;simp only[Tk]at h;subst h;cases f;rw[Mz];exact .bool _;simp only[Tk]at h;subst h;cases f;rw[MB];exact .str _;simp only[Tk]at h;subst h;cases f;exact .nils _
 ·rename_i e' g L c;cases hb:Nat.beq e' g with
  |false=>grind|true=>
   simp only[hb,TE,Tk]at h;subst h;have:=Tp hb;subst this;cases f with
   |lst _ _ _ _ h hc=>rw[nK];exact h
 simp only[Tk]at h;subst h;cases f;rename_i h;rw[uG];exact h
 ·rename_i x;simp only[Tk]at h;subst h;cases f with
  |rp _ _ h0=>rw[uG,show x.toI U=((x.toN U:Nat):Int) by show x.toI U=((x.toI U).toNat:Int);omega];exact .rp _
 simp only[Tk]at h;subst h;cases f;exact .rpn;cases h
theorem oX {z:Nat}:∀ {n:Nat} {l:Ar} {r:Nat} {row:Ar},(d8 z n l)[r]? =some row->row=(l.drop (r*z)).take z
 |0,l,r,row,h=>by simp[d8]at h|n+1,l,0,row,h=>by simp[d8]at h;simp[h]|n+1,l,r+1,row,h=>by simp only[d8,Tw]at h;rw[oX h,List.drop_drop];grind
theorem cK {z:Nat}{es:Au}{N:Nat}(hz:z=(kf P e).length)(q:es.length=N*z)(hn:o+es.length<=n)(hc:∀(j:Nat) d,es[j]? =some d-> ∃x,cs.get (o+j)=some x/\ ∀kd,(kf P e)[j % z]? =some kd->PV P F kd x (d.den U)):A8 P F e z o n cs ((E.op (.rows N z) es).toR U):=by
 have hL:(E.op (.rows N z) es).toR U=d8 z N (es.map (E.den U)):=by show(Dat.lst (d8 z N (E.dens U es))).rows=_;rw[E.dens_eq];rfl
 rw[hL];have g:∀r row,(d8 z N (es.map (E.den U)))[r]? =some row->r<N/\row.length=z:=by
  intro r row h;have h1:=(Tn.1 h).1;rw[M9]at h1;refine⟨h1,?_⟩;rw[oX h];simp;have:r*z+z<=N*z:=by rw[<-UB];exact Ty z h1
  omega
 refine⟨by rw[M9];omega,hz,fun row m=>?_,fun r k row d hr hk=>?_⟩;obtain⟨r,hr⟩:=Vk m;grind
 ·obtain⟨h1,h2⟩:=g r row hr;have f:k<z:=by grind
  rw[oX hr,TU,TJ f,Ua,Ul]at hk;cases he:es[r*z+k]? with
  |none=>grind|some x=>simp only[he,Ug,Tk]at hk;obtain⟨y,k1,k2⟩:=hc _ _ he;refine⟨y,by grind,fun kd p=>?_⟩;rw[<-hk];exact k2 kd (by rw[show(r*z+k) % z=k by rw[Nat.mul_comm,Nat.mul_add_mod];exact Ve f];exact p)
theorem vX {ks:List Kd}:∀ {l:As} {j:Nat} {es:Au},KI ks j l=some es->es.length=l.length/\ ∀(q:Nat) a e,l[q]? =some a->es[q]? =some e-> ∃k,ks[(j+q) % ks.length]? =some k/\Om k a=some e
 | [],j,es,h=>by simp only[KI,Tk]at h;subst h;exact(by grind)|a::l,j,es,h=>by simp only[KI]at h;split at h;rename_i k hk;split at h;rename_i e he;split at h;rename_i g f;obtain⟨h1,h2⟩:=vX f;grind;cases h;cases h;cases h
theorem pU {z:Nat}{l:As}{L:E}(h:uZ P e z l=some L)(hn:o+l.length<=n)(hc:∀(j:Nat) a,l[j]? =some a-> ∃x,cs.get (o+j)=some x/\VD P U τ F a x):A8 P F e z o n cs (L.toR U):=by
 unfold uZ at h;cases hb:Nat.ble 1 z&&Nat.beq z (kf P e).length&&Nat.beq (l.length/z*z) l.length with
 |false=>grind|true=>
  rw[hb,TE]at h;simp at hb;obtain⟨⟨h1,h2⟩,h3⟩:=hb;split at h
  ·rename_i es f;simp at h;subst h;obtain⟨h4,h5⟩:=vX f;refine cK h2 (by omega) (by omega) fun j d p=>?_;have hj:j<l.length:=by grind
   have m:l[j]? =some l[j]:=by grind
   obtain⟨x,k1,k2⟩:=hc j _ m;obtain⟨k,k3,k4⟩:=h5 j _ d m p;refine⟨x,k1,fun kd g=>?_⟩;rw[TT,<-h2,g,Tk]at k3;subst k3;exact BY k2 k4
  cases h
theorem yA {k:IntKind}:∀ {l:As} {es:Au},Dh k l=some es->es.length=l.length/\ ∀(j:Nat) e,es[j]? =some e->l[j]? =some (.int k e)
 | [],es,h=>by simp only[Dh,Tk]at h;subst h;exact(by grind)|a::l,es,h=>by
  unfold Dh at h;split at h;grind
  ·rename_i k' e l' f;cases f;cases hk:decide (k=k')with
   |false=>grind|true=>rw[hk,TE]at h;rw[TI]at hk;split at h;rename_i m g;obtain⟨h1,h2⟩:=yA g;grind;cases h
  cases h
def kJ :∀(ds:Ar) (n:Nat),(d8 1 ds.length ds)[n]? =(ds[n]?).map fun d=>[d]
 | [],n=>rfl|d::ds,0=>rfl|d::ds,n+1=>by simp[d8,kJ ds n]
theorem jD (hs:SD P U τ F s hp){b:Nat}{L:E}{z:Nat}(h:wW s=some (b,L,z)):s.get b=some (.reg b L z)/\τ b=some (some (0,0))/\F 0=none/\ ∃cs,hp.m.get 0=some (.reg cs (L.toR U).length rgT z)/\A8 P F rgT z 0 ((L.toR U).length*z) cs (L.toR U):=by
 unfold wW at h;split at h
 ·rename_i b' _;split at h
  ·rename_i r f p hg;cases hb:Nat.beq r b' with
   |false=>grind|true=>rw[hb,TE]at h;cases h;have:=Tp hb;subst this;rcases hs.live _ _ hg with⟨i,o,y,h1,h2,h3,h4,h5,cs,g,j⟩| ⟨_,_,_,_,_,h,_⟩;grind;cases h
  cases h
 cases h
theorem JA {t:Ax}(h:ldk P t=some (ag,n)){N z:Nat}(hg:hp.m.get 0=some (.reg c N e z))(hk:k<N)(q:o+n<=z)(hl:j9 c (k*z+o) n=some vs):∃v,F8 P hp t (.pointer (some ⟨k,o,some 1⟩))=some v/\((ag=true/\v= .agg vs.toArray)\/(ag=false/\vs=[v])):=by
 have f:Nat.ble (k+1) N=true:=Ts hk;unfold ldk at h;split at h
 ·rename_i d p;cases g:dY d with
  |true=>simp only[g,TE]at h;split at h;rename_i r j;cases h;refine⟨.agg vs.toArray,?_,.inl ⟨rfl,rfl⟩⟩;simp only[F8,qJ,hg,p,g,TE,j,f,Ts q,hl,UT];cases h
  |false=>
   simp only[g,TF,Tk,Tm]at h;obtain⟨rfl,rfl⟩:=h;simp only[j9]at hl;cases hv:c.get (k*z+o)with
   |none=>grind|some v=>simp only[hv,Tk]at hl;refine⟨v,?_,.inr ⟨rfl,hl.symm⟩⟩;simp only[F8,qJ,hg,p,g,TF,f,Ts q,TE,hv,UT]
 cases h
theorem FW {t:Ax}(h:ldk P t=some (ag,n)){z:Nat}{L row:E}(hg:hp.m.get 0=some (.reg cs (L.toR U).length rgT z))(hr:A8 P F rgT z 0 ((L.toR U).length*z) cs (L.toR U))(h0:0<=row.toI U)(h1:row.toI U<(L.toR U).length)(hf:fld+n<=z)(f:O3 P ag n rgT L row fld=some a):∃v,F8 P hp t (.pointer (some ⟨row.toN U,fld,some 1⟩))=some v/\VD P U τ F a v:=by
 unfold O3 at f;split at f
 ·rename_i l hl;obtain⟨q,r⟩:=eE hl;obtain⟨H,I,A,B⟩:=hr;have p:row.toN U<(L.toR U).length:=by grind
  have g:(L.toR U)[row.toN U]? =some (L.toR U)[row.toN U]:=by simp[p]
  have w:(L.toR U)[row.toN U].length=z:=A _ (Vf p);have hc:∀(j:Nat) b,l[j]? =some b-> ∃x,cs.get (row.toN U*z+fld+j)=some x/\VD P U τ F b x:=fun j b hb=>by
   obtain⟨kd,h3,h4⟩:=r j b hb;have hj:j<n:=by grind
   have hk:(L.toR U)[row.toN U][fld+j]? =some ((L.toR U)[row.toN U][fld+j]'(by omega)):=by grind
   obtain⟨x,k1,k2⟩:=B _ _ _ _ g hk;refine⟨x,by rw[<-k1];congr 1;omega,Dc ?_ h4⟩;rw[tM,sZ g hk];grind
  obtain⟨vs,C,D,G⟩:=B3 (c:=cs) (R:=fun j x=>∀a,l[j]? =some a->VD P U τ F a x) n (row.toN U*z+fld) 0 fun j hj=>by simp_all
  obtain⟨v,h4,h5⟩:=JA h hg p hf C;refine⟨v,h4,?_⟩;have hv:VDL P U τ F l vs:=⟨by rw[q,D],fun j a x hj hx=>G j x hx a (by rw[TT];exact hj)⟩
  rcases h5 with⟨rfl,rfl⟩| ⟨rfl,rfl⟩;simp only[FZ,TE,Tk]at f;subst f;exact hv.agg
  ·simp only[FZ,TF]at f;cases l with
   |nil=>simp at f|cons b l=>simp at f;subst f;exact hv.2 0 _ _ rfl rfl
 cases f
theorem Es {t:Ax}(g:VD P U τ F a v)(hs:SD P U τ F s hp):OKp U (IL P U t a) s fun b=>∃u,F8 P hp t v=some u/\VD P U τ F b u:=by
 unfold IL;split;exact VE
 ·rename_i ag n f;split
  ·rename_i b z row fld;refine VI ?_;split
   ·rename_i l e C hb;rcases hs.live b _ hb with⟨i,o,y,h1,h2,_,cs,k,rfl,h4,h5⟩| ⟨h1,N,e',M,ph,h2,_⟩
    ·cases g with
     |ptr _ _ _ _ B o' h h0=>
      rw[h1]at h;simp only[Tk,Tm]at h;obtain⟨rfl,rfl⟩:=h;split
      ·rename_i r;cases hq:decide (0<=r)&&Nat.ble (r.toNat*z+fld+n) l.length with
       |false=>exact VE|true=>simp only[TE];simp only[Tl,TI,Up]at hq;refine VH fun c hc=>?_;refine lI f h2 rfl (o:=o+(E.int r).toN U*z+fld) ?_ (l:=(l.drop (r.toNat*z+fld)).take n) ?_ (fun j b hb=>?_) hc;show o+r.toNat*z+fld+n<=k;omega;grind;rw[TU]at hb;split at hb;rw[Ua]at hb;obtain⟨x,k1,k2⟩:=h5 _ _ hb;exact⟨x,by rw[<-k1];congr 1;show o+r.toNat*z+fld+j=_;omega,k2⟩;cases hb
      ·split
       ·rename_i L hL;cases hq:Nat.ble (fld+n) z with
        |false=>exact VE|true=>simp only[TE];refine OKp.need.bind fun _ s1 _ _ hlt=>VH fun c hc=>?_;have hlt:=C7 hlt;rw[j2]at hlt;exact eJ f h2 rfl (pU hL h4 h5) h0 hlt (To hq) hc
       ·cases hq: !ag&&Nat.beq z 1&&Nat.beq n 1 with
        |false=>exact VE|true=>
         rw[TE];simp only[Tl,Ub,Uh]at hq;obtain⟨⟨rfl,rfl⟩,rfl⟩:=hq;unfold NM;split
         ·rename_i k0 e0 l' H;split
          ·rename_i es D;obtain⟨S,R⟩:=yA D;refine OKp.need.bind fun _ s1 _ _ hlt=>VJ ?_;have hlt:=C7 hlt;simp only[B7]at hlt;have hr:row.toN U<es.length:=by grind
           have q:=R (row.toN U) _ (Tx hr);rw[<-H,Ua]at q;obtain⟨x,k1,k2⟩:=h5 _ _ q;refine lI (l:=[.int k0 (FJ 0 (.op (.rows es.length 1) es) row)]) f h2 rfl (o:=o+row.toN U*1+fld) ?_ rfl (fun j a g=>?_) rfl;grind
           ·cases j with
            |succ j=>simp at g|zero=>
             simp only[TC,Tk]at g;subst g;refine⟨x,by rw[<-k1];congr 1;omega,?_⟩;cases k2;refine Wb ?_;show((FJ 0 (.op (.rows es.length 1) es) row).den U).toInt=_;rw[tM];show(D6 (d8 1 es.length (E.dens U es)) (row.toI U) 0).toInt=_;unfold D6;have I:es.length=(E.dens U es).length:=by rw[E.dens_eq,TG]
             rw[I,List.getD_eq_getElem?_getD (l:=d8 _ _ _),kJ,E.dens_eq,Ul,Tx hr];rfl
          exact VE
         exact VE
    cases h2
   ·rename_i L e C ph hb;cases hq:Nat.beq z C&&Nat.ble (fld+n) z with
    |false=>exact VE|true=>
     simp only[TE];simp only[Tl,Ub,Up]at hq;obtain⟨rfl,hq⟩:=hq;refine OKp.need.bind fun _ s1 _ _ hlt=>VH fun c hc=>?_;have hlt:=C7 hlt;rw[j2]at hlt;rcases hs.live b _ hb with⟨i,o,y,h1,h2,_,cs,k,rfl,h4,h5⟩| ⟨h1,N,e',M,Q,h2,h3,_⟩
     ·cases g with
      |ptr _ _ _ _ B o' h h0=>rw[h1]at h;simp only[Tk,Tm]at h;obtain⟨rfl,rfl⟩:=h;exact eJ f h2 rfl h4 h0 hlt hq hc
     ·cases g with
      |ptr _ _ _ _ B o' h h0=>grind
   exact VE;exact VE;exact VE
   ·split
    ·rename_i L e C hb;cases hq:Nat.beq z C&&Nat.ble (fld+n) z with
     |false=>exact VE|true=>
      simp only[TE];simp only[Tl,Ub,Up]at hq;obtain⟨rfl,hq⟩:=hq;refine OKp.need.bind fun _ s1 _ _ hlt=>VH fun c hc=>?_;have hlt:=C7 hlt;rw[j2]at hlt;rcases hs.fz _ (aM hb)with⟨i,o,cs,k,h1,h2,h4⟩| ⟨h1,h2⟩
      ·cases g with
       |ptr _ _ _ _ B o' h h0=>rw[h1]at h;simp only[Tk,Tm]at h;obtain⟨rfl,rfl⟩:=h;exact eJ f (hs.frz _ _ h2) rfl h4 h0 hlt hq hc
      ·cases g with
       |ptr _ _ _ _ B o' h h0=>grind
    exact VE
  ·rename_i row fld;refine VI ?_;split
   ·rename_i b L z hr;cases hq:Nat.ble (fld+n) z with
    |false=>exact VE|true=>
     rw[TE];refine OKp.need.bind fun _ s1 _ _ hlt=>VH fun c hc=>?_;have hlt:=C7 hlt;rw[j2]at hlt;obtain⟨_,_,_,cs,h2,h3⟩:=jD hs hr;cases g with
     |rp _ _ h0=>exact FW f h2 h3 h0 hlt (To hq) hc
   exact VE
  ·rename_i e L row fld;cases hq:Nat.ble (fld+n) (kf P e).length with
   |false=>exact VE|true=>
    simp only[TE];refine VH fun c hc=>?_;cases g with
    |pptr _ _ _ _ i o l c' h h0 h1=>
     generalize p:L.toR U=rows at h h1;cases h with
     |sl _ _ _ _ y cs k z rows x hF hb O hn hz hr hx J=>
      have hg:hp.m.get i=some y:=hs.frz _ _ hF;have K:A8 P F e z o k cs (L.toR U):=by rw[p];exact⟨hn,hz,hr,fun r k row d A w=>⟨x r k,hx r k row d A w,fun kd G=>J r k row kd d A w G⟩⟩
      rw[<-hz]at hq⊢;exact eJ f hg hb K h0 (by rw[p];exact h1) (To hq) hc
  exact VE
end
def mfz (b:Nat)(L:E)(e z:Nat):M Unit:=fun s=>.ret ((),{s with fz:=(b,L,e,z)::s.fz})
def jW (b:Nat)(x:Bb B4):M Unit:=fun s=>.ret ((),s.set b x)
def NY :Nat->As->As
 |0,_=>[]
 |n+1,zs=>zs++NY n zs
def wV :SV->Bool
 | .agg _| .tup _| .any=>false
 |_=>true
section
variable (P :Aw)(U:Ab)
def sbox (e:Ax)(l:As):M SV:=b9 (cM (.cells l e l.length)) fun b=>i3 (.ptr b l.length (.int 0) 0)
def iC (t:Ax)(len:Nat)(parts:List (Nat×SV)):M SV:=
 match P.underlying t with
 |some (.slice e)=>match P.info? e with
  |some ie=>match rJ P e with
   | some z => bif Nat.beq z.length ie.size && Nat.ble (len * ie.size) 16777216 && Nat.ble len 16777216 then
     match rG (fun i=>some (i*ie.size,ie.size)) (NY len z) parts with
     |some cs=>b9 (cM (.cells cs e ie.size)) fun b=>i3 (.sl b ie.size (.int 0) (.int len) (.ex (.int len)))
     |none=>a8 "buildSlice"
    else a8 "buildSlice"
   |none=>a8 "buildSlice: zero"
  |none=>a8 "buildSlice: type"
 |_=>a8 "buildSlice: type"
def GQ :E->Ai
 | .int k=>bif decide (0<=k)&&decide (k<=64)then some k.toNat else none|_=>none
theorem zG {U:Ab}{c:E}{n:Nat}(h:GQ c=some n):n=c.toN U:=by
 unfold GQ at h;split at h
 ·rename_i k;cases hk:decide (0<=k)&&decide (k<=64)with
  |false=>grind|true=>rw[hk,TE,Tk]at h;rw[<-h];rfl
 cases h
def lZ (t:Ax)(l c:SV):M SV:=
 match l,c with
 | .int _ ln,.int _ cn=>match P.underlying t with
  |some (.slice e)=>match P.info? e with
   |some ie=>match rJ P e with
    | some z => bif Nat.ble ie.bytes 1048576 && Nat.beq z.length ie.size then
      b9 (l8 U (y5 (y8 ln (.int 0)))) fun _=>b9 (l8 U (y5 (y8 cn ln))) fun _=>b9 (l8 U (y8 cn (.int 1048577))) fun _=>
      match GQ cn with
      |some k=>b9 (cM (.cells (NY k z) e ie.size)) fun b=>i3 (.sl b ie.size (.int 0) ln (.ex cn))
      | none => bif Nat.beq (kf P e).length ie.size && Nat.ble 1 ie.size then
        match KI (kf P e) 0 z with
        |some es=>b9 (cM (.rows (.op .rep (cn::es)) e ie.size cn)) fun b=>i3 (.sl b ie.size (.int 0) ln (.ex cn))
        |none=>a8 "makeSlice: zero"
       else a8 "makeSlice: kinds"
     else a8 "makeSlice: size"
    |none=>a8 "makeSlice: zero"
   |none=>a8 "makeSlice: type"
  |_=>a8 "makeSlice: type"
 |_,_=>a8 "makeSlice: no ints"
def Z0 (L off len:E):M E:=
 match off with
 | .int m=>bif decide (m=0)&&E.like len (A7 L)then b9 (l8 U (F7 len (A7 L))) fun _=>i3 (jV L)else i3 (.op .part [L,off,len])
 |_=>i3 (.op .part [L,off,len])
def qX (f:Kd->SV->M E)(ks:List Kd):Nat->As->M (Au)
 |_,[]=>i3 []|j,a::l=>match ks[j % ks.length]? with
  |some k=>b9 (f k a) fun e=>b9 (qX f ks (j+1) l) fun es=>i3 (e::es)
  |none=>a8 "data: kind"
def wY :Nat->Kd->SV->M E
 |0,_,_=>a8 "data: depth"|d+1,k,a=>match Om k a with
  |some e=>i3 e|none=>match k,a with
   | .sl e,.sl b z off len _=>p9 fun s=>match s.get b with
    | some (.rows L e' z' _) => bif Nat.beq e e' && Nat.beq z z' then
      b9 (l8 U (y5 (y8 (A7 L) (y4 off len)))) fun _=>b9 (jW b none) fun _=>b9 (mfz b L e z) fun _=>Z0 U L off len
     else a8 "data: type"
    | some (.cells l e' z') => bif Nat.beq e e' && Nat.beq z z' && Nat.beq z (kf P e).length && Nat.beq (l.length / z * z) l.length then
      b9 (l8 U (y5 (y8 (.int (l.length/z:Nat)) (y4 off len)))) fun _=>b9 (jW b none) fun _=>
      b9 (qX (wY d) (kf P e) 0 l) fun es=>b9 (mfz b (.op (.rows (l.length/z) z) es) e z) fun _=>Z0 U (.op (.rows (l.length/z) z) es) off len
     else a8 "data: type"
    |some (.map _ _ _)=>a8 "data: no block"|some (.iter _ _)=>a8 "data: no block"|some (.reg _ _ _)=>a8 "data: no block"|none=>match lk s.fz b with
     | some (L, e', z') => bif Nat.beq e e' && Nat.beq z z' then
       b9 (l8 U (y5 (y8 (A7 L) (y4 off len)))) fun _=>Z0 U L off len
      else a8 "data: type"
     |none=>a8 "data: no block"
   |_,_=>a8 "data: value"
def EC (L row:E):Nat->Au->E
 |_,[]=>L|j,e::es=>EC (.op (.upd j) [L,row,e]) row (j+1) es
def yP (b:Nat):M Unit:=p9 fun s=>match s.get b with
 |some (.cells l e z)=>match uZ P e z l with
  |some L=>jW b (some (.rows L e z (.int (l.length/z:Nat))))|none=>a8 "rows"
 |_=>i3 ()
def phT (ph L:E):Bool:=match ph with
 | .int _=>false|ph=> !(E.like ph (A7 L))
def mD (b z:Nat)(row:E)(fld:Nat)(vs:As):M SV:=p9 fun s=>match s.get b with
 | some (.rows _ e _ _) => bif Nat.ble (fld + vs.length) z && Nat.beq z (kf P e).length then
   b9 (qX (wY P U 20) (kf P e) fld vs) fun es=>p9 fun s=>match s.get b with
   | some (.rows L e' z' ph) => bif Nat.beq e e' && Nat.beq z z' then
     bif phT ph L&&Nat.beq z 1&&Nat.beq fld 0&&Nat.beq es.length 1 then
      b9 (l8 U (y5 (y8 (A7 L) row))) fun _=>b9 (l8 U (y8 row ph)) fun _=>b9 (jW b (some (.rows (.op .over [L,row,.op (.rows 1 1) es]) e' z' ph))) fun _=>i3 (.tup [])
     else b9 (l8 U (y8 row (A7 L))) fun _=>b9 (jW b (some (.rows (EC L row fld es) e' z' ph))) fun _=>i3 (.tup [])
    else a8 "store: type"
   |_=>a8 "store: block"
  else a8 "store: beyond"
 |_=>a8 "store: no rows"
def BO (row:E)(fld:Nat)(vs:As):M SV:=p9 fun s=>match wW s with
 | some (_, _, z) => bif Nat.ble (fld + vs.length) z then
   b9 (qX (wY P U 20) (kf P rgT) fld vs) fun es=>p9 fun s=>match wW s with
   | some (b, L, z') => bif Nat.beq z z' then
     b9 (l8 U (y8 row (A7 L))) fun _=>b9 (jW b (some (.reg b (EC L row fld es) z'))) fun _=>i3 (.tup [])
    else a8 "store: type"
   |none=>a8 "store: region"
  else a8 "store: beyond"
 |none=>a8 "store: region"
def IM (l:As):M SV:=p9 fun s=>match wW s with
 | some (_, _, z) => bif Nat.beq l.length z && Nat.ble 1 z && l.all wV then
   b9 (qX (wY P U 20) (kf P rgT) 0 l) fun es=>p9 fun s=>match wW s with
   |some (b,L,z')=>bif Nat.beq z z' then b9 (jW b (some (.reg b (G4 L (.op (.rows 1 z) es)) z))) fun _=>i3 (.rp (A7 L) 0)else a8 "new: region"
   |none=>a8 "new: region"
  else a8 "new: size"
 |none=>a8 "new: region"
def hset (k:IntKind)(es:Au)(row w:E):As:=(List.range es.length).map fun j:Nat=>.int k (FJ 0 (.op .over [.op (.rows es.length 1) es,row,.op (.rows 1 1) [w]]) (.int (j:Int)))
def BP (b:Nat)(l:As)(e z:Nat)(row:E)(fld:Nat):As->M SV:=
 have _:=U
 fun _=>a8 "store"
def GX (t:Ax)(a x:SV):M SV:=
 match P.info? t with
 |none=>a8 "store: type"|some ti=>match C6 x with
  |none=>a8 "store: value"|some vs=>bif Nat.beq vs.length ti.size&&vs.all wV then
   match a with
   | .ptr b z row fld=>p9 fun s=>match s.get b with
    |some (.cells l e z')=>match row with
     | .int r => bif decide (0 ≤ r) && Nat.ble (r.toNat * z + fld + vs.length) l.length then
       b9 (jW b (some (.cells (U1 l (r.toNat*z+fld) vs) e z'))) fun _=>i3 (.tup [])else a8 "store: beyond"
     |row=>bif Nat.beq z 1&& !Nat.beq z' 1&&Nat.ble fld l.length then BP U b l e z' row fld vs else b9 (yP P b) fun _=>mD P U b z row fld vs
    |some (.rows _ _ _ _)=>mD P U b z row fld vs|_=>a8 "store: no block"
   | .rp row fld=>BO P U row fld vs|_=>a8 "store: no address"
   else a8 "store: size"
end
section
variable {P :Aw}{U:Ab}{τ:Tau}{F:Ac}{s:SS}{hp:Hp}
def OKh.alloc {x:B4}{y:Blk}(hs:SD P U τ F s hp)(hy:∀τ',Tle τ τ'->BD P U τ' F 0 x y):OKh P U (cM x) τ F s hp fun b τ' F' hp'=>F'=F/\τ' b=some (some (hp.nx,0))/\hp'=⟨hp.m.set hp.nx (some y),hp.nx+1⟩:=by
 intro Q hq _;have h0:=hs.new _ (TK _);obtain⟨h1,h2⟩:=hs.alloc (hp':=⟨hp.m.set hp.nx (some y),hp.nx+1⟩) (UI _) (fun i hi=>OK hp y i hi)
  (.inl ⟨hp.nx,0,y,rfl,TK _,Uv _,by simp[VX],hy _ (cJ _ h0)⟩)
 exact⟨s.nx,_,hq,_,F,_,h1,h2,rfl,t6 _ _ _,rfl⟩
def Vx:type_of% @OKh.alloc:=@OKh.alloc
theorem M0 (vs:Af)(j:Nat)(x:Av)(h:vs[j]? =some x):(fill .e 0 vs).get j=some x:=by rw[j8,TJ (by grind)];grind
variable {l:As}{vs:Af}
def cR (h:VDL P U τ F l vs)(e z:Nat):BD P U τ F 0 (.cells l e z) (I5 vs e z):=by refine⟨fill .e 0 vs,vs.length,rfl,by rw[h.1];omega,fun j a f=>?_⟩;obtain⟨x,h1,h2⟩:=h.get f;exact⟨x,by rw[TT];exact M0 vs j x h1,h2⟩
def IA {e:Ax}(h:VDL P U τ F l vs)(hs:SD P U τ F s hp):OKh P U (sbox e l) τ F s hp fun a τ' F' hp'=>(a,hp')=(a,(hp.add ⟨I5 vs e vs.length,.ptr,rfl⟩).2)/\VD P U τ' F' a (hp.add ⟨I5 vs e vs.length,.ptr,rfl⟩).1:=by refine(Vx (y:=I5 vs e vs.length) hs fun τ' ht=>?_).bind fun b τ' F' s' hp' _ f ⟨h1,h2,h3⟩=>?_;rw[h.1];exact cR (h.mono ht (Vu F)) e vs.length;subst h3;exact VC ⟨rfl,VD.ptr' h2 (by show(0:Int)<=0;omega) (by show 0=0+(0:Int).toNat*_+0;simp)⟩
def sJ {l:As}{vs:Af}(h:VDL P U τ F l vs):∀n,VDL P U τ F (NY n l) (xrep n vs)
 |0=>We|n+1=>h.append (sJ h n)
def vF {t:Ax}{len:Nat}{ps:List (Nat×SV)}{j:List (Nat×Av)}(h:PVD P U τ F ps j)(hs:SD P U τ F s hp):OKh P U (iC P t len ps) τ F s hp fun a τ' F' hp'=>∃n,Hi P t len j=some n/\hp'=(hp.add n).2/\VD P U τ' F' a (hp.add n).1:=by
 unfold iC;split
 ·rename_i e he;split
  ·rename_i ie g;split
   ·rename_i z hz;obtain⟨zv,h1,h2⟩:=dQ hz;rw[h2.1];cases hb:Nat.beq zv.cells.toList.length ie.size&&Nat.ble (len*ie.size) 16777216&&Nat.ble len 16777216 with
    |false=>exact VA|true=>
     simp only[TE];split
     ·rename_i cs f;obtain⟨ys,h3,h4⟩:=iF (sJ h2 len) h f;refine(Vx hs fun τ' ht=>cR (h4.mono ht (Vu F)) e ie.size).bind fun b τ' F' s' hp' _ m ⟨k1,k2,k3⟩=>?_;subst k3;refine VC ⟨⟨I5 ys e ie.size,.slice len len,rfl⟩,?_,rfl,?_⟩;simp only[Hi,he,g,h1,hb,TE,h3]
      ·have p:len<unk:=by simp at hb;unfold unk;omega
       have:=VD.sl (P:=P) (U:=U) (F:=F') b ie.size (.int 0) (.int len) (.ex (.int len)) hp.nx 0 len k2 (Uy 0) (Int.natCast_nonneg len) ⟨Int.natCast_nonneg len,(Uc len).symm,p,Uy _⟩;have e1:=Uc len;have e2:(E.int 0).toN U*ie.size=0:=by show(0:Int).toNat*_=0;simp
       rwa[e2]at this
     exact VA
   exact VA
  exact VA
 exact VA
def xrep_length (n:Nat)(vs:Af):(xrep n vs).length=n*vs.length:=by
 induction n with
 |zero=>simp[xrep]|succ n f=>simp[xrep,f,UB];omega
theorem dW {z:Nat}{vs:Af}(hz:vs.length=z):∀ {n r k:Nat},r<n->k<z->(xrep n vs)[r*z+k]? =vs[k]?
 |0,r,k,h,_=>by omega|n+1,0,k,_,hk=>by simp only[xrep,UU,TT];rw[Tu (by omega)]|n+1,r+1,k,h,hk=>by simp only[xrep];rw[Tt (by grind),hz,show(r+1)*z+k-z=r*z+k by rw[UB];omega];exact dW hz (by omega) hk
theorem xB {t:Ax}{a b:SV}{v u:Av}(O:VD P U τ F a v)(hb:VD P U τ F b u)(hs:SD P U τ F s hp):OKh P U (lZ P U t a b) τ F s hp fun c τ' F' hp'=>∃n,KU P t v u=some n/\hp'=(hp.add n).2/\VD P U τ' F' c (hp.add n).1:=by
 unfold lZ;split
 ·rename_i k1 ln k2 f;cases O;cases hb;split
  ·rename_i e he;split
   ·rename_i ie H;split
    ·rename_i z hz;obtain⟨zv,h1,h2⟩:=dQ hz;rw[h2.1];cases hb:Nat.ble ie.bytes 1048576&&Nat.beq zv.cells.toList.length ie.size with
     |false=>exact VA|true=>
      refine Vy VF fun _ s1 _ hs1 p1=>Vy VF fun _ s2 _ Q p2=>Vy VF fun _ Y _ C X=>?_;have T:=Z5 p1;have V:=A4 p2;have W:=C7 X;simp only[B7]at W;simp only[Tl,Up,Ub]at hb;have hx:KU P t (.int k1 (ln.toI U)) (.int k2 (f.toI U))=some ⟨I5 (xrep (f.toN U) zv.cells.toList) e ie.size,.slice (ln.toN U) (f.toN U),rfl⟩:=by simp only[KU,he,H,h1];rw[show(decide (0<=ln.toI U)&&decide (ln.toI U<=f.toI U)&&decide (f.toI U<=1048576)&&Nat.ble ie.bytes 1048576&&Nat.beq zv.cells.toList.length ie.size)=true by simp only[Tl,TI,Up,Ub];exact(by grind)];rfl
      have m:∀(τ':Tau) (g:Nat),τ' g=some (some (hp.nx,0))->VD P U τ' F (.sl g ie.size (.int 0) ln (.ex f)) (.slice (some ⟨hp.nx,0,none⟩) (ln.toN U) (f.toN U)):=by
       intro τ' g J;have R:f.toN U<unk:=by unfold unk;show(f.toI U).toNat<_;omega
       have:=VD.sl (P:=P) (F:=F) g ie.size (.int 0) ln (.ex f) hp.nx 0 (f.toN U) J (Uy 0) T ⟨by omega,rfl,R,V⟩;have e2:(E.int 0).toN U*ie.size=0:=by show(0:Int).toNat*_=0;simp
       grind
      split
      ·rename_i k hk;rw[<-zG hk]at hx;have q:∀(τ':Tau) (g:Nat),τ' g=some (some (hp.nx,0))->VD P U τ' F (.sl g ie.size (.int 0) ln (.ex f)) (.slice (some ⟨hp.nx,0,none⟩) (ln.toN U) k):=by rw [zG hk]; exact m
       refine(Vx C fun τ' ht=>cR (sJ (h2.mono ht (Vu F)) _) e ie.size).bind fun g τ' F' s' hp' _ I ⟨K,L,M⟩=>?_;subst K;subst M;exact VC ⟨_,hx,rfl,q τ' g L⟩
      ·cases hk:Nat.beq (kf P e).length ie.size&&Nat.ble 1 ie.size with
       |false=>exact VA|true=>
        simp only[TE];simp only[Tl,Up,Ub]at hk;split
        ·rename_i es G;obtain⟨t1,t2⟩:=vX G;have j:=hb.2;have N:es.length=ie.size:=by rw[t1,h2.1,j]
         refine(Vx (y:=I5 (xrep (f.toN U) zv.cells.toList) e ie.size) C fun τ' ht=>?_).bind fun g τ' F' s' hp' _ I ⟨K,L,M⟩=>?_
         ·have hL:(E.op .rep (f::es)).toR U=List.replicate (f.toN U) (es.map (E.den U)):=by show(Dat.lst (List.replicate _ (E.dens U es))).rows=_;rw[E.dens_eq];rfl
          refine⟨_,_,rfl,?_,?_⟩
          ·rw[hL];refine⟨by rw[xrep_length,j];simp,hk.1.symm,fun r hr=>?_,fun r k row d hr p=>?_⟩;grind
           ·rw[List.getElem?_replicate]at hr;split at hr
            ·rename_i hlt;simp only[Tk]at hr;subst hr;have B:k<ie.size:=by grind
             rw[Ul]at p;cases w:es[k]? with
             |none=>grind|some x=>
              simp only[w,Ug,Tk]at p;have D:z[k]? =some (z[k]'(by omega)):=by grind
              obtain⟨y,w1,w2⟩:=h2.get D;obtain⟨kd,w3,w4⟩:=t2 k _ _ D w;refine⟨y,?_,fun S A=>?_⟩;rw[TT];exact M0 _ _ _ (by rw[dW j hlt B];exact w1);rw[TT,hk.1,Ve B,A,Tk]at w3;subst w3;rw[<-p];exact BY w2 w4
            cases hr
          rw[xrep_length,j];omega
         subst K;subst M;exact VC ⟨_,hx,rfl,m τ' g L⟩
        exact VA
    exact VA
   exact VA
  exact VA
 exact VA
end
section
variable {P :Aw}{U:Ab}{τ:Tau}{F:Ac}{s:SS}{hp:Hp}
theorem sY {len:E}{cap:Cp}{c:Nat}(h:mY U len cap c)(h0:0<=len.toI U):xQ (len.toN U) c:=by
 cases cap with
 |ex e=>obtain⟨h1,h2,h3,h4⟩:=h;exact .inl (by grind)
 |ge=>obtain⟨lo,h1,h2,h3⟩:=h;exact .inr (by grind)
 |un=>rcases h with⟨h1,h2,h3⟩| ⟨lo,h1,h2,h3⟩;exact .inl (by grind);exact .inr (by grind)
variable {off:Int}
theorem W9 {rows:Rows}{len:Int}(h0:0<=off)(h1:0<=len)(h2:off+len<=rows.length):(pQ rows off len).length=len.toNat:=by unfold pQ;grind
theorem hZ {rows:Rows}{len:Int}{r:Nat}{row:Ar}(h:(pQ rows off len)[r]? =some row):rows[off.toNat+r]? =some row:=by unfold pQ at h;grind
theorem PV.of_rows {F:Ac}{e e' z f o n i c:Nat}{cs:Ao}{rows:Rows}{len:Int}(hF:F i=some (.cells cs n e' f))(m:f=z)(hr:A8 P F e z o n cs rows)(h0:0<=off)(h1:0<=len)(h2:off+len<=rows.length)(hc:xQ len.toNat c):PV P F (.sl e) (.slice (some ⟨i,o+off.toNat*z,none⟩) len.toNat c) (.lst (pQ rows off len)):=by
 subst m;obtain⟨C,p,q,w⟩:=hr;have hl:=W9 h0 h1 h2;have hx:∀(r k:Nat),∃x,∀row d,(pQ rows off len)[r]? =some row->row[k]? =some d->cs.get (o+off.toNat*f+r*f+k)=some x/\ ∀kd,(kf P e)[k]? =some kd->PV P F kd x d:=by
  intro r k;cases g:(pQ rows off len)[r]? with
  |none=>exact⟨undef,fun row d h=>by grind⟩|some row=>
   cases A:row[k]? with
   |none=>exact⟨undef,fun j d h h'=>by grind⟩|some d=>obtain⟨x,k1,k2⟩:=w _ k row d (hZ g) A;refine⟨x,fun j B h h'=>?_⟩;grind
 have:=PV.sl e i (o+off.toNat*f) c _ cs n f (pQ rows off len) (fun r k=>(hx r k).choose) hF rfl ⟨by grind,.mk⟩
  (by
   rw[hl];have:off.toNat*f+len.toNat*f<=rows.length*f:=by rw[<-TX];exact Ty f (by omega)
   omega) p (fun r hr=>q r (US (UR hr)))
 grind
def C3 {L off len:E}:OKp U (Z0 U L off len) s fun e=>e.den U= .lst (pQ (L.toR U) (off.toI U) (len.toI U)):=by
 unfold Z0;split
 ·rename_i m;cases hb:decide (m=0)&&E.like len (A7 L)with
  |false=>exact VJ rfl|true=>
   simp at hb;refine OKp.need.bind fun _ s1 _ _ h=>VJ ?_;have h:=bL h;rw[j2]at h;rw[nK];unfold pQ;have e1:((E.int m).toI U).toNat=0:=by rw[hb.1];rfl
   rw[e1,h,Uc,UZ,List.take_length]
 exact VJ rfl
variable {b:Nat}
def OKh.drop :OKh P U (jW b none) τ F s hp fun _ τ' F' hp'=>τ'=τ/\F'=F/\hp'=hp:=by intro Q hq hs;obtain⟨h1,h2⟩:=hs.drop b;exact⟨(),_,hq,τ,F,hp,h1,h2,rfl,rfl,rfl⟩
def OKh.freeze {i o:Nat}{x:B4}(hb:s.get b=some x)(ht:τ b=some (some (i,o))){y:Blk}(hi:hp.m.get i=some y):OKh P U (jW b none) τ F s hp fun _ τ' F' hp'=>τ'=τ/\hp'=hp/\F' i=some y:=by intro Q hq hs;obtain⟨F',h1,h2,h3,h4⟩:=hs.freeze hb ht hi;exact⟨(),_,hq,τ,F',hp,h3,h4,rfl,rfl,h2⟩
def OKh.fz {L:E}{e z:Nat}(h:Jj P U τ F (b,L,e,z)):OKh P U (mfz b L e z) τ F s hp fun _ τ' F' hp'=>τ'=τ/\F'=F/\hp'=hp:=by intro Q hq hs;refine⟨(),_,hq,τ,F,hp,?_,⟨hs.live,hs.inj,hs.frz,hs.lt,hs.flt,hs.new,hs.fc,fun r hr=>?_⟩,rfl,rfl,rfl⟩;have h:=Ext.refl hs;exact⟨h.t,h.f,h.nx,h.snx,h.st,h.low,h.hh,h.hf,h.win⟩;rcases TZ.1 hr with rfl|hr;exact h;exact hs.fz r hr
theorem dG {f:Kd->SV->M E}{ks:List Kd}(hf:∀k a v τ F s hp,VD P U τ F a v->SD P U τ F s hp->OKh P U (f k a) τ F s hp fun e τ' F' hp'=>τ'=τ/\hp'=hp/\PV P F' k v (e.den U)):∀ {l:As} {vs:Af} {j:Nat} {τ:Tau} {F:Ac} {s:SS} {hp:Hp},VDL P U τ F l vs->SD P U τ F s hp->OKh P U (qX f ks j l) τ F s hp fun es τ' F' hp'=>τ'=τ/\hp'=hp/\es.length=l.length/\ ∀(q:Nat) x e,vs[q]? =some x->es[q]? =some e-> ∃kd,ks[(j+q) % ks.length]? =some kd/\PV P F' kd x (e.den U)
 | [],vs,j,τ,F,s,hp,h,hs=>VC (by grind)|a::l,vs,j,τ,F,s,hp,h,hs=>by
  obtain⟨y,ys,rfl,h1,h2⟩:=h.uncons;unfold qX;split
  ·rename_i k hk;refine(hf k a y τ F s hp h1 hs).bind fun e τ1 F1 s1 hp1 ex hs1 ⟨e1,e2,e3⟩=>?_;subst e1;subst e2;refine(dG hf (h2.mono ex.t ex.f) hs1).bind fun es τ2 F2 s2 hp2 ex2 m ⟨e4,e5,p,r⟩=>VC ⟨e4,e5,by grind,fun q x d hx g=>?_⟩;cases q with
   |zero=>simp at hx g;subst hx;subst g;exact⟨k,hk,e3.mono P ex2.f⟩|succ q=>grind
  exact VA
theorem bN :∀(d:Nat) (k:Kd) (a:SV) (v:Av) (τ:Tau) (F:Ac) (s:SS) (hp:Hp),VD P U τ F a v->SD P U τ F s hp->OKh P U (wY P U d k a) τ F s hp fun e τ' F' hp'=>τ'=τ/\hp'=hp/\PV P F' k v (e.den U)
 |0,k,a,v,τ,F,s,hp,p,hs=>VA|d+1,k,a,v,τ,F,s,hp,p,hs=>by
  unfold wY;split;rename_i e he;exact VC ⟨rfl,rfl,BY p he⟩
  ·split
   ·rename_i e b z off len cap _;refine VB ?_;split
    ·rename_i L e' C ph hb;cases hq:Nat.beq e e'&&Nat.beq z C with
     |false=>exact VA|true=>
      simp only[TE];simp only[Tl,Ub]at hq;obtain⟨rfl,rfl⟩:=hq;refine Vy VF fun _ s1 V hs1 p1=>?_;have p1:=A4 p1;rw[j7,j2]at p1;have q:s1.get b=some (.rows L e z ph):=by rw[V.get];exact hb
      rcases hs1.live b _ q with⟨i,o,y,h1,h2,_,cs,n,rfl,h4,h5⟩| ⟨h1,Z,e',C,X,h2,h3,_⟩
      ·cases p with
       |sl _ _ _ _ _ T o' c h h0 g hc=>
        rw[h1]at h;simp only[Tk,Tm]at h;obtain⟨rfl,rfl⟩:=h;refine(OKh.freeze q h1 h2).bind fun _ τ2 F2 s2 hp2 ex B ⟨e1,e2,e3⟩=>?_;subst e1;subst e2;have K:A8 P F2 e z o n cs (L.toR U):=⟨h4.1,h4.2.1,h4.2.2.1,fun r k row d w1 w2=>let⟨x,w3,w4⟩:=h4.2.2.2 r k row d w1 w2;⟨x,w3,fun kd w5=>(w4 kd w5).mono P ex.f⟩⟩
        refine(OKh.fz (.inl ⟨i,o,cs,n,h1,e3,K⟩)).bind fun _ Q S Y J A N ⟨G,H,D⟩=>?_;subst G;subst H;subst D;refine OKh.bindp' C3 fun c' he=>⟨rfl,rfl,?_⟩
        rw[he];exact PV.of_rows e3 rfl K h0 g p1 (sY hc g)
       |sl0 _ _ _ _ _ h h0 g hc=>grind
      ·cases p with
       |sl _ _ _ _ _ T o' c h h0 g hc=>grind|sl0 _ _ _ _ _ h h0 g hc=>
        refine OKh.drop.bind fun _ τ2 F2 s2 hp2 ex B ⟨e1,e2,e3⟩=>?_;subst e1;subst e2;subst e3;simp only[B4.rows.injEq]at h2;obtain⟨rfl,_⟩:=h2;refine(OKh.fz (.inr ⟨h1,h3⟩)).bind fun _ Q S Y J A N ⟨G,H,D⟩=>?_;subst G;subst H;subst D;refine OKh.bindp' C3 fun c' he=>⟨rfl,rfl,?_⟩
        rw[he,h3];have:pQ [] (off.toI U) (len.toI U)=[]:=by simp[pQ]
        rw[this];exact .nils _
    ·rename_i l e' C hb;cases hq:Nat.beq e e'&&Nat.beq z C&&Nat.beq z (kf P e).length&&Nat.beq (l.length/z*z) l.length with
     |false=>exact VA|true=>
      simp only[TE];simp only[Tl,Ub]at hq;obtain⟨⟨⟨rfl,rfl⟩,hz⟩,hN⟩:=hq;refine Vy VF fun _ s1 V hs1 p1=>?_;have p1:=A4 p1;rw[j7]at p1;simp only[B7]at p1;have q:s1.get b=some (.cells l e z):=by rw[V.get];exact hb
      rcases hs1.live b _ q with⟨i,o,y,h1,h2,_,cs,n,rfl,h4,h5⟩| ⟨h1,Z,e',C,X,h2,h3,_⟩
      ·cases p with
       |sl _ _ _ _ _ T o' c h h0 g hc=>
        rw[h1]at h;simp only[Tk,Tm]at h;obtain⟨rfl,rfl⟩:=h;refine(OKh.freeze q h1 h2).bind fun _ τ2 F2 s2 hp2 ex B ⟨e1,e2,e3⟩=>?_;subst e1;subst e2;obtain⟨vs,v1,v2,v3⟩:=B3 (c:=cs) (R:=fun j x=>∀a,l[j]? =some a->VD P U τ2 F2 a x) l.length o 0 fun j hj=>by
         have:l[j]? =some l[j]:=by simp[hj]
         obtain⟨x,k1,k2⟩:=h5 j _ this;exact⟨x,k1,fun a p=>by rw[TT,this]at p;cases p;exact k2.mono ex.t ex.f⟩
        have hv:VDL P U τ2 F2 l vs:=⟨v2.symm,fun j a x p hx=>v3 j x hx a (by rw[TT];exact p)⟩
        refine(dG (fun k a v τ F s hp=>bN d k a v τ F s hp) hv B).bind fun es Q S Y J A N ⟨G,H,D,f4⟩=>?_;subst G;subst H;have I:S i=some (.cells cs n e z):=A.f _ _ e3;have w:A8 P S e z o n cs ((E.op (.rows (l.length/z) z) es).toR U):=by
         refine cK hz (by rw[D,hN]) (by rw[D];exact h4) fun j x hx=>?_;have hj:j<l.length:=by grind
         have O:vs[j]? =some (vs[j]'(by omega)):=by grind
         obtain⟨kd,w1,w2⟩:=f4 j _ _ O hx;refine⟨_,by rw[<-(l9 v1).2 j hj];exact O,fun ae ab=>?_⟩;grind
        refine(OKh.fz (.inl ⟨i,o,cs,n,h1,I,w⟩)).bind fun _ ah F4 s4 ac aa ad ⟨g1,g2,g3⟩=>?_;subst g1;subst g2;subst g3;refine OKh.bindp' C3 fun c' he=>⟨rfl,rfl,?_⟩
        rw[he];refine PV.of_rows I rfl w h0 g ?_ (sY hc g);have:((E.op (.rows (l.length/z) z) es).toR U).length=l.length/z:=by show(d8 z (l.length/z) _).length=_;rw[M9]
        grind
       |sl0 _ _ _ _ _ h h0 g hc=>grind
      cases h2
    exact VA;exact VA;exact VA
    ·split
     ·rename_i L e' C hb;cases hq:Nat.beq e e'&&Nat.beq z C with
      |false=>exact VA|true=>
       simp only[TE];simp only[Tl,Ub]at hq;obtain⟨rfl,rfl⟩:=hq;refine Vy VF fun _ s1 V hs1 p1=>?_;have p1:=A4 p1;rw[j7,j2]at p1;refine OKh.bindp' C3 fun c' he=>⟨rfl,rfl,?_⟩
       rw[he];rcases hs.fz _ (aM hb)with⟨i,o,cs,n,h1,h2,h4⟩| ⟨h1,h2⟩
       ·cases p with
        |sl _ _ _ _ _ T o' c h h0 g hc=>rw[h1]at h;simp only[Tk,Tm]at h;obtain⟨rfl,rfl⟩:=h;exact PV.of_rows h2 rfl h4 h0 g p1 (sY hc g)
        |sl0 _ _ _ _ _ h h0 g hc=>grind
       ·cases p with
        |sl _ _ _ _ _ T o' c h h0 g hc=>grind|sl0 _ _ _ _ _ h h0 g hc=>
         have W:L.toR U=[]:=h2;have:pQ [] (off.toI U) (len.toI U)=[]:=by simp[pQ]
         rw[W,this];exact .nils _
     exact VA
   exact VA
where
 OKh.bindp' {m:M E} {R:E->Prop} {R':E->Tau->(Ac)->Hp->Prop} {τ:Tau} {F:Ac} {s:SS} {hp:Hp} (h:OKp U m s R) (hr:∀e,R e->R' e τ F hp):OKh P U m τ F s hp R':=
  (h.up (P:=P) (τ:=τ) (F:=F) (hp:=hp)).mono fun a τ' F' hp' _ _ ⟨e1,e2,e3,e4⟩=>by subst e1;subst e2;subst e3;exact hr a e4
end
section
variable {P :Aw}{U:Ab}{τ:Tau}{F:Ac}{s:SS}{hp:Hp}
theorem CD {z r k f k':Nat}(hk:k<z)(g:k'<z)(h:r*z+k=f*z+k'):r=f/\k=k':=by
 have h1:(r*z+k)/z=r:=by rw[Nat.mul_comm,Nat.mul_add_div (by omega),Nat.div_eq_of_lt hk];omega
 have h2:(f*z+k')/z=f:=by rw[Nat.mul_comm,Nat.mul_add_div (by omega),Nat.div_eq_of_lt g];omega
 grind
variable {e o:Nat}{cs:Ao}{x:Av}
theorem A8.set1 {F:Ac}{z n:Nat}{rows:Rows}(h:A8 P F e z o n cs rows){r:Int}{j:Nat}(hj:j<z){d:Dat}(hx:∀kd,(kf P e)[j]? =some kd->PV P F kd x d):A8 P F e z o n (cs.set (o+r.toNat*z+j) (some x)) (i6 rows r j d):=by
 obtain⟨G,C,D,B⟩:=h;unfold i6;refine⟨by grind,C,fun row hr=>?_,fun m k row w hr hk=>?_⟩;obtain⟨q,hq⟩:=Vk hr;grind
 ·rw[List.getElem?_modify]at hr;cases g:rows[m]? with
  |none=>grind|some f=>
   have hl:=D f (Tv g);rw[g]at hr;by_cases e:r.toNat=m;simp only[e,if_true,Option.map_eq_map,Ug,Tk]at hr;rw[<-hr,List.getElem?_set]at hk;by_cases A:j=k;subst A;rw[TJ rfl,TJ (by omega),Tk]at hk;refine⟨x,?_,fun kd E=>by grind⟩;rw[VX,TJ (by grind)];rw[TH A]at hk;obtain⟨y,k1,k2⟩:=B m k f w g hk;refine⟨y,?_,k2⟩;rw[VX,TH];grind;grind
   ·simp only[e,if_false,Option.map_eq_map,Ug,Tk]at hr;subst hr;obtain⟨y,k1,k2⟩:=B m k f w g hk;have p:k<z:=by grind
    refine⟨y,?_,k2⟩;rw[VX,TH];grind;intro h;exact e (CD p hj (by omega)).1.symm
theorem qC {F:Ac}{e z o n:Nat}{row:E}(h0:0<=row.toI U):∀ {es:Au} {vs:Af} {L:E} {cs:Ao} {fld:Nat},A8 P F e z o n cs (L.toR U)->es.length=vs.length->fld+es.length<=z->(∀(q:Nat) x d,vs[q]? =some x->es[q]? =some d-> ∀kd,(kf P e)[fld+q]? =some kd->PV P F kd x (d.den U))->A8 P F e z o n (fill cs (o+row.toN U*z+fld) vs) ((EC L row fld es).toR U)
 | [],[],L,cs,fld,h,_,_,_=>h|d::es,x::vs,L,cs,fld,h,hl,hf,hp=>by
  have h1:=h.set1 (r:=row.toI U) (by grind) (fun kd f=>hp 0 x d rfl rfl kd f);have h2:=qC h0 (L:= .op (.upd fld) [L,row,d]) (fld:=fld+1) h1 (by simpa using hl) (by grind)
   (fun q y w hy g kd f=>hp (q+1) y w (by grind) (by grind) kd (by grind))
  exact h2
 | [],_::_,_,_,_,_,hl,_,_=>by grind|_::_,[],_,_,_,_,hl,_,_=>by grind
variable {v:Av}
def Pu {a:SV}(h:VD P U τ F a v)(e:wV a=true):v.oneCell'=true:=by
 cases h with
 |any=>simp[wV]at e|agg=>simp[wV]at e|tup=>simp[wV]at e|lst t L clip v h hc=>generalize L.toR U=rows at h;cases h<;>rfl
 |rpq x v h=>generalize x.toI U=n at h;cases h<;>rfl
 |_=>rfl
variable {l:As}
theorem DN {vs:Af}(h:VDL P U τ F l vs)(e:l.all wV=true):vs.all Value.oneCell'=true:=by
 rw[TS]at e⊢;intro x hx;obtain⟨i,hi⟩:=Vk hx;have g:i<l.length:=by have:=(Tn.1 hi).1;rw[h.1];exact this
 have f:l[i]? =some l[i]:=by grind
 exact Pu (h.2 i _ _ f hi) (by grind)
def qR {t:Ax}{f:Ba}(g:P.info? t=some f)(hx:x.cells.toList.length=f.size)(j:x.cells.toList.all Value.oneCell'=true){i n z:Nat}{c:Ao}(hg:hp.m.get i=some (.cells c n e z))(hn:o+f.size<=n):E0 P hp t (.pointer (some ⟨i,o,none⟩)) x=some {hp with m:=hp.m.set i (some (.cells (fill c o x.cells.toList) n e z))}:=by simp only[E0,hg,g];rw[show(Nat.beq x.cells.toList.length f.size&&Nat.ble (o+f.size) n&&x.cells.toList.all Value.oneCell')=true by simp only[Tl,Ub,Up];exact⟨⟨hx,hn⟩,j⟩];simp only[TE,qL,VV]
variable {b:Nat}
def OKh.change {i:Nat}{x x':B4}(hb:s.get b=some x)(ht:τ b=some (some (i,o))){y:Blk}{m:T Blk}(hk:∀j,j≠i->m.get j=hp.m.get j)(hi:m.get i=some y)(f:BD P U τ F o x' y)(g:∀c e z c',x= .cells c e z->x'= .cells c' e z->c'.length=c.length-> ∀cs n,hp.m.get i=some (.cells cs n e z)-> ∃cs',y= .cells cs' n e z/\ ∀j,j<o\/o+c.length<=j->cs'.get j=cs.get j:=by intro _ _ _ _ h h';first| (cases h;done)| (cases h';done)):OKh P U (jW b (some x')) τ F s hp fun _ τ' F' hp'=>τ'=τ/\F'=F/\hp'= {hp with m:=m}:=by intro Q hq hs;obtain⟨h1,h2⟩:=hs.change (hp':= {hp with m:=m}) hb ht rfl hk hi f g;exact⟨(),_,hq,τ,F,_,h1,h2,rfl,rfl,rfl⟩
def Vz:type_of% @OKh.change:=@OKh.change
theorem hJ (hs:SD P U τ F s hp):OKh P U (yP P b) τ F s hp fun _ τ' F' hp'=>τ'=τ/\F'=F/\hp'=hp:=by
 refine VB ?_;split
 ·rename_i l e z hb;split
  ·rename_i L hL;rcases hs.live b _ hb with⟨i,o,y,h1,h2,_,cs,n,rfl,h4,h5⟩| ⟨h1,g,e',j,f,h2,h3,_⟩
   ·have hr:=pU hL h4 h5;refine(Vz (x':= .rows L e z (.int (l.length/z:Nat))) hb h1 (fun _ _=>rfl) h2 ⟨cs,n,rfl,hr,?_⟩).mono fun _ τ' F' hp' _ _ ⟨e1,e2,e3⟩=>⟨e1,e2,e3⟩
    have e1:(E.int ((l.length/z:Nat):Int)).toN U=l.length/z:=Uc _;rw[e1];have:l.length/z*z<=l.length:=Nat.div_mul_le_self _ _;omega
   grind
  exact VA
 exact VC ⟨rfl,rfl,rfl⟩
variable {a:Int}
theorem yX {rows:Rows}{l:Rows}(h1:a<=rows.length){r:Nat}{row:Ar}(h:(Sx.over rows a l)[r]? =some row):(r<a.toNat/\rows[r]? =some row)\/(a.toNat<=r/\r<a.toNat+l.length/\l[r-a.toNat]? =some row)\/(a.toNat+l.length<=r/\rows[r]? =some row):=by
 unfold Sx.over at h;have hl:(rows.take a.toNat).length=a.toNat:=by grind
 by_cases f:r<a.toNat;grind;by_cases g:r<a.toNat+l.length;grind;rw[Tz,Tt (by omega),hl,Tt (by omega),Ua]at h;grind
theorem DP {rows:Rows}{l:Rows}(h1:a<=rows.length):(Sx.over rows a l).length=Nat.max rows.length (a.toNat+l.length):=by unfold Sx.over;grind
theorem A8.over {z k:Nat}{rows l:Rows}{news:Af}(hr:A8 P F e z o k cs rows)(h1:a<=rows.length)(hl:∀r∈l,r.length=z)(hn:news.length=l.length*z)(hk:o+(a.toNat+l.length)*z<=k)(hx:∀(r j:Nat) (row:Ar) (d:Dat),l[r]? =some row->row[j]? =some d-> ∃x,news[r*z+j]? =some x/\ ∀kd,(kf P e)[j]? =some kd->PV P F kd x d):A8 P F e z o k (fill cs (o+a.toNat*z) news) (Sx.over rows a l):=by
 obtain⟨p,f,w,A⟩:=hr;refine⟨?_,f,fun r h=>?_,fun r j row d h h'=>?_⟩;rw[DP h1];grind;obtain⟨q,hq⟩:=Vk h;rcases yX h1 hq with⟨_,h⟩| ⟨_,_,h⟩| ⟨_,h⟩;grind;grind;grind
 ·rw[j8,hn];rcases yX h1 h with⟨c,h⟩| ⟨g,m,h⟩| ⟨c,h⟩
  ·have hj:j<z:=by grind
   have:r*z+z<=a.toNat*z:=by rw[<-UB];exact Ty z c
   grind
  ·have hj:j<z:=by grind
   have e1:r*z=a.toNat*z+(r-a.toNat)*z:=by rw[<-TX];congr 1;omega
   grind
  ·have hj:j<z:=by grind
   have:=Ty z c;grind
variable {fld:Nat}{vs:As}
theorem kO {t:Ax}{H:Ba}(G:P.info? t=some H){z:Nat}{row:E}(ha:VD P U τ F (.ptr b z row fld) v)(hv:VDL P U τ F vs x.cells.toList)(hx:x.cells.toList.length=H.size)(ho:x.cells.toList.all Value.oneCell'=true)(hs:SD P U τ F s hp):OKh P U (mD P U b z row fld vs) τ F s hp fun a _ _ hp'=>a= .tup []/\E0 P hp t v x=some hp':=by
 refine VB ?_;split
 ·rename_i L0 e z0 ae aa;cases hq:Nat.ble (fld+vs.length) z&&Nat.beq z (kf P e).length with
  |false=>exact VA|true=>
   simp only[TE];simp only[Tl,Ub,Up]at hq;obtain⟨hf,hz⟩:=hq;refine(dG (fun k a v τ F s hp=>bN 20 k a v τ F s hp) hv hs).bind fun es τ1 F1 s1 hp1 ex hs1 ⟨e1,e2,e3,e4⟩=>VB ?_;split
   ·rename_i L e' Y ph hb;cases hq:Nat.beq e e'&&Nat.beq z Y with
    |false=>exact VA|true=>
     simp only[TE];simp only[Tl,Ub]at hq;obtain⟨rfl,rfl⟩:=hq;cases hT:phT ph L&&Nat.beq z 1&&Nat.beq fld 0&&Nat.beq es.length 1 with
     |true=>
      simp only[Tl,Ub]at hT;obtain⟨⟨⟨_,rfl⟩,rfl⟩,I⟩:=hT;obtain⟨e0,rfl⟩:∃e0,es=[e0]:=by
       match es,I with
       | [e0],_=>grind
      refine Vy VF fun _ s2 V D p1=>Vy VF fun _ X o3 O p2=>?_;have p1:=A4 p1;have p2:=C7 p2;rw[j2]at p1;have A:X.get b=some (.rows L e 1 ph):=by rw[o3.get,V.get];exact hb
      have w:=ha.mono ex.t ex.f;rcases O.live b _ A with⟨i,o,y,h1,h2,_,cs,n,rfl,h4,h5⟩| ⟨h1,L',e',Y,W,h2,h3,_⟩
      ·cases w with
       |ptr _ _ _ _ R o' h h0=>
        have ad:x.cells.toList.length=1:=by rw[<-hv.1,<-e3];rfl
        have g:o+row.toN U*1+0+H.size<=n:=by grind
        have Q:=qR G hx ho h2 g;have p:=A8.over (l:=[[e0.den U]]) h4 p1 (by grind) (by omega)
         (by grind) (fun r j q d hr C=>by
          have M:r=0:=by grind
          subst M;simp at hr;subst hr;have J:j=0:=by grind
          subst J;simp at C;subst C;obtain⟨y,hy⟩:∃y,x.cells.toList[0]? =some y:=⟨_,Tx (by omega)⟩
          refine⟨y,hy,fun kd B=>?_⟩;obtain⟨S,w1,w2⟩:=e4 0 y e0 hy rfl;rw[<-hz,B,Tk]at w1;subst w1;exact w2)
        refine(Vz (x':= .rows (.op .over [L,row,.op (.rows 1 1) [e0]]) e 1 ph) (y:= .cells (fill cs (o+row.toN U*1+0) x.cells.toList) n e 1) (m:=hp1.m.set i (some (.cells (fill cs (o+row.toN U*1+0) x.cells.toList) n e 1))) A h1 (fun j hj=>by rw[VX,TH hj]) (by rw[VX,TJ rfl]) ⟨_,n,rfl,p,h5⟩).bind fun _ Z F3 X K _ _ ⟨w1,w2,w3⟩=>VC ⟨rfl,?_⟩;grind
      ·cases w with
       |ptr _ _ _ _ R o' h h0=>grind
     |false=>
     simp only[TF];refine Vy VF fun _ s2 V D p1=>?_;have p1:=C7 p1;rw[j2]at p1;have A:s2.get b=some (.rows L e z ph):=by rw[V.get];exact hb
     have w:=ha.mono ex.t ex.f;rcases D.live b _ A with⟨i,o,y,h1,h2,_,cs,n,rfl,h4,h5⟩| ⟨h1,L',e',Y,W,h2,h3,_⟩
     ·cases w with
      |ptr _ _ _ _ R o' h h0=>
       have N:row.toN U<(L.toR U).length:=by grind
       have ab:row.toN U*z+z<=(L.toR U).length*z:=by rw[<-UB];exact Ty z N
       have g1:=h4.1;have g:o+row.toN U*z+fld+H.size<=n:=by rw[<-hx,<-hv.1];omega
       have Q:=qR G hx ho h2 g;have p:=qC h0 h4 (by rw[e3,hv.1]) (by rw[e3];exact hf) (fun q y d hy C kd B=>by obtain⟨S,w1,w2⟩:=e4 q y d hy C;have ac:q<es.length:=(Tn.1 C).1;rw[<-hz,Ve (by omega),B,Tk]at w1;subst w1;exact w2);refine(Vz (x':= .rows (EC L row fld es) e z ph) (m:=hp1.m.set i (some (.cells (fill cs (o+row.toN U*z+fld) x.cells.toList) n e z))) A h1 (fun j hj=>by rw[VX,TH hj]) (by rw[VX,TJ rfl]) ⟨_,n,rfl,p,h5⟩).bind fun _ Z F3 X K _ _ ⟨w1,w2,w3⟩=>VC ⟨rfl,?_⟩;grind
     ·cases w with
      |ptr _ _ _ _ R o' h h0=>grind
   exact VA
 exact VA
def wC {row:E}:∀ {es:Au} {L:E} {fld:Nat},((EC L row fld es).toR U).length=(L.toR U).length
 | [],L,fld=>rfl|d::es,L,fld=>by unfold EC;rw[wC (es:=es)];show(i6 (L.toR U) _ fld _).length=_;simp[i6]
theorem GY {t:Ax}{g:Ba}(G:P.info? t=some g){row:E}(J:VD P U τ F (.rp row fld) v)(hv:VDL P U τ F vs x.cells.toList)(hx:x.cells.toList.length=g.size)(M:x.cells.toList.all Value.oneCell'=true)(hs:SD P U τ F s hp):OKh P U (BO P U row fld vs) τ F s hp fun a _ _ hp'=>a= .tup []/\E0 P hp t v x=some hp':=by
 unfold BO;refine VB ?_;split
 ·rename_i b0 W z w;obtain⟨_,_,_,_,_,g0⟩:=jD hs w;cases hq:Nat.ble (fld+vs.length) z with
  |false=>exact VA|true=>
   simp only[TE];have hf:=To hq;have hz:=g0.2.1;refine(dG (ks:=kf P rgT) (j:=fld) (fun k a v τ F s hp=>bN 20 k a v τ F s hp) hv hs).bind fun es τ1 F1 s1 hp1 ex hs1 ⟨e1,e2,e3,e4⟩=>VB ?_;subst e1;subst e2;split
   ·rename_i b L R hr;cases hq:Nat.beq z R with
    |false=>exact VA|true=>
     rw[TE];have:=Tp hq;subst this;refine Vy VF fun _ s2 I C p1=>?_;have p1:=C7 p1;rw[j2]at p1;have A:wW s2=some (b,L,z):=by unfold wW at hr⊢;rw[I.h];split at hr;rename_i b' K;rw[I.get];exact hr;cases hr
     obtain⟨p,h1,_,cs,h2,h4⟩:=jD C A;cases J with
     |rp _ _ h0=>
      have B:row.toN U<(L.toR U).length:=by grind
      have f:=qC (P:=P) (F:=F1) h0 (es:=es) (vs:=x.cells.toList) (fld:=fld) h4 (by rw[e3,hv.1]) (by rw[e3];exact hf) (fun q y d hy H kd r=>by obtain⟨Q,w1,w2⟩:=e4 q y d hy H;have O:q<es.length:=(Tn.1 H).1;rw[<-hz,Ve (by omega),r,Tk]at w1;subst w1;exact w2);rw[TT]at f;have D:E0 P hp1 t (.pointer (some ⟨row.toN U,fld,some 1⟩)) x=some (hp1.setR (fill cs (row.toN U*z+fld) x.cells.toList) (L.toR U).length rgT z):=by simp only[E0,Cz,h2,G];rw[show(Nat.beq x.cells.toList.length g.size&&Nat.ble (row.toN U+1) (L.toR U).length&&Nat.ble (fld+g.size) z&&x.cells.toList.all Value.oneCell')=true by simp only[Tl,Ub,Up];exact⟨⟨⟨hx,B⟩,by rw[<-hx,<-hv.1];omega⟩,M⟩];rfl
      refine(Vz (x':= .reg b (EC L row fld es) z) (m:=hp1.m.set 0 (some (.reg (fill cs (row.toN U*z+fld) x.cells.toList) (L.toR U).length rgT z))) p h1 (fun j hj=>by rw[VX,TH hj]) (by rw[VX,TJ rfl]) ⟨rfl,h1,_,by rw[wC],by rw[wC];exact f⟩).bind fun _ S V X N _ _ ⟨w1,w2,w3⟩=>VC ⟨rfl,?_⟩;rw[D,w3];rfl
   exact VA
 exact VA
theorem Ev {vs:Af}(hv:VDL P U τ F l vs)(hs:SD P U τ F s hp):OKh P U (IM P U l) τ F s hp fun a τ' F' hp'=>∃v,wN hp vs=some (v,hp')/\VD P U τ' F' a v:=by
 unfold IM;refine VB ?_;split
 ·rename_i b0 Q z A;obtain⟨_,_,_,_,_,g0⟩:=jD hs A;cases hq:Nat.beq l.length z&&Nat.ble 1 z&&l.all wV with
  |false=>exact VA|true=>
   simp only[TE];simp only[Tl,Ub,Up]at hq;obtain⟨⟨hl,M⟩,_⟩:=hq;have hz:=g0.2.1;refine(dG (ks:=kf P rgT) (j:=0) (fun k a v τ F s hp=>bN 20 k a v τ F s hp) hv hs).bind fun es τ1 F1 s1 hp1 ex hs1 ⟨e1,e2,e3,e4⟩=>VB ?_;subst e1;subst e2;split
   ·rename_i b L O hr;cases hq:Nat.beq z O with
    |false=>exact VA|true=>
     rw[TE];have:=Tp hq;subst this;obtain⟨B,h1,_,cs,h2,h4⟩:=jD hs1 hr;have H:vs.length=z:=by rw[<-hv.1];exact hl
     have p:(E.op (.rows 1 z) es).toR U=[es.map (E.den U)]:=by show(Dat.lst (d8 z 1 (E.dens U es))).rows=_;rw[E.dens_eq];show [(es.map (E.den U)).take z]=_;rw[Uk (by simp;omega)]
     have g:((G4 L (.op (.rows 1 z) es)).toR U).length=(L.toR U).length+1:=by rw[N6,p];simp
     have w:Sx.over (L.toR U) ((L.toR U).length:Int) [es.map (E.den U)]=L.toR U++ [es.map (E.den U)]:=by unfold Sx.over;rw[Uc,List.take_length,List.drop_eq_nil_of_le (by simp),UV]
     have f:=A8.over (P:=P) (F:=F1) (k:=((L.toR U).length+1)*z) (news:=vs) (l:=[es.map (E.den U)]) (a:=((L.toR U).length:Int)) ⟨by rw[TX];have:=h4.1;omega,h4.2.1,h4.2.2.1,h4.2.2.2⟩ (Uy _)
      (fun r hr=>by simp at hr;rw[hr];simp;omega) (by rw[H];simp) (by rw[Uc];simp) (fun r j q d hr C=>by
       have A:r=0:=by grind
       subst A;simp at hr;subst hr;rw[Ul]at C;cases he:es[j]? with
       |none=>grind|some e0=>
        rw[he,Ug,Tk]at C;have hj:j<es.length:=(Tn.1 he).1;obtain⟨y,hy⟩:∃y,vs[j]? =some y:=⟨_,Tx (by omega)⟩
        refine⟨y,by rw[UU,TT];exact hy,fun kd D=>?_⟩;obtain⟨N,w1,w2⟩:=e4 j y e0 hy he;rw[<-hz,TT,Ve (by omega),D,Tk]at w1;subst w1;rw[<-C];exact w2)
     rw[w,TT,Uc]at f;have G:wN hp1 vs=some (.pointer (some ⟨(L.toR U).length,0,some 1⟩),hp1.setR (fill cs ((L.toR U).length*z) vs) ((L.toR U).length+1) rgT z):=by simp only[wN,h2];simp_all
     refine(Vz (x':= .reg b (G4 L (.op (.rows 1 z) es)) z) (m:=hp1.m.set 0 (some (.reg (fill cs ((L.toR U).length*z) vs) ((L.toR U).length+1) rgT z))) B h1 (fun j hj=>by rw[VX,TH hj]) (by rw[VX,TJ rfl]) ⟨rfl,h1,_,by rw[g],by rw[g,N6,p];exact f⟩).bind fun _ I J R K _ _ ⟨w1,w2,w3⟩=>VC ⟨.pointer (some ⟨(L.toR U).length,0,some 1⟩),G.trans (by rw[w3];rfl),?_⟩;have:=VD.rp (P:=P) (U:=U) (τ:=I) (F:=J) (A7 L) 0 (by rw[j2];omega);rw[show(A7 L).toN U=(L.toR U).length by show((A7 L).toI U).toNat=_;rw[j2];omega]at this;exact this
   exact VA
 exact VA
def GZ {t:Ax}{f:Ba}(j:P.info? t=some f){g:Nat}{row:E}(hb:s.get b=some (.cells l e g))(hf:fld<=l.length)(m:VD P U τ F (.ptr b 1 row fld) v)(hv:VDL P U τ F vs x.cells.toList)(hx:x.cells.toList.length=f.size)(p:x.cells.toList.all Value.oneCell'=true)(hs:SD P U τ F s hp):OKh P U (BP U b l e g row fld vs) τ F s hp fun a _ _ hp'=>a= .tup []/\E0 P hp t v x=some hp':=by unfold BP;exact VA
theorem KH {t:Ax}{a b:SV}(p:VD P U τ F a v)(hb:VD P U τ F b x)(hs:SD P U τ F s hp):OKh P U (GX P U t a b) τ F s hp fun c _ _ hp'=>c= .tup []/\E0 P hp t v x=some hp':=by
 unfold GX;split;exact VA
 ·rename_i I f;split;exact VA
  ·rename_i vs H;have hv:=dL hb H;cases hq:Nat.beq vs.length I.size&&vs.all wV with
   |false=>exact VA|true=>
    simp only[TE];simp only[Tl,Ub]at hq;obtain⟨q,B⟩:=hq;have hx:x.cells.toList.length=I.size:=by rw[<-hv.1];exact q
    have A:=DN hv B;split
    ·rename_i b' z row fld;refine VB ?_;split
     ·rename_i l e C g;split
      ·rename_i r;cases hq:decide (0<=r)&&Nat.ble (r.toNat*z+fld+vs.length) l.length with
       |false=>exact VA|true=>
        simp only[TE];simp only[Tl,TI,Up]at hq;rcases hs.live b' _ g with⟨i,o,y,h1,h2,_,cs,n,rfl,h4,h5⟩| ⟨h1,Q,e',C,M,h2,h3,_⟩
        ·cases p with
         |ptr _ _ _ _ R o' h h0=>
          rw[h1]at h;simp only[Tk,Tm]at h;obtain⟨rfl,rfl⟩:=h;have D:(E.int r).toN U=r.toNat:=rfl;have L:=qR f hx A h2 (o:=o+(E.int r).toN U*z+fld) (by rw[D,<-hx,<-hv.1];omega);refine(Vz (x':= .cells (U1 l (r.toNat*z+fld) vs) e C) (m:=hp.m.set i (some (.cells (fill cs (o+(E.int r).toN U*z+fld) x.cells.toList) n e C))) g h1 (fun j hj=>by rw[VX,TH hj]) (by rw[VX,TJ rfl])
           ⟨_,n,rfl,?_,fun j c hc=>?_⟩ (by intro c _ _ c' k1 _ _ J S hg;cases k1;rw[h2]at hg;cases hg;exact⟨_,rfl,fun j hj=>by rw[j8,TH (by rw[D];have:=hv.1;omega)]⟩)).bind fun _ N O V K _ _ ⟨w1,w2,w3⟩=>VC ⟨rfl,?_⟩
          unfold U1;simp;omega
          ·unfold U1 at hc;rw[j8,D];by_cases hj:r.toNat*z+fld<=j/\j<r.toNat*z+fld+x.cells.toList.length
           ·rw[TJ (by omega)];have e1:(l.take (r.toNat*z+fld)).length=r.toNat*z+fld:=by grind
            rw[Tz,Tt (by omega),Tu (by rw[e1,hv.1];omega),e1]at hc;obtain⟨w,w1,w2⟩:=hv.get hc;grind
           ·rw[TH (by omega)];by_cases G:j<r.toNat*z+fld;rw[Tz,Tu (by simp;omega),TU,TJ G]at hc;grind
            ·have e1:(l.take (r.toNat*z+fld)).length=r.toNat*z+fld:=by simp;omega
             rw[Tz,Tt (by omega),e1,Tt (by rw[hv.1];omega),Ua]at hc;grind
          grind
        cases h2
      ·cases hq:Nat.beq z 1&& !Nat.beq C 1&&Nat.ble fld l.length with
       |true=>rw[TE];simp only[Tl,Ub,Up]at hq;obtain⟨⟨rfl,_⟩,hf⟩:=hq;exact GZ f g hf p hv hx A hs
       |false=>rw[TF];refine(hJ hs).bind fun _ τ1 F1 s1 hp1 ex hs1 ⟨e1,e2,e3⟩=>?_;subst e1;subst e2;subst e3;exact kO f p hv hx A hs1
     exact kO f p hv hx A hs;exact VA
    exact GY f p hv hx A hs;exact VA
end
def Ge (e l h:E):E:=match e,l,h with
 | .str p,.int a,.int b=>.str ((p.take b.toNat).drop a.toNat)|e,l,h=>.op .ssub [e,l,h]
def S9 (x:Bb SV)(d:E):Bb E:=match x with
 |none=>some d|some (.int _ e)=>some e|some _=>none
def lG :E->Bool
 | .int n=>decide (n=0)|_=>false
section
variable (P :Aw)(U:Ab)
def slen (t:Ax)(x:SV):M SV:=
 match P.underlying t,x with
 |some .string,.str e=>i3 (.int .i64 (cE e))|some (.array n _),_=>i3 (.int .i64 (.int n))|some (.slice _),.sl _ _ _ len _=>i3 (.int .i64 len)|some (.slice _),.lst _ L _=>i3 (.int .i64 (A7 L))|some (.slice _),.nils=>i3 (.int .i64 (.int 0))|some (.map _ _),.nilm=>i3 (.int .i64 (.int 0))|_,_=>a8 "len"
def scap (t:Ax)(x:SV):M SV:=
 match P.underlying t,x with
 |some (.slice _),.sl _ _ _ _ (.ex c)=>i3 (.int .i64 c)|some (.slice _),.lst _ L true=>i3 (.int .i64 (A7 L))|some (.slice _),.nils=>i3 (.int .i64 (.int 0))|some (.array n _),_=>i3 (.int .i64 (.int n))|_,_=>a8 "cap"
def Z3 (l h top:E):M Unit:=b9 (l8 U (y5 (y8 l (.int 0)))) fun _=>b9 (l8 U (y5 (y8 h l))) fun _=>l8 U (y5 (y8 top h))
def xT (b z:Nat)(off l h c:E):M SV:=
 bif lG l then i3 (.sl b z off h (.ex c))else
  b9 (hK U (F7 c l)) fun t=>bif t then i3 (.sl b z off (O6 h l) (.ex (O6 c l)))else i3 (.sl b z (y4 off l) (O6 h l) (.ex (O6 c l)))
def QA (e b z:Nat)(off len l h:E):M SV:=
 bif lG l then i3 (.sl b z off h .ge)else
  b9 (hK U (y8 l len)) fun t=>p9 fun s=>match s.get b with
   | some (.rows L e' z' _) => bif Nat.beq e e' && Nat.beq z z' then
     (bif t then i3 (.sl b z (y4 off l) (O6 h l) .ge)else
      b9 (l8 U (y5 (y8 (A7 L) (y4 off len)))) fun _=>b9 (jW b none) fun _=>i3 (.lst e (.op .nil []) false))
    else a8 "slice: type"
   |some (.cells _ e' z')=>bif Nat.beq e e'&&Nat.beq z z'&&t then i3 (.sl b z (y4 off l) (O6 h l) .ge)else a8 "slice: cells"|_=>a8 "slice: no block"
def GW (t:Ax)(x:SV)(lo hi mx:Bb SV):M SV:=
 match P.underlying t with
 |some .string=>match x,mx with
  | .str e,none=>match S9 lo (.int 0),S9 hi (cE e)with
   |some l,some h=>b9 (Z3 U l h (cE e)) fun _=>i3 (.str (Ge e l h))
   |_,_=>a8 "slice: bounds"
  |_,_=>a8 "slice: string"
 |some (.slice e)=>match P.info? e with
  |none=>a8 "slice: type"|some ie=>match x with
   | .nils=>match S9 lo (.int 0),S9 hi (.int 0),mx with
    |some l,some h,none=>b9 (Z3 U l h (.int 0)) fun _=>i3 .nils
    |some l,some h,some m=>match S9 (some m) (.int 0),hi with
     |some m,some _=>b9 (Z3 U l h m) fun _=>b9 (l8 U (y5 (y8 (.int 0) m))) fun _=>i3 .nils
     |_,_=>a8 "slice: bounds"
    |_,_,_=>a8 "slice: bounds"
   | .sl b z off len cap => bif Nat.beq z ie.size then
     match S9 lo (.int 0),S9 hi len,mx with
     |some l,some h,none=>match cap with
      | .ex c=>b9 (Z3 U l h c) fun _=>xT U b z off l h c
      | .ge=>b9 (Z3 U l h len) fun _=>QA U e b z off len l h
      | .un=>a8 "slice: room"
     |some l,some h,some m=>match S9 (some m) (.int 0),hi with
      |some m,some _=>b9 (Z3 U l h m) fun _=>b9 (l8 U (y5 (y8 (match cap with| .ex c=>c|_=>len) m))) fun _=>xT U b z off l h m
      |_,_=>a8 "slice: bounds"
     |_,_,_=>a8 "slice: bounds"
    else a8 "slice: size"
   | .lst e' L clip => bif Nat.beq e e' && Nat.beq ie.size (kf P e).length then
     match S9 lo (.int 0),S9 hi (A7 L),mx with
     |some l,some h,none=>b9 (Z3 U l h (A7 L)) fun _=>b9 (Z0 U L l (O6 h l)) fun c=>i3 (.lst e' c (clip&&hi.isNone))
     |some l,some h,some m=>match S9 (some m) (.int 0),hi with
      | some m, some _ => b9 (Z3 U l h m) fun _ => b9 (l8 U (y5 (y8 (A7 L) m))) fun _ => b9 (bif clip then i3 () else l8 U (y8 (.int 0) (A7 L))) fun _ =>
        b9 (Z0 U L l (O6 h l)) fun c=>bif E.like h m then b9 (l8 U (F7 h m)) fun _=>i3 (.lst e' c true)else i3 (.lst e' c false)
      |_,_=>a8 "slice: bounds"
     |_,_,_=>a8 "slice: bounds"
    else a8 "slice: list"
   |_=>a8 "slice: value"
 |_=>a8 "slice: type"
end
section
variable {P :Aw}{U:Ab}{τ:Tau}{F:Ac}{s:SS}{hp:Hp}
variable {v:Av}
theorem R4 {t:Ax}{w:Av}(h:rV P t v=some w)(hm:∀i,v≠ .map (some i)):aS hp P t v=some w:=by unfold aS;grind
def PV.slice {e:Ax}{d:Dat}(h:PV P F (.sl e) v d):∃a c,v= .slice a d.rows.length c:=by cases h<;>exact⟨_,_,rfl⟩
theorem PO {t:Ax}{a:SV}(f:VD P U τ F a v):OKp U (slen P t a) s fun b=>∃w,aS hp P t v=some w/\VD P U τ F b w:=by
 unfold slen;split;rename_i e ht;cases f;refine VJ ⟨.int .i64 ((e.den U).toStr.length:Nat),R4 ?_ (fun i h=>by grind),Wb (Q6 e)⟩;simp[rV,ht];rename_i _ _ _ n e ht;refine VJ ⟨.int .i64 (n:Nat),?_,Wb rfl⟩;unfold aS;split;grind;simp only[rV,ht]
 ·rename_i e' b z off len cap ht;cases f with
  |sl _ _ _ _ _ i o c h h0 h1 hc=>refine VJ ⟨.int .i64 (len.toN U:Nat),R4 ?_ (fun i h=>by grind),Wb (by grind)⟩;simp[rV,ht]|sl0 _ _ _ _ _ h h0 h1 hc=>refine VJ ⟨.int .i64 0,R4 ?_ (fun i h=>by grind),Wb h1⟩;simp[rV,ht]
 ·rename_i e' t' L clip ht;cases f with
  |lst _ _ _ _ h hc=>obtain⟨a,c,rfl⟩:=h.slice;refine VJ ⟨.int .i64 ((L.toR U).length:Nat),R4 ?_ (fun i h=>by grind),Wb (j2 L)⟩;simp only[rV,ht];rfl
 rename_i e' ht;cases f;refine VJ ⟨.int .i64 0,R4 ?_ (fun i h=>by grind),Wb rfl⟩;simp[rV,ht];rename_i k' e' ht;cases f;refine VJ ⟨.int .i64 0,R4 ?_ (fun i h=>by grind),Wb rfl⟩;simp[rV,ht];exact VE
theorem HG {e:Ax}{a:Aq}{l:Nat}{d:Dat}(h:PV P F (.sl e) (.slice a l l) d):a=none\/l<unk:=by
 cases h with
 |nils=>grind|sl _ i o c b cs n z rows x hF hb hc hn hz hr hx hp=>right;rcases hc.1 with⟨h,_⟩| ⟨lo,h1,h2,h3⟩;exact h;have:=p8 lo 0;unfold unk at*;omega
theorem PK {t:Ax}{a:SV}(f:VD P U τ F a v):OKp U (scap P t a) s fun b=>∃w,oK P t v=some w/\VD P U τ F b w:=by
 unfold scap;split
 ·rename_i e' b z off len c ht;cases f with
  |sl _ _ _ _ _ i o c' h h0 h1 hc=>
   obtain⟨k1,k2,k3,k4⟩:=hc;refine VJ ⟨.int .i64 (c':Nat),?_,Wb (by grind)⟩;have:Nat.ble unk c'=false:=by
    cases hb:Nat.ble unk c' with
    |false=>rfl|true=>simp_all;omega
   simp only[oK,ht,this,TF]
  |sl0 _ _ _ _ _ h h0 h1 hc=>refine VJ ⟨.int .i64 0,?_,Wb (hc c rfl)⟩;simp[oK,ht]
 ·rename_i e' t' L ht;cases f with
  |lst _ _ _ _ h hc=>
   obtain⟨a,l,rfl⟩:=hc rfl;have hl:=h.len;refine VJ ⟨.int .i64 (l:Nat),?_,Wb (by rw[j2,hl];rfl)⟩;rcases HG h with rfl|hlt;simp only[oK,ht]
   ·cases a with
    |none=>simp only[oK,ht]|some a=>
     have:Nat.ble unk l=false:=by
      cases hb:Nat.ble unk l with
      |false=>rfl|true=>simp_all;omega
     simp only[oK,ht,this,TF]
 rename_i e' ht;cases f;refine VJ ⟨.int .i64 0,?_,Wb rfl⟩;simp[oK,ht];rename_i _ _ _ n e' ht;refine VJ ⟨.int .i64 (n:Nat),?_,Wb rfl⟩;simp only[oK,ht];exact VE
def OVD (P:Aw)(U:Ab)(τ:Tau)(F:Ac):Bb SV->Ag->Prop
 |none,none=>True|some a,some v=>VD P U τ F a v|_,_=>False
def M1 {l h top:E}:OKp U (Z3 U l h top) s fun _=>0<=l.toI U/\l.toI U<=h.toI U/\h.toI U<=top.toI U:=by exact OKp.need.bind fun _ _ _ _ h1=>OKp.need.bind fun _ _ _ _ h2=>OKp.need.mono fun _ h3=>⟨Z5 h1,A4 h2,A4 h3⟩
theorem nB {x:Bb SV}{v:Ag}(h:OVD P U τ F x v){d e:E}(he:S9 x d=some e):(v=none/\e=d)\/ ∃k,v=some (.int k (e.toI U)):=by
 unfold S9 at he;split at he
 ·simp at he;cases v with
  |none=>grind|some v=>exact h.elim
 ·simp at he;subst he;cases v with
  |none=>exact h.elim|some v=>have:=h;cases this;exact .inr ⟨_,rfl⟩
 grind
theorem dS {k:IntKind}{n:Int}{y:Nat}(h0:0<=n)(h1:n<=y):K1 (.int k n) y=some n.toNat:=by show(bif decide (0<=n)&&decide (n<=(y:Int))then some n.toNat else none)=some n.toNat;grind
variable {hi lo:Bb SV}{vhi vlo:Ag}
theorem I7 (j:OVD P U τ F lo vlo)(f:OVD P U τ F hi vhi){l h dl m:E}(r:S9 lo dl=some l)(p:S9 hi m=some h){len g:Nat}(h1:0<=l.toI U)(h2:l.toI U<=h.toI U)(h3:h.toI U<=g)(A:dl.toI U=0)(z:hi=none->h.toN U=len):A9 len g vlo vhi none=some (l.toN U,h.toN U,none):=by
 have q:(match vhi with|some v=>K1 v g|none=>some len)=some (h.toN U):=by
  rcases nB f p with⟨rfl,rfl⟩| ⟨k,rfl⟩
  ·cases hi with
   |none=>grind|some x=>exact f.elim
  exact dS (by omega) h3
 have w:(match vlo with|some v=>K1 v (h.toN U)|none=>some 0)=some (l.toN U):=by rcases nB j r with⟨rfl,rfl⟩| ⟨k,rfl⟩;grind;exact dS h1 (by grind)
 unfold A9;grind
theorem U3 {mx:SV}{g:Av}(p:OVD P U τ F lo vlo)(f:OVD P U τ F hi vhi)(q:VD P U τ F mx g){l h m dl r w:E}(B:S9 lo dl=some l)(z:S9 hi r=some h)(D:S9 (some mx) w=some m){len j:Nat}(h1:0<=l.toI U)(h2:l.toI U<=h.toI U)(h3:h.toI U<=m.toI U)(h4:m.toI U<=j)(H:dl.toI U=0)(hh:hi≠none):A9 len j vlo vhi (some g)=some (l.toN U,h.toN U,some (m.toN U)):=by
 have G:K1 g j=some (m.toN U):=by rcases nB (x:=some mx) (v:=some g) q D with⟨e,_⟩| ⟨k,e⟩;cases e;cases e;exact dS (by omega) h4
 have A:∃v,vhi=some v/\K1 v (m.toN U)=some (h.toN U):=by
  rcases nB f z with⟨rfl,rfl⟩| ⟨k,rfl⟩
  ·cases hi with
   |none=>grind|some x=>exact f.elim
  exact⟨_,rfl,dS (by omega) (by grind)⟩
 have C:(match vlo with|some v=>K1 v (h.toN U)|none=>some 0)=some (l.toN U):=by rcases nB p B with⟨rfl,rfl⟩| ⟨k,rfl⟩;grind;exact dS h1 (by grind)
 unfold A9;grind
def yB {e:E}(h:lG e=true):e.toI U=0:=by unfold lG at h;split at h;exact UM h;cases h
def eZ {a b:E}(h0:0<=b.toI U):(O6 a b).toN U=a.toN U-b.toN U:=by show((O6 a b).toI U).toNat=(a.toI U).toNat-(b.toI U).toNat;rw[v6];omega
def oI {a b:E}(h0:0<=a.toI U)(h1:0<=b.toI U):(y4 a b).toN U=a.toN U+b.toN U:=by show((y4 a b).toI U).toNat=(a.toI U).toNat+(b.toI U).toNat;rw[j7];omega
variable {b:Nat}
def VD.sl' {z i o c n a:Nat}{off len:E}{cap:Cp}(h:τ b=some (some (i,o)))(h0:0<=off.toI U)(h1:0<=len.toI U)(hc:mY U len cap c)(f:a=o+off.toN U*z)(hn:n=len.toN U):VD P U τ F (.sl b z off len cap) (.slice (some ⟨i,a,none⟩) n c):=by subst f;subst hn;exact .sl b z off len cap i o c h h0 h1 hc
def Wc:type_of% @VD.sl':=@VD.sl'
theorem gR {z i o:Nat}{off l h c:E}(f:τ b=some (some (i,o)))(h0:0<=off.toI U)(h1:0<=l.toI U)(h2:l.toI U<=h.toI U)(h3:h.toI U<=c.toI U)(p:c.toN U<unk){a:Nat}(j:a=o+off.toN U*z):OKp U (xT U b z off l h c) s fun x=>VD P U τ F x (bif Nat.beq (c.toN U) (l.toN U)then .slice (some ⟨i,a,none⟩) (h.toN U-l.toN U) (c.toN U-l.toN U)else .slice (some ⟨i,a+l.toN U*z,none⟩) (h.toN U-l.toN U) (c.toN U-l.toN U)):=by
 subst j;unfold xT;have g:mY U (O6 h l) (.ex (O6 c l)) (c.toN U-l.toN U):=by refine⟨by rw[v6];omega,by rw[eZ h1],by omega,?_⟩;rw[v6,v6];omega
 cases hz:lG l with
 |true=>
  have hl:=yB (U:=U) hz;have m:l.toN U=0:=by grind
  refine VJ ?_;have hv:VD P U τ F (.sl b z off h (.ex c)) (.slice (some ⟨i,o+off.toN U*z,none⟩) (h.toN U-0) (c.toN U-0)):=Wc f h0 (by omega) ⟨by omega,by omega,by omega,h3⟩ rfl (by omega);grind
 |false=>
  simp only[TF];refine OKp.test.bind fun t _ _ _ ht=>?_;rw[E7]at ht;cases t with
  |true=>simp at ht;refine VJ ?_;rw[t9 (by grind),TE];exact Wc f h0 (by rw[v6];omega) g rfl (by rw[eZ h1])|false=>simp at ht;refine VJ ?_;rw[z8 (by grind),TF];exact Wc f (by rw[j7];omega) (by rw[v6];omega) g (by rw[oI h0 h1,TX];omega) (by rw[eZ h1])
theorem xU {z:Nat}{off l h c:E}(f:τ b=some none)(h0:off.toI U=0)(h1:0<=l.toI U)(h2:l.toI U<=h.toI U)(h3:h.toI U<=c.toI U)(h4:c.toI U<=0):OKp U (xT U b z off l h c) s fun x=>VD P U τ F x (.slice none 0 0):=by
 unfold xT;cases hz:lG l with
 |true=>exact VJ (.sl0 b z off h (.ex c) f h0 (by omega) (by grind))|false=>
  simp only[TF];refine OKp.test.bind fun t _ _ _ ht=>?_;have hs:(O6 h l).toI U=0:=by rw[v6];omega
  have hc:∀e,Cp.ex (O6 c l)= .ex e->e.toI U=0:=fun e he=>by cases he;rw[v6];omega
  cases t with
  |true=>exact VJ (.sl0 b z off _ _ f h0 hs hc)|false=>exact VJ (.sl0 b z _ _ _ f (by rw[j7];omega) hs hc)
end
section
variable {P :Aw}{U:Ab}{τ:Tau}{F:Ac}{s:SS}{hp:Hp}
variable {n:Nat}
def sL (h:n<=67108864):n<unk:=by unfold unk;omega
variable {a:Nat}
theorem bE {b:Nat}(h:b<a):Nat.ble a b=false:=by
 cases hb:Nat.ble a b with
 |false=>rfl|true=>simp_all;omega
def sX (lo:Nat):P4 (d9 lo 0)=lo:=I1 F9
def CQ (lo:Nat):F5 (d9 lo 0)=0:=G8 F9
def Gf (e l h:E):((Ge e l h).den U).toStr=((e.den U).toStr.take (h.toN U)).drop (l.toN U):=by unfold Ge;split<;>rfl
variable (P U) in
def Hx (hp:Hp)(t:Ax)(v:Av)(lo hi mx:Ag)(c:SV)(τ:Tau)(F:Ac)(hp':Hp):Prop:=hp'=hp/\ ∃w,v8 P hp t v lo hi mx=some (w,hp)/\VD P U τ F c w
variable {v:Av}{lo mx:Ag}
def OKp.slice {m:M SV}{t:Ax}{hi:Ag}(h:OKp U m s fun c=>∃w,v8 P hp t v lo hi mx=some (w,hp)/\VD P U τ F c w):OKh P U m τ F s hp (Hx P U hp t v lo hi mx):=
 (h.up).mono fun _ _ _ _ _ _ ⟨e1,e2,e3,h⟩=>by subst e1;subst e2;subst e3;exact⟨rfl,h⟩
def VK:type_of% @OKp.slice:=@OKp.slice
variable {h i l:Nat}{hi':Ag}
theorem dX {t e:Ax}{ie:Ba}(ht:P.underlying t=some (.slice e))(hi:P.info? e=some ie){len cap:Nat}(f:cap<unk)(hl:len<=cap){m:Ai}(hb:A9 len cap lo hi' mx=some (l,h,m)):v8 P hp t (.slice (some ⟨i,a,none⟩) len cap) lo hi' mx=some (bif Nat.beq (m.getD cap) l then .slice (some ⟨i,a,none⟩) (h-l) (m.getD cap-l)else .slice (some ⟨i,a+l*ie.size,none⟩) (h-l) (m.getD cap-l),hp):=by simp only[v8,ht,hi];rw[bE f,TF,Ts hl,TE,hb];grind
theorem mL {t e:Ax}{ie:Ba}(ht:P.underlying t=some (.slice e))(hi:P.info? e=some ie){len f:Nat}(g:f<=67108864)(hl:len<=67108864){m:Nat}(hb:A9 len (Nat.max f len) lo hi' mx=some (l,h,some m)):v8 P hp t (.slice (some ⟨i,a,none⟩) len (d9 f 0)) lo hi' mx=some (bif Nat.beq m l then .slice (some ⟨i,a,none⟩) (h-l) (m-l)else .slice (some ⟨i,a+l*ie.size,none⟩) (h-l) (m-l),hp):=by simp only[v8,ht,hi];rw[Ts (p8 f 0),TE,sX,Ts (Nat.max_le.2 ⟨g,hl⟩),TE,hb];grind
def fJ {t e:Ax}{ie:Ba}(ht:P.underlying t=some (.slice e))(hi:P.info? e=some ie){len f:Nat}(g:f<=67108864)(hl:len<=67108864)(hb:A9 len (Nat.max f len) lo hi' none=some (l,h,none)):v8 P hp t (.slice (some ⟨i,a,none⟩) len (d9 f 0)) lo hi' none=bif Nat.beq l 0 then some (.slice (some ⟨i,a,none⟩) h (d9 (Nat.max f len) 0),hp)else bif Nat.beq l (Nat.max f len)then some (.slice (some ⟨0,0,some 0⟩) 0 unk,hp)else match hp.m.get i with
    |some (.cells _ _ _ j)=>bif Nat.beq j ie.size then some (.slice (some ⟨i,a+l*ie.size,none⟩) (h-l) (d9 (Nat.max f len-l) (0-l)),hp)else none|_=>none:=by
 simp only[v8,ht,hi];rw[Ts (p8 f 0),TE,sX,CQ,Ts (Nat.max_le.2 ⟨g,hl⟩),TE,hb];rfl
theorem M7 {t e:Ax}{ie:Ba}(ht:P.underlying t=some (.slice e))(hi:P.info? e=some ie){r:Nat×Nat×Ai}(hb:A9 0 0 lo hi' mx=some r):v8 P hp t (.slice none 0 0) lo hi' mx=some (.slice none 0 0,hp):=by simp only[v8,ht,hi];simp_all
def Cw {t e:Ax}{ie:Ba}(ht:P.underlying t=some (.slice e))(hi:P.info? e=some ie)(hb:A9 0 0 lo hi' none=some (l,h,none)):v8 P hp t (.slice (some ⟨0,0,some 0⟩) 0 unk) lo hi' none=some (.slice (some ⟨0,0,some 0⟩) 0 unk,hp):=by simp only[v8,ht,hi];rw[hb]
def dF {b:Nat}(h:a<=n)(k:b<=n):Nat.max a b<=n:=Nat.max_le.2 ⟨h,k⟩
def aN (a b:Nat):b<=Nat.max a b:=UE a b
variable {cs:Ao}
theorem PV.cut {e c z zb:Nat}{b:Blk}{rows:Rows}{x:Nat->Nat->Av}(hF:F i=some b)(hb:arr b=some (cs,n,zb))(hn:a+rows.length*z<=n)(hz:z=(kf P e).length)(hr:∀r∈rows,r.length=z)(hx:∀(r k:Nat) (row:Ar) (d:Dat),rows[r]? =some row->row[k]? =some d->cs.get (a+r*z+k)=some (x r k))(hp:∀(r k:Nat) (row:Ar) (kd:Kd) (d:Dat),rows[r]? =some row->row[k]? =some d->(kf P e)[k]? =some kd->PV P F kd (x r k) d){l len:Int}(h0:0<=l)(h1:0<=len)(h2:l+len<=rows.length)(hc:xQ len.toNat c/\roC b c zb z):PV P F (.sl e) (.slice (some ⟨i,a+l.toNat*z,none⟩) len.toNat c) (.lst (pQ rows l len)):=by
 have hl:=W9 h0 h1 h2;have:=PV.sl e i (a+l.toNat*z) c b cs n z (pQ rows l len) (fun r k=>x (l.toNat+r) k) hF hb (by grind)
  (by rw [hl]
      have:l.toNat*z+len.toNat*z<=rows.length*z:=by rw[<-TX];exact Ty z (by omega)
      omega) hz (fun r h=>hr r (US (UR h)))
  (fun r k row d h1 h2=>by rw[<-hx _ k row d (hZ h1) h2];congr 1;rw[TX];omega) (fun r k row kd d h1 h2 h3=>hp _ k row kd d (hZ h1) h2 h3)
 grind
theorem PV.cut0 {e c z zb:Nat}{b:Blk}(hF:F i=some b)(hb:arr b=some (cs,n,zb))(hn:a<=n)(hz:z=(kf P e).length)(hc:xQ 0 c/\roC b c zb z):PV P F (.sl e) (.slice (some ⟨i,a,none⟩) 0 c) (.lst []):=
 PV.sl e i a c b cs n z [] (fun _ _=>undef) hF hb hc (by grind) hz (fun r h=>by grind) (by grind) (by grind)
theorem R0 {rows:Rows}{l len:Int}(h:len<=0):pQ rows l len=[]:=by unfold pQ;simp_all
variable {hi:Bb SV}{vhi vlo:Ag}
theorem Kg {t e:Ax}{ie:Ba}(ht:P.underlying t=some (.slice e))(r:P.info? e=some ie)(J:ie.size=(kf P e).length)(H:∀i b,F i=some b->hp.m.get i=some b){rows:Rows}(hv:PV P F (.sl e) v (.lst rows)){lo:Bb SV}(B:OVD P U τ F lo vlo)(q:OVD P U τ F hi vhi){l h Q:E}(L:S9 lo (.int 0)=some l)(D:S9 hi Q=some h)(Y:Q.toI U=rows.length)(h1:0<=l.toI U)(h2:l.toI U<=h.toI U)(h3:h.toI U<=rows.length):∃w,v8 P hp t v vlo vhi none=some (w,hp)/\PV P F (.sl e) w (.lst (pQ rows (l.toI U) (h.toI U-l.toI U)))/\((∃a n,v= .slice a n n)->hi=none-> ∃a n,w= .slice a n n):=by
 have A:hi=none->h.toN U=rows.length:=fun hn=>by subst hn;simp only[S9,Tk]at D;grind
 have X:l.toI U=((l.toN U:Nat):Int):=by grind
 have W:h.toI U=((h.toN U:Nat):Int):=by grind
 have R:(h.toI U-l.toI U).toNat=h.toN U-l.toN U:=by omega
 cases hv with
 |nils=>simp only[Vh]at h3;refine⟨.slice none 0 0,M7 ht r (I7 B q L D h1 h2 h3 rfl A),?_,fun _ _=>⟨_,_,rfl⟩⟩;rw[R0 (by omega)];exact .nils e|vague=>simp only[Vh]at h3;refine⟨_,Cw ht r (I7 B q L D h1 h2 h3 rfl A),?_,fun⟨a,n,e⟩ _=>?_⟩;rw[R0 (by omega)];exact .vague e;cases e
 |sl _ i o c b cs n z _ x hF hb hc hn hz hr hx hp'=>
  have hg:=H i b hF;obtain⟨hc,p⟩:=hc;rcases hc with⟨T,K⟩| ⟨j,rfl,K,c3⟩;have f:=dX (hp:=hp) (i:=i) (a:=o) ht r T K (I7 B q L D h1 h2 (by omega) rfl A);simp only[Option.getD_none]at f;refine⟨_,f,?_,fun⟨a,m,e1⟩ Z=>?_⟩;by_cases G:c=l.toN U;rw[t9 G,TE,R0 (by omega),show h.toN U-l.toN U=0 by omega];exact PV.cut0 hF hb (by omega) hz ⟨.inl ⟨by omega,by omega⟩,fun _=>by omega,p.2⟩;rw[z8 G,TF,<-R,J,<-hz];exact PV.cut (l:=l.toI U) hF hb hn hz hr hx hp' h1 (by omega) (by omega) ⟨.inl ⟨by omega,by omega⟩,fun _=>by omega,p.2⟩;grind
  ·have O:cC b=false:=by
    cases h:cC b with
    |false=>rfl|true=>have h1:=p.1 h;have h2:=p8 j 0;omega
   have S:=aN j rows.length;have N:=dF K c3;have f:=fJ (hp:=hp) (i:=i) (a:=o) ht r K c3 (I7 B q L D h1 h2 (show h.toI U<=((Nat.max j rows.length:Nat):Int) by omega) rfl A);have g:(∃a n,Value.slice (some ⟨i,o,none⟩) rows.length (d9 j 0)= .slice a n n)->False:=fun⟨a,m,e1⟩=>by have hge:=p8 j 0;simp only[Value.slice.injEq]at e1;obtain⟨_,e2,e3⟩:=e1;unfold unk at hge;omega
   by_cases C:l.toN U=0;rw[t9 C,TE]at f;refine⟨_,f,?_,fun h _=>(g h).elim⟩;have:=PV.cut hF hb hn hz hr hx hp' h1 (show 0<=h.toI U-l.toI U by omega) (by omega) ⟨.inr ⟨_,rfl,N,by omega⟩,fun h=>(by grind),p.2⟩;grind
   ·by_cases I:l.toN U=Nat.max j rows.length;rw[z8 C,TF,t9 I,TE]at f;refine⟨_,f,?_,fun h _=>(g h).elim⟩;rw[R0 (by omega)];exact .vague e
    ·rw[z8 C,TF,z8 I,TF,hg]at f;cases b with
     |cells V n2 e2 z2=>simp only[arr,rdC,Tk,Tm]at hb;obtain⟨rfl,rfl,rfl⟩:=hb;have M:z2=z:=p.2 rfl;subst M;simp only[t9 (show z2=ie.size by omega),TE,Nat.zero_sub]at f;refine⟨_,f,?_,fun h _=>(g h).elim⟩;rw[<-R,J,<-hz];exact PV.cut (l:=l.toI U) hF rfl hn hz hr hx hp' h1 (by omega) (by omega) ⟨.inr ⟨_,rfl,by omega,by omega⟩,.mk⟩
     |ro=>cases O
     |_=>simp[arr,rdC]at hb
theorem Kh {t e:Ax}{ie:Ba}(ht:P.underlying t=some (.slice e))(g:P.info? e=some ie)(I:ie.size=(kf P e).length){rows:Rows}(hv:PV P F (.sl e) v (.lst rows))(H:rows≠ []\/ ∃a n,v= .slice a n n){lo:Bb SV}{mx:SV}{M:Av}(j:OVD P U τ F lo vlo)(f:OVD P U τ F hi vhi)(p:VD P U τ F mx M){l h m O Q:E}(C:S9 lo (.int 0)=some l)(B:S9 hi O=some h)(D:S9 (some mx) Q=some m)(hh:hi≠none)(h1:0<=l.toI U)(h2:l.toI U<=h.toI U)(h3:h.toI U<=m.toI U)(h4:m.toI U<=rows.length):∃w,v8 P hp t v vlo vhi (some M)=some (w,hp)/\PV P F (.sl e) w (.lst (pQ rows (l.toI U) (h.toI U-l.toI U)))/\(h.toI U=m.toI U-> ∃a n,w= .slice a n n):=by
 have T:l.toI U=((l.toN U:Nat):Int):=by grind
 have S:h.toI U=((h.toN U:Nat):Int):=by grind
 have V:m.toI U=((m.toN U:Nat):Int):=by grind
 have R:(h.toI U-l.toI U).toNat=h.toN U-l.toN U:=by omega
 have G:∀ {i o:Nat},h.toI U=m.toI U-> ∃a n,(bif Nat.beq (m.toN U) (l.toN U)then Value.slice (some ⟨i,o,none⟩) (h.toN U-l.toN U) (m.toN U-l.toN U)else .slice (some ⟨i,o+l.toN U*ie.size,none⟩) (h.toN U-l.toN U) (m.toN U-l.toN U))= .slice a n n:=by
  intro i o e1;have:h.toN U=m.toN U:=by omega
  rw[this];cases Nat.beq (m.toN U) (l.toN U)<;>exact⟨_,_,rfl⟩
 cases hv with
 |nils=>simp only[Vh]at h4;refine⟨.slice none 0 0,M7 ht g (U3 j f p C B D h1 h2 h3 h4 rfl hh),?_,fun _=>⟨_,_,rfl⟩⟩;rw[R0 (by omega)];exact .nils e|vague=>rcases H with h| ⟨a,n,e⟩;grind;cases e
 |sl _ i o c b cs n z _ x hF hb hc hn hz hr hx hp'=>
  obtain⟨hc,r⟩:=hc;have J:PV P F (.sl e) (bif Nat.beq (m.toN U) (l.toN U)then Value.slice (some ⟨i,o,none⟩) (h.toN U-l.toN U) (m.toN U-l.toN U)else .slice (some ⟨i,o+l.toN U*ie.size,none⟩) (h.toN U-l.toN U) (m.toN U-l.toN U)) (.lst (pQ rows (l.toI U) (h.toI U-l.toI U)))\/ ¬m.toN U<unk:=by by_cases X:m.toN U<unk;left;by_cases q:m.toN U=l.toN U;rw[t9 q,TE,R0 (by omega),show h.toN U-l.toN U=0 by omega];exact PV.cut0 hF hb (by omega) hz ⟨.inl ⟨by omega,by omega⟩,fun _=>by omega,r.2⟩;rw[z8 q,TF,<-R,I,<-hz];exact PV.cut (l:=l.toI U) hF hb hn hz hr hx hp' h1 (by omega) (by omega) ⟨.inl ⟨by omega,by omega⟩,fun _=>by omega,r.2⟩;grind
  rcases hc with⟨N,A⟩| ⟨K,rfl,A,c3⟩;have W:=dX (hp:=hp) (i:=i) (a:=o) ht g N A (U3 j f p C B D h1 h2 h3 (by omega) rfl hh);grind;have L:=aN K rows.length;exact⟨_,(mL (hp:=hp) (i:=i) (a:=o) ht g A c3 (U3 j f p C B D h1 h2 h3 (by omega) rfl hh)),J.resolve_right (fun h=>h (sL (by omega))),G⟩
def KG {t:Ax}{a:SV}{lo mx:Bb SV}{I:Ag}(V:VD P U τ F a v)(p:OVD P U τ F lo vlo)(j:OVD P U τ F hi vhi)(B:OVD P U τ F mx I)(hs:SD P U τ F s hp):OKh P U (GW P U t a lo hi mx) τ F s hp (Hx P U hp t v vlo vhi I):=by
 unfold GW;split
 ·
  rename_i ht;split
  ·rename_i e;cases I with
   |some v=>exact B.elim|none=>split;rename_i l h D q;refine VK (M1.bind fun _ _ _ _ hb=>VJ ?_);obtain⟨h1,h2,h3⟩:=hb;rw[Q6]at h3;cases V;refine⟨.string ⟨(((e.den U).toStr.take (h.toN U)).drop (l.toN U)).toArray⟩,?_,VD.str' (Gf e l h)⟩;simp only[v8,ht];rw[I7 p j D q h1 h2 h3 rfl (fun hn=>by subst hn;simp only[S9,Tk]at q;subst q;show((cE e).toI U).toNat=_;rw[Q6];omega)];exact VA
  exact VA
 ·rename_i e ht;split;exact VA
  ·rename_i ie r;split
   ·
    cases V;split
    ·rename_i l h D q;cases I with
     |some v=>exact B.elim|none=>refine VK (M1.bind fun _ _ _ _ hb=>VJ ⟨.slice none 0 0,?_,.nils⟩);obtain⟨h1,h2,h3⟩:=hb;refine M7 ht r (I7 p j D q h1 h2 h3 rfl (fun hn=>?_));subst hn;simp only[S9,Tk]at q;subst q;rfl
    ·rename_i l h m' D q;cases I with
     |none=>exact B.elim|some vm=>split;rename_i m x T;refine VK (M1.bind fun _ _ _ _ hb=>OKp.need.bind fun _ _ _ _ hm=>VJ ⟨.slice none 0 0,?_,.nils⟩);obtain⟨h1,h2,h3⟩:=hb;have hm:=A4 hm;exact M7 ht r (U3 p j B D q T h1 h2 h3 hm rfl (by simp));exact VA
    exact VA
   ·
    rename_i b z off len cap;cases hz:Nat.beq z ie.size with
    |false=>exact VA|true=>
     simp only[TE];have H:z=ie.size:=Tp hz;split
     ·rename_i l h D q;cases I with
      |some v=>exact B.elim|none=>
       split
       ·
        rename_i c;refine Vy M1 fun _ s1 _ hs1 hb=>VK ?_;obtain⟨h1,h2,h3⟩:=hb;cases V with
        |sl _ _ _ _ _ i o c' f h0 G hc=>
         obtain⟨J,S,c3,c4⟩:=hc;subst S;refine(gR f h0 h1 h2 h3 c3 rfl).mono fun x hx=>⟨_,?_,hx⟩
         rw[dX ht r c3 (show len.toN U<=c.toN U by show(len.toI U).toNat<=(c.toI U).toNat;omega)
          (I7 p j D q h1 h2 (show h.toI U<=((c.toN U:Nat):Int) by show h.toI U<=(((c.toI U).toNat:Nat):Int);omega) rfl (fun hn=>by subst hn;simp only[S9,Tk]at q;subst q;rfl))]
         subst H;rfl
        |sl0 _ _ _ _ _ f h0 G hc=>
         have hc:=hc c rfl;refine(xU f h0 h1 h2 h3 (by omega)).mono fun x hx=>⟨_,?_,hx⟩
         refine M7 ht r (I7 p j D q h1 h2 (by omega) rfl (fun hn=>?_));subst hn;simp only[S9,Tk]at q;subst q;show(len.toI U).toNat=0;omega
       ·
        refine Vy M1 fun _ s1 o1 hs1 hb=>?_;obtain⟨h1,h2,h3⟩:=hb;have M:hi=none->h.toN U=len.toN U:=fun hn=>by subst hn;simp only[S9,Tk]at q;subst q;rfl
        unfold QA;cases aw:lG l with
        |true=>
         have hl:=yB (U:=U) aw;have ao:l.toN U=0:=by show(l.toI U).toNat=0;rw[hl];rfl
         refine VK (VJ ?_);cases V with
         |sl _ _ _ _ _ i o c' f h0 G hc=>
          obtain⟨g,rfl,J,S⟩:=hc;have A:len.toN U<=67108864:=by show(len.toI U).toNat<=_;omega
          have W:=dF J A;have hb:=I7 p j D q h1 h2 (show h.toI U<=((Nat.max g (len.toN U):Nat):Int) by
           have:=aN g (len.toN U);have e1:len.toI U=((len.toN U:Nat):Int):=by show len.toI U=((len.toI U).toNat:Int);omega
           omega) rfl M
          refine⟨_,by rw[fJ ht r J A hb,ao,t9 rfl,TE],?_⟩;exact Wc f h0 (by omega) ⟨Nat.max g (len.toN U),rfl,by omega,by omega⟩ rfl rfl
         |sl0 _ _ _ _ _ f h0 G hc=>refine⟨.slice none 0 0,M7 ht r (I7 p j D q h1 h2 (by omega) rfl (fun hn=>by rw[M hn];show(len.toI U).toNat=0;omega)),?_⟩;exact .sl0 b z off h .ge f h0 (by omega) (fun e he=>by cases he)
        |false=>
         simp only[TF];refine Vy VL fun tt s2 o2 ab Q=>VB ?_;rw[G9]at Q;split
         ·rename_i L e' z' ph hb;cases hq:Nat.beq e e'&&Nat.beq z z' with
          |false=>exact VA|true=>
           simp only[TE];simp only[Tl,Ub]at hq;obtain⟨rfl,rfl⟩:=hq;rcases ab.live b _ hb with⟨i,o,y,k1,k2,kF,cs,n,rfl,k4,k5⟩| ⟨k1,L',e',z',ax,k2,k3,k4,k5⟩
           ·cases V with
            |sl _ _ _ _ _ i' o' c' f h0 G hc=>
             rw[k1]at f;simp only[Tk,Tm]at f;obtain⟨rfl,rfl⟩:=f;obtain⟨g,rfl,J,S⟩:=hc;have A:len.toN U<=67108864:=by show(len.toI U).toNat<=_;omega
             have e1:len.toI U=((len.toN U:Nat):Int):=by show len.toI U=((len.toI U).toNat:Int);omega
             have ae:l.toI U=((l.toN U:Nat):Int):=by show l.toI U=((l.toI U).toNat:Int);omega
             have N:=aN g (len.toN U);have W:=dF J A;have X:=I7 p j D q h1 h2 (show h.toI U<=((Nat.max g (len.toN U):Nat):Int) by omega) rfl M;have hx:=fJ (hp:=hp) (i:=i) (a:=o+off.toN U*z) ht r J A X;cases tt with
             |true=>simp only[TE];simp only[TI]at Q;refine VK (VJ ?_);by_cases C:l.toN U=0;rw[t9 C,TE]at hx;refine⟨_,hx,Wc k1 (by rw[j7];omega) (by rw[v6];omega) ⟨Nat.max g (len.toN U),rfl,by omega,by rw[v6];omega⟩ ?_ ?_⟩;rw[oI h0 h1,C];simp;rw[eZ h1,C];simp;rw[z8 C,TF,z8 (by omega),TF,k2]at hx;simp only[t9 H,TE,Nat.zero_sub]at hx;refine⟨_,hx,Wc k1 (by rw[j7];omega) (by rw[v6];omega) ⟨Nat.max g (len.toN U)-l.toN U,rfl,by omega,by rw[v6];omega⟩ ?_ ?_⟩;rw[oI h0 h1,TX,H];omega;rw[eZ h1]|false=>
              simp only[TF];simp only[Uj]at Q;refine Vy VF fun _ s3 o3 au p1=>?_;have p1:=A4 p1;rw[j7,j2]at p1;have ai:s3.get b=some (.rows L e z ph):=by rw[o3.get];exact hb
              refine(OKh.freeze ai k1 k2).bind fun _ τ2 F2 s4 hp2 ex av ⟨f1,f2,f3⟩=>?_;subst f1;subst f2;refine VC ⟨rfl,?_⟩;have ay:l.toN U=len.toN U:=by omega
              have an:h.toN U-l.toN U=0:=by
               have:h.toI U=l.toI U:=by omega
               show(h.toI U).toNat-(l.toI U).toNat=0;rw[this];omega
              have ah:o+off.toN U*z+l.toN U*z<=n:=by
               have g1:=k4.1;have:off.toN U*z+l.toN U*z<=(L.toR U).length*z:=by rw[<-TX];exact Ty z (by show(off.toI U).toNat+l.toN U<=_;omega)
               omega
              have O:(E.op .nil []).toR U=[]:=rfl;by_cases C:l.toN U=0
              ·rw[t9 C,TE]at hx;have al:h.toN U=0:=by omega
               rw[al]at hx;refine⟨_,hx,.lst e _ false _ ?_ (fun h=>by cases h)⟩;rw[O];exact PV.cut0 f3 rfl (by omega) k4.2.1 ⟨.inr ⟨_,rfl,by omega,by omega⟩,.mk⟩
              by_cases ac:l.toN U=Nat.max g (len.toN U);rw[z8 C,TF,t9 ac,TE]at hx;refine⟨_,hx,.lst e _ false _ ?_ (fun h=>by cases h)⟩;rw[O];exact .vague e;rw[z8 C,TF,z8 ac,TF,k2]at hx;simp only[t9 H,TE,Nat.zero_sub,an]at hx;refine⟨_,hx,.lst e _ false _ ?_ (fun h=>by cases h)⟩;rw[O,<-H];exact PV.cut0 f3 rfl ah k4.2.1 ⟨.inr ⟨_,rfl,by omega,by omega⟩,.mk⟩
            |sl0 _ _ _ _ _ f h0 G hc=>rw[k1]at f;cases f
           ·cases V with
            |sl _ _ _ _ _ i' o' c' f h0 G hc=>rw[k1]at f;cases f
            |sl0 _ _ _ _ _ f h0 G hc=>
             have hx:v8 P hp t (.slice none 0 0) vlo vhi none=some (.slice none 0 0,hp):=M7 ht r (I7 p j D q h1 h2 (by omega) rfl (fun hn=>by rw[M hn];show(len.toI U).toNat=0;omega));cases tt with
             |true=>simp only[TI]at Q;omega|false=>simp only[TF];refine Vy VF fun _ s3 o3 au p1=>?_;refine OKh.drop.bind fun _ τ2 F2 s4 hp2 ex av ⟨f1,f2,f3⟩=>?_;subst f1;subst f2;subst f3;exact VC ⟨rfl,_,hx,.lst e _ false _ (.nils e) (fun h=>by cases h)⟩
         ·rename_i cl e' z' hb;cases hq:Nat.beq e e'&&Nat.beq z z'&&tt with
          |false=>exact VA|true=>
           simp only[TE];simp only[Tl,Ub]at hq;obtain⟨⟨rfl,rfl⟩,rfl⟩:=hq;simp only[TI]at Q;rcases ab.live b _ hb with⟨i,o,y,k1,k2,kF,cs,n,rfl,k4,k5⟩| ⟨k1,L',e',z',ax,k2,k3,k4,k5⟩
           ·cases V with
            |sl _ _ _ _ _ i' o' c' f h0 G hc=>
             rw[k1]at f;simp only[Tk,Tm]at f;obtain⟨rfl,rfl⟩:=f;obtain⟨g,rfl,J,S⟩:=hc;have A:len.toN U<=67108864:=by show(len.toI U).toNat<=_;omega
             have e1:len.toI U=((len.toN U:Nat):Int):=by show len.toI U=((len.toI U).toNat:Int);omega
             have ae:l.toI U=((l.toN U:Nat):Int):=by show l.toI U=((l.toI U).toNat:Int);omega
             have N:=aN g (len.toN U);have W:=dF J A;have X:=I7 p j D q h1 h2 (show h.toI U<=((Nat.max g (len.toN U):Nat):Int) by omega) rfl M;have hx:=fJ (hp:=hp) (i:=i) (a:=o+off.toN U*z) ht r J A X;refine VK (VJ ?_);by_cases C:l.toN U=0;rw[t9 C,TE]at hx;refine⟨_,hx,Wc k1 (by rw[j7];omega) (by rw[v6];omega) ⟨Nat.max g (len.toN U),rfl,by omega,by rw[v6];omega⟩ ?_ ?_⟩;rw[oI h0 h1,C];simp;rw[eZ h1,C];simp;rw[z8 C,TF,z8 (by omega),TF,k2]at hx;simp only[t9 H,TE,Nat.zero_sub]at hx;refine⟨_,hx,Wc k1 (by rw[j7];omega) (by rw[v6];omega) ⟨Nat.max g (len.toN U)-l.toN U,rfl,by omega,by rw[v6];omega⟩ ?_ ?_⟩;rw[oI h0 h1,TX,H];omega;rw[eZ h1]
            |sl0 _ _ _ _ _ f h0 G hc=>rw[k1]at f;cases f
           cases k2
         exact VA
       exact VA
     ·rename_i l h m' D q;cases I with
      |none=>exact B.elim|some vm=>
       split
       ·rename_i m x T;refine Vy M1 fun _ s1 _ hs1 hb=>Vy VF fun _ s2 _ ab hm=>VK ?_;obtain⟨h1,h2,h3⟩:=hb;have hm:=A4 hm;cases V with
        |sl _ _ _ _ _ i o c' f h0 G hc=>
         cases cap with
         |ex c=>
          obtain⟨J,S,c3,c4⟩:=hc;subst S;have aa:m.toI U<=((c.toN U:Nat):Int):=by have:m.toI U<=c.toI U:=hm;show m.toI U<=(((c.toI U).toNat:Nat):Int);omega
          have K:m.toN U<unk:=by show(m.toI U).toNat<unk;have:c.toN U<unk:=c3;omega
          refine(gR f h0 h1 h2 h3 K rfl).mono fun x hx=>⟨_,?_,hx⟩
          rw[dX ht r c3 (show len.toN U<=c.toN U by show(len.toI U).toNat<=(c.toI U).toNat;omega) (U3 p j B D q T h1 h2 h3 aa rfl (by simp))];subst H;rfl
         |ge=>
          obtain⟨g,rfl,J,S⟩:=hc;have hm:m.toI U<=len.toI U:=hm;have A:len.toN U<=67108864:=by show(len.toI U).toNat<=_;omega
          have e1:len.toI U=((len.toN U:Nat):Int):=by show len.toI U=((len.toI U).toNat:Int);omega
          have N:=aN g (len.toN U);have W:=dF J A;have K:m.toN U<unk:=sL (by show(m.toI U).toNat<=_;omega);refine(gR f h0 h1 h2 h3 K rfl).mono fun x hx=>⟨_,?_,hx⟩
          rw[mL ht r J A (U3 p j B D q T h1 h2 h3 (by omega) rfl (by simp))];subst H;rfl
         |un=>
          have hm:m.toI U<=len.toI U:=hm;rcases hc with⟨c3,rfl,S⟩| ⟨g,rfl,J,S⟩
          ·have aa:m.toI U<=((len.toN U:Nat):Int):=by show m.toI U<=(((len.toI U).toNat:Nat):Int);omega
           have K:m.toN U<unk:=by show(m.toI U).toNat<unk;have:(len.toI U).toNat<unk:=c3;omega
           refine(gR f h0 h1 h2 h3 K rfl).mono fun x hx=>⟨_,?_,hx⟩
           rw[dX ht r c3 (TK _) (U3 p j B D q T h1 h2 h3 aa rfl (by simp))];subst H;rfl
          ·have A:len.toN U<=67108864:=by show(len.toI U).toNat<=_;omega
           have e1:len.toI U=((len.toN U:Nat):Int):=by show len.toI U=((len.toI U).toNat:Int);omega
           have N:=aN g (len.toN U);have W:=dF J A;have K:m.toN U<unk:=sL (by show(m.toI U).toNat<=_;omega);refine(gR f h0 h1 h2 h3 K rfl).mono fun x hx=>⟨_,?_,hx⟩
           rw[mL ht r J A (U3 p j B D q T h1 h2 h3 (by omega) rfl (by simp))];subst H;rfl
        |sl0 _ _ _ _ _ f h0 G hc=>
         have ap:m.toI U<=0:=by
          cases cap with
          |ex c=>have:=hc c rfl;have hm:m.toI U<=c.toI U:=hm;omega|ge=>have hm:m.toI U<=len.toI U:=hm;omega|un=>have hm:m.toI U<=len.toI U:=hm;omega
         exact(xU f h0 h1 h2 h3 ap).mono fun x hx=>⟨_,M7 ht r (U3 p j B D q T h1 h2 h3 (by omega) rfl (by simp)),hx⟩
       exact VA
     exact VA
   ·
    rename_i e' L clip;cases hq:Nat.beq e e'&&Nat.beq ie.size (kf P e).length with
    |false=>exact VA|true=>
     simp only [TE];simp only [Tl, Ub] at hq;obtain ⟨rfl,ad⟩:=hq;cases V with
     |lst _ _ _ _ hv hc=>
      split
      ·rename_i l h D q;cases I with
       |some v=>exact B.elim|none=>
        refine VK (M1.bind fun _ _ _ _ hb=>C3.bind fun c _ _ _ Y=>VJ ?_);obtain⟨h1,h2,h3⟩:=hb;rw[j2]at h3;obtain⟨w,w1,w2,w3⟩:=Kg (hp:=hp) ht r ad hs.frz hv p j D q (j2 L) h1 h2 h3;refine⟨w,w1,.lst e c _ w ?_ (fun Z=>?_)⟩
        ·have:c.toR U=pQ (L.toR U) (l.toI U) (h.toI U-l.toI U):=by show(c.den U).rows=_;rw[Y,v6];rfl
         rw[this];exact w2
        simp only[Tl]at Z;exact w3 (hc Z.1) (by cases hi with|none=>rfl|some x=>simp at Z)
      ·rename_i l h m' D q;cases I with
       |none=>exact B.elim|some vm=>
        split
        ·rename_i m x T;refine VK (M1.bind fun _ _ _ _ hb=>OKp.need.bind fun _ _ _ _ hm=>?_);obtain⟨h1,h2,h3⟩:=hb;have hm:=A4 hm;rw[j2]at hm;refine OKp.bind (R:=fun _=>L.toR U≠ []\/ ∃a n,v= .slice a n n) ?_ fun _ _ _ _ aq=>?_
         ·cases clip with
          |true=>exact VJ (.inr (hc rfl))|false=>refine OKp.need.mono fun _ h=>.inl fun h'=>?_;have:=C7 h;rw[j2,h']at this;simp[B7]at this
         ·refine C3.bind fun c _ _ _ Y=>?_;obtain⟨w,w1,w2,w3⟩:=Kh (hp:=hp) ht r ad hv aq p j B D q T (by simp) h1 h2 h3 hm;have aj:c.toR U=pQ (L.toR U) (l.toI U) (h.toI U-l.toI U):=by show(c.den U).rows=_;rw[Y,v6];rfl
          rw[<-aj]at w2;cases E.like h m with
          |true=>simp only[TE];exact OKp.need.bind fun _ _ _ _ ak=>VJ ⟨w,w1,.lst e c true w w2 (fun _=>w3 (bL ak))⟩
          |false=>exact VJ ⟨w,w1,.lst e c false w w2 (fun h=>by cases h)⟩
        exact VA
      exact VA
   exact VA
 exact VA
