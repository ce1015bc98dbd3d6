/- The symbolic engine, parts 1, 2, 3, 4, 5, 6, 7, 8, 9, 10, 11, 12.
  Conditions: none. -/
import Derived.Test.YtoegfalhkackeaaGreatXm3
set_option linter.all false
namespace Go.Sx
abbrev Nd (p q:Prop):Prop:=p/\(p->q)
abbrev I64 (x:Int):Prop:=(¬x< -9223372036854775808)/\x<9223372036854775808
inductive Dat where
 |int (n:Int)
 |bool (b:Bool)
 |str (s:Ae)
 |lst (rows:List (List Dat))
abbrev Ar:=List Dat
abbrev Ab:=Nat ->Ar->Dat
instance : Inhabited Dat:=⟨.int 0⟩
def Dat.toInt (d:Dat):Int:=match d with| .int n=>n|_=>0
def Dat.toBool (d:Dat):Bool:=match d with| .bool b=>b|_=>false
def Dat.toStr (d:Dat):Ae:=match d with| .str s=>s|_=>[]
def Dat.rows (d:Dat):List (Ar):=match d with| .lst l=>l|_=>[]
abbrev Rows:=List (Ar)
def D1 (L:Rows)(i:Int)(j:Nat):Dat:=(L.getD i.toNat []).getD j (.int 0)
def i7 (L:Rows)(i:Int)(j:Nat)(d:Dat):Rows:=L.modify i.toNat (fun r=>r.set j d)
def pQ (L:Rows)(a n:Int):Rows:=(L.drop a.toNat).take n.toNat
def over (L:Rows)(a:Int)(l:Rows):Rows:=L.take a.toNat++l++L.drop (a.toNat+l.length)
def d8 (z:Nat):Nat->Ar->Rows
 |0,_=>[]
 |n+1,l=>l.take z::d8 z n (l.drop z)
inductive KV where
 |i (n:Int)
 |s (l:Ae)
 deriving DecidableEq
def KV.dat (k:KV):Dat:=match k with| .i n=>.int n| .s l=>.str l
def Dat.kv (d:Dat):KV:=match d with| .int n=>.i n| .str l=>.s l|_=>.i 0
def keyR (z:Nat)(r:Ar):List KV:=(r.take z).map Dat.kv
def OZ :Rows->List KV->Bool
 | [],_=>false|r::L,ks=>decide (keyR ks.length r=ks)||OZ L ks
def OY :Rows->List KV->Dat->Dat
 | [],_,d=>d|r::L,ks,d=>if keyR ks.length r=ks then r.getD ks.length (.int 0)else OY L ks d
def Pb :Rows->List KV->Dat->Rows
 | [],ks,v=>[ks.map KV.dat++ [v]]
 |r::L,ks,v=>if keyR ks.length r=ks then(ks.map KV.dat++ [v])::L else r::Pb L ks v
def Pa :Rows->List KV->Nat
 | [],_=>0|r::L,ks=>if keyR ks.length r=ks then 0 else Pa L ks+1
def runeAt (l:Ae)(i:Int):Int:=(Utf8.decode ⟨l.toArray⟩ i.toNat).1
def runeW (l:Ae)(i:Int):Int:=(Utf8.decode ⟨l.toArray⟩ i.toNat).2
inductive Sy where
 |add|sub|mul|tdiv|tmod
 |wrap (k:IntKind)
 |bits (op:BinOp) (k:IntKind)
 |shl (k:IntKind)|shr (k:IntKind)
 |lt|eqi|eqb|eqs|lts
 |not|and|or
 |len|get (j:Nat)|upd (j:Nat)|nil|app|part|over
 |rows (n z:Nat)|rep
 |slen|sidx|sapp|ssub|srune|srw
 |castI|castB|castS|castL
 |mhas|mget|mput|mix
 |user (n:Nat)
inductive E where
 |int (n:Int)
 |bool (c:Bool)
 |str (l:Ae)
 |var (n:Nat)
 |dat (n:Nat) (d:Dat)
 |op (o:Sy) (as:List E)
abbrev Au:=List E
instance : Inhabited E:=⟨.int 0⟩
section
variable (U :Ab)
def Sy.den (o:Sy)(as:Ar):Dat:=
 match o with
 | .add=>match as with| [a,b]=>.int (a.toInt+b.toInt)|_=>.int 0
 | .sub=>match as with| [a,b]=>.int (a.toInt-b.toInt)|_=>.int 0
 | .mul=>match as with| [a,b]=>.int (a.toInt*b.toInt)|_=>.int 0
 | .tdiv=>match as with| [a,b]=>.int (a.toInt.tdiv b.toInt)|_=>.int 0
 | .tmod=>match as with| [a,b]=>.int (a.toInt.tmod b.toInt)|_=>.int 0
 | .wrap k=>match as with| [a]=>.int (k.wrap a.toInt)|_=>.int 0
 | .bits op k=>match as with| [a,b]=>.int (Go.bits op k a.toInt b.toInt)|_=>.int 0
 | .shl k=>match as with| [a,b]=>.int (k.wrap (a.toInt*2^(min b.toInt.toNat k.bits)))|_=>.int 0
 | .shr k=>match as with| [a,b]=>.int (a.toInt.fdiv (2^(min b.toInt.toNat k.bits)))|_=>.int 0
 | .lt=>match as with| [a,b]=>.bool (decide (a.toInt<b.toInt))|_=>.int 0
 | .eqi=>match as with| [a,b]=>.bool (decide (a.toInt=b.toInt))|_=>.int 0
 | .eqb=>match as with| [a,b]=>.bool (a.toBool==b.toBool)|_=>.int 0
 | .eqs=>match as with| [a,b]=>.bool (a.toStr==b.toStr)|_=>.int 0
 | .lts=>match as with| [a,b]=>.bool (Op.bytesLess a.toStr b.toStr)|_=>.int 0
 | .not=>match as with| [a]=>.bool (!a.toBool)|_=>.int 0
 | .and=>match as with| [a,b]=>.bool (a.toBool&&b.toBool)|_=>.int 0
 | .or=>match as with| [a,b]=>.bool (a.toBool||b.toBool)|_=>.int 0
 | .len=>match as with| [l]=>.int l.rows.length|_=>.int 0
 | .get j=>match as with| [l,i]=>D1 l.rows i.toInt j|_=>.int 0
 | .upd j=>match as with| [l,i,c]=>.lst (i7 l.rows i.toInt j c)|_=>.int 0
 | .nil=>.lst []| .app=>match as with| [l,m]=>.lst (l.rows++m.rows)|_=>.int 0
 | .part=>match as with| [l,a,n]=>.lst (pQ l.rows a.toInt n.toInt)|_=>.int 0
 | .over=>match as with| [l,a,m]=>.lst (Sx.over l.rows a.toInt m.rows)|_=>.int 0
 | .rows n z=>.lst (d8 z n as)| .rep=>match as with|n::cs=>.lst (List.replicate n.toInt.toNat cs)|_=>.int 0
 | .slen=>match as with| [s]=>.int s.toStr.length|_=>.int 0
 | .sidx=>match as with| [s,i]=>.int ((s.toStr.getD i.toInt.toNat 0).toNat:Int)|_=>.int 0
 | .sapp=>match as with| [s,t]=>.str (s.toStr++t.toStr)|_=>.int 0
 | .ssub=>match as with| [s,a,b]=>.str ((s.toStr.take b.toInt.toNat).drop a.toInt.toNat)|_=>.int 0
 | .srune=>match as with| [s,i]=>.int (runeAt s.toStr i.toInt)|_=>.int 0
 | .srw=>match as with| [s,i]=>.int (runeW s.toStr i.toInt)|_=>.int 0
 | .castI=>match as with| [a]=>.int a.toInt|_=>.int 0
 | .castB=>match as with| [a]=>.bool a.toBool|_=>.int 0
 | .castS=>match as with| [a]=>.str a.toStr|_=>.int 0
 | .castL=>match as with| [a]=>.lst a.rows|_=>.int 0
 | .mhas=>match as with|l::ks=>.bool (OZ l.rows (ks.map Dat.kv))|_=>.int 0
 | .mget=>match as with|l::d::ks=>OY l.rows (ks.map Dat.kv) d|_=>.int 0
 | .mput=>match as with|l::v::ks=>.lst (Pb l.rows (ks.map Dat.kv) v)|_=>.int 0
 | .mix=>match as with|l::ks=>.int (Pa l.rows (ks.map Dat.kv):Nat)|_=>.int 0
 | .user n=>U n as
mutual
def E.den :E->Dat
 | .int n=>.int n| .bool c=>.bool c| .str l=>.str l| .var _=>.int 0| .dat _ d=>d| .op o as=>o.den U (E.dens as)
def E.dens :Au->Ar
 | []=>[]
 |a::as=>a.den::E.dens as
end
def E.dens_eq :∀as:Au,E.dens U as=as.map (E.den U)
 | []=>rfl|a::as=>by simp[E.dens,E.dens_eq as]
def E.pr :E->Prop
 | .bool c=>c=true| .op .lt [a,b]=>(a.den U).toInt<(b.den U).toInt| .op .eqi [a,b]=>(a.den U).toInt=(b.den U).toInt| .op .eqs [a,b]=>(a.den U).toStr=(b.den U).toStr| .op .not [a]=>¬a.pr| .op .and [a,b]=>a.pr/\b.pr| .op .or [a,b]=>a.pr\/b.pr|e=>(e.den U).toBool=true
theorem E.pr_iff (e:E):e.pr U↔(e.den U).toBool=true:=by
 fun_induction E.pr U e with
 |case1 c=>simp[E.den,Dat.toBool]|case2 a b=>simp[E.den,E.dens,Sy.den,Dat.toBool]|case3 a b=>simp[E.den,E.dens,Sy.den,Dat.toBool]|case4 a b=>simp[E.den,E.dens,Sy.den,Dat.toBool]|case5 a j=>simp[E.den,E.dens,Sy.den,Dat.toBool,j]|case6 a b f g=>simp[E.den,E.dens,Sy.den,Dat.toBool,f,g]|case7 a b f g=>simp[E.den,E.dens,Sy.den,Dat.toBool,f,g]|case8 e _ _ _ _ _ _ _=>grind
def Tk:type_of% @E.pr_iff:=@E.pr_iff
def Sy.like :Sy->Sy->Bool
 | .add,.add| .sub,.sub| .mul,.mul| .tdiv,.tdiv| .tmod,.tmod| .lt,.lt| .eqi,.eqi| .eqb,.eqb| .eqs,.eqs| .lts,.lts| .not,.not| .and,.and| .or,.or
 | .len,.len| .nil,.nil| .app,.app| .part,.part| .over,.over| .rep,.rep| .slen,.slen| .sidx,.sidx| .sapp,.sapp| .ssub,.ssub| .srune,.srune| .srw,.srw| .castI,.castI| .castB,.castB| .castS,.castS| .castL,.castL| .mhas,.mhas| .mget,.mget| .mput,.mput| .mix,.mix=>true
 | .shr k,.shr k'=>decide (k=k')| .wrap k,.wrap k'=>decide (k=k')| .shl k,.shl k'=>decide (k=k')| .bits o k,.bits o' k'=>decide (o=o')&&decide (k=k')| .get j,.get j'=>Nat.beq j j'| .upd j,.upd j'=>Nat.beq j j'| .user j,.user j'=>Nat.beq j j'| .rows n z,.rows n' z'=>Nat.beq n n'&&Nat.beq z z'|_,_=>false
mutual
def E.like :E->E->Bool
 | .int n,.int m=>decide (n=m)| .bool p,.bool q=>p==q| .str p,.str q=>p==q| .var n,.var m=>Nat.beq n m| .dat n _,.dat m _=>Nat.beq n m| .op o as,.op o' bs=>Sy.like o o'&&E.likes as bs|_,_=>false
def E.likes :Au->Au->Bool
 | [],[]=>true|a::as,b::bs=>E.like a b&&E.likes as bs|_,_=>false
end
inductive So where
 |i|b|s|l
 deriving DecidableEq
inductive Lab where
 |e (c:E)
 |p (name:String) (as:Au)
 |q (a b:E)
 |pt (name:String) (gs:List (List (So×E)))
 |mu (name:String) (g a b:List (So×E))
inductive Tr (α:Type) where
 |ret (a:α)
 |done
 |fail (s:String)
 |br (c:E) (t e:Tr α)
 |need (l:Lab) (p:Prop) (t:Tr α)
 |asm (l:Lab) (p:Prop) (t:Tr α)
 |both (t e:Tr α)
 |all (k:So) (n:Nat) (f:E->Tr α)
def Tr.bind {α β:Type}:Tr α->(α->Tr β)->Tr β
 | .ret a,k=>k a| .done,_=>.done| .fail s,_=>.fail s| .br c t e,k=>.br c (t.bind k) (e.bind k)| .need l p t,k=>.need l p (t.bind k)| .asm l p t,k=>.asm l p (t.bind k)| .both t e,k=>.both (t.bind k) (e.bind k)| .all o n f,k=>.all o n fun e=>(f e).bind k
def Tr.vc {α:Type}:Tr α->(α->Prop)->Prop
 | .ret a,Q=>Q a| .done,_=>True| .fail _,_=>False| .br c t e,Q=>(c.pr U->t.vc Q)/\(¬c.pr U->e.vc Q)| .need _ p t,Q=>p/\(p->t.vc Q)| .asm _ p t,Q=>p->t.vc Q| .both t e,Q=>t.vc Q/\e.vc Q| .all .i n f,Q=>∀x:Int,(f (.dat n (.int x))).vc Q| .all .b n f,Q=>∀x:Bool,(f (.dat n (.bool x))).vc Q| .all .s n f,Q=>∀x:Ae,(f (.dat n (.str x))).vc Q| .all .l n f,Q=>∀x:Rows,(f (.dat n (.lst x))).vc Q
def Tr.vc_bind {α g:Type}(t:Tr α)(k:α->Tr g)(Q:g->Prop):(t.bind k).vc U Q↔t.vc U fun a=>(k a).vc U Q:=by
 induction t with
 |ret a=>exact Iff.rfl|done=>exact Iff.rfl|fail s=>exact Iff.rfl|br c t e h1 h2=>simp only[Tr.bind,Tr.vc,h1,h2]|need l p t h=>simp only[Tr.bind,Tr.vc,h]|asm l p t h=>simp only[Tr.bind,Tr.vc,h]|both t e h1 h2=>simp only[Tr.bind,Tr.vc,h1,h2]|all k n f h=>cases k<;>simp only[Tr.bind,Tr.vc,h]
def TT:type_of% @Tr.vc_bind:=@Tr.vc_bind
def Tr.vc_mono {α:Type}(t:Tr α){Q R:α->Prop}(hq:∀a,Q a->R a):t.vc U Q->t.vc U R:=by
 induction t with
 |ret a=>exact hq a|done=>exact id|fail s=>exact id|br c t e h1 h2=>exact fun h=>⟨fun x=>h1 (h.1 x),fun x=>h2 (h.2 x)⟩
 |need l p t h=>exact fun x=>⟨x.1,fun y=>h (x.2 y)⟩
 |asm l p t h=>exact fun x y=>h (x y)
 |both t e h1 h2=>exact fun h=>⟨h1 h.1,h2 h.2⟩
 |all k n f h=>cases k<;>exact fun x y=>h _ (x y)
end
open Go.Xe
inductive Cp where
 |ex (e:E)
 |ge
 |un
inductive SV where
 |any
 |int (k:IntKind) (e:E)
 |bool (e:E)
 |str (e:E)
 |nilp
 |ptr (b z:Nat) (row:E) (fld:Nat)
 |pptr (t:Ax) (L row:E) (fld:Nat)
 |rp (row:E) (fld:Nat)
 |rpq (e:E)
 |rv (L:E) (z:Nat)
 |nils
 |sl (b z:Nat) (off len:E) (cap:Cp)
 |lst (t:Ax) (L:E) (clip:Bool)
 |agg (l:List SV)
 |tup (l:List SV)
 |fn (f:Fn) (a b:List SV)
 |nilf
 |map (b:Nat)
 |nilm
 |iface (t:Ax) (v:SV)
 |nili
 |yld (ks:Ah) (vs:List SV) (g:Ay) (nt:Nat) (ps:Ah) (as bo:Code)
abbrev As:=List SV
instance : Inhabited SV:=⟨.any⟩
def lk {α:Type}:List (Nat×α)->Nat->Bb α
 | [],_=>none| (k,a)::l,n=>bif Nat.beq k n then some a else lk l n
mutual
def noY :SV->Bool
 | .yld _ _ _ _ _ _ _=>false| .agg l=>noYs l| .tup l=>noYs l| .fn _ a b=>noYs a&&noYs b| .iface _ v=>noY v|_=>true
def noYs :As->Bool
 | []=>true|a::l=>noY a&&noYs l
end
inductive Kd where
 |int (k:IntKind)
 |bool
 |str
 |sl (e:Ax)
 |rp
 |bad
 deriving DecidableEq
def kd1 (P:Aw)(t:Ax):Kd:=match P.underlying t with
 |some (.int k)=>.int k|some .bool=>.bool|some .string=>.str|some (.slice e)=>.sl e|some (.pointer e)=>bif Nat.beq e rgT then .rp else .bad|_=>.bad
def kdF (f:Ax->List Kd):List Field->List Kd
 | []=>[]
 |x::xs=>f x.type++kdF f xs
def kds (P:Aw):Nat->Ax->List Kd
 |0,_=>[.bad]
 |d+1,t=>match P.underlying t with
  |some (.struct fs)=>kdF (kds P d) fs.toList|some (.array n e)=>(List.replicate n (kds P d e)).flatten|_=>[kd1 P t]
def kf (P:Aw)(t:Ax):List Kd:=kds P 20 t
def kpart (P:Aw)(f:Field):Bb Kd:=bif f.name== "_" then none else match P.underlying f.type with
 |some (.int k)=>some (.int k)|some .string=>some .str|_=>none
def KU (P:Aw):Nat->List Field->Bb (List Kd)
 |_,[]=>some []|o,f::fs=>bif Nat.beq f.offset o then match kpart P f with
  |some k=>match KU P (o+1) fs with
   |some ks=>some (k::ks)|none=>none
  |none=>none
  else none
def EZ (P:Aw)(kt:Ax):Bb (Bool×List Kd):=
 match P.underlying kt with
 |some (.int k)=>some (false,[.int k])|some (.struct fs)=>bif P.stoodInHeld kt then none else match KU P 0 fs.toList with
  |some ks=>some (true,ks)|none=>none
 |_=>none
def kv1 (k:Kd)(x:KV):Av:=match x with
 | .s l=>.string ⟨l.toArray⟩| .i n=>match k with| .int k=>.int k n|_=>.int .i64 n
def kfit :List Kd->List KV->Bool
 | [],[]=>true|k::ps,x::ks=>(match k,x with| .int _,.i _=>true| .str,.s _=>true|_,_=>false)&&kfit ps ks|_,_=>false
def keyL (ps:List Kd)(ks:List KV):Af:=List.zipWith kv1 ps ks
def keyV (sh:Bool×List Kd)(ks:List KV):Av:=bif sh.1 then .agg (keyL sh.2 ks).toArray else(keyL sh.2 ks).headD undef
inductive B6 where
 |cells (l:As) (e z:Nat)
 |rows (L:E) (e z:Nat) (ph:E)
 |map (L:E) (kt vt:Ax)
 |iter (s pos:E)
 |reg (b:Nat) (L:E) (z:Nat)
structure SS where
 h:List (Nat×Bb B6)
 nx:Nat
 fc:List (E×Bool)
 fv:Nat
 fz:List (Nat×E×Ax×Nat)
def SS.get (s:SS)(b:Nat):Bb B6:=match lk s.h b with|some x=>x|none=>none
def SS.set (s:SS)(b:Nat)(x:Bb B6):SS:= {s with h:=(b,x)::s.h}
def z8 {α:Type}(k n:Nat)(a:α)(l:List (Nat×α)):lk ((k,a)::l) n=if k=n then some a else lk l n:=by by_cases h:k=n;rw[Rh h,lk,v9 h];rfl;rw[Re h,lk,z6 h];rfl
theorem Z8 {α:Type}{b:Nat}{x:α}:∀ {l:List (Nat×α)},lk l b=some x->(b,x)∈l
 | [],h=>by cases h
 | (k,y)::l,h=>by rw[z8]at h;split at h;grind;exact RV _ (Z8 h)
theorem SS.get_set (s:SS)(b c:Nat)(x:Bb B6):(s.set b x).get c=if c=b then x else s.get c:=by unfold SS.get SS.set;simp only[z8];grind
def TH:type_of% @SS.get_set:=@SS.get_set
def arr (b:Blk):Bb (Ao×Nat×Nat):=rdC b
def roC (b:Blk)(c zb z:Nat):Prop:=(bI b=true->c<unk)/\(bI b=false->zb=z)
def roC.mk {b:Blk}{c z:Nat}(h:bI b=false:=by rfl):roC b c z z:=⟨fun e=>(by rw[h]at e;cases e),fun _=>rfl⟩
def wW (l c:Nat):Prop:=(c<unk/\l<=c)\/(∃lo,c=d9 lo 0/\lo<=67108864/\l<=67108864)
section
variable (P :Aw)
inductive PV (F:Ac):Kd->Av->Dat->Prop
 |int (k:IntKind) (n:Int):PV F (.int k) (.int k n) (.int n)
 |bool (b:Bool):PV F .bool (.bool b) (.bool b)
 |str (s:Ae):PV F .str (.string ⟨s.toArray⟩) (.str s)
 |nils (e:Ax):PV F (.sl e) (.slice none 0 0) (.lst [])
 |rp (k:Nat):PV F .rp (.pointer (some ⟨k,0,some 1⟩)) (.int k)
 |rpn:PV F .rp (.pointer none) (.int (-1))
 |vague (e:Ax):PV F (.sl e) (.slice (some ⟨0,0,some 0⟩) 0 unk) (.lst [])
 | sl (e : Ax) (i o c : Nat) (b : Blk) (cs : Ao) (n z : Nat) {zb : Nat} (rows : Rows) (x : Nat → Nat → Av) (hF : F i = some b) (hb : arr b = some (cs, n, zb)) (hc : wW rows.length c ∧ roC b c zb z)
   (hn:o+rows.length*z<=n) (hz:z=(kf P e).length) (hr:∀r∈rows,r.length=z)
   (hx:∀(r k:Nat) (row:Ar) (d:Dat),rows[r]? =some row->row[k]? =some d->cs.get (o+r*z+k)=some (x r k))
   (hp:∀(r k:Nat) (row:Ar) (kd:Kd) (d:Dat),rows[r]? =some row->row[k]? =some d->(kf P e)[k]? =some kd->PV F kd (x r k) d):
   PV F (.sl e) (.slice (some ⟨i,o,none⟩) rows.length c) (.lst rows)
def Fle (F F':Ac):Prop:=∀i b,F i=some b->F' i=some b
def Fle.refl (F:Ac):Fle F F:=fun _ _ h=>h
def Tn:type_of% @Fle.refl:=@Fle.refl
variable {F:Ac}
def Fle.trans {G H:Ac}(h:Fle F G)(k:Fle G H):Fle F H:=fun i b e=>k i b (h i b e)
variable {F':Ac}{v:Av}
def PV.mono (h:Fle F F'){k:Kd}{d:Dat}(p:PV P F k v d):PV P F' k v d:=by
 induction p with
 |int k n=>exact .int k n|bool b=>exact .bool b|str s=>exact .str s|nils e=>exact .nils e|rp k=>exact .rp k|rpn=>exact .rpn|vague e=>exact .vague e|sl e i o c b cs n z rows x hF hb hc hn hz hr hx _ f=>exact .sl e i o c b cs n z rows x (h _ _ hF) hb hc hn hz hr hx f
abbrev Tau:=Nat->Bb (Bb (Nat×Nat))
variable (U :Ab)
abbrev E.toI (e:E):Int:=(e.den U).toInt
abbrev E.toN (e:E):Nat:=(e.den U).toInt.toNat
abbrev E.toR (e:E):Rows:=(e.den U).rows
def lX (len:E):Cp->Nat->Prop
 | .ex e,c=>0<=e.toI U/\c=e.toN U/\c<unk/\len.toI U<=e.toI U| .ge,c=>∃lo,c=d9 lo 0/\lo<=67108864/\len.toI U<=67108864| .un,c=>(c<unk/\c=len.toN U/\len.toI U<=67108864)\/ ∃lo,c=d9 lo 0/\lo<=67108864/\len.toI U<=67108864
def RowsIn (F:Ac)(z:Nat)(xs:Af)(rows:Rows):Prop:=
 xs.length=rows.length*z/\z=(kf P rgT).length/\(∀r∈rows,r.length=z)/\
 ∀(r k:Nat) (row:Ar) (d:Dat),rows[r]? =some row->row[k]? =some d-> ∃x,xs[r*z+k]? =some x/\ ∀kd,(kf P rgT)[k]? =some kd->PV P F kd x d
def RowsIn.mono (h:Fle F F'){z:Nat}{xs:Af}{rows:Rows}(p:RowsIn P F z xs rows):RowsIn P F' z xs rows:=
 ⟨p.1,p.2.1,p.2.2.1,fun r k row d hr hk=>let⟨x,k1,k2⟩:=p.2.2.2 r k row d hr hk;⟨x,k1,fun kd f=>(k2 kd f).mono P h⟩⟩
inductive VD (τ:Tau)(F:Ac):SV->Av->Prop
 |any (v:Av):VD τ F .any v
 |int (k:IntKind) (e:E):VD τ F (.int k e) (.int k (e.toI U))
 |bool (e:E):VD τ F (.bool e) (.bool (e.den U).toBool)
 |str (e:E):VD τ F (.str e) (.string ⟨(e.den U).toStr.toArray⟩)
 |nilp:VD τ F .nilp (.pointer none)
 |ptr (b z:Nat) (row:E) (fld i o:Nat) (h:τ b=some (some (i,o))) (h0:0<=row.toI U):VD τ F (.ptr b z row fld) (.pointer (some ⟨i,o+row.toN U*z+fld,none⟩))
 | pptr (t : Ax) (L row : E) (fld i o l c : Nat) (h : PV P F (.sl t) (.slice (some ⟨i, o, none⟩) l c) (.lst (L.toR U))) (h0 : 0 ≤ row.toI U) (h1 : row.toI U < (L.toR U).length) :
   VD τ F (.pptr t L row fld) (.pointer (some ⟨i,o+row.toN U*(kf P t).length+fld,none⟩))
 |rp (row:E) (fld:Nat) (h0:0<=row.toI U):VD τ F (.rp row fld) (.pointer (some ⟨row.toN U,fld,some 1⟩))
 |rpq (e:E) (v:Av) (h:PV P F .rp v (.int (e.toI U))):VD τ F (.rpq e) v
 |rv (L:E) (z:Nat) (xs:Af) (h:RowsIn P F z xs (L.toR U)):VD τ F (.rv L z) (.func (.func 0) xs.toArray #[])
 |nils:VD τ F .nils (.slice none 0 0)
 | sl (b z : Nat) (off len : E) (cap : Cp) (i o c : Nat) (h : τ b = some (some (i, o))) (h0 : 0 ≤ off.toI U) (h1 : 0 ≤ len.toI U) (hc : lX U len cap c) :
   VD τ F (.sl b z off len cap) (.slice (some ⟨i,o+off.toN U*z,none⟩) (len.toN U) c)
 |sl0 (b z:Nat) (off len:E) (cap:Cp) (h:τ b=some none) (h0:off.toI U=0) (h1:len.toI U=0) (hc:∀e,cap= .ex e->e.toI U=0):VD τ F (.sl b z off len cap) (.slice none 0 0)
 |lst (t:Ax) (L:E) (clip:Bool) (v:Av) (h:PV P F (.sl t) v (.lst (L.toR U))) (hc:clip=true-> ∃a l,v= .slice a l l):VD τ F (.lst t L clip) v
 |agg (l:As) (xs:Af) (h1:l.length=xs.length) (h2:∀(i:Nat) a x,l[i]? =some a->xs[i]? =some x->VD τ F a x):VD τ F (.agg l) (.agg xs.toArray)
 |tup (l:As) (xs:Af) (h1:l.length=xs.length) (h2:∀(i:Nat) a x,l[i]? =some a->xs[i]? =some x->VD τ F a x):VD τ F (.tup l) (.tuple xs.toArray)
 | fn (f : Fn) (l m : As) (xs ys : Af) (h1 : l.length = xs.length) (h2 : ∀ (i : Nat) a x, l[i]? = some a → xs[i]? = some x → VD τ F a x)
   (h3:m.length=ys.length) (h4:∀(i:Nat) a x,m[i]? =some a->ys[i]? =some x->VD τ F a x):VD τ F (.fn f l m) (.func f xs.toArray ys.toArray)
 |nilf:VD τ F .nilf .nilFunc
 |map (b i o:Nat) (h:τ b=some (some (i,o))):VD τ F (.map b) (.map (some i))
 |nilm:VD τ F .nilm (.map none)
 |iface (t:Ax) (v:SV) (x:Av) (h:VD τ F v x):VD τ F (.iface t v) (.iface t x)
 |nili:VD τ F .nili .nilIface
 | yld (ks : Ah) (vs : As) (g : Ay) (nt : Nat) (ps : Ah) (as bo : Code) (i : Nat) (tms : Ao) (pr : Array Tmp) (db : Nat) (hF : F i = some (.loop .ready none nt tms pr as bo db)) (hp : pr.toList = ps)
   (h:∀k a,lk (ks.zip vs) k=some a->VD τ F a ((tms.get k).getD undef)):VD τ F (.yld ks vs g nt ps as bo) (.chan (some i))
def Tle (τ τ':Tau):Prop:=∀b p,τ b=some p->τ' b=some p
def Tle.refl (τ:Tau):Tle τ τ:=fun _ _ h=>h
def TS:type_of% @Tle.refl:=@Tle.refl
def Tle.trans {a b c:Tau}(h:Tle a b)(k:Tle b c):Tle a c:=fun i p e=>k i p (h i p e)
variable {P U}
variable {τ:Tau}
def VD.mono {τ':Tau}(ht:Tle τ τ')(h:Fle F F'){s:SV}(p:VD P U τ F s v):VD P U τ' F' s v:=by
 induction p with
 |any v=>exact .any v|int k e=>exact .int k e|bool e=>exact .bool e|str e=>exact .str e|nilp=>exact .nilp|ptr b z row fld i o k h0=>exact .ptr b z row fld i o (ht _ _ k) h0|pptr t L row fld i o l c k h0 h1=>exact .pptr t L row fld i o l c (k.mono P h) h0 h1|rp row fld h0=>exact .rp row fld h0|rpq e v k=>exact .rpq e v (k.mono P h)|rv L z xs k=>exact .rv L z xs (k.mono P h)|nils=>exact .nils|sl b z off len cap i o c k h0 h1 hc=>exact .sl b z off len cap i o c (ht _ _ k) h0 h1 hc|sl0 b z off len cap k h0 h1 hc=>exact .sl0 b z off len cap (ht _ _ k) h0 h1 hc|lst t L clip v k hc=>exact .lst t L clip v (k.mono P h) hc|agg l xs h1 _ j=>exact .agg l xs h1 j|tup l xs h1 _ j=>exact .tup l xs h1 j|fn f l m xs ys h1 _ h3 _ q r=>exact .fn f l m xs ys h1 q h3 r|nilf=>exact .nilf|map b i o k=>exact .map b i o (ht _ _ k)|nilm=>exact .nilm|iface t v x _ j=>exact .iface t v x j|nili=>exact .nili|yld ks vs g nt ps as bo i tms pr db hF hp _ j=>exact .yld ks vs g nt ps as bo i tms pr db (h _ _ hF) hp j
def PV.sub (h:∀i y,F i=some y->(arr y).isSome=true->F' i=some y){k:Kd}{d:Dat}(p:PV P F k v d):PV P F' k v d:=by
 induction p with
 |int k n=>exact .int k n|bool b=>exact .bool b|str s=>exact .str s|nils e=>exact .nils e|rp k=>exact .rp k|rpn=>exact .rpn|vague e=>exact .vague e|sl e i o c b cs n z rows x hF hb hc hn hz hr hx _ f=>exact .sl e i o c b cs n z rows x (h _ _ hF (by rw[hb];rfl)) hb hc hn hz hr hx f
theorem cQ :∀ {l:As} {i:Nat} {a:SV},noYs l=true->l[i]? =some a->noY a=true
 | [],i,a,_,h=>by grind|b::l,i,a,hn,h=>by
  unfold noYs at hn;rw[QJ]at hn;cases i with
  |zero=>grind|succ i=>exact cQ hn.2 h
def VD.sub (p:Bool)(h:∀i y,F i=some y->((arr y).isSome=true\/p=true/\y≠ .dfr)->F' i=some y){s:SV}(hv:VD P U τ F s v)(hn:p=true\/noY s=true):VD P U τ F' s v:=by
 have B:∀i y,F i=some y->(arr y).isSome=true->F' i=some y:=fun i y h1 h2=>h i y h1 (.inl h2);induction hv with
 |any v=>exact .any v|int k e=>exact .int k e|bool e=>exact .bool e|str e=>exact .str e|nilp=>exact .nilp|ptr b z row fld i o k h0=>exact .ptr b z row fld i o k h0|pptr t L row fld i o l c k h0 h1=>exact .pptr t L row fld i o l c (k.sub B) h0 h1|rp row fld h0=>exact .rp row fld h0|rpq e v k=>exact .rpq e v (k.sub B)|rv L z xs k=>exact .rv L z xs ⟨k.1,k.2.1,k.2.2.1,fun r q row d hr hq=>let⟨x,k1,k2⟩:=k.2.2.2 r q row d hr hq;⟨x,k1,fun kd C=>(k2 kd C).sub B⟩⟩|nils=>exact .nils|sl b z off len cap i o c k h0 h1 hc=>exact .sl b z off len cap i o c k h0 h1 hc|sl0 b z off len cap k h0 h1 hc=>exact .sl0 b z off len cap k h0 h1 hc|lst t L clip v k hc=>exact .lst t L clip v (k.sub B) hc|agg l xs h1 _ w=>exact .agg l xs h1 fun i a x j hx=>w i a x j hx (hn.imp id fun k=>cQ (by unfold noY at k;exact k) j)
 |tup l xs h1 _ w=>exact .tup l xs h1 fun i a x j hx=>w i a x j hx (hn.imp id fun k=>cQ (by unfold noY at k;exact k) j)
 |fn f l m xs ys h1 _ h3 _ D E=>
  have A:p=true\/noYs l=true/\noYs m=true:=hn.imp id fun k=>by unfold noY at k;rwa[QJ]at k
  exact .fn f l m xs ys h1 (fun i a x j hx=>D i a x j hx (A.imp id fun k=>cQ k.1 j)) h3 fun i a x j hx=>E i a x j hx (A.imp id fun k=>cQ k.2 j)
 |nilf=>exact .nilf|map b i o k=>exact .map b i o k|nilm=>exact .nilm|iface t v x _ w=>exact .iface t v x (w (hn.imp id fun k=>by unfold noY at k;exact k))|nili=>exact .nili|yld ks vs g nt ps as bo i tms pr db hF hp _ w=>rcases hn with hn|hn;exact .yld ks vs g nt ps as bo i tms pr db (h _ _ hF (.inr ⟨hn,by simp⟩)) hp fun k a j=>w k a j (.inl hn);unfold noY at hn;cases hn
variable (P U)
def VDL (τ:Tau)(F:Ac)(l:As)(xs:Af):Prop:=l.length=xs.length/\ ∀(i:Nat) a x,l[i]? =some a->xs[i]? =some x->VD P U τ F a x
def A7 (F:Ac)(e:Ax)(z o n:Nat)(cs:Ao)(rows:Rows):Prop:=
 o+rows.length*z<=n/\z=(kf P e).length/\(∀r∈rows,r.length=z)/\
 ∀(r k:Nat) (row:Ar) (d:Dat),rows[r]? =some row->row[k]? =some d-> ∃x,cs.get (o+r*z+k)=some x/\ ∀kd,(kf P e)[k]? =some kd->PV P F kd x d
def lK (F:Ac)(kt vt:Ax)(es:List (Av×Av))(rows:Rows):Prop:=
 es.length=rows.length/\ ∀(j:Nat) row e,rows[j]? =some row->es[j]? =some e-> ∃sh ks d,EZ P kt=some sh/\kfit sh.2 ks=true/\row=ks.map KV.dat++ [d]/\e.1=keyV sh ks/\PV P F (kd1 P vt) e.2 d
def BD (τ:Tau)(F:Ac)(o:Nat):B6->Blk->Prop
 | .cells l e z,b=>∃cs n,b= .cells cs n e z/\o+l.length<=n/\ ∀(j:Nat) a,l[j]? =some a-> ∃x,cs.get (o+j)=some x/\VD P U τ F a x| .rows L e z ph,b=>∃cs n,b= .cells cs n e z/\A7 P F e z o n cs (L.toR U)/\o+ph.toN U*z<=n| .map L kt vt,b=>o=0/\ ∃es reg,b= .map es reg/\reg=true/\lK P F kt vt es (L.toR U)| .reg r L z,b=>o=0/\τ r=some (some (0,0))/\ ∃cs,b= .reg cs (L.toR U).length rgT z/\A7 P F rgT z 0 ((L.toR U).length*z) cs (L.toR U)| .iter s pos,b=>o=0/\ ∃n:Nat,b= .sit ⟨(s.den U).toStr.toArray⟩ n/\pos.toI U=n
def Ic (τ:Tau)(F:Ac)(r:Nat×E×Ax×Nat):Prop:=
 (∃i o cs n,τ r.1=some (some (i,o))/\F i=some (.cells cs n r.2.2.1 r.2.2.2)/\A7 P F r.2.2.1 r.2.2.2 o n cs (r.2.1.toR U))\/(τ r.1=some none/\r.2.1.toR U=[])
structure SD (τ:Tau)(F:Ac)(s:SS)(hp:Hp):Prop where
 live:∀b x,s.get b=some x->(∃i o y,τ b=some (some (i,o))/\hp.m.get i=some y/\F i=none/\BD P U τ F o x y)\/
  (τ b=some none/\ ∃L e z ph,x= .rows L e z ph/\L.toR U=[]/\z=(kf P e).length/\ph.toI U<=0)
 inj:∀b c x y i o j q,s.get b=some x->s.get c=some y->b≠c->τ b=some (some (i,o))->τ c=some (some (j,q))->i≠j
 frz:∀i b,F i=some b->hp.m.get i=some b
 lt:∀b i o,τ b=some (some (i,o))->i<hp.nx
 flt:∀i b,F i=some b->i<hp.nx
 new:∀b,s.nx<=b->τ b=none
 fc:∀c t,(c,t)∈s.fc->(c.den U).toBool=t
 fz:∀r∈s.fz,Ic P U τ F r
def nyS (s:SS):Bool:=s.h.all fun p=>match p.2 with
 |some (.cells l _ _)=>noYs l|_=>true
variable {P U}
def BD.sub (p:Bool)(h:∀i y,F i=some y->((arr y).isSome=true\/p=true/\y≠ .dfr)->F' i=some y){o:Nat}{x:B6}{y:Blk}(hb:BD P U τ F o x y)(hn:p=true\/ ∀l e z,x= .cells l e z->noYs l=true):BD P U τ F' o x y:=by
 have m:∀i y,F i=some y->(arr y).isSome=true->F' i=some y:=fun i y h1 h2=>h i y h1 (.inl h2);cases x with
 |cells l e z=>obtain⟨cs,n,h1,h2,h3⟩:=hb;exact⟨cs,n,h1,h2,fun j a w=>let⟨x,k1,k2⟩:=h3 j a w;⟨x,k1,k2.sub p h (hn.imp id fun k=>cQ (k l e z rfl) w)⟩⟩
 |rows L e z ph=>obtain⟨cs,n,h1,⟨h2,h3,h4,f⟩,g⟩:=hb;exact⟨cs,n,h1,⟨h2,h3,h4,fun r k row d hr q=>let⟨x,k1,k2⟩:=f r k row d hr q;⟨x,k1,fun kd hk=>(k2 kd hk).sub m⟩⟩,g⟩
 |map L kt vt=>obtain⟨h0,es,reg,h1,hr,h2,h3⟩:=hb;exact⟨h0,es,reg,h1,hr,h2,fun j row e hr he=>let⟨C,ks,d,k1,k2,k3,A,B⟩:=h3 j row e hr he;⟨C,ks,d,k1,k2,k3,A,B.sub m⟩⟩
 |iter s pos=>exact hb|reg r L z=>obtain⟨h0,g,cs,h1,h2,h3,h4,f⟩:=hb;exact⟨h0,g,cs,h1,h2,h3,h4,fun r k row d hr q=>let⟨x,k1,k2⟩:=f r k row d hr q;⟨x,k1,fun kd hk=>(k2 kd hk).sub m⟩⟩
theorem SD.sub {s:SS}{hp hp':Hp}(hs:SD P U τ F s hp)(p:Bool)(h:∀i y,F i=some y->((arr y).isSome=true\/p=true/\y≠ .dfr)->F' i=some y)(hn:p=true\/nyS s=true)(f:hp.nx<=hp'.nx)(hm:∀b x i o,s.get b=some x->τ b=some (some (i,o))->hp'.m.get i=hp.m.get i/\F' i=none)(hf:∀i y,F' i=some y->hp'.m.get i=some y/\i<hp'.nx):SD P U τ F' s hp':=by refine⟨fun b x hb=>?_,hs.inj,fun i y hy=>(hf i y hy).1,fun b i o hb=>RP (hs.lt b i o hb) f,fun i y hy=>(hf i y hy).2,hs.new,hs.fc,fun r hr=>?_⟩;rcases hs.live b x hb with⟨i,o,y,h1,h2,h3,h4⟩|h1;obtain⟨k1,k2⟩:=hm b x i o hb h1;refine .inl ⟨i,o,y,h1,by grind,k2,h4.sub p h (hn.imp id fun k l e z hx=>?_)⟩;unfold nyS at k;rw[Rq]at k;subst hx;unfold SS.get at hb;split at hb;rename_i q hq;subst hb;exact k _ (Z8 hq);grind;grind;rcases hs.fz r hr with⟨i,o,cs,n,h1,h2,h3,h4,g,j⟩|h1;exact .inl ⟨i,o,cs,n,h1,h _ _ h2 (.inl rfl),h3,h4,g,fun a k row d hr w=>let⟨x,k1,k2⟩:=j a k row d hr w;⟨x,k1,fun kd hk=>(k2 kd hk).sub fun i y h1 h2=>h i y h1 (.inl h2)⟩⟩;exact .inr h1
end
def y7 (a b:E):E:=match a,b with
 | .int m,.int n=>.int (m+n)| .int m,b=>bif decide (m=0)then b else .op .add [b,.int m]| .op .add [x,.int m],.int n=>bif decide (m+n=0)then x else .op .add [x,.int (m+n)]|a,.int n=>bif decide (n=0)then a else .op .add [a,.int n]|a,b=>.op .add [a,b]
def M3 (a b:E):E:=match b with
 | .int n=>y7 a (.int (-n))|b=>.op .sub [a,b]
def Ld (a b:E):E:=match a,b with
 | .int m,.int n=>.int (m*n)|a,b=>.op .mul [a,b]
def y8 (a:E):E:=match a with
 | .bool c=>.bool (!c)| .op .not [x]=>x|a=>.op .not [a]
def z4 (a b:E):E:=match a,b with
 | .int m,.int n=>.bool (decide (m<n))|a,b=>.op .lt [a,b]
def E4 (a b:E):E:=match a,b with
 | .int m,.int n=>.bool (decide (m=n))|a,b=>.op .eqi [a,b]
def Hi (a b:E):E:=match a,b with
 | .bool p,b=>bif p then b else y8 b|a,.bool p=>bif p then a else y8 a|a,b=>.op .eqb [a,b]
def mO (a b:E):E:=match a,b with
 | .str p,.str q=>.bool (p==q)|a,b=>.op .eqs [a,b]
def Hh (a b:E):E:=match a,b with
 | .bool p,b=>bif p then b else .bool false|a,.bool p=>bif p then a else .bool false|a,b=>.op .and [a,b]
def mkOr (a b:E):E:=match a,b with
 | .bool p,b=>bif p then .bool true else b|a,.bool p=>bif p then .bool true else a|a,b=>.op .or [a,b]
def xX :Nat->E->E
 |0,L=>.op .len [L]|d+1,L=>match L with
  | .op .nil _=>.int 0| .op (.rows n _) _=>.int n| .op .app [a,b]=>y7 (xX d a) (xX d b)| .op (.upd _) [a,_,_]=>xX d a|L=>.op .len [L]
def A6 (L:E):E:=xX 50 L
def Hj :Nat->Nat->E->E->E
 |0,j,L,r=>.op (.get j) [L,r]|d+1,j,L,r=>match L with
  | .op (.upd j') [a,i,c]=>bif Nat.beq j j' then .op (.get j) [.op (.upd j') [a,i,c],r]else Hj d j a r|L=>.op (.get j) [L,r]
def EQ (j:Nat)(L r:E):E:=Hj 50 j L r
def E9 (a b:E):E:=match a,b with
 | .op .nil _,b=>b|a,.op .nil _=>a|a,b=>.op .app [a,b]
section
variable {U :Ab}
def B5 (n:Int):(E.int n).toI U=n:=rfl
def l9 (a b:E):(y7 a b).toI U=a.toI U+b.toI U:=by unfold y7;split;rfl;rename_i b m _;by_cases h:m=0;subst h;exact(Int.zero_add _).symm;simp only[h,decide_false,Rb];exact Int.add_comm _ _;rename_i x m n;by_cases h:m+n=0;simp only[h,RT,Ra];show _=(x.toI U+m)+n;omega;simp only[h,decide_false,Rb];show x.toI U+(m+n)=(x.toI U+m)+n;omega;rename_i a n _ _;by_cases h:n=0;subst h;simp;show _=_+0;omega;simp only[h,decide_false,Rb];rfl;rfl
def y4 (a b:E):(M3 a b).toI U=a.toI U-b.toI U:=by unfold M3;split;rename_i n;rw[l9];show _+ -n=_-n;omega;rfl
def Iy (a b:E):(Ld a b).toI U=a.toI U*b.toI U:=by unfold Ld;split<;>rfl
def F6 (a:E):((y8 a).den U).toBool= !(a.den U).toBool:=by unfold y8;split;rfl;rename_i x;show _= !(!(x.den U).toBool);simp;rfl
def F8 (a b:E):((z4 a b).den U).toBool=decide (a.toI U<b.toI U):=by unfold z4;split<;>rfl
def E2 (a b:E):((E4 a b).den U).toBool=decide (a.toI U=b.toI U):=by unfold E4;split<;>rfl
def T5 (a b:E):((mO a b).den U).toBool=((a.den U).toStr==(b.den U).toStr):=by unfold mO;split<;>rfl
def xV (a b:E):((Hi a b).den U).toBool=((a.den U).toBool==(b.den U).toBool):=by unfold Hi;split;rename_i b p;cases p;simp only[Rb,F6];show _=(false==_);simp;show _=(true==_);simp;rename_i a p _;cases p;simp only[Rb,F6];show _=(_==false);simp;show _=(_==true);simp;rfl
def xU (a b:E):((Hh a b).den U).toBool=((a.den U).toBool&&(b.den U).toBool):=by unfold Hh;split;rename_i b p;cases p;rfl;show _=(true&&_);simp;rename_i a p _;cases p;show false=(_&&false);simp;show _=(_&&true);simp;rfl
def CS (a b:E):((mkOr a b).den U).toBool=((a.den U).toBool|| (b.den U).toBool):=by unfold mkOr;split;rename_i b p;cases p;show _=(false||_);simp;rfl;rename_i a p _;cases p;show _=(_||false);simp;show true=(_||true);simp;rfl
def L3 (z:Nat):∀(n:Nat) (l:Ar),(d8 z n l).length=n
 |0,_=>rfl|n+1,l=>by simp[d8,L3 z n]
def hZ :∀(d:Nat) (L:E),(xX d L).toI U=((L.toR U).length:Int)
 |0,L=>rfl|d+1,L=>by unfold xX;split;rfl;rename_i n z as;show(n:Int)=((d8 z n _).length:Int);rw[L3];rename_i a b;rw[l9,hZ d a,hZ d b];show _=(((a.toR U)++(b.toR U)).length:Int);simp;rename_i j a i c;rw[hZ d a];show _=((i7 (a.toR U) _ j _).length:Int);simp[i7];rfl
def j8 (L:E):(A6 L).toI U=((L.toR U).length:Int):=hZ 50 L
theorem qV (L:Rows)(i r:Int){j j':Nat}(d:Dat)(h:j≠j'):D1 (i7 L i j' d) r j=D1 L r j:=by unfold D1 i7;grind
def xW :∀(d j:Nat) (L r:E),(Hj d j L r).den U=D1 (L.toR U) (r.toI U) j
 |0,j,L,r=>rfl|d+1,j,L,r=>by unfold Hj;split;rename_i j' a i c;by_cases h:j=j';rw[v9 h];rfl;rw[z6 h,Rb,xW d j a r];exact(qV _ _ _ _ h).symm;rfl
def sO (j:Nat)(L r:E):(EQ j L r).den U=D1 (L.toR U) (r.toI U) j:=xW 50 j L r
def L4 (a b:E):(E9 a b).toR U=a.toR U++b.toR U:=by unfold E9;split;rfl;show _=_++([]:Rows);simp;rfl
def FT (U:Ab)(l:List (E×Bool)):Prop:=∀c t,(c,t)∈l->(c.den U).toBool=t
def M (α:Type):=SS->Tr (α×SS)
def i4 {α:Type}(a:α):M α:=fun s=>.ret (a,s)
def a8 {α:Type}(t:String):M α:=fun _=>.fail t
def b9 {α β:Type}(m:M α)(k:α->M β):M β:=fun s=>(m s).bind fun x=>k x.1 x.2
def t9 {α:Type}(k:SS->M α):M α:=fun s=>k s s
def gE {α:Type}(t:String)(x:Bb α):M α:=match x with|some a=>i4 a|none=>a8 t
def addF (s:SS)(c:E)(t:Bool):SS:= {s with fc:=(c,t)::s.fc}
variable (U) in
def p8 (c:E):M Unit:=fun s=>match c with
 | .bool true=>.ret ((),s)|c=>.need (.e c) (c.pr U) (.ret ((),addF s c true))
def KG :List (E×Bool)->E->Bb Bool
 | [],_=>none| (d,t)::l,c=>bif E.like d c then some t else KG l c
variable (U) in
def testA (c:E):M Bool:=fun s=>match c with
 | .bool b=>.ret (b,s)|c=>match KG s.fc c with
  |some true=>.need (.e c) (c.pr U) (.ret (true,s))|some false=>.need (.e (y8 c)) (¬c.pr U) (.ret (false,s))|none=>.br c (.ret (true,addF s c true)) (.ret (false,addF s c false))
variable (U) in
def testF :Nat->E->M Bool
 |0,c=>testA U c|d+1,c=>match c with
  | .op .not [a]=>b9 (testF d a) fun t=>i4 (!t)
  | .op .and [a,b]=>b9 (testF d a) fun t=>bif t then testF d b else i4 false
  | .op .or [a,b]=>b9 (testF d a) fun t=>bif t then i4 true else testF d b
  |c=>testA U c
variable (U) in
def gG (c:E):M Bool:=testF U 20 c
structure Z6 (s s':SS):Prop where
 h:s'.h=s.h
 nx:s'.nx=s.nx
 fc:∃l,s'.fc=l++s.fc
 fz:s'.fz=s.fz
def Z6.refl (s:SS):Z6 s s:=⟨rfl,rfl,⟨[],rfl⟩,rfl⟩
theorem Z6.trans {a b c:SS}(h:Z6 a b)(k:Z6 b c):Z6 a c:=
 ⟨k.h.trans h.h,k.nx.trans h.nx,by obtain⟨l,e⟩:=h.fc;obtain⟨m,e'⟩:=k.fc;exact(by grind),k.fz.trans h.fz⟩
def Z6.addF (s:SS)(c:E)(t:Bool):Z6 s (addF s c t):=⟨rfl,rfl,⟨[(c,t)],rfl⟩,rfl⟩
variable {s:SS}
def Z6.get {s':SS}(h:Z6 s s')(b:Nat):s'.get b=s.get b:=by unfold SS.get;rw[h.h]
variable (U) in
def OKp {α:Type}(m:M α)(s:SS)(R:α->Prop):Prop:=
 ∀Q,(m s).vc U Q->FT U s.fc-> ∃a s',Q (a,s')/\Z6 s s'/\FT U s'.fc/\R a
def OKp.ret {α:Type}{a:α}{R:α->Prop}(h:R a):OKp U (i4 a) s R:=fun _ hq hf=>⟨a,s,hq,Z6.refl s,hf,h⟩
def TC:type_of% @OKp.ret:=@OKp.ret
variable {t:String}
def OKp.fail {α:Type}{R:α->Prop}:OKp U (a8 t:M α) s R:=fun _ hq _=>hq.elim
def Tx:type_of% @OKp.fail:=@OKp.fail
def OKp.bind {α g:Type}{m:M α}{k:α->M g}{R:α->Prop}{f:g->Prop}(h:OKp U m s R)(hk:∀a s',Z6 s s'->FT U s'.fc->R a->OKp U (k a) s' f):OKp U (b9 m k) s f:=by intro Q hq hf;unfold b9 at hq;rw[TT]at hq;obtain⟨a,s1,h1,h2,h3,h4⟩:=h _ hq hf;obtain⟨b,s2,j,p,q,r⟩:=hk a s1 h2 h3 h4 Q h1 h3;exact⟨b,s2,j,h2.trans p,q,r⟩
theorem OKp.mono {α:Type}{m:M α}{R f:α->Prop}(h:OKp U m s R)(hr:∀a,R a->f a):OKp U m s f:=by intro Q hq hf;obtain⟨a,s1,h1,h2,h3,h4⟩:=h Q hq hf;grind
def OKp.opt {α:Type}{x:Bb α}{R:α->Prop}(h:∀a,x=some a->R a):OKp U (gE t x) s R:=by
 cases x with
 |none=>exact Tx|some a=>exact TC (h a rfl)
def TA:type_of% @OKp.opt:=@OKp.opt
def OKp.read {α:Type}{k:SS->M α}{R:α->Prop}(h:OKp U (k s) s R):OKp U (t9 k) s R:=h
def TB:type_of% @OKp.read:=@OKp.read
theorem FT.cons {l:List (E×Bool)}{c:E}{t:Bool}(h:FT U l)(hc:(c.den U).toBool=t):FT U ((c,t)::l):=by intro d u f;rcases Rx.1 f with e|e;grind;exact h d u e
def Fx {c:E}(h:¬c.pr U):(c.den U).toBool=false:=by rw[Tk]at h;simpa using h
def OKp.need {c:E}:OKp U (p8 U c) s fun _=>c.pr U:=by intro Q hq hf;unfold p8 at hq;split at hq;exact⟨(),s,hq,Z6.refl s,hf,rfl⟩;obtain⟨h1,h2⟩:=hq;exact⟨(),_,h2 h1,Z6.addF s _ _,hf.cons ((Tk U _).1 h1),h1⟩
def Ty:type_of% @OKp.need:=@OKp.need
def OKp.testA {c:E}{s:SS}:OKp U (testA U c) s fun t=>(c.den U).toBool=t:=by intro Q hq hf;unfold Sx.testA at hq;split at hq;exact⟨_,s,hq,Z6.refl s,hf,rfl⟩;split at hq;exact⟨true,s,hq.2 hq.1,Z6.refl s,hf,(Tk U _).1 hq.1⟩;exact⟨false,s,hq.2 hq.1,Z6.refl s,hf,Fx hq.1⟩;by_cases h:c.pr U;exact⟨true,_,hq.1 h,Z6.addF s _ _,hf.cons ((Tk U _).1 h),(Tk U _).1 h⟩;exact⟨false,_,hq.2 h,Z6.addF s _ _,hf.cons (Fx h),Fx h⟩
def OKp.testF :∀(d:Nat) (c:E) (s:SS),OKp U (testF U d c) s fun t=>(c.den U).toBool=t
 |0,c,s=>OKp.testA|d+1,c,s=>by
  unfold Sx.testF;split;rename_i a;refine(OKp.testF d a s).bind fun t s' _ _ h=>TC ?_;show(!(a.den U).toBool)= !t;rw[h]
  ·rename_i a b;refine(OKp.testF d a s).bind fun t s' _ _ h=>?_;cases t with
   |true=>exact(OKp.testF d b s').mono fun u f=>by show((a.den U).toBool&&(b.den U).toBool)=u;rw[h,f];rfl
   |false=>exact TC (by show((a.den U).toBool&&(b.den U).toBool)=false;rw[h];rfl)
  ·rename_i a b;refine(OKp.testF d a s).bind fun t s' _ _ h=>?_;cases t with
   |true=>exact TC (by show((a.den U).toBool|| (b.den U).toBool)=true;rw[h];rfl)|false=>exact(OKp.testF d b s').mono fun u f=>by show((a.den U).toBool|| (b.den U).toBool)=u;rw[h,f];rfl
  exact OKp.testA
def OKp.test {c:E}:OKp U (gG U c) s fun t=>(c.den U).toBool=t:=OKp.testF 20 c s
def TF:type_of% @OKp.test:=@OKp.test
end
abbrev Fm:=List (Nat×SV)
def dX :Av->SV
 | .bool b=>.bool (.bool b)| .int k n=>.int k (.int n)| .string s=>.str (.str s.data.toList)| .pointer none=>.nilp| .slice none 0 0=>.nils| .map none=>.nilm| .nilFunc=>.nilf| .nilIface=>.nili|_=>.any
def FQ :Av->SV
 | .agg cs=>.agg (cs.toList.map dX)| .tuple vs=>.tup (vs.toList.map dX)|v=>dX v
def u9 (f:Fm):Az->Bb SV
 | .tmp t=>some ((lk f t).getD .any)| .const v=>bif cst v then some (FQ v)else none| .global _=>none| .func g=>some (.fn (.func g) [] [])
def Dz (f:Fm):List Az->Bb (As)
 | []=>some []|x::xs=>match u9 f x with
  |some v=>match Dz f xs with
   |some vs=>some (v::vs)|none=>none
  |none=>none
def gT (f:Fm):List (Nat×Az)->Bb (List (Nat×SV))
 | []=>some []| (i,x)::xs=>match u9 f x with
  |some v=>match gT f xs with
   |some vs=>some ((i,v)::vs)|none=>none
  |none=>none
def C6 :SV->Bb (As)
 | .any=>none| .yld _ _ _ _ _ _ _=>none| .agg l=>some l|v=>some [v]
def yT (P:Aw)(t:Ax)(cs:As)(off:Nat):Bb SV:=
 match P.underlying t with
 |none=>none
 | some d => bif dF d then
   match P.info? t with
   |some i=>some (.agg ((cs.drop off).take i.size))|none=>none
  else cs[off]?
def FW (P:Aw)(xt:Ax)(x:SV)(f:Nat):Bb SV:=
 match P.underlying xt with
 |some (.struct fs)=>match fs.toList[f]? with
  |some fd=>match x with
   | .agg cs=>yT P fd.type cs fd.offset|_=>none
  |none=>none
 |_=>none
def uT (x:SV)(i:Nat):Bb SV:=
 match x with
 | .tup vs=>vs[i]?|_=>none
def Q8 (cells:As)(off:Nat)(vs:As):As:=cells.take off++vs++cells.drop (off+vs.length)
def qJ (place:Nat->Bb (Nat×Nat))(cells:As):List (Nat×SV)->Bb (As)
 | []=>some cells| (i,v)::rest=>match place i with
  |none=>none|some (off,size)=>match C6 v with
   |none=>none|some vs=>bif Nat.beq vs.length size&&Nat.ble (off+size) cells.length then qJ place (Q8 cells off vs) rest else none
def qM (P:Aw)(t:Ax):Bb (As):=match V5 P t with
 |some z=>some (z.cells.toList.map dX)|none=>none
def FP (P:Aw)(t:Ax)(parts:List (Nat×SV)):Bb SV:=
 match qM P t with
 |none=>none|some z=>match P.underlying t with
  |some (.struct fs)=>match eL P fs.toList with
   |some pl=>match qJ (fun i=>pl[i]?) z parts with
    |some cs=>some (.agg cs)|none=>none
   |none=>none
  |some (.array _ e)=>match P.info? e with
   |some ie=>match qJ (fun i=>some (i*ie.size,ie.size)) z parts with
    |some cs=>some (.agg cs)|none=>none
   |none=>none
  |_=>none
section
variable {P :Aw}{U:Ab}{τ:Tau}{F:Ac}
def TD (P:Aw)(U:Ab)(τ:Tau)(F:Ac)(f:Fm)(tm:Ao):Prop:=∀k a,lk f k=some a->VD P U τ F a ((tm.get k).getD undef)
def uQ (v:Av):VD P U τ F (dX v) v:=by unfold dX;split;exact .bool (.bool _);exact .int _ (.int _);rename_i s;exact .str (.str s.data.toList);exact .nilp;exact .nils;exact .nilm;exact .nilf;exact .nili;exact .any _
def dY (l:Af):VDL P U τ F (l.map dX) l:=by refine⟨by simp,fun i a x f hx=>?_⟩;simp only[RL,hx,RE,QI]at f;subst f;exact uQ x
def Jb (v:Av):VD P U τ F (FQ v) v:=by unfold FQ;split;rename_i cs;have h:=dY (P:=P) (U:=U) (τ:=τ) (F:=F) cs.toList;exact VD.agg _ cs.toList h.1 h.2;rename_i cs;have h:=dY (P:=P) (U:=U) (τ:=τ) (F:=F) cs.toList;exact VD.tup _ cs.toList h.1 h.2;exact uQ v
def VDL.nil :VDL P U τ F [] []:=⟨rfl,fun i a x h _=>by simp at h⟩
def TY:type_of% @VDL.nil:=@VDL.nil
variable {a:SV}{l:As}{xs:Af}
theorem VDL.cons {x:Av}(h:VD P U τ F a x)(hs:VDL P U τ F l xs):VDL P U τ F (a::l) (x::xs):=by
 refine⟨by simp[hs.1],fun i b y hb hy=>?_⟩;cases i with
 |zero=>grind|succ i=>exact hs.2 i b y hb hy
def TX:type_of% @VDL.cons:=@VDL.cons
theorem VDL.uncons (h:VDL P U τ F (a::l) xs):∃y ys,xs=y::ys/\VD P U τ F a y/\VDL P U τ F l ys:=by
 cases xs with
 |nil=>exact absurd h.1 (by simp)|cons y ys=>exact⟨y,ys,rfl,h.2 0 _ _ rfl rfl,by have:=h.1;simpa using this,fun i a b f hb=>h.2 (i+1) a b (by grind) (by grind)⟩
def VDL.mono {τ':Tau}{F':Ac}(ht:Tle τ τ')(hf:Fle F F')(h:VDL P U τ F l xs):VDL P U τ' F' l xs:=⟨h.1,fun i a x f hx=>(h.2 i a x f hx).mono ht hf⟩
theorem VDL.get (h:VDL P U τ F l xs){i:Nat}(f:l[i]? =some a):∃x,xs[i]? =some x/\VD P U τ F a x:=by
 have hi:=(QL.1 f).1;have hx:i<xs.length:=by rw[<-h.1];exact hi
 exact⟨xs[i],by grind,h.2 i a _ f (by simp)⟩
theorem VDL.drop (h:VDL P U τ F l xs)(n:Nat):VDL P U τ F (l.drop n) (xs.drop n):=
 ⟨by simp[h.1],fun i a x f hx=>h.2 (n+i) a x (by grind) (by grind)⟩
theorem VDL.take (h:VDL P U τ F l xs)(n:Nat):VDL P U τ F (l.take n) (xs.take n):=by refine⟨by simp[h.1],fun i a x f hx=>?_⟩;rw[Rs]at f hx;by_cases hi:i<n;rw[Rh hi]at f hx;exact h.2 i a x f hx;grind
def VDL.append {m:As}{ys:Af}(h:VDL P U τ F l xs)(k:VDL P U τ F m ys):VDL P U τ F (l++m) (xs++ys):=by
 induction l generalizing xs with
 |nil=>obtain⟨h1,_⟩:=h;have:=QP h1.symm;subst this;exact k
 |cons a l f=>obtain⟨y,g,rfl,h1,h2⟩:=h.uncons;exact TX h1 (f h2)
def VDL.splice {l m:As}{xs ys:Af}(h:VDL P U τ F l xs)(k:VDL P U τ F m ys)(o:Nat):VDL P U τ F (Q8 l o m) (splice xs o ys):=by unfold Q8 Xe.splice;rw[k.1];exact((h.take o).append k).append (h.drop _)
def VDL.agg (h:VDL P U τ F l xs):VD P U τ F (.agg l) (.agg xs.toArray):= .agg l xs h.1 h.2
def VDL.tup (h:VDL P U τ F l xs):VD P U τ F (.tup l) (.tuple xs.toArray):= .tup l xs h.1 h.2
variable {v:Av}
def VDL.of_agg (h:VD P U τ F (.agg l) v):∃xs:Af,v= .agg xs.toArray/\VDL P U τ F l xs:=by cases h with|agg _ xs h1 h2=>exact⟨xs,rfl,h1,h2⟩
def TZ:type_of% @VDL.of_agg:=@VDL.of_agg
def VDL.of_tup (h:VD P U τ F (.tup l) v):∃xs:Af,v= .tuple xs.toArray/\VDL P U τ F l xs:=by cases h with|tup _ xs h1 h2=>exact⟨xs,rfl,h1,h2⟩
def PV.one {k:Kd}{d:Dat}(h:PV P F k v d):v.cells= #[v]:=by cases h<;>rfl
def cU (h:VD P U τ F a v)(e:C6 a=some l):VDL P U τ F l v.cells.toList:=by
 cases h with
 |any v=>simp[C6]at e|agg l' xs h1 h2=>simp only[C6,QI]at e;subst e;exact⟨by simpa [Value.cells]using h1,fun i a x g hx=>h2 i a x g (by simpa [Value.cells]using hx)⟩|int k x=>simp only[C6,QI]at e;subst e;exact TX (.int k x) TY|bool x=>simp only[C6,QI]at e;subst e;exact TX (.bool x) TY|str x=>simp only[C6,QI]at e;subst e;exact TX (.str x) TY|nilp=>simp only[C6,QI]at e;subst e;exact TX .nilp TY|ptr b z row fld i o h h0=>simp only[C6,QI]at e;subst e;exact TX (.ptr b z row fld i o h h0) TY|pptr t L row fld i o l c h h0 h1=>simp only[C6,QI]at e;subst e;exact TX (.pptr t L row fld i o l c h h0 h1) TY|rp row fld h0=>simp only[C6,QI]at e;subst e;exact TX (.rp row fld h0) TY|rv L z xs h=>simp only[C6,QI]at e;subst e;exact TX (.rv L z xs h) TY|rpq x v h=>simp only[C6,QI]at e;subst e;rw[h.one];exact TX (.rpq x v h) TY|nils=>simp only[C6,QI]at e;subst e;exact TX .nils TY|sl b z off len cap i o c h h0 h1 hc=>simp only[C6,QI]at e;subst e;exact TX (.sl b z off len cap i o c h h0 h1 hc) TY|sl0 b z off len cap h h0 h1 hc=>simp only[C6,QI]at e;subst e;exact TX (.sl0 b z off len cap h h0 h1 hc) TY|lst t L clip v h hc=>simp only[C6,QI]at e;subst e;rw[h.one];exact TX (.lst t L clip v h hc) TY|tup l' xs h1 h2=>simp only[C6,QI]at e;subst e;exact TX (.tup l' xs h1 h2) TY|fn f l' m xs ys h1 h2 h3 h4=>simp only[C6,QI]at e;subst e;exact TX (.fn f l' m xs ys h1 h2 h3 h4) TY|nilf=>simp only[C6,QI]at e;subst e;exact TX .nilf TY|map b i o h=>simp only[C6,QI]at e;subst e;exact TX (.map b i o h) TY|nilm=>simp only[C6,QI]at e;subst e;exact TX .nilm TY|iface t v x h=>simp only[C6,QI]at e;subst e;exact TX (.iface t v x h) TY|nili=>simp only[C6,QI]at e;subst e;exact TX .nili TY|yld=>simp[C6]at e
theorem H7 {f:Fm}{tm:Ao}(h:TD P U τ F f tm){o:Az}(e:u9 f o=some a):∃v,c9 tm o=some v/\VD P U τ F a v:=by
 cases o with
 |tmp t=>
  simp only[u9,QI]at e;refine⟨_,rfl,?_⟩;cases hl:lk f t with
  |none=>rw[hl]at e;subst e;exact .any _|some b=>rw[hl]at e;subst e;exact h t b hl
 |const v=>
  simp only[u9]at e;cases hc:cst v with
  |false=>grind|true=>simp only[hc,Ra,QI]at e;subst e;exact⟨v,by simp[c9,hc],Jb v⟩
 |global g=>simp[u9]at e|func g=>simp only[u9,QI]at e;subst e;exact⟨_,rfl,.fn _ [] [] [] [] rfl (fun i a x h _=>by grind) rfl (fun i a x h _=>by grind)⟩
theorem rL {f:Fm}{tm:Ao}(h:TD P U τ F f tm):∀ {os:List Az} {l:As},Dz f os=some l-> ∃vs,aH tm os=some vs/\VDL P U τ F l vs
 | [],l,e=>by simp only[Dz,QI]at e;subst e;exact⟨[],rfl,TY⟩|o::os,l,e=>by
  simp only[Dz]at e;cases j:u9 f o with
  |none=>grind|some a=>
   cases g:Dz f os with
   |none=>grind|some l'=>simp only[j,g,QI]at e;subst e;obtain⟨v,h1,h2⟩:=H7 h j;obtain⟨vs,h3,h4⟩:=rL h g;exact⟨v::vs,by simp[aH,h1,h3],TX h2 h4⟩
def PVD (P:Aw)(U:Ab)(τ:Tau)(F:Ac):List (Nat×SV)->List (Nat×Av)->Prop
 | [],[]=>True| (i,a)::l,(j,v)::m=>i=j/\VD P U τ F a v/\PVD P U τ F l m|_,_=>False
theorem iM {f:Fm}{tm:Ao}(h:TD P U τ F f tm):∀ {os:List (Nat×Az)} {l:List (Nat×SV)},gT f os=some l-> ∃vs,W3 tm os=some vs/\PVD P U τ F l vs
 | [],l,e=>by simp only[gT,QI]at e;subst e;exact⟨[],rfl,trivial⟩| (i,o)::os,l,e=>by
  simp only[gT]at e;cases j:u9 f o with
  |none=>grind|some a=>
   cases g:gT f os with
   |none=>grind|some l'=>simp only[j,g,QI]at e;subst e;obtain⟨v,h1,h2⟩:=H7 h j;obtain⟨vs,h3,h4⟩:=iM h g;exact⟨(i,v)::vs,by simp[W3,h1,h3],rfl,h2,h4⟩
theorem mZ {t:Ax}(h:VDL P U τ F l xs){off:Nat}(e:yT P t l off=some a):∃v,qQ P t xs off=some v/\VD P U τ F a v:=by
 unfold yT at e;unfold qQ;split at e;cases e
 ·rename_i d f;rw[f];cases hb:dF d with
  |true=>simp only[hb,Ra]at e⊢;split at e;rename_i i hi;simp at e;subst e;exact⟨_,by grind,((h.drop off).take i.size).agg⟩;cases e
  |false=>simp only[hb,Rb]at e⊢;obtain⟨x,h1,h2⟩:=h.get e;grind
theorem Je {t:Ax}(h:VD P U τ F a v){f:Nat}{b:SV}(e:FW P t a f=some b):∃u,lB P t v f=some u/\VD P U τ F b u:=by unfold FW at e;unfold lB;split at e;rename_i p j;split at e;rename_i m g;split at e;rename_i cs;obtain⟨xs,rfl,hx⟩:=TZ h;obtain⟨u,h1,h2⟩:=mZ hx e;grind;cases e;cases e;cases e
def DC (h:VD P U τ F a v){i:Nat}{b:SV}(e:uT a i=some b):∃u,aI v i=some u/\VD P U τ F b u:=by unfold uT at e;split at e;obtain⟨xs,rfl,hx⟩:=VDL.of_tup h;obtain⟨u,h1,h2⟩:=hx.get e;exact⟨u,by simpa [aI]using h1,h2⟩;cases e
theorem gR {place:Nat->Bb (Nat×Nat)}:∀ {ps:List (Nat×SV)} {m:List (Nat×Av)} {l:As} {xs:Af} {r:As},VDL P U τ F l xs->PVD P U τ F ps m->qJ place l ps=some r-> ∃ys,nL place xs m=some ys/\VDL P U τ F r ys
 | [],[],l,xs,r,h,_,e=>by simp only[qJ,QI]at e;subst e;exact⟨xs,rfl,h⟩| (i,a)::ps,(j,v)::m,l,xs,r,h,hp,e=>by
  obtain⟨rfl,hv,hp'⟩:=hp;simp only[qJ]at e;split at e;cases e
  ·rename_i off size f;split at e;cases e
   ·rename_i vs g;have hc:=cU hv g;simp only[nL,f];rw[hc.1,h.1]at e;cases hb:Nat.beq v.cells.toList.length size&&Nat.ble (off+size) xs.length with
    |false=>grind|true=>simp only[hb,Ra]at e⊢;exact gR (h.splice hc off) hp' e
 | [],_::_,l,xs,r,h,hp,e=>hp.elim|_::_,[],l,xs,r,h,hp,e=>hp.elim
def cW {t:Ax}(e:qM P t=some l):∃z,V5 P t=some z/\VDL P U τ F l z.cells.toList:=by unfold qM at e;split at e;rename_i z hz;simp at e;subst e;exact⟨z,hz,dY _⟩;cases e
theorem Ja {t:Ax}{ps:List (Nat×SV)}{j:List (Nat×Av)}(h:PVD P U τ F ps j)(e:FP P t ps=some a):∃v,eE P t j=some v/\VD P U τ F a v:=by unfold FP at e;unfold eE;split at e;cases e;rename_i l hl;obtain⟨z,h1,h2⟩:=cW hl;rw[h1];split at e;rename_i r g;split at e;rename_i w p;split at e;rename_i cs f;simp at e;rw[<-e];obtain⟨ys,h3,h4⟩:=gR h2 h f;exact⟨_,by grind,h4.agg⟩;cases e;cases e;rename_i ie g;split at e;rename_i q m;split at e;rename_i cs f;simp at e;rw[<-e];obtain⟨ys,h3,h4⟩:=gR h2 h f;exact⟨_,by grind,h4.agg⟩;cases e;cases e;cases e
end
def rng (e:E)(k:IntKind):E:=Hh (y8 (z4 e (.int k.min))) (z4 e (.int (k.max+1)))
def oQ (op:BinOp)(k:IntKind)(a b:E):E:=match a,b with
 | .int m,.int n=>.int (Go.bits op k m n)|a,b=>.op (.bits op k) [a,b]
def Le (a b:E):E:=match a,b with
 | .int m,.int n=>.int (m.tdiv n)|a,b=>.op .tdiv [a,b]
def Lg (a b:E):E:=match a,b with
 | .int m,.int n=>.int (m.tmod n)|a,b=>.op .tmod [a,b]
def Lh (k:IntKind)(a b:E):E:=match a,b with
 | .int m,.int n=>.int (k.wrap (m*2^(min n.toNat k.bits)))|a,b=>.op (.shl k) [a,b]
def Li (k:IntKind)(a b:E):E:=match a,b with
 | .int m,.int n=>.int (m.fdiv (2^(min n.toNat k.bits)))|a,b=>.op (.shr k) [a,b]
def Fi (a b:E):E:=match a,b with
 | .str p,.str q=>.str (p++q)|a,b=>.op .sapp [a,b]
def bK (a:E):E:=match a with
 | .str p=>.int p.length|a=>.op .slen [a]
def xY (a b:E):E:=match a,b with
 | .str p,.str q=>.bool (Op.bytesLess p q)|a,b=>.op .lts [a,b]
section
variable (P :Aw)(U:Ab)
def tQ (k:IntKind)(e:E):M SV:=match e with
 | .int n=>i4 (.int k (.int (k.wrap n)))|e=>bif decide (k= .i64)then b9 (p8 U (rng e .i64)) fun _=>i4 (.int k e)else i4 (.int k (.op (.wrap k) [e]))
def scmp (op:BinOp)(a b:E):Bb E:=
 match op with
 | .eql=>some (E4 a b)| .neq=>some (y8 (E4 a b))| .lss=>some (z4 a b)| .leq=>some (y8 (z4 b a))| .gtr=>some (z4 b a)| .geq=>some (y8 (z4 a b))|_=>none
def FO (op:BinOp)(k:IntKind)(a b:E):M SV:=
 match op with
 | .add=>tQ U k (y7 a b)| .sub=>tQ U k (M3 a b)| .mul=>tQ U k (Ld a b)| .quo=>b9 (p8 U (y8 (E4 b (.int 0)))) fun _=>tQ U k (Le a b)
 | .rem=>b9 (p8 U (y8 (E4 b (.int 0)))) fun _=>i4 (.int k (Lg a b))
 | .and=>i4 (.int k (oQ .and k a b))| .or=>i4 (.int k (oQ .or k a b))| .xor=>i4 (.int k (oQ .xor k a b))| .andNot=>i4 (.int k (oQ .andNot k a b))|op=>match scmp op a b with|some c=>i4 (.bool c)|none=>a8 "arith"
def Gg (op:BinOp)(k:IntKind)(a b:E):M SV:=
 b9 (p8 U (y8 (z4 b (.int 0)))) fun _=>
 match op with
 | .shl=>i4 (.int k (Lh k a b))| .shr=>i4 (.int k (Li k a b))|_=>a8 "shift"
def sstr (op:BinOp)(a b:E):M SV:=
 match op with
 | .add=>b9 (p8 U (z4 (y7 (bK a) (bK b)) (.int 1000000001))) fun _=>i4 (.str (Fi a b))
 | .eql=>i4 (.bool (mO a b))| .neq=>i4 (.bool (y8 (mO a b)))| .lss=>i4 (.bool (xY a b))| .leq=>i4 (.bool (mkOr (xY a b) (mO a b)))| .gtr=>i4 (.bool (y8 (mkOr (xY a b) (mO a b))))| .geq=>i4 (.bool (y8 (xY a b)))|_=>a8 "str"
def FV (eq:Ax->SV->SV->Bb E)(xs ys:As):List Field->Bb E
 | []=>some (.bool true)|f::fs=>bif f.name== "_" then FV eq xs ys fs else
  match yT P f.type xs f.offset,yT P f.type ys f.offset with
  |some a,some b=>match eq f.type a b,FV eq xs ys fs with
   |some p,some q=>some (Hh p q)|_,_=>none
  |_,_=>none
def kM :SV->Bool
 | .ptr _ _ _ _| .pptr _ _ _ _| .rp _ _=>true
 |_=>false
def Bh (size:Nat)(x y:SV):Bb E:=
 match x,y with
 | .nilp,.nilp=>some (.bool true)| .rpq e,.nilp=>some (E4 e (.int (-1)))| .nilp,.rpq e=>some (E4 e (.int (-1)))| .nilp,y=>bif kM y then some (.bool false)else none|x,.nilp=>bif kM x then some (.bool false)else none| .ptr b z row fld,.ptr b' z' row' fld'=>bif Nat.beq b b'&&Nat.beq z z'&&Nat.beq fld fld'&&Nat.ble 1 z&&Nat.ble 1 size then some (E4 row row')else none|_,_=>none
def HH (x y:SV):Bb E:=
 match x,y with
 | .nils,.nils=>some (.bool true)|_,_=>none
def mW (x y:SV):Bb E:=
 match x,y with
 | .nilm,.nilm=>some (.bool true)| .map _,.nilm=>some (.bool false)| .nilm,.map _=>some (.bool false)|_,_=>none
def HG (x y:SV):Bb E:=
 match x,y with
 | .nilf,.nilf=>some (.bool true)| .nilf,.fn _ _ _=>some (.bool false)| .fn _ _ _,.nilf=>some (.bool false)|_,_=>none
def uS :Nat->Ax->SV->SV->Bb E
 |0,_,_,_=>none|d+1,t,x,y=>match P.underlying t with
  |some .bool=>match x,y with
   | .bool a,.bool b=>some (Hi a b)|_,_=>none
  |some (.int _)=>match x,y with
   | .int k a,.int k' b=>bif decide (k=k')then some (E4 a b)else none|_,_=>none
  |some .string=>match x,y with
   | .str a,.str b=>some (mO a b)|_,_=>none
  |some (.pointer e)=>match P.info? e with
   |some ie=>Bh ie.size x y|none=>none
  |some (.struct fs)=>match x,y with
   | .agg xs,.agg ys=>bif P.stoodInHeld t then none else FV P (uS d) xs ys fs.toList|_,_=>none
  |some (.array n e)=>match x,y with
   | .agg xs,.agg ys=>match P.info? e with
    |some _=>FV P (uS d) xs ys (aFs P e (List.range n))|none=>none
   |_,_=>none
  |some (.slice _)=>HH x y|some (.map _ _)=>mW x y|some (.func _ _ _)=>HG x y|some (.interface _)=>match x,y with
   | .nili,.iface _ _=>some (.bool false)| .iface _ _,.nili=>some (.bool false)
   | .iface tx vx, .iface ty vy => bif decide (tx = ty) then
     match P.info? tx with
     |some i=>bif i.comparable then uS d tx vx vy else none|none=>none
    else some (.bool false)
   |_,_=>none
  |_=>none
def bR (t:Ax):SV->Bool
 | .any=>false| .agg _=> !P.eqGuardType P.depth t| .nili=>false|_=>true
def sbin (op:BinOp)(t:Ax)(x y:SV):M SV:=
 match x,y with
 | .int k a,.int k' b=>match op with
  | .shl=>Gg U .shl k a b| .shr=>Gg U .shr k a b|op=>bif decide (k=k')then FO U op k a b else a8 "kinds"
 | .str a,.str b=>sstr U op a b|x,y=>match op with
  | .eql=>bif bR P t x then match uS P 10000 t x y with
   |some b=>i4 (.bool b)|none=>a8 "eq" else a8 "eq guard"
  | .neq=>bif bR P t x then match uS P 10000 t x y with
   |some b=>i4 (.bool (y8 b))|none=>a8 "eq" else a8 "eq guard"
  |_=>a8 "binop"
def snil (len:E):M SV:=fun s=>.all .b s.fv fun d=>
 .br d (.asm (.e (E4 len (.int 0))) ((E4 len (.int 0)).pr U) (.ret (.bool (.bool true),addF {s with fv:=s.fv+1} (E4 len (.int 0)) true))) (.ret (.bool (.bool false),{s with fv:=s.fv+1}))
def CJ (op:BinOp)(t:Ax)(x y:SV):Bb E:=match P.underlying t with
 |some (.slice _)=>match op,x,y with
  | .eql,.sl _ _ _ len _,.nils=>some len| .eql,.lst _ L _,.nils=>some (A6 L)|_,_,_=>none
 |_=>none
def LS (op:BinOp)(t:Ax)(x y:SV):M SV:=match CJ P op t x y with
 |some len=>snil U len|none=>sbin P U op t x y
def srune :M SV:=fun s=>.all .s s.fv fun d=>.asm (.e (z4 (.op .slen [d]) (.int 5))) ((z4 (.op .slen [d]) (.int 5)).pr U) (.ret (.str d,{s with fv:=s.fv+1}))
def LX (src dst:Ax)(x:SV):M SV:=
 match P.underlying src with
 |none=>a8 "conv"|some _=>match P.underlying dst,x with
  |some (.int k),.int k0 e=>match e with
   | .int n=>i4 (.int k (.int (k.wrap n)))|e=>bif Nat.blt k.bits k0.bits then i4 (.int k (.op (.wrap k) [e]))else b9 (p8 U (rng e k)) fun _=>i4 (.int k e)
  |some .string,.str s=>i4 (.str s)|some .string,.int _ _=>srune U|_,_=>a8 "conv"
def sun (op:UnOp)(x:SV):M SV:=
 match op,x with
 | .neg,.int k e=>tQ U k (M3 (.int 0) e)| .not,.bool b=>i4 (.bool (y8 b))|_,_=>a8 "unop"
def FX (t:Ax)(x:SV):Bb SV:=
 match P.underlying t with
 |some (.interface _)=>none|some _=>some (.iface t x)|none=>none
def Jh (big:Bool):SV->As->M SV
 |v,[]=>match v with
  | .int k n=>i4 (.int k n)|_=>a8 "min"
 |v,y::ys=>match v,y with
  | .int k a,.int _ b=>b9 (gG U (bif big then z4 a b else z4 b a)) fun t=>Jh big (.int k (bif t then b else a)) ys
  |_,_=>a8 "min"
end
section
variable {P :Aw}{U:Ab}{τ:Tau}{F:Ac}
variable {k:IntKind}{n:Int}
def rP (h1:k.min<=n)(h2:n<=k.max):k.wrap n=n:=by unfold IntKind.wrap;unfold IntKind.min at h1;unfold IntKind.max at h2;cases k<;>simp[IntKind.signed,IntKind.bits]at h1 h2⊢ <;>omega
def LP {e:E}(h:(rng e k).pr U):k.wrap (e.toI U)=e.toI U:=by rw[Tk,rng,xU,F6,F8,F8]at h;simp at h;simp only[B5]at h;exact rP (by omega) (by omega)
def dP (op:BinOp)(k:IntKind)(a b:E):(oQ op k a b).toI U=Go.bits op k (a.toI U) (b.toI U):=by unfold oQ;split<;>rfl
def Iz (a b:E):(Le a b).toI U=(a.toI U).tdiv (b.toI U):=by unfold Le;split<;>rfl
def IA (a b:E):(Lg a b).toI U=(a.toI U).tmod (b.toI U):=by unfold Lg;split<;>rfl
def IB (k:IntKind)(a b:E):(Lh k a b).toI U=k.wrap (a.toI U*2^(min (b.toI U).toNat k.bits)):=by unfold Lh;split<;>rfl
def IC (k:IntKind)(a b:E):(Li k a b).toI U=(a.toI U).fdiv (2^(min (b.toI U).toNat k.bits)):=by unfold Li;split<;>rfl
def Fj (a b:E):((Fi a b).den U).toStr=(a.den U).toStr++(b.den U).toStr:=by unfold Fi;split<;>rfl
def O7 (a:E):(bK a).toI U=((a.den U).toStr.length:Int):=by unfold bK;split<;>rfl
def iA (a b:E):((xY a b).den U).toBool=Op.bytesLess (a.den U).toStr (b.den U).toStr:=by unfold xY;split<;>rfl
def VD.int' {e:E}(h:e.toI U=n):VD P U τ F (.int k e) (.int k n):=by subst h;exact .int k e
def TV:type_of% @VD.int':=@VD.int'
def VD.bool' {e:E}{b:Bool}(h:(e.den U).toBool=b):VD P U τ F (.bool e) (.bool b):=by subst h;exact .bool e
def TU:type_of% @VD.bool':=@VD.bool'
variable {s:SS}
def gH {e:E}(h:e.toI U=n):OKp U (tQ U k e) s fun a=>VD P U τ F a (.int k (k.wrap n)):=by subst h;unfold tQ;split;exact TC (.int k (.int _));by_cases hk:k= .i64;subst hk;simp;exact OKp.need.bind fun _ s' _ _ hp=>TC (TV (LP hp).symm);simp only[hk,decide_false,Rb];exact TC (.int k (.op (.wrap k) [_]))
def Hn {b:E}(h:(y8 (E4 b (.int 0))).pr U):¬b.toI U=0:=by rwa[Tk,F6,E2,RG,RJ]at h
theorem NY {op:BinOp}{a b c:E}(h:scmp op a b=some c):gX op (a.toI U) (b.toI U)=some (.bool (c.den U).toBool):=by unfold scmp at h;split at h<;>simp at h<;>subst h<;>simp only[gX,F6,F8,E2,QI,Value.bool.injEq];grind;grind
def IZ {op:BinOp}{a b:E}:OKp U (FO U op k a b) s fun c=>∃v,C3 op k (a.toI U) (b.toI U)=some v/\VD P U τ F c v:=by
 unfold FO;split;exact(gH (l9 a b)).mono fun c h=>⟨_,rfl,h⟩
 exact(gH (y4 a b)).mono fun c h=>⟨_,rfl,h⟩
 exact(gH (Iy a b)).mono fun c h=>⟨_,rfl,h⟩
 ·refine OKp.need.bind fun _ s' _ _ hp=>(gH (Iz a b)).mono fun c h=>⟨_,?_,h⟩
  simp[C3,Hn hp]
 refine OKp.need.bind fun _ s' _ _ hp=>TC ⟨_,?_,TV (IA a b)⟩;simp[C3,Hn hp];exact TC ⟨_,rfl,TV (dP _ k a b)⟩;exact TC ⟨_,rfl,TV (dP _ k a b)⟩;exact TC ⟨_,rfl,TV (dP _ k a b)⟩;exact TC ⟨_,rfl,TV (dP _ k a b)⟩
 ·split;rename_i c hc;refine TC ⟨_,?_,.bool c⟩;rw[<-NY hc];cases op<;>first|rfl| (exact absurd rfl (by omega))
  exact Tx
def Y5 {b:E}(h:(y8 (z4 b (.int 0))).pr U):0<=b.toI U:=by rw[Tk,F6,F8,RG,RJ]at h;exact Int.not_lt.1 h
theorem yU {op:BinOp}{a b:E}:OKp U (Gg U op k a b) s fun c=>∃v,pP op k (a.toI U) (b.toI U)=some v/\VD P U τ F c v:=by
 refine OKp.need.bind fun _ s' _ _ hp=>?_;have h0:=Y5 hp;have e:decide (b.toI U<0)=false:=by grind
 split;exact TC ⟨_,by simp only[pP,e,Rb],TV (IB k a b)⟩;exact TC ⟨_,by simp only[pP,e,Rb],TV (IC k a b)⟩;exact Tx
def VD.str' {e:E}{l:Ae}(h:(e.den U).toStr=l):VD P U τ F (.str e) (.string ⟨l.toArray⟩):=by subst h;exact .str e
def Oa {op:BinOp}{a b:E}:OKp U (sstr U op a b) s fun c=>∃v,MT op ⟨(a.den U).toStr.toArray⟩ ⟨(b.den U).toStr.toArray⟩=some v/\VD P U τ F c v:=by unfold sstr;split;refine OKp.need.bind fun _ s' _ _ hp=>?_;rw[Tk,F8,l9,O7,O7]at hp;simp at hp;simp only[B5]at hp;refine TC ⟨_,?_,VD.str' (Fj a b)⟩;have hb:Nat.ble ((a.den U).toStr.length+(b.den U).toStr.length) 1000000000=true:=QQ (by omega);simp only[MT,hb,Ra];exact TC ⟨.bool ((a.den U).toStr==(b.den U).toStr),rfl,TU (T5 a b)⟩;exact TC ⟨.bool (!((a.den U).toStr==(b.den U).toStr)),rfl,TU (by rw[F6,T5])⟩;exact TC ⟨.bool (Op.bytesLess (a.den U).toStr (b.den U).toStr),rfl,TU (iA a b)⟩;exact TC ⟨.bool (Op.bytesLess (a.den U).toStr (b.den U).toStr|| (a.den U).toStr==(b.den U).toStr),rfl,TU (by rw[CS,iA,T5])⟩;exact TC ⟨.bool (!(Op.bytesLess (a.den U).toStr (b.den U).toStr|| (a.den U).toStr==(b.den U).toStr)),rfl,TU (by rw[F6,CS,iA,T5])⟩;exact TC ⟨.bool (!Op.bytesLess (a.den U).toStr (b.den U).toStr),rfl,TU (by rw[F6,iA])⟩;exact Tx
def rK {j:Ax->SV->SV->Bb E}{r:Ax->Av->Av->Bb Bool}(h:∀t a b v u c,VD P U τ F a v->VD P U τ F b u->j t a b=some c->r t v u=some (c.den U).toBool){l m:As}{xs ys:Af}(hl:VDL P U τ F l xs)(hm:VDL P U τ F m ys):∀ {g:List Field} {c:E},FV P j l m g=some c->BL P r xs ys g=some (c.den U).toBool
 | [],c,e=>by simp only[FV,QI]at e;subst e;rfl|f::g,c,e=>by
  simp only[FV]at e;simp only[BL];cases hn:f.name== "_" with
  |true=>simp only[hn,Ra]at e⊢;exact rK h hl hm e|false=>
   simp only[hn,Rb]at e⊢;split at e
   ·rename_i a b w hb;split at e
    ·rename_i p q hp hq;simp at e;subst e;obtain⟨v,h1,h2⟩:=mZ hl w;obtain⟨u,h3,h4⟩:=mZ hm hb;simp only[h1,h3,h _ _ _ _ _ _ h2 h4 hp];rw[xU];cases z:(p.den U).toBool with
     |true=>exact rK h hl hm hq|false=>rfl
    cases e
   cases e
variable {a:SV}{v:Av}
def yK (h:VD P U τ F a v)(e:kM a=true):∃p,v= .pointer (some p):=by cases h<;>first|exact⟨_,rfl⟩| (simp[kM]at e)
variable {x y:SV}{u:Av}{d:Nat}
theorem Jd {size:Nat}(hx:VD P U τ F x v)(hy:VD P U τ F y u){c:E}(e:Bh size x y=some c){t t':Ax}(ht:P.underlying t=some (.pointer t')){ie:Ba}(hi:P.info? t'=some ie)(hs:ie.size=size):xeq P (d+1) t v u=some (c.den U).toBool:=by
 unfold Bh at e;split at e;simp only[QI]at e;subst e;cases hx;cases hy;simp[xeq,ht];rfl
 ·rename_i q;simp only[QI]at e;subst e;cases hy;rw[E2,B5];cases hx with
  |rpq _ _ h=>
  generalize hq:q.toI U=m at h;cases h with
  |rp k=>rw[show decide ((k:Int)= -1)=false from Su (by omega)];simp[xeq,ht]|rpn=>simp[xeq,ht]
 ·rename_i q;simp only[QI]at e;subst e;cases hx;rw[E2,B5];cases hy with
  |rpq _ _ h=>
  generalize hq:q.toI U=m at h;cases h with
  |rp k=>rw[show decide ((k:Int)= -1)=false from Su (by omega)];simp[xeq,ht]|rpn=>simp[xeq,ht]
 ·cases hp:kM y with
  |false=>grind|true=>simp only[hp,Ra,QI]at e;subst e;obtain⟨p,rfl⟩:=yK hy hp;cases hx;simp[xeq,ht];rfl
 ·cases hp:kM x with
  |false=>grind|true=>simp only[hp,Ra,QI]at e;subst e;obtain⟨p,rfl⟩:=yK hx hp;cases hy;simp[xeq,ht];rfl
 ·rename_i b z row fld b' w g f;cases hb:Nat.beq b b'&&Nat.beq z w&&Nat.beq fld f&&Nat.ble 1 z&&Nat.ble 1 size with
  |false=>grind|true=>
   simp only[hb,Ra,QI]at e;subst e;simp only[QJ,Rz,RQ]at hb;obtain⟨⟨⟨⟨rfl,rfl⟩,rfl⟩,hz⟩,r⟩:=hb;cases hx with
   |ptr _ _ _ _ i o h h0=>
    cases hy with
    |ptr _ _ _ _ A o' h' j=>
     rw[h]at h';simp only[QI,QK]at h';obtain⟨rfl,rfl⟩:=h';simp only[xeq,ht,v9,Ra,hi];rw[z6 (by omega),Rb,E2];congr 1;rw[Bool.eq_iff_iff];simp only[Rz,Rg];constructor
     ·intro h;have:row.toN U*z=g.toN U*z:=by omega
      have:=Nat.eq_of_mul_eq_mul_right (by omega) this;grind
     grind
 cases e
theorem VD.not_int (h:VD P U τ F a (.int k n)):a= .any\/ ∃e,a= .int k e:=by
 cases h with
 |any=>grind|int k e=>grind|rpq x v h=>cases h
 |lst t L clip v h hc=>cases h
theorem VD.not_str {s:ByteArray}(h:VD P U τ F a (.string s)):a= .any\/ ∃e,a= .str e:=by
 cases h with
 |any=>grind|str e=>grind|rpq x v h=>cases h
 |lst t L clip v h hc=>cases h
def VD.not_complex {f:FloatKind}{m n:Nat}(h:VD P U τ F a (.complex f m n)):a= .any:=by
 cases h with
 |any=>rfl|rpq x v h=>cases h
 |lst t L clip v h hc=>cases h
def Mb (hx:VD P U τ F x v)(hy:VD P U τ F y u){c:E}(e:HH x y=some c){t t':Ax}(ht:P.underlying t=some (.slice t')):xeq P (d+1) t v u=some (c.den U).toBool:=by unfold HH at e;split at e<;>simp at e<;>subst e<;>cases hx<;>cases hy<;>simp[xeq,ht]<;>rfl
def Dy (hx:VD P U τ F x v)(hy:VD P U τ F y u){c:E}(e:mW x y=some c){t t' f:Ax}(ht:P.underlying t=some (.map t' f)):xeq P (d+1) t v u=some (c.den U).toBool:=by unfold mW at e;split at e<;>simp at e<;>subst e<;>cases hx<;>cases hy<;>simp[xeq,ht]<;>rfl
def Ma (hx:VD P U τ F x v)(hy:VD P U τ F y u){c:E}(e:HG x y=some c){t:Ax}{ps f:Array Ax}{b:Bool}(ht:P.underlying t=some (.func ps f b)):xeq P (d+1) t v u=some (c.den U).toBool:=by unfold HG at e;split at e<;>simp at e<;>subst e<;>cases hx<;>cases hy<;>simp[xeq,ht]<;>rfl
theorem mX :∀(d:Nat) (t:Ax) (a b:SV) (v u:Av) (c:E),VD P U τ F a v->VD P U τ F b u->uS P d t a b=some c->xeq P d t v u=some (c.den U).toBool
 |0,t,a,b,v,u,c,f,hb,e=>by simp[uS]at e|d+1,t,a,b,v,u,c,f,hb,e=>by
  simp only[uS]at e;split at e;rename_i ht;split at e;simp only[QI]at e;subst e;cases f;cases hb;simp only[xeq,ht,xV];cases e;rename_i ht;split at e;rename_i k x k' y;by_cases hk:k=k';simp only[hk,RT,Ra,QI]at e;subst e;subst hk;cases f;cases hb;simp only[xeq,ht,E2,RT,Ra];grind;cases e;rename_i ht;split at e;simp only[QI]at e;subst e;cases f;cases hb;simp only[xeq,ht,T5];cases e;rename_i t' ht;split at e;rename_i ie j;exact Jd f hb e ht j rfl;cases e
  ·rename_i q ht;split at e
   ·rename_i xs ys;cases hs:P.stoodInHeld t with
    |true=>grind|false=>simp only[hs,Rb]at e;obtain⟨vs,rfl,h1⟩:=TZ f;obtain⟨us,rfl,h2⟩:=TZ hb;simp only[xeq,ht,hs,Rb];exact rK (mX d) h1 h2 e
   cases e
  rename_i n e' ht;split at e;split at e;rename_i i hi;obtain⟨vs,rfl,h1⟩:=TZ f;obtain⟨us,rfl,h2⟩:=TZ hb;simp only[xeq,ht,hi];exact rK (mX d) h1 h2 e;cases e;cases e;rename_i ht;exact Mb f hb e ht;rename_i ht;exact Dy f hb e ht;rename_i ht;exact Ma f hb e ht
  ·rename_i ht;split at e;simp only[QI]at e;subst e;cases f;cases hb;simp only[xeq,ht];rfl;simp only[QI]at e;subst e;cases f;cases hb;simp only[xeq,ht];rfl
   ·rename_i m vx ty p;cases f with
    |iface _ _ x hx=>
     cases hb with
     |iface _ _ y hy=>
      by_cases hk:m=ty
      ·subst hk;simp only[RT,Ra]at e;split at e
       ·rename_i i hi;cases g:i.comparable with
        |false=>grind|true=>simp only[g,Ra]at e;simp only[xeq,ht,RT,Ra,hi,g];exact mX d m vx p x y c hx hy e
       cases e
      simp only[hk,decide_false,Rb,QI]at e;subst e;simp only[xeq,ht,hk,decide_false,Rb];rfl
   cases e
  cases e
def PV.guard {k:Kd}{d:Dat}(h:PV P F k v d)(t:Ax):M5 P t v=true:=by cases h<;>rfl
def iL {t:Ax}(h:VD P U τ F a v)(e:bR P t a=true):M5 P t v=true:=by
 cases h with
 |any=>simp[bR]at e|nili=>simp[bR]at e|yld=>first|exact e|rfl|simp[bR,M5]at e⊢
 |agg l xs h1 h2=>exact e|lst t' L clip v h hc=>exact h.guard t|rpq x v h=>exact h.guard t|_=>rfl
def O1 {op:BinOp}{t:Ax}{w:Av}(h:Z0 P op t v u=some w):G5 P op t v u=some w:=by unfold G5;rw[h]
theorem U2 {op:BinOp}{t:Ax}(h1:∀k a k' b,v= .int k a->u= .int k' b->False)(h2:∀a b,v= .string a->u= .string b->False)(h3:∀f m n,u= .complex f m n->False):Z0 P op t v u=match op with
  | .eql=>bif M5 P t v then match xeq P 10000 t v u with
   |some b=>some (.bool b)|none=>none else none
  | .neq=>bif M5 P t v then match xeq P 10000 t v u with
   |some b=>some (.bool (!b))|none=>none else none
  |_=>none:=by
 unfold Z0;grind
def MG {op:BinOp}{t:Ax}{a b:Int}(h:C3 op k a b=some v):Z0 P op t (.int k a) (.int k b)=some v:=by simp only[Z0,RT,Ra];cases op<;>first|exact h| (simp[C3,gX]at h)
variable {b:SV}
theorem NW {op:BinOp}{t:Ax}(g:VD P U τ F a v)(hb:VD P U τ F b u):OKp U (sbin P U op t a b) s fun c=>∃w,G5 P op t v u=some w/\VD P U τ F c w:=by
 unfold sbin;split
 ·rename_i k x k' y;cases g;cases hb;split;exact yU.mono fun c ⟨w,h1,h2⟩=>⟨w,O1 h1,h2⟩
  exact yU.mono fun c ⟨w,h1,h2⟩=>⟨w,O1 h1,h2⟩
  ·by_cases hk:k=k';subst hk;simp only[RT,Ra];exact IZ.mono fun c ⟨w,h1,h2⟩=>⟨w,O1 (MG h1),h2⟩
   simp only[hk,decide_false,Rb];exact Tx
 cases g;cases hb;exact Oa.mono fun c ⟨w,h1,h2⟩=>⟨w,O1 h1,h2⟩
 ·rename_i hi hs;have j:∀c,bR P t a=true->uS P 10000 t a b=some c->(∀k p k' q,v= .int k p->u= .int k' q->False)/\(∀p q,v= .string p->u= .string q->False)/\(∀f m n,u= .complex f m n->False):=by
   intro c hg hq;have na:a≠ .any:=fun e=>by subst e;simp[bR]at hg
   have nb:b≠ .any:=by
    intro e;have:∀d,uS P (d+1) t a .any=none:=by intro d;simp only[uS];split<;>(try (split<;>first|rfl| (rename_i h;cases h)|skip));all_goals (first| (unfold Bh;split<;>first|rfl| (rename_i h;cases h;done)| (simp[kM]))| (unfold HH;split<;>first|rfl| (rename_i h;cases h;done))| (unfold mW;split<;>first|rfl| (rename_i h;cases h;done))| (unfold HG;split<;>first|rfl| (rename_i h;cases h;done))|simp_all)
    grind
   refine⟨fun k p k' q r z=>?_,fun p q r z=>?_,fun f m n e=>?_⟩;subst r;subst z;obtain⟨e,rfl⟩:=g.not_int.resolve_left na;obtain⟨e',rfl⟩:=hb.not_int.resolve_left nb;grind;subst r;subst z;obtain⟨e,rfl⟩:=g.not_str.resolve_left na;obtain⟨e',rfl⟩:=hb.not_str.resolve_left nb;grind;subst e;exact nb hb.not_complex
  split
  ·cases hg:bR P t a with
   |false=>exact Tx|true=>split;rename_i c hc;obtain⟨k1,k2,k3⟩:=j c hg hc;refine TC ⟨_,O1 ?_,.bool c⟩;rw[U2 k1 k2 k3];simp only[iL g hg,Ra,mX _ _ _ _ _ _ _ g hb hc];exact Tx
  ·cases hg:bR P t a with
   |false=>exact Tx|true=>split;rename_i c hc;obtain⟨k1,k2,k3⟩:=j c hg hc;refine TC ⟨_,O1 ?_,TU (F6 c)⟩;rw[U2 k1 k2 k3];simp only[iL g hg,Ra,mX _ _ _ _ _ _ _ g hb hc];exact Tx
  exact Tx
theorem LU {op:BinOp}{t:Ax}(g:VD P U τ F a v)(hb:VD P U τ F b u):OKp U (LS P U op t a b) s fun c=>∃w,G5 P op t v u=some w/\VD P U τ F c w:=by
 unfold LS;split
 ·rename_i len h;unfold CJ at h;split at h
  ·rename_i t' ht;split at h
   ·rename_i b' z off f cap;simp only[QI]at h;subst h;have hg:M5 P t v=true:=iL g rfl;cases hb;intro Q hq hf;cases g with
    |sl _ _ _ _ _ i o c k h0 h1 hc=>refine⟨_,_,(hq false).2 (fun h=>by cases h),⟨rfl,rfl,⟨[],rfl⟩,rfl⟩,hf,.bool false,O1 ?_,.bool (.bool false)⟩;rw[U2 (fun _ _ _ _ h=>by grind) (fun _ _ h=>by grind) (fun _ _ _ h=>by grind)];simp only[hg,Ra];simp[xeq,ht]|sl0 _ _ _ _ _ k h0 h1 hc=>have hp:(E4 f (.int 0)).pr U:=(Tk U _).2 (by rw[E2];simp only[h1];rfl);refine⟨_,_,(hq true).1 ((Tk U _).2 rfl) hp,⟨rfl,rfl,⟨[(E4 f (.int 0),true)],rfl⟩,rfl⟩,hf.cons ((Tk U _).1 hp),.bool true,O1 ?_,.bool (.bool true)⟩;rw[U2 (fun _ _ _ _ h=>by grind) (fun _ _ h=>by grind) (fun _ _ _ h=>by grind)];simp only[hg,Ra];simp[xeq,ht]
   ·rename_i t' L clip;cases h;have hg:M5 P t v=true:=iL g rfl;cases hb;intro Q hq hf;cases g with
    |lst _ _ _ _ j _=>
     have p:∀(v:Av) (d:Dat),PV P F (.sl t') v d->v= .slice none 0 0->d.rows=[]:=fun v d h e=>by
      cases h with
      |nils=>rfl|vague=>rfl|sl=>cases e
     have m:∀(v:Av) (d:Dat),PV P F (.sl t') v d->v= .slice none 0 0\/ ∃a l c,v= .slice (some a) l c:=fun v d h=>by
      cases h with
      |nils=>grind|vague=>grind|sl=>grind
     by_cases hv:v= .slice none 0 0
     ·subst hv;have hL:(L.toR U).length=0:=by have h0:=p _ (.lst (L.toR U)) j rfl;rw[show L.toR U=[]from h0];rfl
      have hp:=(Tk U _).2 (by rw[E2];show decide ((A6 L).toI U=(E.int 0).toI U)=true;rw[j8,hL];rfl);refine⟨_,_,(hq true).1 ((Tk U _).2 rfl) hp,⟨rfl,rfl,⟨[(E4 (A6 L) (.int 0),true)],rfl⟩,rfl⟩,hf.cons ((Tk U _).1 hp),.bool true,O1 ?_,.bool (.bool true)⟩;rw[U2 (fun _ _ _ _ h=>by grind) (fun _ _ h=>by grind) (fun _ _ _ h=>by grind)];simp only[hg,Ra];simp[xeq,ht]
     obtain⟨a,l,c,rfl⟩:=(m _ _ j).resolve_left hv;refine⟨_,_,(hq false).2 (fun h=>by cases h),⟨rfl,rfl,⟨[],rfl⟩,rfl⟩,hf,.bool false,O1 ?_,.bool (.bool false)⟩;rw[U2 (fun _ _ _ _ h=>by grind) (fun _ _ h=>by grind) (fun _ _ _ h=>by grind)];simp only[hg,Ra];simp[xeq,ht]
   cases h
  cases h
 exact NW g hb
theorem Nk (r:Int):(Utf8.encode r).data.toList.length<=4:=by unfold Utf8.encode;grind
def LY {src dst:Ax}(g:VD P U τ F a v):OKp U (LX P U src dst a) s fun c=>∃w,gY P src dst v=some w/\VD P U τ F c w:=by
 unfold LX;split;exact Tx
 ·rename_i d f;split
  ·rename_i k k0 e hk;cases g;split;rename_i n;exact TC ⟨.int k (k.wrap n),by simp only[gY,f,hk];rfl,TV rfl⟩
   ·cases Nat.blt k.bits k0.bits with
    |true=>exact TC ⟨.int k (k.wrap (e.toI U)),by simp only[gY,f,hk],TV rfl⟩|false=>exact OKp.need.bind fun _ s' _ _ hp=>TC ⟨.int k (k.wrap (e.toI U)),by simp only[gY,f,hk],TV (LP hp).symm⟩
  rename_i e hk;cases g;exact TC ⟨_,by simp only[gY,f,hk],.str e⟩;rename_i e hk;cases g;intro Q hq hf;exact⟨_,_,hq (Utf8.encode (e.toI U)).data.toList ((Tk U _).2 (by exact decide_eq_true (by have:=Nk (e.toI U);show((Utf8.encode (e.toI U)).data.toList.length:Int)<5;omega))),⟨rfl,rfl,⟨[],rfl⟩,rfl⟩,hf,.string (Utf8.encode (e.toI U)),by simp only[gY,f,hk,MR],.str (.dat _ (.str _))⟩;exact Tx
def Qn {op:UnOp}(f:VD P U τ F a v):OKp U (sun U op a) s fun c=>∃w,xun op v=some w/\VD P U τ F c w:=by
 unfold sun;split;cases f;exact(gH (y4 _ _)).mono fun c h=>⟨_,rfl,h⟩
 cases f;exact TC ⟨_,rfl,TU (F6 _)⟩;exact Tx
theorem Jf {t:Ax}(f:VD P U τ F a v)(e:FX P t a=some b):∃w,lD P t v=some w/\VD P U τ F b w:=by
 unfold FX at e;unfold lD;cases h:P.underlying t with
 |none=>grind|some d=>
  rw[h]at e;cases d<;>first
   | (simp at e;done)
   | (simp at e;subst e;exact⟨_,rfl,.iface t a v f⟩)
def Bl {big:Bool}:∀ {l:As} {xs:Af} {a:SV} {v:Av} {s:SS},VD P U τ F a v->VDL P U τ F l xs->OKp U (Jh U big a l) s fun c=>∃w,eY big v xs=some w/\VD P U τ F c w
 | [],xs,a,v,s,f,hl=>by have:=QP hl.1.symm;subst this;unfold Jh;split;cases f;exact TC ⟨_,rfl,.int _ _⟩;exact Tx
 |b::l,xs,a,v,s,f,hl=>by
  obtain⟨y,ys,rfl,hb,g⟩:=hl.uncons;unfold Jh;split
  ·rename_i k x k' z;cases f;cases hb;refine OKp.test.bind fun t s' _ _ ht=>?_;have e:(bif big then(bif decide (x.toI U<z.toI U)then z.toI U else x.toI U)else(bif decide (z.toI U<x.toI U)then z.toI U else x.toI U))=(bif t then z else x).toI U:=by cases big;simp only[Rb,F8]at ht⊢;rw[ht];cases t<;>rfl;simp only[Ra,F8]at ht⊢;rw[ht];cases t<;>rfl
   have:=Bl (big:=big) (s:=s') (TV (k:=k) e.symm) g;exact this
  exact Tx
end
section
variable {P :Aw}{U:Ab}
structure Ext (τ:Tau)(F:Ac)(s:SS)(hp:Hp)(τ':Tau)(F':Ac)(s':SS)(hp':Hp):Prop where
 t:Tle τ τ'
 f:Fle F F'
 nx:hp.nx<=hp'.nx
 snx:s.nx<=s'.nx
 st:∀b,b<s.nx->τ' b=τ b
 low:∀b x,s'.get b=some x->b<s.nx-> ∃y,s.get b=some y
 hh:∃l,s'.h=l++s.h/\(∀i,i<hp.nx->(∀b x o,s.get b=some x->τ b=some (some (i,o))->b∈l.map Prod.fst->False)->hp'.m.get i=hp.m.get i)/\
  (∀b i o,s.nx<=b->τ' b=some (some (i,o))->hp.nx<=i\/ ∃b0 x o0,s.get b0=some x/\τ b0=some (some (i,o0))/\b0∈l.map Prod.fst)/\
  (∀i y,i<hp.nx->F' i=some y->F i=some y\/ ∃b o,τ' b=some (some (i,o))/\b∈l.map Prod.fst)/\
  ((∀p∈l,p.2≠none)-> ∀i y,F' i=some y->F i=some y)
 hf:∃l,s'.fc=l++s.fc
 win:∃l,s'.h=l++s.h/\ ∀b c e z i o cs n,s.get b=some (.cells c e z)->τ b=some (some (i,o))->i<hp.nx->hp.m.get i=some (.cells cs n e z)->(∀x,(b,x)∈l-> ∃c',x=some (.cells c' e z)/\c'.length=c.length)->
  ∃cs',hp'.m.get i=some (.cells cs' n e z)/\ ∀j,j<o\/o+c.length<=j->cs'.get j=cs.get j
variable {b:Nat}
theorem PH {l m:List (Nat×Bb B6)}{c:As}{e z:Nat}{x0:B6}(h0:(match lk m b with|some x=>x|none=>none)=some x0)(hx:∃c0,x0= .cells c0 e z/\c0.length=c.length)(h:∀x,(b,x)∈l-> ∃c',x=some (.cells c' e z)/\c'.length=c.length):∃c',(match lk (l++m) b with|some x=>x|none=>none)=some (.cells c' e z)/\c'.length=c.length:=by
 induction l with
 |nil=>grind|cons p l f=>obtain⟨k,y⟩:=p;rw[RZ,z8];grind
variable {τ':Tau}{F':Ac}{s':SS}{hp':Hp}
theorem Ext.kept {τ:Tau}{F:Ac}{s:SS}{hp:Hp}(h:Ext τ F s hp τ' F' s' hp'):∀i,i<hp.nx->(∀b x o,s.get b=some x->τ b=some (some (i,o))->False)->hp'.m.get i=hp.m.get i:=by obtain⟨l,_,h1,_⟩:=h.hh;grind
theorem Ext.fresh {τ:Tau}{F:Ac}{s:SS}{hp:Hp}(h:Ext τ F s hp τ' F' s' hp'):∀b i o,s.nx<=b->τ' b=some (some (i,o))->hp.nx<=i\/ ∃b0 x o0,s.get b0=some x/\τ b0=some (some (i,o0)):=by obtain⟨l,_,_,h1,_⟩:=h.hh;grind
variable {x:B6}
def SD.bound {τ:Tau}{F:Ac}{s:SS}{hp:Hp}(h:SD P U τ F s hp)(hb:s.get b=some x):b<s.nx:=by
 have:τ b≠none:=by rcases h.live b x hb with⟨i,o,y,h1,_⟩| ⟨h1,_⟩<;>rw[h1]<;>simp
 exact Nat.lt_of_not_le fun f=>this (h.new b f)
def Ext.refl {τ:Tau}{F:Ac}{s:SS}{hp:Hp}(h:SD P U τ F s hp):Ext τ F s hp τ F s hp:=
 ⟨TS τ,Tn F,Ri _,Ri _,fun _ _=>rfl,fun b x hb _=>⟨x,hb⟩,⟨[],rfl,fun _ _ _=>rfl,fun b i o hb ht=>(by rw[h.new b hb]at ht;cases ht),fun _ _ _ h=>.inl h,fun _ _ _ h=>h⟩,⟨[],rfl⟩,⟨[],rfl,fun _ _ _ _ _ _ cs _ _ _ _ hg _=>⟨cs,hg,fun _ _=>rfl⟩⟩⟩
variable {F2:Ac}
theorem Ext.trans {τ τ1 τ2:Tau}{F F1:Ac}{s s1 s2:SS}{hp hp1 hp2:Hp}(h:Ext τ F s hp τ1 F1 s1 hp1)(k:Ext τ1 F1 s1 hp1 τ2 F2 s2 hp2):Ext τ F s hp τ2 F2 s2 hp2:=by
 obtain⟨C,a1,a2,a3,a4,a5⟩:=h.hh;obtain⟨D,E,b2,G,H,b5⟩:=k.hh;refine⟨h.t.trans k.t,h.f.trans k.f,RU h.nx k.nx,RU h.snx k.snx,fun b hb=>?_,fun b x hb hlt=>?_,⟨D++C,by rw[E,a1,QX],fun i hi hn=>?_,fun b i o hb ht=>?_,fun i y hi hy=>?_,fun hp i y hy=>a5 (fun p h=>hp p (by grind)) i y (b5 (fun p h=>hp p (SU _ h)) i y hy)⟩,?_,?_⟩;rw[k.st b (RP hb h.snx),h.st b hb];obtain⟨y,hy⟩:=k.low b x hb (RP hlt h.snx);exact h.low b y hy hlt;rw[b2 i (RP hi h.nx) ?_,a2 i hi fun b x o hb ht hm=>hn b x o hb ht (by grind)];intro b x o hb ht hm;by_cases hlt:b<s.nx;obtain⟨y,hy⟩:=h.low b x hb hlt;rw[h.st b hlt]at ht;grind;grind
 ·have O:∀b i o,s.nx<=b->τ1 b=some (some (i,o))->hp.nx<=i\/ ∃b0 x o0,s.get b0=some x/\τ b0=some (some (i,o0))/\b0∈(D++C).map Prod.fst:=by grind
  by_cases hlt:b<s1.nx;rw[k.st b hlt]at ht;grind;rcases G b i o (Sw hlt) ht with h1| ⟨b0,y,o0,h1,h2,h3⟩;exact .inl (RU h.nx h1);by_cases g:b0<s.nx;obtain⟨z,hz⟩:=h.low b0 y h1 g;rw[h.st b0 g]at h2;grind;grind
 rcases H i y (RP hi h.nx) hy with h1| ⟨b,o,h1,h2⟩;rcases a4 i y hi h1 with h2| ⟨b,o,h2,h3⟩;grind;exact .inr ⟨b,o,k.t _ _ h2,by simp only[RH,Rw];exact .inr h3⟩;grind;obtain⟨l,e⟩:=h.hf;obtain⟨m,e'⟩:=k.hf;exact⟨m++l,by rw[e',e,QX]⟩
 ·obtain⟨l,B,S⟩:=h.win;obtain⟨m,J,T⟩:=k.win;refine⟨m++l,by rw[J,B,QX],fun b c e z i o cs n hb ht hi hg hl=>?_⟩;obtain⟨r,K,L⟩:=S b c e z i o cs n hb ht hi hg fun x hx=>hl x (by grind);obtain⟨I,q,A⟩:=PH hb ⟨c,rfl,rfl⟩ fun x hx=>hl x (SG _ hx);rw[<-B]at q;obtain⟨w,M,N⟩:=T b I e z i o r n q (h.t _ _ ht) (RP hi h.nx) K fun x hx=>let⟨c',Q,R⟩:=hl x (SU _ hx);⟨c',Q,R.trans A.symm⟩
  exact⟨w,M,fun j hj=>(N j (by omega)).trans (L j hj)⟩
def SD.only {τ:Tau}{F:Ac}{s:SS}{hp:Hp}(h:SD P U τ F s hp)(f:Z6 s s')(hf:FT U s'.fc):SD P U τ F s' hp:=
 ⟨fun b x hb=>h.live b x (by rw[<-f.get];exact hb),fun b c x y i o j q hb hc=>h.inj b c x y i o j q (by rw[<-f.get];exact hb) (by rw[<-f.get];exact hc),
  h.frz,h.lt,h.flt,fun b hb=>h.new b (by rw[<-f.nx];exact hb),hf,fun r hr=>h.fz r (by rw[<-f.fz];exact hr)⟩
def Ext.only {τ:Tau}{F:Ac}{s:SS}{hp:Hp}(h:SD P U τ F s hp)(f:Z6 s s'):Ext τ F s hp τ F s' hp:=
 ⟨TS τ,Tn F,Ri _,by rw[f.nx];exact Ri _,fun _ _=>rfl,fun b x hb _=>⟨x,by rw[<-f.get];exact hb⟩,
  ⟨[],by rw[f.h];rfl,fun _ _ _=>rfl,fun b i o hb ht=>(by rw[h.new b hb]at ht;cases ht),fun _ _ _ h=>.inl h,fun _ _ _ h=>h⟩,f.fc,⟨[],by rw[f.h];rfl,fun _ _ _ _ _ _ cs _ _ _ _ hg _=>⟨cs,hg,fun _ _=>rfl⟩⟩⟩
def Tm:type_of% @Ext.only:=@Ext.only
variable (P U) in
def OKh {α:Type}(m:M α)(τ:Tau)(F:Ac)(s:SS)(hp:Hp)(R:α->Tau->(Ac)->Hp->Prop):Prop:=
 ∀Q,(m s).vc U Q->SD P U τ F s hp-> ∃a s',Q (a,s')/\ ∃τ' F' hp',Ext τ F s hp τ' F' s' hp'/\SD P U τ' F' s' hp'/\R a τ' F' hp'
variable {τ :Tau}{F:Ac}{s:SS}{hp:Hp}
def OKh.ret {α:Type}{a:α}{R:α->Tau->(Ac)->Hp->Prop}(h:R a τ F hp):OKh P U (i4 a) τ F s hp R:=fun _ hq hs=>⟨a,s,hq,τ,F,hp,Ext.refl hs,hs,h⟩
def Tw:type_of% @OKh.ret:=@OKh.ret
def OKh.fail {α:Type}{t:String}{R:α->Tau->(Ac)->Hp->Prop}:OKh P U (a8 t:M α) τ F s hp R:=fun _ hq _=>hq.elim
def Tu:type_of% @OKh.fail:=@OKh.fail
def OKp.up {α:Type}{m:M α}{R:α->Prop}(h:OKp U m s R):OKh P U m τ F s hp fun a τ' F' hp'=>τ'=τ/\F'=F/\hp'=hp/\R a:=by intro Q hq hs;obtain⟨a,s',h1,h2,h3,h4⟩:=h Q hq hs.fc;exact⟨a,s',h1,τ,F,hp,Tm hs h2,hs.only h2 h3,rfl,rfl,rfl,h4⟩
def OKh.mono {α:Type}{m:M α}{R g:α->Tau->(Ac)->Hp->Prop}(h:OKh P U m τ F s hp R)(hr:∀a τ' F' hp',Tle τ τ'->Fle F F'->R a τ' F' hp'->g a τ' F' hp'):OKh P U m τ F s hp g:=by intro Q hq hs;obtain⟨a,s',h1,τ',F',hp',h2,h3,h4⟩:=h Q hq hs;exact⟨a,s',h1,τ',F',hp',h2,h3,hr _ _ _ _ h2.t h2.f h4⟩
def OKh.bind {α g:Type}{m:M α}{k:α->M g}{R:α->Tau->(Ac)->Hp->Prop}{f:g->Tau->(Ac)->Hp->Prop}(h:OKh P U m τ F s hp R)(hk:∀a τ' F' s' hp',Ext τ F s hp τ' F' s' hp'->SD P U τ' F' s' hp'->R a τ' F' hp'->OKh P U (k a) τ' F' s' hp' f):OKh P U (b9 m k) τ F s hp f:=by intro Q hq hs;unfold b9 at hq;rw[TT]at hq;obtain⟨a,s1,h1,τ1,F1,hp1,h2,h3,h4⟩:=h _ hq hs;obtain⟨b,s2,j,τ2,F2,hp2,p,q,r⟩:=hk a τ1 F1 s1 hp1 h2 h3 h4 Q h1 h3;exact⟨b,s2,j,τ2,F2,hp2,Ext.trans h2 p,q,r⟩
def OKh.read {α:Type}{k:SS->M α}{R:α->Tau->(Ac)->Hp->Prop}(h:OKh P U (k s) τ F s hp R):OKh P U (t9 k) τ F s hp R:=h
def Tv:type_of% @OKh.read:=@OKh.read
def OKh.bindp {α g:Type}{m:M α}{k:α->M g}{R:α->Prop}{f:g->Tau->(Ac)->Hp->Prop}(h:OKp U m s R)(hk:∀a s',Z6 s s'->SD P U τ F s' hp->R a->OKh P U (k a) τ F s' hp f):OKh P U (b9 m k) τ F s hp f:=by intro Q hq hs;unfold b9 at hq;rw[TT]at hq;obtain⟨a,s1,h1,h2,h3,h4⟩:=h _ hq hs.fc;have hs1:=hs.only h2 h3;obtain⟨b,s2,j,τ2,F2,hp2,p,q,r⟩:=hk a s1 h2 hs1 h4 Q h1 hs1;exact⟨b,s2,j,τ2,F2,hp2,Ext.trans (Tm hs h2) p,q,r⟩
def Ts:type_of% @OKh.bindp:=@OKh.bindp
theorem OKh.bindE {α g:Type}{m:M α}{k:α->M g}{R:α->Tau->(Ac)->Hp->Prop}{f:g->Tau->(Ac)->Hp->Prop}(h:OKh P U m τ F s hp R)(hk:∀a τ1 F1 s1 hp1,Ext τ F s hp τ1 F1 s1 hp1->SD P U τ1 F1 s1 hp1->R a τ1 F1 hp1-> ∀Q,(k a s1).vc U Q-> ∃b s2,Q (b,s2)/\ ∃τ2 F2 hp2,Ext τ F s hp τ2 F2 s2 hp2/\SD P U τ2 F2 s2 hp2/\f b τ2 F2 hp2):OKh P U (b9 m k) τ F s hp f:=by intro Q hq hs;unfold b9 at hq;rw[TT]at hq;obtain⟨a,s1,h1,τ1,F1,hp1,h2,h3,h4⟩:=h _ hq hs;grind
theorem Ext.shrink {τ:Tau}{F:Ac}{s:SS}{hp hp2:Hp}(h:Ext τ F s hp τ' F' s' hp')(hn:hp'.nx<=hp2.nx)(hm:∀i,i<hp.nx->hp2.m.get i=hp'.m.get i)(hF:∀i y,F2 i=some y->F' i=some y)(hf:Fle F F2):Ext τ F s hp τ' F2 s' hp2:=by
 obtain⟨l,a1,a2,a3,a4,a5⟩:=h.hh;exact⟨h.t,hf,RU h.nx hn,h.snx,h.st,h.low,(by grind),h.hf,
  let⟨l,f,g⟩:=h.win;⟨l,f,fun b c e z i o cs n hb ht hi hg hl=>by grind⟩⟩
variable {y:Blk}
theorem Ext.dfr {τ:Tau}{F:Ac}{s:SS}{hp:Hp}(h:Ext τ F s hp τ' F' s' hp')(hs:SD P U τ F s hp){r:Nat}(hr:r<hp.nx)(hg:hp.m.get r=some y)(hy:y= .dfr\/F r=some y):hp'.m.get r=some y:=by
 rw[h.kept r hr fun b x o hb ht=>?_,hg];rcases hs.live b x hb with⟨i,o',f,h1,h2,h3,h4⟩| ⟨h1,_⟩
 ·rw[ht]at h1;cases h1;rw[hg]at h2;cases h2;rcases hy with rfl|hy
  ·cases x with
   |cells l e z=>obtain⟨cs,n,h,_⟩:=h4;cases h
   |rows L e z ph=>obtain⟨cs,n,h,_⟩:=h4;cases h
   |map L kt vt=>obtain⟨_,es,reg,h,_⟩:=h4;cases h
   |iter s p=>obtain⟨_,n,h,_⟩:=h4;cases h
   |reg r L z=>obtain⟨_,_,cs,h,_⟩:=h4;cases h
  grind
 grind
def put (τ:Tau)(b:Nat)(p:Bb (Nat×Nat)):Tau:=fun c=>if c=b then some p else τ c
def u5 (τ:Tau)(b:Nat)(p:Bb (Nat×Nat)):put τ b p b=some p:=by simp[put]
def B7 (τ:Tau){c:Nat}(p:Bb (Nat×Nat))(h:c≠b):put τ b p c=τ c:=by simp[put,h]
theorem bO {τ:Tau}(p:Bb (Nat×Nat))(h:τ b=none):Tle τ (put τ b p):=fun c q hc=>by by_cases e:c=b;grind;rw[B7 τ p e];exact hc
variable {o:Nat}
def BD.mono {τ:Tau}{F:Ac}(ht:Tle τ τ')(hf:Fle F F')(h:BD P U τ F o x y):BD P U τ' F' o x y:=by
 cases x with
 |cells l e z=>obtain⟨cs,n,h1,h2,h3⟩:=h;exact⟨cs,n,h1,h2,fun j a q=>let⟨x,k1,k2⟩:=h3 j a q;⟨x,k1,k2.mono ht hf⟩⟩
 |rows L e z ph=>obtain⟨cs,n,h1,⟨h2,h3,h4,g⟩,m⟩:=h;exact⟨cs,n,h1,⟨h2,h3,h4,fun r k row d hr hk=>let⟨x,k1,k2⟩:=g r k row d hr hk;⟨x,k1,fun kd f=>(k2 kd f).mono P hf⟩⟩,m⟩
 |map L kt vt=>obtain⟨h0,es,reg,h1,hr,h2,h3⟩:=h;exact⟨h0,es,reg,h1,hr,h2,fun j row e hr he=>let⟨B,ks,d,k1,k2,k3,w,A⟩:=h3 j row e hr he;⟨B,ks,d,k1,k2,k3,w,A.mono P hf⟩⟩
 |iter s p=>exact h|reg r L z=>obtain⟨h0,m,cs,h1,h2,h3,h4,g⟩:=h;exact⟨h0,ht _ _ m,cs,h1,h2,h3,h4,fun r k row d hr hk=>let⟨x,k1,k2⟩:=g r k row d hr hk;⟨x,k1,fun kd f=>(k2 kd f).mono P hf⟩⟩
def Ic.mono {τ:Tau}{F:Ac}(ht:Tle τ τ')(hf:Fle F F'){r:Nat×E×Ax×Nat}(h:Ic P U τ F r):Ic P U τ' F' r:=by rcases h with⟨i,o,cs,n,h1,h2,h3,h4,g,j⟩| ⟨h1,h2⟩;exact .inl ⟨i,o,cs,n,ht _ _ h1,hf _ _ h2,h3,h4,g,fun r k row d hr hk=>let⟨x,k1,k2⟩:=j r k row d hr hk;⟨x,k1,fun kd f=>(k2 kd f).mono P hf⟩⟩;exact .inr ⟨ht _ _ h1,h2⟩
def MV (hp:Hp)(y:Blk)(i:Nat)(h:i<hp.nx):(hp.m.set hp.nx (some y)).get i=hp.m.get i:=by rw[TQ,Re (by omega)]
def fH (s:SS)(x:B6):SS:= {s with h:=(s.nx,some x)::s.h,nx:=s.nx+1}
def gS (s:SS)(x:B6)(b:Nat):(fH s x).get b=if b=s.nx then some x else s.get b:=by have:=TH s s.nx b (some x);exact this
def bQ (x:B6):M Nat:=fun s=>.ret (s.nx,fH s x)
theorem SD.alloc (hs:SD P U τ F s hp){p:Bb (Nat×Nat)}(hn:hp.nx<=hp'.nx)(hk:∀i,i<hp.nx->hp'.m.get i=hp.m.get i)(hx:(∃i o y,p=some (i,o)/\hp.nx<=i/\i<hp'.nx/\hp'.m.get i=some y/\BD P U (put τ s.nx p) F o x y)\/(p=none/\ ∃L e z ph,x= .rows L e z ph/\L.toR U=[]/\z=(kf P e).length/\ph.toI U<=0)):Ext τ F s hp (put τ s.nx p) F (fH s x) hp'/\SD P U (put τ s.nx p) F (fH s x) hp':=by
 have h0:=hs.new _ (Ri _);have ht:=bO p h0;refine⟨⟨ht,Tn F,hn,by simp[fH],fun b hb=>B7 τ p (by omega),fun b y hb hlt=>?_,⟨[(s.nx,some x)],rfl,fun i hi _=>hk i hi,fun b i o hb f=>?_,fun _ _ _ h=>.inl h,fun _ _ _ h=>h⟩,⟨[],rfl⟩,⟨[(s.nx,some x)],rfl,fun _ _ _ _ i _ cs _ _ _ hi hg _=>(by grind)⟩⟩,?_⟩;rw[gS,Re (by omega)]at hb;exact⟨y,hb⟩;by_cases e:b=s.nx;subst e;rw[u5]at f;grind;rw[B7 τ p e,hs.new b hb]at f;cases f
 ·have old:∀b y,b≠s.nx->(fH s x).get b=some y->s.get b=some y:=fun b y e hb=>by rw[gS,Re e]at hb;exact hb
  refine⟨fun b y hb=>?_,fun b c y z i o j q hb hc A B g=>?_,fun i y hi=>by rw[hk i (hs.flt i y hi)];exact hs.frz i y hi,fun b i o hb=>?_,fun i y hi=>RP (hs.flt i y hi) hn,fun b hb=>?_,hs.fc,fun r hr=>(hs.fz r hr).mono ht (Tn F)⟩
  ·by_cases e:b=s.nx
   ·subst e;rw[gS,Rh rfl,QI]at hb;subst hb;rcases hx with⟨i,o,y,rfl,h1,h2,h3,h4⟩| ⟨rfl,h⟩
    ·refine .inl ⟨i,o,y,u5 _ _ _,h3,?_,h4⟩;cases hF:F i with
     |none=>rfl|some b=>exact absurd (hs.flt i b hF) (by omega)
    exact .inr ⟨u5 _ _ _,h⟩
   rcases hs.live b y (old b y e hb)with⟨i,o,D,h1,h2,h3,h4⟩| ⟨h1,h2⟩;exact .inl ⟨i,o,D,by rw[B7 τ p e];exact h1,by rw[hk i (hs.lt b i o h1)];exact h2,h3,h4.mono ht (Tn F)⟩;exact .inr ⟨by rw[B7 τ p e];exact h1,h2⟩
  ·have new:∀c i o,c=s.nx->put τ s.nx p c=some (some (i,o))->hp.nx<=i:=by intro c i o hc h;subst hc;rw[u5]at h;grind
   by_cases C:b=s.nx;have h1:=new b i o C B;have w:c≠s.nx:=fun h=>A (by omega);rw[B7 τ p w]at g;have:=hs.lt c j q g;omega;rw[B7 τ p C]at B;by_cases w:c=s.nx;have h1:=new c j q w g;have:=hs.lt b i o B;omega;rw[B7 τ p w]at g;exact hs.inj b c y z i o j q (old b y C hb) (old c z w hc) A B g
  by_cases e:b=s.nx;subst e;rw[u5]at hb;grind;rw[B7 τ p e]at hb;exact RP (hs.lt b i o hb) hn;have:s.nx+1<=b:=hb;rw[B7 τ p (by omega)];exact hs.new b (by omega)
variable {i:Nat}
theorem SD.change (hs:SD P U τ F s hp){x':B6}(hb:s.get b=some x)(ht:τ b=some (some (i,o)))(hn:hp'.nx=hp.nx)(hk:∀j,j≠i->hp'.m.get j=hp.m.get j)(hi:hp'.m.get i=some y)(G:BD P U τ F o x' y)(H:∀c e z c',x= .cells c e z->x'= .cells c' e z->c'.length=c.length-> ∀cs n,hp.m.get i=some (.cells cs n e z)-> ∃cs',y= .cells cs' n e z/\ ∀j,j<o\/o+c.length<=j->cs'.get j=cs.get j:=by intro _ _ _ _ h h';first| (cases h;done)| (cases h';done)):Ext τ F s hp τ F (s.set b (some x')) hp'/\SD P U τ F (s.set b (some x')) hp':=by
 refine⟨⟨TS τ,Tn F,by omega,Ri _,fun _ _=>rfl,fun c y hc _=>?_,⟨[(b,some x')],rfl,fun j hj C=>hk j (by grind),fun c j q hc h=>(by rw[hs.new c hc]at h;cases h),fun _ _ _ h=>.inl h,fun _ _ _ h=>h⟩,⟨[],rfl⟩,⟨[(b,some x')],rfl,fun d c e z j q cs n f hq hj hg hl=>?_⟩⟩,?_⟩;rw[TH]at hc;grind;by_cases h:d=b;grind;exact⟨cs,by rw[hk j (hs.inj d b _ x j q i o f hb h hq ht)];exact hg,fun _ _=>rfl⟩
 ·have E:F i=none:=by rcases hs.live b x hb with⟨I,o',g,h1,_,h3,_⟩| ⟨h1,_⟩;grind;grind
  have liv:∀c,(∃y,(s.set b (some x')).get c=some y)-> ∃y,s.get c=some y:=by rintro c ⟨y,hc⟩;rw[TH]at hc;grind
  refine⟨fun c z hc=>?_,fun c d y z j q k r hc f p w A=>?_,fun j y hj=>?_,fun c j q h=>by rw[hn];exact hs.lt c j q h,fun j y h=>by rw[hn];exact hs.flt j y h,hs.new,hs.fc,hs.fz⟩;rw[TH]at hc;by_cases e:c=b;grind;rw[Re e]at hc;rcases hs.live c z hc with⟨j,q,g,h1,h2,h3,h4⟩|h;refine .inl ⟨j,q,g,h1,?_,h3,h4⟩;rw[hk j ?_];exact h2;intro B;subst B;exact hs.inj c b z x j q j o hc hb e h1 ht rfl;grind;obtain⟨g,hy⟩:=liv c ⟨y,hc⟩;obtain⟨D,hz⟩:=liv d ⟨z,f⟩;exact hs.inj c d g D j q k r hy hz p w A;rw[hk j (by grind)];exact hs.frz j y hj
theorem SD.move (hs:SD P U τ F s hp){x':B6}(hb:s.get b=some x)(ht:τ b=some (some (i,o)))(hn:hp.nx<=hp'.nx)(hk:∀j,j<hp.nx->j≠i->hp'.m.get j=hp.m.get j){j q:Nat}(hj:j=i\/hp.nx<=j)(D:j<hp'.nx)(hi:hp'.m.get j=some y)(O:BD P U (put τ s.nx (some (j,q))) F q x' y):Ext τ F s hp (put τ s.nx (some (j,q))) F (fH (s.set b none) x') hp'/\SD P U (put τ s.nx (some (j,q))) F (fH (s.set b none) x') hp':=by
 have h0:=hs.new _ (Ri _);have A:=bO (some (j,q)) h0;have S:F i=none:=by rcases hs.live b x hb with⟨T,o',K,h1,_,h3,_⟩| ⟨h1,_⟩;grind;grind
 have M:F j=none:=by
  rcases hj with rfl|hj;grind
  ·cases hF:F j with
   |none=>rfl|some w=>exact absurd (hs.flt j w hF) (by omega)
 have N:∀c,(fH (s.set b none) x').get c=if c=s.nx then some x' else if c=b then none else s.get c:=by intro c;rw[gS,TH];rfl
 refine⟨⟨A,Tn F,hn,by simp[fH,SS.set],fun c hc=>B7 τ _ (by omega),fun c y hc hlt=>?_,⟨[(s.nx,some x'),(b,none)],rfl,fun k g Q=>hk k g (by grind),fun c k r hc h=>?_,fun _ _ _ h=>.inl h,fun _ _ _ h=>h⟩,⟨[],rfl⟩,⟨[(s.nx,some x'),(b,none)],rfl,fun d c e z j' q' cs n p hq D hg hl=>?_⟩⟩,?_⟩;grind
 rotate_left
 by_cases h:d=b;grind;exact⟨cs,by rw[hk j' D (hs.inj d b _ x j' q' i o p hb h hq ht)];exact hg,fun _ _=>rfl⟩
 rotate_left
 by_cases e:c=s.nx;subst e;rw[u5]at h;grind;rw[B7 τ _ e,hs.new c hc]at h;cases h
 ·have inv:∀c z,(fH (s.set b none) x').get c=some z->c≠s.nx->c≠b/\s.get c=some z:=by grind
  have apart:∀c z k r,c≠b->s.get c=some z->τ c=some (some (k,r))->k≠j:=by intro c z k r e hc h J;subst J;rcases hj with rfl|hj;exact hs.inj c b z x _ r _ o hc hb e h ht rfl;have:=hs.lt c _ r h;omega
  refine⟨fun c z hc=>?_,fun c d y z k r k' R hc p E H G=>?_,fun k y g=>?_,fun c k r h=>?_,fun k y h=>RP (hs.flt k y h) hn,fun c hc=>?_,hs.fc,fun r hr=>(hs.fz r hr).mono A (Tn F)⟩;by_cases e:c=s.nx;subst e;rw[N,Rh rfl,QI]at hc;subst hc;exact .inl ⟨j,q,y,u5 _ _ _,hi,M,O⟩;obtain⟨e',f⟩:=inv c z hc e;rcases hs.live c z f with⟨k,r,K,h1,h2,h3,h4⟩| ⟨h1,h2⟩;refine .inl ⟨k,r,K,by rw[B7 τ _ e];exact h1,?_,h3,h4.mono A (Tn F)⟩;rw[hk k (hs.lt c k r h1) ?_];exact h2;intro J;subst J;exact hs.inj c b z x _ r _ o f hb e' h1 ht rfl;exact .inr ⟨by rw[B7 τ _ e];exact h1,h2⟩;by_cases I:c=s.nx;subst I;have B:d≠s.nx:=fun h=>E h.symm;rw[u5]at H;rw[B7 τ _ B]at G;grind;obtain⟨e',f⟩:=inv c y hc I;rw[B7 τ _ I]at H;by_cases B:d=s.nx;subst B;rw[u5]at G;grind;obtain⟨L,C⟩:=inv d z p B;rw[B7 τ _ B]at G;exact hs.inj c d y z k r k' R f C E H G;rw[hk k (hs.flt k y g) (by grind)];exact hs.frz k y g;by_cases e:c=s.nx;subst e;rw[u5]at h;grind;rw[B7 τ _ e]at h;exact RP (hs.lt c k r h) hn;have:s.nx+1<=c:=hc;rw[B7 τ _ (by omega)];exact hs.new c (by omega)
theorem SD.freeze (hs:SD P U τ F s hp)(hb:s.get b=some x)(ht:τ b=some (some (i,o)))(hi:hp.m.get i=some y):∃F',Fle F F'/\F' i=some y/\Ext τ F s hp τ F' (s.set b none) hp/\SD P U τ F' (s.set b none) hp:=by
 have G:F i=none:=by rcases hs.live b x hb with⟨H,o',A,h1,_,h3,_⟩| ⟨h1,_⟩;grind;grind
 have hF:Fle F (fun j=>if j=i then some y else F j):=fun j w hj=>by grind
 have inv:∀c z,(s.set b none).get c=some z->c≠b/\s.get c=some z:=by intro c z hc;rw[TH]at hc;grind
 refine⟨fun j=>if j=i then some y else F j,hF,by simp,⟨TS τ,hF,Ri _,Ri _,fun _ _=>rfl,fun c z hc _=>⟨z,(inv c z hc).2⟩,⟨[(b,none)],rfl,fun _ _ _=>rfl,fun c j q hc h=>(by rw[hs.new c hc]at h;cases h),fun j w _ hj=>?_,fun hp=>absurd rfl (hp (b,none) (by simp))⟩,⟨[],rfl⟩,⟨[(b,none)],rfl,fun _ _ _ _ _ _ cs _ _ _ _ hg _=>⟨cs,hg,fun _ _=>rfl⟩⟩⟩,?_⟩;grind;refine⟨fun c z hc=>?_,fun c d y z k r k' E hc g p B C=>hs.inj c d y z k r k' E (inv c y hc).2 (inv d z g).2 p B C,fun j w hj=>?_,hs.lt,fun j w hj=>?_,hs.new,hs.fc,fun r hr=>(hs.fz r hr).mono (TS τ) hF⟩
 ·obtain⟨e,f⟩:=inv c z hc;rcases hs.live c z f with⟨k,r,A,h1,h2,h3,h4⟩|h
  ·refine .inl ⟨k,r,A,h1,h2,?_,h4.mono (TS τ) hF⟩;have:k≠i:=fun D=>by subst D;exact hs.inj c b z x _ r _ o f hb e h1 ht rfl
   grind
  grind
 by_cases e:j=i;grind;rw[Re e]at hj;exact hs.frz j w hj;by_cases e:j=i;subst e;exact hs.lt b _ o ht;rw[Re e]at hj;exact hs.flt j w hj
theorem SD.drop (hs:SD P U τ F s hp)(b:Nat):Ext τ F s hp τ F (s.set b none) hp/\SD P U τ F (s.set b none) hp:=by
 have inv:∀c z,(s.set b none).get c=some z->c≠b/\s.get c=some z:=by intro c z hc;rw[TH]at hc;grind
 exact⟨⟨TS τ,Tn F,Ri _,Ri _,fun _ _=>rfl,fun c z hc _=>⟨z,(inv c z hc).2⟩,⟨[(b,none)],rfl,fun _ _ _=>rfl,fun c j q hc h=>(by rw[hs.new c hc]at h;cases h),fun _ _ _ h=>.inl h,fun _ _ _ h=>h⟩,⟨[],rfl⟩,⟨[(b,none)],rfl,fun _ _ _ _ _ _ cs _ _ _ _ hg _=>⟨cs,hg,fun _ _=>rfl⟩⟩⟩,
  fun c z hc=>hs.live c z (inv c z hc).2,fun c d y z k r k' w hc f g m p=>hs.inj c d y z k r k' w (inv c y hc).2 (inv d z f).2 g m p,hs.frz,hs.lt,hs.flt,hs.new,hs.fc,hs.fz⟩
end
def isI :E->Bool
 | .int _=>true| .dat _ (.int _)=>true| .op o _=>match o with
  | .add| .sub| .mul| .tdiv| .tmod| .wrap _| .bits _ _| .shl _| .shr _| .len| .slen| .sidx| .srune| .srw| .castI=>true
  |_=>false
 |_=>false
def isB :E->Bool
 | .bool _=>true| .dat _ (.bool _)=>true| .op .lt [_,_]| .op .eqi [_,_]| .op .eqb [_,_]| .op .eqs [_,_]| .op .lts [_,_]| .op .not [_]| .op .and [_,_]| .op .or [_,_]| .op .castB [_]=>true
 |_=>false
def isS :E->Bool
 | .str _=>true| .dat _ (.str _)=>true| .op .sapp [_,_]| .op .ssub [_,_,_]| .op .castS [_]=>true
 |_=>false
def isL :E->Bool
 | .dat _ (.lst _)=>true| .op .nil _| .op (.rows _ _) _| .op .app [_,_]| .op (.upd _) [_,_,_]| .op .part [_,_,_]| .op .over [_,_,_]| .op .rep (_::_)| .op .castL [_]=>true
 |_=>false
def Lb (e:E):E:=bif isI e then e else .op .castI [e]
def mkCB (e:E):E:=bif isB e then e else .op .castB [e]
def mkCS (e:E):E:=bif isS e then e else .op .castS [e]
def iZ (e:E):E:=bif isL e then e else .op .castL [e]
section
variable {U :Ab}
def Nu {e:E}(h:isI e=true):e.den U= .int (e.toI U):=by
 cases e with
 |int n=>rfl|dat n d=>cases d<;>first|rfl| (simp[isI]at h)
 |op o as=>
  cases o<;>first
   | (simp[isI]at h;done)
   | (simp only[E.toI,E.den,Sy.den];split<;>rfl)
 |_=>simp[isI]at h
def Nt {e:E}(h:isB e=true):e.den U= .bool (e.den U).toBool:=by unfold isB at h;split at h<;>first|rfl|cases h
def Ny {e:E}(h:isS e=true):e.den U= .str (e.den U).toStr:=by unfold isS at h;split at h<;>first|rfl|cases h
def Nx {e:E}(h:isL e=true):e.den U= .lst (e.toR U):=by unfold isL at h;split at h<;>first|rfl|cases h
def tL (e:E):(Lb e).den U= .int (e.toI U):=by
 unfold Lb;cases h:isI e with
 |true=>exact Nu h|false=>rfl
def La (e:E):(mkCB e).den U= .bool (e.den U).toBool:=by
 unfold mkCB;cases h:isB e with
 |true=>exact Nt h|false=>rfl
def Lc (e:E):(mkCS e).den U= .str (e.den U).toStr:=by
 unfold mkCS;cases h:isS e with
 |true=>exact Ny h|false=>rfl
def mN (e:E):(iZ e).den U= .lst (e.toR U):=by
 unfold iZ;cases h:isL e with
 |true=>exact Nx h|false=>rfl
end
section
variable (P :Aw)(U:Ab)
def kR (t:Ax)(x:SV)(f:Nat):Bb SV:=
 match P.underlying t with
 |some (.struct fs)=>match fs.toList[f]? with
  |some fd=>match P.info? fd.type with
   |some i=>bif Nat.beq i.size 0 then none else
    match x with
    | .ptr b z row fld=>some (.ptr b z row (fld+fd.offset))| .pptr e L row fld=>some (.pptr e L row (fld+fd.offset))| .rp row fld=>some (.rp row (fld+fd.offset))|_=>none
   |none=>none
  |none=>none
 |_=>none
def kS (t:Ax)(x ix:SV):M SV:=
 match ix with
 | .int _ n=>match P.underlying t with
  |some (.slice e)=>match P.info? e with
   |some ie=>match x with
    | .sl b z off len _=>bif Nat.beq z ie.size then b9 (p8 U (y8 (z4 n (.int 0)))) fun _=>b9 (p8 U (z4 n len)) fun _=>i4 (.ptr b z (y7 off n) 0)else a8 "index: size"
    | .lst e' L _=>bif Nat.beq (kf P e').length ie.size then b9 (p8 U (y8 (z4 n (.int 0)))) fun _=>b9 (p8 U (z4 n (A6 L))) fun _=>i4 (.pptr e' L n 0)else a8 "index: size"
    |_=>a8 "index: no slice"
   |none=>a8 "index: type"
  |some (.array len e)=>match P.info? e with
   |some ie=>match x with
    | .ptr b z row fld=>match n with
     | .int m=>bif decide (0<=m)&&decide (m<len)then i4 (.ptr b z row (fld+m.toNat*ie.size))else a8 "index: array"|n=>match row with
      | .int r=>bif decide (0<=r)then b9 (p8 U (y8 (z4 n (.int 0)))) fun _=>b9 (p8 U (z4 n (.int len))) fun _=>i4 (.ptr b ie.size n (r.toNat*z+fld))else a8 "index: array"
      |_=>a8 "index: array"
    | .pptr e' L row fld=>match n with
     | .int m=>bif decide (0<=m)&&decide (m<len)then i4 (.pptr e' L row (fld+m.toNat*ie.size))else a8 "index: array"|_=>a8 "index: array"
    |_=>a8 "index: array"
   |none=>a8 "index: type"
  |_=>a8 "index: type"
 |_=>a8 "index: no int"
def ldk (t:Ax):Bb (Bool×Nat):=
 match P.underlying t with
 | some d => bif dF d then
   match P.info? t with
   |some ti=>some (true,ti.size)|none=>none
  else some (false,1)
 |none=>none
def Fh (ag:Bool)(l:As):Bb SV:=bif ag then some (.agg l)else l.head?
def Hc (k:Kd)(c:E):Bb SV:=
 match k with
 | .int k=>some (.int k c)| .bool=>some (.bool c)| .str=>some (.str c)| .sl e=>some (.lst e c false)| .rp=>some (.rpq c)| .bad=>none
def gA (ks:List Kd)(L row:E):Nat->Nat->Bb (As)
 |_,0=>some []|j,n+1=>match ks[j]? with
  |some k=>match Hc k (EQ j L row)with
   |some a=>match gA ks L row (j+1) n with
    |some l=>some (a::l)|none=>none
   |none=>none
  |none=>none
def MB (k:Kd)(a:SV):Bb E:=
 match k,a with
 | .int k,.int k' e=>bif decide (k=k')then some (Lb e)else none| .bool,.bool e=>some (mkCB e)| .str,.str e=>some (mkCS e)| .sl _,.nils=>some (.op .nil [])| .sl e,.lst e' L _=>bif Nat.beq e e' then some (iZ L)else none| .rp,.rpq e=>some (Lb e)| .rp,.rp e 0=>some (Lb e)| .rp,.nilp=>some (.int (-1))|_,_=>none
def Jp (ks:List Kd):Nat->As->Bb (Au)
 |_,[]=>some []|j,a::l=>match ks[j % ks.length]? with
  |some k=>match MB k a with
   |some e=>match Jp ks (j+1) l with
    |some es=>some (e::es)|none=>none
   |none=>none
  |none=>none
def uK (e:Ax)(z:Nat)(l:As):Bb E:=
 bif Nat.ble 1 z&&Nat.beq z (kf P e).length&&Nat.beq (l.length/z*z) l.length then
  match Jp (kf P e) 0 l with
  |some es=>some (.op (.rows (l.length/z) z) es)|none=>none
 else none
def L8 (ag:Bool)(n:Nat)(e:Ax)(L row:E)(fld:Nat):Bb SV:=
 match gA (kf P e) L row fld n with
 |some l=>Fh ag l|none=>none
def CG (k:IntKind):As->Bb (Au)
 | []=>some []| .int k' e::l=>bif decide (k=k')then match CG k l with
  |some es=>some (e::es)|none=>none else none
 |_=>none
def Me (l:As)(row:E):M SV:=match l with
 | .int k e::l'=>match CG k (.int k e::l')with
  |some es=>b9 (p8 U (z4 row (.int es.length))) fun _=>i4 (.int k (EQ 0 (.op (.rows es.length 1) es) row))
  |none=>a8 "load: rows"
 |_=>a8 "load: rows"
def rgF :List (Nat×Bb B6)->Ai
 | []=>none| (b,some (.reg _ _ _))::_=>some b|_::l=>rgF l
def wG (s:SS):Bb (Nat×E×Nat):=match rgF s.h with
 |some b=>match s.get b with
  |some (.reg r L z)=>bif Nat.beq r b then some (b,L,z)else none|_=>none
 |none=>none
def rgB (s:SS):Ai:=(wG s).map fun r=>r.1
def HK (t:Ax)(a:SV):M SV:=
 match ldk P t with
 |none=>a8 "load: type"|some (ag,n)=>match a with
  | .ptr b z row fld=>t9 fun s=>match s.get b with
   |some (.cells l e _)=>match row with
    | .int r=>bif decide (0<=r)&&Nat.ble (r.toNat*z+fld+n) l.length then gE "load" (Fh ag ((l.drop (r.toNat*z+fld)).take n))else a8 "load: beyond"|row=>match uK P e z l with
     |some L=>bif Nat.ble (fld+n) z then b9 (p8 U (z4 row (A6 L))) fun _=>gE "load" (L8 P ag n e L row fld)else a8 "load: beyond"
     |none=>bif !ag&&Nat.beq z 1&&Nat.beq n 1 then Me U (l.drop fld) row else a8 "load: rows"
   |some (.rows L e z' _)=>bif Nat.beq z z'&&Nat.ble (fld+n) z then b9 (p8 U (z4 row (A6 L))) fun _=>gE "load" (L8 P ag n e L row fld)else a8 "load: beyond"
   |some (.map _ _ _)=>a8 "load: no block"|some (.iter _ _)=>a8 "load: no block"|some (.reg _ _ _)=>a8 "load: no block"|none=>match lk s.fz b with
    |some (L,e,z')=>bif Nat.beq z z'&&Nat.ble (fld+n) z then b9 (p8 U (z4 row (A6 L))) fun _=>gE "load" (L8 P ag n e L row fld)else a8 "load: beyond"
    |none=>a8 "load: no block"
  | .rp row fld=>t9 fun s=>match wG s with
   |some (_,L,z)=>bif Nat.ble (fld+n) z then b9 (p8 U (z4 row (A6 L))) fun _=>gE "load" (L8 P ag n rgT L row fld)else a8 "load: beyond"
   |none=>a8 "load: no region"
  | .pptr e L row fld=>bif Nat.ble (fld+n) (kf P e).length then gE "load" (L8 P ag n e L row fld)else a8 "load: beyond"|_=>a8 "load: no address"
end
section
variable {P :Aw}{U:Ab}{τ:Tau}{F:Ac}{s:SS}{hp:Hp}
variable {fld i o:Nat}
def VD.ptr' {b z a:Nat}{row:E}(h:τ b=some (some (i,o)))(h0:0<=row.toI U)(e:a=o+row.toN U*z+fld):VD P U τ F (.ptr b z row fld) (.pointer (some ⟨i,a,none⟩)):=by subst e;exact .ptr b z row fld i o h h0
def VD.pptr' {t:Ax}{L row:E}{l c a:Nat}(h:PV P F (.sl t) (.slice (some ⟨i,o,none⟩) l c) (.lst (L.toR U)))(h0:0<=row.toI U)(h1:row.toI U<(L.toR U).length)(e:a=o+row.toN U*(kf P t).length+fld):VD P U τ F (.pptr t L row fld) (.pointer (some ⟨i,a,none⟩)):=by subst e;exact .pptr t L row fld i o l c h h0 h1
variable {a:SV}{v:Av}
theorem wI {t:Ax}{b:SV}{f:Nat}(p:VD P U τ F a v)(e:kR P t a f=some b):∃w,I6 P t v f=some w/\VD P U τ F b w:=by
 unfold kR at e;unfold I6;split at e
 ·rename_i r j;split at e
  ·rename_i m g;split at e
   ·rename_i i hi;cases hz:Nat.beq i.size 0 with
    |true=>grind|false=>
     simp only[hz,Rb]at e;split at e
     ·rename_i b z row fld;simp only[QI]at e;subst e;cases p with
      |ptr _ _ _ _ q o h h0=>exact⟨.pointer (some ⟨q,o+row.toN U*z+fld+m.offset,none⟩),by simp only[j,g,hi,hz,Rb],VD.ptr' h h0 (by omega)⟩
     ·rename_i t L row fld;simp only[QI]at e;subst e;cases p with
      |pptr _ _ _ _ q o l c h h0 h1=>exact⟨.pointer (some ⟨q,o+row.toN U*(kf P t).length+fld+m.offset,none⟩),by simp only[j,g,hi,hz,Rb],VD.pptr' h h0 h1 (by omega)⟩
     ·rename_i row fld;simp only[QI]at e;subst e;cases p with
      |rp _ _ h0=>exact⟨.pointer (some ⟨row.toN U,fld+m.offset,some 1⟩),by simp only[j,g,hi,hz,Rb],.rp _ _ h0⟩
     cases e
   cases e
  cases e
 cases e
def C7 {a b:E}(h:(z4 a b).pr U):a.toI U<b.toI U:=by rw[Tk,F8,Rg]at h;exact h
def A0 {a b:E}(h:(y8 (z4 a b)).pr U):b.toI U<=a.toI U:=by rw[Tk,F6,F8,RG,RJ]at h;exact Int.not_lt.1 h
def aX {a b:E}(h:(E4 a b).pr U):a.toI U=b.toI U:=by rw[Tk,E2,Rg]at h;exact h
def PV.len {t:Ax}{a:Aq}{l c:Nat}{d:Dat}(h:PV P F (.sl t) (.slice a l c) d):l=d.rows.length:=by cases h<;>rfl
theorem wJ {t:Ax}{B:SV}{w:Av}(j:VD P U τ F a v)(hi:VD P U τ F B w):OKp U (kS P U t a B) s fun b=>∃u,C4 P t v w=some u/\VD P U τ F b u:=by
 unfold kS;split
 ·rename_i k n;cases hi;split
  ·rename_i e he;split
   ·rename_i ie f;split
    ·rename_i b z off len cap;cases hz:Nat.beq z ie.size with
     |false=>exact Tx|true=>
      refine OKp.need.bind fun _ s1 _ _ h1=>OKp.need.bind fun _ s2 _ _ h2=>TC ?_;have h1:=Y5 h1;have h2:=C7 h2;have q:z=ie.size:=QN hz;cases j with
      |sl _ _ _ _ _ i o c h h0 p hc=>
       refine⟨.pointer (some ⟨i,o+off.toN U*z+n.toN U*ie.size,none⟩),?_,VD.ptr' h (by rw[l9];omega) ?_⟩;simp only[C4,he,f];grind
       ·have:(y7 off n).toN U=off.toN U+n.toN U:=by show((y7 off n).toI U).toNat=(off.toI U).toNat+(n.toI U).toNat;rw[l9];omega
        grind
      |sl0 _ _ _ _ _ h h0 p hc=>omega
    ·rename_i e' L clip;cases hz:Nat.beq (kf P e').length ie.size with
     |false=>exact Tx|true=>
      refine OKp.need.bind fun _ s1 _ _ h1=>OKp.need.bind fun _ s2 _ _ h2=>TC ?_;have h1:=Y5 h1;have h2:=C7 h2;rw[j8]at h2;have q:(kf P e').length=ie.size:=QN hz;cases j with
      |lst _ _ _ _ h hc=>
       have hl:∃i o l c,v= .slice (some ⟨i,o,none⟩) l c:=by
        cases hv:L.toR U with
        |nil=>grind|cons r D=>
         rw[hv]at h;cases h with
         |sl _ i o c b cs n z rows x hF hb C hn A hr hx hp=>grind
       obtain⟨i,o,l,c,rfl⟩:=hl;have g:=h.len;refine⟨.pointer (some ⟨i,o+n.toN U*ie.size,none⟩),?_,VD.pptr' h h1 h2 (by grind)⟩;simp only[C4,he,f];rw[show(decide (0<=n.toI U)&&decide (n.toI U<(l:Int)))=true by
        simp only[QJ,Rg];have:(l:Int)=((L.toR U).length:Int):=by rw[g];rfl
        omega]
       rfl
    exact Tx
   exact Tx
  ·rename_i len e he;split
   ·rename_i ie f;split
    ·rename_i b z row fld;cases j with
     |ptr _ _ _ _ i o h h0=>
      split
      ·rename_i m;cases hb:decide (0<=m)&&decide (m<(len:Int))with
       |false=>exact Tx|true=>refine TC ⟨.pointer (some ⟨i,o+row.toN U*z+fld+m.toNat*ie.size,none⟩),?_,VD.ptr' h h0 (by omega)⟩;simp only[C4,he,f];rw[show(decide (0<=(E.int m).toI U)&&decide ((E.int m).toI U<(len:Int)))=true from hb];rfl
      ·split
       ·rename_i r;cases hr:decide (0<=r)with
        |false=>exact Tx|true=>refine OKp.need.bind fun _ s1 _ _ h1=>OKp.need.bind fun _ s2 _ _ h2=>TC ?_;have h1:=Y5 h1;have h2:=C7 h2;simp only[B5]at h2;refine⟨.pointer (some ⟨i,o+r.toNat*z+fld+n.toN U*ie.size,none⟩),?_,VD.ptr' h h1 (by omega)⟩;simp only[C4,he,f];rw[show(decide (0<=n.toI U)&&decide (n.toI U<(len:Int)))=true by simp only[QJ,Rg];omega];rfl
       exact Tx
    ·rename_i e' L row fld;cases j with
     |pptr _ _ _ _ i o l c h h0 h1=>
      split
      ·rename_i m;cases hb:decide (0<=m)&&decide (m<(len:Int))with
       |false=>exact Tx|true=>refine TC ⟨.pointer (some ⟨i,o+row.toN U*(kf P e').length+fld+m.toNat*ie.size,none⟩),?_,VD.pptr' h h0 h1 (by omega)⟩;simp only[C4,he,f];rw[show(decide (0<=(E.int m).toI U)&&decide ((E.int m).toI U<(len:Int)))=true from hb];rfl
      exact Tx
    exact Tx
   exact Tx
  exact Tx
 exact Tx
variable {ag:Bool}{k n:Nat}{y:Blk}{c:Ao}{vs:Af}
theorem KX {t:Ax}(h:ldk P t=some (ag,n)){z:Nat}(hg:hp.m.get i=some y)(hr:rdC y=some (c,k,z))(hk:o+n<=k)(hl:n9 c o n=some vs):∃v,D5 P hp t (.pointer (some ⟨i,o,none⟩))=some v/\((ag=true/\v= .agg vs.toArray)\/(ag=false/\vs=[v])):=by
 unfold ldk at h;split at h
 ·rename_i d j;cases f:dF d with
  |true=>simp only[f,Ra]at h;split at h;rename_i p g;obtain⟨rfl,rfl⟩:=h;refine⟨.agg vs.toArray,?_,.inl ⟨rfl,rfl⟩⟩;simp only[D5,hg,hr,j,f,Ra,g,QQ hk,hl];cases h
  |false=>
   simp only[f,Rb,QI,QK]at h;obtain⟨rfl,rfl⟩:=h;simp only[n9]at hl;cases hv:c.get o with
   |none=>grind|some v=>simp only[hv,QI]at hl;refine⟨v,?_,.inr ⟨rfl,hl.symm⟩⟩;simp only[D5,hg,hr,j,f,Rb,QQ hk,Ra,hv]
 cases h
theorem C0 {c:Ao}{R:Nat->Av->Prop}:∀(n o j:Nat),(∀k,k<n-> ∃x,c.get (o+k)=some x/\R (j+k) x)-> ∃vs,n9 c o n=some vs/\vs.length=n/\ ∀k x,vs[k]? =some x->R (j+k) x
 |0,o,j,_=>⟨[],rfl,rfl,fun k x h=>by grind⟩
 |n+1,o,j,h=>by
  obtain⟨x,h1,h2⟩:=h 0 (by omega);obtain⟨vs,h3,h4,f⟩:=C0 n (o+1) (j+1) fun k hk=>by
   obtain⟨x,k1,k2⟩:=h (k+1) (by omega)
   exact ⟨x, by rw [← k1]; congr 1; omega, by have : j + 1 + k = j + (k + 1) := by omega
                                              rw[this];exact k2⟩
  refine⟨x::vs,by simp only[n9];rw[show c.get o=some x from h1,h3],by grind,fun k y hy=>?_⟩;grind
theorem kI {t:Ax}(h:ldk P t=some (ag,n)){z:Nat}(hg:hp.m.get i=some y)(g:rdC y=some (c,k,z))(hk:o+n<=k){l:As}(hl:l.length=n)(hc:∀(j:Nat) a,l[j]? =some a-> ∃x,c.get (o+j)=some x/\VD P U τ F a x)(f:Fh ag l=some a):∃v,D5 P hp t (.pointer (some ⟨i,o,none⟩))=some v/\VD P U τ F a v:=by
 obtain⟨vs,h1,h2,h3⟩:=C0 (R:=fun j x=>∀a,l[j]? =some a->VD P U τ F a x) n o 0 fun j hj=>by
  have:l[j]? =some l[j]:=by grind
  obtain⟨x,k1,k2⟩:=hc j _ this;exact⟨x,k1,fun a f=>by grind⟩
 obtain⟨v,h4,p⟩:=KX h hg g hk h1;refine⟨v,h4,?_⟩;have hv:VDL P U τ F l vs:=⟨by omega,fun j a x hj hx=>h3 j x hx a (by grind)⟩
 rcases p with⟨rfl,rfl⟩| ⟨rfl,rfl⟩;simp only[Fh,Ra,QI]at f;subst f;exact hv.agg
 ·simp only[Fh,Rb]at f;cases l with
  |nil=>grind|cons b l=>simp at f;subst f;exact hv.2 0 _ _ rfl rfl
def CD {k:Kd}{e:E}{x:Av}(hp:PV P F k x (e.den U))(h:Hc k e=some a):VD P U τ F a x:=by
 unfold Hc at h;generalize f:e.den U=d at hp;cases hp<;>simp only[QI]at h<;>subst h;exact TV (by show(e.den U).toInt=_;rw[f];rfl);exact TU (by rw[f];rfl);exact VD.str' (by rw[f];rfl)
 ·exact .lst _ e false _ (by have : e.toR U = [] := by { show (e.den U).rows = _; rw [ f]; rfl }
                             rw[this];exact .nils _) (fun h=>by cases h)
 exact .rpq e _ (by show PV P F .rp _ (.int (e.den U).toInt);rw[f];exact .rp _);exact .rpq e _ (by show PV P F .rp _ (.int (e.den U).toInt);rw[f];exact .rpn)
 ·exact .lst _ e false _ (by have : e.toR U = [] := by { show (e.den U).rows = _; rw [ f]; rfl }
                             rw[this];exact .vague _) (fun h=>by cases h)
 ·rename_i i o c b cs n z zb rows x hF hb hc hn hz hr hx g
  exact .lst _ e false _ (by have : e.toR U = rows := by { show (e.den U).rows = _; rw [ f]; rfl }
                             rw[this];exact .sl _ i o c b cs n z rows x hF hb hc hn hz hr hx g) (fun h=>by cases h)
theorem dK {ks:List Kd}{L row:E}:∀ {n j:Nat} {l:As},gA ks L row j n=some l->l.length=n/\ ∀(q:Nat) a,l[q]? =some a-> ∃k,ks[j+q]? =some k/\Hc k (EQ (j+q) L row)=some a
 |0,j,l,h=>by simp only[gA,QI]at h;subst h;exact⟨rfl,fun q a h=>by grind⟩|n+1,j,l,h=>by simp only[gA]at h;split at h;rename_i k hk;split at h;rename_i a g;split at h;rename_i l' f;obtain⟨h1,h2⟩:=dK f;grind;cases h;cases h;cases h
theorem sB {rows:Rows}{r:Int}{row:Ar}{d:Dat}(h1:rows[r.toNat]? =some row)(h2:row[k]? =some d):D1 rows r k=d:=by unfold D1;grind
variable {e:Nat}{cs:Ao}
theorem dO {t:Ax}(h:ldk P t=some (ag,n)){z D:Nat}(hg:hp.m.get i=some y)(w:rdC y=some (cs,k,D)){L row:E}(hr:A7 P F e z o k cs (L.toR U))(h0:0<=row.toI U)(h1:row.toI U<(L.toR U).length)(hf:fld+n<=z)(p:L8 P ag n e L row fld=some a):∃v,D5 P hp t (.pointer (some ⟨i,o+row.toN U*z+fld,none⟩))=some v/\VD P U τ F a v:=by
 unfold L8 at p;split at p
 ·rename_i l hl;obtain⟨q,r⟩:=dK hl;obtain⟨G,H,B,C⟩:=hr;have g:row.toN U<(L.toR U).length:=by grind
  have f:(L.toR U)[row.toN U]? =some (L.toR U)[row.toN U]:=by grind
  have A:=B _ (Ta g);refine kI h hg w ?_ q (fun j b hb=>?_) p
  ·have:row.toN U*z+z<=(L.toR U).length*z:=by rw[<-Sh];exact QW z g
   omega
  ·obtain⟨kd,h3,h4⟩:=r j b hb;have hj:j<n:=by grind
   have hk:(L.toR U)[row.toN U][fld+j]? =some ((L.toR U)[row.toN U][fld+j]'(by omega)):=by grind
   obtain⟨x,k1,k2⟩:=C _ _ _ _ f hk;refine⟨x,by rw[<-k1];congr 1;omega,CD ?_ h4⟩;rw[sO,sB f hk];simp_all
 cases p
theorem Bz {k:Kd}(f:VD P U τ F a v){e:E}(h:MB k a=some e):PV P F k v (e.den U):=by
 unfold MB at h;split at h;rename_i k k' x;by_cases hk:k=k';subst hk;simp only[RT,Ra,QI]at h;subst h;cases f;rw[tL];exact .int k _;grind;simp only[QI]at h;subst h;cases f;rw[La];exact .bool _;simp only[QI]at h;subst h;cases f;rw[Lc];exact .str _;simp only[QI]at h;subst h;cases f;exact .nils _
 ·rename_i e' g L c;cases hb:Nat.beq e' g with
  |false=>grind|true=>
   simp only[hb,Ra,QI]at h;subst h;have:=QN hb;subst this;cases f with
   |lst _ _ _ _ h hc=>rw[mN];exact h
 simp only[QI]at h;subst h;cases f;rename_i h;rw[tL];exact h
 ·rename_i x;simp only[QI]at h;subst h;cases f with
  |rp _ _ h0=>rw[tL,show x.toI U=((x.toN U:Nat):Int) by show x.toI U=((x.toI U).toNat:Int);omega];exact .rp _
 simp only[QI]at h;subst h;cases f;exact .rpn;cases h
theorem oE {z:Nat}:∀ {n:Nat} {l:Ar} {r:Nat} {row:Ar},(d8 z n l)[r]? =some row->row=(l.drop (r*z)).take z
 |0,l,r,row,h=>by simp[d8]at h|n+1,l,0,row,h=>by simp[d8]at h;simp[h]|n+1,l,r+1,row,h=>by simp only[d8,QU]at h;rw[oE h,List.drop_drop];grind
theorem bP {z:Nat}{es:Au}{N:Nat}(hz:z=(kf P e).length)(q:es.length=N*z)(hn:o+es.length<=n)(hc:∀(j:Nat) d,es[j]? =some d-> ∃x,cs.get (o+j)=some x/\ ∀kd,(kf P e)[j % z]? =some kd->PV P F kd x (d.den U)):A7 P F e z o n cs ((E.op (.rows N z) es).toR U):=by
 have hL:(E.op (.rows N z) es).toR U=d8 z N (es.map (E.den U)):=by show(Dat.lst (d8 z N (E.dens U es))).rows=_;rw[E.dens_eq];rfl
 rw[hL];have g:∀r row,(d8 z N (es.map (E.den U)))[r]? =some row->r<N/\row.length=z:=by
  intro r row h;have h1:=(QL.1 h).1;rw[L3]at h1;refine⟨h1,?_⟩;rw[oE h];simp;have:r*z+z<=N*z:=by rw[<-Sh];exact QW z h1
  omega
 refine⟨by rw[L3];omega,hz,fun row m=>?_,fun r k row d hr hk=>?_⟩;obtain⟨r,hr⟩:=Tf m;grind
 ·obtain⟨h1,h2⟩:=g r row hr;have f:k<z:=by grind
  rw[oE hr,Rs,Rh f,Ry,RL]at hk;cases he:es[r*z+k]? with
  |none=>grind|some x=>simp only[he,RE,QI]at hk;obtain⟨y,k1,k2⟩:=hc _ _ he;refine⟨y,by grind,fun kd p=>?_⟩;rw[<-hk];exact k2 kd (by rw[show(r*z+k) % z=k by rw[Nat.mul_comm,Nat.mul_add_mod];exact SZ f];exact p)
theorem vF {ks:List Kd}:∀ {l:As} {j:Nat} {es:Au},Jp ks j l=some es->es.length=l.length/\ ∀(q:Nat) a e,l[q]? =some a->es[q]? =some e-> ∃k,ks[(j+q) % ks.length]? =some k/\MB k a=some e
 | [],j,es,h=>by simp only[Jp,QI]at h;subst h;exact(by grind)|a::l,j,es,h=>by simp only[Jp]at h;split at h;rename_i k hk;split at h;rename_i e he;split at h;rename_i g f;obtain⟨h1,h2⟩:=vF f;grind;cases h;cases h;cases h
theorem oW {z:Nat}{l:As}{L:E}(h:uK P e z l=some L)(hn:o+l.length<=n)(hc:∀(j:Nat) a,l[j]? =some a-> ∃x,cs.get (o+j)=some x/\VD P U τ F a x):A7 P F e z o n cs (L.toR U):=by
 unfold uK at h;cases hb:Nat.ble 1 z&&Nat.beq z (kf P e).length&&Nat.beq (l.length/z*z) l.length with
 |false=>grind|true=>
  rw[hb,Ra]at h;simp at hb;obtain⟨⟨h1,h2⟩,h3⟩:=hb;split at h
  ·rename_i es f;simp at h;subst h;obtain⟨h4,p⟩:=vF f;refine bP h2 (by omega) (by omega) fun j d q=>?_;have hj:j<l.length:=by grind
   have m:l[j]? =some l[j]:=by grind
   obtain⟨x,k1,k2⟩:=hc j _ m;obtain⟨k,k3,r⟩:=p j _ d m q;refine⟨x,k1,fun kd g=>?_⟩;rw[Rr,<-h2,g,QI]at k3;subst k3;exact Bz k2 r
  cases h
theorem xG {k:IntKind}:∀ {l:As} {es:Au},CG k l=some es->es.length=l.length/\ ∀(j:Nat) e,es[j]? =some e->l[j]? =some (.int k e)
 | [],es,h=>by simp only[CG,QI]at h;subst h;exact(by grind)|a::l,es,h=>by
  unfold CG at h;split at h;grind
  ·rename_i k' e l' f;cases f;cases hk:decide (k=k')with
   |false=>grind|true=>rw[hk,Ra]at h;rw[Rg]at hk;split at h;rename_i m g;obtain⟨h1,h2⟩:=xG g;grind;cases h
  cases h
def jK :∀(ds:Ar) (n:Nat),(d8 1 ds.length ds)[n]? =(ds[n]?).map fun d=>[d]
 | [],n=>rfl|d::ds,0=>rfl|d::ds,n+1=>by simp[d8,jK ds n]
theorem iH (hs:SD P U τ F s hp){b:Nat}{L:E}{z:Nat}(h:wG s=some (b,L,z)):s.get b=some (.reg b L z)/\τ b=some (some (0,0))/\F 0=none/\ ∃cs,hp.m.get 0=some (.reg cs (L.toR U).length rgT z)/\A7 P F rgT z 0 ((L.toR U).length*z) cs (L.toR U):=by
 unfold wG at h;split at h
 ·rename_i b' _;split at h
  ·rename_i r f q hg;cases hb:Nat.beq r b' with
   |false=>grind|true=>rw[hb,Ra]at h;cases h;have:=QN hb;subst this;rcases hs.live _ _ hg with⟨i,o,y,h1,h2,h3,h4,g,cs,j,p⟩| ⟨_,_,_,_,_,h,_⟩;grind;cases h
  cases h
 cases h
theorem Ip {t:Ax}(h:ldk P t=some (ag,n)){N z:Nat}(hg:hp.m.get 0=some (.reg c N e z))(hk:k<N)(q:o+n<=z)(hl:n9 c (k*z+o) n=some vs):∃v,D5 P hp t (.pointer (some ⟨k,o,some 1⟩))=some v/\((ag=true/\v= .agg vs.toArray)\/(ag=false/\vs=[v])):=by
 have f:Nat.ble (k+1) N=true:=QQ hk;unfold ldk at h;split at h
 ·rename_i d p;cases g:dF d with
  |true=>simp only[g,Ra]at h;split at h;rename_i r j;cases h;refine⟨.agg vs.toArray,?_,.inl ⟨rfl,rfl⟩⟩;simp only[D5,pJ,hg,p,g,Ra,j,f,QQ q,hl,SJ];cases h
  |false=>
   simp only[g,Rb,QI,QK]at h;obtain⟨rfl,rfl⟩:=h;simp only[n9]at hl;cases hv:c.get (k*z+o)with
   |none=>grind|some v=>simp only[hv,QI]at hl;refine⟨v,?_,.inr ⟨rfl,hl.symm⟩⟩;simp only[D5,pJ,hg,p,g,Rb,f,QQ q,Ra,hv,SJ]
 cases h
theorem Fe {t:Ax}(h:ldk P t=some (ag,n)){z:Nat}{L row:E}(hg:hp.m.get 0=some (.reg cs (L.toR U).length rgT z))(hr:A7 P F rgT z 0 ((L.toR U).length*z) cs (L.toR U))(h0:0<=row.toI U)(h1:row.toI U<(L.toR U).length)(hf:fld+n<=z)(f:L8 P ag n rgT L row fld=some a):∃v,D5 P hp t (.pointer (some ⟨row.toN U,fld,some 1⟩))=some v/\VD P U τ F a v:=by
 unfold L8 at f;split at f
 ·rename_i l hl;obtain⟨q,r⟩:=dK hl;obtain⟨I,J,A,B⟩:=hr;have p:row.toN U<(L.toR U).length:=by grind
  have g:(L.toR U)[row.toN U]? =some (L.toR U)[row.toN U]:=by simp[p]
  have w:(L.toR U)[row.toN U].length=z:=A _ (Ta p);have hc:∀(j:Nat) b,l[j]? =some b-> ∃x,cs.get (row.toN U*z+fld+j)=some x/\VD P U τ F b x:=fun j b hb=>by
   obtain⟨kd,h3,h4⟩:=r j b hb;have hj:j<n:=by grind
   have hk:(L.toR U)[row.toN U][fld+j]? =some ((L.toR U)[row.toN U][fld+j]'(by omega)):=by grind
   obtain⟨x,k1,k2⟩:=B _ _ _ _ g hk;refine⟨x,by rw[<-k1];congr 1;omega,CD ?_ h4⟩;rw[sO,sB g hk];grind
  obtain⟨vs,D,G,H⟩:=C0 (c:=cs) (R:=fun j x=>∀a,l[j]? =some a->VD P U τ F a x) n (row.toN U*z+fld) 0 fun j hj=>by simp_all
  obtain⟨v,h4,C⟩:=Ip h hg p hf D;refine⟨v,h4,?_⟩;have hv:VDL P U τ F l vs:=⟨by rw[q,G],fun j a x hj hx=>H j x hx a (by rw[Rr];exact hj)⟩
  rcases C with⟨rfl,rfl⟩| ⟨rfl,rfl⟩;simp only[Fh,Ra,QI]at f;subst f;exact hv.agg
  ·simp only[Fh,Rb]at f;cases l with
   |nil=>simp at f|cons b l=>simp at f;subst f;exact hv.2 0 _ _ rfl rfl
 cases f
theorem DG {t:Ax}(g:VD P U τ F a v)(hs:SD P U τ F s hp):OKp U (HK P U t a) s fun b=>∃u,D5 P hp t v=some u/\VD P U τ F b u:=by
 unfold HK;split;exact Tx
 ·rename_i ag n f;split
  ·rename_i b z row fld;refine TB ?_;split
   ·rename_i l e D hb;rcases hs.live b _ hb with⟨i,o,y,h1,h2,_,cs,k,rfl,h4,B⟩| ⟨h1,O,e',N,ph,h2,_⟩
    ·cases g with
     |ptr _ _ _ _ C o' h h0=>
      rw[h1]at h;simp only[QI,QK]at h;obtain⟨rfl,rfl⟩:=h;split
      ·rename_i r;cases hq:decide (0<=r)&&Nat.ble (r.toNat*z+fld+n) l.length with
       |false=>exact Tx|true=>simp only[Ra];simp only[QJ,Rg,RQ]at hq;refine TA fun c hc=>?_;refine kI f h2 rfl (o:=o+(E.int r).toN U*z+fld) ?_ (l:=(l.drop (r.toNat*z+fld)).take n) ?_ (fun j b hb=>?_) hc;show o+r.toNat*z+fld+n<=k;omega;grind;rw[Rs]at hb;split at hb;rw[Ry]at hb;obtain⟨x,k1,k2⟩:=B _ _ hb;exact⟨x,by rw[<-k1];congr 1;show o+r.toNat*z+fld+j=_;omega,k2⟩;cases hb
      ·split
       ·rename_i L hL;cases hq:Nat.ble (fld+n) z with
        |false=>exact Tx|true=>simp only[Ra];refine OKp.need.bind fun _ s1 _ _ hlt=>TA fun c hc=>?_;have hlt:=C7 hlt;rw[j8]at hlt;exact dO f h2 rfl (oW hL h4 B) h0 hlt (QM hq) hc
       ·cases hq: !ag&&Nat.beq z 1&&Nat.beq n 1 with
        |false=>exact Tx|true=>
         rw[Ra];simp only[QJ,Rz,RG]at hq;obtain⟨⟨rfl,rfl⟩,rfl⟩:=hq;unfold Me;split
         ·rename_i k0 e0 l' I;split
          ·rename_i es G;obtain⟨T,S⟩:=xG G;refine OKp.need.bind fun _ s1 _ _ hlt=>TC ?_;have hlt:=C7 hlt;simp only[B5]at hlt;have hr:row.toN U<es.length:=by grind
           have q:=S (row.toN U) _ (QV hr);rw[<-I,Ry]at q;obtain⟨x,k1,k2⟩:=B _ _ q;refine kI (l:=[.int k0 (EQ 0 (.op (.rows es.length 1) es) row)]) f h2 rfl (o:=o+row.toN U*1+fld) ?_ rfl (fun j a g=>?_) rfl;grind
           ·cases j with
            |succ j=>simp at g|zero=>
             simp only[QZ,QI]at g;subst g;refine⟨x,by rw[<-k1];congr 1;omega,?_⟩;cases k2;refine TV ?_;show((EQ 0 (.op (.rows es.length 1) es) row).den U).toInt=_;rw[sO];show(D1 (d8 1 es.length (E.dens U es)) (row.toI U) 0).toInt=_;unfold D1;have J:es.length=(E.dens U es).length:=by rw[E.dens_eq,Rc]
             rw[J,List.getD_eq_getElem?_getD (l:=d8 _ _ _),jK,E.dens_eq,RL,QV hr];rfl
          exact Tx
         exact Tx
    cases h2
   ·rename_i L e D ph hb;cases hq:Nat.beq z D&&Nat.ble (fld+n) z with
    |false=>exact Tx|true=>
     simp only[Ra];simp only[QJ,Rz,RQ]at hq;obtain⟨rfl,hq⟩:=hq;refine OKp.need.bind fun _ s1 _ _ hlt=>TA fun c hc=>?_;have hlt:=C7 hlt;rw[j8]at hlt;rcases hs.live b _ hb with⟨i,o,y,h1,h2,_,cs,k,rfl,h4,B⟩| ⟨h1,O,e',N,R,h2,h3,_⟩
     ·cases g with
      |ptr _ _ _ _ C o' h h0=>rw[h1]at h;simp only[QI,QK]at h;obtain⟨rfl,rfl⟩:=h;exact dO f h2 rfl h4 h0 hlt hq hc
     ·cases g with
      |ptr _ _ _ _ C o' h h0=>grind
   exact Tx;exact Tx;exact Tx
   ·split
    ·rename_i L e D hb;cases hq:Nat.beq z D&&Nat.ble (fld+n) z with
     |false=>exact Tx|true=>
      simp only[Ra];simp only[QJ,Rz,RQ]at hq;obtain⟨rfl,hq⟩:=hq;refine OKp.need.bind fun _ s1 _ _ hlt=>TA fun c hc=>?_;have hlt:=C7 hlt;rw[j8]at hlt;rcases hs.fz _ (Z8 hb)with⟨i,o,cs,k,h1,h2,h4⟩| ⟨h1,h2⟩
      ·cases g with
       |ptr _ _ _ _ C o' h h0=>rw[h1]at h;simp only[QI,QK]at h;obtain⟨rfl,rfl⟩:=h;exact dO f (hs.frz _ _ h2) rfl h4 h0 hlt hq hc
      ·cases g with
       |ptr _ _ _ _ C o' h h0=>grind
    exact Tx
  ·rename_i row fld;refine TB ?_;split
   ·rename_i b L z hr;cases hq:Nat.ble (fld+n) z with
    |false=>exact Tx|true=>
     rw[Ra];refine OKp.need.bind fun _ s1 _ _ hlt=>TA fun c hc=>?_;have hlt:=C7 hlt;rw[j8]at hlt;obtain⟨_,_,_,cs,h2,h3⟩:=iH hs hr;cases g with
     |rp _ _ h0=>exact Fe f h2 h3 h0 hlt (QM hq) hc
   exact Tx
  ·rename_i e L row fld;cases hq:Nat.ble (fld+n) (kf P e).length with
   |false=>exact Tx|true=>
    simp only[Ra];refine TA fun c hc=>?_;cases g with
    |pptr _ _ _ _ i o l c' h h0 h1=>
     generalize p:L.toR U=rows at h h1;cases h with
     |sl _ _ _ _ y cs k z rows x hF hb Q hn hz hr hx K=>
      have hg:hp.m.get i=some y:=hs.frz _ _ hF;have M:A7 P F e z o k cs (L.toR U):=by rw[p];exact⟨hn,hz,hr,fun r k row d A w=>⟨x r k,hx r k row d A w,fun kd H=>K r k row kd d A w H⟩⟩
      rw[<-hz]at hq⊢;exact dO f hg hb M h0 (by rw[p];exact h1) (QM hq) hc
  exact Tx
end
def mfz (b:Nat)(L:E)(e z:Nat):M Unit:=fun s=>.ret ((),{s with fz:=(b,L,e,z)::s.fz})
def jA (b:Nat)(x:Bb B6):M Unit:=fun s=>.ret ((),s.set b x)
def Mp :Nat->As->As
 |0,_=>[]
 |n+1,zs=>zs++Mp n zs
def wF :SV->Bool
 | .agg _| .tup _| .any=>false
 |_=>true
section
variable (P :Aw)(U:Ab)
def sbox (e:Ax)(l:As):M SV:=b9 (bQ (.cells l e l.length)) fun b=>i4 (.ptr b l.length (.int 0) 0)
def gO (t:Ax)(len:Nat)(parts:List (Nat×SV)):M SV:=
 match P.underlying t with
 |some (.slice e)=>match P.info? e with
  |some ie=>match qM P e with
   | some z => bif Nat.beq z.length ie.size && Nat.ble (len * ie.size) 16777216 && Nat.ble len 16777216 then
     match qJ (fun i=>some (i*ie.size,ie.size)) (Mp len z) parts with
     |some cs=>b9 (bQ (.cells cs e ie.size)) fun b=>i4 (.sl b ie.size (.int 0) (.int len) (.ex (.int len)))
     |none=>a8 "buildSlice"
    else a8 "buildSlice"
   |none=>a8 "buildSlice: zero"
  |none=>a8 "buildSlice: type"
 |_=>a8 "buildSlice: type"
def Gb :E->Ai
 | .int k=>bif decide (0<=k)&&decide (k<=64)then some k.toNat else none|_=>none
theorem yQ {U:Ab}{c:E}{n:Nat}(h:Gb c=some n):n=c.toN U:=by
 unfold Gb at h;split at h
 ·rename_i k;cases hk:decide (0<=k)&&decide (k<=64)with
  |false=>grind|true=>rw[hk,Ra,QI]at h;rw[<-h];rfl
 cases h
def kU (t:Ax)(l c:SV):M SV:=
 match l,c with
 | .int _ ln,.int _ cn=>match P.underlying t with
  |some (.slice e)=>match P.info? e with
   |some ie=>match qM P e with
    | some z => bif Nat.ble ie.bytes 1048576 && Nat.beq z.length ie.size then
      b9 (p8 U (y8 (z4 ln (.int 0)))) fun _=>b9 (p8 U (y8 (z4 cn ln))) fun _=>b9 (p8 U (z4 cn (.int 1048577))) fun _=>
      match Gb cn with
      |some k=>b9 (bQ (.cells (Mp k z) e ie.size)) fun b=>i4 (.sl b ie.size (.int 0) ln (.ex cn))
      | none => bif Nat.beq (kf P e).length ie.size && Nat.ble 1 ie.size then
        match Jp (kf P e) 0 z with
        |some es=>b9 (bQ (.rows (.op .rep (cn::es)) e ie.size cn)) fun b=>i4 (.sl b ie.size (.int 0) ln (.ex cn))
        |none=>a8 "makeSlice: zero"
       else a8 "makeSlice: kinds"
     else a8 "makeSlice: size"
    |none=>a8 "makeSlice: zero"
   |none=>a8 "makeSlice: type"
  |_=>a8 "makeSlice: type"
 |_,_=>a8 "makeSlice: no ints"
def W5 (L off len:E):M E:=
 match off with
 | .int m=>bif decide (m=0)&&E.like len (A6 L)then b9 (p8 U (E4 len (A6 L))) fun _=>i4 (iZ L)else i4 (.op .part [L,off,len])
 |_=>i4 (.op .part [L,off,len])
def pZ (f:Kd->SV->M E)(ks:List Kd):Nat->As->M (Au)
 |_,[]=>i4 []|j,a::l=>match ks[j % ks.length]? with
  |some k=>b9 (f k a) fun e=>b9 (pZ f ks (j+1) l) fun es=>i4 (e::es)
  |none=>a8 "data: kind"
def wH :Nat->Kd->SV->M E
 |0,_,_=>a8 "data: depth"|d+1,k,a=>match MB k a with
  |some e=>i4 e|none=>match k,a with
   | .sl e,.sl b z off len _=>t9 fun s=>match s.get b with
    | some (.rows L e' z' _) => bif Nat.beq e e' && Nat.beq z z' then
      b9 (p8 U (y8 (z4 (A6 L) (y7 off len)))) fun _=>b9 (jA b none) fun _=>b9 (mfz b L e z) fun _=>W5 U L off len
     else a8 "data: type"
    | some (.cells l e' z') => bif Nat.beq e e' && Nat.beq z z' && Nat.beq z (kf P e).length && Nat.beq (l.length / z * z) l.length then
      b9 (p8 U (y8 (z4 (.int (l.length/z:Nat)) (y7 off len)))) fun _=>b9 (jA b none) fun _=>
      b9 (pZ (wH d) (kf P e) 0 l) fun es=>b9 (mfz b (.op (.rows (l.length/z) z) es) e z) fun _=>W5 U (.op (.rows (l.length/z) z) es) off len
     else a8 "data: type"
    |some (.map _ _ _)=>a8 "data: no block"|some (.iter _ _)=>a8 "data: no block"|some (.reg _ _ _)=>a8 "data: no block"|none=>match lk s.fz b with
     | some (L, e', z') => bif Nat.beq e e' && Nat.beq z z' then
       b9 (p8 U (y8 (z4 (A6 L) (y7 off len)))) fun _=>W5 U L off len
      else a8 "data: type"
     |none=>a8 "data: no block"
   |_,_=>a8 "data: value"
def DQ (L row:E):Nat->Au->E
 |_,[]=>L|j,e::es=>DQ (.op (.upd j) [L,row,e]) row (j+1) es
def yA (b:Nat):M Unit:=t9 fun s=>match s.get b with
 |some (.cells l e z)=>match uK P e z l with
  |some L=>jA b (some (.rows L e z (.int (l.length/z:Nat))))|none=>a8 "rows"
 |_=>i4 ()
def phT (ph L:E):Bool:=match ph with
 | .int _=>false|ph=> !(E.like ph (A6 L))
def kX (b z:Nat)(row:E)(fld:Nat)(vs:As):M SV:=t9 fun s=>match s.get b with
 | some (.rows _ e _ _) => bif Nat.ble (fld + vs.length) z && Nat.beq z (kf P e).length then
   b9 (pZ (wH P U 20) (kf P e) fld vs) fun es=>t9 fun s=>match s.get b with
   | some (.rows L e' z' ph) => bif Nat.beq e e' && Nat.beq z z' then
     bif phT ph L&&Nat.beq z 1&&Nat.beq fld 0&&Nat.beq es.length 1 then
      b9 (p8 U (y8 (z4 (A6 L) row))) fun _=>b9 (p8 U (z4 row ph)) fun _=>b9 (jA b (some (.rows (.op .over [L,row,.op (.rows 1 1) es]) e' z' ph))) fun _=>i4 (.tup [])
     else b9 (p8 U (z4 row (A6 L))) fun _=>b9 (jA b (some (.rows (DQ L row fld es) e' z' ph))) fun _=>i4 (.tup [])
    else a8 "store: type"
   |_=>a8 "store: block"
  else a8 "store: beyond"
 |_=>a8 "store: no rows"
def Br (row:E)(fld:Nat)(vs:As):M SV:=t9 fun s=>match wG s with
 | some (_, _, z) => bif Nat.ble (fld + vs.length) z then
   b9 (pZ (wH P U 20) (kf P rgT) fld vs) fun es=>t9 fun s=>match wG s with
   | some (b, L, z') => bif Nat.beq z z' then
     b9 (p8 U (z4 row (A6 L))) fun _=>b9 (jA b (some (.reg b (DQ L row fld es) z'))) fun _=>i4 (.tup [])
    else a8 "store: type"
   |none=>a8 "store: region"
  else a8 "store: beyond"
 |none=>a8 "store: region"
def HL (l:As):M SV:=t9 fun s=>match wG s with
 | some (_, _, z) => bif Nat.beq l.length z && Nat.ble 1 z && l.all wF then
   b9 (pZ (wH P U 20) (kf P rgT) 0 l) fun es=>t9 fun s=>match wG s with
   |some (b,L,z')=>bif Nat.beq z z' then b9 (jA b (some (.reg b (E9 L (.op (.rows 1 z) es)) z))) fun _=>i4 (.rp (A6 L) 0)else a8 "new: region"
   |none=>a8 "new: region"
  else a8 "new: size"
 |none=>a8 "new: region"
def hset (k:IntKind)(es:Au)(row w:E):As:=(List.range es.length).map fun j:Nat=>.int k (EQ 0 (.op .over [.op (.rows es.length 1) es,row,.op (.rows 1 1) [w]]) (.int (j:Int)))
def Bs (b:Nat)(l:As)(e z:Nat)(row:E)(fld:Nat):As->M SV:=
 have _:=U
 fun _=>a8 "store"
def Gi (t:Ax)(a x:SV):M SV:=
 match P.info? t with
 |none=>a8 "store: type"|some ti=>match C6 x with
  |none=>a8 "store: value"|some vs=>bif Nat.beq vs.length ti.size&&vs.all wF then
   match a with
   | .ptr b z row fld=>t9 fun s=>match s.get b with
    |some (.cells l e z')=>match row with
     | .int r => bif decide (0 ≤ r) && Nat.ble (r.toNat * z + fld + vs.length) l.length then
       b9 (jA b (some (.cells (Q8 l (r.toNat*z+fld) vs) e z'))) fun _=>i4 (.tup [])else a8 "store: beyond"
     |row=>bif Nat.beq z 1&& !Nat.beq z' 1&&Nat.ble fld l.length then Bs U b l e z' row fld vs else b9 (yA P b) fun _=>kX P U b z row fld vs
    |some (.rows _ _ _ _)=>kX P U b z row fld vs|_=>a8 "store: no block"
   | .rp row fld=>Br P U row fld vs|_=>a8 "store: no address"
   else a8 "store: size"
end
section
variable {P :Aw}{U:Ab}{τ:Tau}{F:Ac}{s:SS}{hp:Hp}
def OKh.alloc {x:B6}{y:Blk}(hs:SD P U τ F s hp)(hy:∀τ',Tle τ τ'->BD P U τ' F 0 x y):OKh P U (bQ x) τ F s hp fun b τ' F' hp'=>F'=F/\τ' b=some (some (hp.nx,0))/\hp'=⟨hp.m.set hp.nx (some y),hp.nx+1⟩:=by
 intro Q hq _;have h0:=hs.new _ (Ri _);obtain⟨h1,h2⟩:=hs.alloc (hp':=⟨hp.m.set hp.nx (some y),hp.nx+1⟩) (Ss _) (fun i hi=>MV hp y i hi)
  (.inl ⟨hp.nx,0,y,rfl,Ri _,RY _,by simp[TQ],hy _ (bO _ h0)⟩)
 exact⟨s.nx,_,hq,_,F,_,h1,h2,rfl,u5 _ _ _,rfl⟩
def Tq:type_of% @OKh.alloc:=@OKh.alloc
theorem K2 (vs:Af)(j:Nat)(x:Av)(h:vs[j]? =some x):(fill .e 0 vs).get j=some x:=by rw[l8,Rh (by grind)];grind
variable {l:As}{vs:Af}
def bW (h:VDL P U τ F l vs)(e z:Nat):BD P U τ F 0 (.cells l e z) (I4 vs e z):=by refine⟨fill .e 0 vs,vs.length,rfl,by rw[h.1];omega,fun j a f=>?_⟩;obtain⟨x,h1,h2⟩:=h.get f;exact⟨x,by rw[Rr];exact K2 vs j x h1,h2⟩
def HB {e:Ax}(h:VDL P U τ F l vs)(hs:SD P U τ F s hp):OKh P U (sbox e l) τ F s hp fun a τ' F' hp'=>(a,hp')=(a,(hp.add ⟨I4 vs e vs.length,.ptr,rfl⟩).2)/\VD P U τ' F' a (hp.add ⟨I4 vs e vs.length,.ptr,rfl⟩).1:=by refine(Tq (y:=I4 vs e vs.length) hs fun τ' ht=>?_).bind fun b τ' F' s' hp' _ f ⟨h1,h2,h3⟩=>?_;rw[h.1];exact bW (h.mono ht (Tn F)) e vs.length;subst h3;exact Tw ⟨rfl,VD.ptr' h2 (by show(0:Int)<=0;omega) (by show 0=0+(0:Int).toNat*_+0;simp)⟩
def rM {l:As}{vs:Af}(h:VDL P U τ F l vs):∀n,VDL P U τ F (Mp n l) (xrep n vs)
 |0=>TY|n+1=>h.append (rM h n)
def uO {t:Ax}{len:Nat}{ps:List (Nat×SV)}{j:List (Nat×Av)}(h:PVD P U τ F ps j)(hs:SD P U τ F s hp):OKh P U (gO P t len ps) τ F s hp fun a τ' F' hp'=>∃n,Jq P t len j=some n/\hp'=(hp.add n).2/\VD P U τ' F' a (hp.add n).1:=by
 unfold gO;split
 ·rename_i e he;split
  ·rename_i ie g;split
   ·rename_i z hz;obtain⟨zv,h1,h2⟩:=cW hz;rw[h2.1];cases hb:Nat.beq zv.cells.toList.length ie.size&&Nat.ble (len*ie.size) 16777216&&Nat.ble len 16777216 with
    |false=>exact Tu|true=>
     simp only[Ra];split
     ·rename_i cs f;obtain⟨ys,h3,h4⟩:=gR (rM h2 len) h f;refine(Tq hs fun τ' ht=>bW (h4.mono ht (Tn F)) e ie.size).bind fun b τ' F' s' hp' _ p ⟨k1,k2,k3⟩=>?_;subst k3;refine Tw ⟨⟨I4 ys e ie.size,.slice len len,rfl⟩,?_,rfl,?_⟩;simp only[Jq,he,g,h1,hb,Ra,h3]
      ·have q:len<unk:=by simp at hb;unfold unk;omega
       have:=VD.sl (P:=P) (U:=U) (F:=F') b ie.size (.int 0) (.int len) (.ex (.int len)) hp.nx 0 len k2 (Sd 0) (Int.natCast_nonneg len) ⟨Int.natCast_nonneg len,(RA len).symm,q,Sd _⟩;have r:=RA len;have m:(E.int 0).toN U*ie.size=0:=by show(0:Int).toNat*_=0;simp
       rwa[m]at this
     exact Tu
   exact Tu
  exact Tu
 exact Tu
def G0 (n:Nat)(vs:Af):(xrep n vs).length=n*vs.length:=by
 induction n with
 |zero=>simp[xrep]|succ n f=>simp[xrep,f,Sh];omega
theorem dD {z:Nat}{vs:Af}(hz:vs.length=z):∀ {n r k:Nat},r<n->k<z->(xrep n vs)[r*z+k]? =vs[k]?
 |0,r,k,h,_=>by omega|n+1,0,k,_,hk=>by simp only[xrep,SK,Rr];rw[QS (by omega)]|n+1,r+1,k,h,hk=>by simp only[xrep];rw[QR (by grind),hz,show(r+1)*z+k-z=r*z+k by rw[Sh];omega];exact dD hz (by omega) hk
theorem wK {t:Ax}{a b:SV}{v u:Av}(Q:VD P U τ F a v)(hb:VD P U τ F b u)(hs:SD P U τ F s hp):OKh P U (kU P U t a b) τ F s hp fun c τ' F' hp'=>∃n,Jz P t v u=some n/\hp'=(hp.add n).2/\VD P U τ' F' c (hp.add n).1:=by
 unfold kU;split
 ·rename_i k1 ln k2 f;cases Q;cases hb;split
  ·rename_i e he;split
   ·rename_i ie H;split
    ·rename_i z hz;obtain⟨zv,h1,h2⟩:=cW hz;rw[h2.1];cases hb:Nat.ble ie.bytes 1048576&&Nat.beq zv.cells.toList.length ie.size with
     |false=>exact Tu|true=>
      refine Ts Ty fun _ s1 _ hs1 p1=>Ts Ty fun _ s2 _ R p2=>Ts Ty fun _ s3 _ C Y=>?_;have V:=Y5 p1;have W:=A0 p2;have X:=C7 Y;simp only[B5]at X;simp only[QJ,RQ,Rz]at hb;have hx:Jz P t (.int k1 (ln.toI U)) (.int k2 (f.toI U))=some ⟨I4 (xrep (f.toN U) zv.cells.toList) e ie.size,.slice (ln.toN U) (f.toN U),rfl⟩:=by simp only[Jz,he,H,h1];rw[show(decide (0<=ln.toI U)&&decide (ln.toI U<=f.toI U)&&decide (f.toI U<=1048576)&&Nat.ble ie.bytes 1048576&&Nat.beq zv.cells.toList.length ie.size)=true by simp only[QJ,Rg,RQ,Rz];exact(by grind)];rfl
      have m:∀(τ':Tau) (g:Nat),τ' g=some (some (hp.nx,0))->VD P U τ' F (.sl g ie.size (.int 0) ln (.ex f)) (.slice (some ⟨hp.nx,0,none⟩) (ln.toN U) (f.toN U)):=by
       intro τ' g J;have S:f.toN U<unk:=by unfold unk;show(f.toI U).toNat<_;omega
       have:=VD.sl (P:=P) (F:=F) g ie.size (.int 0) ln (.ex f) hp.nx 0 (f.toN U) J (Sd 0) V ⟨by omega,rfl,S,W⟩;have e2:(E.int 0).toN U*ie.size=0:=by show(0:Int).toNat*_=0;simp
       grind
      split
      ·rename_i k hk;rw[<-yQ hk]at hx;have q:∀(τ':Tau) (g:Nat),τ' g=some (some (hp.nx,0))->VD P U τ' F (.sl g ie.size (.int 0) ln (.ex f)) (.slice (some ⟨hp.nx,0,none⟩) (ln.toN U) k):=by rw [yQ hk]; exact m
       refine(Tq C fun τ' ht=>bW (rM (h2.mono ht (Tn F)) _) e ie.size).bind fun g τ' F' s' hp' _ I ⟨K,L,M⟩=>?_;subst K;subst M;exact Tw ⟨_,hx,rfl,q τ' g L⟩
      ·cases hk:Nat.beq (kf P e).length ie.size&&Nat.ble 1 ie.size with
       |false=>exact Tu|true=>
        simp only[Ra];simp only[QJ,RQ,Rz]at hk;split
        ·rename_i es G;obtain⟨t1,t2⟩:=vF G;have j:=hb.2;have N:es.length=ie.size:=by rw[t1,h2.1,j]
         refine(Tq (y:=I4 (xrep (f.toN U) zv.cells.toList) e ie.size) C fun τ' ht=>?_).bind fun g τ' F' s' hp' _ I ⟨K,L,M⟩=>?_
         ·have hL:(E.op .rep (f::es)).toR U=List.replicate (f.toN U) (es.map (E.den U)):=by show(Dat.lst (List.replicate _ (E.dens U es))).rows=_;rw[E.dens_eq];rfl
          refine⟨_,_,rfl,?_,?_⟩
          ·rw[hL];refine⟨by rw[G0,j];simp,hk.1.symm,fun r hr=>?_,fun r k row d hr p=>?_⟩;grind
           ·rw[List.getElem?_replicate]at hr;split at hr
            ·rename_i hlt;simp only[QI]at hr;subst hr;have B:k<ie.size:=by grind
             rw[RL]at p;cases w:es[k]? with
             |none=>grind|some x=>
              simp only[w,RE,QI]at p;have D:z[k]? =some (z[k]'(by omega)):=by grind
              obtain⟨y,Z,w2⟩:=h2.get D;obtain⟨kd,O,w4⟩:=t2 k _ _ D w;refine⟨y,?_,fun T A=>?_⟩;rw[Rr];exact K2 _ _ _ (by rw[dD j hlt B];exact Z);rw[Rr,hk.1,SZ B,A,QI]at O;subst O;rw[<-p];exact Bz w2 w4
            cases hr
          rw[G0,j];omega
         subst K;subst M;exact Tw ⟨_,hx,rfl,m τ' g L⟩
        exact Tu
    exact Tu
   exact Tu
  exact Tu
 exact Tu
end
section
variable {P :Aw}{U:Ab}{τ:Tau}{F:Ac}{s:SS}{hp:Hp}
theorem rZ {len:E}{cap:Cp}{c:Nat}(h:lX U len cap c)(h0:0<=len.toI U):wW (len.toN U) c:=by
 cases cap with
 |ex e=>obtain⟨h1,h2,h3,h4⟩:=h;exact .inl (by grind)
 |ge=>obtain⟨lo,h1,h2,h3⟩:=h;exact .inr (by grind)
 |un=>rcases h with⟨h1,h2,h3⟩| ⟨lo,h1,h2,h3⟩;exact .inl (by grind);exact .inr (by grind)
variable {off:Int}
theorem U9 {rows:Rows}{len:Int}(h0:0<=off)(h1:0<=len)(h2:off+len<=rows.length):(pQ rows off len).length=len.toNat:=by unfold pQ;grind
theorem gL {rows:Rows}{len:Int}{r:Nat}{row:Ar}(h:(pQ rows off len)[r]? =some row):rows[off.toNat+r]? =some row:=by unfold pQ at h;grind
theorem PV.of_rows {F:Ac}{e e' z f o n i c:Nat}{cs:Ao}{rows:Rows}{len:Int}(hF:F i=some (.cells cs n e' f))(m:f=z)(hr:A7 P F e z o n cs rows)(h0:0<=off)(h1:0<=len)(h2:off+len<=rows.length)(hc:wW len.toNat c):PV P F (.sl e) (.slice (some ⟨i,o+off.toNat*z,none⟩) len.toNat c) (.lst (pQ rows off len)):=by
 subst m;obtain⟨C,p,q,w⟩:=hr;have hl:=U9 h0 h1 h2;have hx:∀(r k:Nat),∃x,∀row d,(pQ rows off len)[r]? =some row->row[k]? =some d->cs.get (o+off.toNat*f+r*f+k)=some x/\ ∀kd,(kf P e)[k]? =some kd->PV P F kd x d:=by
  intro r k;cases g:(pQ rows off len)[r]? with
  |none=>exact⟨undef,fun row d h=>by grind⟩|some row=>
   cases A:row[k]? with
   |none=>exact⟨undef,fun j d h h'=>by grind⟩|some d=>obtain⟨x,k1,k2⟩:=w _ k row d (gL g) A;refine⟨x,fun j B h h'=>?_⟩;grind
 have:=PV.sl e i (o+off.toNat*f) c _ cs n f (pQ rows off len) (fun r k=>(hx r k).choose) hF rfl ⟨by grind,.mk⟩
  (by
   rw[hl];have:off.toNat*f+len.toNat*f<=rows.length*f:=by rw[<-Rv];exact QW f (by omega)
   omega) p (fun r hr=>q r (SI (SH hr)))
 grind
def C2 {L off len:E}:OKp U (W5 U L off len) s fun e=>e.den U= .lst (pQ (L.toR U) (off.toI U) (len.toI U)):=by
 unfold W5;split
 ·rename_i m;cases hb:decide (m=0)&&E.like len (A6 L)with
  |false=>exact TC rfl|true=>
   simp at hb;refine OKp.need.bind fun _ s1 _ _ h=>TC ?_;have h:=aX h;rw[j8]at h;rw[mN];unfold pQ;have f:((E.int m).toI U).toNat=0:=by rw[hb.1];rfl
   rw[f,h,RA,SR,List.take_length]
 exact TC rfl
variable {b:Nat}
def OKh.drop :OKh P U (jA b none) τ F s hp fun _ τ' F' hp'=>τ'=τ/\F'=F/\hp'=hp:=by intro Q hq hs;obtain⟨h1,h2⟩:=hs.drop b;exact⟨(),_,hq,τ,F,hp,h1,h2,rfl,rfl,rfl⟩
def OKh.freeze {i o:Nat}{x:B6}(hb:s.get b=some x)(ht:τ b=some (some (i,o))){y:Blk}(hi:hp.m.get i=some y):OKh P U (jA b none) τ F s hp fun _ τ' F' hp'=>τ'=τ/\hp'=hp/\F' i=some y:=by intro Q hq hs;obtain⟨F',h1,h2,h3,h4⟩:=hs.freeze hb ht hi;exact⟨(),_,hq,τ,F',hp,h3,h4,rfl,rfl,h2⟩
def OKh.fz {L:E}{e z:Nat}(h:Ic P U τ F (b,L,e,z)):OKh P U (mfz b L e z) τ F s hp fun _ τ' F' hp'=>τ'=τ/\F'=F/\hp'=hp:=by intro Q hq hs;refine⟨(),_,hq,τ,F,hp,?_,⟨hs.live,hs.inj,hs.frz,hs.lt,hs.flt,hs.new,hs.fc,fun r hr=>?_⟩,rfl,rfl,rfl⟩;have h:=Ext.refl hs;exact⟨h.t,h.f,h.nx,h.snx,h.st,h.low,h.hh,h.hf,h.win⟩;rcases Rx.1 hr with rfl|hr;exact h;exact hs.fz r hr
theorem cO {f:Kd->SV->M E}{ks:List Kd}(hf:∀k a v τ F s hp,VD P U τ F a v->SD P U τ F s hp->OKh P U (f k a) τ F s hp fun e τ' F' hp'=>τ'=τ/\hp'=hp/\PV P F' k v (e.den U)):∀ {l:As} {vs:Af} {j:Nat} {τ:Tau} {F:Ac} {s:SS} {hp:Hp},VDL P U τ F l vs->SD P U τ F s hp->OKh P U (pZ f ks j l) τ F s hp fun es τ' F' hp'=>τ'=τ/\hp'=hp/\es.length=l.length/\ ∀(q:Nat) x e,vs[q]? =some x->es[q]? =some e-> ∃kd,ks[(j+q) % ks.length]? =some kd/\PV P F' kd x (e.den U)
 | [],vs,j,τ,F,s,hp,h,hs=>Tw (by grind)|a::l,vs,j,τ,F,s,hp,h,hs=>by
  obtain⟨y,ys,rfl,h1,h2⟩:=h.uncons;unfold pZ;split
  ·rename_i k hk;refine(hf k a y τ F s hp h1 hs).bind fun e τ1 F1 s1 hp1 ex hs1 ⟨p,r,w⟩=>?_;subst p;subst r;refine(cO hf (h2.mono ex.t ex.f) hs1).bind fun es τ2 F2 s2 hp2 g B ⟨z,A,C,D⟩=>Tw ⟨z,A,by grind,fun q x d hx m=>?_⟩;cases q with
   |zero=>simp at hx m;subst hx;subst m;exact⟨k,hk,w.mono P g.f⟩|succ q=>grind
  exact Tu
theorem aY :∀(d:Nat) (k:Kd) (a:SV) (v:Av) (τ:Tau) (F:Ac) (s:SS) (hp:Hp),VD P U τ F a v->SD P U τ F s hp->OKh P U (wH P U d k a) τ F s hp fun e τ' F' hp'=>τ'=τ/\hp'=hp/\PV P F' k v (e.den U)
 |0,k,a,v,τ,F,s,hp,p,hs=>Tu|d+1,k,a,v,τ,F,s,hp,p,hs=>by
  unfold wH;split;rename_i e he;exact Tw ⟨rfl,rfl,Bz p he⟩
  ·split
   ·rename_i e b z off len cap _;refine Tv ?_;split
    ·rename_i L e' H ph hb;cases hq:Nat.beq e e'&&Nat.beq z H with
     |false=>exact Tu|true=>
      simp only[Ra];simp only[QJ,Rz]at hq;obtain⟨rfl,rfl⟩:=hq;refine Ts Ty fun _ s1 Y hs1 p1=>?_;have p1:=A0 p1;rw[l9,j8]at p1;have q:s1.get b=some (.rows L e z ph):=by rw[Y.get];exact hb
      rcases hs1.live b _ q with⟨i,o,y,h1,h2,_,cs,n,rfl,h4,h5⟩| ⟨h1,L',e',H,aa,h2,h3,_⟩
      ·cases p with
       |sl _ _ _ _ _ X o' c h h0 g hc=>
        rw[h1]at h;simp only[QI,QK]at h;obtain⟨rfl,rfl⟩:=h;refine(OKh.freeze q h1 h2).bind fun _ τ2 F2 s2 hp2 ex G ⟨B,C,A⟩=>?_;subst B;subst C;have Q:A7 P F2 e z o n cs (L.toR U):=⟨h4.1,h4.2.1,h4.2.2.1,fun r k row d w1 w2=>let⟨x,w3,w4⟩:=h4.2.2.2 r k row d w1 w2;⟨x,w3,fun kd w5=>(w4 kd w5).mono P ex.f⟩⟩
        refine(OKh.fz (.inl ⟨i,o,cs,n,h1,A,Q⟩)).bind fun _ V W s3 O D S ⟨J,K,I⟩=>?_;subst J;subst K;subst I;refine OKh.bindp' C2 fun c' he=>⟨rfl,rfl,?_⟩
        rw[he];exact PV.of_rows A rfl Q h0 g p1 (rZ hc g)
       |sl0 _ _ _ _ _ h h0 g hc=>grind
      ·cases p with
       |sl _ _ _ _ _ X o' c h h0 g hc=>grind|sl0 _ _ _ _ _ h h0 g hc=>
        refine OKh.drop.bind fun _ τ2 F2 s2 hp2 ex G ⟨B,C,A⟩=>?_;subst B;subst C;subst A;simp only[B6.rows.injEq]at h2;obtain⟨rfl,_⟩:=h2;refine(OKh.fz (.inr ⟨h1,h3⟩)).bind fun _ V W s3 O D S ⟨J,K,I⟩=>?_;subst J;subst K;subst I;refine OKh.bindp' C2 fun c' he=>⟨rfl,rfl,?_⟩
        rw[he,h3];have:pQ [] (off.toI U) (len.toI U)=[]:=by simp[pQ]
        rw[this];exact .nils _
    ·rename_i l e' H hb;cases hq:Nat.beq e e'&&Nat.beq z H&&Nat.beq z (kf P e).length&&Nat.beq (l.length/z*z) l.length with
     |false=>exact Tu|true=>
      simp only[Ra];simp only[QJ,Rz]at hq;obtain⟨⟨⟨rfl,rfl⟩,hz⟩,hN⟩:=hq;refine Ts Ty fun _ s1 Y hs1 p1=>?_;have p1:=A0 p1;rw[l9]at p1;simp only[B5]at p1;have q:s1.get b=some (.cells l e z):=by rw[Y.get];exact hb
      rcases hs1.live b _ q with⟨i,o,y,h1,h2,_,cs,n,rfl,h4,h5⟩| ⟨h1,L',e',H,aa,h2,h3,_⟩
      ·cases p with
       |sl _ _ _ _ _ X o' c h h0 g hc=>
        rw[h1]at h;simp only[QI,QK]at h;obtain⟨rfl,rfl⟩:=h;refine(OKh.freeze q h1 h2).bind fun _ τ2 F2 s2 hp2 ex G ⟨B,C,A⟩=>?_;subst B;subst C;obtain⟨vs,v1,v2,v3⟩:=C0 (c:=cs) (R:=fun j x=>∀a,l[j]? =some a->VD P U τ2 F2 a x) l.length o 0 fun j hj=>by
         have:l[j]? =some l[j]:=by simp[hj]
         obtain⟨x,k1,k2⟩:=h5 j _ this;exact⟨x,k1,fun a p=>by rw[Rr,this]at p;cases p;exact k2.mono ex.t ex.f⟩
        have hv:VDL P U τ2 F2 l vs:=⟨v2.symm,fun j a x p hx=>v3 j x hx a (by rw[Rr];exact p)⟩
        refine(cO (fun k a v τ F s hp=>aY d k a v τ F s hp) hv G).bind fun es V W s3 O D S ⟨J,K,I,f4⟩=>?_;subst J;subst K;have N:W i=some (.cells cs n e z):=D.f _ _ A;have w:A7 P W e z o n cs ((E.op (.rows (l.length/z) z) es).toR U):=by
         refine bP hz (by rw[I,hN]) (by rw[I];exact h4) fun j x hx=>?_;have hj:j<l.length:=by grind
         have T:vs[j]? =some (vs[j]'(by omega)):=by grind
         obtain⟨kd,w1,w2⟩:=f4 j _ _ T hx;refine⟨_,by rw[<-(q7 v1).2 j hj];exact T,fun ah ac=>?_⟩;grind
        refine(OKh.fz (.inl ⟨i,o,cs,n,h1,N,w⟩)).bind fun _ ai F4 s4 ad ab ae ⟨g1,g2,g3⟩=>?_;subst g1;subst g2;subst g3;refine OKh.bindp' C2 fun c' he=>⟨rfl,rfl,?_⟩
        rw[he];refine PV.of_rows N rfl w h0 g ?_ (rZ hc g);have:((E.op (.rows (l.length/z) z) es).toR U).length=l.length/z:=by show(d8 z (l.length/z) _).length=_;rw[L3]
        grind
       |sl0 _ _ _ _ _ h h0 g hc=>grind
      cases h2
    exact Tu;exact Tu;exact Tu
    ·split
     ·rename_i L e' H hb;cases hq:Nat.beq e e'&&Nat.beq z H with
      |false=>exact Tu|true=>
       simp only[Ra];simp only[QJ,Rz]at hq;obtain⟨rfl,rfl⟩:=hq;refine Ts Ty fun _ s1 Y hs1 p1=>?_;have p1:=A0 p1;rw[l9,j8]at p1;refine OKh.bindp' C2 fun c' he=>⟨rfl,rfl,?_⟩
       rw[he];rcases hs.fz _ (Z8 hb)with⟨i,o,cs,n,h1,h2,h4⟩| ⟨h1,h2⟩
       ·cases p with
        |sl _ _ _ _ _ X o' c h h0 g hc=>rw[h1]at h;simp only[QI,QK]at h;obtain⟨rfl,rfl⟩:=h;exact PV.of_rows h2 rfl h4 h0 g p1 (rZ hc g)
        |sl0 _ _ _ _ _ h h0 g hc=>grind
       ·cases p with
        |sl _ _ _ _ _ X o' c h h0 g hc=>grind|sl0 _ _ _ _ _ h h0 g hc=>
         have Z:L.toR U=[]:=h2;have:pQ [] (off.toI U) (len.toI U)=[]:=by simp[pQ]
         rw[Z,this];exact .nils _
     exact Tu
   exact Tu
where
 OKh.bindp' {m:M E} {R:E->Prop} {R':E->Tau->(Ac)->Hp->Prop} {τ:Tau} {F:Ac} {s:SS} {hp:Hp} (h:OKp U m s R) (hr:∀e,R e->R' e τ F hp):OKh P U m τ F s hp R':=
  (h.up (P:=P) (τ:=τ) (F:=F) (hp:=hp)).mono fun a τ' F' hp' _ _ ⟨B,C,A,e4⟩=>by subst B;subst C;subst A;exact hr a e4
end
section
variable {P :Aw}{U:Ab}{τ:Tau}{F:Ac}{s:SS}{hp:Hp}
theorem Cd {z r k f k':Nat}(hk:k<z)(g:k'<z)(h:r*z+k=f*z+k'):r=f/\k=k':=by
 have h1:(r*z+k)/z=r:=by rw[Nat.mul_comm,Nat.mul_add_div (by omega),Nat.div_eq_of_lt hk];omega
 have h2:(f*z+k')/z=f:=by rw[Nat.mul_comm,Nat.mul_add_div (by omega),Nat.div_eq_of_lt g];omega
 grind
variable {e o:Nat}{cs:Ao}{x:Av}
theorem A7.set1 {F:Ac}{z n:Nat}{rows:Rows}(h:A7 P F e z o n cs rows){r:Int}{j:Nat}(hj:j<z){d:Dat}(hx:∀kd,(kf P e)[j]? =some kd->PV P F kd x d):A7 P F e z o n (cs.set (o+r.toNat*z+j) (some x)) (i7 rows r j d):=by
 obtain⟨G,C,D,B⟩:=h;unfold i7;refine⟨by grind,C,fun row hr=>?_,fun m k row w hr hk=>?_⟩;obtain⟨q,hq⟩:=Tf hr;grind
 ·rw[List.getElem?_modify]at hr;cases g:rows[m]? with
  |none=>grind|some f=>
   have hl:=D f (QT g);rw[g]at hr;by_cases e:r.toNat=m;simp only[e,if_true,Option.map_eq_map,RE,QI]at hr;rw[<-hr,List.getElem?_set]at hk;by_cases A:j=k;subst A;rw[Rh rfl,Rh (by omega),QI]at hk;refine⟨x,?_,fun kd E=>by grind⟩;rw[TQ,Rh (by grind)];rw[Re A]at hk;obtain⟨y,k1,k2⟩:=B m k f w g hk;refine⟨y,?_,k2⟩;rw[TQ,Re];grind;grind
   ·simp only[e,if_false,Option.map_eq_map,RE,QI]at hr;subst hr;obtain⟨y,k1,k2⟩:=B m k f w g hk;have p:k<z:=by grind
    refine⟨y,?_,k2⟩;rw[TQ,Re];grind;intro h;exact e (Cd p hj (by omega)).1.symm
theorem pC {F:Ac}{e z o n:Nat}{row:E}(h0:0<=row.toI U):∀ {es:Au} {vs:Af} {L:E} {cs:Ao} {fld:Nat},A7 P F e z o n cs (L.toR U)->es.length=vs.length->fld+es.length<=z->(∀(q:Nat) x d,vs[q]? =some x->es[q]? =some d-> ∀kd,(kf P e)[fld+q]? =some kd->PV P F kd x (d.den U))->A7 P F e z o n (fill cs (o+row.toN U*z+fld) vs) ((DQ L row fld es).toR U)
 | [],[],L,cs,fld,h,_,_,_=>h|d::es,x::vs,L,cs,fld,h,hl,hf,hp=>by
  have h1:=h.set1 (r:=row.toI U) (by grind) (fun kd f=>hp 0 x d rfl rfl kd f);have h2:=pC h0 (L:= .op (.upd fld) [L,row,d]) (fld:=fld+1) h1 (by simpa using hl) (by grind)
   (fun q y w hy g kd f=>hp (q+1) y w (by grind) (by grind) kd (by grind))
  exact h2
 | [],_::_,_,_,_,_,hl,_,_=>by grind|_::_,[],_,_,_,_,hl,_,_=>by grind
variable {v:Av}
def NF {a:SV}(h:VD P U τ F a v)(e:wF a=true):v.oneCell'=true:=by
 cases h with
 |any=>simp[wF]at e|agg=>simp[wF]at e|tup=>simp[wF]at e|lst t L clip v h hc=>generalize L.toR U=rows at h;cases h<;>rfl
 |rpq x v h=>generalize x.toI U=n at h;cases h<;>rfl
 |_=>rfl
variable {l:As}
theorem Db {vs:Af}(h:VDL P U τ F l vs)(e:l.all wF=true):vs.all Value.oneCell'=true:=by
 rw[Rq]at e⊢;intro x hx;obtain⟨i,hi⟩:=Tf hx;have g:i<l.length:=by have:=(QL.1 hi).1;rw[h.1];exact this
 have f:l[i]? =some l[i]:=by grind
 exact NF (h.2 i _ _ f hi) (by grind)
def pS {t:Ax}{f:Ba}(g:P.info? t=some f)(hx:x.cells.toList.length=f.size)(j:x.cells.toList.all Value.oneCell'=true){i n z:Nat}{c:Ao}(hg:hp.m.get i=some (.cells c n e z))(hn:o+f.size<=n):D3 P hp t (.pointer (some ⟨i,o,none⟩)) x=some {hp with m:=hp.m.set i (some (.cells (fill c o x.cells.toList) n e z))}:=by simp only[D3,hg,g];rw[show(Nat.beq x.cells.toList.length f.size&&Nat.ble (o+f.size) n&&x.cells.toList.all Value.oneCell')=true by simp only[QJ,Rz,RQ];exact⟨⟨hx,hn⟩,j⟩];simp only[Ra,pL,TO]
variable {b:Nat}
def OKh.change {i:Nat}{x x':B6}(hb:s.get b=some x)(ht:τ b=some (some (i,o))){y:Blk}{m:T Blk}(hk:∀j,j≠i->m.get j=hp.m.get j)(hi:m.get i=some y)(f:BD P U τ F o x' y)(g:∀c e z c',x= .cells c e z->x'= .cells c' e z->c'.length=c.length-> ∀cs n,hp.m.get i=some (.cells cs n e z)-> ∃cs',y= .cells cs' n e z/\ ∀j,j<o\/o+c.length<=j->cs'.get j=cs.get j:=by intro _ _ _ _ h h';first| (cases h;done)| (cases h';done)):OKh P U (jA b (some x')) τ F s hp fun _ τ' F' hp'=>τ'=τ/\F'=F/\hp'= {hp with m:=m}:=by intro Q hq hs;obtain⟨h1,h2⟩:=hs.change (hp':= {hp with m:=m}) hb ht rfl hk hi f g;exact⟨(),_,hq,τ,F,_,h1,h2,rfl,rfl,rfl⟩
def Tt:type_of% @OKh.change:=@OKh.change
theorem gF (hs:SD P U τ F s hp):OKh P U (yA P b) τ F s hp fun _ τ' F' hp'=>τ'=τ/\F'=F/\hp'=hp:=by
 refine Tv ?_;split
 ·rename_i l e z hb;split
  ·rename_i L hL;rcases hs.live b _ hb with⟨i,o,y,h1,h2,_,cs,n,rfl,h4,m⟩| ⟨h1,q,e',r,p,h2,h3,_⟩
   ·have hr:=oW hL h4 m;refine(Tt (x':= .rows L e z (.int (l.length/z:Nat))) hb h1 (fun _ _=>rfl) h2 ⟨cs,n,rfl,hr,?_⟩).mono fun _ τ' F' hp' _ _ ⟨f,g,j⟩=>⟨f,g,j⟩
    have f:(E.int ((l.length/z:Nat):Int)).toN U=l.length/z:=RA _;rw[f];have:l.length/z*z<=l.length:=Nat.div_mul_le_self _ _;omega
   grind
  exact Tu
 exact Tw ⟨rfl,rfl,rfl⟩
variable {a:Int}
theorem yI {rows:Rows}{l:Rows}(h1:a<=rows.length){r:Nat}{row:Ar}(h:(Sx.over rows a l)[r]? =some row):(r<a.toNat/\rows[r]? =some row)\/(a.toNat<=r/\r<a.toNat+l.length/\l[r-a.toNat]? =some row)\/(a.toNat+l.length<=r/\rows[r]? =some row):=by
 unfold Sx.over at h;have hl:(rows.take a.toNat).length=a.toNat:=by grind
 by_cases f:r<a.toNat;grind;by_cases g:r<a.toNat+l.length;grind;rw[QX,QR (by omega),hl,QR (by omega),Ry]at h;grind
theorem Dd {rows:Rows}{l:Rows}(h1:a<=rows.length):(Sx.over rows a l).length=Nat.max rows.length (a.toNat+l.length):=by unfold Sx.over;grind
theorem A7.over {z k:Nat}{rows l:Rows}{news:Af}(hr:A7 P F e z o k cs rows)(h1:a<=rows.length)(hl:∀r∈l,r.length=z)(hn:news.length=l.length*z)(hk:o+(a.toNat+l.length)*z<=k)(hx:∀(r j:Nat) (row:Ar) (d:Dat),l[r]? =some row->row[j]? =some d-> ∃x,news[r*z+j]? =some x/\ ∀kd,(kf P e)[j]? =some kd->PV P F kd x d):A7 P F e z o k (fill cs (o+a.toNat*z) news) (Sx.over rows a l):=by
 obtain⟨w,f,A,B⟩:=hr;refine⟨?_,f,fun r h=>?_,fun r j row d h h'=>?_⟩;rw[Dd h1];grind;obtain⟨q,hq⟩:=Tf h;rcases yI h1 hq with⟨_,h⟩| ⟨_,_,h⟩| ⟨_,h⟩;grind;grind;grind
 ·rw[l8,hn];rcases yI h1 h with⟨c,h⟩| ⟨g,m,h⟩| ⟨c,h⟩
  ·have hj:j<z:=by grind
   have:r*z+z<=a.toNat*z:=by rw[<-Sh];exact QW z c
   grind
  ·have hj:j<z:=by grind
   have p:r*z=a.toNat*z+(r-a.toNat)*z:=by rw[<-Rv];congr 1;omega
   grind
  ·have hj:j<z:=by grind
   have:=QW z c;grind
variable {fld:Nat}{vs:As}
theorem jN {t:Ax}{J:Ba}(H:P.info? t=some J){z:Nat}{row:E}(ha:VD P U τ F (.ptr b z row fld) v)(hv:VDL P U τ F vs x.cells.toList)(hx:x.cells.toList.length=J.size)(ho:x.cells.toList.all Value.oneCell'=true)(hs:SD P U τ F s hp):OKh P U (kX P U b z row fld vs) τ F s hp fun a _ _ hp'=>a= .tup []/\D3 P hp t v x=some hp':=by
 refine Tv ?_;split
 ·rename_i L0 e z0 ai ac;cases hq:Nat.ble (fld+vs.length) z&&Nat.beq z (kf P e).length with
  |false=>exact Tu|true=>
   simp only[Ra];simp only[QJ,Rz,RQ]at hq;obtain⟨hf,hz⟩:=hq;refine(cO (fun k a v τ F s hp=>aY 20 k a v τ F s hp) hv hs).bind fun es τ1 F1 s1 hp1 ex hs1 ⟨e1,e2,K,e4⟩=>Tv ?_;split
   ·rename_i L e' z' ph hb;cases hq:Nat.beq e e'&&Nat.beq z z' with
    |false=>exact Tu|true=>
     simp only[Ra];simp only[QJ,Rz]at hq;obtain⟨rfl,rfl⟩:=hq;cases hT:phT ph L&&Nat.beq z 1&&Nat.beq fld 0&&Nat.beq es.length 1 with
     |true=>
      simp only[QJ,Rz]at hT;obtain⟨⟨⟨_,rfl⟩,rfl⟩,N⟩:=hT;obtain⟨e0,rfl⟩:∃e0,es=[e0]:=by
       match es,N with
       | [e0],_=>grind
      refine Ts Ty fun _ s2 Z G p1=>Ts Ty fun _ s3 o3 V p2=>?_;have p1:=A0 p1;have p2:=C7 p2;rw[j8]at p1;have A:s3.get b=some (.rows L e 1 ph):=by rw[o3.get,Z.get];exact hb
      have w:=ha.mono ex.t ex.f;rcases V.live b _ A with⟨i,o,y,h1,h2,_,cs,n,rfl,h4,M⟩| ⟨h1,L',e',z',aa,h2,h3,_⟩
      ·cases w with
       |ptr _ _ _ _ X o' h h0=>
        have ah:x.cells.toList.length=1:=by rw[<-hv.1,<-K];rfl
        have g:o+row.toN U*1+0+J.size<=n:=by grind
        have W:=pS H hx ho h2 g;have p:=A7.over (l:=[[e0.den U]]) h4 p1 (by grind) (by omega)
         (by grind) (fun r j q d hr D=>by
          have R:r=0:=by grind
          subst R;simp at hr;subst hr;have O:j=0:=by grind
          subst O;simp at D;subst D;obtain⟨y,hy⟩:∃y,x.cells.toList[0]? =some y:=⟨_,QV (by omega)⟩
          refine⟨y,hy,fun kd B=>?_⟩;obtain⟨Y,C,I⟩:=e4 0 y e0 hy rfl;rw[<-hz,B,QI]at C;subst C;exact I)
        refine(Tt (x':= .rows (.op .over [L,row,.op (.rows 1 1) [e0]]) e 1 ph) (y:= .cells (fill cs (o+row.toN U*1+0) x.cells.toList) n e 1) (m:=hp1.m.set i (some (.cells (fill cs (o+row.toN U*1+0) x.cells.toList) n e 1))) A h1 (fun j hj=>by rw[TQ,Re hj]) (by rw[TQ,Rh rfl]) ⟨_,n,rfl,p,M⟩).bind fun _ ab F3 s3 Q _ _ ⟨C,I,w3⟩=>Tw ⟨rfl,?_⟩;grind
      ·cases w with
       |ptr _ _ _ _ X o' h h0=>grind
     |false=>
     simp only[Rb];refine Ts Ty fun _ s2 Z G p1=>?_;have p1:=C7 p1;rw[j8]at p1;have A:s2.get b=some (.rows L e z ph):=by rw[Z.get];exact hb
     have w:=ha.mono ex.t ex.f;rcases G.live b _ A with⟨i,o,y,h1,h2,_,cs,n,rfl,h4,M⟩| ⟨h1,L',e',z',aa,h2,h3,_⟩
     ·cases w with
      |ptr _ _ _ _ X o' h h0=>
       have S:row.toN U<(L.toR U).length:=by grind
       have ad:row.toN U*z+z<=(L.toR U).length*z:=by rw[<-Sh];exact QW z S
       have g1:=h4.1;have g:o+row.toN U*z+fld+J.size<=n:=by rw[<-hx,<-hv.1];omega
       have W:=pS H hx ho h2 g;have p:=pC h0 h4 (by rw[K,hv.1]) (by rw[K];exact hf) (fun q y d hy D kd B=>by obtain⟨Y,C,I⟩:=e4 q y d hy D;have ae:q<es.length:=(QL.1 D).1;rw[<-hz,SZ (by omega),B,QI]at C;subst C;exact I);refine(Tt (x':= .rows (DQ L row fld es) e z ph) (m:=hp1.m.set i (some (.cells (fill cs (o+row.toN U*z+fld) x.cells.toList) n e z))) A h1 (fun j hj=>by rw[TQ,Re hj]) (by rw[TQ,Rh rfl]) ⟨_,n,rfl,p,M⟩).bind fun _ ab F3 s3 Q _ _ ⟨C,I,w3⟩=>Tw ⟨rfl,?_⟩;grind
     ·cases w with
      |ptr _ _ _ _ X o' h h0=>grind
   exact Tu
 exact Tu
def vJ {row:E}:∀ {es:Au} {L:E} {fld:Nat},((DQ L row fld es).toR U).length=(L.toR U).length
 | [],L,fld=>rfl|d::es,L,fld=>by unfold DQ;rw[vJ (es:=es)];show(i7 (L.toR U) _ fld _).length=_;simp[i7]
theorem Gj {t:Ax}{g:Ba}(G:P.info? t=some g){row:E}(R:VD P U τ F (.rp row fld) v)(hv:VDL P U τ F vs x.cells.toList)(hx:x.cells.toList.length=g.size)(V:x.cells.toList.all Value.oneCell'=true)(hs:SD P U τ F s hp):OKh P U (Br P U row fld vs) τ F s hp fun a _ _ hp'=>a= .tup []/\D3 P hp t v x=some hp':=by
 unfold Br;refine Tv ?_;split
 ·rename_i b0 L0 z w;obtain⟨_,_,_,_,_,g0⟩:=iH hs w;cases hq:Nat.ble (fld+vs.length) z with
  |false=>exact Tu|true=>
   simp only[Ra];have hf:=QM hq;have hz:=g0.2.1;refine(cO (ks:=kf P rgT) (j:=fld) (fun k a v τ F s hp=>aY 20 k a v τ F s hp) hv hs).bind fun es τ1 F1 s1 hp1 ex hs1 ⟨N,O,I,Q⟩=>Tv ?_;subst N;subst O;split
   ·rename_i b L z' hr;cases hq:Nat.beq z z' with
    |false=>exact Tu|true=>
     rw[Ra];have:=QN hq;subst this;refine Ts Ty fun _ s2 K C p1=>?_;have p1:=C7 p1;rw[j8]at p1;have A:wG s2=some (b,L,z):=by unfold wG at hr⊢;rw[K.h];split at hr;rename_i b' S;rw[K.get];exact hr;cases hr
     obtain⟨p,h1,_,cs,h2,h4⟩:=iH C A;cases R with
     |rp _ _ h0=>
      have B:row.toN U<(L.toR U).length:=by grind
      have f:=pC (P:=P) (F:=F1) h0 (es:=es) (vs:=x.cells.toList) (fld:=fld) h4 (by rw[I,hv.1]) (by rw[I];exact hf) (fun q y d hy J kd r=>by obtain⟨Y,H,M⟩:=Q q y d hy J;have X:q<es.length:=(QL.1 J).1;rw[<-hz,SZ (by omega),r,QI]at H;subst H;exact M);rw[Rr]at f;have D:D3 P hp1 t (.pointer (some ⟨row.toN U,fld,some 1⟩)) x=some (hp1.setR (fill cs (row.toN U*z+fld) x.cells.toList) (L.toR U).length rgT z):=by simp only[D3,BZ,h2,G];rw[show(Nat.beq x.cells.toList.length g.size&&Nat.ble (row.toN U+1) (L.toR U).length&&Nat.ble (fld+g.size) z&&x.cells.toList.all Value.oneCell')=true by simp only[QJ,Rz,RQ];exact⟨⟨⟨hx,B⟩,by rw[<-hx,<-hv.1];omega⟩,V⟩];rfl
      refine(Tt (x':= .reg b (DQ L row fld es) z) (m:=hp1.m.set 0 (some (.reg (fill cs (row.toN U*z+fld) x.cells.toList) (L.toR U).length rgT z))) p h1 (fun j hj=>by rw[TQ,Re hj]) (by rw[TQ,Rh rfl]) ⟨rfl,h1,_,by rw[vJ],by rw[vJ];exact f⟩).bind fun _ aa F3 s3 W _ _ ⟨H,M,Z⟩=>Tw ⟨rfl,?_⟩;rw[D,Z];rfl
   exact Tu
 exact Tu
theorem DJ {vs:Af}(hv:VDL P U τ F l vs)(hs:SD P U τ F s hp):OKh P U (HL P U l) τ F s hp fun a τ' F' hp'=>∃v,vU hp vs=some (v,hp')/\VD P U τ' F' a v:=by
 unfold HL;refine Tv ?_;split
 ·rename_i b0 Y z A;obtain⟨_,_,_,_,_,g0⟩:=iH hs A;cases hq:Nat.beq l.length z&&Nat.ble 1 z&&l.all wF with
  |false=>exact Tu|true=>
   simp only[Ra];simp only[QJ,Rz,RQ]at hq;obtain⟨⟨hl,S⟩,_⟩:=hq;have hz:=g0.2.1;refine(cO (ks:=kf P rgT) (j:=0) (fun k a v τ F s hp=>aY 20 k a v τ F s hp) hv hs).bind fun es τ1 F1 s1 hp1 ex hs1 ⟨N,O,Z,Q⟩=>Tv ?_;subst N;subst O;split
   ·rename_i b L X hr;cases hq:Nat.beq z X with
    |false=>exact Tu|true=>
     rw[Ra];have:=QN hq;subst this;obtain⟨B,h1,_,cs,h2,h4⟩:=iH hs1 hr;have H:vs.length=z:=by rw[<-hv.1];exact hl
     have p:(E.op (.rows 1 z) es).toR U=[es.map (E.den U)]:=by show(Dat.lst (d8 z 1 (E.dens U es))).rows=_;rw[E.dens_eq];show [(es.map (E.den U)).take z]=_;rw[RK (by simp;omega)]
     have g:((E9 L (.op (.rows 1 z) es)).toR U).length=(L.toR U).length+1:=by rw[L4,p];simp
     have w:Sx.over (L.toR U) ((L.toR U).length:Int) [es.map (E.den U)]=L.toR U++ [es.map (E.den U)]:=by unfold Sx.over;rw[RA,List.take_length,List.drop_eq_nil_of_le (by simp),SM]
     have f:=A7.over (P:=P) (F:=F1) (k:=((L.toR U).length+1)*z) (news:=vs) (l:=[es.map (E.den U)]) (a:=((L.toR U).length:Int)) ⟨by rw[Rv];have:=h4.1;omega,h4.2.1,h4.2.2.1,h4.2.2.2⟩ (Sd _)
      (fun r hr=>by simp at hr;rw[hr];simp;omega) (by rw[H];simp) (by rw[RA];simp) (fun r j q d hr C=>by
       have A:r=0:=by grind
       subst A;simp at hr;subst hr;rw[RL]at C;cases he:es[j]? with
       |none=>grind|some e0=>
        rw[he,RE,QI]at C;have hj:j<es.length:=(QL.1 he).1;obtain⟨y,hy⟩:∃y,vs[j]? =some y:=⟨_,QV (by omega)⟩
        refine⟨y,by rw[SK,Rr];exact hy,fun kd D=>?_⟩;obtain⟨V,I,K⟩:=Q j y e0 hy he;rw[<-hz,Rr,SZ (by omega),D,QI]at I;subst I;rw[<-C];exact K)
     rw[w,Rr,RA]at f;have G:vU hp1 vs=some (.pointer (some ⟨(L.toR U).length,0,some 1⟩),hp1.setR (fill cs ((L.toR U).length*z) vs) ((L.toR U).length+1) rgT z):=by simp only[vU,h2];simp_all
     refine(Tt (x':= .reg b (E9 L (.op (.rows 1 z) es)) z) (m:=hp1.m.set 0 (some (.reg (fill cs ((L.toR U).length*z) vs) ((L.toR U).length+1) rgT z))) B h1 (fun j hj=>by rw[TQ,Re hj]) (by rw[TQ,Rh rfl]) ⟨rfl,h1,_,by rw[g],by rw[g,L4,p];exact f⟩).bind fun _ J M s3 R _ _ ⟨I,K,W⟩=>Tw ⟨.pointer (some ⟨(L.toR U).length,0,some 1⟩),G.trans (by rw[W];rfl),?_⟩;have:=VD.rp (P:=P) (U:=U) (τ:=J) (F:=M) (A6 L) 0 (by rw[j8];omega);rw[show(A6 L).toN U=(L.toR U).length by show((A6 L).toI U).toNat=_;rw[j8];omega]at this;exact this
   exact Tu
 exact Tu
def Gk {t:Ax}{f:Ba}(j:P.info? t=some f){g:Nat}{row:E}(hb:s.get b=some (.cells l e g))(hf:fld<=l.length)(m:VD P U τ F (.ptr b 1 row fld) v)(hv:VDL P U τ F vs x.cells.toList)(hx:x.cells.toList.length=f.size)(p:x.cells.toList.all Value.oneCell'=true)(hs:SD P U τ F s hp):OKh P U (Bs U b l e g row fld vs) τ F s hp fun a _ _ hp'=>a= .tup []/\D3 P hp t v x=some hp':=by unfold Bs;exact Tu
theorem Jo {t:Ax}{a b:SV}(q:VD P U τ F a v)(hb:VD P U τ F b x)(hs:SD P U τ F s hp):OKh P U (Gi P U t a b) τ F s hp fun c _ _ hp'=>c= .tup []/\D3 P hp t v x=some hp':=by
 unfold Gi;split;exact Tu
 ·rename_i J f;split;exact Tu
  ·rename_i vs I;have hv:=cU hb I;cases hq:Nat.beq vs.length J.size&&vs.all wF with
   |false=>exact Tu|true=>
    simp only[Ra];simp only[QJ,Rz]at hq;obtain⟨A,C⟩:=hq;have hx:x.cells.toList.length=J.size:=by rw[<-hv.1];exact A
    have B:=Db hv C;split
    ·rename_i b' z row fld;refine Tv ?_;split
     ·rename_i l e D g;split
      ·rename_i r;cases hq:decide (0<=r)&&Nat.ble (r.toNat*z+fld+vs.length) l.length with
       |false=>exact Tu|true=>
        simp only[Ra];simp only[QJ,Rg,RQ]at hq;rcases hs.live b' _ g with⟨i,o,y,h1,h2,_,cs,n,rfl,h4,Y⟩| ⟨h1,X,e',D,Q,h2,h3,_⟩
        ·cases q with
         |ptr _ _ _ _ Z o' h h0=>
          rw[h1]at h;simp only[QI,QK]at h;obtain⟨rfl,rfl⟩:=h;have G:(E.int r).toN U=r.toNat:=rfl;have O:=pS f hx B h2 (o:=o+(E.int r).toN U*z+fld) (by rw[G,<-hx,<-hv.1];omega);refine(Tt (x':= .cells (Q8 l (r.toNat*z+fld) vs) e D) (m:=hp.m.set i (some (.cells (fill cs (o+(E.int r).toN U*z+fld) x.cells.toList) n e D))) g h1 (fun j hj=>by rw[TQ,Re hj]) (by rw[TQ,Rh rfl])
           ⟨_,n,rfl,?_,fun j c hc=>?_⟩ (by intro c _ _ c' k1 _ _ K n1 hg;cases k1;rw[h2]at hg;cases hg;exact⟨_,rfl,fun j hj=>by rw[l8,Re (by rw[G];have:=hv.1;omega)]⟩)).bind fun _ V W s3 N _ _ ⟨R,S,w3⟩=>Tw ⟨rfl,?_⟩
          unfold Q8;simp;omega
          ·unfold Q8 at hc;rw[l8,G];by_cases hj:r.toNat*z+fld<=j/\j<r.toNat*z+fld+x.cells.toList.length
           ·rw[Rh (by omega)];have p:(l.take (r.toNat*z+fld)).length=r.toNat*z+fld:=by grind
            rw[QX,QR (by omega),QS (by rw[p,hv.1];omega),p]at hc;obtain⟨w,R,S⟩:=hv.get hc;grind
           ·rw[Re (by omega)];by_cases H:j<r.toNat*z+fld;rw[QX,QS (by simp;omega),Rs,Rh H]at hc;grind
            ·have p:(l.take (r.toNat*z+fld)).length=r.toNat*z+fld:=by simp;omega
             rw[QX,QR (by omega),p,QR (by rw[hv.1];omega),Ry]at hc;grind
          grind
        cases h2
      ·cases hq:Nat.beq z 1&& !Nat.beq D 1&&Nat.ble fld l.length with
       |true=>rw[Ra];simp only[QJ,Rz,RQ]at hq;obtain⟨⟨rfl,_⟩,hf⟩:=hq;exact Gk f g hf q hv hx B hs
       |false=>rw[Rb];refine(gF hs).bind fun _ τ1 F1 s1 hp1 ex hs1 ⟨p,L,M⟩=>?_;subst p;subst L;subst M;exact jN f q hv hx B hs1
     exact jN f q hv hx B hs;exact Tu
    exact Gj f q hv hx B hs;exact Tu
end
def Fo (e l h:E):E:=match e,l,h with
 | .str p,.int a,.int b=>.str ((p.take b.toNat).drop a.toNat)|e,l,h=>.op .ssub [e,l,h]
def Q4 (x:Bb SV)(d:E):Bb E:=match x with
 |none=>some d|some (.int _ e)=>some e|some _=>none
def kG :E->Bool
 | .int n=>decide (n=0)|_=>false
section
variable (P :Aw)(U:Ab)
def slen (t:Ax)(x:SV):M SV:=
 match P.underlying t,x with
 |some .string,.str e=>i4 (.int .i64 (bK e))|some (.array n _),_=>i4 (.int .i64 (.int n))|some (.slice _),.sl _ _ _ len _=>i4 (.int .i64 len)|some (.slice _),.lst _ L _=>i4 (.int .i64 (A6 L))|some (.slice _),.nils=>i4 (.int .i64 (.int 0))|some (.map _ _),.nilm=>i4 (.int .i64 (.int 0))|_,_=>a8 "len"
def scap (t:Ax)(x:SV):M SV:=
 match P.underlying t,x with
 |some (.slice _),.sl _ _ _ _ (.ex c)=>i4 (.int .i64 c)|some (.slice _),.lst _ L true=>i4 (.int .i64 (A6 L))|some (.slice _),.nils=>i4 (.int .i64 (.int 0))|some (.array n _),_=>i4 (.int .i64 (.int n))|_,_=>a8 "cap"
def Y3 (l h top:E):M Unit:=b9 (p8 U (y8 (z4 l (.int 0)))) fun _=>b9 (p8 U (y8 (z4 h l))) fun _=>p8 U (y8 (z4 top h))
def wZ (b z:Nat)(off l h c:E):M SV:=
 bif kG l then i4 (.sl b z off h (.ex c))else
  b9 (gG U (E4 c l)) fun t=>bif t then i4 (.sl b z off (M3 h l) (.ex (M3 c l)))else i4 (.sl b z (y7 off l) (M3 h l) (.ex (M3 c l)))
def OO (e b z:Nat)(off len l h:E):M SV:=
 bif kG l then i4 (.sl b z off h .ge)else
  b9 (gG U (z4 l len)) fun t=>t9 fun s=>match s.get b with
   | some (.rows L e' z' _) => bif Nat.beq e e' && Nat.beq z z' then
     (bif t then i4 (.sl b z (y7 off l) (M3 h l) .ge)else
      b9 (p8 U (y8 (z4 (A6 L) (y7 off len)))) fun _=>b9 (jA b none) fun _=>i4 (.lst e (.op .nil []) false))
    else a8 "slice: type"
   |some (.cells _ e' z')=>bif Nat.beq e e'&&Nat.beq z z'&&t then i4 (.sl b z (y7 off l) (M3 h l) .ge)else a8 "slice: cells"|_=>a8 "slice: no block"
def Gh (t:Ax)(x:SV)(lo hi mx:Bb SV):M SV:=
 match P.underlying t with
 |some .string=>match x,mx with
  | .str e,none=>match Q4 lo (.int 0),Q4 hi (bK e)with
   |some l,some h=>b9 (Y3 U l h (bK e)) fun _=>i4 (.str (Fo e l h))
   |_,_=>a8 "slice: bounds"
  |_,_=>a8 "slice: string"
 |some (.slice e)=>match P.info? e with
  |none=>a8 "slice: type"|some ie=>match x with
   | .nils=>match Q4 lo (.int 0),Q4 hi (.int 0),mx with
    |some l,some h,none=>b9 (Y3 U l h (.int 0)) fun _=>i4 .nils
    |some l,some h,some m=>match Q4 (some m) (.int 0),hi with
     |some m,some _=>b9 (Y3 U l h m) fun _=>b9 (p8 U (y8 (z4 (.int 0) m))) fun _=>i4 .nils
     |_,_=>a8 "slice: bounds"
    |_,_,_=>a8 "slice: bounds"
   | .sl b z off len cap => bif Nat.beq z ie.size then
     match Q4 lo (.int 0),Q4 hi len,mx with
     |some l,some h,none=>match cap with
      | .ex c=>b9 (Y3 U l h c) fun _=>wZ U b z off l h c
      | .ge=>b9 (Y3 U l h len) fun _=>OO U e b z off len l h
      | .un=>a8 "slice: room"
     |some l,some h,some m=>match Q4 (some m) (.int 0),hi with
      |some m,some _=>b9 (Y3 U l h m) fun _=>b9 (p8 U (y8 (z4 (match cap with| .ex c=>c|_=>len) m))) fun _=>wZ U b z off l h m
      |_,_=>a8 "slice: bounds"
     |_,_,_=>a8 "slice: bounds"
    else a8 "slice: size"
   | .lst e' L clip => bif Nat.beq e e' && Nat.beq ie.size (kf P e).length then
     match Q4 lo (.int 0),Q4 hi (A6 L),mx with
     |some l,some h,none=>b9 (Y3 U l h (A6 L)) fun _=>b9 (W5 U L l (M3 h l)) fun c=>i4 (.lst e' c (clip&&hi.isNone))
     |some l,some h,some m=>match Q4 (some m) (.int 0),hi with
      | some m, some _ => b9 (Y3 U l h m) fun _ => b9 (p8 U (y8 (z4 (A6 L) m))) fun _ => b9 (bif clip then i4 () else p8 U (z4 (.int 0) (A6 L))) fun _ =>
        b9 (W5 U L l (M3 h l)) fun c=>bif E.like h m then b9 (p8 U (E4 h m)) fun _=>i4 (.lst e' c true)else i4 (.lst e' c false)
      |_,_=>a8 "slice: bounds"
     |_,_,_=>a8 "slice: bounds"
    else a8 "slice: list"
   |_=>a8 "slice: value"
 |_=>a8 "slice: type"
end
section
variable {P :Aw}{U:Ab}{τ:Tau}{F:Ac}{s:SS}{hp:Hp}
variable {v:Av}
theorem P4 {t:Ax}{w:Av}(h:rB P t v=some w)(hm:∀i,v≠ .map (some i)):W7 hp P t v=some w:=by unfold W7;grind
def PV.slice {e:Ax}{d:Dat}(h:PV P F (.sl e) v d):∃a c,v= .slice a d.rows.length c:=by cases h<;>exact⟨_,_,rfl⟩
theorem NZ {t:Ax}{a:SV}(f:VD P U τ F a v):OKp U (slen P t a) s fun b=>∃w,W7 hp P t v=some w/\VD P U τ F b w:=by
 unfold slen;split;rename_i e ht;cases f;refine TC ⟨.int .i64 ((e.den U).toStr.length:Nat),P4 ?_ (fun i h=>by grind),TV (O7 e)⟩;simp[rB,ht];rename_i _ _ _ n e ht;refine TC ⟨.int .i64 (n:Nat),?_,TV rfl⟩;unfold W7;split;grind;simp only[rB,ht]
 ·rename_i e' b z off len cap ht;cases f with
  |sl _ _ _ _ _ i o c h h0 h1 hc=>refine TC ⟨.int .i64 (len.toN U:Nat),P4 ?_ (fun i h=>by grind),TV (by grind)⟩;simp[rB,ht]|sl0 _ _ _ _ _ h h0 h1 hc=>refine TC ⟨.int .i64 0,P4 ?_ (fun i h=>by grind),TV h1⟩;simp[rB,ht]
 ·rename_i e' t' L clip ht;cases f with
  |lst _ _ _ _ h hc=>obtain⟨a,c,rfl⟩:=h.slice;refine TC ⟨.int .i64 ((L.toR U).length:Nat),P4 ?_ (fun i h=>by grind),TV (j8 L)⟩;simp only[rB,ht];rfl
 rename_i e' ht;cases f;refine TC ⟨.int .i64 0,P4 ?_ (fun i h=>by grind),TV rfl⟩;simp[rB,ht];rename_i k' e' ht;cases f;refine TC ⟨.int .i64 0,P4 ?_ (fun i h=>by grind),TV rfl⟩;simp[rB,ht];exact Tx
theorem GR {e:Ax}{a:Aq}{l:Nat}{d:Dat}(h:PV P F (.sl e) (.slice a l l) d):a=none\/l<unk:=by
 cases h with
 |nils=>grind|sl _ i o c b cs n z rows x hF hb hc hn hz hr hx hp=>right;rcases hc.1 with⟨h,_⟩| ⟨lo,h1,h2,h3⟩;exact h;have:=u7 lo 0;unfold unk at*;omega
theorem NX {t:Ax}{a:SV}(f:VD P U τ F a v):OKp U (scap P t a) s fun b=>∃w,nI P t v=some w/\VD P U τ F b w:=by
 unfold scap;split
 ·rename_i e' b z off len c ht;cases f with
  |sl _ _ _ _ _ i o c' h h0 h1 hc=>
   obtain⟨k1,k2,k3,g⟩:=hc;refine TC ⟨.int .i64 (c':Nat),?_,TV (by grind)⟩;have:Nat.ble unk c'=false:=by
    cases hb:Nat.ble unk c' with
    |false=>rfl|true=>simp_all;omega
   simp only[nI,ht,this,Rb]
  |sl0 _ _ _ _ _ h h0 h1 hc=>refine TC ⟨.int .i64 0,?_,TV (hc c rfl)⟩;simp[nI,ht]
 ·rename_i e' t' L ht;cases f with
  |lst _ _ _ _ h hc=>
   obtain⟨a,l,rfl⟩:=hc rfl;have hl:=h.len;refine TC ⟨.int .i64 (l:Nat),?_,TV (by rw[j8,hl];rfl)⟩;rcases GR h with rfl|hlt;simp only[nI,ht]
   ·cases a with
    |none=>simp only[nI,ht]|some a=>
     have:Nat.ble unk l=false:=by
      cases hb:Nat.ble unk l with
      |false=>rfl|true=>simp_all;omega
     simp only[nI,ht,this,Rb]
 rename_i e' ht;cases f;refine TC ⟨.int .i64 0,?_,TV rfl⟩;simp[nI,ht];rename_i _ _ _ n e' ht;refine TC ⟨.int .i64 (n:Nat),?_,TV rfl⟩;simp only[nI,ht];exact Tx
def OVD (P:Aw)(U:Ab)(τ:Tau)(F:Ac):Bb SV->Ag->Prop
 |none,none=>True|some a,some v=>VD P U τ F a v|_,_=>False
def K4 {l h top:E}:OKp U (Y3 U l h top) s fun _=>0<=l.toI U/\l.toI U<=h.toI U/\h.toI U<=top.toI U:=by exact OKp.need.bind fun _ _ _ _ h1=>OKp.need.bind fun _ _ _ _ h2=>OKp.need.mono fun _ h3=>⟨Y5 h1,A0 h2,A0 h3⟩
theorem mC {x:Bb SV}{v:Ag}(h:OVD P U τ F x v){d e:E}(he:Q4 x d=some e):(v=none/\e=d)\/ ∃k,v=some (.int k (e.toI U)):=by
 unfold Q4 at he;split at he
 ·simp at he;cases v with
  |none=>grind|some v=>exact h.elim
 ·simp at he;subst he;cases v with
  |none=>exact h.elim|some v=>have:=h;cases this;exact .inr ⟨_,rfl⟩
 grind
theorem dA {k:IntKind}{n:Int}{y:Nat}(h0:0<=n)(h1:n<=y):I5 (.int k n) y=some n.toNat:=by show(bif decide (0<=n)&&decide (n<=(y:Int))then some n.toNat else none)=some n.toNat;grind
variable {hi lo:Bb SV}{vhi vlo:Ag}
theorem H8 (j:OVD P U τ F lo vlo)(f:OVD P U τ F hi vhi){l h dl m:E}(r:Q4 lo dl=some l)(p:Q4 hi m=some h){len g:Nat}(h1:0<=l.toI U)(h2:l.toI U<=h.toI U)(h3:h.toI U<=g)(A:dl.toI U=0)(z:hi=none->h.toN U=len):A8 len g vlo vhi none=some (l.toN U,h.toN U,none):=by
 have q:(match vhi with|some v=>I5 v g|none=>some len)=some (h.toN U):=by
  rcases mC f p with⟨rfl,rfl⟩| ⟨k,rfl⟩
  ·cases hi with
   |none=>grind|some x=>exact f.elim
  exact dA (by omega) h3
 have w:(match vlo with|some v=>I5 v (h.toN U)|none=>some 0)=some (l.toN U):=by rcases mC j r with⟨rfl,rfl⟩| ⟨k,rfl⟩;grind;exact dA h1 (by grind)
 unfold A8;grind
theorem R0 {mx:SV}{g:Av}(p:OVD P U τ F lo vlo)(f:OVD P U τ F hi vhi)(q:VD P U τ F mx g){l h m dl r w:E}(B:Q4 lo dl=some l)(z:Q4 hi r=some h)(D:Q4 (some mx) w=some m){len j:Nat}(h1:0<=l.toI U)(h2:l.toI U<=h.toI U)(h3:h.toI U<=m.toI U)(h4:m.toI U<=j)(H:dl.toI U=0)(hh:hi≠none):A8 len j vlo vhi (some g)=some (l.toN U,h.toN U,some (m.toN U)):=by
 have G:I5 g j=some (m.toN U):=by rcases mC (x:=some mx) (v:=some g) q D with⟨e,_⟩| ⟨k,e⟩;cases e;cases e;exact dA (by omega) h4
 have A:∃v,vhi=some v/\I5 v (m.toN U)=some (h.toN U):=by
  rcases mC f z with⟨rfl,rfl⟩| ⟨k,rfl⟩
  ·cases hi with
   |none=>grind|some x=>exact f.elim
  exact⟨_,rfl,dA (by omega) (by grind)⟩
 have C:(match vlo with|some v=>I5 v (h.toN U)|none=>some 0)=some (l.toN U):=by rcases mC p B with⟨rfl,rfl⟩| ⟨k,rfl⟩;grind;exact dA h1 (by grind)
 unfold A8;grind
def xI {e:E}(h:kG e=true):e.toI U=0:=by unfold kG at h;split at h;exact Sz h;cases h
def eB {a b:E}(h0:0<=b.toI U):(M3 a b).toN U=a.toN U-b.toN U:=by show((M3 a b).toI U).toNat=(a.toI U).toNat-(b.toI U).toNat;rw[y4];omega
def nD {a b:E}(h0:0<=a.toI U)(h1:0<=b.toI U):(y7 a b).toN U=a.toN U+b.toN U:=by show((y7 a b).toI U).toNat=(a.toI U).toNat+(b.toI U).toNat;rw[l9];omega
variable {b:Nat}
def VD.sl' {z i o c n a:Nat}{off len:E}{cap:Cp}(h:τ b=some (some (i,o)))(h0:0<=off.toI U)(h1:0<=len.toI U)(hc:lX U len cap c)(f:a=o+off.toN U*z)(hn:n=len.toN U):VD P U τ F (.sl b z off len cap) (.slice (some ⟨i,a,none⟩) n c):=by subst f;subst hn;exact .sl b z off len cap i o c h h0 h1 hc
def TW:type_of% @VD.sl':=@VD.sl'
theorem fV {z i o:Nat}{off l h c:E}(f:τ b=some (some (i,o)))(h0:0<=off.toI U)(h1:0<=l.toI U)(h2:l.toI U<=h.toI U)(h3:h.toI U<=c.toI U)(p:c.toN U<unk){a:Nat}(j:a=o+off.toN U*z):OKp U (wZ U b z off l h c) s fun x=>VD P U τ F x (bif Nat.beq (c.toN U) (l.toN U)then .slice (some ⟨i,a,none⟩) (h.toN U-l.toN U) (c.toN U-l.toN U)else .slice (some ⟨i,a+l.toN U*z,none⟩) (h.toN U-l.toN U) (c.toN U-l.toN U)):=by
 subst j;unfold wZ;have g:lX U (M3 h l) (.ex (M3 c l)) (c.toN U-l.toN U):=by refine⟨by rw[y4];omega,by rw[eB h1],by omega,?_⟩;rw[y4,y4];omega
 cases hz:kG l with
 |true=>
  have hl:=xI (U:=U) hz;have m:l.toN U=0:=by grind
  refine TC ?_;have hv:VD P U τ F (.sl b z off h (.ex c)) (.slice (some ⟨i,o+off.toN U*z,none⟩) (h.toN U-0) (c.toN U-0)):=TW f h0 (by omega) ⟨by omega,by omega,by omega,h3⟩ rfl (by omega);grind
 |false=>
  simp only[Rb];refine OKp.test.bind fun t _ _ _ ht=>?_;rw[E2]at ht;cases t with
  |true=>simp at ht;refine TC ?_;rw[v9 (by grind),Ra];exact TW f h0 (by rw[y4];omega) g rfl (by rw[eB h1])|false=>simp at ht;refine TC ?_;rw[z6 (by grind),Rb];exact TW f (by rw[l9];omega) (by rw[y4];omega) g (by rw[nD h0 h1,Rv];omega) (by rw[eB h1])
theorem xA {z:Nat}{off l h c:E}(f:τ b=some none)(h0:off.toI U=0)(h1:0<=l.toI U)(h2:l.toI U<=h.toI U)(h3:h.toI U<=c.toI U)(h4:c.toI U<=0):OKp U (wZ U b z off l h c) s fun x=>VD P U τ F x (.slice none 0 0):=by
 unfold wZ;cases hz:kG l with
 |true=>exact TC (.sl0 b z off h (.ex c) f h0 (by omega) (by grind))|false=>
  simp only[Rb];refine OKp.test.bind fun t _ _ _ ht=>?_;have hs:(M3 h l).toI U=0:=by rw[y4];omega
  have hc:∀e,Cp.ex (M3 c l)= .ex e->e.toI U=0:=fun e he=>by cases he;rw[y4];omega
  cases t with
  |true=>exact TC (.sl0 b z off _ _ f h0 hs hc)|false=>exact TC (.sl0 b z _ _ _ f (by rw[l9];omega) hs hc)
end
section
variable {P :Aw}{U:Ab}{τ:Tau}{F:Ac}{s:SS}{hp:Hp}
variable {n:Nat}
def rO (h:n<=67108864):n<unk:=by unfold unk;omega
variable {a:Nat}
theorem aS {b:Nat}(h:b<a):Nat.ble a b=false:=by
 cases hb:Nat.ble a b with
 |false=>rfl|true=>simp_all;omega
def rY (lo:Nat):P1 (d9 lo 0)=lo:=J1 G8
def Cu (lo:Nat):E8 (d9 lo 0)=0:=H5 G8
def Fp (e l h:E):((Fo e l h).den U).toStr=((e.den U).toStr.take (h.toN U)).drop (l.toN U):=by unfold Fo;split<;>rfl
variable (P U) in
def GJ (hp:Hp)(t:Ax)(v:Av)(lo hi mx:Ag)(c:SV)(τ:Tau)(F:Ac)(hp':Hp):Prop:=hp'=hp/\ ∃w,y5 P hp t v lo hi mx=some (w,hp)/\VD P U τ F c w
variable {v:Av}{lo mx:Ag}
def OKp.slice {m:M SV}{t:Ax}{hi:Ag}(h:OKp U m s fun c=>∃w,y5 P hp t v lo hi mx=some (w,hp)/\VD P U τ F c w):OKh P U m τ F s hp (GJ P U hp t v lo hi mx):=
 (h.up).mono fun _ _ _ _ _ _ ⟨f,g,j,h⟩=>by subst f;subst g;subst j;exact⟨rfl,h⟩
def TE:type_of% @OKp.slice:=@OKp.slice
variable {h i l:Nat}{hi':Ag}
theorem dE {t e:Ax}{ie:Ba}(ht:P.underlying t=some (.slice e))(hi:P.info? e=some ie){len cap:Nat}(f:cap<unk)(hl:len<=cap){m:Ai}(hb:A8 len cap lo hi' mx=some (l,h,m)):y5 P hp t (.slice (some ⟨i,a,none⟩) len cap) lo hi' mx=some (bif Nat.beq (m.getD cap) l then .slice (some ⟨i,a,none⟩) (h-l) (m.getD cap-l)else .slice (some ⟨i,a+l*ie.size,none⟩) (h-l) (m.getD cap-l),hp):=by simp only[y5,ht,hi];rw[aS f,Rb,QQ hl,Ra,hb];grind
theorem lI {t e:Ax}{ie:Ba}(ht:P.underlying t=some (.slice e))(hi:P.info? e=some ie){len f:Nat}(g:f<=67108864)(hl:len<=67108864){m:Nat}(hb:A8 len (Nat.max f len) lo hi' mx=some (l,h,some m)):y5 P hp t (.slice (some ⟨i,a,none⟩) len (d9 f 0)) lo hi' mx=some (bif Nat.beq m l then .slice (some ⟨i,a,none⟩) (h-l) (m-l)else .slice (some ⟨i,a+l*ie.size,none⟩) (h-l) (m-l),hp):=by simp only[y5,ht,hi];rw[QQ (u7 f 0),Ra,rY,QQ (Nat.max_le.2 ⟨g,hl⟩),Ra,hb];grind
def eO {t e:Ax}{ie:Ba}(ht:P.underlying t=some (.slice e))(hi:P.info? e=some ie){len f:Nat}(g:f<=67108864)(hl:len<=67108864)(hb:A8 len (Nat.max f len) lo hi' none=some (l,h,none)):y5 P hp t (.slice (some ⟨i,a,none⟩) len (d9 f 0)) lo hi' none=bif Nat.beq l 0 then some (.slice (some ⟨i,a,none⟩) h (d9 (Nat.max f len) 0),hp)else bif Nat.beq l (Nat.max f len)then some (.slice (some ⟨0,0,some 0⟩) 0 unk,hp)else match hp.m.get i with
    |some (.cells _ _ _ j)=>bif Nat.beq j ie.size then some (.slice (some ⟨i,a+l*ie.size,none⟩) (h-l) (d9 (Nat.max f len-l) (0-l)),hp)else none|_=>none:=by
 simp only[y5,ht,hi];rw[QQ (u7 f 0),Ra,rY,Cu,QQ (Nat.max_le.2 ⟨g,hl⟩),Ra,hb];rfl
theorem L1 {t e:Ax}{ie:Ba}(ht:P.underlying t=some (.slice e))(hi:P.info? e=some ie){r:Nat×Nat×Ai}(hb:A8 0 0 lo hi' mx=some r):y5 P hp t (.slice none 0 0) lo hi' mx=some (.slice none 0 0,hp):=by simp only[y5,ht,hi];simp_all
def BV {t e:Ax}{ie:Ba}(ht:P.underlying t=some (.slice e))(hi:P.info? e=some ie)(hb:A8 0 0 lo hi' none=some (l,h,none)):y5 P hp t (.slice (some ⟨0,0,some 0⟩) 0 unk) lo hi' none=some (.slice (some ⟨0,0,some 0⟩) 0 unk,hp):=by simp only[y5,ht,hi];rw[hb]
def cN {b:Nat}(h:a<=n)(k:b<=n):Nat.max a b<=n:=Nat.max_le.2 ⟨h,k⟩
def Z9 (a b:Nat):b<=Nat.max a b:=Sm a b
variable {cs:Ao}
theorem PV.cut {e c z zb:Nat}{b:Blk}{rows:Rows}{x:Nat->Nat->Av}(hF:F i=some b)(hb:arr b=some (cs,n,zb))(hn:a+rows.length*z<=n)(hz:z=(kf P e).length)(hr:∀r∈rows,r.length=z)(hx:∀(r k:Nat) (row:Ar) (d:Dat),rows[r]? =some row->row[k]? =some d->cs.get (a+r*z+k)=some (x r k))(hp:∀(r k:Nat) (row:Ar) (kd:Kd) (d:Dat),rows[r]? =some row->row[k]? =some d->(kf P e)[k]? =some kd->PV P F kd (x r k) d){l len:Int}(h0:0<=l)(h1:0<=len)(h2:l+len<=rows.length)(hc:wW len.toNat c/\roC b c zb z):PV P F (.sl e) (.slice (some ⟨i,a+l.toNat*z,none⟩) len.toNat c) (.lst (pQ rows l len)):=by
 have hl:=U9 h0 h1 h2;have:=PV.sl e i (a+l.toNat*z) c b cs n z (pQ rows l len) (fun r k=>x (l.toNat+r) k) hF hb (by grind)
  (by rw [hl]
      have:l.toNat*z+len.toNat*z<=rows.length*z:=by rw[<-Rv];exact QW z (by omega)
      omega) hz (fun r h=>hr r (SI (SH h)))
  (fun r k row d h1 h2=>by rw[<-hx _ k row d (gL h1) h2];congr 1;rw[Rv];omega) (fun r k row kd d h1 h2 h3=>hp _ k row kd d (gL h1) h2 h3)
 grind
theorem PV.cut0 {e c z zb:Nat}{b:Blk}(hF:F i=some b)(hb:arr b=some (cs,n,zb))(hn:a<=n)(hz:z=(kf P e).length)(hc:wW 0 c/\roC b c zb z):PV P F (.sl e) (.slice (some ⟨i,a,none⟩) 0 c) (.lst []):=
 PV.sl e i a c b cs n z [] (fun _ _=>undef) hF hb hc (by grind) hz (fun r h=>by grind) (by grind) (by grind)
theorem P2 {rows:Rows}{l len:Int}(h:len<=0):pQ rows l len=[]:=by unfold pQ;simp_all
variable {hi:Bb SV}{vhi vlo:Ag}
theorem IQ {t e:Ax}{ie:Ba}(ht:P.underlying t=some (.slice e))(r:P.info? e=some ie)(J:ie.size=(kf P e).length)(H:∀i b,F i=some b->hp.m.get i=some b){rows:Rows}(hv:PV P F (.sl e) v (.lst rows)){lo:Bb SV}(B:OVD P U τ F lo vlo)(q:OVD P U τ F hi vhi){l h S:E}(L:Q4 lo (.int 0)=some l)(D:Q4 hi S=some h)(ac:S.toI U=rows.length)(h1:0<=l.toI U)(h2:l.toI U<=h.toI U)(h3:h.toI U<=rows.length):∃w,y5 P hp t v vlo vhi none=some (w,hp)/\PV P F (.sl e) w (.lst (pQ rows (l.toI U) (h.toI U-l.toI U)))/\((∃a n,v= .slice a n n)->hi=none-> ∃a n,w= .slice a n n):=by
 have A:hi=none->h.toN U=rows.length:=fun hn=>by subst hn;simp only[Q4,QI]at D;grind
 have ab:l.toI U=((l.toN U:Nat):Int):=by grind
 have aa:h.toI U=((h.toN U:Nat):Int):=by grind
 have T:(h.toI U-l.toI U).toNat=h.toN U-l.toN U:=by omega
 cases hv with
 |nils=>simp only[Tc]at h3;refine⟨.slice none 0 0,L1 ht r (H8 B q L D h1 h2 h3 rfl A),?_,fun _ _=>⟨_,_,rfl⟩⟩;rw[P2 (by omega)];exact .nils e|vague=>simp only[Tc]at h3;refine⟨_,BV ht r (H8 B q L D h1 h2 h3 rfl A),?_,fun⟨a,n,e⟩ _=>?_⟩;rw[P2 (by omega)];exact .vague e;cases e
 |sl _ i o c b cs n z _ x hF hb hc hn hz hr hx hp'=>
  have hg:=H i b hF;obtain⟨hc,p⟩:=hc;rcases hc with⟨X,K⟩| ⟨j,rfl,K,R⟩;have f:=dE (hp:=hp) (i:=i) (a:=o) ht r X K (H8 B q L D h1 h2 (by omega) rfl A);simp only[Option.getD_none]at f;refine⟨_,f,?_,fun⟨a,m,M⟩ ad=>?_⟩;by_cases G:c=l.toN U;rw[v9 G,Ra,P2 (by omega),show h.toN U-l.toN U=0 by omega];exact PV.cut0 hF hb (by omega) hz ⟨.inl ⟨by omega,by omega⟩,fun _=>by omega,p.2⟩;rw[z6 G,Rb,<-T,J,<-hz];exact PV.cut (l:=l.toI U) hF hb hn hz hr hx hp' h1 (by omega) (by omega) ⟨.inl ⟨by omega,by omega⟩,fun _=>by omega,p.2⟩;grind
  ·have Q:bI b=false:=by
    cases h:bI b with
    |false=>rfl|true=>have h1:=p.1 h;have h2:=u7 j 0;omega
   have V:=Z9 j rows.length;have O:=cN K R;have f:=eO (hp:=hp) (i:=i) (a:=o) ht r K R (H8 B q L D h1 h2 (show h.toI U<=((Nat.max j rows.length:Nat):Int) by omega) rfl A);have g:(∃a n,Value.slice (some ⟨i,o,none⟩) rows.length (d9 j 0)= .slice a n n)->False:=fun⟨a,m,M⟩=>by have hge:=u7 j 0;simp only[Value.slice.injEq]at M;obtain⟨_,Z,e3⟩:=M;unfold unk at hge;omega
   by_cases C:l.toN U=0;rw[v9 C,Ra]at f;refine⟨_,f,?_,fun h _=>(g h).elim⟩;have:=PV.cut hF hb hn hz hr hx hp' h1 (show 0<=h.toI U-l.toI U by omega) (by omega) ⟨.inr ⟨_,rfl,O,by omega⟩,fun h=>(by grind),p.2⟩;grind
   ·by_cases I:l.toN U=Nat.max j rows.length;rw[z6 C,Rb,v9 I,Ra]at f;refine⟨_,f,?_,fun h _=>(g h).elim⟩;rw[P2 (by omega)];exact .vague e
    ·rw[z6 C,Rb,z6 I,Rb,hg]at f;cases b with
     |cells Y n2 Z W=>simp only[arr,rdC,QI,QK]at hb;obtain⟨rfl,rfl,rfl⟩:=hb;have N:W=z:=p.2 rfl;subst N;simp only[v9 (show W=ie.size by omega),Ra,Nat.zero_sub]at f;refine⟨_,f,?_,fun h _=>(g h).elim⟩;rw[<-T,J,<-hz];exact PV.cut (l:=l.toI U) hF rfl hn hz hr hx hp' h1 (by omega) (by omega) ⟨.inr ⟨_,rfl,by omega,by omega⟩,.mk⟩
     |ro=>cases Q
     |_=>simp[arr,rdC]at hb
theorem IR {t e:Ax}{ie:Ba}(ht:P.underlying t=some (.slice e))(g:P.info? e=some ie)(I:ie.size=(kf P e).length){rows:Rows}(hv:PV P F (.sl e) v (.lst rows))(H:rows≠ []\/ ∃a n,v= .slice a n n){lo:Bb SV}{mx:SV}{M:Av}(j:OVD P U τ F lo vlo)(f:OVD P U τ F hi vhi)(p:VD P U τ F mx M){l h m Q R:E}(C:Q4 lo (.int 0)=some l)(B:Q4 hi Q=some h)(D:Q4 (some mx) R=some m)(hh:hi≠none)(h1:0<=l.toI U)(h2:l.toI U<=h.toI U)(h3:h.toI U<=m.toI U)(h4:m.toI U<=rows.length):∃w,y5 P hp t v vlo vhi (some M)=some (w,hp)/\PV P F (.sl e) w (.lst (pQ rows (l.toI U) (h.toI U-l.toI U)))/\(h.toI U=m.toI U-> ∃a n,w= .slice a n n):=by
 have V:l.toI U=((l.toN U:Nat):Int):=by grind
 have T:h.toI U=((h.toN U:Nat):Int):=by grind
 have W:m.toI U=((m.toN U:Nat):Int):=by grind
 have S:(h.toI U-l.toI U).toNat=h.toN U-l.toN U:=by omega
 have G:∀ {i o:Nat},h.toI U=m.toI U-> ∃a n,(bif Nat.beq (m.toN U) (l.toN U)then Value.slice (some ⟨i,o,none⟩) (h.toN U-l.toN U) (m.toN U-l.toN U)else .slice (some ⟨i,o+l.toN U*ie.size,none⟩) (h.toN U-l.toN U) (m.toN U-l.toN U))= .slice a n n:=by
  intro i o Y;have:h.toN U=m.toN U:=by omega
  rw[this];cases Nat.beq (m.toN U) (l.toN U)<;>exact⟨_,_,rfl⟩
 cases hv with
 |nils=>simp only[Tc]at h4;refine⟨.slice none 0 0,L1 ht g (R0 j f p C B D h1 h2 h3 h4 rfl hh),?_,fun _=>⟨_,_,rfl⟩⟩;rw[P2 (by omega)];exact .nils e|vague=>rcases H with h| ⟨a,n,e⟩;grind;cases e
 |sl _ i o c b cs n z _ x hF hb hc hn hz hr hx hp'=>
  obtain⟨hc,r⟩:=hc;have J:PV P F (.sl e) (bif Nat.beq (m.toN U) (l.toN U)then Value.slice (some ⟨i,o,none⟩) (h.toN U-l.toN U) (m.toN U-l.toN U)else .slice (some ⟨i,o+l.toN U*ie.size,none⟩) (h.toN U-l.toN U) (m.toN U-l.toN U)) (.lst (pQ rows (l.toI U) (h.toI U-l.toI U)))\/ ¬m.toN U<unk:=by by_cases Z:m.toN U<unk;left;by_cases q:m.toN U=l.toN U;rw[v9 q,Ra,P2 (by omega),show h.toN U-l.toN U=0 by omega];exact PV.cut0 hF hb (by omega) hz ⟨.inl ⟨by omega,by omega⟩,fun _=>by omega,r.2⟩;rw[z6 q,Rb,<-S,I,<-hz];exact PV.cut (l:=l.toI U) hF hb hn hz hr hx hp' h1 (by omega) (by omega) ⟨.inl ⟨by omega,by omega⟩,fun _=>by omega,r.2⟩;grind
  rcases hc with⟨N,A⟩| ⟨K,rfl,A,O⟩;have X:=dE (hp:=hp) (i:=i) (a:=o) ht g N A (R0 j f p C B D h1 h2 h3 (by omega) rfl hh);grind;have L:=Z9 K rows.length;exact⟨_,(lI (hp:=hp) (i:=i) (a:=o) ht g A O (R0 j f p C B D h1 h2 h3 (by omega) rfl hh)),J.resolve_right (fun h=>h (rO (by omega))),G⟩
def Jm {t:Ax}{a:SV}{lo mx:Bb SV}{I:Ag}(V:VD P U τ F a v)(p:OVD P U τ F lo vlo)(j:OVD P U τ F hi vhi)(B:OVD P U τ F mx I)(hs:SD P U τ F s hp):OKh P U (Gh P U t a lo hi mx) τ F s hp (GJ P U hp t v vlo vhi I):=by
 unfold Gh;split
 ·
  rename_i ht;split
  ·rename_i e;cases I with
   |some v=>exact B.elim|none=>split;rename_i l h D q;refine TE (K4.bind fun _ _ _ _ hb=>TC ?_);obtain⟨h1,h2,h3⟩:=hb;rw[O7]at h3;cases V;refine⟨.string ⟨(((e.den U).toStr.take (h.toN U)).drop (l.toN U)).toArray⟩,?_,VD.str' (Fp e l h)⟩;simp only[y5,ht];rw[H8 p j D q h1 h2 h3 rfl (fun hn=>by subst hn;simp only[Q4,QI]at q;subst q;show((bK e).toI U).toNat=_;rw[O7];omega)];exact Tu
  exact Tu
 ·rename_i e ht;split;exact Tu
  ·rename_i ie r;split
   ·
    cases V;split
    ·rename_i l h D q;cases I with
     |some v=>exact B.elim|none=>refine TE (K4.bind fun _ _ _ _ hb=>TC ⟨.slice none 0 0,?_,.nils⟩);obtain⟨h1,h2,h3⟩:=hb;refine L1 ht r (H8 p j D q h1 h2 h3 rfl (fun hn=>?_));subst hn;simp only[Q4,QI]at q;subst q;rfl
    ·rename_i l h m' D q;cases I with
     |none=>exact B.elim|some vm=>split;rename_i m x T;refine TE (K4.bind fun _ _ _ _ hb=>OKp.need.bind fun _ _ _ _ hm=>TC ⟨.slice none 0 0,?_,.nils⟩);obtain⟨h1,h2,h3⟩:=hb;have hm:=A0 hm;exact L1 ht r (R0 p j B D q T h1 h2 h3 hm rfl (by simp));exact Tu
    exact Tu
   ·
    rename_i b z off len cap;cases hz:Nat.beq z ie.size with
    |false=>exact Tu|true=>
     simp only[Ra];have H:z=ie.size:=QN hz;split
     ·rename_i l h D q;cases I with
      |some v=>exact B.elim|none=>
       split
       ·
        rename_i c;refine Ts K4 fun _ s1 _ hs1 hb=>TE ?_;obtain⟨h1,h2,h3⟩:=hb;cases V with
        |sl _ _ _ _ _ i o c' f h0 G hc=>
         obtain⟨J,S,X,c4⟩:=hc;subst S;refine(fV f h0 h1 h2 h3 X rfl).mono fun x hx=>⟨_,?_,hx⟩
         rw[dE ht r X (show len.toN U<=c.toN U by show(len.toI U).toNat<=(c.toI U).toNat;omega)
          (H8 p j D q h1 h2 (show h.toI U<=((c.toN U:Nat):Int) by show h.toI U<=(((c.toI U).toNat:Nat):Int);omega) rfl (fun hn=>by subst hn;simp only[Q4,QI]at q;subst q;rfl))]
         subst H;rfl
        |sl0 _ _ _ _ _ f h0 G hc=>
         have hc:=hc c rfl;refine(xA f h0 h1 h2 h3 (by omega)).mono fun x hx=>⟨_,?_,hx⟩
         refine L1 ht r (H8 p j D q h1 h2 (by omega) rfl (fun hn=>?_));subst hn;simp only[Q4,QI]at q;subst q;show(len.toI U).toNat=0;omega
       ·
        refine Ts K4 fun _ s1 o1 hs1 hb=>?_;obtain⟨h1,h2,h3⟩:=hb;have M:hi=none->h.toN U=len.toN U:=fun hn=>by subst hn;simp only[Q4,QI]at q;subst q;rfl
        unfold OO;cases ax:kG l with
        |true=>
         have hl:=xI (U:=U) ax;have ap:l.toN U=0:=by show(l.toI U).toNat=0;rw[hl];rfl
         refine TE (TC ?_);cases V with
         |sl _ _ _ _ _ i o c' f h0 G hc=>
          obtain⟨g,rfl,J,S⟩:=hc;have A:len.toN U<=67108864:=by show(len.toI U).toNat<=_;omega
          have W:=cN J A;have hb:=H8 p j D q h1 h2 (show h.toI U<=((Nat.max g (len.toN U):Nat):Int) by
           have:=Z9 g (len.toN U);have e1:len.toI U=((len.toN U:Nat):Int):=by show len.toI U=((len.toI U).toNat:Int);omega
           omega) rfl M
          refine⟨_,by rw[eO ht r J A hb,ap,v9 rfl,Ra],?_⟩;exact TW f h0 (by omega) ⟨Nat.max g (len.toN U),rfl,by omega,by omega⟩ rfl rfl
         |sl0 _ _ _ _ _ f h0 G hc=>refine⟨.slice none 0 0,L1 ht r (H8 p j D q h1 h2 (by omega) rfl (fun hn=>by rw[M hn];show(len.toI U).toNat=0;omega)),?_⟩;exact .sl0 b z off h .ge f h0 (by omega) (fun e he=>by cases he)
        |false=>
         simp only[Rb];refine Ts TF fun tt s2 o2 ac Q=>Tv ?_;rw[F8]at Q;split
         ·rename_i L e' z' ph hb;cases hq:Nat.beq e e'&&Nat.beq z z' with
          |false=>exact Tu|true=>
           simp only[Ra];simp only[QJ,Rz]at hq;obtain⟨rfl,rfl⟩:=hq;rcases ac.live b _ hb with⟨i,o,y,k1,k2,kF,cs,n,rfl,k4,k5⟩| ⟨k1,L',e',z',ay,k2,k3,k4,k5⟩
           ·cases V with
            |sl _ _ _ _ _ i' o' c' f h0 G hc=>
             rw[k1]at f;simp only[QI,QK]at f;obtain⟨rfl,rfl⟩:=f;obtain⟨g,rfl,J,S⟩:=hc;have A:len.toN U<=67108864:=by show(len.toI U).toNat<=_;omega
             have e1:len.toI U=((len.toN U:Nat):Int):=by show len.toI U=((len.toI U).toNat:Int);omega
             have ah:l.toI U=((l.toN U:Nat):Int):=by show l.toI U=((l.toI U).toNat:Int);omega
             have N:=Z9 g (len.toN U);have W:=cN J A;have Y:=H8 p j D q h1 h2 (show h.toI U<=((Nat.max g (len.toN U):Nat):Int) by omega) rfl M;have hx:=eO (hp:=hp) (i:=i) (a:=o+off.toN U*z) ht r J A Y;cases tt with
             |true=>simp only[Ra];simp only[Rg]at Q;refine TE (TC ?_);by_cases C:l.toN U=0;rw[v9 C,Ra]at hx;refine⟨_,hx,TW k1 (by rw[l9];omega) (by rw[y4];omega) ⟨Nat.max g (len.toN U),rfl,by omega,by rw[y4];omega⟩ ?_ ?_⟩;rw[nD h0 h1,C];simp;rw[eB h1,C];simp;rw[z6 C,Rb,z6 (by omega),Rb,k2]at hx;simp only[v9 H,Ra,Nat.zero_sub]at hx;refine⟨_,hx,TW k1 (by rw[l9];omega) (by rw[y4];omega) ⟨Nat.max g (len.toN U)-l.toN U,rfl,by omega,by rw[y4];omega⟩ ?_ ?_⟩;rw[nD h0 h1,Rv,H];omega;rw[eB h1]|false=>
              simp only[Rb];simp only[RJ]at Q;refine Ts Ty fun _ s3 o3 av p1=>?_;have p1:=A0 p1;rw[l9,j8]at p1;have aj:s3.get b=some (.rows L e z ph):=by rw[o3.get];exact hb
              refine(OKh.freeze aj k1 k2).bind fun _ τ2 F2 s4 hp2 ex aw ⟨f1,f2,f3⟩=>?_;subst f1;subst f2;refine Tw ⟨rfl,?_⟩;have az:l.toN U=len.toN U:=by omega
              have ao:h.toN U-l.toN U=0:=by
               have:h.toI U=l.toI U:=by omega
               show(h.toI U).toNat-(l.toI U).toNat=0;rw[this];omega
              have ai:o+off.toN U*z+l.toN U*z<=n:=by
               have g1:=k4.1;have:off.toN U*z+l.toN U*z<=(L.toR U).length*z:=by rw[<-Rv];exact QW z (by show(off.toI U).toNat+l.toN U<=_;omega)
               omega
              have O:(E.op .nil []).toR U=[]:=rfl;by_cases C:l.toN U=0
              ·rw[v9 C,Ra]at hx;have an:h.toN U=0:=by omega
               rw[an]at hx;refine⟨_,hx,.lst e _ false _ ?_ (fun h=>by cases h)⟩;rw[O];exact PV.cut0 f3 rfl (by omega) k4.2.1 ⟨.inr ⟨_,rfl,by omega,by omega⟩,.mk⟩
              by_cases ad:l.toN U=Nat.max g (len.toN U);rw[z6 C,Rb,v9 ad,Ra]at hx;refine⟨_,hx,.lst e _ false _ ?_ (fun h=>by cases h)⟩;rw[O];exact .vague e;rw[z6 C,Rb,z6 ad,Rb,k2]at hx;simp only[v9 H,Ra,Nat.zero_sub,ao]at hx;refine⟨_,hx,.lst e _ false _ ?_ (fun h=>by cases h)⟩;rw[O,<-H];exact PV.cut0 f3 rfl ai k4.2.1 ⟨.inr ⟨_,rfl,by omega,by omega⟩,.mk⟩
            |sl0 _ _ _ _ _ f h0 G hc=>rw[k1]at f;cases f
           ·cases V with
            |sl _ _ _ _ _ i' o' c' f h0 G hc=>rw[k1]at f;cases f
            |sl0 _ _ _ _ _ f h0 G hc=>
             have hx:y5 P hp t (.slice none 0 0) vlo vhi none=some (.slice none 0 0,hp):=L1 ht r (H8 p j D q h1 h2 (by omega) rfl (fun hn=>by rw[M hn];show(len.toI U).toNat=0;omega));cases tt with
             |true=>simp only[Rg]at Q;omega|false=>simp only[Rb];refine Ts Ty fun _ s3 o3 av p1=>?_;refine OKh.drop.bind fun _ τ2 F2 s4 hp2 ex aw ⟨f1,f2,f3⟩=>?_;subst f1;subst f2;subst f3;exact Tw ⟨rfl,_,hx,.lst e _ false _ (.nils e) (fun h=>by cases h)⟩
         ·rename_i cl e' z' hb;cases hq:Nat.beq e e'&&Nat.beq z z'&&tt with
          |false=>exact Tu|true=>
           simp only[Ra];simp only[QJ,Rz]at hq;obtain⟨⟨rfl,rfl⟩,rfl⟩:=hq;simp only[Rg]at Q;rcases ac.live b _ hb with⟨i,o,y,k1,k2,kF,cs,n,rfl,k4,k5⟩| ⟨k1,L',e',z',ay,k2,k3,k4,k5⟩
           ·cases V with
            |sl _ _ _ _ _ i' o' c' f h0 G hc=>
             rw[k1]at f;simp only[QI,QK]at f;obtain⟨rfl,rfl⟩:=f;obtain⟨g,rfl,J,S⟩:=hc;have A:len.toN U<=67108864:=by show(len.toI U).toNat<=_;omega
             have e1:len.toI U=((len.toN U:Nat):Int):=by show len.toI U=((len.toI U).toNat:Int);omega
             have ah:l.toI U=((l.toN U:Nat):Int):=by show l.toI U=((l.toI U).toNat:Int);omega
             have N:=Z9 g (len.toN U);have W:=cN J A;have Y:=H8 p j D q h1 h2 (show h.toI U<=((Nat.max g (len.toN U):Nat):Int) by omega) rfl M;have hx:=eO (hp:=hp) (i:=i) (a:=o+off.toN U*z) ht r J A Y;refine TE (TC ?_);by_cases C:l.toN U=0;rw[v9 C,Ra]at hx;refine⟨_,hx,TW k1 (by rw[l9];omega) (by rw[y4];omega) ⟨Nat.max g (len.toN U),rfl,by omega,by rw[y4];omega⟩ ?_ ?_⟩;rw[nD h0 h1,C];simp;rw[eB h1,C];simp;rw[z6 C,Rb,z6 (by omega),Rb,k2]at hx;simp only[v9 H,Ra,Nat.zero_sub]at hx;refine⟨_,hx,TW k1 (by rw[l9];omega) (by rw[y4];omega) ⟨Nat.max g (len.toN U)-l.toN U,rfl,by omega,by rw[y4];omega⟩ ?_ ?_⟩;rw[nD h0 h1,Rv,H];omega;rw[eB h1]
            |sl0 _ _ _ _ _ f h0 G hc=>rw[k1]at f;cases f
           cases k2
         exact Tu
       exact Tu
     ·rename_i l h m' D q;cases I with
      |none=>exact B.elim|some vm=>
       split
       ·rename_i m x T;refine Ts K4 fun _ s1 _ hs1 hb=>Ts Ty fun _ s2 _ ac hm=>TE ?_;obtain⟨h1,h2,h3⟩:=hb;have hm:=A0 hm;cases V with
        |sl _ _ _ _ _ i o c' f h0 G hc=>
         cases cap with
         |ex c=>
          obtain⟨J,S,X,c4⟩:=hc;subst S;have ab:m.toI U<=((c.toN U:Nat):Int):=by have:m.toI U<=c.toI U:=hm;show m.toI U<=(((c.toI U).toNat:Nat):Int);omega
          have K:m.toN U<unk:=by show(m.toI U).toNat<unk;have:c.toN U<unk:=X;omega
          refine(fV f h0 h1 h2 h3 K rfl).mono fun x hx=>⟨_,?_,hx⟩
          rw[dE ht r X (show len.toN U<=c.toN U by show(len.toI U).toNat<=(c.toI U).toNat;omega) (R0 p j B D q T h1 h2 h3 ab rfl (by simp))];subst H;rfl
         |ge=>
          obtain⟨g,rfl,J,S⟩:=hc;have hm:m.toI U<=len.toI U:=hm;have A:len.toN U<=67108864:=by show(len.toI U).toNat<=_;omega
          have e1:len.toI U=((len.toN U:Nat):Int):=by show len.toI U=((len.toI U).toNat:Int);omega
          have N:=Z9 g (len.toN U);have W:=cN J A;have K:m.toN U<unk:=rO (by show(m.toI U).toNat<=_;omega);refine(fV f h0 h1 h2 h3 K rfl).mono fun x hx=>⟨_,?_,hx⟩
          rw[lI ht r J A (R0 p j B D q T h1 h2 h3 (by omega) rfl (by simp))];subst H;rfl
         |un=>
          have hm:m.toI U<=len.toI U:=hm;rcases hc with⟨X,rfl,S⟩| ⟨g,rfl,J,S⟩
          ·have ab:m.toI U<=((len.toN U:Nat):Int):=by show m.toI U<=(((len.toI U).toNat:Nat):Int);omega
           have K:m.toN U<unk:=by show(m.toI U).toNat<unk;have:(len.toI U).toNat<unk:=X;omega
           refine(fV f h0 h1 h2 h3 K rfl).mono fun x hx=>⟨_,?_,hx⟩
           rw[dE ht r X (Ri _) (R0 p j B D q T h1 h2 h3 ab rfl (by simp))];subst H;rfl
          ·have A:len.toN U<=67108864:=by show(len.toI U).toNat<=_;omega
           have e1:len.toI U=((len.toN U:Nat):Int):=by show len.toI U=((len.toI U).toNat:Int);omega
           have N:=Z9 g (len.toN U);have W:=cN J A;have K:m.toN U<unk:=rO (by show(m.toI U).toNat<=_;omega);refine(fV f h0 h1 h2 h3 K rfl).mono fun x hx=>⟨_,?_,hx⟩
           rw[lI ht r J A (R0 p j B D q T h1 h2 h3 (by omega) rfl (by simp))];subst H;rfl
        |sl0 _ _ _ _ _ f h0 G hc=>
         have aq:m.toI U<=0:=by
          cases cap with
          |ex c=>have:=hc c rfl;have hm:m.toI U<=c.toI U:=hm;omega|ge=>have hm:m.toI U<=len.toI U:=hm;omega|un=>have hm:m.toI U<=len.toI U:=hm;omega
         exact(xA f h0 h1 h2 h3 aq).mono fun x hx=>⟨_,L1 ht r (R0 p j B D q T h1 h2 h3 (by omega) rfl (by simp)),hx⟩
       exact Tu
     exact Tu
   ·
    rename_i e' L clip;cases hq:Nat.beq e e'&&Nat.beq ie.size (kf P e).length with
    |false=>exact Tu|true=>
     simp only [Ra];simp only [QJ, Rz] at hq;obtain ⟨rfl,ae⟩:=hq;cases V with
     |lst _ _ _ _ hv hc=>
      split
      ·rename_i l h D q;cases I with
       |some v=>exact B.elim|none=>
        refine TE (K4.bind fun _ _ _ _ hb=>C2.bind fun c _ _ _ Z=>TC ?_);obtain⟨h1,h2,h3⟩:=hb;rw[j8]at h3;obtain⟨w,w1,w2,w3⟩:=IQ (hp:=hp) ht r ae hs.frz hv p j D q (j8 L) h1 h2 h3;refine⟨w,w1,.lst e c _ w ?_ (fun aa=>?_)⟩
        ·have:c.toR U=pQ (L.toR U) (l.toI U) (h.toI U-l.toI U):=by show(c.den U).rows=_;rw[Z,y4];rfl
         rw[this];exact w2
        simp only[QJ]at aa;exact w3 (hc aa.1) (by cases hi with|none=>rfl|some x=>simp at aa)
      ·rename_i l h m' D q;cases I with
       |none=>exact B.elim|some vm=>
        split
        ·rename_i m x T;refine TE (K4.bind fun _ _ _ _ hb=>OKp.need.bind fun _ _ _ _ hm=>?_);obtain⟨h1,h2,h3⟩:=hb;have hm:=A0 hm;rw[j8]at hm;refine OKp.bind (R:=fun _=>L.toR U≠ []\/ ∃a n,v= .slice a n n) ?_ fun _ _ _ _ au=>?_
         ·cases clip with
          |true=>exact TC (.inr (hc rfl))|false=>refine OKp.need.mono fun _ h=>.inl fun h'=>?_;have:=C7 h;rw[j8,h']at this;simp[B5]at this
         ·refine C2.bind fun c _ _ _ Z=>?_;obtain⟨w,w1,w2,w3⟩:=IR (hp:=hp) ht r ae hv au p j B D q T (by simp) h1 h2 h3 hm;have ak:c.toR U=pQ (L.toR U) (l.toI U) (h.toI U-l.toI U):=by show(c.den U).rows=_;rw[Z,y4];rfl
          rw[<-ak]at w2;cases E.like h m with
          |true=>simp only[Ra];exact OKp.need.bind fun _ _ _ _ al=>TC ⟨w,w1,.lst e c true w w2 (fun _=>w3 (aX al))⟩
          |false=>exact TC ⟨w,w1,.lst e c false w w2 (fun h=>by cases h)⟩
        exact Tu
      exact Tu
   exact Tu
 exact Tu
