/- The symbolic engine, parts 1, 2, 3, 4, 5, 6, 7, 8, 9, 10, 11, 12.
  Conditions: none. -/
import Derived.Test.YtoegfalhkackeaaGreatXm3
set_option linter.all false
namespace Go.Sx
abbrev Nd (p q:Prop):Prop:=p/\(p->q)
abbrev I64 (x:Int):Prop:=(¬x< -9223372036854775808)/\x<9223372036854775808
inductive Dat where
 |i (n:Int)
 |b (b:Bool)
 |s (s:Ae)
 |l (rows:List (List Dat))
abbrev Ar:=List Dat
abbrev Ab:=Nat ->Ar->Dat
instance : Inhabited Dat:=⟨.i 0⟩
def Dat.toInt (d:Dat):Int:=match d with| .i n=>n|_=>0
def Dat.toBool (d:Dat):Bool:=match d with| .b c=>c|_=>false
def Dat.toStr (d:Dat):Ae:=match d with| .s c=>c|_=>[]
def Dat.rows (d:Dat):List (Ar):=match d with| .l c=>c|_=>[]
abbrev a8:=List (Ar)
def z8 (L:a8)(i:Int)(j:Nat):Dat:=(L.getD i.toNat []).getD j (.i 0)
def a9 (L:a8)(i:Int)(j:Nat)(d:Dat):a8:=L.modify i.toNat (λr=>r.set j d)
def pQ (L:a8)(a n:Int):a8:=(L.drop a.toNat).take n.toNat
def over (L:a8)(a:Int)(l:a8):a8:=L.take a.toNat++l++L.drop (a.toNat+l.length)
def b8 (z:Nat):Nat->Ar->a8
 |0,_=>[]
 |n+1,l=>l.take z::b8 z n (l.drop z)
def runeAt (l:Ae)(i:Int):Int:=(Utf8.decode ⟨l.toArray⟩ i.toNat).1
def runeW (l:Ae)(i:Int):Int:=(Utf8.decode ⟨l.toArray⟩ i.toNat).2
inductive Sy where
 |add|sub|mul|tdiv|tmod
 |wrap (k:IntKind)
 |lt|eqi|eqb|eqs|lts
 |not|and|or
 |len|get (j:Nat)|upd (j:Nat)|nil|app|part|over
 |rows (n z:Nat)|rep
 |slen|sidx|sapp|ssub|srune|srw
 |castI|castB|castS|castL
 |user (n:Nat)
inductive E where
 |int (n:Int)
 |bool (c:Bool)
 |str (l:Ae)
 |var (n:Nat)
 |dat (n:Nat) (d:Dat)
 |op (o:Sy) (as:List E)
abbrev Au:=List E
instance : Inhabited E:=⟨.int 0⟩
section
variable (U :Ab)
def Sy.den (o:Sy)(as:Ar):Dat:=
 match o with
 | .add=>match as with| [a,b]=>.i (a.toInt+b.toInt)|_=>.i 0
 | .sub=>match as with| [a,b]=>.i (a.toInt-b.toInt)|_=>.i 0
 | .mul=>match as with| [a,b]=>.i (a.toInt*b.toInt)|_=>.i 0
 | .tdiv=>match as with| [a,b]=>.i (a.toInt.tdiv b.toInt)|_=>.i 0
 | .tmod=>match as with| [a,b]=>.i (a.toInt.tmod b.toInt)|_=>.i 0
 | .wrap k=>match as with| [a]=>.i (k.wrap a.toInt)|_=>.i 0
 | .lt=>match as with| [a,b]=>.b (decide (a.toInt<b.toInt))|_=>.i 0
 | .eqi=>match as with| [a,b]=>.b (decide (a.toInt=b.toInt))|_=>.i 0
 | .eqb=>match as with| [a,b]=>.b (a.toBool==b.toBool)|_=>.i 0
 | .eqs=>match as with| [a,b]=>.b (a.toStr==b.toStr)|_=>.i 0
 | .lts=>match as with| [a,b]=>.b (Op.bytesLess a.toStr b.toStr)|_=>.i 0
 | .not=>match as with| [a]=>.b (!a.toBool)|_=>.i 0
 | .and=>match as with| [a,b]=>.b (a.toBool&&b.toBool)|_=>.i 0
 | .or=>match as with| [a,b]=>.b (a.toBool||b.toBool)|_=>.i 0
 | .len=>match as with| [l]=>.i l.rows.length|_=>.i 0
 | .get j=>match as with| [l,i]=>z8 l.rows i.toInt j|_=>.i 0
 | .upd j=>match as with| [l,i,c]=>.l (a9 l.rows i.toInt j c)|_=>.i 0
 | .nil=>.l []| .app=>match as with| [l,m]=>.l (l.rows++m.rows)|_=>.i 0
 | .part=>match as with| [l,a,n]=>.l (pQ l.rows a.toInt n.toInt)|_=>.i 0
 | .over=>match as with| [l,a,m]=>.l (Sx.over l.rows a.toInt m.rows)|_=>.i 0
 | .rows n z=>.l (b8 z n as)| .rep=>match as with|n::cs=>.l (List.replicate n.toInt.toNat cs)|_=>.i 0
 | .slen=>match as with| [s]=>.i s.toStr.length|_=>.i 0
 | .sidx=>match as with| [s,i]=>.i ((s.toStr.getD i.toInt.toNat 0).toNat:Int)|_=>.i 0
 | .sapp=>match as with| [s,t]=>.s (s.toStr++t.toStr)|_=>.i 0
 | .ssub=>match as with| [s,a,b]=>.s ((s.toStr.take b.toInt.toNat).drop a.toInt.toNat)|_=>.i 0
 | .srune=>match as with| [s,i]=>.i (runeAt s.toStr i.toInt)|_=>.i 0
 | .srw=>match as with| [s,i]=>.i (runeW s.toStr i.toInt)|_=>.i 0
 | .castI=>match as with| [a]=>.i a.toInt|_=>.i 0
 | .castB=>match as with| [a]=>.b a.toBool|_=>.i 0
 | .castS=>match as with| [a]=>.s a.toStr|_=>.i 0
 | .castL=>match as with| [a]=>.l a.rows|_=>.i 0
 | .user n=>U n as
mutual
def E.den :E->Dat
 | .int n=>.i n| .bool c=>.b c| .str l=>.s l| .var _=>.i 0| .dat _ d=>d| .op o as=>o.den U (E.dens as)
def E.dens :Au->Ar
 | []=>[]
 |a::as=>a.den::E.dens as
end
def E.dens_eq :∀as:Au,E.dens U as=as.map (E.den U)
 | []=>rfl|a::as=>by simp[E.dens,E.dens_eq as]
def E.pr :E->Prop
 | .bool c=>c=true| .op .lt [a,b]=>(a.den U).toInt<(b.den U).toInt| .op .eqi [a,b]=>(a.den U).toInt=(b.den U).toInt| .op .eqs [a,b]=>(a.den U).toStr=(b.den U).toStr| .op .not [a]=>¬a.pr| .op .and [a,b]=>a.pr/\b.pr| .op .or [a,b]=>a.pr\/b.pr|e=>(e.den U).toBool=true
theorem E.pr_iff (e:E):e.pr U↔(e.den U).toBool=true:=by
 fun_induction E.pr U e with
 |case1 c=>simp[E.den,Dat.toBool]|case2 a b=>simp[E.den,E.dens,Sy.den,Dat.toBool]|case3 a b=>simp[E.den,E.dens,Sy.den,Dat.toBool]|case4 a b=>simp[E.den,E.dens,Sy.den,Dat.toBool]|case5 a j=>simp[E.den,E.dens,Sy.den,Dat.toBool,j]|case6 a b f g=>simp[E.den,E.dens,Sy.den,Dat.toBool,f,g]|case7 a b f g=>simp[E.den,E.dens,Sy.den,Dat.toBool,f,g]|case8 e _ _ _ _ _ _ _=>grind
def Va:type_of% @E.pr_iff:=@E.pr_iff
def Sy.like :Sy->Sy->Bool
 | .add,.add| .sub,.sub| .mul,.mul| .tdiv,.tdiv| .tmod,.tmod| .lt,.lt| .eqi,.eqi| .eqb,.eqb| .eqs,.eqs| .lts,.lts| .not,.not| .and,.and| .or,.or
 | .len,.len| .nil,.nil| .app,.app| .part,.part| .over,.over| .rep,.rep| .slen,.slen| .sidx,.sidx| .sapp,.sapp| .ssub,.ssub| .srune,.srune| .srw,.srw| .castI,.castI| .castB,.castB| .castS,.castS| .castL,.castL=>true
 | .wrap k,.wrap k'=>decide (k=k')| .get j,.get j'=>Nat.beq j j'| .upd j,.upd j'=>Nat.beq j j'| .user j,.user j'=>Nat.beq j j'| .rows n z,.rows n' z'=>Nat.beq n n'&&Nat.beq z z'|_,_=>false
mutual
def E.like :E->E->Bool
 | .int n,.int m=>decide (n=m)| .bool p,.bool q=>p==q| .str p,.str q=>p==q| .var n,.var m=>Nat.beq n m| .dat n _,.dat m _=>Nat.beq n m| .op o as,.op o' bs=>Sy.like o o'&&E.likes as bs|_,_=>false
def E.likes :Au->Au->Bool
 | [],[]=>true|a::as,b::bs=>E.like a b&&E.likes as bs|_,_=>false
end
inductive So where
 |i|b|s|l
 deriving DecidableEq
inductive Lab where
 |e (c:E)
 |p (name:String) (as:Au)
 |q (a b:E)
 |pt (name:String) (gs:List (List (So×E)))
 |mu (name:String) (g a b:List (So×E))
inductive Tr (α:Type) where
 |ret (a:α)
 |done
 |fail (s:String)
 |br (c:E) (t e:Tr α)
 |need (l:Lab) (p:Prop) (t:Tr α)
 |asm (l:Lab) (p:Prop) (t:Tr α)
 |both (t e:Tr α)
 |all (k:So) (n:Nat) (f:E->Tr α)
def Tr.bind {α β:Type}:Tr α->(α->Tr β)->Tr β
 | .ret a,k=>k a| .done,_=>.done| .fail s,_=>.fail s| .br c t e,k=>.br c (t.bind k) (e.bind k)| .need l p t,k=>.need l p (t.bind k)| .asm l p t,k=>.asm l p (t.bind k)| .both t e,k=>.both (t.bind k) (e.bind k)| .all o n f,k=>.all o n λe=>(f e).bind k
def Tr.vc {α:Type}:Tr α->(α->Prop)->Prop
 | .ret a,Q=>Q a| .done,_=>True| .fail _,_=>False| .br c t e,Q=>(c.pr U->t.vc Q)/\(¬c.pr U->e.vc Q)| .need _ p t,Q=>p/\(p->t.vc Q)| .asm _ p t,Q=>p->t.vc Q| .both t e,Q=>t.vc Q/\e.vc Q| .all .i n f,Q=>∀x:Int,(f (.dat n (.i x))).vc Q| .all .b n f,Q=>∀x:Bool,(f (.dat n (.b x))).vc Q| .all .s n f,Q=>∀x:Ae,(f (.dat n (.s x))).vc Q| .all .l n f,Q=>∀x:a8,(f (.dat n (.l x))).vc Q
def Tr.vc_bind {α g:Type}(t:Tr α)(k:α->Tr g)(Q:g->Prop):(t.bind k).vc U Q↔t.vc U λa=>(k a).vc U Q:=by
 induction t with
 |ret a=>exact Iff.rfl|done=>exact Iff.rfl|fail s=>exact Iff.rfl|br c t e h1 h2=>simp only[Tr.bind,Tr.vc,h1,h2]|need l p t h=>simp only[Tr.bind,Tr.vc,h]|asm l p t h=>simp only[Tr.bind,Tr.vc,h]|both t e h1 h2=>simp only[Tr.bind,Tr.vc,h1,h2]|all k n f h=>cases k<;>simp only[Tr.bind,Tr.vc,h]
def VH:type_of% @Tr.vc_bind:=@Tr.vc_bind
def Tr.vc_mono {α:Type}(t:Tr α){Q R:α->Prop}(hq:∀a,Q a->R a):t.vc U Q->t.vc U R:=by
 induction t with
 |ret a=>exact hq a|done=>exact id|fail s=>exact id|br c t e h1 h2=>exactλh=>⟨λx=>h1 (h.1 x),λx=>h2 (h.2 x)⟩
 |need l p t h=>exactλx=>⟨x.1,λy=>h (x.2 y)⟩
 |asm l p t h=>exactλx y=>h (x y)
 |both t e h1 h2=>exactλh=>⟨h1 h.1,h2 h.2⟩
 |all k n f h=>cases k<;>exactλx y=>h _ (x y)
end
open Go.Xe
inductive Cp where
 |ex (e:E)
 |ge
 |un
inductive SV where
 |any
 |int (k:IntKind) (e:E)
 |bool (e:E)
 |str (e:E)
 |nilp
 |ptr (b z:Nat) (row:E) (fld:Nat)
 |pptr (t:Ax) (L row:E) (fld:Nat)
 |rp (row:E) (fld:Nat)
 |rpq (e:E)
 |rv (L:E) (z:Nat)
 |nils
 |sl (b z:Nat) (off len:E) (cap:Cp)
 |lst (t:Ax) (L:E) (clip:Bool)
 |agg (l:List SV)
 |tup (l:List SV)
 |fn (f:Fn) (a b:List SV)
 |nilf
 |yld (ks:Ah) (vs:List SV) (g:Ay) (nt:Nat) (ps:Ah) (as bo:Code)
abbrev As:=List SV
instance : Inhabited SV:=⟨.any⟩
def lk {α:Type}:List (Nat×α)->Nat->Bb α
 | [],_=>none| (k,a)::l,n=>bif Nat.beq k n then some a else lk l n
mutual
def noY :SV->Bool
 | .yld _ _ _ _ _ _ _=>false| .agg l=>noYs l| .tup l=>noYs l| .fn _ a b=>noYs a&&noYs b|_=>true
def noYs :As->Bool
 | []=>true|a::l=>noY a&&noYs l
end
inductive Kd where
 |int (k:IntKind)
 |bool
 |str
 |sl (e:Ax)
 |rp
 |bad
 deriving DecidableEq
def kd1 (P:Aw)(t:Ax):Kd:=match P.underlying t with
 |some (.int k)=>.int k|some .bool=>.bool|some .string=>.str|some (.slice e)=>.sl e|some (.pointer e)=>bif Nat.beq e rgT then .rp else .bad|_=>.bad
def kdF (f:Ax->List Kd):List Field->List Kd
 | []=>[]
 |x::xs=>f x.type++kdF f xs
def kds (P:Aw):Nat->Ax->List Kd
 |0,_=>[.bad]
 |d+1,t=>match P.underlying t with
  |some (.struct fs)=>kdF (kds P d) fs.toList|some (.array n e)=>(List.replicate n (kds P d e)).flatten|_=>[kd1 P t]
def kf (P:Aw)(t:Ax):List Kd:=kds P 20 t
inductive B0 where
 |cells (l:As) (e z:Nat)
 |rows (L:E) (e z:Nat) (ph:E)
 |iter (s pos:E)
 |reg (b:Nat) (L:E) (z:Nat)
structure SS where
 h:List (Nat×Bb B0)
 nx:Nat
 fc:List (E×Bool)
 fv:Nat
 fz:List (Nat×E×Ax×Nat)
def SS.get (s:SS)(b:Nat):Bb B0:=match lk s.h b with|some x=>x|none=>none
def SS.set (s:SS)(b:Nat)(x:Bb B0):SS:= {s with h:=(b,x)::s.h}
def z6 {α:Type}(k n:Nat)(a:α)(l:List (Nat×α)):lk ((k,a)::l) n=if k=n then some a else lk l n:=by by_cases h:k=n;rw[Tp h,lk,u7 h];rfl;rw[Tn h,lk,z4 h];rfl
theorem Z1 {α:Type}{b:Nat}{x:α}:∀ {l:List (Nat×α)},lk l b=some x->(b,x)∈l
 | [],h=>by cases h
 | (k,y)::l,h=>by rw[z6]at h;split at h;grind;exact Uc _ (Z1 h)
theorem SS.get_set (s:SS)(b c:Nat)(x:Bb B0):(s.set b x).get c=if c=b then x else s.get c:=by unfold SS.get SS.set;simp only[z6];grind
def Vv:type_of% @SS.get_set:=@SS.get_set
def arr (b:Blk):Bb (Ao×Nat×Nat):=rdC b
def roC (b:Blk)(c zb z:Nat):Prop:=(dM b=true->c<unk)/\(dM b=false->zb=z)
def roC.mk {b:Blk}{c z:Nat}(h:dM b=false:=by rfl):roC b c z z:=⟨λe=>(by rw[h]at e;cases e),λ_=>rfl⟩
def yR (l c:Nat):Prop:=(c<unk/\l<=c)\/(∃lo,c=d8 lo 0/\lo<=67108864/\l<=67108864)
section
variable (P :Aw)
inductive PV (F:Ac):Kd->Av->Dat->Prop
 |int (k:IntKind) (n:Int):PV F (.int k) (.int k n) (.i n)
 |bool (b:Bool):PV F .bool (.bool b) (.b b)
 |str (s:Ae):PV F .str (.string ⟨s.toArray⟩) (.s s)
 |nils (e:Ax):PV F (.sl e) (.slice none 0 0) (.l [])
 |rp (k:Nat):PV F .rp (.pointer (some ⟨k,0,some 1⟩)) (.i k)
 |rpn:PV F .rp (.pointer none) (.i (-1))
 |vague (e:Ax):PV F (.sl e) (.slice (some ⟨0,0,some 0⟩) 0 unk) (.l [])
 | sl (e : Ax) (i o c : Nat) (b : Blk) (cs : Ao) (n z : Nat) {zb : Nat} (rows : a8) (x : Nat → Nat → Av) (hF : F i = some b) (hb : arr b = some (cs, n, zb)) (hc : yR rows.length c ∧ roC b c zb z)
   (hn:o+rows.length*z<=n) (hz:z=(kf P e).length) (hr:∀r∈rows,r.length=z)
   (hx:∀(r k:Nat) (row:Ar) (d:Dat),rows[r]? =some row->row[k]? =some d->cs.get (o+r*z+k)=some (x r k))
   (hp:∀(r k:Nat) (row:Ar) (kd:Kd) (d:Dat),rows[r]? =some row->row[k]? =some d->(kf P e)[k]? =some kd->PV F kd (x r k) d):
   PV F (.sl e) (.slice (some ⟨i,o,none⟩) rows.length c) (.l rows)
def Fle (F F':Ac):Prop:=∀i b,F i=some b->F' i=some b
def Fle.refl (F:Ac):Fle F F:=λ_ _ h=>h
def Vd:type_of% @Fle.refl:=@Fle.refl
variable {F:Ac}
def Fle.trans {G H:Ac}(h:Fle F G)(k:Fle G H):Fle F H:=λi b e=>k i b (h i b e)
variable {F':Ac}{v:Av}
def PV.mono (h:Fle F F'){k:Kd}{d:Dat}(p:PV P F k v d):PV P F' k v d:=by
 induction p with
 |int k n=>exact .int k n|bool b=>exact .bool b|str s=>exact .str s|nils e=>exact .nils e|rp k=>exact .rp k|rpn=>exact .rpn|vague e=>exact .vague e|sl e i o c b cs n z rows x hF hb hc hn hz hr hx _ f=>exact .sl e i o c b cs n z rows x (h _ _ hF) hb hc hn hz hr hx f
abbrev Tau:=Nat->Bb (Bb (Nat×Nat))
variable (U :Ab)
abbrev E.toI (e:E):Int:=(e.den U).toInt
abbrev E.toN (e:E):Nat:=(e.den U).toInt.toNat
abbrev E.toR (e:E):a8:=(e.den U).rows
def mI (len:E):Cp->Nat->Prop
 | .ex e,c=>0<=e.toI U/\c=e.toN U/\c<unk/\len.toI U<=e.toI U| .ge,c=>∃lo,c=d8 lo 0/\lo<=67108864/\len.toI U<=67108864| .un,c=>(c<unk/\c=len.toN U/\len.toI U<=67108864)\/ ∃lo,c=d8 lo 0/\lo<=67108864/\len.toI U<=67108864
def RowsIn (F:Ac)(z:Nat)(xs:Af)(rows:a8):Prop:=
 xs.length=rows.length*z/\z=(kf P rgT).length/\(∀r∈rows,r.length=z)/\
 ∀(r k:Nat) (row:Ar) (d:Dat),rows[r]? =some row->row[k]? =some d-> ∃x,xs[r*z+k]? =some x/\ ∀kd,(kf P rgT)[k]? =some kd->PV P F kd x d
def RowsIn.mono (h:Fle F F'){z:Nat}{xs:Af}{rows:a8}(p:RowsIn P F z xs rows):RowsIn P F' z xs rows:=
 ⟨p.1,p.2.1,p.2.2.1,λr k row d hr hk=>let⟨x,k1,k2⟩:=p.2.2.2 r k row d hr hk;⟨x,k1,λkd f=>(k2 kd f).mono P h⟩⟩
inductive VD (τ:Tau)(F:Ac):SV->Av->Prop
 |any (v:Av):VD τ F .any v
 |int (k:IntKind) (e:E):VD τ F (.int k e) (.int k (e.toI U))
 |bool (e:E):VD τ F (.bool e) (.bool (e.den U).toBool)
 |str (e:E):VD τ F (.str e) (.string ⟨(e.den U).toStr.toArray⟩)
 |nilp:VD τ F .nilp (.pointer none)
 |ptr (b z:Nat) (row:E) (fld i o:Nat) (h:τ b=some (some (i,o))) (h0:0<=row.toI U):VD τ F (.ptr b z row fld) (.pointer (some ⟨i,o+row.toN U*z+fld,none⟩))
 | pptr (t : Ax) (L row : E) (fld i o l c : Nat) (h : PV P F (.sl t) (.slice (some ⟨i, o, none⟩) l c) (.l (L.toR U))) (h0 : 0 ≤ row.toI U) (h1 : row.toI U < (L.toR U).length) :
   VD τ F (.pptr t L row fld) (.pointer (some ⟨i,o+row.toN U*(kf P t).length+fld,none⟩))
 |rp (row:E) (fld:Nat) (h0:0<=row.toI U):VD τ F (.rp row fld) (.pointer (some ⟨row.toN U,fld,some 1⟩))
 |rpq (e:E) (v:Av) (h:PV P F .rp v (.i (e.toI U))):VD τ F (.rpq e) v
 |rv (L:E) (z:Nat) (xs:Af) (h:RowsIn P F z xs (L.toR U)):VD τ F (.rv L z) (.func (.func 0) xs.toArray #[])
 |nils:VD τ F .nils (.slice none 0 0)
 | sl (b z : Nat) (off len : E) (cap : Cp) (i o c : Nat) (h : τ b = some (some (i, o))) (h0 : 0 ≤ off.toI U) (h1 : 0 ≤ len.toI U) (hc : mI U len cap c) :
   VD τ F (.sl b z off len cap) (.slice (some ⟨i,o+off.toN U*z,none⟩) (len.toN U) c)
 |sl0 (b z:Nat) (off len:E) (cap:Cp) (h:τ b=some none) (h0:off.toI U=0) (h1:len.toI U=0) (hc:∀e,cap= .ex e->e.toI U=0):VD τ F (.sl b z off len cap) (.slice none 0 0)
 |lst (t:Ax) (L:E) (clip:Bool) (v:Av) (h:PV P F (.sl t) v (.l (L.toR U))) (hc:clip=true-> ∃a l,v= .slice a l l):VD τ F (.lst t L clip) v
 |agg (l:As) (xs:Af) (h1:l.length=xs.length) (h2:∀(i:Nat) a x,l[i]? =some a->xs[i]? =some x->VD τ F a x):VD τ F (.agg l) (.agg xs.toArray)
 |tup (l:As) (xs:Af) (h1:l.length=xs.length) (h2:∀(i:Nat) a x,l[i]? =some a->xs[i]? =some x->VD τ F a x):VD τ F (.tup l) (.tuple xs.toArray)
 | fn (f : Fn) (l m : As) (xs ys : Af) (h1 : l.length = xs.length) (h2 : ∀ (i : Nat) a x, l[i]? = some a → xs[i]? = some x → VD τ F a x)
   (h3:m.length=ys.length) (h4:∀(i:Nat) a x,m[i]? =some a->ys[i]? =some x->VD τ F a x):VD τ F (.fn f l m) (.func f xs.toArray ys.toArray)
 |nilf:VD τ F .nilf .nilFunc
 | yld (ks : Ah) (vs : As) (g : Ay) (nt : Nat) (ps : Ah) (as bo : Code) (i : Nat) (tms : Ao) (pr : Array Tmp) (db : Nat) (hF : F i = some (.loop .ready none nt tms pr as bo db)) (hp : pr.toList = ps)
   (h:∀k a,lk (ks.zip vs) k=some a->VD τ F a ((tms.get k).getD undef)):VD τ F (.yld ks vs g nt ps as bo) (.chan (some i))
def Tle (τ τ':Tau):Prop:=∀b p,τ b=some p->τ' b=some p
def Tle.refl (τ:Tau):Tle τ τ:=λ_ _ h=>h
def VG:type_of% @Tle.refl:=@Tle.refl
def Tle.trans {a b c:Tau}(h:Tle a b)(k:Tle b c):Tle a c:=λi p e=>k i p (h i p e)
variable {P U}
variable {τ:Tau}
def VD.mono {τ':Tau}(ht:Tle τ τ')(h:Fle F F'){s:SV}(p:VD P U τ F s v):VD P U τ' F' s v:=by
 induction p with
 |any v=>exact .any v|int k e=>exact .int k e|bool e=>exact .bool e|str e=>exact .str e|nilp=>exact .nilp|ptr b z row fld i o k h0=>exact .ptr b z row fld i o (ht _ _ k) h0|pptr t L row fld i o l c k h0 h1=>exact .pptr t L row fld i o l c (k.mono P h) h0 h1|rp row fld h0=>exact .rp row fld h0|rpq e v k=>exact .rpq e v (k.mono P h)|rv L z xs k=>exact .rv L z xs (k.mono P h)|nils=>exact .nils|sl b z off len cap i o c k h0 h1 hc=>exact .sl b z off len cap i o c (ht _ _ k) h0 h1 hc|sl0 b z off len cap k h0 h1 hc=>exact .sl0 b z off len cap (ht _ _ k) h0 h1 hc|lst t L clip v k hc=>exact .lst t L clip v (k.mono P h) hc|agg l xs h1 _ j=>exact .agg l xs h1 j|tup l xs h1 _ j=>exact .tup l xs h1 j|fn f l m xs ys h1 _ h3 _ q r=>exact .fn f l m xs ys h1 q h3 r|nilf=>exact .nilf|yld ks vs g nt ps as bo i tms pr db hF hp _ j=>exact .yld ks vs g nt ps as bo i tms pr db (h _ _ hF) hp j
def PV.sub (h:∀i y,F i=some y->(arr y).isSome=true->F' i=some y){k:Kd}{d:Dat}(p:PV P F k v d):PV P F' k v d:=by
 induction p with
 |int k n=>exact .int k n|bool b=>exact .bool b|str s=>exact .str s|nils e=>exact .nils e|rp k=>exact .rp k|rpn=>exact .rpn|vague e=>exact .vague e|sl e i o c b cs n z rows x hF hb hc hn hz hr hx _ f=>exact .sl e i o c b cs n z rows x (h _ _ hF (by rw[hb];rfl)) hb hc hn hz hr hx f
theorem cP :∀ {l:As} {i:Nat} {a:SV},noYs l=true->l[i]? =some a->noY a=true
 | [],i,a,_,h=>by grind|b::l,i,a,hn,h=>by
  unfold noYs at hn;rw[SR]at hn;cases i with
  |zero=>grind|succ i=>exact cP hn.2 h
def VD.sub (p:Bool)(h:∀i y,F i=some y->((arr y).isSome=true\/p=true/\y≠ .dfr)->F' i=some y){s:SV}(hv:VD P U τ F s v)(hn:p=true\/noY s=true):VD P U τ F' s v:=by
 have B:∀i y,F i=some y->(arr y).isSome=true->F' i=some y:=λi y h1 h2=>h i y h1 (.inl h2);induction hv with
 |any v=>exact .any v|int k e=>exact .int k e|bool e=>exact .bool e|str e=>exact .str e|nilp=>exact .nilp|ptr b z row fld i o k h0=>exact .ptr b z row fld i o k h0|pptr t L row fld i o l c k h0 h1=>exact .pptr t L row fld i o l c (k.sub B) h0 h1|rp row fld h0=>exact .rp row fld h0|rpq e v k=>exact .rpq e v (k.sub B)|rv L z xs k=>exact .rv L z xs ⟨k.1,k.2.1,k.2.2.1,λr q row d hr hq=>let⟨x,k1,k2⟩:=k.2.2.2 r q row d hr hq;⟨x,k1,λkd C=>(k2 kd C).sub B⟩⟩|nils=>exact .nils|sl b z off len cap i o c k h0 h1 hc=>exact .sl b z off len cap i o c k h0 h1 hc|sl0 b z off len cap k h0 h1 hc=>exact .sl0 b z off len cap k h0 h1 hc|lst t L clip v k hc=>exact .lst t L clip v (k.sub B) hc|agg l xs h1 _ A=>exact .agg l xs h1 λi a x j hx=>A i a x j hx (hn.imp id λk=>cP (by unfold noY at k;exact k) j)
 |tup l xs h1 _ A=>exact .tup l xs h1 λi a x j hx=>A i a x j hx (hn.imp id λk=>cP (by unfold noY at k;exact k) j)
 |fn f l m xs ys h1 _ h3 _ D E=>
  have w:p=true\/noYs l=true/\noYs m=true:=hn.imp id λk=>by unfold noY at k;rwa[SR]at k
  exact .fn f l m xs ys h1 (λi a x j hx=>D i a x j hx (w.imp id λk=>cP k.1 j)) h3 λi a x j hx=>E i a x j hx (w.imp id λk=>cP k.2 j)
 |nilf=>exact .nilf|yld ks vs g nt ps as bo i tms pr db hF hp _ A=>rcases hn with hn|hn;exact .yld ks vs g nt ps as bo i tms pr db (h _ _ hF (.inr ⟨hn,by simp⟩)) hp λk a j=>A k a j (.inl hn);unfold noY at hn;cases hn
variable (P U)
def VDL (τ:Tau)(F:Ac)(l:As)(xs:Af):Prop:=l.length=xs.length/\ ∀(i:Nat) a x,l[i]? =some a->xs[i]? =some x->VD P U τ F a x
def A6 (F:Ac)(e:Ax)(z o n:Nat)(cs:Ao)(rows:a8):Prop:=
 o+rows.length*z<=n/\z=(kf P e).length/\(∀r∈rows,r.length=z)/\
 ∀(r k:Nat) (row:Ar) (d:Dat),rows[r]? =some row->row[k]? =some d-> ∃x,cs.get (o+r*z+k)=some x/\ ∀kd,(kf P e)[k]? =some kd->PV P F kd x d
def BD (τ:Tau)(F:Ac)(o:Nat):B0->Blk->Prop
 | .cells l e z,b=>∃cs n,b= .cells cs n e z/\o+l.length<=n/\ ∀(j:Nat) a,l[j]? =some a-> ∃x,cs.get (o+j)=some x/\VD P U τ F a x| .rows L e z ph,b=>∃cs n,b= .cells cs n e z/\A6 P F e z o n cs (L.toR U)/\o+ph.toN U*z<=n| .reg r L z,b=>o=0/\τ r=some (some (0,0))/\ ∃cs,b= .reg cs (L.toR U).length rgT z/\A6 P F rgT z 0 ((L.toR U).length*z) cs (L.toR U)| .iter s pos,b=>o=0/\ ∃n:Nat,b= .sit ⟨(s.den U).toStr.toArray⟩ n/\pos.toI U=n
def Jt (τ:Tau)(F:Ac)(r:Nat×E×Ax×Nat):Prop:=
 (∃i o cs n,τ r.1=some (some (i,o))/\F i=some (.cells cs n r.2.2.1 r.2.2.2)/\A6 P F r.2.2.1 r.2.2.2 o n cs (r.2.1.toR U))\/(τ r.1=some none/\r.2.1.toR U=[])
structure SD (τ:Tau)(F:Ac)(s:SS)(hp:Hp):Prop where
 live:∀b x,s.get b=some x->(∃i o y,τ b=some (some (i,o))/\hp.m.get i=some y/\F i=none/\BD P U τ F o x y)\/
  (τ b=some none/\ ∃L e z ph,x= .rows L e z ph/\L.toR U=[]/\z=(kf P e).length/\ph.toI U<=0)
 inj:∀b c x y i o j q,s.get b=some x->s.get c=some y->b≠c->τ b=some (some (i,o))->τ c=some (some (j,q))->i≠j
 frz:∀i b,F i=some b->hp.m.get i=some b
 lt:∀b i o,τ b=some (some (i,o))->i<hp.nx
 flt:∀i b,F i=some b->i<hp.nx
 new:∀b,s.nx<=b->τ b=none
 fc:∀c t,(c,t)∈s.fc->(c.den U).toBool=t
 fz:∀r∈s.fz,Jt P U τ F r
def nyS (s:SS):Bool:=s.h.all λp=>match p.2 with
 |some (.cells l _ _)=>noYs l|_=>true
variable {P U}
def BD.sub (p:Bool)(h:∀i y,F i=some y->((arr y).isSome=true\/p=true/\y≠ .dfr)->F' i=some y){o:Nat}{x:B0}{y:Blk}(hb:BD P U τ F o x y)(hn:p=true\/ ∀l e z,x= .cells l e z->noYs l=true):BD P U τ F' o x y:=by
 have q:∀i y,F i=some y->(arr y).isSome=true->F' i=some y:=λi y h1 h2=>h i y h1 (.inl h2);cases x with
 |cells l e z=>obtain⟨cs,n,h1,h2,h3⟩:=hb;exact⟨cs,n,h1,h2,λj a w=>let⟨x,k1,k2⟩:=h3 j a w;⟨x,k1,k2.sub p h (hn.imp id λk=>cP (k l e z rfl) w)⟩⟩
 |rows L e z ph=>obtain⟨cs,n,h1,⟨h2,h3,h4,f⟩,g⟩:=hb;exact⟨cs,n,h1,⟨h2,h3,h4,λr k row d hr m=>let⟨x,k1,k2⟩:=f r k row d hr m;⟨x,k1,λkd hk=>(k2 kd hk).sub q⟩⟩,g⟩
 |iter s pos=>exact hb|reg r L z=>obtain⟨h0,g,cs,h1,h2,h3,h4,f⟩:=hb;exact⟨h0,g,cs,h1,h2,h3,h4,λr k row d hr m=>let⟨x,k1,k2⟩:=f r k row d hr m;⟨x,k1,λkd hk=>(k2 kd hk).sub q⟩⟩
theorem SD.sub {s:SS}{hp hp':Hp}(hs:SD P U τ F s hp)(p:Bool)(h:∀i y,F i=some y->((arr y).isSome=true\/p=true/\y≠ .dfr)->F' i=some y)(hn:p=true\/nyS s=true)(f:hp.nx<=hp'.nx)(hm:∀b x i o,s.get b=some x->τ b=some (some (i,o))->hp'.m.get i=hp.m.get i/\F' i=none)(hf:∀i y,F' i=some y->hp'.m.get i=some y/\i<hp'.nx):SD P U τ F' s hp':=by refine⟨λb x hb=>?_,hs.inj,λi y hy=>(hf i y hy).1,λb i o hb=>TX (hs.lt b i o hb) f,λi y hy=>(hf i y hy).2,hs.new,hs.fc,λr hr=>?_⟩;rcases hs.live b x hb with⟨i,o,y,h1,h2,h3,h4⟩|h1;obtain⟨k1,k2⟩:=hm b x i o hb h1;refine .inl ⟨i,o,y,h1,by grind,k2,h4.sub p h (hn.imp id λk l e z hx=>?_)⟩;unfold nyS at k;rw[Ty]at k;subst hx;unfold SS.get at hb;split at hb;rename_i q hq;subst hb;exact k _ (Z1 hq);grind;grind;rcases hs.fz r hr with⟨i,o,cs,n,h1,h2,h3,h4,g,j⟩|h1;exact .inl ⟨i,o,cs,n,h1,h _ _ h2 (.inl rfl),h3,h4,g,λa k row d hr w=>let⟨x,k1,k2⟩:=j a k row d hr w;⟨x,k1,λkd hk=>(k2 kd hk).sub λi y h1 h2=>h i y h1 (.inl h2)⟩⟩;exact .inr h1
end
def y4 (a b:E):E:=match a,b with
 | .int m,.int n=>.int (m+n)| .int m,b=>bif decide (m=0)then b else .op .add [b,.int m]| .op .add [x,.int m],.int n=>bif decide (m+n=0)then x else .op .add [x,.int (m+n)]|a,.int n=>bif decide (n=0)then a else .op .add [a,.int n]|a,b=>.op .add [a,b]
def N6 (a b:E):E:=match b with
 | .int n=>y4 a (.int (-n))|b=>.op .sub [a,b]
def MC (a b:E):E:=match a,b with
 | .int m,.int n=>.int (m*n)|a,b=>.op .mul [a,b]
def y5 (a:E):E:=match a with
 | .bool c=>.bool (!c)| .op .not [x]=>x|a=>.op .not [a]
def y6 (a b:E):E:=match a,b with
 | .int m,.int n=>.bool (decide (m<n))|a,b=>.op .lt [a,b]
def E9 (a b:E):E:=match a,b with
 | .int m,.int n=>.bool (decide (m=n))|a,b=>.op .eqi [a,b]
def Io (a b:E):E:=match a,b with
 | .bool p,b=>bif p then b else y5 b|a,.bool p=>bif p then a else y5 a|a,b=>.op .eqb [a,b]
def mW (a b:E):E:=match a,b with
 | .str p,.str q=>.bool (p==q)|a,b=>.op .eqs [a,b]
def In (a b:E):E:=match a,b with
 | .bool p,b=>bif p then b else .bool false|a,.bool p=>bif p then a else .bool false|a,b=>.op .and [a,b]
def mkOr (a b:E):E:=match a,b with
 | .bool p,b=>bif p then .bool true else b|a,.bool p=>bif p then .bool true else a|a,b=>.op .or [a,b]
def zS :Nat->E->E
 |0,L=>.op .len [L]|d+1,L=>match L with
  | .op .nil _=>.int 0| .op (.rows n _) _=>.int n| .op .app [a,b]=>y4 (zS d a) (zS d b)| .op (.upd _) [a,_,_]=>zS d a|L=>.op .len [L]
def A4 (L:E):E:=zS 50 L
def Ip :Nat->Nat->E->E->E
 |0,j,L,r=>.op (.get j) [L,r]|d+1,j,L,r=>match L with
  | .op (.upd j') [a,i,c]=>bif Nat.beq j j' then .op (.get j) [.op (.upd j') [a,i,c],r]else Ip d j a r|L=>.op (.get j) [L,r]
def Gb (j:Nat)(L r:E):E:=Ip 50 j L r
def F8 (a b:E):E:=match a,b with
 | .op .nil _,b=>b|a,.op .nil _=>a|a,b=>.op .app [a,b]
section
variable {U :Ab}
def B4 (n:Int):(E.int n).toI U=n:=rfl
def j5 (a b:E):(y4 a b).toI U=a.toI U+b.toI U:=by unfold y4;split;rfl;rename_i b m _;by_cases h:m=0;subst h;exact(Int.zero_add _).symm;simp only[h,decide_false,Tl];exact Int.add_comm _ _;rename_i x m n;by_cases h:m+n=0;simp only[h,Ua,Tk];show _=(x.toI U+m)+n;omega;simp only[h,decide_false,Tl];show x.toI U+(m+n)=(x.toI U+m)+n;omega;rename_i a n _ _;by_cases h:n=0;subst h;simp;show _=_+0;omega;simp only[h,decide_false,Tl];rfl;rfl
def v7 (a b:E):(N6 a b).toI U=a.toI U-b.toI U:=by unfold N6;split;rename_i n;rw[j5];show _+ -n=_-n;omega;rfl
def JO (a b:E):(MC a b).toI U=a.toI U*b.toI U:=by unfold MC;split<;>rfl
def G1 (a:E):((y5 a).den U).toBool= !(a.den U).toBool:=by unfold y5;split;rfl;rename_i x;show _= !(!(x.den U).toBool);simp;rfl
def G4 (a b:E):((y6 a b).den U).toBool=decide (a.toI U<b.toI U):=by unfold y6;split<;>rfl
def E5 (a b:E):((E9 a b).den U).toBool=decide (a.toI U=b.toI U):=by unfold E9;split<;>rfl
def T6 (a b:E):((mW a b).den U).toBool=((a.den U).toStr==(b.den U).toStr):=by unfold mW;split<;>rfl
def zQ (a b:E):((Io a b).den U).toBool=((a.den U).toBool==(b.den U).toBool):=by unfold Io;split;rename_i b p;cases p;simp only[Tl,G1];show _=(false==_);simp;show _=(true==_);simp;rename_i a p _;cases p;simp only[Tl,G1];show _=(_==false);simp;show _=(_==true);simp;rfl
def zP (a b:E):((In a b).den U).toBool=((a.den U).toBool&&(b.den U).toBool):=by unfold In;split;rename_i b p;cases p;rfl;show _=(true&&_);simp;rename_i a p _;cases p;show false=(_&&false);simp;show _=(_&&true);simp;rfl
def DV (a b:E):((mkOr a b).den U).toBool=((a.den U).toBool|| (b.den U).toBool):=by unfold mkOr;split;rename_i b p;cases p;show _=(false||_);simp;rfl;rename_i a p _;cases p;show _=(_||false);simp;show true=(_||true);simp;rfl
def M7 (z:Nat):∀(n:Nat) (l:Ar),(b8 z n l).length=n
 |0,_=>rfl|n+1,l=>by simp[b8,M7 z n]
def iL :∀(d:Nat) (L:E),(zS d L).toI U=((L.toR U).length:Int)
 |0,L=>rfl|d+1,L=>by unfold zS;split;rfl;rename_i n z as;show(n:Int)=((b8 z n _).length:Int);rw[M7];rename_i a b;rw[j5,iL d a,iL d b];show _=(((a.toR U)++(b.toR U)).length:Int);simp;rename_i j a i c;rw[iL d a];show _=((a9 (a.toR U) _ j _).length:Int);simp[a9];rfl
def i7 (L:E):(A4 L).toI U=((L.toR U).length:Int):=iL 50 L
theorem rR (L:a8)(i r:Int){j j':Nat}(d:Dat)(h:j≠j'):z8 (a9 L i j' d) r j=z8 L r j:=by unfold z8 a9;grind
def zR :∀(d j:Nat) (L r:E),(Ip d j L r).den U=z8 (L.toR U) (r.toI U) j
 |0,j,L,r=>rfl|d+1,j,L,r=>by unfold Ip;split;rename_i j' a i c;by_cases h:j=j';rw[u7 h];rfl;rw[z4 h,Tl,zR d j a r];exact(rR _ _ _ _ h).symm;rfl
def tU (j:Nat)(L r:E):(Gb j L r).den U=z8 (L.toR U) (r.toI U) j:=zR 50 j L r
def M8 (a b:E):(F8 a b).toR U=a.toR U++b.toR U:=by unfold F8;split;rfl;show _=_++([]:a8);simp;rfl
def FT (U:Ab)(l:List (E×Bool)):Prop:=∀c t,(c,t)∈l->(c.den U).toBool=t
def M (α:Type):=SS->Tr (α×SS)
def i5 {α:Type}(a:α):M α:=λs=>.ret (a,s)
def b9 {α:Type}(t:String):M α:=λ_=>.fail t
def c8 {α β:Type}(m:M α)(k:α->M β):M β:=λs=>(m s).bind λx=>k x.1 x.2
def v8 {α:Type}(k:SS->M α):M α:=λs=>k s s
def mX {α:Type}(t:String)(x:Bb α):M α:=match x with|some a=>i5 a|none=>b9 t
def addF (s:SS)(c:E)(t:Bool):SS:= {s with fc:=(c,t)::s.fc}
variable (U) in
def l9 (c:E):M Unit:=λs=>match c with
 | .bool true=>.ret ((),s)|c=>.need (.e c) (c.pr U) (.ret ((),addF s c true))
def LR :List (E×Bool)->E->Bb Bool
 | [],_=>none| (d,t)::l,c=>bif E.like d c then some t else LR l c
variable (U) in
def testA (c:E):M Bool:=λs=>match c with
 | .bool b=>.ret (b,s)|c=>match LR s.fc c with
  |some true=>.need (.e c) (c.pr U) (.ret (true,s))|some false=>.need (.e (y5 c)) (¬c.pr U) (.ret (false,s))|none=>.br c (.ret (true,addF s c true)) (.ret (false,addF s c false))
variable (U) in
def testF :Nat->E->M Bool
 |0,c=>testA U c|d+1,c=>match c with
  | .op .not [a]=>c8 (testF d a) λt=>i5 (!t)
  | .op .and [a,b]=>c8 (testF d a) λt=>bif t then testF d b else i5 false
  | .op .or [a,b]=>c8 (testF d a) λt=>bif t then i5 true else testF d b
  |c=>testA U c
variable (U) in
def gG (c:E):M Bool:=testF U 20 c
structure Y5 (s s':SS):Prop where
 h:s'.h=s.h
 nx:s'.nx=s.nx
 fc:∃l,s'.fc=l++s.fc
 fz:s'.fz=s.fz
def Y5.refl (s:SS):Y5 s s:=⟨rfl,rfl,⟨[],rfl⟩,rfl⟩
theorem Y5.trans {a b c:SS}(h:Y5 a b)(k:Y5 b c):Y5 a c:=
 ⟨k.h.trans h.h,k.nx.trans h.nx,by obtain⟨l,e⟩:=h.fc;obtain⟨m,e'⟩:=k.fc;exact(by grind),k.fz.trans h.fz⟩
def Y5.addF (s:SS)(c:E)(t:Bool):Y5 s (addF s c t):=⟨rfl,rfl,⟨[(c,t)],rfl⟩,rfl⟩
variable {s:SS}
def Y5.get {s':SS}(h:Y5 s s')(b:Nat):s'.get b=s.get b:=by unfold SS.get;rw[h.h]
variable (U) in
def OKp {α:Type}(m:M α)(s:SS)(R:α->Prop):Prop:=
 ∀Q,(m s).vc U Q->FT U s.fc-> ∃a s',Q (a,s')/\Y5 s s'/\FT U s'.fc/\R a
def OKp.ret {α:Type}{a:α}{R:α->Prop}(h:R a):OKp U (i5 a) s R:=λ_ hq hf=>⟨a,s,hq,Y5.refl s,hf,h⟩
def Vq:type_of% @OKp.ret:=@OKp.ret
variable {t:String}
def OKp.fail {α:Type}{R:α->Prop}:OKp U (b9 t:M α) s R:=λ_ hq _=>hq.elim
def Vl:type_of% @OKp.fail:=@OKp.fail
def OKp.bind {α g:Type}{m:M α}{k:α->M g}{R:α->Prop}{f:g->Prop}(h:OKp U m s R)(hk:∀a s',Y5 s s'->FT U s'.fc->R a->OKp U (k a) s' f):OKp U (c8 m k) s f:=by intro Q hq hf;unfold c8 at hq;rw[VH]at hq;obtain⟨a,s1,h1,h2,h3,h4⟩:=h _ hq hf;obtain⟨b,s2,j,p,q,r⟩:=hk a s1 h2 h3 h4 Q h1 h3;exact⟨b,s2,j,h2.trans p,q,r⟩
theorem OKp.mono {α:Type}{m:M α}{R f:α->Prop}(h:OKp U m s R)(hr:∀a,R a->f a):OKp U m s f:=by intro Q hq hf;obtain⟨a,s1,h1,h2,h3,h4⟩:=h Q hq hf;grind
def OKp.opt {α:Type}{x:Bb α}{R:α->Prop}(h:∀a,x=some a->R a):OKp U (mX t x) s R:=by
 cases x with
 |none=>exact Vl|some a=>exact Vq (h a rfl)
def Vo:type_of% @OKp.opt:=@OKp.opt
def OKp.read {α:Type}{k:SS->M α}{R:α->Prop}(h:OKp U (k s) s R):OKp U (v8 k) s R:=h
def Vp:type_of% @OKp.read:=@OKp.read
theorem FT.cons {l:List (E×Bool)}{c:E}{t:Bool}(h:FT U l)(hc:(c.den U).toBool=t):FT U ((c,t)::l):=by intro d u f;rcases TH.1 f with e|e;grind;exact h d u e
def GB {c:E}(h:¬c.pr U):(c.den U).toBool=false:=by rw[Va]at h;simpa using h
def OKp.need {c:E}:OKp U (l9 U c) s λ_=>c.pr U:=by intro Q hq hf;unfold l9 at hq;split at hq;exact⟨(),s,hq,Y5.refl s,hf,rfl⟩;obtain⟨h1,h2⟩:=hq;exact⟨(),_,h2 h1,Y5.addF s _ _,hf.cons ((Va U _).1 h1),h1⟩
def Vm:type_of% @OKp.need:=@OKp.need
def OKp.testA {c:E}{s:SS}:OKp U (testA U c) s λt=>(c.den U).toBool=t:=by intro Q hq hf;unfold Sx.testA at hq;split at hq;exact⟨_,s,hq,Y5.refl s,hf,rfl⟩;split at hq;exact⟨true,s,hq.2 hq.1,Y5.refl s,hf,(Va U _).1 hq.1⟩;exact⟨false,s,hq.2 hq.1,Y5.refl s,hf,GB hq.1⟩;by_cases h:c.pr U;exact⟨true,_,hq.1 h,Y5.addF s _ _,hf.cons ((Va U _).1 h),(Va U _).1 h⟩;exact⟨false,_,hq.2 h,Y5.addF s _ _,hf.cons (GB h),GB h⟩
def OKp.testF :∀(d:Nat) (c:E) (s:SS),OKp U (testF U d c) s λt=>(c.den U).toBool=t
 |0,c,s=>OKp.testA|d+1,c,s=>by
  unfold Sx.testF;split;rename_i a;refine(OKp.testF d a s).bind λt s' _ _ h=>Vq ?_;show(!(a.den U).toBool)= !t;rw[h]
  .rename_i a b;refine(OKp.testF d a s).bind λt s' _ _ h=>?_;cases t with
   |true=>exact(OKp.testF d b s').mono λu f=>by show((a.den U).toBool&&(b.den U).toBool)=u;rw[h,f];rfl
   |false=>exact Vq (by show((a.den U).toBool&&(b.den U).toBool)=false;rw[h];rfl)
  .rename_i a b;refine(OKp.testF d a s).bind λt s' _ _ h=>?_;cases t with
   |true=>exact Vq (by show((a.den U).toBool|| (b.den U).toBool)=true;rw[h];rfl)|false=>exact(OKp.testF d b s').mono λu f=>by show((a.den U).toBool|| (b.den U).toBool)=u;rw[h,f];rfl
  exact OKp.testA
def OKp.test {c:E}:OKp U (gG U c) s λt=>(c.den U).toBool=t:=OKp.testF 20 c s
def Vt:type_of% @OKp.test:=@OKp.test
end
abbrev Fm:=List (Nat×SV)
def eA :Av->SV
 | .bool b=>.bool (.bool b)| .int k n=>.int k (.int n)| .string s=>.str (.str s.data.toList)| .pointer none=>.nilp| .slice none 0 0=>.nils| .nilFunc=>.nilf|_=>.any
def GY :Av->SV
 | .agg cs=>.agg (cs.toList.map eA)| .tuple vs=>.tup (vs.toList.map eA)|v=>eA v
def N7 (f:Fm):Az->Bb SV
 | .tmp t=>some ((lk f t).getD .any)| .const v=>bif cst v then some (GY v)else none| .global _=>none| .func g=>some (.fn (.func g) [] [])
def EG (f:Fm):List Az->Bb (As)
 | []=>some []|x::xs=>match N7 f x with
  |some v=>match EG f xs with
   |some vs=>some (v::vs)|none=>none
  |none=>none
def hG (f:Fm):List (Nat×Az)->Bb (List (Nat×SV))
 | []=>some []| (i,x)::xs=>match N7 f x with
  |some v=>match hG f xs with
   |some vs=>some ((i,v)::vs)|none=>none
  |none=>none
def E0 :SV->Bb (As)
 | .any=>none| .yld _ _ _ _ _ _ _=>none| .agg l=>some l|v=>some [v]
def AO (P:Aw)(t:Ax)(cs:As)(off:Nat):Bb SV:=
 match P.underlying t with
 |none=>none
 | some d => bif dD d then
   match P.info? t with
   |some i=>some (.agg ((cs.drop off).take i.size))|none=>none
  else cs[off]?
def Hc (P:Aw)(xt:Ax)(x:SV)(f:Nat):Bb SV:=
 match P.underlying xt with
 |some (.struct fs)=>match fs.toList[f]? with
  |some fd=>match x with
   | .agg cs=>AO P fd.type cs fd.offset|_=>none
  |none=>none
 |_=>none
def wH (x:SV)(i:Nat):Bb SV:=
 match x with
 | .tup vs=>vs[i]?|_=>none
def R6 (cells:As)(off:Nat)(vs:As):As:=cells.take off++vs++cells.drop (off+vs.length)
def rG (place:Nat->Bb (Nat×Nat))(cells:As):List (Nat×SV)->Bb (As)
 | []=>some cells| (i,v)::rest=>match place i with
  |none=>none|some (off,size)=>match E0 v with
   |none=>none|some vs=>bif Nat.beq vs.length size&&Nat.ble (off+size) cells.length then rG place (R6 cells off vs) rest else none
def rI (P:Aw)(t:Ax):Bb (As):=match S9 P t with
 |some z=>some (z.cells.toList.map eA)|none=>none
def GX (P:Aw)(t:Ax)(parts:List (Nat×SV)):Bb SV:=
 match rI P t with
 |none=>none|some z=>match P.underlying t with
  |some (.struct fs)=>match eP P fs.toList with
   |some pl=>match rG (λi=>pl[i]?) z parts with
    |some cs=>some (.agg cs)|none=>none
   |none=>none
  |some (.array _ e)=>match P.info? e with
   |some ie=>match rG (λi=>some (i*ie.size,ie.size)) z parts with
    |some cs=>some (.agg cs)|none=>none
   |none=>none
  |_=>none
section
variable {P :Aw}{U:Ab}{τ:Tau}{F:Ac}
def TD (P:Aw)(U:Ab)(τ:Tau)(F:Ac)(f:Fm)(tm:Ao):Prop:=∀k a,lk f k=some a->VD P U τ F a ((tm.get k).getD undef)
def wD (v:Av):VD P U τ F (eA v) v:=by unfold eA;split;exact .bool (.bool _);exact .int _ (.int _);rename_i s;exact .str (.str s.data.toList);exact .nilp;exact .nils;exact .nilf;exact .any _
def eB (l:Af):VDL P U τ F (l.map eA) l:=by refine⟨by simp,λi a x f hx=>?_⟩;simp only[TU,hx,TO,SQ]at f;subst f;exact wD x
def Kq (v:Av):VD P U τ F (GY v) v:=by unfold GY;split;rename_i cs;have h:=eB (P:=P) (U:=U) (τ:=τ) (F:=F) cs.toList;exact VD.agg _ cs.toList h.1 h.2;rename_i cs;have h:=eB (P:=P) (U:=U) (τ:=τ) (F:=F) cs.toList;exact VD.tup _ cs.toList h.1 h.2;exact wD v
def VDL.nil :VDL P U τ F [] []:=⟨rfl,λi a x h _=>by simp at h⟩
def VM:type_of% @VDL.nil:=@VDL.nil
variable {a:SV}{l:As}{xs:Af}
theorem VDL.cons {x:Av}(h:VD P U τ F a x)(hs:VDL P U τ F l xs):VDL P U τ F (a::l) (x::xs):=by
 refine⟨by simp[hs.1],λi b y hb hy=>?_⟩;cases i with
 |zero=>grind|succ i=>exact hs.2 i b y hb hy
def VL:type_of% @VDL.cons:=@VDL.cons
theorem VDL.uncons (h:VDL P U τ F (a::l) xs):∃y ys,xs=y::ys/\VD P U τ F a y/\VDL P U τ F l ys:=by
 cases xs with
 |nil=>exact absurd h.1 (by simp)|cons y ys=>exact⟨y,ys,rfl,h.2 0 _ _ rfl rfl,by have:=h.1;simpa using this,λi a b f hb=>h.2 (i+1) a b (by grind) (by grind)⟩
def VDL.mono {τ':Tau}{F':Ac}(ht:Tle τ τ')(hf:Fle F F')(h:VDL P U τ F l xs):VDL P U τ' F' l xs:=⟨h.1,λi a x f hx=>(h.2 i a x f hx).mono ht hf⟩
theorem VDL.get (h:VDL P U τ F l xs){i:Nat}(f:l[i]? =some a):∃x,xs[i]? =some x/\VD P U τ F a x:=by
 have hi:=(SW.1 f).1;have hx:i<xs.length:=by rw[<-h.1];exact hi
 exact⟨xs[i],by grind,h.2 i a _ f (by simp)⟩
theorem VDL.drop (h:VDL P U τ F l xs)(n:Nat):VDL P U τ F (l.drop n) (xs.drop n):=
 ⟨by simp[h.1],λi a x f hx=>h.2 (n+i) a x (by grind) (by grind)⟩
theorem VDL.take (h:VDL P U τ F l xs)(n:Nat):VDL P U τ F (l.take n) (xs.take n):=by refine⟨by simp[h.1],λi a x f hx=>?_⟩;rw[TB]at f hx;by_cases hi:i<n;rw[Tp hi]at f hx;exact h.2 i a x f hx;grind
def VDL.append {m:As}{ys:Af}(h:VDL P U τ F l xs)(k:VDL P U τ F m ys):VDL P U τ F (l++m) (xs++ys):=by
 induction l generalizing xs with
 |nil=>obtain⟨h1,_⟩:=h;have:=SZ h1.symm;subst this;exact k
 |cons a l f=>obtain⟨y,g,rfl,h1,h2⟩:=h.uncons;exact VL h1 (f h2)
def VDL.splice {l m:As}{xs ys:Af}(h:VDL P U τ F l xs)(k:VDL P U τ F m ys)(o:Nat):VDL P U τ F (R6 l o m) (splice xs o ys):=by unfold R6 Xe.splice;rw[k.1];exact((h.take o).append k).append (h.drop _)
def VDL.agg (h:VDL P U τ F l xs):VD P U τ F (.agg l) (.agg xs.toArray):= .agg l xs h.1 h.2
def VDL.tup (h:VDL P U τ F l xs):VD P U τ F (.tup l) (.tuple xs.toArray):= .tup l xs h.1 h.2
variable {v:Av}
def VDL.of_agg (h:VD P U τ F (.agg l) v):∃xs:Af,v= .agg xs.toArray/\VDL P U τ F l xs:=by cases h with|agg _ xs h1 h2=>exact⟨xs,rfl,h1,h2⟩
def VN:type_of% @VDL.of_agg:=@VDL.of_agg
def VDL.of_tup (h:VD P U τ F (.tup l) v):∃xs:Af,v= .tuple xs.toArray/\VDL P U τ F l xs:=by cases h with|tup _ xs h1 h2=>exact⟨xs,rfl,h1,h2⟩
def PV.one {k:Kd}{d:Dat}(h:PV P F k v d):v.cells= #[v]:=by cases h<;>rfl
def cU (h:VD P U τ F a v)(e:E0 a=some l):VDL P U τ F l v.cells.toList:=by
 cases h with
 |any v=>simp[E0]at e|agg l' xs h1 h2=>simp only[E0,SQ]at e;subst e;exact⟨by simpa [Value.cells]using h1,λi a x g hx=>h2 i a x g (by simpa [Value.cells]using hx)⟩|int k x=>simp only[E0,SQ]at e;subst e;exact VL (.int k x) VM|bool x=>simp only[E0,SQ]at e;subst e;exact VL (.bool x) VM|str x=>simp only[E0,SQ]at e;subst e;exact VL (.str x) VM|nilp=>simp only[E0,SQ]at e;subst e;exact VL .nilp VM|ptr b z row fld i o h h0=>simp only[E0,SQ]at e;subst e;exact VL (.ptr b z row fld i o h h0) VM|pptr t L row fld i o l c h h0 h1=>simp only[E0,SQ]at e;subst e;exact VL (.pptr t L row fld i o l c h h0 h1) VM|rp row fld h0=>simp only[E0,SQ]at e;subst e;exact VL (.rp row fld h0) VM|rv L z xs h=>simp only[E0,SQ]at e;subst e;exact VL (.rv L z xs h) VM|rpq x v h=>simp only[E0,SQ]at e;subst e;rw[h.one];exact VL (.rpq x v h) VM|nils=>simp only[E0,SQ]at e;subst e;exact VL .nils VM|sl b z off len cap i o c h h0 h1 hc=>simp only[E0,SQ]at e;subst e;exact VL (.sl b z off len cap i o c h h0 h1 hc) VM|sl0 b z off len cap h h0 h1 hc=>simp only[E0,SQ]at e;subst e;exact VL (.sl0 b z off len cap h h0 h1 hc) VM|lst t L clip v h hc=>simp only[E0,SQ]at e;subst e;rw[h.one];exact VL (.lst t L clip v h hc) VM|tup l' xs h1 h2=>simp only[E0,SQ]at e;subst e;exact VL (.tup l' xs h1 h2) VM|fn f l' m xs ys h1 h2 h3 h4=>simp only[E0,SQ]at e;subst e;exact VL (.fn f l' m xs ys h1 h2 h3 h4) VM|nilf=>simp only[E0,SQ]at e;subst e;exact VL .nilf VM|yld=>simp[E0]at e
theorem M3 {f:Fm}{tm:Ao}(h:TD P U τ F f tm){o:Az}(e:N7 f o=some a):∃v,i6 tm o=some v/\VD P U τ F a v:=by
 cases o with
 |tmp t=>
  simp only[N7,SQ]at e;refine⟨_,rfl,?_⟩;cases hl:lk f t with
  |none=>rw[hl]at e;subst e;exact .any _|some b=>rw[hl]at e;subst e;exact h t b hl
 |const v=>
  simp only[N7]at e;cases hc:cst v with
  |false=>grind|true=>simp only[hc,Tk,SQ]at e;subst e;exact⟨v,by simp[i6,hc],Kq v⟩
 |global g=>simp[N7]at e|func g=>simp only[N7,SQ]at e;subst e;exact⟨_,rfl,.fn _ [] [] [] [] rfl (λi a x h _=>by grind) rfl (λi a x h _=>by grind)⟩
theorem sP {f:Fm}{tm:Ao}(h:TD P U τ F f tm):∀ {os:List Az} {l:As},EG f os=some l-> ∃vs,aE tm os=some vs/\VDL P U τ F l vs
 | [],l,e=>by simp only[EG,SQ]at e;subst e;exact⟨[],rfl,VM⟩|o::os,l,e=>by
  simp only[EG]at e;cases j:N7 f o with
  |none=>grind|some a=>
   cases g:EG f os with
   |none=>grind|some l'=>simp only[j,g,SQ]at e;subst e;obtain⟨v,h1,h2⟩:=M3 h j;obtain⟨vs,h3,h4⟩:=sP h g;exact⟨v::vs,by simp[aE,h1,h3],VL h2 h4⟩
def PVD (P:Aw)(U:Ab)(τ:Tau)(F:Ac):List (Nat×SV)->List (Nat×Av)->Prop
 | [],[]=>True| (i,a)::l,(j,v)::m=>i=j/\VD P U τ F a v/\PVD P U τ F l m|_,_=>False
theorem iZ {f:Fm}{tm:Ao}(h:TD P U τ F f tm):∀ {os:List (Nat×Az)} {l:List (Nat×SV)},hG f os=some l-> ∃vs,bT tm os=some vs/\PVD P U τ F l vs
 | [],l,e=>by simp only[hG,SQ]at e;subst e;exact⟨[],rfl,trivial⟩| (i,o)::os,l,e=>by
  simp only[hG]at e;cases j:N7 f o with
  |none=>grind|some a=>
   cases g:hG f os with
   |none=>grind|some l'=>simp only[j,g,SQ]at e;subst e;obtain⟨v,h1,h2⟩:=M3 h j;obtain⟨vs,h3,h4⟩:=iZ h g;exact⟨(i,v)::vs,by simp[bT,h1,h3],rfl,h2,h4⟩
theorem nM {t:Ax}(h:VDL P U τ F l xs){off:Nat}(e:AO P t l off=some a):∃v,rN P t xs off=some v/\VD P U τ F a v:=by
 unfold AO at e;unfold rN;split at e;cases e
 .rename_i d f;rw[f];cases hb:dD d with
  |true=>simp only[hb,Tk]at e⊢;split at e;rename_i i hi;simp at e;subst e;exact⟨_,by grind,((h.drop off).take i.size).agg⟩;cases e
  |false=>simp only[hb,Tl]at e⊢;obtain⟨x,h1,h2⟩:=h.get e;grind
theorem Kt {t:Ax}(h:VD P U τ F a v){f:Nat}{b:SV}(e:Hc P t a f=some b):∃u,xE P t v f=some u/\VD P U τ F b u:=by unfold Hc at e;unfold xE;split at e;rename_i p j;split at e;rename_i m g;split at e;rename_i cs;obtain⟨xs,rfl,hx⟩:=VN h;obtain⟨u,h1,h2⟩:=nM hx e;grind;cases e;cases e;cases e
def EH (h:VD P U τ F a v){i:Nat}{b:SV}(e:wH a i=some b):∃u,Z7 v i=some u/\VD P U τ F b u:=by unfold wH at e;split at e;obtain⟨xs,rfl,hx⟩:=VDL.of_tup h;obtain⟨u,h1,h2⟩:=hx.get e;exact⟨u,by simpa [Z7]using h1,h2⟩;cases e
theorem gX {place:Nat->Bb (Nat×Nat)}:∀ {ps:List (Nat×SV)} {m:List (Nat×Av)} {l:As} {xs:Af} {r:As},VDL P U τ F l xs->PVD P U τ F ps m->rG place l ps=some r-> ∃ys,kE place xs m=some ys/\VDL P U τ F r ys
 | [],[],l,xs,r,h,_,e=>by simp only[rG,SQ]at e;subst e;exact⟨xs,rfl,h⟩| (i,a)::ps,(j,v)::m,l,xs,r,h,hp,e=>by
  obtain⟨rfl,hv,hp'⟩:=hp;simp only[rG]at e;split at e;cases e
  .rename_i off size f;split at e;cases e
   .rename_i vs g;have hc:=cU hv g;simp only[kE,f];rw[hc.1,h.1]at e;cases hb:Nat.beq v.cells.toList.length size&&Nat.ble (off+size) xs.length with
    |false=>grind|true=>simp only[hb,Tk]at e⊢;exact gX (h.splice hc off) hp' e
 | [],_::_,l,xs,r,h,hp,e=>hp.elim|_::_,[],l,xs,r,h,hp,e=>hp.elim
def cW {t:Ax}(e:rI P t=some l):∃z,S9 P t=some z/\VDL P U τ F l z.cells.toList:=by unfold rI at e;split at e;rename_i z hz;simp at e;subst e;exact⟨z,hz,eB _⟩;cases e
theorem Ko {t:Ax}{ps:List (Nat×SV)}{j:List (Nat×Av)}(h:PVD P U τ F ps j)(e:GX P t ps=some a):∃v,wZ P t j=some v/\VD P U τ F a v:=by unfold GX at e;unfold wZ;split at e;cases e;rename_i l hl;obtain⟨z,h1,h2⟩:=cW hl;rw[h1];split at e;rename_i r g;split at e;rename_i w p;split at e;rename_i cs f;simp at e;rw[<-e];obtain⟨ys,h3,h4⟩:=gX h2 h f;exact⟨_,by grind,h4.agg⟩;cases e;cases e;rename_i ie g;split at e;rename_i q m;split at e;rename_i cs f;simp at e;rw[<-e];obtain⟨ys,h3,h4⟩:=gX h2 h f;exact⟨_,by grind,h4.agg⟩;cases e;cases e;cases e
end
def rng (e:E)(k:IntKind):E:=In (y5 (y6 e (.int k.min))) (y6 e (.int (k.max+1)))
def MD (a b:E):E:=match a,b with
 | .int m,.int n=>.int (m.tdiv n)|a,b=>.op .tdiv [a,b]
def ME (a b:E):E:=match a,b with
 | .int m,.int n=>.int (m.tmod n)|a,b=>.op .tmod [a,b]
def Gq (a b:E):E:=match a,b with
 | .str p,.str q=>.str (p++q)|a,b=>.op .sapp [a,b]
def bJ (a:E):E:=match a with
 | .str p=>.int p.length|a=>.op .slen [a]
def zT (a b:E):E:=match a,b with
 | .str p,.str q=>.bool (Op.bytesLess p q)|a,b=>.op .lts [a,b]
section
variable (P :Aw)(U:Ab)
def uP (k:IntKind)(e:E):M SV:=match e with
 | .int n=>i5 (.int k (.int (k.wrap n)))|e=>bif decide (k= .i64)then c8 (l9 U (rng e .i64)) λ_=>i5 (.int k e)else i5 (.int k (.op (.wrap k) [e]))
def scmp (op:BinOp)(a b:E):Bb E:=
 match op with
 | .eql=>some (E9 a b)| .neq=>some (y5 (E9 a b))| .lss=>some (y6 a b)| .leq=>some (y5 (y6 b a))| .gtr=>some (y6 b a)| .geq=>some (y5 (y6 a b))|_=>none
def GW (op:BinOp)(k:IntKind)(a b:E):M SV:=
 match op with
 | .add=>uP U k (y4 a b)| .sub=>uP U k (N6 a b)| .mul=>uP U k (MC a b)| .quo=>c8 (l9 U (y5 (E9 b (.int 0)))) λ_=>uP U k (MD a b)
 | .rem=>c8 (l9 U (y5 (E9 b (.int 0)))) λ_=>i5 (.int k (ME a b))
 |op=>match scmp op a b with|some c=>i5 (.bool c)|none=>b9 "arith"
def sstr (op:BinOp)(a b:E):M SV:=
 match op with
 | .add=>c8 (l9 U (y6 (y4 (bJ a) (bJ b)) (.int 1000000001))) λ_=>i5 (.str (Gq a b))
 | .eql=>i5 (.bool (mW a b))| .neq=>i5 (.bool (y5 (mW a b)))| .lss=>i5 (.bool (zT a b))| .leq=>i5 (.bool (mkOr (zT a b) (mW a b)))| .gtr=>i5 (.bool (y5 (mkOr (zT a b) (mW a b))))| .geq=>i5 (.bool (y5 (zT a b)))|_=>b9 "str"
def Hb (eq:Ax->SV->SV->Bb E)(xs ys:As):List Field->Bb E
 | []=>some (.bool true)|f::fs=>bif f.name== "_" then Hb eq xs ys fs else
  match AO P f.type xs f.offset,AO P f.type ys f.offset with
  |some a,some b=>match eq f.type a b,Hb eq xs ys fs with
   |some p,some q=>some (In p q)|_,_=>none
  |_,_=>none
def kZ :SV->Bool
 | .ptr _ _ _ _| .pptr _ _ _ _| .rp _ _=>true
 |_=>false
def Cu (size:Nat)(x y:SV):Bb E:=
 match x,y with
 | .nilp,.nilp=>some (.bool true)| .rpq e,.nilp=>some (E9 e (.int (-1)))| .nilp,.rpq e=>some (E9 e (.int (-1)))| .nilp,y=>bif kZ y then some (.bool false)else none|x,.nilp=>bif kZ x then some (.bool false)else none| .ptr b z row fld,.ptr b' z' row' fld'=>bif Nat.beq b b'&&Nat.beq z z'&&Nat.beq fld fld'&&Nat.ble 1 z&&Nat.ble 1 size then some (E9 row row')else none|_,_=>none
def IS (x y:SV):Bb E:=
 match x,y with
 | .nils,.nils=>some (.bool true)|_,_=>none
def IR (x y:SV):Bb E:=
 match x,y with
 | .nilf,.nilf=>some (.bool true)| .nilf,.fn _ _ _=>some (.bool false)| .fn _ _ _,.nilf=>some (.bool false)|_,_=>none
def yA :Nat->Ax->SV->SV->Bb E
 |0,_,_,_=>none|d+1,t,x,y=>match P.underlying t with
  |some .bool=>match x,y with
   | .bool a,.bool b=>some (Io a b)|_,_=>none
  |some (.int _)=>match x,y with
   | .int k a,.int k' b=>bif decide (k=k')then some (E9 a b)else none|_,_=>none
  |some .string=>match x,y with
   | .str a,.str b=>some (mW a b)|_,_=>none
  |some (.pointer e)=>match P.info? e with
   |some ie=>Cu ie.size x y|none=>none
  |some (.struct fs)=>match x,y with
   | .agg xs,.agg ys=>bif P.stoodInHeld t then none else Hb P (yA d) xs ys fs.toList|_,_=>none
  |some (.array n e)=>match x,y with
   | .agg xs,.agg ys=>match P.info? e with
    |some _=>Hb P (yA d) xs ys (aFs P e (List.range n))|none=>none
   |_,_=>none
  |some (.slice _)=>IS x y|some (.func _ _ _)=>IR x y|_=>none
def eC (t:Ax):SV->Bool
 | .any=>false| .agg _=> !P.eqGuardType P.depth t|_=>true
def sbin (op:BinOp)(t:Ax)(x y:SV):M SV:=
 match x,y with
 | .int k a,.int k' b=>bif decide (k=k')then GW U op k a b else b9 "kinds"| .str a,.str b=>sstr U op a b|x,y=>match op with
  | .eql=>bif eC P t x then match yA P 10000 t x y with
   |some b=>i5 (.bool b)|none=>b9 "eq" else b9 "eq guard"
  | .neq=>bif eC P t x then match yA P 10000 t x y with
   |some b=>i5 (.bool (y5 b))|none=>b9 "eq" else b9 "eq guard"
  |_=>b9 "binop"
def snil (len:E):M SV:=λs=>.all .b s.fv λd=>
 .br d (.asm (.e (E9 len (.int 0))) ((E9 len (.int 0)).pr U) (.ret (.bool (.bool true),addF {s with fv:=s.fv+1} (E9 len (.int 0)) true))) (.ret (.bool (.bool false),{s with fv:=s.fv+1}))
def DN (op:BinOp)(t:Ax)(x y:SV):Bb E:=match P.underlying t with
 |some (.slice _)=>match op,x,y with
  | .eql,.sl _ _ _ len _,.nils=>some len| .eql,.lst _ L _,.nils=>some (A4 L)|_,_,_=>none
 |_=>none
def Nx (op:BinOp)(t:Ax)(x y:SV):M SV:=match DN P op t x y with
 |some len=>snil U len|none=>sbin P U op t x y
def srune :M SV:=λs=>.all .s s.fv λd=>.asm (.e (y6 (.op .slen [d]) (.int 5))) ((y6 (.op .slen [d]) (.int 5)).pr U) (.ret (.str d,{s with fv:=s.fv+1}))
def NA (src dst:Ax)(x:SV):M SV:=
 match P.underlying src with
 |none=>b9 "conv"|some _=>match P.underlying dst,x with
  |some (.int k),.int k0 e=>match e with
   | .int n=>i5 (.int k (.int (k.wrap n)))|e=>bif Nat.blt k.bits k0.bits then i5 (.int k (.op (.wrap k) [e]))else c8 (l9 U (rng e k)) λ_=>i5 (.int k e)
  |some .string,.str s=>i5 (.str s)|some .string,.int _ _=>srune U|_,_=>b9 "conv"
def sun (op:UnOp)(x:SV):M SV:=
 match op,x with
 | .neg,.int k e=>uP U k (N6 (.int 0) e)| .not,.bool b=>i5 (.bool (y5 b))|_,_=>b9 "unop"
def NO (big:Bool):SV->As->M SV
 |v,[]=>match v with
  | .int k n=>i5 (.int k n)|_=>b9 "min"
 |v,y::ys=>match v,y with
  | .int k a,.int _ b=>c8 (gG U (bif big then y6 a b else y6 b a)) λt=>NO big (.int k (bif t then b else a)) ys
  |_,_=>b9 "min"
end
section
variable {P :Aw}{U:Ab}{τ:Tau}{F:Ac}
variable {k:IntKind}{n:Int}
def Jl (h1:k.min<=n)(h2:n<=k.max):k.wrap n=n:=by unfold IntKind.wrap;unfold IntKind.min at h1;unfold IntKind.max at h2;cases k<;>simp[IntKind.signed,IntKind.bits]at h1 h2⊢ <;>omega
def Nl {e:E}(h:(rng e k).pr U):k.wrap (e.toI U)=e.toI U:=by rw[Va,rng,zP,G1,G4,G4]at h;simp at h;simp only[B4]at h;exact Jl (by omega) (by omega)
def JP (a b:E):(MD a b).toI U=(a.toI U).tdiv (b.toI U):=by unfold MD;split<;>rfl
def JQ (a b:E):(ME a b).toI U=(a.toI U).tmod (b.toI U):=by unfold ME;split<;>rfl
def Gr (a b:E):((Gq a b).den U).toStr=(a.den U).toStr++(b.den U).toStr:=by unfold Gq;split<;>rfl
def P6 (a:E):(bJ a).toI U=((a.den U).toStr.length:Int):=by unfold bJ;split<;>rfl
def iM (a b:E):((zT a b).den U).toBool=Op.bytesLess (a.den U).toStr (b.den U).toStr:=by unfold zT;split<;>rfl
def VD.int' {e:E}(h:e.toI U=n):VD P U τ F (.int k e) (.int k n):=by subst h;exact .int k e
def VJ:type_of% @VD.int':=@VD.int'
def VD.bool' {e:E}{b:Bool}(h:(e.den U).toBool=b):VD P U τ F (.bool e) (.bool b):=by subst h;exact .bool e
def VI:type_of% @VD.bool':=@VD.bool'
variable {s:SS}
def gH {e:E}(h:e.toI U=n):OKp U (uP U k e) s λa=>VD P U τ F a (.int k (k.wrap n)):=by subst h;unfold uP;split;exact Vq (.int k (.int _));by_cases hk:k= .i64;subst hk;simp;exact OKp.need.bind λ_ s' _ _ hp=>Vq (VJ (Nl hp).symm);simp only[hk,decide_false,Tl];exact Vq (.int k (.op (.wrap k) [_]))
def Is {b:E}(h:(y5 (E9 b (.int 0))).pr U):¬b.toI U=0:=by rwa[Va,G1,E5,TP,TS]at h
theorem Pv {op:BinOp}{a b c:E}(h:scmp op a b=some c):lR op (a.toI U) (b.toI U)=some (.bool (c.den U).toBool):=by unfold scmp at h;split at h<;>simp at h<;>subst h<;>simp only[lR,G1,G4,E5,SQ,Value.bool.injEq];grind;grind
def Kn {op:BinOp}{a b:E}:OKp U (GW U op k a b) s λc=>∃v,K9 op k (a.toI U) (b.toI U)=some v/\VD P U τ F c v:=by
 unfold GW;split;exact(gH (j5 a b)).mono λc h=>⟨_,rfl,h⟩
 exact(gH (v7 a b)).mono λc h=>⟨_,rfl,h⟩
 exact(gH (JO a b)).mono λc h=>⟨_,rfl,h⟩
 .refine OKp.need.bind λ_ s' _ _ hp=>(gH (JP a b)).mono λc h=>⟨_,?_,h⟩
  simp[K9,Is hp]
 refine OKp.need.bind λ_ s' _ _ hp=>Vq ⟨_,?_,VJ (JQ a b)⟩;simp[K9,Is hp]
 .split;rename_i c hc;refine Vq ⟨_,?_,.bool c⟩;rw[<-Pv hc];cases op<;>first|rfl| (exact absurd rfl (by omega))
  exact Vl
def aO {b:E}(h:(y5 (y6 b (.int 0))).pr U):0<=b.toI U:=by rw[Va,G1,G4,TP,TS]at h;exact Int.not_lt.1 h
def VD.str' {e:E}{l:Ae}(h:(e.den U).toStr=l):VD P U τ F (.str e) (.string ⟨l.toArray⟩):=by subst h;exact .str e
def Pz {op:BinOp}{a b:E}:OKp U (sstr U op a b) s λc=>∃v,Oz op ⟨(a.den U).toStr.toArray⟩ ⟨(b.den U).toStr.toArray⟩=some v/\VD P U τ F c v:=by unfold sstr;split;refine OKp.need.bind λ_ s' _ _ hp=>?_;rw[Va,G4,j5,P6,P6]at hp;simp at hp;simp only[B4]at hp;refine Vq ⟨_,?_,VD.str' (Gr a b)⟩;have hb:Nat.ble ((a.den U).toStr.length+(b.den U).toStr.length) 1000000000=true:=Ta (by omega);simp only[Oz,hb,Tk];exact Vq ⟨.bool ((a.den U).toStr==(b.den U).toStr),rfl,VI (T6 a b)⟩;exact Vq ⟨.bool (!((a.den U).toStr==(b.den U).toStr)),rfl,VI (by rw[G1,T6])⟩;exact Vq ⟨.bool (Op.bytesLess (a.den U).toStr (b.den U).toStr),rfl,VI (iM a b)⟩;exact Vq ⟨.bool (Op.bytesLess (a.den U).toStr (b.den U).toStr|| (a.den U).toStr==(b.den U).toStr),rfl,VI (by rw[DV,iM,T6])⟩;exact Vq ⟨.bool (!(Op.bytesLess (a.den U).toStr (b.den U).toStr|| (a.den U).toStr==(b.den U).toStr)),rfl,VI (by rw[G1,DV,iM,T6])⟩;exact Vq ⟨.bool (!Op.bytesLess (a.den U).toStr (b.den U).toStr),rfl,VI (by rw[G1,iM])⟩;exact Vl
def sN {j:Ax->SV->SV->Bb E}{r:Ax->Av->Av->Bb Bool}(h:∀t a b v u c,VD P U τ F a v->VD P U τ F b u->j t a b=some c->r t v u=some (c.den U).toBool){l m:As}{xs ys:Af}(hl:VDL P U τ F l xs)(hm:VDL P U τ F m ys):∀ {g:List Field} {c:E},Hb P j l m g=some c->CU P r xs ys g=some (c.den U).toBool
 | [],c,e=>by simp only[Hb,SQ]at e;subst e;rfl|f::g,c,e=>by
  simp only[Hb]at e;simp only[CU];cases hn:f.name== "_" with
  |true=>simp only[hn,Tk]at e⊢;exact sN h hl hm e|false=>
   simp only[hn,Tl]at e⊢;split at e
   .rename_i a b w hb;split at e
    .rename_i p q hp hq;simp at e;subst e;obtain⟨v,h1,h2⟩:=nM hl w;obtain⟨u,h3,h4⟩:=nM hm hb;simp only[h1,h3,h _ _ _ _ _ _ h2 h4 hp];rw[zP];cases z:(p.den U).toBool with
     |true=>exact sN h hl hm hq|false=>rfl
    cases e
   cases e
variable {a:SV}{v:Av}
def AC (h:VD P U τ F a v)(e:kZ a=true):∃p,v= .pointer (some p):=by cases h<;>first|exact⟨_,rfl⟩| (simp[kZ]at e)
variable {x y:SV}{u:Av}{d:Nat}
theorem Ks {size:Nat}(hx:VD P U τ F x v)(hy:VD P U τ F y u){c:E}(e:Cu size x y=some c){t j:Ax}(ht:P.underlying t=some (.pointer j)){ie:Ba}(hi:P.info? j=some ie)(hs:ie.size=size):xeq P (d+1) t v u=some (c.den U).toBool:=by
 unfold Cu at e;split at e;simp only[SQ]at e;subst e;cases hx;cases hy;simp[xeq,ht];rfl
 .rename_i q;simp only[SQ]at e;subst e;cases hy;rw[E5,B4];cases hx with
  |rpq _ _ h=>
  generalize hq:q.toI U=m at h;cases h with
  |rp k=>rw[show decide ((k:Int)= -1)=false from Ut (by omega)];simp[xeq,ht]|rpn=>simp[xeq,ht]
 .rename_i q;simp only[SQ]at e;subst e;cases hx;rw[E5,B4];cases hy with
  |rpq _ _ h=>
  generalize hq:q.toI U=m at h;cases h with
  |rp k=>rw[show decide ((k:Int)= -1)=false from Ut (by omega)];simp[xeq,ht]|rpn=>simp[xeq,ht]
 .cases hp:kZ y with
  |false=>grind|true=>simp only[hp,Tk,SQ]at e;subst e;obtain⟨p,rfl⟩:=AC hy hp;cases hx;simp[xeq,ht];rfl
 .cases hp:kZ x with
  |false=>grind|true=>simp only[hp,Tk,SQ]at e;subst e;obtain⟨p,rfl⟩:=AC hx hp;cases hy;simp[xeq,ht];rfl
 .rename_i b z row fld b' A g f;cases hb:Nat.beq b b'&&Nat.beq z A&&Nat.beq fld f&&Nat.ble 1 z&&Nat.ble 1 size with
  |false=>grind|true=>
   simp only[hb,Tk,SQ]at e;subst e;simp only[SR,TJ,TY]at hb;obtain⟨⟨⟨⟨rfl,rfl⟩,rfl⟩,hz⟩,w⟩:=hb;cases hx with
   |ptr _ _ _ _ i o h h0=>
    cases hy with
    |ptr _ _ _ _ B o' h' r=>
     rw[h]at h';simp only[SQ,SU]at h';obtain⟨rfl,rfl⟩:=h';simp only[xeq,ht,u7,Tk,hi];rw[z4 (by omega),Tl,E5];congr 1;rw[Bool.eq_iff_iff];simp only[TJ,To];constructor
     .intro h;have:row.toN U*z=g.toN U*z:=by omega
      have:=Nat.eq_of_mul_eq_mul_right (by omega) this;grind
     grind
 cases e
theorem VD.not_int (h:VD P U τ F a (.int k n)):a= .any\/ ∃e,a= .int k e:=by
 cases h with
 |any=>grind|int k e=>grind|rpq x v h=>cases h
 |lst t L clip v h hc=>cases h
theorem VD.not_str {s:ByteArray}(h:VD P U τ F a (.string s)):a= .any\/ ∃e,a= .str e:=by
 cases h with
 |any=>grind|str e=>grind|rpq x v h=>cases h
 |lst t L clip v h hc=>cases h
def VD.not_complex {f:FloatKind}{m n:Nat}(h:VD P U τ F a (.complex f m n)):a= .any:=by
 cases h with
 |any=>rfl|rpq x v h=>cases h
 |lst t L clip v h hc=>cases h
def NG (hx:VD P U τ F x v)(hy:VD P U τ F y u){c:E}(e:IS x y=some c){t f:Ax}(ht:P.underlying t=some (.slice f)):xeq P (d+1) t v u=some (c.den U).toBool:=by unfold IS at e;split at e<;>simp at e<;>subst e<;>cases hx<;>cases hy<;>simp[xeq,ht]<;>rfl
def NF (hx:VD P U τ F x v)(hy:VD P U τ F y u){c:E}(e:IR x y=some c){t:Ax}{ps f:Array Ax}{b:Bool}(ht:P.underlying t=some (.func ps f b)):xeq P (d+1) t v u=some (c.den U).toBool:=by unfold IR at e;split at e<;>simp at e<;>subst e<;>cases hx<;>cases hy<;>simp[xeq,ht]<;>rfl
theorem sO :∀(d:Nat) (t:Ax) (a b:SV) (v u:Av) (c:E),VD P U τ F a v->VD P U τ F b u->yA P d t a b=some c->xeq P d t v u=some (c.den U).toBool
 |0,t,a,b,v,u,c,f,hb,e=>by simp[yA]at e|d+1,t,a,b,v,u,c,f,hb,e=>by
  simp only[yA]at e;split at e;rename_i ht;split at e;simp only[SQ]at e;subst e;cases f;cases hb;simp only[xeq,ht,zQ];cases e;rename_i ht;split at e;rename_i k x k' y;by_cases hk:k=k';simp only[hk,Ua,Tk,SQ]at e;subst e;subst hk;cases f;cases hb;simp only[xeq,ht,E5,Ua,Tk];grind;cases e;rename_i ht;split at e;simp only[SQ]at e;subst e;cases f;cases hb;simp only[xeq,ht,T6];cases e;rename_i m ht;split at e;rename_i ie g;exact Ks f hb e ht g rfl;cases e
  .rename_i j ht;split at e
   .rename_i xs ys;cases hs:P.stoodInHeld t with
    |true=>grind|false=>simp only[hs,Tl]at e;obtain⟨vs,rfl,h1⟩:=VN f;obtain⟨us,rfl,h2⟩:=VN hb;simp only[xeq,ht,hs,Tl];exact sN (sO d) h1 h2 e
   cases e
  rename_i n e' ht;split at e;split at e;rename_i i hi;obtain⟨vs,rfl,h1⟩:=VN f;obtain⟨us,rfl,h2⟩:=VN hb;simp only[xeq,ht,hi];exact sN (sO d) h1 h2 e;cases e;cases e;rename_i ht;exact NG f hb e ht;rename_i ht;exact NF f hb e ht;cases e
def PV.guard {k:Kd}{d:Dat}(h:PV P F k v d)(t:Ax):O4 P t v=true:=by cases h<;>rfl
def iX {t:Ax}(h:VD P U τ F a v)(e:eC P t a=true):O4 P t v=true:=by
 cases h with
 |any=>simp[eC]at e|yld=>first|exact e|rfl|simp[eC,O4]at e⊢
 |agg l xs h1 h2=>exact e|lst f L clip v h hc=>exact h.guard t|rpq x v h=>exact h.guard t|_=>rfl
def V5 {op:BinOp}{t:Ax}{w:Av}(h:bS P op t v u=some w):M5 P op t v u=some w:=by unfold M5;rw[h]
theorem T9 {op:BinOp}{t:Ax}(h1:∀k a k' b,v= .int k a->u= .int k' b->False)(h2:∀a b,v= .string a->u= .string b->False)(h3:∀f m n,u= .complex f m n->False):bS P op t v u=match op with
  | .eql=>bif O4 P t v then match xeq P 10000 t v u with
   |some b=>some (.bool b)|none=>none else none
  | .neq=>bif O4 P t v then match xeq P 10000 t v u with
   |some b=>some (.bool (!b))|none=>none else none
  |_=>none:=by
 unfold bS;grind
def Oo {op:BinOp}{t:Ax}{a b:Int}(h:K9 op k a b=some v):bS P op t (.int k a) (.int k b)=some v:=by simp only[bS,Ua,Tk];exact h
theorem Pt {op:BinOp}{t:Ax}{b:SV}(g:VD P U τ F a v)(hb:VD P U τ F b u):OKp U (sbin P U op t a b) s λc=>∃w,M5 P op t v u=some w/\VD P U τ F c w:=by
 unfold sbin;split
 .rename_i k x k' y;cases g;cases hb;by_cases hk:k=k';subst hk;simp only[Ua,Tk];exact Kn.mono λc ⟨w,h1,h2⟩=>⟨w,V5 (Oo h1),h2⟩
  simp only[hk,decide_false,Tl];exact Vl
 cases g;cases hb;exact Pz.mono λc ⟨w,h1,h2⟩=>⟨w,V5 h1,h2⟩
 .rename_i hi hs;have j:∀c,eC P t a=true->yA P 10000 t a b=some c->(∀k p k' q,v= .int k p->u= .int k' q->False)/\(∀p q,v= .string p->u= .string q->False)/\(∀f m n,u= .complex f m n->False):=by
   intro c hg hq;have na:a≠ .any:=λe=>by subst e;simp[eC]at hg
   have nb:b≠ .any:=by
    intro e;have:∀d,yA P (d+1) t a .any=none:=by intro d;simp only[yA];split<;>(try (split<;>first|rfl| (rename_i h;cases h)|skip));all_goals (first| (unfold Cu;split<;>first|rfl| (rename_i h;cases h;done)| (simp[kZ]))| (unfold IS;split<;>first|rfl| (rename_i h;cases h;done))| (unfold seqOther;split<;>first|rfl| (rename_i h;cases h;done))| (unfold IR;split<;>first|rfl| (rename_i h;cases h;done))|simp_all)
    grind
   refine⟨λk p k' q r z=>?_,λp q r z=>?_,λf m n e=>?_⟩;subst r;subst z;obtain⟨e,rfl⟩:=g.not_int.resolve_left na;obtain⟨e',rfl⟩:=hb.not_int.resolve_left nb;grind;subst r;subst z;obtain⟨e,rfl⟩:=g.not_str.resolve_left na;obtain⟨e',rfl⟩:=hb.not_str.resolve_left nb;grind;subst e;exact nb hb.not_complex
  split
  .cases hg:eC P t a with
   |false=>exact Vl|true=>split;rename_i c hc;obtain⟨k1,k2,k3⟩:=j c hg hc;refine Vq ⟨_,V5 ?_,.bool c⟩;rw[T9 k1 k2 k3];simp only[iX g hg,Tk,sO _ _ _ _ _ _ _ g hb hc];exact Vl
  .cases hg:eC P t a with
   |false=>exact Vl|true=>split;rename_i c hc;obtain⟨k1,k2,k3⟩:=j c hg hc;refine Vq ⟨_,V5 ?_,VI (G1 c)⟩;rw[T9 k1 k2 k3];simp only[iX g hg,Tk,sO _ _ _ _ _ _ _ g hb hc];exact Vl
  exact Vl
theorem Ny {op:BinOp}{t:Ax}{b:SV}(g:VD P U τ F a v)(hb:VD P U τ F b u):OKp U (Nx P U op t a b) s λc=>∃w,M5 P op t v u=some w/\VD P U τ F c w:=by
 unfold Nx;split
 .rename_i len h;unfold DN at h;split at h
  .rename_i q ht;split at h
   .rename_i b' z off f cap;simp only[SQ]at h;subst h;have hg:O4 P t v=true:=iX g rfl;cases hb;intro Q hq hf;cases g with
    |sl _ _ _ _ _ i o c k h0 h1 hc=>refine⟨_,_,(hq false).2 (λh=>by cases h),⟨rfl,rfl,⟨[],rfl⟩,rfl⟩,hf,.bool false,V5 ?_,.bool (.bool false)⟩;rw[T9 (λ_ _ _ _ h=>by grind) (λ_ _ h=>by grind) (λ_ _ _ h=>by grind)];simp only[hg,Tk];simp[xeq,ht]|sl0 _ _ _ _ _ k h0 h1 hc=>have hp:(E9 f (.int 0)).pr U:=(Va U _).2 (by rw[E5];simp only[h1];rfl);refine⟨_,_,(hq true).1 ((Va U _).2 rfl) hp,⟨rfl,rfl,⟨[(E9 f (.int 0),true)],rfl⟩,rfl⟩,hf.cons ((Va U _).1 hp),.bool true,V5 ?_,.bool (.bool true)⟩;rw[T9 (λ_ _ _ _ h=>by grind) (λ_ _ h=>by grind) (λ_ _ _ h=>by grind)];simp only[hg,Tk];simp[xeq,ht]
   .rename_i q L clip;cases h;have hg:O4 P t v=true:=iX g rfl;cases hb;intro Q hq hf;cases g with
    |lst _ _ _ _ j _=>
     have p:∀(v:Av) (d:Dat),PV P F (.sl q) v d->v= .slice none 0 0->d.rows=[]:=λv d h e=>by
      cases h with
      |nils=>rfl|vague=>rfl|sl=>cases e
     have m:∀(v:Av) (d:Dat),PV P F (.sl q) v d->v= .slice none 0 0\/ ∃a l c,v= .slice (some a) l c:=λv d h=>by
      cases h with
      |nils=>grind|vague=>grind|sl=>grind
     by_cases hv:v= .slice none 0 0
     .subst hv;have hL:(L.toR U).length=0:=by have h0:=p _ (.l (L.toR U)) j rfl;rw[show L.toR U=[]from h0];rfl
      have hp:=(Va U _).2 (by rw[E5];show decide ((A4 L).toI U=(E.int 0).toI U)=true;rw[i7,hL];rfl);refine⟨_,_,(hq true).1 ((Va U _).2 rfl) hp,⟨rfl,rfl,⟨[(E9 (A4 L) (.int 0),true)],rfl⟩,rfl⟩,hf.cons ((Va U _).1 hp),.bool true,V5 ?_,.bool (.bool true)⟩;rw[T9 (λ_ _ _ _ h=>by grind) (λ_ _ h=>by grind) (λ_ _ _ h=>by grind)];simp only[hg,Tk];simp[xeq,ht]
     obtain⟨a,l,c,rfl⟩:=(m _ _ j).resolve_left hv;refine⟨_,_,(hq false).2 (λh=>by cases h),⟨rfl,rfl,⟨[],rfl⟩,rfl⟩,hf,.bool false,V5 ?_,.bool (.bool false)⟩;rw[T9 (λ_ _ _ _ h=>by grind) (λ_ _ h=>by grind) (λ_ _ _ h=>by grind)];simp only[hg,Tk];simp[xeq,ht]
   cases h
  cases h
 exact Pt g hb
theorem ON (r:Int):(Utf8.encode r).data.toList.length<=4:=by unfold Utf8.encode;grind
def NC {src dst:Ax}(g:VD P U τ F a v):OKp U (NA P U src dst a) s λc=>∃w,nY P src dst v=some w/\VD P U τ F c w:=by
 unfold NA;split;exact Vl
 .rename_i d f;split
  .rename_i k k0 e hk;cases g;split;rename_i n;exact Vq ⟨.int k (k.wrap n),by simp only[nY,f,hk];rfl,VJ rfl⟩
   .cases Nat.blt k.bits k0.bits with
    |true=>exact Vq ⟨.int k (k.wrap (e.toI U)),by simp only[nY,f,hk],VJ rfl⟩|false=>exact OKp.need.bind λ_ s' _ _ hp=>Vq ⟨.int k (k.wrap (e.toI U)),by simp only[nY,f,hk],VJ (Nl hp).symm⟩
  rename_i e hk;cases g;exact Vq ⟨_,by simp only[nY,f,hk],.str e⟩;rename_i e hk;cases g;intro Q hq hf;exact⟨_,_,hq (Utf8.encode (e.toI U)).data.toList ((Va U _).2 (by exact decide_eq_true (by have:=ON (e.toI U);show((Utf8.encode (e.toI U)).data.toList.length:Int)<5;omega))),⟨rfl,rfl,⟨[],rfl⟩,rfl⟩,hf,.string (Utf8.encode (e.toI U)),by simp only[nY,f,hk,Oy],.str (.dat _ (.s _))⟩;exact Vl
def Sp {op:UnOp}(f:VD P U τ F a v):OKp U (sun U op a) s λc=>∃w,xun op v=some w/\VD P U τ F c w:=by
 unfold sun;split;cases f;exact(gH (v7 _ _)).mono λc h=>⟨_,rfl,h⟩
 cases f;exact Vq ⟨_,rfl,VI (G1 _)⟩;exact Vl
def IX {big:Bool}:∀ {l:As} {xs:Af} {a:SV} {v:Av} {s:SS},VD P U τ F a v->VDL P U τ F l xs->OKp U (NO U big a l) s λc=>∃w,xI big v xs=some w/\VD P U τ F c w
 | [],xs,a,v,s,f,hl=>by have:=SZ hl.1.symm;subst this;unfold NO;split;cases f;exact Vq ⟨_,rfl,.int _ _⟩;exact Vl
 |b::l,xs,a,v,s,f,hl=>by
  obtain⟨y,ys,rfl,hb,g⟩:=hl.uncons;unfold NO;split
  .rename_i k x k' z;cases f;cases hb;refine OKp.test.bind λt s' _ _ ht=>?_;have e:(bif big then(bif decide (x.toI U<z.toI U)then z.toI U else x.toI U)else(bif decide (z.toI U<x.toI U)then z.toI U else x.toI U))=(bif t then z else x).toI U:=by cases big;simp only[Tl,G4]at ht⊢;rw[ht];cases t<;>rfl;simp only[Tk,G4]at ht⊢;rw[ht];cases t<;>rfl
   have:=IX (big:=big) (s:=s') (VJ (k:=k) e.symm) g;exact this
  exact Vl
end
section
variable {P :Aw}{U:Ab}
structure Ext (τ:Tau)(F:Ac)(s:SS)(hp:Hp)(τ':Tau)(F':Ac)(s':SS)(hp':Hp):Prop where
 t:Tle τ τ'
 f:Fle F F'
 nx:hp.nx<=hp'.nx
 snx:s.nx<=s'.nx
 st:∀b,b<s.nx->τ' b=τ b
 low:∀b x,s'.get b=some x->b<s.nx-> ∃y,s.get b=some y
 hh:∃l,s'.h=l++s.h/\(∀i,i<hp.nx->(∀b x o,s.get b=some x->τ b=some (some (i,o))->b∈l.map Prod.fst->False)->hp'.m.get i=hp.m.get i)/\
  (∀b i o,s.nx<=b->τ' b=some (some (i,o))->hp.nx<=i\/ ∃b0 x o0,s.get b0=some x/\τ b0=some (some (i,o0))/\b0∈l.map Prod.fst)/\
  (∀i y,i<hp.nx->F' i=some y->F i=some y\/ ∃b o,τ' b=some (some (i,o))/\b∈l.map Prod.fst)/\
  ((∀p∈l,p.2≠none)-> ∀i y,F' i=some y->F i=some y)
 hf:∃l,s'.fc=l++s.fc
 win:∃l,s'.h=l++s.h/\ ∀b c e z i o cs n,s.get b=some (.cells c e z)->τ b=some (some (i,o))->i<hp.nx->hp.m.get i=some (.cells cs n e z)->(∀x,(b,x)∈l-> ∃c',x=some (.cells c' e z)/\c'.length=c.length)->
  ∃cs',hp'.m.get i=some (.cells cs' n e z)/\ ∀j,j<o\/o+c.length<=j->cs'.get j=cs.get j
variable {b:Nat}
theorem Ry {l m:List (Nat×Bb B0)}{c:As}{e z:Nat}{x0:B0}(h0:(match lk m b with|some x=>x|none=>none)=some x0)(hx:∃c0,x0= .cells c0 e z/\c0.length=c.length)(h:∀x,(b,x)∈l-> ∃c',x=some (.cells c' e z)/\c'.length=c.length):∃c',(match lk (l++m) b with|some x=>x|none=>none)=some (.cells c' e z)/\c'.length=c.length:=by
 induction l with
 |nil=>grind|cons p l f=>obtain⟨k,y⟩:=p;rw[Uf,z6];grind
variable {τ':Tau}{F':Ac}{s':SS}{hp':Hp}
theorem Ext.kept {τ:Tau}{F:Ac}{s:SS}{hp:Hp}(h:Ext τ F s hp τ' F' s' hp'):∀i,i<hp.nx->(∀b x o,s.get b=some x->τ b=some (some (i,o))->False)->hp'.m.get i=hp.m.get i:=by obtain⟨l,_,h1,_⟩:=h.hh;grind
theorem Ext.fresh {τ:Tau}{F:Ac}{s:SS}{hp:Hp}(h:Ext τ F s hp τ' F' s' hp'):∀b i o,s.nx<=b->τ' b=some (some (i,o))->hp.nx<=i\/ ∃b0 x o0,s.get b0=some x/\τ b0=some (some (i,o0)):=by obtain⟨l,_,_,h1,_⟩:=h.hh;grind
variable {x:B0}
def SD.bound {τ:Tau}{F:Ac}{s:SS}{hp:Hp}(h:SD P U τ F s hp)(hb:s.get b=some x):b<s.nx:=by
 have:τ b≠none:=by rcases h.live b x hb with⟨i,o,y,h1,_⟩| ⟨h1,_⟩<;>rw[h1]<;>simp
 exact Nat.lt_of_not_le λf=>this (h.new b f)
def Ext.refl {τ:Tau}{F:Ac}{s:SS}{hp:Hp}(h:SD P U τ F s hp):Ext τ F s hp τ F s hp:=
 ⟨VG τ,Vd F,Tq _,Tq _,λ_ _=>rfl,λb x hb _=>⟨x,hb⟩,⟨[],rfl,λ_ _ _=>rfl,λb i o hb ht=>(by rw[h.new b hb]at ht;cases ht),λ_ _ _ h=>.inl h,λ_ _ _ h=>h⟩,⟨[],rfl⟩,⟨[],rfl,λ_ _ _ _ _ _ cs _ _ _ _ hg _=>⟨cs,hg,λ_ _=>rfl⟩⟩⟩
variable {F2:Ac}
theorem Ext.trans {τ τ1 τ2:Tau}{F F1:Ac}{s s1 s2:SS}{hp hp1 hp2:Hp}(h:Ext τ F s hp τ1 F1 s1 hp1)(k:Ext τ1 F1 s1 hp1 τ2 F2 s2 hp2):Ext τ F s hp τ2 F2 s2 hp2:=by
 obtain⟨C,E,G,a3,H,I⟩:=h.hh;obtain⟨D,J,K,L,M,N⟩:=k.hh;refine⟨h.t.trans k.t,h.f.trans k.f,Ub h.nx k.nx,Ub h.snx k.snx,λb hb=>?_,λb x hb hlt=>?_,⟨D++C,by rw[J,E,Th],λi hi hn=>?_,λb i o hb ht=>?_,λi y hi hy=>?_,λhp i y hy=>I (λp h=>hp p (by grind)) i y (N (λp h=>hp p (UL _ h)) i y hy)⟩,?_,?_⟩;rw[k.st b (TX hb h.snx),h.st b hb];obtain⟨y,hy⟩:=k.low b x hb (TX hlt h.snx);exact h.low b y hy hlt;rw[K i (TX hi h.nx) ?_,G i hi λb x o hb ht hm=>hn b x o hb ht (by grind)];intro b x o hb ht hm;by_cases hlt:b<s.nx;obtain⟨y,hy⟩:=h.low b x hb hlt;rw[h.st b hlt]at ht;grind;grind
 .have W:∀b i o,s.nx<=b->τ1 b=some (some (i,o))->hp.nx<=i\/ ∃b0 x o0,s.get b0=some x/\τ b0=some (some (i,o0))/\b0∈(D++C).map Prod.fst:=by grind
  by_cases hlt:b<s1.nx;rw[k.st b hlt]at ht;grind;rcases L b i o (Uv hlt) ht with h1| ⟨b0,y,o0,h1,h2,h3⟩;exact .inl (Ub h.nx h1);by_cases g:b0<s.nx;obtain⟨z,hz⟩:=h.low b0 y h1 g;rw[h.st b0 g]at h2;grind;grind
 rcases M i y (TX hi h.nx) hy with h1| ⟨b,o,h1,h2⟩;rcases H i y hi h1 with h2| ⟨b,o,h2,h3⟩;grind;exact .inr ⟨b,o,k.t _ _ h2,by simp only[TQ,TG];exact .inr h3⟩;grind;obtain⟨l,e⟩:=h.hf;obtain⟨m,e'⟩:=k.hf;exact⟨m++l,by rw[e',e,Th]⟩
 .obtain⟨l,B,Z⟩:=h.win;obtain⟨m,Q,w2⟩:=k.win;refine⟨m++l,by rw[Q,B,Th],λb c e z i o cs n hb ht hi hg hl=>?_⟩;obtain⟨r,R,S⟩:=Z b c e z i o cs n hb ht hi hg λx hx=>hl x (by grind);obtain⟨O,q,A⟩:=Ry hb ⟨c,rfl,rfl⟩ λx hx=>hl x (UA _ hx);rw[<-B]at q;obtain⟨w,T,V⟩:=w2 b O e z i o r n q (h.t _ _ ht) (TX hi h.nx) R λx hx=>let⟨c',X,Y⟩:=hl x (UL _ hx);⟨c',X,Y.trans A.symm⟩
  exact⟨w,T,λj hj=>(V j (by omega)).trans (S j hj)⟩
def SD.only {τ:Tau}{F:Ac}{s:SS}{hp:Hp}(h:SD P U τ F s hp)(f:Y5 s s')(hf:FT U s'.fc):SD P U τ F s' hp:=
 ⟨λb x hb=>h.live b x (by rw[<-f.get];exact hb),λb c x y i o j q hb hc=>h.inj b c x y i o j q (by rw[<-f.get];exact hb) (by rw[<-f.get];exact hc),
  h.frz,h.lt,h.flt,λb hb=>h.new b (by rw[<-f.nx];exact hb),hf,λr hr=>h.fz r (by rw[<-f.fz];exact hr)⟩
def Ext.only {τ:Tau}{F:Ac}{s:SS}{hp:Hp}(h:SD P U τ F s hp)(f:Y5 s s'):Ext τ F s hp τ F s' hp:=
 ⟨VG τ,Vd F,Tq _,by rw[f.nx];exact Tq _,λ_ _=>rfl,λb x hb _=>⟨x,by rw[<-f.get];exact hb⟩,
  ⟨[],by rw[f.h];rfl,λ_ _ _=>rfl,λb i o hb ht=>(by rw[h.new b hb]at ht;cases ht),λ_ _ _ h=>.inl h,λ_ _ _ h=>h⟩,f.fc,⟨[],by rw[f.h];rfl,λ_ _ _ _ _ _ cs _ _ _ _ hg _=>⟨cs,hg,λ_ _=>rfl⟩⟩⟩
def Vc:type_of% @Ext.only:=@Ext.only
variable (P U) in
def OKh {α:Type}(m:M α)(τ:Tau)(F:Ac)(s:SS)(hp:Hp)(R:α->Tau->(Ac)->Hp->Prop):Prop:=
 ∀Q,(m s).vc U Q->SD P U τ F s hp-> ∃a s',Q (a,s')/\ ∃τ' F' hp',Ext τ F s hp τ' F' s' hp'/\SD P U τ' F' s' hp'/\R a τ' F' hp'
variable {τ :Tau}{F:Ac}{s:SS}{hp:Hp}
def OKh.ret {α:Type}{a:α}{R:α->Tau->(Ac)->Hp->Prop}(h:R a τ F hp):OKh P U (i5 a) τ F s hp R:=λ_ hq hs=>⟨a,s,hq,τ,F,hp,Ext.refl hs,hs,h⟩
def Vk:type_of% @OKh.ret:=@OKh.ret
def OKh.fail {α:Type}{t:String}{R:α->Tau->(Ac)->Hp->Prop}:OKh P U (b9 t:M α) τ F s hp R:=λ_ hq _=>hq.elim
def Vi:type_of% @OKh.fail:=@OKh.fail
def OKp.up {α:Type}{m:M α}{R:α->Prop}(h:OKp U m s R):OKh P U m τ F s hp λa τ' F' hp'=>τ'=τ/\F'=F/\hp'=hp/\R a:=by intro Q hq hs;obtain⟨a,s',h1,h2,h3,h4⟩:=h Q hq hs.fc;exact⟨a,s',h1,τ,F,hp,Vc hs h2,hs.only h2 h3,rfl,rfl,rfl,h4⟩
def OKh.mono {α:Type}{m:M α}{R g:α->Tau->(Ac)->Hp->Prop}(h:OKh P U m τ F s hp R)(hr:∀a τ' F' hp',Tle τ τ'->Fle F F'->R a τ' F' hp'->g a τ' F' hp'):OKh P U m τ F s hp g:=by intro Q hq hs;obtain⟨a,s',h1,τ',F',hp',h2,h3,h4⟩:=h Q hq hs;exact⟨a,s',h1,τ',F',hp',h2,h3,hr _ _ _ _ h2.t h2.f h4⟩
def OKh.bind {α g:Type}{m:M α}{k:α->M g}{R:α->Tau->(Ac)->Hp->Prop}{f:g->Tau->(Ac)->Hp->Prop}(h:OKh P U m τ F s hp R)(hk:∀a τ' F' s' hp',Ext τ F s hp τ' F' s' hp'->SD P U τ' F' s' hp'->R a τ' F' hp'->OKh P U (k a) τ' F' s' hp' f):OKh P U (c8 m k) τ F s hp f:=by intro Q hq hs;unfold c8 at hq;rw[VH]at hq;obtain⟨a,s1,h1,τ1,F1,hp1,h2,h3,h4⟩:=h _ hq hs;obtain⟨b,s2,j,τ2,F2,hp2,p,q,r⟩:=hk a τ1 F1 s1 hp1 h2 h3 h4 Q h1 h3;exact⟨b,s2,j,τ2,F2,hp2,Ext.trans h2 p,q,r⟩
def OKh.read {α:Type}{k:SS->M α}{R:α->Tau->(Ac)->Hp->Prop}(h:OKh P U (k s) τ F s hp R):OKh P U (v8 k) τ F s hp R:=h
def Vj:type_of% @OKh.read:=@OKh.read
def OKh.bindp {α g:Type}{m:M α}{k:α->M g}{R:α->Prop}{f:g->Tau->(Ac)->Hp->Prop}(h:OKp U m s R)(hk:∀a s',Y5 s s'->SD P U τ F s' hp->R a->OKh P U (k a) τ F s' hp f):OKh P U (c8 m k) τ F s hp f:=by intro Q hq hs;unfold c8 at hq;rw[VH]at hq;obtain⟨a,s1,h1,h2,h3,h4⟩:=h _ hq hs.fc;have hs1:=hs.only h2 h3;obtain⟨b,s2,j,τ2,F2,hp2,p,q,r⟩:=hk a s1 h2 hs1 h4 Q h1 hs1;exact⟨b,s2,j,τ2,F2,hp2,Ext.trans (Vc hs h2) p,q,r⟩
def Vg:type_of% @OKh.bindp:=@OKh.bindp
theorem OKh.bindE {α g:Type}{m:M α}{k:α->M g}{R:α->Tau->(Ac)->Hp->Prop}{f:g->Tau->(Ac)->Hp->Prop}(h:OKh P U m τ F s hp R)(hk:∀a τ1 F1 s1 hp1,Ext τ F s hp τ1 F1 s1 hp1->SD P U τ1 F1 s1 hp1->R a τ1 F1 hp1-> ∀Q,(k a s1).vc U Q-> ∃b s2,Q (b,s2)/\ ∃τ2 F2 hp2,Ext τ F s hp τ2 F2 s2 hp2/\SD P U τ2 F2 s2 hp2/\f b τ2 F2 hp2):OKh P U (c8 m k) τ F s hp f:=by intro Q hq hs;unfold c8 at hq;rw[VH]at hq;obtain⟨a,s1,h1,τ1,F1,hp1,h2,h3,h4⟩:=h _ hq hs;grind
theorem Ext.shrink {τ:Tau}{F:Ac}{s:SS}{hp hp2:Hp}(h:Ext τ F s hp τ' F' s' hp')(hn:hp'.nx<=hp2.nx)(hm:∀i,i<hp.nx->hp2.m.get i=hp'.m.get i)(hF:∀i y,F2 i=some y->F' i=some y)(hf:Fle F F2):Ext τ F s hp τ' F2 s' hp2:=by
 obtain⟨l,g,j,p,q,r⟩:=h.hh;exact⟨h.t,hf,Ub h.nx hn,h.snx,h.st,h.low,(by grind),h.hf,
  let⟨l,f,w⟩:=h.win;⟨l,f,λb c e z i o cs n hb ht hi hg hl=>by grind⟩⟩
variable {y:Blk}
theorem Ext.dfr {τ:Tau}{F:Ac}{s:SS}{hp:Hp}(h:Ext τ F s hp τ' F' s' hp')(hs:SD P U τ F s hp){r:Nat}(hr:r<hp.nx)(hg:hp.m.get r=some y)(hy:y= .dfr\/F r=some y):hp'.m.get r=some y:=by
 rw[h.kept r hr λb x o hb ht=>?_,hg];rcases hs.live b x hb with⟨i,o',f,h1,h2,h3,h4⟩| ⟨h1,_⟩
 .rw[ht]at h1;cases h1;rw[hg]at h2;cases h2;rcases hy with rfl|hy
  .cases x with
   |cells l e z=>obtain⟨cs,n,h,_⟩:=h4;cases h
   |rows L e z ph=>obtain⟨cs,n,h,_⟩:=h4;cases h
   |iter s p=>obtain⟨_,n,h,_⟩:=h4;cases h
   |reg r L z=>obtain⟨_,_,cs,h,_⟩:=h4;cases h
  grind
 grind
def put (τ:Tau)(b:Nat)(p:Bb (Nat×Nat)):Tau:=λc=>if c=b then some p else τ c
def t8 (τ:Tau)(b:Nat)(p:Bb (Nat×Nat)):put τ b p b=some p:=by simp[put]
def B5 (τ:Tau){c:Nat}(p:Bb (Nat×Nat))(h:c≠b):put τ b p c=τ c:=by simp[put,h]
theorem bN {τ:Tau}(p:Bb (Nat×Nat))(h:τ b=none):Tle τ (put τ b p):=λc q hc=>by by_cases e:c=b;grind;rw[B5 τ p e];exact hc
variable {o:Nat}
def BD.mono {τ:Tau}{F:Ac}(ht:Tle τ τ')(hf:Fle F F')(h:BD P U τ F o x y):BD P U τ' F' o x y:=by
 cases x with
 |cells l e z=>obtain⟨cs,n,h1,h2,h3⟩:=h;exact⟨cs,n,h1,h2,λj a q=>let⟨x,k1,k2⟩:=h3 j a q;⟨x,k1,k2.mono ht hf⟩⟩
 |rows L e z ph=>obtain⟨cs,n,h1,⟨h2,h3,h4,g⟩,m⟩:=h;exact⟨cs,n,h1,⟨h2,h3,h4,λr k row d hr hk=>let⟨x,k1,k2⟩:=g r k row d hr hk;⟨x,k1,λkd f=>(k2 kd f).mono P hf⟩⟩,m⟩
 |iter s p=>exact h|reg r L z=>obtain⟨h0,m,cs,h1,h2,h3,h4,g⟩:=h;exact⟨h0,ht _ _ m,cs,h1,h2,h3,h4,λr k row d hr hk=>let⟨x,k1,k2⟩:=g r k row d hr hk;⟨x,k1,λkd f=>(k2 kd f).mono P hf⟩⟩
def Jt.mono {τ:Tau}{F:Ac}(ht:Tle τ τ')(hf:Fle F F'){r:Nat×E×Ax×Nat}(h:Jt P U τ F r):Jt P U τ' F' r:=by rcases h with⟨i,o,cs,n,h1,h2,h3,h4,g,j⟩| ⟨h1,h2⟩;exact .inl ⟨i,o,cs,n,ht _ _ h1,hf _ _ h2,h3,h4,g,λr k row d hr hk=>let⟨x,k1,k2⟩:=j r k row d hr hk;⟨x,k1,λkd f=>(k2 kd f).mono P hf⟩⟩;exact .inr ⟨ht _ _ h1,h2⟩
def OB (hp:Hp)(y:Blk)(i:Nat)(h:i<hp.nx):(hp.m.set hp.nx (some y)).get i=hp.m.get i:=by rw[VF,Tn (by omega)]
def fK (s:SS)(x:B0):SS:= {s with h:=(s.nx,some x)::s.h,nx:=s.nx+1}
def gZ (s:SS)(x:B0)(b:Nat):(fK s x).get b=if b=s.nx then some x else s.get b:=by have:=Vv s s.nx b (some x);exact this
def dZ (x:B0):M Nat:=λs=>.ret (s.nx,fK s x)
theorem SD.alloc (hs:SD P U τ F s hp){p:Bb (Nat×Nat)}(hn:hp.nx<=hp'.nx)(hk:∀i,i<hp.nx->hp'.m.get i=hp.m.get i)(hx:(∃i o y,p=some (i,o)/\hp.nx<=i/\i<hp'.nx/\hp'.m.get i=some y/\BD P U (put τ s.nx p) F o x y)\/(p=none/\ ∃L e z ph,x= .rows L e z ph/\L.toR U=[]/\z=(kf P e).length/\ph.toI U<=0)):Ext τ F s hp (put τ s.nx p) F (fK s x) hp'/\SD P U (put τ s.nx p) F (fK s x) hp':=by
 have h0:=hs.new _ (Tq _);have ht:=bN p h0;refine⟨⟨ht,Vd F,hn,by simp[fK],λb hb=>B5 τ p (by omega),λb y hb hlt=>?_,⟨[(s.nx,some x)],rfl,λi hi _=>hk i hi,λb i o hb f=>?_,λ_ _ _ h=>.inl h,λ_ _ _ h=>h⟩,⟨[],rfl⟩,⟨[(s.nx,some x)],rfl,λ_ _ _ _ i _ cs _ _ _ hi hg _=>(by grind)⟩⟩,?_⟩;rw[gZ,Tn (by omega)]at hb;exact⟨y,hb⟩;by_cases e:b=s.nx;subst e;rw[t8]at f;grind;rw[B5 τ p e,hs.new b hb]at f;cases f
 .have old:∀b y,b≠s.nx->(fK s x).get b=some y->s.get b=some y:=λb y e hb=>by rw[gZ,Tn e]at hb;exact hb
  refine⟨λb y hb=>?_,λb c y z i o j q hb hc A B g=>?_,λi y hi=>by rw[hk i (hs.flt i y hi)];exact hs.frz i y hi,λb i o hb=>?_,λi y hi=>TX (hs.flt i y hi) hn,λb hb=>?_,hs.fc,λr hr=>(hs.fz r hr).mono ht (Vd F)⟩
  .by_cases e:b=s.nx
   .subst e;rw[gZ,Tp rfl,SQ]at hb;subst hb;rcases hx with⟨i,o,y,rfl,h1,h2,h3,h4⟩| ⟨rfl,h⟩
    .refine .inl ⟨i,o,y,t8 _ _ _,h3,?_,h4⟩;cases hF:F i with
     |none=>rfl|some b=>exact absurd (hs.flt i b hF) (by omega)
    exact .inr ⟨t8 _ _ _,h⟩
   rcases hs.live b y (old b y e hb)with⟨i,o,D,h1,h2,h3,h4⟩| ⟨h1,h2⟩;exact .inl ⟨i,o,D,by rw[B5 τ p e];exact h1,by rw[hk i (hs.lt b i o h1)];exact h2,h3,h4.mono ht (Vd F)⟩;exact .inr ⟨by rw[B5 τ p e];exact h1,h2⟩
  .have new:∀c i o,c=s.nx->put τ s.nx p c=some (some (i,o))->hp.nx<=i:=by intro c i o hc h;subst hc;rw[t8]at h;grind
   by_cases C:b=s.nx;have h1:=new b i o C B;have w:c≠s.nx:=λh=>A (by omega);rw[B5 τ p w]at g;have:=hs.lt c j q g;omega;rw[B5 τ p C]at B;by_cases w:c=s.nx;have h1:=new c j q w g;have:=hs.lt b i o B;omega;rw[B5 τ p w]at g;exact hs.inj b c y z i o j q (old b y C hb) (old c z w hc) A B g
  by_cases e:b=s.nx;subst e;rw[t8]at hb;grind;rw[B5 τ p e]at hb;exact TX (hs.lt b i o hb) hn;have:s.nx+1<=b:=hb;rw[B5 τ p (by omega)];exact hs.new b (by omega)
variable {i:Nat}
theorem SD.change (hs:SD P U τ F s hp){x':B0}(hb:s.get b=some x)(ht:τ b=some (some (i,o)))(hn:hp'.nx=hp.nx)(hk:∀j,j≠i->hp'.m.get j=hp.m.get j)(hi:hp'.m.get i=some y)(G:BD P U τ F o x' y)(H:∀c e z c',x= .cells c e z->x'= .cells c' e z->c'.length=c.length-> ∀cs n,hp.m.get i=some (.cells cs n e z)-> ∃cs',y= .cells cs' n e z/\ ∀j,j<o\/o+c.length<=j->cs'.get j=cs.get j:=by intro _ _ _ _ h h';first| (cases h;done)| (cases h';done)):Ext τ F s hp τ F (s.set b (some x')) hp'/\SD P U τ F (s.set b (some x')) hp':=by
 refine⟨⟨VG τ,Vd F,by omega,Tq _,λ_ _=>rfl,λc y hc _=>?_,⟨[(b,some x')],rfl,λj hj C=>hk j (by grind),λc j q hc h=>(by rw[hs.new c hc]at h;cases h),λ_ _ _ h=>.inl h,λ_ _ _ h=>h⟩,⟨[],rfl⟩,⟨[(b,some x')],rfl,λd c e z j q cs n f hq hj hg hl=>?_⟩⟩,?_⟩;rw[Vv]at hc;grind;by_cases h:d=b;grind;exact⟨cs,by rw[hk j (hs.inj d b _ x j q i o f hb h hq ht)];exact hg,λ_ _=>rfl⟩
 .have E:F i=none:=by rcases hs.live b x hb with⟨I,o',g,h1,_,h3,_⟩| ⟨h1,_⟩;grind;grind
  have liv:∀c,(∃y,(s.set b (some x')).get c=some y)-> ∃y,s.get c=some y:=by rintro c ⟨y,hc⟩;rw[Vv]at hc;grind
  refine⟨λc z hc=>?_,λc d y z j q k r hc f p w A=>?_,λj y hj=>?_,λc j q h=>by rw[hn];exact hs.lt c j q h,λj y h=>by rw[hn];exact hs.flt j y h,hs.new,hs.fc,hs.fz⟩;rw[Vv]at hc;by_cases e:c=b;grind;rw[Tn e]at hc;rcases hs.live c z hc with⟨j,q,g,h1,h2,h3,h4⟩|h;refine .inl ⟨j,q,g,h1,?_,h3,h4⟩;rw[hk j ?_];exact h2;intro B;subst B;exact hs.inj c b z x j q j o hc hb e h1 ht rfl;grind;obtain⟨g,hy⟩:=liv c ⟨y,hc⟩;obtain⟨D,hz⟩:=liv d ⟨z,f⟩;exact hs.inj c d g D j q k r hy hz p w A;rw[hk j (by grind)];exact hs.frz j y hj
theorem SD.move (hs:SD P U τ F s hp){x':B0}(hb:s.get b=some x)(ht:τ b=some (some (i,o)))(hn:hp.nx<=hp'.nx)(hk:∀j,j<hp.nx->j≠i->hp'.m.get j=hp.m.get j){j q:Nat}(hj:j=i\/hp.nx<=j)(D:j<hp'.nx)(hi:hp'.m.get j=some y)(O:BD P U (put τ s.nx (some (j,q))) F q x' y):Ext τ F s hp (put τ s.nx (some (j,q))) F (fK (s.set b none) x') hp'/\SD P U (put τ s.nx (some (j,q))) F (fK (s.set b none) x') hp':=by
 have h0:=hs.new _ (Tq _);have A:=bN (some (j,q)) h0;have S:F i=none:=by rcases hs.live b x hb with⟨T,o',K,h1,_,h3,_⟩| ⟨h1,_⟩;grind;grind
 have M:F j=none:=by
  rcases hj with rfl|hj;grind
  .cases hF:F j with
   |none=>rfl|some w=>exact absurd (hs.flt j w hF) (by omega)
 have N:∀c,(fK (s.set b none) x').get c=if c=s.nx then some x' else if c=b then none else s.get c:=by intro c;rw[gZ,Vv];rfl
 refine⟨⟨A,Vd F,hn,by simp[fK,SS.set],λc hc=>B5 τ _ (by omega),λc y hc hlt=>?_,⟨[(s.nx,some x'),(b,none)],rfl,λk g Q=>hk k g (by grind),λc k r hc h=>?_,λ_ _ _ h=>.inl h,λ_ _ _ h=>h⟩,⟨[],rfl⟩,⟨[(s.nx,some x'),(b,none)],rfl,λd c e z j' q' cs n p hq D hg hl=>?_⟩⟩,?_⟩;grind
 rotate_left
 by_cases h:d=b;grind;exact⟨cs,by rw[hk j' D (hs.inj d b _ x j' q' i o p hb h hq ht)];exact hg,λ_ _=>rfl⟩
 rotate_left
 by_cases e:c=s.nx;subst e;rw[t8]at h;grind;rw[B5 τ _ e,hs.new c hc]at h;cases h
 .have inv:∀c z,(fK (s.set b none) x').get c=some z->c≠s.nx->c≠b/\s.get c=some z:=by grind
  have apart:∀c z k r,c≠b->s.get c=some z->τ c=some (some (k,r))->k≠j:=by intro c z k r e hc h J;subst J;rcases hj with rfl|hj;exact hs.inj c b z x _ r _ o hc hb e h ht rfl;have:=hs.lt c _ r h;omega
  refine⟨λc z hc=>?_,λc d y z k r k' R hc p E H G=>?_,λk y g=>?_,λc k r h=>?_,λk y h=>TX (hs.flt k y h) hn,λc hc=>?_,hs.fc,λr hr=>(hs.fz r hr).mono A (Vd F)⟩;by_cases e:c=s.nx;subst e;rw[N,Tp rfl,SQ]at hc;subst hc;exact .inl ⟨j,q,y,t8 _ _ _,hi,M,O⟩;obtain⟨e',f⟩:=inv c z hc e;rcases hs.live c z f with⟨k,r,K,h1,h2,h3,h4⟩| ⟨h1,h2⟩;refine .inl ⟨k,r,K,by rw[B5 τ _ e];exact h1,?_,h3,h4.mono A (Vd F)⟩;rw[hk k (hs.lt c k r h1) ?_];exact h2;intro J;subst J;exact hs.inj c b z x _ r _ o f hb e' h1 ht rfl;exact .inr ⟨by rw[B5 τ _ e];exact h1,h2⟩;by_cases I:c=s.nx;subst I;have B:d≠s.nx:=λh=>E h.symm;rw[t8]at H;rw[B5 τ _ B]at G;grind;obtain⟨e',f⟩:=inv c y hc I;rw[B5 τ _ I]at H;by_cases B:d=s.nx;subst B;rw[t8]at G;grind;obtain⟨L,C⟩:=inv d z p B;rw[B5 τ _ B]at G;exact hs.inj c d y z k r k' R f C E H G;rw[hk k (hs.flt k y g) (by grind)];exact hs.frz k y g;by_cases e:c=s.nx;subst e;rw[t8]at h;grind;rw[B5 τ _ e]at h;exact TX (hs.lt c k r h) hn;have:s.nx+1<=c:=hc;rw[B5 τ _ (by omega)];exact hs.new c (by omega)
theorem SD.freeze (hs:SD P U τ F s hp)(hb:s.get b=some x)(ht:τ b=some (some (i,o)))(hi:hp.m.get i=some y):∃F',Fle F F'/\F' i=some y/\Ext τ F s hp τ F' (s.set b none) hp/\SD P U τ F' (s.set b none) hp:=by
 have G:F i=none:=by rcases hs.live b x hb with⟨H,o',A,h1,_,h3,_⟩| ⟨h1,_⟩;grind;grind
 have hF:Fle F (λj=>if j=i then some y else F j):=λj w hj=>by grind
 have inv:∀c z,(s.set b none).get c=some z->c≠b/\s.get c=some z:=by intro c z hc;rw[Vv]at hc;grind
 refine⟨λj=>if j=i then some y else F j,hF,by simp,⟨VG τ,hF,Tq _,Tq _,λ_ _=>rfl,λc z hc _=>⟨z,(inv c z hc).2⟩,⟨[(b,none)],rfl,λ_ _ _=>rfl,λc j q hc h=>(by rw[hs.new c hc]at h;cases h),λj w _ hj=>?_,λhp=>absurd rfl (hp (b,none) (by simp))⟩,⟨[],rfl⟩,⟨[(b,none)],rfl,λ_ _ _ _ _ _ cs _ _ _ _ hg _=>⟨cs,hg,λ_ _=>rfl⟩⟩⟩,?_⟩;grind;refine⟨λc z hc=>?_,λc d y z k r k' E hc g p B C=>hs.inj c d y z k r k' E (inv c y hc).2 (inv d z g).2 p B C,λj w hj=>?_,hs.lt,λj w hj=>?_,hs.new,hs.fc,λr hr=>(hs.fz r hr).mono (VG τ) hF⟩
 .obtain⟨e,f⟩:=inv c z hc;rcases hs.live c z f with⟨k,r,A,h1,h2,h3,h4⟩|h
  .refine .inl ⟨k,r,A,h1,h2,?_,h4.mono (VG τ) hF⟩;have:k≠i:=λD=>by subst D;exact hs.inj c b z x _ r _ o f hb e h1 ht rfl
   grind
  grind
 by_cases e:j=i;grind;rw[Tn e]at hj;exact hs.frz j w hj;by_cases e:j=i;subst e;exact hs.lt b _ o ht;rw[Tn e]at hj;exact hs.flt j w hj
theorem SD.drop (hs:SD P U τ F s hp)(b:Nat):Ext τ F s hp τ F (s.set b none) hp/\SD P U τ F (s.set b none) hp:=by
 have inv:∀c z,(s.set b none).get c=some z->c≠b/\s.get c=some z:=by intro c z hc;rw[Vv]at hc;grind
 exact⟨⟨VG τ,Vd F,Tq _,Tq _,λ_ _=>rfl,λc z hc _=>⟨z,(inv c z hc).2⟩,⟨[(b,none)],rfl,λ_ _ _=>rfl,λc j q hc h=>(by rw[hs.new c hc]at h;cases h),λ_ _ _ h=>.inl h,λ_ _ _ h=>h⟩,⟨[],rfl⟩,⟨[(b,none)],rfl,λ_ _ _ _ _ _ cs _ _ _ _ hg _=>⟨cs,hg,λ_ _=>rfl⟩⟩⟩,
  λc z hc=>hs.live c z (inv c z hc).2,λc d y z k r k' w hc f g m p=>hs.inj c d y z k r k' w (inv c y hc).2 (inv d z f).2 g m p,hs.frz,hs.lt,hs.flt,hs.new,hs.fc,hs.fz⟩
end
def isI :E->Bool
 | .int _=>true| .dat _ (.i _)=>true| .op o _=>match o with
  | .add| .sub| .mul| .tdiv| .tmod| .wrap _| .len| .slen| .sidx| .srune| .srw| .castI=>true
  |_=>false
 |_=>false
def isB :E->Bool
 | .bool _=>true| .dat _ (.b _)=>true| .op .lt [_,_]| .op .eqi [_,_]| .op .eqb [_,_]| .op .eqs [_,_]| .op .lts [_,_]| .op .not [_]| .op .and [_,_]| .op .or [_,_]| .op .castB [_]=>true
 |_=>false
def isS :E->Bool
 | .str _=>true| .dat _ (.s _)=>true| .op .sapp [_,_]| .op .ssub [_,_,_]| .op .castS [_]=>true
 |_=>false
def isL :E->Bool
 | .dat _ (.l _)=>true| .op .nil _| .op (.rows _ _) _| .op .app [_,_]| .op (.upd _) [_,_,_]| .op .part [_,_,_]| .op .over [_,_,_]| .op .rep (_::_)| .op .castL [_]=>true
 |_=>false
def MA (e:E):E:=bif isI e then e else .op .castI [e]
def mkCB (e:E):E:=bif isB e then e else .op .castB [e]
def mkCS (e:E):E:=bif isS e then e else .op .castS [e]
def jL (e:E):E:=bif isL e then e else .op .castL [e]
section
variable {U :Ab}
def OU {e:E}(h:isI e=true):e.den U= .i (e.toI U):=by
 cases e with
 |int n=>rfl|dat n d=>cases d<;>first|rfl| (simp[isI]at h)
 |op o as=>
  cases o<;>first
   | (simp[isI]at h;done)
   | (simp only[E.toI,E.den,Sy.den];split<;>rfl)
 |_=>simp[isI]at h
def OT {e:E}(h:isB e=true):e.den U= .b (e.den U).toBool:=by unfold isB at h;split at h<;>first|rfl|cases h
def OW {e:E}(h:isS e=true):e.den U= .s (e.den U).toStr:=by unfold isS at h;split at h<;>first|rfl|cases h
def OV {e:E}(h:isL e=true):e.den U= .l (e.toR U):=by unfold isL at h;split at h<;>first|rfl|cases h
def uM (e:E):(MA e).den U= .i (e.toI U):=by
 unfold MA;cases h:isI e with
 |true=>exact OU h|false=>rfl
def Mz (e:E):(mkCB e).den U= .b (e.den U).toBool:=by
 unfold mkCB;cases h:isB e with
 |true=>exact OT h|false=>rfl
def MB (e:E):(mkCS e).den U= .s (e.den U).toStr:=by
 unfold mkCS;cases h:isS e with
 |true=>exact OW h|false=>rfl
def mV (e:E):(jL e).den U= .l (e.toR U):=by
 unfold jL;cases h:isL e with
 |true=>exact OV h|false=>rfl
end
section
variable (P :Aw)(U:Ab)
def lE (t:Ax)(x:SV)(f:Nat):Bb SV:=
 match P.underlying t with
 |some (.struct fs)=>match fs.toList[f]? with
  |some fd=>match P.info? fd.type with
   |some i=>bif Nat.beq i.size 0 then none else
    match x with
    | .ptr b z row fld=>some (.ptr b z row (fld+fd.offset))| .pptr e L row fld=>some (.pptr e L row (fld+fd.offset))| .rp row fld=>some (.rp row (fld+fd.offset))|_=>none
   |none=>none
  |none=>none
 |_=>none
def lG (t:Ax)(x ix:SV):M SV:=
 match ix with
 | .int _ n=>match P.underlying t with
  |some (.slice e)=>match P.info? e with
   |some ie=>match x with
    | .sl b z off len _=>bif Nat.beq z ie.size then c8 (l9 U (y5 (y6 n (.int 0)))) λ_=>c8 (l9 U (y6 n len)) λ_=>i5 (.ptr b z (y4 off n) 0)else b9 "index: size"
    | .lst e' L _=>bif Nat.beq (kf P e').length ie.size then c8 (l9 U (y5 (y6 n (.int 0)))) λ_=>c8 (l9 U (y6 n (A4 L))) λ_=>i5 (.pptr e' L n 0)else b9 "index: size"
    |_=>b9 "index: no slice"
   |none=>b9 "index: type"
  |some (.array len e)=>match P.info? e with
   |some ie=>match x with
    | .ptr b z row fld=>match n with
     | .int m=>bif decide (0<=m)&&decide (m<len)then i5 (.ptr b z row (fld+m.toNat*ie.size))else b9 "index: array"|n=>match row with
      | .int r=>bif decide (0<=r)then c8 (l9 U (y5 (y6 n (.int 0)))) λ_=>c8 (l9 U (y6 n (.int len))) λ_=>i5 (.ptr b ie.size n (r.toNat*z+fld))else b9 "index: array"
      |_=>b9 "index: array"
    | .pptr e' L row fld=>match n with
     | .int m=>bif decide (0<=m)&&decide (m<len)then i5 (.pptr e' L row (fld+m.toNat*ie.size))else b9 "index: array"|_=>b9 "index: array"
    |_=>b9 "index: array"
   |none=>b9 "index: type"
  |_=>b9 "index: type"
 |_=>b9 "index: no int"
def ldk (t:Ax):Bb (Bool×Nat):=
 match P.underlying t with
 | some d => bif dD d then
   match P.info? t with
   |some ti=>some (true,ti.size)|none=>none
  else some (false,1)
 |none=>none
def Gp (ag:Bool)(l:As):Bb SV:=bif ag then some (.agg l)else l.head?
def Ii (k:Kd)(c:E):Bb SV:=
 match k with
 | .int k=>some (.int k c)| .bool=>some (.bool c)| .str=>some (.str c)| .sl e=>some (.lst e c false)| .rp=>some (.rpq c)| .bad=>none
def gA (ks:List Kd)(L row:E):Nat->Nat->Bb (As)
 |_,0=>some []|j,n+1=>match ks[j]? with
  |some k=>match Ii k (Gb j L row)with
   |some a=>match gA ks L row (j+1) n with
    |some l=>some (a::l)|none=>none
   |none=>none
  |none=>none
def Oi (k:Kd)(a:SV):Bb E:=
 match k,a with
 | .int k,.int k' e=>bif decide (k=k')then some (MA e)else none| .bool,.bool e=>some (mkCB e)| .str,.str e=>some (mkCS e)| .sl _,.nils=>some (.op .nil [])| .sl e,.lst e' L _=>bif Nat.beq e e' then some (jL L)else none| .rp,.rpq e=>some (MA e)| .rp,.rp e 0=>some (MA e)| .rp,.nilp=>some (.int (-1))|_,_=>none
def KD (ks:List Kd):Nat->As->Bb (Au)
 |_,[]=>some []|j,a::l=>match ks[j % ks.length]? with
  |some k=>match Oi k a with
   |some e=>match KD ks (j+1) l with
    |some es=>some (e::es)|none=>none
   |none=>none
  |none=>none
def vS (e:Ax)(z:Nat)(l:As):Bb E:=
 bif Nat.ble 1 z&&Nat.beq z (kf P e).length&&Nat.beq (l.length/z*z) l.length then
  match KD (kf P e) 0 l with
  |some es=>some (.op (.rows (l.length/z) z) es)|none=>none
 else none
def M9 (ag:Bool)(n:Nat)(e:Ax)(L row:E)(fld:Nat):Bb SV:=
 match gA (kf P e) L row fld n with
 |some l=>Gp ag l|none=>none
def DJ (k:IntKind):As->Bb (Au)
 | []=>some []| .int k' e::l=>bif decide (k=k')then match DJ k l with
  |some es=>some (e::es)|none=>none else none
 |_=>none
def NK (l:As)(row:E):M SV:=match l with
 | .int k e::l'=>match DJ k (.int k e::l')with
  |some es=>c8 (l9 U (y6 row (.int es.length))) λ_=>i5 (.int k (Gb 0 (.op (.rows es.length 1) es) row))
  |none=>b9 "load: rows"
 |_=>b9 "load: rows"
def rgF :List (Nat×Bb B0)->Ai
 | []=>none| (b,some (.reg _ _ _))::_=>some b|_::l=>rgF l
def xV (s:SS):Bb (Nat×E×Nat):=match rgF s.h with
 |some b=>match s.get b with
  |some (.reg r L z)=>bif Nat.beq r b then some (b,L,z)else none|_=>none
 |none=>none
def rgB (s:SS):Ai:=(xV s).map λr=>r.1
def IW (t:Ax)(a:SV):M SV:=
 match ldk P t with
 |none=>b9 "load: type"|some (ag,n)=>match a with
  | .ptr b z row fld=>v8 λs=>match s.get b with
   |some (.cells l e _)=>match row with
    | .int r=>bif decide (0<=r)&&Nat.ble (r.toNat*z+fld+n) l.length then mX "load" (Gp ag ((l.drop (r.toNat*z+fld)).take n))else b9 "load: beyond"|row=>match vS P e z l with
     |some L=>bif Nat.ble (fld+n) z then c8 (l9 U (y6 row (A4 L))) λ_=>mX "load" (M9 P ag n e L row fld)else b9 "load: beyond"
     |none=>bif !ag&&Nat.beq z 1&&Nat.beq n 1 then NK U (l.drop fld) row else b9 "load: rows"
   |some (.rows L e z' _)=>bif Nat.beq z z'&&Nat.ble (fld+n) z then c8 (l9 U (y6 row (A4 L))) λ_=>mX "load" (M9 P ag n e L row fld)else b9 "load: beyond"
   |some (.iter _ _)=>b9 "load: no block"|some (.reg _ _ _)=>b9 "load: no block"|none=>match lk s.fz b with
    |some (L,e,z')=>bif Nat.beq z z'&&Nat.ble (fld+n) z then c8 (l9 U (y6 row (A4 L))) λ_=>mX "load" (M9 P ag n e L row fld)else b9 "load: beyond"
    |none=>b9 "load: no block"
  | .rp row fld=>v8 λs=>match xV s with
   |some (_,L,z)=>bif Nat.ble (fld+n) z then c8 (l9 U (y6 row (A4 L))) λ_=>mX "load" (M9 P ag n rgT L row fld)else b9 "load: beyond"
   |none=>b9 "load: no region"
  | .pptr e L row fld=>bif Nat.ble (fld+n) (kf P e).length then mX "load" (M9 P ag n e L row fld)else b9 "load: beyond"|_=>b9 "load: no address"
end
section
variable {P :Aw}{U:Ab}{τ:Tau}{F:Ac}{s:SS}{hp:Hp}
variable {fld i o:Nat}
def VD.ptr' {b z a:Nat}{row:E}(h:τ b=some (some (i,o)))(h0:0<=row.toI U)(e:a=o+row.toN U*z+fld):VD P U τ F (.ptr b z row fld) (.pointer (some ⟨i,a,none⟩)):=by subst e;exact .ptr b z row fld i o h h0
def VD.pptr' {t:Ax}{L row:E}{l c a:Nat}(h:PV P F (.sl t) (.slice (some ⟨i,o,none⟩) l c) (.l (L.toR U)))(h0:0<=row.toI U)(h1:row.toI U<(L.toR U).length)(e:a=o+row.toN U*(kf P t).length+fld):VD P U τ F (.pptr t L row fld) (.pointer (some ⟨i,a,none⟩)):=by subst e;exact .pptr t L row fld i o l c h h0 h1
variable {a:SV}{v:Av}
theorem yB {t:Ax}{b:SV}{f:Nat}(p:VD P U τ F a v)(e:lE P t a f=some b):∃w,U1 P t v f=some w/\VD P U τ F b w:=by
 unfold lE at e;unfold U1;split at e
 .rename_i r j;split at e
  .rename_i m g;split at e
   .rename_i i hi;cases hz:Nat.beq i.size 0 with
    |true=>grind|false=>
     simp only[hz,Tl]at e;split at e
     .rename_i b z row fld;simp only[SQ]at e;subst e;cases p with
      |ptr _ _ _ _ q o h h0=>exact⟨.pointer (some ⟨q,o+row.toN U*z+fld+m.offset,none⟩),by simp only[j,g,hi,hz,Tl],VD.ptr' h h0 (by omega)⟩
     .rename_i t L row fld;simp only[SQ]at e;subst e;cases p with
      |pptr _ _ _ _ q o l c h h0 h1=>exact⟨.pointer (some ⟨q,o+row.toN U*(kf P t).length+fld+m.offset,none⟩),by simp only[j,g,hi,hz,Tl],VD.pptr' h h0 h1 (by omega)⟩
     .rename_i row fld;simp only[SQ]at e;subst e;cases p with
      |rp _ _ h0=>exact⟨.pointer (some ⟨row.toN U,fld+m.offset,some 1⟩),by simp only[j,g,hi,hz,Tl],.rp _ _ h0⟩
     cases e
   cases e
  cases e
 cases e
def C0 {a b:E}(h:(y6 a b).pr U):a.toI U<b.toI U:=by rw[Va,G4,To]at h;exact h
def A0 {a b:E}(h:(y5 (y6 a b)).pr U):b.toI U<=a.toI U:=by rw[Va,G1,G4,TP,TS]at h;exact Int.not_lt.1 h
def aN {a b:E}(h:(E9 a b).pr U):a.toI U=b.toI U:=by rw[Va,E5,To]at h;exact h
def PV.len {t:Ax}{a:Aq}{l c:Nat}{d:Dat}(h:PV P F (.sl t) (.slice a l c) d):l=d.rows.length:=by cases h<;>rfl
theorem yC {t:Ax}{B:SV}{w:Av}(j:VD P U τ F a v)(hi:VD P U τ F B w):OKp U (lG P U t a B) s λb=>∃u,D3 P t v w=some u/\VD P U τ F b u:=by
 unfold lG;split
 .rename_i k n;cases hi;split
  .rename_i e he;split
   .rename_i ie f;split
    .rename_i b z off len cap;cases hz:Nat.beq z ie.size with
     |false=>exact Vl|true=>
      refine OKp.need.bind λ_ s1 _ _ h1=>OKp.need.bind λ_ s2 _ _ h2=>Vq ?_;have h1:=aO h1;have h2:=C0 h2;have q:z=ie.size:=SY hz;cases j with
      |sl _ _ _ _ _ i o c h h0 p hc=>
       refine⟨.pointer (some ⟨i,o+off.toN U*z+n.toN U*ie.size,none⟩),?_,VD.ptr' h (by rw[j5];omega) ?_⟩;simp only[D3,he,f];grind
       .have:(y4 off n).toN U=off.toN U+n.toN U:=by show((y4 off n).toI U).toNat=(off.toI U).toNat+(n.toI U).toNat;rw[j5];omega
        grind
      |sl0 _ _ _ _ _ h h0 p hc=>omega
    .rename_i e' L clip;cases hz:Nat.beq (kf P e').length ie.size with
     |false=>exact Vl|true=>
      refine OKp.need.bind λ_ s1 _ _ h1=>OKp.need.bind λ_ s2 _ _ h2=>Vq ?_;have h1:=aO h1;have h2:=C0 h2;rw[i7]at h2;have q:(kf P e').length=ie.size:=SY hz;cases j with
      |lst _ _ _ _ h hc=>
       have hl:∃i o l c,v= .slice (some ⟨i,o,none⟩) l c:=by
        cases hv:L.toR U with
        |nil=>grind|cons r D=>
         rw[hv]at h;cases h with
         |sl _ i o c b cs n z rows x hF hb C hn A hr hx hp=>grind
       obtain⟨i,o,l,c,rfl⟩:=hl;have g:=h.len;refine⟨.pointer (some ⟨i,o+n.toN U*ie.size,none⟩),?_,VD.pptr' h h1 h2 (by grind)⟩;simp only[D3,he,f];rw[show(decide (0<=n.toI U)&&decide (n.toI U<(l:Int)))=true by
        simp only[SR,To];have:(l:Int)=((L.toR U).length:Int):=by rw[g];rfl
        omega]
       rfl
    exact Vl
   exact Vl
  .rename_i len e he;split
   .rename_i ie f;split
    .rename_i b z row fld;cases j with
     |ptr _ _ _ _ i o h h0=>
      split
      .rename_i m;cases hb:decide (0<=m)&&decide (m<(len:Int))with
       |false=>exact Vl|true=>refine Vq ⟨.pointer (some ⟨i,o+row.toN U*z+fld+m.toNat*ie.size,none⟩),?_,VD.ptr' h h0 (by omega)⟩;simp only[D3,he,f];rw[show(decide (0<=(E.int m).toI U)&&decide ((E.int m).toI U<(len:Int)))=true from hb];rfl
      .split
       .rename_i r;cases hr:decide (0<=r)with
        |false=>exact Vl|true=>refine OKp.need.bind λ_ s1 _ _ h1=>OKp.need.bind λ_ s2 _ _ h2=>Vq ?_;have h1:=aO h1;have h2:=C0 h2;simp only[B4]at h2;refine⟨.pointer (some ⟨i,o+r.toNat*z+fld+n.toN U*ie.size,none⟩),?_,VD.ptr' h h1 (by omega)⟩;simp only[D3,he,f];rw[show(decide (0<=n.toI U)&&decide (n.toI U<(len:Int)))=true by simp only[SR,To];omega];rfl
       exact Vl
    .rename_i e' L row fld;cases j with
     |pptr _ _ _ _ i o l c h h0 h1=>
      split
      .rename_i m;cases hb:decide (0<=m)&&decide (m<(len:Int))with
       |false=>exact Vl|true=>refine Vq ⟨.pointer (some ⟨i,o+row.toN U*(kf P e').length+fld+m.toNat*ie.size,none⟩),?_,VD.pptr' h h0 h1 (by omega)⟩;simp only[D3,he,f];rw[show(decide (0<=(E.int m).toI U)&&decide ((E.int m).toI U<(len:Int)))=true from hb];rfl
      exact Vl
    exact Vl
   exact Vl
  exact Vl
 exact Vl
variable {ag:Bool}{k n:Nat}{y:Blk}{c:Ao}{vs:Af}
theorem Mr {t:Ax}(h:ldk P t=some (ag,n)){z:Nat}(hg:hp.m.get i=some y)(hr:rdC y=some (c,k,z))(hk:o+n<=k)(hl:j7 c o n=some vs):∃v,G5 P hp t (.pointer (some ⟨i,o,none⟩))=some v/\((ag=true/\v= .agg vs.toArray)\/(ag=false/\vs=[v])):=by
 unfold ldk at h;split at h
 .rename_i d j;cases f:dD d with
  |true=>simp only[f,Tk]at h;split at h;rename_i p g;obtain⟨rfl,rfl⟩:=h;refine⟨.agg vs.toArray,?_,.inl ⟨rfl,rfl⟩⟩;simp only[G5,hg,hr,j,f,Tk,g,Ta hk,hl];cases h
  |false=>
   simp only[f,Tl,SQ,SU]at h;obtain⟨rfl,rfl⟩:=h;simp only[j7]at hl;cases hv:c.get o with
   |none=>grind|some v=>simp only[hv,SQ]at hl;refine⟨v,?_,.inr ⟨rfl,hl.symm⟩⟩;simp only[G5,hg,hr,j,f,Tl,Ta hk,Tk,hv]
 cases h
theorem A9 {c:Ao}{R:Nat->Av->Prop}:∀(n o j:Nat),(∀k,k<n-> ∃x,c.get (o+k)=some x/\R (j+k) x)-> ∃vs,j7 c o n=some vs/\vs.length=n/\ ∀k x,vs[k]? =some x->R (j+k) x
 |0,o,j,_=>⟨[],rfl,rfl,λk x h=>by grind⟩
 |n+1,o,j,h=>by
  obtain⟨x,h1,h2⟩:=h 0 (by omega);obtain⟨vs,h3,h4,f⟩:=A9 n (o+1) (j+1) λk hk=>by
   obtain⟨x,k1,k2⟩:=h (k+1) (by omega)
   exact ⟨x, by rw [← k1]; congr 1; omega, by have : j + 1 + k = j + (k + 1) := by omega
                                              rw[this];exact k2⟩
  refine⟨x::vs,by simp only[j7];rw[show c.get o=some x from h1,h3],by grind,λk y hy=>?_⟩;grind
theorem kW {t:Ax}(h:ldk P t=some (ag,n)){z:Nat}(hg:hp.m.get i=some y)(g:rdC y=some (c,k,z))(hk:o+n<=k){l:As}(hl:l.length=n)(hc:∀(j:Nat) a,l[j]? =some a-> ∃x,c.get (o+j)=some x/\VD P U τ F a x)(f:Gp ag l=some a):∃v,G5 P hp t (.pointer (some ⟨i,o,none⟩))=some v/\VD P U τ F a v:=by
 obtain⟨vs,h1,h2,h3⟩:=A9 (R:=λj x=>∀a,l[j]? =some a->VD P U τ F a x) n o 0 λj hj=>by
  have:l[j]? =some l[j]:=by grind
  obtain⟨x,k1,k2⟩:=hc j _ this;exact⟨x,k1,λa f=>by grind⟩
 obtain⟨v,h4,p⟩:=Mr h hg g hk h1;refine⟨v,h4,?_⟩;have hv:VDL P U τ F l vs:=⟨by omega,λj a x hj hx=>h3 j x hx a (by grind)⟩
 rcases p with⟨rfl,rfl⟩| ⟨rfl,rfl⟩;simp only[Gp,Tk,SQ]at f;subst f;exact hv.agg
 .simp only[Gp,Tl]at f;cases l with
  |nil=>grind|cons b l=>simp at f;subst f;exact hv.2 0 _ _ rfl rfl
def DF {k:Kd}{e:E}{x:Av}(hp:PV P F k x (e.den U))(h:Ii k e=some a):VD P U τ F a x:=by
 unfold Ii at h;generalize f:e.den U=d at hp;cases hp<;>simp only[SQ]at h<;>subst h;exact VJ (by show(e.den U).toInt=_;rw[f];rfl);exact VI (by rw[f];rfl);exact VD.str' (by rw[f];rfl)
 .exact .lst _ e false _ (by have : e.toR U = [] := by { show (e.den U).rows = _; rw [ f]; rfl }
                             rw[this];exact .nils _) (λh=>by cases h)
 exact .rpq e _ (by show PV P F .rp _ (.i (e.den U).toInt);rw[f];exact .rp _);exact .rpq e _ (by show PV P F .rp _ (.i (e.den U).toInt);rw[f];exact .rpn)
 .exact .lst _ e false _ (by have : e.toR U = [] := by { show (e.den U).rows = _; rw [ f]; rfl }
                             rw[this];exact .vague _) (λh=>by cases h)
 .rename_i i o c b cs n z zb rows x hF hb hc hn hz hr hx g
  exact .lst _ e false _ (by have : e.toR U = rows := by { show (e.den U).rows = _; rw [ f]; rfl }
                             rw[this];exact .sl _ i o c b cs n z rows x hF hb hc hn hz hr hx g) (λh=>by cases h)
theorem dI {ks:List Kd}{L row:E}:∀ {n j:Nat} {l:As},gA ks L row j n=some l->l.length=n/\ ∀(q:Nat) a,l[q]? =some a-> ∃k,ks[j+q]? =some k/\Ii k (Gb (j+q) L row)=some a
 |0,j,l,h=>by simp only[gA,SQ]at h;subst h;exact⟨rfl,λq a h=>by grind⟩|n+1,j,l,h=>by simp only[gA]at h;split at h;rename_i k hk;split at h;rename_i a g;split at h;rename_i l' f;obtain⟨h1,h2⟩:=dI f;grind;cases h;cases h;cases h
theorem tI {rows:a8}{r:Int}{row:Ar}{d:Dat}(h1:rows[r.toNat]? =some row)(h2:row[k]? =some d):z8 rows r k=d:=by unfold z8;grind
variable {e:Nat}{cs:Ao}
theorem dN {t:Ax}(h:ldk P t=some (ag,n)){z D:Nat}(hg:hp.m.get i=some y)(w:rdC y=some (cs,k,D)){L row:E}(hr:A6 P F e z o k cs (L.toR U))(h0:0<=row.toI U)(h1:row.toI U<(L.toR U).length)(hf:fld+n<=z)(p:M9 P ag n e L row fld=some a):∃v,G5 P hp t (.pointer (some ⟨i,o+row.toN U*z+fld,none⟩))=some v/\VD P U τ F a v:=by
 unfold M9 at p;split at p
 .rename_i l hl;obtain⟨q,r⟩:=dI hl;obtain⟨G,H,B,C⟩:=hr;have g:row.toN U<(L.toR U).length:=by grind
  have f:(L.toR U)[row.toN U]? =some (L.toR U)[row.toN U]:=by grind
  have A:=B _ (List.getElem_mem g);refine kW h hg w ?_ q (λj b hb=>?_) p
  .have:row.toN U*z+z<=(L.toR U).length*z:=by rw[<-Uk];exact Tg z g
   omega
  .obtain⟨kd,h3,h4⟩:=r j b hb;have hj:j<n:=by grind
   have hk:(L.toR U)[row.toN U][fld+j]? =some ((L.toR U)[row.toN U][fld+j]'(by omega)):=by grind
   obtain⟨x,k1,k2⟩:=C _ _ _ _ f hk;refine⟨x,by rw[<-k1];congr 1;omega,DF ?_ h4⟩;rw[tU,tI f hk];simp_all
 cases p
theorem CJ {k:Kd}(f:VD P U τ F a v){e:E}(h:Oi k a=some e):PV P F k v (e.den U):=by
 unfold Oi at h;split at h;rename_i k k' x;by_cases hk:k=k';subst hk;simp only[Ua,Tk,SQ]at h;subst h;cases f;rw[uM];exact .int k _;grind;simp only[SQ]at h;subst h;cases f;rw[Mz];exact .bool _;simp only[SQ]at h;subst h;cases f;rw[MB];exact .str _;simp only[SQ]at h;subst h;cases f;exact .nils _
 .rename_i e' g L c;cases hb:Nat.beq e' g with
  |false=>grind|true=>
   simp only[hb,Tk,SQ]at h;subst h;have:=SY hb;subst this;cases f with
   |lst _ _ _ _ h hc=>rw[mV];exact h
 simp only[SQ]at h;subst h;cases f;rename_i h;rw[uM];exact h
 .rename_i x;simp only[SQ]at h;subst h;cases f with
  |rp _ _ h0=>rw[uM,show x.toI U=((x.toN U:Nat):Int) by show x.toI U=((x.toI U).toNat:Int);omega];exact .rp _
 simp only[SQ]at h;subst h;cases f;exact .rpn;cases h
theorem oM {z:Nat}:∀ {n:Nat} {l:Ar} {r:Nat} {row:Ar},(b8 z n l)[r]? =some row->row=(l.drop (r*z)).take z
 |0,l,r,row,h=>by simp[b8]at h|n+1,l,0,row,h=>by simp[b8]at h;simp[h]|n+1,l,r+1,row,h=>by simp only[b8,Te]at h;rw[oM h,List.drop_drop];grind
theorem bP {z:Nat}{es:Au}{N:Nat}(hz:z=(kf P e).length)(q:es.length=N*z)(hn:o+es.length<=n)(hc:∀(j:Nat) d,es[j]? =some d-> ∃x,cs.get (o+j)=some x/\ ∀kd,(kf P e)[j % z]? =some kd->PV P F kd x (d.den U)):A6 P F e z o n cs ((E.op (.rows N z) es).toR U):=by
 have hL:(E.op (.rows N z) es).toR U=b8 z N (es.map (E.den U)):=by show(Dat.l (b8 z N (E.dens U es))).rows=_;rw[E.dens_eq];rfl
 rw[hL];have g:∀r row,(b8 z N (es.map (E.den U)))[r]? =some row->r<N/\row.length=z:=by
  intro r row h;have h1:=(SW.1 h).1;rw[M7]at h1;refine⟨h1,?_⟩;rw[oM h];simp;have:r*z+z<=N*z:=by rw[<-Uk];exact Tg z h1
  omega
 refine⟨by rw[M7];omega,hz,λrow m=>?_,λr k row d hr hk=>?_⟩;obtain⟨r,hr⟩:=UU m;grind
 .obtain⟨h1,h2⟩:=g r row hr;have f:k<z:=by grind
  rw[oM hr,TB,Tp f,TI,TU]at hk;cases he:es[r*z+k]? with
  |none=>grind|some x=>simp only[he,TO,SQ]at hk;obtain⟨y,k1,k2⟩:=hc _ _ he;refine⟨y,by grind,λkd p=>?_⟩;rw[<-hk];exact k2 kd (by rw[show(r*z+k) % z=k by rw[Nat.mul_comm,Nat.mul_add_mod];exact UP f];exact p)
theorem wT {ks:List Kd}:∀ {l:As} {j:Nat} {es:Au},KD ks j l=some es->es.length=l.length/\ ∀(q:Nat) a e,l[q]? =some a->es[q]? =some e-> ∃k,ks[(j+q) % ks.length]? =some k/\Oi k a=some e
 | [],j,es,h=>by simp only[KD,SQ]at h;subst h;exact(by grind)|a::l,j,es,h=>by simp only[KD]at h;split at h;rename_i k hk;split at h;rename_i e he;split at h;rename_i g f;obtain⟨h1,h2⟩:=wT f;grind;cases h;cases h;cases h
theorem pO {z:Nat}{l:As}{L:E}(h:vS P e z l=some L)(hn:o+l.length<=n)(hc:∀(j:Nat) a,l[j]? =some a-> ∃x,cs.get (o+j)=some x/\VD P U τ F a x):A6 P F e z o n cs (L.toR U):=by
 unfold vS at h;cases hb:Nat.ble 1 z&&Nat.beq z (kf P e).length&&Nat.beq (l.length/z*z) l.length with
 |false=>grind|true=>
  rw[hb,Tk]at h;simp at hb;obtain⟨⟨h1,h2⟩,h3⟩:=hb;split at h
  .rename_i es f;simp at h;subst h;obtain⟨h4,p⟩:=wT f;refine bP h2 (by omega) (by omega) λj d q=>?_;have hj:j<l.length:=by grind
   have m:l[j]? =some l[j]:=by grind
   obtain⟨x,k1,k2⟩:=hc j _ m;obtain⟨k,k3,k4⟩:=p j _ d m q;refine⟨x,k1,λkd g=>?_⟩;rw[TA,<-h2,g,SQ]at k3;subst k3;exact CJ k2 k4
  cases h
theorem zF {k:IntKind}:∀ {l:As} {es:Au},DJ k l=some es->es.length=l.length/\ ∀(j:Nat) e,es[j]? =some e->l[j]? =some (.int k e)
 | [],es,h=>by simp only[DJ,SQ]at h;subst h;exact(by grind)|a::l,es,h=>by
  unfold DJ at h;split at h;grind
  .rename_i k' e l' f;cases f;cases hk:decide (k=k')with
   |false=>grind|true=>rw[hk,Tk]at h;rw[To]at hk;split at h;rename_i m g;obtain⟨h1,h2⟩:=zF g;grind;cases h
  cases h
def jU :∀(ds:Ar) (n:Nat),(b8 1 ds.length ds)[n]? =(ds[n]?).map λd=>[d]
 | [],n=>rfl|d::ds,0=>rfl|d::ds,n+1=>by simp[b8,jU ds n]
theorem iS (hs:SD P U τ F s hp){b:Nat}{L:E}{z:Nat}(h:xV s=some (b,L,z)):s.get b=some (.reg b L z)/\τ b=some (some (0,0))/\F 0=none/\ ∃cs,hp.m.get 0=some (.reg cs (L.toR U).length rgT z)/\A6 P F rgT z 0 ((L.toR U).length*z) cs (L.toR U):=by
 unfold xV at h;split at h
 .rename_i b' _;split at h
  .rename_i r f q hg;cases hb:Nat.beq r b' with
   |false=>grind|true=>rw[hb,Tk]at h;cases h;have:=SY hb;subst this;rcases hs.live _ _ hg with⟨i,o,y,h1,h2,h3,h4,g,cs,j,p⟩| ⟨_,_,_,_,_,h,_⟩;grind;cases h
  cases h
 cases h
theorem JI {t:Ax}(h:ldk P t=some (ag,n)){N z:Nat}(hg:hp.m.get 0=some (.reg c N e z))(hk:k<N)(q:o+n<=z)(hl:j7 c (k*z+o) n=some vs):∃v,G5 P hp t (.pointer (some ⟨k,o,some 1⟩))=some v/\((ag=true/\v= .agg vs.toArray)\/(ag=false/\vs=[v])):=by
 have f:Nat.ble (k+1) N=true:=Ta hk;unfold ldk at h;split at h
 .rename_i d p;cases g:dD d with
  |true=>simp only[g,Tk]at h;split at h;rename_i r j;cases h;refine⟨.agg vs.toArray,?_,.inl ⟨rfl,rfl⟩⟩;simp only[G5,qI,hg,p,g,Tk,j,f,Ta q,hl,UD];cases h
  |false=>
   simp only[g,Tl,SQ,SU]at h;obtain⟨rfl,rfl⟩:=h;simp only[j7]at hl;cases hv:c.get (k*z+o)with
   |none=>grind|some v=>simp only[hv,SQ]at hl;refine⟨v,?_,.inr ⟨rfl,hl.symm⟩⟩;simp only[G5,qI,hg,p,g,Tl,f,Ta q,Tk,hv,UD]
 cases h
theorem Gn {t:Ax}(h:ldk P t=some (ag,n)){z:Nat}{L row:E}(hg:hp.m.get 0=some (.reg cs (L.toR U).length rgT z))(hr:A6 P F rgT z 0 ((L.toR U).length*z) cs (L.toR U))(h0:0<=row.toI U)(h1:row.toI U<(L.toR U).length)(hf:fld+n<=z)(f:M9 P ag n rgT L row fld=some a):∃v,G5 P hp t (.pointer (some ⟨row.toN U,fld,some 1⟩))=some v/\VD P U τ F a v:=by
 unfold M9 at f;split at f
 .rename_i l hl;obtain⟨q,r⟩:=dI hl;obtain⟨I,J,A,B⟩:=hr;have p:row.toN U<(L.toR U).length:=by grind
  have g:(L.toR U)[row.toN U]? =some (L.toR U)[row.toN U]:=by simp[p]
  have w:(L.toR U)[row.toN U].length=z:=A _ (List.getElem_mem p);have hc:∀(j:Nat) b,l[j]? =some b-> ∃x,cs.get (row.toN U*z+fld+j)=some x/\VD P U τ F b x:=λj b hb=>by
   obtain⟨kd,h3,h4⟩:=r j b hb;have hj:j<n:=by grind
   have hk:(L.toR U)[row.toN U][fld+j]? =some ((L.toR U)[row.toN U][fld+j]'(by omega)):=by grind
   obtain⟨x,k1,k2⟩:=B _ _ _ _ g hk;refine⟨x,by rw[<-k1];congr 1;omega,DF ?_ h4⟩;rw[tU,tI g hk];grind
  obtain⟨vs,D,G,H⟩:=A9 (c:=cs) (R:=λj x=>∀a,l[j]? =some a->VD P U τ F a x) n (row.toN U*z+fld) 0 λj hj=>by simp_all
  obtain⟨v,h4,C⟩:=JI h hg p hf D;refine⟨v,h4,?_⟩;have hv:VDL P U τ F l vs:=⟨by rw[q,G],λj a x hj hx=>H j x hx a (by rw[TA];exact hj)⟩
  rcases C with⟨rfl,rfl⟩| ⟨rfl,rfl⟩;simp only[Gp,Tk,SQ]at f;subst f;exact hv.agg
  .simp only[Gp,Tl]at f;cases l with
   |nil=>simp at f|cons b l=>simp at f;subst f;exact hv.2 0 _ _ rfl rfl
 cases f
theorem EK {t:Ax}(g:VD P U τ F a v)(hs:SD P U τ F s hp):OKp U (IW P U t a) s λb=>∃u,G5 P hp t v=some u/\VD P U τ F b u:=by
 unfold IW;split;exact Vl
 .rename_i ag n f;split
  .rename_i b z row fld;refine Vp ?_;split
   .rename_i l e D hb;rcases hs.live b _ hb with⟨i,o,y,h1,h2,_,cs,k,rfl,h4,B⟩| ⟨h1,O,e',N,ph,h2,_⟩
    .cases g with
     |ptr _ _ _ _ C o' h h0=>
      rw[h1]at h;simp only[SQ,SU]at h;obtain⟨rfl,rfl⟩:=h;split
      .rename_i r;cases hq:decide (0<=r)&&Nat.ble (r.toNat*z+fld+n) l.length with
       |false=>exact Vl|true=>simp only[Tk];simp only[SR,To,TY]at hq;refine Vo λc hc=>?_;refine kW f h2 rfl (o:=o+(E.int r).toN U*z+fld) ?_ (l:=(l.drop (r.toNat*z+fld)).take n) ?_ (λj b hb=>?_) hc;show o+r.toNat*z+fld+n<=k;omega;grind;rw[TB]at hb;split at hb;rw[TI]at hb;obtain⟨x,k1,k2⟩:=B _ _ hb;exact⟨x,by rw[<-k1];congr 1;show o+r.toNat*z+fld+j=_;omega,k2⟩;cases hb
      .split
       .rename_i L hL;cases hq:Nat.ble (fld+n) z with
        |false=>exact Vl|true=>simp only[Tk];refine OKp.need.bind λ_ s1 _ _ hlt=>Vo λc hc=>?_;have hlt:=C0 hlt;rw[i7]at hlt;exact dN f h2 rfl (pO hL h4 B) h0 hlt (SX hq) hc
       .cases hq: !ag&&Nat.beq z 1&&Nat.beq n 1 with
        |false=>exact Vl|true=>
         rw[Tk];simp only[SR,TJ,TP]at hq;obtain⟨⟨rfl,rfl⟩,rfl⟩:=hq;unfold NK;split
         .rename_i k0 e0 l' I;split
          .rename_i es G;obtain⟨T,S⟩:=zF G;refine OKp.need.bind λ_ s1 _ _ hlt=>Vq ?_;have hlt:=C0 hlt;simp only[B4]at hlt;have hr:row.toN U<es.length:=by grind
           have q:=S (row.toN U) _ (Tf hr);rw[<-I,TI]at q;obtain⟨x,k1,k2⟩:=B _ _ q;refine kW (l:=[.int k0 (Gb 0 (.op (.rows es.length 1) es) row)]) f h2 rfl (o:=o+row.toN U*1+fld) ?_ rfl (λj a g=>?_) rfl;grind
           .cases j with
            |succ j=>simp at g|zero=>
             simp only[Tj,SQ]at g;subst g;refine⟨x,by rw[<-k1];congr 1;omega,?_⟩;cases k2;refine VJ ?_;show((Gb 0 (.op (.rows es.length 1) es) row).den U).toInt=_;rw[tU];show(z8 (b8 1 es.length (E.dens U es)) (row.toI U) 0).toInt=_;unfold z8;have J:es.length=(E.dens U es).length:=by rw[E.dens_eq,Tm]
             rw[J,Tz (l:=b8 _ _ _),jU,E.dens_eq,TU,Tf hr];rfl
          exact Vl
         exact Vl
    cases h2
   .rename_i L e D ph hb;cases hq:Nat.beq z D&&Nat.ble (fld+n) z with
    |false=>exact Vl|true=>
     simp only[Tk];simp only[SR,TJ,TY]at hq;obtain⟨rfl,hq⟩:=hq;refine OKp.need.bind λ_ s1 _ _ hlt=>Vo λc hc=>?_;have hlt:=C0 hlt;rw[i7]at hlt;rcases hs.live b _ hb with⟨i,o,y,h1,h2,_,cs,k,rfl,h4,B⟩| ⟨h1,O,e',N,R,h2,h3,_⟩
     .cases g with
      |ptr _ _ _ _ C o' h h0=>rw[h1]at h;simp only[SQ,SU]at h;obtain⟨rfl,rfl⟩:=h;exact dN f h2 rfl h4 h0 hlt hq hc
     .cases g with
      |ptr _ _ _ _ C o' h h0=>grind
   exact Vl;exact Vl
   .split
    .rename_i L e D hb;cases hq:Nat.beq z D&&Nat.ble (fld+n) z with
     |false=>exact Vl|true=>
      simp only[Tk];simp only[SR,TJ,TY]at hq;obtain⟨rfl,hq⟩:=hq;refine OKp.need.bind λ_ s1 _ _ hlt=>Vo λc hc=>?_;have hlt:=C0 hlt;rw[i7]at hlt;rcases hs.fz _ (Z1 hb)with⟨i,o,cs,k,h1,h2,h4⟩| ⟨h1,h2⟩
      .cases g with
       |ptr _ _ _ _ C o' h h0=>rw[h1]at h;simp only[SQ,SU]at h;obtain⟨rfl,rfl⟩:=h;exact dN f (hs.frz _ _ h2) rfl h4 h0 hlt hq hc
      .cases g with
       |ptr _ _ _ _ C o' h h0=>grind
    exact Vl
  .rename_i row fld;refine Vp ?_;split
   .rename_i b L z hr;cases hq:Nat.ble (fld+n) z with
    |false=>exact Vl|true=>
     rw[Tk];refine OKp.need.bind λ_ s1 _ _ hlt=>Vo λc hc=>?_;have hlt:=C0 hlt;rw[i7]at hlt;obtain⟨_,_,_,cs,h2,h3⟩:=iS hs hr;cases g with
     |rp _ _ h0=>exact Gn f h2 h3 h0 hlt (SX hq) hc
   exact Vl
  .rename_i e L row fld;cases hq:Nat.ble (fld+n) (kf P e).length with
   |false=>exact Vl|true=>
    simp only[Tk];refine Vo λc hc=>?_;cases g with
    |pptr _ _ _ _ i o l c' h h0 h1=>
     generalize p:L.toR U=rows at h h1;cases h with
     |sl _ _ _ _ y cs k z rows x hF hb Q hn hz hr hx K=>
      have hg:hp.m.get i=some y:=hs.frz _ _ hF;have M:A6 P F e z o k cs (L.toR U):=by rw[p];exact⟨hn,hz,hr,λr k row d A w=>⟨x r k,hx r k row d A w,λkd H=>K r k row kd d A w H⟩⟩
      rw[<-hz]at hq⊢;exact dN f hg hb M h0 (by rw[p];exact h1) (SX hq) hc
  exact Vl
end
def mfz (b:Nat)(L:E)(e z:Nat):M Unit:=λs=>.ret ((),{s with fz:=(b,L,e,z)::s.fz})
def jM (b:Nat)(x:Bb B0):M Unit:=λs=>.ret ((),s.set b x)
def NV :Nat->As->As
 |0,_=>[]
 |n+1,zs=>zs++NV n zs
def xU :SV->Bool
 | .agg _| .tup _| .any=>false
 |_=>true
section
variable (P :Aw)(U:Ab)
def sbox (e:Ax)(l:As):M SV:=c8 (dZ (.cells l e l.length)) λb=>i5 (.ptr b l.length (.int 0) 0)
def gW (t:Ax)(len:Nat)(parts:List (Nat×SV)):M SV:=
 match P.underlying t with
 |some (.slice e)=>match P.info? e with
  |some ie=>match rI P e with
   | some z => bif Nat.beq z.length ie.size && Nat.ble (len * ie.size) 16777216 && Nat.ble len 16777216 then
     match rG (λi=>some (i*ie.size,ie.size)) (NV len z) parts with
     |some cs=>c8 (dZ (.cells cs e ie.size)) λb=>i5 (.sl b ie.size (.int 0) (.int len) (.ex (.int len)))
     |none=>b9 "buildSlice"
    else b9 "buildSlice"
   |none=>b9 "buildSlice: zero"
  |none=>b9 "buildSlice: type"
 |_=>b9 "buildSlice: type"
def Hf :E->Ai
 | .int k=>bif decide (0<=k)&&decide (k<=64)then some k.toNat else none|_=>none
theorem AK {U:Ab}{c:E}{n:Nat}(h:Hf c=some n):n=c.toN U:=by
 unfold Hf at h;split at h
 .rename_i k;cases hk:decide (0<=k)&&decide (k<=64)with
  |false=>grind|true=>rw[hk,Tk,SQ]at h;rw[<-h];rfl
 cases h
def lI (t:Ax)(l c:SV):M SV:=
 match l,c with
 | .int _ ln,.int _ cn=>match P.underlying t with
  |some (.slice e)=>match P.info? e with
   |some ie=>match rI P e with
    | some z => bif Nat.ble ie.bytes 1048576 && Nat.beq z.length ie.size then
      c8 (l9 U (y5 (y6 ln (.int 0)))) λ_=>c8 (l9 U (y5 (y6 cn ln))) λ_=>c8 (l9 U (y6 cn (.int 1048577))) λ_=>
      match Hf cn with
      |some k=>c8 (dZ (.cells (NV k z) e ie.size)) λb=>i5 (.sl b ie.size (.int 0) ln (.ex cn))
      | none => bif Nat.beq (kf P e).length ie.size && Nat.ble 1 ie.size then
        match KD (kf P e) 0 z with
        |some es=>c8 (dZ (.rows (.op .rep (cn::es)) e ie.size cn)) λb=>i5 (.sl b ie.size (.int 0) ln (.ex cn))
        |none=>b9 "makeSlice: zero"
       else b9 "makeSlice: kinds"
     else b9 "makeSlice: size"
    |none=>b9 "makeSlice: zero"
   |none=>b9 "makeSlice: type"
  |_=>b9 "makeSlice: type"
 |_,_=>b9 "makeSlice: no ints"
def W6 (L off len:E):M E:=
 match off with
 | .int m=>bif decide (m=0)&&E.like len (A4 L)then c8 (l9 U (E9 len (A4 L))) λ_=>i5 (jL L)else i5 (.op .part [L,off,len])
 |_=>i5 (.op .part [L,off,len])
def qZ (f:Kd->SV->M E)(ks:List Kd):Nat->As->M (Au)
 |_,[]=>i5 []|j,a::l=>match ks[j % ks.length]? with
  |some k=>c8 (f k a) λe=>c8 (qZ f ks (j+1) l) λes=>i5 (e::es)
  |none=>b9 "data: kind"
def xW :Nat->Kd->SV->M E
 |0,_,_=>b9 "data: depth"|d+1,k,a=>match Oi k a with
  |some e=>i5 e|none=>match k,a with
   | .sl e,.sl b z off len _=>v8 λs=>match s.get b with
    | some (.rows L e' z' _) => bif Nat.beq e e' && Nat.beq z z' then
      c8 (l9 U (y5 (y6 (A4 L) (y4 off len)))) λ_=>c8 (jM b none) λ_=>c8 (mfz b L e z) λ_=>W6 U L off len
     else b9 "data: type"
    | some (.cells l e' z') => bif Nat.beq e e' && Nat.beq z z' && Nat.beq z (kf P e).length && Nat.beq (l.length / z * z) l.length then
      c8 (l9 U (y5 (y6 (.int (l.length/z:Nat)) (y4 off len)))) λ_=>c8 (jM b none) λ_=>
      c8 (qZ (xW d) (kf P e) 0 l) λes=>c8 (mfz b (.op (.rows (l.length/z) z) es) e z) λ_=>W6 U (.op (.rows (l.length/z) z) es) off len
     else b9 "data: type"
    |some (.iter _ _)=>b9 "data: no block"|some (.reg _ _ _)=>b9 "data: no block"|none=>match lk s.fz b with
     | some (L, e', z') => bif Nat.beq e e' && Nat.beq z z' then
       c8 (l9 U (y5 (y6 (A4 L) (y4 off len)))) λ_=>W6 U L off len
      else b9 "data: type"
     |none=>b9 "data: no block"
   |_,_=>b9 "data: value"
def EW (L row:E):Nat->Au->E
 |_,[]=>L|j,e::es=>EW (.op (.upd j) [L,row,e]) row (j+1) es
def zW (b:Nat):M Unit:=v8 λs=>match s.get b with
 |some (.cells l e z)=>match vS P e z l with
  |some L=>jM b (some (.rows L e z (.int (l.length/z:Nat))))|none=>b9 "rows"
 |_=>i5 ()
def phT (ph L:E):Bool:=match ph with
 | .int _=>false|ph=> !(E.like ph (A4 L))
def lJ (b z:Nat)(row:E)(fld:Nat)(vs:As):M SV:=v8 λs=>match s.get b with
 | some (.rows _ e _ _) => bif Nat.ble (fld + vs.length) z && Nat.beq z (kf P e).length then
   c8 (qZ (xW P U 20) (kf P e) fld vs) λes=>v8 λs=>match s.get b with
   | some (.rows L e' z' ph) => bif Nat.beq e e' && Nat.beq z z' then
     bif phT ph L&&Nat.beq z 1&&Nat.beq fld 0&&Nat.beq es.length 1 then
      c8 (l9 U (y5 (y6 (A4 L) row))) λ_=>c8 (l9 U (y6 row ph)) λ_=>c8 (jM b (some (.rows (.op .over [L,row,.op (.rows 1 1) es]) e' z' ph))) λ_=>i5 (.tup [])
     else c8 (l9 U (y6 row (A4 L))) λ_=>c8 (jM b (some (.rows (EW L row fld es) e' z' ph))) λ_=>i5 (.tup [])
    else b9 "store: type"
   |_=>b9 "store: block"
  else b9 "store: beyond"
 |_=>b9 "store: no rows"
def Cz (row:E)(fld:Nat)(vs:As):M SV:=v8 λs=>match xV s with
 | some (_, _, z) => bif Nat.ble (fld + vs.length) z then
   c8 (qZ (xW P U 20) (kf P rgT) fld vs) λes=>v8 λs=>match xV s with
   | some (b, L, z') => bif Nat.beq z z' then
     c8 (l9 U (y6 row (A4 L))) λ_=>c8 (jM b (some (.reg b (EW L row fld es) z'))) λ_=>i5 (.tup [])
    else b9 "store: type"
   |none=>b9 "store: region"
  else b9 "store: beyond"
 |none=>b9 "store: region"
def IY (l:As):M SV:=v8 λs=>match xV s with
 | some (_, _, z) => bif Nat.beq l.length z && Nat.ble 1 z && l.all xU then
   c8 (qZ (xW P U 20) (kf P rgT) 0 l) λes=>v8 λs=>match xV s with
   |some (b,L,z')=>bif Nat.beq z z' then c8 (jM b (some (.reg b (F8 L (.op (.rows 1 z) es)) z))) λ_=>i5 (.rp (A4 L) 0)else b9 "new: region"
   |none=>b9 "new: region"
  else b9 "new: size"
 |none=>b9 "new: region"
def hset (k:IntKind)(es:Au)(row w:E):As:=(List.range es.length).map λj:Nat=>.int k (Gb 0 (.op .over [.op (.rows es.length 1) es,row,.op (.rows 1 1) [w]]) (.int (j:Int)))
def CA (b:Nat)(l:As)(e z:Nat)(row:E)(fld:Nat):As->M SV:=
 have _:=U
 λ_=>b9 "store"
def Hk (t:Ax)(a x:SV):M SV:=
 match P.info? t with
 |none=>b9 "store: type"|some ti=>match E0 x with
  |none=>b9 "store: value"|some vs=>bif Nat.beq vs.length ti.size&&vs.all xU then
   match a with
   | .ptr b z row fld=>v8 λs=>match s.get b with
    |some (.cells l e z')=>match row with
     | .int r => bif decide (0 ≤ r) && Nat.ble (r.toNat * z + fld + vs.length) l.length then
       c8 (jM b (some (.cells (R6 l (r.toNat*z+fld) vs) e z'))) λ_=>i5 (.tup [])else b9 "store: beyond"
     |row=>bif Nat.beq z 1&& !Nat.beq z' 1&&Nat.ble fld l.length then CA U b l e z' row fld vs else c8 (zW P b) λ_=>lJ P U b z row fld vs
    |some (.rows _ _ _ _)=>lJ P U b z row fld vs|_=>b9 "store: no block"
   | .rp row fld=>Cz P U row fld vs|_=>b9 "store: no address"
   else b9 "store: size"
end
section
variable {P :Aw}{U:Ab}{τ:Tau}{F:Ac}{s:SS}{hp:Hp}
def OKh.alloc {x:B0}{y:Blk}(hs:SD P U τ F s hp)(hy:∀τ',Tle τ τ'->BD P U τ' F 0 x y):OKh P U (dZ x) τ F s hp λb τ' F' hp'=>F'=F/\τ' b=some (some (hp.nx,0))/\hp'=⟨hp.m.set hp.nx (some y),hp.nx+1⟩:=by
 intro Q hq _;have h0:=hs.new _ (Tq _);obtain⟨h1,h2⟩:=hs.alloc (hp':=⟨hp.m.set hp.nx (some y),hp.nx+1⟩) (Ur _) (λi hi=>OB hp y i hi)
  (.inl ⟨hp.nx,0,y,rfl,Tq _,Ue _,by simp[VF],hy _ (bN _ h0)⟩)
 exact⟨s.nx,_,hq,_,F,_,h1,h2,rfl,t8 _ _ _,rfl⟩
theorem L7 (vs:Af)(j:Nat)(x:Av)(h:vs[j]? =some x):(fill .e 0 vs).get j=some x:=by rw[j6,Tp (by grind)];grind
variable {l:As}{vs:Af}
def bU (h:VDL P U τ F l vs)(e z:Nat):BD P U τ F 0 (.cells l e z) (H8 vs e z):=by refine⟨fill .e 0 vs,vs.length,rfl,by rw[h.1];omega,λj a f=>?_⟩;obtain⟨x,h1,h2⟩:=h.get f;exact⟨x,by rw[TA];exact L7 vs j x h1,h2⟩
def IK {e:Ax}(h:VDL P U τ F l vs)(hs:SD P U τ F s hp):OKh P U (sbox e l) τ F s hp λa τ' F' hp'=>(a,hp')=(a,(hp.add ⟨H8 vs e vs.length,.ptr,rfl⟩).2)/\VD P U τ' F' a (hp.add ⟨H8 vs e vs.length,.ptr,rfl⟩).1:=by refine(OKh.alloc (y:=H8 vs e vs.length) hs λτ' ht=>?_).bind λb τ' F' s' hp' _ f ⟨h1,h2,h3⟩=>?_;rw[h.1];exact bU (h.mono ht (Vd F)) e vs.length;subst h3;exact Vk ⟨rfl,VD.ptr' h2 (by show(0:Int)<=0;omega) (by show 0=0+(0:Int).toNat*_+0;simp)⟩
def sQ {l:As}{vs:Af}(h:VDL P U τ F l vs):∀n,VDL P U τ F (NV n l) (xrep n vs)
 |0=>VM|n+1=>h.append (sQ h n)
def wB {t:Ax}{len:Nat}{ps:List (Nat×SV)}{j:List (Nat×Av)}(h:PVD P U τ F ps j)(hs:SD P U τ F s hp):OKh P U (gW P t len ps) τ F s hp λa τ' F' hp'=>∃n,Hz P t len j=some n/\hp'=(hp.add n).2/\VD P U τ' F' a (hp.add n).1:=by
 unfold gW;split
 .rename_i e he;split
  .rename_i ie g;split
   .rename_i z hz;obtain⟨zv,h1,h2⟩:=cW hz;rw[h2.1];cases hb:Nat.beq zv.cells.toList.length ie.size&&Nat.ble (len*ie.size) 16777216&&Nat.ble len 16777216 with
    |false=>exact Vi|true=>
     simp only[Tk];split
     .rename_i cs f;obtain⟨ys,h3,h4⟩:=gX (sQ h2 len) h f;refine(OKh.alloc hs λτ' ht=>bU (h4.mono ht (Vd F)) e ie.size).bind λb τ' F' s' hp' _ p ⟨k1,k2,k3⟩=>?_;subst k3;refine Vk ⟨⟨H8 ys e ie.size,.slice len len,rfl⟩,?_,rfl,?_⟩;simp only[Hz,he,g,h1,hb,Tk,h3]
      .have q:len<unk:=by simp at hb;unfold unk;omega
       have:=VD.sl (P:=P) (U:=U) (F:=F') b ie.size (.int 0) (.int len) (.ex (.int len)) hp.nx 0 len k2 (Uh 0) (Int.natCast_nonneg len) ⟨Int.natCast_nonneg len,(TK len).symm,q,Uh _⟩;have r:=TK len;have m:(E.int 0).toN U*ie.size=0:=by show(0:Int).toNat*_=0;simp
       rwa[m]at this
     exact Vi
   exact Vi
  exact Vi
 exact Vi
def xrep_length (n:Nat)(vs:Af):(xrep n vs).length=n*vs.length:=by
 induction n with
 |zero=>simp[xrep]|succ n f=>simp[xrep,f,Uk];omega
theorem dA {z:Nat}{vs:Af}(hz:vs.length=z):∀ {n r k:Nat},r<n->k<z->(xrep n vs)[r*z+k]? =vs[k]?
 |0,r,k,h,_=>by omega|n+1,0,k,_,hk=>by simp only[xrep,UE,TA];rw[Tc (by omega)]|n+1,r+1,k,h,hk=>by simp only[xrep];rw[Tb (by grind),hz,show(r+1)*z+k-z=r*z+k by rw[Uk];omega];exact dA hz (by omega) hk
theorem yD {t:Ax}{a b:SV}{v u:Av}(Q:VD P U τ F a v)(hb:VD P U τ F b u)(hs:SD P U τ F s hp):OKh P U (lI P U t a b) τ F s hp λc τ' F' hp'=>∃n,KP P t v u=some n/\hp'=(hp.add n).2/\VD P U τ' F' c (hp.add n).1:=by
 unfold lI;split
 .rename_i k1 ln k2 f;cases Q;cases hb;split
  .rename_i e he;split
   .rename_i ie H;split
    .rename_i z hz;obtain⟨zv,h1,h2⟩:=cW hz;rw[h2.1];cases hb:Nat.ble ie.bytes 1048576&&Nat.beq zv.cells.toList.length ie.size with
     |false=>exact Vi|true=>
      refine Vg Vm λ_ s1 _ hs1 p1=>Vg Vm λ_ s2 _ R p2=>Vg Vm λ_ s3 _ C Y=>?_;have V:=aO p1;have W:=A0 p2;have X:=C0 Y;simp only[B4]at X;simp only[SR,TY,TJ]at hb;have hx:KP P t (.int k1 (ln.toI U)) (.int k2 (f.toI U))=some ⟨H8 (xrep (f.toN U) zv.cells.toList) e ie.size,.slice (ln.toN U) (f.toN U),rfl⟩:=by simp only[KP,he,H,h1];rw[show(decide (0<=ln.toI U)&&decide (ln.toI U<=f.toI U)&&decide (f.toI U<=1048576)&&Nat.ble ie.bytes 1048576&&Nat.beq zv.cells.toList.length ie.size)=true by simp only[SR,To,TY,TJ];exact(by grind)];rfl
      have m:∀(τ':Tau) (g:Nat),τ' g=some (some (hp.nx,0))->VD P U τ' F (.sl g ie.size (.int 0) ln (.ex f)) (.slice (some ⟨hp.nx,0,none⟩) (ln.toN U) (f.toN U)):=by
       intro τ' g J;have S:f.toN U<unk:=by unfold unk;show(f.toI U).toNat<_;omega
       have:=VD.sl (P:=P) (F:=F) g ie.size (.int 0) ln (.ex f) hp.nx 0 (f.toN U) J (Uh 0) V ⟨by omega,rfl,S,W⟩;have e2:(E.int 0).toN U*ie.size=0:=by show(0:Int).toNat*_=0;simp
       grind
      split
      .rename_i k hk;rw[<-AK hk]at hx;have q:∀(τ':Tau) (g:Nat),τ' g=some (some (hp.nx,0))->VD P U τ' F (.sl g ie.size (.int 0) ln (.ex f)) (.slice (some ⟨hp.nx,0,none⟩) (ln.toN U) k):=by rw [AK hk]; exact m
       refine(OKh.alloc C λτ' ht=>bU (sQ (h2.mono ht (Vd F)) _) e ie.size).bind λg τ' F' s' hp' _ I ⟨K,L,M⟩=>?_;subst K;subst M;exact Vk ⟨_,hx,rfl,q τ' g L⟩
      .cases hk:Nat.beq (kf P e).length ie.size&&Nat.ble 1 ie.size with
       |false=>exact Vi|true=>
        simp only[Tk];simp only[SR,TY,TJ]at hk;split
        .rename_i es G;obtain⟨t1,t2⟩:=wT G;have j:=hb.2;have N:es.length=ie.size:=by rw[t1,h2.1,j]
         refine(OKh.alloc (y:=H8 (xrep (f.toN U) zv.cells.toList) e ie.size) C λτ' ht=>?_).bind λg τ' F' s' hp' _ I ⟨K,L,M⟩=>?_
         .have hL:(E.op .rep (f::es)).toR U=List.replicate (f.toN U) (es.map (E.den U)):=by show(Dat.l (List.replicate _ (E.dens U es))).rows=_;rw[E.dens_eq];rfl
          refine⟨_,_,rfl,?_,?_⟩
          .rw[hL];refine⟨by rw[xrep_length,j];simp,hk.1.symm,λr hr=>?_,λr k row d hr p=>?_⟩;grind
           .rw[List.getElem?_replicate]at hr;split at hr
            .rename_i hlt;simp only[SQ]at hr;subst hr;have B:k<ie.size:=by grind
             rw[TU]at p;cases w:es[k]? with
             |none=>grind|some x=>
              simp only[w,TO,SQ]at p;have D:z[k]? =some (z[k]'(by omega)):=by grind
              obtain⟨y,Z,w2⟩:=h2.get D;obtain⟨kd,O,w4⟩:=t2 k _ _ D w;refine⟨y,?_,λT A=>?_⟩;rw[TA];exact L7 _ _ _ (by rw[dA j hlt B];exact Z);rw[TA,hk.1,UP B,A,SQ]at O;subst O;rw[<-p];exact CJ w2 w4
            cases hr
          rw[xrep_length,j];omega
         subst K;subst M;exact Vk ⟨_,hx,rfl,m τ' g L⟩
        exact Vi
    exact Vi
   exact Vi
  exact Vi
 exact Vi
end
section
variable {P :Aw}{U:Ab}{τ:Tau}{F:Ac}{s:SS}{hp:Hp}
theorem tH {len:E}{cap:Cp}{c:Nat}(h:mI U len cap c)(h0:0<=len.toI U):yR (len.toN U) c:=by
 cases cap with
 |ex e=>obtain⟨h1,h2,h3,h4⟩:=h;exact .inl (by grind)
 |ge=>obtain⟨lo,h1,h2,h3⟩:=h;exact .inr (by grind)
 |un=>rcases h with⟨h1,h2,h3⟩| ⟨lo,h1,h2,h3⟩;exact .inl (by grind);exact .inr (by grind)
variable {off:Int}
theorem V2 {rows:a8}{len:Int}(h0:0<=off)(h1:0<=len)(h2:off+len<=rows.length):(pQ rows off len).length=len.toNat:=by unfold pQ;grind
theorem gL {rows:a8}{len:Int}{r:Nat}{row:Ar}(h:(pQ rows off len)[r]? =some row):rows[off.toNat+r]? =some row:=by unfold pQ at h;grind
theorem PV.of_rows {F:Ac}{e e' z f o n i c:Nat}{cs:Ao}{rows:a8}{len:Int}(hF:F i=some (.cells cs n e' f))(m:f=z)(hr:A6 P F e z o n cs rows)(h0:0<=off)(h1:0<=len)(h2:off+len<=rows.length)(hc:yR len.toNat c):PV P F (.sl e) (.slice (some ⟨i,o+off.toNat*z,none⟩) len.toNat c) (.l (pQ rows off len)):=by
 subst m;obtain⟨C,p,q,w⟩:=hr;have hl:=V2 h0 h1 h2;have hx:∀(r k:Nat),∃x,∀row d,(pQ rows off len)[r]? =some row->row[k]? =some d->cs.get (o+off.toNat*f+r*f+k)=some x/\ ∀kd,(kf P e)[k]? =some kd->PV P F kd x d:=by
  intro r k;cases g:(pQ rows off len)[r]? with
  |none=>exact⟨undef,λrow d h=>by grind⟩|some row=>
   cases A:row[k]? with
   |none=>exact⟨undef,λj d h h'=>by grind⟩|some d=>obtain⟨x,k1,k2⟩:=w _ k row d (gL g) A;refine⟨x,λj B h h'=>?_⟩;grind
 have:=PV.sl e i (o+off.toNat*f) c _ cs n f (pQ rows off len) (λr k=>(hx r k).choose) hF rfl ⟨by grind,.mk⟩
  (by
   rw[hl];have:off.toNat*f+len.toNat*f<=rows.length*f:=by rw[<-TF];exact Tg f (by omega)
   omega) p (λr hr=>q r (UC (UB hr)))
 grind
def B7 {L off len:E}:OKp U (W6 U L off len) s λe=>e.den U= .l (pQ (L.toR U) (off.toI U) (len.toI U)):=by
 unfold W6;split
 .rename_i m;cases hb:decide (m=0)&&E.like len (A4 L)with
  |false=>exact Vq rfl|true=>
   simp at hb;refine OKp.need.bind λ_ s1 _ _ h=>Vq ?_;have h:=aN h;rw[i7]at h;rw[mV];unfold pQ;have f:((E.int m).toI U).toNat=0:=by rw[hb.1];rfl
   rw[f,h,TK,UK,List.take_length]
 exact Vq rfl
variable {b:Nat}
def OKh.drop :OKh P U (jM b none) τ F s hp λ_ τ' F' hp'=>τ'=τ/\F'=F/\hp'=hp:=by intro Q hq hs;obtain⟨h1,h2⟩:=hs.drop b;exact⟨(),_,hq,τ,F,hp,h1,h2,rfl,rfl,rfl⟩
def OKh.freeze {i o:Nat}{x:B0}(hb:s.get b=some x)(ht:τ b=some (some (i,o))){y:Blk}(hi:hp.m.get i=some y):OKh P U (jM b none) τ F s hp λ_ τ' F' hp'=>τ'=τ/\hp'=hp/\F' i=some y:=by intro Q hq hs;obtain⟨F',h1,h2,h3,h4⟩:=hs.freeze hb ht hi;exact⟨(),_,hq,τ,F',hp,h3,h4,rfl,rfl,h2⟩
def OKh.fz {L:E}{e z:Nat}(h:Jt P U τ F (b,L,e,z)):OKh P U (mfz b L e z) τ F s hp λ_ τ' F' hp'=>τ'=τ/\F'=F/\hp'=hp:=by intro Q hq hs;refine⟨(),_,hq,τ,F,hp,?_,⟨hs.live,hs.inj,hs.frz,hs.lt,hs.flt,hs.new,hs.fc,λr hr=>?_⟩,rfl,rfl,rfl⟩;have h:=Ext.refl hs;exact⟨h.t,h.f,h.nx,h.snx,h.st,h.low,h.hh,h.hf,h.win⟩;rcases TH.1 hr with rfl|hr;exact h;exact hs.fz r hr
theorem cM {f:Kd->SV->M E}{ks:List Kd}(hf:∀k a v τ F s hp,VD P U τ F a v->SD P U τ F s hp->OKh P U (f k a) τ F s hp λe τ' F' hp'=>τ'=τ/\hp'=hp/\PV P F' k v (e.den U)):∀ {l:As} {vs:Af} {j:Nat} {τ:Tau} {F:Ac} {s:SS} {hp:Hp},VDL P U τ F l vs->SD P U τ F s hp->OKh P U (qZ f ks j l) τ F s hp λes τ' F' hp'=>τ'=τ/\hp'=hp/\es.length=l.length/\ ∀(q:Nat) x e,vs[q]? =some x->es[q]? =some e-> ∃kd,ks[(j+q) % ks.length]? =some kd/\PV P F' kd x (e.den U)
 | [],vs,j,τ,F,s,hp,h,hs=>Vk (by grind)|a::l,vs,j,τ,F,s,hp,h,hs=>by
  obtain⟨y,ys,rfl,h1,h2⟩:=h.uncons;unfold qZ;split
  .rename_i k hk;refine(hf k a y τ F s hp h1 hs).bind λe τ1 F1 s1 hp1 ex hs1 ⟨p,r,w⟩=>?_;subst p;subst r;refine(cM hf (h2.mono ex.t ex.f) hs1).bind λes τ2 F2 s2 hp2 g B ⟨z,A,C,D⟩=>Vk ⟨z,A,by grind,λq x d hx m=>?_⟩;cases q with
   |zero=>simp at hx m;subst hx;subst m;exact⟨k,hk,w.mono P g.f⟩|succ q=>grind
  exact Vi
theorem aR :∀(d:Nat) (k:Kd) (a:SV) (v:Av) (τ:Tau) (F:Ac) (s:SS) (hp:Hp),VD P U τ F a v->SD P U τ F s hp->OKh P U (xW P U d k a) τ F s hp λe τ' F' hp'=>τ'=τ/\hp'=hp/\PV P F' k v (e.den U)
 |0,k,a,v,τ,F,s,hp,p,hs=>Vi|d+1,k,a,v,τ,F,s,hp,p,hs=>by
  unfold xW;split;rename_i e he;exact Vk ⟨rfl,rfl,CJ p he⟩
  .split
   .rename_i e b z off len cap _;refine Vj ?_;split
    .rename_i L e' H ph hb;cases hq:Nat.beq e e'&&Nat.beq z H with
     |false=>exact Vi|true=>
      simp only[Tk];simp only[SR,TJ]at hq;obtain⟨rfl,rfl⟩:=hq;refine Vg Vm λ_ s1 Y hs1 p1=>?_;have p1:=A0 p1;rw[j5,i7]at p1;have q:s1.get b=some (.rows L e z ph):=by rw[Y.get];exact hb
      rcases hs1.live b _ q with⟨i,o,y,h1,h2,_,cs,n,rfl,h4,h5⟩| ⟨h1,L',e',H,aa,h2,h3,_⟩
      .cases p with
       |sl _ _ _ _ _ X o' c h h0 g hc=>
        rw[h1]at h;simp only[SQ,SU]at h;obtain⟨rfl,rfl⟩:=h;refine(OKh.freeze q h1 h2).bind λ_ τ2 F2 s2 hp2 ex G ⟨B,C,A⟩=>?_;subst B;subst C;have Q:A6 P F2 e z o n cs (L.toR U):=⟨h4.1,h4.2.1,h4.2.2.1,λr k row d w1 w2=>let⟨x,w3,w4⟩:=h4.2.2.2 r k row d w1 w2;⟨x,w3,λkd w5=>(w4 kd w5).mono P ex.f⟩⟩
        refine(OKh.fz (.inl ⟨i,o,cs,n,h1,A,Q⟩)).bind λ_ V W s3 O D S ⟨J,K,I⟩=>?_;subst J;subst K;subst I;refine OKh.bindp' B7 λc' he=>⟨rfl,rfl,?_⟩
        rw[he];exact PV.of_rows A rfl Q h0 g p1 (tH hc g)
       |sl0 _ _ _ _ _ h h0 g hc=>grind
      .cases p with
       |sl _ _ _ _ _ X o' c h h0 g hc=>grind|sl0 _ _ _ _ _ h h0 g hc=>
        refine OKh.drop.bind λ_ τ2 F2 s2 hp2 ex G ⟨B,C,A⟩=>?_;subst B;subst C;subst A;simp only[B0.rows.injEq]at h2;obtain⟨rfl,_⟩:=h2;refine(OKh.fz (.inr ⟨h1,h3⟩)).bind λ_ V W s3 O D S ⟨J,K,I⟩=>?_;subst J;subst K;subst I;refine OKh.bindp' B7 λc' he=>⟨rfl,rfl,?_⟩
        rw[he,h3];have:pQ [] (off.toI U) (len.toI U)=[]:=by simp[pQ]
        rw[this];exact .nils _
    .rename_i l e' H hb;cases hq:Nat.beq e e'&&Nat.beq z H&&Nat.beq z (kf P e).length&&Nat.beq (l.length/z*z) l.length with
     |false=>exact Vi|true=>
      simp only[Tk];simp only[SR,TJ]at hq;obtain⟨⟨⟨rfl,rfl⟩,hz⟩,hN⟩:=hq;refine Vg Vm λ_ s1 Y hs1 p1=>?_;have p1:=A0 p1;rw[j5]at p1;simp only[B4]at p1;have q:s1.get b=some (.cells l e z):=by rw[Y.get];exact hb
      rcases hs1.live b _ q with⟨i,o,y,h1,h2,_,cs,n,rfl,h4,h5⟩| ⟨h1,L',e',H,aa,h2,h3,_⟩
      .cases p with
       |sl _ _ _ _ _ X o' c h h0 g hc=>
        rw[h1]at h;simp only[SQ,SU]at h;obtain⟨rfl,rfl⟩:=h;refine(OKh.freeze q h1 h2).bind λ_ τ2 F2 s2 hp2 ex G ⟨B,C,A⟩=>?_;subst B;subst C;obtain⟨vs,v1,v2,v3⟩:=A9 (c:=cs) (R:=λj x=>∀a,l[j]? =some a->VD P U τ2 F2 a x) l.length o 0 λj hj=>by
         have:l[j]? =some l[j]:=by simp[hj]
         obtain⟨x,k1,k2⟩:=h5 j _ this;exact⟨x,k1,λa p=>by rw[TA,this]at p;cases p;exact k2.mono ex.t ex.f⟩
        have hv:VDL P U τ2 F2 l vs:=⟨v2.symm,λj a x p hx=>v3 j x hx a (by rw[TA];exact p)⟩
        refine(cM (λk a v τ F s hp=>aR d k a v τ F s hp) hv G).bind λes V W s3 O D S ⟨J,K,I,f4⟩=>?_;subst J;subst K;have N:W i=some (.cells cs n e z):=D.f _ _ A;have w:A6 P W e z o n cs ((E.op (.rows (l.length/z) z) es).toR U):=by
         refine bP hz (by rw[I,hN]) (by rw[I];exact h4) λj x hx=>?_;have hj:j<l.length:=by grind
         have T:vs[j]? =some (vs[j]'(by omega)):=by grind
         obtain⟨kd,w1,w2⟩:=f4 j _ _ T hx;refine⟨_,by rw[<-(m9 v1).2 j hj];exact T,λah ac=>?_⟩;grind
        refine(OKh.fz (.inl ⟨i,o,cs,n,h1,N,w⟩)).bind λ_ ai F4 s4 ad ab ae ⟨g1,g2,g3⟩=>?_;subst g1;subst g2;subst g3;refine OKh.bindp' B7 λc' he=>⟨rfl,rfl,?_⟩
        rw[he];refine PV.of_rows N rfl w h0 g ?_ (tH hc g);have:((E.op (.rows (l.length/z) z) es).toR U).length=l.length/z:=by show(b8 z (l.length/z) _).length=_;rw[M7]
        grind
       |sl0 _ _ _ _ _ h h0 g hc=>grind
      cases h2
    exact Vi;exact Vi
    .split
     .rename_i L e' H hb;cases hq:Nat.beq e e'&&Nat.beq z H with
      |false=>exact Vi|true=>
       simp only[Tk];simp only[SR,TJ]at hq;obtain⟨rfl,rfl⟩:=hq;refine Vg Vm λ_ s1 Y hs1 p1=>?_;have p1:=A0 p1;rw[j5,i7]at p1;refine OKh.bindp' B7 λc' he=>⟨rfl,rfl,?_⟩
       rw[he];rcases hs.fz _ (Z1 hb)with⟨i,o,cs,n,h1,h2,h4⟩| ⟨h1,h2⟩
       .cases p with
        |sl _ _ _ _ _ X o' c h h0 g hc=>rw[h1]at h;simp only[SQ,SU]at h;obtain⟨rfl,rfl⟩:=h;exact PV.of_rows h2 rfl h4 h0 g p1 (tH hc g)
        |sl0 _ _ _ _ _ h h0 g hc=>grind
       .cases p with
        |sl _ _ _ _ _ X o' c h h0 g hc=>grind|sl0 _ _ _ _ _ h h0 g hc=>
         have Z:L.toR U=[]:=h2;have:pQ [] (off.toI U) (len.toI U)=[]:=by simp[pQ]
         rw[Z,this];exact .nils _
     exact Vi
   exact Vi
where
 OKh.bindp' {m:M E} {R:E->Prop} {R':E->Tau->(Ac)->Hp->Prop} {τ:Tau} {F:Ac} {s:SS} {hp:Hp} (h:OKp U m s R) (hr:∀e,R e->R' e τ F hp):OKh P U m τ F s hp R':=
  (h.up (P:=P) (τ:=τ) (F:=F) (hp:=hp)).mono λa τ' F' hp' _ _ ⟨B,C,A,e4⟩=>by subst B;subst C;subst A;exact hr a e4
end
section
variable {P :Aw}{U:Ab}{τ:Tau}{F:Ac}{s:SS}{hp:Hp}
theorem Dj {z r k f k':Nat}(hk:k<z)(g:k'<z)(h:r*z+k=f*z+k'):r=f/\k=k':=by
 have h1:(r*z+k)/z=r:=by rw[Nat.mul_comm,Nat.mul_add_div (by omega),Nat.div_eq_of_lt hk];omega
 have h2:(f*z+k')/z=f:=by rw[Nat.mul_comm,Nat.mul_add_div (by omega),Nat.div_eq_of_lt g];omega
 grind
variable {e o:Nat}{cs:Ao}{x:Av}
theorem A6.set1 {F:Ac}{z n:Nat}{rows:a8}(h:A6 P F e z o n cs rows){r:Int}{j:Nat}(hj:j<z){d:Dat}(hx:∀kd,(kf P e)[j]? =some kd->PV P F kd x d):A6 P F e z o n (cs.set (o+r.toNat*z+j) (some x)) (a9 rows r j d):=by
 obtain⟨G,C,D,B⟩:=h;unfold a9;refine⟨by grind,C,λrow hr=>?_,λm k row w hr hk=>?_⟩;obtain⟨q,hq⟩:=UU hr;grind
 .rw[List.getElem?_modify]at hr;cases g:rows[m]? with
  |none=>grind|some f=>
   have hl:=D f (Td g);rw[g]at hr;by_cases e:r.toNat=m;simp only[e,UG,Option.map_eq_map,TO,SQ]at hr;rw[<-hr,List.getElem?_set]at hk;by_cases A:j=k;subst A;rw[Tp rfl,Tp (by omega),SQ]at hk;refine⟨x,?_,λkd E=>by grind⟩;rw[VF,Tp (by grind)];rw[Tn A]at hk;obtain⟨y,k1,k2⟩:=B m k f w g hk;refine⟨y,?_,k2⟩;rw[VF,Tn];grind;grind
   .simp only[e,if_false,Option.map_eq_map,TO,SQ]at hr;subst hr;obtain⟨y,k1,k2⟩:=B m k f w g hk;have p:k<z:=by grind
    refine⟨y,?_,k2⟩;rw[VF,Tn];grind;intro h;exact e (Dj p hj (by omega)).1.symm
theorem qC {F:Ac}{e z o n:Nat}{row:E}(h0:0<=row.toI U):∀ {es:Au} {vs:Af} {L:E} {cs:Ao} {fld:Nat},A6 P F e z o n cs (L.toR U)->es.length=vs.length->fld+es.length<=z->(∀(q:Nat) x d,vs[q]? =some x->es[q]? =some d-> ∀kd,(kf P e)[fld+q]? =some kd->PV P F kd x (d.den U))->A6 P F e z o n (fill cs (o+row.toN U*z+fld) vs) ((EW L row fld es).toR U)
 | [],[],L,cs,fld,h,_,_,_=>h|d::es,x::vs,L,cs,fld,h,hl,hf,hp=>by
  have h1:=h.set1 (r:=row.toI U) (by grind) (λkd f=>hp 0 x d rfl rfl kd f);have h2:=qC h0 (L:= .op (.upd fld) [L,row,d]) (fld:=fld+1) h1 (by simpa using hl) (by grind)
   (λq y w hy g kd f=>hp (q+1) y w (by grind) (by grind) kd (by grind))
  exact h2
 | [],_::_,_,_,_,_,hl,_,_=>by grind|_::_,[],_,_,_,_,hl,_,_=>by grind
variable {v:Av}
def Pf {a:SV}(h:VD P U τ F a v)(e:xU a=true):v.oneCell'=true:=by
 cases h with
 |any=>simp[xU]at e|agg=>simp[xU]at e|tup=>simp[xU]at e|lst t L clip v h hc=>generalize L.toR U=rows at h;cases h<;>rfl
 |rpq x v h=>generalize x.toI U=n at h;cases h<;>rfl
 |_=>rfl
variable {l:As}
theorem Ef {vs:Af}(h:VDL P U τ F l vs)(e:l.all xU=true):vs.all Value.oneCell'=true:=by
 rw[Ty]at e⊢;intro x hx;obtain⟨i,hi⟩:=UU hx;have g:i<l.length:=by have:=(SW.1 hi).1;rw[h.1];exact this
 have f:l[i]? =some l[i]:=by grind
 exact Pf (h.2 i _ _ f hi) (by grind)
def qP {t:Ax}{f:Ba}(g:P.info? t=some f)(hx:x.cells.toList.length=f.size)(j:x.cells.toList.all Value.oneCell'=true){i n z:Nat}{c:Ao}(hg:hp.m.get i=some (.cells c n e z))(hn:o+f.size<=n):I5 P hp t (.pointer (some ⟨i,o,none⟩)) x=some {hp with m:=hp.m.set i (some (.cells (fill c o x.cells.toList) n e z))}:=by simp only[I5,hg,g];rw[show(Nat.beq x.cells.toList.length f.size&&Nat.ble (o+f.size) n&&x.cells.toList.all Value.oneCell')=true by simp only[SR,TJ,TY];exact⟨⟨hx,hn⟩,j⟩];simp only[Tk,qK,VC]
variable {b:Nat}
def OKh.change {i:Nat}{x x':B0}(hb:s.get b=some x)(ht:τ b=some (some (i,o))){y:Blk}{m:T Blk}(hk:∀j,j≠i->m.get j=hp.m.get j)(hi:m.get i=some y)(f:BD P U τ F o x' y)(g:∀c e z c',x= .cells c e z->x'= .cells c' e z->c'.length=c.length-> ∀cs n,hp.m.get i=some (.cells cs n e z)-> ∃cs',y= .cells cs' n e z/\ ∀j,j<o\/o+c.length<=j->cs'.get j=cs.get j:=by intro _ _ _ _ h h';first| (cases h;done)| (cases h';done)):OKh P U (jM b (some x')) τ F s hp λ_ τ' F' hp'=>τ'=τ/\F'=F/\hp'= {hp with m:=m}:=by intro Q hq hs;obtain⟨h1,h2⟩:=hs.change (hp':= {hp with m:=m}) hb ht rfl hk hi f g;exact⟨(),_,hq,τ,F,_,h1,h2,rfl,rfl,rfl⟩
def Vh:type_of% @OKh.change:=@OKh.change
theorem gF (hs:SD P U τ F s hp):OKh P U (zW P b) τ F s hp λ_ τ' F' hp'=>τ'=τ/\F'=F/\hp'=hp:=by
 refine Vj ?_;split
 .rename_i l e z hb;split
  .rename_i L hL;rcases hs.live b _ hb with⟨i,o,y,h1,h2,_,cs,n,rfl,h4,m⟩| ⟨h1,q,e',r,p,h2,h3,_⟩
   .have hr:=pO hL h4 m;refine(Vh (x':= .rows L e z (.int (l.length/z:Nat))) hb h1 (λ_ _=>rfl) h2 ⟨cs,n,rfl,hr,?_⟩).mono λ_ τ' F' hp' _ _ ⟨f,g,j⟩=>⟨f,g,j⟩
    have f:(E.int ((l.length/z:Nat):Int)).toN U=l.length/z:=TK _;rw[f];have:l.length/z*z<=l.length:=Nat.div_mul_le_self _ _;omega
   grind
  exact Vi
 exact Vk ⟨rfl,rfl,rfl⟩
variable {a:Int}
theorem AA {rows:a8}{l:a8}(h1:a<=rows.length){r:Nat}{row:Ar}(h:(Sx.over rows a l)[r]? =some row):(r<a.toNat/\rows[r]? =some row)\/(a.toNat<=r/\r<a.toNat+l.length/\l[r-a.toNat]? =some row)\/(a.toNat+l.length<=r/\rows[r]? =some row):=by
 unfold Sx.over at h;have hl:(rows.take a.toNat).length=a.toNat:=by grind
 by_cases f:r<a.toNat;grind;by_cases g:r<a.toNat+l.length;grind;rw[Th,Tb (by omega),hl,Tb (by omega),TI]at h;grind
theorem Eh {rows:a8}{l:a8}(h1:a<=rows.length):(Sx.over rows a l).length=Nat.max rows.length (a.toNat+l.length):=by unfold Sx.over;grind
theorem A6.over {z k:Nat}{rows l:a8}{news:Af}(hr:A6 P F e z o k cs rows)(h1:a<=rows.length)(hl:∀r∈l,r.length=z)(hn:news.length=l.length*z)(hk:o+(a.toNat+l.length)*z<=k)(hx:∀(r j:Nat) (row:Ar) (d:Dat),l[r]? =some row->row[j]? =some d-> ∃x,news[r*z+j]? =some x/\ ∀kd,(kf P e)[j]? =some kd->PV P F kd x d):A6 P F e z o k (fill cs (o+a.toNat*z) news) (Sx.over rows a l):=by
 obtain⟨w,f,A,B⟩:=hr;refine⟨?_,f,λr h=>?_,λr j row d h h'=>?_⟩;rw[Eh h1];grind;obtain⟨q,hq⟩:=UU h;rcases AA h1 hq with⟨_,h⟩| ⟨_,_,h⟩| ⟨_,h⟩;grind;grind;grind
 .rw[j6,hn];rcases AA h1 h with⟨c,h⟩| ⟨g,m,h⟩| ⟨c,h⟩
  .have hj:j<z:=by grind
   have:r*z+z<=a.toNat*z:=by rw[<-Uk];exact Tg z c
   grind
  .have hj:j<z:=by grind
   have p:r*z=a.toNat*z+(r-a.toNat)*z:=by rw[<-TF];congr 1;omega
   grind
  .have hj:j<z:=by grind
   have:=Tg z c;grind
variable {fld:Nat}{vs:As}
theorem jZ {t:Ax}{J:Ba}(H:P.info? t=some J){z:Nat}{row:E}(ha:VD P U τ F (.ptr b z row fld) v)(hv:VDL P U τ F vs x.cells.toList)(hx:x.cells.toList.length=J.size)(ho:x.cells.toList.all Value.oneCell'=true)(hs:SD P U τ F s hp):OKh P U (lJ P U b z row fld vs) τ F s hp λa _ _ hp'=>a= .tup []/\I5 P hp t v x=some hp':=by
 refine Vj ?_;split
 .rename_i L0 e z0 ai ac;cases hq:Nat.ble (fld+vs.length) z&&Nat.beq z (kf P e).length with
  |false=>exact Vi|true=>
   simp only[Tk];simp only[SR,TJ,TY]at hq;obtain⟨hf,hz⟩:=hq;refine(cM (λk a v τ F s hp=>aR 20 k a v τ F s hp) hv hs).bind λes τ1 F1 s1 hp1 ex hs1 ⟨e1,e2,K,e4⟩=>Vj ?_;split
   .rename_i L e' z' ph hb;cases hq:Nat.beq e e'&&Nat.beq z z' with
    |false=>exact Vi|true=>
     simp only[Tk];simp only[SR,TJ]at hq;obtain⟨rfl,rfl⟩:=hq;cases hT:phT ph L&&Nat.beq z 1&&Nat.beq fld 0&&Nat.beq es.length 1 with
     |true=>
      simp only[SR,TJ]at hT;obtain⟨⟨⟨_,rfl⟩,rfl⟩,N⟩:=hT;obtain⟨e0,rfl⟩:∃e0,es=[e0]:=by
       match es,N with
       | [e0],_=>grind
      refine Vg Vm λ_ s2 Z G p1=>Vg Vm λ_ s3 o3 V p2=>?_;have p1:=A0 p1;have p2:=C0 p2;rw[i7]at p1;have A:s3.get b=some (.rows L e 1 ph):=by rw[o3.get,Z.get];exact hb
      have w:=ha.mono ex.t ex.f;rcases V.live b _ A with⟨i,o,y,h1,h2,_,cs,n,rfl,h4,M⟩| ⟨h1,L',e',z',aa,h2,h3,_⟩
      .cases w with
       |ptr _ _ _ _ X o' h h0=>
        have ah:x.cells.toList.length=1:=by rw[<-hv.1,<-K];rfl
        have g:o+row.toN U*1+0+J.size<=n:=by grind
        have W:=qP H hx ho h2 g;have p:=A6.over (l:=[[e0.den U]]) h4 p1 (by grind) (by omega)
         (by grind) (λr j q d hr D=>by
          have R:r=0:=by grind
          subst R;simp at hr;subst hr;have O:j=0:=by grind
          subst O;simp at D;subst D;obtain⟨y,hy⟩:∃y,x.cells.toList[0]? =some y:=⟨_,Tf (by omega)⟩
          refine⟨y,hy,λkd B=>?_⟩;obtain⟨Y,C,I⟩:=e4 0 y e0 hy rfl;rw[<-hz,B,SQ]at C;subst C;exact I)
        refine(Vh (x':= .rows (.op .over [L,row,.op (.rows 1 1) [e0]]) e 1 ph) (y:= .cells (fill cs (o+row.toN U*1+0) x.cells.toList) n e 1) (m:=hp1.m.set i (some (.cells (fill cs (o+row.toN U*1+0) x.cells.toList) n e 1))) A h1 (λj hj=>by rw[VF,Tn hj]) (by rw[VF,Tp rfl]) ⟨_,n,rfl,p,M⟩).bind λ_ ab F3 s3 Q _ _ ⟨C,I,w3⟩=>Vk ⟨rfl,?_⟩;grind
      .cases w with
       |ptr _ _ _ _ X o' h h0=>grind
     |false=>
     simp only[Tl];refine Vg Vm λ_ s2 Z G p1=>?_;have p1:=C0 p1;rw[i7]at p1;have A:s2.get b=some (.rows L e z ph):=by rw[Z.get];exact hb
     have w:=ha.mono ex.t ex.f;rcases G.live b _ A with⟨i,o,y,h1,h2,_,cs,n,rfl,h4,M⟩| ⟨h1,L',e',z',aa,h2,h3,_⟩
     .cases w with
      |ptr _ _ _ _ X o' h h0=>
       have S:row.toN U<(L.toR U).length:=by grind
       have ad:row.toN U*z+z<=(L.toR U).length*z:=by rw[<-Uk];exact Tg z S
       have g1:=h4.1;have g:o+row.toN U*z+fld+J.size<=n:=by rw[<-hx,<-hv.1];omega
       have W:=qP H hx ho h2 g;have p:=qC h0 h4 (by rw[K,hv.1]) (by rw[K];exact hf) (λq y d hy D kd B=>by obtain⟨Y,C,I⟩:=e4 q y d hy D;have ae:q<es.length:=(SW.1 D).1;rw[<-hz,UP (by omega),B,SQ]at C;subst C;exact I);refine(Vh (x':= .rows (EW L row fld es) e z ph) (m:=hp1.m.set i (some (.cells (fill cs (o+row.toN U*z+fld) x.cells.toList) n e z))) A h1 (λj hj=>by rw[VF,Tn hj]) (by rw[VF,Tp rfl]) ⟨_,n,rfl,p,M⟩).bind λ_ ab F3 s3 Q _ _ ⟨C,I,w3⟩=>Vk ⟨rfl,?_⟩;grind
     .cases w with
      |ptr _ _ _ _ X o' h h0=>grind
   exact Vi
 exact Vi
def wW {row:E}:∀ {es:Au} {L:E} {fld:Nat},((EW L row fld es).toR U).length=(L.toR U).length
 | [],L,fld=>rfl|d::es,L,fld=>by unfold EW;rw[wW (es:=es)];show(a9 (L.toR U) _ fld _).length=_;simp[a9]
theorem Hl {t:Ax}{g:Ba}(G:P.info? t=some g){row:E}(R:VD P U τ F (.rp row fld) v)(hv:VDL P U τ F vs x.cells.toList)(hx:x.cells.toList.length=g.size)(V:x.cells.toList.all Value.oneCell'=true)(hs:SD P U τ F s hp):OKh P U (Cz P U row fld vs) τ F s hp λa _ _ hp'=>a= .tup []/\I5 P hp t v x=some hp':=by
 unfold Cz;refine Vj ?_;split
 .rename_i b0 L0 z w;obtain⟨_,_,_,_,_,g0⟩:=iS hs w;cases hq:Nat.ble (fld+vs.length) z with
  |false=>exact Vi|true=>
   simp only[Tk];have hf:=SX hq;have hz:=g0.2.1;refine(cM (ks:=kf P rgT) (j:=fld) (λk a v τ F s hp=>aR 20 k a v τ F s hp) hv hs).bind λes τ1 F1 s1 hp1 ex hs1 ⟨N,O,I,Q⟩=>Vj ?_;subst N;subst O;split
   .rename_i b L z' hr;cases hq:Nat.beq z z' with
    |false=>exact Vi|true=>
     rw[Tk];have:=SY hq;subst this;refine Vg Vm λ_ s2 K C p1=>?_;have p1:=C0 p1;rw[i7]at p1;have A:xV s2=some (b,L,z):=by unfold xV at hr⊢;rw[K.h];split at hr;rename_i b' S;rw[K.get];exact hr;cases hr
     obtain⟨p,h1,_,cs,h2,h4⟩:=iS C A;cases R with
     |rp _ _ h0=>
      have B:row.toN U<(L.toR U).length:=by grind
      have f:=qC (P:=P) (F:=F1) h0 (es:=es) (vs:=x.cells.toList) (fld:=fld) h4 (by rw[I,hv.1]) (by rw[I];exact hf) (λq y d hy J kd r=>by obtain⟨Y,H,M⟩:=Q q y d hy J;have X:q<es.length:=(SW.1 J).1;rw[<-hz,UP (by omega),r,SQ]at H;subst H;exact M);rw[TA]at f;have D:I5 P hp1 t (.pointer (some ⟨row.toN U,fld,some 1⟩)) x=some (hp1.setR (fill cs (row.toN U*z+fld) x.cells.toList) (L.toR U).length rgT z):=by simp only[I5,Dh,h2,G];rw[show(Nat.beq x.cells.toList.length g.size&&Nat.ble (row.toN U+1) (L.toR U).length&&Nat.ble (fld+g.size) z&&x.cells.toList.all Value.oneCell')=true by simp only[SR,TJ,TY];exact⟨⟨⟨hx,B⟩,by rw[<-hx,<-hv.1];omega⟩,V⟩];rfl
      refine(Vh (x':= .reg b (EW L row fld es) z) (m:=hp1.m.set 0 (some (.reg (fill cs (row.toN U*z+fld) x.cells.toList) (L.toR U).length rgT z))) p h1 (λj hj=>by rw[VF,Tn hj]) (by rw[VF,Tp rfl]) ⟨rfl,h1,_,by rw[wW],by rw[wW];exact f⟩).bind λ_ aa F3 s3 W _ _ ⟨H,M,Z⟩=>Vk ⟨rfl,?_⟩;rw[D,Z];rfl
   exact Vi
 exact Vi
theorem EL {vs:Af}(hv:VDL P U τ F l vs)(hs:SD P U τ F s hp):OKh P U (IY P U l) τ F s hp λa τ' F' hp'=>∃v,xJ hp vs=some (v,hp')/\VD P U τ' F' a v:=by
 unfold IY;refine Vj ?_;split
 .rename_i b0 Y z A;obtain⟨_,_,_,_,_,g0⟩:=iS hs A;cases hq:Nat.beq l.length z&&Nat.ble 1 z&&l.all xU with
  |false=>exact Vi|true=>
   simp only[Tk];simp only[SR,TJ,TY]at hq;obtain⟨⟨hl,S⟩,_⟩:=hq;have hz:=g0.2.1;refine(cM (ks:=kf P rgT) (j:=0) (λk a v τ F s hp=>aR 20 k a v τ F s hp) hv hs).bind λes τ1 F1 s1 hp1 ex hs1 ⟨N,O,Z,Q⟩=>Vj ?_;subst N;subst O;split
   .rename_i b L X hr;cases hq:Nat.beq z X with
    |false=>exact Vi|true=>
     rw[Tk];have:=SY hq;subst this;obtain⟨B,h1,_,cs,h2,h4⟩:=iS hs1 hr;have H:vs.length=z:=by rw[<-hv.1];exact hl
     have p:(E.op (.rows 1 z) es).toR U=[es.map (E.den U)]:=by show(Dat.l (b8 z 1 (E.dens U es))).rows=_;rw[E.dens_eq];show [(es.map (E.den U)).take z]=_;rw[TT (by simp;omega)]
     have g:((F8 L (.op (.rows 1 z) es)).toR U).length=(L.toR U).length+1:=by rw[M8,p];simp
     have w:Sx.over (L.toR U) ((L.toR U).length:Int) [es.map (E.den U)]=L.toR U++ [es.map (E.den U)]:=by unfold Sx.over;rw[TK,List.take_length,List.drop_eq_nil_of_le (by simp),UF]
     have f:=A6.over (P:=P) (F:=F1) (k:=((L.toR U).length+1)*z) (news:=vs) (l:=[es.map (E.den U)]) (a:=((L.toR U).length:Int)) ⟨by rw[TF];have:=h4.1;omega,h4.2.1,h4.2.2.1,h4.2.2.2⟩ (Uh _)
      (λr hr=>by simp at hr;rw[hr];simp;omega) (by rw[H];simp) (by rw[TK];simp) (λr j q d hr C=>by
       have A:r=0:=by grind
       subst A;simp at hr;subst hr;rw[TU]at C;cases he:es[j]? with
       |none=>grind|some e0=>
        rw[he,TO,SQ]at C;have hj:j<es.length:=(SW.1 he).1;obtain⟨y,hy⟩:∃y,vs[j]? =some y:=⟨_,Tf (by omega)⟩
        refine⟨y,by rw[UE,TA];exact hy,λkd D=>?_⟩;obtain⟨V,I,K⟩:=Q j y e0 hy he;rw[<-hz,TA,UP (by omega),D,SQ]at I;subst I;rw[<-C];exact K)
     rw[w,TA,TK]at f;have G:xJ hp1 vs=some (.pointer (some ⟨(L.toR U).length,0,some 1⟩),hp1.setR (fill cs ((L.toR U).length*z) vs) ((L.toR U).length+1) rgT z):=by simp only[xJ,h2];simp_all
     refine(Vh (x':= .reg b (F8 L (.op (.rows 1 z) es)) z) (m:=hp1.m.set 0 (some (.reg (fill cs ((L.toR U).length*z) vs) ((L.toR U).length+1) rgT z))) B h1 (λj hj=>by rw[VF,Tn hj]) (by rw[VF,Tp rfl]) ⟨rfl,h1,_,by rw[g],by rw[g,M8,p];exact f⟩).bind λ_ J M s3 R _ _ ⟨I,K,W⟩=>Vk ⟨.pointer (some ⟨(L.toR U).length,0,some 1⟩),G.trans (by rw[W];rfl),?_⟩;have:=VD.rp (P:=P) (U:=U) (τ:=J) (F:=M) (A4 L) 0 (by rw[i7];omega);rw[show(A4 L).toN U=(L.toR U).length by show((A4 L).toI U).toNat=_;rw[i7];omega]at this;exact this
   exact Vi
 exact Vi
def Hm {t:Ax}{f:Ba}(j:P.info? t=some f){g:Nat}{row:E}(hb:s.get b=some (.cells l e g))(hf:fld<=l.length)(m:VD P U τ F (.ptr b 1 row fld) v)(hv:VDL P U τ F vs x.cells.toList)(hx:x.cells.toList.length=f.size)(p:x.cells.toList.all Value.oneCell'=true)(hs:SD P U τ F s hp):OKh P U (CA U b l e g row fld vs) τ F s hp λa _ _ hp'=>a= .tup []/\I5 P hp t v x=some hp':=by unfold CA;exact Vi
theorem KA {t:Ax}{a b:SV}(q:VD P U τ F a v)(hb:VD P U τ F b x)(hs:SD P U τ F s hp):OKh P U (Hk P U t a b) τ F s hp λc _ _ hp'=>c= .tup []/\I5 P hp t v x=some hp':=by
 unfold Hk;split;exact Vi
 .rename_i J f;split;exact Vi
  .rename_i vs I;have hv:=cU hb I;cases hq:Nat.beq vs.length J.size&&vs.all xU with
   |false=>exact Vi|true=>
    simp only[Tk];simp only[SR,TJ]at hq;obtain⟨A,C⟩:=hq;have hx:x.cells.toList.length=J.size:=by rw[<-hv.1];exact A
    have B:=Ef hv C;split
    .rename_i b' z row fld;refine Vj ?_;split
     .rename_i l e D g;split
      .rename_i r;cases hq:decide (0<=r)&&Nat.ble (r.toNat*z+fld+vs.length) l.length with
       |false=>exact Vi|true=>
        simp only[Tk];simp only[SR,To,TY]at hq;rcases hs.live b' _ g with⟨i,o,y,h1,h2,_,cs,n,rfl,h4,Y⟩| ⟨h1,X,e',D,Q,h2,h3,_⟩
        .cases q with
         |ptr _ _ _ _ Z o' h h0=>
          rw[h1]at h;simp only[SQ,SU]at h;obtain⟨rfl,rfl⟩:=h;have G:(E.int r).toN U=r.toNat:=rfl;have O:=qP f hx B h2 (o:=o+(E.int r).toN U*z+fld) (by rw[G,<-hx,<-hv.1];omega);refine(Vh (x':= .cells (R6 l (r.toNat*z+fld) vs) e D) (m:=hp.m.set i (some (.cells (fill cs (o+(E.int r).toN U*z+fld) x.cells.toList) n e D))) g h1 (λj hj=>by rw[VF,Tn hj]) (by rw[VF,Tp rfl])
           ⟨_,n,rfl,?_,λj c hc=>?_⟩ (by intro c _ _ c' k1 _ _ K n1 hg;cases k1;rw[h2]at hg;cases hg;exact⟨_,rfl,λj hj=>by rw[j6,Tn (by rw[G];have:=hv.1;omega)]⟩)).bind λ_ V W s3 N _ _ ⟨R,S,w3⟩=>Vk ⟨rfl,?_⟩
          unfold R6;simp;omega
          .unfold R6 at hc;rw[j6,G];by_cases hj:r.toNat*z+fld<=j/\j<r.toNat*z+fld+x.cells.toList.length
           .rw[Tp (by omega)];have p:(l.take (r.toNat*z+fld)).length=r.toNat*z+fld:=by grind
            rw[Th,Tb (by omega),Tc (by rw[p,hv.1];omega),p]at hc;obtain⟨w,R,S⟩:=hv.get hc;grind
           .rw[Tn (by omega)];by_cases H:j<r.toNat*z+fld;rw[Th,Tc (by simp;omega),TB,Tp H]at hc;grind
            .have p:(l.take (r.toNat*z+fld)).length=r.toNat*z+fld:=by simp;omega
             rw[Th,Tb (by omega),p,Tb (by rw[hv.1];omega),TI]at hc;grind
          grind
        cases h2
      .cases hq:Nat.beq z 1&& !Nat.beq D 1&&Nat.ble fld l.length with
       |true=>rw[Tk];simp only[SR,TJ,TY]at hq;obtain⟨⟨rfl,_⟩,hf⟩:=hq;exact Hm f g hf q hv hx B hs
       |false=>rw[Tl];refine(gF hs).bind λ_ τ1 F1 s1 hp1 ex hs1 ⟨p,L,M⟩=>?_;subst p;subst L;subst M;exact jZ f q hv hx B hs1
     exact jZ f q hv hx B hs;exact Vi
    exact Hl f q hv hx B hs;exact Vi
end
def Gu (e l h:E):E:=match e,l,h with
 | .str p,.int a,.int b=>.str ((p.take b.toNat).drop a.toNat)|e,l,h=>.op .ssub [e,l,h]
def R0 (x:Bb SV)(d:E):Bb E:=match x with
 |none=>some d|some (.int _ e)=>some e|some _=>none
def kT :E->Bool
 | .int n=>decide (n=0)|_=>false
section
variable (P :Aw)(U:Ab)
def slen (t:Ax)(x:SV):M SV:=
 match P.underlying t,x with
 |some .string,.str e=>i5 (.int .i64 (bJ e))|some (.array n _),_=>i5 (.int .i64 (.int n))|some (.slice _),.sl _ _ _ len _=>i5 (.int .i64 len)|some (.slice _),.lst _ L _=>i5 (.int .i64 (A4 L))|some (.slice _),.nils=>i5 (.int .i64 (.int 0))|_,_=>b9 "len"
def scap (t:Ax)(x:SV):M SV:=
 match P.underlying t,x with
 |some (.slice _),.sl _ _ _ _ (.ex c)=>i5 (.int .i64 c)|some (.slice _),.lst _ L true=>i5 (.int .i64 (A4 L))|some (.slice _),.nils=>i5 (.int .i64 (.int 0))|some (.array n _),_=>i5 (.int .i64 (.int n))|_,_=>b9 "cap"
def X6 (l h top:E):M Unit:=c8 (l9 U (y5 (y6 l (.int 0)))) λ_=>c8 (l9 U (y5 (y6 h l))) λ_=>l9 U (y5 (y6 top h))
def yU (b z:Nat)(off l h c:E):M SV:=
 bif kT l then i5 (.sl b z off h (.ex c))else
  c8 (gG U (E9 c l)) λt=>bif t then i5 (.sl b z off (N6 h l) (.ex (N6 c l)))else i5 (.sl b z (y4 off l) (N6 h l) (.ex (N6 c l)))
def Qh (e b z:Nat)(off len l h:E):M SV:=
 bif kT l then i5 (.sl b z off h .ge)else
  c8 (gG U (y6 l len)) λt=>v8 λs=>match s.get b with
   | some (.rows L e' z' _) => bif Nat.beq e e' && Nat.beq z z' then
     (bif t then i5 (.sl b z (y4 off l) (N6 h l) .ge)else
      c8 (l9 U (y5 (y6 (A4 L) (y4 off len)))) λ_=>c8 (jM b none) λ_=>i5 (.lst e (.op .nil []) false))
    else b9 "slice: type"
   |some (.cells _ e' z')=>bif Nat.beq e e'&&Nat.beq z z'&&t then i5 (.sl b z (y4 off l) (N6 h l) .ge)else b9 "slice: cells"|_=>b9 "slice: no block"
def Hj (t:Ax)(x:SV)(lo hi mx:Bb SV):M SV:=
 match P.underlying t with
 |some .string=>match x,mx with
  | .str e,none=>match R0 lo (.int 0),R0 hi (bJ e)with
   |some l,some h=>c8 (X6 U l h (bJ e)) λ_=>i5 (.str (Gu e l h))
   |_,_=>b9 "slice: bounds"
  |_,_=>b9 "slice: string"
 |some (.slice e)=>match P.info? e with
  |none=>b9 "slice: type"|some ie=>match x with
   | .nils=>match R0 lo (.int 0),R0 hi (.int 0),mx with
    |some l,some h,none=>c8 (X6 U l h (.int 0)) λ_=>i5 .nils
    |some l,some h,some m=>match R0 (some m) (.int 0),hi with
     |some m,some _=>c8 (X6 U l h m) λ_=>c8 (l9 U (y5 (y6 (.int 0) m))) λ_=>i5 .nils
     |_,_=>b9 "slice: bounds"
    |_,_,_=>b9 "slice: bounds"
   | .sl b z off len cap => bif Nat.beq z ie.size then
     match R0 lo (.int 0),R0 hi len,mx with
     |some l,some h,none=>match cap with
      | .ex c=>c8 (X6 U l h c) λ_=>yU U b z off l h c
      | .ge=>c8 (X6 U l h len) λ_=>Qh U e b z off len l h
      | .un=>b9 "slice: room"
     |some l,some h,some m=>match R0 (some m) (.int 0),hi with
      |some m,some _=>c8 (X6 U l h m) λ_=>c8 (l9 U (y5 (y6 (match cap with| .ex c=>c|_=>len) m))) λ_=>yU U b z off l h m
      |_,_=>b9 "slice: bounds"
     |_,_,_=>b9 "slice: bounds"
    else b9 "slice: size"
   | .lst e' L clip => bif Nat.beq e e' && Nat.beq ie.size (kf P e).length then
     match R0 lo (.int 0),R0 hi (A4 L),mx with
     |some l,some h,none=>c8 (X6 U l h (A4 L)) λ_=>c8 (W6 U L l (N6 h l)) λc=>i5 (.lst e' c (clip&&hi.isNone))
     |some l,some h,some m=>match R0 (some m) (.int 0),hi with
      | some m, some _ => c8 (X6 U l h m) λ_ => c8 (l9 U (y5 (y6 (A4 L) m))) λ_ => c8 (bif clip then i5 () else l9 U (y6 (.int 0) (A4 L))) λ_ =>
        c8 (W6 U L l (N6 h l)) λc=>bif E.like h m then c8 (l9 U (E9 h m)) λ_=>i5 (.lst e' c true)else i5 (.lst e' c false)
      |_,_=>b9 "slice: bounds"
     |_,_,_=>b9 "slice: bounds"
    else b9 "slice: list"
   |_=>b9 "slice: value"
 |_=>b9 "slice: type"
end
section
variable {P :Aw}{U:Ab}{τ:Tau}{F:Ac}{s:SS}{hp:Hp}
variable {v:Av}
def PV.slice {e:Ax}{d:Dat}(h:PV P F (.sl e) v d):∃a c,v= .slice a d.rows.length c:=by cases h<;>exact⟨_,_,rfl⟩
theorem Py {t:Ax}{a:SV}(f:VD P U τ F a v):OKp U (slen P t a) s λb=>∃w,lU P t v=some w/\VD P U τ F b w:=by
 unfold slen;split;rename_i e ht;cases f;refine Vq ⟨.int .i64 ((e.den U).toStr.length:Nat),?_,VJ (P6 e)⟩;simp[lU,ht];rename_i _ _ _ n e ht;refine Vq ⟨.int .i64 (n:Nat),?_,VJ rfl⟩;simp only[lU,ht]
 .rename_i e' b z off len cap ht;cases f with
  |sl _ _ _ _ _ i o c h h0 h1 hc=>refine Vq ⟨.int .i64 (len.toN U:Nat),?_,VJ (by grind)⟩;simp[lU,ht]|sl0 _ _ _ _ _ h h0 h1 hc=>refine Vq ⟨.int .i64 0,?_,VJ h1⟩;simp[lU,ht]
 .rename_i e' g L clip ht;cases f with
  |lst _ _ _ _ h hc=>obtain⟨a,c,rfl⟩:=h.slice;refine Vq ⟨.int .i64 ((L.toR U).length:Nat),?_,VJ (i7 L)⟩;simp only[lU,ht];rfl
 rename_i e' ht;cases f;refine Vq ⟨.int .i64 0,?_,VJ rfl⟩;simp[lU,ht];exact Vl
theorem HZ {e:Ax}{a:Aq}{l:Nat}{d:Dat}(h:PV P F (.sl e) (.slice a l l) d):a=none\/l<unk:=by
 cases h with
 |nils=>grind|sl _ i o c b cs n z rows x hF hb hc hn hz hr hx hp=>right;rcases hc.1 with⟨h,_⟩| ⟨lo,h1,h2,h3⟩;exact h;have:=q0 lo 0;unfold unk at*;omega
theorem Pu {t:Ax}{a:SV}(f:VD P U τ F a v):OKp U (scap P t a) s λb=>∃w,nX P t v=some w/\VD P U τ F b w:=by
 unfold scap;split
 .rename_i e' b z off len c ht;cases f with
  |sl _ _ _ _ _ i o c' h h0 h1 hc=>
   obtain⟨k1,k2,k3,k4⟩:=hc;refine Vq ⟨.int .i64 (c':Nat),?_,VJ (by grind)⟩;have:Nat.ble unk c'=false:=by
    cases hb:Nat.ble unk c' with
    |false=>rfl|true=>simp_all;omega
   simp only[nX,ht,this,Tl]
  |sl0 _ _ _ _ _ h h0 h1 hc=>refine Vq ⟨.int .i64 0,?_,VJ (hc c rfl)⟩;simp[nX,ht]
 .rename_i e' g L ht;cases f with
  |lst _ _ _ _ h hc=>
   obtain⟨a,l,rfl⟩:=hc rfl;have hl:=h.len;refine Vq ⟨.int .i64 (l:Nat),?_,VJ (by rw[i7,hl];rfl)⟩;rcases HZ h with rfl|hlt;simp only[nX,ht]
   .cases a with
    |none=>simp only[nX,ht]|some a=>
     have:Nat.ble unk l=false:=by
      cases hb:Nat.ble unk l with
      |false=>rfl|true=>simp_all;omega
     simp only[nX,ht,this,Tl]
 rename_i e' ht;cases f;refine Vq ⟨.int .i64 0,?_,VJ rfl⟩;simp[nX,ht];rename_i _ _ _ n e' ht;refine Vq ⟨.int .i64 (n:Nat),?_,VJ rfl⟩;simp only[nX,ht];exact Vl
def OVD (P:Aw)(U:Ab)(τ:Tau)(F:Ac):Bb SV->Ag->Prop
 |none,none=>True|some a,some v=>VD P U τ F a v|_,_=>False
def L9 {l h top:E}:OKp U (X6 U l h top) s λ_=>0<=l.toI U/\l.toI U<=h.toI U/\h.toI U<=top.toI U:=by exact OKp.need.bind λ_ _ _ _ h1=>OKp.need.bind λ_ _ _ _ h2=>OKp.need.mono λ_ h3=>⟨aO h1,A0 h2,A0 h3⟩
theorem mM {x:Bb SV}{v:Ag}(h:OVD P U τ F x v){d e:E}(he:R0 x d=some e):(v=none/\e=d)\/ ∃k,v=some (.int k (e.toI U)):=by
 unfold R0 at he;split at he
 .simp at he;cases v with
  |none=>grind|some v=>exact h.elim
 .simp at he;subst he;cases v with
  |none=>exact h.elim|some v=>have:=h;cases this;exact .inr ⟨_,rfl⟩
 grind
theorem cY {k:IntKind}{n:Int}{y:Nat}(h0:0<=n)(h1:n<=y):J4 (.int k n) y=some n.toNat:=by show(bif decide (0<=n)&&decide (n<=(y:Int))then some n.toNat else none)=some n.toNat;grind
variable {hi lo:Bb SV}{vhi vlo:Ag}
theorem I1 (j:OVD P U τ F lo vlo)(f:OVD P U τ F hi vhi){l h dl m:E}(r:R0 lo dl=some l)(p:R0 hi m=some h){len g:Nat}(h1:0<=l.toI U)(h2:l.toI U<=h.toI U)(h3:h.toI U<=g)(A:dl.toI U=0)(z:hi=none->h.toN U=len):A8 len g vlo vhi none=some (l.toN U,h.toN U,none):=by
 have q:(match vhi with|some v=>J4 v g|none=>some len)=some (h.toN U):=by
  rcases mM f p with⟨rfl,rfl⟩| ⟨k,rfl⟩
  .cases hi with
   |none=>grind|some x=>exact f.elim
  exact cY (by omega) h3
 have w:(match vlo with|some v=>J4 v (h.toN U)|none=>some 0)=some (l.toN U):=by rcases mM j r with⟨rfl,rfl⟩| ⟨k,rfl⟩;grind;exact cY h1 (by grind)
 unfold A8;grind
theorem R8 {mx:SV}{g:Av}(p:OVD P U τ F lo vlo)(f:OVD P U τ F hi vhi)(q:VD P U τ F mx g){l h m dl r w:E}(B:R0 lo dl=some l)(z:R0 hi r=some h)(D:R0 (some mx) w=some m){len j:Nat}(h1:0<=l.toI U)(h2:l.toI U<=h.toI U)(h3:h.toI U<=m.toI U)(h4:m.toI U<=j)(H:dl.toI U=0)(hh:hi≠none):A8 len j vlo vhi (some g)=some (l.toN U,h.toN U,some (m.toN U)):=by
 have G:J4 g j=some (m.toN U):=by rcases mM (x:=some mx) (v:=some g) q D with⟨e,_⟩| ⟨k,e⟩;cases e;cases e;exact cY (by omega) h4
 have A:∃v,vhi=some v/\J4 v (m.toN U)=some (h.toN U):=by
  rcases mM f z with⟨rfl,rfl⟩| ⟨k,rfl⟩
  .cases hi with
   |none=>grind|some x=>exact f.elim
  exact⟨_,rfl,cY (by omega) (by grind)⟩
 have C:(match vlo with|some v=>J4 v (h.toN U)|none=>some 0)=some (l.toN U):=by rcases mM p B with⟨rfl,rfl⟩| ⟨k,rfl⟩;grind;exact cY h1 (by grind)
 unfold A8;grind
def zG {e:E}(h:kT e=true):e.toI U=0:=by unfold kT at h;split at h;exact Uw h;cases h
def eF {a b:E}(h0:0<=b.toI U):(N6 a b).toN U=a.toN U-b.toN U:=by show((N6 a b).toI U).toNat=(a.toI U).toNat-(b.toI U).toNat;rw[v7];omega
def nR {a b:E}(h0:0<=a.toI U)(h1:0<=b.toI U):(y4 a b).toN U=a.toN U+b.toN U:=by show((y4 a b).toI U).toNat=(a.toI U).toNat+(b.toI U).toNat;rw[j5];omega
variable {b:Nat}
def VD.sl' {z i o c n a:Nat}{off len:E}{cap:Cp}(h:τ b=some (some (i,o)))(h0:0<=off.toI U)(h1:0<=len.toI U)(hc:mI U len cap c)(f:a=o+off.toN U*z)(hn:n=len.toN U):VD P U τ F (.sl b z off len cap) (.slice (some ⟨i,a,none⟩) n c):=by subst f;subst hn;exact .sl b z off len cap i o c h h0 h1 hc
def VK:type_of% @VD.sl':=@VD.sl'
theorem fZ {z i o:Nat}{off l h c:E}(f:τ b=some (some (i,o)))(h0:0<=off.toI U)(h1:0<=l.toI U)(h2:l.toI U<=h.toI U)(h3:h.toI U<=c.toI U)(p:c.toN U<unk){a:Nat}(j:a=o+off.toN U*z):OKp U (yU U b z off l h c) s λx=>VD P U τ F x (bif Nat.beq (c.toN U) (l.toN U)then .slice (some ⟨i,a,none⟩) (h.toN U-l.toN U) (c.toN U-l.toN U)else .slice (some ⟨i,a+l.toN U*z,none⟩) (h.toN U-l.toN U) (c.toN U-l.toN U)):=by
 subst j;unfold yU;have g:mI U (N6 h l) (.ex (N6 c l)) (c.toN U-l.toN U):=by refine⟨by rw[v7];omega,by rw[eF h1],by omega,?_⟩;rw[v7,v7];omega
 cases hz:kT l with
 |true=>
  have hl:=zG (U:=U) hz;have m:l.toN U=0:=by grind
  refine Vq ?_;have hv:VD P U τ F (.sl b z off h (.ex c)) (.slice (some ⟨i,o+off.toN U*z,none⟩) (h.toN U-0) (c.toN U-0)):=VK f h0 (by omega) ⟨by omega,by omega,by omega,h3⟩ rfl (by omega);grind
 |false=>
  simp only[Tl];refine OKp.test.bind λt _ _ _ ht=>?_;rw[E5]at ht;cases t with
  |true=>simp at ht;refine Vq ?_;rw[u7 (by grind),Tk];exact VK f h0 (by rw[v7];omega) g rfl (by rw[eF h1])|false=>simp at ht;refine Vq ?_;rw[z4 (by grind),Tl];exact VK f (by rw[j5];omega) (by rw[v7];omega) g (by rw[nR h0 h1,TF];omega) (by rw[eF h1])
theorem yV {z:Nat}{off l h c:E}(f:τ b=some none)(h0:off.toI U=0)(h1:0<=l.toI U)(h2:l.toI U<=h.toI U)(h3:h.toI U<=c.toI U)(h4:c.toI U<=0):OKp U (yU U b z off l h c) s λx=>VD P U τ F x (.slice none 0 0):=by
 unfold yU;cases hz:kT l with
 |true=>exact Vq (.sl0 b z off h (.ex c) f h0 (by omega) (by grind))|false=>
  simp only[Tl];refine OKp.test.bind λt _ _ _ ht=>?_;have hs:(N6 h l).toI U=0:=by rw[v7];omega
  have hc:∀e,Cp.ex (N6 c l)= .ex e->e.toI U=0:=λe he=>by cases he;rw[v7];omega
  cases t with
  |true=>exact Vq (.sl0 b z off _ _ f h0 hs hc)|false=>exact Vq (.sl0 b z _ _ _ f (by rw[j5];omega) hs hc)
end
section
variable {P :Aw}{U:Ab}{τ:Tau}{F:Ac}{s:SS}{hp:Hp}
variable {n:Nat}
def sS (h:n<=67108864):n<unk:=by unfold unk;omega
variable {a:Nat}
theorem aI {b:Nat}(h:b<a):Nat.ble a b=false:=by
 cases hb:Nat.ble a b with
 |false=>rfl|true=>simp_all;omega
def tF (lo:Nat):O8 (d8 lo 0)=lo:=H6 F6
def Dt (lo:Nat):E7 (d8 lo 0)=0:=G3 F6
def Gv (e l h:E):((Gu e l h).den U).toStr=((e.den U).toStr.take (h.toN U)).drop (l.toN U):=by unfold Gu;split<;>rfl
variable (P U) in
def HN (hp:Hp)(t:Ax)(v:Av)(lo hi mx:Ag)(c:SV)(τ:Tau)(F:Ac)(hp':Hp):Prop:=hp'=hp/\ ∃w,w9 P hp t v lo hi mx=some (w,hp)/\VD P U τ F c w
variable {v:Av}{lo mx:Ag}
def OKp.slice {m:M SV}{t:Ax}{hi:Ag}(h:OKp U m s λc=>∃w,w9 P hp t v lo hi mx=some (w,hp)/\VD P U τ F c w):OKh P U m τ F s hp (HN P U hp t v lo hi mx):=
 (h.up).mono λ_ _ _ _ _ _ ⟨f,g,j,h⟩=>by subst f;subst g;subst j;exact⟨rfl,h⟩
def Vr:type_of% @OKp.slice:=@OKp.slice
variable {h i l:Nat}{hi':Ag}
theorem dB {t e:Ax}{ie:Ba}(ht:P.underlying t=some (.slice e))(hi:P.info? e=some ie){len cap:Nat}(f:cap<unk)(hl:len<=cap){m:Ai}(hb:A8 len cap lo hi' mx=some (l,h,m)):w9 P hp t (.slice (some ⟨i,a,none⟩) len cap) lo hi' mx=some (bif Nat.beq (m.getD cap) l then .slice (some ⟨i,a,none⟩) (h-l) (m.getD cap-l)else .slice (some ⟨i,a+l*ie.size,none⟩) (h-l) (m.getD cap-l),hp):=by simp only[w9,ht,hi];rw[aI f,Tl,Ta hl,Tk,hb];grind
theorem lY {t e:Ax}{ie:Ba}(ht:P.underlying t=some (.slice e))(hi:P.info? e=some ie){len f:Nat}(g:f<=67108864)(hl:len<=67108864){m:Nat}(hb:A8 len (Nat.max f len) lo hi' mx=some (l,h,some m)):w9 P hp t (.slice (some ⟨i,a,none⟩) len (d8 f 0)) lo hi' mx=some (bif Nat.beq m l then .slice (some ⟨i,a,none⟩) (h-l) (m-l)else .slice (some ⟨i,a+l*ie.size,none⟩) (h-l) (m-l),hp):=by simp only[w9,ht,hi];rw[Ta (q0 f 0),Tk,tF,Ta (Nat.max_le.2 ⟨g,hl⟩),Tk,hb];grind
def eT {t e:Ax}{ie:Ba}(ht:P.underlying t=some (.slice e))(hi:P.info? e=some ie){len f:Nat}(g:f<=67108864)(hl:len<=67108864)(hb:A8 len (Nat.max f len) lo hi' none=some (l,h,none)):w9 P hp t (.slice (some ⟨i,a,none⟩) len (d8 f 0)) lo hi' none=bif Nat.beq l 0 then some (.slice (some ⟨i,a,none⟩) h (d8 (Nat.max f len) 0),hp)else bif Nat.beq l (Nat.max f len)then some (.slice (some ⟨0,0,some 0⟩) 0 unk,hp)else match hp.m.get i with
    |some (.cells _ _ _ j)=>bif Nat.beq j ie.size then some (.slice (some ⟨i,a+l*ie.size,none⟩) (h-l) (d8 (Nat.max f len-l) (0-l)),hp)else none|_=>none:=by
 simp only[w9,ht,hi];rw[Ta (q0 f 0),Tk,tF,Dt,Ta (Nat.max_le.2 ⟨g,hl⟩),Tk,hb];rfl
theorem M6 {t e:Ax}{ie:Ba}(ht:P.underlying t=some (.slice e))(hi:P.info? e=some ie){r:Nat×Nat×Ai}(hb:A8 0 0 lo hi' mx=some r):w9 P hp t (.slice none 0 0) lo hi' mx=some (.slice none 0 0,hp):=by simp only[w9,ht,hi];simp_all
def Dd {t e:Ax}{ie:Ba}(ht:P.underlying t=some (.slice e))(hi:P.info? e=some ie)(hb:A8 0 0 lo hi' none=some (l,h,none)):w9 P hp t (.slice (some ⟨0,0,some 0⟩) 0 unk) lo hi' none=some (.slice (some ⟨0,0,some 0⟩) 0 unk,hp):=by simp only[w9,ht,hi];rw[hb]
def cK {b:Nat}(h:a<=n)(k:b<=n):Nat.max a b<=n:=Nat.max_le.2 ⟨h,k⟩
def Z2 (a b:Nat):b<=Nat.max a b:=Un a b
variable {cs:Ao}
theorem PV.cut {e c z zb:Nat}{b:Blk}{rows:a8}{x:Nat->Nat->Av}(hF:F i=some b)(hb:arr b=some (cs,n,zb))(hn:a+rows.length*z<=n)(hz:z=(kf P e).length)(hr:∀r∈rows,r.length=z)(hx:∀(r k:Nat) (row:Ar) (d:Dat),rows[r]? =some row->row[k]? =some d->cs.get (a+r*z+k)=some (x r k))(hp:∀(r k:Nat) (row:Ar) (kd:Kd) (d:Dat),rows[r]? =some row->row[k]? =some d->(kf P e)[k]? =some kd->PV P F kd (x r k) d){l len:Int}(h0:0<=l)(h1:0<=len)(h2:l+len<=rows.length)(hc:yR len.toNat c/\roC b c zb z):PV P F (.sl e) (.slice (some ⟨i,a+l.toNat*z,none⟩) len.toNat c) (.l (pQ rows l len)):=by
 have hl:=V2 h0 h1 h2;have:=PV.sl e i (a+l.toNat*z) c b cs n z (pQ rows l len) (λr k=>x (l.toNat+r) k) hF hb (by grind)
  (by rw [hl]
      have:l.toNat*z+len.toNat*z<=rows.length*z:=by rw[<-TF];exact Tg z (by omega)
      omega) hz (λr h=>hr r (UC (UB h)))
  (λr k row d h1 h2=>by rw[<-hx _ k row d (gL h1) h2];congr 1;rw[TF];omega) (λr k row kd d h1 h2 h3=>hp _ k row kd d (gL h1) h2 h3)
 grind
theorem PV.cut0 {e c z zb:Nat}{b:Blk}(hF:F i=some b)(hb:arr b=some (cs,n,zb))(hn:a<=n)(hz:z=(kf P e).length)(hc:yR 0 c/\roC b c zb z):PV P F (.sl e) (.slice (some ⟨i,a,none⟩) 0 c) (.l []):=
 PV.sl e i a c b cs n z [] (λ_ _=>undef) hF hb hc (by grind) hz (λr h=>by grind) (by grind) (by grind)
theorem Q4 {rows:a8}{l len:Int}(h:len<=0):pQ rows l len=[]:=by unfold pQ;simp_all
variable {hi:Bb SV}{vhi vlo:Ag}
theorem Kf {t e:Ax}{ie:Ba}(ht:P.underlying t=some (.slice e))(r:P.info? e=some ie)(J:ie.size=(kf P e).length)(H:∀i b,F i=some b->hp.m.get i=some b){rows:a8}(hv:PV P F (.sl e) v (.l rows)){lo:Bb SV}(B:OVD P U τ F lo vlo)(q:OVD P U τ F hi vhi){l h S:E}(L:R0 lo (.int 0)=some l)(D:R0 hi S=some h)(ac:S.toI U=rows.length)(h1:0<=l.toI U)(h2:l.toI U<=h.toI U)(h3:h.toI U<=rows.length):∃w,w9 P hp t v vlo vhi none=some (w,hp)/\PV P F (.sl e) w (.l (pQ rows (l.toI U) (h.toI U-l.toI U)))/\((∃a n,v= .slice a n n)->hi=none-> ∃a n,w= .slice a n n):=by
 have A:hi=none->h.toN U=rows.length:=λhn=>by subst hn;simp only[R0,SQ]at D;grind
 have ab:l.toI U=((l.toN U:Nat):Int):=by grind
 have aa:h.toI U=((h.toN U:Nat):Int):=by grind
 have T:(h.toI U-l.toI U).toNat=h.toN U-l.toN U:=by omega
 cases hv with
 |nils=>simp only[UR]at h3;refine⟨.slice none 0 0,M6 ht r (I1 B q L D h1 h2 h3 rfl A),?_,λ_ _=>⟨_,_,rfl⟩⟩;rw[Q4 (by omega)];exact .nils e|vague=>simp only[UR]at h3;refine⟨_,Dd ht r (I1 B q L D h1 h2 h3 rfl A),?_,λ⟨a,n,e⟩ _=>?_⟩;rw[Q4 (by omega)];exact .vague e;cases e
 |sl _ i o c b cs n z _ x hF hb hc hn hz hr hx hp'=>
  have hg:=H i b hF;obtain⟨hc,p⟩:=hc;rcases hc with⟨X,K⟩| ⟨j,rfl,K,R⟩;have f:=dB (hp:=hp) (i:=i) (a:=o) ht r X K (I1 B q L D h1 h2 (by omega) rfl A);simp only[Option.getD_none]at f;refine⟨_,f,?_,λ⟨a,m,M⟩ ad=>?_⟩;by_cases G:c=l.toN U;rw[u7 G,Tk,Q4 (by omega),show h.toN U-l.toN U=0 by omega];exact PV.cut0 hF hb (by omega) hz ⟨.inl ⟨by omega,by omega⟩,λ_=>by omega,p.2⟩;rw[z4 G,Tl,<-T,J,<-hz];exact PV.cut (l:=l.toI U) hF hb hn hz hr hx hp' h1 (by omega) (by omega) ⟨.inl ⟨by omega,by omega⟩,λ_=>by omega,p.2⟩;grind
  .have Q:dM b=false:=by
    cases h:dM b with
    |false=>rfl|true=>have h1:=p.1 h;have h2:=q0 j 0;omega
   have V:=Z2 j rows.length;have O:=cK K R;have f:=eT (hp:=hp) (i:=i) (a:=o) ht r K R (I1 B q L D h1 h2 (show h.toI U<=((Nat.max j rows.length:Nat):Int) by omega) rfl A);have g:(∃a n,Value.slice (some ⟨i,o,none⟩) rows.length (d8 j 0)= .slice a n n)->False:=λ⟨a,m,M⟩=>by have hge:=q0 j 0;simp only[Value.slice.injEq]at M;obtain⟨_,Z,e3⟩:=M;unfold unk at hge;omega
   by_cases C:l.toN U=0;rw[u7 C,Tk]at f;refine⟨_,f,?_,λh _=>(g h).elim⟩;have:=PV.cut hF hb hn hz hr hx hp' h1 (show 0<=h.toI U-l.toI U by omega) (by omega) ⟨.inr ⟨_,rfl,O,by omega⟩,λh=>(by grind),p.2⟩;grind
   .by_cases I:l.toN U=Nat.max j rows.length;rw[z4 C,Tl,u7 I,Tk]at f;refine⟨_,f,?_,λh _=>(g h).elim⟩;rw[Q4 (by omega)];exact .vague e
    .rw[z4 C,Tl,z4 I,Tl,hg]at f;cases b with
     |cells Y n2 Z W=>simp only[arr,rdC,SQ,SU]at hb;obtain⟨rfl,rfl,rfl⟩:=hb;have N:W=z:=p.2 rfl;subst N;simp only[u7 (show W=ie.size by omega),Tk,Nat.zero_sub]at f;refine⟨_,f,?_,λh _=>(g h).elim⟩;rw[<-T,J,<-hz];exact PV.cut (l:=l.toI U) hF rfl hn hz hr hx hp' h1 (by omega) (by omega) ⟨.inr ⟨_,rfl,by omega,by omega⟩,.mk⟩
     |ro=>cases Q
     |_=>simp[arr,rdC]at hb
theorem Kg {t e:Ax}{ie:Ba}(ht:P.underlying t=some (.slice e))(g:P.info? e=some ie)(I:ie.size=(kf P e).length){rows:a8}(hv:PV P F (.sl e) v (.l rows))(H:rows≠ []\/ ∃a n,v= .slice a n n){lo:Bb SV}{mx:SV}{M:Av}(j:OVD P U τ F lo vlo)(f:OVD P U τ F hi vhi)(p:VD P U τ F mx M){l h m Q R:E}(C:R0 lo (.int 0)=some l)(B:R0 hi Q=some h)(D:R0 (some mx) R=some m)(hh:hi≠none)(h1:0<=l.toI U)(h2:l.toI U<=h.toI U)(h3:h.toI U<=m.toI U)(h4:m.toI U<=rows.length):∃w,w9 P hp t v vlo vhi (some M)=some (w,hp)/\PV P F (.sl e) w (.l (pQ rows (l.toI U) (h.toI U-l.toI U)))/\(h.toI U=m.toI U-> ∃a n,w= .slice a n n):=by
 have V:l.toI U=((l.toN U:Nat):Int):=by grind
 have T:h.toI U=((h.toN U:Nat):Int):=by grind
 have W:m.toI U=((m.toN U:Nat):Int):=by grind
 have S:(h.toI U-l.toI U).toNat=h.toN U-l.toN U:=by omega
 have G:∀ {i o:Nat},h.toI U=m.toI U-> ∃a n,(bif Nat.beq (m.toN U) (l.toN U)then Value.slice (some ⟨i,o,none⟩) (h.toN U-l.toN U) (m.toN U-l.toN U)else .slice (some ⟨i,o+l.toN U*ie.size,none⟩) (h.toN U-l.toN U) (m.toN U-l.toN U))= .slice a n n:=by
  intro i o Y;have:h.toN U=m.toN U:=by omega
  rw[this];cases Nat.beq (m.toN U) (l.toN U)<;>exact⟨_,_,rfl⟩
 cases hv with
 |nils=>simp only[UR]at h4;refine⟨.slice none 0 0,M6 ht g (R8 j f p C B D h1 h2 h3 h4 rfl hh),?_,λ_=>⟨_,_,rfl⟩⟩;rw[Q4 (by omega)];exact .nils e|vague=>rcases H with h| ⟨a,n,e⟩;grind;cases e
 |sl _ i o c b cs n z _ x hF hb hc hn hz hr hx hp'=>
  obtain⟨hc,r⟩:=hc;have J:PV P F (.sl e) (bif Nat.beq (m.toN U) (l.toN U)then Value.slice (some ⟨i,o,none⟩) (h.toN U-l.toN U) (m.toN U-l.toN U)else .slice (some ⟨i,o+l.toN U*ie.size,none⟩) (h.toN U-l.toN U) (m.toN U-l.toN U)) (.l (pQ rows (l.toI U) (h.toI U-l.toI U)))\/ ¬m.toN U<unk:=by by_cases Z:m.toN U<unk;left;by_cases q:m.toN U=l.toN U;rw[u7 q,Tk,Q4 (by omega),show h.toN U-l.toN U=0 by omega];exact PV.cut0 hF hb (by omega) hz ⟨.inl ⟨by omega,by omega⟩,λ_=>by omega,r.2⟩;rw[z4 q,Tl,<-S,I,<-hz];exact PV.cut (l:=l.toI U) hF hb hn hz hr hx hp' h1 (by omega) (by omega) ⟨.inl ⟨by omega,by omega⟩,λ_=>by omega,r.2⟩;grind
  rcases hc with⟨N,A⟩| ⟨K,rfl,A,O⟩;have X:=dB (hp:=hp) (i:=i) (a:=o) ht g N A (R8 j f p C B D h1 h2 h3 (by omega) rfl hh);grind;have L:=Z2 K rows.length;exact⟨_,(lY (hp:=hp) (i:=i) (a:=o) ht g A O (R8 j f p C B D h1 h2 h3 (by omega) rfl hh)),J.resolve_right (λh=>h (sS (by omega))),G⟩
def Ky {t:Ax}{a:SV}{lo mx:Bb SV}{I:Ag}(V:VD P U τ F a v)(p:OVD P U τ F lo vlo)(j:OVD P U τ F hi vhi)(B:OVD P U τ F mx I)(hs:SD P U τ F s hp):OKh P U (Hj P U t a lo hi mx) τ F s hp (HN P U hp t v vlo vhi I):=by
 unfold Hj;split
 ·
  rename_i ht;split
  .rename_i e;cases I with
   |some v=>exact B.elim|none=>split;rename_i l h D q;refine Vr (L9.bind λ_ _ _ _ hb=>Vq ?_);obtain⟨h1,h2,h3⟩:=hb;rw[P6]at h3;cases V;refine⟨.string ⟨(((e.den U).toStr.take (h.toN U)).drop (l.toN U)).toArray⟩,?_,VD.str' (Gv e l h)⟩;simp only[w9,ht];rw[I1 p j D q h1 h2 h3 rfl (λhn=>by subst hn;simp only[R0,SQ]at q;subst q;show((bJ e).toI U).toNat=_;rw[P6];omega)];exact Vi
  exact Vi
 .rename_i e ht;split;exact Vi
  .rename_i ie r;split
   ·
    cases V;split
    .rename_i l h D q;cases I with
     |some v=>exact B.elim|none=>refine Vr (L9.bind λ_ _ _ _ hb=>Vq ⟨.slice none 0 0,?_,.nils⟩);obtain⟨h1,h2,h3⟩:=hb;refine M6 ht r (I1 p j D q h1 h2 h3 rfl (λhn=>?_));subst hn;simp only[R0,SQ]at q;subst q;rfl
    .rename_i l h m' D q;cases I with
     |none=>exact B.elim|some vm=>split;rename_i m x T;refine Vr (L9.bind λ_ _ _ _ hb=>OKp.need.bind λ_ _ _ _ hm=>Vq ⟨.slice none 0 0,?_,.nils⟩);obtain⟨h1,h2,h3⟩:=hb;have hm:=A0 hm;exact M6 ht r (R8 p j B D q T h1 h2 h3 hm rfl (by simp));exact Vi
    exact Vi
   ·
    rename_i b z off len cap;cases hz:Nat.beq z ie.size with
    |false=>exact Vi|true=>
     simp only[Tk];have H:z=ie.size:=SY hz;split
     .rename_i l h D q;cases I with
      |some v=>exact B.elim|none=>
       split
       ·
        rename_i c;refine Vg L9 λ_ s1 _ hs1 hb=>Vr ?_;obtain⟨h1,h2,h3⟩:=hb;cases V with
        |sl _ _ _ _ _ i o c' f h0 G hc=>
         obtain⟨J,S,X,c4⟩:=hc;subst S;refine(fZ f h0 h1 h2 h3 X rfl).mono λx hx=>⟨_,?_,hx⟩
         rw[dB ht r X (show len.toN U<=c.toN U by show(len.toI U).toNat<=(c.toI U).toNat;omega)
          (I1 p j D q h1 h2 (show h.toI U<=((c.toN U:Nat):Int) by show h.toI U<=(((c.toI U).toNat:Nat):Int);omega) rfl (λhn=>by subst hn;simp only[R0,SQ]at q;subst q;rfl))]
         subst H;rfl
        |sl0 _ _ _ _ _ f h0 G hc=>
         have hc:=hc c rfl;refine(yV f h0 h1 h2 h3 (by omega)).mono λx hx=>⟨_,?_,hx⟩
         refine M6 ht r (I1 p j D q h1 h2 (by omega) rfl (λhn=>?_));subst hn;simp only[R0,SQ]at q;subst q;show(len.toI U).toNat=0;omega
       ·
        refine Vg L9 λ_ s1 o1 hs1 hb=>?_;obtain⟨h1,h2,h3⟩:=hb;have M:hi=none->h.toN U=len.toN U:=λhn=>by subst hn;simp only[R0,SQ]at q;subst q;rfl
        unfold Qh;cases aw:kT l with
        |true=>
         have hl:=zG (U:=U) aw;have ao:l.toN U=0:=by show(l.toI U).toNat=0;rw[hl];rfl
         refine Vr (Vq ?_);cases V with
         |sl _ _ _ _ _ i o c' f h0 G hc=>
          obtain⟨g,rfl,J,S⟩:=hc;have A:len.toN U<=67108864:=by show(len.toI U).toNat<=_;omega
          have W:=cK J A;have hb:=I1 p j D q h1 h2 (show h.toI U<=((Nat.max g (len.toN U):Nat):Int) by
           have:=Z2 g (len.toN U);have e1:len.toI U=((len.toN U:Nat):Int):=by show len.toI U=((len.toI U).toNat:Int);omega
           omega) rfl M
          refine⟨_,by rw[eT ht r J A hb,ao,u7 rfl,Tk],?_⟩;exact VK f h0 (by omega) ⟨Nat.max g (len.toN U),rfl,by omega,by omega⟩ rfl rfl
         |sl0 _ _ _ _ _ f h0 G hc=>refine⟨.slice none 0 0,M6 ht r (I1 p j D q h1 h2 (by omega) rfl (λhn=>by rw[M hn];show(len.toI U).toNat=0;omega)),?_⟩;exact .sl0 b z off h .ge f h0 (by omega) (λe he=>by cases he)
        |false=>
         simp only[Tl];refine Vg Vt λtt s2 o2 ac Q=>Vj ?_;rw[G4]at Q;split
         .rename_i L e' z' ph hb;cases hq:Nat.beq e e'&&Nat.beq z z' with
          |false=>exact Vi|true=>
           simp only[Tk];simp only[SR,TJ]at hq;obtain⟨rfl,rfl⟩:=hq;rcases ac.live b _ hb with⟨i,o,y,k1,k2,kF,cs,n,rfl,k4,k5⟩| ⟨k1,L',e',z',ax,k2,k3,k4,k5⟩
           .cases V with
            |sl _ _ _ _ _ i' o' c' f h0 G hc=>
             rw[k1]at f;simp only[SQ,SU]at f;obtain⟨rfl,rfl⟩:=f;obtain⟨g,rfl,J,S⟩:=hc;have A:len.toN U<=67108864:=by show(len.toI U).toNat<=_;omega
             have e1:len.toI U=((len.toN U:Nat):Int):=by show len.toI U=((len.toI U).toNat:Int);omega
             have ah:l.toI U=((l.toN U:Nat):Int):=by show l.toI U=((l.toI U).toNat:Int);omega
             have N:=Z2 g (len.toN U);have W:=cK J A;have Y:=I1 p j D q h1 h2 (show h.toI U<=((Nat.max g (len.toN U):Nat):Int) by omega) rfl M;have hx:=eT (hp:=hp) (i:=i) (a:=o+off.toN U*z) ht r J A Y;cases tt with
             |true=>simp only[Tk];simp only[To]at Q;refine Vr (Vq ?_);by_cases C:l.toN U=0;rw[u7 C,Tk]at hx;refine⟨_,hx,VK k1 (by rw[j5];omega) (by rw[v7];omega) ⟨Nat.max g (len.toN U),rfl,by omega,by rw[v7];omega⟩ ?_ ?_⟩;rw[nR h0 h1,C];simp;rw[eF h1,C];simp;rw[z4 C,Tl,z4 (by omega),Tl,k2]at hx;simp only[u7 H,Tk,Nat.zero_sub]at hx;refine⟨_,hx,VK k1 (by rw[j5];omega) (by rw[v7];omega) ⟨Nat.max g (len.toN U)-l.toN U,rfl,by omega,by rw[v7];omega⟩ ?_ ?_⟩;rw[nR h0 h1,TF,H];omega;rw[eF h1]|false=>
              simp only[Tl];simp only[TS]at Q;refine Vg Vm λ_ s3 o3 au p1=>?_;have p1:=A0 p1;rw[j5,i7]at p1;have aj:s3.get b=some (.rows L e z ph):=by rw[o3.get];exact hb
              refine(OKh.freeze aj k1 k2).bind λ_ τ2 F2 s4 hp2 ex av ⟨f1,f2,f3⟩=>?_;subst f1;subst f2;refine Vk ⟨rfl,?_⟩;have ay:l.toN U=len.toN U:=by omega
              have an:h.toN U-l.toN U=0:=by
               have:h.toI U=l.toI U:=by omega
               show(h.toI U).toNat-(l.toI U).toNat=0;rw[this];omega
              have ai:o+off.toN U*z+l.toN U*z<=n:=by
               have g1:=k4.1;have:off.toN U*z+l.toN U*z<=(L.toR U).length*z:=by rw[<-TF];exact Tg z (by show(off.toI U).toNat+l.toN U<=_;omega)
               omega
              have O:(E.op .nil []).toR U=[]:=rfl;by_cases C:l.toN U=0
              .rw[u7 C,Tk]at hx;have am:h.toN U=0:=by omega
               rw[am]at hx;refine⟨_,hx,.lst e _ false _ ?_ (λh=>by cases h)⟩;rw[O];exact PV.cut0 f3 rfl (by omega) k4.2.1 ⟨.inr ⟨_,rfl,by omega,by omega⟩,.mk⟩
              by_cases ad:l.toN U=Nat.max g (len.toN U);rw[z4 C,Tl,u7 ad,Tk]at hx;refine⟨_,hx,.lst e _ false _ ?_ (λh=>by cases h)⟩;rw[O];exact .vague e;rw[z4 C,Tl,z4 ad,Tl,k2]at hx;simp only[u7 H,Tk,Nat.zero_sub,an]at hx;refine⟨_,hx,.lst e _ false _ ?_ (λh=>by cases h)⟩;rw[O,<-H];exact PV.cut0 f3 rfl ai k4.2.1 ⟨.inr ⟨_,rfl,by omega,by omega⟩,.mk⟩
            |sl0 _ _ _ _ _ f h0 G hc=>rw[k1]at f;cases f
           .cases V with
            |sl _ _ _ _ _ i' o' c' f h0 G hc=>rw[k1]at f;cases f
            |sl0 _ _ _ _ _ f h0 G hc=>
             have hx:w9 P hp t (.slice none 0 0) vlo vhi none=some (.slice none 0 0,hp):=M6 ht r (I1 p j D q h1 h2 (by omega) rfl (λhn=>by rw[M hn];show(len.toI U).toNat=0;omega));cases tt with
             |true=>simp only[To]at Q;omega|false=>simp only[Tl];refine Vg Vm λ_ s3 o3 au p1=>?_;refine OKh.drop.bind λ_ τ2 F2 s4 hp2 ex av ⟨f1,f2,f3⟩=>?_;subst f1;subst f2;subst f3;exact Vk ⟨rfl,_,hx,.lst e _ false _ (.nils e) (λh=>by cases h)⟩
         .rename_i cl e' z' hb;cases hq:Nat.beq e e'&&Nat.beq z z'&&tt with
          |false=>exact Vi|true=>
           simp only[Tk];simp only[SR,TJ]at hq;obtain⟨⟨rfl,rfl⟩,rfl⟩:=hq;simp only[To]at Q;rcases ac.live b _ hb with⟨i,o,y,k1,k2,kF,cs,n,rfl,k4,k5⟩| ⟨k1,L',e',z',ax,k2,k3,k4,k5⟩
           .cases V with
            |sl _ _ _ _ _ i' o' c' f h0 G hc=>
             rw[k1]at f;simp only[SQ,SU]at f;obtain⟨rfl,rfl⟩:=f;obtain⟨g,rfl,J,S⟩:=hc;have A:len.toN U<=67108864:=by show(len.toI U).toNat<=_;omega
             have e1:len.toI U=((len.toN U:Nat):Int):=by show len.toI U=((len.toI U).toNat:Int);omega
             have ah:l.toI U=((l.toN U:Nat):Int):=by show l.toI U=((l.toI U).toNat:Int);omega
             have N:=Z2 g (len.toN U);have W:=cK J A;have Y:=I1 p j D q h1 h2 (show h.toI U<=((Nat.max g (len.toN U):Nat):Int) by omega) rfl M;have hx:=eT (hp:=hp) (i:=i) (a:=o+off.toN U*z) ht r J A Y;refine Vr (Vq ?_);by_cases C:l.toN U=0;rw[u7 C,Tk]at hx;refine⟨_,hx,VK k1 (by rw[j5];omega) (by rw[v7];omega) ⟨Nat.max g (len.toN U),rfl,by omega,by rw[v7];omega⟩ ?_ ?_⟩;rw[nR h0 h1,C];simp;rw[eF h1,C];simp;rw[z4 C,Tl,z4 (by omega),Tl,k2]at hx;simp only[u7 H,Tk,Nat.zero_sub]at hx;refine⟨_,hx,VK k1 (by rw[j5];omega) (by rw[v7];omega) ⟨Nat.max g (len.toN U)-l.toN U,rfl,by omega,by rw[v7];omega⟩ ?_ ?_⟩;rw[nR h0 h1,TF,H];omega;rw[eF h1]
            |sl0 _ _ _ _ _ f h0 G hc=>rw[k1]at f;cases f
           cases k2
         exact Vi
       exact Vi
     .rename_i l h m' D q;cases I with
      |none=>exact B.elim|some vm=>
       split
       .rename_i m x T;refine Vg L9 λ_ s1 _ hs1 hb=>Vg Vm λ_ s2 _ ac hm=>Vr ?_;obtain⟨h1,h2,h3⟩:=hb;have hm:=A0 hm;cases V with
        |sl _ _ _ _ _ i o c' f h0 G hc=>
         cases cap with
         |ex c=>
          obtain⟨J,S,X,c4⟩:=hc;subst S;have ab:m.toI U<=((c.toN U:Nat):Int):=by have:m.toI U<=c.toI U:=hm;show m.toI U<=(((c.toI U).toNat:Nat):Int);omega
          have K:m.toN U<unk:=by show(m.toI U).toNat<unk;have:c.toN U<unk:=X;omega
          refine(fZ f h0 h1 h2 h3 K rfl).mono λx hx=>⟨_,?_,hx⟩
          rw[dB ht r X (show len.toN U<=c.toN U by show(len.toI U).toNat<=(c.toI U).toNat;omega) (R8 p j B D q T h1 h2 h3 ab rfl (by simp))];subst H;rfl
         |ge=>
          obtain⟨g,rfl,J,S⟩:=hc;have hm:m.toI U<=len.toI U:=hm;have A:len.toN U<=67108864:=by show(len.toI U).toNat<=_;omega
          have e1:len.toI U=((len.toN U:Nat):Int):=by show len.toI U=((len.toI U).toNat:Int);omega
          have N:=Z2 g (len.toN U);have W:=cK J A;have K:m.toN U<unk:=sS (by show(m.toI U).toNat<=_;omega);refine(fZ f h0 h1 h2 h3 K rfl).mono λx hx=>⟨_,?_,hx⟩
          rw[lY ht r J A (R8 p j B D q T h1 h2 h3 (by omega) rfl (by simp))];subst H;rfl
         |un=>
          have hm:m.toI U<=len.toI U:=hm;rcases hc with⟨X,rfl,S⟩| ⟨g,rfl,J,S⟩
          .have ab:m.toI U<=((len.toN U:Nat):Int):=by show m.toI U<=(((len.toI U).toNat:Nat):Int);omega
           have K:m.toN U<unk:=by show(m.toI U).toNat<unk;have:(len.toI U).toNat<unk:=X;omega
           refine(fZ f h0 h1 h2 h3 K rfl).mono λx hx=>⟨_,?_,hx⟩
           rw[dB ht r X (Tq _) (R8 p j B D q T h1 h2 h3 ab rfl (by simp))];subst H;rfl
          .have A:len.toN U<=67108864:=by show(len.toI U).toNat<=_;omega
           have e1:len.toI U=((len.toN U:Nat):Int):=by show len.toI U=((len.toI U).toNat:Int);omega
           have N:=Z2 g (len.toN U);have W:=cK J A;have K:m.toN U<unk:=sS (by show(m.toI U).toNat<=_;omega);refine(fZ f h0 h1 h2 h3 K rfl).mono λx hx=>⟨_,?_,hx⟩
           rw[lY ht r J A (R8 p j B D q T h1 h2 h3 (by omega) rfl (by simp))];subst H;rfl
        |sl0 _ _ _ _ _ f h0 G hc=>
         have ap:m.toI U<=0:=by
          cases cap with
          |ex c=>have:=hc c rfl;have hm:m.toI U<=c.toI U:=hm;omega|ge=>have hm:m.toI U<=len.toI U:=hm;omega|un=>have hm:m.toI U<=len.toI U:=hm;omega
         exact(yV f h0 h1 h2 h3 ap).mono λx hx=>⟨_,M6 ht r (R8 p j B D q T h1 h2 h3 (by omega) rfl (by simp)),hx⟩
       exact Vi
     exact Vi
   ·
    rename_i e' L clip;cases hq:Nat.beq e e'&&Nat.beq ie.size (kf P e).length with
    |false=>exact Vi|true=>
     simp only [Tk];simp only [SR, TJ] at hq;obtain ⟨rfl,ae⟩:=hq;cases V with
     |lst _ _ _ _ hv hc=>
      split
      .rename_i l h D q;cases I with
       |some v=>exact B.elim|none=>
        refine Vr (L9.bind λ_ _ _ _ hb=>B7.bind λc _ _ _ Z=>Vq ?_);obtain⟨h1,h2,h3⟩:=hb;rw[i7]at h3;obtain⟨w,w1,w2,w3⟩:=Kf (hp:=hp) ht r ae hs.frz hv p j D q (i7 L) h1 h2 h3;refine⟨w,w1,.lst e c _ w ?_ (λaa=>?_)⟩
        .have:c.toR U=pQ (L.toR U) (l.toI U) (h.toI U-l.toI U):=by show(c.den U).rows=_;rw[Z,v7];rfl
         rw[this];exact w2
        simp only[SR]at aa;exact w3 (hc aa.1) (by cases hi with|none=>rfl|some x=>simp at aa)
      .rename_i l h m' D q;cases I with
       |none=>exact B.elim|some vm=>
        split
        .rename_i m x T;refine Vr (L9.bind λ_ _ _ _ hb=>OKp.need.bind λ_ _ _ _ hm=>?_);obtain⟨h1,h2,h3⟩:=hb;have hm:=A0 hm;rw[i7]at hm;refine OKp.bind (R:=λ_=>L.toR U≠ []\/ ∃a n,v= .slice a n n) ?_ λ_ _ _ _ aq=>?_
         .cases clip with
          |true=>exact Vq (.inr (hc rfl))|false=>refine OKp.need.mono λ_ h=>.inl λh'=>?_;have:=C0 h;rw[i7,h']at this;simp[B4]at this
         .refine B7.bind λc _ _ _ Z=>?_;obtain⟨w,w1,w2,w3⟩:=Kg (hp:=hp) ht r ae hv aq p j B D q T (by simp) h1 h2 h3 hm;have ak:c.toR U=pQ (L.toR U) (l.toI U) (h.toI U-l.toI U):=by show(c.den U).rows=_;rw[Z,v7];rfl
          rw[<-ak]at w2;cases E.like h m with
          |true=>simp only[Tk];exact OKp.need.bind λ_ _ _ _ al=>Vq ⟨w,w1,.lst e c true w w2 (λ_=>w3 (aN al))⟩
          |false=>exact Vq ⟨w,w1,.lst e c false w w2 (λh=>by cases h)⟩
        exact Vi
      exact Vi
   exact Vi
 exact Vi
