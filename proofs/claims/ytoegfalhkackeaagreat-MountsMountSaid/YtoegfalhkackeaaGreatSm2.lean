/- The symbolic engine, parts 1, 2, 3, 4, 5, 6, 7, 8, 9, 10, 11, 12.
  Conditions: none. -/
import Derived.Test.YtoegfalhkackeaaGreatXm3
set_option linter.all false
noncomputable section
namespace Go.Sx
abbrev Nd (p q:Prop):Prop:=p/\(p->q)
abbrev I64 (x:Int):Prop:=(¬x< -9223372036854775808)/\x<9223372036854775808
inductive Dat where
 |i (n:Int)
 |b (b:Bool)
 |s (s:Ae)
 |l (rows:List (List Dat))
abbrev Ar:=List Dat
abbrev Ab:=Nat ->Ar->Dat
instance : Inhabited Dat:=⟨.i 0⟩
def Dat.j (d:Dat):Int:=match d with| .i n=>n|_=>0
def Dat.f (d:Dat):Bool:=match d with| .b c=>c|_=>false
def Dat.g (d:Dat):Ae:=match d with| .s c=>c|_=>[]
def Dat.m (d:Dat):List (Ar):=match d with| .l c=>c|_=>[]
abbrev a8:=List<|Ar
def A7 (L:a8)(i:Int)(j:Nat):Dat:=(L.getD i.toNat []).getD j<|.i 0
def a9 (L:a8)(i:Int)(j:Nat)(d:Dat):a8:=L.modify i.toNat<|λr=>r.set j d
def pQ (L:a8)(a n:Int):a8:=(L.drop a.toNat).take n.toNat
def over (L:a8)(a:Int)(l:a8):a8:=L.take a.toNat++l++L.drop (a.toNat+l.length)
def b9 (z:Nat):Nat->Ar->a8
 |0,_=>[]
 |n+1,l=>l.take z::b9 z n (l.drop z)
def runeAt (l:Ae)(i:Int):Int:=(Utf8.decode ⟨l.toArray⟩ i.toNat).1
def runeW (l:Ae)(i:Int):Int:=(Utf8.decode ⟨l.toArray⟩ i.toNat).2
inductive Sy where
 |J|sub|mul|R|tmod
 |C (k:IntKind)|shr (k:IntKind)
 |lt|eqi|eqb|eqs|lts
 |not|and|or
 |len|get (j:Nat)|L (j:Nat)|p|app|q|g
 |f (n z:Nat)|rep
 |A|I|sapp|N|H|srw
 |w|B|D|r
 |user (n:Nat)
inductive E where
 |w (n:Int)
 |bool (c:Bool)
 |str (l:Ae)
 |var (n:Nat)
 |B (n:Nat) (d:Dat)
 |C (o:Sy) (as:List E)
abbrev Au:=List E
instance : Inhabited E:=⟨.w 0⟩
section
variable (U :Ab)
def Sy.O (o:Sy)(d:Ar):Dat:=
 match o with
 | .J=>match d with| [a,b]=>.i<|a.j+b.j|_=>.i 0
 | .sub=>match d with| [a,b]=>.i<|a.j-b.j|_=>.i 0
 | .mul=>match d with| [a,b]=>.i<|a.j*b.j|_=>.i 0
 | .R=>match d with| [a,b]=>.i<|a.j.tdiv b.j|_=>.i 0
 | .tmod=>match d with| [a,b]=>.i<|a.j.tmod b.j|_=>.i 0
 | .C k=>match d with| [a]=>.i<|k.wrap a.j|_=>.i 0
 | .shr k=>match d with| [a,b]=>.i<|a.j.fdiv<|2^(min b.j.toNat k.bits)|_=>.i 0
 | .lt=>match d with| [a,b]=>.b<|decide<|a.j<b.j|_=>.i 0
 | .eqi=>match d with| [a,b]=>.b<|decide<|a.j=b.j|_=>.i 0
 | .eqb=>match d with| [a,b]=>.b<|a.f==b.f|_=>.i 0
 | .eqs=>match d with| [a,b]=>.b<|a.g==b.g|_=>.i 0
 | .lts=>match d with| [a,b]=>.b<|Op.bytesLess a.g b.g|_=>.i 0
 | .not=>match d with| [a]=>.b<|!a.f|_=>.i 0
 | .and=>match d with| [a,b]=>.b<|a.f&&b.f|_=>.i 0
 | .or=>match d with| [a,b]=>.b<|a.f||b.f|_=>.i 0
 | .len=>match d with| [l]=>.i l.m.length|_=>.i 0
 | .get j=>match d with| [l,i]=>A7 l.m i.j j|_=>.i 0
 | .L j=>match d with| [l,i,c]=>.l<|a9 l.m i.j j c|_=>.i 0
 | .p=>.l []| .app=>match d with| [l,m]=>.l<|l.m++m.m|_=>.i 0
 | .q=>match d with| [l,a,n]=>.l<|pQ l.m a.j n.j|_=>.i 0
 | .g=>match d with| [l,a,m]=>.l<|Sx.over l.m a.j m.m|_=>.i 0
 | .f n z=>.l<|b9 z n d| .rep=>match d with|n::e=>.l<|List.replicate n.j.toNat e|_=>.i 0
 | .A=>match d with| [s]=>.i s.g.length|_=>.i 0
 | .I=>match d with| [s,i]=>.i ((s.g.getD i.j.toNat 0).toNat:Int)|_=>.i 0
 | .sapp=>match d with| [s,t]=>.s<|s.g++t.g|_=>.i 0
 | .N=>match d with| [s,a,b]=>.s<|(s.g.take b.j.toNat).drop a.j.toNat|_=>.i 0
 | .H=>match d with| [s,i]=>.i<|runeAt s.g i.j|_=>.i 0
 | .srw=>match d with| [s,i]=>.i<|runeW s.g i.j|_=>.i 0
 | .w=>match d with| [a]=>.i a.j|_=>.i 0
 | .B=>match d with| [a]=>.b a.f|_=>.i 0
 | .D=>match d with| [a]=>.s a.g|_=>.i 0
 | .r=>match d with| [a]=>.l a.m|_=>.i 0
 | .user n=>U n d
mutual
def E.A :E->Dat
 | .w n=>.i n| .bool c=>.b c| .str l=>.s l| .var _=>.i 0| .B _ d=>d| .C o a=>o.O U<|E.D a
def E.D :Au->Ar
 | []=>[]
 |a::b=>a.A::E.D b
end
def E.H :∀b:Au,E.D U b=b.map (E.A U)
 | []=>rfl|a::b=>by simp[E.D,E.H b]
def E.I :E->Prop
 | .bool c=>c=true| .C .lt [a,b]=>(a.A U).j<(b.A U).j| .C .eqi [a,b]=>(a.A U).j=(b.A U).j| .C .eqs [a,b]=>(a.A U).g=(b.A U).g| .C .not [a]=>¬a.I| .C .and [a,b]=>a.I/\b.I| .C .or [a,b]=>a.I\/b.I|e=>(e.A U).f
def E.L (e:E):e.I U↔(e.A U).f=true:=by
 fun_induction E.I U e with
 |case1 c=>simp[E.A,Dat.f]|case2 a b=>simp[E.A,E.D,Sy.O,Dat.f]|case3 a b=>simp[E.A,E.D,Sy.O,Dat.f]|case4 a b=>simp[E.A,E.D,Sy.O,Dat.f]|case5 a g=>simp[E.A,E.D,Sy.O,Dat.f,g]|case6 a b d f=>simp[E.A,E.D,Sy.O,Dat.f,d,f]|case7 a b d f=>simp[E.A,E.D,Sy.O,Dat.f,d,f]|case8 e _ _ _ _ _ _ _=>grind
def Zb:type_of% @E.L:=@E.L
def Sy.like :Sy->Sy->Bool
 | .J,.J| .sub,.sub| .mul,.mul| .R,.R| .tmod,.tmod| .lt,.lt| .eqi,.eqi| .eqb,.eqb| .eqs,.eqs| .lts,.lts| .not,.not| .and,.and| .or,.or
 | .len,.len| .p,.p| .app,.app| .q,.q| .g,.g| .rep,.rep| .A,.A| .I,.I| .sapp,.sapp| .N,.N| .H,.H| .srw,.srw| .w,.w| .B,.B| .D,.D| .r,.r=>true
 | .C k,.C b=>decide<|k=b| .shr k,.shr b=>decide<|k=b| .get j,.get a=>Nat.beq j a| .L j,.L a=>Nat.beq j a| .user j,.user a=>Nat.beq j a| .f n z,.f c d=>Nat.beq n c&&Nat.beq z d|_,_=>false
mutual
def E.J :E->E->Bool
 | .w n,.w m=>decide<|n=m| .bool p,.bool q=>p==q| .str p,.str q=>p==q| .var n,.var m=>Nat.beq n m| .B n _,.B m _=>Nat.beq n m| .C o a,.C b bs=>Sy.like o b&&E.N a bs|_,_=>false
def E.N :Au->Au->Bool
 | [],[]=>true|a::c,b::bs=>E.J a b&&E.N c bs|_,_=>false
end
inductive So where
 |i|b|s|l
 deriving DecidableEq
inductive Lab where
 |e (c:E)
 |p (name:String) (as:Au)
 |q (a b:E)
 |f (name:String) (gs:List (List<|So×E))
 |g (name:String) (g a b:List (So×E))
inductive Tr (α:Type) where
 |j (a:α)
 |w
 |B (s:String)
 |I (c:E) (t e:Tr α)
 |r (l:Lab) (p:Prop) (t:Tr α)
 |z (l:Lab) (p:Prop) (t:Tr α)
 |C (t e:Tr α)
 |A (k:So) (n:Nat) (f:E->Tr α)
def Tr.m {b d:Type}:Tr b->(b->Tr d)->Tr d
 | .j a,k=>k a| .w,_=>.w| .B s,_=>.B s| .I c t e,k=>.I c (t.m k)<|e.m k| .r l p t,k=>.r l p<|t.m k| .z l p t,k=>.z l p<|t.m k| .C t e,k=>.C (t.m k)<|e.m k| .A o n f,k=>.A o n λe=>(f e).m k
def Tr.q {d:Type}:Tr d->(d->Prop)->Prop
 | .j a,Q=>Q a| .w,_=>True| .B _,_=>False| .I c t e,Q=>(c.I U->t.q Q)/\(¬c.I U->e.q Q)| .r _ p t,Q=>p/\(p->t.q Q)| .z _ p t,Q=>p->t.q Q| .C t e,Q=>t.q Q/\e.q Q| .A .i n f,Q=>∀x:Int,(f<|.B n<|.i x).q Q| .A .b n f,Q=>∀x:Bool,(f<|.B n<|.b x).q Q| .A .s n f,Q=>∀x:Ae,(f<|.B n<|.s x).q Q| .A .l n f,Q=>∀x:a8,(f<|.B n<|.l x).q Q
def Tr.D {g i:Type}(t:Tr g)(k:g->Tr i)(Q:i->Prop):(t.m k).q U Q↔t.q U λa=>(k a).q U Q:=by
 induction t with
 |j a=>exact Iff.rfl|w=>exact Iff.rfl|B s=>exact Iff.rfl|I c t e b d=>simp only[Tr.m,Tr.q,b,d]|r l p t h=>simp only[Tr.m,Tr.q,h]|z l p t h=>simp only[Tr.m,Tr.q,h]|C t e b d=>simp only[Tr.m,Tr.q,b,d]|A k n f h=>cases k<;>simp only[Tr.m,Tr.q,h]
def ZF:type_of% @Tr.D:=@Tr.D
def Tr.H {g:Type}(t:Tr g){Q R:g->Prop}(i:∀a,Q a->R a):t.q U Q->t.q U R:=by
 induction t with
 |j a=>exact i a|w=>exact id|B s=>exact id|I c t e b d=>exactλh=>⟨λx=>b<|h.1 x,λx=>d<|h.2 x⟩
 |r l p t h=>exactλx=>⟨x.1,λy=>h<|x.2 y⟩
 |z l p t h=>exactλx y=>h<|x y
 |C t e b d=>exactλh=>⟨b h.1,d h.2⟩
 |A k n f h=>cases k<;>exactλx y=>h _<|x y
end
open Go.Xe
inductive Cp where
 |f (e:E)
 |g
 |j
inductive SV where
 |r
 |f (k:IntKind) (e:E)
 |j (e:E)
 |p (e:E)
 |C
 |g (b z:Nat) (row:E) (fld:Nat)
 |B (t:Ax) (L row:E) (fld:Nat)
 |J (row:E) (fld:Nat)
 |I (e:E)
 |N (L:E) (z:Nat)
 |q
 |z (b z:Nat) (off len:E) (cap:Cp)
 |m (t:Ax) (L:E) (clip:Bool)
 |w (l:List SV)
 |A (l:List SV)
 |H (f:Fn) (a b:List SV)
 |D
 |L (ks:Ah) (vs:List SV) (g:Ay) (nt:Nat) (ps:Ah) (as bo:Code)
abbrev As:=List SV
instance : Inhabited SV:=⟨.r⟩
def lk {b:Type}:List (Nat×b)->Nat->Bb b
 | [],_=>none| (k,a)::l,n=>bif Nat.beq k n then some a else lk l n
mutual
def noY :SV->Bool
 | .L _ _ _ _ _ _ _=>false| .w l=>noYs l| .A l=>noYs l| .H _ a b=>noYs a&&noYs b|_=>true
def noYs :As->Bool
 | []=>true|a::l=>noY a&&noYs l
end
inductive Kd where
 |int (k:IntKind)
 |bool
 |str
 |f (e:Ax)
 |rp
 |bad
 deriving DecidableEq
def kd1 (P:Aw)(t:Ax):Kd:=match P.underlying t with
 |some (.int k)=>.int k|some .bool=>.bool|some .string=>.str|some (.slice e)=>.f e|some (.pointer e)=>bif Nat.beq e rgT then .rp else .bad|_=>.bad
def kdF (f:Ax->List Kd):List Field->List Kd
 | []=>[]
 |x::xs=>f x.type++kdF f xs
def kds (P:Aw):Nat->Ax->List Kd
 |0,_=>[.bad]
 |d+1,t=>match P.underlying t with
  |some (.struct a)=>kdF (kds P d) a.toList|some (.array n e)=>(List.replicate n<|kds P d e).flatten|_=>[kd1 P t]
def kf (P:Aw)(t:Ax):List Kd:=kds P 20 t
inductive C8 where
 |f (l:As) (e z:Nat)
 |g (L:E) (e z:Nat) (ph:E)
 |j (s pos:E)
 |m (b:Nat) (L:E) (z:Nat)
structure SS where
 h:List (Nat×Bb C8)
 g:Nat
 p:List (E×Bool)
 m:Nat
 r:List (Nat×E×Ax×Nat)
def SS.f (s:SS)(b:Nat):Bb C8:=match lk s.h b with|some x=>x|none=>none
def SS.j (s:SS)(b:Nat)(x:Bb C8):SS:= {s with h:=(b,x)::s.h}
def B3 {b:Type}(k n:Nat)(a:b)(l:List (Nat×b)):lk ((k,a)::l) n=if k=n then some a else lk l n:=by by_cases h:k=n;rw[Xg h,lk,w9 h];rfl;rw[Xd h,lk,B0 h];rfl
def bX {a:Type}{b:Nat}{x:a}:∀ {l:List (Nat×a)},lk l b=x->(b,x)∈l
 | [],h=>by cases h
 | (k,y)::l,h=>by rw[B3]at h;split at h;grind;exact Yb _<|bX h
def SS.q (s:SS)(b c:Nat)(x:Bb C8):(s.j b x).f c=if c=b then x else s.f c:=by simp only[SS.f,SS.j,B3];grind
def Zu:type_of% @SS.q:=@SS.q
def arr (b:Blk):Bb (Ao×Nat×Nat):=rdC b
def roC (b:Blk)(c a z:Nat):Prop:=(fQ b->c<unk)/\(fQ b=false->a=z)
def roC.mk {b:Blk}{c z:Nat}(h:fQ b=false:=by rfl):roC b c z z:=⟨λe=>(by rw[h]at e;cases e),λ_=>rfl⟩
def BU l c:=(c<unk/\l<=c)\/(∃a,c=i4 a 0/\a<=67108864/\l<=67108864)
section
variable (P :Aw)
inductive PV (F:Ac):Kd->Av->Dat->Prop
 |int (k:IntKind) (n:Int):PV F (.int k) (.int k n) (.i n)
 |R (b:Bool):PV F .bool (.bool b) (.b b)
 |str (s:Ae):PV F .str (.string ⟨s.toArray⟩) (.s s)
 |N (e:Ax):PV F (.f e) (.slice none 0 0) (.l [])
 |rp (k:Nat):PV F .rp (.pointer<|some ⟨k,0,some 1⟩) (.i k)
 |rpn:PV F .rp (.pointer none) (.i<|-1)
 |L (e:Ax):PV F (.f e) (.slice (some ⟨0,0,some 0⟩) 0 unk) (.l [])
 | sl (e : Ax) (i o c : Nat) (b : Blk) (cs : Ao) (n z : Nat) {zb : Nat} (rows : a8) (x : Nat → Nat → Av) (hF : F i = some b) (hb : arr b = some (cs, n, zb)) (hc : BU rows.length c ∧ roC b c zb z)
   (hn:o+rows.length*z<=n) (hz:z=(kf P e).length) (hr:∀r∈rows,r.length=z)
   (hx:∀(r k:Nat) (row:Ar) (d:Dat),rows[r]? =some row->row[k]? =some d->cs.l (o+r*z+k)=some (x r k))
   (hp:∀(r k:Nat) (row:Ar) (kd:Kd) (d:Dat),rows[r]? =some row->row[k]? =some d->(kf P e)[k]? =some kd->PV F kd (x r k) d):
   PV F (.f e) (.slice (some ⟨i,o,none⟩) rows.length c) (.l rows)
def Fle (F a:Ac):Prop:=∀i b,F i=some b->a i=some b
def Fle.f (F:Ac):Fle F F:=λ_ _ h=>h
def Ze:type_of% @Fle.f:=@Fle.f
variable {F:Ac}
def Fle.g {G H:Ac}(h:Fle F G)(k:Fle G H):Fle F H:=λi b e=>k i b<|h i b e
variable {Y:Ac}{v:Av}
def PV.O (h:Fle F Y){k:Kd}{d:Dat}(p:PV P F k v d):PV P Y k v d:=by
 induction p with
 |int k n=>exact .int k n|R b=>exact .R b|str s=>exact .str s|N e=>exact .N e|rp k=>exact .rp k|rpn=>exact .rpn|L e=>exact .L e|sl e i o c b a n z rows x f g j l r m q _ t=>exact .sl e i o c b a n z rows x (h _ _ f) g j l r m q t
abbrev Tau:=Nat->Bb (Bb<|Nat×Nat)
variable (U :Ab)
abbrev E.j (e:E):Int:=(e.A U).j
abbrev E.r (e:E):Nat:=(e.A U).j.toNat
abbrev E.z (e:E):a8:=(e.A U).m
def pC (len:E):Cp->Nat->Prop
 | .f e,c=>0<=e.j U/\c=e.r U/\c<unk/\len.j U<=e.j U| .g,c=>∃a,c=i4 a 0/\a<=67108864/\len.j U<=67108864| .j,c=>(c<unk/\c=len.r U/\len.j U<=67108864)\/ ∃a,c=i4 a 0/\a<=67108864/\len.j U<=67108864
def RowsIn (F:Ac)(z:Nat)(xs:Af)(rows:a8):Prop:=
 xs.length=rows.length*z/\z=(kf P rgT).length/\(∀r∈rows,r.length=z)/\
 ∀(r k:Nat) (row:Ar) (d:Dat),rows[r]? =row->row[k]? =d-> ∃x,xs[r*z+k]? =some x/\ ∀a,(kf P rgT)[k]? =some a->PV P F a x d
def RowsIn.f (h:Fle F Y){z:Nat}{xs:Af}{rows:a8}(p:RowsIn P F z xs rows):RowsIn P Y z xs rows:=
 ⟨p.1,p.2.1,p.2.2.1,λr k row d c b=>let⟨x,e,f⟩:=p.2.2.2 r k row d c b;⟨x,e,λg a=>(f g a).O P h⟩⟩
inductive VD (τ:Tau)(F:Ac):SV->Av->Prop
 |any (v:Av):VD τ F .r v
 |int (k:IntKind) (e:E):VD τ F (.f k e) (.int k<|e.j U)
 |bool (e:E):VD τ F (.j e) (.bool (e.A U).f)
 |str (e:E):VD τ F (.p e) (.string ⟨(e.A U).g.toArray⟩)
 |nilp:VD τ F .C (.pointer none)
 |ptr (b z:Nat) (row:E) (fld i o:Nat) (h:τ b=some (some (i,o))) (h0:0<=row.j U):VD τ F (.g b z row fld) (.pointer<|some ⟨i,o+row.r U*z+fld,none⟩)
 | pptr (t : Ax) (L row : E) (fld i o l c : Nat) (h : PV P F (.f t) (.slice (some ⟨i, o, none⟩) l c) (.l<|L.z U)) (h0 : 0 ≤ row.j U) (h1 : row.j U < (L.z U).length) :
   VD τ F (.B t L row fld) (.pointer<|some ⟨i,o+row.r U*(kf P t).length+fld,none⟩)
 |rp (row:E) (fld:Nat) (h0:0<=row.j U):VD τ F (.J row fld) (.pointer<|some ⟨row.r U,fld,some 1⟩)
 |rpq (e:E) (v:Av) (h:PV P F .rp v (.i<|e.j U)):VD τ F (.I e) v
 |rv (L:E) (z:Nat) (xs:Af) (h:RowsIn P F z xs (L.z U)):VD τ F (.N L z) (.func (.func 0) xs.toArray #[])
 |nils:VD τ F .q (.slice none 0 0)
 | sl (b z : Nat) (off len : E) (cap : Cp) (i o c : Nat) (h : τ b = some (some (i, o))) (h0 : 0 ≤ off.j U) (h1 : 0 ≤ len.j U) (hc : pC U len cap c) :
   VD τ F (.z b z off len cap) (.slice (some ⟨i,o+off.r U*z,none⟩) (len.r U) c)
 |sl0 (b z:Nat) (off len:E) (cap:Cp) (h:τ b=some none) (h0:off.j U=0) (h1:len.j U=0) (hc:∀e,cap= .f e->e.j U=0):VD τ F (.z b z off len cap) (.slice none 0 0)
 |lst (t:Ax) (L:E) (clip:Bool) (v:Av) (h:PV P F (.f t) v (.l<|L.z U)) (hc:clip=true-> ∃a l,v= .slice a l l):VD τ F (.m t L clip) v
 |agg (l:As) (xs:Af) (h1:l.length=xs.length) (h2:∀(i:Nat) a x,l[i]? =some a->xs[i]? =some x->VD τ F a x):VD τ F (.w l) (.agg xs.toArray)
 |tup (l:As) (xs:Af) (h1:l.length=xs.length) (h2:∀(i:Nat) a x,l[i]? =some a->xs[i]? =some x->VD τ F a x):VD τ F (.A l) (.tuple xs.toArray)
 | fn (f : Fn) (l m : As) (xs ys : Af) (h1 : l.length = xs.length) (h2 : ∀ (i : Nat) a x, l[i]? = some a → xs[i]? = some x → VD τ F a x)
   (h3:m.length=ys.length) (h4:∀(i:Nat) a x,m[i]? =some a->ys[i]? =some x->VD τ F a x):VD τ F (.H f l m) (.func f xs.toArray ys.toArray)
 |nilf:VD τ F .D .nilFunc
 | yld (ks : Ah) (vs : As) (g : Ay) (nt : Nat) (ps : Ah) (as bo : Code) (i : Nat) (tms : Ao) (pr : Array Tmp) (db : Nat) (hF : F i = some (.loop .ready none nt tms pr as bo db)) (hp : pr.toList = ps)
   (h:∀k a,lk (ks.zip vs) k=some a->VD τ F a ((tms.l k).getD undef)):VD τ F (.L ks vs g nt ps as bo) (.chan<|some i)
def Tle (c a:Tau):Prop:=∀b p,c b=some p->a b=some p
def Tle.g (a:Tau):Tle a a:=λ_ _ h=>h
def ZE:type_of% @Tle.g:=@Tle.g
def Tle.f {a b c:Tau}(h:Tle a b)(k:Tle b c):Tle a c:=λi p e=>k i p<|h i p e
variable {P U}
variable {Z:Tau}
def VD.mono {u:Tau}(w:Tle Z u)(h:Fle F Y){s:SV}(p:VD P U Z F s v):VD P U u Y s v:=by
 induction p with
 |any v=>exact .any v|int k e=>exact .int k e|bool e=>exact .bool e|str e=>exact .str e|nilp=>exact .nilp|ptr b z row a i o k j=>exact .ptr b z row a i o (w _ _ k) j|pptr t L row a i o l c k j d=>exact .pptr t L row a i o l c (k.O P h) j d|rp row a j=>exact .rp row a j|rpq e v k=>exact .rpq e v<|k.O P h|rv L z xs k=>exact .rv L z xs<|k.f P h|nils=>exact .nils|sl b z off len cap i o c k j d q=>exact .sl b z off len cap i o c (w _ _ k) j d q|sl0 b z off len cap k j d q=>exact .sl0 b z off len cap (w _ _ k) j d q|lst t L n v k q=>exact .lst t L n v (k.O P h) q|agg l xs d _ r=>exact .agg l xs d r|tup l xs d _ r=>exact .tup l xs d r|fn f l m xs N d _ E _ x y=>exact .fn f l m xs N d x E y|nilf=>exact .nilf|yld I vs g J M B C i A K D G H _ r=>exact .yld I vs g J M B C i A K D (h _ _ G) H r
def PV.sub (h:∀i y,F i=some y->(arr y).isSome=true->Y i=some y){k:Kd}{d:Dat}(p:PV P F k v d):PV P Y k v d:=by
 induction p with
 |int k n=>exact .int k n|R b=>exact .R b|str s=>exact .str s|N e=>exact .N e|rp k=>exact .rp k|rpn=>exact .rpn|L e=>exact .L e|sl e i o c b f n z rows x g a j l r m q _ t=>exact .sl e i o c b f n z rows x (h _ _ g<|by rw[a];rfl) a j l r m q t
def eU :∀ {l:As} {i:Nat} {a:SV},noYs l->l[i]? =a->noY a
 | [],i,a,_,h=>by grind|b::l,i,a,c,h=>by
  rw[noYs] at c;rw[WK]at c;cases i with
  |zero=>grind|succ i=>exact eU c.2 h
def VD.sub (p:Bool)(h:∀i y,F i=some y->((arr y).isSome\/p/\y≠ .dfr)->Y i=some y){s:SV}(hv:VD P U Z F s v)(w:p\/noY s):VD P U Z Y s v:=by
 have H:∀i y,F i=some y->(arr y).isSome->Y i=some y:=λi y j R=>h i y j<|.inl R;induction hv with
 |any v=>exact .any v|int k e=>exact .int k e|bool e=>exact .bool e|str e=>exact .str e|nilp=>exact .nilp|ptr b z row u i o k A=>exact .ptr b z row u i o k A|pptr t L row u i o l c k A j=>exact .pptr t L row u i o l c (k.sub H) A j|rp row u A=>exact .rp row u A|rpq e v k=>exact .rpq e v<|k.sub H|rv L z xs k=>exact .rv L z xs ⟨k.1,k.2.1,k.2.2.1,λr q row d X W=>let⟨x,k1,k2⟩:=k.2.2.2 r q row d X W;⟨x,k1,λkd I=>(k2 kd I).sub H⟩⟩|nils=>exact .nils|sl b z off len cap i o c k A j D=>exact .sl b z off len cap i o c k A j D|sl0 b z off len cap k A j D=>exact .sl0 b z off len cap k A j D|lst t L C v k D=>exact .lst t L C v (k.sub H) D|agg l xs j _ G=>exact .agg l xs j λi a x n B=>G i a x n B<|w.imp id λk=>eU (by rw[noY] at k;exact k) n
 |tup l xs j _ G=>exact .tup l xs j λi a x n B=>G i a x n B<|w.imp id λk=>eU (by rw[noY] at k;exact k) n
 |fn f l m xs ys j _ S _ J K=>
  have E:p\/noYs l/\noYs m:=w.imp id λk=>by rw[noY] at k;rwa[WK]at k
  exact .fn f l m xs ys j (λi a x n B=>J i a x n B<|E.imp id λk=>eU k.1 n) S λi a x n B=>K i a x n B<|E.imp id λk=>eU k.2 n
 |nilf=>exact .nilf|yld ks vs g nt ps N O i M pr Q T V _ G=>obtain w|w:=w;exact .yld ks vs g nt ps N O i M pr Q (h _ _ T<|.inr ⟨w,by simp⟩) V λk a n=>G k a n<|.inl w;rw[noY] at w;cases w
variable (P U)
def VDL (Z:Tau)(F:Ac)(l:As)(xs:Af):Prop:=l.length=xs.length/\ ∀(i:Nat) a x,l[i]? =some a->xs[i]? =some x->VD P U Z F a x
def C4 (F:Ac)(e:Ax)(z o n:Nat)(b:Ao)(rows:a8):Prop:=
 o+rows.length*z<=n/\z=(kf P e).length/\(∀r∈rows,r.length=z)/\
 ∀(r k:Nat) (row:Ar) (d:Dat),rows[r]? =row->row[k]? =d-> ∃x,b.l (o+r*z+k)=some x/\ ∀a,(kf P e)[k]? =some a->PV P F a x d
def BD (Z:Tau)(F:Ac)(o:Nat):C8->Blk->Prop
 | .f l e z,b=>∃c n,b= .cells c n e z/\o+l.length<=n/\ ∀(j:Nat) a,l[j]? =some a-> ∃x,c.l (o+j)=some x/\VD P U Z F a x| .g L e z ph,b=>∃c n,b= .cells c n e z/\C4 P F e z o n c (L.z U)/\o+ph.r U*z<=n| .m r L z,b=>o=0/\Z r=some (some (0,0))/\ ∃c,b= .reg c (L.z U).length rgT z/\C4 P F rgT z 0 ((L.z U).length*z) c (L.z U)| .j s d,b=>o=0/\ ∃n:Nat,b= .sit ⟨(s.A U).g.toArray⟩ n/\d.j U=n
def MG (Z:Tau)(F:Ac)(r:Nat×E×Ax×Nat):Prop:=
 (∃i o a n,Z r.1=some (some (i,o))/\F i=some (.cells a n r.2.2.1 r.2.2.2)/\C4 P F r.2.2.1 r.2.2.2 o n a (r.2.1.z U))\/(Z r.1=some none/\r.2.1.z U=[])
structure SD (Z:Tau)(F:Ac)(s:SS)(hp:Hp):Prop where
 f:∀b x,s.f b=some x->(∃i o y,Z b=some (some (i,o))/\hp.m.l i=some y/\F i=none/\BD P U Z F o x y)\/
  (Z b=some none/\ ∃L e z ph,x= .g L e z ph/\L.z U=[]/\z=(kf P e).length/\ph.j U<=0)
 A:∀b c x y i o j q,s.f b=some x->s.f c=some y->b≠c->Z b=some (some (i,o))->Z c=some (some (j,q))->i≠j
 p:∀i b,F i=some b->hp.m.l i=some b
 C:∀b i o,Z b=some (some (i,o))->i<hp.d
 B:∀i b,F i=some b->i<hp.d
 g:∀b,s.g<=b->Z b=none
 I:∀c t,(c,t)∈s.p->(c.A U).f=t
 N:∀r∈s.r,MG P U Z F r
def nyS (s:SS):Bool:=s.h.all λp=>match p.2 with
 |some (.f l _ _)=>noYs l|_=>true
variable {P U}
def BD.g (p:Bool)(h:∀i y,F i=some y->((arr y).isSome\/p/\y≠ .dfr)->Y i=some y){o:Nat}{x:C8}{y:Blk}(t:BD P U Z F o x y)(I:p\/ ∀l e z,x= .f l e z->noYs l):BD P U Z Y o x y:=by
 have E:∀i y,F i=some y->(arr y).isSome->Y i=some y:=λi y b c=>h i y b<|.inl c;cases x with
 |f l e z=>let⟨f,n,b,c,g⟩:=t;exact⟨f,n,b,c,λj a G=>let⟨x,m,q⟩:=g j a G;⟨x,m,q.sub p h<|I.imp id λk=>eU (k l e z rfl) G⟩⟩
 |g L e z ph=>let⟨f,n,b,⟨c,g,u,v⟩,w⟩:=t;exact⟨f,n,b,⟨c,g,u,λr k row d C A=>let⟨x,m,q⟩:=v r k row d C A;⟨x,m,λD B=>(q D B).sub E⟩⟩,w⟩
 |j s J=>exact t|m r L z=>let⟨H,w,f,b,c,g,u,v⟩:=t;exact⟨H,w,f,b,c,g,u,λr k row d C A=>let⟨x,m,q⟩:=v r k row d C A;⟨x,m,λD B=>(q D B).sub E⟩⟩
def SD.sub {s:SS}{w c:Hp}(j:SD P U Z F s w)(p:Bool)(h:∀i y,F i=some y->((arr y).isSome\/p/\y≠ .dfr)->Y i=some y)(N:p\/nyS s)(v:w.d<=c.d)(M:∀b x i o,s.f b=some x->Z b=some (some (i,o))->c.m.l i=w.m.l i/\Y i=none)(E:∀i y,Y i=some y->c.m.l i=some y/\i<c.d):SD P U Z Y s c:=by refine⟨λb x g=>?_,j.A,λi y B=>(E i y B).1,λb i o g=>XW (j.C b i o g) v,λi y B=>(E i y B).2,j.g,j.I,λr A=>?_⟩;obtain⟨i,o,y,f,t,D,u⟩|f:=j.f b x g;let⟨G,C⟩:=M b x i o g f;refine .inl ⟨i,o,y,f,by grind,C,u.g p h<|N.imp id λk l e z Q=>?_⟩;unfold nyS at k;rw[Xo]at k;subst Q;unfold SS.f at g;split at g;rename_i q O;subst g;exact k _<|bX O;grind;grind;obtain⟨i,o,H,n,f,t,D,u,I,J⟩|f:=j.N r A;exact .inl ⟨i,o,H,n,f,h _ _ t<|.inl rfl,D,u,I,λa k row d A K=>let⟨x,G,C⟩:=J a k row d A K;⟨x,G,λR L=>(C R L).sub λi y f t=>h i y f<|.inl t⟩⟩;exact .inr f
end
def A3 (a b:E):E:=match a,b with
 | .w m,.w n=>.w<|m+n| .w m,b=>bif decide (m=0)then b else .C .J [b,.w m]| .C .J [x,.w m],.w n=>bif decide (m+n=0)then x else .C .J [x,.w<|m+n]|a,.w n=>bif decide (n=0)then a else .C .J [a,.w n]|a,b=>.C .J [a,b]
def Q8 (a b:E):E:=match b with
 | .w n=>A3 a<|.w<|-n|b=>.C .sub [a,b]
def Qf (a b:E):E:=match a,b with
 | .w m,.w n=>.w<|m*n|a,b=>.C .mul [a,b]
def A4 (a:E):E:=match a with
 | .bool c=>.bool<|!c| .C .not [x]=>x|a=>.C .not [a]
def A5 (a b:E):E:=match a,b with
 | .w m,.w n=>.bool<|decide<|m<n|a,b=>.C .lt [a,b]
def I4 (a b:E):E:=match a,b with
 | .w m,.w n=>.bool<|decide<|m=n|a,b=>.C .eqi [a,b]
def Ly (a b:E):E:=match a,b with
 | .bool p,b=>bif p then b else A4 b|a,.bool p=>bif p then a else A4 a|a,b=>.C .eqb [a,b]
def pR (a b:E):E:=match a,b with
 | .str p,.str q=>.bool<|p==q|a,b=>.C .eqs [a,b]
def Lx (a b:E):E:=match a,b with
 | .bool p,b=>bif p then b else .bool false|a,.bool p=>bif p then a else .bool false|a,b=>.C .and [a,b]
def mkOr (a b:E):E:=match a,b with
 | .bool p,b=>bif p then .bool true else b|a,.bool p=>bif p then .bool true else a|a,b=>.C .or [a,b]
def Cy :Nat->E->E
 |0,L=>.C .len [L]|d+1,L=>match L with
  | .C .p _=>.w 0| .C (.f n _) _=>.w n| .C .app [a,b]=>A3 (Cy d a)<|Cy d b| .C (.L _) [a,_,_]=>Cy d a|L=>.C .len [L]
def C2 (L:E):E:=Cy 50 L
def Lz :Nat->Nat->E->E->E
 |0,j,L,r=>.C (.get j) [L,r]|d+1,j,L,r=>match L with
  | .C (.L b) [a,i,c]=>bif Nat.beq j b then .C (.get j) [.C (.L b) [a,i,c],r]else Lz d j a r|L=>.C (.get j) [L,r]
def IP (j:Nat)(L r:E):E:=Lz 50 j L r
def J0 (a b:E):E:=match a,b with
 | .C .p _,b=>b|a,.C .p _=>a|a,b=>.C .app [a,b]
section
variable {U :Ab}
def D5 (n:Int):(E.w n).j U=n:=rfl
def l9 (a b:E):(A3 a b).j U=a.j U+b.j U:=by unfold A3;split;rfl;rename_i b m _;by_cases h:m=0;subst h;exact(Int.zero_add _).symm;simp only[h,decide_false,Xb];exact Int.add_comm _ _;rename_i x m n;by_cases h:m+n=0;simp only[h,XZ,Xa];show _=(x.j U+m)+n;omega;simp only[h,decide_false,Xb];show x.j U+(m+n)=(x.j U+m)+n;omega;rename_i a n _ _;by_cases h:n=0;subst h;simp;show _=_+0;omega;simp only[h,decide_false,Xb];rfl;rfl
def z6 (a b:E):(Q8 a b).j U=a.j U-b.j U:=by unfold Q8;split;rename_i n;rw[l9];show _+ -n=_-n;omega;rfl
def MZ (a b:E):(Qf a b).j U=a.j U*b.j U:=by unfold Qf;split<;>rfl
def J3 (a:E):((A4 a).A U).f= !(a.A U).f:=by unfold A4;split;rfl;rename_i x;show _= !(!(x.A U).f);simp;rfl
def J5 (a b:E):((A5 a b).A U).f=decide (a.j U<b.j U):=by unfold A5;split<;>rfl
def H8 (a b:E):((I4 a b).A U).f=decide (a.j U=b.j U):=by unfold I4;split<;>rfl
def Y4 (a b:E):((pR a b).A U).f=((a.A U).g==(b.A U).g):=by unfold pR;split<;>rfl
def Cw (a b:E):((Ly a b).A U).f=((a.A U).f==(b.A U).f):=by unfold Ly;split;rename_i b p;cases p;simp only[Xb,J3];show _=(false==_);simp;show _=(true==_);simp;rename_i a p _;cases p;simp only[Xb,J3];show _=(_==false);simp;show _=(_==true);simp;rfl
def Cv (a b:E):((Lx a b).A U).f=((a.A U).f&&(b.A U).f):=by unfold Lx;split;rename_i b p;cases p;rfl;show _=(true&&_);simp;rename_i a p _;cases p;show false=(_&&false);simp;show _=(_&&true);simp;rfl
def GI (a b:E):((mkOr a b).A U).f=((a.A U).f|| (b.A U).f):=by unfold mkOr;split;rename_i b p;cases p;show _=(false||_);simp;rfl;rename_i a p _;cases p;show _=(_||false);simp;show true=(_||true);simp;rfl
def Q3 (z:Nat):∀(n:Nat) (l:Ar),(b9 z n l).length=n
 |0,_=>rfl|n+1,l=>by simp[b9,Q3 z n]
def kZ :∀(d:Nat) (L:E),(Cy d L).j U=((L.z U).length:Int)
 |0,L=>rfl|d+1,L=>by unfold Cy;split;rfl;rename_i n z e;show(n:Int)=((b9 z n _).length:Int);rw[Q3];rename_i a b;rw[l9,kZ d a,kZ d b];show _=(((a.z U)++(b.z U)).length:Int);simp;rename_i j a i c;rw[kZ d a];show _=((a9 (a.z U) _ j _).length:Int);simp[a9];rfl
def j5 (L:E):(C2 L).j U=((L.z U).length:Int):=kZ 50 L
def uT (L:a8)(i r:Int){j a:Nat}(d:Dat)(h:j≠a):A7 (a9 L i a d) r j=A7 L r j:=by unfold A7 a9;grind
def Cx :∀(d j:Nat) (L r:E),(Lz d j L r).A U=A7 (L.z U) (r.j U) j
 |0,j,L,r=>rfl|d+1,j,L,r=>by unfold Lz;split;rename_i b a i c;by_cases h:j=b;rw[w9 h];rfl;rw[B0 h,Xb,Cx d j a r];exact(uT _ _ _ _ h).symm;rfl
def xG (j:Nat)(L r:E):(IP j L r).A U=A7 (L.z U) (r.j U) j:=Cx 50 j L r
def Q4 (a b:E):(J0 a b).z U=a.z U++b.z U:=by unfold J0;split;rfl;show _=_++([]:a8);simp;rfl
def FT (U:Ab)(l:List (E×Bool)):Prop:=∀c t,(c,t)∈l->(c.A U).f=t
def M (a:Type):=SS->Tr (a×SS)
def i6 {b:Type}(a:b):M b:=λs=>.j (a,s)
def c9 {a:Type}(t:String):M a:=λ_=>.B t
def d8 {a b:Type}(m:M a)(k:a->M b):M b:=λs=>(m s).m λx=>k x.1 x.2
def z7 {a:Type}(k:SS->M a):M a:=λs=>k s s
def pS {b:Type}(t:String)(x:Bb b):M b:=match x with|some a=>i6 a|none=>c9 t
def addF (s:SS)(c:E)(t:Bool):SS:= {s with p:=(c,t)::s.p}
variable (U) in
def u6 (c:E):M Unit:=λs=>match c with
 | .bool true=>.j ((),s)|c=>.r (.e c) (c.I U)<|.j ((),addF s c true)
def Pw :List (E×Bool)->E->Bb Bool
 | [],_=>none| (d,t)::l,c=>bif E.J d c then some t else Pw l c
variable (U) in
def testA (c:E):M Bool:=λs=>match c with
 | .bool b=>.j (b,s)|c=>match Pw s.p c with
  |some true=>.r (.e c) (c.I U)<|.j (true,s)|some false=>.r (.e<|A4 c) (¬c.I U)<|.j (false,s)|none=>.I c (.j (true,addF s c true))<|.j (false,addF s c false)
variable (U) in
def testF :Nat->E->M Bool
 |0,c=>testA U c|d+1,c=>match c with
  | .C .not [a]=>d8 (testF d a) λt=>i6<|!t
  | .C .and [a,b]=>d8 (testF d a) λt=>bif t then testF d b else i6 false
  | .C .or [a,b]=>d8 (testF d a) λt=>bif t then i6 true else testF d b
  |c=>testA U c
variable (U) in
def jM (c:E):M Bool:=testF U 20 c
structure bO (s s':SS):Prop where
 h:s'.h=s.h
 p:s'.g=s.g
 q:∃l,s'.p=l++s.p
 r:s'.r=s.r
def bO.j (s:SS):bO s s:=⟨rfl,rfl,⟨[],rfl⟩,rfl⟩
theorem bO.g {a b c:SS}(h:bO a b)(k:bO b c):bO a c:=
 ⟨k.h.trans h.h,k.p.trans h.p,by let⟨l,e⟩:=h.q;let⟨m,d⟩:=k.q;exact(by grind),k.r.trans h.r⟩
def bO.m (s:SS)(c:E)(t:Bool):bO s (addF s c t):=⟨rfl,rfl,⟨[(c,t)],rfl⟩,rfl⟩
variable {s:SS}
def bO.f {a:SS}(h:bO s a)(b:Nat):a.f b=s.f b:=by unfold SS.f;rw[h.h]
variable (U) in
def OKp {c:Type}(m:M c)(s:SS)(R:c->Prop):Prop:=
 ∀Q,(m s).q U Q->FT U s.p-> ∃a b,Q (a,b)/\bO s b/\FT U b.p/\R a
def OKp.B {b:Type}{a:b}{R:b->Prop}(h:R a):OKp U (i6 a) s R:=λ_ d c=>⟨a,s,d,bO.j s,c,h⟩
def Zq:type_of% @OKp.B:=@OKp.B
variable {t:String}
def OKp.w {a:Type}{R:a->Prop}:OKp U (c9 t:M a) s R:=λ_ b _=>b.elim
def Zl:type_of% @OKp.w:=@OKp.w
def OKp.f {e j:Type}{m:M e}{k:e->M j}{R:e->Prop}{f:j->Prop}(h:OKp U m s R)(u:∀a d,bO s d->FT U d.p->R a->OKp U (k a) d f):OKp U (d8 m k) s f:=λQ c t=>by rw[d8] at c;rw[ZF]at c;let⟨a,s1,l,g,i,n⟩:=h _ c t;let⟨b,s2,o,p,q,r⟩:=u a s1 g i n Q l i;exact⟨b,s2,o,g.g p,q,r⟩
def OKp.j {c:Type}{m:M c}{R b:c->Prop}(h:OKp U m s R)(k:∀a,R a->b a):OKp U m s b:=λQ e d=>by let⟨a,s1,f,g,i,j⟩:=h Q e d;grind
def OKp.A {b:Type}{x:Bb b}{R:b->Prop}(h:∀a,x=some a->R a):OKp U (pS t x) s R:=by
 cases x with
 |none=>exact Zl|some a=>exact Zq<|h a rfl
def Zo:type_of% @OKp.A:=@OKp.A
def OKp.z {a:Type}{k:SS->M a}{R:a->Prop}(h:OKp U (k s) s R):OKp U (z7 k) s R:=h
def Zp:type_of% @OKp.z:=@OKp.z
def FT.f {l:List (E×Bool)}{c:E}{t:Bool}(h:FT U l)(b:(c.A U).f=t):FT U ((c,t)::l):=λd u a=>by obtain e|e:=Xw.1 a;grind;exact h d u e
def Js {c:E}(h:¬c.I U):(c.A U).f=false:=by rw[Zb]at h;simpa using h
def OKp.g {c:E}:OKp U (u6 U c) s λ_=>c.I U:=λQ a d=>by unfold u6 at a;split at a;exact⟨(),s,a,bO.j s,d,rfl⟩;let⟨b,e⟩:=a;exact⟨(),_,e b,bO.m s _ _,d.f<|(Zb U _).1 b,b⟩
def Zm:type_of% @OKp.g:=@OKp.g
def OKp.r {c:E}{s:SS}:OKp U (testA U c) s λt=>(c.A U).f=t:=λQ a b=>by unfold Sx.testA at a;split at a;exact⟨_,s,a,bO.j s,b,rfl⟩;split at a;exact⟨true,s,a.2 a.1,bO.j s,b,(Zb U _).1 a.1⟩;exact⟨false,s,a.2 a.1,bO.j s,b,Js a.1⟩;by_cases h:c.I U;exact⟨true,_,a.1 h,bO.m s _ _,b.f<|(Zb U _).1 h,(Zb U _).1 h⟩;exact⟨false,_,a.2 h,bO.m s _ _,b.f<|Js h,Js h⟩
def OKp.m :∀(d:Nat) (c:E) (s:SS),OKp U (testF U d c) s λt=>(c.A U).f=t
 |0,c,s=>OKp.r|d+1,c,s=>by
  unfold Sx.testF;split;next a=>refine(OKp.m d a s).f λt e _ _ h=>Zq ?_;show(!(a.A U).f)= !t;rw[h]
  .rename_i a b;refine(OKp.m d a s).f λt e _ _ h=>?_;cases t with
   |true=>exact(OKp.m d b e).j λu f=>by show((a.A U).f&&(b.A U).f)=u;rw[h,f];rfl
   |false=>exact Zq (by show((a.A U).f&&(b.A U).f)=false;rw[h];rfl)
  .rename_i a b;refine(OKp.m d a s).f λt e _ _ h=>?_;cases t with
   |true=>exact Zq (by show((a.A U).f|| (b.A U).f)=true;rw[h];rfl)|false=>exact(OKp.m d b e).j λu f=>by show((a.A U).f|| (b.A U).f)=u;rw[h,f];rfl
  exact OKp.r
def OKp.p {c:E}:OKp U (jM U c) s λt=>(c.A U).f=t:=OKp.m 20 c s
def Zs:type_of% @OKp.p:=@OKp.p
end
abbrev Fm:=List<|Nat×SV
def gK :Av->SV
 | .bool b=>.j<|.bool b| .int k n=>.f k<|.w n| .string s=>.p<|.str s.data.toList| .pointer none=>.C| .slice none 0 0=>.q| .nilFunc=>.D|_=>.r
def JT :Av->SV
 | .agg a=>.w<|a.toList.map gK| .tuple vs=>.A<|vs.toList.map gK|v=>gK v
def Q9 (f:Fm):Az->Bb SV
 | .tmp t=>some<|(lk f t).getD .r| .const v=>bif cst v then some (JT v)else none| .global _=>none| .func g=>some<|.H (.func g) [] []
def Hw (f:Fm):List Az->Bb (As)
 | []=>some []|x::xs=>match Q9 f x with
  |some v=>match Hw f xs with
   |some vs=>some<|v::vs|none=>none
  |none=>none
def kH (f:Fm):List (Nat×Az)->Bb (List<|Nat×SV)
 | []=>some []| (i,x)::xs=>match Q9 f x with
  |some v=>match kH f xs with
   |some vs=>some<|(i,v)::vs|none=>none
  |none=>none
def H3 :SV->Bb (As)
 | .r=>none| .L _ _ _ _ _ _ _=>none| .w l=>some l|v=>some [v]
def CT (P:Aw)(t:Ax)(a:As)(off:Nat):Bb SV:=
 match P.underlying t with
 |none=>none
 | some d => bif bP d then
   match P.info? t with
   |some i=>some<|.w<|(a.drop off).take i.size|none=>none
  else a[off]?
def JX (P:Aw)(d:Ax)(x:SV)(f:Nat):Bb SV:=
 match P.underlying d with
 |some (.struct c)=>match c.toList[f]? with
  |some a=>match x with
   | .w b=>CT P a.type b a.offset|_=>none
  |none=>none
 |_=>none
def AF (x:SV)(i:Nat):Bb SV:=
 match x with
 | .A vs=>vs[i]?|_=>none
def W6 (cells:As)(off:Nat)(vs:As):As:=cells.take off++vs++cells.drop (off+vs.length)
def uH (a:Nat->Bb (Nat×Nat))(cells:As):List (Nat×SV)->Bb (As)
 | []=>some cells| (i,v)::rest=>match a i with
  |none=>none|some (off,size)=>match H3 v with
   |none=>none|some vs=>bif Nat.beq vs.length size&&Nat.ble (off+size) cells.length then uH a (W6 cells off vs) rest else none
def uJ (P:Aw)(t:Ax):Bb (As):=match T5 P t with
 |some z=>some<|z.cells.toList.map gK|none=>none
def JS (P:Aw)(t:Ax)(a:List (Nat×SV)):Bb SV:=
 match uJ P t with
 |none=>none|some z=>match P.underlying t with
  |some (.struct d)=>match hU P d.toList with
   |some f=>match uH (λi=>f[i]?) z a with
    |some b=>some<|.w b|none=>none
   |none=>none
  |some (.array _ e)=>match P.info? e with
   |some c=>match uH (λi=>some (i*c.size,c.size)) z a with
    |some b=>some<|.w b|none=>none
   |none=>none
  |_=>none
section
variable {P :Aw}{U:Ab}{Z:Tau}{F:Ac}
def TD (P:Aw)(U:Ab)(Z:Tau)(F:Ac)(f:Fm)(b:Ao):Prop:=∀k a,lk f k=some a->VD P U Z F a ((b.l k).getD undef)
def AB (v:Av):VD P U Z F (gK v) v:=by unfold gK;split;exact .bool<|.bool _;exact .int _<|.w _;rename_i s;exact .str<|.str s.data.toList;exact .nilp;exact .nils;exact .nilf;exact .any _
def gL (l:Af):VDL P U Z F (l.map gK) l:=by refine⟨by simp,λi a x b c=>?_⟩;simp only[XQ,c,XH,WJ]at b;subst b;exact AB x
def NG (v:Av):VD P U Z F (JT v) v:=by unfold JT;split;rename_i a;have h:=gL (P:=P) (U:=U) (Z:=Z) (F:=F) a.toList;exact VD.agg _ a.toList h.1 h.2;rename_i a;have h:=gL (P:=P) (U:=U) (Z:=Z) (F:=F) a.toList;exact VD.tup _ a.toList h.1 h.2;exact AB v
def VDL.q :VDL P U Z F [] []:=⟨rfl,λi a x h _=>by simp at h⟩
def ZK:type_of% @VDL.q:=@VDL.q
variable {a:SV}{l:As}{xs:Af}
theorem VDL.g {x:Av}(h:VD P U Z F a x)(c:VDL P U Z F l xs):VDL P U Z F (a::l) (x::xs):=by
 refine⟨by simp[c.1],λi b y d e=>?_⟩;cases i with
 |zero=>grind|succ i=>exact c.2 i b y d e
def ZJ:type_of% @VDL.g:=@VDL.g
theorem VDL.f (h:VDL P U Z F (a::l) xs):∃y c,xs=y::c/\VD P U Z F a y/\VDL P U Z F l c:=by
 cases xs with
 |nil=>exact absurd h.1 (by simp)|cons y c=>exact⟨y,c,rfl,h.2 0 _ _ rfl rfl,by have:=h.1;simpa using this,λi a b d e=>h.2 (i+1) a b (by grind)<|by grind⟩
def VDL.m {b:Tau}{c:Ac}(f:Tle Z b)(e:Fle F c)(h:VDL P U Z F l xs):VDL P U b c l xs:=⟨h.1,λi a x d g=>(h.2 i a x d g).mono f e⟩
def VDL.p (h:VDL P U Z F l xs){i:Nat}(b:l[i]? =a):∃x,xs[i]? =some x/\VD P U Z F a x:=by
 have d:i<xs.length:=by rw[<-h.1];exact (WM.1 b).1
 exact⟨xs[i],by grind,h.2 i a _ b<|by simp⟩
theorem VDL.C (h:VDL P U Z F l xs)(n:Nat):VDL P U Z F (l.drop n) (xs.drop n):=
 ⟨by simp[h.1],λi a x b c=>h.2 (n+i) a x (by grind)<|by grind⟩
theorem VDL.B (h:VDL P U Z F l xs)(n:Nat):VDL P U Z F (l.take n) (xs.take n):=by refine⟨by simp[h.1],λi a x b c=>?_⟩;rw[Xr]at b c;by_cases d:i<n;rw[Xg d]at b c;exact h.2 i a x b c;grind
def VDL.j {m:As}{c:Af}(h:VDL P U Z F l xs)(k:VDL P U Z F m c):VDL P U Z F (l++m) (xs++c):=by
 induction l generalizing xs with
 |nil=>let⟨b,_⟩:=h;have:=WP b.symm;subst this;exact k
 |cons a l e=>obtain⟨y,f,rfl,b,d⟩:=h.f;exact ZJ b<|e d
def VDL.z {l m:As}{xs a:Af}(h:VDL P U Z F l xs)(k:VDL P U Z F m a)(o:Nat):VDL P U Z F (W6 l o m) (splice xs o a):=by rw[W6,Xe.splice,k.1];exact((h.B o).j k).j (h.C _)
def VDL.w (h:VDL P U Z F l xs):VD P U Z F (.w l) (.agg xs.toArray):= .agg l xs h.1 h.2
def VDL.D (h:VDL P U Z F l xs):VD P U Z F (.A l) (.tuple xs.toArray):= .tup l xs h.1 h.2
variable {v:Av}
def VDL.r (h:VD P U Z F (.w l) v):∃xs:Af,v= .agg xs.toArray/\VDL P U Z F l xs:=by cases h with|agg _ xs a b=>exact⟨xs,rfl,a,b⟩
def ZL:type_of% @VDL.r:=@VDL.r
def VDL.A (h:VD P U Z F (.A l) v):∃xs:Af,v= .tuple xs.toArray/\VDL P U Z F l xs:=by cases h with|tup _ xs a b=>exact⟨xs,rfl,a,b⟩
def PV.one {k:Kd}{d:Dat}(h:PV P F k v d):v.cells= #[v]:=by cases h<;>rfl
def fA (h:VD P U Z F a v)(e:H3 a=l):VDL P U Z F l v.cells.toList:=by
 cases h with
 |any v=>simp[H3]at e|agg r xs g p=>simp only[H3,WJ]at e;subst e;exact⟨by simpa [Value.cells]using g,λi a x w y=>p i a x w<|by simpa [Value.cells]using y⟩|int k x=>simp only[H3,WJ]at e;subst e;exact ZJ (.int k x) ZK|bool x=>simp only[H3,WJ]at e;subst e;exact ZJ (.bool x) ZK|str x=>simp only[H3,WJ]at e;subst e;exact ZJ (.str x) ZK|nilp=>simp only[H3,WJ]at e;subst e;exact ZJ .nilp ZK|ptr b z row d i o h j=>simp only[H3,WJ]at e;subst e;exact ZJ (.ptr b z row d i o h j) ZK|pptr t L row d i o l c h j g=>simp only[H3,WJ]at e;subst e;exact ZJ (.pptr t L row d i o l c h j g) ZK|rp row d j=>simp only[H3,WJ]at e;subst e;exact ZJ (.rp row d j) ZK|rv L z xs h=>simp only[H3,WJ]at e;subst e;exact ZJ (.rv L z xs h) ZK|rpq x v h=>simp only[H3,WJ]at e;subst e;rw[h.one];exact ZJ (.rpq x v h) ZK|nils=>simp only[H3,WJ]at e;subst e;exact ZJ .nils ZK|sl b z off len cap i o c h j g q=>simp only[H3,WJ]at e;subst e;exact ZJ (.sl b z off len cap i o c h j g q) ZK|sl0 b z off len cap h j g q=>simp only[H3,WJ]at e;subst e;exact ZJ (.sl0 b z off len cap h j g q) ZK|lst t L n v h q=>simp only[H3,WJ]at e;subst e;rw[h.one];exact ZJ (.lst t L n v h q) ZK|tup r xs g p=>simp only[H3,WJ]at e;subst e;exact ZJ (.tup r xs g p) ZK|fn f r m xs A g p s u=>simp only[H3,WJ]at e;subst e;exact ZJ (.fn f r m xs A g p s u) ZK|nilf=>simp only[H3,WJ]at e;subst e;exact ZJ .nilf ZK|yld=>simp[H3]at e
theorem P6 {f:Fm}{j:Ao}(h:TD P U Z F f j){o:Az}(e:Q9 f o=some a):∃v,i7 j o=some v/\VD P U Z F a v:=by
 cases o with
 |tmp t=>
  simp only[Q9,WJ]at e;refine⟨_,rfl,?_⟩;cases c:lk f t with
  |none=>rw[c]at e;subst e;exact .any _|some b=>rw[c]at e;subst e;exact h t b c
 |const v=>
  simp only[Q9]at e;cases d:cst v with
  |false=>grind|true=>simp only[d,Xa,WJ]at e;subst e;exact⟨v,by simp[i7,d],NG v⟩
 |global g=>simp[Q9]at e|func g=>simp only[Q9,WJ]at e;subst e;exact⟨_,rfl,.fn _ [] [] [] [] rfl (λi a x h _=>by grind) rfl (λi a x h _=>by grind)⟩
def vX {f:Fm}{g:Ao}(h:TD P U Z F f g):∀ {c:List Az} {l:As},Hw f c=l-> ∃vs,Y8 g c=some vs/\VDL P U Z F l vs
 | [],l,e=>by simp only[Hw,WJ]at e;subst e;exact⟨[],rfl,ZK⟩|o::c,l,e=>by
  simp only[Hw]at e;cases d:Q9 f o with
  |none=>grind|some a=>
   cases b:Hw f c with
   |none=>grind|some n=>simp only[d,b,WJ]at e;subst e;let⟨v,i,j⟩:=P6 h d;let⟨vs,k,m⟩:=vX h b;exact⟨v::vs,by simp[Y8,i,k],ZJ j m⟩
def PVD (P:Aw)(U:Ab)(Z:Tau)(F:Ac):List (Nat×SV)->List (Nat×Av)->Prop
 | [],[]=>True| (i,a)::l,(j,v)::m=>i=j/\VD P U Z F a v/\PVD P U Z F l m|_,_=>False
def lP {f:Fm}{g:Ao}(h:TD P U Z F f g):∀ {c:List (Nat×Az)} {l:List (Nat×SV)},kH f c=l-> ∃vs,aP g c=some vs/\PVD P U Z F l vs
 | [],l,e=>by simp only[kH,WJ]at e;subst e;exact⟨[],rfl,trivial⟩| (i,o)::c,l,e=>by
  simp only[kH]at e;cases d:Q9 f o with
  |none=>grind|some a=>
   cases b:kH f c with
   |none=>grind|some p=>simp only[d,b,WJ]at e;subst e;let⟨v,j,k⟩:=P6 h d;let⟨vs,m,n⟩:=lP h b;exact⟨(i,v)::vs,by simp[aP,j,m],rfl,k,n⟩
def qL {t:Ax}(h:VDL P U Z F l xs){off:Nat}(e:CT P t l off=a):∃v,uP P t xs off=some v/\VD P U Z F a v:=by
 unfold CT at e;unfold uP;split at e;cases e
 .rename_i d c;rw[c];cases b:bP d with
  |true=>simp only[b,Xa]at e⊢;split at e;rename_i i j;simp at e;subst e;exact⟨_,by grind,((h.C off).B i.size).w⟩;cases e
  |false=>simp only[b,Xb]at e⊢;let⟨x,f,g⟩:=h.p e;grind
def NK {t:Ax}(h:VD P U Z F a v){f:Nat}{b:SV}(e:JX P t a f=b):∃u,Bj P t v f=some u/\VD P U Z F b u:=by unfold JX at e;unfold Bj;split at e;rename_i k d;split at e;rename_i j c;split at e;rename_i i;obtain⟨xs,rfl,g⟩:=ZL h;obtain⟨u,l,m⟩:=qL g e;grind;cases e;cases e;cases e
def Hx (h:VD P U Z F a v){i:Nat}{b:SV}(e:AF a i=b):∃u,cG v i=some u/\VD P U Z F b u:=by unfold AF at e;split at e;obtain⟨xs,rfl,f⟩:=VDL.A h;let⟨u,c,d⟩:=f.p e;exact⟨u,by simpa [cG]using c,d⟩;cases e
def kD {b:Nat->Bb (Nat×Nat)}:∀ {k:List (Nat×SV)} {m:List (Nat×Av)} {l:As} {xs:Af} {r:As},VDL P U Z F l xs->PVD P U Z F k m->uH b l k=r-> ∃o,nC b xs m=some o/\VDL P U Z F r o
 | [],[],l,xs,r,h,_,e=>by simp only[uH,WJ]at e;subst e;exact⟨xs,rfl,h⟩| (i,a)::k,(j,v)::m,l,xs,r,h,c,e=>by
  obtain⟨rfl,hv,d⟩:=c;simp only[uH]at e;split at e;cases e
  .rename_i off size f;split at e;cases e
   .rename_i vs g;have n:=fA hv g;simp only[nC,f];rw[n.1,h.1]at e;cases p:Nat.beq v.cells.toList.length size&&Nat.ble (off+size) xs.length with
    |false=>grind|true=>simp only[p,Xa]at e⊢;exact kD (h.z n off) d e
 | [],_::_,l,xs,r,h,c,e=>c.elim|_::_,[],l,xs,r,h,c,e=>c.elim
def fC {t:Ax}(e:uJ P t=l):∃z,T5 P t=some z/\VDL P U Z F l z.cells.toList:=by unfold uJ at e;split at e;rename_i z a;simp at e;subst e;exact⟨z,a,gL _⟩;cases e
theorem NF {t:Ax}{g:List (Nat×SV)}{i:List (Nat×Av)}(h:PVD P U Z F g i)(e:JS P t g=some a):∃v,oN P t i=some v/\VD P U Z F a v:=by unfold JS at e;unfold oN;split at e;cases e;rename_i l o;obtain⟨z,k,f⟩:=fC o;rw[k];split at e;rename_i s d;split at e;rename_i w p;split at e;rename_i j b;simp at e;rw[<-e];obtain⟨r,m,c⟩:=kD f h b;exact⟨_,by grind,c.w⟩;cases e;cases e;rename_i u d;split at e;rename_i q n;split at e;rename_i j b;simp at e;rw[<-e];obtain⟨r,m,c⟩:=kD f h b;exact⟨_,by grind,c.w⟩;cases e;cases e;cases e
end
def rng (e:E)(k:IntKind):E:=Lx (A4<|A5 e<|.w k.min)<|A5 e<|.w<|k.max+1
def Qg (a b:E):E:=match a,b with
 | .w m,.w n=>.w<|m.tdiv n|a,b=>.C .R [a,b]
def Qh (a b:E):E:=match a,b with
 | .w m,.w n=>.w<|m.tmod n|a,b=>.C .tmod [a,b]
def Jd (a b:E):E:=match a,b with
 | .str p,.str q=>.str<|p++q|a,b=>.C .sapp [a,b]
def dQ (a:E):E:=match a with
 | .str p=>.w p.length|a=>.C .A [a]
def Cz (a b:E):E:=match a,b with
 | .str p,.str q=>.bool<|Op.bytesLess p q|a,b=>.C .lts [a,b]
section
variable (P :Aw)(U:Ab)
def yM (k:IntKind)(e:E):M SV:=match e with
 | .w n=>i6<|.f k<|.w<|k.wrap n|e=>bif decide (k= .i64)then d8 (u6 U<|rng e .i64) λ_=>i6 (.f k e)else i6 (.f k<|.C (.C k) [e])
def scmp (op:BinOp)(a b:E):Bb E:=
 match op with
 | .eql=>some<|I4 a b| .neq=>some<|A4<|I4 a b| .lss=>some<|A5 a b| .leq=>some<|A4<|A5 b a| .gtr=>some<|A5 b a| .geq=>some<|A4<|A5 a b|_=>none
def JR (op:BinOp)(k:IntKind)(a b:E):M SV:=
 match op with
 | .add=>yM U k<|A3 a b| .sub=>yM U k<|Q8 a b| .mul=>yM U k<|Qf a b| .quo=>d8 (u6 U<|A4<|I4 b<|.w 0) λ_=>yM U k<|Qg a b
 | .rem=>d8 (u6 U<|A4<|I4 b<|.w 0) λ_=>i6<|.f k<|Qh a b
 |op=>match scmp op a b with|some c=>i6<|.j c|none=>c9 "arith"
def sshr (op:BinOp)(k:IntKind)(a b:E):M SV:=
 match op with
 | .shr=>d8 (u6 U<|A4<|A5 b<|.w 0) λ_=>i6<|.f k<|.C (.shr k) [a,b]
 |_=>c9 "kinds"
def sstr (op:BinOp)(a b:E):M SV:=
 match op with
 | .add=>d8 (u6 U<|A5 (A3 (dQ a)<|dQ b)<|.w 1000000001) λ_=>i6<|.p<|Jd a b
 | .eql=>i6<|.j<|pR a b| .neq=>i6<|.j<|A4<|pR a b| .lss=>i6<|.j<|Cz a b| .leq=>i6<|.j<|mkOr (Cz a b)<|pR a b| .gtr=>i6<|.j<|A4<|mkOr (Cz a b)<|pR a b| .geq=>i6<|.j<|A4<|Cz a b|_=>c9 "str"
def JW (c:Ax->SV->SV->Bb E)(xs d:As):List Field->Bb E
 | []=>some<|.bool true|f::e=>bif f.name== "_" then JW c xs d e else
  match CT P f.type xs f.offset,CT P f.type d f.offset with
  |some a,some b=>match c f.type a b,JW c xs d e with
   |some p,some q=>some<|Lx p q|_,_=>none
  |_,_=>none
def nZ :SV->Bool
 | .g _ _ _ _| .B _ _ _ _| .J _ _=>true
 |_=>false
def EN (size:Nat)(x y:SV):Bb E:=
 match x,y with
 | .C,.C=>some<|.bool true| .I e,.C=>some<|I4 e<|.w<|-1| .C,.I e=>some<|I4 e<|.w<|-1| .C,y=>bif nZ y then some (.bool false)else none|x,.C=>bif nZ x then some (.bool false)else none| .g b z row d,.g f g c a=>bif Nat.beq b f&&Nat.beq z g&&Nat.beq d a&&Nat.ble 1 z&&Nat.ble 1 size then some (I4 row c)else none|_,_=>none
def Mh (x y:SV):Bb E:=
 match x,y with
 | .q,.q=>some<|.bool true|_,_=>none
def Mg (x y:SV):Bb E:=
 match x,y with
 | .D,.D=>some<|.bool true| .D,.H _ _ _=>some<|.bool false| .H _ _ _,.D=>some<|.bool false|_,_=>none
def BA :Nat->Ax->SV->SV->Bb E
 |0,_,_,_=>none|d+1,t,x,y=>match P.underlying t with
  |some .bool=>match x,y with
   | .j a,.j b=>some<|Ly a b|_,_=>none
  |some (.int _)=>match x,y with
   | .f k a,.f h b=>bif decide (k=h)then some (I4 a b)else none|_,_=>none
  |some .string=>match x,y with
   | .p a,.p b=>some<|pR a b|_,_=>none
  |some (.pointer e)=>match P.info? e with
   |some g=>EN g.size x y|none=>none
  |some (.struct f)=>match x,y with
   | .w xs,.w c=>bif P.stoodInHeld t then none else JW P (BA d) xs c f.toList|_,_=>none
  |some (.array n e)=>match x,y with
   | .w xs,.w c=>match P.info? e with
    |some _=>JW P (BA d) xs c<|aFs P e<|List.range n|none=>none
   |_,_=>none
  |some (.slice _)=>Mh x y|some (.func _ _ _)=>Mg x y|_=>none
def gM (t:Ax):SV->Bool
 | .r=>false| .w _=> !P.eqGuardType P.depth t|_=>true
def sbin (op:BinOp)(t:Ax)(x y:SV):M SV:=
 match x,y with
 | .f k a,.f c b=>bif decide (k=c)then JR U op k a b else sshr U op k a b| .p a,.p b=>sstr U op a b|x,y=>match op with
  | .eql=>bif gM P t x then match BA P 10000 t x y with
   |some b=>i6<|.j b|none=>c9 "eq" else c9 "eq guard"
  | .neq=>bif gM P t x then match BA P 10000 t x y with
   |some b=>i6<|.j<|A4 b|none=>c9 "eq" else c9 "eq guard"
  |_=>c9 "binop"
def snil (len:E):M SV:=λs=>.A .b s.m λd=>
 .I d (.z (.e<|I4 len<|.w 0) ((I4 len<|.w 0).I U)<|.j (.j<|.bool true,addF {s with m:=s.m+1} (I4 len<|.w 0) true)) (.j (.j<|.bool false,{s with m:=s.m+1}))
def Gz (op:BinOp)(t:Ax)(x y:SV):Bb E:=match P.underlying t with
 |some (.slice _)=>match op,x,y with
  | .eql,.z _ _ _ len _,.q=>some len| .eql,.m _ L _,.q=>some<|C2 L|_,_,_=>none
 |_=>none
def Ra (op:BinOp)(t:Ax)(x y:SV):M SV:=match Gz P op t x y with
 |some len=>snil U len|none=>sbin P U op t x y
def srune :M SV:=λs=>.A .s s.m λd=>.z (.e<|A5 (.C .A [d])<|.w 5) ((A5 (.C .A [d])<|.w 5).I U)<|.j (.p d,{s with m:=s.m+1})
def Re (src a:Ax)(x:SV):M SV:=
 match P.underlying src with
 |none=>c9 "conv"|some _=>match P.underlying a,x with
  |some (.int k),.f b e=>match e with
   | .w n=>i6<|.f k<|.w<|k.wrap n|e=>bif Nat.blt k.bits b.bits then i6 (.f k<|.C (.C k) [e])else d8 (u6 U<|rng e k) λ_=>i6<|.f k e
  |some .string,.p s=>i6<|.p s|some .string,.f _ _=>srune U|_,_=>c9 "conv"
def sun (op:UnOp)(x:SV):M SV:=
 match op,x with
 | .neg,.f k e=>yM U k<|Q8 (.w 0) e| .not,.j b=>i6<|.j<|A4 b|_,_=>c9 "unop"
def Rt (c:Bool):SV->As->M SV
 |v,[]=>match v with
  | .f k n=>i6<|.f k n|_=>c9 "min"
 |v,y::d=>match v,y with
  | .f k a,.f _ b=>d8 (jM U (bif c then A5 a b else A5 b a)) λt=>Rt c (.f k (bif t then b else a)) d
  |_,_=>c9 "min"
end
section
variable {P :Aw}{U:Ab}{Z:Tau}{F:Ac}
variable {k:IntKind}{n:Int}
def wB (a:k.min<=n)(b:n<=k.max):k.wrap n=n:=by rw[IntKind.wrap];rw[IntKind.min] at a;rw[IntKind.max] at b;cases k<;>simp[IntKind.signed,IntKind.bits]at a b⊢ <;>omega
def QT {e:E}(h:(rng e k).I U):k.wrap (e.j U)=e.j U:=by rw[Zb,rng,Cv,J3,J5,J5]at h;simp at h;simp only[D5]at h;exact wB (by omega) (by omega)
def Na (a b:E):(Qg a b).j U=(a.j U).tdiv (b.j U):=by unfold Qg;split<;>rfl
def Nc (a b:E):(Qh a b).j U=(a.j U).tmod (b.j U):=by unfold Qh;split<;>rfl
def Je (a b:E):((Jd a b).A U).g=(a.A U).g++(b.A U).g:=by unfold Jd;split<;>rfl
def T9 (a:E):(dQ a).j U=((a.A U).g.length:Int):=by unfold dQ;split<;>rfl
def lB (a b:E):((Cz a b).A U).f=Op.bytesLess (a.A U).g (b.A U).g:=by unfold Cz;split<;>rfl
def VD.int' {e:E}(h:e.j U=n):VD P U Z F (.f k e) (.int k n):=by subst h;exact .int k e
def ZH:type_of% @VD.int':=@VD.int'
def VD.bool' {e:E}{b:Bool}(h:(e.A U).f=b):VD P U Z F (.j e) (.bool b):=by subst h;exact .bool e
def ZG:type_of% @VD.bool':=@VD.bool'
variable {s:SS}
def jN {e:E}(h:e.j U=n):OKp U (yM U k e) s λa=>VD P U Z F a (.int k<|k.wrap n):=by subst h;unfold yM;split;exact Zq<|.int k<|.w _;by_cases b:k= .i64;subst b;simp;exact OKp.g.f λ_ d _ _ c=>Zq<|ZH (QT c).symm;simp only[b,decide_false,Xb];exact Zq<|.int k<|.C (.C k) [_]
def LG {b:E}(h:(A4<|I4 b<|.w 0).I U):¬b.j U=0:=by rwa[Zb,J3,H8,XI,XM]at h
def Tz {op:BinOp}{a b c:E}(h:scmp op a b=c):mO op (a.j U) (b.j U)=some (.bool (c.A U).f):=by unfold scmp at h;split at h<;>simp at h<;>subst h<;>simp only[mO,J3,J5,H8,WJ,Value.bool.injEq];grind;grind
def NE {op:BinOp}{a b:E}:OKp U (JR U op k a b) s λc=>∃v,K4 op k (a.j U) (b.j U)=some v/\VD P U Z F c v:=by
 unfold JR;split;exact(jN<|l9 a b).j λc h=>⟨_,rfl,h⟩
 exact(jN<|z6 a b).j λc h=>⟨_,rfl,h⟩
 exact(jN<|MZ a b).j λc h=>⟨_,rfl,h⟩
 .refine OKp.g.f λ_ f _ _ d=>(jN<|Na a b).j λc h=>⟨_,?_,h⟩
  simp[K4,LG d]
 refine OKp.g.f λ_ f _ _ d=>Zq ⟨_,?_,ZH<|Nc a b⟩;simp[K4,LG d]
 .split;next c e=>refine Zq ⟨_,?_,.bool c⟩;rw[<-Tz e];cases op<;>first|rfl| (exact absurd rfl<|by omega)
  exact Zl
def aZ {b:E}(h:(A4<|A5 b<|.w 0).I U):0<=b.j U:=by rw[Zb,J3,J5,XI,XM]at h;exact Int.not_lt.1 h
def VD.str' {e:E}{l:Ae}(h:(e.A U).g=l):VD P U Z F (.p e) (.string ⟨l.toArray⟩):=by subst h;exact .str e
def TG {op:BinOp}{a b:E}:OKp U (sstr U op a b) s λc=>∃v,Sr op ⟨(a.A U).g.toArray⟩ ⟨(b.A U).g.toArray⟩=some v/\VD P U Z F c v:=by unfold sstr;split;refine OKp.g.f λ_ f _ _ d=>?_;rw[Zb,J5,l9,T9,T9]at d;simp at d;simp only[D5]at d;refine Zq ⟨_,?_,VD.str'<|Je a b⟩;have e:Nat.ble ((a.A U).g.length+(b.A U).g.length) 1000000000=true:=WQ (by omega);simp only[Sr,e,Xa];exact Zq ⟨.bool<|(a.A U).g==(b.A U).g,rfl,ZG<|Y4 a b⟩;exact Zq ⟨.bool<|!((a.A U).g==(b.A U).g),rfl,ZG<|by rw[J3,Y4]⟩;exact Zq ⟨.bool<|Op.bytesLess (a.A U).g (b.A U).g,rfl,ZG<|lB a b⟩;exact Zq ⟨.bool<|Op.bytesLess (a.A U).g (b.A U).g|| (a.A U).g==(b.A U).g,rfl,ZG<|by rw[GI,lB,Y4]⟩;exact Zq ⟨.bool<|!(Op.bytesLess (a.A U).g (b.A U).g|| (a.A U).g==(b.A U).g),rfl,ZG<|by rw[J3,GI,lB,Y4]⟩;exact Zq ⟨.bool<|!Op.bytesLess (a.A U).g (b.A U).g,rfl,ZG<|by rw[J3,lB]⟩;exact Zl
def vV {j:Ax->SV->SV->Bb E}{n:Ax->Av->Av->Bb Bool}(h:∀t a b v u c,VD P U Z F a v->VD P U Z F b u->j t a b=some c->n t v u=(c.A U).f){l m:As}{xs o:Af}(g:VDL P U Z F l xs)(i:VDL P U Z F m o):∀ {d:List Field} {c:E},JW P j l m d=some c->Fy P n xs o d=(c.A U).f
 | [],c,e=>by simp only[JW,WJ]at e;subst e;rfl|f::d,c,e=>by
  simp only[JW]at e;simp only[Fy];cases k:f.name== "_" with
  |true=>simp only[k,Xa]at e⊢;exact vV h g i e|false=>
   simp only[k,Xb]at e⊢;split at e
   .rename_i a b y z;split at e
    .rename_i p q A C;simp at e;subst e;let⟨v,r,s⟩:=qL g y;let⟨u,w,x⟩:=qL i z;simp only[r,w,h _ _ _ _ _ _ s x A];rw[Cv];cases B:(p.A U).f with
     |true=>exact vV h g i C|false=>rfl
    cases e
   cases e
variable {a:SV}{v:Av}
def CJ (h:VD P U Z F a v)(e:nZ a):∃p,v= .pointer (some p):=by cases h<;>first|exact⟨_,rfl⟩| (simp[nZ]at e)
variable {x y:SV}{u:Av}{d:Nat}
theorem NJ {size:Nat}(f:VD P U Z F x v)(g:VD P U Z F y u){c:E}(e:EN size x y=c){t B:Ax}(a:P.underlying t=some (.pointer B)){A:Ba}(G:P.info? B=A)(L:A.size=size):xeq P (d+1) t v u=(c.A U).f:=by
 unfold EN at e;split at e;simp only[WJ]at e;subst e;cases f;cases g;simp[xeq,a];rfl
 .rename_i q;simp only[WJ]at e;subst e;cases g;rw[H8,D5];cases f with
  |rpq _ _ h=>
  generalize H:q.j U=m at h;cases h with
  |rp k=>rw[show decide ((k:Int)= -1)=false from Yr<|by omega];simp[xeq,a]|rpn=>simp[xeq,a]
 .rename_i q;simp only[WJ]at e;subst e;cases f;rw[H8,D5];cases g with
  |rpq _ _ h=>
  generalize H:q.j U=m at h;cases h with
  |rp k=>rw[show decide ((k:Int)= -1)=false from Yr<|by omega];simp[xeq,a]|rpn=>simp[xeq,a]
 .cases l:nZ y with
  |false=>grind|true=>simp only[l,Xa,WJ]at e;subst e;obtain⟨p,rfl⟩:=CJ g l;cases f;simp[xeq,a];rfl
 .cases l:nZ x with
  |false=>grind|true=>simp only[l,Xa,WJ]at e;subst e;obtain⟨p,rfl⟩:=CJ f l;cases g;simp[xeq,a];rfl
 .rename_i b z row r C J n j;cases w:Nat.beq b C&&Nat.beq z J&&Nat.beq r j&&Nat.ble 1 z&&Nat.ble 1 size with
  |false=>grind|true=>
   simp only[w,Xa,WJ]at e;subst e;simp only[WK,Xy,XX]at w;obtain⟨⟨⟨⟨rfl,rfl⟩,rfl⟩,M⟩,I⟩:=w;cases f with
   |ptr _ _ _ _ i o h K=>
    cases g with
    |ptr _ _ _ _ N O s D=>
     rw[h]at s;simp only[WJ,WL]at s;obtain⟨rfl,rfl⟩:=s;simp only[xeq,a,w9,Xa,G];rw[B0<|by omega,Xb,H8];congr 1;rw[Bool.eq_iff_iff];simp only[Xy,Xf];constructor
     .intro h;have:row.r U*z=n.r U*z:=by omega
      have:=Nat.eq_of_mul_eq_mul_right (by omega) this;grind
     grind
 cases e
def VD.not_int (h:VD P U Z F a (.int k n)):a= .r\/ ∃e,a= .f k e:=by
 cases h with
 |any=>grind|int k e=>grind|rpq x v h=>cases h
 |lst t L b v h c=>cases h
def VD.not_str {s:ByteArray}(h:VD P U Z F a (.string s)):a= .r\/ ∃e,a= .p e:=by
 cases h with
 |any=>grind|str e=>grind|rpq x v h=>cases h
 |lst t L b v h c=>cases h
def VD.not_complex {f:FloatKind}{m n:Nat}(h:VD P U Z F a (.complex f m n)):a= .r:=by
 cases h with
 |any=>rfl|rpq x v h=>cases h
 |lst t L b v h c=>cases h
def Rk (b:VD P U Z F x v)(f:VD P U Z F y u){c:E}(e:Mh x y=c){t g:Ax}(a:P.underlying t=some (.slice g)):xeq P (d+1) t v u=(c.A U).f:=by unfold Mh at e;split at e<;>simp at e<;>subst e<;>cases b<;>cases f<;>simp[xeq,a]<;>rfl
def Rj (f:VD P U Z F x v)(g:VD P U Z F y u){c:E}(e:Mg x y=c){t:Ax}{h i:Array Ax}{b:Bool}(a:P.underlying t=some (.func h i b)):xeq P (d+1) t v u=(c.A U).f:=by unfold Mg at e;split at e<;>simp at e<;>subst e<;>cases f<;>cases g<;>simp[xeq,a]<;>rfl
def vW :∀(d:Nat) (t:Ax) (a b:SV) (v u:Av) (c:E),VD P U Z F a v->VD P U Z F b u->BA P d t a b=c->xeq P d t v u=(c.A U).f
 |0,t,a,b,v,u,c,g,h,e=>by simp[BA]at e|d+1,t,a,b,v,u,c,g,h,e=>by
  simp only[BA]at e;split at e;rename_i f;split at e;simp only[WJ]at e;subst e;cases g;cases h;simp only[xeq,f,Cw];cases e;rename_i f;split at e;rename_i k x r y;by_cases o:k=r;simp only[o,XZ,Xa,WJ]at e;subst e;subst o;cases g;cases h;simp only[xeq,f,H8,XZ,Xa];grind;cases e;rename_i f;split at e;simp only[WJ]at e;subst e;cases g;cases h;simp only[xeq,f,Y4];cases e;rename_i B f;split at e;rename_i A m;exact NJ g h e f m rfl;cases e
  .rename_i z f;split at e
   .rename_i xs C;cases p:P.stoodInHeld t with
    |true=>grind|false=>simp only[p,Xb]at e;obtain⟨vs,rfl,j⟩:=ZL g;obtain⟨s,rfl,l⟩:=ZL h;simp only[xeq,f,p,Xb];exact vV (vW d) j l e
   cases e
  rename_i n w f;split at e;split at e;rename_i i q;obtain⟨vs,rfl,j⟩:=ZL g;obtain⟨s,rfl,l⟩:=ZL h;simp only[xeq,f,q];exact vV (vW d) j l e;cases e;cases e;rename_i f;exact Rk g h e f;rename_i f;exact Rj g h e f;cases e
def PV.guard {k:Kd}{d:Dat}(h:PV P F k v d)(t:Ax):R6 P t v:=by cases h<;>rfl
def lM {t:Ax}(h:VD P U Z F a v)(e:gM P t a):R6 P t v:=by
 cases h with
 |any=>simp[gM]at e|yld=>first|exact e|rfl|simp[gM,R6]at e⊢
 |agg l xs c d=>exact e|lst g L b v h f=>exact h.guard t|rpq x v h=>exact h.guard t|_=>rfl
def W8 {op:BinOp}{t:Ax}{w:Av}(h:aO P op t v u=w):M3 P op t v u=w:=by rw[M3,h]
def Y7 {op:BinOp}{t:Ax}(d:∀k a c b,v= .int k a->u= .int c b->False)(e:∀a b,v= .string a->u= .string b->False)(g:∀f m n,u= .complex f m n->False):aO P op t v u=match op with
  | .eql=>bif R6 P t v then match xeq P 10000 t v u with
   |some b=>some<|.bool b|none=>none else none
  | .neq=>bif R6 P t v then match xeq P 10000 t v u with
   |some b=>some<|.bool<|!b|none=>none else none
  |_=>none:=by
 unfold aO;grind
def RZ {op:BinOp}{t:Ax}{a b:Int}(h:K4 op k a b=v):aO P op t (.int k a) (.int k b)=v:=by simp only[aO,XZ,Xa];exact h
def Tx {op:BinOp}{t:Ax}{b:SV}(g:VD P U Z F a v)(i:VD P U Z F b u):OKp U (sbin P U op t a b) s λc=>∃w,M3 P op t v u=some w/\VD P U Z F c w:=by
 unfold sbin;split
 .rename_i k x r y;cases g;cases i;by_cases D:k=r;subst D;simp only[XZ,Xa];exact NE.j λc ⟨w,B,C⟩=>⟨w,W8<|RZ B,C⟩
  simp only[D,decide_false,Xb];unfold sshr;split;exact OKp.g.f λ_ Q _ _ L=>Zq ⟨_,W8 (by have:=aZ L;simp only[aO,D,xshr,decide_false,Xb,show¬y.j U<0 by omega];rfl),ZH rfl⟩;exact Zl
 cases g;cases i;exact TG.j λc ⟨w,B,C⟩=>⟨w,W8 B,C⟩
 .rename_i M O;have o:∀c,gM P t a->BA P 10000 t a b=some c->(∀k p r q,v= .int k p->u= .int r q->False)/\(∀p q,v= .string p->u= .string q->False)/\(∀f m n,u= .complex f m n->False):=by
   intro c j N;have J:a≠ .r:=λe=>by subst e;simp[gM]at j
   have I:b≠ .r:=by
    intro e;have:∀d,BA P (d+1) t a .r=none:=λd=>by simp only[BA];split<;>(try (split<;>first|rfl| (next h=>cases h)|skip));all_goals (first| (unfold EN;split<;>first|rfl| (next h=>cases h;done)| (simp[nZ]))| (unfold Mh;split<;>first|rfl| (next h=>cases h;done))| (unfold seqOther;split<;>first|rfl| (next h=>cases h;done))| (unfold Mg;split<;>first|rfl| (rename_i h;cases h;done))|simp_all)
    grind
   refine⟨λk p r q z A=>?_,λp q z A=>?_,λf m n e=>?_⟩;subst z;subst A;obtain⟨e,rfl⟩:=g.not_int.resolve_left J;obtain⟨K,rfl⟩:=i.not_int.resolve_left I;grind;subst z;subst A;obtain⟨e,rfl⟩:=g.not_str.resolve_left J;obtain⟨K,rfl⟩:=i.not_str.resolve_left I;grind;subst e;exact I i.not_complex
  split
  .cases j:gM P t a with
   |false=>exact Zl|true=>split;rename_i c l;let⟨E,G,H⟩:=o c j l;refine Zq ⟨_,W8 ?_,.bool c⟩;rw[Y7 E G H];simp only[lM g j,Xa,vW _ _ _ _ _ _ _ g i l];exact Zl
  .cases j:gM P t a with
   |false=>exact Zl|true=>split;rename_i c l;let⟨E,G,H⟩:=o c j l;refine Zq ⟨_,W8 ?_,ZG<|J3 c⟩;rw[Y7 E G H];simp only[lM g j,Xa,vW _ _ _ _ _ _ _ g i l];exact Zl
  exact Zl
def Rb {op:BinOp}{t:Ax}{b:SV}(g:VD P U Z F a v)(A:VD P U Z F b u):OKp U (Ra P U op t a b) s λc=>∃w,M3 P op t v u=some w/\VD P U Z F c w:=by
 unfold Ra;split
 .rename_i len h;unfold Gz at h;split at h
  .rename_i C x;split at h
   .rename_i I z off f cap;simp only[WJ]at h;subst h;have m:R6 P t v:=lM g rfl;cases A;intro Q q j;cases g with
    |sl _ _ _ _ _ i o c k y G H=>refine⟨_,_,(q false).2 (λh=>by cases h),⟨rfl,rfl,⟨[],rfl⟩,rfl⟩,j,.bool false,W8 ?_,.bool<|.bool false⟩;rw[Y7 (λ_ _ _ _ h=>by grind) (λ_ _ h=>by grind) (λ_ _ _ h=>by grind)];simp only[m,Xa];simp[xeq,x]|sl0 _ _ _ _ _ k y G H=>have n:(I4 f<|.w 0).I U:=(Zb U _).2 (by rw[H8];simp only[G];rfl);refine⟨_,_,(q true).1 ((Zb U _).2 rfl) n,⟨rfl,rfl,⟨[(I4 f<|.w 0,true)],rfl⟩,rfl⟩,j.f<|(Zb U _).1 n,.bool true,W8 ?_,.bool<|.bool true⟩;rw[Y7 (λ_ _ _ _ h=>by grind) (λ_ _ h=>by grind) (λ_ _ _ h=>by grind)];simp only[m,Xa];simp[xeq,x]
   .rename_i C L D;cases h;have m:R6 P t v:=lM g rfl;cases A;intro Q q j;cases g with
    |lst _ _ _ _ p _=>
     have B:∀(v:Av) (d:Dat),PV P F (.f C) v d->v= .slice none 0 0->d.m=[]:=λv d h e=>by
      cases h with
      |N=>rfl|L=>rfl|sl=>cases e
     have r:∀(v:Av) (d:Dat),PV P F (.f C) v d->v= .slice none 0 0\/ ∃a l c,v= .slice (some a) l c:=λv d h=>by
      cases h with
      |N=>grind|L=>grind|sl=>grind
     by_cases hv:v= .slice none 0 0
     .subst hv;have hL:(L.z U).length=0:=by rw[show L.z U=[]from (B _ (.l<|L.z U) p rfl)];rfl
      have n:=(Zb U _).2 (by rw[H8];show decide ((C2 L).j U=(E.w 0).j U);rw[j5,hL];rfl);refine⟨_,_,(q true).1 ((Zb U _).2 rfl) n,⟨rfl,rfl,⟨[(I4 (C2 L)<|.w 0,true)],rfl⟩,rfl⟩,j.f<|(Zb U _).1 n,.bool true,W8 ?_,.bool<|.bool true⟩;rw[Y7 (λ_ _ _ _ h=>by grind) (λ_ _ h=>by grind) (λ_ _ _ h=>by grind)];simp only[m,Xa];simp[xeq,x]
     obtain⟨a,l,c,rfl⟩:=(r _ _ p).resolve_left hv;refine⟨_,_,(q false).2 (λh=>by cases h),⟨rfl,rfl,⟨[],rfl⟩,rfl⟩,j,.bool false,W8 ?_,.bool<|.bool false⟩;rw[Y7 (λ_ _ _ _ h=>by grind) (λ_ _ h=>by grind) (λ_ _ _ h=>by grind)];simp only[m,Xa];simp[xeq,x]
   cases h
  cases h
 exact Tx g A
def SM (r:Int):(Utf8.encode r).data.toList.length<=4:=by rw[Utf8.encode];grind
def Rg {src f:Ax}(h:VD P U Z F a v):OKp U (Re P U src f a) s λc=>∃w,qU P src f v=some w/\VD P U Z F c w:=by
 unfold Re;split;exact Zl
 .rename_i d g;split
  .rename_i k m e b;cases h;split;next n=>exact Zq ⟨.int k<|k.wrap n,by simp only[qU,g,b];rfl,ZH rfl⟩
   .cases Nat.blt k.bits m.bits with
    |true=>exact Zq ⟨.int k<|k.wrap<|e.j U,by simp only[qU,g,b],ZH rfl⟩|false=>exact OKp.g.f λ_ o _ _ j=>Zq ⟨.int k<|k.wrap<|e.j U,by simp only[qU,g,b],ZH (QT j).symm⟩
  rename_i e b;cases h;exact Zq ⟨_,by simp only[qU,g,b],.str e⟩;rename_i e b;cases h;intro Q l i;exact⟨_,_,l (Utf8.encode<|e.j U).data.toList<|(Zb U _).2<|by exact decide_eq_true (by have:=SM<|e.j U;show((Utf8.encode<|e.j U).data.toList.length:Int)<5;omega),⟨rfl,rfl,⟨[],rfl⟩,rfl⟩,i,.string<|Utf8.encode<|e.j U,by simp only[qU,g,b,Sq],.str<|.B _<|.s _⟩;exact Zl
def Wn {op:UnOp}(b:VD P U Z F a v):OKp U (sun U op a) s λc=>∃w,xun op v=some w/\VD P U Z F c w:=by
 unfold sun;split;cases b;exact(jN<|z6 _ _).j λc h=>⟨_,rfl,h⟩
 cases b;exact Zq ⟨_,rfl,ZG<|J3 _⟩;exact Zl
def Mn {big:Bool}:∀ {l:As} {xs:Af} {a:SV} {v:Av} {s:SS},VD P U Z F a v->VDL P U Z F l xs->OKp U (Rt U big a l) s λc=>∃w,Bm big v xs=some w/\VD P U Z F c w
 | [],xs,a,v,s,f,g=>by have:=WP g.1.symm;subst this;unfold Rt;split;cases f;exact Zq ⟨_,rfl,.int _ _⟩;exact Zl
 |b::l,xs,a,v,s,f,g=>by
  obtain⟨y,n,rfl,i,h⟩:=g.f;unfold Rt;split
  .rename_i k x m z;cases f;cases i;refine OKp.p.f λt j _ _ d=>?_;have e:(bif big then(bif decide (x.j U<z.j U)then z.j U else x.j U)else(bif decide (z.j U<x.j U)then z.j U else x.j U))=(bif t then z else x).j U:=by cases big;simp only[Xb,J5]at d⊢;rw[d];cases t<;>rfl;simp only[Xa,J5]at d⊢;rw[d];cases t<;>rfl
   have:=Mn (big:=big) (s:=j) (ZH (k:=k) e.symm) h;exact this
  exact Zl
end
section
variable {P :Aw}{U:Ab}
structure Ext (τ:Tau)(F:Ac)(s:SS)(hp:Hp)(τ':Tau)(F':Ac)(s':SS)(hp':Hp):Prop where
 t:Tle τ τ'
 f:Fle F F'
 q:hp.d<=hp'.d
 r:s.g<=s'.g
 A:∀b,b<s.g->τ' b=τ b
 w:∀b x,s'.f b=some x->b<s.g-> ∃y,s.f b=some y
 B:∃l,s'.h=l++s.h/\(∀i,i<hp.d->(∀b x o,s.f b=some x->τ b=some (some (i,o))->b∈l.map Prod.fst->False)->hp'.m.l i=hp.m.l i)/\
  (∀b i o,s.g<=b->τ' b=some (some (i,o))->hp.d<=i\/ ∃b0 x o0,s.f b0=some x/\τ b0=some (some (i,o0))/\b0∈l.map Prod.fst)/\
  (∀i y,i<hp.d->F' i=some y->F i=some y\/ ∃b o,τ' b=some (some (i,o))/\b∈l.map Prod.fst)/\
  ((∀p∈l,p.2≠none)-> ∀i y,F' i=some y->F i=some y)
 I:∃l,s'.p=l++s.p
 C:∃l,s'.h=l++s.h/\ ∀b c e z i o cs n,s.f b=some (.f c e z)->τ b=some (some (i,o))->i<hp.d->hp.m.l i=some (.cells cs n e z)->(∀x,(b,x)∈l-> ∃c',x=some (.f c' e z)/\c'.length=c.length)->
  ∃cs',hp'.m.l i=some (.cells cs' n e z)/\ ∀j,j<o\/o+c.length<=j->cs'.l j=cs.l j
variable {b:Nat}
def VL {l m:List (Nat×Bb C8)}{c:As}{e z:Nat}{f:C8}(g:(match lk m b with|some x=>x|none=>none)=some f)(i:∃d,f= .f d e z/\d.length=c.length)(h:∀x,(b,x)∈l-> ∃a,x=some (.f a e z)/\a.length=c.length):∃a,(match lk (l++m) b with|some x=>x|none=>none)=some (.f a e z)/\a.length=c.length:=by
 induction l with
 |nil=>grind|cons p l j=>let⟨k,y⟩:=p;rw[Ye,B3];grind
variable {X:Tau}{W:Ac}{V:SS}{hp':Hp}
theorem Ext.O {c:Tau}{F:Ac}{s:SS}{a:Hp}(h:Ext c F s a X W V hp'):∀i,i<a.d->(∀b x o,s.f b=some x->c b=some (some (i,o))->False)->hp'.m.l i=a.m.l i:=by let⟨l,_,d,_⟩:=h.B;grind
theorem Ext.N {d:Tau}{F:Ac}{s:SS}{c:Hp}(h:Ext d F s c X W V hp'):∀b i o,s.g<=b->X b=some (some (i,o))->c.d<=i\/ ∃a x e,s.f a=some x/\d a=some (some (i,e)):=by let⟨l,_,_,f,_⟩:=h.B;grind
variable {x:C8}
def SD.w {d:Tau}{F:Ac}{s:SS}{f:Hp}(h:SD P U d F s f)(e:s.f b=some x):b<s.g:=by
 have:d b≠none:=by rcases h.f b x e with⟨i,o,y,c,_⟩| ⟨c,_⟩<;>rw[c]<;>simp
 exact Nat.lt_of_not_le λa=>this<|h.g b a
def Ext.H {a:Tau}{F:Ac}{s:SS}{d:Hp}(h:SD P U a F s d):Ext a F s d a F s d:=
 ⟨ZE a,Ze F,Xh _,Xh _,λ_ _=>rfl,λb x c _=>⟨x,c⟩,⟨[],rfl,λ_ _ _=>rfl,λb i o c e=>(by rw[h.g b c]at e;cases e),λ_ _ _ h=>.inl h,λ_ _ _ h=>h⟩,⟨[],rfl⟩,⟨[],rfl,λ_ _ _ _ _ _ f _ _ _ _ g _=>⟨f,g,λ_ _=>rfl⟩⟩⟩
variable {S:Ac}
def Ext.g {N u H:Tau}{F O:Ac}{s s1 s2:SS}{w E G:Hp}(h:Ext N F s w u O s1 E)(k:Ext u O s1 E H S s2 G):Ext N F s w H S s2 G:=by
 let⟨R,V,W,a3,X,Y⟩:=h.B;let⟨T,Z,b2,b3,b4,b5⟩:=k.B;refine⟨h.t.f k.t,h.f.g k.f,Ya h.q k.q,Ya h.r k.r,λb d=>?_,λb x d a=>?_,⟨T++R,by rw[Z,V,WX],λi q hn=>?_,λb i o d g=>?_,λi y q A=>?_,λw i y A=>Y (λp h=>w p<|by grind) i y<|b5 (λp h=>w p<|YK _ h) i y A⟩,?_,?_⟩;rw[k.A b<|XW d h.r,h.A b d];let⟨y,A⟩:=k.w b x d<|XW a h.r;exact h.w b y A a;rw[b2 i (XW q h.q) ?_,W i q λb x o d g hm=>hn b x o d g<|by grind];intro b x o d g hm;by_cases a:b<s.g;let⟨y,A⟩:=h.w b x d a;rw[h.A b a]at g;grind;grind
 .have aa:∀b i o,s.g<=b->u b=some (some (i,o))->w.d<=i\/ ∃r x U,s.f r=some x/\N r=some (some (i,U))/\r∈(T++R).map Prod.fst:=by grind
  by_cases a:b<s1.g;rw[k.A b a]at g;grind;obtain v| ⟨r,y,U,v,B,Q⟩:=b3 b i o (Yt a) g;exact .inl<|Ya h.q v;by_cases C:r<s.g;let⟨z,hz⟩:=h.w r y v C;rw[h.A r C]at B;grind;grind
 obtain v| ⟨b,o,v,B⟩:=b4 i y (XW q h.q) A;obtain B| ⟨b,o,B,Q⟩:=X i y q v;grind;exact .inr ⟨b,o,k.t _ _ B,by simp only[XJ,Xv];exact .inr Q⟩;grind;let⟨l,e⟩:=h.I;let⟨m,e'⟩:=k.I;exact⟨m++l,by rw[e',e,WX]⟩
 .obtain⟨l,P,w1⟩:=h.C;obtain⟨m,e2,w2⟩:=k.C;refine⟨m++l,by rw[e2,P,WX],λb c e z i o cs n d g q hg M=>?_⟩;obtain⟨J,g1,g2⟩:=w1 b c e z i o cs n d g q hg λx I=>M x (by grind);obtain⟨c1,D,L⟩:=VL d ⟨c,rfl,rfl⟩ λx I=>M x<|Yy _ I;rw[<-P]at D;obtain⟨K,g3,g4⟩:=w2 b c1 e z i o J n D (h.t _ _ g) (XW q h.q) g1 λx I=>let⟨c',q1,q2⟩:=M x<|YK _ I;⟨c',q1,q2.trans L.symm⟩
  exact⟨K,g3,λj hj=>(g4 j<|by omega).trans<|g2 j hj⟩
def SD.D {f:Tau}{F:Ac}{s:SS}{e:Hp}(h:SD P U f F s e)(d:bO s V)(k:FT U V.p):SD P U f F V e:=
 ⟨λb x a=>h.f b x<|by rw[<-d.f];exact a,λb c x y i o j q a g=>h.A b c x y i o j q (by rw[<-d.f];exact a)<|by rw[<-d.f];exact g,
  h.p,h.C,h.B,λb a=>h.g b<|by rw[<-d.p];exact a,k,λr l=>h.N r<|by rw[<-d.r];exact l⟩
def Ext.L {c:Tau}{F:Ac}{s:SS}{e:Hp}(h:SD P U c F s e)(a:bO s V):Ext c F s e c F V e:=
 ⟨ZE c,Ze F,Xh _,by rw[a.p];exact Xh _,λ_ _=>rfl,λb x d _=>⟨x,by rw[<-a.f];exact d⟩,
  ⟨[],by rw[a.h];rfl,λ_ _ _=>rfl,λb i o d f=>(by rw[h.g b d]at f;cases f),λ_ _ _ h=>.inl h,λ_ _ _ h=>h⟩,a.q,⟨[],by rw[a.h];rfl,λ_ _ _ _ _ _ g _ _ _ _ j _=>⟨g,j,λ_ _=>rfl⟩⟩⟩
def Zd:type_of% @Ext.L:=@Ext.L
variable (P U) in
def OKh {c:Type}(m:M c)(d:Tau)(F:Ac)(s:SS)(b:Hp)(R:c->Tau->(Ac)->Hp->Prop):Prop:=
 ∀Q,(m s).q U Q->SD P U d F s b-> ∃a V,Q (a,V)/\ ∃X W hp',Ext d F s b X W V hp'/\SD P U X W V hp'/\R a X W hp'
variable {Z :Tau}{F:Ac}{s:SS}{Y:Hp}
def OKh.B {c:Type}{a:c}{R:c->Tau->(Ac)->Hp->Prop}(h:R a Z F Y):OKh P U (i6 a) Z F s Y R:=λ_ d b=>⟨a,s,d,Z,F,Y,Ext.H b,b,h⟩
def Zk:type_of% @OKh.B:=@OKh.B
def OKh.r {a:Type}{t:String}{R:a->Tau->(Ac)->Hp->Prop}:OKh P U (c9 t:M a) Z F s Y R:=λ_ b _=>b.elim
def Zi:type_of% @OKh.r:=@OKh.r
def OKp.C {d:Type}{m:M d}{R:d->Prop}(h:OKp U m s R):OKh P U m Z F s Y λa X W hp'=>X=Z/\W=F/\hp'=Y/\R a:=λQ i b=>by let⟨a,V,e,c,f,g⟩:=h Q i b.I;exact⟨a,V,e,Z,F,Y,Zd b c,b.D c f,rfl,rfl,rfl,g⟩
def OKh.g {d:Type}{m:M d}{R c:d->Tau->(Ac)->Hp->Prop}(h:OKh P U m Z F s Y R)(k:∀a X W hp',Tle Z X->Fle F W->R a X W hp'->c a X W hp'):OKh P U m Z F s Y c:=λQ j l=>by let⟨a,V,e,X,W,hp',b,g,i⟩:=h Q j l;exact⟨a,V,e,X,W,hp',b,g,k _ _ _ _ b.t b.f i⟩
def OKh.f {f o:Type}{m:M f}{k:f->M o}{R:f->Tau->(Ac)->Hp->Prop}{j:o->Tau->(Ac)->Hp->Prop}(h:OKh P U m Z F s Y R)(x:∀a X W V hp',Ext Z F s Y X W V hp'->SD P U X W V hp'->R a X W hp'->OKh P U (k a) X W V hp' j):OKh P U (d8 m k) Z F s Y j:=λQ e y=>by rw[d8] at e;rw[ZF]at e;let⟨a,s1,q,g,p,c,l,n,r⟩:=h _ e y;let⟨b,s2,t,i,S,d,u,v,w⟩:=x a g p s1 c l n r Q q n;exact⟨b,s2,t,i,S,d,Ext.g l u,v,w⟩
def OKh.z {a:Type}{k:SS->M a}{R:a->Tau->(Ac)->Hp->Prop}(h:OKh P U (k s) Z F s Y R):OKh P U (z7 k) Z F s Y R:=h
def Zj:type_of% @OKh.z:=@OKh.z
def OKh.q {i n:Type}{m:M i}{k:i->M n}{R:i->Prop}{l:n->Tau->(Ac)->Hp->Prop}(h:OKp U m s R)(w:∀a V,bO s V->SD P U Z F V Y->R a->OKh P U (k a) Z F V Y l):OKh P U (d8 m k) Z F s Y l:=λQ f g=>by rw[d8] at f;rw[ZF]at f;let⟨a,s1,o,d,p,q⟩:=h _ f g.I;have c:=g.D d p;let⟨b,s2,r,j,S,e,t,u,v⟩:=w a s1 d c q Q o c;exact⟨b,s2,r,j,S,e,Ext.g (Zd g d) t,u,v⟩
def Zg:type_of% @OKh.q:=@OKh.q
def OKh.A {j n:Type}{m:M j}{k:j->M n}{R:j->Tau->(Ac)->Hp->Prop}{l:n->Tau->(Ac)->Hp->Prop}(h:OKh P U m Z F s Y R)(u:∀a d g s1 c,Ext Z F s Y d g s1 c->SD P U d g s1 c->R a d g c-> ∀Q,(k a s1).q U Q-> ∃b s2,Q (b,s2)/\ ∃f S e,Ext Z F s Y f S s2 e/\SD P U f S s2 e/\l b f S e):OKh P U (d8 m k) Z F s Y l:=λQ i o=>by rw[d8] at i;rw[ZF]at i;let⟨a,s1,p,d,g,c,q,r,t⟩:=h _ i o;grind
theorem Ext.J {Z:Tau}{F:Ac}{s:SS}{Y a:Hp}(h:Ext Z F s Y X W V hp')(f:hp'.d<=a.d)(B:∀i,i<Y.d->a.m.l i=hp'.m.l i)(u:∀i y,S i=some y->W i=some y)(hf:Fle F S):Ext Z F s Y X S V a:=by
 let⟨l,g,j,k,p,q⟩:=h.B;exact⟨h.t,hf,Ya h.q f,h.r,h.A,h.w,(by grind),h.I,
  let⟨l,d,D⟩:=h.C;⟨l,d,λb c e z i o r n v C x w A=>by grind⟩⟩
variable {y:Blk}
def Ext.D {Z:Tau}{F:Ac}{s:SS}{Y:Hp}(h:Ext Z F s Y X W V hp')(t:SD P U Z F s Y){r:Nat}(q:r<Y.d)(g:Y.m.l r=y)(j:y= .dfr\/F r=y):hp'.m.l r=y:=by
 rw[h.O r q λb x o k u=>?_,g];obtain⟨i,w,A,c,f,v,a⟩| ⟨c,_⟩:=t.f b x k
 .rw[u]at c;cases c;rw[g]at f;cases f;obtain rfl|j:=j
  .cases x with
   |f l e z=>let⟨d,n,h,_⟩:=a;cases h
   |g L e z ph=>let⟨d,n,h,_⟩:=a;cases h
   |j s p=>let⟨_,n,h,_⟩:=a;cases h
   |m r L z=>let⟨_,_,d,h,_⟩:=a;cases h
  grind
 grind
def put (Z:Tau)(b:Nat)(p:Bb (Nat×Nat)):Tau:=λc=>if c=b then some p else Z c
def y6 (Z:Tau)(b:Nat)(p:Bb (Nat×Nat)):put Z b p b=some p:=by simp[put]
def D6 (Z:Tau){c:Nat}(p:Bb (Nat×Nat))(h:c≠b):put Z b p c=Z c:=by simp[put,h]
theorem dT {Z:Tau}(p:Bb (Nat×Nat))(h:Z b=none):Tle Z (put Z b p):=λc q a=>by by_cases e:c=b;grind;rw[D6 Z p e];exact a
variable {o:Nat}
def BD.f {Z:Tau}{F:Ac}(D:Tle Z X)(w:Fle F W)(h:BD P U Z F o x y):BD P U X W o x y:=by
 cases x with
 |f l e z=>let⟨c,n,f,g,i⟩:=h;exact⟨c,n,f,g,λj a G=>let⟨x,m,q⟩:=i j a G;⟨x,m,q.mono D w⟩⟩
 |g L e z ph=>let⟨c,n,f,⟨g,i,t,u⟩,v⟩:=h;exact⟨c,n,f,⟨g,i,t,λr k row d B A=>let⟨x,m,q⟩:=u r k row d B A;⟨x,m,λC b=>(q C b).O P w⟩⟩,v⟩
 |j s p=>exact h|m r L z=>let⟨E,v,c,f,g,i,t,u⟩:=h;exact⟨E,D _ _ v,c,f,g,i,t,λr k row d B A=>let⟨x,m,q⟩:=u r k row d B A;⟨x,m,λC b=>(q C b).O P w⟩⟩
def MG.f {Z:Tau}{F:Ac}(f:Tle Z X)(e:Fle F W){r:Nat×E×Ax×Nat}(h:MG P U Z F r):MG P U X W r:=by obtain⟨i,o,g,n,a,b,j,l,m,p⟩| ⟨a,b⟩:=h;exact .inl ⟨i,o,g,n,f _ _ a,e _ _ b,j,l,m,λr k row d s q=>let⟨x,t,u⟩:=p r k row d s q;⟨x,t,λv c=>(u v c).O P e⟩⟩;exact .inr ⟨f _ _ a,b⟩
def Su (Y:Hp)(y:Blk)(i:Nat)(h:i<Y.d):(Y.m.m Y.d<|some y).l i=Y.m.l i:=by rw[ZD,af]
def iN (s:SS)(x:C8):SS:= {s with h:=(s.g,some x)::s.h,g:=s.g+1}
def kG (s:SS)(x:C8)(b:Nat):(iN s x).f b=if b=s.g then some x else s.f b:=by have:=Zu s s.g b<|some x;exact this
def gI (x:C8):M Nat:=λs=>.j (s.g,iN s x)
def SD.H (d:SD P U Z F s Y){p:Bb (Nat×Nat)}(G:Y.d<=hp'.d)(E:∀i,i<Y.d->hp'.m.l i=Y.m.l i)(N:(∃i o y,p=some (i,o)/\Y.d<=i/\i<hp'.d/\hp'.m.l i=some y/\BD P U (put Z s.g p) F o x y)\/(p=none/\ ∃L e z ph,x= .g L e z ph/\L.z U=[]/\z=(kf P e).length/\ph.j U<=0)):Ext Z F s Y (put Z s.g p) F (iN s x) hp'/\SD P U (put Z s.g p) F (iN s x) hp':=by
 have H:=dT p (d.g _<|Xh _);refine⟨⟨H,Ze F,G,by simp[iN],λb a=>D6 Z p<|by omega,λb y a K=>?_,⟨[(s.g,some x)],rfl,λi g _=>E i g,λb i o a k=>?_,λ_ _ _ h=>.inl h,λ_ _ _ h=>h⟩,⟨[],rfl⟩,⟨[(s.g,some x)],rfl,λ_ _ _ _ i _ Q _ _ _ g R _=>(by grind)⟩⟩,?_⟩;rw[kG,af]at a;exact⟨y,a⟩;by_cases e:b=s.g;subst e;rw[y6]at k;grind;rw[D6 Z p e,d.g b a]at k;cases k
 .have l:∀b y,b≠s.g->(iN s x).f b=some y->s.f b=some y:=λb y e a=>by rw[kG,Xd e]at a;exact a
  refine⟨λb y a=>?_,λb c y z i o j q a D u v n=>?_,λi y g=>by rw[E i<|d.B i y g];exact d.p i y g,λb i o a=>?_,λi y g=>XW (d.B i y g) G,λb a=>?_,d.I,λr M=>(d.N r M).f H<|Ze F⟩
  .by_cases e:b=s.g
   .subst e;rw[kG,Xg rfl,WJ]at a;subst a;obtain⟨i,o,y,rfl,f,w,B,C⟩| ⟨rfl,h⟩:=N
    .refine .inl ⟨i,o,y,y6 _ _ _,B,?_,C⟩;cases J:F i with
     |none=>rfl|some b=>exact absurd (d.B i b J) (by omega)
    exact .inr ⟨y6 _ _ _,h⟩
   rcases d.f b y (l b y e a)with⟨i,o,O,f,w,B,C⟩| ⟨f,w⟩;exact .inl ⟨i,o,O,by rw[D6 Z p e];exact f,by rw[E i<|d.C b i o f];exact w,B,C.f H<|Ze F⟩;exact .inr ⟨by rw[D6 Z p e];exact f,w⟩
  .have new:∀c i o,c=s.g->put Z s.g p c=some (some (i,o))->Y.d<=i:=λc i o D h=>by subst D;rw[y6]at h;grind
   by_cases A:b=s.g;have f:=new b i o A v;have t:c≠s.g:=λh=>u (by omega);rw[D6 Z p t]at n;have:=d.C c j q n;omega;rw[D6 Z p A]at v;by_cases t:c=s.g;have f:=new c j q t n;have:=d.C b i o v;omega;rw[D6 Z p t]at n;exact d.A b c y z i o j q (l b y A a) (l c z t D) u v n
  by_cases e:b=s.g;subst e;rw[y6]at a;grind;rw[D6 Z p e]at a;exact XW (d.C b i o a) G;have:s.g+1<=b:=a;rw[D6 Z p<|by omega];exact d.g b (by omega)
variable {i:Nat}
theorem SD.O (f:SD P U Z F s Y){x':C8}(A:s.f b=x)(H:Z b=some (some (i,o)))(G:hp'.d=Y.d)(v:∀j,j≠i->hp'.m.l j=Y.m.l j)(hi:hp'.m.l i=some y)(X:BD P U Z F o x' y)(hw:∀c e z D,x= .f c e z->x'= .f D e z->D.length=c.length-> ∀t n,Y.m.l i=some (.cells t n e z)-> ∃l,y= .cells l n e z/\ ∀j,j<o\/o+c.length<=j->l.l j=t.l j:=by intro _ _ _ _ h L;first| (cases h;done)| (cases L;done)):Ext Z F s Y Z F (s.j b<|some x') hp'/\SD P U Z F (s.j b<|some x') hp':=by
 refine⟨⟨ZE Z,Ze F,by omega,Xh _,λ_ _=>rfl,λc y a _=>?_,⟨[(b,some x')],rfl,λj B Q=>v j<|by grind,λc j q a h=>(by rw[f.g c a]at h;cases h),λ_ _ _ h=>.inl h,λ_ _ _ h=>h⟩,⟨[],rfl⟩,⟨[(b,some x')],rfl,λd c e z j q t n g R B O hl=>?_⟩⟩,?_⟩;rw[Zu]at a;grind;by_cases h:d=b;grind;exact⟨t,by rw[v j<|f.A d b _ x j q i o g A h R H];exact O,λ_ _=>rfl⟩
 .have W:F i=none:=by obtain⟨i',o',w,u,_,E,_⟩| ⟨u,_⟩:=f.f b x A;grind;grind
  have p:∀c,(∃y,(s.j b<|some x').f c=some y)-> ∃y,s.f c=some y:=λc ⟨y,a⟩=>by rw[Zu]at a;grind
  refine⟨λc z a=>?_,λc d y z j q k r a g C I J=>?_,λj y B=>?_,λc j q h=>by rw[G];exact f.C c j q h,λj y h=>by rw[G];exact f.B j y h,f.g,f.I,f.N⟩;rw[Zu]at a;by_cases e:c=b;grind;rw[Xd e]at a;obtain⟨j,q,w,u,M,E,N⟩|h:=f.f c z a;refine .inl ⟨j,q,w,u,?_,E,N⟩;rw[v j ?_];exact M;intro K;subst K;exact f.A c b z x j q j o a A e u H rfl;grind;obtain⟨w,S⟩:=p c ⟨y,a⟩;obtain⟨V,T⟩:=p d ⟨z,g⟩;exact f.A c d w V j q k r S T C I J;rw[v j<|by grind];exact f.p j y B
def SD.move (a:SD P U Z F s Y){p:C8}(H:s.f b=x)(R:Z b=some (some (i,o)))(Q:Y.d<=hp'.d)(J:∀j,j<Y.d->j≠i->hp'.m.l j=Y.m.l j){j q:Nat}(I:j=i\/Y.d<=j)(D:j<hp'.d)(hi:hp'.m.l j=some y)(hd:BD P U (put Z s.g<|some (j,q)) F q p y):Ext Z F s Y (put Z s.g<|some (j,q)) F (iN (s.j b none) p) hp'/\SD P U (put Z s.g<|some (j,q)) F (iN (s.j b none) p) hp':=by
 have v:=dT (some (j,q)) (a.g _<|Xh _);have fi:F i=none:=by obtain⟨i',o',W,t,_,T,_⟩| ⟨t,_⟩:=a.f b x H;grind;grind
 have fj:F j=none:=by
  obtain rfl|I:=I;grind
  .cases hF:F j with
   |none=>rfl|some w=>exact absurd (a.B j w hF) (by omega)
 have gt:∀c,(iN (s.j b none) p).f c=if c=s.g then some p else if c=b then none else s.f c:=λc=>by rw[kG,Zu];rfl
 refine⟨⟨v,Ze F,Q,by simp[iN,SS.j],λc f=>D6 Z _<|by omega,λc y f ab=>?_,⟨[(s.g,some p),(b,none)],rfl,λk l ac=>J k l<|by grind,λc k r f h=>?_,λ_ _ _ h=>.inl h,λ_ _ _ h=>h⟩,⟨[],rfl⟩,⟨[(s.g,some p),(b,none)],rfl,λd c e z V q' X n u hq D hg hl=>?_⟩⟩,?_⟩;grind
 rotate_left
 by_cases h:d=b;grind;exact⟨X,by rw[J V D<|a.A d b _ x V q' i o u H h hq R];exact hg,λ_ _=>rfl⟩
 rotate_left
 by_cases e:c=s.g;subst e;rw[y6]at h;grind;rw[D6 Z _ e,a.g c f]at h;cases h
 .have A:∀c z,(iN (s.j b none) p).f c=some z->c≠s.g->c≠b/\s.f c=some z:=by grind
  have K:∀c z k r,c≠b->s.f c=some z->Z c=some (some (k,r))->k≠j:=λc z k r e f h N=>by subst N;obtain rfl|I:=I;exact a.A c b z x _ r _ o f H e h R rfl;have:=a.C c _ r h;omega
  refine⟨λc z f=>?_,λc d y z k r k' r' f u E L G=>?_,λk y l=>?_,λc k r h=>?_,λk y h=>XW (a.B k y h) Q,λc f=>?_,a.I,λr hr=>(a.N r hr).f v<|Ze F⟩;by_cases e:c=s.g;subst e;rw[gt,Xg rfl,WJ]at f;subst f;exact .inl ⟨j,q,y,y6 _ _ _,hi,fj,hd⟩;let⟨S,g⟩:=A c z f e;obtain⟨k,r,W,t,O,T,h4⟩| ⟨t,O⟩:=a.f c z g;refine .inl ⟨k,r,W,by rw[D6 Z _ e];exact t,?_,T,h4.f v<|Ze F⟩;rw[J k (a.C c k r t) ?_];exact O;intro N;subst N;exact a.A c b z x _ r _ o g H S t R rfl;exact .inr ⟨by rw[D6 Z _ e];exact t,O⟩;by_cases M:c=s.g;subst M;have B:d≠s.g:=λh=>E h.symm;rw[y6]at L;rw[D6 Z _ B]at G;grind;let⟨S,g⟩:=A c y f M;rw[D6 Z _ M]at L;by_cases B:d=s.g;subst B;rw[y6]at G;grind;let⟨aa,C⟩:=A d z u B;rw[D6 Z _ B]at G;exact a.A c d y z k r k' r' g C E L G;rw[J k (a.B k y l)<|by grind];exact a.p k y l;by_cases e:c=s.g;subst e;rw[y6]at h;grind;rw[D6 Z _ e]at h;exact XW (a.C c k r h) Q;have:s.g+1<=c:=f;rw[D6 Z _<|by omega];exact a.g c (by omega)
def SD.R (a:SD P U Z F s Y)(A:s.f b=x)(B:Z b=some (some (i,o)))(R:Y.m.l i=some y):∃W,Fle F W/\W i=some y/\Ext Z F s Y Z W (s.j b none) Y/\SD P U Z W (s.j b none) Y:=by
 have Q:F i=none:=by obtain⟨S,T,C,p,_,J,_⟩| ⟨p,_⟩:=a.f b x A;grind;grind
 have t:Fle F (λj=>if j=i then some y else F j):=λj w l=>by grind
 have g:∀c z,(s.j b none).f c=some z->c≠b/\s.f c=some z:=λc z f=>by rw[Zu]at f;grind
 refine⟨λj=>if j=i then some y else F j,t,by simp,⟨ZE Z,t,Xh _,Xh _,λ_ _=>rfl,λc z f _=>⟨z,(g c z f).2⟩,⟨[(b,none)],rfl,λ_ _ _=>rfl,λc j q f h=>(by rw[a.g c f]at h;cases h),λj w _ l=>?_,λY=>absurd rfl<|Y (b,none)<|by simp⟩,⟨[],rfl⟩,⟨[(b,none)],rfl,λ_ _ _ _ _ _ D _ _ _ _ L _=>⟨D,L,λ_ _=>rfl⟩⟩⟩,?_⟩;grind;refine⟨λc z f=>?_,λc d y z k r N O f u v E G=>a.A c d y z k r N O (g c y f).2 (g d z u).2 v E G,λj w l=>?_,a.C,λj w l=>?_,a.g,a.I,λr M=>(a.N r M).f (ZE Z) t⟩
 .obtain⟨e,n⟩:=g c z f;obtain⟨k,r,C,p,I,J,K⟩|h:=a.f c z n
  .refine .inl ⟨k,r,C,p,I,?_,K.f (ZE Z) t⟩;have:k≠i:=λH=>by subst H;exact a.A c b z x _ r _ o n A e p B rfl
   grind
  grind
 by_cases e:j=i;grind;rw[Xd e]at l;exact a.p j w l;by_cases e:j=i;subst e;exact a.C b _ o B;rw[Xd e]at l;exact a.B j w l
def SD.J (e:SD P U Z F s Y)(b:Nat):Ext Z F s Y Z F (s.j b none) Y/\SD P U Z F (s.j b none) Y:=by
 have f:∀c z,(s.j b none).f c=some z->c≠b/\s.f c=some z:=λc z a=>by rw[Zu]at a;grind
 exact⟨⟨ZE Z,Ze F,Xh _,Xh _,λ_ _=>rfl,λc z a _=>⟨z,(f c z a).2⟩,⟨[(b,none)],rfl,λ_ _ _=>rfl,λc j q a h=>(by rw[e.g c a]at h;cases h),λ_ _ _ h=>.inl h,λ_ _ _ h=>h⟩,⟨[],rfl⟩,⟨[(b,none)],rfl,λ_ _ _ _ _ _ l _ _ _ _ o _=>⟨l,o,λ_ _=>rfl⟩⟩⟩,
  λc z a=>e.f c z (f c z a).2,λc d y z k r p t a g i m n=>e.A c d y z k r p t (f c y a).2 (f d z g).2 i m n,e.p,e.C,e.B,e.g,e.I,e.N⟩
end
def isI :E->Bool
 | .w _=>true| .B _ (.i _)=>true| .C o _=>match o with
  | .J| .sub| .mul| .R| .tmod| .C _| .shr _| .len| .A| .I| .H| .srw| .w=>true
  |_=>false
 |_=>false
def isB :E->Bool
 | .bool _=>true| .B _ (.b _)=>true| .C .lt [_,_]| .C .eqi [_,_]| .C .eqb [_,_]| .C .eqs [_,_]| .C .lts [_,_]| .C .not [_]| .C .and [_,_]| .C .or [_,_]| .C .B [_]=>true
 |_=>false
def isS :E->Bool
 | .str _=>true| .B _ (.s _)=>true| .C .sapp [_,_]| .C .N [_,_,_]| .C .D [_]=>true
 |_=>false
def isL :E->Bool
 | .B _ (.l _)=>true| .C .p _| .C (.f _ _) _| .C .app [_,_]| .C (.L _) [_,_,_]| .C .q [_,_,_]| .C .g [_,_,_]| .C .rep (_::_)| .C .r [_]=>true
 |_=>false
def Qd (e:E):E:=bif isI e then e else .C .w [e]
def mkCB (e:E):E:=bif isB e then e else .C .B [e]
def mkCS (e:E):E:=bif isS e then e else .C .D [e]
def mI (e:E):E:=bif isL e then e else .C .r [e]
section
variable {U :Ab}
def SX {e:E}(h:isI e):e.A U= .i (e.j U):=by
 cases e with
 |w n=>rfl|B n d=>cases d<;>first|rfl| (simp[isI]at h)
 |C o a=>
  cases o<;>first
   | (simp[isI]at h;done)
   | (simp only[E.j,E.A,Sy.O];split<;>rfl)
 |_=>simp[isI]at h
def SW {e:E}(h:isB e):e.A U= .b (e.A U).f:=by unfold isB at h;split at h<;>first|rfl|cases h
def SZ {e:E}(h:isS e):e.A U= .s (e.A U).g:=by unfold isS at h;split at h<;>first|rfl|cases h
def SY {e:E}(h:isL e):e.A U= .l (e.z U):=by unfold isL at h;split at h<;>first|rfl|cases h
def yI (e:E):(Qd e).A U= .i (e.j U):=by
 rw[Qd];cases h:isI e with
 |true=>exact SX h|false=>rfl
def Qc (e:E):(mkCB e).A U= .b (e.A U).f:=by
 rw[mkCB];cases h:isB e with
 |true=>exact SW h|false=>rfl
def Qe (e:E):(mkCS e).A U= .s (e.A U).g:=by
 rw[mkCS];cases h:isS e with
 |true=>exact SZ h|false=>rfl
def pP (e:E):(mI e).A U= .l (e.z U):=by
 rw[mI];cases h:isL e with
 |true=>exact SY h|false=>rfl
end
section
variable (P :Aw)(U:Ab)
def oG (t:Ax)(x:SV)(f:Nat):Bb SV:=
 match P.underlying t with
 |some (.struct d)=>match d.toList[f]? with
  |some c=>match P.info? c.type with
   |some i=>bif Nat.beq i.size 0 then none else
    match x with
    | .g b z row a=>some<|.g b z row<|a+c.offset| .B e L row a=>some<|.B e L row<|a+c.offset| .J row a=>some<|.J row<|a+c.offset|_=>none
   |none=>none
  |none=>none
 |_=>none
def oH (t:Ax)(x f:SV):M SV:=
 match f with
 | .f _ n=>match P.underlying t with
  |some (.slice e)=>match P.info? e with
   |some c=>match x with
    | .z b z off len _=>bif Nat.beq z c.size then d8 (u6 U<|A4<|A5 n<|.w 0) λ_=>d8 (u6 U<|A5 n len) λ_=>i6 (.g b z (A3 off n) 0)else c9 "index: size"
    | .m d L _=>bif Nat.beq (kf P d).length c.size then d8 (u6 U<|A4<|A5 n<|.w 0) λ_=>d8 (u6 U<|A5 n<|C2 L) λ_=>i6 (.B d L n 0)else c9 "index: size"
    |_=>c9 "index: no slice"
   |none=>c9 "index: type"
  |some (.array len e)=>match P.info? e with
   |some c=>match x with
    | .g b z row a=>match n with
     | .w m=>bif decide (0<=m)&&decide (m<len)then i6 (.g b z row<|a+m.toNat*c.size)else c9 "index: array"|n=>match row with
      | .w r=>bif decide (0<=r)then d8 (u6 U<|A4<|A5 n<|.w 0) λ_=>d8 (u6 U<|A5 n<|.w len) λ_=>i6 (.g b c.size n<|r.toNat*z+a)else c9 "index: array"
      |_=>c9 "index: array"
    | .B d L row a=>match n with
     | .w m=>bif decide (0<=m)&&decide (m<len)then i6 (.B d L row<|a+m.toNat*c.size)else c9 "index: array"|_=>c9 "index: array"
    |_=>c9 "index: array"
   |none=>c9 "index: type"
  |_=>c9 "index: type"
 |_=>c9 "index: no int"
def ldk (t:Ax):Bb (Bool×Nat):=
 match P.underlying t with
 | some d => bif bP d then
   match P.info? t with
   |some a=>some (true,a.size)|none=>none
  else some (false,1)
 |none=>none
def Jc (a:Bool)(l:As):Bb SV:=bif a then some (.w l)else l.head?
def Lm (k:Kd)(c:E):Bb SV:=
 match k with
 | .int k=>some<|.f k c| .bool=>some<|.j c| .str=>some<|.p c| .f e=>some<|.m e c false| .rp=>some<|.I c| .bad=>none
def jE (b:List Kd)(L row:E):Nat->Nat->Bb (As)
 |_,0=>some []|j,n+1=>match b[j]? with
  |some k=>match Lm k (IP j L row)with
   |some a=>match jE b L row (j+1) n with
    |some l=>some<|a::l|none=>none
   |none=>none
  |none=>none
def RO (k:Kd)(a:SV):Bb E:=
 match k,a with
 | .int k,.f c e=>bif decide (k=c)then some (Qd e)else none| .bool,.j e=>some<|mkCB e| .str,.p e=>some<|mkCS e| .f _,.q=>some<|.C .p []| .f e,.m b L _=>bif Nat.beq e b then some (mI L)else none| .rp,.I e=>some<|Qd e| .rp,.J e 0=>some<|Qd e| .rp,.C=>some<|.w<|-1|_,_=>none
def NR (b:List Kd):Nat->As->Bb (Au)
 |_,[]=>some []|j,a::l=>match b[j % b.length]? with
  |some k=>match RO k a with
   |some e=>match NR b (j+1) l with
    |some c=>some<|e::c|none=>none
   |none=>none
  |none=>none
def zR (e:Ax)(z:Nat)(l:As):Bb E:=
 bif Nat.ble 1 z&&Nat.beq z (kf P e).length&&Nat.beq (l.length/z*z) l.length then
  match NR (kf P e) 0 l with
  |some a=>some<|.C (.f (l.length/z) z) a|none=>none
 else none
def Q5 (b:Bool)(n:Nat)(e:Ax)(L row:E)(a:Nat):Bb SV:=
 match jE (kf P e) L row a n with
 |some l=>Jc b l|none=>none
def Gv (k:IntKind):As->Bb (Au)
 | []=>some []| .f b e::l=>bif decide (k=b)then match Gv k l with
  |some a=>some<|e::a|none=>none else none
 |_=>none
def Rp (l:As)(row:E):M SV:=match l with
 | .f k e::b=>match Gv k (.f k e::b)with
  |some a=>d8 (u6 U<|A5 row<|.w a.length) λ_=>i6<|.f k<|IP 0 (.C (.f a.length 1) a) row
  |none=>c9 "load: rows"
 |_=>c9 "load: rows"
def rgF :List (Nat×Bb C8)->Ai
 | []=>none| (b,some (.m _ _ _))::_=>some b|_::l=>rgF l
def Bx (s:SS):Bb (Nat×E×Nat):=match rgF s.h with
 |some b=>match s.f b with
  |some (.m r L z)=>bif Nat.beq r b then some (b,L,z)else none|_=>none
 |none=>none
def rgB (s:SS):Ai:=(Bx s).map λr=>r.1
def Mm (t:Ax)(a:SV):M SV:=
 match ldk P t with
 |none=>c9 "load: type"|some (d,n)=>match a with
  | .g b z row c=>z7 λs=>match s.f b with
   |some (.f l e _)=>match row with
    | .w r=>bif decide (0<=r)&&Nat.ble (r.toNat*z+c+n) l.length then pS "load" (Jc d<|(l.drop<|r.toNat*z+c).take n)else c9 "load: beyond"|row=>match zR P e z l with
     |some L=>bif Nat.ble (c+n) z then d8 (u6 U<|A5 row<|C2 L) λ_=>pS "load" (Q5 P d n e L row c)else c9 "load: beyond"
     |none=>bif !d&&Nat.beq z 1&&Nat.beq n 1 then Rp U (l.drop c) row else c9 "load: rows"
   |some (.g L e f _)=>bif Nat.beq z f&&Nat.ble (c+n) z then d8 (u6 U<|A5 row<|C2 L) λ_=>pS "load" (Q5 P d n e L row c)else c9 "load: beyond"
   |some (.j _ _)=>c9 "load: no block"|some (.m _ _ _)=>c9 "load: no block"|none=>match lk s.r b with
    |some (L,e,f)=>bif Nat.beq z f&&Nat.ble (c+n) z then d8 (u6 U<|A5 row<|C2 L) λ_=>pS "load" (Q5 P d n e L row c)else c9 "load: beyond"
    |none=>c9 "load: no block"
  | .J row c=>z7 λs=>match Bx s with
   |some (_,L,z)=>bif Nat.ble (c+n) z then d8 (u6 U<|A5 row<|C2 L) λ_=>pS "load" (Q5 P d n rgT L row c)else c9 "load: beyond"
   |none=>c9 "load: no region"
  | .B e L row c=>bif Nat.ble (c+n) (kf P e).length then pS "load" (Q5 P d n e L row c)else c9 "load: beyond"|_=>c9 "load: no address"
end
section
variable {P :Aw}{U:Ab}{Y:Tau}{F:Ac}{s:SS}{W:Hp}
variable {Z i o:Nat}
def VD.ptr' {b z a:Nat}{row:E}(h:Y b=some (some (i,o)))(c:0<=row.j U)(e:a=o+row.r U*z+Z):VD P U Y F (.g b z row Z) (.pointer<|some ⟨i,a,none⟩):=by subst e;exact .ptr b z row Z i o h c
def VD.pptr' {t:Ax}{L row:E}{l c a:Nat}(h:PV P F (.f t) (.slice (some ⟨i,o,none⟩) l c) (.l<|L.z U))(b:0<=row.j U)(d:row.j U<(L.z U).length)(e:a=o+row.r U*(kf P t).length+Z):VD P U Y F (.B t L row Z) (.pointer<|some ⟨i,a,none⟩):=by subst e;exact .pptr t L row Z i o l c h b d
variable {a:SV}{v:Av}
def BB {t:Ax}{b:SV}{f:Nat}(n:VD P U Y F a v)(e:oG P t a f=b):∃w,P8 P t v f=some w/\VD P U Y F b w:=by
 rw[oG] at e;rw[P8];split at e
 .rename_i s g;split at e
  .rename_i m d;split at e
   .rename_i i p;cases k:Nat.beq i.size 0 with
    |true=>grind|false=>
     simp only[k,Xb]at e;split at e
     .rename_i b z row Z;simp only[WJ]at e;subst e;cases n with
      |ptr _ _ _ _ q o h j=>exact⟨.pointer<|some ⟨q,o+row.r U*z+Z+m.offset,none⟩,by simp only[g,d,p,k,Xb],VD.ptr' h j<|by omega⟩
     .rename_i t L row Z;simp only[WJ]at e;subst e;cases n with
      |pptr _ _ _ _ q o l c h j r=>exact⟨.pointer<|some ⟨q,o+row.r U*(kf P t).length+Z+m.offset,none⟩,by simp only[g,d,p,k,Xb],VD.pptr' h j r<|by omega⟩
     .rename_i row Z;simp only[WJ]at e;subst e;cases n with
      |rp _ _ j=>exact⟨.pointer<|some ⟨row.r U,Z+m.offset,some 1⟩,by simp only[g,d,p,k,Xb],.rp _ _ j⟩
     cases e
   cases e
  cases e
 cases e
def E2 {a b:E}(h:(A5 a b).I U):a.j U<b.j U:=by rw[Zb,J5,Xf]at h;exact h
def B7 {a b:E}(h:(A4<|A5 a b).I U):b.j U<=a.j U:=by rw[Zb,J3,J5,XI,XM]at h;exact Int.not_lt.1 h
def dB {a b:E}(h:(I4 a b).I U):a.j U=b.j U:=by rw[Zb,H8,Xf]at h;exact h
def PV.len {t:Ax}{a:Aq}{l c:Nat}{d:Dat}(h:PV P F (.f t) (.slice a l c) d):l=d.m.length:=by cases h<;>rfl
theorem BC {t:Ax}{M:SV}{w:Av}(B:VD P U Y F a v)(O:VD P U Y F M w):OKp U (oH P U t a M) s λb=>∃u,E0 P t v w=some u/\VD P U Y F b u:=by
 unfold oH;split
 .rename_i k n;cases O;split
  .rename_i e p;split
   .rename_i j d;split
    .rename_i b z off len cap;cases G:Nat.beq z j.size with
     |false=>exact Zl|true=>
      refine OKp.g.f λ_ s1 _ _ f=>OKp.g.f λ_ s2 _ _ g=>Zq ?_;have f:=aZ f;have g:=E2 g;have H:z=j.size:=WO G;cases B with
      |sl _ _ _ _ _ i o c h q D J=>
       refine⟨.pointer<|some ⟨i,o+off.r U*z+n.r U*j.size,none⟩,?_,VD.ptr' h (by rw[l9];omega) ?_⟩;simp only[E0,p,d];grind
       .have:(A3 off n).r U=off.r U+n.r U:=by show((A3 off n).j U).toNat=(off.j U).toNat+(n.j U).toNat;rw[l9];omega
        grind
      |sl0 _ _ _ _ _ h q D J=>omega
    .rename_i A L I;cases G:Nat.beq (kf P A).length j.size with
     |false=>exact Zl|true=>
      refine OKp.g.f λ_ s1 _ _ f=>OKp.g.f λ_ s2 _ _ g=>Zq ?_;have f:=aZ f;have g:=E2 g;rw[j5]at g;have H:(kf P A).length=j.size:=WO G;cases B with
      |lst _ _ _ _ h J=>
       have Q:∃i o l c,v= .slice (some ⟨i,o,none⟩) l c:=by
        cases hv:L.z U with
        |nil=>grind|cons r rs=>
         rw[hv]at h;cases h with
         |sl _ i o c b S n z rows x T C N V K R X W=>grind
       obtain⟨i,o,l,c,rfl⟩:=Q;refine⟨.pointer<|some ⟨i,o+n.r U*j.size,none⟩,?_,VD.pptr' h f g<|by grind⟩;simp only[E0,p,d];rw[show(decide (0<=n.j U)&&decide (n.j U<(l:Int)))=true by
        simp only[WK,Xf];have:(l:Int)=((L.z U).length:Int):=by rw[h.len];rfl
        omega]
       rfl
    exact Zl
   exact Zl
  .rename_i len e p;split
   .rename_i j d;split
    .rename_i b z row Z;cases B with
     |ptr _ _ _ _ i o h q=>
      split
      .rename_i m;cases C:decide (0<=m)&&decide (m<(len:Int))with
       |false=>exact Zl|true=>refine Zq ⟨.pointer<|some ⟨i,o+row.r U*z+Z+m.toNat*j.size,none⟩,?_,VD.ptr' h q<|by omega⟩;simp only[E0,p,d];rw[show(decide (0<=(E.w m).j U)&&decide ((E.w m).j U<(len:Int)))=true from C];rfl
      .split
       .rename_i r;cases R:decide (0<=r)with
        |false=>exact Zl|true=>refine OKp.g.f λ_ s1 _ _ f=>OKp.g.f λ_ s2 _ _ g=>Zq ?_;have f:=aZ f;have g:=E2 g;simp only[D5]at g;refine⟨.pointer<|some ⟨i,o+r.toNat*z+Z+n.r U*j.size,none⟩,?_,VD.ptr' h f<|by omega⟩;simp only[E0,p,d];rw[show(decide (0<=n.j U)&&decide (n.j U<(len:Int)))=true by simp only[WK,Xf];omega];rfl
       exact Zl
    .rename_i A L row Z;cases B with
     |pptr _ _ _ _ i o l c h q f=>
      split
      .rename_i m;cases C:decide (0<=m)&&decide (m<(len:Int))with
       |false=>exact Zl|true=>refine Zq ⟨.pointer<|some ⟨i,o+row.r U*(kf P A).length+Z+m.toNat*j.size,none⟩,?_,VD.pptr' h q f<|by omega⟩;simp only[E0,p,d];rw[show(decide (0<=(E.w m).j U)&&decide ((E.w m).j U<(len:Int)))=true from C];rfl
      exact Zl
    exact Zl
   exact Zl
  exact Zl
 exact Zl
variable {V:Bool}{k n:Nat}{y:Blk}{c:Ao}{vs:Af}
def PW {t:Ax}(h:ldk P t=(V,n)){z:Nat}(g:W.m.l i=y)(l:rdC y=(c,k,z))(j:o+n<=k)(b:j8 c o n=vs):∃v,G4 P W t (.pointer<|some ⟨i,o,none⟩)=some v/\((V/\v= .agg vs.toArray)\/(V=false/\vs=[v])):=by
 unfold ldk at h;split at h
 .rename_i d f;cases a:bP d with
  |true=>simp only[a,Xa]at h;split at h;rename_i p e;obtain⟨rfl,rfl⟩:=h;refine⟨.agg vs.toArray,?_,.inl ⟨rfl,rfl⟩⟩;simp only[G4,g,l,f,a,Xa,e,WQ j,b];cases h
  |false=>
   simp only[a,Xb,WJ,WL]at h;obtain⟨rfl,rfl⟩:=h;simp only[j8]at b;cases hv:c.l o with
   |none=>grind|some v=>simp only[hv,WJ]at b;refine⟨v,?_,.inr ⟨rfl,b.symm⟩⟩;simp only[G4,g,l,f,a,Xb,WQ j,Xa,hv]
 cases h
def B6 {c:Ao}{R:Nat->Av->Prop}:∀(n o j:Nat),(∀k,k<n-> ∃x,c.l (o+k)=some x/\R (j+k) x)-> ∃vs,j8 c o n=some vs/\vs.length=n/\ ∀k x,vs[k]? =some x->R (j+k) x
 |0,o,j,_=>⟨[],rfl,rfl,λk x h=>by grind⟩
 |n+1,o,j,h=>by
  let⟨x,a,f⟩:=h 0 (by omega);obtain⟨vs,b,g,i⟩:=B6 n (o+1) (j+1) λk l=>by
   obtain⟨x,d,e⟩:=h (k+1) (by omega)
   exact ⟨x, by rw [←  d]; congr 1; omega, by have : j + 1 + k = j + (k + 1) := by omega
                                              rw[this];exact e⟩
  refine⟨x::vs,by simp only[j8];rw[show c.l o=some x from a,b],by grind,λk y m=>?_⟩;grind
def nU {t:Ax}(h:ldk P t=(V,n)){z:Nat}(s:W.m.l i=y)(e:rdC y=(c,k,z))(w:o+n<=k){l:As}(D:l.length=n)(r:∀(j:Nat) a,l[j]? =some a-> ∃x,c.l (o+j)=some x/\VD P U Y F a x)(d:Jc V l=some a):∃v,G4 P W t (.pointer<|some ⟨i,o,none⟩)=some v/\VD P U Y F a v:=by
 obtain⟨vs,f,C,g⟩:=B6 (R:=λj x=>∀a,l[j]? =some a->VD P U Y F a x) n o 0 λj u=>by
  have:l[j]? =l[j]:=by grind
  obtain⟨x,B,E⟩:=r j _ this;exact⟨x,B,λa d=>by grind⟩
 obtain⟨v,p,q⟩:=PW h s e w f;refine⟨v,p,?_⟩;have hv:VDL P U Y F l vs:=⟨by omega,λj a x u A=>g j x A a<|by grind⟩
 obtain⟨rfl,rfl⟩| ⟨rfl,rfl⟩:=q;simp only[Jc,Xa,WJ]at d;subst d;exact hv.w
 .simp only[Jc,Xb]at d;cases l with
  |nil=>grind|cons b l=>simp at d;subst d;exact hv.2 0 _ _ rfl rfl
def Gs {k:Kd}{e:E}{x:Av}(W:PV P F k x (e.A U))(h:Lm k e=a):VD P U Y F a x:=by
 unfold Lm at h;generalize f:e.A U=d at W;cases W<;>simp only[WJ]at h<;>subst h;exact ZH (by show(e.A U).j=_;rw[f];rfl);exact ZG (by rw[f];rfl);exact VD.str' (by rw[f];rfl)
 .exact .lst _ e false _ (by have : e.z U = [] := by { show (e.A U).m = _; rw [ f]; rfl }
                             rw[this];exact .N _) (λh=>by cases h)
 exact .rpq e _ (by show PV P F .rp _ (.i (e.A U).j);rw[f];exact .rp _);exact .rpq e _ (by show PV P F .rp _ (.i (e.A U).j);rw[f];exact .rpn)
 .exact .lst _ e false _ (by have : e.z U = [] := by { show (e.A U).m = _; rw [ f]; rfl }
                             rw[this];exact .L _) (λh=>by cases h)
 .rename_i i o c b j n z u rows x l m p q t r s g
  exact .lst _ e false _ (by have : e.z U = rows := by { show (e.A U).m = _; rw [ f]; rfl }
                             rw[this];exact .sl _ i o c b j n z rows x l m p q t r s g) (λh=>by cases h)
def fM {c:List Kd}{L row:E}:∀ {n j:Nat} {l:As},jE c L row j n=l->l.length=n/\ ∀(q:Nat) a,l[q]? =some a-> ∃k,c[j+q]? =some k/\Lm k (IP (j+q) L row)=some a
 |0,j,l,h=>by simp only[jE,WJ]at h;subst h;exact⟨rfl,λq a h=>by grind⟩|n+1,j,l,h=>by simp only[jE]at h;split at h;rename_i k g;split at h;rename_i a f;split at h;rename_i i b;let⟨d,e⟩:=fM b;grind;cases h;cases h;cases h
def wS {rows:a8}{r:Int}{row:Ar}{d:Dat}(a:rows[r.toNat]? =row)(b:row[k]? =d):A7 rows r k=d:=by rw[A7];grind
variable {e:Nat}{X:Ao}
def fS {t:Ax}(h:ldk P t=(V,n)){z I:Nat}(C:W.m.l i=y)(q:rdC y=(X,k,I)){L row:E}(G:C4 P F e z o k X (L.z U))(M:0<=row.j U)(N:row.j U<(L.z U).length)(Q:Z+n<=z)(f:Q5 P V n e L row Z=a):∃v,G4 P W t (.pointer<|some ⟨i,o+row.r U*z+Z,none⟩)=some v/\VD P U Y F a v:=by
 rw[Q5] at f;split at f
 .rename_i l D;let⟨g,p⟩:=fM D;let⟨J,K,u,w⟩:=G;have d:row.r U<(L.z U).length:=by grind
  have c:(L.z U)[row.r U]? =(L.z U)[row.r U]:=by grind
  have s:=u _<|List.getElem_mem d;refine nU h C q ?_ g (λj b B=>?_) f
  .have:row.r U*z+z<=(L.z U).length*z:=by rw[<-Yj];exact WW z d
   omega
  .obtain⟨T,O,A⟩:=p j b B;have R:j<n:=by grind
   have r:(L.z U)[row.r U][Z+j]? =((L.z U)[row.r U][Z+j]'(by omega)):=by grind
   let⟨x,H,S⟩:=w _ _ _ _ c r;refine⟨x,by rw[<-H];congr 1;omega,Gs ?_ A⟩;rw[xG,wS c r];simp_all
 cases f
def Fk {k:Kd}(b:VD P U Y F a v){e:E}(h:RO k a=e):PV P F k v (e.A U):=by
 unfold RO at h;split at h;rename_i k j x;by_cases i:k=j;subst i;simp only[XZ,Xa,WJ]at h;subst h;cases b;rw[yI];exact .int k _;grind;simp only[WJ]at h;subst h;cases b;rw[Qc];exact .R _;simp only[WJ]at h;subst h;cases b;rw[Qe];exact .str _;simp only[WJ]at h;subst h;cases b;exact .N _
 .rename_i g d L c;cases f:Nat.beq g d with
  |false=>grind|true=>
   simp only[f,Xa,WJ]at h;subst h;have:=WO f;subst this;cases b with
   |lst _ _ _ _ h m=>rw[pP];exact h
 simp only[WJ]at h;subst h;cases b;rename_i h;rw[yI];exact h
 .rename_i x;simp only[WJ]at h;subst h;cases b with
  |rp _ _ l=>rw[yI,show x.j U=((x.r U:Nat):Int) by show x.j U=((x.j U).toNat:Int);omega];exact .rp _
 simp only[WJ]at h;subst h;cases b;exact .rpn;cases h
def rH {z:Nat}:∀ {n:Nat} {l:Ar} {r:Nat} {row:Ar},(b9 z n l)[r]? =row->row=(l.drop<|r*z).take z
 |0,l,r,row,h=>by simp[b9]at h|n+1,l,0,row,h=>by simp[b9]at h;simp[h]|n+1,l,r+1,row,h=>by simp only[b9,WU]at h;rw[rH h,List.drop_drop];grind
def dW {z:Nat}{a:Au}{N:Nat}(u:z=(kf P e).length)(A:a.length=N*z)(B:o+a.length<=n)(t:∀(j:Nat) d,a[j]? =some d-> ∃x,X.l (o+j)=some x/\ ∀i,(kf P e)[j % z]? =some i->PV P F i x (d.A U)):C4 P F e z o n X ((E.C (.f N z) a).z U):=by
 have hL:(E.C (.f N z) a).z U=b9 z N (a.map<|E.A U):=by show(Dat.l<|b9 z N<|E.D U a).m=_;rw[E.H];rfl
 rw[hL];have c:∀r row,(b9 z N<|a.map<|E.A U)[r]? =some row->r<N/\row.length=z:=by
  intro r row h;have g:=(WM.1 h).1;rw[Q3]at g;refine⟨g,?_⟩;rw[rH h];simp;have:r*z+z<=N*z:=by rw[<-Yj];exact WW z g
  omega
 refine⟨by rw[Q3];omega,u,λrow f=>?_,λr k row d q m=>?_⟩;let⟨r,q⟩:=YV f;grind
 .obtain⟨g,w⟩:=c r row q;have b:k<z:=by grind
  rw[rH q,Xr,Xg b,Xx,XQ]at m;cases s:a[r*z+k]? with
  |none=>grind|some x=>simp only[s,XH,WJ]at m;let⟨y,C,v⟩:=t _ _ s;refine⟨y,by grind,λi p=>?_⟩;rw[<-m];exact v i (by rw[show(r*z+k) % z=k by rw[Nat.mul_comm,Nat.mul_add_mod];exact YQ b];exact p)
def AV {d:List Kd}:∀ {l:As} {j:Nat} {b:Au},NR d j l=b->b.length=l.length/\ ∀(q:Nat) a e,l[q]? =some a->b[q]? =some e-> ∃k,d[(j+q) % d.length]? =some k/\RO k a=some e
 | [],j,b,h=>by simp only[NR,WJ]at h;subst h;exact(by grind)|a::l,j,b,h=>by simp only[NR]at h;split at h;rename_i k n;split at h;rename_i e m;split at h;rename_i f c;let⟨g,i⟩:=AV c;grind;cases h;cases h;cases h
def sM {z:Nat}{l:As}{L:E}(h:zR P e z l=L)(C:o+l.length<=n)(q:∀(j:Nat) a,l[j]? =some a-> ∃x,X.l (o+j)=some x/\VD P U Y F a x):C4 P F e z o n X (L.z U):=by
 rw[zR] at h;cases b:Nat.ble 1 z&&Nat.beq z (kf P e).length&&Nat.beq (l.length/z*z) l.length with
 |false=>grind|true=>
  rw[b,Xa]at h;simp at b;let⟨⟨w,g⟩,y⟩:=b;split at h
  .rename_i v c;simp at h;subst h;let⟨A,p⟩:=AV c;refine dW g (by omega) (by omega) λj d r=>?_;have B:j<l.length:=by grind
   have i:l[j]? =l[j]:=by grind
   let⟨x,s,t⟩:=q j _ i;let⟨k,m,u⟩:=p j _ d i r;refine⟨x,s,λD f=>?_⟩;rw[Xq,<-g,f,WJ]at m;subst m;exact Fk t u
  cases h
def Cj {k:IntKind}:∀ {l:As} {b:Au},Gv k l=b->b.length=l.length/\ ∀(j:Nat) e,b[j]? =some e->l[j]? =some (.f k e)
 | [],b,h=>by simp only[Gv,WJ]at h;subst h;exact(by grind)|a::l,b,h=>by
  unfold Gv at h;split at h;grind
  .rename_i i e o c;cases c;cases f:decide (k=i)with
   |false=>grind|true=>rw[f,Xa]at h;rw[Xf]at f;split at h;rename_i g d;let⟨m,n⟩:=Cj d;grind;cases h
  cases h
def mU :∀(a:Ar) (n:Nat),(b9 1 a.length a)[n]? =(a[n]?).map λd=>[d]
 | [],n=>rfl|d::a,0=>rfl|d::a,n+1=>by simp[b9,mU a n]
def lI (e:SD P U Y F s W){b:Nat}{L:E}{z:Nat}(h:Bx s=(b,L,z)):s.f b=some (.m b L z)/\Y b=some (some (0,0))/\F 0=none/\ ∃X,W.m.l 0=some (.reg X (L.z U).length rgT z)/\C4 P F rgT z 0 ((L.z U).length*z) X (L.z U):=by
 rw[Bx] at h;split at h
 .rename_i c _;split at h
  .rename_i r f t d;cases a:Nat.beq r c with
   |false=>grind|true=>rw[a,Xa]at h;cases h;have:=WO a;subst this;obtain⟨i,o,y,g,j,k,l,n,X,p,q⟩| ⟨_,_,_,_,_,h,_⟩:=e.f _ _ d;grind;cases h
  cases h
 cases h
def MU {t:Ax}(h:ldk P t=(V,n)){N z:Nat}(j:W.m.l 0=some (.reg c N e z))(p:k<N)(l:o+n<=z)(f:j8 c (k*z+o) n=vs):∃v,G4 P W t (.pointer<|some ⟨k,o,some 1⟩)=some v/\((V/\v= .agg vs.toArray)\/(V=false/\vs=[v])):=by
 have a:Nat.ble (k+1) N:=WQ p;unfold ldk at h;split at h
 .rename_i d i;cases b:bP d with
  |true=>simp only[b,Xa]at h;split at h;rename_i q g;cases h;refine⟨.agg vs.toArray,?_,.inl ⟨rfl,rfl⟩⟩;simp only[G4,tF,j,i,b,Xa,g,a,WQ l,f,YB];cases h
  |false=>
   simp only[b,Xb,WJ,WL]at h;obtain⟨rfl,rfl⟩:=h;simp only[j8]at f;cases hv:c.l (k*z+o)with
   |none=>grind|some v=>simp only[hv,WJ]at f;refine⟨v,?_,.inr ⟨rfl,f.symm⟩⟩;simp only[G4,tF,j,i,b,Xb,a,WQ l,Xa,hv,YB]
 cases h
def Jb {t:Ax}(h:ldk P t=(V,n)){z:Nat}{L row:E}(A:W.m.l 0=some (.reg X (L.z U).length rgT z))(C:C4 P F rgT z 0 ((L.z U).length*z) X (L.z U))(N:0<=row.j U)(O:row.j U<(L.z U).length)(y:Z+n<=z)(d:Q5 P V n rgT L row Z=some a):∃v,G4 P W t (.pointer<|some ⟨row.r U,Z,some 1⟩)=some v/\VD P U Y F a v:=by
 rw[Q5] at d;split at d
 .rename_i l B;let⟨k,o⟩:=fM B;let⟨K,M,r,s⟩:=C;have f:row.r U<(L.z U).length:=by grind
  have e:(L.z U)[row.r U]? =(L.z U)[row.r U]:=by simp[f]
  have q:(L.z U)[row.r U].length=z:=r _<|List.getElem_mem f;have S:∀(j:Nat) b,l[j]? =some b-> ∃x,X.l (row.r U*z+Z+j)=some x/\VD P U Y F b x:=λj b w=>by
   let⟨kd,Q,g⟩:=o j b w;have i:j<n:=by grind
   have p:(L.z U)[row.r U][Z+j]? =((L.z U)[row.r U][Z+j]'(by omega)):=by grind
   let⟨x,G,T⟩:=s _ _ _ _ e p;refine⟨x,by rw[<-G];congr 1;omega,Gs ?_ g⟩;rw[xG,wS e p];grind
  let⟨vs,H,I,J⟩:=B6 (c:=X) (R:=λj x=>∀a,l[j]? =some a->VD P U Y F a x) n (row.r U*z+Z) 0 λj i=>by simp_all
  let⟨v,g,u⟩:=MU h A f y H;refine⟨v,g,?_⟩;have hv:VDL P U Y F l vs:=⟨by rw[k,I],λj a x i D=>J j x D a<|by rw[Xq];exact i⟩
  obtain⟨rfl,rfl⟩| ⟨rfl,rfl⟩:=u;simp only[Jc,Xa,WJ]at d;subst d;exact hv.w
  .simp only[Jc,Xb]at d;cases l with
   |nil=>simp at d|cons b l=>simp at d;subst d;exact hv.2 0 _ _ rfl rfl
 cases d
def HA {t:Ax}(C:VD P U Y F a v)(J:SD P U Y F s W):OKp U (Mm P U t a) s λb=>∃u,G4 P W t v=some u/\VD P U Y F b u:=by
 unfold Mm;split;exact Zl
 .rename_i V n p;split
  .rename_i b z row Z;refine Zp ?_;split
   .rename_i l e T w;obtain⟨i,o,y,B,q,_,X,k,rfl,K,Q⟩| ⟨B,L',e',ai,ph,q,_⟩:=J.f b _ w
    .cases C with
     |ptr _ _ _ _ R S h A=>
      rw[B]at h;simp only[WJ,WL]at h;obtain⟨rfl,rfl⟩:=h;split
      .rename_i r;cases g:decide (0<=r)&&Nat.ble (r.toNat*z+Z+n) l.length with
       |false=>exact Zl|true=>simp only[Xa];simp only[WK,Xf,XX]at g;refine Zo λc D=>?_;refine nU p q rfl (o:=o+(E.w r).r U*z+Z) ?_ (l:=(l.drop<|r.toNat*z+Z).take n) ?_ (λj b w=>?_) D;show o+r.toNat*z+Z+n<=k;omega;grind;rw[Xr]at w;split at w;rw[Xx]at w;let⟨x,k1,k2⟩:=Q _ _ w;exact⟨x,by rw[<-k1];congr 1;show o+r.toNat*z+Z+j=_;omega,k2⟩;cases w
      .split
       .rename_i L hL;cases g:Nat.ble (Z+n) z with
        |false=>exact Zl|true=>simp only[Xa];refine OKp.g.f λ_ s1 _ _ f=>Zo λc D=>?_;have f:=E2 f;rw[j5]at f;exact fS p q rfl (sM hL K Q) A f (WN g) D
       .cases g: !V&&Nat.beq z 1&&Nat.beq n 1 with
        |false=>exact Zl|true=>
         rw[Xa];simp only[WK,Xy,XI]at g;obtain⟨⟨rfl,rfl⟩,rfl⟩:=g;unfold Rp;split
         .rename_i k0 e0 l' ac;split
          .rename_i H aa;let⟨q1,q2⟩:=Cj aa;refine OKp.g.f λ_ s1 _ _ f=>Zq ?_;have f:=E2 f;simp only[D5]at f;have I:row.r U<H.length:=by grind
           have M:=q2 (row.r U) _<|WV I;rw[<-ac,Xx]at M;let⟨x,k1,k2⟩:=Q _ _ M;refine nU (l:=[.f k0 (IP 0 (.C (.f H.length 1) H) row)]) p q rfl (o:=o+row.r U*1+Z) ?_ rfl (λj a C=>?_) rfl;grind
           .cases j with
            |succ j=>simp at C|zero=>
             simp only[WZ,WJ]at C;subst C;refine⟨x,by rw[<-k1];congr 1;omega,?_⟩;cases k2;refine ZH ?_;show((IP 0 (.C (.f H.length 1) H) row).A U).j=_;rw[xG];show(A7 (b9 1 H.length<|E.D U H) (row.j U) 0).j=_;unfold A7;have ad:H.length=(E.D U H).length:=by rw[E.H,Xc]
             rw[ad,Xp (l:=b9 _ _ _),mU,E.H,XQ,WV I];rfl
          exact Zl
         exact Zl
    cases q
   .rename_i L e T ph w;cases g:Nat.beq z T&&Nat.ble (Z+n) z with
    |false=>exact Zl|true=>
     simp only[Xa];simp only[WK,Xy,XX]at g;obtain⟨rfl,g⟩:=g;refine OKp.g.f λ_ s1 _ _ f=>Zo λc D=>?_;have f:=E2 f;rw[j5]at f;obtain⟨i,o,y,B,q,_,X,k,rfl,K,Q⟩| ⟨B,L',e',ai,ak,q,h3,_⟩:=J.f b _ w
     .cases C with
      |ptr _ _ _ _ R S h A=>rw[B]at h;simp only[WJ,WL]at h;obtain⟨rfl,rfl⟩:=h;exact fS p q rfl K A f g D
     .cases C with
      |ptr _ _ _ _ R S h A=>grind
   exact Zl;exact Zl
   .split
    .rename_i L e T w;cases g:Nat.beq z T&&Nat.ble (Z+n) z with
     |false=>exact Zl|true=>
      simp only[Xa];simp only[WK,Xy,XX]at g;obtain⟨rfl,g⟩:=g;refine OKp.g.f λ_ s1 _ _ f=>Zo λc D=>?_;have f:=E2 f;rw[j5]at f;rcases J.N _ (bX w)with⟨i,o,X,k,B,q,K⟩| ⟨B,q⟩
      .cases C with
       |ptr _ _ _ _ R S h A=>rw[B]at h;simp only[WJ,WL]at h;obtain⟨rfl,rfl⟩:=h;exact fS p (J.p _ _ q) rfl K A f g D
      .cases C with
       |ptr _ _ _ _ R S h A=>grind
    exact Zl
  .rename_i row Z;refine Zp ?_;split
   .rename_i b L z I;cases g:Nat.ble (Z+n) z with
    |false=>exact Zl|true=>
     rw[Xa];refine OKp.g.f λ_ s1 _ _ f=>Zo λc D=>?_;have f:=E2 f;rw[j5]at f;let⟨_,_,_,X,q,h3⟩:=lI J I;cases C with
     |rp _ _ A=>exact Jb p q h3 A f (WN g) D
   exact Zl
  .rename_i e L row Z;cases g:Nat.ble (Z+n) (kf P e).length with
   |false=>exact Zl|true=>
    simp only[Xa];refine Zo λc D=>?_;cases C with
    |pptr _ _ _ _ i o l c' h A B=>
     generalize G:L.z U=rows at h B;cases h with
     |sl _ _ _ _ y X k z rows x hF w aj hn hz I hx ae=>
      have ah:C4 P F e z o k X (L.z U):=by rw[G];exact⟨hn,hz,I,λr k row d O N=>⟨x r k,hx r k row d O N,λkd ab=>ae r k row kd d O N ab⟩⟩
      rw[<-hz]at g⊢;exact fS p (J.p _ _ hF) w ah A (by rw[G];exact B) (WN g) D
  exact Zl
end
def mfz (b:Nat)(L:E)(e z:Nat):M Unit:=λs=>.j ((),{s with r:=(b,L,e,z)::s.r})
def mJ (b:Nat)(x:Bb C8):M Unit:=λs=>.j ((),s.j b x)
def Rz :Nat->As->As
 |0,_=>[]
 |n+1,a=>a++Rz n a
def Bw :SV->Bool
 | .w _| .A _| .r=>false
 |_=>true
section
variable (P :Aw)(U:Ab)
def sbox (e:Ax)(l:As):M SV:=d8 (gI<|.f l e l.length) λb=>i6<|.g b l.length (.w 0) 0
def kC (t:Ax)(len:Nat)(a:List (Nat×SV)):M SV:=
 match P.underlying t with
 |some (.slice e)=>match P.info? e with
  |some c=>match uJ P e with
   | some z => bif Nat.beq z.length  c.size && Nat.ble (len *  c.size) 16777216 && Nat.ble len 16777216 then
     match uH (λi=>some (i*c.size,c.size)) (Rz len z) a with
     |some d=>d8 (gI<|.f d e c.size) λb=>i6<|.z b c.size (.w 0) (.w len)<|.f<|.w len
     |none=>c9 "buildSlice"
    else c9 "buildSlice"
   |none=>c9 "buildSlice: zero"
  |none=>c9 "buildSlice: type"
 |_=>c9 "buildSlice: type"
def Kc :E->Ai
 | .w k=>bif decide (0<=k)&&decide (k<=64)then some k.toNat else none|_=>none
def CQ {U:Ab}{c:E}{n:Nat}(h:Kc c=n):n=c.r U:=by
 unfold Kc at h;split at h
 .rename_i k;cases a:decide (0<=k)&&decide (k<=64)with
  |false=>grind|true=>rw[a,Xa,WJ]at h;rw[<-h];rfl
 cases h
def oI (t:Ax)(l c:SV):M SV:=
 match l,c with
 | .f _ ln,.f _ d=>match P.underlying t with
  |some (.slice e)=>match P.info? e with
   |some a=>match uJ P e with
    | some z => bif Nat.ble  a.bytes 1048576 && Nat.beq z.length  a.size then
      d8 (u6 U<|A4<|A5 ln<|.w 0) λ_=>d8 (u6 U<|A4<|A5 d ln) λ_=>d8 (u6 U<|A5 d<|.w 1048577) λ_=>
      match Kc d with
      |some k=>d8 (gI<|.f (Rz k z) e a.size) λb=>i6<|.z b a.size (.w 0) ln<|.f d
      | none => bif Nat.beq (kf P e).length  a.size && Nat.ble 1  a.size then
        match NR (kf P e) 0 z with
        |some f=>d8 (gI<|.g (.C .rep<|d::f) e a.size d) λb=>i6<|.z b a.size (.w 0) ln<|.f d
        |none=>c9 "makeSlice: zero"
       else c9 "makeSlice: kinds"
     else c9 "makeSlice: size"
    |none=>c9 "makeSlice: zero"
   |none=>c9 "makeSlice: type"
  |_=>c9 "makeSlice: type"
 |_,_=>c9 "makeSlice: no ints"
def aT (L off len:E):M E:=
 match off with
 | .w m=>bif decide (m=0)&&E.J len (C2 L)then d8 (u6 U<|I4 len<|C2 L) λ_=>i6 (mI L)else i6 (.C .q [L,off,len])
 |_=>i6<|.C .q [L,off,len]
def uA (f:Kd->SV->M E)(b:List Kd):Nat->As->M (Au)
 |_,[]=>i6 []|j,a::l=>match b[j % b.length]? with
  |some k=>d8 (f k a) λe=>d8 (uA f b (j+1) l) λc=>i6<|e::c
  |none=>c9 "data: kind"
def By :Nat->Kd->SV->M E
 |0,_,_=>c9 "data: depth"|d+1,k,a=>match RO k a with
  |some e=>i6 e|none=>match k,a with
   | .f e,.z b z off len _=>z7 λs=>match s.f b with
    | some (.g L  c  f _) => bif Nat.beq e  c && Nat.beq z  f then
      d8 (u6 U<|A4<|A5 (C2 L)<|A3 off len) λ_=>d8 (mJ b none) λ_=>d8 (mfz b L e z) λ_=>aT U L off len
     else c9 "data: type"
    | some (.f l  c  f) => bif Nat.beq e  c && Nat.beq z  f && Nat.beq z (kf P e).length && Nat.beq (l.length / z * z) l.length then
      d8 (u6 U<|A4<|A5 (.w (l.length/z:Nat))<|A3 off len) λ_=>d8 (mJ b none) λ_=>
      d8 (uA (By d) (kf P e) 0 l) λg=>d8 (mfz b (.C (.f (l.length/z) z) g) e z) λ_=>aT U (.C (.f (l.length/z) z) g) off len
     else c9 "data: type"
    |some (.j _ _)=>c9 "data: no block"|some (.m _ _ _)=>c9 "data: no block"|none=>match lk s.r b with
     | some (L,  c,  f) => bif Nat.beq e  c && Nat.beq z  f then
       d8 (u6 U<|A4<|A5 (C2 L)<|A3 off len) λ_=>aT U L off len
      else c9 "data: type"
     |none=>c9 "data: no block"
   |_,_=>c9 "data: value"
def HK (L row:E):Nat->Au->E
 |_,[]=>L|j,e::a=>HK (.C (.L j) [L,row,e]) row (j+1) a
def CB (b:Nat):M Unit:=z7 λs=>match s.f b with
 |some (.f l e z)=>match zR P e z l with
  |some L=>mJ b<|some<|.g L e z<|.w (l.length/z:Nat)|none=>c9 "rows"
 |_=>i6 ()
def phT (ph L:E):Bool:=match ph with
 | .w _=>false|ph=> !(E.J ph<|C2 L)
def oJ (b z:Nat)(row:E)(a:Nat)(vs:As):M SV:=z7 λs=>match s.f b with
 | some (.g _ e _ _) => bif Nat.ble (  a + vs.length) z && Nat.beq z (kf P e).length then
   d8 (uA (By P U 20) (kf P e) a vs) λd=>z7 λs=>match s.f b with
   | some (.g L  c  f ph) => bif Nat.beq e  c && Nat.beq z  f then
     bif phT ph L&&Nat.beq z 1&&Nat.beq a 0&&Nat.beq d.length 1 then
      d8 (u6 U<|A4<|A5 (C2 L) row) λ_=>d8 (u6 U<|A5 row ph) λ_=>d8 (mJ b<|some<|.g (.C .g [L,row,.C (.f 1 1) d]) c f ph) λ_=>i6<|.A []
     else d8 (u6 U<|A5 row<|C2 L) λ_=>d8 (mJ b<|some<|.g (HK L row a d) c f ph) λ_=>i6<|.A []
    else c9 "store: type"
   |_=>c9 "store: block"
  else c9 "store: beyond"
 |_=>c9 "store: no rows"
def EW (row:E)(a:Nat)(vs:As):M SV:=z7 λs=>match Bx s with
 | some (_, _, z) => bif Nat.ble (  a + vs.length) z then
   d8 (uA (By P U 20) (kf P rgT) a vs) λd=>z7 λs=>match Bx s with
   | some (b, L,  c) => bif Nat.beq z  c then
     d8 (u6 U<|A5 row<|C2 L) λ_=>d8 (mJ b<|some<|.m b (HK L row a d) c) λ_=>i6<|.A []
    else c9 "store: type"
   |none=>c9 "store: region"
  else c9 "store: beyond"
 |none=>c9 "store: region"
def Mo (l:As):M SV:=z7 λs=>match Bx s with
 | some (_, _, z) => bif Nat.beq l.length z && Nat.ble 1 z && l.all Bw then
   d8 (uA (By P U 20) (kf P rgT) 0 l) λa=>z7 λs=>match Bx s with
   |some (b,L,c)=>bif Nat.beq z c then d8 (mJ b<|some<|.m b (J0 L<|.C (.f 1 z) a) z) λ_=>i6 (.J (C2 L) 0)else c9 "new: region"
   |none=>c9 "new: region"
  else c9 "new: size"
 |none=>c9 "new: region"
def hset (k:IntKind)(a:Au)(row w:E):As:=(List.range a.length).map λj:Nat=>.f k<|IP 0 (.C .g [.C (.f a.length 1) a,row,.C (.f 1 1) [w]])<|.w (j:Int)
def EY (b:Nat)(l:As)(e z:Nat)(row:E)(a:Nat):As->M SV:=
 have _:=U
 λ_=>c9 "store"
def Kj (t:Ax)(a x:SV):M SV:=
 match P.info? t with
 |none=>c9 "store: type"|some f=>match H3 x with
  |none=>c9 "store: value"|some vs=>bif Nat.beq vs.length f.size&&vs.all Bw then
   match a with
   | .g b z row c=>z7 λs=>match s.f b with
    |some (.f l e d)=>match row with
     | .w r => bif decide (0 ≤ r) && Nat.ble (r.toNat * z +   c + vs.length) l.length then
       d8 (mJ b<|some<|.f (W6 l (r.toNat*z+c) vs) e d) λ_=>i6 (.A [])else c9 "store: beyond"
     |row=>bif Nat.beq z 1&& !Nat.beq d 1&&Nat.ble c l.length then EY U b l e d row c vs else d8 (CB P b) λ_=>oJ P U b z row c vs
    |some (.g _ _ _ _)=>oJ P U b z row c vs|_=>c9 "store: no block"
   | .J row c=>EW P U row c vs|_=>c9 "store: no address"
   else c9 "store: size"
end
section
variable {P :Aw}{U:Ab}{Y:Tau}{F:Ac}{s:SS}{Z:Hp}
def OKh.j {x:C8}{y:Blk}(c:SD P U Y F s Z)(k:∀a,Tle Y a->BD P U a F 0 x y):OKh P U (gI x) Y F s Z λb a d hp'=>d=F/\a b=some (some (Z.d,0))/\hp'=⟨Z.m.m Z.d<|some y,Z.d+1⟩:=by
 intro Q j _;let⟨f,g⟩:=c.H (hp':=⟨Z.m.m Z.d<|some y,Z.d+1⟩) (Yq _) (λi h=>Su Z y i h)
  (.inl ⟨Z.d,0,y,rfl,Xh _,Yd _,by simp[ZD],k _<|dT _ (c.g _<|Xh _)⟩)
 exact⟨s.g,_,j,_,F,_,f,g,rfl,y6 _ _ _,rfl⟩
def P3 (vs:Af)(j:Nat)(x:Av)(h:vs[j]? =some x):(fill .e 0 vs).l j=x:=by rw[j6,Xg<|by grind];grind
variable {l:As}{vs:Af}
def dZ (h:VDL P U Y F l vs)(e z:Nat):BD P U Y F 0 (.f l e z) (J2 vs e z):=by refine⟨fill .e 0 vs,vs.length,rfl,by rw[h.1];omega,λj a d=>?_⟩;let⟨x,b,c⟩:=h.p d;exact⟨x,by rw[Xq];exact P3 vs j x b,c⟩
def Mb {e:Ax}(h:VDL P U Y F l vs)(j:SD P U Y F s Z):OKh P U (sbox e l) Y F s Z λa c f d=>(a,d)=(a,(Z.g ⟨J2 vs e vs.length,.f,rfl⟩).2)/\VD P U c f a (Z.g ⟨J2 vs e vs.length,.f,rfl⟩).1:=by refine(OKh.j (y:=J2 vs e vs.length) j λc m=>?_).f λb c f o d _ k ⟨n,g,i⟩=>?_;rw[h.1];exact dZ (h.m m<|Ze F) e vs.length;subst i;exact Zk ⟨rfl,VD.ptr' g (by show(0:Int)<=0;omega) (by show 0=0+(0:Int).toNat*_+0;simp)⟩
def vY {l:As}{vs:Af}(h:VDL P U Y F l vs):∀n,VDL P U Y F (Rz n l) (xrep n vs)
 |0=>ZK|n+1=>h.j<|vY h n
def Ap {t:Ax}{len:Nat}{m:List (Nat×SV)}{o:List (Nat×Av)}(h:PVD P U Y F m o)(w:SD P U Y F s Z):OKh P U (kC P t len m) Y F s Z λa c g f=>∃n,KB P t len o=some n/\f=(Z.g n).2/\VD P U c g a (Z.g n).1:=by
 rw[kC];split
 .rename_i e v;split
  .rename_i d j;split
   .rename_i z B;obtain⟨H,q,k⟩:=fC B;rw[k.1];cases l:Nat.beq H.cells.toList.length d.size&&Nat.ble (len*d.size) 16777216&&Nat.ble len 16777216 with
    |false=>exact Zi|true=>
     simp only[Xa];split
     .rename_i I i;obtain⟨G,r,u⟩:=kD (vY k len) h i;refine(OKh.j w λc y=>dZ (u.m y<|Ze F) e d.size).f λb c g L f _ x ⟨K,C,D⟩=>?_;subst D;refine Zk ⟨⟨J2 G e d.size,.d len len,rfl⟩,?_,rfl,?_⟩;simp only[KB,v,j,q,l,Xa,r]
      .have A:len<unk:=by simp at l;rw[unk];omega
       have:=VD.sl (P:=P) (U:=U) (F:=g) b d.size (.w 0) (.w len) (.f<|.w len) Z.d 0 len C (Yg 0) (Int.natCast_nonneg len) ⟨Int.natCast_nonneg len,(Xz len).symm,A,Yg _⟩;have J:=Xz len;have p:(E.w 0).r U*d.size=0:=by show(0:Int).toNat*_=0;simp
       rwa[p]at this
     exact Zi
   exact Zi
  exact Zi
 exact Zi
def xrep_length (n:Nat)(vs:Af):(xrep n vs).length=n*vs.length:=by
 induction n with
 |zero=>simp[xrep]|succ n a=>simp[xrep,a,Yj];omega
def fF {z:Nat}{vs:Af}(b:vs.length=z):∀ {n r k:Nat},r<n->k<z->(xrep n vs)[r*z+k]? =vs[k]?
 |0,r,k,h,_=>by omega|n+1,0,k,_,a=>by simp only[xrep,YC,Xq];rw[WS<|by omega]|n+1,r+1,k,h,a=>by simp only[xrep];rw[WR<|by grind,b,show(r+1)*z+k-z=r*z+k by rw[Yj];omega];exact fF b (by omega) a
theorem BE {t:Ax}{a b:SV}{v u:Av}(ha:VD P U Y F a v)(K:VD P U Y F b u)(hs:SD P U Y F s Z):OKh P U (oI P U t a b) Y F s Z λc f M p=>∃n,Od P t v u=some n/\p=(Z.g n).2/\VD P U f M c (Z.g n).1:=by
 unfold oI;split
 .rename_i k1 ln k2 g;cases ha;cases K;split
  .rename_i e he;split
   .rename_i h O;split
    .rename_i z hz;obtain⟨L,h1,J⟩:=fC hz;rw[J.1];cases K:Nat.ble h.bytes 1048576&&Nat.beq L.cells.toList.length h.size with
     |false=>exact Zi|true=>
      refine Zg Zm λ_ s1 _ ab p1=>Zg Zm λ_ s2 _ ac p2=>Zg Zm λ_ s3 _ H p3=>?_;have n1:=aZ p1;have n2:=B7 p2;have n3:=E2 p3;simp only[D5]at n3;simp only[WK,XX,Xy]at K;have S:Od P t (.int k1<|ln.j U) (.int k2<|g.j U)=some ⟨J2 (xrep (g.r U) L.cells.toList) e h.size,.d (ln.r U)<|g.r U,rfl⟩:=by simp only[Od,he,O,h1];rw[show(decide (0<=ln.j U)&&decide (ln.j U<=g.j U)&&decide (g.j U<=1048576)&&Nat.ble h.bytes 1048576&&Nat.beq L.cells.toList.length h.size)=true by simp only[WK,Xf,XX,Xy];exact(by grind)];rfl
      have m:∀(f:Tau) (i:Nat),f i=some (some (Z.d,0))->VD P U f F (.z i h.size (.w 0) ln<|.f g) (.slice (some ⟨Z.d,0,none⟩) (ln.r U)<|g.r U):=by
       intro f i T;have hu:g.r U<unk:=by unfold unk;show(g.j U).toNat<_;omega
       have:=VD.sl (P:=P) (F:=F) i h.size (.w 0) ln (.f g) Z.d 0 (g.r U) T (Yg 0) n1 ⟨by omega,rfl,hu,n2⟩;have e2:(E.w 0).r U*h.size=0:=by show(0:Int).toNat*_=0;simp
       grind
      split
      .rename_i k w;rw[<-CQ w]at S;have q:∀(f:Tau) (i:Nat),f i=some (some (Z.d,0))->VD P U f F (.z i h.size (.w 0) ln<|.f g) (.slice (some ⟨Z.d,0,none⟩) (ln.r U) k):=by rw [CQ w]; exact m
       refine(OKh.j H λf ht=>dZ (vY (J.m ht<|Ze F) _) e h.size).f λi f M s' p _ R ⟨V,W,X⟩=>?_;subst V;subst X;exact Zk ⟨_,S,rfl,q f i W⟩
      .cases w:Nat.beq (kf P e).length h.size&&Nat.ble 1 h.size with
       |false=>exact Zi|true=>
        simp only[Xa];simp only[WK,XX,Xy]at w;split
        .rename_i B N;obtain⟨t1,t2⟩:=AV N;have j:=K.2;have aa:B.length=h.size:=by rw[t1,J.1,j]
         refine(OKh.j (y:=J2 (xrep (g.r U) L.cells.toList) e h.size) H λf ht=>?_).f λi f M s' p _ R ⟨V,W,X⟩=>?_
         .have hL:(E.C .rep<|g::B).z U=List.replicate (g.r U) (B.map<|E.A U):=by show(Dat.l<|List.replicate _<|E.D U B).m=_;rw[E.H];rfl
          refine⟨_,_,rfl,?_,?_⟩
          .rw[hL];refine⟨by rw[xrep_length,j];simp,w.1.symm,λr A=>?_,λr k row d A o=>?_⟩;grind
           .rw[List.getElem?_replicate]at A;split at A
            .rename_i Q;simp only[WJ]at A;subst A;have G:k<h.size:=by grind
             rw[XQ]at o;cases C:B[k]? with
             |none=>grind|some x=>
              simp only[C,XH,WJ]at o;have I:z[k]? =some (z[k]'(by omega)):=by grind
              obtain⟨y,w1,w2⟩:=J.p I;obtain⟨kd,w3,w4⟩:=t2 k _ _ I C;refine⟨y,?_,λad D=>?_⟩;rw[Xq];exact P3 _ _ _ (by rw[fF j Q G];exact w1);rw[Xq,w.1,YQ G,D,WJ]at w3;subst w3;rw[<-o];exact Fk w2 w4
            cases A
          rw[xrep_length,j];omega
         subst V;subst X;exact Zk ⟨_,S,rfl,m f i W⟩
        exact Zi
    exact Zi
   exact Zi
  exact Zi
 exact Zi
end
section
variable {P :Aw}{U:Ab}{X:Tau}{F:Ac}{s:SS}{W:Hp}
def wR {len:E}{cap:Cp}{c:Nat}(h:pC U len cap c)(g:0<=len.j U):BU (len.r U) c:=by
 cases cap with
 |f e=>let⟨a,b,d,i⟩:=h;exact .inl (by grind)
 |g=>let⟨f,a,b,d⟩:=h;exact .inr (by grind)
 |j=>obtain⟨a,b,d⟩| ⟨f,a,b,d⟩:=h;exact .inl (by grind);exact .inr (by grind)
variable {off:Int}
def Z8 {rows:a8}{len:Int}(a:0<=off)(b:0<=len)(c:off+len<=rows.length):(pQ rows off len).length=len.toNat:=by rw[pQ];grind
def jR {rows:a8}{len:Int}{r:Nat}{row:Ar}(h:(pQ rows off len)[r]? =row):rows[off.toNat+r]? =row:=by rw[pQ] at h;grind
theorem PV.of_rows {F:Ac}{e q z a o n i c:Nat}{g:Ao}{rows:a8}{len:Int}(B:F i=some (.cells g n q a))(m:a=z)(j:C4 P F e z o n g rows)(w:0<=off)(y:0<=len)(A:off+len<=rows.length)(I:BU len.toNat c):PV P F (.f e) (.slice (some ⟨i,o+off.toNat*z,none⟩) len.toNat c) (.l<|pQ rows off len):=by
 subst m;let⟨H,s,t,u⟩:=j;have D:=Z8 w y A;have E:∀(r k:Nat),∃x,∀row d,(pQ rows off len)[r]? =some row->row[k]? =some d->g.l (o+off.toNat*a+r*a+k)=some x/\ ∀p,(kf P e)[k]? =some p->PV P F p x d:=by
  intro r k;cases b:(pQ rows off len)[r]? with
  |none=>exact⟨undef,λrow d h=>by grind⟩|some row=>
   cases C:row[k]? with
   |none=>exact⟨undef,λf d h v=>by grind⟩|some d=>let⟨x,J,K⟩:=u _ k row d (jR b) C;refine⟨x,λf G h v=>?_⟩;grind
 have:=PV.sl e i (o+off.toNat*a) c _ g n a (pQ rows off len) (λr k=>(E r k).choose) B rfl ⟨by grind,.mk⟩
  (by
   rw[D];have:off.toNat*a+len.toNat*a<=rows.length*a:=by rw[<-Xu];exact WW a (by omega)
   omega) s (λr j=>t r<|YA<|Yz j)
 grind
def D9 {L off len:E}:OKp U (aT U L off len) s λe=>e.A U= .l (pQ (L.z U) (off.j U)<|len.j U):=by
 unfold aT;split
 .rename_i m;cases a:decide (m=0)&&E.J len (C2 L)with
  |false=>exact Zq rfl|true=>
   simp at a;refine OKp.g.f λ_ s1 _ _ h=>Zq ?_;have h:=dB h;rw[j5]at h;rw[pP];rw[pQ];have b:((E.w m).j U).toNat=0:=by rw[a.1];rfl
   rw[b,h,Xz,YJ,List.take_length]
 exact Zq rfl
variable {b:Nat}
def OKh.w :OKh P U (mJ b none) X F s W λ_ c d a=>c=X/\d=F/\a=W:=λQ g h=>by let⟨e,f⟩:=h.J b;exact⟨(),_,g,X,F,W,e,f,rfl,rfl,rfl⟩
def OKh.m {i o:Nat}{x:C8}(h:s.f b=x)(n:X b=some (some (i,o))){y:Blk}(j:W.m.l i=y):OKh P U (mJ b none) X F s W λ_ d a c=>d=X/\c=W/\a i=y:=λQ k l=>by let⟨a,p,e,f,g⟩:=l.R h n j;exact⟨(),_,k,X,a,W,f,g,rfl,rfl,e⟩
def OKh.C {L:E}{e z:Nat}(h:MG P U X F (b,L,e,z)):OKh P U (mfz b L e z) X F s W λ_ g i c=>g=X/\i=F/\c=W:=λQ j a=>by refine⟨(),_,j,X,F,W,?_,⟨a.f,a.A,a.p,a.C,a.B,a.g,a.I,λr d=>?_⟩,rfl,rfl,rfl⟩;have h:=Ext.H a;exact⟨h.t,h.f,h.q,h.r,h.A,h.w,h.B,h.I,h.C⟩;obtain rfl|d:=Xw.1 d;exact h;exact a.N r d
def eR {f:Kd->SV->M E}{ks:List Kd}(p:∀k a v X F s W,VD P U X F a v->SD P U X F s W->OKh P U (f k a) X F s W λe c g b=>c=X/\b=W/\PV P g k v (e.A U)):∀ {l:As} {vs:Af} {j:Nat} {X:Tau} {F:Ac} {s:SS} {W:Hp},VDL P U X F l vs->SD P U X F s W->OKh P U (uA f ks j l) X F s W λi c g b=>c=X/\b=W/\i.length=l.length/\ ∀(q:Nat) x e,vs[q]? =some x->i[q]? =some e-> ∃w,ks[(j+q) % ks.length]? =some w/\PV P g w x (e.A U)
 | [],vs,j,X,F,s,W,h,r=>Zk (by grind)|a::l,vs,j,X,F,s,W,h,r=>by
  obtain⟨y,V,rfl,G,H⟩:=h.f;rw[uA];split
  .rename_i k I;refine(p k a y X F s W G r).f λe N Q s1 J ex n ⟨z,A,B⟩=>?_;subst z;subst A;refine(eR p (H.m ex.t ex.f) n).f λi O R s2 K m L ⟨C,D,S,T⟩=>Zk ⟨C,D,by grind,λq x d u o=>?_⟩;cases q with
   |zero=>simp at u o;subst u;subst o;exact⟨k,I,B.O P m.f⟩|succ q=>grind
  exact Zi
def dE :∀(d:Nat) (k:Kd) (a:SV) (v:Av) (X:Tau) (F:Ac) (s:SS) (W:Hp),VD P U X F a v->SD P U X F s W->OKh P U (By P U d k a) X F s W λe ak F' ac=>ak=X/\ac=W/\PV P F' k v (e.A U)
 |0,k,a,v,X,F,s,W,A,hs=>Zi|d+1,k,a,v,X,F,s,W,A,hs=>by
  unfold By;split;rename_i e G;exact Zk ⟨rfl,rfl,Fk A G⟩
  .split
   .rename_i e b z off len cap _;refine Zj ?_;split
    .rename_i L Q z' ph hb;cases O:Nat.beq e Q&&Nat.beq z z' with
     |false=>exact Zi|true=>
      simp only[Xa];simp only[WK,Xy]at O;obtain⟨rfl,rfl⟩:=O;refine Zg Zm λ_ s1 o1 H p=>?_;have p:=B7 p;rw[l9,j5]at p;have C:s1.f b=some (.g L e z ph):=by rw[o1.f];exact hb
      obtain⟨i,o,y,q,w,_,J,n,rfl,N,h5⟩| ⟨q,L',Q,z',an,w,h3,_⟩:=H.f b _ C
      .cases A with
       |sl _ _ _ _ _ i' o' c h u g B=>
        rw[q]at h;simp only[WJ,WL]at h;obtain⟨rfl,rfl⟩:=h;refine(OKh.m C q w).f λ_ I F2 s2 ad ex aa ⟨S,T,K⟩=>?_;subst S;subst T;have ah:C4 P F2 e z o n J (L.z U):=⟨N.1,N.2.1,N.2.2.1,λr k row d w1 w2=>let⟨x,w3,w4⟩:=N.2.2.2 r k row d w1 w2;⟨x,w3,λkd w5=>(w4 kd w5).O P ex.f⟩⟩
        refine(OKh.C<|.inl ⟨i,o,J,n,q,K,ah⟩).f λ_ al F3 s3 ae V ai ⟨f1,f2,f3⟩=>?_;subst f1;subst f2;subst f3;refine OKh.f D9 λc' G=>⟨rfl,rfl,?_⟩
        rw[G];exact PV.of_rows K rfl ah u g p<|wR B g
       |sl0 _ _ _ _ _ h u g B=>grind
      .cases A with
       |sl _ _ _ _ _ i' o' c h u g B=>grind|sl0 _ _ _ _ _ h u g B=>
        refine OKh.w.f λ_ I F2 s2 ad ex aa ⟨S,T,K⟩=>?_;subst S;subst T;subst K;simp only[C8.g.injEq]at w;obtain⟨rfl,_⟩:=w;refine(OKh.C<|.inr ⟨q,h3⟩).f λ_ al F3 s3 ae V ai ⟨f1,f2,f3⟩=>?_;subst f1;subst f2;subst f3;refine OKh.f D9 λc' G=>⟨rfl,rfl,?_⟩
        rw[G,h3];have:pQ [] (off.j U) (len.j U)=[]:=by simp[pQ]
        rw[this];exact .N _
    .rename_i l Q z' hb;cases O:Nat.beq e Q&&Nat.beq z z'&&Nat.beq z (kf P e).length&&Nat.beq (l.length/z*z) l.length with
     |false=>exact Zi|true=>
      simp only[Xa];simp only[WK,Xy]at O;obtain⟨⟨⟨rfl,rfl⟩,hz⟩,hN⟩:=O;refine Zg Zm λ_ s1 o1 H p=>?_;have p:=B7 p;rw[l9]at p;simp only[D5]at p;have C:s1.f b=some (.f l e z):=by rw[o1.f];exact hb
      obtain⟨i,o,y,q,w,_,J,n,rfl,N,h5⟩| ⟨q,L',Q,z',an,w,h3,_⟩:=H.f b _ C
      .cases A with
       |sl _ _ _ _ _ i' o' c h u g B=>
        rw[q]at h;simp only[WJ,WL]at h;obtain⟨rfl,rfl⟩:=h;refine(OKh.m C q w).f λ_ I F2 s2 ad ex aa ⟨S,T,K⟩=>?_;subst S;subst T;let⟨vs,v1,v2,v3⟩:=B6 (c:=J) (R:=λj x=>∀a,l[j]? =some a->VD P U I F2 a x) l.length o 0 λj hj=>by
         have:l[j]? =l[j]:=by simp[hj]
         let⟨x,k1,k2⟩:=h5 j _ this;exact⟨x,k1,λa A=>by rw[Xq,this]at A;cases A;exact k2.mono ex.t ex.f⟩
        refine(eR (λk a v X F s W=>dE d k a v X F s W) ⟨v2.symm,λj a x A hx=>v3 j x hx a<|by rw[Xq];exact A⟩ aa).f λes al F3 s3 ae V ai ⟨f1,f2,f3,f4⟩=>?_;subst f1;subst f2;have ab:F3 i=some (.cells J n e z):=V.f _ _ K;have D:C4 P F3 e z o n J ((E.C (.f (l.length/z) z) es).z U):=by
         refine dW hz (by rw[f3,hN]) (by rw[f3];exact N) λj x hx=>?_;have hj:j<l.length:=by grind
         have aj:vs[j]? =(vs[j]'(by omega)):=by grind
         obtain⟨kd,w1,w2⟩:=f4 j _ _ aj hx;refine⟨_,by rw[<-(u7 v1).2 j hj];exact aj,λav ap=>?_⟩;grind
        refine(OKh.C<|.inl ⟨i,o,J,n,q,ab,D⟩).f λ_ aw F4 s4 aq ao au ⟨g1,g2,g3⟩=>?_;subst g1;subst g2;subst g3;refine OKh.f D9 λc' G=>⟨rfl,rfl,?_⟩
        rw[G];refine PV.of_rows ab rfl D u g ?_ (wR B g);have:((E.C (.f (l.length/z) z) es).z U).length=l.length/z:=by show(b9 z (l.length/z) _).length=_;rw[Q3]
        grind
       |sl0 _ _ _ _ _ h u g B=>grind
      cases w
    exact Zi;exact Zi
    .split
     .rename_i L Q z' hb;cases O:Nat.beq e Q&&Nat.beq z z' with
      |false=>exact Zi|true=>
       simp only[Xa];simp only[WK,Xy]at O;obtain⟨rfl,rfl⟩:=O;refine Zg Zm λ_ s1 o1 H p=>?_;have p:=B7 p;rw[l9,j5]at p;refine OKh.f D9 λc' G=>⟨rfl,rfl,?_⟩
       rw[G];rcases hs.N _ (bX hb)with⟨i,o,J,n,q,w,N⟩| ⟨q,w⟩
       .cases A with
        |sl _ _ _ _ _ i' o' c h u g B=>rw[q]at h;simp only[WJ,WL]at h;obtain⟨rfl,rfl⟩:=h;exact PV.of_rows w rfl N u g p<|wR B g
        |sl0 _ _ _ _ _ h u g B=>grind
       .cases A with
        |sl _ _ _ _ _ i' o' c h u g B=>grind|sl0 _ _ _ _ _ h u g B=>
         have:pQ [] (off.j U) (len.j U)=[]:=by simp[pQ]
         rw[w,this];exact .N _
     exact Zi
   exact Zi
where
 OKh.f {m:M E} {R:E->Prop} {R':E->Tau->(Ac)->Hp->Prop} {X:Tau} {F:Ac} {s:SS} {W:Hp} (h:OKp U m s R) (hr:∀e,R e->R' e X F W):OKh P U m X F s W R':=
  (h.C (P:=P) (Z:=X) (F:=F) (Y:=W)).g λa ak F' ac _ _ ⟨S,T,K,e4⟩=>by subst S;subst T;subst K;exact hr a e4
end
section
variable {P :Aw}{U:Ab}{X:Tau}{F:Ac}{s:SS}{Y:Hp}
def FQ {z r k b a:Nat}(d:k<z)(c:a<z)(h:r*z+k=b*z+a):r=b/\k=a:=by
 have e:(r*z+k)/z=r:=by rw[Nat.mul_comm,Nat.mul_add_div<|by omega,Nat.div_eq_of_lt d];omega
 have f:(b*z+a)/z=b:=by rw[Nat.mul_comm,Nat.mul_add_div<|by omega,Nat.div_eq_of_lt c];omega
 grind
variable {e o:Nat}{W:Ao}{x:Av}
def C4.g {F:Ac}{z n:Nat}{rows:a8}(h:C4 P F e z o n W rows){r:Int}{j:Nat}(w:j<z){d:Dat}(G:∀m,(kf P e)[j]? =some m->PV P F m x d):C4 P F e z o n (W.m (o+r.toNat*z+j)<|some x) (a9 rows r j d):=by
 let⟨C,u,v,t⟩:=h;rw[a9];refine⟨by grind,u,λrow b=>?_,λg k row p b c=>?_⟩;let⟨q,E⟩:=YV b;grind
 .rw[List.getElem?_modify]at b;cases f:rows[g]? with
  |none=>grind|some a=>
   have D:=v a<|WT f;rw[f]at b;by_cases e:r.toNat=g;simp only[e,YE,Option.map_eq_map,XH,WJ]at b;rw[<-b,List.getElem?_set]at c;by_cases s:j=k;subst s;rw[Xg rfl,Xg<|by omega,WJ]at c;refine⟨x,?_,λm A=>by grind⟩;rw[ZD,Xg<|by grind];rw[Xd s]at c;let⟨y,B,l⟩:=t g k a p f c;refine⟨y,?_,l⟩;rw[ZD,Xd];grind;grind
   .simp only[e,if_false,Option.map_eq_map,XH,WJ]at b;subst b;let⟨y,B,l⟩:=t g k a p f c;have i:k<z:=by grind
    refine⟨y,?_,l⟩;rw[ZD,Xd];grind;intro h;exact e (FQ i w<|by omega).1.symm
def sY {F:Ac}{e z o n:Nat}{row:E}(f:0<=row.j U):∀ {es:Au} {vs:Af} {L:E} {W:Ao} {fld:Nat},C4 P F e z o n W (L.z U)->es.length=vs.length->fld+es.length<=z->(∀(q:Nat) x d,vs[q]? =some x->es[q]? =some d-> ∀a,(kf P e)[fld+q]? =some a->PV P F a x (d.A U))->C4 P F e z o n (fill W (o+row.r U*z+fld) vs) ((HK L row fld es).z U)
 | [],[],L,W,fld,h,_,_,_=>h|d::es,x::vs,L,W,fld,h,c,j,Y=>by
  have i:=sY f (L:= .C (.L fld) [L,row,d]) (fld:=fld+1) (h.g (r:=row.j U) (by grind)<|λa b=>Y 0 x d rfl rfl a b) (by simpa using c) (by grind)
   (λq y w l k a b=>Y (q+1) y w (by grind) (by grind) a<|by grind)
  exact i
 | [],_::_,_,_,_,_,c,_,_=>by grind|_::_,[],_,_,_,_,c,_,_=>by grind
variable {v:Av}
def Th {a:SV}(h:VD P U X F a v)(e:Bw a):v.oneCell':=by
 cases h with
 |any=>simp[Bw]at e|agg=>simp[Bw]at e|tup=>simp[Bw]at e|lst t L b v h c=>generalize L.z U=rows at h;cases h<;>rfl
 |rpq x v h=>generalize x.j U=n at h;cases h<;>rfl
 |_=>rfl
variable {l:As}
def GR {vs:Af}(h:VDL P U X F l vs)(e:l.all Bw=true):vs.all Value.oneCell':=by
 rw[Xo]at e⊢;intro x d;let⟨i,a⟩:=YV d;have c:i<l.length:=by have:=(WM.1 a).1;rw[h.1];exact this
 have b:l[i]? =some l[i]:=by grind
 exact Th (h.2 i _ _ b a) (by grind)
def tO {t:Ax}{a:Ba}(b:P.info? t=a)(h:x.cells.toList.length=a.size)(g:x.cells.toList.all Value.oneCell'){i n z:Nat}{c:Ao}(d:Y.m.l i=some (.cells c n e z))(f:o+a.size<=n):G1 P Y t (.pointer<|some ⟨i,o,none⟩) x=some {Y with m:=Y.m.m i<|some<|.cells (fill c o x.cells.toList) n e z}:=by simp only[G1,d,b];rw[show(Nat.beq x.cells.toList.length a.size&&Nat.ble (o+a.size) n&&x.cells.toList.all Value.oneCell')=true by simp only[WK,Xy,XX];exact⟨⟨h,f⟩,g⟩];simp only[Xa,tJ,ZB]
variable {b:Nat}
def OKh.p {i:Nat}{x x':C8}(q:s.f b=x)(A:X b=some (some (i,o))){y:Blk}{m:T Blk}(u:∀j,j≠i->m.l j=Y.m.l j)(t:m.l i=y)(r:BD P U X F o x' y)(B:∀c e z f,x= .f c e z->x'= .f f e z->f.length=c.length-> ∀W n,Y.m.l i=some (.cells W n e z)-> ∃a,y= .cells a n e z/\ ∀j,j<o\/o+c.length<=j->a.l j=W.l j:=by intro _ _ _ _ h k;first| (cases h;done)| (cases k;done)):OKh P U (mJ b<|some x') X F s Y λ_ d g hp'=>d=X/\g=F/\hp'= {Y with m:=m}:=by intro Q v w;obtain⟨l,p⟩:=w.O (hp':= {Y with m:=m}) q A rfl u t r B;exact⟨(),_,v,X,F,_,l,p,rfl,rfl,rfl⟩
def Zh:type_of% @OKh.p:=@OKh.p
def jL (t:SD P U X F s Y):OKh P U (CB P b) X F s Y λ_ c f a=>c=X/\f=F/\a=Y:=by
 refine Zj ?_;split
 .rename_i l e z j;split
  .rename_i L hL;obtain⟨i,o,y,g,h,_,W,n,rfl,p,q⟩| ⟨g,v,w,A,u,h,x,_⟩:=t.f b _ j
   .have r:=sM hL p q;refine(Zh (x':= .g L e z (.w (l.length/z:Nat))) j g (λ_ _=>rfl) h ⟨W,n,rfl,r,?_⟩).g λ_ c f a _ _ ⟨d,k,m⟩=>⟨d,k,m⟩
    have d:(E.w ((l.length/z:Nat):Int)).r U=l.length/z:=Xz _;rw[d];have:l.length/z*z<=l.length:=Nat.div_mul_le_self _ _;omega
   grind
  exact Zi
 exact Zk ⟨rfl,rfl,rfl⟩
variable {a:Int}
def CI {rows:a8}{l:a8}(e:a<=rows.length){r:Nat}{row:Ar}(h:(Sx.over rows a l)[r]? =row):(r<a.toNat/\rows[r]? =row)\/(a.toNat<=r/\r<a.toNat+l.length/\l[r-a.toNat]? =row)\/(a.toNat+l.length<=r/\rows[r]? =row):=by
 rw[Sx.over] at h;have b:(rows.take a.toNat).length=a.toNat:=by grind
 by_cases c:r<a.toNat;grind;by_cases d:r<a.toNat+l.length;grind;rw[WX,WR<|by omega,b,WR<|by omega,Xx]at h;grind
def GT {rows:a8}{l:a8}(b:a<=rows.length):(Sx.over rows a l).length=Nat.max rows.length (a.toNat+l.length):=by rw[Sx.over];grind
def C4.f {z k:Nat}{rows l:a8}{news:Af}(p:C4 P F e z o k W rows)(b:a<=rows.length)(C:∀r∈l,r.length=z)(m:news.length=l.length*z)(B:o+(a.toNat+l.length)*z<=k)(D:∀(r j:Nat) (row:Ar) (d:Dat),l[r]? =some row->row[j]? =some d-> ∃x,news[r*z+j]? =some x/\ ∀g,(kf P e)[j]? =some g->PV P F g x d):C4 P F e z o k (fill W (o+a.toNat*z) news) (Sx.over rows a l):=by
 let⟨v,i,w,y⟩:=p;refine⟨?_,i,λr h=>?_,λr j row d h A=>?_⟩;rw[GT b];grind;let⟨q,n⟩:=YV h;obtain⟨_,h⟩| ⟨_,_,h⟩| ⟨_,h⟩:=CI b n;grind;grind;grind
 .rw[j6,m];obtain⟨c,h⟩| ⟨s,t,h⟩| ⟨c,h⟩:=CI b h
  .have f:j<z:=by grind
   have:r*z+z<=a.toNat*z:=by rw[<-Yj];exact WW z c
   grind
  .have f:j<z:=by grind
   have u:r*z=a.toNat*z+(r-a.toNat)*z:=by rw[<-Xu];congr 1;omega
   grind
  .have f:j<z:=by grind
   have:=WW z c;grind
variable {Z:Nat}{vs:As}
def mZ {t:Ax}{V:Ba}(N:P.info? t=some V){z:Nat}{row:E}(ha:VD P U X F (.g b z row Z) v)(hv:VDL P U X F vs x.cells.toList)(hx:x.cells.toList.length=V.size)(ho:x.cells.toList.all Value.oneCell'=true)(hs:SD P U X F s Y):OKh P U (oJ P U b z row Z vs) X F s Y λa _ _ ac=>a= .A []/\G1 P Y t v x=some ac:=by
 refine Zj ?_;split
 .rename_i L0 e z0 av an;cases K:Nat.ble (Z+vs.length) z&&Nat.beq z (kf P e).length with
  |false=>exact Zi|true=>
   simp only[Xa];simp only[WK,Xy,XX]at K;let⟨hf,hz⟩:=K;refine(eR (λk a v X F s Y=>dE 20 k a v X F s Y) hv hs).f λD aw F1 s1 J ex aq ⟨e1,e2,e3,e4⟩=>Zj ?_;split
   .rename_i L e' z' ph hb;cases K:Nat.beq e e'&&Nat.beq z z' with
    |false=>exact Zi|true=>
     simp only[Xa];simp only[WK,Xy]at K;obtain⟨rfl,rfl⟩:=K;cases hT:phT ph L&&Nat.beq z 1&&Nat.beq Z 0&&Nat.beq D.length 1 with
     |true=>
      simp only[WK,Xy]at hT;obtain⟨⟨⟨_,rfl⟩,rfl⟩,aa⟩:=hT;obtain⟨C,rfl⟩:∃C,D=[C]:=by
       match D,aa with
       | [C],_=>grind
      refine Zg Zm λ_ s2 o2 M w=>Zg Zm λ_ s3 o3 ai p2=>?_;have w:=B7 w;have p2:=E2 p2;rw[j5]at w;have u:s3.f b=some (.g L e 1 ph):=by rw[o3.f,o2.f];exact hb
      have p:=ha.mono ex.t ex.f;rcases ai.f b _ u with⟨i,o,y,G,H,_,W,n,rfl,R,h5⟩| ⟨G,L',e',z',al,H,h3,_⟩
      .cases p with
       |ptr _ _ _ _ i' o' h Q=>
        have au:x.cells.toList.length=1:=by rw[<-hv.1,<-e3];rfl
        have c:o+row.r U*1+0+V.size<=n:=by grind
        have aj:=tO N hx ho H c;have g:=C4.f (l:=[[C.A U]]) R w (by grind) (by omega)
         (by grind) (λr j q d hr I=>by
          have ae:r=0:=by grind
          subst ae;simp at hr;subst hr;have ab:j=0:=by grind
          subst ab;simp at I;subst I;obtain⟨y,S⟩:∃y,x.cells.toList[0]? =some y:=⟨_,WV<|by omega⟩
          refine⟨y,S,λkd A=>?_⟩;let⟨ak,B,O⟩:=e4 0 y C S rfl;rw[<-hz,A,WJ]at B;subst B;exact O)
        refine(Zh (x':= .g (.C .g [L,row,.C (.f 1 1) [C]]) e 1 ph) (y:= .cells (fill W (o+row.r U*1+0) x.cells.toList) n e 1) (m:=J.m.m i<|some<|.cells (fill W (o+row.r U*1+0) x.cells.toList) n e 1) u G (λj hj=>by rw[ZD,Xd hj]) (by rw[ZD,Xg rfl]) ⟨_,n,rfl,g,h5⟩).f λ_ am F3 s3 ad _ _ ⟨B,O,w3⟩=>Zk ⟨rfl,?_⟩;grind
      .cases p with
       |ptr _ _ _ _ i' o' h Q=>grind
     |false=>
     simp only[Xb];refine Zg Zm λ_ s2 o2 M w=>?_;have w:=E2 w;rw[j5]at w;have u:s2.f b=some (.g L e z ph):=by rw[o2.f];exact hb
     have p:=ha.mono ex.t ex.f;obtain⟨i,o,y,G,H,_,W,n,rfl,R,h5⟩| ⟨G,L',e',z',al,H,h3,_⟩:=M.f b _ u
     .cases p with
      |ptr _ _ _ _ i' o' h Q=>
       have ah:row.r U<(L.z U).length:=by grind
       have ao:row.r U*z+z<=(L.z U).length*z:=by rw[<-Yj];exact WW z ah
       have g1:=R.1;have c:o+row.r U*z+Z+V.size<=n:=by rw[<-hx,<-hv.1];omega
       have aj:=tO N hx ho H c;have g:=sY Q R (by rw[e3,hv.1]) (by rw[e3];exact hf) (λq y d S I kd A=>by let⟨ak,B,O⟩:=e4 q y d S I;have ap:q<D.length:=(WM.1 I).1;rw[<-hz,YQ<|by omega,A,WJ]at B;subst B;exact O);refine(Zh (x':= .g (HK L row Z D) e z ph) (m:=J.m.m i<|some<|.cells (fill W (o+row.r U*z+Z) x.cells.toList) n e z) u G (λj hj=>by rw[ZD,Xd hj]) (by rw[ZD,Xg rfl]) ⟨_,n,rfl,g,h5⟩).f λ_ am F3 s3 ad _ _ ⟨B,O,w3⟩=>Zk ⟨rfl,?_⟩;grind
     .cases p with
      |ptr _ _ _ _ i' o' h Q=>grind
   exact Zi
 exact Zi
def AZ {row:E}:∀ {es:Au} {L:E} {Z:Nat},((HK L row Z es).z U).length=(L.z U).length
 | [],L,Z=>rfl|d::es,L,Z=>by rw[HK,AZ (es:=es)];show(a9 (L.z U) _ Z _).length=_;simp[a9]
theorem Kk {t:Ax}{i:Ba}(C:P.info? t=some i){row:E}(ha:VD P U X F (.J row Z) v)(hv:VDL P U X F vs x.cells.toList)(M:x.cells.toList.length=i.size)(ho:x.cells.toList.all Value.oneCell'=true)(K:SD P U X F s Y):OKh P U (EW P U row Z vs) X F s Y λa _ _ o=>a= .A []/\G1 P Y t v x=some o:=by
 unfold EW;refine Zj ?_;split
 .rename_i b0 L0 z r;obtain⟨_,_,_,_,_,g0⟩:=lI K r;cases p:Nat.ble (Z+vs.length) z with
  |false=>exact Zi|true=>
   simp only[Xa];have hf:=WN p;have hz:=g0.2.1;refine(eR (ks:=kf P rgT) (j:=Z) (λk a v X F s Y=>dE 20 k a v X F s Y) hv K).f λf ah Q s1 e ex ad ⟨R,S,H,V⟩=>Zj ?_;subst R;subst S;split
   .rename_i b L z' g;cases p:Nat.beq z z' with
    |false=>exact Zi|true=>
     rw[Xa];have:=WO p;subst this;refine Zg Zm λ_ s2 N A D=>?_;have D:=E2 D;rw[j5]at D;have u:Bx s2=some (b,L,z):=by unfold Bx at g⊢;rw[N.h];split at g;rename_i b' aa;rw[N.f];exact g;cases g
     obtain⟨l,I,_,W,h2,h4⟩:=lI A u;cases ha with
     |rp _ _ h0=>
      have w:row.r U<(L.z U).length:=by grind
      have c:=sY (P:=P) (F:=Q) h0 (es:=f) (vs:=x.cells.toList) (fld:=Z) h4 (by rw[H,hv.1]) (by rw[H];exact hf) (λq y d hy J kd n=>by obtain⟨ae,G,O⟩:=V q y d hy J;have ac:q<f.length:=(WM.1 J).1;rw[<-hz,YQ<|by omega,n,WJ]at G;subst G;exact O);rw[Xq]at c;have B:G1 P e t (.pointer<|some ⟨row.r U,Z,some 1⟩) x=some (e.h (fill W (row.r U*z+Z) x.cells.toList) (L.z U).length rgT z):=by simp only[G1,FM,h2,C];rw[show(Nat.beq x.cells.toList.length i.size&&Nat.ble (row.r U+1) (L.z U).length&&Nat.ble (Z+i.size) z&&x.cells.toList.all Value.oneCell')=true by simp only[WK,Xy,XX];exact⟨⟨⟨M,w⟩,by rw[<-M,<-hv.1];omega⟩,ho⟩];rfl
      refine(Zh (x':= .m b (HK L row Z f) z) (m:=e.m.m 0<|some<|.reg (fill W (row.r U*z+Z) x.cells.toList) (L.z U).length rgT z) l I (λj hj=>by rw[ZD,Xd hj]) (by rw[ZD,Xg rfl]) ⟨rfl,I,_,by rw[AZ],by rw[AZ];exact c⟩).f λ_ ai F3 s3 ab _ _ ⟨G,O,w3⟩=>Zk ⟨rfl,?_⟩;rw[B,w3];rfl
   exact Zi
 exact Zi
def HC {vs:Af}(hv:VDL P U X F l vs)(N:SD P U X F s Y):OKh P U (Mo P U l) X F s Y λa I R B=>∃v,Bn Y vs=some (v,B)/\VD P U I R a v:=by
 rw[Mo];refine Zj ?_;split
 .rename_i b0 L0 z o;let⟨_,_,_,_,_,g0⟩:=lI N o;cases t:Nat.beq l.length z&&Nat.ble 1 z&&l.all Bw with
  |false=>exact Zi|true=>
   simp only[Xa];simp only[WK,Xy,XX]at t;let⟨⟨hl,ab⟩,_⟩:=t;refine(eR (ks:=kf P rgT) (j:=0) (λk a v X F s Y=>dE 20 k a v X F s Y) hv N).f λc ad S s1 i ex C ⟨e1,e2,e3,e4⟩=>Zj ?_;subst e1;subst e2;split
   .rename_i b L z' n;cases t:Nat.beq z z' with
    |false=>exact Zi|true=>
     rw[Xa];have:=WO t;subst this;let⟨u,K,_,W,h2,p⟩:=lI C n;have G:vs.length=z:=by rw[<-hv.1];exact hl
     have g:(E.C (.f 1 z) c).z U=[c.map (E.A U)]:=by show(Dat.l<|b9 z 1<|E.D U c).m=_;rw[E.H];show [(c.map<|E.A U).take z]=_;rw[XP<|by simp;omega]
     have f:((J0 L<|.C (.f 1 z) c).z U).length=(L.z U).length+1:=by rw[Q4,g];simp
     have h:Sx.over (L.z U) ((L.z U).length:Int) [c.map (E.A U)]=L.z U++ [c.map (E.A U)]:=by rw[Sx.over,Xz,List.take_length,List.drop_eq_nil_of_le<|by simp,YD]
     have e:=C4.f (P:=P) (F:=S) (k:=((L.z U).length+1)*z) (news:=vs) (l:=[c.map (E.A U)]) (a:=((L.z U).length:Int)) ⟨by rw[Xu];have:=p.1;omega,p.2.1,p.2.2.1,p.2.2.2⟩ (Yg _)
      (λr n=>by simp at n;rw[n];simp;omega) (by rw[G];simp) (by rw[Xz];simp) (λr j q d n w=>by
       have o:r=0:=by grind
       subst o;simp at n;subst n;rw[XQ]at w;cases x:c[j]? with
       |none=>grind|some Z=>
        rw[x,XH,WJ]at w;have M:j<c.length:=(WM.1 x).1;obtain⟨y,O⟩:∃y,vs[j]? =some y:=⟨_,WV<|by omega⟩
        refine⟨y,by rw[YC,Xq];exact O,λkd A=>?_⟩;let⟨ac,H,Q⟩:=e4 j y Z O x;rw[<-g0.2.1,Xq,YQ<|by omega,A,WJ]at H;subst H;rw[<-w];exact Q)
     rw[h,Xq,Xz]at e;have D:Bn i vs=some (.pointer<|some ⟨(L.z U).length,0,some 1⟩,i.h (fill W ((L.z U).length*z) vs) ((L.z U).length+1) rgT z):=by simp only[Bn,h2];simp_all
     refine(Zh (x':= .m b (J0 L<|.C (.f 1 z) c) z) (m:=i.m.m 0<|some<|.reg (fill W ((L.z U).length*z) vs) ((L.z U).length+1) rgT z) u K (λj M=>by rw[ZD,Xd M]) (by rw[ZD,Xg rfl]) ⟨rfl,K,_,by rw[f],by rw[f,Q4,g];exact e⟩).f λ_ J V s3 aa _ _ ⟨H,Q,w3⟩=>Zk ⟨.pointer<|some ⟨(L.z U).length,0,some 1⟩,D.trans<|by rw[w3];rfl,?_⟩;have:=VD.rp (P:=P) (U:=U) (τ:=J) (F:=V) (C2 L) 0 (by rw[j5];omega);rw[show(C2 L).r U=(L.z U).length by show((C2 L).j U).toNat=_;rw[j5];omega]at this;exact this
   exact Zi
 exact Zi
def Kl {t:Ax}{d:Ba}(g:P.info? t=d){f:Nat}{row:E}(i:s.f b=some (.f l e f))(j:Z<=l.length)(h:VD P U X F (.g b 1 row Z) v)(hv:VDL P U X F vs x.cells.toList)(n:x.cells.toList.length=d.size)(k:x.cells.toList.all Value.oneCell')(m:SD P U X F s Y):OKh P U (EY U b l e f row Z vs) X F s Y λa _ _ c=>a= .A []/\G1 P Y t v x=some c:=by rw[EY];exact Zi
def NQ {t:Ax}{a b:SV}(q:VD P U X F a v)(hb:VD P U X F b x)(D:SD P U X F s Y):OKh P U (Kj P U t a b) X F s Y λc _ _ M=>c= .A []/\G1 P Y t v x=some M:=by
 rw[Kj];split;exact Zi
 .rename_i R d;split;exact Zi
  .rename_i vs O;have hv:=fA hb O;cases g:Nat.beq vs.length R.size&&vs.all Bw with
   |false=>exact Zi|true=>
    simp only[Xa];simp only[WK,Xy]at g;let⟨A,C⟩:=g;have p:x.cells.toList.length=R.size:=by rw[<-hv.1];exact A
    have B:=GR hv C;split
    .rename_i S z row Z;refine Zj ?_;split
     .rename_i l e H f;split
      .rename_i r;cases g:decide (0<=r)&&Nat.ble (r.toNat*z+Z+vs.length) l.length with
       |false=>exact Zi|true=>
        simp only[Xa];simp only[WK,Xf,XX]at g;obtain⟨i,o,y,J,G,_,W,n,rfl,h4,h5⟩| ⟨J,L',e',H,ad,G,h3,_⟩:=D.f S _ f
        .cases q with
         |ptr _ _ _ _ i' o' h h0=>
          rw[J]at h;simp only[WJ,WL]at h;obtain⟨rfl,rfl⟩:=h;have I:(E.w r).r U=r.toNat:=rfl;have ac:=tO d p B G (o:=o+(E.w r).r U*z+Z) (by rw[I,<-p,<-hv.1];omega);refine(Zh (x':= .f (W6 l (r.toNat*z+Z) vs) e H) (m:=Y.m.m i<|some<|.cells (fill W (o+(E.w r).r U*z+Z) x.cells.toList) n e H) f J (λj K=>by rw[ZD,Xd K]) (by rw[ZD,Xg rfl])
           ⟨_,n,rfl,?_,λj c u=>?_⟩ (λc _ _ c' k1 _ _ V n1 Q=>by cases k1;rw[G]at Q;cases Q;exact⟨_,rfl,λj K=>by rw[j6,Xd (by rw[I];have:=hv.1;omega)]⟩)).f λ_ ah F3 s3 ab _ _ ⟨w1,w2,w3⟩=>Zk ⟨rfl,?_⟩
          rw[W6];simp;omega
          .unfold W6 at u;rw[j6,I];by_cases K:r.toNat*z+Z<=j/\j<r.toNat*z+Z+x.cells.toList.length
           .rw[Xg (by omega)];have k:(l.take<|r.toNat*z+Z).length=r.toNat*z+Z:=by grind
            rw[WX,WR<|by omega,WS<|by rw[k,hv.1];omega,k]at u;let⟨w,w1,w2⟩:=hv.p u;grind
           .rw[af];by_cases L:j<r.toNat*z+Z;rw[WX,WS<|by simp;omega,Xr,Xg L]at u;grind
            .have k:(l.take<|r.toNat*z+Z).length=r.toNat*z+Z:=by simp;omega
             rw[WX,WR<|by omega,k,WR<|by rw[hv.1];omega,Xx]at u;grind
          grind
        cases G
      .cases g:Nat.beq z 1&& !Nat.beq H 1&&Nat.ble Z l.length with
       |true=>rw[Xa];simp only[WK,Xy,XX]at g;obtain⟨⟨rfl,_⟩,hf⟩:=g;exact Kl d f hf q hv p B D
       |false=>rw[Xb];refine(jL D).f λ_ ae F1 s1 aa ex N ⟨k,e2,e3⟩=>?_;subst k;subst e2;subst e3;exact mZ d q hv p B N
     exact mZ d q hv p B D;exact Zi
    exact Kk d q hv p B D;exact Zi
end
def Jh (e l h:E):E:=match e,l,h with
 | .str p,.w a,.w b=>.str<|(p.take b.toNat).drop a.toNat|e,l,h=>.C .N [e,l,h]
def V6 (x:Bb SV)(d:E):Bb E:=match x with
 |none=>some d|some (.f _ e)=>some e|some _=>none
def nP :E->Bool
 | .w n=>decide<|n=0|_=>false
section
variable (P :Aw)(U:Ab)
def slen (t:Ax)(x:SV):M SV:=
 match P.underlying t,x with
 |some .string,.p e=>i6<|.f .i64<|dQ e|some (.array n _),_=>i6<|.f .i64<|.w n|some (.slice _),.z _ _ _ len _=>i6<|.f .i64 len|some (.slice _),.m _ L _=>i6<|.f .i64<|C2 L|some (.slice _),.q=>i6<|.f .i64<|.w 0|_,_=>c9 "len"
def scap (t:Ax)(x:SV):M SV:=
 match P.underlying t,x with
 |some (.slice _),.z _ _ _ _ (.f c)=>i6<|.f .i64 c|some (.slice _),.m _ L true=>i6<|.f .i64<|C2 L|some (.slice _),.q=>i6<|.f .i64<|.w 0|some (.array n _),_=>i6<|.f .i64<|.w n|_,_=>c9 "cap"
def aY (l h top:E):M Unit:=d8 (u6 U<|A4<|A5 l<|.w 0) λ_=>d8 (u6 U<|A4<|A5 h l) λ_=>u6 U<|A4<|A5 top h
def BY (b z:Nat)(off l h c:E):M SV:=
 bif nP l then i6 (.z b z off h<|.f c)else
  d8 (jM U<|I4 c l) λt=>bif t then i6 (.z b z off (Q8 h l)<|.f<|Q8 c l)else i6 (.z b z (A3 off l) (Q8 h l)<|.f<|Q8 c l)
def Ux (e b z:Nat)(off len l h:E):M SV:=
 bif nP l then i6 (.z b z off h .g)else
  d8 (jM U<|A5 l len) λt=>z7 λs=>match s.f b with
   | some (.g L  a  c _) => bif Nat.beq e  a && Nat.beq z  c then
     (bif t then i6 (.z b z (A3 off l) (Q8 h l) .g)else
      d8 (u6 U<|A4<|A5 (C2 L)<|A3 off len) λ_=>d8 (mJ b none) λ_=>i6<|.m e (.C .p []) false)
    else c9 "slice: type"
   |some (.f _ a c)=>bif Nat.beq e a&&Nat.beq z c&&t then i6 (.z b z (A3 off l) (Q8 h l) .g)else c9 "slice: cells"|_=>c9 "slice: no block"
def Ki (t:Ax)(x:SV)(g d i:Bb SV):M SV:=
 match P.underlying t with
 |some .string=>match x,i with
  | .p e,none=>match V6 g (.w 0),V6 d (dQ e)with
   |some l,some h=>d8 (aY U l h<|dQ e) λ_=>i6<|.p<|Jh e l h
   |_,_=>c9 "slice: bounds"
  |_,_=>c9 "slice: string"
 |some (.slice e)=>match P.info? e with
  |none=>c9 "slice: type"|some j=>match x with
   | .q=>match V6 g (.w 0),V6 d<|.w 0,i with
    |some l,some h,none=>d8 (aY U l h<|.w 0) λ_=>i6 .q
    |some l,some h,some m=>match V6 (some m) (.w 0),d with
     |some m,some _=>d8 (aY U l h m) λ_=>d8 (u6 U<|A4<|A5 (.w 0) m) λ_=>i6 .q
     |_,_=>c9 "slice: bounds"
    |_,_,_=>c9 "slice: bounds"
   | .z b z off len cap => bif Nat.beq z  j.size then
     match V6 g (.w 0),V6 d len,i with
     |some l,some h,none=>match cap with
      | .f c=>d8 (aY U l h c) λ_=>BY U b z off l h c
      | .g=>d8 (aY U l h len) λ_=>Ux U e b z off len l h
      | .j=>c9 "slice: room"
     |some l,some h,some m=>match V6 (some m) (.w 0),d with
      |some m,some _=>d8 (aY U l h m) λ_=>d8 (u6 U<|A4<|A5 (match cap with| .f c=>c|_=>len) m) λ_=>BY U b z off l h m
      |_,_=>c9 "slice: bounds"
     |_,_,_=>c9 "slice: bounds"
    else c9 "slice: size"
   | .m  f L    a => bif Nat.beq e  f && Nat.beq  j.size (kf P e).length then
     match V6 g (.w 0),V6 d<|C2 L,i with
     |some l,some h,none=>d8 (aY U l h<|C2 L) λ_=>d8 (aT U L l<|Q8 h l) λc=>i6<|.m f c<|a&&d.isNone
     |some l,some h,some m=>match V6 (some m) (.w 0),d with
      | some m, some _ => d8 (aY U l h m) λ_ => d8 (u6 U<|A4<|A5 (C2 L) m) λ_ => d8 (bif    a then i6 () else u6 U (A5 (.w 0)<|C2 L)) λ_ =>
        d8 (aT U L l<|Q8 h l) λc=>bif E.J h m then d8 (u6 U<|I4 h m) λ_=>i6 (.m f c true)else i6 (.m f c false)
      |_,_=>c9 "slice: bounds"
     |_,_,_=>c9 "slice: bounds"
    else c9 "slice: list"
   |_=>c9 "slice: value"
 |_=>c9 "slice: type"
end
section
variable {P :Aw}{U:Ab}{Z:Tau}{F:Ac}{s:SS}{hp:Hp}
variable {v:Av}
def PV.slice {e:Ax}{d:Dat}(h:PV P F (.f e) v d):∃a c,v= .slice a d.m.length c:=by cases h<;>exact⟨_,_,rfl⟩
def TF {t:Ax}{a:SV}(f:VD P U Z F a v):OKp U (slen P t a) s λb=>∃w,kQ P t v=some w/\VD P U Z F b w:=by
 unfold slen;split;rename_i e d;cases f;refine Zq ⟨.int .i64 ((e.A U).g.length:Nat),?_,ZH<|T9 e⟩;simp[kQ,d];rename_i _ _ _ n e d;refine Zq ⟨.int .i64 (n:Nat),?_,ZH rfl⟩;simp only[kQ,d]
 .rename_i j b z off len cap d;cases f with
  |sl _ _ _ _ _ i o c h m k l=>refine Zq ⟨.int .i64 (len.r U:Nat),?_,ZH<|by grind⟩;simp[kQ,d]|sl0 _ _ _ _ _ h m k l=>refine Zq ⟨.int .i64 0,?_,ZH k⟩;simp[kQ,d]
 .rename_i j p L g d;cases f with
  |lst _ _ _ _ h l=>obtain⟨a,c,rfl⟩:=h.slice;refine Zq ⟨.int .i64 ((L.z U).length:Nat),?_,ZH<|j5 L⟩;simp only[kQ,d];rfl
 rename_i j d;cases f;refine Zq ⟨.int .i64 0,?_,ZH rfl⟩;simp[kQ,d];exact Zl
def Lc {e:Ax}{a:Aq}{l:Nat}{d:Dat}(h:PV P F (.f e) (.slice a l l) d):a=none\/l<unk:=by
 cases h with
 |N=>grind|sl _ i o c b j n z rows x q r f s v t u hp=>right;obtain⟨h,_⟩| ⟨g,k,m,p⟩:=f.1;exact h;have:=y5 g 0;unfold unk at*;omega
def Ty {t:Ax}{a:SV}(j:VD P U Z F a v):OKp U (scap P t a) s λb=>∃w,qT P t v=some w/\VD P U Z F b w:=by
 unfold scap;split
 .rename_i g b z off len c d;cases j with
  |sl _ _ _ _ _ i o f h k m e=>
   obtain⟨u,x,y,A⟩:=e;refine Zq ⟨.int .i64 (f:Nat),?_,ZH<|by grind⟩;have:Nat.ble unk f=false:=by
    cases p:Nat.ble unk f with
    |false=>rfl|true=>simp_all;omega
   simp only[qT,d,this,Xb]
  |sl0 _ _ _ _ _ h k m e=>refine Zq ⟨.int .i64 0,?_,ZH<|e c rfl⟩;simp[qT,d]
 .rename_i g B L d;cases j with
  |lst _ _ _ _ h e=>
   obtain⟨a,l,rfl⟩:=e rfl;refine Zq ⟨.int .i64 (l:Nat),?_,ZH<|by rw[j5,h.len];rfl⟩;obtain rfl|r:=Lc h;simp only[qT,d]
   .cases a with
    |none=>simp only[qT,d]|some a=>
     have:Nat.ble unk l=false:=by
      cases p:Nat.ble unk l with
      |false=>rfl|true=>simp_all;omega
     simp only[qT,d,this,Xb]
 rename_i g d;cases j;refine Zq ⟨.int .i64 0,?_,ZH rfl⟩;simp[qT,d];rename_i _ _ _ n g d;refine Zq ⟨.int .i64 (n:Nat),?_,ZH rfl⟩;simp only[qT,d];exact Zl
def OVD (P:Aw)(U:Ab)(Z:Tau)(F:Ac):Bb SV->Ag->Prop
 |none,none=>True|some a,some v=>VD P U Z F a v|_,_=>False
def P5 {l h top:E}:OKp U (aY U l h top) s λ_=>0<=l.j U/\l.j U<=h.j U/\h.j U<=top.j U:=by exact OKp.g.f λ_ _ _ _ a=>OKp.g.f λ_ _ _ _ b=>OKp.g.j λ_ c=>⟨aZ a,B7 b,B7 c⟩
def pG {x:Bb SV}{v:Ag}(h:OVD P U Z F x v){d e:E}(a:V6 x d=e):(v=none/\e=d)\/ ∃k,v=some (.int k<|e.j U):=by
 unfold V6 at a;split at a
 .simp at a;cases v with
  |none=>grind|some v=>exact h.elim
 .simp at a;subst a;cases v with
  |none=>exact h.elim|some v=>have:=h;cases this;exact .inr ⟨_,rfl⟩
 grind
def fE {k:IntKind}{n:Int}{y:Nat}(a:0<=n)(b:n<=y):M9 (.int k n) y=n.toNat:=by show(bif decide (0<=n)&&decide (n<=(y:Int))then some n.toNat else none)=n.toNat;grind
variable {W lo:Bb SV}{Y X:Ag}
theorem L8 (c:OVD P U Z F lo X)(a:OVD P U Z F W Y){l h dl d:E}(g:V6 lo dl=l)(e:V6 W d=h){len b:Nat}(j:0<=l.j U)(p:l.j U<=h.j U)(m:h.j U<=b)(o:dl.j U=0)(n:W=none->h.r U=len):C6 len b X Y none=some (l.r U,h.r U,none):=by
 have f:(match Y with|some v=>M9 v b|none=>some len)=some (h.r U):=by
  rcases pG a e with⟨rfl,rfl⟩| ⟨k,rfl⟩
  .cases W with
   |none=>grind|some x=>exact a.elim
  exact fE (by omega) m
 have i:(match X with|some v=>M9 v<|h.r U|none=>some 0)=some (l.r U):=by rcases pG c g with⟨rfl,rfl⟩| ⟨k,rfl⟩;grind;exact fE j (by grind)
 unfold C6;grind
theorem W9 {g:SV}{b:Av}(d:OVD P U Z F lo X)(a:OVD P U Z F W Y)(f:VD P U Z F g b){l h m dl i j:E}(p:V6 lo dl=l)(n:V6 W i=h)(r:V6 (some g) j=m){len c:Nat}(t:0<=l.j U)(y:l.j U<=h.j U)(z:h.j U<=m.j U)(u:m.j U<=c)(w:dl.j U=0)(A:W≠none):C6 len c X Y (some b)=(l.r U,h.r U,some<|m.r U):=by
 have s:M9 b c=(m.r U):=by rcases pG (x:=some g) (v:=some b) f r with⟨e,_⟩| ⟨k,e⟩;cases e;cases e;exact fE (by omega) u
 have o:∃v,Y=some v/\M9 v (m.r U)=(h.r U):=by
  rcases pG a n with⟨rfl,rfl⟩| ⟨k,rfl⟩
  .cases W with
   |none=>grind|some x=>exact a.elim
  exact⟨_,rfl,fE (by omega)<|by grind⟩
 have q:(match X with|some v=>M9 v<|h.r U|none=>some 0)=some (l.r U):=by rcases pG d p with⟨rfl,rfl⟩| ⟨k,rfl⟩;grind;exact fE t (by grind)
 unfold C6;grind
def Ck {e:E}(h:nP e):e.j U=0:=by unfold nP at h;split at h;exact Yu h;cases h
def gR {a b:E}(c:0<=b.j U):(Q8 a b).r U=a.r U-b.r U:=by show((Q8 a b).j U).toNat=(a.j U).toNat-(b.j U).toNat;rw[z6];omega
def qQ {a b:E}(c:0<=a.j U)(d:0<=b.j U):(A3 a b).r U=a.r U+b.r U:=by show((A3 a b).j U).toNat=(a.j U).toNat+(b.j U).toNat;rw[l9];omega
variable {b:Nat}
def VD.sl' {z i o c n a:Nat}{off len:E}{cap:Cp}(h:Z b=some (some (i,o)))(d:0<=off.j U)(e:0<=len.j U)(g:pC U len cap c)(f:a=o+off.r U*z)(j:n=len.r U):VD P U Z F (.z b z off len cap) (.slice (some ⟨i,a,none⟩) n c):=by subst f;subst j;exact .sl b z off len cap i o c h d e g
def ZI:type_of% @VD.sl':=@VD.sl'
def jC {z i o:Nat}{off l h c:E}(d:Z b=some (some (i,o)))(g:0<=off.j U)(f:0<=l.j U)(q:l.j U<=h.j U)(k:h.j U<=c.j U)(u:c.r U<unk){a:Nat}(m:a=o+off.r U*z):OKp U (BY U b z off l h c) s λx=>VD P U Z F x (bif Nat.beq (c.r U) (l.r U)then .slice (some ⟨i,a,none⟩) (h.r U-l.r U) (c.r U-l.r U)else .slice (some ⟨i,a+l.r U*z,none⟩) (h.r U-l.r U) (c.r U-l.r U)):=by
 subst m;rw[BY];have e:pC U (Q8 h l) (.f<|Q8 c l) (c.r U-l.r U):=by refine⟨by rw[z6];omega,by rw[gR f],by omega,?_⟩;rw[z6,z6];omega
 cases p:nP l with
 |true=>
  have r:=Ck (U:=U) p;have n:l.r U=0:=by grind
  refine Zq ?_;have hv:VD P U Z F (.z b z off h<|.f c) (.slice (some ⟨i,o+off.r U*z,none⟩) (h.r U-0)<|c.r U-0):=ZI d g (by omega) ⟨by omega,by omega,by omega,k⟩ rfl (by omega);grind
 |false=>
  simp only[Xb];refine OKp.p.f λt _ _ _ j=>?_;rw[H8]at j;cases t with
  |true=>simp at j;refine Zq ?_;rw[w9<|by grind,Xa];exact ZI d g (by rw[z6];omega) e rfl (by rw[gR f])|false=>simp at j;refine Zq ?_;rw[B0<|by grind,Xb];exact ZI d (by rw[l9];omega) (by rw[z6];omega) e (by rw[qQ g f,Xu];omega) (by rw[gR f])
def BZ {z:Nat}{off l h c:E}(a:Z b=some none)(d:off.j U=0)(j:0<=l.j U)(k:l.j U<=h.j U)(m:h.j U<=c.j U)(n:c.j U<=0):OKp U (BY U b z off l h c) s λx=>VD P U Z F x (.slice none 0 0):=by
 rw[BY];cases p:nP l with
 |true=>exact Zq (.sl0 b z off h (.f c) a d (by omega)<|by grind)|false=>
  simp only[Xb];refine OKp.p.f λt _ _ _ o=>?_;have g:(Q8 h l).j U=0:=by rw[z6];omega
  have f:∀e,Cp.f (Q8 c l)= .f e->e.j U=0:=λe i=>by cases i;rw[z6];omega
  cases t with
  |true=>exact Zq<|.sl0 b z off _ _ a d g f|false=>exact Zq<|.sl0 b z _ _ _ a (by rw[l9];omega) g f
end
section
variable {P :Aw}{U:Ab}{W:Tau}{F:Ac}{s:SS}{Z:Hp}
variable {n:Nat}
def wA (h:n<=67108864):n<unk:=by rw[unk];omega
variable {a:Nat}
def cT {b:Nat}(h:b<a):Nat.ble a b=false:=by
 cases c:Nat.ble a b with
 |false=>rfl|true=>simp_all;omega
def wQ (a:Nat):R7 (i4 a 0)=a:=K9 I8
def Ge (a:Nat):I0 (i4 a 0)=0:=J4 I8
def Ji (e l h:E):((Jh e l h).A U).g=((e.A U).g.take<|h.r U).drop (l.r U):=by unfold Jh;split<;>rfl
variable (P U) in
def KR (Z:Hp)(t:Ax)(v:Av)(d b e:Ag)(c:SV)(W:Tau)(F:Ac)(a:Hp):Prop:=a=Z/\ ∃w,A0 P Z t v d b e=some (w,Z)/\VD P U W F c w
variable {v:Av}{Y S:Ag}
def OKp.q {m:M SV}{t:Ax}{a:Ag}(h:OKp U m s λc=>∃w,A0 P Z t v Y a S=some (w,Z)/\VD P U W F c w):OKh P U m W F s Z (KR P U Z t v Y a S):=
 (h.C).g λ_ _ _ _ _ _ ⟨b,d,e,h⟩=>by subst b;subst d;subst e;exact⟨rfl,h⟩
def Zr:type_of% @OKp.q:=@OKp.q
variable {h i l:Nat}{X:Ag}
theorem fG {t e:Ax}{b:Ba}(g:P.underlying t=some (.slice e))(d:P.info? e=b){len cap:Nat}(j:cap<unk)(f:len<=cap){m:Ai}(c:C6 len cap Y X S=(l,h,m)):A0 P Z t (.slice (some ⟨i,a,none⟩) len cap) Y X S=some (bif Nat.beq (m.getD cap) l then .slice (some ⟨i,a,none⟩) (h-l) (m.getD cap-l)else .slice (some ⟨i,a+l*b.size,none⟩) (h-l) (m.getD cap-l),Z):=by simp only[A0,g,d];rw[cT j,Xb,WQ f,Xa,c];grind
theorem oR {t e:Ax}{d:Ba}(k:P.underlying t=some (.slice e))(g:P.info? e=d){len b:Nat}(c:b<=67108864)(j:len<=67108864){m:Nat}(f:C6 len (Nat.max b len) Y X S=(l,h,some m)):A0 P Z t (.slice (some ⟨i,a,none⟩) len<|i4 b 0) Y X S=some (bif Nat.beq m l then .slice (some ⟨i,a,none⟩) (h-l) (m-l)else .slice (some ⟨i,a+l*d.size,none⟩) (h-l) (m-l),Z):=by simp only[A0,k,g];rw[WQ<|y5 b 0,Xa,wQ,WQ<|Nat.max_le.2 ⟨c,j⟩,Xa,f];grind
def iA {t e:Ax}{d:Ba}(k:P.underlying t=some (.slice e))(g:P.info? e=d){len b:Nat}(c:b<=67108864)(j:len<=67108864)(f:C6 len (Nat.max b len) Y X none=some (l,h,none)):A0 P Z t (.slice (some ⟨i,a,none⟩) len<|i4 b 0) Y X none=bif Nat.beq l 0 then some (.slice (some ⟨i,a,none⟩) h<|i4 (Nat.max b len) 0,Z)else bif Nat.beq l (Nat.max b len)then some (.slice (some ⟨0,0,some 0⟩) 0 unk,Z)else match Z.m.l i with
    |some (.cells _ _ _ n)=>bif Nat.beq n d.size then some (.slice (some ⟨i,a+l*d.size,none⟩) (h-l)<|i4 (Nat.max b len-l)<|0-l,Z)else none|_=>none:=by
 simp only[A0,k,g];rw[WQ<|y5 b 0,Xa,wQ,Ge,WQ<|Nat.max_le.2 ⟨c,j⟩,Xa,f];rfl
def Q0 {t e:Ax}{c:Ba}(b:P.underlying t=some (.slice e))(a:P.info? e=c){r:Nat×Nat×Ai}(d:C6 0 0 Y X S=r):A0 P Z t (.slice none 0 0) Y X S=some (.slice none 0 0,Z):=by simp only[A0,b,a];simp_all
def FJ {t e:Ax}{d:Ba}(c:P.underlying t=some (.slice e))(b:P.info? e=d)(a:C6 0 0 Y X none=some (l,h,none)):A0 P Z t (.slice (some ⟨0,0,some 0⟩) 0 unk) Y X none=some (.slice (some ⟨0,0,some 0⟩) 0 unk,Z):=by simp only[A0,c,b];rw[a]
def eP {b:Nat}(h:a<=n)(k:b<=n):Nat.max a b<=n:=Nat.max_le.2 ⟨h,k⟩
def bY (a b:Nat):b<=Nat.max a b:=Ym a b
variable {Q:Ao}
def PV.cut {e c z m:Nat}{b:Blk}{rows:a8}{x:Nat->Nat->Av}(q:F i=some b)(s:arr b=(Q,n,m))(A:a+rows.length*z<=n)(w:z=(kf P e).length)(u:∀r∈rows,r.length=z)(v:∀(r k:Nat) (row:Ar) (d:Dat),rows[r]? =some row->row[k]? =some d->Q.l (a+r*z+k)=(x r k))(Z:∀(r k:Nat) (row:Ar) (j:Kd) (d:Dat),rows[r]? =some row->row[k]? =some d->(kf P e)[k]? =some j->PV P F j (x r k) d){l len:Int}(o:0<=l)(f:0<=len)(g:l+len<=rows.length)(y:BU len.toNat c/\roC b c m z):PV P F (.f e) (.slice (some ⟨i,a+l.toNat*z,none⟩) len.toNat c) (.l<|pQ rows l len):=by
 have t:=Z8 o f g;have:=PV.sl e i (a+l.toNat*z) c b Q n z (pQ rows l len) (λr k=>x (l.toNat+r) k) q s (by grind)
  (by rw [ t]
      have:l.toNat*z+len.toNat*z<=rows.length*z:=by rw[<-Xu];exact WW z (by omega)
      omega) w (λr h=>u r<|YA<|Yz h)
  (λr k row d f g=>by rw[<-v _ k row d (jR f) g];congr 1;rw[Xu];omega) (λr k row j d f g p=>Z _ k row j d (jR f) g p)
 grind
def PV.cut0 {e c z d:Nat}{b:Blk}(f:F i=b)(g:arr b=(Q,n,d))(m:a<=n)(k:z=(kf P e).length)(j:BU 0 c/\roC b c d z):PV P F (.f e) (.slice (some ⟨i,a,none⟩) 0 c) (.l []):=
 PV.sl e i a c b Q n z [] (λ_ _=>undef) f g j (by grind) k (λr h=>by grind) (by grind) (by grind)
def U6 {rows:a8}{l len:Int}(h:len<=0):pQ rows l len=[]:=by rw[pQ];simp_all
variable {T:Bb SV}{X V:Ag}
theorem Nt {t e:Ax}{ie:Ba}(R:P.underlying t=some (.slice e))(p:P.info? e=some ie)(L:ie.size=(kf P e).length)(I:∀i b,F i=some b->Z.m.l i=some b){rows:a8}(hv:PV P F (.f e) v (.l rows)){Y:Bb SV}(r:OVD P U W F Y V)(k:OVD P U W F T X){l h dh:E}(N:V6 Y (.w 0)=some l)(C:V6 T dh=some h)(ak:dh.j U=rows.length)(s:0<=l.j U)(D:l.j U<=h.j U)(O:h.j U<=rows.length):∃w,A0 P Z t v V X none=some (w,Z)/\PV P F (.f e) w (.l<|pQ rows (l.j U)<|h.j U-l.j U)/\((∃a n,v= .slice a n n)->T=none-> ∃a n,w= .slice a n n):=by
 have q:T=none->h.r U=rows.length:=λK=>by subst K;simp only[V6,WJ]at C;grind
 have aj:l.j U=((l.r U:Nat):Int):=by grind
 have ai:h.j U=((h.r U:Nat):Int):=by grind
 have ed:(h.j U-l.j U).toNat=h.r U-l.r U:=by omega
 cases hv with
 |N=>simp only[YS]at O;refine⟨.slice none 0 0,Q0 R p<|L8 r k N C s D O rfl q,?_,λ_ _=>⟨_,_,rfl⟩⟩;rw[U6<|by omega];exact .N e|L=>simp only[YS]at O;refine⟨_,FJ R p<|L8 r k N C s D O rfl q,?_,λ⟨a,n,e⟩ _=>?_⟩;rw[U6<|by omega];exact .L e;cases e
 |sl _ i o c b Q n z _ x G A hc K B hr hx y=>
  have hg:=I i b G;obtain⟨hc,j⟩:=hc;rcases hc with⟨c1,M⟩| ⟨g,rfl,M,c3⟩;have d:=fG (Z:=Z) (i:=i) (a:=o) R p c1 M<|L8 r k N C s D (by omega) rfl q;simp only[Option.getD_none]at d;refine⟨_,d,?_,λ⟨a,m,S⟩ al=>?_⟩;by_cases H:c=l.r U;rw[w9 H,Xa,U6<|by omega,show h.r U-l.r U=0 by omega];exact PV.cut0 G A (by omega) B ⟨.inl ⟨by omega,by omega⟩,λ_=>by omega,j.2⟩;rw[B0 H,Xb,<-ed,L,<-B];exact PV.cut (l:=l.j U) G A K B hr hx y s (by omega) (by omega) ⟨.inl ⟨by omega,by omega⟩,λ_=>by omega,j.2⟩;grind
  .have ad:fQ b=false:=by
    cases h:fQ b with
    |false=>rfl|true=>have s:=j.1 h;have D:=y5 g 0;omega
   have ae:=bY g rows.length;have ac:=eP M c3;have d:=iA (Z:=Z) (i:=i) (a:=o) R p M c3<|L8 r k N C s D (show h.j U<=((Nat.max g rows.length:Nat):Int) by omega) rfl q;have f:(∃a n,Value.slice (some ⟨i,o,none⟩) rows.length (i4 g 0)= .slice a n n)->False:=λ⟨a,m,S⟩=>by have ab:=y5 g 0;simp only[Value.slice.injEq]at S;obtain⟨_,e2,e3⟩:=S;unfold unk at ab;omega
   by_cases u:l.r U=0;rw[w9 u,Xa]at d;refine⟨_,d,?_,λh _=>(f h).elim⟩;have:=PV.cut G A K B hr hx y s (show 0<=h.j U-l.j U by omega) (by omega) ⟨.inr ⟨_,rfl,ac,by omega⟩,λh=>(by grind),j.2⟩;grind
   .by_cases J:l.r U=Nat.max g rows.length;rw[B0 u,Xb,w9 J,Xa]at d;refine⟨_,d,?_,λh _=>(f h).elim⟩;rw[U6<|by omega];exact .L e
    .rw[B0 u,Xb,B0 J,Xb,hg]at d;cases b with
     |cells ah n2 e2 z2=>simp only[arr,rdC,WJ,WL]at A;obtain⟨rfl,rfl,rfl⟩:=A;have aa:z2=z:=j.2 rfl;subst aa;simp only[w9 (show z2=ie.size by omega),Xa,Nat.zero_sub]at d;refine⟨_,d,?_,λh _=>(f h).elim⟩;rw[<-ed,L,<-B];exact PV.cut (l:=l.j U) G rfl K B hr hx y s (by omega) (by omega) ⟨.inr ⟨_,rfl,by omega,by omega⟩,.mk⟩
     |ro=>cases ad
     |_=>simp[arr,rdC]at A
theorem Nu {t e:Ax}{r:Ba}(L:P.underlying t=some (.slice e))(f:P.info? e=some r)(K:r.size=(kf P e).length){rows:a8}(hv:PV P F (.f e) v (.l rows))(I:rows≠ []\/ ∃a n,v= .slice a n n){Y:Bb SV}{S:SV}{vm:Av}(g:OVD P U W F Y V)(d:OVD P U W F T X)(j:VD P U W F S vm){l h m dh dm:E}(y:V6 Y (.w 0)=some l)(u:V6 T dh=some h)(A:V6 (some S) dm=some m)(H:T≠none)(q:0<=l.j U)(C:l.j U<=h.j U)(D:h.j U<=m.j U)(R:m.j U<=rows.length):∃w,A0 P Z t v V X (some vm)=some (w,Z)/\PV P F (.f e) w (.l<|pQ rows (l.j U)<|h.j U-l.j U)/\(h.j U=m.j U-> ∃a n,w= .slice a n n):=by
 have ac:l.j U=((l.r U:Nat):Int):=by grind
 have ab:h.j U=((h.r U:Nat):Int):=by grind
 have ad:m.j U=((m.r U:Nat):Int):=by grind
 have ed:(h.j U-l.j U).toNat=h.r U-l.r U:=by omega
 have B:∀ {i o:Nat},h.j U=m.j U-> ∃a n,(bif Nat.beq (m.r U) (l.r U)then Value.slice (some ⟨i,o,none⟩) (h.r U-l.r U) (m.r U-l.r U)else .slice (some ⟨i,o+l.r U*r.size,none⟩) (h.r U-l.r U) (m.r U-l.r U))= .slice a n n:=by
  intro i o e1;have:h.r U=m.r U:=by omega
  rw[this];cases Nat.beq (m.r U) (l.r U)<;>exact⟨_,_,rfl⟩
 cases hv with
 |N=>simp only[YS]at R;refine⟨.slice none 0 0,Q0 L f<|W9 g d j y u A q C D R rfl H,?_,λ_=>⟨_,_,rfl⟩⟩;rw[U6<|by omega];exact .N e|L=>rcases I with h| ⟨a,n,e⟩;grind;cases e
 |sl _ i o c b Q n z _ x hF hb G hn M hr hx J=>
  obtain⟨G,p⟩:=G;have N:PV P F (.f e) (bif Nat.beq (m.r U) (l.r U)then Value.slice (some ⟨i,o,none⟩) (h.r U-l.r U) (m.r U-l.r U)else .slice (some ⟨i,o+l.r U*r.size,none⟩) (h.r U-l.r U) (m.r U-l.r U)) (.l<|pQ rows (l.j U)<|h.j U-l.j U)\/ ¬m.r U<unk:=by by_cases hu:m.r U<unk;left;by_cases k:m.r U=l.r U;rw[w9 k,Xa,U6<|by omega,show h.r U-l.r U=0 by omega];exact PV.cut0 hF hb (by omega) M ⟨.inl ⟨by omega,by omega⟩,λ_=>by omega,p.2⟩;rw[B0 k,Xb,<-ed,K,<-M];exact PV.cut (l:=l.j U) hF hb hn M hr hx J q (by omega) (by omega) ⟨.inl ⟨by omega,by omega⟩,λ_=>by omega,p.2⟩;grind
  rcases G with⟨c1,s⟩| ⟨O,rfl,s,c3⟩;have ae:=fG (Z:=Z) (i:=i) (a:=o) L f c1 s<|W9 g d j y u A q C D (by omega) rfl H;grind;have aa:=bY O rows.length;exact⟨_,(oR (Z:=Z) (i:=i) (a:=o) L f s c3<|W9 g d j y u A q C D (by omega) rfl H),N.resolve_right<|λh=>h<|wA<|by omega,B⟩
def NP {t:Ax}{a:SV}{Y S:Bb SV}{O:Ag}(ha:VD P U W F a v)(k:OVD P U W F Y V)(j:OVD P U W F T X)(B:OVD P U W F S O)(hs:SD P U W F s Z):OKh P U (Ki P U t a Y T S) W F s Z (KR P U Z t v V X O):=by
 unfold Ki;split
 ·
  rename_i ht;split
  .rename_i e;cases O with
   |some v=>exact B.elim|none=>split;rename_i l h I q;refine Zr<|P5.f λ_ _ _ _ M=>Zq ?_;obtain⟨f,u,D⟩:=M;rw[T9]at D;cases ha;refine⟨.string ⟨(((e.A U).g.take<|h.r U).drop<|l.r U).toArray⟩,?_,VD.str'<|Ji e l h⟩;simp only[A0,ht];rw[L8 k j I q f u D rfl (λhn=>by subst hn;simp only[V6,WJ]at q;subst q;show((dQ e).j U).toNat=_;rw[T9];omega)];exact Zi
  exact Zi
 .rename_i e ht;split;exact Zi
  .rename_i ie r;split
   ·
    cases ha;split
    .rename_i l h I q;cases O with
     |some v=>exact B.elim|none=>refine Zr<|P5.f λ_ _ _ _ M=>Zq ⟨.slice none 0 0,?_,.nils⟩;obtain⟨f,u,D⟩:=M;refine Q0 ht r<|L8 k j I q f u D rfl<|λhn=>?_;subst hn;simp only[V6,WJ]at q;subst q;rfl
    .rename_i l h m' I q;cases O with
     |none=>exact B.elim|some vm=>split;rename_i m x em;refine Zr<|P5.f λ_ _ _ _ M=>OKp.g.f λ_ _ _ _ N=>Zq ⟨.slice none 0 0,?_,.nils⟩;obtain⟨f,u,D⟩:=M;have N:=B7 N;exact Q0 ht r (W9 k j B I q em f u D N rfl<|by simp);exact Zi
    exact Zi
   ·
    rename_i b z off len cap;cases hz:Nat.beq z ie.size with
    |false=>exact Zi|true=>
     simp only[Xa];have K:z=ie.size:=WO hz;split
     .rename_i l h I q;cases O with
      |some v=>exact B.elim|none=>
       split
       ·
        rename_i c;refine Zg P5 λ_ s1 _ ap M=>Zr ?_;obtain⟨f,u,D⟩:=M;cases ha with
        |sl _ _ _ _ _ i o c' d G J H=>
         obtain⟨c1,c2,c3,c4⟩:=H;subst c2;refine(jC d G f u D c3 rfl).j λx p=>⟨_,?_,p⟩
         rw[fG ht r c3 (show len.r U<=c.r U by show(len.j U).toNat<=(c.j U).toNat;omega)
          (L8 k j I q f u (show h.j U<=((c.r U:Nat):Int) by show h.j U<=(((c.j U).toNat:Nat):Int);omega) rfl (λhn=>by subst hn;simp only[V6,WJ]at q;subst q;rfl))]
         subst K;rfl
        |sl0 _ _ _ _ _ d G J H=>
         have H:=H c rfl;refine(BZ d G f u D<|by omega).j λx p=>⟨_,?_,p⟩
         refine Q0 ht r<|L8 k j I q f u (by omega) rfl<|λhn=>?_;subst hn;simp only[V6,WJ]at q;subst q;show(len.j U).toNat=0;omega
       ·
        refine Zg P5 λ_ s1 o1 ap M=>?_;obtain⟨f,u,D⟩:=M;have ab:T=none->h.r U=len.r U:=λhn=>by subst hn;simp only[V6,WJ]at q;subst q;rfl
        unfold Ux;cases bj:nP l with
        |true=>
         have hl:=Ck (U:=U) bj;have bb:l.r U=0:=by show(l.j U).toNat=0;rw[hl];rfl
         refine Zr<|Zq ?_;cases ha with
         |sl _ _ _ _ _ i o c' d G J H=>
          obtain⟨g,rfl,c1,c2⟩:=H;have A:len.r U<=67108864:=by show(len.j U).toNat<=_;omega
          have ah:=eP c1 A;have M:=L8 k j I q f u (show h.j U<=((Nat.max g (len.r U):Nat):Int) by
           have:=bY g<|len.r U;have e1:len.j U=((len.r U:Nat):Int):=by show len.j U=((len.j U).toNat:Int);omega
           omega) rfl ab
          refine⟨_,by rw[iA ht r c1 A M,bb,w9 rfl,Xa],?_⟩;exact ZI d G (by omega) ⟨Nat.max g<|len.r U,rfl,by omega,by omega⟩ rfl rfl
         |sl0 _ _ _ _ _ d G J H=>refine⟨.slice none 0 0,Q0 ht r<|L8 k j I q f u (by omega) rfl (λhn=>by rw[ab hn];show(len.j U).toNat=0;omega),?_⟩;exact .sl0 b z off h .g d G (by omega) (λe he=>by cases he)
        |false=>
         simp only[Xb];refine Zg Zs λtt s2 o2 am ae=>Zj ?_;rw[J5]at ae;split
         .rename_i L e' z' ph M;cases hq:Nat.beq e e'&&Nat.beq z z' with
          |false=>exact Zi|true=>
           simp only[Xa];simp only[WK,Xy]at hq;obtain⟨rfl,rfl⟩:=hq;rcases am.f b _ M with⟨i,o,y,k1,k2,kF,Q,n,rfl,k4,k5⟩| ⟨k1,L',e',z',bk,k2,k3,k4,k5⟩
           .cases ha with
            |sl _ _ _ _ _ i' o' c' d G J H=>
             rw[k1]at d;simp only[WJ,WL]at d;obtain⟨rfl,rfl⟩:=d;obtain⟨g,rfl,c1,c2⟩:=H;have A:len.r U<=67108864:=by show(len.j U).toNat<=_;omega
             have e1:len.j U=((len.r U:Nat):Int):=by show len.j U=((len.j U).toNat:Int);omega
             have au:l.j U=((l.r U:Nat):Int):=by show l.j U=((l.j U).toNat:Int);omega
             have ac:=bY g<|len.r U;have ah:=eP c1 A;have ai:=L8 k j I q f u (show h.j U<=((Nat.max g (len.r U):Nat):Int) by omega) rfl ab;have p:=iA (Z:=Z) (i:=i) (a:=o+off.r U*z) ht r c1 A ai;cases tt with
             |true=>simp only[Xa];simp only[Xf]at ae;refine Zr<|Zq ?_;by_cases C:l.r U=0;rw[w9 C,Xa]at p;refine⟨_,p,ZI k1 (by rw[l9];omega) (by rw[z6];omega) ⟨Nat.max g<|len.r U,rfl,by omega,by rw[z6];omega⟩ ?_ ?_⟩;rw[qQ G f,C];simp;rw[gR f,C];simp;rw[B0 C,Xb,B0<|by omega,Xb,k2]at p;simp only[w9 K,Xa,Nat.zero_sub]at p;refine⟨_,p,ZI k1 (by rw[l9];omega) (by rw[z6];omega) ⟨Nat.max g (len.r U)-l.r U,rfl,by omega,by rw[z6];omega⟩ ?_ ?_⟩;rw[qQ G f,Xu,K];omega;rw[gR f]|false=>
              simp only[Xb];simp only[XM]at ae;refine Zg Zm λ_ s3 o3 bh p1=>?_;have p1:=B7 p1;rw[l9,j5]at p1;have aw:s3.f b=some (.g L e z ph):=by rw[o3.f];exact M
              refine(OKh.m aw k1 k2).f λ_ bl F2 s4 bg ex bi ⟨f1,f2,f3⟩=>?_;subst f1;subst f2;refine Zk ⟨rfl,?_⟩;have bm:l.r U=len.r U:=by omega
              have ba:h.r U-l.r U=0:=by
               have:h.j U=l.j U:=by omega
               show(h.j U).toNat-(l.j U).toNat=0;rw[this];omega
              have av:o+off.r U*z+l.r U*z<=n:=by
               have g1:=k4.1;have:off.r U*z+l.r U*z<=(L.z U).length*z:=by rw[<-Xu];exact WW z (by show(off.j U).toNat+l.r U<=_;omega)
               omega
              have ad:(E.C .p []).z U=[]:=rfl;by_cases C:l.r U=0
              .rw[w9 C,Xa]at p;have az:h.r U=0:=by omega
               rw[az]at p;refine⟨_,p,.lst e _ false _ ?_ (λh=>by cases h)⟩;rw[ad];exact PV.cut0 f3 rfl (by omega) k4.2.1 ⟨.inr ⟨_,rfl,by omega,by omega⟩,.mk⟩
              by_cases ao:l.r U=Nat.max g (len.r U);rw[B0 C,Xb,w9 ao,Xa]at p;refine⟨_,p,.lst e _ false _ ?_ (λh=>by cases h)⟩;rw[ad];exact .L e;rw[B0 C,Xb,B0 ao,Xb,k2]at p;simp only[w9 K,Xa,Nat.zero_sub,ba]at p;refine⟨_,p,.lst e _ false _ ?_ (λh=>by cases h)⟩;rw[ad,<-K];exact PV.cut0 f3 rfl av k4.2.1 ⟨.inr ⟨_,rfl,by omega,by omega⟩,.mk⟩
            |sl0 _ _ _ _ _ d G J H=>rw[k1]at d;cases d
           .cases ha with
            |sl _ _ _ _ _ i' o' c' d G J H=>rw[k1]at d;cases d
            |sl0 _ _ _ _ _ d G J H=>
             have p:A0 P Z t (.slice none 0 0) V X none=some (.slice none 0 0,Z):=Q0 ht r<|L8 k j I q f u (by omega) rfl (λhn=>by rw[ab hn];show(len.j U).toNat=0;omega);cases tt with
             |true=>simp only[Xf]at ae;omega|false=>simp only[Xb];refine Zg Zm λ_ s3 o3 bh p1=>?_;refine OKh.w.f λ_ bl F2 s4 bg ex bi ⟨f1,f2,f3⟩=>?_;subst f1;subst f2;subst f3;exact Zk ⟨rfl,_,p,.lst e _ false _ (.N e) (λh=>by cases h)⟩
         .rename_i cl e' z' M;cases hq:Nat.beq e e'&&Nat.beq z z'&&tt with
          |false=>exact Zi|true=>
           simp only[Xa];simp only[WK,Xy]at hq;obtain⟨⟨rfl,rfl⟩,rfl⟩:=hq;simp only[Xf]at ae;rcases am.f b _ M with⟨i,o,y,k1,k2,kF,Q,n,rfl,k4,k5⟩| ⟨k1,L',e',z',bk,k2,k3,k4,k5⟩
           .cases ha with
            |sl _ _ _ _ _ i' o' c' d G J H=>
             rw[k1]at d;simp only[WJ,WL]at d;obtain⟨rfl,rfl⟩:=d;obtain⟨g,rfl,c1,c2⟩:=H;have A:len.r U<=67108864:=by show(len.j U).toNat<=_;omega
             have e1:len.j U=((len.r U:Nat):Int):=by show len.j U=((len.j U).toNat:Int);omega
             have au:l.j U=((l.r U:Nat):Int):=by show l.j U=((l.j U).toNat:Int);omega
             have ac:=bY g<|len.r U;have ah:=eP c1 A;have ai:=L8 k j I q f u (show h.j U<=((Nat.max g (len.r U):Nat):Int) by omega) rfl ab;have p:=iA (Z:=Z) (i:=i) (a:=o+off.r U*z) ht r c1 A ai;refine Zr<|Zq ?_;by_cases C:l.r U=0;rw[w9 C,Xa]at p;refine⟨_,p,ZI k1 (by rw[l9];omega) (by rw[z6];omega) ⟨Nat.max g<|len.r U,rfl,by omega,by rw[z6];omega⟩ ?_ ?_⟩;rw[qQ G f,C];simp;rw[gR f,C];simp;rw[B0 C,Xb,B0<|by omega,Xb,k2]at p;simp only[w9 K,Xa,Nat.zero_sub]at p;refine⟨_,p,ZI k1 (by rw[l9];omega) (by rw[z6];omega) ⟨Nat.max g (len.r U)-l.r U,rfl,by omega,by rw[z6];omega⟩ ?_ ?_⟩;rw[qQ G f,Xu,K];omega;rw[gR f]
            |sl0 _ _ _ _ _ d G J H=>rw[k1]at d;cases d
           cases k2
         exact Zi
       exact Zi
     .rename_i l h m' I q;cases O with
      |none=>exact B.elim|some vm=>
       split
       .rename_i m x em;refine Zg P5 λ_ s1 _ ap M=>Zg Zm λ_ s2 _ am N=>Zr ?_;obtain⟨f,u,D⟩:=M;have N:=B7 N;cases ha with
        |sl _ _ _ _ _ i o c' d G J H=>
         cases cap with
         |f c=>
          obtain⟨c1,c2,c3,c4⟩:=H;subst c2;have al:m.j U<=((c.r U:Nat):Int):=by have:m.j U<=c.j U:=N;show m.j U<=(((c.j U).toNat:Nat):Int);omega
          have aa:m.r U<unk:=by show(m.j U).toNat<unk;have:c.r U<unk:=c3;omega
          refine(jC d G f u D aa rfl).j λx p=>⟨_,?_,p⟩
          rw[fG ht r c3 (show len.r U<=c.r U by show(len.j U).toNat<=(c.j U).toNat;omega)<|W9 k j B I q em f u D al rfl<|by simp];subst K;rfl
         |g=>
          obtain⟨g,rfl,c1,c2⟩:=H;have N:m.j U<=len.j U:=N;have A:len.r U<=67108864:=by show(len.j U).toNat<=_;omega
          have e1:len.j U=((len.r U:Nat):Int):=by show len.j U=((len.j U).toNat:Int);omega
          have ac:=bY g<|len.r U;have ah:=eP c1 A;have aa:m.r U<unk:=wA (by show(m.j U).toNat<=_;omega);refine(jC d G f u D aa rfl).j λx p=>⟨_,?_,p⟩
          rw[oR ht r c1 A<|W9 k j B I q em f u D (by omega) rfl<|by simp];subst K;rfl
         |j=>
          have N:m.j U<=len.j U:=N;rcases H with⟨c3,rfl,c2⟩| ⟨g,rfl,c1,c2⟩
          .have al:m.j U<=((len.r U:Nat):Int):=by show m.j U<=(((len.j U).toNat:Nat):Int);omega
           have aa:m.r U<unk:=by show(m.j U).toNat<unk;have:(len.j U).toNat<unk:=c3;omega
           refine(jC d G f u D aa rfl).j λx p=>⟨_,?_,p⟩
           rw[fG ht r c3 (Xh _)<|W9 k j B I q em f u D al rfl<|by simp];subst K;rfl
          .have A:len.r U<=67108864:=by show(len.j U).toNat<=_;omega
           have e1:len.j U=((len.r U:Nat):Int):=by show len.j U=((len.j U).toNat:Int);omega
           have ac:=bY g<|len.r U;have ah:=eP c1 A;have aa:m.r U<unk:=wA (by show(m.j U).toNat<=_;omega);refine(jC d G f u D aa rfl).j λx p=>⟨_,?_,p⟩
           rw[oR ht r c1 A<|W9 k j B I q em f u D (by omega) rfl<|by simp];subst K;rfl
        |sl0 _ _ _ _ _ d G J H=>
         have bc:m.j U<=0:=by
          cases cap with
          |f c=>have:=H c rfl;have N:m.j U<=c.j U:=N;omega|g=>have N:m.j U<=len.j U:=N;omega|j=>have N:m.j U<=len.j U:=N;omega
         exact(BZ d G f u D bc).j λx p=>⟨_,Q0 ht r<|W9 k j B I q em f u D (by omega) rfl<|by simp,p⟩
       exact Zi
     exact Zi
   ·
    rename_i e' L an;cases hq:Nat.beq e e'&&Nat.beq ie.size (kf P e).length with
    |false=>exact Zi|true=>
     simp only [Xa];simp only [WK, Xy] at hq;obtain ⟨rfl,aq⟩:=hq;cases ha with
     |lst _ _ _ _ hv H=>
      split
      .rename_i l h I q;cases O with
       |some v=>exact B.elim|none=>
        refine Zr<|P5.f λ_ _ _ _ M=>D9.f λc _ _ _ aj=>Zq ?_;obtain⟨f,u,D⟩:=M;rw[j5]at D;obtain⟨w,w1,w2,w3⟩:=Nt (Z:=Z) ht r aq hs.p hv k j I q (j5 L) f u D;refine⟨w,w1,.lst e c _ w ?_ (λak=>?_)⟩
        .have:c.z U=pQ (L.z U) (l.j U) (h.j U-l.j U):=by show(c.A U).m=_;rw[aj,z6];rfl
         rw[this];exact w2
        simp only[WK]at ak;exact w3 (H ak.1) (by cases T with|none=>rfl|some x=>simp at ak)
      .rename_i l h m' I q;cases O with
       |none=>exact B.elim|some vm=>
        split
        .rename_i m x em;refine Zr<|P5.f λ_ _ _ _ M=>OKp.g.f λ_ _ _ _ N=>?_;obtain⟨f,u,D⟩:=M;have N:=B7 N;rw[j5]at N;refine OKp.f (R:=λ_=>L.z U≠ []\/ ∃a n,v= .slice a n n) ?_ λ_ _ _ _ be=>?_
         .cases an with
          |true=>exact Zq<|.inr<|H rfl|false=>refine OKp.g.j λ_ h=>.inl λh'=>?_;have:=E2 h;rw[j5,h']at this;simp[D5]at this
         .refine D9.f λc _ _ _ aj=>?_;obtain⟨w,w1,w2,w3⟩:=Nu (Z:=Z) ht r aq hv be k j B I q em (by simp) f u D N;have ax:c.z U=pQ (L.z U) (l.j U) (h.j U-l.j U):=by show(c.A U).m=_;rw[aj,z6];rfl
          rw[<-ax]at w2;cases E.J h m with
          |true=>simp only[Xa];exact OKp.g.f λ_ _ _ _ ay=>Zq ⟨w,w1,.lst e c true w w2<|λ_=>w3<|dB ay⟩
          |false=>exact Zq ⟨w,w1,.lst e c false w w2 (λh=>by cases h)⟩
        exact Zi
      exact Zi
   exact Zi
 exact Zi
end
end Go.Sx
namespace Go.Sx
open Go.Xe
inductive Src where
 |d (l:As)
 |b (L:E)
def Src.h (size:Nat):Src->E
 | .d l=>.w (l.length/size:Nat)| .b L=>C2 L
def Src.g (e size:Nat):Src->C8
 | .d l=>.f l e size| .b L=>.g L e size<|.w 0
def Src.j :Src->Bool
 | .d l=>l.all Bw| .b _=>true
section
variable (P :Aw)(U:Ab)
def mcut (L off len:E):M Src:=d8 (u6 U<|A4<|A5 (C2 L)<|A3 off len) λ_=>d8 (aT U L off len) λc=>i6<|.b c
def ssrc (e size:Nat)(x:SV):M Src:=
 match x with
 | .q=>i6<|.d []| .z b z off len _=>z7 λs=>match s.f b with
  | some (.f l  a  c) => bif Nat.beq e  a && Nat.beq z size && Nat.beq z  c then
    (match off,len with
    | .w o,.w n=>bif decide (0<=o)&&decide (0<=n)&&Nat.ble ((o.toNat+n.toNat)*z) l.length then i6 (.d<|(l.drop<|o.toNat*z).take<|n.toNat*z)else c9 "elements: beyond"|off,len=>match zR P e z l with
     |some L=>mcut U L off len|none=>c9 "elements: rows")
   else c9 "elements: type"
  |some (.g L a c _)=>bif Nat.beq e a&&Nat.beq z size&&Nat.beq z c then mcut U L off len else c9 "elements: type"|_=>c9 "elements: no block"
 | .m a L _=>bif Nat.beq e a&&Nat.beq size (kf P e).length then i6 (.b<|mI L)else c9 "elements: type"|_=>c9 "elements: value"
def Ry (e size:Nat)(x:Src):M E:=
 match x with
 | .b L=>i6 L| .d []=>i6<|.C .p []| .d l=>bif Nat.beq size (kf P e).length&&Nat.beq (l.length/size*size) l.length then d8 (uA (By P U 20) (kf P e) 0 l) λa=>i6 (.C (.f (l.length/size) size) a)else c9 "elements: kinds"
end
section
variable {P :Aw}{U:Ab}{Z:Tau}{F:Ac}{s:SS}{X:Hp}
variable (P U) in
def v6 (Z:Tau)(F:Ac)(e size:Nat):Src->Af->Prop
 | .d l,vs=>VDL P U Z F l vs
 | .b L, vs => size = (kf P e).length ∧ vs.length = (L.z U).length * size ∧ (∀ r ∈ L.z U, r.length = size) ∧
   ∀(r k:Nat) (row:Ar) (d:Dat),(L.z U)[r]? =some row->row[k]? =some d-> ∃x,vs[r*size+k]? =some x/\ ∀a,(kf P e)[k]? =some a->PV P F a x d
variable {e size:Nat}{x:Src}{vs:Af}
def v6.b {a:Tau}{c:Ac}(p:Tle Z a)(f:Fle F c)(h:v6 P U Z F e size x vs):v6 P U a c e size x vs:=by
 cases x with
 |d l=>exact VDL.m p f h|b L=>let⟨g,i,j,m⟩:=h;exact⟨g,i,j,λr k row d o n=>let⟨x,q,s⟩:=m r k row d o n;⟨x,q,λt b=>(s t b).O P f⟩⟩
variable {v:Av}
def PV.oneCell {k:Kd}{d:Dat}(h:PV P F k v d):v.oneCell':=by cases h<;>rfl
def v6.d (h:v6 P U Z F e size x vs)(m:x.j):vs.all Value.oneCell':=by
 cases x with
 |d l=>exact GR h m|b L=>
  let⟨s,t,i,k⟩:=h;rw[Xo];intro y q;let⟨j,o⟩:=YV q;have b:j<(L.z U).length*size:=by grind
  have d:0<size:=by grind
  have p:=(Nat.div_lt_iff_lt_mul d).2 b;have a:(L.z U)[j/size]? =some (L.z U)[j/size]:=by grind
  have v:=i _<|List.getElem_mem p;have u:j % size<size:=Nat.mod_lt _ d;have n:(L.z U)[j/size][j % size]? =((L.z U)[j/size][j % size]'(by omega)):=by grind
  let⟨x,f,r⟩:=k _ _ _ _ a n;have g:j/size*size+j % size=j:=by rw[Nat.mul_comm];exact Nat.div_add_mod j size
  rw[g,o,WJ]at f;subst f;have c:(kf P e)[j % size]? =((kf P e)[j % size]'(by omega)):=by grind
  exact(r _ c).oneCell
def noRp :Kd->Bool
 | .rp=>false|_=>true
def PV.noR {k:Kd}{v:Av}{d:Dat}(h:PV P F k v d)(a:noRp k):noR v:=by cases h<;>first|rfl|cases a
def v6.h {e size:Nat}{L:E}{vs:Af}(h:v6 P U Z F e size (.b L) vs)(d:(kf P e).all noRp):vs.all noR:=by
 let⟨r,s,l,m⟩:=h;rw[Xo];intro y p;let⟨j,o⟩:=YV p;have c:j<(L.z U).length*size:=by grind
 have g:0<size:=by grind
 have f:j/size<(L.z U).length:=(Nat.div_lt_iff_lt_mul g).2 c;have b:(L.z U)[j/size]? =(L.z U)[j/size]:=by simp[f]
 have u:=l _<|List.getElem_mem f;have t:j % size<size:=Nat.mod_lt _ g;have n:(L.z U)[j/size][j % size]? =((L.z U)[j/size][j % size]'(by omega)):=by grind
 let⟨x,i,q⟩:=m _ _ _ _ b n;have k:j/size*size+j % size=j:=by rw[Nat.mul_comm];exact Nat.div_add_mod j size
 rw[k,o,WJ]at i;subst i;have a:(kf P e)[j % size]? =((kf P e)[j % size]'(by omega)):=by grind
 rw[Xo]at d;exact(q _ a).noR (d _<|WT a)
variable {n o:Nat}{Y:Ao}
def oT (h:v6 P U Z F e size x vs)(s:∀(j:Nat) y,vs[j]? =some y->Y.l (o+j)=some y)(g:o+vs.length<=n):BD P U Z F o (x.g e size) (.cells Y n e size):=by
 cases x with
 |d l=>refine⟨Y,n,rfl,by rw[h.1];exact g,λj a f=>?_⟩;let⟨y,p,q⟩:=VDL.p h f;grind
 |b L=>let⟨b,i,c,m⟩:=h;refine⟨Y,n,rfl,⟨by omega,b,c,λr k row d u t=>?_⟩,by show o+(0:Int).toNat*size<=n;simp;omega⟩;grind
def v6.g {A B:E}{b f:Af}(j:v6 P U Z F e size (.b A) b)(l:v6 P U Z F e size (.b B) f):v6 P U Z F e size (.b<|J0 A B) (b++f):=by
 let⟨g,c,q,s⟩:=j;let⟨t,h,u,i⟩:=l;refine⟨g,by rw[Q4];simp[c,h,Xu],λr a=>?_,λr k row d a m=>?_⟩;rw[Q4]at a;grind
 .rw[Q4]at a;by_cases n:r<(A.z U).length;grind
  .rw[WR (by omega)]at a;let⟨x,o,p⟩:=i _ k row d a m;refine⟨x,?_,p⟩;have:b.length<=r*size+k:=by have:=WW size (show(A.z U).length<=r by omega);omega
   rw[WR this,<-o,c];congr 1;rw[Nat.sub_mul];have:=WW size (show(A.z U).length<=r by omega);omega
theorem K1 {z:Nat}{rows:a8}(s:C4 P F e z o n Y rows){off len:Int}(w:0<=off)(y:0<=len)(A:off+len<=rows.length){L:E}(hL:L.z U=pQ rows off len):∃vs,j8 Y (o+off.toNat*z) (len.toNat*z)=some vs/\o+off.toNat*z+len.toNat*z<=n/\v6 P U Z F e z (.b L) vs/\vs.length=len.toNat*z:=by
 obtain⟨O,u,l,v⟩:=s;have G:=Z8 w y A;obtain⟨vs,I,J,K⟩:=B6 (R:=λj x=>∀(r k:Nat) (row:Ar) (d:Dat),j=r*z+k->(pQ rows off len)[r]? =some row->row[k]? =some d-> ∀p,(kf P e)[k]? =some p->PV P F p x d) (len.toNat*z) (o+off.toNat*z) 0 λj i=>by
  have t:0<z:=by grind
  have s:j/z<(pQ rows off len).length:=by rw[G];exact(Nat.div_lt_iff_lt_mul t).2 i
  have g:(pQ rows off len)[j/z]? =some (pQ rows off len)[j/z]:=by grind
  have a:=jR g;have q:=l _<|WT a;have C:j % z<z:=Nat.mod_lt _ t;have B:(pQ rows off len)[j/z][j % z]? =some ((pQ rows off len)[j/z][j % z]'(by omega)):=by grind
  obtain⟨x,H,Q⟩:=v _ _ _ _ a B;have M:j/z*z+j % z=j:=by rw[Nat.mul_comm];exact Nat.div_add_mod j z
  refine⟨x,by rw[<-H];congr 1;rw[Xu];omega,λr k row d N b c p D=>?_⟩;have f:k<z:=by grind
  obtain⟨rfl,rfl⟩:=FQ C f (show j/z*z+j % z=r*z+k by omega);grind
 refine⟨vs,I,?_,⟨u,by grind,λr h=>?_,λr k row d b c=>?_⟩,J⟩
 .have:off.toNat*z+len.toNat*z<=rows.length*z:=by rw[<-Xu];exact WW z (by omega)
  omega
 rw[hL]at h;exact l r<|YA<|Yz h
 .rw[hL]at b;have f:k<z:=by have:=l _<|WT<|jR b;grind
  have m:r<len.toNat:=by grind
  have i:r*z+k<vs.length:=by
   have:r*z+z<=len.toNat*z:=by rw[<-Yj];exact WW z m
   omega
  exact⟨vs[r*z+k]'i,WV i,K (r*z+k) _ (by grind) r k row d (by omega) b c⟩
variable (P U) in
def Ub X e size v x Z F:=∃n vs,A8 X size v=some (n,vs)/\v6 P U Z F e size x vs/\vs.length=n*size/\(x.h size).j U=n
def gY {i a len c k z:Nat}{y:Blk}(b:X.m.l i=y)(f:rdC y=(Y,k,z))(d:a+len*size<=k)(e:j8 Y a (len*size)=vs):A8 X size (.slice (some ⟨i,a,none⟩) len c)=(len,vs):=by simp only[A8,b,f,WQ d,Xa,e]
def Lw {z:Nat}{L off len:E}{i c k h w:Nat}(l:X.m.l i=some (.cells Y k h w))(p:n<=k)(q:C4 P F e z o n Y (L.z U))(f:0<=off.j U)(g:0<=len.j U):OKp U (mcut U L off len) s λx=>Ub P U X e z (.slice (some ⟨i,o+off.r U*z,none⟩) (len.r U) c) x Z F:=by
 refine OKp.g.f λ_ _ _ _ b=>D9.f λd _ _ _ j=>Zq ?_;have b:=B7 b;rw[l9,j5]at b;have a:d.z U=pQ (L.z U) (off.j U) (len.j U):=by show(d.A U).m=_;rw[j];rfl
 obtain⟨vs,r,t,u,v⟩:=K1 q f g b a;refine⟨len.r U,vs,gY l rfl (Ya t p) r,u,v,?_⟩;show(C2 d).j U=_;rw[j5,a,Z8 f g b]
def Mr (ab:1<=size){a:SV}(G:VD P U Z F a v)(hs:SD P U Z F s X):OKp U (ssrc P U e size a) s λx=>Ub P U X e size v x Z F:=by
 unfold ssrc;split;cases G;exact Zq ⟨0,[],rfl,ZK,by simp,by show((0/size:Nat):Int)=0;simp⟩
 .rename_i b z off len cap;refine Zp ?_;split
  .rename_i l A O J;cases m:Nat.beq e A&&Nat.beq z size&&Nat.beq z O with
   |false=>exact Zl|true=>
    simp only[WK,Xy]at m;obtain⟨⟨rfl,rfl⟩,rfl⟩:=m;obtain⟨i,o,y,K,w,kF,Y,n,rfl,I,M⟩| ⟨K,L',A,O,ac,w,k3,I,M⟩:=hs.f b _ J
    .cases G with
     |sl _ _ _ _ _ i' o' c f B t H=>
      rw[K]at f;obtain⟨rfl,rfl⟩:=f;split
      .rename_i q p;cases m:decide (0<=q)&&decide (0<=p)&&Nat.ble ((q.toNat+p.toNat)*z) l.length with
       |false=>exact Zl|true=>
        simp only[WK,Xf,XX]at m;obtain⟨⟨q1,q2⟩,q3⟩:=m;rw[Xu]at q3;obtain⟨vs,Q,N,v3⟩:=B6 (c:=Y) (R:=λj x=>∀a,((l.drop<|q.toNat*z).take<|p.toNat*z)[j]? =some a->VD P U Z F a x) (p.toNat*z) (o+q.toNat*z) 0 λj hj=>by
         have V:q.toNat*z+j<l.length:=by omega
         obtain⟨x,w1,w2⟩:=M (q.toNat*z+j) _<|WV V;grind
        have u:((l.drop<|q.toNat*z).take<|p.toNat*z).length=p.toNat*z:=by grind
        refine Zq ⟨p.toNat,vs,gY w rfl (by show o+q.toNat*z+p.toNat*z<=n;omega) Q,⟨by rw[u,N],λj a x G hx=>v3 j x hx a<|by grind⟩,N,?_⟩;show((((l.drop<|q.toNat*z).take<|p.toNat*z).length/z:Nat):Int)=_;rw[u,Nat.mul_div_cancel _ ab]
      split;rename_i L hL;exact Lw w (Xh n) (sM hL I M) B t;exact Zl
     |sl0 _ _ _ _ _ f B t H=>grind
    cases w
  .rename_i L A O ph J;cases m:Nat.beq e A&&Nat.beq z size&&Nat.beq z O with
   |false=>exact Zl|true=>
    simp only[Xa];simp only[WK,Xy]at m;obtain⟨⟨rfl,rfl⟩,rfl⟩:=m;obtain⟨i,o,y,K,w,kF,Y,n,rfl,I,M⟩| ⟨K,L',A,O,ac,w,k3,I,M⟩:=hs.f b _ J
    .cases G with
     |sl _ _ _ _ _ i' o' c f B t H=>rw[K]at f;obtain⟨rfl,rfl⟩:=f;exact Lw w (Xh n) I B t
     |sl0 _ _ _ _ _ f B t H=>grind
    .cases G with
     |sl _ _ _ _ _ i' o' c f B t H=>grind|sl0 _ _ _ _ _ f B t H=>
      obtain⟨rfl,rfl,rfl,rfl⟩:=w;refine OKp.g.f λ_ _ _ _ p1=>D9.f λS _ _ _ T=>Zq ?_;have D:S.z U=[]:=by show(S.A U).m=_;rw[T,k3];simp[pQ,Dat.m]
      refine⟨0,[],by simp[A8],⟨I,by rw[D];simp,λr h=>(by grind),λr k row d h=>by rw[D]at h;simp at h⟩,by simp,?_⟩;show(C2 S).j U=0;rw[j5,D];rfl
  exact Zl
 .rename_i A L ad;cases m:Nat.beq e A&&Nat.beq size (kf P e).length with
  |false=>exact Zl|true=>
   simp only[WK,Xy]at m;obtain⟨rfl,hk⟩:=m;cases G with
   |lst _ _ _ _ hv H=>
    refine Zq ?_;have C:(mI L).z U=L.z U:=by show((mI L).A U).m=_;rw[pP];rfl
    have g:((Src.b<|mI L).h size).j U=((L.z U).length:Int):=by show(C2<|mI L).j U=_;rw[j5,C]
    generalize aa:L.z U=rows at hv C g;cases hv with
    |N=>exact⟨0,[],by simp[A8],⟨hk,by rw[C];simp,λr h=>(by grind),λr k row d h=>by rw[C]at h;simp at h⟩,by simp,by rw[g];rfl⟩|L=>exact⟨0,[],by simp[A8],⟨hk,by rw[C];simp,λr h=>(by grind),λr k row d h=>by rw[C]at h;simp at h⟩,by simp,by rw[g];rfl⟩|sl _ i o c b Y n z _ x hF J ae hn hz hr hx ah=>
     have hg:=hs.p i b hF;have W:C4 P F e z o n Y rows:=⟨hn,hz,hr,λr k row d t h2=>(by grind)⟩
     have E:pQ rows 0 rows.length=rows:=by simp[pQ]
     obtain⟨vs,Q,N,v3,v4⟩:=K1 W (len:=rows.length) (Yg 0) (by omega) (by omega) (by rw[C,E]);have e1:(0:Int).toNat*z=0:=by simp
     rw[e1,Yi,Xz]at Q N;have ez:z=size:=by omega
     subst ez;exact⟨rows.length,vs,gY hg J N Q,v3,v4,g⟩
 exact Zl
def EU (h:v6 P U Z F e size x vs)(G:SD P U Z F s X):OKh P U (Ry P U e size x) Z F s X λL b q i=>b=Z/\i=X/\(size=(kf P e).length->v6 P U b q e size (.b L) vs):=by
 unfold Ry;split;exact Zk ⟨rfl,rfl,λ_=>h⟩;have hv:=WP h.1.symm;subst hv;exact Zk ⟨rfl,rfl,λc=>⟨c,by show 0=([]:a8).length*size;simp,λr h=>(by cases h),λr k row d h=>by have:([]:a8)[r]? =some row:=h;simp at this⟩⟩
 .rename_i l _;cases o:Nat.beq size (kf P e).length&&Nat.beq (l.length/size*size) l.length with
  |false=>exact Zi|true=>
   simp at o;obtain⟨R,S⟩:=o;refine(eR (ks:=kf P e) (j:=0) (λk a v Z F s X=>dE 20 k a v Z F s X) h G).f λg M t s1 D ex H ⟨u,w,z,N⟩=>Zk ⟨u,w,λc=>?_⟩;have I:vs.length=g.length:=by rw[z];exact h.1.symm
   have p:C4 P t e size 0 vs.length (fill .e 0 vs) ((E.C (.f (l.length/size) size) g).z U):=dW c (by omega) (by omega) λj d O=>by
    have Q:j<vs.length:=by grind
    have m:vs[j]? =some vs[j]:=by grind
    refine⟨vs[j],by rw[Xq];exact P3 vs j _ m,λK C=>?_⟩;grind
   have n:((E.C (.f (l.length/size) size) g).z U).length=l.length/size:=by show(b9 size (l.length/size) _).length=_;rw[Q3]
   refine⟨c,by grind,p.2.2.1,λr k row d A B=>?_⟩;obtain⟨y,f,J⟩:=p.2.2.2 r k row d A B;refine⟨y,?_,J⟩;rw[Xq,j6]at f;split at f;grind;rw[ZC]at f;cases f
end
section
variable (P :Aw)(U:Ab)
def dF (e size:Nat)(x:Src)(len:E):M SV:=d8 (gI<|x.g e size) λb=>i6<|.z b size (.w 0) len .g
def smove (e size b:Nat)(x:Src)(len:E)(cp:Cp):M SV:=λs=>.j (.z s.g size (.w 0) len cp,iN (s.j b none)<|x.g e size)
def Aj (e size b:Nat)(off len:E)(cap:Cp)(src:Src):M SV:=
 d8 (Ry P U e size src) λa=>z7 λs=>match s.f b with
 | some (.g L  g  f ph) => bif Nat.beq e  g && Nat.beq size  f && Nat.beq size (kf P e).length then
   d8 (u6 U<|A4<|A5 (C2 L)<|A3 off len) λ_=>d8 (u6 U<|A5 (A3 len<|C2 a)<|.w 67108865) λ_=>
   match cap with
   | .g=>d8 (aT U L off len) λd=>smove e size b (.b<|J0 d a) (A3 len<|C2 a) .g
   | .j=>d8 (aT U L off len) λd=>smove e size b (.b<|J0 d a) (A3 len<|C2 a) .j
   | .f c => d8 (jM U<|A5 c<|A3 len<|C2  a) λt =>
     bif t then d8 (aT U L off len) λd=>dF e size (.b<|J0 d a)<|A3 len<|C2 a
     else d8 (u6 U<|A4<|A5 ph<|A3 off c) λ_=>d8 (mJ b<|some<|.g (.C .g [L,A3 off len,a]) e f ph) λ_=>i6<|.z b size off (A3 len<|C2 a)<|.f c
  else c9 "append: type"
 |_=>c9 "append: block"
def sapp (e size:Nat)(s:SV)(src:Src):M SV:=
 match s with
 | .q=>match src with
  | .d []=>i6 .q|src=>d8 (u6 U<|A5 (src.h size)<|.w 67108865) λ_=>dF e size src<|src.h size
 | .z b z off len cap => bif Nat.beq z size && src.j then z7 λg => match  g.f b with
   |some (.f l a f)=>match off,len,src with
    | .w o, .w n, .d m => bif Nat.beq e  a && Nat.beq z  f && decide (0 ≤ o) && decide (0 ≤ n) && Nat.ble ((o.toNat + n.toNat) * z) l.length && Nat.ble (n.toNat + m.length / size) 67108864 && Nat.beq (m.length / size * size) m.length then
      match cap with
      | .g=>smove e size b (.d<|(l.drop<|o.toNat*z).take (n.toNat*z)++m) (.w (n.toNat+m.length/size:Nat)) .g| .j=>c9 "append: cells"
      | .f c => d8 (jM U<|A5 c<|.w (n.toNat + m.length / size : Nat)) λt =>
        bif t then dF e size (.d<|(l.drop<|o.toNat*z).take (n.toNat*z)++m) (.w (n.toNat+m.length/size:Nat))
        else bif Nat.ble ((o.toNat+n.toNat)*z+m.length) l.length then d8 (mJ b<|some<|.f (W6 l ((o.toNat+n.toNat)*z) m) a f) λ_=>i6 (.z b z (.w o) (.w (n.toNat+m.length/size:Nat))<|.f c)else c9 "append: room"
     else c9 "append: literal"
    |off,len,src=>d8 (CB P b) λ_=>Aj P U e size b off len cap src
   |some (.g _ _ _ _)=>Aj P U e size b off len cap src|_=>c9 "append: no block"
  else c9 "append: size"
 | .m  a L true => bif Nat.beq e  a && Nat.beq size (kf P e).length && src.j then
   d8 (jM U<|I4 (src.h size)<|.w 0) λt=>bif t then d8 (u6 U<|A5 (C2 L)<|.w 67108865) λ_=>i6 (.m a L true)else
    d8 (Ry P U e size src) λd=>d8 (u6 U<|A5 (A3 (C2 L)<|C2 d)<|.w 67108865) λ_=>dF e size (.b<|J0 (mI L) d)<|A3 (C2 L)<|C2 d
  else c9 "append: type"
 |_=>c9 "append: value"
def Ma (t u:Ax)(s x:SV):M SV:=
 match P.underlying t,P.underlying u with
 |some (.slice e),some (.slice _)=>match P.info? e with
  |none=>c9 "append: type"|some a=>match a.zero with
   |none=>c9 "append: zero"|some z=>bif Nat.beq z.cells.toList.length a.size&&Nat.ble a.bytes 1048576&&Nat.ble 1 a.size then d8 (ssrc P U e a.size x) λsrc=>sapp P U e a.size s src else c9 "append: size"
 |_,_=>c9 "append: type"
end
section
variable {P :Aw}{U:Ab}{V:Tau}{F:Ac}{s:SS}{X:Hp}
noncomputable def cP (X:Hp)(e size n:Nat)(d:Af)(s:Av):Bb (Av×Hp):=
 match s with
 | .slice none    a    b => bif Nat.beq    a 0 && Nat.beq    b 0 && Nat.ble n 67108864 then
   bif Nat.beq n 0 then some (.slice none 0 0,X)
   else some (.slice (some ⟨X.d,0,none⟩) n<|i4 n 0,X.f d e size)
  else none
 | .slice (some ⟨i,o,none⟩) a b=>match X.m.l i with
  |some (.cells c k g h)=>
   bif Nat.ble (a+n) 67108864&&d.all Value.oneCell' then
    bif Nat.beq n 0 then
     bif Nat.ble a b then some (.slice (some ⟨i,o,none⟩) a b,X)else none
    else
     bif Nat.ble unk b then
      bif Nat.ble 1 (I0 b)&&Nat.ble (I0 b) (a+n)then
       bif Nat.ble (o+a*size) k then
        match j8 c o (a*size)with
        |none=>none|some f=>some (.slice (some ⟨X.d,0,none⟩) (a+n)<|i4 (a+n) 0,X.f (f++d) e size)
       else none
      else bif Nat.beq h size&&Nat.beq g e&&Nat.ble (o+a*size) k then
       bif Nat.ble (a+n) (R7 b)then
        some (.slice (some ⟨i,o,none⟩) (a+n) b,tJ X i c (Nat.max k<|o+(a+n)*size) g h (o+a*size) d)
       else
       match j8 c o (a*size)with
       |none=>none|some f=>
        (bif Nat.beq o 0 then fill c (a*size) d else fill (fill .e 0 f) (a*size) d).A λj=>
         some (.slice (some ⟨X.d,0,none⟩) (a+n)<|i4 (a+n) 0,⟨(X.m.m i none).m X.d<|some<|.cells j ((a+n)*size) g h,X.d+1⟩)
      else none
     else bif Nat.ble (a+n) b then
      bif Nat.ble (o+(a+n)*size) k then
       some (.slice (some ⟨i,o,none⟩) (a+n) b,tJ X i c k g h (o+a*size) d)
      else none
     else
      bif Nat.ble (o+a*size) k then
       match j8 c o (a*size)with
       |none=>none|some f=>some (.slice (some ⟨X.d,0,none⟩) (a+n)<|i4 (a+n) 0,X.f (f++d) e size)
      else none
   else none
  |some (.ro c k _ _)=>
   bif Nat.ble (a+n) 67108864&&Nat.ble a b&& !Nat.ble unk b then
    bif Nat.beq n 0 then some (.slice (some ⟨i,o,none⟩) a b,X)
    else bif Nat.ble (a+n) b then none
    else bif Nat.ble (o+a*size) k then
     match j8 c o (a*size)with
     |none=>none|some f=>some (.slice (some ⟨X.d,0,none⟩) (a+n)<|i4 (a+n) 0,X.f (f++d) e size)
    else none
   else none
  |_=>none
 |_=>none
variable {n:Nat}{Y:Af}
def Ky {t u e d:Ax}{a:Ba}{z:Av}(h:P.underlying t=some (.slice e))(i:P.underlying u=some (.slice d))(g:P.info? e=a)(k:a.zero=z)(f:(Nat.beq z.cells.toList.length a.size&&Nat.ble a.bytes 1048576)){b c:Av}(j:A8 X a.size c=(n,Y)):F8 P X t u b c=cP X e a.size n Y b:=by simp only[F8,h,i,g,k,f,Xa,j];rfl
variable (P U) in
def wE X e size n Y b c V F a:=∃w,cP X e size n Y b=some (w,a)/\VD P U V F c w
def geN {len:E}(h:len.j U=n)(a:n<=67108864):pC U len .g (i4 n 0):=⟨n,rfl,a,by omega⟩
def In (z:Nat):0+(E.w 0).r U*z=0:=by show 0+(0:Int).toNat*z=0;simp
def sX {len:E}(h:len.j U=n):len.r U=n:=by show(len.j U).toNat=n;rw[h];exact Xz n
variable {e size:Nat}
def P7 {x:Src}{vs:Af}{len:E}(h:v6 P U V F e size x vs)(a:len.j U=n)(l:n<=67108864)(m:SD P U V F s X):OKh P U (dF e size x len) V F s X λc d g f=>f=X.f vs e size/\VD P U d g c (.slice (some ⟨X.d,0,none⟩) n<|i4 n 0):=by exact(OKh.j m λd p=>oT (h.b p<|Ze F) (λj y q=>by rw[Xq];exact P3 vs j y q)<|by omega).f λb d g t f _ o ⟨r,i,k⟩=>Zk ⟨k,ZI i (Yg 0) (by omega) (geN a l) (In size).symm (sX a).symm⟩
def OKh.b {e size b i o j q n c:Nat}{x:C8}{p:Src}{len:E}{cp:Cp}(w:s.f b=x)(I:V b=some (some (i,o))){hp1:Hp}(G:X.d<=hp1.d)(D:∀k,k<X.d->k≠i->hp1.m.l k=X.m.l k)(C:j=i\/X.d<=j)(g:j<hp1.d){y:Blk}(B:hp1.m.l j=y)(A:∀d,Tle V d->BD P U d F q (p.g e size) y)(f:len.j U=n)(z:pC U len cp c)(l:SD P U V F s X):OKh P U (smove e size b p len cp) V F s X λa d r h=>h=hp1/\VD P U d r a (.slice (some ⟨j,q,none⟩) n c):=λQ H _=>by let⟨u,v⟩:=l.move w I G D C g B<|A _<|dT _ (l.g _<|Xh _);exact⟨_,_,H,_,F,hp1,u,v,rfl,ZI (y6 _ _ _) (Yg 0) (by omega) z (by show q=q+(0:Int).toNat*size;simp) (sX f).symm⟩
variable {S:Ao}{W:Af}
def fN {a:Nat}(h:∀(j:Nat) y,W[j]? =some y->S.l (a+j)=some y)(j:Nat)(y:Av)(b:(W++Y)[j]? =some y):(fill S (a+W.length) Y).l (a+j)=some y:=by rw[j6];grind
variable {i k q Z:Nat}{R:Src}
def Iw {b o l:Nat}{x:C8}{len:E}{cp:Cp}(z:∀c,pC U len .g c->pC U len cp c)(hb:s.f b=x)(Q:V b=some (some (i,o)))(hg:X.m.l i=some (.cells S k e size))(hl:j8 S q (Z*size)=W)(hk:q+Z*size<=k)(aa:Y.all Value.oneCell')(ab:Y.length=n*size)(H:l<=67108864)(L:Z+n<=67108864)(r:v6 P U V F e size R (W++Y))(g:len.j U=((Z+n:Nat):Int))(O:SD P U V F s X):OKh P U (smove e size b R len cp) V F s X (wE P U X e size n Y<|.slice (some ⟨i,q,none⟩) Z<|i4 l 0):=by
 have G:=O.C b i o Q;let⟨l1,l2⟩:=u7 hl;have K:∀(j:Nat) y,W[j]? =some y->S.l (q+j)=some y:=λj y C=>by grind
 have hx:∀w u,cP X e size n Y (.slice (some ⟨i,q,none⟩) Z<|i4 l 0)=some (w,u)->(∀a f N B,Tle V f->Fle F N->B=u/\VD P U f N a w->wE P U X e size n Y (.slice (some ⟨i,q,none⟩) Z<|i4 l 0) a f N B):=
  λw u h a f N B _ _ ⟨h1,h2⟩=>⟨w,by grind,h2⟩
 have p:(Nat.ble (Z+n) 67108864&&Y.all Value.oneCell'):=by simp_all
 by_cases J:n=0
 ·
  subst J;have A:Y=[]:=WP (by omega);subst A;have D:∀c,unk<=c->Nat.ble Z c=true:=λc hc=>WQ<|Ya (Nat.le_of_lt<|wA<|by omega) hc;have M:∀c,unk<=c->cP X e size 0 [] (.slice (some ⟨i,q,none⟩) Z c)=some (.slice (some ⟨i,q,none⟩) Z c,X):=λc hc=>by simp only[cP,hg,p,Xa,D c hc];rfl
  have d:=M _<|y5 l 0;exact(OKh.b hb Q (Xh _) (λ_ _ _=>rfl) (.inl rfl) G hg (λf t=>oT (r.b t<|Ze F) (by grind)<|by grind) g (z _ ⟨l,rfl,H,by omega⟩) O).g (hx _ _ d)
 .have d:cP X e size n Y (.slice (some ⟨i,q,none⟩) Z<|i4 l 0)=bif Nat.ble (Z+n) l then
    some (.slice (some ⟨i,q,none⟩) (Z+n)<|i4 l 0,tJ X i S (Nat.max k<|q+(Z+n)*size) e size (q+Z*size) Y)
    else(bif Nat.beq q 0 then fill S (Z*size) Y else fill (fill .e 0 W) (Z*size) Y).A λct=>
     some (.slice (some ⟨X.d,0,none⟩) (Z+n)<|i4 (Z+n) 0,⟨(X.m.m i none).m X.d<|some<|.cells ct ((Z+n)*size) e size,X.d+1⟩):=by
   simp only[cP,hg,p,Xa,B0 J,Xb,WQ<|y5 l 0,Ge,wQ];rw[show Nat.ble 1 0=false from rfl,Bool.false_and,Xb,w9 rfl,w9 rfl,WQ hk,hl];grind
  have I:(Z+n)*size=Z*size+n*size:=Xu _ _ _;cases v:Nat.ble (Z+n) l with
  |true=>
   rw[v,Xa]at d;simp only[tJ,ZB]at d;refine(OKh.b (X:=X) (hp1:= {X with m:=X.m.m i<|some<|.cells (fill S (q+Z*size) Y) (Nat.max k<|q+(Z+n)*size) e size}) hb Q (Xh _)
    (λj _ hj=>by rw[ZD,Xd hj]) (.inl rfl) G (by rw[ZD,Xg rfl]) (λf t=>?_) g (z _ ⟨l,rfl,H,by omega⟩) O).g (hx _ _ d)
   refine oT (r.b t<|Ze F) (λj y C=>?_) ?_;rw[<-l1];exact fN K j y C;grind
  |false=>
   rw[v,Xb,ZB]at d;refine(OKh.b hb Q (Yq _)
    (λj hj A=>by rw[ZD,af,ZD,Xd A]) (.inr<|Xh _) (Yd _) (by rw[ZD,Xg rfl]) (λf t=>?_) g (z _<|geN g L) O).g (hx _ _ d)
   refine oT (r.b t<|Ze F) (λj y C=>?_) (by grind);by_cases hq:q=0;rw[w9 hq,Xa];have:=fN (by omega) j y C;grind;rw[B0 hq,Xb];have:=fN (λj y C=>by rw[Xq];exact P3 W j y C) j y C;grind
def OH {b o:Nat}{x:C8}{len:E}(D:s.f b=x)(B:V b=some (some (i,o)))(u:X.m.l i=some (.cells S k e size))(G:j8 S q (Z*size)=W)(M:q+Z*size<=k)(I:Y.all Value.oneCell')(N:Y.length=n*size)(l:Z<unk)(r:Z+n<=67108864)(f:v6 P U V F e size R (W++Y))(c:len.j U=((Z+n:Nat):Int))(A:SD P U V F s X):OKh P U (smove e size b R len .j) V F s X (wE P U X e size n Y<|.slice (some ⟨i,q,none⟩) Z Z):=by
 let⟨Q,l2⟩:=u7 G;have H:∀(j:Nat) y,W[j]? =some y->S.l (q+j)=some y:=λj y J=>by grind
 have d:(Nat.ble (Z+n) 67108864&&Y.all Value.oneCell'):=by simp_all
 by_cases p:n=0
 .subst p;have w:Y=[]:=WP (by omega);subst w;have C:cP X e size 0 [] (.slice (some ⟨i,q,none⟩) Z Z)=some (.slice (some ⟨i,q,none⟩) Z Z,X):=by simp only[cP,u,d,Xa,WQ<|Xh Z];rfl
  exact(OKh.b (cp:= .j) (q:=q) D B (Xh _) (λ_ _ _=>rfl) (.inl rfl) (A.C b i o B) u (λh g=>oT (f.b g<|Ze F) (by grind)<|by grind) c (Or.inl ⟨l,(sX c).symm,by omega⟩) A).g λa h K z _ _ ⟨L,t⟩=>⟨_,by grind,t⟩
 .have C:cP X e size n Y (.slice (some ⟨i,q,none⟩) Z Z)=some (.slice (some ⟨X.d,0,none⟩) (Z+n)<|i4 (Z+n) 0,X.f (W++Y) e size):=by simp only[cP,u,d,Xa,B0 p,Xb,cT l,cT (show Z<Z+n by omega),WQ M,G]
  refine(OKh.b (cp:= .j) (hp1:=X.f (W++Y) e size) (q:=0) D B (Yq _)
   (λj O _=>by show(X.m.m X.d _).l j=_;rw[ZD,af]) (.inr<|Xh _) (Yd _) (by show(X.m.m X.d _).l X.d=_;rw[ZD,Xg rfl]) (λh g=>?_) c (Or.inr<|geN c r) A).g λa h K z _ _ ⟨L,t⟩=>⟨_,by grind,t⟩
  exact oT (f.b g<|Ze F) (λj y J=>by rw[Xq];exact P3 _ j y J) (by omega)
def KV {c:Nat}{len:E}(o:X.m.l i=some (.cells S k e size))(r:j8 S q (Z*size)=W)(p:q+Z*size<=k)(f:Y.all Value.oneCell')(h:c<unk)(t:Z<=c)(j:c<Z+n)(b:Z+n<=67108864)(g:v6 P U V F e size R (W++Y))(d:len.j U=((Z+n:Nat):Int))(v:SD P U V F s X):OKh P U (dF e size R len) V F s X (wE P U X e size n Y<|.slice (some ⟨i,q,none⟩) Z c):=by
 have w:cP X e size n Y (.slice (some ⟨i,q,none⟩) Z c)=some (.slice (some ⟨X.d,0,none⟩) (Z+n)<|i4 (Z+n) 0,X.f (W++Y) e size):=by simp only[cP,o];rw[show(Nat.ble (Z+n) 67108864&&Y.all Value.oneCell')=true by simp only[WK,XX];exact⟨b,f⟩];simp only[Xa,B0 (show n≠0 by omega),Xb,cT h,cT j,WQ p,r]
 exact(P7 g d b v).g λa x y u _ _ ⟨z,l⟩=>⟨_,by grind,l⟩
def OI {c:Nat}(f:X.m.l i=some (.cells S k e size))(o:Y.all Value.oneCell')(t:Y.length=n*size)(d:c<unk)(g:Z<=c)(h:Z+n<=c)(p:Z+n<=67108864)(s:q+(Z+n)*size<=k){e0:Nat}:∃m,cP X e0 size n Y (.slice (some ⟨i,q,none⟩) Z c)=some (.slice (some ⟨i,q,none⟩) (Z+n) c,{X with m:=m})/\(∀j,j≠i->m.l j=X.m.l j)/\m.l i=some (.cells (fill S (q+Z*size) Y) k e size):=by
 have a:(Nat.ble (Z+n) 67108864&&Y.all Value.oneCell'):=by simp_all
 by_cases b:n=0;subst b;have l:Y=[]:=WP (by omega);subst l;refine⟨X.m,?_,λ_ _=>rfl,f⟩;simp only[cP,f,a,Xa,w9,WQ g];rfl;refine⟨X.m.m i<|some<|.cells (fill S (q+Z*size) Y) k e size,?_,λj r=>by rw[ZD,Xd r],by rw[ZD,Xg rfl]⟩;simp only[cP,f,a,Xa,B0 b,Xb,cT d,WQ h,WQ s,tJ,ZB]
end
section
variable {P :Aw}{U:Ab}{Y:Tau}{F:Ac}{s:SS}{X:Hp}
def OKh.d {b:Nat}{x:C8}(E:s.f b=x)(G:Y b=some none){x':C8}(H:∃L e z ph,x'= .g L e z ph/\L.z U=[]/\z=(kf P e).length/\ph.j U<=0)(f:SD P U Y F s X):OKh P U (mJ b<|some x') Y F s X λ_ m n l=>m=Y/\n=F/\l=X:=by
 intro Q w _;have g:∀c y,(s.j b<|some x').f c=some y-> ∃y,s.f c=some y:=λc y a=>by rw[Zu]at a;grind
 refine⟨(),_,w,Y,F,X,⟨ZE Y,Ze F,Xh _,Xh _,λ_ _=>rfl,λc y a _=>g c y a,⟨[(b,some x')],rfl,λ_ _ _=>rfl,λc j q a h=>(by rw[f.g c a]at h;cases h),λ_ _ _ h=>.inl h,λ_ _ _ h=>h⟩,⟨[],rfl⟩,⟨[(b,some x')],rfl,λ_ _ _ _ _ _ o _ _ _ _ v _=>⟨o,v,λ_ _=>rfl⟩⟩⟩,
  ⟨λc y a=>?_,λc d y z j q k r a u i p t=>?_,f.p,f.C,f.B,f.g,f.I,f.N⟩,rfl,rfl,rfl⟩
 rw[Zu]at a;by_cases e:c=b;grind;rw[Xd e]at a;exact f.f c y a;let⟨C,A⟩:=g c y a;let⟨D,B⟩:=g d z u;exact f.A c d C D j q k r A B i p t
variable {e n size:Nat}{vs:Af}
def HD {L len:E}(h:v6 P U Y F e size (.b L) vs)(p:vs.length=n*size)(a:len.j U=n)(j:(L.z U).length=n)(m:n<=67108864)(l:SD P U Y F s X):OKh P U (dF e size (.b L) len) Y F s X λc d f b=>(n=0/\b=X/\VD P U d f c (.slice none 0 0))\/(n≠0/\b=X.f vs e size/\VD P U d f c (.slice (some ⟨X.d,0,none⟩) n<|i4 n 0)):=by by_cases k:n=0;subst k;intro Q o _;let⟨g,i⟩:=l.H (Xh _) (λ_ _=>rfl)<|.inr ⟨rfl,L,e,size,.w 0,rfl,WP j,h.1,Yg 0⟩;exact⟨_,_,o,_,F,X,g,i,.inl ⟨rfl,rfl,.sl0 s.g size (.w 0) len .g (y6 _ _ _) rfl a (λe q=>by grind)⟩⟩;exact(P7 h a m l).g λc d f b _ _ ⟨g,i⟩=>.inr ⟨k,g,i⟩
variable {Z:Af}
def N9 (a:n<=67108864):cP X e size n Z (.slice none 0 0)=bif Nat.beq n 0 then some (.slice none 0 0,X)else some (.slice (some ⟨X.d,0,none⟩) n<|i4 n 0,X.f Z e size):=by simp only[cP];rw[show(Nat.beq 0 0&&Nat.beq 0 0&&Nat.ble n 67108864)=true by simp only[WK,XX];exact⟨⟨rfl,rfl⟩,a⟩,Xa]
def pE {L:E}(a:1<=size)(h:v6 P U Y F e size (.b L) vs)(b:vs.length=n*size):(L.z U).length=n:=by have:=h.2.1;rw[b]at this;exact(Nat.eq_of_mul_eq_mul_right a this).symm
def toUn :SV->SV
 | .z b z off len .g=>.z b z off len .j|a=>a
variable {v:Av}
def TK {a:SV}(h:VD P U Y F a v):VD P U Y F (toUn a) v:=by
 unfold toUn;split
 .cases h with
  |sl _ _ _ _ _ i o c h b d f=>exact .sl _ _ _ _ .j i o c h b d<|Or.inr f|sl0 _ _ _ _ _ h b d f=>exact .sl0 _ _ _ _ .j h b d (λe g=>by grind)
 exact h
def uG {b:Nat}(ap:1<=size){off len:E}{cap:Cp}{src:Src}(ha:VD P U Y F (.z b size off len cap) v)(ak:v6 P U Y F e size src Z)(I:Z.length=n*size)(w:Z.all Value.oneCell'=true)(hs:SD P U Y F s X):OKh P U (Aj P U e size b off len cap src) Y F s X (wE P U X e size n Z v):=by
 refine(EU ak hs).f λLn ah F1 s1 T ex ax ⟨e1,e2,u⟩=>Zj ?_;subst e1;subst e2;split
 .rename_i L e' z' ph hb;cases N:Nat.beq e e'&&Nat.beq size z'&&Nat.beq size (kf P e).length with
  |false=>exact Zi|true=>
   simp only[WK,Xy]at N;obtain⟨⟨rfl,rfl⟩,al⟩:=N;have u:=u al;have j:=pE ap u I;refine Zg Zm λ_ s2 o2 ay p1=>Zg Zm λ_ s3 o3 an p2=>?_;have p1:=B7 p1;have p2:=E2 p2;rw[l9,j5]at p1;rw[l9,j5,j]at p2;simp only[D5]at p2;have C:s3.f b=some (.g L e size ph):=by rw[(o2.g o3).f];exact hb
   rcases an.f b _ C with⟨i,o,y,V,k2,kF,cs,k,rfl,k4,k5⟩| ⟨V,L',e',z',az,k2,k3,k4,k5⟩
   .cases ha with
    |sl0 _ _ _ _ _ K h0 h1 hc=>grind|sl _ _ _ _ _ i' o' c K h0 h1 hc=>
     rw[V]at K;obtain⟨rfl,rfl⟩:=K;have av:len.j U=((len.r U:Nat):Int):=by grind
     have aw:off.j U=((off.r U:Nat):Int):=by grind
     have d:(A3 len<|C2 Ln).j U=((len.r U+n:Nat):Int):=by rw[l9,j5,j];omega
     have M:∀Lo:E,Lo.A U= .l (pQ (L.z U) (off.j U)<|len.j U)-> ∃vs,j8 cs (o+off.r U*size) (len.r U*size)=some vs/\o+off.r U*size+len.r U*size<=k/\v6 P U ah F1 e size (.b<|J0 Lo Ln) (vs++Z):=by
      intro Lo f;have hR:Lo.z U=pQ (L.z U) (off.j U) (len.j U):=by show(Lo.A U).m=_;rw[f];rfl
      let⟨vs,z,H,v3,v4⟩:=K1 (Z:=ah) k4 h0 h1 p1 hR;exact⟨vs,z,H,v3.g u⟩
     split
     ·
      obtain⟨lo,rfl,c1,c2⟩:=hc;refine Zg D9 λLo s4 O g f=>?_;let⟨vs,z,H,v3⟩:=M Lo f;exact Iw (λ_ h=>h) (by rw[O.f];exact C) V k2 z H w I c1 (by omega) v3 d g
     ·
      refine Zg D9 λLo s4 O g f=>?_;let⟨vs,z,H,v3⟩:=M Lo f;rcases hc with⟨c1,rfl,c2⟩| ⟨lo,rfl,c1,c2⟩;exact OH (by rw[O.f];exact C) V k2 z H w I c1 (by omega) v3 d g;exact Iw (cp:= .j) (λ_ h=>Or.inr h) (by rw[O.f];exact C) V k2 z H w I c1 (by omega) v3 d g
     .rename_i c0;obtain⟨c1,rfl,c3,c4⟩:=hc;have au:c0.j U=((c0.r U:Nat):Int):=by grind
      refine Zg Zs λt s4 O g ht=>?_;rw[J5,d]at ht;cases t with
      |true=>simp only[Xf]at ht;simp only[Xa];refine Zg D9 λLo s5 o5 G f=>?_;let⟨vs,z,H,v3⟩:=M Lo f;exact KV k2 z H w c3 (by omega) (by omega) (by omega) v3 d G
      |false=>
       simp only[XM]at ht;simp only[Xb];refine Zg Zm λ_ s5 o5 G p3=>?_;have p3:=B7 p3;rw[l9]at p3;have ad:s5.f b=some (.g L e size ph):=by rw[(O.g o5).f];exact C
       have J:o+off.r U*size+(len.r U+n)*size<=k:=by have:(off.r U+(len.r U+n))*size<=ph.r U*size:=WW size (by show off.r U+(len.r U+n)<=(ph.j U).toNat;omega);grind
       let⟨m,m1,m2,m3⟩:=OI (e0:=e) (q:=o+off.r U*size) (c:=c0.r U) k2 w I c3 (by omega) (by omega) (by omega) J;have aj:(A3 off len).j U=off.j U+len.j U:=l9 off len;have aa:((A3 off len).j U).toNat=off.r U+len.r U:=by grind
       have ae:C4 P F1 e size o k (fill cs (o+off.r U*size+len.r U*size) Z) ((E.C .g [L,A3 off len,Ln]).z U):=by have:=C4.f (news:=Z) (l:=Ln.z U) (a:=(A3 off len).j U) k4 (by rw[aj];exact p1) u.2.2.1 u.2.1 (by rw[aa,j,Xu,Xu];rw[Xu]at J;omega) u.2.2.2;rw[aa,Xu,<-Yc]at this;exact this
       refine(Zh (x':= .g (.C .g [L,A3 off len,Ln]) e size ph) (m:=m) ad V m2 m3 ⟨_,k,rfl,ae,k5⟩).f λ_ aq F2 s6 am _ ao ⟨w1,w2,w3⟩=>?_;subst w1;refine Zk ⟨.slice (some ⟨i,o+off.r U*size,none⟩) (len.r U+n)<|c0.r U,by rw[w3];exact m1,ZI V h0 (by omega) ⟨c1,rfl,c3,by omega⟩ rfl (sX d).symm⟩
   .cases ha with
    |sl _ _ _ _ _ i' o' c K h0 h1 hc=>grind|sl0 _ _ _ _ _ K h0 h1 hc=>
     obtain⟨rfl,rfl,rfl,rfl⟩:=k2;have S:n<=67108864:=by omega
     have d:(A3 len<|C2 Ln).j U=(n:Int):=by rw[l9,j5,j];omega
     have A:∀Lo:E,Lo.A U= .l (pQ (L.z U) (off.j U)<|len.j U)->v6 P U ah F1 e size (.b<|J0 Lo Ln) Z/\((J0 Lo Ln).z U).length=n:=by
      intro Lo f;have hR:Lo.z U=[]:=by show(Lo.A U).m=_;rw[f,k3];simp[pQ,Dat.m]
      have hA:(J0 Lo Ln).z U=Ln.z U:=by rw[Q4,hR];rfl
      let⟨q1,q2,q3,q4⟩:=u;exact⟨⟨q1,by rw[hA];exact q2,by rw[hA];exact q3,by rw[hA];exact q4⟩,by rw[hA];exact j⟩
     split;refine Zg D9 λLo s4 O g f=>?_;let⟨z,H⟩:=A Lo f;by_cases B:n=0;subst B;intro Q N _;let⟨d1,R⟩:=g.J b;let⟨ab,ac⟩:=R.H (x:=(Src.b<|J0 Lo Ln).g e size) (p:=none) (hp':=T) (Xh _) (λ_ _=>rfl)<|.inr ⟨rfl,_,e,size,.w 0,rfl,WP H,z.1,Yg 0⟩;refine⟨_,_,N,_,F1,T,d1.g ab,ac,.slice none 0 0,by rw[N9 S];rfl,?_⟩;exact .sl0 _ size (.w 0) _ .g (y6 _ _ _) rfl d (λe he=>by cases he);intro Q N _;let⟨d1,R⟩:=g.J b;have hx:=(P7 (s:=s4.j b none) z d S R) Q N R;let⟨a,s',q1,W,F',D,q2,q3,q4,q5⟩:=hx;exact⟨a,s',q1,W,F',D,d1.g q2,q3,_,by rw[N9 S,B0 B,Xb,q4],q5⟩;refine Zg D9 λLo s4 O g f=>?_;let⟨z,H⟩:=A Lo f;by_cases B:n=0;subst B;intro Q N _;let⟨d1,R⟩:=g.J b;let⟨ab,ac⟩:=R.H (x:=(Src.b<|J0 Lo Ln).g e size) (p:=none) (hp':=T) (Xh _) (λ_ _=>rfl)<|.inr ⟨rfl,_,e,size,.w 0,rfl,WP H,z.1,Yg 0⟩;refine⟨_,_,N,_,F1,T,d1.g ab,ac,.slice none 0 0,by rw[N9 S];rfl,?_⟩;exact .sl0 _ size (.w 0) _ .j (y6 _ _ _) rfl d (λe he=>by cases he);intro Q N _;let⟨d1,R⟩:=g.J b;have hx:=(P7 (s:=s4.j b none) z d S R) (λr=>Q (toUn r.1,r.2)) N R;let⟨a,s',q1,W,F',D,q2,q3,q4,q5⟩:=hx;exact⟨toUn a,s',q1,W,F',D,d1.g q2,q3,_,by rw[N9 S,B0 B,Xb,q4],TK q5⟩
     .rename_i c0;have ai:=hc c0 rfl;refine Zg Zs λt s4 O g ht=>?_;rw[J5,d,ai]at ht;cases t with
      |true=>simp only[Xf]at ht;simp only[Xa];refine Zg D9 λLo s5 o5 G f=>?_;let⟨z,H⟩:=A Lo f;exact(P7 z d S G).g λa W F' D _ _ ⟨w1,w2⟩=>⟨_,by rw[N9 S,B0<|by omega,Xb,w1],w2⟩
      |false=>
       simp only[XM]at ht;simp only[Xb];have B:n=0:=by omega
       subst B;refine Zg Zm λ_ s5 o5 G p3=>?_;have ad:s5.f b=some (.g L e size ph):=by rw[(O.g o5).f];exact C
       have ae:(E.C .g [L,A3 off len,Ln]).z U=[]:=by show(Sx.over (L.z U) _<|Ln.z U)=[];rw[k3,WP j];simp[Sx.over]
       refine(OKh.d (x':= .g (.C .g [L,A3 off len,Ln]) e size ph) ad V ⟨_,e,size,ph,rfl,ae,k4,k5⟩ G).f λ_ aq F2 s6 am _ ao ⟨w1,w2,w3⟩=>?_;subst w1;subst w3;exact Zk ⟨.slice none 0 0,by rw[N9 S];rfl,.sl0 b size off _ _ V h0 d (λe he=>by cases he;exact ai)⟩
 exact Zi
end
section
variable {P :Aw}{U:Ab}{Y:Tau}{F:Ac}{s:SS}{X:Hp}
def PV.nil_or {e:Ax}{a:Aq}{l:Nat}{d:Dat}(h:PV P F (.f e) (.slice a l l) d):(a=none/\l=0/\d= .l [])\/ ∃i o,a=some ⟨i,o,none⟩:=by cases h<;>grind
theorem C4.b {e i o l c:Nat}{rows:a8}(h:PV P F (.f e) (.slice (some ⟨i,o,none⟩) l c) (.l rows))(a:∀i b,F i=some b->X.m.l i=some b):∃b g n z,X.m.l i=some b/\C4 P F e z o n g rows/\l=rows.length/\z=(kf P e).length/\((∃q,b= .cells g n q z)\/(∃q D,b= .ro g n q D/\c<unk)):=by
 cases h with
 |sl _ _ _ _ b g n z _ x t f u v j w G C=>
  cases b with
  |cells p s y E=>simp only[arr,rdC,WJ,WL]at f;obtain⟨rfl,rfl,rfl⟩:=f;exact⟨_,p,s,z,a _ _ t,⟨v,j,w,λr k row d A B=>(by grind)⟩,rfl,j,.inl ⟨_,by rw[u.2.2 rfl]⟩⟩
  |ro p s y E=>simp only[arr,rdC,WJ,WL]at f;obtain⟨rfl,rfl,rfl⟩:=f;exact⟨_,p,s,z,a _ _ t,⟨v,j,w,λr k row d A B=>(by grind)⟩,rfl,j,.inr ⟨_,_,rfl,u.2.1 rfl⟩⟩
  |_=>simp[arr,rdC]at f
def Tw {e size n:Nat}(N:1<=size){a:SV}{v:Av}(C:VD P U Y F a v){src:Src}{g:Af}(d:v6 P U Y F e size src g)(p:g.length=n*size)(D:(src.h size).j U=n)(hs:SD P U Y F s X):OKh P U (sapp P U e size a src) Y F s X (wE P U X e size n g v):=by
 have I:∀src,v6 P U Y F e size src g->(src.h size).j U=n->(∀l,src= .d l->l≠ [])->OKh P U (d8 (u6 U<|A5 (src.h size)<|.w 67108865) λ_=>dF e size src<|src.h size) Y F s X (wE P U X e size n g<|.slice none 0 0):=by
  intro src d D W;refine Zg Zm λ_ s1 _ M K=>?_;have K:=E2 K;rw[D]at K;simp only[D5]at K;have hn:n<=67108864:=by omega
  cases src with
  |d l=>
   have hl:l.length=n*size:=by rw[<-p];exact d.1
   have G:n≠0:=by intro h;rw[h,YC]at hl;exact W l rfl<|WP hl
   exact(P7 d D hn M).g λc ak F' ah _ _ ⟨Q,h2⟩=>⟨_,by rw[N9 hn,B0 G,Xb,Q],h2⟩
  |b L=>refine(HD d p D (pE N d p) hn M).g λc ak F' ah _ _ h=>?_;obtain⟨h0,Q,h2⟩| ⟨h0,Q,h2⟩:=h;exact⟨_,by rw[N9 hn,w9 h0,Xa,Q],h2⟩;exact⟨_,by rw[N9 hn,B0 h0,Xb,Q],h2⟩
 unfold sapp;split
 ·
  cases C;split
  .have hv:g=[]:=WP d.1.symm;subst hv;have G:n=0:=by obtain h|h:=Nat.eq_zero_or_pos n;exact h;have:=Nat.mul_le_mul h N;simp at p;omega
   subst G;exact Zk ⟨.slice none 0 0,by rw[N9<|by omega];rfl,.nils⟩
  rename_i W;exact I _ d D λl hl h=>by subst h;exact W hl
 ·
  rename_i b z off len cap;cases hq:Nat.beq z size&&src.j with
  |false=>exact Zi|true=>
   simp only[Xa];simp only[WK,Xy]at hq;obtain⟨rfl,H⟩:=hq;have A:=d.d H;refine Zj ?_;split
   .rename_i l e' z' hb;split
    .rename_i B r m;cases hq:Nat.beq e e'&&Nat.beq z z'&&decide (0<=B)&&decide (0<=r)&&Nat.ble ((B.toNat+r.toNat)*z) l.length&&Nat.ble (r.toNat+m.length/z) 67108864&&Nat.beq (m.length/z*z) m.length with
     |false=>exact Zi|true=>
      simp only[Xa];simp only[WK,Xy,Xf,XX]at hq;obtain⟨⟨⟨⟨⟨⟨rfl,rfl⟩,q1⟩,q2⟩,q3⟩,q4⟩,q5⟩:=hq;have V:m.length=n*z:=by rw[<-p];exact d.1
      have az:m.length/z=n:=by rw[V];exact Nat.mul_div_cancel _ N
      rw[az]at q4⊢;rw[Xu]at q3;obtain⟨i,o,y,k1,k2,kF,cs,k,rfl,k4,k5⟩| ⟨k1,L',e',z',bk,k2,k3,k4,k5⟩:=hs.f b _ hb
      .cases C with
       |sl0 _ _ _ _ _ O h0 Q hc=>rw[k1]at O;cases O
       |sl _ _ _ _ _ i' o' c O h0 Q hc=>
        rw[k1]at O;simp only[WJ,WL]at O;obtain⟨rfl,rfl⟩:=O;have e1:(E.w B).r U=B.toNat:=rfl;have e2:(E.w r).r U=r.toNat:=rfl;obtain⟨vs,v1,v2,v3⟩:=B6 (c:=cs) (R:=λj x=>∀a,((l.drop<|B.toNat*z).take<|r.toNat*z)[j]? =some a->VD P U Y F a x) (r.toNat*z) (o+B.toNat*z) 0 λj hj=>by
         have ao:B.toNat*z+j<l.length:=by omega
         obtain⟨x,w1,w2⟩:=k5 (B.toNat*z+j) _<|WV ao;refine⟨x,by rw[<-w1];congr 1;omega,λa C=>?_⟩;rw[Xq,Xr,Xg hj,Xx]at C;rw[show l[B.toNat*z+j]? =some l[B.toNat*z+j] by simp[ao],WJ]at C;rw[<-C];exact w2
        have an:((l.drop<|B.toNat*z).take<|r.toNat*z).length=r.toNat*z:=by simp;omega
        have be:VDL P U Y F ((l.drop<|B.toNat*z).take<|r.toNat*z) vs:=⟨by rw[an,v2],λj a x C hx=>v3 j x hx a<|by rw[Xq];exact C⟩
        have J:v6 P U Y F e z (.d<|(l.drop<|B.toNat*z).take (r.toNat*z)++m) (vs++g):=be.j d;have u:(E.w ((r.toNat+n:Nat):Int)).j U=((r.toNat+n:Nat):Int):=rfl;have am:o+B.toNat*z+r.toNat*z<=k:=by omega
        rw[e1,e2];split;obtain⟨lo,rfl,c1,c2⟩:=hc;exact Iw (λ_ h=>h) hb k1 k2 v1 am A p c1 q4 J u hs;exact Zi
        .rename_i c0;obtain⟨c1,rfl,c3,c4⟩:=hc;have bh:c0.j U=((c0.r U:Nat):Int):=by show c0.j U=((c0.j U).toNat:Int);omega
         have c4:r<=c0.j U:=c4;refine Zg Zs λt s4 o4 bb ht=>?_;rw[J5,u]at ht;cases t with
         |true=>simp only[Xf]at ht;simp only[Xa];exact KV k2 v1 am A c3 (by omega) (by omega) q4 J u bb|false=>
          simp only[XM]at ht;simp only[Xb];cases hr:Nat.ble ((B.toNat+r.toNat)*z+m.length) l.length with
          |false=>exact Zi|true=>
           simp only[Xa];have hr:=WN hr;rw[Xu,V]at hr;obtain⟨mm,m1,m2,m3⟩:=OI (e0:=e) (q:=o+B.toNat*z) (c:=c0.r U) k2 A p c3 (by omega) (show r.toNat+n<=c0.r U by omega) q4 (by rw[Xu];omega);have aw:s4.f b=some (.f l e z):=by rw[o4.f];exact hb
           refine(Zh (x':= .f (W6 l ((B.toNat+r.toNat)*z) m) e z) (m:=mm) aw k1 m2 m3 ⟨_,k,rfl,?_,λj a C=>?_⟩ (by intro c _ _ c' e1 _ _ bg n1 hg;cases e1;rw[k2]at hg;cases hg;exact⟨_,rfl,λj hj=>by rw[j6,af]⟩)).f λ_ bl F2 s6 bi _ bj ⟨w1,w2,w3⟩=>?_;simp only[W6,Xl,Xt,XV,Xu];omega
           .unfold W6 at C;rw[Xu]at C;have et:(l.take<|B.toNat*z+r.toNat*z).length=B.toNat*z+r.toNat*z:=by simp;omega
            rw[j6];by_cases hj:B.toNat*z+r.toNat*z<=j/\j<B.toNat*z+r.toNat*z+g.length;rw[Xg<|by omega];rw[WX,WR<|by omega,WS<|by rw[et,V,<-p];omega,et]at C;obtain⟨w,w1,w2⟩:=VDL.p d C;exact⟨w,by rw[<-w1];congr 1;omega,w2⟩;rw[af];by_cases ax:j<B.toNat*z+r.toNat*z;rw[WX,WS<|by omega,Xr,Xg ax]at C;exact k5 j a C;rw[WX,WR<|by omega,et,WR<|by rw[V,<-p];omega,Xx]at C;refine k5 j a ?_;rw[<-C];congr 1;rw[V,<-p];omega
           subst w1;subst w2;refine Zk ⟨.slice (some ⟨i,o+B.toNat*z,none⟩) (r.toNat+n)<|c0.r U,by rw[w3];exact m1,ZI k1 h0 (by rw[u];omega) ⟨c1,rfl,c3,by rw[u];omega⟩ rfl rfl⟩
      cases k2
    refine(jL hs).f λ_ ab F1 s1 aq ex M ⟨e1,e2,e3⟩=>?_;subst e1;subst e2;subst e3;exact uG N C d p A M
   exact uG N C d p A hs;exact Zi
 ·
  rename_i e' L;cases hq:Nat.beq e e'&&Nat.beq size (kf P e).length&&src.j with
  |false=>exact Zi|true=>
   simp only[Xa];simp only[WK,Xy]at hq;obtain⟨⟨rfl,ay⟩,H⟩:=hq;have A:=d.d H;have av:=C;cases C with
   |lst _ _ _ _ hv hc=>
    obtain⟨ad,l,rfl⟩:=hc rfl;refine Zg Zs λt s1 o1 M ht=>?_;rw[H8,D]at ht;simp only[D5]at ht;have al:(mI L).z U=L.z U:=by show((mI L).A U).m=_;rw[pP];rfl
    have ae:=Lc hv;have ap:=hv.nil_or;cases t with
    |true=>
     have G:n=0:=by have:=Yu ht;omega
     subst G;have W:g=[]:=WP (by rw[p];simp);subst W;simp only[Xa];refine Zg Zm λ_ s2 _ ba K=>Zk ⟨.slice ad l l,?_,av⟩;have K:=E2 K;rw[j5]at K;simp only[D5]at K;obtain⟨rfl,rfl,_⟩| ⟨i,o,rfl⟩:=ap;rw[N9<|by omega];rfl;obtain⟨b,cs,k,z2,g1,g2,g3,g4,⟨e2,rfl⟩| ⟨e2,z3,rfl,g5⟩⟩:=C4.b (X:=X) hv hs.p;simp only[cP,g1];rw[show(Nat.ble (l+0) 67108864&&([]:Af).all Value.oneCell')=true by simp only[WK,XX];exact⟨by omega,rfl⟩];simp only[Xa,w9,WQ<|Xh l];simp only[cP,g1];rw[show(Nat.ble (l+0) 67108864&&Nat.ble l l&& !Nat.ble unk l)=true by simp only[WK,XX,cT g5,Bool.not_false,Yo];exact⟨by omega,Xh _⟩];simp only[Xa,w9]
    |false=>
     have G:n≠0:=by have:=of_decide_eq_false ht;omega
     simp only[Xb];refine(EU d M).f λLn ab F1 s2 aq ex ba ⟨e1,e2,S⟩=>?_;subst e1;subst e2;have S:=S ay;have ac:=pE N S p;refine Zg Zm λ_ s3 o3 aj K=>?_;have K:=E2 K;rw[l9,j5,j5,ac]at K;simp only[D5]at K;obtain⟨rfl,rfl,hd⟩| ⟨i,o,rfl⟩:=ap
     .have hL:L.z U=[]:=by injection hd
      have T:(J0 (mI L) Ln).z U=Ln.z U:=by rw[Q4,al,hL];rfl
      obtain⟨q1,q2,q3,q4⟩:=S;have aa:v6 P U ab F1 e size (.b<|J0 (mI L) Ln) g:=⟨q1,by rw[T];exact q2,by rw[T];exact q3,by rw[T];exact q4⟩
      refine(P7 aa (n:=n) (by rw[l9,j5,j5,hL,ac];simp) (by omega) aj).g λc ak F' ah _ _ ⟨Q,h2⟩=>⟨_,by rw[N9<|by omega,B0 G,Xb,Q],h2⟩
     .obtain⟨b,cs,k,z2,g1,g2,g3,g4,au⟩:=C4.b (X:=aq) (hv.O P ex.f) aj.p;have ez:z2=size:=by omega
      subst ez;have ai:pQ (L.z U) 0 (L.z U).length=L.z U:=by simp[pQ]
      obtain⟨vs,v1,v2,v3,v4⟩:=K1 (U:=U) (Z:=ab) g2 (off:=0) (len:=(L.z U).length) (Yg 0) (by omega) (by omega) (L:=mI L) (by rw[al,ai]);have e0:(0:Int).toNat*z2=0:=by simp
      rw[e0,Yi,Xz]at v1 v2;have J:v6 P U ab F1 e z2 (.b<|J0 (mI L) Ln) (vs++g):=v3.g S;have ae:l<unk:=ae.resolve_left (by simp);refine(P7 J (n:=(L.z U).length+n) (by rw[l9,j5,j5,ac];omega) (by omega) aj).g λc ak F' ah _ _ ⟨Q,h2⟩=>⟨_,?_,h2⟩
      rw[<-g3]at v1 v2⊢;rcases au with⟨e2,rfl⟩| ⟨e2,z3,rfl,g5⟩;simp only[cP,g1];rw[show(Nat.ble (l+n) 67108864&&g.all Value.oneCell')=true by simp only[WK,XX];exact⟨by omega,A⟩];simp only[Xa,B0 G,Xb,cT ae,cT (show l<l+n by omega),WQ v2,v1,Q];simp only[cP,g1];rw[show(Nat.ble (l+n) 67108864&&Nat.ble l l&& !Nat.ble unk l)=true by simp only[WK,XX,cT g5,Bool.not_false,Yo];exact⟨by omega,Xh _⟩];simp only[Xa,B0 G,Xb,cT (show l<l+n by omega),WQ v2,v1,Q]
 exact Zi
end
structure M0 where
 d:Ay->As->M SV
 b:Ah->As->Ay->Nat->Ah->Code->Code->As->M SV
def Kf (P:Aw)(t:Ax)(x:SV):M SV:=match P.underlying t,x with
 |some .string,.p e=>d8 (gI<|.j e<|.w 0) λb=>i6<|.g b 1 (.w 0) 0
 |_,_=>c9 "range"
def Ru (U:Ab)(isS:Bool)(c:SV):M SV:=match isS,c with
 | true, .g b _ (.w m) f => bif decide (m = 0) && Nat.beq f 0 then z7 λs => match s.f b with
   | some (.j str   a) => d8 (jM U<|A5   a (dQ str)) λt =>
     bif t then d8 (mJ b<|some<|.j str<|A3 a<|.C .srw [str,a]) λ_=>i6<|.A [.j (.bool true),.f .i64 a,.f .i32<|.C .H [str,a]]
     else i6 (.A [.j (.bool false)])
   |_=>c9 "next: no iterator"
  else c9 "next"
 |_,_=>c9 "next"
def NM (f:Fm):Bb Az->Bb (Bb SV)
 |none=>some none|some x=>match Q9 f x with
  |some v=>some<|some v|none=>none
def Jf (s i:E):E:=match s,i with
 | .str l,.w n=>match l[n.toNat]? with
  |some b=>.w b.toNat|none=>.C .I [s,i]
 |s,i=>.C .I [s,i]
section
variable (P :Aw)(U:Ab)
def JY (t:Ax)(x i:SV):M SV:=
 match i with
 | .f _ n=>match P.underlying t with
  |some .string=>match x with
   | .p s=>d8 (u6 U<|A4<|A5 n<|.w 0) λ_=>d8 (u6 U<|A5 n<|dQ s) λ_=>i6<|.f .u8<|Jf s n
   |_=>c9 "index: string"
  |some (.array len e)=>match x,n with
   | .w  a, .w m => bif decide (0 ≤ m) && decide (m < len) then
     match P.info? e with
     |some b=>pS "index"<|CT P e a<|m.toNat*b.size|none=>c9 "index: type"
    else c9 "index: beyond"
   |_,_=>c9 "index: array"
  |_=>c9 "index: type"
 |_=>c9 "index: no int"
def CR (x:SV):M SV:=
 match x with
 | .g b z row c=>i6<|.g b z row c| .B t L row c=>i6<|.B t L row c| .J row c=>i6<|.J row c| .I e=>d8 (u6 U<|A4<|A5 e<|.w 0) λ_=>i6<|.J e 0
 | .H (.func f) a b=>i6<|.H (.func f) a b|_=>c9 "nil"
def Ht (b:Builtin)(ats:List Ax)(args:As):M SV:=
 match b,ats,args with
 | .append,[t,u],[s,x]=>Ma P U t u s x| .len,[t],[x]=>slen P t x| .cap,[t],[x]=>scap P t x| .max,_,x::xs=>Rt U true x xs|_,_,_=>c9 "builtin"
def Me (call:M0)(f:SV)(args:As):M SV:=
 match f with
 | .H (.func g) first captured=>match P.funcs[g]? with
  |some fn=>bif cN fn then call.d g (first++args++captured)else c9 "call: no body"|none=>c9 "call: no function"
 | .L c vs g d e a b=>call.b c vs g d e a b args|_=>c9 "call: value"
def s1 (f:Fm)(x:Az)(k:SV->M SV):M SV:=match Q9 f x with
 |some v=>k v|none=>c9 "operand"
def sop (call:M0)(f:Fm)(o:Op):M SV:=
 match o with
 | .move x=>s1 f x i6| .assign x=>s1 f x i6| .pick c a b=>match Q9 f c with
  |some (.j e)=>d8 (jM U e) λt=>bif t then pS "pick" (Q9 f a)else pS "pick" (Q9 f b)
  |_=>c9 "pick"
 | .alloc e=>match uJ P e with
  |some l=>bif Nat.beq e rgT then Mo P U l else sbox e l|none=>c9 "alloc"
 | .box e x=>s1 f x λv=>match H3 v with
  |some l=>bif Nat.beq e rgT then Mo P U l else sbox e l|none=>c9 "box"
 | .build t j=>match kH f j.toList with
  |some k=>pS "build"<|JS P t k|none=>c9 "build"
 | .buildSlice t len j=>match kH f j.toList with
  |some k=>kC P t len k|none=>c9 "buildSlice"
 | .load t a=>s1 f a λv=>Mm P U t v
 | .store t a x=>s1 f a λv=>s1 f x λu=>Kj P U t v u
 | .nilCheck x=>s1 f x λv=>CR U v
 | .binOp op t x y _=>s1 f x λv=>s1 f y λu=>Ra P U op t v u
 | .unOp op _ x=>s1 f x λv=>sun U op v
 | .convert s d x=>s1 f x λv=>Re P U s d v
 | .makeFunc fn first captured=>match Hw f first.toList with
  |some p=>match Hw f captured.toList with
   |some n=>i6<|.H fn p n|none=>c9 "makeFunc"
  |none=>c9 "makeFunc"
 | .makeSlice t l c=>s1 f l λv=>s1 f c λu=>oI P U t v u
 | .slice t x w q z=>s1 f x λv=>match NM f w,NM f q,NM f z with
  |some l,some h,some m=>Ki P U t v l h m|_,_,_=>c9 "slice"
 | .fieldAddr t x i=>s1 f x λv=>pS "fieldAddr"<|oG P t v i
 | .field t x i=>s1 f x λv=>pS "field"<|JX P t v i
 | .indexAddr t x i=>s1 f x λv=>s1 f i λu=>oH P U t v u
 | .index t x i=>s1 f x λv=>s1 f i λu=>JY P U t v u
 | .extract x i=>s1 f x λv=>pS "extract"<|AF v i
 | .range t x=>s1 f x λv=>Kf P t v
 | .next r isS=>s1 f r λv=>Ru U isS v
 | .call c=>match Hw f c.args.toList with
  |some args=>match c.callee with
   | .builtin b=>Ht P U b c.argTypes.toList args| .value g=>match Q9 f g with
    |some v=>Me P call v args|none=>c9 "call"
   |_=>c9 "call: method"
  |none=>c9 "call: operands"
 |_=>c9 "operation"
end
section
variable {P :Aw}{U:Ab}{X:Tau}{F:Ac}{s:SS}{Y:Hp}{W:Aa}
def EV (p:Nat->Prop):Prop:=∃a,∀n,a<=n->p n
variable {p:Nat->Prop}
def EV.g (h:∀n,p n):EV p:=⟨0,λn _=>h n⟩
def Zc:type_of% @EV.g:=@EV.g
variable {q:Nat->Prop}
theorem EV.d (h:EV p)(k:EV q):EV λn=>p n/\q n:=by let⟨a,c⟩:=h;let⟨b,d⟩:=k;exact⟨Nat.max a b,λn e=>(by grind)⟩
def EV.b (h:EV p)(k:∀n,p n->q n):EV q:=by let⟨a,b⟩:=h;exact⟨a,λn c=>k n<|b n c⟩
variable (P W) in
def XOp (o:Op)(b:Ao)(Y:Hp)(v:Av)(a:Hp):Prop:=EV λn=>xop P (E7 P W n) b Y o=(v,a)
variable (P W) in
def P0 g args Y v a:=EV λn=>(E7 P W n).d g args Y=some (v,a)
variable (P U W) in
structure H5 (call:M0):Prop where
 d:∀g l args X F s Y,VDL P U X F l args->SD P U X F s Y->OKh P U (call.d g l) X F s Y λa τ' F' hp'=>∃v,P0 P W g args Y v hp'/\VD P U τ' F' a v
 b:∀ks vs g nt ps as bo l args X F s Y i,VD P U X F (.L ks vs g nt ps as bo) (.chan<|some i)->VDL P U X F l args->SD P U X F s Y->
  OKh P U (call.b ks vs g nt ps as bo l) X F s Y λa τ' F' hp'=>∃v,(EV λn=>(E7 P W n).f i args Y=some (v,hp'))/\VD P U τ' F' a v
variable {V:Ao}
def ES {f:Fm}(h:TD P U X F f V){o:Bb Az}{a:Bb SV}(e:NM f o=some a):∃v,Br V o=some v/\OVD P U X F a v:=by
 cases o with
 |none=>simp only[NM,WJ]at e;subst e;exact⟨none,rfl,trivial⟩|some o=>
  simp only[NM]at e;cases b:Q9 f o with
  |none=>grind|some g=>simp only[b,WJ]at e;subst e;let⟨v,c,d⟩:=P6 h b;exact⟨some v,by simp[Br,c],d⟩
def Jg {a i:E}(f:0<=i.j U)(c:i.j U<(a.A U).g.length):(Jf a i).j U=(((a.A U).g[(i.j U).toNat]'(by omega)).toNat:Int):=by
 have e:(E.C .I [a,i]).j U=(((a.A U).g[(i.j U).toNat]'(by omega)).toNat:Int):=by show((((a.A U).g.getD (i.j U).toNat 0).toNat:Nat):Int)=_;grind
 unfold Jf;split;rename_i l n;split;rename_i b d;have:l[(E.j U<|.w n).toNat]? =b:=d;rw[WV (by have:(E.j U<|.w n)<l.length:=c;omega),WJ]at this;rw[<-this];rfl;grind;grind
def NL {t:Ax}{a b:SV}{v u:Av}(i:VD P U X F a v)(j:VD P U X F b u):OKp U (JY P U t a b) s λc=>∃w,tD P t v u=some w/\VD P U X F c w:=by
 unfold JY;split
 .rename_i k n;cases j;split;next h=>split;rename_i e;cases i;refine OKp.g.f λ_ _ _ _ f=>OKp.g.f λ_ _ _ _ d=>Zq ?_;have f:=aZ f;have d:=E2 d;rw[T9]at d;refine⟨.int .u8 (((e.A U).g[(n.j U).toNat]).toNat:Int),?_,ZH<|Jg f d⟩;simp only[tD,h];grind;exact Zl
  .rename_i len e h;split
   .rename_i q m;cases o:decide (0<=m)&&decide (m<(len:Int))with
    |false=>exact Zl|true=>split;rename_i r g;obtain⟨xs,rfl,p⟩:=ZL i;refine Zo λc l=>?_;let⟨w,f,d⟩:=qL p l;refine⟨w,?_,d⟩;simp only[tD,h];rwa[show(decide (0<=(E.w m).j U)&&decide ((E.w m).j U<(len:Int)))=true from o,Xa,g];exact Zl
   exact Zl
  exact Zl
 exact Zl
def OKp.b {m:M SV}{o:Op}{x:Ag}(k:∀n,xop P (E7 P W n) V Y o=j4 Y x)(h:OKp U m s λa=>∃v,x=some v/\VD P U X F a v):OKh P U m X F s Y λa c d b=>∃v,XOp P W o V Y v b/\VD P U c d a v:=
 (h.C).g λa c d b _ _ ⟨e,f,g,v,i,j⟩=>by subst e;subst f;subst g;exact⟨v,Zc λn=>by rw[k,i];rfl,j⟩
def Zn:type_of% @OKp.b:=@OKp.b
variable {x:Av}
def NN {t:Ax}{v:SV}(hv:VD P U X F v x)(i:SD P U X F s Y):OKh P U (Kf P t v) X F s Y λa c f d=>∃n,qZ P t x=some n/\d=(Y.g n).2/\VD P U c f a (Y.g n).1:=by unfold Kf;split;rename_i e k;cases hv;refine(OKh.j (x:= .j e (.w 0)) i λc _=>⟨rfl,0,rfl,rfl⟩).f λb c f m d _ j ⟨l,g,h⟩=>Zk ?_;subst h;exact⟨⟨.sit ⟨(e.A U).g.toArray⟩ 0,.f,rfl⟩,by simp only[qZ,k],rfl,VD.ptr' g (by show(0:Int)<=0;omega) rfl⟩;exact Zi
def Rv {isS:Bool}{v:SV}(hv:VD P U X F v x)(_hs:SD P U X F s Y):OKh P U (Ru U isS v) X F s Y λa k A g=>∃u,Dc Y x isS=some (u,g)/\VD P U k A a u:=by
 unfold Ru;split
 .rename_i b z m f;cases I:decide (m=0)&&Nat.beq f 0 with
  |false=>exact Zi|true=>
   simp only[WK,Xf,Xy]at I;obtain⟨rfl,rfl⟩:=I;rw[Xa];refine Zj ?_;split
   .rename_i str d C;refine Zg Zs λt s1 o1 p G=>?_;have l:s1.f b=some (.j str d):=by rw[o1.f];exact C
    obtain⟨i,o,y,J,k2,k3,rfl,n,rfl,q⟩| ⟨_,L,e,z',ph,h,_⟩:=p.f b _ l
    .cases hv with
     |ptr _ _ _ _ i' o' h h0=>
      rw[J]at h;obtain⟨rfl,rfl⟩:=h;rw[show 0+(E.w 0).r U*z+0=0 by show 0+(0:Int).toNat*z+0=0;simp];rw[J5,T9,q]at G;obtain⟨D,B⟩:∃D,D=Utf8.decode ⟨(str.A U).g.toArray⟩ n:=⟨_,rfl⟩;obtain⟨H,r⟩:∃H:Hp,H= {Y with m:=Y.m.m i<|some<|.sit ⟨(str.A U).g.toArray⟩<|n+D.2}:=⟨_,rfl⟩
      have w:Dc Y (.pointer<|some ⟨i,0,none⟩) true=bif Nat.blt n (str.A U).g.length then some (.tuple #[.bool true,.int .i64 n,.int .i32 D.1],H)else some (.tuple #[.bool false],Y):=by simp only[Dc,k2,r,B]
      cases t with
      |true=>
       rw[Xf]at G;rw[show Nat.blt n (str.A U).g.length=true from WQ<|by omega,Xa]at w;have S:runeW (str.A U).g (d.j U)=(D.2:Nat):=by rw[q,B];simp[runeW]
       have O:runeAt (str.A U).g (d.j U)=D.1:=by rw[q,B];simp[runeAt]
       refine OKh.f (R:=λ_ k A g=>k=X/\A=F/\g=H) ?_ λ_ aa F2 s2 W _ _ ⟨e1,e2,K⟩=>Zk ⟨_,by rw[w,K],.tup _ [.bool true,.int .i64 n,.int .i32 D.1] rfl λj a v c hv=>?_⟩
       .intro Q Z _;let⟨M,N⟩:=p.O (x':= .j str (A3 d<|.C .srw [str,d])) l J (y:= .sit ⟨(str.A U).g.toArray⟩ (n+D.2)) (hp':=H) (by rw[r]) (λj V=>by rw[r];simp[ZD,V]) (by rw[r];simp[ZD])
         ⟨rfl,_,rfl,by rw[l9,q];show(n:Int)+runeW (str.A U).g (d.j U)=_;rw[S];omega⟩
        exact⟨(),_,Z,X,F,_,M,N,rfl,rfl,rfl⟩
       .match j,c,hv with
        |0,c,hv=>simp at c hv;subst c;subst hv;exact .bool<|.bool true|1,c,hv=>simp at c hv;subst c;subst hv;exact ZH q|2,c,hv=>simp at c hv;subst c;subst hv;exact ZH O|j+3,c,hv=>simp at c
      |false=>
       rw[XM]at G;rw[show Nat.blt n (str.A U).g.length=false by
        cases C:Nat.blt n (str.A U).g.length with
        |false=>rfl|true=>have:=WN C;omega,Xb]at w
       refine Zk ⟨_,w,.tup _ [.bool false] rfl λj a v c hv=>?_⟩
       match j,c,hv with
       |0,c,hv=>simp at c hv;subst c;subst hv;exact .bool<|.bool false|j+1,c,hv=>simp at c
    cases h
   exact Zi
 exact Zi
def bs {a b:Type}{x:Bb a}{v:a}{k:a->Bb b}(h:x=v):ob x k=k v:=by rw[h]
theorem EQ {call:M0}(L:H5 P U W call){f:Fm}(Q:TD P U X F f V)(I:SD P U X F s Y)(o:Op):OKh P U (sop P U call f o) X F s Y λa A G q=>∃v,XOp P W o V Y v q/\VD P U A G a v:=by
 have ev:=λ{x:Az} {a:SV} (e:Q9 f x=some a)=>P6 (P:=P) (U:=U) Q e;have S:∀ {x:Az} {k:SV->M SV} {R},(∀v w,i7 V x=some w->VD P U X F v w->OKh P U (k v) X F s Y R)->OKh P U (s1 f x k) X F s Y R:=by intro x k R h;unfold s1;split;rename_i hv;obtain⟨w,d,j⟩:=ev hv;exact h _ w d j;exact Zi
 cases o with
 |move x|assign x=>exact S λv w d j=>Zn (λn=>congrArg (j4 Y) d)<|Zq ⟨w,rfl,j⟩
 |pick c a b=>simp only[sop];split;rename_i e he;obtain⟨v,d,j⟩:=ev he;cases j;refine Zn (x:=bif (e.A U).f then i7 V a else i7 V b) (λn=>by simp only[xop,d];cases(e.A U).f<;>rfl)<|OKp.p.f λt _ _ _ h=>?_;rw[h];cases t<;>exact Zo λa h=>ev h;exact Zi
 |alloc e=>
  simp only[sop];split
  .rename_i l N;obtain⟨z,d,j⟩:=fC (U:=U) (Z:=X) (F:=F) N;cases hb:Nat.beq e rgT with
   |true=>exact(HC j I).g λa A G q _ _ ⟨v,C,B⟩=>⟨v,Zc λn=>by simp only[xop,fV,hb,Xa,d,ob,C],B⟩
   |false=>exact(Mb j I).g λa A G q _ _ ⟨C,B⟩=>⟨_,Zc λn=>by simp only[xop,fV,hb,Xb,xnw,Z2,d,V3];grind,B⟩
  exact Zi
 |box e x=>
  refine S λv w d j=>?_;split
  .rename_i l N;cases hb:Nat.beq e rgT with
   |true=>exact(HC (fA j N) I).g λa A G q _ _ ⟨v,C,B⟩=>⟨v,Zc λn=>by simp only[xop,Qv,hb,Xa,d,ob,C],B⟩
   |false=>exact(Mb (fA j N) I).g λa A G q _ _ ⟨C,B⟩=>⟨_,Zc λn=>by simp only[xop,Qv,hb,Xb,xnw,d,V3,CZ];grind,B⟩
  exact Zi
 |build t ab=>simp only[sop];split;rename_i ps aa;let⟨qs,d,j⟩:=lP Q aa;exact Zn (λn=>bs d)<|Zo λa h=>NF j h;exact Zi
 |buildSlice t len ab=>
  simp only[sop];split;rename_i ps aa;let⟨qs,d,j⟩:=lP Q aa;exact(Ap j I).g λa A G q _ _ ⟨n,C,B,T⟩=>⟨_,Zc λm=>by simp only[xop,xnw,d,C,V3,B],T⟩
  exact Zi
 |load t a=>exact S λv w d j=>Zn (λn=>bs d)<|HA j I
 |store t a x=>exact S λv w d j=>S λu y H E=>(NQ j E I).g λc A G q _ _ ⟨C,B⟩=>⟨undef,Zc λn=>(bs d).trans<|(bs H).trans<|bs B,by subst C;exact .tup [] [] rfl λi a x h _=>by simp at h⟩
 |nilCheck x=>
  refine S λv w d j=>?_;have nc:∀ {u:SV} {w:Av},i7 V x=some w->VD P U X F u w->((∃p,w= .pointer (some p))\/ ∃f a b,w= .func (.func f) a b)->OKh P U (i6 u) X F s Y λa A G q=>∃v,XOp P W (.nilCheck x) V Y v q/\VD P U A G a v:=λ{u w} d j hw=>
   Zn (x:=some w) (λn=>by rcases hw with⟨p,rfl⟩| ⟨f,a,b,rfl⟩<;>simp only[xop,d]<;>rfl) (Zq ⟨_,rfl,j⟩)
  unfold CR;split;case h_4 e=>
   cases j with
   |rpq _ _ hq=>
    have hx:0<=e.j U->w= .pointer (some ⟨e.r U,0,some 1⟩):=λh0=>by
     generalize hm:e.j U=m at hq h0;cases hq with
     |rp k=>grind|rpn=>omega
    refine Zg Zm λ_ s2 o2 ap p1=>?_;have p1:=B7 p1;have hw:=hx p1;subst hw;exact Zn (x:=some<|.pointer<|some ⟨e.r U,0,some 1⟩) (λn=>by simp only[xop,d];rfl)<|Zq ⟨_,rfl,.rp e 0 p1⟩
  case h_6=>exact Zi
  all_goals exact nc d j (by cases j;first|exact .inl ⟨_,rfl⟩|exact .inr ⟨_,_,_,rfl⟩)
 |binOp op t x y u=>exact S λv a d j=>S λw b H E=>Zn (λn=>(bs d).trans<|bs H)<|Rb j E
 |unOp op t x=>exact S λv a d j=>Zn (λn=>bs d)<|Wn j
 |convert src an x=>exact S λv a d j=>Zn (λn=>bs d)<|Rg j
 |makeFunc fn first D=>simp only[sop];split;rename_i fs ai;split;rename_i cs ad;let⟨xs,d,j⟩:=vX Q ai;let⟨ys,H,E⟩:=vX Q ad;exact Zn (λn=>(bs d).trans<|bs H)<|Zq ⟨_,rfl,.fn fn fs cs xs ys j.1 j.2 E.1 E.2⟩;exact Zi;exact Zi
 |makeSlice t l c=>exact S λv a d j=>S λw b H E=>(BE j E I).g λc A G q _ _ ⟨n,C,B,T⟩=>⟨_,Zc λm=>by simp only[xop,xnw,d,H,C,V3,B],T⟩
 |slice t x lo hi mx=>
  refine S λv a d j=>?_;split;rename_i l h m N hh hm;let⟨l',H,E⟩:=ES Q N;let⟨h',h5,h6⟩:=ES Q hh;let⟨m',h7,h8⟩:=ES Q hm;exact(NP j E h6 h8 I).g λc A G q _ _ ⟨C,w,B,T⟩=>⟨w,Zc λn=>by rw[C];exact(bs d).trans ((bs H).trans<|(bs h5).trans<|(bs h7).trans B),T⟩
  exact Zi
 |fieldAddr t x i=>exact S λv a d j=>Zn (λn=>bs d)<|Zo λc h=>BB j h
 |field t x i=>exact S λv a d j=>Zn (λn=>bs d)<|Zo λc h=>NK j h
 |indexAddr t x i=>exact S λv a d j=>S λw b H E=>Zn (λn=>(bs d).trans<|bs H)<|BC j E
 |index t x i=>exact S λv a d j=>S λw b H E=>Zn (λn=>(bs d).trans<|bs H)<|NL j E
 |range t x=>exact S λv w d j=>(NN j I).g λa A G q _ _ ⟨n,C,B,T⟩=>⟨_,Zc λm=>by simp only[xop,xnw,d,C,V3,B],T⟩
 |next it isS=>exact S λv w d j=>(Rv j I).g λa A G q _ _ ⟨u,C,B⟩=>⟨u,Zc λm=>(bs d).trans C,B⟩
 |extract x i=>exact S λv a d j=>Zn (λn=>bs d)<|Zo λc h=>Hx j h
 |call c=>
  simp only[sop];split
  .rename_i l N;let⟨args,d,j⟩:=vX Q N;let⟨O,J,ats⟩:=c;have d:Y8 V J.toList=some args:=d;cases O with
   |builtin b=>
    simp only;unfold Ht;split
    .rename_i t u a x K;obtain⟨v,vs,rfl,g1,g2⟩:=j.f;obtain⟨w,ws,rfl,g3,g4⟩:=g2.f;have:ws=[]:=WP g4.1.symm;subst this;have hx:∀n,xop P (E7 P W n) V Y (.call ⟨.builtin .append,J,ats⟩)=match F8 P Y t u v w with|some r=>some r|none=>cE P Y t u v w:=λn=>by simp only[xop,d,ob,K,C7];rfl
     unfold Ma;split
     .rename_i e B he ae;split;exact Zi
      .rename_i ie aj;split;exact Zi
       .rename_i z hz;cases hq:Nat.beq z.cells.toList.length ie.size&&Nat.ble ie.bytes 1048576&&Nat.ble 1 ie.size with
        |false=>exact Zi|true=>
         simp only[Xa];rw[WK]at hq;obtain⟨q1,q2⟩:=hq;have ac:=WN q2;refine Zg (Mr ac g3 I) λsrc s1 o1 al ⟨n,am,k1,k2,k3,k4⟩=>?_;refine(Tw ac g1 k2 k3 k4 al).g λc A G q _ _ ⟨y,k5,k6⟩=>⟨y,Zc λn=>?_,k6⟩
         rw[hx,Ky he ae aj hz q1 k1,k5]
     exact Zi
    rename_i t x K;obtain⟨v,vs,rfl,g1,g2⟩:=j.f;have:vs=[]:=WP g2.1.symm;subst this;exact Zn (x:=kQ P t v) (λn=>by simp only[xop,d,ob,K,C7])<|TF g1;rename_i t x K;obtain⟨v,vs,rfl,g1,g2⟩:=j.f;have:vs=[]:=WP g2.1.symm;subst this;exact Zn (x:=qT P t v) (λn=>by simp only[xop,d,ob,K,C7])<|Ty g1;rename_i x xs;obtain⟨v,vs,rfl,g1,g2⟩:=j.f;exact Zn (x:=Bm true v vs) (λn=>by simp only[xop,d,ob,C7])<|Mn g1 g2;exact Zi
   |value g=>
    simp only;split
    .rename_i v hv;obtain⟨w,H,E⟩:=ev hv;unfold Me;split
     .rename_i g' first D
      split
      .rename_i fn ah;cases ak:cN fn with
       |false=>exact Zi|true=>
        simp only[Xa];cases E with
        |fn _ _ _ xs ys k1 k2 k3 k4=>
         have N:VDL P U X F (first++l++D) (xs++args++ys):=(VDL.j ⟨k1,k2⟩ j).j ⟨k3,k4⟩;refine(L.d g' _ _ X F s Y N I).g λa A G q _ _ ⟨y,C,B⟩=>⟨y,C.b λn hn=>?_,B⟩
         simp only[xop,d,H,nB,ah,ak,Xa,ob];simpa using hn
      exact Zi
     .rename_i ks vs gg nt ps as bo;have h5:=E;cases E with
      |yld _ _ _ _ _ _ _ i aq pr db hF ao k=>
       refine(L.b ks vs gg nt ps as bo l args X F s Y i h5 j I).g λa A G q _ _ ⟨y,C,B⟩=>⟨y,C.b λn hn=>?_,B⟩
       simp only[xop,d,H,nB,ob];exact hn
     exact Zi
    exact Zi
   |invoke r m=>exact Zi
  exact Zi
 |_=>exact Zi
end
def jU (f:Fm)(a:Bb Tmp)(v:SV):Fm:=match a with
 |some d=>(d,v)::f|none=>f
section
variable (P :Aw)(U:Ab)
def Ny (f:Fm)(d:Tmp)(t:Bool):Fm:=match lk f d with
 |some (.j e)=>(match e with
  | .bool _=>f|_=>(d,.j<|.bool t)::f)
 |_=>f
def dU (all:An)(f:Fm)(o:Oper)(t:Bool):Fm:=match o.guard with
 |some (j,a)=>match all[j]? with
  |some p=>match p.dst with
   |some d=>Ny f d<|t==a|none=>f
  |none=>f
 |none=>f
def JH (f:Fm)(c:Az)(t:Bool):Fm:=match c with
 | .tmp d=>Ny f d t|_=>f
def vZ (all:An)(f:Fm)(o:Oper):M Bool:=
 match o.guard with
 |none=>i6 true|some (j,a)=>match all[j]? with
  |some p=>match p.dst with
   |some d=>match lk f d with
    |some (.j e)=>d8 (jM U e) λt=>i6<|t==a
    |some (.A [])=>i6 false|_=>c9 "guard"
   |none=>i6 false
  |none=>i6 false
def sone (call:M0)(a:Nat)(all:An)(o:Oper)(f:Fm):M Fm:=
 bif E6 a o.dst then
  d8 (vZ U all f o) λt=>bif t then d8 (sop P U call (dU all f o t) o.op) λv=>i6 (jU (dU all f o t) o.dst v)else i6 (jU (dU all f o t) o.dst<|.A [])
 else c9 "slot"
def Rw (call:M0)(a:Nat)(all:An):An->Fm->M Fm
 | [],f=>i6 f|o::c,f=>d8 (sone P U call a all o f) λb=>Rw call a all c b
abbrev mR:=An->Fm->M Fm
abbrev oW:=Nat->Code->(Fm->M (Exit×Fm))->Fm->Bb (M<|Exit×Fm)
def yC :Code->Bb Code
 | .loop b=>some b|_=>none
def ET (call:M0)(g:Ay)(d:Nat)(c:Az)(e:Array Tmp)(a b:Code)(f:Fm):M (Exit×Fm):=
 have _:=P
 c9 "range"
def T0 (call:M0)(d:mR)(h:oW)(g:Ay)(i:Bool)(a:Nat):Nat->Code->Fm->M (Exit×Fm)
 |0,_,_=>c9 "fuel"|m+1,c,f=>match c with
  | .skip=>i6 (.normal,f)| .label _=>i6 (.normal,f)| .region _ k l=>d8 (bif l then d k.toList f else Rw P U call a k.toList k.toList f) λs=>i6 (.normal,s)
  | .seq x y=>d8 (T0 call d h g i a m x f) λr=>match r.1 with
   | .normal=>T0 call d h g i a m y r.2|e=>i6 (e,r.2)
  | .cond c x y=>match Q9 f c with
   |some (.j e)=>d8 (jM U e) λt=>bif t then T0 call d h g i a m x (JH f c t)else T0 call d h g i a m y (JH f c t)
   |_=>c9 "if"
  | .block  n b => d8 (match yC b with
    |some o=>match h n o (T0 call d h g i a m o) f with
     |some r=>r|none=>T0 call d h g i a m b f
    |none=>T0 call d h g i a m b f) λr=>match r.1 with
   | .exit j=>bif Nat.beq j n then i6 (.normal,r.2)else i6 (.exit j,r.2)|e=>i6 (e,r.2)
  | .loop b=>d8 (T0 call d h g i a m b f) λr=>match r.1 with
   | .normal=>T0 call d h g i a m (.loop b) r.2|e=>i6 (e,r.2)
  | .exit n=>i6 (.exit n,f)| .ret=>i6 (.ret,f)| .scope b=>d8 (T0 call d h g i a m b f) λr=>match r.1 with
   | .normal=>i6 (.normal,r.2)| .exit j=>i6 (.exit j,r.2)| .ret=>i6 (.ret,r.2)|_=>c9 "scope"
  | .rangeFunc u v p q=>bif i then ET P call g a u v p q f else c9 "a range in a range"|_=>c9 "code"
end
section
variable {P :Aw}{U:Ab}{O:Aa}{S:Nat}
variable {X:Tau}{F:Ac}{f:Fm}{Z:Ao}
def TD.b {b:Tau}{c:Ac}(g:Tle X b)(e:Fle F c)(h:TD P U X F f Z):TD P U b c f Z:=λk a d=>(h k a d).mono g e
theorem TD.d (h:TD P U X F f Z){a:SV}{v:Av}(i:VD P U X F a v)(c:Bb Tmp):TD P U X F (jU f c a) (A6 Z c v):=by
 cases c with
 |none=>exact h|some d=>intro k b g;simp only[jU,B3]at g;simp only[A6,ZD];by_cases e:d=k;grind;rw[Xd e]at g;rw[Xd<|λh=>e h.symm];exact h k b g
def GY (f:Fm)(a:Bb Tmp)(v:SV):∃pre,jU f a v=pre++f:=by
 cases a with
 |none=>exact⟨[],rfl⟩|some d=>exact⟨[(d,v)],rfl⟩
def AR {s:SS}(h:TD P U X F f Z)(all:An)(o:Oper):OKp U (vZ U all f o) s λt=>y9 all Z o=t:=by
 rw[vZ,y9];split;rename_i a;simp only[a];exact Zq rfl
 .rename_i j k a;simp only[a];rw[iB];split
  .rename_i p c;simp only[c];split
   .rename_i d i;split
    .rename_i e b;have hv:=h d _ b;refine OKp.p.f λt _ _ _ l=>Zq ?_;generalize g:(Z.l d).getD undef=x at hv;cases hv;cases a:Z.l d with
     |none=>rw[a]at g;simp[undef]at g|some y=>grind
    rename_i b;have hv:=h d _ b;generalize g:(Z.l d).getD undef=x at hv;cases hv;refine Zq ?_;grind;exact Zl
   next i=>simp only[i];exact Zq rfl
  next c=>simp only[c];exact Zq rfl
variable {t:Bool}
def LS (h:TD P U X F f Z){d:Tmp}(m:∀b,Z.l d=some (.bool b)->b=t):TD P U X F (Ny f d t) Z:=by
 rw[Ny];split
 .rename_i e l;split;exact h
  .intro k a c;rw[B3]at c;split at c
   .rename_i j;subst j;cases c;have hv:=h d _ l;generalize g:(Z.l d).getD undef=x at hv⊢;cases hv;cases i:Z.l d with
    |none=>rw[i]at g;cases g
    |some y=>rw[i]at g;cases g;rw[m _ i];exact .bool<|.bool t
   exact h k a c
 exact h
def Hg (f:Fm)(d:Tmp)(t:Bool):∃pre,Ny f d t=pre++f:=by rw[Ny];split;split;simp_all;exact⟨[_],rfl⟩;simp_all
def LR (h:TD P U X F f Z){all:An}{o:Oper}(a:y9 all Z o=t):TD P U X F (dU all f o t) Z:=by unfold dU;unfold y9 iB at a;split;rename_i j c i;split;rename_i p k;split;rename_i d g;refine LS h λb e=>?_;subst a;simp_all;exact h;exact h;exact h
def Tq (h:TD P U X F f Z){c:Az}{b:Bool}(a:i7 Z c=some (.bool b))(i:b=t):TD P U X F (JH f c t) Z:=by unfold JH;split;rename_i d;refine LS h λg e=>?_;have a:some ((Z.l d).getD undef)=_:=a;grind;exact h
def QP (f:Fm)(c:Az)(t:Bool):∃pre,JH f c t=pre++f:=by unfold JH;split;exact Hg _ _ _;simp_all
def Hf (all:An)(f:Fm)(o:Oper)(t:Bool):∃pre,dU all f o t=pre++f:=by
 rw[dU];repeat' split
 exact Hg _ _ _;all_goals exact⟨[],rfl⟩
variable (P O) in
def XOps S all l Z c b a:=EV λn=>Bp P (E7 P O n) S all l Z c=some (b,a)
def Mp {call:M0}(j:H5 P U O call){all:An}:∀ {l:An} {X:Tau} {F:Ac} {s:SS} {y:Hp} {f:Fm} {Z:Ao},TD P U X F f Z->SD P U X F s y->OKh P U (Rw P U call S all l f) X F s y λr d w b=>∃c,XOps P O S all l Z y c b/\TD P U d w r c/\ ∃pre,r=pre++f
 | [],X,F,s,y,f,Z,q,M=>Zk ⟨Z,Zc λn=>Bq,q,[],rfl⟩| o :: l, X, F, s,  y, f,  Z,  q,  M => by
  rw[Rw,sone];cases I:E6 S o.dst with
  |false=>exact OKh.r.f (R:=λ_ _ _ _=>False) λ_ _ _ _ _ _ _ h=>h.elim
  |true=>
   simp only[Xa];have step:∀ {m:Fm} {a:SV} {v:Av} {e:Tau} {z:Ac} {s1:SS} {g:Hp},TD P U e z m Z->(∃pre,m=pre++f)->SD P U e z s1 g->VD P U e z a v->
     OKh P U (Rw P U call S all l<|jU m o.dst a) e z s1 g λr d w b=>∃c,XOps P O S all l (A6 Z o.dst v) g c b/\TD P U d w r c/\ ∃pre,r=pre++f:=by
    intro m a v e z s1 g D ⟨p0,Y⟩ E K;refine(Mp j (D.d K o.dst) E).g λr d w b _ _ ⟨c,C,G,pre,H⟩=>?_;let⟨p,y⟩:=GY m o.dst a;grind
   refine OKh.f (R:=λr d w b=>∃m a v,r=jU m o.dst a/\TD P U d w m Z/\(∃pre,m=pre++f)/\VD P U d w a v/\((y9 all Z o/\XOp P O o.op Z y v b)\/(y9 all Z o=false/\v=undef/\b=y))) ?_ ?_
   .refine Zg (AR q all o) λt s1 o1 A B=>?_;have q:=LR q B;have u:=Hf all f o t;cases t with
    |true=>refine(EQ j q A o.op).f λa e z s2 g ex N ⟨v,D,E⟩=>Zk ⟨_,a,v,rfl,q.b ex.t ex.f,u,E,.inl ⟨B,D⟩⟩
    |false=>exact Zk ⟨_,.A [],undef,rfl,q,u,.tup [] [] rfl (λi a x h _=>by grind),.inr ⟨B,rfl,rfl⟩⟩
   .intro r e z s1 g ex A ⟨m,a,v,C,q,u,D,E⟩;subst C;refine(step q u A D).g λJ d w b _ _ ⟨c,C,G,H⟩=>⟨c,?_,G,H⟩
    obtain⟨B,Q⟩| ⟨B,hv,L⟩:=E;exact(Q.d C).b λn ⟨V,W⟩=>by rw[Y9,I,Xa,B,Xa,V];exact W
    subst hv;subst L;exact C.b λn k=>by rw[Y9,I,Xa,B,Xb];exact k
variable {N :Ai}
variable (P O) in
def XC N S c Z g e d a:=
 ∃b:Ah,(b.Nodup/\ ∀r∈b,g.d<=r/\r<a.d/\a.m.l r=some .dfr)/\
  ∃h,∀n m f,h<=n->h<=m->t9 P (z4 P) (E7 P O n) S N m c Z g f=some (.mk e d a<|b.map Df.d++f)
variable {c:Code}{W:Hp}{e:Exit}{Y:Ao}
theorem XC.d {a:Hp}(h:∃b,∀n m d,b<=n->b<=m->t9 P (z4 P) (E7 P O n) S N (m+1) c Z W d=some (.mk e Y a d)):XC P O N S c Z W e Y a:=by
 let⟨b,h⟩:=h;refine⟨[],(by grind),b+1,λn m d g f=>?_⟩;obtain⟨m,rfl⟩:∃k,m=k+1:=⟨m-1,by omega⟩
 grind
variable {V:Ao}
theorem XC.b {f:Code}{a:Hp}{g:Exit}(h:XC P O N S c Z W e V a)(k:∀n m d b,t9 P (z4 P) (E7 P O n) S N m c Z W d=some (.mk e V a b)->t9 P (z4 P) (E7 P O n) S N (m+1) f Z W d=some (.mk g Y a b)):XC P O N S f Z W g Y a:=by
 let⟨l,i,j,o⟩:=h;refine⟨l,i,j+1,λn m d q p=>?_⟩;obtain⟨m,rfl⟩:∃k,m=k+1:=⟨m-1,by omega⟩
 grind
theorem XC.g {j l:Code}{a b:Hp}(t:XC P O N S j Z W .normal V a)(u:XC P O N S l V a e Y b)(v:W.d<=a.d)(w:a.d<=b.d)(D:∀r,r<a.d->a.m.l r=some .dfr->b.m.l r=some .dfr)(k:∀n m g d f,t9 P (z4 P) (E7 P O n) S N m j Z W g=some (.mk .normal V a d)->t9 P (z4 P) (E7 P O n) S N m l V a d=some (.mk e Y b f)->t9 P (z4 P) (E7 P O n) S N (m+1) c Z W g=some (.mk e Y b f)):XC P O N S c Z W e Y b:=by
 let⟨h,⟨o,A⟩,y,B⟩:=t;let⟨i,⟨p,C⟩,z,s⟩:=u;refine⟨i++h,⟨YU.2 ⟨p,o,λr x q G e=>?_⟩,λr x=>?_⟩,y+z+1,λn m g F E=>?_⟩;grind;grind
 .obtain⟨m,rfl⟩:∃k,m=k+1:=⟨m-1,by omega⟩
  rw[XJ,WX];exact k n m g _ _ (by grind) (s n m _ (by omega)<|by omega)
def OKh.h {g:Type}{m:M g}{s:SS}{R e:g->Tau->(Ac)->Hp->Prop}(h:OKh P U m X F s W R)(p:∀a c d f b,Ext X F s W c d f b->R a c d b->e a c d b):OKh P U m X F s W e:=λQ i j=>by let⟨a,f,k,c,d,b,l,n,o⟩:=h Q i j;grind
variable (P U O) in
def iP (N:Ai)(S:Nat)(m:M (Exit×Fm))(c:Code)(f:Fm):Prop:=∀X F s W Z,TD P U X F f Z->SD P U X F s W->
 OKh P U m X F s W λr b d a=>∃Y,XC P O N S c Z W r.1 Y a/\TD P U b d r.2 Y/\ ∃pre,r.2=pre++f
variable (P U O) in
def eA (S:Nat)(g:mR):Prop:=∀a f X F s W Z,TD P U X F f Z->SD P U X F s W->
 OKh P U (g a f) X F s W λd c e b=>∃Y,(EV λn=>z4 P (E7 P O n) S a Z W=some (Y,b))/\TD P U c e d Y/\ ∃pre,d=pre++f
variable (P U O) in
def eC (N:Ai)(S:Nat)(d:oW):Prop:=∀c b body f r,(∀a,iP P U O N S (body a) b a)->d c b body f=some r->iP P U O N S r (.loop b) f
def Kg {call:M0}(a:H5 P U O call)(g:Ay)(d:Az)(e:Array Tmp)(b c:Code)(f:Fm):iP P U O none S (ET P call g S d e b c f) (.rangeFunc d e b c) f:=λX F s W Z i h=>by rw[ET];exact Zi
def Hu {call:M0}(A:H5 P U O call){dr:mR}(ab:eA P U O S dr){lp:oW}(ac:eC P U O N S lp)(g:Ay)(M:Bool)(ae:M->N=none):∀(m:Nat) (c:Code) (f:Fm),iP P U O N S (T0 P U call dr lp g M S m c f) c f
 |0,c,f=>λX F s W Z a u=>Zi
 |m+1,c,f=>by
  have I:=Hu A ab ac g M ae m;cases c with
  |rangeFunc fo ps as bo=>
   intro X F s W Z a u;cases R:M with
   |false=>exact Zi|true=>have:=ae R;subst this;exact Kg A g fo ps as bo f X F s W Z a u
  |skip=>exactλX F s W Z a u=>Zk ⟨Z,XC.d ⟨0,λn m z _ _=>rfl⟩,a,[],rfl⟩
  |label l=>exactλX F s W Z a u=>Zk ⟨Z,XC.d ⟨0,λn m z _ _=>rfl⟩,a,[],rfl⟩
  |exit id=>exactλX F s W Z a u=>Zk ⟨Z,XC.d ⟨0,λn m z _ _=>rfl⟩,a,[],rfl⟩
  |ret=>exactλX F s W Z a u=>Zk ⟨Z,XC.d ⟨0,λn m z _ _=>rfl⟩,a,[],rfl⟩
  |region id ak aa=>
   intro X F s W Z a u;simp only[T0];cases aa with
   |true=>refine(ab ak.toList f X F s W Z a u).f λf' C J s' B _ _ ⟨Y,⟨n0,e1⟩,i,k⟩=>Zk ⟨Y,XC.d ⟨n0,λn m z hn _=>?_⟩,i,k⟩;simp only[t9,Xa,e1 n hn]
   |false=>refine(Mp A a u).f λf' C J s' B _ _ ⟨Y,⟨n0,e1⟩,i,k⟩=>Zk ⟨Y,XC.d ⟨n0,λn m z hn _=>?_⟩,i,k⟩;simp only[t9,Xb,e1 n hn]
  |seq x y=>
   intro X F s W Z a u;simp only[T0];refine(I x f X F s W Z a u).f λr G Q s1 E ex o ⟨V,w,i,pre,k⟩=>?_;have am:∀e,r.1=e->e≠ .normal->OKh P U (i6 (e,r.2)) G Q s1 E λr C J B=>∃Y,XC P O N S (.seq x y) Z W r.1 Y B/\TD P U C J r.2 Y/\ ∃pre,r.2=pre++f:=λe he ad=>by refine Zk ⟨V,w.b λn m z q d=>?_,i,pre,k⟩;simp only[t9,d];grind
   split
   .rename_i D;refine(I y r.2 G Q s1 E V i o).h λr' C J s' B H ⟨Y,hy,k2,p2,k3⟩=>⟨Y,?_,k2,p2++pre,by rw[k3,k,WX]⟩
    rw[D]at w;refine w.g hy ex.q H.q (λr K hg=>H.D o K hg<|.inl rfl) λn m z ah ai q1 q2=>?_;simp only[t9,q1];exact q2
   grind
  |cond c x y=>
   intro X F s W Z a u;simp only[T0];split
   .rename_i e he;obtain⟨v,h1,h2⟩:=P6 a he;cases h2;refine Zg Zs λt s1 _ o L=>?_;have a:=Tq a h1 L;obtain⟨p0,al⟩:=QP f c t;have app:∀ {r:Fm},(∃pre,r=pre++JH f c t)-> ∃pre,r=pre++f:=λ⟨p,h⟩=>(by grind)
    cases t with
    |true=>
     refine(I x _ X F s1 W Z a o).g λr C J B _ _ ⟨Y,w,i,k⟩=>⟨Y,w.b λn m z q d=>?_,i,app k⟩
     simp only[t9,h1,L];exact d
    |false=>
     refine(I y _ X F s1 W Z a o).g λr C J B _ _ ⟨Y,w,i,k⟩=>⟨Y,w.b λn m z q d=>?_,i,app k⟩
     simp only[t9,h1,L];exact d
   exact Zi
  |block id b=>
   intro X F s W Z a u;simp only[T0];have inner:iP P U O N S (match yC b with
    |some T=>match lp id T (T0 P U call dr lp g M S m T) f with
     |some r=>r|none=>T0 P U call dr lp g M S m b f
    |none=>T0 P U call dr lp g M S m b f) b f:=by
    split
    .rename_i T aj;have R:b= .loop T:=by unfold yC at aj;grind
     subst R;split;rename_i r D;exact ac id T _ f r (λf'=>I T f') D;grind
    grind
   refine(inner X F s W Z a u).f λr G Q s1 E ex o ⟨V,w,i,k⟩=>?_;split
   .rename_i j D;cases R:Nat.beq j id with
    |true=>refine Zk ⟨V,w.b λn m z q d=>?_,i,k⟩;rw[D]at d;simp only[t9,d,R,Xa]|false=>refine Zk ⟨V,w.b λn m z q d=>?_,i,k⟩;rw[D]at d;simp only[t9,d,R,Xb]
   rename_i ad;refine Zk ⟨V,w.b λn m z q d=>?_,i,k⟩;simp only[t9,d];grind
  |loop b=>
   intro X F s W Z a u;simp only[T0];refine(I b f X F s W Z a u).f λr G Q s1 E ex o ⟨V,w,i,pre,k⟩=>?_;split
   .rename_i D;refine(I (.loop b) r.2 G Q s1 E V i o).h λr' C J s' B H ⟨Y,hy,k2,p2,k3⟩=>⟨Y,?_,k2,p2++pre,by rw[k3,k,WX]⟩
    rw[D]at w;refine w.g hy ex.q H.q (λr K hg=>H.D o K hg<|.inl rfl) λn m z ah ai q1 q2=>?_;simp only[t9,q1];exact q2
   rename_i ad;refine Zk ⟨V,w.b λn m z q d=>?_,i,pre,k⟩;simp only[t9,d];grind
  |scope b=>intro X F s W Z a u;simp only[T0];refine(I b f X F s W Z a u).f λr G Q s1 E ex o ⟨V,w,i,k⟩=>?_;split;rename_i D;refine Zk ⟨V,w.b λn m z q d=>?_,i,k⟩;rw[D]at d;simp only[t9,d];rename_i j D;refine Zk ⟨V,w.b λn m z q d=>?_,i,k⟩;rw[D]at d;simp only[t9,d];rename_i D;refine Zk ⟨V,w.b λn m z q d=>?_,i,k⟩;rw[D]at d;simp only[t9,d];exact Zi
  |_=>exactλX F s W Z a u=>Zi
end
def nG :Nat->As->Fm
 |_,[]=>[]
 |k,a::l=>(k,a)::nG (k+1) l
section
variable (P :Aw)(U:Ab)
def Mq (f:Fm):ResultVar->M SV
 | .tmp t=>i6<|(lk f t).getD .r| .cell a t=>Mm P U t<|(lk f a).getD .r
def fB (f:Fm):List ResultVar->M (As)
 | []=>i6 []|r::a=>d8 (Mq P U f r) λv=>d8 (fB f a) λvs=>i6<|v::vs
def CS :As->SV
 | [v]=>v|vs=>.A vs
def sfun (call:M0)(a:Nat->mR)(b:Ay->Nat->oW)(m:Nat)(g:Ay)(args:As):M SV:=
 match P.funcs[g]? with
 |some fn=>bif wkFn fn then c9 "a capacity" else match fn.body with
  |some c=>d8 (T0 P U call (a<|args.length+(fn.ntmps-args.length)) (b g<|args.length+(fn.ntmps-args.length)) g true (args.length+(fn.ntmps-args.length)) m c<|nG 0 args) λr=>match r.1 with
   | .normal=>d8 (fB P U r.2 fn.results.toList) λvs=>i6<|CS vs
   | .ret=>d8 (fB P U r.2 fn.results.toList) λvs=>i6<|CS vs
   |_=>c9 "end of a call"
  |none=>c9 "no body"
 |none=>c9 "no function"
def Kh (call:M0)(c:Nat->mR)(e:Ay->Nat->oW)(m:Nat)(d:Ah)(vs:As)(g:Ay)(f:Nat)(h:Ah)(a b:Code)(args:As):M SV:=
 have _:=P;have _:=U
 c9 "sround"
def bE (b:M0->Nat->mR)(c:M0->Ay->Nat->oW)(a:Ay->Bb (As->M SV)):Nat->M0
 |0=>⟨λ_ _=>c9 "depth of calls",λ_ _ _ _ _ _ _ _=>c9 "depth of rounds"⟩
 |n+1=>⟨λg args=>match a g with
  |some k=>k args|none=>sfun P U (bE b c a n) (b<|bE b c a n) (c<|bE b c a n) n g args,
  λf vs g h i d e args=>Kh P U (bE b c a n) (b<|bE b c a n) (c<|bE b c a n) n f vs g h i d e args⟩
end
section
variable {P :Aw}{U:Ab}{Z:Aa}
variable (P U Z) in
def E5 (k:As->M SV)(g:Ay):Prop:=∀l args d F s b,VDL P U d F l args->SD P U d F s b->OKh P U (k l) d F s b λa e f c=>∃v,P0 P Z g args b v c/\VD P U e f a v
def Cr :∀(l:As) (k j:Nat) (a:SV),lk (nG k l) j=a->k<=j/\l[j-k]? =a
 | [],k,j,a,h=>by simp[nG,lk]at h|b::l,k,j,a,h=>by rw[nG,B3]at h;by_cases e:k=j;grind;rw[Xd e]at h;let⟨c,d⟩:=Cr l (k+1) j a h;grind
def TD.g {b:Tau}{F:Ac}{l:As}{args:Af}(h:VDL P U b F l args):TD P U b F (nG 0 l) (fill .e 0 args):=λk a d=>by let⟨_,c⟩:=Cr l 0 k a d;let⟨v,f,g⟩:=h.p c;rwa[P3 args k v<|by omega]
def uI {c:Tau}{F:Ac}{f:Fm}{d:Ao}(k:TD P U c F f d){h:Hp}:∀ {j:List ResultVar} {s:SS},SD P U c F s h->OKp U (fB P U f j) s λl=>∃vs,I6 P d h j=some vs/\VDL P U c F l vs
 | [],s,i=>Zq ⟨[],rfl,ZK⟩|r::j,s,i=>by
  have hv:∀t,VD P U c F ((lk f t).getD .r) ((d.l t).getD undef):=λt=>by
   cases p:lk f t with
   |none=>exact .any _|some b=>exact k t b p
  have one:OKp U (Mq P U f r) s λa=>∃v,Z3 P d h r=some v/\VD P U c F a v:=by
   cases r with
   |tmp t=>exact Zq ⟨_,rfl,hv t⟩|cell a t=>exact(HA (hv a) i).j λb ⟨u,e,g⟩=>⟨u,e,g⟩
  refine one.f λa s1 q m ⟨v,e,g⟩=>(uI k<|i.D q m).f λl s2 _ _ ⟨vs,n,o⟩=>Zq ⟨v::vs,by simp only[I6,e,n],ZJ g o⟩
def Rx {a:Tau}{F:Ac}{l:As}{vs:Af}(h:VDL P U a F l vs):VD P U a F (CS l) (iI vs):=by unfold CS iI;split;obtain⟨y,f,rfl,d,b⟩:=h.f;have:=WP b.1.symm;grind;next c=>split;rename_i v;have e:=h.1;cases l<;>simp_all;exact h.D
theorem hG {d:Ay->Af->Hp->Bb (Av×Hp)}:∀(c:Ah) (b:Hp),c.Nodup->(∀r∈c,b.m.l r=some .dfr)-> ∃a,N6 P d (c.map Df.d++ []) b=some a/\a.d=b.d/\ ∀i,i∉c->a.m.l i=b.m.l i
 | [],b,_,_=>⟨b,rfl,rfl,λ_ _=>rfl⟩
 |r::c,b,g,o=>by
  rw[List.nodup_cons]at g;have h:∀q∈c,q≠r:=λq j e=>g.1<|e▸j;obtain⟨a,p,k,l⟩:=hG c {b with m:=b.m.m r none} g.2 λq j=>by rw[ZD,Xd<|h q j];grind
  refine⟨a,?_,k,λi f=>?_⟩;simp only[XU,Ye,N6,o r (by simp)];omega;simp at f;rw[l i f.2,ZD,Xd f.1]
def oO {D c:Ay->Af->Hp->Bb (Av×Hp)}:∀(b:Ah) (a:Hp),N6 P D (b.map Df.d++ []) a=N6 P c (b.map Df.d++ []) a
 | [],a=>rfl|r::b,a=>by simp only[XU,Ye,N6];split;exact oO b _;rfl
variable {call:M0}{Y:Nat->mR}{X:Ay->Nat->oW}
def Mk (I:H5 P U Z call)(ab:∀T,eA P U Z T<|Y T)(ac:∀ar g T,eC P U Z ar T<|X g T)(m:Nat)(g:Ay)(hg:isT (Z g)=false):E5 P U Z (sfun P U call Y X m g) g:=by
 intro l args τ F s C hl hs;rw[sfun];split
 .rename_i fn O;cases hw:wkFn fn with
  |true=>rw[Xa];exact Zi|false=>
  have hw:wkF P g=false:=by rw[wkF,O];exact hw
  rw [Xb];split
  .rename_i c hc;refine(Hu I (ab _) (ac none g _) g true (λ_=>rfl) m c (nG 0 l) τ F s C (fill .e 0 args) (TD.g hl) hs).A λr E N s1 t ex w ⟨ak,⟨u,⟨ae,B⟩,n1,e1⟩,e2,_⟩=>?_;rw[hl.1]at e1;have an:(r.1= .normal\/r.1= .ret)-> ∀Q,((d8 (fB P U r.2 fn.results.toList) λvs=>i6<|CS vs) s1).q U Q->
     ∃b s2,Q (b,s2)/\ ∃M G d,Ext τ F s C M G s2 d/\SD P U M G s2 d/\ ∃v,P0 P Z g args C v d/\VD P U M G b v:=by
    intro D Q hq;have V:∀n,N6 P (U4 P (z4 P) (E7 P Z n) n) (u.map Df.d++ []) t=N6 P (U4 P (z4 P) (E7 P Z 0) 0) (u.map Df.d++ []) t:=by exactλn=>oO u t
    obtain⟨d,l1,l2,l3⟩:=(λn=>hG u t ae λr D=>(B r D).2.2) 0;let G:Ac:=λj=>if j∈u then none else N j
    have K:SD P U E G s1 d:=by
     refine w.sub true (λj y q h=>?_) (.inl rfl) (by omega) (λb x j o hb q=>?_)<|λj y q=>?_;show(if j∈u then none else N j)=some y;rw[Xd ?_];exact q;intro J;have A:=(B j J).2.2;rw[w.p j y q]at A;cases A;obtain h| ⟨_,h⟩:=h;cases h;grind
     .rcases w.f b x hb with⟨i',o',y',A,h2,h3,W⟩| ⟨A,_⟩
      .rw[q]at A;cases A;have ao:j∉u:=λJ=>by
        have h5:=(B j J).2.2;rw[h2]at h5;cases h5;cases x with
        |f l e z=>obtain⟨cs,n,h,_⟩:=W;cases h
        |g L e z ph=>obtain⟨cs,n,h,_⟩:=W;cases h
        |j s p=>let⟨_,n,h,_⟩:=W;cases h
        |m r L z=>let⟨_,_,cs,h,_⟩:=W;cases h
       grind
      grind
     have q:(if j∈u then none else N j)=some y:=q;by_cases e:j∈u;grind;rw[Xd e]at q;exact⟨by rw[l3 j e];exact w.p j y q,by rw[l2];exact w.B j y q⟩
    have R:∀j,j<C.d->j∉u:=λj q J=>by have:=(B j J).1;omega
    have aa:Ext τ F s C E G s1 d:=by refine ex.J (by omega) (λj q=>l3 j<|R j q) (λj y q=>?_)<|λj y q=>?_;grind;show(if j∈u then none else N j)=some y;rw[Xd<|R j<|hs.B j y q];exact ex.f j y q
    have aj:TD P U E G r.2 ak:=λk a ha=>(e2 k a ha).sub true (λj y q h=>by show(if j∈u then none else N j)=some y;rw[Xd ?_];exact q;intro J;have A:=(B j J).2.2;rw[w.p j y q]at A;cases A;obtain h| ⟨_,h⟩:=h;cases h;exact h rfl)<|.inl rfl;have S:OKh P U (d8 (fB P U r.2 fn.results.toList) λvs=>i6<|CS vs) E G s1 d λa al F' ah=>∃v,P0 P Z g args C v ah/\VD P U al F' a v:=by
     refine Zg (uI aj K) λvs s2 _ K ⟨ws,A,h2⟩=>Zk ⟨iI ws,⟨n1+1,λn hn=>?_⟩,Rx h2⟩;obtain⟨n,rfl⟩:∃k,n=k+1:=⟨n-1,by omega⟩
     have hx:=e1 n n [] (by omega) (by omega);show(bif isT (Z g)&&args.isEmpty then some (.bool true,C)else iJ (Y0 P (z4 P) (E7 P Z n) (U4 P (z4 P) (E7 P Z n) n) n g) (bif wkF P g then wkA C args else args) C)=_;rw[hg,Bool.false_and,Xb,hw,Xb];have H:=(V n).trans l1;have hb:Y0 P (z4 P) (E7 P Z n) (U4 P (z4 P) (E7 P Z n) n) n g args C=(iI ws,d):=by simp only[Y0,O,hc];obtain D|D:=D;rw[D]at hx;simp only[hx,tB,H,A];rw[D]at hx;simp only[hx,tB,H,A]
     simp only[iJ,hb]
    let⟨b,s3,q1,am,F3,ai,x1,x2,x3⟩:=S Q hq K;exact⟨b,s3,q1,am,F3,ai,aa.g x1,x2,x3⟩
   intro Q hq;cases D:r.1 with
   |normal=>simp_all|ret=>simp_all|_=>simp only[D]at hq;exact hq.elim
  exact Zi
 exact Zi
def NO (d:H5 P U Z call)(t:∀b,eA P U Z b<|Y b)(u:∀r g b,eC P U Z r b<|X g b)(m:Nat)(o:Ah)(vs:As)(g:Ay)(b:Nat)(p:Ah)(j k:Code)(l:As)(args:Af)(c:Tau)(F:Ac)(s:SS)(e:Hp)(i:Nat)(hv:VD P U c F (.L o vs g b p j k) (.chan<|some i))(w:VDL P U c F l args)(x:SD P U c F s e):OKh P U (Kh P U call Y X m o vs g b p j k l) c F s e λa h q f=>∃v,(EV λn=>tL P (z4 P) (E7 P Z n) n i args e=some (v,f))/\VD P U h q a v:=by unfold Kh;exact Zi
def AA {Y:M0->Nat->mR}(e:∀call,H5 P U Z call-> ∀c,eA P U Z c<|Y call c){X:M0->Ay->Nat->oW}(f:∀call,H5 P U Z call-> ∀y g c,eC P U Z y c<|X call g c){d:Ay->Bb (As->M SV)}(b:∀g k,d g=some k->E5 P U Z k g)(B:∀g,isT (Z g)->d g≠none):∀n,H5 P U Z (bE P U Y X d n)
 |0=>⟨λg l args o F s h _ _=>Zi,λw vs g c x t u l args o F s h i _ _ _=>Zi⟩
 |n+1=>by
  have m:=AA e f b B n;refine⟨λg l args o F s h p q=>?_,λw vs g c x t u l args o F s h i hv p q=>?_⟩
  .simp only[bE];split;next k r=>exact b g k r l args o F s h p q
   .rename_i r;have C:isT (Z g)=false:=by grind
    exact Mk m (e _ m) (f _ m) n g C l args o F s h p q
  .refine(NO m (e _ m) (f _ m) n w vs g c x t u l args o F s h i hv p q).g λa G H D _ _ ⟨v,⟨E,z⟩,A⟩=>⟨v,⟨E+1,λk r=>?_⟩,A⟩
   obtain⟨k,rfl⟩:∃j,k=j+1:=⟨k-1,by omega⟩
   exact z k (by omega)
end
section
variable {P :Aw}{call:i9}{Z:Ao}{Y X:Hp}{v:Av}
def FF {o:Op}(a:j7 o=1)(b:xop P call Z Y o=(v,Y)):xrd P Z Y o=v:=by rw[xrd,Dg a _ call,b];simp_all
def WE {o:Op}(a:j7 o=1)(b:xop P call Z Y o=(v,X)):X=Y/\xrd P Z Y o=v:=by have e:=Ie a b;subst e;exact⟨rfl,FF a b⟩
variable {a:Az}{S:Hp}
def Ih {t:Ax}{j q:Nat}(b:xop P call Z Y (.load t a)=(v,X))(c:i7 Z a=some (.pointer<|some ⟨j,q,none⟩))(d:S.m.l j=Y.m.l j):xrd P Z S (.load t a)=v:=by
 refine FF (call:=call) rfl ?_;simp only[xop,c,ob]at b⊢;have:G4 P S t (.pointer<|some ⟨j,q,none⟩)=G4 P Y t (.pointer<|some ⟨j,q,none⟩):=by simp only[G4,d]
 rw[this,(C5 b).1];rfl
def Oj {t:Ax}{j q:Nat}(b:xop P call Z Y (.load t a)=(v,X))(c:i7 Z a=some (.pointer<|some ⟨j,q,some 1⟩))(d:S.m.l 0=Y.m.l 0):xrd P Z S (.load t a)=v:=by
 refine FF (call:=call) rfl ?_;simp only[xop,c,ob]at b⊢;have:G4 P S t (.pointer<|some ⟨j,q,some 1⟩)=G4 P Y t (.pointer<|some ⟨j,q,some 1⟩):=by simp only[G4,tF,d]
 rw[this,(C5 b).1];rfl
def Il {t:Ax}{x:Av}{d b f:Ag}(h:A0 P Y t x d b f=(v,X))(g:∀i o l c,x= .slice (some ⟨i,o,none⟩) l c->S.m.l i=Y.m.l i):A0 P S t x d b f=(v,S):=by
 unfold A0 at h⊢;simp only[Bool.cond_eq_ite]at h⊢;split at h;split at h;grind;cases h
 .split at h;cases h;next j a=>split at h;grind;grind;have e:=g _ _ _ _ rfl;split at h;rename_i k;split at h;rename_i n;split at h;cases h;grind;rename_i l q p;split at h<;>grind;cases h;grind;cases h
 split at h;cases h;rename_i j a;split at h<;>grind;cases h
def mG {t:Ax}{x:Az}{f e g:Bb Az}{u:Av}(d:xop P call Z Y (.slice t x f e g)=(v,X))(p:i7 Z x=u)(S:Hp)(n:∀i o l c,u= .slice (some ⟨i,o,none⟩) l c->S.m.l i=Y.m.l i):xrd P Z S (.slice t x f e g)=v:=by
 refine FF (call:=call) rfl ?_;simp only[xop,p,ob]at d⊢;cases h:Br Z f with
 |none=>grind|some a=>
  rw[h]at d;cases j:Br Z e with
  |none=>grind|some b=>
   rw[j]at d;cases k:Br Z g with
   |none=>grind|some c=>rw[k]at d;exact Il d n
end
inductive Rd where
 |free
 |b (b:Nat)
 |frz
 |bad
def zE (a:Ai)(f:Fm):Op->Rd
 | .load _ x=>match Q9 f x with
  |some (.g b _ _ _)=>.b b|some (.B _ _ _ _)=>.frz|some (.J _ _)=>match a with
   |some b=>.b b|none=>.bad
  |_=>.bad
 | .slice _ x _ _ _=>match Q9 f x with
  |some (.m _ _ _)=>.frz|some .q=>.free|some (.p _)=>.free|_=>.bad
 |_=>.bad
def vok :Nat->SV->Bool
 |0,_=>false|n+1,a=>match a with
  | .r=>false| .w l=>l.all<|vok n| .A l=>l.all<|vok n| .H _ l m=>l.all (vok n)&&m.all (vok n)| .N _ _=>false|_=>true
section
variable {P :Aw}{U:Ab}{Y:Tau}{F:Ac}{s:SS}
variable {v:Av}
def PV.lst_slice {e:Ax}{d:Dat}(h:PV P F (.f e) v d):∃a l c,v= .slice a l c:=by cases h<;>exact⟨_,_,_,rfl⟩
variable {l:As}
def Sv {f:Av->Av->Bool}{xs:Af}(g:l.length=xs.length)(h:∀(i:Nat) a x,l[i]? =some a->xs[i]? =some x->f x x):uS f xs xs:=by
 induction xs generalizing l with
 |nil=>rfl|cons x xs e=>
  cases l with
  |nil=>grind|cons a l=>simp only[uS,WK];exact⟨h 0 a x rfl rfl,e (by grind) λi b y c d=>h (i+1) b y c d⟩
theorem HN :∀(n:Nat) (a:SV) (v:Av),vok n a->VD P U Y F a v->veq n v v
 |0,_,_,h,_=>by cases h
 |n+1,a,v,h,hv=>by
  have all:∀ {l:As} {xs:Af},l.all (vok n)->l.length=xs.length->(∀(i:Nat) a x,l[i]? =some a->xs[i]? =some x->VD P U Y F a x)->uS (veq n) xs xs:=by intro l xs b d p;rw[Xo]at b;exact Sv d λi a x q r=>(HN n) a x (b a<|WT q)<|p i a x q r
  have g:∀k:Nat,Nat.beq k k:=λk=>w9 rfl;cases hv with
  |any v=>cases h
  |int k e=>simp[veq]|bool e=>simp[veq]|str e=>simp[veq]|nilp=>simp[veq]|ptr=>simp[veq]|pptr=>simp[veq]|rp=>simp[veq]|rv=>cases h
  |rpq x v j=>generalize x.j U=m at j;cases j<;>simp[veq]
  |nils=>simp only[veq,g,XZ,YB]|sl=>simp only[veq,g,XZ,YB]|sl0=>simp only[veq,g,XZ,YB]|lst t L o v j w=>obtain⟨a,l,c,rfl⟩:=j.lst_slice;simp only[veq,g,XZ,YB]
  |agg l xs b d=>simp only[vok]at h;simp only[veq];exact all h b d|tup l xs b d=>simp only[vok]at h;simp only[veq];exact all h b d|fn f l m xs y b d p u=>simp only[vok,WK]at h;simp only[veq,XZ,Bool.true_and,WK];grind|nilf=>rfl|yld=>simp[veq]
variable (P) in
def Io (Y:Tau)(F:Ac)(S:Hp)(a:Ao)(o:Op)(v:Av):Rd->Prop
 | .free=>∀S2,xrd P a S2 o=v| .b b=>∃j q,Y b=some (some (j,q))/\ ∀S2:Hp,S2.m.l j=S.m.l j->xrd P a S2 o=v| .frz=>(∀S2,xrd P a S2 o=v)\/ ∃j y,F j=some y/\ ∀S2:Hp,S2.m.l j=some y->xrd P a S2 o=v| .bad=>True
variable {X:Ao}
def Tp {call:i9}{f:Fm}{S K:Hp}{o:Op}(B:TD P U Y F f X)(G:SD P U Y F s S)(h:xop P call X S o=some (v,K)):Io P Y F S X o v (zE (rgB s) f o):=by
 unfold zE;split
 .rename_i t x;split
  .rename_i b z row A k;let⟨u,j,m⟩:=P6 B k;cases m with
   |ptr _ _ _ _ i q r I=>exact⟨i,q,r,λg p=>Ih h j p⟩
  .rename_i Z L row A k;let⟨u,j,m⟩:=P6 B k;cases m with
   |pptr _ _ _ _ i q l c C I Q=>
    have:∃y,F i=some y:=by
     cases C with
     |sl e i o c b M n z rows x D=>grind
    let⟨y,J⟩:=this;exact .inr ⟨i,y,J,λg p=>Ih h j<|by rw[p,G.p i y J]⟩
  .rename_i row A k;obtain⟨u,j,m⟩:=P6 B k;split
   .rename_i b E;obtain⟨⟨b',L,z⟩,T,e⟩:=Yx.1 E;subst e;obtain⟨_,r,_⟩:=lI G T;cases m with
    |rp _ _ I=>exact⟨0,0,r,λg p=>Oj h j p⟩
   trivial
  trivial
 .rename_i t x V O W;have free:∀ {a:SV},Q9 f x=some a->(∀w,VD P U Y F a w-> ∀i o l c,w≠ .slice (some ⟨i,o,none⟩) l c)-> ∀g,xrd P X g (.slice t x V O W)=some v:=by intro a N R g;obtain⟨u,j,m⟩:=P6 B N;exact mG h j g λi o l c e=>absurd e (R u m i o l c)
  split
  .rename_i Z L c k;obtain⟨u,j,m⟩:=P6 B k;cases m with
   |lst _ _ _ _ C _=>
    generalize Dat.l (L.z U)=d at C;cases C with
    |N=>exact .inl λg=>mG h j g λi o l c e=>by cases e
    |L=>exact .inl λg=>mG h j g λi o l c e=>by cases e
    |sl e i o c b M n z rows x D=>refine .inr ⟨i,b,D,λg p=>mG h j g λi' o' l' c' e=>?_⟩;cases e;rw[p,G.p i b D]
  rename_i k;exact free k λw H i o l c e=>by cases H;cases e
  rename_i k;exact free k λw H i o l c e=>by cases H;cases e
  trivial
 trivial
variable (P) in
def snw (f:Fm)(o:Op):Bb (C8×(Nat->SV)):=
 match o with
 | .alloc e=>bif Nat.beq e rgT then none else match uJ P e with
  |some l=>some (.f l e l.length,λb=>.g b l.length (.w 0) 0)|none=>none
 | .box e x=>bif Nat.beq e rgT then none else match Q9 f x with
  |some v=>match H3 v with
   |some l=>some (.f l e l.length,λb=>.g b l.length (.w 0) 0)|none=>none
  |none=>none
 | .buildSlice t len a=>match kH f a.toList with
  |some g=>match P.underlying t with
   |some (.slice e)=>match P.info? e with
    |some c=>match uJ P e with
     | some z => bif Nat.beq z.length  c.size && Nat.ble (len *  c.size) 16777216 && Nat.ble len 16777216 then
       match uH (λi=>some (i*c.size,c.size)) (Rz len z) g with
       |some d=>some (.f d e c.size,λb=>.z b c.size (.w 0) (.w len)<|.f<|.w len)|none=>none
      else none
     |none=>none
    |none=>none
   |_=>none
  |none=>none
 |_=>none
variable (P U) in
def NwOK (Y:Tau)(F:Ac)(X:Ao)(o:Op)(x:C8)(mk:Nat->SV):Prop:=
 ∃n,xnw P X o=some n/\(∀a,Tle Y a->BD P U a F 0 x n.f)/\ ∀(a:Tau) b c,a b=some (some (c,0))->VD P U a F (mk b) (n.d c)
def Uq {vs:Af}{e:Ax}(h:VDL P U Y F l vs):(∀a,Tle Y a->BD P U a F 0 (.f l e l.length) (J2 vs e vs.length))/\ ∀(a:Tau) b c,a b=some (some (c,0))->VD P U a F (.g b l.length (.w 0) 0) ((⟨J2 vs e vs.length,.f,rfl⟩:Nw).d c):=by refine⟨λa f=>?_,λa b c d=>?_⟩;rw[h.1];exact dZ (h.m f<|Ze F) e vs.length;exact VD.ptr' d (by show(0:Int)<=0;omega) (by show 0=0+(0:Int).toNat*_+0;simp)
theorem Wj {f:Fm}(u:TD P U Y F f X){o:Op}{x:C8}{mk:Nat->SV}(h:snw P f o=some (x,mk)):NwOK P U Y F X o x mk:=by
 unfold snw at h;split at h
 .rename_i e;cases a:Nat.beq e rgT with
  |true=>grind|false=>
  rw[a,Xb]at h;split at h;rename_i l i;cases h;let⟨z,g,c⟩:=fC (U:=U) (Z:=Y) (F:=F) i;exact⟨_,by simp only[xnw,a,Xb,Z2,g];rfl,Uq c⟩;cases h
 .rename_i e x;cases a:Nat.beq e rgT with
  |true=>grind|false=>
  rw[a,Xb]at h;split at h;rename_i v hv;split at h;rename_i l i;cases h;let⟨w,g,c⟩:=P6 (P:=P) (U:=U) u hv;exact⟨_,by simp only[xnw,a,Xb,g];rfl,Uq<|fA c i⟩;cases h;cases h
 .rename_i t len r;split at h
  .rename_i M m;let⟨N,n,p⟩:=lP (P:=P) (U:=U) u m;split at h
   .rename_i e D;split at h
    .rename_i d k;split at h
     .rename_i z H;obtain⟨K,g,c⟩:=fC (U:=U) (Z:=Y) (F:=F) H;rw[c.1]at h;cases a:Nat.beq K.cells.toList.length d.size&&Nat.ble (len*d.size) 16777216&&Nat.ble len 16777216 with
      |false=>grind|true=>
       rw [a, Xa] at h;split at h
       .rename_i L j;cases h;obtain⟨J,B,C⟩:=kD (vY c len) p j;refine⟨⟨J2 J e d.size,.d len len,rfl⟩,?_,λs i=>dZ (C.m i<|Ze F) e d.size,λs b I q=>?_⟩;simp only[xnw,n,KB,D,k,g,a,Xa,B]
        .have G:len<unk:=by simp only[WK,XX]at a;unfold unk;omega
         have:=VD.sl (P:=P) (U:=U) (F:=F) b d.size (.w 0) (.w len) (.f<|.w len) I 0 len q (Yg 0) (Int.natCast_nonneg len) ⟨Int.natCast_nonneg len,(Xz len).symm,G,Yg _⟩;have y:(E.w (len:Int)).r U=len:=Xz len;rw[y]at this;have A:(E.w 0).r U*d.size=0:=by show(0:Int).toNat*_=0;simp
         rw[A]at this;exact this
       cases h
     cases h
    cases h
   cases h
  cases h
 cases h
end
def qN {nx0:Nat}{m:Nat->Bool}:∀(a:List Ent) (S:Hp),(takes nx0 m a S).d=S.d
 | [],S=>rfl|e::a,S=>by
  rw[takes];cases e.c with
  |none=>exact qN a S|some n=>cases m e.i with
   |false=>exact qN a S|true=>exact qN a _
def sW {a:Nat}{m:Nat->Bool}{j:Nat}:∀(b:List Ent) (S:Hp),(∀e∈b,e.c≠none->m e.i->j≠a+e.i)->(takes a m b S).m.l j=S.m.l j
 | [],S,_=>rfl|e::b,S,h=>by
  rw[takes];have k:=λS=>sW b S λc f=>h c (by grind);cases l:e.c with
  |none=>grind|some n=>
   simp only;cases g:m e.i with
   |false=>grind|true=>rw[Xa,k];show(S.m.m _ _).l j=_;rw[ZD,Xd<|(h e (by simp)) (by grind) g]
def CU {nx0:Nat}{m:Nat->Bool}{e:Ent}{n:Nw}:∀(c:List Ent) (S:Hp),e∈c->e.c=n->m e.i->c.Pairwise (λa b=>a.i≠b.i)->(takes nx0 m c S).m.l (nx0+e.i)=n.f
 | [],S,l,_,_,_=>by grind|  k ::  c, S,  l,  h,  g,  j => by
  unfold takes;rw[List.pairwise_cons]at j;by_cases f:e=k;subst f;rw[h];simp only[g,Xa];rw[sW];show(S.m.m _ _).l _=_;rw[ZD,Xg rfl];grind
  .have d:e∈c:=by grind
   have o:=λS=>CU (nx0:=nx0) c S d h g j.2;grind
structure Pd where
 b:Nat
 i:Nat
 x:C8
structure En where
 i:Nat
 d:Nat
 w:Bool
 g:Bool
 r:Rd
 b:Ah
 h:Bool
def Z5 (b:Nat):Ah->Bool
 | []=>false|k::l=>bif Nat.beq b k then true else Z5 b l
def Z6 {b:Nat}:∀ {l:Ah},Z5 b l=false->b∉l
 | [],_=>by simp|k::l,h=>by rw[Z5] at h;by_cases e:b=k;simp_all;rw[B0 e,Xb]at h;simp[e,Z6 h]
def mX (pre:Nat)(a:Ah)(e:En):Bool:=
 bif e.g then(bif pre.testBit e.i then true else match e.r with
  | .free=>true| .frz=>true| .b b=> !Z5 b a| .bad=>false)else true
def jQ (pre:Nat)(r:Rd)(y:En):Bool:=
 bif y.w then(bif pre.testBit y.i then true else match r with
  | .free=>true| .b b=> !Z5 b y.b| .frz=> !y.h|_=>false)else true
def PT (c:Hp)(a:List Ent)(k:Nat)(b:Hp):Prop:=(k=0/\b=c)\/ ∃x∈a,isW x/\k=x.i+1/\b=x.h
def MH (P:Aw)(a:List Ent)(e:Ent)(k:Nat)(b:Hp):Prop:=own a e k=true\/cR a e k=false\/ ∃v,xrd P e.d b e.o.op=some v/\veq 1000 v e.r
variable {Z:List Ent}
def MH.b {P:Aw}{e:Ent}{k:Nat}{a:Hp}(h:MH P Z e k a):rU P Z e k a=true:=by rw[rU];rcases h<;>grind
def OV {a b:Nat}(h:a<b):Nat.blt a b:=WQ h
def Up {a b:Nat}(h:b<=a):Nat.blt a b=false:=by cases c:Nat.blt a b;rfl;simp_all;omega
def BN {e:Ent}{k:Nat}{y:Ent}(f:y∈Z)(d:isW y)(h:(y.i<k/\y.b.testBit e.i)\/(k<=y.i/\e.b.testBit y.i)):cR Z e k=false:=by
 cases a:cR Z e k with
 |false=>rfl|true=>rw[cR] at a;rw[Xo]at a;have:=a y f;rw[d,Xa]at this;obtain⟨b,c⟩| ⟨b,c⟩:=h;rw[OV b,Xa,c]at this;cases this;simp_all;omega
section
variable {P :Aw}{W:Hp}
variable {Z:List Ent}{Y:Ent}{k:Nat}{X:Hp}
def MH.d {e:Ent}(h:MH P Z e k X)(a:k<=Y.i)(b:e.i<=Y.i):MH P (Y::Z) e k X:=by obtain h|h|h:=h;refine .inl ?_;rw[own] at h⊢;rw[List.all_cons,h,YB,Up a,Up b];grind;refine .inr<|.inl ?_;rw[cR] at h⊢;grind;exact .inr<|.inr h
structure DB (P:Aw)(W:Hp)(i:Nat)(τ:Tau)(F:Ac)(s:SS)(S:Hp)(es:List En)(Z:List Ent):Prop where
 g:∀e∈Z,e.i<i
 B:∀y∈Z,isW y=true-> ∃en∈es,en.w=true/\en.i=y.i/\en.d=y.b
 A:∀en∈es,en.w=true-> ∃y∈Z,isW y=true/\en.i=y.i/\en.d=y.b
 h:∀e∈Z,e.f=true->j7 e.o.op=1-> ∀k X,PT W Z k X->MH P Z e k X
 z:∀k X,PT W Z k X-> ∀b x j o,s.f b=some x->τ b=some (some (j,o))->(∀en∈es,en.w=true->k<=en.i->b∉en.b)->X.m.l j=S.m.l j
 u:∀k X,PT W Z k X->(∀en∈es,en.w=true->k<=en.i->en.h=false)-> ∀j y,F j=some y->X.m.l j=some y
 C:∀e∈Z,e.f=true->j7 e.o.op=1->veq 1000 e.r e.r=true/\ ∃en∈es,en.g=true/\en.i=e.i/\Io P τ F e.S e.d e.o.op e.r en.r/\
  (∀b,en.r= .b b->(∀y∈es,y.w=true->e.i<y.i->y.d.testBit e.i=false)-> ∃x j q,s.f b=some x/\τ b=some (some (j,q))/\S.m.l j=e.S.m.l j)
def PT.d {i:Nat}(a:∀e∈Z,e.i<i)(h:PT W Z k X):k<=i:=by rcases h<;>grind
def PT.b (h:PT W (Y::Z) k X):PT W Z k X\/(isW Y/\k=Y.i+1/\X=Y.h):=by obtain h| ⟨x,a,d,b,c⟩:=h;exact .inl<|.inl h;obtain rfl|a:=Xw.1 a;grind;exact .inl<|.inr ⟨x,a,d,b,c⟩
variable {F V:Ac}
def Io.b {e a:Tau}{S:Hp}{f:Ao}{o:Op}{v:Av}{r:Rd}(i:Tle e a)(g:Fle F V)(h:Io P e F S f o v r):Io P a V S f o v r:=by
 cases r with
 |free=>exact h|b b=>let⟨j,q,c,d⟩:=h;exact⟨j,q,i _ _ c,d⟩
 |frz=>obtain h| ⟨j,y,c,d⟩:=h;exact .inl h;exact .inr ⟨j,y,g _ _ c,d⟩
 |bad=>trivial
def DB.d {i:Nat}{τ τ':Tau}{s s':SS}{S S':Hp}{z:List En}(h:DB P W i τ F s S z Z){en:En}(ht:Tle τ τ')(hF:Fle F V)(hl:∀b x,s.f b=some x->τ' b=τ b)(ak:∀j y,V j=some y->S'.m.l j=some y)(aj:(isW Y->en.h=false)-> ∀j y,V j=some y->F j=some y)(hg:∀b,b∉en.b->s'.f b=s.f b)(ao:∀b x j o,s.f b=some x->τ b=some (some (j,o))->b∉en.b->S'.m.l j=S.m.l j)(ei:en.i=i)(xi:Y.i=i)(hp:en.d=Y.b)(hw:en.w=isW Y)(ad:Y.h=S')(ae:isW Y=false->S'=S/\en.b=[])(hf:isW Y->z.all (mX Y.b en.b))(hr:Y.f->j7 Y.o.op=1->veq 1000 Y.r Y.r/\en.g/\Y.S=S/\Io P τ' F S Y.d Y.o.op Y.r en.r/\(∀b,en.r= .b b-> ∃x,s.f b=some x)/\z.all (jQ Y.b en.r)):DB P W (i+1) τ' V s' S' (en::z) (Y::Z):=by
 have nk:∀b,(en.w->b∉en.b)->b∉en.b:=λb E=>by grind
 have ai:j7 Y.o.op=1->isW Y=false:=λG=>by rw[isW,G];rfl
 have wx:∀y∈Y::Z,isW y-> ∃a∈en::z,a.w/\a.i=y.i/\a.d=y.b:=λy g D=>by obtain rfl|g:=Xw.1 g;grind;let⟨e1,H,L⟩:=h.B y g D;grind
 have wn:∀a∈en::z,a.w-> ∃y∈Y::Z,isW y/\a.i=y.i/\a.d=y.b:=λy g D=>by obtain rfl|g:=Xw.1 g;grind;let⟨e1,H,L⟩:=h.A y g D;grind
 have rd:∀e∈Y::Z,e.f->j7 e.o.op=1->veq 1000 e.r e.r/\ ∃a∈en::z,a.g/\a.i=e.i/\Io P τ' V e.S e.d e.o.op e.r a.r/\
   (∀ b,a.r = .b b→(∀ y ∈ en :: z,y.w→e.i < y.i→y.d.testBit e.i=false) → ∃ x j q,s'.f b=some x∧τ' b=some (some (j,q))∧S'.m.l j=e.S.m.l j):=by
  intro e n v G;obtain rfl|n:=Xw.1 n;let⟨H,L,Q,l,p,h6⟩:=hr v G;let⟨l1,l2⟩:=ae<|ai G;refine⟨H,en,by simp,L,by rw[ei,xi],by rw[Q];exact l.b (ZE _) hF,λb E _=>?_⟩;obtain⟨x,hx⟩:=p b E;rw[E]at l;obtain⟨j,q,O,_⟩:=l;grind
  .obtain⟨H,t,L,Q,l,p,h6⟩:=h.C e n v G;refine⟨H,t,by simp[L],Q,l,p.b ht hF,λb E M=>?_⟩;have T:b∉en.b:=nk b λN=>by have J:=hf (by rw[<-hw];exact N);rw[Xo]at J;have K:=J t L;unfold mX at K;rw[Q,Xa,l,<-hp,M en (by simp) N (by rw[ei];exact h.g e n),Xb,E]at K;simp only[XI]at K;exact Z6 K
   grind
 refine⟨λe n=>?_,wx,wn,?_,?_,λk X c hc j y hj=>?_,rd⟩
 rotate_right 1
 obtain c| ⟨u,rfl,rfl⟩:=c.b;have aa:=c.d h.g;exact h.u k X c (λa n=>hc a<|Yb _ n) j y<|aj (λu=>hc en (by simp) (by rw[hw];exact u)<|by omega) j y hj;grind;obtain rfl|n:=Xw.1 n;omega;exact Nat.lt_succ_of_lt<|h.g e n
 .intro e n v G k X c;obtain rfl | n:=Xw.1 n
  .obtain⟨H,L,Q,l,p,h6⟩:=hr v G;obtain c| ⟨hc,_⟩:=c.b
   .have C:∀a∈z,jQ e.b en.r a:=Xo.1 h6;by_cases c1:∃y∈Z,isW y/\k<=y.i/\e.b.testBit y.i;obtain⟨y,g,c2,c3,c4⟩:=c1;exact .inr (.inl<|BN (Yb _ g) c2<|.inr ⟨c3,c4⟩)
    .have f:∀a∈z,a.w->k<=a.i->e.b.testBit a.i=false:=by
      intro a U ab aa;obtain⟨y,g,d1,d2,d3⟩:=h.A a U ab;cases ht:e.b.testBit a.i with
      |false=>rfl|true=>exact absurd ⟨y,g,d1,by omega,by rw[<-d2];exact ht⟩ c1
     by_cases c2:∃y∈Z,isW y/\k<=y.i
     .obtain⟨y,g,d1,d2⟩:=c2;obtain⟨a,e1,e2,e3,e4⟩:=h.B y g d1;have o1:=C a e1;unfold jQ at o1;rw[e2,Xa,f a e1 e2 (by omega),Xb]at o1;refine .inr<|.inr ⟨e.r,?_,H⟩;cases d:en.r with
      |free=>rw[d]at l;exact l X|b b=>rw[d]at l;obtain⟨j,q,O,R⟩:=l;obtain⟨x,hx⟩:=p b d;refine R X<|h.z k X c b x j q hx (by rw[<-hl b x hx];exact O) λB m1 m2 m3=>?_;have A:=C B m1;unfold jQ at A;rw[m2,Xa,f B m1 m2 m3,Xb,d]at A;simp only[XI]at A;exact Z6 A
      |frz=>rw[d]at l;obtain l| ⟨j,w,O,R⟩:=l;exact l X;refine R X<|h.u k X c (λB m1 m2 m3=>?_) j w O;have A:=C B m1;unfold jQ at A;rw[m2,Xa,f B m1 m2 m3,Xb,d]at A;simpa using A
      |bad=>rw[d]at o1;cases o1
     .refine .inl ?_;rw[own,Xo];intro y g;cases D:isW y with
      |false=>rfl|true=>
       obtain rfl|g:=Xw.1 g;grind
       .have al:y.i<k:=by obtain hh|hh:=Nat.lt_or_ge y.i k;exact hh;exact absurd ⟨y,g,D,hh⟩ c2
        have:=h.g y g;rw[Xa,OV al,OV<|by omega];rfl
   rw[ai G]at hc;cases hc
  .have ap:=h.g e n;obtain c| ⟨u,rfl,rfl⟩:=c.b;exact(h.h e n v G k X c).d (by rw[xi];exact c.d h.g) (by omega)
   .by_cases c1:∃y∈Y::Z,isW y/\e.i<y.i/\y.b.testBit e.i;obtain⟨y,g,c2,c3,c4⟩:=c1;refine .inr<|.inl<|BN g c2<|.inl ⟨?_,c4⟩;obtain rfl|g:=Xw.1 g;omega;have:=h.g y g;omega
    .have f:∀y∈en::z,y.w->e.i<y.i->y.d.testBit e.i=false:=by
      intro a U ab aa;obtain⟨y,g,d1,d2,d3⟩:=wn a U ab;cases ht:a.d.testBit e.i with
      |false=>rfl|true=>exact absurd ⟨y,g,d1,by omega,by rw[<-d3];exact ht⟩ c1
     obtain⟨H,t,L,Q,l,p,h6⟩:=rd e (by simp[n]) v G;refine .inr<|.inr ⟨e.r,?_,H⟩;rw[ad];cases d:t.r with
     |free=>rw[d]at p;exact p S'|b b=>rw[d]at p;obtain⟨j,q,O,R⟩:=p;obtain⟨x,j',q',h9,I,J⟩:=h6 b d f;rw[O]at I;cases I;exact R S' J
     |frz=>rw[d]at p;obtain p| ⟨j,y,O,R⟩:=p;exact p S';exact R S'<|ak j y O
     |bad=>
      have am:t∈z:=by obtain rfl|hm:=Xw.1 L;omega;exact hm
      have o1:=hf u;rw[Xo]at o1;have A:=o1 t am;unfold mX at A;rw[Q,Xa,l,<-hp,f en (by simp) (by rw[hw,u])<|by omega,Xb,d]at A;cases A
 intro k X c b x j o E ac ah;obtain c| ⟨u,rfl,rfl⟩:=c.b;have aa:=c.d h.g;have T:b∉en.b:=nk b λN=>ah en (by simp) N (by omega);rw[hg b T]at E;rw[hl b x E]at ac;rw[h.z k X c b x j o E ac λa m1=>ah a<|by simp[m1],ao b x j o E ac T];rw[ad]
end
end Go.Sx
namespace Go.Sx
open Go.Xe
def tkl (a:List Pd):List (Nat×Bb C8):=a.map λp=>(p.b,some p.x)
def iH (s:SS)(a:List Pd):SS:= {s with h:=tkl a++s.h}
def HE (s:SS):SS:= {s with g:=s.g+1}
def kJ {s:SS}{b:Nat}:∀ {a:List Pd},(∀p∈a,b≠p.b)->(iH s a).f b=s.f b
 | [],_=>rfl|p::a,h=>by have d:=kJ (s:=s) λq c=>h q<|Yb _ c;rw[SS.f,iH,tkl] at d⊢;simp only[XU,Ye,B3];grind
def AJ {s:SS}{p:Pd}:∀ {a:List Pd},p∈a->a.Pairwise (λp q=>p.b≠q.b)->(iH s a).f p.b=some p.x
 | [],h,_=>by grind|q::a,h,c=>by
  rw[List.pairwise_cons]at c;by_cases e:q.b=p.b;obtain rfl|h:=Xw.1 h;simp only[SS.f,iH,tkl,XU,Ye,B3,Xg];grind
  .have d:p∈a:=by grind
   have f:=AJ (s:=s) d c.2;rw[SS.f,iH,tkl] at f⊢;simp only[XU,Ye,B3];grind
section
variable {P :Aw}{U:Ab}{X:Tau}{Q:Ac}{R:SS}{Z:Hp}{n:Nat}
variable (P U) in
structure PDOK (R:SS)(Z:Hp)(i:Nat)(τ:Tau)(F:Ac)(s:SS)(esX:List Ent)(I:Nat)(p:Pd):Prop where
 m:p.i<i
 d:I.testBit p.i=false
 g:s.f p.b=none
 j:R.g<=p.b
 h:p.b<s.g
 t:τ p.b=some (some (Z.d+p.i,0))
 f:F (Z.d+p.i)=none
 u:∀c o,τ c=some (some (Z.d+p.i,o))->c=p.b
 e:∃e∈esX,e.i=p.i/\ ∃nw,e.c=some nw/\BD P U τ F 0 p.x nw.f
variable (P U) in
structure DA (X:Tau)(Q:Ac)(R:SS)(Z:Hp)(n i:Nat)(τ:Tau)(F:Ac)(s:SS)(S:Hp)(f:Fm)(tm:Ao)(pd:List Pd)(esX:List Ent)(I:Nat):Prop where
 h:SD P U τ F s S
 r:TD P U τ F f tm
 d:Ext X Q R Z τ F s S
 m:Z.d+n<=S.d
 C:∀j,i<=j->I.testBit j=false
 B:esX.Pairwise (λa b=>a.i≠b.i)
 H:pd.Pairwise (λp q=>p.b≠q.b)
 g:∀p∈pd,PDOK P U R Z i τ F s esX I p
 y:∀j,i<=j->j<n->(∀c o,τ c≠some (some (Z.d+j,o)))/\F (Z.d+j)=none
 A:∀e∈esX,e.c≠none->I.testBit e.i=false-> ∃p∈pd,p.i=e.i
variable {i :Nat}{V:Tau}{F:Ac}{s:SS}{S:Hp}{f:Fm}{L:Ao}{W:List Pd}{Y:List Ent}{I:Nat}
variable {M:Fm}
def DA.J (h:DA P U X Q R Z n i V F s S f L W Y I)(a:TD P U V F M L):DA P U X Q R Z n i V F s S M L W Y I:= {h with r:=a}
variable {N:Ent}
def fW (c:Y.Pairwise (λa b=>a.i≠b.i))(d:∀e∈Y,e.i<i)(f:N.i=i):(N::Y).Pairwise (λa b=>a.i≠b.i):=by rw[List.pairwise_cons];grind
variable {O:Ao}
def DA.u (h:DA P U X Q R Z n i V F s S f L W Y I)(q:∀e∈Y,e.i<i){a:SS}(m:SD P U V F a S)(o:TD P U V F M O)(x:a.h=s.h)(z:a.g=s.g)(c:Ext V F s S V F a S)(v:N.i=i)(C:N.c=none):DA P U X Q R Z n (i+1) V F a S M O W (N::Y) I:=by
 have w:∀b,a.f b=s.f b:=λb=>by unfold SS.f;rw[x]
 refine⟨m,o,h.d.g c,h.m,λj y=>h.C j<|by omega,fW h.B q v,h.H,λp A=>?_,λj y=>h.y j<|by omega,λe d l=>?_⟩;have k:=h.g p A;let⟨e,B,r⟩:=k.e;exact⟨by grind,k.d,by rw[w];exact k.g,k.j,by rw[z];exact k.h,k.t,k.f,k.u,⟨e,by grind,r⟩⟩;obtain rfl|d:=Xw.1 d;grind;exact h.A e d l
def DA.D (h:DA P U X Q R Z n i V F s S f L W Y I)(ab:∀e∈Y,e.i<i)(J:i<n){x:C8}{nw:Nw}(aa:TD P U (put V s.g<|some (Z.d+i,0)) F M O)(ae:BD P U (put V s.g<|some (Z.d+i,0)) F 0 x nw.f)(he:N.i=i)(hw:N.c=some nw):DA P U X Q R Z n (i+1) (put V s.g<|some (Z.d+i,0)) F (HE s) S M O (⟨s.g,i,x⟩::W) (N::Y) I:=by
 have h0:=h.h.g _<|Xh _;have m:=dT (some (Z.d+i,0)) h0;let⟨c1,c2⟩:=h.y i (Xh _) J;have T:=h.m;have d:∀b,b≠s.g->put V s.g (some (Z.d+i,0)) b=V b:=λb a=>D6 V _ a;have A:∀b x,s.f b=some x->b≠s.g:=λb x a=>by have:=h.h.w a;omega
 refine⟨⟨λb y a=>?_,λb c y z k o j q a v B H G=>?_,h.h.p,λb j o a=>?_,h.h.B,λb a=>?_,h.h.I,λr hr=>(h.h.N r hr).f m<|Ze F⟩,aa,?_,h.m,λj hj=>h.C j<|by omega,fW h.B ab he,?_,λp C=>?_,λj hj E=>?_,λe K B hI=>?_⟩;have w:=a;obtain⟨k,o,z,h1,h2,h3,h4⟩| ⟨h1,h2⟩:=h.h.f b y w;exact .inl ⟨k,o,z,by grind,h2,h3,h4.f m<|Ze F⟩;grind;have w:=a;have D:=v;rw[d b<|A b y w]at H;rw[d c<|A c z D]at G;exact h.h.A b c y z k o j q w D B H G;by_cases e:b=s.g;subst e;rw[y6]at a;grind;rw[d b e]at a;exact h.h.C b j o a;have:s.g+1<=b:=a;rw[d b<|by omega];exact h.h.g b (by omega);let⟨l,a1,a2,a3,a4,a5⟩:=h.d.B;refine⟨h.d.t.f m,h.d.f,h.d.q,Ya h.d.r<|Yq _,λb a=>?_,h.d.w,⟨l,a1,a2,λb j o a ac=>?_,λj y hj hy=>?_,a5⟩,h.d.I,h.d.C⟩;have:=h.d.r;rw[d b<|by omega];exact h.d.A b a;by_cases e:b=s.g;subst e;rw[y6]at ac;grind;grind;grind;rw[List.pairwise_cons];exact⟨λp C=>by have:=(h.g p C).h;exact Nat.ne_of_gt this,h.H⟩
 .rcases Xw.1 C with rfl|C
  .refine⟨Yd i,h.C i<|Xh _,?_,h.d.r,Yd _,y6 _ _ _,c2,λc o v=>?_,(by grind)⟩
   .cases hq:(HE s).f s.g with
    |none=>rfl|some y=>exact absurd rfl<|A s.g y hq
   grind
  have k:=h.g p C;let⟨e,H,G,ad,e3,e4⟩:=k.e;refine⟨by grind,k.d,k.g,k.j,Nat.lt_succ_of_lt k.h,m _ _ k.t,k.f,λc o v=>?_,⟨e,by grind,G,ad,e3,e4.f m<|Ze F⟩⟩;by_cases e:c=s.g;subst e;rw[y6]at v;grind;rw[d c e]at v;exact k.u c o v
 refine⟨λc o v=>?_,(h.y j (by omega) E).2⟩;by_cases e:c=s.g;subst e;rw[y6]at v;grind;rw[d c e]at v;exact(h.y j (by omega) E).1 c o v;obtain rfl|K:=Xw.1 K;simp_all;let⟨p,C,e⟩:=h.A e K B hI;grind
def DA.w (h:DA P U X Q R Z n i V F s S f L W Y I)(m:Nat->Bool)(hm:∀e∈Y,e.c≠none->(m e.i↔ ∃p∈W,p.i=e.i)):SD P U V F (iH s W) (takes Z.d m Y S)/\Ext X Q R Z V F (iH s W) (takes Z.d m Y S)/\(takes Z.d m Y S).d=S.d/\ ∀j,(∀p∈W,j≠Z.d+p.i)->(takes Z.d m Y S).m.l j=S.m.l j:=by
 have B:=qN (nx0:=Z.d) (m:=m) Y S;have D:∀j,(∀p∈W,j≠Z.d+p.i)->(takes Z.d m Y S).m.l j=S.m.l j:=λj r=>sW Y S λe he E ac=>by grind
 have N:∀p∈W,∃y,(takes Z.d m Y S).m.l (Z.d+p.i)=some y/\BD P U V F 0 p.x y:=λp a=>by let⟨e,G,H,nw,e3,e4⟩:=(h.g p a).e;have:=CU (nx0:=Z.d) Y S G e3 ((hm e G<|by grind).2 ⟨p,a,H.symm⟩) h.B;grind
 have A:∀b y,(iH s W).f b=some y->(∃p∈W,b=p.b/\y=p.x)\/((∀p∈W,b≠p.b)/\s.f b=some y):=λb y d=>by by_cases c:∃p∈W,b=p.b;obtain⟨p,a,rfl⟩:=c;rw[AJ a h.H,WJ]at d;grind;have M:∀p∈W,b≠p.b:=λp a e=>c ⟨p,a,e⟩;rw[kJ M]at d;grind
 have aa:∀b y j o,s.f b=some y->V b=some (some (j,o))-> ∀p∈W,j≠Z.d+p.i:=λb y j o d O p a e=>by subst e;have:=(h.g p a).u b o O;subst this;rw[(h.g p a).g]at d;cases d
 have ab:∀j y,F j=some y-> ∀p∈W,j≠Z.d+p.i:=λj y r p a e=>by subst e;rw[(h.g p a).f]at r;cases r
 refine⟨⟨λb y d=>?_,λb c y z k o j q d hc E G H=>?_,λj y r=>by rw[D j<|ab j y r];exact h.h.p j y r,λb j o d=>by rw[B];exact h.h.C b j o d,λj y r=>by rw[B];exact h.h.B j y r,h.h.g,h.h.I,h.h.N⟩,?_,B,D⟩;obtain⟨p,a,rfl,rfl⟩| ⟨M,v⟩:=A b y d;let⟨y,h1,h2⟩:=N p a;exact .inl ⟨_,0,y,(h.g p a).t,h1,(h.g p a).f,h2⟩;obtain⟨k,o,z,h1,h2,h3,h4⟩|h1:=h.h.f b y v;grind;grind;obtain⟨p,a,rfl,rfl⟩| ⟨M,v⟩:=A b y d;rw[(h.g p a).t]at G;cases G;obtain⟨T,C,rfl,rfl⟩| ⟨M,J⟩:=A c z hc;rw[(h.g T C).t]at H;cases H;intro e;exact E ((h.g T C).u _ 0<|by rw[(h.g p a).t,e]);grind;obtain⟨T,C,rfl,rfl⟩| ⟨ad,J⟩:=A c z hc;rw[(h.g T C).t]at H;grind;exact h.h.A b c y z k o j q v J E G H
 .obtain⟨l,a1,a2,a3,a4,a5⟩:=h.d.B;have ge:∀j,j<Z.d-> ∀p∈W,j≠Z.d+p.i:=λj r p a=>by omega
  refine⟨h.d.t,h.d.f,by rw[B];exact h.d.q,h.d.r,h.d.A,λb y d K=>?_,⟨tkl W++l,by show tkl W++s.h=_;rw[a1,WX],λj r ae=>?_,λb j o d O=>?_,λj y r hy=>?_,λa=>a5 λp h=>a p<|by grind⟩,h.d.I,
   let⟨l',b1,w⟩:=h.d.C;⟨tkl W++l',by show tkl W++s.h=_;rw[b1,WX],λb c e z j o cs n d ht r hg hl=>by grind⟩⟩
  obtain⟨p,a,rfl,rfl⟩| ⟨M,v⟩:=A b y d;exact absurd K<|Nat.not_lt.2 (h.g p a).j;exact h.d.w b y v K;grind;grind;grind
def DA.z (h:DA P U X Q R Z n i V F s S f L W Y I)(E:∀e∈Y,e.i<i){pre:Nat}(r:pre<2^i)(aa:∀p∈W,pre.testBit p.i=true){s1 H:SS}{S1 t:Hp}{d:Tau}{k:Ac}(K:S1.d=S.d)(D:Ext X Q R Z V F s1 S1)(a:Ext V F s1 S1 d k H t)(B:SD P U d k H t)(C:TD P U d k M O)(T:N.i=i)(hw:N.c=none):DA P U X Q R Z n (i+1) d k H t M O [] (N::Y) (I|||pre):=by
 have A:=h.m;have cl:∀j,i+1<=j->j<n-> ∀c o,d c≠some (some (Z.d+j,o)):=λj v g c o u=>by have G:=(h.y j (by omega) g).1;by_cases q:c<s1.g;rw[a.A c q]at u;exact G c o u;obtain m| ⟨b0,x,o0,m,h2⟩:=a.N c _ o (Yt q) u;omega;grind
 refine⟨B,C,D.g a,by have:=a.q;omega,λj v=>?_,fW h.B E T,.nil,λp hp=>by grind,λj v g=>⟨cl j v g,?_⟩,λe w z hI=>?_⟩;rw[Nat.testBit_or,h.C j<|by omega,Bool.false_or];exact Nat.testBit_lt_two_pow (XW r<|Nat.pow_le_pow_right (by omega)<|by omega)
 .cases hq:k (Z.d+j)with
  |none=>rfl|some y=>let⟨l,_,_,_,J,_⟩:=a.B;obtain m| ⟨b,o,m,_⟩:=J _ y (by omega) hq;rw[(h.y j (by omega) g).2]at m;cases m;grind
 obtain rfl|w:=Xw.1 w;grind;rw[Nat.testBit_or,YW]at hI;let⟨p,hp,e1⟩:=h.A e w z hI.1;grind
