/- The executor, parts 1, 2, 3, 4, 5, 6, 7.
  Conditions: none. -/
import Derived.WalkSpells
import Derived.Lib.AppendZerosOnto
import Derived.Lib.Overlaps
import Derived.LoopNIn
import Derived.RangeFuncNested
import Derived.OrdersIn
set_option linter.all false
noncomputable section
namespace Go
abbrev Bc:=World
abbrev Bb:=Option
abbrev Ba:=TypeInfo
abbrev Az:=Operand
abbrev Ay:=FuncId
abbrev Ax:=TypeId
abbrev Aw:=Program
abbrev Av:=Value
abbrev Aq:=Option Addr
abbrev An:=List Oper
abbrev Am:=Array Oper
abbrev Al:=Array Value
abbrev Ak:=List Int
abbrev Ai:=Option Nat
abbrev Ah:=List Nat
abbrev Ag:=Option Value
abbrev Af:=List Value
abbrev Ae:=List UInt8
abbrev Aa:=FuncId ->Option TypeId
end Go
namespace Go.Xe
def WJ:type_of% @Option.some.injEq:=@Option.some.injEq
def WK:type_of% @Bool.and_eq_true:=@Bool.and_eq_true
def WL:type_of% @Prod.mk.injEq:=@Prod.mk.injEq
def WM:type_of% @List.getElem?_eq_some_iff:=@List.getElem?_eq_some_iff
def WN:type_of% @Nat.le_of_ble_eq_true:=@Nat.le_of_ble_eq_true
def WO:type_of% @Nat.eq_of_beq_eq_true:=@Nat.eq_of_beq_eq_true
def WP:type_of% @List.eq_nil_of_length_eq_zero:=@List.eq_nil_of_length_eq_zero
def WQ:type_of% @Nat.ble_eq_true_of_le:=@Nat.ble_eq_true_of_le
def WR:type_of% @List.getElem?_append_right:=@List.getElem?_append_right
def WS:type_of% @List.getElem?_append_left:=@List.getElem?_append_left
def WT:type_of% @List.mem_of_getElem?:=@List.mem_of_getElem?
def WU:type_of% @List.getElem?_cons_succ:=@List.getElem?_cons_succ
def WV:type_of% @List.getElem?_eq_getElem:=@List.getElem?_eq_getElem
def WW:type_of% @Nat.mul_le_mul_right:=@Nat.mul_le_mul_right
def WX:type_of% @List.append_assoc:=@List.append_assoc
def WY:type_of% @Array.getElem?_eq_some_iff:=@Array.getElem?_eq_some_iff
def WZ:type_of% @List.getElem?_cons_zero:=@List.getElem?_cons_zero
def Xa:type_of% @cond_true:=@cond_true
def Xb:type_of% @cond_false:=@cond_false
def Xc:type_of% @List.length_map:=@List.length_map
def Xd:type_of% @if_neg:=@if_neg
theorem af {c:Prop}[Decidable c]{α:Type}{a b:α}(h:¬c:=by omega):ite c a b=b:=if_neg h
def Xf:type_of% @decide_eq_true_eq:=@decide_eq_true_eq
def Xg:type_of% @if_pos:=@if_pos
def Xh:type_of% @Nat.le_refl:=@Nat.le_refl
def Xi:type_of% @run_underlying:=@run_underlying
def Xj:type_of% @Result.andThen_ok:=@Result.andThen_ok
def Xk:type_of% @Option.some.inj:=@Option.some.inj
def Xl:type_of% @List.length_append:=@List.length_append
def Xm:type_of% @And.intro:=@And.intro
def Xn:type_of% @Sem.run_bind:=@Sem.run_bind
def Xo:type_of% @List.all_eq_true:=@List.all_eq_true
def Xp:type_of% @List.getD_eq_getElem?_getD:=@List.getD_eq_getElem?_getD
def Xq:type_of% @Nat.zero_add:=@Nat.zero_add
def Xr:type_of% @List.getElem?_take:=@List.getElem?_take
def Xs:type_of% @Sem.run_pure:=@Sem.run_pure
def Xt:type_of% @List.length_take:=@List.length_take
def Xu:type_of% @Nat.add_mul:=@Nat.add_mul
def Xv:type_of% @List.mem_append:=@List.mem_append
def Xw:type_of% @List.mem_cons:=@List.mem_cons
def Xx:type_of% @List.getElem?_drop:=@List.getElem?_drop
def Xy:type_of% @Nat.beq_eq:=@Nat.beq_eq
def Xz:type_of% @Int.toNat_natCast:=@Int.toNat_natCast
def XB:type_of% @Option.getD_some:=@Option.getD_some
def XD:type_of% @List.length_cons:=@List.length_cons
def XE:type_of% @true_implies:=@true_implies
def XH:type_of% @Option.map_some:=@Option.map_some
def XI:type_of% @Bool.not_eq_true':=@Bool.not_eq_true'
def XJ:type_of% @List.map_append:=@List.map_append
def XM:type_of% @decide_eq_false_iff_not:=@decide_eq_false_iff_not
def XP:type_of% @List.take_of_length_le:=@List.take_of_length_le
def XQ:type_of% @List.getElem?_map:=@List.getElem?_map
def XU:type_of% @List.map_cons:=@List.map_cons
def XV:type_of% @List.length_drop:=@List.length_drop
def XW:type_of% @Nat.lt_of_lt_of_le:=@Nat.lt_of_lt_of_le
def XX:type_of% @Nat.ble_eq:=@Nat.ble_eq
def XY:type_of% @List.mem_iff_getElem?:=@List.mem_iff_getElem?
def XZ:type_of% @decide_true:=@decide_true
def Ya:type_of% @Nat.le_trans:=@Nat.le_trans
def Yb:type_of% @List.mem_cons_of_mem:=@List.mem_cons_of_mem
def Yc:type_of% @Nat.add_assoc:=@Nat.add_assoc
def Yd:type_of% @Nat.lt_succ_self:=@Nat.lt_succ_self
def Ye:type_of% @List.cons_append:=@List.cons_append
def Yf:type_of% @implies_true:=@implies_true
def Yg:type_of% @Int.le_refl:=@Int.le_refl
def Yh:type_of% @List.mem_singleton:=@List.mem_singleton
def Yi:type_of% @Nat.add_zero:=@Nat.add_zero
def Yj:type_of% @Nat.succ_mul:=@Nat.succ_mul
def Yk:type_of% @true_and:=@true_and
def Yl:type_of% @List.cons.injEq:=@List.cons.injEq
def Ym:type_of% @Nat.le_max_right:=@Nat.le_max_right
def Yn:type_of% @Bool.false_eq_true:=@Bool.false_eq_true
def Yo:type_of% @and_true:=@and_true
def Yp:type_of% @Nat.add_sub_cancel_left:=@Nat.add_sub_cancel_left
def Yq:type_of% @Nat.le_succ:=@Nat.le_succ
def Yr:type_of% @decide_eq_false:=@decide_eq_false
def Ys:type_of% @Bool.or_eq_true:=@Bool.or_eq_true
def Yt:type_of% @Nat.le_of_not_lt:=@Nat.le_of_not_lt
def Yu:type_of% @of_decide_eq_true:=@of_decide_eq_true
def Yv:type_of% @Nat.sub_zero:=@Nat.sub_zero
def Yw:type_of% @List.mem_map:=@List.mem_map
def Yx:type_of% @Option.map_eq_some_iff:=@Option.map_eq_some_iff
def Yy:type_of% @List.mem_append_right:=@List.mem_append_right
def Yz:type_of% @List.mem_of_mem_take:=@List.mem_of_mem_take
def YA:type_of% @List.mem_of_mem_drop:=@List.mem_of_mem_drop
def YB:type_of% @Bool.and_true:=@Bool.and_true
def YC:type_of% @Nat.zero_mul:=@Nat.zero_mul
def YD:type_of% @List.append_nil:=@List.append_nil
def YE:type_of% @if_true:=@if_true
def YF:type_of% @Addr.add_lit:=@Addr.add_lit
def YH:type_of% @List.take_append_drop:=@List.take_append_drop
def YI:type_of% @Nat.zero_le:=@Nat.zero_le
def YJ:type_of% @List.drop_zero:=@List.drop_zero
def YK:type_of% @List.mem_append_left:=@List.mem_append_left
def YL:type_of% @Oper.upon_value:=@Oper.upon_value
def YM:type_of% @Nat.max_eq_left:=@Nat.max_eq_left
def YP:type_of% @run_program:=@run_program
def YQ:type_of% @Nat.mod_eq_of_lt:=@Nat.mod_eq_of_lt
def YR:type_of% @wpIn_mono:=@wpIn_mono
def YS:type_of% @List.length_nil:=@List.length_nil
def YT:type_of% @List.getElem?_eq_none:=@List.getElem?_eq_none
def YU:type_of% @List.nodup_append:=@List.nodup_append
def YV:type_of% @List.getElem?_of_mem:=@List.getElem?_of_mem
def YW:type_of% @Bool.or_eq_false_iff:=@Bool.or_eq_false_iff
open Go.RowKit
inductive T (α:Type) where
 |e:T α
 |n (v:Bb α) (a b c d:T α):T α
abbrev Ao:=T Av
inductive K where
 |z:K
 |a (k:K):K
 |b (k:K):K
 |c (k:K):K
 |d (k:K):K
def K.A (p:K)(r:Nat):K:=Nat.rec (motive:=λ_=>K) (.a p) (λr _=>Nat.rec (motive:=λ_=>K) (.b p) (λr _=>Nat.rec (motive:=λ_=>K) (.c p) (λ_ _=>.d p) r) r) r
def K.F (f:Nat):Nat->K:=
 Nat.rec (motive:=λ_=>Nat->K) (λ_=>.z) (λ_ e k=>Nat.rec (motive:=λ_=>K) .z (λm _=>K.A (e<|Nat.div m 4)<|Nat.mod m 4) k) f
def K.H (k:Nat):K:=K.F (k+1) k
def T.A {h g:Type}(t:T h)(f:T h->g):g:=T.rec (motive:=λ_=>g) (f .e) (λv a b c d _ _ _ _=>f<|.n v a b c d) t
def T.F {a b:Type}(t:T a)(f:T a->b):t.A f=f t:=by cases t<;>rfl
def ZB:type_of% @T.F:=@T.F
def T.L {a:Type}(t:T a):Bb a:=T.rec (motive:=λ_=>Bb a) none (λv _ _ _ _ _ _ _ _=>v) t
def T.R {b:Type}(t:T b):T b:=T.rec (motive:=λ_=>T b) .e (λ_ a _ _ _ _ _ _ _=>a) t
def T.O {a:Type}(t:T a):T a:=T.rec (motive:=λ_=>T a) .e (λ_ _ b _ _ _ _ _ _=>b) t
def T.Q {a:Type}(t:T a):T a:=T.rec (motive:=λ_=>T a) .e (λ_ _ _ c _ _ _ _ _=>c) t
def T.S {a:Type}(t:T a):T a:=T.rec (motive:=λ_=>T a) .e (λ_ _ _ _ d _ _ _ _=>d) t
def T.I {b:Type}(p:K):T b->Bb b:=
 K.rec (motive:=λ_=>T b->Bb b) (λt=>t.L) (λ_ a t=>a t.R) (λ_ a t=>a t.O) (λ_ a t=>a t.Q) (λ_ a t=>a t.S) p
def T.l {a:Type}(t:T a)(k:Nat):Bb a:=T.I (K.H k) t
def T.U {f:Type}(x:Bb f)(t:T f):T f:=T.rec (motive:=λ_=>T f) (.n x .e .e .e .e) (λ_ a b c d _ _ _ _=>.n x a b c d) t
def T.puta {f:Type}(g:Bb f->T f->T f)(x:Bb f)(t:T f):T f:=
 T.rec (motive:=λ_=>T f) ((g x .e).A λs=>.n none s .e .e .e) (λv a b c d _ _ _ _=>(g x a).A λs=>.n v s b c d) t
def T.putb {f:Type}(g:Bb f->T f->T f)(x:Bb f)(t:T f):T f:=
 T.rec (motive:=λ_=>T f) ((g x .e).A λs=>.n none .e s .e .e) (λv a b c d _ _ _ _=>(g x b).A λs=>.n v a s c d) t
def T.putc {f:Type}(g:Bb f->T f->T f)(x:Bb f)(t:T f):T f:=
 T.rec (motive:=λ_=>T f) ((g x .e).A λs=>.n none .e .e s .e) (λv a b c d _ _ _ _=>(g x c).A λs=>.n v a b s d) t
def T.putd {f:Type}(g:Bb f->T f->T f)(x:Bb f)(t:T f):T f:=
 T.rec (motive:=λ_=>T f) ((g x .e).A λs=>.n none .e .e .e s) (λv a b c d _ _ _ _=>(g x d).A λs=>.n v a b c s) t
def T.C {b:Type}(p:K):Bb b->T b->T b:=
 K.rec (motive:=λ_=>Bb b->T b->T b) T.U (λ_ a=>T.puta a) (λ_ a=>T.putb a) (λ_ a=>T.putc a) (λ_ a=>T.putd a) p
def T.m {a:Type}(t:T a)(k:Nat)(x:Bb a):T a:=T.C (K.H k) x t
def B0 {a b:Nat}(h:a≠b):Nat.beq a b=false:=by cases e:Nat.beq a b;rfl;exact absurd (WO e) h
def w9 {a b:Nat}(h:a=b):Nat.beq a b:=by subst h;exact Nat.beq_refl _
def T.D {f:Type}:∀p:K,T.I p (.e:T f)=none
 | .z=>rfl| .a p=>T.D p| .b p=>T.D p| .c p=>T.D p| .d p=>T.D p
def T.N {a:Type}(k:Nat):(T.e:T a).l k=none:=T.D _
def ZC:type_of% @T.N:=@T.N
theorem T.J {i:Type}(x:Bb i):∀(p:K) (t:T i) (q:K),(p=q->T.I q (T.C p x t)=x)/\(p≠q->T.I q (T.C p x t)=T.I q t):=by
 intro p;induction p with
 |z=>
  intro t q;refine⟨λh=>by subst h;cases t<;>rfl,λh=>?_⟩;cases q with
  |z=>grind|_=>cases t<;>rfl
 |a p f=>
  intro t q;have e:T.C (.a p) x t=T.n t.L (T.C p x t.R) t.O t.Q t.S:=by
   cases t with
   |e=>exact ZB (T.C p x .e)<|λs=>T.n none s .e .e .e|n v a b c d=>exact ZB (T.C p x a)<|λs=>T.n v s b c d
  rw[e];cases q with
  |a q=>exact⟨λh=>(f t.R q).1<|by grind,λh=>(f t.R q).2<|λg=>h<|by grind⟩|_=>exact⟨λh=>(by grind),λ_=>rfl⟩
 |b p f=>
  intro t q;have e:T.C (.b p) x t=T.n t.L t.R (T.C p x t.O) t.Q t.S:=by
   cases t with
   |e=>exact ZB (T.C p x .e)<|λs=>T.n none .e s .e .e|n v a b c d=>exact ZB (T.C p x b)<|λs=>T.n v a s c d
  rw[e];cases q with
  |b q=>exact⟨λh=>(f t.O q).1<|by grind,λh=>(f t.O q).2<|λg=>h<|by grind⟩|_=>exact⟨λh=>(by grind),λ_=>rfl⟩
 |c p f=>
  intro t q;have e:T.C (.c p) x t=T.n t.L t.R t.O (T.C p x t.Q) t.S:=by
   cases t with
   |e=>exact ZB (T.C p x .e)<|λs=>T.n none .e .e s .e|n v a b c d=>exact ZB (T.C p x c)<|λs=>T.n v a b s d
  rw[e];cases q with
  |c q=>exact⟨λh=>(f t.Q q).1<|by grind,λh=>(f t.Q q).2<|λg=>h<|by grind⟩|_=>exact⟨λh=>(by grind),λ_=>rfl⟩
 |d p f=>
  intro t q;have e:T.C (.d p) x t=T.n t.L t.R t.O t.Q (T.C p x t.S):=by
   cases t with
   |e=>exact ZB (T.C p x .e)<|λs=>T.n none .e .e .e s|n v a b c d=>exact ZB (T.C p x d)<|λs=>T.n v a b c s
  rw[e];cases q with
  |d q=>exact⟨λh=>(f t.S q).1<|by grind,λh=>(f t.S q).2<|λg=>h<|by grind⟩|_=>exact⟨λh=>(by grind),λ_=>rfl⟩
def K.t (p:K)(r:Nat):K.A p r=if r=0 then .a p else if r=1 then .b p else if r=2 then .c p else .d p:=by
 match r with
 |0=>rfl|1=>rfl|2=>rfl|r+3=>rfl
theorem K.C {p q:K}{r s:Nat}(e:r<4)(f:s<4)(h:K.A p r=K.A q s):p=q/\r=s:=by rw[K.t,K.t]at h;grind
def K.D :∀(f g j k:Nat),j<f->k<g->K.F f j=K.F g k->j=k:=by
 intro f;induction f with
 |zero=>omega|succ f m=>
  intro g j k o q h;cases g with
  |zero=>omega|succ g=>
   have e:∀(p:K) (r:Nat),K.A p r≠ .z:=λp r=>by rw[K.t];grind
   cases j with
   |zero=>
    cases k with
    |zero=>rfl|succ k=>exact absurd h.symm<|e _ _
   |succ j=>
    cases k with
    |zero=>exact absurd h<|e _ _|succ k=>let⟨l,n⟩:=K.C (Nat.mod_lt _<|by omega) (Nat.mod_lt _<|by omega) h;have:=m g (j/4) (k/4) (by omega) (by omega) l;omega
def T.H {a:Type}(t:T a)(k:Nat)(x:Bb a)(j:Nat):(t.m k x).l j=if j=k then x else t.l j:=by let⟨b,c⟩:=T.J x (K.H k) t<|K.H j;by_cases h:j=k;subst h;rw[Xg rfl];exact b rfl;rw[Xd h];exact c<|λe=>h (K.D _ _ _ _ (by omega) (by omega) e).symm
def ZD:type_of% @T.H:=@T.H
structure Pl where
 d:Nat
 f:Nat
 g:Nat
 h:Nat
structure Sg where
 f:Nat->Nat->Bb Pl
abbrev Sg.z (σ:Sg)(i:Nat):Bb Pl:=σ.f i 0
instance : CoeFun Sg (λ_=>Nat->Bb Pl):=⟨Sg.z⟩
def Sg.t (b a:Sg):Prop:=∀(i:Nat) (p:Pl) {r:Nat},b.f i r=p->a.f i r=p
def Sg.m (a:Sg):Sg.t a a:=λ_ _ {_} h=>h
def Sg.g {a b c:Sg}(h:Sg.t a b)(k:Sg.t b c):Sg.t a c:=λi p {_} e=>k i p<|h i p e
structure Sg.j (n n':Nat)(σ σ':Sg):Prop where
 d:Sg.t σ σ'
 f:∀i,i<n->σ' i=σ i
 g:n<=n'
def Sg.C (n:Nat)(a:Sg):Sg.j n n a a:=⟨Sg.m a,λ_ _=>rfl,Xh n⟩
def Zy:type_of% @Sg.C:=@Sg.C
variable {n:Nat}
def Sg.q {d e:Nat}{a b c:Sg}(h:Sg.j n d a b)(k:Sg.j d e b c):Sg.j n e a c:=
 ⟨Sg.g h.d k.d,λi f=>(k.f i (by have:=h.g;omega)).trans<|h.f i f,Ya h.g k.g⟩
def Zz:type_of% @Sg.q:=@Sg.q
def unk :Nat:=9223372036854775808
def R7 (c:Nat):Nat:=c/unk-1
def I0 (c:Nat):Nat:=c % unk
def i4 (b a:Nat):Nat:=unk*(b+1)+a
def K9 {b a:Nat}(h:a<unk):R7 (i4 b a)=b:=by rw[R7,i4];unfold unk at*;omega
def J4 {b a:Nat}(h:a<unk):I0 (i4 b a)=a:=by rw[I0,i4];unfold unk at*;omega
def y5 (b a:Nat):unk<=i4 b a:=by rw[i4,unk];omega
def Wq :I0 unk=0:=by decide
def I8 :0<unk:=by decide
def Gq :FloatKind->Nat->IntKind
 | .f32,0=>.u32| .f32,1=>.u64| .f32,_=>.u8| .f64,_=>.i64
def bU (f:FloatKind)(a:Nat):IntKind:=Gq f<|a/18446744073709551616
def jI (a:Nat):Nat:=a % 18446744073709551616
def DS (a:Nat):jI a<=a:=Nat.mod_le _ _
inductive VR (σ:Sg):Av->Av->Prop
 |J (b:Bool):VR σ (.bool b) (.bool b)
 |H (k:IntKind) (n:Int):VR σ (.int k n) (.int k n)
 |float (k:FloatKind) (n:Nat):VR σ (.float k n) (.float k n)
 |Q (f:FloatKind) (lo hi n:Nat) (h1:jI lo<=n) (h2:hi=0\/n<hi):VR σ (.complex f lo hi) (.int (bU f lo) n)
 |I (s:ByteArray):VR σ (.string s) (.string s)
 |nilp:VR σ (.pointer none) (.pointer none)
 |R (i o:Nat) (p:Pl) (h:σ i=some p):VR σ (.pointer<|some ⟨i,o,none⟩) (.pointer<|some ⟨p.d,p.f+o,none⟩)
 |rptr (k o:Nat) (p:Pl) (h:σ.f 0 (k+1)=some p):VR σ (.pointer<|some ⟨k,o,some 1⟩) (.pointer<|some ⟨p.d,o,none⟩)
 |nils (l c:Nat):VR σ (.slice none l c) (.slice none l c)
 | F (i o : Nat) (p : Pl) (l c c' : Nat) (h : σ i = some p) (hc : (c = c' ∧ c < unk) ∨ (unk ≤ c ∧ R7 c ≤ c' ∧ (I0 c = 0 ∨ c' < I0 c) ∧ p.f + o + c' * p.h ≤ p.g)) (hl : l ≤ c') :
   VR σ (.slice (some ⟨i,o,none⟩) l c) (.slice (some ⟨p.d,p.f+o,none⟩) l c')
 |L (q:Addr) (c':Nat):VR σ (.slice (some ⟨0,0,some 0⟩) 0 unk) (.slice (some q) 0 c')
 |nilm:VR σ (.map none) (.map none)
 |map (i:Nat) (p:Pl) (h:σ i=some p):VR σ (.map<|some i) (.map<|some p.d)
 | func (fn : Fn) (xs ys cs ds : Al) (h1 : xs.size = ys.size) (h2 : ∀ (i : Nat) x y, xs[i]? = some x → ys[i]? = some y → VR σ x y)
   (h3:cs.size=ds.size) (h4:∀(i:Nat) x y,cs[i]? =some x->ds[i]? =some y->VR σ x y):VR σ (.func fn xs cs) (.func fn ys ds)
 |nilf:VR σ .nilFunc .nilFunc
 |U (i:Nat) (p:Pl) (h:σ i=some p):VR σ (.chan<|some i) (.func (.yield p.d) #[] #[])
 |iface (t:Ax) (v u:Av) (h:VR σ v u):VR σ (.iface t v) (.iface t u)
 |nili:VR σ .nilIface .nilIface
 |agg (xs ys:Al) (h1:xs.size=ys.size) (h2:∀(i:Nat) x y,xs[i]? =some x->ys[i]? =some y->VR σ x y):VR σ (.agg xs) (.agg ys)
 |S (xs ys:Al) (h1:xs.size=ys.size) (h2:∀(i:Nat) x y,xs[i]? =some x->ys[i]? =some y->VR σ x y):VR σ (.tuple xs) (.tuple ys)
variable {Z X:Sg}
def VR.N (e:Sg.t Z X){a b:Av}(h:VR Z a b):VR X a b:=by
 induction h with
 |J b=>exact .J b|H k n=>exact .H k n|float k n=>exact .float k n|Q f E C n d z=>exact .Q f E C n d z|I s=>exact .I s|nilp=>exact .nilp|R i o p h=>exact .R i o p<|e _ _ h|rptr k o p h=>exact .rptr k o p<|e _ _ h|nils l c=>exact .nils l c|F i o p l c m h B D=>exact .F i o p l c m (e _ _ h) B D|L q m=>exact .L q m|nilm=>exact .nilm|map i p h=>exact .map i p<|e _ _ h|func fn xs j x y d _ A _ r w=>exact .func fn xs j x y d r A w|nilf=>exact .nilf|U i p h=>exact .U i p<|e _ _ h|iface t v u _ g=>exact .iface t v u g|nili=>exact .nili|agg xs j d _ g=>exact .agg xs j d g|S xs j d _ g=>exact .S xs j d g
def VR.undef (Z:Sg):VR Z undef undef:= .S _ _ rfl (λi x y h _=>by simp at h)
def VRL (Z:Sg)(xs a:Af):Prop:=xs.length=a.length/\ ∀(i:Nat) x y,xs[i]? =some x->a[i]? =some y->VR Z x y
def VRL.C (Z:Sg):VRL Z [] []:=⟨rfl,λi x y h _=>by simp at h⟩
def ZN:type_of% @VRL.C:=@VRL.C
variable {x:Av}{xs Y:Af}
theorem VRL.A {y:Av}(h:VR Z x y)(c:VRL Z xs Y):VRL Z (x::xs) (y::Y):=by
 refine⟨by simp[c.1],λi a b d e=>?_⟩;cases i with
 |zero=>grind|succ i=>exact c.2 i a b d e
def ZM:type_of% @VRL.A:=@VRL.A
theorem VRL.d (h:VRL Z (x::xs) Y):∃y c,Y=y::c/\VR Z x y/\VRL Z xs c:=by
 cases Y with
 |nil=>exact absurd h.1 (by simp)|cons y Y=>exact⟨y,Y,rfl,h.2 0 x y rfl rfl,by have:=h.1;simpa using this,λi a b d e=>h.2 (i+1) a b (by grind)<|by grind⟩
def VRL.l (h:VRL Z [] Y):Y=[]:=WP h.1.symm
variable {a:Af}
def VRL.m (c:Sg.t Z X){b:Af}(h:VRL Z a b):VRL X a b:=⟨h.1,λi x y d e=>(h.2 i x y d e).N c⟩
def VRL.f {b c d:Af}(h:VRL Z a b)(k:VRL Z c d):VRL Z (a++c) (b++d):=by
 induction a generalizing b with
 |nil=>rw[h.l];exact k|cons x a g=>obtain⟨y,i,rfl,e,f⟩:=h.d;exact ZM e<|g f
variable {i:Nat}
def VRL.D {b:Af}(h:VRL Z a b)(c:a[i]? =x):∃y,b[i]? =some y/\VR Z x y:=by
 have e:i<b.length:=by rw[<-h.1];exact (WM.1 c).1
 exact⟨b[i],by grind,h.2 i x _ c<|by simp⟩
variable {v:Av}
theorem VRL.s {a:Al}(h:VR Z (.agg a) v):∃b,v= .agg b/\VRL Z a.toList b.toList:=by
 cases h with
 |agg _ Y d c=>exact⟨Y,rfl,by omega,λi x y e f=>c i x y (by grind)<|by grind⟩
def ZO:type_of% @VRL.s:=@VRL.s
theorem VRL.j {b:Af}(h:VRL Z a b):VR Z (.agg a.toArray) (.agg b.toArray):=
 .agg _ _ (by simpa using h.1) (λi x y c d=>h.2 i x y (by grind)<|by grind)
theorem VRL.t {a:Al}(h:VR Z (.tuple a) v):∃b,v= .tuple b/\VRL Z a.toList b.toList:=by
 cases h with
 |S _ Y d c=>exact⟨Y,rfl,by omega,λi x y e f=>c i x y (by grind)<|by grind⟩
theorem VRL.h {b:Af}(h:VRL Z a b):VR Z (.tuple a.toArray) (.tuple b.toArray):=
 .S _ _ (by simpa using h.1) (λi x y c d=>h.2 i x y (by grind)<|by grind)
variable {u:Av}
def VR.O (h:VR Z v u):VRL Z v.cells.toList u.cells.toList:=by
 cases h with
 |agg xs Y a d=>exact⟨by simpa [Value.cells]using a,λi x y A B=>d i x y (by simpa [Value.cells]using A)<|by simpa [Value.cells]using B⟩|J b=>exact ZM (.J b)<|ZN Z|H k n=>exact ZM (.H k n)<|ZN Z|float k n=>exact ZM (.float k n)<|ZN Z|Q f C w n a d=>exact ZM (.Q f C w n a d)<|ZN Z|I s=>exact ZM (.I s)<|ZN Z|nilp=>exact ZM .nilp<|ZN Z|R i o p h=>exact ZM (.R i o p h)<|ZN Z|rptr k o p h=>exact ZM (.rptr k o p h)<|ZN Z|nils l c=>exact ZM (.nils l c)<|ZN Z|F i o p l c e h r z=>exact ZM (.F i o p l c e h r z)<|ZN Z|L q e=>exact ZM (.L q e)<|ZN Z|nilm=>exact ZM .nilm<|ZN Z|map i p h=>exact ZM (.map i p h)<|ZN Z|func fn xs Y cs g a d j m=>exact ZM (.func fn xs Y cs g a d j m)<|ZN Z|nilf=>exact ZM .nilf<|ZN Z|U i p h=>exact ZM (.U i p h)<|ZN Z|iface t v u h=>exact ZM (.iface t v u h)<|ZN Z|nili=>exact ZM .nili<|ZN Z|S xs Y a d=>exact ZM (.S xs Y a d)<|ZN Z
def VR.oneCell (h:VR Z v u)(hv:v.oneCell'):u.oneCell':=by cases h<;>first|rfl| (simp[Value.oneCell']at hv)
inductive Blk where
 |cells (c:Ao) (n:Nat) (elem esz:Nat)
 |ro (c:Ao) (n:Nat) (elem esz:Nat)
 |sit (s:ByteArray) (pos:Nat)
 |map (es:List (Av×Av)) (reg:Bool)
 |loop (st:LoopState) (pend:Bb Code) (nt:Nat) (tms:Ao) (params:Array Tmp) (assign body:Code) (db:Nat)
 |dfr
 |reg (c:Ao) (n elem esz:Nat)
abbrev Ac:=Nat ->Bb Blk
structure Hp where
 m:T Blk
 d:Nat
def BR (Z:Sg)(p:Pl):Blk->Obj->Prop
 | .cells c n e z,o=>∃C,o= .cells C e (0,0)/\p.h=z/\C.size=p.g/\p.f+n<=p.g/\ ∀j,j<n-> ∃v u,c.l j=some v/\C[p.f+j]? =some u/\VR Z v u| .ro c n e z,o=>∃C f,o= .cells C e f/\p.h=z/\C.size=p.g/\p.f+n<=p.g/\ ∀j v,j<n->c.l j=some v-> ∃u,C[p.f+j]? =some u/\VR Z v u| .sit s g,o=>o= .stringIter s g/\p.f=0| .dfr,o=>o= .deferred (some [])| .reg _ _ _ _,_=>False
 | .loop  t    d  m   h params assign body  l, o => ∃ r, o = .loop r ∧ r.state =  t ∧ r.pending =    d ∧ r.params = params ∧ r.assign = assign ∧ r.body = body ∧
   (r.tmps.size=m/\ ∀k,VR Z ((h.l k).getD undef)<|r.tmps.getD k undef)/\ ∃q,Z l=some q/\q.d=r.defers
 | .map  i reg, o => ∃    a     b, o = .map    a     b ∧    a.size =  i.length ∧ (∀ (j : Nat) x e,  i[j]? = some x →    a[j]? = some e → VR Z x.1 e.key ∧ VR Z x.2 e.val) ∧
   (reg->b=a.size/\ ∀(j:Nat) e,a[j]? =some e->e.born=j)
variable {p:Pl}{b:Blk}{o:Obj}
def BR.d (t:Sg.t Z X)(h:BR Z p b o):BR X p b o:=by
 cases b with
 |cells c n e z=>let⟨C,i,l,d,m,y⟩:=h;exact⟨C,i,l,d,m,λj B=>let⟨v,u,a,b,c⟩:=y j B;⟨v,u,a,b,c.N t⟩⟩
 |ro c n e z=>let⟨C,f,i,l,d,m,y⟩:=h;exact⟨C,f,i,l,d,m,λj v B hv=>let⟨u,b,c⟩:=y j v B hv;⟨u,b,c.N t⟩⟩
 |sit s K=>exact h|dfr=>exact h|reg c n e z=>exact h|loop P F O L params assign body M=>let⟨r,i,l,d,m,y,G,⟨H,I⟩,q,J,A⟩:=h;exact⟨r,i,l,d,m,y,G,⟨H,λk=>(I k).N t⟩,q,t _ _ J,A⟩
 |map N reg=>let⟨w,g,i,l,d,m⟩:=h;exact⟨w,g,i,l,λj x e E D=>⟨(d j x e E D).1.N t,(d j x e E D).2.N t⟩,m⟩
structure BS where
 B:Nat->Prop
 D:Nat->Prop
 f:∀k,D k->B k
instance : CoeFun BS (λ_=>Nat->Prop):=⟨BS.B⟩
def BS.d (w:Bc):BS:=⟨(· <w.heap.size),λ_=>False,λ_ h=>h.elim⟩
def NB (B:BS)(k:Nat):Blk->Prop
 | .ro _ _ _ _=>B.D k|_=>¬B k
def fQ :Blk->Bool
 | .ro _ _ _ _=>true|_=>false
variable {B:BS}{k:Nat}
def NB.f (h:NB B k b)(a:fQ b=false):¬B k:=by cases b<;>first|exact h| (cases a)
def NB.d (h:NB B k b)(a:fQ b=true):B.D k:=by cases b<;>first|exact h| (cases a)
def NB.g (h:¬B k)(a:fQ b=false):NB B k b:=by cases b<;>first|exact h| (cases a)
def NB.j {B':BS}(h:NB B k b)(a:B.D k->B'.D k)(c:¬B k-> ¬B' k):NB B' k b:=by cases b<;>first|exact a h|exact c h
def NB.h {c:Blk}(h:NB B k b)(d:fQ b=false)(a:fQ c=false):NB B k c:= .g (h.f d) a
def rdC :Blk->Bb (Ao×Nat×Nat)
 | .cells c n _ z=>some (c,n,z)| .ro c n _ z=>some (c,n,z)|_=>none
def nM :Blk->Bool
 | .reg _ _ _ _=>true|_=>false
def Ix :Blk->Nat->Prop
 | .reg _ n _ _,r=>1<=r/\r<=n|_,r=>r=0
def BX (Z:Sg)(p:Pl)(r:Nat):Blk->Obj->Prop
 | .reg c _ e z,o=>∃C,o= .cells C e (0,0)/\C.size=z/\ ∀j,j<z-> ∃v u,c.l ((r-1)*z+j)=some v/\C[j]? =some u/\VR Z v u|b,o=>BR Z p b o
variable {r:Nat}
def Ix.d (h:nM b=false):Ix b r↔r=0:=by cases b<;>first|exact Iff.rfl|cases h
def Zf:type_of% @Ix.d:=@Ix.d
def BX.f (h:nM b=false):BX Z p r b o↔BR Z p b o:=by cases b<;>first|exact Iff.rfl|cases h
def BX.d (f:Sg.t Z X)(h:BX Z p r b o):BX X p r b o:=by
 cases d:nM b with
 |false=>exact(BX.f d).2 (((BX.f d).1 h).d f)|true=>
  cases b with
  |reg c n e z=>let⟨C,g,i,k⟩:=h;exact⟨C,g,i,λj l=>let⟨v,u,a,b,c⟩:=k j l;⟨v,u,a,b,c.N f⟩⟩
  |_=>cases d
structure HR (B:BS)(w0:Bc)(Z:Sg)(hp:Hp)(w:Bc):Prop where
 R:w.os=w0.os
 l:w.tape=w0.tape
 d:w.output=w0.output
 g:w0.heap.size<=w.heap.size
 C:∀k,B k->k<w0.heap.size
 h:∀k,B k->w.heap[k]? =w0.heap[k]?
 H:∀i r,hp.d<=i->Z.f i r=none
 z:∀i b r,hp.m.l i=some b->Ix b r-> ∃p o,Z.f i r=some p/\NB B p.d b/\w.heap[p.d]? =some o/\BX Z p r b o
 O:∀i j b b' r s p q,hp.m.l i=some b->hp.m.l j=some b'->Ix b r->Ix b' s->i≠j\/r≠s->Z.f i r=some p->Z.f j s=some q->p.d≠q.d
 Q:∀i b,hp.m.l i=some b->nM b=true->(∃p,Z i=some p)/\ ∀r,r≠0-> ¬Ix b r->Z.f i r=none
variable {w X:Bc}{Y:Hp}
def HR.A (h:HR B X Z Y w)(i:Nat)(a:Y.d<=i):Z i=none:=h.H i 0 a
def HR.t (h:HR B X Z Y w)(i:Nat)(b:Blk)(g:Y.m.l i=some b)(a:nM b=false:=by rfl):∃p o,Z i=some p/\NB B p.d b/\w.heap[p.d]? =some o/\BR Z p b o:=by let⟨p,o,c,d,e,f⟩:=h.z i b 0 g<|(Zf a).2 rfl;exact⟨p,o,c,d,e,(BX.f a).1 f⟩
def HR.inj (h:HR B X Z Y w)(i j:Nat)(b a:Blk)(p q:Pl)(g:Y.m.l i=b)(k:Y.m.l j=a)(d:i≠j)(e:Z i=p)(l:Z j=q)(f:nM b=false:=by rfl)(c:nM a=false:=by rfl):p.d≠q.d:=h.O i j b a 0 0 p q g k ((Zf f).2 rfl) ((Zf c).2 rfl) (.inl d) e l
variable {c:Ao}
def HR.L (h:HR B X Z Y w){e z:Nat}(q:Y.m.l i=some (.cells c n e z)):∃p C,Z i=some p/\p.h=z/\ ¬B p.d/\w.heap[p.d]? =some (.cells C e (0,0))/\C.size=p.g/\p.f+n<=p.g/\ ∀j,j<n-> ∃v u,c.l j=some v/\C[p.f+j]? =some u/\VR Z v u:=by obtain⟨p,o,a,b,d,C,rfl,f,g,k,l⟩:=h.t i _ q;exact⟨p,C,a,f,b,d,g,k,l⟩
def HR.liveR (h:HR B X Z Y w){z:Nat}(d:Y.m.l i=b)(a:rdC b=(c,n,z)):∃p C e f,Z i=some p/\p.h=z/\w.heap[p.d]? =some (.cells C e f)/\C.size=p.g/\p.f+n<=p.g/\ ∀j v,j<n->c.l j=some v-> ∃u,C[p.f+j]? =some u/\VR Z v u:=by
 cases b with
 |cells g t e x=>cases a;let⟨p,C,k,l,_,q,y,r,s⟩:=h.L d;grind
 |ro g t e x=>cases a;obtain⟨p,o,k,l,q,C,f,rfl,r,s,A,D⟩:=h.t i _ d;grind
 |_=>cases a
def HR.drew (h:HR B X Z Y w):HR B X Z Y w.drew:=
 ⟨h.R,h.l,h.d,h.g,h.C,h.h,h.H,h.z,h.O,h.Q⟩
def fill (c:Ao):Nat->Af->Ao
 |_,[]=>c|k,v::vs=>fill (c.m k<|some v) (k+1) vs
def j6 :∀(vs:Af) (c:Ao) (k j:Nat),(fill c k vs).l j=if k<=j/\j<k+vs.length then vs[j-k]? else c.l j:=by
 intro vs;induction vs with
 |nil=>intro c k j;simp only[fill,YS,Yi];rw[af]
 |cons v vs a=>intro c k j;simp only[fill,a,ZD,XD];grind
def j8 (c:Ao):Nat->Nat->Bb (Af)
 |_,0=>some []|o,n+1=>match c.l o with
  |some v=>match j8 c (o+1) n with
   |some vs=>some<|v::vs|none=>none
  |none=>none
def u7 :∀ {n o:Nat} {vs:Af},j8 c o n=vs->vs.length=n/\ ∀j,j<n->vs[j]? =c.l (o+j):=by
 intro n;induction n with
 |zero=>intro o vs h;simp[j8]at h;subst h;exact(by grind)
 |succ n a=>intro o vs h;simp only[j8]at h;grind
variable {vs:Af}
def HR.I (h:HR B X Z Y w){z o m:Nat}(l:Y.m.l i=b)(t:rdC b=(c,n,z))(D:o+m<=n)(r:j8 c o m=vs)(a:Z i=p):∃d,VRL Z vs d/\d.length=m/\ ∀j u,d[j]? =some u->w.cell? ((⟨p.d,p.f+o,none⟩:Addr).add j)=some u:=by
 let⟨q,C,e,f,s,G,v,E,y,x⟩:=h.liveR l t;have:=Xk<|s.symm.trans a;subst this;let⟨k,g⟩:=u7 r;refine⟨(C.toList.drop<|q.f+o).take m,⟨?_,?_⟩,?_,?_⟩;grind;grind;grind
 .intro j u F;have A:j<m:=by grind
  rw[YF,cell_of_row w q.d _ C e f v];grind
def HR.cells (h:HR B X Z Y w){e z o m:Nat}(d:Y.m.l i=some (.cells c n e z))(g:o+m<=n)(f:j8 c o m=vs)(a:Z i=p):∃b,VRL Z vs b/\b.length=m/\ ∀j u,b[j]? =some u->w.cell? ((⟨p.d,p.f+o,none⟩:Addr).add j)=some u:=h.I d rfl g f a
end Go.Xe
namespace Go.Xe
open Go.RowKit
section
variable {B :BS}{X:Bc}{Z:Sg}{Y:Hp}{w:Bc}
def Sg.d (Z:Sg)(i:Nat)(p:Pl):Sg:=⟨λj r=>if j=i/\r=0 then some p else Z.f j r⟩
def Sg.h (Z:Sg)(i:Nat)(p:Pl):(Z.d i p).f i 0=some p:=by simp[Sg.d]
def Sg.s (Z:Sg)(i:Nat)(p:Pl):Z.d i p i=p:=Sg.h Z i p
def Zx:type_of% @Sg.s:=@Sg.s
def Sg.A (Z:Sg)(i:Nat)(p:Pl){j r:Nat}(h:j≠i\/r≠0):(Z.d i p).f j r=Z.f j r:=by rw[Sg.d];simp only;rw[af]
def Zw:type_of% @Sg.A:=@Sg.A
def Sg.l (Z:Sg)(i:Nat)(p:Pl){j:Nat}(h:j≠i):Z.d i p j=Z j:=Zw Z i p<|.inl h
def Zv:type_of% @Sg.l:=@Sg.l
variable {i:Nat}
def Sg.D {Z:Sg}(p:Pl)(h:Z i=none):Sg.t Z (Z.d i p):=by
 intro j q r b;have a:j≠i\/r≠0:=by by_cases e:j=i/\r=0;obtain⟨rfl,rfl⟩:=e;have h:Z.f j 0=none:=h;rw[h]at b;cases b;omega
 rw[Zw _ _ _ a];exact b
def ZA:type_of% @Sg.D:=@Sg.D
def HR.F (h:HR B X Z Y w)(d nx:Nat)(D:Z d=none)(U:Y.d<=nx)(S:d<nx)(b:Blk)(o:Obj)(p:Pl)(G:p.d=w.heap.size)(Q:BR (Z.d d p) p b o)(H:fQ b=false:=by rfl)(c:nM b=false:=by rfl):HR B X (Z.d d p) ⟨Y.m.m d<|some b,nx⟩ (w.alloc o):=by refine⟨h.R,h.l,h.d,by simp;have:=h.g;omega,h.C,λk K=>by rw[Below.heap_alloc _ _ _ (by have:=h.C k K;have:=h.g;omega)];exact h.h k K,?_,?_,?_,λi z e C=>?_⟩;intro i r a;have R:nx<=i:=a;rw[Zw _ _ _<|.inl<|by omega];exact h.H i r (by omega);intro i z r e n;simp only[ZD]at e;by_cases a:i=d;rw[Xg a]at e;simp only[WJ]at e;subst e;subst a;have:=(Zf c).1 n;subst this;refine⟨p,o,Zx _ _ _,.g (λP=>by have v:=h.C _ P;have J:=h.g;omega) H,?_,(BX.f c).2 Q⟩;rw[G];show(w.heap.push _)[w.heap.size]? =_;simp;rw[Xd a]at e;let⟨q,I,v,J,x,O⟩:=h.z i z r e n;refine⟨q,I,by rw[Zw _ _ _<|.inl a];exact v,J,?_,O.d (ZA (Z:=Z) (i:=d) p D)⟩;rw[Below.heap_alloc _ _ _ (WY.1 x).1];exact x;intro i j L M r s q q' a f n y F t g;simp only[ZD]at a f;by_cases u:i=d;rw[Xg u]at a;cases a;have A:=(Zf c).1 n;subst A;rw[u,Sg.h]at t;by_cases l:j=d;rw[Xg l]at f;cases f;have:=(Zf c).1 y;omega;rw[Xd l]at f;rw[Zw _ _ _<|.inl l]at g;let⟨r',I,v,_,x,_⟩:=h.z j M s f y;grind;rw[Xd u]at a;rw[Zw _ _ _<|.inl u]at t;by_cases l:j=d;rw[Xg l]at f;cases f;have A:=(Zf c).1 y;subst A;rw[l,Sg.h]at g;let⟨p',I,v,_,x,_⟩:=h.z i L r a n;grind;rw[Xd l]at f;rw[Zw _ _ _<|.inl l]at g;exact h.O i j _ _ r s q q' a f n y F t g;simp only[ZD]at e;by_cases a:i=d;grind;rw[Xd a]at e;let⟨⟨q,V⟩,W⟩:=h.Q i z e C;exact⟨⟨q,by rw[Zv _ _ _ a];exact V⟩,λr N n=>by rw[Zw _ _ _<|.inl a];exact W r N n⟩
def HR.allocAt (h:HR B X Z Y w)(b nx:Nat)(a:Z b=none)(g:Y.d<=nx)(f:b<nx)(c:Ao)(n e z:Nat)(d:Al)(q:n<=d.size)(l:∀j,j<n-> ∃v u,c.l j=some v/\d[j]? =some u/\VR Z v u):HR B X (Z.d b ⟨w.heap.size,0,d.size,z⟩) ⟨Y.m.m b<|some<|.cells c n e z,nx⟩ (w.alloc<|.cells d e):=by refine h.F b nx a g f _ _ _ rfl ⟨d,rfl,rfl,rfl,by grind,λj o=>?_⟩;let⟨v,u,i,p,k⟩:=l j o;exact⟨v,u,i,by grind,k.N<|ZA _ a⟩
def HR.alloc (h:HR B X Z Y w)(c:Ao)(n e z:Nat)(a:Al)(d:n<=a.size)(b:∀j,j<n-> ∃v u,c.l j=some v/\a[j]? =some u/\VR Z v u):HR B X (Z.d Y.d ⟨w.heap.size,0,a.size,z⟩) ⟨Y.m.m Y.d<|some<|.cells c n e z,Y.d+1⟩ (w.alloc<|.cells a e):=
 h.allocAt Y.d (Y.d+1) (h.A _<|Xh _) (Yq _) (Yd _) c n e z a d b
variable {p:Pl}
def HR.turn (h:HR B X Z Y w){b v:Blk}(J:Y.m.l i=some b)(L:Z i=p){o:Obj}{t:Bc}(hh:t.heap[p.d]? =o)(W:∀k,k≠p.d->t.heap[k]? =w.heap[k]?)(hs:t.heap.size=w.heap.size)(h1:t.os=w.os)(h2:t.tape=w.tape)(h3:t.output=w.output)(hb:BR Z p v o)(O:fQ b=false:=by rfl)(C:fQ v=false:=by rfl)(l:nM b=false:=by rfl)(g:nM v=false:=by rfl):HR B X Z {Y with m:=Y.m.m i<|some v} t:=by
 let⟨R,o',E,F,g4,g5⟩:=h.t i b J l;have U:=F.f O;have:R=p:=Xk<|E.symm.trans L;subst this;refine⟨h1.trans h.R,h2.trans h.l,h3.trans h.d,by rw[hs];exact h.g,h.C,λk A=>?_,h.H,?_,?_,λj y f H=>?_⟩;rw[W k<|λe=>U<|by rw[<-e];exact A];exact h.h k A;intro j y r f n;simp only[ZD]at f;by_cases d:j=i;rw[Xg d]at f;simp only[WJ]at f;subst f;subst d;have:=(Zf g).1 n;subst this;exact⟨R,o,E,.g U C,hh,(BX.f g).2 hb⟩;rw[Xd d]at f;let⟨q,oq,S,d2,d3,d4⟩:=h.z j y r f n;exact⟨q,oq,S,d2,by rw[W _<|h.O j i _ _ r 0 q R f J n ((Zf l).2 rfl) (.inl d) S E];exact d3,d4⟩
 .intro a c x y r s q q' u V n hy K M N;simp only[ZD]at u V;have D:∀a x r,(if a=i then some v else Y.m.l a)=some x->Ix x r-> ∃b,Y.m.l a=some b/\Ix b r:=λa x r u n=>by by_cases z:a=i;rw[Xg z]at u;simp only[WJ]at u;subst u;subst z;exact⟨_,J,(Zf l).2<|(Zf g).1 n⟩;grind
  let⟨_,G,P⟩:=D a x r u n;let⟨_,I,Q⟩:=D c y s V hy;exact h.O a c _ _ r s q q' G I P Q K M N
 simp only[ZD]at f;by_cases d:j=i;grind;rw[Xd d]at f;exact h.Q j y f H
variable {c:Ao}
def HR.J (h:HR B X Z Y w){n e z o:Nat}(y:Y.m.l i=some (.cells c n e z))(r:Z i=p){vs a:Af}(hv:VRL Z vs a)(J:∀u∈a,u.oneCell')(Q:o<=n)(R:p.f+o+vs.length<=p.g)(P:Aw):∃s,(storeCells ⟨p.d,p.f+o,none⟩ a).run P w= .ok () s/\HR B X Z {Y with m:=Y.m.m i<|some<|.cells (fill c o vs) (max n<|o+vs.length) e z} s/\s.heap.size=w.heap.size:=by
 let⟨b,C,t,G,M,x,H,N,I⟩:=h.L y;have:b=p:=Xk<|t.symm.trans r;subst this;refine⟨_,run_storeCells_at P b.d (b.f+o) e a 0 C w x (by rw[<-hv.1];omega) J,?_,by simp[World.setRow]⟩;have d:(C.toList.take (b.f+o)++a++C.toList.drop (b.f+o+a.length)).toArray.size=C.size:=by have:=hv.1;grind
 refine h.turn y t (setRow_heap w b.d C (C.toList.take (b.f+o)++a++C.toList.drop (b.f+o+a.length)).toArray e (0,0) x) (λk A=>setRow_other w _ k _ A) (by simp[World.setRow]) rfl rfl rfl ⟨_,rfl,G,by rw[d];exact H,by omega,λk A=>?_⟩;rw[j6];have O:=hv.1;by_cases f:o<=k/\k<o+vs.length
 .rw[Xg f];have g:k-o<vs.length:=by omega
  refine⟨vs[k-o],a[k-o],by simp[g],?_,hv.2 (k-o) _ _ (by simp[g])<|by simp[(by omega)]⟩;simp only[WX,List.getElem?_toArray];rw[WR<|by simp;omega,WS<|by simp;omega];grind
 .rw[Xd f];have q:k<n:=by omega
  let⟨v,u,D,E,F⟩:=I k q;refine⟨v,u,D,?_,F⟩;simp only[WX,List.getElem?_toArray];rw[<-E];by_cases K:k<o;grind;rw[WR<|by simp;omega,WR<|by simp;omega,Xx];grind
def HR.move (h:HR B X Z Y w){n e z o k:Nat}(P:Y.m.l i=some (.cells c n e z))(l:Z i=p)(hk:o+k<=n)(N:Ao)(hc:∀j,j<k->N.l j=c.l (o+j)):HR B X (Z.d Y.d ⟨p.d,p.f+o,p.g,p.h⟩) ⟨(Y.m.m i none).m Y.d<|some<|.cells N k e z,Y.d+1⟩ w:=by
 have G:=ZA (Z:=Z) (i:=Y.d) ⟨p.d,p.f+o,p.g,p.h⟩<|h.A _<|Xh _;let⟨g,C,g1,g2,g3,g4,g5,g6,g7⟩:=h.L P;have:g=p:=Xk<|g1.symm.trans l;subst this;have aa:i≠Y.d:=λe=>by rw[e,h.A _<|Xh _]at l;cases l
 refine⟨h.R,h.l,h.d,h.g,h.C,h.h,?_,?_,?_,λj E d F=>?_⟩;intro j r d;simp at d;rw[Zw _ _ _<|.inl<|by omega];exact h.H j r (by omega);intro j E r d t;simp only[ZD]at d;by_cases x:j=Y.d;rw[Xg x]at d;simp only[WJ]at d;subst d;subst x;have H:r=0:=t;subst H;refine⟨_,_,Zx _ _ _,g3,g4,C,rfl,g2,g5,by show g.f+o+k<=g.g;omega,λj d=>?_⟩;let⟨v,u,a1,a2,a3⟩:=g7 (o+j) (by omega);refine⟨v,u,by rw[hc j d];exact a1,?_,a3.N G⟩;grind;rw[Xd x]at d;by_cases O:j=i;grind;rw[Xd O]at d;let⟨q,oq,d1,d2,d3,d4⟩:=h.z j E r d t;exact⟨q,oq,by rw[Zw _ _ _<|.inl x];exact d1,d2,d3,d4.d G⟩
 .intro a b A E r s q V y hb t U Q R S;simp only[ZD]at y hb;have J:∀a A r q,(if a=Y.d then some (Blk.cells N k e z)else if a=i then none else Y.m.l a)=some A->Ix A r->(Z.d Y.d ⟨g.d,g.f+o,g.g,g.h⟩).f a r=some q->
    (a=Y.d/\r=0/\q.d=g.d)\/(a≠Y.d/\a≠i/\Y.m.l a=some A/\Z.f a r=some q):=by
   intro a A r q y t D;by_cases L:a=Y.d;rw[Xg L]at y;simp only[WJ]at y;subst y;subst L;have H:r=0:=t;subst H;have D:(Z.d Y.d ⟨g.d,g.f+o,g.g,g.h⟩) Y.d=some q:=D;rw[Zx]at D;grind;rw[Xd L]at y;rw[Zw _ _ _<|.inl L]at D;grind
  have I:Ix (.cells c n e z) 0:=rfl;rcases J a A r q y t R with⟨e1,W,K⟩| ⟨e1,W,K,e4⟩<;>obtain⟨k1,k2,M⟩| ⟨k1,k2,M,k4⟩:=J b E s V hb U S;omega;rw[K];exact h.O i b _ _ 0 s g V P M I U (.inl<|Ne.symm k2) l k4;rw[M];exact h.O a i _ _ r 0 q g K P t I (.inl W) e4 l;exact h.O a b _ _ r s q V K M t U Q e4 k4
 simp only[ZD]at d;by_cases x:j=Y.d;rw[Xg x,WJ]at d;subst d;cases F;rw[Xd x]at d;by_cases O:j=i;grind;rw[Xd O]at d;let⟨⟨q,D⟩,H⟩:=h.Q j E d F;exact⟨⟨q,by rw[Zv _ _ _ x];exact D⟩,λr h0 t=>by rw[Zw _ _ _<|.inl x];exact H r h0 t⟩
def HR.sub (h:HR B X Z Y w){a:Hp}(k:Y.d<=a.d)(c:∀i b,a.m.l i=some b->Y.m.l i=some b):HR B X Z a w:=
 ⟨h.R,h.l,h.d,h.g,h.C,h.h,λi r e=>h.H i r<|Ya k e,λi b r d=>h.z i b r<|c _ _ d,
  λi j b f r s p q e g=>h.O i j b f r s p q (c _ _ e)<|c _ _ g,λi b d=>h.Q i b<|c _ _ d⟩
end
structure TR (σ:Sg)(nt:Nat)(tm:Ao)(tmps:Al):Prop where
 f:tmps.size=nt
 g:∀k,VR σ ((tm.l k).getD undef)<|tmps.getD k undef
variable {Z:Sg}{W:Nat}{X:Ao}{tmps:Al}
def TR.d {a:Sg}(b:Sg.t Z a)(h:TR Z W X tmps):TR a W X tmps:=
 ⟨h.f,λk=>(h.g k).N b⟩
variable {v:Av}
theorem TR.j (h:TR Z W X tmps){d:Nat}(b:d<W){u:Av}(hv:VR Z v u):TR Z W (X.m d<|some v) (tmps.setIfInBounds d u):=by
 refine⟨by simpa using h.f,λk=>?_⟩;rw[ZD];by_cases a:k=d
 .subst a;have:k<tmps.size:=by rw[h.f];exact b
  simp_all
 rw[Xd a];have:=h.g k;simpa [Array.getElem?_setIfInBounds_ne (Ne.symm a)]using this
def sR :Av->Bool
 | .bool _| .int _ _| .float _ _| .string _| .pointer none| .slice none _ _| .map none| .nilFunc| .nilIface=>true
 |_=>false
def cst :Av->Bool
 | .agg a=>a.toList.all sR| .tuple vs=>vs.toList.all sR|v=>sR v
def Mc (Z:Sg)(h:sR v):VR Z v v:=by
 cases v with
 |bool b=>exact .J b|int k n=>exact .H k n|float k n=>exact .float k n|string s=>exact .I s|pointer a=>cases a with
  |none=>exact .nilp|some a=>simp[sR]at h
 |slice a l c=>cases a with
  |none=>exact .nils l c|some a=>simp[sR]at h
 |map r=>cases r with
  |none=>exact .nilm|some a=>simp[sR]at h
 |nilFunc=>exact .nilf|nilIface=>exact .nili|_=>simp[sR]at h
def wI (Z:Sg):∀ {vs:Af},vs.all sR->VRL Z vs vs
 | [],_=>ZN Z|v::vs,h=>by simp only[List.all_cons,WK]at h;exact ZM (Mc Z h.1)<|wI Z h.2
def fI (Z:Sg)(h:cst v):VR Z v v:=by
 cases v with
 |agg a=>have:=(wI Z<|h).j;simpa using this|tuple vs=>have:=(wI Z<|h).h;simpa using this|bool b=>exact .J b|int k n=>exact .H k n|float k n=>exact .float k n|string s=>exact .I s|nilFunc=>exact .nilf|nilIface=>exact .nili|_=>exact Mc Z h
def i7 (X:Ao):Az->Ag
 | .tmp t=>some<|(X.l t).getD undef| .const v=>bif cst v then some v else none| .global _=>none| .func f=>some<|.func (.func f) #[] #[]
def qV {a:Act}(h:TR Z W X a.tmps){x:Az}(b:i7 X x=v):VR Z v (a.eval x):=by
 cases x with
 |tmp t=>simp only[i7,WJ]at b;subst b;exact h.g t|const c=>
  simp only[i7]at b;cases d:cst c with
  |false=>grind|true=>simp[d]at b;subst b;exact fI Z d
 |global g=>simp[i7]at b|func f=>simp only[i7,WJ]at b;subst b;exact .func _ _ _ _ _ rfl (λi x y h _=>by grind) rfl (λi x y h _=>by grind)
def Y8 (X:Ao):List Az->Bb (Af)
 | []=>some []|x::xs=>match i7 X x with
  |some v=>match Y8 X xs with
   |some vs=>some<|v::vs|none=>none
  |none=>none
def bP :TypeDesc->Bool
 | .struct _| .array _ _=>true
 |_=>false
def uP (P:Aw)(t:Ax)(a:Af)(off:Nat):Ag:=
 match P.underlying t with
 |none=>none
 | some d => bif bP d then
   match P.info? t with
   |some i=>some<|.agg ((a.drop off).take i.size).toArray|none=>none
  else a[off]?
variable {P:Aw}
def bJ {t:Ax}{d:TypeDesc}(h:P.underlying t=d)(w:Bc):(isAgg t).run P w= .ok (bP d) w:=by simp only[isAgg,Xn,Xi h,Xj];cases d<;>rfl
def DG (a:Al)(off n:Nat):a.extract off (off+n)=((a.toList.drop off).take n).toArray:=by grind
def dJ {t:Ax}{xs:Af}{off:Nat}(h:uP P t xs off=v){c:Al}(g:VRL Z xs c.toList):∃u,VR Z v u/\ ∀w,(part t c off).run P w= .ok u w:=by
 rw[uP] at h;cases e:P.underlying t with
 |none=>grind|some d=>
  simp only[e]at h;cases b:bP d with
  |true=>
   simp only[b,Xa]at h;cases k:P.info? t with
   |none=>grind|some i=>simp only[k,WJ]at h;subst h;refine⟨.agg<|c.extract off<|off+i.size,?_,λw=>?_⟩;rw[DG];refine VRL.j ⟨by have:=g.1;simp at this⊢;omega,λj x y f a=>?_⟩;rw[Xr]at f a;by_cases l:j<i.size;rw[Xg l,Xx]at f a;exact g.2 _ x y f a;grind;simp only[part,Xn,bJ e,Xj,b,YE,sizeOf,typeInfo,YP,k,Xs]
  |false=>
   simp only[b,Xb]at h;let⟨u,m,hv⟩:=g.D h;refine⟨u,hv,λw=>?_⟩;rw[part];have:c[off]? =some u:=by grind
   simp only[Xn,bJ e,Xj,b,Yn,if_false,this,Xs]
def Bj (P:Aw)(d:Ax)(x:Av)(f:Nat):Ag:=
 match P.underlying d with
 |some (.struct c)=>match c.toList[f]? with
  |some a=>match x with
   | .agg b=>uP P a.type b.toList a.offset|_=>none
  |none=>none
 |_=>none
variable {x y:Av}
def Fz {b:Ax}{f:Nat}(h:Bj P b x f=v)(k:VR Z x y):∃u,VR Z v u/\ ∀w,(Instr.field b y f).run P w= .ok u w:=by
 rw[Bj] at h;split at h
 .rename_i d j;split at h
  .rename_i c n;split at h
   .rename_i l;obtain⟨m,rfl,i⟩:=ZO k;let⟨u,e,g⟩:=dJ h i;refine⟨u,e,λw=>?_⟩;have a:d[f]? =c:=by grind
    simp[Instr.field,Xi j,a,asAgg,g]
   cases h
  cases h
 cases h
def cG (x:Av)(i:Nat):Ag:=
 match x with
 | .tuple vs=>vs.toList[i]?|_=>none
def Bi {i:Nat}(h:cG x i=v)(d:VR Z x y):∃u,VR Z v u/\ ∀w,(Instr.extract y i).run P w= .ok u w:=by
 unfold cG at h;split at h
 .rename_i vs;obtain⟨a,rfl,c⟩:=VRL.t d;let⟨u,e,b⟩:=c.D h;refine⟨u,b,λw=>?_⟩;have:a[i]? =some u:=by grind
  simp[Instr.extract,this]
 cases h
def tD (P:Aw)(d:Ax)(x i:Av):Ag:=
 match i with
 | .int _ n=>match P.underlying d,x with
  | some (.array len e), .agg  a => bif decide (0 ≤ n) && decide (n < len) then
    match P.info? e with
    |some c=>uP P e a.toList<|n.toNat*c.size|none=>none
   else none
  | some .string, .string s => bif decide (0 ≤ n) then
    match s.data.toList[n.toNat]? with
    |some b=>some<|.int .u8 b.toNat|none=>none
   else none
  |_,_=>none
 |_=>none
def wO (s:ByteArray)(i:Nat):s[i]? =s.data.toList[i]? :=by let⟨⟨l⟩⟩:=s;rw[getElem?_def];by_cases h:i<l.length;have a:i<(ByteArray.mk ⟨l⟩).size:=h;rw[dif_pos a];simp[h];rfl;have a:¬i<(ByteArray.mk ⟨l⟩).size:=h;grind
def FA {g:Ax}{i j:Av}(h:tD P g x i=v)(f:VR Z x y)(p:VR Z i j):∃u,VR Z v u/\ ∀w,(Instr.index g y j).run P w= .ok u w:=by
 unfold tD at h;split at h
 .rename_i k n;cases p;split at h
  .rename_i len e r d;obtain⟨t,rfl,o⟩:=ZO f;cases a:decide (0<=n)&&decide (n<len)with
   |false=>grind|true=>simp only[a,Xa]at h;simp at a;split at h;rename_i z c;let⟨u,l,m⟩:=dJ h o;refine⟨u,l,λw=>?_⟩;simp[Instr.index,asIntOf,Xi d,a,sizeOf,typeInfo,c,m];cases h
  .rename_i s d;cases f;cases a:decide (0<=n)with
   |false=>grind|true=>
    simp only[a,Xa]at h;simp at a;split at h
    .rename_i b q;cases h;refine⟨_,.H _ _,λw=>?_⟩;have:s[n.toNat]? =b:=by rw[wO];exact q
     simp[Instr.index,asIntOf,Xi d,a,this]
    cases h
  cases h
 cases h
def splice (cells:Af)(off:Nat)(vs:Af):Af:=cells.take off++vs++cells.drop (off+vs.length)
def nC (a:Nat->Bb (Nat×Nat))(cells:Af):List (Nat×Av)->Bb (Af)
 | []=>some cells| (i,v)::rest=>match a i with
  |none=>none|some (off,size)=>bif Nat.beq v.cells.toList.length size&&Nat.ble (off+size) cells.length then nC a (splice cells off v.cells.toList) rest else none
def tX (off:Nat):∀(vs:Af) (k:Nat) (a:Al),off+k+vs.length<=a.size->((vs.zipIdx k).foldl (λ(a:Al) (p:Av×Nat)=>a.setIfInBounds (off+p.2) p.1) a).toList=splice a.toList (off+k) vs
 | [],k,a,h=>by simp[splice]|v::vs,k,a,h=>by simp;simp only[XD]at h;rw[tX off vs (k+1) (a.setIfInBounds (off+k) v) (by grind)];unfold splice;have:=list_seg_step a.toList (off+k) v vs (by omega);grind
def VRL.z {Z:Sg}{a b c d:Af}(h:VRL Z a b)(k:VRL Z c d)(off:Nat):VRL Z (splice a off c) (Xe.splice b off d):=by
 have l:VRL Z (a.take off) (b.take off):=⟨by simp[h.1],λi x y e f=>by rw[Xr]at e f;split at e;rename_i j;rw[Xg j]at f;exact h.2 i x y e f;cases e⟩
 have g:VRL Z (a.drop<|off+c.length) (b.drop<|off+d.length):=by rw[k.1];exact⟨by simp[h.1],λi x y e f=>by rw[Xx]at e f;exact h.2 _ x y e f⟩
 exact(l.f k).f g
def PVR (Z:Sg)(xs a:List (Nat×Av)):Prop:=xs.length=a.length/\ ∀(i:Nat) x y,xs[i]? =some x->a[i]? =some y->x.1=y.1/\VR Z x.2 y.2
variable {xs Y:List (Nat×Av)}
def PVR.d {x:Nat×Av}(h:PVR Z (x::xs) Y):∃u c,Y=(x.1,u)::c/\VR Z x.2 u/\PVR Z xs c:=by
 cases Y with
 |nil=>exact absurd h.1 (by simp)|cons y Y=>have d:=h.2 0 x y rfl rfl;exact⟨y.2,Y,by grind,d.2,by have:=h.1;simpa using this,λi a b e f=>h.2 (i+1) a b (by grind)<|by grind⟩
def PVR.f (h:PVR Z [] Y):Y=[]:=WP h.1.symm
def kP (a:Nat->Bb (Nat×Nat)):∀(xs:List (Nat×Av)) (Y:List (Nat×Av)) (cells r:Af) (c:Al),nC a cells xs=r->PVR Z xs Y->VRL Z cells c.toList-> ∃m,Instr.fill a c Y=some m/\VRL Z r m.toList:=by
 intro xs;induction xs with
 |nil=>intro Y cells r c h g e;rw[g.f];simp[nC]at h;subst h;exact⟨c,rfl,e⟩
 |cons x xs s=>
  intro Y cells r c h g e;obtain⟨u,l,rfl,q,j⟩:=g.d;let⟨i,v⟩:=x;simp only[nC]at h;simp only[Instr.fill];cases k:a i with
  |none=>grind|some t=>
   let⟨off,size⟩:=t;simp only[k]at h⊢;cases d:Nat.beq v.cells.toList.length size&&Nat.ble (off+size) cells.length with
   |false=>grind|true=>
    simp only[d,Xa]at h;simp only[WK]at d;have w:=WN d.2;have b:=q.O;have y:u.cells.size=size:=by rw[<-(WO d.1),b.1];simp
    have z:off+u.cells.size<=c.size:=by have:=e.1;simp at this;omega
    rw[Xd (by grind)];have o:(u.cells.zipIdx.foldl (λ(c:Al) (p:Av×Nat)=>c.setIfInBounds (off+p.2) p.1) c).toList=splice c.toList off u.cells.toList:=by rw[<-Array.foldl_toList,Array.toList_zipIdx];exact tX off u.cells.toList 0 c (by omega)
    refine s l _ r _ h j ?_;rw[o];exact e.z b off
def hU (P:Aw):List Field->Bb (List<|Nat×Nat)
 | []=>some []|f::a=>match P.info? f.type with
  |some i=>match hU P a with
   |some r=>some<|(f.offset,i.size)::r|none=>none
  |none=>none
def zZ {P:Aw}(w:Bc):∀ {a:List Field} {r:List (Nat×Nat)},hU P a=r->(a.mapM λf=>do pure (f.offset,<-sizeOf f.type):Sem (List<|Nat×Nat)).run P w= .ok r w
 | [],r,h=>by simp[hU]at h;subst h;simp|f::a,r,h=>by
  simp only[hU]at h;cases b:P.info? f.type with
  |none=>grind|some i=>
   cases c:hU P a with
   |none=>grind|some g=>
    simp[b,c]at h;have e:=zZ w c;have d:(sizeOf f.type).run P w= .ok i.size w:=by simp[sizeOf,typeInfo,b]
    simp_all
def T5 (P:Aw)(t:Ax):Ag:=match P.info? t with
 |some i=>match i.zero with
  |some z=>bif cst z then some z else none|none=>none
 |none=>none
def V0 {t:Ax}{z:Av}(h:T5 P t=z):cst z/\ ∀w,(zeroValue t).run P w= .ok z w:=by
 rw[T5] at h;split at h
 .rename_i i b;split at h
  .rename_i d c;cases a:cst d with
   |false=>grind|true=>simp only[a,Xa,WJ]at h;subst h;exact⟨a,λw=>by simp[zeroValue,typeInfo,b,c]⟩
  cases h
 cases h
def oN (P:Aw)(t:Ax)(a:List (Nat×Av)):Ag:=
 match T5 P t with
 |none=>none|some z=>match P.underlying t with
  |some (.struct d)=>match hU P d.toList with
   |some f=>match nC (λi=>f[i]?) z.cells.toList a with
    |some b=>some<|.agg b.toArray|none=>none
   |none=>none
  |some (.array _ e)=>match P.info? e with
   |some c=>match nC (λi=>some (i*c.size,c.size)) z.cells.toList a with
    |some b=>some<|.agg b.toArray|none=>none
   |none=>none
  |_=>none
def Fw {t:Ax}{Y:Array (Nat×Av)}(h:oN P t xs=v)(r:PVR Z xs Y.toList):∃u,VR Z v u/\ ∀w,(Instr.build t Y).run P w= .ok u w:=by
 unfold oN at h;split at h;cases h
 .rename_i z C;let⟨A,a⟩:=V0 C;have b:=(fI Z A).O;split at h
  .rename_i y p;split at h
   .rename_i q m;split at h
    .rename_i s j;cases h;let⟨c,d,g⟩:=kP _ _ _ _ _ _ j r b;refine⟨.agg c,by have:=g.j;simpa using this,λw=>?_⟩;have B:(y.mapM λf=>do pure (f.offset,<-sizeOf f.type):Sem (Array<|Nat×Nat)).run P w= .ok q.toArray w:=by rw[Array.mapM_eq_mapM_toList,Sem.run_map,zZ w m];rfl
     have k:(λx:Nat=>q.toArray[x]?)=λi:Nat=>q[i]? :=by grind
     simp only[Instr.build,Xn,a,Xj,Xi p,B,k,d,Xs]
    cases h
   cases h
  rename_i n e p;split at h;rename_i D l;split at h;rename_i s j;cases h;let⟨c,d,g⟩:=kP _ _ _ _ _ _ j r b;refine⟨.agg c,by have:=g.j;simpa using this,λw=>?_⟩;simp[Instr.build,a,Xi p,sizeOf,typeInfo,l,d];cases h;cases h;cases h
end Go.Xe
namespace Go.Xe
open Go.RowKit
def V9 (x:Av):Bb (IntKind×Nat×Nat):=
 match x with
 | .complex f a b=>some (bU f a,jI a,b)| .int k (.ofNat n)=>some (k,n,n+1)|_=>none
variable {X:Sg}{x Y:Av}{k:IntKind}
def aW {c a:Nat}(h:V9 x=(k,c,a))(b:VR X x Y):∃n:Nat,Y= .int k n/\c<=n/\(a=0\/n<a):=by unfold V9 at h;split at h;simp at h;cases b<;>grind;rename_i k n;cases b;grind;cases h
def cW (a b:Nat×Nat):Bb Bool:=
 bif !(Nat.beq a.2 0)&&Nat.ble a.2 b.1 then some true else bif !(Nat.beq b.2 0)&&Nat.ble b.2 (a.1+1)then some false else none
def cZ {a b:Nat×Nat}{r:Bool}(h:cW a b=r){n m:Nat}(g:a.1<=n)(i:a.2=0\/n<a.2)(j:b.1<=m)(k:b.2=0\/m<b.2):r=decide ((n:Int)<(m:Int)):=by
 rw[cW] at h;cases c: !(Nat.beq a.2 0)&&Nat.ble a.2 b.1 with
 |true=>
  rw[c,Xa]at h;simp only[WK]at c;have:=WN c.2;have f:a.2≠0:=λe=>by rw[e]at c;simp at c
  grind
 |false=>
  rw[c,Xb]at h;cases d: !(Nat.beq b.2 0)&&Nat.ble b.2 (a.1+1)with
  |true=>
   rw[d,Xa]at h;simp only[WK]at d;have:=WN d.2;have f:b.2≠0:=λe=>by rw[e]at d;simp at d
   grind
  |false=>grind
def fP (a b:Nat×Nat):Bool:=
 match cW a b with
 |some true=>true|_=>match cW b a with
  |some true=>true|_=>false
def ieqF (x y:Av):Bb Bool:=
 match V9 x,V9 y with
 |some (k,a),some (c,b)=>bif decide (k=c)&&fP a b then some false else none|_,_=>none
variable {y Z:Av}
def xP {b:Bool}(h:ieqF x y=b)(t:VR X x Y)(u:VR X y Z):b=false/\ ∃k n m,Y= .int k n/\Z= .int k m/\n≠m:=by
 rw[ieqF] at h;split at h
 .rename_i k a v c r s;let⟨l,o⟩:=a;let⟨p,q⟩:=c;obtain⟨n,rfl,i,j⟩:=aW r t;obtain⟨m,rfl,m1,g⟩:=aW s u;cases f:decide (k=v)&&fP (l,o) (p,q)with
  |false=>grind|true=>rw[f,Xa,WJ]at h;simp at f;obtain⟨rfl,d⟩:=f;refine⟨h.symm,k,n,m,rfl,rfl,?_⟩;rw[fP] at d;split at d;rename_i e;have:=cZ e i j m1 g;simp at this;omega;split at d;rename_i e;have:=cZ e m1 g i j;simp at this;omega;grind
 cases h
def Fy (P:Aw)(c:Ax->Av->Av->Bb Bool)(xs d:Af):List Field->Bb Bool
 | []=>some true|f::e=>bif f.name== "_" then Fy P c xs d e else
  match uP P f.type xs f.offset,uP P f.type d f.offset with
  |some a,some b=>match c f.type a b with
   |some true=>Fy P c xs d e|some false=>some false|none=>none
  |_,_=>none
def aFs (P:Aw)(e:Ax):Ah->List Field
 | []=>[]
 |i::is=> {(default:Field)with name:= "x",type:=e,offset:=i*P.cellsOf e}::aFs P e is
def pM {P:Aw}(w:Bc)(d:Nat)(e:Ax)(xs c:Al):∀is:Ah,(Op.eqItems d e (P.cellsOf e) xs c is).run P w=(Op.eqFields d xs c<|aFs P e is).run P w
 | []=>by simp[Op.eqItems,Op.eqFields,aFs]|i::is=>by
  have j:("x" :String)≠ "_" :=by decide
  simp only[Op.eqItems,Op.eqFields,aFs,j,ne_eq,not_false_eq_true,YE,Xn];generalize (part e xs<|i*P.cellsOf e).run P w=k;cases k with
  |ok a f=>
   simp only[Xj];generalize (part e c<|i*P.cellsOf e).run P f=l;cases l with
   |ok b g=>
    simp only[Xj];generalize (Op.equalIn d e a b).run P g=m;cases m with
    |ok r h=>cases r;simp;simp only[Xj,Bool.not_true,Yn,if_false];exact pM h d e xs c is
    |halt x h=>simp[Result.andThen]
   |halt x g=>simp[Result.andThen]
  |halt x f=>simp[Result.andThen]
def xeq (P:Aw):Nat->Ax->Av->Av->Bb Bool
 |0,_,_,_=>none|d+1,t,x,y=>match P.underlying t,x,y with
  |some .bool,.bool a,.bool b=>some<|a==b|some (.int _),.int k a,.int p b=>bif decide (k=p)then some (decide<|a=b)else none|some (.int _),.complex f g c,.int k a=>ieqF (.complex f g c)<|.int k a|some (.int _),.int k a,.complex f g c=>ieqF (.int k a)<|.complex f g c|some .string,.string a,.string b=>some<|a.data.toList==b.data.toList|some (.pointer _),.pointer none,.pointer b=>some b.isNone|some (.pointer _),.pointer (some _),.pointer none=>some false
  | some (.pointer e), .pointer (some ⟨a, o, none⟩), .pointer (some ⟨b, q, none⟩) => bif Nat.beq a b then
    match P.info? e with
    |some m=>bif Nat.beq m.size 0 then none else some (Nat.beq o q)|none=>none
   else none
  |some (.struct l),.agg xs,.agg j=>bif P.stoodInHeld t then none else Fy P (xeq P d) xs.toList j.toList l.toList
  | some (.array n e), .agg xs, .agg  j => match P.info? e with
    |some _=>Fy P (xeq P d) xs.toList j.toList<|aFs P e<|List.range n|none=>none
  |some (.slice _),.slice none _ _,.slice b _ _=>some b.isNone|some (.slice _),.slice (some _) _ _,.slice none _ _=>some false|some (.map _ _),.map none,.map b=>some b.isNone|some (.map _ _),.map (some _),.map none=>some false|some (.func _ _ _),.nilFunc,.nilFunc=>some true|some (.func _ _ _),.nilFunc,.func _ _ _=>some false|some (.func _ _ _),.func _ _ _,.nilFunc=>some false|some (.interface _),.nilIface,.iface _ _=>some false|some (.interface _),.iface _ _,.nilIface=>some false
  | some (.interface _), .iface  h  s, .iface  r  u => bif decide ( h =  r) then
    match P.info? h with
    |some i=>bif i.comparable then xeq P d h s u else none|none=>none
   else some false
  |_,_,_=>none
def gX {P:Aw}{X:Sg}{d:Nat}{r:Ax->Av->Av->Bb Bool}(k:∀t x y b,r t x y=some b-> ∀Y Z,VR X x Y->VR X y Z-> ∀w,(Op.equalIn d t Y Z).run P w= .ok b w){xs u:Af}{i j:Al}(p:VRL X xs i.toList)(q:VRL X u j.toList)(w:Bc):∀ {l:List Field} {b:Bool},Fy P r xs u l=some b->(Op.eqFields d i j l).run P w= .ok b w
 | [],b,h=>by simp[Fy]at h;subst h;simp[Op.eqFields]|f::l,b,h=>by
  simp only[Fy]at h;by_cases s:f.name= "_"
  .have:(f.name== "_"):=by grind
   rw[this,Xa]at h;simp only[Op.eqFields,s,ne_eq,not_true_eq_false,if_false];exact gX k p q w h
  .have:(f.name== "_")=false:=by grind
   rw[this,Xb]at h;split at h;rename_i a c v z;let⟨A,e,n⟩:=dJ v p;let⟨B,g,o⟩:=dJ z q;simp only[Op.eqFields,ne_eq,s,not_false_eq_true,YE,Xn,n,o,Xj];split at h;rename_i m;rw[k _ _ _ _ m _ _ e g w];exact gX k p q w h;rename_i m;rw[k _ _ _ _ m _ _ e g w];simp_all;cases h;cases h
variable {P:Aw}
def NX :∀(d:Nat) (t:Ax) (x y:Av) (b:Bool),xeq P d t x y=some b-> ∀Y Z,VR X x Y->VR X y Z-> ∀w,(Op.equalIn d t Y Z).run P w= .ok b w:=by
 intro d;induction d with
 |zero=>intro t x y b h;simp[xeq]at h
 |succ d W=>
  intro t x y b h Y Z g s w;simp only[xeq]at h;split at h;next a c f=>cases g;cases s;simp only[WJ]at h;subst h;simp[Op.equalIn,Xi f]
  .rename_i k k' a aa c f;cases g;cases s;cases H:decide (k'=aa)with
   |false=>rw[H]at h;cases h
   |true=>rw[H]at h;simp only[Xf]at H;subst H;simp only[Xa,WJ]at h;subst h;rw[run_equalIn_int w d t _ _ _ _ f];congr 1
  rename_i f;obtain⟨rfl,k,n,m,rfl,rfl,A⟩:=xP h g s;rw[run_equalIn_int w d t _ _ _ _ f];simp[A];rename_i f;obtain⟨rfl,k,n,m,rfl,rfl,A⟩:=xP h g s;rw[run_equalIn_int w d t _ _ _ _ f];simp[A];next a c f=>cases g;cases s;simp only[WJ]at h;subst h;rw[run_equalIn_string w d t _ _ f,ByteArray.toList_eq,ByteArray.toList_eq]
  .rename_i e c f;simp only[WJ]at h;subst h;cases g;have v:∃G,Z= .pointer G/\G.isNone=c.isNone:=by cases s<;>exact⟨_,rfl,rfl⟩
   obtain⟨G,rfl,v⟩:=v;simp[Op.equalIn,Xi f,v]
  next e c f=>simp only[WJ]at h;subst h;cases g<;>cases s<;>simp[Op.equalIn,Xi f]
  .rename_i e i o j q f;cases g with
   |R _ _ p hp=>
   cases s with
   |R _ _ r hr=>
   cases u:Nat.beq i j with
   |false=>rw[u]at h;cases h
   |true=>
    rw[u]at h;have u:=WO u;subst u;have R:p=r:=Xk<|hp.symm.trans hr;subst R;simp only[Xa]at h;split at h
    .rename_i ie Q;cases I:Nat.beq ie.size 0 with
     |true=>rw[I]at h;cases h
     |false=>
      rw[I]at h;simp only[Xb,WJ]at h;subst h;have V:ie.size≠0:=λe=>by rw[e]at I;cases I
      simp only[Op.equalIn,Xn,Xi f,Xj,sizeOf,typeInfo,YP,Q,Xs,ne_eq,V,not_false_eq_true,YE,sameAddr,beq_self_eq_true];congr 1;by_cases e:o=q;subst e;rw[w9 rfl];simp;rw[B0 e];simp
    cases h
  .rename_i fs xs ys f;cases S:P.stoodInHeld t with
   |true=>rw[S]at h;cases h
   |false=>
    rw[S,Xb]at h;obtain⟨D,rfl,B⟩:=ZO g;obtain⟨E,rfl,C⟩:=ZO s;have hf:P.fieldsOf t=fs:=by simp[Program.fieldsOf,f]
    rw[run_equalIn_struct w d t D E (by rw[hf];exact f) S,hf];exact gX (λt x y b M Y Z K L w=>W t x y b M Y Z K L w) B C w h
  rename_i n e xs ys f;split at h;rename_i i O;obtain⟨D,rfl,B⟩:=ZO g;obtain⟨E,rfl,C⟩:=ZO s;rw[run_equalIn_array w d D E f O,pM];exact gX (λt x y b M Y Z K L w=>W t x y b M Y Z K L w) B C w h;cases h
  .rename_i e l c J l' G f;simp only[WJ]at h;subst h;cases g;have v:∃z l2 c2,Z= .slice z l2 c2/\z.isNone=J.isNone:=by cases s<;>exact⟨_,_,_,rfl,rfl⟩
   obtain⟨z,l2,c2,rfl,v⟩:=v;simp[Op.equalIn,Xi f,v]
  next e a l c l' G f=>simp only[WJ]at h;subst h;cases g<;>cases s<;>simp[Op.equalIn,Xi f]
  .rename_i k e J f;simp only[WJ]at h;subst h;cases g;have v:∃z,Z= .map z/\z.isNone=J.isNone:=by cases s<;>exact⟨_,rfl,rfl⟩
   obtain⟨z,rfl,v⟩:=v;simp[Op.equalIn,Xi f,v]
  rename_i k e a f;simp only[WJ]at h;subst h;cases g;cases s;simp[Op.equalIn,Xi f];rename_i f;simp only[WJ]at h;subst h;cases g;cases s;simp[Op.equalIn,Xi f];rename_i f;simp only[WJ]at h;subst h;cases g;cases s;simp[Op.equalIn,Xi f];rename_i f;simp only[WJ]at h;subst h;cases g;cases s;simp[Op.equalIn,Xi f];rename_i f;simp only[WJ]at h;subst h;cases g;cases s;simp[Op.equalIn,Xi f];rename_i f;simp only[WJ]at h;subst h;cases g;cases s;simp[Op.equalIn,Xi f]
  .rename_i ms tx vx ty vy f;cases g with
   |iface _ _ ux T=>
   cases s with
   |iface _ _ uy U=>
   cases F:decide (tx=ty)with
   |false=>rw[F]at h;simp only[Xb,WJ]at h;subst h;simp only[XM]at F;simp[Op.equalIn,Xi f,F]|true=>
    rw[F]at h;simp only[Xf]at F;subst F;simp only[Xa]at h;split at h
    .rename_i i O;cases N:i.comparable with
     |false=>rw[N]at h;cases h
     |true=>rw[N,Xa]at h;have:=W tx vx vy b h ux uy T U w;simp[Op.equalIn,Xi f,typeInfo,O,N,this]
    cases h
  cases h
def mO (op:BinOp)(a b:Int):Ag:=
 match op with
 | .eql=>some<|.bool<|decide<|a=b| .neq=>some<|.bool<|!decide (a=b)| .lss=>some<|.bool<|decide<|a<b| .leq=>some<|.bool<|decide<|a<=b| .gtr=>some<|.bool<|decide<|b<a| .geq=>some<|.bool<|decide<|b<=a|_=>none
def K4 (op:BinOp)(k:IntKind)(a b:Int):Ag:=
 match op with
 | .add=>some<|.int k<|k.wrap<|a+b| .sub=>some<|.int k<|k.wrap<|a-b| .mul=>some<|.int k<|k.wrap<|a*b| .quo=>bif decide (b=0)then none else some (.int k<|k.wrap<|a.tdiv b)| .rem=>bif decide (b=0)then none else some (.int k<|a.tmod b)|_=>mO op a b
def xshr (op:BinOp)(k:IntKind)(a b:Int):Ag:=
 match op with
 | .shr=>bif decide (b<0)then none else some (.int k<|a.fdiv<|2^(min b.toNat k.bits))|_=>none
def Sr (op:BinOp)(a b:ByteArray):Ag:=
 match op with
 | .add=>bif Nat.ble (a.data.toList.length+b.data.toList.length) 1000000000 then some (.string ⟨(a.data.toList++b.data.toList).toArray⟩)else none| .eql=>some<|.bool<|a.data.toList==b.data.toList| .neq=>some<|.bool<|!(a.data.toList==b.data.toList)| .lss=>some<|.bool<|Op.bytesLess a.data.toList b.data.toList| .leq=>some<|.bool<|Op.bytesLess a.data.toList b.data.toList||a.data.toList==b.data.toList| .gtr=>some<|.bool<|!(Op.bytesLess a.data.toList b.data.toList||a.data.toList==b.data.toList)| .geq=>some<|.bool<|!Op.bytesLess a.data.toList b.data.toList|_=>none
def R6 (P:Aw)(t:Ax):Av->Bool
 | .agg _=> !P.eqGuardType P.depth t| .nilIface=>false| .complex _ _ _=>false| .float _ _=>false|_=>true
def aO (P:Aw)(op:BinOp)(t:Ax)(x y:Av):Ag:=
 match x,y with
 | .int k a,.int c b=>bif decide (k=c)then K4 op k a b else xshr op k a b| .string a,.string b=>Sr op a b|_,.complex _ _ _=>none|x,y=>match op with
  | .eql=>bif R6 P t x then match xeq P 10000 t x y with
   |some b=>some<|.bool b|none=>none else none
  | .neq=>bif R6 P t x then match xeq P 10000 t x y with
   |some b=>some<|.bool<|!b|none=>none else none
  |_=>none
variable {v:Av}
def Bh {op:BinOp}{a b:Int}(h:mO op a b=v):VR X v v/\ ∀w,(Op.intCmp op a b).run P w= .ok v w:=by cases op<;>simp only[mO,WJ,reduceCtorEq]at h<;>subst h<;>refine⟨.J _,λw=>?_⟩<;>simp[Op.intCmp]<;>by_cases e:a=b<;>simp[e]
def Fu {op:BinOp}{a b:Int}(h:K4 op k a b=v)(t:Ax):VR X v v/\ ∀w,(binOp op t (.int k a)<|.int k b).run P w= .ok v w:=by
 cases op;case quo=>simp only[K4]at h;by_cases c:b=0;simp[c]at h;simp[c]at h;subst h;exact⟨.H _ _,λw=>by simp[binOp_quo,Op.intDiv,c]⟩
 case rem=>simp only[K4]at h;by_cases c:b=0;simp[c]at h;simp[c]at h;subst h;exact⟨.H _ _,λw=>by simp[binOp_rem,Op.intDiv,c]⟩
 all_goals first
  | (cases h;done)
  | (cases h;exact⟨.H _ _,λw=>by simp[binOp_add,binOp_sub,binOp_mul,Op.intArith]⟩)
  | (simp only[K4]at h;exact⟨(Bh (X:=X) (P:=P) h).1,λw=>by simpa [binOp]using(Bh (X:=X) (P:=P) h).2 w⟩)
def rF (a b:ByteArray):a++b=⟨(a.data.toList++b.data.toList).toArray⟩:=by apply ByteArray.ext;simp_all
def KN {op:BinOp}{a b:ByteArray}(h:Sr op a b=v):VR X v v/\ ∀w,(Op.stringOp op a b).run P w= .ok v w:=by
 cases op<;>simp only[Sr,WJ,reduceCtorEq]at h;case add=>
  cases c:Nat.ble (a.data.toList.length+b.data.toList.length) 1000000000 with
  |false=>grind|true=>
   rw[c]at h;simp at h;subst h;have c:=WN c;have e:a.size=a.data.toList.length:=by simp
   have f:b.size=b.data.toList.length:=by simp
   have d:¬((a.size+b.size:Nat):Int)>IntKind.i64.max:=by rw[IntKind.max_i64,e,f];omega
   refine⟨.I _,λw=>?_⟩;simp only[Op.stringOp,Xd d,Xs,rF]
 all_goals
  subst h;refine⟨.J _,λw=>?_⟩;simp only[Op.stringOp,ByteArray.toList_eq,Xs]
def oM {op:BinOp}{t:Ax}(h:aO P op t x y=v)(i:VR X x Y)(j:VR X y Z)(q r:Az):VR X v v/\ ∀w,((eqGuard op t q r Y Z).run P w= .ok () w)/\(binOp op t Y Z).run P w= .ok v w:=by
 unfold aO at h;split at h;rename_i k a u b;cases i;cases j;by_cases s:k=u;subst s;simp only[XZ,Xa]at h;let⟨l,m⟩:=Fu (X:=X) (P:=P) h t;exact⟨l,λw=>⟨by rw[eqGuard_at_int];rfl,m w⟩⟩;simp only[s,decide_false,Xb]at h;unfold xshr at h;split at h;by_cases d:b<0;simp[d]at h;simp[d]at h;subst h;exact⟨.H _ _,λw=>⟨by rw[eqGuard_at_int];rfl,by rw[binOp_shr];simp[Op.shift,d]⟩⟩;cases h;rename_i a b;cases i;cases j;let⟨l,m⟩:=KN (X:=X) (P:=P) h;exact⟨l,λw=>⟨by rw[eqGuard_at_string];rfl,by cases op<;>exact m w⟩⟩;cases h
 .rename_i n o p;have e:R6 P t x-> ∀w,(eqGuard op t q r Y Z).run P w= .ok () w:=by
   intro e w;cases i<;>first
    | (simp[R6]at e;done)
    | (simp only[R6,XI]at e
       cases j<;>first| (rw[run_eqGuard_agg (h:=w) _ _ _ _ _ _ e];done)| (exact run_eqGuard_agg w op t q r _ _ e)| (cases op<;>rfl))
    | (cases op<;>rfl)
  have f:∀b,xeq P 10000 t x y=some b-> ∀w,(Op.equal t Y Z).run P w= .ok b w:=λb d w=>NX 10000 t x y b d Y Z i j w;have g:R6 P t x->(∀w,(binOp .eql t Y Z).run P w=(do pure (.bool<|<-Op.equal t Y Z):Sem Av).run P w)/\
    (∀w,(binOp .neq t Y Z).run P w=(do pure (.bool<|!(<-Op.equal t Y Z)):Sem Av).run P w):=by
   intro c;constructor<;>intro w<;>cases i<;>cases j<;>first|rfl| (exact(o _ _ _ _ rfl rfl).elim)| (exact(p _ _ rfl rfl).elim)| (exact(n _ _ _ rfl).elim)| (simp[R6]at c)
  split at h
  .cases c:R6 P t x with
   |false=>rw[c]at h;cases h
   |true=>rw[c,Xa]at h;split at h;rename_i b d;simp only[WJ]at h;subst h;exact⟨.J _,λw=>⟨e c w,by rw[(g c).1 w];simp only[Xn,f b d w,Xj,Xs]⟩⟩;cases h
  .cases c:R6 P t x with
   |false=>rw[c]at h;cases h
   |true=>rw[c,Xa]at h;split at h;rename_i b d;simp only[WJ]at h;subst h;exact⟨.J _,λw=>⟨e c w,by rw[(g c).2 w];simp only[Xn,f b d w,Xj,Xs]⟩⟩;cases h
  cases h
end Go.Xe
namespace Go.Xe
open Go.RowKit
def Sq (n:Int):Ag:=some<|.string<|Utf8.encode n
def qU (P:Aw)(src b:Ax)(x:Av):Ag:=
 match P.underlying src with
 |none=>none|some _=>match P.underlying b,x with
  |some (.int k),.int _ n=>some<|.int k<|k.wrap n|some .string,.string s=>some<|.string s|some .string,.int _ n=>Sq n|some (.int .i64),.complex _ c a=>bif Nat.ble 1 a&&Nat.ble a unk then some (.complex .f64 (jI c) a)else none|some (.int .u64),.complex _ c a=>bif Nat.ble 1 a&&Nat.ble a unk then some (.complex .f32 (jI c+18446744073709551616) a)else none|_,_=>none
variable {P:Aw}{Z:Sg}{v x Y:Av}
def HX {src g:Ax}(h:qU P src g x=v)(j:VR Z x Y):∃u,VR Z v u/\ ∀w,(convert src g Y).run P w= .ok u w:=by
 unfold qU at h;split at h;cases h
 .rename_i d i;split at h;rename_i k z n b;cases j;simp only[WJ]at h;subst h;exact⟨_,.H _ _,λw=>by simp[convert,Xi i,Xi b,Conv.intToInt]⟩;rename_i s b;cases j;simp only[WJ]at h;subst h;exact⟨_,.I _,λw=>by simp[convert,Xi i,Xi b]⟩;next k n b=>cases j;rw[Sq] at h;simp only[WJ]at h;subst h;exact⟨_,.I _,λw=>by simp[convert,Xi i,Xi b,Conv.intToString]⟩
  .rename_i f e c b;cases a:Nat.ble 1 c&&Nat.ble c unk with
   |false=>grind|true=>
    rw[a,Xa]at h;simp only[WK]at a;have q:=WN a.1;have r:=WN a.2;simp only[WJ]at h;subst h;cases j with
    |Q _ _ _ n p l=>
     have m:n<unk:=by omega
     refine⟨_,.Q .f64 (jI e) c n (Ya (DS _) p) l,λw=>?_⟩;have o:IntKind.i64.wrap (n:Int)=n:=by rw[IntKind.wrap_i64];rw[unk] at m;omega
     simp[convert,Xi i,Xi b,Conv.intToInt,o,bU,Gq]
  .rename_i f e c b;cases a:Nat.ble 1 c&&Nat.ble c unk with
   |false=>grind|true=>
    rw[a,Xa]at h;simp only[WK]at a;have q:=WN a.1;have r:=WN a.2;simp only[WJ]at h;subst h;cases j with
    |Q _ _ _ n p l=>
     have m:n<unk:=by omega
     have y:jI (jI e+18446744073709551616)=jI e:=by unfold jI;omega
     have t:bU .f32 (jI e+18446744073709551616)= .u64:=by
      have:(jI e+18446744073709551616)/18446744073709551616=1:=by rw[jI];omega
      rw[bU,this,Gq]
     refine⟨_,.Q .f32 (jI e+18446744073709551616) c n (by omega) l,λw=>?_⟩;have o:IntKind.u64.wrap (n:Int)=n:=by rw[IntKind.wrap_u64];rw[unk] at m;omega
     simp[convert,Xi i,Xi b,Conv.intToInt,o,t]
  cases h
def xun (op:UnOp)(x:Av):Ag:=
 match op,x with
 | .neg,.int k n=>some<|.int k<|k.wrap<|0-n| .not,.bool b=>some<|.bool<|!b|_,_=>none
def Ok {op:UnOp}(h:xun op x=v)(a:VR Z x Y):VR Z v v/\ ∀w,(Op.unary op Y).run P w= .ok v w:=by unfold xun at h;split at h;cases a;simp only[WJ]at h;subst h;exact⟨.H _ _,λw=>rfl⟩;cases a;simp at h;subst h;exact⟨.J _,λw=>rfl⟩;cases h
def P8 (P:Aw)(s:Ax)(x:Av)(f:Nat):Ag:=
 match P.underlying s with
 |some (.struct c)=>match c.toList[f]? with
  |some a=>match P.info? a.type with
   |some i=>bif Nat.beq i.size 0 then none else
    match x with
    | .pointer (some ⟨b,o,none⟩)=>some<|.pointer<|some ⟨b,o+a.offset,none⟩| .pointer (some ⟨b,o,some 1⟩)=>some<|.pointer<|some ⟨b,o+a.offset,some 1⟩|_=>none
   |none=>none
  |none=>none
 |_=>none
def tA {s:Ax}{f:Nat}(h:P8 P s x f=v)(n:VR Z x Y):∃u,VR Z v u/\ ∀w,(Instr.fieldAt s Y f).run P w= .ok u w:=by
 rw[P8] at h;split at h
 .rename_i k m;split at h
  .rename_i d q;split at h
   .rename_i i l;cases j:Nat.beq i.size 0 with
    |true=>grind|false=>
     rw[j,Xb]at h;have c:i.size≠0:=λe=>by rw[e]at j;cases j
     split at h
     .rename_i b o;simp only[WJ]at h;subst h;cases n with
      |R _ _ p g=>
      have a:k[f]? =some d:=by grind
      refine⟨_,.R b (o+d.offset) p g,λw=>?_⟩;simp[Instr.fieldAt,Xi m,a,Instr.sureAddr,fieldPlace,sizeOf,typeInfo,l,c,YF,Yc]
     .rename_i b o;simp only[WJ]at h;subst h;cases n with
      |rptr _ _ p g=>
      have a:k[f]? =some d:=by grind
      refine⟨_,.rptr b (o+d.offset) p g,λw=>?_⟩;simp[Instr.fieldAt,Xi m,a,Instr.sureAddr,fieldPlace,sizeOf,typeInfo,l,c,YF]
     cases h
   cases h
  cases h
 cases h
def E0 (P:Aw)(t:Ax)(x c:Av):Ag:=
 match c with
 | .int _ n=>match P.underlying t with
  |some (.slice e)=>match P.info? e with
   |some a=>match x with
    | .slice (some ⟨b,o,none⟩) len _=>bif decide (0<=n)&&decide (n<len)then some (.pointer<|some ⟨b,o+n.toNat*a.size,none⟩)else none|_=>none
   |none=>none
  |some (.array len e)=>match P.info? e with
   |some a=>match x with
    | .pointer (some ⟨b,o,none⟩)=>bif decide (0<=n)&&decide (n<len)then some (.pointer<|some ⟨b,o+n.toNat*a.size,none⟩)else none|_=>none
   |none=>none
  |_=>none
 |_=>none
def tE {t:Ax}{i l:Av}(h:E0 P t x i=v)(j:VR Z x Y)(m:VR Z i l):∃u,VR Z v u/\ ∀w,(Instr.indexAt t Y l).run P w= .ok u w:=by
 unfold E0 at h;split at h
 .rename_i k n;cases m;split at h
  .rename_i e g;split at h
   .rename_i q d;split at h
    .rename_i b o len c;cases j with
     |F _ _ p _ _ r f s y=>
     cases a:decide (0<=n)&&decide (n<len)with
     |false=>grind|true=>rw[a,Xa]at h;simp at a;simp at h;subst h;refine⟨_,.R b _ p f,λw=>?_⟩;simp[Instr.indexAt,asIntOf,Xi g,a,sizeOf,typeInfo,d,YF,Yc]
    cases h
   cases h
  .rename_i len e g;split at h
   .rename_i q d;split at h
    .rename_i b o;cases j with
     |R _ _ p f=>
     cases a:decide (0<=n)&&decide (n<len)with
     |false=>grind|true=>rw[a,Xa]at h;simp at a;simp at h;subst h;refine⟨_,.R b _ p f,λw=>?_⟩;simp[Instr.indexAt,asIntOf,Xi g,Instr.sureAddr,a,sizeOf,typeInfo,d,YF,Yc]
    cases h
   cases h
  cases h
 cases h
def kQ (P:Aw)(t:Ax)(x:Av):Ag:=
 match P.underlying t,x with
 |some .string,.string s=>some<|.int .i64 s.data.toList.length|some (.array n _),_=>some<|.int .i64 n|some (.slice _),.slice _ n _=>some<|.int .i64 n|some (.map _ _),.map none=>some<|.int .i64 0|_,_=>none
def KF {t:Ax}(h:kQ P t x=v)(f:VR Z x Y)(g:Ax)(ats:Array Ax)(a:ats[0]? =t):VR Z v v/\ ∀w,(Builtin.len_ ats g #[Y]).run P w= .ok v w:=by unfold kQ at h;split at h;rename_i s d;cases f;simp at h;subst h;refine⟨.H _ _,λw=>?_⟩;simp[Builtin.len_,a,Xi d,goInt];rename_i n e d;simp at h;subst h;refine⟨.H _ _,λw=>?_⟩;simp[Builtin.len_,a,Xi d,goInt];rename_i e b n c d;simp at h;subst h;refine⟨.H _ _,λw=>?_⟩;cases f<;>simp[Builtin.len_,a,Xi d,goInt];rename_i k e d;simp at h;subst h;refine⟨.H _ _,λw=>?_⟩;cases f;simp[Builtin.len_,a,Xi d,goInt];cases h
def qT (P:Aw)(t:Ax)(x:Av):Ag:=
 match P.underlying t,x with
 |some (.slice _),.slice none _ c=>some<|.int .i64 c|some (.slice _),.slice (some _) n c=>bif Nat.ble unk c then some (.complex .f64 (Nat.max (R7 c) n)<|I0 c)else some (.int .i64 c)|some (.array n _),_=>some<|.int .i64 n|_,_=>none
def KE {t:Ax}(h:qT P t x=v)(l:VR Z x Y)(z:Ax)(ats:Array Ax)(d:ats[0]? =t):∃u,VR Z v u/\ ∀w,(Builtin.cap_ ats z #[Y]).run P w= .ok u w:=by
 unfold qT at h;split at h;next e n c k=>simp at h;subst h;cases l;refine⟨_,.H _ _,λw=>?_⟩;simp[Builtin.cap_,d,Xi k,goInt]
 .rename_i e b n c k;have g:∀m y a w,(Builtin.cap_ ats z #[.slice m y a]).run P w= .ok (.int .i64 a) w:=λm y a w=>by simp[Builtin.cap_,d,Xi k,goInt]
  cases j:Nat.ble unk c with
  |true=>
   rw[j,Xa]at h;simp at h;subst h;have j:=WN j;cases l with
   |F i o p _ _ a C f s=>obtain⟨_,r⟩| ⟨_,r,A,_⟩:=f;omega;exact⟨_,.Q .f64 _ _ a (Ya (DS _)<|Nat.max_le.2 ⟨r,s⟩) A,g _ _ _⟩
   |L q a=>exact⟨_,.Q .f64 _ _ a (Ya (DS _)<|Nat.max_le.2 ⟨by exact YI _,YI _⟩)<|.inl Wq,g _ _ _⟩
  |false=>
   rw[j,Xb]at h;simp at h;subst h;have B:¬unk<=c:=λh=>by rw[WQ h]at j;cases j
   cases l with
   |F i o p _ _ a C f s=>obtain⟨rfl,_⟩| ⟨D,_⟩:=f;exact⟨_,.H _ _,g _ _ _⟩;grind
   |L q a=>grind
 rename_i n e k;simp at h;subst h;refine⟨_,.H _ _,λw=>?_⟩;simp[Builtin.cap_,d,Xi k,goInt];cases h
def PK (op:BinOp)(a b:Nat×Nat):Ag:=
 match op with
 | .lss=>(cW a b).map .bool| .gtr=>(cW b a).map .bool| .leq=>(cW b a).map λr=>.bool<|!r
 | .geq=>(cW a b).map λr=>.bool<|!r
 | .eql=>bif fP a b then some (.bool false)else none| .neq=>bif fP a b then some (.bool true)else none|_=>none
def irem (op:BinOp)(x y:Av):Ag:=
 match op,x,y with
 | .rem,.complex f a _,.int k (.ofNat c)=>bif decide (bU f a=k)&&Nat.ble 1 c then some (.complex f (a/18446744073709551616*18446744073709551616) c)else none|_,_,_=>none
def HS (op:BinOp)(x y:Av):Ag:=
 match V9 x,V9 y with
 |some (k,a),some (c,b)=>bif decide (k=c)then PK op a b else none|_,_=>none
def Y6 {op:BinOp}{t:Ax}{k:IntKind}{n m:Nat}{r:Bool}(h:mO op (n:Int) (m:Int)=some (.bool r))(d:K4 op k (n:Int) (m:Int)=mO op (n:Int) (m:Int))(a b:Az):∃u,VR Z (.bool r) u/\ ∀w,((eqGuard op t a b (.int k n)<|.int k m).run P w= .ok () w)/\(binOp op t (.int k n)<|.int k m).run P w= .ok u w:=by
 have c:aO P op t (.int k n) (.int k m)=some (.bool r):=by have:=d.trans h;simp only[aO,XZ,Xa];exact this
 let⟨e,f⟩:=oM (X:=Z) c (.H k n) (.H k m) a b;grind
variable {y W:Av}
def HT {op:BinOp}{t:Ax}(h:HS op x y=v)(E:VR Z x Y)(F:VR Z y W)(d e:Az):∃u,VR Z v u/\ ∀w,((eqGuard op t d e Y W).run P w= .ok () w)/\(binOp op t Y W).run P w= .ok u w:=by
 have q:∀(f:IntKind) (a b:Nat×Nat),V9 x=(f,a)->V9 y=(f,b)->PK op a b=v-> ∃u,VR Z v u/\ ∀w,((eqGuard op t d e Y W).run P w= .ok () w)/\(binOp op t Y W).run P w= .ok u w:=by
  intro f a b C D h;let⟨g,i⟩:=a;let⟨j,k⟩:=b;obtain⟨n,rfl,s,z⟩:=aW C E;obtain⟨m,rfl,m1,p⟩:=aW D F;have lt:∀r,cW (g,i) (j,k)=some r->r=decide ((n:Int)<(m:Int)):=λr c=>cZ c s z m1 p;have B:∀r,cW (j,k) (g,i)=some r->r=decide ((m:Int)<(n:Int)):=λr c=>cZ c m1 p s z;have A:fP (g,i) (j,k)->(n:Int)≠m:=λo=>by rw[fP] at o;grind
  unfold PK at h;cases op;case lss=>simp only[Yx]at h;obtain⟨r,c,rfl⟩:=h;exact Y6 (by rw[lt r c];rfl) rfl d e
  case gtr=>simp only[Yx]at h;obtain⟨r,c,rfl⟩:=h;exact Y6 (by rw[B r c];rfl) rfl d e
  case leq=>simp only[Yx]at h;obtain⟨r,c,rfl⟩:=h;refine Y6 ?_ rfl d e;simp only[mO];congr 2;grind
  case geq=>simp only[Yx]at h;obtain⟨r,c,rfl⟩:=h;refine Y6 ?_ rfl d e;simp only[mO];congr 2;grind
  case eql=>
   cases l:fP (g,i) (j,k)with
   |false=>grind|true=>simp only[l,Xa,WJ]at h;subst h;exact Y6 (by have:=A l;simp[mO];omega) rfl d e
  case neq=>
   cases l:fP (g,i) (j,k)with
   |false=>grind|true=>simp only[l,Xa,WJ]at h;subst h;exact Y6 (by have:=A l;simp[mO];omega) rfl d e
  all_goals cases h
 rw[HS] at h;grind
def IV {op:BinOp}{t:Ax}(h:irem op x y=v)(g:VR Z x Y)(p:VR Z y W)(i j:Az):∃u,VR Z v u/\ ∀w,((eqGuard op t i j Y W).run P w= .ok () w)/\(binOp op t Y W).run P w= .ok u w:=by
 unfold irem at h;split at h
 .rename_i f a s k c;cases b:decide (bU f a=k)&&Nat.ble 1 c with
  |false=>grind|true=>
   rw[b,Xa,WJ]at h;subst h;simp only[WK,Xf]at b;obtain⟨rfl,d⟩:=b;have d:=WN d;cases g with
   |Q _ _ _ n q r=>
   cases p;have g:aO P .rem t (.int (bU f a) n) (.int (bU f a)<|Int.ofNat c)=some (.int (bU f a)<|(n:Int).tmod<|Int.ofNat c):=by
    have e:decide (Int.ofNat c=0)=false:=by grind
    simp only[aO,XZ,Xa,K4,e,Xb]
   let⟨_,o⟩:=oM (X:=Z) g (.H _ _) (.H _ _) i j;refine⟨_,?_,o⟩;have l:(n:Int).tmod (Int.ofNat c)=((n % c:Nat):Int):=by grind
   have m:bU f a=bU f (a/18446744073709551616*18446744073709551616):=by unfold bU;grind
   rw[l,m];exact .Q f _ c (n % c) (by rw[jI,Nat.mul_mod_left];exact YI _)<|.inr<|Nat.mod_lt _ d
 cases h
def M3 (P:Aw)(op:BinOp)(t:Ax)(x y:Av):Ag:=
 match aO P op t x y with
 |some v=>some v|none=>match HS op x y with
  |some v=>some v|none=>irem op x y
def HQ {op:BinOp}{t:Ax}(h:M3 P op t x y=v)(c:VR Z x Y)(d:VR Z y W)(a b:Az):∃u,VR Z v u/\ ∀w,((eqGuard op t a b Y W).run P w= .ok () w)/\(binOp op t Y W).run P w= .ok u w:=by rw[M3] at h;split at h;rename_i e hv;cases h;exact⟨_,oM hv c d a b⟩;split at h;rename_i e hv;cases h;exact HT hv c d a b;exact IV h c d a b
def Bm (c:Bool):Av->Af->Ag
 |v,[]=>match v with
  | .int k n=>some<|.int k n|_=>none
 |v,y::d=>match v,y with
  | .int k a,.int _ b=>Bm c (.int k (bif c then(bif decide (a<b)then b else a)else(bif decide (b<a)then b else a))) d|_,_=>none
def Bl {P:Aw}{Z:Sg}:∀ {xs:Af} {x v:Av} {c:Af} {Y:Av},Bm true x xs=v->VR Z x Y->VRL Z xs c->VR Z v v/\ ∀w,(c.foldlM Builtin.max2 Y:Sem Av).run P w= .ok v w
 | [],x,v,c,Y,h,e,d=>by rw[d.l];unfold Bm at h;split at h;simp at h;subst h;cases e;exact⟨.H _ _,λw=>by simp⟩;cases h
 |y::n,x,v,c,Y,h,e,d=>by
  obtain⟨W,l,rfl,g,f⟩:=d.d;unfold Bm at h;split at h
  .rename_i k a j b;cases e;cases g;have i:=Bl (P:=P) h (.H _ _) f;refine⟨i.1,λw=>?_⟩;have m:(Builtin.max2 (.int k a)<|.int j b).run P w= .ok (.int k (bif true then(bif decide (a<b)then b else a)else(by omega))) w:=by simp only[Builtin.max2,Xa,Xs];grind
   simp_all
  cases h
end Go.Xe
namespace Go.Xe
open Go.RowKit
def MOK (d:Hp)(B:BS)(e:Bc)(f:Sg)(v:Av)(b:Hp)(r:Result Av):Prop:=
 ∃a u c,r= .ok u c/\Sg.j d.d b.d f a/\VR a v u/\HR B e a b c
def Hp.f (a:Hp)(vs:Af)(e z:Nat):Hp:=⟨a.m.m a.d<|some<|.cells (fill .e 0 vs) vs.length e z,a.d+1⟩
section
variable {P :Aw}{B:BS}{W:Bc}{Y:Sg}{Z:Hp}{w:Bc}
def u5 (vs:Af)(j:Nat)(a:j<vs.length):(fill .e 0 vs).l j=vs[j]? :=by rw[j6,Xg<|by omega];simp
variable {X vs:Af}
def HR.new (h:HR B W Y Z w)(hv:VRL Y vs X)(e z:Nat):HR B W (Y.d Z.d ⟨w.heap.size,0,X.length,z⟩) (Z.f vs e z) (w.alloc<|.cells X.toArray e):=by
 have:=h.alloc (fill .e 0 vs) vs.length e z X.toArray (by rw[hv.1];simp) (λj a=>by
  have b:j<X.length:=by rw[<-hv.1];exact a
  refine⟨vs[j],X[j],by rw[u5 vs j a];simp[a],by grind,hv.2 j _ _ (by simp)<|by simp⟩)
 simpa [Hp.f]using this
def HR.D (h:HR B W Y Z w)(p:Pl):Sg.j Z.d (Z.d+1) Y (Y.d Z.d p):=
 ⟨ZA p<|h.A _<|Xh _,λi a=>Zv _ _ _<|by omega,Yq _⟩
def VR.new (Y:Sg)(i:Nat)(p:Pl)(a:p.f=0):VR (Y.d i p) (.pointer<|some ⟨i,0,none⟩) (.pointer<|some ⟨p.d,0,none⟩):=by have:=VR.R (σ:=Y.d i p) i 0 p<|Zx _ _ _;grind
def rgT :Ax:=130
variable {e k:Nat}{c:Ao}
def HR.S {B:BS}{W:Bc}{Y:Sg}{Z:Hp}{w:Bc}(h:HR B W Y Z w){n z:Nat}(l:Z.m.l 0=some (.reg c n e z))(q:k<n):∃p C,Y.f 0 (k+1)=some p/\ ¬B p.d/\w.heap[p.d]? =some (.cells C e (0,0))/\C.size=z/\ ∀j,j<z-> ∃v u,c.l (k*z+j)=some v/\C[j]? =some u/\VR Y v u:=by obtain⟨p,o,a,b,d,C,rfl,g,i⟩:=h.z 0 _ (k+1) l ⟨by omega,q⟩;exact⟨p,C,a,b,d,g,i⟩
variable {o:Nat}{p:Pl}
def HR.U {B:BS}{W:Bc}{Y:Sg}{Z:Hp}{w:Bc}(h:HR B W Y Z w){n z m:Nat}(g:Z.m.l 0=some (.reg c n e z))(l:k<n)(y:o+m<=z)(r:j8 c (k*z+o) m=vs)(a:Y.f 0 (k+1)=p):∃X,VRL Y vs X/\X.length=m/\ ∀j u,X[j]? =some u->w.cell? ((⟨p.d,o,none⟩:Addr).add j)=some u:=by
 let⟨q,C,s,_,v,A,x⟩:=h.S g l;have:q=p:=Xk<|s.symm.trans a;subst this;let⟨d,b⟩:=u7 r;refine⟨(C.toList.drop o).take m,⟨?_,?_⟩,?_,?_⟩;grind;grind;grind
 .intro j u t;have i:j<m:=by grind
  rw[Xr,Xg i,Xx]at t;rw[YF,cell_of_row w q.d _ C e (0,0) v];grind
def Hp.h (Z:Hp)(c:Ao)(n e z:Nat):Hp:= {Z with m:=Z.m.m 0<|some<|.reg c n e z}
def HR.storeG {B:BS}{W:Bc}{Y:Sg}{Z:Hp}{w:Bc}(h:HR B W Y Z w){n z:Nat}(t:Z.m.l 0=some (.reg c n e z))(hk:k<n)(ad:Y.f 0 (k+1)=some p)(hv:VRL Y vs X)(h1:∀u∈X,u.oneCell')(hs:o+vs.length<=z)(P:Aw):∃w',(storeCells ⟨p.d,o,none⟩ X).run P w= .ok () w'/\HR B W Y (Z.h (fill c (k*z+o) vs) n e z) w':=by
 let⟨A,C,O,g3,Q,g5,g7⟩:=h.S t hk;have:A=p:=Xk<|O.symm.trans ad;subst this;have hr:=run_storeCells_at P A.d o e X 0 C w Q (by rw[<-hv.1];omega) h1;simp only[Yi]at hr;have hl:=hv.1;have K:=setRow_heap w A.d C (C.toList.take o++X++C.toList.drop (o+X.length)).toArray e (0,0) Q;have x:(C.toList.take o++X++C.toList.drop (o+X.length)).toArray.size=C.size:=by grind
 have L:Ix (.reg c n e z) (k+1):=⟨by omega,hk⟩
 have y:∀i b,(Z.h (fill c (k*z+o) vs) n e z).m.l i=some b->(i=0/\b= .reg (fill c (k*z+o) vs) n e z)\/(i≠0/\Z.m.l i=some b):=λi b a=>by have a:(Z.m.m 0<|some<|.reg (fill c (k*z+o) vs) n e z).l i=some b:=a;rw[ZD]at a;grind
 have l:∀i b r,(Z.h (fill c (k*z+o) vs) n e z).m.l i=some b->Ix b r-> ∃M,Z.m.l i=some M/\Ix M r:=λi b r a d=>by obtain⟨rfl,rfl⟩| ⟨_,F⟩:=y i b a;exact⟨_,t,d⟩;grind
 refine⟨_,hr,h.R,h.l,h.d,by simpa [World.setRow]using h.g,h.C,λkk H=>?_,h.H,λi b r a d=>?_,λi j b M r s p q a U d hy=>?_,λi b a hb=>?_⟩;rw[setRow_other w _ kk _<|λe=>g3<|by rw[<-e];exact H];exact h.h kk H
 .rcases y i b a with⟨rfl,rfl⟩| ⟨h0,F⟩
  .obtain⟨q,D,g,N,E,d5,d7⟩:=h.S t (k:=r-1) (by have:1<=r/\r<=n:=d;omega);have ae:r-1+1=r:=by have:1<=r/\r<=n:=d;omega
   rw[ae]at g;by_cases I:r=k+1
   .subst I;have:q=A:=Xk<|g.symm.trans O;subst this;have:D=C:=by rw[Q]at E;cases E;rfl
    subst this;refine⟨q,_,g,N,K,_,rfl,by rw[x];exact d5,λj U=>?_⟩;show∃v u,(fill c (k*z+o) vs).l (k*z+j)=some v/\_;rw[j6];by_cases aj:o<=j/\j<o+vs.length
    .rw[Xg (by omega)];have G:j-o<vs.length:=by omega
     refine⟨vs[j-o],X[j-o],by rw[show k*z+j-(k*z+o)=j-o by omega];simp[G],?_,hv.2 (j-o) _ _ (by simp[G])<|by simp[(by omega)]⟩;grind
    grind
   .have ac:=h.O 0 0 _ _ r (k+1) q A t t d L (.inr I) g O;refine⟨q,_,g,N,(setRow_other w _ q.d _ ac).trans E,D,rfl,d5,λj U=>?_⟩;show∃v u,(fill c (k*z+o) vs).l ((r-1)*z+j)=some v/\_;rw[j6,Xd ?_];grind
    .intro hh;have J:r-1≠k:=by omega
     obtain ab|R:=Nat.lt_or_gt_of_ne J;have:=WW z (show r-1+1<=k from ab);grind;have:=WW z (show k+1<=r-1 from R);grind
  let⟨q,oq,g,d2,N,E⟩:=h.z i b r F d;exact⟨q,oq,g,d2,by rw[setRow_other w _ _ _<|h.O i 0 _ _ r (k+1) q A F t d L (.inl h0) g O];exact N,E⟩
 let⟨b1,S,ah⟩:=l i b r a d;let⟨b2,V,ai⟩:=l j M s U hy;exact h.O i j b1 b2 r s p q S V ah ai;obtain⟨rfl,rfl⟩| ⟨_,F⟩:=y i b a;exact h.Q 0 (.reg c n e z) t rfl;exact h.Q i b F hb
def HR.allocG {B:BS}{W:Bc}{Y:Sg}{Z:Hp}{w:Bc}(h:HR B W Y Z w){n z:Nat}(N:Z.m.l 0=some (.reg c n e z)){X:Al}(hv:VRL Y vs X.toList)(hz:vs.length=z):
  ∃a,Sg.t Y a/\(∀i,a i=Y i)/\(∃p,a.f 0 (n+1)=some p/\p.d=w.heap.size)/\HR B W a (Z.h (fill c (n*z) vs) (n+1) e z) (w.alloc<|.cells X e):=by
 let⟨_,E⟩:=h.Q 0 _ N rfl;let p:Pl:=⟨w.heap.size,0,X.size,z⟩
 let a:Sg:=⟨λi r=>if i=0/\r=n+1 then some p else Y.f i r⟩
 have ac:X.size=z:=by have:=hv.1;simp at this;omega
 have V:Y.f 0 (n+1)=none:=E _ (by omega) (λg=>by have:1<=n+1/\n+1<=n:=g;omega);have L:a.f 0 (n+1)=some p:=Xg ⟨rfl,rfl⟩;have t:∀i r,¬(i=0/\r=n+1)->a.f i r=Y.f i r:=λi r H=>Xd H;have y:Sg.t Y a:=λi q {r} D=>by grind
 have M:∀i b r,(Z.h (fill c (n*z) vs) (n+1) e z).m.l i=some b->Ix b r->(i=0/\r=n+1/\b= .reg (fill c (n*z) vs) (n+1) e z)\/(¬(i=0/\r=n+1)/\ ∃l,Z.m.l i=some l/\Ix l r/\((i=0/\l= .reg c n e z/\b= .reg (fill c (n*z) vs) (n+1) e z)\/(i≠0/\b=l))):=λi b r d g=>by have d:(Z.m.m 0<|some<|.reg (fill c (n*z) vs) (n+1) e z).l i=some b:=d;rw[ZD]at d;by_cases G:i=0;rw[Xg G,WJ]at d;subst d;subst G;have g:1<=r/\r<=n+1:=g;by_cases hr:r=n+1;grind;exact .inr ⟨by omega,_,N,⟨g.1,by omega⟩,.inl ⟨rfl,rfl,rfl⟩⟩;grind
 refine⟨a,y,λi=>t i 0<|by omega,⟨p,L,rfl⟩,h.R,h.l,h.d,by simp;have:=h.g;omega,h.C,λk hk=>by rw[Below.heap_alloc _ _ _ (by have:=h.C k hk;have:=h.g;omega)];exact h.h k hk,λi r d=>?_,λi b r d g=>?_,λi j b l r s q q' d O g hy U D aa=>?_,λi b d hb=>?_⟩;rw[t i r ?_];exact h.H i r d;rintro ⟨rfl,rfl⟩;let⟨⟨q,D⟩,_⟩:=h.Q 0 _ N rfl;have d:Z.d<=0:=d;have:=h.H 0 0 d;grind
 .rcases M i b r d g with⟨rfl,rfl,rfl⟩| ⟨H,l,F,A,hc⟩
  .refine⟨p,_,L,(λhB=>by have h1:=h.C _ hB;have h2:=h.g;have:p.d=w.heap.size:=rfl;omega),?_,X,rfl,ac,λj O=>?_⟩;show(w.heap.push _)[w.heap.size]? =_;simp
   .show∃v u,(fill c (n*z) vs).l ((n+1-1)*z+j)=some v/\_;have J:j<X.size:=by omega
    rw[j6,show n+1-1=n by omega,Xg<|by omega,show n*z+j-n*z=j by omega];have K:j<vs.length:=by omega
    refine⟨vs[j],X[j],by simp[K],by simp[J],(hv.2 j _ _ (by simp[K])<|by simp[J]).N y⟩
  .obtain⟨q,o,P,d2,Q,d4⟩:=h.z i l r F A;have I:(w.alloc<|.cells X e).heap[q.d]? =o:=by rw[Below.heap_alloc _ _ _ (WY.1 Q).1];exact Q
   obtain⟨rfl,rfl,rfl⟩| ⟨G,rfl⟩:=hc;let⟨C,R,S,e3⟩:=d4;refine⟨q,o,(t 0 r H).trans P,d2,I,C,R,S,λj O=>?_⟩;let⟨v,u,a1,a2,a3⟩:=e3 j O;refine⟨v,u,?_,a2,a3.N y⟩;show(fill c (n*z) vs).l ((r-1)*z+j)=some v;rw[j6,Xd ?_];exact a1;have A:1<=r/\r<=n:=A;have:=WW z (show r-1+1<=n by omega);grind;exact⟨q,o,(t i r H).trans P,d2,I,d4.d y⟩
 .have fr:∀i b r q,(Z.h (fill c (n*z) vs) (n+1) e z).m.l i=some b->Ix b r-> ¬(i=0/\r=n+1)->a.f i r=some q->q.d<w.heap.size/\ ∃l,Z.m.l i=some l/\Ix l r/\Y.f i r=some q:=λi b r q d g H D=>by obtain⟨rfl,rfl,rfl⟩| ⟨_,l,F,A,_⟩:=M i b r d g;grind;rw[t i r H]at D;let⟨q2,o,P,_,Q,_⟩:=h.z i l r F A;grind
  by_cases R:i=0/\r=n+1<;>by_cases S:j=0/\s=n+1;omega;grind;grind;let⟨_,b1,k1,k2,k3⟩:=fr i b r q d g R D;let⟨_,b2,m1,m2,m3⟩:=fr j l s q' O hy S aa;exact h.O i j b1 b2 r s q q' k1 m1 k2 m2 U k3 m3
 have x:(Z.m.m 0<|some<|.reg (fill c (n*z) vs) (n+1) e z).l i=some b:=d;rw[ZD]at x;by_cases G:i=0;subst G;rw[Xg rfl,WJ]at x;subst x;let⟨⟨q,D⟩,hr⟩:=h.Q 0 _ N rfl;exact⟨⟨q,y _ _ D⟩,λr ab g=>by have g:¬(1<=r/\r<=n+1):=g;rw[t 0 r<|by omega];exact hr r ab<|λhy=>g (by have:1<=r/\r<=n:=hy;omega)⟩;rw[Xd G]at x;let⟨⟨q,D⟩,hr⟩:=h.Q i b x hb;grind
inductive Nv where
 |f
 |d (l c:Nat)
 |g
structure Nw where
 f:Blk
 v:Nv
 l:(fQ f||nM f)=false:=by rfl
def Nw.j (n:Nw):fQ n.f=false:=(YW.1 n.l).1
def Nw.h (n:Nw):nM n.f=false:=(YW.1 n.l).2
def Nw.d (n:Nw)(a:Nat):Av:=
 match n.v with
 | .f=>.pointer<|some ⟨a,0,none⟩| .d l c=>.slice (some ⟨a,0,none⟩) l c| .g=>.map<|some a
def J2 (vs:Af)(e z:Nat):Blk:= .cells (fill .e 0 vs) vs.length e z
theorem lJ (h:VRL Y vs X)(e z b:Nat):BR Y ⟨b,0,X.length,z⟩ (J2 vs e z) (.cells X.toArray e):=by
 refine⟨X.toArray,rfl,rfl,by simp,by simp[h.1],λj a=>?_⟩;have c:j<X.length:=by rw[<-h.1];exact a
 exact⟨vs[j],X[j],by rw[u5 vs j a];simp[a],by grind,h.2 j _ _ (by simp)<|by simp⟩
def tQ (P:Aw)(Y:Sg)(n:Nw)(s:Sem Av):Prop:=
 (∀l c,n.v= .d l c->l<=c/\c<unk)/\ ∃o a z,(∀b,BR Y ⟨b,0,a,z⟩ n.f o)/\ ∀w,s.run P w= .ok (n.d w.heap.size) (w.alloc o)
def Hp.g (Z:Hp)(n:Nw):Av×Hp:=(n.d Z.d,⟨Z.m.m Z.d<|some n.f,Z.d+1⟩)
variable {n:Nw}
def Nw.g {Y:Sg}(h:∀l c,n.v= .d l c->l<=c/\c<unk)(d b a z:Nat):VR (Y.d d ⟨b,0,a,z⟩) (n.d d) (n.d b):=by
 unfold Nw.d;cases hv:n.v with
 |f=>exact VR.new Y d ⟨b,0,a,z⟩ rfl|d l c=>let⟨e,f⟩:=h l c hv;have:=VR.F (σ:=Y.d d ⟨b,0,a,z⟩) d 0 ⟨b,0,a,z⟩ l c c (Zx _ _ _) (.inl ⟨rfl,f⟩) e;grind
 |g=>exact VR.map d ⟨b,0,a,z⟩<|Zx _ _ _
def tQ.d {s:Sem Av}(h:tQ P Y n s)(a:HR B W Y Z w):MOK Z B W Y (Z.g n).1 (Z.g n).2 (s.run P w):=by obtain⟨c,o,b,z,d,e⟩:=h;refine⟨Y.d Z.d ⟨w.heap.size,0,b,z⟩,_,_,e w,a.D _,Nw.g c _ _ _ _,?_⟩;exact a.F Z.d (Z.d+1) (a.A _<|Xh _) (Yq _) (Yd _) n.f o _ rfl ((d _).d (a.D _).d) n.j n.h
def Z2 (P:Aw)(e:Ax):Bb Nw:=
 match T5 P e with
 |some z=>some ⟨J2 z.cells.toList e z.cells.toList.length,.f,rfl⟩|none=>none
def BH {e:Ax}(h:Z2 P e=n):tQ P Y n (Instr.alloc e true<|.tuple #[]):=by rw[Z2] at h;split at h;rename_i z f;cases h;let⟨a,d⟩:=V0 f;refine⟨(λl c h=>by grind),.cells z.cells e,z.cells.toList.length,_,(λb=>by simpa using lJ (fI Y a).O e z.cells.toList.length b),λw=>?_⟩;simp[Instr.alloc,d,newVar,newRow,Nw.d];cases h
def CZ (e:Ax)(x:Av):Nw:=⟨J2 x.cells.toList e x.cells.toList.length,.f,rfl⟩
variable {x V:Av}
def HV {e:Ax}(a:VR Y x V):tQ P Y (CZ e x) (Instr.box e V):=by refine⟨(λl c h=>by cases h),.cells V.cells e,V.cells.toList.length,_,(λb=>by simpa [CZ]using lJ a.O e x.cells.toList.length b),λw=>?_⟩;simp[Instr.box,newVar,newRow,Nw.d,CZ]
def qZ (P:Aw)(t:Ax)(x:Av):Bb Nw:=
 match P.underlying t,x with
 |some .string,.string s=>some ⟨.sit s 0,.f,rfl⟩|_,_=>none
def BK {t:Ax}(h:qZ P t x=n)(d:VR Y x V):tQ P Y n (Instr.range t V):=by unfold qZ at h;split at h;rename_i s a;cases h;cases d;refine⟨(λl c h=>by grind),.stringIter s 0,0,0,(λb=>⟨rfl,rfl⟩),λw=>?_⟩;simp[Instr.range,Xi a,Nw.d];cases h
def tF (P:Aw)(Z:Hp)(t:Ax)(k o:Nat):Ag:=
 match Z.m.l 0 with
 |some (.reg c n _ z)=>match P.underlying t with
  | some d => bif bP d then
    match P.info? t with
    | some  a => bif Nat.ble (k + 1) n && Nat.ble (o +  a.size) z then
      match j8 c (k*z+o) a.size with
      |some vs=>some<|.agg vs.toArray|none=>none
     else none
    |none=>none
   else bif Nat.ble (k+1) n&&Nat.ble (o+1) z then c.l (k*z+o)else none
  |none=>none
 |_=>none
variable {v:Av}
def FD {t:Ax}(h:tF P Z t k o=v)(b:Y.f 0 (k+1)=p)(x:HR B W Y Z w):∃u,VR Y v u/\(Instr.loadAt t<|.pointer<|some ⟨p.d,o,none⟩).run P w= .ok u w:=by
 rw[tF] at h;split at h
 .rename_i c n e z r;split at h
  .rename_i d s;cases g:bP d with
   |true=>
    rw[g,Xa]at h;split at h
    .rename_i y m;cases a:Nat.ble (k+1) n&&Nat.ble (o+y.size) z with
     |false=>grind|true=>rw[a,Xa]at h;simp only[WK,XX]at a;split at h;rename_i vs l;simp only[WJ]at h;subst h;let⟨X,i,q,j⟩:=x.U r a.1 a.2 l b;refine⟨.agg X.toArray,i.j,?_⟩;have:=run_loadCells_list (P:=P) w ⟨p.d,o,none⟩ X j;rw[q]at this;simp[Instr.loadAt,Instr.sureAddr,loadVar,bJ s,g,sizeOf,typeInfo,m,this];cases h
    cases h
   |false=>
    rw[g,Xb]at h;cases a:Nat.ble (k+1) n&&Nat.ble (o+1) z with
    |false=>grind|true=>
     rw[a,Xa]at h;simp only[WK,XX]at a;have l:j8 c (k*z+o) 1=[v]:=by simp[j8,h]
     let⟨X,i,q,j⟩:=x.U r a.1 a.2 l b;obtain⟨u,A,rfl,hv,_⟩:=i.d;refine⟨u,hv,?_⟩;have:=j 0 u rfl;rw[Addr.add_zero']at this;simp[Instr.loadAt,Instr.sureAddr,loadVar,bJ s,g,this]
  cases h
 cases h
def G4 (P:Aw)(Z:Hp)(t:Ax)(a:Av):Ag:=
 match a with
 | .pointer (some ⟨k,o,some 1⟩)=>tF P Z t k o| .pointer (some ⟨i,o,none⟩)=>match Z.m.l i with
  |some b=>match rdC b with
   |some (c,n,_)=>match P.underlying t with
    | some d => bif bP d then
      match P.info? t with
      | some  e => bif Nat.ble (o +  e.size) n then
        match j8 c o e.size with
        |some vs=>some<|.agg vs.toArray|none=>none
       else none
      |none=>none
     else bif Nat.ble (o+1) n then c.l o else none
    |none=>none
   |none=>none
  |none=>none
 |_=>none
variable {a a':Av}
def uN {t:Ax}(h:G4 P Z t a=v)(x:VR Y a a')(r:HR B W Y Z w):∃u,VR Y v u/\(Instr.loadAt t a').run P w= .ok u w:=by
 unfold G4 at h;split at h
 .rename_i k o;cases x with
  |rptr _ _ p e=>exact FD h e r
 .rename_i i o;cases x with
  |R _ _ p e=>
  split at h
  .rename_i b y;split at h
   .rename_i c n z A;split at h
    .rename_i d C;cases g:bP d with
     |true=>
      rw[g,Xa]at h;split at h
      .rename_i D q;cases f:Nat.ble (o+D.size) n with
       |false=>grind|true=>rw[f,Xa]at h;split at h;rename_i vs m;simp only[WJ]at h;subst h;let⟨X,j,s,l⟩:=r.I y A (WN f) m e;refine⟨.agg X.toArray,j.j,?_⟩;have:=run_loadCells_list (P:=P) w ⟨p.d,p.f+o,none⟩ X l;rw[s]at this;simp[Instr.loadAt,Instr.sureAddr,loadVar,bJ C,g,sizeOf,typeInfo,q,this];cases h
      cases h
     |false=>
      rw[g,Xb]at h;cases f:Nat.ble (o+1) n with
      |false=>grind|true=>
       rw[f,Xa]at h;have m:j8 c o 1=[v]:=by simp[j8,h]
       let⟨X,j,s,l⟩:=r.I y A (WN f) m e;obtain⟨u,E,rfl,hv,_⟩:=j.d;refine⟨u,hv,?_⟩;have:=l 0 u rfl;rw[Addr.add_zero']at this;simp[Instr.loadAt,Instr.sureAddr,loadVar,bJ C,g,this]
    cases h
   cases h
  cases h
 cases h
def tJ (Z:Hp)(i:Nat)(c:Ao)(n e z o:Nat)(vs:Af):Hp:=
 (fill c o vs).A λa=> {Z with m:=Z.m.m i<|some<|.cells a n e z}
def N7 (Z:Hp)(i:Nat)(c:Ao)(n e z o:Nat)(vs:Af):tJ Z i c n e z o vs= {Z with m:=Z.m.m i<|some<|.cells (fill c o vs) n e z}:=by rw[tJ,ZB]
def FM (P:Aw)(Z:Hp)(t:Ax)(k o:Nat)(x:Av):Bb Hp:=
 match Z.m.l 0 with
 |some (.reg c n e z)=>match P.info? t with
  |some a=>bif Nat.beq x.cells.toList.length a.size&&Nat.ble (k+1) n&&Nat.ble (o+a.size) z&&x.cells.toList.all Value.oneCell' then some (Z.h (fill c (k*z+o) x.cells.toList) n e z)else none|none=>none
 |_=>none
def Bn (Z:Hp)(vs:Af):Bb (Av×Hp):=
 match Z.m.l 0 with
 |some (.reg c n e z)=>bif Nat.beq e rgT&&Nat.beq vs.length z then some (.pointer<|some ⟨n,0,some 1⟩,Z.h (fill c (n*z) vs) (n+1) e z)else none|_=>none
def uO {X:Al}{b:Hp}(h:Bn Z vs=(v,b))(hv:VRL Y vs X.toList)(o:HR B W Y Z w):∃a,Sg.j Z.d b.d Y a/\VR a v (.pointer<|some ⟨w.heap.size,0,none⟩)/\HR B W a b (w.alloc<|.cells X rgT):=by
 rw[Bn] at h;split at h
 .rename_i c n e z m;cases d:Nat.beq e rgT&&Nat.beq vs.length z with
  |false=>grind|true=>rw[d,Xa]at h;simp only[WK,Xy]at d;obtain⟨rfl,q⟩:=d;cases h;let⟨a,f,g,⟨p,j,k⟩,l⟩:=o.allocG m hv q;refine⟨a,⟨f,λi _=>g i,Xh _⟩,?_,l⟩;rw[<-k];exact .rptr n 0 p j
 cases h
def G1 (P:Aw)(Z:Hp)(t:Ax)(a x:Av):Bb Hp:=
 match a with
 | .pointer (some ⟨k,o,some 1⟩)=>FM P Z t k o x| .pointer (some ⟨i,o,none⟩)=>match Z.m.l i with
  |some (.cells c n e z)=>match P.info? t with
   |some b=>bif Nat.beq x.cells.toList.length b.size&&Nat.ble (o+b.size) n&&x.cells.toList.all Value.oneCell' then some (tJ Z i c n e z o x.cells.toList)else none|none=>none
  |_=>none
 |_=>none
def VRL.g (h:VRL Y vs X)(hv:vs.all Value.oneCell'):∀u∈X,u.oneCell':=by
 intro u c;obtain⟨j,a,rfl⟩:=List.mem_iff_getElem.1 c;have b:j<vs.length:=by rw[h.1];exact a
 exact(h.2 j vs[j] X[j] (by simp)<|by simp).oneCell (by grind)
def HR.N (d:HR B W Y Z w){i n z:Nat}(a:Z.m.l i=some (.cells c n e z))(b:Y i=p):p.f+n<=p.g/\p.h=z:=by let⟨j,C,f,g,_,_,_,h,_⟩:=d.L a;grind
def FN {t:Ax}{g:Hp}(h:G1 P Z t a x=g)(y:VR Y a a')(C:VR Y x V)(v:HR B W Y Z w):∃m,(Instr.storeAt t a' V).run P w= .ok () m/\HR B W Y g m/\g.d=Z.d:=by
 unfold G1 at h;split at h
 .rename_i k o;cases y with
  |rptr _ _ p f=>
  rw[FM] at h;split at h
  .rename_i c n e z q;split at h
   .rename_i l j;cases d:Nat.beq x.cells.toList.length l.size&&Nat.ble (k+1) n&&Nat.ble (o+l.size) z&&x.cells.toList.all Value.oneCell' with
    |false=>grind|true=>
     rw[d,Xa]at h;simp only[WJ]at h;subst h;simp only[WK]at d;have r:=WO d.1.1.1;have D:=WN d.1.2;have b:=C.O;let⟨m,s,A⟩:=v.storeG (o:=o) q (WN d.1.1.2) f b (b.g d.2) (by omega) P;refine⟨m,?_,A,rfl⟩;have u:V.cells.size=l.size:=by rw[<-r,b.1];simp
     simp[Instr.storeAt,Instr.sureAddr,storeVar,sizeOf,typeInfo,j,u,s]
   cases h
  cases h
 .rename_i i o;cases y with
  |R _ _ p f=>
  split at h
  .rename_i c n e z q;split at h
   .rename_i l j;cases d:Nat.beq x.cells.toList.length l.size&&Nat.ble (o+l.size) n&&x.cells.toList.all Value.oneCell' with
    |false=>grind|true=>
     rw[d,Xa,N7]at h;simp only[WJ]at h;subst h;simp only[WK]at d;have r:=WO d.1.1;have D:=WN d.1.2;have b:=C.O;let⟨F,_⟩:=v.N q f;let⟨m,s,A,_⟩:=v.J (o:=o) q f b (b.g d.2) (by omega) (by omega) P;refine⟨m,?_,?_,rfl⟩
     .have u:V.cells.size=l.size:=by rw[<-r,b.1];simp
      simp[Instr.storeAt,Instr.sureAddr,storeVar,sizeOf,typeInfo,j,u,s]
     grind
   cases h
  cases h
 cases h
def xrep :Nat->Af->Af
 |0,_=>[]
 |n+1,a=>a++xrep n a
def xrep_length (a:Af):∀n,(xrep n a).length=n*a.length
 |0=>by simp[xrep]|n+1=>by simp[xrep,xrep_length a n,Yj,Nat.add_comm]
def fF (a:Af):∀(n j:Nat),j<n*a.length->(xrep n a)[j]? =a[j % a.length]?
 |0,j,h=>by simp at h|n+1,j,h=>by simp only[xrep];by_cases b:j<a.length;rw[WS b,YQ b];rw[WR<|by omega,fF a n (j-a.length) (by rw[Yj]at h;omega)];rw[Nat.mod_eq_sub_mod (by omega:a.length<=j)]
def lG (z:Al)(n:Nat):((Array.range<|n*z.size).map<|λi=>z[i % z.size]!).toList=xrep n z.toList:=by
 apply List.ext_getElem?;intro j;by_cases b:j<n*z.size
 .rw[fF z.toList n j (by omega)];have a:0<z.size:=by grind
  have c:j % z.size<z.size:=Nat.mod_lt _ a;grind
 rw[YT<|by grind,YT<|by rw[xrep_length];simp;omega]
def VRL.q {a:Af}(h:VRL Y a a):∀n,VRL Y (xrep n a) (xrep n a)
 |0=>ZN Y|n+1=>h.f<|VRL.q h n
def KB (P:Aw)(t:Ax)(len:Nat)(a:List (Nat×Av)):Bb Nw:=
 match P.underlying t with
 |some (.slice e)=>match P.info? e with
  |some b=>match T5 P e with
   | some z => bif Nat.beq z.cells.toList.length  b.size && Nat.ble (len *  b.size) 16777216 && Nat.ble len 16777216 then
     match nC (λi=>some (i*b.size,b.size)) (xrep len z.cells.toList) a with
     |some c=>some ⟨J2 c e b.size,.d len len,rfl⟩|none=>none
    else none
   |none=>none
  |none=>none
 |_=>none
def KD {t:Ax}{len:Nat}{xs:List (Nat×Av)}{ys:Array (Nat×Av)}(h:KB P t len xs=n)(C:PVR Y xs ys.toList):tQ P Y n (Instr.buildSlice t len ys):=by
 rw[KB] at h;split at h
 .rename_i e u;split at h
  .rename_i a k;split at h
   .rename_i z D;cases g:Nat.beq z.cells.toList.length a.size&&Nat.ble (len*a.size) 16777216&&Nat.ble len 16777216 with
    |false=>grind|true=>
     rw[g,Xa]at h;simp only[WK]at g;have x:=WO g.1.1;have E:=WN g.1.2;have F:=WN g.2;split at h
     .rename_i v B;cases h;let⟨A,q⟩:=V0 D;have d:∀o:Al,o=(if len*a.size=0 then #[]else z.cells)->((Array.range<|len*a.size).map<|λi=>o[i % o.size]!).toList=xrep len z.cells.toList:=λo p=>by by_cases f:len*a.size=0;have G:=WP (by rw[xrep_length,x];exact f);grind;rw[Xd f]at p;have:=lG z.cells len;grind
      let⟨s,m,y⟩:=kP _ xs ys.toList (xrep len z.cells.toList) v ((Array.range<|len*a.size).map<|λi=>(if len*a.size=0 then #[]else z.cells)[i % (if len*a.size=0 then #[]else z.cells).size]!) B C
       (by rw[d _ rfl];exact ((fI Y A).O).q len)
      refine⟨(λl c h=>by cases h;exact⟨Xh _,by rw[unk];omega⟩),.cells s e,s.toList.length,_,(λb=>by simpa using lJ y e a.size b),λw=>?_⟩;have j:¬len*a.size>2^24:=by omega
      by_cases f:len*a.size=0;rw[Xg f]at m;simp only[Instr.buildSlice,Xn,Xi u,Xj,sizeOf,typeInfo,YP,k,Xs,Xd j,Xg f,m,newRow,run_newObj];rfl;rw[Xd f]at m;simp only[Instr.buildSlice,Xn,Xi u,Xj,sizeOf,typeInfo,YP,k,Xs,Xd j,Xd f,q,m,newRow,run_newObj];rfl
     cases h
   cases h
  cases h
 cases h
def Od (P:Aw)(t:Ax)(l c:Av):Bb Nw:=
 match l,c with
 | .int _ ln,.int _ a=>match P.underlying t with
  |some (.slice e)=>match P.info? e with
   |some b=>match T5 P e with
    | some z => bif decide (0 ≤ ln) && decide (ln ≤  a) && decide ( a ≤ 1048576) && Nat.ble  b.bytes 1048576 && Nat.beq z.cells.toList.length  b.size then
      some ⟨J2 (xrep a.toNat z.cells.toList) e b.size,.d ln.toNat a.toNat,rfl⟩
     else none
    |none=>none
   |none=>none
  |_=>none
 |_,_=>none
def KG {t:Ax}{l c B v:Av}(h:Od P t l c=n)(y:VR Y l B)(H:VR Y c v):tQ P Y n (Instr.makeSlice t B v):=by
 unfold Od at h;split at h
 .rename_i M ln N a;cases y;cases H;split at h
  .rename_i e A;split at h
   .rename_i g k;split at h
    .rename_i z I;cases o:decide (0<=ln)&&decide (ln<=a)&&decide (a<=1048576)&&Nat.ble g.bytes 1048576&&Nat.beq z.cells.toList.length g.size with
     |false=>grind|true=>
      rw[o,Xa]at h;simp only[WK,Xf]at o;let⟨⟨⟨⟨J,K⟩,E⟩,u⟩,F⟩:=o;have u:=WN u;have G:=WO F;cases h;let⟨p,r⟩:=V0 I;have D:IntKind.i64.wrap ln=ln:=IntWalk.i64_in _ (by omega);have C:IntKind.i64.wrap a=a:=IntWalk.i64_in _ (by omega);have d:∀m:Al,m=(if a.toNat*g.size=0 then #[]else z.cells)->(Array.range<|a.toNat*g.size).map (λi=>m[i % m.size]!)=(xrep a.toNat z.cells.toList).toArray:=λm q=>by by_cases j:a.toNat*g.size=0;have y:=WP (by rw[xrep_length,G];exact j);grind;rw[Xd j]at q;have:=lG z.cells a.toNat;grind
      refine⟨(λl c h=>by cases h;exact⟨by omega,by rw[unk];omega⟩),.cells (xrep a.toNat z.cells.toList).toArray e,_,_,(λb=>lJ (((fI Y p).O).q a.toNat) e g.size b),λw=>?_⟩;have x:¬((g.bytes:Int)*a>2^48):=by have L:(g.bytes:Int)*a<=1048576*1048576:=Int.mul_le_mul (by omega) E (by omega) (by omega);omega
      have f:¬((decide (a<0)||decide ((g.bytes:Int)*a>2^48))||decide (ln<0)||decide (ln>a))=true:=by grind
      by_cases j:a.toNat*g.size=0;have:=d #[] (by grind);simp only[Instr.makeSlice,Xn,Xi A,Xj,asInt,asIntOf,Xs,typeInfo,YP,k,D,C,Xd f,run_askRoom,sizeOf,Xg j,this,newRow,run_newObj];rfl;have:=d z.cells (by rw[Xd j]);simp only[Instr.makeSlice,Xn,Xi A,Xj,asInt,asIntOf,Xs,typeInfo,YP,k,D,C,Xd f,run_askRoom,sizeOf,Xd j,r,this,newRow,run_newObj];rfl
    cases h
   cases h
  cases h
 cases h
end
end Go.Xe
namespace Go.Xe
open Go.RowKit
section
variable {P :Aw}{B:BS}{V:Bc}{W:Sg}{Z:Hp}{w:Bc}
def A8 (Z:Hp)(size:Nat)(x:Av):Bb (Nat×Af):=
 match x with
 | .slice none n _=>bif Nat.beq n 0 then some (0,[])else none| .slice (some ⟨i,o,none⟩) n _=>match Z.m.l i with
  |some b=>match rdC b with
   | some (c, k, _) => bif Nat.ble (o + n * size) k then
     match j8 c o (n*size)with
     |some vs=>some (n,vs)|none=>none
    else none
   |none=>none
  |none=>none
 | .slice (some ⟨0,0,some 0⟩) 0 _=>some (0,[])|_=>none
variable {x x':Av}{vs:Af}
def qW {size n:Nat}(h:A8 Z size x=(n,vs))(g:VR W x x')(A:HR B V W Z w):∃e,VRL W vs e/\e.length=n*size/\(∃b c,x'= .slice b n c/\(b=none->n=0/\e=[])/\ ∀a,b=some a-> ∀j u,e[j]? =some u->w.cell? (a.add j)=some u):=by
 unfold A8 at h;split at h
 .rename_i k c;cases d:Nat.beq k 0 with
  |false=>grind|true=>rw[d,Xa]at h;cases h;have s:=WO d;subst s;cases g;exact⟨[],ZN W,by simp,none,c,rfl,(λ_=>⟨rfl,rfl⟩),(λa G=>by grind)⟩
 .rename_i i o k cap;split at h
  .rename_i b r;split at h
   .rename_i c m z y;cases d:Nat.ble (o+k*size) m with
    |false=>grind|true=>
     rw[d,Xa]at h;split at h
     .rename_i C t;cases h;cases g with
      |F _ _ p _ _ l f H v=>
      let⟨e,D,E,F⟩:=A.I r y (WN d) t f;grind
     cases h
   cases h
  cases h
 .simp at h;obtain⟨rfl,rfl⟩:=h;cases g with
  |L q l=>exact⟨[],ZN W,by simp,_,l,rfl,(λh=>by grind),(by grind)⟩
 cases h
variable {X:Af}
def jY {size n:Nat}{b:Aq}{c:Nat}(d:X.length=n*size)(e:b=none->n=0/\X=[])(f:∀a,b=some a-> ∀j u,X[j]? =some u->w.cell? (a.add j)=some u):(Builtin.firstCells size n<|.slice b n c).run P w= .ok X.toArray w:=by
 cases b with
 |none=>obtain⟨rfl,rfl⟩:=e rfl;exact run_firstCells_none w size 0 0 c
 |some a=>exact run_firstCells_some w size n a n c X d<|f a rfl
variable {Y:Bc}
def S9 (t u p e j:Ax)(i:Ba)(m:P.underlying t=some (.slice e))(o:P.underlying u=some (.slice j))(l:P.info? e=i)(a:Addr)(d f n c:Nat)(b:Aq)(X:Af)(k:(Builtin.firstCells i.size n<|.slice b n c).run P w= .ok X.toArray w)(g:d+n<=f)(h:(storeCells (a.add<|d*i.size) X).run P w= .ok () Y):(Builtin.append_ #[t,u] p #[.slice (some a) d f,.slice b n c]).run P w= .ok (.slice (some a) (d+n) f) Y:=by simp[Builtin.append_,Xi m,Xi o,sizeOf,typeInfo,l,Builtin.lenOf,g,k,h]
def aK (t u B e p:Ax)(i:Ba)(z:Av)(x:P.underlying t=some (.slice e))(y:P.underlying u=some (.slice p))(s:P.info? e=i)(A:i.zero=z)(f:Aq)(a d n c:Nat)(b:Aq)(g X:Af)(l:∀Y,Y.heap=w.heap->(Builtin.firstCells i.size a<|.slice f a d).run P Y= .ok g.toArray Y)(r:∀Y,Y.heap=w.heap->(Builtin.firstCells i.size n<|.slice b n c).run P Y= .ok X.toArray Y)(C:d<a+n)(q:((a+n:Nat):Int)<=9223372036854775807)(m:Builtin.nextslicecap (a+n) d*i.bytes<=281474976710656):(Builtin.append_ #[t,u] B #[.slice f a d,.slice b n c]).run P w= .ok (.slice (some ⟨w.heap.size,0,none⟩) (a+n)<|grownCap w (a+n) d e) (w.drew.alloc<|.cells (g.toArray++X.toArray++Builtin.zeroCells z.cells (grownCap w (a+n) d e-(a+n))) e):=by
 simp[Builtin.append_,Xi x,Xi y,sizeOf,typeInfo,zeroValue,s,A,Builtin.lenOf,(by omega),(by omega),(by omega),Question.forced,r w.drew rfl,l w.drew rfl,newRow,grownCap];grind
def HR.kill (h:HR B V W Z w)(i:Nat):HR B V W {Z with m:=Z.m.m i none} w:=by refine h.sub (Xh _) λj b a=>?_;have a:(Z.m.m i none).l j=some b:=a;rw[ZD]at a;grind
def HR.n (f:HR B V W Z w)(hv:VRL W vs X)(a:Al)(c:Ao)(g:∀j,j<vs.length->c.l j=vs[j]?)(e z:Nat):HR B V (W.d Z.d ⟨w.heap.size,0,X.length+a.size,z⟩) ⟨Z.m.m Z.d<|some<|.cells c vs.length e z,Z.d+1⟩ (w.drew.alloc<|.cells (X.toArray++a) e):=by
 have:=f.drew.alloc c vs.length e z (X.toArray++a) (by rw[hv.1];simp) (λj d=>by
  have b:j<X.length:=by rw[<-hv.1];exact d
  refine⟨vs[j],X[j],by grind,?_,hv.2 j _ _ (by simp)<|by simp⟩;simp[Array.getElem?_append,b])
 simp_all
def HR.of_same (h:HR B V W Z w){a:Hp}(e:a.d=Z.d)(d:∀i,a.m.l i=Z.m.l i):HR B V W a w:=
 h.sub (Nat.le_of_eq e.symm) λi b c=>by rw[<-d];exact c
def F8 (P:Aw)(Z:Hp)(t u:Ax)(s x:Av):Bb (Av×Hp):=
 match P.underlying t,P.underlying u with
 |some (.slice e),some (.slice _)=>match P.info? e with
  |none=>none|some f=>match f.zero with
   |none=>none
   | some z => bif Nat.beq z.cells.toList.length  f.size && Nat.ble  f.bytes 1048576 then
     match A8 Z f.size x with
     |none=>none|some (n,d)=>match s with
      | .slice none    a    b => bif Nat.beq    a 0 && Nat.beq    b 0 && Nat.ble n 67108864 then
        bif Nat.beq n 0 then some (.slice none 0 0,Z)
        else some (.slice (some ⟨Z.d,0,none⟩) n<|i4 n 0,Z.f d e f.size)
       else none
      | .slice (some ⟨i,o,none⟩) a b=>match Z.m.l i with
       |some (.cells c k h j)=>
        bif Nat.ble (a+n) 67108864&&d.all Value.oneCell' then
         bif Nat.beq n 0 then
          bif Nat.ble a b then some (.slice (some ⟨i,o,none⟩) a b,Z)else none
         else
          bif Nat.ble unk b then
           bif Nat.ble 1 (I0 b)&&Nat.ble (I0 b) (a+n)then
            bif Nat.ble (o+a*f.size) k then
             match j8 c o (a*f.size)with
             |none=>none|some g=>some (.slice (some ⟨Z.d,0,none⟩) (a+n)<|i4 (a+n) 0,Z.f (g++d) e f.size)
            else none
           else bif Nat.beq j f.size&&Nat.beq h e&&Nat.ble (o+a*f.size) k then
            bif Nat.ble (a+n) (R7 b)then
             some (.slice (some ⟨i,o,none⟩) (a+n) b,tJ Z i c (Nat.max k<|o+(a+n)*f.size) h j (o+a*f.size) d)
            else
            match j8 c o (a*f.size)with
            |none=>none|some g=>
             (bif Nat.beq o 0 then fill c (a*f.size) d else fill (fill .e 0 g) (a*f.size) d).A λl=>
              some (.slice (some ⟨Z.d,0,none⟩) (a+n)<|i4 (a+n) 0,⟨(Z.m.m i none).m Z.d<|some<|.cells l ((a+n)*f.size) h j,Z.d+1⟩)
           else none
          else bif Nat.ble (a+n) b then
           bif Nat.ble (o+(a+n)*f.size) k then
            some (.slice (some ⟨i,o,none⟩) (a+n) b,tJ Z i c k h j (o+a*f.size) d)
           else none
          else
           bif Nat.ble (o+a*f.size) k then
            match j8 c o (a*f.size)with
            |none=>none|some g=>some (.slice (some ⟨Z.d,0,none⟩) (a+n)<|i4 (a+n) 0,Z.f (g++d) e f.size)
           else none
        else none
       |some (.ro c k _ _)=>
        bif Nat.ble (a+n) 67108864&&Nat.ble a b&& !Nat.ble unk b then
         bif Nat.beq n 0 then some (.slice (some ⟨i,o,none⟩) a b,Z)
         else bif Nat.ble (a+n) b then none
         else bif Nat.ble (o+a*f.size) k then
          match j8 c o (a*f.size)with
          |none=>none|some g=>some (.slice (some ⟨Z.d,0,none⟩) (a+n)<|i4 (a+n) 0,Z.f (g++d) e f.size)
         else none
        else none
       |_=>none
      |_=>none
    else none
 |_,_=>none
def B6 {c:Ao}:∀ {vs:Af} {o:Nat},(∀j,j<vs.length->c.l (o+j)=vs[j]?)->j8 c o vs.length=vs
 | [],o,_=>rfl|v::vs,o,h=>by simp only[XD,j8];have a:=h 0 (by simp);simp only[Yi,WZ]at a;rw[a];have:=B6 (c:=c) (vs:=vs) (o:=o+1) (λj b=>by have:=h (j+1) (by simp;omega);rw[show o+(j+1)=o+1+j by omega]at this;simpa using this);rw[this]
def VR.unkSlice (W:Sg)(i:Nat)(p:Pl)(d:p.f=0){l a:Nat}(b:l<=a)(c:a*p.h<=p.g):VR (W.d i p) (.slice (some ⟨i,0,none⟩) l<|i4 l 0) (.slice (some ⟨p.d,0,none⟩) l a):=by have:=VR.F (σ:=W.d i p) i 0 p l (i4 l 0) a (Zx _ _ _) (.inr ⟨y5 _ _,by rw[K9 I8];exact b,.inl<|J4 I8,by omega⟩) b;grind
def kV (h:Y.heap=w.heap)(a:Addr):Y.cell? a=w.cell? a:=by unfold World.cell?;rw[h]
set_option maxHeartbeats 1000000 in
def BJ {t u:Ax}{s s':Av}{v:Av}{aa:Hp}(h:F8 P Z t u s x=(v,aa))(hs:VR W s s')(hx:VR W x x')(L:HR B V W Z w)(ty:Ax):MOK Z B V W v aa ((Builtin.append_ #[t,u] ty #[s',x']).run P w):=by
 unfold F8 at h;split at h;case h_2=>cases h
 rename_i e e2 ht hu;split at h;cases h;rename_i g J;split at h;cases h;rename_i z hz;cases hb:Nat.beq z.cells.toList.length g.size&&Nat.ble g.bytes 1048576 with
 |false=>grind|true=>
 rw[hb,Xa]at h;simp only[WK]at hb;have ez:z.cells.size=g.size:=by simp_all
 have eb:=WN hb.2;split at h;cases h;rename_i n r bv;obtain⟨X,hv,D,b,c,rfl,bh,bi⟩:=qW bv hx L;have U:r.length=n*g.size:=by rw[hv.1];exact D
 have hf:(Builtin.firstCells g.size n<|.slice b n c).run P w= .ok X.toArray w:=jY D bh bi;have ay:∀Y:Bc,Y.heap=w.heap->(Builtin.firstCells g.size n<|.slice b n c).run P Y= .ok X.toArray Y:=λY hh=>
  jY D bh (λa ha j u hu=>by rw[kV hh];exact bi a ha j u hu)
 split at h
 .rename_i d f;cases Q:Nat.beq d 0&&Nat.beq f 0&&Nat.ble n 67108864 with
  |false=>grind|true=>
  rw[Q,Xa]at h;simp only[WK]at Q;have e1:=WO Q.1.1;have bt:=WO Q.1.2;have hn:=WN Q.2;subst e1;subst bt;cases hs;cases y:Nat.beq n 0 with
  |true=>rw[y,Xa]at h;cases h;have:=WO y;subst this;have an:X=[]:=WP (by simpa using D);refine⟨W,.slice none 0 0,w,?_,Zy _ W,.nils 0 0,L⟩;simp[Builtin.append_,Xi ht,Xi hu,sizeOf,typeInfo,J,Builtin.lenOf,hf]
  |false=>
   rw[y,Xb]at h;cases h;have aq:n≠0:=λe=>by rw[e]at y;cases y
   have hr:=aK (P:=P) (w:=w) t u ty e e2 g z ht hu J hz none 0 0 n c b [] X (λY _=>run_firstCells_none Y g.size 0 0 0) ay (by omega) (by omega)
    (growslice_fits (by omega) (by have:=Nat.mul_le_mul (show 0+n<=67108864 by omega) eb;omega))
   simp only[Xq]at hr;have ad:=grownCap_ge w n 0 e;refine⟨_,_,_,hr,L.D _,VR.unkSlice W Z.d ⟨w.heap.size,0,X.length+(Builtin.zeroCells z.cells<|grownCap w n 0 e-n).size,g.size⟩ rfl ad ?_,?_⟩;show grownCap w n 0 e*g.size<=X.length+_;rw[size_zeroCells,D,ez,<-Xu];grind;simpa [Hp.f]using (L.n hv (Builtin.zeroCells z.cells<|grownCap w n 0 e-n) (fill .e 0 r) (λj hj=>u5 r j hj) e g.size)
 .rename_i i o d f;split at h;case h_3=>cases h
  case h_2=>
   rename_i k0 k e' z' hg;cases Q:Nat.ble (d+n) 67108864&&Nat.ble d f&& !Nat.ble unk f with
   |false=>grind|true=>
   rw[Q,Xa]at h;simp only[WK,XI]at Q;let⟨⟨g1,g2⟩,g3⟩:=Q;have hn:=WN g1;have g3:¬unk<=f:=λh=>by rw[WQ h]at g3;cases g3
   cases hs with
   |F _ _ p _ _ E G ac az=>
   obtain⟨rfl,_⟩:f=E/\f<unk:=by grind
   cases y:Nat.beq n 0 with
   |true=>rw[y,Xa]at h;have:=WO y;subst this;have an:X=[]:=WP (by simpa using D);subst an;cases h;refine⟨W,_,w,S9 t u ty e e2 g ht hu J _ d f 0 c b [] hf (by omega)<|by simp[storeCells],Zy _ W,.F i o p d f f G ac az,L⟩
   |false=>
   rw[y,Xb]at h;have aq:n≠0:=λe=>by rw[e]at y;cases y
   cases bb:Nat.ble (d+n) f with
   |true=>grind|false=>
   rw[bb,Xb]at h;have S:f<d+n:=Nat.lt_of_not_le λh=>by rw[WQ h]at bb;cases bb
   cases C:Nat.ble (o+d*g.size) k with
   |false=>grind|true=>
   rw[C,Xa]at h;split at h;cases h;rename_i q K;simp only[WJ,WL]at h;obtain⟨rfl,rfl⟩:=h;let⟨A,be,F,au⟩:=L.I hg rfl (WN C) K G;have ax:∀Y:Bc,Y.heap=w.heap->(Builtin.firstCells g.size d<|.slice (some ⟨p.d,p.f+o,none⟩) d f).run P Y= .ok A.toArray Y:=λY hh=>
    run_firstCells_some Y g.size d _ d f A F (λj u hu=>by rw[kV hh];exact au j u hu)
   have hr:=aK (P:=P) (w:=w) t u ty e e2 g z ht hu J hz (some ⟨p.d,p.f+o,none⟩) d f n c b A X ax ay S (by omega)
    (growslice_fits S (by have:=Nat.mul_le_mul hn eb;omega))
   have ad:=grownCap_ge w (d+n) f e;have I:=be.f hv;have av:(q++r).length=(d+n)*g.size:=by rw[I.1,Xl,F,D,Xu]
   have N:=L.n I (Builtin.zeroCells z.cells<|grownCap w (d+n) f e-(d+n)) (fill .e 0<|q++r) (λj hj=>u5 _ j hj) e g.size;have bc:(A++X).length=(d+n)*g.size:=by rw[<-I.1];exact av
   rw[show(A++X).toArray=A.toArray++X.toArray by simp]at N;refine⟨_,_,_,hr,L.D _,VR.unkSlice W Z.d ⟨w.heap.size,0,(A++X).length+(Builtin.zeroCells z.cells<|grownCap w (d+n) f e-(d+n)).size,g.size⟩ rfl ad ?_,by simpa [Hp.f]using N⟩;show grownCap w (d+n) f e*g.size<=(A++X).length+_;rw[size_zeroCells,bc,ez,<-Xu];grind
  rename_i k0 k e' z' hg;cases Q:Nat.ble (d+n) 67108864&&r.all Value.oneCell' with
  |false=>rw[Q]at h;cases h
  |true=>
  rw[Q,Xa]at h;simp only[WK]at Q;have hn:=WN Q.1;have ah:=hv.g Q.2;cases hs with
  |F _ _ p _ _ E G ac az=>
  let⟨k1,k2⟩:=L.N hg G;cases y:Nat.beq n 0 with
  |true=>
   rw[y,Xa]at h;have:=WO y;subst this;have an:X=[]:=WP (by simpa using D);subst an;cases aj:Nat.ble d f with
   |false=>simp_all|true=>rw[aj,Xa]at h;simp only[WJ,WL]at h;obtain⟨rfl,rfl⟩:=h;refine⟨W,_,w,S9 t u ty e e2 g ht hu J _ d E 0 c b [] hf (by omega)<|by simp[storeCells],Zy _ W,.F i o p d f E G ac az,L⟩
  | false =>
  rw[y,Xb]at h;have aq:n≠0:=λe=>by rw[e]at y;cases y
  have ao:∀q:Af,j8 k0 o (d*g.size)=q->o+d*g.size<=k->E<d+n-> ∀(al:Hp),HR B V W al w-> ∀ct:Ao,(∀j,j<(q++r).length->ct.l j=(q++r)[j]?)->
    ∀ex zx,ex=e->zx=g.size->al.d=Z.d->
    MOK Z B V W (.slice (some ⟨Z.d,0,none⟩) (d+n)<|i4 (d+n) 0) ⟨al.m.m Z.d<|some<|.cells ct ((d+n)*g.size) ex zx,Z.d+1⟩
     ((Builtin.append_ #[t,u] ty #[.slice (some ⟨p.d,p.f+o,none⟩) d E,.slice b n c]).run P w):=by
   rintro q K C S al bz ct aw ex zx rfl rfl bw;obtain⟨A,be,F,au⟩:=L.cells hg C K G;have ax:∀Y:Bc,Y.heap=w.heap->(Builtin.firstCells g.size d<|.slice (some ⟨p.d,p.f+o,none⟩) d E).run P Y= .ok A.toArray Y:=λY hh=>
    run_firstCells_some Y g.size d _ d E A F (λj u hu=>by rw[kV hh];exact au j u hu)
   have hr:=aK (P:=P) (w:=w) t u ty ex e2 g z ht hu J hz (some ⟨p.d,p.f+o,none⟩) d E n c b A X ax ay S (by omega)
    (growslice_fits S (by have:=Nat.mul_le_mul hn eb;omega))
   have ad:=grownCap_ge w (d+n) E ex;have I:=be.f hv;have av:(q++r).length=(d+n)*g.size:=by rw[I.1,Xl,F,D,Xu]
   have N:=bz.n I (Builtin.zeroCells z.cells<|grownCap w (d+n) E ex-(d+n)) ct aw ex g.size;rw[av,bw]at N;have bc:(A++X).length=(d+n)*g.size:=by grind
   rw[show(A++X).toArray=A.toArray++X.toArray by simp]at N;refine⟨_,_,_,hr,L.D _,VR.unkSlice W Z.d ⟨w.heap.size,0,(A++X).length+(Builtin.zeroCells z.cells<|grownCap w (d+n) E ex-(d+n)).size,g.size⟩ rfl ad ?_,N⟩;show grownCap w (d+n) E ex*g.size<=(A++X).length+_;rw[size_zeroCells,bc,ez,<-Xu];exact WW _ (by omega)
  have ab:∀ {v:Av} {aa:Hp},E<d+n->(bif Nat.ble (o+d*g.size) k then
    match j8 k0 o (d*g.size)with
    |none=>none|some q=>some (Value.slice (some ⟨Z.d,0,none⟩) (d+n)<|i4 (d+n) 0,Z.f (q++r) e g.size)
   else none)=(v,aa)->MOK Z B V W v aa ((Builtin.append_ #[t,u] ty #[.slice (some ⟨p.d,p.f+o,none⟩) d E,.slice b n c]).run P w):=by
   intro v aa S h;cases C:Nat.ble (o+d*g.size) k with
   |false=>rw[C]at h;cases h
   |true=>rw[C,Xa]at h;split at h;cases h;rename_i q K;simp only[WJ,WL]at h;obtain⟨rfl,rfl⟩:=h;have ak:=(u7 K).1;have:=ao q K (WN C) S Z L (fill .e 0<|q++r) (λj hj=>u5 _ j hj) e g.size rfl rfl rfl;rw[show(d+n)*g.size=(q++r).length by rw[Xl,ak,U,Xu]]at this;exact this
  cases R:Nat.ble unk f with
  |true=>
   rw[R,Xa]at h;have R:=WN R;obtain⟨bk,bj,ap⟩:R7 f<=E/\(I0 f=0\/E<I0 f)/\p.f+o+E*p.h<=p.g:=by obtain⟨_,h⟩| ⟨_,h2,h3,h4⟩:=ac;omega;exact⟨h2,h3,h4⟩
   cases H:Nat.ble 1 (I0 f)&&Nat.ble (I0 f) (d+n)with
   |true=>rw[H,Xa]at h;simp only[WK]at H;have g1:=WN H.1;have g2:=WN H.2;exact ab (by omega) h|false=>
   rw[H,Xb]at h;cases h1:Nat.beq z' g.size&&Nat.beq e' e&&Nat.ble (o+d*g.size) k with
   |false=>rw[h1]at h;cases h
   |true=>
   rw[h1,Xa]at h;simp only[WK]at h1;have bg:=WO h1.1.1;have he:=WO h1.1.2;have C:=WN h1.2;cases am:Nat.ble (d+n) (R7 f)with
   |true=>
    rw[am,Xa,N7]at h;have am:=WN am;have l:d+n<=E:=by omega
    simp only[WJ,WL]at h;obtain⟨rfl,rfl⟩:=h;have bm:p.f+(o+d*g.size+n*g.size)<=p.g:=by
     have:(d+n)*g.size<=E*p.h:=by rw[k2,bg];exact WW _ l
     rw[Xu]at this;omega
    obtain⟨Y,ai,hh,_⟩:=L.J (o:=o+d*g.size) hg G hv ah C (by rw[U];omega) P;have M:(⟨p.d,p.f+o,none⟩:Addr).add (d*g.size)=⟨p.d,p.f+(o+d*g.size),none⟩:=by rw[YF,Yc]
    refine⟨W,_,Y,S9 (P:=P) t u ty e e2 g ht hu J ⟨p.d,p.f+o,none⟩ d E n c b X hf l (Y:=Y) (by rw[M];exact ai),Zy _ W,.F i o p _ _ _ G (.inr ⟨R,bk,bj,ap⟩) l,?_⟩;rw[U,show max k (o+d*g.size+n*g.size)=Nat.max k (o+(d+n)*g.size) by rw[Xu,Yc]]at hh;exact hh
   |false=>
   rw [am,Xb] at h;split at h;cases h;rename_i q K;rw[ZB]at h;generalize bp:(bif Nat.beq o 0 then fill k0 (d*g.size) r else fill (fill .e 0 q) (d*g.size) r)=ct at h;simp only[WJ,WL]at h;obtain⟨rfl,rfl⟩:=h;obtain⟨ak,ba⟩:=u7 K;have aw:∀j,j<(q++r).length->ct.l j=(q++r)[j]? :=by
    intro j hj;rw[<-bp];have ca:j<d*g.size+r.length:=by simpa [ak]using hj
    by_cases bn:j<d*g.size
    .rw[WS (by omega),ba j bn];cases ho:Nat.beq o 0 with
     |true=>have:=WO ho;subst this;rw[Xa,j6,af];simp|false=>rw[Xb,j6,af,u5 q j<|by omega,ba j bn]
    .rw[WR (by omega),ak];cases ho:Nat.beq o 0 with
     |true=>rw[Xa,j6,Xg<|by omega]|false=>rw[Xb,j6,Xg<|by omega]
   by_cases l:d+n<=E
   ·
    have bm:p.f+o+(d*g.size+n*g.size)<=p.g:=by
     have:(d+n)*g.size<=E*p.h:=by rw[k2,bg];exact WW _ l
     rw[Xu]at this;omega
    have aj:=L.D ⟨p.d,p.f+o,p.g,p.h⟩;obtain⟨Y,ai,hh,_⟩:=(L.move hg G (o:=o) (k:=d*g.size) C (bif Nat.beq o 0 then k0 else fill .e 0 q) (λj hj=>by
     cases ho:Nat.beq o 0 with
     |true=>have:=WO ho;subst this;simp|false=>rw[Xb,u5 q j<|by omega,ba j hj])).J (i:=Z.d) (o:=d*g.size) (by rw[ZD,Xg rfl]) (Zx _ _ _) (hv.m aj.d) ah (Xh _) (by show p.f+o+_+_<=p.g;rw[U];omega) P;have O:=S9 (P:=P) t u ty e e2 g ht hu J ⟨p.d,p.f+o,none⟩ d E n c b X hf l (Y:=Y) (by rw[YF _ _ _];exact ai);refine⟨_,_,Y,O,aj,?_,?_⟩;have:=VR.F (σ:=W.d Z.d ⟨p.d,p.f+o,p.g,p.h⟩) Z.d 0 ⟨p.d,p.f+o,p.g,p.h⟩ (d+n) (i4 (d+n) 0) E (Zx _ _ _) (.inr ⟨y5 _ _,by rw[K9 I8];exact l,.inl<|J4 I8,by simpa using ap⟩) l;simpa using this
    .have bu:fill (bif Nat.beq o 0 then k0 else fill .e 0 q) (d*g.size) r=ct:=by rw[<-bp];cases Nat.beq o 0<;>rfl
     rw[bu,U,show max (d*g.size) (d*g.size+n*g.size)=(d+n)*g.size by rw[Xu];omega]at hh;refine hh.of_same rfl<|λj=>?_;simp only[ZD];split<;>rfl
   subst bg;subst he;exact ao q K C (by omega) {Z with m:=Z.m.m i none} (L.kill i) _ aw _ _ rfl rfl rfl
  |false=>
   rw[R,Xb]at h;have bl:¬unk<=f:=λh=>by rw[WQ h]at R;cases R
   obtain⟨rfl,bo⟩:f=E/\f<unk:=by obtain h| ⟨h,_⟩:=ac;exact h;exact absurd h bl
   cases l:Nat.ble (d+n) f with
   |true=>
    rw[l,Xa]at h;have l:=WN l;cases ae:Nat.ble (o+(d+n)*g.size) k with
    |false=>rw[ae]at h;cases h
    |true=>
     rw[ae,Xa,N7]at h;have ae:=WN ae;simp only[WJ,WL]at h;obtain⟨rfl,rfl⟩:=h;rw[Xu]at ae;obtain⟨Y,ai,hh,_⟩:=L.J (o:=o+d*g.size) hg G hv ah (by omega) (by rw[U];omega) P;have M:(⟨p.d,p.f+o,none⟩:Addr).add (d*g.size)=⟨p.d,p.f+(o+d*g.size),none⟩:=by rw[YF,Yc]
     refine⟨W,_,Y,S9 (P:=P) t u ty e e2 g ht hu J ⟨p.d,p.f+o,none⟩ d f n c b X hf l (Y:=Y) (by rw[M];exact ai),Zy _ W,.F i o p _ _ _ G (.inl ⟨rfl,bo⟩) l,?_⟩;rw[U,show max k (o+d*g.size+n*g.size)=k by omega]at hh;exact hh
   |false=>
    rw[l,Xb]at h;have bq:¬d+n<=f:=λh=>by rw[WQ h]at l;cases l
    exact ab (by omega) h
 cases h
end
section
variable {P :Aw}{B:BS}{w0:Bc}{Z:Sg}{Y:Hp}{w:Bc}
def Da (P:Aw)(Y:Hp)(t:Ax)(d x:Av):Bb (Av×Hp):=
 match P.underlying t with
 |some (.slice e)=>match P.info? e with
  |none=>none|some a=>match d with
   | .slice none dl _ => bif Nat.beq dl 0 then
     match x with
     | .slice (some ⟨_,_,none⟩) _ _| .slice none _ _=>some (.int .i64 0,Y)
     |_=>none
    else none
   | .slice (some ⟨0, 0, some 0⟩) 0 _ => match x with
     | .slice (some ⟨_,_,none⟩) _ _=>some (.int .i64 0,Y)|_=>none
   | .slice (some ⟨i,o,none⟩) dl g=>match Y.m.l i with
    |some (.cells c k h b)=>match x with
     | .slice none n _=>bif Nat.beq n 0 then some (.int .i64 0,Y)else none| .slice (some ⟨j,q,none⟩) n f=>match A8 Y a.size (.slice (some ⟨j,q,none⟩) (Nat.min n dl) f)with
      | some (m, vs) => bif (Nat.ble (o + m *  a.size) k || (Nat.ble unk  g && Nat.beq  b  a.size && Nat.ble o k)) && Nat.ble m dl && vs.all Value.oneCell' then
        some (.int .i64 m,tJ Y i c (Nat.max k<|o+m*a.size) h b o vs)
       else none
      |none=>none
     | .slice (some ⟨0,0,some 0⟩) 0 _=>some (.int .i64 0,Y)|_=>none
    |_=>none
   |_=>none
 |_=>none
variable {v x x':Av}
def HY {t u:Ax}{d R:Av}{g:Hp}(h:Da P Y t d x=(v,g))(N:VR Z d R)(s:VR Z x x')(l:HR B w0 Z Y w)(ty:Ax):MOK Y B w0 Z v g ((Builtin.copy_ #[t,u] ty #[R,x']).run P w):=by
 unfold Da at h;split at h;case h_2=>cases h
 rename_i e r;split at h;cases h;rename_i G f;split at h
 .rename_i dl I;cases a:Nat.beq dl 0 with
  |false=>grind|true=>
  have a:=WO a;subst a;cases N;split at h
  .rename_i j q n F;cases h;cases s with
   |F _ _ p _ _ E g U y=>
   refine⟨Z,_,w,?_,Zy _ Z,.H _ _,l⟩;simp[Builtin.copy_,Xi r,Builtin.lenOf,sizeOf,typeInfo,f,Builtin.firstCells,loadCells,loadCellsFrom,goInt]
  rename_i n F;cases h;cases s;refine⟨Z,_,w,?_,Zy _ Z,.H _ _,l⟩;simp[Builtin.copy_,Xi r,Builtin.lenOf,sizeOf,typeInfo,f,Builtin.firstCells,goInt];cases h
 .rename_i I;split at h
  .simp only[WJ,WL]at h;obtain⟨rfl,rfl⟩:=h;cases N;cases s with
   |F _ _ p _ _ E g U y=>
   refine⟨Z,_,w,?_,Zy _ Z,.H _ _,l⟩;simp[Builtin.copy_,Xi r,Builtin.lenOf,sizeOf,typeInfo,f,Builtin.firstCells,loadCells,loadCellsFrom,storeCells,goInt]
  cases h
 .rename_i i o dl I;split at h;case h_2=>cases h
  next c k e' z' V=>cases N with
  |F _ _ p _ _ E D U y=>
  let⟨k1,k2⟩:=l.N V D;split at h
  .rename_i n F;cases a:Nat.beq n 0 with
   |false=>grind|true=>have a:=WO a;subst a;cases h;cases s;refine⟨Z,_,w,?_,Zy _ Z,.H _ _,l⟩;simp[Builtin.copy_,Xi r,Builtin.lenOf,sizeOf,typeInfo,f,Builtin.firstCells,goInt,storeCells]
  .rename_i j q n F;cases s with
   |F _ _ p2 _ _ H O M ab=>
   split at h
   .rename_i m vs X;cases a:(Nat.ble (o+m*G.size) k|| (Nat.ble unk I&&Nat.beq z' G.size&&Nat.ble o k))&&Nat.ble m dl&&vs.all Value.oneCell' with
    |false=>grind|true=>
     rw[a,Xa,N7]at h;simp only[WK,Ys]at a;have ac:=WN a.1.2;have A:o<=k/\p.f+(o+m*G.size)<=p.g:=by
      obtain aa| ⟨⟨S,J⟩,T⟩:=a.1.1;simp_all;omega
      .have S:=WN S;have T:=WN T;have:m*G.size<=E*p.h:=by rw[k2,WO J];exact WW _ (by omega)
       omega
     cases h;have ad:Nat.min n dl<=n:=Nat.min_le_left _ _;let⟨us,hv,z,b,c2,K,W,L⟩:=qW X (.F j q p2 (Nat.min n dl) F H O M<|by omega) l;obtain⟨rfl,rfl,rfl⟩:=K;have ae:=hv.1;let⟨w',Q,hh,_⟩:=l.J V D hv (hv.g a.2) A.1 (by omega) P;refine⟨Z,_,w',?_,Zy _ Z,.H _ _,?_⟩;have y:=run_loadCells_list (P:=P) w _ us<|L _ rfl;rw[z]at y;simp only[Builtin.copy_,List.getElem?_toArray,WZ,WU,Xn,Xi r,Xj,Builtin.lenOf,Xs,sizeOf,typeInfo,YP,f,Builtin.firstCells,y,Q,goInt];grind
   cases h
  .simp only[WJ,WL]at h;obtain⟨rfl,rfl⟩:=h;cases s with
   |L q E=>refine⟨Z,_,w,?_,Zy _ Z,.H _ _,l⟩;simp[Builtin.copy_,Xi r,Builtin.lenOf,sizeOf,typeInfo,f,Builtin.firstCells,loadCells,loadCellsFrom,storeCells,goInt]
  cases h
 cases h
def M9 (v:Av)(y:Nat):Ai:=
 match v with
 | .int _ n=>bif decide (0<=n)&&decide (n<=y)then some n.toNat else none|_=>none
def Q6 {d:Av}{y n:Nat}(h:M9 v y=n)(hv:VR Z v d){c:Nat}(e:y<=c)(a:BoundsCode):n<=y/\ ∀w,(Instr.sliceBound d c a).run P w= .ok n w:=by
 unfold M9 at h;split at h
 .rename_i k m;cases hv;cases b:decide (0<=m)&&decide (m<=y)with
  |false=>grind|true=>rw[b,Xa]at h;simp at b;simp at h;subst h;exact⟨by omega,λw=>run_sliceBound w k m c a b.1<|by omega⟩
 cases h
def C6 (len a:Nat)(d c b:Ag):Bb (Nat×Nat×Ai):=
 match(match b with|some v=>(M9 v a).map some|none=>some none)with
 |none=>none|some m=>match(match c with|some v=>M9 v<|m.getD a|none=>(match b with|some _=>none|none=>some len))with
  |none=>none|some h=>match(match d with|some v=>M9 v h|none=>some 0)with
   |none=>none|some l=>some (l,h,m)
def OVR (Z:Sg):Ag->Ag->Prop
 |none,none=>True|some v,some u=>VR Z v u|_,_=>False
variable {T W U X S V:Ag}
def K5 {len d cap:Nat}{l h:Nat}{m:Ai}(a:C6 len d U T S=(l,h,m))(c:OVR Z U X)(k:OVR Z T W)(s:OVR Z S V)(x:d<=cap)(o:len<=d)(isS:Bool):l<=h/\h<=m.getD d/\m.getD d<=d/\ ∀w,(Instr.sliceBounds isS len cap X W V).run P w= .ok (l,h,m.getD cap) w:=by
 unfold C6 at a;cases S with
 |none=>
  cases V with
  |some _=>exact s.elim|none=>
  simp only[Option.getD_none]at a;cases T with
  |none=>
   cases W with
   |some _=>exact k.elim|none=>
   cases U with
   |none=>
    cases X with
    |some _=>exact c.elim|none=>
    cases a;exact⟨by omega,o,Xh _,λw=>rfl⟩
   |some p=>
    cases X with
    |none=>exact c.elim|some q=>
    cases e:M9 p len with
    |none=>grind|some y=>simp only[e,WJ,WL]at a;obtain⟨rfl,rfl,rfl⟩:=a;let⟨f,g⟩:=Q6 (P:=P) e c (Xh _) .sliceB;exact⟨f,o,Xh _,λw=>by simp[Instr.sliceBounds,g]⟩
  |some hv=>
   cases W with
   |none=>exact k.elim|some t=>
   cases b:M9 hv d with
   |none=>grind|some r=>
    simp only[b]at a;let⟨i,j⟩:=Q6 (P:=P) b k x (if isS then .sliceAcap else .sliceAlen);cases U with
    |none=>
     cases X with
     |some _=>exact c.elim|none=>
     cases a;exact⟨by omega,i,Xh _,λw=>by simp[Instr.sliceBounds,j]⟩
    |some p=>
     cases X with
     |none=>exact c.elim|some q=>
     cases e:M9 p r with
     |none=>grind|some y=>simp only[e,WJ,WL]at a;obtain⟨rfl,rfl,rfl⟩:=a;let⟨f,g⟩:=Q6 (P:=P) e c (Xh _) .sliceB;exact⟨f,i,Xh _,λw=>by simp[Instr.sliceBounds,j,g]⟩
 |some A=>
  cases V with
  |none=>exact s.elim|some B=>
  cases n:M9 A d with
  |none=>grind|some z=>
   simp only[n,XH,XB]at a;let⟨u,v⟩:=Q6 (P:=P) n s x (if isS then .slice3Acap else .slice3Alen);cases T with
   |none=>grind|some hv=>
    cases W with
    |none=>exact k.elim|some t=>
    cases b:M9 hv z with
    |none=>grind|some r=>
     simp only[b]at a;let⟨i,j⟩:=Q6 (P:=P) b k (Xh _) .slice3B;cases U with
     |none=>
      cases X with
      |some _=>exact c.elim|none=>
      cases a;exact⟨by omega,i,u,λw=>by simp[Instr.sliceBounds,j,v]⟩
     |some p=>
      cases X with
      |none=>exact c.elim|some q=>
      cases e:M9 p r with
      |none=>grind|some y=>simp only[e,WJ,WL]at a;obtain⟨rfl,rfl,rfl⟩:=a;let⟨f,g⟩:=Q6 (P:=P) e c (Xh _) .slice3C;exact⟨f,i,u,λw=>by simp[Instr.sliceBounds,j,v,g]⟩
def A0 (P:Aw)(Y:Hp)(t:Ax)(x:Av)(U T S:Ag):Bb (Av×Hp):=
 match P.underlying t with
 |some .string=>match x with
  | .string s=>match S with
   |some _=>none|none=>match C6 s.data.toList.length s.data.toList.length U T none with
    |some (l,h,_)=>some (.string ⟨((s.data.toList.take h).drop l).toArray⟩,Y)|none=>none
  |_=>none
 |some (.slice e)=>match P.info? e with
  |none=>none|some a=>match x with
   | .slice none len cap => bif Nat.beq len 0 && Nat.beq cap 0 then
     match C6 0 0 U T S with
     |some _=>some (.slice none 0 0,Y)|none=>none
    else none
   | .slice (some ⟨0,0,some 0⟩) 0 _=>match C6 0 0 U T S with
    |some (_,_,none)=>some (.slice (some ⟨0,0,some 0⟩) 0 unk,Y)|_=>none
   | .slice (some ⟨i,o,none⟩) len cap=>
    bif Nat.ble unk cap then
     bif Nat.ble (Nat.max (R7 cap) len) 67108864 then
     match C6 len (Nat.max (R7 cap) len) U T S with
     |none=>none
     | some (l, h, some m) => bif Nat.beq m l then some (.slice (some ⟨i, o, none⟩) (h - l)<|m - l,  Y)
       else some (.slice (some ⟨i,o+l*a.size,none⟩) (h-l)<|m-l,Y)
     | some (l, h, none) => bif Nat.beq l 0 then some (.slice (some ⟨i, o, none⟩) h<|i4 (Nat.max (R7 cap) len)<|I0 cap,  Y) else
       bif Nat.beq l (Nat.max (R7 cap) len)then some (.slice (some ⟨0,0,some 0⟩) 0 unk,Y)
       else match Y.m.l i with
        |some (.cells _ _ _ b)=>bif Nat.beq b a.size then some (.slice (some ⟨i,o+l*a.size,none⟩) (h-l)<|i4 (Nat.max (R7 cap) len-l)<|I0 cap-l,Y)else none|_=>none
     else none
    else bif Nat.ble len cap then
     match C6 len cap U T S with
     |none=>none
     | some (l, h, m) => bif Nat.beq (m.getD cap) l then some (.slice (some ⟨i, o, none⟩) (h - l)<|m.getD cap - l,  Y)
       else some (.slice (some ⟨i,o+l*a.size,none⟩) (h-l)<|m.getD cap-l,Y)
    else none
   |_=>none
 |some (.array n e)=>match P.info? e with
  |none=>none|some a=>match x with
   | .pointer (some ⟨i, o, none⟩) => bif Nat.ble n 16777216 then
     match C6 n n U T S with
     |none=>none
     | some (l, h, m) => bif Nat.beq (m.getD n) l then some (.slice (some ⟨i, o, none⟩) (h - l)<|m.getD n - l,  Y)
       else some (.slice (some ⟨i,o+l*a.size,none⟩) (h-l)<|m.getD n-l,Y)
    else none
   |_=>none
 |_=>none
def pB (s:ByteArray)(l h:Nat):s.extract l h=⟨((s.data.toList.take h).drop l).toArray⟩:=by apply ByteArray.ext;rw[ByteArray.data_extract];grind
def FI {t:Ax}{ah:Hp}(h:A0 P Y t x U T S=(v,ah))(hx:VR Z x x')(K:OVR Z U X)(M:OVR Z T W)(N:OVR Z S V)(C:HR B w0 Z Y w):MOK Y B w0 Z v ah ((Instr.sliceAt t x' X W V).run P w):=by
 unfold A0 at h;split at h
 .rename_i R;split at h
  .rename_i s;cases hx;split at h;cases h
   .cases V with
    |some _=>exact N.elim|none=>
    split at h;rename_i l j m hb;cases h;let⟨_,_,_,f⟩:=K5 (P:=P) (cap:=s.size) hb K M (show OVR Z none none from trivial) (by simp) (Xh _) false;rw[show s.data.toList.length=s.size by simp]at f;refine⟨Z,_,w,?_,Zy _ Z,.I _,C⟩;simp only[Instr.sliceAt,Xn,Xi R,Xj,Instr.slice,Option.isSome_none,Yn,if_false,Xs,f,pB];cases h
  cases h
 .rename_i e R;split at h;cases h;rename_i H D;split at h
  .rename_i len cap;cases hb:Nat.beq len 0&&Nat.beq cap 0 with
   |false=>grind|true=>
    simp only[WK]at hb;have e1:=WO hb.1;have e2:=WO hb.2;subst e1;subst e2;cases hx;split at h
    .rename_i ap b;let⟨l,j,m⟩:=ap;cases h;let⟨a1,I,J,f⟩:=K5 (P:=P) (cap:=0) b K M N (Xh _) (Xh _) true;have r:l=0:=by omega
     have Q:j=0:=by omega
     have ao:m.getD 0=0:=by omega
     subst r;subst Q;rw[ao]at f;refine⟨Z,_,w,?_,Zy _ Z,.nils 0 0,C⟩;simp only[Instr.sliceAt,Xn,Xi R,Xj,Instr.slice,f,sizeOf,typeInfo,YP,D,Xs,YE,Nat.sub_self]
    cases h
  .rename_i cap;split at h
   .rename_i l j b;cases h;cases hx with
    |L q g=>
     let⟨a1,I,J,f⟩:=K5 (P:=P) (cap:=g) b K M N (YI _) (Xh _) true;simp only[Option.getD_none]at I J f;have r:l=0:=by omega
     have Q:j=0:=by omega
     subst r;subst Q;refine⟨Z,.slice (some q) 0 g,w,?_,Zy _ Z,.L q g,C⟩;have hq:(q.add 0)=q:=by simp[Addr.add]
     simp only[Instr.sliceAt,Xn,Xi R,Xj,Instr.slice,f,sizeOf,typeInfo,YP,D,Xs,Nat.sub_self,Yv,YC,XH,hq,ite_self]
   cases h
  .rename_i i o len cap;cases hx with
   | F _ _ p _ _ g c aw ae =>
   have F:∀(l j m:Nat),(∀w,(Instr.sliceBounds true len g X W V).run P w= .ok (l,j,m) w)->
     (Instr.sliceAt t (.slice (some ⟨p.d,p.f+o,none⟩) len g) X W V).run P w= .ok (.slice (some (if m=l then⟨p.d,p.f+o,none⟩else⟨p.d,p.f+(o+l*H.size),none⟩)) (j-l)<|m-l) w:=by
    intro l j m f;simp only[Instr.sliceAt,Xn,Xi R,Xj,Instr.slice,f,sizeOf,typeInfo,YP,D,Xs];by_cases a:m=l;simp[a];simp[a,YF,Yc]
   cases z:Nat.ble unk cap with
   |true=>
    rw[z,Xa]at h;have z:=WN z;obtain⟨ac,ab,G⟩:R7 cap<=g/\(I0 cap=0\/g<I0 cap)/\p.f+o+g*p.h<=p.g:=by grind
    have ad:I0 cap<unk:=Nat.mod_lt _ I8;have hL:Nat.max (R7 cap) len<=g:=Nat.max_le.2 ⟨ac,ae⟩;have O:len<=Nat.max (R7 cap) len:=Ym _ _;generalize av:Nat.max (R7 cap) len=L at h hL O;cases E:Nat.ble L 67108864 with
    |false=>grind|true=>
    rw[E,Xa]at h;have E:=WN E;split at h;cases h
    .rename_i l j m b;let⟨a1,I,J,f⟩:=K5 (P:=P) (cap:=g) b K M N hL O true;simp only[XB]at I J f;have d:=F l j m f;have y:m-l<unk:=by unfold unk;omega
     cases a:Nat.beq m l with
     |true=>rw[a,Xa]at h;have a:=WO a;subst a;cases h;rw[Xg rfl]at d;exact⟨Z,_,w,d,Zy _ Z,.F i o p _ _ _ c (.inl ⟨rfl,y⟩)<|by omega,C⟩
     |false=>
      rw[a,Xb]at h;have u:m≠l:=λe=>by rw[e,w9 rfl]at a;cases a
      cases h;rw[Xd u]at d;exact⟨Z,_,w,d,Zy _ Z,.F i _ p _ _ _ c (.inl ⟨rfl,y⟩)<|by omega,C⟩
    .rename_i l j b;let⟨a1,I,J,f⟩:=K5 (P:=P) (cap:=g) b K M N hL O true;have d:=F l j g f;cases r:Nat.beq l 0 with
     |true=>have r:=WO r;subst r;cases h;simp only[YC,Yi,ite_self,Yv]at d;exact⟨Z,_,w,d,Zy _ Z,.F i o p _ _ _ c (.inr ⟨y5 _ _,by rw[K9 ad];exact hL,by rw[J4 ad];exact ab,G⟩)<|by omega,C⟩
     |false=>
      rw[r,Xb]at h;cases A:Nat.beq l L with
      |true=>
       rw[A,Xa]at h;have A:=WO A;have am:j=l:=by omega
       subst am;cases h;rw[Nat.sub_self]at d;exact⟨Z,_,w,d,Zy _ Z,.L _ _,C⟩
      |false=>
       rw[A,Xb]at h;have au:l≠L:=λe=>by rw[e,w9 rfl]at A;cases A
       split at h;case h_2=>cases h
       rename_i tc k e' z' hg;let⟨k1,k2⟩:=C.N hg c;cases ai:Nat.beq z' H.size with
       |false=>grind|true=>
        rw[ai,Xa]at h;have ax:=WO ai;have al:p.h=H.size:=by grind
        cases h;have ak:g≠l:=by omega
        rw[Xd ak]at d;refine⟨Z,_,w,d,Zy _ Z,.F i _ p _ _ _ c (.inr ⟨y5 _ _,by rw[K9<|by omega];omega,by rw[J4<|by omega];omega,?_⟩)<|by omega,C⟩;rw[al]at G⊢;have:l*H.size+(g-l)*H.size=g*H.size:=by rw[<-Xu];congr 1;omega
        omega
   |false=>
    rw[z,Xb]at h;have aq:¬unk<=cap:=λh=>by rw[WQ h]at z;cases z
    have aa:cap=g/\cap<unk:=by grind
    obtain⟨rfl,aj⟩:=aa;cases an:Nat.ble len cap with
    |false=>grind|true=>
    rw[an,Xa]at h;split at h;cases h
    .rename_i l j m b;let⟨a1,I,J,f⟩:=K5 (P:=P) (cap:=cap) b K M N (Xh _) ae true;have d:=F l j (m.getD cap) f;have y:m.getD cap-l<unk:=by omega
     cases a:Nat.beq (m.getD cap) l with
     |true=>rw[a,Xa]at h;have a:=WO a;cases h;rw[Xg a]at d;exact⟨Z,_,w,d,Zy _ Z,.F i o p _ _ _ c (.inl ⟨rfl,y⟩)<|by omega,C⟩
     |false=>
      rw[a,Xb]at h;have u:m.getD cap≠l:=λe=>by rw[e,w9 rfl]at a;cases a
      cases h;rw[Xd u]at d;exact⟨Z,_,w,d,Zy _ Z,.F i _ p _ _ _ c (.inl ⟨rfl,y⟩)<|by omega,C⟩
  cases h
 .rename_i n e R;split at h;cases h;rename_i H D;split at h
  .rename_i i o;cases hx with
   |R _ _ p c=>
   cases hn:Nat.ble n 16777216 with
   |false=>grind|true=>
   rw[hn,Xa]at h;have hn:=WN hn;split at h;cases h
   .rename_i l j m b;let⟨a1,I,J,f⟩:=K5 (P:=P) (cap:=n) b K M N (Xh _) (Xh _) false;have d:(Instr.sliceAt t (.pointer<|some ⟨p.d,p.f+o,none⟩) X W V).run P w= .ok (.slice (some (if m.getD n=l then⟨p.d,p.f+o,none⟩else⟨p.d,p.f+(o+l*H.size),none⟩)) (j-l)<|m.getD n-l) w:=by simp only[Instr.sliceAt,Xn,Xi R,Xj,Instr.sureAddr,f,sizeOf,typeInfo,YP,D,Xs];by_cases a:m.getD n=l;simp[a];simp[a,YF,Yc]
    have y:m.getD n-l<unk:=by unfold unk;omega
    cases a:Nat.beq (m.getD n) l with
    |true=>rw[a,Xa]at h;have a:=WO a;cases h;rw[Xg a]at d;exact⟨Z,_,w,d,Zy _ Z,.F i o p _ _ _ c (.inl ⟨rfl,y⟩)<|by omega,C⟩
    |false=>
     rw[a,Xb]at h;have u:m.getD n≠l:=λe=>by rw[e,w9 rfl]at a;cases a
     cases h;rw[Xd u]at d;exact⟨Z,_,w,d,Zy _ Z,.F i _ p _ _ _ c (.inl ⟨rfl,y⟩)<|by omega,C⟩
  cases h
 cases h
end
section
variable {P :Aw}{B:BS}{w0:Bc}{Z:Sg}{Y:Hp}{w:Bc}
def Dc (Y:Hp)(c:Av)(a:Bool):Bb (Av×Hp):=
 match c,a with
 | .pointer (some ⟨i,0,none⟩),true=>match Y.m.l i with
  | some (.sit s   b) => bif Nat.blt   b s.data.toList.length then
    some (.tuple #[.bool true,.int .i64 b,.int .i32 (Utf8.decode s b).1],{Y with m:=Y.m.m i<|some<|.sit s<|b+(Utf8.decode s b).2})
   else some (.tuple #[.bool false],Y)
  |_=>none
 |_,_=>none
variable {a b:Av}
def VR.tup1 {Z:Sg}(h:VR Z a b):VR Z (.tuple #[a]) (.tuple #[b]):=(ZM h<|ZN Z).h
def VR.tup3 {Z:Sg}{c d e f:Av}(h:VR Z a b)(k:VR Z c d)(l:VR Z e f):VR Z (.tuple #[a,c,e]) (.tuple #[b,d,f]):=(ZM h<|ZM k<|ZM l<|ZN Z).h
variable {o:Obj}
def zY {r:Nat}(h:w.heap[r]? =o)(a:∀c e f,o≠ .cells c e f):(getObj r).run P w= .ok o w:=by simp only[getObj,Sem.run,h]
def Ad {r:Nat}{o':Obj}(h:w.heap[r]? =o)(a:∀c e f,o≠ .cells c e f):(setObj r o').run P w= .ok () {w with heap:=w.heap.setIfInBounds r o'}:=by simp only[setObj,Sem.run,h]
def HR.u (h:HR B w0 Z Y w){i:Nat}{b b':Blk}(j:Y.m.l i=b){p:Pl}(a:Z i=p)(q:BR Z p b' o)(g:fQ b=false:=by rfl)(e:fQ b'=false:=by rfl)(c:nM b=false:=by rfl)(d:nM b'=false:=by rfl):HR B w0 Z {Y with m:=Y.m.m i<|some b'} {w with heap:=w.heap.setIfInBounds p.d o}:=by let⟨r,t,l,_,n,_⟩:=h.t i b j c;have:r=p:=Xk<|l.symm.trans a;subst this;refine h.turn j a ?_ (λk s=>?_) (by simp) rfl rfl rfl q g e c d;simp[(WY.1 n).1];grind
def Ia {u k v:Av}{isS:Bool}{j:Hp}(h:Dc Y u isS=(v,j))(y:VR Z u k)(n:HR B w0 Z Y w)(z:Ax):MOK Y B w0 Z v j ((Instr.next k isS z).run P w):=by
 unfold Dc at h;split at h
 .rename_i i;cases y with
  |R _ _ p m=>
  split at h
  .rename_i s a t;let⟨D,o,q,A,r,x,l⟩:=n.t i _ t;have:=Xk<|q.symm.trans m;subst this x;have d:=zY (P:=P) r (λc e f h=>by grind);cases g:Nat.blt a s.data.toList.length with
   |true=>
    rw[g,Xa]at h;cases h;have b:a<s.size:=by simp_all
    refine⟨Z,_,_,?_,Zy _ Z,VR.tup3 (.J true) (.H .i64 a)<|.H .i32 _,n.u t q ⟨rfl,l⟩⟩;simp[Instr.next,l,d,b,Ad (P:=P) (o':= .stringIter s (a+(Utf8.decode s a).2)) r (λc e f h=>by grind),goInt]
   |false=>
    rw[g,Xb]at h;cases h;have b:¬a<s.size:=λC=>by rw[show Nat.blt a s.data.toList.length=true from WQ<|by simp;omega]at g;grind
    refine⟨Z,_,w,?_,Zy _ Z,VR.tup1<|.J false,n⟩;simp[Instr.next,l,d,b]
  cases h
 cases h
def keyB (d:TypeDesc):Bool:=
 match d with
 | .int _| .string| .bool=>true
 |_=>false
end
def uS (f:Av->Av->Bool):Af->Af->Bool
 | [],[]=>true|x::xs,y::a=>f x y&&uS f xs a|_,_=>false
def kS {f:Av->Av->Bool}(b:∀x y,f x y->x=y):∀ {xs a:Af},uS f xs a->xs=a
 | [],[],_=>rfl|x::xs,y::a,h=>by simp only[uS,WK]at h;rw[b _ _ h.1,kS b h.2]| [],_::_,h=>by cases h
 |_::_,[],h=>by cases h
def veq :Nat->Av->Av->Bool
 |0,_,_=>false|n+1,x,y=>match x,y with
  | .bool a,.bool b=>a==b| .int j a,.int k b=>decide (j=k)&&decide (a=b)| .string a,.string b=>a.data.toList==b.data.toList| .pointer a,.pointer b=>decide<|a=b| .slice a l c,.slice b h e=>decide (a=b)&&Nat.beq l h&&Nat.beq c e| .map a,.map b=>decide<|a=b| .nilFunc,.nilFunc=>true| .nilIface,.nilIface=>true| .iface t v,.iface u w=>Nat.beq t u&&veq n v w| .agg a,.agg b=>uS (veq n) a.toList b.toList| .tuple a,.tuple b=>uS (veq n) a.toList b.toList| .func f a c,.func g b d=>decide (f=g)&&uS (veq n) a.toList b.toList&&uS (veq n) c.toList d.toList| .complex f a b,.complex g c d=>decide (f=g)&&Nat.beq a c&&Nat.beq b d| .chan a,.chan b=>decide<|a=b|_,_=>false
def RU :∀(n:Nat) (x y:Av),veq n x y->x=y:=by
 intro n;induction n with
 |zero=>intro x y h;cases h
 |succ n c=>intro x y h;simp only[veq]at h;split at h;grind;grind;rename_i a b;let⟨⟨a⟩⟩:=a;simp_all;grind;simp_all;grind;rfl;rfl;simp only[WK]at h;rw[WO h.1,c _ _ h.2];rw[Array.ext'<|kS c h];rw[Array.ext'<|kS c h];simp at h;rw[h.1.1,Array.ext'<|kS c h.1.2,Array.ext'<|kS c h.2];simp_all;grind;cases h
section
variable {P :Aw}{B:BS}{W:Bc}{Y:Sg}{Z:Hp}{w:Bc}
def sZ (P:Aw)(Z:Hp)(t:Ax)(x:Av):Bb (Av×Hp):=
 match P.underlying t with
 |some (.slice e)=>match x with
  | .slice none _ _=>some (.tuple #[],Z)| .slice (some _) 0 _=>some (.tuple #[],Z)| .slice (some ⟨i,o,none⟩) (n+1) _=>match T5 P e with
   |none=>none|some z=>match Z.m.l i with
    | some (.cells c k  a  b) => bif Nat.ble (o + (xrep (n + 1) z.cells.toList).length) k && (xrep (n + 1) z.cells.toList).all Value.oneCell' then
      some (.tuple #[],tJ Z i c k a b o<|xrep (n+1) z.cells.toList)
     else none
    |_=>none
  |_=>none
 |some (.map _ _)=>match x with
  | .map none=>some (.tuple #[],Z)| .map (some i)=>match Z.m.l i with
   |some (.map _ _)=>some (.tuple #[],{Z with m:=Z.m.m i<|some<|.map [] false})|_=>none
  |_=>none
 |_=>none
variable {v x x':Av}{X:Hp}
def Fx {t:Ax}(h:sZ P Z t x=(v,X))(q:VR Y x x')(d:HR B W Y Z w)(J:Ax):MOK Z B W Y v X ((Builtin.clear_ #[t] J #[x']).run P w):=by
 have tup:=VRL.h<|ZN Y;unfold sZ at h;split at h
 .rename_i e g;split at h;simp only[WJ,WL]at h;obtain⟨rfl,rfl⟩:=h;cases q;refine⟨Y,.tuple #[],w,?_,Zy _ Y,tup,d⟩;simp[Builtin.clear_,Xi g];simp only[WJ,WL]at h;obtain⟨rfl,rfl⟩:=h;cases q<;>exact⟨Y,.tuple #[],w,by simp[Builtin.clear_,Xi g],Zy _ Y,tup,d⟩
  .rename_i i o n M;split at h;cases h;rename_i z I;split at h;case h_2=>cases h
   next c k N z' j=>cases q with
   |F _ _ p _ _ L b F H=>
   let⟨k1,k2⟩:=d.N j b;cases r:Nat.ble (o+(xrep (n+1) z.cells.toList).length) k&&(xrep (n+1) z.cells.toList).all Value.oneCell' with
   |false=>grind|true=>rw[r,Xa,N7]at h;simp only[WK]at r;have G:=WN r.1;cases h;let⟨E,y⟩:=V0 I;have hv:=(fI Y E).O.q<|n+1;let⟨K,u,U,_⟩:=d.J (o:=o) j b hv (hv.g r.2) (by omega) (by omega) P;have s:(Builtin.zeroCells z.cells<|n+1).toList=xrep (n+1) z.cells.toList:=lG z.cells<|n+1;refine⟨Y,.tuple #[],K,?_,Zy _ Y,tup,?_⟩;simp[Builtin.clear_,Xi g,y,s,u];grind
  cases h
 .rename_i kt Q g;split at h;simp only[WJ,WL]at h;obtain⟨rfl,rfl⟩:=h;cases q;refine⟨Y,.tuple #[],w,?_,Zy _ Y,tup,d⟩;simp[Builtin.clear_,Xi g]
  .rename_i i;split at h;case h_2=>cases h
   next O reg j=>cases h;cases q with
   |map _ p b=>
   obtain⟨p',o,C,_,D,A,a,rfl,R,S,T⟩:=d.t i _ j;have:=Xk<|C.symm.trans b;subst this;refine⟨Y,.tuple #[],_,?_,Zy _ Y,tup,d.u j C (o:= .map #[] a) ⟨_,_,rfl,rfl,(by grind),λV=>by grind⟩⟩;simp[Builtin.clear_,Xi g,zY (P:=P) D (λc e f h=>by grind),Ad (P:=P) (o':= .map #[] a) D (λc e f h=>by grind)]
  cases h
 cases h
def cE (P:Aw)(Z:Hp)(t u:Ax)(s x:Av):Bb (Av×Hp):=
 match P.underlying t, P.underlying u with
 |some (.slice e),some (.int _)=>match P.info? e with
  |none=>none|some f=>match f.zero with
   |none=>none|some z=>match s,x with
    | .slice (some ⟨i,o,none⟩) a d,.int _ (.ofNat b)=>
     bif cst z&&Nat.beq z.cells.toList.length f.size&&Nat.ble f.bytes 1048576&&Nat.ble 1 f.size&&Nat.ble 1 b&&Nat.ble (a+b) 67108864&&
       (Nat.ble unk d&&Nat.ble 1 (I0 d)&&Nat.ble (I0 d) (a+b))then
      match Z.m.l i with
      | some (.cells c k _ _) => bif Nat.ble (o +    a *  f.size) k then
        match j8 c o (a*f.size)with
        |some g=>some (.slice (some ⟨Z.d,0,none⟩) (a+b)<|i4 (a+b) 0,Z.f (g++xrep b z.cells.toList) e f.size)|none=>none
       else none
      |_=>none
     else none
    |_,_=>none
 |_,_=>none
def Be {t u:Ax}{s V:Av}(h:cE P Z t u s x=(v,X))(hs:VR Y s V)(hx:VR Y x x')(O:HR B W Y Z w)(ty:Ax):MOK Z B W Y v X ((Builtin.append_ #[t,u] ty #[V,x']).run P w):=by
 rw[cE] at h;split at h;case h_2=>cases h
 rename_i e ik ht K;split at h;cases h;rename_i g H;split at h;cases h;rename_i z hz;split at h;case h_2=>cases h
 next i o b l kq a=>cases E:cst z&&Nat.beq z.cells.toList.length g.size&&Nat.ble g.bytes 1048576&&Nat.ble 1 g.size&&Nat.ble 1 a&&Nat.ble (b+a) 67108864&&
       (Nat.ble unk l&&Nat.ble 1 (I0 l)&&Nat.ble (I0 l) (b+a))with
 |false=>grind|true=>
 rw[E,Xa]at h;simp only[WK]at E;let⟨⟨⟨⟨⟨⟨b1,b2⟩,C⟩,R⟩,b5⟩,D⟩,⟨S,b8⟩,T⟩:=E;have U:z.cells.size=g.size:=by simp_all
 have C:=WN C;have R:=WN R;have D:=WN D;have S:=WN S;have b8:=WN b8;have T:=WN T;split at h;case h_2=>cases h
 next c k e' z' hg=>cases m:Nat.ble (o+b*g.size) k with
 |false=>grind|true=>
 rw[m,Xa]at h;split at h;case h_2=>cases h
 next A I=>cases h;cases hx;cases hs with
 |F _ _ p _ _ n J aa ab=>
 have y:n<b+a:=by grind
 obtain⟨d,M,f,F⟩:=O.cells hg (WN m) I J;have hr:=Lib.run_append_grow_zeros w t u ty e g z kq ik ht K H hz (some ⟨p.d,p.f+o,none⟩) b n d
  (run_firstCells_some w.drew g.size b _ b n d f<|λj u K=>(kV rfl _).trans<|F j u K) a (by omega) (by omega) y (by omega)
  (by have:=Nat.mul_le_mul (show a<=67108864 by omega) C;omega) (growslice_fits y (by have:=Nat.mul_le_mul D C;omega))
 have Q:(Builtin.zeroCells z.cells a).toList=xrep a z.cells.toList:=lG z.cells a;have N:VRL Y (xrep a z.cells.toList) (Builtin.zeroCells z.cells a).toList:=by rw[Q];exact(fI Y b1).O.q a
 have G:=grownCap_ge w (b+a) n e;have r:=O.n (M.f N) (Builtin.zeroCells z.cells<|grownCap w (b+a) n e-(b+a)) (fill .e 0<|A++xrep a z.cells.toList) (λj hj=>u5 _ j hj) e g.size;have L:(d++(Builtin.zeroCells z.cells a).toList).length=(b+a)*g.size:=by rw[Xl,f,Array.length_toList,size_zeroCells,U,Xu]
 rw[show(d++(Builtin.zeroCells z.cells a).toList).toArray=d.toArray++Builtin.zeroCells z.cells a by simp]at r;refine⟨_,_,_,hr,O.D _,VR.unkSlice Y Z.d ⟨w.heap.size,0,(d++(Builtin.zeroCells z.cells a).toList).length+(Builtin.zeroCells z.cells<|grownCap w (b+a) n e-(b+a)).size,g.size⟩ rfl G ?_,?_⟩;show grownCap w (b+a) n e*g.size<=(d++(Builtin.zeroCells z.cells a).toList).length+_;rw[size_zeroCells,L,U,<-Xu];grind;simpa [Hp.f]using r
def Ua (P:Aw)(g:Ay)(t:Ax):Prop:=
 ∃fn r,P.funcs[g]? =some fn/\(fn.name== "runtime.NumGoroutine")=false/\fn.body.isNone/\Extern.findNext fn=none/\Extern.find fn=(Extern.SlicesOverlaps.overlaps #[t,t] #[r])
def If (P:Aw)(Z:Hp)(t:Ax)(args:Af):Bb (Av×Hp):=
 match P.underlying t with
 |some (.slice e)=>match P.info? e with
  |some _=>match args with
   | [.slice (some ⟨i, _, none⟩) _ _, .slice (some ⟨j, _, none⟩) _ _] => bif Nat.beq i j then none else
     match Z.m.l i,Z.m.l j with
     |some (.cells _ _ _ _),some (.cells _ k _ _)=>bif Nat.ble 1 k then some (.bool false,Z)else none|_,_=>none
   |_=>none
  |none=>none
 |_=>none
def nA :Ax:=4294967295
def isT :Bb Ax->Bool
 |some t=>Nat.beq t nA|none=>false
def Is P g:=∀w,Calls P g #[] w λe a=>e= .returned (.bool true)/\Below w.heap.size w a
def nE (P:Aw)(g:Ay)(t:Ax):Prop:=(t=nA/\Is P g)\/(t≠nA/\Ua P g t)
def HR.below (h:HR B W Y Z w){d:Bc}(k:Below w.heap.size w d):HR B W Y Z d:=by refine⟨k.os.trans h.R,k.tape.trans h.l,k.output.trans h.d,Ya h.g k.size,h.C,λi c=>?_,h.H,λi b r j l=>?_,h.O,h.Q⟩;rw[k.block i<|XW (h.C i c) h.g];exact h.h i c;let⟨p,o,e,f,a,g⟩:=h.z i b r j l;exact⟨p,o,e,f,by rw[k.block p.d (WY.1 a).1];exact a,g⟩
def Ig {g:Ay}{t:Ax}(ho:Ua P g t){args a:Af}(h:If P Z t args=(v,X))(T:VRL Y args a)(G:HR B W Y Z w):X=Z/\ ∃u,VR Y v u/\(callFunc g a.toArray).run P w= .ok (.value u) w:=by
 unfold If at h;split at h;case h_2=>cases h
 rename_i e ht;split at h;case h_2=>cases h
 rename_i H y;split at h;case h_2=>cases h
 next i o1 l1 c1 j o2 l2 c2=>cases b:Nat.beq i j with
 |true=>grind|false=>
 rw[b,Xb]at h;have f:i≠j:=λe=>by rw[e,w9 rfl]at b;cases b
 split at h;case h_2=>cases h
 next ci ki K zi cj kj L zj c d=>cases z:Nat.ble 1 kj with
 |false=>grind|true=>
 rw[z,Xa]at h;have z:=WN z;cases h;obtain⟨a1,r,rfl,s,E⟩:=T.d;obtain⟨a2,r,rfl,x,E⟩:=E.d;rw[E.l]at*;cases s with
 |F _ _ p _ _ m k V ab=>
 cases x with
 |F _ _ q _ _ n l aa ac=>
 let⟨fn,rt,M,N,O,Q,R⟩:=ho;have A:=G.inj i j _ _ p q c d f k l;refine⟨rfl,.bool false,.J false,?_⟩;let⟨I,C,S,g2,g3,o,g5,g6,g7⟩:=G.L c;have:=Xk<|S.symm.trans k;subst this;let⟨J,D,m1,m2,m3,m4,m5,m6,m7⟩:=G.L d;have:=Xk<|m1.symm.trans l;subst this;have F:∀w,(Go.sizeOf e).run P w= .ok H.size w:=λw=>by simp[sizeOf,typeInfo,y]
 rw[run_callFunc_extern M N O Q R];have U:=Lib.run_overlaps_apart w t rt e ht H.size F ⟨I.d,I.f+o1,none⟩ ⟨J.d,J.f+o2,none⟩ l1 m l2 n A K L C.size D.size
  (by simp[World.shape?,o]) (by simp[World.shape?,m4]) (by omega) (by simp[World.frozen?,o]) (by simp[World.frozen?,o])
 simp_all
end
def aP (a:Ao):List (Nat×Az)->Bb (List<|Nat×Av)
 | []=>some []| (i,x)::xs=>match i7 a x with
  |some v=>match aP a xs with
   |some vs=>some<|(i,v)::vs|none=>none
  |none=>none
def oQ {σ:Sg}{c:Ao}{a:Act}:∀ {xs:List (Nat×Az)} {vs:List (Nat×Av)},(∀p∈xs,∀v,i7 c p.2=some v->VR σ v (a.eval p.2))->aP c xs=vs->PVR σ vs (xs.map λp=>(p.1,a.eval p.2))
 | [],vs,_,b=>by simp[aP]at b;subst b;exact⟨rfl,λi x y h _=>by grind⟩| (i,x)::xs,vs,h,b=>by
  simp only[aP]at b;cases hv:i7 c x with
  |none=>grind|some v=>
   cases e:aP c xs with
   |none=>grind|some r=>
    simp[hv,e]at b;subst b;have f:=oQ (λp d=>h p<|by grind) e;refine⟨by simp[f.1],λj p q d g=>?_⟩;cases j with
    |zero=>grind|succ j=>exact f.2 j p q d g
def Br (a:Ao):Bb Az->Bb (Ag)
 |none=>some none|some x=>match i7 a x with
  |some v=>some<|some v|none=>none
def Bs {d:Sg}{c:Ao}{a:Act}{x:Bb Az}(h:∀y,x=some y-> ∀v,i7 c y=some v->VR d v (a.eval y)){v:Ag}(b:Br c x=some v):OVR d v (x.map a.eval):=by
 cases x with
 |none=>simp only[Br,WJ]at b;subst b;exact trivial|some x=>
  simp only[Br]at b;cases hv:i7 c x with
  |none=>grind|some u=>simp only[hv,WJ]at b;subst b;exact h x rfl _ hv
def wD {d:Sg}{c:Ao}{a:Act}:∀ {xs:List Az} {vs:Af},(∀x∈xs,∀v,i7 c x=some v->VR d v (a.eval x))->Y8 c xs=vs->VRL d vs (xs.map a.eval)
 | [],vs,_,b=>by simp[Y8]at b;subst b;exact ZN d|x::xs,vs,h,b=>by
  simp only[Y8]at b;cases hv:i7 c x with
  |none=>grind|some v=>
   cases e:Y8 c xs with
   |none=>grind|some r=>simp[hv,e]at b;subst b;exact ZM (h x (by simp) _ hv)<|wD (λy f=>h y<|by grind) e
def j4 (a:Hp):Ag->Bb (Av×Hp)
 |some v=>some (v,a)|none=>none
def C5 {b a:Hp}{x:Ag}{v:Av}(h:j4 b x=(v,a)):x=v/\a=b:=by
 cases x with
 |none=>cases h
 |some u=>simp only[j4,WJ,WL]at h;exact⟨by grind,h.2.symm⟩
structure i9 where
 d:Ay->Af->Hp->Bb (Av×Hp)
 g:Aa
 f:Nat->Af->Hp->Bb (Av×Hp)
def cN (fn:Func):Bool:=fn.body.isSome&& !(fn.name== "runtime.NumGoroutine")
def C7 (P:Aw)(a:Hp)(b:Builtin)(ats:List Ax)(args:Af):Bb (Av×Hp):=
 match b,ats,args with
 | .append,[t,u],[s,x]=>match F8 P a t u s x with
  |some r=>some r|none=>cE P a t u s x
 | .clear,[t],[x]=>sZ P a t x| .copy,[t,_],[d,x]=>Da P a t d x| .len,[t],[x]=>j4 a<|kQ P t x| .cap,[t],[x]=>j4 a<|qT P t x| .max,_,x::xs=>j4 a<|Bm true x xs|_,_,_=>none
def nB (P:Aw)(call:i9)(a:Hp)(f:Av)(args:Af):Bb (Av×Hp):=
 match f with
 | .func (.func g) first captured=>match P.funcs[g]? with
  | some fn => bif cN fn then call.d g (first.toList ++ args ++ captured.toList)  a else
    match call.g g with
    |some t=>bif Nat.beq t nA then none else If P a t (first.toList++args++captured.toList)|none=>none
  |none=>none
 | .chan (some i)=>call.f i args a|_=>none
def xnw (P:Aw)(b:Ao)(o:Op):Bb Nw:=
 match o with
 | .alloc e=>bif Nat.beq e rgT then none else Z2 P e| .box e x=>bif Nat.beq e rgT then none else match i7 b x with
  |some v=>some<|CZ e v|none=>none
 | .buildSlice t len a=>match aP b a.toList with
  |some d=>KB P t len d|none=>none
 | .makeSlice t l c=>match i7 b l with
  |some v=>match i7 b c with
   |some u=>Od P t v u|none=>none
  |none=>none
 | .range t x=>match i7 b x with
  |some v=>qZ P t v|none=>none
 |_=>none
def V3 (a:Hp):Bb Nw->Bb (Av×Hp)
 |some n=>some<|a.g n|none=>none
abbrev ob {α β:Type}(x:Bb α)(k:α->Bb β):Bb β:=match x with
 |some v=>k v|none=>none
def fV (P:Aw)(b:Ao)(a:Hp)(e:Ax):Bb (Av×Hp):=
 bif Nat.beq e rgT then ob (T5 P e) λz=>Bn a z.cells.toList
 else V3 a (xnw P b<|.alloc e)
def Qv (P:Aw)(b:Ao)(a:Hp)(e:Ax)(x:Az):Bb (Av×Hp):=
 bif Nat.beq e rgT then ob (i7 b x) λv=>Bn a v.cells.toList
 else V3 a (xnw P b<|.box e x)
def xop (P:Aw)(call:i9)(g:Ao)(j:Hp)(o:Op):Bb (Av×Hp):=
 match o with
 | .move x=>j4 j<|i7 g x| .assign x=>j4 j<|i7 g x| .pick c a b=>match i7 g c with
  |some (.bool t)=>bif t then j4 j (i7 g a)else j4 j (i7 g b)|_=>none
 | .alloc e=>fV P g j e| .box e x=>Qv P g j e x| .build t k=>ob (aP g k.toList) λC=>j4 j<|oN P t C
 | .buildSlice t len k=>V3 j<|xnw P g<|.buildSlice t len k| .range t x=>V3 j<|xnw P g<|.range t x| .next z isS=>ob (i7 g z) λv=>Dc j v isS
 | .load t a=>ob (i7 g a) λv=>j4 j<|G4 P j t v
 | .store t a x=>ob (i7 g a) λv=>ob (i7 g x) λu=>ob (G1 P j t v u) λn=>some (undef,n)
 | .nilCheck x=>match i7 g x with
  |some (.pointer (some p))=>some (.pointer<|some p,j)|some (.func (.func f) a b)=>some (.func (.func f) a b,j)|_=>none
 | .binOp op t x y _=>ob (i7 g x) λv=>ob (i7 g y) λu=>j4 j<|M3 P op t v u
 | .unOp op _ x=>ob (i7 g x) λv=>j4 j<|xun op v
 | .convert s d x=>ob (i7 g x) λv=>j4 j<|qU P s d v
 | .makeFunc fn first captured=>ob (Y8 g first.toList) λr=>ob (Y8 g captured.toList) λq=>j4 j<|some<|.func fn r.toArray q.toArray
 | .makeSlice t l c=>V3 j<|xnw P g<|.makeSlice t l c| .slice t x A w B=>ob (i7 g x) λv=>ob (Br g A) λl=>ob (Br g w) λh=>ob (Br g B) λm=>A0 P j t v l h m
 | .fieldAddr t x f=>ob (i7 g x) λv=>j4 j<|P8 P t v f
 | .field t x f=>ob (i7 g x) λv=>j4 j<|Bj P t v f
 | .indexAddr t x i=>ob (i7 g x) λv=>ob (i7 g i) λu=>j4 j<|E0 P t v u
 | .index t x i=>ob (i7 g x) λv=>ob (i7 g i) λu=>j4 j<|tD P t v u
 | .extract x i=>ob (i7 g x) λv=>j4 j<|cG v i
 | .call c=>ob (Y8 g c.args.toList) λargs=>match c.callee with
  | .builtin b=>C7 P j b c.argTypes.toList args| .value f=>ob (i7 g f) λv=>nB P call j v args
  |_=>none
 |_=>none
def m1 {a b:Type}{x:Bb a}{k:a->Bb b}{r:b}(h:ob x k=r):∃v,x=some v/\k v=r:=by
 cases x with
 |none=>cases h
 |some v=>exact⟨v,rfl,h⟩
def RF (r:Ai):Fence:= {Fence.wide with round:=r}
def gU {P:Aw}{r:Ai}{o:Oper}{a:Act}{w:Bc}{next:Act->Bc->Prop}{Q:Exit->Act->Bc->Prop}(f:∀c,o.op≠ .defer c)(h:o.wp P a w next Q):o.wpIn (RF r) 0 P a w next Q:=by
 have d:(RF r).depth.isSome->1<=0:=λh=>by cases h
 refine⟨λ_ _=>trivial,?_⟩;rw[Oper.semAt_eq _ _ _ f];rw[Oper.wp] at h;generalize (execOp a.eval o).run P w=x at h;cases x with
 |ok n b=>
  cases n<;>simp only[Oper.upon]at h<;>first
   |exact h
   |exact⟨d,(callsIn_wide.2 h)⟩
   |exact⟨d,λc e _=>let⟨v,b,r,s⟩:=h c e;⟨v,b,r,(stepsIn_wide.2 s)⟩⟩
 |halt x b=>cases x<;>exact h
structure T8 (P:Aw)(call:i9):Prop where
 d:∀g args hp v hp',call.d g args hp=some (v,hp')-> ∀B w0 σ w args',VRL σ args args'->HR B w0 σ hp w->
  Calls P g args'.toArray w (λe w'=>∃σ' u,e= .returned u/\Sg.j hp.d hp'.d σ σ'/\VR σ' v u/\HR B w0 σ' hp' w')
 h:∀g t,call.g g=some t->nE P g t
 f:∀i args hp v hp',call.f i args hp=some (v,hp')-> ∀B w0 σ w args' p,σ i=some p->VRL σ args args'->HR B w0 σ hp w->
  ∃r,w.heap[p.d]? =some (.loop r)/\args'.length=r.params.size/\
   RoundIn Fence.wide 0 P p.d r.fn ((r.params.zip args'.toArray).foldl (λtmps (t,a)=>tmps.setIfInBounds t a) r.tmps) r.assign r.body w (λe w'=>∃σ' u,e= .returned u/\Sg.j hp.d hp'.d σ σ'/\VR σ' v u/\HR B w0 σ' hp' w')
section
variable {P :Aw}{B:BS}{V:Bc}{Z:Sg}{W:Hp}{w:Bc}
variable {v:Av}
def MOK.d {u:Av}{s:Sem Av}(a:VR Z v u)(b:∀w,s.run P w= .ok u w)(c:HR B V Z W w):MOK W B V Z v W (s.run P w):=
 ⟨Z,u,w,b w,Zy _ Z,a,c⟩
def Bf {b:Builtin}{ats:Array Ax}{args:Af}{a:Af}{f:Hp}(h:C7 P W b ats.toList args=(v,f))(p:VRL Z args a)(m:HR B V Z W w)(ty:Ax)(cs:Array Bool):∃c u n,(builtin b ats ty cs a.toArray).run P w= .ok (.value u) n/\Sg.j W.d f.d Z c/\VR c v u/\HR B V c f n:=by
 have e:∀ {s:Sem Av},MOK W B V Z v f (s.run P w)->builtin b ats ty cs a.toArray=(do pure (.value<|<-s):Sem Next)->
   ∃c u n,(builtin b ats ty cs a.toArray).run P w= .ok (.value u) n/\Sg.j W.d f.d Z c/\VR c v u/\HR B V c f n:=by
  intro s D F;let⟨c,u,n,o,l,A,C⟩:=D;refine⟨c,u,n,?_,l,A,C⟩;simp_all
 unfold C7 at h;split at h
 .rename_i t u s x k;obtain⟨E,r,rfl,y,j⟩:=p.d;obtain⟨q,r,rfl,g,j⟩:=j.d;have:ats= #[t,u]:=by grind
  subst this;split at h;rename_i r z;cases h;exact e (BJ z y g m ty) rfl;exact e (Be h y g m ty) rfl
 .rename_i t x k;obtain⟨q,r,rfl,g,j⟩:=p.d;have:ats= #[t]:=by grind
  subst this;exact e (Fx h g m ty) rfl
 .rename_i t u d x k;obtain⟨E,r,rfl,y,j⟩:=p.d;obtain⟨q,r,rfl,g,j⟩:=j.d;have:ats= #[t,u]:=by grind
  subst this;exact e (HY h y g m ty) rfl
 .rename_i t x k;obtain⟨q,r,rfl,g,j⟩:=p.d;obtain⟨i,rfl⟩:=C5 h;have:ats= #[t]:=by grind
  subst this;let⟨o,l⟩:=KF i g ty #[t] rfl;exact e (MOK.d o l m) rfl
 .rename_i t x k;obtain⟨q,r,rfl,g,j⟩:=p.d;obtain⟨i,rfl⟩:=C5 h;have:ats= #[t]:=by grind
  subst this;let⟨G,o,l⟩:=KE i g ty #[t] rfl;exact e (MOK.d o l m) rfl
 rename_i x xs;obtain⟨q,r,rfl,g,j⟩:=p.d;obtain⟨i,rfl⟩:=C5 h;obtain⟨o,l⟩:=Bl i g j;exact e (MOK.d o l m) rfl;cases h
def gG {g:Ay}{fn:Func}{args:Al}(c:P.funcs[g]? =fn)(a:cN fn)(w:Bc):(callFunc g args).run P w= .ok (.enter g args) w:=by
 simp only[cN,WK,XI]at a;have b:fn.body.isNone=false:=by simp_all
 simp only[callFunc,Xn,YP,Xj,c,a.2,b,Yn,if_false,Xs]
variable {U:Ao}
set_option maxHeartbeats 2000000 in
def Dd {o:Oper}{n:Nw}(h:xnw P U o.op=n){a:Act}(d:∀x∈o.op.operands,∀v,i7 U x=some v->VR Z v (a.eval x)):∃s:Sem Av,execOp a.eval o=(do pure (.value<|<-s):Sem Next)/\tQ P Z n s:=by
 let⟨k,op,type,u,after,f⟩:=o;cases op;case alloc e=>
  simp only[xnw]at h;cases b:Nat.beq e rgT with
  |true=>rw[b]at h;cases h
  |false=>rw[b]at h;exact⟨_,rfl,BH h⟩
 case box e x=>
  simp only[xnw]at h;cases b:Nat.beq e rgT with
  |true=>rw[b]at h;cases h
  |false=>
  rw[b,Xb]at h;split at h;rename_i v hv;simp only[WJ]at h;subst h;exact⟨_,rfl,HV<|d x (by simp[Op.operands]) _ hv⟩;cases h
 case buildSlice t len parts=>simp only[xnw]at h;split at h;rename_i z j;exact⟨_,rfl,KD (ys:=parts.map λ(i,x)=>(i,a.eval x)) h<|by simpa using (oQ (σ:=Z) (a:=a) (λp W=>d p.2<|by simp only[Op.operands,List.mem_toArray];exact Yw.2 ⟨p,W,rfl⟩) j)⟩;cases h
 case makeSlice t l c=>simp only[xnw]at h;split at h;rename_i y q;split at h;rename_i w m;exact⟨_,rfl,KG h (d l (by simp[Op.operands]) _ q)<|d c (by simp[Op.operands]) _ m⟩;cases h;cases h
 case range t x=>simp only[xnw]at h;split at h;rename_i A r;exact⟨_,rfl,BK h<|d x (by simp[Op.operands]) _ r⟩;cases h
 all_goals (simp only[xnw,reduceCtorEq]at h)
set_option maxHeartbeats 2000000 in
def mF {call:i9}(K:T8 P call){o:Oper}{H:Hp}(h:xop P call U W o.op=some (v,H)){a:Act}(ht:∀x∈o.op.operands,∀v,i7 U x=some v->VR Z v (a.eval x))(F:HR B V Z W w)(next:Act->Bc->Prop)(Q:Exit->Act->Bc->Prop)(O:∀C u R,Sg.j W.d H.d Z C->VR C v u->HR B V C H R->next (a.put o.dst u) R)(r:Ai):o.wpIn (RF r) 0 P a w next Q:=by
 have M:∀ {s:Sem Av},MOK W B V Z v H (s.run P w)->execOp a.eval o=(do pure (.value<|<-s):Sem Next)->o.wp P a w next Q:=by intro s ⟨C,u,R,D,A,N,h4⟩ he;unfold Oper.wp;rw[he];simp only[Xn,D,Xj,Xs,YL];exact O C u R A N h4
 have I:∀ {s:Sem Av} {x:Ag},j4 W x=some (v,H)->(x=some v-> ∃u,VR Z v u/\ ∀w,s.run P w= .ok u w)->
   execOp a.eval o=(do pure (.value<|<-s):Sem Next)->o.wp P a w next Q:=by
  intro s x k hs he;obtain⟨bc,rfl⟩:=C5 k;let⟨u,D,A⟩:=hs bc;exact M (MOK.d D A F) he
 have ab:V3 W (xnw P U o.op)=some (v,H)->o.wp P a w next Q:=by
  intro k;cases ak:xnw P U o.op with
  |none=>rw[ak]at k;cases k
  |some n=>rw[ak]at k;simp only[V3,WJ]at k;let⟨s,D,A⟩:=Dd ak ht;have hm:=A.d F;rw[k]at hm;exact M hm D
 have q:∀ {x v},i7 U x=some v->(m:x∈o.op.operands:=by simp[Op.operands,Call.operands])->VR Z v (a.eval x):=λh m=>ht _ m _ h;let⟨ah,op,type,an,after,J⟩:=o;cases op;case call c=>
  simp only[xop]at h;let⟨ac,j,S⟩:=c;let⟨args,ai,h⟩:=m1 h;have ad:=wD (λy L=>ht y (by simp only[Op.operands,Call.operands,Array.mem_append];exact .inr<|by simpa using L)) ai;cases ac with
  |invoke r m=>cases h
  |builtin b=>
   refine gU (λ_ h=>by cases h) ?_;let⟨C,u,R,D,A,N,h4⟩:=Bf (ty:=type) (cs:=j.map λ| .const _=>true|_=>false) h ad F;unfold Oper.wp;have G:(j.toList.map a.eval).toArray=j.map a.eval:=by apply Array.ext';simp
   rw[G]at D;have T:(execOp a.eval ⟨ah,.call ⟨.builtin b,j,S⟩,type,an,after,J⟩).run P w= .ok (.value u) R:=by simp only[execOp,resolve,invoke,Xn,Xs,Xj];exact D
   rw[T];exact O C u R A N h4
  |value f=>
   simp only at h;let⟨fv,hf,h⟩:=m1 h;have ae:=q hf;unfold nB at h;split at h
   .rename_i g first E
    refine gU (λ_ h=>by cases h) ?_;generalize aj:a.eval f=fe at ae;cases ae with
    |func _ _ ys _ ds q1 q2 q3 q4=>
    split at h
    case' h_2=>cases h
    rename_i fn av;have vf:VRL Z first.toList ys.toList:=⟨by simpa using q1,λi x y D A=>q2 i x y (by simpa using D)<|by simpa using A⟩
    have vc:VRL Z E.toList ds.toList:=⟨by simpa using q3,λi x y D A=>q4 i x y (by simpa using D)<|by simpa using A⟩
    have G:(ys.toList++j.toList.map a.eval++ds.toList).toArray=ys++j.map a.eval++ds:=by apply Array.ext';simp
    have aa:(execOp a.eval ⟨ah,.call ⟨.value f,j,S⟩,type,an,after,J⟩).run P w=(callFunc g<|ys++j.map a.eval++ds).run P w:=by simp only[execOp,resolve,aj,Deferred.ofValue,invoke,Xn,Xs,Xj]
    cases ho:cN fn with
    |false=>
     rw[ho,Xb]at h;split at h
     case' h_2=>cases h
     rename_i t0 bb;have ap:t0≠nA:=λe=>by rw[e,w9 rfl]at h;cases h
     rw[B0 ap,Xb]at h;obtain⟨rfl,u,D,A⟩:=Ig ((K.h g t0 bb).resolve_left λe=>ap e.1).2 h ((vf.f ad).f vc) F;rw[G]at A;rw[Oper.wp,aa,A,YL];exact O Z u w (Zy _ Z) D F
    |true=>rw[ho,Xa]at h;have hc:=K.d g _ W v H h B V Z w _ ((vf.f ad).f vc) F;rw[G]at hc;rw[Oper.wp,aa,gG av ho w,Oper.upon_enter];refine hc.mono λe R he=>?_;obtain⟨C,u,rfl,A,N,h4⟩:=he;exact O C u R A N h4
   .rename_i i;generalize aj:a.eval f=fe at ae;cases ae with
    |U _ p ax=>
    let⟨be,k1,k2,k3⟩:=K.f i args W v H h B V Z w _ p ax ad F;have G:(j.toList.map a.eval).toArray=j.map a.eval:=by apply Array.ext';simp
    have T:(execOp a.eval ⟨ah,.call ⟨.value f,j,S⟩,type,an,after,J⟩).run P w=(Instr.yield p.d<|j.map a.eval).run P w:=by simp only[execOp,resolve,aj,Deferred.ofValue,invoke,Xn,Xs,Xj];congr 2;simp
    refine⟨λ_ _=>trivial,?_⟩;rw[Oper.semAt_eq _ _ _ (λ_ h=>by cases h),T,run_yield k1<|by rw[<-k2];simp,Oper.uponIn_round];refine⟨(λh=>by cases h),?_⟩;rw[G]at k3;refine(show RoundIn (RF r) _ P _ _ _ _ _ _ _ from k3).mono λe R he=>?_;obtain⟨C,u,rfl,A,N,h4⟩:=he;exact O C u R A N h4
   cases h
 all_goals first| (simp only[xop,reduceCtorEq]at h;done)|refine gU (λ_ h=>by cases h) ?_
 case move x=>obtain⟨k,rfl⟩:=C5 h;exact O Z _ w (Zy _ Z) (q k) F
 case assign x=>obtain⟨k,rfl⟩:=C5 h;exact O Z _ w (Zy _ Z) (q k) F
 case pick c x y=>simp only[xop]at h;split at h;rename_i t hc;have ao:=q hc;generalize aq:a.eval c=cv at ao;cases ao;unfold Oper.wp;cases t<;>obtain⟨k,rfl⟩:=C5 h<;>simp only[execOp,aq,asBool,Xn,Xs,Xj,YE,Yn,if_false,YL]<;>exact O Z _ w (Zy _ Z) (q k) F;cases h
 case alloc e=>
  simp only[xop,fV]at h;cases hb:Nat.beq e rgT with
  |false=>rw[hb]at h;exact ab h|true=>rw[hb,Xa]at h;have:=WO hb;subst this;let⟨z,hz,h⟩:=m1 h;let⟨hc,hr⟩:=V0 hz;let⟨C,D,A,N⟩:=uO (X:=z.cells) h (by simpa using(fI Z hc).O) F;exact M (s:=Instr.alloc rgT true<|.tuple #[]) ⟨C,_,_,by simp[Instr.alloc,hr,newVar,newRow],D,A,N⟩ rfl
 case box e x=>
  simp only[xop,Qv]at h;cases hb:Nat.beq e rgT with
  |false=>rw[hb]at h;exact ab h|true=>rw[hb,Xa]at h;have:=WO hb;subst this;let⟨xv,k,h⟩:=m1 h;let⟨C,D,A,N⟩:=uO (X:=(a.eval x).cells) h (q k).O F;exact M (s:=Instr.box rgT<|a.eval x) ⟨C,_,_,by simp[Instr.box,newVar,newRow],D,A,N⟩ rfl
 case build t parts=>let⟨ps,az,h⟩:=m1 h;have ay:=oQ (λp W=>ht p.2<|by simp only[Op.operands,List.mem_toArray];exact Yw.2 ⟨p,W,rfl⟩) az;exact I h (λk=>Fw (Y:=parts.map λ(i,x)=>(i,a.eval x)) k<|by simpa using ay) rfl
 case buildSlice t len parts=>exact ab h
 case makeSlice t l c=>exact ab h
 case range t x=>exact ab h
 case next it isS=>let⟨_,k,h⟩:=m1 h;exact M (Ia h (q k) F type) rfl
 case load t x=>let⟨_,k,h⟩:=m1 h;obtain⟨h,rfl⟩:=C5 h;let⟨u,D,A⟩:=uN h (q k) F;exact M ⟨Z,u,w,A,Zy _ Z,D,F⟩ rfl
 case store t x y=>let⟨_,k,h⟩:=m1 h;let⟨_,L,h⟩:=m1 h;let⟨_,ba,h⟩:=m1 h;cases h;let⟨R,D,A,N⟩:=FN ba (q k) (q L) F;simp only[Oper.wp,execOp,Xn,D,Xj,Xs,Oper.upon_skip];exact O Z undef R (by rw[N];exact Zy _ Z) (VR.undef Z) A
 case nilCheck x=>simp only[xop]at h;unfold Oper.wp;split at h;rename_i p k;cases h;have hv:=q k;generalize am:a.eval x=xv at hv;have al:=hv;cases hv<;>simp only[execOp,am,Xs,YL]<;>exact O Z _ w (Zy _ Z) al F;rename_i f fa fb k;cases h;have hv:=q k;generalize am:a.eval x=xv at hv;have al:=hv;cases hv;simp only[execOp,am,Xs,YL];exact O Z _ w (Zy _ Z) al F;cases h
 case binOp op t x y yt=>let⟨_,k,h⟩:=m1 h;let⟨_,L,h⟩:=m1 h;obtain⟨h0,rfl⟩:=C5 h;let⟨u0,D,A⟩:=HQ (P:=P) h0 (q k) (q L) x y;simp only[Oper.wp,execOp,Xn,(A w).1,(A w).2,Xj,Xs,YL];exact O Z _ w (Zy _ Z) D F
 case unOp op t x=>let⟨_,k,h⟩:=m1 h;exact I h (λh=>⟨_,Ok h<|q k⟩) rfl
 case convert s d x=>let⟨_,k,h⟩:=m1 h;exact I h (λh=>HX h<|q k) rfl
 case makeFunc fn first E=>let⟨fs,aw,h⟩:=m1 h;let⟨cs,au,h⟩:=m1 h;cases h;have v1:=wD (λy L=>ht y (by simp only[Op.operands,Array.mem_append];exact .inl<|by simpa using L)) aw;have v2:=wD (λy L=>ht y (by simp only[Op.operands,Array.mem_append];exact .inr<|by simpa using L)) au;refine O Z (.func fn (first.map a.eval)<|E.map a.eval) w (Zy _ Z) (.func _ _ _ _ _ ?_ ?_ ?_ ?_) F;have:=v1.1;simpa using this;intro i x y D A;exact v1.2 i x y (by simpa using D) (by simpa using A);have:=v2.1;simpa using this;intro i x y D A;exact v2.2 i x y (by simpa using D) (by simpa using A)
 case slice t x lo hi mx=>let⟨_,k,h⟩:=m1 h;let⟨_,hl,h⟩:=m1 h;let⟨_,hh,h⟩:=m1 h;let⟨_,hm,h⟩:=m1 h;exact M (FI h (q k) (Bs (λy L=>ht y<|by subst L;simp[Op.operands]) hl) (Bs (λy L=>ht y<|by subst L;simp[Op.operands]) hh) (Bs (λy L=>ht y<|by subst L;simp[Op.operands]) hm) F) rfl
 case fieldAddr t x f=>let⟨_,k,h⟩:=m1 h;exact I h (λh=>tA h<|q k) rfl
 case field t x f=>let⟨_,k,h⟩:=m1 h;exact I h (λh=>Fz h<|q k) rfl
 case indexAddr t x i=>let⟨_,k,h⟩:=m1 h;let⟨_,hi,h⟩:=m1 h;exact I h (λh=>tE h (q k)<|q hi) rfl
 case index t x i=>let⟨_,k,h⟩:=m1 h;obtain⟨_,hi,h⟩:=m1 h;exact I h (λh=>FA h (q k)<|q hi) rfl
 case extract x i=>obtain⟨_,k,h⟩:=m1 h;exact I h (λh=>Bi h<|q k) rfl
end
def iB (a:An)(c:Ao)(j:Nat):Bb Bool:=
 match a[j]? with
 |some o=>match o.dst with
  |some d=>match c.l d with
   |some (.bool b)=>some b|_=>none
  |none=>none
 |none=>none
def y9 (c:An)(d:Ao)(o:Oper):Bool:=
 match o.guard with
 |none=>true|some (j,a)=>match iB c d j with
  |some b=>b==a|none=>false
variable {X:Sg}{V:Nat}{Y:Ao}
def KO {tmps:Al}(h:TR X V Y tmps)(a:Am)(o:Oper):Region.wanted o (yielded a tmps)=y9 a.toList Y o:=by
 rw[Region.wanted,y9];cases o.guard with
 |none=>rfl|some i=>
  let⟨j,g⟩:=i;have m:yielded a tmps j=iB a.toList Y j:=by
   rw[yielded,iB,Array.getElem?_toList];cases l:a[j]? with
   |none=>rfl|some p=>
    simp;cases k:p.dst with
    |none=>rfl|some d=>
     simp;have:=h.g d;by_cases f:d<tmps.size
     .have e:tmps[d]? =tmps[d]:=by grind
      have c:tmps.getD d undef=tmps[d]:=by simp_all
      rw[c]at this;rw[e];cases b:Y.l d with
      |none=>rw[b,Option.getD_none]at this;generalize tmps[d]=x at this;cases this<;>grind
      |some v=>rw[b,XB]at this;generalize tmps[d]=x at this;cases this<;>rfl
     .have e:=Array.getElem?_eq_none<|Yt f;have c:tmps.getD d undef=undef:=by grind
      rw[c]at this;rw[e];cases b:Y.l d with
      |none=>rfl|some v=>rw[b,XB]at this;cases this<;>grind
  grind
def A6 (Y:Ao)(a:Bb Tmp)(v:Av):Ao:=
 match a with
 |some d=>Y.m d<|some v|none=>Y
def E6 (V:Nat)(a:Bb Tmp):Bool:=
 match a with
 |some d=>Nat.blt d V|none=>true
def TR.i {a:Act}(h:TR X V Y a.tmps){b:Bb Tmp}(c:E6 V b){v u:Av}(hv:VR X v u):TR X V (A6 Y b v) (a.put b u).tmps:=by
 cases b with
 |none=>exact h|some d=>exact h.j (WN c) hv
def Sc (d:Ao->Hp->Bb (Ao×Hp))(Y:Ao)(a:Bb Tmp)(r:Bb (Av×Hp)):Bb (Ao×Hp):=
 Option.rec (motive:=λ_=>Bb<|Ao×Hp) none (λp=>Prod.rec (motive:=λ_=>Bb<|Ao×Hp) (λv c=>(A6 Y a v).A λb=>d b c) p) r
def xone (P:Aw)(call:i9)(V:Nat)(all:An)(o:Oper)(c:Ao->Hp->Bb (Ao×Hp))(Y:Ao)(b:Hp):Bb (Ao×Hp):=
 bif E6 V o.dst then
  bif y9 all Y o then Sc c Y o.dst (xop P call Y b o.op)
  else(A6 Y o.dst undef).A λa=>c a b
 else none
def Bp (P:Aw)(call:i9)(V:Nat)(all:An)(l:An):Ao->Hp->Bb (Ao×Hp):=
 List.rec (motive:=λ_=>Ao->Hp->Bb (Ao×Hp)) (λY a=>some (Y,a)) (λo _ b Y a=>xone P call V all o b Y a) l
variable {P:Aw}{call:i9}{Z:Hp}
def Bq {all:An}:Bp P call V all [] Y Z=(Y,Z):=rfl
def Y9 {all rest:An}{o:Oper}:Bp P call V all (o::rest) Y Z=bif E6 V o.dst then bif y9 all Y o then match xop P call Y Z o.op with
    |some (v,a)=>Bp P call V all rest (A6 Y o.dst v) a|none=>none
   else Bp P call V all rest (A6 Y o.dst undef) Z
  else none:=by
 show xone P call V all o (Bp P call V all rest) Y Z=_;rw[xone];cases xop P call Y Z o.op with
 |none=>simp only[ZB,Sc]|some r=>simp only[ZB,Sc]
def Bu (n:Nat)(B:BS)(f:Bc)(X:Sg)(V:Nat)(e:Exit)(Y:Ao)(Z:Hp)(D:List Deferred):Exit->Act->Bc->Prop:=
 λc b d=>c=e/\b.defers=D/\ ∃a,Sg.j n Z.d X a/\TR a V Y b.tmps/\HR B f a Z d
variable {M O:Bc}{W:Sg}
def Bu.d {B:BS}{n f:Nat}(h:Sg.j n f X W){e:Exit}{D:List Deferred}{d:Exit}{c:Act}(a:Bu f B O W V e Y Z D d c M):Bu n B O X V e Y Z D d c M:=by let⟨g,i,b,j,k,l⟩:=a;exact⟨g,i,b,Zz h j,k,l⟩
variable {r:Ai}
def BG {d:Am}{Q k:Exit->Act->Bc->Prop}(f:∀e a w,Q e a w->k e a w):∀(l:Ah) {a:Act} {w:Bc},wpOpsIn (RF r) 0 P d Q l a w->wpOpsIn (RF r) 0 P d k l a w:=by
 have c:LetsOut Q->LetsOut k:=λ⟨a,w,h⟩=>⟨a,w,f _ _ _ h⟩
 intro l;induction l with
 |nil=>intro a w h;exact f _ _ _ h
 |cons i rest j=>
  intro a w h;simp only[wpOpsIn]at h⊢;cases m:d[i]? with
  |none=>grind|some o=>
   simp only[m]at h;simp only;split
   .rename_i p;simp only[p,YE]at h;refine⟨h.1,?_⟩;replace h:=h.2;generalize (o.semAt (RF r).round a.eval).run P w=x at h⊢;cases x with
    |ok n M=>
     cases n<;>simp only[Oper.uponIn]at h⊢ <;>first
      |exact j h
      | (refine⟨h.1,CallsIn.mono h.2 λe g b=>?_⟩;cases e<;>first|exact j b|exact f _ _ _ b|exact c b)
      |exact⟨h.1,RowsIn.mono h.2 λv g b=>j b⟩
      | (refine⟨h.1,RoundIn.mono h.2 λe g b=>?_⟩;cases e<;>first|exact j b|exact f _ _ _ b|exact c b)
    |halt x M=>cases x<;>simp only[Oper.uponIn]at h⊢ <;>exact f _ _ _ h
   grind
def mY {P:Aw}{F:Fence}{k:Nat}{c:Code}{Q b:Exit->Act->Bc->Prop}(f:∀e a w,Q e a w->b e a w):∀ {n:Nat} {a:Act} {w:Bc},Code.roundsIn F k P c Q n a w->Code.roundsIn F k P c b n a w
 |0,_,_,h=>h.elim|n+1,_,_,h=>YR h λe a w d=>by
  cases e with
  |normal=>exact mY f d|_=>exact f _ _ _ d
section
variable {P :Aw}{B:BS}{O:Bc}{call:i9}
def TR.l {X:Sg}{V:Nat}{Y:Ao}{a:Act}(h:TR X V Y a.tmps)(xs:Array Az):∀x∈xs,∀v,i7 Y x=some v->VR X v (a.eval x):=
 λ_ _ _ hv=>qV h hv
def oC (a:Act)(b:Bb Tmp)(v:Av):(a.put b v).defers=a.defers:=by cases b<;>rfl
def KI (g:T8 P call){V:Nat}(b:Am)(r:Ai):∀(l:An) (k:Nat) (Y:Ao) (Z:Hp) (d:Ao) (c:Hp) (X:Sg) (a:Act) (w:Bc),(∀j,l[j]? =b[k+j]?)->Bp P call V b.toList l Y Z=(d,c)->TR X V Y a.tmps->HR B O X Z w-> ∀D,a.defers=D->wpOpsIn (RF r) 0 P b (Bu Z.d B O X V .normal d c D) (List.range' k l.length) a w:=by
 intro l;induction l with
 |nil=>intro k Y Z d c X a w _ h i s D q;obtain⟨rfl,rfl⟩:=h;exact⟨rfl,q,X,Zy _ X,i,s⟩
 |cons o l A=>
  intro k Y Z d c X a w z h i s D q;have C:b[k]? =o:=by simpa using(z 0).symm
  have m:∀j,l[j]? =b[k+1+j]? :=λj=>by have:=z<|j+1;simpa [Yc,Nat.add_comm 1 j]using this
  rw[Y9]at h;simp only[XD,List.range'_succ,wpOpsIn,C];cases f:E6 V o.dst with
  |false=>grind|true=>
   rw[f,Xa]at h;rw[KO i b o];cases p:y9 b.toList Y o with
   |true=>rw[p,Xa]at h;split at h;rename_i v t F;refine mF g F (i.l _) s _ _ (λW u M n hv x=>?_) r;exact BG (λe G M E=>Bu.d n E) _ (A (k+1) _ t d c W (a.put o.dst u) M m h ((i.d n.d).i f hv) x D (by rw[oC];exact q));cases h
   |false=>rw[p,Xb]at h;exact⟨λ_ _=>trivial,A (k+1) _ Z d c X _ w m h (i.i f<|VR.undef X) s D<|by rw[oC];exact q⟩
end
inductive Df where
 |d (r:Nat)
 |f (g:Ay) (args cap:Af)
def DfR (X:Sg):Df->Deferred->Prop
 | .d r,d=>∃p,X r=some p/\d.target= .collected p.d| .f g args cap,d=>∃a,d.target= .fn (.func g) a/\VRL X args d.args.toList/\VRL X cap a.toList
def DsR (X:Sg):List Df->List Deferred->Prop
 | [],[]=>True|x::xs,d::a=>DfR X x d/\DsR X xs a|_,_=>False
def DfR.d (e:Sg.t X W){x:Df}{d:Deferred}(h:DfR X x d):DfR W x d:=by
 cases x with
 |d r=>let⟨p,a,b⟩:=h;exact⟨p,e _ _ a,b⟩
 |f g args cap=>let⟨c,a,b,f⟩:=h;exact⟨c,a,b.m e,f.m e⟩
def DsR.d (b:Sg.t X W):∀ {xs:List Df} {a:List Deferred},DsR X xs a->DsR W xs a
 | [],[],_=>trivial|_::_,_::_,h=>⟨h.1.d b,DsR.d b h.2⟩
 | [],_::_,h=>h.elim|_::_,[],h=>h.elim
def ArR (X:Sg):Ai->Ai->Prop
 |none,none=>True|some j,some b=>∃p,X j=some p/\p.d=b|_,_=>False
def ArR.d (d:Sg.t X W){a:Ai}(h:ArR X a r):ArR W a r:=by cases a<;>cases r<;>first|exact h| (let⟨p,b,c⟩:=h;exact⟨p,d _ _ b,c⟩)
inductive XR where
 |mk (e:Exit) (Y:Ao) (Z:Hp) (ds:List Df)
abbrev dL:=i9->Nat->An->Ao->Hp->Bb (Ao×Hp)
def nD (P:Aw)(e:dL):Prop:=
 ∀call,T8 P call-> ∀V (c:Am) f Y Z d b,e call V c.toList Y Z=some (d,b)-> ∀B O X a w,TR X V Y a.tmps->HR B O X Z w-> ∀r,
  (Code.region f c true).wpIn (RF r) 0 P (Bu Z.d B O X V .normal d b a.defers) a w
def Bt (R:Bb (Av×Hp))(l:Nat)(Y:Ao)(b:List Df):Bb XR:=
 match R with
 |some (_,Z)=>match Z.m.l l with
  |some (.loop .ready a _ _ _ _ _ _)=>match a with
   |none=>some<|.mk .normal Y {Z with m:=Z.m.m l none} b|some _=>none
  |some (.loop .done a _ _ _ _ _ _)=>match a with
   |some .ret=>some<|.mk .ret Y {Z with m:=Z.m.m l none} b|some (.exit c)=>some<|.mk (.exit c) Y {Z with m:=Z.m.m l none} b|_=>none
  |_=>none
 |none=>none
def hZ (P:Aw)(call:i9)(V:Nat)(c:Ai)(f:Az)(b:Array Tmp)(assign body:Code)(Y:Ao)(Z:Hp)(a:List Df):Bb XR:=
 match i7 Y f with
 |some (.func (.func g) first captured)=>match P.funcs[g]? with
  | some fn => bif cN fn then
    match c with
    |none=>Bt (call.d g (first.toList++ [.chan (some<|Z.d+1)]++captured.toList) ⟨(Z.m.m Z.d<|some .dfr).m (Z.d+1)<|some<|.loop .ready none V Y b assign body Z.d,Z.d+2⟩) (Z.d+1) Y<|.d Z.d::a|some j=>match Z.m.l j with
     |some (.loop _ _ _ _ _ _ _ d)=>Bt (call.d g (first.toList++ [.chan (some Z.d)]++captured.toList) ⟨Z.m.m Z.d<|some<|.loop .ready none V Y b assign body d,Z.d+1⟩) Z.d Y a|_=>none
   else none
  |none=>none
 |_=>none
def Wu (Y:Ao)(c:Call):Bb Df:=
 match c.callee with
 | .value f=>match i7 Y f with
  |some (.func (.func g) first captured)=>match Y8 Y c.args.toList with
   |some args=>some<|.f g (first.toList++args) captured.toList|none=>none
  |_=>none
 |_=>none
def IA :Op->Bb Call
 | .defer c=>some c|_=>none
def Dh (P:Aw)(call:i9)(V:Nat)(all:An):An->Ao->Hp->List Df->Bb (Ao×Hp×List Df)
 | [],Y,Z,a=>some (Y,Z,a)|o::rest,Y,Z,a=>
  bif E6 V o.dst then
   bif y9 all Y o then
    match IA o.op with
    |some c=>match Wu Y c with
     |some d=>Dh P call V all rest (A6 Y o.dst undef) Z<|d::a|none=>none
    |none=>match xop P call Y Z o.op with
     |some (v,b)=>Dh P call V all rest (A6 Y o.dst v) b a|none=>none
   else Dh P call V all rest (A6 Y o.dst undef) Z a
  else none
def ME (P:Aw)(call:i9)(V:Nat)(c:Ai)(b:An)(a:Bool)(Y:Ao)(Z:Hp)(d:List Df):Bb XR:=
 have _:=P
 none
def t9 (P:Aw)(i:dL)(call:i9)(V:Nat)(h:Ai):Nat->Code->Ao->Hp->List Df->Bb XR
 |0,_,_,_,_=>none|m+1,c,Y,Z,g=>match c with
  | .skip=>some<|.mk .normal Y Z g| .label _=>some<|.mk .normal Y Z g| .region _ k l=>match(bif l then i call V k.toList Y Z else Bp P call V k.toList k.toList Y Z)with
   |some (d,a)=>some<|.mk .normal d a g|none=>ME P call V h k.toList l Y Z g
  | .seq x y=>match t9 P i call V h m x Y Z g with
   |some (.mk .normal d a e)=>t9 P i call V h m y d a e|r=>r
  | .cond c x y=>match i7 Y c with
   |some (.bool true)=>t9 P i call V h m x Y Z g|some (.bool false)=>t9 P i call V h m y Y Z g|_=>none
  | .block n b=>match t9 P i call V h m b Y Z g with
   |some (.mk (.exit j) d a e)=>bif Nat.beq j n then some (.mk .normal d a e)else some (.mk (.exit j) d a e)|r=>r
  | .loop b=>match t9 P i call V h m b Y Z g with
   |some (.mk .normal d a e)=>t9 P i call V h m (.loop b) d a e|r=>r
  | .exit n=>some<|.mk (.exit n) Y Z g| .ret=>some<|.mk .ret Y Z g| .scope b=>match t9 P i call V h m b Y Z g with
   |some (.mk .normal d a e)=>some<|.mk .normal d a e|some (.mk (.exit j) d a e)=>some<|.mk (.exit j) d a e|some (.mk .ret d a e)=>some<|.mk .ret d a e|_=>none
  | .rangeFunc f o assign body=>hZ P call V h f o assign body Y Z g|_=>none
def V2 (n:Nat)(B:BS)(O:Bc)(X:Sg)(V:Nat)(e:Exit)(Y:Ao)(Z:Hp)(b:List Df):Exit->Act->Bc->Prop:=
 λc a M=>c=e/\ ∃W,Sg.j n Z.d X W/\DsR W b a.defers/\TR W V Y a.tmps/\HR B O W Z M
def V2.d {B:BS}{n g:Nat}(h:Sg.j n g X W){e:Exit}{d:List Df}{f:Exit}{c:Act}(a:V2 g B O W V e Y Z d f c M):V2 n B O X V e Y Z d f c M:=by let⟨i,b,k,j,l,m⟩:=a;exact⟨i,b,Zz h k,j,l,m⟩
def Zt:type_of% @V2.d:=@V2.d
section
variable {P :Aw}{B:BS}{O:Bc}{call:i9}{J:dL}
variable {b:Frame}{a:Act}{k:List Item}{L:List Frame}{w:Bc}{c:Code}
def U7 :step P (lone (b.atR a<|.code (.scope c)::k) L w)= .next (lone (b.atR a<|.code c:: .inScope c::k) L w):=
 step_lone_go rfl
def BF :step P (lone (b.atR a<|.inScope c::k) L w)= .next (lone (b.atR a k) L w):=
 step_lone_go rfl
def mN {F:Fence}{n:Nat}{Q:Exit->Act->Bc->Prop}(h:c.wpIn F n P (Exit.noGoto Q) a w):(Code.scope c).wpIn F n P Q a w:=by
 intro b k L s o q;have i:(lone (b.atR a<|.code (.scope c)::k) L w).fenced P F:=fenced_calm o q rfl;let⟨e,f,g,j,d⟩:=h b (.inScope c::k) L s o q;cases e with
 |normal=>exact⟨.normal,f,g,j,.head i U7<|StepsIn.trans d<|.one (fenced_calm o q rfl) BF⟩|exit t=>
  have y:exitTo t (.inScope c::k)=exitTo t k:=rfl;exact⟨.exit t,f,g,j,λx p=>.head i U7<|d.1 x<|p,
   λr p=>let⟨m,u,v⟩:=d.2 r<|p;⟨m,u,.head i U7 v⟩⟩
 |goto l=>exact j.elim|ret=>exact⟨_,f,g,j,.of_steps (.one i U7) d⟩|panic ch=>exact⟨_,f,g,j,.of_steps (.one i U7) d⟩|outgrown=>exact⟨_,f,g,j,.of_steps (.one i U7) d⟩
variable {X:Sg}{Z:Hp}
def HR.y (h:HR B O X Z w){m:T Blk}(a:∀i b,m.l i=some b->Z.m.l i=some b):HR B O X ⟨m,Z.d⟩ w:=
 h.sub (Xh _) a
def HR.drop (h:HR B O X Z w)(l:Nat):HR B O X {Z with m:=Z.m.m l none} w:=by refine h.y λi b a=>?_;rw[ZD]at a;grind
variable {Y U:Ao}{N S:List Df}{e:Exit}{R:Hp}{V:Nat}
def rA (A:T8 P call){g l:Nat}{xs:Af}(h:Bt (call.d g xs Z) l Y N=some (.mk e U R S)){p:Pl}(hl:X l=p){W:Af}(hv:VRL X xs W)(hw:HR B O X Z w)(M:TR X V Y a.tmps)(I:DsR X N a.defers)(r:Ai)(k:Nat):CallsIn (RF r) k P g W.toArray w (rangePost (RF r) 0 P p.d (V2 Z.d B O X V e U R S) a):=by
 unfold Bt at h;split at h
 .rename_i v x hx;refine((callsIn_wide).2 (A.d g xs Z v x hx B O X w W hv hw)).mono λe' w1 he=>?_;obtain⟨y,u,rfl,t,_,F⟩:=he;have z:∀Q c q d s f j n,x.m.l l=some (.loop Q c q d s f j n)->Q≠ .busy->
    ∃C,(Instr.endLoop p.d).run P w1= .ok c C/\HR B O y {x with m:=x.m.m l none} C:=by
   intro Q c q d s f j n D aa;let⟨p',o,q1,q2,q3,q4⟩:=F.t l _ D;have:=Xk<|q1.symm.trans (t.d _ _ hl);subst this;obtain⟨G,rfl,k1,k2,k3,k4,k5,k6,k7⟩:=q4;refine⟨w1.putObj p'.d<|.loop {G with state:= .exhausted},?_,?_⟩;rw[run_endLoop q3<|by grind,k2];have L:=HR.drop (HR.u (b':= .loop .exhausted c q d s f j n) F D q1 (o:= .loop {G with state:= .exhausted}) ⟨_,rfl,rfl,k2,k3,k4,k5,k6,k7⟩) l;refine L.y λi b J=>?_;rw[ZD]at J⊢;by_cases E:i=l;grind;rw[Xd E]at J⊢;rw[ZD,Xd E];exact J
  split at h;rename_i c q d s f j n D;let⟨C,m1,H⟩:=z _ _ _ _ _ _ _ _ D (by simp);split at h;simp at h;obtain⟨rfl,rfl,rfl,rfl⟩:=h;exact⟨_,C,m1,rfl,y,t,I.d t.d,M.d t.d,H⟩;cases h;rename_i c q d s f j n D;let⟨C,m1,H⟩:=z _ _ _ _ _ _ _ _ D (by simp);split at h;simp at h;obtain⟨rfl,rfl,rfl,rfl⟩:=h;exact⟨_,C,m1,wpIn_ret ⟨rfl,y,t,I.d t.d,M.d t.d,H⟩⟩;simp at h;obtain⟨rfl,rfl,rfl,rfl⟩:=h;exact⟨_,C,m1,wpIn_exit ⟨rfl,y,t,I.d t.d,M.d t.d,H⟩⟩;cases h;cases h
 cases h
variable {K r:Ai}
def tK (t:T8 P call){f:Az}{D:Array Tmp}{assign body:Code}(h:hZ P call V K f D assign body Y Z N=some (.mk e U R S))(I:TR X V Y a.tmps)(J:HR B O X Z w)(hd:DsR X N a.defers)(F:ArR X K r):(Code.rangeFunc f D assign body).wpIn (RF r) 0 P (V2 Z.d B O X V e U R S) a w:=by
 rw[hZ] at h;split at h
 .rename_i g first n hf
  have aa:=qV I hf;generalize ab:a.eval f=fe at aa;cases aa with
  |func _ _ T _ L q1 q2 q3 q4=>
  have vf:VRL X first.toList T.toList:=⟨by omega,λi x y h1 W=>q2 i x y (by grind)<|by grind⟩
  have vc:VRL X n.toList L.toList:=⟨by omega,λi x y h1 W=>q4 i x y (by grind)<|by grind⟩
  split at h
  .rename_i fn ac;cases ho:cN fn with
   |false=>grind|true=>
    rw[ho,Xa]at h;have A:∀l w,(resolve a.eval (rangeCall f l) 0).run P w= .ok {target:= .fn (.func g) L,args:=T++ #[Value.func (.yield l) #[] #[]]} w:=λl w=>by simp only[resolve,ab,Deferred.ofValue,List.map_toArray,XU,List.map_nil];rfl
    have z:∀l w,(invoke (.fn (.func g) L)<|T++ #[Value.func (.yield l) #[] #[]]).run P w= .ok (.enter g (T.toList++ [Value.func (.yield l) #[] #[]]++L.toList).toArray) w:=by
     intro l w;have:(T.toList++ [Value.func (.yield l) #[] #[]]++L.toList).toArray=T++ #[Value.func (.yield l) #[] #[]]++L:=by simp
     rw[this];exact gG ac ho w
    split at h
    .cases r with
     |some b=>exact F.elim|none=>
      refine wpIn_rangeFunc λs _=>?_;let C:Pl:=⟨w.heap.size,0,0,0⟩
      let u:Pl:=⟨w.heap.size+1,0,0,0⟩
      have n0:=J.A _<|Xh _;have n1:(X.d Z.d C) (Z.d+1)=none:=by rw[Zv _ _ _<|by omega];exact J.A _ (by omega)
      have p:Sg.j Z.d (Z.d+1) X (X.d Z.d C):=⟨ZA C n0,λi hi=>Zv _ _ _<|by omega,Yq _⟩
      have g2:Sg.j (Z.d+1) (Z.d+2) (X.d Z.d C) ((X.d Z.d C).d (Z.d+1) u):=⟨ZA u n1,λi hi=>Zv _ _ _<|by omega,Yq _⟩
      have d:=Zz p g2;have e0:=g2.d _ _<|Zx _ _ _;have W:=(J.F Z.d (Z.d+1) n0 (Yq _) (Yd _) .dfr (.deferred<|some []) C rfl rfl).F (Z.d+1) (Z.d+2) n1 (Yq _) (Yd _) (.loop .ready none V Y D assign body Z.d)
       (.loop {state:= .ready,pending:=none,fn:=s,tmps:=a.tmps,params:=D,assign,body,defers:=w.heap.size}) u (by simp[u])
       ⟨_,rfl,rfl,rfl,rfl,rfl,rfl,⟨I.f,λk=>(I.g k).N d.d⟩,C,e0,rfl⟩
      refine⟨_,_,_,_,_,_,_,_,run_enterLoop_outer s a.tmps D assign body,A _ _,λ_ _=>trivial,z _ _,λh=>(by cases h),?_⟩;have hs:=rA t h (Zx _ _ _) ((vf.m d.d).f (ZM (.U (Z.d+1) u<|Zx _ _ _)<|ZN _)|>.f (vc.m d.d)) W
       (a:= {a with defers:=[{target:= .collected w.heap.size,args:= #[]}]++a.defers}) (I.d d.d) ⟨⟨C,e0,rfl⟩,hd.d d.d⟩ none (0-1)
      refine hs.mono λe' M G=>?_;cases e' with
      |returned v=>
       let⟨m,w4,k1,Q⟩:=G;refine⟨m,w4,k1,?_⟩;cases m with
       |none=>exact Zt d Q|some c=>exact YR Q λe a w H=>Zt d H
      |panicked E=>exact Zt d G|outgrown=>let⟨a0,w5,H⟩:=G;exact⟨a0,w5,Zt d H⟩
    .rename_i j;cases r with
     |none=>exact F.elim|some b=>
      obtain⟨pj,hj,rfl⟩:=F;split at h
      .rename_i an ad al ai am aj ak db hg;let⟨ae,o,u1,u2,u3,u4⟩:=J.t j _ hg;have:=Xk<|u1.symm.trans hj;subst this;obtain⟨ah,rfl,k1,Q,k3,k4,k5,k6,q,k7,k8⟩:=u4;refine wpIn_rangeFunc λs _=>?_;let u:Pl:=⟨w.heap.size,0,0,0⟩
       have n0:=J.A _<|Xh _;have p:Sg.j Z.d (Z.d+1) X (X.d Z.d u):=⟨ZA u n0,λi hi=>Zv _ _ _<|by omega,Yq _⟩
       have W:=J.F Z.d (Z.d+1) n0 (Yq _) (Yd _) (.loop .ready none V Y D assign body db)
        (.loop {state:= .ready,pending:=none,fn:=s,tmps:=a.tmps,params:=D,assign,body,defers:=ah.defers}) u rfl
        ⟨_,rfl,rfl,rfl,rfl,rfl,rfl,⟨I.f,λk=>(I.g k).N p.d⟩,q,p.d _ _ k7,k8⟩
       refine⟨_,_,_,_,_,_,_,_,run_enterLoop_inner u3 s a.tmps D assign body,A _ _,λ_ _=>trivial,z _ _,λh=>(by cases h),?_⟩;have hs:=rA t h (Zx _ _ _) ((vf.m p.d).f (ZM (.U Z.d u<|Zx _ _ _)<|ZN _)|>.f (vc.m p.d)) W
        (I.d p.d) (hd.d p.d) (some ae.d) (0-1)
       refine hs.mono λe' M G=>?_;cases e' with
       |returned v=>
        let⟨m,w4,k1,Q⟩:=G;refine⟨m,w4,k1,?_⟩;cases m with
        |none=>exact Zt p Q|some c=>exact YR Q λe a w H=>Zt p H
       |panicked E=>exact Zt p G|outgrown=>let⟨a0,w5,H⟩:=G;exact⟨a0,w5,Zt p H⟩
      cases h
  cases h
 cases h
def uQ (d:T8 P call){c:Am}{b:Bool}{g:Nat}(h:ME P call V K c.toList b Y Z N=some (.mk e U R S))(j:TR X V Y a.tmps)(k:HR B O X Z w)(i:DsR X N a.defers)(f:ArR X K r):(Code.region g c b).wpIn (RF r) 0 P (V2 Z.d B O X V e U R S) a w:=by rw[ME] at h;simp at h
def dI (t:T8 P call)(ad:nD P J):∀(m:Nat),(∀(c:Code) (Y:Ao) (Z:Hp) (N:List Df) (e:Exit) (U:Ao) (R:Hp) (S:List Df) (X:Sg) (a:Act) (w:Bc) (r:Ai),t9 P J call V K m c Y Z N=some (.mk e U R S)->TR X V Y a.tmps->HR B O X Z w->DsR X N a.defers->ArR X K r->c.wpIn (RF r) 0 P (V2 Z.d B O X V e U R S) a w)/\(∀(c:Code) (Y:Ao) (Z:Hp) (N:List Df) (e:Exit) (U:Ao) (R:Hp) (S:List Df) (X:Sg) (a:Act) (w:Bc) (r:Ai),t9 P J call V K m (.loop c) Y Z N=some (.mk e U R S)->TR X V Y a.tmps->HR B O X Z w->DsR X N a.defers->ArR X K r->Code.roundsIn (RF r) 0 P c (V2 Z.d B O X V e U R S) m a w):=by
 intro m;induction m with
 |zero=>exact⟨λc Y Z N e U R S X a w r h=>(by simp[t9]at h),λc Y Z N e U R S X a w r h=>(by simp[t9]at h)⟩|succ m ih=>
  let⟨D,ae⟩:=ih;have F:∀(c:Code) (Y:Ao) (Z:Hp) (N:List Df) (e:Exit) (U:Ao) (R:Hp) (S:List Df) (X:Sg) (a:Act) (w:Bc) (r:Ai),t9 P J call V K (m+1) (.loop c) Y Z N=some (.mk e U R S)->TR X V Y a.tmps->HR B O X Z w->DsR X N a.defers->ArR X K r->
    Code.roundsIn (RF r) 0 P c (V2 Z.d B O X V e U R S) (m+1) a w:=by
   intro c Y Z N e U R S X a w r h v A z o;simp only[t9]at h;cases n:t9 P J call V K m c Y Z N with
   |none=>grind|some rr=>
    let⟨L,q,p,u⟩:=rr;refine YR (D c Y Z N L q p u X a w r n v A z o) λH I M C=>?_;obtain⟨rfl,W,d,g,i,k⟩:=C;cases H with
    |normal=>simp only[n]at h;exact mY (λe a w C=>Zt d C)<|ae c q p u e U R S W I M r h i k g<|o.d d.d|exit G=>simp only[n,WJ,XR.mk.injEq]at h;obtain⟨rfl,rfl,rfl,rfl⟩:=h;exact⟨rfl,W,d,g,i,k⟩
    |goto G=>simp only[n,WJ,XR.mk.injEq]at h;obtain⟨rfl,rfl,rfl,rfl⟩:=h;exact⟨rfl,W,d,g,i,k⟩
    |ret=>simp only[n,WJ,XR.mk.injEq]at h;obtain⟨rfl,rfl,rfl,rfl⟩:=h;exact⟨rfl,W,d,g,i,k⟩
    |panic ch=>simp only[n,WJ,XR.mk.injEq]at h;obtain⟨rfl,rfl,rfl,rfl⟩:=h;exact⟨rfl,W,d,g,i,k⟩
    |outgrown=>simp only[n,WJ,XR.mk.injEq]at h;obtain⟨rfl,rfl,rfl,rfl⟩:=h;exact⟨rfl,W,d,g,i,k⟩
  refine⟨?_,F⟩;intro c Y Z N e U R S X a w r h v A z o;cases c with
  |skip=>obtain⟨rfl,rfl,rfl,rfl⟩:=h;exact wpIn_skip ⟨rfl,X,Zy _ X,z,v,A⟩
  |label l=>obtain⟨rfl,rfl,rfl,rfl⟩:=h;exact wpIn_label ⟨rfl,X,Zy _ X,z,v,A⟩
  |exit G=>obtain⟨rfl,rfl,rfl,rfl⟩:=h;exact wpIn_exit ⟨rfl,X,Zy _ X,z,v,A⟩
  |ret=>obtain⟨rfl,rfl,rfl,rfl⟩:=h;exact wpIn_ret ⟨rfl,X,Zy _ X,z,v,A⟩
  |region G ab ac=>
   simp only[t9]at h;cases ac with
   |true=>
    split at h;next q p hr=>cases h;exact YR (ad call t V ab G Y Z _ _ hr B O X a w v A r) λH I M C=>by let⟨h1,h2,W,h3,h4,h5⟩:=C;exact⟨h1,W,h3,by rw[h2];exact z.d h3.d,h4,h5⟩
    exact uQ t h v A z o
   |false=>
    split at h
    .rename_i q p hr;simp only[WJ,XR.mk.injEq]at h;obtain⟨rfl,rfl,rfl,rfl⟩:=h;refine YR (Q:=Bu Z.d B O X V .normal q p a.defers) (wpIn_region ?_) λH I M C=>by let⟨h1,h2,W,h3,h4,h5⟩:=C;exact⟨h1,W,h3,by rw[h2];exact z.d h3.d,h4,h5⟩
     have:=KI t ab r ab.toList 0 Y Z _ _ X a w (by simp) hr v A a.defers rfl;rw[List.range_eq_range'];grind
    exact uQ t h v A z o
  |seq x y=>
   simp only[t9]at h;cases n:t9 P J call V K m x Y Z N with
   |none=>grind|some rr=>
    let⟨L,q,p,u⟩:=rr;refine wpIn_seq<|YR (D x Y Z N L q p u X a w r n v A z o) λH I M C=>?_;obtain⟨rfl,W,d,g,i,k⟩:=C;cases H with
    |normal=>simp only[n]at h;exact YR (D y q p u e U R S W I M r h i k g<|o.d d.d)<|λe a w C=>Zt d C|exit G=>simp only[n,WJ,XR.mk.injEq]at h;obtain⟨rfl,rfl,rfl,rfl⟩:=h;exact⟨rfl,W,d,g,i,k⟩
    |goto G=>simp only[n,WJ,XR.mk.injEq]at h;obtain⟨rfl,rfl,rfl,rfl⟩:=h;exact⟨rfl,W,d,g,i,k⟩
    |ret=>simp only[n,WJ,XR.mk.injEq]at h;obtain⟨rfl,rfl,rfl,rfl⟩:=h;exact⟨rfl,W,d,g,i,k⟩
    |panic ch=>simp only[n,WJ,XR.mk.injEq]at h;obtain⟨rfl,rfl,rfl,rfl⟩:=h;exact⟨rfl,W,d,g,i,k⟩
    |outgrown=>simp only[n,WJ,XR.mk.injEq]at h;obtain⟨rfl,rfl,rfl,rfl⟩:=h;exact⟨rfl,W,d,g,i,k⟩
  |cond c x y=>simp only[t9]at h;split at h;rename_i hc;have E:=qV v hc;generalize aa:a.eval c=cv at E;cases E;exact wpIn_cond_true aa<|D x Y Z N e U R S X a w r h v A z o;rename_i hc;have E:=qV v hc;generalize aa:a.eval c=cv at E;cases E;exact wpIn_cond_false aa<|D y Y Z N e U R S X a w r h v A z o;cases h
  |block G b=>
   simp only[t9]at h;cases n:t9 P J call V K m b Y Z N with
   |none=>grind|some rr=>
    let⟨L,q,p,u⟩:=rr;refine wpIn_block<|YR (D b Y Z N L q p u X a w r n v A z o) λH I M C=>?_;obtain⟨rfl,W,d,g,i,k⟩:=C;cases H with
    |normal=>simp only[n,WJ,XR.mk.injEq]at h;obtain⟨rfl,rfl,rfl,rfl⟩:=h;exact⟨rfl,W,d,g,i,k⟩
    |exit j=>simp only[n]at h;by_cases hj:j=G;subst hj;rw[w9 rfl,Xa]at h;cases h;simp only[Exit.inBlock,YE];exact⟨rfl,W,d,g,i,k⟩;rw[B0 hj,Xb]at h;cases h;simp only[Exit.inBlock,hj,if_false];exact⟨rfl,W,d,g,i,k⟩
    |goto G=>simp only[n,WJ,XR.mk.injEq]at h;obtain⟨rfl,rfl,rfl,rfl⟩:=h;exact⟨rfl,W,d,g,i,k⟩
    |ret=>simp only[n,WJ,XR.mk.injEq]at h;obtain⟨rfl,rfl,rfl,rfl⟩:=h;exact⟨rfl,W,d,g,i,k⟩
    |panic ch=>simp only[n,WJ,XR.mk.injEq]at h;obtain⟨rfl,rfl,rfl,rfl⟩:=h;exact⟨rfl,W,d,g,i,k⟩
    |outgrown=>simp only[n,WJ,XR.mk.injEq]at h;obtain⟨rfl,rfl,rfl,rfl⟩:=h;exact⟨rfl,W,d,g,i,k⟩
  |loop b=>exact wpIn_loop_rounds (m+1)<|F b Y Z N e U R S X a w r h v A z o|rangeFunc f ps x y=>exact tK t (by simpa only[t9]using h) v A z o|scope b=>
   simp only[t9]at h;cases n:t9 P J call V K m b Y Z N with
   |none=>grind|some rr=>
    let⟨L,q,p,u⟩:=rr;refine mN<|YR (D b Y Z N L q p u X a w r n v A z o) λH I M C=>?_;obtain⟨rfl,W,d,g,i,k⟩:=C;cases H with
    |normal=>simp only[n,WJ,XR.mk.injEq]at h;obtain⟨rfl,rfl,rfl,rfl⟩:=h;exact⟨rfl,W,d,g,i,k⟩
    |exit G=>simp only[n,WJ,XR.mk.injEq]at h;obtain⟨rfl,rfl,rfl,rfl⟩:=h;exact⟨rfl,W,d,g,i,k⟩
    |goto G=>grind|ret=>simp only[n,WJ,XR.mk.injEq]at h;obtain⟨rfl,rfl,rfl,rfl⟩:=h;exact⟨rfl,W,d,g,i,k⟩
    |panic ch=>grind|outgrown=>grind
  |goto l=>simp only[t9,reduceCtorEq]at h|refuse s=>simp only[t9,reduceCtorEq]at h
end
def Z3 (P:Aw)(Y:Ao)(Z:Hp):ResultVar->Ag
 | .tmp t=>some<|(Y.l t).getD undef| .cell a t=>G4 P Z t<|(Y.l a).getD undef
def I6 (P:Aw)(Y:Ao)(Z:Hp):List ResultVar->Bb (Af)
 | []=>some []|r::a=>match Z3 P Y Z r with
  |some v=>match I6 P Y Z a with
   |some vs=>some<|v::vs|none=>none
  |none=>none
def iI :Af->Av
 | [v]=>v|vs=>.tuple vs.toArray
section
variable {P :Aw}{B:BS}{O:Bc}
def Oc {X:Sg}{Z:Hp}{w:Bc}{t:Ax}{a b v:Av}(h:G4 P Z t a=v)(c:VR X a b)(f:HR B O X Z w):∃u,VR X v u/\(do loadVar t (<-asAddr b):Sem Av).run P w= .ok u w:=by let⟨u,d,e⟩:=uN h c f;refine⟨u,d,?_⟩;rw[<-e];cases c<;>first|rfl| (simp[G4]at h)
def Hh (tmps:Al):ResultVar->Sem Av
 | .tmp t=>pure<|tmps.getD t undef| .cell a t=>do loadVar t (<-asAddr (tmps.getD a undef))
def cH {X:Sg}{Z:Hp}{w:Bc}{V:Nat}{Y:Ao}{tmps:Al}(f:TR X V Y tmps)(i:HR B O X Z w):∀ {e:List ResultVar} {vs:Af},I6 P Y Z e=vs-> ∃c,VRL X vs c/\(e.mapM (Hh tmps):Sem (Af)).run P w= .ok c w
 | [],vs,h=>by simp only[I6,WJ]at h;subst h;exact⟨[],ZN X,by simp⟩|r::e,vs,h=>by
  simp only[I6]at h;cases d:Z3 P Y Z r with
  |none=>grind|some v=>
   cases b:I6 P Y Z e with
   |none=>grind|some n=>
    simp only[d,b,WJ]at h;subst h;let⟨c,g,j⟩:=cH f i b;cases r with
    |tmp t=>simp only[Z3,WJ]at d;subst d;refine⟨_::c,ZM (f.g t) g,?_⟩;rw[List.mapM_cons];simp only[Hh,Xn,Xs,Xj,j]|cell a t=>let⟨u,k,l⟩:=Oc d (f.g a) i;refine⟨u::c,ZM k g,?_⟩;have m:(Hh tmps<|.cell a t).run P w= .ok u w:=l;simp_all
def TR.h {X:Sg}{args a:Af}(h:VRL X args a)(n:Nat):TR X (args.length+(n-args.length)) (fill .e 0 args) (a.toArray++Array.replicate (n-a.toArray.size) undef):=by
 have g:=h.1;refine⟨by grind,λk=>?_⟩;rw[j6];by_cases f:k<args.length
 .rw[Xg (by omega)];have b:k<a.length:=by omega
  have d:args[k-0]? =some args[k]:=by grind
  have c:(a.toArray++Array.replicate (n-a.toArray.size) undef).getD k undef=a[k]:=by simp[Array.getElem?_append,b]
  rw[d,c];exact h.2 k _ _ (by simp) (by simp)
 .rw[af];have c:(a.toArray++Array.replicate (n-a.toArray.size) undef).getD k undef=undef:=by
   have b:¬k<a.length:=by omega
   simp;grind
  rw[c,ZC];exact VR.undef X
end
end Go.Xe
namespace Go.Xe
open Go.RowKit
def j7 :Op->Nat
 | .move _| .assign _| .pick _ _ _| .build _ _| .nilCheck _| .binOp _ _ _ _ _| .unOp _ _ _| .convert _ _ _| .makeFunc _ _ _
 | .fieldAddr _ _ _| .field _ _ _| .indexAddr _ _ _| .index _ _ _| .extract _ _=>0
 | .load _ _| .slice _ _ _ _ _=>1
 | .alloc e| .box e _=>bif Nat.beq e rgT then 3 else 2
 | .buildSlice _ _ _| .makeSlice _ _ _| .range _ _=>2
 | .call ⟨.builtin .len,_,_⟩| .call ⟨.builtin .cap,_,_⟩| .call ⟨.builtin .max,_,_⟩=>0
 |_=>3
variable {Y:Hp}
def wb {a:Type}{x:Bb a}{g:a->Ag}:(ob x λv=>j4 Y<|g v)=j4 Y (ob x g):=by cases x<;>rfl
def wb2 {a b:Type}{x:Bb a}{y:Bb b}{g:a->b->Ag}:(ob x λv=>ob y λu=>j4 Y<|g v u)=j4 Y (ob x λv=>ob y<|g v):=by cases x<;>cases y<;>rfl
variable {P:Aw}{call:i9}{W:Ao}{o:Op}
def Ic (h:j7 o=0):∃r:Ag,∀Y,xop P call W Y o=j4 Y r:=by
 cases o with
 |move x|assign x=>exact⟨_,λ_=>rfl⟩
 |pick c a b=>simp only[xop];split;rename_i t _;cases t<;>exact⟨_,λ_=>rfl⟩;exact⟨none,λ_=>rfl⟩
 |nilCheck x=>simp only[xop];split<;>first|exact⟨some _,λ_=>rfl⟩|exact⟨none,λ_=>rfl⟩
 |binOp|indexAddr|index|makeFunc=>exact⟨_,λ_=>wb2⟩
 |build|unOp|convert|fieldAddr|field|extract=>exact⟨_,λ_=>wb⟩
 |call c=>
  let⟨d,args,ats⟩:=c;cases d with
  |builtin b=>
   simp only[xop];cases Y8 W args.toList with
   |some vs=>
    simp only[ob];generalize ats.toList=g;cases b<;>first
     | (simp[j7]at h;done)
     | (rcases g with _| ⟨t,_| ⟨u,r⟩⟩<;>rcases vs with _| ⟨x,_| ⟨y,i⟩⟩<;>first|exact⟨_,λ_=>rfl⟩|exact⟨none,λ_=>rfl⟩)
   |none=>exact⟨none,λ_=>rfl⟩
  |_=>simp[j7]at h
 |alloc e|box e x=>simp only[j7]at h;cases f:Nat.beq e rgT<;>rw[f]at h<;>cases h
 |_=>simp[j7]at h
def xrd (P:Aw)(W:Ao)(Y:Hp)(o:Op):Ag:=
 match xop P ⟨λ_ _ _=>none,λ_=>none,λ_ _ _=>none⟩ W Y o with
 |some (v,a)=>bif Nat.beq a.d Y.d then some v else none|none=>none
variable {v:Av}
def Ik {c:Hp}{t:Ax}{x:Av}{f d g:Ag}(h:A0 P Y t x f d g=(v,c)):c=Y:=by
 have e:∀ {a:Av} {q:Hp},some (a,q)=(v,c)->q=Y->c=Y:=by grind
 have i:∀ {b:Bool} {x y:Bb (Av×Hp)},(bif b then x else y)=(v,c)->(x=(v,c)->c=Y)->(y=(v,c)->c=Y)->c=Y:=by grind
 unfold A0 at h;split at h;grind;split at h;cases h;split at h;grind;grind;grind;cases h;grind;cases h
def Qx (h:j7 o=1):(∃t a,o= .load t a)\/ ∃t x i g j,o= .slice t x i g j:=by
 cases o with
 |load=>exact .inl ⟨_,_,rfl⟩|slice=>exact .inr ⟨_,_,_,_,_,rfl⟩|alloc e|box e x=>simp only[j7]at h;cases f:Nat.beq e rgT<;>rw[f]at h<;>cases h
 |call c=>
  let⟨d,args,ats⟩:=c;cases d with
  |builtin b=>cases b<;>simp[j7]at h
  |_=>simp[j7]at h
 |_=>simp[j7]at h
def Ie {b:Hp}(d:j7 o=1)(c:xop P call W Y o=(v,b)):b=Y:=by obtain⟨t,a,rfl⟩| ⟨t,x,f,e,g,rfl⟩:=Qx d;let⟨_,_,h⟩:=m1 c;exact(C5 h).2;let⟨_,_,h⟩:=m1 c;let⟨_,_,h⟩:=m1 h;let⟨_,_,h⟩:=m1 h;let⟨_,_,h⟩:=m1 h;exact Ik h
def Dg (d:j7 o=1)(b c:i9)(W:Ao)(Y:Hp):xop P b W Y o=xop P c W Y o:=by obtain⟨t,a,rfl⟩| ⟨t,x,f,e,g,rfl⟩:=Qx d<;>rfl
def TW (b:j7 o=1)(h:xrd P W Y o=v):xop P call W Y o=(v,Y):=by rw[xrd] at h;split at h;rename_i e d c;have a:=Ie b c;subst a;rw[w9 rfl,Xa,WJ]at h;rw[Dg b call,c,h];cases h
section
variable {P :Aw}{B:BS}{W:Bc}{X:Sg}{Y:Hp}{w:Bc}
def rest (B:BS)(X:Sg)(Y:Hp)(w:Bc):BS:=⟨λk=>B.D k\/(k<w.heap.size/\ ∀i b r p,Y.m.l i=some b->Ix b r->X.f i r=some p->p.d≠k),B.D,λ_ h=>.inl h⟩
def QR (h:HR B W X Y w){k:Nat}(a:rest B X Y w k):k<w.heap.size:=by obtain a|a:=a;have:=h.C k<|B.f k a;have:=h.g;omega;grind
def QQ (_:HR B W X Y w){i r:Nat}{b:Blk}{p:Pl}(d:Y.m.l i=b)(g:Ix b r)(c:X.f i r=p)(e:¬B p.d):¬rest B X Y w p.d:=λa=>by obtain a|a:=a;exact e<|B.f _ a;exact a.2 i b r p d g c rfl
def Hi (h:HR B W X Y w){k:Nat}(f:B k):rest B X Y w k:=by
 by_cases d:B.D k;exact .inl d
 .refine .inr ⟨by have:=h.C k f;have:=h.g;omega,λi b r p l m a e=>?_⟩;let⟨n,o,j,c,_⟩:=h.z i b r l m;have:n=p:=Xk<|j.symm.trans a;subst this;cases g:fQ b with
  |true=>exact d<|e▸c.d g|false=>exact c.f g<|e▸f
def HR.max (h:HR B W X Y w):HR (rest B X Y w) w X Y w:=by refine⟨rfl,rfl,rfl,Xh _,λk j=>QR h j,λk _=>rfl,h.H,?_,h.O,h.Q⟩;intro i b r c d;let⟨p,o,a,e,f,g⟩:=h.z i b r c d;exact⟨p,o,a,e.j id<|QQ h c d a,f,g⟩
def HR.back (h:HR B W X Y w){c:Sg}{a:Hp}{e:Bc}(k:HR (rest B X Y w) w c a e):HR B W c a e:=by refine⟨k.R.trans h.R,k.l.trans h.l,k.d.trans h.d,Ya h.g k.g,h.C,λb d=>(k.h b<|Hi h d).trans<|h.h b d,k.H,?_,k.O,k.Q⟩;intro i b r l n;let⟨p,o,f,g,j⟩:=k.z i b r l n;exact⟨p,o,f,g.j id<|λm d=>m<|Hi h d,j⟩
def Ext (B:BS)(X:Sg)(Y:Hp)(w:Bc)(c:Nat)(n:Nw)(b:Nat):Prop:=
 ∃p o,X c=some p/\p.d=b/\w.heap[b]? =some o/\BR X p n.f o/\ ¬B b/\ ∀i a r q,Y.m.l i=some a->Ix a r->X.f i r=some q->q.d≠b
def Hp.i (Y:Hp)(a:Nat)(n:Nw):Hp:= {Y with m:=Y.m.m a<|some n.f}
def HR.take (h:HR B W X Y w){g b:Nat}{n:Nw}(d:Ext B X Y w g n b):HR B W X (Y.i g n) w:=by
 obtain⟨p,o,E,rfl,J,K,L,F⟩:=d;refine⟨h.R,h.l,h.d,h.g,h.C,h.h,h.H,?_,?_,λi t c k=>?_⟩;intro i t r c d;simp only[Hp.i,ZD]at c;by_cases a:i=g;rw[Xg a]at c;simp only[WJ]at c;subst c;subst a;have:=(Zf n.h).1 d;subst this;exact⟨p,o,E,.g L n.j,J,(BX.f n.h).2 K⟩;rw[Xd a]at c;exact h.z i t r c d
 .intro i j l t r s q D a G d A y u z;simp only[Hp.i,ZD]at a G;have v:∀i l r q,(if i=g then some n.f else Y.m.l i)=some l->Ix l r->X.f i r=some q->(i=g/\r=0/\q=p)\/(i≠g/\Y.m.l i=some l):=λi l r q a d u=>by by_cases e:i=g;rw[Xg e]at a;simp only[WJ]at a;subst a;subst e;have:=(Zf n.h).1 d;subst this;exact .inl ⟨rfl,rfl,Xk<|u.symm.trans E⟩;rw[Xd e]at a;exact .inr ⟨e,a⟩
  rcases v i l r q a d u with⟨H,x,I⟩| ⟨H,x⟩<;>obtain⟨M,C,N⟩| ⟨M,C⟩:=v j t s D G A z;omega;rw[I];exact Ne.symm<|F j _ s D C A z;rw[N];exact F i _ r q x d u;exact h.O i j _ _ r s q D x C d A y u z
 simp only[Hp.i,ZD]at c;by_cases a:i=g;rw[Xg a,WJ]at c;subst c;rw[n.h]at k;cases k;rw[Xd a]at c;exact h.Q i t c k
def HR.lay (h:HR B W X Y w){f:Nat}(a:X f=none)(s:f<Y.d)(n:Nw){o:Obj}{p:Pl}(k:p.d=w.heap.size)(hv:BR X p n.f o):HR B W (X.d f p) Y (w.alloc o)/\Ext B (X.d f p) Y (w.alloc o) f n w.heap.size:=by
 have g:=ZA (Z:=X) p a;have j:∀i b,Y.m.l i=some b->i≠f:=by
  intro i b d e;subst e;cases l:nM b with
  |false=>let⟨p,o,c,_⟩:=h.t _ b d l;rw[a]at c;cases c
  |true=>let⟨⟨p,c⟩,_⟩:=h.Q _ b d l;rw[a]at c;cases c
 have x:=(h.F f Y.d a (Xh _) s n.f o p k (hv.d g) n.j n.h).y (m:=Y.m) (λi b d=>by show(Y.m.m f _).l i=_;rw[ZD,Xd<|j i b d];exact d);refine⟨by simpa using x,p,o,Zx _ _ _,k,?_,hv.d g,?_,?_⟩;show(w.heap.push _)[w.heap.size]? =_;simp;intro l;have c:=h.C _ l;have A:=h.g;omega;intro i b r q d y t;rw[Zw _ _ _<|.inl<|j i b d]at t;let⟨z,C,c,_,u,_⟩:=h.z i b r d y;have:z=q:=Xk<|c.symm.trans t;subst this;have:=(WY.1 u).1;omega
end
end Go.Xe
namespace Go.Xe
open Go.RowKit
def clEq (a b:Af):Bool:= @decide (a=b) (Classical.propDecidable _)
def SG {a b:Af}(h:clEq a b):a=b:= @Yu _ (Classical.propDecidable _) h
def MO (v:Af):clEq v v:= @decide_eq_true _ (Classical.propDecidable _) rfl
def noR :Av->Bool
 | .bool _| .int _ _| .complex _ _ _| .string _| .slice _ _ _| .pointer none| .pointer (some ⟨_,_,none⟩)| .map _=>true
 |_=>false
def VR.noR {d a:Sg}(b:∀i p,d i=some p->a i=some p){v u:Av}(h:VR d v u)(r:noR v):VR a v u:=by
 cases h<;>first
  |exact .J _|exact .H _ _|exact .I _|exact .nilp|exact .nils _ _|exact .L _ _|exact .nilm
  | (next f s m n g j=>exact .Q f s m n g j)
  | (next i o p h=>exact .R i o p<|b _ _ h)
  | (next i o p l c e h k q=>exact .F i o p l c e (b _ _ h) k q)
  | (next i p h=>exact .map i p<|b _ _ h)
  |cases r
def FK (R:Af->Hp->Bb (Av×Hp))(args:Af)(g:Hp):Bb (Av×Hp):=
 match args with
 | [.slice (some ⟨i,t,none⟩) l c,x,.slice (some ⟨j,o,none⟩) m r]=>
  bif Nat.ble unk c && Nat.beq (I0 c) 0 && !(Nat.beq i j) && Nat.ble (l + m) 67108864 then
   match g.m.l i,g.m.l j with
   |some p,some q=>
    match R [.slice (some ⟨i,t,none⟩) l (i4 (l+m) 0),x,.slice (some ⟨j,o,none⟩) m r] ⟨(T.m .e i<|some p).m j<|some q,g.d⟩,
      R [.slice (some ⟨i,t,none⟩) l (i4 l<|l+m),x,.slice (some ⟨j,o,none⟩) m r] ⟨(T.m .e i<|some p).m j<|some q,g.d⟩with
    |some (.slice (some ⟨a,u,none⟩) d z,h),some (.slice (some ⟨b,ob,none⟩) E A,k)=>
     bif Nat.beq d E&&Nat.ble unk z&&Nat.ble unk A then
      match h.m.l a,k.m.l b with
      |some (.cells w C s f),some (.cells y D B F)=>
       bif Nat.ble (u+d*f) C&&Nat.ble (ob+d*f) D&&Nat.beq s B&&Nat.beq f F then
        match j8 w u (d*f),j8 y ob (d*f)with
        | some  n, some  v => bif (uS (veq 100)  n  v || clEq  n  v) &&  n.all noR then
          some (.slice (some ⟨Nat.max h.d k.d,0,none⟩) d<|i4 d 0,
           ⟨((g.m.m i none).m j none).m (Nat.max h.d k.d)<|some<|.cells (fill .e 0 n) (d*f) s f,Nat.max h.d k.d+1⟩)
         else none
        |_,_=>none
       else none
      |_,_=>none
     else none
    |_,_=>none
   |_,_=>none
  else none
 |_=>none
def N6 (P:Aw)(a:Ay->Af->Hp->Bb (Av×Hp)):List Df->Hp->Bb Hp
 | [],b=>some b| .d r::c,b=>match b.m.l r with
  |some .dfr=>N6 P a c {b with m:=b.m.m r none}|_=>none
 | .f g args cap::c,b=>match P.funcs[g]? with
  | some fn => bif cN fn then
    match a g (args++cap) b with
    |some (_,d)=>N6 P a c d|none=>none
   else none
  |none=>none
def tB (P:Aw)(fn:Func)(b:Ay->Af->Hp->Bb (Av×Hp))(f:Ao)(d:Hp)(c:List Df):Bb (Av×Hp):=
 match N6 P b c d with
 |some a=>match I6 P f a fn.results.toList with
  |some vs=>some (iI vs,a)|none=>none
 |none=>none
def Y0 (P:Aw)(h:dL)(call:i9)(a:Ay->Af->Hp->Bb (Av×Hp))(n:Nat)(f:Ay)(args:Af)(i:Hp):Bb (Av×Hp):=
 match P.funcs[f]? with
 |some fn=>match fn.body with
  |some c=>match t9 P h call (args.length+(fn.ntmps-args.length)) none n c (fill .e 0 args) i []with
   |some (.mk .normal d b g)=>tB P fn a d b g|some (.mk .ret d b g)=>tB P fn a d b g|_=>none
  |none=>none
 |none=>none
def U4 (P:Aw)(d:dL)(call:i9)(n:Nat)(f:Ay)(args:Af)(g:Hp):Bb (Av×Hp):=
 match P.funcs[f]? with
 |some fn=>match fn.body with
  |some c=>match t9 P d call (args.length+(fn.ntmps-args.length)) none n c (fill .e 0 args) g []with
   |some (.mk .normal b a [])=>tB P fn (λ_ _ _=>none) b a []|some (.mk .ret b a [])=>tB P fn (λ_ _ _=>none) b a []|_=>none
  |none=>none
 |none=>none
def gA (a:Ao):List Tmp->Af->Ao
 |t::b,v::vs=>gA (a.m t<|some v) b vs|_,_=>a
def BM (n:Nat):List Tmp->Bool
 | []=>true|t::a=>Nat.blt t n&&BM n a
def tL (P:Aw)(n:dL)(call:i9)(m:Nat)(i:Nat)(args:Af)(q:Hp):Bb (Av×Hp):=
 match q.m.l i with
 |some (.loop .ready _ j p k assign body _)=>
  bif Nat.beq k.toList.length args.length&&BM j k.toList then
   match t9 P n call j (some i) m assign (gA p k.toList args) q []with
   |some (.mk .normal o b g)=>match b.m.l i with
    |some (.loop .ready w v t1 x r s t)=>
     match t9 P n call j (some i) m body o {b with m:=b.m.m i<|some<|.loop .busy w v t1 x r s t} g with
     |some (.mk e _ a _)=>match a.m.l i with
      |some (.loop _ _ h t2 l c d f)=>match e with
       | .normal=>some (.bool true,{a with m:=a.m.m i<|some<|.loop .ready none h t2 l c d f})| .ret=>some (.bool false,{a with m:=a.m.m i<|some<|.loop .done (some .ret) h t2 l c d f})| .exit u=>some (.bool false,{a with m:=a.m.m i<|some<|.loop .done (some<|.exit u) h t2 l c d f})|_=>none
      |_=>none
     |none=>none
    |_=>none
   |_=>none
  else none
 |_=>none
def iJ (R:Af->Hp->Bb (Av×Hp))(args:Af)(a:Hp):Bb (Av×Hp):=
 match R args a with
 |some r=>some r|none=>FK R args a
def wkA (a:Hp):Af->Af
 | .slice (some ⟨i, o, none⟩) l c :: xs => bif Nat.ble c 67108864 then
   match a.m.l i with
   |some (.cells _ k _ z)=>bif Nat.ble (o+c*z) k then .slice (some ⟨i,o,none⟩) l (i4 c 0)::xs else .slice (some ⟨i,o,none⟩) l c::xs|_=>.slice (some ⟨i,o,none⟩) l c::xs
  else .slice (some ⟨i,o,none⟩) l c::xs
 |xs=>xs
def wkFn (fn:Func):Bool:=(Nat.beq fn.ntmps 33||Nat.beq fn.ntmps 95)&&match fn.params.toList,fn.resultTypes.toList with
 | [a,_,_],[r]=>Nat.beq a r|_,_=>false
def wkF (P:Aw)(f:Ay):Bool:=match P.funcs[f]? with
 |some fn=>wkFn fn|none=>false
def eH (P:Aw)(a:dL)(b:Aa):Nat->i9
 |0=>⟨λ_ _ _=>none,b,λ_ _ _=>none⟩
 |n+1=>⟨λf args c=>bif isT (b f)&&args.isEmpty then some (.bool true,c)else iJ (Y0 P a (eH P a b n) (U4 P a (eH P a b n) n) n f) (bif wkF P f then wkA c args else args) c,b,tL P a (eH P a b n) n⟩
section
variable {P :Aw}{B:BS}{W:Bc}
def Ot (P:Aw)(f:Ay)(R:Af->Hp->Bb (Av×Hp)):Prop:=
 ∀args d v b,R args d=some (v,b)-> ∀B W g w a,VRL g args a->HR B W g d w->
  Calls P f a.toArray w (λe h=>∃c u,e= .returned u/\Sg.j d.d b.d g c/\VR c v u/\HR B W c b h)
def Iq (P:Aw)(f:Ay)(R:Af->Hp->Bb (Av×Hp)):Prop:=
 ∀args d v b,R args d=some (v,b)-> ∀B W g w a,VRL g args a->HR B W g d w-> ∀u,
  CallsDIn Fence.wide 0 P f a.toArray u w (λe h i=>h=u/\ ∃c x,e= .returned x/\Sg.j d.d b.d g c/\VR c v x/\HR B W c b i)
variable {Y:Sg}{X:Hp}{w:Bc}
def HR.v (h:HR B W Y X w){b:Nat}{o:Obj}(c:¬B b)(u:∀i x r q,X.m.l i=some x->Ix x r->Y.f i r=some q->q.d≠b):HR B W Y X {w with heap:=w.heap.setIfInBounds b o}:=by refine⟨h.R,h.l,h.d,by simpa using h.g,h.C,λk g=>?_,h.H,λi x r d j=>?_,h.O,h.Q⟩;have a:b≠k:=λe=>c (by grind);simp[Array.getElem?_setIfInBounds_ne a,h.h k g];let⟨p,v,l,n,s,t⟩:=h.z i x r d j;grind
variable {tmps:Al}
def uF {fn:Func}{vs b:Af}(c:VRL Y vs b)(e:(fn.results.toList.mapM (Hh tmps):Sem (Af)).run P w= .ok b w):(results fn tmps).run P w= .ok (iI b) w/\VR Y (iI vs) (iI b):=by
 constructor
 .have f:results fn tmps=(do let vs<-fn.results.mapM (Hh tmps);pure (if h:vs.size=1 then vs[0]else .tuple vs):Sem Av):=rfl;rw[f,Array.mapM_eq_mapM_toList,Xn,Sem.run_map,e];cases b with
  |nil=>rfl|cons x b=>cases b<;>rfl
 .cases vs with
  |nil=>rw[c.l];exact VRL.h<|ZN Y|cons x vs=>
   obtain⟨y,g,rfl,d,a⟩:=c.d;cases vs with
   |nil=>rw[a.l];exact d|cons j vs=>obtain⟨k,i,rfl,_,_⟩:=a.d;exact c.h
variable {V:Ay->Af->Hp->Bb (Av×Hp)}
def FC (U:∀g,Iq P g<|V g){fn:Func}{R:Ending->Bc->Prop}:∀(n:List Df) (D:List Deferred) (X a:Hp) (Y:Sg) (w:Bc),N6 P V n X=a->DsR Y n D->HR B W Y X w->(∀j u,Sg.j X.d a.d Y j->HR B W j a u->LeavesIn Fence.wide 0 P fn tmps R [] .returning u)->LeavesInM Fence.wide 0 P fn tmps R D .returning w:=by
 intro n;induction n with
 |nil=>
  intro D X a Y w h l m k;simp only[N6,WJ]at h;subst h;cases D with
  |nil=>exact k Y w (Zy _ Y) m|cons d D=>exact l.elim
 |cons x n M=>
  intro D X a Y w h l m k;cases D with
  |nil=>cases x<;>exact l.elim
  |cons d D=>
   obtain⟨t,l⟩:=l;cases x with
   |d r=>simp only[N6]at h;split at h;rename_i K;let⟨p,f,c⟩:=t;let⟨N,o,O,q2,q3,q4⟩:=m.t r _ K;have:=Xk<|O.symm.trans f;subst this q4;exact⟨by simp,.inl ⟨N.d,_,c,run_takeDeferred q3,M D _ a Y _ h l ((HR.drop m r).v (o:= .deferred none) q2 (λi x rr q z t hq e=>by rw[ZD]at z;by_cases s:i=r;grind;rw[Xd s]at z;exact m.O i r x _ rr 0 q N z K t rfl (.inl s) hq O e)) k⟩⟩;cases h
   |f g args cap=>
    simp only[N6]at h;let⟨b,c,A,C⟩:=t;split at h
    .rename_i Q y;cases L:cN Q with
     |false=>grind|true=>
      rw[L,Xa]at h;split at h
      .rename_i v f hr;refine⟨by simp,.inr ⟨λh=>(by cases h),.func g,b,g,(d.args.toList++b.toList).toArray,c,?_,λ_ _=>trivial,?_⟩⟩
       .rw[c];have:(d.args.toList++b.toList).toArray=d.args++b:=by simp
        rw[this];exact gG y L w
       refine CallsDIn.mono (U g (args++cap) X v f hr B W Y w _ (A.f C) m .returning) λe u' u Z=>?_;obtain⟨rfl,I,x,rfl,J,_,F⟩:=Z;exact M D f a I u h (l.d J.d) F λj H S E=>k j H (Zz J S) E
      cases h
    cases h
variable {U:dL}{call:i9}
def HU (q:nD P U)(O:T8 P call)(F:∀g,Iq P g<|V g)(n:Nat)(g:Ay):Ot P g (Y0 P U call V n g):=by
 intro args X v j h B W Y w b G M;simp only[Y0]at h;split at h
 .rename_i fn r;split at h
  .rename_i c H;have E:∀e i f d,(e= .normal\/e= .ret)->t9 P U call (args.length+(fn.ntmps-args.length)) none n c (fill .e 0 args) X []=some (.mk e i f d)->
     tB P fn V i f d=(v,j)->
     Calls P g b.toArray w (λe l=>∃a u,e= .returned u/\Sg.j X.d j.d Y a/\VR a v u/\HR B W a j l):=by
    intro e i f d J N m;rw[tB] at m;split at m
    .rename_i k t;split at m
     .rename_i vs z;simp at m;obtain⟨rfl,rfl⟩:=m;refine callsIn_wide.1<|callsIn_of_wp_marks r H trivial<|YR ((dI O q n).1 c _ X [] e i f d Y {tmps:=b.toArray++Array.replicate (fn.ntmps-b.toArray.size) undef,defers:=[]} w none N (TR.h G fn.ntmps) M trivial trivial) λS p l K=>?_;obtain⟨rfl,a,s,I,L,A⟩:=K;have hL:LeavesInM Fence.wide 0 P fn p.tmps (λe l=>∃a u,e= .returned u/\Sg.j X.d k.d Y a/\VR a (iI vs) u/\HR B W a k l) p.defers .returning l:=
       FC F d p.defers f k a l t I A λC Z D o=>by let⟨T,x,y⟩:=cH (L.d D.d) o z;let⟨Q,R⟩:=uF x y;exact⟨_,Q,C,_,rfl,Zz s D,R,o⟩
      obtain rfl|rfl:=J;exact hL;exact hL
     grind
    grind
   grind
  cases h
 cases h
def Fv (p:nD P U)(N:T8 P call)(n:Nat)(g:Ay):Iq P g (U4 P U call n g):=by
 intro args X v j h B W Y w a G L A;simp only[U4]at h;split at h
 .rename_i fn q;split at h
  .rename_i c H;have E:∀e i f,(e= .normal\/e= .ret)->t9 P U call (args.length+(fn.ntmps-args.length)) none n c (fill .e 0 args) X []=some (.mk e i f [])->
     tB P fn (λ_ _ _=>none) i f []=(v,j)->
     CallsDIn Fence.wide 0 P g a.toArray A w (λe O C=>O=A/\ ∃b u,e= .returned u/\Sg.j X.d j.d Y b/\VR b v u/\HR B W b j C):=by
    intro e i f I M o;simp only[tB,N6]at o;split at o
    .rename_i vs t;simp at o;obtain⟨rfl,rfl⟩:=o;refine callsDIn_of_wp q H trivial
      (YR ((dI N p n).1 c _ X [] e i f [] Y {tmps:=a.toArray++Array.replicate (fn.ntmps-a.toArray.size) undef,defers:=[]} w none M (TR.h G fn.ntmps) L trivial trivial) λQ x C J=>?_)
     obtain⟨rfl,b,m,l,K,k⟩:=J;let⟨R,r,s⟩:=cH K k t;let⟨y,z⟩:=uF r s;have l:x.defers=[]:=by
      cases F:x.defers with
      |nil=>rfl|cons d D=>rw[F]at l;exact l.elim
     obtain rfl|rfl:=I;exact⟨l,_,y,b,_,rfl,m,z,k⟩;exact⟨l,_,y,b,_,rfl,m,z,k⟩
    grind
   grind
  cases h
 cases h
def CK {Y:Sg}{f:Nat}:∀(c:List Tmp) (xs b:Af) (a:Ao) (tmps:Al),BM f c->c.length=xs.length->VRL Y xs b->TR Y f a tmps->TR Y f (gA a c xs) ((c.zip b).foldl (λtmps (x:Tmp×Av)=>tmps.setIfInBounds x.1 x.2) tmps)
 | [],xs,b,a,tmps,_,_,_,h=>by cases xs<;>simpa [gA]using h
 |t::i,[],b,a,tmps,_,j,_,_=>by grind|t::i,x::xs,b,a,tmps,d,j,hv,h=>by obtain⟨y,g,rfl,e,k⟩:=hv.d;simp only[BM,WK]at d;exact CK i xs g _ _ d.2 (by grind) k<|h.j (WN d.1) e
def rM (f:HR B W Y X w){i:Nat}{p:Pl}(l:Y i=p){y:LoopState}{b:Bb Code}{g:Nat}{c:Ao}{h:Array Tmp}{assign body:Code}{d:Nat}(e:X.m.l i=some (.loop y b g c h assign body d))(a:Bb Code):∃k,(Instr.endRound p.d a).run P w= .ok (.bool a.isNone) k/\HR B W Y {X with m:=X.m.m i<|some<|.loop (if a.isNone then .ready else .done) a g c h assign body d} k:=by let⟨C,o,j,D,u,v⟩:=f.t i _ e;have:=Xk<|j.symm.trans l;subst this;obtain⟨x,rfl,z,A,n,q,r,s,t⟩:=v;exact⟨_,run_endRound a u,HR.u f e j ⟨_,rfl,rfl,rfl,n,q,r,s,t⟩⟩
def FG (C:nD P U)(ih:T8 P call)(m:Nat):∀i args X v f,tL P U call m i args X=some (v,f)-> ∀B W Y w b p,Y i=some p->VRL Y args b->HR B W Y X w-> ∃r,w.heap[p.d]? =some (.loop r)/\b.length=r.params.size/\RoundIn Fence.wide 0 P p.d r.fn ((r.params.zip b.toArray).foldl (λtmps (t,a)=>tmps.setIfInBounds t a) r.tmps) r.assign r.body w (λe w'=>∃q u,e= .returned u/\Sg.j X.d f.d Y q/\VR q v u/\HR B W q f w'):=by
 intro i args X v f h B W Y w b p O ha hw;unfold tL at h;split at h
 .rename_i ai nt ae ps assign body db hg;cases I:Nat.beq ps.toList.length args.length&&BM nt ps.toList with
  |false=>grind|true=>
   rw[I,Xa]at h;simp only[WK]at I;have g:=WO I.1;let⟨p',o,q1,q2,q3,q4⟩:=hw.t i _ hg;have:=Xk<|q1.symm.trans O;subst this;obtain⟨c,rfl,k1,k2,rfl,rfl,rfl,k6,k7⟩:=q4;refine⟨c,q3,by rw[<-ha.1,<-g];simp,?_⟩;have j:(c.params.zip b.toArray).foldl (λtmps (x:Tmp×Av)=>tmps.setIfInBounds x.1 x.2) c.tmps=(c.params.toList.zip b).foldl (λtmps (x:Tmp×Av)=>tmps.setIfInBounds x.1 x.2) c.tmps:=by rw[<-Array.foldl_toList,Array.toList_zip]
   have E:=CK c.params.toList args b ae c.tmps I.2 g ha ⟨k6.1,k6.2⟩;rw[<-j]at E;split at h;rename_i ac Q y hx;refine roundIn_of_wpIn trivial<|YR ((dI ih C m).1 c.assign _ X [] .normal ac Q y Y {tmps:=_,defers:=[]} w (some p'.d) hx E hw trivial ⟨p',O,rfl⟩) λe1 a1 w1 S=>?_;obtain⟨rfl,ah,z,hd1,V,F⟩:=S;have d:=z.d _ _ O;split at h;rename_i p1 n1 t1 r1 J K L D;let⟨p2,o2,u1,u2,u3,u4⟩:=F.t i _ D;have:=Xk<|u1.symm.trans d;subst this;obtain⟨G,rfl,m1,m2,m3,m4,m5,m6,m7⟩:=u4;refine⟨_,run_beginRound u3 m1,?_⟩;split at h;rename_i e ad R M aa;refine YR ((dI ih C m).1 c.body _ _ y e ad R M ah a1 _ (some p2.d) aa V (HR.u (b':= .loop .busy p1 n1 t1 r1 J K L) F D d (o:= .loop {G with state:= .busy}) ⟨_,rfl,rfl,m2,m3,m4,m5,m6,m7⟩) hd1 ⟨p2,d,rfl⟩) λe2 a2 w2 T=>?_;obtain⟨rfl,s,A,_,_,n⟩:=T;have l:=A.d _ _ d;have N:=Zz z A;split at h;rename_i am ab n3 t3 r3 aj ak al k;split at h;simp at h;obtain⟨rfl,rfl⟩:=h;obtain⟨H,s1,s2⟩:=rM n l k none;exact⟨_,H,s1,s,_,rfl,N,.J true,s2⟩;simp at h;obtain⟨rfl,rfl⟩:=h;obtain⟨H,s1,s2⟩:=rM n l k<|some .ret;exact⟨_,H,s1,s,_,rfl,N,.J false,s2⟩;rename_i id;cases h;obtain⟨H,s1,s2⟩:=rM n l k<|some<|.exit id;exact⟨_,H,s1,s,_,rfl,N,.J false,s2⟩;cases h;cases h;cases h;cases h;cases h
 cases h
def AH {E:Sg}{ha:Hp}{w':Bc}{i j a N:Nat}{bi bj:Blk}{la ca:Nat}{c1 c2:Ao}{k k2 F e z:Nat}{u:Av}(hw:HR B W Y X w)(az:X.m.l i=bi)(ba:X.m.l j=bj)(hr:HR (rest B Y ⟨(T.m .e i<|some bi).m j<|some bj,X.d⟩ w) w E ha w')(gr:Sg.j X.d ha.d Y E)(hv:VR E (.slice (some ⟨a,F,none⟩) la ca) u)(ax:unk<=ca)(ab:ha.m.l a=some (.cells c2 k2 e z))(hk:F+k<=k2)(hc:∀x,x<k->c1.l x=c2.l (F+x))(an:∀x v,x<k->c1.l x=some v->noR v)(hN:ha.d<=N):∃V,Sg.j X.d (N+1) Y V/\VR V (.slice (some ⟨N,0,none⟩) la<|i4 la 0) u/\HR B W V ⟨((X.m.m i none).m j none).m N<|some<|.cells c1 k e z,N+1⟩ w':=by
 have H:∀x b,((T.m .e i<|some bi).m j (some bj):T Blk).l x=some b->(x=i\/x=j)/\X.m.l x=some b:=λx b c=>by rw[ZD]at c;by_cases hj:x=j;grind;rw[Xd hj,ZD]at c;by_cases hi:x=i;grind;rw[Xd hi]at c;simp[ZC]at c
 have I:=(hw.y<|λx b c=>(H x b c).2).back hr;cases hv with
 | F _ _ p _ _ c' ae aj ad =>
 let A : Sg:=⟨λi r=>if r=0 then E.f i 0 else Y.f i r⟩
 have G:∀i,A i=E i:=λi=>rfl;have aa:∀i r,r≠0->A.f i r=Y.f i r:=λi r h=>Xd h;have g:Sg.t Y A:=λi p {r} h=>by by_cases O:r=0;subst O;exact(G i).trans (gr.d _ _ h);grind
 have D:=ZA (Z:=A) (i:=N) {p with f:=p.f+F} ((G N).trans (I.A N hN));have bb:=gr.g;let⟨p',o,l1,l2,l3,l4⟩:=I.t a _ ab;have:p'=p:=Xk<|l1.symm.trans ae;subst this;let⟨n,o',r1,r2,r3,_⟩:=hr.t a _ ab;have:n=p':=Xk<|r1.symm.trans ae;subst this;have U:∀x b,x≠N->((((X.m.m i none).m j none).m N<|some<|.cells c1 k e z):T Blk).l x=some b->X.m.l x=some b/\ ∀r,Ix b r-> ∃q o,Y.f x r=some q/\NB B q.d b/\w.heap[q.d]? =some o/\BX Y q r b o/\rest B Y ⟨(T.m .e i<|some bi).m j<|some bj,X.d⟩ w q.d:=by
  intro x b t c;rw[ZD,Xd t,ZD]at c;by_cases hj:x=j;grind
  .rw[Xd hj,ZD]at c;by_cases hi:x=i;grind
   .rw[Xd hi]at c;refine⟨c,λr d=>?_⟩;let⟨q,o,P,h2,h3,h4⟩:=hw.z x b r c d;refine⟨q,o,P,h2,h3,h4,.inr ⟨(WY.1 h3).1,λy b' s n S K ap=>?_⟩⟩;let⟨aw,al⟩:=H y b' S;have av:y≠x:=by grind
    exact hw.O y x _ _ s r n q al c K d (.inl av) ap P
 refine⟨A.d N {n with f:=n.f+F},⟨Sg.g g D,λx d=>(Zv _ _ _<|by omega).trans<|(G x).trans<|gr.f x d,by omega⟩,?_,?_⟩;have:=VR.F (σ:=A.d N {n with f:=n.f+F}) N 0 {n with f:=n.f+F} la (i4 la 0) c' (Zx _ _ _) (.inr ⟨y5 _ _,by rw[K9 I8];exact ad,.inl<|J4 I8,by obtain⟨_,h⟩| ⟨_,_,_,h⟩:=aj;omega;exact h⟩) ad;exact this
 .refine⟨I.R,I.l,I.d,I.g,I.C,I.h,λx r d=>(Zw _ _ _<|.inl (by have:N+1<=x:=d;omega)).trans (by have P:N+1<=x:=d;by_cases O:r=0;subst O;exact(G x).trans (I.H x 0<|by omega);exact(aa x r O).trans (hw.H x r (by have:=gr.g;omega))),?_,?_,λx b c ah=>?_⟩;intro x b r c l;by_cases d:x=N;subst d;rw[ZD,Xg rfl]at c;cases c;have R:r=0:=l;subst R;let⟨C,e1,e2,e3,e4,e5⟩:=l4;refine⟨{n with f:=n.f+F},o,Zx _ _ _,l2,l3,C,e1,e2,e3,(by show n.f+F+k<=n.g;omega),λy S=>?_⟩;let⟨v,u,a1,a2,a3⟩:=e5 (F+y) (by omega);exact⟨v,u,(hc y S).trans a1,(by show C[n.f+F+y]? =u;rw[Yc];exact a2),(a3.noR (λi p h=>(G i).trans h)<|an y v S<|(hc y S).trans a1).N D⟩;let⟨ay,ho⟩:=U x b d c;let⟨q,o,P,h2,h3,h4,h5⟩:=ho r l;exact⟨q,o,D _ _<|g _ _ P,h2,(hr.h _ h5).trans h3,h4.d<|Sg.g g D⟩
  .intro x y M b2 r s L p2 d S l K am J ao;have ai:∀x M r L,((((X.m.m i none).m j none).m N<|some<|.cells c1 k e z):T Blk).l x=some M->Ix M r->(A.d N {n with f:=n.f+F}).f x r=some L->
     (x=N/\r=0/\L.d=n.d)\/(x≠N/\X.m.l x=some M/\Y.f x r=some L/\rest B Y ⟨(T.m .e i<|some bi).m j<|some bj,X.d⟩ w L.d):=by
    intro x M r L d l J;by_cases t:x=N;subst t;rw[ZD,Xg rfl,WJ]at d;subst d;have R:r=0:=l;subst R;exact .inl ⟨rfl,rfl,by rw[Xk<|J.symm.trans<|Zx _ _ _]⟩;let⟨ac,ho⟩:=U x M t d;let⟨q,o,P,_,_,_,h5⟩:=ho r l;have e1:L=q:=Xk<|J.symm.trans<|D _ _<|g _ _ P;grind
   rcases ai x M r L d l J with⟨e1,e2,e3⟩| ⟨e1,e2,e3,e4⟩<;>obtain⟨k1,k2,k3⟩| ⟨k1,k2,k3,k4⟩:=ai y b2 s p2 S K ao;omega;exactλQ=>r2<|e3▸Q▸k4;exactλQ=>r2<|k3▸Q▸e4;exact hw.O x y _ _ r s _ _ e2 k2 l K am e3 k3
  .have t:x≠N:=by rintro rfl;have c:((((X.m.m i none).m j none).m x<|some<|.cells c1 k e z):T Blk).l x=some b:=c;rw[ZD,Xg rfl,WJ]at c;subst c;cases ah
   let⟨ac,_⟩:=U x b t c;let⟨⟨q,hq⟩,aq⟩:=hw.Q x b ac ah;exact⟨⟨q,D _ _<|g _ _ hq⟩,λr O d=>by rw[Zw _ _ _<|.inl t,aa x r O];exact aq r O d⟩
def FL {f:Ay}{R:Af->Hp->Bb (Av×Hp)}(hR:Ot P f R):Ot P f (FK R):=by
 intro args X v ap h B W Y w ac C hw;unfold FK at h;split at h;case h_2=>cases h
 next i J l c x j o m cm=>cases hb:Nat.ble unk c&&Nat.beq (I0 c) 0&& !(Nat.beq i j)&&Nat.ble (l+m) 67108864 with
 |false=>grind|true=>
 rw[hb,Xa]at h;simp only[WK]at hb;let⟨⟨⟨b1,b2⟩,b3⟩,b4⟩:=hb;have b1:=WN b1;have b4:=WN b4;split at h;case h_2=>cases h
 rename_i bi bj S U;split at h;case h_2=>cases h
 next a oa M ca ha b ob lb cb Q hA hB=>cases k:Nat.beq M lb&&Nat.ble unk ca&&Nat.ble unk cb with
 |false=>grind|true=>
 rw[k,Xa]at h;simp only[WK]at k;have d1:=WO k.1.1;subst d1;split at h;case h_2=>cases h
 next c1 k1 e1 O c2 k2 e2 z2 ad ae=>cases g:Nat.ble (oa+M*O) k1&&Nat.ble (ob+M*O) k2&&Nat.beq e1 e2&&Nat.beq O z2 with
 |false=>grind|true=>
 rw[g,Xa]at h;simp only[WK]at g;have f2:=WO g.1.2;have f3:=WO g.2;subst f2;subst f3;split at h;case h_2=>cases h
 next q v2 V ah=>cases d:(uS (veq 100) q v2||clEq q v2)&&q.all noR with
 |false=>grind|true=>
 rw[d,Xa]at h;cases h;rw[WK]at d;let⟨z,an⟩:=d;have aj:q=v2:=by rw[Ys]at z;exact z.elim (kS<|RU 100) SG
 subst aj;have ai:=(u7 V).1;have s:∀x,x<M*O->(fill .e 0 q).l x=c1.l (oa+x):=λx hx=>by rw[<-(u7 V).2 x hx];exact u5 q x (by omega)
 have aa:∀x v,x<M*O->(fill .e 0 q).l x=some v->noR v:=λx v hx L=>by rw[u5 q x<|by omega]at L;grind
 have F:∀x,x<M*O->(fill .e 0 q).l x=c2.l (ob+x):=λx hx=>by rw[<-(u7 ah).2 x hx];exact u5 q x (by omega)
 have K:∀x b,((T.m .e i<|some bi).m j (some bj):T Blk).l x=some b->X.m.l x=some b:=λx b L=>by rw[ZD]at L;by_cases hj:x=j;grind;rw[Xd hj,ZD]at L;by_cases hi:x=i;grind;rw[Xd hi]at L;simp[ZC]at L
 have y:=(hw.y K).max;obtain⟨s',r,rfl,hs,n⟩:=C.d;cases hs with
 | F _ _ p _ _ A ab ao D =>
 obtain⟨am,t⟩:R7 c<=A/\p.f+J+A*p.h<=p.g:=by grind
 have Z:l+m<unk:=by unfold unk;omega
 by_cases E:l+m<=A
 .have G:VR Y (.slice (some ⟨i,J,none⟩) l<|i4 (l+m) 0) (.slice (some ⟨p.d,p.f+J,none⟩) l A):=
   .F i J p l _ A ab (.inr ⟨y5 _ _,by rw[K9 I8];exact E,.inl<|J4 I8,t⟩) D
  refine(hR _ _ _ _ hA _ _ _ _ _ (ZM G n) y).mono λe w' he=>?_;obtain⟨al,u,rfl,gr,H,I⟩:=he;let⟨ak,q1,q2,q3⟩:=AH (N:=Nat.max ha.d Q.d) hw S U I gr H (WN k.1.2) ad (WN g.1.1.1) s aa<|Nat.le_max_left _ _;grind
 .have G:VR Y (.slice (some ⟨i,J,none⟩) l<|i4 l<|l+m) (.slice (some ⟨p.d,p.f+J,none⟩) l A):=
   .F i J p l _ A ab (.inr ⟨y5 _ _,by rw[K9 Z];exact D,.inr<|by rw[J4 Z];omega,t⟩) D
  refine(hR _ _ _ _ hB _ _ _ _ _ (ZM G n) y).mono λe w' he=>?_;obtain⟨al,u,rfl,gr,H,I⟩:=he;let⟨ak,q1,q2,q3⟩:=AH (N:=Nat.max ha.d Q.d) hw S U I gr H (WN k.2) ae (WN g.1.1.2) F aa<|Ym _ _;grind
def Ws (s:HR B W Y X w){args a:Af}(h:VRL Y args a):VRL Y (wkA X args) a:=by
 unfold wkA;split
 .rename_i i o l c xs;cases f:Nat.ble c 67108864 with
  |false=>exact h|true=>
  split
  .rename_i u k e z q;cases g:Nat.ble (o+c*z) k with
   |false=>exact h|true=>
   have f:=WN f;have g:=WN g;have n:c<unk:=by rw[unk];omega
   obtain⟨y,A,rfl,j,m⟩:=h.d;refine ZM ?_ m;cases j with
   |F _ _ p _ _ t d b r=>let⟨v,x⟩:=s.N q d;obtain⟨rfl,_⟩| ⟨b,_⟩:=b;exact .F i o p l _ _ d (.inr ⟨y5 _ _,by rw[K9<|by omega];exact Xh _,.inl<|J4<|by omega,by grind⟩) r;omega
  exact h
 exact h
def Gd (c:nD P U){o:Aa}(d:∀g t,o g=some t->nE P g t):∀n,T8 P (eH P U o n):=by
 intro n;induction n with
 |zero=>exact⟨(λg args X v b h=>by cases h),d,(λi args X v b h=>by cases h)⟩|succ n m=>
  refine⟨λg args X v b h=>?_,d,FG c m n⟩;simp only[eH,iJ]at h;cases j:isT (o g)&&args.isEmpty with
  |true=>
   rw[j,Xa]at h;cases h;rw[WK]at j;intro B W Y w a f l;obtain rfl:=List.isEmpty_iff.1 j.2;obtain rfl:=f.l;have p:=j.1;unfold isT at p;split at p
   .rename_i t e;obtain⟨_,k⟩| ⟨k,_⟩:=d g t e;exact(k w).mono λe x s=>⟨Y,_,s.1,Zy _ Y,.J true,l.below s.2⟩
    simp_all
   grind
  |false=>
  rw[j,Xb]at h;have q:=HU c m (Fv c m n) n g;intro B W Y w a f l;have f:VRL Y (bif wkF P g then wkA X args else args) a:=by
   cases wkF P g with
   |true=>exact Ws l f|false=>grind
  split at h;rename_i r u;cases h;exact q _ X v b u B W Y w a f l;exact FL q _ X v b h B W Y w a f l
end
structure Ent where
 i:Nat
 o:Oper
 b:Nat
 d:Ao
 S:Hp
 h:Hp
 I:Nat
 f:Bool
 r:Av
 c:Bb Nw
def takes (a:Nat)(m:Nat->Bool):List Ent->Hp->Hp
 | [],S=>S|e::b,S=>match e.c with
  |some n=>bif m e.i then takes a m b (S.i (a+e.i) n)else takes a m b S|none=>takes a m b S
def AC (pre I:Nat)(j:Nat):Bool:=pre.testBit j&& !I.testBit j
def Bz (I:Nat)(j:Nat):Bool:= !I.testBit j
structure Out where
 c:Ao
 S:Hp
 I:Nat
 b:List Ent
def xgo (P:Aw)(call:i9)(d:Nat)(all:An)(a:Nat):List (Oper×Nat)->Nat->Ao->Hp->Nat->List Ent->Bb Out
 | [],_,b,S,I,c=>some ⟨b,S,I,c⟩| (o,pre)::rest,i,b,S,I,c=>
  bif E6 d o.dst then
   bif y9 all b o then
    match j7 o.op with
    |0=>match xop P call b S o.op with
     |some (v,_)=>xgo P call d all a rest (i+1) (A6 b o.dst v) S I<|⟨i,o,pre,b,S,S,I,true,v,none⟩::c|none=>none
    |1=>match xrd P b S o.op with
     |some v=>xgo P call d all a rest (i+1) (A6 b o.dst v) S I<|⟨i,o,pre,b,S,S,I,true,v,none⟩::c|none=>none
    |2=>match xnw P b o.op with
     |some n=>xgo P call d all a rest (i+1) (A6 b o.dst<|n.d<|a+i) S I<|⟨i,o,pre,b,S,S,I,true,n.d<|a+i,some n⟩::c|none=>none
    |_=>match xop P call b (takes a (AC pre I) c S) o.op with
     |some (v,e)=>xgo P call d all a rest (i+1) (A6 b o.dst v) e (I|||pre)<|⟨i,o,pre,b,S,e,I,true,v,none⟩::c|none=>none
   else xgo P call d all a rest (i+1) (A6 b o.dst undef) S I (⟨i,o,pre,b,S,S,I,false,undef,none⟩::c)
  else none
structure Ir (P:Aw)(call:i9)(nt:Nat)(all:An)(nx0:Nat)(e:Ent)(es:List Ent)(tm':Ao)(S':Hp)(I':Nat):Prop where
 c:E6 nt e.o.dst=true
 p:e.f=y9 all e.d e.o
 f:tm'=A6 e.d e.o.dst e.r
 h:e.h=S'
 m:e.f=false->e.r=undef/\e.c=none
 b:(e.f=false\/j7 e.o.op≠3)->S'=e.S/\I'=e.I
 t:e.f=true->j7 e.o.op=0-> ∀S,xop P call e.d S e.o.op=some (e.r,S)
 v:e.f=true->j7 e.o.op=1->xrd P e.d e.S e.o.op=some e.r
 u:e.f=true->j7 e.o.op=2-> ∃n,xnw P e.d e.o.op=some n/\e.r=n.d (nx0+e.i)/\e.c=some n
 q:e.f=true->3<=j7 e.o.op->xop P call e.d (takes nx0 (AC e.b e.I) es e.S) e.o.op=some (e.r,S')/\I'=e.I|||e.b
 d:j7 e.o.op≠2->e.c=none
inductive Q7 (P:Aw)(call:i9)(nt:Nat)(all:An)(nx0:Nat)(tmN:Ao)(SN:Hp)(IN:Nat):List Ent->List Ent->Ao->Hp->Nat->Prop
 |nil (es:List Ent):Q7 P call nt all nx0 tmN SN IN es [] tmN SN IN
 | A (e : Ent) (es s : List Ent) (tm' : Ao) (S' : Hp) (I' : Nat) (hi : e.i = es.length) (h : Ir P call nt all nx0 e es tm' S' I')
   (hc:Q7 P call nt all nx0 tmN SN IN (e::es) s tm' S' I'):Q7 P call nt all nx0 tmN SN IN es (e::s) e.d e.S e.I
def yS (o:Op):j7 o<=3:=by unfold j7;grind
section
variable {P :Aw}{call:i9}{W:Nat}{all:An}{Z:Nat}{X:Ao}{V:Hp}{U:Nat}
def NY :∀(j:List (Oper×Nat)) (i:Nat) (c:Ao) (S:Hp) (I:Nat) (d:List Ent) (a:Out),xgo P call W all Z j i c S I d=a->i=d.length-> ∃s,a.b=s.reverse++d/\s.map (λe=>(e.o,e.b))=j/\Q7 P call W all Z a.c a.S a.I d s c S I:=by
 intro j;induction j with
 |nil=>intro i c S I d a h y;simp only[xgo,WJ]at h;subst h;exact⟨[],rfl,rfl,.nil d⟩
 |cons p j E=>
  intro i c S I d a h y;let⟨o,pre⟩:=p;simp only[xgo]at h;cases k:E6 W o.dst with
  |false=>grind|true=>
   rw[k,Xa]at h;have next:∀(e:Ent) (t:Hp) (q:Nat),e.i=i->e.o=o->e.b=pre->e.d=c->e.S=S->e.I=I->Ir P call W all Z e d (A6 c o.dst e.r) t q->
     xgo P call W all Z j (i+1) (A6 c o.dst e.r) t q (e::d)=a->
     ∃s,a.b=s.reverse++d/\s.map (λe=>(e.o,e.b))=(o,pre)::j/\Q7 P call W all Z a.c a.S a.I d s c S I:=by
    rintro e t q rfl rfl rfl rfl rfl rfl D f;let⟨s,b,F,x⟩:=E _ _ _ _ _ _ f (by grind);exact⟨e::s,by grind,by grind,.A e d s _ _ _ y D x⟩
   cases g:y9 all c o with
   |false=>rw[g,Xb]at h;refine next ⟨i,o,pre,c,S,S,I,false,undef,none⟩ S I rfl rfl rfl rfl rfl rfl ⟨k,g.symm,rfl,rfl,λ_=>⟨rfl,rfl⟩,λ_=>⟨rfl,rfl⟩,?_,?_,?_,?_,λ_=>rfl⟩ h<;>(intro l;cases l)
   |true=>
    rw[g,Xa]at h;split at h
    .rename_i m;split at h
     .rename_i v u f;obtain⟨r,z⟩:=Ic m;have w:r=v:=by rw[z]at f;exact(C5 f).1
      refine next ⟨i,o,pre,c,S,S,I,true,v,none⟩ S I rfl rfl rfl rfl rfl rfl ⟨k,g.symm,rfl,rfl,λl=>(by grind),λ_=>⟨rfl,rfl⟩,λ_ _ S=>?_,λ_ b=>?_,λ_ b=>?_,λ_ b=>?_,λ_=>rfl⟩ h
      rw[z,w];rfl;grind;grind;grind
     cases h
    .rename_i m;split at h
     .rename_i v f;refine next ⟨i,o,pre,c,S,S,I,true,v,none⟩ S I rfl rfl rfl rfl rfl rfl ⟨k,g.symm,rfl,rfl,λl=>(by grind),λ_=>⟨rfl,rfl⟩,λ_ b=>?_,λ_ _=>f,λ_ b=>?_,λ_ b=>?_,λ_=>rfl⟩ h
      grind;grind;grind
     cases h
    .rename_i m;split at h
     .rename_i n f;refine next ⟨i,o,pre,c,S,S,I,true,n.d<|Z+i,some n⟩ S I rfl rfl rfl rfl rfl rfl ⟨k,g.symm,rfl,rfl,λl=>(by grind),λ_=>⟨rfl,rfl⟩,λ_ b=>?_,λ_ b=>?_,λ_ _=>⟨n,f,rfl,rfl⟩,λ_ b=>?_,λb=>absurd m b⟩ h
      grind;grind;grind
     cases h
    .rename_i A B C;have x:j7 o.op=3:=by have:=yS o.op;grind
     split at h
     .rename_i v u f;refine next ⟨i,o,pre,c,S,u,I,true,v,none⟩ u (I|||pre) rfl rfl rfl rfl rfl rfl ⟨k,g.symm,rfl,rfl,λl=>(by grind),λG=>?_,λ_ b=>?_,λ_ b=>?_,λ_ b=>?_,λ_ _=>⟨f,rfl⟩,λ_=>rfl⟩ h
      grind;grind;grind;grind
     cases h
variable {Y s:List Ent}{R:Ao}{S:Hp}{I:Nat}
def Q7.get (h:Q7 P call W all Z X V U Y s R S I):∀ {k:Nat} {e:Ent},s[k]? =e->e.i=Y.length+k/\ ∃a c b,Ir P call W all Z e ((s.take k).reverse++Y) a c b/\Q7 P call W all Z X V U (e::((s.take k).reverse++Y)) (s.drop<|k+1) a c b:=by induction h<;>grind
def Q7.upTo (h:Q7 P call W all Z X V U Y s R S I):∀ {k:Nat} {e:Ent},s[k]? =e->Q7 P call W all Z e.d e.S e.I Y (s.take k) R S I:=by
 induction h with
 |nil Y=>grind|A d Y s a c b f g j i=>
  intro k e h;cases k with
  |zero=>simp at h;subst h;exact .nil Y|succ k=>exact .A d Y _ a c b f g<|i h
def Q7.z (h:Q7 P call W all Z X V U Y s R S I){t:Nat}(b:∀e∈s,e.o.dst≠some t):X.l t=R.l t:=by
 induction h with
 |nil Y=>rfl|A a Y s i k j p f l g=>
  rw[g<|λe n=>b e<|by grind,f.f];unfold A6;cases m:a.o.dst with
  |none=>rfl|some d=>rw[ZD,Xd<|λe=>(b a (by simp))<|by grind]
def Q7.C (h:Q7 P call W all Z X V U Y s R S I):∀ {k:Nat} {e:Ent} {t:Nat},s[k]? =some e->e.o.dst=t->(∀(j:Nat) a,s[j]? =some a->j≠k->a.o.dst≠some t)->X.l t=some e.r:=by
 induction h with
 |nil Y=>grind|A v Y s p u q w m f n=>
  intro k e t h c d;cases k with
  |zero=>
   simp at h;subst h;have b:∀e∈s,e.o.dst≠some t:=λe g=>by obtain⟨j,i,rfl⟩:=List.mem_iff_getElem.1 g;exact d (j+1) _ (by simp) (by omega)
   rw[f.z b,m.f];unfold A6;rw[c,ZD,Xg rfl]
  |succ k=>exact n h c (λj a i l=>d (j+1) a (by grind)<|by omega)
def Q7.still (h:Q7 P call W all Z X V U Y s R S I)(b:∀e∈s,j7 e.o.op≠3):V=S/\U=I:=by
 induction h with
 |nil Y=>grind|A a Y s d g f l c k m=>let⟨i,j⟩:=c.b (.inr<|b a<|by simp);grind
end
section
variable {P :Aw}{B:BS}{w0:Bc}{Z:Sg}{Y:Hp}{w:Bc}
variable {X:Nat}
def Ext.q {a b d:Nat}{n g:Nw}(h:Ext B Z Y w X n b)(t:Ext B Z Y w a g d)(A:b≠d):Ext B Z (Y.i X n) w a g d:=by let⟨p,o,j,k,l,m,s,v⟩:=t;let⟨q,D,y,z,_⟩:=h;refine⟨p,o,j,k,l,m,s,?_⟩;intro i c x r e u C;simp only[Hp.i,ZD]at e;by_cases f:i=X;rw[Xg f,WJ]at e;subst f;subst e;have:=(Zf n.h).1 u;grind;grind
def Ext.d {e s:Hp}{b:Nat}{n:Nw}(h:Ext B Z e w X n b){a:Sg}{y:Bc}(k:HR (rest B Z e w) w a s y)(d:Sg.t Z a):Ext B a s y X n b:=by
 let⟨p,o,z,A,t,C,u,E⟩:=h;have x:rest B Z e w b:= .inr ⟨(WY.1 t).1,λi c r q j m l=>E i c r q j m l⟩;refine⟨p,o,d _ _ z,A,by rw[k.h b x];exact t,C.d d,u,?_⟩;intro i c r q j m l g;let⟨G,D,F,f,_⟩:=k.z i c r j m;have:G=q:=Xk<|F.symm.trans l;subst this;rw[g]at f;cases v:fQ c with
 |true=>exact u<|B.f _<|f.d v|false=>exact f.f v x
def Ext.r {b f:Nat}{g:Nw}(s:Ext B Z Y w b g f)(v:HR B w0 Z Y w)(d:Z X=none)(h:Pl)(o:Obj):Ext B (Z.d X h) Y (w.alloc o) b g f:=by let⟨p,C,j,k,e,l,m,y⟩:=s;have a:=ZA h d;refine⟨p,C,a _ _ j,k,by rw[Below.heap_alloc _ _ _ (WY.1 e).1];exact e,l.d a,m,?_⟩;intro i c r q t x u;let⟨z,D,n,_⟩:=v.z i c r t x;have:=(a _ _ n).symm.trans u;grind
def RM {f:Nat}{m:Nat->Bool}:∀(r:List Ent) {Y:Hp},HR B w0 Z Y w->(∀(j:Nat) e n,r[j]? =some e->e.c=some n->m e.i-> ∃b,Ext B Z Y w (f+e.i) n b)->(∀(j u:Nat) e o n d b c,r[j]? =some e->r[u]? =some o->j≠u->e.c=some n->o.c=some d->m e.i->m o.i->Ext B Z Y w (f+e.i) n b->Ext B Z Y w (f+o.i) d c->b≠c)->HR B w0 Z (takes f m r Y) w/\(takes f m r Y).d=Y.d/\ ∀a d c,Ext B Z Y w a d c->(∀(j:Nat) e n b,r[j]? =some e->e.c=some n->m e.i->Ext B Z Y w (f+e.i) n b->b≠c)->Ext B Z (takes f m r Y) w a d c:=by
 intro r;induction r with
 |nil=>intro Y I _ _;exact⟨I,rfl,λa d c h _=>h⟩
 |cons e r R=>
  intro Y I v P;cases y:e.c with
  |none=>simp only[takes,y];let⟨z,A,C⟩:=R I (λj e n g=>v (j+1) e n<|by grind) (λj u e o n d b c g k s=>P (j+1) (u+1) e o n d b c (by grind) (by simpa using k)<|by omega);exact⟨z,A,λa d c t x=>C a d c t<|λj e n b g=>x (j+1) e n b<|by grind⟩
  |some n=>
   cases F:m e.i with
   |false=>simp only[takes,y,F,Xb];let⟨z,A,C⟩:=R I (λj e n g=>v (j+1) e n<|by grind) (λj u e o n d b c g k s=>P (j+1) (u+1) e o n d b c (by grind) (by simpa using k)<|by omega);exact⟨z,A,λa d c t x=>C a d c t<|λj e n b g=>x (j+1) e n b<|by grind⟩
   |true=>
    simp only[takes,y,F,Xa];let⟨b,Q⟩:=v 0 e n rfl y F;have keep:∀ {a:Nat} {d:Nw} {c:Nat},Ext B Z Y w a d c->b≠c->Ext B Z (Y.i (f+e.i) n) w a d c:=λt s=>Q.q t s;have l:∀ {a:Nat} {d:Nw} {c N:Nat},Ext B Z Y w a d c->Ext B Z (Y.i (f+e.i) n) w a d N->N=c:=by intro a d c N t hy;let⟨p,_,O,T,_⟩:=t;let⟨q,_,d1,d2,_⟩:=hy;grind
    let⟨z,A,C⟩:=R (I.take Q)
     (λj o d g H G=>by let⟨c,E⟩:=v (j+1) o d (by simpa using g) H G;exact⟨c,keep E<|P 0 (j+1) e o n d b c rfl (by grind) (by omega) y H F G Q E⟩)
     (λj u D U L X b1 N g k s J V K W S x2=>by let⟨O,M⟩:=v (j+1) D L (by simpa using g) J K;let⟨T,y2⟩:=v (u+1) U X (by simpa using k) V W;rw[l M S,l y2 x2];exact P (j+1) (u+1) D U L X O T (by simpa using g) (by simpa using k) (by omega) J V K W M y2)
    refine⟨z,A,λa d c t x=>C a d c (keep t<|x 0 e n b rfl y F Q)<|λj D L b1 g J K S=>?_⟩;let⟨O,M⟩:=v (j+1) D L (by simpa using g) J K;rw[l M S];exact x (j+1) D L O (by simpa using g) J K M
end
def xpre (a:Ah)(o:Oper):Nat:=
 o.after.toList.foldl (λs e=>bif Region.binds .any e then(s|||2^e.on)|||a.getD e.on 0 else s) 0
def dK :An->Ah->Ah
 | [],acc=>acc|o::a,acc=>dK a<|acc++ [xpre acc o]
def QA (s:Nat):Az->Nat
 | .tmp t=>s|||2^t
 |_=>s
def yA (all:An)(o:Oper):Nat:=
 o.op.operands.toList.foldl QA (match o.guard with
  |some (g,_)=>match all[g]? with
   |some p=>match p.dst with
    |some d=>2^d|none=>0
   |none=>0
  |none=>0)
structure Inf where
 o:Oper
 b:Nat
 i:Nat
 d:Nat
 c:Bool
def infs (all:An)(a:Ah):List Inf:=((all.zip a).zipIdx).map λx=>⟨x.1.1,x.1.2,x.2,yA all x.1.1,Nat.beq (j7 x.1.1.op) 3⟩
def Uy (o:Oper)(t:Nat):Bool:=match o.dst with|some d=>Nat.beq d t|none=>false
def s1 (a:Ah)(x:Inf):Bool:=Nat.beq x.b (xpre a x.o)&&x.o.after.toList.all (λe=> !(Region.binds .any e)||Nat.blt e.on x.i)
def s2 (x y:Inf):Bool:=
 bif Nat.beq x.i y.i then true else
  (match y.o.dst with
   |none=>true|some t=> !(Uy x.o t)&&(bif x.d.testBit t then(bif Nat.blt y.i x.i then x.b.testBit y.i else y.b.testBit x.i)else true))&&
  (bif x.c&&y.c&&Nat.blt y.i x.i then x.b.testBit y.i else true)
def stat (all:An)(a:Ah):Bool:=
 Nat.beq a.length all.length&&(infs all a).all (s1 a)&&(infs all a).all (λx=>(infs all a).all<|s2 x)
def isW (e:Ent):Bool:=Nat.beq (j7 e.o.op) 3
def cR (a:List Ent)(e:Ent)(k:Nat):Bool:=
 a.all λy=>bif isW y then(bif Nat.blt y.i k then !(y.b.testBit e.i)else !(e.b.testBit y.i))else true
def own (a:List Ent)(e:Ent)(k:Nat):Bool:=
 a.all λy=>bif isW y then(Nat.blt y.i k==Nat.blt y.i e.i)else true
def rU (P:Aw)(a:List Ent)(e:Ent)(k:Nat)(S:Hp):Bool:=
 bif own a e k then true else bif cR a e k then
  (match xrd P e.d S e.o.op with
   |some v=>veq 1000 v e.r|none=>false)
 else true
def dyn (P:Aw)(b:Hp)(a:List Ent):Bool:=
 a.all λe=>bif e.f&&Nat.beq (j7 e.o.op) 1 then rU P a e 0 b&&a.all (λx=>bif isW x then rU P a e (x.i+1) x.h else true)else true
def kO (P:Aw):dL:=λcall c all d b=>
 bif stat all (dK all [])then
  match xgo P call c all b.d (all.zip<|dK all []) 0 d ⟨b.m,b.d+all.length⟩ 0 []with
  |some a=>bif dyn P ⟨b.m,b.d+all.length⟩ a.b then some (a.c,takes b.d (Bz a.I) a.b a.S)else none|none=>none
 else none
def xB {a:Type}(f:a->Nat->Bool)(g:Nat->a->Nat)(b:∀s x j,(g s x).testBit j↔(s.testBit j\/f x j)):∀(l:List a) (s:Nat) (j:Nat),(l.foldl g s).testBit j↔(s.testBit j\/ ∃x∈l,f x j)
 | [],s,j=>by simp|x::l,s,j=>by rw[List.foldl_cons,xB f g b l (g s x) j,b];grind
def Oi {a:Ah}{o:Oper}{j:Nat}(h:(xpre a o).testBit j):∃e∈o.after.toList,Region.binds .any e/\(e.on=j\/(a.getD e.on 0).testBit j):=by rw[xpre] at h;rw[xB λ(e:Edge) j=>Region.binds .any e&&(decide (e.on=j)|| (a.getD e.on 0).testBit j)]at h;grind;grind
def yB {all:An}{o:Oper}{t:Nat}:(yA all o).testBit t↔((∃g a p,o.guard=some (g,a)/\all[g]? =some p/\p.dst=t)\/Operand.tmp t∈o.op.operands.toList):=by rw[yA,xB λ(x:Az) j=>match x with| .tmp t=>decide<|t=j|_=>false];grind;intro s x j;cases x<;>simp[QA,Nat.testBit_or,Nat.testBit_two_pow]
def lst (L:Array Bool)(j:Nat):Prop:=L.getD j false=true
section
variable {P :Aw}{B:BS}{w0:Bc}{call:i9}{R:Nat}{Z:Am}{X:Ah}{Y:Nat}{l:List Ent}{U W:Ao}{Q O:Hp}{N:Nat}
structure Fix (P:Aw)(call:i9)(R:Nat)(Z:Am)(X:Ah)(Y:Nat)(l:List Ent)(U W:Ao)(Q O:Hp)(N:Nat):Prop where
 m:stat Z.toList X=true
 dyn:dyn P Q l.reverse=true
 n:l.map (λe=>(e.o,e.b))=Z.toList.zip X
 b:Q7 P call R Z.toList Y W O N [] l U Q 0
variable (F :Fix P call R Z X Y l U W Q O N)
include F
theorem Fix.u :X.length=Z.size:=by have:=F.m;simp only[Xe.stat,WK]at this;simp_all
def Fix.f :l.length=Z.size:=by have:=congrArg List.length F.n;simpa [F.u]using this
variable {j:Nat}
def Fix.t {o:Oper}(h:Z[j]? =o):∃e,l[j]? =some e/\e.o=o:=by
 have b:j<l.length:=by rw[F.f];exact (WY.1 h).1
 refine⟨l[j],by grind,?_⟩;have:=congrArg (λx=>x[j]?) F.n;grind
variable {e:Ent}
def Fix.d (h:l[j]? =some e):Z[j]? =e.o/\e.b=X.getD j 0/\e.i=j:=by have a:=congrArg (λx=>x[j]?) F.n;simp only[XQ,h,XH]at a;have:=List.getElem?_zip_eq_some.1 a.symm;refine⟨by grind,by grind,?_⟩;have:=(F.b.get h).1;grind
def Fix.r (h:l[j]? =e):(⟨e.o,e.b,j,yA Z.toList e.o,Nat.beq (j7 e.o.op) 3⟩:Inf)∈infs Z.toList X:=by have a:=congrArg (λx=>x[j]?) F.n;refine Yw.2 ⟨((e.o,e.b),j),?_,rfl⟩;grind
def Fix.p1 (h:l[j]? =some e):(∀k,e.b.testBit k-> ∃a∈e.o.after.toList,Region.binds .any a/\(a.on=k\/(X.getD a.on 0).testBit k))/\ ∀a∈e.o.after.toList,Region.binds .any a->a.on<j:=by have c:=F.m;simp only[Xe.stat,WK,Xo]at c;have:=c.1.2 _<|F.r h;simp only[s1,WK,Xo,Ys,XI]at this;have g:=WO this.1;refine⟨λk i=>Oi<|by grind,λa b f=>?_⟩;obtain d|d:=this.2 a b;grind;simp_all
variable {i:Nat}
def Fix.q {b:Ent}(m:l[i]? =e)(n:l[j]? =b)(d:i≠j):(∀t,b.o.dst=some t->e.o.dst≠some t)/\(∀t,b.o.dst=some t->(yA Z.toList e.o).testBit t->(j<i->e.b.testBit j)/\(i<j->b.b.testBit i))/\(j7 e.o.op=3->j7 b.o.op=3->j<i->e.b.testBit j):=by
 have f:=F.m;simp only[Xe.stat,WK,Xo]at f;have:=f.2 _ (F.r m) _<|F.r n;simp only[s2]at this;rw[B0 d,Xb,WK]at this;let⟨c,h⟩:=this;refine⟨λt g k=>?_,λt g s=>?_,λp q a=>?_⟩;simp only[g,WK,XI]at c;have:=c.1;simp only[Uy,k]at this;simp_all
 .simp at c;constructor;intro a;simp_all
  .intro a;have:Nat.blt j i=false:=by cases r:Nat.blt j i;rfl;simp_all;omega
   grind
 rw[w9 p,w9 q,show Nat.blt j i from WQ a]at h;grind
omit F
structure Inv (B:BS)(w0:Bc)(P:Aw)(call:i9)(R:Nat)(Z:Am)(Y:Nat)(l:List Ent)(U W:Ao)(Q O:Hp)(N:Nat)(σ0:Sg)(D:List Deferred)(L:Array Bool)(a:Act)(w:Bc)(σ:Sg)(k:Nat)(S:Hp)(I:Nat):Prop where
 A:L.size=Z.size
 h:∀j e,l[j]? =some e->lst L j-> ∀m,e.b.testBit m=true->lst L m
 q:a.defers=D
 tsz:a.tmps.size=R
 tin:∀(j:Nat) e t,l[j]? =some e->lst L j->e.o.dst=some t->VR σ e.r (a.tmps.getD t undef)
 z:∀t,(∀(j:Nat) e,l[j]? =some e->lst L j->e.o.dst≠some t)->VR σ ((U.l t).getD undef) (a.tmps.getD t undef)
 v:∃tmk,Q7 P call R Z.toList Y W O N (l.take k).reverse (l.drop k) tmk S I
 u:(k=0/\S=Q)\/ ∃e,0<k/\l[k-1]? =some e/\j7 e.o.op=3/\S=e.h
 wr:∀(j:Nat) e,l[j]? =some e->j7 e.o.op=3->(lst L j↔j<k)
 C:HR B w0 σ S w
 gr:Sg.j Y S.d σ0 σ
 d:Y+Z.size<=S.d
 p:∀(j:Nat) e n,l[j]? =some e->e.c=some n-> ¬lst L j->σ (Y+j)=none
 f:∀(j:Nat) e n,l[j]? =some e->e.c=some n->lst L j->I.testBit j=false-> ∃b,Ext B σ S w (Y+j) n b
 c:∀(j j':Nat) e e' n n' b b',l[j]? =some e->l[j']? =some e'->e.c=some n->e'.c=some n'->j≠j'->lst L j->lst L j'->I.testBit j=false->I.testBit j'=false->
  Ext B σ S w (Y+j) n b->Ext B σ S w (Y+j') n' b'->b≠b'
variable {L:Array Bool}
def F6 (a:i<L.size):lst (L.setIfInBounds i true) j↔(lst L j\/j=i):=by unfold lst;by_cases h:j=i;simp_all;rw[getD_set_ne false<|Ne.symm h];simp[h]
def HJ (h:L.getD i true=false):i<L.size/\ ¬lst L i:=by
 refine⟨(by grind),λb=>?_⟩;rw[lst] at b;grind
def Cb {k:Nat}{b:Ao}{S:Hp}{I:Nat}(d:Q7 P call R Z.toList Y W O N (l.take k).reverse (l.drop k) b S I)(h:l[i]? =e)(n:k<=i)(p:∀(j:Nat) a,l[j]? =some a->k<=j->j<i->j7 a.o.op≠3):e.S=S/\e.I=I:=by
 have c:(l.drop k)[i-k]? =some e:=by grind
 refine(d.upTo c).still λa f=>?_;let⟨m,g⟩:=XY.1 f;grind
include F
def Fix.v {v:Sg}{D:List Deferred}{a:Act}{w:Bc}{z:Sg}{k:Nat}{S:Hp}{I:Nat}(V:Inv B w0 P call R Z Y l U W Q O N v D L a w z k S I)(q:l[i]? =e)(n:∀m,e.b.testBit m->lst L m)(C:¬lst L i){t:Nat}(y:(yA Z.toList e.o).testBit t):VR z ((e.d.l t).getD undef) (a.tmps.getD t undef):=by
 have x:=F.b.upTo q;by_cases G:∃(j:Nat) (b:Ent),j<i/\l[j]? =some b/\b.o.dst=t;let⟨j,b,g,d,c⟩:=G;have f:=n j<|((F.q q d<|by omega).2.1 t c y).1 g;have:=x.C (by rw[Xr,Xg g];exact d) c (λm H h s p=>by rw[Xr]at h;split at h;exact(F.q h d s).1 t c p;exact absurd h<|by simp);rw[this];exact V.tin j b t d f c
 .have u:∀b∈l.take i,b.o.dst≠some t:=λb h c=>by let⟨m,E⟩:=XY.1 h;grind
  rw[x.z u];refine V.z t λj b d f c=>?_;by_cases r:j=i;grind;obtain g|A:=Nat.lt_or_ge j i;grind;exact C (V.h j b d f i<|((F.q q d<|Ne.symm r).2.1 t c y).2<|by omega)
end
def Im {n:Sg}{f:Ao}{tmps:Al}(a:Am)(o:Oper)(h:∀g b p d,o.guard=some (g,b)->a.toList[g]? =some p->p.dst=some d->VR n ((f.l d).getD undef) (tmps.getD d undef)):Region.wanted o (yielded a tmps)=y9 a.toList f o:=by
 rw[Region.wanted,y9];cases c:o.guard with
 |none=>rfl|some l=>
  let⟨j,b⟩:=l;have r:yielded a tmps j=iB a.toList f j:=by
   rw[yielded,iB,Array.getElem?_toList];cases q:a[j]? with
   |none=>rfl|some p=>
    simp;cases m:p.dst with
    |none=>rfl|some d=>
     simp;have:=h j b p d c (by grind) m;by_cases k:d<tmps.size
     .have e:tmps[d]? =tmps[d]:=by grind
      have i:tmps.getD d undef=tmps[d]:=by simp_all
      rw[i]at this;rw[e];cases c:f.l d with
      |none=>rw[c,Option.getD_none]at this;generalize tmps[d]=x at this;cases this<;>grind
      |some v=>rw[c,XB]at this;generalize tmps[d]=x at this;cases this<;>rfl
     .have e:=Array.getElem?_eq_none<|Yt k;have i:tmps.getD d undef=undef:=by grind
      rw[i]at this;rw[e];cases c:f.l d with
      |none=>rfl|some v=>rw[c,XB]at this;cases this<;>grind
  grind
section
variable {P :Aw}{B:BS}{K:Bc}{call:i9}{O:Nat}{X:Am}{G:Ah}{Y:Nat}{l:List Ent}{R U:Ao}{J M:Hp}{N:Nat}
variable (F :Fix P call O X G Y l R U J M N)
include F
variable {i:Nat}
def Fix.c {j:Nat}{e:Ent}(c:i<=l.length)(h:((l.take i).reverse)[j]? =e):j<i/\l[i-1-j]? =e/\e.i=i-1-j:=by
 have a:(l.take i).length=i:=by grind
 have b:j<i:=by grind
 rw[List.getElem?_reverse<|by omega,a,Xr,Xg<|by omega]at h;exact⟨b,h,(F.d h).2.2⟩
variable {W T:Sg}{D:List Deferred}{L:Array Bool}{a:Act}{w:Bc}{I k:Nat}{S:Hp}
def Fix.h (V:Inv B K P call O X Y l R U J M N T D L a w W k S I)(s:i<=l.length)(m:Nat->Bool)(t:∀j,j<i->m j->lst L j/\I.testBit j=false):HR B K W (Xe.takes Y m (l.take i).reverse S) w/\(Xe.takes Y m (l.take i).reverse S).d=S.d/\ ∀(j:Nat) e n b,l[j]? =some e->e.c=some n->lst L j->I.testBit j=false->(j<i->m j=false)->Ext B W S w (Y+j) n b->Ext B W (Xe.takes Y m (l.take i).reverse S) w (Y+j) n b:=by
 have H:=RM (l.take i).reverse V.C
  (λj e n p q f=>by let⟨h1,A,o⟩:=F.c s p;let⟨C,E⟩:=t _ (by omega:i-1-j<i)<|o▸f;rw[o];exact V.f _ e n A q C E)
  (λj Z e v n n' b u p d ab q g f c x1 x2=>by let⟨h1,A,o⟩:=F.c s p;let⟨g1,x,h⟩:=F.c s d;let⟨C,E⟩:=t _ (by omega:i-1-j<i)<|o▸f;let⟨y,z⟩:=t _ (by omega:i-1-Z<i)<|h▸c;rw[o]at x1;rw[h]at x2;exact V.c _ _ e v n n' b u A x q g (by omega) C y E z x1 x2)
 refine⟨H.1,H.2.1,λj e n b p q Q G aa hx=>H.2.2 _ n b hx λZ v n' u d g c r=>?_⟩;let⟨g1,x,h⟩:=F.c s d;let⟨y,z⟩:=t _ (by omega:i-1-Z<i)<|h▸c;rw[h]at r;refine V.c _ _ v e n' n u b x p g q ?_ y Q z G r hx;grind
def Fix.A (V:Inv B K P call O X Y l R U J M N T D L a w W k S I){e:Ent}(E:l[i]? =e)(x:∀m,e.b.testBit m->lst L m)(hi:¬lst L i)(hw:e.f)(aa:j7 e.o.op=1):xrd P e.d S e.o.op=e.r:=by
 have s:e.i=i:=(F.d E).2.2;have c:∀ {j:Nat} {y:Ent},l[j]? =some y->y∈l.reverse:=λh=>List.mem_reverse.2<|WT h;have t:∀ {y:Ent},y∈l.reverse-> ∃j,l[j]? =some y/\y.i=j:=λh=>by let⟨j,d⟩:=XY.1<|List.mem_reverse.1 h;exact⟨j,d,(F.d d).2.2⟩
 have p:cR l.reverse e k:=by
  rw[cR,Xo];intro y z;let⟨j,d,ad⟩:=t z;cases n:isW y with
  |false=>rfl|true=>
   have f:j7 y.o.op=3:=WO n;rw[ad,s];by_cases b:j<k
   .rw[show Nat.blt j k=true from WQ b,Xa];have ac:=(V.wr j y d f).2 b;cases C:y.b.testBit i with
    |false=>rfl|true=>exact absurd (V.h j y d ac i C) hi
   .have C:Nat.blt j k=false:=by cases C:Nat.blt j k;rfl;simp_all;omega
    rw[C,Xb];cases Q:e.b.testBit j with
    |false=>rfl|true=>exact absurd ((V.wr j y d f).1<|x j Q) b
 obtain⟨ai,S',I',hs,ae⟩:=(F.b.get E).2;have hr:=hs.v hw aa;have H:rU P l.reverse e k S->xrd P e.d S e.o.op=e.r:=by
  intro u;unfold rU at u;cases G:own l.reverse e k with
  |true=>
   have ah:∀(j:Nat) y,l[j]? =some y->j7 y.o.op=3->(j<k↔j<i):=λj y d f=>by unfold own at G;rw[Xo]at G;have:=G y<|c d;have n:isW y=true:=w9 f;rw[n,Xa,(F.d d).2.2,s]at this;constructor;intro b;rw[show Nat.blt j k=true from WQ b]at this;simp_all;intro b;rw[show Nat.blt j i=true from WQ b]at this;simp_all
   have ab:k<=i:=by obtain⟨A,_⟩| ⟨y,A,z,f,_⟩:=V.u;omega;grind
   obtain⟨aj,q⟩:=V.v;have hS:=(Cb q E ab<|by grind).1;grind
  |false=>rw[G,Xb,p,Xa]at u;split at u;rename_i v hv;rw[hv,RU _ _ _ u];cases u
 have Z:=F.dyn;unfold Xe.dyn at Z;rw[Xo]at Z;have A:=Z e<|c E;have g:(e.f&&Nat.beq (j7 e.o.op) 1):=by simp_all
 rw[g,Xa,WK,Xo]at A;obtain⟨hk,hS⟩| ⟨y,hk,z,f,hS⟩:=V.u;grind;have:=A.2 y<|c z;have n:isW y=true:=w9 f;rw[n,Xa,(F.d z).2.2,show k-1+1=k by omega]at this;grind
set_option maxHeartbeats 1000000 in
theorem Fix.C (aw:T8 P call)(V:Inv B K P call O X Y l R U J M N T D L a w W k S I)(hr:i∈Region.ready .any X L)(Q:Exit->Act->Bc->Prop)(r:Ai):wpOpIn (RF r) 0 P X Q i (λa' w'=>∃E k' S' I',Inv B K P call O X Y l R U J M N T D (L.setIfInBounds i true) a' w' E k' S' I') a w:=by
 obtain⟨di,o,ho,bw⟩:=mem_ready.1 hr;let⟨ab,be⟩:=HJ di;let⟨e,he,aa⟩:=F.t ho;have cz:e.i=i:=(F.d he).2.2;have bq:i<l.length:=(WM.1 he).1;have aq:∀m,e.b.testBit m->lst L m:=by
  intro m hm;let⟨ed,cd,hb,h⟩:=(F.p1 he).1 m hm;have dg:lst L ed.on:=bw ed (by rw[<-aa];simpa using cd) hb;obtain h|h:=h;grind
  .have ap:=(F.p1 he).2 ed cd hb;have cj:ed.on<l.length:=by omega
   obtain⟨H,cb⟩:∃H,l[ed.on]? =some H:=⟨l[ed.on],by simp[cj]⟩
   exact V.h ed.on H cb dg m (by rw[(F.d cb).2.1];exact h)
 let⟨dj,S',I',hs,cy⟩:=(F.b.get he).2;simp only[YD]at hs cy;have bm:∃bl,Q7 P call O X.toList Y U M N (l.take<|i+1).reverse (l.drop<|i+1) bl S' I':=by
  refine⟨dj,?_⟩;have:e::(l.take i).reverse=(l.take<|i+1).reverse:=by rw[List.take_succ_eq_append_getElem bq,List.reverse_append];grind
  grind
 have bg:∀t,(yA X.toList o).testBit t->VR W ((e.d.l t).getD undef) (a.tmps.getD t undef):=λt ht=>F.v V he aq be (by rw[aa];exact ht);have bh:∀x∈o.op.operands,∀v,i7 e.d x=some v->VR W v (a.eval x):=by
  intro x hx v hv;cases x with
  |tmp t=>simp only[i7,WJ]at hv;subst hv;exact bg t (yB.2<|.inr<|by simpa using hx)|const c=>
   simp only[i7]at hv;cases hc:cst c with
   |false=>grind|true=>simp[hc]at hv;subst hv;exact fI W hc
  |global g=>simp[i7]at hv|func f=>simp only[i7,WJ]at hv;subst hv;exact .func _ _ _ _ _ rfl (λi x y h _=>by simp at h) rfl (λi x y h _=>by simp at h)
 have bv:Region.wanted o (yielded X a.tmps)=e.f:=by rw[hs.p,aa];exact Im X o λg ct p d hg hp hd=>bg d<|yB.2<|.inl ⟨g,ct,p,hg,hp,hd⟩
 have ca:∀(j:Nat) H t,l[j]? =some H->j≠i->H.o.dst=some t->o.dst≠some t:=λj H t A ao ht=>by rw[<-aa];exact(F.q he A<|Ne.symm ao).1 t ht
 have build:∀(u:Av) (E:Sg) (w':Bc) (k':Nat) (S2:Hp) (I2:Nat),Sg.t W E->VR E e.r u->
   (∃bl,Q7 P call O X.toList Y U M N (l.take k').reverse (l.drop k') bl S2 I2)->
   ((k'=0/\S2=J)\/ ∃e,0<k'/\l[k'-1]? =some e/\j7 e.o.op=3/\S2=e.h)->
   (∀(j:Nat) e,l[j]? =some e->j7 e.o.op=3->(lst (L.setIfInBounds i true) j↔j<k'))->
   HR B K E S2 w'->Sg.j Y S2.d T E->Y+X.size<=S2.d->
   (∀(j:Nat) e n,l[j]? =some e->e.c=some n-> ¬lst (L.setIfInBounds i true) j->E (Y+j)=none)->
   (∀(j:Nat) e n,l[j]? =some e->e.c=some n->lst (L.setIfInBounds i true) j->I2.testBit j=false-> ∃b,Ext B E S2 w' (Y+j) n b)->
   (∀(j j':Nat) e H n n' b b',l[j]? =some e->l[j']? =some H->e.c=some n->H.c=some n'->j≠j'->lst (L.setIfInBounds i true) j->lst (L.setIfInBounds i true) j'->I2.testBit j=false->I2.testBit j'=false->
    Ext B E S2 w' (Y+j) n b->Ext B E S2 w' (Y+j') n' b'->b≠b')->
   Inv B K P call O X Y l R U J M N T D (L.setIfInBounds i true) (a.put o.dst u) w' E k' S2 I2:=by
  intro u E w' k' S2 I2 az hv h1 h2 h3 h4 h5 h6 h7 h8 h9;have bn:∀t,o.dst≠some t->(a.put o.dst u).tmps.getD t undef=a.tmps.getD t undef:=by
   intro t ht;cases hd:o.dst with
   |none=>rfl|some d=>have ao:d≠t:=λh=>ht (by rw[hd,h]);simp[Act.put,Array.getElem?_setIfInBounds_ne ao]
  have bt:∀t,o.dst=some t->(a.put o.dst u).tmps.getD t undef=u:=by
   intro t ht;have hb:E6 O o.dst:=by rw[<-aa];exact hs.c
   rw[ht]at hb⊢;have ap:t<a.tmps.size:=by rw[V.tsz];exact WN hb
   simp[Act.put,ap]
  refine⟨by simpa using V.A,?_,by rw[oC];exact V.q,?_,?_,?_,h1,h2,h3,h4,h5,h6,h7,h8,h9⟩;intro j H A s m hm;rw[F6 ab]at s⊢;obtain s|rfl:=s;exact .inl<|V.h j H A s m hm;have:H=e:=Xk<|A.symm.trans he;subst this;exact .inl<|aq m hm;cases hd:o.dst<;>simp[Act.put,V.tsz];intro j H t A s ht;rw[F6 ab]at s;by_cases G:j=i;subst G;have:H=e:=Xk<|A.symm.trans he;subst this;rw[bt t<|by rw[<-aa];exact ht];exact hv;rw[bn t<|ca j H t A G ht];exact(V.tin j H t A (s.resolve_right G) ht).N az
  .intro t ci;have df:o.dst≠some t:=by rw[<-aa];exact ci i e he ((F6 ab).2<|.inr rfl)
   rw[bn t df];exact(V.z t λj H A s=>ci j H A<|(F6 ab).2<|.inl s).N az
 have bc:∀(u:Av) (E:Sg) (w':Bc),j7 o.op≠3->(e.c=none)->Sg.j S.d S.d W E->VR E e.r u->HR (rest B W S w) w E S w'->
   ∃E k' S' I',Inv B K P call O X Y l R U J M N T D (L.setIfInBounds i true) (a.put o.dst u) w' E k' S' I':=by
  intro u E w' hk ai ah hv ce;refine⟨E,k,S,I,build u E w' k S I ah.d hv V.v V.u (λj H A h3=>?_) (V.C.back ce) (Zz V.gr ah) V.d (λj H n A hn s=>?_) (λj H n A hn s hI=>?_)<|λj j' e1 e2 n1 n2 b1 b2 A aj ad ae ao am an ak al x1 x2=>?_⟩;rw[F6 ab,<-V.wr j H A h3];constructor;rintro (h|rfl);exact h;have:H=e:=Xk<|A.symm.trans he;subst this;exact absurd h3 (by rw[aa];exact hk);exact .inl;have cg:¬lst L j:=λh=>s<|(F6 ab).2<|.inl h;have de:j<l.length:=(WM.1 A).1;rw[ah.f _ (by have:=V.d;have:=F.f;omega)];exact V.p j H n A hn cg
  .have G:j≠i:=by rintro rfl;rw[Xk<|A.symm.trans he,ai]at hn;cases hn
   rw[F6 ab]at s;let⟨b,hb⟩:=V.f j H n A hn (s.resolve_right G) hI;exact⟨b,hb.d ce ah.d⟩
  .have G:j≠i:=by rintro rfl;rw[Xk<|A.symm.trans he,ai]at ad;cases ad
   have ac:j'≠i:=by rintro rfl;rw[Xk<|aj.symm.trans he,ai]at ae;cases ae
   rw[F6 ab]at am an;let⟨c1,y1⟩:=V.f j e1 n1 A ad (am.resolve_right G) ak;let⟨c2,y2⟩:=V.f j' e2 n2 aj ae (an.resolve_right ac) al;have au:∀ {id:Nat} {n:Nw} {b c:Nat},Ext B W S w id n c->Ext B E S w' id n b->b=c:=by intro id n b c hx hy;let⟨p,_,p1,p2,_⟩:=hx;let⟨q,_,q1,q2,_⟩:=hy;have:=(ah.d _ _ p1).symm.trans q1;have:p=q:=Xk this;rw[<-p2,<-q2,this]
   rw[au y1 x1,au y2 x2];exact V.c j j' e1 e2 n1 n2 c1 c2 A aj ad ae ao (am.resolve_right G) (an.resolve_right ac) ak al y1 y2
 have co:j7 o.op=3->e.S=S/\e.I=I/\k<=i/\ ∀(j:Nat) H,l[j]? =some H->j7 H.o.op=3->(lst (L.setIfInBounds i true) j↔j<i+1):=by
  intro h3;have av:j7 e.o.op=3:=by rw[aa];exact h3
  have bi:k<=i:=by obtain h|h:=Nat.lt_or_ge i k;exact absurd ((V.wr i e he av).2 h) be;exact h
  let⟨bl,bz⟩:=V.v;have ap:∀(j:Nat) H,l[j]? =some H->j7 H.o.op=3->j<i->lst L j:=λj H A k3 ap=>aq j<|(F.q he A<|by omega).2.2 av k3 ap;have cn:=Cb bz he bi (λj H A h1 h2 k3=>by have:=(V.wr j H A k3).1<|ap j H A k3 h2;omega);refine⟨cn.1,cn.2,bi,λj H A k3=>?_⟩;rw[F6 ab];constructor;rintro (h|rfl);rcases Nat.lt_or_ge i j with h'|h';exact absurd (V.h j H A h i<|(F.q A he<|by omega).2.2 k3 av h') be;omega;omega;intro h;by_cases G:j=i;exact .inr G;exact .inl (ap j H A k3<|by omega)
 unfold wpOpIn;simp only[ho];rw[bv];cases bb:e.f with
 |false=>
  rw[Xd<|by simp];refine⟨λ_ _=>trivial,?_⟩;let⟨ck,ai⟩:=hs.m bb;by_cases h3:j7 o.op=3
  .obtain⟨e1,e2,bi,bu⟩:=co h3;let⟨l1,l2⟩:=hs.b<|.inl bb;have av:j7 e.o.op=3:=by rw[aa];exact h3
   refine⟨W,i+1,S',I',build undef W w (i+1) S' I' (Sg.m W) (by rw[ck];exact VR.undef W) bm (.inr ⟨e,by omega,he,av,hs.h.symm⟩) bu
    (by rw[l1,e1];exact V.C) (by rw[l1,e1];exact V.gr) (by rw[l1,e1];exact V.d) (λj H n A hn s=>?_) (λj H n A hn s hI=>?_) (λj j' f1 f2 n1 n2 b1 b2 A aj ad ae ao am an ak al x1 x2=>?_)⟩
   exact V.p j H n A hn<|λh=>s<|(F6 ab).2<|.inl h
   .have G:j≠i:=by rintro rfl;rw[Xk<|A.symm.trans he,ai]at hn;cases hn
    rw[F6 ab]at s;rw[l1,e1];rw[l2,e2]at hI;exact V.f j H n A hn (s.resolve_right G) hI
   .have G:j≠i:=by rintro rfl;rw[Xk<|A.symm.trans he,ai]at ad;cases ad
    have ac:j'≠i:=by rintro rfl;rw[Xk<|aj.symm.trans he,ai]at ae;cases ae
    rw[F6 ab]at am an;rw[l1,e1]at x1 x2;rw[l2,e2]at ak al;exact V.c j j' f1 f2 n1 n2 b1 b2 A aj ad ae ao (am.resolve_right G) (an.resolve_right ac) ak al x1 x2
  exact bc undef W w h3 ai (Zy _ W) (by rw[ck];exact VR.undef W) V.C.max
 |true=>
  rw[Xg rfl];by_cases h0:j7 o.op=0;have hx:=hs.t bb (by rw[aa];exact h0) S;rw[aa]at hx;exact mF aw hx bh V.C.max _ Q (λE u w' ah hv ba=>bc u E w' (by omega) (hs.d<|by rw[aa];omega) ah hv ba) r;by_cases h1:j7 o.op=1;have hx:=TW (call:=call) (by rw[aa];exact h1) (F.A V he aq be bb<|by rw[aa];exact h1);rw[aa]at hx;exact mF aw hx bh V.C.max _ Q (λE u w' ah hv ba=>bc u E w' (by omega) (hs.d<|by rw[aa];omega) ah hv ba) r;by_cases h2:j7 o.op=2
  .obtain⟨n,hx,dh,ai⟩:=hs.u bb (by rw[aa];exact h2);rw [aa] at hx;obtain ⟨sm,da,cf,ob,bk,z,cv,cm⟩:=Dd (Z:=W) hx bh;have bp : W (Y+i)=none:=V.p i e n he ai be;have ap : Y+i < S.d:=by have:=V.d; have:=F.f; omega
   let⟨am,an⟩:=V.C.lay bp ap n (p:=⟨w.heap.size,0,bk,z⟩) rfl<|cv _;have az:=ZA (Z:=W) (i:=Y+i) ⟨w.heap.size,0,bk,z⟩ bp;refine gU (λc hc=>by rw[hc]at h2;cases h2) ?_;unfold Oper.wp;rw[da,Xn,cm w,Xj,Xs,YL];refine⟨_,k,S,I,build _ _ _ k S I az ?_ V.v V.u (λj H A h3=>?_) am ⟨Sg.g V.gr.d az,λj A=>(Zv _ _ _<|by omega).trans<|V.gr.f j A,V.gr.g⟩ V.d (λj H n' A hn s=>?_) (λj H n' A hn s hI=>?_)
    (λj j' f1 f2 n1 n2 b1 b2 A aj ad ae ao ax ay ak al x1 x2=>?_)⟩
   rw[dh,cz];exact Nw.g cf _ _ _ _;rw[F6 ab,<-V.wr j H A h3];constructor;rintro (h|rfl);exact h;have:H=e:=Xk<|A.symm.trans he;subst this;rw[aa]at h3;omega;exact .inl
   .have G:j≠i:=by rintro rfl;exact s ((F6 ab).2<|.inr rfl)
    rw[Zv _ _ _<|by omega];exact V.p j H n' A hn<|λh=>s<|(F6 ab).2<|.inl h
   by_cases G:j=i;subst G;have:H=e:=Xk<|A.symm.trans he;subst this;have:n'=n:=Xk<|hn.symm.trans ai;subst this;exact⟨_,an⟩;rw[F6 ab]at s;let⟨b,hb⟩:=V.f j H n' A hn (s.resolve_right G) hI;exact⟨b,hb.r V.C bp _ _⟩
   ·
    have bj:∀(j:Nat) (f:Ent) (n':Nw) (b:Nat),l[j]? =some f->f.c=some n'->j≠i->lst (L.setIfInBounds i true) j->I.testBit j=false->
      Ext B (W.d (Y+i) ⟨w.heap.size,0,bk,z⟩) S (w.alloc ob) (Y+j) n' b->Ext B W S w (Y+j) n' b/\b<w.heap.size:=by
     intro j f n' b A hn G s hI hx;rw[F6 ab]at s;let⟨c,hc⟩:=V.f j f n' A hn (s.resolve_right G) hI;have cx:=hc;let⟨p,C,p1,p2,p5,_⟩:=hc;let⟨q,_,q1,q2,_⟩:=hx;have:=(az _ _ p1).symm.trans q1;have:p=q:=Xk this;have cu:b=c:=by rw[<-p2,<-q2,this]
     subst cu;exact⟨cx,(WY.1 p5).1⟩
    have cr:∀(n':Nw) (b:Nat),Ext B (W.d (Y+i) ⟨w.heap.size,0,bk,z⟩) S (w.alloc ob) (Y+i) n' b->b=w.heap.size:=by intro n' b hx;let⟨q,_,q1,q2,_⟩:=hx;rw[Zx]at q1;rw[<-q2,<-Xk q1]
    by_cases G:j=i;subst G;have dd:j'≠j:=Ne.symm ao;have:=(bj j' f2 n2 b2 aj ae dd ay al x2).2;rw[cr n1 b1 x1];omega;by_cases ac:j'=i;subst ac;have:=(bj j f1 n1 b1 A ad G ax ak x1).2;rw[cr n2 b2 x2];omega;have o1:=(bj j f1 n1 b1 A ad G ax ak x1).1;have o2:=(bj j' f2 n2 b2 aj ae ac ay al x2).1;rw[F6 ab]at ax ay;exact V.c j j' f1 f2 n1 n2 b1 b2 A aj ad ae ao (ax.resolve_right G) (ay.resolve_right ac) ak al o1 o2
  ·
   have h3:j7 o.op=3:=by have:=yS o.op;omega
   have av:j7 e.o.op=3:=by rw[aa];exact h3
   let⟨e1,e2,bi,bu⟩:=co h3;let⟨hx,bo⟩:=hs.q bb (by omega);rw[aa,e1,e2]at hx;rw[e2]at bo;let⟨T1,T2,T3⟩:=F.h V (i:=i) (by omega) (AC e.b I) (λj A hm=>by simp only[AC,WK,XI]at hm;exact⟨aq j hm.1,hm.2⟩);refine mF aw hx bh T1.max _ Q (λE u w' ah hv ba=>?_) r;rw[T2]at ah;have keep:∀(j:Nat) (f:Ent) (n:Nw),l[j]? =some f->f.c=some n->lst L j->I'.testBit j=false-> ∃b,Ext B W S w (Y+j) n b/\Ext B E S' w' (Y+j) n b:=by intro j f n A hn s hI;rw[bo,Nat.testBit_or,YW]at hI;let⟨b,hb⟩:=V.f j f n A hn s hI.1;exact⟨b,hb,(T3 j f n b A hn s hI.1 (λ_=>by simp[AC,hI.2]) hb).d ba ah.d⟩
   have ai:e.c=none:=hs.d (by omega);refine⟨E,i+1,S',I',build u E w' (i+1) S' I' ah.d hv bm (.inr ⟨e,by omega,he,av,hs.h.symm⟩) bu (T1.back ba) (Zz V.gr ah) (by have:=V.d;have:=ah.g;omega) (λj H n A hn s=>?_) (λj H n A hn s hI=>?_)
    (λj j' f1 f2 n1 n2 b1 b2 A aj ad ae ao am an ak al x1 x2=>?_)⟩
   have de:j<l.length:=(WM.1 A).1;rw[ah.f _ (by have:=V.d;have:=F.f;omega)];exact V.p j H n A hn<|λh=>s<|(F6 ab).2<|.inl h
   .have G:j≠i:=by rintro rfl;rw[Xk<|A.symm.trans he,ai]at hn;cases hn
    rw[F6 ab]at s;let⟨b,_,hb⟩:=keep j H n A hn (s.resolve_right G) hI;exact⟨b,hb⟩
   .have G:j≠i:=by rintro rfl;rw[Xk<|A.symm.trans he,ai]at ad;cases ad
    have ac:j'≠i:=by rintro rfl;rw[Xk<|aj.symm.trans he,ai]at ae;cases ae
    rw[F6 ab]at am an;let⟨c1,y1,z1⟩:=keep j f1 n1 A ad (am.resolve_right G) ak;let⟨c2,y2,z2⟩:=keep j' f2 n2 aj ae (an.resolve_right ac) al;have au:∀ {id:Nat} {n:Nw} {b c:Nat},Ext B E S' w' id n c->Ext B E S' w' id n b->b=c:=by intro id n b c hx hy;let⟨p,_,p1,p2,_⟩:=hx;let⟨q,_,q1,q2,_⟩:=hy;have:p=q:=Xk<|p1.symm.trans q1;rw[<-p2,<-q2,this]
    rw[au z1 x1,au z2 x2];rw[bo,Nat.testBit_or,YW]at ak al;exact V.c j j' f1 f2 n1 n2 c1 c2 A aj ad ae ao (am.resolve_right G) (an.resolve_right ac) ak.1 al.1 y1 y2
def Fix.z (h:L.size=X.size)(m:Region.ready .any X L=[]):∀j,j<X.size->lst L j:=by
 intro j;induction j using Nat.strongRecOn with
 |_ j i=>
  intro k;by_cases g:lst L j;grind
  .exfalso;have l:j∈Region.ready .any X L:=by refine mem_ready.2 ⟨?_,X[j],by grind,λa d b=>?_⟩;rw[lst] at g;grind;let⟨e,c,f⟩:=F.t (o:=X[j]) (j:=j) (by simp);have:=(F.p1 c).2 a (by grind) b;exact i a.on this (by omega)
   grind
def Fix.p (V:Inv B K P call O X Y l R U J M N T D L a w W k S I)(g:∀j,j<X.size->lst L j):Bu Y B K T O .normal U (Xe.takes Y (Bz N) l.reverse M) D .normal a w:=by
 let⟨z,i⟩:=V.v;have b:∀ {j:Nat} {e:Ent},l[j]? =some e->lst L j:=λh=>g _ (by have:=(WM.1 h).1;have:=F.f;omega);have f:=i.still (λe c=>by let⟨m,d⟩:=XY.1 c;rw[Xx]at d;intro x;have:=(V.wr _ e d x).1<|b d;omega);let⟨q,r,_⟩:=F.h V (Xh _) (Bz N) (λj p c=>by
  have:l[j]? =l[j]:=by grind
  refine⟨b this,?_⟩;rw[<-f.2];simpa [Bz]using c)
 rw[List.take_length]at q r;rw[<-f.1]at q r;refine⟨rfl,V.q,W,by rw[r,f.1];exact V.gr,⟨V.tsz,λt=>?_⟩,q⟩;by_cases v:∃(j:Nat) (e:Ent),l[j]? =some e/\e.o.dst=some t;let⟨j,e,p,n⟩:=v;rw[F.b.C p n<|λm A c u s=>(F.q c p u).1 t n s];exact V.tin j e t p (b p) n;rw[F.b.z (λe y n=>by let⟨m,c⟩:=XY.1 y;exact v ⟨m,e,c,n⟩)];exact V.z t (by grind)
omit F
def CH (L:Array Bool):Nat:=(L.toList.filter<|λb=> !b).length
def wZ :∀(l:List Bool) (i:Nat),l[i]? =some false->((l.set i true).filter<|λb=> !b).length+1=(l.filter<|λb=> !b).length
 | [],i,h=>by grind|b::l,0,h=>by grind|b::l,i+1,h=>by have:=wZ l i (by grind);grind
def GS (h:L.getD i true=false):CH (L.setIfInBounds i true)+1=CH L:=by have a:=(HJ h).1;rw[CH,Array.toList_setIfInBounds];refine wZ L.toList i ?_;simp_all
include F
def Fix.any (c:T8 P call)(r:Ai):∀(b:Nat) (L:Array Bool) (a:Act) (w:Bc) (W:Sg) (k:Nat) (S:Hp) (I:Nat),CH L=b->Inv B K P call O X Y l R U J M N T D L a w W k S I->wpAnyIn (RF r) 0 P .any X (Bu Y B K T O .normal U (Xe.takes Y (Bz N) l.reverse M) D) b L a w:=by
 intro b;induction b with
 |zero=>
  intro L a w W k S I f V;have d:Region.ready .any X L=[]:=by
   cases h:Region.ready .any X L with
   |nil=>rfl|cons i r=>
    have:i∈Region.ready .any X L:=by grind
    have:=GS (mem_ready.1 this).1;omega
  exact⟨d,F.p V<|F.z V.A d⟩
 |succ b m=>intro L a w W k S I f V;refine⟨λd=>F.p V<|F.z V.A d,λi e=>?_⟩;have g:=GS (mem_ready.1 e).1;refine wpOpIn_mono (λj n hV=>?_)<|F.C c V e _ r;grind
end
variable {P:Aw}
def NW {call:i9}(o:T8 P call){A:Nat}{c:Am}{y:Ao}{d:Hp}{z:Ao}{x:Hp}(h:kO P call A c.toList y d=(z,x)){B:BS}{C:Bc}{v:Sg}{a:Act}{w:Bc}(J:TR v A y a.tmps)(L:HR B C v d w)(r:Ai):wpAnyIn (RF r) 0 P .any c (Bu d.d B C v A .normal z x a.defers) c.size (Array.replicate c.size false) a {w with drawn:=w.drawn+1}:=by
 rw[kO] at h;cases u:stat c.toList (dK c.toList [])with
 |false=>rw[u]at h;cases h
 |true=>
  rw[u,Xa]at h;split at h
  .rename_i g E;cases p:dyn P ⟨d.m,d.d+c.toList.length⟩ g.b with
   |false=>rw[p]at h;cases h
   |true=>
    rw[p,Xa]at h;simp only[WJ,WL]at h;obtain⟨rfl,rfl⟩:=h;let⟨l,D,M,G⟩:=NY _ 0 y _ 0 [] g E rfl;rw[YD]at D;have F:Fix P call A c (dK c.toList []) d.d l y g.c ⟨d.m,d.d+c.toList.length⟩ g.S g.I:=⟨u,by rw[<-D];exact p,M,G⟩
    rw[D];have s:CH (Array.replicate c.size false)=c.size:=by simp[CH]
    refine F.any (B:=B) (K:=C) (T:=v) o r c.size _ a _ v 0 ⟨d.m,d.d+c.toList.length⟩ 0 s ?_;have f:∀j,¬lst (Array.replicate c.size false) j:=λj k=>by rw[lst] at k;by_cases q:j<c.size<;>simp[q]at k
    have U:HR B C v ⟨d.m,d.d+c.toList.length⟩ w.drew:=
     L.drew.sub (Nat.le_add_right _ _) λi b N=>N
    refine⟨by simp,λj e q k=>absurd k<|f j,rfl,J.f,λj e t q k=>absurd k<|f j,λt _=>J.g t,⟨y,by simpa using G⟩,.inl ⟨rfl,rfl⟩,λj e q _=>⟨λh=>absurd h<|f j,λh=>by omega⟩,
     U,⟨Sg.m v,λ_ _=>rfl,by simp⟩,by simp,λj e n q H _=>?_,λj e n q H k=>absurd k<|f j,λj X e W n Y b V q O H Q R k=>absurd k<|f j⟩
    exact L.A _ (by omega)
  cases h
def Se (b:P.follows .mixedOrders):nD P (kO P):=
 λ_ a _ _ _ _ _ _ _ h _ _ _ _ _ c d r=>wpIn_region_any b<|NW a h c d r
end Go.Xe
namespace Go.Xe
open Go.RowKit
def Vb (a:Am)(l:Ah):Prop:=
 ∀b i c,l=b++i::c-> ∃o,a[i]? =some o/\ ∀e∈o.after,Region.binds .any e->e.on∈b
structure wF (ops:Am)(l:Ah):Prop where
 b:l.Nodup
 d:∀i,i∈l↔i<ops.size
 c:Vb ops l
def qS (a:Am)(x y:Nat)(g:Ground):Am:=a.modify y λo=> {o with after:=o.after.push ⟨x,g⟩}
variable {Z:Am}{x y:Nat}{g:Ground}
def Fs {i:Nat}:(qS Z x y g)[i]? =if y=i then(Z[i]?).map λo=> {o with after:=o.after.push ⟨x,g⟩}else Z[i]? :=by rw[qS];grind
def wF.h {b j:Ah}(h:wF Z (b++y::j))(z:x∈b):wF (qS Z x y g) (b++y::j):=by
 refine⟨h.b,λi=>by rw[h.d i];simp[qS],λd i t f=>?_⟩;let⟨o,q,w⟩:=h.c d i t f;rw[Fs];by_cases p:y=i
 .subst p;rw[Xg rfl,q];refine⟨_,rfl,λe a v=>?_⟩;obtain a|rfl:=Array.mem_push.1 a;grind
  .have r:y∉b:=λn=>by have:=h.b;grind
   have s:y∉d:=λn=>by have:=h.b;grind
   have u:b=d:=by
    obtain⟨c,l,m⟩| ⟨c,l,m⟩:=List.append_eq_append_iff.1 f
    .cases c with
     |nil=>grind|cons k c=>grind
    .cases c with
     |nil=>grind|cons k c=>grind
   grind
 grind
def wF.f {l:Ah}(h:wF Z l)(g:x<Z.size)(i:y<Z.size)(f:x≠y):(∃a d,l=a++y::d/\x∈a)\/(∃a d,l=a++x::d/\y∈a):=by let⟨a,d,e⟩:=List.append_of_mem<|(h.d y).2 i;have c:=(h.d x).2 g;rw[e]at c;obtain b|b:=Xv.1 c;grind;obtain b|b:=Xw.1 b;grind;let⟨m1,k,j⟩:=List.append_of_mem b;grind
structure Alike (Z ops':Am)(ρ:Nat->Nat):Prop where
 c:∀(i:Nat) o,Z[i]? =some o-> ∃o',ops'[ρ i]? =some o'/\o'.op=o.op/\o'.dst=o.dst/\o'.type=o.type/\o'.guard=o.guard.map (λg=>(ρ g.1,g.2))
 b:∀tmps (i:Nat) o g,Z[i]? =some o->o.guard=some g->yielded ops' tmps (ρ g.1)=yielded Z tmps g.1
section
variable {P :Aw}{B:BS}{w0:Bc}
end
section
variable {P :Aw}{call:i9}{nt nx0:Nat}
end
section
variable {P :Aw}{call:i9}{nt nx0:Nat}
end
def z4 (P:Aw):dL:=λcall b all c a=>kO P call b all c a
variable {P:Aw}
def NV (e:P.follows .mixedOrders):nD P (z4 P):=λcall b k Z j l f d c h B m n a w g i r=>by exact Se e call b k Z j l f d c h B m n a w g i r
def E7 (P:Aw)(a:Aa)(n:Nat):i9:=eH P (z4 P) a n
def Lj (c:P.follows .mixedOrders){b:Aa}(a:∀g t,b g=some t->nE P g t)(n:Nat):T8 P (E7 P b n):=Gd (NV c) a n
end Go.Xe
namespace Go.Xe
open Go.RowKit
def yes (r:Bb (Av×Hp)):Bool:=
 match r with
 |some (.bool b,_)=>b|_=>false
def Hp.b :Hp:=⟨.e,0⟩
def Sg.b :Sg:=⟨λ_ _=>Option.none⟩
def HR.start (w:Bc):HR (BS.d w) w Sg.b Hp.b w:=
 ⟨rfl,rfl,rfl,Xh _,λ_ (h:_<_)=>h,λ_ _=>rfl,λ_ _ _=>rfl,λi b r h=>by simp[Hp.b,ZC]at h,λi j b a r s p q h=>by simp[Hp.b,ZC]at h,λi b h=>by simp[Hp.b,ZC]at h⟩
def HR.c {c:Sg}{b:Hp}{w a:Bc}(h:HR (BS.d w) w c b a):Below w.heap.size w a:=
 ⟨h.R,h.l,h.d,h.g,h.h⟩
def noOv :Aa:=λ_=>none
variable {P:Aw}
def Tf :∀g t,noOv g=some t->nE P g t:=λ_ _ h=>by cases h
def DH (P:Aw)(g:Ay):Func:=(P.funcs[g]?).getD {name:= "",origin:= "",params:= #[],resultTypes:= #[],nfree:=0,ntmps:=0,results:= #[],body:=none,norace:=false,tmpNames:= #[]}
variable {g:Ay}
def nE.b {t:Ax}(r:Ax)(f:(P.funcs[g]?).isSome)(a:((DH P g).name== "runtime.NumGoroutine")=false)(b:(DH P g).body.isNone)(c:Extern.findNext (DH P g)=none)(d:Extern.find (DH P g)=(Extern.SlicesOverlaps.overlaps #[t,t] #[r]))(e:t≠nA:=by decide):nE P g t:=by refine .inr ⟨e,DH P g,r,?_,a,b,c,d⟩;rw[DH];grind
def Em (a:Ay)(t0:Ax)(rest:Aa):Aa:=λg=>bif Nat.beq g a then some t0 else rest g
def Tj {a:Ay}{t0:Ax}{rest:Aa}(h:nE P a t0)(d:∀g t,rest g=some t->nE P g t):∀g t,Em a t0 rest g=some t->nE P g t:=by
 intro g t b;rw[Em] at b;cases c:Nat.beq g a with
 |true=>simp_all|false=>grind
def Tk (h:Is P g):nE P g nA:= .inl ⟨rfl,h⟩
end Go.Xe
namespace Go.Xe
open Go.RowKit
section
open Go.ChangeShapes
variable {H :Type}{enc:Ax×Av->H}{P:Aw}{w:Bc}{base:Nat}{spare:Nat->Bool}{held:Bool}
