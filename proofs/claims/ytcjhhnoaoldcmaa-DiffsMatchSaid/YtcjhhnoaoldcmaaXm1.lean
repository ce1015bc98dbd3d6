/- The executor, parts 1, 2, 3, 4, 5, 6, 7.
  Conditions: none. -/
import Derived.WalkKit
import Derived.Orders
import Derived.Laws.StructEq
import Derived.WalkSpells
set_option linter.unusedSimpArgs false
set_option linter.unusedVariables false
noncomputable section PartXm1
namespace Go.Xe
theorem bF4:type_of% @Option.some.injEq:=@Option.some.injEq
theorem bF5:type_of% @Bool.and_eq_true:=@Bool.and_eq_true
theorem bF6:type_of% @Prod.mk.injEq:=@Prod.mk.injEq
theorem bF7:type_of% @List.getElem?_eq_some_iff:=@List.getElem?_eq_some_iff
theorem bF8:type_of% @Nat.le_of_ble_eq_true:=@Nat.le_of_ble_eq_true
theorem bF9:type_of% @Nat.eq_of_beq_eq_true:=@Nat.eq_of_beq_eq_true
theorem bG0:type_of% @List.eq_nil_of_length_eq_zero:=@List.eq_nil_of_length_eq_zero
theorem bG1:type_of% @Nat.ble_eq_true_of_le:=@Nat.ble_eq_true_of_le
theorem bG2:type_of% @List.getElem?_append_right:=@List.getElem?_append_right
theorem bG3:type_of% @List.getElem?_append_left:=@List.getElem?_append_left
theorem bG4:type_of% @List.mem_of_getElem?:=@List.mem_of_getElem?
theorem bG5:type_of% @List.getElem?_cons_succ:=@List.getElem?_cons_succ
theorem bG6:type_of% @List.getElem?_eq_getElem:=@List.getElem?_eq_getElem
theorem bG7:type_of% @Nat.mul_le_mul_right:=@Nat.mul_le_mul_right
theorem bG8:type_of% @List.append_assoc:=@List.append_assoc
theorem bG9:type_of% @Array.getElem?_eq_some_iff:=@Array.getElem?_eq_some_iff
theorem bH0:type_of% @List.getElem?_cons_zero:=@List.getElem?_cons_zero
theorem bH1:type_of% @cond_true:=@cond_true
theorem bH2:type_of% @cond_false:=@cond_false
theorem bH3:type_of% @List.length_map:=@List.length_map
theorem bH4:type_of% @if_neg:=@if_neg
theorem bH5:type_of% @decide_eq_true_eq:=@decide_eq_true_eq
theorem bH6:type_of% @if_pos:=@if_pos
theorem bH7:type_of% @Nat.le_refl:=@Nat.le_refl
theorem bH8:type_of% @run_underlying:=@run_underlying
theorem bH9:type_of% @Result.andThen_ok:=@Result.andThen_ok
theorem bI0:type_of% @Option.some.inj:=@Option.some.inj
theorem bI1:type_of% @List.length_append:=@List.length_append
theorem bI2:type_of% @And.intro:=@And.intro
theorem bI3:type_of% @Sem.run_bind:=@Sem.run_bind
theorem bI4:type_of% @List.all_eq_true:=@List.all_eq_true
theorem bI5:type_of% @List.getD_eq_getElem?_getD:=@List.getD_eq_getElem?_getD
theorem bI6:type_of% @Nat.zero_add:=@Nat.zero_add
theorem bI7:type_of% @List.getElem?_take:=@List.getElem?_take
theorem bI8:type_of% @Sem.run_pure:=@Sem.run_pure
theorem bI9:type_of% @List.length_take:=@List.length_take
theorem bJ0:type_of% @Nat.add_mul:=@Nat.add_mul
theorem bJ1:type_of% @List.mem_append:=@List.mem_append
theorem bJ2:type_of% @List.mem_cons:=@List.mem_cons
theorem bJ3:type_of% @List.getElem?_drop:=@List.getElem?_drop
theorem bJ4:type_of% @Nat.beq_eq:=@Nat.beq_eq
theorem bJ5:type_of% @Int.toNat_natCast:=@Int.toNat_natCast
theorem bJ6:type_of% @Option.getD_some:=@Option.getD_some
theorem bJ7:type_of% @List.length_cons:=@List.length_cons
theorem bJ8:type_of% @true_implies:=@true_implies
theorem bJ9:type_of% @Option.map_some:=@Option.map_some
theorem bK0:type_of% @Bool.not_eq_true':=@Bool.not_eq_true'
theorem bK1:type_of% @List.map_append:=@List.map_append
theorem bK2:type_of% @decide_eq_false_iff_not:=@decide_eq_false_iff_not
theorem bK3:type_of% @List.take_of_length_le:=@List.take_of_length_le
theorem bK4:type_of% @List.getElem?_map:=@List.getElem?_map
theorem bK5:type_of% @List.map_cons:=@List.map_cons
theorem bK6:type_of% @List.length_drop:=@List.length_drop
theorem bK7:type_of% @Nat.lt_of_lt_of_le:=@Nat.lt_of_lt_of_le
theorem bK8:type_of% @Nat.ble_eq:=@Nat.ble_eq
theorem bK9:type_of% @List.mem_iff_getElem?:=@List.mem_iff_getElem?
theorem bL0:type_of% @not_false_eq_true:=@not_false_eq_true
theorem bL1:type_of% @decide_true:=@decide_true
theorem bL2:type_of% @Nat.le_trans:=@Nat.le_trans
theorem bL3:type_of% @List.mem_cons_of_mem:=@List.mem_cons_of_mem
theorem bL4:type_of% @Nat.add_assoc:=@Nat.add_assoc
theorem bL5:type_of% @Nat.lt_succ_self:=@Nat.lt_succ_self
theorem bL6:type_of% @List.cons_append:=@List.cons_append
theorem bL7:type_of% @implies_true:=@implies_true
theorem bL8:type_of% @Int.le_refl:=@Int.le_refl
theorem bL9:type_of% @List.mem_singleton:=@List.mem_singleton
theorem bM0:type_of% @Nat.add_zero:=@Nat.add_zero
theorem bM1:type_of% @Nat.succ_mul:=@Nat.succ_mul
theorem bM2:type_of% @true_and:=@true_and
theorem bM3:type_of% @List.cons.injEq:=@List.cons.injEq
theorem bM4:type_of% @Nat.le_max_right:=@Nat.le_max_right
theorem bM5:type_of% @List.drop_of_length_le:=@List.drop_of_length_le
theorem bM6:type_of% @Bool.false_eq_true:=@Bool.false_eq_true
theorem bM7:type_of% @and_true:=@and_true
theorem bM8:type_of% @Nat.add_sub_cancel_left:=@Nat.add_sub_cancel_left
theorem bM9:type_of% @Nat.le_succ:=@Nat.le_succ
theorem bN0:type_of% @decide_eq_false:=@decide_eq_false
theorem bN1:type_of% @Bool.or_eq_true:=@Bool.or_eq_true
theorem bN2:type_of% @Nat.le_of_not_lt:=@Nat.le_of_not_lt
theorem bN3:type_of% @of_decide_eq_true:=@of_decide_eq_true
theorem bN4:type_of% @Int.lt_irrefl:=@Int.lt_irrefl
theorem bN5:type_of% @Array.ext':=@Array.ext'
theorem bN6:type_of% @Nat.sub_zero:=@Nat.sub_zero
theorem bN7:type_of% @List.mem_map:=@List.mem_map
theorem bN8:type_of% @Option.map_eq_some_iff:=@Option.map_eq_some_iff
theorem bN9:type_of% @List.mem_append_right:=@List.mem_append_right
theorem bO0:type_of% @List.mem_of_mem_take:=@List.mem_of_mem_take
theorem bO1:type_of% @List.mem_of_mem_drop:=@List.mem_of_mem_drop
theorem bO2:type_of% @Bool.and_true:=@Bool.and_true
theorem bO3:type_of% @Nat.zero_mul:=@Nat.zero_mul
theorem bO4:type_of% @List.append_nil:=@List.append_nil
theorem bO5:type_of% @if_false:=@if_false
theorem bO6:type_of% @if_true:=@if_true
theorem bO7:type_of% @Addr.add_lit:=@Addr.add_lit
theorem bO8:type_of% @List.take_append_drop:=@List.take_append_drop
theorem bO9:type_of% @Array.getElem?_modify:=@Array.getElem?_modify
theorem bP0:type_of% @Nat.zero_le:=@Nat.zero_le
theorem bP1:type_of% @List.drop_zero:=@List.drop_zero
theorem bP2:type_of% @List.mem_append_left:=@List.mem_append_left
theorem bP3:type_of% @forall_eq':=@forall_eq'
theorem bP4:type_of% @Oper.upon_value:=@Oper.upon_value
theorem bP5:type_of% @Nat.max_eq_left:=@Nat.max_eq_left
theorem bP6:type_of% @Array.getElem?_setIfInBounds_ne:=@Array.getElem?_setIfInBounds_ne
theorem bP7:type_of% @run_program:=@run_program
theorem bP8:type_of% @ByteArray.toList_eq:=@ByteArray.toList_eq
theorem bP9:type_of% @Nat.mod_eq_of_lt:=@Nat.mod_eq_of_lt
theorem bQ0:type_of% @List.getElem_mem:=@List.getElem_mem
theorem bQ1:type_of% @Int.toNat_zero:=@Int.toNat_zero
theorem bQ2:type_of% @Array.getElem?_eq_none:=@Array.getElem?_eq_none
theorem bQ3:type_of% @wpIn_mono:=@wpIn_mono
theorem bQ4:type_of% @Nat.sub_self:=@Nat.sub_self
theorem bQ5:type_of% @List.length_nil:=@List.length_nil
theorem bQ6:type_of% @List.getElem?_eq_none:=@List.getElem?_eq_none
theorem bQ7:type_of% @Bool.true_and:=@Bool.true_and
theorem bQ8:type_of% @List.getElem?_set:=@List.getElem?_set
theorem bQ9:type_of% @List.getElem?_of_mem:=@List.getElem?_of_mem
theorem bR0:type_of% @Bool.or_eq_false_iff:=@Bool.or_eq_false_iff
open Go.RowKit
inductive T (α:Type) where
 |e:T α
 |n (v:Option α) (a b c d:T α):T α
inductive K where
 |z:K
 |a (k:K):K
 |b (k:K):K
 |c (k:K):K
 |d (k:K):K
def K.pick (p:K)(r:Nat):K:=Nat.rec (motive:=fun _=>K) (.a p) (fun r _=>Nat.rec (motive:=fun _=>K) (.b p) (fun r _=>Nat.rec (motive:=fun _=>K) (.c p) (fun _ _=>.d p) r) r) r
def K.ofF (f:Nat):Nat->K:=
 Nat.rec (motive:=fun _=>Nat->K) (fun _=>.z) (fun _ ih k=>Nat.rec (motive:=fun _=>K) .z (fun m _=>K.pick (ih (Nat.div m 4)) (Nat.mod m 4)) k) f
def K.of (k:Nat):K:=K.ofF (k+1) k
def T.force {α β:Type}(t:T α)(f:T α->β):β:=T.rec (motive:=fun _=>β) (f .e) (fun v a b c d _ _ _ _=>f (.n v a b c d)) t
theorem T.force_eq {α β:Type}(t:T α)(f:T α->β):t.force f=f t:=by cases t<;>rfl
def T.top {α:Type}(t:T α):Option α:=T.rec (motive:=fun _=>Option α) none (fun v _ _ _ _ _ _ _ _=>v) t
def T.ta {α:Type}(t:T α):T α:=T.rec (motive:=fun _=>T α) .e (fun _ a _ _ _ _ _ _ _=>a) t
def T.tb {α:Type}(t:T α):T α:=T.rec (motive:=fun _=>T α) .e (fun _ _ b _ _ _ _ _ _=>b) t
def T.tc {α:Type}(t:T α):T α:=T.rec (motive:=fun _=>T α) .e (fun _ _ _ c _ _ _ _ _=>c) t
def T.td {α:Type}(t:T α):T α:=T.rec (motive:=fun _=>T α) .e (fun _ _ _ _ d _ _ _ _=>d) t
def T.getK {α:Type}(p:K):T α->Option α:=
 K.rec (motive:=fun _=>T α->Option α) (fun t=>t.top) (fun _ ih t=>ih t.ta) (fun _ ih t=>ih t.tb) (fun _ ih t=>ih t.tc) (fun _ ih t=>ih t.td) p
def T.get {α:Type}(t:T α)(k:Nat):Option α:=T.getK (K.of k) t
def T.putz {α:Type}(x:Option α)(t:T α):T α:=T.rec (motive:=fun _=>T α) (.n x .e .e .e .e) (fun _ a b c d _ _ _ _=>.n x a b c d) t
def T.puta {α:Type}(ih:Option α->T α->T α)(x:Option α)(t:T α):T α:=
 T.rec (motive:=fun _=>T α) ((ih x .e).force fun s=>.n none s .e .e .e) (fun v a b c d _ _ _ _=>(ih x a).force fun s=>.n v s b c d) t
def T.putb {α:Type}(ih:Option α->T α->T α)(x:Option α)(t:T α):T α:=
 T.rec (motive:=fun _=>T α) ((ih x .e).force fun s=>.n none .e s .e .e) (fun v a b c d _ _ _ _=>(ih x b).force fun s=>.n v a s c d) t
def T.putc {α:Type}(ih:Option α->T α->T α)(x:Option α)(t:T α):T α:=
 T.rec (motive:=fun _=>T α) ((ih x .e).force fun s=>.n none .e .e s .e) (fun v a b c d _ _ _ _=>(ih x c).force fun s=>.n v a b s d) t
def T.putd {α:Type}(ih:Option α->T α->T α)(x:Option α)(t:T α):T α:=
 T.rec (motive:=fun _=>T α) ((ih x .e).force fun s=>.n none .e .e .e s) (fun v a b c d _ _ _ _=>(ih x d).force fun s=>.n v a b c s) t
def T.setK {α:Type}(p:K):Option α->T α->T α:=
 K.rec (motive:=fun _=>Option α->T α->T α) T.putz (fun _ ih=>T.puta ih) (fun _ ih=>T.putb ih) (fun _ ih=>T.putc ih) (fun _ ih=>T.putd ih) p
def T.set {α:Type}(t:T α)(k:Nat)(x:Option α):T α:=T.setK (K.of k) x t
theorem u6 {a b:Nat}(h:a≠b):Nat.beq a b=false:=by
 cases e:Nat.beq a b
 ·rfl
 ·exact absurd (bF9 e) h
theorem j9 {a b:Nat}(h:a=b):Nat.beq a b=true:=by
 subst h;exact Nat.beq_refl _
theorem T.getK_e {α:Type}:∀p:K,T.getK p (.e:T α)=none
 | .z=>rfl
 | .a p=>T.getK_e p
 | .b p=>T.getK_e p
 | .c p=>T.getK_e p
 | .d p=>T.getK_e p
theorem T.get_e {α:Type}(k:Nat):(T.e:T α).get k=none:=T.getK_e _
theorem T.getK_setK {α:Type}(x:Option α):∀(p:K) (t:T α) (q:K),(p=q->T.getK q (T.setK p x t)=x)/\(p≠q->T.getK q (T.setK p x t)=T.getK q t):=by
 intro p
 induction p with
 |z=>
  intro t q;refine⟨fun h=>by subst h;cases t<;>rfl,fun h=>?_⟩
  cases q with
  |z=>exact absurd rfl h
  |_=>cases t<;>rfl
 |a p ih=>
  intro t q;have e:T.setK (.a p) x t=T.n t.top (T.setK p x t.ta) t.tb t.tc t.td:=by
   cases t with
   |e=>exact T.force_eq (T.setK p x .e) (fun s=>T.n none s .e .e .e)
   |n v a b c d=>exact T.force_eq (T.setK p x a) (fun s=>T.n v s b c d)
  rw[e];cases q with
  |a q=>exact⟨fun h=>(ih t.ta q).1 (by injection h),fun h=>(ih t.ta q).2 (fun h'=>h (by rw[h']))⟩
  |_=>exact⟨fun h=>(by cases h),fun _=>by cases t<;>rfl⟩
 |b p ih=>
  intro t q;have e:T.setK (.b p) x t=T.n t.top t.ta (T.setK p x t.tb) t.tc t.td:=by
   cases t with
   |e=>exact T.force_eq (T.setK p x .e) (fun s=>T.n none .e s .e .e)
   |n v a b c d=>exact T.force_eq (T.setK p x b) (fun s=>T.n v a s c d)
  rw[e];cases q with
  |b q=>exact⟨fun h=>(ih t.tb q).1 (by injection h),fun h=>(ih t.tb q).2 (fun h'=>h (by rw[h']))⟩
  |_=>exact⟨fun h=>(by cases h),fun _=>by cases t<;>rfl⟩
 |c p ih=>
  intro t q;have e:T.setK (.c p) x t=T.n t.top t.ta t.tb (T.setK p x t.tc) t.td:=by
   cases t with
   |e=>exact T.force_eq (T.setK p x .e) (fun s=>T.n none .e .e s .e)
   |n v a b c d=>exact T.force_eq (T.setK p x c) (fun s=>T.n v a b s d)
  rw[e];cases q with
  |c q=>exact⟨fun h=>(ih t.tc q).1 (by injection h),fun h=>(ih t.tc q).2 (fun h'=>h (by rw[h']))⟩
  |_=>exact⟨fun h=>(by cases h),fun _=>by cases t<;>rfl⟩
 |d p ih=>
  intro t q;have e:T.setK (.d p) x t=T.n t.top t.ta t.tb t.tc (T.setK p x t.td):=by
   cases t with
   |e=>exact T.force_eq (T.setK p x .e) (fun s=>T.n none .e .e .e s)
   |n v a b c d=>exact T.force_eq (T.setK p x d) (fun s=>T.n v a b c s)
  rw[e];cases q with
  |d q=>exact⟨fun h=>(ih t.td q).1 (by injection h),fun h=>(ih t.td q).2 (fun h'=>h (by rw[h']))⟩
  |_=>exact⟨fun h=>(by cases h),fun _=>by cases t<;>rfl⟩
theorem K.pick_eq (p:K)(r:Nat):K.pick p r=if r=0 then .a p else if r=1 then .b p else if r=2 then .c p else .d p:=by
 match r with
 |0=>rfl
 |1=>rfl
 |2=>rfl
 |r+3=>rw[bH4 (by omega),bH4 (by omega),bH4 (by omega)];rfl
theorem K.pick_inj {p q:K}{r s:Nat}(hr:r<4)(hs:s<4)(h:K.pick p r=K.pick q s):p=q/\r=s:=by
 rw[K.pick_eq,K.pick_eq]at h;split at h<;>split at h<;>first
  | (injection h with h1;exact⟨h1,by omega⟩)
  | (cases h;done)
  | (split at h<;>first| (injection h with h1;exact⟨h1,by omega⟩)| (cases h;done)| (split at h<;>first| (injection h with h1;exact⟨h1,by omega⟩)| (cases h;done)| (split at h<;>first| (injection h with h1;exact⟨h1,by omega⟩)| (cases h;done)| (split at h<;>first| (injection h with h1;exact⟨h1,by omega⟩)| (cases h;done)))))
theorem K.ofF_inj :∀(f g j k:Nat),j<f->k<g->K.ofF f j=K.ofF g k->j=k:=by
 intro f
 induction f with
 |zero=>intro g j k h;omega
 |succ f ih=>
  intro g j k hj hk h;cases g with
  |zero=>omega
  |succ g=>
   have pz:∀(p:K) (r:Nat),K.pick p r≠ .z:=by
    intro p r;rw[K.pick_eq]
    repeat' split
    all_goals (intro h;cases h)
   cases j with
   |zero=>
    cases k with
    |zero=>rfl
    |succ k=>exact absurd h.symm (pz _ _)
   |succ j=>
    cases k with
    |zero=>exact absurd h (pz _ _)
    |succ k=>
     have h':K.pick (K.ofF f (j/4)) (j % 4)=K.pick (K.ofF g (k/4)) (k % 4):=h;obtain⟨h1,h2⟩:=K.pick_inj (Nat.mod_lt _ (by omega)) (Nat.mod_lt _ (by omega)) h'
     have:=ih g (j/4) (k/4) (by omega) (by omega) h1
     omega
theorem T.get_set {α:Type}(t:T α)(k:Nat)(x:Option α)(j:Nat):(t.set k x).get j=if j=k then x else t.get j:=by
 obtain⟨h1,h2⟩:=T.getK_setK x (K.of k) t (K.of j)
 by_cases h:j=k
 ·subst h;rw[bH6 rfl];exact h1 rfl
 ·rw[bH4 h];exact h2 (fun e=>h (K.ofF_inj _ _ _ _ (by omega) (by omega) e).symm)
end Go.Xe
end PartXm1
noncomputable section PartXm2
namespace Go.Xe
open Go.RowKit
structure Pl where
 blk:Nat
 dl:Nat
 siz:Nat
 esz:Nat
structure Sg where
 f:Nat->Nat->Option Pl
abbrev Sg.z (σ:Sg)(i:Nat):Option Pl:=σ.f i 0
instance : CoeFun Sg (fun _=>Nat->Option Pl):=⟨Sg.z⟩
def Sg.le (σ σ':Sg):Prop:=∀(i:Nat) (p:Pl) {r:Nat},σ.f i r=some p->σ'.f i r=some p
theorem Sg.le_refl (σ:Sg):Sg.le σ σ:=fun _ _ {_} h=>h
theorem Sg.le_trans {a b c:Sg}(h:Sg.le a b)(k:Sg.le b c):Sg.le a c:=fun i p {_} e=>k i p (h i p e)
structure Sg.gr (n n':Nat)(σ σ':Sg):Prop where
 le:Sg.le σ σ'
 low:∀i,i<n->σ' i=σ i
 nx:n<=n'
theorem Sg.gr_refl (n:Nat)(σ:Sg):Sg.gr n n σ σ:=⟨Sg.le_refl σ,fun _ _=>rfl,bH7 n⟩
theorem Sg.gr_trans {n n1 n2:Nat}{a b c:Sg}(h:Sg.gr n n1 a b)(k:Sg.gr n1 n2 b c):Sg.gr n n2 a c:=
 ⟨Sg.le_trans h.le k.le,fun i hi=>(k.low i (by have:=h.nx;omega)).trans (h.low i hi),bL2 h.nx k.nx⟩
def unk :Nat:=9223372036854775808
def I4 (c:Nat):Nat:=c/unk-1
def B5 (c:Nat):Nat:=c % unk
def d8 (lo hi:Nat):Nat:=unk*(lo+1)+hi
theorem F6 {lo hi:Nat}(h:hi<unk):I4 (d8 lo hi)=lo:=by unfold I4 d8;unfold unk at*;omega
theorem E2 {lo hi:Nat}(h:hi<unk):B5 (d8 lo hi)=hi:=by unfold B5 d8;unfold unk at*;omega
theorem n9 (lo hi:Nat):unk<=d8 lo hi:=by unfold d8 unk;omega
theorem bF1 :I4 unk=0:=by decide
theorem bF0 :B5 unk=0:=by decide
theorem C9 :0<unk:=by decide
def aQ7 :FloatKind->Nat->IntKind
 | .f32,0=>.u32
 | .f32,1=>.u64
 | .f32,_=>.u8
 | .f64,_=>.i64
def Q0 (f:FloatKind)(lo:Nat):IntKind:=aQ7 f (lo/18446744073709551616)
def Y1 (lo:Nat):Nat:=lo % 18446744073709551616
theorem aK5 (lo:Nat):Y1 lo<=lo:=Nat.mod_le _ _
inductive VR (σ : Sg) : Value → Value → Prop
 |bool (b:Bool):VR σ (.bool b) (.bool b)
 |int (k:IntKind) (n:Int):VR σ (.int k n) (.int k n)
 |float (k:FloatKind) (n:Nat):VR σ (.float k n) (.float k n)
 |ival (f:FloatKind) (lo hi n:Nat) (h1:Y1 lo<=n) (h2:hi=0\/n<hi):VR σ (.complex f lo hi) (.int (Q0 f lo) n)
 |string (s:ByteArray):VR σ (.string s) (.string s)
 |nilp:VR σ (.pointer none) (.pointer none)
 |ptr (i o:Nat) (p:Pl) (h:σ i=some p):VR σ (.pointer (some ⟨i,o,none⟩)) (.pointer (some ⟨p.blk,p.dl+o,none⟩))
 |rptr (k o:Nat) (p:Pl) (h:σ.f 0 (k+1)=some p):VR σ (.pointer (some ⟨k,o,some 1⟩)) (.pointer (some ⟨p.blk,o,none⟩))
 |nils (l c:Nat):VR σ (.slice none l c) (.slice none l c)
 | slice (i o : Nat) (p : Pl) (l c c' : Nat) (h : σ i = some p) (hc : (c = c' ∧ c < unk) ∨ (unk ≤ c ∧ I4 c ≤ c' ∧ (B5 c = 0 ∨ c' < B5 c) ∧ p.dl + o + c' * p.esz ≤ p.siz)) (hl : l ≤ c') :
   VR σ (.slice (some ⟨i,o,none⟩) l c) (.slice (some ⟨p.blk,p.dl+o,none⟩) l c')
 |vague (q:Addr) (c':Nat):VR σ (.slice (some ⟨0,0,some 0⟩) 0 unk) (.slice (some q) 0 c')
 |nilm:VR σ (.map none) (.map none)
 |map (i:Nat) (p:Pl) (h:σ i=some p):VR σ (.map (some i)) (.map (some p.blk))
 | func (fn : Fn) (xs ys cs ds : Array Value) (h1 : xs.size = ys.size) (h2 : ∀ (i : Nat) x y, xs[i]? = some x → ys[i]? = some y → VR σ x y)
   (h3:cs.size=ds.size) (h4:∀(i:Nat) x y,cs[i]? =some x->ds[i]? =some y->VR σ x y):VR σ (.func fn xs cs) (.func fn ys ds)
 |nilf:VR σ .nilFunc .nilFunc
 |yield (i:Nat) (p:Pl) (h:σ i=some p):VR σ (.chan (some i)) (.func (.yield p.blk) #[] #[])
 |iface (t:TypeId) (v u:Value) (h:VR σ v u):VR σ (.iface t v) (.iface t u)
 |nili:VR σ .nilIface .nilIface
 |agg (xs ys:Array Value) (h1:xs.size=ys.size) (h2:∀(i:Nat) x y,xs[i]? =some x->ys[i]? =some y->VR σ x y):VR σ (.agg xs) (.agg ys)
 |tuple (xs ys:Array Value) (h1:xs.size=ys.size) (h2:∀(i:Nat) x y,xs[i]? =some x->ys[i]? =some y->VR σ x y):VR σ (.tuple xs) (.tuple ys)
theorem VR.mono {σ σ':Sg}(hs:Sg.le σ σ'){a b:Value}(h:VR σ a b):VR σ' a b:=by
 induction h with
 |bool b=>exact .bool b
 |int k n=>exact .int k n
 |float k n=>exact .float k n
 |ival f lo hi n h1 h2=>exact .ival f lo hi n h1 h2
 |string s=>exact .string s
 |nilp=>exact .nilp
 |ptr i o p h=>exact .ptr i o p (hs _ _ h)
 |rptr k o p h=>exact .rptr k o p (hs _ _ h)
 |nils l c=>exact .nils l c
 |slice i o p l c c' h hc hl=>exact .slice i o p l c c' (hs _ _ h) hc hl
 |vague q c'=>exact .vague q c'
 |nilm=>exact .nilm
 |map i p h=>exact .map i p (hs _ _ h)
 |func fn xs ys cs ds h1 _ h3 _ ih1 ih2=>exact .func fn xs ys cs ds h1 ih1 h3 ih2
 |nilf=>exact .nilf
 |yield i p h=>exact .yield i p (hs _ _ h)
 |iface t v u _ ih=>exact .iface t v u ih
 |nili=>exact .nili
 |agg xs ys h1 _ ih=>exact .agg xs ys h1 ih
 |tuple xs ys h1 _ ih=>exact .tuple xs ys h1 ih
theorem VR.undef (σ:Sg):VR σ undef undef:= .tuple _ _ rfl (fun i x y h _=>by simp at h)
def VRL (σ:Sg)(xs ys:List Value):Prop:=xs.length=ys.length/\ ∀(i:Nat) x y,xs[i]? =some x->ys[i]? =some y->VR σ x y
theorem VRL.nil (σ:Sg):VRL σ [] []:=⟨rfl,fun i x y h _=>by simp at h⟩
theorem VRL.cons {σ:Sg}{x y:Value}{xs ys:List Value}(h:VR σ x y)(hs:VRL σ xs ys):VRL σ (x::xs) (y::ys):=by
 refine⟨by simp[hs.1],fun i a b ha hb=>?_⟩
 cases i with
 |zero=>grind
 |succ i=>simp at ha hb;exact hs.2 i a b ha hb
theorem VRL.uncons {σ:Sg}{x:Value}{xs ys:List Value}(h:VRL σ (x::xs) ys):∃y ys',ys=y::ys'/\VR σ x y/\VRL σ xs ys':=by
 cases ys with
 |nil=>exact absurd h.1 (by simp)
 |cons y ys=>exact⟨y,ys,rfl,h.2 0 x y rfl rfl,by have:=h.1;simpa using this,fun i a b ha hb=>h.2 (i+1) a b (by simpa using ha) (by simpa using hb)⟩
theorem VRL.unnil {σ:Sg}{ys:List Value}(h:VRL σ [] ys):ys=[]:=bG0 h.1.symm
theorem VRL.mono {σ σ':Sg}(hs:Sg.le σ σ'){a b:List Value}(h:VRL σ a b):VRL σ' a b:=⟨h.1,fun i x y hx hy=>(h.2 i x y hx hy).mono hs⟩
theorem VRL.append {σ:Sg}{a b c d:List Value}(h:VRL σ a b)(k:VRL σ c d):VRL σ (a++c) (b++d):=by
 induction a generalizing b with
 |nil=>rw[h.unnil];exact k
 |cons x a ih=>obtain⟨y,b',rfl,h1,h2⟩:=h.uncons;exact VRL.cons h1 (ih h2)
theorem VRL.get {σ:Sg}{a b:List Value}(h:VRL σ a b){i:Nat}{x:Value}(hx:a[i]? =some x):∃y,b[i]? =some y/\VR σ x y:=by
 have hi:i<a.length:=(bF7.1 hx).1;have hb:i<b.length:=by rw[<-h.1];exact hi
 exact⟨b[i],by simp[hb],h.2 i x _ hx (by simp[hb])⟩
theorem VRL.of_agg {σ:Sg}{a:Array Value}{v:Value}(h:VR σ (.agg a) v):∃b,v= .agg b/\VRL σ a.toList b.toList:=by
 cases h with
 |agg _ ys h1 h2=>exact⟨ys,rfl,by simpa using h1,fun i x y hx hy=>h2 i x y (by simpa using hx) (by simpa using hy)⟩
theorem VRL.to_agg {σ:Sg}{a b:List Value}(h:VRL σ a b):VR σ (.agg a.toArray) (.agg b.toArray):=
 .agg _ _ (by simpa using h.1) (fun i x y hx hy=>h.2 i x y (by simpa using hx) (by simpa using hy))
theorem VRL.of_tuple {σ:Sg}{a:Array Value}{v:Value}(h:VR σ (.tuple a) v):∃b,v= .tuple b/\VRL σ a.toList b.toList:=by
 cases h with
 |tuple _ ys h1 h2=>exact⟨ys,rfl,by simpa using h1,fun i x y hx hy=>h2 i x y (by simpa using hx) (by simpa using hy)⟩
theorem VRL.to_tuple {σ:Sg}{a b:List Value}(h:VRL σ a b):VR σ (.tuple a.toArray) (.tuple b.toArray):=
 .tuple _ _ (by simpa using h.1) (fun i x y hx hy=>h.2 i x y (by simpa using hx) (by simpa using hy))
theorem VR.cells {σ:Sg}{v u:Value}(h:VR σ v u):VRL σ v.cells.toList u.cells.toList:=by
 cases h with
 |agg xs ys h1 h2=>exact⟨by simpa [Value.cells]using h1,fun i x y hx hy=>h2 i x y (by simpa [Value.cells]using hx) (by simpa [Value.cells]using hy)⟩
 |bool b=>exact VRL.cons (.bool b) (VRL.nil σ)
 |int k n=>exact VRL.cons (.int k n) (VRL.nil σ)
 |float k n=>exact VRL.cons (.float k n) (VRL.nil σ)
 |ival f lo hi n h1 h2=>exact VRL.cons (.ival f lo hi n h1 h2) (VRL.nil σ)
 |string s=>exact VRL.cons (.string s) (VRL.nil σ)
 |nilp=>exact VRL.cons .nilp (VRL.nil σ)
 |ptr i o p h=>exact VRL.cons (.ptr i o p h) (VRL.nil σ)
 |rptr k o p h=>exact VRL.cons (.rptr k o p h) (VRL.nil σ)
 |nils l c=>exact VRL.cons (.nils l c) (VRL.nil σ)
 |slice i o p l c c' h hc hl=>exact VRL.cons (.slice i o p l c c' h hc hl) (VRL.nil σ)
 |vague q c'=>exact VRL.cons (.vague q c') (VRL.nil σ)
 |nilm=>exact VRL.cons .nilm (VRL.nil σ)
 |map i p h=>exact VRL.cons (.map i p h) (VRL.nil σ)
 |func fn xs ys cs ds h1 h2 h3 h4=>exact VRL.cons (.func fn xs ys cs ds h1 h2 h3 h4) (VRL.nil σ)
 |nilf=>exact VRL.cons .nilf (VRL.nil σ)
 |yield i p h=>exact VRL.cons (.yield i p h) (VRL.nil σ)
 |iface t v u h=>exact VRL.cons (.iface t v u h) (VRL.nil σ)
 |nili=>exact VRL.cons .nili (VRL.nil σ)
 |tuple xs ys h1 h2=>exact VRL.cons (.tuple xs ys h1 h2) (VRL.nil σ)
theorem VR.oneCell {σ:Sg}{v u:Value}(h:VR σ v u)(hv:v.oneCell'=true):u.oneCell'=true:=by
 cases h<;>first|rfl| (simp[Value.oneCell']at hv)
inductive Blk where
 |cells (c:T Value) (n:Nat) (elem esz:Nat)
 |ro (c:T Value) (n:Nat) (elem esz:Nat)
 |sit (s:ByteArray) (pos:Nat)
 |map (es:List (Value×Value)) (reg:Bool)
 |loop (st:LoopState) (pend:Option Code) (nt:Nat) (tms:T Value) (params:Array Tmp) (assign body:Code) (db:Nat)
 |dfr
 |reg (c:T Value) (n elem esz:Nat)
structure Hp where
 m:T Blk
 nx:Nat
def BR (σ : Sg) (p : Pl) : Blk → Obj → Prop
 | .cells c n e z,o=>∃C,o= .cells C e (0,0)/\p.esz=z/\C.size=p.siz/\p.dl+n<=p.siz/\ ∀j,j<n-> ∃v u,c.get j=some v/\C[p.dl+j]? =some u/\VR σ v u
 | .ro c n e z,o=>∃C f,o= .cells C e f/\p.esz=z/\C.size=p.siz/\p.dl+n<=p.siz/\ ∀j v,j<n->c.get j=some v-> ∃u,C[p.dl+j]? =some u/\VR σ v u
 | .sit s pos,o=>o= .stringIter s pos/\p.dl=0
 | .dfr,o=>o= .deferred (some [])
 | .reg _ _ _ _,_=>False
 | .loop st pend nt tms params assign body db, o => ∃ r, o = .loop r ∧ r.state = st ∧ r.pending = pend ∧ r.params = params ∧ r.assign = assign ∧ r.body = body ∧
   (r.tmps.size=nt/\ ∀k,VR σ ((tms.get k).getD undef) (r.tmps.getD k undef))/\ ∃q,σ db=some q/\q.blk=r.defers
 | .map es reg, o => ∃ ents clock, o = .map ents clock ∧ ents.size = es.length ∧ (∀ (j : Nat) x e, es[j]? = some x → ents[j]? = some e → VR σ x.1 e.key ∧ VR σ x.2 e.val) ∧
   (reg=true->clock=ents.size/\ ∀(j:Nat) e,ents[j]? =some e->e.born=j)
theorem BR.mono {σ σ':Sg}(hs:Sg.le σ σ'){p:Pl}{b:Blk}{o:Obj}(h:BR σ p b o):BR σ' p b o:=by
 cases b with
 |cells c n e z=>
  obtain⟨C,h1,h2,h3,h4,h5⟩:=h;exact⟨C,h1,h2,h3,h4,fun j hj=>let⟨v,u,a,b,c⟩:=h5 j hj;⟨v,u,a,b,c.mono hs⟩⟩
 |ro c n e z=>
  obtain⟨C,f,h1,h2,h3,h4,h5⟩:=h;exact⟨C,f,h1,h2,h3,h4,fun j v hj hv=>let⟨u,b,c⟩:=h5 j v hj hv;⟨u,b,c.mono hs⟩⟩
 |sit s pos=>exact h
 |dfr=>exact h
 |reg c n e z=>exact h
 |loop st pend nt tms params assign body db=>
  obtain⟨r,h1,h2,h3,h4,h5,h6,⟨h7,h8⟩,q,h9,h10⟩:=h;exact⟨r,h1,h2,h3,h4,h5,h6,⟨h7,fun k=>(h8 k).mono hs⟩,q,hs _ _ h9,h10⟩
 |map es reg=>
  obtain⟨ents,clock,h1,h2,h3,h4⟩:=h;exact⟨ents,clock,h1,h2,fun j x e hx he=>⟨(h3 j x e hx he).1.mono hs,(h3 j x e hx he).2.mono hs⟩,h4⟩
structure BS where
 B:Nat->Prop
 D:Nat->Prop
 sub:∀k,D k->B k
instance : CoeFun BS (fun _=>Nat->Prop):=⟨BS.B⟩
def BS.below (w:World):BS:=⟨(· <w.heap.size),fun _=>False,fun _ h=>h.elim⟩
def NB (B:BS)(k:Nat):Blk->Prop
 | .ro _ _ _ _=>B.D k
 |_=>¬B k
def Q1 :Blk->Bool
 | .ro _ _ _ _=>true
 |_=>false
theorem NB.no {B:BS}{k:Nat}{b:Blk}(h:NB B k b)(hb:Q1 b=false):¬B k:=by cases b<;>first|exact h| (cases hb)
theorem NB.yes {B:BS}{k:Nat}{b:Blk}(h:NB B k b)(hb:Q1 b=true):B.D k:=by cases b<;>first|exact h| (cases hb)
theorem NB.of {B:BS}{k:Nat}{b:Blk}(h:¬B k)(hb:Q1 b=false):NB B k b:=by cases b<;>first|exact h| (cases hb)
theorem NB.to {B B':BS}{k:Nat}{b:Blk}(h:NB B k b)(h1:B.D k->B'.D k)(h2:¬B k-> ¬B' k):NB B' k b:=by
 cases b<;>first|exact h1 h|exact h2 h
theorem NB.like {B:BS}{k:Nat}{b b':Blk}(h:NB B k b)(hb:Q1 b=false)(hb':Q1 b'=false):NB B k b':= .of (h.no hb) hb'
def rdC :Blk->Option (T Value×Nat×Nat)
 | .cells c n _ z=>some (c,n,z)
 | .ro c n _ z=>some (c,n,z)
 |_=>none
def X9 :Blk->Bool
 | .reg _ _ _ _=>true
 |_=>false
def Ix :Blk->Nat->Prop
 | .reg _ n _ _,r=>1<=r/\r<=n
 |_,r=>r=0
def BX (σ:Sg)(p:Pl)(r:Nat):Blk->Obj->Prop
 | .reg c _ e z,o=>∃C,o= .cells C e (0,0)/\C.size=z/\ ∀j,j<z-> ∃v u,c.get ((r-1)*z+j)=some v/\C[j]? =some u/\VR σ v u
 |b,o=>BR σ p b o
theorem Ix.of {b:Blk}(h:X9 b=false){r:Nat}:Ix b r↔r=0:=by cases b<;>first|exact Iff.rfl|cases h
theorem BX.of {σ:Sg}{p:Pl}{r:Nat}{b:Blk}{o:Obj}(h:X9 b=false):BX σ p r b o↔BR σ p b o:=by cases b<;>first|exact Iff.rfl|cases h
theorem BX.mono {σ σ':Sg}(hs:Sg.le σ σ'){p:Pl}{r:Nat}{b:Blk}{o:Obj}(h:BX σ p r b o):BX σ' p r b o:=by
 cases hb:X9 b with
 |false=>exact(BX.of hb).2 (((BX.of hb).1 h).mono hs)
 |true=>
  cases b with
  |reg c n e z=>
   obtain⟨C,h1,h2,h3⟩:=h;exact⟨C,h1,h2,fun j hj=>let⟨v,u,a,b,c⟩:=h3 j hj;⟨v,u,a,b,c.mono hs⟩⟩
  |_=>cases hb
structure HR (B:BS)(w0:World)(σ:Sg)(hp:Hp)(w:World):Prop where
 os:w.os=w0.os
 tape:w.tape=w0.tape
 output:w.output=w0.output
 size:w0.heap.size<=w.heap.size
 old:∀k,B k->k<w0.heap.size
 kept:∀k,B k->w.heap[k]? =w0.heap[k]?
 frs:∀i r,hp.nx<=i->σ.f i r=none
 liv:∀i b r,hp.m.get i=some b->Ix b r-> ∃p o,σ.f i r=some p/\NB B p.blk b/\w.heap[p.blk]? =some o/\BX σ p r b o
 ij:∀i j b b' r s p q,hp.m.get i=some b->hp.m.get j=some b'->Ix b r->Ix b' s->i≠j\/r≠s->σ.f i r=some p->σ.f j s=some q->p.blk≠q.blk
 rz:∀i b,hp.m.get i=some b->X9 b=true->(∃p,σ i=some p)/\ ∀r,r≠0-> ¬Ix b r->σ.f i r=none
theorem HR.fresh {B:BS}{w0:World}{σ:Sg}{hp:Hp}{w:World}(h:HR B w0 σ hp w)(i:Nat)(hi:hp.nx<=i):σ i=none:=h.frs i 0 hi
theorem HR.live {B:BS}{w0:World}{σ:Sg}{hp:Hp}{w:World}(h:HR B w0 σ hp w)(i:Nat)(b:Blk)(hg:hp.m.get i=some b)(hb:X9 b=false:=by rfl):∃p o,σ i=some p/\NB B p.blk b/\w.heap[p.blk]? =some o/\BR σ p b o:=by
 obtain⟨p,o,h1,h2,h3,h4⟩:=h.liv i b 0 hg ((Ix.of hb).2 rfl);exact⟨p,o,h1,h2,h3,(BX.of hb).1 h4⟩
theorem HR.inj {B : BS} {w0 : World} {σ : Sg} {hp : Hp} {w : World} (h : HR B w0 σ hp w) (i j : Nat) (b b' : Blk) (p q : Pl) (hi : hp.m.get i = some b) (hj : hp.m.get j = some b') (hne : i ≠ j) (hp' : σ i = some p) (hq : σ j = some q)
  (hb:X9 b=false:=by rfl) (hb':X9 b'=false:=by rfl):p.blk≠q.blk:=h.ij i j b b' 0 0 p q hi hj ((Ix.of hb).2 rfl) ((Ix.of hb').2 rfl) (.inl hne) hp' hq
theorem HR.liveC {B : BS} {w0 : World} {σ : Sg} {hp : Hp} {w : World} (h : HR B w0 σ hp w) {i n e z : Nat} {c : T Value} (hg : hp.m.get i = some (.cells c n e z)) :
  ∃p C,σ i=some p/\p.esz=z/\ ¬B p.blk/\w.heap[p.blk]? =some (.cells C e (0,0))/\C.size=p.siz/\p.dl+n<=p.siz/\ ∀j,j<n-> ∃v u,c.get j=some v/\C[p.dl+j]? =some u/\VR σ v u:=by
 obtain⟨p,o,h1,h2,h3,C,rfl,h5,h6,h7,h8⟩:=h.live i _ hg;exact⟨p,C,h1,h5,h2,h3,h6,h7,h8⟩
theorem HR.liveR {B : BS} {w0 : World} {σ : Sg} {hp : Hp} {w : World} (h : HR B w0 σ hp w) {i n z : Nat} {b : Blk} {c : T Value} (hg : hp.m.get i = some b) (hr : rdC b = some (c, n, z)) :
  ∃p C e f,σ i=some p/\p.esz=z/\w.heap[p.blk]? =some (.cells C e f)/\C.size=p.siz/\p.dl+n<=p.siz/\ ∀j v,j<n->c.get j=some v-> ∃u,C[p.dl+j]? =some u/\VR σ v u:=by
 cases b with
 |cells c' n' e z'=>
  cases hr;obtain⟨p,C,h1,h2,_,h3,h4,h5,h6⟩:=h.liveC hg
  grind
 |ro c' n' e z'=>
  cases hr;obtain⟨p,o,h1,h2,h3,C,f,rfl,h5,h6,h7,h8⟩:=h.live i _ hg
  grind
 |_=>cases hr
theorem HR.drew {B:BS}{w0:World}{σ:Sg}{hp:Hp}{w:World}(h:HR B w0 σ hp w):HR B w0 σ hp w.drew:=
 ⟨h.os,h.tape,h.output,h.size,h.old,h.kept,h.frs,h.liv,h.ij,h.rz⟩
def fill (c:T Value):Nat->List Value->T Value
 |_,[]=>c
 |k,v::vs=>fill (c.set k (some v)) (k+1) vs
theorem i8 :∀(vs:List Value) (c:T Value) (k j:Nat),(fill c k vs).get j=if k<=j/\j<k+vs.length then vs[j-k]? else c.get j:=by
 intro vs
 induction vs with
 |nil=>intro c k j;simp only[fill,bQ5,bM0];rw[bH4 (by omega)]
 |cons v vs ih=>
  intro c k j;simp only[fill,ih,T.get_set,bJ7]
  grind
def l9 (c:T Value):Nat->Nat->Option (List Value)
 |_,0=>some []
 |o,n+1=>match c.get o with
  |some v=>match l9 c (o+1) n with
   |some vs=>some (v::vs)
   |none=>none
  |none=>none
theorem j7 {c:T Value}:∀ {n o:Nat} {vs:List Value},l9 c o n=some vs->vs.length=n/\ ∀j,j<n->vs[j]? =c.get (o+j):=by
 intro n
 induction n with
 |zero=>intro o vs h;simp[l9]at h;subst h;exact⟨rfl,fun j hj=>by omega⟩
 |succ n ih=>
  intro o vs h;simp only[l9]at h
  grind
theorem HR.cellsR {B : BS} {w0 : World} {σ : Sg} {hp : Hp} {w : World} (h : HR B w0 σ hp w) {i n z o m : Nat} {b : Blk} {c : T Value} {vs : List Value}
  (hg:hp.m.get i=some b) (hr:rdC b=some (c,n,z)) (hn:o+m<=n) (hl:l9 c o m=some vs) {p:Pl} (hp':σ i=some p):
  ∃us,VRL σ vs us/\us.length=m/\ ∀j u,us[j]? =some u->w.cell? ((⟨p.blk,p.dl+o,none⟩:Addr).add j)=some u:=by
 obtain⟨q,C,e,f,hq,hz,hw,hs,hd,hc⟩:=h.liveR hg hr;have:q=p:=bI0 (hq.symm.trans hp');subst this;obtain⟨hlen,hget⟩:=j7 hl;refine⟨(C.toList.drop (q.dl+o)).take m,⟨?_,?_⟩,?_,?_⟩
 ·grind
 ·grind
 ·grind
 ·intro j u hu
  have hj:j<m:=by grind
  rw[bI7,bH6 hj,bJ3]at hu;rw[bO7,cell_of_row w q.blk _ C e f hw]
  grind
theorem HR.cells {B : BS} {w0 : World} {σ : Sg} {hp : Hp} {w : World} (h : HR B w0 σ hp w) {i n e z o m : Nat} {c : T Value} {vs : List Value}
  (hg:hp.m.get i=some (.cells c n e z)) (hn:o+m<=n) (hl:l9 c o m=some vs) {p:Pl} (hp':σ i=some p):
  ∃us,VRL σ vs us/\us.length=m/\ ∀j u,us[j]? =some u->w.cell? ((⟨p.blk,p.dl+o,none⟩:Addr).add j)=some u:=h.cellsR hg rfl hn hl hp'
end Go.Xe
end PartXm2
noncomputable section PartXm3
namespace Go.Xe
open Go.RowKit
section
variable {B :BS}{w0:World}{σ:Sg}{hp:Hp}{w:World}
def Sg.ext (σ:Sg)(i:Nat)(p:Pl):Sg:=⟨fun j r=>if j=i/\r=0 then some p else σ.f j r⟩
theorem Sg.ext_same0 (σ:Sg)(i:Nat)(p:Pl):(σ.ext i p).f i 0=some p:=by simp[Sg.ext]
theorem Sg.ext_same (σ:Sg)(i:Nat)(p:Pl):σ.ext i p i=some p:=Sg.ext_same0 σ i p
theorem Sg.ext_row (σ:Sg)(i:Nat)(p:Pl){j r:Nat}(h:j≠i\/r≠0):(σ.ext i p).f j r=σ.f j r:=by unfold Sg.ext;simp only;rw[bH4 (by omega)]
theorem Sg.ext_other (σ:Sg)(i:Nat)(p:Pl){j:Nat}(h:j≠i):σ.ext i p j=σ j:=Sg.ext_row σ i p (.inl h)
theorem Sg.le_ext {σ:Sg}{i:Nat}(p:Pl)(h:σ i=none):Sg.le σ (σ.ext i p):=by
 intro j q r hq;have hne:j≠i\/r≠0:=by
  by_cases e:j=i/\r=0
  ·obtain⟨rfl,rfl⟩:=e;have h:σ.f j 0=none:=h;rw[h]at hq;cases hq
  ·omega
 rw[Sg.ext_row _ _ _ hne];exact hq
theorem HR.allocO (h : HR B w0 σ hp w) (id nx : Nat) (hid : σ id = none) (hnx : hp.nx ≤ nx) (hlt : id < nx) (b : Blk) (o : Obj) (p : Pl) (hp0 : p.blk = w.heap.size) (hb : BR (σ.ext id p) p b o) (hro : Q1 b = false := by rfl) (hrg : X9 b = false := by rfl) :
  HR B w0 (σ.ext id p) ⟨hp.m.set id (some b),nx⟩ (w.alloc o):=by
 have hle:=Sg.le_ext (σ:=σ) (i:=id) p hid;refine⟨h.os,h.tape,h.output,by simp;have:=h.size;omega,h.old,fun k hk=>by rw[Below.heap_alloc _ _ _ (by have:=h.old k hk;have:=h.size;omega)];exact h.kept k hk,?_,?_,?_,fun i b' hg hb'=>?_⟩
 ·intro i r hi
  have hi':nx<=i:=hi;rw[Sg.ext_row _ _ _ (.inl (by omega))]
  exact h.frs i r (by omega)
 ·intro i b' r hg hx
  simp only[T.get_set]at hg
  by_cases hi:i=id
  ·rw[bH6 hi]at hg
   simp only[bF4]at hg;subst hg;subst hi;have:=(Ix.of hrg).1 hx;subst this;refine⟨p,o,Sg.ext_same _ _ _,.of (fun hB=>by have h1:=h.old _ hB;have h2:=h.size;omega) hro,?_,(BX.of hrg).2 hb⟩
   rw[hp0];show(w.heap.push _)[w.heap.size]? =_;simp
  ·rw[bH4 hi]at hg
   obtain⟨q,o',h1,h2,h3,h4⟩:=h.liv i b' r hg hx;refine⟨q,o',by rw[Sg.ext_row _ _ _ (.inl hi)];exact h1,h2,?_,h4.mono hle⟩
   rw[Below.heap_alloc _ _ _ (bG9.1 h3).1];exact h3
 ·intro i j b1 b2 r s q q' hi hj hx hy hne hqi hrj
  simp only[T.get_set]at hi hj
  by_cases ei:i=id
  ·rw[bH6 ei]at hi
   simp only[bF4]at hi;subst hi;have e0:=(Ix.of hrg).1 hx;subst e0;rw[ei,Sg.ext_same0]at hqi
   by_cases ej:j=id
   ·rw[bH6 ej]at hj
    simp only[bF4]at hj;subst hj;have:=(Ix.of hrg).1 hy;omega
   ·rw[bH4 ej]at hj
    rw[Sg.ext_row _ _ _ (.inl ej)]at hrj;obtain⟨r',o',h1,_,h3,_⟩:=h.liv j b2 s hj hy;have:r'=q':=bI0 (h1.symm.trans hrj);subst this;have:=(bG9.1 h3).1;rw[<-bI0 hqi,hp0];omega
  ·rw[bH4 ei]at hi
   rw[Sg.ext_row _ _ _ (.inl ei)]at hqi
   by_cases ej:j=id
   ·rw[bH6 ej]at hj
    simp only[bF4]at hj;subst hj;have e0:=(Ix.of hrg).1 hy;subst e0;rw[ej,Sg.ext_same0]at hrj;obtain⟨p',o',h1,_,h3,_⟩:=h.liv i b1 r hi hx;have:p'=q:=bI0 (h1.symm.trans hqi);subst this;have:=(bG9.1 h3).1;rw[<-bI0 hrj,hp0];omega
   ·rw[bH4 ej]at hj
    rw[Sg.ext_row _ _ _ (.inl ej)]at hrj;exact h.ij i j _ _ r s q q' hi hj hx hy hne hqi hrj
 ·simp only[T.get_set]at hg
  by_cases hi:i=id
  ·rw[bH6 hi,bF4]at hg;subst hg;rw[hrg]at hb';cases hb'
  ·rw[bH4 hi]at hg
   obtain⟨⟨q,hq⟩,hr⟩:=h.rz i b' hg hb';exact⟨⟨q,by rw[Sg.ext_other _ _ _ hi];exact hq⟩,fun r h0 hx=>by rw[Sg.ext_row _ _ _ (.inl hi)];exact hr r h0 hx⟩
theorem HR.allocAt (h : HR B w0 σ hp w) (id nx : Nat) (hid : σ id = none) (hnx : hp.nx ≤ nx) (hlt : id < nx) (c : T Value) (n e z : Nat) (us : Array Value) (hn : n ≤ us.size)
  (hc:∀j,j<n-> ∃v u,c.get j=some v/\us[j]? =some u/\VR σ v u):
  HR B w0 (σ.ext id ⟨w.heap.size,0,us.size,z⟩) ⟨hp.m.set id (some (.cells c n e z)),nx⟩ (w.alloc (.cells us e)):=by
 refine h.allocO id nx hid hnx hlt _ _ _ rfl ⟨us,rfl,rfl,rfl,by simpa using hn,fun j hj=>?_⟩
 obtain⟨v,u,h1,h2,h3⟩:=hc j hj;exact⟨v,u,h1,by simpa using h2,h3.mono (Sg.le_ext _ hid)⟩
theorem HR.alloc (h : HR B w0 σ hp w) (c : T Value) (n e z : Nat) (us : Array Value) (hn : n ≤ us.size)
  (hc:∀j,j<n-> ∃v u,c.get j=some v/\us[j]? =some u/\VR σ v u):
  HR B w0 (σ.ext hp.nx ⟨w.heap.size,0,us.size,z⟩) ⟨hp.m.set hp.nx (some (.cells c n e z)),hp.nx+1⟩ (w.alloc (.cells us e)):=
 h.allocAt hp.nx (hp.nx+1) (h.fresh _ (bH7 _)) (bM9 _) (bL5 _) c n e z us hn hc
theorem HR.turn (h : HR B w0 σ hp w) {i : Nat} {b b' : Blk} (hg : hp.m.get i = some b) {p : Pl} (hpi : σ i = some p) {o : Obj} {w' : World} (hh : w'.heap[p.blk]? = some o)
  (hk:∀k,k≠p.blk->w'.heap[k]? =w.heap[k]?) (hs:w'.heap.size=w.heap.size) (h1:w'.os=w.os) (h2:w'.tape=w.tape) (h3:w'.output=w.output) (hb:BR σ p b' o) (hro:Q1 b=false:=by rfl) (hro':Q1 b'=false:=by rfl) (hrg:X9 b=false:=by rfl) (hrg':X9 b'=false:=by rfl):
  HR B w0 σ {hp with m:=hp.m.set i (some b')} w':=by
 obtain⟨p',o',g1,g3',g4,g5⟩:=h.live i b hg hrg;have g3:=g3'.no hro;have:p'=p:=bI0 (g1.symm.trans hpi);subst this;refine⟨h1.trans h.os,h2.trans h.tape,h3.trans h.output,by rw[hs];exact h.size,h.old,fun k hkB=>?_,h.frs,?_,?_,fun j b2 hj hb2=>?_⟩
 ·rw[hk k (fun e=>g3 (by rw[<-e];exact hkB))];exact h.kept k hkB
 ·intro j b2 r hj hx
  simp only[T.get_set]at hj
  by_cases hji:j=i
  ·rw[bH6 hji]at hj
   simp only[bF4]at hj;subst hj;subst hji;have:=(Ix.of hrg').1 hx;subst this;exact⟨p',o,g1,.of g3 hro',hh,(BX.of hrg').2 hb⟩
  ·rw[bH4 hji]at hj
   obtain⟨q,oq,d1,d2,d3,d4⟩:=h.liv j b2 r hj hx;exact⟨q,oq,d1,d2,by rw[hk _ (h.ij j i _ _ r 0 q p' hj hg hx ((Ix.of hrg).2 rfl) (.inl hji) d1 g1)];exact d3,d4⟩
 ·intro a c b1 b2 r s q q' ha hc hx hy hne hqa hrc
  simp only[T.get_set]at ha hc;have key:∀a b1 r,(if a=i then some b' else hp.m.get a)=some b1->Ix b1 r-> ∃b,hp.m.get a=some b/\Ix b r:=by
   intro a b1 r ha hx
   by_cases hai:a=i
   ·rw[bH6 hai]at ha
    simp only[bF4]at ha;subst ha;subst hai;exact⟨_,hg,(Ix.of hrg).2 ((Ix.of hrg').1 hx)⟩
   ·rw[bH4 hai]at ha;exact⟨_,ha,hx⟩
  obtain⟨_,ha',hx'⟩:=key a b1 r ha hx;obtain⟨_,hc',hy'⟩:=key c b2 s hc hy;exact h.ij a c _ _ r s q q' ha' hc' hx' hy' hne hqa hrc
 ·simp only[T.get_set]at hj
  by_cases hji:j=i
  ·rw[bH6 hji,bF4]at hj;subst hj;rw[hrg']at hb2;cases hb2
  ·rw[bH4 hji]at hj;exact h.rz j b2 hj hb2
theorem HR.store (h : HR B w0 σ hp w) {i n e z o : Nat} {c : T Value} (hg : hp.m.get i = some (.cells c n e z)) {p : Pl} (hpi : σ i = some p)
  {vs us:List Value} (hv:VRL σ vs us) (h1:∀u∈us,u.oneCell'=true) (ho:o<=n) (hs:p.dl+o+vs.length<=p.siz) (P:Program):
  ∃w',(storeCells ⟨p.blk,p.dl+o,none⟩ us).run P w= .ok () w'/\HR B w0 σ {hp with m:=hp.m.set i (some (.cells (fill c o vs) (max n (o+vs.length)) e z))} w'/\w'.heap.size=w.heap.size:=by
 obtain⟨p',C,g1,g2,g3,g4,g5,g6,g7⟩:=h.liveC hg;have:p'=p:=bI0 (g1.symm.trans hpi);subst this;have hr:=run_storeCells_at P p'.blk (p'.dl+o) e us 0 C w g4 (by rw[<-hv.1];omega) h1
 simp only[bM0]at hr;refine⟨_,hr,?_,by simp[World.setRow]⟩
 have hrow:=setRow_heap w p'.blk C (C.toList.take (p'.dl+o)++us++C.toList.drop (p'.dl+o+us.length)).toArray e (0,0) g4;have hsize:(C.toList.take (p'.dl+o)++us++C.toList.drop (p'.dl+o+us.length)).toArray.size=C.size:=by
  have:=hv.1;simp;omega
 refine h.turn hg g1 hrow (fun k hk=>setRow_other w _ k _ hk) (by simp[World.setRow]) rfl rfl rfl ⟨_,rfl,g2,by rw[hsize];exact g5,by omega,fun k hk=>?_⟩
 rw[i8];have hl:=hv.1
 by_cases hin:o<=k/\k<o+vs.length
 ·rw[bH6 hin]
  have hk':k-o<vs.length:=by omega
  have hk2:k-o<us.length:=by omega
  refine⟨vs[k-o],us[k-o],by simp[hk'],?_,hv.2 (k-o) _ _ (by simp[hk']) (by simp[hk2])⟩
  simp only[bG8,List.getElem?_toArray];rw[bG2 (by simp;omega),bG3 (by simp;omega)]
  have:p'.dl+k-(List.take (p'.dl+o) C.toList).length=k-o:=by simp;omega
  rw[this];simp[hk2]
 ·rw[bH4 hin]
  have hkn:k<n:=by omega
  obtain⟨v,u,a1,a2,a3⟩:=g7 k hkn;refine⟨v,u,a1,?_,a3⟩;simp only[bG8,List.getElem?_toArray];rw[<-a2]
  by_cases hko:k<o
  ·rw[bG3 (by simp;omega),bI7,bH6 (by omega)];simp
  ·rw[bG2 (by simp;omega),bG2 (by simp;omega),bJ3]
   simp only[bI9,Array.length_toList];rw[<-Array.getElem?_toList]
   congr 1;omega
theorem HR.move (h : HR B w0 σ hp w) {i n e z o k : Nat} {c : T Value} (hg : hp.m.get i = some (.cells c n e z)) {p : Pl} (hpi : σ i = some p) (hk : o + k ≤ n)
  (c':T Value) (hc:∀j,j<k->c'.get j=c.get (o+j)):
  HR B w0 (σ.ext hp.nx ⟨p.blk,p.dl+o,p.siz,p.esz⟩) ⟨(hp.m.set i none).set hp.nx (some (.cells c' k e z)),hp.nx+1⟩ w:=by
 have hle:=Sg.le_ext (σ:=σ) (i:=hp.nx) ⟨p.blk,p.dl+o,p.siz,p.esz⟩ (h.fresh _ (bH7 _));obtain⟨p',C,g1,g2,g3,g4,g5,g6,g7⟩:=h.liveC hg;have:p'=p:=bI0 (g1.symm.trans hpi);subst this;have hin:i≠hp.nx:=by
  intro e;rw[e,h.fresh _ (bH7 _)]at hpi;cases hpi
 refine⟨h.os,h.tape,h.output,h.size,h.old,h.kept,?_,?_,?_,fun j b2 hj hb2=>?_⟩
 ·intro j r hj
  simp at hj;rw[Sg.ext_row _ _ _ (.inl (by omega))]
  exact h.frs j r (by omega)
 ·intro j b2 r hj hx
  simp only[T.get_set]at hj
  by_cases ej:j=hp.nx
  ·rw[bH6 ej]at hj
   simp only[bF4]at hj;subst hj;subst ej;have hr:r=0:=hx;subst hr;refine⟨_,_,Sg.ext_same _ _ _,g3,g4,C,rfl,g2,g5,by show p'.dl+o+k<=p'.siz;omega,fun j hj=>?_⟩
   obtain⟨v,u,a1,a2,a3⟩:=g7 (o+j) (by omega)
   refine⟨v,u,by rw[hc j hj];exact a1,?_,a3.mono hle⟩
   rw[<-a2];congr 1;show p'.dl+o+j=_;omega
  ·rw[bH4 ej]at hj
   by_cases ei:j=i
   ·rw[bH6 ei]at hj;cases hj
   ·rw[bH4 ei]at hj
    obtain⟨q,oq,d1,d2,d3,d4⟩:=h.liv j b2 r hj hx;exact⟨q,oq,by rw[Sg.ext_row _ _ _ (.inl ej)];exact d1,d2,d3,d4.mono hle⟩
 ·intro a b b1 b2 r s q q' ha hb hx hy hne hqa hrb
  simp only [T.get_set] at ha hb;have key : ∀ a b1 r q, (if a = hp.nx then some (Blk.cells c' k e z) else if a = i then none else hp.m.get a) = some b1 → Ix b1 r → (σ.ext hp.nx ⟨p'.blk, p'.dl + o, p'.siz, p'.esz⟩).f a r = some q →
    (a=hp.nx/\r=0/\q.blk=p'.blk)\/(a≠hp.nx/\a≠i/\hp.m.get a=some b1/\σ.f a r=some q):=by
   intro a b1 r q ha hx hq
   by_cases ea:a=hp.nx
   ·rw[bH6 ea]at ha
    simp only[bF4]at ha;subst ha;subst ea;have hr:r=0:=hx;subst hr;have hq:(σ.ext hp.nx ⟨p'.blk,p'.dl+o,p'.siz,p'.esz⟩) hp.nx=some q:=hq;rw[Sg.ext_same]at hq;exact .inl ⟨rfl,rfl,by rw[<-bI0 hq]⟩
   ·rw[bH4 ea]at ha
    rw[Sg.ext_row _ _ _ (.inl ea)]at hq
    by_cases ei:a=i
    ·rw[bH6 ei]at ha;cases ha
    ·rw[bH4 ei]at ha;exact .inr ⟨ea,ei,ha,hq⟩
  have hx0:Ix (.cells c n e z) 0:=rfl
  rcases key a b1 r q ha hx hqa with⟨e1,e2,e3⟩| ⟨e1,e2,e3,e4⟩<;>rcases key b b2 s q' hb hy hrb with⟨k1,k2,k3⟩| ⟨k1,k2,k3,k4⟩
  ·omega
  ·rw[e3];exact h.ij i b _ _ 0 s p' q' hg k3 hx0 hy (.inl (Ne.symm k2)) hpi k4
  ·rw[k3];exact h.ij a i _ _ r 0 q p' e3 hg hx hx0 (.inl e2) e4 hpi
  ·exact h.ij a b _ _ r s q q' e3 k3 hx hy hne e4 k4
 ·simp only[T.get_set]at hj
  by_cases ej:j=hp.nx
  ·rw[bH6 ej,bF4]at hj;subst hj;cases hb2
  ·rw[bH4 ej]at hj
   by_cases ei:j=i
   ·rw[bH6 ei]at hj;cases hj
   ·rw[bH4 ei]at hj
    obtain⟨⟨q,hq⟩,hr⟩:=h.rz j b2 hj hb2;exact⟨⟨q,by rw[Sg.ext_other _ _ _ ej];exact hq⟩,fun r h0 hx=>by rw[Sg.ext_row _ _ _ (.inl ej)];exact hr r h0 hx⟩
theorem HR.sub (h:HR B w0 σ hp w){hp2:Hp}(hn:hp.nx<=hp2.nx)(hm:∀i b,hp2.m.get i=some b->hp.m.get i=some b):HR B w0 σ hp2 w:=
 ⟨h.os,h.tape,h.output,h.size,h.old,h.kept,fun i r hi=>h.frs i r (bL2 hn hi),fun i b r hg=>h.liv i b r (hm _ _ hg),
  fun i j b b' r s p q hi hj=>h.ij i j b b' r s p q (hm _ _ hi) (hm _ _ hj),fun i b hg=>h.rz i b (hm _ _ hg)⟩
end
end Go.Xe
end PartXm3
noncomputable section PartXm4
namespace Go.Xe
open Go.RowKit
structure TR (σ:Sg)(nt:Nat)(tm:T Value)(tmps:Array Value):Prop where
 size:tmps.size=nt
 at_:∀k,VR σ ((tm.get k).getD undef) (tmps.getD k undef)
theorem TR.mono {σ σ':Sg}(hs:Sg.le σ σ'){nt:Nat}{tm:T Value}{tmps:Array Value}(h:TR σ nt tm tmps):TR σ' nt tm tmps:=
 ⟨h.size,fun k=>(h.at_ k).mono hs⟩
theorem TR.put {σ : Sg} {nt : Nat} {tm : T Value} {tmps : Array Value} (h : TR σ nt tm tmps) {d : Nat} (hd : d < nt) {v u : Value} (hv : VR σ v u) :
  TR σ nt (tm.set d (some v)) (tmps.setIfInBounds d u):=by
 refine⟨by simpa using h.size,fun k=>?_⟩
 rw[T.get_set]
 by_cases hk:k=d
 ·subst hk
  rw[bH6 rfl];have:k<tmps.size:=by rw[h.size];exact hd
  simpa [this]using hv
 ·rw[bH4 hk]
  have:=h.at_ k
  simpa [bP6 (Ne.symm hk)]using this
def ai6 :Value->Bool
 | .bool _| .int _ _| .float _ _| .string _| .pointer none| .slice none _ _| .map none| .nilFunc| .nilIface=>true
 |_=>false
def cst :Value->Bool
 | .agg cs=>cs.toList.all ai6
 | .tuple vs=>vs.toList.all ai6
 |v=>ai6 v
theorem bh1 (σ:Sg){v:Value}(h:ai6 v=true):VR σ v v:=by
 cases v with
 |bool b=>exact .bool b
 |int k n=>exact .int k n
 |float k n=>exact .float k n
 |string s=>exact .string s
 |pointer a=>cases a with
  |none=>exact .nilp
  |some a=>simp[ai6]at h
 |slice a l c=>cases a with
  |none=>exact .nils l c
  |some a=>simp[ai6]at h
 |map r=>cases r with
  |none=>exact .nilm
  |some a=>simp[ai6]at h
 |nilFunc=>exact .nilf
 |nilIface=>exact .nili
 |_=>simp[ai6]at h
theorem aw2 (σ:Sg):∀ {vs:List Value},vs.all ai6=true->VRL σ vs vs
 | [],_=>VRL.nil σ
 |v::vs,h=>by
  simp only[List.all_cons,bF5]at h;exact VRL.cons (bh1 σ h.1) (aw2 σ h.2)
theorem M4 (σ:Sg){v:Value}(h:cst v=true):VR σ v v:=by
 cases v with
 |agg cs=>have:=(aw2 σ (show cs.toList.all ai6=true from h)).to_agg;simpa using this
 |tuple vs=>have:=(aw2 σ (show vs.toList.all ai6=true from h)).to_tuple;simpa using this
 |bool b=>exact .bool b
 |int k n=>exact .int k n
 |float k n=>exact .float k n
 |string s=>exact .string s
 |nilFunc=>exact .nilf
 |nilIface=>exact .nili
 |_=>exact bh1 σ h
def d6 (tm:T Value):Operand->Option Value
 | .tmp t=>some ((tm.get t).getD undef)
 | .const v=>bif cst v then some v else none
 | .global _=>none
 | .func f=>some (.func (.func f) #[] #[])
theorem W6 {σ:Sg}{nt:Nat}{tm:T Value}{a:Act}(h:TR σ nt tm a.tmps){x:Operand}{v:Value}(hx:d6 tm x=some v):VR σ v (a.eval x):=by
 cases x with
 |tmp t=>simp only[d6,bF4]at hx;subst hx;exact h.at_ t
 |const c=>
  simp only[d6]at hx;cases hc:cst c with
  |false=>simp[hc]at hx
  |true=>simp[hc]at hx;subst hx;exact M4 σ hc
 |global g=>simp[d6]at hx
 |func f=>
  simp only[d6,bF4]at hx;subst hx;exact .func _ _ _ _ _ rfl (fun i x y h _=>by simp at h) rfl (fun i x y h _=>by simp at h)
def ag2 (tm:T Value):List Operand->Option (List Value)
 | []=>some []
 |x::xs=>match d6 tm x with
  |some v=>match ag2 tm xs with
   |some vs=>some (v::vs)
   |none=>none
  |none=>none
def ag1 :TypeDesc->Bool
 | .struct _| .array _ _=>true
 |_=>false
def W8 (P : Program) (t : TypeId) (cs : List Value) (off : Nat) : Option Value :=
 match P.underlying t with
 |none=>none
 | some d => bif ag1 d then
   match P.info? t with
   |some i=>some (.agg ((cs.drop off).take i.size).toArray)
   |none=>none
  else cs[off]?
theorem P4 {P:Program}{t:TypeId}{d:TypeDesc}(h:P.underlying t=some d)(w:World):(isAgg t).run P w= .ok (ag1 d) w:=by
 unfold isAgg;simp only[bI3,bH8 h,bH9];cases d<;>rfl
theorem aK1 (cs:Array Value)(off n:Nat):cs.extract off (off+n)=((cs.toList.drop off).take n).toArray:=by
 apply bN5
 simp[List.take_drop,Array.toList_extract]
theorem N7 {P : Program} {σ : Sg} {t : TypeId} {xs : List Value} {off : Nat} {v : Value} (h : W8 P t xs off = some v) {ys : Array Value} (hy : VRL σ xs ys.toList) :
  ∃u,VR σ v u/\ ∀w,(part t ys off).run P w= .ok u w:=by
 unfold W8 at h;cases hu:P.underlying t with
 |none=>simp[hu]at h
 |some d=>
  simp only[hu]at h;cases hd:ag1 d with
  |true=>
   simp only[hd,bH1]at h;cases hi:P.info? t with
   |none=>simp[hi]at h
   |some i=>
    simp only[hi,bF4]at h;subst h;refine⟨.agg (ys.extract off (off+i.size)),?_,fun w=>?_⟩
    ·rw[aK1]
     refine VRL.to_agg ⟨by have:=hy.1;simp at this⊢;omega,fun j x y hx hy'=>?_⟩
     rw[bI7]at hx hy'
     by_cases hj:j<i.size
     ·rw[bH6 hj,bJ3]at hx hy'
      exact hy.2 _ x y hx hy'
     ·rw[bH4 hj]at hx;cases hx
    ·unfold part
     simp only[bI3,P4 hu,bH9,hd,bO6,sizeOf,typeInfo,bP7,hi,bI8]
  |false=>
   simp only[hd,bH2]at h;obtain⟨u,hu2,hv⟩:=hy.get h;refine⟨u,hv,fun w=>?_⟩
   unfold part;have:ys[off]? =some u:=by simpa using hu2
   simp only[bI3,P4 hu,bH9,hd,bM6,bO5,this,bI8]
def aj6 (P:Program)(xt:TypeId)(x:Value)(f:Nat):Option Value:=
 match P.underlying xt with
 |some (.struct fs)=>match fs.toList[f]? with
  |some fd=>match x with
   | .agg cs=>W8 P fd.type cs.toList fd.offset
   |_=>none
  |none=>none
 |_=>none
theorem aN7 {P : Program} {σ : Sg} {xt : TypeId} {x y : Value} {f : Nat} {v : Value} (h : aj6 P xt x f = some v) (hy : VR σ x y) :
  ∃u,VR σ v u/\ ∀w,(Instr.field xt y f).run P w= .ok u w:=by
 unfold aj6 at h;split at h
 ·rename_i fs hu
  split at h
  ·rename_i fd hf
   split at h
   ·rename_i cs
    obtain⟨ds,rfl,hd⟩:=VRL.of_agg hy;obtain⟨u,h1,h2⟩:=N7 h hd;refine⟨u,h1,fun w=>?_⟩
    have hf':fs[f]? =some fd:=by simpa using hf
    simp[Instr.field,bH8 hu,hf',asAgg,h2]
   ·cases h
  ·cases h
 ·cases h
def R1 (x:Value)(i:Nat):Option Value:=
 match x with
 | .tuple vs=>vs.toList[i]?
 |_=>none
theorem aC1 {P : Program} {σ : Sg} {x y : Value} {i : Nat} {v : Value} (h : R1 x i = some v) (hy : VR σ x y) :
  ∃u,VR σ v u/\ ∀w,(Instr.extract y i).run P w= .ok u w:=by
 unfold R1 at h;split at h
 ·rename_i vs
  obtain⟨ds,rfl,hd⟩:=VRL.of_tuple hy;obtain⟨u,h1,h2⟩:=hd.get h;refine⟨u,h2,fun w=>?_⟩
  have:ds[i]? =some u:=by simpa using h1
  simp[Instr.extract,this]
 ·cases h
def ae3 (P : Program) (xt : TypeId) (x i : Value) : Option Value :=
 match i with
 | .int _ n => match P.underlying xt, x with
  | some (.array len e), .agg cs => bif decide (0 ≤ n) && decide (n < len) then
    match P.info? e with
    |some ie=>W8 P e cs.toList (n.toNat*ie.size)
    |none=>none
   else none
  | some .string, .string s => bif decide (0 ≤ n) then
    match s.data.toList[n.toNat]? with
    |some b=>some (.int .u8 b.toNat)
    |none=>none
   else none
  |_,_=>none
 |_=>none
theorem aw5 (s:ByteArray)(i:Nat):s[i]? =s.data.toList[i]? :=by
 obtain⟨⟨l⟩⟩:=s;rw[getElem?_def]
 by_cases h:i<l.length
 ·have h1:i<(ByteArray.mk ⟨l⟩).size:=h
  rw[dif_pos h1];simp[h];rfl
 ·have h1:¬i<(ByteArray.mk ⟨l⟩).size:=h
  rw[dif_neg h1];simp;omega
theorem aN9 {P : Program} {σ : Sg} {xt : TypeId} {x y i j : Value} {v : Value} (h : ae3 P xt x i = some v) (hy : VR σ x y) (hj : VR σ i j) :
  ∃u,VR σ v u/\ ∀w,(Instr.index xt y j).run P w= .ok u w:=by
 unfold ae3 at h;split at h
 ·rename_i k n
  cases hj;split at h
  ·rename_i len e cs hu
   obtain⟨ds,rfl,hd⟩:=VRL.of_agg hy;cases hb:decide (0<=n)&&decide (n<len)with
   |false=>simp[hb]at h
   |true=>
    simp only[hb,bH1]at h;simp only[bF5,bH5]at hb;split at h
    ·rename_i ie hie
     obtain⟨u,h1,h2⟩:=N7 h hd;refine⟨u,h1,fun w=>?_⟩
     simp[Instr.index,asIntOf,bH8 hu,hb,sizeOf,typeInfo,hie,h2]
    ·cases h
  ·rename_i s hu
   cases hy;cases hb:decide (0<=n)with
   |false=>simp[hb]at h
   |true=>
    simp only[hb,bH1]at h;simp only[bH5]at hb;split at h
    ·rename_i b hs
     simp only[bF4]at h;subst h;refine⟨_,.int _ _,fun w=>?_⟩
     have:s[n.toNat]? =some b:=by rw[aw5];exact hs
     simp[Instr.index,asIntOf,bH8 hu,hb,this]
    ·cases h
  ·cases h
 ·cases h
def splice (cells:List Value)(off:Nat)(vs:List Value):List Value:=cells.take off++vs++cells.drop (off+vs.length)
def an2 (place:Nat->Option (Nat×Nat))(cells:List Value):List (Nat×Value)->Option (List Value)
 | []=>some cells
 | (i,v)::rest=>match place i with
  |none=>none
  |some (off,size)=>bif Nat.beq v.cells.toList.length size&&Nat.ble (off+size) cells.length then an2 place (splice cells off v.cells.toList) rest else none
theorem ar2 (off : Nat) : ∀ (vs : List Value) (k : Nat) (cs : Array Value), off + k + vs.length ≤ cs.size →
  ((vs.zipIdx k).foldl (fun(cs:Array Value) (p:Value×Nat)=>cs.setIfInBounds (off+p.2) p.1) cs).toList=splice cs.toList (off+k) vs
 | [],k,cs,h=>by simp[splice]
 |v::vs,k,cs,h=>by
  simp only[List.zipIdx_cons,List.foldl_cons];simp only[bJ7]at h;have ih:=ar2 off vs (k+1) (cs.setIfInBounds (off+k) v) (by simp;omega)
  rw[ih];unfold splice;have:=list_seg_step cs.toList (off+k) v vs (by simp;omega)
  simpa [Array.toList_setIfInBounds,bL4]using this
theorem VRL.splice {σ:Sg}{a b c d:List Value}(h:VRL σ a b)(k:VRL σ c d)(off:Nat):VRL σ (splice a off c) (Xe.splice b off d):=by
 unfold Xe.splice;have ht:VRL σ (a.take off) (b.take off):=⟨by simp[h.1],fun i x y hx hy=>by
  rw[bI7]at hx hy;split at hx
  ·rename_i hi;rw[bH6 hi]at hy;exact h.2 i x y hx hy
  ·cases hx⟩
 have hdr:VRL σ (a.drop (off+c.length)) (b.drop (off+d.length)):=by
  rw[k.1];exact⟨by simp[h.1],fun i x y hx hy=>by rw[bJ3]at hx hy;exact h.2 _ x y hx hy⟩
 exact(ht.append k).append hdr
def PVR (σ:Sg)(xs ys:List (Nat×Value)):Prop:=xs.length=ys.length/\ ∀(i:Nat) x y,xs[i]? =some x->ys[i]? =some y->x.1=y.1/\VR σ x.2 y.2
theorem PVR.uncons {σ:Sg}{x:Nat×Value}{xs ys:List (Nat×Value)}(h:PVR σ (x::xs) ys):∃u ys',ys=(x.1,u)::ys'/\VR σ x.2 u/\PVR σ xs ys':=by
 cases ys with
 |nil=>exact absurd h.1 (by simp)
 |cons y ys=>
  have h0:=h.2 0 x y rfl rfl;exact⟨y.2,ys,by rw[h0.1],h0.2,by have:=h.1;simpa using this,fun i a b ha hb=>h.2 (i+1) a b (by simpa using ha) (by simpa using hb)⟩
theorem PVR.unnil {σ:Sg}{ys:List (Nat×Value)}(h:PVR σ [] ys):ys=[]:=bG0 h.1.symm
theorem ae2 {σ : Sg} (place : Nat → Option (Nat × Nat)) : ∀ (xs : List (Nat × Value)) (ys : List (Nat × Value)) (cells r : List Value) (cs : Array Value),
  an2 place cells xs=some r->PVR σ xs ys->VRL σ cells cs.toList-> ∃ds,Instr.fill place cs ys=some ds/\VRL σ r ds.toList:=by
 intro xs
 induction xs with
 |nil=>intro ys cells r cs h hp hc;rw[hp.unnil];simp[an2]at h;subst h;exact⟨cs,rfl,hc⟩
 |cons x xs ih=>
  intro ys cells r cs h hp hc;obtain⟨u,ys',rfl,hu,hp'⟩:=hp.uncons;obtain⟨i,v⟩:=x;simp only[an2]at h;simp only[Instr.fill];cases hpl:place i with
  |none=>simp[hpl]at h
  |some os=>
   obtain⟨off,size⟩:=os;simp only[hpl]at h⊢;cases hb:Nat.beq v.cells.toList.length size&&Nat.ble (off+size) cells.length with
   |false=>rw[hb]at h;cases h
   |true=>
    simp only[hb,bH1]at h;simp only[bF5]at hb;have e1:v.cells.toList.length=size:=bF9 hb.1;have e2:off+size<=cells.length:=bF8 hb.2;have hcells:=hu.cells;have e3:u.cells.size=size:=by rw[<-e1,hcells.1];simp
    have e4:off+u.cells.size<=cs.size:=by rw[e3];have:=hc.1;simp at this;omega
    have hne:¬(decide (u.cells.size≠size)||decide (off+u.cells.size>cs.size))=true:=by simp;omega
    rw[bH4 hne];have hf:(u.cells.zipIdx.foldl (fun(cs:Array Value) (p:Value×Nat)=>cs.setIfInBounds (off+p.2) p.1) cs).toList=splice cs.toList off u.cells.toList:=by
     rw[<-Array.foldl_toList,Array.toList_zipIdx];exact ar2 off u.cells.toList 0 cs (by simpa using e4)
    refine ih ys' _ r _ h hp' ?_;rw[hf];exact hc.splice hcells off
def aa2 (P:Program):List Field->Option (List (Nat×Nat))
 | []=>some []
 |f::fs=>match P.info? f.type with
  |some i=>match aa2 P fs with
   |some r=>some ((f.offset,i.size)::r)
   |none=>none
  |none=>none
theorem az9 {P : Program} (w : World) : ∀ {fs : List Field} {r : List (Nat × Nat)}, aa2 P fs = some r →
  (fs.mapM fun f=>do pure (f.offset,<-sizeOf f.type):Sem (List (Nat×Nat))).run P w= .ok r w
 | [],r,h=>by simp[aa2]at h;subst h;simp
 |f::fs,r,h=>by
  simp only[aa2]at h;cases hi:P.info? f.type with
  |none=>simp[hi]at h
  |some i=>
   cases hr:aa2 P fs with
   |none=>simp[hi,hr]at h
   |some r'=>
    simp[hi,hr]at h;subst h;have ih:=az9 (P:=P) w hr;have hs:(sizeOf f.type).run P w= .ok i.size w:=by simp[sizeOf,typeInfo,hi]
    rw[List.mapM_cons];simp only[bI3,hs,bH9,bI8,ih]
def G5 (P:Program)(t:TypeId):Option Value:=match P.info? t with
 |some i=>match i.zero with
  |some z=>bif cst z then some z else none
  |none=>none
 |none=>none
theorem D6 {P:Program}{t:TypeId}{z:Value}(h:G5 P t=some z):cst z=true/\ ∀w,(zeroValue t).run P w= .ok z w:=by
 unfold G5 at h;split at h
 ·rename_i i hi
  split at h
  ·rename_i z' hz
   cases hc:cst z' with
   |false=>simp[hc]at h
   |true=>
    simp only[hc,bH1,bF4]at h;subst h;exact⟨hc,fun w=>by simp[zeroValue,typeInfo,hi,hz]⟩
  ·cases h
 ·cases h
def aj3 (P:Program)(t:TypeId)(parts:List (Nat×Value)):Option Value:=
 match G5 P t with
 |none=>none
 |some z=>match P.underlying t with
  |some (.struct fs)=>match aa2 P fs.toList with
   |some pl=>match an2 (fun i=>pl[i]?) z.cells.toList parts with
    |some cs=>some (.agg cs.toArray)
    |none=>none
   |none=>none
  |some (.array _ e)=>match P.info? e with
   |some ie=>match an2 (fun i=>some (i*ie.size,ie.size)) z.cells.toList parts with
    |some cs=>some (.agg cs.toArray)
    |none=>none
   |none=>none
  |_=>none
theorem aN4 {P : Program} {σ : Sg} {t : TypeId} {xs : List (Nat × Value)} {ys : Array (Nat × Value)} {v : Value} (h : aj3 P t xs = some v) (hy : PVR σ xs ys.toList) :
  ∃u,VR σ v u/\ ∀w,(Instr.build t ys).run P w= .ok u w:=by
 unfold aj3 at h;split at h
 ·cases h
 ·rename_i z hz
  obtain⟨hc,hzr⟩:=D6 hz;have hzz:=(M4 σ hc).cells;split at h
  ·rename_i fs hu
   split at h
   ·rename_i pl hpl
    split at h
    ·rename_i cs hf
     simp only[bF4]at h;subst h;obtain⟨ds,h1,h2⟩:=ae2 (σ:=σ) _ _ _ _ _ _ hf hy hzz;refine⟨.agg ds,by have:=h2.to_agg;simpa using this,fun w=>?_⟩
     have hpr:=az9 (P:=P) w hpl;have hm:(fs.mapM fun f=>do pure (f.offset,<-sizeOf f.type):Sem (Array (Nat×Nat))).run P w= .ok pl.toArray w:=by
      rw[Array.mapM_eq_mapM_toList,Sem.run_map,hpr];rfl
     have hfn:(fun x:Nat=>pl.toArray[x]?)=fun i:Nat=>pl[i]? :=by funext i;simp
     unfold Instr.build;simp only[bI3,hzr,bH9,bH8 hu,hm,hfn,h1,bI8]
    ·cases h
   ·cases h
  ·rename_i n e hu
   split at h
   ·rename_i ie hie
    split at h
    ·rename_i cs hf
     simp only[bF4]at h;subst h;obtain⟨ds,h1,h2⟩:=ae2 (σ:=σ) _ _ _ _ _ _ hf hy hzz;refine⟨.agg ds,by have:=h2.to_agg;simpa using this,fun w=>?_⟩
     simp[Instr.build,hzr,bH8 hu,sizeOf,typeInfo,hie,h1]
    ·cases h
   ·cases h
  ·cases h
end Go.Xe
end PartXm4
noncomputable section PartXm5
namespace Go.Xe
open Go.RowKit
def K5 (x:Value):Option (IntKind×Nat×Nat):=
 match x with
 | .complex f lo hi=>some (Q0 f lo,Y1 lo,hi)
 | .int k (.ofNat n)=>some (k,n,n+1)
 |_=>none
theorem O5 {σ : Sg} {x x' : Value} {k : IntKind} {lo hi : Nat} (h : K5 x = some (k, lo, hi)) (hx : VR σ x x') :
  ∃n:Nat,x'= .int k n/\lo<=n/\(hi=0\/n<hi):=by
 unfold K5 at h;split at h
 ·simp only[bF4,bF6]at h
  obtain⟨rfl,rfl,rfl⟩:=h;cases hx with
  |ival _ _ _ n h1 h2=>exact⟨n,rfl,h1,h2⟩
 ·rename_i k n
  simp only[bF4,bF6]at h;obtain⟨rfl,rfl,rfl⟩:=h;cases hx;exact⟨n,rfl,bH7 _,.inr (bL5 _)⟩
 ·cases h
def S5 (a b:Nat×Nat):Option Bool:=
 bif !(Nat.beq a.2 0)&&Nat.ble a.2 b.1 then some true else bif !(Nat.beq b.2 0)&&Nat.ble b.2 (a.1+1)then some false else none
theorem S6 {a b:Nat×Nat}{r:Bool}(h:S5 a b=some r){n m:Nat}(h1:a.1<=n)(h2:a.2=0\/n<a.2)(h3:b.1<=m)(h4:b.2=0\/m<b.2):r=decide ((n:Int)<(m:Int)):=by
 unfold S5 at h;cases hb: !(Nat.beq a.2 0)&&Nat.ble a.2 b.1 with
 |true=>
  rw[hb,bH1]at h;simp only[bF5]at hb;have:=bF8 hb.2;have h0:a.2≠0:=fun e=>by rw[e]at hb;simp at hb
  simp only[bF4]at h;subst h
  symm
  rw[bH5];omega
 |false=>
  rw[hb,bH2]at h;cases hc: !(Nat.beq b.2 0)&&Nat.ble b.2 (a.1+1)with
  |true=>
   rw[hc,bH1]at h;simp only[bF5]at hc;have:=bF8 hc.2;have h0:b.2≠0:=fun e=>by rw[e]at hc;simp at hc
   simp only[bF4]at h;subst h
   symm
   rw[bK2];omega
  |false=>rw[hc]at h;cases h
def X8 (a b:Nat×Nat):Bool:=
 match S5 a b with
 |some true=>true
 |_=>match S5 b a with
  |some true=>true
  |_=>false
def ieqF (x y:Value):Option Bool:=
 match K5 x,K5 y with
 |some (k,a),some (k',b)=>bif decide (k=k')&&X8 a b then some false else none
 |_,_=>none
theorem ax6 {σ:Sg}{x y x' y':Value}{b:Bool}(h:ieqF x y=some b)(hx:VR σ x x')(hy:VR σ y y'):b=false/\ ∃k n m,x'= .int k n/\y'= .int k m/\n≠m:=by
 unfold ieqF at h;split at h
 ·rename_i k a k' c ha hc
  obtain⟨a1,a2⟩:=a;obtain⟨c1,c2⟩:=c;obtain⟨n,rfl,n1,n2⟩:=O5 ha hx;obtain⟨m,rfl,m1,m2⟩:=O5 hc hy;cases hk:decide (k=k')&&X8 (a1,a2) (c1,c2)with
  |false=>rw[hk]at h;cases h
  |true=>
   rw[hk,bH1,bF4]at h;simp only[bF5,bH5]at hk;obtain⟨rfl,hne⟩:=hk;refine⟨h.symm,k,n,m,rfl,rfl,?_⟩;unfold X8 at hne;split at hne
   ·rename_i e;have:=S6 e n1 n2 m1 m2;simp at this;omega
   ·split at hne
    ·rename_i e;have:=S6 e m1 m2 n1 n2;simp at this;omega
    ·cases hne
 ·cases h
def aC0 (P:Program)(eq:TypeId->Value->Value->Option Bool)(xs ys:List Value):List Field->Option Bool
 | []=>some true
 |f::fs=>bif f.name== "_" then aC0 P eq xs ys fs else
  match W8 P f.type xs f.offset,W8 P f.type ys f.offset with
  |some a,some b=>match eq f.type a b with
   |some true=>aC0 P eq xs ys fs
   |some false=>some false
   |none=>none
  |_,_=>none
def xeq (P : Program) : Nat → TypeId → Value → Value → Option Bool
 |0,_,_,_=>none
 | d + 1, t, x, y => match P.underlying t, x, y with
  |some .bool,.bool a,.bool b=>some (a==b)
  |some (.int _),.int k a,.int k' b=>bif decide (k=k')then some (decide (a=b))else none
  |some (.int _),.complex f lo hi,.int k a=>ieqF (.complex f lo hi) (.int k a)
  |some (.int _),.int k a,.complex f lo hi=>ieqF (.int k a) (.complex f lo hi)
  |some .string,.string a,.string b=>some (a.data.toList==b.data.toList)
  |some (.pointer _),.pointer none,.pointer b=>some b.isNone
  |some (.pointer _),.pointer (some _),.pointer none=>some false
  | some (.pointer e), .pointer (some ⟨a, o, none⟩), .pointer (some ⟨b, q, none⟩) => bif Nat.beq a b then
    match P.info? e with
    |some ie=>bif Nat.beq ie.size 0 then none else some (Nat.beq o q)
    |none=>none
   else none
  |some (.struct fs),.agg xs,.agg ys=>bif P.stoodInHeld t then none else aC0 P (xeq P d) xs.toList ys.toList fs.toList
  |some (.slice _),.slice none _ _,.slice b _ _=>some b.isNone
  |some (.slice _),.slice (some _) _ _,.slice none _ _=>some false
  |some (.map _ _),.map none,.map b=>some b.isNone
  |some (.map _ _),.map (some _),.map none=>some false
  |some (.func _ _ _),.nilFunc,.nilFunc=>some true
  |some (.func _ _ _),.nilFunc,.func _ _ _=>some false
  |some (.func _ _ _),.func _ _ _,.nilFunc=>some false
  |some (.interface _),.nilIface,.iface _ _=>some false
  |some (.interface _),.iface _ _,.nilIface=>some false
  | some (.interface _), .iface tx vx, .iface ty vy => bif decide (tx = ty) then
    match P.info? tx with
    |some i=>bif i.comparable then xeq P d tx vx vy else none
    |none=>none
   else some false
  |_,_,_=>none
theorem aj5 {P : Program} {σ : Sg} {d : Nat} {eq : TypeId → Value → Value → Option Bool}
  (hq:∀t x y b,eq t x y=some b-> ∀x' y',VR σ x x'->VR σ y y'-> ∀w,(Op.equalIn d t x' y').run P w= .ok b w)
  {xs ys:List Value} {xs' ys':Array Value} (hx:VRL σ xs xs'.toList) (hy:VRL σ ys ys'.toList) (w:World):
  ∀ {fs:List Field} {b:Bool},aC0 P eq xs ys fs=some b->(Op.eqFields d xs' ys' fs).run P w= .ok b w
 | [],b,h=>by simp[aC0]at h;subst h;simp[Op.eqFields]
 |f::fs,b,h=>by
  simp only[aC0]at h
  by_cases hn:f.name= "_"
  ·have:(f.name== "_")=true:=by simpa using hn
   rw[this,bH1]at h;simp only[Op.eqFields,hn,ne_eq,not_true_eq_false,bO5];exact aj5 hq hx hy w h
  ·have:(f.name== "_")=false:=by simpa using hn
   rw[this,bH2]at h;split at h
   ·rename_i a c ha hc
    obtain⟨a',hva,hra⟩:=N7 ha hx;obtain⟨c',hvc,hrc⟩:=N7 hc hy;simp only[Op.eqFields,ne_eq,hn,bL0,bO6,bI3,hra,hrc,bH9];split at h
    ·rename_i he
     rw[hq _ _ _ _ he _ _ hva hvc w];simp only[bH9,Bool.not_true,bM6,bO5];exact aj5 hq hx hy w h
    ·rename_i he
     rw[hq _ _ _ _ he _ _ hva hvc w];simp only[bF4]at h;subst h;simp only[bH9,Bool.not_false,bO6,bI8]
    ·cases h
   ·cases h
theorem ap9 {P : Program} {σ : Sg} : ∀ (d : Nat) (t : TypeId) (x y : Value) (b : Bool), xeq P d t x y = some b → ∀ x' y', VR σ x x' → VR σ y y' →
  ∀w,(Op.equalIn d t x' y').run P w= .ok b w:=by
 intro d
 induction d with
 |zero=>intro t x y b h;simp[xeq]at h
 |succ d ih=>
  intro t x y b h x' y' hx hy w;simp only[xeq]at h;split at h
  ·rename_i a c hu;cases hx;cases hy;simp only[bF4]at h;subst h;simp[Op.equalIn,bH8 hu]
  ·rename_i k k' a k'' c hu
   cases hx;cases hy;cases hk:decide (k'=k'')with
   |false=>rw[hk]at h;cases h
   |true=>
    rw[hk]at h;simp only[bH5]at hk;subst hk;simp only[bH1,bF4]at h;subst h;rw[run_equalIn_int w d t _ _ _ _ hu]
    congr 1
  ·rename_i hu
   obtain⟨rfl,k,n,m,rfl,rfl,hne⟩:=ax6 h hx hy;rw[run_equalIn_int w d t _ _ _ _ hu];simp[hne]
  ·rename_i hu
   obtain⟨rfl,k,n,m,rfl,rfl,hne⟩:=ax6 h hx hy;rw[run_equalIn_int w d t _ _ _ _ hu];simp[hne]
  ·rename_i a c hu;cases hx;cases hy;simp only[bF4]at h;subst h
   rw[run_equalIn_string w d t _ _ hu,bP8,bP8]
  ·rename_i e c hu;simp only[bF4]at h;subst h
   cases hx;have hn:∃c',y'= .pointer c'/\c'.isNone=c.isNone:=by cases hy<;>exact⟨_,rfl,rfl⟩
   obtain⟨c',rfl,hn⟩:=hn;simp[Op.equalIn,bH8 hu,hn]
  ·rename_i e c hu;simp only[bF4]at h;subst h
   cases hx<;>cases hy<;>simp[Op.equalIn,bH8 hu]
  ·rename_i e i o j q hu
   cases hx with
   |ptr _ _ p hp=>
   cases hy with
   |ptr _ _ r hr=>
   cases hij:Nat.beq i j with
   |false=>rw[hij]at h;cases h
   |true=>
    rw[hij]at h;have hij:=bF9 hij;subst hij;have hpr:p=r:=bI0 (hp.symm.trans hr);subst hpr;simp only[bH1]at h;split at h
    ·rename_i ie hie
     cases hz:Nat.beq ie.size 0 with
     |true=>rw[hz]at h;cases h
     |false=>
      rw[hz]at h;simp only[bH2,bF4]at h;subst h;have hz':ie.size≠0:=fun e=>by rw[e]at hz;cases hz
      simp only[Op.equalIn,bI3,bH8 hu,bH9,sizeOf,typeInfo,bP7,hie,bI8,ne_eq,hz',bL0,bO6,sameAddr,beq_self_eq_true]
      congr 1
      by_cases e:o=q
      ·subst e;rw[j9 rfl];simp
      ·rw[u6 e]
       simp
    ·cases h
  ·rename_i fs xs ys hu
   cases hs:P.stoodInHeld t with
   |true=>rw[hs]at h;cases h
   |false=>
    rw[hs,bH2]at h;obtain⟨xs',rfl,hx'⟩:=VRL.of_agg hx;obtain⟨ys',rfl,hy'⟩:=VRL.of_agg hy;have hf:P.fieldsOf t=fs:=by simp[Program.fieldsOf,hu]
    rw[run_equalIn_struct w d t xs' ys' (by rw[hf];exact hu) hs,hf]
    exact aj5 (fun t x y b hb x' y' h1 h2 w=>ih t x y b hb x' y' h1 h2 w) hx' hy' w h
  ·rename_i e l c b' l' c' hu;simp only[bF4]at h;subst h
   cases hx;have hn:∃b2 l2 c2,y'= .slice b2 l2 c2/\b2.isNone=b'.isNone:=by cases hy<;>exact⟨_,_,_,rfl,rfl⟩
   obtain⟨b2,l2,c2,rfl,hn⟩:=hn;simp[Op.equalIn,bH8 hu,hn]
  ·rename_i e a l c l' c' hu;simp only[bF4]at h;subst h
   cases hx<;>cases hy<;>simp[Op.equalIn,bH8 hu]
  ·rename_i k e b' hu;simp only[bF4]at h;subst h
   cases hx;have hn:∃b2,y'= .map b2/\b2.isNone=b'.isNone:=by cases hy<;>exact⟨_,rfl,rfl⟩
   obtain⟨b2,rfl,hn⟩:=hn;simp[Op.equalIn,bH8 hu,hn]
  ·rename_i k e a hu;simp only[bF4]at h;subst h
   cases hx;cases hy;simp[Op.equalIn,bH8 hu]
  ·rename_i hu;simp only[bF4]at h;subst h;cases hx;cases hy;simp[Op.equalIn,bH8 hu]
  ·rename_i hu;simp only[bF4]at h;subst h;cases hx;cases hy;simp[Op.equalIn,bH8 hu]
  ·rename_i hu;simp only[bF4]at h;subst h;cases hx;cases hy;simp[Op.equalIn,bH8 hu]
  ·rename_i hu;simp only[bF4]at h;subst h;cases hx;cases hy;simp[Op.equalIn,bH8 hu]
  ·rename_i hu;simp only[bF4]at h;subst h;cases hx;cases hy;simp[Op.equalIn,bH8 hu]
  ·rename_i ms tx vx ty vy hu
   cases hx with
   |iface _ _ ux hvx=>
   cases hy with
   |iface _ _ uy hvy=>
   cases ht:decide (tx=ty)with
   |false=>
    rw[ht]at h;simp only[bH2,bF4]at h;subst h;simp only[bK2]at ht;simp[Op.equalIn,bH8 hu,ht]
   |true=>
    rw[ht]at h;simp only[bH5]at ht;subst ht;simp only[bH1]at h;split at h
    ·rename_i i hi
     cases hc:i.comparable with
     |false=>rw[hc]at h;cases h
     |true=>
      rw[hc,bH1]at h;have:=ih tx vx vy b h ux uy hvx hvy w;simp[Op.equalIn,bH8 hu,typeInfo,hi,hc,this]
    ·cases h
  ·cases h
def aj4 (op:BinOp)(a b:Int):Option Value:=
 match op with
 | .eql=>some (.bool (decide (a=b)))
 | .neq=>some (.bool (!decide (a=b)))
 | .lss=>some (.bool (decide (a<b)))
 | .leq=>some (.bool (decide (a<=b)))
 | .gtr=>some (.bool (decide (b<a)))
 | .geq=>some (.bool (decide (b<=a)))
 |_=>none
def A9 (op:BinOp)(k:IntKind)(a b:Int):Option Value:=
 match op with
 | .add=>some (.int k (k.wrap (a+b)))
 | .sub=>some (.int k (k.wrap (a-b)))
 | .mul=>some (.int k (k.wrap (a*b)))
 | .quo=>bif decide (b=0)then none else some (.int k (k.wrap (a.tdiv b)))
 | .rem=>bif decide (b=0)then none else some (.int k (a.tmod b))
 | .and| .or| .xor| .andNot=>some (.int k (bits op k a b))
 |_=>aj4 op a b
def aq5 (op:BinOp)(k:IntKind)(a b:Int):Option Value:=
 bif decide (b<0)then none else
 match op with
 | .shl=>some (.int k (k.wrap (a*2^(min b.toNat k.bits))))
 | .shr=>some (.int k (a.fdiv (2^(min b.toNat k.bits))))
 |_=>none
def by6 (op:BinOp)(a b:ByteArray):Option Value:=
 match op with
 | .add=>bif Nat.ble (a.data.toList.length+b.data.toList.length) 1000000000 then some (.string ⟨(a.data.toList++b.data.toList).toArray⟩)else none
 | .eql=>some (.bool (a.data.toList==b.data.toList))
 | .neq=>some (.bool (!(a.data.toList==b.data.toList)))
 | .lss=>some (.bool (Op.bytesLess a.data.toList b.data.toList))
 | .leq=>some (.bool (Op.bytesLess a.data.toList b.data.toList||a.data.toList==b.data.toList))
 | .gtr=>some (.bool (!(Op.bytesLess a.data.toList b.data.toList||a.data.toList==b.data.toList)))
 | .geq=>some (.bool (!Op.bytesLess a.data.toList b.data.toList))
 |_=>none
def I0 (P:Program)(t:TypeId):Value->Bool
 | .agg _=> !P.eqGuardType P.depth t
 | .nilIface=>false
 | .complex _ _ _=>false
 | .float _ _=>false
 |_=>true
def Z5 (P:Program)(op:BinOp)(t:TypeId)(x y:Value):Option Value:=
 match x,y with
 | .int k a,.int k' b=>match op with
  | .shl| .shr=>aq5 op k a b
  |_=>bif decide (k=k')then A9 op k a b else none
 | .string a,.string b=>by6 op a b
 |_,.complex _ _ _=>none
 |x,y=>match op with
  | .eql=>bif I0 P t x then match xeq P 10000 t x y with
   |some b=>some (.bool b)
   |none=>none else none
  | .neq=>bif I0 P t x then match xeq P 10000 t x y with
   |some b=>some (.bool (!b))
   |none=>none else none
  |_=>none
theorem N2 {σ:Sg}{P:Program}{op:BinOp}{a b:Int}{v:Value}(h:aj4 op a b=some v):VR σ v v/\ ∀w,(Op.intCmp op a b).run P w= .ok v w:=by
 cases op<;>simp only[aj4,bF4,reduceCtorEq]at h<;>subst h<;>refine⟨.bool _,fun w=>?_⟩<;>simp[Op.intCmp]<;>by_cases e:a=b<;>simp[e]
theorem aN2 {σ : Sg} {P : Program} {op : BinOp} {k : IntKind} {a b : Int} {v : Value} (h : A9 op k a b = some v) (h1 : op ≠ .shl) (h2 : op ≠ .shr) (t : TypeId) :
  VR σ v v/\ ∀w,(binOp op t (.int k a) (.int k b)).run P w= .ok v w:=by
 cases op
 case shl=>exact absurd rfl h1
 case shr=>exact absurd rfl h2
 case quo=>
  simp only[A9]at h;cases hb:decide (b=0)with
  |true=>rw[hb]at h;cases h
  |false=>
   rw[hb]at h;simp only[bK2]at hb;simp only[bH2,bF4]at h;subst h;exact⟨.int _ _,fun w=>by simp[binOp_quo,Op.intDiv,hb]⟩
 case rem=>
  simp only[A9]at h;cases hb:decide (b=0)with
  |true=>rw[hb]at h;cases h
  |false=>
   rw[hb]at h;simp only[bK2]at hb;simp only[bH2,bF4]at h;subst h;exact⟨.int _ _,fun w=>by simp[binOp_rem,Op.intDiv,hb]⟩
 case add=>simp only[A9,bF4]at h;subst h;exact⟨.int _ _,fun w=>by simp[binOp_add,Op.intArith]⟩
 case sub=>simp only[A9,bF4]at h;subst h;exact⟨.int _ _,fun w=>by simp[binOp_sub,Op.intArith]⟩
 case mul=>simp only[A9,bF4]at h;subst h;exact⟨.int _ _,fun w=>by simp[binOp_mul,Op.intArith]⟩
 case and=>simp only[A9,bF4]at h;subst h;exact⟨.int _ _,fun w=>by simp[binOp_and,intBits_and]⟩
 case or=>simp only[A9,bF4]at h;subst h;exact⟨.int _ _,fun w=>by simp[binOp_or,intBits_or]⟩
 case xor=>simp only[A9,bF4]at h;subst h;exact⟨.int _ _,fun w=>by simp[binOp_xor,intBits_xor]⟩
 case andNot=>simp only[A9,bF4]at h;subst h;exact⟨.int _ _,fun w=>by simp[binOp_andNot,intBits_andNot]⟩
 case eql=>
  obtain⟨h3,h4⟩:=N2 (σ:=σ) (P:=P) (op:= .eql) h;exact⟨h3,fun w=>by simpa [binOp]using h4 w⟩
 case neq=>
  obtain⟨h3,h4⟩:=N2 (σ:=σ) (P:=P) (op:= .neq) h;exact⟨h3,fun w=>by simpa [binOp]using h4 w⟩
 case lss=>
  obtain⟨h3,h4⟩:=N2 (σ:=σ) (P:=P) (op:= .lss) h;exact⟨h3,fun w=>by simpa [binOp]using h4 w⟩
 case leq=>
  obtain⟨h3,h4⟩:=N2 (σ:=σ) (P:=P) (op:= .leq) h;exact⟨h3,fun w=>by simpa [binOp]using h4 w⟩
 case gtr=>
  obtain⟨h3,h4⟩:=N2 (σ:=σ) (P:=P) (op:= .gtr) h;exact⟨h3,fun w=>by simpa [binOp]using h4 w⟩
 case geq=>
  obtain⟨h3,h4⟩:=N2 (σ:=σ) (P:=P) (op:= .geq) h;exact⟨h3,fun w=>by simpa [binOp]using h4 w⟩
theorem an9 {σ : Sg} {P : Program} {op : BinOp} {k yk : IntKind} {a b : Int} {v : Value} (h : aq5 op k a b = some v) :
  VR σ v v/\ ∀w,(Op.shift op k a yk b).run P w= .ok v w:=by
 unfold aq5 at h;cases hb:decide (b<0)with
 |true=>rw[hb]at h;cases h
 |false=>
  rw[hb,bH2]at h;simp only[bK2]at hb;split at h
  ·simp only[bF4]at h;subst h;exact⟨.int _ _,fun w=>by simp[Op.shift,hb]⟩
  ·simp only[bF4]at h;subst h;exact⟨.int _ _,fun w=>by simp[Op.shift,hb]⟩
  ·cases h
theorem ao0 (a b:ByteArray):a++b=⟨(a.data.toList++b.data.toList).toArray⟩:=by
 apply ByteArray.ext
 simp[ByteArray.data_append]
theorem be6 {σ : Sg} {P : Program} {op : BinOp} {a b : ByteArray} {v : Value} (h : by6 op a b = some v) :
  VR σ v v/\ ∀w,(Op.stringOp op a b).run P w= .ok v w:=by
 cases op<;>simp only[by6,bF4,reduceCtorEq]at h
 case add=>
  cases hb:Nat.ble (a.data.toList.length+b.data.toList.length) 1000000000 with
  |false=>rw[hb]at h;cases h
  |true=>
   rw[hb]at h;simp only[bH1,bF4]at h;subst h;have hb:=bF8 hb;have e1:a.size=a.data.toList.length:=by simp
   have e2:b.size=b.data.toList.length:=by simp
   have hle:¬((a.size+b.size:Nat):Int)>IntKind.i64.max:=by rw[IntKind.max_i64,e1,e2];omega
   refine⟨.string _,fun w=>?_⟩
   simp only[Op.stringOp,bH4 hle,bI8,ao0]
 all_goals
  subst h;refine⟨.bool _,fun w=>?_⟩
  simp only[Op.stringOp,bP8,bI8]
theorem aj2 {P : Program} {σ : Sg} {op : BinOp} {t : TypeId} {x y x' y' : Value} {v : Value} (h : Z5 P op t x y = some v) (hx : VR σ x x') (hy : VR σ y y') (ox oy : Operand) :
  VR σ v v/\ ∀w,((eqGuard op t ox oy x' y').run P w= .ok () w)/\(binOp op t x' y').run P w= .ok v w:=by
 unfold Z5 at h;split at h
 ·rename_i k a k' b
  cases hx;cases hy;split at h
  ·obtain⟨h1,h2⟩:=an9 (σ:=σ) (P:=P) (yk:=k') h
   exact⟨h1,fun w=>⟨by rw[eqGuard_at_int];rfl,by rw[binOp_shl];exact h2 w⟩⟩
  ·obtain⟨h1,h2⟩:=an9 (σ:=σ) (P:=P) (yk:=k') h
   exact⟨h1,fun w=>⟨by rw[eqGuard_at_int];rfl,by rw[binOp_shr];exact h2 w⟩⟩
  ·rename_i hn1 hn2
   cases hk:decide (k=k')with
   |false=>rw[hk]at h;cases h
   |true=>
    rw[hk]at h;simp only[bH5]at hk;subst hk;obtain⟨h1,h2⟩:=aN2 (σ:=σ) (P:=P) (show A9 op k a b=some v from h) hn1 hn2 t;exact⟨h1,fun w=>⟨by rw[eqGuard_at_int];rfl,h2 w⟩⟩
 ·rename_i a b
  cases hx;cases hy;obtain⟨h1,h2⟩:=be6 (σ:=σ) (P:=P) h;exact⟨h1,fun w=>⟨by rw[eqGuard_at_string];rfl,by cases op<;>exact h2 w⟩⟩
 ·cases h
 ·rename_i hnc hni hns
  have hg : I0 P t x = true → ∀ w, (eqGuard op t ox oy x' y').run P w = .ok () w := by
   intro hg w;cases hx <;> first
    | (simp[I0]at hg;done)
    | (simp only [I0, bK0] at hg
       cases hy<;>first| (rw[run_eqGuard_agg (h:=w) _ _ _ _ _ _ hg];done)| (exact run_eqGuard_agg w op t ox oy _ _ hg)| (cases op<;>rfl))
    | (cases op<;>rfl)
  have heq:∀b,xeq P 10000 t x y=some b-> ∀w,(Op.equal t x' y').run P w= .ok b w:=fun b hb w=>ap9 10000 t x y b hb x' y' hx hy w
  have hne : I0 P t x = true → (∀ w, (binOp .eql t x' y').run P w = (do pure (.bool (← Op.equal t x' y')) : Sem Value).run P w) ∧
    (∀w,(binOp .neq t x' y').run P w=(do pure (.bool (!(<-Op.equal t x' y'))):Sem Value).run P w):=by
   intro hgb
   constructor<;>intro w<;>cases hx<;>cases hy<;>first|rfl| (exact(hni _ _ _ _ rfl rfl).elim)| (exact(hns _ _ rfl rfl).elim)| (exact(hnc _ _ _ rfl).elim)| (simp[I0]at hgb)
  split at h
  ·cases hgb:I0 P t x with
   |false=>rw[hgb]at h;cases h
   |true=>
    rw[hgb,bH1]at h;split at h
    ·rename_i b hb
     simp only[bF4]at h;subst h;exact⟨.bool _,fun w=>⟨hg hgb w,by rw[(hne hgb).1 w];simp only[bI3,heq b hb w,bH9,bI8]⟩⟩
    ·cases h
  ·cases hgb:I0 P t x with
   |false=>rw[hgb]at h;cases h
   |true=>
    rw[hgb,bH1]at h;split at h
    ·rename_i b hb
     simp only[bF4]at h;subst h;exact⟨.bool _,fun w=>⟨hg hgb w,by rw[(hne hgb).2 w];simp only[bI3,heq b hb w,bH9,bI8]⟩⟩
    ·cases h
  ·cases h
end Go.Xe
end PartXm5
noncomputable section PartXm6
namespace Go.Xe
open Go.RowKit
def bC9 (n:Int):Option Value:=some (.string (Utf8.encode n))
def ah3 (P:Program)(src dst:TypeId)(x:Value):Option Value:=
 match P.underlying src with
 |none=>none
 |some _=>match P.underlying dst,x with
  |some (.int k),.int _ n=>some (.int k (k.wrap n))
  |some .string,.string s=>some (.string s)
  |some .string,.int _ n=>bC9 n
  |some (.int .i64),.complex _ lo hi=>bif Nat.ble 1 hi&&Nat.ble hi unk then some (.complex .f64 (Y1 lo) hi)else none
  |some (.int .u64),.complex _ lo hi=>bif Nat.ble 1 hi&&Nat.ble hi unk then some (.complex .f32 (Y1 lo+18446744073709551616) hi)else none
  |_,_=>none
theorem aW6 {P : Program} {σ : Sg} {src dst : TypeId} {x x' v : Value} (h : ah3 P src dst x = some v) (hx : VR σ x x') :
  ∃u,VR σ v u/\ ∀w,(convert src dst x').run P w= .ok u w:=by
 unfold ah3 at h;split at h
 ·cases h
 ·rename_i d hs
  split at h
  ·rename_i k k' n hd
   cases hx;simp only[bF4]at h;subst h;exact⟨_,.int _ _,fun w=>by simp[convert,bH8 hs,bH8 hd,Conv.intToInt]⟩
  ·rename_i s hd
   cases hx;simp only[bF4]at h;subst h;exact⟨_,.string _,fun w=>by simp[convert,bH8 hs,bH8 hd]⟩
  ·rename_i k n hd
   cases hx;unfold bC9 at h;simp only[bF4]at h;subst h;exact⟨_,.string _,fun w=>by simp[convert,bH8 hs,bH8 hd,Conv.intToString]⟩
  ·rename_i f lo hi hd
   cases hb:Nat.ble 1 hi&&Nat.ble hi unk with
   |false=>rw[hb]at h;cases h
   |true=>
    rw[hb,bH1]at h;simp only[bF5]at hb;have b1:=bF8 hb.1;have b2:=bF8 hb.2;simp only[bF4]at h;subst h;cases hx with
    |ival _ _ _ n h1 h2=>
     have hn:n<unk:=by omega
     refine⟨_,.ival .f64 (Y1 lo) hi n (bL2 (aK5 _) h1) h2,fun w=>?_⟩
     have hw:IntKind.i64.wrap (n:Int)=n:=by rw[IntKind.wrap_i64];unfold unk at hn;omega
     simp[convert,bH8 hs,bH8 hd,Conv.intToInt,hw,Q0,aQ7]
  ·rename_i f lo hi hd
   cases hb:Nat.ble 1 hi&&Nat.ble hi unk with
   |false=>rw[hb]at h;cases h
   |true=>
    rw[hb,bH1]at h;simp only[bF5]at hb;have b1:=bF8 hb.1;have b2:=bF8 hb.2;simp only[bF4]at h;subst h;cases hx with
    |ival _ _ _ n h1 h2=>
     have hn:n<unk:=by omega
     have e1:Y1 (Y1 lo+18446744073709551616)=Y1 lo:=by unfold Y1;omega
     have e2:Q0 .f32 (Y1 lo+18446744073709551616)= .u64:=by
      have:(Y1 lo+18446744073709551616)/18446744073709551616=1:=by unfold Y1;omega
      rw[Q0,this,aQ7]
     refine⟨_,.ival .f32 (Y1 lo+18446744073709551616) hi n (by rw[e1];exact h1) h2,fun w=>?_⟩
     have hw:IntKind.u64.wrap (n:Int)=n:=by rw[IntKind.wrap_u64];unfold unk at hn;omega
     simp[convert,bH8 hs,bH8 hd,Conv.intToInt,hw,e2]
  ·cases h
def xun (op:UnOp)(x:Value):Option Value:=
 match op,x with
 | .neg,.int k n=>some (.int k (k.wrap (0-n)))
 | .not,.bool b=>some (.bool (!b))
 |_,_=>none
theorem bp7 {P : Program} {σ : Sg} {op : UnOp} {x x' v : Value} (h : xun op x = some v) (hx : VR σ x x') :
  VR σ v v/\ ∀w,(Op.unary op x').run P w= .ok v w:=by
 unfold xun at h;split at h
 ·cases hx;simp only[bF4]at h;subst h;exact⟨.int _ _,fun w=>by simp[Op.unary,Op.intArith]⟩
 ·cases hx;simp only[bF4]at h;subst h;exact⟨.bool _,fun w=>by simp[Op.unary]⟩
 ·cases h
def aj7 (P:Program)(t:TypeId)(x:Value):Option Value:=
 match P.underlying t with
 |some (.interface _)=>none
 |some _=>some (.iface t x)
 |none=>none
theorem aN8 {P : Program} {σ : Sg} {t : TypeId} {x x' v : Value} (h : aj7 P t x = some v) (hx : VR σ x x') :
  ∃u,VR σ v u/\ ∀w,(Instr.makeInterface t x').run P w= .ok u w:=by
 unfold aj7 at h;split at h
 ·cases h
 ·rename_i d hd hu
  simp only[bF4]at h;subst h;refine⟨_,.iface t x x' hx,fun w=>?_⟩
  simp only[Instr.makeInterface,bI3,bH8 hu,bH9];cases d<;>first|rfl| (exact(hd _ rfl).elim)
 ·cases h
def J2 (P:Program)(s:TypeId)(x:Value)(f:Nat):Option Value:=
 match P.underlying s with
 |some (.struct fs)=>match fs.toList[f]? with
  |some fd=>match P.info? fd.type with
   |some i=>bif Nat.beq i.size 0 then none else
    match x with
    | .pointer (some ⟨b,o,none⟩)=>some (.pointer (some ⟨b,o+fd.offset,none⟩))
    | .pointer (some ⟨b,o,some 1⟩)=>some (.pointer (some ⟨b,o+fd.offset,some 1⟩))
    |_=>none
   |none=>none
  |none=>none
 |_=>none
theorem aq0 {P : Program} {σ : Sg} {s : TypeId} {x x' v : Value} {f : Nat} (h : J2 P s x f = some v) (hx : VR σ x x') :
  ∃u,VR σ v u/\ ∀w,(Instr.fieldAt s x' f).run P w= .ok u w:=by
 unfold J2 at h;split at h
 ·rename_i fs hu
  split at h
  ·rename_i fd hf
   split at h
   ·rename_i i hi
    cases hz:Nat.beq i.size 0 with
    |true=>rw[hz]at h;cases h
    |false=>
     rw[hz,bH2]at h;have hz':i.size≠0:=fun e=>by rw[e]at hz;cases hz
     split at h
     ·rename_i b o
      simp only[bF4]at h;subst h;cases hx with
      |ptr _ _ p hp=>
      have hf':fs[f]? =some fd:=by simpa using hf
      refine⟨_,.ptr b (o+fd.offset) p hp,fun w=>?_⟩
      simp[Instr.fieldAt,bH8 hu,hf',Instr.sureAddr,fieldPlace,sizeOf,typeInfo,hi,hz',bO7,bL4]
     ·rename_i b o
      simp only[bF4]at h;subst h;cases hx with
      |rptr _ _ p hp=>
      have hf':fs[f]? =some fd:=by simpa using hf
      refine⟨_,.rptr b (o+fd.offset) p hp,fun w=>?_⟩
      simp[Instr.fieldAt,bH8 hu,hf',Instr.sureAddr,fieldPlace,sizeOf,typeInfo,hi,hz',bO7]
     ·cases h
   ·cases h
  ·cases h
 ·cases h
def B4 (P:Program)(t:TypeId)(x ix:Value):Option Value:=
 match ix with
 | .int _ n=>match P.underlying t with
  |some (.slice e)=>match P.info? e with
   |some ie=>match x with
    | .slice (some ⟨b,o,none⟩) len _=>bif decide (0<=n)&&decide (n<len)then some (.pointer (some ⟨b,o+n.toNat*ie.size,none⟩))else none
    |_=>none
   |none=>none
  |some (.array len e)=>match P.info? e with
   |some ie=>match x with
    | .pointer (some ⟨b,o,none⟩)=>bif decide (0<=n)&&decide (n<len)then some (.pointer (some ⟨b,o+n.toNat*ie.size,none⟩))else none
    |_=>none
   |none=>none
  |_=>none
 |_=>none
theorem aq1 {P : Program} {σ : Sg} {t : TypeId} {x x' i i' v : Value} (h : B4 P t x i = some v) (hx : VR σ x x') (hi : VR σ i i') :
  ∃u,VR σ v u/\ ∀w,(Instr.indexAt t x' i').run P w= .ok u w:=by
 unfold B4 at h;split at h
 ·rename_i k n
  cases hi;split at h
  ·rename_i e hu
   split at h
   ·rename_i ie hie
    split at h
    ·rename_i b o len c
     cases hx with
     |slice _ _ p _ _ c' hp hc hl=>
     cases hb:decide (0<=n)&&decide (n<len)with
     |false=>rw[hb]at h;cases h
     |true=>
      rw[hb,bH1]at h;simp only[bF5,bH5]at hb;simp only[bF4]at h;subst h;refine⟨_,.ptr b _ p hp,fun w=>?_⟩
      simp[Instr.indexAt,asIntOf,bH8 hu,hb,sizeOf,typeInfo,hie,bO7,bL4]
    ·cases h
   ·cases h
  ·rename_i len e hu
   split at h
   ·rename_i ie hie
    split at h
    ·rename_i b o
     cases hx with
     |ptr _ _ p hp=>
     cases hb:decide (0<=n)&&decide (n<len)with
     |false=>rw[hb]at h;cases h
     |true=>
      rw[hb,bH1]at h;simp only[bF5,bH5]at hb;simp only[bF4]at h;subst h;refine⟨_,.ptr b _ p hp,fun w=>?_⟩
      simp[Instr.indexAt,asIntOf,bH8 hu,Instr.sureAddr,hb,sizeOf,typeInfo,hie,bO7,bL4]
    ·cases h
   ·cases h
  ·cases h
 ·cases h
def au7 (P:Program)(t:TypeId)(x:Value):Option Value:=
 match P.underlying t,x with
 |some .string,.string s=>some (.int .i64 s.data.toList.length)
 |some (.array n _),_=>some (.int .i64 n)
 |some (.slice _),.slice _ n _=>some (.int .i64 n)
 |some (.map _ _),.map none=>some (.int .i64 0)
 |_,_=>none
theorem aC5 {P : Program} {σ : Sg} {t : TypeId} {x x' v : Value} (h : au7 P t x = some v) (hx : VR σ x x') (ty : TypeId) (ats : Array TypeId) (hat : ats[0]? = some t) :
  VR σ v v/\ ∀w,(Builtin.len_ ats ty #[x']).run P w= .ok v w:=by
 unfold au7 at h;split at h
 ·rename_i s hu
  cases hx;simp only[bF4]at h;subst h;refine⟨.int _ _,fun w=>?_⟩
  simp[Builtin.len_,hat,bH8 hu,goInt]
 ·rename_i n e hu
  simp only[bF4]at h;subst h;refine⟨.int _ _,fun w=>?_⟩
  simp[Builtin.len_,hat,bH8 hu,goInt]
 ·rename_i e b n c hu
  simp only[bF4]at h;subst h;refine⟨.int _ _,fun w=>?_⟩
  cases hx<;>simp[Builtin.len_,hat,bH8 hu,goInt]
 ·rename_i k e hu
  simp only[bF4]at h;subst h;refine⟨.int _ _,fun w=>?_⟩
  cases hx;simp[Builtin.len_,hat,bH8 hu,goInt]
 ·cases h
def am9 (P:Program)(t:TypeId)(x:Value):Option Value:=
 match P.underlying t,x with
 |some (.slice _),.slice none _ c=>some (.int .i64 c)
 |some (.slice _),.slice (some _) n c=>bif Nat.ble unk c then some (.complex .f64 (Nat.max (I4 c) n) (B5 c))else some (.int .i64 c)
 |some (.array n _),_=>some (.int .i64 n)
 |_,_=>none
theorem bd6 {P : Program} {σ : Sg} {t : TypeId} {x x' v : Value} (h : am9 P t x = some v) (hx : VR σ x x') (ty : TypeId) (ats : Array TypeId) (hat : ats[0]? = some t) :
  ∃u,VR σ v u/\ ∀w,(Builtin.cap_ ats ty #[x']).run P w= .ok u w:=by
 unfold am9 at h;split at h
 ·rename_i e n c hu
  simp only[bF4]at h;subst h;cases hx;refine⟨_,.int _ _,fun w=>?_⟩
  simp[Builtin.cap_,hat,bH8 hu,goInt]
 ·rename_i e b n c hu
  have run:∀b' n' c' w,(Builtin.cap_ ats ty #[.slice b' n' c']).run P w= .ok (.int .i64 c') w:=fun b' n' c' w=>by simp[Builtin.cap_,hat,bH8 hu,goInt]
  cases hc:Nat.ble unk c with
  |true=>
   rw[hc,bH1]at h;simp only[bF4]at h;subst h;have hc:=bF8 hc;cases hx with
   |slice i o p _ _ c' hp hcc hl=>
    rcases hcc with⟨_,h2⟩| ⟨_,h2,h3,_⟩
    ·omega
    ·exact⟨_,.ival .f64 _ _ c' (bL2 (aK5 _) (Nat.max_le.2 ⟨h2,hl⟩)) h3,run _ _ _⟩
   |vague q c'=>exact⟨_,.ival .f64 _ _ c' (bL2 (aK5 _) (Nat.max_le.2 ⟨by rw[bF1];exact bP0 _,bP0 _⟩)) (.inl bF0),run _ _ _⟩
  |false=>
   rw[hc,bH2]at h;simp only[bF4]at h;subst h;have hc':¬unk<=c:=fun h=>by rw[bG1 h]at hc;cases hc
   cases hx with
   |slice i o p _ _ c' hp hcc hl=>
    rcases hcc with⟨rfl,_⟩| ⟨h1,_⟩
    ·exact⟨_,.int _ _,run _ _ _⟩
    ·exact absurd h1 hc'
   |vague q c'=>exact absurd (bH7 _) hc'
 ·rename_i n e hu
  simp only[bF4]at h;subst h;refine⟨_,.int _ _,fun w=>?_⟩
  simp[Builtin.cap_,hat,bH8 hu,goInt]
 ·cases h
def br5 (op:BinOp)(a b:Nat×Nat):Option Value:=
 match op with
 | .lss=>(S5 a b).map .bool
 | .gtr=>(S5 b a).map .bool
 | .leq=>(S5 b a).map fun r=>.bool (!r)
 | .geq=>(S5 a b).map fun r=>.bool (!r)
 | .eql=>bif X8 a b then some (.bool false)else none
 | .neq=>bif X8 a b then some (.bool true)else none
 |_=>none
def irem (op:BinOp)(x y:Value):Option Value:=
 match op,x,y with
 | .rem,.complex f lo _,.int k (.ofNat c)=>bif decide (Q0 f lo=k)&&Nat.ble 1 c then some (.complex f (lo/18446744073709551616*18446744073709551616) c)else none
 |_,_,_=>none
def aW0 (op:BinOp)(x y:Value):Option Value:=
 match K5 x,K5 y with
 |some (k,a),some (k',b)=>bif decide (k=k')then br5 op a b else none
 |_,_=>none
theorem M9 {P : Program} {σ : Sg} {op : BinOp} {t : TypeId} {k : IntKind} {n m : Nat} {r : Bool} (h : aj4 op (n : Int) (m : Int) = some (.bool r)) (h1 : op ≠ .shl) (h2 : op ≠ .shr) (hx : A9 op k (n : Int) (m : Int) = aj4 op (n : Int) (m : Int)) (ox oy : Operand) :
  ∃u,VR σ (.bool r) u/\ ∀w,((eqGuard op t ox oy (.int k n) (.int k m)).run P w= .ok () w)/\(binOp op t (.int k n) (.int k m)).run P w= .ok u w:=by
 have hb:Z5 P op t (.int k n) (.int k m)=some (.bool r):=by
  have:=hx.trans h;cases op<;>first|exact absurd rfl h1|exact absurd rfl h2| (simp only[Z5,bL1,bH1];exact this)
 obtain⟨g1,g2⟩:=aj2 (σ:=σ) hb (.int k n) (.int k m) ox oy;exact⟨_,g1,g2⟩
theorem aW1 {P : Program} {σ : Sg} {op : BinOp} {t : TypeId} {x y x' y' : Value} {v : Value} (h : aW0 op x y = some v) (hx : VR σ x x') (hy : VR σ y y') (ox oy : Operand) :
  ∃u,VR σ v u/\ ∀w,((eqGuard op t ox oy x' y').run P w= .ok () w)/\(binOp op t x' y').run P w= .ok u w:=by
 have main:∀(f:IntKind) (a b:Nat×Nat),K5 x=some (f,a)->K5 y=some (f,b)->br5 op a b=some v-> ∃u,VR σ v u/\ ∀w,((eqGuard op t ox oy x' y').run P w= .ok () w)/\(binOp op t x' y').run P w= .ok u w:=by
  intro f a b ha hb h;obtain⟨a1,a2⟩:=a;obtain⟨b1,b2⟩:=b;obtain⟨n,rfl,n1,n2⟩:=O5 ha hx;obtain⟨m,rfl,m1,m2⟩:=O5 hb hy;have lt:∀r,S5 (a1,a2) (b1,b2)=some r->r=decide ((n:Int)<(m:Int)):=fun r hr=>S6 hr n1 n2 m1 m2
  have gt:∀r,S5 (b1,b2) (a1,a2)=some r->r=decide ((m:Int)<(n:Int)):=fun r hr=>S6 hr m1 m2 n1 n2
  have ne:X8 (a1,a2) (b1,b2)=true->(n:Int)≠m:=by
   intro hne;unfold X8 at hne;split at hne
   ·rename_i e;have:=lt _ e;simp at this;omega
   ·split at hne
    ·rename_i e;have:=gt _ e;simp at this;omega
    ·cases hne
  unfold br5 at h;cases op
  case lss=>
   simp only[bN8]at h;obtain⟨r,hr,rfl⟩:=h;exact M9 (by rw[lt r hr];rfl) (by simp) (by simp) rfl ox oy
  case gtr=>
   simp only[bN8]at h;obtain⟨r,hr,rfl⟩:=h;exact M9 (by rw[gt r hr];rfl) (by simp) (by simp) rfl ox oy
  case leq=>
   simp only[bN8]at h;obtain⟨r,hr,rfl⟩:=h;refine M9 ?_ (by simp) (by simp) rfl ox oy
   rw[gt r hr];simp only[aj4]
   congr 2
   by_cases e:(m:Int)<n<;>simp[e]<;>omega
  case geq=>
   simp only[bN8]at h;obtain⟨r,hr,rfl⟩:=h;refine M9 ?_ (by simp) (by simp) rfl ox oy
   rw[lt r hr];simp only[aj4]
   congr 2
   by_cases e:(n:Int)<m<;>simp[e]<;>omega
  case eql=>
   cases hp:X8 (a1,a2) (b1,b2)with
   |false=>simp only[hp,bH2,reduceCtorEq]at h
   |true=>
    simp only[hp,bH1,bF4]at h;subst h;exact M9 (by have:=ne hp;simp[aj4];omega) (by simp) (by simp) rfl ox oy
  case neq=>
   cases hp:X8 (a1,a2) (b1,b2)with
   |false=>simp only[hp,bH2,reduceCtorEq]at h
   |true=>
    simp only[hp,bH1,bF4]at h;subst h;exact M9 (by have:=ne hp;simp[aj4];omega) (by simp) (by simp) rfl ox oy
  all_goals cases h
 unfold aW0 at h;split at h
 ·rename_i k a k' b ha hb
  cases hk:decide (k=k')with
  |false=>rw[hk]at h;cases h
  |true=>
   rw[hk,bH1]at h;have hk:=bN3 hk;subst hk;exact main k a b ha hb h
 ·cases h
theorem aZ0 {P : Program} {σ : Sg} {op : BinOp} {t : TypeId} {x y x' y' : Value} {v : Value} (h : irem op x y = some v) (hx : VR σ x x') (hy : VR σ y y') (ox oy : Operand) :
  ∃u,VR σ v u/\ ∀w,((eqGuard op t ox oy x' y').run P w= .ok () w)/\(binOp op t x' y').run P w= .ok u w:=by
 unfold irem at h;split at h
 ·rename_i f lo hi k c
  cases hb:decide (Q0 f lo=k)&&Nat.ble 1 c with
  |false=>rw[hb]at h;cases h
  |true=>
   rw[hb,bH1,bF4]at h;subst h;simp only[bF5,bH5]at hb;obtain⟨rfl,hc⟩:=hb;have hc:=bF8 hc;cases hx with
   |ival _ _ _ n h1 h2=>
   cases hy;have hx:Z5 P .rem t (.int (Q0 f lo) n) (.int (Q0 f lo) (Int.ofNat c))=some (.int (Q0 f lo) ((n:Int).tmod (Int.ofNat c))):=by
    have hne:decide (Int.ofNat c=0)=false:=by rw[bK2];intro e;cases e;omega
    simp only[Z5,bL1,bH1,A9,hne,bH2]
   obtain⟨_,g2⟩:=aj2 (σ:=σ) hx (.int _ _) (.int _ _) ox oy;refine⟨_,?_,g2⟩;have e1:(n:Int).tmod (Int.ofNat c)=((n % c:Nat):Int):=by
    rw[Int.tmod_eq_emod_of_nonneg (by omega)]
    rfl
   have e2:Q0 f lo=Q0 f (lo/18446744073709551616*18446744073709551616):=by
    unfold Q0;rw[Nat.mul_div_cancel _ (by omega)]
   rw[e1,e2];exact .ival f _ c (n % c) (by unfold Y1;rw[Nat.mul_mod_left];exact bP0 _) (.inr (Nat.mod_lt _ hc))
 ·cases h
def F9 (P:Program)(op:BinOp)(t:TypeId)(x y:Value):Option Value:=
 match Z5 P op t x y with
 |some v=>some v
 |none=>match aW0 op x y with
  |some v=>some v
  |none=>irem op x y
theorem aV9 {P : Program} {σ : Sg} {op : BinOp} {t : TypeId} {x y x' y' : Value} {v : Value} (h : F9 P op t x y = some v) (hx : VR σ x x') (hy : VR σ y y') (ox oy : Operand) :
  ∃u,VR σ v u/\ ∀w,((eqGuard op t ox oy x' y').run P w= .ok () w)/\(binOp op t x' y').run P w= .ok u w:=by
 unfold F9 at h;split at h
 ·rename_i v' hv
  simp only[bF4]at h;subst h;exact⟨_,aj2 hv hx hy ox oy⟩
 ·split at h
  ·rename_i v' hv
   simp only[bF4]at h;subst h;exact aW1 hv hx hy ox oy
  ·exact aZ0 h hx hy ox oy
def ab0 (big:Bool):Value->List Value->Option Value
 |v,[]=>match v with
  | .int k n=>some (.int k n)
  |_=>none
 |v,y::ys=>match v,y with
  | .int k a,.int _ b=>ab0 big (.int k (bif big then(bif decide (a<b)then b else a)else(bif decide (b<a)then b else a))) ys
  |_,_=>none
theorem aC8 {P : Program} {σ : Sg} : ∀ {xs : List Value} {x v : Value} {xs' : List Value} {x' : Value}, ab0 false x xs = some v → VR σ x x' → VRL σ xs xs' →
  VR σ v v/\ ∀w,(xs'.foldlM Builtin.min2 x':Sem Value).run P w= .ok v w
 | [],x,v,xs',x',h,hx,hxs=>by
  rw[hxs.unnil];unfold ab0 at h;split at h
  ·simp only[bF4]at h;subst h;cases hx;exact⟨.int _ _,fun w=>by simp⟩
  ·cases h
 |y::ys,x,v,xs',x',h,hx,hxs=>by
  obtain⟨y',ys',rfl,hy,hys⟩:=hxs.uncons;unfold ab0 at h;split at h
  ·rename_i k a k' b
   cases hx;cases hy;have ih:=aC8 (P:=P) h (.int _ _) hys;refine⟨ih.1,fun w=>?_⟩
   have he:(Builtin.min2 (.int k a) (.int k' b)).run P w= .ok (.int k (bif false then(bif decide (a<b)then b else a)else(bif decide (b<a)then b else a))) w:=by
    simp only[Builtin.min2,bH2,bI8]
    by_cases hb:b<a<;>simp[hb]
   simp only[List.foldlM_cons,bI3,he,bH9];exact ih.2 w
  ·cases h
theorem aC7 {P : Program} {σ : Sg} : ∀ {xs : List Value} {x v : Value} {xs' : List Value} {x' : Value}, ab0 true x xs = some v → VR σ x x' → VRL σ xs xs' →
  VR σ v v/\ ∀w,(xs'.foldlM Builtin.max2 x':Sem Value).run P w= .ok v w
 | [],x,v,xs',x',h,hx,hxs=>by
  rw[hxs.unnil];unfold ab0 at h;split at h
  ·simp only[bF4]at h;subst h;cases hx;exact⟨.int _ _,fun w=>by simp⟩
  ·cases h
 |y::ys,x,v,xs',x',h,hx,hxs=>by
  obtain⟨y',ys',rfl,hy,hys⟩:=hxs.uncons;unfold ab0 at h;split at h
  ·rename_i k a k' b
   cases hx;cases hy;have ih:=aC7 (P:=P) h (.int _ _) hys;refine⟨ih.1,fun w=>?_⟩
   have he:(Builtin.max2 (.int k a) (.int k' b)).run P w= .ok (.int k (bif true then(bif decide (a<b)then b else a)else(bif decide (b<a)then b else a))) w:=by
    simp only[Builtin.max2,bH1,bI8]
    by_cases hb:a<b<;>simp[hb]
   simp only[List.foldlM_cons,bI3,he,bH9];exact ih.2 w
  ·cases h
end Go.Xe
end PartXm6
noncomputable section PartXm7
namespace Go.Xe
open Go.RowKit
def MOK (hp:Hp)(B:BS)(w0:World)(σ:Sg)(v:Value)(hp':Hp)(r:Result Value):Prop:=
 ∃σ' u w',r= .ok u w'/\Sg.gr hp.nx hp'.nx σ σ'/\VR σ' v u/\HR B w0 σ' hp' w'
def Hp.new (hp:Hp)(vs:List Value)(e z:Nat):Hp:=⟨hp.m.set hp.nx (some (.cells (fill .e 0 vs) vs.length e z)),hp.nx+1⟩
section
variable {P :Program}{B:BS}{w0:World}{σ:Sg}{hp:Hp}{w:World}
theorem A3 (vs:List Value)(j:Nat)(hj:j<vs.length):(fill .e 0 vs).get j=vs[j]? :=by
 rw[i8,bH6 (by omega)];simp
theorem HR.new (h : HR B w0 σ hp w) {vs us : List Value} (hv : VRL σ vs us) (e z : Nat) :
  HR B w0 (σ.ext hp.nx ⟨w.heap.size,0,us.length,z⟩) (hp.new vs e z) (w.alloc (.cells us.toArray e)):=by
 have:=h.alloc (fill .e 0 vs) vs.length e z us.toArray (by rw[hv.1];simp) (fun j hj=>by
  have hj':j<us.length:=by rw[<-hv.1];exact hj
  refine⟨vs[j],us[j],by rw[A3 vs j hj];simp[hj],by simp[hj'],hv.2 j _ _ (by simp[hj]) (by simp[hj'])⟩)
 simpa [Hp.new]using this
theorem HR.le_new (h:HR B w0 σ hp w)(p:Pl):Sg.gr hp.nx (hp.nx+1) σ (σ.ext hp.nx p):=
 ⟨Sg.le_ext p (h.fresh _ (bH7 _)),fun i hi=>Sg.ext_other _ _ _ (by omega),bM9 _⟩
theorem VR.new (σ:Sg)(i:Nat)(p:Pl)(hd:p.dl=0):VR (σ.ext i p) (.pointer (some ⟨i,0,none⟩)) (.pointer (some ⟨p.blk,0,none⟩)):=by
 have:=VR.ptr (σ:=σ.ext i p) i 0 p (Sg.ext_same _ _ _)
 grind
def rgT :TypeId:=4294967294
theorem HR.liveG {B : BS} {w0 : World} {σ : Sg} {hp : Hp} {w : World} (h : HR B w0 σ hp w) {n e z : Nat} {c : T Value} (hg : hp.m.get 0 = some (.reg c n e z)) {k : Nat} (hk : k < n) :
  ∃p C,σ.f 0 (k+1)=some p/\ ¬B p.blk/\w.heap[p.blk]? =some (.cells C e (0,0))/\C.size=z/\ ∀j,j<z-> ∃v u,c.get (k*z+j)=some v/\C[j]? =some u/\VR σ v u:=by
 obtain⟨p,o,h1,h2,h3,C,rfl,h5,h6⟩:=h.liv 0 _ (k+1) hg ⟨by omega,hk⟩
 exact⟨p,C,h1,h2,h3,h5,h6⟩
theorem HR.cellsG {B : BS} {w0 : World} {σ : Sg} {hp : Hp} {w : World} (h : HR B w0 σ hp w) {n e z k o m : Nat} {c : T Value} {vs : List Value}
  (hg:hp.m.get 0=some (.reg c n e z)) (hk:k<n) (ho:o+m<=z) (hl:l9 c (k*z+o) m=some vs) {p:Pl} (hp':σ.f 0 (k+1)=some p):
  ∃us,VRL σ vs us/\us.length=m/\ ∀j u,us[j]? =some u->w.cell? ((⟨p.blk,o,none⟩:Addr).add j)=some u:=by
 obtain⟨q,C,hq,_,hw,hs,hc⟩:=h.liveG hg hk;have:q=p:=bI0 (hq.symm.trans hp');subst this;obtain⟨hlen,hget⟩:=j7 hl;refine⟨(C.toList.drop o).take m,⟨?_,?_⟩,?_,?_⟩
 ·grind
 ·grind
 ·grind
 ·intro j u hu
  have hj:j<m:=by grind
  rw[bI7,bH6 hj,bJ3]at hu;rw[bO7,cell_of_row w q.blk _ C e (0,0) hw]
  grind
def Hp.setR (hp:Hp)(c:T Value)(n e z:Nat):Hp:= {hp with m:=hp.m.set 0 (some (.reg c n e z))}
theorem HR.storeG {B : BS} {w0 : World} {σ : Sg} {hp : Hp} {w : World} (h : HR B w0 σ hp w) {n e z k o : Nat} {c : T Value} (hg : hp.m.get 0 = some (.reg c n e z)) (hk : k < n) {p : Pl} (hpi : σ.f 0 (k + 1) = some p)
  {vs us:List Value} (hv:VRL σ vs us) (h1:∀u∈us,u.oneCell'=true) (hs:o+vs.length<=z) (P:Program):
  ∃w',(storeCells ⟨p.blk,o,none⟩ us).run P w= .ok () w'/\HR B w0 σ (hp.setR (fill c (k*z+o) vs) n e z) w':=by
 obtain⟨p',C,g1,g3,g4,g5,g7⟩:=h.liveG hg hk;have:p'=p:=bI0 (g1.symm.trans hpi);subst this;have hr:=run_storeCells_at P p'.blk o e us 0 C w g4 (by rw[<-hv.1];omega) h1
 simp only[bM0]at hr;have hl:=hv.1;have hrow:=setRow_heap w p'.blk C (C.toList.take o++us++C.toList.drop (o+us.length)).toArray e (0,0) g4;have hsize:(C.toList.take o++us++C.toList.drop (o+us.length)).toArray.size=C.size:=by grind
 have hx0:Ix (.reg c n e z) (k+1):=⟨by omega,hk⟩
 have key:∀i b,(hp.setR (fill c (k*z+o) vs) n e z).m.get i=some b->(i=0/\b= .reg (fill c (k*z+o) vs) n e z)\/(i≠0/\hp.m.get i=some b):=by
  intro i b hi;have hi:(hp.m.set 0 (some (.reg (fill c (k*z+o) vs) n e z))).get i=some b:=hi;rw[T.get_set]at hi
  grind
 have key2:∀i b r,(hp.setR (fill c (k*z+o) vs) n e z).m.get i=some b->Ix b r-> ∃b',hp.m.get i=some b'/\Ix b' r:=by
  intro i b r hi hx
  rcases key i b hi with⟨rfl,rfl⟩| ⟨_,h2⟩
  ·exact⟨_,hg,hx⟩
  ·grind
 refine⟨_,hr,h.os,h.tape,h.output,by simpa [World.setRow]using h.size,h.old,fun kk hkk=>?_,h.frs,fun i b r hi hx=>?_,fun i j b b' r s p q hi hj hx hy=>?_,fun i b hi hb=>?_⟩
 ·rw[setRow_other w _ kk _ (fun e=>g3 (by rw[<-e];exact hkk))];exact h.kept kk hkk
 ·rcases key i b hi with⟨rfl,rfl⟩| ⟨h0,h2⟩
  ·obtain⟨q,D,d1,d3,d4,d5,d7⟩:=h.liveG hg (k:=r-1) (by have:1<=r/\r<=n:=hx;omega)
   have hr1:r-1+1=r:=by have:1<=r/\r<=n:=hx;omega
   rw[hr1]at d1
   by_cases hrk:r=k+1
   ·subst hrk
    have:q=p':=bI0 (d1.symm.trans g1);subst this;have:D=C:=by rw[g4]at d4;cases d4;rfl
    subst this;refine⟨q,_,d1,d3,hrow,_,rfl,by rw[hsize];exact d5,fun j hj=>?_⟩
    show∃v u,(fill c (k*z+o) vs).get (k*z+j)=some v/\_;rw[i8]
    by_cases hin:o<=j/\j<o+vs.length
    ·rw[bH6 (by omega)]
     have hk':j-o<vs.length:=by omega
     have hk2:j-o<us.length:=by omega
     refine⟨vs[j-o],us[j-o],by rw[show k*z+j-(k*z+o)=j-o by omega];simp[hk'],?_,hv.2 (j-o) _ _ (by simp[hk']) (by simp[hk2])⟩
     grind
    ·grind
   ·have hne:=h.ij 0 0 _ _ r (k+1) q p' hg hg hx hx0 (.inr hrk) d1 g1
    refine⟨q,_,d1,d3,(setRow_other w _ q.blk _ hne).trans d4,D,rfl,d5,fun j hj=>?_⟩
    show∃v u,(fill c (k*z+o) vs).get ((r-1)*z+j)=some v/\_;rw[i8,bH4 ?_]
    ·grind
    ·intro hh
     have hrk':r-1≠k:=by omega
     rcases Nat.lt_or_gt_of_ne hrk' with hlt|hgt
     ·have:=bG7 z (show r-1+1<=k from hlt)
      grind
     ·have:=bG7 z (show k+1<=r-1 from hgt)
      grind
  ·obtain⟨q,oq,d1,d2,d3,d4⟩:=h.liv i b r h2 hx
   exact⟨q,oq,d1,d2,by rw[setRow_other w _ _ _ (h.ij i 0 _ _ r (k+1) q p' h2 hg hx hx0 (.inl h0) d1 g1)];exact d3,d4⟩
 ·obtain⟨b1,hi',hx'⟩:=key2 i b r hi hx
  obtain⟨b2,hj',hy'⟩:=key2 j b' s hj hy;exact h.ij i j b1 b2 r s p q hi' hj' hx' hy'
 ·rcases key i b hi with⟨rfl,rfl⟩| ⟨_,h2⟩
  ·exact h.rz 0 (.reg c n e z) hg rfl
  ·exact h.rz i b h2 hb
theorem HR.allocG {B : BS} {w0 : World} {σ : Sg} {hp : Hp} {w : World} (h : HR B w0 σ hp w) {n e z : Nat} {c : T Value} (hg : hp.m.get 0 = some (.reg c n e z)) {vs : List Value} {us : Array Value} (hv : VRL σ vs us.toList) (hz : vs.length = z) :
  ∃σ',Sg.le σ σ'/\(∀i,σ' i=σ i)/\(∃p,σ'.f 0 (n+1)=some p/\p.blk=w.heap.size)/\HR B w0 σ' (hp.setR (fill c (n*z) vs) (n+1) e z) (w.alloc (.cells us e)):=by
 obtain⟨_,hfree⟩:=h.rz 0 _ hg rfl
 let p:Pl:=⟨w.heap.size,0,us.size,z⟩
 let σ':Sg:=⟨fun i r=>if i=0/\r=n+1 then some p else σ.f i r⟩
 have hsz:us.size=z:=by have:=hv.1;simp at this;omega
 have hnone:σ.f 0 (n+1)=none:=hfree _ (by omega) (fun hx=>by have:1<=n+1/\n+1<=n:=hx;omega)
 have hs0:σ'.f 0 (n+1)=some p:=bH6 ⟨rfl,rfl⟩;have hs1:∀i r,¬(i=0/\r=n+1)->σ'.f i r=σ.f i r:=fun i r hn=>bH4 hn
 have hle:Sg.le σ σ':=fun i q {r} hq=>by
  grind
 have key:∀i b r,(hp.setR (fill c (n*z) vs) (n+1) e z).m.get i=some b->Ix b r->(i=0/\r=n+1/\b= .reg (fill c (n*z) vs) (n+1) e z)\/(¬(i=0/\r=n+1)/\ ∃b',hp.m.get i=some b'/\Ix b' r/\((i=0/\b'= .reg c n e z/\b= .reg (fill c (n*z) vs) (n+1) e z)\/(i≠0/\b=b'))):=by
  intro i b r hi hx;have hi:(hp.m.set 0 (some (.reg (fill c (n*z) vs) (n+1) e z))).get i=some b:=hi;rw[T.get_set]at hi
  by_cases h0:i=0
  ·rw[bH6 h0,bF4]at hi
   subst hi;subst h0;have hx:1<=r/\r<=n+1:=hx
   by_cases hr:r=n+1
   ·grind
   ·exact .inr ⟨by omega,_,hg,⟨hx.1,by omega⟩,.inl ⟨rfl,rfl,rfl⟩⟩
  ·grind
 refine⟨σ',hle,fun i=>hs1 i 0 (by omega),⟨p,hs0,rfl⟩,h.os,h.tape,h.output,by simp;have:=h.size;omega,h.old,fun k hk=>by rw[Below.heap_alloc _ _ _ (by have:=h.old k hk;have:=h.size;omega)];exact h.kept k hk,fun i r hi=>?_,fun i b r hi hx=>?_,fun i j b b' r s q q' hi hj hx hy hne hq hq'=>?_,fun i b hi hb=>?_⟩
 ·rw[hs1 i r ?_]
  ·exact h.frs i r hi
  ·rintro ⟨rfl,rfl⟩
   obtain⟨⟨q,hq⟩,_⟩:=h.rz 0 _ hg rfl;have hi:hp.nx<=0:=hi;have:=h.frs 0 0 hi
   grind
 ·rcases key i b r hi hx with⟨rfl,rfl,rfl⟩| ⟨hn,b',hg',hx',hc⟩
  ·refine⟨p,_,hs0,(fun hB=>by have h1:=h.old _ hB;have h2:=h.size;have:p.blk=w.heap.size:=rfl;omega),?_,us,rfl,hsz,fun j hj=>?_⟩
   ·show(w.heap.push _)[w.heap.size]? =_;simp
   ·show∃v u,(fill c (n*z) vs).get ((n+1-1)*z+j)=some v/\_
    have hj':j<us.size:=by omega
    rw[i8,show n+1-1=n by omega,bH6 (by omega),show n*z+j-n*z=j by omega]
    have hjv:j<vs.length:=by omega
    refine⟨vs[j],us[j],by simp[hjv],by simp[hj'],(hv.2 j _ _ (by simp[hjv]) (by simp[hj'])).mono hle⟩
  ·obtain⟨q,o,d1,d2,d3,d4⟩:=h.liv i b' r hg' hx'
   have d3':(w.alloc (.cells us e)).heap[q.blk]? =some o:=by rw[Below.heap_alloc _ _ _ (bG9.1 d3).1];exact d3
   rcases hc with⟨rfl,rfl,rfl⟩| ⟨h0,rfl⟩
   ·obtain⟨C,e1,e2,e3⟩:=d4
    refine⟨q,o,(hs1 0 r hn).trans d1,d2,d3',C,e1,e2,fun j hj=>?_⟩
    obtain⟨v,u,a1,a2,a3⟩:=e3 j hj;refine⟨v,u,?_,a2,a3.mono hle⟩;show(fill c (n*z) vs).get ((r-1)*z+j)=some v;rw[i8,bH4 ?_]
    ·exact a1
    ·have hx':1<=r/\r<=n:=hx'
     have:=bG7 z (show r-1+1<=n by omega)
     grind
   ·exact⟨q,o,(hs1 i r hn).trans d1,d2,d3',d4.mono hle⟩
 ·have fr : ∀ i b r q, (hp.setR (fill c (n * z) vs) (n + 1) e z).m.get i = some b → Ix b r → ¬ (i = 0 ∧ r = n + 1) → σ'.f i r = some q → q.blk < w.heap.size ∧ ∃ b', hp.m.get i = some b' ∧ Ix b' r ∧ σ.f i r = some q := by
   intro i b r q hi hx hn hq
   rcases key i b r hi hx with⟨rfl,rfl,rfl⟩| ⟨_,b',hg',hx',_⟩
   ·grind
   ·rw[hs1 i r hn]at hq
    obtain⟨q2,o,d1,_,d3,_⟩:=h.liv i b' r hg' hx'
    grind
  by_cases e1:i=0/\r=n+1<;>by_cases e2:j=0/\s=n+1
  ·omega
  ·grind
  ·grind
  ·obtain⟨_,b1,k1,k2,k3⟩:=fr i b r q hi hx e1 hq
   obtain⟨_,b2,m1,m2,m3⟩:=fr j b' s q' hj hy e2 hq';exact h.ij i j b1 b2 r s q q' k1 m1 k2 m2 hne k3 m3
 ·have hi':(hp.m.set 0 (some (.reg (fill c (n*z) vs) (n+1) e z))).get i=some b:=hi
  rw[T.get_set]at hi'
  by_cases h0:i=0
  ·subst h0
   rw[bH6 rfl,bF4]at hi';subst hi';obtain⟨⟨q,hq⟩,hr⟩:=h.rz 0 _ hg rfl;exact⟨⟨q,hle _ _ hq⟩,fun r hr0 hx=>by
    have hx:¬(1<=r/\r<=n+1):=hx;rw[hs1 0 r (by omega)]
    exact hr r hr0 (fun hy=>hx (by have:1<=r/\r<=n:=hy;omega))⟩
  ·rw[bH4 h0]at hi'
   obtain⟨⟨q,hq⟩,hr⟩:=h.rz i b hi' hb
   grind
inductive Nv where
 |ptr
 |slice (l c:Nat)
 |map
structure Nw where
 blk:Blk
 v:Nv
 ok:(Q1 blk||X9 blk)=false:=by rfl
theorem Nw.ro (n:Nw):Q1 n.blk=false:=(bR0.1 n.ok).1
theorem Nw.rg (n:Nw):X9 n.blk=false:=(bR0.1 n.ok).2
def Nw.val (n:Nw)(id:Nat):Value:=
 match n.v with
 | .ptr=>.pointer (some ⟨id,0,none⟩)
 | .slice l c=>.slice (some ⟨id,0,none⟩) l c
 | .map=>.map (some id)
def F7 (vs:List Value)(e z:Nat):Blk:= .cells (fill .e 0 vs) vs.length e z
theorem af2 {vs us:List Value}(h:VRL σ vs us)(e z b:Nat):BR σ ⟨b,0,us.length,z⟩ (F7 vs e z) (.cells us.toArray e):=by
 refine⟨us.toArray,rfl,rfl,by simp,by simp[h.1],fun j hj=>?_⟩
 have hj':j<us.length:=by rw[<-h.1];exact hj
 exact⟨vs[j],us[j],by rw[A3 vs j hj];simp[hj],by simp[hj'],h.2 j _ _ (by simp[hj]) (by simp[hj'])⟩
def ak4 (P:Program)(σ:Sg)(n:Nw)(s:Sem Value):Prop:=
 (∀l c,n.v= .slice l c->l<=c/\c<unk)/\ ∃o siz z,(∀b,BR σ ⟨b,0,siz,z⟩ n.blk o)/\ ∀w,s.run P w= .ok (n.val w.heap.size) (w.alloc o)
def Hp.add (hp:Hp)(n:Nw):Value×Hp:=(n.val hp.nx,⟨hp.m.set hp.nx (some n.blk),hp.nx+1⟩)
theorem Nw.val_VR {σ:Sg}{n:Nw}(h:∀l c,n.v= .slice l c->l<=c/\c<unk)(id b siz z:Nat):VR (σ.ext id ⟨b,0,siz,z⟩) (n.val id) (n.val b):=by
 unfold Nw.val;cases hv:n.v with
 |ptr=>exact VR.new σ id ⟨b,0,siz,z⟩ rfl
 |slice l c=>
  obtain⟨h1,h2⟩:=h l c hv;have:=VR.slice (σ:=σ.ext id ⟨b,0,siz,z⟩) id 0 ⟨b,0,siz,z⟩ l c c (Sg.ext_same _ _ _) (.inl ⟨rfl,h2⟩) h1
  grind
 |map=>exact VR.map id ⟨b,0,siz,z⟩ (Sg.ext_same _ _ _)
theorem ak4.mok {n:Nw}{s:Sem Value}(h:ak4 P σ n s)(hw:HR B w0 σ hp w):MOK hp B w0 σ (hp.add n).1 (hp.add n).2 (s.run P w):=by
 obtain⟨h1,o,siz,z,h2,h3⟩:=h;refine⟨σ.ext hp.nx ⟨w.heap.size,0,siz,z⟩,_,_,h3 w,hw.le_new _,Nw.val_VR h1 _ _ _ _,?_⟩;exact hw.allocO hp.nx (hp.nx+1) (hw.fresh _ (bH7 _)) (bM9 _) (bL5 _) n.blk o _ rfl ((h2 _).mono (hw.le_new _).le) n.ro n.rg
def am8 (P:Program)(e:TypeId):Option Nw:=
 match G5 P e with
 |some z=>some ⟨F7 z.cells.toList e z.cells.toList.length,.ptr,rfl⟩
 |none=>none
theorem aF2 {e:TypeId}{n:Nw}(h:am8 P e=some n):ak4 P σ n (Instr.alloc e true (.tuple #[])):=by
 unfold am8 at h;split at h
 ·rename_i z hz
  cases h;obtain⟨hc,hr⟩:=D6 hz;refine⟨(fun l c h=>by cases h),.cells z.cells e,z.cells.toList.length,_,(fun b=>by simpa using af2 (M4 σ hc).cells e z.cells.toList.length b),fun w=>?_⟩
  simp[Instr.alloc,hr,newVar,newRow,Nw.val]
 ·cases h
def aW3 (e:TypeId)(x:Value):Nw:=⟨F7 x.cells.toList e x.cells.toList.length,.ptr,rfl⟩
theorem aW4 {e:TypeId}{x x':Value}(hx:VR σ x x'):ak4 P σ (aW3 e x) (Instr.box e x'):=by
 refine⟨(fun l c h=>by cases h),.cells x'.cells e,x'.cells.toList.length,_,(fun b=>by simpa [aW3]using af2 hx.cells e x.cells.toList.length b),fun w=>?_⟩
 simp[Instr.box,newVar,newRow,Nw.val,aW3]
def bi9 (t:Option Value):Option Nw:=
 match t with
 |none=>some ⟨.map [] true,.map,rfl⟩
 |some (.int _ _)=>some ⟨.map [] true,.map,rfl⟩
 |_=>none
theorem aX0 {t : TypeId} {r r' : Option Value} {n : Nw} (h : bi9 r = some n) (hr : match r, r' with | none, none => True | some v, some u => VR σ v u | _, _ => False)
  (hm:match P.underlying t with|some (.map _ _)=>True|_=>False):ak4 P σ n (Instr.makeMap t r'):=by
 cases hu:P.underlying t with
 |none=>grind
 |some d=>
 cases d<;>simp[hu]at hm
 unfold bi9 at h;split at h
 ·simp only[bF4]at h
  subst h;cases r' with
  |some u=>grind
  |none=>
   refine⟨(fun l c h=>by cases h),.map #[] 0,0,0,(fun b=>⟨#[],0,rfl,rfl,(fun j x e hx=>by simp at hx),fun _=>⟨rfl,fun j e hj=>by simp at hj⟩⟩),fun w=>?_⟩
   simp[Instr.makeMap,Nw.val]
 ·simp only[bF4]at h
  subst h;cases r' with
  |none=>grind
  |some u=>
   cases hr;refine⟨(fun l c h=>by cases h),.map #[] 0,0,0,(fun b=>⟨#[],0,rfl,rfl,(fun j x e hx=>by simp at hx),fun _=>⟨rfl,fun j e hj=>by simp at hj⟩⟩),fun w=>?_⟩
   simp[Instr.makeMap,Nw.val,bH8 hu,asInt,asIntOf]
 ·cases h
def an7 (P:Program)(t:TypeId)(x:Value):Option Nw:=
 match P.underlying t,x with
 |some .string,.string s=>some ⟨.sit s 0,.ptr,rfl⟩
 |_,_=>none
theorem aF5 {t:TypeId}{x x':Value}{n:Nw}(h:an7 P t x=some n)(hx:VR σ x x'):ak4 P σ n (Instr.range t x'):=by
 unfold an7 at h;split at h
 ·rename_i s hu
  cases h;cases hx;refine⟨(fun l c h=>by cases h),.stringIter s 0,0,0,(fun b=>⟨rfl,rfl⟩),fun w=>?_⟩
  simp[Instr.range,bH8 hu,Nw.val]
 ·cases h
def aq2 (P : Program) (hp : Hp) (t : TypeId) (k o : Nat) : Option Value :=
 match hp.m.get 0 with
 | some (.reg c n _ z) => match P.underlying t with
  | some d => bif ag1 d then
    match P.info? t with
    | some ti => bif Nat.ble (k + 1) n && Nat.ble (o + ti.size) z then
      match l9 c (k*z+o) ti.size with
      |some vs=>some (.agg vs.toArray)
      |none=>none
     else none
    |none=>none
   else bif Nat.ble (k+1) n&&Nat.ble (o+1) z then c.get (k*z+o)else none
  |none=>none
 |_=>none
theorem aO1 {t : TypeId} {k o : Nat} {v : Value} {p : Pl} (h : aq2 P hp t k o = some v) (hp' : σ.f 0 (k + 1) = some p) (hw : HR B w0 σ hp w) :
  ∃u,VR σ v u/\(Instr.loadAt t (.pointer (some ⟨p.blk,o,none⟩))).run P w= .ok u w:=by
 unfold aq2 at h;split at h
 ·rename_i c n e z hg
  split at h
  ·rename_i d hu
   cases hd:ag1 d with
   |true=>
    rw[hd,bH1]at h;split at h
    ·rename_i ti hti
     cases hb:Nat.ble (k+1) n&&Nat.ble (o+ti.size) z with
     |false=>grind
     |true=>
      rw[hb,bH1]at h;simp only[bF5,bK8]at hb;split at h
      ·rename_i vs hl
       simp only[bF4]at h;subst h;obtain⟨us,h1,h2,h3⟩:=hw.cellsG hg hb.1 hb.2 hl hp';refine⟨.agg us.toArray,h1.to_agg,?_⟩;have:=run_loadCells_list (P:=P) w ⟨p.blk,o,none⟩ us h3;rw[h2]at this;simp[Instr.loadAt,Instr.sureAddr,loadVar,P4 hu,hd,sizeOf,typeInfo,hti,this]
      ·cases h
    ·cases h
   |false=>
    rw[hd,bH2]at h;cases hb:Nat.ble (k+1) n&&Nat.ble (o+1) z with
    |false=>grind
    |true=>
     rw[hb,bH1]at h;simp only[bF5,bK8]at hb;have hl:l9 c (k*z+o) 1=some [v]:=by simp[l9,h]
     obtain⟨us,h1,h2,h3⟩:=hw.cellsG hg hb.1 hb.2 hl hp';obtain⟨u,us',rfl,hv,_⟩:=h1.uncons;refine⟨u,hv,?_⟩;have:=h3 0 u rfl;rw[Addr.add_zero']at this;simp[Instr.loadAt,Instr.sureAddr,loadVar,P4 hu,hd,this]
  ·cases h
 ·cases h
def E8 (P : Program) (hp : Hp) (t : TypeId) (a : Value) : Option Value :=
 match a with
 | .pointer (some ⟨k,o,some 1⟩)=>aq2 P hp t k o
 | .pointer (some ⟨i, o, none⟩) => match hp.m.get i with
  | some b => match rdC b with
   | some (c, n, _) => match P.underlying t with
    | some d => bif ag1 d then
      match P.info? t with
      | some ti => bif Nat.ble (o + ti.size) n then
        match l9 c o ti.size with
        |some vs=>some (.agg vs.toArray)
        |none=>none
       else none
      |none=>none
     else bif Nat.ble (o+1) n then c.get o else none
    |none=>none
   |none=>none
  |none=>none
 |_=>none
theorem at3 {t : TypeId} {a a' v : Value} (h : E8 P hp t a = some v) (ha : VR σ a a') (hw : HR B w0 σ hp w) :
  ∃u,VR σ v u/\(Instr.loadAt t a').run P w= .ok u w:=by
 unfold E8 at h;split at h
 ·rename_i k o
  cases ha with
  |rptr _ _ p hp'=>exact aO1 h hp' hw
 ·rename_i i o
  cases ha with
  |ptr _ _ p hp'=>
  split at h
  ·rename_i b hg
   split at h
   ·rename_i c n z hr
    split at h
    ·rename_i d hu
     cases hd:ag1 d with
     |true=>
      rw[hd,bH1]at h;split at h
      ·rename_i ti hti
       cases hb:Nat.ble (o+ti.size) n with
       |false=>grind
       |true=>
        rw[hb,bH1]at h;split at h
        ·rename_i vs hl
         simp only[bF4]at h;subst h;obtain⟨us,h1,h2,h3⟩:=hw.cellsR hg hr (bF8 hb) hl hp';refine⟨.agg us.toArray,h1.to_agg,?_⟩;have:=run_loadCells_list (P:=P) w ⟨p.blk,p.dl+o,none⟩ us h3;rw[h2]at this;simp[Instr.loadAt,Instr.sureAddr,loadVar,P4 hu,hd,sizeOf,typeInfo,hti,this]
        ·cases h
      ·cases h
     |false=>
      rw[hd,bH2]at h;cases hb:Nat.ble (o+1) n with
      |false=>grind
      |true=>
       rw[hb,bH1]at h;have hl:l9 c o 1=some [v]:=by simp[l9,h]
       obtain⟨us,h1,h2,h3⟩:=hw.cellsR hg hr (bF8 hb) hl hp';obtain⟨u,us',rfl,hv,_⟩:=h1.uncons;refine⟨u,hv,?_⟩;have:=h3 0 u rfl;rw[Addr.add_zero']at this;simp[Instr.loadAt,Instr.sureAddr,loadVar,P4 hu,hd,this]
    ·cases h
   ·cases h
  ·cases h
 ·cases h
def aq3 (hp:Hp)(i:Nat)(c:T Value)(n e z o:Nat)(vs:List Value):Hp:=
 (fill c o vs).force fun c'=> {hp with m:=hp.m.set i (some (.cells c' n e z))}
theorem P0 (hp:Hp)(i:Nat)(c:T Value)(n e z o:Nat)(vs:List Value):aq3 hp i c n e z o vs= {hp with m:=hp.m.set i (some (.cells (fill c o vs) n e z))}:=by
 unfold aq3;rw[T.force_eq]
def aO8 (P:Program)(hp:Hp)(t:TypeId)(k o:Nat)(x:Value):Option Hp:=
 match hp.m.get 0 with
 |some (.reg c n e z)=>match P.info? t with
  |some ti=>bif Nat.beq x.cells.toList.length ti.size&&Nat.ble (k+1) n&&Nat.ble (o+ti.size) z&&x.cells.toList.all Value.oneCell' then some (hp.setR (fill c (k*z+o) x.cells.toList) n e z)else none
  |none=>none
 |_=>none
def aC9 (hp:Hp)(vs:List Value):Option (Value×Hp):=
 match hp.m.get 0 with
 |some (.reg c n e z)=>bif Nat.beq e rgT&&Nat.beq vs.length z then some (.pointer (some ⟨n,0,some 1⟩),hp.setR (fill c (n*z) vs) (n+1) e z)else none
 |_=>none
theorem at4 {vs : List Value} {us : Array Value} {v : Value} {hp' : Hp} (h : aC9 hp vs = some (v, hp')) (hv : VRL σ vs us.toList) (hw : HR B w0 σ hp w) :
  ∃σ',Sg.gr hp.nx hp'.nx σ σ'/\VR σ' v (.pointer (some ⟨w.heap.size,0,none⟩))/\HR B w0 σ' hp' (w.alloc (.cells us rgT)):=by
 unfold aC9 at h;split at h
 ·rename_i c n e z hg
  cases hb:Nat.beq e rgT&&Nat.beq vs.length z with
  |false=>grind
  |true=>
   rw[hb,bH1]at h;simp only[bF5,bJ4]at hb;obtain⟨rfl,hz⟩:=hb;cases h;obtain⟨σ',h1,h2,⟨p,h3,h4⟩,h5⟩:=hw.allocG hg hv hz;refine⟨σ',⟨h1,fun i _=>h2 i,bH7 _⟩,?_,h5⟩
   rw[<-h4];exact .rptr n 0 p h3
 ·cases h
def N9 (P:Program)(hp:Hp)(t:TypeId)(a x:Value):Option Hp:=
 match a with
 | .pointer (some ⟨k,o,some 1⟩)=>aO8 P hp t k o x
 | .pointer (some ⟨i,o,none⟩)=>match hp.m.get i with
  |some (.cells c n e z)=>match P.info? t with
   |some ti=>bif Nat.beq x.cells.toList.length ti.size&&Nat.ble (o+ti.size) n&&x.cells.toList.all Value.oneCell' then some (aq3 hp i c n e z o x.cells.toList)else none
   |none=>none
  |_=>none
 |_=>none
theorem VRL.all_oneCell {vs us:List Value}(h:VRL σ vs us)(hv:vs.all Value.oneCell'=true):∀u∈us,u.oneCell'=true:=by
 intro u hu;obtain⟨j,hj,rfl⟩:=List.mem_iff_getElem.1 hu;have hj':j<vs.length:=by rw[h.1];exact hj
 exact(h.2 j vs[j] us[j] (by simp[hj']) (by simp[hj])).oneCell (bI4.1 hv _ (bQ0 hj'))
theorem HR.place (hw:HR B w0 σ hp w){i n e z:Nat}{c:T Value}(hg:hp.m.get i=some (.cells c n e z)){p:Pl}(hpi:σ i=some p):p.dl+n<=p.siz/\p.esz=z:=by
 obtain⟨p',C,g1,g2,_,_,_,g6,_⟩:=hw.liveC hg
 grind
theorem aO9 {t : TypeId} {a a' x x' : Value} {hp' : Hp} (h : N9 P hp t a x = some hp') (ha : VR σ a a') (hx : VR σ x x') (hw : HR B w0 σ hp w) :
  ∃w',(Instr.storeAt t a' x').run P w= .ok () w'/\HR B w0 σ hp' w'/\hp'.nx=hp.nx:=by
 unfold N9 at h;split at h
 ·rename_i k o
  cases ha with
  |rptr _ _ p hpi=>
  unfold aO8 at h;split at h
  ·rename_i c n e z hg
   split at h
   ·rename_i ti hti
    cases hb:Nat.beq x.cells.toList.length ti.size&&Nat.ble (k+1) n&&Nat.ble (o+ti.size) z&&x.cells.toList.all Value.oneCell' with
    |false=>grind
    |true=>
     rw[hb,bH1]at h;simp only[bF4]at h;subst h;simp only[bF5]at hb;have e1:=bF9 hb.1.1.1;have e2:=bF8 hb.1.2;have e3:=bF8 hb.1.1.2;have hcells:=hx.cells;obtain⟨w',hr,hh⟩:=hw.storeG (o:=o) hg e3 hpi hcells (hcells.all_oneCell hb.2) (by omega) P
     refine⟨w',?_,hh,rfl⟩;have hs:x'.cells.size=ti.size:=by rw[<-e1,hcells.1];simp
     simp[Instr.storeAt,Instr.sureAddr,storeVar,sizeOf,typeInfo,hti,hs,hr]
   ·cases h
  ·cases h
 ·rename_i i o
  cases ha with
  |ptr _ _ p hpi=>
  split at h
  ·rename_i c n e z hg
   split at h
   ·rename_i ti hti
    cases hb:Nat.beq x.cells.toList.length ti.size&&Nat.ble (o+ti.size) n&&x.cells.toList.all Value.oneCell' with
    |false=>grind
    |true=>
     rw[hb,bH1,P0]at h;simp only[bF4]at h;subst h;simp only[bF5]at hb;have e1:=bF9 hb.1.1;have e2:=bF8 hb.1.2;have hcells:=hx.cells;obtain⟨k1,_⟩:=hw.place hg hpi;obtain⟨w',hr,hh,_⟩:=hw.store (o:=o) hg hpi hcells (hcells.all_oneCell hb.2) (by omega) (by omega) P
     refine⟨w',?_,?_,rfl⟩
     ·have hs:x'.cells.size=ti.size:=by rw[<-e1,hcells.1];simp
      simp[Instr.storeAt,Instr.sureAddr,storeVar,sizeOf,typeInfo,hti,hs,hr]
     ·grind
   ·cases h
  ·cases h
 ·cases h
def xrep :Nat->List Value->List Value
 |0,_=>[]
 |n+1,zs=>zs++xrep n zs
theorem C4 (zs:List Value):∀n,(xrep n zs).length=n*zs.length
 |0=>by simp[xrep]
 |n+1=>by simp[xrep,C4 zs n,bM1,Nat.add_comm]
theorem W9 (zs:List Value):∀(n j:Nat),j<n*zs.length->(xrep n zs)[j]? =zs[j % zs.length]?
 |0,j,h=>by simp at h
 |n+1,j,h=>by
  simp only[xrep]
  by_cases hj:j<zs.length
  ·rw[bG3 hj,bP9 hj]
  ·rw[bG2 (by omega),W9 zs n (j-zs.length) (by rw[bM1]at h;omega)]
   rw[Nat.mod_eq_sub_mod (by omega:zs.length<=j)]
theorem af0 (z:Array Value)(n:Nat):((Array.range (n*z.size)).map (fun i=>z[i % z.size]!)).toList=xrep n z.toList:=by
 apply List.ext_getElem?
 intro j
 by_cases hj:j<n*z.size
 ·rw[W9 z.toList n j (by simpa using hj)]
  have hz:0<z.size:=by grind
  have hm:j % z.size<z.size:=Nat.mod_lt _ hz
  grind
 ·rw[bQ6 (by simp;omega),bQ6 (by rw[C4];simp;omega)]
theorem VRL.xrep {zs:List Value}(h:VRL σ zs zs):∀n,VRL σ (xrep n zs) (xrep n zs)
 |0=>VRL.nil σ
 |n+1=>h.append (VRL.xrep h n)
def bo5 (P : Program) (t : TypeId) (len : Nat) (parts : List (Nat × Value)) : Option Nw :=
 match P.underlying t with
 | some (.slice e) => match P.info? e with
  | some ie => match G5 P e with
   | some z => bif Nat.beq z.cells.toList.length ie.size && Nat.ble (len * ie.size) 16777216 && Nat.ble len 16777216 then
     match an2 (fun i=>some (i*ie.size,ie.size)) (xrep len z.cells.toList) parts with
     |some cs=>some ⟨F7 cs e ie.size,.slice len len,rfl⟩
     |none=>none
    else none
   |none=>none
  |none=>none
 |_=>none
theorem bd5 {t : TypeId} {len : Nat} {xs : List (Nat × Value)} {ys : Array (Nat × Value)} {n : Nw} (h : bo5 P t len xs = some n)
  (hy:PVR σ xs ys.toList):ak4 P σ n (Instr.buildSlice t len ys):=by
 unfold bo5 at h;split at h
 ·rename_i e hu
  split at h
  ·rename_i ie hie
   split at h
   ·rename_i z hz
    cases hb:Nat.beq z.cells.toList.length ie.size&&Nat.ble (len*ie.size) 16777216&&Nat.ble len 16777216 with
    |false=>grind
    |true=>
     rw[hb,bH1]at h;simp only[bF5]at hb;have e1:=bF9 hb.1.1;have e2:=bF8 hb.1.2;have e3:=bF8 hb.2;split at h
     ·rename_i cs hf
      cases h;obtain⟨hc,hzr⟩:=D6 hz;have hzz:=(M4 σ hc).cells;have hcells:∀zc:Array Value,zc=(if len*ie.size=0 then #[]else z.cells)->((Array.range (len*ie.size)).map (fun i=>zc[i % zc.size]!)).toList=xrep len z.cells.toList:=by
       intro zc hzc
       by_cases h0:len*ie.size=0
       ·have hl:xrep len z.cells.toList=[]:=bG0 (by rw[C4,e1];exact h0)
        grind
       ·rw[bH4 h0]at hzc
        subst hzc;have:=af0 z.cells len
        grind
      obtain⟨ds,h1,h2⟩:=ae2 (σ:=σ) _ xs ys.toList (xrep len z.cells.toList) cs ((Array.range (len*ie.size)).map (fun i=>(if len*ie.size=0 then #[]else z.cells)[i % (if len*ie.size=0 then #[]else z.cells).size]!)) hf hy
       (by rw[hcells _ rfl];exact hzz.xrep len)
      refine⟨(fun l c h=>by cases h;exact⟨bH7 _,by unfold unk;omega⟩),.cells ds e,ds.toList.length,_,(fun b=>by simpa using af2 h2 e ie.size b),fun w=>?_⟩
      have hgt:¬len*ie.size>2^24:=by omega
      by_cases h0:len*ie.size=0
      ·rw[bH6 h0]at h1
       simp only[Instr.buildSlice,bI3,bH8 hu,bH9,sizeOf,typeInfo,bP7,hie,bI8,bH4 hgt,bH6 h0,h1,newRow,run_newObj];rfl
      ·rw[bH4 h0]at h1
       simp only[Instr.buildSlice,bI3,bH8 hu,bH9,sizeOf,typeInfo,bP7,hie,bI8,bH4 hgt,bH4 h0,hzr,h1,newRow,run_newObj];rfl
     ·cases h
   ·cases h
  ·cases h
 ·cases h
def bp2 (P : Program) (t : TypeId) (l c : Value) : Option Nw :=
 match l,c with
 | .int _ ln, .int _ cn => match P.underlying t with
  | some (.slice e) => match P.info? e with
   | some ie => match G5 P e with
    | some z => bif decide (0 ≤ ln) && decide (ln ≤ cn) && decide (cn ≤ 1048576) && Nat.ble ie.bytes 1048576 && Nat.beq z.cells.toList.length ie.size then
      some ⟨F7 (xrep cn.toNat z.cells.toList) e ie.size,.slice ln.toNat cn.toNat,rfl⟩
     else none
    |none=>none
   |none=>none
  |_=>none
 |_,_=>none
theorem bd9 {t : TypeId} {l c l' c' : Value} {n : Nw} (h : bp2 P t l c = some n) (hl : VR σ l l') (hc : VR σ c c') :
  ak4 P σ n (Instr.makeSlice t l' c'):=by
 unfold bp2 at h;split at h
 ·rename_i k1 ln k2 cn
  cases hl;cases hc;split at h
  ·rename_i e hu
   split at h
   ·rename_i ie hie
    split at h
    ·rename_i z hz
     cases hb:decide (0<=ln)&&decide (ln<=cn)&&decide (cn<=1048576)&&Nat.ble ie.bytes 1048576&&Nat.beq z.cells.toList.length ie.size with
     |false=>grind
     |true=>
      rw[hb,bH1]at h;simp only[bF5,bH5]at hb;obtain⟨⟨⟨⟨b1,b2⟩,b3⟩,b4⟩,b5⟩:=hb;have b4:=bF8 b4;have e1:=bF9 b5;cases h;obtain⟨hcz,hzr⟩:=D6 hz;have hzz:=(M4 σ hcz).cells;have wl:IntKind.i64.wrap ln=ln:=IntWalk.i64_in _ (by omega)
      have wc:IntKind.i64.wrap cn=cn:=IntWalk.i64_in _ (by omega)
      have hcells:∀zc:Array Value,zc=(if cn.toNat*ie.size=0 then #[]else z.cells)->(Array.range (cn.toNat*ie.size)).map (fun i=>zc[i % zc.size]!)=(xrep cn.toNat z.cells.toList).toArray:=by
       intro zc hzc
       apply bN5
       by_cases h0:cn.toNat*ie.size=0
       ·have hl:xrep cn.toNat z.cells.toList=[]:=bG0 (by rw[C4,e1];exact h0)
        grind
       ·rw[bH4 h0]at hzc
        subst hzc;have:=af0 z.cells cn.toNat
        grind
      refine⟨(fun l c h=>by cases h;exact⟨by omega,by unfold unk;omega⟩),.cells (xrep cn.toNat z.cells.toList).toArray e,_,_,(fun b=>af2 (hzz.xrep cn.toNat) e ie.size b),fun w=>?_⟩
      have hbig:¬((ie.bytes:Int)*cn>2^48):=by
       have h1:(ie.bytes:Int)*cn<=1048576*1048576:=Int.mul_le_mul (by omega) b3 (by omega) (by omega)
       omega
      have hcond:¬((decide (cn<0)||decide ((ie.bytes:Int)*cn>2^48))||decide (ln<0)||decide (ln>cn))=true:=by grind
      by_cases h0:cn.toNat*ie.size=0
      ·have:=hcells #[] (by rw[bH6 h0])
       simp only[Instr.makeSlice,bI3,bH8 hu,bH9,asInt,asIntOf,bI8,typeInfo,bP7,hie,wl,wc,bH4 hcond,run_askRoom,sizeOf,bH6 h0,this,newRow,run_newObj];rfl
      ·have:=hcells z.cells (by rw[bH4 h0])
       simp only[Instr.makeSlice,bI3,bH8 hu,bH9,asInt,asIntOf,bI8,typeInfo,bP7,hie,wl,wc,bH4 hcond,run_askRoom,sizeOf,bH4 h0,hzr,this,newRow,run_newObj];rfl
    ·cases h
   ·cases h
  ·cases h
 ·cases h
end
end Go.Xe
end PartXm7
