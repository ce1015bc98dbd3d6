/- The executor, parts 1, 2, 3, 4, 5, 6, 7.
  Conditions: none. -/
import Derived.WalkKit
import Derived.Orders
import Derived.Laws.StructEq
import Derived.WalkSpells
set_option linter.unusedSimpArgs false
set_option linter.unusedVariables false
noncomputable section PartXm1
namespace Go.Xe
theorem bH9:type_of% @Option.some.injEq:=@Option.some.injEq
theorem bI0:type_of% @Bool.and_eq_true:=@Bool.and_eq_true
theorem bI1:type_of% @Prod.mk.injEq:=@Prod.mk.injEq
theorem bI2:type_of% @List.getElem?_eq_some_iff:=@List.getElem?_eq_some_iff
theorem bI3:type_of% @Nat.le_of_ble_eq_true:=@Nat.le_of_ble_eq_true
theorem bI4:type_of% @Nat.eq_of_beq_eq_true:=@Nat.eq_of_beq_eq_true
theorem bI5:type_of% @List.eq_nil_of_length_eq_zero:=@List.eq_nil_of_length_eq_zero
theorem bI6:type_of% @Nat.ble_eq_true_of_le:=@Nat.ble_eq_true_of_le
theorem bI7:type_of% @List.getElem?_append_right:=@List.getElem?_append_right
theorem bI8:type_of% @List.getElem?_append_left:=@List.getElem?_append_left
theorem bI9:type_of% @List.mem_of_getElem?:=@List.mem_of_getElem?
theorem bJ0:type_of% @List.getElem?_cons_succ:=@List.getElem?_cons_succ
theorem bJ1:type_of% @List.getElem?_eq_getElem:=@List.getElem?_eq_getElem
theorem bJ2:type_of% @Nat.mul_le_mul_right:=@Nat.mul_le_mul_right
theorem bJ3:type_of% @List.append_assoc:=@List.append_assoc
theorem bJ4:type_of% @Array.getElem?_eq_some_iff:=@Array.getElem?_eq_some_iff
theorem bJ5:type_of% @List.getElem?_cons_zero:=@List.getElem?_cons_zero
theorem bJ6:type_of% @cond_true:=@cond_true
theorem bJ7:type_of% @cond_false:=@cond_false
theorem bJ8:type_of% @List.length_map:=@List.length_map
theorem bJ9:type_of% @if_neg:=@if_neg
theorem bK0:type_of% @decide_eq_true_eq:=@decide_eq_true_eq
theorem bK1:type_of% @if_pos:=@if_pos
theorem bK2:type_of% @Nat.le_refl:=@Nat.le_refl
theorem bK3:type_of% @run_underlying:=@run_underlying
theorem bK4:type_of% @Result.andThen_ok:=@Result.andThen_ok
theorem bK5:type_of% @Option.some.inj:=@Option.some.inj
theorem bK6:type_of% @List.length_append:=@List.length_append
theorem bK7:type_of% @And.intro:=@And.intro
theorem bK8:type_of% @Sem.run_bind:=@Sem.run_bind
theorem bK9:type_of% @List.all_eq_true:=@List.all_eq_true
theorem bL0:type_of% @List.getD_eq_getElem?_getD:=@List.getD_eq_getElem?_getD
theorem bL1:type_of% @Nat.zero_add:=@Nat.zero_add
theorem bL2:type_of% @List.getElem?_take:=@List.getElem?_take
theorem bL3:type_of% @Sem.run_pure:=@Sem.run_pure
theorem bL4:type_of% @List.length_take:=@List.length_take
theorem bL5:type_of% @Nat.add_mul:=@Nat.add_mul
theorem bL6:type_of% @List.mem_append:=@List.mem_append
theorem bL7:type_of% @List.mem_cons:=@List.mem_cons
theorem bL8:type_of% @List.getElem?_drop:=@List.getElem?_drop
theorem bL9:type_of% @Nat.beq_eq:=@Nat.beq_eq
theorem bM0:type_of% @Int.toNat_natCast:=@Int.toNat_natCast
theorem bM1:type_of% @Option.getD_some:=@Option.getD_some
theorem bM2:type_of% @List.length_cons:=@List.length_cons
theorem bM3:type_of% @true_implies:=@true_implies
theorem bM4:type_of% @Option.map_some:=@Option.map_some
theorem bM5:type_of% @Bool.not_eq_true':=@Bool.not_eq_true'
theorem bM6:type_of% @List.map_append:=@List.map_append
theorem bM7:type_of% @decide_eq_false_iff_not:=@decide_eq_false_iff_not
theorem bM8:type_of% @List.take_of_length_le:=@List.take_of_length_le
theorem bM9:type_of% @List.getElem?_map:=@List.getElem?_map
theorem bN0:type_of% @List.map_cons:=@List.map_cons
theorem bN1:type_of% @List.length_drop:=@List.length_drop
theorem bN2:type_of% @Nat.lt_of_lt_of_le:=@Nat.lt_of_lt_of_le
theorem bN3:type_of% @Nat.ble_eq:=@Nat.ble_eq
theorem bN4:type_of% @List.mem_iff_getElem?:=@List.mem_iff_getElem?
theorem bN5:type_of% @not_false_eq_true:=@not_false_eq_true
theorem bN6:type_of% @decide_true:=@decide_true
theorem bN7:type_of% @Nat.le_trans:=@Nat.le_trans
theorem bN8:type_of% @List.mem_cons_of_mem:=@List.mem_cons_of_mem
theorem bN9:type_of% @Nat.add_assoc:=@Nat.add_assoc
theorem bO0:type_of% @Nat.lt_succ_self:=@Nat.lt_succ_self
theorem bO1:type_of% @List.cons_append:=@List.cons_append
theorem bO2:type_of% @implies_true:=@implies_true
theorem bO3:type_of% @Int.le_refl:=@Int.le_refl
theorem bO4:type_of% @List.mem_singleton:=@List.mem_singleton
theorem bO5:type_of% @Nat.add_zero:=@Nat.add_zero
theorem bO6:type_of% @Nat.succ_mul:=@Nat.succ_mul
theorem bO7:type_of% @true_and:=@true_and
theorem bO8:type_of% @List.cons.injEq:=@List.cons.injEq
theorem bO9:type_of% @Nat.le_max_right:=@Nat.le_max_right
theorem bP0:type_of% @List.drop_of_length_le:=@List.drop_of_length_le
theorem bP1:type_of% @Bool.false_eq_true:=@Bool.false_eq_true
theorem bP2:type_of% @and_true:=@and_true
theorem bP3:type_of% @Nat.add_sub_cancel_left:=@Nat.add_sub_cancel_left
theorem bP4:type_of% @Nat.le_succ:=@Nat.le_succ
theorem bP5:type_of% @decide_eq_false:=@decide_eq_false
theorem bP6:type_of% @Bool.or_eq_true:=@Bool.or_eq_true
theorem bP7:type_of% @Nat.le_of_not_lt:=@Nat.le_of_not_lt
theorem bP8:type_of% @of_decide_eq_true:=@of_decide_eq_true
theorem bP9:type_of% @Int.lt_irrefl:=@Int.lt_irrefl
theorem bQ0:type_of% @Array.ext':=@Array.ext'
theorem bQ1:type_of% @Nat.sub_zero:=@Nat.sub_zero
theorem bQ2:type_of% @List.mem_map:=@List.mem_map
theorem bQ3:type_of% @Option.map_eq_some_iff:=@Option.map_eq_some_iff
theorem bQ4:type_of% @List.mem_append_right:=@List.mem_append_right
theorem bQ5:type_of% @List.mem_of_mem_take:=@List.mem_of_mem_take
theorem bQ6:type_of% @List.mem_of_mem_drop:=@List.mem_of_mem_drop
theorem bQ7:type_of% @Bool.and_true:=@Bool.and_true
theorem bQ8:type_of% @Nat.zero_mul:=@Nat.zero_mul
theorem bQ9:type_of% @List.append_nil:=@List.append_nil
theorem bR0:type_of% @if_false:=@if_false
theorem bR1:type_of% @if_true:=@if_true
theorem bR2:type_of% @Addr.add_lit:=@Addr.add_lit
theorem bR3:type_of% @List.take_append_drop:=@List.take_append_drop
theorem bR4:type_of% @Nat.zero_le:=@Nat.zero_le
theorem bR5:type_of% @List.drop_zero:=@List.drop_zero
theorem bR6:type_of% @List.mem_append_left:=@List.mem_append_left
theorem bR7:type_of% @forall_eq':=@forall_eq'
theorem bR8:type_of% @Oper.upon_value:=@Oper.upon_value
theorem bR9:type_of% @Nat.max_eq_left:=@Nat.max_eq_left
theorem bS0:type_of% @Array.getElem?_setIfInBounds_ne:=@Array.getElem?_setIfInBounds_ne
theorem bS1:type_of% @run_program:=@run_program
theorem bS2:type_of% @ByteArray.toList_eq:=@ByteArray.toList_eq
theorem bS3:type_of% @Nat.mod_eq_of_lt:=@Nat.mod_eq_of_lt
theorem bS4:type_of% @Int.toNat_zero:=@Int.toNat_zero
theorem bS5:type_of% @wpIn_mono:=@wpIn_mono
theorem bS6:type_of% @Nat.sub_self:=@Nat.sub_self
theorem bS7:type_of% @List.length_nil:=@List.length_nil
theorem bS8:type_of% @List.getElem?_eq_none:=@List.getElem?_eq_none
theorem bS9:type_of% @Bool.true_and:=@Bool.true_and
theorem bT0:type_of% @List.getElem?_of_mem:=@List.getElem?_of_mem
open Go.RowKit
inductive T (α:Type) where
 |e:T α
 |n (v:Option α) (a b c d:T α):T α
inductive K where
 |z:K
 |a (k:K):K
 |b (k:K):K
 |c (k:K):K
 |d (k:K):K
def K.pick (p:K)(r:Nat):K:=Nat.rec (motive:=fun _=>K) (.a p) (fun r _=>Nat.rec (motive:=fun _=>K) (.b p) (fun r _=>Nat.rec (motive:=fun _=>K) (.c p) (fun _ _=>.d p) r) r) r
def K.ofF (f:Nat):Nat->K:=
 Nat.rec (motive:=fun _=>Nat->K) (fun _=>.z) (fun _ ih k=>Nat.rec (motive:=fun _=>K) .z (fun m _=>K.pick (ih (Nat.div m 4)) (Nat.mod m 4)) k) f
def K.of (k:Nat):K:=K.ofF (k+1) k
def T.force {α β:Type}(t:T α)(f:T α->β):β:=T.rec (motive:=fun _=>β) (f .e) (fun v a b c d _ _ _ _=>f (.n v a b c d)) t
theorem T.force_eq {α β:Type}(t:T α)(f:T α->β):t.force f=f t:=by cases t<;>rfl
def T.top {α:Type}(t:T α):Option α:=T.rec (motive:=fun _=>Option α) none (fun v _ _ _ _ _ _ _ _=>v) t
def T.ta {α:Type}(t:T α):T α:=T.rec (motive:=fun _=>T α) .e (fun _ a _ _ _ _ _ _ _=>a) t
def T.tb {α:Type}(t:T α):T α:=T.rec (motive:=fun _=>T α) .e (fun _ _ b _ _ _ _ _ _=>b) t
def T.tc {α:Type}(t:T α):T α:=T.rec (motive:=fun _=>T α) .e (fun _ _ _ c _ _ _ _ _=>c) t
def T.td {α:Type}(t:T α):T α:=T.rec (motive:=fun _=>T α) .e (fun _ _ _ _ d _ _ _ _=>d) t
def T.getK {α:Type}(p:K):T α->Option α:=
 K.rec (motive:=fun _=>T α->Option α) (fun t=>t.top) (fun _ ih t=>ih t.ta) (fun _ ih t=>ih t.tb) (fun _ ih t=>ih t.tc) (fun _ ih t=>ih t.td) p
def T.get {α:Type}(t:T α)(k:Nat):Option α:=T.getK (K.of k) t
def T.putz {α:Type}(x:Option α)(t:T α):T α:=T.rec (motive:=fun _=>T α) (.n x .e .e .e .e) (fun _ a b c d _ _ _ _=>.n x a b c d) t
def T.puta {α:Type}(ih:Option α->T α->T α)(x:Option α)(t:T α):T α:=
 T.rec (motive:=fun _=>T α) ((ih x .e).force fun s=>.n none s .e .e .e) (fun v a b c d _ _ _ _=>(ih x a).force fun s=>.n v s b c d) t
def T.putb {α:Type}(ih:Option α->T α->T α)(x:Option α)(t:T α):T α:=
 T.rec (motive:=fun _=>T α) ((ih x .e).force fun s=>.n none .e s .e .e) (fun v a b c d _ _ _ _=>(ih x b).force fun s=>.n v a s c d) t
def T.putc {α:Type}(ih:Option α->T α->T α)(x:Option α)(t:T α):T α:=
 T.rec (motive:=fun _=>T α) ((ih x .e).force fun s=>.n none .e .e s .e) (fun v a b c d _ _ _ _=>(ih x c).force fun s=>.n v a b s d) t
def T.putd {α:Type}(ih:Option α->T α->T α)(x:Option α)(t:T α):T α:=
 T.rec (motive:=fun _=>T α) ((ih x .e).force fun s=>.n none .e .e .e s) (fun v a b c d _ _ _ _=>(ih x d).force fun s=>.n v a b c s) t
def T.setK {α:Type}(p:K):Option α->T α->T α:=
 K.rec (motive:=fun _=>Option α->T α->T α) T.putz (fun _ ih=>T.puta ih) (fun _ ih=>T.putb ih) (fun _ ih=>T.putc ih) (fun _ ih=>T.putd ih) p
def T.set {α:Type}(t:T α)(k:Nat)(x:Option α):T α:=T.setK (K.of k) x t
theorem u9 {a b:Nat}(h:a≠b):Nat.beq a b=false:=by
 cases e:Nat.beq a b
 ·rfl
 ·exact absurd (bI4 e) h
theorem t7 {a b:Nat}(h:a=b):Nat.beq a b=true:=by
 subst h;exact Nat.beq_refl _
theorem T.getK_e {α:Type}:∀p:K,T.getK p (.e:T α)=none
 | .z=>rfl
 | .a p=>T.getK_e p
 | .b p=>T.getK_e p
 | .c p=>T.getK_e p
 | .d p=>T.getK_e p
theorem T.get_e {α:Type}(k:Nat):(T.e:T α).get k=none:=T.getK_e _
theorem T.getK_setK {α:Type}(x:Option α):∀(p:K) (t:T α) (q:K),(p=q->T.getK q (T.setK p x t)=x)/\(p≠q->T.getK q (T.setK p x t)=T.getK q t):=by
 intro p
 induction p with
 |z=>
  intro t q;refine⟨fun h=>by subst h;cases t<;>rfl,fun h=>?_⟩
  cases q with
  |z=>exact absurd rfl h
  |_=>cases t<;>rfl
 |a p ih=>
  intro t q;have e:T.setK (.a p) x t=T.n t.top (T.setK p x t.ta) t.tb t.tc t.td:=by
   cases t with
   |e=>exact T.force_eq (T.setK p x .e) (fun s=>T.n none s .e .e .e)
   |n v a b c d=>exact T.force_eq (T.setK p x a) (fun s=>T.n v s b c d)
  rw[e];cases q with
  |a q=>exact⟨fun h=>(ih t.ta q).1 (by injection h),fun h=>(ih t.ta q).2 (fun h'=>h (by rw[h']))⟩
  |_=>exact⟨fun h=>(by cases h),fun _=>by cases t<;>rfl⟩
 |b p ih=>
  intro t q;have e:T.setK (.b p) x t=T.n t.top t.ta (T.setK p x t.tb) t.tc t.td:=by
   cases t with
   |e=>exact T.force_eq (T.setK p x .e) (fun s=>T.n none .e s .e .e)
   |n v a b c d=>exact T.force_eq (T.setK p x b) (fun s=>T.n v a s c d)
  rw[e];cases q with
  |b q=>exact⟨fun h=>(ih t.tb q).1 (by injection h),fun h=>(ih t.tb q).2 (fun h'=>h (by rw[h']))⟩
  |_=>exact⟨fun h=>(by cases h),fun _=>by cases t<;>rfl⟩
 |c p ih=>
  intro t q;have e:T.setK (.c p) x t=T.n t.top t.ta t.tb (T.setK p x t.tc) t.td:=by
   cases t with
   |e=>exact T.force_eq (T.setK p x .e) (fun s=>T.n none .e .e s .e)
   |n v a b c d=>exact T.force_eq (T.setK p x c) (fun s=>T.n v a b s d)
  rw[e];cases q with
  |c q=>exact⟨fun h=>(ih t.tc q).1 (by injection h),fun h=>(ih t.tc q).2 (fun h'=>h (by rw[h']))⟩
  |_=>exact⟨fun h=>(by cases h),fun _=>by cases t<;>rfl⟩
 |d p ih=>
  intro t q;have e:T.setK (.d p) x t=T.n t.top t.ta t.tb t.tc (T.setK p x t.td):=by
   cases t with
   |e=>exact T.force_eq (T.setK p x .e) (fun s=>T.n none .e .e .e s)
   |n v a b c d=>exact T.force_eq (T.setK p x d) (fun s=>T.n v a b c s)
  rw[e];cases q with
  |d q=>exact⟨fun h=>(ih t.td q).1 (by injection h),fun h=>(ih t.td q).2 (fun h'=>h (by rw[h']))⟩
  |_=>exact⟨fun h=>(by cases h),fun _=>by cases t<;>rfl⟩
theorem K.pick_eq (p:K)(r:Nat):K.pick p r=if r=0 then .a p else if r=1 then .b p else if r=2 then .c p else .d p:=by
 match r with
 |0=>rfl
 |1=>rfl
 |2=>rfl
 |r+3=>rw[bJ9 (by omega),bJ9 (by omega),bJ9 (by omega)];rfl
theorem K.pick_inj {p q:K}{r s:Nat}(hr:r<4)(hs:s<4)(h:K.pick p r=K.pick q s):p=q/\r=s:=by
 rw[K.pick_eq,K.pick_eq]at h;split at h<;>split at h<;>first
  | (injection h with h1;exact⟨h1,by omega⟩)
  | (cases h;done)
  | (split at h<;>first| (injection h with h1;exact⟨h1,by omega⟩)| (cases h;done)| (split at h<;>first| (injection h with h1;exact⟨h1,by omega⟩)| (cases h;done)| (split at h<;>first| (injection h with h1;exact⟨h1,by omega⟩)| (cases h;done)| (split at h<;>first| (injection h with h1;exact⟨h1,by omega⟩)| (cases h;done)))))
theorem K.ofF_inj :∀(f g j k:Nat),j<f->k<g->K.ofF f j=K.ofF g k->j=k:=by
 intro f
 induction f with
 |zero=>intro g j k h;omega
 |succ f ih=>
  intro g j k hj hk h;cases g with
  |zero=>omega
  |succ g=>
   have pz:∀(p:K) (r:Nat),K.pick p r≠ .z:=by
    intro p r;rw[K.pick_eq]
    repeat' split
    all_goals (intro h;cases h)
   cases j with
   |zero=>
    cases k with
    |zero=>rfl
    |succ k=>exact absurd h.symm (pz _ _)
   |succ j=>
    cases k with
    |zero=>exact absurd h (pz _ _)
    |succ k=>
     have h':K.pick (K.ofF f (j/4)) (j % 4)=K.pick (K.ofF g (k/4)) (k % 4):=h;obtain⟨h1,h2⟩:=K.pick_inj (Nat.mod_lt _ (by omega)) (Nat.mod_lt _ (by omega)) h'
     have:=ih g (j/4) (k/4) (by omega) (by omega) h1
     omega
theorem T.get_set {α:Type}(t:T α)(k:Nat)(x:Option α)(j:Nat):(t.set k x).get j=if j=k then x else t.get j:=by
 obtain⟨h1,h2⟩:=T.getK_setK x (K.of k) t (K.of j)
 by_cases h:j=k
 ·subst h;rw[bK1 rfl];exact h1 rfl
 ·rw[bJ9 h];exact h2 (fun e=>h (K.ofF_inj _ _ _ _ (by omega) (by omega) e).symm)
end Go.Xe
end PartXm1
noncomputable section PartXm2
namespace Go.Xe
open Go.RowKit
structure Pl where
 blk:Nat
 dl:Nat
 siz:Nat
 esz:Nat
def Sg :Type:=Nat->Option Pl
def Sg.le (σ σ':Sg):Prop:=∀i p,σ i=some p->σ' i=some p
theorem Sg.le_refl (σ:Sg):Sg.le σ σ:=fun _ _ h=>h
theorem Sg.le_trans {a b c:Sg}(h:Sg.le a b)(k:Sg.le b c):Sg.le a c:=fun i p e=>k i p (h i p e)
structure Sg.gr (n n':Nat)(σ σ':Sg):Prop where
 le:Sg.le σ σ'
 low:∀i,i<n->σ' i=σ i
 nx:n<=n'
theorem Sg.gr_refl (n:Nat)(σ:Sg):Sg.gr n n σ σ:=⟨Sg.le_refl σ,fun _ _=>rfl,bK2 n⟩
theorem Sg.gr_trans {n n1 n2:Nat}{a b c:Sg}(h:Sg.gr n n1 a b)(k:Sg.gr n1 n2 b c):Sg.gr n n2 a c:=
 ⟨Sg.le_trans h.le k.le,fun i hi=>(k.low i (by have:=h.nx;omega)).trans (h.low i hi),bN7 h.nx k.nx⟩
def unk :Nat:=9223372036854775808
def I6 (c:Nat):Nat:=c/unk-1
def C3 (c:Nat):Nat:=c % unk
def c7 (lo hi:Nat):Nat:=unk*(lo+1)+hi
theorem G4 {lo hi:Nat}(h:hi<unk):I6 (c7 lo hi)=lo:=by unfold I6 c7;unfold unk at*;omega
theorem F5 {lo hi:Nat}(h:hi<unk):C3 (c7 lo hi)=hi:=by unfold C3 c7;unfold unk at*;omega
theorem p7 (lo hi:Nat):unk<=c7 lo hi:=by unfold c7 unk;omega
theorem bH6 :I6 unk=0:=by decide
theorem bH5 :C3 unk=0:=by decide
theorem D7 :0<unk:=by decide
def aS1 :FloatKind->Nat->IntKind
 | .f32,0=>.u32
 | .f32,1=>.u64
 | .f32,_=>.u8
 | .f64,_=>.i64
def Q5 (f:FloatKind)(lo:Nat):IntKind:=aS1 f (lo/18446744073709551616)
def Y7 (lo:Nat):Nat:=lo % 18446744073709551616
theorem aM6 (lo:Nat):Y7 lo<=lo:=Nat.mod_le _ _
inductive VR (σ : Sg) : Value → Value → Prop
 |bool (b:Bool):VR σ (.bool b) (.bool b)
 |int (k:IntKind) (n:Int):VR σ (.int k n) (.int k n)
 |float (k:FloatKind) (n:Nat):VR σ (.float k n) (.float k n)
 |ival (f:FloatKind) (lo hi n:Nat) (h1:Y7 lo<=n) (h2:hi=0\/n<hi):VR σ (.complex f lo hi) (.int (Q5 f lo) n)
 |string (s:ByteArray):VR σ (.string s) (.string s)
 |nilp:VR σ (.pointer none) (.pointer none)
 |ptr (i o:Nat) (p:Pl) (h:σ i=some p):VR σ (.pointer (some ⟨i,o,none⟩)) (.pointer (some ⟨p.blk,p.dl+o,none⟩))
 |nils (l c:Nat):VR σ (.slice none l c) (.slice none l c)
 | slice (i o : Nat) (p : Pl) (l c c' : Nat) (h : σ i = some p) (hc : (c = c' ∧ c < unk) ∨ (unk ≤ c ∧ I6 c ≤ c' ∧ (C3 c = 0 ∨ c' < C3 c) ∧ p.dl + o + c' * p.esz ≤ p.siz)) (hl : l ≤ c') :
   VR σ (.slice (some ⟨i,o,none⟩) l c) (.slice (some ⟨p.blk,p.dl+o,none⟩) l c')
 |vague (q:Addr) (c':Nat):VR σ (.slice (some ⟨0,0,some 0⟩) 0 unk) (.slice (some q) 0 c')
 |nilm:VR σ (.map none) (.map none)
 |map (i:Nat) (p:Pl) (h:σ i=some p):VR σ (.map (some i)) (.map (some p.blk))
 | func (fn : Fn) (xs ys cs ds : Array Value) (h1 : xs.size = ys.size) (h2 : ∀ (i : Nat) x y, xs[i]? = some x → ys[i]? = some y → VR σ x y)
   (h3:cs.size=ds.size) (h4:∀(i:Nat) x y,cs[i]? =some x->ds[i]? =some y->VR σ x y):VR σ (.func fn xs cs) (.func fn ys ds)
 |nilf:VR σ .nilFunc .nilFunc
 |yield (i:Nat) (p:Pl) (h:σ i=some p):VR σ (.chan (some i)) (.func (.yield p.blk) #[] #[])
 |iface (t:TypeId) (v u:Value) (h:VR σ v u):VR σ (.iface t v) (.iface t u)
 |nili:VR σ .nilIface .nilIface
 |agg (xs ys:Array Value) (h1:xs.size=ys.size) (h2:∀(i:Nat) x y,xs[i]? =some x->ys[i]? =some y->VR σ x y):VR σ (.agg xs) (.agg ys)
 |tuple (xs ys:Array Value) (h1:xs.size=ys.size) (h2:∀(i:Nat) x y,xs[i]? =some x->ys[i]? =some y->VR σ x y):VR σ (.tuple xs) (.tuple ys)
theorem VR.mono {σ σ':Sg}(hs:Sg.le σ σ'){a b:Value}(h:VR σ a b):VR σ' a b:=by
 induction h with
 |bool b=>exact .bool b
 |int k n=>exact .int k n
 |float k n=>exact .float k n
 |ival f lo hi n h1 h2=>exact .ival f lo hi n h1 h2
 |string s=>exact .string s
 |nilp=>exact .nilp
 |ptr i o p h=>exact .ptr i o p (hs _ _ h)
 |nils l c=>exact .nils l c
 |slice i o p l c c' h hc hl=>exact .slice i o p l c c' (hs _ _ h) hc hl
 |vague q c'=>exact .vague q c'
 |nilm=>exact .nilm
 |map i p h=>exact .map i p (hs _ _ h)
 |func fn xs ys cs ds h1 _ h3 _ ih1 ih2=>exact .func fn xs ys cs ds h1 ih1 h3 ih2
 |nilf=>exact .nilf
 |yield i p h=>exact .yield i p (hs _ _ h)
 |iface t v u _ ih=>exact .iface t v u ih
 |nili=>exact .nili
 |agg xs ys h1 _ ih=>exact .agg xs ys h1 ih
 |tuple xs ys h1 _ ih=>exact .tuple xs ys h1 ih
theorem VR.undef (σ:Sg):VR σ undef undef:= .tuple _ _ rfl (fun i x y h _=>by simp at h)
def VRL (σ:Sg)(xs ys:List Value):Prop:=xs.length=ys.length/\ ∀(i:Nat) x y,xs[i]? =some x->ys[i]? =some y->VR σ x y
theorem VRL.nil (σ:Sg):VRL σ [] []:=⟨rfl,fun i x y h _=>by simp at h⟩
theorem VRL.cons {σ:Sg}{x y:Value}{xs ys:List Value}(h:VR σ x y)(hs:VRL σ xs ys):VRL σ (x::xs) (y::ys):=by
 refine⟨by simp[hs.1],fun i a b ha hb=>?_⟩
 cases i with
 |zero=>grind
 |succ i=>simp at ha hb;exact hs.2 i a b ha hb
theorem VRL.uncons {σ:Sg}{x:Value}{xs ys:List Value}(h:VRL σ (x::xs) ys):∃y ys',ys=y::ys'/\VR σ x y/\VRL σ xs ys':=by
 cases ys with
 |nil=>exact absurd h.1 (by simp)
 |cons y ys=>exact⟨y,ys,rfl,h.2 0 x y rfl rfl,by have:=h.1;simpa using this,fun i a b ha hb=>h.2 (i+1) a b (by simpa using ha) (by simpa using hb)⟩
theorem VRL.unnil {σ:Sg}{ys:List Value}(h:VRL σ [] ys):ys=[]:=bI5 h.1.symm
theorem VRL.mono {σ σ':Sg}(hs:Sg.le σ σ'){a b:List Value}(h:VRL σ a b):VRL σ' a b:=⟨h.1,fun i x y hx hy=>(h.2 i x y hx hy).mono hs⟩
theorem VRL.append {σ:Sg}{a b c d:List Value}(h:VRL σ a b)(k:VRL σ c d):VRL σ (a++c) (b++d):=by
 induction a generalizing b with
 |nil=>rw[h.unnil];exact k
 |cons x a ih=>obtain⟨y,b',rfl,h1,h2⟩:=h.uncons;exact VRL.cons h1 (ih h2)
theorem VRL.get {σ:Sg}{a b:List Value}(h:VRL σ a b){i:Nat}{x:Value}(hx:a[i]? =some x):∃y,b[i]? =some y/\VR σ x y:=by
 have hi:i<a.length:=(bI2.1 hx).1;have hb:i<b.length:=by rw[<-h.1];exact hi
 exact⟨b[i],by simp[hb],h.2 i x _ hx (by simp[hb])⟩
theorem VRL.of_agg {σ:Sg}{a:Array Value}{v:Value}(h:VR σ (.agg a) v):∃b,v= .agg b/\VRL σ a.toList b.toList:=by
 cases h with
 |agg _ ys h1 h2=>exact⟨ys,rfl,by simpa using h1,fun i x y hx hy=>h2 i x y (by simpa using hx) (by simpa using hy)⟩
theorem VRL.to_agg {σ:Sg}{a b:List Value}(h:VRL σ a b):VR σ (.agg a.toArray) (.agg b.toArray):=
 .agg _ _ (by simpa using h.1) (fun i x y hx hy=>h.2 i x y (by simpa using hx) (by simpa using hy))
theorem VRL.of_tuple {σ:Sg}{a:Array Value}{v:Value}(h:VR σ (.tuple a) v):∃b,v= .tuple b/\VRL σ a.toList b.toList:=by
 cases h with
 |tuple _ ys h1 h2=>exact⟨ys,rfl,by simpa using h1,fun i x y hx hy=>h2 i x y (by simpa using hx) (by simpa using hy)⟩
theorem VRL.to_tuple {σ:Sg}{a b:List Value}(h:VRL σ a b):VR σ (.tuple a.toArray) (.tuple b.toArray):=
 .tuple _ _ (by simpa using h.1) (fun i x y hx hy=>h.2 i x y (by simpa using hx) (by simpa using hy))
theorem VR.cells {σ:Sg}{v u:Value}(h:VR σ v u):VRL σ v.cells.toList u.cells.toList:=by
 cases h with
 |agg xs ys h1 h2=>exact⟨by simpa [Value.cells]using h1,fun i x y hx hy=>h2 i x y (by simpa [Value.cells]using hx) (by simpa [Value.cells]using hy)⟩
 |bool b=>exact VRL.cons (.bool b) (VRL.nil σ)
 |int k n=>exact VRL.cons (.int k n) (VRL.nil σ)
 |float k n=>exact VRL.cons (.float k n) (VRL.nil σ)
 |ival f lo hi n h1 h2=>exact VRL.cons (.ival f lo hi n h1 h2) (VRL.nil σ)
 |string s=>exact VRL.cons (.string s) (VRL.nil σ)
 |nilp=>exact VRL.cons .nilp (VRL.nil σ)
 |ptr i o p h=>exact VRL.cons (.ptr i o p h) (VRL.nil σ)
 |nils l c=>exact VRL.cons (.nils l c) (VRL.nil σ)
 |slice i o p l c c' h hc hl=>exact VRL.cons (.slice i o p l c c' h hc hl) (VRL.nil σ)
 |vague q c'=>exact VRL.cons (.vague q c') (VRL.nil σ)
 |nilm=>exact VRL.cons .nilm (VRL.nil σ)
 |map i p h=>exact VRL.cons (.map i p h) (VRL.nil σ)
 |func fn xs ys cs ds h1 h2 h3 h4=>exact VRL.cons (.func fn xs ys cs ds h1 h2 h3 h4) (VRL.nil σ)
 |nilf=>exact VRL.cons .nilf (VRL.nil σ)
 |yield i p h=>exact VRL.cons (.yield i p h) (VRL.nil σ)
 |iface t v u h=>exact VRL.cons (.iface t v u h) (VRL.nil σ)
 |nili=>exact VRL.cons .nili (VRL.nil σ)
 |tuple xs ys h1 h2=>exact VRL.cons (.tuple xs ys h1 h2) (VRL.nil σ)
theorem VR.oneCell {σ:Sg}{v u:Value}(h:VR σ v u)(hv:v.oneCell'=true):u.oneCell'=true:=by
 cases h<;>first|rfl| (simp[Value.oneCell']at hv)
inductive Blk where
 |cells (c:T Value) (n:Nat) (elem esz:Nat)
 |ro (c:T Value) (n:Nat) (elem esz:Nat)
 |sit (s:ByteArray) (pos:Nat)
 |map (es:List (Value×Value)) (reg:Bool)
 |loop (st:LoopState) (pend:Option Code) (nt:Nat) (tms:T Value) (params:Array Tmp) (assign body:Code) (db:Nat)
 |dfr
structure Hp where
 m:T Blk
 nx:Nat
def BR (σ : Sg) (p : Pl) : Blk → Obj → Prop
 | .cells c n e z,o=>∃C,o= .cells C e (0,0)/\p.esz=z/\C.size=p.siz/\p.dl+n<=p.siz/\ ∀j,j<n-> ∃v u,c.get j=some v/\C[p.dl+j]? =some u/\VR σ v u
 | .ro c n e z,o=>∃C f,o= .cells C e f/\p.esz=z/\C.size=p.siz/\p.dl+n<=p.siz/\ ∀j v,j<n->c.get j=some v-> ∃u,C[p.dl+j]? =some u/\VR σ v u
 | .sit s pos,o=>o= .stringIter s pos/\p.dl=0
 | .dfr,o=>o= .deferred (some [])
 | .loop st pend nt tms params assign body db, o => ∃ r, o = .loop r ∧ r.state = st ∧ r.pending = pend ∧ r.params = params ∧ r.assign = assign ∧ r.body = body ∧
   (r.tmps.size=nt/\ ∀k,VR σ ((tms.get k).getD undef) (r.tmps.getD k undef))/\ ∃q,σ db=some q/\q.blk=r.defers
 | .map es reg, o => ∃ ents clock, o = .map ents clock ∧ ents.size = es.length ∧ (∀ (j : Nat) x e, es[j]? = some x → ents[j]? = some e → VR σ x.1 e.key ∧ VR σ x.2 e.val) ∧
   (reg=true->clock=ents.size/\ ∀(j:Nat) e,ents[j]? =some e->e.born=j)
theorem BR.mono {σ σ':Sg}(hs:Sg.le σ σ'){p:Pl}{b:Blk}{o:Obj}(h:BR σ p b o):BR σ' p b o:=by
 cases b with
 |cells c n e z=>
  obtain⟨C,h1,h2,h3,h4,h5⟩:=h;exact⟨C,h1,h2,h3,h4,fun j hj=>let⟨v,u,a,b,c⟩:=h5 j hj;⟨v,u,a,b,c.mono hs⟩⟩
 |ro c n e z=>
  obtain⟨C,f,h1,h2,h3,h4,h5⟩:=h;exact⟨C,f,h1,h2,h3,h4,fun j v hj hv=>let⟨u,b,c⟩:=h5 j v hj hv;⟨u,b,c.mono hs⟩⟩
 |sit s pos=>exact h
 |dfr=>exact h
 |loop st pend nt tms params assign body db=>
  obtain⟨r,h1,h2,h3,h4,h5,h6,⟨h7,h8⟩,q,h9,h10⟩:=h;exact⟨r,h1,h2,h3,h4,h5,h6,⟨h7,fun k=>(h8 k).mono hs⟩,q,hs _ _ h9,h10⟩
 |map es reg=>
  obtain⟨ents,clock,h1,h2,h3,h4⟩:=h;exact⟨ents,clock,h1,h2,fun j x e hx he=>⟨(h3 j x e hx he).1.mono hs,(h3 j x e hx he).2.mono hs⟩,h4⟩
structure BS where
 B:Nat->Prop
 D:Nat->Prop
 sub:∀k,D k->B k
instance : CoeFun BS (fun _=>Nat->Prop):=⟨BS.B⟩
def BS.below (w:World):BS:=⟨(· <w.heap.size),fun _=>False,fun _ h=>h.elim⟩
def NB (B:BS)(k:Nat):Blk->Prop
 | .ro _ _ _ _=>B.D k
 |_=>¬B k
def S7 :Blk->Bool
 | .ro _ _ _ _=>true
 |_=>false
theorem NB.no {B:BS}{k:Nat}{b:Blk}(h:NB B k b)(hb:S7 b=false):¬B k:=by cases b<;>first|exact h| (cases hb)
theorem NB.yes {B:BS}{k:Nat}{b:Blk}(h:NB B k b)(hb:S7 b=true):B.D k:=by cases b<;>first|exact h| (cases hb)
theorem NB.of {B:BS}{k:Nat}{b:Blk}(h:¬B k)(hb:S7 b=false):NB B k b:=by cases b<;>first|exact h| (cases hb)
theorem NB.to {B B':BS}{k:Nat}{b:Blk}(h:NB B k b)(h1:B.D k->B'.D k)(h2:¬B k-> ¬B' k):NB B' k b:=by
 cases b<;>first|exact h1 h|exact h2 h
theorem NB.like {B:BS}{k:Nat}{b b':Blk}(h:NB B k b)(hb:S7 b=false)(hb':S7 b'=false):NB B k b':= .of (h.no hb) hb'
def rdC :Blk->Option (T Value×Nat×Nat)
 | .cells c n _ z=>some (c,n,z)
 | .ro c n _ z=>some (c,n,z)
 |_=>none
structure HR (B:BS)(w0:World)(σ:Sg)(hp:Hp)(w:World):Prop where
 os:w.os=w0.os
 tape:w.tape=w0.tape
 output:w.output=w0.output
 size:w0.heap.size<=w.heap.size
 old:∀k,B k->k<w0.heap.size
 kept:∀k,B k->w.heap[k]? =w0.heap[k]?
 fresh:∀i,hp.nx<=i->σ i=none
 live:∀i b,hp.m.get i=some b-> ∃p o,σ i=some p/\NB B p.blk b/\w.heap[p.blk]? =some o/\BR σ p b o
 inj:∀i j b b' p q,hp.m.get i=some b->hp.m.get j=some b'->i≠j->σ i=some p->σ j=some q->p.blk≠q.blk
theorem HR.liveC {B : BS} {w0 : World} {σ : Sg} {hp : Hp} {w : World} (h : HR B w0 σ hp w) {i n e z : Nat} {c : T Value} (hg : hp.m.get i = some (.cells c n e z)) :
  ∃p C,σ i=some p/\p.esz=z/\ ¬B p.blk/\w.heap[p.blk]? =some (.cells C e (0,0))/\C.size=p.siz/\p.dl+n<=p.siz/\ ∀j,j<n-> ∃v u,c.get j=some v/\C[p.dl+j]? =some u/\VR σ v u:=by
 obtain⟨p,o,h1,h2,h3,C,rfl,h5,h6,h7,h8⟩:=h.live i _ hg;exact⟨p,C,h1,h5,h2,h3,h6,h7,h8⟩
theorem HR.liveR {B : BS} {w0 : World} {σ : Sg} {hp : Hp} {w : World} (h : HR B w0 σ hp w) {i n z : Nat} {b : Blk} {c : T Value} (hg : hp.m.get i = some b) (hr : rdC b = some (c, n, z)) :
  ∃p C e f,σ i=some p/\p.esz=z/\w.heap[p.blk]? =some (.cells C e f)/\C.size=p.siz/\p.dl+n<=p.siz/\ ∀j v,j<n->c.get j=some v-> ∃u,C[p.dl+j]? =some u/\VR σ v u:=by
 cases b with
 |cells c' n' e z'=>
  cases hr;obtain⟨p,C,h1,h2,_,h3,h4,h5,h6⟩:=h.liveC hg
  grind
 |ro c' n' e z'=>
  cases hr;obtain⟨p,o,h1,h2,h3,C,f,rfl,h5,h6,h7,h8⟩:=h.live i _ hg
  grind
 |_=>cases hr
theorem HR.drew {B:BS}{w0:World}{σ:Sg}{hp:Hp}{w:World}(h:HR B w0 σ hp w):HR B w0 σ hp w.drew:=
 ⟨h.os,h.tape,h.output,h.size,h.old,h.kept,h.fresh,h.live,h.inj⟩
def fill (c:T Value):Nat->List Value->T Value
 |_,[]=>c
 |k,v::vs=>fill (c.set k (some v)) (k+1) vs
theorem l6 :∀(vs:List Value) (c:T Value) (k j:Nat),(fill c k vs).get j=if k<=j/\j<k+vs.length then vs[j-k]? else c.get j:=by
 intro vs
 induction vs with
 |nil=>intro c k j;simp only[fill,bS7,bO5];rw[bJ9 (by omega)]
 |cons v vs ih=>
  intro c k j;simp only[fill,ih,T.get_set,bM2]
  grind
def n9 (c:T Value):Nat->Nat->Option (List Value)
 |_,0=>some []
 |o,n+1=>match c.get o with
  |some v=>match n9 c (o+1) n with
   |some vs=>some (v::vs)
   |none=>none
  |none=>none
theorem j9 {c:T Value}:∀ {n o:Nat} {vs:List Value},n9 c o n=some vs->vs.length=n/\ ∀j,j<n->vs[j]? =c.get (o+j):=by
 intro n
 induction n with
 |zero=>intro o vs h;simp[n9]at h;subst h;exact⟨rfl,fun j hj=>by omega⟩
 |succ n ih=>
  intro o vs h;simp only[n9]at h
  grind
theorem HR.cellsR {B : BS} {w0 : World} {σ : Sg} {hp : Hp} {w : World} (h : HR B w0 σ hp w) {i n z o m : Nat} {b : Blk} {c : T Value} {vs : List Value}
  (hg:hp.m.get i=some b) (hr:rdC b=some (c,n,z)) (hn:o+m<=n) (hl:n9 c o m=some vs) {p:Pl} (hp':σ i=some p):
  ∃us,VRL σ vs us/\us.length=m/\ ∀j u,us[j]? =some u->w.cell? ((⟨p.blk,p.dl+o,none⟩:Addr).add j)=some u:=by
 obtain⟨q,C,e,f,hq,hz,hw,hs,hd,hc⟩:=h.liveR hg hr;have:q=p:=bK5 (hq.symm.trans hp');subst this;obtain⟨hlen,hget⟩:=j9 hl;refine⟨(C.toList.drop (q.dl+o)).take m,⟨?_,?_⟩,?_,?_⟩
 ·grind
 ·grind
 ·grind
 ·intro j u hu
  have hj:j<m:=by grind
  rw[bL2,bK1 hj,bL8]at hu;rw[bR2,cell_of_row w q.blk _ C e f hw]
  grind
theorem HR.cells {B : BS} {w0 : World} {σ : Sg} {hp : Hp} {w : World} (h : HR B w0 σ hp w) {i n e z o m : Nat} {c : T Value} {vs : List Value}
  (hg:hp.m.get i=some (.cells c n e z)) (hn:o+m<=n) (hl:n9 c o m=some vs) {p:Pl} (hp':σ i=some p):
  ∃us,VRL σ vs us/\us.length=m/\ ∀j u,us[j]? =some u->w.cell? ((⟨p.blk,p.dl+o,none⟩:Addr).add j)=some u:=h.cellsR hg rfl hn hl hp'
end Go.Xe
end PartXm2
noncomputable section PartXm3
namespace Go.Xe
open Go.RowKit
section
variable {B :BS}{w0:World}{σ:Sg}{hp:Hp}{w:World}
def Sg.ext (σ:Sg)(i:Nat)(p:Pl):Sg:=fun j=>if j=i then some p else σ j
theorem Sg.ext_same (σ:Sg)(i:Nat)(p:Pl):σ.ext i p i=some p:=by simp[Sg.ext]
theorem Sg.ext_other (σ:Sg)(i:Nat)(p:Pl){j:Nat}(h:j≠i):σ.ext i p j=σ j:=by simp[Sg.ext,h]
theorem Sg.le_ext {σ:Sg}{i:Nat}(p:Pl)(h:σ i=none):Sg.le σ (σ.ext i p):=by
 intro j q hq;have hne:j≠i:=by intro e;subst e;rw[h]at hq;cases hq
 rw[Sg.ext_other _ _ _ hne];exact hq
theorem HR.allocO (h : HR B w0 σ hp w) (id nx : Nat) (hid : σ id = none) (hnx : hp.nx ≤ nx) (hlt : id < nx) (b : Blk) (o : Obj) (p : Pl) (hp0 : p.blk = w.heap.size) (hb : BR (σ.ext id p) p b o) (hro : S7 b = false := by rfl) :
  HR B w0 (σ.ext id p) ⟨hp.m.set id (some b),nx⟩ (w.alloc o):=by
 have hle:=Sg.le_ext (σ:=σ) (i:=id) p hid;refine⟨h.os,h.tape,h.output,by simp;have:=h.size;omega,h.old,fun k hk=>by rw[Below.heap_alloc _ _ _ (by have:=h.old k hk;have:=h.size;omega)];exact h.kept k hk,?_,?_,?_⟩
 ·intro i hi
  have hi':nx<=i:=hi;rw[Sg.ext_other _ _ _ (by omega)]
  exact h.fresh i (by omega)
 ·intro i b' hg
  simp only[T.get_set]at hg
  by_cases hi:i=id
  ·rw[bK1 hi]at hg
   simp only[bH9]at hg;subst hg;subst hi;refine⟨p,o,Sg.ext_same _ _ _,.of (fun hB=>by have h1:=h.old _ hB;have h2:=h.size;omega) hro,?_,hb⟩
   rw[hp0];show(w.heap.push _)[w.heap.size]? =_;simp
  ·rw[bJ9 hi]at hg
   obtain⟨q,o',h1,h2,h3,h4⟩:=h.live i b' hg;refine⟨q,o',by rw[Sg.ext_other _ _ _ hi];exact h1,h2,?_,h4.mono hle⟩
   rw[Below.heap_alloc _ _ _ (bJ4.1 h3).1];exact h3
 ·intro i j b1 b2 q r hi hj hne hqi hrj
  simp only[T.get_set]at hi hj
  by_cases ei:i=id
  ·have ej:j≠id:=by omega
   rw[bJ9 ej]at hj;rw[ei,Sg.ext_same]at hqi;rw[Sg.ext_other _ _ _ ej]at hrj;obtain⟨r',o',h1,_,h3,_⟩:=h.live j b2 hj;have:r'=r:=bK5 (h1.symm.trans hrj);subst this;have:=(bJ4.1 h3).1;rw[<-bK5 hqi,hp0];omega
  ·rw[bJ9 ei]at hi
   rw[Sg.ext_other _ _ _ ei]at hqi
   by_cases ej:j=id
   ·rw[ej,Sg.ext_same]at hrj
    obtain⟨q',o',h1,_,h3,_⟩:=h.live i b1 hi;have:q'=q:=bK5 (h1.symm.trans hqi);subst this;have:=(bJ4.1 h3).1;rw[<-bK5 hrj,hp0];omega
   ·rw[bJ9 ej]at hj
    rw[Sg.ext_other _ _ _ ej]at hrj;exact h.inj i j _ _ q r hi hj hne hqi hrj
theorem HR.allocAt (h : HR B w0 σ hp w) (id nx : Nat) (hid : σ id = none) (hnx : hp.nx ≤ nx) (hlt : id < nx) (c : T Value) (n e z : Nat) (us : Array Value) (hn : n ≤ us.size)
  (hc:∀j,j<n-> ∃v u,c.get j=some v/\us[j]? =some u/\VR σ v u):
  HR B w0 (σ.ext id ⟨w.heap.size,0,us.size,z⟩) ⟨hp.m.set id (some (.cells c n e z)),nx⟩ (w.alloc (.cells us e)):=by
 refine h.allocO id nx hid hnx hlt _ _ _ rfl ⟨us,rfl,rfl,rfl,by simpa using hn,fun j hj=>?_⟩
 obtain⟨v,u,h1,h2,h3⟩:=hc j hj;exact⟨v,u,h1,by simpa using h2,h3.mono (Sg.le_ext _ hid)⟩
theorem HR.alloc (h : HR B w0 σ hp w) (c : T Value) (n e z : Nat) (us : Array Value) (hn : n ≤ us.size)
  (hc:∀j,j<n-> ∃v u,c.get j=some v/\us[j]? =some u/\VR σ v u):
  HR B w0 (σ.ext hp.nx ⟨w.heap.size,0,us.size,z⟩) ⟨hp.m.set hp.nx (some (.cells c n e z)),hp.nx+1⟩ (w.alloc (.cells us e)):=
 h.allocAt hp.nx (hp.nx+1) (h.fresh _ (bK2 _)) (bP4 _) (bO0 _) c n e z us hn hc
theorem HR.turn (h : HR B w0 σ hp w) {i : Nat} {b b' : Blk} (hg : hp.m.get i = some b) {p : Pl} (hpi : σ i = some p) {o : Obj} {w' : World} (hh : w'.heap[p.blk]? = some o)
  (hk:∀k,k≠p.blk->w'.heap[k]? =w.heap[k]?) (hs:w'.heap.size=w.heap.size) (h1:w'.os=w.os) (h2:w'.tape=w.tape) (h3:w'.output=w.output) (hb:BR σ p b' o) (hro:S7 b=false:=by rfl) (hro':S7 b'=false:=by rfl):
  HR B w0 σ {hp with m:=hp.m.set i (some b')} w':=by
 obtain⟨p',o',g1,g3',g4,g5⟩:=h.live i b hg;have g3:=g3'.no hro;have:p'=p:=bK5 (g1.symm.trans hpi);subst this;refine⟨h1.trans h.os,h2.trans h.tape,h3.trans h.output,by rw[hs];exact h.size,h.old,fun k hkB=>?_,h.fresh,?_,?_⟩
 ·rw[hk k (fun e=>g3 (by rw[<-e];exact hkB))];exact h.kept k hkB
 ·intro j b2 hj
  simp only[T.get_set]at hj
  by_cases hji:j=i
  ·rw[bK1 hji]at hj
   simp only[bH9]at hj;subst hj;subst hji;exact⟨p',o,g1,.of g3 hro',hh,hb⟩
  ·rw[bJ9 hji]at hj
   obtain⟨q,oq,d1,d2,d3,d4⟩:=h.live j b2 hj;exact⟨q,oq,d1,d2,by rw[hk _ (h.inj j i _ _ q p' hj hg hji d1 g1)];exact d3,d4⟩
 ·intro a c b1 b2 q r ha hc hne hqa hrc
  simp only[T.get_set]at ha hc;have ha':∃b,hp.m.get a=some b:=by
   by_cases hai:a=i
   ·subst hai;exact⟨_,hg⟩
   ·rw[bJ9 hai]at ha;exact⟨_,ha⟩
  have hc':∃b,hp.m.get c=some b:=by
   by_cases hci:c=i
   ·subst hci;exact⟨_,hg⟩
   ·rw[bJ9 hci]at hc;exact⟨_,hc⟩
  obtain⟨_,ha'⟩:=ha';obtain⟨_,hc'⟩:=hc';exact h.inj a c _ _ q r ha' hc' hne hqa hrc
theorem HR.store (h : HR B w0 σ hp w) {i n e z o : Nat} {c : T Value} (hg : hp.m.get i = some (.cells c n e z)) {p : Pl} (hpi : σ i = some p)
  {vs us:List Value} (hv:VRL σ vs us) (h1:∀u∈us,u.oneCell'=true) (ho:o<=n) (hs:p.dl+o+vs.length<=p.siz) (P:Program):
  ∃w',(storeCells ⟨p.blk,p.dl+o,none⟩ us).run P w= .ok () w'/\HR B w0 σ {hp with m:=hp.m.set i (some (.cells (fill c o vs) (max n (o+vs.length)) e z))} w'/\w'.heap.size=w.heap.size:=by
 obtain⟨p',C,g1,g2,g3,g4,g5,g6,g7⟩:=h.liveC hg;have:p'=p:=bK5 (g1.symm.trans hpi);subst this;have hr:=run_storeCells_at P p'.blk (p'.dl+o) e us 0 C w g4 (by rw[<-hv.1];omega) h1
 simp only[bO5]at hr;refine⟨_,hr,?_,by simp[World.setRow]⟩
 have hrow:=setRow_heap w p'.blk C (C.toList.take (p'.dl+o)++us++C.toList.drop (p'.dl+o+us.length)).toArray e (0,0) g4;have hsize:(C.toList.take (p'.dl+o)++us++C.toList.drop (p'.dl+o+us.length)).toArray.size=C.size:=by
  have:=hv.1
  grind
 refine h.turn hg g1 hrow (fun k hk=>setRow_other w _ k _ hk) (by simp[World.setRow]) rfl rfl rfl ⟨_,rfl,g2,by rw[hsize];exact g5,by omega,fun k hk=>?_⟩
 rw[l6];have hl:=hv.1
 by_cases hin:o<=k/\k<o+vs.length
 ·rw[bK1 hin]
  have hk':k-o<vs.length:=by omega
  have hk2:k-o<us.length:=by omega
  refine⟨vs[k-o],us[k-o],by simp[hk'],?_,hv.2 (k-o) _ _ (by simp[hk']) (by simp[hk2])⟩
  simp only[bJ3,List.getElem?_toArray];rw[bI7 (by simp;omega),bI8 (by simp;omega)]
  grind
 ·rw[bJ9 hin]
  have hkn:k<n:=by omega
  obtain⟨v,u,a1,a2,a3⟩:=g7 k hkn;refine⟨v,u,a1,?_,a3⟩;simp only[bJ3,List.getElem?_toArray];rw[<-a2]
  by_cases hko:k<o
  ·grind
  ·rw[bI7 (by simp;omega),bI7 (by simp;omega),bL8]
   grind
theorem HR.move (h : HR B w0 σ hp w) {i n e z o k : Nat} {c : T Value} (hg : hp.m.get i = some (.cells c n e z)) {p : Pl} (hpi : σ i = some p) (hk : o + k ≤ n)
  (c':T Value) (hc:∀j,j<k->c'.get j=c.get (o+j)):
  HR B w0 (σ.ext hp.nx ⟨p.blk,p.dl+o,p.siz,p.esz⟩) ⟨(hp.m.set i none).set hp.nx (some (.cells c' k e z)),hp.nx+1⟩ w:=by
 have hle:=Sg.le_ext (σ:=σ) (i:=hp.nx) ⟨p.blk,p.dl+o,p.siz,p.esz⟩ (h.fresh _ (bK2 _));obtain⟨p',C,g1,g2,g3,g4,g5,g6,g7⟩:=h.liveC hg;have:p'=p:=bK5 (g1.symm.trans hpi);subst this;have hin:i≠hp.nx:=by
  intro e;rw[e,h.fresh _ (bK2 _)]at hpi;cases hpi
 refine⟨h.os,h.tape,h.output,h.size,h.old,h.kept,?_,?_,?_⟩
 ·intro j hj
  simp at hj;rw[Sg.ext_other _ _ _ (by omega)]
  exact h.fresh j (by omega)
 ·intro j b2 hj
  simp only[T.get_set]at hj
  by_cases ej:j=hp.nx
  ·rw[bK1 ej]at hj
   simp only[bH9]at hj;subst hj;subst ej;refine⟨_,_,Sg.ext_same _ _ _,g3,g4,C,rfl,g2,g5,by show p'.dl+o+k<=p'.siz;omega,fun j hj=>?_⟩
   obtain⟨v,u,a1,a2,a3⟩:=g7 (o+j) (by omega)
   refine⟨v,u,by rw[hc j hj];exact a1,?_,a3.mono hle⟩
   grind
  ·rw[bJ9 ej]at hj
   by_cases ei:j=i
   ·grind
   ·rw[bJ9 ei]at hj
    obtain⟨q,oq,d1,d2,d3,d4⟩:=h.live j b2 hj;exact⟨q,oq,by rw[Sg.ext_other _ _ _ ej];exact d1,d2,d3,d4.mono hle⟩
 ·intro a b b1 b2 q r ha hb hne hqa hrb
  simp only[T.get_set]at ha hb
  by_cases ea:a=hp.nx
  ·have eb:b≠hp.nx:=by omega
   rw[bJ9 eb]at hb
   by_cases eb':b=i
   ·rw[bK1 eb']at hb;cases hb
   ·rw[bJ9 eb']at hb
    rw[ea,Sg.ext_same]at hqa;rw[Sg.ext_other _ _ _ eb]at hrb;rw[<-bK5 hqa];exact h.inj i b _ _ p' r hg hb (Ne.symm eb') hpi hrb
  ·rw[bJ9 ea]at ha
   by_cases ea':a=i
   ·rw[bK1 ea']at ha;cases ha
   ·rw[bJ9 ea']at ha
    rw[Sg.ext_other _ _ _ ea]at hqa
    by_cases eb:b=hp.nx
    ·rw[eb,Sg.ext_same]at hrb
     rw[<-bK5 hrb];exact h.inj a i _ _ q p' ha hg ea' hqa hpi
    ·rw[bJ9 eb]at hb
     by_cases eb':b=i
     ·rw[bK1 eb']at hb;cases hb
     ·rw[bJ9 eb']at hb
      rw[Sg.ext_other _ _ _ eb]at hrb;exact h.inj a b _ _ q r ha hb hne hqa hrb
theorem HR.sub (h:HR B w0 σ hp w){hp2:Hp}(hn:hp.nx<=hp2.nx)(hm:∀i b,hp2.m.get i=some b->hp.m.get i=some b):HR B w0 σ hp2 w:=
 ⟨h.os,h.tape,h.output,h.size,h.old,h.kept,fun i hi=>h.fresh i (bN7 hn hi),fun i b hg=>h.live i b (hm _ _ hg),fun i j b b' p q hi hj=>h.inj i j b b' p q (hm _ _ hi) (hm _ _ hj)⟩
end
end Go.Xe
end PartXm3
noncomputable section PartXm4
namespace Go.Xe
open Go.RowKit
structure TR (σ:Sg)(nt:Nat)(tm:T Value)(tmps:Array Value):Prop where
 size:tmps.size=nt
 at_:∀k,VR σ ((tm.get k).getD undef) (tmps.getD k undef)
theorem TR.mono {σ σ':Sg}(hs:Sg.le σ σ'){nt:Nat}{tm:T Value}{tmps:Array Value}(h:TR σ nt tm tmps):TR σ' nt tm tmps:=
 ⟨h.size,fun k=>(h.at_ k).mono hs⟩
theorem TR.put {σ : Sg} {nt : Nat} {tm : T Value} {tmps : Array Value} (h : TR σ nt tm tmps) {d : Nat} (hd : d < nt) {v u : Value} (hv : VR σ v u) :
  TR σ nt (tm.set d (some v)) (tmps.setIfInBounds d u):=by
 refine⟨by simpa using h.size,fun k=>?_⟩
 rw[T.get_set]
 by_cases hk:k=d
 ·subst hk
  rw[bK1 rfl];have:k<tmps.size:=by rw[h.size];exact hd
  simp_all
 ·rw[bJ9 hk]
  have:=h.at_ k
  simpa [bS0 (Ne.symm hk)]using this
def aj4 :Value->Bool
 | .bool _| .int _ _| .float _ _| .string _| .pointer none| .slice none _ _| .map none| .nilFunc| .nilIface=>true
 |_=>false
def cst :Value->Bool
 | .agg cs=>cs.toList.all aj4
 | .tuple vs=>vs.toList.all aj4
 |v=>aj4 v
theorem bi4 (σ:Sg){v:Value}(h:aj4 v=true):VR σ v v:=by
 cases v with
 |bool b=>exact .bool b
 |int k n=>exact .int k n
 |float k n=>exact .float k n
 |string s=>exact .string s
 |pointer a=>cases a with
  |none=>exact .nilp
  |some a=>simp[aj4]at h
 |slice a l c=>cases a with
  |none=>exact .nils l c
  |some a=>simp[aj4]at h
 |map r=>cases r with
  |none=>exact .nilm
  |some a=>simp[aj4]at h
 |nilFunc=>exact .nilf
 |nilIface=>exact .nili
 |_=>simp[aj4]at h
theorem ay7 (σ:Sg):∀ {vs:List Value},vs.all aj4=true->VRL σ vs vs
 | [],_=>VRL.nil σ
 |v::vs,h=>by
  simp only[List.all_cons,bI0]at h;exact VRL.cons (bi4 σ h.1) (ay7 σ h.2)
theorem O5 (σ:Sg){v:Value}(h:cst v=true):VR σ v v:=by
 cases v with
 |agg cs=>have:=(ay7 σ (show cs.toList.all aj4=true from h)).to_agg;simpa using this
 |tuple vs=>have:=(ay7 σ (show vs.toList.all aj4=true from h)).to_tuple;simpa using this
 |bool b=>exact .bool b
 |int k n=>exact .int k n
 |float k n=>exact .float k n
 |string s=>exact .string s
 |nilFunc=>exact .nilf
 |nilIface=>exact .nili
 |_=>exact bi4 σ h
def a9 (tm:T Value):Operand->Option Value
 | .tmp t=>some ((tm.get t).getD undef)
 | .const v=>bif cst v then some v else none
 | .global _=>none
 | .func f=>some (.func (.func f) #[] #[])
theorem X4 {σ:Sg}{nt:Nat}{tm:T Value}{a:Act}(h:TR σ nt tm a.tmps){x:Operand}{v:Value}(hx:a9 tm x=some v):VR σ v (a.eval x):=by
 cases x with
 |tmp t=>simp only[a9,bH9]at hx;subst hx;exact h.at_ t
 |const c=>
  simp only[a9]at hx;cases hc:cst c with
  |false=>grind
  |true=>simp[hc]at hx;subst hx;exact O5 σ hc
 |global g=>simp[a9]at hx
 |func f=>
  simp only[a9,bH9]at hx;subst hx;exact .func _ _ _ _ _ rfl (fun i x y h _=>by simp at h) rfl (fun i x y h _=>by simp at h)
def ah4 (tm:T Value):List Operand->Option (List Value)
 | []=>some []
 |x::xs=>match a9 tm x with
  |some v=>match ah4 tm xs with
   |some vs=>some (v::vs)
   |none=>none
  |none=>none
def ap6 :TypeDesc->Bool
 | .struct _| .array _ _=>true
 |_=>false
def X6 (P : Program) (t : TypeId) (cs : List Value) (off : Nat) : Option Value :=
 match P.underlying t with
 |none=>none
 | some d => bif ap6 d then
   match P.info? t with
   |some i=>some (.agg ((cs.drop off).take i.size).toArray)
   |none=>none
  else cs[off]?
theorem ag0 {P:Program}{t:TypeId}{d:TypeDesc}(h:P.underlying t=some d)(w:World):(isAgg t).run P w= .ok (ap6 d) w:=by
 unfold isAgg;simp only[bK8,bK3 h,bK4];cases d<;>rfl
theorem aM2 (cs:Array Value)(off n:Nat):cs.extract off (off+n)=((cs.toList.drop off).take n).toArray:=by
 grind
theorem O4 {P : Program} {σ : Sg} {t : TypeId} {xs : List Value} {off : Nat} {v : Value} (h : X6 P t xs off = some v) {ys : Array Value} (hy : VRL σ xs ys.toList) :
  ∃u,VR σ v u/\ ∀w,(part t ys off).run P w= .ok u w:=by
 unfold X6 at h;cases hu:P.underlying t with
 |none=>grind
 |some d=>
  simp only[hu]at h;cases hd:ap6 d with
  |true=>
   simp only[hd,bJ6]at h;cases hi:P.info? t with
   |none=>grind
   |some i=>
    simp only[hi,bH9]at h;subst h;refine⟨.agg (ys.extract off (off+i.size)),?_,fun w=>?_⟩
    ·rw[aM2]
     refine VRL.to_agg ⟨by have:=hy.1;simp at this⊢;omega,fun j x y hx hy'=>?_⟩
     rw[bL2]at hx hy'
     by_cases hj:j<i.size
     ·rw[bK1 hj,bL8]at hx hy'
      exact hy.2 _ x y hx hy'
     ·grind
    ·unfold part
     simp only[bK8,ag0 hu,bK4,hd,bR1,sizeOf,typeInfo,bS1,hi,bL3]
  |false=>
   simp only[hd,bJ7]at h;obtain⟨u,hu2,hv⟩:=hy.get h;refine⟨u,hv,fun w=>?_⟩
   unfold part;have:ys[off]? =some u:=by simpa using hu2
   simp only[bK8,ag0 hu,bK4,hd,bP1,bR0,this,bL3]
def ak5 (P:Program)(xt:TypeId)(x:Value)(f:Nat):Option Value:=
 match P.underlying xt with
 |some (.struct fs)=>match fs.toList[f]? with
  |some fd=>match x with
   | .agg cs=>X6 P fd.type cs.toList fd.offset
   |_=>none
  |none=>none
 |_=>none
theorem aP6 {P : Program} {σ : Sg} {xt : TypeId} {x y : Value} {f : Nat} {v : Value} (h : ak5 P xt x f = some v) (hy : VR σ x y) :
  ∃u,VR σ v u/\ ∀w,(Instr.field xt y f).run P w= .ok u w:=by
 unfold ak5 at h;split at h
 ·rename_i fs hu
  split at h
  ·rename_i fd hf
   split at h
   ·rename_i cs
    obtain⟨ds,rfl,hd⟩:=VRL.of_agg hy;obtain⟨u,h1,h2⟩:=O4 h hd;refine⟨u,h1,fun w=>?_⟩
    have hf':fs[f]? =some fd:=by grind
    simp[Instr.field,bK3 hu,hf',asAgg,h2]
   ·cases h
  ·cases h
 ·cases h
def R7 (x:Value)(i:Nat):Option Value:=
 match x with
 | .tuple vs=>vs.toList[i]?
 |_=>none
theorem aE4 {P : Program} {σ : Sg} {x y : Value} {i : Nat} {v : Value} (h : R7 x i = some v) (hy : VR σ x y) :
  ∃u,VR σ v u/\ ∀w,(Instr.extract y i).run P w= .ok u w:=by
 unfold R7 at h;split at h
 ·rename_i vs
  obtain⟨ds,rfl,hd⟩:=VRL.of_tuple hy;obtain⟨u,h1,h2⟩:=hd.get h;refine⟨u,h2,fun w=>?_⟩
  have:ds[i]? =some u:=by simpa using h1
  simp[Instr.extract,this]
 ·cases h
def af1 (P : Program) (xt : TypeId) (x i : Value) : Option Value :=
 match i with
 | .int _ n => match P.underlying xt, x with
  | some (.array len e), .agg cs => bif decide (0 ≤ n) && decide (n < len) then
    match P.info? e with
    |some ie=>X6 P e cs.toList (n.toNat*ie.size)
    |none=>none
   else none
  | some .string, .string s => bif decide (0 ≤ n) then
    match s.data.toList[n.toNat]? with
    |some b=>some (.int .u8 b.toNat)
    |none=>none
   else none
  |_,_=>none
 |_=>none
theorem az2 (s:ByteArray)(i:Nat):s[i]? =s.data.toList[i]? :=by
 obtain⟨⟨l⟩⟩:=s;rw[getElem?_def]
 by_cases h:i<l.length
 ·have h1:i<(ByteArray.mk ⟨l⟩).size:=h
  rw[dif_pos h1];simp[h];rfl
 ·have h1:¬i<(ByteArray.mk ⟨l⟩).size:=h
  grind
theorem aP8 {P : Program} {σ : Sg} {xt : TypeId} {x y i j : Value} {v : Value} (h : af1 P xt x i = some v) (hy : VR σ x y) (hj : VR σ i j) :
  ∃u,VR σ v u/\ ∀w,(Instr.index xt y j).run P w= .ok u w:=by
 unfold af1 at h;split at h
 ·rename_i k n
  cases hj;split at h
  ·rename_i len e cs hu
   obtain⟨ds,rfl,hd⟩:=VRL.of_agg hy;cases hb:decide (0<=n)&&decide (n<len)with
   |false=>grind
   |true=>
    simp only[hb,bJ6]at h;simp only[bI0,bK0]at hb;split at h
    ·rename_i ie hie
     obtain⟨u,h1,h2⟩:=O4 h hd;refine⟨u,h1,fun w=>?_⟩
     simp[Instr.index,asIntOf,bK3 hu,hb,sizeOf,typeInfo,hie,h2]
    ·cases h
  ·rename_i s hu
   cases hy;cases hb:decide (0<=n)with
   |false=>grind
   |true=>
    simp only[hb,bJ6]at h;simp only[bK0]at hb;split at h
    ·rename_i b hs
     cases h;refine⟨_,.int _ _,fun w=>?_⟩
     have:s[n.toNat]? =some b:=by rw[az2];exact hs
     simp[Instr.index,asIntOf,bK3 hu,hb,this]
    ·cases h
  ·cases h
 ·cases h
def splice (cells:List Value)(off:Nat)(vs:List Value):List Value:=cells.take off++vs++cells.drop (off+vs.length)
def ao8 (place:Nat->Option (Nat×Nat))(cells:List Value):List (Nat×Value)->Option (List Value)
 | []=>some cells
 | (i,v)::rest=>match place i with
  |none=>none
  |some (off,size)=>bif Nat.beq v.cells.toList.length size&&Nat.ble (off+size) cells.length then ao8 place (splice cells off v.cells.toList) rest else none
theorem au3 (off : Nat) : ∀ (vs : List Value) (k : Nat) (cs : Array Value), off + k + vs.length ≤ cs.size →
  ((vs.zipIdx k).foldl (fun(cs:Array Value) (p:Value×Nat)=>cs.setIfInBounds (off+p.2) p.1) cs).toList=splice cs.toList (off+k) vs
 | [],k,cs,h=>by simp[splice]
 |v::vs,k,cs,h=>by
  simp only[List.zipIdx_cons,List.foldl_cons];simp only[bM2]at h;have ih:=au3 off vs (k+1) (cs.setIfInBounds (off+k) v) (by simp;omega)
  rw[ih];unfold splice;have:=list_seg_step cs.toList (off+k) v vs (by simp;omega)
  grind
theorem VRL.splice {σ:Sg}{a b c d:List Value}(h:VRL σ a b)(k:VRL σ c d)(off:Nat):VRL σ (splice a off c) (Xe.splice b off d):=by
 unfold Xe.splice;have ht:VRL σ (a.take off) (b.take off):=⟨by simp[h.1],fun i x y hx hy=>by
  rw[bL2]at hx hy;split at hx
  ·rename_i hi;rw[bK1 hi]at hy;exact h.2 i x y hx hy
  ·cases hx⟩
 have hdr:VRL σ (a.drop (off+c.length)) (b.drop (off+d.length)):=by
  rw[k.1];exact⟨by simp[h.1],fun i x y hx hy=>by rw[bL8]at hx hy;exact h.2 _ x y hx hy⟩
 exact(ht.append k).append hdr
def PVR (σ:Sg)(xs ys:List (Nat×Value)):Prop:=xs.length=ys.length/\ ∀(i:Nat) x y,xs[i]? =some x->ys[i]? =some y->x.1=y.1/\VR σ x.2 y.2
theorem PVR.uncons {σ:Sg}{x:Nat×Value}{xs ys:List (Nat×Value)}(h:PVR σ (x::xs) ys):∃u ys',ys=(x.1,u)::ys'/\VR σ x.2 u/\PVR σ xs ys':=by
 cases ys with
 |nil=>exact absurd h.1 (by simp)
 |cons y ys=>
  have h0:=h.2 0 x y rfl rfl;exact⟨y.2,ys,by rw[h0.1],h0.2,by have:=h.1;simpa using this,fun i a b ha hb=>h.2 (i+1) a b (by simpa using ha) (by simpa using hb)⟩
theorem PVR.unnil {σ:Sg}{ys:List (Nat×Value)}(h:PVR σ [] ys):ys=[]:=bI5 h.1.symm
theorem ae9 {σ : Sg} (place : Nat → Option (Nat × Nat)) : ∀ (xs : List (Nat × Value)) (ys : List (Nat × Value)) (cells r : List Value) (cs : Array Value),
  ao8 place cells xs=some r->PVR σ xs ys->VRL σ cells cs.toList-> ∃ds,Instr.fill place cs ys=some ds/\VRL σ r ds.toList:=by
 intro xs
 induction xs with
 |nil=>intro ys cells r cs h hp hc;rw[hp.unnil];simp[ao8]at h;subst h;exact⟨cs,rfl,hc⟩
 |cons x xs ih=>
  intro ys cells r cs h hp hc;obtain⟨u,ys',rfl,hu,hp'⟩:=hp.uncons;obtain⟨i,v⟩:=x;simp only[ao8]at h;simp only[Instr.fill];cases hpl:place i with
  |none=>grind
  |some os=>
   obtain⟨off,size⟩:=os;simp only[hpl]at h⊢;cases hb:Nat.beq v.cells.toList.length size&&Nat.ble (off+size) cells.length with
   |false=>grind
   |true=>
    simp only[hb,bJ6]at h;simp only[bI0]at hb;have e1:v.cells.toList.length=size:=bI4 hb.1;have e2:off+size<=cells.length:=bI3 hb.2;have hcells:=hu.cells;have e3:u.cells.size=size:=by rw[<-e1,hcells.1];simp
    have e4:off+u.cells.size<=cs.size:=by rw[e3];have:=hc.1;simp at this;omega
    have hne:¬(decide (u.cells.size≠size)||decide (off+u.cells.size>cs.size))=true:=by grind
    rw[bJ9 hne];have hf:(u.cells.zipIdx.foldl (fun(cs:Array Value) (p:Value×Nat)=>cs.setIfInBounds (off+p.2) p.1) cs).toList=splice cs.toList off u.cells.toList:=by
     rw[<-Array.foldl_toList,Array.toList_zipIdx];exact au3 off u.cells.toList 0 cs (by simpa using e4)
    refine ih ys' _ r _ h hp' ?_;rw[hf];exact hc.splice hcells off
def aa6 (P:Program):List Field->Option (List (Nat×Nat))
 | []=>some []
 |f::fs=>match P.info? f.type with
  |some i=>match aa6 P fs with
   |some r=>some ((f.offset,i.size)::r)
   |none=>none
  |none=>none
theorem aC3 {P : Program} (w : World) : ∀ {fs : List Field} {r : List (Nat × Nat)}, aa6 P fs = some r →
  (fs.mapM fun f=>do pure (f.offset,<-sizeOf f.type):Sem (List (Nat×Nat))).run P w= .ok r w
 | [],r,h=>by simp[aa6]at h;subst h;simp
 |f::fs,r,h=>by
  simp only[aa6]at h;cases hi:P.info? f.type with
  |none=>grind
  |some i=>
   cases hr:aa6 P fs with
   |none=>grind
   |some r'=>
    simp[hi,hr]at h;subst h;have ih:=aC3 (P:=P) w hr;have hs:(sizeOf f.type).run P w= .ok i.size w:=by simp[sizeOf,typeInfo,hi]
    simp_all
def I3 (P:Program)(t:TypeId):Option Value:=match P.info? t with
 |some i=>match i.zero with
  |some z=>bif cst z then some z else none
  |none=>none
 |none=>none
theorem H3 {P:Program}{t:TypeId}{z:Value}(h:I3 P t=some z):cst z=true/\ ∀w,(zeroValue t).run P w= .ok z w:=by
 unfold I3 at h;split at h
 ·rename_i i hi
  split at h
  ·rename_i z' hz
   cases hc:cst z' with
   |false=>grind
   |true=>
    simp only[hc,bJ6,bH9]at h;subst h;exact⟨hc,fun w=>by simp[zeroValue,typeInfo,hi,hz]⟩
  ·cases h
 ·cases h
def ak2 (P:Program)(t:TypeId)(parts:List (Nat×Value)):Option Value:=
 match I3 P t with
 |none=>none
 |some z=>match P.underlying t with
  |some (.struct fs)=>match aa6 P fs.toList with
   |some pl=>match ao8 (fun i=>pl[i]?) z.cells.toList parts with
    |some cs=>some (.agg cs.toArray)
    |none=>none
   |none=>none
  |some (.array _ e)=>match P.info? e with
   |some ie=>match ao8 (fun i=>some (i*ie.size,ie.size)) z.cells.toList parts with
    |some cs=>some (.agg cs.toArray)
    |none=>none
   |none=>none
  |_=>none
theorem aP3 {P : Program} {σ : Sg} {t : TypeId} {xs : List (Nat × Value)} {ys : Array (Nat × Value)} {v : Value} (h : ak2 P t xs = some v) (hy : PVR σ xs ys.toList) :
  ∃u,VR σ v u/\ ∀w,(Instr.build t ys).run P w= .ok u w:=by
 unfold ak2 at h;split at h
 ·cases h
 ·rename_i z hz
  obtain⟨hc,hzr⟩:=H3 hz;have hzz:=(O5 σ hc).cells;split at h
  ·rename_i fs hu
   split at h
   ·rename_i pl hpl
    split at h
    ·rename_i cs hf
     cases h;obtain⟨ds,h1,h2⟩:=ae9 (σ:=σ) _ _ _ _ _ _ hf hy hzz;refine⟨.agg ds,by have:=h2.to_agg;simpa using this,fun w=>?_⟩
     have hpr:=aC3 (P:=P) w hpl;have hm:(fs.mapM fun f=>do pure (f.offset,<-sizeOf f.type):Sem (Array (Nat×Nat))).run P w= .ok pl.toArray w:=by
      rw[Array.mapM_eq_mapM_toList,Sem.run_map,hpr];rfl
     have hfn:(fun x:Nat=>pl.toArray[x]?)=fun i:Nat=>pl[i]? :=by grind
     unfold Instr.build;simp only[bK8,hzr,bK4,bK3 hu,hm,hfn,h1,bL3]
    ·cases h
   ·cases h
  ·rename_i n e hu
   split at h
   ·rename_i ie hie
    split at h
    ·rename_i cs hf
     cases h;obtain⟨ds,h1,h2⟩:=ae9 (σ:=σ) _ _ _ _ _ _ hf hy hzz;refine⟨.agg ds,by have:=h2.to_agg;simpa using this,fun w=>?_⟩
     simp[Instr.build,hzr,bK3 hu,sizeOf,typeInfo,hie,h1]
    ·cases h
   ·cases h
  ·cases h
end Go.Xe
end PartXm4
noncomputable section PartXm5
namespace Go.Xe
open Go.RowKit
def K9 (x:Value):Option (IntKind×Nat×Nat):=
 match x with
 | .complex f lo hi=>some (Q5 f lo,Y7 lo,hi)
 | .int k (.ofNat n)=>some (k,n,n+1)
 |_=>none
theorem P2 {σ : Sg} {x x' : Value} {k : IntKind} {lo hi : Nat} (h : K9 x = some (k, lo, hi)) (hx : VR σ x x') :
  ∃n:Nat,x'= .int k n/\lo<=n/\(hi=0\/n<hi):=by
 unfold K9 at h;split at h
 ·simp only[bH9,bI1]at h
  obtain⟨rfl,rfl,rfl⟩:=h;cases hx with
  |ival _ _ _ n h1 h2=>grind
 ·rename_i k n
  simp only[bH9,bI1]at h;obtain⟨rfl,rfl,rfl⟩:=h;cases hx
  grind
 ·cases h
def T8 (a b:Nat×Nat):Option Bool:=
 bif !(Nat.beq a.2 0)&&Nat.ble a.2 b.1 then some true else bif !(Nat.beq b.2 0)&&Nat.ble b.2 (a.1+1)then some false else none
theorem T9 {a b:Nat×Nat}{r:Bool}(h:T8 a b=some r){n m:Nat}(h1:a.1<=n)(h2:a.2=0\/n<a.2)(h3:b.1<=m)(h4:b.2=0\/m<b.2):r=decide ((n:Int)<(m:Int)):=by
 unfold T8 at h;cases hb: !(Nat.beq a.2 0)&&Nat.ble a.2 b.1 with
 |true=>
  rw[hb,bJ6]at h;simp only[bI0]at hb;have:=bI3 hb.2;have h0:a.2≠0:=fun e=>by rw[e]at hb;simp at hb
  cases h
  grind
 |false=>
  rw[hb,bJ7]at h;cases hc: !(Nat.beq b.2 0)&&Nat.ble b.2 (a.1+1)with
  |true=>
   rw[hc,bJ6]at h;simp only[bI0]at hc;have:=bI3 hc.2;have h0:b.2≠0:=fun e=>by rw[e]at hc;simp at hc
   cases h
   grind
  |false=>grind
def Y5 (a b:Nat×Nat):Bool:=
 match T8 a b with
 |some true=>true
 |_=>match T8 b a with
  |some true=>true
  |_=>false
def ieqF (x y:Value):Option Bool:=
 match K9 x,K9 y with
 |some (k,a),some (k',b)=>bif decide (k=k')&&Y5 a b then some false else none
 |_,_=>none
theorem aA4 {σ:Sg}{x y x' y':Value}{b:Bool}(h:ieqF x y=some b)(hx:VR σ x x')(hy:VR σ y y'):b=false/\ ∃k n m,x'= .int k n/\y'= .int k m/\n≠m:=by
 unfold ieqF at h;split at h
 ·rename_i k a k' c ha hc
  obtain⟨a1,a2⟩:=a;obtain⟨c1,c2⟩:=c;obtain⟨n,rfl,n1,n2⟩:=P2 ha hx;obtain⟨m,rfl,m1,m2⟩:=P2 hc hy;cases hk:decide (k=k')&&Y5 (a1,a2) (c1,c2)with
  |false=>grind
  |true=>
   rw[hk,bJ6,bH9]at h;simp only[bI0,bK0]at hk;obtain⟨rfl,hne⟩:=hk;refine⟨h.symm,k,n,m,rfl,rfl,?_⟩;unfold Y5 at hne;split at hne
   ·rename_i e;have:=T9 e n1 n2 m1 m2;simp at this;omega
   ·split at hne
    ·rename_i e;have:=T9 e m1 m2 n1 n2;simp at this;omega
    ·cases hne
 ·cases h
def aE3 (P:Program)(eq:TypeId->Value->Value->Option Bool)(xs ys:List Value):List Field->Option Bool
 | []=>some true
 |f::fs=>bif f.name== "_" then aE3 P eq xs ys fs else
  match X6 P f.type xs f.offset,X6 P f.type ys f.offset with
  |some a,some b=>match eq f.type a b with
   |some true=>aE3 P eq xs ys fs
   |some false=>some false
   |none=>none
  |_,_=>none
def xeq (P : Program) : Nat → TypeId → Value → Value → Option Bool
 |0,_,_,_=>none
 | d + 1, t, x, y => match P.underlying t, x, y with
  |some .bool,.bool a,.bool b=>some (a==b)
  |some (.int _),.int k a,.int k' b=>bif decide (k=k')then some (decide (a=b))else none
  |some (.int _),.complex f lo hi,.int k a=>ieqF (.complex f lo hi) (.int k a)
  |some (.int _),.int k a,.complex f lo hi=>ieqF (.int k a) (.complex f lo hi)
  |some .string,.string a,.string b=>some (a.data.toList==b.data.toList)
  |some (.pointer _),.pointer none,.pointer b=>some b.isNone
  |some (.pointer _),.pointer (some _),.pointer none=>some false
  | some (.pointer e), .pointer (some a), .pointer (some b) => bif Nat.beq a.block b.block then
    match P.info? e with
    |some ie=>bif Nat.beq ie.size 0 then none else some (Nat.beq a.off b.off)
    |none=>none
   else none
  |some (.struct fs),.agg xs,.agg ys=>bif P.stoodInHeld t then none else aE3 P (xeq P d) xs.toList ys.toList fs.toList
  |some (.slice _),.slice none _ _,.slice b _ _=>some b.isNone
  |some (.slice _),.slice (some _) _ _,.slice none _ _=>some false
  |some (.map _ _),.map none,.map b=>some b.isNone
  |some (.map _ _),.map (some _),.map none=>some false
  |some (.func _ _ _),.nilFunc,.nilFunc=>some true
  |some (.func _ _ _),.nilFunc,.func _ _ _=>some false
  |some (.func _ _ _),.func _ _ _,.nilFunc=>some false
  |some (.interface _),.nilIface,.iface _ _=>some false
  |some (.interface _),.iface _ _,.nilIface=>some false
  | some (.interface _), .iface tx vx, .iface ty vy => bif decide (tx = ty) then
    match P.info? tx with
    |some i=>bif i.comparable then xeq P d tx vx vy else none
    |none=>none
   else some false
  |_,_,_=>none
theorem ak4 {P : Program} {σ : Sg} {d : Nat} {eq : TypeId → Value → Value → Option Bool}
  (hq:∀t x y b,eq t x y=some b-> ∀x' y',VR σ x x'->VR σ y y'-> ∀w,(Op.equalIn d t x' y').run P w= .ok b w)
  {xs ys:List Value} {xs' ys':Array Value} (hx:VRL σ xs xs'.toList) (hy:VRL σ ys ys'.toList) (w:World):
  ∀ {fs:List Field} {b:Bool},aE3 P eq xs ys fs=some b->(Op.eqFields d xs' ys' fs).run P w= .ok b w
 | [],b,h=>by simp[aE3]at h;subst h;simp[Op.eqFields]
 |f::fs,b,h=>by
  simp only[aE3]at h
  by_cases hn:f.name= "_"
  ·have:(f.name== "_")=true:=by simpa using hn
   rw[this,bJ6]at h;simp only[Op.eqFields,hn,ne_eq,not_true_eq_false,bR0];exact ak4 hq hx hy w h
  ·have:(f.name== "_")=false:=by simpa using hn
   rw[this,bJ7]at h;split at h
   ·rename_i a c ha hc
    obtain⟨a',hva,hra⟩:=O4 ha hx;obtain⟨c',hvc,hrc⟩:=O4 hc hy;simp only[Op.eqFields,ne_eq,hn,bN5,bR1,bK8,hra,hrc,bK4];split at h
    ·rename_i he
     rw[hq _ _ _ _ he _ _ hva hvc w];simp only[bK4,Bool.not_true,bP1,bR0];exact ak4 hq hx hy w h
    ·rename_i he
     rw[hq _ _ _ _ he _ _ hva hvc w];cases h
     simp_all
    ·cases h
   ·cases h
theorem as7 {P : Program} {σ : Sg} : ∀ (d : Nat) (t : TypeId) (x y : Value) (b : Bool), xeq P d t x y = some b → ∀ x' y', VR σ x x' → VR σ y y' →
  ∀w,(Op.equalIn d t x' y').run P w= .ok b w:=by
 intro d
 induction d with
 |zero=>intro t x y b h;simp[xeq]at h
 |succ d ih=>
  intro t x y b h x' y' hx hy w;simp only[xeq]at h;split at h
  ·rename_i a c hu;cases hx;cases hy;simp only[bH9]at h;subst h;simp[Op.equalIn,bK3 hu]
  ·rename_i k k' a k'' c hu
   cases hx;cases hy;cases hk:decide (k'=k'')with
   |false=>rw[hk]at h;cases h
   |true=>
    rw[hk]at h;simp only[bK0]at hk;subst hk;simp only[bJ6,bH9]at h;subst h;rw[run_equalIn_int w d t _ _ _ _ hu]
    congr 1
  ·rename_i hu
   obtain⟨rfl,k,n,m,rfl,rfl,hne⟩:=aA4 h hx hy;rw[run_equalIn_int w d t _ _ _ _ hu];simp[hne]
  ·rename_i hu
   obtain⟨rfl,k,n,m,rfl,rfl,hne⟩:=aA4 h hx hy;rw[run_equalIn_int w d t _ _ _ _ hu];simp[hne]
  ·rename_i a c hu;cases hx;cases hy;simp only[bH9]at h;subst h
   rw[run_equalIn_string w d t _ _ hu,bS2,bS2]
  ·rename_i e c hu;simp only[bH9]at h;subst h
   cases hx;have hn:∃c',y'= .pointer c'/\c'.isNone=c.isNone:=by cases hy<;>exact⟨_,rfl,rfl⟩
   obtain⟨c',rfl,hn⟩:=hn;simp[Op.equalIn,bK3 hu,hn]
  ·rename_i e c hu;simp only[bH9]at h;subst h
   cases hx;cases hy;simp[Op.equalIn,bK3 hu]
  ·rename_i e a c hu
   cases hx with
   |ptr i o p hp=>
   cases hy with
   |ptr j q r hr=>
   simp only at h;cases hij:Nat.beq i j with
   |false=>rw[hij]at h;cases h
   |true=>
    rw[hij]at h;have hij:=bI4 hij;subst hij;have hpr:p=r:=bK5 (hp.symm.trans hr);subst hpr;simp only[bJ6]at h;split at h
    ·rename_i ie hie
     cases hz:Nat.beq ie.size 0 with
     |true=>rw[hz]at h;cases h
     |false=>
      rw[hz]at h;simp only[bJ7,bH9]at h;subst h;have hz':ie.size≠0:=fun e=>by rw[e]at hz;cases hz
      simp only[Op.equalIn,bK8,bK3 hu,bK4,sizeOf,typeInfo,bS1,hie,bL3,ne_eq,hz',bN5,bR1,sameAddr,beq_self_eq_true]
      congr 1
      by_cases e:o=q
      ·subst e;rw[t7 rfl];simp
      ·rw[u9 e]
       simp
    ·cases h
  ·rename_i fs xs ys hu
   cases hs:P.stoodInHeld t with
   |true=>rw[hs]at h;cases h
   |false=>
    rw[hs,bJ7]at h;obtain⟨xs',rfl,hx'⟩:=VRL.of_agg hx;obtain⟨ys',rfl,hy'⟩:=VRL.of_agg hy;have hf:P.fieldsOf t=fs:=by simp[Program.fieldsOf,hu]
    rw[run_equalIn_struct w d t xs' ys' (by rw[hf];exact hu) hs,hf]
    exact ak4 (fun t x y b hb x' y' h1 h2 w=>ih t x y b hb x' y' h1 h2 w) hx' hy' w h
  ·rename_i e l c b' l' c' hu;simp only[bH9]at h;subst h
   cases hx;have hn:∃b2 l2 c2,y'= .slice b2 l2 c2/\b2.isNone=b'.isNone:=by cases hy<;>exact⟨_,_,_,rfl,rfl⟩
   obtain⟨b2,l2,c2,rfl,hn⟩:=hn;simp[Op.equalIn,bK3 hu,hn]
  ·rename_i e a l c l' c' hu;simp only[bH9]at h;subst h
   cases hx<;>cases hy<;>simp[Op.equalIn,bK3 hu]
  ·rename_i k e b' hu;simp only[bH9]at h;subst h
   cases hx;have hn:∃b2,y'= .map b2/\b2.isNone=b'.isNone:=by cases hy<;>exact⟨_,rfl,rfl⟩
   obtain⟨b2,rfl,hn⟩:=hn;simp[Op.equalIn,bK3 hu,hn]
  ·rename_i k e a hu;simp only[bH9]at h;subst h
   cases hx;cases hy;simp[Op.equalIn,bK3 hu]
  ·rename_i hu;simp only[bH9]at h;subst h;cases hx;cases hy;simp[Op.equalIn,bK3 hu]
  ·rename_i hu;simp only[bH9]at h;subst h;cases hx;cases hy;simp[Op.equalIn,bK3 hu]
  ·rename_i hu;simp only[bH9]at h;subst h;cases hx;cases hy;simp[Op.equalIn,bK3 hu]
  ·rename_i hu;simp only[bH9]at h;subst h;cases hx;cases hy;simp[Op.equalIn,bK3 hu]
  ·rename_i hu;simp only[bH9]at h;subst h;cases hx;cases hy;simp[Op.equalIn,bK3 hu]
  ·rename_i ms tx vx ty vy hu
   cases hx with
   |iface _ _ ux hvx=>
   cases hy with
   |iface _ _ uy hvy=>
   cases ht:decide (tx=ty)with
   |false=>
    rw[ht]at h;simp only[bJ7,bH9]at h;subst h;simp only[bM7]at ht;simp[Op.equalIn,bK3 hu,ht]
   |true=>
    rw[ht]at h;simp only[bK0]at ht;subst ht;simp only[bJ6]at h;split at h
    ·rename_i i hi
     cases hc:i.comparable with
     |false=>rw[hc]at h;cases h
     |true=>
      rw[hc,bJ6]at h;have:=ih tx vx vy b h ux uy hvx hvy w;simp[Op.equalIn,bK3 hu,typeInfo,hi,hc,this]
    ·cases h
  ·cases h
def ak3 (op:BinOp)(a b:Int):Option Value:=
 match op with
 | .eql=>some (.bool (decide (a=b)))
 | .neq=>some (.bool (!decide (a=b)))
 | .lss=>some (.bool (decide (a<b)))
 | .leq=>some (.bool (decide (a<=b)))
 | .gtr=>some (.bool (decide (b<a)))
 | .geq=>some (.bool (decide (b<=a)))
 |_=>none
def B4 (op:BinOp)(k:IntKind)(a b:Int):Option Value:=
 match op with
 | .add=>some (.int k (k.wrap (a+b)))
 | .sub=>some (.int k (k.wrap (a-b)))
 | .mul=>some (.int k (k.wrap (a*b)))
 | .quo=>bif decide (b=0)then none else some (.int k (k.wrap (a.tdiv b)))
 | .rem=>bif decide (b=0)then none else some (.int k (a.tmod b))
 | .and| .or| .xor| .andNot=>some (.int k (bits op k a b))
 |_=>ak3 op a b
def at6 (op:BinOp)(k:IntKind)(a b:Int):Option Value:=
 bif decide (b<0)then none else
 match op with
 | .shl=>some (.int k (k.wrap (a*2^(min b.toNat k.bits))))
 | .shr=>some (.int k (a.fdiv (2^(min b.toNat k.bits))))
 |_=>none
def bB2 (op:BinOp)(a b:ByteArray):Option Value:=
 match op with
 | .add=>bif Nat.ble (a.data.toList.length+b.data.toList.length) 1000000000 then some (.string ⟨(a.data.toList++b.data.toList).toArray⟩)else none
 | .eql=>some (.bool (a.data.toList==b.data.toList))
 | .neq=>some (.bool (!(a.data.toList==b.data.toList)))
 | .lss=>some (.bool (Op.bytesLess a.data.toList b.data.toList))
 | .leq=>some (.bool (Op.bytesLess a.data.toList b.data.toList||a.data.toList==b.data.toList))
 | .gtr=>some (.bool (!(Op.bytesLess a.data.toList b.data.toList||a.data.toList==b.data.toList)))
 | .geq=>some (.bool (!Op.bytesLess a.data.toList b.data.toList))
 |_=>none
def I4 (P:Program)(t:TypeId):Value->Bool
 | .agg _=> !P.eqGuardType P.depth t
 | .nilIface=>false
 | .complex _ _ _=>false
 | .float _ _=>false
 |_=>true
def Z9 (P:Program)(op:BinOp)(t:TypeId)(x y:Value):Option Value:=
 match x,y with
 | .int k a,.int k' b=>match op with
  | .shl| .shr=>at6 op k a b
  |_=>bif decide (k=k')then B4 op k a b else none
 | .string a,.string b=>bB2 op a b
 |_,.complex _ _ _=>none
 |x,y=>match op with
  | .eql=>bif I4 P t x then match xeq P 10000 t x y with
   |some b=>some (.bool b)
   |none=>none else none
  | .neq=>bif I4 P t x then match xeq P 10000 t x y with
   |some b=>some (.bool (!b))
   |none=>none else none
  |_=>none
theorem N7 {σ:Sg}{P:Program}{op:BinOp}{a b:Int}{v:Value}(h:ak3 op a b=some v):VR σ v v/\ ∀w,(Op.intCmp op a b).run P w= .ok v w:=by
 cases op<;>simp only[ak3,bH9,reduceCtorEq]at h<;>subst h<;>refine⟨.bool _,fun w=>?_⟩<;>simp[Op.intCmp]<;>by_cases e:a=b<;>simp[e]
theorem aP1 {σ : Sg} {P : Program} {op : BinOp} {k : IntKind} {a b : Int} {v : Value} (h : B4 op k a b = some v) (h1 : op ≠ .shl) (h2 : op ≠ .shr) (t : TypeId) :
  VR σ v v/\ ∀w,(binOp op t (.int k a) (.int k b)).run P w= .ok v w:=by
 cases op
 case shl=>exact absurd rfl h1
 case shr=>exact absurd rfl h2
 case quo=>
  simp only[B4]at h;cases hb:decide (b=0)with
  |true=>grind
  |false=>
   rw[hb]at h;simp only[bM7]at hb;simp only[bJ7,bH9]at h;subst h;exact⟨.int _ _,fun w=>by simp[binOp_quo,Op.intDiv,hb]⟩
 case rem=>
  simp only[B4]at h;cases hb:decide (b=0)with
  |true=>grind
  |false=>
   rw[hb]at h;simp only[bM7]at hb;simp only[bJ7,bH9]at h;subst h;exact⟨.int _ _,fun w=>by simp[binOp_rem,Op.intDiv,hb]⟩
 case add=>simp only[B4,bH9]at h;subst h;exact⟨.int _ _,fun w=>by simp[binOp_add,Op.intArith]⟩
 case sub=>simp only[B4,bH9]at h;subst h;exact⟨.int _ _,fun w=>by simp[binOp_sub,Op.intArith]⟩
 case mul=>simp only[B4,bH9]at h;subst h;exact⟨.int _ _,fun w=>by simp[binOp_mul,Op.intArith]⟩
 case and=>simp only[B4,bH9]at h;subst h;exact⟨.int _ _,fun w=>by simp[binOp_and,intBits_and]⟩
 case or=>simp only[B4,bH9]at h;subst h;exact⟨.int _ _,fun w=>by simp[binOp_or,intBits_or]⟩
 case xor=>simp only[B4,bH9]at h;subst h;exact⟨.int _ _,fun w=>by simp[binOp_xor,intBits_xor]⟩
 case andNot=>simp only[B4,bH9]at h;subst h;exact⟨.int _ _,fun w=>by simp[binOp_andNot,intBits_andNot]⟩
 case eql=>
  obtain⟨h3,h4⟩:=N7 (σ:=σ) (P:=P) (op:= .eql) h;exact⟨h3,fun w=>by simpa [binOp]using h4 w⟩
 case neq=>
  obtain⟨h3,h4⟩:=N7 (σ:=σ) (P:=P) (op:= .neq) h;exact⟨h3,fun w=>by simpa [binOp]using h4 w⟩
 case lss=>
  obtain⟨h3,h4⟩:=N7 (σ:=σ) (P:=P) (op:= .lss) h;exact⟨h3,fun w=>by simpa [binOp]using h4 w⟩
 case leq=>
  obtain⟨h3,h4⟩:=N7 (σ:=σ) (P:=P) (op:= .leq) h;exact⟨h3,fun w=>by simpa [binOp]using h4 w⟩
 case gtr=>
  obtain⟨h3,h4⟩:=N7 (σ:=σ) (P:=P) (op:= .gtr) h;exact⟨h3,fun w=>by simpa [binOp]using h4 w⟩
 case geq=>
  obtain⟨h3,h4⟩:=N7 (σ:=σ) (P:=P) (op:= .geq) h;exact⟨h3,fun w=>by simpa [binOp]using h4 w⟩
theorem ap5 {σ : Sg} {P : Program} {op : BinOp} {k yk : IntKind} {a b : Int} {v : Value} (h : at6 op k a b = some v) :
  VR σ v v/\ ∀w,(Op.shift op k a yk b).run P w= .ok v w:=by
 unfold at6 at h;cases hb:decide (b<0)with
 |true=>grind
 |false=>
  rw[hb,bJ7]at h;simp only[bM7]at hb;split at h
  ·simp only[bH9]at h;subst h;exact⟨.int _ _,fun w=>by simp[Op.shift,hb]⟩
  ·simp only[bH9]at h;subst h;exact⟨.int _ _,fun w=>by simp[Op.shift,hb]⟩
  ·cases h
theorem ap7 (a b:ByteArray):a++b=⟨(a.data.toList++b.data.toList).toArray⟩:=by
 apply ByteArray.ext
 simp_all
theorem bf7 {σ : Sg} {P : Program} {op : BinOp} {a b : ByteArray} {v : Value} (h : bB2 op a b = some v) :
  VR σ v v/\ ∀w,(Op.stringOp op a b).run P w= .ok v w:=by
 cases op<;>simp only[bB2,bH9,reduceCtorEq]at h
 case add=>
  cases hb:Nat.ble (a.data.toList.length+b.data.toList.length) 1000000000 with
  |false=>grind
  |true=>
   rw[hb]at h;simp only[bJ6,bH9]at h;subst h;have hb:=bI3 hb;have e1:a.size=a.data.toList.length:=by simp
   have e2:b.size=b.data.toList.length:=by simp
   have hle:¬((a.size+b.size:Nat):Int)>IntKind.i64.max:=by rw[IntKind.max_i64,e1,e2];omega
   refine⟨.string _,fun w=>?_⟩
   simp only[Op.stringOp,bJ9 hle,bL3,ap7]
 all_goals
  subst h;refine⟨.bool _,fun w=>?_⟩
  simp only[Op.stringOp,bS2,bL3]
theorem ak1 {P : Program} {σ : Sg} {op : BinOp} {t : TypeId} {x y x' y' : Value} {v : Value} (h : Z9 P op t x y = some v) (hx : VR σ x x') (hy : VR σ y y') (ox oy : Operand) :
  VR σ v v/\ ∀w,((eqGuard op t ox oy x' y').run P w= .ok () w)/\(binOp op t x' y').run P w= .ok v w:=by
 unfold Z9 at h;split at h
 ·rename_i k a k' b
  cases hx;cases hy;split at h
  ·obtain⟨h1,h2⟩:=ap5 (σ:=σ) (P:=P) (yk:=k') h
   exact⟨h1,fun w=>⟨by rw[eqGuard_at_int];rfl,by rw[binOp_shl];exact h2 w⟩⟩
  ·obtain⟨h1,h2⟩:=ap5 (σ:=σ) (P:=P) (yk:=k') h
   exact⟨h1,fun w=>⟨by rw[eqGuard_at_int];rfl,by rw[binOp_shr];exact h2 w⟩⟩
  ·rename_i hn1 hn2
   cases hk:decide (k=k')with
   |false=>rw[hk]at h;cases h
   |true=>
    rw[hk]at h;simp only[bK0]at hk;subst hk;obtain⟨h1,h2⟩:=aP1 (σ:=σ) (P:=P) (show B4 op k a b=some v from h) hn1 hn2 t;exact⟨h1,fun w=>⟨by rw[eqGuard_at_int];rfl,h2 w⟩⟩
 ·rename_i a b
  cases hx;cases hy;obtain⟨h1,h2⟩:=bf7 (σ:=σ) (P:=P) h;exact⟨h1,fun w=>⟨by rw[eqGuard_at_string];rfl,by cases op<;>exact h2 w⟩⟩
 ·cases h
 ·rename_i hnc hni hns
  have hg : I4 P t x = true → ∀ w, (eqGuard op t ox oy x' y').run P w = .ok () w := by
   intro hg w;cases hx <;> first
    | (simp[I4]at hg;done)
    | (simp only [I4, bM5] at hg
       cases hy<;>first| (rw[run_eqGuard_agg (h:=w) _ _ _ _ _ _ hg];done)| (exact run_eqGuard_agg w op t ox oy _ _ hg)| (cases op<;>rfl))
    | (cases op<;>rfl)
  have heq:∀b,xeq P 10000 t x y=some b-> ∀w,(Op.equal t x' y').run P w= .ok b w:=fun b hb w=>as7 10000 t x y b hb x' y' hx hy w
  have hne : I4 P t x = true → (∀ w, (binOp .eql t x' y').run P w = (do pure (.bool (← Op.equal t x' y')) : Sem Value).run P w) ∧
    (∀w,(binOp .neq t x' y').run P w=(do pure (.bool (!(<-Op.equal t x' y'))):Sem Value).run P w):=by
   intro hgb
   constructor<;>intro w<;>cases hx<;>cases hy<;>first|rfl| (exact(hni _ _ _ _ rfl rfl).elim)| (exact(hns _ _ rfl rfl).elim)| (exact(hnc _ _ _ rfl).elim)| (simp[I4]at hgb)
  split at h
  ·cases hgb:I4 P t x with
   |false=>rw[hgb]at h;cases h
   |true=>
    rw[hgb,bJ6]at h;split at h
    ·rename_i b hb
     simp only[bH9]at h;subst h;exact⟨.bool _,fun w=>⟨hg hgb w,by rw[(hne hgb).1 w];simp only[bK8,heq b hb w,bK4,bL3]⟩⟩
    ·cases h
  ·cases hgb:I4 P t x with
   |false=>rw[hgb]at h;cases h
   |true=>
    rw[hgb,bJ6]at h;split at h
    ·rename_i b hb
     simp only[bH9]at h;subst h;exact⟨.bool _,fun w=>⟨hg hgb w,by rw[(hne hgb).2 w];simp only[bK8,heq b hb w,bK4,bL3]⟩⟩
    ·cases h
  ·cases h
end Go.Xe
end PartXm5
noncomputable section PartXm6
namespace Go.Xe
open Go.RowKit
def bF8 (n:Int):Option Value:=some (.string (Utf8.encode n))
def ai2 (P:Program)(src dst:TypeId)(x:Value):Option Value:=
 match P.underlying src with
 |none=>none
 |some _=>match P.underlying dst,x with
  |some (.int k),.int _ n=>some (.int k (k.wrap n))
  |some .string,.string s=>some (.string s)
  |some .string,.int _ n=>bF8 n
  |some (.int .i64),.complex _ lo hi=>bif Nat.ble 1 hi&&Nat.ble hi unk then some (.complex .f64 (Y7 lo) hi)else none
  |some (.int .u64),.complex _ lo hi=>bif Nat.ble 1 hi&&Nat.ble hi unk then some (.complex .f32 (Y7 lo+18446744073709551616) hi)else none
  |_,_=>none
theorem aY0 {P : Program} {σ : Sg} {src dst : TypeId} {x x' v : Value} (h : ai2 P src dst x = some v) (hx : VR σ x x') :
  ∃u,VR σ v u/\ ∀w,(convert src dst x').run P w= .ok u w:=by
 unfold ai2 at h;split at h
 ·cases h
 ·rename_i d hs
  split at h
  ·rename_i k k' n hd
   cases hx;simp only[bH9]at h;subst h;exact⟨_,.int _ _,fun w=>by simp[convert,bK3 hs,bK3 hd,Conv.intToInt]⟩
  ·rename_i s hd
   cases hx;simp only[bH9]at h;subst h;exact⟨_,.string _,fun w=>by simp[convert,bK3 hs,bK3 hd]⟩
  ·rename_i k n hd
   cases hx;unfold bF8 at h;simp only[bH9]at h;subst h;exact⟨_,.string _,fun w=>by simp[convert,bK3 hs,bK3 hd,Conv.intToString]⟩
  ·rename_i f lo hi hd
   cases hb:Nat.ble 1 hi&&Nat.ble hi unk with
   |false=>grind
   |true=>
    rw[hb,bJ6]at h;simp only[bI0]at hb;have b1:=bI3 hb.1;have b2:=bI3 hb.2;simp only[bH9]at h;subst h;cases hx with
    |ival _ _ _ n h1 h2=>
     have hn:n<unk:=by omega
     refine⟨_,.ival .f64 (Y7 lo) hi n (bN7 (aM6 _) h1) h2,fun w=>?_⟩
     have hw:IntKind.i64.wrap (n:Int)=n:=by rw[IntKind.wrap_i64];unfold unk at hn;omega
     simp[convert,bK3 hs,bK3 hd,Conv.intToInt,hw,Q5,aS1]
  ·rename_i f lo hi hd
   cases hb:Nat.ble 1 hi&&Nat.ble hi unk with
   |false=>grind
   |true=>
    rw[hb,bJ6]at h;simp only[bI0]at hb;have b1:=bI3 hb.1;have b2:=bI3 hb.2;simp only[bH9]at h;subst h;cases hx with
    |ival _ _ _ n h1 h2=>
     have hn:n<unk:=by omega
     have e1:Y7 (Y7 lo+18446744073709551616)=Y7 lo:=by unfold Y7;omega
     have e2:Q5 .f32 (Y7 lo+18446744073709551616)= .u64:=by
      have:(Y7 lo+18446744073709551616)/18446744073709551616=1:=by unfold Y7;omega
      rw[Q5,this,aS1]
     refine⟨_,.ival .f32 (Y7 lo+18446744073709551616) hi n (by rw[e1];exact h1) h2,fun w=>?_⟩
     have hw:IntKind.u64.wrap (n:Int)=n:=by rw[IntKind.wrap_u64];unfold unk at hn;omega
     simp[convert,bK3 hs,bK3 hd,Conv.intToInt,hw,e2]
  ·cases h
def xun (op:UnOp)(x:Value):Option Value:=
 match op,x with
 | .neg,.int k n=>some (.int k (k.wrap (0-n)))
 | .not,.bool b=>some (.bool (!b))
 |_,_=>none
theorem br0 {P : Program} {σ : Sg} {op : UnOp} {x x' v : Value} (h : xun op x = some v) (hx : VR σ x x') :
  VR σ v v/\ ∀w,(Op.unary op x').run P w= .ok v w:=by
 unfold xun at h;split at h
 ·cases hx;simp only[bH9]at h;subst h;exact⟨.int _ _,fun w=>by simp[Op.unary,Op.intArith]⟩
 ·cases hx;simp only[bH9]at h;subst h;exact⟨.bool _,fun w=>by simp[Op.unary]⟩
 ·cases h
def ak6 (P:Program)(t:TypeId)(x:Value):Option Value:=
 match P.underlying t with
 |some (.interface _)=>none
 |some _=>some (.iface t x)
 |none=>none
theorem aP7 {P : Program} {σ : Sg} {t : TypeId} {x x' v : Value} (h : ak6 P t x = some v) (hx : VR σ x x') :
  ∃u,VR σ v u/\ ∀w,(Instr.makeInterface t x').run P w= .ok u w:=by
 unfold ak6 at h;split at h
 ·cases h
 ·rename_i d hd hu
  simp only[bH9]at h;subst h;refine⟨_,.iface t x x' hx,fun w=>?_⟩
  simp only[Instr.makeInterface,bK8,bK3 hu,bK4]
  simp_all
 ·cases h
def J6 (P:Program)(s:TypeId)(x:Value)(f:Nat):Option Value:=
 match P.underlying s with
 |some (.struct fs)=>match fs.toList[f]? with
  |some fd=>match P.info? fd.type with
   |some i=>bif Nat.beq i.size 0 then none else
    match x with
    | .pointer (some ⟨b,o,none⟩)=>some (.pointer (some ⟨b,o+fd.offset,none⟩))
    |_=>none
   |none=>none
  |none=>none
 |_=>none
theorem as8 {P : Program} {σ : Sg} {s : TypeId} {x x' v : Value} {f : Nat} (h : J6 P s x f = some v) (hx : VR σ x x') :
  ∃u,VR σ v u/\ ∀w,(Instr.fieldAt s x' f).run P w= .ok u w:=by
 unfold J6 at h;split at h
 ·rename_i fs hu
  split at h
  ·rename_i fd hf
   split at h
   ·rename_i i hi
    cases hz:Nat.beq i.size 0 with
    |true=>grind
    |false=>
     rw[hz,bJ7]at h;have hz':i.size≠0:=fun e=>by rw[e]at hz;cases hz
     split at h
     ·rename_i b o
      simp only[bH9]at h;subst h;cases hx with
      |ptr _ _ p hp=>
      have hf':fs[f]? =some fd:=by grind
      refine⟨_,.ptr b (o+fd.offset) p hp,fun w=>?_⟩
      simp[Instr.fieldAt,bK3 hu,hf',Instr.sureAddr,fieldPlace,sizeOf,typeInfo,hi,hz',bR2,bN9]
     ·cases h
   ·cases h
  ·cases h
 ·cases h
def B9 (P:Program)(t:TypeId)(x ix:Value):Option Value:=
 match ix with
 | .int _ n=>match P.underlying t with
  |some (.slice e)=>match P.info? e with
   |some ie=>match x with
    | .slice (some ⟨b,o,none⟩) len _=>bif decide (0<=n)&&decide (n<len)then some (.pointer (some ⟨b,o+n.toNat*ie.size,none⟩))else none
    |_=>none
   |none=>none
  |some (.array len e)=>match P.info? e with
   |some ie=>match x with
    | .pointer (some ⟨b,o,none⟩)=>bif decide (0<=n)&&decide (n<len)then some (.pointer (some ⟨b,o+n.toNat*ie.size,none⟩))else none
    |_=>none
   |none=>none
  |_=>none
 |_=>none
theorem as9 {P : Program} {σ : Sg} {t : TypeId} {x x' i i' v : Value} (h : B9 P t x i = some v) (hx : VR σ x x') (hi : VR σ i i') :
  ∃u,VR σ v u/\ ∀w,(Instr.indexAt t x' i').run P w= .ok u w:=by
 unfold B9 at h;split at h
 ·rename_i k n
  cases hi;split at h
  ·rename_i e hu
   split at h
   ·rename_i ie hie
    split at h
    ·rename_i b o len c
     cases hx with
     |slice _ _ p _ _ c' hp hc hl=>
     cases hb:decide (0<=n)&&decide (n<len)with
     |false=>grind
     |true=>
      rw[hb,bJ6]at h;simp only[bI0,bK0]at hb;simp only[bH9]at h;subst h;refine⟨_,.ptr b _ p hp,fun w=>?_⟩
      simp[Instr.indexAt,asIntOf,bK3 hu,hb,sizeOf,typeInfo,hie,bR2,bN9]
    ·cases h
   ·cases h
  ·rename_i len e hu
   split at h
   ·rename_i ie hie
    split at h
    ·rename_i b o
     cases hx with
     |ptr _ _ p hp=>
     cases hb:decide (0<=n)&&decide (n<len)with
     |false=>grind
     |true=>
      rw[hb,bJ6]at h;simp only[bI0,bK0]at hb;simp only[bH9]at h;subst h;refine⟨_,.ptr b _ p hp,fun w=>?_⟩
      simp[Instr.indexAt,asIntOf,bK3 hu,Instr.sureAddr,hb,sizeOf,typeInfo,hie,bR2,bN9]
    ·cases h
   ·cases h
  ·cases h
 ·cases h
def ax0 (P:Program)(t:TypeId)(x:Value):Option Value:=
 match P.underlying t,x with
 |some .string,.string s=>some (.int .i64 s.data.toList.length)
 |some (.array n _),_=>some (.int .i64 n)
 |some (.slice _),.slice _ n _=>some (.int .i64 n)
 |some (.map _ _),.map none=>some (.int .i64 0)
 |_,_=>none
theorem aE8 {P : Program} {σ : Sg} {t : TypeId} {x x' v : Value} (h : ax0 P t x = some v) (hx : VR σ x x') (ty : TypeId) (ats : Array TypeId) (hat : ats[0]? = some t) :
  VR σ v v/\ ∀w,(Builtin.len_ ats ty #[x']).run P w= .ok v w:=by
 unfold ax0 at h;split at h
 ·rename_i s hu
  cases hx;simp only[bH9]at h;subst h;refine⟨.int _ _,fun w=>?_⟩
  simp[Builtin.len_,hat,bK3 hu,goInt]
 ·rename_i n e hu
  simp only[bH9]at h;subst h;refine⟨.int _ _,fun w=>?_⟩
  simp[Builtin.len_,hat,bK3 hu,goInt]
 ·rename_i e b n c hu
  simp only[bH9]at h;subst h;refine⟨.int _ _,fun w=>?_⟩
  cases hx<;>simp[Builtin.len_,hat,bK3 hu,goInt]
 ·rename_i k e hu
  simp only[bH9]at h;subst h;refine⟨.int _ _,fun w=>?_⟩
  cases hx;simp[Builtin.len_,hat,bK3 hu,goInt]
 ·cases h
def ao5 (P:Program)(t:TypeId)(x:Value):Option Value:=
 match P.underlying t,x with
 |some (.slice _),.slice none _ c=>some (.int .i64 c)
 |some (.slice _),.slice (some _) n c=>bif Nat.ble unk c then some (.complex .f64 (Nat.max (I6 c) n) (C3 c))else some (.int .i64 c)
 |some (.array n _),_=>some (.int .i64 n)
 |_,_=>none
theorem be7 {P : Program} {σ : Sg} {t : TypeId} {x x' v : Value} (h : ao5 P t x = some v) (hx : VR σ x x') (ty : TypeId) (ats : Array TypeId) (hat : ats[0]? = some t) :
  ∃u,VR σ v u/\ ∀w,(Builtin.cap_ ats ty #[x']).run P w= .ok u w:=by
 unfold ao5 at h;split at h
 ·rename_i e n c hu
  simp only[bH9]at h;subst h;cases hx;refine⟨_,.int _ _,fun w=>?_⟩
  simp[Builtin.cap_,hat,bK3 hu,goInt]
 ·rename_i e b n c hu
  have run:∀b' n' c' w,(Builtin.cap_ ats ty #[.slice b' n' c']).run P w= .ok (.int .i64 c') w:=fun b' n' c' w=>by simp[Builtin.cap_,hat,bK3 hu,goInt]
  cases hc:Nat.ble unk c with
  |true=>
   rw[hc,bJ6]at h;simp only[bH9]at h;subst h;have hc:=bI3 hc;cases hx with
   |slice i o p _ _ c' hp hcc hl=>
    rcases hcc with⟨_,h2⟩| ⟨_,h2,h3,_⟩
    ·omega
    ·exact⟨_,.ival .f64 _ _ c' (bN7 (aM6 _) (Nat.max_le.2 ⟨h2,hl⟩)) h3,run _ _ _⟩
   |vague q c'=>exact⟨_,.ival .f64 _ _ c' (bN7 (aM6 _) (Nat.max_le.2 ⟨by rw[bH6];exact bR4 _,bR4 _⟩)) (.inl bH5),run _ _ _⟩
  |false=>
   rw[hc,bJ7]at h;simp only[bH9]at h;subst h;have hc':¬unk<=c:=fun h=>by rw[bI6 h]at hc;cases hc
   cases hx with
   |slice i o p _ _ c' hp hcc hl=>
    rcases hcc with⟨rfl,_⟩| ⟨h1,_⟩
    ·exact⟨_,.int _ _,run _ _ _⟩
    ·grind
   |vague q c'=>grind
 ·rename_i n e hu
  simp only[bH9]at h;subst h;refine⟨_,.int _ _,fun w=>?_⟩
  simp[Builtin.cap_,hat,bK3 hu,goInt]
 ·cases h
def bt2 (op:BinOp)(a b:Nat×Nat):Option Value:=
 match op with
 | .lss=>(T8 a b).map .bool
 | .gtr=>(T8 b a).map .bool
 | .leq=>(T8 b a).map fun r=>.bool (!r)
 | .geq=>(T8 a b).map fun r=>.bool (!r)
 | .eql=>bif Y5 a b then some (.bool false)else none
 | .neq=>bif Y5 a b then some (.bool true)else none
 |_=>none
def irem (op:BinOp)(x y:Value):Option Value:=
 match op,x,y with
 | .rem,.complex f lo _,.int k (.ofNat c)=>bif decide (Q5 f lo=k)&&Nat.ble 1 c then some (.complex f (lo/18446744073709551616*18446744073709551616) c)else none
 |_,_,_=>none
def aX4 (op:BinOp)(x y:Value):Option Value:=
 match K9 x,K9 y with
 |some (k,a),some (k',b)=>bif decide (k=k')then bt2 op a b else none
 |_,_=>none
theorem N5 {P : Program} {σ : Sg} {op : BinOp} {t : TypeId} {k : IntKind} {n m : Nat} {r : Bool} (h : ak3 op (n : Int) (m : Int) = some (.bool r)) (h1 : op ≠ .shl) (h2 : op ≠ .shr) (hx : B4 op k (n : Int) (m : Int) = ak3 op (n : Int) (m : Int)) (ox oy : Operand) :
  ∃u,VR σ (.bool r) u/\ ∀w,((eqGuard op t ox oy (.int k n) (.int k m)).run P w= .ok () w)/\(binOp op t (.int k n) (.int k m)).run P w= .ok u w:=by
 have hb:Z9 P op t (.int k n) (.int k m)=some (.bool r):=by
  have:=hx.trans h;cases op<;>first|exact absurd rfl h1|exact absurd rfl h2| (simp only[Z9,bN6,bJ6];exact this)
 obtain⟨g1,g2⟩:=ak1 (σ:=σ) hb (.int k n) (.int k m) ox oy
 grind
theorem aX5 {P : Program} {σ : Sg} {op : BinOp} {t : TypeId} {x y x' y' : Value} {v : Value} (h : aX4 op x y = some v) (hx : VR σ x x') (hy : VR σ y y') (ox oy : Operand) :
  ∃u,VR σ v u/\ ∀w,((eqGuard op t ox oy x' y').run P w= .ok () w)/\(binOp op t x' y').run P w= .ok u w:=by
 have main:∀(f:IntKind) (a b:Nat×Nat),K9 x=some (f,a)->K9 y=some (f,b)->bt2 op a b=some v-> ∃u,VR σ v u/\ ∀w,((eqGuard op t ox oy x' y').run P w= .ok () w)/\(binOp op t x' y').run P w= .ok u w:=by
  intro f a b ha hb h;obtain⟨a1,a2⟩:=a;obtain⟨b1,b2⟩:=b;obtain⟨n,rfl,n1,n2⟩:=P2 ha hx;obtain⟨m,rfl,m1,m2⟩:=P2 hb hy;have lt:∀r,T8 (a1,a2) (b1,b2)=some r->r=decide ((n:Int)<(m:Int)):=fun r hr=>T9 hr n1 n2 m1 m2
  have gt:∀r,T8 (b1,b2) (a1,a2)=some r->r=decide ((m:Int)<(n:Int)):=fun r hr=>T9 hr m1 m2 n1 n2
  have ne:Y5 (a1,a2) (b1,b2)=true->(n:Int)≠m:=by
   intro hne;unfold Y5 at hne
   grind
  unfold bt2 at h;cases op
  case lss=>
   simp only[bQ3]at h;obtain⟨r,hr,rfl⟩:=h;exact N5 (by rw[lt r hr];rfl) (by simp) (by simp) rfl ox oy
  case gtr=>
   simp only[bQ3]at h;obtain⟨r,hr,rfl⟩:=h;exact N5 (by rw[gt r hr];rfl) (by simp) (by simp) rfl ox oy
  case leq=>
   simp only[bQ3]at h;obtain⟨r,hr,rfl⟩:=h;refine N5 ?_ (by simp) (by simp) rfl ox oy
   rw[gt r hr];simp only[ak3]
   congr 2
   grind
  case geq=>
   simp only[bQ3]at h;obtain⟨r,hr,rfl⟩:=h;refine N5 ?_ (by simp) (by simp) rfl ox oy
   rw[lt r hr];simp only[ak3]
   congr 2
   grind
  case eql=>
   cases hp:Y5 (a1,a2) (b1,b2)with
   |false=>grind
   |true=>
    simp only[hp,bJ6,bH9]at h;subst h;exact N5 (by have:=ne hp;simp[ak3];omega) (by simp) (by simp) rfl ox oy
  case neq=>
   cases hp:Y5 (a1,a2) (b1,b2)with
   |false=>grind
   |true=>
    simp only[hp,bJ6,bH9]at h;subst h;exact N5 (by have:=ne hp;simp[ak3];omega) (by simp) (by simp) rfl ox oy
  all_goals cases h
 unfold aX4 at h
 grind
theorem ba3 {P : Program} {σ : Sg} {op : BinOp} {t : TypeId} {x y x' y' : Value} {v : Value} (h : irem op x y = some v) (hx : VR σ x x') (hy : VR σ y y') (ox oy : Operand) :
  ∃u,VR σ v u/\ ∀w,((eqGuard op t ox oy x' y').run P w= .ok () w)/\(binOp op t x' y').run P w= .ok u w:=by
 unfold irem at h;split at h
 ·rename_i f lo hi k c
  cases hb:decide (Q5 f lo=k)&&Nat.ble 1 c with
  |false=>grind
  |true=>
   rw[hb,bJ6,bH9]at h;subst h;simp only[bI0,bK0]at hb;obtain⟨rfl,hc⟩:=hb;have hc:=bI3 hc;cases hx with
   |ival _ _ _ n h1 h2=>
   cases hy;have hx:Z9 P .rem t (.int (Q5 f lo) n) (.int (Q5 f lo) (Int.ofNat c))=some (.int (Q5 f lo) ((n:Int).tmod (Int.ofNat c))):=by
    have hne:decide (Int.ofNat c=0)=false:=by grind
    simp only[Z9,bN6,bJ6,B4,hne,bJ7]
   obtain⟨_,g2⟩:=ak1 (σ:=σ) hx (.int _ _) (.int _ _) ox oy;refine⟨_,?_,g2⟩;have e1:(n:Int).tmod (Int.ofNat c)=((n % c:Nat):Int):=by grind
   have e2:Q5 f lo=Q5 f (lo/18446744073709551616*18446744073709551616):=by
    unfold Q5
    grind
   rw[e1,e2];exact .ival f _ c (n % c) (by unfold Y7;rw[Nat.mul_mod_left];exact bR4 _) (.inr (Nat.mod_lt _ hc))
 ·cases h
def G7 (P:Program)(op:BinOp)(t:TypeId)(x y:Value):Option Value:=
 match Z9 P op t x y with
 |some v=>some v
 |none=>match aX4 op x y with
  |some v=>some v
  |none=>irem op x y
theorem aX3 {P : Program} {σ : Sg} {op : BinOp} {t : TypeId} {x y x' y' : Value} {v : Value} (h : G7 P op t x y = some v) (hx : VR σ x x') (hy : VR σ y y') (ox oy : Operand) :
  ∃u,VR σ v u/\ ∀w,((eqGuard op t ox oy x' y').run P w= .ok () w)/\(binOp op t x' y').run P w= .ok u w:=by
 unfold G7 at h;split at h
 ·rename_i v' hv
  cases h;exact⟨_,ak1 hv hx hy ox oy⟩
 ·split at h
  ·rename_i v' hv
   cases h;exact aX5 hv hx hy ox oy
  ·exact ba3 h hx hy ox oy
def ab6 (big:Bool):Value->List Value->Option Value
 |v,[]=>match v with
  | .int k n=>some (.int k n)
  |_=>none
 |v,y::ys=>match v,y with
  | .int k a,.int _ b=>ab6 big (.int k (bif big then(bif decide (a<b)then b else a)else(bif decide (b<a)then b else a))) ys
  |_,_=>none
theorem aF1 {P : Program} {σ : Sg} : ∀ {xs : List Value} {x v : Value} {xs' : List Value} {x' : Value}, ab6 false x xs = some v → VR σ x x' → VRL σ xs xs' →
  VR σ v v/\ ∀w,(xs'.foldlM Builtin.min2 x':Sem Value).run P w= .ok v w
 | [],x,v,xs',x',h,hx,hxs=>by
  rw[hxs.unnil];unfold ab6 at h;split at h
  ·simp only[bH9]at h;subst h;cases hx;exact⟨.int _ _,fun w=>by simp⟩
  ·cases h
 |y::ys,x,v,xs',x',h,hx,hxs=>by
  obtain⟨y',ys',rfl,hy,hys⟩:=hxs.uncons;unfold ab6 at h;split at h
  ·rename_i k a k' b
   cases hx;cases hy;have ih:=aF1 (P:=P) h (.int _ _) hys;refine⟨ih.1,fun w=>?_⟩
   have he:(Builtin.min2 (.int k a) (.int k' b)).run P w= .ok (.int k (bif false then(bif decide (a<b)then b else a)else(bif decide (b<a)then b else a))) w:=by
    simp only[Builtin.min2,bJ7,bL3]
    grind
   simp_all
  ·cases h
theorem aF0 {P : Program} {σ : Sg} : ∀ {xs : List Value} {x v : Value} {xs' : List Value} {x' : Value}, ab6 true x xs = some v → VR σ x x' → VRL σ xs xs' →
  VR σ v v/\ ∀w,(xs'.foldlM Builtin.max2 x':Sem Value).run P w= .ok v w
 | [],x,v,xs',x',h,hx,hxs=>by
  rw[hxs.unnil];unfold ab6 at h;split at h
  ·simp only[bH9]at h;subst h;cases hx;exact⟨.int _ _,fun w=>by simp⟩
  ·cases h
 |y::ys,x,v,xs',x',h,hx,hxs=>by
  obtain⟨y',ys',rfl,hy,hys⟩:=hxs.uncons;unfold ab6 at h;split at h
  ·rename_i k a k' b
   cases hx;cases hy;have ih:=aF0 (P:=P) h (.int _ _) hys;refine⟨ih.1,fun w=>?_⟩
   have he:(Builtin.max2 (.int k a) (.int k' b)).run P w= .ok (.int k (bif true then(bif decide (a<b)then b else a)else(bif decide (b<a)then b else a))) w:=by
    simp only[Builtin.max2,bJ6,bL3]
    grind
   simp_all
  ·cases h
end Go.Xe
end PartXm6
noncomputable section PartXm7
namespace Go.Xe
open Go.RowKit
def MOK (hp:Hp)(B:BS)(w0:World)(σ:Sg)(v:Value)(hp':Hp)(r:Result Value):Prop:=
 ∃σ' u w',r= .ok u w'/\Sg.gr hp.nx hp'.nx σ σ'/\VR σ' v u/\HR B w0 σ' hp' w'
def Hp.new (hp:Hp)(vs:List Value)(e z:Nat):Hp:=⟨hp.m.set hp.nx (some (.cells (fill .e 0 vs) vs.length e z)),hp.nx+1⟩
section
variable {P :Program}{B:BS}{w0:World}{σ:Sg}{hp:Hp}{w:World}
theorem B6 (vs:List Value)(j:Nat)(hj:j<vs.length):(fill .e 0 vs).get j=vs[j]? :=by
 rw[l6,bK1 (by omega)];simp
theorem HR.new (h : HR B w0 σ hp w) {vs us : List Value} (hv : VRL σ vs us) (e z : Nat) :
  HR B w0 (σ.ext hp.nx ⟨w.heap.size,0,us.length,z⟩) (hp.new vs e z) (w.alloc (.cells us.toArray e)):=by
 have:=h.alloc (fill .e 0 vs) vs.length e z us.toArray (by rw[hv.1];simp) (fun j hj=>by
  have hj':j<us.length:=by rw[<-hv.1];exact hj
  refine⟨vs[j],us[j],by rw[B6 vs j hj];simp[hj],by simp[hj'],hv.2 j _ _ (by simp[hj]) (by simp[hj'])⟩)
 simpa [Hp.new]using this
theorem HR.le_new (h:HR B w0 σ hp w)(p:Pl):Sg.gr hp.nx (hp.nx+1) σ (σ.ext hp.nx p):=
 ⟨Sg.le_ext p (h.fresh _ (bK2 _)),fun i hi=>Sg.ext_other _ _ _ (by omega),bP4 _⟩
theorem VR.new (σ:Sg)(i:Nat)(p:Pl)(hd:p.dl=0):VR (σ.ext i p) (.pointer (some ⟨i,0,none⟩)) (.pointer (some ⟨p.blk,0,none⟩)):=by
 have:=VR.ptr (σ:=σ.ext i p) i 0 p (Sg.ext_same _ _ _)
 grind
inductive Nv where
 |ptr
 |slice (l c:Nat)
 |map
structure Nw where
 blk:Blk
 v:Nv
 ok:S7 blk=false:=by rfl
def Nw.val (n:Nw)(id:Nat):Value:=
 match n.v with
 | .ptr=>.pointer (some ⟨id,0,none⟩)
 | .slice l c=>.slice (some ⟨id,0,none⟩) l c
 | .map=>.map (some id)
def G5 (vs:List Value)(e z:Nat):Blk:= .cells (fill .e 0 vs) vs.length e z
theorem af9 {vs us:List Value}(h:VRL σ vs us)(e z b:Nat):BR σ ⟨b,0,us.length,z⟩ (G5 vs e z) (.cells us.toArray e):=by
 refine⟨us.toArray,rfl,rfl,by simp,by simp[h.1],fun j hj=>?_⟩
 have hj':j<us.length:=by rw[<-h.1];exact hj
 exact⟨vs[j],us[j],by rw[B6 vs j hj];simp[hj],by simp[hj'],h.2 j _ _ (by simp[hj]) (by simp[hj'])⟩
def al2 (P:Program)(σ:Sg)(n:Nw)(s:Sem Value):Prop:=
 (∀l c,n.v= .slice l c->l<=c/\c<unk)/\ ∃o siz z,(∀b,BR σ ⟨b,0,siz,z⟩ n.blk o)/\ ∀w,s.run P w= .ok (n.val w.heap.size) (w.alloc o)
def Hp.add (hp:Hp)(n:Nw):Value×Hp:=(n.val hp.nx,⟨hp.m.set hp.nx (some n.blk),hp.nx+1⟩)
theorem Nw.val_VR {σ:Sg}{n:Nw}(h:∀l c,n.v= .slice l c->l<=c/\c<unk)(id b siz z:Nat):VR (σ.ext id ⟨b,0,siz,z⟩) (n.val id) (n.val b):=by
 unfold Nw.val;cases hv:n.v with
 |ptr=>exact VR.new σ id ⟨b,0,siz,z⟩ rfl
 |slice l c=>
  obtain⟨h1,h2⟩:=h l c hv;have:=VR.slice (σ:=σ.ext id ⟨b,0,siz,z⟩) id 0 ⟨b,0,siz,z⟩ l c c (Sg.ext_same _ _ _) (.inl ⟨rfl,h2⟩) h1
  grind
 |map=>exact VR.map id ⟨b,0,siz,z⟩ (Sg.ext_same _ _ _)
theorem al2.mok {n:Nw}{s:Sem Value}(h:al2 P σ n s)(hw:HR B w0 σ hp w):MOK hp B w0 σ (hp.add n).1 (hp.add n).2 (s.run P w):=by
 obtain⟨h1,o,siz,z,h2,h3⟩:=h;refine⟨σ.ext hp.nx ⟨w.heap.size,0,siz,z⟩,_,_,h3 w,hw.le_new _,Nw.val_VR h1 _ _ _ _,?_⟩;exact hw.allocO hp.nx (hp.nx+1) (hw.fresh _ (bK2 _)) (bP4 _) (bO0 _) n.blk o _ rfl ((h2 _).mono (hw.le_new _).le) n.ok
def ao4 (P:Program)(e:TypeId):Option Nw:=
 match I3 P e with
 |some z=>some ⟨G5 z.cells.toList e z.cells.toList.length,.ptr,rfl⟩
 |none=>none
theorem aG7 {e:TypeId}{n:Nw}(h:ao4 P e=some n):al2 P σ n (Instr.alloc e true (.tuple #[])):=by
 unfold ao4 at h;split at h
 ·rename_i z hz
  cases h;obtain⟨hc,hr⟩:=H3 hz;refine⟨(fun l c h=>by cases h),.cells z.cells e,z.cells.toList.length,_,(fun b=>by simpa using af9 (O5 σ hc).cells e z.cells.toList.length b),fun w=>?_⟩
  simp[Instr.alloc,hr,newVar,newRow,Nw.val]
 ·cases h
def aX7 (e:TypeId)(x:Value):Nw:=⟨G5 x.cells.toList e x.cells.toList.length,.ptr,rfl⟩
theorem aX8 {e:TypeId}{x x':Value}(hx:VR σ x x'):al2 P σ (aX7 e x) (Instr.box e x'):=by
 refine⟨(fun l c h=>by cases h),.cells x'.cells e,x'.cells.toList.length,_,(fun b=>by simpa [aX7]using af9 hx.cells e x.cells.toList.length b),fun w=>?_⟩
 simp[Instr.box,newVar,newRow,Nw.val,aX7]
def bk1 (t:Option Value):Option Nw:=
 match t with
 |none=>some ⟨.map [] true,.map,rfl⟩
 |some (.int _ _)=>some ⟨.map [] true,.map,rfl⟩
 |_=>none
theorem aY4 {t : TypeId} {r r' : Option Value} {n : Nw} (h : bk1 r = some n) (hr : match r, r' with | none, none => True | some v, some u => VR σ v u | _, _ => False)
  (hm:match P.underlying t with|some (.map _ _)=>True|_=>False):al2 P σ n (Instr.makeMap t r'):=by
 cases hu:P.underlying t with
 |none=>grind
 |some d=>
 cases d<;>simp[hu]at hm
 unfold bk1 at h;split at h
 ·simp only[bH9]at h
  subst h;cases r' with
  |some u=>grind
  |none=>
   refine⟨(fun l c h=>by cases h),.map #[] 0,0,0,(fun b=>⟨#[],0,rfl,rfl,(fun j x e hx=>by simp at hx),fun _=>⟨rfl,fun j e hj=>by simp at hj⟩⟩),fun w=>?_⟩
   simp[Instr.makeMap,Nw.val]
 ·simp only[bH9]at h
  subst h;cases r' with
  |none=>grind
  |some u=>
   cases hr;refine⟨(fun l c h=>by cases h),.map #[] 0,0,0,(fun b=>⟨#[],0,rfl,rfl,(fun j x e hx=>by simp at hx),fun _=>⟨rfl,fun j e hj=>by simp at hj⟩⟩),fun w=>?_⟩
   simp[Instr.makeMap,Nw.val,bK3 hu,asInt,asIntOf]
 ·cases h
def ap3 (P:Program)(t:TypeId)(x:Value):Option Nw:=
 match P.underlying t,x with
 |some .string,.string s=>some ⟨.sit s 0,.ptr,rfl⟩
 |_,_=>none
theorem aH0 {t:TypeId}{x x':Value}{n:Nw}(h:ap3 P t x=some n)(hx:VR σ x x'):al2 P σ n (Instr.range t x'):=by
 unfold ap3 at h;split at h
 ·rename_i s hu
  cases h;cases hx;refine⟨(fun l c h=>by cases h),.stringIter s 0,0,0,(fun b=>⟨rfl,rfl⟩),fun w=>?_⟩
  simp[Instr.range,bK3 hu,Nw.val]
 ·cases h
def O3 (P : Program) (hp : Hp) (t : TypeId) (a : Value) : Option Value :=
 match a with
 | .pointer (some ⟨i, o, none⟩) => match hp.m.get i with
  | some b => match rdC b with
   | some (c, n, _) => match P.underlying t with
    | some d => bif ap6 d then
      match P.info? t with
      | some ti => bif Nat.ble (o + ti.size) n then
        match n9 c o ti.size with
        |some vs=>some (.agg vs.toArray)
        |none=>none
       else none
      |none=>none
     else bif Nat.ble (o+1) n then c.get o else none
    |none=>none
   |none=>none
  |none=>none
 |_=>none
theorem av7 {t : TypeId} {a a' v : Value} (h : O3 P hp t a = some v) (ha : VR σ a a') (hw : HR B w0 σ hp w) :
  ∃u,VR σ v u/\(Instr.loadAt t a').run P w= .ok u w:=by
 unfold O3 at h;split at h
 ·rename_i i o
  cases ha with
  |ptr _ _ p hp'=>
  split at h
  ·rename_i b hg
   split at h
   ·rename_i c n z hr
    split at h
    ·rename_i d hu
     cases hd:ap6 d with
     |true=>
      rw[hd,bJ6]at h;split at h
      ·rename_i ti hti
       cases hb:Nat.ble (o+ti.size) n with
       |false=>grind
       |true=>
        rw[hb,bJ6]at h;split at h
        ·rename_i vs hl
         simp only[bH9]at h;subst h;obtain⟨us,h1,h2,h3⟩:=hw.cellsR hg hr (bI3 hb) hl hp';refine⟨.agg us.toArray,h1.to_agg,?_⟩;have:=run_loadCells_list (P:=P) w ⟨p.blk,p.dl+o,none⟩ us h3;rw[h2]at this;simp[Instr.loadAt,Instr.sureAddr,loadVar,ag0 hu,hd,sizeOf,typeInfo,hti,this]
        ·cases h
      ·cases h
     |false=>
      rw[hd,bJ7]at h;cases hb:Nat.ble (o+1) n with
      |false=>grind
      |true=>
       rw[hb,bJ6]at h;have hl:n9 c o 1=some [v]:=by simp[n9,h]
       obtain⟨us,h1,h2,h3⟩:=hw.cellsR hg hr (bI3 hb) hl hp';obtain⟨u,us',rfl,hv,_⟩:=h1.uncons;refine⟨u,hv,?_⟩;have:=h3 0 u rfl;rw[Addr.add_zero']at this;simp[Instr.loadAt,Instr.sureAddr,loadVar,ag0 hu,hd,this]
    ·cases h
   ·cases h
  ·cases h
 ·cases h
def at3 (hp:Hp)(i:Nat)(c:T Value)(n e z o:Nat)(vs:List Value):Hp:=
 (fill c o vs).force fun c'=> {hp with m:=hp.m.set i (some (.cells c' n e z))}
theorem H8 (hp:Hp)(i:Nat)(c:T Value)(n e z o:Nat)(vs:List Value):at3 hp i c n e z o vs= {hp with m:=hp.m.set i (some (.cells (fill c o vs) n e z))}:=by
 unfold at3;rw[T.force_eq]
def J7 (P:Program)(hp:Hp)(t:TypeId)(a x:Value):Option Hp:=
 match a with
 | .pointer (some ⟨i,o,none⟩)=>match hp.m.get i with
  |some (.cells c n e z)=>match P.info? t with
   |some ti=>bif Nat.beq x.cells.toList.length ti.size&&Nat.ble (o+ti.size) n&&x.cells.toList.all Value.oneCell' then some (at3 hp i c n e z o x.cells.toList)else none
   |none=>none
  |_=>none
 |_=>none
theorem VRL.all_oneCell {vs us:List Value}(h:VRL σ vs us)(hv:vs.all Value.oneCell'=true):∀u∈us,u.oneCell'=true:=by
 intro u hu;obtain⟨j,hj,rfl⟩:=List.mem_iff_getElem.1 hu;have hj':j<vs.length:=by rw[h.1];exact hj
 exact(h.2 j vs[j] us[j] (by simp[hj']) (by simp[hj])).oneCell (bK9.1 hv _ (List.getElem_mem hj'))
theorem HR.place (hw:HR B w0 σ hp w){i n e z:Nat}{c:T Value}(hg:hp.m.get i=some (.cells c n e z)){p:Pl}(hpi:σ i=some p):p.dl+n<=p.siz/\p.esz=z:=by
 obtain⟨p',C,g1,g2,_,_,_,g6,_⟩:=hw.liveC hg
 grind
theorem aQ6 {t : TypeId} {a a' x x' : Value} {hp' : Hp} (h : J7 P hp t a x = some hp') (ha : VR σ a a') (hx : VR σ x x') (hw : HR B w0 σ hp w) :
  ∃w',(Instr.storeAt t a' x').run P w= .ok () w'/\HR B w0 σ hp' w'/\hp'.nx=hp.nx:=by
 unfold J7 at h;split at h
 ·rename_i i o
  cases ha with
  |ptr _ _ p hpi=>
  split at h
  ·rename_i c n e z hg
   split at h
   ·rename_i ti hti
    cases hb:Nat.beq x.cells.toList.length ti.size&&Nat.ble (o+ti.size) n&&x.cells.toList.all Value.oneCell' with
    |false=>grind
    |true=>
     rw[hb,bJ6,H8]at h;simp only[bH9]at h;subst h;simp only[bI0]at hb;have e1:=bI4 hb.1.1;have e2:=bI3 hb.1.2;have hcells:=hx.cells;obtain⟨k1,_⟩:=hw.place hg hpi;obtain⟨w',hr,hh,_⟩:=hw.store (o:=o) hg hpi hcells (hcells.all_oneCell hb.2) (by omega) (by omega) P
     refine⟨w',?_,?_,rfl⟩
     ·have hs:x'.cells.size=ti.size:=by rw[<-e1,hcells.1];simp
      simp[Instr.storeAt,Instr.sureAddr,storeVar,sizeOf,typeInfo,hti,hs,hr]
     ·grind
   ·cases h
  ·cases h
 ·cases h
def xrep :Nat->List Value->List Value
 |0,_=>[]
 |n+1,zs=>zs++xrep n zs
theorem C9 (zs:List Value):∀n,(xrep n zs).length=n*zs.length
 |0=>by simp[xrep]
 |n+1=>by simp[xrep,C9 zs n,bO6,Nat.add_comm]
theorem X7 (zs:List Value):∀(n j:Nat),j<n*zs.length->(xrep n zs)[j]? =zs[j % zs.length]?
 |0,j,h=>by simp at h
 |n+1,j,h=>by
  simp only[xrep]
  by_cases hj:j<zs.length
  ·rw[bI8 hj,bS3 hj]
  ·rw[bI7 (by omega),X7 zs n (j-zs.length) (by rw[bO6]at h;omega)]
   rw[Nat.mod_eq_sub_mod (by omega:zs.length<=j)]
theorem af8 (z:Array Value)(n:Nat):((Array.range (n*z.size)).map (fun i=>z[i % z.size]!)).toList=xrep n z.toList:=by
 apply List.ext_getElem?
 intro j
 by_cases hj:j<n*z.size
 ·rw[X7 z.toList n j (by simpa using hj)]
  have hz:0<z.size:=by grind
  have hm:j % z.size<z.size:=Nat.mod_lt _ hz
  grind
 ·rw[bS8 (by simp;omega),bS8 (by rw[C9];simp;omega)]
theorem VRL.xrep {zs:List Value}(h:VRL σ zs zs):∀n,VRL σ (xrep n zs) (xrep n zs)
 |0=>VRL.nil σ
 |n+1=>h.append (VRL.xrep h n)
def bp9 (P : Program) (t : TypeId) (len : Nat) (parts : List (Nat × Value)) : Option Nw :=
 match P.underlying t with
 | some (.slice e) => match P.info? e with
  | some ie => match I3 P e with
   | some z => bif Nat.beq z.cells.toList.length ie.size && Nat.ble (len * ie.size) 16777216 && Nat.ble len 16777216 then
     match ao8 (fun i=>some (i*ie.size,ie.size)) (xrep len z.cells.toList) parts with
     |some cs=>some ⟨G5 cs e ie.size,.slice len len,rfl⟩
     |none=>none
    else none
   |none=>none
  |none=>none
 |_=>none
theorem be6 {t : TypeId} {len : Nat} {xs : List (Nat × Value)} {ys : Array (Nat × Value)} {n : Nw} (h : bp9 P t len xs = some n)
  (hy:PVR σ xs ys.toList):al2 P σ n (Instr.buildSlice t len ys):=by
 unfold bp9 at h;split at h
 ·rename_i e hu
  split at h
  ·rename_i ie hie
   split at h
   ·rename_i z hz
    cases hb:Nat.beq z.cells.toList.length ie.size&&Nat.ble (len*ie.size) 16777216&&Nat.ble len 16777216 with
    |false=>grind
    |true=>
     rw[hb,bJ6]at h;simp only[bI0]at hb;have e1:=bI4 hb.1.1;have e2:=bI3 hb.1.2;have e3:=bI3 hb.2;split at h
     ·rename_i cs hf
      cases h;obtain⟨hc,hzr⟩:=H3 hz;have hzz:=(O5 σ hc).cells;have hcells:∀zc:Array Value,zc=(if len*ie.size=0 then #[]else z.cells)->((Array.range (len*ie.size)).map (fun i=>zc[i % zc.size]!)).toList=xrep len z.cells.toList:=by
       intro zc hzc
       by_cases h0:len*ie.size=0
       ·have hl:xrep len z.cells.toList=[]:=bI5 (by rw[C9,e1];exact h0)
        grind
       ·rw[bJ9 h0]at hzc
        subst hzc;have:=af8 z.cells len
        grind
      obtain⟨ds,h1,h2⟩:=ae9 (σ:=σ) _ xs ys.toList (xrep len z.cells.toList) cs ((Array.range (len*ie.size)).map (fun i=>(if len*ie.size=0 then #[]else z.cells)[i % (if len*ie.size=0 then #[]else z.cells).size]!)) hf hy
       (by rw[hcells _ rfl];exact hzz.xrep len)
      refine⟨(fun l c h=>by cases h;exact⟨bK2 _,by unfold unk;omega⟩),.cells ds e,ds.toList.length,_,(fun b=>by simpa using af9 h2 e ie.size b),fun w=>?_⟩
      have hgt:¬len*ie.size>2^24:=by omega
      by_cases h0:len*ie.size=0
      ·rw[bK1 h0]at h1
       simp only[Instr.buildSlice,bK8,bK3 hu,bK4,sizeOf,typeInfo,bS1,hie,bL3,bJ9 hgt,bK1 h0,h1,newRow,run_newObj];rfl
      ·rw[bJ9 h0]at h1
       simp only[Instr.buildSlice,bK8,bK3 hu,bK4,sizeOf,typeInfo,bS1,hie,bL3,bJ9 hgt,bJ9 h0,hzr,h1,newRow,run_newObj];rfl
     ·cases h
   ·cases h
  ·cases h
 ·cases h
def bq6 (P : Program) (t : TypeId) (l c : Value) : Option Nw :=
 match l,c with
 | .int _ ln, .int _ cn => match P.underlying t with
  | some (.slice e) => match P.info? e with
   | some ie => match I3 P e with
    | some z => bif decide (0 ≤ ln) && decide (ln ≤ cn) && decide (cn ≤ 1048576) && Nat.ble ie.bytes 1048576 && Nat.beq z.cells.toList.length ie.size then
      some ⟨G5 (xrep cn.toNat z.cells.toList) e ie.size,.slice ln.toNat cn.toNat,rfl⟩
     else none
    |none=>none
   |none=>none
  |_=>none
 |_,_=>none
theorem bf0 {t : TypeId} {l c l' c' : Value} {n : Nw} (h : bq6 P t l c = some n) (hl : VR σ l l') (hc : VR σ c c') :
  al2 P σ n (Instr.makeSlice t l' c'):=by
 unfold bq6 at h;split at h
 ·rename_i k1 ln k2 cn
  cases hl;cases hc;split at h
  ·rename_i e hu
   split at h
   ·rename_i ie hie
    split at h
    ·rename_i z hz
     cases hb:decide (0<=ln)&&decide (ln<=cn)&&decide (cn<=1048576)&&Nat.ble ie.bytes 1048576&&Nat.beq z.cells.toList.length ie.size with
     |false=>grind
     |true=>
      rw[hb,bJ6]at h;simp only[bI0,bK0]at hb;obtain⟨⟨⟨⟨b1,b2⟩,b3⟩,b4⟩,b5⟩:=hb;have b4:=bI3 b4;have e1:=bI4 b5;cases h;obtain⟨hcz,hzr⟩:=H3 hz;have hzz:=(O5 σ hcz).cells;have wl:IntKind.i64.wrap ln=ln:=IntWalk.i64_in _ (by omega)
      have wc:IntKind.i64.wrap cn=cn:=IntWalk.i64_in _ (by omega)
      have hcells:∀zc:Array Value,zc=(if cn.toNat*ie.size=0 then #[]else z.cells)->(Array.range (cn.toNat*ie.size)).map (fun i=>zc[i % zc.size]!)=(xrep cn.toNat z.cells.toList).toArray:=by
       intro zc hzc
       apply bQ0
       by_cases h0:cn.toNat*ie.size=0
       ·have hl:xrep cn.toNat z.cells.toList=[]:=bI5 (by rw[C9,e1];exact h0)
        grind
       ·rw[bJ9 h0]at hzc
        subst hzc;have:=af8 z.cells cn.toNat
        grind
      refine⟨(fun l c h=>by cases h;exact⟨by omega,by unfold unk;omega⟩),.cells (xrep cn.toNat z.cells.toList).toArray e,_,_,(fun b=>af9 (hzz.xrep cn.toNat) e ie.size b),fun w=>?_⟩
      have hbig:¬((ie.bytes:Int)*cn>2^48):=by
       have h1:(ie.bytes:Int)*cn<=1048576*1048576:=Int.mul_le_mul (by omega) b3 (by omega) (by omega)
       omega
      have hcond:¬((decide (cn<0)||decide ((ie.bytes:Int)*cn>2^48))||decide (ln<0)||decide (ln>cn))=true:=by grind
      by_cases h0:cn.toNat*ie.size=0
      ·have:=hcells #[] (by rw[bK1 h0])
       simp only[Instr.makeSlice,bK8,bK3 hu,bK4,asInt,asIntOf,bL3,typeInfo,bS1,hie,wl,wc,bJ9 hcond,run_askRoom,sizeOf,bK1 h0,this,newRow,run_newObj];rfl
      ·have:=hcells z.cells (by rw[bJ9 h0])
       simp only[Instr.makeSlice,bK8,bK3 hu,bK4,asInt,asIntOf,bL3,typeInfo,bS1,hie,wl,wc,bJ9 hcond,run_askRoom,sizeOf,bJ9 h0,hzr,this,newRow,run_newObj];rfl
    ·cases h
   ·cases h
  ·cases h
 ·cases h
end
end Go.Xe
end PartXm7
