/- The executor, parts 1, 2, 3, 4, 5, 6, 7.
  Conditions: none. -/
import Derived.WalkKit
import Derived.Orders
import Derived.Laws.StructEq
import Derived.WalkSpells
set_option linter.unusedSimpArgs false
set_option linter.unusedVariables false
noncomputable section PartXm1
namespace Go.Xe
theorem bF1:type_of% @Option.some.injEq:=@Option.some.injEq
theorem bF2:type_of% @Bool.and_eq_true:=@Bool.and_eq_true
theorem bF3:type_of% @Prod.mk.injEq:=@Prod.mk.injEq
theorem bF4:type_of% @List.getElem?_eq_some_iff:=@List.getElem?_eq_some_iff
theorem bF5:type_of% @Nat.le_of_ble_eq_true:=@Nat.le_of_ble_eq_true
theorem bF6:type_of% @Nat.eq_of_beq_eq_true:=@Nat.eq_of_beq_eq_true
theorem bF7:type_of% @List.eq_nil_of_length_eq_zero:=@List.eq_nil_of_length_eq_zero
theorem bF8:type_of% @Nat.ble_eq_true_of_le:=@Nat.ble_eq_true_of_le
theorem bF9:type_of% @List.getElem?_append_right:=@List.getElem?_append_right
theorem bG0:type_of% @List.getElem?_append_left:=@List.getElem?_append_left
theorem bG1:type_of% @List.mem_of_getElem?:=@List.mem_of_getElem?
theorem bG2:type_of% @List.getElem?_cons_succ:=@List.getElem?_cons_succ
theorem bG3:type_of% @List.getElem?_eq_getElem:=@List.getElem?_eq_getElem
theorem bG4:type_of% @Nat.mul_le_mul_right:=@Nat.mul_le_mul_right
theorem bG5:type_of% @List.append_assoc:=@List.append_assoc
theorem bG6:type_of% @Array.getElem?_eq_some_iff:=@Array.getElem?_eq_some_iff
theorem bG7:type_of% @List.getElem?_cons_zero:=@List.getElem?_cons_zero
theorem bG8:type_of% @cond_true:=@cond_true
theorem bG9:type_of% @cond_false:=@cond_false
theorem bH0:type_of% @List.length_map:=@List.length_map
theorem bH1:type_of% @if_neg:=@if_neg
theorem bH2:type_of% @decide_eq_true_eq:=@decide_eq_true_eq
theorem bH3:type_of% @if_pos:=@if_pos
theorem bH4:type_of% @Nat.le_refl:=@Nat.le_refl
theorem bH5:type_of% @run_underlying:=@run_underlying
theorem bH6:type_of% @Result.andThen_ok:=@Result.andThen_ok
theorem bH7:type_of% @Option.some.inj:=@Option.some.inj
theorem bH8:type_of% @List.length_append:=@List.length_append
theorem bH9:type_of% @And.intro:=@And.intro
theorem bI0:type_of% @Sem.run_bind:=@Sem.run_bind
theorem bI1:type_of% @List.all_eq_true:=@List.all_eq_true
theorem bI2:type_of% @List.getD_eq_getElem?_getD:=@List.getD_eq_getElem?_getD
theorem bI3:type_of% @Nat.zero_add:=@Nat.zero_add
theorem bI4:type_of% @List.getElem?_take:=@List.getElem?_take
theorem bI5:type_of% @Sem.run_pure:=@Sem.run_pure
theorem bI6:type_of% @List.length_take:=@List.length_take
theorem bI7:type_of% @Nat.add_mul:=@Nat.add_mul
theorem bI8:type_of% @List.mem_append:=@List.mem_append
theorem bI9:type_of% @List.mem_cons:=@List.mem_cons
theorem bJ0:type_of% @List.getElem?_drop:=@List.getElem?_drop
theorem bJ1:type_of% @Nat.beq_eq:=@Nat.beq_eq
theorem bJ2:type_of% @Int.toNat_natCast:=@Int.toNat_natCast
theorem bJ3:type_of% @Option.getD_some:=@Option.getD_some
theorem bJ4:type_of% @List.length_cons:=@List.length_cons
theorem bJ5:type_of% @true_implies:=@true_implies
theorem bJ6:type_of% @Option.map_some:=@Option.map_some
theorem bJ7:type_of% @Bool.not_eq_true':=@Bool.not_eq_true'
theorem bJ8:type_of% @List.map_append:=@List.map_append
theorem bJ9:type_of% @decide_eq_false_iff_not:=@decide_eq_false_iff_not
theorem bK0:type_of% @List.take_of_length_le:=@List.take_of_length_le
theorem bK1:type_of% @List.getElem?_map:=@List.getElem?_map
theorem bK2:type_of% @List.map_cons:=@List.map_cons
theorem bK3:type_of% @List.length_drop:=@List.length_drop
theorem bK4:type_of% @Nat.lt_of_lt_of_le:=@Nat.lt_of_lt_of_le
theorem bK5:type_of% @Nat.ble_eq:=@Nat.ble_eq
theorem bK6:type_of% @List.mem_iff_getElem?:=@List.mem_iff_getElem?
theorem bK7:type_of% @not_false_eq_true:=@not_false_eq_true
theorem bK8:type_of% @decide_true:=@decide_true
theorem bK9:type_of% @Nat.le_trans:=@Nat.le_trans
theorem bL0:type_of% @List.mem_cons_of_mem:=@List.mem_cons_of_mem
theorem bL1:type_of% @Nat.add_assoc:=@Nat.add_assoc
theorem bL2:type_of% @Nat.lt_succ_self:=@Nat.lt_succ_self
theorem bL3:type_of% @List.cons_append:=@List.cons_append
theorem bL4:type_of% @implies_true:=@implies_true
theorem bL5:type_of% @Int.le_refl:=@Int.le_refl
theorem bL6:type_of% @List.mem_singleton:=@List.mem_singleton
theorem bL7:type_of% @Nat.add_zero:=@Nat.add_zero
theorem bL8:type_of% @Nat.succ_mul:=@Nat.succ_mul
theorem bL9:type_of% @true_and:=@true_and
theorem bM0:type_of% @List.cons.injEq:=@List.cons.injEq
theorem bM1:type_of% @Nat.le_max_right:=@Nat.le_max_right
theorem bM2:type_of% @List.drop_of_length_le:=@List.drop_of_length_le
theorem bM3:type_of% @Bool.false_eq_true:=@Bool.false_eq_true
theorem bM4:type_of% @and_true:=@and_true
theorem bM5:type_of% @Nat.add_sub_cancel_left:=@Nat.add_sub_cancel_left
theorem bM6:type_of% @Nat.le_succ:=@Nat.le_succ
theorem bM7:type_of% @decide_eq_false:=@decide_eq_false
theorem bM8:type_of% @Bool.or_eq_true:=@Bool.or_eq_true
theorem bM9:type_of% @Nat.le_of_not_lt:=@Nat.le_of_not_lt
theorem bN0:type_of% @of_decide_eq_true:=@of_decide_eq_true
theorem bN1:type_of% @Int.lt_irrefl:=@Int.lt_irrefl
theorem bN2:type_of% @Array.ext':=@Array.ext'
theorem bN3:type_of% @Nat.sub_zero:=@Nat.sub_zero
theorem bN4:type_of% @List.mem_map:=@List.mem_map
theorem bN5:type_of% @Option.map_eq_some_iff:=@Option.map_eq_some_iff
theorem bN6:type_of% @List.mem_append_right:=@List.mem_append_right
theorem bN7:type_of% @List.mem_of_mem_take:=@List.mem_of_mem_take
theorem bN8:type_of% @List.mem_of_mem_drop:=@List.mem_of_mem_drop
theorem bN9:type_of% @Bool.and_true:=@Bool.and_true
theorem bO0:type_of% @Nat.zero_mul:=@Nat.zero_mul
theorem bO1:type_of% @List.append_nil:=@List.append_nil
theorem bO2:type_of% @if_false:=@if_false
theorem bO3:type_of% @if_true:=@if_true
theorem bO4:type_of% @Addr.add_lit:=@Addr.add_lit
theorem bO5:type_of% @List.take_append_drop:=@List.take_append_drop
theorem bO6:type_of% @Nat.zero_le:=@Nat.zero_le
theorem bO7:type_of% @List.drop_zero:=@List.drop_zero
theorem bO8:type_of% @List.mem_append_left:=@List.mem_append_left
theorem bO9:type_of% @forall_eq':=@forall_eq'
theorem bP0:type_of% @Oper.upon_value:=@Oper.upon_value
theorem bP1:type_of% @Nat.max_eq_left:=@Nat.max_eq_left
theorem bP2:type_of% @Array.getElem?_setIfInBounds_ne:=@Array.getElem?_setIfInBounds_ne
theorem bP3:type_of% @run_program:=@run_program
theorem bP4:type_of% @ByteArray.toList_eq:=@ByteArray.toList_eq
theorem bP5:type_of% @Nat.mod_eq_of_lt:=@Nat.mod_eq_of_lt
theorem bP6:type_of% @List.getElem_mem:=@List.getElem_mem
theorem bP7:type_of% @Int.toNat_zero:=@Int.toNat_zero
theorem bP8:type_of% @wpIn_mono:=@wpIn_mono
theorem bP9:type_of% @Nat.sub_self:=@Nat.sub_self
theorem bQ0:type_of% @List.length_nil:=@List.length_nil
theorem bQ1:type_of% @List.getElem?_eq_none:=@List.getElem?_eq_none
theorem bQ2:type_of% @Bool.true_and:=@Bool.true_and
theorem bQ3:type_of% @List.getElem?_of_mem:=@List.getElem?_of_mem
open Go.RowKit
inductive T (α:Type) where
 |e:T α
 |n (v:Option α) (a b c d:T α):T α
inductive K where
 |z:K
 |a (k:K):K
 |b (k:K):K
 |c (k:K):K
 |d (k:K):K
def K.pick (p:K)(r:Nat):K:=Nat.rec (motive:=fun _=>K) (.a p) (fun r _=>Nat.rec (motive:=fun _=>K) (.b p) (fun r _=>Nat.rec (motive:=fun _=>K) (.c p) (fun _ _=>.d p) r) r) r
def K.ofF (f:Nat):Nat->K:=
 Nat.rec (motive:=fun _=>Nat->K) (fun _=>.z) (fun _ ih k=>Nat.rec (motive:=fun _=>K) .z (fun m _=>K.pick (ih (Nat.div m 4)) (Nat.mod m 4)) k) f
def K.of (k:Nat):K:=K.ofF (k+1) k
def T.force {α β:Type}(t:T α)(f:T α->β):β:=T.rec (motive:=fun _=>β) (f .e) (fun v a b c d _ _ _ _=>f (.n v a b c d)) t
theorem T.force_eq {α d:Type}(t:T α)(f:T α->d):t.force f=f t:=by cases t<;>rfl
def T.top {α:Type}(t:T α):Option α:=T.rec (motive:=fun _=>Option α) none (fun v _ _ _ _ _ _ _ _=>v) t
def T.ta {α:Type}(t:T α):T α:=T.rec (motive:=fun _=>T α) .e (fun _ a _ _ _ _ _ _ _=>a) t
def T.tb {α:Type}(t:T α):T α:=T.rec (motive:=fun _=>T α) .e (fun _ _ b _ _ _ _ _ _=>b) t
def T.tc {α:Type}(t:T α):T α:=T.rec (motive:=fun _=>T α) .e (fun _ _ _ c _ _ _ _ _=>c) t
def T.td {α:Type}(t:T α):T α:=T.rec (motive:=fun _=>T α) .e (fun _ _ _ _ d _ _ _ _=>d) t
def T.getK {α:Type}(p:K):T α->Option α:=
 K.rec (motive:=fun _=>T α->Option α) (fun t=>t.top) (fun _ ih t=>ih t.ta) (fun _ ih t=>ih t.tb) (fun _ ih t=>ih t.tc) (fun _ ih t=>ih t.td) p
def T.get {α:Type}(t:T α)(k:Nat):Option α:=T.getK (K.of k) t
def T.putz {α:Type}(x:Option α)(t:T α):T α:=T.rec (motive:=fun _=>T α) (.n x .e .e .e .e) (fun _ a b c d _ _ _ _=>.n x a b c d) t
def T.puta {α:Type}(ih:Option α->T α->T α)(x:Option α)(t:T α):T α:=
 T.rec (motive:=fun _=>T α) ((ih x .e).force fun s=>.n none s .e .e .e) (fun v a b c d _ _ _ _=>(ih x a).force fun s=>.n v s b c d) t
def T.putb {α:Type}(ih:Option α->T α->T α)(x:Option α)(t:T α):T α:=
 T.rec (motive:=fun _=>T α) ((ih x .e).force fun s=>.n none .e s .e .e) (fun v a b c d _ _ _ _=>(ih x b).force fun s=>.n v a s c d) t
def T.putc {α:Type}(ih:Option α->T α->T α)(x:Option α)(t:T α):T α:=
 T.rec (motive:=fun _=>T α) ((ih x .e).force fun s=>.n none .e .e s .e) (fun v a b c d _ _ _ _=>(ih x c).force fun s=>.n v a b s d) t
def T.putd {α:Type}(ih:Option α->T α->T α)(x:Option α)(t:T α):T α:=
 T.rec (motive:=fun _=>T α) ((ih x .e).force fun s=>.n none .e .e .e s) (fun v a b c d _ _ _ _=>(ih x d).force fun s=>.n v a b c s) t
def T.setK {α:Type}(p:K):Option α->T α->T α:=
 K.rec (motive:=fun _=>Option α->T α->T α) T.putz (fun _ ih=>T.puta ih) (fun _ ih=>T.putb ih) (fun _ ih=>T.putc ih) (fun _ ih=>T.putd ih) p
def T.set {α:Type}(t:T α)(k:Nat)(x:Option α):T α:=T.setK (K.of k) x t
theorem m8 {a b:Nat}(h:a≠b):Nat.beq a b=false:=by
 cases e:Nat.beq a b
 ·rfl
 ·exact absurd (bF6 e) h
theorem j9 {a b:Nat}(h:a=b):Nat.beq a b=true:=by
 subst h;exact Nat.beq_refl _
theorem T.getK_e {α:Type}:∀p:K,T.getK p (.e:T α)=none
 | .z=>rfl
 | .a p=>T.getK_e p
 | .b p=>T.getK_e p
 | .c p=>T.getK_e p
 | .d p=>T.getK_e p
theorem T.get_e {α:Type}(k:Nat):(T.e:T α).get k=none:=T.getK_e _
theorem T.getK_setK {α:Type}(x:Option α):∀(p:K) (t:T α) (q:K),(p=q->T.getK q (T.setK p x t)=x)/\(p≠q->T.getK q (T.setK p x t)=T.getK q t):=by
 intro p
 induction p with
 |z=>
  intro t q;refine⟨fun h=>by subst h;cases t<;>rfl,fun h=>?_⟩
  cases q with
  |z=>exact absurd rfl h
  |_=>cases t<;>rfl
 |a p f=>
  intro t q;have e:T.setK (.a p) x t=T.n t.top (T.setK p x t.ta) t.tb t.tc t.td:=by
   cases t with
   |e=>exact T.force_eq (T.setK p x .e) (fun s=>T.n none s .e .e .e)
   |n v a b c d=>exact T.force_eq (T.setK p x a) (fun s=>T.n v s b c d)
  rw[e];cases q with
  |a q=>exact⟨fun h=>(f t.ta q).1 (by injection h),fun h=>(f t.ta q).2 (fun h'=>h (by rw[h']))⟩
  |_=>exact⟨fun h=>(by cases h),fun _=>by cases t<;>rfl⟩
 |b p f=>
  intro t q;have e:T.setK (.b p) x t=T.n t.top t.ta (T.setK p x t.tb) t.tc t.td:=by
   cases t with
   |e=>exact T.force_eq (T.setK p x .e) (fun s=>T.n none .e s .e .e)
   |n v a b c d=>exact T.force_eq (T.setK p x b) (fun s=>T.n v a s c d)
  rw[e];cases q with
  |b q=>exact⟨fun h=>(f t.tb q).1 (by injection h),fun h=>(f t.tb q).2 (fun h'=>h (by rw[h']))⟩
  |_=>exact⟨fun h=>(by cases h),fun _=>by cases t<;>rfl⟩
 |c p f=>
  intro t q;have e:T.setK (.c p) x t=T.n t.top t.ta t.tb (T.setK p x t.tc) t.td:=by
   cases t with
   |e=>exact T.force_eq (T.setK p x .e) (fun s=>T.n none .e .e s .e)
   |n v a b c d=>exact T.force_eq (T.setK p x c) (fun s=>T.n v a b s d)
  rw[e];cases q with
  |c q=>exact⟨fun h=>(f t.tc q).1 (by injection h),fun h=>(f t.tc q).2 (fun h'=>h (by rw[h']))⟩
  |_=>exact⟨fun h=>(by cases h),fun _=>by cases t<;>rfl⟩
 |d p f=>
  intro t q;have e:T.setK (.d p) x t=T.n t.top t.ta t.tb t.tc (T.setK p x t.td):=by
   cases t with
   |e=>exact T.force_eq (T.setK p x .e) (fun s=>T.n none .e .e .e s)
   |n v a b c d=>exact T.force_eq (T.setK p x d) (fun s=>T.n v a b c s)
  rw[e];cases q with
  |d q=>exact⟨fun h=>(f t.td q).1 (by injection h),fun h=>(f t.td q).2 (fun h'=>h (by rw[h']))⟩
  |_=>exact⟨fun h=>(by cases h),fun _=>by cases t<;>rfl⟩
theorem K.pick_eq (p:K)(r:Nat):K.pick p r=if r=0 then .a p else if r=1 then .b p else if r=2 then .c p else .d p:=by
 match r with
 |0=>rfl
 |1=>rfl
 |2=>rfl
 |r+3=>rw[bH1 (by omega),bH1 (by omega),bH1 (by omega)];rfl
theorem K.pick_inj {p q:K}{r s:Nat}(hr:r<4)(hs:s<4)(h:K.pick p r=K.pick q s):p=q/\r=s:=by
 rw[K.pick_eq,K.pick_eq]at h;split at h<;>split at h<;>first
  | (injection h with h1;exact⟨h1,by omega⟩)
  | (cases h;done)
  | (split at h<;>first| (injection h with h1;exact⟨h1,by omega⟩)| (cases h;done)| (split at h<;>first| (injection h with h1;exact⟨h1,by omega⟩)| (cases h;done)| (split at h<;>first| (injection h with h1;exact⟨h1,by omega⟩)| (cases h;done)| (split at h<;>first| (injection h with h1;exact⟨h1,by omega⟩)| (cases h;done)))))
theorem K.ofF_inj :∀(f g j k:Nat),j<f->k<g->K.ofF f j=K.ofF g k->j=k:=by
 intro f
 induction f with
 |zero=>intro g j k h;omega
 |succ f e=>
  intro g j k hj hk h;cases g with
  |zero=>omega
  |succ g=>
   have d:∀(p:K) (r:Nat),K.pick p r≠ .z:=by
    intro p r;rw[K.pick_eq]
    repeat' split
    all_goals (intro h;cases h)
   cases j with
   |zero=>
    cases k with
    |zero=>rfl
    |succ k=>exact absurd h.symm (d _ _)
   |succ j=>
    cases k with
    |zero=>exact absurd h (d _ _)
    |succ k=>
     have h':K.pick (K.ofF f (j/4)) (j % 4)=K.pick (K.ofF g (k/4)) (k % 4):=h;obtain⟨h1,h2⟩:=K.pick_inj (Nat.mod_lt _ (by omega)) (Nat.mod_lt _ (by omega)) h'
     have:=e g (j/4) (k/4) (by omega) (by omega) h1
     omega
theorem T.get_set {α:Type}(t:T α)(k:Nat)(x:Option α)(j:Nat):(t.set k x).get j=if j=k then x else t.get j:=by
 obtain⟨h1,h2⟩:=T.getK_setK x (K.of k) t (K.of j)
 by_cases h:j=k
 ·subst h;rw[bH3 rfl];exact h1 rfl
 ·rw[bH1 h];exact h2 (fun e=>h (K.ofF_inj _ _ _ _ (by omega) (by omega) e).symm)
end Go.Xe
end PartXm1
noncomputable section PartXm2
namespace Go.Xe
open Go.RowKit
structure Pl where
 blk:Nat
 dl:Nat
 siz:Nat
 esz:Nat
def Sg :Type:=Nat->Option Pl
def Sg.le (σ σ':Sg):Prop:=∀i p,σ i=some p->σ' i=some p
theorem Sg.le_refl (σ:Sg):Sg.le σ σ:=fun _ _ h=>h
theorem Sg.le_trans {a b c:Sg}(h:Sg.le a b)(k:Sg.le b c):Sg.le a c:=fun i p e=>k i p (h i p e)
structure Sg.gr (n n':Nat)(σ σ':Sg):Prop where
 le:Sg.le σ σ'
 low:∀i,i<n->σ' i=σ i
 nx:n<=n'
theorem Sg.gr_refl (n:Nat)(σ:Sg):Sg.gr n n σ σ:=⟨Sg.le_refl σ,fun _ _=>rfl,bH4 n⟩
variable {n:Nat}
theorem Sg.gr_trans {d e:Nat}{a b c:Sg}(h:Sg.gr n d a b)(k:Sg.gr d e b c):Sg.gr n e a c:=
 ⟨Sg.le_trans h.le k.le,fun i hi=>(k.low i (by have:=h.nx;omega)).trans (h.low i hi),bK9 h.nx k.nx⟩
def unk :Nat:=9223372036854775808
def F7 (c:Nat):Nat:=c/unk-1
def z7 (c:Nat):Nat:=c % unk
def c7 (lo hi:Nat):Nat:=unk*(lo+1)+hi
theorem D4 {lo hi:Nat}(h:hi<unk):F7 (c7 lo hi)=lo:=by unfold F7 c7;unfold unk at*;omega
theorem C5 {lo hi:Nat}(h:hi<unk):z7 (c7 lo hi)=hi:=by unfold z7 c7;unfold unk at*;omega
theorem j4 (lo hi:Nat):unk<=c7 lo hi:=by unfold c7 unk;omega
theorem bE8 :F7 unk=0:=by decide
theorem bE7 :z7 unk=0:=by decide
theorem B0 :0<unk:=by decide
def aP3 :FloatKind->Nat->IntKind
 | .f32,0=>.u32
 | .f32,1=>.u64
 | .f32,_=>.u8
 | .f64,_=>.i64
def O1 (f:FloatKind)(lo:Nat):IntKind:=aP3 f (lo/18446744073709551616)
def V6 (lo:Nat):Nat:=lo % 18446744073709551616
theorem aK0 (lo:Nat):V6 lo<=lo:=Nat.mod_le _ _
inductive VR (σ : Sg) : Value → Value → Prop
 |bool (b:Bool):VR σ (.bool b) (.bool b)
 |int (k:IntKind) (n:Int):VR σ (.int k n) (.int k n)
 |float (k:FloatKind) (n:Nat):VR σ (.float k n) (.float k n)
 |ival (f:FloatKind) (lo hi n:Nat) (h1:V6 lo<=n) (h2:hi=0\/n<hi):VR σ (.complex f lo hi) (.int (O1 f lo) n)
 |string (s:ByteArray):VR σ (.string s) (.string s)
 |nilp:VR σ (.pointer none) (.pointer none)
 |ptr (i o:Nat) (p:Pl) (h:σ i=some p):VR σ (.pointer (some ⟨i,o,none⟩)) (.pointer (some ⟨p.blk,p.dl+o,none⟩))
 |nils (l c:Nat):VR σ (.slice none l c) (.slice none l c)
 | slice (i o : Nat) (p : Pl) (l c c' : Nat) (h : σ i = some p) (hc : (c = c' ∧ c < unk) ∨ (unk ≤ c ∧ F7 c ≤ c' ∧ (z7 c = 0 ∨ c' < z7 c) ∧ p.dl + o + c' * p.esz ≤ p.siz)) (hl : l ≤ c') :
   VR σ (.slice (some ⟨i,o,none⟩) l c) (.slice (some ⟨p.blk,p.dl+o,none⟩) l c')
 |vague (q:Addr) (c':Nat):VR σ (.slice (some ⟨0,0,some 0⟩) 0 unk) (.slice (some q) 0 c')
 |nilm:VR σ (.map none) (.map none)
 |map (i:Nat) (p:Pl) (h:σ i=some p):VR σ (.map (some i)) (.map (some p.blk))
 | func (fn : Fn) (xs ys cs ds : Array Value) (h1 : xs.size = ys.size) (h2 : ∀ (i : Nat) x y, xs[i]? = some x → ys[i]? = some y → VR σ x y)
   (h3:cs.size=ds.size) (h4:∀(i:Nat) x y,cs[i]? =some x->ds[i]? =some y->VR σ x y):VR σ (.func fn xs cs) (.func fn ys ds)
 |nilf:VR σ .nilFunc .nilFunc
 |yield (i:Nat) (p:Pl) (h:σ i=some p):VR σ (.chan (some i)) (.func (.yield p.blk) #[] #[])
 |iface (t:TypeId) (v u:Value) (h:VR σ v u):VR σ (.iface t v) (.iface t u)
 |nili:VR σ .nilIface .nilIface
 |agg (xs ys:Array Value) (h1:xs.size=ys.size) (h2:∀(i:Nat) x y,xs[i]? =some x->ys[i]? =some y->VR σ x y):VR σ (.agg xs) (.agg ys)
 |tuple (xs ys:Array Value) (h1:xs.size=ys.size) (h2:∀(i:Nat) x y,xs[i]? =some x->ys[i]? =some y->VR σ x y):VR σ (.tuple xs) (.tuple ys)
variable {σ σ':Sg}
theorem VR.mono (hs:Sg.le σ σ'){a b:Value}(h:VR σ a b):VR σ' a b:=by
 induction h with
 |bool b=>exact .bool b
 |int k n=>exact .int k n
 |float k n=>exact .float k n
 |ival f lo hi n h1 h2=>exact .ival f lo hi n h1 h2
 |string s=>exact .string s
 |nilp=>exact .nilp
 |ptr i o p h=>exact .ptr i o p (hs _ _ h)
 |nils l c=>exact .nils l c
 |slice i o p l c c' h hc hl=>exact .slice i o p l c c' (hs _ _ h) hc hl
 |vague q c'=>exact .vague q c'
 |nilm=>exact .nilm
 |map i p h=>exact .map i p (hs _ _ h)
 |func fn xs ys cs ds h1 _ h3 _ e g=>exact .func fn xs ys cs ds h1 e h3 g
 |nilf=>exact .nilf
 |yield i p h=>exact .yield i p (hs _ _ h)
 |iface t v u _ d=>exact .iface t v u d
 |nili=>exact .nili
 |agg xs ys h1 _ d=>exact .agg xs ys h1 d
 |tuple xs ys h1 _ d=>exact .tuple xs ys h1 d
theorem VR.undef (σ:Sg):VR σ undef undef:= .tuple _ _ rfl (fun i x y h _=>by simp at h)
def VRL (σ:Sg)(xs ys:List Value):Prop:=xs.length=ys.length/\ ∀(i:Nat) x y,xs[i]? =some x->ys[i]? =some y->VR σ x y
theorem VRL.nil (σ:Sg):VRL σ [] []:=⟨rfl,fun i x y h _=>by simp at h⟩
variable {x:Value}{xs ys:List Value}
theorem VRL.cons {y:Value}(h:VR σ x y)(hs:VRL σ xs ys):VRL σ (x::xs) (y::ys):=by
 refine⟨by simp[hs.1],fun i a b d hb=>?_⟩
 cases i with
 |zero=>grind
 |succ i=>simp at d hb;exact hs.2 i a b d hb
theorem VRL.uncons (h:VRL σ (x::xs) ys):∃y d,ys=y::d/\VR σ x y/\VRL σ xs d:=by
 cases ys with
 |nil=>exact absurd h.1 (by simp)
 |cons y ys=>exact⟨y,ys,rfl,h.2 0 x y rfl rfl,by have:=h.1;simpa using this,fun i a b e hb=>h.2 (i+1) a b (by simpa using e) (by simpa using hb)⟩
theorem VRL.unnil (h:VRL σ [] ys):ys=[]:=bF7 h.1.symm
variable {a:List Value}
theorem VRL.mono (hs:Sg.le σ σ'){b:List Value}(h:VRL σ a b):VRL σ' a b:=⟨h.1,fun i x y hx hy=>(h.2 i x y hx hy).mono hs⟩
theorem VRL.append {b c d:List Value}(h:VRL σ a b)(k:VRL σ c d):VRL σ (a++c) (b++d):=by
 induction a generalizing b with
 |nil=>rw[h.unnil];exact k
 |cons x a e=>obtain⟨y,b',rfl,h1,h2⟩:=h.uncons;exact VRL.cons h1 (e h2)
variable {i:Nat}
theorem VRL.get {b:List Value}(h:VRL σ a b)(hx:a[i]? =some x):∃y,b[i]? =some y/\VR σ x y:=by
 have hi:i<a.length:=(bF4.1 hx).1;have hb:i<b.length:=by rw[<-h.1];exact hi
 exact⟨b[i],by simp[hb],h.2 i x _ hx (by simp[hb])⟩
variable {v:Value}
theorem VRL.of_agg {a:Array Value}(h:VR σ (.agg a) v):∃b,v= .agg b/\VRL σ a.toList b.toList:=by
 cases h with
 |agg _ ys h1 h2=>exact⟨ys,rfl,by simpa using h1,fun i x y hx hy=>h2 i x y (by simpa using hx) (by simpa using hy)⟩
theorem VRL.to_agg {b:List Value}(h:VRL σ a b):VR σ (.agg a.toArray) (.agg b.toArray):=
 .agg _ _ (by simpa using h.1) (fun i x y hx hy=>h.2 i x y (by simpa using hx) (by simpa using hy))
theorem VRL.of_tuple {a:Array Value}(h:VR σ (.tuple a) v):∃b,v= .tuple b/\VRL σ a.toList b.toList:=by
 cases h with
 |tuple _ ys h1 h2=>exact⟨ys,rfl,by simpa using h1,fun i x y hx hy=>h2 i x y (by simpa using hx) (by simpa using hy)⟩
theorem VRL.to_tuple {b:List Value}(h:VRL σ a b):VR σ (.tuple a.toArray) (.tuple b.toArray):=
 .tuple _ _ (by simpa using h.1) (fun i x y hx hy=>h.2 i x y (by simpa using hx) (by simpa using hy))
variable {u:Value}
theorem VR.cells (h:VR σ v u):VRL σ v.cells.toList u.cells.toList:=by
 cases h with
 |agg xs ys h1 h2=>exact⟨by simpa [Value.cells]using h1,fun i x y hx hy=>h2 i x y (by simpa [Value.cells]using hx) (by simpa [Value.cells]using hy)⟩
 |bool b=>exact VRL.cons (.bool b) (VRL.nil σ)
 |int k n=>exact VRL.cons (.int k n) (VRL.nil σ)
 |float k n=>exact VRL.cons (.float k n) (VRL.nil σ)
 |ival f lo hi n h1 h2=>exact VRL.cons (.ival f lo hi n h1 h2) (VRL.nil σ)
 |string s=>exact VRL.cons (.string s) (VRL.nil σ)
 |nilp=>exact VRL.cons .nilp (VRL.nil σ)
 |ptr i o p h=>exact VRL.cons (.ptr i o p h) (VRL.nil σ)
 |nils l c=>exact VRL.cons (.nils l c) (VRL.nil σ)
 |slice i o p l c c' h hc hl=>exact VRL.cons (.slice i o p l c c' h hc hl) (VRL.nil σ)
 |vague q c'=>exact VRL.cons (.vague q c') (VRL.nil σ)
 |nilm=>exact VRL.cons .nilm (VRL.nil σ)
 |map i p h=>exact VRL.cons (.map i p h) (VRL.nil σ)
 |func fn xs ys cs ds h1 h2 h3 h4=>exact VRL.cons (.func fn xs ys cs ds h1 h2 h3 h4) (VRL.nil σ)
 |nilf=>exact VRL.cons .nilf (VRL.nil σ)
 |yield i p h=>exact VRL.cons (.yield i p h) (VRL.nil σ)
 |iface t v u h=>exact VRL.cons (.iface t v u h) (VRL.nil σ)
 |nili=>exact VRL.cons .nili (VRL.nil σ)
 |tuple xs ys h1 h2=>exact VRL.cons (.tuple xs ys h1 h2) (VRL.nil σ)
theorem VR.oneCell (h:VR σ v u)(d:v.oneCell'=true):u.oneCell'=true:=by
 cases h<;>first|rfl| (simp[Value.oneCell']at d)
inductive Blk where
 |cells (c:T Value) (n:Nat) (elem esz:Nat)
 |ro (c:T Value) (n:Nat) (elem esz:Nat)
 |sit (s:ByteArray) (pos:Nat)
 |map (es:List (Value×Value)) (reg:Bool)
 |loop (st:LoopState) (pend:Option Code) (nt:Nat) (tms:T Value) (params:Array Tmp) (assign body:Code) (db:Nat)
 |dfr
structure Hp where
 m:T Blk
 nx:Nat
def BR (σ : Sg) (p : Pl) : Blk → Obj → Prop
 | .cells c n e z,o=>∃C,o= .cells C e (0,0)/\p.esz=z/\C.size=p.siz/\p.dl+n<=p.siz/\ ∀j,j<n-> ∃v u,c.get j=some v/\C[p.dl+j]? =some u/\VR σ v u
 | .ro c n e z,o=>∃C f,o= .cells C e f/\p.esz=z/\C.size=p.siz/\p.dl+n<=p.siz/\ ∀j v,j<n->c.get j=some v-> ∃u,C[p.dl+j]? =some u/\VR σ v u
 | .sit s pos,o=>o= .stringIter s pos/\p.dl=0
 | .dfr,o=>o= .deferred (some [])
 | .loop st pend nt tms params assign body db, o => ∃ r, o = .loop r ∧ r.state = st ∧ r.pending = pend ∧ r.params = params ∧ r.assign = assign ∧ r.body = body ∧
   (r.tmps.size=nt/\ ∀k,VR σ ((tms.get k).getD undef) (r.tmps.getD k undef))/\ ∃q,σ db=some q/\q.blk=r.defers
 | .map es reg, o => ∃ ents clock, o = .map ents clock ∧ ents.size = es.length ∧ (∀ (j : Nat) x e, es[j]? = some x → ents[j]? = some e → VR σ x.1 e.key ∧ VR σ x.2 e.val) ∧
   (reg=true->clock=ents.size/\ ∀(j:Nat) e,ents[j]? =some e->e.born=j)
variable {p:Pl}{b:Blk}
theorem BR.mono (hs:Sg.le σ σ'){o:Obj}(h:BR σ p b o):BR σ' p b o:=by
 cases b with
 |cells c n e z=>
  obtain⟨C,h1,h2,h3,h4,g⟩:=h;exact⟨C,h1,h2,h3,h4,fun j hj=>let⟨v,u,a,b,c⟩:=g j hj;⟨v,u,a,b,c.mono hs⟩⟩
 |ro c n e z=>
  obtain⟨C,f,h1,h2,h3,h4,g⟩:=h;exact⟨C,f,h1,h2,h3,h4,fun j v hj E=>let⟨u,b,c⟩:=g j v hj E;⟨u,b,c.mono hs⟩⟩
 |sit s pos=>exact h
 |dfr=>exact h
 |loop st pend nt tms params assign body db=>
  obtain⟨r,h1,h2,h3,h4,g,m,⟨t,A⟩,q,D,l⟩:=h;exact⟨r,h1,h2,h3,h4,g,m,⟨t,fun k=>(A k).mono hs⟩,q,hs _ _ D,l⟩
 |map es reg=>
  obtain⟨ents,d,h1,h2,h3,h4⟩:=h;exact⟨ents,d,h1,h2,fun j x e hx he=>⟨(h3 j x e hx he).1.mono hs,(h3 j x e hx he).2.mono hs⟩,h4⟩
structure BS where
 B:Nat->Prop
 D:Nat->Prop
 sub:∀k,D k->B k
instance : CoeFun BS (fun _=>Nat->Prop):=⟨BS.B⟩
def BS.below (w:World):BS:=⟨(· <w.heap.size),fun _=>False,fun _ h=>h.elim⟩
def NB (B:BS)(k:Nat):Blk->Prop
 | .ro _ _ _ _=>B.D k
 |_=>¬B k
def P4 :Blk->Bool
 | .ro _ _ _ _=>true
 |_=>false
variable {B:BS}{k:Nat}
theorem NB.no (h:NB B k b)(hb:P4 b=false):¬B k:=by cases b<;>first|exact h| (cases hb)
theorem NB.yes (h:NB B k b)(hb:P4 b=true):B.D k:=by cases b<;>first|exact h| (cases hb)
theorem NB.of (h:¬B k)(hb:P4 b=false):NB B k b:=by cases b<;>first|exact h| (cases hb)
theorem NB.to {B':BS}(h:NB B k b)(h1:B.D k->B'.D k)(h2:¬B k-> ¬B' k):NB B' k b:=by
 cases b<;>first|exact h1 h|exact h2 h
theorem NB.like {b':Blk}(h:NB B k b)(hb:P4 b=false)(hb':P4 b'=false):NB B k b':= .of (h.no hb) hb'
def rdC :Blk->Option (T Value×Nat×Nat)
 | .cells c n _ z=>some (c,n,z)
 | .ro c n _ z=>some (c,n,z)
 |_=>none
structure HR (B:BS)(w0:World)(σ:Sg)(hp:Hp)(w:World):Prop where
 os:w.os=w0.os
 tape:w.tape=w0.tape
 output:w.output=w0.output
 size:w0.heap.size<=w.heap.size
 old:∀k,B k->k<w0.heap.size
 kept:∀k,B k->w.heap[k]? =w0.heap[k]?
 fresh:∀i,hp.nx<=i->σ i=none
 live:∀i b,hp.m.get i=some b-> ∃p o,σ i=some p/\NB B p.blk b/\w.heap[p.blk]? =some o/\BR σ p b o
 inj:∀i j b b' p q,hp.m.get i=some b->hp.m.get j=some b'->i≠j->σ i=some p->σ j=some q->p.blk≠q.blk
variable {w w0:World}{hp:Hp}{z:Nat}{c:T Value}
theorem HR.liveC      (h : HR B w0 σ hp w) {e:Nat}  ( q : hp.m.get i = some (.cells c n e z)) :
  ∃p C,σ i=some p/\p.esz=z/\ ¬B p.blk/\w.heap[p.blk]? =some (.cells C e (0,0))/\C.size=p.siz/\p.dl+n<=p.siz/\ ∀j,j<n-> ∃v u,c.get j=some v/\C[p.dl+j]? =some u/\VR σ v u:=by
 obtain⟨p,o,h1,h2,h3,C,rfl,d,f,g,l⟩:=h.live i _ q;exact⟨p,C,h1,d,h2,h3,f,g,l⟩
theorem HR.liveR      (h : HR B w0 σ hp w)    ( d : hp.m.get i = some b) (hr : rdC b = some (c, n, z)) :
  ∃p C e f,σ i=some p/\p.esz=z/\w.heap[p.blk]? =some (.cells C e f)/\C.size=p.siz/\p.dl+n<=p.siz/\ ∀j v,j<n->c.get j=some v-> ∃u,C[p.dl+j]? =some u/\VR σ v u:=by
 cases b with
 |cells c' n' e q=>
  cases hr;obtain⟨p,C,h1,h2,_,h3,h4,g,l⟩:=h.liveC d
  grind
 |ro c' n' e q=>
  cases hr;obtain⟨p,o,h1,h2,h3,C,f,rfl,g,l,r,s⟩:=h.live i _ d
  grind
 |_=>cases hr
theorem HR.drew (h:HR B w0 σ hp w):HR B w0 σ hp w.drew:=
 ⟨h.os,h.tape,h.output,h.size,h.old,h.kept,h.fresh,h.live,h.inj⟩
def fill (c:T Value):Nat->List Value->T Value
 |_,[]=>c
 |k,v::vs=>fill (c.set k (some v)) (k+1) vs
theorem i4 :∀(vs:List Value) (c:T Value) (k j:Nat),(fill c k vs).get j=if k<=j/\j<k+vs.length then vs[j-k]? else c.get j:=by
 intro vs
 induction vs with
 |nil=>intro c k j;simp only[fill,bQ0,bL7];rw[bH1 (by omega)]
 |cons v vs d=>
  intro c k j;simp only[fill,d,T.get_set,bJ4]
  grind
def j3 (c:T Value):Nat->Nat->Option (List Value)
 |_,0=>some []
 |o,n+1=>match c.get o with
  |some v=>match j3 c (o+1) n with
   |some vs=>some (v::vs)
   |none=>none
  |none=>none
theorem f9 :∀ {n o:Nat} {vs:List Value},j3 c o n=some vs->vs.length=n/\ ∀j,j<n->vs[j]? =c.get (o+j):=by
 intro n
 induction n with
 |zero=>intro o vs h;simp[j3]at h;subst h;exact⟨rfl,fun j hj=>by omega⟩
 |succ n d=>
  intro o vs h;simp only[j3]at h
  grind
variable {vs:List Value}
theorem HR.cellsR      (h : HR B w0 σ hp w) {o m:Nat}   
  (l:hp.m.get i=some b) (hr:rdC b=some (c,n,z)) (hn:o+m<=n) (hl:j3 c o m=some vs) (hp':σ i=some p):
  ∃us,VRL σ vs us/\us.length=m/\ ∀j u,us[j]? =some u->w.cell? ((⟨p.blk,p.dl+o,none⟩:Addr).add j)=some u:=by
 obtain⟨q,C,e,f,hq,hz,s,hs,t,hc⟩:=h.liveR l hr;have:q=p:=bH7 (hq.symm.trans hp');subst this;obtain⟨g,d⟩:=f9 hl;refine⟨(C.toList.drop (q.dl+o)).take m,⟨?_,?_⟩,?_,?_⟩
 ·grind
 ·grind
 ·grind
 ·intro j u r
  have hj:j<m:=by grind
  rw[bI4,bH3 hj,bJ0]at r;rw[bO4,cell_of_row w q.blk _ C e f s]
  grind
theorem HR.cells      (h : HR B w0 σ hp w) {e o m:Nat}  
  (d:hp.m.get i=some (.cells c n e z)) (hn:o+m<=n) (hl:j3 c o m=some vs) (hp':σ i=some p):
  ∃us,VRL σ vs us/\us.length=m/\ ∀j u,us[j]? =some u->w.cell? ((⟨p.blk,p.dl+o,none⟩:Addr).add j)=some u:=h.cellsR d rfl hn hl hp'
end Go.Xe
end PartXm2
noncomputable section PartXm3
namespace Go.Xe
open Go.RowKit
section
variable {B :BS}{w0:World}{σ:Sg}{hp:Hp}{w:World}
def Sg.ext (σ:Sg)(i:Nat)(p:Pl):Sg:=fun j=>if j=i then some p else σ j
theorem Sg.ext_same (σ:Sg)(i:Nat)(p:Pl):σ.ext i p i=some p:=by simp[Sg.ext]
theorem Sg.ext_other (σ:Sg)(i:Nat)(p:Pl){j:Nat}(h:j≠i):σ.ext i p j=σ j:=by simp[Sg.ext,h]
variable {i:Nat}
theorem Sg.le_ext {σ:Sg}(p:Pl)(h:σ i=none):Sg.le σ (σ.ext i p):=by
 intro j q hq;have d:j≠i:=by intro e;subst e;rw[h]at hq;cases hq
 rw[Sg.ext_other _ _ _ d];exact hq
theorem HR.allocO (h : HR B w0 σ hp w) ( f nx : Nat) (  t : σ  f = none) (  I : hp.nx ≤ nx) (hlt :  f < nx) (b : Blk) (o : Obj) (p : Pl) (hp0 : p.blk = w.heap.size) (hb : BR (σ.ext  f p) p b o) (  D : P4 b = false := by rfl) :
  HR B w0 (σ.ext f p) ⟨hp.m.set f (some b),nx⟩ (w.alloc o):=by
 have A:=Sg.le_ext (σ:=σ) (i:=f) p t;refine⟨h.os,h.tape,h.output,by simp;have:=h.size;omega,h.old,fun k hk=>by rw[Below.heap_alloc _ _ _ (by have:=h.old k hk;have:=h.size;omega)];exact h.kept k hk,?_,?_,?_⟩
 ·intro i hi
  have H:nx<=i:=hi;rw[Sg.ext_other _ _ _ (by omega)]
  exact h.fresh i (by omega)
 ·intro i b' l
  simp only[T.get_set]at l
  by_cases hi:i=f
  ·rw[bH3 hi]at l
   simp only[bF1]at l;subst l;subst hi;refine⟨p,o,Sg.ext_same _ _ _,.of (fun G=>by have h1:=h.old _ G;have h2:=h.size;omega) D,?_,hb⟩
   rw[hp0];show(w.heap.push _)[w.heap.size]? =_;simp
  ·rw[bH1 hi]at l
   obtain⟨q,o',h1,h2,h3,h4⟩:=h.live i b' l;refine⟨q,o',by rw[Sg.ext_other _ _ _ hi];exact h1,h2,?_,h4.mono A⟩
   rw[Below.heap_alloc _ _ _ (bG6.1 h3).1];exact h3
 ·intro i j E F q r hi hj C e d
  simp only[T.get_set]at hi hj
  by_cases s:i=f
  ·have g:j≠f:=by omega
   rw[bH1 g]at hj;rw[s,Sg.ext_same]at e;rw[Sg.ext_other _ _ _ g]at d;obtain⟨K,o',h1,_,h3,_⟩:=h.live j F hj;have:K=r:=bH7 (h1.symm.trans d);subst this;have:=(bG6.1 h3).1;rw[<-bH7 e,hp0];omega
  ·rw[bH1 s]at hi
   rw[Sg.ext_other _ _ _ s]at e
   by_cases g:j=f
   ·rw[g,Sg.ext_same]at d
    obtain⟨J,o',h1,_,h3,_⟩:=h.live i E hi;have:J=q:=bH7 (h1.symm.trans e);subst this;have:=(bG6.1 h3).1;rw[<-bH7 d,hp0];omega
   ·rw[bH1 g]at hj
    rw[Sg.ext_other _ _ _ g]at d;exact h.inj i j _ _ q r hi hj C e d
theorem HR.allocAt (h : HR B w0 σ hp w) ( f nx : Nat) (  d : σ  f = none) (  g : hp.nx ≤ nx) (hlt :  f < nx) (c : T Value) (n e z : Nat) (us : Array Value) (hn : n ≤ us.size)
  (hc:∀j,j<n-> ∃v u,c.get j=some v/\us[j]? =some u/\VR σ v u):
  HR B w0 (σ.ext f ⟨w.heap.size,0,us.size,z⟩) ⟨hp.m.set f (some (.cells c n e z)),nx⟩ (w.alloc (.cells us e)):=by
 refine h.allocO f nx d g hlt _ _ _ rfl ⟨us,rfl,rfl,rfl,by simpa using hn,fun j hj=>?_⟩
 obtain⟨v,u,h1,h2,h3⟩:=hc j hj;exact⟨v,u,h1,by simpa using h2,h3.mono (Sg.le_ext _ d)⟩
theorem HR.alloc (h : HR B w0 σ hp w) (c : T Value) (n e z : Nat) (us : Array Value) (hn : n ≤ us.size)
  (hc:∀j,j<n-> ∃v u,c.get j=some v/\us[j]? =some u/\VR σ v u):
  HR B w0 (σ.ext hp.nx ⟨w.heap.size,0,us.size,z⟩) ⟨hp.m.set hp.nx (some (.cells c n e z)),hp.nx+1⟩ (w.alloc (.cells us e)):=
 h.allocAt hp.nx (hp.nx+1) (h.fresh _ (bH4 _)) (bM6 _) (bL2 _) c n e z us hn hc
variable {p:Pl}
theorem HR.turn (h : HR B w0 σ hp w)  {b b' : Blk} ( A : hp.m.get i = some b)  (  G : σ i = some p) {o : Obj} {w' : World} (hh : w'.heap[p.blk]? = some o)
  (hk:∀k,k≠p.blk->w'.heap[k]? =w.heap[k]?) (hs:w'.heap.size=w.heap.size) (h1:w'.os=w.os) (h2:w'.tape=w.tape) (h3:w'.output=w.output) (hb:BR σ p b' o) (J:P4 b=false:=by rfl) (t:P4 b'=false:=by rfl):
  HR B w0 σ {hp with m:=hp.m.set i (some b')} w':=by
 obtain⟨p',o',C,D,U,V⟩:=h.live i b A;have M:=D.no J;have:p'=p:=bH7 (C.symm.trans G);subst this;refine⟨h1.trans h.os,h2.trans h.tape,h3.trans h.output,by rw[hs];exact h.size,h.old,fun k s=>?_,h.fresh,?_,?_⟩
 ·rw[hk k (fun e=>M (by rw[<-e];exact s))];exact h.kept k s
 ·intro j K hj
  simp only[T.get_set]at hj
  by_cases d:j=i
  ·rw[bH3 d]at hj
   simp only[bF1]at hj;subst hj;subst d;exact⟨p',o,C,.of M t,hh,hb⟩
  ·rw[bH1 d]at hj
   obtain⟨q,R,L,N,O,Q⟩:=h.live j K hj;exact⟨q,R,L,N,by rw[hk _ (h.inj j i _ _ q p' hj A d L C)];exact O,Q⟩
 ·intro a c S K q r E hc F H I
  simp only[T.get_set]at E hc;have ha':∃b,hp.m.get a=some b:=by
   by_cases g:a=i
   ·subst g;exact⟨_,A⟩
   ·rw[bH1 g]at E;exact⟨_,E⟩
  have f:∃b,hp.m.get c=some b:=by
   by_cases l:c=i
   ·subst l;exact⟨_,A⟩
   ·rw[bH1 l]at hc;exact⟨_,hc⟩
  obtain⟨_,ha'⟩:=ha';obtain⟨_,f⟩:=f;exact h.inj a c _ _ q r ha' f F H I
variable {c:T Value}
theorem HR.store (h : HR B w0 σ hp w) {n e z o:Nat}  ( D : hp.m.get i = some (.cells c n e z))  (  s : σ i = some p)
  {vs us:List Value} (l:VRL σ vs us) (h1:∀u∈us,u.oneCell'=true) (N:o<=n) (hs:p.dl+o+vs.length<=p.siz) (P:Program):
  ∃w',(storeCells ⟨p.blk,p.dl+o,none⟩ us).run P w= .ok () w'/\HR B w0 σ {hp with m:=hp.m.set i (some (.cells (fill c o vs) (max n (o+vs.length)) e z))} w'/\w'.heap.size=w.heap.size:=by
 obtain⟨p',C,t,H,L,A,I,M,J⟩:=h.liveC D;have:p'=p:=bH7 (t.symm.trans s);subst this;have hr:=run_storeCells_at P p'.blk (p'.dl+o) e us 0 C w A (by rw[<-l.1];omega) h1
 simp only[bL7]at hr;refine⟨_,hr,?_,by simp[World.setRow]⟩
 have j:=setRow_heap w p'.blk C (C.toList.take (p'.dl+o)++us++C.toList.drop (p'.dl+o+us.length)).toArray e (0,0) A;have d:(C.toList.take (p'.dl+o)++us++C.toList.drop (p'.dl+o+us.length)).toArray.size=C.size:=by
  have:=l.1
  grind
 refine h.turn D t j (fun k hk=>setRow_other w _ k _ hk) (by simp[World.setRow]) rfl rfl rfl ⟨_,rfl,H,by rw[d];exact I,by omega,fun k hk=>?_⟩
 rw[i4];have hl:=l.1
 by_cases f:o<=k/\k<o+vs.length
 ·rw[bH3 f]
  have g:k-o<vs.length:=by omega
  have q:k-o<us.length:=by omega
  refine⟨vs[k-o],us[k-o],by simp[g],?_,l.2 (k-o) _ _ (by simp[g]) (by simp[q])⟩
  simp only[bG5,List.getElem?_toArray];rw[bF9 (by simp;omega),bG0 (by simp;omega)]
  grind
 ·rw[bH1 f]
  have r:k<n:=by omega
  obtain⟨v,u,E,F,G⟩:=J k r;refine⟨v,u,E,?_,G⟩;simp only[bG5,List.getElem?_toArray];rw[<-F]
  by_cases K:k<o
  ·grind
  ·rw[bF9 (by simp;omega),bF9 (by simp;omega),bJ0]
   grind
theorem HR.move (h : HR B w0 σ hp w) {n e z o k:Nat}  ( G : hp.m.get i = some (.cells c n e z))  (  g : σ i = some p) (hk : o + k ≤ n)
  (c':T Value) (hc:∀j,j<k->c'.get j=c.get (o+j)):
  HR B w0 (σ.ext hp.nx ⟨p.blk,p.dl+o,p.siz,p.esz⟩) ⟨(hp.m.set i none).set hp.nx (some (.cells c' k e z)),hp.nx+1⟩ w:=by
 have D:=Sg.le_ext (σ:=σ) (i:=hp.nx) ⟨p.blk,p.dl+o,p.siz,p.esz⟩ (h.fresh _ (bH4 _));obtain⟨p',C,R,S,U,V,W,g6,X⟩:=h.liveC G;have:p'=p:=bH7 (R.symm.trans g);subst this;have Y:i≠hp.nx:=by
  intro e;rw[e,h.fresh _ (bH4 _)]at g;cases g
 refine⟨h.os,h.tape,h.output,h.size,h.old,h.kept,?_,?_,?_⟩
 ·intro j hj
  simp at hj;rw[Sg.ext_other _ _ _ (by omega)]
  exact h.fresh j (by omega)
 ·intro j I hj
  simp only[T.get_set]at hj
  by_cases E:j=hp.nx
  ·rw[bH3 E]at hj
   simp only[bF1]at hj;subst hj;subst E;refine⟨_,_,Sg.ext_same _ _ _,U,V,C,rfl,S,W,by show p'.dl+o+k<=p'.siz;omega,fun j hj=>?_⟩
   obtain⟨v,u,J,a2,K⟩:=X (o+j) (by omega)
   refine⟨v,u,by rw[hc j hj];exact J,?_,K.mono D⟩
   grind
  ·rw[bH1 E]at hj
   by_cases Q:j=i
   ·grind
   ·rw[bH1 Q]at hj
    obtain⟨q,Z,L,M,N,O⟩:=h.live j I hj;exact⟨q,Z,by rw[Sg.ext_other _ _ _ E];exact L,M,N,O.mono D⟩
 ·intro a b b1 I q r t hb H l f
  simp only[T.get_set]at t hb
  by_cases F:a=hp.nx
  ·have A:b≠hp.nx:=by omega
   rw[bH1 A]at hb
   by_cases d:b=i
   ·rw[bH3 d]at hb;cases hb
   ·rw[bH1 d]at hb
    rw[F,Sg.ext_same]at l;rw[Sg.ext_other _ _ _ A]at f;rw[<-bH7 l];exact h.inj i b _ _ p' r G hb (Ne.symm d) g f
  ·rw[bH1 F]at t
   by_cases s:a=i
   ·rw[bH3 s]at t;cases t
   ·rw[bH1 s]at t
    rw[Sg.ext_other _ _ _ F]at l
    by_cases A:b=hp.nx
    ·rw[A,Sg.ext_same]at f
     rw[<-bH7 f];exact h.inj a i _ _ q p' t G s l g
    ·rw[bH1 A]at hb
     by_cases d:b=i
     ·rw[bH3 d]at hb;cases hb
     ·rw[bH1 d]at hb
      rw[Sg.ext_other _ _ _ A]at f;exact h.inj a b _ _ q r t hb H l f
theorem HR.sub (h:HR B w0 σ hp w){d:Hp}(hn:hp.nx<=d.nx)(hm:∀i b,d.m.get i=some b->hp.m.get i=some b):HR B w0 σ d w:=
 ⟨h.os,h.tape,h.output,h.size,h.old,h.kept,fun i hi=>h.fresh i (bK9 hn hi),fun i b e=>h.live i b (hm _ _ e),fun i j b b' p q hi hj=>h.inj i j b b' p q (hm _ _ hi) (hm _ _ hj)⟩
end
end Go.Xe
end PartXm3
noncomputable section PartXm4
namespace Go.Xe
open Go.RowKit
structure TR (σ:Sg)(nt:Nat)(tm:T Value)(tmps:Array Value):Prop where
 size:tmps.size=nt
 at_:∀k,VR σ ((tm.get k).getD undef) (tmps.getD k undef)
variable {σ:Sg}{nt:Nat}{tm:T Value}{tmps:Array Value}
theorem TR.mono {σ':Sg}(hs:Sg.le σ σ')(h:TR σ nt tm tmps):TR σ' nt tm tmps:=
 ⟨h.size,fun k=>(h.at_ k).mono hs⟩
variable {v:Value}
theorem TR.put     (h : TR σ nt tm tmps) {d : Nat} ( e : d < nt) {u:Value} ( f : VR σ v u) :
  TR σ nt (tm.set d (some v)) (tmps.setIfInBounds d u):=by
 refine⟨by simpa using h.size,fun k=>?_⟩
 rw[T.get_set]
 by_cases hk:k=d
 ·subst hk
  rw[bH3 rfl];have:k<tmps.size:=by rw[h.size];exact e
  simp_all
 ·rw[bH1 hk]
  have:=h.at_ k
  simpa [bP2 (Ne.symm hk)]using this
def ag7 :Value->Bool
 | .bool _| .int _ _| .float _ _| .string _| .pointer none| .slice none _ _| .map none| .nilFunc| .nilIface=>true
 |_=>false
def cst :Value->Bool
 | .agg cs=>cs.toList.all ag7
 | .tuple vs=>vs.toList.all ag7
 |v=>ag7 v
theorem bg2 (σ:Sg)(h:ag7 v=true):VR σ v v:=by
 cases v with
 |bool b=>exact .bool b
 |int k n=>exact .int k n
 |float k n=>exact .float k n
 |string s=>exact .string s
 |pointer a=>cases a with
  |none=>exact .nilp
  |some a=>simp[ag7]at h
 |slice a l c=>cases a with
  |none=>exact .nils l c
  |some a=>simp[ag7]at h
 |map r=>cases r with
  |none=>exact .nilm
  |some a=>simp[ag7]at h
 |nilFunc=>exact .nilf
 |nilIface=>exact .nili
 |_=>simp[ag7]at h
theorem av6 (σ:Sg):∀ {vs:List Value},vs.all ag7=true->VRL σ vs vs
 | [],_=>VRL.nil σ
 |v::vs,h=>by
  simp only[List.all_cons,bF2]at h;exact VRL.cons (bg2 σ h.1) (av6 σ h.2)
theorem M2 (σ:Sg)(h:cst v=true):VR σ v v:=by
 cases v with
 |agg cs=>have:=(av6 σ (show cs.toList.all ag7=true from h)).to_agg;simpa using this
 |tuple vs=>have:=(av6 σ (show vs.toList.all ag7=true from h)).to_tuple;simpa using this
 |bool b=>exact .bool b
 |int k n=>exact .int k n
 |float k n=>exact .float k n
 |string s=>exact .string s
 |nilFunc=>exact .nilf
 |nilIface=>exact .nili
 |_=>exact bg2 σ h
def a9 (tm:T Value):Operand->Option Value
 | .tmp t=>some ((tm.get t).getD undef)
 | .const v=>bif cst v then some v else none
 | .global _=>none
 | .func f=>some (.func (.func f) #[] #[])
theorem U5 {a:Act}(h:TR σ nt tm a.tmps){x:Operand}(hx:a9 tm x=some v):VR σ v (a.eval x):=by
 cases x with
 |tmp t=>simp only[a9,bF1]at hx;subst hx;exact h.at_ t
 |const c=>
  simp only[a9]at hx;cases hc:cst c with
  |false=>grind
  |true=>simp[hc]at hx;subst hx;exact M2 σ hc
 |global g=>simp[a9]at hx
 |func f=>
  simp only[a9,bF1]at hx;subst hx;exact .func _ _ _ _ _ rfl (fun i x y h _=>by simp at h) rfl (fun i x y h _=>by simp at h)
def ae7 (tm:T Value):List Operand->Option (List Value)
 | []=>some []
 |x::xs=>match a9 tm x with
  |some v=>match ae7 tm xs with
   |some vs=>some (v::vs)
   |none=>none
  |none=>none
def an1 :TypeDesc->Bool
 | .struct _| .array _ _=>true
 |_=>false
def U7 (P : Program) (t : TypeId) (cs : List Value) (off : Nat) : Option Value :=
 match P.underlying t with
 |none=>none
 | some d => bif an1 d then
   match P.info? t with
   |some i=>some (.agg ((cs.drop off).take i.size).toArray)
   |none=>none
  else cs[off]?
variable {P:Program}
theorem ad2 {t:TypeId}{d:TypeDesc}(h:P.underlying t=some d)(w:World):(isAgg t).run P w= .ok (an1 d) w:=by
 unfold isAgg;simp only[bI0,bH5 h,bH6];cases d<;>rfl
theorem aJ6 (cs:Array Value)(off n:Nat):cs.extract off (off+n)=((cs.toList.drop off).take n).toArray:=by
 grind
theorem L9   {t : TypeId} {xs : List Value} {off : Nat}  (h : U7 P t xs off = some v) {ys : Array Value} (hy : VRL σ xs ys.toList) :
  ∃u,VR σ v u/\ ∀w,(part t ys off).run P w= .ok u w:=by
 unfold U7 at h;cases g:P.underlying t with
 |none=>grind
 |some d=>
  simp only[g]at h;cases f:an1 d with
  |true=>
   simp only[f,bG8]at h;cases hi:P.info? t with
   |none=>grind
   |some i=>
    simp only[hi,bF1]at h;subst h;refine⟨.agg (ys.extract off (off+i.size)),?_,fun w=>?_⟩
    ·rw[aJ6]
     refine VRL.to_agg ⟨by have:=hy.1;simp at this⊢;omega,fun j x y hx e=>?_⟩
     rw[bI4]at hx e
     by_cases hj:j<i.size
     ·rw[bH3 hj,bJ0]at hx e
      exact hy.2 _ x y hx e
     ·grind
    ·unfold part
     simp only[bI0,ad2 g,bH6,f,bO3,sizeOf,typeInfo,bP3,hi,bI5]
  |false=>
   simp only[f,bG9]at h;obtain⟨u,l,m⟩:=hy.get h;refine⟨u,m,fun w=>?_⟩
   unfold part;have:ys[off]? =some u:=by simpa using l
   simp only[bI0,ad2 g,bH6,f,bM3,bO2,this,bI5]
def ah8 (P:Program)(xt:TypeId)(x:Value)(f:Nat):Option Value:=
 match P.underlying xt with
 |some (.struct fs)=>match fs.toList[f]? with
  |some fd=>match x with
   | .agg cs=>U7 P fd.type cs.toList fd.offset
   |_=>none
  |none=>none
 |_=>none
variable {x y:Value}
theorem aM9   { e : TypeId}  {f : Nat}  (h : ah8 P  e x f = some v) (hy : VR σ x y) :
  ∃u,VR σ v u/\ ∀w,(Instr.field e y f).run P w= .ok u w:=by
 unfold ah8 at h;split at h
 ·rename_i fs j
  split at h
  ·rename_i fd hf
   split at h
   ·rename_i cs
    obtain⟨ds,rfl,g⟩:=VRL.of_agg hy;obtain⟨u,h1,h2⟩:=L9 h g;refine⟨u,h1,fun w=>?_⟩
    have d:fs[f]? =some fd:=by grind
    simp[Instr.field,bH5 j,d,asAgg,h2]
   ·cases h
  ·cases h
 ·cases h
def P1 (x:Value)(i:Nat):Option Value:=
 match x with
 | .tuple vs=>vs.toList[i]?
 |_=>none
theorem aB6    {i : Nat}  (h : P1 x i = some v) (hy : VR σ x y) :
  ∃u,VR σ v u/\ ∀w,(Instr.extract y i).run P w= .ok u w:=by
 unfold P1 at h;split at h
 ·rename_i vs
  obtain⟨ds,rfl,d⟩:=VRL.of_tuple hy;obtain⟨u,h1,h2⟩:=d.get h;refine⟨u,h2,fun w=>?_⟩
  have:ds[i]? =some u:=by simpa using h1
  simp[Instr.extract,this]
 ·cases h
def ac4 (P : Program) (xt : TypeId) (x i : Value) : Option Value :=
 match i with
 | .int _ n => match P.underlying xt, x with
  | some (.array len e), .agg cs => bif decide (0 ≤ n) && decide (n < len) then
    match P.info? e with
    |some ie=>U7 P e cs.toList (n.toNat*ie.size)
    |none=>none
   else none
  | some .string, .string s => bif decide (0 ≤ n) then
    match s.data.toList[n.toNat]? with
    |some b=>some (.int .u8 b.toNat)
    |none=>none
   else none
  |_,_=>none
 |_=>none
theorem aw1 (s:ByteArray)(i:Nat):s[i]? =s.data.toList[i]? :=by
 obtain⟨⟨l⟩⟩:=s;rw[getElem?_def]
 by_cases h:i<l.length
 ·have h1:i<(ByteArray.mk ⟨l⟩).size:=h
  rw[dif_pos h1];simp[h];rfl
 ·have h1:¬i<(ByteArray.mk ⟨l⟩).size:=h
  grind
theorem aN1   { g : TypeId} {i j:Value}  (h : ac4 P  g x i = some v) (hy : VR σ x y) (hj : VR σ i j) :
  ∃u,VR σ v u/\ ∀w,(Instr.index g y j).run P w= .ok u w:=by
 unfold ac4 at h;split at h
 ·rename_i k n
  cases hj;split at h
  ·rename_i len e cs f
   obtain⟨ds,rfl,l⟩:=VRL.of_agg hy;cases hb:decide (0<=n)&&decide (n<len)with
   |false=>grind
   |true=>
    simp only[hb,bG8]at h;simp only[bF2,bH2]at hb;split at h
    ·rename_i ie d
     obtain⟨u,h1,h2⟩:=L9 h l;refine⟨u,h1,fun w=>?_⟩
     simp[Instr.index,asIntOf,bH5 f,hb,sizeOf,typeInfo,d,h2]
    ·cases h
  ·rename_i s f
   cases hy;cases hb:decide (0<=n)with
   |false=>grind
   |true=>
    simp only[hb,bG8]at h;simp only[bH2]at hb;split at h
    ·rename_i b hs
     cases h;refine⟨_,.int _ _,fun w=>?_⟩
     have:s[n.toNat]? =some b:=by rw[aw1];exact hs
     simp[Instr.index,asIntOf,bH5 f,hb,this]
    ·cases h
  ·cases h
 ·cases h
def splice (cells:List Value)(off:Nat)(vs:List Value):List Value:=cells.take off++vs++cells.drop (off+vs.length)
def am3 (place:Nat->Option (Nat×Nat))(cells:List Value):List (Nat×Value)->Option (List Value)
 | []=>some cells
 | (i,v)::rest=>match place i with
  |none=>none
  |some (off,size)=>bif Nat.beq v.cells.toList.length size&&Nat.ble (off+size) cells.length then am3 place (splice cells off v.cells.toList) rest else none
theorem ar1 (off : Nat) : ∀ (vs : List Value) (k : Nat) (cs : Array Value), off + k + vs.length ≤ cs.size →
  ((vs.zipIdx k).foldl (fun(cs:Array Value) (p:Value×Nat)=>cs.setIfInBounds (off+p.2) p.1) cs).toList=splice cs.toList (off+k) vs
 | [],k,cs,h=>by simp[splice]
 |v::vs,k,cs,h=>by
  simp only[List.zipIdx_cons,List.foldl_cons];simp only[bJ4]at h;have d:=ar1 off vs (k+1) (cs.setIfInBounds (off+k) v) (by simp;omega)
  rw[d];unfold splice;have:=list_seg_step cs.toList (off+k) v vs (by simp;omega)
  grind
theorem VRL.splice {σ:Sg}{a b c d:List Value}(h:VRL σ a b)(k:VRL σ c d)(off:Nat):VRL σ (splice a off c) (Xe.splice b off d):=by
 unfold Xe.splice;have ht:VRL σ (a.take off) (b.take off):=⟨by simp[h.1],fun i x y hx hy=>by
  rw[bI4]at hx hy;split at hx
  ·rename_i hi;rw[bH3 hi]at hy;exact h.2 i x y hx hy
  ·cases hx⟩
 have e:VRL σ (a.drop (off+c.length)) (b.drop (off+d.length)):=by
  rw[k.1];exact⟨by simp[h.1],fun i x y hx hy=>by rw[bJ0]at hx hy;exact h.2 _ x y hx hy⟩
 exact(ht.append k).append e
def PVR (σ:Sg)(xs ys:List (Nat×Value)):Prop:=xs.length=ys.length/\ ∀(i:Nat) x y,xs[i]? =some x->ys[i]? =some y->x.1=y.1/\VR σ x.2 y.2
variable {xs ys:List (Nat×Value)}
theorem PVR.uncons {x:Nat×Value}(h:PVR σ (x::xs) ys):∃u d,ys=(x.1,u)::d/\VR σ x.2 u/\PVR σ xs d:=by
 cases ys with
 |nil=>exact absurd h.1 (by simp)
 |cons y ys=>
  have h0:=h.2 0 x y rfl rfl;exact⟨y.2,ys,by rw[h0.1],h0.2,by have:=h.1;simpa using this,fun i a b e hb=>h.2 (i+1) a b (by simpa using e) (by simpa using hb)⟩
theorem PVR.unnil (h:PVR σ [] ys):ys=[]:=bF7 h.1.symm
theorem ac2  (place : Nat → Option (Nat × Nat)) : ∀ (xs : List (Nat × Value)) (ys : List (Nat × Value)) (cells r : List Value) (cs : Array Value),
  am3 place cells xs=some r->PVR σ xs ys->VRL σ cells cs.toList-> ∃ds,Instr.fill place cs ys=some ds/\VRL σ r ds.toList:=by
 intro xs
 induction xs with
 |nil=>intro ys cells r cs h hp hc;rw[hp.unnil];simp[am3]at h;subst h;exact⟨cs,rfl,hc⟩
 |cons x xs q=>
  intro ys cells r cs h hp hc;obtain⟨u,g,rfl,o,hp'⟩:=hp.uncons;obtain⟨i,v⟩:=x;simp only[am3]at h;simp only[Instr.fill];cases f:place i with
  |none=>grind
  |some os=>
   obtain⟨off,size⟩:=os;simp only[f]at h⊢;cases hb:Nat.beq v.cells.toList.length size&&Nat.ble (off+size) cells.length with
   |false=>grind
   |true=>
    simp only[hb,bG8]at h;simp only[bF2]at hb;have j:v.cells.toList.length=size:=bF6 hb.1;have s:off+size<=cells.length:=bF5 hb.2;have d:=o.cells;have l:u.cells.size=size:=by rw[<-j,d.1];simp
    have m:off+u.cells.size<=cs.size:=by rw[l];have:=hc.1;simp at this;omega
    have e:¬(decide (u.cells.size≠size)||decide (off+u.cells.size>cs.size))=true:=by grind
    rw[bH1 e];have hf:(u.cells.zipIdx.foldl (fun(cs:Array Value) (p:Value×Nat)=>cs.setIfInBounds (off+p.2) p.1) cs).toList=splice cs.toList off u.cells.toList:=by
     rw[<-Array.foldl_toList,Array.toList_zipIdx];exact ar1 off u.cells.toList 0 cs (by simpa using m)
    refine q g _ r _ h hp' ?_;rw[hf];exact hc.splice d off
def X7 (P:Program):List Field->Option (List (Nat×Nat))
 | []=>some []
 |f::fs=>match P.info? f.type with
  |some i=>match X7 P fs with
   |some r=>some ((f.offset,i.size)::r)
   |none=>none
  |none=>none
theorem az3 {P : Program} (w : World) : ∀ {fs : List Field} {r : List (Nat × Nat)}, X7 P fs = some r →
  (fs.mapM fun f=>do pure (f.offset,<-sizeOf f.type):Sem (List (Nat×Nat))).run P w= .ok r w
 | [],r,h=>by simp[X7]at h;subst h;simp
 |f::fs,r,h=>by
  simp only[X7]at h;cases hi:P.info? f.type with
  |none=>grind
  |some i=>
   cases hr:X7 P fs with
   |none=>grind
   |some e=>
    simp[hi,hr]at h;subst h;have d:=az3 (P:=P) w hr;have hs:(sizeOf f.type).run P w= .ok i.size w:=by simp[sizeOf,typeInfo,hi]
    simp_all
def E9 (P:Program)(t:TypeId):Option Value:=match P.info? t with
 |some i=>match i.zero with
  |some z=>bif cst z then some z else none
  |none=>none
 |none=>none
theorem E2 {t:TypeId}{z:Value}(h:E9 P t=some z):cst z=true/\ ∀w,(zeroValue t).run P w= .ok z w:=by
 unfold E9 at h;split at h
 ·rename_i i hi
  split at h
  ·rename_i d hz
   cases hc:cst d with
   |false=>grind
   |true=>
    simp only[hc,bG8,bF1]at h;subst h;exact⟨hc,fun w=>by simp[zeroValue,typeInfo,hi,hz]⟩
  ·cases h
 ·cases h
def ah5 (P:Program)(t:TypeId)(parts:List (Nat×Value)):Option Value:=
 match E9 P t with
 |none=>none
 |some z=>match P.underlying t with
  |some (.struct fs)=>match X7 P fs.toList with
   |some pl=>match am3 (fun i=>pl[i]?) z.cells.toList parts with
    |some cs=>some (.agg cs.toArray)
    |none=>none
   |none=>none
  |some (.array _ e)=>match P.info? e with
   |some ie=>match am3 (fun i=>some (i*ie.size,ie.size)) z.cells.toList parts with
    |some cs=>some (.agg cs.toArray)
    |none=>none
   |none=>none
  |_=>none
theorem aM6   {t : TypeId}  {ys : Array (Nat × Value)}  (h : ah5 P t xs = some v) (hy : PVR σ xs ys.toList) :
  ∃u,VR σ v u/\ ∀w,(Instr.build t ys).run P w= .ok u w:=by
 unfold ah5 at h;split at h
 ·cases h
 ·rename_i z hz
  obtain⟨hc,d⟩:=E2 hz;have g:=(M2 σ hc).cells;split at h
  ·rename_i fs q
   split at h
   ·rename_i pl m
    split at h
    ·rename_i cs hf
     cases h;obtain⟨ds,h1,h2⟩:=ac2 (σ:=σ) _ _ _ _ _ _ hf hy g;refine⟨.agg ds,by have:=h2.to_agg;simpa using this,fun w=>?_⟩
     have o:=az3 (P:=P) w m;have hm:(fs.mapM fun f=>do pure (f.offset,<-sizeOf f.type):Sem (Array (Nat×Nat))).run P w= .ok pl.toArray w:=by
      rw[Array.mapM_eq_mapM_toList,Sem.run_map,o];rfl
     have j:(fun x:Nat=>pl.toArray[x]?)=fun i:Nat=>pl[i]? :=by grind
     unfold Instr.build;simp only[bI0,d,bH6,bH5 q,hm,j,h1,bI5]
    ·cases h
   ·cases h
  ·rename_i n e q
   split at h
   ·rename_i ie l
    split at h
    ·rename_i cs hf
     cases h;obtain⟨ds,h1,h2⟩:=ac2 (σ:=σ) _ _ _ _ _ _ hf hy g;refine⟨.agg ds,by have:=h2.to_agg;simpa using this,fun w=>?_⟩
     simp[Instr.build,d,bH5 q,sizeOf,typeInfo,l,h1]
    ·cases h
   ·cases h
  ·cases h
end Go.Xe
end PartXm4
noncomputable section PartXm5
namespace Go.Xe
open Go.RowKit
def I3 (x:Value):Option (IntKind×Nat×Nat):=
 match x with
 | .complex f lo hi=>some (O1 f lo,V6 lo,hi)
 | .int k (.ofNat n)=>some (k,n,n+1)
 |_=>none
variable {σ:Sg}{x x':Value}{k:IntKind}
theorem M8    {lo hi : Nat} (h : I3 x = some (k, lo, hi)) (hx : VR σ x x') :
  ∃n:Nat,x'= .int k n/\lo<=n/\(hi=0\/n<hi):=by
 unfold I3 at h;split at h
 ·simp only[bF1,bF3]at h
  obtain⟨rfl,rfl,rfl⟩:=h;cases hx with
  |ival _ _ _ n h1 h2=>grind
 ·rename_i k n
  simp only[bF1,bF3]at h;obtain⟨rfl,rfl,rfl⟩:=h;cases hx
  grind
 ·cases h
def Q1 (a b:Nat×Nat):Option Bool:=
 bif !(Nat.beq a.2 0)&&Nat.ble a.2 b.1 then some true else bif !(Nat.beq b.2 0)&&Nat.ble b.2 (a.1+1)then some false else none
theorem Q2 {a b:Nat×Nat}{r:Bool}(h:Q1 a b=some r){n m:Nat}(h1:a.1<=n)(h2:a.2=0\/n<a.2)(h3:b.1<=m)(h4:b.2=0\/m<b.2):r=decide ((n:Int)<(m:Int)):=by
 unfold Q1 at h;cases hb: !(Nat.beq a.2 0)&&Nat.ble a.2 b.1 with
 |true=>
  rw[hb,bG8]at h;simp only[bF2]at hb;have:=bF5 hb.2;have h0:a.2≠0:=fun e=>by rw[e]at hb;simp at hb
  cases h
  grind
 |false=>
  rw[hb,bG9]at h;cases hc: !(Nat.beq b.2 0)&&Nat.ble b.2 (a.1+1)with
  |true=>
   rw[hc,bG8]at h;simp only[bF2]at hc;have:=bF5 hc.2;have h0:b.2≠0:=fun e=>by rw[e]at hc;simp at hc
   cases h
   grind
  |false=>grind
def V4 (a b:Nat×Nat):Bool:=
 match Q1 a b with
 |some true=>true
 |_=>match Q1 b a with
  |some true=>true
  |_=>false
def ieqF (x y:Value):Option Bool:=
 match I3 x,I3 y with
 |some (k,a),some (k',b)=>bif decide (k=k')&&V4 a b then some false else none
 |_,_=>none
variable {y y':Value}
theorem ax4 {b:Bool}(h:ieqF x y=some b)(hx:VR σ x x')(hy:VR σ y y'):b=false/\ ∃k n m,x'= .int k n/\y'= .int k m/\n≠m:=by
 unfold ieqF at h;split at h
 ·rename_i k a k' c t hc
  obtain⟨o,q⟩:=a;obtain⟨r,s⟩:=c;obtain⟨n,rfl,j,l⟩:=M8 t hx;obtain⟨m,rfl,f,g⟩:=M8 hc hy;cases hk:decide (k=k')&&V4 (o,q) (r,s)with
  |false=>grind
  |true=>
   rw[hk,bG8,bF1]at h;simp only[bF2,bH2]at hk;obtain⟨rfl,d⟩:=hk;refine⟨h.symm,k,n,m,rfl,rfl,?_⟩;unfold V4 at d;split at d
   ·rename_i e;have:=Q2 e j l f g;simp at this;omega
   ·split at d
    ·rename_i e;have:=Q2 e f g j l;simp at this;omega
    ·cases d
 ·cases h
def aB5 (P:Program)(eq:TypeId->Value->Value->Option Bool)(xs ys:List Value):List Field->Option Bool
 | []=>some true
 |f::fs=>bif f.name== "_" then aB5 P eq xs ys fs else
  match U7 P f.type xs f.offset,U7 P f.type ys f.offset with
  |some a,some b=>match eq f.type a b with
   |some true=>aB5 P eq xs ys fs
   |some false=>some false
   |none=>none
  |_,_=>none
def xeq (P : Program) : Nat → TypeId → Value → Value → Option Bool
 |0,_,_,_=>none
 | d + 1, t, x, y => match P.underlying t, x, y with
  |some .bool,.bool a,.bool b=>some (a==b)
  |some (.int _),.int k a,.int k' b=>bif decide (k=k')then some (decide (a=b))else none
  |some (.int _),.complex f lo hi,.int k a=>ieqF (.complex f lo hi) (.int k a)
  |some (.int _),.int k a,.complex f lo hi=>ieqF (.int k a) (.complex f lo hi)
  |some .string,.string a,.string b=>some (a.data.toList==b.data.toList)
  |some (.pointer _),.pointer none,.pointer b=>some b.isNone
  |some (.pointer _),.pointer (some _),.pointer none=>some false
  | some (.pointer e), .pointer (some a), .pointer (some b) => bif Nat.beq a.block b.block then
    match P.info? e with
    |some ie=>bif Nat.beq ie.size 0 then none else some (Nat.beq a.off b.off)
    |none=>none
   else none
  |some (.struct fs),.agg xs,.agg ys=>bif P.stoodInHeld t then none else aB5 P (xeq P d) xs.toList ys.toList fs.toList
  |some (.slice _),.slice none _ _,.slice b _ _=>some b.isNone
  |some (.slice _),.slice (some _) _ _,.slice none _ _=>some false
  |some (.map _ _),.map none,.map b=>some b.isNone
  |some (.map _ _),.map (some _),.map none=>some false
  |some (.func _ _ _),.nilFunc,.nilFunc=>some true
  |some (.func _ _ _),.nilFunc,.func _ _ _=>some false
  |some (.func _ _ _),.func _ _ _,.nilFunc=>some false
  |some (.interface _),.nilIface,.iface _ _=>some false
  |some (.interface _),.iface _ _,.nilIface=>some false
  | some (.interface _), .iface tx vx, .iface ty vy => bif decide (tx = ty) then
    match P.info? tx with
    |some i=>bif i.comparable then xeq P d tx vx vy else none
    |none=>none
   else some false
  |_,_,_=>none
theorem ah7 {P : Program} {σ : Sg} {d : Nat} {eq : TypeId → Value → Value → Option Bool}
  (hq:∀t x y b,eq t x y=some b-> ∀x' y',VR σ x x'->VR σ y y'-> ∀w,(Op.equalIn d t x' y').run P w= .ok b w)
  {xs ys:List Value} {j l:Array Value} (hx:VRL σ xs j.toList) (hy:VRL σ ys l.toList) (w:World):
  ∀ {fs:List Field} {b:Bool},aB5 P eq xs ys fs=some b->(Op.eqFields d j l fs).run P w= .ok b w
 | [],b,h=>by simp[aB5]at h;subst h;simp[Op.eqFields]
 |f::fs,b,h=>by
  simp only[aB5]at h
  by_cases hn:f.name= "_"
  ·have:(f.name== "_")=true:=by simpa using hn
   rw[this,bG8]at h;simp only[Op.eqFields,hn,ne_eq,not_true_eq_false,bO2];exact ah7 hq hx hy w h
  ·have:(f.name== "_")=false:=by simpa using hn
   rw[this,bG9]at h;split at h
   ·rename_i a c q hc
    obtain⟨a',e,m⟩:=L9 q hx;obtain⟨c',g,o⟩:=L9 hc hy;simp only[Op.eqFields,ne_eq,hn,bK7,bO3,bI0,m,o,bH6];split at h
    ·rename_i he
     rw[hq _ _ _ _ he _ _ e g w];simp only[bH6,Bool.not_true,bM3,bO2];exact ah7 hq hx hy w h
    ·rename_i he
     rw[hq _ _ _ _ he _ _ e g w];cases h
     simp_all
    ·cases h
   ·cases h
variable {P:Program}
theorem ap8   : ∀ (d : Nat) (t : TypeId) (x y : Value) (b : Bool), xeq P d t x y = some b → ∀ x' y', VR σ x x' → VR σ y y' →
  ∀w,(Op.equalIn d t x' y').run P w= .ok b w:=by
 intro d
 induction d with
 |zero=>intro t x y b h;simp[xeq]at h
 |succ d N=>
  intro t x y b h x' y' hx hy w;simp only[xeq]at h;split at h
  ·rename_i a c f;cases hx;cases hy;simp only[bF1]at h;subst h;simp[Op.equalIn,bH5 f]
  ·rename_i k k' a J c f
   cases hx;cases hy;cases hk:decide (k'=J)with
   |false=>rw[hk]at h;cases h
   |true=>
    rw[hk]at h;simp only[bH2]at hk;subst hk;simp only[bG8,bF1]at h;subst h;rw[run_equalIn_int w d t _ _ _ _ f]
    congr 1
  ·rename_i f
   obtain⟨rfl,k,n,m,rfl,rfl,A⟩:=ax4 h hx hy;rw[run_equalIn_int w d t _ _ _ _ f];simp[A]
  ·rename_i f
   obtain⟨rfl,k,n,m,rfl,rfl,A⟩:=ax4 h hx hy;rw[run_equalIn_int w d t _ _ _ _ f];simp[A]
  ·rename_i a c f;cases hx;cases hy;simp only[bF1]at h;subst h
   rw[run_equalIn_string w d t _ _ f,bP4,bP4]
  ·rename_i e c f;simp only[bF1]at h;subst h
   cases hx;have hn:∃c',y'= .pointer c'/\c'.isNone=c.isNone:=by cases hy<;>exact⟨_,rfl,rfl⟩
   obtain⟨c',rfl,hn⟩:=hn;simp[Op.equalIn,bH5 f,hn]
  ·rename_i e c f;simp only[bF1]at h;subst h
   cases hx;cases hy;simp[Op.equalIn,bH5 f]
  ·rename_i e a c f
   cases hx with
   |ptr i o p hp=>
   cases hy with
   |ptr j q r hr=>
   simp only at h;cases g:Nat.beq i j with
   |false=>rw[g]at h;cases h
   |true=>
    rw[g]at h;have g:=bF6 g;subst g;have D:p=r:=bH7 (hp.symm.trans hr);subst D;simp only[bG8]at h;split at h
    ·rename_i ie C
     cases hz:Nat.beq ie.size 0 with
     |true=>rw[hz]at h;cases h
     |false=>
      rw[hz]at h;simp only[bG9,bF1]at h;subst h;have I:ie.size≠0:=fun e=>by rw[e]at hz;cases hz
      simp only[Op.equalIn,bI0,bH5 f,bH6,sizeOf,typeInfo,bP3,C,bI5,ne_eq,I,bK7,bO3,sameAddr,beq_self_eq_true]
      congr 1
      by_cases e:o=q
      ·subst e;rw[j9 rfl];simp
      ·rw[m8 e]
       simp
    ·cases h
  ·rename_i fs xs ys f
   cases hs:P.stoodInHeld t with
   |true=>rw[hs]at h;cases h
   |false=>
    rw[hs,bG9]at h;obtain⟨K,rfl,G⟩:=VRL.of_agg hx;obtain⟨L,rfl,H⟩:=VRL.of_agg hy;have hf:P.fieldsOf t=fs:=by simp[Program.fieldsOf,f]
    rw[run_equalIn_struct w d t K L (by rw[hf];exact f) hs,hf]
    exact ah7 (fun t x y b hb x' y' h1 h2 w=>N t x y b hb x' y' h1 h2 w) G H w h
  ·rename_i e l c b' l' c' f;simp only[bF1]at h;subst h
   cases hx;have hn:∃s O M,y'= .slice s O M/\s.isNone=b'.isNone:=by cases hy<;>exact⟨_,_,_,rfl,rfl⟩
   obtain⟨s,O,M,rfl,hn⟩:=hn;simp[Op.equalIn,bH5 f,hn]
  ·rename_i e a l c l' c' f;simp only[bF1]at h;subst h
   cases hx<;>cases hy<;>simp[Op.equalIn,bH5 f]
  ·rename_i k e b' f;simp only[bF1]at h;subst h
   cases hx;have hn:∃s,y'= .map s/\s.isNone=b'.isNone:=by cases hy<;>exact⟨_,rfl,rfl⟩
   obtain⟨s,rfl,hn⟩:=hn;simp[Op.equalIn,bH5 f,hn]
  ·rename_i k e a f;simp only[bF1]at h;subst h
   cases hx;cases hy;simp[Op.equalIn,bH5 f]
  ·rename_i f;simp only[bF1]at h;subst h;cases hx;cases hy;simp[Op.equalIn,bH5 f]
  ·rename_i f;simp only[bF1]at h;subst h;cases hx;cases hy;simp[Op.equalIn,bH5 f]
  ·rename_i f;simp only[bF1]at h;subst h;cases hx;cases hy;simp[Op.equalIn,bH5 f]
  ·rename_i f;simp only[bF1]at h;subst h;cases hx;cases hy;simp[Op.equalIn,bH5 f]
  ·rename_i f;simp only[bF1]at h;subst h;cases hx;cases hy;simp[Op.equalIn,bH5 f]
  ·rename_i U Q vx ty T f
   cases hx with
   |iface _ _ R E=>
   cases hy with
   |iface _ _ S F=>
   cases ht:decide (Q=ty)with
   |false=>
    rw[ht]at h;simp only[bG9,bF1]at h;subst h;simp only[bJ9]at ht;simp[Op.equalIn,bH5 f,ht]
   |true=>
    rw[ht]at h;simp only[bH2]at ht;subst ht;simp only[bG8]at h;split at h
    ·rename_i i hi
     cases hc:i.comparable with
     |false=>rw[hc]at h;cases h
     |true=>
      rw[hc,bG8]at h;have:=N Q vx T b h R S E F w;simp[Op.equalIn,bH5 f,typeInfo,hi,hc,this]
    ·cases h
  ·cases h
def ah6 (op:BinOp)(a b:Int):Option Value:=
 match op with
 | .eql=>some (.bool (decide (a=b)))
 | .neq=>some (.bool (!decide (a=b)))
 | .lss=>some (.bool (decide (a<b)))
 | .leq=>some (.bool (decide (a<=b)))
 | .gtr=>some (.bool (decide (b<a)))
 | .geq=>some (.bool (decide (b<=a)))
 |_=>none
def w9 (op:BinOp)(k:IntKind)(a b:Int):Option Value:=
 match op with
 | .add=>some (.int k (k.wrap (a+b)))
 | .sub=>some (.int k (k.wrap (a-b)))
 | .mul=>some (.int k (k.wrap (a*b)))
 | .quo=>bif decide (b=0)then none else some (.int k (k.wrap (a.tdiv b)))
 | .rem=>bif decide (b=0)then none else some (.int k (a.tmod b))
 | .and| .or| .xor| .andNot=>some (.int k (bits op k a b))
 |_=>ah6 op a b
def aq4 (op:BinOp)(k:IntKind)(a b:Int):Option Value:=
 bif decide (b<0)then none else
 match op with
 | .shl=>some (.int k (k.wrap (a*2^(min b.toNat k.bits))))
 | .shr=>some (.int k (a.fdiv (2^(min b.toNat k.bits))))
 |_=>none
def by5 (op:BinOp)(a b:ByteArray):Option Value:=
 match op with
 | .add=>bif Nat.ble (a.data.toList.length+b.data.toList.length) 1000000000 then some (.string ⟨(a.data.toList++b.data.toList).toArray⟩)else none
 | .eql=>some (.bool (a.data.toList==b.data.toList))
 | .neq=>some (.bool (!(a.data.toList==b.data.toList)))
 | .lss=>some (.bool (Op.bytesLess a.data.toList b.data.toList))
 | .leq=>some (.bool (Op.bytesLess a.data.toList b.data.toList||a.data.toList==b.data.toList))
 | .gtr=>some (.bool (!(Op.bytesLess a.data.toList b.data.toList||a.data.toList==b.data.toList)))
 | .geq=>some (.bool (!Op.bytesLess a.data.toList b.data.toList))
 |_=>none
def F5 (P:Program)(t:TypeId):Value->Bool
 | .agg _=> !P.eqGuardType P.depth t
 | .nilIface=>false
 | .complex _ _ _=>false
 | .float _ _=>false
 |_=>true
def W8 (P:Program)(op:BinOp)(t:TypeId)(x y:Value):Option Value:=
 match x,y with
 | .int k a,.int k' b=>match op with
  | .shl| .shr=>aq4 op k a b
  |_=>bif decide (k=k')then w9 op k a b else none
 | .string a,.string b=>by5 op a b
 |_,.complex _ _ _=>none
 |x,y=>match op with
  | .eql=>bif F5 P t x then match xeq P 10000 t x y with
   |some b=>some (.bool b)
   |none=>none else none
  | .neq=>bif F5 P t x then match xeq P 10000 t x y with
   |some b=>some (.bool (!b))
   |none=>none else none
  |_=>none
variable {op:BinOp}{a b:Int}{v:Value}
theorem K8 (h:ah6 op a b=some v):VR σ v v/\ ∀w,(Op.intCmp op a b).run P w= .ok v w:=by
 cases op<;>simp only[ah6,bF1,reduceCtorEq]at h<;>subst h<;>refine⟨.bool _,fun w=>?_⟩<;>simp[Op.intCmp]<;>by_cases e:a=b<;>simp[e]
theorem aM4       (h : w9 op k a b = some v) (h1 : op ≠ .shl) (h2 : op ≠ .shr) (t : TypeId) :
  VR σ v v/\ ∀w,(binOp op t (.int k a) (.int k b)).run P w= .ok v w:=by
 cases op
 case shl=>exact absurd rfl h1
 case shr=>exact absurd rfl h2
 case quo=>
  simp only[w9]at h;cases hb:decide (b=0)with
  |true=>grind
  |false=>
   rw[hb]at h;simp only[bJ9]at hb;simp only[bG9,bF1]at h;subst h;exact⟨.int _ _,fun w=>by simp[binOp_quo,Op.intDiv,hb]⟩
 case rem=>
  simp only[w9]at h;cases hb:decide (b=0)with
  |true=>grind
  |false=>
   rw[hb]at h;simp only[bJ9]at hb;simp only[bG9,bF1]at h;subst h;exact⟨.int _ _,fun w=>by simp[binOp_rem,Op.intDiv,hb]⟩
 case add=>simp only[w9,bF1]at h;subst h;exact⟨.int _ _,fun w=>by simp[binOp_add,Op.intArith]⟩
 case sub=>simp only[w9,bF1]at h;subst h;exact⟨.int _ _,fun w=>by simp[binOp_sub,Op.intArith]⟩
 case mul=>simp only[w9,bF1]at h;subst h;exact⟨.int _ _,fun w=>by simp[binOp_mul,Op.intArith]⟩
 case and=>simp only[w9,bF1]at h;subst h;exact⟨.int _ _,fun w=>by simp[binOp_and,intBits_and]⟩
 case or=>simp only[w9,bF1]at h;subst h;exact⟨.int _ _,fun w=>by simp[binOp_or,intBits_or]⟩
 case xor=>simp only[w9,bF1]at h;subst h;exact⟨.int _ _,fun w=>by simp[binOp_xor,intBits_xor]⟩
 case andNot=>simp only[w9,bF1]at h;subst h;exact⟨.int _ _,fun w=>by simp[binOp_andNot,intBits_andNot]⟩
 case eql=>
  obtain⟨h3,h4⟩:=K8 (σ:=σ) (P:=P) (op:= .eql) h;exact⟨h3,fun w=>by simpa [binOp]using h4 w⟩
 case neq=>
  obtain⟨h3,h4⟩:=K8 (σ:=σ) (P:=P) (op:= .neq) h;exact⟨h3,fun w=>by simpa [binOp]using h4 w⟩
 case lss=>
  obtain⟨h3,h4⟩:=K8 (σ:=σ) (P:=P) (op:= .lss) h;exact⟨h3,fun w=>by simpa [binOp]using h4 w⟩
 case leq=>
  obtain⟨h3,h4⟩:=K8 (σ:=σ) (P:=P) (op:= .leq) h;exact⟨h3,fun w=>by simpa [binOp]using h4 w⟩
 case gtr=>
  obtain⟨h3,h4⟩:=K8 (σ:=σ) (P:=P) (op:= .gtr) h;exact⟨h3,fun w=>by simpa [binOp]using h4 w⟩
 case geq=>
  obtain⟨h3,h4⟩:=K8 (σ:=σ) (P:=P) (op:= .geq) h;exact⟨h3,fun w=>by simpa [binOp]using h4 w⟩
theorem an0    {yk:IntKind}   (h : aq4 op k a b = some v) :
  VR σ v v/\ ∀w,(Op.shift op k a yk b).run P w= .ok v w:=by
 unfold aq4 at h;cases hb:decide (b<0)with
 |true=>grind
 |false=>
  rw[hb,bG9]at h;simp only[bJ9]at hb;split at h
  ·simp only[bF1]at h;subst h;exact⟨.int _ _,fun w=>by simp[Op.shift,hb]⟩
  ·simp only[bF1]at h;subst h;exact⟨.int _ _,fun w=>by simp[Op.shift,hb]⟩
  ·cases h
theorem an2 (a b:ByteArray):a++b=⟨(a.data.toList++b.data.toList).toArray⟩:=by
 apply ByteArray.ext
 simp_all
theorem bd2    {a b : ByteArray}  (h : by5 op a b = some v) :
  VR σ v v/\ ∀w,(Op.stringOp op a b).run P w= .ok v w:=by
 cases op<;>simp only[by5,bF1,reduceCtorEq]at h
 case add=>
  cases hb:Nat.ble (a.data.toList.length+b.data.toList.length) 1000000000 with
  |false=>grind
  |true=>
   rw[hb]at h;simp only[bG8,bF1]at h;subst h;have hb:=bF5 hb;have e:a.size=a.data.toList.length:=by simp
   have f:b.size=b.data.toList.length:=by simp
   have d:¬((a.size+b.size:Nat):Int)>IntKind.i64.max:=by rw[IntKind.max_i64,e,f];omega
   refine⟨.string _,fun w=>?_⟩
   simp only[Op.stringOp,bH1 d,bI5,an2]
 all_goals
  subst h;refine⟨.bool _,fun w=>?_⟩
  simp only[Op.stringOp,bP4,bI5]
theorem ah4    {t : TypeId}   (h : W8 P op t x y = some v) (hx : VR σ x x') (hy : VR σ y y') ( r  s : Operand) :
  VR σ v v/\ ∀w,((eqGuard op t r s x' y').run P w= .ok () w)/\(binOp op t x' y').run P w= .ok v w:=by
 unfold W8 at h;split at h
 ·rename_i k a k' b
  cases hx;cases hy;split at h
  ·obtain⟨h1,h2⟩:=an0 (σ:=σ) (P:=P) (yk:=k') h
   exact⟨h1,fun w=>⟨by rw[eqGuard_at_int];rfl,by rw[binOp_shl];exact h2 w⟩⟩
  ·obtain⟨h1,h2⟩:=an0 (σ:=σ) (P:=P) (yk:=k') h
   exact⟨h1,fun w=>⟨by rw[eqGuard_at_int];rfl,by rw[binOp_shr];exact h2 w⟩⟩
  ·rename_i j l
   cases hk:decide (k=k')with
   |false=>rw[hk]at h;cases h
   |true=>
    rw[hk]at h;simp only[bH2]at hk;subst hk;obtain⟨h1,h2⟩:=aM4 (σ:=σ) (P:=P) (show w9 op k a b=some v from h) j l t;exact⟨h1,fun w=>⟨by rw[eqGuard_at_int];rfl,h2 w⟩⟩
 ·rename_i a b
  cases hx;cases hy;obtain⟨h1,h2⟩:=bd2 (σ:=σ) (P:=P) h;exact⟨h1,fun w=>⟨by rw[eqGuard_at_string];rfl,by cases op<;>exact h2 w⟩⟩
 ·cases h
 ·rename_i   m   o   q
  have  e : F5 P t x = true → ∀ w, (eqGuard op t  r  s x' y').run P w = .ok () w := by
   intro e w;cases hx <;> first
    | (simp[F5]at e;done)
    | (simp only [F5, bJ7] at  e
       cases hy<;>first| (rw[run_eqGuard_agg (h:=w) _ _ _ _ _ _ e];done)| (exact run_eqGuard_agg w op t r s _ _ e)| (cases op<;>rfl))
    | (cases op<;>rfl)
  have f:∀b,xeq P 10000 t x y=some b-> ∀w,(Op.equal t x' y').run P w= .ok b w:=fun b hb w=>ap8 10000 t x y b hb x' y' hx hy w
  have   g : F5 P t x = true → (∀ w, (binOp .eql t x' y').run P w = (do pure (.bool (← Op.equal t x' y')) : Sem Value).run P w) ∧
    (∀w,(binOp .neq t x' y').run P w=(do pure (.bool (!(<-Op.equal t x' y'))):Sem Value).run P w):=by
   intro d
   constructor<;>intro w<;>cases hx<;>cases hy<;>first|rfl| (exact(o _ _ _ _ rfl rfl).elim)| (exact(q _ _ rfl rfl).elim)| (exact(m _ _ _ rfl).elim)| (simp[F5]at d)
  split at h
  ·cases d:F5 P t x with
   |false=>rw[d]at h;cases h
   |true=>
    rw[d,bG8]at h;split at h
    ·rename_i b hb
     simp only[bF1]at h;subst h;exact⟨.bool _,fun w=>⟨e d w,by rw[(g d).1 w];simp only[bI0,f b hb w,bH6,bI5]⟩⟩
    ·cases h
  ·cases d:F5 P t x with
   |false=>rw[d]at h;cases h
   |true=>
    rw[d,bG8]at h;split at h
    ·rename_i b hb
     simp only[bF1]at h;subst h;exact⟨.bool _,fun w=>⟨e d w,by rw[(g d).2 w];simp only[bI0,f b hb w,bH6,bI5]⟩⟩
    ·cases h
  ·cases h
end Go.Xe
end PartXm5
noncomputable section PartXm6
namespace Go.Xe
open Go.RowKit
def by4 (n:Int):Option Value:=some (.string (Utf8.encode n))
def ac1 (P:Program)(src dst:TypeId)(x:Value):Option Value:=
 match P.underlying src with
 |none=>none
 |some _=>match P.underlying dst,x with
  |some (.int k),.int _ n=>some (.int k (k.wrap n))
  |some .string,.string s=>some (.string s)
  |some .string,.int _ n=>by4 n
  |some (.int .i64),.complex _ lo hi=>bif Nat.ble 1 hi&&Nat.ble hi unk then some (.complex .f64 (V6 lo) hi)else none
  |some (.int .u64),.complex _ lo hi=>bif Nat.ble 1 hi&&Nat.ble hi unk then some (.complex .f32 (V6 lo+18446744073709551616) hi)else none
  |_,_=>none
variable {P:Program}{σ:Sg}{v x x':Value}
theorem aV4   {src dst : TypeId}  (h : ac1 P src dst x = some v) (hx : VR σ x x') :
  ∃u,VR σ v u/\ ∀w,(convert src dst x').run P w= .ok u w:=by
 unfold ac1 at h;split at h
 ·cases h
 ·rename_i d hs
  split at h
  ·rename_i k k' n e
   cases hx;simp only[bF1]at h;subst h;exact⟨_,.int _ _,fun w=>by simp[convert,bH5 hs,bH5 e,Conv.intToInt]⟩
  ·rename_i s e
   cases hx;simp only[bF1]at h;subst h;exact⟨_,.string _,fun w=>by simp[convert,bH5 hs,bH5 e]⟩
  ·rename_i k n e
   cases hx;unfold by4 at h;simp only[bF1]at h;subst h;exact⟨_,.string _,fun w=>by simp[convert,bH5 hs,bH5 e,Conv.intToString]⟩
  ·rename_i f lo hi e
   cases hb:Nat.ble 1 hi&&Nat.ble hi unk with
   |false=>grind
   |true=>
    rw[hb,bG8]at h;simp only[bF2]at hb;have j:=bF5 hb.1;have l:=bF5 hb.2;simp only[bF1]at h;subst h;cases hx with
    |ival _ _ _ n h1 h2=>
     have hn:n<unk:=by omega
     refine⟨_,.ival .f64 (V6 lo) hi n (bK9 (aK0 _) h1) h2,fun w=>?_⟩
     have g:IntKind.i64.wrap (n:Int)=n:=by rw[IntKind.wrap_i64];unfold unk at hn;omega
     simp[convert,bH5 hs,bH5 e,Conv.intToInt,g,O1,aP3]
  ·rename_i f lo hi e
   cases hb:Nat.ble 1 hi&&Nat.ble hi unk with
   |false=>grind
   |true=>
    rw[hb,bG8]at h;simp only[bF2]at hb;have j:=bF5 hb.1;have l:=bF5 hb.2;simp only[bF1]at h;subst h;cases hx with
    |ival _ _ _ n h1 h2=>
     have hn:n<unk:=by omega
     have m:V6 (V6 lo+18446744073709551616)=V6 lo:=by unfold V6;omega
     have o:O1 .f32 (V6 lo+18446744073709551616)= .u64:=by
      have:(V6 lo+18446744073709551616)/18446744073709551616=1:=by unfold V6;omega
      rw[O1,this,aP3]
     refine⟨_,.ival .f32 (V6 lo+18446744073709551616) hi n (by rw[m];exact h1) h2,fun w=>?_⟩
     have g:IntKind.u64.wrap (n:Int)=n:=by rw[IntKind.wrap_u64];unfold unk at hn;omega
     simp[convert,bH5 hs,bH5 e,Conv.intToInt,g,o]
  ·cases h
def xun (op:UnOp)(x:Value):Option Value:=
 match op,x with
 | .neg,.int k n=>some (.int k (k.wrap (0-n)))
 | .not,.bool b=>some (.bool (!b))
 |_,_=>none
theorem bo4   {op : UnOp}  (h : xun op x = some v) (hx : VR σ x x') :
  VR σ v v/\ ∀w,(Op.unary op x').run P w= .ok v w:=by
 unfold xun at h;split at h
 ·cases hx;simp only[bF1]at h;subst h;exact⟨.int _ _,fun w=>by simp[Op.unary,Op.intArith]⟩
 ·cases hx;simp only[bF1]at h;subst h;exact⟨.bool _,fun w=>by simp[Op.unary]⟩
 ·cases h
def ah9 (P:Program)(t:TypeId)(x:Value):Option Value:=
 match P.underlying t with
 |some (.interface _)=>none
 |some _=>some (.iface t x)
 |none=>none
theorem aN0   {t : TypeId}  (h : ah9 P t x = some v) (hx : VR σ x x') :
  ∃u,VR σ v u/\ ∀w,(Instr.makeInterface t x').run P w= .ok u w:=by
 unfold ah9 at h;split at h
 ·cases h
 ·rename_i d f e
  simp only[bF1]at h;subst h;refine⟨_,.iface t x x' hx,fun w=>?_⟩
  simp only[Instr.makeInterface,bI0,bH5 e,bH6]
  simp_all
 ·cases h
def G8 (P:Program)(s:TypeId)(x:Value)(f:Nat):Option Value:=
 match P.underlying s with
 |some (.struct fs)=>match fs.toList[f]? with
  |some fd=>match P.info? fd.type with
   |some i=>bif Nat.beq i.size 0 then none else
    match x with
    | .pointer (some ⟨b,o,none⟩)=>some (.pointer (some ⟨b,o+fd.offset,none⟩))
    |_=>none
   |none=>none
  |none=>none
 |_=>none
theorem ap9   {s : TypeId}  {f : Nat} (h : G8 P s x f = some v) (hx : VR σ x x') :
  ∃u,VR σ v u/\ ∀w,(Instr.fieldAt s x' f).run P w= .ok u w:=by
 unfold G8 at h;split at h
 ·rename_i fs j
  split at h
  ·rename_i fd hf
   split at h
   ·rename_i i hi
    cases hz:Nat.beq i.size 0 with
    |true=>grind
    |false=>
     rw[hz,bG9]at h;have g:i.size≠0:=fun e=>by rw[e]at hz;cases hz
     split at h
     ·rename_i b o
      simp only[bF1]at h;subst h;cases hx with
      |ptr _ _ p hp=>
      have d:fs[f]? =some fd:=by grind
      refine⟨_,.ptr b (o+fd.offset) p hp,fun w=>?_⟩
      simp[Instr.fieldAt,bH5 j,d,Instr.sureAddr,fieldPlace,sizeOf,typeInfo,hi,g,bO4,bL1]
     ·cases h
   ·cases h
  ·cases h
 ·cases h
def z5 (P:Program)(t:TypeId)(x ix:Value):Option Value:=
 match ix with
 | .int _ n=>match P.underlying t with
  |some (.slice e)=>match P.info? e with
   |some ie=>match x with
    | .slice (some ⟨b,o,none⟩) len _=>bif decide (0<=n)&&decide (n<len)then some (.pointer (some ⟨b,o+n.toNat*ie.size,none⟩))else none
    |_=>none
   |none=>none
  |some (.array len e)=>match P.info? e with
   |some ie=>match x with
    | .pointer (some ⟨b,o,none⟩)=>bif decide (0<=n)&&decide (n<len)then some (.pointer (some ⟨b,o+n.toNat*ie.size,none⟩))else none
    |_=>none
   |none=>none
  |_=>none
 |_=>none
theorem aq0   {t : TypeId} {i  g:Value} (h : z5 P t x i = some v) (hx : VR σ x x') (hi : VR σ i  g) :
  ∃u,VR σ v u/\ ∀w,(Instr.indexAt t x' g).run P w= .ok u w:=by
 unfold z5 at h;split at h
 ·rename_i k n
  cases hi;split at h
  ·rename_i e f
   split at h
   ·rename_i ie d
    split at h
    ·rename_i b o len c
     cases hx with
     |slice _ _ p _ _ c' hp hc hl=>
     cases hb:decide (0<=n)&&decide (n<len)with
     |false=>grind
     |true=>
      rw[hb,bG8]at h;simp only[bF2,bH2]at hb;simp only[bF1]at h;subst h;refine⟨_,.ptr b _ p hp,fun w=>?_⟩
      simp[Instr.indexAt,asIntOf,bH5 f,hb,sizeOf,typeInfo,d,bO4,bL1]
    ·cases h
   ·cases h
  ·rename_i len e f
   split at h
   ·rename_i ie d
    split at h
    ·rename_i b o
     cases hx with
     |ptr _ _ p hp=>
     cases hb:decide (0<=n)&&decide (n<len)with
     |false=>grind
     |true=>
      rw[hb,bG8]at h;simp only[bF2,bH2]at hb;simp only[bF1]at h;subst h;refine⟨_,.ptr b _ p hp,fun w=>?_⟩
      simp[Instr.indexAt,asIntOf,bH5 f,Instr.sureAddr,hb,sizeOf,typeInfo,d,bO4,bL1]
    ·cases h
   ·cases h
  ·cases h
 ·cases h
def at9 (P:Program)(t:TypeId)(x:Value):Option Value:=
 match P.underlying t,x with
 |some .string,.string s=>some (.int .i64 s.data.toList.length)
 |some (.array n _),_=>some (.int .i64 n)
 |some (.slice _),.slice _ n _=>some (.int .i64 n)
 |some (.map _ _),.map none=>some (.int .i64 0)
 |_,_=>none
theorem aC0   {t : TypeId}  (h : at9 P t x = some v) (hx : VR σ x x') (ty : TypeId) (ats : Array TypeId) (  d : ats[0]? = some t) :
  VR σ v v/\ ∀w,(Builtin.len_ ats ty #[x']).run P w= .ok v w:=by
 unfold at9 at h;split at h
 ·rename_i s f
  cases hx;simp only[bF1]at h;subst h;refine⟨.int _ _,fun w=>?_⟩
  simp[Builtin.len_,d,bH5 f,goInt]
 ·rename_i n e f
  simp only[bF1]at h;subst h;refine⟨.int _ _,fun w=>?_⟩
  simp[Builtin.len_,d,bH5 f,goInt]
 ·rename_i e b n c f
  simp only[bF1]at h;subst h;refine⟨.int _ _,fun w=>?_⟩
  cases hx<;>simp[Builtin.len_,d,bH5 f,goInt]
 ·rename_i k e f
  simp only[bF1]at h;subst h;refine⟨.int _ _,fun w=>?_⟩
  cases hx;simp[Builtin.len_,d,bH5 f,goInt]
 ·cases h
def am0 (P:Program)(t:TypeId)(x:Value):Option Value:=
 match P.underlying t,x with
 |some (.slice _),.slice none _ c=>some (.int .i64 c)
 |some (.slice _),.slice (some _) n c=>bif Nat.ble unk c then some (.complex .f64 (Nat.max (F7 c) n) (z7 c))else some (.int .i64 c)
 |some (.array n _),_=>some (.int .i64 n)
 |_,_=>none
theorem bc2   {t : TypeId}  (h : am0 P t x = some v) (hx : VR σ x x') (ty : TypeId) (ats : Array TypeId) (  d : ats[0]? = some t) :
  ∃u,VR σ v u/\ ∀w,(Builtin.cap_ ats ty #[x']).run P w= .ok u w:=by
 unfold am0 at h;split at h
 ·rename_i e n c g
  simp only[bF1]at h;subst h;cases hx;refine⟨_,.int _ _,fun w=>?_⟩
  simp[Builtin.cap_,d,bH5 g,goInt]
 ·rename_i e b n c g
  have run:∀b' n' c' w,(Builtin.cap_ ats ty #[.slice b' n' c']).run P w= .ok (.int .i64 c') w:=fun b' n' c' w=>by simp[Builtin.cap_,d,bH5 g,goInt]
  cases hc:Nat.ble unk c with
  |true=>
   rw[hc,bG8]at h;simp only[bF1]at h;subst h;have hc:=bF5 hc;cases hx with
   |slice i o p _ _ c' hp f hl=>
    rcases f with⟨_,h2⟩| ⟨_,h2,h3,_⟩
    ·omega
    ·exact⟨_,.ival .f64 _ _ c' (bK9 (aK0 _) (Nat.max_le.2 ⟨h2,hl⟩)) h3,run _ _ _⟩
   |vague q c'=>exact⟨_,.ival .f64 _ _ c' (bK9 (aK0 _) (Nat.max_le.2 ⟨by rw[bE8];exact bO6 _,bO6 _⟩)) (.inl bE7),run _ _ _⟩
  |false=>
   rw[hc,bG9]at h;simp only[bF1]at h;subst h;have j:¬unk<=c:=fun h=>by rw[bF8 h]at hc;cases hc
   cases hx with
   |slice i o p _ _ c' hp f hl=>
    rcases f with⟨rfl,_⟩| ⟨h1,_⟩
    ·exact⟨_,.int _ _,run _ _ _⟩
    ·grind
   |vague q c'=>grind
 ·rename_i n e g
  simp only[bF1]at h;subst h;refine⟨_,.int _ _,fun w=>?_⟩
  simp[Builtin.cap_,d,bH5 g,goInt]
 ·cases h
def bq6 (op:BinOp)(a b:Nat×Nat):Option Value:=
 match op with
 | .lss=>(Q1 a b).map .bool
 | .gtr=>(Q1 b a).map .bool
 | .leq=>(Q1 b a).map fun r=>.bool (!r)
 | .geq=>(Q1 a b).map fun r=>.bool (!r)
 | .eql=>bif V4 a b then some (.bool false)else none
 | .neq=>bif V4 a b then some (.bool true)else none
 |_=>none
def irem (op:BinOp)(x y:Value):Option Value:=
 match op,x,y with
 | .rem,.complex f lo _,.int k (.ofNat c)=>bif decide (O1 f lo=k)&&Nat.ble 1 c then some (.complex f (lo/18446744073709551616*18446744073709551616) c)else none
 |_,_,_=>none
def aU8 (op:BinOp)(x y:Value):Option Value:=
 match I3 x,I3 y with
 |some (k,a),some (k',b)=>bif decide (k=k')then bq6 op a b else none
 |_,_=>none
variable {op:BinOp}
theorem K6    {t : TypeId} {k : IntKind} {n m : Nat} {r : Bool} (h : ah6 op (n : Int) (m : Int) = some (.bool r)) (h1 : op ≠ .shl) (h2 : op ≠ .shr) (hx : w9 op k (n : Int) (m : Int) = ah6 op (n : Int) (m : Int)) ( d  e : Operand) :
  ∃u,VR σ (.bool r) u/\ ∀w,((eqGuard op t d e (.int k n) (.int k m)).run P w= .ok () w)/\(binOp op t (.int k n) (.int k m)).run P w= .ok u w:=by
 have hb:W8 P op t (.int k n) (.int k m)=some (.bool r):=by
  have:=hx.trans h;cases op<;>first|exact absurd rfl h1|exact absurd rfl h2| (simp only[W8,bK8,bG8];exact this)
 obtain⟨f,g⟩:=ah4 (σ:=σ) hb (.int k n) (.int k m) d e
 grind
variable {y y':Value}
theorem aU9    {t : TypeId}   (h : aU8 op x y = some v) (hx : VR σ x x') (hy : VR σ y y') ( d  e : Operand) :
  ∃u,VR σ v u/\ ∀w,((eqGuard op t d e x' y').run P w= .ok () w)/\(binOp op t x' y').run P w= .ok u w:=by
 have D:∀(f:IntKind) (a b:Nat×Nat),I3 x=some (f,a)->I3 y=some (f,b)->bq6 op a b=some v-> ∃u,VR σ v u/\ ∀w,((eqGuard op t d e x' y').run P w= .ok () w)/\(binOp op t x' y').run P w= .ok u w:=by
  intro f a b H hb h;obtain⟨g,j⟩:=a;obtain⟨l,o⟩:=b;obtain⟨n,rfl,E,F⟩:=M8 H hx;obtain⟨m,rfl,A,C⟩:=M8 hb hy;have lt:∀r,Q1 (g,j) (l,o)=some r->r=decide ((n:Int)<(m:Int)):=fun r hr=>Q2 hr E F A C
  have s:∀r,Q1 (l,o) (g,j)=some r->r=decide ((m:Int)<(n:Int)):=fun r hr=>Q2 hr A C E F
  have G:V4 (g,j) (l,o)=true->(n:Int)≠m:=by
   intro q;unfold V4 at q
   grind
  unfold bq6 at h;cases op
  case lss=>
   simp only[bN5]at h;obtain⟨r,hr,rfl⟩:=h;exact K6 (by rw[lt r hr];rfl) (by simp) (by simp) rfl d e
  case gtr=>
   simp only[bN5]at h;obtain⟨r,hr,rfl⟩:=h;exact K6 (by rw[s r hr];rfl) (by simp) (by simp) rfl d e
  case leq=>
   simp only[bN5]at h;obtain⟨r,hr,rfl⟩:=h;refine K6 ?_ (by simp) (by simp) rfl d e
   rw[s r hr];simp only[ah6]
   congr 2
   grind
  case geq=>
   simp only[bN5]at h;obtain⟨r,hr,rfl⟩:=h;refine K6 ?_ (by simp) (by simp) rfl d e
   rw[lt r hr];simp only[ah6]
   congr 2
   grind
  case eql=>
   cases hp:V4 (g,j) (l,o)with
   |false=>grind
   |true=>
    simp only[hp,bG8,bF1]at h;subst h;exact K6 (by have:=G hp;simp[ah6];omega) (by simp) (by simp) rfl d e
  case neq=>
   cases hp:V4 (g,j) (l,o)with
   |false=>grind
   |true=>
    simp only[hp,bG8,bF1]at h;subst h;exact K6 (by have:=G hp;simp[ah6];omega) (by simp) (by simp) rfl d e
  all_goals cases h
 unfold aU8 at h
 grind
theorem aX7    {t : TypeId}   (h : irem op x y = some v) (hx : VR σ x x') (hy : VR σ y y') ( e  g : Operand) :
  ∃u,VR σ v u/\ ∀w,((eqGuard op t e g x' y').run P w= .ok () w)/\(binOp op t x' y').run P w= .ok u w:=by
 unfold irem at h;split at h
 ·rename_i f lo hi k c
  cases hb:decide (O1 f lo=k)&&Nat.ble 1 c with
  |false=>grind
  |true=>
   rw[hb,bG8,bF1]at h;subst h;simp only[bF2,bH2]at hb;obtain⟨rfl,hc⟩:=hb;have hc:=bF5 hc;cases hx with
   |ival _ _ _ n h1 h2=>
   cases hy;have hx:W8 P .rem t (.int (O1 f lo) n) (.int (O1 f lo) (Int.ofNat c))=some (.int (O1 f lo) ((n:Int).tmod (Int.ofNat c))):=by
    have d:decide (Int.ofNat c=0)=false:=by grind
    simp only[W8,bK8,bG8,w9,d,bG9]
   obtain⟨_,m⟩:=ah4 (σ:=σ) hx (.int _ _) (.int _ _) e g;refine⟨_,?_,m⟩;have j:(n:Int).tmod (Int.ofNat c)=((n % c:Nat):Int):=by grind
   have l:O1 f lo=O1 f (lo/18446744073709551616*18446744073709551616):=by
    unfold O1
    grind
   rw[j,l];exact .ival f _ c (n % c) (by unfold V6;rw[Nat.mul_mod_left];exact bO6 _) (.inr (Nat.mod_lt _ hc))
 ·cases h
def D7 (P:Program)(op:BinOp)(t:TypeId)(x y:Value):Option Value:=
 match W8 P op t x y with
 |some v=>some v
 |none=>match aU8 op x y with
  |some v=>some v
  |none=>irem op x y
theorem aU7    {t : TypeId}   (h : D7 P op t x y = some v) (hx : VR σ x x') (hy : VR σ y y') ( d  e : Operand) :
  ∃u,VR σ v u/\ ∀w,((eqGuard op t d e x' y').run P w= .ok () w)/\(binOp op t x' y').run P w= .ok u w:=by
 unfold D7 at h;split at h
 ·rename_i v' f
  cases h;exact⟨_,ah4 f hx hy d e⟩
 ·split at h
  ·rename_i v' f
   cases h;exact aU9 f hx hy d e
  ·exact aX7 h hx hy d e
def Y8 (big:Bool):Value->List Value->Option Value
 |v,[]=>match v with
  | .int k n=>some (.int k n)
  |_=>none
 |v,y::ys=>match v,y with
  | .int k a,.int _ b=>Y8 big (.int k (bif big then(bif decide (a<b)then b else a)else(bif decide (b<a)then b else a))) ys
  |_,_=>none
theorem aC3 {P : Program} {σ : Sg} : ∀ {xs : List Value} {x v : Value} {  d : List Value} {x' : Value}, Y8 false x xs = some v → VR σ x x' → VRL σ xs   d →
  VR σ v v/\ ∀w,(d.foldlM Builtin.min2 x':Sem Value).run P w= .ok v w
 | [],x,v,d,x',h,hx,e=>by
  rw[e.unnil];unfold Y8 at h;split at h
  ·simp only[bF1]at h;subst h;cases hx;exact⟨.int _ _,fun w=>by simp⟩
  ·cases h
 |y::ys,x,v,d,x',h,hx,e=>by
  obtain⟨y',j,rfl,hy,f⟩:=e.uncons;unfold Y8 at h;split at h
  ·rename_i k a k' b
   cases hx;cases hy;have g:=aC3 (P:=P) h (.int _ _) f;refine⟨g.1,fun w=>?_⟩
   have he:(Builtin.min2 (.int k a) (.int k' b)).run P w= .ok (.int k (bif false then(bif decide (a<b)then b else a)else(bif decide (b<a)then b else a))) w:=by
    simp only[Builtin.min2,bG9,bI5]
    grind
   simp_all
  ·cases h
theorem aC2 {P : Program} {σ : Sg} : ∀ {xs : List Value} {x v : Value} {  d : List Value} {x' : Value}, Y8 true x xs = some v → VR σ x x' → VRL σ xs   d →
  VR σ v v/\ ∀w,(d.foldlM Builtin.max2 x':Sem Value).run P w= .ok v w
 | [],x,v,d,x',h,hx,e=>by
  rw[e.unnil];unfold Y8 at h;split at h
  ·simp only[bF1]at h;subst h;cases hx;exact⟨.int _ _,fun w=>by simp⟩
  ·cases h
 |y::ys,x,v,d,x',h,hx,e=>by
  obtain⟨y',j,rfl,hy,f⟩:=e.uncons;unfold Y8 at h;split at h
  ·rename_i k a k' b
   cases hx;cases hy;have g:=aC2 (P:=P) h (.int _ _) f;refine⟨g.1,fun w=>?_⟩
   have he:(Builtin.max2 (.int k a) (.int k' b)).run P w= .ok (.int k (bif true then(bif decide (a<b)then b else a)else(bif decide (b<a)then b else a))) w:=by
    simp only[Builtin.max2,bG8,bI5]
    grind
   simp_all
  ·cases h
end Go.Xe
end PartXm6
noncomputable section PartXm7
namespace Go.Xe
open Go.RowKit
def MOK (hp:Hp)(B:BS)(w0:World)(σ:Sg)(v:Value)(hp':Hp)(r:Result Value):Prop:=
 ∃σ' u w',r= .ok u w'/\Sg.gr hp.nx hp'.nx σ σ'/\VR σ' v u/\HR B w0 σ' hp' w'
def Hp.new (hp:Hp)(vs:List Value)(e z:Nat):Hp:=⟨hp.m.set hp.nx (some (.cells (fill .e 0 vs) vs.length e z)),hp.nx+1⟩
section
variable {P :Program}{B:BS}{w0:World}{σ:Sg}{hp:Hp}{w:World}
theorem y6 (vs:List Value)(j:Nat)(hj:j<vs.length):(fill .e 0 vs).get j=vs[j]? :=by
 rw[i4,bH3 (by omega)];simp
variable {us vs:List Value}
theorem HR.new (h : HR B w0 σ hp w)  ( f : VRL σ vs us) (e z : Nat) :
  HR B w0 (σ.ext hp.nx ⟨w.heap.size,0,us.length,z⟩) (hp.new vs e z) (w.alloc (.cells us.toArray e)):=by
 have:=h.alloc (fill .e 0 vs) vs.length e z us.toArray (by rw[f.1];simp) (fun j hj=>by
  have d:j<us.length:=by rw[<-f.1];exact hj
  refine⟨vs[j],us[j],by rw[y6 vs j hj];simp[hj],by simp[d],f.2 j _ _ (by simp[hj]) (by simp[d])⟩)
 simpa [Hp.new]using this
theorem HR.le_new (h:HR B w0 σ hp w)(p:Pl):Sg.gr hp.nx (hp.nx+1) σ (σ.ext hp.nx p):=
 ⟨Sg.le_ext p (h.fresh _ (bH4 _)),fun i hi=>Sg.ext_other _ _ _ (by omega),bM6 _⟩
theorem VR.new (σ:Sg)(i:Nat)(p:Pl)(d:p.dl=0):VR (σ.ext i p) (.pointer (some ⟨i,0,none⟩)) (.pointer (some ⟨p.blk,0,none⟩)):=by
 have:=VR.ptr (σ:=σ.ext i p) i 0 p (Sg.ext_same _ _ _)
 grind
inductive Nv where
 |ptr
 |slice (l c:Nat)
 |map
structure Nw where
 blk:Blk
 v:Nv
 ok:P4 blk=false:=by rfl
def Nw.val (n:Nw)(id:Nat):Value:=
 match n.v with
 | .ptr=>.pointer (some ⟨id,0,none⟩)
 | .slice l c=>.slice (some ⟨id,0,none⟩) l c
 | .map=>.map (some id)
def D5 (vs:List Value)(e z:Nat):Blk:= .cells (fill .e 0 vs) vs.length e z
theorem ad1 (h:VRL σ vs us)(e z b:Nat):BR σ ⟨b,0,us.length,z⟩ (D5 vs e z) (.cells us.toArray e):=by
 refine⟨us.toArray,rfl,rfl,by simp,by simp[h.1],fun j hj=>?_⟩
 have d:j<us.length:=by rw[<-h.1];exact hj
 exact⟨vs[j],us[j],by rw[y6 vs j hj];simp[hj],by simp[d],h.2 j _ _ (by simp[hj]) (by simp[d])⟩
def ai4 (P:Program)(σ:Sg)(n:Nw)(s:Sem Value):Prop:=
 (∀l c,n.v= .slice l c->l<=c/\c<unk)/\ ∃o siz z,(∀b,BR σ ⟨b,0,siz,z⟩ n.blk o)/\ ∀w,s.run P w= .ok (n.val w.heap.size) (w.alloc o)
def Hp.add (hp:Hp)(n:Nw):Value×Hp:=(n.val hp.nx,⟨hp.m.set hp.nx (some n.blk),hp.nx+1⟩)
variable {n:Nw}
theorem Nw.val_VR {σ:Sg}(h:∀l c,n.v= .slice l c->l<=c/\c<unk)(d b siz z:Nat):VR (σ.ext d ⟨b,0,siz,z⟩) (n.val d) (n.val b):=by
 unfold Nw.val;cases e:n.v with
 |ptr=>exact VR.new σ d ⟨b,0,siz,z⟩ rfl
 |slice l c=>
  obtain⟨h1,h2⟩:=h l c e;have:=VR.slice (σ:=σ.ext d ⟨b,0,siz,z⟩) d 0 ⟨b,0,siz,z⟩ l c c (Sg.ext_same _ _ _) (.inl ⟨rfl,h2⟩) h1
  grind
 |map=>exact VR.map d ⟨b,0,siz,z⟩ (Sg.ext_same _ _ _)
theorem ai4.mok {s:Sem Value}(h:ai4 P σ n s)(d:HR B w0 σ hp w):MOK hp B w0 σ (hp.add n).1 (hp.add n).2 (s.run P w):=by
 obtain⟨h1,o,siz,z,h2,h3⟩:=h;refine⟨σ.ext hp.nx ⟨w.heap.size,0,siz,z⟩,_,_,h3 w,d.le_new _,Nw.val_VR h1 _ _ _ _,?_⟩;exact d.allocO hp.nx (hp.nx+1) (d.fresh _ (bH4 _)) (bM6 _) (bL2 _) n.blk o _ rfl ((h2 _).mono (d.le_new _).le) n.ok
def al9 (P:Program)(e:TypeId):Option Nw:=
 match E9 P e with
 |some z=>some ⟨D5 z.cells.toList e z.cells.toList.length,.ptr,rfl⟩
 |none=>none
theorem aE1 {e:TypeId}(h:al9 P e=some n):ai4 P σ n (Instr.alloc e true (.tuple #[])):=by
 unfold al9 at h;split at h
 ·rename_i z hz
  cases h;obtain⟨hc,hr⟩:=E2 hz;refine⟨(fun l c h=>by cases h),.cells z.cells e,z.cells.toList.length,_,(fun b=>by simpa using ad1 (M2 σ hc).cells e z.cells.toList.length b),fun w=>?_⟩
  simp[Instr.alloc,hr,newVar,newRow,Nw.val]
 ·cases h
def aV1 (e:TypeId)(x:Value):Nw:=⟨D5 x.cells.toList e x.cells.toList.length,.ptr,rfl⟩
variable {x x':Value}
theorem aV2 {e:TypeId}(hx:VR σ x x'):ai4 P σ (aV1 e x) (Instr.box e x'):=by
 refine⟨(fun l c h=>by cases h),.cells x'.cells e,x'.cells.toList.length,_,(fun b=>by simpa [aV1]using ad1 hx.cells e x.cells.toList.length b),fun w=>?_⟩
 simp[Instr.box,newVar,newRow,Nw.val,aV1]
def bh9 (t:Option Value):Option Nw:=
 match t with
 |none=>some ⟨.map [] true,.map,rfl⟩
 |some (.int _ _)=>some ⟨.map [] true,.map,rfl⟩
 |_=>none
theorem aV8 {t : TypeId} {r  f : Option Value}  (h : bh9 r = some n) (hr : match r,  f with | none, none => True | some v, some u => VR σ v u | _, _ => False)
  (hm:match P.underlying t with|some (.map _ _)=>True|_=>False):ai4 P σ n (Instr.makeMap t f):=by
 cases g:P.underlying t with
 |none=>grind
 |some d=>
 cases d<;>simp[g]at hm
 unfold bh9 at h;split at h
 ·simp only[bF1]at h
  subst h;cases f with
  |some u=>grind
  |none=>
   refine⟨(fun l c h=>by cases h),.map #[] 0,0,0,(fun b=>⟨#[],0,rfl,rfl,(fun j x e hx=>by simp at hx),fun _=>⟨rfl,fun j e hj=>by simp at hj⟩⟩),fun w=>?_⟩
   simp[Instr.makeMap,Nw.val]
 ·simp only[bF1]at h
  subst h;cases f with
  |none=>grind
  |some u=>
   cases hr;refine⟨(fun l c h=>by cases h),.map #[] 0,0,0,(fun b=>⟨#[],0,rfl,rfl,(fun j x e hx=>by simp at hx),fun _=>⟨rfl,fun j e hj=>by simp at hj⟩⟩),fun w=>?_⟩
   simp[Instr.makeMap,Nw.val,bH5 g,asInt,asIntOf]
 ·cases h
def am8 (P:Program)(t:TypeId)(x:Value):Option Nw:=
 match P.underlying t,x with
 |some .string,.string s=>some ⟨.sit s 0,.ptr,rfl⟩
 |_,_=>none
theorem aE4 {t:TypeId}(h:am8 P t x=some n)(hx:VR σ x x'):ai4 P σ n (Instr.range t x'):=by
 unfold am8 at h;split at h
 ·rename_i s d
  cases h;cases hx;refine⟨(fun l c h=>by cases h),.stringIter s 0,0,0,(fun b=>⟨rfl,rfl⟩),fun w=>?_⟩
  simp[Instr.range,bH5 d,Nw.val]
 ·cases h
def L8 (P : Program) (hp : Hp) (t : TypeId) (a : Value) : Option Value :=
 match a with
 | .pointer (some ⟨i, o, none⟩) => match hp.m.get i with
  | some b => match rdC b with
   | some (c, n, _) => match P.underlying t with
    | some d => bif an1 d then
      match P.info? t with
      | some ti => bif Nat.ble (o + ti.size) n then
        match j3 c o ti.size with
        |some vs=>some (.agg vs.toArray)
        |none=>none
       else none
      |none=>none
     else bif Nat.ble (o+1) n then c.get o else none
    |none=>none
   |none=>none
  |none=>none
 |_=>none
variable {a a':Value}
theorem as4 {t : TypeId} {v:Value} (h : L8 P hp t a = some v) ( m : VR σ a a') ( l : HR B w0 σ hp w) :
  ∃u,VR σ v u/\(Instr.loadAt t a').run P w= .ok u w:=by
 unfold L8 at h;split at h
 ·rename_i i o
  cases m with
  |ptr _ _ p hp'=>
  split at h
  ·rename_i b g
   split at h
   ·rename_i c n z hr
    split at h
    ·rename_i d j
     cases e:an1 d with
     |true=>
      rw[e,bG8]at h;split at h
      ·rename_i r f
       cases hb:Nat.ble (o+r.size) n with
       |false=>grind
       |true=>
        rw[hb,bG8]at h;split at h
        ·rename_i vs hl
         simp only[bF1]at h;subst h;obtain⟨us,h1,h2,h3⟩:=l.cellsR g hr (bF5 hb) hl hp';refine⟨.agg us.toArray,h1.to_agg,?_⟩;have:=run_loadCells_list (P:=P) w ⟨p.blk,p.dl+o,none⟩ us h3;rw[h2]at this;simp[Instr.loadAt,Instr.sureAddr,loadVar,ad2 j,e,sizeOf,typeInfo,f,this]
        ·cases h
      ·cases h
     |false=>
      rw[e,bG9]at h;cases hb:Nat.ble (o+1) n with
      |false=>grind
      |true=>
       rw[hb,bG8]at h;have hl:j3 c o 1=some [v]:=by simp[j3,h]
       obtain⟨us,h1,h2,h3⟩:=l.cellsR g hr (bF5 hb) hl hp';obtain⟨u,s,rfl,q,_⟩:=h1.uncons;refine⟨u,q,?_⟩;have:=h3 0 u rfl;rw[Addr.add_zero']at this;simp[Instr.loadAt,Instr.sureAddr,loadVar,ad2 j,e,this]
    ·cases h
   ·cases h
  ·cases h
 ·cases h
def aq1 (hp:Hp)(i:Nat)(c:T Value)(n e z o:Nat)(vs:List Value):Hp:=
 (fill c o vs).force fun c'=> {hp with m:=hp.m.set i (some (.cells c' n e z))}
theorem E6 (hp:Hp)(i:Nat)(c:T Value)(n e z o:Nat)(vs:List Value):aq1 hp i c n e z o vs= {hp with m:=hp.m.set i (some (.cells (fill c o vs) n e z))}:=by
 unfold aq1;rw[T.force_eq]
def G9 (P:Program)(hp:Hp)(t:TypeId)(a x:Value):Option Hp:=
 match a with
 | .pointer (some ⟨i,o,none⟩)=>match hp.m.get i with
  |some (.cells c n e z)=>match P.info? t with
   |some ti=>bif Nat.beq x.cells.toList.length ti.size&&Nat.ble (o+ti.size) n&&x.cells.toList.all Value.oneCell' then some (aq1 hp i c n e z o x.cells.toList)else none
   |none=>none
  |_=>none
 |_=>none
theorem VRL.all_oneCell (h:VRL σ vs us)(f:vs.all Value.oneCell'=true):∀u∈us,u.oneCell'=true:=by
 intro u e;obtain⟨j,hj,rfl⟩:=List.mem_iff_getElem.1 e;have d:j<vs.length:=by rw[h.1];exact hj
 exact(h.2 j vs[j] us[j] (by simp[d]) (by simp[hj])).oneCell (bI1.1 f _ (bP6 d))
theorem HR.place (g:HR B w0 σ hp w){i n e z:Nat}{c:T Value}(d:hp.m.get i=some (.cells c n e z)){p:Pl}(f:σ i=some p):p.dl+n<=p.siz/\p.esz=z:=by
 obtain⟨p',C,h,j,_,_,_,l,_⟩:=g.liveC d
 grind
theorem aN9 {t : TypeId}  {hp' : Hp} (h : G9 P hp t a x = some hp') ( r : VR σ a a') (hx : VR σ x x') ( m : HR B w0 σ hp w) :
  ∃w',(Instr.storeAt t a' x').run P w= .ok () w'/\HR B w0 σ hp' w'/\hp'.nx=hp.nx:=by
 unfold G9 at h;split at h
 ·rename_i i o
  cases r with
  |ptr _ _ p f=>
  split at h
  ·rename_i c n e z l
   split at h
   ·rename_i j g
    cases hb:Nat.beq x.cells.toList.length j.size&&Nat.ble (o+j.size) n&&x.cells.toList.all Value.oneCell' with
    |false=>grind
    |true=>
     rw[hb,bG8,E6]at h;simp only[bF1]at h;subst h;simp only[bF2]at hb;have q:=bF6 hb.1.1;have s:=bF5 hb.1.2;have d:=hx.cells;obtain⟨k1,_⟩:=m.place l f;obtain⟨w',hr,hh,_⟩:=m.store (o:=o) l f d (d.all_oneCell hb.2) (by omega) (by omega) P
     refine⟨w',?_,?_,rfl⟩
     ·have hs:x'.cells.size=j.size:=by rw[<-q,d.1];simp
      simp[Instr.storeAt,Instr.sureAddr,storeVar,sizeOf,typeInfo,g,hs,hr]
     ·grind
   ·cases h
  ·cases h
 ·cases h
def xrep :Nat->List Value->List Value
 |0,_=>[]
 |n+1,zs=>zs++xrep n zs
theorem A5 (d:List Value):∀n,(xrep n d).length=n*d.length
 |0=>by simp[xrep]
 |n+1=>by simp[xrep,A5 d n,bL8,Nat.add_comm]
theorem U8 (d:List Value):∀(n j:Nat),j<n*d.length->(xrep n d)[j]? =d[j % d.length]?
 |0,j,h=>by simp at h
 |n+1,j,h=>by
  simp only[xrep]
  by_cases hj:j<d.length
  ·rw[bG0 hj,bP5 hj]
  ·rw[bF9 (by omega),U8 d n (j-d.length) (by rw[bL8]at h;omega)]
   rw[Nat.mod_eq_sub_mod (by omega:d.length<=j)]
theorem ad0 (z:Array Value)(n:Nat):((Array.range (n*z.size)).map (fun i=>z[i % z.size]!)).toList=xrep n z.toList:=by
 apply List.ext_getElem?
 intro j
 by_cases hj:j<n*z.size
 ·rw[U8 z.toList n j (by simpa using hj)]
  have hz:0<z.size:=by grind
  have hm:j % z.size<z.size:=Nat.mod_lt _ hz
  grind
 ·rw[bQ1 (by simp;omega),bQ1 (by rw[A5];simp;omega)]
theorem VRL.xrep {d:List Value}(h:VRL σ d d):∀n,VRL σ (xrep n d) (xrep n d)
 |0=>VRL.nil σ
 |n+1=>h.append (VRL.xrep h n)
def bn3 (P : Program) (t : TypeId) (len : Nat) (parts : List (Nat × Value)) : Option Nw :=
 match P.underlying t with
 | some (.slice e) => match P.info? e with
  | some ie => match E9 P e with
   | some z => bif Nat.beq z.cells.toList.length ie.size && Nat.ble (len * ie.size) 16777216 && Nat.ble len 16777216 then
     match am3 (fun i=>some (i*ie.size,ie.size)) (xrep len z.cells.toList) parts with
     |some cs=>some ⟨D5 cs e ie.size,.slice len len,rfl⟩
     |none=>none
    else none
   |none=>none
  |none=>none
 |_=>none
theorem bc1 {t : TypeId} {len : Nat} {xs : List (Nat × Value)} {ys : Array (Nat × Value)}  (h : bn3 P t len xs = some n)
  (hy:PVR σ xs ys.toList):ai4 P σ n (Instr.buildSlice t len ys):=by
 unfold bn3 at h;split at h
 ·rename_i e r
  split at h
  ·rename_i ie g
   split at h
   ·rename_i z hz
    cases hb:Nat.beq z.cells.toList.length ie.size&&Nat.ble (len*ie.size) 16777216&&Nat.ble len 16777216 with
    |false=>grind
    |true=>
     rw[hb,bG8]at h;simp only[bF2]at hb;have s:=bF6 hb.1.1;have A:=bF5 hb.1.2;have C:=bF5 hb.2;split at h
     ·rename_i cs hf
      cases h;obtain⟨hc,o⟩:=E2 hz;have q:=(M2 σ hc).cells;have d:∀m:Array Value,m=(if len*ie.size=0 then #[]else z.cells)->((Array.range (len*ie.size)).map (fun i=>m[i % m.size]!)).toList=xrep len z.cells.toList:=by
       intro m j
       by_cases h0:len*ie.size=0
       ·have hl:xrep len z.cells.toList=[]:=bF7 (by rw[A5,s];exact h0)
        grind
       ·rw[bH1 h0]at j
        subst j;have:=ad0 z.cells len
        grind
      obtain⟨ds,h1,h2⟩:=ac2 (σ:=σ) _ xs ys.toList (xrep len z.cells.toList) cs ((Array.range (len*ie.size)).map (fun i=>(if len*ie.size=0 then #[]else z.cells)[i % (if len*ie.size=0 then #[]else z.cells).size]!)) hf hy
       (by rw[d _ rfl];exact q.xrep len)
      refine⟨(fun l c h=>by cases h;exact⟨bH4 _,by unfold unk;omega⟩),.cells ds e,ds.toList.length,_,(fun b=>by simpa using ad1 h2 e ie.size b),fun w=>?_⟩
      have f:¬len*ie.size>2^24:=by omega
      by_cases h0:len*ie.size=0
      ·rw[bH3 h0]at h1
       simp only[Instr.buildSlice,bI0,bH5 r,bH6,sizeOf,typeInfo,bP3,g,bI5,bH1 f,bH3 h0,h1,newRow,run_newObj];rfl
      ·rw[bH1 h0]at h1
       simp only[Instr.buildSlice,bI0,bH5 r,bH6,sizeOf,typeInfo,bP3,g,bI5,bH1 f,bH1 h0,o,h1,newRow,run_newObj];rfl
     ·cases h
   ·cases h
  ·cases h
 ·cases h
def bo0 (P : Program) (t : TypeId) (l c : Value) : Option Nw :=
 match l,c with
 | .int _ ln, .int _ cn => match P.underlying t with
  | some (.slice e) => match P.info? e with
   | some ie => match E9 P e with
    | some z => bif decide (0 ≤ ln) && decide (ln ≤ cn) && decide (cn ≤ 1048576) && Nat.ble ie.bytes 1048576 && Nat.beq z.cells.toList.length ie.size then
      some ⟨D5 (xrep cn.toNat z.cells.toList) e ie.size,.slice ln.toNat cn.toNat,rfl⟩
     else none
    |none=>none
   |none=>none
  |_=>none
 |_,_=>none
theorem bc5 {t : TypeId} {l c l' c' : Value}  (h : bo0 P t l c = some n) (hl : VR σ l l') (hc : VR σ c c') :
  ai4 P σ n (Instr.makeSlice t l' c'):=by
 unfold bo0 at h;split at h
 ·rename_i k1 ln k2 d
  cases hl;cases hc;split at h
  ·rename_i e D
   split at h
   ·rename_i ie j
    split at h
    ·rename_i z hz
     cases hb:decide (0<=ln)&&decide (ln<=d)&&decide (d<=1048576)&&Nat.ble ie.bytes 1048576&&Nat.beq z.cells.toList.length ie.size with
     |false=>grind
     |true=>
      rw[hb,bG8]at h;simp only[bF2,bH2]at hb;obtain⟨⟨⟨⟨J,K⟩,G⟩,A⟩,H⟩:=hb;have A:=bF5 A;have I:=bF6 H;cases h;obtain⟨q,r⟩:=E2 hz;have s:=(M2 σ q).cells;have F:IntKind.i64.wrap ln=ln:=IntWalk.i64_in _ (by omega)
      have E:IntKind.i64.wrap d=d:=IntWalk.i64_in _ (by omega)
      have f:∀o:Array Value,o=(if d.toNat*ie.size=0 then #[]else z.cells)->(Array.range (d.toNat*ie.size)).map (fun i=>o[i % o.size]!)=(xrep d.toNat z.cells.toList).toArray:=by
       intro o m
       apply bN2
       by_cases h0:d.toNat*ie.size=0
       ·have hl:xrep d.toNat z.cells.toList=[]:=bF7 (by rw[A5,I];exact h0)
        grind
       ·rw[bH1 h0]at m
        subst m;have:=ad0 z.cells d.toNat
        grind
      refine⟨(fun l c h=>by cases h;exact⟨by omega,by unfold unk;omega⟩),.cells (xrep d.toNat z.cells.toList).toArray e,_,_,(fun b=>ad1 (s.xrep d.toNat) e ie.size b),fun w=>?_⟩
      have C:¬((ie.bytes:Int)*d>2^48):=by
       have h1:(ie.bytes:Int)*d<=1048576*1048576:=Int.mul_le_mul (by omega) G (by omega) (by omega)
       omega
      have g:¬((decide (d<0)||decide ((ie.bytes:Int)*d>2^48))||decide (ln<0)||decide (ln>d))=true:=by grind
      by_cases h0:d.toNat*ie.size=0
      ·have:=f #[] (by rw[bH3 h0])
       simp only[Instr.makeSlice,bI0,bH5 D,bH6,asInt,asIntOf,bI5,typeInfo,bP3,j,F,E,bH1 g,run_askRoom,sizeOf,bH3 h0,this,newRow,run_newObj];rfl
      ·have:=f z.cells (by rw[bH1 h0])
       simp only[Instr.makeSlice,bI0,bH5 D,bH6,asInt,asIntOf,bI5,typeInfo,bP3,j,F,E,bH1 g,run_askRoom,sizeOf,bH1 h0,r,this,newRow,run_newObj];rfl
    ·cases h
   ·cases h
  ·cases h
 ·cases h
end
end Go.Xe
end PartXm7
