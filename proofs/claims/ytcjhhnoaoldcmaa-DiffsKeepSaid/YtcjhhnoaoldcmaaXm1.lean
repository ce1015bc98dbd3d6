/- The executor, parts 1, 2, 3, 4, 5, 6, 7.
  Conditions: none. -/
import Derived.WalkKit
import Derived.Orders
import Derived.Laws.StructEq
import Derived.WalkSpells
set_option linter.unusedSimpArgs false
set_option linter.unusedVariables false
noncomputable section PartXm1
namespace Go.Xe
theorem bA1:type_of% @Option.some.injEq:=@Option.some.injEq
theorem bA2:type_of% @Bool.and_eq_true:=@Bool.and_eq_true
theorem bA3:type_of% @Prod.mk.injEq:=@Prod.mk.injEq
theorem bA4:type_of% @List.getElem?_eq_some_iff:=@List.getElem?_eq_some_iff
theorem bA5:type_of% @Nat.le_of_ble_eq_true:=@Nat.le_of_ble_eq_true
theorem bA6:type_of% @Nat.eq_of_beq_eq_true:=@Nat.eq_of_beq_eq_true
theorem bA7:type_of% @List.eq_nil_of_length_eq_zero:=@List.eq_nil_of_length_eq_zero
theorem bA8:type_of% @Nat.ble_eq_true_of_le:=@Nat.ble_eq_true_of_le
theorem bA9:type_of% @List.getElem?_append_right:=@List.getElem?_append_right
theorem bB0:type_of% @List.getElem?_append_left:=@List.getElem?_append_left
theorem bB1:type_of% @List.mem_of_getElem?:=@List.mem_of_getElem?
theorem bB2:type_of% @List.getElem?_cons_succ:=@List.getElem?_cons_succ
theorem bB3:type_of% @List.getElem?_eq_getElem:=@List.getElem?_eq_getElem
theorem bB4:type_of% @Nat.mul_le_mul_right:=@Nat.mul_le_mul_right
theorem bB5:type_of% @List.append_assoc:=@List.append_assoc
theorem bB6:type_of% @Array.getElem?_eq_some_iff:=@Array.getElem?_eq_some_iff
theorem bB7:type_of% @List.getElem?_cons_zero:=@List.getElem?_cons_zero
theorem bB8:type_of% @cond_true:=@cond_true
theorem bB9:type_of% @cond_false:=@cond_false
theorem bC0:type_of% @List.length_map:=@List.length_map
theorem bC1:type_of% @if_neg:=@if_neg
theorem bC2:type_of% @decide_eq_true_eq:=@decide_eq_true_eq
theorem bC3:type_of% @if_pos:=@if_pos
theorem bC4:type_of% @Nat.le_refl:=@Nat.le_refl
theorem bC5:type_of% @run_underlying:=@run_underlying
theorem bC6:type_of% @Result.andThen_ok:=@Result.andThen_ok
theorem bC7:type_of% @Option.some.inj:=@Option.some.inj
theorem bC8:type_of% @List.length_append:=@List.length_append
theorem bC9:type_of% @And.intro:=@And.intro
theorem bD0:type_of% @Sem.run_bind:=@Sem.run_bind
theorem bD1:type_of% @List.all_eq_true:=@List.all_eq_true
theorem bD2:type_of% @List.getD_eq_getElem?_getD:=@List.getD_eq_getElem?_getD
theorem bD3:type_of% @Nat.zero_add:=@Nat.zero_add
theorem bD4:type_of% @List.getElem?_take:=@List.getElem?_take
theorem bD5:type_of% @Sem.run_pure:=@Sem.run_pure
theorem bD6:type_of% @List.length_take:=@List.length_take
theorem bD7:type_of% @Nat.add_mul:=@Nat.add_mul
theorem bD8:type_of% @List.mem_append:=@List.mem_append
theorem bD9:type_of% @List.mem_cons:=@List.mem_cons
theorem bE0:type_of% @List.getElem?_drop:=@List.getElem?_drop
theorem bE1:type_of% @Nat.beq_eq:=@Nat.beq_eq
theorem bE2:type_of% @Int.toNat_natCast:=@Int.toNat_natCast
theorem bE3:type_of% @Option.getD_some:=@Option.getD_some
theorem bE4:type_of% @List.length_cons:=@List.length_cons
theorem bE5:type_of% @true_implies:=@true_implies
theorem bE6:type_of% @Option.map_some:=@Option.map_some
theorem bE7:type_of% @Bool.not_eq_true':=@Bool.not_eq_true'
theorem bE8:type_of% @List.map_append:=@List.map_append
theorem bE9:type_of% @decide_eq_false_iff_not:=@decide_eq_false_iff_not
theorem bF0:type_of% @List.take_of_length_le:=@List.take_of_length_le
theorem bF1:type_of% @List.getElem?_map:=@List.getElem?_map
theorem bF2:type_of% @List.map_cons:=@List.map_cons
theorem bF3:type_of% @Nat.lt_of_lt_of_le:=@Nat.lt_of_lt_of_le
theorem bF4:type_of% @Nat.ble_eq:=@Nat.ble_eq
theorem bF5:type_of% @List.mem_iff_getElem?:=@List.mem_iff_getElem?
theorem bF6:type_of% @not_false_eq_true:=@not_false_eq_true
theorem bF7:type_of% @decide_true:=@decide_true
theorem bF8:type_of% @Nat.le_trans:=@Nat.le_trans
theorem bF9:type_of% @List.mem_cons_of_mem:=@List.mem_cons_of_mem
theorem bG0:type_of% @Nat.add_assoc:=@Nat.add_assoc
theorem bG1:type_of% @Nat.lt_succ_self:=@Nat.lt_succ_self
theorem bG2:type_of% @List.cons_append:=@List.cons_append
theorem bG3:type_of% @implies_true:=@implies_true
theorem bG4:type_of% @Int.le_refl:=@Int.le_refl
theorem bG5:type_of% @List.mem_singleton:=@List.mem_singleton
theorem bG6:type_of% @Nat.add_zero:=@Nat.add_zero
theorem bG7:type_of% @Nat.succ_mul:=@Nat.succ_mul
theorem bG8:type_of% @true_and:=@true_and
theorem bG9:type_of% @List.cons.injEq:=@List.cons.injEq
theorem bH0:type_of% @List.drop_of_length_le:=@List.drop_of_length_le
theorem bH1:type_of% @Bool.false_eq_true:=@Bool.false_eq_true
theorem bH2:type_of% @and_true:=@and_true
theorem bH3:type_of% @Nat.add_sub_cancel_left:=@Nat.add_sub_cancel_left
theorem bH4:type_of% @Nat.le_succ:=@Nat.le_succ
theorem bH5:type_of% @decide_eq_false:=@decide_eq_false
theorem bH6:type_of% @Bool.or_eq_true:=@Bool.or_eq_true
theorem bH7:type_of% @Nat.le_of_not_lt:=@Nat.le_of_not_lt
theorem bH8:type_of% @of_decide_eq_true:=@of_decide_eq_true
theorem bH9:type_of% @Array.ext':=@Array.ext'
theorem bI0:type_of% @Nat.sub_zero:=@Nat.sub_zero
theorem bI1:type_of% @List.mem_map:=@List.mem_map
theorem bI2:type_of% @Option.map_eq_some_iff:=@Option.map_eq_some_iff
theorem bI3:type_of% @List.mem_append_right:=@List.mem_append_right
theorem bI4:type_of% @Bool.and_true:=@Bool.and_true
theorem bI5:type_of% @List.append_nil:=@List.append_nil
theorem bI6:type_of% @if_true:=@if_true
theorem bI7:type_of% @Addr.add_lit:=@Addr.add_lit
theorem bI8:type_of% @List.take_append_drop:=@List.take_append_drop
theorem bI9:type_of% @Nat.zero_le:=@Nat.zero_le
theorem bJ0:type_of% @List.mem_append_left:=@List.mem_append_left
theorem bJ1:type_of% @forall_eq':=@forall_eq'
theorem bJ2:type_of% @Oper.upon_value:=@Oper.upon_value
theorem bJ3:type_of% @Array.getElem?_setIfInBounds_ne:=@Array.getElem?_setIfInBounds_ne
theorem bJ4:type_of% @run_program:=@run_program
theorem bJ5:type_of% @ByteArray.toList_eq:=@ByteArray.toList_eq
theorem bJ6:type_of% @wpIn_mono:=@wpIn_mono
theorem bJ7:type_of% @Nat.sub_self:=@Nat.sub_self
theorem bJ8:type_of% @List.length_nil:=@List.length_nil
theorem bJ9:type_of% @List.getElem?_eq_none:=@List.getElem?_eq_none
theorem bK0:type_of% @Bool.true_and:=@Bool.true_and
theorem bK1:type_of% @List.getElem?_of_mem:=@List.getElem?_of_mem
open Go.RowKit
inductive T (α:Type) where
 |e:T α
 |n (v:Option α) (a b c d:T α):T α
inductive K where
 |z:K
 |a (k:K):K
 |b (k:K):K
 |c (k:K):K
 |d (k:K):K
def K.pick (p:K)(r:Nat):K:=Nat.rec (motive:=fun _=>K) (.a p) (fun r _=>Nat.rec (motive:=fun _=>K) (.b p) (fun r _=>Nat.rec (motive:=fun _=>K) (.c p) (fun _ _=>.d p) r) r) r
def K.ofF (f:Nat):Nat->K:=
 Nat.rec (motive:=fun _=>Nat->K) (fun _=>.z) (fun _ ih k=>Nat.rec (motive:=fun _=>K) .z (fun m _=>K.pick (ih (Nat.div m 4)) (Nat.mod m 4)) k) f
def K.of (k:Nat):K:=K.ofF (k+1) k
def T.force {α β:Type}(t:T α)(f:T α->β):β:=T.rec (motive:=fun _=>β) (f .e) (fun v a b c d _ _ _ _=>f (.n v a b c d)) t
theorem T.force_eq {α d:Type}(t:T α)(f:T α->d):t.force f=f t:=by cases t<;>rfl
def T.top {α:Type}(t:T α):Option α:=T.rec (motive:=fun _=>Option α) none (fun v _ _ _ _ _ _ _ _=>v) t
def T.ta {α:Type}(t:T α):T α:=T.rec (motive:=fun _=>T α) .e (fun _ a _ _ _ _ _ _ _=>a) t
def T.tb {α:Type}(t:T α):T α:=T.rec (motive:=fun _=>T α) .e (fun _ _ b _ _ _ _ _ _=>b) t
def T.tc {α:Type}(t:T α):T α:=T.rec (motive:=fun _=>T α) .e (fun _ _ _ c _ _ _ _ _=>c) t
def T.td {α:Type}(t:T α):T α:=T.rec (motive:=fun _=>T α) .e (fun _ _ _ _ d _ _ _ _=>d) t
def T.getK {α:Type}(p:K):T α->Option α:=
 K.rec (motive:=fun _=>T α->Option α) (fun t=>t.top) (fun _ ih t=>ih t.ta) (fun _ ih t=>ih t.tb) (fun _ ih t=>ih t.tc) (fun _ ih t=>ih t.td) p
def T.get {α:Type}(t:T α)(k:Nat):Option α:=T.getK (K.of k) t
def T.putz {α:Type}(x:Option α)(t:T α):T α:=T.rec (motive:=fun _=>T α) (.n x .e .e .e .e) (fun _ a b c d _ _ _ _=>.n x a b c d) t
def T.puta {α:Type}(ih:Option α->T α->T α)(x:Option α)(t:T α):T α:=
 T.rec (motive:=fun _=>T α) ((ih x .e).force fun s=>.n none s .e .e .e) (fun v a b c d _ _ _ _=>(ih x a).force fun s=>.n v s b c d) t
def T.putb {α:Type}(ih:Option α->T α->T α)(x:Option α)(t:T α):T α:=
 T.rec (motive:=fun _=>T α) ((ih x .e).force fun s=>.n none .e s .e .e) (fun v a b c d _ _ _ _=>(ih x b).force fun s=>.n v a s c d) t
def T.putc {α:Type}(ih:Option α->T α->T α)(x:Option α)(t:T α):T α:=
 T.rec (motive:=fun _=>T α) ((ih x .e).force fun s=>.n none .e .e s .e) (fun v a b c d _ _ _ _=>(ih x c).force fun s=>.n v a b s d) t
def T.putd {α:Type}(ih:Option α->T α->T α)(x:Option α)(t:T α):T α:=
 T.rec (motive:=fun _=>T α) ((ih x .e).force fun s=>.n none .e .e .e s) (fun v a b c d _ _ _ _=>(ih x d).force fun s=>.n v a b c s) t
def T.setK {α:Type}(p:K):Option α->T α->T α:=
 K.rec (motive:=fun _=>Option α->T α->T α) T.putz (fun _ ih=>T.puta ih) (fun _ ih=>T.putb ih) (fun _ ih=>T.putc ih) (fun _ ih=>T.putd ih) p
def T.set {α:Type}(t:T α)(k:Nat)(x:Option α):T α:=T.setK (K.of k) x t
theorem n8 {a b:Nat}(h:a≠b):Nat.beq a b=false:=by
 cases e:Nat.beq a b
 ·rfl
 ·exact absurd (bA6 e) h
theorem l8 {a b:Nat}(h:a=b):Nat.beq a b=true:=by
 subst h;exact Nat.beq_refl _
theorem T.getK_e {α:Type}:∀p:K,T.getK p (.e:T α)=none
 | .z=>rfl
 | .a p=>T.getK_e p
 | .b p=>T.getK_e p
 | .c p=>T.getK_e p
 | .d p=>T.getK_e p
theorem T.get_e {α:Type}(k:Nat):(T.e:T α).get k=none:=T.getK_e _
theorem T.getK_setK {α:Type}(x:Option α):∀(p:K) (t:T α) (q:K),(p=q->T.getK q (T.setK p x t)=x)/\(p≠q->T.getK q (T.setK p x t)=T.getK q t):=by
 intro p
 induction p with
 |z=>
  intro t q;refine⟨fun h=>by subst h;cases t<;>rfl,fun h=>?_⟩
  cases q with
  |z=>exact absurd rfl h
  |_=>cases t<;>rfl
 |a p f=>
  intro t q;have e:T.setK (.a p) x t=T.n t.top (T.setK p x t.ta) t.tb t.tc t.td:=by
   cases t with
   |e=>exact T.force_eq (T.setK p x .e) (fun s=>T.n none s .e .e .e)
   |n v a b c d=>exact T.force_eq (T.setK p x a) (fun s=>T.n v s b c d)
  rw[e];cases q with
  |a q=>exact⟨fun h=>(f t.ta q).1 (by injection h),fun h=>(f t.ta q).2 (fun h'=>h (by rw[h']))⟩
  |_=>exact⟨fun h=>(by cases h),fun _=>by cases t<;>rfl⟩
 |b p f=>
  intro t q;have e:T.setK (.b p) x t=T.n t.top t.ta (T.setK p x t.tb) t.tc t.td:=by
   cases t with
   |e=>exact T.force_eq (T.setK p x .e) (fun s=>T.n none .e s .e .e)
   |n v a b c d=>exact T.force_eq (T.setK p x b) (fun s=>T.n v a s c d)
  rw[e];cases q with
  |b q=>exact⟨fun h=>(f t.tb q).1 (by injection h),fun h=>(f t.tb q).2 (fun h'=>h (by rw[h']))⟩
  |_=>exact⟨fun h=>(by cases h),fun _=>by cases t<;>rfl⟩
 |c p f=>
  intro t q;have e:T.setK (.c p) x t=T.n t.top t.ta t.tb (T.setK p x t.tc) t.td:=by
   cases t with
   |e=>exact T.force_eq (T.setK p x .e) (fun s=>T.n none .e .e s .e)
   |n v a b c d=>exact T.force_eq (T.setK p x c) (fun s=>T.n v a b s d)
  rw[e];cases q with
  |c q=>exact⟨fun h=>(f t.tc q).1 (by injection h),fun h=>(f t.tc q).2 (fun h'=>h (by rw[h']))⟩
  |_=>exact⟨fun h=>(by cases h),fun _=>by cases t<;>rfl⟩
 |d p f=>
  intro t q;have e:T.setK (.d p) x t=T.n t.top t.ta t.tb t.tc (T.setK p x t.td):=by
   cases t with
   |e=>exact T.force_eq (T.setK p x .e) (fun s=>T.n none .e .e .e s)
   |n v a b c d=>exact T.force_eq (T.setK p x d) (fun s=>T.n v a b c s)
  rw[e];cases q with
  |d q=>exact⟨fun h=>(f t.td q).1 (by injection h),fun h=>(f t.td q).2 (fun h'=>h (by rw[h']))⟩
  |_=>exact⟨fun h=>(by cases h),fun _=>by cases t<;>rfl⟩
theorem K.pick_eq (p:K)(r:Nat):K.pick p r=if r=0 then .a p else if r=1 then .b p else if r=2 then .c p else .d p:=by
 match r with
 |0=>rfl
 |1=>rfl
 |2=>rfl
 |r+3=>rw[bC1 (by omega),bC1 (by omega),bC1 (by omega)];rfl
theorem K.pick_inj {p q:K}{r s:Nat}(hr:r<4)(hs:s<4)(h:K.pick p r=K.pick q s):p=q/\r=s:=by
 rw[K.pick_eq,K.pick_eq]at h;split at h<;>split at h<;>first
  | (injection h with h1;exact⟨h1,by omega⟩)
  | (cases h;done)
  | (split at h<;>first| (injection h with h1;exact⟨h1,by omega⟩)| (cases h;done)| (split at h<;>first| (injection h with h1;exact⟨h1,by omega⟩)| (cases h;done)| (split at h<;>first| (injection h with h1;exact⟨h1,by omega⟩)| (cases h;done)| (split at h<;>first| (injection h with h1;exact⟨h1,by omega⟩)| (cases h;done)))))
theorem K.ofF_inj :∀(f g j k:Nat),j<f->k<g->K.ofF f j=K.ofF g k->j=k:=by
 intro f
 induction f with
 |zero=>intro g j k h;omega
 |succ f e=>
  intro g j k hj hk h;cases g with
  |zero=>omega
  |succ g=>
   have d:∀(p:K) (r:Nat),K.pick p r≠ .z:=by
    intro p r;rw[K.pick_eq]
    repeat' split
    all_goals (intro h;cases h)
   cases j with
   |zero=>
    cases k with
    |zero=>rfl
    |succ k=>exact absurd h.symm (d _ _)
   |succ j=>
    cases k with
    |zero=>exact absurd h (d _ _)
    |succ k=>
     have h':K.pick (K.ofF f (j/4)) (j % 4)=K.pick (K.ofF g (k/4)) (k % 4):=h;obtain⟨h1,h2⟩:=K.pick_inj (Nat.mod_lt _ (by omega)) (Nat.mod_lt _ (by omega)) h'
     have:=e g (j/4) (k/4) (by omega) (by omega) h1
     omega
theorem T.get_set {α:Type}(t:T α)(k:Nat)(x:Option α)(j:Nat):(t.set k x).get j=if j=k then x else t.get j:=by
 obtain⟨h1,h2⟩:=T.getK_setK x (K.of k) t (K.of j)
 by_cases h:j=k
 ·subst h;rw[bC3 rfl];exact h1 rfl
 ·rw[bC1 h];exact h2 (fun e=>h (K.ofF_inj _ _ _ _ (by omega) (by omega) e).symm)
end Go.Xe
end PartXm1
noncomputable section PartXm2
namespace Go.Xe
open Go.RowKit
structure Pl where
 blk:Nat
 dl:Nat
 siz:Nat
 esz:Nat
def Sg :Type:=Nat->Option Pl
def Sg.le (σ σ':Sg):Prop:=∀i p,σ i=some p->σ' i=some p
theorem Sg.le_refl (σ:Sg):Sg.le σ σ:=fun _ _ h=>h
theorem Sg.le_trans {a b c:Sg}(h:Sg.le a b)(k:Sg.le b c):Sg.le a c:=fun i p e=>k i p (h i p e)
structure Sg.gr (n n':Nat)(σ σ':Sg):Prop where
 le:Sg.le σ σ'
 low:∀i,i<n->σ' i=σ i
 nx:n<=n'
theorem Sg.gr_refl (n:Nat)(σ:Sg):Sg.gr n n σ σ:=⟨Sg.le_refl σ,fun _ _=>rfl,bC4 n⟩
variable {n:Nat}
theorem Sg.gr_trans {d e:Nat}{a b c:Sg}(h:Sg.gr n d a b)(k:Sg.gr d e b c):Sg.gr n e a c:=
 ⟨Sg.le_trans h.le k.le,fun i hi=>(k.low i (by have:=h.nx;omega)).trans (h.low i hi),bF8 h.nx k.nx⟩
def unk :Nat:=9223372036854775808
def G4 (c:Nat):Nat:=c/unk-1
def B4 (c:Nat):Nat:=c % unk
def g9 (lo hi:Nat):Nat:=unk*(lo+1)+hi
theorem L8 {lo hi:Nat}(h:hi<unk):G4 (g9 lo hi)=lo:=by unfold G4 g9;unfold unk at*;omega
theorem L7 {lo hi:Nat}(h:hi<unk):B4 (g9 lo hi)=hi:=by unfold B4 g9;unfold unk at*;omega
theorem u9 (lo hi:Nat):unk<=g9 lo hi:=by unfold g9 unk;omega
theorem bz8 :G4 unk=0:=by decide
theorem bz7 :B4 unk=0:=by decide
theorem I3 :0<unk:=by decide
def bl7 :FloatKind->Nat->IntKind
 | .f32,0=>.u32
 | .f32,1=>.u64
 | .f32,_=>.u8
 | .f64,_=>.i64
def S7 (f:FloatKind)(lo:Nat):IntKind:=bl7 f (lo/18446744073709551616)
def ag2 (lo:Nat):Nat:=lo % 18446744073709551616
theorem aI6 (lo:Nat):ag2 lo<=lo:=Nat.mod_le _ _
inductive VR (σ : Sg) : Value → Value → Prop
 |bool (b:Bool):VR σ (.bool b) (.bool b)
 |int (k:IntKind) (n:Int):VR σ (.int k n) (.int k n)
 |float (k:FloatKind) (n:Nat):VR σ (.float k n) (.float k n)
 |ival (f:FloatKind) (lo hi n:Nat) (h1:ag2 lo<=n) (h2:hi=0\/n<hi):VR σ (.complex f lo hi) (.int (S7 f lo) n)
 |string (s:ByteArray):VR σ (.string s) (.string s)
 |nilp:VR σ (.pointer none) (.pointer none)
 |ptr (i o:Nat) (p:Pl) (h:σ i=some p):VR σ (.pointer (some ⟨i,o,none⟩)) (.pointer (some ⟨p.blk,p.dl+o,none⟩))
 |nils (l c:Nat):VR σ (.slice none l c) (.slice none l c)
 | slice (i o : Nat) (p : Pl) (l c c' : Nat) (h : σ i = some p) (hc : (c = c' ∧ c < unk) ∨ (unk ≤ c ∧ G4 c ≤ c' ∧ (B4 c = 0 ∨ c' < B4 c) ∧ p.dl + o + c' * p.esz ≤ p.siz)) (hl : l ≤ c') :
   VR σ (.slice (some ⟨i,o,none⟩) l c) (.slice (some ⟨p.blk,p.dl+o,none⟩) l c')
 |vague (q:Addr) (c':Nat):VR σ (.slice (some ⟨0,0,some 0⟩) 0 unk) (.slice (some q) 0 c')
 |nilm:VR σ (.map none) (.map none)
 |map (i:Nat) (p:Pl) (h:σ i=some p):VR σ (.map (some i)) (.map (some p.blk))
 | func (fn : Fn) (xs ys cs ds : Array Value) (h1 : xs.size = ys.size) (h2 : ∀ (i : Nat) x y, xs[i]? = some x → ys[i]? = some y → VR σ x y)
   (h3:cs.size=ds.size) (h4:∀(i:Nat) x y,cs[i]? =some x->ds[i]? =some y->VR σ x y):VR σ (.func fn xs cs) (.func fn ys ds)
 |nilf:VR σ .nilFunc .nilFunc
 |yield (i:Nat) (p:Pl) (h:σ i=some p):VR σ (.chan (some i)) (.func (.yield p.blk) #[] #[])
 |iface (t:TypeId) (v u:Value) (h:VR σ v u):VR σ (.iface t v) (.iface t u)
 |nili:VR σ .nilIface .nilIface
 |agg (xs ys:Array Value) (h1:xs.size=ys.size) (h2:∀(i:Nat) x y,xs[i]? =some x->ys[i]? =some y->VR σ x y):VR σ (.agg xs) (.agg ys)
 |tuple (xs ys:Array Value) (h1:xs.size=ys.size) (h2:∀(i:Nat) x y,xs[i]? =some x->ys[i]? =some y->VR σ x y):VR σ (.tuple xs) (.tuple ys)
variable {σ σ':Sg}
theorem VR.mono (hs:Sg.le σ σ'){a b:Value}(h:VR σ a b):VR σ' a b:=by
 induction h with
 |bool b=>exact .bool b
 |int k n=>exact .int k n
 |float k n=>exact .float k n
 |ival f lo hi n h1 h2=>exact .ival f lo hi n h1 h2
 |string s=>exact .string s
 |nilp=>exact .nilp
 |ptr i o p h=>exact .ptr i o p (hs _ _ h)
 |nils l c=>exact .nils l c
 |slice i o p l c c' h hc hl=>exact .slice i o p l c c' (hs _ _ h) hc hl
 |vague q c'=>exact .vague q c'
 |nilm=>exact .nilm
 |map i p h=>exact .map i p (hs _ _ h)
 |func fn xs ys cs ds h1 _ h3 _ e g=>exact .func fn xs ys cs ds h1 e h3 g
 |nilf=>exact .nilf
 |yield i p h=>exact .yield i p (hs _ _ h)
 |iface t v u _ d=>exact .iface t v u d
 |nili=>exact .nili
 |agg xs ys h1 _ d=>exact .agg xs ys h1 d
 |tuple xs ys h1 _ d=>exact .tuple xs ys h1 d
theorem VR.undef (σ:Sg):VR σ undef undef:= .tuple _ _ rfl (fun i x y h _=>by simp at h)
def VRL (σ:Sg)(xs ys:List Value):Prop:=xs.length=ys.length/\ ∀(i:Nat) x y,xs[i]? =some x->ys[i]? =some y->VR σ x y
theorem VRL.nil (σ:Sg):VRL σ [] []:=⟨rfl,fun i x y h _=>by simp at h⟩
variable {x:Value}{xs ys:List Value}
theorem VRL.cons {y:Value}(h:VR σ x y)(hs:VRL σ xs ys):VRL σ (x::xs) (y::ys):=by
 refine⟨by simp[hs.1],fun i a b d hb=>?_⟩
 cases i with
 |zero=>grind
 |succ i=>simp at d hb;exact hs.2 i a b d hb
theorem VRL.uncons (h:VRL σ (x::xs) ys):∃y d,ys=y::d/\VR σ x y/\VRL σ xs d:=by
 cases ys with
 |nil=>exact absurd h.1 (by simp)
 |cons y ys=>exact⟨y,ys,rfl,h.2 0 x y rfl rfl,by have:=h.1;simpa using this,fun i a b e hb=>h.2 (i+1) a b (by simpa using e) (by simpa using hb)⟩
theorem VRL.unnil (h:VRL σ [] ys):ys=[]:=bA7 h.1.symm
variable {a:List Value}
theorem VRL.mono (hs:Sg.le σ σ'){b:List Value}(h:VRL σ a b):VRL σ' a b:=⟨h.1,fun i x y hx hy=>(h.2 i x y hx hy).mono hs⟩
theorem VRL.append {b c d:List Value}(h:VRL σ a b)(k:VRL σ c d):VRL σ (a++c) (b++d):=by
 induction a generalizing b with
 |nil=>rw[h.unnil];exact k
 |cons x a e=>obtain⟨y,b',rfl,h1,h2⟩:=h.uncons;exact VRL.cons h1 (e h2)
variable {i:Nat}
theorem VRL.get {b:List Value}(h:VRL σ a b)(hx:a[i]? =some x):∃y,b[i]? =some y/\VR σ x y:=by
 have hi:i<a.length:=(bA4.1 hx).1;have hb:i<b.length:=by rw[<-h.1];exact hi
 exact⟨b[i],by simp[hb],h.2 i x _ hx (by simp[hb])⟩
variable {v:Value}
theorem VRL.of_agg {a:Array Value}(h:VR σ (.agg a) v):∃b,v= .agg b/\VRL σ a.toList b.toList:=by
 cases h with
 |agg _ ys h1 h2=>exact⟨ys,rfl,by simpa using h1,fun i x y hx hy=>h2 i x y (by simpa using hx) (by simpa using hy)⟩
theorem VRL.to_agg {b:List Value}(h:VRL σ a b):VR σ (.agg a.toArray) (.agg b.toArray):=
 .agg _ _ (by simpa using h.1) (fun i x y hx hy=>h.2 i x y (by simpa using hx) (by simpa using hy))
theorem VRL.of_tuple {a:Array Value}(h:VR σ (.tuple a) v):∃b,v= .tuple b/\VRL σ a.toList b.toList:=by
 cases h with
 |tuple _ ys h1 h2=>exact⟨ys,rfl,by simpa using h1,fun i x y hx hy=>h2 i x y (by simpa using hx) (by simpa using hy)⟩
theorem VRL.to_tuple {b:List Value}(h:VRL σ a b):VR σ (.tuple a.toArray) (.tuple b.toArray):=
 .tuple _ _ (by simpa using h.1) (fun i x y hx hy=>h.2 i x y (by simpa using hx) (by simpa using hy))
variable {u:Value}
theorem VR.cells (h:VR σ v u):VRL σ v.cells.toList u.cells.toList:=by
 cases h with
 |agg xs ys h1 h2=>exact⟨by simpa [Value.cells]using h1,fun i x y hx hy=>h2 i x y (by simpa [Value.cells]using hx) (by simpa [Value.cells]using hy)⟩
 |bool b=>exact VRL.cons (.bool b) (VRL.nil σ)
 |int k n=>exact VRL.cons (.int k n) (VRL.nil σ)
 |float k n=>exact VRL.cons (.float k n) (VRL.nil σ)
 |ival f lo hi n h1 h2=>exact VRL.cons (.ival f lo hi n h1 h2) (VRL.nil σ)
 |string s=>exact VRL.cons (.string s) (VRL.nil σ)
 |nilp=>exact VRL.cons .nilp (VRL.nil σ)
 |ptr i o p h=>exact VRL.cons (.ptr i o p h) (VRL.nil σ)
 |nils l c=>exact VRL.cons (.nils l c) (VRL.nil σ)
 |slice i o p l c c' h hc hl=>exact VRL.cons (.slice i o p l c c' h hc hl) (VRL.nil σ)
 |vague q c'=>exact VRL.cons (.vague q c') (VRL.nil σ)
 |nilm=>exact VRL.cons .nilm (VRL.nil σ)
 |map i p h=>exact VRL.cons (.map i p h) (VRL.nil σ)
 |func fn xs ys cs ds h1 h2 h3 h4=>exact VRL.cons (.func fn xs ys cs ds h1 h2 h3 h4) (VRL.nil σ)
 |nilf=>exact VRL.cons .nilf (VRL.nil σ)
 |yield i p h=>exact VRL.cons (.yield i p h) (VRL.nil σ)
 |iface t v u h=>exact VRL.cons (.iface t v u h) (VRL.nil σ)
 |nili=>exact VRL.cons .nili (VRL.nil σ)
 |tuple xs ys h1 h2=>exact VRL.cons (.tuple xs ys h1 h2) (VRL.nil σ)
theorem VR.oneCell (h:VR σ v u)(d:v.oneCell'=true):u.oneCell'=true:=by
 cases h<;>first|rfl| (simp[Value.oneCell']at d)
inductive Blk where
 |cells (c:T Value) (n:Nat) (elem esz:Nat)
 |ro (c:T Value) (n:Nat) (elem esz:Nat)
 |sit (s:ByteArray) (pos:Nat)
 |map (es:List (Value×Value)) (reg:Bool)
 |loop (st:LoopState) (pend:Option Code) (nt:Nat) (tms:T Value) (params:Array Tmp) (assign body:Code) (db:Nat)
 |dfr
structure Hp where
 m:T Blk
 nx:Nat
def BR (σ : Sg) (p : Pl) : Blk → Obj → Prop
 | .cells c n e z,o=>∃C,o= .cells C e (0,0)/\p.esz=z/\C.size=p.siz/\p.dl+n<=p.siz/\ ∀j,j<n-> ∃v u,c.get j=some v/\C[p.dl+j]? =some u/\VR σ v u
 | .ro c n e z,o=>∃C f,o= .cells C e f/\p.esz=z/\C.size=p.siz/\p.dl+n<=p.siz/\ ∀j v,j<n->c.get j=some v-> ∃u,C[p.dl+j]? =some u/\VR σ v u
 | .sit s pos,o=>o= .stringIter s pos/\p.dl=0
 | .dfr,o=>o= .deferred (some [])
 | .loop st pend nt tms params assign body db, o => ∃ r, o = .loop r ∧ r.state = st ∧ r.pending = pend ∧ r.params = params ∧ r.assign = assign ∧ r.body = body ∧
   (r.tmps.size=nt/\ ∀k,VR σ ((tms.get k).getD undef) (r.tmps.getD k undef))/\ ∃q,σ db=some q/\q.blk=r.defers
 | .map es reg, o => ∃ ents clock, o = .map ents clock ∧ ents.size = es.length ∧ (∀ (j : Nat) x e, es[j]? = some x → ents[j]? = some e → VR σ x.1 e.key ∧ VR σ x.2 e.val) ∧
   (reg=true->clock=ents.size/\ ∀(j:Nat) e,ents[j]? =some e->e.born=j)
variable {p:Pl}{b:Blk}
theorem BR.mono (hs:Sg.le σ σ'){o:Obj}(h:BR σ p b o):BR σ' p b o:=by
 cases b with
 |cells c n e z=>
  obtain⟨C,h1,h2,h3,h4,h5⟩:=h;exact⟨C,h1,h2,h3,h4,fun j hj=>let⟨v,u,a,b,c⟩:=h5 j hj;⟨v,u,a,b,c.mono hs⟩⟩
 |ro c n e z=>
  obtain⟨C,f,h1,h2,h3,h4,h5⟩:=h;exact⟨C,f,h1,h2,h3,h4,fun j v hj D=>let⟨u,b,c⟩:=h5 j v hj D;⟨u,b,c.mono hs⟩⟩
 |sit s pos=>exact h
 |dfr=>exact h
 |loop st pend nt tms params assign body db=>
  obtain⟨r,h1,h2,h3,h4,h5,l,⟨m,t⟩,q,A,g⟩:=h;exact⟨r,h1,h2,h3,h4,h5,l,⟨m,fun k=>(t k).mono hs⟩,q,hs _ _ A,g⟩
 |map es reg=>
  obtain⟨ents,d,h1,h2,h3,h4⟩:=h;exact⟨ents,d,h1,h2,fun j x e hx he=>⟨(h3 j x e hx he).1.mono hs,(h3 j x e hx he).2.mono hs⟩,h4⟩
structure BS where
 B:Nat->Prop
 D:Nat->Prop
 sub:∀k,D k->B k
instance : CoeFun BS (fun _=>Nat->Prop):=⟨BS.B⟩
def BS.below (w:World):BS:=⟨(· <w.heap.size),fun _=>False,fun _ h=>h.elim⟩
def NB (B:BS)(k:Nat):Blk->Prop
 | .ro _ _ _ _=>B.D k
 |_=>¬B k
def P4 :Blk->Bool
 | .ro _ _ _ _=>true
 |_=>false
variable {B:BS}{k:Nat}
theorem NB.no (h:NB B k b)(hb:P4 b=false):¬B k:=by cases b<;>first|exact h| (cases hb)
theorem NB.yes (h:NB B k b)(hb:P4 b=true):B.D k:=by cases b<;>first|exact h| (cases hb)
theorem NB.of (h:¬B k)(hb:P4 b=false):NB B k b:=by cases b<;>first|exact h| (cases hb)
theorem NB.to {B':BS}(h:NB B k b)(h1:B.D k->B'.D k)(h2:¬B k-> ¬B' k):NB B' k b:=by
 cases b<;>first|exact h1 h|exact h2 h
theorem NB.like {b':Blk}(h:NB B k b)(hb:P4 b=false)(d:P4 b'=false):NB B k b':= .of (h.no hb) d
def rdC :Blk->Option (T Value×Nat×Nat)
 | .cells c n _ z=>some (c,n,z)
 | .ro c n _ z=>some (c,n,z)
 |_=>none
structure HR (B:BS)(w0:World)(σ:Sg)(hp:Hp)(w:World):Prop where
 os:w.os=w0.os
 tape:w.tape=w0.tape
 output:w.output=w0.output
 size:w0.heap.size<=w.heap.size
 old:∀k,B k->k<w0.heap.size
 kept:∀k,B k->w.heap[k]? =w0.heap[k]?
 fresh:∀i,hp.nx<=i->σ i=none
 live:∀i b,hp.m.get i=some b-> ∃p o,σ i=some p/\NB B p.blk b/\w.heap[p.blk]? =some o/\BR σ p b o
 inj:∀i j b b' p q,hp.m.get i=some b->hp.m.get j=some b'->i≠j->σ i=some p->σ j=some q->p.blk≠q.blk
variable {w w0:World}{hp:Hp}{z:Nat}{c:T Value}
theorem HR.liveC      (h : HR B w0 σ hp w) {e:Nat}  ( l : hp.m.get i = some (.cells c n e z)) :
  ∃p C,σ i=some p/\p.esz=z/\ ¬B p.blk/\w.heap[p.blk]? =some (.cells C e (0,0))/\C.size=p.siz/\p.dl+n<=p.siz/\ ∀j,j<n-> ∃v u,c.get j=some v/\C[p.dl+j]? =some u/\VR σ v u:=by
 obtain⟨p,o,h1,h2,h3,C,rfl,h5,d,f,g⟩:=h.live i _ l;exact⟨p,C,h1,h5,h2,h3,d,f,g⟩
theorem HR.liveR      (h : HR B w0 σ hp w)    ( d : hp.m.get i = some b) (hr : rdC b = some (c, n, z)) :
  ∃p C e f,σ i=some p/\p.esz=z/\w.heap[p.blk]? =some (.cells C e f)/\C.size=p.siz/\p.dl+n<=p.siz/\ ∀j v,j<n->c.get j=some v-> ∃u,C[p.dl+j]? =some u/\VR σ v u:=by
 cases b with
 |cells c' n' e l=>
  cases hr;obtain⟨p,C,h1,h2,_,h3,h4,h5,g⟩:=h.liveC d
  grind
 |ro c' n' e l=>
  cases hr;obtain⟨p,o,h1,h2,h3,C,f,rfl,h5,g,q,r⟩:=h.live i _ d
  grind
 |_=>cases hr
theorem HR.drew (h:HR B w0 σ hp w):HR B w0 σ hp w.drew:=
 ⟨h.os,h.tape,h.output,h.size,h.old,h.kept,h.fresh,h.live,h.inj⟩
def fill (c:T Value):Nat->List Value->T Value
 |_,[]=>c
 |k,v::vs=>fill (c.set k (some v)) (k+1) vs
theorem j3 :∀(vs:List Value) (c:T Value) (k j:Nat),(fill c k vs).get j=if k<=j/\j<k+vs.length then vs[j-k]? else c.get j:=by
 intro vs
 induction vs with
 |nil=>intro c k j;simp only[fill,bJ8,bG6];rw[bC1 (by omega)]
 |cons v vs d=>
  intro c k j;simp only[fill,d,T.get_set,bE4]
  grind
def f9 (c:T Value):Nat->Nat->Option (List Value)
 |_,0=>some []
 |o,n+1=>match c.get o with
  |some v=>match f9 c (o+1) n with
   |some vs=>some (v::vs)
   |none=>none
  |none=>none
theorem u6 :∀ {n o:Nat} {vs:List Value},f9 c o n=some vs->vs.length=n/\ ∀j,j<n->vs[j]? =c.get (o+j):=by
 intro n
 induction n with
 |zero=>intro o vs h;simp[f9]at h;subst h;exact⟨rfl,fun j hj=>by omega⟩
 |succ n d=>
  intro o vs h;simp only[f9]at h
  grind
variable {vs:List Value}
theorem HR.cellsR      (h : HR B w0 σ hp w) {o m:Nat}   
  (l:hp.m.get i=some b) (hr:rdC b=some (c,n,z)) (hn:o+m<=n) (hl:f9 c o m=some vs) (hp':σ i=some p):
  ∃us,VRL σ vs us/\us.length=m/\ ∀j u,us[j]? =some u->w.cell? ((⟨p.blk,p.dl+o,none⟩:Addr).add j)=some u:=by
 obtain⟨q,C,e,f,hq,hz,s,hs,hd,hc⟩:=h.liveR l hr;have:q=p:=bC7 (hq.symm.trans hp');subst this;obtain⟨g,d⟩:=u6 hl;refine⟨(C.toList.drop (q.dl+o)).take m,⟨?_,?_⟩,?_,?_⟩
 ·grind
 ·grind
 ·grind
 ·intro j u r
  have hj:j<m:=by grind
  rw[bD4,bC3 hj,bE0]at r;rw[bI7,cell_of_row w q.blk _ C e f s]
  grind
theorem HR.cells      (h : HR B w0 σ hp w) {e o m:Nat}  
  (d:hp.m.get i=some (.cells c n e z)) (hn:o+m<=n) (hl:f9 c o m=some vs) (hp':σ i=some p):
  ∃us,VRL σ vs us/\us.length=m/\ ∀j u,us[j]? =some u->w.cell? ((⟨p.blk,p.dl+o,none⟩:Addr).add j)=some u:=h.cellsR d rfl hn hl hp'
end Go.Xe
end PartXm2
noncomputable section PartXm3
namespace Go.Xe
open Go.RowKit
section
variable {B :BS}{w0:World}{σ:Sg}{hp:Hp}{w:World}
def Sg.ext (σ:Sg)(i:Nat)(p:Pl):Sg:=fun j=>if j=i then some p else σ j
theorem Sg.ext_same (σ:Sg)(i:Nat)(p:Pl):σ.ext i p i=some p:=by simp[Sg.ext]
theorem Sg.ext_other (σ:Sg)(i:Nat)(p:Pl){j:Nat}(h:j≠i):σ.ext i p j=σ j:=by simp[Sg.ext,h]
variable {i:Nat}
theorem Sg.le_ext {σ:Sg}(p:Pl)(h:σ i=none):Sg.le σ (σ.ext i p):=by
 intro j q hq;have d:j≠i:=by intro e;subst e;rw[h]at hq;cases hq
 rw[Sg.ext_other _ _ _ d];exact hq
theorem HR.allocO (h : HR B w0 σ hp w) ( f nx : Nat) (  t : σ  f = none) (  I : hp.nx ≤ nx) (hlt :  f < nx) (b : Blk) (o : Obj) (p : Pl) (hp0 : p.blk = w.heap.size) (hb : BR (σ.ext  f p) p b o) (  D : P4 b = false := by rfl) :
  HR B w0 (σ.ext f p) ⟨hp.m.set f (some b),nx⟩ (w.alloc o):=by
 have A:=Sg.le_ext (σ:=σ) (i:=f) p t;refine⟨h.os,h.tape,h.output,by simp;have:=h.size;omega,h.old,fun k hk=>by rw[Below.heap_alloc _ _ _ (by have:=h.old k hk;have:=h.size;omega)];exact h.kept k hk,?_,?_,?_⟩
 ·intro i hi
  have H:nx<=i:=hi;rw[Sg.ext_other _ _ _ (by omega)]
  exact h.fresh i (by omega)
 ·intro i b' l
  simp only[T.get_set]at l
  by_cases hi:i=f
  ·rw[bC3 hi]at l
   simp only[bA1]at l;subst l;subst hi;refine⟨p,o,Sg.ext_same _ _ _,.of (fun G=>by have h1:=h.old _ G;have h2:=h.size;omega) D,?_,hb⟩
   rw[hp0];show(w.heap.push _)[w.heap.size]? =_;simp
  ·rw[bC1 hi]at l
   obtain⟨q,o',h1,h2,h3,h4⟩:=h.live i b' l;refine⟨q,o',by rw[Sg.ext_other _ _ _ hi];exact h1,h2,?_,h4.mono A⟩
   rw[Below.heap_alloc _ _ _ (bB6.1 h3).1];exact h3
 ·intro i j E F q r hi hj C e d
  simp only[T.get_set]at hi hj
  by_cases s:i=f
  ·have g:j≠f:=by omega
   rw[bC1 g]at hj;rw[s,Sg.ext_same]at e;rw[Sg.ext_other _ _ _ g]at d;obtain⟨K,o',h1,_,h3,_⟩:=h.live j F hj;have:K=r:=bC7 (h1.symm.trans d);subst this;have:=(bB6.1 h3).1;rw[<-bC7 e,hp0];omega
  ·rw[bC1 s]at hi
   rw[Sg.ext_other _ _ _ s]at e
   by_cases g:j=f
   ·rw[g,Sg.ext_same]at d
    obtain⟨J,o',h1,_,h3,_⟩:=h.live i E hi;have:J=q:=bC7 (h1.symm.trans e);subst this;have:=(bB6.1 h3).1;rw[<-bC7 d,hp0];omega
   ·rw[bC1 g]at hj
    rw[Sg.ext_other _ _ _ g]at d;exact h.inj i j _ _ q r hi hj C e d
theorem HR.allocAt (h : HR B w0 σ hp w) ( f nx : Nat) (  d : σ  f = none) (  g : hp.nx ≤ nx) (hlt :  f < nx) (c : T Value) (n e z : Nat) (us : Array Value) (hn : n ≤ us.size)
  (hc:∀j,j<n-> ∃v u,c.get j=some v/\us[j]? =some u/\VR σ v u):
  HR B w0 (σ.ext f ⟨w.heap.size,0,us.size,z⟩) ⟨hp.m.set f (some (.cells c n e z)),nx⟩ (w.alloc (.cells us e)):=by
 refine h.allocO f nx d g hlt _ _ _ rfl ⟨us,rfl,rfl,rfl,by simpa using hn,fun j hj=>?_⟩
 obtain⟨v,u,h1,h2,h3⟩:=hc j hj;exact⟨v,u,h1,by simpa using h2,h3.mono (Sg.le_ext _ d)⟩
theorem HR.alloc (h : HR B w0 σ hp w) (c : T Value) (n e z : Nat) (us : Array Value) (hn : n ≤ us.size)
  (hc:∀j,j<n-> ∃v u,c.get j=some v/\us[j]? =some u/\VR σ v u):
  HR B w0 (σ.ext hp.nx ⟨w.heap.size,0,us.size,z⟩) ⟨hp.m.set hp.nx (some (.cells c n e z)),hp.nx+1⟩ (w.alloc (.cells us e)):=
 h.allocAt hp.nx (hp.nx+1) (h.fresh _ (bC4 _)) (bH4 _) (bG1 _) c n e z us hn hc
variable {p:Pl}
theorem HR.turn (h : HR B w0 σ hp w)  {b b' : Blk} ( C : hp.m.get i = some b)  (  H : σ i = some p) {o : Obj} {w' : World} (hh : w'.heap[p.blk]? = some o)
  (hk:∀k,k≠p.blk->w'.heap[k]? =w.heap[k]?) (hs:w'.heap.size=w.heap.size) (h1:w'.os=w.os) (h2:w'.tape=w.tape) (h3:w'.output=w.output) (hb:BR σ p b' o) (K:P4 b=false:=by rfl) (A:P4 b'=false:=by rfl):
  HR B w0 σ {hp with m:=hp.m.set i (some b')} w':=by
 obtain⟨p',o',D,E,V,W⟩:=h.live i b C;have N:=E.no K;have:p'=p:=bC7 (D.symm.trans H);subst this;refine⟨h1.trans h.os,h2.trans h.tape,h3.trans h.output,by rw[hs];exact h.size,h.old,fun k t=>?_,h.fresh,?_,?_⟩
 ·rw[hk k (fun e=>N (by rw[<-e];exact t))];exact h.kept k t
 ·intro j L hj
  simp only[T.get_set]at hj
  by_cases d:j=i
  ·rw[bC3 d]at hj
   simp only[bA1]at hj;subst hj;subst d;exact⟨p',o,D,.of N A,hh,hb⟩
  ·rw[bC1 d]at hj
   obtain⟨q,S,M,O,Q,R⟩:=h.live j L hj;exact⟨q,S,M,O,by rw[hk _ (h.inj j i _ _ q p' hj C d M D)];exact Q,R⟩
 ·intro a c U L q r F hc G I J
  simp only[T.get_set]at F hc;have f:∃b,hp.m.get a=some b:=by
   by_cases l:a=i
   ·subst l;exact⟨_,C⟩
   ·rw[bC1 l]at F;exact⟨_,F⟩
  have g:∃b,hp.m.get c=some b:=by
   by_cases s:c=i
   ·subst s;exact⟨_,C⟩
   ·rw[bC1 s]at hc;exact⟨_,hc⟩
  obtain⟨_,f⟩:=f;obtain⟨_,g⟩:=g;exact h.inj a c _ _ q r f g G I J
variable {c:T Value}
theorem HR.store (h : HR B w0 σ hp w) {n e z o:Nat}  ( D : hp.m.get i = some (.cells c n e z))  (  s : σ i = some p)
  {vs us:List Value} (l:VRL σ vs us) (h1:∀u∈us,u.oneCell'=true) (K:o<=n) (hs:p.dl+o+vs.length<=p.siz) (P:Program):
  ∃w',(storeCells ⟨p.blk,p.dl+o,none⟩ us).run P w= .ok () w'/\HR B w0 σ {hp with m:=hp.m.set i (some (.cells (fill c o vs) (max n (o+vs.length)) e z))} w'/\w'.heap.size=w.heap.size:=by
 obtain⟨p',C,t,E,I,A,F,J,G⟩:=h.liveC D;have:p'=p:=bC7 (t.symm.trans s);subst this;have hr:=run_storeCells_at P p'.blk (p'.dl+o) e us 0 C w A (by rw[<-l.1];omega) h1
 simp only[bG6]at hr;refine⟨_,hr,?_,by simp[World.setRow]⟩
 have j:=setRow_heap w p'.blk C (C.toList.take (p'.dl+o)++us++C.toList.drop (p'.dl+o+us.length)).toArray e (0,0) A;have d:(C.toList.take (p'.dl+o)++us++C.toList.drop (p'.dl+o+us.length)).toArray.size=C.size:=by
  have:=l.1
  grind
 refine h.turn D t j (fun k hk=>setRow_other w _ k _ hk) (by simp[World.setRow]) rfl rfl rfl ⟨_,rfl,E,by rw[d];exact F,by omega,fun k hk=>?_⟩
 rw[j3];have hl:=l.1
 by_cases f:o<=k/\k<o+vs.length
 ·rw[bC3 f]
  have g:k-o<vs.length:=by omega
  have q:k-o<us.length:=by omega
  refine⟨vs[k-o],us[k-o],by simp[g],?_,l.2 (k-o) _ _ (by simp[g]) (by simp[q])⟩
  simp only[bB5,List.getElem?_toArray];rw[bA9 (by simp;omega),bB0 (by simp;omega)]
  grind
 ·rw[bC1 f]
  have r:k<n:=by omega
  obtain⟨v,u,a1,a2,a3⟩:=G k r;refine⟨v,u,a1,?_,a3⟩;simp only[bB5,List.getElem?_toArray];rw[<-a2]
  by_cases H:k<o
  ·grind
  ·rw[bA9 (by simp;omega),bA9 (by simp;omega),bE0]
   grind
theorem HR.move (h : HR B w0 σ hp w) {n e z o k:Nat}  ( G : hp.m.get i = some (.cells c n e z))  (  g : σ i = some p) (hk : o + k ≤ n)
  (c':T Value) (hc:∀j,j<k->c'.get j=c.get (o+j)):
  HR B w0 (σ.ext hp.nx ⟨p.blk,p.dl+o,p.siz,p.esz⟩) ⟨(hp.m.set i none).set hp.nx (some (.cells c' k e z)),hp.nx+1⟩ w:=by
 have D:=Sg.le_ext (σ:=σ) (i:=hp.nx) ⟨p.blk,p.dl+o,p.siz,p.esz⟩ (h.fresh _ (bC4 _));obtain⟨p',C,O,Q,R,S,U,Z,V⟩:=h.liveC G;have:p'=p:=bC7 (O.symm.trans g);subst this;have W:i≠hp.nx:=by
  intro e;rw[e,h.fresh _ (bC4 _)]at g;cases g
 refine⟨h.os,h.tape,h.output,h.size,h.old,h.kept,?_,?_,?_⟩
 ·intro j hj
  simp at hj;rw[Sg.ext_other _ _ _ (by omega)]
  exact h.fresh j (by omega)
 ·intro j I hj
  simp only[T.get_set]at hj
  by_cases E:j=hp.nx
  ·rw[bC3 E]at hj
   simp only[bA1]at hj;subst hj;subst E;refine⟨_,_,Sg.ext_same _ _ _,R,S,C,rfl,Q,U,by show p'.dl+o+k<=p'.siz;omega,fun j hj=>?_⟩
   obtain⟨v,u,a1,a2,a3⟩:=V (o+j) (by omega)
   refine⟨v,u,by rw[hc j hj];exact a1,?_,a3.mono D⟩
   grind
  ·rw[bC1 E]at hj
   by_cases N:j=i
   ·grind
   ·rw[bC1 N]at hj
    obtain⟨q,X,J,K,L,M⟩:=h.live j I hj;exact⟨q,X,by rw[Sg.ext_other _ _ _ E];exact J,K,L,M.mono D⟩
 ·intro a b Y I q r t hb H l f
  simp only[T.get_set]at t hb
  by_cases F:a=hp.nx
  ·have A:b≠hp.nx:=by omega
   rw[bC1 A]at hb
   by_cases d:b=i
   ·rw[bC3 d]at hb;cases hb
   ·rw[bC1 d]at hb
    rw[F,Sg.ext_same]at l;rw[Sg.ext_other _ _ _ A]at f;rw[<-bC7 l];exact h.inj i b _ _ p' r G hb (Ne.symm d) g f
  ·rw[bC1 F]at t
   by_cases s:a=i
   ·rw[bC3 s]at t;cases t
   ·rw[bC1 s]at t
    rw[Sg.ext_other _ _ _ F]at l
    by_cases A:b=hp.nx
    ·rw[A,Sg.ext_same]at f
     rw[<-bC7 f];exact h.inj a i _ _ q p' t G s l g
    ·rw[bC1 A]at hb
     by_cases d:b=i
     ·rw[bC3 d]at hb;cases hb
     ·rw[bC1 d]at hb
      rw[Sg.ext_other _ _ _ A]at f;exact h.inj a b _ _ q r t hb H l f
theorem HR.sub (h:HR B w0 σ hp w){hp2:Hp}(hn:hp.nx<=hp2.nx)(hm:∀i b,hp2.m.get i=some b->hp.m.get i=some b):HR B w0 σ hp2 w:=
 ⟨h.os,h.tape,h.output,h.size,h.old,h.kept,fun i hi=>h.fresh i (bF8 hn hi),fun i b d=>h.live i b (hm _ _ d),fun i j b b' p q hi hj=>h.inj i j b b' p q (hm _ _ hi) (hm _ _ hj)⟩
end
end Go.Xe
end PartXm3
noncomputable section PartXm4
namespace Go.Xe
open Go.RowKit
structure TR (σ:Sg)(nt:Nat)(tm:T Value)(tmps:Array Value):Prop where
 size:tmps.size=nt
 at_:∀k,VR σ ((tm.get k).getD undef) (tmps.getD k undef)
variable {σ:Sg}{nt:Nat}{tm:T Value}{tmps:Array Value}
theorem TR.mono {σ':Sg}(hs:Sg.le σ σ')(h:TR σ nt tm tmps):TR σ' nt tm tmps:=
 ⟨h.size,fun k=>(h.at_ k).mono hs⟩
variable {v:Value}
theorem TR.put     (h : TR σ nt tm tmps) {d : Nat} (hd : d < nt) {u:Value} ( e : VR σ v u) :
  TR σ nt (tm.set d (some v)) (tmps.setIfInBounds d u):=by
 refine⟨by simpa using h.size,fun k=>?_⟩
 rw[T.get_set]
 by_cases hk:k=d
 ·subst hk
  rw[bC3 rfl];have:k<tmps.size:=by rw[h.size];exact hd
  simp_all
 ·rw[bC1 hk]
  have:=h.at_ k
  simpa [bJ3 (Ne.symm hk)]using this
def ag5 :Value->Bool
 | .bool _| .int _ _| .float _ _| .string _| .pointer none| .slice none _ _| .map none| .nilFunc| .nilIface=>true
 |_=>false
def cst :Value->Bool
 | .agg cs=>cs.toList.all ag5
 | .tuple vs=>vs.toList.all ag5
 |v=>ag5 v
theorem bc6 (σ:Sg)(h:ag5 v=true):VR σ v v:=by
 cases v with
 |bool b=>exact .bool b
 |int k n=>exact .int k n
 |float k n=>exact .float k n
 |string s=>exact .string s
 |pointer a=>cases a with
  |none=>exact .nilp
  |some a=>simp[ag5]at h
 |slice a l c=>cases a with
  |none=>exact .nils l c
  |some a=>simp[ag5]at h
 |map r=>cases r with
  |none=>exact .nilm
  |some a=>simp[ag5]at h
 |nilFunc=>exact .nilf
 |nilIface=>exact .nili
 |_=>simp[ag5]at h
theorem au8 (σ:Sg):∀ {vs:List Value},vs.all ag5=true->VRL σ vs vs
 | [],_=>VRL.nil σ
 |v::vs,h=>by
  simp only[List.all_cons,bA2]at h;exact VRL.cons (bc6 σ h.1) (au8 σ h.2)
theorem M5 (σ:Sg)(h:cst v=true):VR σ v v:=by
 cases v with
 |agg cs=>have:=(au8 σ (show cs.toList.all ag5=true from h)).to_agg;simpa using this
 |tuple vs=>have:=(au8 σ (show vs.toList.all ag5=true from h)).to_tuple;simpa using this
 |bool b=>exact .bool b
 |int k n=>exact .int k n
 |float k n=>exact .float k n
 |string s=>exact .string s
 |nilFunc=>exact .nilf
 |nilIface=>exact .nili
 |_=>exact bc6 σ h
def a8 (tm:T Value):Operand->Option Value
 | .tmp t=>some ((tm.get t).getD undef)
 | .const v=>bif cst v then some v else none
 | .global _=>none
 | .func f=>some (.func (.func f) #[] #[])
theorem U1 {a:Act}(h:TR σ nt tm a.tmps){x:Operand}(hx:a8 tm x=some v):VR σ v (a.eval x):=by
 cases x with
 |tmp t=>simp only[a8,bA1]at hx;subst hx;exact h.at_ t
 |const c=>
  simp only[a8]at hx;cases hc:cst c with
  |false=>grind
  |true=>simp[hc]at hx;subst hx;exact M5 σ hc
 |global g=>simp[a8]at hx
 |func f=>
  simp only[a8,bA1]at hx;subst hx;exact .func _ _ _ _ _ rfl (fun i x y h _=>by simp at h) rfl (fun i x y h _=>by simp at h)
def U2 (tm:T Value):List Operand->Option (List Value)
 | []=>some []
 |x::xs=>match a8 tm x with
  |some v=>match U2 tm xs with
   |some vs=>some (v::vs)
   |none=>none
  |none=>none
def ae1 :TypeDesc->Bool
 | .struct _| .array _ _=>true
 |_=>false
def U5 (P : Program) (t : TypeId) (cs : List Value) (off : Nat) : Option Value :=
 match P.underlying t with
 |none=>none
 | some d => bif ae1 d then
   match P.info? t with
   |some i=>some (.agg ((cs.drop off).take i.size).toArray)
   |none=>none
  else cs[off]?
variable {P:Program}
theorem ac8 {t:TypeId}{d:TypeDesc}(h:P.underlying t=some d)(w:World):(isAgg t).run P w= .ok (ae1 d) w:=by
 unfold isAgg;simp only[bD0,bC5 h,bC6];cases d<;>rfl
theorem aI1 (cs:Array Value)(off n:Nat):cs.extract off (off+n)=((cs.toList.drop off).take n).toArray:=by
 grind
theorem M3   {t : TypeId} {xs : List Value} {off : Nat}  (h : U5 P t xs off = some v) {ys : Array Value} (hy : VRL σ xs ys.toList) :
  ∃u,VR σ v u/\ ∀w,(part t ys off).run P w= .ok u w:=by
 unfold U5 at h;cases f:P.underlying t with
 |none=>grind
 |some d=>
  simp only[f]at h;cases hd:ae1 d with
  |true=>
   simp only[hd,bB8]at h;cases hi:P.info? t with
   |none=>grind
   |some i=>
    simp only[hi,bA1]at h;subst h;refine⟨.agg (ys.extract off (off+i.size)),?_,fun w=>?_⟩
    ·rw[aI1]
     refine VRL.to_agg ⟨by have:=hy.1;simp at this⊢;omega,fun j x y hx e=>?_⟩
     rw[bD4]at hx e
     by_cases hj:j<i.size
     ·rw[bC3 hj,bE0]at hx e
      exact hy.2 _ x y hx e
     ·grind
    ·unfold part
     simp only[bD0,ac8 f,bC6,hd,bI6,sizeOf,typeInfo,bJ4,hi,bD5]
  |false=>
   simp only[hd,bB9]at h;obtain⟨u,g,l⟩:=hy.get h;refine⟨u,l,fun w=>?_⟩
   unfold part;have:ys[off]? =some u:=by simpa using g
   simp only[bD0,ac8 f,bC6,hd,bH1,if_false,this,bD5]
def ah4 (P:Program)(xt:TypeId)(x:Value)(f:Nat):Option Value:=
 match P.underlying xt with
 |some (.struct fs)=>match fs.toList[f]? with
  |some fd=>match x with
   | .agg cs=>U5 P fd.type cs.toList fd.offset
   |_=>none
  |none=>none
 |_=>none
variable {x y:Value}
theorem aL2   { e : TypeId}  {f : Nat}  (h : ah4 P  e x f = some v) (hy : VR σ x y) :
  ∃u,VR σ v u/\ ∀w,(Instr.field e y f).run P w= .ok u w:=by
 unfold ah4 at h;split at h
 ·rename_i g j
  split at h
  ·rename_i fd hf
   split at h
   ·rename_i cs
    obtain⟨ds,rfl,hd⟩:=VRL.of_agg hy;obtain⟨u,h1,h2⟩:=M3 h hd;refine⟨u,h1,fun w=>?_⟩
    have d:g[f]? =some fd:=by grind
    simp[Instr.field,bC5 j,d,asAgg,h2]
   ·cases h
  ·cases h
 ·cases h
def P0 (x:Value)(i:Nat):Option Value:=
 match x with
 | .tuple vs=>vs.toList[i]?
 |_=>none
theorem aA6    {i : Nat}  (h : P0 x i = some v) (hy : VR σ x y) :
  ∃u,VR σ v u/\ ∀w,(Instr.extract y i).run P w= .ok u w:=by
 unfold P0 at h;split at h
 ·rename_i vs
  obtain⟨ds,rfl,hd⟩:=VRL.of_tuple hy;obtain⟨u,h1,h2⟩:=hd.get h;refine⟨u,h2,fun w=>?_⟩
  have:ds[i]? =some u:=by simpa using h1
  simp[Instr.extract,this]
 ·cases h
def ac0 (P : Program) (xt : TypeId) (x i : Value) : Option Value :=
 match i with
 | .int _ n => match P.underlying xt, x with
  | some (.array len e), .agg cs => bif decide (0 ≤ n) && decide (n < len) then
    match P.info? e with
    |some ie=>U5 P e cs.toList (n.toNat*ie.size)
    |none=>none
   else none
  | some .string, .string s => bif decide (0 ≤ n) then
    match s.data.toList[n.toNat]? with
    |some b=>some (.int .u8 b.toNat)
    |none=>none
   else none
  |_,_=>none
 |_=>none
theorem av3 (s:ByteArray)(i:Nat):s[i]? =s.data.toList[i]? :=by
 obtain⟨⟨l⟩⟩:=s;rw[getElem?_def]
 by_cases h:i<l.length
 ·have h1:i<(ByteArray.mk ⟨l⟩).size:=h
  rw[dif_pos h1];simp[h];rfl
 ·have h1:¬i<(ByteArray.mk ⟨l⟩).size:=h
  grind
theorem aL4   { g : TypeId} {i j:Value}  (h : ac0 P  g x i = some v) (hy : VR σ x y) (hj : VR σ i j) :
  ∃u,VR σ v u/\ ∀w,(Instr.index g y j).run P w= .ok u w:=by
 unfold ac0 at h;split at h
 ·rename_i k n
  cases hj;split at h
  ·rename_i len e cs f
   obtain⟨ds,rfl,hd⟩:=VRL.of_agg hy;cases hb:decide (0<=n)&&decide (n<len)with
   |false=>grind
   |true=>
    simp only[hb,bB8]at h;simp only[bA2,bC2]at hb;split at h
    ·rename_i ie d
     obtain⟨u,h1,h2⟩:=M3 h hd;refine⟨u,h1,fun w=>?_⟩
     simp[Instr.index,asIntOf,bC5 f,hb,sizeOf,typeInfo,d,h2]
    ·cases h
  ·rename_i s f
   cases hy;cases hb:decide (0<=n)with
   |false=>grind
   |true=>
    simp only[hb,bB8]at h;simp only[bC2]at hb;split at h
    ·rename_i b hs
     cases h;refine⟨_,.int _ _,fun w=>?_⟩
     have:s[n.toNat]? =some b:=by rw[av3];exact hs
     simp[Instr.index,asIntOf,bC5 f,hb,this]
    ·cases h
  ·cases h
 ·cases h
def splice (cells:List Value)(off:Nat)(vs:List Value):List Value:=cells.take off++vs++cells.drop (off+vs.length)
def al6 (place:Nat->Option (Nat×Nat))(cells:List Value):List (Nat×Value)->Option (List Value)
 | []=>some cells
 | (i,v)::rest=>match place i with
  |none=>none
  |some (off,size)=>bif Nat.beq v.cells.toList.length size&&Nat.ble (off+size) cells.length then al6 place (splice cells off v.cells.toList) rest else none
theorem aq1 (off : Nat) : ∀ (vs : List Value) (k : Nat) (cs : Array Value), off + k + vs.length ≤ cs.size →
  ((vs.zipIdx k).foldl (fun(cs:Array Value) (p:Value×Nat)=>cs.setIfInBounds (off+p.2) p.1) cs).toList=splice cs.toList (off+k) vs
 | [],k,cs,h=>by simp[splice]
 |v::vs,k,cs,h=>by
  simp only[List.zipIdx_cons,List.foldl_cons];simp only[bE4]at h;have d:=aq1 off vs (k+1) (cs.setIfInBounds (off+k) v) (by simp;omega)
  rw[d];unfold splice;have:=list_seg_step cs.toList (off+k) v vs (by simp;omega)
  grind
theorem VRL.splice {σ:Sg}{a b c d:List Value}(h:VRL σ a b)(k:VRL σ c d)(off:Nat):VRL σ (splice a off c) (Xe.splice b off d):=by
 unfold Xe.splice;have ht:VRL σ (a.take off) (b.take off):=⟨by simp[h.1],fun i x y hx hy=>by
  rw[bD4]at hx hy;split at hx
  ·rename_i hi;rw[bC3 hi]at hy;exact h.2 i x y hx hy
  ·cases hx⟩
 have e:VRL σ (a.drop (off+c.length)) (b.drop (off+d.length)):=by
  rw[k.1];exact⟨by simp[h.1],fun i x y hx hy=>by rw[bE0]at hx hy;exact h.2 _ x y hx hy⟩
 exact(ht.append k).append e
def PVR (σ:Sg)(xs ys:List (Nat×Value)):Prop:=xs.length=ys.length/\ ∀(i:Nat) x y,xs[i]? =some x->ys[i]? =some y->x.1=y.1/\VR σ x.2 y.2
variable {xs ys:List (Nat×Value)}
theorem PVR.uncons {x:Nat×Value}(h:PVR σ (x::xs) ys):∃u d,ys=(x.1,u)::d/\VR σ x.2 u/\PVR σ xs d:=by
 cases ys with
 |nil=>exact absurd h.1 (by simp)
 |cons y ys=>
  have h0:=h.2 0 x y rfl rfl;exact⟨y.2,ys,by rw[h0.1],h0.2,by have:=h.1;simpa using this,fun i a b e hb=>h.2 (i+1) a b (by simpa using e) (by simpa using hb)⟩
theorem PVR.unnil (h:PVR σ [] ys):ys=[]:=bA7 h.1.symm
theorem ab8  (place : Nat → Option (Nat × Nat)) : ∀ (xs : List (Nat × Value)) (ys : List (Nat × Value)) (cells r : List Value) (cs : Array Value),
  al6 place cells xs=some r->PVR σ xs ys->VRL σ cells cs.toList-> ∃ds,Instr.fill place cs ys=some ds/\VRL σ r ds.toList:=by
 intro xs
 induction xs with
 |nil=>intro ys cells r cs h hp hc;rw[hp.unnil];simp[al6]at h;subst h;exact⟨cs,rfl,hc⟩
 |cons x xs q=>
  intro ys cells r cs h hp hc;obtain⟨u,g,rfl,o,hp'⟩:=hp.uncons;obtain⟨i,v⟩:=x;simp only[al6]at h;simp only[Instr.fill];cases f:place i with
  |none=>grind
  |some os=>
   obtain⟨off,size⟩:=os;simp only[f]at h⊢;cases hb:Nat.beq v.cells.toList.length size&&Nat.ble (off+size) cells.length with
   |false=>grind
   |true=>
    simp only[hb,bB8]at h;simp only[bA2]at hb;have j:v.cells.toList.length=size:=bA6 hb.1;have s:off+size<=cells.length:=bA5 hb.2;have d:=o.cells;have l:u.cells.size=size:=by rw[<-j,d.1];simp
    have m:off+u.cells.size<=cs.size:=by rw[l];have:=hc.1;simp at this;omega
    have e:¬(decide (u.cells.size≠size)||decide (off+u.cells.size>cs.size))=true:=by grind
    rw[bC1 e];have hf:(u.cells.zipIdx.foldl (fun(cs:Array Value) (p:Value×Nat)=>cs.setIfInBounds (off+p.2) p.1) cs).toList=splice cs.toList off u.cells.toList:=by
     rw[<-Array.foldl_toList,Array.toList_zipIdx];exact aq1 off u.cells.toList 0 cs (by simpa using m)
    refine q g _ r _ h hp' ?_;rw[hf];exact hc.splice d off
def W9 (P:Program):List Field->Option (List (Nat×Nat))
 | []=>some []
 |f::fs=>match P.info? f.type with
  |some i=>match W9 P fs with
   |some r=>some ((f.offset,i.size)::r)
   |none=>none
  |none=>none
theorem ay4 {P : Program} (w : World) : ∀ { d : List Field} {r : List (Nat × Nat)}, W9 P  d = some r →
  (d.mapM fun f=>do pure (f.offset,<-sizeOf f.type):Sem (List (Nat×Nat))).run P w= .ok r w
 | [],r,h=>by simp[W9]at h;subst h;simp
 |f::d,r,h=>by
  simp only[W9]at h;cases hi:P.info? f.type with
  |none=>grind
  |some i=>
   cases hr:W9 P d with
   |none=>grind
   |some g=>
    simp[hi,hr]at h;subst h;have e:=ay4 (P:=P) w hr;have hs:(sizeOf f.type).run P w= .ok i.size w:=by simp[sizeOf,typeInfo,hi]
    simp_all
def E1 (P:Program)(t:TypeId):Option Value:=match P.info? t with
 |some i=>match i.zero with
  |some z=>bif cst z then some z else none
  |none=>none
 |none=>none
theorem D4 {t:TypeId}{z:Value}(h:E1 P t=some z):cst z=true/\ ∀w,(zeroValue t).run P w= .ok z w:=by
 unfold E1 at h;split at h
 ·rename_i i hi
  split at h
  ·rename_i d hz
   cases hc:cst d with
   |false=>grind
   |true=>
    simp only[hc,bB8,bA1]at h;subst h;exact⟨hc,fun w=>by simp[zeroValue,typeInfo,hi,hz]⟩
  ·cases h
 ·cases h
def ah1 (P:Program)(t:TypeId)(parts:List (Nat×Value)):Option Value:=
 match E1 P t with
 |none=>none
 |some z=>match P.underlying t with
  |some (.struct fs)=>match W9 P fs.toList with
   |some pl=>match al6 (fun i=>pl[i]?) z.cells.toList parts with
    |some cs=>some (.agg cs.toArray)
    |none=>none
   |none=>none
  |some (.array _ e)=>match P.info? e with
   |some ie=>match al6 (fun i=>some (i*ie.size,ie.size)) z.cells.toList parts with
    |some cs=>some (.agg cs.toArray)
    |none=>none
   |none=>none
  |_=>none
theorem aK9   {t : TypeId}  {ys : Array (Nat × Value)}  (h : ah1 P t xs = some v) (hy : PVR σ xs ys.toList) :
  ∃u,VR σ v u/\ ∀w,(Instr.build t ys).run P w= .ok u w:=by
 unfold ah1 at h;split at h
 ·cases h
 ·rename_i z hz
  obtain⟨hc,d⟩:=D4 hz;have g:=(M5 σ hc).cells;split at h
  ·rename_i r q
   split at h
   ·rename_i pl m
    split at h
    ·rename_i cs hf
     cases h;obtain⟨ds,h1,h2⟩:=ab8 (σ:=σ) _ _ _ _ _ _ hf hy g;refine⟨.agg ds,by have:=h2.to_agg;simpa using this,fun w=>?_⟩
     have o:=ay4 (P:=P) w m;have hm:(r.mapM fun f=>do pure (f.offset,<-sizeOf f.type):Sem (Array (Nat×Nat))).run P w= .ok pl.toArray w:=by
      rw[Array.mapM_eq_mapM_toList,Sem.run_map,o];rfl
     have j:(fun x:Nat=>pl.toArray[x]?)=fun i:Nat=>pl[i]? :=by grind
     unfold Instr.build;simp only[bD0,d,bC6,bC5 q,hm,j,h1,bD5]
    ·cases h
   ·cases h
  ·rename_i n e q
   split at h
   ·rename_i ie l
    split at h
    ·rename_i cs hf
     cases h;obtain⟨ds,h1,h2⟩:=ab8 (σ:=σ) _ _ _ _ _ _ hf hy g;refine⟨.agg ds,by have:=h2.to_agg;simpa using this,fun w=>?_⟩
     simp[Instr.build,d,bC5 q,sizeOf,typeInfo,l,h1]
    ·cases h
   ·cases h
  ·cases h
end Go.Xe
end PartXm4
noncomputable section PartXm5
namespace Go.Xe
open Go.RowKit
def Z9 (x:Value):Option (IntKind×Nat×Nat):=
 match x with
 | .complex f lo hi=>some (S7 f lo,ag2 lo,hi)
 | .int k (.ofNat n)=>some (k,n,n+1)
 |_=>none
variable {σ:Sg}{x x':Value}{k:IntKind}
theorem N3    {lo hi : Nat} (h : Z9 x = some (k, lo, hi)) (hx : VR σ x x') :
  ∃n:Nat,x'= .int k n/\lo<=n/\(hi=0\/n<hi):=by
 unfold Z9 at h;split at h
 ·simp only[bA1,bA3]at h
  obtain⟨rfl,rfl,rfl⟩:=h;cases hx with
  |ival _ _ _ n h1 h2=>grind
 ·rename_i k n
  simp only[bA1,bA3]at h;obtain⟨rfl,rfl,rfl⟩:=h;cases hx
  grind
 ·cases h
def af1 (a b:Nat×Nat):Option Bool:=
 bif !(Nat.beq a.2 0)&&Nat.ble a.2 b.1 then some true else bif !(Nat.beq b.2 0)&&Nat.ble b.2 (a.1+1)then some false else none
theorem P9 {a b:Nat×Nat}{r:Bool}(h:af1 a b=some r){n m:Nat}(h1:a.1<=n)(h2:a.2=0\/n<a.2)(h3:b.1<=m)(h4:b.2=0\/m<b.2):r=decide ((n:Int)<(m:Int)):=by
 unfold af1 at h;cases hb: !(Nat.beq a.2 0)&&Nat.ble a.2 b.1 with
 |true=>
  rw[hb,bB8]at h;simp only[bA2]at hb;have:=bA5 hb.2;have h0:a.2≠0:=fun e=>by rw[e]at hb;simp at hb
  cases h
  grind
 |false=>
  rw[hb,bB9]at h;cases hc: !(Nat.beq b.2 0)&&Nat.ble b.2 (a.1+1)with
  |true=>
   rw[hc,bB8]at h;simp only[bA2]at hc;have:=bA5 hc.2;have h0:b.2≠0:=fun e=>by rw[e]at hc;simp at hc
   cases h
   grind
  |false=>grind
def V0 (a b:Nat×Nat):Bool:=
 match af1 a b with
 |some true=>true
 |_=>match af1 b a with
  |some true=>true
  |_=>false
def ieqF (x y:Value):Option Bool:=
 match Z9 x,Z9 y with
 |some (k,a),some (k',b)=>bif decide (k=k')&&V0 a b then some false else none
 |_,_=>none
variable {y y':Value}
theorem aw3 {b:Bool}(h:ieqF x y=some b)(hx:VR σ x x')(hy:VR σ y y'):b=false/\ ∃k n m,x'= .int k n/\y'= .int k m/\n≠m:=by
 unfold ieqF at h;split at h
 ·rename_i k a k' c r hc
  obtain⟨a1,a2⟩:=a;obtain⟨o,q⟩:=c;obtain⟨n,rfl,j,l⟩:=N3 r hx;obtain⟨m,rfl,f,g⟩:=N3 hc hy;cases hk:decide (k=k')&&V0 (a1,a2) (o,q)with
  |false=>grind
  |true=>
   rw[hk,bB8,bA1]at h;simp only[bA2,bC2]at hk;obtain⟨rfl,d⟩:=hk;refine⟨h.symm,k,n,m,rfl,rfl,?_⟩;unfold V0 at d;split at d
   ·rename_i e;have:=P9 e j l f g;simp at this;omega
   ·split at d
    ·rename_i e;have:=P9 e f g j l;simp at this;omega
    ·cases d
 ·cases h
def aA5 (P:Program)(eq:TypeId->Value->Value->Option Bool)(xs ys:List Value):List Field->Option Bool
 | []=>some true
 |f::fs=>bif f.name== "_" then aA5 P eq xs ys fs else
  match U5 P f.type xs f.offset,U5 P f.type ys f.offset with
  |some a,some b=>match eq f.type a b with
   |some true=>aA5 P eq xs ys fs
   |some false=>some false
   |none=>none
  |_,_=>none
def xeq (P : Program) : Nat → TypeId → Value → Value → Option Bool
 |0,_,_,_=>none
 | d + 1, t, x, y => match P.underlying t, x, y with
  |some .bool,.bool a,.bool b=>some (a==b)
  |some (.int _),.int k a,.int k' b=>bif decide (k=k')then some (decide (a=b))else none
  |some (.int _),.complex f lo hi,.int k a=>ieqF (.complex f lo hi) (.int k a)
  |some (.int _),.int k a,.complex f lo hi=>ieqF (.int k a) (.complex f lo hi)
  |some .string,.string a,.string b=>some (a.data.toList==b.data.toList)
  |some (.pointer _),.pointer none,.pointer b=>some b.isNone
  |some (.pointer _),.pointer (some _),.pointer none=>some false
  | some (.pointer e), .pointer (some a), .pointer (some b) => bif Nat.beq a.block b.block then
    match P.info? e with
    |some ie=>bif Nat.beq ie.size 0 then none else some (Nat.beq a.off b.off)
    |none=>none
   else none
  |some (.struct fs),.agg xs,.agg ys=>bif P.stoodInHeld t then none else aA5 P (xeq P d) xs.toList ys.toList fs.toList
  |some (.slice _),.slice none _ _,.slice b _ _=>some b.isNone
  |some (.slice _),.slice (some _) _ _,.slice none _ _=>some false
  |some (.map _ _),.map none,.map b=>some b.isNone
  |some (.map _ _),.map (some _),.map none=>some false
  |some (.func _ _ _),.nilFunc,.nilFunc=>some true
  |some (.func _ _ _),.nilFunc,.func _ _ _=>some false
  |some (.func _ _ _),.func _ _ _,.nilFunc=>some false
  |some (.interface _),.nilIface,.iface _ _=>some false
  |some (.interface _),.iface _ _,.nilIface=>some false
  | some (.interface _), .iface tx vx, .iface ty vy => bif decide (tx = ty) then
    match P.info? tx with
    |some i=>bif i.comparable then xeq P d tx vx vy else none
    |none=>none
   else some false
  |_,_,_=>none
theorem ah3 {P : Program} {σ : Sg} {d : Nat} {eq : TypeId → Value → Value → Option Bool}
  (hq:∀t x y b,eq t x y=some b-> ∀x' y',VR σ x x'->VR σ y y'-> ∀w,(Op.equalIn d t x' y').run P w= .ok b w)
  {xs ys:List Value} {j l:Array Value} (hx:VRL σ xs j.toList) (hy:VRL σ ys l.toList) (w:World):
  ∀ {m:List Field} {b:Bool},aA5 P eq xs ys m=some b->(Op.eqFields d j l m).run P w= .ok b w
 | [],b,h=>by simp[aA5]at h;subst h;simp[Op.eqFields]
 |f::m,b,h=>by
  simp only[aA5]at h
  by_cases hn:f.name= "_"
  ·have:(f.name== "_")=true:=by simpa using hn
   rw[this,bB8]at h;simp only[Op.eqFields,hn,ne_eq,not_true_eq_false,if_false];exact ah3 hq hx hy w h
  ·have:(f.name== "_")=false:=by simpa using hn
   rw[this,bB9]at h;split at h
   ·rename_i a c r hc
    obtain⟨a',e,o⟩:=M3 r hx;obtain⟨c',g,q⟩:=M3 hc hy;simp only[Op.eqFields,ne_eq,hn,bF6,bI6,bD0,o,q,bC6];split at h
    ·rename_i he
     rw[hq _ _ _ _ he _ _ e g w];simp only[bC6,Bool.not_true,bH1,if_false];exact ah3 hq hx hy w h
    ·rename_i he
     rw[hq _ _ _ _ he _ _ e g w];cases h
     simp_all
    ·cases h
   ·cases h
variable {P:Program}
theorem ao8   : ∀ (d : Nat) (t : TypeId) (x y : Value) (b : Bool), xeq P d t x y = some b → ∀ x' y', VR σ x x' → VR σ y y' →
  ∀w,(Op.equalIn d t x' y').run P w= .ok b w:=by
 intro d
 induction d with
 |zero=>intro t x y b h;simp[xeq]at h
 |succ d N=>
  intro t x y b h x' y' hx hy w;simp only[xeq]at h;split at h
  ·rename_i a c f;cases hx;cases hy;simp only[bA1]at h;subst h;simp[Op.equalIn,bC5 f]
  ·rename_i k k' a J c f
   cases hx;cases hy;cases hk:decide (k'=J)with
   |false=>rw[hk]at h;cases h
   |true=>
    rw[hk]at h;simp only[bC2]at hk;subst hk;simp only[bB8,bA1]at h;subst h;rw[run_equalIn_int w d t _ _ _ _ f]
    congr 1
  ·rename_i f
   obtain⟨rfl,k,n,m,rfl,rfl,A⟩:=aw3 h hx hy;rw[run_equalIn_int w d t _ _ _ _ f];simp[A]
  ·rename_i f
   obtain⟨rfl,k,n,m,rfl,rfl,A⟩:=aw3 h hx hy;rw[run_equalIn_int w d t _ _ _ _ f];simp[A]
  ·rename_i a c f;cases hx;cases hy;simp only[bA1]at h;subst h
   rw[run_equalIn_string w d t _ _ f,bJ5,bJ5]
  ·rename_i e c f;simp only[bA1]at h;subst h
   cases hx;have hn:∃c',y'= .pointer c'/\c'.isNone=c.isNone:=by cases hy<;>exact⟨_,rfl,rfl⟩
   obtain⟨c',rfl,hn⟩:=hn;simp[Op.equalIn,bC5 f,hn]
  ·rename_i e c f;simp only[bA1]at h;subst h
   cases hx;cases hy;simp[Op.equalIn,bC5 f]
  ·rename_i e a c f
   cases hx with
   |ptr i o p hp=>
   cases hy with
   |ptr j q r hr=>
   simp only at h;cases g:Nat.beq i j with
   |false=>rw[g]at h;cases h
   |true=>
    rw[g]at h;have g:=bA6 g;subst g;have D:p=r:=bC7 (hp.symm.trans hr);subst D;simp only[bB8]at h;split at h
    ·rename_i ie C
     cases hz:Nat.beq ie.size 0 with
     |true=>rw[hz]at h;cases h
     |false=>
      rw[hz]at h;simp only[bB9,bA1]at h;subst h;have I:ie.size≠0:=fun e=>by rw[e]at hz;cases hz
      simp only[Op.equalIn,bD0,bC5 f,bC6,sizeOf,typeInfo,bJ4,C,bD5,ne_eq,I,bF6,bI6,sameAddr,beq_self_eq_true]
      congr 1
      by_cases e:o=q
      ·subst e;rw[l8 rfl];simp
      ·rw[n8 e]
       simp
    ·cases h
  ·rename_i R xs ys f
   cases hs:P.stoodInHeld t with
   |true=>rw[hs]at h;cases h
   |false=>
    rw[hs,bB9]at h;obtain⟨K,rfl,G⟩:=VRL.of_agg hx;obtain⟨L,rfl,H⟩:=VRL.of_agg hy;have hf:P.fieldsOf t=R:=by simp[Program.fieldsOf,f]
    rw[run_equalIn_struct w d t K L (by rw[hf];exact f) hs,hf]
    exact ah3 (fun t x y b hb x' y' h1 h2 w=>N t x y b hb x' y' h1 h2 w) G H w h
  ·rename_i e l c b' l' c' f;simp only[bA1]at h;subst h
   cases hx;have hn:∃s O M,y'= .slice s O M/\s.isNone=b'.isNone:=by cases hy<;>exact⟨_,_,_,rfl,rfl⟩
   obtain⟨s,O,M,rfl,hn⟩:=hn;simp[Op.equalIn,bC5 f,hn]
  ·rename_i e a l c l' c' f;simp only[bA1]at h;subst h
   cases hx<;>cases hy<;>simp[Op.equalIn,bC5 f]
  ·rename_i k e b' f;simp only[bA1]at h;subst h
   cases hx;have hn:∃s,y'= .map s/\s.isNone=b'.isNone:=by cases hy<;>exact⟨_,rfl,rfl⟩
   obtain⟨s,rfl,hn⟩:=hn;simp[Op.equalIn,bC5 f,hn]
  ·rename_i k e a f;simp only[bA1]at h;subst h
   cases hx;cases hy;simp[Op.equalIn,bC5 f]
  ·rename_i f;simp only[bA1]at h;subst h;cases hx;cases hy;simp[Op.equalIn,bC5 f]
  ·rename_i f;simp only[bA1]at h;subst h;cases hx;cases hy;simp[Op.equalIn,bC5 f]
  ·rename_i f;simp only[bA1]at h;subst h;cases hx;cases hy;simp[Op.equalIn,bC5 f]
  ·rename_i f;simp only[bA1]at h;subst h;cases hx;cases hy;simp[Op.equalIn,bC5 f]
  ·rename_i f;simp only[bA1]at h;subst h;cases hx;cases hy;simp[Op.equalIn,bC5 f]
  ·rename_i V Q vx ty U f
   cases hx with
   |iface _ _ S E=>
   cases hy with
   |iface _ _ T F=>
   cases ht:decide (Q=ty)with
   |false=>
    rw[ht]at h;simp only[bB9,bA1]at h;subst h;simp only[bE9]at ht;simp[Op.equalIn,bC5 f,ht]
   |true=>
    rw[ht]at h;simp only[bC2]at ht;subst ht;simp only[bB8]at h;split at h
    ·rename_i i hi
     cases hc:i.comparable with
     |false=>rw[hc]at h;cases h
     |true=>
      rw[hc,bB8]at h;have:=N Q vx U b h S T E F w;simp[Op.equalIn,bC5 f,typeInfo,hi,hc,this]
    ·cases h
  ·cases h
def ah2 (op:BinOp)(a b:Int):Option Value:=
 match op with
 | .eql=>some (.bool (decide (a=b)))
 | .neq=>some (.bool (!decide (a=b)))
 | .lss=>some (.bool (decide (a<b)))
 | .leq=>some (.bool (decide (a<=b)))
 | .gtr=>some (.bool (decide (b<a)))
 | .geq=>some (.bool (decide (b<=a)))
 |_=>none
def t8 (op:BinOp)(k:IntKind)(a b:Int):Option Value:=
 match op with
 | .add=>some (.int k (k.wrap (a+b)))
 | .sub=>some (.int k (k.wrap (a-b)))
 | .mul=>some (.int k (k.wrap (a*b)))
 | .quo=>bif decide (b=0)then none else some (.int k (k.wrap (a.tdiv b)))
 | .rem=>bif decide (b=0)then none else some (.int k (a.tmod b))
 | .and| .or| .xor| .andNot=>some (.int k (bits op k a b))
 |_=>ah2 op a b
def ap5 (op:BinOp)(k:IntKind)(a b:Int):Option Value:=
 bif decide (b<0)then none else
 match op with
 | .shl=>some (.int k (k.wrap (a*2^(min b.toNat k.bits))))
 | .shr=>some (.int k (a.fdiv (2^(min b.toNat k.bits))))
 |_=>none
def bt2 (op:BinOp)(a b:ByteArray):Option Value:=
 match op with
 | .add=>bif Nat.ble (a.data.toList.length+b.data.toList.length) 1000000000 then some (.string ⟨(a.data.toList++b.data.toList).toArray⟩)else none
 | .eql=>some (.bool (a.data.toList==b.data.toList))
 | .neq=>some (.bool (!(a.data.toList==b.data.toList)))
 | .lss=>some (.bool (Op.bytesLess a.data.toList b.data.toList))
 | .leq=>some (.bool (Op.bytesLess a.data.toList b.data.toList||a.data.toList==b.data.toList))
 | .gtr=>some (.bool (!(Op.bytesLess a.data.toList b.data.toList||a.data.toList==b.data.toList)))
 | .geq=>some (.bool (!Op.bytesLess a.data.toList b.data.toList))
 |_=>none
def E2 (P:Program)(t:TypeId):Value->Bool
 | .agg _=> !P.eqGuardType P.depth t
 | .nilIface=>false
 | .complex _ _ _=>false
 | .float _ _=>false
 |_=>true
def ae4 (P:Program)(op:BinOp)(t:TypeId)(x y:Value):Option Value:=
 match x,y with
 | .int k a,.int k' b=>match op with
  | .shl| .shr=>ap5 op k a b
  |_=>bif decide (k=k')then t8 op k a b else none
 | .string a,.string b=>bt2 op a b
 |_,.complex _ _ _=>none
 |x,y=>match op with
  | .eql=>bif E2 P t x then match xeq P 10000 t x y with
   |some b=>some (.bool b)
   |none=>none else none
  | .neq=>bif E2 P t x then match xeq P 10000 t x y with
   |some b=>some (.bool (!b))
   |none=>none else none
  |_=>none
variable {op:BinOp}{a b:Int}{v:Value}
theorem K6 (h:ah2 op a b=some v):VR σ v v/\ ∀w,(Op.intCmp op a b).run P w= .ok v w:=by
 cases op<;>simp only[ah2,bA1,reduceCtorEq]at h<;>subst h<;>refine⟨.bool _,fun w=>?_⟩<;>simp[Op.intCmp]<;>by_cases e:a=b<;>simp[e]
theorem aK7       (h : t8 op k a b = some v) (h1 : op ≠ .shl) (h2 : op ≠ .shr) (t : TypeId) :
  VR σ v v/\ ∀w,(binOp op t (.int k a) (.int k b)).run P w= .ok v w:=by
 cases op
 case shl=>exact absurd rfl h1
 case shr=>exact absurd rfl h2
 case quo=>
  simp only[t8]at h;cases hb:decide (b=0)with
  |true=>grind
  |false=>
   rw[hb]at h;simp only[bE9]at hb;simp only[bB9,bA1]at h;subst h;exact⟨.int _ _,fun w=>by simp[binOp_quo,Op.intDiv,hb]⟩
 case rem=>
  simp only[t8]at h;cases hb:decide (b=0)with
  |true=>grind
  |false=>
   rw[hb]at h;simp only[bE9]at hb;simp only[bB9,bA1]at h;subst h;exact⟨.int _ _,fun w=>by simp[binOp_rem,Op.intDiv,hb]⟩
 case add=>simp only[t8,bA1]at h;subst h;exact⟨.int _ _,fun w=>by simp[binOp_add,Op.intArith]⟩
 case sub=>simp only[t8,bA1]at h;subst h;exact⟨.int _ _,fun w=>by simp[binOp_sub,Op.intArith]⟩
 case mul=>simp only[t8,bA1]at h;subst h;exact⟨.int _ _,fun w=>by simp[binOp_mul,Op.intArith]⟩
 case and=>simp only[t8,bA1]at h;subst h;exact⟨.int _ _,fun w=>by simp[binOp_and,intBits_and]⟩
 case or=>simp only[t8,bA1]at h;subst h;exact⟨.int _ _,fun w=>by simp[binOp_or,intBits_or]⟩
 case xor=>simp only[t8,bA1]at h;subst h;exact⟨.int _ _,fun w=>by simp[binOp_xor,intBits_xor]⟩
 case andNot=>simp only[t8,bA1]at h;subst h;exact⟨.int _ _,fun w=>by simp[binOp_andNot,intBits_andNot]⟩
 case eql=>
  obtain⟨h3,h4⟩:=K6 (σ:=σ) (P:=P) (op:= .eql) h;exact⟨h3,fun w=>by simpa [binOp]using h4 w⟩
 case neq=>
  obtain⟨h3,h4⟩:=K6 (σ:=σ) (P:=P) (op:= .neq) h;exact⟨h3,fun w=>by simpa [binOp]using h4 w⟩
 case lss=>
  obtain⟨h3,h4⟩:=K6 (σ:=σ) (P:=P) (op:= .lss) h;exact⟨h3,fun w=>by simpa [binOp]using h4 w⟩
 case leq=>
  obtain⟨h3,h4⟩:=K6 (σ:=σ) (P:=P) (op:= .leq) h;exact⟨h3,fun w=>by simpa [binOp]using h4 w⟩
 case gtr=>
  obtain⟨h3,h4⟩:=K6 (σ:=σ) (P:=P) (op:= .gtr) h;exact⟨h3,fun w=>by simpa [binOp]using h4 w⟩
 case geq=>
  obtain⟨h3,h4⟩:=K6 (σ:=σ) (P:=P) (op:= .geq) h;exact⟨h3,fun w=>by simpa [binOp]using h4 w⟩
theorem am2    {yk:IntKind}   (h : ap5 op k a b = some v) :
  VR σ v v/\ ∀w,(Op.shift op k a yk b).run P w= .ok v w:=by
 unfold ap5 at h;cases hb:decide (b<0)with
 |true=>grind
 |false=>
  rw[hb,bB9]at h;simp only[bE9]at hb;split at h
  ·simp only[bA1]at h;subst h;exact⟨.int _ _,fun w=>by simp[Op.shift,hb]⟩
  ·simp only[bA1]at h;subst h;exact⟨.int _ _,fun w=>by simp[Op.shift,hb]⟩
  ·cases h
theorem am3 (a b:ByteArray):a++b=⟨(a.data.toList++b.data.toList).toArray⟩:=by
 apply ByteArray.ext
 simp_all
theorem ba1    {a b : ByteArray}  (h : bt2 op a b = some v) :
  VR σ v v/\ ∀w,(Op.stringOp op a b).run P w= .ok v w:=by
 cases op<;>simp only[bt2,bA1,reduceCtorEq]at h
 case add=>
  cases hb:Nat.ble (a.data.toList.length+b.data.toList.length) 1000000000 with
  |false=>grind
  |true=>
   rw[hb]at h;simp only[bB8,bA1]at h;subst h;have hb:=bA5 hb;have e:a.size=a.data.toList.length:=by simp
   have f:b.size=b.data.toList.length:=by simp
   have d:¬((a.size+b.size:Nat):Int)>IntKind.i64.max:=by rw[IntKind.max_i64,e,f];omega
   refine⟨.string _,fun w=>?_⟩
   simp only[Op.stringOp,bC1 d,bD5,am3]
 all_goals
  subst h;refine⟨.bool _,fun w=>?_⟩
  simp only[Op.stringOp,bJ5,bD5]
theorem ah0    {t : TypeId}   (h : ae4 P op t x y = some v) (hx : VR σ x x') (hy : VR σ y y') ( r  s : Operand) :
  VR σ v v/\ ∀w,((eqGuard op t r s x' y').run P w= .ok () w)/\(binOp op t x' y').run P w= .ok v w:=by
 unfold ae4 at h;split at h
 ·rename_i k a k' b
  cases hx;cases hy;split at h
  ·obtain⟨h1,h2⟩:=am2 (σ:=σ) (P:=P) (yk:=k') h
   exact⟨h1,fun w=>⟨by rw[eqGuard_at_int];rfl,by rw[binOp_shl];exact h2 w⟩⟩
  ·obtain⟨h1,h2⟩:=am2 (σ:=σ) (P:=P) (yk:=k') h
   exact⟨h1,fun w=>⟨by rw[eqGuard_at_int];rfl,by rw[binOp_shr];exact h2 w⟩⟩
  ·rename_i j l
   cases hk:decide (k=k')with
   |false=>rw[hk]at h;cases h
   |true=>
    rw[hk]at h;simp only[bC2]at hk;subst hk;obtain⟨h1,h2⟩:=aK7 (σ:=σ) (P:=P) (show t8 op k a b=some v from h) j l t;exact⟨h1,fun w=>⟨by rw[eqGuard_at_int];rfl,h2 w⟩⟩
 ·rename_i a b
  cases hx;cases hy;obtain⟨h1,h2⟩:=ba1 (σ:=σ) (P:=P) h;exact⟨h1,fun w=>⟨by rw[eqGuard_at_string];rfl,by cases op<;>exact h2 w⟩⟩
 ·cases h
 ·rename_i   m   o   q
  have  e : E2 P t x = true → ∀ w, (eqGuard op t  r  s x' y').run P w = .ok () w := by
   intro e w;cases hx <;> first
    | (simp[E2]at e;done)
    | (simp only [E2, bE7] at  e
       cases hy<;>first| (rw[run_eqGuard_agg (h:=w) _ _ _ _ _ _ e];done)| (exact run_eqGuard_agg w op t r s _ _ e)| (cases op<;>rfl))
    | (cases op<;>rfl)
  have f:∀b,xeq P 10000 t x y=some b-> ∀w,(Op.equal t x' y').run P w= .ok b w:=fun b hb w=>ao8 10000 t x y b hb x' y' hx hy w
  have   g : E2 P t x = true → (∀ w, (binOp .eql t x' y').run P w = (do pure (.bool (← Op.equal t x' y')) : Sem Value).run P w) ∧
    (∀w,(binOp .neq t x' y').run P w=(do pure (.bool (!(<-Op.equal t x' y'))):Sem Value).run P w):=by
   intro d
   constructor<;>intro w<;>cases hx<;>cases hy<;>first|rfl| (exact(o _ _ _ _ rfl rfl).elim)| (exact(q _ _ rfl rfl).elim)| (exact(m _ _ _ rfl).elim)| (simp[E2]at d)
  split at h
  ·cases d:E2 P t x with
   |false=>rw[d]at h;cases h
   |true=>
    rw[d,bB8]at h;split at h
    ·rename_i b hb
     simp only[bA1]at h;subst h;exact⟨.bool _,fun w=>⟨e d w,by rw[(g d).1 w];simp only[bD0,f b hb w,bC6,bD5]⟩⟩
    ·cases h
  ·cases d:E2 P t x with
   |false=>rw[d]at h;cases h
   |true=>
    rw[d,bB8]at h;split at h
    ·rename_i b hb
     simp only[bA1]at h;subst h;exact⟨.bool _,fun w=>⟨e d w,by rw[(g d).2 w];simp only[bD0,f b hb w,bC6,bD5]⟩⟩
    ·cases h
  ·cases h
end Go.Xe
end PartXm5
noncomputable section PartXm6
namespace Go.Xe
open Go.RowKit
def bt1 (n:Int):Option Value:=some (.string (Utf8.encode n))
def ab7 (P:Program)(src dst:TypeId)(x:Value):Option Value:=
 match P.underlying src with
 |none=>none
 |some _=>match P.underlying dst,x with
  |some (.int k),.int _ n=>some (.int k (k.wrap n))
  |some .string,.string s=>some (.string s)
  |some .string,.int _ n=>bt1 n
  |some (.int .i64),.complex _ lo hi=>bif Nat.ble 1 hi&&Nat.ble hi unk then some (.complex .f64 (ag2 lo) hi)else none
  |some (.int .u64),.complex _ lo hi=>bif Nat.ble 1 hi&&Nat.ble hi unk then some (.complex .f32 (ag2 lo+18446744073709551616) hi)else none
  |_,_=>none
variable {P:Program}{σ:Sg}{v x x':Value}
theorem aS6   {src dst : TypeId}  (h : ab7 P src dst x = some v) (hx : VR σ x x') :
  ∃u,VR σ v u/\ ∀w,(convert src dst x').run P w= .ok u w:=by
 unfold ab7 at h;split at h
 ·cases h
 ·rename_i d hs
  split at h
  ·rename_i k k' n hd
   cases hx;simp only[bA1]at h;subst h;exact⟨_,.int _ _,fun w=>by simp[convert,bC5 hs,bC5 hd,Conv.intToInt]⟩
  ·rename_i s hd
   cases hx;simp only[bA1]at h;subst h;exact⟨_,.string _,fun w=>by simp[convert,bC5 hs,bC5 hd]⟩
  ·rename_i k n hd
   cases hx;unfold bt1 at h;simp only[bA1]at h;subst h;exact⟨_,.string _,fun w=>by simp[convert,bC5 hs,bC5 hd,Conv.intToString]⟩
  ·rename_i f lo hi hd
   cases hb:Nat.ble 1 hi&&Nat.ble hi unk with
   |false=>grind
   |true=>
    rw[hb,bB8]at h;simp only[bA2]at hb;have g:=bA5 hb.1;have j:=bA5 hb.2;simp only[bA1]at h;subst h;cases hx with
    |ival _ _ _ n h1 h2=>
     have hn:n<unk:=by omega
     refine⟨_,.ival .f64 (ag2 lo) hi n (bF8 (aI6 _) h1) h2,fun w=>?_⟩
     have e:IntKind.i64.wrap (n:Int)=n:=by rw[IntKind.wrap_i64];unfold unk at hn;omega
     simp[convert,bC5 hs,bC5 hd,Conv.intToInt,e,S7,bl7]
  ·rename_i f lo hi hd
   cases hb:Nat.ble 1 hi&&Nat.ble hi unk with
   |false=>grind
   |true=>
    rw[hb,bB8]at h;simp only[bA2]at hb;have g:=bA5 hb.1;have j:=bA5 hb.2;simp only[bA1]at h;subst h;cases hx with
    |ival _ _ _ n h1 h2=>
     have hn:n<unk:=by omega
     have l:ag2 (ag2 lo+18446744073709551616)=ag2 lo:=by unfold ag2;omega
     have m:S7 .f32 (ag2 lo+18446744073709551616)= .u64:=by
      have:(ag2 lo+18446744073709551616)/18446744073709551616=1:=by unfold ag2;omega
      rw[S7,this,bl7]
     refine⟨_,.ival .f32 (ag2 lo+18446744073709551616) hi n (by rw[l];exact h1) h2,fun w=>?_⟩
     have e:IntKind.u64.wrap (n:Int)=n:=by rw[IntKind.wrap_u64];unfold unk at hn;omega
     simp[convert,bC5 hs,bC5 hd,Conv.intToInt,e,m]
  ·cases h
def xun (op:UnOp)(x:Value):Option Value:=
 match op,x with
 | .neg,.int k n=>some (.int k (k.wrap (0-n)))
 | .not,.bool b=>some (.bool (!b))
 |_,_=>none
theorem bj8   {op : UnOp}  (h : xun op x = some v) (hx : VR σ x x') :
  VR σ v v/\ ∀w,(Op.unary op x').run P w= .ok v w:=by
 unfold xun at h;split at h
 ·cases hx;simp only[bA1]at h;subst h;exact⟨.int _ _,fun w=>by simp[Op.unary,Op.intArith]⟩
 ·cases hx;simp only[bA1]at h;subst h;exact⟨.bool _,fun w=>by simp[Op.unary]⟩
 ·cases h
def ah5 (P:Program)(t:TypeId)(x:Value):Option Value:=
 match P.underlying t with
 |some (.interface _)=>none
 |some _=>some (.iface t x)
 |none=>none
theorem aL3   {t : TypeId}  (h : ah5 P t x = some v) (hx : VR σ x x') :
  ∃u,VR σ v u/\ ∀w,(Instr.makeInterface t x').run P w= .ok u w:=by
 unfold ah5 at h;split at h
 ·cases h
 ·rename_i d hd e
  simp only[bA1]at h;subst h;refine⟨_,.iface t x x' hx,fun w=>?_⟩
  simp only[Instr.makeInterface,bD0,bC5 e,bC6]
  simp_all
 ·cases h
def D2 (P:Program)(s:TypeId)(x:Value)(f:Nat):Option Value:=
 match P.underlying s with
 |some (.struct fs)=>match fs.toList[f]? with
  |some fd=>match P.info? fd.type with
   |some i=>bif Nat.beq i.size 0 then none else
    match x with
    | .pointer (some ⟨b,o,none⟩)=>some (.pointer (some ⟨b,o+fd.offset,none⟩))
    |_=>none
   |none=>none
  |none=>none
 |_=>none
theorem ao9   {s : TypeId}  {f : Nat} (h : D2 P s x f = some v) (hx : VR σ x x') :
  ∃u,VR σ v u/\ ∀w,(Instr.fieldAt s x' f).run P w= .ok u w:=by
 unfold D2 at h;split at h
 ·rename_i j l
  split at h
  ·rename_i fd hf
   split at h
   ·rename_i i hi
    cases hz:Nat.beq i.size 0 with
    |true=>grind
    |false=>
     rw[hz,bB9]at h;have g:i.size≠0:=fun e=>by rw[e]at hz;cases hz
     split at h
     ·rename_i b o
      simp only[bA1]at h;subst h;cases hx with
      |ptr _ _ p hp=>
      have d:j[f]? =some fd:=by grind
      refine⟨_,.ptr b (o+fd.offset) p hp,fun w=>?_⟩
      simp[Instr.fieldAt,bC5 l,d,Instr.sureAddr,fieldPlace,sizeOf,typeInfo,hi,g,bI7,bG0]
     ·cases h
   ·cases h
  ·cases h
 ·cases h
def k8 (P:Program)(t:TypeId)(x ix:Value):Option Value:=
 match ix with
 | .int _ n=>match P.underlying t with
  |some (.slice e)=>match P.info? e with
   |some ie=>match x with
    | .slice (some ⟨b,o,none⟩) len _=>bif decide (0<=n)&&decide (n<len)then some (.pointer (some ⟨b,o+n.toNat*ie.size,none⟩))else none
    |_=>none
   |none=>none
  |some (.array len e)=>match P.info? e with
   |some ie=>match x with
    | .pointer (some ⟨b,o,none⟩)=>bif decide (0<=n)&&decide (n<len)then some (.pointer (some ⟨b,o+n.toNat*ie.size,none⟩))else none
    |_=>none
   |none=>none
  |_=>none
 |_=>none
theorem ap0   {t : TypeId} {i  g:Value} (h : k8 P t x i = some v) (hx : VR σ x x') (hi : VR σ i  g) :
  ∃u,VR σ v u/\ ∀w,(Instr.indexAt t x' g).run P w= .ok u w:=by
 unfold k8 at h;split at h
 ·rename_i k n
  cases hi;split at h
  ·rename_i e f
   split at h
   ·rename_i ie d
    split at h
    ·rename_i b o len c
     cases hx with
     |slice _ _ p _ _ c' hp hc hl=>
     cases hb:decide (0<=n)&&decide (n<len)with
     |false=>grind
     |true=>
      rw[hb,bB8]at h;simp only[bA2,bC2]at hb;simp only[bA1]at h;subst h;refine⟨_,.ptr b _ p hp,fun w=>?_⟩
      simp[Instr.indexAt,asIntOf,bC5 f,hb,sizeOf,typeInfo,d,bI7,bG0]
    ·cases h
   ·cases h
  ·rename_i len e f
   split at h
   ·rename_i ie d
    split at h
    ·rename_i b o
     cases hx with
     |ptr _ _ p hp=>
     cases hb:decide (0<=n)&&decide (n<len)with
     |false=>grind
     |true=>
      rw[hb,bB8]at h;simp only[bA2,bC2]at hb;simp only[bA1]at h;subst h;refine⟨_,.ptr b _ p hp,fun w=>?_⟩
      simp[Instr.indexAt,asIntOf,bC5 f,Instr.sureAddr,hb,sizeOf,typeInfo,d,bI7,bG0]
    ·cases h
   ·cases h
  ·cases h
 ·cases h
def at2 (P:Program)(t:TypeId)(x:Value):Option Value:=
 match P.underlying t,x with
 |some .string,.string s=>some (.int .i64 s.data.toList.length)
 |some (.array n _),_=>some (.int .i64 n)
 |some (.slice _),.slice _ n _=>some (.int .i64 n)
 |some (.map _ _),.map none=>some (.int .i64 0)
 |_,_=>none
theorem aA7   {t : TypeId}  (h : at2 P t x = some v) (hx : VR σ x x') (ty : TypeId) (ats : Array TypeId) (  d : ats[0]? = some t) :
  VR σ v v/\ ∀w,(Builtin.len_ ats ty #[x']).run P w= .ok v w:=by
 unfold at2 at h;split at h
 ·rename_i s f
  cases hx;simp only[bA1]at h;subst h;refine⟨.int _ _,fun w=>?_⟩
  simp[Builtin.len_,d,bC5 f,goInt]
 ·rename_i n e f
  simp only[bA1]at h;subst h;refine⟨.int _ _,fun w=>?_⟩
  simp[Builtin.len_,d,bC5 f,goInt]
 ·rename_i e b n c f
  simp only[bA1]at h;subst h;refine⟨.int _ _,fun w=>?_⟩
  cases hx<;>simp[Builtin.len_,d,bC5 f,goInt]
 ·rename_i k e f
  simp only[bA1]at h;subst h;refine⟨.int _ _,fun w=>?_⟩
  cases hx;simp[Builtin.len_,d,bC5 f,goInt]
 ·cases h
def as8 (P:Program)(t:TypeId)(x:Value):Option Value:=
 match P.underlying t,x with
 |some (.slice _),.slice none _ c=>some (.int .i64 c)
 |some (.slice _),.slice (some _) n c=>bif Nat.ble unk c then some (.complex .f64 (Nat.max (G4 c) n) (B4 c))else some (.int .i64 c)
 |some (.array n _),_=>some (.int .i64 n)
 |_,_=>none
theorem aZ1   {t : TypeId}  (h : as8 P t x = some v) (hx : VR σ x x') (ty : TypeId) (ats : Array TypeId) (  d : ats[0]? = some t) :
  ∃u,VR σ v u/\ ∀w,(Builtin.cap_ ats ty #[x']).run P w= .ok u w:=by
 unfold as8 at h;split at h
 ·rename_i e n c g
  simp only[bA1]at h;subst h;cases hx;refine⟨_,.int _ _,fun w=>?_⟩
  simp[Builtin.cap_,d,bC5 g,goInt]
 ·rename_i e b n c g
  have run:∀b' n' c' w,(Builtin.cap_ ats ty #[.slice b' n' c']).run P w= .ok (.int .i64 c') w:=fun b' n' c' w=>by simp[Builtin.cap_,d,bC5 g,goInt]
  cases hc:Nat.ble unk c with
  |true=>
   rw[hc,bB8]at h;simp only[bA1]at h;subst h;have hc:=bA5 hc;cases hx with
   |slice i o p _ _ c' hp f hl=>
    rcases f with⟨_,h2⟩| ⟨_,h2,h3,_⟩
    ·omega
    ·exact⟨_,.ival .f64 _ _ c' (bF8 (aI6 _) (Nat.max_le.2 ⟨h2,hl⟩)) h3,run _ _ _⟩
   |vague q c'=>exact⟨_,.ival .f64 _ _ c' (bF8 (aI6 _) (Nat.max_le.2 ⟨by rw[bz8];exact bI9 _,bI9 _⟩)) (.inl bz7),run _ _ _⟩
  |false=>
   rw[hc,bB9]at h;simp only[bA1]at h;subst h;have j:¬unk<=c:=fun h=>by rw[bA8 h]at hc;cases hc
   cases hx with
   |slice i o p _ _ c' hp f hl=>
    rcases f with⟨rfl,_⟩| ⟨h1,_⟩
    ·exact⟨_,.int _ _,run _ _ _⟩
    ·grind
   |vague q c'=>grind
 ·rename_i n e g
  simp only[bA1]at h;subst h;refine⟨_,.int _ _,fun w=>?_⟩
  simp[Builtin.cap_,d,bC5 g,goInt]
 ·cases h
def icmp (op:BinOp)(a b:Nat×Nat):Option Value:=
 match op with
 | .lss=>(af1 a b).map .bool
 | .gtr=>(af1 b a).map .bool
 | .leq=>(af1 b a).map fun r=>.bool (!r)
 | .geq=>(af1 a b).map fun r=>.bool (!r)
 | .eql=>bif V0 a b then some (.bool false)else none
 | .neq=>bif V0 a b then some (.bool true)else none
 |_=>none
def irem (op:BinOp)(x y:Value):Option Value:=
 match op,x,y with
 | .rem,.complex f lo _,.int k (.ofNat c)=>bif decide (S7 f lo=k)&&Nat.ble 1 c then some (.complex f (lo/18446744073709551616*18446744073709551616) c)else none
 |_,_,_=>none
def br8 (op:BinOp)(x y:Value):Option Value:=
 match Z9 x,Z9 y with
 |some (k,a),some (k',b)=>bif decide (k=k')then icmp op a b else none
 |_,_=>none
variable {op:BinOp}
theorem K0    {t : TypeId} {k : IntKind} {n m : Nat} {r : Bool} (h : ah2 op (n : Int) (m : Int) = some (.bool r)) (h1 : op ≠ .shl) (h2 : op ≠ .shr) (hx : t8 op k (n : Int) (m : Int) = ah2 op (n : Int) (m : Int)) ( d  e : Operand) :
  ∃u,VR σ (.bool r) u/\ ∀w,((eqGuard op t d e (.int k n) (.int k m)).run P w= .ok () w)/\(binOp op t (.int k n) (.int k m)).run P w= .ok u w:=by
 have hb:ae4 P op t (.int k n) (.int k m)=some (.bool r):=by
  have:=hx.trans h;cases op<;>first|exact absurd rfl h1|exact absurd rfl h2| (simp only[ae4,bF7,bB8];exact this)
 obtain⟨f,g⟩:=ah0 (σ:=σ) hb (.int k n) (.int k m) d e
 grind
variable {y y':Value}
theorem aS3    {t : TypeId}   (h : br8 op x y = some v) (hx : VR σ x x') (hy : VR σ y y') ( d  e : Operand) :
  ∃u,VR σ v u/\ ∀w,((eqGuard op t d e x' y').run P w= .ok () w)/\(binOp op t x' y').run P w= .ok u w:=by
 have A:∀(f:IntKind) (a b:Nat×Nat),Z9 x=some (f,a)->Z9 y=some (f,b)->icmp op a b=some v-> ∃u,VR σ v u/\ ∀w,((eqGuard op t d e x' y').run P w= .ok () w)/\(binOp op t x' y').run P w= .ok u w:=by
  intro f a b F hb h;obtain⟨a1,a2⟩:=a;obtain⟨g,j⟩:=b;obtain⟨n,rfl,C,D⟩:=N3 F hx;obtain⟨m,rfl,q,s⟩:=N3 hb hy;have lt:∀r,af1 (a1,a2) (g,j)=some r->r=decide ((n:Int)<(m:Int)):=fun r hr=>P9 hr C D q s
  have o:∀r,af1 (g,j) (a1,a2)=some r->r=decide ((m:Int)<(n:Int)):=fun r hr=>P9 hr q s C D
  have E:V0 (a1,a2) (g,j)=true->(n:Int)≠m:=by
   intro l;unfold V0 at l
   grind
  unfold icmp at h;cases op
  case lss=>
   simp only[bI2]at h;obtain⟨r,hr,rfl⟩:=h;exact K0 (by rw[lt r hr];rfl) (by simp) (by simp) rfl d e
  case gtr=>
   simp only[bI2]at h;obtain⟨r,hr,rfl⟩:=h;exact K0 (by rw[o r hr];rfl) (by simp) (by simp) rfl d e
  case leq=>
   simp only[bI2]at h;obtain⟨r,hr,rfl⟩:=h;refine K0 ?_ (by simp) (by simp) rfl d e
   rw[o r hr];simp only[ah2]
   congr 2
   grind
  case geq=>
   simp only[bI2]at h;obtain⟨r,hr,rfl⟩:=h;refine K0 ?_ (by simp) (by simp) rfl d e
   rw[lt r hr];simp only[ah2]
   congr 2
   grind
  case eql=>
   cases hp:V0 (a1,a2) (g,j)with
   |false=>grind
   |true=>
    simp only[hp,bB8,bA1]at h;subst h;exact K0 (by have:=E hp;simp[ah2];omega) (by simp) (by simp) rfl d e
  case neq=>
   cases hp:V0 (a1,a2) (g,j)with
   |false=>grind
   |true=>
    simp only[hp,bB8,bA1]at h;subst h;exact K0 (by have:=E hp;simp[ah2];omega) (by simp) (by simp) rfl d e
  all_goals cases h
 unfold br8 at h
 grind
theorem aU7    {t : TypeId}   (h : irem op x y = some v) (hx : VR σ x x') (hy : VR σ y y') ( e  g : Operand) :
  ∃u,VR σ v u/\ ∀w,((eqGuard op t e g x' y').run P w= .ok () w)/\(binOp op t x' y').run P w= .ok u w:=by
 unfold irem at h;split at h
 ·rename_i f lo hi k c
  cases hb:decide (S7 f lo=k)&&Nat.ble 1 c with
  |false=>grind
  |true=>
   rw[hb,bB8,bA1]at h;subst h;simp only[bA2,bC2]at hb;obtain⟨rfl,hc⟩:=hb;have hc:=bA5 hc;cases hx with
   |ival _ _ _ n h1 h2=>
   cases hy;have hx:ae4 P .rem t (.int (S7 f lo) n) (.int (S7 f lo) (Int.ofNat c))=some (.int (S7 f lo) ((n:Int).tmod (Int.ofNat c))):=by
    have d:decide (Int.ofNat c=0)=false:=by grind
    simp only[ae4,bF7,bB8,t8,d,bB9]
   obtain⟨_,m⟩:=ah0 (σ:=σ) hx (.int _ _) (.int _ _) e g;refine⟨_,?_,m⟩;have j:(n:Int).tmod (Int.ofNat c)=((n % c:Nat):Int):=by grind
   have l:S7 f lo=S7 f (lo/18446744073709551616*18446744073709551616):=by
    unfold S7
    grind
   rw[j,l];exact .ival f _ c (n % c) (by unfold ag2;rw[Nat.mul_mod_left];exact bI9 _) (.inr (Nat.mod_lt _ hc))
 ·cases h
def T8 (P:Program)(op:BinOp)(t:TypeId)(x y:Value):Option Value:=
 match ae4 P op t x y with
 |some v=>some v
 |none=>match br8 op x y with
  |some v=>some v
  |none=>irem op x y
theorem aS2    {t : TypeId}   (h : T8 P op t x y = some v) (hx : VR σ x x') (hy : VR σ y y') ( d  e : Operand) :
  ∃u,VR σ v u/\ ∀w,((eqGuard op t d e x' y').run P w= .ok () w)/\(binOp op t x' y').run P w= .ok u w:=by
 unfold T8 at h;split at h
 ·rename_i v' f
  cases h;exact⟨_,ah0 f hx hy d e⟩
 ·split at h
  ·rename_i v' f
   cases h;exact aS3 f hx hy d e
  ·exact aU7 h hx hy d e
def Y4 (big:Bool):Value->List Value->Option Value
 |v,[]=>match v with
  | .int k n=>some (.int k n)
  |_=>none
 |v,y::ys=>match v,y with
  | .int k a,.int _ b=>Y4 big (.int k (bif big then(bif decide (a<b)then b else a)else(bif decide (b<a)then b else a))) ys
  |_,_=>none
theorem aB0 {P : Program} {σ : Sg} : ∀ {xs : List Value} {x v : Value} {  d : List Value} {x' : Value}, Y4 false x xs = some v → VR σ x x' → VRL σ xs   d →
  VR σ v v/\ ∀w,(d.foldlM Builtin.min2 x':Sem Value).run P w= .ok v w
 | [],x,v,d,x',h,hx,e=>by
  rw[e.unnil];unfold Y4 at h;split at h
  ·simp only[bA1]at h;subst h;cases hx;exact⟨.int _ _,fun w=>by simp⟩
  ·cases h
 |y::ys,x,v,d,x',h,hx,e=>by
  obtain⟨y',j,rfl,hy,f⟩:=e.uncons;unfold Y4 at h;split at h
  ·rename_i k a k' b
   cases hx;cases hy;have g:=aB0 (P:=P) h (.int _ _) f;refine⟨g.1,fun w=>?_⟩
   have he:(Builtin.min2 (.int k a) (.int k' b)).run P w= .ok (.int k (bif false then(bif decide (a<b)then b else a)else(bif decide (b<a)then b else a))) w:=by
    simp only[Builtin.min2,bB9,bD5]
    grind
   simp_all
  ·cases h
theorem aA9 {P : Program} {σ : Sg} : ∀ {xs : List Value} {x v : Value} {  d : List Value} {x' : Value}, Y4 true x xs = some v → VR σ x x' → VRL σ xs   d →
  VR σ v v/\ ∀w,(d.foldlM Builtin.max2 x':Sem Value).run P w= .ok v w
 | [],x,v,d,x',h,hx,e=>by
  rw[e.unnil];unfold Y4 at h;split at h
  ·simp only[bA1]at h;subst h;cases hx;exact⟨.int _ _,fun w=>by simp⟩
  ·cases h
 |y::ys,x,v,d,x',h,hx,e=>by
  obtain⟨y',j,rfl,hy,f⟩:=e.uncons;unfold Y4 at h;split at h
  ·rename_i k a k' b
   cases hx;cases hy;have g:=aA9 (P:=P) h (.int _ _) f;refine⟨g.1,fun w=>?_⟩
   have he:(Builtin.max2 (.int k a) (.int k' b)).run P w= .ok (.int k (bif true then(bif decide (a<b)then b else a)else(bif decide (b<a)then b else a))) w:=by
    simp only[Builtin.max2,bB8,bD5]
    grind
   simp_all
  ·cases h
end Go.Xe
end PartXm6
noncomputable section PartXm7
namespace Go.Xe
open Go.RowKit
def MOK (hp:Hp)(B:BS)(w0:World)(σ:Sg)(v:Value)(hp':Hp)(r:Result Value):Prop:=
 ∃σ' u w',r= .ok u w'/\Sg.gr hp.nx hp'.nx σ σ'/\VR σ' v u/\HR B w0 σ' hp' w'
def Hp.new (hp:Hp)(vs:List Value)(e z:Nat):Hp:=⟨hp.m.set hp.nx (some (.cells (fill .e 0 vs) vs.length e z)),hp.nx+1⟩
section
variable {P :Program}{B:BS}{w0:World}{σ:Sg}{hp:Hp}{w:World}
theorem C5 (vs:List Value)(j:Nat)(hj:j<vs.length):(fill .e 0 vs).get j=vs[j]? :=by
 rw[j3,bC3 (by omega)];simp
variable {us vs:List Value}
theorem HR.new (h : HR B w0 σ hp w)  ( f : VRL σ vs us) (e z : Nat) :
  HR B w0 (σ.ext hp.nx ⟨w.heap.size,0,us.length,z⟩) (hp.new vs e z) (w.alloc (.cells us.toArray e)):=by
 have:=h.alloc (fill .e 0 vs) vs.length e z us.toArray (by rw[f.1];simp) (fun j hj=>by
  have d:j<us.length:=by rw[<-f.1];exact hj
  refine⟨vs[j],us[j],by rw[C5 vs j hj];simp[hj],by simp[d],f.2 j _ _ (by simp[hj]) (by simp[d])⟩)
 simpa [Hp.new]using this
theorem HR.le_new (h:HR B w0 σ hp w)(p:Pl):Sg.gr hp.nx (hp.nx+1) σ (σ.ext hp.nx p):=
 ⟨Sg.le_ext p (h.fresh _ (bC4 _)),fun i hi=>Sg.ext_other _ _ _ (by omega),bH4 _⟩
theorem VR.new (σ:Sg)(i:Nat)(p:Pl)(hd:p.dl=0):VR (σ.ext i p) (.pointer (some ⟨i,0,none⟩)) (.pointer (some ⟨p.blk,0,none⟩)):=by
 have:=VR.ptr (σ:=σ.ext i p) i 0 p (Sg.ext_same _ _ _)
 grind
inductive Nv where
 |ptr
 |slice (l c:Nat)
 |map
structure Nw where
 blk:Blk
 v:Nv
 ok:P4 blk=false:=by rfl
def Nw.val (n:Nw)(id:Nat):Value:=
 match n.v with
 | .ptr=>.pointer (some ⟨id,0,none⟩)
 | .slice l c=>.slice (some ⟨id,0,none⟩) l c
 | .map=>.map (some id)
def A4 (vs:List Value)(e z:Nat):Blk:= .cells (fill .e 0 vs) vs.length e z
theorem ac7 (h:VRL σ vs us)(e z b:Nat):BR σ ⟨b,0,us.length,z⟩ (A4 vs e z) (.cells us.toArray e):=by
 refine⟨us.toArray,rfl,rfl,by simp,by simp[h.1],fun j hj=>?_⟩
 have d:j<us.length:=by rw[<-h.1];exact hj
 exact⟨vs[j],us[j],by rw[C5 vs j hj];simp[hj],by simp[d],h.2 j _ _ (by simp[hj]) (by simp[d])⟩
def ai2 (P:Program)(σ:Sg)(n:Nw)(s:Sem Value):Prop:=
 (∀l c,n.v= .slice l c->l<=c/\c<unk)/\ ∃o siz z,(∀b,BR σ ⟨b,0,siz,z⟩ n.blk o)/\ ∀w,s.run P w= .ok (n.val w.heap.size) (w.alloc o)
def Hp.add (hp:Hp)(n:Nw):Value×Hp:=(n.val hp.nx,⟨hp.m.set hp.nx (some n.blk),hp.nx+1⟩)
variable {n:Nw}
theorem Nw.val_VR {σ:Sg}(h:∀l c,n.v= .slice l c->l<=c/\c<unk)(d b siz z:Nat):VR (σ.ext d ⟨b,0,siz,z⟩) (n.val d) (n.val b):=by
 unfold Nw.val;cases e:n.v with
 |ptr=>exact VR.new σ d ⟨b,0,siz,z⟩ rfl
 |slice l c=>
  obtain⟨h1,h2⟩:=h l c e;have:=VR.slice (σ:=σ.ext d ⟨b,0,siz,z⟩) d 0 ⟨b,0,siz,z⟩ l c c (Sg.ext_same _ _ _) (.inl ⟨rfl,h2⟩) h1
  grind
 |map=>exact VR.map d ⟨b,0,siz,z⟩ (Sg.ext_same _ _ _)
theorem ai2.mok {s:Sem Value}(h:ai2 P σ n s)(d:HR B w0 σ hp w):MOK hp B w0 σ (hp.add n).1 (hp.add n).2 (s.run P w):=by
 obtain⟨h1,o,siz,z,h2,h3⟩:=h;refine⟨σ.ext hp.nx ⟨w.heap.size,0,siz,z⟩,_,_,h3 w,d.le_new _,Nw.val_VR h1 _ _ _ _,?_⟩;exact d.allocO hp.nx (hp.nx+1) (d.fresh _ (bC4 _)) (bH4 _) (bG1 _) n.blk o _ rfl ((h2 _).mono (d.le_new _).le) n.ok
def ad6 (P:Program)(e:TypeId):Option Nw:=
 match E1 P e with
 |some z=>some ⟨A4 z.cells.toList e z.cells.toList.length,.ptr,rfl⟩
 |none=>none
theorem aC8 {e:TypeId}(h:ad6 P e=some n):ai2 P σ n (Instr.alloc e true (.tuple #[])):=by
 unfold ad6 at h;split at h
 ·rename_i z hz
  cases h;obtain⟨hc,hr⟩:=D4 hz;refine⟨(fun l c h=>by cases h),.cells z.cells e,z.cells.toList.length,_,(fun b=>by simpa using ac7 (M5 σ hc).cells e z.cells.toList.length b),fun w=>?_⟩
  simp[Instr.alloc,hr,newVar,newRow,Nw.val]
 ·cases h
def aG9 (e:TypeId)(x:Value):Nw:=⟨A4 x.cells.toList e x.cells.toList.length,.ptr,rfl⟩
variable {x x':Value}
theorem aS5 {e:TypeId}(hx:VR σ x x'):ai2 P σ (aG9 e x) (Instr.box e x'):=by
 refine⟨(fun l c h=>by cases h),.cells x'.cells e,x'.cells.toList.length,_,(fun b=>by simpa [aG9]using ac7 hx.cells e x.cells.toList.length b),fun w=>?_⟩
 simp[Instr.box,newVar,newRow,Nw.val,aG9]
def be2 (t:Option Value):Option Nw:=
 match t with
 |none=>some ⟨.map [] true,.map,rfl⟩
 |some (.int _ _)=>some ⟨.map [] true,.map,rfl⟩
 |_=>none
theorem aS9 {t : TypeId} {r  f : Option Value}  (h : be2 r = some n) (hr : match r,  f with | none, none => True | some v, some u => VR σ v u | _, _ => False)
  (hm:match P.underlying t with|some (.map _ _)=>True|_=>False):ai2 P σ n (Instr.makeMap t f):=by
 cases g:P.underlying t with
 |none=>grind
 |some d=>
 cases d<;>simp[g]at hm
 unfold be2 at h;split at h
 ·simp only[bA1]at h
  subst h;cases f with
  |some u=>grind
  |none=>
   refine⟨(fun l c h=>by cases h),.map #[] 0,0,0,(fun b=>⟨#[],0,rfl,rfl,(fun j x e hx=>by simp at hx),fun _=>⟨rfl,fun j e hj=>by simp at hj⟩⟩),fun w=>?_⟩
   simp[Instr.makeMap,Nw.val]
 ·simp only[bA1]at h
  subst h;cases f with
  |none=>grind
  |some u=>
   cases hr;refine⟨(fun l c h=>by cases h),.map #[] 0,0,0,(fun b=>⟨#[],0,rfl,rfl,(fun j x e hx=>by simp at hx),fun _=>⟨rfl,fun j e hj=>by simp at hj⟩⟩),fun w=>?_⟩
   simp[Instr.makeMap,Nw.val,bC5 g,asInt,asIntOf]
 ·cases h
def am0 (P:Program)(t:TypeId)(x:Value):Option Nw:=
 match P.underlying t,x with
 |some .string,.string s=>some ⟨.sit s 0,.ptr,rfl⟩
 |_,_=>none
theorem aD1 {t:TypeId}(h:am0 P t x=some n)(hx:VR σ x x'):ai2 P σ n (Instr.range t x'):=by
 unfold am0 at h;split at h
 ·rename_i s d
  cases h;cases hx;refine⟨(fun l c h=>by cases h),.stringIter s 0,0,0,(fun b=>⟨rfl,rfl⟩),fun w=>?_⟩
  simp[Instr.range,bC5 d,Nw.val]
 ·cases h
def A8 (P : Program) (hp : Hp) (t : TypeId) (a : Value) : Option Value :=
 match a with
 | .pointer (some ⟨i, o, none⟩) => match hp.m.get i with
  | some b => match rdC b with
   | some (c, n, _) => match P.underlying t with
    | some d => bif ae1 d then
      match P.info? t with
      | some ti => bif Nat.ble (o + ti.size) n then
        match f9 c o ti.size with
        |some vs=>some (.agg vs.toArray)
        |none=>none
       else none
      |none=>none
     else bif Nat.ble (o+1) n then c.get o else none
    |none=>none
   |none=>none
  |none=>none
 |_=>none
variable {a a':Value}
theorem ar6 {t : TypeId} {v:Value} (h : A8 P hp t a = some v) ( l : VR σ a a') ( j : HR B w0 σ hp w) :
  ∃u,VR σ v u/\(Instr.loadAt t a').run P w= .ok u w:=by
 unfold A8 at h;split at h
 ·rename_i i o
  cases l with
  |ptr _ _ p hp'=>
  split at h
  ·rename_i b f
   split at h
   ·rename_i c n z hr
    split at h
    ·rename_i d g
     cases hd:ae1 d with
     |true=>
      rw[hd,bB8]at h;split at h
      ·rename_i q e
       cases hb:Nat.ble (o+q.size) n with
       |false=>grind
       |true=>
        rw[hb,bB8]at h;split at h
        ·rename_i vs hl
         simp only[bA1]at h;subst h;obtain⟨us,h1,h2,h3⟩:=j.cellsR f hr (bA5 hb) hl hp';refine⟨.agg us.toArray,h1.to_agg,?_⟩;have:=run_loadCells_list (P:=P) w ⟨p.blk,p.dl+o,none⟩ us h3;rw[h2]at this;simp[Instr.loadAt,Instr.sureAddr,loadVar,ac8 g,hd,sizeOf,typeInfo,e,this]
        ·cases h
      ·cases h
     |false=>
      rw[hd,bB9]at h;cases hb:Nat.ble (o+1) n with
      |false=>grind
      |true=>
       rw[hb,bB8]at h;have hl:f9 c o 1=some [v]:=by simp[f9,h]
       obtain⟨us,h1,h2,h3⟩:=j.cellsR f hr (bA5 hb) hl hp';obtain⟨u,r,rfl,m,_⟩:=h1.uncons;refine⟨u,m,?_⟩;have:=h3 0 u rfl;rw[Addr.add_zero']at this;simp[Instr.loadAt,Instr.sureAddr,loadVar,ac8 g,hd,this]
    ·cases h
   ·cases h
  ·cases h
 ·cases h
def ap2 (hp:Hp)(i:Nat)(c:T Value)(n e z o:Nat)(vs:List Value):Hp:=
 (fill c o vs).force fun c'=> {hp with m:=hp.m.set i (some (.cells c' n e z))}
theorem I8 (hp:Hp)(i:Nat)(c:T Value)(n e z o:Nat)(vs:List Value):ap2 hp i c n e z o vs= {hp with m:=hp.m.set i (some (.cells (fill c o vs) n e z))}:=by
 unfold ap2;rw[T.force_eq]
def A9 (P:Program)(hp:Hp)(t:TypeId)(a x:Value):Option Hp:=
 match a with
 | .pointer (some ⟨i,o,none⟩)=>match hp.m.get i with
  |some (.cells c n e z)=>match P.info? t with
   |some ti=>bif Nat.beq x.cells.toList.length ti.size&&Nat.ble (o+ti.size) n&&x.cells.toList.all Value.oneCell' then some (ap2 hp i c n e z o x.cells.toList)else none
   |none=>none
  |_=>none
 |_=>none
theorem VRL.all_oneCell (h:VRL σ vs us)(f:vs.all Value.oneCell'=true):∀u∈us,u.oneCell'=true:=by
 intro u e;obtain⟨j,hj,rfl⟩:=List.mem_iff_getElem.1 e;have d:j<vs.length:=by rw[h.1];exact hj
 exact(h.2 j vs[j] us[j] (by simp[d]) (by simp[hj])).oneCell (bD1.1 f _ (List.getElem_mem d))
theorem HR.place (g:HR B w0 σ hp w){i n e z:Nat}{c:T Value}(d:hp.m.get i=some (.cells c n e z)){p:Pl}(f:σ i=some p):p.dl+n<=p.siz/\p.esz=z:=by
 obtain⟨p',C,h,j,_,_,_,l,_⟩:=g.liveC d
 grind
theorem aM0 {t : TypeId}  {hp' : Hp} (h : A9 P hp t a x = some hp') ( r : VR σ a a') (hx : VR σ x x') ( m : HR B w0 σ hp w) :
  ∃w',(Instr.storeAt t a' x').run P w= .ok () w'/\HR B w0 σ hp' w'/\hp'.nx=hp.nx:=by
 unfold A9 at h;split at h
 ·rename_i i o
  cases r with
  |ptr _ _ p f=>
  split at h
  ·rename_i c n e z l
   split at h
   ·rename_i j g
    cases hb:Nat.beq x.cells.toList.length j.size&&Nat.ble (o+j.size) n&&x.cells.toList.all Value.oneCell' with
    |false=>grind
    |true=>
     rw[hb,bB8,I8]at h;simp only[bA1]at h;subst h;simp only[bA2]at hb;have q:=bA6 hb.1.1;have s:=bA5 hb.1.2;have d:=hx.cells;obtain⟨k1,_⟩:=m.place l f;obtain⟨w',hr,hh,_⟩:=m.store (o:=o) l f d (d.all_oneCell hb.2) (by omega) (by omega) P
     refine⟨w',?_,?_,rfl⟩
     ·have hs:x'.cells.size=j.size:=by rw[<-q,d.1];simp
      simp[Instr.storeAt,Instr.sureAddr,storeVar,sizeOf,typeInfo,g,hs,hr]
     ·grind
   ·cases h
  ·cases h
 ·cases h
def xrep :Nat->List Value->List Value
 |0,_=>[]
 |n+1,zs=>zs++xrep n zs
theorem xrep_length (d:List Value):∀n,(xrep n d).length=n*d.length
 |0=>by simp[xrep]
 |n+1=>by simp[xrep,xrep_length d n,bG7,Nat.add_comm]
theorem ac2 (d:List Value):∀(n j:Nat),j<n*d.length->(xrep n d)[j]? =d[j % d.length]?
 |0,j,h=>by simp at h
 |n+1,j,h=>by
  simp only[xrep]
  by_cases hj:j<d.length
  ·rw[bB0 hj,Nat.mod_eq_of_lt hj]
  ·rw[bA9 (by omega),ac2 d n (j-d.length) (by rw[bG7]at h;omega)]
   rw[Nat.mod_eq_sub_mod (by omega:d.length<=j)]
theorem ac6 (z:Array Value)(n:Nat):((Array.range (n*z.size)).map (fun i=>z[i % z.size]!)).toList=xrep n z.toList:=by
 apply List.ext_getElem?
 intro j
 by_cases hj:j<n*z.size
 ·rw[ac2 z.toList n j (by simpa using hj)]
  have hz:0<z.size:=by grind
  have hm:j % z.size<z.size:=Nat.mod_lt _ hz
  grind
 ·rw[bJ9 (by simp;omega),bJ9 (by rw[xrep_length];simp;omega)]
theorem VRL.xrep {d:List Value}(h:VRL σ d d):∀n,VRL σ (xrep n d) (xrep n d)
 |0=>VRL.nil σ
 |n+1=>h.append (VRL.xrep h n)
def bj2 (P : Program) (t : TypeId) (len : Nat) (parts : List (Nat × Value)) : Option Nw :=
 match P.underlying t with
 | some (.slice e) => match P.info? e with
  | some ie => match E1 P e with
   | some z => bif Nat.beq z.cells.toList.length ie.size && Nat.ble (len * ie.size) 16777216 && Nat.ble len 16777216 then
     match al6 (fun i=>some (i*ie.size,ie.size)) (xrep len z.cells.toList) parts with
     |some cs=>some ⟨A4 cs e ie.size,.slice len len,rfl⟩
     |none=>none
    else none
   |none=>none
  |none=>none
 |_=>none
theorem aZ0 {t : TypeId} {len : Nat} {xs : List (Nat × Value)} {ys : Array (Nat × Value)}  (h : bj2 P t len xs = some n)
  (hy:PVR σ xs ys.toList):ai2 P σ n (Instr.buildSlice t len ys):=by
 unfold bj2 at h;split at h
 ·rename_i e r
  split at h
  ·rename_i ie g
   split at h
   ·rename_i z hz
    cases hb:Nat.beq z.cells.toList.length ie.size&&Nat.ble (len*ie.size) 16777216&&Nat.ble len 16777216 with
    |false=>grind
    |true=>
     rw[hb,bB8]at h;simp only[bA2]at hb;have s:=bA6 hb.1.1;have A:=bA5 hb.1.2;have C:=bA5 hb.2;split at h
     ·rename_i cs hf
      cases h;obtain⟨hc,o⟩:=D4 hz;have q:=(M5 σ hc).cells;have d:∀m:Array Value,m=(if len*ie.size=0 then #[]else z.cells)->((Array.range (len*ie.size)).map (fun i=>m[i % m.size]!)).toList=xrep len z.cells.toList:=by
       intro m j
       by_cases h0:len*ie.size=0
       ·have hl:xrep len z.cells.toList=[]:=bA7 (by rw[xrep_length,s];exact h0)
        grind
       ·rw[bC1 h0]at j
        subst j;have:=ac6 z.cells len
        grind
      obtain⟨ds,h1,h2⟩:=ab8 (σ:=σ) _ xs ys.toList (xrep len z.cells.toList) cs ((Array.range (len*ie.size)).map (fun i=>(if len*ie.size=0 then #[]else z.cells)[i % (if len*ie.size=0 then #[]else z.cells).size]!)) hf hy
       (by rw[d _ rfl];exact q.xrep len)
      refine⟨(fun l c h=>by cases h;exact⟨bC4 _,by unfold unk;omega⟩),.cells ds e,ds.toList.length,_,(fun b=>by simpa using ac7 h2 e ie.size b),fun w=>?_⟩
      have f:¬len*ie.size>2^24:=by omega
      by_cases h0:len*ie.size=0
      ·rw[bC3 h0]at h1
       simp only[Instr.buildSlice,bD0,bC5 r,bC6,sizeOf,typeInfo,bJ4,g,bD5,bC1 f,bC3 h0,h1,newRow,run_newObj];rfl
      ·rw[bC1 h0]at h1
       simp only[Instr.buildSlice,bD0,bC5 r,bC6,sizeOf,typeInfo,bJ4,g,bD5,bC1 f,bC1 h0,o,h1,newRow,run_newObj];rfl
     ·cases h
   ·cases h
  ·cases h
 ·cases h
def aZ5 (P : Program) (t : TypeId) (l c : Value) : Option Nw :=
 match l,c with
 | .int _ ln, .int _ cn => match P.underlying t with
  | some (.slice e) => match P.info? e with
   | some ie => match E1 P e with
    | some z => bif decide (0 ≤ ln) && decide (ln ≤ cn) && decide (cn ≤ 1048576) && Nat.ble ie.bytes 1048576 && Nat.beq z.cells.toList.length ie.size then
      some ⟨A4 (xrep cn.toNat z.cells.toList) e ie.size,.slice ln.toNat cn.toNat,rfl⟩
     else none
    |none=>none
   |none=>none
  |_=>none
 |_,_=>none
theorem aZ6 {t : TypeId} {l c l' c' : Value}  (h : aZ5 P t l c = some n) (hl : VR σ l l') (hc : VR σ c c') :
  ai2 P σ n (Instr.makeSlice t l' c'):=by
 unfold aZ5 at h;split at h
 ·rename_i k1 ln k2 d
  cases hl;cases hc;split at h
  ·rename_i e D
   split at h
   ·rename_i ie j
    split at h
    ·rename_i z hz
     cases hb:decide (0<=ln)&&decide (ln<=d)&&decide (d<=1048576)&&Nat.ble ie.bytes 1048576&&Nat.beq z.cells.toList.length ie.size with
     |false=>grind
     |true=>
      rw[hb,bB8]at h;simp only[bA2,bC2]at hb;obtain⟨⟨⟨⟨I,J⟩,F⟩,A⟩,G⟩:=hb;have A:=bA5 A;have H:=bA6 G;cases h;obtain⟨q,r⟩:=D4 hz;have s:=(M5 σ q).cells;have wl:IntKind.i64.wrap ln=ln:=IntWalk.i64_in _ (by omega)
      have E:IntKind.i64.wrap d=d:=IntWalk.i64_in _ (by omega)
      have f:∀o:Array Value,o=(if d.toNat*ie.size=0 then #[]else z.cells)->(Array.range (d.toNat*ie.size)).map (fun i=>o[i % o.size]!)=(xrep d.toNat z.cells.toList).toArray:=by
       intro o m
       apply bH9
       by_cases h0:d.toNat*ie.size=0
       ·have hl:xrep d.toNat z.cells.toList=[]:=bA7 (by rw[xrep_length,H];exact h0)
        grind
       ·rw[bC1 h0]at m
        subst m;have:=ac6 z.cells d.toNat
        grind
      refine⟨(fun l c h=>by cases h;exact⟨by omega,by unfold unk;omega⟩),.cells (xrep d.toNat z.cells.toList).toArray e,_,_,(fun b=>ac7 (s.xrep d.toNat) e ie.size b),fun w=>?_⟩
      have C:¬((ie.bytes:Int)*d>2^48):=by
       have h1:(ie.bytes:Int)*d<=1048576*1048576:=Int.mul_le_mul (by omega) F (by omega) (by omega)
       omega
      have g:¬((decide (d<0)||decide ((ie.bytes:Int)*d>2^48))||decide (ln<0)||decide (ln>d))=true:=by grind
      by_cases h0:d.toNat*ie.size=0
      ·have:=f #[] (by rw[bC3 h0])
       simp only[Instr.makeSlice,bD0,bC5 D,bC6,asInt,asIntOf,bD5,typeInfo,bJ4,j,wl,E,bC1 g,run_askRoom,sizeOf,bC3 h0,this,newRow,run_newObj];rfl
      ·have:=f z.cells (by rw[bC1 h0])
       simp only[Instr.makeSlice,bD0,bC5 D,bC6,asInt,asIntOf,bD5,typeInfo,bJ4,j,wl,E,bC1 g,run_askRoom,sizeOf,bC1 h0,r,this,newRow,run_newObj];rfl
    ·cases h
   ·cases h
  ·cases h
 ·cases h
end
end Go.Xe
end PartXm7
