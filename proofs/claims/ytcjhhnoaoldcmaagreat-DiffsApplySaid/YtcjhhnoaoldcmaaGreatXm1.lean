/- The executor, parts 1, 2, 3, 4, 5, 6, 7.
  Conditions: none. -/
import Derived.WalkKit
import Derived.Orders
import Derived.Laws.StructEq
import Derived.WalkSpells
set_option linter.all false
noncomputable section PartXm1
namespace Go
abbrev Be:=World
abbrev Bc:=Option
abbrev Bb:=TypeInfo
abbrev Ba:=Operand
abbrev Az:=FuncId
abbrev Ay:=TypeId
abbrev Ax:=Program
abbrev Aw:=Value
abbrev Ar:=Option Addr
abbrev An:=List Oper
abbrev Am:=Array Oper
abbrev Al:=Array Value
abbrev Ak:=List Int
abbrev Ai:=Option Nat
abbrev Ah:=List Nat
abbrev Ag:=Option Value
abbrev Af:=List Value
abbrev Ae:=List UInt8
abbrev Ad:=Nat ->Option Value
abbrev Aa:=FuncId ->Option TypeId
end Go
namespace Go.Xe
def JL:type_of% @Option.some.injEq:=@Option.some.injEq
def JM:type_of% @Bool.and_eq_true:=@Bool.and_eq_true
def JN:type_of% @Prod.mk.injEq:=@Prod.mk.injEq
def JO:type_of% @List.getElem?_eq_some_iff:=@List.getElem?_eq_some_iff
def JP:type_of% @Nat.le_of_ble_eq_true:=@Nat.le_of_ble_eq_true
def JQ:type_of% @Nat.eq_of_beq_eq_true:=@Nat.eq_of_beq_eq_true
def JR:type_of% @List.eq_nil_of_length_eq_zero:=@List.eq_nil_of_length_eq_zero
def JS:type_of% @Nat.ble_eq_true_of_le:=@Nat.ble_eq_true_of_le
def JT:type_of% @List.getElem?_append_right:=@List.getElem?_append_right
def JU:type_of% @List.getElem?_append_left:=@List.getElem?_append_left
def JV:type_of% @List.mem_of_getElem?:=@List.mem_of_getElem?
def JW:type_of% @List.getElem?_cons_succ:=@List.getElem?_cons_succ
def JX:type_of% @List.getElem?_eq_getElem:=@List.getElem?_eq_getElem
def JY:type_of% @Nat.mul_le_mul_right:=@Nat.mul_le_mul_right
def JZ:type_of% @List.append_assoc:=@List.append_assoc
def Ka:type_of% @Array.getElem?_eq_some_iff:=@Array.getElem?_eq_some_iff
def Kb:type_of% @List.getElem?_cons_zero:=@List.getElem?_cons_zero
def Kc:type_of% @cond_true:=@cond_true
def Ke:type_of% @cond_false:=@cond_false
def Kf:type_of% @List.length_map:=@List.length_map
def Kg:type_of% @if_neg:=@if_neg
def Kh:type_of% @decide_eq_true_eq:=@decide_eq_true_eq
def Ki:type_of% @if_pos:=@if_pos
def Kj:type_of% @Nat.le_refl:=@Nat.le_refl
def Kk:type_of% @run_underlying:=@run_underlying
def Kl:type_of% @Result.andThen_ok:=@Result.andThen_ok
def Km:type_of% @Option.some.inj:=@Option.some.inj
def Kn:type_of% @List.length_append:=@List.length_append
def Ko:type_of% @And.intro:=@And.intro
def Kp:type_of% @Sem.run_bind:=@Sem.run_bind
def Kq:type_of% @List.all_eq_true:=@List.all_eq_true
def Kr:type_of% @List.getD_eq_getElem?_getD:=@List.getD_eq_getElem?_getD
def Ks:type_of% @Nat.zero_add:=@Nat.zero_add
def Kt:type_of% @List.getElem?_take:=@List.getElem?_take
def Ku:type_of% @Sem.run_pure:=@Sem.run_pure
def Kv:type_of% @List.length_take:=@List.length_take
def Kw:type_of% @Nat.add_mul:=@Nat.add_mul
def Kx:type_of% @List.mem_append:=@List.mem_append
def Ky:type_of% @List.mem_cons:=@List.mem_cons
def Kz:type_of% @List.getElem?_drop:=@List.getElem?_drop
def KA:type_of% @Nat.beq_eq:=@Nat.beq_eq
def KB:type_of% @Int.toNat_natCast:=@Int.toNat_natCast
def KC:type_of% @Option.getD_some:=@Option.getD_some
def KE:type_of% @List.length_cons:=@List.length_cons
def KF:type_of% @true_implies:=@true_implies
def KG:type_of% @Option.map_some:=@Option.map_some
def KH:type_of% @Bool.not_eq_true':=@Bool.not_eq_true'
def KI:type_of% @List.map_append:=@List.map_append
def KJ:type_of% @decide_eq_false_iff_not:=@decide_eq_false_iff_not
def KK:type_of% @List.take_of_length_le:=@List.take_of_length_le
def KL:type_of% @List.getElem?_map:=@List.getElem?_map
def KM:type_of% @List.map_cons:=@List.map_cons
def KN:type_of% @List.length_drop:=@List.length_drop
def KO:type_of% @Nat.lt_of_lt_of_le:=@Nat.lt_of_lt_of_le
def KP:type_of% @Nat.ble_eq:=@Nat.ble_eq
def KQ:type_of% @List.mem_iff_getElem?:=@List.mem_iff_getElem?
def KR:type_of% @decide_true:=@decide_true
def KS:type_of% @Nat.le_trans:=@Nat.le_trans
def KT:type_of% @List.mem_cons_of_mem:=@List.mem_cons_of_mem
def KU:type_of% @Nat.add_assoc:=@Nat.add_assoc
def KW:type_of% @Nat.lt_succ_self:=@Nat.lt_succ_self
def KX:type_of% @List.cons_append:=@List.cons_append
def KY:type_of% @implies_true:=@implies_true
def KZ:type_of% @Int.le_refl:=@Int.le_refl
def La:type_of% @List.mem_singleton:=@List.mem_singleton
def Lb:type_of% @Nat.add_zero:=@Nat.add_zero
def Lc:type_of% @Nat.succ_mul:=@Nat.succ_mul
def Ld:type_of% @true_and:=@true_and
def Le:type_of% @List.cons.injEq:=@List.cons.injEq
def Lg:type_of% @Nat.le_max_right:=@Nat.le_max_right
def Lh:type_of% @Bool.false_eq_true:=@Bool.false_eq_true
def Li:type_of% @and_true:=@and_true
def Lj:type_of% @Nat.add_sub_cancel_left:=@Nat.add_sub_cancel_left
def Lk:type_of% @Nat.le_succ:=@Nat.le_succ
def Ll:type_of% @decide_eq_false:=@decide_eq_false
def Lm:type_of% @Bool.or_eq_true:=@Bool.or_eq_true
def Lp:type_of% @Nat.le_of_not_lt:=@Nat.le_of_not_lt
def Lq:type_of% @of_decide_eq_true:=@of_decide_eq_true
def Lr:type_of% @Array.ext':=@Array.ext'
def Ls:type_of% @Nat.sub_zero:=@Nat.sub_zero
def Lt:type_of% @List.mem_map:=@List.mem_map
def Lu:type_of% @Option.map_eq_some_iff:=@Option.map_eq_some_iff
def Lv:type_of% @List.mem_append_right:=@List.mem_append_right
def Lw:type_of% @List.mem_of_mem_drop:=@List.mem_of_mem_drop
def Lx:type_of% @Bool.and_true:=@Bool.and_true
def Ly:type_of% @Nat.zero_mul:=@Nat.zero_mul
def Lz:type_of% @List.append_nil:=@List.append_nil
def LA:type_of% @if_false:=@if_false
def LB:type_of% @if_true:=@if_true
def LC:type_of% @Addr.add_lit:=@Addr.add_lit
def LD:type_of% @List.take_append_drop:=@List.take_append_drop
def LF:type_of% @Nat.zero_le:=@Nat.zero_le
def LG:type_of% @List.mem_append_left:=@List.mem_append_left
def LH:type_of% @Oper.upon_value:=@Oper.upon_value
def LI:type_of% @Nat.max_eq_left:=@Nat.max_eq_left
def LJ:type_of% @Array.getElem?_setIfInBounds_ne:=@Array.getElem?_setIfInBounds_ne
def LK:type_of% @run_program:=@run_program
def LL:type_of% @ByteArray.toList_eq:=@ByteArray.toList_eq
def LN:type_of% @wpIn_mono:=@wpIn_mono
def LP:type_of% @List.length_nil:=@List.length_nil
def LQ:type_of% @List.getElem?_eq_none:=@List.getElem?_eq_none
def LR:type_of% @Bool.true_and:=@Bool.true_and
def LS:type_of% @List.nodup_append:=@List.nodup_append
def LU:type_of% @List.getElem?_of_mem:=@List.getElem?_of_mem
open Go.RowKit
inductive T (α:Type) where
 |e:T α
 |n (v:Bc α) (a b c d:T α):T α
abbrev Ao:=T Aw
inductive K where
 |z:K
 |a (k:K):K
 |b (k:K):K
 |c (k:K):K
 |d (k:K):K
def K.pick (p:K)(r:Nat):K:=Nat.rec (motive:=fun _=>K) (.a p) (fun r _=>Nat.rec (motive:=fun _=>K) (.b p) (fun r _=>Nat.rec (motive:=fun _=>K) (.c p) (fun _ _=>.d p) r) r) r
def K.ofF (f:Nat):Nat->K:=
 Nat.rec (motive:=fun _=>Nat->K) (fun _=>.z) (fun _ ih k=>Nat.rec (motive:=fun _=>K) .z (fun m _=>K.pick (ih (Nat.div m 4)) (Nat.mod m 4)) k) f
def K.of (k:Nat):K:=K.ofF (k+1) k
def T.force {α β:Type}(t:T α)(f:T α->β):β:=T.rec (motive:=fun _=>β) (f .e) (fun v a b c d _ _ _ _=>f (.n v a b c d)) t
def T.force_eq {α a:Type}(t:T α)(f:T α->a):t.force f=f t:=by cases t<;>rfl
def Mt:type_of% @T.force_eq:=@T.force_eq
def T.top {α:Type}(t:T α):Bc α:=T.rec (motive:=fun _=>Bc α) none (fun v _ _ _ _ _ _ _ _=>v) t
def T.ta {α:Type}(t:T α):T α:=T.rec (motive:=fun _=>T α) .e (fun _ a _ _ _ _ _ _ _=>a) t
def T.tb {α:Type}(t:T α):T α:=T.rec (motive:=fun _=>T α) .e (fun _ _ b _ _ _ _ _ _=>b) t
def T.tc {α:Type}(t:T α):T α:=T.rec (motive:=fun _=>T α) .e (fun _ _ _ c _ _ _ _ _=>c) t
def T.td {α:Type}(t:T α):T α:=T.rec (motive:=fun _=>T α) .e (fun _ _ _ _ d _ _ _ _=>d) t
def T.getK {α:Type}(p:K):T α->Bc α:=
 K.rec (motive:=fun _=>T α->Bc α) (fun t=>t.top) (fun _ ih t=>ih t.ta) (fun _ ih t=>ih t.tb) (fun _ ih t=>ih t.tc) (fun _ ih t=>ih t.td) p
def T.get {α:Type}(t:T α)(k:Nat):Bc α:=T.getK (K.of k) t
def T.putz {α:Type}(x:Bc α)(t:T α):T α:=T.rec (motive:=fun _=>T α) (.n x .e .e .e .e) (fun _ a b c d _ _ _ _=>.n x a b c d) t
def T.puta {α:Type}(ih:Bc α->T α->T α)(x:Bc α)(t:T α):T α:=
 T.rec (motive:=fun _=>T α) ((ih x .e).force fun s=>.n none s .e .e .e) (fun v a b c d _ _ _ _=>(ih x a).force fun s=>.n v s b c d) t
def T.putb {α:Type}(ih:Bc α->T α->T α)(x:Bc α)(t:T α):T α:=
 T.rec (motive:=fun _=>T α) ((ih x .e).force fun s=>.n none .e s .e .e) (fun v a b c d _ _ _ _=>(ih x b).force fun s=>.n v a s c d) t
def T.putc {α:Type}(ih:Bc α->T α->T α)(x:Bc α)(t:T α):T α:=
 T.rec (motive:=fun _=>T α) ((ih x .e).force fun s=>.n none .e .e s .e) (fun v a b c d _ _ _ _=>(ih x c).force fun s=>.n v a b s d) t
def T.putd {α:Type}(ih:Bc α->T α->T α)(x:Bc α)(t:T α):T α:=
 T.rec (motive:=fun _=>T α) ((ih x .e).force fun s=>.n none .e .e .e s) (fun v a b c d _ _ _ _=>(ih x d).force fun s=>.n v a b c s) t
def T.setK {α:Type}(p:K):Bc α->T α->T α:=
 K.rec (motive:=fun _=>Bc α->T α->T α) T.putz (fun _ ih=>T.puta ih) (fun _ ih=>T.putb ih) (fun _ ih=>T.putc ih) (fun _ ih=>T.putd ih) p
def T.set {α:Type}(t:T α)(k:Nat)(x:Bc α):T α:=T.setK (K.of k) x t
def s7 {a b:Nat}(h:a≠b):Nat.beq a b=false:=by
 cases e:Nat.beq a b
 ·rfl
 ·exact absurd (Nat.eq_of_beq_eq_true e) h
def l6 {a b:Nat}(h:a=b):Nat.beq a b=true:=by subst h;exact Nat.beq_refl _
def T.getK_e {α:Type}:∀p:K,T.getK p (.e:T α)=none
 | .z=>rfl| .a p=>T.getK_e p| .b p=>T.getK_e p| .c p=>T.getK_e p| .d p=>T.getK_e p
def T.get_e {α:Type}(k:Nat):(T.e:T α).get k=none:=T.getK_e _
def Mu:type_of% @T.get_e:=@T.get_e
def T.getK_setK {α:Type}(x:Bc α):∀(p:K) (t:T α) (q:K),(p=q->T.getK q (T.setK p x t)=x)/\(p≠q->T.getK q (T.setK p x t)=T.getK q t):=by
 intro p;induction p with
 |z=>
  intro t q;refine⟨fun h=>by subst h;cases t<;>rfl,fun h=>?_⟩;cases q with
  |z=>exact absurd rfl h|_=>cases t<;>rfl
 |a p f=>
  intro t q;have e:T.setK (.a p) x t=T.n t.top (T.setK p x t.ta) t.tb t.tc t.td:=by
   cases t with
   |e=>exact Mt (T.setK p x .e) (fun s=>T.n none s .e .e .e)|n v a b c d=>exact Mt (T.setK p x a) (fun s=>T.n v s b c d)
  rw[e];cases q with
  |a q=>exact⟨fun h=>(f t.ta q).1 (by injection h),fun h=>(f t.ta q).2 (fun h'=>h (by rw[h']))⟩|_=>exact⟨fun h=>(by cases h),fun _=>by cases t<;>rfl⟩
 |b p f=>
  intro t q;have e:T.setK (.b p) x t=T.n t.top t.ta (T.setK p x t.tb) t.tc t.td:=by
   cases t with
   |e=>exact Mt (T.setK p x .e) (fun s=>T.n none .e s .e .e)|n v a b c d=>exact Mt (T.setK p x b) (fun s=>T.n v a s c d)
  rw[e];cases q with
  |b q=>exact⟨fun h=>(f t.tb q).1 (by injection h),fun h=>(f t.tb q).2 (fun h'=>h (by rw[h']))⟩|_=>exact⟨fun h=>(by cases h),fun _=>by cases t<;>rfl⟩
 |c p f=>
  intro t q;have e:T.setK (.c p) x t=T.n t.top t.ta t.tb (T.setK p x t.tc) t.td:=by
   cases t with
   |e=>exact Mt (T.setK p x .e) (fun s=>T.n none .e .e s .e)|n v a b c d=>exact Mt (T.setK p x c) (fun s=>T.n v a b s d)
  rw[e];cases q with
  |c q=>exact⟨fun h=>(f t.tc q).1 (by injection h),fun h=>(f t.tc q).2 (fun h'=>h (by rw[h']))⟩|_=>exact⟨fun h=>(by cases h),fun _=>by cases t<;>rfl⟩
 |d p f=>
  intro t q;have e:T.setK (.d p) x t=T.n t.top t.ta t.tb t.tc (T.setK p x t.td):=by
   cases t with
   |e=>exact Mt (T.setK p x .e) (fun s=>T.n none .e .e .e s)|n v a b c d=>exact Mt (T.setK p x d) (fun s=>T.n v a b c s)
  rw[e];cases q with
  |d q=>exact⟨fun h=>(f t.td q).1 (by injection h),fun h=>(f t.td q).2 (fun h'=>h (by rw[h']))⟩|_=>exact⟨fun h=>(by cases h),fun _=>by cases t<;>rfl⟩
def K.pick_eq (p:K)(r:Nat):K.pick p r=if r=0 then .a p else if r=1 then .b p else if r=2 then .c p else .d p:=by
 match r with
 |0=>rfl|1=>rfl|2=>rfl|r+3=>rw[if_neg (by omega),if_neg (by omega),if_neg (by omega)];rfl
def K.pick_inj {p q:K}{r s:Nat}(hr:r<4)(hs:s<4)(h:K.pick p r=K.pick q s):p=q/\r=s:=by
 rw[K.pick_eq,K.pick_eq]at h;split at h<;>split at h<;>first
  | (injection h with h1;exact⟨h1,by omega⟩)
  | (cases h;done)
  | (split at h<;>first| (injection h with h1;exact⟨h1,by omega⟩)| (cases h;done)| (split at h<;>first| (injection h with h1;exact⟨h1,by omega⟩)| (cases h;done)| (split at h<;>first| (injection h with h1;exact⟨h1,by omega⟩)| (cases h;done)| (split at h<;>first| (injection h with h1;exact⟨h1,by omega⟩)| (cases h;done)))))
def K.ofF_inj :∀(f g j k:Nat),j<f->k<g->K.ofF f j=K.ofF g k->j=k:=by
 intro f;induction f with
 |zero=>intro g j k h;omega
 |succ f c=>
  intro g j k hj hk h;cases g with
  |zero=>omega|succ g=>
   have a:∀(p:K) (r:Nat),K.pick p r≠ .z:=by
    intro p r;rw[K.pick_eq]
    repeat' split
    all_goals (intro h;cases h)
   cases j with
   |zero=>
    cases k with
    |zero=>rfl|succ k=>exact absurd h.symm (a _ _)
   |succ j=>
    cases k with
    |zero=>exact absurd h (a _ _)|succ k=>have h':K.pick (K.ofF f (j/4)) (j % 4)=K.pick (K.ofF g (k/4)) (k % 4):=h;obtain⟨h1,h2⟩:=K.pick_inj (Nat.mod_lt _ (by omega)) (Nat.mod_lt _ (by omega)) h';have:=c g (j/4) (k/4) (by omega) (by omega) h1;omega
def T.get_set {α:Type}(t:T α)(k:Nat)(x:Bc α)(j:Nat):(t.set k x).get j=if j=k then x else t.get j:=by
 obtain⟨h1,h2⟩:=T.getK_setK x (K.of k) t (K.of j);by_cases h:j=k
 ·subst h;rw[if_pos rfl];exact h1 rfl
 ·rw[if_neg h];exact h2 (fun e=>h (K.ofF_inj _ _ _ _ (by omega) (by omega) e).symm)
def Mw:type_of% @T.get_set:=@T.get_set
end Go.Xe
end PartXm1
noncomputable section PartXm2
namespace Go.Xe
open Go.RowKit
structure Pl where
 blk:Nat
 dl:Nat
 siz:Nat
 esz:Nat
def Sg :Type:=Nat->Bc Pl
def Sg.le (σ σ':Sg):Prop:=∀i p,σ i=some p->σ' i=some p
def Sg.le_refl (σ:Sg):Sg.le σ σ:=fun _ _ h=>h
def Sg.le_trans {a b c:Sg}(h:Sg.le a b)(k:Sg.le b c):Sg.le a c:=fun i p e=>k i p (h i p e)
structure Sg.gr (n n':Nat)(σ σ':Sg):Prop where
 le:Sg.le σ σ'
 low:∀i,i<n->σ' i=σ i
 nx:n<=n'
def Sg.gr_refl (n:Nat)(σ:Sg):Sg.gr n n σ σ:=⟨Sg.le_refl σ,fun _ _=>rfl,Nat.le_refl n⟩
def Mq:type_of% @Sg.gr_refl:=@Sg.gr_refl
variable {n:Nat}
def Sg.gr_trans {d e:Nat}{a b c:Sg}(h:Sg.gr n d a b)(k:Sg.gr d e b c):Sg.gr n e a c:=
 ⟨Sg.le_trans h.le k.le,fun i hi=>(k.low i (by have:=h.nx;omega)).trans (h.low i hi),Nat.le_trans h.nx k.nx⟩
def Mr:type_of% @Sg.gr_trans:=@Sg.gr_trans
def unk :Nat:=9223372036854775808
def L6 (c:Nat):Nat:=c/unk-1
def D1 (c:Nat):Nat:=c % unk
def c8 (lo hi:Nat):Nat:=unk*(lo+1)+hi
def G2 {lo hi:Nat}(h:hi<unk):L6 (c8 lo hi)=lo:=by unfold L6 c8;unfold unk at*;omega
def G1 {lo hi:Nat}(h:hi<unk):D1 (c8 lo hi)=hi:=by unfold D1 c8;unfold unk at*;omega
def j1 (lo hi:Nat):unk<=c8 lo hi:=by unfold c8 unk;omega
def Jx :L6 unk=0:=by decide
def Jw :D1 unk=0:=by decide
def E6 :0<unk:=by decide
def tJ :FloatKind->Nat->IntKind
 | .f32,0=>.u32| .f32,1=>.u64| .f32,_=>.u8| .f64,_=>.i64
def X4 (f:FloatKind)(lo:Nat):IntKind:=tJ f (lo/18446744073709551616)
def bY (lo:Nat):Nat:=lo % 18446744073709551616
def rq (lo:Nat):bY lo<=lo:=Nat.mod_le _ _
inductive VR (σ:Sg):Aw->Aw->Prop
 |bool (b:Bool):VR σ (.bool b) (.bool b)
 |int (k:IntKind) (n:Int):VR σ (.int k n) (.int k n)
 |float (k:FloatKind) (n:Nat):VR σ (.float k n) (.float k n)
 |ival (f:FloatKind) (lo hi n:Nat) (h1:bY lo<=n) (h2:hi=0\/n<hi):VR σ (.complex f lo hi) (.int (X4 f lo) n)
 |string (s:ByteArray):VR σ (.string s) (.string s)
 |nilp:VR σ (.pointer none) (.pointer none)
 |ptr (i o:Nat) (p:Pl) (h:σ i=some p):VR σ (.pointer (some ⟨i,o,none⟩)) (.pointer (some ⟨p.blk,p.dl+o,none⟩))
 |nils (l c:Nat):VR σ (.slice none l c) (.slice none l c)
 | slice (i o : Nat) (p : Pl) (l c c' : Nat) (h : σ i = some p) (hc : (c = c' ∧ c < unk) ∨ (unk ≤ c ∧ L6 c ≤ c' ∧ (D1 c = 0 ∨ c' < D1 c) ∧ p.dl + o + c' * p.esz ≤ p.siz)) (hl : l ≤ c') :
   VR σ (.slice (some ⟨i,o,none⟩) l c) (.slice (some ⟨p.blk,p.dl+o,none⟩) l c')
 |vague (q:Addr) (c':Nat):VR σ (.slice (some ⟨0,0,some 0⟩) 0 unk) (.slice (some q) 0 c')
 |nilm:VR σ (.map none) (.map none)
 |map (i:Nat) (p:Pl) (h:σ i=some p):VR σ (.map (some i)) (.map (some p.blk))
 | func (fn : Fn) (xs ys cs ds : Al) (h1 : xs.size = ys.size) (h2 : ∀ (i : Nat) x y, xs[i]? = some x → ys[i]? = some y → VR σ x y)
   (h3:cs.size=ds.size) (h4:∀(i:Nat) x y,cs[i]? =some x->ds[i]? =some y->VR σ x y):VR σ (.func fn xs cs) (.func fn ys ds)
 |nilf:VR σ .nilFunc .nilFunc
 |yield (i:Nat) (p:Pl) (h:σ i=some p):VR σ (.chan (some i)) (.func (.yield p.blk) #[] #[])
 |iface (t:Ay) (v u:Aw) (h:VR σ v u):VR σ (.iface t v) (.iface t u)
 |nili:VR σ .nilIface .nilIface
 |agg (xs ys:Al) (h1:xs.size=ys.size) (h2:∀(i:Nat) x y,xs[i]? =some x->ys[i]? =some y->VR σ x y):VR σ (.agg xs) (.agg ys)
 |tuple (xs ys:Al) (h1:xs.size=ys.size) (h2:∀(i:Nat) x y,xs[i]? =some x->ys[i]? =some y->VR σ x y):VR σ (.tuple xs) (.tuple ys)
variable {σ σ':Sg}
def VR.mono (hs:Sg.le σ σ'){a b:Aw}(h:VR σ a b):VR σ' a b:=by
 induction h with
 |bool b=>exact .bool b|int k n=>exact .int k n|float k n=>exact .float k n|ival f lo hi n h1 h2=>exact .ival f lo hi n h1 h2|string s=>exact .string s|nilp=>exact .nilp|ptr i o p h=>exact .ptr i o p (hs _ _ h)|nils l c=>exact .nils l c|slice i o p l c c' h hc hl=>exact .slice i o p l c c' (hs _ _ h) hc hl|vague q c'=>exact .vague q c'|nilm=>exact .nilm|map i p h=>exact .map i p (hs _ _ h)|func fn xs ys cs ds h1 _ h3 _ e g=>exact .func fn xs ys cs ds h1 e h3 g|nilf=>exact .nilf|yield i p h=>exact .yield i p (hs _ _ h)|iface t v u _ d=>exact .iface t v u d|nili=>exact .nili|agg xs ys h1 _ d=>exact .agg xs ys h1 d|tuple xs ys h1 _ d=>exact .tuple xs ys h1 d
def VR.undef (σ:Sg):VR σ undef undef:= .tuple _ _ rfl (fun i x y h _=>by simp at h)
def MD:type_of% @VR.undef:=@VR.undef
def VRL (σ:Sg)(xs ys:Af):Prop:=xs.length=ys.length/\ ∀(i:Nat) x y,xs[i]? =some x->ys[i]? =some y->VR σ x y
def VRL.nil (σ:Sg):VRL σ [] []:=⟨rfl,fun i x y h _=>by simp at h⟩
def MF:type_of% @VRL.nil:=@VRL.nil
variable {x:Aw}{xs ys:Af}
theorem VRL.cons {y:Aw}(h:VR σ x y)(hs:VRL σ xs ys):VRL σ (x::xs) (y::ys):=by
 refine⟨by simp[hs.1],fun i a b ha hb=>?_⟩;cases i with
 |zero=>grind|succ i=>simp at ha hb;exact hs.2 i a b ha hb
def ME:type_of% @VRL.cons:=@VRL.cons
def VRL.uncons (h:VRL σ (x::xs) ys):∃y c,ys=y::c/\VR σ x y/\VRL σ xs c:=by
 cases ys with
 |nil=>exact absurd h.1 (by simp)|cons y ys=>exact⟨y,ys,rfl,h.2 0 x y rfl rfl,by have:=h.1;simpa using this,fun i a b ha hb=>h.2 (i+1) a b (by simpa using ha) (by simpa using hb)⟩
def VRL.unnil (h:VRL σ [] ys):ys=[]:=List.eq_nil_of_length_eq_zero h.1.symm
def VRL.mono (hs:Sg.le σ σ'){a b:Af}(h:VRL σ a b):VRL σ' a b:=⟨h.1,fun i x y hx hy=>(h.2 i x y hx hy).mono hs⟩
def VRL.append {a b c d:Af}(h:VRL σ a b)(k:VRL σ c d):VRL σ (a++c) (b++d):=by
 induction a generalizing b with
 |nil=>rw[h.unnil];exact k|cons x a e=>obtain⟨y,b',rfl,h1,h2⟩:=h.uncons;exact ME h1 (e h2)
variable {i:Nat}
def VRL.get {a b:Af}(h:VRL σ a b)(hx:a[i]? =some x):∃y,b[i]? =some y/\VR σ x y:=by
 have hi:i<a.length:=(List.getElem?_eq_some_iff.1 hx).1;have hb:i<b.length:=by rw[<-h.1];exact hi
 exact⟨b[i],by simp[hb],h.2 i x _ hx (by simp[hb])⟩
variable {v:Aw}
def VRL.of_agg {a:Al}(h:VR σ (.agg a) v):∃b,v= .agg b/\VRL σ a.toList b.toList:=by
 cases h with
 |agg _ ys h1 h2=>exact⟨ys,rfl,by simpa using h1,fun i x y hx hy=>h2 i x y (by simpa using hx) (by simpa using hy)⟩
def MG:type_of% @VRL.of_agg:=@VRL.of_agg
def VRL.to_agg {a b:Af}(h:VRL σ a b):VR σ (.agg a.toArray) (.agg b.toArray):=
 .agg _ _ (by simpa using h.1) (fun i x y hx hy=>h.2 i x y (by simpa using hx) (by simpa using hy))
def VRL.of_tuple {a:Al}(h:VR σ (.tuple a) v):∃b,v= .tuple b/\VRL σ a.toList b.toList:=by
 cases h with
 |tuple _ ys h1 h2=>exact⟨ys,rfl,by simpa using h1,fun i x y hx hy=>h2 i x y (by simpa using hx) (by simpa using hy)⟩
def VRL.to_tuple {a b:Af}(h:VRL σ a b):VR σ (.tuple a.toArray) (.tuple b.toArray):=
 .tuple _ _ (by simpa using h.1) (fun i x y hx hy=>h.2 i x y (by simpa using hx) (by simpa using hy))
variable {u:Aw}
def VR.cells (h:VR σ v u):VRL σ v.cells.toList u.cells.toList:=by
 cases h with
 |agg xs ys h1 h2=>exact⟨by simpa [Value.cells]using h1,fun i x y hx hy=>h2 i x y (by simpa [Value.cells]using hx) (by simpa [Value.cells]using hy)⟩|bool b=>exact ME (.bool b) (MF σ)|int k n=>exact ME (.int k n) (MF σ)|float k n=>exact ME (.float k n) (MF σ)|ival f lo hi n h1 h2=>exact ME (.ival f lo hi n h1 h2) (MF σ)|string s=>exact ME (.string s) (MF σ)|nilp=>exact ME .nilp (MF σ)|ptr i o p h=>exact ME (.ptr i o p h) (MF σ)|nils l c=>exact ME (.nils l c) (MF σ)|slice i o p l c c' h hc hl=>exact ME (.slice i o p l c c' h hc hl) (MF σ)|vague q c'=>exact ME (.vague q c') (MF σ)|nilm=>exact ME .nilm (MF σ)|map i p h=>exact ME (.map i p h) (MF σ)|func fn xs ys cs ds h1 h2 h3 h4=>exact ME (.func fn xs ys cs ds h1 h2 h3 h4) (MF σ)|nilf=>exact ME .nilf (MF σ)|yield i p h=>exact ME (.yield i p h) (MF σ)|iface t v u h=>exact ME (.iface t v u h) (MF σ)|nili=>exact ME .nili (MF σ)|tuple xs ys h1 h2=>exact ME (.tuple xs ys h1 h2) (MF σ)
def VR.oneCell (h:VR σ v u)(a:v.oneCell'=true):u.oneCell'=true:=by cases h<;>first|rfl| (simp[Value.oneCell']at a)
inductive Blk where
 |cells (c:Ao) (n:Nat) (elem esz:Nat)
 |ro (c:Ao) (n:Nat) (elem esz:Nat)
 |sit (s:ByteArray) (pos:Nat)
 |map (es:List (Aw×Aw)) (reg:Bool)
 |loop (st:LoopState) (pend:Bc Code) (nt:Nat) (tms:Ao) (params:Array Tmp) (assign body:Code) (db:Nat)
 |dfr
abbrev Ac:=Nat ->Bc Blk
structure Hp where
 m:T Blk
 nx:Nat
def BR (σ:Sg)(p:Pl):Blk->Obj->Prop
 | .cells c n e z,o=>∃C,o= .cells C e (0,0)/\p.esz=z/\C.size=p.siz/\p.dl+n<=p.siz/\ ∀j,j<n-> ∃v u,c.get j=some v/\C[p.dl+j]? =some u/\VR σ v u| .ro c n e z,o=>∃C f,o= .cells C e f/\p.esz=z/\C.size=p.siz/\p.dl+n<=p.siz/\ ∀j v,j<n->c.get j=some v-> ∃u,C[p.dl+j]? =some u/\VR σ v u| .sit s pos,o=>o= .stringIter s pos/\p.dl=0| .dfr,o=>o= .deferred (some [])
 | .loop st pend nt tms params assign body db, o => ∃ r, o = .loop r ∧ r.state = st ∧ r.pending = pend ∧ r.params = params ∧ r.assign = assign ∧ r.body = body ∧
   (r.tmps.size=nt/\ ∀k,VR σ ((tms.get k).getD undef) (r.tmps.getD k undef))/\ ∃q,σ db=some q/\q.blk=r.defers
 | .map es reg, o => ∃ ents clock, o = .map ents clock ∧ ents.size = es.length ∧ (∀ (j : Nat) x e, es[j]? = some x → ents[j]? = some e → VR σ x.1 e.key ∧ VR σ x.2 e.val) ∧
   (reg=true->clock=ents.size/\ ∀(j:Nat) e,ents[j]? =some e->e.born=j)
variable {p:Pl}{b:Blk}
def BR.mono (hs:Sg.le σ σ'){o:Obj}(h:BR σ p b o):BR σ' p b o:=by
 cases b with
 |cells c n e z=>obtain⟨C,h1,h2,h3,h4,h5⟩:=h;exact⟨C,h1,h2,h3,h4,fun j hj=>let⟨v,u,a,b,c⟩:=h5 j hj;⟨v,u,a,b,c.mono hs⟩⟩
 |ro c n e z=>obtain⟨C,f,h1,h2,h3,h4,h5⟩:=h;exact⟨C,f,h1,h2,h3,h4,fun j v hj A=>let⟨u,b,c⟩:=h5 j v hj A;⟨u,b,c.mono hs⟩⟩
 |sit s pos=>exact h|dfr=>exact h|loop st pend nt tms params assign body db=>obtain⟨r,h1,h2,h3,h4,h5,l,⟨h7,m⟩,q,t,g⟩:=h;exact⟨r,h1,h2,h3,h4,h5,l,⟨h7,fun k=>(m k).mono hs⟩,q,hs _ _ t,g⟩
 |map es reg=>obtain⟨ents,d,h1,h2,h3,h4⟩:=h;exact⟨ents,d,h1,h2,fun j x e hx he=>⟨(h3 j x e hx he).1.mono hs,(h3 j x e hx he).2.mono hs⟩,h4⟩
structure BS where
 B:Nat->Prop
 D:Nat->Prop
 sub:∀k,D k->B k
instance : CoeFun BS (fun _=>Nat->Prop):=⟨BS.B⟩
def BS.below (w:Be):BS:=⟨(· <w.heap.size),fun _=>False,fun _ h=>h.elim⟩
def NB (B:BS)(k:Nat):Blk->Prop
 | .ro _ _ _ _=>B.D k|_=>¬B k
def aQ :Blk->Bool
 | .ro _ _ _ _=>true|_=>false
variable {B:BS}{k:Nat}
def NB.no (h:NB B k b)(hb:aQ b=false):¬B k:=by cases b<;>first|exact h| (cases hb)
def NB.yes (h:NB B k b)(hb:aQ b=true):B.D k:=by cases b<;>first|exact h| (cases hb)
def NB.of (h:¬B k)(hb:aQ b=false):NB B k b:=by cases b<;>first|exact h| (cases hb)
def NB.to {B':BS}(h:NB B k b)(h1:B.D k->B'.D k)(h2:¬B k-> ¬B' k):NB B' k b:=by cases b<;>first|exact h1 h|exact h2 h
def NB.like {b':Blk}(h:NB B k b)(hb:aQ b=false)(a:aQ b'=false):NB B k b':= .of (h.no hb) a
def rdC :Blk->Bc (Ao×Nat×Nat)
 | .cells c n _ z=>some (c,n,z)| .ro c n _ z=>some (c,n,z)|_=>none
structure HR (B:BS)(w0:Be)(σ:Sg)(hp:Hp)(w:Be):Prop where
 os:w.os=w0.os
 tape:w.tape=w0.tape
 output:w.output=w0.output
 size:w0.heap.size<=w.heap.size
 old:∀k,B k->k<w0.heap.size
 kept:∀k,B k->w.heap[k]? =w0.heap[k]?
 fresh:∀i,hp.nx<=i->σ i=none
 live:∀i b,hp.m.get i=some b-> ∃p o,σ i=some p/\NB B p.blk b/\w.heap[p.blk]? =some o/\BR σ p b o
 inj:∀i j b b' p q,hp.m.get i=some b->hp.m.get j=some b'->i≠j->σ i=some p->σ j=some q->p.blk≠q.blk
variable {w0:Be}{z:Nat}
def HR.liveC {hp:Hp}{w:Be}(h:HR B w0 σ hp w){e:Nat}{c:Ao}(f:hp.m.get i=some (.cells c n e z)):∃p C,σ i=some p/\p.esz=z/\ ¬B p.blk/\w.heap[p.blk]? =some (.cells C e (0,0))/\C.size=p.siz/\p.dl+n<=p.siz/\ ∀j,j<n-> ∃v u,c.get j=some v/\C[p.dl+j]? =some u/\VR σ v u:=by obtain⟨p,o,h1,h2,h3,C,rfl,h5,a,h7,d⟩:=h.live i _ f;exact⟨p,C,h1,h5,h2,h3,a,h7,d⟩
theorem HR.liveR {hp:Hp}{w:Be}(h:HR B w0 σ hp w){c:Ao}(a:hp.m.get i=some b)(hr:rdC b=some (c,n,z)):∃p C e f,σ i=some p/\p.esz=z/\w.heap[p.blk]? =some (.cells C e f)/\C.size=p.siz/\p.dl+n<=p.siz/\ ∀j v,j<n->c.get j=some v-> ∃u,C[p.dl+j]? =some u/\VR σ v u:=by
 cases b with
 |cells c' n' e g=>cases hr;obtain⟨p,C,h1,h2,_,h3,h4,h5,d⟩:=h.liveC a;grind
 |ro c' n' e g=>cases hr;obtain⟨p,o,h1,h2,h3,C,f,rfl,h5,d,h7,l⟩:=h.live i _ a;grind
 |_=>cases hr
def HR.drew {hp:Hp}{w:Be}(h:HR B w0 σ hp w):HR B w0 σ hp w.drew:=
 ⟨h.os,h.tape,h.output,h.size,h.old,h.kept,h.fresh,h.live,h.inj⟩
def fill (c:Ao):Nat->Af->Ao
 |_,[]=>c|k,v::vs=>fill (c.set k (some v)) (k+1) vs
theorem f6 :∀(vs:Af) (c:Ao) (k j:Nat),(fill c k vs).get j=if k<=j/\j<k+vs.length then vs[j-k]? else c.get j:=by
 intro vs;induction vs with
 |nil=>intro c k j;simp only[fill,List.length_nil,Nat.add_zero];rw[if_neg (by omega)]
 |cons v vs a=>intro c k j;simp only[fill,a,Mw,List.length_cons];grind
def d6 (c:Ao):Nat->Nat->Bc (Af)
 |_,0=>some []|o,n+1=>match c.get o with
  |some v=>match d6 c (o+1) n with
   |some vs=>some (v::vs)|none=>none
  |none=>none
theorem g9 {c:Ao}:∀ {n o:Nat} {vs:Af},d6 c o n=some vs->vs.length=n/\ ∀j,j<n->vs[j]? =c.get (o+j):=by
 intro n;induction n with
 |zero=>intro o vs h;simp[d6]at h;subst h;exact⟨rfl,fun j hj=>by omega⟩
 |succ n a=>intro o vs h;simp only[d6]at h;grind
variable {vs:Af}
theorem HR.cellsR {hp:Hp}{w:Be}(h:HR B w0 σ hp w){o m:Nat}{c:Ao}(g:hp.m.get i=some b)(hr:rdC b=some (c,n,z))(hn:o+m<=n)(hl:d6 c o m=some vs)(hp':σ i=some p):∃us,VRL σ vs us/\us.length=m/\ ∀j u,us[j]? =some u->w.cell? ((⟨p.blk,p.dl+o,none⟩:Addr).add j)=some u:=by
 obtain⟨q,C,e,f,hq,hz,hw,hs,hd,hc⟩:=h.liveR g hr;have:q=p:=Option.some.inj (hq.symm.trans hp');subst this;obtain⟨d,a⟩:=g9 hl;refine⟨(C.toList.drop (q.dl+o)).take m,⟨?_,?_⟩,?_,?_⟩
 ·grind
 ·grind
 ·grind
 ·intro j u l;have hj:j<m:=by grind
  rw[List.getElem?_take,if_pos hj,List.getElem?_drop]at l;rw[Addr.add_lit,cell_of_row w q.blk _ C e f hw];grind
def HR.cells {hp:Hp}{w:Be}(h:HR B w0 σ hp w){e o m:Nat}{c:Ao}(a:hp.m.get i=some (.cells c n e z))(hn:o+m<=n)(hl:d6 c o m=some vs)(hp':σ i=some p):∃us,VRL σ vs us/\us.length=m/\ ∀j u,us[j]? =some u->w.cell? ((⟨p.blk,p.dl+o,none⟩:Addr).add j)=some u:=h.cellsR a rfl hn hl hp'
end Go.Xe
end PartXm2
noncomputable section PartXm3
namespace Go.Xe
open Go.RowKit
section
variable {B :BS}{w0:Be}{σ:Sg}{hp:Hp}{w:Be}
def Sg.ext (σ:Sg)(i:Nat)(p:Pl):Sg:=fun j=>if j=i then some p else σ j
def Sg.ext_same (σ:Sg)(i:Nat)(p:Pl):σ.ext i p i=some p:=by simp[Sg.ext]
def Mp:type_of% @Sg.ext_same:=@Sg.ext_same
def Sg.ext_other (σ:Sg)(i:Nat)(p:Pl){j:Nat}(h:j≠i):σ.ext i p j=σ j:=by simp[Sg.ext,h]
def Mo:type_of% @Sg.ext_other:=@Sg.ext_other
variable {i:Nat}
def Sg.le_ext {σ:Sg}(p:Pl)(h:σ i=none):Sg.le σ (σ.ext i p):=by
 intro j q hq;have a:j≠i:=by intro e;subst e;rw[h]at hq;cases hq
 rw[Mo _ _ _ a];exact hq
def Ms:type_of% @Sg.le_ext:=@Sg.le_ext
def HR.allocO (h:HR B w0 σ hp w)(d nx:Nat)(l:σ d=none)(E:hp.nx<=nx)(hlt:d<nx)(b:Blk)(o:Obj)(p:Pl)(hp0:p.blk=w.heap.size)(hb:BR (σ.ext d p) p b o)(A:aQ b=false:=by rfl):HR B w0 (σ.ext d p) ⟨hp.m.set d (some b),nx⟩ (w.alloc o):=by
 have s:=Ms (σ:=σ) (i:=d) p l;refine⟨h.os,h.tape,h.output,by simp;have:=h.size;omega,h.old,fun k hk=>by rw[Below.heap_alloc _ _ _ (by have:=h.old k hk;have:=h.size;omega)];exact h.kept k hk,?_,?_,?_⟩
 ·intro i hi;have D:nx<=i:=hi;rw[Mo _ _ _ (by omega)];exact h.fresh i (by omega)
 ·intro i b' f;simp only[Mw]at f;by_cases hi:i=d
  ·rw[if_pos hi]at f;simp only[Option.some.injEq]at f;subst f;subst hi;refine⟨p,o,Mp _ _ _,.of (fun C=>by have h1:=h.old _ C;have h2:=h.size;omega) A,?_,hb⟩;rw[hp0];show(w.heap.push _)[w.heap.size]? =_;simp
  ·rw[if_neg hi]at f;obtain⟨q,o',h1,h2,h3,h4⟩:=h.live i b' f;refine⟨q,o',by rw[Mo _ _ _ hi];exact h1,h2,?_,h4.mono s⟩;rw[Below.heap_alloc _ _ _ (Array.getElem?_eq_some_iff.1 h3).1];exact h3
 ·intro i j b1 b2 q r hi hj t c a;simp only[Mw]at hi hj;by_cases g:i=d
  ·have e:j≠d:=by omega
   rw[if_neg e]at hj;rw[g,Mp]at c;rw[Mo _ _ _ e]at a;obtain⟨G,o',h1,_,h3,_⟩:=h.live j b2 hj;have:G=r:=Option.some.inj (h1.symm.trans a);subst this;have:=(Array.getElem?_eq_some_iff.1 h3).1;rw[<-Option.some.inj c,hp0];omega
  ·rw[if_neg g]at hi;rw[Mo _ _ _ g]at c;by_cases e:j=d
   ·rw[e,Mp]at a;obtain⟨F,o',h1,_,h3,_⟩:=h.live i b1 hi;have:F=q:=Option.some.inj (h1.symm.trans c);subst this;have:=(Array.getElem?_eq_some_iff.1 h3).1;rw[<-Option.some.inj a,hp0];omega
   ·rw[if_neg e]at hj;rw[Mo _ _ _ e]at a;exact h.inj i j _ _ q r hi hj t c a
def HR.allocAt (h:HR B w0 σ hp w)(d nx:Nat)(a:σ d=none)(f:hp.nx<=nx)(hlt:d<nx)(c:Ao)(n e z:Nat)(us:Al)(hn:n<=us.size)(hc:∀j,j<n-> ∃v u,c.get j=some v/\us[j]? =some u/\VR σ v u):HR B w0 (σ.ext d ⟨w.heap.size,0,us.size,z⟩) ⟨hp.m.set d (some (.cells c n e z)),nx⟩ (w.alloc (.cells us e)):=by refine h.allocO d nx a f hlt _ _ _ rfl ⟨us,rfl,rfl,rfl,by simpa using hn,fun j hj=>?_⟩;obtain⟨v,u,h1,h2,h3⟩:=hc j hj;exact⟨v,u,h1,by simpa using h2,h3.mono (Ms _ a)⟩
def HR.alloc (h:HR B w0 σ hp w)(c:Ao)(n e z:Nat)(us:Al)(hn:n<=us.size)(hc:∀j,j<n-> ∃v u,c.get j=some v/\us[j]? =some u/\VR σ v u):HR B w0 (σ.ext hp.nx ⟨w.heap.size,0,us.size,z⟩) ⟨hp.m.set hp.nx (some (.cells c n e z)),hp.nx+1⟩ (w.alloc (.cells us e)):=
 h.allocAt hp.nx (hp.nx+1) (h.fresh _ (Nat.le_refl _)) (Nat.le_succ _) (Nat.lt_succ_self _) c n e z us hn hc
variable {p:Pl}
def HR.turn (h:HR B w0 σ hp w){b b':Blk}(C:hp.m.get i=some b)(G:σ i=some p){o:Obj}{w':Be}(hh:w'.heap[p.blk]? =some o)(hk:∀k,k≠p.blk->w'.heap[k]? =w.heap[k]?)(hs:w'.heap.size=w.heap.size)(h1:w'.os=w.os)(h2:w'.tape=w.tape)(h3:w'.output=w.output)(hb:BR σ p b' o)(J:aQ b=false:=by rfl)(A:aQ b'=false:=by rfl):HR B w0 σ {hp with m:=hp.m.set i (some b')} w':=by
 obtain⟨p',o',D,E,R,S⟩:=h.live i b C;have L:=E.no J;have:p'=p:=Option.some.inj (D.symm.trans G);subst this;refine⟨h1.trans h.os,h2.trans h.tape,h3.trans h.output,by rw[hs];exact h.size,h.old,fun k t=>?_,h.fresh,?_,?_⟩
 ·rw[hk k (fun e=>L (by rw[<-e];exact t))];exact h.kept k t
 ·intro j b2 hj;simp only[Mw]at hj;by_cases d:j=i
  ·rw[if_pos d]at hj;simp only[Option.some.injEq]at hj;subst hj;subst d;exact⟨p',o,D,.of L A,hh,hb⟩
  ·rw[if_neg d]at hj;obtain⟨q,Q,K,M,N,O⟩:=h.live j b2 hj;exact⟨q,Q,K,M,by rw[hk _ (h.inj j i _ _ q p' hj C d K D)];exact N,O⟩
 ·intro a c b1 b2 q r ha hc F H I;simp only[Mw]at ha hc;have f:∃b,hp.m.get a=some b:=by
   by_cases l:a=i
   ·subst l;exact⟨_,C⟩
   ·rw[if_neg l]at ha;exact⟨_,ha⟩
  have g:∃b,hp.m.get c=some b:=by
   by_cases s:c=i
   ·subst s;exact⟨_,C⟩
   ·rw[if_neg s]at hc;exact⟨_,hc⟩
  obtain⟨_,f⟩:=f;obtain⟨_,g⟩:=g;exact h.inj a c _ _ q r f g F H I
theorem HR.store (h:HR B w0 σ hp w){n e z o:Nat}{c:Ao}(A:hp.m.get i=some (.cells c n e z))(r:σ i=some p){vs us:Af}(j:VRL σ vs us)(h1:∀u∈us,u.oneCell'=true)(J:o<=n)(hs:p.dl+o+vs.length<=p.siz)(P:Ax):∃w',(storeCells ⟨p.blk,p.dl+o,none⟩ us).run P w= .ok () w'/\HR B w0 σ {hp with m:=hp.m.set i (some (.cells (fill c o vs) (max n (o+vs.length)) e z))} w'/\w'.heap.size=w.heap.size:=by
 obtain⟨p',C,s,D,H,t,E,I,F⟩:=h.liveC A;have:p'=p:=Option.some.inj (s.symm.trans r);subst this;have hr:=run_storeCells_at P p'.blk (p'.dl+o) e us 0 C w t (by rw[<-j.1];omega) h1;simp only[Nat.add_zero]at hr;refine⟨_,hr,?_,by simp[World.setRow]⟩;have g:=setRow_heap w p'.blk C (C.toList.take (p'.dl+o)++us++C.toList.drop (p'.dl+o+us.length)).toArray e (0,0) t;have a:(C.toList.take (p'.dl+o)++us++C.toList.drop (p'.dl+o+us.length)).toArray.size=C.size:=by have:=j.1;grind
 refine h.turn A s g (fun k hk=>setRow_other w _ k _ hk) (by simp[World.setRow]) rfl rfl rfl ⟨_,rfl,D,by rw[a];exact E,by omega,fun k hk=>?_⟩;rw[f6];have hl:=j.1;by_cases d:o<=k/\k<o+vs.length
 ·rw[if_pos d];have f:k-o<vs.length:=by omega
  have l:k-o<us.length:=by omega
  refine⟨vs[k-o],us[k-o],by simp[f],?_,j.2 (k-o) _ _ (by simp[f]) (by simp[l])⟩;simp only[List.append_assoc,List.getElem?_toArray];rw[List.getElem?_append_right (by simp;omega),List.getElem?_append_left (by simp;omega)];grind
 ·rw[if_neg d];have q:k<n:=by omega
  obtain⟨v,u,a1,a2,a3⟩:=F k q;refine⟨v,u,a1,?_,a3⟩;simp only[List.append_assoc,List.getElem?_toArray];rw[<-a2];by_cases G:k<o
  ·grind
  ·rw[List.getElem?_append_right (by simp;omega),List.getElem?_append_right (by simp;omega),List.getElem?_drop];grind
theorem HR.move (h:HR B w0 σ hp w){n e z o k:Nat}{c:Ao}(F:hp.m.get i=some (.cells c n e z))(g:σ i=some p)(hk:o+k<=n)(c':Ao)(hc:∀j,j<k->c'.get j=c.get (o+j)):HR B w0 (σ.ext hp.nx ⟨p.blk,p.dl+o,p.siz,p.esz⟩) ⟨(hp.m.set i none).set hp.nx (some (.cells c' k e z)),hp.nx+1⟩ w:=by
 have A:=Ms (σ:=σ) (i:=hp.nx) ⟨p.blk,p.dl+o,p.siz,p.esz⟩ (h.fresh _ (Nat.le_refl _));obtain⟨p',C,M,N,O,Q,R,W,S⟩:=h.liveC F;have:p'=p:=Option.some.inj (M.symm.trans g);subst this;have U:i≠hp.nx:=by intro e;rw[e,h.fresh _ (Nat.le_refl _)]at g;cases g
 refine⟨h.os,h.tape,h.output,h.size,h.old,h.kept,?_,?_,?_⟩
 ·intro j hj;simp at hj;rw[Mo _ _ _ (by omega)];exact h.fresh j (by omega)
 ·intro j b2 hj;simp only[Mw]at hj;by_cases D:j=hp.nx
  ·rw[if_pos D]at hj;simp only[Option.some.injEq]at hj;subst hj;subst D;refine⟨_,_,Mp _ _ _,O,Q,C,rfl,N,R,by show p'.dl+o+k<=p'.siz;omega,fun j hj=>?_⟩;obtain⟨v,u,a1,a2,a3⟩:=S (o+j) (by omega);refine⟨v,u,by rw[hc j hj];exact a1,?_,a3.mono A⟩;grind
  ·rw[if_neg D]at hj;by_cases L:j=i
   ·grind
   ·rw[if_neg L]at hj;obtain⟨q,V,H,I,J,K⟩:=h.live j b2 hj;exact⟨q,V,by rw[Mo _ _ _ D];exact H,I,J,K.mono A⟩
 ·intro a b b1 b2 q r ha hb G l f;simp only[Mw]at ha hb;by_cases E:a=hp.nx
  ·have t:b≠hp.nx:=by omega
   rw[if_neg t]at hb;by_cases d:b=i
   ·rw[if_pos d]at hb;cases hb
   ·rw[if_neg d]at hb;rw[E,Mp]at l;rw[Mo _ _ _ t]at f;rw[<-Option.some.inj l];exact h.inj i b _ _ p' r F hb (Ne.symm d) g f
  ·rw[if_neg E]at ha;by_cases s:a=i
   ·rw[if_pos s]at ha;cases ha
   ·rw[if_neg s]at ha;rw[Mo _ _ _ E]at l;by_cases t:b=hp.nx
    ·rw[t,Mp]at f;rw[<-Option.some.inj f];exact h.inj a i _ _ q p' ha F s l g
    ·rw[if_neg t]at hb;by_cases d:b=i
     ·rw[if_pos d]at hb;cases hb
     ·rw[if_neg d]at hb;rw[Mo _ _ _ t]at f;exact h.inj a b _ _ q r ha hb G l f
def HR.sub (h:HR B w0 σ hp w){hp2:Hp}(hn:hp.nx<=hp2.nx)(hm:∀i b,hp2.m.get i=some b->hp.m.get i=some b):HR B w0 σ hp2 w:=
 ⟨h.os,h.tape,h.output,h.size,h.old,h.kept,fun i hi=>h.fresh i (Nat.le_trans hn hi),fun i b a=>h.live i b (hm _ _ a),fun i j b b' p q hi hj=>h.inj i j b b' p q (hm _ _ hi) (hm _ _ hj)⟩
end
end Go.Xe
end PartXm3
noncomputable section PartXm4
namespace Go.Xe
open Go.RowKit
structure TR (σ:Sg)(nt:Nat)(tm:Ao)(tmps:Al):Prop where
 size:tmps.size=nt
 at_:∀k,VR σ ((tm.get k).getD undef) (tmps.getD k undef)
variable {σ:Sg}{nt:Nat}{tmps:Al}
def TR.mono {σ':Sg}(hs:Sg.le σ σ'){tm:Ao}(h:TR σ nt tm tmps):TR σ' nt tm tmps:=
 ⟨h.size,fun k=>(h.at_ k).mono hs⟩
variable {v:Aw}
theorem TR.put {tm:Ao}(h:TR σ nt tm tmps){d:Nat}(hd:d<nt){u:Aw}(a:VR σ v u):TR σ nt (tm.set d (some v)) (tmps.setIfInBounds d u):=by
 refine⟨by simpa using h.size,fun k=>?_⟩;rw[Mw];by_cases hk:k=d
 ·subst hk;rw[if_pos rfl];have:k<tmps.size:=by rw[h.size];exact hd
  simp_all
 ·rw[if_neg hk];have:=h.at_ k;simpa [Array.getElem?_setIfInBounds_ne (Ne.symm hk)]using this
def gw :Aw->Bool
 | .bool _| .int _ _| .float _ _| .string _| .pointer none| .slice none _ _| .map none| .nilFunc| .nilIface=>true
 |_=>false
def cst :Aw->Bool
 | .agg cs=>cs.toList.all gw| .tuple vs=>vs.toList.all gw|v=>gw v
def zF (σ:Sg)(h:gw v=true):VR σ v v:=by
 cases v with
 |bool b=>exact .bool b|int k n=>exact .int k n|float k n=>exact .float k n|string s=>exact .string s|pointer a=>cases a with
  |none=>exact .nilp|some a=>simp[gw]at h
 |slice a l c=>cases a with
  |none=>exact .nils l c|some a=>simp[gw]at h
 |map r=>cases r with
  |none=>exact .nilm|some a=>simp[gw]at h
 |nilFunc=>exact .nilf|nilIface=>exact .nili|_=>simp[gw]at h
def lV (σ:Sg):∀ {vs:Af},vs.all gw=true->VRL σ vs vs
 | [],_=>MF σ|v::vs,h=>by simp only[List.all_cons,Bool.and_eq_true]at h;exact ME (zF σ h.1) (lV σ h.2)
def U5 (σ:Sg)(h:cst v=true):VR σ v v:=by
 cases v with
 |agg cs=>have:=(lV σ (show cs.toList.all gw=true from h)).to_agg;simpa using this|tuple vs=>have:=(lV σ (show vs.toList.all gw=true from h)).to_tuple;simpa using this|bool b=>exact .bool b|int k n=>exact .int k n|float k n=>exact .float k n|string s=>exact .string s|nilFunc=>exact .nilf|nilIface=>exact .nili|_=>exact zF σ h
def a9 (tm:Ao):Ba->Ag
 | .tmp t=>some ((tm.get t).getD undef)| .const v=>bif cst v then some v else none| .global _=>none| .func f=>some (.func (.func f) #[] #[])
theorem iO {tm:Ao}{a:Act}(h:TR σ nt tm a.tmps){x:Ba}(hx:a9 tm x=some v):VR σ v (a.eval x):=by
 cases x with
 |tmp t=>simp only[a9,Option.some.injEq]at hx;subst hx;exact h.at_ t|const c=>
  simp only[a9]at hx;cases hc:cst c with
  |false=>grind|true=>simp[hc]at hx;subst hx;exact U5 σ hc
 |global g=>simp[a9]at hx|func f=>simp only[a9,Option.some.injEq]at hx;subst hx;exact .func _ _ _ _ _ rfl (fun i x y h _=>by simp at h) rfl (fun i x y h _=>by simp at h)
def W3 (tm:Ao):List Ba->Bc (Af)
 | []=>some []|x::xs=>match a9 tm x with
  |some v=>match W3 tm xs with
   |some vs=>some (v::vs)|none=>none
  |none=>none
def R8 :TypeDesc->Bool
 | .struct _| .array _ _=>true
 |_=>false
def bJ (P:Ax)(t:Ay)(cs:Af)(off:Nat):Ag:=
 match P.underlying t with
 |none=>none
 | some d => bif R8 d then
   match P.info? t with
   |some i=>some (.agg ((cs.drop off).take i.size).toArray)|none=>none
  else cs[off]?
variable {P:Ax}
def eR {t:Ay}{d:TypeDesc}(h:P.underlying t=some d)(w:Be):(isAgg t).run P w= .ok (R8 d) w:=by unfold isAgg;simp only[Sem.run_bind,run_underlying h,Result.andThen_ok];cases d<;>rfl
theorem qY (cs:Al)(off n:Nat):cs.extract off (off+n)=((cs.toList.drop off).take n).toArray:=by grind
theorem U1 {t:Ay}{xs:Af}{off:Nat}(h:bJ P t xs off=some v){ys:Al}(hy:VRL σ xs ys.toList):∃u,VR σ v u/\ ∀w,(part t ys off).run P w= .ok u w:=by
 unfold bJ at h;cases c:P.underlying t with
 |none=>grind|some d=>
  simp only[c]at h;cases hd:R8 d with
  |true=>
   simp only[hd,cond_true]at h;cases hi:P.info? t with
   |none=>grind|some i=>
    simp only[hi,Option.some.injEq]at h;subst h;refine⟨.agg (ys.extract off (off+i.size)),?_,fun w=>?_⟩
    ·rw[qY];refine VRL.to_agg ⟨by have:=hy.1;simp at this⊢;omega,fun j x y hx a=>?_⟩;rw[List.getElem?_take]at hx a;by_cases hj:j<i.size
     ·rw[if_pos hj,List.getElem?_drop]at hx a;exact hy.2 _ x y hx a
     ·grind
    ·unfold part;simp only[Sem.run_bind,eR c,Result.andThen_ok,hd,if_true,sizeOf,typeInfo,run_program,hi,Sem.run_pure]
  |false=>
   simp only[hd,cond_false]at h;obtain⟨u,e,f⟩:=hy.get h;refine⟨u,f,fun w=>?_⟩;unfold part;have:ys[off]? =some u:=by simpa using e
   simp only[Sem.run_bind,eR c,Result.andThen_ok,hd,Bool.false_eq_true,if_false,this,Sem.run_pure]
def gF (P:Ax)(xt:Ay)(x:Aw)(f:Nat):Ag:=
 match P.underlying xt with
 |some (.struct fs)=>match fs.toList[f]? with
  |some fd=>match x with
   | .agg cs=>bJ P fd.type cs.toList fd.offset|_=>none
  |none=>none
 |_=>none
variable {x y:Aw}
theorem sB {c:Ay}{f:Nat}(h:gF P c x f=some v)(hy:VR σ x y):∃u,VR σ v u/\ ∀w,(Instr.field c y f).run P w= .ok u w:=by
 unfold gF at h;split at h
 ·rename_i e g;split at h
  ·rename_i d hf;split at h
   ·rename_i cs;obtain⟨ds,rfl,hd⟩:=MG hy;obtain⟨u,h1,h2⟩:=U1 h hd;refine⟨u,h1,fun w=>?_⟩;have a:e[f]? =some d:=by grind
    simp[Instr.field,run_underlying g,a,asAgg,h2]
   ·cases h
  ·cases h
 ·cases h
def T8 (x:Aw)(i:Nat):Ag:=
 match x with
 | .tuple vs=>vs.toList[i]?|_=>none
def oi {i:Nat}(h:T8 x i=some v)(hy:VR σ x y):∃u,VR σ v u/\ ∀w,(Instr.extract y i).run P w= .ok u w:=by
 unfold T8 at h;split at h
 ·rename_i vs;obtain⟨ds,rfl,hd⟩:=VRL.of_tuple hy;obtain⟨u,h1,h2⟩:=hd.get h;refine⟨u,h2,fun w=>?_⟩;have:ds[i]? =some u:=by simpa using h1
  simp[Instr.extract,this]
 ·cases h
def eC (P:Ax)(xt:Ay)(x i:Aw):Ag:=
 match i with
 | .int _ n=>match P.underlying xt,x with
  | some (.array len e), .agg cs => bif decide (0 ≤ n) && decide (n < len) then
    match P.info? e with
    |some ie=>bJ P e cs.toList (n.toNat*ie.size)|none=>none
   else none
  | some .string, .string s => bif decide (0 ≤ n) then
    match s.data.toList[n.toNat]? with
    |some b=>some (.int .u8 b.toNat)|none=>none
   else none
  |_,_=>none
 |_=>none
theorem md (s:ByteArray)(i:Nat):s[i]? =s.data.toList[i]? :=by
 obtain⟨⟨l⟩⟩:=s;rw[getElem?_def];by_cases h:i<l.length
 ·have h1:i<(ByteArray.mk ⟨l⟩).size:=h;rw[dif_pos h1];simp[h];rfl
 ·have h1:¬i<(ByteArray.mk ⟨l⟩).size:=h;grind
theorem sD {d:Ay}{i j:Aw}(h:eC P d x i=some v)(hy:VR σ x y)(hj:VR σ i j):∃u,VR σ v u/\ ∀w,(Instr.index d y j).run P w= .ok u w:=by
 unfold eC at h;split at h
 ·rename_i k n;cases hj;split at h
  ·rename_i len e cs c;obtain⟨ds,rfl,hd⟩:=MG hy;cases hb:decide (0<=n)&&decide (n<len)with
   |false=>grind|true=>
    simp only[hb,cond_true]at h;simp only[Bool.and_eq_true,decide_eq_true_eq]at hb;split at h
    ·rename_i ie a;obtain⟨u,h1,h2⟩:=U1 h hd;refine⟨u,h1,fun w=>?_⟩;simp[Instr.index,asIntOf,run_underlying c,hb,sizeOf,typeInfo,a,h2]
    ·cases h
  ·rename_i s c;cases hy;cases hb:decide (0<=n)with
   |false=>grind|true=>
    simp only[hb,cond_true]at h;simp only[decide_eq_true_eq]at hb;split at h
    ·rename_i b hs;cases h;refine⟨_,.int _ _,fun w=>?_⟩;have:s[n.toNat]? =some b:=by rw[md];exact hs
     simp[Instr.index,asIntOf,run_underlying c,hb,this]
    ·cases h
  ·cases h
 ·cases h
def splice (cells:Af)(off:Nat)(vs:Af):Af:=cells.take off++vs++cells.drop (off+vs.length)
def dn (place:Nat->Bc (Nat×Nat))(cells:Af):List (Nat×Aw)->Bc (Af)
 | []=>some cells| (i,v)::rest=>match place i with
  |none=>none|some (off,size)=>bif Nat.beq v.cells.toList.length size&&Nat.ble (off+size) cells.length then dn place (splice cells off v.cells.toList) rest else none
theorem ko (off:Nat):∀(vs:Af) (k:Nat) (cs:Al),off+k+vs.length<=cs.size->((vs.zipIdx k).foldl (fun(cs:Al) (p:Aw×Nat)=>cs.setIfInBounds (off+p.2) p.1) cs).toList=splice cs.toList (off+k) vs
 | [],k,cs,h=>by simp[splice]|v::vs,k,cs,h=>by simp only[List.zipIdx_cons,List.foldl_cons];simp only[List.length_cons]at h;have a:=ko off vs (k+1) (cs.setIfInBounds (off+k) v) (by simp;omega);rw[a];unfold splice;have:=list_seg_step cs.toList (off+k) v vs (by simp;omega);grind
def VRL.splice {σ:Sg}{a b c d:Af}(h:VRL σ a b)(k:VRL σ c d)(off:Nat):VRL σ (splice a off c) (Xe.splice b off d):=by
 unfold Xe.splice;have ht:VRL σ (a.take off) (b.take off):=⟨by simp[h.1],fun i x y hx hy=>by
  rw[List.getElem?_take]at hx hy;split at hx
  ·rename_i hi;rw[if_pos hi]at hy;exact h.2 i x y hx hy
  ·cases hx⟩
 have e:VRL σ (a.drop (off+c.length)) (b.drop (off+d.length)):=by rw[k.1];exact⟨by simp[h.1],fun i x y hx hy=>by rw[List.getElem?_drop]at hx hy;exact h.2 _ x y hx hy⟩
 exact(ht.append k).append e
def PVR (σ:Sg)(xs ys:List (Nat×Aw)):Prop:=xs.length=ys.length/\ ∀(i:Nat) x y,xs[i]? =some x->ys[i]? =some y->x.1=y.1/\VR σ x.2 y.2
variable {xs ys:List (Nat×Aw)}
def PVR.uncons {x:Nat×Aw}(h:PVR σ (x::xs) ys):∃u c,ys=(x.1,u)::c/\VR σ x.2 u/\PVR σ xs c:=by
 cases ys with
 |nil=>exact absurd h.1 (by simp)|cons y ys=>have h0:=h.2 0 x y rfl rfl;exact⟨y.2,ys,by rw[h0.1],h0.2,by have:=h.1;simpa using this,fun i a b ha hb=>h.2 (i+1) a b (by simpa using ha) (by simpa using hb)⟩
def PVR.unnil (h:PVR σ [] ys):ys=[]:=List.eq_nil_of_length_eq_zero h.1.symm
theorem eA (place:Nat->Bc (Nat×Nat)):∀(xs:List (Nat×Aw)) (ys:List (Nat×Aw)) (cells r:Af) (cs:Al),dn place cells xs=some r->PVR σ xs ys->VRL σ cells cs.toList-> ∃ds,Instr.fill place cs ys=some ds/\VRL σ r ds.toList:=by
 intro xs;induction xs with
 |nil=>intro ys cells r cs h hp hc;rw[hp.unnil];simp[dn]at h;subst h;exact⟨cs,rfl,hc⟩
 |cons x xs m=>
  intro ys cells r cs h hp hc;obtain⟨u,e,rfl,l,hp'⟩:=hp.uncons;obtain⟨i,v⟩:=x;simp only[dn]at h;simp only[Instr.fill];cases d:place i with
  |none=>grind|some os=>
   obtain⟨off,size⟩:=os;simp only[d]at h⊢;cases hb:Nat.beq v.cells.toList.length size&&Nat.ble (off+size) cells.length with
   |false=>grind|true=>
    simp only[hb,cond_true]at h;simp only[Bool.and_eq_true]at hb;have f:v.cells.toList.length=size:=Nat.eq_of_beq_eq_true hb.1;have o:off+size<=cells.length:=Nat.le_of_ble_eq_true hb.2;have a:=l.cells;have g:u.cells.size=size:=by rw[<-f,a.1];simp
    have j:off+u.cells.size<=cs.size:=by rw[g];have:=hc.1;simp at this;omega
    have c:¬(decide (u.cells.size≠size)||decide (off+u.cells.size>cs.size))=true:=by grind
    rw[if_neg c];have hf:(u.cells.zipIdx.foldl (fun(cs:Al) (p:Aw×Nat)=>cs.setIfInBounds (off+p.2) p.1) cs).toList=splice cs.toList off u.cells.toList:=by rw[<-Array.foldl_toList,Array.toList_zipIdx];exact ko off u.cells.toList 0 cs (by simpa using j)
    refine m e _ r _ h hp' ?_;rw[hf];exact hc.splice a off
def cZ (P:Ax):List Field->Bc (List (Nat×Nat))
 | []=>some []|f::fs=>match P.info? f.type with
  |some i=>match cZ P fs with
   |some r=>some ((f.offset,i.size)::r)|none=>none
  |none=>none
theorem nq {P:Ax}(w:Be):∀ {a:List Field} {r:List (Nat×Nat)},cZ P a=some r->(a.mapM fun f=>do pure (f.offset,<-sizeOf f.type):Sem (List (Nat×Nat))).run P w= .ok r w
 | [],r,h=>by simp[cZ]at h;subst h;simp|f::a,r,h=>by
  simp only[cZ]at h;cases hi:P.info? f.type with
  |none=>grind|some i=>
   cases hr:cZ P a with
   |none=>grind|some d=>
    simp[hi,hr]at h;subst h;have c:=nq (P:=P) w hr;have hs:(sizeOf f.type).run P w= .ok i.size w:=by simp[sizeOf,typeInfo,hi]
    simp_all
def D6 (P:Ax)(t:Ay):Ag:=match P.info? t with
 |some i=>match i.zero with
  |some z=>bif cst z then some z else none|none=>none
 |none=>none
theorem K4 {t:Ay}{z:Aw}(h:D6 P t=some z):cst z=true/\ ∀w,(zeroValue t).run P w= .ok z w:=by
 unfold D6 at h;split at h
 ·rename_i i hi;split at h
  ·rename_i a hz;cases hc:cst a with
   |false=>grind|true=>simp only[hc,cond_true,Option.some.injEq]at h;subst h;exact⟨hc,fun w=>by simp[zeroValue,typeInfo,hi,hz]⟩
  ·cases h
 ·cases h
def R2 (P:Ax)(t:Ay)(parts:List (Nat×Aw)):Ag:=
 match D6 P t with
 |none=>none|some z=>match P.underlying t with
  |some (.struct fs)=>match cZ P fs.toList with
   |some pl=>match dn (fun i=>pl[i]?) z.cells.toList parts with
    |some cs=>some (.agg cs.toArray)|none=>none
   |none=>none
  |some (.array _ e)=>match P.info? e with
   |some ie=>match dn (fun i=>some (i*ie.size,ie.size)) z.cells.toList parts with
    |some cs=>some (.agg cs.toArray)|none=>none
   |none=>none
  |_=>none
theorem sy {t:Ay}{ys:Array (Nat×Aw)}(h:R2 P t xs=some v)(hy:PVR σ xs ys.toList):∃u,VR σ v u/\ ∀w,(Instr.build t ys).run P w= .ok u w:=by
 unfold R2 at h;split at h
 ·cases h
 ·rename_i z hz;obtain⟨hc,a⟩:=K4 hz;have c:=(U5 σ hc).cells;split at h
  ·rename_i q m;split at h
   ·rename_i o j;split at h
    ·rename_i cs hf;cases h;obtain⟨ds,h1,h2⟩:=eA (σ:=σ) _ _ _ _ _ _ hf hy c;refine⟨.agg ds,by have:=h2.to_agg;simpa using this,fun w=>?_⟩;have l:=nq (P:=P) w j;have hm:(q.mapM fun f=>do pure (f.offset,<-sizeOf f.type):Sem (Array (Nat×Nat))).run P w= .ok o.toArray w:=by rw[Array.mapM_eq_mapM_toList,Sem.run_map,l];rfl
     have d:(fun x:Nat=>o.toArray[x]?)=fun i:Nat=>o[i]? :=by grind
     unfold Instr.build;simp only[Sem.run_bind,a,Result.andThen_ok,run_underlying m,hm,d,h1,Sem.run_pure]
    ·cases h
   ·cases h
  ·rename_i n e m;split at h
   ·rename_i ie g;split at h
    ·rename_i cs hf;cases h;obtain⟨ds,h1,h2⟩:=eA (σ:=σ) _ _ _ _ _ _ hf hy c;refine⟨.agg ds,by have:=h2.to_agg;simpa using this,fun w=>?_⟩;simp[Instr.build,a,run_underlying m,sizeOf,typeInfo,g,h1]
    ·cases h
   ·cases h
  ·cases h
end Go.Xe
end PartXm4
noncomputable section PartXm5
namespace Go.Xe
open Go.RowKit
def O5 (x:Aw):Bc (IntKind×Nat×Nat):=
 match x with
 | .complex f lo hi=>some (X4 f lo,bY lo,hi)| .int k (.ofNat n)=>some (k,n,n+1)|_=>none
variable {σ:Sg}{x x':Aw}{k:IntKind}
theorem V5 {lo hi:Nat}(h:O5 x=some (k,lo,hi))(hx:VR σ x x'):∃n:Nat,x'= .int k n/\lo<=n/\(hi=0\/n<hi):=by
 unfold O5 at h;split at h
 ·simp only[Option.some.injEq,Prod.mk.injEq]at h;obtain⟨rfl,rfl,rfl⟩:=h;cases hx with
  |ival _ _ _ n h1 h2=>grind
 ·rename_i k n;simp only[Option.some.injEq,Prod.mk.injEq]at h;obtain⟨rfl,rfl,rfl⟩:=h;cases hx;grind
 ·cases h
def Z2 (a b:Nat×Nat):Bc Bool:=
 bif !(Nat.beq a.2 0)&&Nat.ble a.2 b.1 then some true else bif !(Nat.beq b.2 0)&&Nat.ble b.2 (a.1+1)then some false else none
theorem Z3 {a b:Nat×Nat}{r:Bool}(h:Z2 a b=some r){n m:Nat}(h1:a.1<=n)(h2:a.2=0\/n<a.2)(h3:b.1<=m)(h4:b.2=0\/m<b.2):r=decide ((n:Int)<(m:Int)):=by
 unfold Z2 at h;cases hb: !(Nat.beq a.2 0)&&Nat.ble a.2 b.1 with
 |true=>
  rw[hb,cond_true]at h;simp only[Bool.and_eq_true]at hb;have:=Nat.le_of_ble_eq_true hb.2;have h0:a.2≠0:=fun e=>by rw[e]at hb;simp at hb
  cases h;grind
 |false=>
  rw[hb,cond_false]at h;cases hc: !(Nat.beq b.2 0)&&Nat.ble b.2 (a.1+1)with
  |true=>
   rw[hc,cond_true]at h;simp only[Bool.and_eq_true]at hc;have:=Nat.le_of_ble_eq_true hc.2;have h0:b.2≠0:=fun e=>by rw[e]at hc;simp at hc
   cases h;grind
  |false=>grind
def bT (a b:Nat×Nat):Bool:=
 match Z2 a b with
 |some true=>true|_=>match Z2 b a with
  |some true=>true|_=>false
def ieqF (x y:Aw):Bc Bool:=
 match O5 x,O5 y with
 |some (k,a),some (k',b)=>bif decide (k=k')&&bT a b then some false else none|_,_=>none
variable {y y':Aw}
theorem mC {b:Bool}(h:ieqF x y=some b)(hx:VR σ x x')(hy:VR σ y y'):b=false/\ ∃k n m,x'= .int k n/\y'= .int k m/\n≠m:=by
 unfold ieqF at h;split at h
 ·rename_i k a k' c ha hc;obtain⟨a1,a2⟩:=a;obtain⟨l,o⟩:=c;obtain⟨n,rfl,g,j⟩:=V5 ha hx;obtain⟨m,rfl,f,m2⟩:=V5 hc hy;cases hk:decide (k=k')&&bT (a1,a2) (l,o)with
  |false=>grind|true=>
   rw[hk,cond_true,Option.some.injEq]at h;simp only[Bool.and_eq_true,decide_eq_true_eq]at hk;obtain⟨rfl,d⟩:=hk;refine⟨h.symm,k,n,m,rfl,rfl,?_⟩;unfold bT at d;split at d
   ·rename_i e;have:=Z3 e g j f m2;simp at this;omega
   ·split at d
    ·rename_i e;have:=Z3 e f m2 g j;simp at this;omega
    ·cases d
 ·cases h
def oh (P:Ax)(eq:Ay->Aw->Aw->Bc Bool)(xs ys:Af):List Field->Bc Bool
 | []=>some true|f::fs=>bif f.name== "_" then oh P eq xs ys fs else
  match bJ P f.type xs f.offset,bJ P f.type ys f.offset with
  |some a,some b=>match eq f.type a b with
   |some true=>oh P eq xs ys fs|some false=>some false|none=>none
  |_,_=>none
def xeq (P:Ax):Nat->Ay->Aw->Aw->Bc Bool
 |0,_,_,_=>none|d+1,t,x,y=>match P.underlying t,x,y with
  |some .bool,.bool a,.bool b=>some (a==b)|some (.int _),.int k a,.int k' b=>bif decide (k=k')then some (decide (a=b))else none|some (.int _),.complex f lo hi,.int k a=>ieqF (.complex f lo hi) (.int k a)|some (.int _),.int k a,.complex f lo hi=>ieqF (.int k a) (.complex f lo hi)|some .string,.string a,.string b=>some (a.data.toList==b.data.toList)|some (.pointer _),.pointer none,.pointer b=>some b.isNone|some (.pointer _),.pointer (some _),.pointer none=>some false
  | some (.pointer e), .pointer (some a), .pointer (some b) => bif Nat.beq a.block b.block then
    match P.info? e with
    |some ie=>bif Nat.beq ie.size 0 then none else some (Nat.beq a.off b.off)|none=>none
   else none
  |some (.struct fs),.agg xs,.agg ys=>bif P.stoodInHeld t then none else oh P (xeq P d) xs.toList ys.toList fs.toList|some (.slice _),.slice none _ _,.slice b _ _=>some b.isNone|some (.slice _),.slice (some _) _ _,.slice none _ _=>some false|some (.map _ _),.map none,.map b=>some b.isNone|some (.map _ _),.map (some _),.map none=>some false|some (.func _ _ _),.nilFunc,.nilFunc=>some true|some (.func _ _ _),.nilFunc,.func _ _ _=>some false|some (.func _ _ _),.func _ _ _,.nilFunc=>some false|some (.interface _),.nilIface,.iface _ _=>some false|some (.interface _),.iface _ _,.nilIface=>some false
  | some (.interface _), .iface tx vx, .iface ty vy => bif decide (tx = ty) then
    match P.info? tx with
    |some i=>bif i.comparable then xeq P d tx vx vy else none|none=>none
   else some false
  |_,_,_=>none
theorem gE {P:Ax}{σ:Sg}{d:Nat}{r:Ay->Aw->Aw->Bc Bool}(hq:∀t x y b,r t x y=some b-> ∀x' y',VR σ x x'->VR σ y y'-> ∀w,(Op.equalIn d t x' y').run P w= .ok b w){xs ys:Af}{j l:Al}(hx:VRL σ xs j.toList)(hy:VRL σ ys l.toList)(w:Be):∀ {m:List Field} {b:Bool},oh P r xs ys m=some b->(Op.eqFields d j l m).run P w= .ok b w
 | [],b,h=>by simp[oh]at h;subst h;simp[Op.eqFields]|f::m,b,h=>by
  simp only[oh]at h;by_cases hn:f.name= "_"
  ·have:(f.name== "_")=true:=by simpa using hn
   rw[this,cond_true]at h;simp only[Op.eqFields,hn,ne_eq,not_true_eq_false,if_false];exact gE hq hx hy w h
  ·have:(f.name== "_")=false:=by simpa using hn
   rw[this,cond_false]at h;split at h
   ·rename_i a c ha hc;obtain⟨a',e,o⟩:=U1 ha hx;obtain⟨c',g,q⟩:=U1 hc hy;simp only[Op.eqFields,ne_eq,hn,not_false_eq_true,if_true,Sem.run_bind,o,q,Result.andThen_ok];split at h
    ·rename_i he;rw[hq _ _ _ _ he _ _ e g w];simp only[Result.andThen_ok,Bool.not_true,Bool.false_eq_true,if_false];exact gE hq hx hy w h
    ·rename_i he;rw[hq _ _ _ _ he _ _ e g w];cases h;simp_all
    ·cases h
   ·cases h
variable {P:Ax}
def jM :∀(d:Nat) (t:Ay) (x y:Aw) (b:Bool),xeq P d t x y=some b-> ∀x' y',VR σ x x'->VR σ y y'-> ∀w,(Op.equalIn d t x' y').run P w= .ok b w:=by
 intro d;induction d with
 |zero=>intro t x y b h;simp[xeq]at h
 |succ d M=>
  intro t x y b h x' y' hx hy w;simp only[xeq]at h;split at h
  ·rename_i a c f;cases hx;cases hy;simp only[Option.some.injEq]at h;subst h;simp[Op.equalIn,run_underlying f]
  ·rename_i k k' a I c f;cases hx;cases hy;cases hk:decide (k'=I)with
   |false=>rw[hk]at h;cases h
   |true=>rw[hk]at h;simp only[decide_eq_true_eq]at hk;subst hk;simp only[cond_true,Option.some.injEq]at h;subst h;rw[run_equalIn_int w d t _ _ _ _ f];congr 1
  ·rename_i f;obtain⟨rfl,k,n,m,rfl,rfl,s⟩:=mC h hx hy;rw[run_equalIn_int w d t _ _ _ _ f];simp[s]
  ·rename_i f;obtain⟨rfl,k,n,m,rfl,rfl,s⟩:=mC h hx hy;rw[run_equalIn_int w d t _ _ _ _ f];simp[s]
  ·rename_i a c f;cases hx;cases hy;simp only[Option.some.injEq]at h;subst h;rw[run_equalIn_string w d t _ _ f,ByteArray.toList_eq,ByteArray.toList_eq]
  ·rename_i e c f;simp only[Option.some.injEq]at h;subst h;cases hx;have hn:∃c',y'= .pointer c'/\c'.isNone=c.isNone:=by cases hy<;>exact⟨_,rfl,rfl⟩
   obtain⟨c',rfl,hn⟩:=hn;simp[Op.equalIn,run_underlying f,hn]
  ·rename_i e c f;simp only[Option.some.injEq]at h;subst h;cases hx;cases hy;simp[Op.equalIn,run_underlying f]
  ·rename_i e a c f;cases hx with
   |ptr i o p hp=>
   cases hy with
   |ptr j q r hr=>
   simp only at h;cases g:Nat.beq i j with
   |false=>rw[g]at h;cases h
   |true=>
    rw[g]at h;have g:=Nat.eq_of_beq_eq_true g;subst g;have C:p=r:=Option.some.inj (hp.symm.trans hr);subst C;simp only[cond_true]at h;split at h
    ·rename_i ie A;cases hz:Nat.beq ie.size 0 with
     |true=>rw[hz]at h;cases h
     |false=>
      rw[hz]at h;simp only[cond_false,Option.some.injEq]at h;subst h;have H:ie.size≠0:=fun e=>by rw[e]at hz;cases hz
      simp only[Op.equalIn,Sem.run_bind,run_underlying f,Result.andThen_ok,sizeOf,typeInfo,run_program,A,Sem.run_pure,ne_eq,H,not_false_eq_true,if_true,sameAddr,beq_self_eq_true];congr 1;by_cases e:o=q
      ·subst e;rw[l6 rfl];simp
      ·rw[s7 e];simp
    ·cases h
  ·rename_i Q xs ys f;cases hs:P.stoodInHeld t with
   |true=>rw[hs]at h;cases h
   |false=>
    rw[hs,cond_false]at h;obtain⟨J,rfl,F⟩:=MG hx;obtain⟨K,rfl,G⟩:=MG hy;have hf:P.fieldsOf t=Q:=by simp[Program.fieldsOf,f]
    rw[run_equalIn_struct w d t J K (by rw[hf];exact f) hs,hf];exact gE (fun t x y b hb x' y' h1 h2 w=>M t x y b hb x' y' h1 h2 w) F G w h
  ·rename_i e l c b' l' c' f;simp only[Option.some.injEq]at h;subst h;cases hx;have hn:∃b2 N L,y'= .slice b2 N L/\b2.isNone=b'.isNone:=by cases hy<;>exact⟨_,_,_,rfl,rfl⟩
   obtain⟨b2,N,L,rfl,hn⟩:=hn;simp[Op.equalIn,run_underlying f,hn]
  ·rename_i e a l c l' c' f;simp only[Option.some.injEq]at h;subst h;cases hx<;>cases hy<;>simp[Op.equalIn,run_underlying f]
  ·rename_i k e b' f;simp only[Option.some.injEq]at h;subst h;cases hx;have hn:∃b2,y'= .map b2/\b2.isNone=b'.isNone:=by cases hy<;>exact⟨_,rfl,rfl⟩
   obtain⟨b2,rfl,hn⟩:=hn;simp[Op.equalIn,run_underlying f,hn]
  ·rename_i k e a f;simp only[Option.some.injEq]at h;subst h;cases hx;cases hy;simp[Op.equalIn,run_underlying f]
  ·rename_i f;simp only[Option.some.injEq]at h;subst h;cases hx;cases hy;simp[Op.equalIn,run_underlying f]
  ·rename_i f;simp only[Option.some.injEq]at h;subst h;cases hx;cases hy;simp[Op.equalIn,run_underlying f]
  ·rename_i f;simp only[Option.some.injEq]at h;subst h;cases hx;cases hy;simp[Op.equalIn,run_underlying f]
  ·rename_i f;simp only[Option.some.injEq]at h;subst h;cases hx;cases hy;simp[Op.equalIn,run_underlying f]
  ·rename_i f;simp only[Option.some.injEq]at h;subst h;cases hx;cases hy;simp[Op.equalIn,run_underlying f]
  ·rename_i U O vx ty T f;cases hx with
   |iface _ _ R D=>
   cases hy with
   |iface _ _ S E=>
   cases ht:decide (O=ty)with
   |false=>rw[ht]at h;simp only[cond_false,Option.some.injEq]at h;subst h;simp only[decide_eq_false_iff_not]at ht;simp[Op.equalIn,run_underlying f,ht]|true=>
    rw[ht]at h;simp only[decide_eq_true_eq]at ht;subst ht;simp only[cond_true]at h;split at h
    ·rename_i i hi;cases hc:i.comparable with
     |false=>rw[hc]at h;cases h
     |true=>rw[hc,cond_true]at h;have:=M O vx T b h R S D E w;simp[Op.equalIn,run_underlying f,typeInfo,hi,hc,this]
    ·cases h
  ·cases h
def W2 (op:BinOp)(a b:Int):Ag:=
 match op with
 | .eql=>some (.bool (decide (a=b)))| .neq=>some (.bool (!decide (a=b)))| .lss=>some (.bool (decide (a<b)))| .leq=>some (.bool (decide (a<=b)))| .gtr=>some (.bool (decide (b<a)))| .geq=>some (.bool (decide (b<=a)))|_=>none
def o7 (op:BinOp)(k:IntKind)(a b:Int):Ag:=
 match op with
 | .add=>some (.int k (k.wrap (a+b)))| .sub=>some (.int k (k.wrap (a-b)))| .mul=>some (.int k (k.wrap (a*b)))| .quo=>bif decide (b=0)then none else some (.int k (k.wrap (a.tdiv b)))| .rem=>bif decide (b=0)then none else some (.int k (a.tmod b))| .and| .or| .xor| .andNot=>some (.int k (bits op k a b))
 |_=>W2 op a b
def jV (op:BinOp)(k:IntKind)(a b:Int):Ag:=
 bif decide (b<0)then none else
 match op with
 | .shl=>some (.int k (k.wrap (a*2^(min b.toNat k.bits))))| .shr=>some (.int k (a.fdiv (2^(min b.toNat k.bits))))|_=>none
def yd (op:BinOp)(a b:ByteArray):Ag:=
 match op with
 | .add=>bif Nat.ble (a.data.toList.length+b.data.toList.length) 1000000000 then some (.string ⟨(a.data.toList++b.data.toList).toArray⟩)else none| .eql=>some (.bool (a.data.toList==b.data.toList))| .neq=>some (.bool (!(a.data.toList==b.data.toList)))| .lss=>some (.bool (Op.bytesLess a.data.toList b.data.toList))| .leq=>some (.bool (Op.bytesLess a.data.toList b.data.toList||a.data.toList==b.data.toList))| .gtr=>some (.bool (!(Op.bytesLess a.data.toList b.data.toList||a.data.toList==b.data.toList)))| .geq=>some (.bool (!Op.bytesLess a.data.toList b.data.toList))|_=>none
def I1 (P:Ax)(t:Ay):Aw->Bool
 | .agg _=> !P.eqGuardType P.depth t| .nilIface=>false| .complex _ _ _=>false| .float _ _=>false|_=>true
def J3 (P:Ax)(op:BinOp)(t:Ay)(x y:Aw):Ag:=
 match x,y with
 | .int k a,.int k' b=>match op with
  | .shl| .shr=>jV op k a b
  |_=>bif decide (k=k')then o7 op k a b else none
 | .string a,.string b=>yd op a b|_,.complex _ _ _=>none|x,y=>match op with
  | .eql=>bif I1 P t x then match xeq P 10000 t x y with
   |some b=>some (.bool b)|none=>none else none
  | .neq=>bif I1 P t x then match xeq P 10000 t x y with
   |some b=>some (.bool (!b))|none=>none else none
  |_=>none
variable {b:Int}{v:Aw}
def R3 {op:BinOp}{a:Int}(h:W2 op a b=some v):VR σ v v/\ ∀w,(Op.intCmp op a b).run P w= .ok v w:=by cases op<;>simp only[W2,Option.some.injEq,reduceCtorEq]at h<;>subst h<;>refine⟨.bool _,fun w=>?_⟩<;>simp[Op.intCmp]<;>by_cases e:a=b<;>simp[e]
theorem ss {op:BinOp}{a:Int}(h:o7 op k a b=some v)(h1:op≠ .shl)(h2:op≠ .shr)(t:Ay):VR σ v v/\ ∀w,(binOp op t (.int k a) (.int k b)).run P w= .ok v w:=by
 cases op;case shl=>exact absurd rfl h1
 case shr=>exact absurd rfl h2
 case quo=>
  simp only[o7]at h;cases hb:decide (b=0)with
  |true=>grind|false=>rw[hb]at h;simp only[decide_eq_false_iff_not]at hb;simp only[cond_false,Option.some.injEq]at h;subst h;exact⟨.int _ _,fun w=>by simp[binOp_quo,Op.intDiv,hb]⟩
 case rem=>
  simp only[o7]at h;cases hb:decide (b=0)with
  |true=>grind|false=>rw[hb]at h;simp only[decide_eq_false_iff_not]at hb;simp only[cond_false,Option.some.injEq]at h;subst h;exact⟨.int _ _,fun w=>by simp[binOp_rem,Op.intDiv,hb]⟩
 case add=>simp only[o7,Option.some.injEq]at h;subst h;exact⟨.int _ _,fun w=>by simp[binOp_add,Op.intArith]⟩
 case sub=>simp only[o7,Option.some.injEq]at h;subst h;exact⟨.int _ _,fun w=>by simp[binOp_sub,Op.intArith]⟩
 case mul=>simp only[o7,Option.some.injEq]at h;subst h;exact⟨.int _ _,fun w=>by simp[binOp_mul,Op.intArith]⟩
 case and=>simp only[o7,Option.some.injEq]at h;subst h;exact⟨.int _ _,fun w=>by simp[binOp_and,intBits_and]⟩
 case or=>simp only[o7,Option.some.injEq]at h;subst h;exact⟨.int _ _,fun w=>by simp[binOp_or,intBits_or]⟩
 case xor=>simp only[o7,Option.some.injEq]at h;subst h;exact⟨.int _ _,fun w=>by simp[binOp_xor,intBits_xor]⟩
 case andNot=>simp only[o7,Option.some.injEq]at h;subst h;exact⟨.int _ _,fun w=>by simp[binOp_andNot,intBits_andNot]⟩
 case eql=>obtain⟨h3,h4⟩:=R3 (σ:=σ) (P:=P) (op:= .eql) h;exact⟨h3,fun w=>by simpa [binOp]using h4 w⟩
 case neq=>obtain⟨h3,h4⟩:=R3 (σ:=σ) (P:=P) (op:= .neq) h;exact⟨h3,fun w=>by simpa [binOp]using h4 w⟩
 case lss=>obtain⟨h3,h4⟩:=R3 (σ:=σ) (P:=P) (op:= .lss) h;exact⟨h3,fun w=>by simpa [binOp]using h4 w⟩
 case leq=>obtain⟨h3,h4⟩:=R3 (σ:=σ) (P:=P) (op:= .leq) h;exact⟨h3,fun w=>by simpa [binOp]using h4 w⟩
 case gtr=>obtain⟨h3,h4⟩:=R3 (σ:=σ) (P:=P) (op:= .gtr) h;exact⟨h3,fun w=>by simpa [binOp]using h4 w⟩
 case geq=>obtain⟨h3,h4⟩:=R3 (σ:=σ) (P:=P) (op:= .geq) h;exact⟨h3,fun w=>by simpa [binOp]using h4 w⟩
theorem iX {op:BinOp}{yk:IntKind}{a:Int}(h:jV op k a b=some v):VR σ v v/\ ∀w,(Op.shift op k a yk b).run P w= .ok v w:=by
 unfold jV at h;cases hb:decide (b<0)with
 |true=>grind|false=>
  rw[hb,cond_false]at h;simp only[decide_eq_false_iff_not]at hb;split at h
  ·simp only[Option.some.injEq]at h;subst h;exact⟨.int _ _,fun w=>by simp[Op.shift,hb]⟩
  ·simp only[Option.some.injEq]at h;subst h;exact⟨.int _ _,fun w=>by simp[Op.shift,hb]⟩
  ·cases h
theorem ja (a b:ByteArray):a++b=⟨(a.data.toList++b.data.toList).toArray⟩:=by apply ByteArray.ext;simp_all
theorem ye {op:BinOp}{a b:ByteArray}(h:yd op a b=some v):VR σ v v/\ ∀w,(Op.stringOp op a b).run P w= .ok v w:=by
 cases op<;>simp only[yd,Option.some.injEq,reduceCtorEq]at h;case add=>
  cases hb:Nat.ble (a.data.toList.length+b.data.toList.length) 1000000000 with
  |false=>grind|true=>
   rw[hb]at h;simp only[cond_true,Option.some.injEq]at h;subst h;have hb:=Nat.le_of_ble_eq_true hb;have d:a.size=a.data.toList.length:=by simp
   have e:b.size=b.data.toList.length:=by simp
   have c:¬((a.size+b.size:Nat):Int)>IntKind.i64.max:=by rw[IntKind.max_i64,d,e];omega
   refine⟨.string _,fun w=>?_⟩;simp only[Op.stringOp,if_neg c,Sem.run_pure,ja]
 all_goals
  subst h;refine⟨.bool _,fun w=>?_⟩;simp only[Op.stringOp,ByteArray.toList_eq,Sem.run_pure]
def gD {op:BinOp}{t:Ay}(h:J3 P op t x y=some v)(hx:VR σ x x')(hy:VR σ y y')(q r:Ba):VR σ v v/\ ∀w,((eqGuard op t q r x' y').run P w= .ok () w)/\(binOp op t x' y').run P w= .ok v w:=by
 unfold J3 at h;split at h
 ·rename_i k a k' b;cases hx;cases hy;split at h
  ·obtain⟨h1,h2⟩:=iX (σ:=σ) (P:=P) (yk:=k') h;exact⟨h1,fun w=>⟨by rw[eqGuard_at_int];rfl,by rw[binOp_shl];exact h2 w⟩⟩
  ·obtain⟨h1,h2⟩:=iX (σ:=σ) (P:=P) (yk:=k') h;exact⟨h1,fun w=>⟨by rw[eqGuard_at_int];rfl,by rw[binOp_shr];exact h2 w⟩⟩
  ·rename_i g j;cases hk:decide (k=k')with
   |false=>rw[hk]at h;cases h
   |true=>rw [hk] at h;simp only [decide_eq_true_eq] at hk;subst hk;obtain ⟨h1,h2⟩:=ss (σ:=σ) (P:=P) (show o7 op k a b=some v from h) g j t;exact ⟨h1,fun w=>⟨by rw [eqGuard_at_int]; rfl,h2 w⟩⟩
 ·rename_i a b;cases hx;cases hy;obtain⟨h1,h2⟩:=ye (σ:=σ) (P:=P) h;exact⟨h1,fun w=>⟨by rw[eqGuard_at_string];rfl,by cases op<;>exact h2 w⟩⟩
 ·cases h
 ·rename_i l m o;have d:I1 P t x=true-> ∀w,(eqGuard op t q r x' y').run P w= .ok () w:=by
   intro d w;cases hx<;>first
    | (simp[I1]at d;done)
    | (simp only[I1,Bool.not_eq_true']at d
       cases hy<;>first| (rw[run_eqGuard_agg (h:=w) _ _ _ _ _ _ d];done)| (exact run_eqGuard_agg w op t q r _ _ d)| (cases op<;>rfl))
    | (cases op<;>rfl)
  have e:∀b,xeq P 10000 t x y=some b-> ∀w,(Op.equal t x' y').run P w= .ok b w:=fun b hb w=>jM 10000 t x y b hb x' y' hx hy w;have f:I1 P t x=true->(∀w,(binOp .eql t x' y').run P w=(do pure (.bool (<-Op.equal t x' y')):Sem Aw).run P w)/\
    (∀w,(binOp .neq t x' y').run P w=(do pure (.bool (!(<-Op.equal t x' y'))):Sem Aw).run P w):=by
   intro c;constructor<;>intro w<;>cases hx<;>cases hy<;>first|rfl| (exact(m _ _ _ _ rfl rfl).elim)| (exact(o _ _ rfl rfl).elim)| (exact(l _ _ _ rfl).elim)| (simp[I1]at c)
  split at h
  ·cases c:I1 P t x with
   |false=>rw[c]at h;cases h
   |true=>
    rw[c,cond_true]at h;split at h
    ·rename_i b hb;simp only[Option.some.injEq]at h;subst h;exact⟨.bool _,fun w=>⟨d c w,by rw[(f c).1 w];simp only[Sem.run_bind,e b hb w,Result.andThen_ok,Sem.run_pure]⟩⟩
    ·cases h
  ·cases c:I1 P t x with
   |false=>rw[c]at h;cases h
   |true=>
    rw[c,cond_true]at h;split at h
    ·rename_i b hb;simp only[Option.some.injEq]at h;subst h;exact⟨.bool _,fun w=>⟨d c w,by rw[(f c).2 w];simp only[Sem.run_bind,e b hb w,Result.andThen_ok,Sem.run_pure]⟩⟩
    ·cases h
  ·cases h
end Go.Xe
end PartXm5
noncomputable section PartXm6
namespace Go.Xe
open Go.RowKit
def Gd (n:Int):Ag:=some (.string (Utf8.encode n))
def ew (P:Ax)(src dst:Ay)(x:Aw):Ag:=
 match P.underlying src with
 |none=>none|some _=>match P.underlying dst,x with
  |some (.int k),.int _ n=>some (.int k (k.wrap n))|some .string,.string s=>some (.string s)|some .string,.int _ n=>Gd n|some (.int .i64),.complex _ lo hi=>bif Nat.ble 1 hi&&Nat.ble hi unk then some (.complex .f64 (bY lo) hi)else none|some (.int .u64),.complex _ lo hi=>bif Nat.ble 1 hi&&Nat.ble hi unk then some (.complex .f32 (bY lo+18446744073709551616) hi)else none|_,_=>none
variable {P:Ax}{σ:Sg}{v x x':Aw}
theorem vL {src dst:Ay}(h:ew P src dst x=some v)(hx:VR σ x x'):∃u,VR σ v u/\ ∀w,(convert src dst x').run P w= .ok u w:=by
 unfold ew at h;split at h
 ·cases h
 ·rename_i d hs;split at h
  ·rename_i k k' n hd;cases hx;simp only[Option.some.injEq]at h;subst h;exact⟨_,.int _ _,fun w=>by simp[convert,run_underlying hs,run_underlying hd,Conv.intToInt]⟩
  ·rename_i s hd;cases hx;simp only[Option.some.injEq]at h;subst h;exact⟨_,.string _,fun w=>by simp[convert,run_underlying hs,run_underlying hd]⟩
  ·rename_i k n hd;cases hx;unfold Gd at h;simp only[Option.some.injEq]at h;subst h;exact⟨_,.string _,fun w=>by simp[convert,run_underlying hs,run_underlying hd,Conv.intToString]⟩
  ·rename_i f lo hi hd;cases hb:Nat.ble 1 hi&&Nat.ble hi unk with
   |false=>grind|true=>
    rw[hb,cond_true]at h;simp only[Bool.and_eq_true]at hb;have b1:=Nat.le_of_ble_eq_true hb.1;have b2:=Nat.le_of_ble_eq_true hb.2;simp only[Option.some.injEq]at h;subst h;cases hx with
    |ival _ _ _ n h1 h2=>
     have hn:n<unk:=by omega
     refine⟨_,.ival .f64 (bY lo) hi n (Nat.le_trans (rq _) h1) h2,fun w=>?_⟩;have hw:IntKind.i64.wrap (n:Int)=n:=by rw[IntKind.wrap_i64];unfold unk at hn;omega
     simp[convert,run_underlying hs,run_underlying hd,Conv.intToInt,hw,X4,tJ]
  ·rename_i f lo hi hd;cases hb:Nat.ble 1 hi&&Nat.ble hi unk with
   |false=>grind|true=>
    rw[hb,cond_true]at h;simp only[Bool.and_eq_true]at hb;have b1:=Nat.le_of_ble_eq_true hb.1;have b2:=Nat.le_of_ble_eq_true hb.2;simp only[Option.some.injEq]at h;subst h;cases hx with
    |ival _ _ _ n h1 h2=>
     have hn:n<unk:=by omega
     have a:bY (bY lo+18446744073709551616)=bY lo:=by unfold bY;omega
     have c:X4 .f32 (bY lo+18446744073709551616)= .u64:=by
      have:(bY lo+18446744073709551616)/18446744073709551616=1:=by unfold bY;omega
      rw[X4,this,tJ]
     refine⟨_,.ival .f32 (bY lo+18446744073709551616) hi n (by rw[a];exact h1) h2,fun w=>?_⟩;have hw:IntKind.u64.wrap (n:Int)=n:=by rw[IntKind.wrap_u64];unfold unk at hn;omega
     simp[convert,run_underlying hs,run_underlying hd,Conv.intToInt,hw,c]
  ·cases h
def xun (op:UnOp)(x:Aw):Ag:=
 match op,x with
 | .neg,.int k n=>some (.int k (k.wrap (0-n)))| .not,.bool b=>some (.bool (!b))|_,_=>none
def Cn {op:UnOp}(h:xun op x=some v)(hx:VR σ x x'):VR σ v v/\ ∀w,(Op.unary op x').run P w= .ok v w:=by
 unfold xun at h;split at h
 ·cases hx;simp only[Option.some.injEq]at h;subst h;exact⟨.int _ _,fun w=>by simp[Op.unary,Op.intArith]⟩
 ·cases hx;simp only[Option.some.injEq]at h;subst h;exact⟨.bool _,fun w=>by simp[Op.unary]⟩
 ·cases h
def gG (P:Ax)(t:Ay)(x:Aw):Ag:=
 match P.underlying t with
 |some (.interface _)=>none|some _=>some (.iface t x)|none=>none
theorem sC {t:Ay}(h:gG P t x=some v)(hx:VR σ x x'):∃u,VR σ v u/\ ∀w,(Instr.makeInterface t x').run P w= .ok u w:=by
 unfold gG at h;split at h
 ·cases h
 ·rename_i d hd a;simp only[Option.some.injEq]at h;subst h;refine⟨_,.iface t x x' hx,fun w=>?_⟩;simp only[Instr.makeInterface,Sem.run_bind,run_underlying a,Result.andThen_ok];simp_all
 ·cases h
def i7 (P:Ax)(s:Ay)(x:Aw)(f:Nat):Ag:=
 match P.underlying s with
 |some (.struct fs)=>match fs.toList[f]? with
  |some fd=>match P.info? fd.type with
   |some i=>bif Nat.beq i.size 0 then none else
    match x with
    | .pointer (some ⟨b,o,none⟩)=>some (.pointer (some ⟨b,o+fd.offset,none⟩))|_=>none
   |none=>none
  |none=>none
 |_=>none
theorem jN {s:Ay}{f:Nat}(h:i7 P s x f=some v)(hx:VR σ x x'):∃u,VR σ v u/\ ∀w,(Instr.fieldAt s x' f).run P w= .ok u w:=by
 unfold i7 at h;split at h
 ·rename_i g j;split at h
  ·rename_i d hf;split at h
   ·rename_i i hi;cases hz:Nat.beq i.size 0 with
    |true=>grind|false=>
     rw[hz,cond_false]at h;have c:i.size≠0:=fun e=>by rw[e]at hz;cases hz
     split at h
     ·rename_i b o;simp only[Option.some.injEq]at h;subst h;cases hx with
      |ptr _ _ p hp=>
      have a:g[f]? =some d:=by grind
      refine⟨_,.ptr b (o+d.offset) p hp,fun w=>?_⟩;simp[Instr.fieldAt,run_underlying j,a,Instr.sureAddr,fieldPlace,sizeOf,typeInfo,hi,c,Addr.add_lit,Nat.add_assoc]
     ·cases h
   ·cases h
  ·cases h
 ·cases h
def j7 (P:Ax)(t:Ay)(x ix:Aw):Ag:=
 match ix with
 | .int _ n=>match P.underlying t with
  |some (.slice e)=>match P.info? e with
   |some ie=>match x with
    | .slice (some ⟨b,o,none⟩) len _=>bif decide (0<=n)&&decide (n<len)then some (.pointer (some ⟨b,o+n.toNat*ie.size,none⟩))else none|_=>none
   |none=>none
  |some (.array len e)=>match P.info? e with
   |some ie=>match x with
    | .pointer (some ⟨b,o,none⟩)=>bif decide (0<=n)&&decide (n<len)then some (.pointer (some ⟨b,o+n.toNat*ie.size,none⟩))else none|_=>none
   |none=>none
  |_=>none
 |_=>none
theorem jP {t:Ay}{i f:Aw}(h:j7 P t x i=some v)(hx:VR σ x x')(hi:VR σ i f):∃u,VR σ v u/\ ∀w,(Instr.indexAt t x' f).run P w= .ok u w:=by
 unfold j7 at h;split at h
 ·rename_i k n;cases hi;split at h
  ·rename_i e d;split at h
   ·rename_i ie a;split at h
    ·rename_i b o len c;cases hx with
     |slice _ _ p _ _ c' hp hc hl=>
     cases hb:decide (0<=n)&&decide (n<len)with
     |false=>grind|true=>rw[hb,cond_true]at h;simp only[Bool.and_eq_true,decide_eq_true_eq]at hb;simp only[Option.some.injEq]at h;subst h;refine⟨_,.ptr b _ p hp,fun w=>?_⟩;simp[Instr.indexAt,asIntOf,run_underlying d,hb,sizeOf,typeInfo,a,Addr.add_lit,Nat.add_assoc]
    ·cases h
   ·cases h
  ·rename_i len e d;split at h
   ·rename_i ie a;split at h
    ·rename_i b o;cases hx with
     |ptr _ _ p hp=>
     cases hb:decide (0<=n)&&decide (n<len)with
     |false=>grind|true=>rw[hb,cond_true]at h;simp only[Bool.and_eq_true,decide_eq_true_eq]at hb;simp only[Option.some.injEq]at h;subst h;refine⟨_,.ptr b _ p hp,fun w=>?_⟩;simp[Instr.indexAt,asIntOf,run_underlying d,Instr.sureAddr,hb,sizeOf,typeInfo,a,Addr.add_lit,Nat.add_assoc]
    ·cases h
   ·cases h
  ·cases h
 ·cases h
def lu (P:Ax)(t:Ay)(x:Aw):Ag:=
 match P.underlying t,x with
 |some .string,.string s=>some (.int .i64 s.data.toList.length)|some (.array n _),_=>some (.int .i64 n)|some (.slice _),.slice _ n _=>some (.int .i64 n)|some (.map _ _),.map none=>some (.int .i64 0)|_,_=>none
def om {t:Ay}(h:lu P t x=some v)(hx:VR σ x x')(ty:Ay)(ats:Array Ay)(a:ats[0]? =some t):VR σ v v/\ ∀w,(Builtin.len_ ats ty #[x']).run P w= .ok v w:=by
 unfold lu at h;split at h
 ·rename_i s d;cases hx;simp only[Option.some.injEq]at h;subst h;refine⟨.int _ _,fun w=>?_⟩;simp[Builtin.len_,a,run_underlying d,goInt]
 ·rename_i n e d;simp only[Option.some.injEq]at h;subst h;refine⟨.int _ _,fun w=>?_⟩;simp[Builtin.len_,a,run_underlying d,goInt]
 ·rename_i e b n c d;simp only[Option.some.injEq]at h;subst h;refine⟨.int _ _,fun w=>?_⟩;cases hx<;>simp[Builtin.len_,a,run_underlying d,goInt]
 ·rename_i k e d;simp only[Option.some.injEq]at h;subst h;refine⟨.int _ _,fun w=>?_⟩;cases hx;simp[Builtin.len_,a,run_underlying d,goInt]
 ·cases h
def xQ (P:Ax)(t:Ay)(x:Aw):Ag:=
 match P.underlying t,x with
 |some (.slice _),.slice none _ c=>some (.int .i64 c)|some (.slice _),.slice (some _) n c=>bif Nat.ble unk c then some (.complex .f64 (Nat.max (L6 c) n) (D1 c))else some (.int .i64 c)|some (.array n _),_=>some (.int .i64 n)|_,_=>none
theorem xR {t:Ay}(h:xQ P t x=some v)(hx:VR σ x x')(ty:Ay)(ats:Array Ay)(a:ats[0]? =some t):∃u,VR σ v u/\ ∀w,(Builtin.cap_ ats ty #[x']).run P w= .ok u w:=by
 unfold xQ at h;split at h
 ·rename_i e n c f;simp only[Option.some.injEq]at h;subst h;cases hx;refine⟨_,.int _ _,fun w=>?_⟩;simp[Builtin.cap_,a,run_underlying f,goInt]
 ·rename_i e b n c f;have run:∀b' n' c' w,(Builtin.cap_ ats ty #[.slice b' n' c']).run P w= .ok (.int .i64 c') w:=fun b' n' c' w=>by simp[Builtin.cap_,a,run_underlying f,goInt]
  cases hc:Nat.ble unk c with
  |true=>
   rw[hc,cond_true]at h;simp only[Option.some.injEq]at h;subst h;have hc:=Nat.le_of_ble_eq_true hc;cases hx with
   |slice i o p _ _ c' hp d hl=>
    rcases d with⟨_,h2⟩| ⟨_,h2,h3,_⟩
    ·omega
    ·exact⟨_,.ival .f64 _ _ c' (Nat.le_trans (rq _) (Nat.max_le.2 ⟨h2,hl⟩)) h3,run _ _ _⟩
   |vague q c'=>exact⟨_,.ival .f64 _ _ c' (Nat.le_trans (rq _) (Nat.max_le.2 ⟨by rw[Jx];exact Nat.zero_le _,Nat.zero_le _⟩)) (.inl Jw),run _ _ _⟩
  |false=>
   rw[hc,cond_false]at h;simp only[Option.some.injEq]at h;subst h;have g:¬unk<=c:=fun h=>by rw[Nat.ble_eq_true_of_le h]at hc;cases hc
   cases hx with
   |slice i o p _ _ c' hp d hl=>
    rcases d with⟨rfl,_⟩| ⟨h1,_⟩
    ·exact⟨_,.int _ _,run _ _ _⟩
    ·grind
   |vague q c'=>grind
 ·rename_i n e f;simp only[Option.some.injEq]at h;subst h;refine⟨_,.int _ _,fun w=>?_⟩;simp[Builtin.cap_,a,run_underlying f,goInt]
 ·cases h
def DE (op:BinOp)(a b:Nat×Nat):Ag:=
 match op with
 | .lss=>(Z2 a b).map .bool| .gtr=>(Z2 b a).map .bool| .leq=>(Z2 b a).map fun r=>.bool (!r)
 | .geq=>(Z2 a b).map fun r=>.bool (!r)
 | .eql=>bif bT a b then some (.bool false)else none| .neq=>bif bT a b then some (.bool true)else none|_=>none
def irem (op:BinOp)(x y:Aw):Ag:=
 match op,x,y with
 | .rem,.complex f lo _,.int k (.ofNat c)=>bif decide (X4 f lo=k)&&Nat.ble 1 c then some (.complex f (lo/18446744073709551616*18446744073709551616) c)else none|_,_,_=>none
def vF (op:BinOp)(x y:Aw):Ag:=
 match O5 x,O5 y with
 |some (k,a),some (k',b)=>bif decide (k=k')then DE op a b else none|_,_=>none
theorem R0 {op:BinOp}{t:Ay}{k:IntKind}{n m:Nat}{r:Bool}(h:W2 op (n:Int) (m:Int)=some (.bool r))(h1:op≠ .shl)(h2:op≠ .shr)(hx:o7 op k (n:Int) (m:Int)=W2 op (n:Int) (m:Int))(a c:Ba):∃u,VR σ (.bool r) u/\ ∀w,((eqGuard op t a c (.int k n) (.int k m)).run P w= .ok () w)/\(binOp op t (.int k n) (.int k m)).run P w= .ok u w:=by
 have hb:J3 P op t (.int k n) (.int k m)=some (.bool r):=by have:=hx.trans h;cases op<;>first|exact absurd rfl h1|exact absurd rfl h2| (simp only[J3,decide_true,cond_true];exact this)
 obtain⟨d,e⟩:=gD (σ:=σ) hb (.int k n) (.int k m) a c;grind
variable {y y':Aw}
theorem vG {op:BinOp}{t:Ay}(h:vF op x y=some v)(hx:VR σ x x')(hy:VR σ y y')(c d:Ba):∃u,VR σ v u/\ ∀w,((eqGuard op t c d x' y').run P w= .ok () w)/\(binOp op t x' y').run P w= .ok u w:=by
 have l:∀(f:IntKind) (a b:Nat×Nat),O5 x=some (f,a)->O5 y=some (f,b)->DE op a b=some v-> ∃u,VR σ v u/\ ∀w,((eqGuard op t c d x' y').run P w= .ok () w)/\(binOp op t x' y').run P w= .ok u w:=by
  intro f a b ha hb h;obtain⟨a1,a2⟩:=a;obtain⟨b1,b2⟩:=b;obtain⟨n,rfl,o,q⟩:=V5 ha hx;obtain⟨m,rfl,j,m2⟩:=V5 hb hy;have lt:∀r,Z2 (a1,a2) (b1,b2)=some r->r=decide ((n:Int)<(m:Int)):=fun r hr=>Z3 hr o q j m2;have g:∀r,Z2 (b1,b2) (a1,a2)=some r->r=decide ((m:Int)<(n:Int)):=fun r hr=>Z3 hr j m2 o q;have s:bT (a1,a2) (b1,b2)=true->(n:Int)≠m:=by intro e;unfold bT at e;grind
  unfold DE at h;cases op;case lss=>simp only[Option.map_eq_some_iff]at h;obtain⟨r,hr,rfl⟩:=h;exact R0 (by rw[lt r hr];rfl) (by simp) (by simp) rfl c d
  case gtr=>simp only[Option.map_eq_some_iff]at h;obtain⟨r,hr,rfl⟩:=h;exact R0 (by rw[g r hr];rfl) (by simp) (by simp) rfl c d
  case leq=>simp only[Option.map_eq_some_iff]at h;obtain⟨r,hr,rfl⟩:=h;refine R0 ?_ (by simp) (by simp) rfl c d;rw[g r hr];simp only[W2];congr 2;grind
  case geq=>simp only[Option.map_eq_some_iff]at h;obtain⟨r,hr,rfl⟩:=h;refine R0 ?_ (by simp) (by simp) rfl c d;rw[lt r hr];simp only[W2];congr 2;grind
  case eql=>
   cases hp:bT (a1,a2) (b1,b2)with
   |false=>grind|true=>simp only[hp,cond_true,Option.some.injEq]at h;subst h;exact R0 (by have:=s hp;simp[W2];omega) (by simp) (by simp) rfl c d
  case neq=>
   cases hp:bT (a1,a2) (b1,b2)with
   |false=>grind|true=>simp only[hp,cond_true,Option.some.injEq]at h;subst h;exact R0 (by have:=s hp;simp[W2];omega) (by simp) (by simp) rfl c d
  all_goals cases h
 unfold vF at h;grind
theorem wH {op:BinOp}{t:Ay}(h:irem op x y=some v)(hx:VR σ x x')(hy:VR σ y y')(d e:Ba):∃u,VR σ v u/\ ∀w,((eqGuard op t d e x' y').run P w= .ok () w)/\(binOp op t x' y').run P w= .ok u w:=by
 unfold irem at h;split at h
 ·rename_i f lo hi k c;cases hb:decide (X4 f lo=k)&&Nat.ble 1 c with
  |false=>grind|true=>
   rw[hb,cond_true,Option.some.injEq]at h;subst h;simp only[Bool.and_eq_true,decide_eq_true_eq]at hb;obtain⟨rfl,hc⟩:=hb;have hc:=Nat.le_of_ble_eq_true hc;cases hx with
   |ival _ _ _ n h1 h2=>
   cases hy;have hx:J3 P .rem t (.int (X4 f lo) n) (.int (X4 f lo) (Int.ofNat c))=some (.int (X4 f lo) ((n:Int).tmod (Int.ofNat c))):=by
    have a:decide (Int.ofNat c=0)=false:=by grind
    simp only[J3,decide_true,cond_true,o7,a,cond_false]
   obtain⟨_,l⟩:=gD (σ:=σ) hx (.int _ _) (.int _ _) d e;refine⟨_,?_,l⟩;have g:(n:Int).tmod (Int.ofNat c)=((n % c:Nat):Int):=by grind
   have j:X4 f lo=X4 f (lo/18446744073709551616*18446744073709551616):=by unfold X4;grind
   rw[g,j];exact .ival f _ c (n % c) (by unfold bY;rw[Nat.mul_mod_left];exact Nat.zero_le _) (.inr (Nat.mod_lt _ hc))
 ·cases h
def v6 (P:Ax)(op:BinOp)(t:Ay)(x y:Aw):Ag:=
 match J3 P op t x y with
 |some v=>some v|none=>match vF op x y with
  |some v=>some v|none=>irem op x y
def vE {op:BinOp}{t:Ay}(h:v6 P op t x y=some v)(hx:VR σ x x')(hy:VR σ y y')(a c:Ba):∃u,VR σ v u/\ ∀w,((eqGuard op t a c x' y').run P w= .ok () w)/\(binOp op t x' y').run P w= .ok u w:=by
 unfold v6 at h;split at h
 ·rename_i v' d;cases h;exact⟨_,gD d hx hy a c⟩
 ·split at h
  ·rename_i v' d;cases h;exact vG d hx hy a c
  ·exact wH h hx hy a c
def dp (big:Bool):Aw->Af->Ag
 |v,[]=>match v with
  | .int k n=>some (.int k n)|_=>none
 |v,y::ys=>match v,y with
  | .int k a,.int _ b=>dp big (.int k (bif big then(bif decide (a<b)then b else a)else(bif decide (b<a)then b else a))) ys|_,_=>none
theorem oq {P:Ax}{σ:Sg}:∀ {xs:Af} {x v:Aw} {c:Af} {x':Aw},dp false x xs=some v->VR σ x x'->VRL σ xs c->VR σ v v/\ ∀w,(c.foldlM Builtin.min2 x':Sem Aw).run P w= .ok v w
 | [],x,v,c,x',h,hx,d=>by
  rw[d.unnil];unfold dp at h;split at h
  ·simp only[Option.some.injEq]at h;subst h;cases hx;exact⟨.int _ _,fun w=>by simp⟩
  ·cases h
 |y::ys,x,v,c,x',h,hx,d=>by
  obtain⟨y',g,rfl,hy,e⟩:=d.uncons;unfold dp at h;split at h
  ·rename_i k a k' b;cases hx;cases hy;have f:=oq (P:=P) h (.int _ _) e;refine⟨f.1,fun w=>?_⟩;have he:(Builtin.min2 (.int k a) (.int k' b)).run P w= .ok (.int k (bif false then(bif decide (a<b)then b else a)else(bif decide (b<a)then b else a))) w:=by simp only[Builtin.min2,cond_false,Sem.run_pure];grind
   simp_all
  ·cases h
theorem oo {P:Ax}{σ:Sg}:∀ {xs:Af} {x v:Aw} {c:Af} {x':Aw},dp true x xs=some v->VR σ x x'->VRL σ xs c->VR σ v v/\ ∀w,(c.foldlM Builtin.max2 x':Sem Aw).run P w= .ok v w
 | [],x,v,c,x',h,hx,d=>by
  rw[d.unnil];unfold dp at h;split at h
  ·simp only[Option.some.injEq]at h;subst h;cases hx;exact⟨.int _ _,fun w=>by simp⟩
  ·cases h
 |y::ys,x,v,c,x',h,hx,d=>by
  obtain⟨y',g,rfl,hy,e⟩:=d.uncons;unfold dp at h;split at h
  ·rename_i k a k' b;cases hx;cases hy;have f:=oo (P:=P) h (.int _ _) e;refine⟨f.1,fun w=>?_⟩;have he:(Builtin.max2 (.int k a) (.int k' b)).run P w= .ok (.int k (bif true then(bif decide (a<b)then b else a)else(bif decide (b<a)then b else a))) w:=by simp only[Builtin.max2,cond_true,Sem.run_pure];grind
   simp_all
  ·cases h
end Go.Xe
end PartXm6
noncomputable section PartXm7
namespace Go.Xe
open Go.RowKit
def MOK (hp:Hp)(B:BS)(w0:Be)(σ:Sg)(v:Aw)(hp':Hp)(r:Result Aw):Prop:=
 ∃σ' u w',r= .ok u w'/\Sg.gr hp.nx hp'.nx σ σ'/\VR σ' v u/\HR B w0 σ' hp' w'
def Hp.new (hp:Hp)(vs:Af)(e z:Nat):Hp:=⟨hp.m.set hp.nx (some (.cells (fill .e 0 vs) vs.length e z)),hp.nx+1⟩
section
variable {P :Ax}{B:BS}{w0:Be}{σ:Sg}{hp:Hp}{w:Be}
def v8 (vs:Af)(j:Nat)(hj:j<vs.length):(fill .e 0 vs).get j=vs[j]? :=by rw[f6,if_pos (by omega)];simp
variable {us vs:Af}
def HR.new (h:HR B w0 σ hp w)(c:VRL σ vs us)(e z:Nat):HR B w0 (σ.ext hp.nx ⟨w.heap.size,0,us.length,z⟩) (hp.new vs e z) (w.alloc (.cells us.toArray e)):=by
 have:=h.alloc (fill .e 0 vs) vs.length e z us.toArray (by rw[c.1];simp) (fun j hj=>by
  have a:j<us.length:=by rw[<-c.1];exact hj
  refine⟨vs[j],us[j],by rw[v8 vs j hj];simp[hj],by simp[a],c.2 j _ _ (by simp[hj]) (by simp[a])⟩)
 simpa [Hp.new]using this
def HR.le_new (h:HR B w0 σ hp w)(p:Pl):Sg.gr hp.nx (hp.nx+1) σ (σ.ext hp.nx p):=
 ⟨Ms p (h.fresh _ (Nat.le_refl _)),fun i hi=>Mo _ _ _ (by omega),Nat.le_succ _⟩
theorem VR.new (σ:Sg)(i:Nat)(p:Pl)(hd:p.dl=0):VR (σ.ext i p) (.pointer (some ⟨i,0,none⟩)) (.pointer (some ⟨p.blk,0,none⟩)):=by have:=VR.ptr (σ:=σ.ext i p) i 0 p (Mp _ _ _);grind
inductive Nv where
 |ptr
 |slice (l c:Nat)
 |map
structure Nw where
 blk:Blk
 v:Nv
 ok:aQ blk=false:=by rfl
def Nw.val (n:Nw)(id:Nat):Aw:=
 match n.v with
 | .ptr=>.pointer (some ⟨id,0,none⟩)| .slice l c=>.slice (some ⟨id,0,none⟩) l c| .map=>.map (some id)
def A0 (vs:Af)(e z:Nat):Blk:= .cells (fill .e 0 vs) vs.length e z
def eQ (h:VRL σ vs us)(e z b:Nat):BR σ ⟨b,0,us.length,z⟩ (A0 vs e z) (.cells us.toArray e):=by
 refine⟨us.toArray,rfl,rfl,by simp,by simp[h.1],fun j hj=>?_⟩;have a:j<us.length:=by rw[<-h.1];exact hj
 exact⟨vs[j],us[j],by rw[v8 vs j hj];simp[hj],by simp[a],h.2 j _ _ (by simp[hj]) (by simp[a])⟩
def gP (P:Ax)(σ:Sg)(n:Nw)(s:Sem Aw):Prop:=
 (∀l c,n.v= .slice l c->l<=c/\c<unk)/\ ∃o siz z,(∀b,BR σ ⟨b,0,siz,z⟩ n.blk o)/\ ∀w,s.run P w= .ok (n.val w.heap.size) (w.alloc o)
def Hp.add (hp:Hp)(n:Nw):Aw×Hp:=(n.val hp.nx,⟨hp.m.set hp.nx (some n.blk),hp.nx+1⟩)
variable {n:Nw}
theorem Nw.val_VR {σ:Sg}(h:∀l c,n.v= .slice l c->l<=c/\c<unk)(a b siz z:Nat):VR (σ.ext a ⟨b,0,siz,z⟩) (n.val a) (n.val b):=by
 unfold Nw.val;cases d:n.v with
 |ptr=>exact VR.new σ a ⟨b,0,siz,z⟩ rfl|slice l c=>obtain⟨h1,h2⟩:=h l c d;have:=VR.slice (σ:=σ.ext a ⟨b,0,siz,z⟩) a 0 ⟨b,0,siz,z⟩ l c c (Mp _ _ _) (.inl ⟨rfl,h2⟩) h1;grind
 |map=>exact VR.map a ⟨b,0,siz,z⟩ (Mp _ _ _)
def gP.mok {s:Sem Aw}(h:gP P σ n s)(hw:HR B w0 σ hp w):MOK hp B w0 σ (hp.add n).1 (hp.add n).2 (s.run P w):=by obtain⟨h1,o,siz,z,h2,h3⟩:=h;refine⟨σ.ext hp.nx ⟨w.heap.size,0,siz,z⟩,_,_,h3 w,hw.le_new _,Nw.val_VR h1 _ _ _ _,?_⟩;exact hw.allocO hp.nx (hp.nx+1) (hw.fresh _ (Nat.le_refl _)) (Nat.le_succ _) (Nat.lt_succ_self _) n.blk o _ rfl ((h2 _).mono (hw.le_new _).le) n.ok
def cP (P:Ax)(e:Ay):Bc Nw:=
 match D6 P e with
 |some z=>some ⟨A0 z.cells.toList e z.cells.toList.length,.ptr,rfl⟩|none=>none
def oS {e:Ay}(h:cP P e=some n):gP P σ n (Instr.alloc e true (.tuple #[])):=by
 unfold cP at h;split at h
 ·rename_i z hz;cases h;obtain⟨hc,hr⟩:=K4 hz;refine⟨(fun l c h=>by cases h),.cells z.cells e,z.cells.toList.length,_,(fun b=>by simpa using eQ (U5 σ hc).cells e z.cells.toList.length b),fun w=>?_⟩;simp[Instr.alloc,hr,newVar,newRow,Nw.val]
 ·cases h
def qm (e:Ay)(x:Aw):Nw:=⟨A0 x.cells.toList e x.cells.toList.length,.ptr,rfl⟩
variable {x x':Aw}
def vI {e:Ay}(hx:VR σ x x'):gP P σ (qm e x) (Instr.box e x'):=by refine⟨(fun l c h=>by cases h),.cells x'.cells e,x'.cells.toList.length,_,(fun b=>by simpa [qm]using eQ hx.cells e x.cells.toList.length b),fun w=>?_⟩;simp[Instr.box,newVar,newRow,Nw.val,qm]
def zZ (t:Ag):Bc Nw:=
 match t with
 |none=>some ⟨.map [] true,.map,rfl⟩|some (.int _ _)=>some ⟨.map [] true,.map,rfl⟩|_=>none
theorem vQ {t:Ay}{r a:Ag}(h:zZ r=some n)(hr:match r,a with|none,none=>True|some v,some u=>VR σ v u|_,_=>False)(hm:match P.underlying t with|some (.map _ _)=>True|_=>False):gP P σ n (Instr.makeMap t a):=by
 cases f:P.underlying t with
 |none=>grind|some d=>
 cases d<;>simp[f]at hm;unfold zZ at h;split at h
 ·simp only[Option.some.injEq]at h;subst h;cases a with
  |some u=>grind|none=>refine⟨(fun l c h=>by cases h),.map #[] 0,0,0,(fun b=>⟨#[],0,rfl,rfl,(fun j x e hx=>by simp at hx),fun _=>⟨rfl,fun j e hj=>by simp at hj⟩⟩),fun w=>?_⟩;simp[Instr.makeMap,Nw.val]
 ·simp only[Option.some.injEq]at h;subst h;cases a with
  |none=>grind|some u=>cases hr;refine⟨(fun l c h=>by cases h),.map #[] 0,0,0,(fun b=>⟨#[],0,rfl,rfl,(fun j x e hx=>by simp at hx),fun _=>⟨rfl,fun j e hj=>by simp at hj⟩⟩),fun w=>?_⟩;simp[Instr.makeMap,Nw.val,run_underlying f,asInt,asIntOf]
 ·cases h
def iU (P:Ax)(t:Ay)(x:Aw):Bc Nw:=
 match P.underlying t,x with
 |some .string,.string s=>some ⟨.sit s 0,.ptr,rfl⟩|_,_=>none
def oV {t:Ay}(h:iU P t x=some n)(hx:VR σ x x'):gP P σ n (Instr.range t x'):=by
 unfold iU at h;split at h
 ·rename_i s a;cases h;cases hx;refine⟨(fun l c h=>by cases h),.stringIter s 0,0,0,(fun b=>⟨rfl,rfl⟩),fun w=>?_⟩;simp[Instr.range,run_underlying a,Nw.val]
 ·cases h
def B0 (P:Ax)(hp:Hp)(t:Ay)(a:Aw):Ag:=
 match a with
 | .pointer (some ⟨i,o,none⟩)=>match hp.m.get i with
  |some b=>match rdC b with
   |some (c,n,_)=>match P.underlying t with
    | some d => bif R8 d then
      match P.info? t with
      | some ti => bif Nat.ble (o + ti.size) n then
        match d6 c o ti.size with
        |some vs=>some (.agg vs.toArray)|none=>none
       else none
      |none=>none
     else bif Nat.ble (o+1) n then c.get o else none
    |none=>none
   |none=>none
  |none=>none
 |_=>none
variable {a':Aw}
theorem kU {t:Ay}{a v:Aw}(h:B0 P hp t a=some v)(ha:VR σ a a')(hw:HR B w0 σ hp w):∃u,VR σ v u/\(Instr.loadAt t a').run P w= .ok u w:=by
 unfold B0 at h;split at h
 ·rename_i i o;cases ha with
  |ptr _ _ p hp'=>
  split at h
  ·rename_i b f;split at h
   ·rename_i c n z hr;split at h
    ·rename_i d g;cases hd:R8 d with
     |true=>
      rw[hd,cond_true]at h;split at h
      ·rename_i l e;cases hb:Nat.ble (o+l.size) n with
       |false=>grind|true=>
        rw[hb,cond_true]at h;split at h
        ·rename_i vs hl;simp only[Option.some.injEq]at h;subst h;obtain⟨us,h1,h2,h3⟩:=hw.cellsR f hr (Nat.le_of_ble_eq_true hb) hl hp';refine⟨.agg us.toArray,h1.to_agg,?_⟩;have:=run_loadCells_list (P:=P) w ⟨p.blk,p.dl+o,none⟩ us h3;rw[h2]at this;simp[Instr.loadAt,Instr.sureAddr,loadVar,eR g,hd,sizeOf,typeInfo,e,this]
        ·cases h
      ·cases h
     |false=>
      rw[hd,cond_false]at h;cases hb:Nat.ble (o+1) n with
      |false=>grind|true=>
       rw[hb,cond_true]at h;have hl:d6 c o 1=some [v]:=by simp[d6,h]
       obtain⟨us,h1,h2,h3⟩:=hw.cellsR f hr (Nat.le_of_ble_eq_true hb) hl hp';obtain⟨u,m,rfl,j,_⟩:=h1.uncons;refine⟨u,j,?_⟩;have:=h3 0 u rfl;rw[Addr.add_zero']at this;simp[Instr.loadAt,Instr.sureAddr,loadVar,eR g,hd,this]
    ·cases h
   ·cases h
  ·cases h
 ·cases h
def jS (hp:Hp)(i:Nat)(c:Ao)(n e z o:Nat)(vs:Af):Hp:=
 (fill c o vs).force fun c'=> {hp with m:=hp.m.set i (some (.cells c' n e z))}
def E7 (hp:Hp)(i:Nat)(c:Ao)(n e z o:Nat)(vs:Af):jS hp i c n e z o vs= {hp with m:=hp.m.set i (some (.cells (fill c o vs) n e z))}:=by unfold jS;rw[Mt]
def A8 (P:Ax)(hp:Hp)(t:Ay)(a x:Aw):Bc Hp:=
 match a with
 | .pointer (some ⟨i,o,none⟩)=>match hp.m.get i with
  |some (.cells c n e z)=>match P.info? t with
   |some ti=>bif Nat.beq x.cells.toList.length ti.size&&Nat.ble (o+ti.size) n&&x.cells.toList.all Value.oneCell' then some (jS hp i c n e z o x.cells.toList)else none|none=>none
  |_=>none
 |_=>none
def VRL.all_oneCell (h:VRL σ vs us)(d:vs.all Value.oneCell'=true):∀u∈us,u.oneCell'=true:=by
 intro u c;obtain⟨j,hj,rfl⟩:=List.mem_iff_getElem.1 c;have a:j<vs.length:=by rw[h.1];exact hj
 exact(h.2 j vs[j] us[j] (by simp[a]) (by simp[hj])).oneCell (List.all_eq_true.1 d _ (List.getElem_mem a))
theorem HR.place (hw:HR B w0 σ hp w){i n e z:Nat}{c:Ao}(a:hp.m.get i=some (.cells c n e z)){p:Pl}(d:σ i=some p):p.dl+n<=p.siz/\p.esz=z:=by obtain⟨p',C,f,g,_,_,_,h,_⟩:=hw.liveC a;grind
theorem sN {t:Ay}{a:Aw}{hp':Hp}(h:A8 P hp t a x=some hp')(ha:VR σ a a')(hx:VR σ x x')(hw:HR B w0 σ hp w):∃w',(Instr.storeAt t a' x').run P w= .ok () w'/\HR B w0 σ hp' w'/\hp'.nx=hp.nx:=by
 unfold A8 at h;split at h
 ·rename_i i o;cases ha with
  |ptr _ _ p f=>
  split at h
  ·rename_i c n e z l;split at h
   ·rename_i j g;cases hb:Nat.beq x.cells.toList.length j.size&&Nat.ble (o+j.size) n&&x.cells.toList.all Value.oneCell' with
    |false=>grind|true=>
     rw[hb,cond_true,E7]at h;simp only[Option.some.injEq]at h;subst h;simp only[Bool.and_eq_true]at hb;have m:=Nat.eq_of_beq_eq_true hb.1.1;have q:=Nat.le_of_ble_eq_true hb.1.2;have d:=hx.cells;obtain⟨k1,_⟩:=hw.place l f;obtain⟨w',hr,hh,_⟩:=hw.store (o:=o) l f d (d.all_oneCell hb.2) (by omega) (by omega) P;refine⟨w',?_,?_,rfl⟩
     ·have hs:x'.cells.size=j.size:=by rw[<-m,d.1];simp
      simp[Instr.storeAt,Instr.sureAddr,storeVar,sizeOf,typeInfo,g,hs,hr]
     ·grind
   ·cases h
  ·cases h
 ·cases h
def xrep :Nat->Af->Af
 |0,_=>[]
 |n+1,zs=>zs++xrep n zs
def xrep_length (a:Af):∀n,(xrep n a).length=n*a.length
 |0=>by simp[xrep]|n+1=>by simp[xrep,xrep_length a n,Nat.succ_mul,Nat.add_comm]
def eE (a:Af):∀(n j:Nat),j<n*a.length->(xrep n a)[j]? =a[j % a.length]?
 |0,j,h=>by simp at h|n+1,j,h=>by
  simp only[xrep];by_cases hj:j<a.length
  ·rw[List.getElem?_append_left hj,Nat.mod_eq_of_lt hj]
  ·rw[List.getElem?_append_right (by omega),eE a n (j-a.length) (by rw[Nat.succ_mul]at h;omega)];rw[Nat.mod_eq_sub_mod (by omega:a.length<=j)]
theorem eP (z:Al)(n:Nat):((Array.range (n*z.size)).map (fun i=>z[i % z.size]!)).toList=xrep n z.toList:=by
 apply List.ext_getElem?;intro j;by_cases hj:j<n*z.size
 ·rw[eE z.toList n j (by simpa using hj)];have hz:0<z.size:=by grind
  have hm:j % z.size<z.size:=Nat.mod_lt _ hz;grind
 ·rw[List.getElem?_eq_none (by simp;omega),List.getElem?_eq_none (by rw[xrep_length];simp;omega)]
def VRL.xrep {a:Af}(h:VRL σ a a):∀n,VRL σ (xrep n a) (xrep n a)
 |0=>MF σ|n+1=>h.append (VRL.xrep h n)
def sw (P:Ax)(t:Ay)(len:Nat)(parts:List (Nat×Aw)):Bc Nw:=
 match P.underlying t with
 |some (.slice e)=>match P.info? e with
  |some ie=>match D6 P e with
   | some z => bif Nat.beq z.cells.toList.length ie.size && Nat.ble (len * ie.size) 16777216 && Nat.ble len 16777216 then
     match dn (fun i=>some (i*ie.size,ie.size)) (xrep len z.cells.toList) parts with
     |some cs=>some ⟨A0 cs e ie.size,.slice len len,rfl⟩|none=>none
    else none
   |none=>none
  |none=>none
 |_=>none
theorem xP {t:Ay}{len:Nat}{xs:List (Nat×Aw)}{ys:Array (Nat×Aw)}(h:sw P t len xs=some n)(hy:PVR σ xs ys.toList):gP P σ n (Instr.buildSlice t len ys):=by
 unfold sw at h;split at h
 ·rename_i e q;split at h
  ·rename_i ie f;split at h
   ·rename_i z hz;cases hb:Nat.beq z.cells.toList.length ie.size&&Nat.ble (len*ie.size) 16777216&&Nat.ble len 16777216 with
    |false=>grind|true=>
     rw[hb,cond_true]at h;simp only[Bool.and_eq_true]at hb;have r:=Nat.eq_of_beq_eq_true hb.1.1;have s:=Nat.le_of_ble_eq_true hb.1.2;have A:=Nat.le_of_ble_eq_true hb.2;split at h
     ·rename_i cs hf;cases h;obtain⟨hc,m⟩:=K4 hz;have o:=(U5 σ hc).cells;have a:∀j:Al,j=(if len*ie.size=0 then #[]else z.cells)->((Array.range (len*ie.size)).map (fun i=>j[i % j.size]!)).toList=xrep len z.cells.toList:=by
       intro j g;by_cases h0:len*ie.size=0
       ·have hl:xrep len z.cells.toList=[]:=List.eq_nil_of_length_eq_zero (by rw[xrep_length,r];exact h0);grind
       ·rw[if_neg h0]at g;subst g;have:=eP z.cells len;grind
      obtain⟨ds,h1,h2⟩:=eA (σ:=σ) _ xs ys.toList (xrep len z.cells.toList) cs ((Array.range (len*ie.size)).map (fun i=>(if len*ie.size=0 then #[]else z.cells)[i % (if len*ie.size=0 then #[]else z.cells).size]!)) hf hy
       (by rw[a _ rfl];exact o.xrep len)
      refine⟨(fun l c h=>by cases h;exact⟨Nat.le_refl _,by unfold unk;omega⟩),.cells ds e,ds.toList.length,_,(fun b=>by simpa using eQ h2 e ie.size b),fun w=>?_⟩;have d:¬len*ie.size>2^24:=by omega
      by_cases h0:len*ie.size=0
      ·rw[if_pos h0]at h1;simp only[Instr.buildSlice,Sem.run_bind,run_underlying q,Result.andThen_ok,sizeOf,typeInfo,run_program,f,Sem.run_pure,if_neg d,if_pos h0,h1,newRow,run_newObj];rfl
      ·rw[if_neg h0]at h1;simp only[Instr.buildSlice,Sem.run_bind,run_underlying q,Result.andThen_ok,sizeOf,typeInfo,run_program,f,Sem.run_pure,if_neg d,if_neg h0,m,h1,newRow,run_newObj];rfl
     ·cases h
   ·cases h
  ·cases h
 ·cases h
def FU (P:Ax)(t:Ay)(l c:Aw):Bc Nw:=
 match l,c with
 | .int _ ln,.int _ cn=>match P.underlying t with
  |some (.slice e)=>match P.info? e with
   |some ie=>match D6 P e with
    | some z => bif decide (0 ≤ ln) && decide (ln ≤ cn) && decide (cn ≤ 1048576) && Nat.ble ie.bytes 1048576 && Nat.beq z.cells.toList.length ie.size then
      some ⟨A0 (xrep cn.toNat z.cells.toList) e ie.size,.slice ln.toNat cn.toNat,rfl⟩
     else none
    |none=>none
   |none=>none
  |_=>none
 |_,_=>none
theorem xS {t:Ay}{l c l' c':Aw}(h:FU P t l c=some n)(hl:VR σ l l')(hc:VR σ c c'):gP P σ n (Instr.makeSlice t l' c'):=by
 unfold FU at h;split at h
 ·rename_i k1 ln k2 a;cases hl;cases hc;split at h
  ·rename_i e A;split at h
   ·rename_i ie g;split at h
    ·rename_i z hz;cases hb:decide (0<=ln)&&decide (ln<=a)&&decide (a<=1048576)&&Nat.ble ie.bytes 1048576&&Nat.beq z.cells.toList.length ie.size with
     |false=>grind|true=>
      rw[hb,cond_true]at h;simp only[Bool.and_eq_true,decide_eq_true_eq]at hb;obtain⟨⟨⟨⟨b1,b2⟩,b3⟩,b4⟩,b5⟩:=hb;have b4:=Nat.le_of_ble_eq_true b4;have E:=Nat.eq_of_beq_eq_true b5;cases h;obtain⟨o,q⟩:=K4 hz;have r:=(U5 σ o).cells;have D:IntKind.i64.wrap ln=ln:=IntWalk.i64_in _ (by omega);have C:IntKind.i64.wrap a=a:=IntWalk.i64_in _ (by omega);have d:∀m:Al,m=(if a.toNat*ie.size=0 then #[]else z.cells)->(Array.range (a.toNat*ie.size)).map (fun i=>m[i % m.size]!)=(xrep a.toNat z.cells.toList).toArray:=by
       intro m j;apply Array.ext';by_cases h0:a.toNat*ie.size=0
       ·have hl:xrep a.toNat z.cells.toList=[]:=List.eq_nil_of_length_eq_zero (by rw[xrep_length,E];exact h0);grind
       ·rw[if_neg h0]at j;subst j;have:=eP z.cells a.toNat;grind
      refine⟨(fun l c h=>by cases h;exact⟨by omega,by unfold unk;omega⟩),.cells (xrep a.toNat z.cells.toList).toArray e,_,_,(fun b=>eQ (r.xrep a.toNat) e ie.size b),fun w=>?_⟩;have s:¬((ie.bytes:Int)*a>2^48):=by have h1:(ie.bytes:Int)*a<=1048576*1048576:=Int.mul_le_mul (by omega) b3 (by omega) (by omega);omega
      have f:¬((decide (a<0)||decide ((ie.bytes:Int)*a>2^48))||decide (ln<0)||decide (ln>a))=true:=by grind
      by_cases h0:a.toNat*ie.size=0
      ·have:=d #[] (by rw[if_pos h0]);simp only[Instr.makeSlice,Sem.run_bind,run_underlying A,Result.andThen_ok,asInt,asIntOf,Sem.run_pure,typeInfo,run_program,g,D,C,if_neg f,run_askRoom,sizeOf,if_pos h0,this,newRow,run_newObj];rfl
      ·have:=d z.cells (by rw[if_neg h0]);simp only[Instr.makeSlice,Sem.run_bind,run_underlying A,Result.andThen_ok,asInt,asIntOf,Sem.run_pure,typeInfo,run_program,g,D,C,if_neg f,run_askRoom,sizeOf,if_neg h0,q,this,newRow,run_newObj];rfl
    ·cases h
   ·cases h
  ·cases h
 ·cases h
end
end Go.Xe
end PartXm7
