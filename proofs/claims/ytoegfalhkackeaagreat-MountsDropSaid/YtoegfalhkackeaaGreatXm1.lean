/- The executor, parts 1, 2, 3, 4, 5, 6, 7.
  Conditions: none. -/
import Derived.WalkSpells
set_option linter.all false
noncomputable section
namespace Go
abbrev Bc:=World
abbrev Bb:=Option
abbrev Ba:=TypeInfo
abbrev Az:=Operand
abbrev Ay:=FuncId
abbrev Ax:=TypeId
abbrev Aw:=Program
abbrev Av:=Value
abbrev Aq:=Option Addr
abbrev An:=List Oper
abbrev Am:=Array Oper
abbrev Al:=Array Value
abbrev Ak:=List Int
abbrev Ai:=Option Nat
abbrev Ah:=List Nat
abbrev Ag:=Option Value
abbrev Af:=List Value
abbrev Ae:=List UInt8
abbrev Aa:=FuncId ->Option TypeId
end Go
namespace Go.Xe
def SQ:type_of% @Option.some.injEq:=@Option.some.injEq
def SR:type_of% @Bool.and_eq_true:=@Bool.and_eq_true
def SU:type_of% @Prod.mk.injEq:=@Prod.mk.injEq
def SW:type_of% @List.getElem?_eq_some_iff:=@List.getElem?_eq_some_iff
def SX:type_of% @Nat.le_of_ble_eq_true:=@Nat.le_of_ble_eq_true
def SY:type_of% @Nat.eq_of_beq_eq_true:=@Nat.eq_of_beq_eq_true
def SZ:type_of% @List.eq_nil_of_length_eq_zero:=@List.eq_nil_of_length_eq_zero
def Ta:type_of% @Nat.ble_eq_true_of_le:=@Nat.ble_eq_true_of_le
def Tb:type_of% @List.getElem?_append_right:=@List.getElem?_append_right
def Tc:type_of% @List.getElem?_append_left:=@List.getElem?_append_left
def Td:type_of% @List.mem_of_getElem?:=@List.mem_of_getElem?
def Te:type_of% @List.getElem?_cons_succ:=@List.getElem?_cons_succ
def Tf:type_of% @List.getElem?_eq_getElem:=@List.getElem?_eq_getElem
def Tg:type_of% @Nat.mul_le_mul_right:=@Nat.mul_le_mul_right
def Th:type_of% @List.append_assoc:=@List.append_assoc
def Ti:type_of% @Array.getElem?_eq_some_iff:=@Array.getElem?_eq_some_iff
def Tj:type_of% @List.getElem?_cons_zero:=@List.getElem?_cons_zero
def Tk:type_of% @cond_true:=@cond_true
def Tl:type_of% @cond_false:=@cond_false
def Tm:type_of% @List.length_map:=@List.length_map
def Tn:type_of% @if_neg:=@if_neg
def To:type_of% @decide_eq_true_eq:=@decide_eq_true_eq
def Tp:type_of% @if_pos:=@if_pos
def Tq:type_of% @Nat.le_refl:=@Nat.le_refl
def Ts:type_of% @run_underlying:=@run_underlying
def Tt:type_of% @Result.andThen_ok:=@Result.andThen_ok
def Tu:type_of% @Option.some.inj:=@Option.some.inj
def Tv:type_of% @List.length_append:=@List.length_append
def Tw:type_of% @And.intro:=@And.intro
def Tx:type_of% @Sem.run_bind:=@Sem.run_bind
def Ty:type_of% @List.all_eq_true:=@List.all_eq_true
def Tz:type_of% @List.getD_eq_getElem?_getD:=@List.getD_eq_getElem?_getD
def TA:type_of% @Nat.zero_add:=@Nat.zero_add
def TB:type_of% @List.getElem?_take:=@List.getElem?_take
def TC:type_of% @Sem.run_pure:=@Sem.run_pure
def TE:type_of% @List.length_take:=@List.length_take
def TF:type_of% @Nat.add_mul:=@Nat.add_mul
def TG:type_of% @List.mem_append:=@List.mem_append
def TH:type_of% @List.mem_cons:=@List.mem_cons
def TI:type_of% @List.getElem?_drop:=@List.getElem?_drop
def TJ:type_of% @Nat.beq_eq:=@Nat.beq_eq
def TK:type_of% @Int.toNat_natCast:=@Int.toNat_natCast
def TL:type_of% @Option.getD_some:=@Option.getD_some
def TM:type_of% @List.length_cons:=@List.length_cons
def TN:type_of% @true_implies:=@true_implies
def TO:type_of% @Option.map_some:=@Option.map_some
def TP:type_of% @Bool.not_eq_true':=@Bool.not_eq_true'
def TQ:type_of% @List.map_append:=@List.map_append
def TS:type_of% @decide_eq_false_iff_not:=@decide_eq_false_iff_not
def TT:type_of% @List.take_of_length_le:=@List.take_of_length_le
def TU:type_of% @List.getElem?_map:=@List.getElem?_map
def TV:type_of% @List.map_cons:=@List.map_cons
def TW:type_of% @List.length_drop:=@List.length_drop
def TX:type_of% @Nat.lt_of_lt_of_le:=@Nat.lt_of_lt_of_le
def TY:type_of% @Nat.ble_eq:=@Nat.ble_eq
def TZ:type_of% @List.mem_iff_getElem?:=@List.mem_iff_getElem?
def Ua:type_of% @decide_true:=@decide_true
def Ub:type_of% @Nat.le_trans:=@Nat.le_trans
def Uc:type_of% @List.mem_cons_of_mem:=@List.mem_cons_of_mem
def Ud:type_of% @Nat.add_assoc:=@Nat.add_assoc
def Ue:type_of% @Nat.lt_succ_self:=@Nat.lt_succ_self
def Uf:type_of% @List.cons_append:=@List.cons_append
def Ug:type_of% @implies_true:=@implies_true
def Uh:type_of% @Int.le_refl:=@Int.le_refl
def Ui:type_of% @List.mem_singleton:=@List.mem_singleton
def Uj:type_of% @Nat.add_zero:=@Nat.add_zero
def Uk:type_of% @Nat.succ_mul:=@Nat.succ_mul
def Ul:type_of% @true_and:=@true_and
def Um:type_of% @List.cons.injEq:=@List.cons.injEq
def Un:type_of% @Nat.le_max_right:=@Nat.le_max_right
def Uo:type_of% @Bool.false_eq_true:=@Bool.false_eq_true
def Up:type_of% @and_true:=@and_true
def Uq:type_of% @Nat.add_sub_cancel_left:=@Nat.add_sub_cancel_left
def Ur:type_of% @Nat.le_succ:=@Nat.le_succ
def Ut:type_of% @decide_eq_false:=@decide_eq_false
def Uu:type_of% @Bool.or_eq_true:=@Bool.or_eq_true
def Uv:type_of% @Nat.le_of_not_lt:=@Nat.le_of_not_lt
def Uw:type_of% @of_decide_eq_true:=@of_decide_eq_true
def Ux:type_of% @Nat.sub_zero:=@Nat.sub_zero
def Uy:type_of% @List.mem_map:=@List.mem_map
def Uz:type_of% @Option.map_eq_some_iff:=@Option.map_eq_some_iff
def UA:type_of% @List.mem_append_right:=@List.mem_append_right
def UB:type_of% @List.mem_of_mem_take:=@List.mem_of_mem_take
def UC:type_of% @List.mem_of_mem_drop:=@List.mem_of_mem_drop
def UD:type_of% @Bool.and_true:=@Bool.and_true
def UE:type_of% @Nat.zero_mul:=@Nat.zero_mul
def UF:type_of% @List.append_nil:=@List.append_nil
def UG:type_of% @if_true:=@if_true
def UH:type_of% @Addr.add_lit:=@Addr.add_lit
def UI:type_of% @List.take_append_drop:=@List.take_append_drop
def UJ:type_of% @Nat.zero_le:=@Nat.zero_le
def UK:type_of% @List.drop_zero:=@List.drop_zero
def UL:type_of% @List.mem_append_left:=@List.mem_append_left
def UM:type_of% @Oper.upon_value:=@Oper.upon_value
def UN:type_of% @Nat.max_eq_left:=@Nat.max_eq_left
def UO:type_of% @run_program:=@run_program
def UP:type_of% @Nat.mod_eq_of_lt:=@Nat.mod_eq_of_lt
def UQ:type_of% @wpIn_mono:=@wpIn_mono
def UR:type_of% @List.length_nil:=@List.length_nil
def US:type_of% @List.getElem?_eq_none:=@List.getElem?_eq_none
def UT:type_of% @List.nodup_append:=@List.nodup_append
def UU:type_of% @List.getElem?_of_mem:=@List.getElem?_of_mem
def UV:type_of% @Bool.or_eq_false_iff:=@Bool.or_eq_false_iff
open Go.RowKit
inductive T (α:Type) where
 |e:T α
 |n (v:Bb α) (a b c d:T α):T α
abbrev Ao:=T Av
inductive K where
 |z:K
 |a (k:K):K
 |b (k:K):K
 |c (k:K):K
 |d (k:K):K
def K.pick (p:K)(r:Nat):K:=Nat.rec (motive:=λ_=>K) (.a p) (λr _=>Nat.rec (motive:=λ_=>K) (.b p) (λr _=>Nat.rec (motive:=λ_=>K) (.c p) (λ_ _=>.d p) r) r) r
def K.ofF (f:Nat):Nat->K:=
 Nat.rec (motive:=λ_=>Nat->K) (λ_=>.z) (λ_ ih k=>Nat.rec (motive:=λ_=>K) .z (λm _=>K.pick (ih (Nat.div m 4)) (Nat.mod m 4)) k) f
def K.of (k:Nat):K:=K.ofF (k+1) k
def T.force {α β:Type}(t:T α)(f:T α->β):β:=T.rec (motive:=λ_=>β) (f .e) (λv a b c d _ _ _ _=>f (.n v a b c d)) t
def T.force_eq {α d:Type}(t:T α)(f:T α->d):t.force f=f t:=by cases t<;>rfl
def VC:type_of% @T.force_eq:=@T.force_eq
def T.top {α:Type}(t:T α):Bb α:=T.rec (motive:=λ_=>Bb α) none (λv _ _ _ _ _ _ _ _=>v) t
def T.ta {α:Type}(t:T α):T α:=T.rec (motive:=λ_=>T α) .e (λ_ a _ _ _ _ _ _ _=>a) t
def T.tb {α:Type}(t:T α):T α:=T.rec (motive:=λ_=>T α) .e (λ_ _ b _ _ _ _ _ _=>b) t
def T.tc {α:Type}(t:T α):T α:=T.rec (motive:=λ_=>T α) .e (λ_ _ _ c _ _ _ _ _=>c) t
def T.td {α:Type}(t:T α):T α:=T.rec (motive:=λ_=>T α) .e (λ_ _ _ _ d _ _ _ _=>d) t
def T.getK {α:Type}(p:K):T α->Bb α:=
 K.rec (motive:=λ_=>T α->Bb α) (λt=>t.top) (λ_ ih t=>ih t.ta) (λ_ ih t=>ih t.tb) (λ_ ih t=>ih t.tc) (λ_ ih t=>ih t.td) p
def T.get {α:Type}(t:T α)(k:Nat):Bb α:=T.getK (K.of k) t
def T.putz {α:Type}(x:Bb α)(t:T α):T α:=T.rec (motive:=λ_=>T α) (.n x .e .e .e .e) (λ_ a b c d _ _ _ _=>.n x a b c d) t
def T.puta {α:Type}(ih:Bb α->T α->T α)(x:Bb α)(t:T α):T α:=
 T.rec (motive:=λ_=>T α) ((ih x .e).force λs=>.n none s .e .e .e) (λv a b c d _ _ _ _=>(ih x a).force λs=>.n v s b c d) t
def T.putb {α:Type}(ih:Bb α->T α->T α)(x:Bb α)(t:T α):T α:=
 T.rec (motive:=λ_=>T α) ((ih x .e).force λs=>.n none .e s .e .e) (λv a b c d _ _ _ _=>(ih x b).force λs=>.n v a s c d) t
def T.putc {α:Type}(ih:Bb α->T α->T α)(x:Bb α)(t:T α):T α:=
 T.rec (motive:=λ_=>T α) ((ih x .e).force λs=>.n none .e .e s .e) (λv a b c d _ _ _ _=>(ih x c).force λs=>.n v a b s d) t
def T.putd {α:Type}(ih:Bb α->T α->T α)(x:Bb α)(t:T α):T α:=
 T.rec (motive:=λ_=>T α) ((ih x .e).force λs=>.n none .e .e .e s) (λv a b c d _ _ _ _=>(ih x d).force λs=>.n v a b c s) t
def T.setK {α:Type}(p:K):Bb α->T α->T α:=
 K.rec (motive:=λ_=>Bb α->T α->T α) T.putz (λ_ ih=>T.puta ih) (λ_ ih=>T.putb ih) (λ_ ih=>T.putc ih) (λ_ ih=>T.putd ih) p
def T.set {α:Type}(t:T α)(k:Nat)(x:Bb α):T α:=T.setK (K.of k) x t
def z4 {a b:Nat}(h:a≠b):Nat.beq a b=false:=by cases e:Nat.beq a b;rfl;exact absurd (SY e) h
def u7 {a b:Nat}(h:a=b):Nat.beq a b=true:=by subst h;exact Nat.beq_refl _
def T.getK_e {α:Type}:∀p:K,T.getK p (.e:T α)=none
 | .z=>rfl| .a p=>T.getK_e p| .b p=>T.getK_e p| .c p=>T.getK_e p| .d p=>T.getK_e p
def T.get_e {α:Type}(k:Nat):(T.e:T α).get k=none:=T.getK_e _
def VE:type_of% @T.get_e:=@T.get_e
theorem T.getK_setK {α:Type}(x:Bb α):∀(p:K) (t:T α) (q:K),(p=q->T.getK q (T.setK p x t)=x)/\(p≠q->T.getK q (T.setK p x t)=T.getK q t):=by
 intro p;induction p with
 |z=>
  intro t q;refine⟨λh=>by subst h;cases t<;>rfl,λh=>?_⟩;cases q with
  |z=>grind|_=>cases t<;>rfl
 |a p f=>
  intro t q;have e:T.setK (.a p) x t=T.n t.top (T.setK p x t.ta) t.tb t.tc t.td:=by
   cases t with
   |e=>exact VC (T.setK p x .e) (λs=>T.n none s .e .e .e)|n v a b c d=>exact VC (T.setK p x a) (λs=>T.n v s b c d)
  rw[e];cases q with
  |a q=>exact⟨λh=>(f t.ta q).1 (by grind),λh=>(f t.ta q).2 (λh'=>h (by grind))⟩|_=>exact⟨λh=>(by grind),λ_=>rfl⟩
 |b p f=>
  intro t q;have e:T.setK (.b p) x t=T.n t.top t.ta (T.setK p x t.tb) t.tc t.td:=by
   cases t with
   |e=>exact VC (T.setK p x .e) (λs=>T.n none .e s .e .e)|n v a b c d=>exact VC (T.setK p x b) (λs=>T.n v a s c d)
  rw[e];cases q with
  |b q=>exact⟨λh=>(f t.tb q).1 (by grind),λh=>(f t.tb q).2 (λh'=>h (by grind))⟩|_=>exact⟨λh=>(by grind),λ_=>rfl⟩
 |c p f=>
  intro t q;have e:T.setK (.c p) x t=T.n t.top t.ta t.tb (T.setK p x t.tc) t.td:=by
   cases t with
   |e=>exact VC (T.setK p x .e) (λs=>T.n none .e .e s .e)|n v a b c d=>exact VC (T.setK p x c) (λs=>T.n v a b s d)
  rw[e];cases q with
  |c q=>exact⟨λh=>(f t.tc q).1 (by grind),λh=>(f t.tc q).2 (λh'=>h (by grind))⟩|_=>exact⟨λh=>(by grind),λ_=>rfl⟩
 |d p f=>
  intro t q;have e:T.setK (.d p) x t=T.n t.top t.ta t.tb t.tc (T.setK p x t.td):=by
   cases t with
   |e=>exact VC (T.setK p x .e) (λs=>T.n none .e .e .e s)|n v a b c d=>exact VC (T.setK p x d) (λs=>T.n v a b c s)
  rw[e];cases q with
  |d q=>exact⟨λh=>(f t.td q).1 (by grind),λh=>(f t.td q).2 (λh'=>h (by grind))⟩|_=>exact⟨λh=>(by grind),λ_=>rfl⟩
def K.pick_eq (p:K)(r:Nat):K.pick p r=if r=0 then .a p else if r=1 then .b p else if r=2 then .c p else .d p:=by
 match r with
 |0=>rfl|1=>rfl|2=>rfl|r+3=>rfl
theorem K.pick_inj {p q:K}{r s:Nat}(hr:r<4)(hs:s<4)(h:K.pick p r=K.pick q s):p=q/\r=s:=by rw[K.pick_eq,K.pick_eq]at h;grind
theorem K.ofF_inj :∀(f g j k:Nat),j<f->k<g->K.ofF f j=K.ofF g k->j=k:=by
 intro f;induction f with
 |zero=>omega|succ f l=>
  intro g j k hj hk h;cases g with
  |zero=>omega|succ g=>
   have d:∀(p:K) (r:Nat),K.pick p r≠ .z:=by intro p r;rw[K.pick_eq];grind
   cases j with
   |zero=>
    cases k with
    |zero=>rfl|succ k=>exact absurd h.symm (d _ _)
   |succ j=>
    cases k with
    |zero=>exact absurd h (d _ _)|succ k=>have h':=h;obtain⟨h1,h2⟩:=K.pick_inj (Nat.mod_lt _ (by omega)) (Nat.mod_lt _ (by omega)) h';have:=l g (j/4) (k/4) (by omega) (by omega) h1;omega
def T.get_set {α:Type}(t:T α)(k:Nat)(x:Bb α)(j:Nat):(t.set k x).get j=if j=k then x else t.get j:=by obtain⟨h1,h2⟩:=T.getK_setK x (K.of k) t (K.of j);by_cases h:j=k;subst h;rw[Tp rfl];exact h1 rfl;rw[Tn h];exact h2 (λe=>h (K.ofF_inj _ _ _ _ (by omega) (by omega) e).symm)
def VF:type_of% @T.get_set:=@T.get_set
structure Pl where
 blk:Nat
 dl:Nat
 siz:Nat
 esz:Nat
structure Sg where
 f:Nat->Nat->Bb Pl
abbrev Sg.z (σ:Sg)(i:Nat):Bb Pl:=σ.f i 0
instance : CoeFun Sg (λ_=>Nat->Bb Pl):=⟨Sg.z⟩
def Sg.le (σ σ':Sg):Prop:=∀(i:Nat) (p:Pl) {r:Nat},σ.f i r=some p->σ'.f i r=some p
def Sg.le_refl (σ:Sg):Sg.le σ σ:=λ_ _ {_} h=>h
def Sg.le_trans {a b c:Sg}(h:Sg.le a b)(k:Sg.le b c):Sg.le a c:=λi p {_} e=>k i p (h i p e)
structure Sg.gr (n n':Nat)(σ σ':Sg):Prop where
 le:Sg.le σ σ'
 low:∀i,i<n->σ' i=σ i
 nx:n<=n'
def Sg.gr_refl (n:Nat)(σ:Sg):Sg.gr n n σ σ:=⟨Sg.le_refl σ,λ_ _=>rfl,Tq n⟩
def Vz:type_of% @Sg.gr_refl:=@Sg.gr_refl
variable {n:Nat}
def Sg.gr_trans {d f:Nat}{a b c:Sg}(h:Sg.gr n d a b)(k:Sg.gr d f b c):Sg.gr n f a c:=
 ⟨Sg.le_trans h.le k.le,λi hi=>(k.low i (by have:=h.nx;omega)).trans (h.low i hi),Ub h.nx k.nx⟩
def VA:type_of% @Sg.gr_trans:=@Sg.gr_trans
def unk :Nat:=9223372036854775808
def O8 (c:Nat):Nat:=c/unk-1
def E7 (c:Nat):Nat:=c % unk
def d8 (lo hi:Nat):Nat:=unk*(lo+1)+hi
def H6 {lo hi:Nat}(h:hi<unk):O8 (d8 lo hi)=lo:=by unfold O8 d8;unfold unk at*;omega
def G3 {lo hi:Nat}(h:hi<unk):E7 (d8 lo hi)=hi:=by unfold E7 d8;unfold unk at*;omega
def q0 (lo hi:Nat):unk<=d8 lo hi:=by unfold d8 unk;omega
def Sr :E7 unk=0:=by decide
def F6 :0<unk:=by decide
def DC :FloatKind->Nat->IntKind
 | .f32,0=>.u32| .f32,1=>.u64| .f32,_=>.u8| .f64,_=>.i64
def Z0 (f:FloatKind)(lo:Nat):IntKind:=DC f (lo/18446744073709551616)
def gD (lo:Nat):Nat:=lo % 18446744073709551616
def BL (lo:Nat):gD lo<=lo:=Nat.mod_le _ _
inductive VR (σ:Sg):Av->Av->Prop
 |bool (b:Bool):VR σ (.bool b) (.bool b)
 |int (k:IntKind) (n:Int):VR σ (.int k n) (.int k n)
 |float (k:FloatKind) (n:Nat):VR σ (.float k n) (.float k n)
 |ival (f:FloatKind) (lo hi n:Nat) (h1:gD lo<=n) (h2:hi=0\/n<hi):VR σ (.complex f lo hi) (.int (Z0 f lo) n)
 |string (s:ByteArray):VR σ (.string s) (.string s)
 |nilp:VR σ (.pointer none) (.pointer none)
 |ptr (i o:Nat) (p:Pl) (h:σ i=some p):VR σ (.pointer (some ⟨i,o,none⟩)) (.pointer (some ⟨p.blk,p.dl+o,none⟩))
 |rptr (k o:Nat) (p:Pl) (h:σ.f 0 (k+1)=some p):VR σ (.pointer (some ⟨k,o,some 1⟩)) (.pointer (some ⟨p.blk,o,none⟩))
 |nils (l c:Nat):VR σ (.slice none l c) (.slice none l c)
 | slice (i o : Nat) (p : Pl) (l c c' : Nat) (h : σ i = some p) (hc : (c = c' ∧ c < unk) ∨ (unk ≤ c ∧ O8 c ≤ c' ∧ (E7 c = 0 ∨ c' < E7 c) ∧ p.dl + o + c' * p.esz ≤ p.siz)) (hl : l ≤ c') :
   VR σ (.slice (some ⟨i,o,none⟩) l c) (.slice (some ⟨p.blk,p.dl+o,none⟩) l c')
 |vague (q:Addr) (c':Nat):VR σ (.slice (some ⟨0,0,some 0⟩) 0 unk) (.slice (some q) 0 c')
 |nilm:VR σ (.map none) (.map none)
 |map (i:Nat) (p:Pl) (h:σ i=some p):VR σ (.map (some i)) (.map (some p.blk))
 | func (fn : Fn) (xs ys cs ds : Al) (h1 : xs.size = ys.size) (h2 : ∀ (i : Nat) x y, xs[i]? = some x → ys[i]? = some y → VR σ x y)
   (h3:cs.size=ds.size) (h4:∀(i:Nat) x y,cs[i]? =some x->ds[i]? =some y->VR σ x y):VR σ (.func fn xs cs) (.func fn ys ds)
 |nilf:VR σ .nilFunc .nilFunc
 |yield (i:Nat) (p:Pl) (h:σ i=some p):VR σ (.chan (some i)) (.func (.yield p.blk) #[] #[])
 |iface (t:Ax) (v u:Av) (h:VR σ v u):VR σ (.iface t v) (.iface t u)
 |nili:VR σ .nilIface .nilIface
 |agg (xs ys:Al) (h1:xs.size=ys.size) (h2:∀(i:Nat) x y,xs[i]? =some x->ys[i]? =some y->VR σ x y):VR σ (.agg xs) (.agg ys)
 |tuple (xs ys:Al) (h1:xs.size=ys.size) (h2:∀(i:Nat) x y,xs[i]? =some x->ys[i]? =some y->VR σ x y):VR σ (.tuple xs) (.tuple ys)
variable {σ σ':Sg}
def VR.mono (hs:Sg.le σ σ'){a b:Av}(h:VR σ a b):VR σ' a b:=by
 induction h with
 |bool b=>exact .bool b|int k n=>exact .int k n|float k n=>exact .float k n|ival f lo hi n h1 h2=>exact .ival f lo hi n h1 h2|string s=>exact .string s|nilp=>exact .nilp|ptr i o p h=>exact .ptr i o p (hs _ _ h)|rptr k o p h=>exact .rptr k o p (hs _ _ h)|nils l c=>exact .nils l c|slice i o p l c c' h hc hl=>exact .slice i o p l c c' (hs _ _ h) hc hl|vague q c'=>exact .vague q c'|nilm=>exact .nilm|map i p h=>exact .map i p (hs _ _ h)|func fn xs ys cs ds h1 _ h3 _ g j=>exact .func fn xs ys cs ds h1 g h3 j|nilf=>exact .nilf|yield i p h=>exact .yield i p (hs _ _ h)|iface t v u _ d=>exact .iface t v u d|nili=>exact .nili|agg xs ys h1 _ d=>exact .agg xs ys h1 d|tuple xs ys h1 _ d=>exact .tuple xs ys h1 d
def VR.undef (σ:Sg):VR σ undef undef:= .tuple _ _ rfl (λi x y h _=>by simp at h)
def VRL (σ:Sg)(xs ys:Af):Prop:=xs.length=ys.length/\ ∀(i:Nat) x y,xs[i]? =some x->ys[i]? =some y->VR σ x y
def VRL.nil (σ:Sg):VRL σ [] []:=⟨rfl,λi x y h _=>by simp at h⟩
def VP:type_of% @VRL.nil:=@VRL.nil
variable {x:Av}{xs ys:Af}
theorem VRL.cons {y:Av}(h:VR σ x y)(hs:VRL σ xs ys):VRL σ (x::xs) (y::ys):=by
 refine⟨by simp[hs.1],λi a b d hb=>?_⟩;cases i with
 |zero=>grind|succ i=>exact hs.2 i a b d hb
def VO:type_of% @VRL.cons:=@VRL.cons
theorem VRL.uncons (h:VRL σ (x::xs) ys):∃y d,ys=y::d/\VR σ x y/\VRL σ xs d:=by
 cases ys with
 |nil=>exact absurd h.1 (by simp)|cons y ys=>exact⟨y,ys,rfl,h.2 0 x y rfl rfl,by have:=h.1;simpa using this,λi a b f hb=>h.2 (i+1) a b (by grind) (by grind)⟩
def VRL.unnil (h:VRL σ [] ys):ys=[]:=SZ h.1.symm
variable {a:Af}
def VRL.mono (hs:Sg.le σ σ'){b:Af}(h:VRL σ a b):VRL σ' a b:=⟨h.1,λi x y hx hy=>(h.2 i x y hx hy).mono hs⟩
def VRL.append {b c d:Af}(h:VRL σ a b)(k:VRL σ c d):VRL σ (a++c) (b++d):=by
 induction a generalizing b with
 |nil=>rw[h.unnil];exact k|cons x a f=>obtain⟨y,b',rfl,h1,h2⟩:=h.uncons;exact VO h1 (f h2)
variable {i:Nat}
theorem VRL.get {b:Af}(h:VRL σ a b)(hx:a[i]? =some x):∃y,b[i]? =some y/\VR σ x y:=by
 have hi:=(SW.1 hx).1;have hb:i<b.length:=by rw[<-h.1];exact hi
 exact⟨b[i],by grind,h.2 i x _ hx (by simp)⟩
variable {v:Av}
theorem VRL.of_agg {a:Al}(h:VR σ (.agg a) v):∃b,v= .agg b/\VRL σ a.toList b.toList:=by
 cases h with
 |agg _ ys h1 h2=>exact⟨ys,rfl,by omega,λi x y hx hy=>h2 i x y (by grind) (by grind)⟩
def VQ:type_of% @VRL.of_agg:=@VRL.of_agg
theorem VRL.to_agg {b:Af}(h:VRL σ a b):VR σ (.agg a.toArray) (.agg b.toArray):=
 .agg _ _ (by simpa using h.1) (λi x y hx hy=>h.2 i x y (by grind) (by grind))
theorem VRL.of_tuple {a:Al}(h:VR σ (.tuple a) v):∃b,v= .tuple b/\VRL σ a.toList b.toList:=by
 cases h with
 |tuple _ ys h1 h2=>exact⟨ys,rfl,by omega,λi x y hx hy=>h2 i x y (by grind) (by grind)⟩
theorem VRL.to_tuple {b:Af}(h:VRL σ a b):VR σ (.tuple a.toArray) (.tuple b.toArray):=
 .tuple _ _ (by simpa using h.1) (λi x y hx hy=>h.2 i x y (by grind) (by grind))
variable {u:Av}
def VR.cells (h:VR σ v u):VRL σ v.cells.toList u.cells.toList:=by
 cases h with
 |agg xs ys h1 h2=>exact⟨by simpa [Value.cells]using h1,λi x y hx hy=>h2 i x y (by simpa [Value.cells]using hx) (by simpa [Value.cells]using hy)⟩|bool b=>exact VO (.bool b) (VP σ)|int k n=>exact VO (.int k n) (VP σ)|float k n=>exact VO (.float k n) (VP σ)|ival f lo hi n h1 h2=>exact VO (.ival f lo hi n h1 h2) (VP σ)|string s=>exact VO (.string s) (VP σ)|nilp=>exact VO .nilp (VP σ)|ptr i o p h=>exact VO (.ptr i o p h) (VP σ)|rptr k o p h=>exact VO (.rptr k o p h) (VP σ)|nils l c=>exact VO (.nils l c) (VP σ)|slice i o p l c c' h hc hl=>exact VO (.slice i o p l c c' h hc hl) (VP σ)|vague q c'=>exact VO (.vague q c') (VP σ)|nilm=>exact VO .nilm (VP σ)|map i p h=>exact VO (.map i p h) (VP σ)|func fn xs ys cs ds h1 h2 h3 h4=>exact VO (.func fn xs ys cs ds h1 h2 h3 h4) (VP σ)|nilf=>exact VO .nilf (VP σ)|yield i p h=>exact VO (.yield i p h) (VP σ)|iface t v u h=>exact VO (.iface t v u h) (VP σ)|nili=>exact VO .nili (VP σ)|tuple xs ys h1 h2=>exact VO (.tuple xs ys h1 h2) (VP σ)
def VR.oneCell (h:VR σ v u)(hv:v.oneCell'=true):u.oneCell'=true:=by cases h<;>first|rfl| (simp[Value.oneCell']at hv)
inductive Blk where
 |cells (c:Ao) (n:Nat) (elem esz:Nat)
 |ro (c:Ao) (n:Nat) (elem esz:Nat)
 |sit (s:ByteArray) (pos:Nat)
 |map (es:List (Av×Av)) (reg:Bool)
 |loop (st:LoopState) (pend:Bb Code) (nt:Nat) (tms:Ao) (params:Array Tmp) (assign body:Code) (db:Nat)
 |dfr
 |reg (c:Ao) (n elem esz:Nat)
abbrev Ac:=Nat ->Bb Blk
structure Hp where
 m:T Blk
 nx:Nat
def BR (σ:Sg)(p:Pl):Blk->Obj->Prop
 | .cells c n e z,o=>∃C,o= .cells C e (0,0)/\p.esz=z/\C.size=p.siz/\p.dl+n<=p.siz/\ ∀j,j<n-> ∃v u,c.get j=some v/\C[p.dl+j]? =some u/\VR σ v u| .ro c n e z,o=>∃C f,o= .cells C e f/\p.esz=z/\C.size=p.siz/\p.dl+n<=p.siz/\ ∀j v,j<n->c.get j=some v-> ∃u,C[p.dl+j]? =some u/\VR σ v u| .sit s pos,o=>o= .stringIter s pos/\p.dl=0| .dfr,o=>o= .deferred (some [])| .reg _ _ _ _,_=>False
 | .loop st pend nt tms params assign body db, o => ∃ r, o = .loop r ∧ r.state = st ∧ r.pending = pend ∧ r.params = params ∧ r.assign = assign ∧ r.body = body ∧
   (r.tmps.size=nt/\ ∀k,VR σ ((tms.get k).getD undef) (r.tmps.getD k undef))/\ ∃q,σ db=some q/\q.blk=r.defers
 | .map es reg, o => ∃ ents clock, o = .map ents clock ∧ ents.size = es.length ∧ (∀ (j : Nat) x e, es[j]? = some x → ents[j]? = some e → VR σ x.1 e.key ∧ VR σ x.2 e.val) ∧
   (reg=true->clock=ents.size/\ ∀(j:Nat) e,ents[j]? =some e->e.born=j)
variable {p:Pl}{b:Blk}{o:Obj}
def BR.mono (hs:Sg.le σ σ')(h:BR σ p b o):BR σ' p b o:=by
 cases b with
 |cells c n e z=>obtain⟨C,h1,h2,h3,h4,l⟩:=h;exact⟨C,h1,h2,h3,h4,λj hj=>let⟨v,u,a,b,c⟩:=l j hj;⟨v,u,a,b,c.mono hs⟩⟩
 |ro c n e z=>obtain⟨C,f,h1,h2,h3,h4,l⟩:=h;exact⟨C,f,h1,h2,h3,h4,λj v hj hv=>let⟨u,b,c⟩:=l j v hj hv;⟨u,b,c.mono hs⟩⟩
 |sit s pos=>exact h|dfr=>exact h|reg c n e z=>exact h|loop st pend nt tms params assign body db=>obtain⟨r,h1,h2,h3,h4,l,t,⟨A,D⟩,q,E,m⟩:=h;exact⟨r,h1,h2,h3,h4,l,t,⟨A,λk=>(D k).mono hs⟩,q,hs _ _ E,m⟩
 |map es reg=>obtain⟨g,d,h1,h2,h3,h4⟩:=h;exact⟨g,d,h1,h2,λj x e hx he=>⟨(h3 j x e hx he).1.mono hs,(h3 j x e hx he).2.mono hs⟩,h4⟩
structure BS where
 B:Nat->Prop
 D:Nat->Prop
 sub:∀k,D k->B k
instance : CoeFun BS (λ_=>Nat->Prop):=⟨BS.B⟩
def BS.below (w:Bc):BS:=⟨(· <w.heap.size),λ_=>False,λ_ h=>h.elim⟩
def NB (B:BS)(k:Nat):Blk->Prop
 | .ro _ _ _ _=>B.D k|_=>¬B k
def dM :Blk->Bool
 | .ro _ _ _ _=>true|_=>false
variable {B:BS}{k:Nat}
def NB.no (h:NB B k b)(hb:dM b=false):¬B k:=by cases b<;>first|exact h| (cases hb)
def NB.yes (h:NB B k b)(hb:dM b=true):B.D k:=by cases b<;>first|exact h| (cases hb)
def NB.of (h:¬B k)(hb:dM b=false):NB B k b:=by cases b<;>first|exact h| (cases hb)
def NB.to {B':BS}(h:NB B k b)(h1:B.D k->B'.D k)(h2:¬B k-> ¬B' k):NB B' k b:=by cases b<;>first|exact h1 h|exact h2 h
def NB.like {b':Blk}(h:NB B k b)(hb:dM b=false)(d:dM b'=false):NB B k b':= .of (h.no hb) d
def rdC :Blk->Bb (Ao×Nat×Nat)
 | .cells c n _ z=>some (c,n,z)| .ro c n _ z=>some (c,n,z)|_=>none
def kS :Blk->Bool
 | .reg _ _ _ _=>true|_=>false
def Ix :Blk->Nat->Prop
 | .reg _ n _ _,r=>1<=r/\r<=n|_,r=>r=0
def BX (σ:Sg)(p:Pl)(r:Nat):Blk->Obj->Prop
 | .reg c _ e z,o=>∃C,o= .cells C e (0,0)/\C.size=z/\ ∀j,j<z-> ∃v u,c.get ((r-1)*z+j)=some v/\C[j]? =some u/\VR σ v u|b,o=>BR σ p b o
variable {r:Nat}
def Ix.of (h:kS b=false):Ix b r↔r=0:=by cases b<;>first|exact Iff.rfl|cases h
def Vf:type_of% @Ix.of:=@Ix.of
def BX.of (h:kS b=false):BX σ p r b o↔BR σ p b o:=by cases b<;>first|exact Iff.rfl|cases h
def BX.mono (hs:Sg.le σ σ')(h:BX σ p r b o):BX σ' p r b o:=by
 cases hb:kS b with
 |false=>exact(BX.of hb).2 (((BX.of hb).1 h).mono hs)|true=>
  cases b with
  |reg c n e z=>obtain⟨C,h1,h2,h3⟩:=h;exact⟨C,h1,h2,λj hj=>let⟨v,u,a,b,c⟩:=h3 j hj;⟨v,u,a,b,c.mono hs⟩⟩
  |_=>cases hb
structure HR (B:BS)(w0:Bc)(σ:Sg)(hp:Hp)(w:Bc):Prop where
 os:w.os=w0.os
 tape:w.tape=w0.tape
 output:w.output=w0.output
 size:w0.heap.size<=w.heap.size
 old:∀k,B k->k<w0.heap.size
 kept:∀k,B k->w.heap[k]? =w0.heap[k]?
 frs:∀i r,hp.nx<=i->σ.f i r=none
 liv:∀i b r,hp.m.get i=some b->Ix b r-> ∃p o,σ.f i r=some p/\NB B p.blk b/\w.heap[p.blk]? =some o/\BX σ p r b o
 ij:∀i j b b' r s p q,hp.m.get i=some b->hp.m.get j=some b'->Ix b r->Ix b' s->i≠j\/r≠s->σ.f i r=some p->σ.f j s=some q->p.blk≠q.blk
 rz:∀i b,hp.m.get i=some b->kS b=true->(∃p,σ i=some p)/\ ∀r,r≠0-> ¬Ix b r->σ.f i r=none
variable {w w0:Bc}{hp:Hp}
def HR.fresh (h:HR B w0 σ hp w)(i:Nat)(hi:hp.nx<=i):σ i=none:=h.frs i 0 hi
def HR.live (h:HR B w0 σ hp w)(i:Nat)(b:Blk)(hg:hp.m.get i=some b)(hb:kS b=false:=by rfl):∃p o,σ i=some p/\NB B p.blk b/\w.heap[p.blk]? =some o/\BR σ p b o:=by obtain⟨p,o,h1,h2,h3,h4⟩:=h.liv i b 0 hg ((Vf hb).2 rfl);exact⟨p,o,h1,h2,h3,(BX.of hb).1 h4⟩
def HR.inj (h:HR B w0 σ hp w)(i j:Nat)(b b':Blk)(p q:Pl)(hi:hp.m.get i=some b)(hj:hp.m.get j=some b')(f:i≠j)(hp':σ i=some p)(hq:σ j=some q)(hb:kS b=false:=by rfl)(d:kS b'=false:=by rfl):p.blk≠q.blk:=h.ij i j b b' 0 0 p q hi hj ((Vf hb).2 rfl) ((Vf d).2 rfl) (.inl f) hp' hq
variable {c:Ao}
def HR.liveC (h:HR B w0 σ hp w){e z:Nat}(hg:hp.m.get i=some (.cells c n e z)):∃p C,σ i=some p/\p.esz=z/\ ¬B p.blk/\w.heap[p.blk]? =some (.cells C e (0,0))/\C.size=p.siz/\p.dl+n<=p.siz/\ ∀j,j<n-> ∃v u,c.get j=some v/\C[p.dl+j]? =some u/\VR σ v u:=by obtain⟨p,o,h1,h2,h3,C,rfl,d,f,g,l⟩:=h.live i _ hg;exact⟨p,C,h1,d,h2,h3,f,g,l⟩
theorem HR.liveR (h:HR B w0 σ hp w){z:Nat}(hg:hp.m.get i=some b)(hr:rdC b=some (c,n,z)):∃p C e f,σ i=some p/\p.esz=z/\w.heap[p.blk]? =some (.cells C e f)/\C.size=p.siz/\p.dl+n<=p.siz/\ ∀j v,j<n->c.get j=some v-> ∃u,C[p.dl+j]? =some u/\VR σ v u:=by
 cases b with
 |cells c' n' e l=>cases hr;obtain⟨p,C,h1,h2,_,h3,h4,d,g⟩:=h.liveC hg;grind
 |ro c' n' e l=>cases hr;obtain⟨p,o,h1,h2,h3,C,f,rfl,d,g,q,s⟩:=h.live i _ hg;grind
 |_=>cases hr
def HR.drew (h:HR B w0 σ hp w):HR B w0 σ hp w.drew:=
 ⟨h.os,h.tape,h.output,h.size,h.old,h.kept,h.frs,h.liv,h.ij,h.rz⟩
def fill (c:Ao):Nat->Af->Ao
 |_,[]=>c|k,v::vs=>fill (c.set k (some v)) (k+1) vs
theorem j6 :∀(vs:Af) (c:Ao) (k j:Nat),(fill c k vs).get j=if k<=j/\j<k+vs.length then vs[j-k]? else c.get j:=by
 intro vs;induction vs with
 |nil=>intro c k j;simp only[fill,UR,Uj];rw[Tn (by omega)]
 |cons v vs d=>intro c k j;simp only[fill,d,VF,TM];grind
def j7 (c:Ao):Nat->Nat->Bb (Af)
 |_,0=>some []|o,n+1=>match c.get o with
  |some v=>match j7 c (o+1) n with
   |some vs=>some (v::vs)|none=>none
  |none=>none
theorem m9 :∀ {n o:Nat} {vs:Af},j7 c o n=some vs->vs.length=n/\ ∀j,j<n->vs[j]? =c.get (o+j):=by
 intro n;induction n with
 |zero=>intro o vs h;simp[j7]at h;subst h;exact(by grind)
 |succ n d=>intro o vs h;simp only[j7]at h;grind
variable {vs:Af}
theorem HR.cellsR (h:HR B w0 σ hp w){z o m:Nat}(hg:hp.m.get i=some b)(hr:rdC b=some (c,n,z))(hn:o+m<=n)(hl:j7 c o m=some vs)(hp':σ i=some p):∃us,VRL σ vs us/\us.length=m/\ ∀j u,us[j]? =some u->w.cell? ((⟨p.blk,p.dl+o,none⟩:Addr).add j)=some u:=by
 obtain⟨q,C,e,f,hq,hz,l,hs,s,hc⟩:=h.liveR hg hr;have:=Tu (hq.symm.trans hp');subst this;obtain⟨g,d⟩:=m9 hl;refine⟨(C.toList.drop (q.dl+o)).take m,⟨?_,?_⟩,?_,?_⟩;grind;grind;grind
 .intro j u t;have hj:j<m:=by grind
  rw[UH,cell_of_row w q.blk _ C e f l];grind
def HR.cells (h:HR B w0 σ hp w){e z o m:Nat}(hg:hp.m.get i=some (.cells c n e z))(hn:o+m<=n)(hl:j7 c o m=some vs)(hp':σ i=some p):∃us,VRL σ vs us/\us.length=m/\ ∀j u,us[j]? =some u->w.cell? ((⟨p.blk,p.dl+o,none⟩:Addr).add j)=some u:=h.cellsR hg rfl hn hl hp'
end Go.Xe
namespace Go.Xe
open Go.RowKit
section
variable {B :BS}{w0:Bc}{σ:Sg}{hp:Hp}{w:Bc}
def Sg.ext (σ:Sg)(i:Nat)(p:Pl):Sg:=⟨λj r=>if j=i/\r=0 then some p else σ.f j r⟩
def Sg.ext_same0 (σ:Sg)(i:Nat)(p:Pl):(σ.ext i p).f i 0=some p:=by simp[Sg.ext]
def Sg.ext_same (σ:Sg)(i:Nat)(p:Pl):σ.ext i p i=some p:=Sg.ext_same0 σ i p
def Vy:type_of% @Sg.ext_same:=@Sg.ext_same
def Sg.ext_row (σ:Sg)(i:Nat)(p:Pl){j r:Nat}(h:j≠i\/r≠0):(σ.ext i p).f j r=σ.f j r:=by unfold Sg.ext;simp only;rw[Tn (by omega)]
def Vx:type_of% @Sg.ext_row:=@Sg.ext_row
def Sg.ext_other (σ:Sg)(i:Nat)(p:Pl){j:Nat}(h:j≠i):σ.ext i p j=σ j:=Vx σ i p (.inl h)
def Vw:type_of% @Sg.ext_other:=@Sg.ext_other
variable {i:Nat}
def Sg.le_ext {σ:Sg}(p:Pl)(h:σ i=none):Sg.le σ (σ.ext i p):=by
 intro j q r hq;have d:j≠i\/r≠0:=by by_cases e:j=i/\r=0;obtain⟨rfl,rfl⟩:=e;have h:σ.f j 0=none:=h;rw[h]at hq;cases hq;omega
 rw[Vx _ _ _ d];exact hq
def VB:type_of% @Sg.le_ext:=@Sg.le_ext
theorem HR.allocO (h:HR B w0 σ hp w)(f nx:Nat)(C:σ f=none)(K:hp.nx<=nx)(hlt:f<nx)(b:Blk)(o:Obj)(p:Pl)(hp0:p.blk=w.heap.size)(hb:BR (σ.ext f p) p b o)(F:dM b=false:=by rfl)(d:kS b=false:=by rfl):HR B w0 (σ.ext f p) ⟨hp.m.set f (some b),nx⟩ (w.alloc o):=by have D:=VB (σ:=σ) (i:=f) p C;refine⟨h.os,h.tape,h.output,by simp;have:=h.size;omega,h.old,λk hk=>by rw[Below.heap_alloc _ _ _ (by have:=h.old k hk;have:=h.size;omega)];exact h.kept k hk,?_,?_,?_,λi b' hg A=>?_⟩;intro i r hi;have J:nx<=i:=hi;rw[Vx _ _ _ (.inl (by omega))];exact h.frs i r (by omega);intro i b' r hg hx;simp only[VF]at hg;by_cases hi:i=f;rw[Tp hi]at hg;simp only[SQ]at hg;subst hg;subst hi;have:=(Vf d).1 hx;subst this;refine⟨p,o,Vy _ _ _,.of (λI=>by have h1:=h.old _ I;have h2:=h.size;omega) F,?_,(BX.of d).2 hb⟩;rw[hp0];show(w.heap.push _)[w.heap.size]? =_;simp;rw[Tn hi]at hg;obtain⟨q,o',h1,h2,h3,h4⟩:=h.liv i b' r hg hx;refine⟨q,o',by rw[Vx _ _ _ (.inl hi)];exact h1,h2,?_,h4.mono D⟩;rw[Below.heap_alloc _ _ _ (Ti.1 h3).1];exact h3;intro i j G H r s q q' hi hj hx hy E t g;simp only[VF]at hi hj;by_cases z:i=f;rw[Tp z]at hi;cases hi;have e0:=(Vf d).1 hx;subst e0;rw[z,Sg.ext_same0]at t;by_cases l:j=f;rw[Tp l]at hj;cases hj;have:=(Vf d).1 hy;omega;rw[Tn l]at hj;rw[Vx _ _ _ (.inl l)]at g;obtain⟨L,o',h1,_,h3,_⟩:=h.liv j H s hj hy;grind;rw[Tn z]at hi;rw[Vx _ _ _ (.inl z)]at t;by_cases l:j=f;rw[Tp l]at hj;cases hj;have e0:=(Vf d).1 hy;subst e0;rw[l,Sg.ext_same0]at g;obtain⟨p',o',h1,_,h3,_⟩:=h.liv i G r hi hx;grind;rw[Tn l]at hj;rw[Vx _ _ _ (.inl l)]at g;exact h.ij i j _ _ r s q q' hi hj hx hy E t g;simp only[VF]at hg;by_cases hi:i=f;grind;rw[Tn hi]at hg;obtain⟨⟨q,hq⟩,hr⟩:=h.rz i b' hg A;exact⟨⟨q,by rw[Vw _ _ _ hi];exact hq⟩,λr h0 hx=>by rw[Vx _ _ _ (.inl hi)];exact hr r h0 hx⟩
theorem HR.allocAt (h:HR B w0 σ hp w)(f nx:Nat)(d:σ f=none)(g:hp.nx<=nx)(hlt:f<nx)(c:Ao)(n e z:Nat)(us:Al)(hn:n<=us.size)(hc:∀j,j<n-> ∃v u,c.get j=some v/\us[j]? =some u/\VR σ v u):HR B w0 (σ.ext f ⟨w.heap.size,0,us.size,z⟩) ⟨hp.m.set f (some (.cells c n e z)),nx⟩ (w.alloc (.cells us e)):=by refine h.allocO f nx d g hlt _ _ _ rfl ⟨us,rfl,rfl,rfl,by grind,λj hj=>?_⟩;obtain⟨v,u,h1,h2,h3⟩:=hc j hj;exact⟨v,u,h1,by grind,h3.mono (VB _ d)⟩
def HR.alloc (h:HR B w0 σ hp w)(c:Ao)(n e z:Nat)(us:Al)(hn:n<=us.size)(hc:∀j,j<n-> ∃v u,c.get j=some v/\us[j]? =some u/\VR σ v u):HR B w0 (σ.ext hp.nx ⟨w.heap.size,0,us.size,z⟩) ⟨hp.m.set hp.nx (some (.cells c n e z)),hp.nx+1⟩ (w.alloc (.cells us e)):=
 h.allocAt hp.nx (hp.nx+1) (h.fresh _ (Tq _)) (Ur _) (Ue _) c n e z us hn hc
variable {p:Pl}
theorem HR.turn (h:HR B w0 σ hp w){b b':Blk}(hg:hp.m.get i=some b)(L:σ i=some p){o:Obj}{w':Bc}(hh:w'.heap[p.blk]? =some o)(hk:∀k,k≠p.blk->w'.heap[k]? =w.heap[k]?)(hs:w'.heap.size=w.heap.size)(h1:w'.os=w.os)(h2:w'.tape=w.tape)(h3:w'.output=w.output)(hb:BR σ p b' o)(O:dM b=false:=by rfl)(D:dM b'=false:=by rfl)(g:kS b=false:=by rfl)(f:kS b'=false:=by rfl):HR B w0 σ {hp with m:=hp.m.set i (some b')} w':=by
 obtain⟨p',o',F,G,Z,g5⟩:=h.live i b hg g;have U:=G.no O;have:p'=p:=Tu (F.symm.trans L);subst this;refine⟨h1.trans h.os,h2.trans h.tape,h3.trans h.output,by rw[hs];exact h.size,h.old,λk C=>?_,h.frs,?_,?_,λj z hj I=>?_⟩;rw[hk k (λe=>U (by rw[<-e];exact C))];exact h.kept k C;intro j z r hj hx;simp only[VF]at hj;by_cases d:j=i;rw[Tp d]at hj;simp only[SQ]at hj;subst hj;subst d;have:=(Vf f).1 hx;subst this;exact⟨p',o,F,.of U D,hh,(BX.of f).2 hb⟩;rw[Tn d]at hj;obtain⟨q,Y,S,V,W,X⟩:=h.liv j z r hj hx;exact⟨q,Y,S,V,by rw[hk _ (h.ij j i _ _ r 0 q p' hj hg hx ((Vf g).2 rfl) (.inl d) S F)];exact W,X⟩
 .intro a c t z r s q q' l hc hx hy K M N;simp only[VF]at l hc;have E:∀a t r,(if a=i then some b' else hp.m.get a)=some t->Ix t r-> ∃b,hp.m.get a=some b/\Ix b r:=by intro a t r l hx;by_cases A:a=i;rw[Tp A]at l;simp only[SQ]at l;subst l;subst A;exact⟨_,hg,(Vf g).2 ((Vf f).1 hx)⟩;grind
  obtain⟨_,H,Q⟩:=E a t r l hx;obtain⟨_,J,R⟩:=E c z s hc hy;exact h.ij a c _ _ r s q q' H J Q R K M N
 simp only[VF]at hj;by_cases d:j=i;grind;rw[Tn d]at hj;exact h.rz j z hj I
variable {c:Ao}
theorem HR.store (h:HR B w0 σ hp w){n e z o:Nat}(hg:hp.m.get i=some (.cells c n e z))(s:σ i=some p){vs us:Af}(hv:VRL σ vs us)(h1:∀u∈us,u.oneCell'=true)(M:o<=n)(hs:p.dl+o+vs.length<=p.siz)(P:Aw):∃w',(storeCells ⟨p.blk,p.dl+o,none⟩ us).run P w= .ok () w'/\HR B w0 σ {hp with m:=hp.m.set i (some (.cells (fill c o vs) (max n (o+vs.length)) e z))} w'/\w'.heap.size=w.heap.size:=by
 obtain⟨p',C,t,G,K,A,H,L,I⟩:=h.liveC hg;have:p'=p:=Tu (t.symm.trans s);subst this;have hr:=run_storeCells_at P p'.blk (p'.dl+o) e us 0 C w A (by rw[<-hv.1];omega) h1;refine⟨_,hr,?_,by simp[World.setRow]⟩;have j:=setRow_heap w p'.blk C (C.toList.take (p'.dl+o)++us++C.toList.drop (p'.dl+o+us.length)).toArray e (0,0) A;have d:(C.toList.take (p'.dl+o)++us++C.toList.drop (p'.dl+o+us.length)).toArray.size=C.size:=by have:=hv.1;grind
 refine h.turn hg t j (λk hk=>setRow_other w _ k _ hk) (by simp[World.setRow]) rfl rfl rfl ⟨_,rfl,G,by rw[d];exact H,by omega,λk hk=>?_⟩;rw[j6];have hl:=hv.1;by_cases f:o<=k/\k<o+vs.length
 .rw[Tp f];have g:k-o<vs.length:=by omega
  have l:k-o<us.length:=by omega
  refine⟨vs[k-o],us[k-o],by simp[g],?_,hv.2 (k-o) _ _ (by simp[g]) (by simp[l])⟩;simp only[Th,List.getElem?_toArray];rw[Tb (by simp;omega),Tc (by simp;omega)];grind
 .rw[Tn f];have q:k<n:=by omega
  obtain⟨v,u,D,E,F⟩:=I k q;refine⟨v,u,D,?_,F⟩;simp only[Th,List.getElem?_toArray];rw[<-E];by_cases J:k<o;grind;rw[Tb (by simp;omega),Tb (by simp;omega),TI];grind
theorem HR.move (h:HR B w0 σ hp w){n e z o k:Nat}(hg:hp.m.get i=some (.cells c n e z))(d:σ i=some p)(hk:o+k<=n)(c':Ao)(hc:∀j,j<k->c'.get j=c.get (o+j)):HR B w0 (σ.ext hp.nx ⟨p.blk,p.dl+o,p.siz,p.esz⟩) ⟨(hp.m.set i none).set hp.nx (some (.cells c' k e z)),hp.nx+1⟩ w:=by
 have E:=VB (σ:=σ) (i:=hp.nx) ⟨p.blk,p.dl+o,p.siz,p.esz⟩ (h.fresh _ (Tq _));obtain⟨p',C,Y,Z,g3,g4,g5,g6,g7⟩:=h.liveC hg;have:p'=p:=Tu (Y.symm.trans d);subst this;have aa:i≠hp.nx:=by intro e;rw[e,h.fresh _ (Tq _)]at d;cases d
 refine⟨h.os,h.tape,h.output,h.size,h.old,h.kept,?_,?_,?_,λj A hj D=>?_⟩;intro j r hj;simp at hj;rw[Vx _ _ _ (.inl (by omega))];exact h.frs j r (by omega);intro j A r hj hx;simp only[VF]at hj;by_cases g:j=hp.nx;rw[Tp g]at hj;simp only[SQ]at hj;subst hj;subst g;have hr:r=0:=hx;subst hr;refine⟨_,_,Vy _ _ _,g3,g4,C,rfl,Z,g5,by show p'.dl+o+k<=p'.siz;omega,λj hj=>?_⟩;obtain⟨v,u,Q,a2,R⟩:=g7 (o+j) (by omega);refine⟨v,u,by rw[hc j hj];exact Q,?_,R.mono E⟩;grind;rw[Tn g]at hj;by_cases J:j=i;grind;rw[Tn J]at hj;obtain⟨q,oq,S,U,V,W⟩:=h.liv j A r hj hx;exact⟨q,oq,by rw[Vx _ _ _ (.inl g)];exact S,U,V,W.mono E⟩
 .intro a b t A r s q q' l hb hx hy K L M;simp only[VF]at l hb;have G:∀a t r q,(if a=hp.nx then some (Blk.cells c' k e z)else if a=i then none else hp.m.get a)=some t->Ix t r->(σ.ext hp.nx ⟨p'.blk,p'.dl+o,p'.siz,p'.esz⟩).f a r=some q->
    (a=hp.nx/\r=0/\q.blk=p'.blk)\/(a≠hp.nx/\a≠i/\hp.m.get a=some t/\σ.f a r=some q):=by
   intro a t r q l hx hq;by_cases I:a=hp.nx;rw[Tp I]at l;simp only[SQ]at l;subst l;subst I;have hr:r=0:=hx;subst hr;have hq:(σ.ext hp.nx ⟨p'.blk,p'.dl+o,p'.siz,p'.esz⟩) hp.nx=some q:=hq;rw[Vy]at hq;grind;rw[Tn I]at l;rw[Vx _ _ _ (.inl I)]at hq;grind
  have F:Ix (.cells c n e z) 0:=rfl;rcases G a t r q l hx L with⟨X,N,H⟩| ⟨X,N,H,O⟩<;>rcases G b A s q' hb hy M with⟨k1,k2,k3⟩| ⟨k1,k2,k3,k4⟩;omega;rw[H];exact h.ij i b _ _ 0 s p' q' hg k3 F hy (.inl (Ne.symm k2)) d k4;rw[k3];exact h.ij a i _ _ r 0 q p' H hg hx F (.inl N) O d;exact h.ij a b _ _ r s q q' H k3 hx hy K O k4
 simp only[VF]at hj;by_cases g:j=hp.nx;rw[Tp g,SQ]at hj;subst hj;cases D;rw[Tn g]at hj;by_cases J:j=i;grind;rw[Tn J]at hj;obtain⟨⟨q,hq⟩,hr⟩:=h.rz j A hj D;exact⟨⟨q,by rw[Vw _ _ _ g];exact hq⟩,λr h0 hx=>by rw[Vx _ _ _ (.inl g)];exact hr r h0 hx⟩
def HR.sub (h:HR B w0 σ hp w){hp2:Hp}(hn:hp.nx<=hp2.nx)(hm:∀i b,hp2.m.get i=some b->hp.m.get i=some b):HR B w0 σ hp2 w:=
 ⟨h.os,h.tape,h.output,h.size,h.old,h.kept,λi r hi=>h.frs i r (Ub hn hi),λi b r hg=>h.liv i b r (hm _ _ hg),
  λi j b b' r s p q hi hj=>h.ij i j b b' r s p q (hm _ _ hi) (hm _ _ hj),λi b hg=>h.rz i b (hm _ _ hg)⟩
end
structure TR (σ:Sg)(nt:Nat)(tm:Ao)(tmps:Al):Prop where
 size:tmps.size=nt
 at_:∀k,VR σ ((tm.get k).getD undef) (tmps.getD k undef)
variable {σ:Sg}{nt:Nat}{tm:Ao}{tmps:Al}
def TR.mono {σ':Sg}(hs:Sg.le σ σ')(h:TR σ nt tm tmps):TR σ' nt tm tmps:=
 ⟨h.size,λk=>(h.at_ k).mono hs⟩
variable {v:Av}
theorem TR.put (h:TR σ nt tm tmps){d:Nat}(f:d<nt){u:Av}(hv:VR σ v u):TR σ nt (tm.set d (some v)) (tmps.setIfInBounds d u):=by
 refine⟨by simpa using h.size,λk=>?_⟩;rw[VF];by_cases hk:k=d
 .subst hk;have:k<tmps.size:=by rw[h.size];exact f
  simp_all
 rw[Tn hk];have:=h.at_ k;simpa [Array.getElem?_setIfInBounds_ne (Ne.symm hk)]using this
def pT :Av->Bool
 | .bool _| .int _ _| .float _ _| .string _| .pointer none| .slice none _ _| .map none| .nilFunc| .nilIface=>true
 |_=>false
def cst :Av->Bool
 | .agg cs=>cs.toList.all pT| .tuple vs=>vs.toList.all pT|v=>pT v
def IL (σ:Sg)(h:pT v=true):VR σ v v:=by
 cases v with
 |bool b=>exact .bool b|int k n=>exact .int k n|float k n=>exact .float k n|string s=>exact .string s|pointer a=>cases a with
  |none=>exact .nilp|some a=>simp[pT]at h
 |slice a l c=>cases a with
  |none=>exact .nils l c|some a=>simp[pT]at h
 |map r=>cases r with
  |none=>exact .nilm|some a=>simp[pT]at h
 |nilFunc=>exact .nilf|nilIface=>exact .nili|_=>simp[pT]at h
def tA (σ:Sg):∀ {vs:Af},vs.all pT=true->VRL σ vs vs
 | [],_=>VP σ|v::vs,h=>by simp only[List.all_cons,SR]at h;exact VO (IL σ h.1) (tA σ h.2)
def dF (σ:Sg)(h:cst v=true):VR σ v v:=by
 cases v with
 |agg cs=>have:=(tA σ (h)).to_agg;simpa using this|tuple vs=>have:=(tA σ (h)).to_tuple;simpa using this|bool b=>exact .bool b|int k n=>exact .int k n|float k n=>exact .float k n|string s=>exact .string s|nilFunc=>exact .nilf|nilIface=>exact .nili|_=>exact IL σ h
def i6 (tm:Ao):Az->Ag
 | .tmp t=>some ((tm.get t).getD undef)| .const v=>bif cst v then some v else none| .global _=>none| .func f=>some (.func (.func f) #[] #[])
theorem nZ {a:Act}(h:TR σ nt tm a.tmps){x:Az}(hx:i6 tm x=some v):VR σ v (a.eval x):=by
 cases x with
 |tmp t=>simp only[i6,SQ]at hx;subst hx;exact h.at_ t|const c=>
  simp only[i6]at hx;cases hc:cst c with
  |false=>grind|true=>simp[hc]at hx;subst hx;exact dF σ hc
 |global g=>simp[i6]at hx|func f=>simp only[i6,SQ]at hx;subst hx;exact .func _ _ _ _ _ rfl (λi x y h _=>by grind) rfl (λi x y h _=>by grind)
def aE (tm:Ao):List Az->Bb (Af)
 | []=>some []|x::xs=>match i6 tm x with
  |some v=>match aE tm xs with
   |some vs=>some (v::vs)|none=>none
  |none=>none
def dD :TypeDesc->Bool
 | .struct _| .array _ _=>true
 |_=>false
def rN (P:Aw)(t:Ax)(cs:Af)(off:Nat):Ag:=
 match P.underlying t with
 |none=>none
 | some d => bif dD d then
   match P.info? t with
   |some i=>some (.agg ((cs.drop off).take i.size).toArray)|none=>none
  else cs[off]?
variable {P:Aw}
def Y2 {t:Ax}{d:TypeDesc}(h:P.underlying t=some d)(w:Bc):(isAgg t).run P w= .ok (dD d) w:=by simp only[isAgg,Tx,Ts h,Tt];cases d<;>rfl
theorem Bx (cs:Al)(off n:Nat):cs.extract off (off+n)=((cs.toList.drop off).take n).toArray:=by grind
theorem aY {t:Ax}{xs:Af}{off:Nat}(h:rN P t xs off=some v){ys:Al}(hy:VRL σ xs ys.toList):∃u,VR σ v u/\ ∀w,(part t ys off).run P w= .ok u w:=by
 unfold rN at h;cases l:P.underlying t with
 |none=>grind|some d=>
  simp only[l]at h;cases g:dD d with
  |true=>
   simp only[g,Tk]at h;cases hi:P.info? t with
   |none=>grind|some i=>simp only[hi,SQ]at h;subst h;refine⟨.agg (ys.extract off (off+i.size)),?_,λw=>?_⟩;rw[Bx];refine VRL.to_agg ⟨by have:=hy.1;simp at this⊢;omega,λj x y hx f=>?_⟩;rw[TB]at hx f;by_cases hj:j<i.size;rw[Tp hj,TI]at hx f;exact hy.2 _ x y hx f;grind;simp only[part,Tx,Y2 l,Tt,g,UG,sizeOf,typeInfo,UO,hi,TC]
  |false=>
   simp only[g,Tl]at h;obtain⟨u,m,hv⟩:=hy.get h;refine⟨u,hv,λw=>?_⟩;unfold part;have:ys[off]? =some u:=by grind
   simp only[Tx,Y2 l,Tt,g,Uo,if_false,this,TC]
def xE (P:Aw)(xt:Ax)(x:Av)(f:Nat):Ag:=
 match P.underlying xt with
 |some (.struct fs)=>match fs.toList[f]? with
  |some fd=>match x with
   | .agg cs=>rN P fd.type cs.toList fd.offset|_=>none
  |none=>none
 |_=>none
variable {x y:Av}
theorem CV {g:Ax}{f:Nat}(h:xE P g x f=some v)(hy:VR σ x y):∃u,VR σ v u/\ ∀w,(Instr.field g y f).run P w= .ok u w:=by
 unfold xE at h;split at h
 .rename_i l q;split at h
  .rename_i j hf;split at h
   .rename_i cs;obtain⟨ds,rfl,m⟩:=VQ hy;obtain⟨u,h1,h2⟩:=aY h m;refine⟨u,h1,λw=>?_⟩;have d:l[f]? =some j:=by grind
    simp[Instr.field,Ts q,d,asAgg,h2]
   cases h
  cases h
 cases h
def Z7 (x:Av)(i:Nat):Ag:=
 match x with
 | .tuple vs=>vs.toList[i]?|_=>none
theorem xD {i:Nat}(h:Z7 x i=some v)(hy:VR σ x y):∃u,VR σ v u/\ ∀w,(Instr.extract y i).run P w= .ok u w:=by
 unfold Z7 at h;split at h
 .rename_i vs;obtain⟨ds,rfl,d⟩:=VRL.of_tuple hy;obtain⟨u,h1,h2⟩:=d.get h;refine⟨u,h2,λw=>?_⟩;have:ds[i]? =some u:=by grind
  simp[Instr.extract,this]
 cases h
def qG (P:Aw)(xt:Ax)(x i:Av):Ag:=
 match i with
 | .int _ n=>match P.underlying xt,x with
  | some (.array len e), .agg cs => bif decide (0 ≤ n) && decide (n < len) then
    match P.info? e with
    |some ie=>rN P e cs.toList (n.toNat*ie.size)|none=>none
   else none
  | some .string, .string s => bif decide (0 ≤ n) then
    match s.data.toList[n.toNat]? with
    |some b=>some (.int .u8 b.toNat)|none=>none
   else none
  |_,_=>none
 |_=>none
theorem tD (s:ByteArray)(i:Nat):s[i]? =s.data.toList[i]? :=by obtain⟨⟨l⟩⟩:=s;rw[getElem?_def];by_cases h:i<l.length;have h1:i<(ByteArray.mk ⟨l⟩).size:=h;rw[dif_pos h1];simp[h];rfl;have h1:¬i<(ByteArray.mk ⟨l⟩).size:=h;grind
theorem CW {g:Ax}{i j:Av}(h:qG P g x i=some v)(hy:VR σ x y)(hj:VR σ i j):∃u,VR σ v u/\ ∀w,(Instr.index g y j).run P w= .ok u w:=by
 unfold qG at h;split at h
 .rename_i k n;cases hj;split at h
  .rename_i len e cs f;obtain⟨ds,rfl,l⟩:=VQ hy;cases hb:decide (0<=n)&&decide (n<len)with
   |false=>grind|true=>simp only[hb,Tk]at h;simp at hb;split at h;rename_i ie d;obtain⟨u,h1,h2⟩:=aY h l;refine⟨u,h1,λw=>?_⟩;simp[Instr.index,asIntOf,Ts f,hb,sizeOf,typeInfo,d,h2];cases h
  .rename_i s f;cases hy;cases hb:decide (0<=n)with
   |false=>grind|true=>
    simp only[hb,Tk]at h;simp at hb;split at h
    .rename_i b hs;cases h;refine⟨_,.int _ _,λw=>?_⟩;have:s[n.toNat]? =some b:=by rw[tD];exact hs
     simp[Instr.index,asIntOf,Ts f,hb,this]
    cases h
  cases h
 cases h
def splice (cells:Af)(off:Nat)(vs:Af):Af:=cells.take off++vs++cells.drop (off+vs.length)
def kE (place:Nat->Bb (Nat×Nat))(cells:Af):List (Nat×Av)->Bb (Af)
 | []=>some cells| (i,v)::rest=>match place i with
  |none=>none|some (off,size)=>bif Nat.beq v.cells.toList.length size&&Nat.ble (off+size) cells.length then kE place (splice cells off v.cells.toList) rest else none
theorem qW (off:Nat):∀(vs:Af) (k:Nat) (cs:Al),off+k+vs.length<=cs.size->((vs.zipIdx k).foldl (λ(cs:Al) (p:Av×Nat)=>cs.setIfInBounds (off+p.2) p.1) cs).toList=splice cs.toList (off+k) vs
 | [],k,cs,h=>by simp[splice]|v::vs,k,cs,h=>by simp;simp only[TM]at h;have d:=qW off vs (k+1) (cs.setIfInBounds (off+k) v) (by grind);rw[d];unfold splice;have:=list_seg_step cs.toList (off+k) v vs (by omega);grind
def VRL.splice {σ:Sg}{a b c d:Af}(h:VRL σ a b)(k:VRL σ c d)(off:Nat):VRL σ (splice a off c) (Xe.splice b off d):=by
 have ht:VRL σ (a.take off) (b.take off):=⟨by simp[h.1],λi x y hx hy=>by rw[TB]at hx hy;split at hx;rename_i hi;rw[Tp hi]at hy;exact h.2 i x y hx hy;cases hx⟩
 have f:VRL σ (a.drop (off+c.length)) (b.drop (off+d.length)):=by rw[k.1];exact⟨by simp[h.1],λi x y hx hy=>by rw[TI]at hx hy;exact h.2 _ x y hx hy⟩
 exact(ht.append k).append f
def PVR (σ:Sg)(xs ys:List (Nat×Av)):Prop:=xs.length=ys.length/\ ∀(i:Nat) x y,xs[i]? =some x->ys[i]? =some y->x.1=y.1/\VR σ x.2 y.2
variable {xs ys:List (Nat×Av)}
theorem PVR.uncons {x:Nat×Av}(h:PVR σ (x::xs) ys):∃u d,ys=(x.1,u)::d/\VR σ x.2 u/\PVR σ xs d:=by
 cases ys with
 |nil=>exact absurd h.1 (by simp)|cons y ys=>have h0:=h.2 0 x y rfl rfl;exact⟨y.2,ys,by grind,h0.2,by have:=h.1;simpa using this,λi a b f hb=>h.2 (i+1) a b (by grind) (by grind)⟩
def PVR.unnil (h:PVR σ [] ys):ys=[]:=SZ h.1.symm
theorem iD (place:Nat->Bb (Nat×Nat)):∀(xs:List (Nat×Av)) (ys:List (Nat×Av)) (cells r:Af) (cs:Al),kE place cells xs=some r->PVR σ xs ys->VRL σ cells cs.toList-> ∃ds,Instr.fill place cs ys=some ds/\VRL σ r ds.toList:=by
 intro xs;induction xs with
 |nil=>intro ys cells r cs h hp hc;rw[hp.unnil];simp[kE]at h;subst h;exact⟨cs,rfl,hc⟩
 |cons x xs q=>
  intro ys cells r cs h hp hc;obtain⟨u,j,rfl,m,hp'⟩:=hp.uncons;obtain⟨i,v⟩:=x;simp only[kE]at h;simp only[Instr.fill];cases g:place i with
  |none=>grind|some os=>
   obtain⟨off,size⟩:=os;simp only[g]at h⊢;cases hb:Nat.beq v.cells.toList.length size&&Nat.ble (off+size) cells.length with
   |false=>grind|true=>
    simp only[hb,Tk]at h;simp only[SR]at hb;have l:=SY hb.1;have s:=SX hb.2;have d:=m.cells;have t:u.cells.size=size:=by rw[<-l,d.1];simp
    have z:off+u.cells.size<=cs.size:=by have:=hc.1;simp at this;omega
    have f:¬(decide (u.cells.size≠size)||decide (off+u.cells.size>cs.size))=true:=by grind
    rw[Tn f];have hf:(u.cells.zipIdx.foldl (λ(cs:Al) (p:Av×Nat)=>cs.setIfInBounds (off+p.2) p.1) cs).toList=splice cs.toList off u.cells.toList:=by rw[<-Array.foldl_toList,Array.toList_zipIdx];exact qW off u.cells.toList 0 cs (by omega)
    refine q j _ r _ h hp' ?_;rw[hf];exact hc.splice d off
def eP (P:Aw):List Field->Bb (List (Nat×Nat))
 | []=>some []|f::fs=>match P.info? f.type with
  |some i=>match eP P fs with
   |some r=>some ((f.offset,i.size)::r)|none=>none
  |none=>none
theorem vX {P:Aw}(w:Bc):∀ {d:List Field} {r:List (Nat×Nat)},eP P d=some r->(d.mapM λf=>do pure (f.offset,<-sizeOf f.type):Sem (List (Nat×Nat))).run P w= .ok r w
 | [],r,h=>by simp[eP]at h;subst h;simp|f::d,r,h=>by
  simp only[eP]at h;cases hi:P.info? f.type with
  |none=>grind|some i=>
   cases hr:eP P d with
   |none=>grind|some j=>
    simp[hi,hr]at h;have g:=vX w hr;have hs:(sizeOf f.type).run P w= .ok i.size w:=by simp[sizeOf,typeInfo,hi]
    simp_all
def S9 (P:Aw)(t:Ax):Ag:=match P.info? t with
 |some i=>match i.zero with
  |some z=>bif cst z then some z else none|none=>none
 |none=>none
theorem Q7 {t:Ax}{z:Av}(h:S9 P t=some z):cst z=true/\ ∀w,(zeroValue t).run P w= .ok z w:=by
 unfold S9 at h;split at h
 .rename_i i hi;split at h
  .rename_i d hz;cases hc:cst d with
   |false=>grind|true=>simp only[hc,Tk,SQ]at h;subst h;exact⟨hc,λw=>by simp[zeroValue,typeInfo,hi,hz]⟩
  cases h
 cases h
def wZ (P:Aw)(t:Ax)(parts:List (Nat×Av)):Ag:=
 match S9 P t with
 |none=>none|some z=>match P.underlying t with
  |some (.struct fs)=>match eP P fs.toList with
   |some pl=>match kE (λi=>pl[i]?) z.cells.toList parts with
    |some cs=>some (.agg cs.toArray)|none=>none
   |none=>none
  |some (.array _ e)=>match P.info? e with
   |some ie=>match kE (λi=>some (i*ie.size,ie.size)) z.cells.toList parts with
    |some cs=>some (.agg cs.toArray)|none=>none
   |none=>none
  |_=>none
theorem CS {t:Ax}{ys:Array (Nat×Av)}(h:wZ P t xs=some v)(hy:PVR σ xs ys.toList):∃u,VR σ v u/\ ∀w,(Instr.build t ys).run P w= .ok u w:=by
 unfold wZ at h;split at h;cases h
 .rename_i z hz;obtain⟨hc,d⟩:=Q7 hz;have g:=(dF σ hc).cells;split at h
  .rename_i C s;split at h
   .rename_i A m;split at h
    .rename_i cs hf;cases h;obtain⟨ds,h1,h2⟩:=iD _ _ _ _ _ _ hf hy g;refine⟨.agg ds,by have:=h2.to_agg;simpa using this,λw=>?_⟩;have q:=vX w m;have hm:(C.mapM λf=>do pure (f.offset,<-sizeOf f.type):Sem (Array (Nat×Nat))).run P w= .ok A.toArray w:=by rw[Array.mapM_eq_mapM_toList,Sem.run_map,q];rfl
     have j:(λx:Nat=>A.toArray[x]?)=λi:Nat=>A[i]? :=by grind
     simp only[Instr.build,Tx,d,Tt,Ts s,hm,j,h1,TC]
    cases h
   cases h
  rename_i n e s;split at h;rename_i ie l;split at h;rename_i cs hf;cases h;obtain⟨ds,h1,h2⟩:=iD _ _ _ _ _ _ hf hy g;refine⟨.agg ds,by have:=h2.to_agg;simpa using this,λw=>?_⟩;simp[Instr.build,d,Ts s,sizeOf,typeInfo,l,h1];cases h;cases h;cases h
end Go.Xe
namespace Go.Xe
open Go.RowKit
def R2 (x:Av):Bb (IntKind×Nat×Nat):=
 match x with
 | .complex f lo hi=>some (Z0 f lo,gD lo,hi)| .int k (.ofNat n)=>some (k,n,n+1)|_=>none
variable {σ:Sg}{x x':Av}{k:IntKind}
theorem W9 {lo hi:Nat}(h:R2 x=some (k,lo,hi))(hx:VR σ x x'):∃n:Nat,x'= .int k n/\lo<=n/\(hi=0\/n<hi):=by unfold R2 at h;split at h;simp at h;cases hx<;>grind;rename_i k n;cases hx;grind;cases h
def aK (a b:Nat×Nat):Bb Bool:=
 bif !(Nat.beq a.2 0)&&Nat.ble a.2 b.1 then some true else bif !(Nat.beq b.2 0)&&Nat.ble b.2 (a.1+1)then some false else none
theorem aM {a b:Nat×Nat}{r:Bool}(h:aK a b=some r){n m:Nat}(h1:a.1<=n)(h2:a.2=0\/n<a.2)(h3:b.1<=m)(h4:b.2=0\/m<b.2):r=decide ((n:Int)<(m:Int)):=by
 unfold aK at h;cases hb: !(Nat.beq a.2 0)&&Nat.ble a.2 b.1 with
 |true=>
  rw[hb,Tk]at h;simp only[SR]at hb;have:=SX hb.2;have h0:a.2≠0:=λe=>by rw[e]at hb;simp at hb
  grind
 |false=>
  rw[hb,Tl]at h;cases hc: !(Nat.beq b.2 0)&&Nat.ble b.2 (a.1+1)with
  |true=>
   rw[hc,Tk]at h;simp only[SR]at hc;have:=SX hc.2;have h0:b.2≠0:=λe=>by rw[e]at hc;simp at hc
   grind
  |false=>grind
def dL (a b:Nat×Nat):Bool:=
 match aK a b with
 |some true=>true|_=>match aK b a with
  |some true=>true|_=>false
def ieqF (x y:Av):Bb Bool:=
 match R2 x,R2 y with
 |some (k,a),some (k',b)=>bif decide (k=k')&&dL a b then some false else none|_,_=>none
variable {y y':Av}
theorem tZ {b:Bool}(h:ieqF x y=some b)(hx:VR σ x x')(hy:VR σ y y'):b=false/\ ∃k n m,x'= .int k n/\y'= .int k m/\n≠m:=by
 unfold ieqF at h;split at h
 .rename_i k a k' c z hc;obtain⟨l,q⟩:=a;obtain⟨s,t⟩:=c;obtain⟨n,rfl,g,j⟩:=W9 z hx;obtain⟨m,rfl,m1,f⟩:=W9 hc hy;cases hk:decide (k=k')&&dL (l,q) (s,t)with
  |false=>grind|true=>rw[hk,Tk,SQ]at h;simp at hk;obtain⟨rfl,d⟩:=hk;refine⟨h.symm,k,n,m,rfl,rfl,?_⟩;unfold dL at d;split at d;rename_i e;have:=aM e g j m1 f;simp at this;omega;split at d;rename_i e;have:=aM e m1 f g j;simp at this;omega;grind
 cases h
def CU (P:Aw)(eq:Ax->Av->Av->Bb Bool)(xs ys:Af):List Field->Bb Bool
 | []=>some true|f::fs=>bif f.name== "_" then CU P eq xs ys fs else
  match rN P f.type xs f.offset,rN P f.type ys f.offset with
  |some a,some b=>match eq f.type a b with
   |some true=>CU P eq xs ys fs|some false=>some false|none=>none
  |_,_=>none
def aFs (P:Aw)(e:Ax):Ah->List Field
 | []=>[]
 |i::is=> {(default:Field)with name:= "x",type:=e,offset:=i*P.cellsOf e}::aFs P e is
def mT {P:Aw}(w:Bc)(d:Nat)(e:Ax)(xs ys:Al):∀is:Ah,(Op.eqItems d e (P.cellsOf e) xs ys is).run P w=(Op.eqFields d xs ys (aFs P e is)).run P w
 | []=>by simp[Op.eqItems,Op.eqFields,aFs]|i::is=>by
  have hn:("x" :String)≠ "_" :=by decide
  simp only[Op.eqItems,Op.eqFields,aFs,hn,ne_eq,not_false_eq_true,UG,Tx];generalize (part e xs (i*P.cellsOf e)).run P w=r1;cases r1 with
  |ok a f=>
   simp only[Tt];generalize (part e ys (i*P.cellsOf e)).run P f=j;cases j with
   |ok b g=>
    simp only[Tt];generalize (Op.equalIn d e a b).run P g=l;cases l with
    |ok r h=>cases r;simp;simp only[Tt,Bool.not_true,Uo,if_false];exact mT h d e xs ys is
    |halt x h=>simp[Result.andThen]
   |halt x g=>simp[Result.andThen]
  |halt x f=>simp[Result.andThen]
def xeq (P:Aw):Nat->Ax->Av->Av->Bb Bool
 |0,_,_,_=>none|d+1,t,x,y=>match P.underlying t,x,y with
  |some .bool,.bool a,.bool b=>some (a==b)|some (.int _),.int k a,.int k' b=>bif decide (k=k')then some (decide (a=b))else none|some (.int _),.complex f lo hi,.int k a=>ieqF (.complex f lo hi) (.int k a)|some (.int _),.int k a,.complex f lo hi=>ieqF (.int k a) (.complex f lo hi)|some .string,.string a,.string b=>some (a.data.toList==b.data.toList)|some (.pointer _),.pointer none,.pointer b=>some b.isNone|some (.pointer _),.pointer (some _),.pointer none=>some false
  | some (.pointer e), .pointer (some ⟨a, o, none⟩), .pointer (some ⟨b, q, none⟩) => bif Nat.beq a b then
    match P.info? e with
    |some ie=>bif Nat.beq ie.size 0 then none else some (Nat.beq o q)|none=>none
   else none
  |some (.struct fs),.agg xs,.agg ys=>bif P.stoodInHeld t then none else CU P (xeq P d) xs.toList ys.toList fs.toList
  | some (.array n e), .agg xs, .agg ys => match P.info? e with
    |some _=>CU P (xeq P d) xs.toList ys.toList (aFs P e (List.range n))|none=>none
  |some (.slice _),.slice none _ _,.slice b _ _=>some b.isNone|some (.slice _),.slice (some _) _ _,.slice none _ _=>some false|some (.map _ _),.map none,.map b=>some b.isNone|some (.map _ _),.map (some _),.map none=>some false|some (.func _ _ _),.nilFunc,.nilFunc=>some true|some (.func _ _ _),.nilFunc,.func _ _ _=>some false|some (.func _ _ _),.func _ _ _,.nilFunc=>some false|some (.interface _),.nilIface,.iface _ _=>some false|some (.interface _),.iface _ _,.nilIface=>some false
  | some (.interface _), .iface tx vx, .iface ty vy => bif decide (tx = ty) then
    match P.info? tx with
    |some i=>bif i.comparable then xeq P d tx vx vy else none|none=>none
   else some false
  |_,_,_=>none
theorem eL {P:Aw}{σ:Sg}{d:Nat}{A:Ax->Av->Av->Bb Bool}(hq:∀t x y b,A t x y=some b-> ∀x' y',VR σ x x'->VR σ y y'-> ∀w,(Op.equalIn d t x' y').run P w= .ok b w){xs ys:Af}{l m:Al}(hx:VRL σ xs l.toList)(hy:VRL σ ys m.toList)(w:Bc):∀ {q:List Field} {b:Bool},CU P A xs ys q=some b->(Op.eqFields d l m q).run P w= .ok b w
 | [],b,h=>by simp[CU]at h;subst h;simp[Op.eqFields]|f::q,b,h=>by
  simp only[CU]at h;by_cases hn:f.name= "_"
  .have:(f.name== "_")=true:=by grind
   rw[this,Tk]at h;simp only[Op.eqFields,hn,ne_eq,not_true_eq_false,if_false];exact eL hq hx hy w h
  .have:(f.name== "_")=false:=by grind
   rw[this,Tl]at h;split at h;rename_i a c C hc;obtain⟨a',g,s⟩:=aY C hx;obtain⟨c',j,z⟩:=aY hc hy;simp only[Op.eqFields,ne_eq,hn,not_false_eq_true,UG,Tx,s,z,Tt];split at h;rename_i he;rw[hq _ _ _ _ he _ _ g j w];exact eL hq hx hy w h;rename_i he;rw[hq _ _ _ _ he _ _ g j w];simp_all;cases h;cases h
variable {P:Aw}
def KI :∀(d:Nat) (t:Ax) (x y:Av) (b:Bool),xeq P d t x y=some b-> ∀x' y',VR σ x x'->VR σ y y'-> ∀w,(Op.equalIn d t x' y').run P w= .ok b w:=by
 intro d;induction d with
 |zero=>intro t x y b h;simp[xeq]at h
 |succ d K=>
  intro t x y b h x' y' hx hy w;simp only[xeq]at h;split at h;rename_i a c f;cases hx;cases hy;simp only[SQ]at h;subst h;simp[Op.equalIn,Ts f]
  .rename_i k k' a L c f;cases hx;cases hy;cases hk:decide (k'=L)with
   |false=>rw[hk]at h;cases h
   |true=>rw[hk]at h;simp only[To]at hk;subst hk;simp only[Tk,SQ]at h;subst h;rw[run_equalIn_int w d t _ _ _ _ f];congr 1
  rename_i f;obtain⟨rfl,k,n,m,rfl,rfl,z⟩:=tZ h hx hy;rw[run_equalIn_int w d t _ _ _ _ f];simp[z];rename_i f;obtain⟨rfl,k,n,m,rfl,rfl,z⟩:=tZ h hx hy;rw[run_equalIn_int w d t _ _ _ _ f];simp[z];rename_i a c f;cases hx;cases hy;simp only[SQ]at h;subst h;rw[run_equalIn_string w d t _ _ f,ByteArray.toList_eq,ByteArray.toList_eq]
  .rename_i e c f;simp only[SQ]at h;subst h;cases hx;have hn:∃c',y'= .pointer c'/\c'.isNone=c.isNone:=by cases hy<;>exact⟨_,rfl,rfl⟩
   obtain⟨c',rfl,hn⟩:=hn;simp[Op.equalIn,Ts f,hn]
  rename_i e c f;simp only[SQ]at h;subst h;cases hx<;>cases hy<;>simp[Op.equalIn,Ts f]
  .rename_i e i o j q f;cases hx with
   |ptr _ _ p hp=>
   cases hy with
   |ptr _ _ r hr=>
   cases g:Nat.beq i j with
   |false=>rw[g]at h;cases h
   |true=>
    rw[g]at h;have g:=SY g;subst g;have G:p=r:=Tu (hp.symm.trans hr);subst G;simp only[Tk]at h;split at h
    .rename_i ie F;cases hz:Nat.beq ie.size 0 with
     |true=>rw[hz]at h;cases h
     |false=>
      rw[hz]at h;simp only[Tl,SQ]at h;subst h;have J:ie.size≠0:=λe=>by rw[e]at hz;cases hz
      simp only[Op.equalIn,Tx,Ts f,Tt,sizeOf,typeInfo,UO,F,TC,ne_eq,J,not_false_eq_true,UG,sameAddr,beq_self_eq_true];congr 1;by_cases e:o=q;subst e;rw[u7 rfl];simp;rw[z4 e];simp
    cases h
  .rename_i Q xs ys f;cases hs:P.stoodInHeld t with
   |true=>rw[hs]at h;cases h
   |false=>
    rw[hs,Tl]at h;obtain⟨D,rfl,A⟩:=VQ hx;obtain⟨E,rfl,C⟩:=VQ hy;have hf:P.fieldsOf t=Q:=by simp[Program.fieldsOf,f]
    rw[run_equalIn_struct w d t D E (by rw[hf];exact f) hs,hf];exact eL (λt x y b hb x' y' h1 h2 w=>K t x y b hb x' y' h1 h2 w) A C w h
  rename_i n e xs ys f;split at h;rename_i i hi;obtain⟨D,rfl,A⟩:=VQ hx;obtain⟨E,rfl,C⟩:=VQ hy;rw[run_equalIn_array w d D E f hi,mT];exact eL (λt x y b hb x' y' h1 h2 w=>K t x y b hb x' y' h1 h2 w) A C w h;cases h
  .rename_i e l c b' l' c' f;simp only[SQ]at h;subst h;cases hx;have hn:∃s N M,y'= .slice s N M/\s.isNone=b'.isNone:=by cases hy<;>exact⟨_,_,_,rfl,rfl⟩
   obtain⟨s,N,M,rfl,hn⟩:=hn;simp[Op.equalIn,Ts f,hn]
  rename_i e a l c l' c' f;simp only[SQ]at h;subst h;cases hx<;>cases hy<;>simp[Op.equalIn,Ts f]
  .rename_i k e b' f;simp only[SQ]at h;subst h;cases hx;have hn:∃s,y'= .map s/\s.isNone=b'.isNone:=by cases hy<;>exact⟨_,rfl,rfl⟩
   obtain⟨s,rfl,hn⟩:=hn;simp[Op.equalIn,Ts f,hn]
  rename_i k e a f;simp only[SQ]at h;subst h;cases hx;cases hy;simp[Op.equalIn,Ts f];rename_i f;simp only[SQ]at h;subst h;cases hx;cases hy;simp[Op.equalIn,Ts f];rename_i f;simp only[SQ]at h;subst h;cases hx;cases hy;simp[Op.equalIn,Ts f];rename_i f;simp only[SQ]at h;subst h;cases hx;cases hy;simp[Op.equalIn,Ts f];rename_i f;simp only[SQ]at h;subst h;cases hx;cases hy;simp[Op.equalIn,Ts f];rename_i f;simp only[SQ]at h;subst h;cases hx;cases hy;simp[Op.equalIn,Ts f]
  .rename_i S O vx ty R f;cases hx with
   |iface _ _ ux H=>
   cases hy with
   |iface _ _ uy I=>
   cases ht:decide (O=ty)with
   |false=>rw[ht]at h;simp only[Tl,SQ]at h;subst h;simp only[TS]at ht;simp[Op.equalIn,Ts f,ht]|true=>
    rw[ht]at h;simp only[To]at ht;subst ht;simp only[Tk]at h;split at h
    .rename_i i hi;cases hc:i.comparable with
     |false=>rw[hc]at h;cases h
     |true=>rw[hc,Tk]at h;have:=K O vx R b h ux uy H I w;simp[Op.equalIn,Ts f,typeInfo,hi,hc,this]
    cases h
  cases h
def lR (op:BinOp)(a b:Int):Ag:=
 match op with
 | .eql=>some (.bool (decide (a=b)))| .neq=>some (.bool (!decide (a=b)))| .lss=>some (.bool (decide (a<b)))| .leq=>some (.bool (decide (a<=b)))| .gtr=>some (.bool (decide (b<a)))| .geq=>some (.bool (decide (b<=a)))|_=>none
def K9 (op:BinOp)(k:IntKind)(a b:Int):Ag:=
 match op with
 | .add=>some (.int k (k.wrap (a+b)))| .sub=>some (.int k (k.wrap (a-b)))| .mul=>some (.int k (k.wrap (a*b)))| .quo=>bif decide (b=0)then none else some (.int k (k.wrap (a.tdiv b)))| .rem=>bif decide (b=0)then none else some (.int k (a.tmod b))|_=>lR op a b
def Oz (op:BinOp)(a b:ByteArray):Ag:=
 match op with
 | .add=>bif Nat.ble (a.data.toList.length+b.data.toList.length) 1000000000 then some (.string ⟨(a.data.toList++b.data.toList).toArray⟩)else none| .eql=>some (.bool (a.data.toList==b.data.toList))| .neq=>some (.bool (!(a.data.toList==b.data.toList)))| .lss=>some (.bool (Op.bytesLess a.data.toList b.data.toList))| .leq=>some (.bool (Op.bytesLess a.data.toList b.data.toList||a.data.toList==b.data.toList))| .gtr=>some (.bool (!(Op.bytesLess a.data.toList b.data.toList||a.data.toList==b.data.toList)))| .geq=>some (.bool (!Op.bytesLess a.data.toList b.data.toList))|_=>none
def O4 (P:Aw)(t:Ax):Av->Bool
 | .agg _=> !P.eqGuardType P.depth t| .nilIface=>false| .complex _ _ _=>false| .float _ _=>false|_=>true
def bS (P:Aw)(op:BinOp)(t:Ax)(x y:Av):Ag:=
 match x,y with
 | .int k a,.int k' b=>bif decide (k=k')then K9 op k a b else none| .string a,.string b=>Oz op a b|_,.complex _ _ _=>none|x,y=>match op with
  | .eql=>bif O4 P t x then match xeq P 10000 t x y with
   |some b=>some (.bool b)|none=>none else none
  | .neq=>bif O4 P t x then match xeq P 10000 t x y with
   |some b=>some (.bool (!b))|none=>none else none
  |_=>none
variable {v:Av}
def xC {op:BinOp}{a b:Int}(h:lR op a b=some v):VR σ v v/\ ∀w,(Op.intCmp op a b).run P w= .ok v w:=by cases op<;>simp only[lR,SQ,reduceCtorEq]at h<;>subst h<;>refine⟨.bool _,λw=>?_⟩<;>simp[Op.intCmp]<;>by_cases e:a=b<;>simp[e]
def CQ {op:BinOp}{a b:Int}(h:K9 op k a b=some v)(t:Ax):VR σ v v/\ ∀w,(binOp op t (.int k a) (.int k b)).run P w= .ok v w:=by
 cases op;case quo=>simp only[K9]at h;by_cases hb:b=0;simp[hb]at h;simp[hb]at h;subst h;exact⟨.int _ _,λw=>by simp[binOp_quo,Op.intDiv,hb]⟩
 case rem=>simp only[K9]at h;by_cases hb:b=0;simp[hb]at h;simp[hb]at h;subst h;exact⟨.int _ _,λw=>by simp[binOp_rem,Op.intDiv,hb]⟩
 all_goals first
  | (cases h;done)
  | (cases h;exact⟨.int _ _,λw=>by simp[binOp_add,binOp_sub,binOp_mul,Op.intArith]⟩)
  | (simp only[K9]at h;exact⟨(xC (σ:=σ) (P:=P) h).1,λw=>by simpa [binOp]using(xC (σ:=σ) (P:=P) h).2 w⟩)
theorem oK (a b:ByteArray):a++b=⟨(a.data.toList++b.data.toList).toArray⟩:=by apply ByteArray.ext;simp_all
theorem HJ {op:BinOp}{a b:ByteArray}(h:Oz op a b=some v):VR σ v v/\ ∀w,(Op.stringOp op a b).run P w= .ok v w:=by
 cases op<;>simp only[Oz,SQ,reduceCtorEq]at h;case add=>
  cases hb:Nat.ble (a.data.toList.length+b.data.toList.length) 1000000000 with
  |false=>grind|true=>
   rw[hb]at h;simp at h;subst h;have hb:=SX hb;have f:a.size=a.data.toList.length:=by simp
   have g:b.size=b.data.toList.length:=by simp
   have d:¬((a.size+b.size:Nat):Int)>IntKind.i64.max:=by rw[IntKind.max_i64,f,g];omega
   refine⟨.string _,λw=>?_⟩;simp only[Op.stringOp,Tn d,TC,oK]
 all_goals
  subst h;refine⟨.bool _,λw=>?_⟩;simp only[Op.stringOp,ByteArray.toList_eq,TC]
def lP {op:BinOp}{t:Ax}(h:bS P op t x y=some v)(hx:VR σ x x')(hy:VR σ y y')(q s:Az):VR σ v v/\ ∀w,((eqGuard op t q s x' y').run P w= .ok () w)/\(binOp op t x' y').run P w= .ok v w:=by
 unfold bS at h;split at h;rename_i k a k' b;cases hx;cases hy;by_cases hk:k=k';subst hk;simp only[Ua,Tk]at h;obtain⟨h1,h2⟩:=CQ (σ:=σ) (P:=P) h t;exact⟨h1,λw=>⟨by rw[eqGuard_at_int];rfl,h2 w⟩⟩;simp[hk]at h;rename_i a b;cases hx;cases hy;obtain⟨h1,h2⟩:=HJ (σ:=σ) (P:=P) h;exact⟨h1,λw=>⟨by rw[eqGuard_at_string];rfl,by cases op<;>exact h2 w⟩⟩;cases h
 .rename_i j l m;have hg : O4 P t x = true → ∀ w, (eqGuard op t  q  s x' y').run P w = .ok () w := by
   intro hg w;cases hx<;>first
    | (simp[O4]at hg;done)
    | (simp only[O4,TP]at hg
       cases hy<;>first| (rw[run_eqGuard_agg (h:=w) _ _ _ _ _ _ hg];done)| (exact run_eqGuard_agg w op t q s _ _ hg)| (cases op<;>rfl))
    | (cases op<;>rfl)
  have f:∀b,xeq P 10000 t x y=some b-> ∀w,(Op.equal t x' y').run P w= .ok b w:=λb hb w=>KI 10000 t x y b hb x' y' hx hy w;have g:O4 P t x=true->(∀w,(binOp .eql t x' y').run P w=(do pure (.bool (<-Op.equal t x' y')):Sem Av).run P w)/\
    (∀w,(binOp .neq t x' y').run P w=(do pure (.bool (!(<-Op.equal t x' y'))):Sem Av).run P w):=by
   intro d;constructor<;>intro w<;>cases hx<;>cases hy<;>first|rfl| (exact(l _ _ _ _ rfl rfl).elim)| (exact(m _ _ rfl rfl).elim)| (exact(j _ _ _ rfl).elim)| (simp[O4]at d)
  split at h
  .cases d:O4 P t x with
   |false=>rw[d]at h;cases h
   |true=>rw[d,Tk]at h;split at h;rename_i b hb;simp only[SQ]at h;subst h;exact⟨.bool _,λw=>⟨hg d w,by rw[(g d).1 w];simp only[Tx,f b hb w,Tt,TC]⟩⟩;cases h
  .cases d:O4 P t x with
   |false=>rw[d]at h;cases h
   |true=>rw[d,Tk]at h;split at h;rename_i b hb;simp only[SQ]at h;subst h;exact⟨.bool _,λw=>⟨hg d w,by rw[(g d).2 w];simp only[Tx,f b hb w,Tt,TC]⟩⟩;cases h
  cases h
end Go.Xe
namespace Go.Xe
open Go.RowKit
def Oy (n:Int):Ag:=some (.string (Utf8.encode n))
def nY (P:Aw)(src dst:Ax)(x:Av):Ag:=
 match P.underlying src with
 |none=>none|some _=>match P.underlying dst,x with
  |some (.int k),.int _ n=>some (.int k (k.wrap n))|some .string,.string s=>some (.string s)|some .string,.int _ n=>Oy n|some (.int .i64),.complex _ lo hi=>bif Nat.ble 1 hi&&Nat.ble hi unk then some (.complex .f64 (gD lo) hi)else none|some (.int .u64),.complex _ lo hi=>bif Nat.ble 1 hi&&Nat.ble hi unk then some (.complex .f32 (gD lo+18446744073709551616) hi)else none|_,_=>none
variable {P:Aw}{σ:Sg}{v x x':Av}
theorem Fk {src dst:Ax}(h:nY P src dst x=some v)(hx:VR σ x x'):∃u,VR σ v u/\ ∀w,(convert src dst x').run P w= .ok u w:=by
 unfold nY at h;split at h;cases h
 .rename_i d hs;split at h;rename_i k k' n g;cases hx;simp only[SQ]at h;subst h;exact⟨_,.int _ _,λw=>by simp[convert,Ts hs,Ts g,Conv.intToInt]⟩;rename_i s g;cases hx;simp only[SQ]at h;subst h;exact⟨_,.string _,λw=>by simp[convert,Ts hs,Ts g]⟩;rename_i k n g;cases hx;unfold Oy at h;simp only[SQ]at h;subst h;exact⟨_,.string _,λw=>by simp[convert,Ts hs,Ts g,Conv.intToString]⟩
  .rename_i f lo hi g;cases hb:Nat.ble 1 hi&&Nat.ble hi unk with
   |false=>grind|true=>
    rw[hb,Tk]at h;simp only[SR]at hb;have l:=SX hb.1;have m:=SX hb.2;simp only[SQ]at h;subst h;cases hx with
    |ival _ _ _ n h1 h2=>
     have hn:n<unk:=by omega
     refine⟨_,.ival .f64 (gD lo) hi n (Ub (BL _) h1) h2,λw=>?_⟩;have j:IntKind.i64.wrap (n:Int)=n:=by rw[IntKind.wrap_i64];unfold unk at hn;omega
     simp[convert,Ts hs,Ts g,Conv.intToInt,j,Z0,DC]
  .rename_i f lo hi g;cases hb:Nat.ble 1 hi&&Nat.ble hi unk with
   |false=>grind|true=>
    rw[hb,Tk]at h;simp only[SR]at hb;have l:=SX hb.1;have m:=SX hb.2;simp only[SQ]at h;subst h;cases hx with
    |ival _ _ _ n h1 h2=>
     have hn:n<unk:=by omega
     have t:gD (gD lo+18446744073709551616)=gD lo:=by unfold gD;omega
     have q:Z0 .f32 (gD lo+18446744073709551616)= .u64:=by
      have:(gD lo+18446744073709551616)/18446744073709551616=1:=by unfold gD;omega
      rw[Z0,this,DC]
     refine⟨_,.ival .f32 (gD lo+18446744073709551616) hi n (by omega) h2,λw=>?_⟩;have j:IntKind.u64.wrap (n:Int)=n:=by rw[IntKind.wrap_u64];unfold unk at hn;omega
     simp[convert,Ts hs,Ts g,Conv.intToInt,j,q]
  cases h
def xun (op:UnOp)(x:Av):Ag:=
 match op,x with
 | .neg,.int k n=>some (.int k (k.wrap (0-n)))| .not,.bool b=>some (.bool (!b))|_,_=>none
def KU {op:UnOp}(h:xun op x=some v)(hx:VR σ x x'):VR σ v v/\ ∀w,(Op.unary op x').run P w= .ok v w:=by unfold xun at h;split at h;cases hx;simp only[SQ]at h;subst h;exact⟨.int _ _,λw=>rfl⟩;cases hx;simp at h;subst h;exact⟨.bool _,λw=>rfl⟩;cases h
def U1 (P:Aw)(s:Ax)(x:Av)(f:Nat):Ag:=
 match P.underlying s with
 |some (.struct fs)=>match fs.toList[f]? with
  |some fd=>match P.info? fd.type with
   |some i=>bif Nat.beq i.size 0 then none else
    match x with
    | .pointer (some ⟨b,o,none⟩)=>some (.pointer (some ⟨b,o+fd.offset,none⟩))| .pointer (some ⟨b,o,some 1⟩)=>some (.pointer (some ⟨b,o+fd.offset,some 1⟩))|_=>none
   |none=>none
  |none=>none
 |_=>none
theorem qE {s:Ax}{f:Nat}(h:U1 P s x f=some v)(hx:VR σ x x'):∃u,VR σ v u/\ ∀w,(Instr.fieldAt s x' f).run P w= .ok u w:=by
 unfold U1 at h;split at h
 .rename_i l m;split at h
  .rename_i j hf;split at h
   .rename_i i hi;cases hz:Nat.beq i.size 0 with
    |true=>grind|false=>
     rw[hz,Tl]at h;have g:i.size≠0:=λe=>by rw[e]at hz;cases hz
     split at h
     .rename_i b o;simp only[SQ]at h;subst h;cases hx with
      |ptr _ _ p hp=>
      have d:l[f]? =some j:=by grind
      refine⟨_,.ptr b (o+j.offset) p hp,λw=>?_⟩;simp[Instr.fieldAt,Ts m,d,Instr.sureAddr,fieldPlace,sizeOf,typeInfo,hi,g,UH,Ud]
     .rename_i b o;simp only[SQ]at h;subst h;cases hx with
      |rptr _ _ p hp=>
      have d:l[f]? =some j:=by grind
      refine⟨_,.rptr b (o+j.offset) p hp,λw=>?_⟩;simp[Instr.fieldAt,Ts m,d,Instr.sureAddr,fieldPlace,sizeOf,typeInfo,hi,g,UH]
     cases h
   cases h
  cases h
 cases h
def D3 (P:Aw)(t:Ax)(x ix:Av):Ag:=
 match ix with
 | .int _ n=>match P.underlying t with
  |some (.slice e)=>match P.info? e with
   |some ie=>match x with
    | .slice (some ⟨b,o,none⟩) len _=>bif decide (0<=n)&&decide (n<len)then some (.pointer (some ⟨b,o+n.toNat*ie.size,none⟩))else none|_=>none
   |none=>none
  |some (.array len e)=>match P.info? e with
   |some ie=>match x with
    | .pointer (some ⟨b,o,none⟩)=>bif decide (0<=n)&&decide (n<len)then some (.pointer (some ⟨b,o+n.toNat*ie.size,none⟩))else none|_=>none
   |none=>none
  |_=>none
 |_=>none
theorem qH {t:Ax}{i g:Av}(h:D3 P t x i=some v)(hx:VR σ x x')(hi:VR σ i g):∃u,VR σ v u/\ ∀w,(Instr.indexAt t x' g).run P w= .ok u w:=by
 unfold D3 at h;split at h
 .rename_i k n;cases hi;split at h
  .rename_i e f;split at h
   .rename_i ie d;split at h
    .rename_i b o len c;cases hx with
     |slice _ _ p _ _ c' hp hc hl=>
     cases hb:decide (0<=n)&&decide (n<len)with
     |false=>grind|true=>rw[hb,Tk]at h;simp at hb;simp at h;subst h;refine⟨_,.ptr b _ p hp,λw=>?_⟩;simp[Instr.indexAt,asIntOf,Ts f,hb,sizeOf,typeInfo,d,UH,Ud]
    cases h
   cases h
  .rename_i len e f;split at h
   .rename_i ie d;split at h
    .rename_i b o;cases hx with
     |ptr _ _ p hp=>
     cases hb:decide (0<=n)&&decide (n<len)with
     |false=>grind|true=>rw[hb,Tk]at h;simp at hb;simp at h;subst h;refine⟨_,.ptr b _ p hp,λw=>?_⟩;simp[Instr.indexAt,asIntOf,Ts f,Instr.sureAddr,hb,sizeOf,typeInfo,d,UH,Ud]
    cases h
   cases h
  cases h
 cases h
def lU (P:Aw)(t:Ax)(x:Av):Ag:=
 match P.underlying t,x with
 |some .string,.string s=>some (.int .i64 s.data.toList.length)|some (.array n _),_=>some (.int .i64 n)|some (.slice _),.slice _ n _=>some (.int .i64 n)|some (.map _ _),.map none=>some (.int .i64 0)|_,_=>none
def HC {t:Ax}(h:lU P t x=some v)(hx:VR σ x x')(ty:Ax)(ats:Array Ax)(d:ats[0]? =some t):VR σ v v/\ ∀w,(Builtin.len_ ats ty #[x']).run P w= .ok v w:=by unfold lU at h;split at h;rename_i s f;cases hx;simp at h;subst h;refine⟨.int _ _,λw=>?_⟩;simp[Builtin.len_,d,Ts f,goInt];rename_i n e f;simp at h;subst h;refine⟨.int _ _,λw=>?_⟩;simp[Builtin.len_,d,Ts f,goInt];rename_i e b n c f;simp at h;subst h;refine⟨.int _ _,λw=>?_⟩;cases hx<;>simp[Builtin.len_,d,Ts f,goInt];rename_i k e f;simp at h;subst h;refine⟨.int _ _,λw=>?_⟩;cases hx;simp[Builtin.len_,d,Ts f,goInt];cases h
def nX (P:Aw)(t:Ax)(x:Av):Ag:=
 match P.underlying t,x with
 |some (.slice _),.slice none _ c=>some (.int .i64 c)|some (.slice _),.slice (some _) n c=>bif Nat.ble unk c then some (.complex .f64 (Nat.max (O8 c) n) (E7 c))else some (.int .i64 c)|some (.array n _),_=>some (.int .i64 n)|_,_=>none
theorem HB {t:Ax}(h:nX P t x=some v)(hx:VR σ x x')(ty:Ax)(ats:Array Ax)(d:ats[0]? =some t):∃u,VR σ v u/\ ∀w,(Builtin.cap_ ats ty #[x']).run P w= .ok u w:=by
 unfold nX at h;split at h;rename_i e n c g;simp at h;subst h;cases hx;refine⟨_,.int _ _,λw=>?_⟩;simp[Builtin.cap_,d,Ts g,goInt]
 .rename_i e b n c g;have run:∀b' n' c' w,(Builtin.cap_ ats ty #[.slice b' n' c']).run P w= .ok (.int .i64 c') w:=λb' n' c' w=>by simp[Builtin.cap_,d,Ts g,goInt]
  cases hc:Nat.ble unk c with
  |true=>
   rw[hc,Tk]at h;simp at h;subst h;have hc:=SX hc;cases hx with
   |slice i o p _ _ c' hp f hl=>rcases f with⟨_,h2⟩| ⟨_,h2,h3,_⟩;omega;exact⟨_,.ival .f64 _ _ c' (Ub (BL _) (Nat.max_le.2 ⟨h2,hl⟩)) h3,run _ _ _⟩
   |vague q c'=>exact⟨_,.ival .f64 _ _ c' (Ub (BL _) (Nat.max_le.2 ⟨by exact UJ _,UJ _⟩)) (.inl Sr),run _ _ _⟩
  |false=>
   rw[hc,Tl]at h;simp at h;subst h;have j:¬unk<=c:=λh=>by rw[Ta h]at hc;cases hc
   cases hx with
   |slice i o p _ _ c' hp f hl=>rcases f with⟨rfl,_⟩| ⟨h1,_⟩;exact⟨_,.int _ _,run _ _ _⟩;grind
   |vague q c'=>grind
 rename_i n e g;simp at h;subst h;refine⟨_,.int _ _,λw=>?_⟩;simp[Builtin.cap_,d,Ts g,goInt];cases h
def Mj (op:BinOp)(a b:Nat×Nat):Ag:=
 match op with
 | .lss=>(aK a b).map .bool| .gtr=>(aK b a).map .bool| .leq=>(aK b a).map λr=>.bool (!r)
 | .geq=>(aK a b).map λr=>.bool (!r)
 | .eql=>bif dL a b then some (.bool false)else none| .neq=>bif dL a b then some (.bool true)else none|_=>none
def irem (op:BinOp)(x y:Av):Ag:=
 match op,x,y with
 | .rem,.complex f lo _,.int k (.ofNat c)=>bif decide (Z0 f lo=k)&&Nat.ble 1 c then some (.complex f (lo/18446744073709551616*18446744073709551616) c)else none|_,_,_=>none
def Ff (op:BinOp)(x y:Av):Ag:=
 match R2 x,R2 y with
 |some (k,a),some (k',b)=>bif decide (k=k')then Mj op a b else none|_,_=>none
theorem T8 {op:BinOp}{t:Ax}{k:IntKind}{n m:Nat}{r:Bool}(h:lR op (n:Int) (m:Int)=some (.bool r))(hx:K9 op k (n:Int) (m:Int)=lR op (n:Int) (m:Int))(d f:Az):∃u,VR σ (.bool r) u/\ ∀w,((eqGuard op t d f (.int k n) (.int k m)).run P w= .ok () w)/\(binOp op t (.int k n) (.int k m)).run P w= .ok u w:=by
 have hb:bS P op t (.int k n) (.int k m)=some (.bool r):=by have:=hx.trans h;simp only[bS,Ua,Tk];exact this
 obtain⟨g,j⟩:=lP (σ:=σ) hb (.int k n) (.int k m) d f;grind
variable {y y':Av}
theorem Fg {op:BinOp}{t:Ax}(h:Ff op x y=some v)(hx:VR σ x x')(hy:VR σ y y')(d g:Az):∃u,VR σ v u/\ ∀w,((eqGuard op t d g x' y').run P w= .ok () w)/\(binOp op t x' y').run P w= .ok u w:=by
 have C:∀(f:IntKind) (a b:Nat×Nat),R2 x=some (f,a)->R2 y=some (f,b)->Mj op a b=some v-> ∃u,VR σ v u/\ ∀w,((eqGuard op t d g x' y').run P w= .ok () w)/\(binOp op t x' y').run P w= .ok u w:=by
  intro f a b H hb h;obtain⟨j,l⟩:=a;obtain⟨q,s⟩:=b;obtain⟨n,rfl,D,E⟩:=W9 H hx;obtain⟨m,rfl,m1,A⟩:=W9 hb hy;have lt:∀r,aK (j,l) (q,s)=some r->r=decide ((n:Int)<(m:Int)):=λr hr=>aM hr D E m1 A;have G:∀r,aK (q,s) (j,l)=some r->r=decide ((m:Int)<(n:Int)):=λr hr=>aM hr m1 A D E;have F:dL (j,l) (q,s)=true->(n:Int)≠m:=by intro z;unfold dL at z;grind
  unfold Mj at h;cases op;case lss=>simp only[Uz]at h;obtain⟨r,hr,rfl⟩:=h;exact T8 (by rw[lt r hr];rfl) rfl d g
  case gtr=>simp only[Uz]at h;obtain⟨r,hr,rfl⟩:=h;exact T8 (by rw[G r hr];rfl) rfl d g
  case leq=>simp only[Uz]at h;obtain⟨r,hr,rfl⟩:=h;refine T8 ?_ rfl d g;simp only[lR];congr 2;grind
  case geq=>simp only[Uz]at h;obtain⟨r,hr,rfl⟩:=h;refine T8 ?_ rfl d g;simp only[lR];congr 2;grind
  case eql=>
   cases hp:dL (j,l) (q,s)with
   |false=>grind|true=>simp only[hp,Tk,SQ]at h;subst h;exact T8 (by have:=F hp;simp[lR];omega) rfl d g
  case neq=>
   cases hp:dL (j,l) (q,s)with
   |false=>grind|true=>simp only[hp,Tk,SQ]at h;subst h;exact T8 (by have:=F hp;simp[lR];omega) rfl d g
  all_goals cases h
 unfold Ff at h;grind
theorem Gh {op:BinOp}{t:Ax}(h:irem op x y=some v)(hx:VR σ x x')(hy:VR σ y y')(g j:Az):∃u,VR σ v u/\ ∀w,((eqGuard op t g j x' y').run P w= .ok () w)/\(binOp op t x' y').run P w= .ok u w:=by
 unfold irem at h;split at h
 .rename_i f lo hi k c;cases hb:decide (Z0 f lo=k)&&Nat.ble 1 c with
  |false=>grind|true=>
   rw[hb,Tk,SQ]at h;subst h;simp only[SR,To]at hb;obtain⟨rfl,hc⟩:=hb;have hc:=SX hc;cases hx with
   |ival _ _ _ n h1 h2=>
   cases hy;have hx:bS P .rem t (.int (Z0 f lo) n) (.int (Z0 f lo) (Int.ofNat c))=some (.int (Z0 f lo) ((n:Int).tmod (Int.ofNat c))):=by
    have d:decide (Int.ofNat c=0)=false:=by grind
    simp only[bS,Ua,Tk,K9,d,Tl]
   obtain⟨_,q⟩:=lP (σ:=σ) hx (.int _ _) (.int _ _) g j;refine⟨_,?_,q⟩;have l:(n:Int).tmod (Int.ofNat c)=((n % c:Nat):Int):=by grind
   have m:Z0 f lo=Z0 f (lo/18446744073709551616*18446744073709551616):=by unfold Z0;grind
   rw[l,m];exact .ival f _ c (n % c) (by unfold gD;rw[Nat.mul_mod_left];exact UJ _) (.inr (Nat.mod_lt _ hc))
 cases h
def M5 (P:Aw)(op:BinOp)(t:Ax)(x y:Av):Ag:=
 match bS P op t x y with
 |some v=>some v|none=>match Ff op x y with
  |some v=>some v|none=>irem op x y
def Fe {op:BinOp}{t:Ax}(h:M5 P op t x y=some v)(hx:VR σ x x')(hy:VR σ y y')(d f:Az):∃u,VR σ v u/\ ∀w,((eqGuard op t d f x' y').run P w= .ok () w)/\(binOp op t x' y').run P w= .ok u w:=by unfold M5 at h;split at h;rename_i g hv;cases h;exact⟨_,lP hv hx hy d f⟩;split at h;rename_i g hv;cases h;exact Fg hv hx hy d f;exact Gh h hx hy d f
def xI (big:Bool):Av->Af->Ag
 |v,[]=>match v with
  | .int k n=>some (.int k n)|_=>none
 |v,y::ys=>match v,y with
  | .int k a,.int _ b=>xI big (.int k (bif big then(bif decide (a<b)then b else a)else(bif decide (b<a)then b else a))) ys|_,_=>none
theorem xH {P:Aw}{σ:Sg}:∀ {xs:Af} {x v:Av} {d:Af} {x':Av},xI true x xs=some v->VR σ x x'->VRL σ xs d->VR σ v v/\ ∀w,(d.foldlM Builtin.max2 x':Sem Av).run P w= .ok v w
 | [],x,v,d,x',h,hx,f=>by rw[f.unnil];unfold xI at h;split at h;simp at h;subst h;cases hx;exact⟨.int _ _,λw=>by simp⟩;cases h
 |y::ys,x,v,d,x',h,hx,f=>by
  obtain⟨y',l,rfl,hy,g⟩:=f.uncons;unfold xI at h;split at h
  .rename_i k a k' b;cases hx;cases hy;have j:=xH (P:=P) h (.int _ _) g;refine⟨j.1,λw=>?_⟩;have he:(Builtin.max2 (.int k a) (.int k' b)).run P w= .ok (.int k (bif true then(bif decide (a<b)then b else a)else(by omega))) w:=by simp only[Builtin.max2,Tk,TC];grind
   simp_all
  cases h
end Go.Xe
namespace Go.Xe
open Go.RowKit
def MOK (hp:Hp)(B:BS)(w0:Bc)(σ:Sg)(v:Av)(hp':Hp)(r:Result Av):Prop:=
 ∃σ' u w',r= .ok u w'/\Sg.gr hp.nx hp'.nx σ σ'/\VR σ' v u/\HR B w0 σ' hp' w'
def Hp.new (hp:Hp)(vs:Af)(e z:Nat):Hp:=⟨hp.m.set hp.nx (some (.cells (fill .e 0 vs) vs.length e z)),hp.nx+1⟩
section
variable {P :Aw}{B:BS}{w0:Bc}{σ:Sg}{hp:Hp}{w:Bc}
def p7 (vs:Af)(j:Nat)(hj:j<vs.length):(fill .e 0 vs).get j=vs[j]? :=by rw[j6,Tp (by omega)];simp
variable {us vs:Af}
theorem HR.new (h:HR B w0 σ hp w)(hv:VRL σ vs us)(e z:Nat):HR B w0 (σ.ext hp.nx ⟨w.heap.size,0,us.length,z⟩) (hp.new vs e z) (w.alloc (.cells us.toArray e)):=by
 have:=h.alloc (fill .e 0 vs) vs.length e z us.toArray (by rw[hv.1];simp) (λj hj=>by
  have d:j<us.length:=by rw[<-hv.1];exact hj
  refine⟨vs[j],us[j],by rw[p7 vs j hj];simp[hj],by grind,hv.2 j _ _ (by simp) (by simp)⟩)
 simpa [Hp.new]using this
def HR.le_new (h:HR B w0 σ hp w)(p:Pl):Sg.gr hp.nx (hp.nx+1) σ (σ.ext hp.nx p):=
 ⟨VB p (h.fresh _ (Tq _)),λi hi=>Vw _ _ _ (by omega),Ur _⟩
theorem VR.new (σ:Sg)(i:Nat)(p:Pl)(d:p.dl=0):VR (σ.ext i p) (.pointer (some ⟨i,0,none⟩)) (.pointer (some ⟨p.blk,0,none⟩)):=by have:=VR.ptr (σ:=σ.ext i p) i 0 p (Vy _ _ _);grind
def rgT :Ax:=130
variable {e k:Nat}{c:Ao}
def HR.liveG {B:BS}{w0:Bc}{σ:Sg}{hp:Hp}{w:Bc}(h:HR B w0 σ hp w){n z:Nat}(hg:hp.m.get 0=some (.reg c n e z))(hk:k<n):∃p C,σ.f 0 (k+1)=some p/\ ¬B p.blk/\w.heap[p.blk]? =some (.cells C e (0,0))/\C.size=z/\ ∀j,j<z-> ∃v u,c.get (k*z+j)=some v/\C[j]? =some u/\VR σ v u:=by obtain⟨p,o,h1,h2,h3,C,rfl,d,g⟩:=h.liv 0 _ (k+1) hg ⟨by omega,hk⟩;exact⟨p,C,h1,h2,h3,d,g⟩
variable {o:Nat}{p:Pl}
theorem HR.cellsG {B:BS}{w0:Bc}{σ:Sg}{hp:Hp}{w:Bc}(h:HR B w0 σ hp w){n z m:Nat}(hg:hp.m.get 0=some (.reg c n e z))(hk:k<n)(t:o+m<=z)(hl:j7 c (k*z+o) m=some vs)(hp':σ.f 0 (k+1)=some p):∃us,VRL σ vs us/\us.length=m/\ ∀j u,us[j]? =some u->w.cell? ((⟨p.blk,o,none⟩:Addr).add j)=some u:=by
 obtain⟨q,C,hq,_,s,hs,hc⟩:=h.liveG hg hk;have:q=p:=Tu (hq.symm.trans hp');subst this;obtain⟨g,d⟩:=m9 hl;refine⟨(C.toList.drop o).take m,⟨?_,?_⟩,?_,?_⟩;grind;grind;grind
 .intro j u l;have hj:j<m:=by grind
  rw[TB,Tp hj,TI]at l;rw[UH,cell_of_row w q.blk _ C e (0,0) s];grind
def Hp.setR (hp:Hp)(c:Ao)(n e z:Nat):Hp:= {hp with m:=hp.m.set 0 (some (.reg c n e z))}
theorem HR.storeG {B:BS}{w0:Bc}{σ:Sg}{hp:Hp}{w:Bc}(h:HR B w0 σ hp w){n z:Nat}(hg:hp.m.get 0=some (.reg c n e z))(hk:k<n)(S:σ.f 0 (k+1)=some p)(hv:VRL σ vs us)(h1:∀u∈us,u.oneCell'=true)(hs:o+vs.length<=z)(P:Aw):∃w',(storeCells ⟨p.blk,o,none⟩ us).run P w= .ok () w'/\HR B w0 σ (hp.setR (fill c (k*z+o) vs) n e z) w':=by
 obtain⟨p',C,L,g3,M,g5,g7⟩:=h.liveG hg hk;have:p'=p:=Tu (L.symm.trans S);subst this;have hr:=run_storeCells_at P p'.blk o e us 0 C w M (by rw[<-hv.1];omega) h1;simp only[Uj]at hr;have hl:=hv.1;have I:=setRow_heap w p'.blk C (C.toList.take o++us++C.toList.drop (o+us.length)).toArray e (0,0) M;have l:(C.toList.take o++us++C.toList.drop (o+us.length)).toArray.size=C.size:=by grind
 have J:Ix (.reg c n e z) (k+1):=⟨by omega,hk⟩
 have t:∀i b,(hp.setR (fill c (k*z+o) vs) n e z).m.get i=some b->(i=0/\b= .reg (fill c (k*z+o) vs) n e z)\/(i≠0/\hp.m.get i=some b):=by intro i b hi;have hi:(hp.m.set 0 (some (.reg (fill c (k*z+o) vs) n e z))).get i=some b:=hi;rw[VF]at hi;grind
 have g:∀i b r,(hp.setR (fill c (k*z+o) vs) n e z).m.get i=some b->Ix b r-> ∃b',hp.m.get i=some b'/\Ix b' r:=by intro i b r hi hx;rcases t i b hi with⟨rfl,rfl⟩| ⟨_,h2⟩;exact⟨_,hg,hx⟩;grind
 refine⟨_,hr,h.os,h.tape,h.output,by simpa [World.setRow]using h.size,h.old,λkk F=>?_,h.frs,λi b r hi hx=>?_,λi j b b' r s p q hi hj hx hy=>?_,λi b hi hb=>?_⟩;rw[setRow_other w _ kk _ (λe=>g3 (by rw[<-e];exact F))];exact h.kept kk F
 .rcases t i b hi with⟨rfl,rfl⟩| ⟨h0,h2⟩
  .obtain⟨q,D,d,K,A,X,d7⟩:=h.liveG hg (k:=r-1) (by have:1<=r/\r<=n:=hx;omega);have U:r-1+1=r:=by have:1<=r/\r<=n:=hx;omega
   rw[U]at d;by_cases G:r=k+1
   .subst G;have:q=p':=Tu (d.symm.trans L);subst this;have:D=C:=by rw[M]at A;cases A;rfl
    subst this;refine⟨q,_,d,K,I,_,rfl,by rw[l];exact X,λj hj=>?_⟩;show∃v u,(fill c (k*z+o) vs).get (k*z+j)=some v/\_;rw[j6];by_cases aa:o<=j/\j<o+vs.length
    .rw[Tp (by omega)];have E:j-o<vs.length:=by omega
     have Q:j-o<us.length:=by omega
     refine⟨vs[j-o],us[j-o],by rw[show k*z+j-(k*z+o)=j-o by omega];simp[E],?_,hv.2 (j-o) _ _ (by simp[E]) (by simp[Q])⟩;grind
    grind
   .have R:=h.ij 0 0 _ _ r (k+1) q p' hg hg hx J (.inr G) d L;refine⟨q,_,d,K,(setRow_other w _ q.blk _ R).trans A,D,rfl,X,λj hj=>?_⟩;show∃v u,(fill c (k*z+o) vs).get ((r-1)*z+j)=some v/\_;rw[j6,Tn ?_];grind
    .intro hh;have H:r-1≠k:=by omega
     rcases Nat.lt_or_gt_of_ne H with hlt|hgt;have:=Tg z (show r-1+1<=k from hlt);grind;have:=Tg z (show k+1<=r-1 from hgt);grind
  obtain⟨q,oq,d,d2,K,A⟩:=h.liv i b r h2 hx;exact⟨q,oq,d,d2,by rw[setRow_other w _ _ _ (h.ij i 0 _ _ r (k+1) q p' h2 hg hx J (.inl h0) d L)];exact K,A⟩
 obtain⟨Y,N,V⟩:=g i b r hi hx;obtain⟨Z,O,W⟩:=g j b' s hj hy;exact h.ij i j Y Z r s p q N O V W;rcases t i b hi with⟨rfl,rfl⟩| ⟨_,h2⟩;exact h.rz 0 (.reg c n e z) hg rfl;exact h.rz i b h2 hb
theorem HR.allocG {B:BS}{w0:Bc}{σ:Sg}{hp:Hp}{w:Bc}(h:HR B w0 σ hp w){n z:Nat}(hg:hp.m.get 0=some (.reg c n e z)){us:Al}(hv:VRL σ vs us.toList)(hz:vs.length=z):
  ∃σ',Sg.le σ σ'/\(∀i,σ' i=σ i)/\(∃p,σ'.f 0 (n+1)=some p/\p.blk=w.heap.size)/\HR B w0 σ' (hp.setR (fill c (n*z) vs) (n+1) e z) (w.alloc (.cells us e)):=by
 obtain⟨_,t⟩:=h.rz 0 _ hg rfl;let p:Pl:=⟨w.heap.size,0,us.size,z⟩
 let σ':Sg:=⟨λi r=>if i=0/\r=n+1 then some p else σ.f i r⟩
 have R:us.size=z:=by have:=hv.1;simp at this;omega
 have N:σ.f 0 (n+1)=none:=t _ (by omega) (λhx=>by have:1<=n+1/\n+1<=n:=hx;omega);have G:σ'.f 0 (n+1)=some p:=Tp ⟨rfl,rfl⟩;have hs1:∀i r,¬(i=0/\r=n+1)->σ'.f i r=σ.f i r:=λi r hn=>Tn hn;have g:Sg.le σ σ':=λi q {r} hq=>by grind
 have H:∀i b r,(hp.setR (fill c (n*z) vs) (n+1) e z).m.get i=some b->Ix b r->(i=0/\r=n+1/\b= .reg (fill c (n*z) vs) (n+1) e z)\/(¬(i=0/\r=n+1)/\ ∃b',hp.m.get i=some b'/\Ix b' r/\((i=0/\b'= .reg c n e z/\b= .reg (fill c (n*z) vs) (n+1) e z)\/(i≠0/\b=b'))):=by intro i b r hi hx;have hi:(hp.m.set 0 (some (.reg (fill c (n*z) vs) (n+1) e z))).get i=some b:=hi;rw[VF]at hi;by_cases h0:i=0;rw[Tp h0,SQ]at hi;subst hi;subst h0;have hx:1<=r/\r<=n+1:=hx;by_cases hr:r=n+1;grind;exact .inr ⟨by omega,_,hg,⟨hx.1,by omega⟩,.inl ⟨rfl,rfl,rfl⟩⟩;grind
 refine⟨σ',g,λi=>hs1 i 0 (by omega),⟨p,G,rfl⟩,h.os,h.tape,h.output,by simp;have:=h.size;omega,h.old,λk hk=>by rw[Below.heap_alloc _ _ _ (by have:=h.old k hk;have:=h.size;omega)];exact h.kept k hk,λi r hi=>?_,λi b r hi hx=>?_,λi j b b' r s q q' hi hj hx hy M hq O=>?_,λi b hi hb=>?_⟩;rw[hs1 i r ?_];exact h.frs i r hi;rintro ⟨rfl,rfl⟩;obtain⟨⟨q,hq⟩,_⟩:=h.rz 0 _ hg rfl;have hi:hp.nx<=0:=hi;have:=h.frs 0 0 hi;grind
 .rcases H i b r hi hx with⟨rfl,rfl,rfl⟩| ⟨hn,b',A,l,hc⟩
  .refine⟨p,_,G,(λhB=>by have h1:=h.old _ hB;have h2:=h.size;have:p.blk=w.heap.size:=rfl;omega),?_,us,rfl,R,λj hj=>?_⟩;show(w.heap.push _)[w.heap.size]? =_;simp
   .show∃v u,(fill c (n*z) vs).get ((n+1-1)*z+j)=some v/\_;have E:j<us.size:=by omega
    rw[j6,show n+1-1=n by omega,Tp (by omega),show n*z+j-n*z=j by omega];have F:j<vs.length:=by omega
    refine⟨vs[j],us[j],by simp[F],by simp[E],(hv.2 j _ _ (by simp[F]) (by simp[E])).mono g⟩
  .obtain⟨q,o,I,S,J,U⟩:=h.liv i b' r A l;have D:(w.alloc (.cells us e)).heap[q.blk]? =some o:=by rw[Below.heap_alloc _ _ _ (Ti.1 J).1];exact J
   rcases hc with⟨rfl,rfl,rfl⟩| ⟨h0,rfl⟩;obtain⟨C,K,L,e3⟩:=U;refine⟨q,o,(hs1 0 r hn).trans I,S,D,C,K,L,λj hj=>?_⟩;obtain⟨v,u,V,W,X⟩:=e3 j hj;refine⟨v,u,?_,W,X.mono g⟩;show(fill c (n*z) vs).get ((r-1)*z+j)=some v;rw[j6,Tn ?_];exact V;have l:1<=r/\r<=n:=l;have:=Tg z (show r-1+1<=n by omega);grind;exact⟨q,o,(hs1 i r hn).trans I,S,D,U.mono g⟩
 .have fr:∀i b r q,(hp.setR (fill c (n*z) vs) (n+1) e z).m.get i=some b->Ix b r-> ¬(i=0/\r=n+1)->σ'.f i r=some q->q.blk<w.heap.size/\ ∃b',hp.m.get i=some b'/\Ix b' r/\σ.f i r=some q:=by intro i b r q hi hx hn hq;rcases H i b r hi hx with⟨rfl,rfl,rfl⟩| ⟨_,b',A,l,_⟩;grind;rw[hs1 i r hn]at hq;obtain⟨q2,o,I,_,J,_⟩:=h.liv i b' r A l;grind
  by_cases K:i=0/\r=n+1<;>by_cases L:j=0/\s=n+1;omega;grind;grind;obtain⟨_,Y,k1,k2,k3⟩:=fr i b r q hi hx K hq;obtain⟨_,Z,m1,m2,m3⟩:=fr j b' s q' hj hy L O;exact h.ij i j Y Z r s q q' k1 m1 k2 m2 M k3 m3
 have d:(hp.m.set 0 (some (.reg (fill c (n*z) vs) (n+1) e z))).get i=some b:=hi;rw[VF]at d;by_cases h0:i=0;subst h0;rw[Tp rfl,SQ]at d;subst d;obtain⟨⟨q,hq⟩,hr⟩:=h.rz 0 _ hg rfl;exact⟨⟨q,g _ _ hq⟩,λr Q hx=>by have hx:¬(1<=r/\r<=n+1):=hx;rw[hs1 0 r (by omega)];exact hr r Q (λhy=>hx (by have:1<=r/\r<=n:=hy;omega))⟩;rw[Tn h0]at d;obtain⟨⟨q,hq⟩,hr⟩:=h.rz i b d hb;grind
inductive Nv where
 |ptr
 |slice (l c:Nat)
 |map
structure Nw where
 blk:Blk
 v:Nv
 ok:(dM blk||kS blk)=false:=by rfl
def Nw.ro (n:Nw):dM n.blk=false:=(UV.1 n.ok).1
def Nw.rg (n:Nw):kS n.blk=false:=(UV.1 n.ok).2
def Nw.val (n:Nw)(id:Nat):Av:=
 match n.v with
 | .ptr=>.pointer (some ⟨id,0,none⟩)| .slice l c=>.slice (some ⟨id,0,none⟩) l c| .map=>.map (some id)
def H8 (vs:Af)(e z:Nat):Blk:= .cells (fill .e 0 vs) vs.length e z
theorem iT (h:VRL σ vs us)(e z b:Nat):BR σ ⟨b,0,us.length,z⟩ (H8 vs e z) (.cells us.toArray e):=by
 refine⟨us.toArray,rfl,rfl,by simp,by simp[h.1],λj hj=>?_⟩;have d:j<us.length:=by rw[<-h.1];exact hj
 exact⟨vs[j],us[j],by rw[p7 vs j hj];simp[hj],by grind,h.2 j _ _ (by simp) (by simp)⟩
def qR (P:Aw)(σ:Sg)(n:Nw)(s:Sem Av):Prop:=
 (∀l c,n.v= .slice l c->l<=c/\c<unk)/\ ∃o siz z,(∀b,BR σ ⟨b,0,siz,z⟩ n.blk o)/\ ∀w,s.run P w= .ok (n.val w.heap.size) (w.alloc o)
def Hp.add (hp:Hp)(n:Nw):Av×Hp:=(n.val hp.nx,⟨hp.m.set hp.nx (some n.blk),hp.nx+1⟩)
variable {n:Nw}
theorem Nw.val_VR {σ:Sg}(h:∀l c,n.v= .slice l c->l<=c/\c<unk)(d b siz z:Nat):VR (σ.ext d ⟨b,0,siz,z⟩) (n.val d) (n.val b):=by
 unfold Nw.val;cases hv:n.v with
 |ptr=>exact VR.new σ d ⟨b,0,siz,z⟩ rfl|slice l c=>obtain⟨h1,h2⟩:=h l c hv;have:=VR.slice (σ:=σ.ext d ⟨b,0,siz,z⟩) d 0 ⟨b,0,siz,z⟩ l c c (Vy _ _ _) (.inl ⟨rfl,h2⟩) h1;grind
 |map=>exact VR.map d ⟨b,0,siz,z⟩ (Vy _ _ _)
def qR.mok {s:Sem Av}(h:qR P σ n s)(d:HR B w0 σ hp w):MOK hp B w0 σ (hp.add n).1 (hp.add n).2 (s.run P w):=by obtain⟨h1,o,siz,z,h2,h3⟩:=h;refine⟨σ.ext hp.nx ⟨w.heap.size,0,siz,z⟩,_,_,h3 w,d.le_new _,Nw.val_VR h1 _ _ _ _,?_⟩;exact d.allocO hp.nx (hp.nx+1) (d.fresh _ (Tq _)) (Ur _) (Ue _) n.blk o _ rfl ((h2 _).mono (d.le_new _).le) n.ro n.rg
def aW (P:Aw)(e:Ax):Bb Nw:=
 match S9 P e with
 |some z=>some ⟨H8 z.cells.toList e z.cells.toList.length,.ptr,rfl⟩|none=>none
theorem yG {e:Ax}(h:aW P e=some n):qR P σ n (Instr.alloc e true (.tuple #[])):=by unfold aW at h;split at h;rename_i z hz;cases h;obtain⟨hc,hr⟩:=Q7 hz;refine⟨(λl c h=>by grind),.cells z.cells e,z.cells.toList.length,_,(λb=>by simpa using iT (dF σ hc).cells e z.cells.toList.length b),λw=>?_⟩;simp[Instr.alloc,hr,newVar,newRow,Nw.val];cases h
def AU (e:Ax)(x:Av):Nw:=⟨H8 x.cells.toList e x.cells.toList.length,.ptr,rfl⟩
variable {x x':Av}
def Fi {e:Ax}(hx:VR σ x x'):qR P σ (AU e x) (Instr.box e x'):=by refine⟨(λl c h=>by cases h),.cells x'.cells e,x'.cells.toList.length,_,(λb=>by simpa [AU]using iT hx.cells e x.cells.toList.length b),λw=>?_⟩;simp[Instr.box,newVar,newRow,Nw.val,AU]
def oD (P:Aw)(t:Ax)(x:Av):Bb Nw:=
 match P.underlying t,x with
 |some .string,.string s=>some ⟨.sit s 0,.ptr,rfl⟩|_,_=>none
theorem yI {t:Ax}(h:oD P t x=some n)(hx:VR σ x x'):qR P σ n (Instr.range t x'):=by unfold oD at h;split at h;rename_i s d;cases h;cases hx;refine⟨(λl c h=>by grind),.stringIter s 0,0,0,(λb=>⟨rfl,rfl⟩),λw=>?_⟩;simp[Instr.range,Ts d,Nw.val];cases h
def qI (P:Aw)(hp:Hp)(t:Ax)(k o:Nat):Ag:=
 match hp.m.get 0 with
 |some (.reg c n _ z)=>match P.underlying t with
  | some d => bif dD d then
    match P.info? t with
    | some ti => bif Nat.ble (k + 1) n && Nat.ble (o + ti.size) z then
      match j7 c (k*z+o) ti.size with
      |some vs=>some (.agg vs.toArray)|none=>none
     else none
    |none=>none
   else bif Nat.ble (k+1) n&&Nat.ble (o+1) z then c.get (k*z+o)else none
  |none=>none
 |_=>none
variable {v:Av}
theorem CY {t:Ax}(h:qI P hp t k o=some v)(hp':σ.f 0 (k+1)=some p)(m:HR B w0 σ hp w):∃u,VR σ v u/\(Instr.loadAt t (.pointer (some ⟨p.blk,o,none⟩))).run P w= .ok u w:=by
 unfold qI at h;split at h
 .rename_i c n e z hg;split at h
  .rename_i d l;cases g:dD d with
   |true=>
    rw[g,Tk]at h;split at h
    .rename_i q j;cases hb:Nat.ble (k+1) n&&Nat.ble (o+q.size) z with
     |false=>grind|true=>rw[hb,Tk]at h;simp only[SR,TY]at hb;split at h;rename_i vs hl;simp only[SQ]at h;subst h;obtain⟨us,h1,h2,h3⟩:=m.cellsG hg hb.1 hb.2 hl hp';refine⟨.agg us.toArray,h1.to_agg,?_⟩;have:=run_loadCells_list (P:=P) w ⟨p.blk,o,none⟩ us h3;rw[h2]at this;simp[Instr.loadAt,Instr.sureAddr,loadVar,Y2 l,g,sizeOf,typeInfo,j,this];cases h
    cases h
   |false=>
    rw[g,Tl]at h;cases hb:Nat.ble (k+1) n&&Nat.ble (o+1) z with
    |false=>grind|true=>
     rw[hb,Tk]at h;simp only[SR,TY]at hb;have hl:j7 c (k*z+o) 1=some [v]:=by simp[j7,h]
     obtain⟨us,h1,h2,h3⟩:=m.cellsG hg hb.1 hb.2 hl hp';obtain⟨u,s,rfl,hv,_⟩:=h1.uncons;refine⟨u,hv,?_⟩;have:=h3 0 u rfl;rw[Addr.add_zero']at this;simp[Instr.loadAt,Instr.sureAddr,loadVar,Y2 l,g,this]
  cases h
 cases h
def G5 (P:Aw)(hp:Hp)(t:Ax)(a:Av):Ag:=
 match a with
 | .pointer (some ⟨k,o,some 1⟩)=>qI P hp t k o| .pointer (some ⟨i,o,none⟩)=>match hp.m.get i with
  |some b=>match rdC b with
   |some (c,n,_)=>match P.underlying t with
    | some d => bif dD d then
      match P.info? t with
      | some ti => bif Nat.ble (o + ti.size) n then
        match j7 c o ti.size with
        |some vs=>some (.agg vs.toArray)|none=>none
       else none
      |none=>none
     else bif Nat.ble (o+1) n then c.get o else none
    |none=>none
   |none=>none
  |none=>none
 |_=>none
variable {a a':Av}
theorem rL {t:Ax}(h:G5 P hp t a=some v)(l:VR σ a a')(j:HR B w0 σ hp w):∃u,VR σ v u/\(Instr.loadAt t a').run P w= .ok u w:=by
 unfold G5 at h;split at h
 .rename_i k o;cases l with
  |rptr _ _ p hp'=>exact CY h hp' j
 .rename_i i o;cases l with
  |ptr _ _ p hp'=>
  split at h
  .rename_i b hg;split at h
   .rename_i c n z hr;split at h
    .rename_i d m;cases f:dD d with
     |true=>
      rw[f,Tk]at h;split at h
      .rename_i q g;cases hb:Nat.ble (o+q.size) n with
       |false=>grind|true=>rw[hb,Tk]at h;split at h;rename_i vs hl;simp only[SQ]at h;subst h;obtain⟨us,h1,h2,h3⟩:=j.cellsR hg hr (SX hb) hl hp';refine⟨.agg us.toArray,h1.to_agg,?_⟩;have:=run_loadCells_list (P:=P) w ⟨p.blk,p.dl+o,none⟩ us h3;rw[h2]at this;simp[Instr.loadAt,Instr.sureAddr,loadVar,Y2 m,f,sizeOf,typeInfo,g,this];cases h
      cases h
     |false=>
      rw[f,Tl]at h;cases hb:Nat.ble (o+1) n with
      |false=>grind|true=>
       rw[hb,Tk]at h;have hl:j7 c o 1=some [v]:=by simp[j7,h]
       obtain⟨us,h1,h2,h3⟩:=j.cellsR hg hr (SX hb) hl hp';obtain⟨u,s,rfl,hv,_⟩:=h1.uncons;refine⟨u,hv,?_⟩;have:=h3 0 u rfl;rw[Addr.add_zero']at this;simp[Instr.loadAt,Instr.sureAddr,loadVar,Y2 m,f,this]
    cases h
   cases h
  cases h
 cases h
def qK (hp:Hp)(i:Nat)(c:Ao)(n e z o:Nat)(vs:Af):Hp:=
 (fill c o vs).force λc'=> {hp with m:=hp.m.set i (some (.cells c' n e z))}
def N4 (hp:Hp)(i:Nat)(c:Ao)(n e z o:Nat)(vs:Af):qK hp i c n e z o vs= {hp with m:=hp.m.set i (some (.cells (fill c o vs) n e z))}:=by unfold qK;rw[VC]
def Dh (P:Aw)(hp:Hp)(t:Ax)(k o:Nat)(x:Av):Bb Hp:=
 match hp.m.get 0 with
 |some (.reg c n e z)=>match P.info? t with
  |some ti=>bif Nat.beq x.cells.toList.length ti.size&&Nat.ble (k+1) n&&Nat.ble (o+ti.size) z&&x.cells.toList.all Value.oneCell' then some (hp.setR (fill c (k*z+o) x.cells.toList) n e z)else none|none=>none
 |_=>none
def xJ (hp:Hp)(vs:Af):Bb (Av×Hp):=
 match hp.m.get 0 with
 |some (.reg c n e z)=>bif Nat.beq e rgT&&Nat.beq vs.length z then some (.pointer (some ⟨n,0,some 1⟩),hp.setR (fill c (n*z) vs) (n+1) e z)else none|_=>none
theorem rM {us:Al}{hp':Hp}(h:xJ hp vs=some (v,hp'))(hv:VRL σ vs us.toList)(f:HR B w0 σ hp w):∃σ',Sg.gr hp.nx hp'.nx σ σ'/\VR σ' v (.pointer (some ⟨w.heap.size,0,none⟩))/\HR B w0 σ' hp' (w.alloc (.cells us rgT)):=by
 unfold xJ at h;split at h
 .rename_i c n e z hg;cases hb:Nat.beq e rgT&&Nat.beq vs.length z with
  |false=>grind|true=>rw[hb,Tk]at h;simp only[SR,TJ]at hb;obtain⟨rfl,hz⟩:=hb;cases h;obtain⟨σ',h1,h2,⟨p,h3,h4⟩,d⟩:=f.allocG hg hv hz;refine⟨σ',⟨h1,λi _=>h2 i,Tq _⟩,?_,d⟩;rw[<-h4];exact .rptr n 0 p h3
 cases h
def I5 (P:Aw)(hp:Hp)(t:Ax)(a x:Av):Bb Hp:=
 match a with
 | .pointer (some ⟨k,o,some 1⟩)=>Dh P hp t k o x| .pointer (some ⟨i,o,none⟩)=>match hp.m.get i with
  |some (.cells c n e z)=>match P.info? t with
   |some ti=>bif Nat.beq x.cells.toList.length ti.size&&Nat.ble (o+ti.size) n&&x.cells.toList.all Value.oneCell' then some (qK hp i c n e z o x.cells.toList)else none|none=>none
  |_=>none
 |_=>none
theorem VRL.all_oneCell (h:VRL σ vs us)(hv:vs.all Value.oneCell'=true):∀u∈us,u.oneCell'=true:=by
 intro u f;obtain⟨j,hj,rfl⟩:=List.mem_iff_getElem.1 f;have d:j<vs.length:=by rw[h.1];exact hj
 exact(h.2 j vs[j] us[j] (by simp) (by simp)).oneCell (by grind)
theorem HR.place (f:HR B w0 σ hp w){i n z:Nat}(hg:hp.m.get i=some (.cells c n e z))(d:σ i=some p):p.dl+n<=p.siz/\p.esz=z:=by obtain⟨p',C,g,h,_,_,_,j,_⟩:=f.liveC hg;grind
theorem Di {t:Ax}{hp':Hp}(h:I5 P hp t a x=some hp')(q:VR σ a a')(hx:VR σ x x')(m:HR B w0 σ hp w):∃w',(Instr.storeAt t a' x').run P w= .ok () w'/\HR B w0 σ hp' w'/\hp'.nx=hp.nx:=by
 unfold I5 at h;split at h
 .rename_i k o;cases q with
  |rptr _ _ p f=>
  unfold Dh at h;split at h
  .rename_i c n e z hg;split at h
   .rename_i j g;cases hb:Nat.beq x.cells.toList.length j.size&&Nat.ble (k+1) n&&Nat.ble (o+j.size) z&&x.cells.toList.all Value.oneCell' with
    |false=>grind|true=>
     rw[hb,Tk]at h;simp only[SQ]at h;subst h;simp only[SR]at hb;have l:=SY hb.1.1.1;have s:=SX hb.1.2;have A:=SX hb.1.1.2;have d:=hx.cells;obtain⟨w',hr,hh⟩:=m.storeG (o:=o) hg A f d (d.all_oneCell hb.2) (by omega) P;refine⟨w',?_,hh,rfl⟩;have hs:x'.cells.size=j.size:=by rw[<-l,d.1];simp
     simp[Instr.storeAt,Instr.sureAddr,storeVar,sizeOf,typeInfo,g,hs,hr]
   cases h
  cases h
 .rename_i i o;cases q with
  |ptr _ _ p f=>
  split at h
  .rename_i c n e z hg;split at h
   .rename_i j g;cases hb:Nat.beq x.cells.toList.length j.size&&Nat.ble (o+j.size) n&&x.cells.toList.all Value.oneCell' with
    |false=>grind|true=>
     rw[hb,Tk,N4]at h;simp only[SQ]at h;subst h;simp only[SR]at hb;have l:=SY hb.1.1;have s:=SX hb.1.2;have d:=hx.cells;obtain⟨k1,_⟩:=m.place hg f;obtain⟨w',hr,hh,_⟩:=m.store (o:=o) hg f d (d.all_oneCell hb.2) (by omega) (by omega) P;refine⟨w',?_,?_,rfl⟩
     .have hs:x'.cells.size=j.size:=by rw[<-l,d.1];simp
      simp[Instr.storeAt,Instr.sureAddr,storeVar,sizeOf,typeInfo,g,hs,hr]
     grind
   cases h
  cases h
 cases h
def xrep :Nat->Af->Af
 |0,_=>[]
 |n+1,zs=>zs++xrep n zs
def xrep_length (d:Af):∀n,(xrep n d).length=n*d.length
 |0=>by simp[xrep]|n+1=>by simp[xrep,xrep_length d n,Uk,Nat.add_comm]
def dA (d:Af):∀(n j:Nat),j<n*d.length->(xrep n d)[j]? =d[j % d.length]?
 |0,j,h=>by simp at h|n+1,j,h=>by simp only[xrep];by_cases hj:j<d.length;rw[Tc hj,UP hj];rw[Tb (by omega),dA d n (j-d.length) (by rw[Uk]at h;omega)];rw[Nat.mod_eq_sub_mod (by omega:d.length<=j)]
theorem iQ (z:Al)(n:Nat):((Array.range (n*z.size)).map (λi=>z[i % z.size]!)).toList=xrep n z.toList:=by
 apply List.ext_getElem?;intro j;by_cases hj:j<n*z.size
 .rw[dA z.toList n j (by omega)];have hz:0<z.size:=by grind
  have hm:j % z.size<z.size:=Nat.mod_lt _ hz;grind
 rw[US (by grind),US (by rw[xrep_length];simp;omega)]
def VRL.xrep {d:Af}(h:VRL σ d d):∀n,VRL σ (xrep n d) (xrep n d)
 |0=>VP σ|n+1=>h.append (VRL.xrep h n)
def Hz (P:Aw)(t:Ax)(len:Nat)(parts:List (Nat×Av)):Bb Nw:=
 match P.underlying t with
 |some (.slice e)=>match P.info? e with
  |some ie=>match S9 P e with
   | some z => bif Nat.beq z.cells.toList.length ie.size && Nat.ble (len * ie.size) 16777216 && Nat.ble len 16777216 then
     match kE (λi=>some (i*ie.size,ie.size)) (xrep len z.cells.toList) parts with
     |some cs=>some ⟨H8 cs e ie.size,.slice len len,rfl⟩|none=>none
    else none
   |none=>none
  |none=>none
 |_=>none
theorem HA {t:Ax}{len:Nat}{xs:List (Nat×Av)}{ys:Array (Nat×Av)}(h:Hz P t len xs=some n)(hy:PVR σ xs ys.toList):qR P σ n (Instr.buildSlice t len ys):=by
 unfold Hz at h;split at h
 .rename_i e s;split at h
  .rename_i ie f;split at h
   .rename_i z hz;cases hb:Nat.beq z.cells.toList.length ie.size&&Nat.ble (len*ie.size) 16777216&&Nat.ble len 16777216 with
    |false=>grind|true=>
     rw[hb,Tk]at h;simp only[SR]at hb;have A:=SY hb.1.1;have C:=SX hb.1.2;have D:=SX hb.2;split at h
     .rename_i cs hf;cases h;obtain⟨hc,m⟩:=Q7 hz;have q:=(dF σ hc).cells;have d:∀g:Al,g=(if len*ie.size=0 then #[]else z.cells)->((Array.range (len*ie.size)).map (λi=>g[i % g.size]!)).toList=xrep len z.cells.toList:=by intro g j;by_cases h0:len*ie.size=0;have hl:=SZ (by rw[xrep_length,A];exact h0);grind;rw[Tn h0]at j;have:=iQ z.cells len;grind
      obtain⟨ds,h1,h2⟩:=iD _ xs ys.toList (xrep len z.cells.toList) cs ((Array.range (len*ie.size)).map (λi=>(if len*ie.size=0 then #[]else z.cells)[i % (if len*ie.size=0 then #[]else z.cells).size]!)) hf hy
       (by rw[d _ rfl];exact q.xrep len)
      refine⟨(λl c h=>by cases h;exact⟨Tq _,by unfold unk;omega⟩),.cells ds e,ds.toList.length,_,(λb=>by simpa using iT h2 e ie.size b),λw=>?_⟩;have hgt:¬len*ie.size>2^24:=by omega
      by_cases h0:len*ie.size=0;rw[Tp h0]at h1;simp only[Instr.buildSlice,Tx,Ts s,Tt,sizeOf,typeInfo,UO,f,TC,Tn hgt,Tp h0,h1,newRow,run_newObj];rfl;rw[Tn h0]at h1;simp only[Instr.buildSlice,Tx,Ts s,Tt,sizeOf,typeInfo,UO,f,TC,Tn hgt,Tn h0,m,h1,newRow,run_newObj];rfl
     cases h
   cases h
  cases h
 cases h
def KP (P:Aw)(t:Ax)(l c:Av):Bb Nw:=
 match l,c with
 | .int _ ln,.int _ cn=>match P.underlying t with
  |some (.slice e)=>match P.info? e with
   |some ie=>match S9 P e with
    | some z => bif decide (0 ≤ ln) && decide (ln ≤ cn) && decide (cn ≤ 1048576) && Nat.ble ie.bytes 1048576 && Nat.beq z.cells.toList.length ie.size then
      some ⟨H8 (xrep cn.toNat z.cells.toList) e ie.size,.slice ln.toNat cn.toNat,rfl⟩
     else none
    |none=>none
   |none=>none
  |_=>none
 |_,_=>none
theorem HD {t:Ax}{l c l' c':Av}(h:KP P t l c=some n)(hl:VR σ l l')(hc:VR σ c c'):qR P σ n (Instr.makeSlice t l' c'):=by
 unfold KP at h;split at h
 .rename_i k1 ln k2 d;cases hl;cases hc;split at h
  .rename_i e F;split at h
   .rename_i ie j;split at h
    .rename_i z hz;cases hb:decide (0<=ln)&&decide (ln<=d)&&decide (d<=1048576)&&Nat.ble ie.bytes 1048576&&Nat.beq z.cells.toList.length ie.size with
     |false=>grind|true=>
      rw[hb,Tk]at h;simp only[SR,To]at hb;obtain⟨⟨⟨⟨L,M⟩,I⟩,D⟩,J⟩:=hb;have D:=SX D;have K:=SY J;cases h;obtain⟨q,A⟩:=Q7 hz;have C:=(dF σ q).cells;have H:IntKind.i64.wrap ln=ln:=IntWalk.i64_in _ (by omega);have G:IntKind.i64.wrap d=d:=IntWalk.i64_in _ (by omega);have f:∀m:Al,m=(if d.toNat*ie.size=0 then #[]else z.cells)->(Array.range (d.toNat*ie.size)).map (λi=>m[i % m.size]!)=(xrep d.toNat z.cells.toList).toArray:=by intro m s;by_cases h0:d.toNat*ie.size=0;have hl:=SZ (by rw[xrep_length,K];exact h0);grind;rw[Tn h0]at s;have:=iQ z.cells d.toNat;grind
      refine⟨(λl c h=>by cases h;exact⟨by omega,by unfold unk;omega⟩),.cells (xrep d.toNat z.cells.toList).toArray e,_,_,(λb=>iT (C.xrep d.toNat) e ie.size b),λw=>?_⟩;have E:¬((ie.bytes:Int)*d>2^48):=by have h1:(ie.bytes:Int)*d<=1048576*1048576:=Int.mul_le_mul (by omega) I (by omega) (by omega);omega
      have g:¬((decide (d<0)||decide ((ie.bytes:Int)*d>2^48))||decide (ln<0)||decide (ln>d))=true:=by grind
      by_cases h0:d.toNat*ie.size=0;have:=f #[] (by grind);simp only[Instr.makeSlice,Tx,Ts F,Tt,asInt,asIntOf,TC,typeInfo,UO,j,H,G,Tn g,run_askRoom,sizeOf,Tp h0,this,newRow,run_newObj];rfl;have:=f z.cells (by rw[Tn h0]);simp only[Instr.makeSlice,Tx,Ts F,Tt,asInt,asIntOf,TC,typeInfo,UO,j,H,G,Tn g,run_askRoom,sizeOf,Tn h0,A,this,newRow,run_newObj];rfl
    cases h
   cases h
  cases h
 cases h
