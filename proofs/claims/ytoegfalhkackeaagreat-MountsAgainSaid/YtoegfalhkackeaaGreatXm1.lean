/- The executor, parts 1, 2, 3, 4, 5, 6, 7.
  Conditions: none. -/
import Derived.WalkSpells
set_option linter.all false
noncomputable section
namespace Go
abbrev Bc:=World
abbrev Bb:=Option
abbrev Ba:=TypeInfo
abbrev Az:=Operand
abbrev Ay:=FuncId
abbrev Ax:=TypeId
abbrev Aw:=Program
abbrev Av:=Value
abbrev Aq:=Option Addr
abbrev An:=List Oper
abbrev Am:=Array Oper
abbrev Al:=Array Value
abbrev Ak:=List Int
abbrev Ai:=Option Nat
abbrev Ah:=List Nat
abbrev Ag:=Option Value
abbrev Af:=List Value
abbrev Ae:=List UInt8
abbrev Aa:=FuncId ->Option TypeId
end Go
namespace Go.Xe
def Tk:type_of% @Option.some.injEq:=@Option.some.injEq
def Tl:type_of% @Bool.and_eq_true:=@Bool.and_eq_true
def Tm:type_of% @Prod.mk.injEq:=@Prod.mk.injEq
def Tn:type_of% @List.getElem?_eq_some_iff:=@List.getElem?_eq_some_iff
def To:type_of% @Nat.le_of_ble_eq_true:=@Nat.le_of_ble_eq_true
def Tp:type_of% @Nat.eq_of_beq_eq_true:=@Nat.eq_of_beq_eq_true
def Tq:type_of% @List.eq_nil_of_length_eq_zero:=@List.eq_nil_of_length_eq_zero
def Ts:type_of% @Nat.ble_eq_true_of_le:=@Nat.ble_eq_true_of_le
def Tt:type_of% @List.getElem?_append_right:=@List.getElem?_append_right
def Tu:type_of% @List.getElem?_append_left:=@List.getElem?_append_left
def Tv:type_of% @List.mem_of_getElem?:=@List.mem_of_getElem?
def Tw:type_of% @List.getElem?_cons_succ:=@List.getElem?_cons_succ
def Tx:type_of% @List.getElem?_eq_getElem:=@List.getElem?_eq_getElem
def Ty:type_of% @Nat.mul_le_mul_right:=@Nat.mul_le_mul_right
def Tz:type_of% @List.append_assoc:=@List.append_assoc
def TB:type_of% @Array.getElem?_eq_some_iff:=@Array.getElem?_eq_some_iff
def TC:type_of% @List.getElem?_cons_zero:=@List.getElem?_cons_zero
def TE:type_of% @cond_true:=@cond_true
def TF:type_of% @cond_false:=@cond_false
def TG:type_of% @List.length_map:=@List.length_map
def TH:type_of% @if_neg:=@if_neg
def TI:type_of% @decide_eq_true_eq:=@decide_eq_true_eq
def TJ:type_of% @if_pos:=@if_pos
def TK:type_of% @Nat.le_refl:=@Nat.le_refl
def TL:type_of% @run_underlying:=@run_underlying
def TM:type_of% @Result.andThen_ok:=@Result.andThen_ok
def TN:type_of% @Option.some.inj:=@Option.some.inj
def TO:type_of% @List.length_append:=@List.length_append
def TP:type_of% @And.intro:=@And.intro
def TQ:type_of% @Sem.run_bind:=@Sem.run_bind
def TS:type_of% @List.all_eq_true:=@List.all_eq_true
def TT:type_of% @Nat.zero_add:=@Nat.zero_add
def TU:type_of% @List.getElem?_take:=@List.getElem?_take
def TV:type_of% @Sem.run_pure:=@Sem.run_pure
def TW:type_of% @List.length_take:=@List.length_take
def TX:type_of% @Nat.add_mul:=@Nat.add_mul
def TY:type_of% @List.mem_append:=@List.mem_append
def TZ:type_of% @List.mem_cons:=@List.mem_cons
def Ua:type_of% @List.getElem?_drop:=@List.getElem?_drop
def Ub:type_of% @Nat.beq_eq:=@Nat.beq_eq
def Uc:type_of% @Int.toNat_natCast:=@Int.toNat_natCast
def Ud:type_of% @Option.getD_some:=@Option.getD_some
def Ue:type_of% @List.length_cons:=@List.length_cons
def Uf:type_of% @true_implies:=@true_implies
def Ug:type_of% @Option.map_some:=@Option.map_some
def Uh:type_of% @Bool.not_eq_true':=@Bool.not_eq_true'
def Ui:type_of% @List.map_append:=@List.map_append
def Uj:type_of% @decide_eq_false_iff_not:=@decide_eq_false_iff_not
def Uk:type_of% @List.take_of_length_le:=@List.take_of_length_le
def Ul:type_of% @List.getElem?_map:=@List.getElem?_map
def Um:type_of% @List.map_cons:=@List.map_cons
def Un:type_of% @List.length_drop:=@List.length_drop
def Uo:type_of% @Nat.lt_of_lt_of_le:=@Nat.lt_of_lt_of_le
def Up:type_of% @Nat.ble_eq:=@Nat.ble_eq
def Uq:type_of% @List.mem_iff_getElem?:=@List.mem_iff_getElem?
def Ur:type_of% @decide_true:=@decide_true
def Us:type_of% @Nat.le_trans:=@Nat.le_trans
def Ut:type_of% @List.mem_cons_of_mem:=@List.mem_cons_of_mem
def Uu:type_of% @Nat.add_assoc:=@Nat.add_assoc
def Uv:type_of% @Nat.lt_succ_self:=@Nat.lt_succ_self
def Uw:type_of% @List.cons_append:=@List.cons_append
def Ux:type_of% @implies_true:=@implies_true
def Uy:type_of% @Int.le_refl:=@Int.le_refl
def Uz:type_of% @List.mem_singleton:=@List.mem_singleton
def UA:type_of% @Nat.add_zero:=@Nat.add_zero
def UB:type_of% @Nat.succ_mul:=@Nat.succ_mul
def UC:type_of% @true_and:=@true_and
def UD:type_of% @List.cons.injEq:=@List.cons.injEq
def UE:type_of% @Nat.le_max_right:=@Nat.le_max_right
def UF:type_of% @Bool.false_eq_true:=@Bool.false_eq_true
def UG:type_of% @and_true:=@and_true
def UH:type_of% @Nat.add_sub_cancel_left:=@Nat.add_sub_cancel_left
def UI:type_of% @Nat.le_succ:=@Nat.le_succ
def UJ:type_of% @decide_eq_false:=@decide_eq_false
def UK:type_of% @Bool.or_eq_true:=@Bool.or_eq_true
def UL:type_of% @Nat.le_of_not_lt:=@Nat.le_of_not_lt
def UM:type_of% @of_decide_eq_true:=@of_decide_eq_true
def UN:type_of% @Nat.sub_zero:=@Nat.sub_zero
def UO:type_of% @List.mem_map:=@List.mem_map
def UP:type_of% @Option.map_eq_some_iff:=@Option.map_eq_some_iff
def UQ:type_of% @List.mem_append_right:=@List.mem_append_right
def UR:type_of% @List.mem_of_mem_take:=@List.mem_of_mem_take
def US:type_of% @List.mem_of_mem_drop:=@List.mem_of_mem_drop
def UT:type_of% @Bool.and_true:=@Bool.and_true
def UU:type_of% @Nat.zero_mul:=@Nat.zero_mul
def UV:type_of% @List.append_nil:=@List.append_nil
def UW:type_of% @Addr.add_lit:=@Addr.add_lit
def UX:type_of% @List.take_append_drop:=@List.take_append_drop
def UY:type_of% @Nat.zero_le:=@Nat.zero_le
def UZ:type_of% @List.drop_zero:=@List.drop_zero
def Va:type_of% @List.mem_append_left:=@List.mem_append_left
def Vb:type_of% @Oper.upon_value:=@Oper.upon_value
def Vc:type_of% @Nat.max_eq_left:=@Nat.max_eq_left
def Vd:type_of% @run_program:=@run_program
def Ve:type_of% @Nat.mod_eq_of_lt:=@Nat.mod_eq_of_lt
def Vf:type_of% @List.getElem_mem:=@List.getElem_mem
def Vg:type_of% @wpIn_mono:=@wpIn_mono
def Vh:type_of% @List.length_nil:=@List.length_nil
def Vi:type_of% @List.getElem?_eq_none:=@List.getElem?_eq_none
def Vj:type_of% @List.nodup_append:=@List.nodup_append
def Vk:type_of% @List.getElem?_of_mem:=@List.getElem?_of_mem
def Vl:type_of% @Bool.or_eq_false_iff:=@Bool.or_eq_false_iff
open Go.RowKit
inductive T (α:Type) where
 |e:T α
 |n (v:Bb α) (a b c d:T α):T α
abbrev Ao:=T Av
inductive K where
 |z:K
 |a (k:K):K
 |b (k:K):K
 |c (k:K):K
 |d (k:K):K
def K.pick (p:K)(r:Nat):K:=Nat.rec (motive:=fun _=>K) (.a p) (fun r _=>Nat.rec (motive:=fun _=>K) (.b p) (fun r _=>Nat.rec (motive:=fun _=>K) (.c p) (fun _ _=>.d p) r) r) r
def K.ofF (f:Nat):Nat->K:=
 Nat.rec (motive:=fun _=>Nat->K) (fun _=>.z) (fun _ ih k=>Nat.rec (motive:=fun _=>K) .z (fun m _=>K.pick (ih (Nat.div m 4)) (Nat.mod m 4)) k) f
def K.of (k:Nat):K:=K.ofF (k+1) k
def T.force {α β:Type}(t:T α)(f:T α->β):β:=T.rec (motive:=fun _=>β) (f .e) (fun v a b c d _ _ _ _=>f (.n v a b c d)) t
def T.force_eq {α d:Type}(t:T α)(f:T α->d):t.force f=f t:=by cases t<;>rfl
def VV:type_of% @T.force_eq:=@T.force_eq
def T.top {α:Type}(t:T α):Bb α:=T.rec (motive:=fun _=>Bb α) none (fun v _ _ _ _ _ _ _ _=>v) t
def T.ta {α:Type}(t:T α):T α:=T.rec (motive:=fun _=>T α) .e (fun _ a _ _ _ _ _ _ _=>a) t
def T.tb {α:Type}(t:T α):T α:=T.rec (motive:=fun _=>T α) .e (fun _ _ b _ _ _ _ _ _=>b) t
def T.tc {α:Type}(t:T α):T α:=T.rec (motive:=fun _=>T α) .e (fun _ _ _ c _ _ _ _ _=>c) t
def T.td {α:Type}(t:T α):T α:=T.rec (motive:=fun _=>T α) .e (fun _ _ _ _ d _ _ _ _=>d) t
def T.getK {α:Type}(p:K):T α->Bb α:=
 K.rec (motive:=fun _=>T α->Bb α) (fun t=>t.top) (fun _ ih t=>ih t.ta) (fun _ ih t=>ih t.tb) (fun _ ih t=>ih t.tc) (fun _ ih t=>ih t.td) p
def T.get {α:Type}(t:T α)(k:Nat):Bb α:=T.getK (K.of k) t
def T.putz {α:Type}(x:Bb α)(t:T α):T α:=T.rec (motive:=fun _=>T α) (.n x .e .e .e .e) (fun _ a b c d _ _ _ _=>.n x a b c d) t
def T.puta {α:Type}(ih:Bb α->T α->T α)(x:Bb α)(t:T α):T α:=
 T.rec (motive:=fun _=>T α) ((ih x .e).force fun s=>.n none s .e .e .e) (fun v a b c d _ _ _ _=>(ih x a).force fun s=>.n v s b c d) t
def T.putb {α:Type}(ih:Bb α->T α->T α)(x:Bb α)(t:T α):T α:=
 T.rec (motive:=fun _=>T α) ((ih x .e).force fun s=>.n none .e s .e .e) (fun v a b c d _ _ _ _=>(ih x b).force fun s=>.n v a s c d) t
def T.putc {α:Type}(ih:Bb α->T α->T α)(x:Bb α)(t:T α):T α:=
 T.rec (motive:=fun _=>T α) ((ih x .e).force fun s=>.n none .e .e s .e) (fun v a b c d _ _ _ _=>(ih x c).force fun s=>.n v a b s d) t
def T.putd {α:Type}(ih:Bb α->T α->T α)(x:Bb α)(t:T α):T α:=
 T.rec (motive:=fun _=>T α) ((ih x .e).force fun s=>.n none .e .e .e s) (fun v a b c d _ _ _ _=>(ih x d).force fun s=>.n v a b c s) t
def T.setK {α:Type}(p:K):Bb α->T α->T α:=
 K.rec (motive:=fun _=>Bb α->T α->T α) T.putz (fun _ ih=>T.puta ih) (fun _ ih=>T.putb ih) (fun _ ih=>T.putc ih) (fun _ ih=>T.putd ih) p
def T.set {α:Type}(t:T α)(k:Nat)(x:Bb α):T α:=T.setK (K.of k) x t
def z8 {a b:Nat}(h:a≠b):Nat.beq a b=false:=by cases e:Nat.beq a b;rfl;exact absurd (Tp e) h
def t9 {a b:Nat}(h:a=b):Nat.beq a b=true:=by subst h;exact Nat.beq_refl _
def T.getK_e {α:Type}:∀p:K,T.getK p (.e:T α)=none
 | .z=>rfl| .a p=>T.getK_e p| .b p=>T.getK_e p| .c p=>T.getK_e p| .d p=>T.getK_e p
def T.get_e {α:Type}(k:Nat):(T.e:T α).get k=none:=T.getK_e _
def VW:type_of% @T.get_e:=@T.get_e
theorem T.getK_setK {α:Type}(x:Bb α):∀(p:K) (t:T α) (q:K),(p=q->T.getK q (T.setK p x t)=x)/\(p≠q->T.getK q (T.setK p x t)=T.getK q t):=by
 intro p;induction p with
 |z=>
  intro t q;refine⟨fun h=>by subst h;cases t<;>rfl,fun h=>?_⟩;cases q with
  |z=>grind|_=>cases t<;>rfl
 |a p f=>
  intro t q;have e:T.setK (.a p) x t=T.n t.top (T.setK p x t.ta) t.tb t.tc t.td:=by
   cases t with
   |e=>exact VV (T.setK p x .e) (fun s=>T.n none s .e .e .e)|n v a b c d=>exact VV (T.setK p x a) (fun s=>T.n v s b c d)
  rw[e];cases q with
  |a q=>exact⟨fun h=>(f t.ta q).1 (by grind),fun h=>(f t.ta q).2 (fun h'=>h (by grind))⟩|_=>exact⟨fun h=>(by grind),fun _=>rfl⟩
 |b p f=>
  intro t q;have e:T.setK (.b p) x t=T.n t.top t.ta (T.setK p x t.tb) t.tc t.td:=by
   cases t with
   |e=>exact VV (T.setK p x .e) (fun s=>T.n none .e s .e .e)|n v a b c d=>exact VV (T.setK p x b) (fun s=>T.n v a s c d)
  rw[e];cases q with
  |b q=>exact⟨fun h=>(f t.tb q).1 (by grind),fun h=>(f t.tb q).2 (fun h'=>h (by grind))⟩|_=>exact⟨fun h=>(by grind),fun _=>rfl⟩
 |c p f=>
  intro t q;have e:T.setK (.c p) x t=T.n t.top t.ta t.tb (T.setK p x t.tc) t.td:=by
   cases t with
   |e=>exact VV (T.setK p x .e) (fun s=>T.n none .e .e s .e)|n v a b c d=>exact VV (T.setK p x c) (fun s=>T.n v a b s d)
  rw[e];cases q with
  |c q=>exact⟨fun h=>(f t.tc q).1 (by grind),fun h=>(f t.tc q).2 (fun h'=>h (by grind))⟩|_=>exact⟨fun h=>(by grind),fun _=>rfl⟩
 |d p f=>
  intro t q;have e:T.setK (.d p) x t=T.n t.top t.ta t.tb t.tc (T.setK p x t.td):=by
   cases t with
   |e=>exact VV (T.setK p x .e) (fun s=>T.n none .e .e .e s)|n v a b c d=>exact VV (T.setK p x d) (fun s=>T.n v a b c s)
  rw[e];cases q with
  |d q=>exact⟨fun h=>(f t.td q).1 (by grind),fun h=>(f t.td q).2 (fun h'=>h (by grind))⟩|_=>exact⟨fun h=>(by grind),fun _=>rfl⟩
def K.pick_eq (p:K)(r:Nat):K.pick p r=if r=0 then .a p else if r=1 then .b p else if r=2 then .c p else .d p:=by
 match r with
 |0=>rfl|1=>rfl|2=>rfl|r+3=>rfl
theorem K.pick_inj {p q:K}{r s:Nat}(hr:r<4)(hs:s<4)(h:K.pick p r=K.pick q s):p=q/\r=s:=by rw[K.pick_eq,K.pick_eq]at h;grind
theorem K.ofF_inj :∀(f g j k:Nat),j<f->k<g->K.ofF f j=K.ofF g k->j=k:=by
 intro f;induction f with
 |zero=>omega|succ f l=>
  intro g j k hj hk h;cases g with
  |zero=>omega|succ g=>
   have d:∀(p:K) (r:Nat),K.pick p r≠ .z:=by intro p r;rw[K.pick_eq];grind
   cases j with
   |zero=>
    cases k with
    |zero=>rfl|succ k=>exact absurd h.symm (d _ _)
   |succ j=>
    cases k with
    |zero=>exact absurd h (d _ _)|succ k=>have h':=h;obtain⟨h1,h2⟩:=K.pick_inj (Nat.mod_lt _ (by omega)) (Nat.mod_lt _ (by omega)) h';have:=l g (j/4) (k/4) (by omega) (by omega) h1;omega
def T.get_set {α:Type}(t:T α)(k:Nat)(x:Bb α)(j:Nat):(t.set k x).get j=if j=k then x else t.get j:=by obtain⟨h1,h2⟩:=T.getK_setK x (K.of k) t (K.of j);by_cases h:j=k;subst h;rw[TJ rfl];exact h1 rfl;rw[TH h];exact h2 (fun e=>h (K.ofF_inj _ _ _ _ (by omega) (by omega) e).symm)
def VX:type_of% @T.get_set:=@T.get_set
structure Pl where
 blk:Nat
 dl:Nat
 siz:Nat
 esz:Nat
structure Sg where
 f:Nat->Nat->Bb Pl
abbrev Sg.z (σ:Sg)(i:Nat):Bb Pl:=σ.f i 0
instance : CoeFun Sg (fun _=>Nat->Bb Pl):=⟨Sg.z⟩
def Sg.le (σ σ':Sg):Prop:=∀(i:Nat) (p:Pl) {r:Nat},σ.f i r=some p->σ'.f i r=some p
def Sg.le_refl (σ:Sg):Sg.le σ σ:=fun _ _ {_} h=>h
def Sg.le_trans {a b c:Sg}(h:Sg.le a b)(k:Sg.le b c):Sg.le a c:=fun i p {_} e=>k i p (h i p e)
structure Sg.gr (n n':Nat)(σ σ':Sg):Prop where
 le:Sg.le σ σ'
 low:∀i,i<n->σ' i=σ i
 nx:n<=n'
def Sg.gr_refl (n:Nat)(σ:Sg):Sg.gr n n σ σ:=⟨Sg.le_refl σ,fun _ _=>rfl,TK n⟩
def VS:type_of% @Sg.gr_refl:=@Sg.gr_refl
variable {n:Nat}
def Sg.gr_trans {d f:Nat}{a b c:Sg}(h:Sg.gr n d a b)(k:Sg.gr d f b c):Sg.gr n f a c:=
 ⟨Sg.le_trans h.le k.le,fun i hi=>(k.low i (by have:=h.nx;omega)).trans (h.low i hi),Us h.nx k.nx⟩
def VT:type_of% @Sg.gr_trans:=@Sg.gr_trans
def unk :Nat:=9223372036854775808
def P4 (c:Nat):Nat:=c/unk-1
def F5 (c:Nat):Nat:=c % unk
def d9 (lo hi:Nat):Nat:=unk*(lo+1)+hi
def I1 {lo hi:Nat}(h:hi<unk):P4 (d9 lo hi)=lo:=by unfold P4 d9;unfold unk at*;omega
def G8 {lo hi:Nat}(h:hi<unk):F5 (d9 lo hi)=hi:=by unfold F5 d9;unfold unk at*;omega
def p8 (lo hi:Nat):unk<=d9 lo hi:=by unfold d9 unk;omega
def SP :F5 unk=0:=by decide
def F9 :0<unk:=by decide
def Da :FloatKind->Nat->IntKind
 | .f32,0=>.u32| .f32,1=>.u64| .f32,_=>.u8| .f64,_=>.i64
def aK (f:FloatKind)(lo:Nat):IntKind:=Da f (lo/18446744073709551616)
def gZ (lo:Nat):Nat:=lo % 18446744073709551616
def AZ (lo:Nat):gZ lo<=lo:=Nat.mod_le _ _
inductive VR (σ:Sg):Av->Av->Prop
 |bool (b:Bool):VR σ (.bool b) (.bool b)
 |int (k:IntKind) (n:Int):VR σ (.int k n) (.int k n)
 |float (k:FloatKind) (n:Nat):VR σ (.float k n) (.float k n)
 |ival (f:FloatKind) (lo hi n:Nat) (h1:gZ lo<=n) (h2:hi=0\/n<hi):VR σ (.complex f lo hi) (.int (aK f lo) n)
 |string (s:ByteArray):VR σ (.string s) (.string s)
 |nilp:VR σ (.pointer none) (.pointer none)
 |ptr (i o:Nat) (p:Pl) (h:σ i=some p):VR σ (.pointer (some ⟨i,o,none⟩)) (.pointer (some ⟨p.blk,p.dl+o,none⟩))
 |rptr (k o:Nat) (p:Pl) (h:σ.f 0 (k+1)=some p):VR σ (.pointer (some ⟨k,o,some 1⟩)) (.pointer (some ⟨p.blk,o,none⟩))
 |nils (l c:Nat):VR σ (.slice none l c) (.slice none l c)
 | slice (i o : Nat) (p : Pl) (l c c' : Nat) (h : σ i = some p) (hc : (c = c' ∧ c < unk) ∨ (unk ≤ c ∧ P4 c ≤ c' ∧ (F5 c = 0 ∨ c' < F5 c) ∧ p.dl + o + c' * p.esz ≤ p.siz)) (hl : l ≤ c') :
   VR σ (.slice (some ⟨i,o,none⟩) l c) (.slice (some ⟨p.blk,p.dl+o,none⟩) l c')
 |vague (q:Addr) (c':Nat):VR σ (.slice (some ⟨0,0,some 0⟩) 0 unk) (.slice (some q) 0 c')
 |nilm:VR σ (.map none) (.map none)
 |map (i:Nat) (p:Pl) (h:σ i=some p):VR σ (.map (some i)) (.map (some p.blk))
 | func (fn : Fn) (xs ys cs ds : Al) (h1 : xs.size = ys.size) (h2 : ∀ (i : Nat) x y, xs[i]? = some x → ys[i]? = some y → VR σ x y)
   (h3:cs.size=ds.size) (h4:∀(i:Nat) x y,cs[i]? =some x->ds[i]? =some y->VR σ x y):VR σ (.func fn xs cs) (.func fn ys ds)
 |nilf:VR σ .nilFunc .nilFunc
 |yield (i:Nat) (p:Pl) (h:σ i=some p):VR σ (.chan (some i)) (.func (.yield p.blk) #[] #[])
 |iface (t:Ax) (v u:Av) (h:VR σ v u):VR σ (.iface t v) (.iface t u)
 |nili:VR σ .nilIface .nilIface
 |agg (xs ys:Al) (h1:xs.size=ys.size) (h2:∀(i:Nat) x y,xs[i]? =some x->ys[i]? =some y->VR σ x y):VR σ (.agg xs) (.agg ys)
 |tuple (xs ys:Al) (h1:xs.size=ys.size) (h2:∀(i:Nat) x y,xs[i]? =some x->ys[i]? =some y->VR σ x y):VR σ (.tuple xs) (.tuple ys)
variable {σ σ':Sg}
def VR.mono (hs:Sg.le σ σ'){a b:Av}(h:VR σ a b):VR σ' a b:=by
 induction h with
 |bool b=>exact .bool b|int k n=>exact .int k n|float k n=>exact .float k n|ival f lo hi n h1 h2=>exact .ival f lo hi n h1 h2|string s=>exact .string s|nilp=>exact .nilp|ptr i o p h=>exact .ptr i o p (hs _ _ h)|rptr k o p h=>exact .rptr k o p (hs _ _ h)|nils l c=>exact .nils l c|slice i o p l c c' h hc hl=>exact .slice i o p l c c' (hs _ _ h) hc hl|vague q c'=>exact .vague q c'|nilm=>exact .nilm|map i p h=>exact .map i p (hs _ _ h)|func fn xs ys cs ds h1 _ h3 _ g j=>exact .func fn xs ys cs ds h1 g h3 j|nilf=>exact .nilf|yield i p h=>exact .yield i p (hs _ _ h)|iface t v u _ d=>exact .iface t v u d|nili=>exact .nili|agg xs ys h1 _ d=>exact .agg xs ys h1 d|tuple xs ys h1 _ d=>exact .tuple xs ys h1 d
def VR.undef (σ:Sg):VR σ undef undef:= .tuple _ _ rfl (fun i x y h _=>by simp at h)
def Wg:type_of% @VR.undef:=@VR.undef
def VRL (σ:Sg)(xs ys:Af):Prop:=xs.length=ys.length/\ ∀(i:Nat) x y,xs[i]? =some x->ys[i]? =some y->VR σ x y
def VRL.nil (σ:Sg):VRL σ [] []:=⟨rfl,fun i x y h _=>by simp at h⟩
def Wi:type_of% @VRL.nil:=@VRL.nil
variable {x:Av}{xs ys:Af}
theorem VRL.cons {y:Av}(h:VR σ x y)(hs:VRL σ xs ys):VRL σ (x::xs) (y::ys):=by
 refine⟨by simp[hs.1],fun i a b d hb=>?_⟩;cases i with
 |zero=>grind|succ i=>exact hs.2 i a b d hb
def Wh:type_of% @VRL.cons:=@VRL.cons
theorem VRL.uncons (h:VRL σ (x::xs) ys):∃y d,ys=y::d/\VR σ x y/\VRL σ xs d:=by
 cases ys with
 |nil=>exact absurd h.1 (by simp)|cons y ys=>exact⟨y,ys,rfl,h.2 0 x y rfl rfl,by have:=h.1;simpa using this,fun i a b f hb=>h.2 (i+1) a b (by grind) (by grind)⟩
def VRL.unnil (h:VRL σ [] ys):ys=[]:=Tq h.1.symm
variable {a:Af}
def VRL.mono (hs:Sg.le σ σ'){b:Af}(h:VRL σ a b):VRL σ' a b:=⟨h.1,fun i x y hx hy=>(h.2 i x y hx hy).mono hs⟩
def VRL.append {b c d:Af}(h:VRL σ a b)(k:VRL σ c d):VRL σ (a++c) (b++d):=by
 induction a generalizing b with
 |nil=>rw[h.unnil];exact k|cons x a f=>obtain⟨y,b',rfl,h1,h2⟩:=h.uncons;exact Wh h1 (f h2)
variable {i:Nat}
theorem VRL.get {b:Af}(h:VRL σ a b)(hx:a[i]? =some x):∃y,b[i]? =some y/\VR σ x y:=by
 have hi:=(Tn.1 hx).1;have hb:i<b.length:=by rw[<-h.1];exact hi
 exact⟨b[i],by grind,h.2 i x _ hx (by simp)⟩
variable {v:Av}
theorem VRL.of_agg {a:Al}(h:VR σ (.agg a) v):∃b,v= .agg b/\VRL σ a.toList b.toList:=by
 cases h with
 |agg _ ys h1 h2=>exact⟨ys,rfl,by omega,fun i x y hx hy=>h2 i x y (by grind) (by grind)⟩
def Wj:type_of% @VRL.of_agg:=@VRL.of_agg
theorem VRL.to_agg {b:Af}(h:VRL σ a b):VR σ (.agg a.toArray) (.agg b.toArray):=
 .agg _ _ (by simpa using h.1) (fun i x y hx hy=>h.2 i x y (by grind) (by grind))
theorem VRL.of_tuple {a:Al}(h:VR σ (.tuple a) v):∃b,v= .tuple b/\VRL σ a.toList b.toList:=by
 cases h with
 |tuple _ ys h1 h2=>exact⟨ys,rfl,by omega,fun i x y hx hy=>h2 i x y (by grind) (by grind)⟩
theorem VRL.to_tuple {b:Af}(h:VRL σ a b):VR σ (.tuple a.toArray) (.tuple b.toArray):=
 .tuple _ _ (by simpa using h.1) (fun i x y hx hy=>h.2 i x y (by grind) (by grind))
variable {u:Av}
def VR.cells (h:VR σ v u):VRL σ v.cells.toList u.cells.toList:=by
 cases h with
 |agg xs ys h1 h2=>exact⟨by simpa [Value.cells]using h1,fun i x y hx hy=>h2 i x y (by simpa [Value.cells]using hx) (by simpa [Value.cells]using hy)⟩|bool b=>exact Wh (.bool b) (Wi σ)|int k n=>exact Wh (.int k n) (Wi σ)|float k n=>exact Wh (.float k n) (Wi σ)|ival f lo hi n h1 h2=>exact Wh (.ival f lo hi n h1 h2) (Wi σ)|string s=>exact Wh (.string s) (Wi σ)|nilp=>exact Wh .nilp (Wi σ)|ptr i o p h=>exact Wh (.ptr i o p h) (Wi σ)|rptr k o p h=>exact Wh (.rptr k o p h) (Wi σ)|nils l c=>exact Wh (.nils l c) (Wi σ)|slice i o p l c c' h hc hl=>exact Wh (.slice i o p l c c' h hc hl) (Wi σ)|vague q c'=>exact Wh (.vague q c') (Wi σ)|nilm=>exact Wh .nilm (Wi σ)|map i p h=>exact Wh (.map i p h) (Wi σ)|func fn xs ys cs ds h1 h2 h3 h4=>exact Wh (.func fn xs ys cs ds h1 h2 h3 h4) (Wi σ)|nilf=>exact Wh .nilf (Wi σ)|yield i p h=>exact Wh (.yield i p h) (Wi σ)|iface t v u h=>exact Wh (.iface t v u h) (Wi σ)|nili=>exact Wh .nili (Wi σ)|tuple xs ys h1 h2=>exact Wh (.tuple xs ys h1 h2) (Wi σ)
def VR.oneCell (h:VR σ v u)(hv:v.oneCell'=true):u.oneCell'=true:=by cases h<;>first|rfl| (simp[Value.oneCell']at hv)
inductive Blk where
 |cells (c:Ao) (n:Nat) (elem esz:Nat)
 |ro (c:Ao) (n:Nat) (elem esz:Nat)
 |sit (s:ByteArray) (pos:Nat)
 |map (es:List (Av×Av)) (reg:Bool)
 |loop (st:LoopState) (pend:Bb Code) (nt:Nat) (tms:Ao) (params:Array Tmp) (assign body:Code) (db:Nat)
 |dfr
 |reg (c:Ao) (n elem esz:Nat)
abbrev Ac:=Nat ->Bb Blk
structure Hp where
 m:T Blk
 nx:Nat
def BR (σ:Sg)(p:Pl):Blk->Obj->Prop
 | .cells c n e z,o=>∃C,o= .cells C e (0,0)/\p.esz=z/\C.size=p.siz/\p.dl+n<=p.siz/\ ∀j,j<n-> ∃v u,c.get j=some v/\C[p.dl+j]? =some u/\VR σ v u| .ro c n e z,o=>∃C f,o= .cells C e f/\p.esz=z/\C.size=p.siz/\p.dl+n<=p.siz/\ ∀j v,j<n->c.get j=some v-> ∃u,C[p.dl+j]? =some u/\VR σ v u| .sit s pos,o=>o= .stringIter s pos/\p.dl=0| .dfr,o=>o= .deferred (some [])| .reg _ _ _ _,_=>False
 | .loop st pend nt tms params assign body db, o => ∃ r, o = .loop r ∧ r.state = st ∧ r.pending = pend ∧ r.params = params ∧ r.assign = assign ∧ r.body = body ∧
   (r.tmps.size=nt/\ ∀k,VR σ ((tms.get k).getD undef) (r.tmps.getD k undef))/\ ∃q,σ db=some q/\q.blk=r.defers
 | .map es reg, o => ∃ ents clock, o = .map ents clock ∧ ents.size = es.length ∧ (∀ (j : Nat) x e, es[j]? = some x → ents[j]? = some e → VR σ x.1 e.key ∧ VR σ x.2 e.val) ∧
   (reg=true->clock=ents.size/\ ∀(j:Nat) e,ents[j]? =some e->e.born=j)
variable {p:Pl}{b:Blk}{o:Obj}
def BR.mono (hs:Sg.le σ σ')(h:BR σ p b o):BR σ' p b o:=by
 cases b with
 |cells c n e z=>obtain⟨C,h1,h2,h3,h4,h5⟩:=h;exact⟨C,h1,h2,h3,h4,fun j hj=>let⟨v,u,a,b,c⟩:=h5 j hj;⟨v,u,a,b,c.mono hs⟩⟩
 |ro c n e z=>obtain⟨C,f,h1,h2,h3,h4,h5⟩:=h;exact⟨C,f,h1,h2,h3,h4,fun j v hj hv=>let⟨u,b,c⟩:=h5 j v hj hv;⟨u,b,c.mono hs⟩⟩
 |sit s pos=>exact h|dfr=>exact h|reg c n e z=>exact h|loop st pend nt tms params assign body db=>obtain⟨r,h1,h2,h3,h4,h5,m,⟨t,A⟩,q,D,l⟩:=h;exact⟨r,h1,h2,h3,h4,h5,m,⟨t,fun k=>(A k).mono hs⟩,q,hs _ _ D,l⟩
 |map es reg=>obtain⟨g,d,h1,h2,h3,h4⟩:=h;exact⟨g,d,h1,h2,fun j x e hx he=>⟨(h3 j x e hx he).1.mono hs,(h3 j x e hx he).2.mono hs⟩,h4⟩
structure BS where
 B:Nat->Prop
 D:Nat->Prop
 sub:∀k,D k->B k
instance : CoeFun BS (fun _=>Nat->Prop):=⟨BS.B⟩
def BS.below (w:Bc):BS:=⟨(· <w.heap.size),fun _=>False,fun _ h=>h.elim⟩
def NB (B:BS)(k:Nat):Blk->Prop
 | .ro _ _ _ _=>B.D k|_=>¬B k
def cC :Blk->Bool
 | .ro _ _ _ _=>true|_=>false
variable {B:BS}{k:Nat}
def NB.no (h:NB B k b)(hb:cC b=false):¬B k:=by cases b<;>first|exact h| (cases hb)
def NB.yes (h:NB B k b)(hb:cC b=true):B.D k:=by cases b<;>first|exact h| (cases hb)
def NB.of (h:¬B k)(hb:cC b=false):NB B k b:=by cases b<;>first|exact h| (cases hb)
def NB.to {B':BS}(h:NB B k b)(h1:B.D k->B'.D k)(h2:¬B k-> ¬B' k):NB B' k b:=by cases b<;>first|exact h1 h|exact h2 h
def NB.like {b':Blk}(h:NB B k b)(hb:cC b=false)(d:cC b'=false):NB B k b':= .of (h.no hb) d
def rdC :Blk->Bb (Ao×Nat×Nat)
 | .cells c n _ z=>some (c,n,z)| .ro c n _ z=>some (c,n,z)|_=>none
def gX :Blk->Bool
 | .reg _ _ _ _=>true|_=>false
def Ix :Blk->Nat->Prop
 | .reg _ n _ _,r=>1<=r/\r<=n|_,r=>r=0
def BX (σ:Sg)(p:Pl)(r:Nat):Blk->Obj->Prop
 | .reg c _ e z,o=>∃C,o= .cells C e (0,0)/\C.size=z/\ ∀j,j<z-> ∃v u,c.get ((r-1)*z+j)=some v/\C[j]? =some u/\VR σ v u|b,o=>BR σ p b o
variable {r:Nat}
def Ix.of (h:gX b=false):Ix b r↔r=0:=by cases b<;>first|exact Iff.rfl|cases h
def Vw:type_of% @Ix.of:=@Ix.of
def BX.of (h:gX b=false):BX σ p r b o↔BR σ p b o:=by cases b<;>first|exact Iff.rfl|cases h
def BX.mono (hs:Sg.le σ σ')(h:BX σ p r b o):BX σ' p r b o:=by
 cases hb:gX b with
 |false=>exact(BX.of hb).2 (((BX.of hb).1 h).mono hs)|true=>
  cases b with
  |reg c n e z=>obtain⟨C,h1,h2,h3⟩:=h;exact⟨C,h1,h2,fun j hj=>let⟨v,u,a,b,c⟩:=h3 j hj;⟨v,u,a,b,c.mono hs⟩⟩
  |_=>cases hb
structure HR (B:BS)(w0:Bc)(σ:Sg)(hp:Hp)(w:Bc):Prop where
 os:w.os=w0.os
 tape:w.tape=w0.tape
 output:w.output=w0.output
 size:w0.heap.size<=w.heap.size
 old:∀k,B k->k<w0.heap.size
 kept:∀k,B k->w.heap[k]? =w0.heap[k]?
 frs:∀i r,hp.nx<=i->σ.f i r=none
 liv:∀i b r,hp.m.get i=some b->Ix b r-> ∃p o,σ.f i r=some p/\NB B p.blk b/\w.heap[p.blk]? =some o/\BX σ p r b o
 ij:∀i j b b' r s p q,hp.m.get i=some b->hp.m.get j=some b'->Ix b r->Ix b' s->i≠j\/r≠s->σ.f i r=some p->σ.f j s=some q->p.blk≠q.blk
 rz:∀i b,hp.m.get i=some b->gX b=true->(∃p,σ i=some p)/\ ∀r,r≠0-> ¬Ix b r->σ.f i r=none
variable {w w0:Bc}{hp:Hp}
def HR.fresh (h:HR B w0 σ hp w)(i:Nat)(hi:hp.nx<=i):σ i=none:=h.frs i 0 hi
def HR.live (h:HR B w0 σ hp w)(i:Nat)(b:Blk)(hg:hp.m.get i=some b)(hb:gX b=false:=by rfl):∃p o,σ i=some p/\NB B p.blk b/\w.heap[p.blk]? =some o/\BR σ p b o:=by obtain⟨p,o,h1,h2,h3,h4⟩:=h.liv i b 0 hg ((Vw hb).2 rfl);exact⟨p,o,h1,h2,h3,(BX.of hb).1 h4⟩
def HR.inj (h:HR B w0 σ hp w)(i j:Nat)(b b':Blk)(p q:Pl)(hi:hp.m.get i=some b)(hj:hp.m.get j=some b')(f:i≠j)(hp':σ i=some p)(hq:σ j=some q)(hb:gX b=false:=by rfl)(d:gX b'=false:=by rfl):p.blk≠q.blk:=h.ij i j b b' 0 0 p q hi hj ((Vw hb).2 rfl) ((Vw d).2 rfl) (.inl f) hp' hq
variable {c:Ao}
def HR.liveC (h:HR B w0 σ hp w){e z:Nat}(hg:hp.m.get i=some (.cells c n e z)):∃p C,σ i=some p/\p.esz=z/\ ¬B p.blk/\w.heap[p.blk]? =some (.cells C e (0,0))/\C.size=p.siz/\p.dl+n<=p.siz/\ ∀j,j<n-> ∃v u,c.get j=some v/\C[p.dl+j]? =some u/\VR σ v u:=by obtain⟨p,o,h1,h2,h3,C,rfl,h5,d,f,g⟩:=h.live i _ hg;exact⟨p,C,h1,h5,h2,h3,d,f,g⟩
theorem HR.liveR (h:HR B w0 σ hp w){z:Nat}(hg:hp.m.get i=some b)(hr:rdC b=some (c,n,z)):∃p C e f,σ i=some p/\p.esz=z/\w.heap[p.blk]? =some (.cells C e f)/\C.size=p.siz/\p.dl+n<=p.siz/\ ∀j v,j<n->c.get j=some v-> ∃u,C[p.dl+j]? =some u/\VR σ v u:=by
 cases b with
 |cells c' n' e g=>cases hr;obtain⟨p,C,h1,h2,_,h3,h4,h5,d⟩:=h.liveC hg;grind
 |ro c' n' e g=>cases hr;obtain⟨p,o,h1,h2,h3,C,f,rfl,h5,d,l,q⟩:=h.live i _ hg;grind
 |_=>cases hr
def HR.drew (h:HR B w0 σ hp w):HR B w0 σ hp w.drew:=
 ⟨h.os,h.tape,h.output,h.size,h.old,h.kept,h.frs,h.liv,h.ij,h.rz⟩
def fill (c:Ao):Nat->Af->Ao
 |_,[]=>c|k,v::vs=>fill (c.set k (some v)) (k+1) vs
theorem j8 :∀(vs:Af) (c:Ao) (k j:Nat),(fill c k vs).get j=if k<=j/\j<k+vs.length then vs[j-k]? else c.get j:=by
 intro vs;induction vs with
 |nil=>intro c k j;simp only[fill,Vh,UA];rw[TH (by omega)]
 |cons v vs d=>intro c k j;simp only[fill,d,VX,Ue];grind
def j9 (c:Ao):Nat->Nat->Bb (Af)
 |_,0=>some []|o,n+1=>match c.get o with
  |some v=>match j9 c (o+1) n with
   |some vs=>some (v::vs)|none=>none
  |none=>none
theorem l9 :∀ {n o:Nat} {vs:Af},j9 c o n=some vs->vs.length=n/\ ∀j,j<n->vs[j]? =c.get (o+j):=by
 intro n;induction n with
 |zero=>intro o vs h;simp[j9]at h;subst h;exact(by grind)
 |succ n d=>intro o vs h;simp only[j9]at h;grind
variable {vs:Af}
theorem HR.cellsR (h:HR B w0 σ hp w){z o m:Nat}(hg:hp.m.get i=some b)(hr:rdC b=some (c,n,z))(hn:o+m<=n)(hl:j9 c o m=some vs)(hp':σ i=some p):∃us,VRL σ vs us/\us.length=m/\ ∀j u,us[j]? =some u->w.cell? ((⟨p.blk,p.dl+o,none⟩:Addr).add j)=some u:=by
 obtain⟨q,C,e,f,hq,hz,l,hs,s,hc⟩:=h.liveR hg hr;have:=TN (hq.symm.trans hp');subst this;obtain⟨g,d⟩:=l9 hl;refine⟨(C.toList.drop (q.dl+o)).take m,⟨?_,?_⟩,?_,?_⟩;grind;grind;grind
 ·intro j u t;have hj:j<m:=by grind
  rw[UW,cell_of_row w q.blk _ C e f l];grind
def HR.cells (h:HR B w0 σ hp w){e z o m:Nat}(hg:hp.m.get i=some (.cells c n e z))(hn:o+m<=n)(hl:j9 c o m=some vs)(hp':σ i=some p):∃us,VRL σ vs us/\us.length=m/\ ∀j u,us[j]? =some u->w.cell? ((⟨p.blk,p.dl+o,none⟩:Addr).add j)=some u:=h.cellsR hg rfl hn hl hp'
end Go.Xe
namespace Go.Xe
open Go.RowKit
section
variable {B :BS}{w0:Bc}{σ:Sg}{hp:Hp}{w:Bc}
def Sg.ext (σ:Sg)(i:Nat)(p:Pl):Sg:=⟨fun j r=>if j=i/\r=0 then some p else σ.f j r⟩
def Sg.ext_same0 (σ:Sg)(i:Nat)(p:Pl):(σ.ext i p).f i 0=some p:=by simp[Sg.ext]
def Sg.ext_same (σ:Sg)(i:Nat)(p:Pl):σ.ext i p i=some p:=Sg.ext_same0 σ i p
def VQ:type_of% @Sg.ext_same:=@Sg.ext_same
def Sg.ext_row (σ:Sg)(i:Nat)(p:Pl){j r:Nat}(h:j≠i\/r≠0):(σ.ext i p).f j r=σ.f j r:=by unfold Sg.ext;simp only;rw[TH (by omega)]
def VP:type_of% @Sg.ext_row:=@Sg.ext_row
def Sg.ext_other (σ:Sg)(i:Nat)(p:Pl){j:Nat}(h:j≠i):σ.ext i p j=σ j:=VP σ i p (.inl h)
def VO:type_of% @Sg.ext_other:=@Sg.ext_other
variable {i:Nat}
def Sg.le_ext {σ:Sg}(p:Pl)(h:σ i=none):Sg.le σ (σ.ext i p):=by
 intro j q r hq;have d:j≠i\/r≠0:=by by_cases e:j=i/\r=0;obtain⟨rfl,rfl⟩:=e;have h:σ.f j 0=none:=h;rw[h]at hq;cases hq;omega
 rw[VP _ _ _ d];exact hq
def VU:type_of% @Sg.le_ext:=@Sg.le_ext
theorem HR.allocO (h:HR B w0 σ hp w)(f nx:Nat)(C:σ f=none)(K:hp.nx<=nx)(hlt:f<nx)(b:Blk)(o:Obj)(p:Pl)(hp0:p.blk=w.heap.size)(hb:BR (σ.ext f p) p b o)(F:cC b=false:=by rfl)(d:gX b=false:=by rfl):HR B w0 (σ.ext f p) ⟨hp.m.set f (some b),nx⟩ (w.alloc o):=by have D:=VU (σ:=σ) (i:=f) p C;refine⟨h.os,h.tape,h.output,by simp;have:=h.size;omega,h.old,fun k hk=>by rw[Below.heap_alloc _ _ _ (by have:=h.old k hk;have:=h.size;omega)];exact h.kept k hk,?_,?_,?_,fun i b' hg A=>?_⟩;intro i r hi;have J:nx<=i:=hi;rw[VP _ _ _ (.inl (by omega))];exact h.frs i r (by omega);intro i b' r hg hx;simp only[VX]at hg;by_cases hi:i=f;rw[TJ hi]at hg;simp only[Tk]at hg;subst hg;subst hi;have:=(Vw d).1 hx;subst this;refine⟨p,o,VQ _ _ _,.of (fun I=>by have h1:=h.old _ I;have h2:=h.size;omega) F,?_,(BX.of d).2 hb⟩;rw[hp0];show(w.heap.push _)[w.heap.size]? =_;simp;rw[TH hi]at hg;obtain⟨q,o',h1,h2,h3,h4⟩:=h.liv i b' r hg hx;refine⟨q,o',by rw[VP _ _ _ (.inl hi)];exact h1,h2,?_,h4.mono D⟩;rw[Below.heap_alloc _ _ _ (TB.1 h3).1];exact h3;intro i j G H r s q q' hi hj hx hy E t g;simp only[VX]at hi hj;by_cases z:i=f;rw[TJ z]at hi;cases hi;have e0:=(Vw d).1 hx;subst e0;rw[z,Sg.ext_same0]at t;by_cases l:j=f;rw[TJ l]at hj;cases hj;have:=(Vw d).1 hy;omega;rw[TH l]at hj;rw[VP _ _ _ (.inl l)]at g;obtain⟨L,o',h1,_,h3,_⟩:=h.liv j H s hj hy;grind;rw[TH z]at hi;rw[VP _ _ _ (.inl z)]at t;by_cases l:j=f;rw[TJ l]at hj;cases hj;have e0:=(Vw d).1 hy;subst e0;rw[l,Sg.ext_same0]at g;obtain⟨p',o',h1,_,h3,_⟩:=h.liv i G r hi hx;grind;rw[TH l]at hj;rw[VP _ _ _ (.inl l)]at g;exact h.ij i j _ _ r s q q' hi hj hx hy E t g;simp only[VX]at hg;by_cases hi:i=f;grind;rw[TH hi]at hg;obtain⟨⟨q,hq⟩,hr⟩:=h.rz i b' hg A;exact⟨⟨q,by rw[VO _ _ _ hi];exact hq⟩,fun r h0 hx=>by rw[VP _ _ _ (.inl hi)];exact hr r h0 hx⟩
theorem HR.allocAt (h:HR B w0 σ hp w)(f nx:Nat)(d:σ f=none)(g:hp.nx<=nx)(hlt:f<nx)(c:Ao)(n e z:Nat)(us:Al)(hn:n<=us.size)(hc:∀j,j<n-> ∃v u,c.get j=some v/\us[j]? =some u/\VR σ v u):HR B w0 (σ.ext f ⟨w.heap.size,0,us.size,z⟩) ⟨hp.m.set f (some (.cells c n e z)),nx⟩ (w.alloc (.cells us e)):=by refine h.allocO f nx d g hlt _ _ _ rfl ⟨us,rfl,rfl,rfl,by grind,fun j hj=>?_⟩;obtain⟨v,u,h1,h2,h3⟩:=hc j hj;exact⟨v,u,h1,by grind,h3.mono (VU _ d)⟩
def HR.alloc (h:HR B w0 σ hp w)(c:Ao)(n e z:Nat)(us:Al)(hn:n<=us.size)(hc:∀j,j<n-> ∃v u,c.get j=some v/\us[j]? =some u/\VR σ v u):HR B w0 (σ.ext hp.nx ⟨w.heap.size,0,us.size,z⟩) ⟨hp.m.set hp.nx (some (.cells c n e z)),hp.nx+1⟩ (w.alloc (.cells us e)):=
 h.allocAt hp.nx (hp.nx+1) (h.fresh _ (TK _)) (UI _) (Uv _) c n e z us hn hc
variable {p:Pl}
theorem HR.turn (h:HR B w0 σ hp w){b b':Blk}(hg:hp.m.get i=some b)(L:σ i=some p){o:Obj}{w':Bc}(hh:w'.heap[p.blk]? =some o)(hk:∀k,k≠p.blk->w'.heap[k]? =w.heap[k]?)(hs:w'.heap.size=w.heap.size)(h1:w'.os=w.os)(h2:w'.tape=w.tape)(h3:w'.output=w.output)(hb:BR σ p b' o)(O:cC b=false:=by rfl)(D:cC b'=false:=by rfl)(g:gX b=false:=by rfl)(f:gX b'=false:=by rfl):HR B w0 σ {hp with m:=hp.m.set i (some b')} w':=by
 obtain⟨p',o',F,G,Z,g5⟩:=h.live i b hg g;have U:=G.no O;have:p'=p:=TN (F.symm.trans L);subst this;refine⟨h1.trans h.os,h2.trans h.tape,h3.trans h.output,by rw[hs];exact h.size,h.old,fun k C=>?_,h.frs,?_,?_,fun j z hj I=>?_⟩;rw[hk k (fun e=>U (by rw[<-e];exact C))];exact h.kept k C;intro j z r hj hx;simp only[VX]at hj;by_cases d:j=i;rw[TJ d]at hj;simp only[Tk]at hj;subst hj;subst d;have:=(Vw f).1 hx;subst this;exact⟨p',o,F,.of U D,hh,(BX.of f).2 hb⟩;rw[TH d]at hj;obtain⟨q,Y,S,V,W,X⟩:=h.liv j z r hj hx;exact⟨q,Y,S,V,by rw[hk _ (h.ij j i _ _ r 0 q p' hj hg hx ((Vw g).2 rfl) (.inl d) S F)];exact W,X⟩
 ·intro a c t z r s q q' l hc hx hy K M N;simp only[VX]at l hc;have E:∀a t r,(if a=i then some b' else hp.m.get a)=some t->Ix t r-> ∃b,hp.m.get a=some b/\Ix b r:=by intro a t r l hx;by_cases A:a=i;rw[TJ A]at l;simp only[Tk]at l;subst l;subst A;exact⟨_,hg,(Vw g).2 ((Vw f).1 hx)⟩;grind
  obtain⟨_,H,Q⟩:=E a t r l hx;obtain⟨_,J,R⟩:=E c z s hc hy;exact h.ij a c _ _ r s q q' H J Q R K M N
 simp only[VX]at hj;by_cases d:j=i;grind;rw[TH d]at hj;exact h.rz j z hj I
variable {c:Ao}
theorem HR.store (h:HR B w0 σ hp w){n e z o:Nat}(hg:hp.m.get i=some (.cells c n e z))(s:σ i=some p){vs us:Af}(hv:VRL σ vs us)(h1:∀u∈us,u.oneCell'=true)(K:o<=n)(hs:p.dl+o+vs.length<=p.siz)(P:Aw):∃w',(storeCells ⟨p.blk,p.dl+o,none⟩ us).run P w= .ok () w'/\HR B w0 σ {hp with m:=hp.m.set i (some (.cells (fill c o vs) (max n (o+vs.length)) e z))} w'/\w'.heap.size=w.heap.size:=by
 obtain⟨p',C,t,E,I,A,F,J,G⟩:=h.liveC hg;have:p'=p:=TN (t.symm.trans s);subst this;have hr:=run_storeCells_at P p'.blk (p'.dl+o) e us 0 C w A (by rw[<-hv.1];omega) h1;refine⟨_,hr,?_,by simp[World.setRow]⟩;have j:=setRow_heap w p'.blk C (C.toList.take (p'.dl+o)++us++C.toList.drop (p'.dl+o+us.length)).toArray e (0,0) A;have d:(C.toList.take (p'.dl+o)++us++C.toList.drop (p'.dl+o+us.length)).toArray.size=C.size:=by have:=hv.1;grind
 refine h.turn hg t j (fun k hk=>setRow_other w _ k _ hk) (by simp[World.setRow]) rfl rfl rfl ⟨_,rfl,E,by rw[d];exact F,by omega,fun k hk=>?_⟩;rw[j8];have hl:=hv.1;by_cases f:o<=k/\k<o+vs.length
 ·rw[TJ f];have g:k-o<vs.length:=by omega
  have l:k-o<us.length:=by omega
  refine⟨vs[k-o],us[k-o],by simp[g],?_,hv.2 (k-o) _ _ (by simp[g]) (by simp[l])⟩;simp only[Tz,List.getElem?_toArray];rw[Tt (by simp;omega),Tu (by simp;omega)];grind
 ·rw[TH f];have q:k<n:=by omega
  obtain⟨v,u,D,a2,a3⟩:=G k q;refine⟨v,u,D,?_,a3⟩;simp only[Tz,List.getElem?_toArray];rw[<-a2];by_cases H:k<o;grind;rw[Tt (by simp;omega),Tt (by simp;omega),Ua];grind
theorem HR.move (h:HR B w0 σ hp w){n e z o k:Nat}(hg:hp.m.get i=some (.cells c n e z))(d:σ i=some p)(hk:o+k<=n)(c':Ao)(hc:∀j,j<k->c'.get j=c.get (o+j)):HR B w0 (σ.ext hp.nx ⟨p.blk,p.dl+o,p.siz,p.esz⟩) ⟨(hp.m.set i none).set hp.nx (some (.cells c' k e z)),hp.nx+1⟩ w:=by
 have E:=VU (σ:=σ) (i:=hp.nx) ⟨p.blk,p.dl+o,p.siz,p.esz⟩ (h.fresh _ (TK _));obtain⟨p',C,S,U,V,W,X,g6,Y⟩:=h.liveC hg;have:p'=p:=TN (S.symm.trans d);subst this;have Z:i≠hp.nx:=by intro e;rw[e,h.fresh _ (TK _)]at d;cases d
 refine⟨h.os,h.tape,h.output,h.size,h.old,h.kept,?_,?_,?_,fun j A hj D=>?_⟩;intro j r hj;simp at hj;rw[VP _ _ _ (.inl (by omega))];exact h.frs j r (by omega);intro j A r hj hx;simp only[VX]at hj;by_cases g:j=hp.nx;rw[TJ g]at hj;simp only[Tk]at hj;subst hj;subst g;have hr:r=0:=hx;subst hr;refine⟨_,_,VQ _ _ _,V,W,C,rfl,U,X,by show p'.dl+o+k<=p'.siz;omega,fun j hj=>?_⟩;obtain⟨v,u,M,a2,a3⟩:=Y (o+j) (by omega);refine⟨v,u,by rw[hc j hj];exact M,?_,a3.mono E⟩;grind;rw[TH g]at hj;by_cases I:j=i;grind;rw[TH I]at hj;obtain⟨q,oq,N,O,Q,R⟩:=h.liv j A r hj hx;exact⟨q,oq,by rw[VP _ _ _ (.inl g)];exact N,O,Q,R.mono E⟩
 ·intro a b t A r s q q' l hb hx hy J K L;simp only[VX]at l hb;have G:∀a t r q,(if a=hp.nx then some (Blk.cells c' k e z)else if a=i then none else hp.m.get a)=some t->Ix t r->(σ.ext hp.nx ⟨p'.blk,p'.dl+o,p'.siz,p'.esz⟩).f a r=some q->
    (a=hp.nx/\r=0/\q.blk=p'.blk)\/(a≠hp.nx/\a≠i/\hp.m.get a=some t/\σ.f a r=some q):=by
   intro a t r q l hx hq;by_cases H:a=hp.nx;rw[TJ H]at l;simp only[Tk]at l;subst l;subst H;have hr:r=0:=hx;subst hr;have hq:(σ.ext hp.nx ⟨p'.blk,p'.dl+o,p'.siz,p'.esz⟩) hp.nx=some q:=hq;rw[VQ]at hq;grind;rw[TH H]at l;rw[VP _ _ _ (.inl H)]at hq;grind
  have F:Ix (.cells c n e z) 0:=rfl;rcases G a t r q l hx K with⟨e1,e2,e3⟩| ⟨e1,e2,e3,e4⟩<;>rcases G b A s q' hb hy L with⟨k1,k2,k3⟩| ⟨k1,k2,k3,k4⟩;omega;rw[e3];exact h.ij i b _ _ 0 s p' q' hg k3 F hy (.inl (Ne.symm k2)) d k4;rw[k3];exact h.ij a i _ _ r 0 q p' e3 hg hx F (.inl e2) e4 d;exact h.ij a b _ _ r s q q' e3 k3 hx hy J e4 k4
 simp only[VX]at hj;by_cases g:j=hp.nx;rw[TJ g,Tk]at hj;subst hj;cases D;rw[TH g]at hj;by_cases I:j=i;grind;rw[TH I]at hj;obtain⟨⟨q,hq⟩,hr⟩:=h.rz j A hj D;exact⟨⟨q,by rw[VO _ _ _ g];exact hq⟩,fun r h0 hx=>by rw[VP _ _ _ (.inl g)];exact hr r h0 hx⟩
def HR.sub (h:HR B w0 σ hp w){hp2:Hp}(hn:hp.nx<=hp2.nx)(hm:∀i b,hp2.m.get i=some b->hp.m.get i=some b):HR B w0 σ hp2 w:=
 ⟨h.os,h.tape,h.output,h.size,h.old,h.kept,fun i r hi=>h.frs i r (Us hn hi),fun i b r hg=>h.liv i b r (hm _ _ hg),
  fun i j b b' r s p q hi hj=>h.ij i j b b' r s p q (hm _ _ hi) (hm _ _ hj),fun i b hg=>h.rz i b (hm _ _ hg)⟩
end
structure TR (σ:Sg)(nt:Nat)(tm:Ao)(tmps:Al):Prop where
 size:tmps.size=nt
 at_:∀k,VR σ ((tm.get k).getD undef) (tmps.getD k undef)
variable {σ:Sg}{nt:Nat}{tm:Ao}{tmps:Al}
def TR.mono {σ':Sg}(hs:Sg.le σ σ')(h:TR σ nt tm tmps):TR σ' nt tm tmps:=
 ⟨h.size,fun k=>(h.at_ k).mono hs⟩
variable {v:Av}
theorem TR.put (h:TR σ nt tm tmps){d:Nat}(f:d<nt){u:Av}(hv:VR σ v u):TR σ nt (tm.set d (some v)) (tmps.setIfInBounds d u):=by
 refine⟨by simpa using h.size,fun k=>?_⟩;rw[VX];by_cases hk:k=d
 ·subst hk;have:k<tmps.size:=by rw[h.size];exact f
  simp_all
 rw[TH hk];have:=h.at_ k;simpa [Array.getElem?_setIfInBounds_ne (Ne.symm hk)]using this
def pW :Av->Bool
 | .bool _| .int _ _| .float _ _| .string _| .pointer none| .slice none _ _| .map none| .nilFunc| .nilIface=>true
 |_=>false
def cst :Av->Bool
 | .agg cs=>cs.toList.all pW| .tuple vs=>vs.toList.all pW|v=>pW v
def IB (σ:Sg)(h:pW v=true):VR σ v v:=by
 cases v with
 |bool b=>exact .bool b|int k n=>exact .int k n|float k n=>exact .float k n|string s=>exact .string s|pointer a=>cases a with
  |none=>exact .nilp|some a=>simp[pW]at h
 |slice a l c=>cases a with
  |none=>exact .nils l c|some a=>simp[pW]at h
 |map r=>cases r with
  |none=>exact .nilm|some a=>simp[pW]at h
 |nilFunc=>exact .nilf|nilIface=>exact .nili|_=>simp[pW]at h
def sR (σ:Sg):∀ {vs:Af},vs.all pW=true->VRL σ vs vs
 | [],_=>Wi σ|v::vs,h=>by simp only[List.all_cons,Tl]at h;exact Wh (IB σ h.1) (sR σ h.2)
def eA (σ:Sg)(h:cst v=true):VR σ v v:=by
 cases v with
 |agg cs=>have:=(sR σ (h)).to_agg;simpa using this|tuple vs=>have:=(sR σ (h)).to_tuple;simpa using this|bool b=>exact .bool b|int k n=>exact .int k n|float k n=>exact .float k n|string s=>exact .string s|nilFunc=>exact .nilf|nilIface=>exact .nili|_=>exact IB σ h
def c9 (tm:Ao):Az->Ag
 | .tmp t=>some ((tm.get t).getD undef)| .const v=>bif cst v then some v else none| .global _=>none| .func f=>some (.func (.func f) #[] #[])
theorem oM {a:Act}(h:TR σ nt tm a.tmps){x:Az}(hx:c9 tm x=some v):VR σ v (a.eval x):=by
 cases x with
 |tmp t=>simp only[c9,Tk]at hx;subst hx;exact h.at_ t|const c=>
  simp only[c9]at hx;cases hc:cst c with
  |false=>grind|true=>simp[hc]at hx;subst hx;exact eA σ hc
 |global g=>simp[c9]at hx|func f=>simp only[c9,Tk]at hx;subst hx;exact .func _ _ _ _ _ rfl (fun i x y h _=>by grind) rfl (fun i x y h _=>by grind)
def Y8 (tm:Ao):List Az->Bb (Af)
 | []=>some []|x::xs=>match c9 tm x with
  |some v=>match Y8 tm xs with
   |some vs=>some (v::vs)|none=>none
  |none=>none
def dY :TypeDesc->Bool
 | .struct _| .array _ _=>true
 |_=>false
def rN (P:Aw)(t:Ax)(cs:Af)(off:Nat):Ag:=
 match P.underlying t with
 |none=>none
 | some d => bif dY d then
   match P.info? t with
   |some i=>some (.agg ((cs.drop off).take i.size).toArray)|none=>none
  else cs[off]?
variable {P:Aw}
def aD {t:Ax}{d:TypeDesc}(h:P.underlying t=some d)(w:Bc):(isAgg t).run P w= .ok (dY d) w:=by simp only[isAgg,TQ,TL h,TM];cases d<;>rfl
theorem AR (cs:Al)(off n:Nat):cs.extract off (off+n)=((cs.toList.drop off).take n).toArray:=by grind
theorem bT {t:Ax}{xs:Af}{off:Nat}(h:rN P t xs off=some v){ys:Al}(hy:VRL σ xs ys.toList):∃u,VR σ v u/\ ∀w,(part t ys off).run P w= .ok u w:=by
 unfold rN at h;cases l:P.underlying t with
 |none=>grind|some d=>
  simp only[l]at h;cases g:dY d with
  |true=>
   simp only[g,TE]at h;cases hi:P.info? t with
   |none=>grind|some i=>simp only[hi,Tk]at h;subst h;refine⟨.agg (ys.extract off (off+i.size)),?_,fun w=>?_⟩;rw[AR];refine VRL.to_agg ⟨by have:=hy.1;simp at this⊢;omega,fun j x y hx f=>?_⟩;rw[TU]at hx f;by_cases hj:j<i.size;rw[TJ hj,Ua]at hx f;exact hy.2 _ x y hx f;grind;simp only[part,TQ,aD l,TM,g,if_true,sizeOf,typeInfo,Vd,hi,TV]
  |false=>
   simp only[g,TF]at h;obtain⟨u,m,hv⟩:=hy.get h;refine⟨u,hv,fun w=>?_⟩;unfold part;have:ys[off]? =some u:=by grind
   simp only[TQ,aD l,TM,g,UF,if_false,this,TV]
def mG (P:Aw)(xt:Ax)(x:Av)(f:Nat):Ag:=
 match P.underlying xt with
 |some (.struct fs)=>match fs.toList[f]? with
  |some fd=>match x with
   | .agg cs=>rN P fd.type cs.toList fd.offset|_=>none
  |none=>none
 |_=>none
variable {x y:Av}
theorem Cn {g:Ax}{f:Nat}(h:mG P g x f=some v)(hy:VR σ x y):∃u,VR σ v u/\ ∀w,(Instr.field g y f).run P w= .ok u w:=by
 unfold mG at h;split at h
 ·rename_i l q;split at h
  ·rename_i j hf;split at h
   ·rename_i cs;obtain⟨ds,rfl,m⟩:=Wj hy;obtain⟨u,h1,h2⟩:=bT h m;refine⟨u,h1,fun w=>?_⟩;have d:l[f]? =some j:=by grind
    simp[Instr.field,TL q,d,asAgg,h2]
   cases h
  cases h
 cases h
def U5 (x:Av)(i:Nat):Ag:=
 match x with
 | .tuple vs=>vs.toList[i]?|_=>none
theorem wH {i:Nat}(h:U5 x i=some v)(hy:VR σ x y):∃u,VR σ v u/\ ∀w,(Instr.extract y i).run P w= .ok u w:=by
 unfold U5 at h;split at h
 ·rename_i vs;obtain⟨ds,rfl,d⟩:=VRL.of_tuple hy;obtain⟨u,h1,h2⟩:=d.get h;refine⟨u,h2,fun w=>?_⟩;have:ds[i]? =some u:=by grind
  simp[Instr.extract,this]
 cases h
def iP (P:Aw)(xt:Ax)(x i:Av):Ag:=
 match i with
 | .int _ n=>match P.underlying xt,x with
  | some (.array len e), .agg cs => bif decide (0 ≤ n) && decide (n < len) then
    match P.info? e with
    |some ie=>rN P e cs.toList (n.toNat*ie.size)|none=>none
   else none
  | some .string, .string s => bif decide (0 ≤ n) then
    match s.data.toList[n.toNat]? with
    |some b=>some (.int .u8 b.toNat)|none=>none
   else none
  |_,_=>none
 |_=>none
theorem sW (s:ByteArray)(i:Nat):s[i]? =s.data.toList[i]? :=by obtain⟨⟨l⟩⟩:=s;rw[getElem?_def];by_cases h:i<l.length;have h1:i<(ByteArray.mk ⟨l⟩).size:=h;rw[dif_pos h1];simp[h];rfl;have h1:¬i<(ByteArray.mk ⟨l⟩).size:=h;grind
theorem Cq {g:Ax}{i j:Av}(h:iP P g x i=some v)(hy:VR σ x y)(hj:VR σ i j):∃u,VR σ v u/\ ∀w,(Instr.index g y j).run P w= .ok u w:=by
 unfold iP at h;split at h
 ·rename_i k n;cases hj;split at h
  ·rename_i len e cs f;obtain⟨ds,rfl,l⟩:=Wj hy;cases hb:decide (0<=n)&&decide (n<len)with
   |false=>grind|true=>simp only[hb,TE]at h;simp at hb;split at h;rename_i ie d;obtain⟨u,h1,h2⟩:=bT h l;refine⟨u,h1,fun w=>?_⟩;simp[Instr.index,asIntOf,TL f,hb,sizeOf,typeInfo,d,h2];cases h
  ·rename_i s f;cases hy;cases hb:decide (0<=n)with
   |false=>grind|true=>
    simp only[hb,TE]at h;simp at hb;split at h
    ·rename_i b hs;cases h;refine⟨_,.int _ _,fun w=>?_⟩;have:s[n.toNat]? =some b:=by rw[sW];exact hs
     simp[Instr.index,asIntOf,TL f,hb,this]
    cases h
  cases h
 cases h
def splice (cells:Af)(off:Nat)(vs:Af):Af:=cells.take off++vs++cells.drop (off+vs.length)
def kR (place:Nat->Bb (Nat×Nat))(cells:Af):List (Nat×Av)->Bb (Af)
 | []=>some cells| (i,v)::rest=>match place i with
  |none=>none|some (off,size)=>bif Nat.beq v.cells.toList.length size&&Nat.ble (off+size) cells.length then kR place (splice cells off v.cells.toList) rest else none
theorem qW (off:Nat):∀(vs:Af) (k:Nat) (cs:Al),off+k+vs.length<=cs.size->((vs.zipIdx k).foldl (fun(cs:Al) (p:Av×Nat)=>cs.setIfInBounds (off+p.2) p.1) cs).toList=splice cs.toList (off+k) vs
 | [],k,cs,h=>by simp[splice]|v::vs,k,cs,h=>by simp;simp only[Ue]at h;have d:=qW off vs (k+1) (cs.setIfInBounds (off+k) v) (by grind);rw[d];unfold splice;have:=list_seg_step cs.toList (off+k) v vs (by omega);grind
def VRL.splice {σ:Sg}{a b c d:Af}(h:VRL σ a b)(k:VRL σ c d)(off:Nat):VRL σ (splice a off c) (Xe.splice b off d):=by
 have ht:VRL σ (a.take off) (b.take off):=⟨by simp[h.1],fun i x y hx hy=>by rw[TU]at hx hy;split at hx;rename_i hi;rw[TJ hi]at hy;exact h.2 i x y hx hy;cases hx⟩
 have f:VRL σ (a.drop (off+c.length)) (b.drop (off+d.length)):=by rw[k.1];exact⟨by simp[h.1],fun i x y hx hy=>by rw[Ua]at hx hy;exact h.2 _ x y hx hy⟩
 exact(ht.append k).append f
def PVR (σ:Sg)(xs ys:List (Nat×Av)):Prop:=xs.length=ys.length/\ ∀(i:Nat) x y,xs[i]? =some x->ys[i]? =some y->x.1=y.1/\VR σ x.2 y.2
variable {xs ys:List (Nat×Av)}
theorem PVR.uncons {x:Nat×Av}(h:PVR σ (x::xs) ys):∃u d,ys=(x.1,u)::d/\VR σ x.2 u/\PVR σ xs d:=by
 cases ys with
 |nil=>exact absurd h.1 (by simp)|cons y ys=>have h0:=h.2 0 x y rfl rfl;exact⟨y.2,ys,by grind,h0.2,by have:=h.1;simpa using this,fun i a b f hb=>h.2 (i+1) a b (by grind) (by grind)⟩
def PVR.unnil (h:PVR σ [] ys):ys=[]:=Tq h.1.symm
theorem iN (place:Nat->Bb (Nat×Nat)):∀(xs:List (Nat×Av)) (ys:List (Nat×Av)) (cells r:Af) (cs:Al),kR place cells xs=some r->PVR σ xs ys->VRL σ cells cs.toList-> ∃ds,Instr.fill place cs ys=some ds/\VRL σ r ds.toList:=by
 intro xs;induction xs with
 |nil=>intro ys cells r cs h hp hc;rw[hp.unnil];simp[kR]at h;subst h;exact⟨cs,rfl,hc⟩
 |cons x xs m=>
  intro ys cells r cs h hp hc;obtain⟨u,j,rfl,l,hp'⟩:=hp.uncons;obtain⟨i,v⟩:=x;simp only[kR]at h;simp only[Instr.fill];cases g:place i with
  |none=>grind|some os=>
   obtain⟨off,size⟩:=os;simp only[g]at h⊢;cases hb:Nat.beq v.cells.toList.length size&&Nat.ble (off+size) cells.length with
   |false=>grind|true=>
    simp only[hb,TE]at h;simp only[Tl]at hb;have e1:=Tp hb.1;have e2:=To hb.2;have d:=l.cells;have e3:u.cells.size=size:=by rw[<-e1,d.1];simp
    have e4:off+u.cells.size<=cs.size:=by have:=hc.1;simp at this;omega
    have f:¬(decide (u.cells.size≠size)||decide (off+u.cells.size>cs.size))=true:=by grind
    rw[TH f];have hf:(u.cells.zipIdx.foldl (fun(cs:Al) (p:Av×Nat)=>cs.setIfInBounds (off+p.2) p.1) cs).toList=splice cs.toList off u.cells.toList:=by rw[<-Array.foldl_toList,Array.toList_zipIdx];exact qW off u.cells.toList 0 cs (by omega)
    refine m j _ r _ h hp' ?_;rw[hf];exact hc.splice d off
def fH (P:Aw):List Field->Bb (List (Nat×Nat))
 | []=>some []|f::fs=>match P.info? f.type with
  |some i=>match fH P fs with
   |some r=>some ((f.offset,i.size)::r)|none=>none
  |none=>none
theorem vC {P:Aw}(w:Bc):∀ {d:List Field} {r:List (Nat×Nat)},fH P d=some r->(d.mapM fun f=>do pure (f.offset,<-sizeOf f.type):Sem (List (Nat×Nat))).run P w= .ok r w
 | [],r,h=>by simp[fH]at h;subst h;simp|f::d,r,h=>by
  simp only[fH]at h;cases hi:P.info? f.type with
  |none=>grind|some i=>
   cases hr:fH P d with
   |none=>grind|some j=>
    simp[hi,hr]at h;have g:=vC w hr;have hs:(sizeOf f.type).run P w= .ok i.size w:=by simp[sizeOf,typeInfo,hi]
    simp_all
def V0 (P:Aw)(t:Ax):Ag:=match P.info? t with
 |some i=>match i.zero with
  |some z=>bif cst z then some z else none|none=>none
 |none=>none
theorem R7 {t:Ax}{z:Av}(h:V0 P t=some z):cst z=true/\ ∀w,(zeroValue t).run P w= .ok z w:=by
 unfold V0 at h;split at h
 ·rename_i i hi;split at h
  ·rename_i d hz;cases hc:cst d with
   |false=>grind|true=>simp only[hc,TE,Tk]at h;subst h;exact⟨hc,fun w=>by simp[zeroValue,typeInfo,hi,hz]⟩
  cases h
 cases h
def mF (P:Aw)(t:Ax)(parts:List (Nat×Av)):Ag:=
 match V0 P t with
 |none=>none|some z=>match P.underlying t with
  |some (.struct fs)=>match fH P fs.toList with
   |some pl=>match kR (fun i=>pl[i]?) z.cells.toList parts with
    |some cs=>some (.agg cs.toArray)|none=>none
   |none=>none
  |some (.array _ e)=>match P.info? e with
   |some ie=>match kR (fun i=>some (i*ie.size,ie.size)) z.cells.toList parts with
    |some cs=>some (.agg cs.toArray)|none=>none
   |none=>none
  |_=>none
theorem Ck {t:Ax}{ys:Array (Nat×Av)}(h:mF P t xs=some v)(hy:PVR σ xs ys.toList):∃u,VR σ v u/\ ∀w,(Instr.build t ys).run P w= .ok u w:=by
 unfold mF at h;split at h;cases h
 ·rename_i z hz;obtain⟨hc,d⟩:=R7 hz;have g:=(eA σ hc).cells;split at h
  ·rename_i C s;split at h
   ·rename_i A m;split at h
    ·rename_i cs hf;cases h;obtain⟨ds,h1,h2⟩:=iN _ _ _ _ _ _ hf hy g;refine⟨.agg ds,by have:=h2.to_agg;simpa using this,fun w=>?_⟩;have q:=vC w m;have hm:(C.mapM fun f=>do pure (f.offset,<-sizeOf f.type):Sem (Array (Nat×Nat))).run P w= .ok A.toArray w:=by rw[Array.mapM_eq_mapM_toList,Sem.run_map,q];rfl
     have j:(fun x:Nat=>A.toArray[x]?)=fun i:Nat=>A[i]? :=by grind
     simp only[Instr.build,TQ,d,TM,TL s,hm,j,h1,TV]
    cases h
   cases h
  rename_i n e s;split at h;rename_i ie l;split at h;rename_i cs hf;cases h;obtain⟨ds,h1,h2⟩:=iN _ _ _ _ _ _ hf hy g;refine⟨.agg ds,by have:=h2.to_agg;simpa using this,fun w=>?_⟩;simp[Instr.build,d,TL s,sizeOf,typeInfo,l,h1];cases h;cases h;cases h
end Go.Xe
namespace Go.Xe
open Go.RowKit
def T5 (x:Av):Bb (IntKind×Nat×Nat):=
 match x with
 | .complex f lo hi=>some (aK f lo,gZ lo,hi)| .int k (.ofNat n)=>some (k,n,n+1)|_=>none
variable {σ:Sg}{x x':Av}{k:IntKind}
theorem Z2 {lo hi:Nat}(h:T5 x=some (k,lo,hi))(hx:VR σ x x'):∃n:Nat,x'= .int k n/\lo<=n/\(hi=0\/n<hi):=by unfold T5 at h;split at h;simp at h;cases hx<;>grind;rename_i k n;cases hx;grind;cases h
def bI (a b:Nat×Nat):Bb Bool:=
 bif !(Nat.beq a.2 0)&&Nat.ble a.2 b.1 then some true else bif !(Nat.beq b.2 0)&&Nat.ble b.2 (a.1+1)then some false else none
theorem bJ {a b:Nat×Nat}{r:Bool}(h:bI a b=some r){n m:Nat}(h1:a.1<=n)(h2:a.2=0\/n<a.2)(h3:b.1<=m)(h4:b.2=0\/m<b.2):r=decide ((n:Int)<(m:Int)):=by
 unfold bI at h;cases hb: !(Nat.beq a.2 0)&&Nat.ble a.2 b.1 with
 |true=>
  rw[hb,TE]at h;simp only[Tl]at hb;have:=To hb.2;have h0:a.2≠0:=fun e=>by rw[e]at hb;simp at hb
  grind
 |false=>
  rw[hb,TF]at h;cases hc: !(Nat.beq b.2 0)&&Nat.ble b.2 (a.1+1)with
  |true=>
   rw[hc,TE]at h;simp only[Tl]at hc;have:=To hc.2;have h0:b.2≠0:=fun e=>by rw[e]at hc;simp at hc
   grind
  |false=>grind
def eG (a b:Nat×Nat):Bool:=
 match bI a b with
 |some true=>true|_=>match bI b a with
  |some true=>true|_=>false
def ieqF (x y:Av):Bb Bool:=
 match T5 x,T5 y with
 |some (k,a),some (k',b)=>bif decide (k=k')&&eG a b then some false else none|_,_=>none
variable {y y':Av}
theorem tR {b:Bool}(h:ieqF x y=some b)(hx:VR σ x x')(hy:VR σ y y'):b=false/\ ∃k n m,x'= .int k n/\y'= .int k m/\n≠m:=by
 unfold ieqF at h;split at h
 ·rename_i k a k' c z hc;obtain⟨q,a2⟩:=a;obtain⟨s,t⟩:=c;obtain⟨n,rfl,j,l⟩:=Z2 z hx;obtain⟨m,rfl,f,g⟩:=Z2 hc hy;cases hk:decide (k=k')&&eG (q,a2) (s,t)with
  |false=>grind|true=>rw[hk,TE,Tk]at h;simp at hk;obtain⟨rfl,d⟩:=hk;refine⟨h.symm,k,n,m,rfl,rfl,?_⟩;unfold eG at d;split at d;rename_i e;have:=bJ e j l f g;simp at this;omega;split at d;rename_i e;have:=bJ e f g j l;simp at this;omega;grind
 cases h
def Cm (P:Aw)(eq:Ax->Av->Av->Bb Bool)(xs ys:Af):List Field->Bb Bool
 | []=>some true|f::fs=>bif f.name== "_" then Cm P eq xs ys fs else
  match rN P f.type xs f.offset,rN P f.type ys f.offset with
  |some a,some b=>match eq f.type a b with
   |some true=>Cm P eq xs ys fs|some false=>some false|none=>none
  |_,_=>none
def aFs (P:Aw)(e:Ax):Ah->List Field
 | []=>[]
 |i::is=> {(default:Field)with name:= "x",type:=e,offset:=i*P.cellsOf e}::aFs P e is
def nG {P:Aw}(w:Bc)(d:Nat)(e:Ax)(xs ys:Al):∀is:Ah,(Op.eqItems d e (P.cellsOf e) xs ys is).run P w=(Op.eqFields d xs ys (aFs P e is)).run P w
 | []=>by simp[Op.eqItems,Op.eqFields,aFs]|i::is=>by
  have hn:("x" :String)≠ "_" :=by decide
  simp only[Op.eqItems,Op.eqFields,aFs,hn,ne_eq,not_false_eq_true,if_true,TQ];generalize (part e xs (i*P.cellsOf e)).run P w=r1;cases r1 with
  |ok a w1=>
   simp only[TM];generalize (part e ys (i*P.cellsOf e)).run P w1=f;cases f with
   |ok b w2=>
    simp only[TM];generalize (Op.equalIn d e a b).run P w2=g;cases g with
    |ok r w3=>cases r;simp;simp only[TM,Bool.not_true,UF,if_false];exact nG w3 d e xs ys is
    |halt x w3=>simp[Result.andThen]
   |halt x w2=>simp[Result.andThen]
  |halt x w1=>simp[Result.andThen]
def xeq (P:Aw):Nat->Ax->Av->Av->Bb Bool
 |0,_,_,_=>none|d+1,t,x,y=>match P.underlying t,x,y with
  |some .bool,.bool a,.bool b=>some (a==b)|some (.int _),.int k a,.int k' b=>bif decide (k=k')then some (decide (a=b))else none|some (.int _),.complex f lo hi,.int k a=>ieqF (.complex f lo hi) (.int k a)|some (.int _),.int k a,.complex f lo hi=>ieqF (.int k a) (.complex f lo hi)|some .string,.string a,.string b=>some (a.data.toList==b.data.toList)|some (.pointer _),.pointer none,.pointer b=>some b.isNone|some (.pointer _),.pointer (some _),.pointer none=>some false
  | some (.pointer e), .pointer (some ⟨a, o, none⟩), .pointer (some ⟨b, q, none⟩) => bif Nat.beq a b then
    match P.info? e with
    |some ie=>bif Nat.beq ie.size 0 then none else some (Nat.beq o q)|none=>none
   else none
  |some (.struct fs),.agg xs,.agg ys=>bif P.stoodInHeld t then none else Cm P (xeq P d) xs.toList ys.toList fs.toList
  | some (.array n e), .agg xs, .agg ys => match P.info? e with
    |some _=>Cm P (xeq P d) xs.toList ys.toList (aFs P e (List.range n))|none=>none
  |some (.slice _),.slice none _ _,.slice b _ _=>some b.isNone|some (.slice _),.slice (some _) _ _,.slice none _ _=>some false|some (.map _ _),.map none,.map b=>some b.isNone|some (.map _ _),.map (some _),.map none=>some false|some (.func _ _ _),.nilFunc,.nilFunc=>some true|some (.func _ _ _),.nilFunc,.func _ _ _=>some false|some (.func _ _ _),.func _ _ _,.nilFunc=>some false|some (.interface _),.nilIface,.iface _ _=>some false|some (.interface _),.iface _ _,.nilIface=>some false
  | some (.interface _), .iface tx vx, .iface ty vy => bif decide (tx = ty) then
    match P.info? tx with
    |some i=>bif i.comparable then xeq P d tx vx vy else none|none=>none
   else some false
  |_,_,_=>none
theorem fD {P:Aw}{σ:Sg}{d:Nat}{A:Ax->Av->Av->Bb Bool}(hq:∀t x y b,A t x y=some b-> ∀x' y',VR σ x x'->VR σ y y'-> ∀w,(Op.equalIn d t x' y').run P w= .ok b w){xs ys:Af}{l m:Al}(hx:VRL σ xs l.toList)(hy:VRL σ ys m.toList)(w:Bc):∀ {q:List Field} {b:Bool},Cm P A xs ys q=some b->(Op.eqFields d l m q).run P w= .ok b w
 | [],b,h=>by simp[Cm]at h;subst h;simp[Op.eqFields]|f::q,b,h=>by
  simp only[Cm]at h;by_cases hn:f.name= "_"
  ·have:(f.name== "_")=true:=by grind
   rw[this,TE]at h;simp only[Op.eqFields,hn,ne_eq,not_true_eq_false,if_false];exact fD hq hx hy w h
  ·have:(f.name== "_")=false:=by grind
   rw[this,TF]at h;split at h;rename_i a c C hc;obtain⟨a',g,s⟩:=bT C hx;obtain⟨c',j,z⟩:=bT hc hy;simp only[Op.eqFields,ne_eq,hn,not_false_eq_true,if_true,TQ,s,z,TM];split at h;rename_i he;rw[hq _ _ _ _ he _ _ g j w];exact fD hq hx hy w h;rename_i he;rw[hq _ _ _ _ he _ _ g j w];simp_all;cases h;cases h
variable {P:Aw}
def KO :∀(d:Nat) (t:Ax) (x y:Av) (b:Bool),xeq P d t x y=some b-> ∀x' y',VR σ x x'->VR σ y y'-> ∀w,(Op.equalIn d t x' y').run P w= .ok b w:=by
 intro d;induction d with
 |zero=>intro t x y b h;simp[xeq]at h
 |succ d K=>
  intro t x y b h x' y' hx hy w;simp only[xeq]at h;split at h;rename_i a c f;cases hx;cases hy;simp only[Tk]at h;subst h;simp[Op.equalIn,TL f]
  ·rename_i k k' a L c f;cases hx;cases hy;cases hk:decide (k'=L)with
   |false=>rw[hk]at h;cases h
   |true=>rw[hk]at h;simp only[TI]at hk;subst hk;simp only[TE,Tk]at h;subst h;rw[run_equalIn_int w d t _ _ _ _ f];congr 1
  rename_i f;obtain⟨rfl,k,n,m,rfl,rfl,z⟩:=tR h hx hy;rw[run_equalIn_int w d t _ _ _ _ f];simp[z];rename_i f;obtain⟨rfl,k,n,m,rfl,rfl,z⟩:=tR h hx hy;rw[run_equalIn_int w d t _ _ _ _ f];simp[z];rename_i a c f;cases hx;cases hy;simp only[Tk]at h;subst h;rw[run_equalIn_string w d t _ _ f,ByteArray.toList_eq,ByteArray.toList_eq]
  ·rename_i e c f;simp only[Tk]at h;subst h;cases hx;have hn:∃c',y'= .pointer c'/\c'.isNone=c.isNone:=by cases hy<;>exact⟨_,rfl,rfl⟩
   obtain⟨c',rfl,hn⟩:=hn;simp[Op.equalIn,TL f,hn]
  rename_i e c f;simp only[Tk]at h;subst h;cases hx<;>cases hy<;>simp[Op.equalIn,TL f]
  ·rename_i e i o j q f;cases hx with
   |ptr _ _ p hp=>
   cases hy with
   |ptr _ _ r hr=>
   cases g:Nat.beq i j with
   |false=>rw[g]at h;cases h
   |true=>
    rw[g]at h;have g:=Tp g;subst g;have G:p=r:=TN (hp.symm.trans hr);subst G;simp only[TE]at h;split at h
    ·rename_i ie F;cases hz:Nat.beq ie.size 0 with
     |true=>rw[hz]at h;cases h
     |false=>
      rw[hz]at h;simp only[TF,Tk]at h;subst h;have J:ie.size≠0:=fun e=>by rw[e]at hz;cases hz
      simp only[Op.equalIn,TQ,TL f,TM,sizeOf,typeInfo,Vd,F,TV,ne_eq,J,not_false_eq_true,if_true,sameAddr,beq_self_eq_true];congr 1;by_cases e:o=q;subst e;rw[t9 rfl];simp;rw[z8 e];simp
    cases h
  ·rename_i Q xs ys f;cases hs:P.stoodInHeld t with
   |true=>rw[hs]at h;cases h
   |false=>
    rw[hs,TF]at h;obtain⟨D,rfl,A⟩:=Wj hx;obtain⟨E,rfl,C⟩:=Wj hy;have hf:P.fieldsOf t=Q:=by simp[Program.fieldsOf,f]
    rw[run_equalIn_struct w d t D E (by rw[hf];exact f) hs,hf];exact fD (fun t x y b hb x' y' h1 h2 w=>K t x y b hb x' y' h1 h2 w) A C w h
  rename_i n e xs ys f;split at h;rename_i i hi;obtain⟨D,rfl,A⟩:=Wj hx;obtain⟨E,rfl,C⟩:=Wj hy;rw[run_equalIn_array w d D E f hi,nG];exact fD (fun t x y b hb x' y' h1 h2 w=>K t x y b hb x' y' h1 h2 w) A C w h;cases h
  ·rename_i e l c b' l' c' f;simp only[Tk]at h;subst h;cases hx;have hn:∃s N M,y'= .slice s N M/\s.isNone=b'.isNone:=by cases hy<;>exact⟨_,_,_,rfl,rfl⟩
   obtain⟨s,N,M,rfl,hn⟩:=hn;simp[Op.equalIn,TL f,hn]
  rename_i e a l c l' c' f;simp only[Tk]at h;subst h;cases hx<;>cases hy<;>simp[Op.equalIn,TL f]
  ·rename_i k e b' f;simp only[Tk]at h;subst h;cases hx;have hn:∃s,y'= .map s/\s.isNone=b'.isNone:=by cases hy<;>exact⟨_,rfl,rfl⟩
   obtain⟨s,rfl,hn⟩:=hn;simp[Op.equalIn,TL f,hn]
  rename_i k e a f;simp only[Tk]at h;subst h;cases hx;cases hy;simp[Op.equalIn,TL f];rename_i f;simp only[Tk]at h;subst h;cases hx;cases hy;simp[Op.equalIn,TL f];rename_i f;simp only[Tk]at h;subst h;cases hx;cases hy;simp[Op.equalIn,TL f];rename_i f;simp only[Tk]at h;subst h;cases hx;cases hy;simp[Op.equalIn,TL f];rename_i f;simp only[Tk]at h;subst h;cases hx;cases hy;simp[Op.equalIn,TL f];rename_i f;simp only[Tk]at h;subst h;cases hx;cases hy;simp[Op.equalIn,TL f]
  ·rename_i S O vx ty R f;cases hx with
   |iface _ _ ux H=>
   cases hy with
   |iface _ _ uy I=>
   cases ht:decide (O=ty)with
   |false=>rw[ht]at h;simp only[TF,Tk]at h;subst h;simp only[Uj]at ht;simp[Op.equalIn,TL f,ht]|true=>
    rw[ht]at h;simp only[TI]at ht;subst ht;simp only[TE]at h;split at h
    ·rename_i i hi;cases hc:i.comparable with
     |false=>rw[hc]at h;cases h
     |true=>rw[hc,TE]at h;have:=K O vx R b h ux uy H I w;simp[Op.equalIn,TL f,typeInfo,hi,hc,this]
    cases h
  cases h
def jY (op:BinOp)(a b:Int):Ag:=
 match op with
 | .eql=>some (.bool (decide (a=b)))| .neq=>some (.bool (!decide (a=b)))| .lss=>some (.bool (decide (a<b)))| .leq=>some (.bool (decide (a<=b)))| .gtr=>some (.bool (decide (b<a)))| .geq=>some (.bool (decide (b<=a)))|_=>none
def E2 (op:BinOp)(k:IntKind)(a b:Int):Ag:=
 match op with
 | .add=>some (.int k (k.wrap (a+b)))| .sub=>some (.int k (k.wrap (a-b)))| .mul=>some (.int k (k.wrap (a*b)))| .quo=>bif decide (b=0)then none else some (.int k (k.wrap (a.tdiv b)))| .rem=>bif decide (b=0)then none else some (.int k (a.tmod b))| .and| .or| .xor| .andNot=>some (.int k (bits op k a b))
 |_=>jY op a b
def qP (op:BinOp)(k:IntKind)(a b:Int):Ag:=
 bif decide (b<0)then none else
 match op with
 | .shl=>some (.int k (k.wrap (a*2^(min b.toNat k.bits))))| .shr=>some (.int k (a.fdiv (2^(min b.toNat k.bits))))|_=>none
def OI (op:BinOp)(a b:ByteArray):Ag:=
 match op with
 | .add=>bif Nat.ble (a.data.toList.length+b.data.toList.length) 1000000000 then some (.string ⟨(a.data.toList++b.data.toList).toArray⟩)else none| .eql=>some (.bool (a.data.toList==b.data.toList))| .neq=>some (.bool (!(a.data.toList==b.data.toList)))| .lss=>some (.bool (Op.bytesLess a.data.toList b.data.toList))| .leq=>some (.bool (Op.bytesLess a.data.toList b.data.toList||a.data.toList==b.data.toList))| .gtr=>some (.bool (!(Op.bytesLess a.data.toList b.data.toList||a.data.toList==b.data.toList)))| .geq=>some (.bool (!Op.bytesLess a.data.toList b.data.toList))|_=>none
def P2 (P:Aw)(t:Ax):Av->Bool
 | .agg _=> !P.eqGuardType P.depth t| .nilIface=>false| .complex _ _ _=>false| .float _ _=>false|_=>true
def cQ (P:Aw)(op:BinOp)(t:Ax)(x y:Av):Ag:=
 match x,y with
 | .int k a,.int k' b=>match op with
  | .shl| .shr=>qP op k a b
  |_=>bif decide (k=k')then E2 op k a b else none
 | .string a,.string b=>OI op a b|_,.complex _ _ _=>none|x,y=>match op with
  | .eql=>bif P2 P t x then match xeq P 10000 t x y with
   |some b=>some (.bool b)|none=>none else none
  | .neq=>bif P2 P t x then match xeq P 10000 t x y with
   |some b=>some (.bool (!b))|none=>none else none
  |_=>none
variable {a b:Int}{v:Av}
def W4 {op:BinOp}(h:jY op a b=some v):VR σ v v/\ ∀w,(Op.intCmp op a b).run P w= .ok v w:=by cases op<;>simp only[jY,Tk,reduceCtorEq]at h<;>subst h<;>refine⟨.bool _,fun w=>?_⟩<;>simp[Op.intCmp]<;>by_cases e:a=b<;>simp[e]
theorem Ci {op:BinOp}(h:E2 op k a b=some v)(h1:op≠ .shl)(h2:op≠ .shr)(t:Ax):VR σ v v/\ ∀w,(binOp op t (.int k a) (.int k b)).run P w= .ok v w:=by
 cases op;case shl=>exact absurd rfl h1
 case shr=>exact absurd rfl h2
 case quo=>
  simp only[E2]at h;cases hb:decide (b=0)with
  |true=>grind|false=>rw[hb]at h;simp at hb;simp at h;subst h;exact⟨.int _ _,fun w=>by simp[binOp_quo,Op.intDiv,hb]⟩
 case rem=>
  simp only[E2]at h;cases hb:decide (b=0)with
  |true=>grind|false=>rw[hb]at h;simp at hb;simp at h;subst h;exact⟨.int _ _,fun w=>by simp[binOp_rem,Op.intDiv,hb]⟩
 case add=>simp only[E2,Tk]at h;subst h;exact⟨.int _ _,fun w=>by simp[binOp_add,Op.intArith]⟩
 case sub=>simp only[E2,Tk]at h;subst h;exact⟨.int _ _,fun w=>by simp[binOp_sub,Op.intArith]⟩
 case mul=>simp only[E2,Tk]at h;subst h;exact⟨.int _ _,fun w=>by simp[binOp_mul,Op.intArith]⟩
 case and=>simp only[E2,Tk]at h;subst h;exact⟨.int _ _,fun w=>by simp[binOp_and,intBits_and]⟩
 case or=>simp only[E2,Tk]at h;subst h;exact⟨.int _ _,fun w=>by simp[binOp_or,intBits_or]⟩
 case xor=>simp only[E2,Tk]at h;subst h;exact⟨.int _ _,fun w=>by simp[binOp_xor,intBits_xor]⟩
 case andNot=>simp only[E2,Tk]at h;subst h;exact⟨.int _ _,fun w=>by simp[binOp_andNot,intBits_andNot]⟩
 case eql=>obtain⟨h3,h4⟩:=W4 (op:= .eql) h;exact⟨h3,fun w=>by simpa [binOp]using h4 w⟩
 case neq=>obtain⟨h3,h4⟩:=W4 (op:= .neq) h;exact⟨h3,fun w=>by simpa [binOp]using h4 w⟩
 case lss=>obtain⟨h3,h4⟩:=W4 (op:= .lss) h;exact⟨h3,fun w=>by simpa [binOp]using h4 w⟩
 case leq=>obtain⟨h3,h4⟩:=W4 (op:= .leq) h;exact⟨h3,fun w=>by simpa [binOp]using h4 w⟩
 case gtr=>obtain⟨h3,h4⟩:=W4 (op:= .gtr) h;exact⟨h3,fun w=>by simpa [binOp]using h4 w⟩
 case geq=>obtain⟨h3,h4⟩:=W4 (op:= .geq) h;exact⟨h3,fun w=>by simpa [binOp]using h4 w⟩
theorem oR {op:BinOp}{yk:IntKind}(h:qP op k a b=some v):VR σ v v/\ ∀w,(Op.shift op k a yk b).run P w= .ok v w:=by
 unfold qP at h;cases hb:decide (b<0)with
 |true=>grind|false=>rw[hb,TF]at h;simp only[Uj]at hb;split at h;simp at h;subst h;exact⟨.int _ _,fun w=>by simp[Op.shift,hb]⟩;simp at h;subst h;exact⟨.int _ _,fun w=>by simp[Op.shift,hb]⟩;cases h
theorem oV (a b:ByteArray):a++b=⟨(a.data.toList++b.data.toList).toArray⟩:=by apply ByteArray.ext;simp_all
theorem Ht {op:BinOp}{a b:ByteArray}(h:OI op a b=some v):VR σ v v/\ ∀w,(Op.stringOp op a b).run P w= .ok v w:=by
 cases op<;>simp only[OI,Tk,reduceCtorEq]at h;case add=>
  cases hb:Nat.ble (a.data.toList.length+b.data.toList.length) 1000000000 with
  |false=>grind|true=>
   rw[hb]at h;simp at h;subst h;have hb:=To hb;have e1:a.size=a.data.toList.length:=by simp
   have e2:b.size=b.data.toList.length:=by simp
   have d:¬((a.size+b.size:Nat):Int)>IntKind.i64.max:=by rw[IntKind.max_i64,e1,e2];omega
   refine⟨.string _,fun w=>?_⟩;simp only[Op.stringOp,TH d,TV,oV]
 all_goals
  subst h;refine⟨.bool _,fun w=>?_⟩;simp only[Op.stringOp,ByteArray.toList_eq,TV]
def mE {op:BinOp}{t:Ax}(h:cQ P op t x y=some v)(hx:VR σ x x')(hy:VR σ y y')(z A:Az):VR σ v v/\ ∀w,((eqGuard op t z A x' y').run P w= .ok () w)/\(binOp op t x' y').run P w= .ok v w:=by
 unfold cQ at h;split at h
 ·rename_i k a k' b;cases hx;cases hy;split at h;obtain⟨h1,h2⟩:=oR (σ:=σ) (P:=P) (yk:=k') h;exact⟨h1,fun w=>⟨by rw[eqGuard_at_int];rfl,by rw[binOp_shl];exact h2 w⟩⟩;obtain⟨h1,h2⟩:=oR (σ:=σ) (P:=P) (yk:=k') h;exact⟨h1,fun w=>⟨by rw[eqGuard_at_int];rfl,by rw[binOp_shr];exact h2 w⟩⟩
  ·rename_i j l;cases hk:decide (k=k')with
   |false=>rw[hk]at h;cases h
   |true=>rw[hk]at h;simp only[TI]at hk;subst hk;obtain⟨h1,h2⟩:=Ci (σ:=σ) (P:=P) (show E2 op k a b=some v from h) j l t;exact⟨h1,fun w=>⟨by rw[eqGuard_at_int];rfl,h2 w⟩⟩
 rename_i a b;cases hx;cases hy;obtain⟨h1,h2⟩:=Ht (σ:=σ) (P:=P) h;exact⟨h1,fun w=>⟨by rw[eqGuard_at_string];rfl,by cases op<;>exact h2 w⟩⟩;cases h
 ·rename_i m q s;have hg : P2 P t x = true → ∀ w, (eqGuard op t  z  A x' y').run P w = .ok () w := by
   intro hg w;cases hx<;>first
    | (simp[P2]at hg;done)
    | (simp only[P2,Uh]at hg
       cases hy<;>first| (rw[run_eqGuard_agg (h:=w) _ _ _ _ _ _ hg];done)| (exact run_eqGuard_agg w op t z A _ _ hg)| (cases op<;>rfl))
    | (cases op<;>rfl)
  have f:∀b,xeq P 10000 t x y=some b-> ∀w,(Op.equal t x' y').run P w= .ok b w:=fun b hb w=>KO 10000 t x y b hb x' y' hx hy w;have g:P2 P t x=true->(∀w,(binOp .eql t x' y').run P w=(do pure (.bool (<-Op.equal t x' y')):Sem Av).run P w)/\
    (∀w,(binOp .neq t x' y').run P w=(do pure (.bool (!(<-Op.equal t x' y'))):Sem Av).run P w):=by
   intro d;constructor<;>intro w<;>cases hx<;>cases hy<;>first|rfl| (exact(q _ _ _ _ rfl rfl).elim)| (exact(s _ _ rfl rfl).elim)| (exact(m _ _ _ rfl).elim)| (simp[P2]at d)
  split at h
  ·cases d:P2 P t x with
   |false=>rw[d]at h;cases h
   |true=>rw[d,TE]at h;split at h;rename_i b hb;simp only[Tk]at h;subst h;exact⟨.bool _,fun w=>⟨hg d w,by rw[(g d).1 w];simp only[TQ,f b hb w,TM,TV]⟩⟩;cases h
  ·cases d:P2 P t x with
   |false=>rw[d]at h;cases h
   |true=>rw[d,TE]at h;split at h;rename_i b hb;simp only[Tk]at h;subst h;exact⟨.bool _,fun w=>⟨hg d w,by rw[(g d).2 w];simp only[TQ,f b hb w,TM,TV]⟩⟩;cases h
  cases h
end Go.Xe
namespace Go.Xe
open Go.RowKit
def OH (n:Int):Ag:=some (.string (Utf8.encode n))
def iM (P:Aw)(src dst:Ax)(x:Av):Ag:=
 match P.underlying src with
 |none=>none|some _=>match P.underlying dst,x with
  |some (.int k),.int _ n=>some (.int k (k.wrap n))|some .string,.string s=>some (.string s)|some .string,.int _ n=>OH n|some (.int .i64),.complex _ lo hi=>bif Nat.ble 1 hi&&Nat.ble hi unk then some (.complex .f64 (gZ lo) hi)else none|some (.int .u64),.complex _ lo hi=>bif Nat.ble 1 hi&&Nat.ble hi unk then some (.complex .f32 (gZ lo+18446744073709551616) hi)else none|_,_=>none
variable {P:Aw}{σ:Sg}{v x x':Av}
theorem EO {src dst:Ax}(h:iM P src dst x=some v)(hx:VR σ x x'):∃u,VR σ v u/\ ∀w,(convert src dst x').run P w= .ok u w:=by
 unfold iM at h;split at h;cases h
 ·rename_i d hs;split at h;rename_i k k' n g;cases hx;simp only[Tk]at h;subst h;exact⟨_,.int _ _,fun w=>by simp[convert,TL hs,TL g,Conv.intToInt]⟩;rename_i s g;cases hx;simp only[Tk]at h;subst h;exact⟨_,.string _,fun w=>by simp[convert,TL hs,TL g]⟩;rename_i k n g;cases hx;unfold OH at h;simp only[Tk]at h;subst h;exact⟨_,.string _,fun w=>by simp[convert,TL hs,TL g,Conv.intToString]⟩
  ·rename_i f lo hi g;cases hb:Nat.ble 1 hi&&Nat.ble hi unk with
   |false=>grind|true=>
    rw[hb,TE]at h;simp only[Tl]at hb;have l:=To hb.1;have m:=To hb.2;simp only[Tk]at h;subst h;cases hx with
    |ival _ _ _ n h1 h2=>
     have hn:n<unk:=by omega
     refine⟨_,.ival .f64 (gZ lo) hi n (Us (AZ _) h1) h2,fun w=>?_⟩;have j:IntKind.i64.wrap (n:Int)=n:=by rw[IntKind.wrap_i64];unfold unk at hn;omega
     simp[convert,TL hs,TL g,Conv.intToInt,j,aK,Da]
  ·rename_i f lo hi g;cases hb:Nat.ble 1 hi&&Nat.ble hi unk with
   |false=>grind|true=>
    rw[hb,TE]at h;simp only[Tl]at hb;have l:=To hb.1;have m:=To hb.2;simp only[Tk]at h;subst h;cases hx with
    |ival _ _ _ n h1 h2=>
     have hn:n<unk:=by omega
     have e1:gZ (gZ lo+18446744073709551616)=gZ lo:=by unfold gZ;omega
     have e2:aK .f32 (gZ lo+18446744073709551616)= .u64:=by
      have:(gZ lo+18446744073709551616)/18446744073709551616=1:=by unfold gZ;omega
      rw[aK,this,Da]
     refine⟨_,.ival .f32 (gZ lo+18446744073709551616) hi n (by omega) h2,fun w=>?_⟩;have j:IntKind.u64.wrap (n:Int)=n:=by rw[IntKind.wrap_u64];unfold unk at hn;omega
     simp[convert,TL hs,TL g,Conv.intToInt,j,e2]
  cases h
def xun (op:UnOp)(x:Av):Ag:=
 match op,x with
 | .neg,.int k n=>some (.int k (k.wrap (0-n)))| .not,.bool b=>some (.bool (!b))|_,_=>none
def Lb {op:UnOp}(h:xun op x=some v)(hx:VR σ x x'):VR σ v v/\ ∀w,(Op.unary op x').run P w= .ok v w:=by unfold xun at h;split at h;cases hx;simp only[Tk]at h;subst h;exact⟨.int _ _,fun w=>rfl⟩;cases hx;simp at h;subst h;exact⟨.bool _,fun w=>rfl⟩;cases h
def mH (P:Aw)(t:Ax)(x:Av):Ag:=
 match P.underlying t with
 |some (.interface _)=>none|some _=>some (.iface t x)|none=>none
theorem Co {t:Ax}(h:mH P t x=some v)(hx:VR σ x x'):∃u,VR σ v u/\ ∀w,(Instr.makeInterface t x').run P w= .ok u w:=by unfold mH at h;split at h;cases h;rename_i d g f;simp at h;subst h;refine⟨_,.iface t x x' hx,fun w=>?_⟩;simp only[Instr.makeInterface,TQ,TL f,TM];simp_all;cases h
def M6 (P:Aw)(s:Ax)(x:Av)(f:Nat):Ag:=
 match P.underlying s with
 |some (.struct fs)=>match fs.toList[f]? with
  |some fd=>match P.info? fd.type with
   |some i=>bif Nat.beq i.size 0 then none else
    match x with
    | .pointer (some ⟨b,o,none⟩)=>some (.pointer (some ⟨b,o+fd.offset,none⟩))| .pointer (some ⟨b,o,some 1⟩)=>some (.pointer (some ⟨b,o+fd.offset,some 1⟩))|_=>none
   |none=>none
  |none=>none
 |_=>none
theorem qG {s:Ax}{f:Nat}(h:M6 P s x f=some v)(hx:VR σ x x'):∃u,VR σ v u/\ ∀w,(Instr.fieldAt s x' f).run P w= .ok u w:=by
 unfold M6 at h;split at h
 ·rename_i l m;split at h
  ·rename_i j hf;split at h
   ·rename_i i hi;cases hz:Nat.beq i.size 0 with
    |true=>grind|false=>
     rw[hz,TF]at h;have g:i.size≠0:=fun e=>by rw[e]at hz;cases hz
     split at h
     ·rename_i b o;simp only[Tk]at h;subst h;cases hx with
      |ptr _ _ p hp=>
      have d:l[f]? =some j:=by grind
      refine⟨_,.ptr b (o+j.offset) p hp,fun w=>?_⟩;simp[Instr.fieldAt,TL m,d,Instr.sureAddr,fieldPlace,sizeOf,typeInfo,hi,g,UW,Uu]
     ·rename_i b o;simp only[Tk]at h;subst h;cases hx with
      |rptr _ _ p hp=>
      have d:l[f]? =some j:=by grind
      refine⟨_,.rptr b (o+j.offset) p hp,fun w=>?_⟩;simp[Instr.fieldAt,TL m,d,Instr.sureAddr,fieldPlace,sizeOf,typeInfo,hi,g,UW]
     cases h
   cases h
  cases h
 cases h
def C4 (P:Aw)(t:Ax)(x ix:Av):Ag:=
 match ix with
 | .int _ n=>match P.underlying t with
  |some (.slice e)=>match P.info? e with
   |some ie=>match x with
    | .slice (some ⟨b,o,none⟩) len _=>bif decide (0<=n)&&decide (n<len)then some (.pointer (some ⟨b,o+n.toNat*ie.size,none⟩))else none|_=>none
   |none=>none
  |some (.array len e)=>match P.info? e with
   |some ie=>match x with
    | .pointer (some ⟨b,o,none⟩)=>bif decide (0<=n)&&decide (n<len)then some (.pointer (some ⟨b,o+n.toNat*ie.size,none⟩))else none|_=>none
   |none=>none
  |_=>none
 |_=>none
theorem qI {t:Ax}{i g:Av}(h:C4 P t x i=some v)(hx:VR σ x x')(hi:VR σ i g):∃u,VR σ v u/\ ∀w,(Instr.indexAt t x' g).run P w= .ok u w:=by
 unfold C4 at h;split at h
 ·rename_i k n;cases hi;split at h
  ·rename_i e f;split at h
   ·rename_i ie d;split at h
    ·rename_i b o len c;cases hx with
     |slice _ _ p _ _ c' hp hc hl=>
     cases hb:decide (0<=n)&&decide (n<len)with
     |false=>grind|true=>rw[hb,TE]at h;simp at hb;simp at h;subst h;refine⟨_,.ptr b _ p hp,fun w=>?_⟩;simp[Instr.indexAt,asIntOf,TL f,hb,sizeOf,typeInfo,d,UW,Uu]
    cases h
   cases h
  ·rename_i len e f;split at h
   ·rename_i ie d;split at h
    ·rename_i b o;cases hx with
     |ptr _ _ p hp=>
     cases hb:decide (0<=n)&&decide (n<len)with
     |false=>grind|true=>rw[hb,TE]at h;simp at hb;simp at h;subst h;refine⟨_,.ptr b _ p hp,fun w=>?_⟩;simp[Instr.indexAt,asIntOf,TL f,Instr.sureAddr,hb,sizeOf,typeInfo,d,UW,Uu]
    cases h
   cases h
  cases h
 cases h
def rV (P:Aw)(t:Ax)(x:Av):Ag:=
 match P.underlying t,x with
 |some .string,.string s=>some (.int .i64 s.data.toList.length)|some (.array n _),_=>some (.int .i64 n)|some (.slice _),.slice _ n _=>some (.int .i64 n)|some (.map _ _),.map none=>some (.int .i64 0)|_,_=>none
def wK {t:Ax}(h:rV P t x=some v)(hx:VR σ x x')(ty:Ax)(ats:Array Ax)(d:ats[0]? =some t):VR σ v v/\ ∀w,(Builtin.len_ ats ty #[x']).run P w= .ok v w:=by unfold rV at h;split at h;rename_i s f;cases hx;simp at h;subst h;refine⟨.int _ _,fun w=>?_⟩;simp[Builtin.len_,d,TL f,goInt];rename_i n e f;simp at h;subst h;refine⟨.int _ _,fun w=>?_⟩;simp[Builtin.len_,d,TL f,goInt];rename_i e b n c f;simp at h;subst h;refine⟨.int _ _,fun w=>?_⟩;cases hx<;>simp[Builtin.len_,d,TL f,goInt];rename_i k e f;simp at h;subst h;refine⟨.int _ _,fun w=>?_⟩;cases hx;simp[Builtin.len_,d,TL f,goInt];cases h
def oK (P:Aw)(t:Ax)(x:Av):Ag:=
 match P.underlying t,x with
 |some (.slice _),.slice none _ c=>some (.int .i64 c)|some (.slice _),.slice (some _) n c=>bif Nat.ble unk c then some (.complex .f64 (Nat.max (P4 c) n) (F5 c))else some (.int .i64 c)|some (.array n _),_=>some (.int .i64 n)|_,_=>none
theorem Hk {t:Ax}(h:oK P t x=some v)(hx:VR σ x x')(ty:Ax)(ats:Array Ax)(d:ats[0]? =some t):∃u,VR σ v u/\ ∀w,(Builtin.cap_ ats ty #[x']).run P w= .ok u w:=by
 unfold oK at h;split at h;rename_i e n c g;simp at h;subst h;cases hx;refine⟨_,.int _ _,fun w=>?_⟩;simp[Builtin.cap_,d,TL g,goInt]
 ·rename_i e b n c g;have run:∀b' n' c' w,(Builtin.cap_ ats ty #[.slice b' n' c']).run P w= .ok (.int .i64 c') w:=fun b' n' c' w=>by simp[Builtin.cap_,d,TL g,goInt]
  cases hc:Nat.ble unk c with
  |true=>
   rw[hc,TE]at h;simp at h;subst h;have hc:=To hc;cases hx with
   |slice i o p _ _ c' hp f hl=>rcases f with⟨_,h2⟩| ⟨_,h2,h3,_⟩;omega;exact⟨_,.ival .f64 _ _ c' (Us (AZ _) (Nat.max_le.2 ⟨h2,hl⟩)) h3,run _ _ _⟩
   |vague q c'=>exact⟨_,.ival .f64 _ _ c' (Us (AZ _) (Nat.max_le.2 ⟨by exact UY _,UY _⟩)) (.inl SP),run _ _ _⟩
  |false=>
   rw[hc,TF]at h;simp at h;subst h;have j:¬unk<=c:=fun h=>by rw[Ts h]at hc;cases hc
   cases hx with
   |slice i o p _ _ c' hp f hl=>rcases f with⟨rfl,_⟩| ⟨h1,_⟩;exact⟨_,.int _ _,run _ _ _⟩;grind
   |vague q c'=>grind
 rename_i n e g;simp at h;subst h;refine⟨_,.int _ _,fun w=>?_⟩;simp[Builtin.cap_,d,TL g,goInt];cases h
def Mj (op:BinOp)(a b:Nat×Nat):Ag:=
 match op with
 | .lss=>(bI a b).map .bool| .gtr=>(bI b a).map .bool| .leq=>(bI b a).map fun r=>.bool (!r)
 | .geq=>(bI a b).map fun r=>.bool (!r)
 | .eql=>bif eG a b then some (.bool false)else none| .neq=>bif eG a b then some (.bool true)else none|_=>none
def irem (op:BinOp)(x y:Av):Ag:=
 match op,x,y with
 | .rem,.complex f lo _,.int k (.ofNat c)=>bif decide (aK f lo=k)&&Nat.ble 1 c then some (.complex f (lo/18446744073709551616*18446744073709551616) c)else none|_,_,_=>none
def EJ (op:BinOp)(x y:Av):Ag:=
 match T5 x,T5 y with
 |some (k,a),some (k',b)=>bif decide (k=k')then Mj op a b else none|_,_=>none
theorem W0 {op:BinOp}{t:Ax}{k:IntKind}{n m:Nat}{r:Bool}(h:jY op (n:Int) (m:Int)=some (.bool r))(h1:op≠ .shl)(h2:op≠ .shr)(hx:E2 op k (n:Int) (m:Int)=jY op (n:Int) (m:Int))(d f:Az):∃u,VR σ (.bool r) u/\ ∀w,((eqGuard op t d f (.int k n) (.int k m)).run P w= .ok () w)/\(binOp op t (.int k n) (.int k m)).run P w= .ok u w:=by
 have hb:cQ P op t (.int k n) (.int k m)=some (.bool r):=by have:=hx.trans h;cases op<;>first|exact absurd rfl h1|exact absurd rfl h2| (simp only[cQ,Ur,TE];exact this)
 obtain⟨g,j⟩:=mE (σ:=σ) hb (.int k n) (.int k m) d f;grind
variable {y y':Av}
theorem EK {op:BinOp}{t:Ax}(h:EJ op x y=some v)(hx:VR σ x x')(hy:VR σ y y')(d g:Az):∃u,VR σ v u/\ ∀w,((eqGuard op t d g x' y').run P w= .ok () w)/\(binOp op t x' y').run P w= .ok u w:=by
 have C:∀(f:IntKind) (a b:Nat×Nat),T5 x=some (f,a)->T5 y=some (f,b)->Mj op a b=some v-> ∃u,VR σ v u/\ ∀w,((eqGuard op t d g x' y').run P w= .ok () w)/\(binOp op t x' y').run P w= .ok u w:=by
  intro f a b G hb h;obtain⟨j,a2⟩:=a;obtain⟨l,q⟩:=b;obtain⟨n,rfl,D,E⟩:=Z2 G hx;obtain⟨m,rfl,z,A⟩:=Z2 hb hy;have lt:∀r,bI (j,a2) (l,q)=some r->r=decide ((n:Int)<(m:Int)):=fun r hr=>bJ hr D E z A;have F:∀r,bI (l,q) (j,a2)=some r->r=decide ((m:Int)<(n:Int)):=fun r hr=>bJ hr z A D E;have ne:eG (j,a2) (l,q)=true->(n:Int)≠m:=by intro s;unfold eG at s;grind
  unfold Mj at h;cases op;case lss=>simp only[UP]at h;obtain⟨r,hr,rfl⟩:=h;exact W0 (by rw[lt r hr];rfl) (by simp) (by simp) rfl d g
  case gtr=>simp only[UP]at h;obtain⟨r,hr,rfl⟩:=h;exact W0 (by rw[F r hr];rfl) (by simp) (by simp) rfl d g
  case leq=>simp only[UP]at h;obtain⟨r,hr,rfl⟩:=h;refine W0 ?_ (by simp) (by simp) rfl d g;simp only[jY];congr 2;grind
  case geq=>simp only[UP]at h;obtain⟨r,hr,rfl⟩:=h;refine W0 ?_ (by simp) (by simp) rfl d g;simp only[jY];congr 2;grind
  case eql=>
   cases hp:eG (j,a2) (l,q)with
   |false=>grind|true=>simp only[hp,TE,Tk]at h;subst h;exact W0 (by have:=ne hp;simp[jY];omega) (by simp) (by simp) rfl d g
  case neq=>
   cases hp:eG (j,a2) (l,q)with
   |false=>grind|true=>simp only[hp,TE,Tk]at h;subst h;exact W0 (by have:=ne hp;simp[jY];omega) (by simp) (by simp) rfl d g
  all_goals cases h
 unfold EJ at h;grind
theorem FN {op:BinOp}{t:Ax}(h:irem op x y=some v)(hx:VR σ x x')(hy:VR σ y y')(g j:Az):∃u,VR σ v u/\ ∀w,((eqGuard op t g j x' y').run P w= .ok () w)/\(binOp op t x' y').run P w= .ok u w:=by
 unfold irem at h;split at h
 ·rename_i f lo hi k c;cases hb:decide (aK f lo=k)&&Nat.ble 1 c with
  |false=>grind|true=>
   rw[hb,TE,Tk]at h;subst h;simp only[Tl,TI]at hb;obtain⟨rfl,hc⟩:=hb;have hc:=To hc;cases hx with
   |ival _ _ _ n h1 h2=>
   cases hy;have hx:cQ P .rem t (.int (aK f lo) n) (.int (aK f lo) (Int.ofNat c))=some (.int (aK f lo) ((n:Int).tmod (Int.ofNat c))):=by
    have d:decide (Int.ofNat c=0)=false:=by grind
    simp only[cQ,Ur,TE,E2,d,TF]
   obtain⟨_,l⟩:=mE (σ:=σ) hx (.int _ _) (.int _ _) g j;refine⟨_,?_,l⟩;have e1:(n:Int).tmod (Int.ofNat c)=((n % c:Nat):Int):=by grind
   have e2:aK f lo=aK f (lo/18446744073709551616*18446744073709551616):=by unfold aK;grind
   rw[e1,e2];exact .ival f _ c (n % c) (by unfold gZ;rw[Nat.mul_mod_left];exact UY _) (.inr (Nat.mod_lt _ hc))
 cases h
def K9 (P:Aw)(op:BinOp)(t:Ax)(x y:Av):Ag:=
 match cQ P op t x y with
 |some v=>some v|none=>match EJ op x y with
  |some v=>some v|none=>irem op x y
def EI {op:BinOp}{t:Ax}(h:K9 P op t x y=some v)(hx:VR σ x x')(hy:VR σ y y')(d f:Az):∃u,VR σ v u/\ ∀w,((eqGuard op t d f x' y').run P w= .ok () w)/\(binOp op t x' y').run P w= .ok u w:=by unfold K9 at h;split at h;rename_i v' hv;cases h;exact⟨_,mE hv hx hy d f⟩;split at h;rename_i v' hv;cases h;exact EK hv hx hy d f;exact FN h hx hy d f
def fR (big:Bool):Av->Af->Ag
 |v,[]=>match v with
  | .int k n=>some (.int k n)|_=>none
 |v,y::ys=>match v,y with
  | .int k a,.int _ b=>fR big (.int k (bif big then(bif decide (a<b)then b else a)else(bif decide (b<a)then b else a))) ys|_,_=>none
theorem wM {P:Aw}{σ:Sg}:∀ {xs:Af} {x v:Av} {d:Af} {x':Av},fR false x xs=some v->VR σ x x'->VRL σ xs d->VR σ v v/\ ∀w,(d.foldlM Builtin.min2 x':Sem Av).run P w= .ok v w
 | [],x,v,d,x',h,hx,f=>by rw[f.unnil];unfold fR at h;split at h;simp at h;subst h;cases hx;exact⟨.int _ _,fun w=>by simp⟩;cases h
 |y::ys,x,v,d,x',h,hx,f=>by
  obtain⟨y',l,rfl,hy,g⟩:=f.uncons;unfold fR at h;split at h
  ·rename_i k a k' b;cases hx;cases hy;have j:=wM (P:=P) h (.int _ _) g;refine⟨j.1,fun w=>?_⟩;have he:(Builtin.min2 (.int k a) (.int k' b)).run P w= .ok (.int k (bif false then(by omega)else(bif decide (b<a)then b else a))) w:=by simp only[Builtin.min2,TF,TV];grind
   simp_all
  cases h
theorem wL {P:Aw}{σ:Sg}:∀ {xs:Af} {x v:Av} {d:Af} {x':Av},fR true x xs=some v->VR σ x x'->VRL σ xs d->VR σ v v/\ ∀w,(d.foldlM Builtin.max2 x':Sem Av).run P w= .ok v w
 | [],x,v,d,x',h,hx,f=>by rw[f.unnil];unfold fR at h;split at h;simp at h;subst h;cases hx;exact⟨.int _ _,fun w=>by simp⟩;cases h
 |y::ys,x,v,d,x',h,hx,f=>by
  obtain⟨y',l,rfl,hy,g⟩:=f.uncons;unfold fR at h;split at h
  ·rename_i k a k' b;cases hx;cases hy;have j:=wL (P:=P) h (.int _ _) g;refine⟨j.1,fun w=>?_⟩;have he:(Builtin.max2 (.int k a) (.int k' b)).run P w= .ok (.int k (bif true then(bif decide (a<b)then b else a)else(by omega))) w:=by simp only[Builtin.max2,TE,TV];grind
   simp_all
  cases h
end Go.Xe
namespace Go.Xe
open Go.RowKit
def MOK (hp:Hp)(B:BS)(w0:Bc)(σ:Sg)(v:Av)(hp':Hp)(r:Result Av):Prop:=
 ∃σ' u w',r= .ok u w'/\Sg.gr hp.nx hp'.nx σ σ'/\VR σ' v u/\HR B w0 σ' hp' w'
def Hp.new (hp:Hp)(vs:Af)(e z:Nat):Hp:=⟨hp.m.set hp.nx (some (.cells (fill .e 0 vs) vs.length e z)),hp.nx+1⟩
section
variable {P :Aw}{B:BS}{w0:Bc}{σ:Sg}{hp:Hp}{w:Bc}
def p6 (vs:Af)(j:Nat)(hj:j<vs.length):(fill .e 0 vs).get j=vs[j]? :=by rw[j8,TJ (by omega)];simp
variable {us vs:Af}
theorem HR.new (h:HR B w0 σ hp w)(hv:VRL σ vs us)(e z:Nat):HR B w0 (σ.ext hp.nx ⟨w.heap.size,0,us.length,z⟩) (hp.new vs e z) (w.alloc (.cells us.toArray e)):=by
 have:=h.alloc (fill .e 0 vs) vs.length e z us.toArray (by rw[hv.1];simp) (fun j hj=>by
  have d:j<us.length:=by rw[<-hv.1];exact hj
  refine⟨vs[j],us[j],by rw[p6 vs j hj];simp[hj],by grind,hv.2 j _ _ (by simp) (by simp)⟩)
 simpa [Hp.new]using this
def HR.le_new (h:HR B w0 σ hp w)(p:Pl):Sg.gr hp.nx (hp.nx+1) σ (σ.ext hp.nx p):=
 ⟨VU p (h.fresh _ (TK _)),fun i hi=>VO _ _ _ (by omega),UI _⟩
theorem VR.new (σ:Sg)(i:Nat)(p:Pl)(d:p.dl=0):VR (σ.ext i p) (.pointer (some ⟨i,0,none⟩)) (.pointer (some ⟨p.blk,0,none⟩)):=by have:=VR.ptr (σ:=σ.ext i p) i 0 p (VQ _ _ _);grind
def rgT :Ax:=130
variable {e k:Nat}{c:Ao}
def HR.liveG {B:BS}{w0:Bc}{σ:Sg}{hp:Hp}{w:Bc}(h:HR B w0 σ hp w){n z:Nat}(hg:hp.m.get 0=some (.reg c n e z))(hk:k<n):∃p C,σ.f 0 (k+1)=some p/\ ¬B p.blk/\w.heap[p.blk]? =some (.cells C e (0,0))/\C.size=z/\ ∀j,j<z-> ∃v u,c.get (k*z+j)=some v/\C[j]? =some u/\VR σ v u:=by obtain⟨p,o,h1,h2,h3,C,rfl,h5,d⟩:=h.liv 0 _ (k+1) hg ⟨by omega,hk⟩;exact⟨p,C,h1,h2,h3,h5,d⟩
variable {o:Nat}{p:Pl}
theorem HR.cellsG {B:BS}{w0:Bc}{σ:Sg}{hp:Hp}{w:Bc}(h:HR B w0 σ hp w){n z m:Nat}(hg:hp.m.get 0=some (.reg c n e z))(hk:k<n)(t:o+m<=z)(hl:j9 c (k*z+o) m=some vs)(hp':σ.f 0 (k+1)=some p):∃us,VRL σ vs us/\us.length=m/\ ∀j u,us[j]? =some u->w.cell? ((⟨p.blk,o,none⟩:Addr).add j)=some u:=by
 obtain⟨q,C,hq,_,s,hs,hc⟩:=h.liveG hg hk;have:q=p:=TN (hq.symm.trans hp');subst this;obtain⟨g,d⟩:=l9 hl;refine⟨(C.toList.drop o).take m,⟨?_,?_⟩,?_,?_⟩;grind;grind;grind
 ·intro j u l;have hj:j<m:=by grind
  rw[TU,TJ hj,Ua]at l;rw[UW,cell_of_row w q.blk _ C e (0,0) s];grind
def Hp.setR (hp:Hp)(c:Ao)(n e z:Nat):Hp:= {hp with m:=hp.m.set 0 (some (.reg c n e z))}
theorem HR.storeG {B:BS}{w0:Bc}{σ:Sg}{hp:Hp}{w:Bc}(h:HR B w0 σ hp w){n z:Nat}(hg:hp.m.get 0=some (.reg c n e z))(hk:k<n)(S:σ.f 0 (k+1)=some p)(hv:VRL σ vs us)(h1:∀u∈us,u.oneCell'=true)(hs:o+vs.length<=z)(P:Aw):∃w',(storeCells ⟨p.blk,o,none⟩ us).run P w= .ok () w'/\HR B w0 σ (hp.setR (fill c (k*z+o) vs) n e z) w':=by
 obtain⟨p',C,L,g3,M,g5,g7⟩:=h.liveG hg hk;have:p'=p:=TN (L.symm.trans S);subst this;have hr:=run_storeCells_at P p'.blk o e us 0 C w M (by rw[<-hv.1];omega) h1;simp only[UA]at hr;have hl:=hv.1;have I:=setRow_heap w p'.blk C (C.toList.take o++us++C.toList.drop (o+us.length)).toArray e (0,0) M;have l:(C.toList.take o++us++C.toList.drop (o+us.length)).toArray.size=C.size:=by grind
 have J:Ix (.reg c n e z) (k+1):=⟨by omega,hk⟩
 have t:∀i b,(hp.setR (fill c (k*z+o) vs) n e z).m.get i=some b->(i=0/\b= .reg (fill c (k*z+o) vs) n e z)\/(i≠0/\hp.m.get i=some b):=by intro i b hi;have hi:(hp.m.set 0 (some (.reg (fill c (k*z+o) vs) n e z))).get i=some b:=hi;rw[VX]at hi;grind
 have g:∀i b r,(hp.setR (fill c (k*z+o) vs) n e z).m.get i=some b->Ix b r-> ∃b',hp.m.get i=some b'/\Ix b' r:=by intro i b r hi hx;rcases t i b hi with⟨rfl,rfl⟩| ⟨_,h2⟩;exact⟨_,hg,hx⟩;grind
 refine⟨_,hr,h.os,h.tape,h.output,by simpa [World.setRow]using h.size,h.old,fun Y F=>?_,h.frs,fun i b r hi hx=>?_,fun i j b b' r s p q hi hj hx hy=>?_,fun i b hi hb=>?_⟩;rw[setRow_other w _ Y _ (fun e=>g3 (by rw[<-e];exact F))];exact h.kept Y F
 ·rcases t i b hi with⟨rfl,rfl⟩| ⟨h0,h2⟩
  ·obtain⟨q,D,d,K,A,X,d7⟩:=h.liveG hg (k:=r-1) (by have:1<=r/\r<=n:=hx;omega);have U:r-1+1=r:=by have:1<=r/\r<=n:=hx;omega
   rw[U]at d;by_cases G:r=k+1
   ·subst G;have:q=p':=TN (d.symm.trans L);subst this;have:D=C:=by rw[M]at A;cases A;rfl
    subst this;refine⟨q,_,d,K,I,_,rfl,by rw[l];exact X,fun j hj=>?_⟩;show∃v u,(fill c (k*z+o) vs).get (k*z+j)=some v/\_;rw[j8];by_cases aa:o<=j/\j<o+vs.length
    ·rw[TJ (by omega)];have E:j-o<vs.length:=by omega
     have Q:j-o<us.length:=by omega
     refine⟨vs[j-o],us[j-o],by rw[show k*z+j-(k*z+o)=j-o by omega];simp[E],?_,hv.2 (j-o) _ _ (by simp[E]) (by simp[Q])⟩;grind
    grind
   ·have R:=h.ij 0 0 _ _ r (k+1) q p' hg hg hx J (.inr G) d L;refine⟨q,_,d,K,(setRow_other w _ q.blk _ R).trans A,D,rfl,X,fun j hj=>?_⟩;show∃v u,(fill c (k*z+o) vs).get ((r-1)*z+j)=some v/\_;rw[j8,TH ?_];grind
    ·intro hh;have H:r-1≠k:=by omega
     rcases Nat.lt_or_gt_of_ne H with hlt|hgt;have:=Ty z (show r-1+1<=k from hlt);grind;have:=Ty z (show k+1<=r-1 from hgt);grind
  obtain⟨q,oq,d,d2,K,A⟩:=h.liv i b r h2 hx;exact⟨q,oq,d,d2,by rw[setRow_other w _ _ _ (h.ij i 0 _ _ r (k+1) q p' h2 hg hx J (.inl h0) d L)];exact K,A⟩
 obtain⟨Z,N,V⟩:=g i b r hi hx;obtain⟨b2,O,W⟩:=g j b' s hj hy;exact h.ij i j Z b2 r s p q N O V W;rcases t i b hi with⟨rfl,rfl⟩| ⟨_,h2⟩;exact h.rz 0 (.reg c n e z) hg rfl;exact h.rz i b h2 hb
theorem HR.allocG {B:BS}{w0:Bc}{σ:Sg}{hp:Hp}{w:Bc}(h:HR B w0 σ hp w){n z:Nat}(hg:hp.m.get 0=some (.reg c n e z)){us:Al}(hv:VRL σ vs us.toList)(hz:vs.length=z):
  ∃σ',Sg.le σ σ'/\(∀i,σ' i=σ i)/\(∃p,σ'.f 0 (n+1)=some p/\p.blk=w.heap.size)/\HR B w0 σ' (hp.setR (fill c (n*z) vs) (n+1) e z) (w.alloc (.cells us e)):=by
 obtain⟨_,t⟩:=h.rz 0 _ hg rfl;let p:Pl:=⟨w.heap.size,0,us.size,z⟩
 let σ':Sg:=⟨fun i r=>if i=0/\r=n+1 then some p else σ.f i r⟩
 have O:us.size=z:=by have:=hv.1;simp at this;omega
 have L:σ.f 0 (n+1)=none:=t _ (by omega) (fun hx=>by have:1<=n+1/\n+1<=n:=hx;omega);have G:σ'.f 0 (n+1)=some p:=TJ ⟨rfl,rfl⟩;have hs1:∀i r,¬(i=0/\r=n+1)->σ'.f i r=σ.f i r:=fun i r hn=>TH hn;have g:Sg.le σ σ':=fun i q {r} hq=>by grind
 have H:∀i b r,(hp.setR (fill c (n*z) vs) (n+1) e z).m.get i=some b->Ix b r->(i=0/\r=n+1/\b= .reg (fill c (n*z) vs) (n+1) e z)\/(¬(i=0/\r=n+1)/\ ∃b',hp.m.get i=some b'/\Ix b' r/\((i=0/\b'= .reg c n e z/\b= .reg (fill c (n*z) vs) (n+1) e z)\/(i≠0/\b=b'))):=by intro i b r hi hx;have hi:(hp.m.set 0 (some (.reg (fill c (n*z) vs) (n+1) e z))).get i=some b:=hi;rw[VX]at hi;by_cases h0:i=0;rw[TJ h0,Tk]at hi;subst hi;subst h0;have hx:1<=r/\r<=n+1:=hx;by_cases hr:r=n+1;grind;exact .inr ⟨by omega,_,hg,⟨hx.1,by omega⟩,.inl ⟨rfl,rfl,rfl⟩⟩;grind
 refine⟨σ',g,fun i=>hs1 i 0 (by omega),⟨p,G,rfl⟩,h.os,h.tape,h.output,by simp;have:=h.size;omega,h.old,fun k hk=>by rw[Below.heap_alloc _ _ _ (by have:=h.old k hk;have:=h.size;omega)];exact h.kept k hk,fun i r hi=>?_,fun i b r hi hx=>?_,fun i j b b' r s q q' hi hj hx hy K hq M=>?_,fun i b hi hb=>?_⟩;rw[hs1 i r ?_];exact h.frs i r hi;rintro ⟨rfl,rfl⟩;obtain⟨⟨q,hq⟩,_⟩:=h.rz 0 _ hg rfl;have hi:hp.nx<=0:=hi;have:=h.frs 0 0 hi;grind
 ·rcases H i b r hi hx with⟨rfl,rfl,rfl⟩| ⟨hn,b',A,l,hc⟩
  ·refine⟨p,_,G,(fun W=>by have h1:=h.old _ W;have h2:=h.size;have:p.blk=w.heap.size:=rfl;omega),?_,us,rfl,O,fun j hj=>?_⟩;show(w.heap.push _)[w.heap.size]? =_;simp
   ·show∃v u,(fill c (n*z) vs).get ((n+1-1)*z+j)=some v/\_;have E:j<us.size:=by omega
    rw[j8,show n+1-1=n by omega,TJ (by omega),show n*z+j-n*z=j by omega];have F:j<vs.length:=by omega
    refine⟨vs[j],us[j],by simp[F],by simp[E],(hv.2 j _ _ (by simp[F]) (by simp[E])).mono g⟩
  ·obtain⟨q,o,I,Q,J,R⟩:=h.liv i b' r A l;have D:(w.alloc (.cells us e)).heap[q.blk]? =some o:=by rw[Below.heap_alloc _ _ _ (TB.1 J).1];exact J
   rcases hc with⟨rfl,rfl,rfl⟩| ⟨h0,rfl⟩;obtain⟨C,e1,e2,e3⟩:=R;refine⟨q,o,(hs1 0 r hn).trans I,Q,D,C,e1,e2,fun j hj=>?_⟩;obtain⟨v,u,S,a2,a3⟩:=e3 j hj;refine⟨v,u,?_,a2,a3.mono g⟩;show(fill c (n*z) vs).get ((r-1)*z+j)=some v;rw[j8,TH ?_];exact S;have l:1<=r/\r<=n:=l;have:=Ty z (show r-1+1<=n by omega);grind;exact⟨q,o,(hs1 i r hn).trans I,Q,D,R.mono g⟩
 ·have fr:∀i b r q,(hp.setR (fill c (n*z) vs) (n+1) e z).m.get i=some b->Ix b r-> ¬(i=0/\r=n+1)->σ'.f i r=some q->q.blk<w.heap.size/\ ∃b',hp.m.get i=some b'/\Ix b' r/\σ.f i r=some q:=by intro i b r q hi hx hn hq;rcases H i b r hi hx with⟨rfl,rfl,rfl⟩| ⟨_,b',A,l,_⟩;grind;rw[hs1 i r hn]at hq;obtain⟨q2,o,I,_,J,_⟩:=h.liv i b' r A l;grind
  by_cases e1:i=0/\r=n+1<;>by_cases e2:j=0/\s=n+1;omega;grind;grind;obtain⟨_,U,k1,k2,k3⟩:=fr i b r q hi hx e1 hq;obtain⟨_,V,X,Y,Z⟩:=fr j b' s q' hj hy e2 M;exact h.ij i j U V r s q q' k1 X k2 Y K k3 Z
 have d:(hp.m.set 0 (some (.reg (fill c (n*z) vs) (n+1) e z))).get i=some b:=hi;rw[VX]at d;by_cases h0:i=0;subst h0;rw[TJ rfl,Tk]at d;subst d;obtain⟨⟨q,hq⟩,hr⟩:=h.rz 0 _ hg rfl;exact⟨⟨q,g _ _ hq⟩,fun r N hx=>by have hx:¬(1<=r/\r<=n+1):=hx;rw[hs1 0 r (by omega)];exact hr r N (fun hy=>hx (by have:1<=r/\r<=n:=hy;omega))⟩;rw[TH h0]at d;obtain⟨⟨q,hq⟩,hr⟩:=h.rz i b d hb;grind
inductive Nv where
 |ptr
 |slice (l c:Nat)
 |map
structure Nw where
 blk:Blk
 v:Nv
 ok:(cC blk||gX blk)=false:=by rfl
def Nw.ro (n:Nw):cC n.blk=false:=(Vl.1 n.ok).1
def Nw.rg (n:Nw):gX n.blk=false:=(Vl.1 n.ok).2
def Nw.val (n:Nw)(id:Nat):Av:=
 match n.v with
 | .ptr=>.pointer (some ⟨id,0,none⟩)| .slice l c=>.slice (some ⟨id,0,none⟩) l c| .map=>.map (some id)
def I5 (vs:Af)(e z:Nat):Blk:= .cells (fill .e 0 vs) vs.length e z
theorem jE (h:VRL σ vs us)(e z b:Nat):BR σ ⟨b,0,us.length,z⟩ (I5 vs e z) (.cells us.toArray e):=by
 refine⟨us.toArray,rfl,rfl,by simp,by simp[h.1],fun j hj=>?_⟩;have d:j<us.length:=by rw[<-h.1];exact hj
 exact⟨vs[j],us[j],by rw[p6 vs j hj];simp[hj],by grind,h.2 j _ _ (by simp) (by simp)⟩
def mP (P:Aw)(σ:Sg)(n:Nw)(s:Sem Av):Prop:=
 (∀l c,n.v= .slice l c->l<=c/\c<unk)/\ ∃o siz z,(∀b,BR σ ⟨b,0,siz,z⟩ n.blk o)/\ ∀w,s.run P w= .ok (n.val w.heap.size) (w.alloc o)
def Hp.add (hp:Hp)(n:Nw):Av×Hp:=(n.val hp.nx,⟨hp.m.set hp.nx (some n.blk),hp.nx+1⟩)
variable {n:Nw}
theorem Nw.val_VR {σ:Sg}(h:∀l c,n.v= .slice l c->l<=c/\c<unk)(d b siz z:Nat):VR (σ.ext d ⟨b,0,siz,z⟩) (n.val d) (n.val b):=by
 unfold Nw.val;cases hv:n.v with
 |ptr=>exact VR.new σ d ⟨b,0,siz,z⟩ rfl|slice l c=>obtain⟨h1,h2⟩:=h l c hv;have:=VR.slice (σ:=σ.ext d ⟨b,0,siz,z⟩) d 0 ⟨b,0,siz,z⟩ l c c (VQ _ _ _) (.inl ⟨rfl,h2⟩) h1;grind
 |map=>exact VR.map d ⟨b,0,siz,z⟩ (VQ _ _ _)
def mP.mok {s:Sem Av}(h:mP P σ n s)(d:HR B w0 σ hp w):MOK hp B w0 σ (hp.add n).1 (hp.add n).2 (s.run P w):=by obtain⟨h1,o,siz,z,h2,h3⟩:=h;refine⟨σ.ext hp.nx ⟨w.heap.size,0,siz,z⟩,_,_,h3 w,d.le_new _,Nw.val_VR h1 _ _ _ _,?_⟩;exact d.allocO hp.nx (hp.nx+1) (d.fresh _ (TK _)) (UI _) (Uv _) n.blk o _ rfl ((h2 _).mono (d.le_new _).le) n.ro n.rg
def bR (P:Aw)(e:Ax):Bb Nw:=
 match V0 P e with
 |some z=>some ⟨I5 z.cells.toList e z.cells.toList.length,.ptr,rfl⟩|none=>none
theorem xD {e:Ax}(h:bR P e=some n):mP P σ n (Instr.alloc e true (.tuple #[])):=by unfold bR at h;split at h;rename_i z hz;cases h;obtain⟨hc,hr⟩:=R7 hz;refine⟨(fun l c h=>by grind),.cells z.cells e,z.cells.toList.length,_,(fun b=>by simpa using jE (eA σ hc).cells e z.cells.toList.length b),fun w=>?_⟩;simp[Instr.alloc,hr,newVar,newRow,Nw.val];cases h
def zU (e:Ax)(x:Av):Nw:=⟨I5 x.cells.toList e x.cells.toList.length,.ptr,rfl⟩
variable {x x':Av}
def EM {e:Ax}(hx:VR σ x x'):mP P σ (zU e x) (Instr.box e x'):=by refine⟨(fun l c h=>by cases h),.cells x'.cells e,x'.cells.toList.length,_,(fun b=>by simpa [zU]using jE hx.cells e x.cells.toList.length b),fun w=>?_⟩;simp[Instr.box,newVar,newRow,Nw.val,zU]
def Jd (t:Ag):Bb Nw:=
 match t with
 |none=>some ⟨.map [] true,.map,rfl⟩|some (.int _ _)=>some ⟨.map [] true,.map,rfl⟩|_=>none
theorem ET {t:Ax}{r f:Ag}(h:Jd r=some n)(hr:match r,f with|none,none=>True|some v,some u=>VR σ v u|_,_=>False)(hm:match P.underlying t with|some (.map _ _)=>True|_=>False):mP P σ n (Instr.makeMap t f):=by
 cases g:P.underlying t with
 |none=>grind|some d=>
 cases d<;>simp[g]at hm;unfold Jd at h;split at h
 ·simp at h;subst h;cases f with
  |some u=>grind|none=>refine⟨(fun l c h=>by grind),.map #[] 0,0,0,(fun b=>⟨#[],0,rfl,rfl,(fun j x e hx=>by grind),fun _=>(by grind)⟩),fun w=>?_⟩;simp[Instr.makeMap,Nw.val]
 ·simp at h;subst h;cases f with
  |none=>grind|some u=>cases hr;refine⟨(fun l c h=>by grind),.map #[] 0,0,0,(fun b=>⟨#[],0,rfl,rfl,(fun j x e hx=>by grind),fun _=>(by grind)⟩),fun w=>?_⟩;simp[Instr.makeMap,Nw.val,TL g,asInt,asIntOf]
 cases h
def oP (P:Aw)(t:Ax)(x:Av):Bb Nw:=
 match P.underlying t,x with
 |some .string,.string s=>some ⟨.sit s 0,.ptr,rfl⟩|_,_=>none
theorem xG {t:Ax}(h:oP P t x=some n)(hx:VR σ x x'):mP P σ n (Instr.range t x'):=by unfold oP at h;split at h;rename_i s d;cases h;cases hx;refine⟨(fun l c h=>by grind),.stringIter s 0,0,0,(fun b=>⟨rfl,rfl⟩),fun w=>?_⟩;simp[Instr.range,TL d,Nw.val];cases h
def qJ (P:Aw)(hp:Hp)(t:Ax)(k o:Nat):Ag:=
 match hp.m.get 0 with
 |some (.reg c n _ z)=>match P.underlying t with
  | some d => bif dY d then
    match P.info? t with
    | some ti => bif Nat.ble (k + 1) n && Nat.ble (o + ti.size) z then
      match j9 c (k*z+o) ti.size with
      |some vs=>some (.agg vs.toArray)|none=>none
     else none
    |none=>none
   else bif Nat.ble (k+1) n&&Nat.ble (o+1) z then c.get (k*z+o)else none
  |none=>none
 |_=>none
variable {v:Av}
theorem Cs {t:Ax}(h:qJ P hp t k o=some v)(hp':σ.f 0 (k+1)=some p)(m:HR B w0 σ hp w):∃u,VR σ v u/\(Instr.loadAt t (.pointer (some ⟨p.blk,o,none⟩))).run P w= .ok u w:=by
 unfold qJ at h;split at h
 ·rename_i c n e z hg;split at h
  ·rename_i d l;cases g:dY d with
   |true=>
    rw[g,TE]at h;split at h
    ·rename_i q j;cases hb:Nat.ble (k+1) n&&Nat.ble (o+q.size) z with
     |false=>grind|true=>rw[hb,TE]at h;simp only[Tl,Up]at hb;split at h;rename_i vs hl;simp only[Tk]at h;subst h;obtain⟨us,h1,h2,h3⟩:=m.cellsG hg hb.1 hb.2 hl hp';refine⟨.agg us.toArray,h1.to_agg,?_⟩;have:=run_loadCells_list (P:=P) w ⟨p.blk,o,none⟩ us h3;rw[h2]at this;simp[Instr.loadAt,Instr.sureAddr,loadVar,aD l,g,sizeOf,typeInfo,j,this];cases h
    cases h
   |false=>
    rw[g,TF]at h;cases hb:Nat.ble (k+1) n&&Nat.ble (o+1) z with
    |false=>grind|true=>
     rw[hb,TE]at h;simp only[Tl,Up]at hb;have hl:j9 c (k*z+o) 1=some [v]:=by simp[j9,h]
     obtain⟨us,h1,h2,h3⟩:=m.cellsG hg hb.1 hb.2 hl hp';obtain⟨u,s,rfl,hv,_⟩:=h1.uncons;refine⟨u,hv,?_⟩;have:=h3 0 u rfl;rw[Addr.add_zero']at this;simp[Instr.loadAt,Instr.sureAddr,loadVar,aD l,g,this]
  cases h
 cases h
def F8 (P:Aw)(hp:Hp)(t:Ax)(a:Av):Ag:=
 match a with
 | .pointer (some ⟨k,o,some 1⟩)=>qJ P hp t k o| .pointer (some ⟨i,o,none⟩)=>match hp.m.get i with
  |some b=>match rdC b with
   |some (c,n,_)=>match P.underlying t with
    | some d => bif dY d then
      match P.info? t with
      | some ti => bif Nat.ble (o + ti.size) n then
        match j9 c o ti.size with
        |some vs=>some (.agg vs.toArray)|none=>none
       else none
      |none=>none
     else bif Nat.ble (o+1) n then c.get o else none
    |none=>none
   |none=>none
  |none=>none
 |_=>none
variable {a a':Av}
theorem rL {t:Ax}(h:F8 P hp t a=some v)(l:VR σ a a')(j:HR B w0 σ hp w):∃u,VR σ v u/\(Instr.loadAt t a').run P w= .ok u w:=by
 unfold F8 at h;split at h
 ·rename_i k o;cases l with
  |rptr _ _ p hp'=>exact Cs h hp' j
 ·rename_i i o;cases l with
  |ptr _ _ p hp'=>
  split at h
  ·rename_i b hg;split at h
   ·rename_i c n z hr;split at h
    ·rename_i d m;cases f:dY d with
     |true=>
      rw[f,TE]at h;split at h
      ·rename_i q g;cases hb:Nat.ble (o+q.size) n with
       |false=>grind|true=>rw[hb,TE]at h;split at h;rename_i vs hl;simp only[Tk]at h;subst h;obtain⟨us,h1,h2,h3⟩:=j.cellsR hg hr (To hb) hl hp';refine⟨.agg us.toArray,h1.to_agg,?_⟩;have:=run_loadCells_list (P:=P) w ⟨p.blk,p.dl+o,none⟩ us h3;rw[h2]at this;simp[Instr.loadAt,Instr.sureAddr,loadVar,aD m,f,sizeOf,typeInfo,g,this];cases h
      cases h
     |false=>
      rw[f,TF]at h;cases hb:Nat.ble (o+1) n with
      |false=>grind|true=>
       rw[hb,TE]at h;have hl:j9 c o 1=some [v]:=by simp[j9,h]
       obtain⟨us,h1,h2,h3⟩:=j.cellsR hg hr (To hb) hl hp';obtain⟨u,s,rfl,hv,_⟩:=h1.uncons;refine⟨u,hv,?_⟩;have:=h3 0 u rfl;rw[Addr.add_zero']at this;simp[Instr.loadAt,Instr.sureAddr,loadVar,aD m,f,this]
    cases h
   cases h
  cases h
 cases h
def qL (hp:Hp)(i:Nat)(c:Ao)(n e z o:Nat)(vs:Af):Hp:=
 (fill c o vs).force fun c'=> {hp with m:=hp.m.set i (some (.cells c' n e z))}
def H3 (hp:Hp)(i:Nat)(c:Ao)(n e z o:Nat)(vs:Af):qL hp i c n e z o vs= {hp with m:=hp.m.set i (some (.cells (fill c o vs) n e z))}:=by unfold qL;rw[VV]
def Cz (P:Aw)(hp:Hp)(t:Ax)(k o:Nat)(x:Av):Bb Hp:=
 match hp.m.get 0 with
 |some (.reg c n e z)=>match P.info? t with
  |some ti=>bif Nat.beq x.cells.toList.length ti.size&&Nat.ble (k+1) n&&Nat.ble (o+ti.size) z&&x.cells.toList.all Value.oneCell' then some (hp.setR (fill c (k*z+o) x.cells.toList) n e z)else none|none=>none
 |_=>none
def wN (hp:Hp)(vs:Af):Bb (Av×Hp):=
 match hp.m.get 0 with
 |some (.reg c n e z)=>bif Nat.beq e rgT&&Nat.beq vs.length z then some (.pointer (some ⟨n,0,some 1⟩),hp.setR (fill c (n*z) vs) (n+1) e z)else none|_=>none
theorem rM {us:Al}{hp':Hp}(h:wN hp vs=some (v,hp'))(hv:VRL σ vs us.toList)(d:HR B w0 σ hp w):∃σ',Sg.gr hp.nx hp'.nx σ σ'/\VR σ' v (.pointer (some ⟨w.heap.size,0,none⟩))/\HR B w0 σ' hp' (w.alloc (.cells us rgT)):=by
 unfold wN at h;split at h
 ·rename_i c n e z hg;cases hb:Nat.beq e rgT&&Nat.beq vs.length z with
  |false=>grind|true=>rw[hb,TE]at h;simp only[Tl,Ub]at hb;obtain⟨rfl,hz⟩:=hb;cases h;obtain⟨σ',h1,h2,⟨p,h3,h4⟩,h5⟩:=d.allocG hg hv hz;refine⟨σ',⟨h1,fun i _=>h2 i,TK _⟩,?_,h5⟩;rw[<-h4];exact .rptr n 0 p h3
 cases h
def E0 (P:Aw)(hp:Hp)(t:Ax)(a x:Av):Bb Hp:=
 match a with
 | .pointer (some ⟨k,o,some 1⟩)=>Cz P hp t k o x| .pointer (some ⟨i,o,none⟩)=>match hp.m.get i with
  |some (.cells c n e z)=>match P.info? t with
   |some ti=>bif Nat.beq x.cells.toList.length ti.size&&Nat.ble (o+ti.size) n&&x.cells.toList.all Value.oneCell' then some (qL hp i c n e z o x.cells.toList)else none|none=>none
  |_=>none
 |_=>none
theorem VRL.all_oneCell (h:VRL σ vs us)(hv:vs.all Value.oneCell'=true):∀u∈us,u.oneCell'=true:=by
 intro u f;obtain⟨j,hj,rfl⟩:=List.mem_iff_getElem.1 f;have d:j<vs.length:=by rw[h.1];exact hj
 exact(h.2 j vs[j] us[j] (by simp) (by simp)).oneCell (by grind)
theorem HR.place (f:HR B w0 σ hp w){i n z:Nat}(hg:hp.m.get i=some (.cells c n e z))(d:σ i=some p):p.dl+n<=p.siz/\p.esz=z:=by obtain⟨p',C,g,h,_,_,_,j,_⟩:=f.liveC hg;grind
theorem CA {t:Ax}{hp':Hp}(h:E0 P hp t a x=some hp')(m:VR σ a a')(hx:VR σ x x')(l:HR B w0 σ hp w):∃w',(Instr.storeAt t a' x').run P w= .ok () w'/\HR B w0 σ hp' w'/\hp'.nx=hp.nx:=by
 unfold E0 at h;split at h
 ·rename_i k o;cases m with
  |rptr _ _ p f=>
  unfold Cz at h;split at h
  ·rename_i c n e z hg;split at h
   ·rename_i j g;cases hb:Nat.beq x.cells.toList.length j.size&&Nat.ble (k+1) n&&Nat.ble (o+j.size) z&&x.cells.toList.all Value.oneCell' with
    |false=>grind|true=>
     rw[hb,TE]at h;simp only[Tk]at h;subst h;simp only[Tl]at hb;have e1:=Tp hb.1.1.1;have e2:=To hb.1.2;have e3:=To hb.1.1.2;have d:=hx.cells;obtain⟨w',hr,hh⟩:=l.storeG (o:=o) hg e3 f d (d.all_oneCell hb.2) (by omega) P;refine⟨w',?_,hh,rfl⟩;have hs:x'.cells.size=j.size:=by rw[<-e1,d.1];simp
     simp[Instr.storeAt,Instr.sureAddr,storeVar,sizeOf,typeInfo,g,hs,hr]
   cases h
  cases h
 ·rename_i i o;cases m with
  |ptr _ _ p f=>
  split at h
  ·rename_i c n e z hg;split at h
   ·rename_i j g;cases hb:Nat.beq x.cells.toList.length j.size&&Nat.ble (o+j.size) n&&x.cells.toList.all Value.oneCell' with
    |false=>grind|true=>
     rw[hb,TE,H3]at h;simp only[Tk]at h;subst h;simp only[Tl]at hb;have e1:=Tp hb.1.1;have e2:=To hb.1.2;have d:=hx.cells;obtain⟨k1,_⟩:=l.place hg f;obtain⟨w',hr,hh,_⟩:=l.store (o:=o) hg f d (d.all_oneCell hb.2) (by omega) (by omega) P;refine⟨w',?_,?_,rfl⟩
     ·have hs:x'.cells.size=j.size:=by rw[<-e1,d.1];simp
      simp[Instr.storeAt,Instr.sureAddr,storeVar,sizeOf,typeInfo,g,hs,hr]
     grind
   cases h
  cases h
 cases h
def xrep :Nat->Af->Af
 |0,_=>[]
 |n+1,zs=>zs++xrep n zs
def xrep_length (d:Af):∀n,(xrep n d).length=n*d.length
 |0=>by simp[xrep]|n+1=>by simp[xrep,xrep_length d n,UB,Nat.add_comm]
def dW (d:Af):∀(n j:Nat),j<n*d.length->(xrep n d)[j]? =d[j % d.length]?
 |0,j,h=>by simp at h|n+1,j,h=>by simp only[xrep];by_cases hj:j<d.length;rw[Tu hj,Ve hj];rw[Tt (by omega),dW d n (j-d.length) (by rw[UB]at h;omega)];rw[Nat.mod_eq_sub_mod (by omega:d.length<=j)]
theorem jC (z:Al)(n:Nat):((Array.range (n*z.size)).map (fun i=>z[i % z.size]!)).toList=xrep n z.toList:=by
 apply List.ext_getElem?;intro j;by_cases hj:j<n*z.size
 ·rw[dW z.toList n j (by omega)];have hz:0<z.size:=by grind
  have hm:j % z.size<z.size:=Nat.mod_lt _ hz;grind
 rw[Vi (by grind),Vi (by rw[xrep_length];simp;omega)]
def VRL.xrep {d:Af}(h:VRL σ d d):∀n,VRL σ (xrep n d) (xrep n d)
 |0=>Wi σ|n+1=>h.append (VRL.xrep h n)
def Hi (P:Aw)(t:Ax)(len:Nat)(parts:List (Nat×Av)):Bb Nw:=
 match P.underlying t with
 |some (.slice e)=>match P.info? e with
  |some ie=>match V0 P e with
   | some z => bif Nat.beq z.cells.toList.length ie.size && Nat.ble (len * ie.size) 16777216 && Nat.ble len 16777216 then
     match kR (fun i=>some (i*ie.size,ie.size)) (xrep len z.cells.toList) parts with
     |some cs=>some ⟨I5 cs e ie.size,.slice len len,rfl⟩|none=>none
    else none
   |none=>none
  |none=>none
 |_=>none
theorem Hj {t:Ax}{len:Nat}{xs:List (Nat×Av)}{ys:Array (Nat×Av)}(h:Hi P t len xs=some n)(hy:PVR σ xs ys.toList):mP P σ n (Instr.buildSlice t len ys):=by
 unfold Hi at h;split at h
 ·rename_i e s;split at h
  ·rename_i ie f;split at h
   ·rename_i z hz;cases hb:Nat.beq z.cells.toList.length ie.size&&Nat.ble (len*ie.size) 16777216&&Nat.ble len 16777216 with
    |false=>grind|true=>
     rw[hb,TE]at h;simp only[Tl]at hb;have e1:=Tp hb.1.1;have e2:=To hb.1.2;have e3:=To hb.2;split at h
     ·rename_i cs hf;cases h;obtain⟨hc,m⟩:=R7 hz;have q:=(eA σ hc).cells;have d:∀g:Al,g=(if len*ie.size=0 then #[]else z.cells)->((Array.range (len*ie.size)).map (fun i=>g[i % g.size]!)).toList=xrep len z.cells.toList:=by intro g j;by_cases h0:len*ie.size=0;have hl:=Tq (by rw[xrep_length,e1];exact h0);grind;rw[TH h0]at j;have:=jC z.cells len;grind
      obtain⟨ds,h1,h2⟩:=iN _ xs ys.toList (xrep len z.cells.toList) cs ((Array.range (len*ie.size)).map (fun i=>(if len*ie.size=0 then #[]else z.cells)[i % (if len*ie.size=0 then #[]else z.cells).size]!)) hf hy
       (by rw[d _ rfl];exact q.xrep len)
      refine⟨(fun l c h=>by cases h;exact⟨TK _,by unfold unk;omega⟩),.cells ds e,ds.toList.length,_,(fun b=>by simpa using jE h2 e ie.size b),fun w=>?_⟩;have hgt:¬len*ie.size>2^24:=by omega
      by_cases h0:len*ie.size=0;rw[TJ h0]at h1;simp only[Instr.buildSlice,TQ,TL s,TM,sizeOf,typeInfo,Vd,f,TV,TH hgt,TJ h0,h1,newRow,run_newObj];rfl;rw[TH h0]at h1;simp only[Instr.buildSlice,TQ,TL s,TM,sizeOf,typeInfo,Vd,f,TV,TH hgt,TH h0,m,h1,newRow,run_newObj];rfl
     cases h
   cases h
  cases h
 cases h
def KU (P:Aw)(t:Ax)(l c:Av):Bb Nw:=
 match l,c with
 | .int _ ln,.int _ cn=>match P.underlying t with
  |some (.slice e)=>match P.info? e with
   |some ie=>match V0 P e with
    | some z => bif decide (0 ≤ ln) && decide (ln ≤ cn) && decide (cn ≤ 1048576) && Nat.ble ie.bytes 1048576 && Nat.beq z.cells.toList.length ie.size then
      some ⟨I5 (xrep cn.toNat z.cells.toList) e ie.size,.slice ln.toNat cn.toNat,rfl⟩
     else none
    |none=>none
   |none=>none
  |_=>none
 |_,_=>none
theorem Hl {t:Ax}{l c l' c':Av}(h:KU P t l c=some n)(hl:VR σ l l')(hc:VR σ c c'):mP P σ n (Instr.makeSlice t l' c'):=by
 unfold KU at h;split at h
 ·rename_i k1 ln k2 d;cases hl;cases hc;split at h
  ·rename_i e F;split at h
   ·rename_i ie j;split at h
    ·rename_i z hz;cases hb:decide (0<=ln)&&decide (ln<=d)&&decide (d<=1048576)&&Nat.ble ie.bytes 1048576&&Nat.beq z.cells.toList.length ie.size with
     |false=>grind|true=>
      rw[hb,TE]at h;simp only[Tl,TI]at hb;obtain⟨⟨⟨⟨J,K⟩,I⟩,D⟩,b5⟩:=hb;have D:=To D;have e1:=Tp b5;cases h;obtain⟨q,A⟩:=R7 hz;have C:=(eA σ q).cells;have H:IntKind.i64.wrap ln=ln:=IntWalk.i64_in _ (by omega);have G:IntKind.i64.wrap d=d:=IntWalk.i64_in _ (by omega);have f:∀m:Al,m=(if d.toNat*ie.size=0 then #[]else z.cells)->(Array.range (d.toNat*ie.size)).map (fun i=>m[i % m.size]!)=(xrep d.toNat z.cells.toList).toArray:=by intro m s;by_cases h0:d.toNat*ie.size=0;have hl:=Tq (by rw[xrep_length,e1];exact h0);grind;rw[TH h0]at s;have:=jC z.cells d.toNat;grind
      refine⟨(fun l c h=>by cases h;exact⟨by omega,by unfold unk;omega⟩),.cells (xrep d.toNat z.cells.toList).toArray e,_,_,(fun b=>jE (C.xrep d.toNat) e ie.size b),fun w=>?_⟩;have E:¬((ie.bytes:Int)*d>2^48):=by have h1:(ie.bytes:Int)*d<=1048576*1048576:=Int.mul_le_mul (by omega) I (by omega) (by omega);omega
      have g:¬((decide (d<0)||decide ((ie.bytes:Int)*d>2^48))||decide (ln<0)||decide (ln>d))=true:=by grind
      by_cases h0:d.toNat*ie.size=0;have:=f #[] (by grind);simp only[Instr.makeSlice,TQ,TL F,TM,asInt,asIntOf,TV,typeInfo,Vd,j,H,G,TH g,run_askRoom,sizeOf,TJ h0,this,newRow,run_newObj];rfl;have:=f z.cells (by rw[TH h0]);simp only[Instr.makeSlice,TQ,TL F,TM,asInt,asIntOf,TV,typeInfo,Vd,j,H,G,TH g,run_askRoom,sizeOf,TH h0,A,this,newRow,run_newObj];rfl
    cases h
   cases h
  cases h
 cases h
