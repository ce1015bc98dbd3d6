/- The executor, part 11: regions in the order of the text, code, and calls; how a region that draws its order is run is a parameter.
  Conditions: none. -/
import Derived.Test.YtgmiikiinbaapaaGreatXe10
import Derived.LoopN
import Derived.Scope
noncomputable section
namespace Go.Xe
open Go.RowKit

def xyields (ops : List Oper) (tm : T Value) (j : Nat) : Option Bool :=
  match ops[j]? with
  | some o => match o.dst with
    | some d => match tm.get d with
      | some (.bool b) => some b
      | _ => none
    | none => none
  | none => none

def xwanted (ops : List Oper) (tm : T Value) (o : Oper) : Bool :=
  match o.guard with
  | none => true
  | some (j, want) => match xyields ops tm j with
    | some b => b == want
    | none => false

theorem xwanted_eq {σ : Sg} {nt : Nat} {tm : T Value} {tmps : Array Value} (h : TR σ nt tm tmps) (ops : Array Oper) (o : Oper) :
    Region.wanted o (yielded ops tmps) = xwanted ops.toList tm o := by
  unfold Region.wanted xwanted
  cases o.guard with
  | none => rfl
  | some gw =>
    obtain ⟨j, want⟩ := gw
    simp only
    have hy : yielded ops tmps j = xyields ops.toList tm j := by
      unfold yielded xyields
      rw [Array.getElem?_toList]
      cases hj : ops[j]? with
      | none => rfl
      | some p =>
        simp only [Option.bind_some]
        cases hd : p.dst with
        | none => rfl
        | some d =>
          simp only [Option.bind_some]
          have := h.at_ d
          by_cases hlt : d < tmps.size
          · have e : tmps[d]? = some tmps[d] := by simp [hlt]
            have e2 : tmps.getD d undef = tmps[d] := by simp [Array.getD, hlt]
            rw [e2] at this
            rw [e]
            cases hg : tm.get d with
            | none =>
              rw [hg, Option.getD_none] at this
              generalize tmps[d] = x at this
              cases this
              rfl
            | some v =>
              rw [hg, Option.getD_some] at this
              generalize tmps[d] = x at this
              cases this <;> rfl
          · have e : tmps[d]? = none := Array.getElem?_eq_none (Nat.le_of_not_lt hlt)
            have e2 : tmps.getD d undef = undef := by simp [Array.getD, hlt]
            rw [e2] at this
            rw [e]
            cases hg : tm.get d with
            | none => rfl
            | some v =>
              rw [hg, Option.getD_some] at this
              unfold undef at this
              cases this
              rfl
    rw [hy]
    cases xyields ops.toList tm j with
    | none => rfl
    | some b => cases b <;> cases want <;> rfl

def xputT (tm : T Value) (dst : Option Tmp) (v : Value) : T Value :=
  match dst with
  | some d => tm.set d (some v)
  | none => tm

def dstOK (nt : Nat) (dst : Option Tmp) : Bool :=
  match dst with
  | some d => Nat.blt d nt
  | none => true

theorem TR.putO {σ : Sg} {nt : Nat} {tm : T Value} {a : Act} (h : TR σ nt tm a.tmps) {dst : Option Tmp} (hd : dstOK nt dst = true) {v u : Value} (hv : VR σ v u) :
    TR σ nt (xputT tm dst v) (a.put dst u).tmps := by
  cases dst with
  | none => exact h
  | some d => exact h.put (Nat.le_of_ble_eq_true hd) hv

/-- What follows one operation's answer. -/
def xcont (ih : T Value → Hp → Option (T Value × Hp)) (tm : T Value) (dst : Option Tmp) (r : Option (Value × Hp)) : Option (T Value × Hp) :=
  Option.rec (motive := fun _ => Option (T Value × Hp)) none (fun p => Prod.rec (motive := fun _ => Option (T Value × Hp)) (fun v hp => (xputT tm dst v).force fun tm' => ih tm' hp) p) r

def xone (P : Program) (call : Caller) (nt : Nat) (all : List Oper) (o : Oper) (ih : T Value → Hp → Option (T Value × Hp)) (tm : T Value) (hp : Hp) : Option (T Value × Hp) :=
  bif dstOK nt o.dst then
    bif xwanted all tm o then xcont ih tm o.dst (xop P call tm hp o.op)
    else (xputT tm o.dst undef).force fun tm' => ih tm' hp
  else none

/-- Operations in the order of the text; by the recursor, for the kernel's sake. -/
def xops (P : Program) (call : Caller) (nt : Nat) (all : List Oper) (l : List Oper) : T Value → Hp → Option (T Value × Hp) :=
  List.rec (motive := fun _ => T Value → Hp → Option (T Value × Hp)) (fun tm hp => some (tm, hp)) (fun o _ ih tm hp => xone P call nt all o ih tm hp) l

theorem xops_nil {P : Program} {call : Caller} {nt : Nat} {all : List Oper} {tm : T Value} {hp : Hp} : xops P call nt all [] tm hp = some (tm, hp) := rfl

theorem xops_cons {P : Program} {call : Caller} {nt : Nat} {all rest : List Oper} {o : Oper} {tm : T Value} {hp : Hp} :
    xops P call nt all (o :: rest) tm hp = bif dstOK nt o.dst then
      bif xwanted all tm o then
        match xop P call tm hp o.op with
        | some (v, hp') => xops P call nt all rest (xputT tm o.dst v) hp'
        | none => none
      else xops P call nt all rest (xputT tm o.dst undef) hp
    else none := by
  show xone P call nt all o (xops P call nt all rest) tm hp = _
  unfold xone
  cases xop P call tm hp o.op with
  | none => simp only [T.force_eq, xcont]
  | some r => obtain ⟨v, hp'⟩ := r; simp only [T.force_eq, xcont]
/- HOOK -/

def Post (n : Nat) (B : Nat → Prop) (w0 : World) (σ : Sg) (nt : Nat) (e : Exit) (tm : T Value) (hp : Hp) : Exit → Act → World → Prop :=
  fun e' a' w' => e' = e ∧ a'.defers = [] ∧ ∃ σ', Sg.gr n hp.nx σ σ' ∧ TR σ' nt tm a'.tmps ∧ HR B w0 σ' hp w'

theorem Post.le {B : Nat → Prop} {w0 : World} {σ σ' : Sg} {n n1 : Nat} (h : Sg.gr n n1 σ σ') {nt : Nat} {e : Exit} {tm : T Value} {hp : Hp} {e' : Exit} {a' : Act} {w' : World} (hp' : Post n1 B w0 σ' nt e tm hp e' a' w') :
    Post n B w0 σ nt e tm hp e' a' w' := by
  obtain ⟨h1, h2, σ2, h3, h4, h5⟩ := hp'
  exact ⟨h1, h2, σ2, Sg.gr_trans h h3, h4, h5⟩

theorem wpOps_mono' {P : Program} {ops : Array Oper} {Q Q' : Exit → Act → World → Prop} (hq : ∀ e a w, Q e a w → Q' e a w) : ∀ (l : List Nat) {a : Act} {w : World}, wpOps P ops Q l a w → wpOps P ops Q' l a w := by
  have hlet : LetsOut Q → LetsOut Q' := fun ⟨a, w, h⟩ => ⟨a, w, hq _ _ _ h⟩
  intro l
  induction l with
  | nil => intro a w h; exact hq _ _ _ h
  | cons i rest ih =>
    intro a w h
    simp only [wpOps] at h ⊢
    cases ho : ops[i]? with
    | none => simp only [ho] at h; exact ih h
    | some o =>
      simp only [ho] at h
      simp only
      split
      · rename_i hw
        simp only [hw, if_true] at h
        rcases h with h | ⟨h1, h2⟩
        · left
          unfold Oper.wp at h ⊢
          generalize (execOp a.eval o).run P w = r at h ⊢
          cases r with
          | ok n w' =>
            cases n <;> simp only [Oper.upon] at h ⊢ <;> first
              | exact ih h
              | (refine Calls.mono h fun e w'' he => ?_; cases e <;> first | exact ih he | exact hq _ _ _ he | exact hlet he)
              | (exact Rows.mono h fun v w'' he => ih he)
          | halt x w' => cases x <;> simp only [Oper.upon] at h ⊢ <;> exact hq _ _ _ h
        · exact .inr ⟨h1, hlet h2⟩
      · rename_i hw
        simp only [hw] at h
        exact ih h

theorem rounds_mono {P : Program} {c : Code} {Q Q' : Exit → Act → World → Prop} (hq : ∀ e a w, Q e a w → Q' e a w) : ∀ {n : Nat} {a : Act} {w : World}, Code.rounds P c Q n a w → Code.rounds P c Q' n a w
  | 0, _, _, h => h.elim
  | n + 1, _, _, h => wp_mono h fun e a w he => by
    cases e with
    | normal => exact rounds_mono hq he
    | _ => exact hq _ _ _ he

section
variable {P : Program} {B : Nat → Prop} {w0 : World} {call : Caller}

theorem TR.ER {σ : Sg} {nt : Nat} {tm : T Value} {a : Act} (h : TR σ nt tm a.tmps) (xs : Array Operand) : ∀ x ∈ xs, ∀ v, xeval tm x = some v → VR σ v (a.eval x) :=
  fun _ _ _ hv => xeval_VR h hv

theorem put_defers (a : Act) (dst : Option Tmp) (v : Value) : (a.put dst v).defers = a.defers := by cases dst <;> rfl

theorem xops_sound (hcall : CallOK P call) {nt : Nat} (ops : Array Oper) : ∀ (l : List Oper) (k : Nat) (tm : T Value) (hp : Hp) (tm' : T Value) (hp' : Hp) (σ : Sg) (a : Act) (w : World),
    (∀ j, l[j]? = ops[k + j]?) → xops P call nt ops.toList l tm hp = some (tm', hp') → TR σ nt tm a.tmps → HR B w0 σ hp w → a.defers = [] →
    wpOps P ops (Post hp.nx B w0 σ nt .normal tm' hp') (List.range' k l.length) a w := by
  intro l
  induction l with
  | nil =>
    intro k tm hp tm' hp' σ a w _ h ht hw hd
    simp only [xops_nil, Option.some.injEq, Prod.mk.injEq] at h
    obtain ⟨rfl, rfl⟩ := h
    exact ⟨rfl, hd, σ, Sg.gr_refl _ σ, ht, hw⟩
  | cons o l ih =>
    intro k tm hp tm' hp' σ a w hl h ht hw hd
    have ho : ops[k]? = some o := by simpa using (hl 0).symm
    have hl' : ∀ j, l[j]? = ops[k + 1 + j]? := fun j => by have := hl (j + 1); simpa [Nat.add_assoc, Nat.add_comm 1 j] using this
    rw [xops_cons] at h
    simp only [List.length_cons, List.range'_succ, wpOps, ho]
    cases hdst : dstOK nt o.dst with
    | false => rw [hdst] at h; cases h
    | true =>
      rw [hdst, cond_true] at h
      rw [xwanted_eq ht ops o]
      cases hwt : xwanted ops.toList tm o with
      | true =>
        rw [hwt, cond_true] at h
        rw [if_pos rfl]
        split at h
        · rename_i v hp1 hx
          refine .inl (xop_sound hcall hx (ht.ER _) hw _ _ fun σ' u w' hle hv hw' => ?_)
          have ih' := ih (k + 1) _ hp1 tm' hp' σ' (a.put o.dst u) w' hl' h ((ht.mono hle.le).putO hdst hv) hw' (by rw [put_defers]; exact hd)
          exact wpOps_mono' (fun e a' w' hq => Post.le hle hq) _ ih'
        · cases h
      | false =>
        rw [hwt, cond_false] at h
        rw [if_neg (by simp)]
        exact ih (k + 1) _ hp tm' hp' σ _ w hl' h (ht.putO hdst (VR.undef σ)) hw (by rw [put_defers]; exact hd)
end

/-! ## Code -/

inductive XR where
  | mk (e : Exit) (tm : T Value) (hp : Hp)

abbrev Drawer := Caller → Nat → List Oper → T Value → Hp → Option (T Value × Hp)

def DrawOK (P : Program) (dr : Drawer) : Prop :=
  ∀ call, CallOK P call → ∀ nt (ops : Array Oper) id tm hp tm' hp', dr call nt ops.toList tm hp = some (tm', hp') → ∀ B w0 σ a w, TR σ nt tm a.tmps → HR B w0 σ hp w → a.defers = [] →
    (Code.region id ops true).wp P (Post hp.nx B w0 σ nt .normal tm' hp') a w

def xcode (P : Program) (dr : Drawer) (call : Caller) (nt : Nat) : Nat → Code → T Value → Hp → Option XR
  | 0, _, _, _ => none
  | m + 1, c, tm, hp => match c with
    | .skip => some (.mk .normal tm hp)
    | .label _ => some (.mk .normal tm hp)
    | .region _ ops draw => match (bif draw then dr call nt ops.toList tm hp else xops P call nt ops.toList ops.toList tm hp) with
      | some (tm', hp') => some (.mk .normal tm' hp')
      | none => none
    | .seq x y => match xcode P dr call nt m x tm hp with
      | some (.mk .normal tm' hp') => xcode P dr call nt m y tm' hp'
      | r => r
    | .cond c x y => match xeval tm c with
      | some (.bool true) => xcode P dr call nt m x tm hp
      | some (.bool false) => xcode P dr call nt m y tm hp
      | _ => none
    | .block id b => match xcode P dr call nt m b tm hp with
      | some (.mk (.exit j) tm' hp') => bif Nat.beq j id then some (.mk .normal tm' hp') else some (.mk (.exit j) tm' hp')
      | r => r
    | .loop b => match xcode P dr call nt m b tm hp with
      | some (.mk .normal tm' hp') => xcode P dr call nt m (.loop b) tm' hp'
      | r => r
    | .exit id => some (.mk (.exit id) tm hp)
    | .ret => some (.mk .ret tm hp)
    | .scope b => match xcode P dr call nt m b tm hp with
      | some (.mk .normal tm' hp') => some (.mk .normal tm' hp')
      | some (.mk (.exit j) tm' hp') => some (.mk (.exit j) tm' hp')
      | some (.mk .ret tm' hp') => some (.mk .ret tm' hp')
      | _ => none
    | _ => none

section
variable {P : Program} {B : Nat → Prop} {w0 : World} {call : Caller} {dr : Drawer}

theorem xcode_sound (hcall : CallOK P call) (hdr : DrawOK P dr) {nt : Nat} : ∀ (m : Nat),
    (∀ (c : Code) (tm : T Value) (hp : Hp) (e : Exit) (tm' : T Value) (hp' : Hp) (σ : Sg) (a : Act) (w : World), xcode P dr call nt m c tm hp = some (.mk e tm' hp') → TR σ nt tm a.tmps → HR B w0 σ hp w → a.defers = [] →
      c.wp P (Post hp.nx B w0 σ nt e tm' hp') a w) ∧
    (∀ (c : Code) (tm : T Value) (hp : Hp) (e : Exit) (tm' : T Value) (hp' : Hp) (σ : Sg) (a : Act) (w : World), xcode P dr call nt m (.loop c) tm hp = some (.mk e tm' hp') → TR σ nt tm a.tmps → HR B w0 σ hp w → a.defers = [] →
      Code.rounds P c (Post hp.nx B w0 σ nt e tm' hp') m a w) := by
  intro m
  induction m with
  | zero => exact ⟨fun c tm hp e tm' hp' σ a w h => (by simp [xcode] at h), fun c tm hp e tm' hp' σ a w h => (by simp [xcode] at h)⟩
  | succ m ih =>
    obtain ⟨ih1, ih2⟩ := ih
    have hloop : ∀ (c : Code) (tm : T Value) (hp : Hp) (e : Exit) (tm' : T Value) (hp' : Hp) (σ : Sg) (a : Act) (w : World), xcode P dr call nt (m + 1) (.loop c) tm hp = some (.mk e tm' hp') → TR σ nt tm a.tmps → HR B w0 σ hp w → a.defers = [] →
        Code.rounds P c (Post hp.nx B w0 σ nt e tm' hp') (m + 1) a w := by
      intro c tm hp e tm' hp' σ a w h ht hw hd
      simp only [xcode] at h
      rw [rounds_succ]
      cases hb : xcode P dr call nt m c tm hp with
      | none => simp only [hb, reduceCtorEq] at h
      | some r =>
        obtain ⟨e1, tm1, hp1⟩ := r
        refine wp_mono (ih1 c tm hp e1 tm1 hp1 σ a w hb ht hw hd) fun e' a' w' hq => ?_
        obtain ⟨rfl, hd', σ', hle, ht', hw'⟩ := hq
        cases e' with
        | normal =>
          simp only [hb] at h
          exact rounds_mono (fun e a w hq => Post.le hle hq) (ih2 c tm1 hp1 e tm' hp' σ' a' w' h ht' hw' hd')
        | exit id => simp only [hb, Option.some.injEq, XR.mk.injEq] at h; obtain ⟨rfl, rfl, rfl⟩ := h; exact ⟨rfl, hd', σ', hle, ht', hw'⟩
        | goto id => simp only [hb, Option.some.injEq, XR.mk.injEq] at h; obtain ⟨rfl, rfl, rfl⟩ := h; exact ⟨rfl, hd', σ', hle, ht', hw'⟩
        | ret => simp only [hb, Option.some.injEq, XR.mk.injEq] at h; obtain ⟨rfl, rfl, rfl⟩ := h; exact ⟨rfl, hd', σ', hle, ht', hw'⟩
        | panic ch => simp only [hb, Option.some.injEq, XR.mk.injEq] at h; obtain ⟨rfl, rfl, rfl⟩ := h; exact ⟨rfl, hd', σ', hle, ht', hw'⟩
        | outgrown => simp only [hb, Option.some.injEq, XR.mk.injEq] at h; obtain ⟨rfl, rfl, rfl⟩ := h; exact ⟨rfl, hd', σ', hle, ht', hw'⟩
    refine ⟨?_, hloop⟩
    intro c tm hp e tm' hp' σ a w h ht hw hd
    cases c with
    | skip =>
      simp only [xcode, Option.some.injEq, XR.mk.injEq] at h
      obtain ⟨rfl, rfl, rfl⟩ := h
      exact wp_skip ⟨rfl, hd, σ, Sg.gr_refl _ σ, ht, hw⟩
    | label l =>
      simp only [xcode, Option.some.injEq, XR.mk.injEq] at h
      obtain ⟨rfl, rfl, rfl⟩ := h
      exact wp_label ⟨rfl, hd, σ, Sg.gr_refl _ σ, ht, hw⟩
    | exit id =>
      simp only [xcode, Option.some.injEq, XR.mk.injEq] at h
      obtain ⟨rfl, rfl, rfl⟩ := h
      exact wp_exit ⟨rfl, hd, σ, Sg.gr_refl _ σ, ht, hw⟩
    | ret =>
      simp only [xcode, Option.some.injEq, XR.mk.injEq] at h
      obtain ⟨rfl, rfl, rfl⟩ := h
      exact wp_ret ⟨rfl, hd, σ, Sg.gr_refl _ σ, ht, hw⟩
    | region id ops draw =>
      simp only [xcode] at h
      cases draw with
      | true =>
        simp only [cond_true] at h
        split at h
        · rename_i tm1 hp1 hr
          simp only [Option.some.injEq, XR.mk.injEq] at h
          obtain ⟨rfl, rfl, rfl⟩ := h
          exact hdr call hcall nt ops id tm hp _ _ hr B w0 σ a w ht hw hd
        · cases h
      | false =>
        simp only [cond_false] at h
        split at h
        · rename_i tm1 hp1 hr
          simp only [Option.some.injEq, XR.mk.injEq] at h
          obtain ⟨rfl, rfl, rfl⟩ := h
          refine wp_region ?_
          have := xops_sound (B := B) (w0 := w0) hcall ops ops.toList 0 tm hp _ _ σ a w (by simp) hr ht hw hd
          rw [List.range_eq_range']
          simpa using this
        · cases h
    | seq x y =>
      simp only [xcode] at h
      cases hb : xcode P dr call nt m x tm hp with
      | none => simp only [hb, reduceCtorEq] at h
      | some r =>
        obtain ⟨e1, tm1, hp1⟩ := r
        refine wp_seq (wp_mono (ih1 x tm hp e1 tm1 hp1 σ a w hb ht hw hd) fun e' a' w' hq => ?_)
        obtain ⟨rfl, hd', σ', hle, ht', hw'⟩ := hq
        cases e' with
        | normal =>
          simp only [hb] at h
          exact wp_mono (ih1 y tm1 hp1 e tm' hp' σ' a' w' h ht' hw' hd') (fun e a w hq => Post.le hle hq)
        | exit id => simp only [hb, Option.some.injEq, XR.mk.injEq] at h; obtain ⟨rfl, rfl, rfl⟩ := h; exact ⟨rfl, hd', σ', hle, ht', hw'⟩
        | goto id => simp only [hb, Option.some.injEq, XR.mk.injEq] at h; obtain ⟨rfl, rfl, rfl⟩ := h; exact ⟨rfl, hd', σ', hle, ht', hw'⟩
        | ret => simp only [hb, Option.some.injEq, XR.mk.injEq] at h; obtain ⟨rfl, rfl, rfl⟩ := h; exact ⟨rfl, hd', σ', hle, ht', hw'⟩
        | panic ch => simp only [hb, Option.some.injEq, XR.mk.injEq] at h; obtain ⟨rfl, rfl, rfl⟩ := h; exact ⟨rfl, hd', σ', hle, ht', hw'⟩
        | outgrown => simp only [hb, Option.some.injEq, XR.mk.injEq] at h; obtain ⟨rfl, rfl, rfl⟩ := h; exact ⟨rfl, hd', σ', hle, ht', hw'⟩
    | cond c x y =>
      simp only [xcode] at h
      split at h
      · rename_i hc
        have hcv := xeval_VR ht hc
        generalize hce : a.eval c = cv at hcv
        cases hcv
        exact wp_cond_true hce (ih1 x tm hp e tm' hp' σ a w h ht hw hd)
      · rename_i hc
        have hcv := xeval_VR ht hc
        generalize hce : a.eval c = cv at hcv
        cases hcv
        exact wp_cond_false hce (ih1 y tm hp e tm' hp' σ a w h ht hw hd)
      · cases h
    | block id b =>
      simp only [xcode] at h
      cases hb : xcode P dr call nt m b tm hp with
      | none => simp only [hb, reduceCtorEq] at h
      | some r =>
        obtain ⟨e1, tm1, hp1⟩ := r
        refine wp_block (wp_mono (ih1 b tm hp e1 tm1 hp1 σ a w hb ht hw hd) fun e' a' w' hq => ?_)
        obtain ⟨rfl, hd', σ', hle, ht', hw'⟩ := hq
        cases e' with
        | normal => simp only [hb, Option.some.injEq, XR.mk.injEq] at h; obtain ⟨rfl, rfl, rfl⟩ := h; exact ⟨rfl, hd', σ', hle, ht', hw'⟩
        | exit j =>
          simp only [hb] at h
          by_cases hj : j = id
          · subst hj
            rw [beq_t rfl, cond_true] at h
            simp only [Option.some.injEq, XR.mk.injEq] at h
            obtain ⟨rfl, rfl, rfl⟩ := h
            simp only [Exit.inBlock, if_true]
            exact ⟨rfl, hd', σ', hle, ht', hw'⟩
          · rw [beq_f hj, cond_false] at h
            simp only [Option.some.injEq, XR.mk.injEq] at h
            obtain ⟨rfl, rfl, rfl⟩ := h
            simp only [Exit.inBlock, hj, if_false]
            exact ⟨rfl, hd', σ', hle, ht', hw'⟩
        | goto id => simp only [hb, Option.some.injEq, XR.mk.injEq] at h; obtain ⟨rfl, rfl, rfl⟩ := h; exact ⟨rfl, hd', σ', hle, ht', hw'⟩
        | ret => simp only [hb, Option.some.injEq, XR.mk.injEq] at h; obtain ⟨rfl, rfl, rfl⟩ := h; exact ⟨rfl, hd', σ', hle, ht', hw'⟩
        | panic ch => simp only [hb, Option.some.injEq, XR.mk.injEq] at h; obtain ⟨rfl, rfl, rfl⟩ := h; exact ⟨rfl, hd', σ', hle, ht', hw'⟩
        | outgrown => simp only [hb, Option.some.injEq, XR.mk.injEq] at h; obtain ⟨rfl, rfl, rfl⟩ := h; exact ⟨rfl, hd', σ', hle, ht', hw'⟩
    | loop b => exact wp_loop_rounds (m + 1) (hloop b tm hp e tm' hp' σ a w h ht hw hd)
    | rangeFunc f ps x y => simp only [xcode, reduceCtorEq] at h
    | scope b =>
      simp only [xcode] at h
      cases hb : xcode P dr call nt m b tm hp with
      | none => simp only [hb, reduceCtorEq] at h
      | some r =>
        obtain ⟨e1, tm1, hp1⟩ := r
        refine wp_scope_straight (wp_mono (ih1 b tm hp e1 tm1 hp1 σ a w hb ht hw hd) fun e' a' w' hq => ?_)
        obtain ⟨rfl, hd', σ', hle, ht', hw'⟩ := hq
        cases e' with
        | normal => simp only [hb, Option.some.injEq, XR.mk.injEq] at h; obtain ⟨rfl, rfl, rfl⟩ := h; exact ⟨rfl, hd', σ', hle, ht', hw'⟩
        | exit id => simp only [hb, Option.some.injEq, XR.mk.injEq] at h; obtain ⟨rfl, rfl, rfl⟩ := h; exact ⟨rfl, hd', σ', hle, ht', hw'⟩
        | goto id => simp only [hb, reduceCtorEq] at h
        | ret => simp only [hb, Option.some.injEq, XR.mk.injEq] at h; obtain ⟨rfl, rfl, rfl⟩ := h; exact ⟨rfl, hd', σ', hle, ht', hw'⟩
        | panic ch => simp only [hb, reduceCtorEq] at h
        | outgrown => simp only [hb, reduceCtorEq] at h
    | goto l => simp only [xcode, reduceCtorEq] at h
    | refuse s => simp only [xcode, reduceCtorEq] at h
end

/-! ## Calls -/

def xresult (P : Program) (tm : T Value) (hp : Hp) : ResultVar → Option Value
  | .tmp t => some ((tm.get t).getD undef)
  | .cell a t => xload P hp t ((tm.get a).getD undef)

def xresults (P : Program) (tm : T Value) (hp : Hp) : List ResultVar → Option (List Value)
  | [] => some []
  | r :: rs => match xresult P tm hp r with
    | some v => match xresults P tm hp rs with
      | some vs => some (v :: vs)
      | none => none
    | none => none

def xpack : List Value → Value
  | [v] => v
  | vs => .tuple vs.toArray

section
variable {P : Program} {B : Nat → Prop} {w0 : World}

theorem xload_var {σ : Sg} {hp : Hp} {w : World} {t : TypeId} {a a' v : Value} (h : xload P hp t a = some v) (ha : VR σ a a') (hw : HR B w0 σ hp w) :
    ∃ u, VR σ v u ∧ (do loadVar t (← asAddr a') : Sem Value).run P w = .ok u w := by
  obtain ⟨u, h1, h2⟩ := xload_sound h ha hw
  refine ⟨u, h1, ?_⟩
  rw [← h2]
  cases ha <;> first | rfl | (simp [xload] at h)

def resOf (tmps : Array Value) : ResultVar → Sem Value
  | .tmp t => pure (tmps.getD t undef)
  | .cell a t => do loadVar t (← asAddr (tmps.getD a undef))

theorem xresults_sound {σ : Sg} {hp : Hp} {w : World} {nt : Nat} {tm : T Value} {tmps : Array Value} (ht : TR σ nt tm tmps) (hw : HR B w0 σ hp w) :
    ∀ {rs : List ResultVar} {vs : List Value}, xresults P tm hp rs = some vs →
    ∃ us, VRL σ vs us ∧ (rs.mapM (resOf tmps) : Sem (List Value)).run P w = .ok us w
  | [], vs, h => by simp only [xresults, Option.some.injEq] at h; subst h; exact ⟨[], VRL.nil σ, by simp⟩
  | r :: rs, vs, h => by
    simp only [xresults] at h
    cases hr : xresult P tm hp r with
    | none => simp [hr] at h
    | some v =>
      cases hrs : xresults P tm hp rs with
      | none => simp [hr, hrs] at h
      | some vs' =>
        simp only [hr, hrs, Option.some.injEq] at h
        subst h
        obtain ⟨us, h1, h2⟩ := xresults_sound ht hw hrs
        cases r with
        | tmp t =>
          simp only [xresult, Option.some.injEq] at hr
          subst hr
          refine ⟨_ :: us, VRL.cons (ht.at_ t) h1, ?_⟩
          rw [List.mapM_cons]
          simp only [resOf, Sem.run_bind, Sem.run_pure, Result.andThen_ok, h2]
        | cell a t =>
          simp only [xresult] at hr
          obtain ⟨u, h3, h4⟩ := xload_var hr (ht.at_ a) hw
          refine ⟨u :: us, VRL.cons h3 h1, ?_⟩
          rw [List.mapM_cons, Sem.run_bind]
          have h4' : (resOf tmps (.cell a t)).run P w = .ok u w := h4
          rw [h4']
          simp only [Result.andThen_ok, Sem.run_bind, h2, Sem.run_pure]

theorem TR.start {σ : Sg} {args args' : List Value} (h : VRL σ args args') (n : Nat) :
    TR σ (args.length + (n - args.length)) (fill .e 0 args) (args'.toArray ++ Array.replicate (n - args'.toArray.size) undef) := by
  have hl := h.1
  refine ⟨by simp [hl], fun k => ?_⟩
  rw [get_fill]
  by_cases hk : k < args.length
  · rw [if_pos (by omega)]
    have hk' : k < args'.length := by omega
    have e1 : args[k - 0]? = some args[k] := by simp [hk]
    have e2 : (args'.toArray ++ Array.replicate (n - args'.toArray.size) undef).getD k undef = args'[k] := by
      simp [Array.getElem?_append, hk']
    rw [e1, e2]
    exact h.2 k _ _ (by simp [hk]) (by simp [hk'])
  · rw [if_neg (by omega)]
    have e2 : (args'.toArray ++ Array.replicate (n - args'.toArray.size) undef).getD k undef = undef := by
      have hk' : ¬ k < args'.length := by omega
      simp only [Array.getD_eq_getD_getElem?, Array.getElem?_append, List.size_toArray, hk', if_false, Array.getElem?_replicate]
      split <;> rfl
    rw [e2]
    rw [T.get_e]
    exact VR.undef σ

end
end Go.Xe
