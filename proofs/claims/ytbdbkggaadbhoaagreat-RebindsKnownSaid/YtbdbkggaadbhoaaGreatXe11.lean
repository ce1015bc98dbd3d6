/- The executor, part 11: regions in the order of the text, code, and calls; how a region that draws its order is run is a parameter.
  Conditions: none. -/
import Derived.Test.YtbdbkggaadbhoaaGreatXe10
import Derived.LoopNIn
import Derived.Scope
import Derived.RangeFuncNested
noncomputable section
namespace Go.Xe
open Go.RowKit

def xyields (ops : List Oper) (tm : T Value) (j : Nat) : Option Bool :=
  match ops[j]? with
  | some o => match o.dst with
    | some d => match tm.get d with
      | some (.bool b) => some b
      | _ => none
    | none => none
  | none => none

def xwanted (ops : List Oper) (tm : T Value) (o : Oper) : Bool :=
  match o.guard with
  | none => true
  | some (j, want) => match xyields ops tm j with
    | some b => b == want
    | none => false

theorem xwanted_eq {σ : Sg} {nt : Nat} {tm : T Value} {tmps : Array Value} (h : TR σ nt tm tmps) (ops : Array Oper) (o : Oper) :
    Region.wanted o (yielded ops tmps) = xwanted ops.toList tm o := by
  unfold Region.wanted xwanted
  cases o.guard with
  | none => rfl
  | some gw =>
    obtain ⟨j, want⟩ := gw
    simp only
    have hy : yielded ops tmps j = xyields ops.toList tm j := by
      unfold yielded xyields
      rw [Array.getElem?_toList]
      cases hj : ops[j]? with
      | none => rfl
      | some p =>
        simp only [Option.bind_some]
        cases hd : p.dst with
        | none => rfl
        | some d =>
          simp only [Option.bind_some]
          have := h.at_ d
          by_cases hlt : d < tmps.size
          · have e : tmps[d]? = some tmps[d] := by simp [hlt]
            have e2 : tmps.getD d undef = tmps[d] := by simp [Array.getD, hlt]
            rw [e2] at this
            rw [e]
            cases hg : tm.get d with
            | none =>
              rw [hg, Option.getD_none] at this
              generalize tmps[d] = x at this
              cases this
              rfl
            | some v =>
              rw [hg, Option.getD_some] at this
              generalize tmps[d] = x at this
              cases this <;> rfl
          · have e : tmps[d]? = none := Array.getElem?_eq_none (Nat.le_of_not_lt hlt)
            have e2 : tmps.getD d undef = undef := by simp [Array.getD, hlt]
            rw [e2] at this
            rw [e]
            cases hg : tm.get d with
            | none => rfl
            | some v =>
              rw [hg, Option.getD_some] at this
              unfold undef at this
              cases this
              rfl
    rw [hy]
    cases xyields ops.toList tm j with
    | none => rfl
    | some b => cases b <;> cases want <;> rfl

def xputT (tm : T Value) (dst : Option Tmp) (v : Value) : T Value :=
  match dst with
  | some d => tm.set d (some v)
  | none => tm

def dstOK (nt : Nat) (dst : Option Tmp) : Bool :=
  match dst with
  | some d => Nat.blt d nt
  | none => true

theorem TR.putO {σ : Sg} {nt : Nat} {tm : T Value} {a : Act} (h : TR σ nt tm a.tmps) {dst : Option Tmp} (hd : dstOK nt dst = true) {v u : Value} (hv : VR σ v u) :
    TR σ nt (xputT tm dst v) (a.put dst u).tmps := by
  cases dst with
  | none => exact h
  | some d => exact h.put (Nat.le_of_ble_eq_true hd) hv

/-- What follows one operation's answer. -/
def xcont (ih : T Value → Hp → Option (T Value × Hp)) (tm : T Value) (dst : Option Tmp) (r : Option (Value × Hp)) : Option (T Value × Hp) :=
  Option.rec (motive := fun _ => Option (T Value × Hp)) none (fun p => Prod.rec (motive := fun _ => Option (T Value × Hp)) (fun v hp => (xputT tm dst v).force fun tm' => ih tm' hp) p) r

def xone (P : Program) (call : Caller) (nt : Nat) (all : List Oper) (o : Oper) (ih : T Value → Hp → Option (T Value × Hp)) (tm : T Value) (hp : Hp) : Option (T Value × Hp) :=
  bif dstOK nt o.dst then
    bif xwanted all tm o then xcont ih tm o.dst (xop P call tm hp o.op)
    else (xputT tm o.dst undef).force fun tm' => ih tm' hp
  else none

/-- Operations in the order of the text; by the recursor, for the kernel's sake. -/
def xops (P : Program) (call : Caller) (nt : Nat) (all : List Oper) (l : List Oper) : T Value → Hp → Option (T Value × Hp) :=
  List.rec (motive := fun _ => T Value → Hp → Option (T Value × Hp)) (fun tm hp => some (tm, hp)) (fun o _ ih tm hp => xone P call nt all o ih tm hp) l

theorem xops_nil {P : Program} {call : Caller} {nt : Nat} {all : List Oper} {tm : T Value} {hp : Hp} : xops P call nt all [] tm hp = some (tm, hp) := rfl

theorem xops_cons {P : Program} {call : Caller} {nt : Nat} {all rest : List Oper} {o : Oper} {tm : T Value} {hp : Hp} :
    xops P call nt all (o :: rest) tm hp = bif dstOK nt o.dst then
      bif xwanted all tm o then
        match xop P call tm hp o.op with
        | some (v, hp') => xops P call nt all rest (xputT tm o.dst v) hp'
        | none => none
      else xops P call nt all rest (xputT tm o.dst undef) hp
    else none := by
  show xone P call nt all o (xops P call nt all rest) tm hp = _
  unfold xone
  cases xop P call tm hp o.op with
  | none => simp only [T.force_eq, xcont]
  | some r => obtain ⟨v, hp'⟩ := r; simp only [T.force_eq, xcont]
/- HOOK -/

def Post (n : Nat) (B : Nat → Prop) (w0 : World) (σ : Sg) (nt : Nat) (e : Exit) (tm : T Value) (hp : Hp) (D : List Deferred) : Exit → Act → World → Prop :=
  fun e' a' w' => e' = e ∧ a'.defers = D ∧ ∃ σ', Sg.gr n hp.nx σ σ' ∧ TR σ' nt tm a'.tmps ∧ HR B w0 σ' hp w'

theorem Post.le {B : Nat → Prop} {w0 : World} {σ σ' : Sg} {n n1 : Nat} (h : Sg.gr n n1 σ σ') {nt : Nat} {e : Exit} {tm : T Value} {hp : Hp} {D : List Deferred} {e' : Exit} {a' : Act} {w' : World} (hp' : Post n1 B w0 σ' nt e tm hp D e' a' w') :
    Post n B w0 σ nt e tm hp D e' a' w' := by
  obtain ⟨h1, h2, σ2, h3, h4, h5⟩ := hp'
  exact ⟨h1, h2, σ2, Sg.gr_trans h h3, h4, h5⟩

theorem wpOpsIn_mono' {P : Program} {r : Option Nat} {ops : Array Oper} {Q Q' : Exit → Act → World → Prop} (hq : ∀ e a w, Q e a w → Q' e a w) : ∀ (l : List Nat) {a : Act} {w : World}, wpOpsIn (RF r) 0 P ops Q l a w → wpOpsIn (RF r) 0 P ops Q' l a w := by
  have hlet : LetsOut Q → LetsOut Q' := fun ⟨a, w, h⟩ => ⟨a, w, hq _ _ _ h⟩
  intro l
  induction l with
  | nil => intro a w h; exact hq _ _ _ h
  | cons i rest ih =>
    intro a w h
    simp only [wpOpsIn] at h ⊢
    cases ho : ops[i]? with
    | none => simp only [ho] at h; exact ih h
    | some o =>
      simp only [ho] at h
      simp only
      split
      · rename_i hw
        simp only [hw, if_true] at h
        unfold Oper.wpIn at h ⊢
        refine ⟨h.1, ?_⟩
        replace h := h.2
        generalize (o.semAt (RF r).round a.eval).run P w = x at h ⊢
        cases x with
        | ok n w' =>
          cases n <;> simp only [Oper.uponIn] at h ⊢ <;> first
            | exact ih h
            | (refine ⟨h.1, CallsIn.mono h.2 fun e w'' he => ?_⟩; cases e <;> first | exact ih he | exact hq _ _ _ he | exact hlet he)
            | exact ⟨h.1, RowsIn.mono h.2 fun v w'' he => ih he⟩
            | (refine ⟨h.1, RoundIn.mono h.2 fun e w'' he => ?_⟩; cases e <;> first | exact ih he | exact hq _ _ _ he | exact hlet he)
        | halt x w' => cases x <;> simp only [Oper.uponIn] at h ⊢ <;> exact hq _ _ _ h
      · rename_i hw
        simp only [hw] at h
        exact ⟨h.1, ih h.2⟩

theorem roundsIn_mono {P : Program} {F : Fence} {k : Nat} {c : Code} {Q Q' : Exit → Act → World → Prop} (hq : ∀ e a w, Q e a w → Q' e a w) : ∀ {n : Nat} {a : Act} {w : World}, Code.roundsIn F k P c Q n a w → Code.roundsIn F k P c Q' n a w
  | 0, _, _, h => h.elim
  | n + 1, _, _, h => wpIn_mono h fun e a w he => by
    cases e with
    | normal => exact roundsIn_mono hq he
    | _ => exact hq _ _ _ he

section
variable {P : Program} {B : Nat → Prop} {w0 : World} {call : Caller}

theorem TR.ER {σ : Sg} {nt : Nat} {tm : T Value} {a : Act} (h : TR σ nt tm a.tmps) (xs : Array Operand) : ∀ x ∈ xs, ∀ v, xeval tm x = some v → VR σ v (a.eval x) :=
  fun _ _ _ hv => xeval_VR h hv

theorem put_defers (a : Act) (dst : Option Tmp) (v : Value) : (a.put dst v).defers = a.defers := by cases dst <;> rfl

theorem xops_sound (hcall : CallOK P call) {nt : Nat} (ops : Array Oper) (r : Option Nat) : ∀ (l : List Oper) (k : Nat) (tm : T Value) (hp : Hp) (tm' : T Value) (hp' : Hp) (σ : Sg) (a : Act) (w : World),
    (∀ j, l[j]? = ops[k + j]?) → xops P call nt ops.toList l tm hp = some (tm', hp') → TR σ nt tm a.tmps → HR B w0 σ hp w → ∀ D, a.defers = D →
    wpOpsIn (RF r) 0 P ops (Post hp.nx B w0 σ nt .normal tm' hp' D) (List.range' k l.length) a w := by
  intro l
  induction l with
  | nil =>
    intro k tm hp tm' hp' σ a w _ h ht hw D hd
    simp only [xops_nil, Option.some.injEq, Prod.mk.injEq] at h
    obtain ⟨rfl, rfl⟩ := h
    exact ⟨rfl, hd, σ, Sg.gr_refl _ σ, ht, hw⟩
  | cons o l ih =>
    intro k tm hp tm' hp' σ a w hl h ht hw D hd
    have ho : ops[k]? = some o := by simpa using (hl 0).symm
    have hl' : ∀ j, l[j]? = ops[k + 1 + j]? := fun j => by have := hl (j + 1); simpa [Nat.add_assoc, Nat.add_comm 1 j] using this
    rw [xops_cons] at h
    simp only [List.length_cons, List.range'_succ, wpOpsIn, ho]
    cases hdst : dstOK nt o.dst with
    | false => rw [hdst] at h; cases h
    | true =>
      rw [hdst, cond_true] at h
      rw [xwanted_eq ht ops o]
      cases hwt : xwanted ops.toList tm o with
      | true =>
        rw [hwt, cond_true] at h
        rw [if_pos rfl]
        split at h
        · rename_i v hp1 hx
          refine xop_sound hcall hx (ht.ER _) hw _ _ (fun σ' u w' hle hv hw' => ?_) r
          have ih' := ih (k + 1) _ hp1 tm' hp' σ' (a.put o.dst u) w' hl' h ((ht.mono hle.le).putO hdst hv) hw' D (by rw [put_defers]; exact hd)
          exact wpOpsIn_mono' (fun e a' w' hq => Post.le hle hq) _ ih'
        · cases h
      | false =>
        rw [hwt, cond_false] at h
        rw [if_neg (by simp)]
        exact ⟨fun _ _ => trivial, ih (k + 1) _ hp tm' hp' σ _ w hl' h (ht.putO hdst (VR.undef σ)) hw D (by rw [put_defers]; exact hd)⟩
end

/-! ## Deferred calls -/

/-- A mark of a range over a function; a call of a function. -/
inductive Df where
  | mark (r : Nat)
  | call (g : FuncId) (args cap : List Value)

def DfR (σ : Sg) : Df → Deferred → Prop
  | .mark r, d => ∃ p, σ r = some p ∧ d.target = .collected p.blk
  | .call g args cap, d => ∃ cap', d.target = .fn (.func g) cap' ∧ VRL σ args d.args.toList ∧ VRL σ cap cap'.toList

def DsR (σ : Sg) : List Df → List Deferred → Prop
  | [], [] => True
  | x :: xs, d :: ds => DfR σ x d ∧ DsR σ xs ds
  | _, _ => False

theorem DfR.mono {σ σ' : Sg} (hs : Sg.le σ σ') {x : Df} {d : Deferred} (h : DfR σ x d) : DfR σ' x d := by
  cases x with
  | mark r => obtain ⟨p, h1, h2⟩ := h; exact ⟨p, hs _ _ h1, h2⟩
  | call g args cap => obtain ⟨c, h1, h2, h3⟩ := h; exact ⟨c, h1, h2.mono hs, h3.mono hs⟩

theorem DsR.mono {σ σ' : Sg} (hs : Sg.le σ σ') : ∀ {xs : List Df} {ds : List Deferred}, DsR σ xs ds → DsR σ' xs ds
  | [], [], _ => trivial
  | _ :: _, _ :: _, h => ⟨h.1.mono hs, DsR.mono hs h.2⟩
  | [], _ :: _, h => h.elim
  | _ :: _, [], h => h.elim

/-- The round in which the code is run: its record's number, and its place. -/
def ArR (σ : Sg) : Option Nat → Option Nat → Prop
  | none, none => True
  | some j, some b => ∃ p, σ j = some p ∧ p.blk = b
  | _, _ => False

theorem ArR.mono {σ σ' : Sg} (hs : Sg.le σ σ') {ar r : Option Nat} (h : ArR σ ar r) : ArR σ' ar r := by
  cases ar <;> cases r <;> first | exact h | (obtain ⟨p, h1, h2⟩ := h; exact ⟨p, hs _ _ h1, h2⟩)

/-! ## Code -/

inductive XR where
  | mk (e : Exit) (tm : T Value) (hp : Hp) (ds : List Df)

abbrev Drawer := Caller → Nat → List Oper → T Value → Hp → Option (T Value × Hp)

def DrawOK (P : Program) (dr : Drawer) : Prop :=
  ∀ call, CallOK P call → ∀ nt (ops : Array Oper) id tm hp tm' hp', dr call nt ops.toList tm hp = some (tm', hp') → ∀ B w0 σ a w, TR σ nt tm a.tmps → HR B w0 σ hp w → ∀ r,
    (Code.region id ops true).wpIn (RF r) 0 P (Post hp.nx B w0 σ nt .normal tm' hp' a.defers) a w

/-- The end of a range over a function: the record is given up; the jump that it holds is made. -/
def xrange (R : Option (Value × Hp)) (l : Nat) (tm : T Value) (ds : List Df) : Option XR :=
  match R with
  | some (_, hp) => match hp.m.get l with
    | some (.loop .ready pend _ _ _ _ _ _) => match pend with
      | none => some (.mk .normal tm { hp with m := hp.m.set l none } ds)
      | some _ => none
    | some (.loop .done pend _ _ _ _ _ _) => match pend with
      | some .ret => some (.mk .ret tm { hp with m := hp.m.set l none } ds)
      | some (.exit id) => some (.mk (.exit id) tm { hp with m := hp.m.set l none } ds)
      | _ => none
    | _ => none
  | none => none

def xrangeFunc (P : Program) (call : Caller) (nt : Nat) (ar : Option Nat) (f : Operand) (ps : Array Tmp) (assign body : Code) (tm : T Value) (hp : Hp) (ds : List Df) : Option XR :=
  match xeval tm f with
  | some (.func (.func g) first captured) => match P.funcs[g]? with
    | some fn => bif okFn fn then
        match ar with
        | none => xrange (call.run g (first.toList ++ [.chan (some (hp.nx + 1))] ++ captured.toList) ⟨(hp.m.set hp.nx (some .dfr)).set (hp.nx + 1) (some (.loop .ready none nt tm ps assign body hp.nx)), hp.nx + 2⟩) (hp.nx + 1) tm (.mark hp.nx :: ds)
        | some j => match hp.m.get j with
          | some (.loop _ _ _ _ _ _ _ db) => xrange (call.run g (first.toList ++ [.chan (some hp.nx)] ++ captured.toList) ⟨hp.m.set hp.nx (some (.loop .ready none nt tm ps assign body db)), hp.nx + 1⟩) hp.nx tm ds
          | _ => none
      else none
    | none => none
  | _ => none

/-- A deferred call. -/
def xdefer (tm : T Value) (c : Call) : Option Df :=
  match c.callee with
  | .value f => match xeval tm f with
    | some (.func (.func g) first captured) => match xevs tm c.args.toList with
      | some args => some (.call g (first.toList ++ args) captured.toList)
      | none => none
    | _ => none
  | _ => none

def callOf : Op → Option Call
  | .defer c => some c
  | _ => none

/-- Operations in the order of the text, some of which defer calls. -/
def xopsD (P : Program) (call : Caller) (nt : Nat) (all : List Oper) : List Oper → T Value → Hp → List Df → Option (T Value × Hp × List Df)
  | [], tm, hp, ds => some (tm, hp, ds)
  | o :: rest, tm, hp, ds =>
    bif dstOK nt o.dst then
      bif xwanted all tm o then
        match callOf o.op with
        | some c => match xdefer tm c with
          | some d => xopsD P call nt all rest (xputT tm o.dst undef) hp (d :: ds)
          | none => none
        | none => match xop P call tm hp o.op with
          | some (v, hp') => xopsD P call nt all rest (xputT tm o.dst v) hp' ds
          | none => none
      else xopsD P call nt all rest (xputT tm o.dst undef) hp ds
    else none

def xregD (P : Program) (call : Caller) (nt : Nat) (ar : Option Nat) (ops : List Oper) (draw : Bool) (tm : T Value) (hp : Hp) (ds : List Df) : Option XR :=
  match ar with
  | some _ => none
  | none => bif draw then none else match xopsD P call nt ops ops tm hp ds with
    | some (tm', hp', ds') => some (.mk .normal tm' hp' ds')
    | none => none

def xcode (P : Program) (dr : Drawer) (call : Caller) (nt : Nat) (ar : Option Nat) : Nat → Code → T Value → Hp → List Df → Option XR
  | 0, _, _, _, _ => none
  | m + 1, c, tm, hp, ds => match c with
    | .skip => some (.mk .normal tm hp ds)
    | .label _ => some (.mk .normal tm hp ds)
    | .region _ ops draw => match (bif draw then dr call nt ops.toList tm hp else xops P call nt ops.toList ops.toList tm hp) with
      | some (tm', hp') => some (.mk .normal tm' hp' ds)
      | none => xregD P call nt ar ops.toList draw tm hp ds
    | .seq x y => match xcode P dr call nt ar m x tm hp ds with
      | some (.mk .normal tm' hp' ds') => xcode P dr call nt ar m y tm' hp' ds'
      | r => r
    | .cond c x y => match xeval tm c with
      | some (.bool true) => xcode P dr call nt ar m x tm hp ds
      | some (.bool false) => xcode P dr call nt ar m y tm hp ds
      | _ => none
    | .block id b => match xcode P dr call nt ar m b tm hp ds with
      | some (.mk (.exit j) tm' hp' ds') => bif Nat.beq j id then some (.mk .normal tm' hp' ds') else some (.mk (.exit j) tm' hp' ds')
      | r => r
    | .loop b => match xcode P dr call nt ar m b tm hp ds with
      | some (.mk .normal tm' hp' ds') => xcode P dr call nt ar m (.loop b) tm' hp' ds'
      | r => r
    | .exit id => some (.mk (.exit id) tm hp ds)
    | .ret => some (.mk .ret tm hp ds)
    | .scope b => match xcode P dr call nt ar m b tm hp ds with
      | some (.mk .normal tm' hp' ds') => some (.mk .normal tm' hp' ds')
      | some (.mk (.exit j) tm' hp' ds') => some (.mk (.exit j) tm' hp' ds')
      | some (.mk .ret tm' hp' ds') => some (.mk .ret tm' hp' ds')
      | _ => none
    | .rangeFunc f ps assign body => xrangeFunc P call nt ar f ps assign body tm hp ds
    | _ => none

def PostC (n : Nat) (B : Nat → Prop) (w0 : World) (σ : Sg) (nt : Nat) (e : Exit) (tm : T Value) (hp : Hp) (ds : List Df) : Exit → Act → World → Prop :=
  fun e' a' w' => e' = e ∧ ∃ σ', Sg.gr n hp.nx σ σ' ∧ DsR σ' ds a'.defers ∧ TR σ' nt tm a'.tmps ∧ HR B w0 σ' hp w'

theorem PostC.le {B : Nat → Prop} {w0 : World} {σ σ' : Sg} {n n1 : Nat} (h : Sg.gr n n1 σ σ') {nt : Nat} {e : Exit} {tm : T Value} {hp : Hp} {ds : List Df} {e' : Exit} {a' : Act} {w' : World} (hp' : PostC n1 B w0 σ' nt e tm hp ds e' a' w') :
    PostC n B w0 σ nt e tm hp ds e' a' w' := by
  obtain ⟨h1, σ2, h3, h2, h4, h5⟩ := hp'
  exact ⟨h1, σ2, Sg.gr_trans h h3, h2, h4, h5⟩

section
variable {P : Program} {B : Nat → Prop} {w0 : World} {call : Caller} {dr : Drawer}

theorem stepR_scope {b : Frame} {a : Act} {k : List Item} {cs : List Frame} {w : World} {c : Code} : step P (lone (b.atR a (.code (.scope c) :: k)) cs w) = .next (lone (b.atR a (.code c :: .inScope c :: k)) cs w) :=
  step_lone_go (by simp [stepG, stepG.exec, Frame.atR])
theorem stepR_inScope {b : Frame} {a : Act} {k : List Item} {cs : List Frame} {w : World} {c : Code} : step P (lone (b.atR a (.inScope c :: k)) cs w) = .next (lone (b.atR a k) cs w) :=
  step_lone_go (by simp [stepG, stepG.exec, Frame.atR])

theorem wpIn_scope_straight {F : Fence} {n : Nat} {c : Code} {Q : Exit → Act → World → Prop} {a : Act} {w : World} (h : c.wpIn F n P (Exit.noGoto Q) a w) : (Code.scope c).wpIn F n P Q a w := by
  intro b k cs hro hb hr
  have h0 : (lone (b.atR a (.code (.scope c) :: k)) cs w).fenced P F := fenced_calm hb hr rfl
  obtain ⟨e, a₁, w₁, hq, harr⟩ := h b (.inScope c :: k) cs hro hb hr
  cases e with
  | normal => exact ⟨.normal, a₁, w₁, hq, .head h0 stepR_scope (StepsIn.trans harr (.one (fenced_calm hb hr rfl) stepR_inScope))⟩
  | exit id =>
    have hx : exitTo id (.inScope c :: k) = exitTo id k := by simp [exitTo]
    exact ⟨.exit id, a₁, w₁, hq, fun k' hk => .head h0 stepR_scope (harr.1 k' (by rw [hx]; exact hk)),
      fun hr' hk => let ⟨k₁, h1, h2⟩ := harr.2 hr' (by rw [hx]; exact hk); ⟨k₁, h1, .head h0 stepR_scope h2⟩⟩
  | goto l => exact hq.elim
  | ret => exact ⟨_, a₁, w₁, hq, .of_steps (.one h0 stepR_scope) harr⟩
  | panic ch => exact ⟨_, a₁, w₁, hq, .of_steps (.one h0 stepR_scope) harr⟩
  | outgrown => exact ⟨_, a₁, w₁, hq, .of_steps (.one h0 stepR_scope) harr⟩

/-- A smaller abstract memory. -/
theorem HR.less {σ : Sg} {hp : Hp} {w : World} (h : HR B w0 σ hp w) {m : T Blk} (hm : ∀ i b, m.get i = some b → hp.m.get i = some b) : HR B w0 σ ⟨m, hp.nx⟩ w :=
  ⟨h.os, h.tape, h.output, h.size, h.old, h.kept, h.fresh, fun i b hg => h.live i b (hm _ _ hg),
   fun i j b b' p q hi hj => h.inj i j b b' p q (hm _ _ hi) (hm _ _ hj)⟩

theorem HR.drop {σ : Sg} {hp : Hp} {w : World} (h : HR B w0 σ hp w) (l : Nat) : HR B w0 σ { hp with m := hp.m.set l none } w := by
  refine h.less fun i b hg => ?_
  have hg : (hp.m.set l none).get i = some b := hg
  rw [T.get_set] at hg
  by_cases hi : i = l
  · rw [if_pos hi] at hg; cases hg
  · rw [if_neg hi] at hg; exact hg

/-- What a range over a function comes to, when the function that is ranged over has returned. -/
theorem xrange_sound (hcall : CallOK P call) {g l : Nat} {xs : List Value} {tm : T Value} {hp : Hp} {ds : List Df} {e : Exit} {tm' : T Value} {hp' : Hp} {ds' : List Df} (h : xrange (call.run g xs hp) l tm ds = some (.mk e tm' hp' ds'))
    {σ : Sg} {p : Pl} (hl : σ l = some p) {ys : List Value} (hv : VRL σ xs ys) {w : World} (hw : HR B w0 σ hp w) {nt : Nat} {a : Act} (ht : TR σ nt tm a.tmps) (hd : DsR σ ds a.defers) (r : Option Nat) (k : Nat) :
    CallsIn (RF r) k P g ys.toArray w (rangePost (RF r) 0 P p.blk (PostC hp.nx B w0 σ nt e tm' hp' ds') a) := by
  unfold xrange at h
  split at h
  · rename_i v hp1 hx
    have hc := hcall.run g xs hp v hp1 hx B w0 σ w ys hv hw
    refine (show CallsIn (RF r) k P g ys.toArray w _ from (callsIn_wide (n := k)).2 hc).mono fun e' w1 he => ?_
    obtain ⟨σ1, u, rfl, gr, _, hw1⟩ := he
    have hl1 := gr.le _ _ hl
    have main : ∀ st pend nt' tms' ps' as' bo' db', hp1.m.get l = some (.loop st pend nt' tms' ps' as' bo' db') → st ≠ .busy →
        ∃ w2, (Instr.endLoop p.blk).run P w1 = .ok pend w2 ∧ HR B w0 σ1 { hp1 with m := hp1.m.set l none } w2 := by
      intro st pend nt' tms' ps' as' bo' db' hg hst
      obtain ⟨p', o, q1, q2, q3, q4⟩ := hw1.live l _ hg
      have : p' = p := Option.some.inj (q1.symm.trans hl1)
      subst this
      obtain ⟨rec, rfl, k1, k2, k3, k4, k5, k6, k7⟩ := q4
      refine ⟨w1.putObj p'.blk (.loop { rec with state := .exhausted }), ?_, ?_⟩
      · rw [run_endLoop q3 (by rw [k1]; exact hst), k2]
      · have hs := HR.setO (b' := .loop .exhausted pend nt' tms' ps' as' bo' db') hw1 hg q1 (o := .loop { rec with state := .exhausted }) ⟨_, rfl, rfl, k2, k3, k4, k5, k6, k7⟩
        have hs2 := HR.drop hs l
        refine hs2.less fun i b hi => ?_
        have hi : (hp1.m.set l none).get i = some b := hi
        show ((hp1.m.set l (some _)).set l none).get i = some b
        rw [T.get_set] at hi ⊢
        by_cases hil : i = l
        · rw [if_pos hil] at hi; cases hi
        · rw [if_neg hil] at hi ⊢
          rw [T.get_set, if_neg hil]; exact hi
    split at h
    · rename_i pend nt' tms' ps' as' bo' db' hg
      obtain ⟨w2, m1, m2⟩ := main _ _ _ _ _ _ _ _ hg (by simp)
      split at h
      · simp only [Option.some.injEq, XR.mk.injEq] at h
        obtain ⟨rfl, rfl, rfl, rfl⟩ := h
        exact ⟨_, w2, m1, rfl, σ1, gr, hd.mono gr.le, ht.mono gr.le, m2⟩
      · cases h
    · rename_i pend nt' tms' ps' as' bo' db' hg
      obtain ⟨w2, m1, m2⟩ := main _ _ _ _ _ _ _ _ hg (by simp)
      split at h
      · simp only [Option.some.injEq, XR.mk.injEq] at h
        obtain ⟨rfl, rfl, rfl, rfl⟩ := h
        exact ⟨_, w2, m1, wpIn_ret ⟨rfl, σ1, gr, hd.mono gr.le, ht.mono gr.le, m2⟩⟩
      · simp only [Option.some.injEq, XR.mk.injEq] at h
        obtain ⟨rfl, rfl, rfl, rfl⟩ := h
        exact ⟨_, w2, m1, wpIn_exit ⟨rfl, σ1, gr, hd.mono gr.le, ht.mono gr.le, m2⟩⟩
      · cases h
    · cases h
  · cases h

theorem xrangeFunc_sound (hcall : CallOK P call) {nt : Nat} {ar : Option Nat} {f : Operand} {ps : Array Tmp} {assign body : Code} {tm : T Value} {hp : Hp} {ds : List Df} {e : Exit} {tm' : T Value} {hp' : Hp} {ds' : List Df}
    (h : xrangeFunc P call nt ar f ps assign body tm hp ds = some (.mk e tm' hp' ds')) {σ : Sg} {a : Act} {w : World} {r : Option Nat} (ht : TR σ nt tm a.tmps) (hw : HR B w0 σ hp w) (hd : DsR σ ds a.defers) (har : ArR σ ar r) :
    (Code.rangeFunc f ps assign body).wpIn (RF r) 0 P (PostC hp.nx B w0 σ nt e tm' hp' ds') a w := by
  unfold xrangeFunc at h
  split at h
  · rename_i g first captured hf
    have hfv := xeval_VR ht hf
    generalize hfe : a.eval f = fe at hfv
    cases hfv with
    | func _ _ ys _ cs q1 q2 q3 q4 =>
    have vf : VRL σ first.toList ys.toList := ⟨by simpa using q1, fun i x y h1 h2 => q2 i x y (by simpa using h1) (by simpa using h2)⟩
    have vc : VRL σ captured.toList cs.toList := ⟨by simpa using q3, fun i x y h1 h2 => q4 i x y (by simpa using h1) (by simpa using h2)⟩
    split at h
    · rename_i fn hfn
      cases ho : okFn fn with
      | false => rw [ho] at h; cases h
      | true =>
        rw [ho, cond_true] at h
        have hres : ∀ l w, (resolve a.eval (rangeCall f l) 0).run P w = .ok { target := .fn (.func g) cs, args := ys ++ #[Value.func (.yield l) #[] #[]] } w := by
          intro l w
          simp only [resolve, hfe, Deferred.ofValue, List.map_toArray, List.map_cons, List.map_nil]
          rfl
        have hinv : ∀ l w, (invoke (.fn (.func g) cs) (ys ++ #[Value.func (.yield l) #[] #[]])).run P w = .ok (.enter g (ys.toList ++ [Value.func (.yield l) #[] #[]] ++ cs.toList).toArray) w := by
          intro l w
          have : (ys.toList ++ [Value.func (.yield l) #[] #[]] ++ cs.toList).toArray = ys ++ #[Value.func (.yield l) #[] #[]] ++ cs := by apply Array.ext'; simp
          rw [this]
          exact run_callFunc hfn ho w
        split at h
        · cases r with
          | some b => exact har.elim
          | none =>
            refine wpIn_rangeFunc fun fn0 _ => ?_
            let p0 : Pl := ⟨w.heap.size, 0, 0, 0⟩
            let p1 : Pl := ⟨w.heap.size + 1, 0, 0, 0⟩
            have n0 : σ hp.nx = none := hw.fresh _ (Nat.le_refl _)
            have n1 : (σ.ext hp.nx p0) (hp.nx + 1) = none := by rw [Sg.ext_other _ _ _ (by omega)]; exact hw.fresh _ (by omega)
            have h1 := hw.allocO hp.nx (hp.nx + 1) n0 (Nat.le_succ _) (Nat.lt_succ_self _) .dfr (.deferred (some [])) p0 rfl rfl
            have g1 : Sg.gr hp.nx (hp.nx + 1) σ (σ.ext hp.nx p0) := ⟨Sg.le_ext p0 n0, fun i hi => Sg.ext_other _ _ _ (by omega), Nat.le_succ _⟩
            have g2 : Sg.gr (hp.nx + 1) (hp.nx + 2) (σ.ext hp.nx p0) ((σ.ext hp.nx p0).ext (hp.nx + 1) p1) := ⟨Sg.le_ext p1 n1, fun i hi => Sg.ext_other _ _ _ (by omega), Nat.le_succ _⟩
            have g12 := Sg.gr_trans g1 g2
            have e0 : ((σ.ext hp.nx p0).ext (hp.nx + 1) p1) hp.nx = some p0 := g2.le _ _ (Sg.ext_same _ _ _)
            have h2 := h1.allocO (hp.nx + 1) (hp.nx + 2) n1 (Nat.le_succ _) (Nat.lt_succ_self _) (.loop .ready none nt tm ps assign body hp.nx)
              (.loop { state := .ready, pending := none, fn := fn0, tmps := a.tmps, params := ps, assign, body, defers := w.heap.size }) p1 (by simp [p1])
              ⟨_, rfl, rfl, rfl, rfl, rfl, rfl, ⟨ht.size, fun k => (ht.at_ k).mono g12.le⟩, p0, e0, rfl⟩
            refine ⟨_, _, _, _, _, _, _, _, run_enterLoop_outer fn0 a.tmps ps assign body, hres _ _, fun _ _ => trivial, hinv _ _, fun h => (by cases h), ?_⟩
            have hs := xrange_sound (B := B) (w0 := w0) hcall h (p := p1) (Sg.ext_same _ _ _) ((vf.mono g12.le).append (VRL.cons (.yield (hp.nx + 1) p1 (Sg.ext_same _ _ _)) (VRL.nil _)) |>.append (vc.mono g12.le)) h2
              (a := { a with defers := [{ target := .collected w.heap.size, args := #[] }] ++ a.defers }) (ht.mono g12.le) ⟨⟨p0, e0, rfl⟩, hd.mono g12.le⟩ none (0 - 1)
            refine hs.mono fun e' w' he => ?_
            cases e' with
            | returned v =>
              obtain ⟨jump, w4, k1, k2⟩ := he
              refine ⟨jump, w4, k1, ?_⟩
              cases jump with
              | none => exact PostC.le g12 k2
              | some c => exact wpIn_mono k2 fun e a w hq => PostC.le g12 hq
            | panicked chain => exact PostC.le g12 he
            | outgrown => obtain ⟨a0, w5, hq⟩ := he; exact ⟨a0, w5, PostC.le g12 hq⟩
        · rename_i j
          cases r with
          | none => exact har.elim
          | some b =>
            obtain ⟨pj, hj, rfl⟩ := har
            split at h
            · rename_i st0 pend0 nt0 tms0 ps0 as0 bo0 db hg
              obtain ⟨pj', o, u1, u2, u3, u4⟩ := hw.live j _ hg
              have : pj' = pj := Option.some.inj (u1.symm.trans hj)
              subst this
              obtain ⟨rec, rfl, k1, k2, k3, k4, k5, k6, q, k7, k8⟩ := u4
              refine wpIn_rangeFunc fun fn0 _ => ?_
              let p1 : Pl := ⟨w.heap.size, 0, 0, 0⟩
              have n0 : σ hp.nx = none := hw.fresh _ (Nat.le_refl _)
              have g1 : Sg.gr hp.nx (hp.nx + 1) σ (σ.ext hp.nx p1) := ⟨Sg.le_ext p1 n0, fun i hi => Sg.ext_other _ _ _ (by omega), Nat.le_succ _⟩
              have h2 := hw.allocO hp.nx (hp.nx + 1) n0 (Nat.le_succ _) (Nat.lt_succ_self _) (.loop .ready none nt tm ps assign body db)
                (.loop { state := .ready, pending := none, fn := fn0, tmps := a.tmps, params := ps, assign, body, defers := rec.defers }) p1 rfl
                ⟨_, rfl, rfl, rfl, rfl, rfl, rfl, ⟨ht.size, fun k => (ht.at_ k).mono g1.le⟩, q, g1.le _ _ k7, k8⟩
              refine ⟨_, _, _, _, _, _, _, _, run_enterLoop_inner u3 fn0 a.tmps ps assign body, hres _ _, fun _ _ => trivial, hinv _ _, fun h => (by cases h), ?_⟩
              have hs := xrange_sound (B := B) (w0 := w0) hcall h (p := p1) (Sg.ext_same _ _ _) ((vf.mono g1.le).append (VRL.cons (.yield hp.nx p1 (Sg.ext_same _ _ _)) (VRL.nil _)) |>.append (vc.mono g1.le)) h2
                (a := { a with defers := [] ++ a.defers }) (ht.mono g1.le) (hd.mono g1.le) (some pj'.blk) (0 - 1)
              refine hs.mono fun e' w' he => ?_
              cases e' with
              | returned v =>
                obtain ⟨jump, w4, k1, k2⟩ := he
                refine ⟨jump, w4, k1, ?_⟩
                cases jump with
                | none => exact PostC.le g1 k2
                | some c => exact wpIn_mono k2 fun e a w hq => PostC.le g1 hq
              | panicked chain => exact PostC.le g1 he
              | outgrown => obtain ⟨a0, w5, hq⟩ := he; exact ⟨a0, w5, PostC.le g1 hq⟩
            · cases h
    · cases h
  · cases h

theorem xdefer_sound {σ : Sg} {nt : Nat} {tm : T Value} {c : Call} {d : Df} (h : xdefer tm c = some d) {a : Act} (ht : TR σ nt tm a.tmps) (ty : TypeId) (w : World) :
    ∃ d', (resolve a.eval c ty).run P w = .ok d' w ∧ DfR σ d d' := by
  obtain ⟨callee, cargs, cats⟩ := c
  unfold xdefer at h
  cases callee with
  | builtin b => cases h
  | invoke r m => cases h
  | value f =>
    simp only at h
    split at h
    · rename_i g first captured hf
      have hfv := xeval_VR ht hf
      generalize hfe : a.eval f = fe at hfv
      cases hfv with
      | func _ _ ys _ cs q1 q2 q3 q4 =>
      split at h
      · rename_i args hargs
        simp only [Option.some.injEq] at h
        subst h
        have vf : VRL σ first.toList ys.toList := ⟨by simpa using q1, fun i x y h1 h2 => q2 i x y (by simpa using h1) (by simpa using h2)⟩
        have vc : VRL σ captured.toList cs.toList := ⟨by simpa using q3, fun i x y h1 h2 => q4 i x y (by simpa using h1) (by simpa using h2)⟩
        have va := xevs_ER (fun y _ v hv => xeval_VR ht hv) hargs
        refine ⟨{ target := .fn (.func g) cs, args := ys ++ cargs.map a.eval }, ?_, cs, rfl, ?_, vc⟩
        · simp only [resolve, hfe, Deferred.ofValue]
          rfl
        · have : (ys ++ cargs.map a.eval).toList = ys.toList ++ cargs.toList.map a.eval := by simp
          rw [this]
          exact vf.append va
      · cases h
    · cases h

theorem xopsD_sound (hcall : CallOK P call) {nt : Nat} (ops : Array Oper) : ∀ (l : List Oper) (k : Nat) (tm : T Value) (hp : Hp) (ds : List Df) (tm' : T Value) (hp' : Hp) (ds' : List Df) (σ : Sg) (a : Act) (w : World),
    (∀ j, l[j]? = ops[k + j]?) → xopsD P call nt ops.toList l tm hp ds = some (tm', hp', ds') → TR σ nt tm a.tmps → HR B w0 σ hp w → DsR σ ds a.defers →
    wpOpsIn (RF none) 0 P ops (PostC hp.nx B w0 σ nt .normal tm' hp' ds') (List.range' k l.length) a w := by
  intro l
  induction l with
  | nil =>
    intro k tm hp ds tm' hp' ds' σ a w _ h ht hw hd
    simp only [xopsD, Option.some.injEq, Prod.mk.injEq] at h
    obtain ⟨rfl, rfl, rfl⟩ := h
    exact ⟨rfl, σ, Sg.gr_refl _ σ, hd, ht, hw⟩
  | cons o l ih =>
    intro k tm hp ds tm' hp' ds' σ a w hl h ht hw hd
    have ho : ops[k]? = some o := by simpa using (hl 0).symm
    have hl' : ∀ j, l[j]? = ops[k + 1 + j]? := fun j => by have := hl (j + 1); simpa [Nat.add_assoc, Nat.add_comm 1 j] using this
    simp only [xopsD] at h
    simp only [List.length_cons, List.range'_succ, wpOpsIn, ho]
    cases hdst : dstOK nt o.dst with
    | false => rw [hdst] at h; cases h
    | true =>
      rw [hdst, cond_true] at h
      rw [xwanted_eq ht ops o]
      cases hwt : xwanted ops.toList tm o with
      | true =>
        rw [hwt, cond_true] at h
        rw [if_pos rfl]
        split at h
        · rename_i c hc
          split at h
          · rename_i d hdf
            obtain ⟨d', h1, h2⟩ := xdefer_sound (P := P) hdf ht o.type w
            have hop : o.op = .defer c := by
              unfold callOf at hc
              split at hc
              · rename_i c' hc'; rw [hc']; cases hc; rfl
              · cases hc
            refine ⟨fun _ _ => trivial, ?_⟩
            have hrun : (o.semAt (RF none).round a.eval).run P w = .ok (.defer d') w := by
              show (o.semAt none a.eval).run P w = _
              rw [Oper.semAt_none]
              unfold execOp
              rw [hop]
              simp only [Sem.run_bind, h1, Result.andThen_ok, Sem.run_pure]
            rw [hrun, Oper.uponIn_defer]
            exact ih (k + 1) _ hp (d :: ds) tm' hp' ds' σ _ w hl' h (TR.putO (a := { a with defers := d' :: a.defers }) ht hdst (VR.undef σ)) hw (by rw [put_defers]; exact ⟨h2, hd⟩)
          · cases h
        · split at h
          · rename_i v hp1 hx
            refine xop_sound hcall hx (ht.ER _) hw _ _ (fun σ' u w' hle hv hw' => ?_) none
            have ih' := ih (k + 1) _ hp1 ds tm' hp' ds' σ' (a.put o.dst u) w' hl' h ((ht.mono hle.le).putO hdst hv) hw' (by rw [put_defers]; exact hd.mono hle.le)
            exact wpOpsIn_mono' (fun e a' w' hq => PostC.le hle hq) _ ih'
          · cases h
      | false =>
        rw [hwt, cond_false] at h
        rw [if_neg (by simp)]
        exact ⟨fun _ _ => trivial, ih (k + 1) _ hp ds tm' hp' ds' σ _ w hl' h (ht.putO hdst (VR.undef σ)) hw (by rw [put_defers]; exact hd)⟩

theorem xregD_sound (hcall : CallOK P call) {nt : Nat} {ar : Option Nat} {ops : Array Oper} {draw : Bool} {id : Nat} {tm : T Value} {hp : Hp} {ds : List Df} {e : Exit} {tm' : T Value} {hp' : Hp} {ds' : List Df}
    (h : xregD P call nt ar ops.toList draw tm hp ds = some (.mk e tm' hp' ds')) {σ : Sg} {a : Act} {w : World} {r : Option Nat} (ht : TR σ nt tm a.tmps) (hw : HR B w0 σ hp w) (hd : DsR σ ds a.defers) (har : ArR σ ar r) :
    (Code.region id ops draw).wpIn (RF r) 0 P (PostC hp.nx B w0 σ nt e tm' hp' ds') a w := by
  cases ar with
  | some j => cases h
  | none =>
    cases r with
    | some b => exact har.elim
    | none =>
      cases draw with
      | true => cases h
      | false =>
        simp only [xregD, cond_false] at h
        split at h
        · rename_i tm1 hp1 ds1 hx
          simp only [Option.some.injEq, XR.mk.injEq] at h
          obtain ⟨rfl, rfl, rfl, rfl⟩ := h
          refine wpIn_region ?_
          have := xopsD_sound (B := B) (w0 := w0) hcall ops ops.toList 0 tm hp ds _ _ _ σ a w (by simp) hx ht hw hd
          rw [List.range_eq_range']
          simpa using this
        · cases h

theorem xcode_sound (hcall : CallOK P call) (hdr : DrawOK P dr) {nt : Nat} {ar : Option Nat} : ∀ (m : Nat),
    (∀ (c : Code) (tm : T Value) (hp : Hp) (ds : List Df) (e : Exit) (tm' : T Value) (hp' : Hp) (ds' : List Df) (σ : Sg) (a : Act) (w : World) (r : Option Nat), xcode P dr call nt ar m c tm hp ds = some (.mk e tm' hp' ds') → TR σ nt tm a.tmps → HR B w0 σ hp w → DsR σ ds a.defers → ArR σ ar r →
      c.wpIn (RF r) 0 P (PostC hp.nx B w0 σ nt e tm' hp' ds') a w) ∧
    (∀ (c : Code) (tm : T Value) (hp : Hp) (ds : List Df) (e : Exit) (tm' : T Value) (hp' : Hp) (ds' : List Df) (σ : Sg) (a : Act) (w : World) (r : Option Nat), xcode P dr call nt ar m (.loop c) tm hp ds = some (.mk e tm' hp' ds') → TR σ nt tm a.tmps → HR B w0 σ hp w → DsR σ ds a.defers → ArR σ ar r →
      Code.roundsIn (RF r) 0 P c (PostC hp.nx B w0 σ nt e tm' hp' ds') m a w) := by
  intro m
  induction m with
  | zero => exact ⟨fun c tm hp ds e tm' hp' ds' σ a w r h => (by simp [xcode] at h), fun c tm hp ds e tm' hp' ds' σ a w r h => (by simp [xcode] at h)⟩
  | succ m ih =>
    obtain ⟨ih1, ih2⟩ := ih
    have hloop : ∀ (c : Code) (tm : T Value) (hp : Hp) (ds : List Df) (e : Exit) (tm' : T Value) (hp' : Hp) (ds' : List Df) (σ : Sg) (a : Act) (w : World) (r : Option Nat), xcode P dr call nt ar (m + 1) (.loop c) tm hp ds = some (.mk e tm' hp' ds') → TR σ nt tm a.tmps → HR B w0 σ hp w → DsR σ ds a.defers → ArR σ ar r →
        Code.roundsIn (RF r) 0 P c (PostC hp.nx B w0 σ nt e tm' hp' ds') (m + 1) a w := by
      intro c tm hp ds e tm' hp' ds' σ a w r h ht hw hd har
      simp only [xcode] at h
      rw [roundsIn_succ]
      cases hb : xcode P dr call nt ar m c tm hp ds with
      | none => simp only [hb, reduceCtorEq] at h
      | some rr =>
        obtain ⟨e1, tm1, hp1, ds1⟩ := rr
        refine wpIn_mono (ih1 c tm hp ds e1 tm1 hp1 ds1 σ a w r hb ht hw hd har) fun e' a' w' hq => ?_
        obtain ⟨rfl, σ', hle, hd', ht', hw'⟩ := hq
        cases e' with
        | normal =>
          simp only [hb] at h
          exact roundsIn_mono (fun e a w hq => PostC.le hle hq) (ih2 c tm1 hp1 ds1 e tm' hp' ds' σ' a' w' r h ht' hw' hd' (har.mono hle.le))
        | exit id => simp only [hb, Option.some.injEq, XR.mk.injEq] at h; obtain ⟨rfl, rfl, rfl, rfl⟩ := h; exact ⟨rfl, σ', hle, hd', ht', hw'⟩
        | goto id => simp only [hb, Option.some.injEq, XR.mk.injEq] at h; obtain ⟨rfl, rfl, rfl, rfl⟩ := h; exact ⟨rfl, σ', hle, hd', ht', hw'⟩
        | ret => simp only [hb, Option.some.injEq, XR.mk.injEq] at h; obtain ⟨rfl, rfl, rfl, rfl⟩ := h; exact ⟨rfl, σ', hle, hd', ht', hw'⟩
        | panic ch => simp only [hb, Option.some.injEq, XR.mk.injEq] at h; obtain ⟨rfl, rfl, rfl, rfl⟩ := h; exact ⟨rfl, σ', hle, hd', ht', hw'⟩
        | outgrown => simp only [hb, Option.some.injEq, XR.mk.injEq] at h; obtain ⟨rfl, rfl, rfl, rfl⟩ := h; exact ⟨rfl, σ', hle, hd', ht', hw'⟩
    refine ⟨?_, hloop⟩
    intro c tm hp ds e tm' hp' ds' σ a w r h ht hw hd har
    cases c with
    | skip =>
      simp only [xcode, Option.some.injEq, XR.mk.injEq] at h
      obtain ⟨rfl, rfl, rfl, rfl⟩ := h
      exact wpIn_skip ⟨rfl, σ, Sg.gr_refl _ σ, hd, ht, hw⟩
    | label l =>
      simp only [xcode, Option.some.injEq, XR.mk.injEq] at h
      obtain ⟨rfl, rfl, rfl, rfl⟩ := h
      exact wpIn_label ⟨rfl, σ, Sg.gr_refl _ σ, hd, ht, hw⟩
    | exit id =>
      simp only [xcode, Option.some.injEq, XR.mk.injEq] at h
      obtain ⟨rfl, rfl, rfl, rfl⟩ := h
      exact wpIn_exit ⟨rfl, σ, Sg.gr_refl _ σ, hd, ht, hw⟩
    | ret =>
      simp only [xcode, Option.some.injEq, XR.mk.injEq] at h
      obtain ⟨rfl, rfl, rfl, rfl⟩ := h
      exact wpIn_ret ⟨rfl, σ, Sg.gr_refl _ σ, hd, ht, hw⟩
    | region id ops draw =>
      simp only [xcode] at h
      cases draw with
      | true =>
        simp only [cond_true] at h
        split at h
        · rename_i tm1 hp1 hr
          simp only [Option.some.injEq, XR.mk.injEq] at h
          obtain ⟨rfl, rfl, rfl, rfl⟩ := h
          exact wpIn_mono (hdr call hcall nt ops id tm hp _ _ hr B w0 σ a w ht hw r) fun e' a' w' hq => by
            obtain ⟨h1, h2, σ', h3, h4, h5⟩ := hq
            exact ⟨h1, σ', h3, by rw [h2]; exact hd.mono h3.le, h4, h5⟩
        · exact xregD_sound hcall h ht hw hd har
      | false =>
        simp only [cond_false] at h
        split at h
        · rename_i tm1 hp1 hr
          simp only [Option.some.injEq, XR.mk.injEq] at h
          obtain ⟨rfl, rfl, rfl, rfl⟩ := h
          refine wpIn_mono (Q := Post hp.nx B w0 σ nt .normal tm1 hp1 a.defers) (wpIn_region ?_) fun e' a' w' hq => by
            obtain ⟨h1, h2, σ', h3, h4, h5⟩ := hq
            exact ⟨h1, σ', h3, by rw [h2]; exact hd.mono h3.le, h4, h5⟩
          have := xops_sound (B := B) (w0 := w0) hcall ops r ops.toList 0 tm hp _ _ σ a w (by simp) hr ht hw a.defers rfl
          rw [List.range_eq_range']
          simpa using this
        · exact xregD_sound hcall h ht hw hd har
    | seq x y =>
      simp only [xcode] at h
      cases hb : xcode P dr call nt ar m x tm hp ds with
      | none => simp only [hb, reduceCtorEq] at h
      | some rr =>
        obtain ⟨e1, tm1, hp1, ds1⟩ := rr
        refine wpIn_seq (wpIn_mono (ih1 x tm hp ds e1 tm1 hp1 ds1 σ a w r hb ht hw hd har) fun e' a' w' hq => ?_)
        obtain ⟨rfl, σ', hle, hd', ht', hw'⟩ := hq
        cases e' with
        | normal =>
          simp only [hb] at h
          exact wpIn_mono (ih1 y tm1 hp1 ds1 e tm' hp' ds' σ' a' w' r h ht' hw' hd' (har.mono hle.le)) (fun e a w hq => PostC.le hle hq)
        | exit id => simp only [hb, Option.some.injEq, XR.mk.injEq] at h; obtain ⟨rfl, rfl, rfl, rfl⟩ := h; exact ⟨rfl, σ', hle, hd', ht', hw'⟩
        | goto id => simp only [hb, Option.some.injEq, XR.mk.injEq] at h; obtain ⟨rfl, rfl, rfl, rfl⟩ := h; exact ⟨rfl, σ', hle, hd', ht', hw'⟩
        | ret => simp only [hb, Option.some.injEq, XR.mk.injEq] at h; obtain ⟨rfl, rfl, rfl, rfl⟩ := h; exact ⟨rfl, σ', hle, hd', ht', hw'⟩
        | panic ch => simp only [hb, Option.some.injEq, XR.mk.injEq] at h; obtain ⟨rfl, rfl, rfl, rfl⟩ := h; exact ⟨rfl, σ', hle, hd', ht', hw'⟩
        | outgrown => simp only [hb, Option.some.injEq, XR.mk.injEq] at h; obtain ⟨rfl, rfl, rfl, rfl⟩ := h; exact ⟨rfl, σ', hle, hd', ht', hw'⟩
    | cond c x y =>
      simp only [xcode] at h
      split at h
      · rename_i hc
        have hcv := xeval_VR ht hc
        generalize hce : a.eval c = cv at hcv
        cases hcv
        exact wpIn_cond_true hce (ih1 x tm hp ds e tm' hp' ds' σ a w r h ht hw hd har)
      · rename_i hc
        have hcv := xeval_VR ht hc
        generalize hce : a.eval c = cv at hcv
        cases hcv
        exact wpIn_cond_false hce (ih1 y tm hp ds e tm' hp' ds' σ a w r h ht hw hd har)
      · cases h
    | block id b =>
      simp only [xcode] at h
      cases hb : xcode P dr call nt ar m b tm hp ds with
      | none => simp only [hb, reduceCtorEq] at h
      | some rr =>
        obtain ⟨e1, tm1, hp1, ds1⟩ := rr
        refine wpIn_block (wpIn_mono (ih1 b tm hp ds e1 tm1 hp1 ds1 σ a w r hb ht hw hd har) fun e' a' w' hq => ?_)
        obtain ⟨rfl, σ', hle, hd', ht', hw'⟩ := hq
        cases e' with
        | normal => simp only [hb, Option.some.injEq, XR.mk.injEq] at h; obtain ⟨rfl, rfl, rfl, rfl⟩ := h; exact ⟨rfl, σ', hle, hd', ht', hw'⟩
        | exit j =>
          simp only [hb] at h
          by_cases hj : j = id
          · subst hj
            rw [beq_t rfl, cond_true] at h
            simp only [Option.some.injEq, XR.mk.injEq] at h
            obtain ⟨rfl, rfl, rfl, rfl⟩ := h
            simp only [Exit.inBlock, if_true]
            exact ⟨rfl, σ', hle, hd', ht', hw'⟩
          · rw [beq_f hj, cond_false] at h
            simp only [Option.some.injEq, XR.mk.injEq] at h
            obtain ⟨rfl, rfl, rfl, rfl⟩ := h
            simp only [Exit.inBlock, hj, if_false]
            exact ⟨rfl, σ', hle, hd', ht', hw'⟩
        | goto id => simp only [hb, Option.some.injEq, XR.mk.injEq] at h; obtain ⟨rfl, rfl, rfl, rfl⟩ := h; exact ⟨rfl, σ', hle, hd', ht', hw'⟩
        | ret => simp only [hb, Option.some.injEq, XR.mk.injEq] at h; obtain ⟨rfl, rfl, rfl, rfl⟩ := h; exact ⟨rfl, σ', hle, hd', ht', hw'⟩
        | panic ch => simp only [hb, Option.some.injEq, XR.mk.injEq] at h; obtain ⟨rfl, rfl, rfl, rfl⟩ := h; exact ⟨rfl, σ', hle, hd', ht', hw'⟩
        | outgrown => simp only [hb, Option.some.injEq, XR.mk.injEq] at h; obtain ⟨rfl, rfl, rfl, rfl⟩ := h; exact ⟨rfl, σ', hle, hd', ht', hw'⟩
    | loop b => exact wpIn_loop_rounds (m + 1) (hloop b tm hp ds e tm' hp' ds' σ a w r h ht hw hd har)
    | rangeFunc f ps x y => exact xrangeFunc_sound hcall (by simpa only [xcode] using h) ht hw hd har
    | scope b =>
      simp only [xcode] at h
      cases hb : xcode P dr call nt ar m b tm hp ds with
      | none => simp only [hb, reduceCtorEq] at h
      | some rr =>
        obtain ⟨e1, tm1, hp1, ds1⟩ := rr
        refine wpIn_scope_straight (wpIn_mono (ih1 b tm hp ds e1 tm1 hp1 ds1 σ a w r hb ht hw hd har) fun e' a' w' hq => ?_)
        obtain ⟨rfl, σ', hle, hd', ht', hw'⟩ := hq
        cases e' with
        | normal => simp only [hb, Option.some.injEq, XR.mk.injEq] at h; obtain ⟨rfl, rfl, rfl, rfl⟩ := h; exact ⟨rfl, σ', hle, hd', ht', hw'⟩
        | exit id => simp only [hb, Option.some.injEq, XR.mk.injEq] at h; obtain ⟨rfl, rfl, rfl, rfl⟩ := h; exact ⟨rfl, σ', hle, hd', ht', hw'⟩
        | goto id => simp only [hb, reduceCtorEq] at h
        | ret => simp only [hb, Option.some.injEq, XR.mk.injEq] at h; obtain ⟨rfl, rfl, rfl, rfl⟩ := h; exact ⟨rfl, σ', hle, hd', ht', hw'⟩
        | panic ch => simp only [hb, reduceCtorEq] at h
        | outgrown => simp only [hb, reduceCtorEq] at h
    | goto l => simp only [xcode, reduceCtorEq] at h
    | refuse s => simp only [xcode, reduceCtorEq] at h
end

/-! ## Calls -/

def xresult (P : Program) (tm : T Value) (hp : Hp) : ResultVar → Option Value
  | .tmp t => some ((tm.get t).getD undef)
  | .cell a t => xload P hp t ((tm.get a).getD undef)

def xresults (P : Program) (tm : T Value) (hp : Hp) : List ResultVar → Option (List Value)
  | [] => some []
  | r :: rs => match xresult P tm hp r with
    | some v => match xresults P tm hp rs with
      | some vs => some (v :: vs)
      | none => none
    | none => none

def xpack : List Value → Value
  | [v] => v
  | vs => .tuple vs.toArray

section
variable {P : Program} {B : Nat → Prop} {w0 : World}

theorem xload_var {σ : Sg} {hp : Hp} {w : World} {t : TypeId} {a a' v : Value} (h : xload P hp t a = some v) (ha : VR σ a a') (hw : HR B w0 σ hp w) :
    ∃ u, VR σ v u ∧ (do loadVar t (← asAddr a') : Sem Value).run P w = .ok u w := by
  obtain ⟨u, h1, h2⟩ := xload_sound h ha hw
  refine ⟨u, h1, ?_⟩
  rw [← h2]
  cases ha <;> first | rfl | (simp [xload] at h)

def resOf (tmps : Array Value) : ResultVar → Sem Value
  | .tmp t => pure (tmps.getD t undef)
  | .cell a t => do loadVar t (← asAddr (tmps.getD a undef))

theorem xresults_sound {σ : Sg} {hp : Hp} {w : World} {nt : Nat} {tm : T Value} {tmps : Array Value} (ht : TR σ nt tm tmps) (hw : HR B w0 σ hp w) :
    ∀ {rs : List ResultVar} {vs : List Value}, xresults P tm hp rs = some vs →
    ∃ us, VRL σ vs us ∧ (rs.mapM (resOf tmps) : Sem (List Value)).run P w = .ok us w
  | [], vs, h => by simp only [xresults, Option.some.injEq] at h; subst h; exact ⟨[], VRL.nil σ, by simp⟩
  | r :: rs, vs, h => by
    simp only [xresults] at h
    cases hr : xresult P tm hp r with
    | none => simp [hr] at h
    | some v =>
      cases hrs : xresults P tm hp rs with
      | none => simp [hr, hrs] at h
      | some vs' =>
        simp only [hr, hrs, Option.some.injEq] at h
        subst h
        obtain ⟨us, h1, h2⟩ := xresults_sound ht hw hrs
        cases r with
        | tmp t =>
          simp only [xresult, Option.some.injEq] at hr
          subst hr
          refine ⟨_ :: us, VRL.cons (ht.at_ t) h1, ?_⟩
          rw [List.mapM_cons]
          simp only [resOf, Sem.run_bind, Sem.run_pure, Result.andThen_ok, h2]
        | cell a t =>
          simp only [xresult] at hr
          obtain ⟨u, h3, h4⟩ := xload_var hr (ht.at_ a) hw
          refine ⟨u :: us, VRL.cons h3 h1, ?_⟩
          rw [List.mapM_cons, Sem.run_bind]
          have h4' : (resOf tmps (.cell a t)).run P w = .ok u w := h4
          rw [h4']
          simp only [Result.andThen_ok, Sem.run_bind, h2, Sem.run_pure]

theorem TR.start {σ : Sg} {args args' : List Value} (h : VRL σ args args') (n : Nat) :
    TR σ (args.length + (n - args.length)) (fill .e 0 args) (args'.toArray ++ Array.replicate (n - args'.toArray.size) undef) := by
  have hl := h.1
  refine ⟨by simp [hl], fun k => ?_⟩
  rw [get_fill]
  by_cases hk : k < args.length
  · rw [if_pos (by omega)]
    have hk' : k < args'.length := by omega
    have e1 : args[k - 0]? = some args[k] := by simp [hk]
    have e2 : (args'.toArray ++ Array.replicate (n - args'.toArray.size) undef).getD k undef = args'[k] := by
      simp [Array.getElem?_append, hk']
    rw [e1, e2]
    exact h.2 k _ _ (by simp [hk]) (by simp [hk'])
  · rw [if_neg (by omega)]
    have e2 : (args'.toArray ++ Array.replicate (n - args'.toArray.size) undef).getD k undef = undef := by
      have hk' : ¬ k < args'.length := by omega
      simp only [Array.getD_eq_getD_getElem?, Array.getElem?_append, List.size_toArray, hk', if_false, Array.getElem?_replicate]
      split <;> rfl
    rw [e2]
    rw [T.get_e]
    exact VR.undef σ

end
end Go.Xe
