/- The executor, part 10: one operation.
  Conditions: none. -/
import Derived.Test.YtbdbkggaadbhoaaGreatXeC
import Derived.RangeFuncRecord
noncomputable section
namespace Go.Xe
open Go.RowKit

def xparts (tm : T Value) : List (Nat × Operand) → Option (List (Nat × Value))
  | [] => some []
  | (i, x) :: xs => match xeval tm x with
    | some v => match xparts tm xs with
      | some vs => some ((i, v) :: vs)
      | none => none
    | none => none

theorem xparts_PVR {σ : Sg} {tm : T Value} {a : Act} : ∀ {xs : List (Nat × Operand)} {vs : List (Nat × Value)}, (∀ p ∈ xs, ∀ v, xeval tm p.2 = some v → VR σ v (a.eval p.2)) → xparts tm xs = some vs →
    PVR σ vs (xs.map fun p => (p.1, a.eval p.2))
  | [], vs, _, hx => by simp [xparts] at hx; subst hx; exact ⟨rfl, fun i x y h _ => by simp at h⟩
  | (i, x) :: xs, vs, h, hx => by
    simp only [xparts] at hx
    cases hv : xeval tm x with
    | none => simp [hv] at hx
    | some v =>
      cases hr : xparts tm xs with
      | none => simp [hv, hr] at hx
      | some r =>
        simp [hv, hr] at hx; subst hx
        have ih := xparts_PVR (fun p hp => h p (by simp [hp])) hr
        refine ⟨by simp [ih.1], fun j p q hp hq => ?_⟩
        cases j with
        | zero => simp at hp hq; subst hp; subst hq; exact ⟨rfl, h (i, x) (by simp) _ hv⟩
        | succ j => simp only [List.getElem?_cons_succ, List.map_cons] at hp hq; exact ih.2 j p q hp hq

/-- An operand that may be absent. -/
def xopt (tm : T Value) : Option Operand → Option (Option Value)
  | none => some none
  | some x => match xeval tm x with
    | some v => some (some v)
    | none => none

theorem xopt_OVR {σ : Sg} {tm : T Value} {a : Act} {x : Option Operand} (h : ∀ y, x = some y → ∀ v, xeval tm y = some v → VR σ v (a.eval y)) {v : Option Value} (hx : xopt tm x = some v) : OVR σ v (x.map a.eval) := by
  cases x with
  | none => simp only [xopt, Option.some.injEq] at hx; subst hx; exact trivial
  | some x =>
    simp only [xopt] at hx
    cases hv : xeval tm x with
    | none => simp [hv] at hx
    | some u => simp only [hv, Option.some.injEq] at hx; subst hx; exact h x rfl _ hv

theorem xevs_ER {σ : Sg} {tm : T Value} {a : Act} : ∀ {xs : List Operand} {vs : List Value}, (∀ x ∈ xs, ∀ v, xeval tm x = some v → VR σ v (a.eval x)) → xevs tm xs = some vs → VRL σ vs (xs.map a.eval)
  | [], vs, _, hx => by simp [xevs] at hx; subst hx; exact VRL.nil σ
  | x :: xs, vs, h, hx => by
    simp only [xevs] at hx
    cases hv : xeval tm x with
    | none => simp [hv] at hx
    | some v =>
      cases hr : xevs tm xs with
      | none => simp [hv, hr] at hx
      | some r => simp [hv, hr] at hx; subst hx; exact VRL.cons (h x (by simp) _ hv) (xevs_ER (fun y hy => h y (by simp [hy])) hr)

def withHp (hp : Hp) : Option Value → Option (Value × Hp)
  | some v => some (v, hp)
  | none => none
theorem withHp_some {hp hp' : Hp} {x : Option Value} {v : Value} (h : withHp hp x = some (v, hp')) : x = some v ∧ hp' = hp := by
  cases x with
  | none => cases h
  | some u => simp only [withHp, Option.some.injEq, Prod.mk.injEq] at h; exact ⟨by rw [h.1], h.2.symm⟩

/-- How calls are run: the function's run; and which functions are the library's 'slices.overlaps', at which type. -/
structure Caller where
  run : FuncId → List Value → Hp → Option (Value × Hp)
  ov : FuncId → Option TypeId
  round : Nat → List Value → Hp → Option (Value × Hp)

def okFn (fn : Func) : Bool := fn.body.isSome && !(fn.name == "runtime.NumGoroutine")

def xbuiltin (P : Program) (hp : Hp) (b : Builtin) (ats : List TypeId) (args : List Value) : Option (Value × Hp) :=
  match b, ats, args with
  | .append, [t, u], [s, x] => match xappend P hp t u s x with
    | some r => some r
    | none => xappendZ P hp t u s x
  | .clear, [t], [x] => xclear P hp t x
  | .copy, [t, _], [d, x] => xcopy P hp t d x
  | .len, [t], [x] => withHp hp (xlenM hp P t x)
  | .cap, [t], [x] => withHp hp (xcap P t x)
  | .min, _, x :: xs => withHp hp (xminI false x xs)
  | .max, _, x :: xs => withHp hp (xminI true x xs)
  | _, _, _ => none

def xcall (P : Program) (call : Caller) (hp : Hp) (f : Value) (args : List Value) : Option (Value × Hp) :=
  match f with
  | .func (.func g) first captured => match P.funcs[g]? with
    | some fn => bif okFn fn then call.run g (first.toList ++ args ++ captured.toList) hp else
        match call.ov g with
        | some t => xover P hp t (first.toList ++ args ++ captured.toList)
        | none => none
    | none => none
  | .chan (some i) => call.round i args hp
  | _ => none

/-- An operation that lays a new block. -/
def xnw (P : Program) (tm : T Value) (o : Op) : Option Nw :=
  match o with
  | .alloc e => xallocN P e
  | .box e x => match xeval tm x with
    | some v => some (xboxN e v)
    | none => none
  | .buildSlice t len parts => match xparts tm parts.toList with
    | some ps => xbsN P t len ps
    | none => none
  | .makeSlice t l c => match xeval tm l with
    | some v => match xeval tm c with
      | some u => xmsN P t v u
      | none => none
    | none => none
  | .makeMap t r => match xopt tm r with
    | some v => match P.underlying t with
      | some (.map _ _) => xmapN v
      | _ => none
    | none => none
  | .range t x => match xeval tm x with
    | some v => xrangeN P t v
    | none => none
  | _ => none

def addHp (hp : Hp) : Option Nw → Option (Value × Hp)
  | some n => some (hp.add n)
  | none => none

def oPick (tm : T Value) (hp : Hp) (c : Operand) (a : Operand) (b : Operand) : Option (Value × Hp) :=
  match xeval tm c with
    | some (.bool t) => bif t then withHp hp (xeval tm a) else withHp hp (xeval tm b)
    | _ => none

def oNext (tm : T Value) (hp : Hp) (it : Operand) (isS : Bool) : Option (Value × Hp) :=
  match xeval tm it with
    | some v => xnext hp v isS
    | none => none

def oLookup (P : Program) (tm : T Value) (hp : Hp) (t : TypeId) (x : Operand) (k : Operand) (ok : Bool) : Option (Value × Hp) :=
  match xeval tm x with
    | some v => match xeval tm k with
      | some u => withHp hp (xlookup P hp t v u ok)
      | none => none
    | none => none

def oMapUpdate (P : Program) (tm : T Value) (hp : Hp) (t : TypeId) (m : Operand) (k : Operand) (x : Operand) : Option (Value × Hp) :=
  match xeval tm m with
    | some mv => match xeval tm k with
      | some kv => match xeval tm x with
        | some xv => match xmapSet P hp t mv kv xv with
          | some hp' => some (undef, hp')
          | none => none
        | none => none
      | none => none
    | none => none

def oMapEntry (P : Program) (tm : T Value) (hp : Hp) (t : TypeId) (m : Operand) (k : Operand) : Option (Value × Hp) :=
  match xeval tm m with
    | some mv => match xeval tm k with
      | some kv => xmapEntry P hp t mv kv
      | none => none
    | none => none

def oEntryStore (tm : T Value) (hp : Hp) (m : Operand) (s : Operand) (x : Operand) : Option (Value × Hp) :=
  match xeval tm m with
    | some mv => match xeval tm s with
      | some sv => match xeval tm x with
        | some xv => match xentryStore hp mv sv xv with
          | some hp' => some (undef, hp')
          | none => none
        | none => none
      | none => none
    | none => none

def oBuild (P : Program) (tm : T Value) (hp : Hp) (t : TypeId) (parts : Array (Nat × Operand)) : Option (Value × Hp) :=
  match xparts tm parts.toList with
    | some ps => withHp hp (xbuild P t ps)
    | none => none

def oLoad (P : Program) (tm : T Value) (hp : Hp) (t : TypeId) (a : Operand) : Option (Value × Hp) :=
  match xeval tm a with
    | some v => withHp hp (xload P hp t v)
    | none => none

def oStore (P : Program) (tm : T Value) (hp : Hp) (t : TypeId) (a : Operand) (x : Operand) : Option (Value × Hp) :=
  match xeval tm a with
    | some v => match xeval tm x with
      | some u => match xstore P hp t v u with
        | some hp' => some (undef, hp')
        | none => none
      | none => none
    | none => none

def oNilCheck (tm : T Value) (hp : Hp) (x : Operand) : Option (Value × Hp) :=
  match xeval tm x with
    | some (.pointer (some p)) => some (.pointer (some p), hp)
    | some (.func (.func f) a b) => some (.func (.func f) a b, hp)
    | _ => none

def oBinOp (P : Program) (tm : T Value) (hp : Hp) (op : BinOp) (t : TypeId) (x : Operand) (y : Operand) : Option (Value × Hp) :=
  match xeval tm x with
    | some v => match xeval tm y with
      | some u => withHp hp (xbin2 P op t v u)
      | none => none
    | none => none

def oUnOp (tm : T Value) (hp : Hp) (op : UnOp) (x : Operand) : Option (Value × Hp) :=
  match xeval tm x with
    | some v => withHp hp (xun op v)
    | none => none

def oConvert (P : Program) (tm : T Value) (hp : Hp) (s : TypeId) (d : TypeId) (x : Operand) : Option (Value × Hp) :=
  match xeval tm x with
    | some v => withHp hp (xconv P s d v)
    | none => none

def oMakeInterface (P : Program) (tm : T Value) (hp : Hp) (t : TypeId) (x : Operand) : Option (Value × Hp) :=
  match xeval tm x with
    | some v => withHp hp (xiface P t v)
    | none => none

def oMakeFunc (tm : T Value) (hp : Hp) (fn : Fn) (first : Array Operand) (captured : Array Operand) : Option (Value × Hp) :=
  match xevs tm first.toList with
    | some fs => match xevs tm captured.toList with
      | some cs => some (.func fn fs.toArray cs.toArray, hp)
      | none => none
    | none => none

def oSlice (P : Program) (tm : T Value) (hp : Hp) (t : TypeId) (x : Operand) (lo : Option Operand) (hi : Option Operand) (mx : Option Operand) : Option (Value × Hp) :=
  match xeval tm x with
    | some v => match xopt tm lo with
      | some l => match xopt tm hi with
        | some h => match xopt tm mx with
          | some m => xslice P hp t v l h m
          | none => none
        | none => none
      | none => none
    | none => none

def oFieldAddr (P : Program) (tm : T Value) (hp : Hp) (t : TypeId) (x : Operand) (f : Nat) : Option (Value × Hp) :=
  match xeval tm x with
    | some v => withHp hp (xfieldAddr P t v f)
    | none => none

def oField (P : Program) (tm : T Value) (hp : Hp) (t : TypeId) (x : Operand) (f : Nat) : Option (Value × Hp) :=
  match xeval tm x with
    | some v => withHp hp (xfield P t v f)
    | none => none

def oIndexAddr (P : Program) (tm : T Value) (hp : Hp) (t : TypeId) (x : Operand) (i : Operand) : Option (Value × Hp) :=
  match xeval tm x with
    | some v => match xeval tm i with
      | some u => withHp hp (xindexAddr P t v u)
      | none => none
    | none => none

def oIndex (P : Program) (tm : T Value) (hp : Hp) (t : TypeId) (x : Operand) (i : Operand) : Option (Value × Hp) :=
  match xeval tm x with
    | some v => match xeval tm i with
      | some u => withHp hp (xindex P t v u)
      | none => none
    | none => none

def oExtract (tm : T Value) (hp : Hp) (x : Operand) (i : Nat) : Option (Value × Hp) :=
  match xeval tm x with
    | some v => withHp hp (xextract v i)
    | none => none

def oCall (P : Program) (call : Caller) (tm : T Value) (hp : Hp) (c : Call) : Option (Value × Hp) :=
  match xevs tm c.args.toList with
    | some args => match c.callee with
      | .builtin b => xbuiltin P hp b c.argTypes.toList args
      | .value f => match xeval tm f with
        | some v => xcall P call hp v args
        | none => none
      | _ => none
    | none => none

/-- By the recursor, over a table that is closed, for the kernel's sake. -/
def xop (P : Program) (call : Caller) (tm : T Value) (hp : Hp) (o : Op) : Option (Value × Hp) :=
  Op.rec (motive := fun _ => Program → Caller → T Value → Hp → Option (Value × Hp))
    (fun x _ _ tm hp => withHp hp (xeval tm x))
    (fun x _ _ tm hp => withHp hp (xeval tm x))
    (fun c a b _ _ tm hp => oPick tm hp c a b)
    (fun e P _ tm hp => addHp hp (xnw P tm (.alloc e)))
    (fun e x P _ tm hp => addHp hp (xnw P tm (.box e x)))
    (fun t parts P _ tm hp => oBuild P tm hp t parts)
    (fun t len parts P _ tm hp => addHp hp (xnw P tm (.buildSlice t len parts)))
    (fun t m k x P _ tm hp => oMapUpdate P tm hp t m k x)
    (fun t a P _ tm hp => oLoad P tm hp t a)
    (fun t a x P _ tm hp => oStore P tm hp t a x)
    (fun _ _ _ _ _ => none)
    (fun _ _ _ _ _ => none)
    (fun x _ _ tm hp => oNilCheck tm hp x)
    (fun op t x y _ P _ tm hp => oBinOp P tm hp op t x y)
    (fun op _ x _ _ tm hp => oUnOp tm hp op x)
    (fun s d x P _ tm hp => oConvert P tm hp s d x)
    (fun _ _ _ _ _ _ => none)
    (fun t x P _ tm hp => oMakeInterface P tm hp t x)
    (fun fn first captured _ _ tm hp => oMakeFunc tm hp fn first captured)
    (fun t r P _ tm hp => addHp hp (xnw P tm (.makeMap t r)))
    (fun _ _ _ _ _ _ => none)
    (fun t l c P _ tm hp => addHp hp (xnw P tm (.makeSlice t l c)))
    (fun t x lo hi mx P _ tm hp => oSlice P tm hp t x lo hi mx)
    (fun t x f P _ tm hp => oFieldAddr P tm hp t x f)
    (fun t x f P _ tm hp => oField P tm hp t x f)
    (fun t x i P _ tm hp => oIndexAddr P tm hp t x i)
    (fun t x i P _ tm hp => oIndex P tm hp t x i)
    (fun t x k ok P _ tm hp => oLookup P tm hp t x k ok)
    (fun t m k x P _ tm hp => oMapUpdate P tm hp t m k x)
    (fun t m k P _ tm hp => oMapEntry P tm hp t m k)
    (fun _ m s x _ _ tm hp => oEntryStore tm hp m s x)
    (fun t x P _ tm hp => addHp hp (xnw P tm (.range t x)))
    (fun it isS _ _ tm hp => oNext tm hp it isS)
    (fun _ _ _ _ _ => none)
    (fun _ _ _ _ _ _ _ _ => none)
    (fun x i _ _ tm hp => oExtract tm hp x i)
    (fun c P call tm hp => oCall P call tm hp c)
    (fun _ _ _ _ _ => none)
    (fun _ _ _ _ _ => none)
    (fun _ _ _ _ _ => none)
    (fun _ _ _ _ _ _ => none)
    (fun _ _ _ _ _ _ _ => none)
    (fun _ _ _ _ _ _ => none)
    o P call tm hp

def xopB (P : Program) (call : Caller) (tm : T Value) (hp : Hp) (o : Op) : Option (Value × Hp) :=
  match o with
  | .move x => withHp hp (xeval tm x)
  | .assign x => withHp hp (xeval tm x)
  | .pick c a b => match xeval tm c with
    | some (.bool t) => bif t then withHp hp (xeval tm a) else withHp hp (xeval tm b)
    | _ => none
  | .alloc e => addHp hp (xnw P tm (.alloc e))
  | .box e x => addHp hp (xnw P tm (.box e x))
  | .makeMap t r => addHp hp (xnw P tm (.makeMap t r))
  | .range t x => addHp hp (xnw P tm (.range t x))
  | .next it isS => match xeval tm it with
    | some v => xnext hp v isS
    | none => none
  | .lookup t x k ok => match xeval tm x with
    | some v => match xeval tm k with
      | some u => withHp hp (xlookup P hp t v u ok)
      | none => none
    | none => none
  | .mapEntry t m k => match xeval tm m with
    | some mv => match xeval tm k with
      | some kv => xmapEntry P hp t mv kv
      | none => none
    | none => none
  | .entryStore _ m s x => match xeval tm m with
    | some mv => match xeval tm s with
      | some sv => match xeval tm x with
        | some xv => match xentryStore hp mv sv xv with
          | some hp' => some (undef, hp')
          | none => none
        | none => none
      | none => none
    | none => none
  | .mapUpdate t m k x => match xeval tm m with
    | some mv => match xeval tm k with
      | some kv => match xeval tm x with
        | some xv => match xmapSet P hp t mv kv xv with
          | some hp' => some (undef, hp')
          | none => none
        | none => none
      | none => none
    | none => none
  | .insert t m k x => match xeval tm m with
    | some mv => match xeval tm k with
      | some kv => match xeval tm x with
        | some xv => match xmapSet P hp t mv kv xv with
          | some hp' => some (undef, hp')
          | none => none
        | none => none
      | none => none
    | none => none
  | .build t parts => match xparts tm parts.toList with
    | some ps => withHp hp (xbuild P t ps)
    | none => none
  | .buildSlice t len parts => addHp hp (xnw P tm (.buildSlice t len parts))
  | .load t a => match xeval tm a with
    | some v => withHp hp (xload P hp t v)
    | none => none
  | .store t a x => match xeval tm a with
    | some v => match xeval tm x with
      | some u => match xstore P hp t v u with
        | some hp' => some (undef, hp')
        | none => none
      | none => none
    | none => none
  | .nilCheck x => match xeval tm x with
    | some (.pointer (some p)) => some (.pointer (some p), hp)
    | some (.func (.func f) a b) => some (.func (.func f) a b, hp)
    | _ => none
  | .binOp op t x y _ => match xeval tm x with
    | some v => match xeval tm y with
      | some u => withHp hp (xbin2 P op t v u)
      | none => none
    | none => none
  | .unOp op _ x => match xeval tm x with
    | some v => withHp hp (xun op v)
    | none => none
  | .convert s d x => match xeval tm x with
    | some v => withHp hp (xconv P s d v)
    | none => none
  | .makeInterface t x => match xeval tm x with
    | some v => withHp hp (xiface P t v)
    | none => none
  | .makeFunc fn first captured => match xevs tm first.toList with
    | some fs => match xevs tm captured.toList with
      | some cs => some (.func fn fs.toArray cs.toArray, hp)
      | none => none
    | none => none
  | .makeSlice t l c => addHp hp (xnw P tm (.makeSlice t l c))
  | .slice t x lo hi mx => match xeval tm x with
    | some v => match xopt tm lo with
      | some l => match xopt tm hi with
        | some h => match xopt tm mx with
          | some m => xslice P hp t v l h m
          | none => none
        | none => none
      | none => none
    | none => none
  | .fieldAddr t x f => match xeval tm x with
    | some v => withHp hp (xfieldAddr P t v f)
    | none => none
  | .field t x f => match xeval tm x with
    | some v => withHp hp (xfield P t v f)
    | none => none
  | .indexAddr t x i => match xeval tm x with
    | some v => match xeval tm i with
      | some u => withHp hp (xindexAddr P t v u)
      | none => none
    | none => none
  | .index t x i => match xeval tm x with
    | some v => match xeval tm i with
      | some u => withHp hp (xindex P t v u)
      | none => none
    | none => none
  | .extract x i => match xeval tm x with
    | some v => withHp hp (xextract v i)
    | none => none
  | .call c => match xevs tm c.args.toList with
    | some args => match c.callee with
      | .builtin b => xbuiltin P hp b c.argTypes.toList args
      | .value f => match xeval tm f with
        | some v => xcall P call hp v args
        | none => none
      | _ => none
    | none => none
  | _ => none

theorem xop_eq (P : Program) (call : Caller) (tm : T Value) (hp : Hp) (o : Op) : xop P call tm hp o = xopB P call tm hp o := by cases o <;> rfl
/- HOOK -/

/-- The fence that lets everything in, in a round of the loop r. -/
def RF (r : Option Nat) : Fence := { Fence.wide with round := r }

theorem wpIn_of_wp {P : Program} {r : Option Nat} {o : Oper} {a : Act} {w : World} {next : Act → World → Prop} {Q : Exit → Act → World → Prop} (nd : ∀ c, o.op ≠ .defer c) (h : o.wp P a w next Q) : o.wpIn (RF r) 0 P a w next Q := by
  have hd : (RF r).depth.isSome = true → 1 ≤ 0 := fun h => by cases h
  refine ⟨fun _ _ => trivial, ?_⟩
  rw [Oper.semAt_eq _ _ _ nd]
  unfold Oper.wp at h
  generalize (execOp a.eval o).run P w = x at h
  cases x with
  | ok n w' =>
    cases n <;> simp only [Oper.upon] at h <;> simp only [Oper.uponIn] <;> first
      | exact h
      | exact ⟨hd, (show CallsIn Fence.wide _ P _ _ _ _ from callsIn_wide.2 h)⟩
      | exact ⟨hd, fun c cs _ => let ⟨v, w', r, s⟩ := h c cs; ⟨v, w', r, (show StepsIn (Machine.fenced P Fence.wide) P _ _ from stepsIn_wide.2 s)⟩⟩
  | halt x w' => cases x <;> simp only [Oper.upon] at h <;> simp only [Oper.uponIn] <;> exact h

structure CallOK (P : Program) (call : Caller) : Prop where
  run : ∀ g args hp v hp', call.run g args hp = some (v, hp') → ∀ B w0 σ w args', VRL σ args args' → HR B w0 σ hp w →
    Calls P g args'.toArray w (fun e w' => ∃ σ' u, e = .returned u ∧ Sg.gr hp.nx hp'.nx σ σ' ∧ VR σ' v u ∧ HR B w0 σ' hp' w')
  ov : ∀ g t, call.ov g = some t → OvOK P g t
  round : ∀ i args hp v hp', call.round i args hp = some (v, hp') → ∀ B w0 σ w args' p, σ i = some p → VRL σ args args' → HR B w0 σ hp w →
    ∃ r, w.heap[p.blk]? = some (.loop r) ∧ args'.length = r.params.size ∧
      RoundIn Fence.wide 0 P p.blk r.fn ((r.params.zip args'.toArray).foldl (fun tmps (t, a) => tmps.setIfInBounds t a) r.tmps) r.assign r.body w (fun e w' => ∃ σ' u, e = .returned u ∧ Sg.gr hp.nx hp'.nx σ σ' ∧ VR σ' v u ∧ HR B w0 σ' hp' w')

section
variable {P : Program} {B : Nat → Prop} {w0 : World} {σ : Sg} {hp : Hp} {w : World}

theorem MOK.of_pure {v u : Value} {s : Sem Value} (h1 : VR σ v u) (h2 : ∀ w, s.run P w = .ok u w) (hw : HR B w0 σ hp w) : MOK hp B w0 σ v hp (s.run P w) :=
  ⟨σ, u, w, h2 w, Sg.gr_refl _ σ, h1, hw⟩

theorem xbuiltin_sound {b : Builtin} {ats : Array TypeId} {args : List Value} {args' : List Value} {v : Value} {hp' : Hp} (h : xbuiltin P hp b ats.toList args = some (v, hp'))
    (ha : VRL σ args args') (hw : HR B w0 σ hp w) (ty : TypeId) (cs : Array Bool) :
    ∃ σ' u w', (builtin b ats ty cs args'.toArray).run P w = .ok (.value u) w' ∧ Sg.gr hp.nx hp'.nx σ σ' ∧ VR σ' v u ∧ HR B w0 σ' hp' w' := by
  have fin : ∀ {s : Sem Value}, MOK hp B w0 σ v hp' (s.run P w) → builtin b ats ty cs args'.toArray = (do pure (.value (← s)) : Sem Next) →
      ∃ σ' u w', (builtin b ats ty cs args'.toArray).run P w = .ok (.value u) w' ∧ Sg.gr hp.nx hp'.nx σ σ' ∧ VR σ' v u ∧ HR B w0 σ' hp' w' := by
    intro s hm he
    obtain ⟨σ', u, w', h1, h2, h3, h4⟩ := hm
    refine ⟨σ', u, w', ?_, h2, h3, h4⟩
    rw [he]
    simp only [Sem.run_bind, h1, Result.andThen_ok, Sem.run_pure]
  unfold xbuiltin at h
  split at h
  · rename_i t u s x hat
    obtain ⟨s', r, rfl, hs, hr⟩ := ha.uncons
    obtain ⟨x', r, rfl, hx, hr⟩ := hr.uncons
    rw [hr.unnil] at *
    have : ats = #[t, u] := by apply Array.ext'; exact hat
    subst this
    split at h
    · rename_i r hr0
      simp only [Option.some.injEq] at h
      subst h
      exact fin (xappend_sound hr0 hs hx hw ty) rfl
    · exact fin (xappendZ_sound h hs hx hw ty) rfl
  · rename_i t x hat
    obtain ⟨x', r, rfl, hx, hr⟩ := ha.uncons
    rw [hr.unnil] at *
    have : ats = #[t] := by apply Array.ext'; exact hat
    subst this
    exact fin (xclear_sound h hx hw ty) rfl
  · rename_i t u d x hat
    obtain ⟨s', r, rfl, hs, hr⟩ := ha.uncons
    obtain ⟨x', r, rfl, hx, hr⟩ := hr.uncons
    rw [hr.unnil] at *
    have : ats = #[t, u] := by apply Array.ext'; exact hat
    subst this
    exact fin (xcopy_sound h hs hx hw ty) rfl
  · rename_i t x hat
    obtain ⟨x', r, rfl, hx, hr⟩ := ha.uncons
    rw [hr.unnil] at *
    obtain ⟨hh0, rfl⟩ := withHp_some h
    have : ats = #[t] := by apply Array.ext'; exact hat
    subst this
    obtain ⟨h1, h2⟩ := xlenM_sound (P := P) hh0 hx hw ty #[t] rfl
    exact fin (s := Builtin.len_ #[t] ty #[x']) ⟨σ, _, w, h2, Sg.gr_refl _ σ, h1, hw⟩ rfl
  · rename_i t x hat
    obtain ⟨x', r, rfl, hx, hr⟩ := ha.uncons
    rw [hr.unnil] at *
    obtain ⟨hh0, rfl⟩ := withHp_some h
    have : ats = #[t] := by apply Array.ext'; exact hat
    subst this
    obtain ⟨u0, h1, h2⟩ := xcap_sound (P := P) hh0 hx ty #[t] rfl
    exact fin (MOK.of_pure h1 h2 hw) rfl
  · rename_i x xs
    obtain ⟨x', r, rfl, hx, hr⟩ := ha.uncons
    obtain ⟨hh0, rfl⟩ := withHp_some h
    obtain ⟨h1, h2⟩ := xmin_sound (P := P) hh0 hx hr
    exact fin (s := Builtin.min_ ats ty (x' :: r).toArray) (MOK.of_pure h1 h2 hw) rfl
  · rename_i x xs
    obtain ⟨x', r, rfl, hx, hr⟩ := ha.uncons
    obtain ⟨hh0, rfl⟩ := withHp_some h
    obtain ⟨h1, h2⟩ := xmax_sound (P := P) hh0 hx hr
    exact fin (s := Builtin.max_ ats ty (x' :: r).toArray) (MOK.of_pure h1 h2 hw) rfl
  · cases h

theorem run_callFunc {g : FuncId} {fn : Func} {args : Array Value} (hf : P.funcs[g]? = some fn) (ho : okFn fn = true) (w : World) :
    (callFunc g args).run P w = .ok (.enter g args) w := by
  simp only [okFn, Bool.and_eq_true, Bool.not_eq_true'] at ho
  have hb : fn.body.isNone = false := by cases h : fn.body <;> simp_all
  simp only [callFunc, Sem.run_bind, run_program, Result.andThen_ok, hf, ho.2, hb, Bool.false_eq_true, if_false, Sem.run_pure]

set_option maxHeartbeats 2000000 in
theorem xnw_sound {tm : T Value} {o : Oper} {n : Nw} (h : xnw P tm o.op = some n) {a : Act} (ht : ∀ x ∈ o.op.operands, ∀ v, xeval tm x = some v → VR σ v (a.eval x)) :
    ∃ s : Sem Value, execOp a.eval o = (do pure (.value (← s)) : Sem Next) ∧ NewOK P σ n s := by
  obtain ⟨dst, op, type, pos, after, guard⟩ := o
  cases op
  case alloc e => exact ⟨_, rfl, xallocN_sound h⟩
  case box e x =>
    simp only [xnw] at h
    split at h
    · rename_i v hv
      simp only [Option.some.injEq] at h
      subst h
      exact ⟨_, rfl, xboxN_sound (ht x (by simp [Op.operands]) _ hv)⟩
    · cases h
  case buildSlice t len parts =>
    simp only [xnw] at h
    split at h
    · rename_i ps hps
      have hp1 := xparts_PVR (σ := σ) (a := a) (fun p hp => ht p.2 (by simp only [Op.operands, List.mem_toArray]; exact List.mem_map.2 ⟨p, hp, rfl⟩)) hps
      exact ⟨_, rfl, xbsN_sound (ys := parts.map fun (i, x) => (i, a.eval x)) h (by simpa using hp1)⟩
    · cases h
  case makeSlice t l c =>
    simp only [xnw] at h
    split at h
    · rename_i lv hl
      split at h
      · rename_i cv hc
        exact ⟨_, rfl, xmsN_sound h (ht l (by simp [Op.operands]) _ hl) (ht c (by simp [Op.operands]) _ hc)⟩
      · cases h
    · cases h
  case makeMap t r =>
    simp only [xnw] at h
    split at h
    · rename_i rv hr
      split at h
      · rename_i kt et hu
        have ho := xopt_OVR (σ := σ) (a := a) (fun y hy => ht y (by subst hy; simp [Op.operands])) hr
        refine ⟨_, rfl, xmapN_sound h ?_ (by rw [hu]; exact trivial)⟩
        unfold OVR at ho
        cases rv <;> cases r <;> simp_all
      · cases h
    · cases h
  case range t x =>
    simp only [xnw] at h
    split at h
    · rename_i xv hx
      exact ⟨_, rfl, xrangeN_sound h (ht x (by simp [Op.operands]) _ hx)⟩
    · cases h
  all_goals (simp only [xnw, reduceCtorEq] at h)

set_option maxHeartbeats 2000000 in
theorem xop_sound {call : Caller} (hcall : CallOK P call) {tm : T Value} {o : Oper} {v : Value} {hp' : Hp}
    (h : xop P call tm hp o.op = some (v, hp')) {a : Act} (ht : ∀ x ∈ o.op.operands, ∀ v, xeval tm x = some v → VR σ v (a.eval x)) (hw : HR B w0 σ hp w) (next : Act → World → Prop) (Q : Exit → Act → World → Prop)
    (hn : ∀ σ' u w', Sg.gr hp.nx hp'.nx σ σ' → VR σ' v u → HR B w0 σ' hp' w' → next (a.put o.dst u) w') (r : Option Nat) : o.wpIn (RF r) 0 P a w next Q := by
  have val : ∀ {s : Sem Value}, MOK hp B w0 σ v hp' (s.run P w) → execOp a.eval o = (do pure (.value (← s)) : Sem Next) → o.wp P a w next Q := by
    intro s hm he
    obtain ⟨σ', u, w', h1, h2, h3, h4⟩ := hm
    unfold Oper.wp
    rw [he]
    simp only [Sem.run_bind, h1, Result.andThen_ok, Sem.run_pure, Oper.upon_value]
    exact hn σ' u w' h2 h3 h4
  have pur : ∀ {s : Sem Value} {x : Option Value}, withHp hp x = some (v, hp') → (x = some v → ∃ u, VR σ v u ∧ ∀ w, s.run P w = .ok u w) →
      execOp a.eval o = (do pure (.value (← s)) : Sem Next) → o.wp P a w next Q := by
    intro s x hx hs he
    obtain ⟨hx0, rfl⟩ := withHp_some hx
    obtain ⟨u, h1, h2⟩ := hs hx0
    exact val (MOK.of_pure h1 h2 hw) he
  have neu : ∀ (q : Op), addHp hp (xnw P tm q) = some (v, hp') → o.op = q → o.wp P a w next Q := by
    intro q hx hq
    cases hn2 : xnw P tm q with
    | none => rw [hn2] at hx; cases hx
    | some n =>
      rw [hn2] at hx
      simp only [addHp, Option.some.injEq] at hx
      obtain ⟨s, h1, h2⟩ := xnw_sound (P := P) (σ := σ) (o := o) (by rw [hq]; exact hn2) ht
      have hm := h2.mok hw
      rw [hx] at hm
      exact val hm h1
  obtain ⟨dst, op, type, pos, after, guard⟩ := o
  cases op
  case move x =>
    refine wpIn_of_wp (fun _ h => by cases h) ?_
    simp only [xop_eq, xopB] at h
    obtain ⟨hx0, rfl⟩ := withHp_some h
    exact hn σ _ w (Sg.gr_refl _ σ) (ht _ (by simp [Op.operands]) _ hx0) hw
  case assign x =>
    refine wpIn_of_wp (fun _ h => by cases h) ?_
    simp only [xop_eq, xopB] at h
    obtain ⟨hx0, rfl⟩ := withHp_some h
    exact hn σ _ w (Sg.gr_refl _ σ) (ht _ (by simp [Op.operands]) _ hx0) hw
  case pick c x y =>
    refine wpIn_of_wp (fun _ h => by cases h) ?_
    simp only [xop_eq, xopB] at h
    split at h
    · rename_i t hc
      have hcv := ht _ (by simp [Op.operands]) _ hc
      generalize hce : a.eval c = cv at hcv
      cases hcv
      cases t with
      | true =>
        rw [cond_true] at h
        obtain ⟨hx0, rfl⟩ := withHp_some h
        unfold Oper.wp
        simp only [execOp, hce, asBool, Sem.run_bind, Sem.run_pure, Result.andThen_ok, if_true, Oper.upon_value]
        exact hn σ _ w (Sg.gr_refl _ σ) (ht _ (by simp [Op.operands]) _ hx0) hw
      | false =>
        rw [cond_false] at h
        obtain ⟨hx0, rfl⟩ := withHp_some h
        unfold Oper.wp
        simp only [execOp, hce, asBool, Sem.run_bind, Sem.run_pure, Result.andThen_ok, Bool.false_eq_true, if_false, Oper.upon_value]
        exact hn σ _ w (Sg.gr_refl _ σ) (ht _ (by simp [Op.operands]) _ hx0) hw
    · cases h
  case alloc e => exact wpIn_of_wp (fun _ h => by cases h) (neu (.alloc e) h rfl)
  case box e x => exact wpIn_of_wp (fun _ h => by cases h) (neu (.box e x) h rfl)
  case makeMap t r => exact wpIn_of_wp (fun _ h => by cases h) (neu (.makeMap t r) h rfl)
  case range t x => exact wpIn_of_wp (fun _ h => by cases h) (neu (.range t x) h rfl)
  case next it isS =>
    refine wpIn_of_wp (fun _ h => by cases h) ?_
    simp only [xop_eq, xopB] at h
    split at h
    · rename_i xv hx
      exact val (xnext_sound h (ht _ (by simp [Op.operands]) _ hx) hw type) rfl
    · cases h
  case lookup t x k ok =>
    refine wpIn_of_wp (fun _ h => by cases h) ?_
    simp only [xop_eq, xopB] at h
    split at h
    · rename_i xv hx
      split at h
      · rename_i kv hk
        obtain ⟨hh0, rfl⟩ := withHp_some h
        obtain ⟨u, h1, h2⟩ := xlookup_sound hh0 (ht _ (by simp [Op.operands]) _ hx) (ht _ (by simp [Op.operands]) _ hk) hw
        exact val ⟨σ, u, w, h2, Sg.gr_refl _ σ, h1, hw⟩ rfl
      · cases h
    · cases h
  case mapUpdate t m k x =>
    refine wpIn_of_wp (fun _ h => by cases h) ?_
    simp only [xop_eq, xopB] at h
    split at h
    · rename_i mv hm
      split at h
      · rename_i kv hk
        split at h
        · rename_i xv hx
          split at h
          · rename_i hp2 hst
            simp only [Option.some.injEq, Prod.mk.injEq] at h
            obtain ⟨rfl, rfl⟩ := h
            obtain ⟨w', h1, h2, h3⟩ := xmapSet_sound hst (ht _ (by simp [Op.operands]) _ hm) (ht _ (by simp [Op.operands]) _ hk) (ht _ (by simp [Op.operands]) _ hx) hw
            unfold Oper.wp
            simp only [execOp, Sem.run_bind, h1, Result.andThen_ok, Sem.run_pure, Oper.upon_skip]
            exact hn σ undef w' (by rw [h3]; exact Sg.gr_refl _ σ) (VR.undef σ) h2
          · cases h
        · cases h
      · cases h
    · cases h
  case mapEntry t m k =>
    refine wpIn_of_wp (fun _ h => by cases h) ?_
    simp only [xop_eq, xopB] at h
    split at h
    · rename_i mv hm
      split at h
      · rename_i kv hk
        exact val (xmapEntry_sound h (ht _ (by simp [Op.operands]) _ hm) (ht _ (by simp [Op.operands]) _ hk) hw) rfl
      · cases h
    · cases h
  case entryStore t m s x =>
    refine wpIn_of_wp (fun _ h => by cases h) ?_
    simp only [xop_eq, xopB] at h
    split at h
    · rename_i mv hm
      split at h
      · rename_i sv hsv
        split at h
        · rename_i xv hx
          split at h
          · rename_i hp2 hst
            simp only [Option.some.injEq, Prod.mk.injEq] at h
            obtain ⟨rfl, rfl⟩ := h
            obtain ⟨w', h1, h2, h3⟩ := xentryStore_sound (P := P) (t := t) hst (ht _ (by simp [Op.operands]) _ hm) (ht _ (by simp [Op.operands]) _ hsv) (ht _ (by simp [Op.operands]) _ hx) hw
            unfold Oper.wp
            simp only [execOp, Sem.run_bind, h1, Result.andThen_ok, Sem.run_pure, Oper.upon_skip]
            exact hn σ undef w' (by rw [h3]; exact Sg.gr_refl _ σ) (VR.undef σ) h2
          · cases h
        · cases h
      · cases h
    · cases h
  case insert t m k x =>
    refine wpIn_of_wp (fun _ h => by cases h) ?_
    simp only [xop_eq, xopB] at h
    split at h
    · rename_i mv hm
      split at h
      · rename_i kv hk
        split at h
        · rename_i xv hx
          split at h
          · rename_i hp2 hst
            simp only [Option.some.injEq, Prod.mk.injEq] at h
            obtain ⟨rfl, rfl⟩ := h
            obtain ⟨w', h1, h2, h3⟩ := xmapSet_sound hst (ht _ (by simp [Op.operands]) _ hm) (ht _ (by simp [Op.operands]) _ hk) (ht _ (by simp [Op.operands]) _ hx) hw
            unfold Oper.wp
            simp only [execOp, Sem.run_bind, h1, Result.andThen_ok, Sem.run_pure, Oper.upon_skip]
            exact hn σ undef w' (by rw [h3]; exact Sg.gr_refl _ σ) (VR.undef σ) h2
          · cases h
        · cases h
      · cases h
    · cases h
  case build t parts =>
    refine wpIn_of_wp (fun _ h => by cases h) ?_
    simp only [xop_eq, xopB] at h
    split at h
    · rename_i ps hps
      have hp1 := xparts_PVR (fun p hp => ht p.2 (by simp only [Op.operands, List.mem_toArray]; exact List.mem_map.2 ⟨p, hp, rfl⟩)) hps
      exact pur h (fun hx => xbuild_sound (ys := parts.map fun (i, x) => (i, a.eval x)) hx (by simpa using hp1)) rfl
    · cases h
  case buildSlice t len parts => exact wpIn_of_wp (fun _ h => by cases h) (neu (.buildSlice t len parts) h rfl)
  case load t x =>
    refine wpIn_of_wp (fun _ h => by cases h) ?_
    simp only [xop_eq, xopB] at h
    split at h
    · rename_i xv hx
      obtain ⟨hh0, rfl⟩ := withHp_some h
      obtain ⟨u, h1, h2⟩ := xload_sound hh0 (ht _ (by simp [Op.operands]) _ hx) hw
      exact val ⟨σ, u, w, h2, Sg.gr_refl _ σ, h1, hw⟩ rfl
    · cases h
  case store t x y =>
    refine wpIn_of_wp (fun _ h => by cases h) ?_
    simp only [xop_eq, xopB] at h
    split at h
    · rename_i xv hx
      split at h
      · rename_i yv hy
        split at h
        · rename_i hp2 hst
          simp only [Option.some.injEq, Prod.mk.injEq] at h
          obtain ⟨rfl, rfl⟩ := h
          obtain ⟨w', h1, h2, h3⟩ := xstore_sound hst (ht _ (by simp [Op.operands]) _ hx) (ht _ (by simp [Op.operands]) _ hy) hw
          unfold Oper.wp
          simp only [execOp, Sem.run_bind, h1, Result.andThen_ok, Sem.run_pure, Oper.upon_skip]
          exact hn σ undef w' (by rw [h3]; exact Sg.gr_refl _ σ) (VR.undef σ) h2
        · cases h
      · cases h
    · cases h
  case nilCheck x =>
    refine wpIn_of_wp (fun _ h => by cases h) ?_
    simp only [xop_eq, xopB] at h
    split at h
    · rename_i p hx
      simp only [Option.some.injEq, Prod.mk.injEq] at h
      obtain ⟨rfl, rfl⟩ := h
      have hv := ht _ (by simp [Op.operands]) _ hx
      generalize hxe : a.eval x = xv at hv
      cases hv with
      | ptr i o q hq =>
      unfold Oper.wp
      simp only [execOp, hxe, Sem.run_pure, Oper.upon_value]
      exact hn σ _ w (Sg.gr_refl _ σ) (.ptr i o q hq) hw
    · rename_i f fa fb hx
      simp only [Option.some.injEq, Prod.mk.injEq] at h
      obtain ⟨rfl, rfl⟩ := h
      have hv := ht _ (by simp [Op.operands]) _ hx
      generalize hxe : a.eval x = xv at hv
      cases hv with
      | func _ _ ys _ ds h1 h2 h3 h4 =>
      unfold Oper.wp
      simp only [execOp, hxe, Sem.run_pure, Oper.upon_value]
      exact hn σ _ w (Sg.gr_refl _ σ) (.func _ _ ys _ ds h1 h2 h3 h4) hw
    · cases h
  case binOp op t x y yt =>
    refine wpIn_of_wp (fun _ h => by cases h) ?_
    simp only [xop_eq, xopB] at h
    split at h
    · rename_i xv hx
      split at h
      · rename_i yv hy
        obtain ⟨hh0, rfl⟩ := withHp_some h
        obtain ⟨u0, h1, h2⟩ := xbin2_sound (P := P) hh0 (ht _ (by simp [Op.operands]) _ hx) (ht _ (by simp [Op.operands]) _ hy) x y
        unfold Oper.wp
        simp only [execOp, Sem.run_bind, (h2 w).1, (h2 w).2, Result.andThen_ok, Sem.run_pure, Oper.upon_value]
        exact hn σ _ w (Sg.gr_refl _ σ) h1 hw
      · cases h
    · cases h
  case unOp op t x =>
    refine wpIn_of_wp (fun _ h => by cases h) ?_
    simp only [xop_eq, xopB] at h
    split at h
    · rename_i xv hx
      exact pur h (fun hh => ⟨_, xun_sound hh (ht _ (by simp [Op.operands]) _ hx)⟩) rfl
    · cases h
  case convert s d x =>
    refine wpIn_of_wp (fun _ h => by cases h) ?_
    simp only [xop_eq, xopB] at h
    split at h
    · rename_i xv hx
      exact pur h (fun hh => xconv_sound hh (ht _ (by simp [Op.operands]) _ hx)) rfl
    · cases h
  case makeInterface t x =>
    refine wpIn_of_wp (fun _ h => by cases h) ?_
    simp only [xop_eq, xopB] at h
    split at h
    · rename_i xv hx
      exact pur h (fun hh => xiface_sound hh (ht _ (by simp [Op.operands]) _ hx)) rfl
    · cases h
  case makeFunc fn first captured =>
    refine wpIn_of_wp (fun _ h => by cases h) ?_
    simp only [xop_eq, xopB] at h
    split at h
    · rename_i fs hfs
      split at h
      · rename_i cs hcs
        simp only [Option.some.injEq, Prod.mk.injEq] at h
        obtain ⟨rfl, rfl⟩ := h
        have v1 := xevs_ER (fun y hy => ht y (by simp only [Op.operands, Array.mem_append]; exact .inl (by simpa using hy))) hfs
        have v2 := xevs_ER (fun y hy => ht y (by simp only [Op.operands, Array.mem_append]; exact .inr (by simpa using hy))) hcs
        refine hn σ (.func fn (first.map a.eval) (captured.map a.eval)) w (Sg.gr_refl _ σ) (.func _ _ _ _ _ ?_ ?_ ?_ ?_) hw
        · have := v1.1; simpa using this
        · intro i x y h1 h2; exact v1.2 i x y (by simpa using h1) (by simpa using h2)
        · have := v2.1; simpa using this
        · intro i x y h1 h2; exact v2.2 i x y (by simpa using h1) (by simpa using h2)
      · cases h
    · cases h
  case makeSlice t l c => exact wpIn_of_wp (fun _ h => by cases h) (neu (.makeSlice t l c) h rfl)
  case slice t x lo hi mx =>
    refine wpIn_of_wp (fun _ h => by cases h) ?_
    simp only [xop_eq, xopB] at h
    split at h
    · rename_i xv hx
      split at h
      · rename_i l hl
        split at h
        · rename_i hh hhi
          split at h
          · rename_i m hm
            exact val (xslice_sound h (ht _ (by simp [Op.operands]) _ hx) (xopt_OVR (fun y hy => ht y (by subst hy; simp [Op.operands])) hl) (xopt_OVR (fun y hy => ht y (by subst hy; simp [Op.operands])) hhi) (xopt_OVR (fun y hy => ht y (by subst hy; simp [Op.operands])) hm) hw) rfl
          · cases h
        · cases h
      · cases h
    · cases h
  case fieldAddr t x f =>
    refine wpIn_of_wp (fun _ h => by cases h) ?_
    simp only [xop_eq, xopB] at h
    split at h
    · rename_i xv hx
      exact pur h (fun hh => xfieldAddr_sound hh (ht _ (by simp [Op.operands]) _ hx)) rfl
    · cases h
  case field t x f =>
    refine wpIn_of_wp (fun _ h => by cases h) ?_
    simp only [xop_eq, xopB] at h
    split at h
    · rename_i xv hx
      exact pur h (fun hh => xfield_sound hh (ht _ (by simp [Op.operands]) _ hx)) rfl
    · cases h
  case indexAddr t x i =>
    refine wpIn_of_wp (fun _ h => by cases h) ?_
    simp only [xop_eq, xopB] at h
    split at h
    · rename_i xv hx
      split at h
      · rename_i iv hi
        exact pur h (fun hh => xindexAddr_sound hh (ht _ (by simp [Op.operands]) _ hx) (ht _ (by simp [Op.operands]) _ hi)) rfl
      · cases h
    · cases h
  case index t x i =>
    refine wpIn_of_wp (fun _ h => by cases h) ?_
    simp only [xop_eq, xopB] at h
    split at h
    · rename_i xv hx
      split at h
      · rename_i iv hi
        exact pur h (fun hh => xindex_sound hh (ht _ (by simp [Op.operands]) _ hx) (ht _ (by simp [Op.operands]) _ hi)) rfl
      · cases h
    · cases h
  case extract x i =>
    refine wpIn_of_wp (fun _ h => by cases h) ?_
    simp only [xop_eq, xopB] at h
    split at h
    · rename_i xv hx
      exact pur h (fun hh => xextract_sound hh (ht _ (by simp [Op.operands]) _ hx)) rfl
    · cases h
  case call c =>
    simp only [xop_eq, xopB] at h
    obtain ⟨callee, cargs, cats⟩ := c
    split at h
    · rename_i args hargs
      have hav := xevs_ER (fun y hy => ht y (by simp only [Op.operands, Call.operands, Array.mem_append]; exact .inr (by simpa using hy))) hargs
      cases callee with
      | invoke r m => simp only [reduceCtorEq] at h
      | builtin b =>
        refine wpIn_of_wp (fun _ h => by cases h) ?_
        simp only at h
        obtain ⟨σ', u, w', h1, h2, h3, h4⟩ := xbuiltin_sound (ty := type) (cs := cargs.map fun | .const _ => true | _ => false) h hav hw
        unfold Oper.wp
        have hmap : (cargs.toList.map a.eval).toArray = cargs.map a.eval := by apply Array.ext'; simp
        rw [hmap] at h1
        have hrun : (execOp a.eval ⟨dst, .call ⟨.builtin b, cargs, cats⟩, type, pos, after, guard⟩).run P w = .ok (.value u) w' := by
          simp only [execOp, resolve, invoke, Sem.run_bind, Sem.run_pure, Result.andThen_ok]
          exact h1
        rw [hrun]
        exact hn σ' u w' h2 h3 h4
      | value f =>
        simp only at h
        split at h
        · rename_i fv hf
          have hfv := ht _ (by simp [Op.operands, Call.operands]) _ hf
          unfold xcall at h
          split at h
          · rename_i g first captured
            refine wpIn_of_wp (fun _ h => by cases h) ?_
            generalize hfe : a.eval f = fe at hfv
            cases hfv with
            | func _ _ ys _ ds q1 q2 q3 q4 =>
            split at h
            · rename_i fn hfn
              have vf : VRL σ first.toList ys.toList := ⟨by simpa using q1, fun i x y h1 h2 => q2 i x y (by simpa using h1) (by simpa using h2)⟩
              have vc : VRL σ captured.toList ds.toList := ⟨by simpa using q3, fun i x y h1 h2 => q4 i x y (by simpa using h1) (by simpa using h2)⟩
              have hmap : (ys.toList ++ cargs.toList.map a.eval ++ ds.toList).toArray = ys ++ cargs.map a.eval ++ ds := by apply Array.ext'; simp
              have hrun0 : (execOp a.eval ⟨dst, .call ⟨.value f, cargs, cats⟩, type, pos, after, guard⟩).run P w = (callFunc g (ys ++ cargs.map a.eval ++ ds)).run P w := by
                simp only [execOp, resolve, hfe, Deferred.ofValue, invoke, Sem.run_bind, Sem.run_pure, Result.andThen_ok]
              cases ho : okFn fn with
              | false =>
                rw [ho, cond_false] at h
                split at h
                · rename_i t0 ht0
                  obtain ⟨rfl, u, h1, h2⟩ := xover_sound (hcall.ov g t0 ht0) h ((vf.append hav).append vc) hw
                  rw [hmap] at h2
                  unfold Oper.wp
                  rw [hrun0, h2, Oper.upon_value]
                  exact hn σ u w (Sg.gr_refl _ σ) h1 hw
                · cases h
              | true =>
                rw [ho, cond_true] at h
                have hc := hcall.run g _ hp v hp' h B w0 σ w _ ((vf.append hav).append vc) hw
                rw [hmap] at hc
                unfold Oper.wp
                rw [hrun0, run_callFunc hfn ho w, Oper.upon_enter]
                refine hc.mono fun e w' he => ?_
                obtain ⟨σ', u, rfl, h2, h3, h4⟩ := he
                exact hn σ' u w' h2 h3 h4
            · cases h
          · rename_i i
            generalize hfe : a.eval f = fe at hfv
            cases hfv with
            | yield _ p hp0 =>
            obtain ⟨rec, k1, k2, k3⟩ := hcall.round i args hp v hp' h B w0 σ w _ p hp0 hav hw
            have hmap : (cargs.toList.map a.eval).toArray = cargs.map a.eval := by apply Array.ext'; simp
            have hrun : (execOp a.eval ⟨dst, .call ⟨.value f, cargs, cats⟩, type, pos, after, guard⟩).run P w = (Instr.yield p.blk (cargs.map a.eval)).run P w := by
              simp only [execOp, resolve, hfe, Deferred.ofValue, invoke, Sem.run_bind, Sem.run_pure, Result.andThen_ok]
              congr 2
              simp
            refine ⟨fun _ _ => trivial, ?_⟩
            rw [Oper.semAt_eq _ _ _ (fun _ h => by cases h), hrun, run_yield k1 (by rw [← k2]; simp), Oper.uponIn_round]
            refine ⟨(fun h => by cases h), ?_⟩
            rw [hmap] at k3
            refine (show RoundIn (RF r) _ P _ _ _ _ _ _ _ from k3).mono fun e w' he => ?_
            obtain ⟨σ', u, rfl, h2, h3, h4⟩ := he
            exact hn σ' u w' h2 h3 h4
          · cases h
        · cases h
    · cases h
  all_goals (simp only [xop_eq, xopB, reduceCtorEq] at h)
end
end Go.Xe
