/- The executor, part 5: comparison, arithmetic, conversion, addresses, slices of slices.
  Conditions: none. -/
import Derived.Test.YtbdbkggaadbhoaaGreatXe4
import Derived.Laws.StructEq
import Derived.WalkSpells
noncomputable section
namespace Go.Xe
open Go.RowKit

/-! ## Integers that are not known -/

def ibound (x : Value) : Option (IntKind × Nat × Nat) :=
  match x with
  | .complex f lo hi => some (ikind f lo, loOf lo, hi)
  | .int k (.ofNat n) => some (k, n, n + 1)
  | _ => none

theorem ibound_sound {σ : Sg} {x x' : Value} {k : IntKind} {lo hi : Nat} (h : ibound x = some (k, lo, hi)) (hx : VR σ x x') :
    ∃ n : Nat, x' = .int k n ∧ lo ≤ n ∧ (hi = 0 ∨ n < hi) := by
  unfold ibound at h
  split at h
  · simp only [Option.some.injEq, Prod.mk.injEq] at h
    obtain ⟨rfl, rfl, rfl⟩ := h
    cases hx with
    | ival _ _ _ n h1 h2 => exact ⟨n, rfl, h1, h2⟩
  · rename_i k n
    simp only [Option.some.injEq, Prod.mk.injEq] at h
    obtain ⟨rfl, rfl, rfl⟩ := h
    cases hx
    exact ⟨n, rfl, Nat.le_refl _, .inr (Nat.lt_succ_self _)⟩
  · cases h

/-- Is a less than b? -/
def iless (a b : Nat × Nat) : Option Bool :=
  bif !(Nat.beq a.2 0) && Nat.ble a.2 b.1 then some true else bif !(Nat.beq b.2 0) && Nat.ble b.2 (a.1 + 1) then some false else none

theorem iless_sound {a b : Nat × Nat} {r : Bool} (h : iless a b = some r) {n m : Nat} (h1 : a.1 ≤ n) (h2 : a.2 = 0 ∨ n < a.2) (h3 : b.1 ≤ m) (h4 : b.2 = 0 ∨ m < b.2) : r = decide ((n : Int) < (m : Int)) := by
  unfold iless at h
  cases hb : !(Nat.beq a.2 0) && Nat.ble a.2 b.1 with
  | true =>
    rw [hb, cond_true] at h
    simp only [Bool.and_eq_true] at hb
    have := Nat.le_of_ble_eq_true hb.2
    have h0 : a.2 ≠ 0 := fun e => by rw [e] at hb; simp at hb
    simp only [Option.some.injEq] at h
    subst h
    symm
    rw [decide_eq_true_eq]
    omega
  | false =>
    rw [hb, cond_false] at h
    cases hc : !(Nat.beq b.2 0) && Nat.ble b.2 (a.1 + 1) with
    | true =>
      rw [hc, cond_true] at h
      simp only [Bool.and_eq_true] at hc
      have := Nat.le_of_ble_eq_true hc.2
      have h0 : b.2 ≠ 0 := fun e => by rw [e] at hc; simp at hc
      simp only [Option.some.injEq] at h
      subst h
      symm
      rw [decide_eq_false_iff_not]
      omega
    | false => rw [hc] at h; cases h

/-- Are a and b apart? -/
def iapart (a b : Nat × Nat) : Bool :=
  match iless a b with
  | some true => true
  | _ => match iless b a with
    | some true => true
    | _ => false

def ieqF (x y : Value) : Option Bool :=
  match ibound x, ibound y with
  | some (k, a), some (k', b) => bif decide (k = k') && iapart a b then some false else none
  | _, _ => none

theorem ieqF_sound {σ : Sg} {x y x' y' : Value} {b : Bool} (h : ieqF x y = some b) (hx : VR σ x x') (hy : VR σ y y') : b = false ∧ ∃ k n m, x' = .int k n ∧ y' = .int k m ∧ n ≠ m := by
  unfold ieqF at h
  split at h
  · rename_i k a k' c ha hc
    obtain ⟨a1, a2⟩ := a
    obtain ⟨c1, c2⟩ := c
    obtain ⟨n, rfl, n1, n2⟩ := ibound_sound ha hx
    obtain ⟨m, rfl, m1, m2⟩ := ibound_sound hc hy
    cases hk : decide (k = k') && iapart (a1, a2) (c1, c2) with
    | false => rw [hk] at h; cases h
    | true =>
      rw [hk, cond_true, Option.some.injEq] at h
      simp only [Bool.and_eq_true, decide_eq_true_eq] at hk
      obtain ⟨rfl, hne⟩ := hk
      refine ⟨h.symm, k, n, m, rfl, rfl, ?_⟩
      unfold iapart at hne
      split at hne
      · rename_i e; have := iless_sound e n1 n2 m1 m2; simp at this; omega
      · split at hne
        · rename_i e; have := iless_sound e m1 m2 n1 n2; simp at this; omega
        · cases hne
  · cases h

/-! ## Equality -/

/-- The fields of two structs, compared by 'eq', in order. -/
def xeqF (P : Program) (eq : TypeId → Value → Value → Option Bool) (xs ys : List Value) : List Field → Option Bool
  | [] => some true
  | f :: fs => bif f.name == "_" then xeqF P eq xs ys fs else
    match xpart P f.type xs f.offset, xpart P f.type ys f.offset with
    | some a, some b => match eq f.type a b with
      | some true => xeqF P eq xs ys fs
      | some false => some false
      | none => none
    | _, _ => none

def xeq (P : Program) : Nat → TypeId → Value → Value → Option Bool
  | 0, _, _, _ => none
  | d + 1, t, x, y => match P.underlying t, x, y with
    | some .bool, .bool a, .bool b => some (a == b)
    | some (.int _), .int k a, .int k' b => bif decide (k = k') then some (decide (a = b)) else none
    | some (.int _), .complex f lo hi, .int k a => ieqF (.complex f lo hi) (.int k a)
    | some (.int _), .int k a, .complex f lo hi => ieqF (.int k a) (.complex f lo hi)
    | some .string, .string a, .string b => some (a.data.toList == b.data.toList)
    | some (.pointer _), .pointer none, .pointer b => some b.isNone
    | some (.pointer _), .pointer (some _), .pointer none => some false
    | some (.pointer e), .pointer (some a), .pointer (some b) => bif Nat.beq a.block b.block then
        match P.info? e with
        | some ie => bif Nat.beq ie.size 0 then none else some (Nat.beq a.off b.off)
        | none => none
      else none
    | some (.struct fs), .agg xs, .agg ys => bif P.stoodInHeld t then none else xeqF P (xeq P d) xs.toList ys.toList fs.toList
    | some (.slice _), .slice none _ _, .slice b _ _ => some b.isNone
    | some (.slice _), .slice (some _) _ _, .slice none _ _ => some false
    | some (.map _ _), .map none, .map b => some b.isNone
    | some (.map _ _), .map (some _), .map none => some false
    | some (.func _ _ _), .nilFunc, .nilFunc => some true
    | some (.func _ _ _), .nilFunc, .func _ _ _ => some false
    | some (.func _ _ _), .func _ _ _, .nilFunc => some false
    | some (.interface _), .nilIface, .iface _ _ => some false
    | some (.interface _), .iface _ _, .nilIface => some false
    | some (.interface _), .iface tx vx, .iface ty vy => bif decide (tx = ty) then
        match P.info? tx with
        | some i => bif i.comparable then xeq P d tx vx vy else none
        | none => none
      else some false
    | _, _, _ => none

theorem VR.isNone_ptr {σ : Sg} {b b' : Option Addr} (h : VR σ (.pointer b) (.pointer b')) : b'.isNone = b.isNone := by
  cases h <;> rfl
theorem VR.isNone_slice {σ : Sg} {b b' : Option Addr} {l c l' c' : Nat} (h : VR σ (.slice b l c) (.slice b' l' c')) : b'.isNone = b.isNone := by
  cases h <;> rfl
theorem VR.isNone_map {σ : Sg} {b b' : Option Nat} (h : VR σ (.map b) (.map b')) : b'.isNone = b.isNone := by
  cases h <;> rfl

theorem xeqF_sound {P : Program} {σ : Sg} {d : Nat} {eq : TypeId → Value → Value → Option Bool}
    (hq : ∀ t x y b, eq t x y = some b → ∀ x' y', VR σ x x' → VR σ y y' → ∀ w, (Op.equalIn d t x' y').run P w = .ok b w)
    {xs ys : List Value} {xs' ys' : Array Value} (hx : VRL σ xs xs'.toList) (hy : VRL σ ys ys'.toList) (w : World) :
    ∀ {fs : List Field} {b : Bool}, xeqF P eq xs ys fs = some b → (Op.eqFields d xs' ys' fs).run P w = .ok b w
  | [], b, h => by simp [xeqF] at h; subst h; simp [Op.eqFields]
  | f :: fs, b, h => by
    simp only [xeqF] at h
    by_cases hn : f.name = "_"
    · have : (f.name == "_") = true := by simpa using hn
      rw [this, cond_true] at h
      simp only [Op.eqFields, hn, ne_eq, not_true_eq_false, if_false]
      exact xeqF_sound hq hx hy w h
    · have : (f.name == "_") = false := by simpa using hn
      rw [this, cond_false] at h
      split at h
      · rename_i a c ha hc
        obtain ⟨a', hva, hra⟩ := xpart_sound ha hx
        obtain ⟨c', hvc, hrc⟩ := xpart_sound hc hy
        simp only [Op.eqFields, ne_eq, hn, not_false_eq_true, if_true, Sem.run_bind, hra, hrc, Result.andThen_ok]
        split at h
        · rename_i he
          rw [hq _ _ _ _ he _ _ hva hvc w]
          simp only [Result.andThen_ok, Bool.not_true, Bool.false_eq_true, if_false]
          exact xeqF_sound hq hx hy w h
        · rename_i he
          rw [hq _ _ _ _ he _ _ hva hvc w]
          simp only [Option.some.injEq] at h
          subst h
          simp only [Result.andThen_ok, Bool.not_false, if_true, Sem.run_pure]
        · cases h
      · cases h

theorem run_equalIn_map_nil {P : Program} (w : World) (d : Nat) (t : TypeId) {k e : TypeId} (h : P.underlying t = some (.map k e)) (b : Option Nat) :
    (Op.equalIn (d + 1) t (.map none) (.map b)).run P w = .ok b.isNone w := by
  simp [Op.equalIn, run_underlying h]

theorem xeq_sound {P : Program} {σ : Sg} : ∀ (d : Nat) (t : TypeId) (x y : Value) (b : Bool), xeq P d t x y = some b → ∀ x' y', VR σ x x' → VR σ y y' →
    ∀ w, (Op.equalIn d t x' y').run P w = .ok b w := by
  intro d
  induction d with
  | zero => intro t x y b h; simp [xeq] at h
  | succ d ih =>
    intro t x y b h x' y' hx hy w
    simp only [xeq] at h
    split at h
    · rename_i a c hu; cases hx; cases hy; simp only [Option.some.injEq] at h; subst h; simp [Op.equalIn, run_underlying hu]
    · rename_i k k' a k'' c hu
      cases hx; cases hy
      cases hk : decide (k' = k'') with
      | false => rw [hk] at h; cases h
      | true =>
        rw [hk] at h
        simp only [decide_eq_true_eq] at hk
        subst hk
        simp only [cond_true, Option.some.injEq] at h
        subst h
        rw [run_equalIn_int w d t _ _ _ _ hu]
        congr 1
    · rename_i hu
      obtain ⟨rfl, k, n, m, rfl, rfl, hne⟩ := ieqF_sound h hx hy
      rw [run_equalIn_int w d t _ _ _ _ hu]
      simp [hne]
    · rename_i hu
      obtain ⟨rfl, k, n, m, rfl, rfl, hne⟩ := ieqF_sound h hx hy
      rw [run_equalIn_int w d t _ _ _ _ hu]
      simp [hne]
    · rename_i a c hu; cases hx; cases hy; simp only [Option.some.injEq] at h; subst h
      rw [run_equalIn_string w d t _ _ hu, ByteArray.toList_eq, ByteArray.toList_eq]
    · rename_i e c hu; simp only [Option.some.injEq] at h; subst h
      cases hx
      have hn : ∃ c', y' = .pointer c' ∧ c'.isNone = c.isNone := by cases hy <;> exact ⟨_, rfl, rfl⟩
      obtain ⟨c', rfl, hn⟩ := hn
      simp [Op.equalIn, run_underlying hu, hn]
    · rename_i e c hu; simp only [Option.some.injEq] at h; subst h
      cases hx; cases hy
      simp [Op.equalIn, run_underlying hu]
    · rename_i e a c hu
      cases hx with
      | ptr i o p hp =>
      cases hy with
      | ptr j q r hr =>
      simp only at h
      cases hij : Nat.beq i j with
      | false => rw [hij] at h; cases h
      | true =>
        rw [hij] at h
        have hij := Nat.eq_of_beq_eq_true hij
        subst hij
        have hpr : p = r := Option.some.inj (hp.symm.trans hr)
        subst hpr
        simp only [cond_true] at h
        split at h
        · rename_i ie hie
          cases hz : Nat.beq ie.size 0 with
          | true => rw [hz] at h; cases h
          | false =>
            rw [hz] at h
            simp only [cond_false, Option.some.injEq] at h
            subst h
            have hz' : ie.size ≠ 0 := fun e => by rw [e] at hz; cases hz
            simp only [Op.equalIn, Sem.run_bind, run_underlying hu, Result.andThen_ok, sizeOf, typeInfo, run_program, hie, Sem.run_pure, ne_eq, hz', not_false_eq_true, if_true, sameAddr, beq_self_eq_true]
            congr 1
            by_cases e : o = q
            · subst e; rw [beq_t rfl]; simp
            · rw [beq_f e]
              simp
        · cases h
    · rename_i fs xs ys hu
      cases hs : P.stoodInHeld t with
      | true => rw [hs] at h; cases h
      | false =>
        rw [hs, cond_false] at h
        obtain ⟨xs', rfl, hx'⟩ := VRL.of_agg hx
        obtain ⟨ys', rfl, hy'⟩ := VRL.of_agg hy
        have hf : P.fieldsOf t = fs := by simp [Program.fieldsOf, hu]
        rw [run_equalIn_struct w d t xs' ys' (by rw [hf]; exact hu) hs, hf]
        exact xeqF_sound (fun t x y b hb x' y' h1 h2 w => ih t x y b hb x' y' h1 h2 w) hx' hy' w h
    · rename_i e l c b' l' c' hu; simp only [Option.some.injEq] at h; subst h
      cases hx
      have hn : ∃ b2 l2 c2, y' = .slice b2 l2 c2 ∧ b2.isNone = b'.isNone := by cases hy <;> exact ⟨_, _, _, rfl, rfl⟩
      obtain ⟨b2, l2, c2, rfl, hn⟩ := hn
      simp [Op.equalIn, run_underlying hu, hn]
    · rename_i e a l c l' c' hu; simp only [Option.some.injEq] at h; subst h
      cases hx <;> cases hy <;> simp [Op.equalIn, run_underlying hu]
    · rename_i k e b' hu; simp only [Option.some.injEq] at h; subst h
      cases hx
      have hn : ∃ b2, y' = .map b2 ∧ b2.isNone = b'.isNone := by cases hy <;> exact ⟨_, rfl, rfl⟩
      obtain ⟨b2, rfl, hn⟩ := hn
      simp [Op.equalIn, run_underlying hu, hn]
    · rename_i k e a hu; simp only [Option.some.injEq] at h; subst h
      cases hx; cases hy
      simp [Op.equalIn, run_underlying hu]
    · rename_i hu; simp only [Option.some.injEq] at h; subst h; cases hx; cases hy; simp [Op.equalIn, run_underlying hu]
    · rename_i hu; simp only [Option.some.injEq] at h; subst h; cases hx; cases hy; simp [Op.equalIn, run_underlying hu]
    · rename_i hu; simp only [Option.some.injEq] at h; subst h; cases hx; cases hy; simp [Op.equalIn, run_underlying hu]
    · rename_i hu; simp only [Option.some.injEq] at h; subst h; cases hx; cases hy; simp [Op.equalIn, run_underlying hu]
    · rename_i hu; simp only [Option.some.injEq] at h; subst h; cases hx; cases hy; simp [Op.equalIn, run_underlying hu]
    · rename_i ms tx vx ty vy hu
      cases hx with
      | iface _ _ ux hvx =>
      cases hy with
      | iface _ _ uy hvy =>
      cases ht : decide (tx = ty) with
      | false =>
        rw [ht] at h
        simp only [cond_false, Option.some.injEq] at h
        subst h
        simp only [decide_eq_false_iff_not] at ht
        simp [Op.equalIn, run_underlying hu, ht]
      | true =>
        rw [ht] at h
        simp only [decide_eq_true_eq] at ht
        subst ht
        simp only [cond_true] at h
        split at h
        · rename_i i hi
          cases hc : i.comparable with
          | false => rw [hc] at h; cases h
          | true =>
            rw [hc, cond_true] at h
            have := ih tx vx vy b h ux uy hvx hvy w
            simp [Op.equalIn, run_underlying hu, typeInfo, hi, hc, this]
        · cases h
    · cases h

/-! ## Binary operators -/

def xcmp (op : BinOp) (a b : Int) : Option Value :=
  match op with
  | .eql => some (.bool (decide (a = b)))
  | .neq => some (.bool (!decide (a = b)))
  | .lss => some (.bool (decide (a < b)))
  | .leq => some (.bool (decide (a ≤ b)))
  | .gtr => some (.bool (decide (b < a)))
  | .geq => some (.bool (decide (b ≤ a)))
  | _ => none

def xarith (op : BinOp) (k : IntKind) (a b : Int) : Option Value :=
  match op with
  | .add => some (.int k (k.wrap (a + b)))
  | .sub => some (.int k (k.wrap (a - b)))
  | .mul => some (.int k (k.wrap (a * b)))
  | .quo => bif decide (b = 0) then none else some (.int k (k.wrap (a.tdiv b)))
  | .rem => bif decide (b = 0) then none else some (.int k (a.tmod b))
  | .and | .or | .xor | .andNot => some (.int k (bits op k a b))
  | _ => xcmp op a b

def xshift (op : BinOp) (k : IntKind) (a b : Int) : Option Value :=
  bif decide (b < 0) then none else
  match op with
  | .shl => some (.int k (k.wrap (a * 2 ^ (min b.toNat k.bits))))
  | .shr => some (.int k (a.fdiv (2 ^ (min b.toNat k.bits))))
  | _ => none

def xstr (op : BinOp) (a b : ByteArray) : Option Value :=
  match op with
  | .add => bif Nat.ble (a.data.toList.length + b.data.toList.length) 1000000000 then some (.string ⟨(a.data.toList ++ b.data.toList).toArray⟩) else none
  | .eql => some (.bool (a.data.toList == b.data.toList))
  | .neq => some (.bool (!(a.data.toList == b.data.toList)))
  | .lss => some (.bool (Op.bytesLess a.data.toList b.data.toList))
  | .leq => some (.bool (Op.bytesLess a.data.toList b.data.toList || a.data.toList == b.data.toList))
  | .gtr => some (.bool (!(Op.bytesLess a.data.toList b.data.toList || a.data.toList == b.data.toList)))
  | .geq => some (.bool (!Op.bytesLess a.data.toList b.data.toList))
  | _ => none

/-- Two operands that may be compared by '==' without a look at interfaces with methods that are both nil. -/
def xguard (P : Program) (t : TypeId) : Value → Bool
  | .agg _ => !P.eqGuardType P.depth t
  | .nilIface => false
  | .complex _ _ _ => false
  | .float _ _ => false
  | _ => true

def xbin (P : Program) (op : BinOp) (t : TypeId) (x y : Value) : Option Value :=
  match x, y with
  | .int k a, .int k' b => match op with
    | .shl | .shr => xshift op k a b
    | _ => bif decide (k = k') then xarith op k a b else none
  | .string a, .string b => xstr op a b
  | _, .complex _ _ _ => none
  | x, y => match op with
    | .eql => bif xguard P t x then match xeq P 10000 t x y with
      | some b => some (.bool b)
      | none => none else none
    | .neq => bif xguard P t x then match xeq P 10000 t x y with
      | some b => some (.bool (!b))
      | none => none else none
    | _ => none

theorem xcmp_sound {σ : Sg} {P : Program} {op : BinOp} {a b : Int} {v : Value} (h : xcmp op a b = some v) : VR σ v v ∧ ∀ w, (Op.intCmp op a b).run P w = .ok v w := by
  cases op <;> simp only [xcmp, Option.some.injEq, reduceCtorEq] at h <;> subst h <;> refine ⟨.bool _, fun w => ?_⟩ <;> simp [Op.intCmp] <;> by_cases e : a = b <;> simp [e]

theorem xarith_sound {σ : Sg} {P : Program} {op : BinOp} {k : IntKind} {a b : Int} {v : Value} (h : xarith op k a b = some v) (h1 : op ≠ .shl) (h2 : op ≠ .shr) (t : TypeId) :
    VR σ v v ∧ ∀ w, (binOp op t (.int k a) (.int k b)).run P w = .ok v w := by
  cases op
  case shl => exact absurd rfl h1
  case shr => exact absurd rfl h2
  case quo =>
    simp only [xarith] at h
    cases hb : decide (b = 0) with
    | true => rw [hb] at h; cases h
    | false =>
      rw [hb] at h
      simp only [decide_eq_false_iff_not] at hb
      simp only [cond_false, Option.some.injEq] at h; subst h
      exact ⟨.int _ _, fun w => by simp [binOp_quo, Op.intDiv, hb]⟩
  case rem =>
    simp only [xarith] at h
    cases hb : decide (b = 0) with
    | true => rw [hb] at h; cases h
    | false =>
      rw [hb] at h
      simp only [decide_eq_false_iff_not] at hb
      simp only [cond_false, Option.some.injEq] at h; subst h
      exact ⟨.int _ _, fun w => by simp [binOp_rem, Op.intDiv, hb]⟩
  case add => simp only [xarith, Option.some.injEq] at h; subst h; exact ⟨.int _ _, fun w => by simp [binOp_add, Op.intArith]⟩
  case sub => simp only [xarith, Option.some.injEq] at h; subst h; exact ⟨.int _ _, fun w => by simp [binOp_sub, Op.intArith]⟩
  case mul => simp only [xarith, Option.some.injEq] at h; subst h; exact ⟨.int _ _, fun w => by simp [binOp_mul, Op.intArith]⟩
  case and => simp only [xarith, Option.some.injEq] at h; subst h; exact ⟨.int _ _, fun w => by simp [binOp_and, intBits_and]⟩
  case or => simp only [xarith, Option.some.injEq] at h; subst h; exact ⟨.int _ _, fun w => by simp [binOp_or, intBits_or]⟩
  case xor => simp only [xarith, Option.some.injEq] at h; subst h; exact ⟨.int _ _, fun w => by simp [binOp_xor, intBits_xor]⟩
  case andNot => simp only [xarith, Option.some.injEq] at h; subst h; exact ⟨.int _ _, fun w => by simp [binOp_andNot, intBits_andNot]⟩
  case eql =>
    obtain ⟨h3, h4⟩ := xcmp_sound (σ := σ) (P := P) (op := .eql) h
    exact ⟨h3, fun w => by simpa [binOp] using h4 w⟩
  case neq =>
    obtain ⟨h3, h4⟩ := xcmp_sound (σ := σ) (P := P) (op := .neq) h
    exact ⟨h3, fun w => by simpa [binOp] using h4 w⟩
  case lss =>
    obtain ⟨h3, h4⟩ := xcmp_sound (σ := σ) (P := P) (op := .lss) h
    exact ⟨h3, fun w => by simpa [binOp] using h4 w⟩
  case leq =>
    obtain ⟨h3, h4⟩ := xcmp_sound (σ := σ) (P := P) (op := .leq) h
    exact ⟨h3, fun w => by simpa [binOp] using h4 w⟩
  case gtr =>
    obtain ⟨h3, h4⟩ := xcmp_sound (σ := σ) (P := P) (op := .gtr) h
    exact ⟨h3, fun w => by simpa [binOp] using h4 w⟩
  case geq =>
    obtain ⟨h3, h4⟩ := xcmp_sound (σ := σ) (P := P) (op := .geq) h
    exact ⟨h3, fun w => by simpa [binOp] using h4 w⟩

theorem xshift_sound {σ : Sg} {P : Program} {op : BinOp} {k yk : IntKind} {a b : Int} {v : Value} (h : xshift op k a b = some v) :
    VR σ v v ∧ ∀ w, (Op.shift op k a yk b).run P w = .ok v w := by
  unfold xshift at h
  cases hb : decide (b < 0) with
  | true => rw [hb] at h; cases h
  | false =>
    rw [hb, cond_false] at h
    simp only [decide_eq_false_iff_not] at hb
    split at h
    · simp only [Option.some.injEq] at h; subst h; exact ⟨.int _ _, fun w => by simp [Op.shift, hb]⟩
    · simp only [Option.some.injEq] at h; subst h; exact ⟨.int _ _, fun w => by simp [Op.shift, hb]⟩
    · cases h

theorem byteArray_append (a b : ByteArray) : a ++ b = ⟨(a.data.toList ++ b.data.toList).toArray⟩ := by
  apply ByteArray.ext
  simp [ByteArray.data_append]

theorem xstr_sound {σ : Sg} {P : Program} {op : BinOp} {a b : ByteArray} {v : Value} (h : xstr op a b = some v) :
    VR σ v v ∧ ∀ w, (Op.stringOp op a b).run P w = .ok v w := by
  cases op <;> simp only [xstr, Option.some.injEq, reduceCtorEq] at h
  case add =>
    cases hb : Nat.ble (a.data.toList.length + b.data.toList.length) 1000000000 with
    | false => rw [hb] at h; cases h
    | true =>
      rw [hb] at h
      simp only [cond_true, Option.some.injEq] at h
      subst h
      have hb := Nat.le_of_ble_eq_true hb
      have e1 : a.size = a.data.toList.length := by simp
      have e2 : b.size = b.data.toList.length := by simp
      have hle : ¬ ((a.size + b.size : Nat) : Int) > IntKind.i64.max := by rw [IntKind.max_i64, e1, e2]; omega
      refine ⟨.string _, fun w => ?_⟩
      simp only [Op.stringOp, if_neg hle, Sem.run_pure, byteArray_append]
  all_goals
    subst h
    refine ⟨.bool _, fun w => ?_⟩
    simp only [Op.stringOp, ByteArray.toList_eq, Sem.run_pure]

theorem xbin_sound {P : Program} {σ : Sg} {op : BinOp} {t : TypeId} {x y x' y' : Value} {v : Value} (h : xbin P op t x y = some v) (hx : VR σ x x') (hy : VR σ y y') (ox oy : Operand) :
    VR σ v v ∧ ∀ w, ((eqGuard op t ox oy x' y').run P w = .ok () w) ∧ (binOp op t x' y').run P w = .ok v w := by
  unfold xbin at h
  split at h
  · rename_i k a k' b
    cases hx; cases hy
    split at h
    · obtain ⟨h1, h2⟩ := xshift_sound (σ := σ) (P := P) (yk := k') h
      exact ⟨h1, fun w => ⟨by rw [eqGuard_at_int]; rfl, by rw [binOp_shl]; exact h2 w⟩⟩
    · obtain ⟨h1, h2⟩ := xshift_sound (σ := σ) (P := P) (yk := k') h
      exact ⟨h1, fun w => ⟨by rw [eqGuard_at_int]; rfl, by rw [binOp_shr]; exact h2 w⟩⟩
    · rename_i hn1 hn2
      cases hk : decide (k = k') with
      | false => rw [hk] at h; cases h
      | true =>
        rw [hk] at h
        simp only [decide_eq_true_eq] at hk
        subst hk
        obtain ⟨h1, h2⟩ := xarith_sound (σ := σ) (P := P) (show xarith op k a b = some v from h) hn1 hn2 t
        exact ⟨h1, fun w => ⟨by rw [eqGuard_at_int]; rfl, h2 w⟩⟩
  · rename_i a b
    cases hx; cases hy
    obtain ⟨h1, h2⟩ := xstr_sound (σ := σ) (P := P) h
    exact ⟨h1, fun w => ⟨by rw [eqGuard_at_string]; rfl, by cases op <;> exact h2 w⟩⟩
  · cases h
  · rename_i hnc hni hns
    have hg : xguard P t x = true → ∀ w, (eqGuard op t ox oy x' y').run P w = .ok () w := by
      intro hg w
      cases hx <;> first
        | (simp [xguard] at hg; done)
        | (simp only [xguard, Bool.not_eq_true'] at hg
           cases hy <;> first | (rw [run_eqGuard_agg (h := w) _ _ _ _ _ _ hg]; done) | (exact run_eqGuard_agg w op t ox oy _ _ hg) | (cases op <;> rfl))
        | (cases op <;> rfl)
    have heq : ∀ b, xeq P 10000 t x y = some b → ∀ w, (Op.equal t x' y').run P w = .ok b w := fun b hb w => xeq_sound 10000 t x y b hb x' y' hx hy w
    have hne : xguard P t x = true → (∀ w, (binOp .eql t x' y').run P w = (do pure (.bool (← Op.equal t x' y')) : Sem Value).run P w) ∧
        (∀ w, (binOp .neq t x' y').run P w = (do pure (.bool (!(← Op.equal t x' y'))) : Sem Value).run P w) := by
      intro hgb
      constructor <;> intro w <;> cases hx <;> cases hy <;> first | rfl | (exact (hni _ _ _ _ rfl rfl).elim) | (exact (hns _ _ rfl rfl).elim) | (exact (hnc _ _ _ rfl).elim) | (simp [xguard] at hgb)
    split at h
    · cases hgb : xguard P t x with
      | false => rw [hgb] at h; cases h
      | true =>
        rw [hgb, cond_true] at h
        split at h
        · rename_i b hb
          simp only [Option.some.injEq] at h; subst h
          exact ⟨.bool _, fun w => ⟨hg hgb w, by rw [(hne hgb).1 w]; simp only [Sem.run_bind, heq b hb w, Result.andThen_ok, Sem.run_pure]⟩⟩
        · cases h
    · cases hgb : xguard P t x with
      | false => rw [hgb] at h; cases h
      | true =>
        rw [hgb, cond_true] at h
        split at h
        · rename_i b hb
          simp only [Option.some.injEq] at h; subst h
          exact ⟨.bool _, fun w => ⟨hg hgb w, by rw [(hne hgb).2 w]; simp only [Sem.run_bind, heq b hb w, Result.andThen_ok, Sem.run_pure]⟩⟩
        · cases h
    · cases h

end Go.Xe
