/- The executor, part 6: conversions, addresses, lengths, slices of slices.
  Conditions: none. -/
import Derived.Test.YtbdbkggaadbhoaaGreatXe5
noncomputable section
namespace Go.Xe
open Go.RowKit

def xrune (n : Int) : Option Value := some (.string (Utf8.encode n))

def xconv (P : Program) (src dst : TypeId) (x : Value) : Option Value :=
  match P.underlying src with
  | none => none
  | some _ => match P.underlying dst, x with
    | some (.int k), .int _ n => some (.int k (k.wrap n))
    | some .string, .string s => some (.string s)
    | some .string, .int _ n => xrune n
    | some (.int .i64), .complex _ lo hi => bif Nat.ble 1 hi && Nat.ble hi unk then some (.complex .f64 (loOf lo) hi) else none
    | some (.int .u64), .complex _ lo hi => bif Nat.ble 1 hi && Nat.ble hi unk then some (.complex .f32 (loOf lo + 18446744073709551616) hi) else none
    | _, _ => none

theorem xconv_sound {P : Program} {σ : Sg} {src dst : TypeId} {x x' v : Value} (h : xconv P src dst x = some v) (hx : VR σ x x') :
    ∃ u, VR σ v u ∧ ∀ w, (convert src dst x').run P w = .ok u w := by
  unfold xconv at h
  split at h
  · cases h
  · rename_i d hs
    split at h
    · rename_i k k' n hd
      cases hx
      simp only [Option.some.injEq] at h; subst h
      exact ⟨_, .int _ _, fun w => by simp [convert, run_underlying hs, run_underlying hd, Conv.intToInt]⟩
    · rename_i s hd
      cases hx
      simp only [Option.some.injEq] at h; subst h
      exact ⟨_, .string _, fun w => by simp [convert, run_underlying hs, run_underlying hd]⟩
    · rename_i k n hd
      cases hx
      unfold xrune at h
      simp only [Option.some.injEq] at h; subst h
      exact ⟨_, .string _, fun w => by simp [convert, run_underlying hs, run_underlying hd, Conv.intToString]⟩
    · rename_i f lo hi hd
      cases hb : Nat.ble 1 hi && Nat.ble hi unk with
      | false => rw [hb] at h; cases h
      | true =>
        rw [hb, cond_true] at h
        simp only [Bool.and_eq_true] at hb
        have b1 := Nat.le_of_ble_eq_true hb.1
        have b2 := Nat.le_of_ble_eq_true hb.2
        simp only [Option.some.injEq] at h; subst h
        cases hx with
        | ival _ _ _ n h1 h2 =>
          have hn : n < unk := by omega
          refine ⟨_, .ival .f64 (loOf lo) hi n (Nat.le_trans (loOf_le _) h1) h2, fun w => ?_⟩
          have hw : IntKind.i64.wrap (n : Int) = n := by rw [IntKind.wrap_i64]; unfold unk at hn; omega
          simp [convert, run_underlying hs, run_underlying hd, Conv.intToInt, hw, ikind, fkind]
    · rename_i f lo hi hd
      cases hb : Nat.ble 1 hi && Nat.ble hi unk with
      | false => rw [hb] at h; cases h
      | true =>
        rw [hb, cond_true] at h
        simp only [Bool.and_eq_true] at hb
        have b1 := Nat.le_of_ble_eq_true hb.1
        have b2 := Nat.le_of_ble_eq_true hb.2
        simp only [Option.some.injEq] at h; subst h
        cases hx with
        | ival _ _ _ n h1 h2 =>
          have hn : n < unk := by omega
          have e1 : loOf (loOf lo + 18446744073709551616) = loOf lo := by unfold loOf; omega
          have e2 : ikind .f32 (loOf lo + 18446744073709551616) = .u64 := by
            have : (loOf lo + 18446744073709551616) / 18446744073709551616 = 1 := by unfold loOf; omega
            rw [ikind, this, fkind]
          refine ⟨_, .ival .f32 (loOf lo + 18446744073709551616) hi n (by rw [e1]; exact h1) h2, fun w => ?_⟩
          have hw : IntKind.u64.wrap (n : Int) = n := by rw [IntKind.wrap_u64]; unfold unk at hn; omega
          simp [convert, run_underlying hs, run_underlying hd, Conv.intToInt, hw, e2]
    · cases h

def xun (op : UnOp) (x : Value) : Option Value :=
  match op, x with
  | .neg, .int k n => some (.int k (k.wrap (0 - n)))
  | .not, .bool b => some (.bool (!b))
  | _, _ => none

theorem xun_sound {P : Program} {σ : Sg} {op : UnOp} {x x' v : Value} (h : xun op x = some v) (hx : VR σ x x') :
    VR σ v v ∧ ∀ w, (Op.unary op x').run P w = .ok v w := by
  unfold xun at h
  split at h
  · cases hx; simp only [Option.some.injEq] at h; subst h; exact ⟨.int _ _, fun w => by simp [Op.unary, Op.intArith]⟩
  · cases hx; simp only [Option.some.injEq] at h; subst h; exact ⟨.bool _, fun w => by simp [Op.unary]⟩
  · cases h

def xiface (P : Program) (t : TypeId) (x : Value) : Option Value :=
  match P.underlying t with
  | some (.interface _) => none
  | some _ => some (.iface t x)
  | none => none

theorem xiface_sound {P : Program} {σ : Sg} {t : TypeId} {x x' v : Value} (h : xiface P t x = some v) (hx : VR σ x x') :
    ∃ u, VR σ v u ∧ ∀ w, (Instr.makeInterface t x').run P w = .ok u w := by
  unfold xiface at h
  split at h
  · cases h
  · rename_i d hd hu
    simp only [Option.some.injEq] at h; subst h
    refine ⟨_, .iface t x x' hx, fun w => ?_⟩
    simp only [Instr.makeInterface, Sem.run_bind, run_underlying hu, Result.andThen_ok]
    cases d <;> first | rfl | (exact (hd _ rfl).elim)
  · cases h

/-! ## Addresses -/

def xfieldAddr (P : Program) (s : TypeId) (x : Value) (f : Nat) : Option Value :=
  match P.underlying s with
  | some (.struct fs) => match fs.toList[f]? with
    | some fd => match P.info? fd.type with
      | some i => bif Nat.beq i.size 0 then none else
        match x with
        | .pointer (some ⟨b, o, none⟩) => some (.pointer (some ⟨b, o + fd.offset, none⟩))
        | _ => none
      | none => none
    | none => none
  | _ => none

theorem xfieldAddr_sound {P : Program} {σ : Sg} {s : TypeId} {x x' v : Value} {f : Nat} (h : xfieldAddr P s x f = some v) (hx : VR σ x x') :
    ∃ u, VR σ v u ∧ ∀ w, (Instr.fieldAt s x' f).run P w = .ok u w := by
  unfold xfieldAddr at h
  split at h
  · rename_i fs hu
    split at h
    · rename_i fd hf
      split at h
      · rename_i i hi
        cases hz : Nat.beq i.size 0 with
        | true => rw [hz] at h; cases h
        | false =>
          rw [hz, cond_false] at h
          have hz' : i.size ≠ 0 := fun e => by rw [e] at hz; cases hz
          split at h
          · rename_i b o
            simp only [Option.some.injEq] at h; subst h
            cases hx with
            | ptr _ _ p hp =>
            have hf' : fs[f]? = some fd := by simpa using hf
            refine ⟨_, .ptr b (o + fd.offset) p hp, fun w => ?_⟩
            simp [Instr.fieldAt, run_underlying hu, hf', Instr.sureAddr, fieldPlace, sizeOf, typeInfo, hi, hz', Addr.add_lit, Nat.add_assoc]
          · cases h
      · cases h
    · cases h
  · cases h

def xindexAddr (P : Program) (t : TypeId) (x ix : Value) : Option Value :=
  match ix with
  | .int _ n => match P.underlying t with
    | some (.slice e) => match P.info? e with
      | some ie => match x with
        | .slice (some ⟨b, o, none⟩) len _ => bif decide (0 ≤ n) && decide (n < len) then some (.pointer (some ⟨b, o + n.toNat * ie.size, none⟩)) else none
        | _ => none
      | none => none
    | some (.array len e) => match P.info? e with
      | some ie => match x with
        | .pointer (some ⟨b, o, none⟩) => bif decide (0 ≤ n) && decide (n < len) then some (.pointer (some ⟨b, o + n.toNat * ie.size, none⟩)) else none
        | _ => none
      | none => none
    | _ => none
  | _ => none

theorem xindexAddr_sound {P : Program} {σ : Sg} {t : TypeId} {x x' i i' v : Value} (h : xindexAddr P t x i = some v) (hx : VR σ x x') (hi : VR σ i i') :
    ∃ u, VR σ v u ∧ ∀ w, (Instr.indexAt t x' i').run P w = .ok u w := by
  unfold xindexAddr at h
  split at h
  · rename_i k n
    cases hi
    split at h
    · rename_i e hu
      split at h
      · rename_i ie hie
        split at h
        · rename_i b o len c
          cases hx with
          | slice _ _ p _ _ c' hp hc hl =>
          cases hb : decide (0 ≤ n) && decide (n < len) with
          | false => rw [hb] at h; cases h
          | true =>
            rw [hb, cond_true] at h
            simp only [Bool.and_eq_true, decide_eq_true_eq] at hb
            simp only [Option.some.injEq] at h; subst h
            refine ⟨_, .ptr b _ p hp, fun w => ?_⟩
            simp [Instr.indexAt, asIntOf, run_underlying hu, hb, sizeOf, typeInfo, hie, Addr.add_lit, Nat.add_assoc]
        · cases h
      · cases h
    · rename_i len e hu
      split at h
      · rename_i ie hie
        split at h
        · rename_i b o
          cases hx with
          | ptr _ _ p hp =>
          cases hb : decide (0 ≤ n) && decide (n < len) with
          | false => rw [hb] at h; cases h
          | true =>
            rw [hb, cond_true] at h
            simp only [Bool.and_eq_true, decide_eq_true_eq] at hb
            simp only [Option.some.injEq] at h; subst h
            refine ⟨_, .ptr b _ p hp, fun w => ?_⟩
            simp [Instr.indexAt, asIntOf, run_underlying hu, Instr.sureAddr, hb, sizeOf, typeInfo, hie, Addr.add_lit, Nat.add_assoc]
        · cases h
      · cases h
    · cases h
  · cases h

/-! ## Lengths -/

def xlen (P : Program) (t : TypeId) (x : Value) : Option Value :=
  match P.underlying t, x with
  | some .string, .string s => some (.int .i64 s.data.toList.length)
  | some (.array n _), _ => some (.int .i64 n)
  | some (.slice _), .slice _ n _ => some (.int .i64 n)
  | some (.map _ _), .map none => some (.int .i64 0)
  | _, _ => none

theorem xlen_sound {P : Program} {σ : Sg} {t : TypeId} {x x' v : Value} (h : xlen P t x = some v) (hx : VR σ x x') (ty : TypeId) (ats : Array TypeId) (hat : ats[0]? = some t) :
    VR σ v v ∧ ∀ w, (Builtin.len_ ats ty #[x']).run P w = .ok v w := by
  unfold xlen at h
  split at h
  · rename_i s hu
    cases hx
    simp only [Option.some.injEq] at h; subst h
    refine ⟨.int _ _, fun w => ?_⟩
    simp [Builtin.len_, hat, run_underlying hu, goInt]
  · rename_i n e hu
    simp only [Option.some.injEq] at h; subst h
    refine ⟨.int _ _, fun w => ?_⟩
    simp [Builtin.len_, hat, run_underlying hu, goInt]
  · rename_i e b n c hu
    simp only [Option.some.injEq] at h; subst h
    refine ⟨.int _ _, fun w => ?_⟩
    cases hx <;> simp [Builtin.len_, hat, run_underlying hu, goInt]
  · rename_i k e hu
    simp only [Option.some.injEq] at h; subst h
    refine ⟨.int _ _, fun w => ?_⟩
    cases hx
    simp [Builtin.len_, hat, run_underlying hu, goInt]
  · cases h

def xcap (P : Program) (t : TypeId) (x : Value) : Option Value :=
  match P.underlying t, x with
  | some (.slice _), .slice none _ c => some (.int .i64 c)
  | some (.slice _), .slice (some _) n c => bif Nat.ble unk c then some (.complex .f64 (Nat.max (capLo c) n) (capHi c)) else some (.int .i64 c)
  | some (.array n _), _ => some (.int .i64 n)
  | _, _ => none

theorem xcap_sound {P : Program} {σ : Sg} {t : TypeId} {x x' v : Value} (h : xcap P t x = some v) (hx : VR σ x x') (ty : TypeId) (ats : Array TypeId) (hat : ats[0]? = some t) :
    ∃ u, VR σ v u ∧ ∀ w, (Builtin.cap_ ats ty #[x']).run P w = .ok u w := by
  unfold xcap at h
  split at h
  · rename_i e n c hu
    simp only [Option.some.injEq] at h; subst h
    cases hx
    refine ⟨_, .int _ _, fun w => ?_⟩
    simp [Builtin.cap_, hat, run_underlying hu, goInt]
  · rename_i e b n c hu
    have run : ∀ b' n' c' w, (Builtin.cap_ ats ty #[.slice b' n' c']).run P w = .ok (.int .i64 c') w := fun b' n' c' w => by simp [Builtin.cap_, hat, run_underlying hu, goInt]
    cases hc : Nat.ble unk c with
    | true =>
      rw [hc, cond_true] at h
      simp only [Option.some.injEq] at h; subst h
      have hc := Nat.le_of_ble_eq_true hc
      cases hx with
      | slice i o p _ _ c' hp hcc hl =>
        rcases hcc with ⟨_, h2⟩ | ⟨_, h2, h3, _⟩
        · omega
        · exact ⟨_, .ival .f64 _ _ c' (Nat.le_trans (loOf_le _) (Nat.max_le.2 ⟨h2, hl⟩)) h3, run _ _ _⟩
      | vague q c' => exact ⟨_, .ival .f64 _ _ c' (Nat.le_trans (loOf_le _) (Nat.max_le.2 ⟨by rw [unk_lo]; exact Nat.zero_le _, Nat.zero_le _⟩)) (.inl unk_hi), run _ _ _⟩
    | false =>
      rw [hc, cond_false] at h
      simp only [Option.some.injEq] at h; subst h
      have hc' : ¬ unk ≤ c := fun h => by rw [Nat.ble_eq_true_of_le h] at hc; cases hc
      cases hx with
      | slice i o p _ _ c' hp hcc hl =>
        rcases hcc with ⟨rfl, _⟩ | ⟨h1, _⟩
        · exact ⟨_, .int _ _, run _ _ _⟩
        · exact absurd h1 hc'
      | vague q c' => exact absurd (Nat.le_refl _) hc'
  · rename_i n e hu
    simp only [Option.some.injEq] at h; subst h
    refine ⟨_, .int _ _, fun w => ?_⟩
    simp [Builtin.cap_, hat, run_underlying hu, goInt]
  · cases h

/-! ## Comparisons with integers that are not known -/

def icmp (op : BinOp) (a b : Nat × Nat) : Option Value :=
  match op with
  | .lss => (iless a b).map .bool
  | .gtr => (iless b a).map .bool
  | .leq => (iless b a).map fun r => .bool (!r)
  | .geq => (iless a b).map fun r => .bool (!r)
  | .eql => bif iapart a b then some (.bool false) else none
  | .neq => bif iapart a b then some (.bool true) else none
  | _ => none

/-- The rest, by a number that is known. -/
def irem (op : BinOp) (x y : Value) : Option Value :=
  match op, x, y with
  | .rem, .complex f lo _, .int k (.ofNat c) => bif decide (ikind f lo = k) && Nat.ble 1 c then some (.complex f (lo / 18446744073709551616 * 18446744073709551616) c) else none
  | _, _, _ => none

def xbinI (op : BinOp) (x y : Value) : Option Value :=
  match ibound x, ibound y with
  | some (k, a), some (k', b) => bif decide (k = k') then icmp op a b else none
  | _, _ => none

theorem xbinI_ints {P : Program} {σ : Sg} {op : BinOp} {t : TypeId} {k : IntKind} {n m : Nat} {r : Bool} (h : xcmp op (n : Int) (m : Int) = some (.bool r)) (h1 : op ≠ .shl) (h2 : op ≠ .shr) (hx : xarith op k (n : Int) (m : Int) = xcmp op (n : Int) (m : Int)) (ox oy : Operand) :
    ∃ u, VR σ (.bool r) u ∧ ∀ w, ((eqGuard op t ox oy (.int k n) (.int k m)).run P w = .ok () w) ∧ (binOp op t (.int k n) (.int k m)).run P w = .ok u w := by
  have hb : xbin P op t (.int k n) (.int k m) = some (.bool r) := by
    have := hx.trans h
    cases op <;> first | exact absurd rfl h1 | exact absurd rfl h2 | (simp only [xbin, decide_true, cond_true]; exact this)
  obtain ⟨g1, g2⟩ := xbin_sound (σ := σ) hb (.int k n) (.int k m) ox oy
  exact ⟨_, g1, g2⟩

theorem xbinI_sound {P : Program} {σ : Sg} {op : BinOp} {t : TypeId} {x y x' y' : Value} {v : Value} (h : xbinI op x y = some v) (hx : VR σ x x') (hy : VR σ y y') (ox oy : Operand) :
    ∃ u, VR σ v u ∧ ∀ w, ((eqGuard op t ox oy x' y').run P w = .ok () w) ∧ (binOp op t x' y').run P w = .ok u w := by
  have main : ∀ (f : IntKind) (a b : Nat × Nat), ibound x = some (f, a) → ibound y = some (f, b) → icmp op a b = some v → ∃ u, VR σ v u ∧ ∀ w, ((eqGuard op t ox oy x' y').run P w = .ok () w) ∧ (binOp op t x' y').run P w = .ok u w := by
    intro f a b ha hb h
    obtain ⟨a1, a2⟩ := a
    obtain ⟨b1, b2⟩ := b
    obtain ⟨n, rfl, n1, n2⟩ := ibound_sound ha hx
    obtain ⟨m, rfl, m1, m2⟩ := ibound_sound hb hy
    have lt : ∀ r, iless (a1, a2) (b1, b2) = some r → r = decide ((n : Int) < (m : Int)) := fun r hr => iless_sound hr n1 n2 m1 m2
    have gt : ∀ r, iless (b1, b2) (a1, a2) = some r → r = decide ((m : Int) < (n : Int)) := fun r hr => iless_sound hr m1 m2 n1 n2
    have ne : iapart (a1, a2) (b1, b2) = true → (n : Int) ≠ m := by
      intro hne
      unfold iapart at hne
      split at hne
      · rename_i e; have := lt _ e; simp at this; omega
      · split at hne
        · rename_i e; have := gt _ e; simp at this; omega
        · cases hne
    unfold icmp at h
    cases op
    case lss =>
      simp only [Option.map_eq_some_iff] at h
      obtain ⟨r, hr, rfl⟩ := h
      exact xbinI_ints (by rw [lt r hr]; rfl) (by simp) (by simp) rfl ox oy
    case gtr =>
      simp only [Option.map_eq_some_iff] at h
      obtain ⟨r, hr, rfl⟩ := h
      exact xbinI_ints (by rw [gt r hr]; rfl) (by simp) (by simp) rfl ox oy
    case leq =>
      simp only [Option.map_eq_some_iff] at h
      obtain ⟨r, hr, rfl⟩ := h
      refine xbinI_ints ?_ (by simp) (by simp) rfl ox oy
      rw [gt r hr]
      simp only [xcmp]
      congr 2
      by_cases e : (m : Int) < n <;> simp [e] <;> omega
    case geq =>
      simp only [Option.map_eq_some_iff] at h
      obtain ⟨r, hr, rfl⟩ := h
      refine xbinI_ints ?_ (by simp) (by simp) rfl ox oy
      rw [lt r hr]
      simp only [xcmp]
      congr 2
      by_cases e : (n : Int) < m <;> simp [e] <;> omega
    case eql =>
      cases hp : iapart (a1, a2) (b1, b2) with
      | false => simp only [hp, cond_false, reduceCtorEq] at h
      | true =>
        simp only [hp, cond_true, Option.some.injEq] at h
        subst h
        exact xbinI_ints (by have := ne hp; simp [xcmp]; omega) (by simp) (by simp) rfl ox oy
    case neq =>
      cases hp : iapart (a1, a2) (b1, b2) with
      | false => simp only [hp, cond_false, reduceCtorEq] at h
      | true =>
        simp only [hp, cond_true, Option.some.injEq] at h
        subst h
        exact xbinI_ints (by have := ne hp; simp [xcmp]; omega) (by simp) (by simp) rfl ox oy
    all_goals cases h
  unfold xbinI at h
  split at h
  · rename_i k a k' b ha hb
    cases hk : decide (k = k') with
    | false => rw [hk] at h; cases h
    | true =>
      rw [hk, cond_true] at h
      have hk := of_decide_eq_true hk
      subst hk
      exact main k a b ha hb h
  · cases h

theorem irem_sound {P : Program} {σ : Sg} {op : BinOp} {t : TypeId} {x y x' y' : Value} {v : Value} (h : irem op x y = some v) (hx : VR σ x x') (hy : VR σ y y') (ox oy : Operand) :
    ∃ u, VR σ v u ∧ ∀ w, ((eqGuard op t ox oy x' y').run P w = .ok () w) ∧ (binOp op t x' y').run P w = .ok u w := by
  unfold irem at h
  split at h
  · rename_i f lo hi k c
    cases hb : decide (ikind f lo = k) && Nat.ble 1 c with
    | false => rw [hb] at h; cases h
    | true =>
      rw [hb, cond_true, Option.some.injEq] at h
      subst h
      simp only [Bool.and_eq_true, decide_eq_true_eq] at hb
      obtain ⟨rfl, hc⟩ := hb
      have hc := Nat.le_of_ble_eq_true hc
      cases hx with
      | ival _ _ _ n h1 h2 =>
      cases hy
      have hx : xbin P .rem t (.int (ikind f lo) n) (.int (ikind f lo) (Int.ofNat c)) = some (.int (ikind f lo) ((n : Int).tmod (Int.ofNat c))) := by
        have hne : decide (Int.ofNat c = 0) = false := by rw [decide_eq_false_iff_not]; intro e; cases e; omega
        simp only [xbin, decide_true, cond_true, xarith, hne, cond_false]
      obtain ⟨_, g2⟩ := xbin_sound (σ := σ) hx (.int _ _) (.int _ _) ox oy
      refine ⟨_, ?_, g2⟩
      have e1 : (n : Int).tmod (Int.ofNat c) = ((n % c : Nat) : Int) := by
        rw [Int.tmod_eq_emod_of_nonneg (by omega)]
        rfl
      have e2 : ikind f lo = ikind f (lo / 18446744073709551616 * 18446744073709551616) := by
        unfold ikind
        rw [Nat.mul_div_cancel _ (by omega)]
      rw [e1, e2]
      exact .ival f _ c (n % c) (by unfold loOf; rw [Nat.mul_mod_left]; exact Nat.zero_le _) (.inr (Nat.mod_lt _ hc))
  · cases h

def xbin2 (P : Program) (op : BinOp) (t : TypeId) (x y : Value) : Option Value :=
  match xbin P op t x y with
  | some v => some v
  | none => match xbinI op x y with
    | some v => some v
    | none => irem op x y

theorem xbin2_sound {P : Program} {σ : Sg} {op : BinOp} {t : TypeId} {x y x' y' : Value} {v : Value} (h : xbin2 P op t x y = some v) (hx : VR σ x x') (hy : VR σ y y') (ox oy : Operand) :
    ∃ u, VR σ v u ∧ ∀ w, ((eqGuard op t ox oy x' y').run P w = .ok () w) ∧ (binOp op t x' y').run P w = .ok u w := by
  unfold xbin2 at h
  split at h
  · rename_i v' hv
    simp only [Option.some.injEq] at h
    subst h
    exact ⟨_, xbin_sound hv hx hy ox oy⟩
  · split at h
    · rename_i v' hv
      simp only [Option.some.injEq] at h
      subst h
      exact xbinI_sound hv hx hy ox oy
    · exact irem_sound h hx hy ox oy

def xminI (big : Bool) : Value → List Value → Option Value
  | v, [] => match v with
    | .int k n => some (.int k n)
    | _ => none
  | v, y :: ys => match v, y with
    | .int k a, .int _ b => xminI big (.int k (bif big then (bif decide (a < b) then b else a) else (bif decide (b < a) then b else a))) ys
    | _, _ => none

theorem xminI_int {big : Bool} : ∀ {ys : List Value} {x v : Value}, xminI big x ys = some v → ∃ k n, x = .int k n
  | [], x, v, h => by unfold xminI at h; split at h <;> first | exact ⟨_, _, rfl⟩ | cases h
  | y :: ys, x, v, h => by unfold xminI at h; split at h <;> first | exact ⟨_, _, rfl⟩ | cases h

theorem xmin_sound {P : Program} {σ : Sg} : ∀ {xs : List Value} {x v : Value} {xs' : List Value} {x' : Value}, xminI false x xs = some v → VR σ x x' → VRL σ xs xs' →
    VR σ v v ∧ ∀ w, (xs'.foldlM Builtin.min2 x' : Sem Value).run P w = .ok v w
  | [], x, v, xs', x', h, hx, hxs => by
    rw [hxs.unnil]
    unfold xminI at h
    split at h
    · simp only [Option.some.injEq] at h; subst h; cases hx; exact ⟨.int _ _, fun w => by simp⟩
    · cases h
  | y :: ys, x, v, xs', x', h, hx, hxs => by
    obtain ⟨y', ys', rfl, hy, hys⟩ := hxs.uncons
    unfold xminI at h
    split at h
    · rename_i k a k' b
      cases hx; cases hy
      have ih := xmin_sound (P := P) h (.int _ _) hys
      refine ⟨ih.1, fun w => ?_⟩
      have he : (Builtin.min2 (.int k a) (.int k' b)).run P w = .ok (.int k (bif false then (bif decide (a < b) then b else a) else (bif decide (b < a) then b else a))) w := by
        simp only [Builtin.min2, cond_false, Sem.run_pure]
        by_cases hb : b < a <;> simp [hb]
      simp only [List.foldlM_cons, Sem.run_bind, he, Result.andThen_ok]
      exact ih.2 w
    · cases h

theorem xmax_sound {P : Program} {σ : Sg} : ∀ {xs : List Value} {x v : Value} {xs' : List Value} {x' : Value}, xminI true x xs = some v → VR σ x x' → VRL σ xs xs' →
    VR σ v v ∧ ∀ w, (xs'.foldlM Builtin.max2 x' : Sem Value).run P w = .ok v w
  | [], x, v, xs', x', h, hx, hxs => by
    rw [hxs.unnil]
    unfold xminI at h
    split at h
    · simp only [Option.some.injEq] at h; subst h; cases hx; exact ⟨.int _ _, fun w => by simp⟩
    · cases h
  | y :: ys, x, v, xs', x', h, hx, hxs => by
    obtain ⟨y', ys', rfl, hy, hys⟩ := hxs.uncons
    unfold xminI at h
    split at h
    · rename_i k a k' b
      cases hx; cases hy
      have ih := xmax_sound (P := P) h (.int _ _) hys
      refine ⟨ih.1, fun w => ?_⟩
      have he : (Builtin.max2 (.int k a) (.int k' b)).run P w = .ok (.int k (bif true then (bif decide (a < b) then b else a) else (bif decide (b < a) then b else a))) w := by
        simp only [Builtin.max2, cond_true, Sem.run_pure]
        by_cases hb : a < b <;> simp [hb]
      simp only [List.foldlM_cons, Sem.run_bind, he, Result.andThen_ok]
      exact ih.2 w
    · cases h

end Go.Xe
