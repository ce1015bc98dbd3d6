/- The executor, part 6: conversions, addresses, lengths, slices of slices.
  Conditions: none. -/
import Derived.Test.YtkeoanklmnadiaaXe5
namespace Go.Xe
open Go.RowKit

def xconv (P : Program) (src dst : TypeId) (x : Value) : Option Value :=
  match P.underlying src with
  | none => none
  | some _ => match P.underlying dst, x with
    | some (.int k), .int _ n => some (.int k (k.wrap n))
    | some .string, .string s => some (.string s)
    | _, _ => none

theorem xconv_sound {P : Program} {σ : Sg} {src dst : TypeId} {x x' v : Value} (h : xconv P src dst x = some v) (hx : VR σ x x') :
    VR σ v v ∧ ∀ w, (convert src dst x').run P w = .ok v w := by
  unfold xconv at h
  split at h
  · cases h
  · rename_i d hs
    split at h
    · rename_i k k' n hd
      cases hx
      simp only [Option.some.injEq] at h; subst h
      exact ⟨.int _ _, fun w => by simp [convert, run_underlying hs, run_underlying hd, Conv.intToInt]⟩
    · rename_i s hd
      cases hx
      simp only [Option.some.injEq] at h; subst h
      exact ⟨.string _, fun w => by simp [convert, run_underlying hs, run_underlying hd]⟩
    · cases h

def xun (op : UnOp) (x : Value) : Option Value :=
  match op, x with
  | .neg, .int k n => some (.int k (k.wrap (0 - n)))
  | .not, .bool b => some (.bool (!b))
  | _, _ => none

theorem xun_sound {P : Program} {σ : Sg} {op : UnOp} {x x' v : Value} (h : xun op x = some v) (hx : VR σ x x') :
    VR σ v v ∧ ∀ w, (Op.unary op x').run P w = .ok v w := by
  unfold xun at h
  split at h
  · cases hx; simp only [Option.some.injEq] at h; subst h; exact ⟨.int _ _, fun w => by simp [Op.unary, Op.intArith]⟩
  · cases hx; simp only [Option.some.injEq] at h; subst h; exact ⟨.bool _, fun w => by simp [Op.unary]⟩
  · cases h

def xiface (P : Program) (t : TypeId) (x : Value) : Option Value :=
  match P.underlying t with
  | some (.interface _) => none
  | some _ => some (.iface t x)
  | none => none

theorem xiface_sound {P : Program} {σ : Sg} {t : TypeId} {x x' v : Value} (h : xiface P t x = some v) (hx : VR σ x x') :
    ∃ u, VR σ v u ∧ ∀ w, (Instr.makeInterface t x').run P w = .ok u w := by
  unfold xiface at h
  split at h
  · cases h
  · rename_i d hd hu
    simp only [Option.some.injEq] at h; subst h
    refine ⟨_, .iface t x x' hx, fun w => ?_⟩
    simp only [Instr.makeInterface, Sem.run_bind, run_underlying hu, Result.andThen_ok]
    cases d <;> first | rfl | (exact (hd _ rfl).elim)
  · cases h

/-! ## Addresses -/

def xfieldAddr (P : Program) (s : TypeId) (x : Value) (f : Nat) : Option Value :=
  match P.underlying s with
  | some (.struct fs) => match fs.toList[f]? with
    | some fd => match P.info? fd.type with
      | some i => bif Nat.beq i.size 0 then none else
        match x with
        | .pointer (some ⟨b, o, none⟩) => some (.pointer (some ⟨b, o + fd.offset, none⟩))
        | _ => none
      | none => none
    | none => none
  | _ => none

theorem xfieldAddr_sound {P : Program} {σ : Sg} {s : TypeId} {x x' v : Value} {f : Nat} (h : xfieldAddr P s x f = some v) (hx : VR σ x x') :
    ∃ u, VR σ v u ∧ ∀ w, (Instr.fieldAt s x' f).run P w = .ok u w := by
  unfold xfieldAddr at h
  split at h
  · rename_i fs hu
    split at h
    · rename_i fd hf
      split at h
      · rename_i i hi
        cases hz : Nat.beq i.size 0 with
        | true => rw [hz] at h; cases h
        | false =>
          rw [hz, cond_false] at h
          have hz' : i.size ≠ 0 := fun e => by rw [e] at hz; cases hz
          split at h
          · rename_i b o
            simp only [Option.some.injEq] at h; subst h
            cases hx with
            | ptr _ _ p hp =>
            have hf' : fs[f]? = some fd := by simpa using hf
            refine ⟨_, .ptr b (o + fd.offset) p hp, fun w => ?_⟩
            simp [Instr.fieldAt, run_underlying hu, hf', Instr.sureAddr, fieldPlace, sizeOf, typeInfo, hi, hz', Addr.add_lit, Nat.add_assoc]
          · cases h
      · cases h
    · cases h
  · cases h

def xindexAddr (P : Program) (t : TypeId) (x ix : Value) : Option Value :=
  match ix with
  | .int _ n => match P.underlying t with
    | some (.slice e) => match P.info? e with
      | some ie => match x with
        | .slice (some ⟨b, o, none⟩) len _ => bif decide (0 ≤ n) && decide (n < len) then some (.pointer (some ⟨b, o + n.toNat * ie.size, none⟩)) else none
        | _ => none
      | none => none
    | some (.array len e) => match P.info? e with
      | some ie => match x with
        | .pointer (some ⟨b, o, none⟩) => bif decide (0 ≤ n) && decide (n < len) then some (.pointer (some ⟨b, o + n.toNat * ie.size, none⟩)) else none
        | _ => none
      | none => none
    | _ => none
  | _ => none

theorem xindexAddr_sound {P : Program} {σ : Sg} {t : TypeId} {x x' i i' v : Value} (h : xindexAddr P t x i = some v) (hx : VR σ x x') (hi : VR σ i i') :
    ∃ u, VR σ v u ∧ ∀ w, (Instr.indexAt t x' i').run P w = .ok u w := by
  unfold xindexAddr at h
  split at h
  · rename_i k n
    cases hi
    split at h
    · rename_i e hu
      split at h
      · rename_i ie hie
        split at h
        · rename_i b o len c
          cases hx with
          | slice _ _ p _ _ c' hp hc hl =>
          cases hb : decide (0 ≤ n) && decide (n < len) with
          | false => rw [hb] at h; cases h
          | true =>
            rw [hb, cond_true] at h
            simp only [Bool.and_eq_true, decide_eq_true_eq] at hb
            simp only [Option.some.injEq] at h; subst h
            refine ⟨_, .ptr b _ p hp, fun w => ?_⟩
            simp [Instr.indexAt, asIntOf, run_underlying hu, hb, sizeOf, typeInfo, hie, Addr.add_lit, Nat.add_assoc]
        · cases h
      · cases h
    · rename_i len e hu
      split at h
      · rename_i ie hie
        split at h
        · rename_i b o
          cases hx with
          | ptr _ _ p hp =>
          cases hb : decide (0 ≤ n) && decide (n < len) with
          | false => rw [hb] at h; cases h
          | true =>
            rw [hb, cond_true] at h
            simp only [Bool.and_eq_true, decide_eq_true_eq] at hb
            simp only [Option.some.injEq] at h; subst h
            refine ⟨_, .ptr b _ p hp, fun w => ?_⟩
            simp [Instr.indexAt, asIntOf, run_underlying hu, Instr.sureAddr, hb, sizeOf, typeInfo, hie, Addr.add_lit, Nat.add_assoc]
        · cases h
      · cases h
    · cases h
  · cases h

/-! ## Lengths -/

def xlen (P : Program) (t : TypeId) (x : Value) : Option Value :=
  match P.underlying t, x with
  | some .string, .string s => some (.int .i64 s.data.toList.length)
  | some (.array n _), _ => some (.int .i64 n)
  | some (.slice _), .slice _ n _ => some (.int .i64 n)
  | some (.map _ _), .map none => some (.int .i64 0)
  | _, _ => none

theorem xlen_sound {P : Program} {σ : Sg} {t : TypeId} {x x' v : Value} (h : xlen P t x = some v) (hx : VR σ x x') (ty : TypeId) (ats : Array TypeId) (hat : ats[0]? = some t) :
    VR σ v v ∧ ∀ w, (Builtin.len_ ats ty #[x']).run P w = .ok v w := by
  unfold xlen at h
  split at h
  · rename_i s hu
    cases hx
    simp only [Option.some.injEq] at h; subst h
    refine ⟨.int _ _, fun w => ?_⟩
    simp [Builtin.len_, hat, run_underlying hu, goInt]
  · rename_i n e hu
    simp only [Option.some.injEq] at h; subst h
    refine ⟨.int _ _, fun w => ?_⟩
    simp [Builtin.len_, hat, run_underlying hu, goInt]
  · rename_i e b n c hu
    simp only [Option.some.injEq] at h; subst h
    refine ⟨.int _ _, fun w => ?_⟩
    cases hx <;> simp [Builtin.len_, hat, run_underlying hu, goInt]
  · rename_i k e hu
    simp only [Option.some.injEq] at h; subst h
    refine ⟨.int _ _, fun w => ?_⟩
    cases hx
    simp [Builtin.len_, hat, run_underlying hu, goInt]
  · cases h

def xcap (P : Program) (t : TypeId) (x : Value) : Option Value :=
  match P.underlying t, x with
  | some (.slice _), .slice _ _ c => bif Nat.beq c unk then none else some (.int .i64 c)
  | some (.array n _), _ => some (.int .i64 n)
  | _, _ => none

theorem xcap_sound {P : Program} {σ : Sg} {t : TypeId} {x x' v : Value} (h : xcap P t x = some v) (hx : VR σ x x') (ty : TypeId) (ats : Array TypeId) (hat : ats[0]? = some t) :
    VR σ v v ∧ ∀ w, (Builtin.cap_ ats ty #[x']).run P w = .ok v w := by
  unfold xcap at h
  split at h
  · rename_i e b n c hu
    cases hc : Nat.beq c unk with
    | true => rw [hc] at h; cases h
    | false =>
      rw [hc, cond_false] at h
      simp only [Option.some.injEq] at h; subst h
      refine ⟨.int _ _, fun w => ?_⟩
      cases hx with
      | nils _ _ => simp [Builtin.cap_, hat, run_underlying hu, goInt]
      | slice i o p _ _ c' hp hcc hl =>
        rcases hcc with ⟨rfl, _⟩ | ⟨rfl, _⟩
        · simp [Builtin.cap_, hat, run_underlying hu, goInt]
        · rw [beq_t rfl] at hc; cases hc
  · rename_i n e hu
    simp only [Option.some.injEq] at h; subst h
    refine ⟨.int _ _, fun w => ?_⟩
    simp [Builtin.cap_, hat, run_underlying hu, goInt]
  · cases h

def xminI (big : Bool) : Value → List Value → Option Value
  | v, [] => match v with
    | .int k n => some (.int k n)
    | _ => none
  | v, y :: ys => match v, y with
    | .int k a, .int _ b => xminI big (.int k (bif big then (bif decide (a < b) then b else a) else (bif decide (b < a) then b else a))) ys
    | _, _ => none

theorem xminI_int {big : Bool} : ∀ {ys : List Value} {x v : Value}, xminI big x ys = some v → ∃ k n, x = .int k n
  | [], x, v, h => by unfold xminI at h; split at h <;> first | exact ⟨_, _, rfl⟩ | cases h
  | y :: ys, x, v, h => by unfold xminI at h; split at h <;> first | exact ⟨_, _, rfl⟩ | cases h

theorem xmin_sound {P : Program} {σ : Sg} : ∀ {xs : List Value} {x v : Value} {xs' : List Value} {x' : Value}, xminI false x xs = some v → VR σ x x' → VRL σ xs xs' →
    VR σ v v ∧ ∀ w, (xs'.foldlM Builtin.min2 x' : Sem Value).run P w = .ok v w
  | [], x, v, xs', x', h, hx, hxs => by
    rw [hxs.unnil]
    unfold xminI at h
    split at h
    · simp only [Option.some.injEq] at h; subst h; cases hx; exact ⟨.int _ _, fun w => by simp⟩
    · cases h
  | y :: ys, x, v, xs', x', h, hx, hxs => by
    obtain ⟨y', ys', rfl, hy, hys⟩ := hxs.uncons
    unfold xminI at h
    split at h
    · rename_i k a k' b
      cases hx; cases hy
      have ih := xmin_sound (P := P) h (.int _ _) hys
      refine ⟨ih.1, fun w => ?_⟩
      have he : (Builtin.min2 (.int k a) (.int k' b)).run P w = .ok (.int k (bif false then (bif decide (a < b) then b else a) else (bif decide (b < a) then b else a))) w := by
        simp only [Builtin.min2, cond_false, Sem.run_pure]
        by_cases hb : b < a <;> simp [hb]
      simp only [List.foldlM_cons, Sem.run_bind, he, Result.andThen_ok]
      exact ih.2 w
    · cases h

theorem xmax_sound {P : Program} {σ : Sg} : ∀ {xs : List Value} {x v : Value} {xs' : List Value} {x' : Value}, xminI true x xs = some v → VR σ x x' → VRL σ xs xs' →
    VR σ v v ∧ ∀ w, (xs'.foldlM Builtin.max2 x' : Sem Value).run P w = .ok v w
  | [], x, v, xs', x', h, hx, hxs => by
    rw [hxs.unnil]
    unfold xminI at h
    split at h
    · simp only [Option.some.injEq] at h; subst h; cases hx; exact ⟨.int _ _, fun w => by simp⟩
    · cases h
  | y :: ys, x, v, xs', x', h, hx, hxs => by
    obtain ⟨y', ys', rfl, hy, hys⟩ := hxs.uncons
    unfold xminI at h
    split at h
    · rename_i k a k' b
      cases hx; cases hy
      have ih := xmax_sound (P := P) h (.int _ _) hys
      refine ⟨ih.1, fun w => ?_⟩
      have he : (Builtin.max2 (.int k a) (.int k' b)).run P w = .ok (.int k (bif true then (bif decide (a < b) then b else a) else (bif decide (b < a) then b else a))) w := by
        simp only [Builtin.max2, cond_true, Sem.run_pure]
        by_cases hb : a < b <;> simp [hb]
      simp only [List.foldlM_cons, Sem.run_bind, he, Result.andThen_ok]
      exact ih.2 w
    · cases h

end Go.Xe
