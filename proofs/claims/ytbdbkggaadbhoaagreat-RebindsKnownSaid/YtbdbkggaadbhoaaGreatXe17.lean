/- The executor, part 17: a call whose arguments are integers, or structs of integers, that are not known.
  Conditions: none. -/
import Derived.Test.YtbdbkggaadbhoaaGreatXe16
import Derived.ChangeSame
noncomputable section
namespace Go.Xe
open Go.RowKit

theorem calls_yesA {P : Program} (hm : P.follows .mixedOrders = true) {ov : FuncId → Option TypeId} (hov : ∀ g t, ov g = some t → OvOK P g t) {n f : Nat} {xs : List Value} (h : yes ((exec P ov n).run f xs Hp.empty) = true) {ys : List Value} (hv : VRL (fun _ => none) xs ys) (w : World) :
    Calls P f ys.toArray w fun e w' => e = .returned (.bool true) ∧ Below w.heap.size w w' := by
  unfold yes at h
  split at h
  · rename_i b hp' hx
    subst h
    refine ((exec_ok hm hov n).run f xs Hp.empty _ hp' hx (· < w.heap.size) w (fun _ => none) w ys hv (HR.start w)).mono fun e w' he => ?_
    obtain ⟨σ', u, rfl, _, hv, hw'⟩ := he
    cases hv
    exact ⟨rfl, hw'.toBelow⟩
  · cases h

/-- The integers of kind uint32. -/
def anyU32 : Value := .complex .f32 0 4294967296

theorem anyU32_of {P : Program} {w : World} {r : Reach} {b : Nat} {t : TypeId} {v : Value} {σ : Sg} (ht : P.underlying t = some (.int .u32)) (h : Cell.okWide P w r b t v) : VR σ anyU32 v := by
  simp only [Cell.okWide, ht] at h
  have h1 : ∃ n, v = .int .u32 n ∧ IntKind.u32.has n := by
    cases v <;> simp_all [Cell.ok]
  obtain ⟨n, rfl, hn⟩ := h1
  have hr : (0 : Int) ≤ n ∧ n ≤ 4294967295 := by simpa [IntKind.has, IntKind.min, IntKind.max, IntKind.signed, IntKind.bits] using hn
  obtain ⟨m, rfl⟩ := Int.eq_ofNat_of_zero_le hr.1
  exact .ival .f32 0 4294967296 m (Nat.zero_le _) (.inr (by have := hr.2; omega))

/-- The integers of kind uint8. -/
def anyU8 : Value := .complex .f32 36893488147419103232 256

theorem anyU8_of {P : Program} {w : World} {r : Reach} {b : Nat} {t : TypeId} {v : Value} {σ : Sg} (ht : P.underlying t = some (.int .u8)) (h : Cell.okWide P w r b t v) : VR σ anyU8 v := by
  simp only [Cell.okWide, ht] at h
  have h1 : ∃ n, v = .int .u8 n ∧ IntKind.u8.has n := by
    cases v <;> simp_all [Cell.ok]
  obtain ⟨n, rfl, hn⟩ := h1
  have hr : (0 : Int) ≤ n ∧ n ≤ 255 := by simpa [IntKind.has, IntKind.min, IntKind.max, IntKind.signed, IntKind.bits] using hn
  obtain ⟨m, rfl⟩ := Int.eq_ofNat_of_zero_le hr.1
  exact .ival .f32 36893488147419103232 256 m (Nat.zero_le _) (.inr (by have := hr.2; omega))

theorem anyU8_of' {P : Program} {w : World} {r : Reach} {b : Nat} {t : TypeId} {v : Value} {σ : Sg} (ht : P.underlying t = some (.int .u8)) (h : Value.okWide P w r b t v) : VR σ anyU8 v :=
  anyU8_of ht (by unfold Value.okWide at h; rw [ht] at h; exact h)

/-- The structs of two integers of kind uint32. -/
def anyPair : Value := .agg #[anyU32, anyU32]

theorem anyPair_of {P : Program} {w : World} {r : Reach} {b : Nat} {t a c : TypeId} {fs : Array Field} {v : Value} {σ : Sg} (ht : P.underlying t = some (.struct fs)) (hc : P.cellTypes P.depth t = some [a, c]) (hn : P.cellsOf t = 2)
    (ha : P.underlying a = some (.int .u32)) (hb : P.underlying c = some (.int .u32)) (h : Value.okWide P w r b t v) : VR σ anyPair v := by
  simp only [Value.okWide, ht] at h
  obtain ⟨cs, rfl, hsz, ts, hts, _, hcs⟩ := h
  rw [hc] at hts
  cases hts
  rw [hn] at hsz
  obtain ⟨cs⟩ := cs
  match cs, hsz with
  | [x, y], _ =>
    obtain ⟨u, hu, hx⟩ := hcs 0 x rfl
    obtain ⟨u', hu', hy⟩ := hcs 1 y rfl
    cases hu; cases hu'
    exact VRL.to_agg (VRL.cons (anyU32_of ha hx) (VRL.cons (anyU32_of hb hy) (VRL.nil σ)))

/-- Those of them that are zero; those whose first integer is not 0; the others. -/
def zeroPair : Value := .agg #[.int .u32 0, .int .u32 0]
def fstPair : Value := .agg #[.complex .f32 1 4294967296, anyU32]
def sndPair : Value := .agg #[.int .u32 0, .complex .f32 1 4294967296]

theorem anyU32_cases {v : Value} {σ : Sg} (h : VR σ anyU32 v) : VR σ (.int .u32 0) v ∨ VR σ (.complex .f32 1 4294967296) v := by
  cases h with
  | ival _ _ _ n h1 h2 =>
    by_cases hn : n = 0
    · subst hn; exact .inl (.int _ _)
    · exact .inr (.ival .f32 1 4294967296 n (by show 1 % 18446744073709551616 ≤ n; omega) h2)

theorem anyPair_cases {v : Value} {σ : Sg} (h : VR σ anyPair v) : VR σ zeroPair v ∨ VR σ fstPair v ∨ VR σ sndPair v := by
  obtain ⟨ys, rfl, k⟩ := VRL.of_agg h
  obtain ⟨x, ys1, e1, hx, k1⟩ := k.uncons
  obtain ⟨y, ys2, e2, hy, k2⟩ := k1.uncons
  have e3 := k2.unnil
  obtain ⟨ys⟩ := ys
  simp only at e1
  subst e1 e2 e3
  rcases anyU32_cases hx with h0 | h0
  · rcases anyU32_cases hy with h1 | h1
    · exact .inl (VRL.to_agg (VRL.cons h0 (VRL.cons h1 (VRL.nil σ))))
    · exact .inr (.inr (VRL.to_agg (VRL.cons h0 (VRL.cons h1 (VRL.nil σ)))))
  · exact .inr (.inl (VRL.to_agg (VRL.cons h0 (VRL.cons hy (VRL.nil σ)))))

section
open Go.ChangeShapes
variable {H : Type} {enc : TypeId × Value → H} {P : Program} {w : World} {base : Nat} {spare : Nat → Bool} {held : Bool}

/-- A reading of a struct of two integers of kind uint32 is the same in any memory. -/
theorem pair_again {t : TypeId} {f0 f1 : Field} {v : Value} {d : DataW H} {ps : List MemPlace} (ht : P.underlying t = some (.struct #[f0, f1])) (ha : P.underlying f0.type = some (.int .u32)) (hb : P.underlying f1.type = some (.int .u32))
    (h : DataW.Trod enc P w base spare held t v d ps) (w' : World) (base' : Nat) (spare' : Nat → Bool) (held' : Bool) : DataW.Trod enc P w' base' spare' held' t v d ps := by
  obtain ⟨fuel, h⟩ := h
  obtain ⟨y0, y1, n, hx, hl, h0, h1⟩ := trod_struct2 ht h
  obtain ⟨a, e0, rfl, w0⟩ := DataW.trod_int ha h0
  obtain ⟨b, e1, rfl, w1⟩ := DataW.trod_int hb h1
  cases hx
  exact ⟨0 + 1 + 1, trod_struct2_mk ht hl (by rw [e0]; exact trod_int_mk 0 ha w0) (by rw [e1]; exact trod_int_mk 0 hb w1)⟩
end

end Go.Xe
