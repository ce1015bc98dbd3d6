/- The executor, part 20: a call with arguments, cut into a first piece and, for each value of an integer that it has computed, a last one.
  Conditions: none. -/
import Derived.Test.YtbdbkggaadbhoaaGreatXe19
noncomputable section
namespace Go.Xe
open Go.RowKit

/-- What is asked at the end of a call that returns true. -/
def Fin (B : Nat → Prop) (w0 : World) (P : Program) (fn : Func) : Exit → Act → World → Prop :=
  fun e a w => (e = .normal ∨ e = .ret) ∧ a.defers = [] ∧ (results fn a.tmps).run P w = .ok (.bool true) w ∧ ∃ σ hp, HR B w0 σ hp w

theorem lastB_wp {P : Program} (hm : P.follows .mixedOrders = true) {ov : FuncId → Option TypeId} (hov : ∀ g t, ov g = some t → OvOK P g t) {n m nt : Nat} {cs : List Code} {s : St} {fn : Func}
    (h2 : lastB P (xdraw2 P) (exec P ov n) nt m cs s fn.results.toList = true) {B : Nat → Prop} {w0 : World} {σ : Sg} {a : Act} {w : World} (ht : TR σ nt s.tm a.tmps) (hw : HR B w0 σ s.hp w) (hd : a.defers = []) :
    wpL P cs (Fin B w0 P fn) a w := by
  have key : ∀ e tm hp vs, (e = .normal ∨ e = .ret) → xlist P (xdraw2 P) (exec P ov n) nt m cs s.tm s.hp = some (.mk e tm hp []) → xresults P tm hp fn.results.toList = some vs → vs = [.bool true] → wpL P cs (Fin B w0 P fn) a w := by
    rintro e tm hp vs he hx hr rfl
    refine wpL_mono ?_ cs (xlist_runs (exec_ok hm hov n) (xdraw2_ok hm) cs hx (Nat.zero_le _) B w0 σ a w ht hw hd)
    rintro _ a' w' ⟨rfl, hd', σ', _, ht', hw'⟩
    obtain ⟨us, hu1, hu2⟩ := xresults_sound ht' hw' hr
    obtain ⟨r1, r2⟩ := results_run hu1 hu2
    obtain ⟨u, us', rfl, hu, hu3⟩ := hu1.uncons
    rw [hu3.unnil] at r1
    cases hu
    exact ⟨he, hd', r1, σ', hp, hw'⟩
  unfold lastB at h2
  split at h2
  · rename_i tm hp hx
    split at h2
    · rename_i b hr
      exact key .normal tm hp _ (.inl rfl) hx hr (by rw [h2])
    · cases h2
  · rename_i tm hp hx
    split at h2
    · rename_i b hr
      exact key .ret tm hp _ (.inr rfl) hx hr (by rw [h2])
    · cases h2
  · cases h2

/-- The state in which the temporary t is an integer that is known. -/
def St.setI (s : St) (t m : Nat) : St := ⟨s.tms.set t (.int .i64 m), s.bls⟩

theorem TR.setI {σ : Sg} {nt : Nat} {s : St} {t c : Nat} {tmps : Array Value} (h : TR σ nt s.tm tmps) (ht : s.tms[t]? = some (.complex .f64 0 c)) (hc : c ≠ 0) : ∃ m, m < c ∧ TR σ nt (s.setI t m).tm tmps := by
  have h1 := h.at_ t
  have hlt := (List.getElem?_eq_some_iff.1 ht).1
  have e1 : s.tm.get t = some (.complex .f64 0 c) := by unfold St.tm; rw [fill_get, ht]
  rw [e1, Option.getD_some] at h1
  generalize hx : tmps.getD t undef = x at h1
  cases h1 with
  | ival _ _ _ n k1 k2 =>
  refine ⟨n, by omega, h.size, fun k => ?_⟩
  unfold St.tm St.setI
  rw [fill_get, List.getElem?_set]
  by_cases hk : t = k
  · subst hk
    rw [if_pos rfl, if_pos hlt, Option.getD_some, hx]
    exact .int _ _
  · rw [if_neg hk]
    have := h.at_ k
    unfold St.tm at this
    rw [fill_get] at this
    exact this

/-- The first piece of a call with arguments. -/
def firstB (P : Program) (dr : Drawer) (call : Caller) (nt m : Nat) (cs : List Code) (xs : List Value) (l : List Nat) (s' : St) : Bool :=
  match xlist P dr call nt m cs (fill .e 0 xs) Hp.empty with
  | some (.mk .normal tm hp []) => weakB l nt tm hp s'
  | _ => false

theorem calls_of_splits {P : Program} (hm : P.follows .mixedOrders = true) {ov : FuncId → Option TypeId} (hov : ∀ g t, ov g = some t → OvOK P g t) {f k n m nt t c : Nat} {s : St} {xs : List Value} {l : List Nat} (hs : (P.funcs[f]?).isSome = true) (hb : (fnAt P f).body.isSome = true)
    (hn : xs.length + (ntOf P f - xs.length) = nt) (h1 : firstB P (xdraw2 P) (exec P ov n) nt m ((partsOf P f).take k) xs l s = true) (ht : s.tms[t]? = some (.complex .f64 0 c)) (hc : c ≠ 0)
    (h2 : ∀ i, i < c → lastB P (xdraw2 P) (exec P ov n) nt m ((partsOf P f).drop k) (s.setI t i) (resOf' P f) = true) {ys : List Value} (hv : VRL (fun _ => none) xs ys) (w : World) :
    Calls P f ys.toArray w fun e w' => e = .returned (.bool true) ∧ Below w.heap.size w w' := by
  have hfn : P.funcs[f]? = some (fnAt P f) := by
    unfold fnAt
    cases h : P.funcs[f]? with
    | none => rw [h] at hs; cases hs
    | some fn => rfl
  generalize hF : fnAt P f = fn at hfn hb
  cases hbc : fn.body with
  | none => rw [hbc] at hb; cases hb
  | some b =>
    have hparts : partsOf P f = flat b := by unfold partsOf; rw [hF, hbc]
    have hnt : ntOf P f = fn.ntmps := by unfold ntOf; rw [hF]
    have hrs : resOf' P f = fn.results.toList := by unfold resOf'; rw [hF]
    rw [hparts] at h1
    rw [hparts, hrs] at h2
    rw [hnt] at hn
    have h0 := TR.start hv fn.ntmps
    rw [hn] at h0
    have hall : wpL P (flat b) (Fin (· < w.heap.size) w P fn) { tmps := ys.toArray ++ Array.replicate (fn.ntmps - ys.toArray.size) undef, defers := [] } w := by
      rw [← List.take_append_drop k (flat b)]
      refine wpL_append _ _ ?_
      unfold firstB at h1
      split at h1
      · rename_i tm hp hx
        have hr := (xlist_runs (n0 := 0) (exec_ok hm hov n) (xdraw2_ok hm) _ hx (Nat.zero_le _)).weak h1 rfl
        refine wpL_mono ?_ _ (hr (· < w.heap.size) w (fun _ => Option.none) _ w h0 (HR.start w) rfl)
        rintro _ a' w' ⟨rfl, hd', σ', _, ht', hw'⟩
        obtain ⟨i, hi, ht2⟩ := ht'.setI ht hc
        exact lastB_wp hm hov (h2 i hi) ht2 hw' hd'
      · cases h1
    refine callsIn_wide.1 (callsIn_of_wp (n := 0) hfn hbc trivial (wpIn_mono (F := RF none) (wp_of_flat (fun l a w h => by rcases h.1 with h | h <;> cases h) hall) fun e' a' w' hq => ?_))
    obtain ⟨he, hd, hr, σ', hp, hw'⟩ := hq
    rcases he with rfl | rfl
    · exact ⟨hd, _, hr, rfl, hw'.toBelow⟩
    · exact ⟨hd, _, hr, rfl, hw'.toBelow⟩

/-- All of some values. -/
theorem below_cons {p : Nat → Prop} {c : Nat} (h : ∀ i, i < c → p i) (k : p c) : ∀ i, i < c + 1 → p i := by
  intro i hi
  rcases Nat.lt_succ_iff_lt_or_eq.1 hi with h1 | h1
  · exact h i h1
  · rw [h1]; exact k
theorem below_zero {p : Nat → Prop} : ∀ i, i < 0 → p i := fun i h => absurd h (Nat.not_lt_zero i)
end Go.Xe
