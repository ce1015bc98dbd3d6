/- The executor, part 18: a call cut into pieces; a state between two pieces is written anew, with the blocks that are still looked at, and with new numbers.
  Conditions: none. -/
import Derived.Test.YtbdbkggaadbhoaaGreatXe17
noncomputable section
namespace Go.Xe
open Go.RowKit

/-! ## Lists of codes -/

/-- A code's parts, in order. -/
def flat : Code → List Code
  | .seq a b => flat a ++ flat b
  | .scope a => flat a
  | c => [c]

def wpL (P : Program) : List Code → (Exit → Act → World → Prop) → Act → World → Prop
  | [], Q => fun a w => Q .normal a w
  | c :: cs, Q => c.wpIn (RF none) 0 P (Exit.then (wpL P cs Q) Q)

theorem wpL_flat {P : Program} {Q : Exit → Act → World → Prop} (hq : ∀ l a w, ¬ Q (.goto l) a w) : ∀ (c : Code) (cs : List Code) (a : Act) (w : World), wpL P (flat c ++ cs) Q a w → c.wpIn (RF none) 0 P (Exit.then (wpL P cs Q) Q) a w := by
  intro c
  induction c with
  | seq x y ihx ihy =>
    intro cs a w h
    rw [flat, List.append_assoc] at h
    refine wpIn_seq (wpIn_mono (ihx _ a w h) fun e a' w' hq => ?_)
    cases e <;> first | exact hq | exact ihy _ _ _ hq
  | scope x ihx =>
    intro cs a w h
    rw [flat] at h
    refine wpIn_scope_straight (wpIn_mono (ihx _ a w h) fun e a' w' hh => ?_)
    cases e with
    | goto l => exact hq l a' w' hh
    | _ => exact hh
  | _ => intro cs a w h; exact h

theorem wp_of_flat {P : Program} {Q : Exit → Act → World → Prop} (hq : ∀ l a w, ¬ Q (.goto l) a w) {c : Code} {a : Act} {w : World} (h : wpL P (flat c) Q a w) : c.wpIn (RF none) 0 P Q a w := by
  rw [← List.append_nil (flat c)] at h
  refine wpIn_mono (wpL_flat hq c [] a w h) fun e a' w' hq => ?_
  cases e <;> exact hq

theorem wpL_mono {P : Program} {Q Q' : Exit → Act → World → Prop} (hq : ∀ e a w, Q e a w → Q' e a w) : ∀ (cs : List Code) {a : Act} {w : World}, wpL P cs Q a w → wpL P cs Q' a w
  | [], _, _, h => hq _ _ _ h
  | c :: cs, _, _, h => wpIn_mono h fun e a' w' hh => by cases e <;> first | exact wpL_mono hq cs hh | exact hq _ _ _ hh

theorem wpL_append {P : Program} {Q : Exit → Act → World → Prop} : ∀ (cs ds : List Code) {a : Act} {w : World}, wpL P cs (Exit.then (wpL P ds Q) Q) a w → wpL P (cs ++ ds) Q a w
  | [], _, _, _, h => h
  | c :: cs, ds, _, _, h => wpIn_mono h fun e a' w' hh => by cases e <;> first | exact wpL_append cs ds hh | exact hh

/-- The codes, begun in the first state, come to the exit e in the second one; the blocks before n0 keep their places. -/
def Runs (P : Program) (nt n0 : Nat) (cs : List Code) (tm : T Value) (hp : Hp) (e : Exit) (tm' : T Value) (hp' : Hp) : Prop :=
  ∀ B w0 σ a w, TR σ nt tm a.tmps → HR B w0 σ hp w → a.defers = [] → wpL P cs (fun e' a' w' => e' = e ∧ a'.defers = [] ∧ ∃ σ', (∀ i, i < n0 → σ' i = σ i) ∧ TR σ' nt tm' a'.tmps ∧ HR B w0 σ' hp' w') a w

theorem Runs.append {P : Program} {nt n0 : Nat} {cs ds : List Code} {tm tm1 tm2 : T Value} {hp hp1 hp2 : Hp} {e : Exit} (h : Runs P nt n0 cs tm hp .normal tm1 hp1) (k : Runs P nt n0 ds tm1 hp1 e tm2 hp2) : Runs P nt n0 (cs ++ ds) tm hp e tm2 hp2 := by
  intro B w0 σ a w ht hw hd
  refine wpL_append cs ds (wpL_mono ?_ cs (h B w0 σ a w ht hw hd))
  rintro _ a' w' ⟨rfl, hd', σ', hl, ht', hw'⟩
  refine wpL_mono ?_ ds (k B w0 σ' a' w' ht' hw' hd')
  rintro _ a2 w2 ⟨rfl, hd2, σ2, hl2, ht2, hw2⟩
  exact ⟨rfl, hd2, σ2, fun i hi => (hl2 i hi).trans (hl i hi), ht2, hw2⟩

def xlist (P : Program) (dr : Drawer) (call : Caller) (nt m : Nat) : List Code → T Value → Hp → Option XR
  | [], tm, hp => some (.mk .normal tm hp [])
  | c :: cs, tm, hp => match xcode P dr call nt none m c tm hp [] with
    | some (.mk .normal tm' hp' []) => xlist P dr call nt m cs tm' hp'
    | some (.mk .normal _ _ (_ :: _)) => none
    | r => r

theorem DsR.nil {σ : Sg} {D : List Deferred} (h : DsR σ [] D) : D = [] := by
  cases D with
  | nil => rfl
  | cons d D => exact h.elim

theorem xlist_runs {P : Program} {dr : Drawer} {call : Caller} (hcall : CallOK P call) (hdr : DrawOK P dr) {nt m n0 : Nat} : ∀ (cs : List Code) {tm : T Value} {hp : Hp} {e : Exit} {tm' : T Value} {hp' : Hp},
    xlist P dr call nt m cs tm hp = some (.mk e tm' hp' []) → n0 ≤ hp.nx → Runs P nt n0 cs tm hp e tm' hp'
  | [], tm, hp, e, tm', hp', h, _ => by
    simp only [xlist, Option.some.injEq, XR.mk.injEq] at h
    obtain ⟨rfl, rfl, rfl, _⟩ := h
    exact fun B w0 σ a w ht hw hd => ⟨rfl, hd, σ, fun _ _ => rfl, ht, hw⟩
  | c :: cs, tm, hp, e, tm', hp', h, hn0 => by
    intro B w0 σ a w ht hw hd
    simp only [xlist] at h
    cases hx : xcode P dr call nt none m c tm hp [] with
    | none => rw [hx] at h; cases h
    | some r =>
      obtain ⟨e1, tm1, hp1, ds1⟩ := r
      refine wpIn_mono ((xcode_sound (B := B) (w0 := w0) hcall hdr m).1 c tm hp [] e1 tm1 hp1 ds1 σ a w none hx ht hw (by rw [hd]; trivial) trivial) fun e' a' w' hq => ?_
      obtain ⟨rfl, σ', gr, hd', ht', hw'⟩ := hq
      rw [hx] at h
      cases e' with
      | normal =>
        cases ds1 with
        | nil =>
          refine wpL_mono ?_ cs (xlist_runs hcall hdr cs h (Nat.le_trans hn0 gr.nx) B w0 σ' a' w' ht' hw' hd'.nil)
          rintro _ a2 w2 ⟨rfl, hd2, σ2, hl2, ht2, hw2⟩
          exact ⟨rfl, hd2, σ2, fun i hi => (hl2 i hi).trans (gr.low i (by omega)), ht2, hw2⟩
        | cons d ds => cases h
      | _ =>
        simp only [Option.some.injEq, XR.mk.injEq] at h
        obtain ⟨rfl, rfl, rfl, rfl⟩ := h
        exact ⟨rfl, hd'.nil, σ', fun i hi => gr.low i (by omega), ht', hw'⟩

/-! ## Loops -/

def RunsLoop (P : Program) (nt n0 m : Nat) (c : Code) (tm : T Value) (hp : Hp) (e : Exit) (tm' : T Value) (hp' : Hp) : Prop :=
  ∀ B w0 σ a w, TR σ nt tm a.tmps → HR B w0 σ hp w → a.defers = [] → Code.roundsIn (RF none) 0 P c (fun e' a' w' => e' = e ∧ a'.defers = [] ∧ ∃ σ', (∀ i, i < n0 → σ' i = σ i) ∧ TR σ' nt tm' a'.tmps ∧ HR B w0 σ' hp' w') m a w

/-- Some rounds, then the rest of them. -/
theorem RunsLoop.many {P : Program} {nt n0 m : Nat} {c : Code} : ∀ (n : Nat) {tm tm1 tm2 : T Value} {hp hp1 hp2 : Hp} {e : Exit}, Runs P nt n0 (List.replicate n c) tm hp .normal tm1 hp1 → RunsLoop P nt n0 m c tm1 hp1 e tm2 hp2 → RunsLoop P nt n0 (m + n) c tm hp e tm2 hp2 := by
  intro n
  have key : ∀ (n : Nat) (B : Nat → Prop) (w0 : World) (σ : Sg) {tm1 tm2 : T Value} {hp1 hp2 : Hp} {e : Exit} (a : Act) (w : World),
      wpL P (List.replicate n c) (fun e' a' w' => e' = .normal ∧ a'.defers = [] ∧ ∃ σ', (∀ i, i < n0 → σ' i = σ i) ∧ TR σ' nt tm1 a'.tmps ∧ HR B w0 σ' hp1 w') a w → RunsLoop P nt n0 m c tm1 hp1 e tm2 hp2 →
      Code.roundsIn (RF none) 0 P c (fun e' a' w' => e' = e ∧ a'.defers = [] ∧ ∃ σ', (∀ i, i < n0 → σ' i = σ i) ∧ TR σ' nt tm2 a'.tmps ∧ HR B w0 σ' hp2 w') (m + n) a w := by
    intro n
    induction n with
    | zero =>
      intro B w0 σ tm1 tm2 hp1 hp2 e a w h k
      obtain ⟨_, hd', σ', hl, ht', hw'⟩ := h
      refine roundsIn_mono ?_ (k B w0 σ' a w ht' hw' hd')
      rintro _ a2 w2 ⟨rfl, hd2, σ2, hl2, ht2, hw2⟩
      exact ⟨rfl, hd2, σ2, fun i hi => (hl2 i hi).trans (hl i hi), ht2, hw2⟩
    | succ n ih =>
      intro B w0 σ tm1 tm2 hp1 hp2 e a w h k
      show Code.roundsIn (RF none) 0 P c _ ((m + n) + 1) a w
      rw [roundsIn_succ]
      refine wpIn_mono (show c.wpIn (RF none) 0 P _ a w from h) fun e' a' w' hq => ?_
      cases e' with
      | normal => exact ih B w0 σ a' w' hq k
      | _ => obtain ⟨h1, _⟩ := hq; cases h1
  intro tm tm1 tm2 hp hp1 hp2 e h k B w0 σ a w ht hw hd
  exact key n B w0 σ a w (h B w0 σ a w ht hw hd) k

theorem RunsLoop.runs {P : Program} {nt n0 m : Nat} {c : Code} {tm tm' : T Value} {hp hp' : Hp} {e : Exit} (h : RunsLoop P nt n0 m c tm hp e tm' hp') (he : e ≠ .normal) : Runs P nt n0 [.loop c] tm hp e tm' hp' := by
  intro B w0 σ a w ht hw hd
  refine wpIn_mono (wpIn_loop_rounds m (h B w0 σ a w ht hw hd)) fun e' a' w' hq => ?_
  obtain ⟨rfl, hrest⟩ := hq
  cases e' with
  | normal => exact absurd rfl he
  | _ => exact ⟨rfl, hrest⟩

theorem xloop_runs {P : Program} {dr : Drawer} {call : Caller} (hcall : CallOK P call) (hdr : DrawOK P dr) {nt m n0 : Nat} {c : Code} {tm : T Value} {hp : Hp} {e : Exit} {tm' : T Value} {hp' : Hp} (h : xcode P dr call nt none m (.loop c) tm hp [] = some (.mk e tm' hp' [])) (hn0 : n0 ≤ hp.nx) :
    RunsLoop P nt n0 m c tm hp e tm' hp' := by
  intro B w0 σ a w ht hw hd
  refine roundsIn_mono (fun e' a' w' hq => ?_) ((xcode_sound (B := B) (w0 := w0) hcall hdr m).2 c tm hp [] e tm' hp' [] σ a w none h ht hw (by rw [hd]; trivial) trivial)
  obtain ⟨h1, σ', gr, h2, h4, h5⟩ := hq
  exact ⟨h1, h2.nil, σ', fun i hi => gr.low i (by omega), h4, h5⟩

/-- A loop in a block that is left from inside it. -/
theorem Runs.block {P : Program} {nt n0 id : Nat} {c : Code} {tm tm' : T Value} {hp hp' : Hp} (h : Runs P nt n0 [c] tm hp (.exit id) tm' hp') : Runs P nt n0 [.block id c] tm hp .normal tm' hp' := by
  intro B w0 σ a w ht hw hd
  refine wpIn_block (wpIn_mono (h B w0 σ a w ht hw hd) fun e' a' w' hq => ?_)
  cases e' with
  | normal => obtain ⟨h1, _⟩ := hq; cases h1
  | exit j =>
    obtain ⟨h1, h2, h3⟩ := hq
    cases h1
    simp only [Exit.inBlock, if_true]
    exact ⟨rfl, h2, h3⟩
  | _ => obtain ⟨h1, _⟩ := hq; cases h1
end Go.Xe
