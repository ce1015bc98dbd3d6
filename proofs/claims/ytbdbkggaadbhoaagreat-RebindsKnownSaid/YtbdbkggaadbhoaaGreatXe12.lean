/- The executor, part 12: what an operation of a region that draws its order needs: its kind, and the frame.
  Conditions: none. -/
import Derived.Test.YtbdbkggaadbhoaaGreatXe11
noncomputable section
namespace Go.Xe
open Go.RowKit

/-- 0: touches no memory · 1: reads · 2: lays a new block · 3: all others. -/
def okind : Op → Nat
  | .move _ | .assign _ | .pick _ _ _ | .build _ _ | .nilCheck _ | .binOp _ _ _ _ _ | .unOp _ _ _ | .convert _ _ _ | .makeInterface _ _ | .makeFunc _ _ _
  | .fieldAddr _ _ _ | .field _ _ _ | .indexAddr _ _ _ | .index _ _ _ | .extract _ _ => 0
  | .load _ _ | .slice _ _ _ _ _ | .lookup _ _ _ _ | .call ⟨.builtin .len, _, _⟩ => 1
  | .alloc _ | .box _ _ | .buildSlice _ _ _ | .makeSlice _ _ _ | .makeMap _ _ | .range _ _ => 2
  | .call ⟨.builtin .cap, _, _⟩ | .call ⟨.builtin .min, _, _⟩ | .call ⟨.builtin .max, _, _⟩ => 0
  | _ => 3

theorem xop_pure {P : Program} {call : Caller} {tm : T Value} {o : Op} (h : okind o = 0) : ∃ r : Option Value, ∀ hp, xop P call tm hp o = withHp hp r := by
  cases o with
  | move x => exact ⟨_, fun _ => rfl⟩
  | assign x => exact ⟨_, fun _ => rfl⟩
  | pick c a b =>
    simp only [xop_eq, xopB]
    split
    · rename_i t _
      cases t <;> exact ⟨_, fun _ => rfl⟩
    · exact ⟨none, fun _ => rfl⟩
  | build t ps => simp only [xop_eq, xopB]; split <;> first | exact ⟨_, fun _ => rfl⟩ | exact ⟨none, fun _ => rfl⟩
  | nilCheck x =>
    simp only [xop_eq, xopB]
    split
    · exact ⟨some _, fun _ => rfl⟩
    · exact ⟨some _, fun _ => rfl⟩
    · exact ⟨none, fun _ => rfl⟩
  | binOp op t x y yt =>
    simp only [xop_eq, xopB]
    split
    · split <;> first | exact ⟨_, fun _ => rfl⟩ | exact ⟨none, fun _ => rfl⟩
    · exact ⟨none, fun _ => rfl⟩
  | unOp op t x => simp only [xop_eq, xopB]; split <;> first | exact ⟨_, fun _ => rfl⟩ | exact ⟨none, fun _ => rfl⟩
  | convert s d x => simp only [xop_eq, xopB]; split <;> first | exact ⟨_, fun _ => rfl⟩ | exact ⟨none, fun _ => rfl⟩
  | makeInterface t x => simp only [xop_eq, xopB]; split <;> first | exact ⟨_, fun _ => rfl⟩ | exact ⟨none, fun _ => rfl⟩
  | makeFunc f a b =>
    simp only [xop_eq, xopB]
    split
    · split <;> first | exact ⟨some _, fun _ => rfl⟩ | exact ⟨none, fun _ => rfl⟩
    · exact ⟨none, fun _ => rfl⟩
  | fieldAddr t x f => simp only [xop_eq, xopB]; split <;> first | exact ⟨_, fun _ => rfl⟩ | exact ⟨none, fun _ => rfl⟩
  | field t x f => simp only [xop_eq, xopB]; split <;> first | exact ⟨_, fun _ => rfl⟩ | exact ⟨none, fun _ => rfl⟩
  | indexAddr t x i =>
    simp only [xop_eq, xopB]
    split
    · split <;> first | exact ⟨_, fun _ => rfl⟩ | exact ⟨none, fun _ => rfl⟩
    · exact ⟨none, fun _ => rfl⟩
  | index t x i =>
    simp only [xop_eq, xopB]
    split
    · split <;> first | exact ⟨_, fun _ => rfl⟩ | exact ⟨none, fun _ => rfl⟩
    · exact ⟨none, fun _ => rfl⟩
  | extract x i => simp only [xop_eq, xopB]; split <;> first | exact ⟨_, fun _ => rfl⟩ | exact ⟨none, fun _ => rfl⟩
  | call c =>
    obtain ⟨callee, args, ats⟩ := c
    cases callee with
    | value f => simp [okind] at h
    | invoke r m => simp [okind] at h
    | builtin b =>
      simp only [xop_eq, xopB]
      split
      · rename_i vs _
        generalize ats.toList = tl
        cases b <;> first
          | (simp [okind] at h; done)
          | (rcases tl with _ | ⟨t, _ | ⟨u, r⟩⟩ <;> rcases vs with _ | ⟨x, _ | ⟨y, r2⟩⟩ <;> first | exact ⟨_, fun _ => rfl⟩ | exact ⟨none, fun _ => rfl⟩)
      · exact ⟨none, fun _ => rfl⟩
  | _ => simp [okind] at h

/-- A read, as a value alone. -/
def xrd (P : Program) (tm : T Value) (hp : Hp) (o : Op) : Option Value :=
  match xop P ⟨fun _ _ _ => none, fun _ => none, fun _ _ _ => none⟩ tm hp o with
  | some (v, hp') => bif Nat.beq hp'.nx hp.nx then some v else none
  | none => none

theorem xslice_same {P : Program} {hp hp' : Hp} {t : TypeId} {x v : Value} {lo hi mx : Option Value} (h : xslice P hp t x lo hi mx = some (v, hp')) : hp' = hp := by
  have key : ∀ {a : Value} {q : Hp}, some (a, q) = some (v, hp') → q = hp → hp' = hp := by
    intro a q e1 e2
    simp only [Option.some.injEq, Prod.mk.injEq] at e1
    rw [← e1.2, e2]
  have bi : ∀ {b : Bool} {x y : Option (Value × Hp)}, (bif b then x else y) = some (v, hp') → (x = some (v, hp') → hp' = hp) → (y = some (v, hp') → hp' = hp) → hp' = hp := by
    intro b x y e h1 h2
    cases b
    · exact h2 e
    · exact h1 e
  unfold xslice at h
  split at h
  · split at h
    · split at h
      · cases h
      · split at h
        · exact key h rfl
        · cases h
    · cases h
  · split at h
    · cases h
    · split at h
      · refine bi h (fun h => ?_) (fun h => by cases h)
        split at h
        · exact key h rfl
        · cases h
      · split at h
        · exact key h rfl
        · cases h
      · refine bi h (fun h => ?_) (fun h => ?_)
        · refine bi h (fun h => ?_) (fun h => by cases h)
          split at h
          · cases h
          · refine bi h (fun h => key h rfl) (fun h => key h rfl)
          · refine bi h (fun h => key h rfl) (fun h => ?_)
            refine bi h (fun h => key h rfl) (fun h => ?_)
            · split at h
              · exact bi h (fun h => key h rfl) (fun h => by cases h)
              · cases h
        · refine bi h (fun h => ?_) (fun h => by cases h)
          split at h
          · cases h
          · exact bi h (fun h => key h rfl) (fun h => key h rfl)
      · cases h
  · split at h
    · cases h
    · split at h
      · refine bi h (fun h => ?_) (fun h => by cases h)
        split at h
        · cases h
        · exact bi h (fun h => key h rfl) (fun h => key h rfl)
      · cases h
  · cases h

theorem xrd_xop {P : Program} {call : Caller} {tm : T Value} {hp : Hp} {o : Op} {v : Value} (hk : okind o = 1) (h : xrd P tm hp o = some v) : xop P call tm hp o = some (v, hp) := by
  unfold xrd at h
  split at h
  · rename_i v' hp' hx
    cases hb : Nat.beq hp'.nx hp.nx with
    | false => rw [hb] at h; cases h
    | true =>
      rw [hb, cond_true, Option.some.injEq] at h
      subst h
      have same : hp' = hp := by
        cases o with
        | load t a =>
          simp only [xop_eq, xopB] at hx
          split at hx
          · exact (withHp_some hx).2
          · cases hx
        | slice t x lo hi mx =>
          simp only [xop_eq, xopB] at hx
          split at hx
          · split at hx
            · split at hx
              · split at hx
                · exact xslice_same hx
                · cases hx
              · cases hx
            · cases hx
          · cases hx
        | lookup t x k ok =>
          simp only [xop_eq, xopB] at hx
          split at hx
          · split at hx
            · exact (withHp_some hx).2
            · cases hx
          · cases hx
        | call c =>
          obtain ⟨callee, args, ats⟩ := c
          cases callee with
          | builtin b =>
            cases b <;> first
              | (simp [okind] at hk; done)
              | (simp only [xop_eq, xopB] at hx
                 split at hx
                 · generalize ats.toList = tl at hx
                   rename_i vs _
                   rcases tl with _ | ⟨t, _ | ⟨u, r⟩⟩ <;> rcases vs with _ | ⟨x, _ | ⟨y, r2⟩⟩ <;> simp only [xbuiltin, reduceCtorEq] at hx
                   exact (withHp_some hx).2
                 · cases hx)
          | _ => simp [okind] at hk
        | _ => simp [okind] at hk
      rw [same] at hx
      cases o with
      | load t a => exact hx
      | slice t x lo hi mx => exact hx
      | lookup t x k ok => exact hx
      | call c =>
        obtain ⟨callee, args, ats⟩ := c
        cases callee with
        | builtin b => exact hx
        | _ => simp [okind] at hk
      | _ => simp [okind] at hk
  · cases h

section
variable {P : Program} {B : Nat → Prop} {w0 : World} {σ : Sg} {hp : Hp} {w : World}

/-! ## The frame -/

/-- All blocks that the abstract memory does not hold. -/
def rest (σ : Sg) (hp : Hp) (w : World) : Nat → Prop := fun k => k < w.heap.size ∧ ∀ i b p, hp.m.get i = some b → σ i = some p → p.blk ≠ k

theorem HR.max (h : HR B w0 σ hp w) : HR (rest σ hp w) w σ hp w := by
  refine ⟨rfl, rfl, rfl, Nat.le_refl _, fun k hk => hk.1, fun k _ => rfl, h.fresh, ?_, h.inj⟩
  intro i b hg
  obtain ⟨p, o, h1, h2, h3, h4⟩ := h.live i b hg
  exact ⟨p, o, h1, fun hb => hb.2 i b p hg h1 rfl, h3, h4⟩

theorem HR.back (h : HR B w0 σ hp w) {σ' : Sg} {hp' : Hp} {w' : World} (k : HR (rest σ hp w) w σ' hp' w') : HR B w0 σ' hp' w' := by
  have sub : ∀ b, B b → rest σ hp w b := by
    intro b hb
    refine ⟨by have := h.old b hb; have := h.size; omega, ?_⟩
    intro i b2 p hg hp1 he
    obtain ⟨p', o, h1, h3, _⟩ := h.live i b2 hg
    have : p' = p := Option.some.inj (h1.symm.trans hp1)
    subst this
    exact h3 (he ▸ hb)
  refine ⟨k.os.trans h.os, k.tape.trans h.tape, k.output.trans h.output, Nat.le_trans h.size k.size, h.old, fun b hb => (k.kept b (sub b hb)).trans (h.kept b hb), k.fresh, ?_, k.inj⟩
  intro i b hg
  obtain ⟨p, o, h1, h3, h4⟩ := k.live i b hg
  exact ⟨p, o, h1, fun hb => h3 (sub _ hb), h4⟩

/-- A block that lies in the world, and is not in the abstract memory yet. -/
def Ext (B : Nat → Prop) (σ : Sg) (hp : Hp) (w : World) (id : Nat) (n : Nw) (b : Nat) : Prop :=
  ∃ p o, σ id = some p ∧ p.blk = b ∧ w.heap[b]? = some o ∧ BR σ p n.blk o ∧ ¬ B b ∧ ∀ i b2 q, hp.m.get i = some b2 → σ i = some q → q.blk ≠ b

def Hp.take (hp : Hp) (id : Nat) (n : Nw) : Hp := { hp with m := hp.m.set id (some n.blk) }

theorem HR.take (h : HR B w0 σ hp w) {id b : Nat} {n : Nw} (hx : Ext B σ hp w id n b) : HR B w0 σ (hp.take id n) w := by
  obtain ⟨p, o, h1, rfl, h4, h6, h7, h8⟩ := hx
  refine ⟨h.os, h.tape, h.output, h.size, h.old, h.kept, h.fresh, ?_, ?_⟩
  · intro i b2 hg
    simp only [Hp.take, T.get_set] at hg
    by_cases hi : i = id
    · rw [if_pos hi] at hg
      simp only [Option.some.injEq] at hg
      subst hg; subst hi
      exact ⟨p, o, h1, h7, h4, h6⟩
    · rw [if_neg hi] at hg
      exact h.live i b2 hg
  · intro i j b1 b2 q r hi hj hne hq hr
    simp only [Hp.take, T.get_set] at hi hj
    by_cases ei : i = id
    · have ej : j ≠ id := by omega
      rw [if_neg ej] at hj
      subst ei
      have : q = p := Option.some.inj (hq.symm.trans h1)
      subst this
      exact Ne.symm (h8 j _ r hj hr)
    · rw [if_neg ei] at hi
      by_cases ej : j = id
      · subst ej
        have : r = p := Option.some.inj (hr.symm.trans h1)
        subst this
        exact h8 i _ q hi hq
      · rw [if_neg ej] at hj
        exact h.inj i j _ _ q r hi hj hne hq hr

/-- A new block is laid; the abstract memory does not take it in yet. -/
theorem HR.lay (h : HR B w0 σ hp w) {id : Nat} (hid : σ id = none) (hlt : id < hp.nx) (n : Nw) {o : Obj} {p : Pl} (hpb : p.blk = w.heap.size) (hv : BR σ p n.blk o) :
    HR B w0 (σ.ext id p) hp (w.alloc o) ∧ Ext B (σ.ext id p) hp (w.alloc o) id n w.heap.size := by
  have hle := Sg.le_ext (σ := σ) p hid
  have ha := h.allocO id hp.nx hid (Nat.le_refl _) hlt n.blk o p hpb (hv.mono hle)
  have hne : ∀ i b, hp.m.get i = some b → i ≠ id := by
    intro i b hg e
    subst e
    obtain ⟨p, o, h1, _⟩ := h.live _ b hg
    rw [hid] at h1; cases h1
  have hl := ha.less (m := hp.m) (fun i b hg => by
    show (hp.m.set id _).get i = _
    rw [T.get_set, if_neg (hne i b hg)]; exact hg)
  refine ⟨by simpa using hl, p, o, Sg.ext_same _ _ _, hpb, ?_, hv.mono hle, ?_, ?_⟩
  · show (w.heap.push _)[w.heap.size]? = _; simp
  · intro hb
    have h1 := h.old _ hb; have h2 := h.size; omega
  · intro i b q hg hq
    rw [Sg.ext_other _ _ _ (hne i b hg)] at hq
    obtain ⟨p', o', h1, _, h4, _⟩ := h.live i b hg
    have : p' = q := Option.some.inj (h1.symm.trans hq)
    subst this
    have := (Array.getElem?_eq_some_iff.1 h4).1
    omega
end
end Go.Xe
