/- The executor, part 1: finite maps from numbers, and the relation between an abstract memory and the model's memory.
  Conditions: none. -/
import Derived.WalkKit
import Derived.Orders
noncomputable section
namespace Go.Xe
open Go.RowKit

/-! ## Finite maps from numbers -/

inductive T (α : Type) where
  | e : T α
  | n (v : Option α) (a b c d : T α) : T α

/-- The path to a number: 0 lies at the root, k + 1 in the tree of number k mod 4, at k / 4. -/
inductive K where
  | z : K
  | a (k : K) : K
  | b (k : K) : K
  | c (k : K) : K
  | d (k : K) : K

def K.pick (p : K) (r : Nat) : K := Nat.rec (motive := fun _ => K) (.a p) (fun r _ => Nat.rec (motive := fun _ => K) (.b p) (fun r _ => Nat.rec (motive := fun _ => K) (.c p) (fun _ _ => .d p) r) r) r
def K.ofF (f : Nat) : Nat → K :=
  Nat.rec (motive := fun _ => Nat → K) (fun _ => .z) (fun _ ih k => Nat.rec (motive := fun _ => K) .z (fun m _ => K.pick (ih (Nat.div m 4)) (Nat.mod m 4)) k) f
def K.of (k : Nat) : K := K.ofF (k + 1) k

/-- f at t, when t is known. -/
def T.force {α β : Type} (t : T α) (f : T α → β) : β := T.rec (motive := fun _ => β) (f .e) (fun v a b c d _ _ _ _ => f (.n v a b c d)) t
theorem T.force_eq {α β : Type} (t : T α) (f : T α → β) : t.force f = f t := by cases t <;> rfl

def T.top {α : Type} (t : T α) : Option α := T.rec (motive := fun _ => Option α) none (fun v _ _ _ _ _ _ _ _ => v) t
def T.ta {α : Type} (t : T α) : T α := T.rec (motive := fun _ => T α) .e (fun _ a _ _ _ _ _ _ _ => a) t
def T.tb {α : Type} (t : T α) : T α := T.rec (motive := fun _ => T α) .e (fun _ _ b _ _ _ _ _ _ => b) t
def T.tc {α : Type} (t : T α) : T α := T.rec (motive := fun _ => T α) .e (fun _ _ _ c _ _ _ _ _ => c) t
def T.td {α : Type} (t : T α) : T α := T.rec (motive := fun _ => T α) .e (fun _ _ _ _ d _ _ _ _ => d) t

def T.getK {α : Type} (p : K) : T α → Option α :=
  K.rec (motive := fun _ => T α → Option α) (fun t => t.top) (fun _ ih t => ih t.ta) (fun _ ih t => ih t.tb) (fun _ ih t => ih t.tc) (fun _ ih t => ih t.td) p
def T.get {α : Type} (t : T α) (k : Nat) : Option α := T.getK (K.of k) t

def T.putz {α : Type} (x : Option α) (t : T α) : T α := T.rec (motive := fun _ => T α) (.n x .e .e .e .e) (fun _ a b c d _ _ _ _ => .n x a b c d) t
def T.puta {α : Type} (ih : Option α → T α → T α) (x : Option α) (t : T α) : T α :=
  T.rec (motive := fun _ => T α) ((ih x .e).force fun s => .n none s .e .e .e) (fun v a b c d _ _ _ _ => (ih x a).force fun s => .n v s b c d) t
def T.putb {α : Type} (ih : Option α → T α → T α) (x : Option α) (t : T α) : T α :=
  T.rec (motive := fun _ => T α) ((ih x .e).force fun s => .n none .e s .e .e) (fun v a b c d _ _ _ _ => (ih x b).force fun s => .n v a s c d) t
def T.putc {α : Type} (ih : Option α → T α → T α) (x : Option α) (t : T α) : T α :=
  T.rec (motive := fun _ => T α) ((ih x .e).force fun s => .n none .e .e s .e) (fun v a b c d _ _ _ _ => (ih x c).force fun s => .n v a b s d) t
def T.putd {α : Type} (ih : Option α → T α → T α) (x : Option α) (t : T α) : T α :=
  T.rec (motive := fun _ => T α) ((ih x .e).force fun s => .n none .e .e .e s) (fun v a b c d _ _ _ _ => (ih x d).force fun s => .n v a b c s) t

def T.setK {α : Type} (p : K) : Option α → T α → T α :=
  K.rec (motive := fun _ => Option α → T α → T α) T.putz (fun _ ih => T.puta ih) (fun _ ih => T.putb ih) (fun _ ih => T.putc ih) (fun _ ih => T.putd ih) p
def T.set {α : Type} (t : T α) (k : Nat) (x : Option α) : T α := T.setK (K.of k) x t

theorem beq_f {a b : Nat} (h : a ≠ b) : Nat.beq a b = false := by
  cases e : Nat.beq a b
  · rfl
  · exact absurd (Nat.eq_of_beq_eq_true e) h
theorem beq_t {a b : Nat} (h : a = b) : Nat.beq a b = true := by
  subst h; exact Nat.beq_refl _

theorem T.getK_e {α : Type} : ∀ p : K, T.getK p (.e : T α) = none
  | .z => rfl
  | .a p => T.getK_e p
  | .b p => T.getK_e p
  | .c p => T.getK_e p
  | .d p => T.getK_e p
theorem T.get_e {α : Type} (k : Nat) : (T.e : T α).get k = none := T.getK_e _

theorem T.getK_setK {α : Type} (x : Option α) : ∀ (p : K) (t : T α) (q : K), (p = q → T.getK q (T.setK p x t) = x) ∧ (p ≠ q → T.getK q (T.setK p x t) = T.getK q t) := by
  intro p
  induction p with
  | z =>
    intro t q
    refine ⟨fun h => by subst h; cases t <;> rfl, fun h => ?_⟩
    cases q with
    | z => exact absurd rfl h
    | _ => cases t <;> rfl
  | a p ih =>
    intro t q
    have e : T.setK (.a p) x t = T.n t.top (T.setK p x t.ta) t.tb t.tc t.td := by
      cases t with
      | e => exact T.force_eq (T.setK p x .e) (fun s => T.n none s .e .e .e)
      | n v a b c d => exact T.force_eq (T.setK p x a) (fun s => T.n v s b c d)
    rw [e]
    cases q with
    | a q => exact ⟨fun h => (ih t.ta q).1 (by injection h), fun h => (ih t.ta q).2 (fun h' => h (by rw [h']))⟩
    | _ => exact ⟨fun h => (by cases h), fun _ => by cases t <;> rfl⟩
  | b p ih =>
    intro t q
    have e : T.setK (.b p) x t = T.n t.top t.ta (T.setK p x t.tb) t.tc t.td := by
      cases t with
      | e => exact T.force_eq (T.setK p x .e) (fun s => T.n none .e s .e .e)
      | n v a b c d => exact T.force_eq (T.setK p x b) (fun s => T.n v a s c d)
    rw [e]
    cases q with
    | b q => exact ⟨fun h => (ih t.tb q).1 (by injection h), fun h => (ih t.tb q).2 (fun h' => h (by rw [h']))⟩
    | _ => exact ⟨fun h => (by cases h), fun _ => by cases t <;> rfl⟩
  | c p ih =>
    intro t q
    have e : T.setK (.c p) x t = T.n t.top t.ta t.tb (T.setK p x t.tc) t.td := by
      cases t with
      | e => exact T.force_eq (T.setK p x .e) (fun s => T.n none .e .e s .e)
      | n v a b c d => exact T.force_eq (T.setK p x c) (fun s => T.n v a b s d)
    rw [e]
    cases q with
    | c q => exact ⟨fun h => (ih t.tc q).1 (by injection h), fun h => (ih t.tc q).2 (fun h' => h (by rw [h']))⟩
    | _ => exact ⟨fun h => (by cases h), fun _ => by cases t <;> rfl⟩
  | d p ih =>
    intro t q
    have e : T.setK (.d p) x t = T.n t.top t.ta t.tb t.tc (T.setK p x t.td) := by
      cases t with
      | e => exact T.force_eq (T.setK p x .e) (fun s => T.n none .e .e .e s)
      | n v a b c d => exact T.force_eq (T.setK p x d) (fun s => T.n v a b c s)
    rw [e]
    cases q with
    | d q => exact ⟨fun h => (ih t.td q).1 (by injection h), fun h => (ih t.td q).2 (fun h' => h (by rw [h']))⟩
    | _ => exact ⟨fun h => (by cases h), fun _ => by cases t <;> rfl⟩

theorem K.pick_eq (p : K) (r : Nat) : K.pick p r = if r = 0 then .a p else if r = 1 then .b p else if r = 2 then .c p else .d p := by
  match r with
  | 0 => rfl
  | 1 => rfl
  | 2 => rfl
  | r + 3 => rw [if_neg (by omega), if_neg (by omega), if_neg (by omega)]; rfl

theorem K.pick_inj {p q : K} {r s : Nat} (hr : r < 4) (hs : s < 4) (h : K.pick p r = K.pick q s) : p = q ∧ r = s := by
  rw [K.pick_eq, K.pick_eq] at h
  split at h <;> split at h <;> first
    | (injection h with h1; exact ⟨h1, by omega⟩)
    | (cases h; done)
    | (split at h <;> first | (injection h with h1; exact ⟨h1, by omega⟩) | (cases h; done) | (split at h <;> first | (injection h with h1; exact ⟨h1, by omega⟩) | (cases h; done) | (split at h <;> first | (injection h with h1; exact ⟨h1, by omega⟩) | (cases h; done) | (split at h <;> first | (injection h with h1; exact ⟨h1, by omega⟩) | (cases h; done)))))

theorem K.ofF_inj : ∀ (f g j k : Nat), j < f → k < g → K.ofF f j = K.ofF g k → j = k := by
  intro f
  induction f with
  | zero => intro g j k h; omega
  | succ f ih =>
    intro g j k hj hk h
    cases g with
    | zero => omega
    | succ g =>
      have pz : ∀ (p : K) (r : Nat), K.pick p r ≠ .z := by
        intro p r
        rw [K.pick_eq]
        repeat' split
        all_goals (intro h; cases h)
      cases j with
      | zero =>
        cases k with
        | zero => rfl
        | succ k => exact absurd h.symm (pz _ _)
      | succ j =>
        cases k with
        | zero => exact absurd h (pz _ _)
        | succ k =>
          have h' : K.pick (K.ofF f (j / 4)) (j % 4) = K.pick (K.ofF g (k / 4)) (k % 4) := h
          obtain ⟨h1, h2⟩ := K.pick_inj (Nat.mod_lt _ (by omega)) (Nat.mod_lt _ (by omega)) h'
          have := ih g (j / 4) (k / 4) (by omega) (by omega) h1
          omega

theorem T.get_set {α : Type} (t : T α) (k : Nat) (x : Option α) (j : Nat) : (t.set k x).get j = if j = k then x else t.get j := by
  obtain ⟨h1, h2⟩ := T.getK_setK x (K.of k) t (K.of j)
  by_cases h : j = k
  · subst h; rw [if_pos rfl]; exact h1 rfl
  · rw [if_neg h]; exact h2 (fun e => h (K.ofF_inj _ _ _ _ (by omega) (by omega) e).symm)
/- HOOK -/

end Go.Xe
