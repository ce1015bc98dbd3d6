/- The executor, part 1: finite maps from numbers, and the relation between an abstract memory and the model's memory.
  Conditions: none. -/
import Derived.WalkKit
import Derived.Orders
namespace Go.Xe
open Go.RowKit

/-! ## Finite maps from numbers -/

inductive T (α : Type) where
  | e : T α
  | n (l : T α) (v : Option α) (r : T α) : T α

def T.get {α : Type} : T α → Nat → Option α
  | .e, _ => none
  | .n l v r, k => bif Nat.beq k 0 then v else bif Nat.beq (k % 2) 1 then l.get (k / 2) else r.get (k / 2 - 1)

def T.setF {α : Type} : Nat → T α → Nat → Option α → T α
  | 0, t, _, _ => t
  | f + 1, .e, k, x =>
    bif Nat.beq k 0 then .n .e x .e
    else bif Nat.beq (k % 2) 1 then
      match T.setF f .e (k / 2) x with
      | .e => .e
      | .n a b c => .n (.n a b c) none .e
    else
      match T.setF f .e (k / 2 - 1) x with
      | .e => .e
      | .n a b c => .n .e none (.n a b c)
  | f + 1, .n l v r, k, x =>
    bif Nat.beq k 0 then .n l x r
    else bif Nat.beq (k % 2) 1 then
      match T.setF f l (k / 2) x with
      | .e => .e
      | .n a b c => .n (.n a b c) v r
    else
      match T.setF f r (k / 2 - 1) x with
      | .e => .e
      | .n a b c => .n l v (.n a b c)

def T.set {α : Type} (t : T α) (k : Nat) (x : Option α) : T α := T.setF (k + 1) t k x

theorem beq_f {a b : Nat} (h : a ≠ b) : Nat.beq a b = false := by
  cases e : Nat.beq a b
  · rfl
  · exact absurd (Nat.eq_of_beq_eq_true e) h
theorem beq_t {a b : Nat} (h : a = b) : Nat.beq a b = true := by
  subst h; exact Nat.beq_refl _

theorem T.get_e {α : Type} (k : Nat) : (T.e : T α).get k = none := rfl

theorem T.setF_n {α : Type} : ∀ (f : Nat) (t : T α) (k : Nat) (x : Option α), k < f → ∃ a b c, T.setF f t k x = .n a b c := by
  intro f
  induction f with
  | zero => intro t k x h; omega
  | succ f ih =>
    intro t k x h
    cases t with
    | e =>
      simp only [T.setF]
      by_cases h0 : k = 0
      · subst h0; exact ⟨_, _, _, rfl⟩
      · have e0 : Nat.beq k 0 = false := beq_f h0
        by_cases h1 : k % 2 = 1
        · have e1 : Nat.beq (k % 2) 1 = true := beq_t h1
          obtain ⟨a, b, c, e⟩ := ih .e (k / 2) x (by omega)
          rw [e0, e1, e]; exact ⟨_, _, _, rfl⟩
        · have e1 : Nat.beq (k % 2) 1 = false := beq_f h1
          obtain ⟨a, b, c, e⟩ := ih .e (k / 2 - 1) x (by omega)
          rw [e0, e1, e]; exact ⟨_, _, _, rfl⟩
    | n l v r =>
      simp only [T.setF]
      by_cases h0 : k = 0
      · subst h0; exact ⟨_, _, _, rfl⟩
      · have e0 : Nat.beq k 0 = false := beq_f h0
        by_cases h1 : k % 2 = 1
        · have e1 : Nat.beq (k % 2) 1 = true := beq_t h1
          obtain ⟨a, b, c, e⟩ := ih l (k / 2) x (by omega)
          rw [e0, e1, e]; exact ⟨_, _, _, rfl⟩
        · have e1 : Nat.beq (k % 2) 1 = false := beq_f h1
          obtain ⟨a, b, c, e⟩ := ih r (k / 2 - 1) x (by omega)
          rw [e0, e1, e]; exact ⟨_, _, _, rfl⟩

theorem T.get_n {α : Type} (l r : T α) (v : Option α) (k : Nat) :
    (T.n l v r).get k = if k = 0 then v else if k % 2 = 1 then l.get (k / 2) else r.get (k / 2 - 1) := by
  simp only [T.get]
  by_cases h0 : k = 0
  · subst h0; rfl
  · have e0 : Nat.beq k 0 = false := beq_f h0
    rw [e0, if_neg h0]
    by_cases h1 : k % 2 = 1
    · have e1 : Nat.beq (k % 2) 1 = true := beq_t h1
      rw [e1, if_pos h1]; rfl
    · have e1 : Nat.beq (k % 2) 1 = false := beq_f h1
      rw [e1, if_neg h1]; rfl

theorem T.get_setF {α : Type} : ∀ (f : Nat) (t : T α) (k : Nat) (x : Option α) (j : Nat), k < f → (T.setF f t k x).get j = if j = k then x else t.get j := by
  intro f
  induction f with
  | zero => intro t k x j h; omega
  | succ f ih =>
    intro t k x j h
    cases t with
    | e =>
      simp only [T.setF]
      by_cases h0 : k = 0
      · subst h0
        simp only [Nat.beq, cond_true, T.get_n, T.get_e]
        split <;> simp
      · have e0 : Nat.beq k 0 = false := beq_f h0
        by_cases h1 : k % 2 = 1
        · have e1 : Nat.beq (k % 2) 1 = true := beq_t h1
          obtain ⟨a, b, c, e⟩ := T.setF_n f .e (k / 2) x (by omega)
          have hi := fun j => ih .e (k / 2) x j (by omega)
          rw [e] at hi
          rw [e0, e1, e]
          simp only [cond_false, cond_true]
          rw [T.get_n, hi]
          simp only [T.get_e]
          by_cases hj0 : j = 0
          · rw [if_pos hj0, if_neg (by omega)]
          · rw [if_neg hj0]
            by_cases hj1 : j % 2 = 1
            · rw [if_pos hj1]
              by_cases hjk : j = k
              · subst hjk; rw [if_pos rfl, if_pos rfl]
              · rw [if_neg hjk, if_neg (by omega)]
            · rw [if_neg hj1, if_neg (by omega)]
        · have e1 : Nat.beq (k % 2) 1 = false := beq_f h1
          obtain ⟨a, b, c, e⟩ := T.setF_n f .e (k / 2 - 1) x (by omega)
          have hi := fun j => ih .e (k / 2 - 1) x j (by omega)
          rw [e] at hi
          rw [e0, e1, e]
          simp only [cond_false]
          rw [T.get_n, hi]
          simp only [T.get_e]
          by_cases hj0 : j = 0
          · rw [if_pos hj0, if_neg (by omega)]
          · rw [if_neg hj0]
            by_cases hj1 : j % 2 = 1
            · rw [if_pos hj1, if_neg (by omega)]
            · rw [if_neg hj1]
              by_cases hjk : j = k
              · subst hjk; rw [if_pos rfl, if_pos rfl]
              · rw [if_neg hjk, if_neg (by omega)]
    | n l v r =>
      simp only [T.setF]
      by_cases h0 : k = 0
      · subst h0
        simp only [Nat.beq, cond_true, T.get_n]
        split <;> simp_all
      · have e0 : Nat.beq k 0 = false := beq_f h0
        by_cases h1 : k % 2 = 1
        · have e1 : Nat.beq (k % 2) 1 = true := beq_t h1
          obtain ⟨a, b, c, e⟩ := T.setF_n f l (k / 2) x (by omega)
          have hi := fun j => ih l (k / 2) x j (by omega)
          rw [e] at hi
          rw [e0, e1, e]
          simp only [cond_false, cond_true]
          rw [T.get_n (.n a b c) r v j, hi, T.get_n l r v j]
          by_cases hj0 : j = 0
          · rw [if_pos hj0, if_pos hj0, if_neg (by omega)]
          · rw [if_neg hj0, if_neg hj0]
            by_cases hj1 : j % 2 = 1
            · rw [if_pos hj1, if_pos hj1]
              by_cases hjk : j = k
              · subst hjk; rw [if_pos rfl, if_pos rfl]
              · rw [if_neg hjk, if_neg (by omega)]
            · rw [if_neg hj1, if_neg hj1, if_neg (by omega)]
        · have e1 : Nat.beq (k % 2) 1 = false := beq_f h1
          obtain ⟨a, b, c, e⟩ := T.setF_n f r (k / 2 - 1) x (by omega)
          have hi := fun j => ih r (k / 2 - 1) x j (by omega)
          rw [e] at hi
          rw [e0, e1, e]
          simp only [cond_false]
          rw [T.get_n l (.n a b c) v j, hi, T.get_n l r v j]
          by_cases hj0 : j = 0
          · rw [if_pos hj0, if_pos hj0, if_neg (by omega)]
          · rw [if_neg hj0, if_neg hj0]
            by_cases hj1 : j % 2 = 1
            · rw [if_pos hj1, if_pos hj1, if_neg (by omega)]
            · rw [if_neg hj1, if_neg hj1]
              by_cases hjk : j = k
              · subst hjk; rw [if_pos rfl, if_pos rfl]
              · rw [if_neg hjk, if_neg (by omega)]

theorem T.get_set {α : Type} (t : T α) (k : Nat) (x : Option α) (j : Nat) : (t.set k x).get j = if j = k then x else t.get j :=
  T.get_setF (k + 1) t k x j (by omega)

end Go.Xe
