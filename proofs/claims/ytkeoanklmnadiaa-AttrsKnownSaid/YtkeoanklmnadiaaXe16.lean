/- The executor, part 16: a closed call, from its run by the executor.
  Conditions: none. -/
import Derived.Test.YtkeoanklmnadiaaXe15
namespace Go.Xe
open Go.RowKit

def yes (r : Option (Value × Hp)) : Bool :=
  match r with
  | some (.bool b, _) => b
  | _ => false

def Hp.empty : Hp := ⟨.e, 0⟩

theorem HR.start (w : World) : HR (· < w.heap.size) w (fun _ => none) Hp.empty w :=
  ⟨rfl, rfl, rfl, Nat.le_refl _, fun _ h => h, fun _ _ => rfl, fun _ _ => rfl, fun i b h => by simp [Hp.empty, T.get] at h, fun i j b b' p q h => by simp [Hp.empty, T.get] at h⟩

theorem HR.toBelow {σ : Sg} {hp : Hp} {w w' : World} (h : HR (· < w.heap.size) w σ hp w') : Below w.heap.size w w' :=
  ⟨h.os, h.tape, h.output, h.size, h.kept⟩

/-- A call without arguments that the executor says yes to. -/
theorem calls_yes {P : Program} (hm : P.follows .mixedOrders = true) {n f : Nat} (h : yes (exec P n f [] Hp.empty) = true) (w : World) :
    Calls P f #[] w fun e w' => e = .returned (.bool true) ∧ Below w.heap.size w w' := by
  unfold yes at h
  split at h
  · rename_i b hp' hx
    subst h
    refine (exec_ok hm n f [] Hp.empty _ hp' hx (· < w.heap.size) w (fun _ => none) w [] (VRL.nil _) (HR.start w)).mono fun e w' he => ?_
    obtain ⟨σ', u, rfl, _, hv, hw'⟩ := he
    cases hv
    exact ⟨rfl, hw'.toBelow⟩
  · cases h
end Go.Xe
