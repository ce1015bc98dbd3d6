/- The executor, part 16: a closed call, from its run by the executor.
  Conditions: none. -/
import Derived.Test.YtbdbkggaadbhoaaGreatXeD
noncomputable section
namespace Go.Xe
open Go.RowKit

def yes (r : Option (Value × Hp)) : Bool :=
  match r with
  | some (.bool b, _) => b
  | _ => false

def Hp.empty : Hp := ⟨.e, 0⟩

theorem HR.start (w : World) : HR (· < w.heap.size) w (fun _ => none) Hp.empty w :=
  ⟨rfl, rfl, rfl, Nat.le_refl _, fun _ h => h, fun _ _ => rfl, fun _ _ => rfl, fun i b h => by simp [Hp.empty, T.get_e] at h, fun i j b b' p q h => by simp [Hp.empty, T.get_e] at h⟩

theorem HR.toBelow {σ : Sg} {hp : Hp} {w w' : World} (h : HR (· < w.heap.size) w σ hp w') : Below w.heap.size w w' :=
  ⟨h.os, h.tape, h.output, h.size, h.kept⟩

/-- A call without arguments that the executor says yes to. -/
def noOv : FuncId → Option TypeId := fun _ => none
theorem noOv_ok {P : Program} : ∀ g t, noOv g = some t → OvOK P g t := fun _ _ h => by cases h

theorem calls_yes {P : Program} (hm : P.follows .mixedOrders = true) {ov : FuncId → Option TypeId} (hov : ∀ g t, ov g = some t → OvOK P g t) {n f : Nat} (h : yes ((exec P ov n).run f [] Hp.empty) = true) (w : World) :
    Calls P f #[] w fun e w' => e = .returned (.bool true) ∧ Below w.heap.size w w' := by
  unfold yes at h
  split at h
  · rename_i b hp' hx
    subst h
    refine ((exec_ok hm hov n).run f [] Hp.empty _ hp' hx (· < w.heap.size) w (fun _ => none) w [] (VRL.nil _) (HR.start w)).mono fun e w' he => ?_
    obtain ⟨σ', u, rfl, _, hv, hw'⟩ := he
    cases hv
    exact ⟨rfl, hw'.toBelow⟩
  · cases h

/-- A program's function, by number. -/
def fnAt (P : Program) (g : FuncId) : Func := (P.funcs[g]?).getD { name := "", origin := "", params := #[], resultTypes := #[], nfree := 0, ntmps := 0, results := #[], body := none, norace := false, tmpNames := #[] }

theorem OvOK.of {P : Program} {g : FuncId} {t : TypeId} (r : TypeId) (h0 : (P.funcs[g]?).isSome = true) (h1 : ((fnAt P g).name == "runtime.NumGoroutine") = false) (h2 : (fnAt P g).body.isNone = true)
    (h3 : Extern.findNext (fnAt P g) = none) (h4 : Extern.find (fnAt P g) = some (Extern.SlicesOverlaps.overlaps #[t, t] #[r])) : OvOK P g t := by
  refine ⟨fnAt P g, r, ?_, h1, h2, h3, h4⟩
  unfold fnAt
  cases h : P.funcs[g]? with
  | none => rw [h] at h0; cases h0
  | some fn => rfl

def ovIf (g0 : FuncId) (t0 : TypeId) (rest : FuncId → Option TypeId) : FuncId → Option TypeId := fun g => bif Nat.beq g g0 then some t0 else rest g

theorem ovIf_ok {P : Program} {g0 : FuncId} {t0 : TypeId} {rest : FuncId → Option TypeId} (h : OvOK P g0 t0) (hr : ∀ g t, rest g = some t → OvOK P g t) : ∀ g t, ovIf g0 t0 rest g = some t → OvOK P g t := by
  intro g t hg
  unfold ovIf at hg
  cases hb : Nat.beq g g0 with
  | true =>
    rw [hb, cond_true, Option.some.injEq] at hg
    rw [Nat.eq_of_beq_eq_true hb, ← hg]
    exact h
  | false => rw [hb, cond_false] at hg; exact hr g t hg
end Go.Xe
