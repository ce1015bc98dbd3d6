/-
  No cell of these rows narrows 'for every input' (looked for: loops, veiled, ifaces, maps, wideKeys, modest, calm, conditions, laid).
  DERIVED. THE GIVEN ROWS OF THIS SEAT. 5 by the template 'for every input the law returns true; each argument reads behind the call as it read before'; 0 by the template 'total and deterministic' (their statements: YtpdcecfnlccicaaTotals.lean).
  GIVEN WITH THE SEED: the statements are not yours to turn. If you find one false, say at which input.
  Laid BY PROGRAM, IN A SANDBOX (cutbox-rows.mjs): the forced cells as the released guide's own fill.sh prints them over the translation 25ae842b5964c88b… (all of the seat's roots in one cut). By AI agents, Wed Nov 11 2026. No macro, syntax, notation, axiom, sorry.
-/
import Derived.Test.YtpdcecfnlccicaaChecked
import GoSem.Claim
import GoSem.ClaimJoined
import GoSem.ClaimMapViews
import Derived.JoinedTies
import Derived.KernelRfl
namespace Go.Proofs.Ytpdcecfnlccicaa
/- THE CELL 'sum', in the pinned program and in every row, IS THE sha256 OF THE DUMP (.gsa) THAT YtpdcecfnlccicaaProg.lean LOADS. Nothing in Lean hashes anything: it is a label: what it is worth is what the hold of that sum in a sandbox is worth. -/
noncomputable def Try.pinned : Pinned := { name := "ytpdcecfnlccicaa", sum := "25ae842b5964c88b7f57b4731a70ac50a2700c9d5b4811ebc8805eefa40380ac", checked := Try.checked }
namespace Rows
def none {H : Type} : Left H := { results := [], args := [] }

/-- 'paternosterlaw36.PlansSame': WHATEVER THE INPUT: true; the input reads as it did. -/
def plansSameSpec : ChangeSpec := { name := "plansSame", fn := fun _ => fun
  | [d] => { results := [.lit (.bool true)], args := [d] }
  | _ => none }
def plansSameRow : OpenClaim := { program := "ytpdcecfnlccicaa", sum := "25ae842b5964c88b7f57b4731a70ac50a2700c9d5b4811ebc8805eefa40380ac", func := "paternoster/paternosterlaw36.PlansSame", spec := "plansSame", unfollowed := true, recurses := true, plainKeys := false, apart := false }
def PlansSameSaid : Prop := plansSameRow.holds Try.pinned (OpenSpec.ofChange plansSameSpec)

/-- ITS FALSE NEIGHBOUR: 'it returns false'. Refute it at one input. -/
def plansSameWrong : ChangeSpec := { name := "plansSame", fn := fun _ => fun
  | [d] => { results := [.lit (.bool false)], args := [d] }
  | _ => none }
def PlansSameWrongFalsely : Prop := plansSameRow.holds Try.pinned (OpenSpec.ofChange plansSameWrong)

/-- 'paternosterlaw36.PlansCarry': WHATEVER THE INPUT: true; the input reads as it did. -/
def plansCarrySpec : ChangeSpec := { name := "plansCarry", fn := fun _ => fun
  | [d] => { results := [.lit (.bool true)], args := [d] }
  | _ => none }
def plansCarryRow : OpenClaim := { program := "ytpdcecfnlccicaa", sum := "25ae842b5964c88b7f57b4731a70ac50a2700c9d5b4811ebc8805eefa40380ac", func := "paternoster/paternosterlaw36.PlansCarry", spec := "plansCarry", unfollowed := true, recurses := true, plainKeys := false, apart := false }
def PlansCarrySaid : Prop := plansCarryRow.holds Try.pinned (OpenSpec.ofChange plansCarrySpec)

/-- ITS FALSE NEIGHBOUR: 'it returns false'. Refute it at one input. -/
def plansCarryWrong : ChangeSpec := { name := "plansCarry", fn := fun _ => fun
  | [d] => { results := [.lit (.bool false)], args := [d] }
  | _ => none }
def PlansCarryWrongFalsely : Prop := plansCarryRow.holds Try.pinned (OpenSpec.ofChange plansCarryWrong)

/-- 'paternosterlaw36.PlansOf': WHATEVER THE INPUT: true; the input reads as it did. -/
def plansOfSpec : ChangeSpec := { name := "plansOf", fn := fun _ => fun
  | [d] => { results := [.lit (.bool true)], args := [d] }
  | _ => none }
def plansOfRow : OpenClaim := { program := "ytpdcecfnlccicaa", sum := "25ae842b5964c88b7f57b4731a70ac50a2700c9d5b4811ebc8805eefa40380ac", func := "paternoster/paternosterlaw36.PlansOf", spec := "plansOf", unfollowed := true, recurses := true, plainKeys := false, apart := false }
def PlansOfSaid : Prop := plansOfRow.holds Try.pinned (OpenSpec.ofChange plansOfSpec)

/-- ITS FALSE NEIGHBOUR: 'it returns false'. Refute it at one input. -/
def plansOfWrong : ChangeSpec := { name := "plansOf", fn := fun _ => fun
  | [d] => { results := [.lit (.bool false)], args := [d] }
  | _ => none }
def PlansOfWrongFalsely : Prop := plansOfRow.holds Try.pinned (OpenSpec.ofChange plansOfWrong)

/-- 'paternosterlaw36.PlansErrors': WHATEVER THE INPUT: true; the input reads as it did. -/
def plansErrorsSpec : ChangeSpec := { name := "plansErrors", fn := fun _ => fun
  | [d1, d2, d3] => { results := [.lit (.bool true)], args := [d1, d2, d3] }
  | _ => none }
def plansErrorsRow : OpenClaim := { program := "ytpdcecfnlccicaa", sum := "25ae842b5964c88b7f57b4731a70ac50a2700c9d5b4811ebc8805eefa40380ac", func := "paternoster/paternosterlaw36.PlansErrors", spec := "plansErrors", unfollowed := true, recurses := true, plainKeys := false, apart := false }
def PlansErrorsSaid : Prop := plansErrorsRow.holds Try.pinned (OpenSpec.ofChange plansErrorsSpec)

/-- ITS FALSE NEIGHBOUR: 'it returns false'. Refute it at one input. -/
def plansErrorsWrong : ChangeSpec := { name := "plansErrors", fn := fun _ => fun
  | [d1, d2, d3] => { results := [.lit (.bool false)], args := [d1, d2, d3] }
  | _ => none }
def PlansErrorsWrongFalsely : Prop := plansErrorsRow.holds Try.pinned (OpenSpec.ofChange plansErrorsWrong)

/-- 'paternosterlaw36.PlansKnown': WHATEVER THE INPUT: true; the input reads as it did. -/
def plansKnownSpec : ChangeSpec := { name := "plansKnown", fn := fun _ => fun
  | [] => { results := [.lit (.bool true)], args := [] }
  | _ => none }
def plansKnownRow : OpenClaim := { program := "ytpdcecfnlccicaa", sum := "25ae842b5964c88b7f57b4731a70ac50a2700c9d5b4811ebc8805eefa40380ac", func := "paternoster/paternosterlaw36.PlansKnown", spec := "plansKnown", unfollowed := true, recurses := true, plainKeys := false, apart := false }
def PlansKnownSaid : Prop := plansKnownRow.holds Try.pinned (OpenSpec.ofChange plansKnownSpec)

/-- ITS FALSE NEIGHBOUR: 'it returns false'. Refute it at one input. -/
def plansKnownWrong : ChangeSpec := { name := "plansKnown", fn := fun _ => fun
  | [] => { results := [.lit (.bool false)], args := [] }
  | _ => none }
def PlansKnownWrongFalsely : Prop := plansKnownRow.holds Try.pinned (OpenSpec.ofChange plansKnownWrong)

/- THE SECOND FORM. 'bulk': how many values and letters a reading holds, each counted each time it is reached (what is shared counts as often as it is met; a slice's spare places count too). A statement '..UptoSaid' is the law's where the arguments, and the package variables that the reading takes, are together of bulk at most 1048576: NARROWER than '..Said'. Prove '..Said' where nothing that the law and all that it calls make is longer than what came in: it says more and counts as full. Else prove '..UptoSaid'. A law counts once. -/
mutual
def uptoBulk {H : Type} : DataW H → Nat
  | .lit (.string bytes) => bytes.length + 1
  | .lit _ => 1
  | .nil => 1
  | .ptr d => uptoBulk d + 1
  | .slice elems spare => uptoBulkAll elems + uptoBulkAll spare + 1
  | .agg parts => uptoBulkAll parts + 1
  | .iface _ d => uptoBulk d + 1
  | .map entries => uptoBulkEntries entries + 1
  | .held _ => 1
def uptoBulkAll {H : Type} : List (DataW H) → Nat
  | [] => 0
  | d :: r => uptoBulk d + uptoBulkAll r
def uptoBulkEntries {H : Type} : List (Lit × DataW H) → Nat
  | [] => 0
  | x :: r => uptoBulkEntry x + uptoBulkEntries r
def uptoBulkEntry {H : Type} : Lit × DataW H → Nat
  | (.string bytes, d) => bytes.length + uptoBulk d + 1
  | (_, d) => uptoBulk d + 1
 end
def uptoSmall : (H : Type) → List (DataW H) → Bool := fun _ ds => decide (uptoBulkAll ds ≤ 1048576)
def OpenSpec.upto (s : _root_.Go.ChangeSpec) : _root_.Go.OpenSpec := { _root_.Go.OpenSpec.ofChange s with cond := some uptoSmall }

/-- 'paternosterlaw36.PlansSame', WHERE WHAT IT READS IS OF BULK AT MOST 1048576: true; the input reads as it did. -/
def plansSameUptoRow : OpenClaim := { program := "ytpdcecfnlccicaa", sum := "25ae842b5964c88b7f57b4731a70ac50a2700c9d5b4811ebc8805eefa40380ac", func := "paternoster/paternosterlaw36.PlansSame", spec := "plansSame", unfollowed := true, recurses := true, plainKeys := false, apart := false, narrowed := true }
def PlansSameUptoSaid : Prop := plansSameUptoRow.holds Try.pinned (OpenSpec.upto plansSameSpec)

/-- 'paternosterlaw36.PlansCarry', WHERE WHAT IT READS IS OF BULK AT MOST 1048576: true; the input reads as it did. -/
def plansCarryUptoRow : OpenClaim := { program := "ytpdcecfnlccicaa", sum := "25ae842b5964c88b7f57b4731a70ac50a2700c9d5b4811ebc8805eefa40380ac", func := "paternoster/paternosterlaw36.PlansCarry", spec := "plansCarry", unfollowed := true, recurses := true, plainKeys := false, apart := false, narrowed := true }
def PlansCarryUptoSaid : Prop := plansCarryUptoRow.holds Try.pinned (OpenSpec.upto plansCarrySpec)

/-- 'paternosterlaw36.PlansOf', WHERE WHAT IT READS IS OF BULK AT MOST 1048576: true; the input reads as it did. -/
def plansOfUptoRow : OpenClaim := { program := "ytpdcecfnlccicaa", sum := "25ae842b5964c88b7f57b4731a70ac50a2700c9d5b4811ebc8805eefa40380ac", func := "paternoster/paternosterlaw36.PlansOf", spec := "plansOf", unfollowed := true, recurses := true, plainKeys := false, apart := false, narrowed := true }
def PlansOfUptoSaid : Prop := plansOfUptoRow.holds Try.pinned (OpenSpec.upto plansOfSpec)

/-- 'paternosterlaw36.PlansErrors', WHERE WHAT IT READS IS OF BULK AT MOST 1048576: true; the input reads as it did. -/
def plansErrorsUptoRow : OpenClaim := { program := "ytpdcecfnlccicaa", sum := "25ae842b5964c88b7f57b4731a70ac50a2700c9d5b4811ebc8805eefa40380ac", func := "paternoster/paternosterlaw36.PlansErrors", spec := "plansErrors", unfollowed := true, recurses := true, plainKeys := false, apart := false, narrowed := true }
def PlansErrorsUptoSaid : Prop := plansErrorsUptoRow.holds Try.pinned (OpenSpec.upto plansErrorsSpec)

/-- 'paternosterlaw36.PlansKnown', WHERE WHAT IT READS IS OF BULK AT MOST 1048576: true; the input reads as it did. -/
def plansKnownUptoRow : OpenClaim := { program := "ytpdcecfnlccicaa", sum := "25ae842b5964c88b7f57b4731a70ac50a2700c9d5b4811ebc8805eefa40380ac", func := "paternoster/paternosterlaw36.PlansKnown", spec := "plansKnown", unfollowed := true, recurses := true, plainKeys := false, apart := false, narrowed := true }
def PlansKnownUptoSaid : Prop := plansKnownUptoRow.holds Try.pinned (OpenSpec.upto plansKnownSpec)

end Rows
end Go.Proofs.Ytpdcecfnlccicaa
