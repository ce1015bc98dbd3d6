/-
  No cell of these rows narrows 'for every input' (looked for: loops, veiled, ifaces, maps, wideKeys, modest, calm, conditions, laid).
  DERIVED. THE GIVEN ROWS OF THIS SEAT. 5 by the template 'for every input the law returns true; each argument reads behind the call as it read before'; 0 by the template 'total and deterministic' (their statements: YtbdbkggaadbhoaaGreatTotals.lean).
  GIVEN WITH THE SEED: the statements are not yours to turn. If you find one false, say at which input.
  Laid BY PROGRAM, IN A SANDBOX (cutbox-rows.mjs): the forced cells as the released guide's own fill.sh prints them over the translation 9ec77b5675f06f5f… (all of the seat's roots in one cut). By AI agents, Wed Nov 11 2026. No macro, syntax, notation, axiom, sorry.
-/
import Derived.Test.YtbdbkggaadbhoaaGreatChecked
import GoSem.Claim
import GoSem.ClaimJoined
import GoSem.ClaimMapViews
import Derived.JoinedTies
import Derived.KernelRfl
namespace Go.Proofs.YtbdbkggaadbhoaaGreat
/- THE CELL 'sum', in the pinned program and in every row, IS THE sha256 OF THE DUMP (.gsa) THAT YtbdbkggaadbhoaaGreatProg.lean LOADS. Nothing in Lean hashes anything: it is a label: what it is worth is what the hold of that sum in a sandbox is worth. -/
noncomputable def Tryz.pinned : Pinned := { name := "ytbdbkggaadbhoaagreat", sum := "9ec77b5675f06f5fd53c5e3d4bb18ced5f5b609032ddb9d4930dd0253ba8c701", checked := Tryz.checked }
namespace Rows
def none {H : Type} : Left H := { results := [], args := [] }

/-- 'paternosterlaw22.RebindsKnown': WHATEVER THE INPUT: true; the input reads as it did. -/
def rebindsKnownSpec : ChangeSpec := { name := "rebindsKnown", fn := fun _ => fun
  | [] => { results := [.lit (.bool true)], args := [] }
  | _ => none }
def rebindsKnownRow : OpenClaim := { program := "ytbdbkggaadbhoaagreat", sum := "9ec77b5675f06f5fd53c5e3d4bb18ced5f5b609032ddb9d4930dd0253ba8c701", func := "paternoster/paternosterlaw22.RebindsKnown", spec := "rebindsKnown", inPlace := ["slices.overlaps[paternoster/api.Handle]", "slices.overlaps[int]"], unfollowed := true, recurses := true, plainKeys := false, apart := false }
def RebindsKnownSaid : Prop := rebindsKnownRow.holds Tryz.pinned (OpenSpec.ofChange rebindsKnownSpec)

/-- ITS FALSE NEIGHBOUR: 'it returns false'. Refute it at one input. -/
def rebindsKnownWrong : ChangeSpec := { name := "rebindsKnown", fn := fun _ => fun
  | [] => { results := [.lit (.bool false)], args := [] }
  | _ => none }
def RebindsKnownWrongFalsely : Prop := rebindsKnownRow.holds Tryz.pinned (OpenSpec.ofChange rebindsKnownWrong)

/-- 'paternosterlaw22.RebindsFlaw': WHATEVER THE INPUT: true; the input reads as it did. -/
def rebindsFlawSpec : ChangeSpec := { name := "rebindsFlaw", fn := fun _ => fun
  | [d1, d2, d3] => { results := [.lit (.bool true)], args := [d1, d2, d3] }
  | _ => none }
def rebindsFlawRow : OpenClaim := { program := "ytbdbkggaadbhoaagreat", sum := "9ec77b5675f06f5fd53c5e3d4bb18ced5f5b609032ddb9d4930dd0253ba8c701", func := "paternoster/paternosterlaw22.RebindsFlaw", spec := "rebindsFlaw", inPlace := ["slices.overlaps[paternoster/api.Handle]", "slices.overlaps[int]"], unfollowed := true, recurses := true, plainKeys := false, apart := false }
def RebindsFlawSaid : Prop := rebindsFlawRow.holds Tryz.pinned (OpenSpec.ofChange rebindsFlawSpec)

/-- ITS FALSE NEIGHBOUR: 'it returns false'. Refute it at one input. -/
def rebindsFlawWrong : ChangeSpec := { name := "rebindsFlaw", fn := fun _ => fun
  | [d1, d2, d3] => { results := [.lit (.bool false)], args := [d1, d2, d3] }
  | _ => none }
def RebindsFlawWrongFalsely : Prop := rebindsFlawRow.holds Tryz.pinned (OpenSpec.ofChange rebindsFlawWrong)

/-- 'paternosterlaw22.RebindsPlay': WHATEVER THE INPUT: true; the input reads as it did. -/
def rebindsPlaySpec : ChangeSpec := { name := "rebindsPlay", fn := fun _ => fun
  | [d1, d2, d3] => { results := [.lit (.bool true)], args := [d1, d2, d3] }
  | _ => none }
def rebindsPlayRow : OpenClaim := { program := "ytbdbkggaadbhoaagreat", sum := "9ec77b5675f06f5fd53c5e3d4bb18ced5f5b609032ddb9d4930dd0253ba8c701", func := "paternoster/paternosterlaw22.RebindsPlay", spec := "rebindsPlay", inPlace := ["slices.overlaps[paternoster/api.Handle]", "slices.overlaps[int]"], unfollowed := true, recurses := true, plainKeys := false, apart := false }
def RebindsPlaySaid : Prop := rebindsPlayRow.holds Tryz.pinned (OpenSpec.ofChange rebindsPlaySpec)

/-- ITS FALSE NEIGHBOUR: 'it returns false'. Refute it at one input. -/
def rebindsPlayWrong : ChangeSpec := { name := "rebindsPlay", fn := fun _ => fun
  | [d1, d2, d3] => { results := [.lit (.bool false)], args := [d1, d2, d3] }
  | _ => none }
def RebindsPlayWrongFalsely : Prop := rebindsPlayRow.holds Tryz.pinned (OpenSpec.ofChange rebindsPlayWrong)

/-- 'paternosterlaw22.RebindsFresh': WHATEVER THE INPUT: true; the input reads as it did. -/
def rebindsFreshSpec : ChangeSpec := { name := "rebindsFresh", fn := fun _ => fun
  | [d1, d2, d3] => { results := [.lit (.bool true)], args := [d1, d2, d3] }
  | _ => none }
def rebindsFreshRow : OpenClaim := { program := "ytbdbkggaadbhoaagreat", sum := "9ec77b5675f06f5fd53c5e3d4bb18ced5f5b609032ddb9d4930dd0253ba8c701", func := "paternoster/paternosterlaw22.RebindsFresh", spec := "rebindsFresh", inPlace := ["slices.overlaps[paternoster/api.Handle]", "slices.overlaps[int]"], unfollowed := true, recurses := true, plainKeys := false, apart := false }
def RebindsFreshSaid : Prop := rebindsFreshRow.holds Tryz.pinned (OpenSpec.ofChange rebindsFreshSpec)

/-- ITS FALSE NEIGHBOUR: 'it returns false'. Refute it at one input. -/
def rebindsFreshWrong : ChangeSpec := { name := "rebindsFresh", fn := fun _ => fun
  | [d1, d2, d3] => { results := [.lit (.bool false)], args := [d1, d2, d3] }
  | _ => none }
def RebindsFreshWrongFalsely : Prop := rebindsFreshRow.holds Tryz.pinned (OpenSpec.ofChange rebindsFreshWrong)

/-- 'paternosterlaw22.RebindsErrors': WHATEVER THE INPUT: true; the input reads as it did. -/
def rebindsErrorsSpec : ChangeSpec := { name := "rebindsErrors", fn := fun _ => fun
  | [d1, d2, d3] => { results := [.lit (.bool true)], args := [d1, d2, d3] }
  | _ => none }
def rebindsErrorsRow : OpenClaim := { program := "ytbdbkggaadbhoaagreat", sum := "9ec77b5675f06f5fd53c5e3d4bb18ced5f5b609032ddb9d4930dd0253ba8c701", func := "paternoster/paternosterlaw22.RebindsErrors", spec := "rebindsErrors", inPlace := ["slices.overlaps[paternoster/api.Handle]", "slices.overlaps[int]"], unfollowed := true, recurses := true, plainKeys := false, apart := false }
def RebindsErrorsSaid : Prop := rebindsErrorsRow.holds Tryz.pinned (OpenSpec.ofChange rebindsErrorsSpec)

/-- ITS FALSE NEIGHBOUR: 'it returns false'. Refute it at one input. -/
def rebindsErrorsWrong : ChangeSpec := { name := "rebindsErrors", fn := fun _ => fun
  | [d1, d2, d3] => { results := [.lit (.bool false)], args := [d1, d2, d3] }
  | _ => none }
def RebindsErrorsWrongFalsely : Prop := rebindsErrorsRow.holds Tryz.pinned (OpenSpec.ofChange rebindsErrorsWrong)

/- THE SECOND FORM. 'bulk': how many values and letters a reading holds, each counted each time it is reached (what is shared counts as often as it is met; a slice's spare places count too). A statement '..UptoSaid' is the law's where the arguments, and the package variables that the reading takes, are together of bulk at most 1048576: NARROWER than '..Said'. Prove '..Said' where nothing that the law and all that it calls make is longer than what came in: it says more and counts as full. Else prove '..UptoSaid'. A law counts once. -/
mutual
def uptoBulk {H : Type} : DataW H → Nat
  | .lit (.string bytes) => bytes.length + 1
  | .lit _ => 1
  | .nil => 1
  | .ptr d => uptoBulk d + 1
  | .slice elems spare => uptoBulkAll elems + uptoBulkAll spare + 1
  | .agg parts => uptoBulkAll parts + 1
  | .iface _ d => uptoBulk d + 1
  | .map entries => uptoBulkEntries entries + 1
  | .held _ => 1
def uptoBulkAll {H : Type} : List (DataW H) → Nat
  | [] => 0
  | d :: r => uptoBulk d + uptoBulkAll r
def uptoBulkEntries {H : Type} : List (Lit × DataW H) → Nat
  | [] => 0
  | x :: r => uptoBulkEntry x + uptoBulkEntries r
def uptoBulkEntry {H : Type} : Lit × DataW H → Nat
  | (.string bytes, d) => bytes.length + uptoBulk d + 1
  | (_, d) => uptoBulk d + 1
 end
def uptoSmall : (H : Type) → List (DataW H) → Bool := fun _ ds => decide (uptoBulkAll ds ≤ 1048576)
def OpenSpec.upto (s : _root_.Go.ChangeSpec) : _root_.Go.OpenSpec := { _root_.Go.OpenSpec.ofChange s with cond := some uptoSmall }

/-- 'paternosterlaw22.RebindsKnown', WHERE WHAT IT READS IS OF BULK AT MOST 1048576: true; the input reads as it did. -/
def rebindsKnownUptoRow : OpenClaim := { program := "ytbdbkggaadbhoaagreat", sum := "9ec77b5675f06f5fd53c5e3d4bb18ced5f5b609032ddb9d4930dd0253ba8c701", func := "paternoster/paternosterlaw22.RebindsKnown", spec := "rebindsKnown", inPlace := ["slices.overlaps[paternoster/api.Handle]", "slices.overlaps[int]"], unfollowed := true, recurses := true, plainKeys := false, apart := false, narrowed := true }
def RebindsKnownUptoSaid : Prop := rebindsKnownUptoRow.holds Tryz.pinned (OpenSpec.upto rebindsKnownSpec)

/-- 'paternosterlaw22.RebindsFlaw', WHERE WHAT IT READS IS OF BULK AT MOST 1048576: true; the input reads as it did. -/
def rebindsFlawUptoRow : OpenClaim := { program := "ytbdbkggaadbhoaagreat", sum := "9ec77b5675f06f5fd53c5e3d4bb18ced5f5b609032ddb9d4930dd0253ba8c701", func := "paternoster/paternosterlaw22.RebindsFlaw", spec := "rebindsFlaw", inPlace := ["slices.overlaps[paternoster/api.Handle]", "slices.overlaps[int]"], unfollowed := true, recurses := true, plainKeys := false, apart := false, narrowed := true }
def RebindsFlawUptoSaid : Prop := rebindsFlawUptoRow.holds Tryz.pinned (OpenSpec.upto rebindsFlawSpec)

/-- 'paternosterlaw22.RebindsPlay', WHERE WHAT IT READS IS OF BULK AT MOST 1048576: true; the input reads as it did. -/
def rebindsPlayUptoRow : OpenClaim := { program := "ytbdbkggaadbhoaagreat", sum := "9ec77b5675f06f5fd53c5e3d4bb18ced5f5b609032ddb9d4930dd0253ba8c701", func := "paternoster/paternosterlaw22.RebindsPlay", spec := "rebindsPlay", inPlace := ["slices.overlaps[paternoster/api.Handle]", "slices.overlaps[int]"], unfollowed := true, recurses := true, plainKeys := false, apart := false, narrowed := true }
def RebindsPlayUptoSaid : Prop := rebindsPlayUptoRow.holds Tryz.pinned (OpenSpec.upto rebindsPlaySpec)

/-- 'paternosterlaw22.RebindsFresh', WHERE WHAT IT READS IS OF BULK AT MOST 1048576: true; the input reads as it did. -/
def rebindsFreshUptoRow : OpenClaim := { program := "ytbdbkggaadbhoaagreat", sum := "9ec77b5675f06f5fd53c5e3d4bb18ced5f5b609032ddb9d4930dd0253ba8c701", func := "paternoster/paternosterlaw22.RebindsFresh", spec := "rebindsFresh", inPlace := ["slices.overlaps[paternoster/api.Handle]", "slices.overlaps[int]"], unfollowed := true, recurses := true, plainKeys := false, apart := false, narrowed := true }
def RebindsFreshUptoSaid : Prop := rebindsFreshUptoRow.holds Tryz.pinned (OpenSpec.upto rebindsFreshSpec)

/-- 'paternosterlaw22.RebindsErrors', WHERE WHAT IT READS IS OF BULK AT MOST 1048576: true; the input reads as it did. -/
def rebindsErrorsUptoRow : OpenClaim := { program := "ytbdbkggaadbhoaagreat", sum := "9ec77b5675f06f5fd53c5e3d4bb18ced5f5b609032ddb9d4930dd0253ba8c701", func := "paternoster/paternosterlaw22.RebindsErrors", spec := "rebindsErrors", inPlace := ["slices.overlaps[paternoster/api.Handle]", "slices.overlaps[int]"], unfollowed := true, recurses := true, plainKeys := false, apart := false, narrowed := true }
def RebindsErrorsUptoSaid : Prop := rebindsErrorsUptoRow.holds Tryz.pinned (OpenSpec.upto rebindsErrorsSpec)

end Rows
end Go.Proofs.YtbdbkggaadbhoaaGreat
