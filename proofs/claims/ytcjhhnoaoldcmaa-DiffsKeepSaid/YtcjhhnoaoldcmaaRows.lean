/-
  No cell of these rows narrows 'for every input' (looked for: loops, veiled, ifaces, maps, wideKeys, modest, calm, conditions, laid).
  DERIVED. THE GIVEN ROWS OF THIS SEAT. 3 by the template 'for every input the law returns true; each argument reads behind the call as it read before'; 0 by the template 'total and deterministic' (their statements: YtcjhhnoaoldcmaaTotals.lean).
  GIVEN WITH THE SEED: the statements are not yours to turn. If you find one false, say at which input.
  Laid BY PROGRAM, IN A SANDBOX (cutbox-rows.mjs): the forced cells as the released guide's own fill.sh prints them over the translation 1580b39315bacc30… (all of the seat's roots in one cut). By AI agents, Wed Nov 11 2026. No macro, syntax, notation, axiom, sorry.
-/
import Derived.Test.YtcjhhnoaoldcmaaChecked
import GoSem.Claim
import GoSem.ClaimJoined
import GoSem.ClaimMapViews
import Derived.JoinedTies
import Derived.KernelRfl
namespace Go.Proofs.Ytcjhhnoaoldcmaa
/- THE CELL 'sum', in the pinned program and in every row, IS THE sha256 OF THE DUMP (.gsa) THAT YtcjhhnoaoldcmaaProg.lean LOADS. Nothing in Lean hashes anything: it is a label: what it is worth is what the hold of that sum in a sandbox is worth. -/
noncomputable def Try.pinned : Pinned := { name := "ytcjhhnoaoldcmaa", sum := "1580b39315bacc3085f41c8e75c43ad76963d1d44eb0df3b8b13d4e16f721eee", checked := Try.checked }
namespace Rows
def none {H : Type} : Left H := { results := [], args := [] }

/-- 'paternosterlaw19.DiffsMatch': WHATEVER THE INPUT: true; the input reads as it did. -/
def diffsMatchSpec : ChangeSpec := { name := "diffsMatch", fn := fun _ => fun
  | [d1, d2] => { results := [.lit (.bool true)], args := [d1, d2] }
  | _ => none }
def diffsMatchRow : OpenClaim := { program := "ytcjhhnoaoldcmaa", sum := "1580b39315bacc3085f41c8e75c43ad76963d1d44eb0df3b8b13d4e16f721eee", func := "paternoster/paternosterlaw19.DiffsMatch", spec := "diffsMatch", inPlace := ["slices.overlaps[int]"], unfollowed := true, recurses := true, plainKeys := false, apart := false }
def DiffsMatchSaid : Prop := diffsMatchRow.holds Try.pinned (OpenSpec.ofChange diffsMatchSpec)

/-- ITS FALSE NEIGHBOUR: 'it returns false'. Refute it at one input. -/
def diffsMatchWrong : ChangeSpec := { name := "diffsMatch", fn := fun _ => fun
  | [d1, d2] => { results := [.lit (.bool false)], args := [d1, d2] }
  | _ => none }
def DiffsMatchWrongFalsely : Prop := diffsMatchRow.holds Try.pinned (OpenSpec.ofChange diffsMatchWrong)

/-- 'paternosterlaw19.DiffsKeep': WHATEVER THE INPUT: true; the input reads as it did. -/
def diffsKeepSpec : ChangeSpec := { name := "diffsKeep", fn := fun _ => fun
  | [d1, d2] => { results := [.lit (.bool true)], args := [d1, d2] }
  | _ => none }
def diffsKeepRow : OpenClaim := { program := "ytcjhhnoaoldcmaa", sum := "1580b39315bacc3085f41c8e75c43ad76963d1d44eb0df3b8b13d4e16f721eee", func := "paternoster/paternosterlaw19.DiffsKeep", spec := "diffsKeep", inPlace := ["slices.overlaps[int]"], unfollowed := true, recurses := true, plainKeys := false, apart := false }
def DiffsKeepSaid : Prop := diffsKeepRow.holds Try.pinned (OpenSpec.ofChange diffsKeepSpec)

/-- ITS FALSE NEIGHBOUR: 'it returns false'. Refute it at one input. -/
def diffsKeepWrong : ChangeSpec := { name := "diffsKeep", fn := fun _ => fun
  | [d1, d2] => { results := [.lit (.bool false)], args := [d1, d2] }
  | _ => none }
def DiffsKeepWrongFalsely : Prop := diffsKeepRow.holds Try.pinned (OpenSpec.ofChange diffsKeepWrong)

/-- 'paternosterlaw19.DiffsKnown': WHATEVER THE INPUT: true; the input reads as it did. -/
def diffsKnownSpec : ChangeSpec := { name := "diffsKnown", fn := fun _ => fun
  | [] => { results := [.lit (.bool true)], args := [] }
  | _ => none }
def diffsKnownRow : OpenClaim := { program := "ytcjhhnoaoldcmaa", sum := "1580b39315bacc3085f41c8e75c43ad76963d1d44eb0df3b8b13d4e16f721eee", func := "paternoster/paternosterlaw19.DiffsKnown", spec := "diffsKnown", inPlace := ["slices.overlaps[int]", "slices.overlaps[paternoster/api.Attr]", "slices.overlaps[paternoster/api.Node]"], unfollowed := true, recurses := true, plainKeys := false, apart := false }
def DiffsKnownSaid : Prop := diffsKnownRow.holds Try.pinned (OpenSpec.ofChange diffsKnownSpec)

/-- ITS FALSE NEIGHBOUR: 'it returns false'. Refute it at one input. -/
def diffsKnownWrong : ChangeSpec := { name := "diffsKnown", fn := fun _ => fun
  | [] => { results := [.lit (.bool false)], args := [] }
  | _ => none }
def DiffsKnownWrongFalsely : Prop := diffsKnownRow.holds Try.pinned (OpenSpec.ofChange diffsKnownWrong)

/- THE SECOND FORM. 'bulk': how many values and letters a reading holds, each counted each time it is reached (what is shared counts as often as it is met; a slice's spare places count too). A statement '..UptoSaid' is the law's where the arguments, and the package variables that the reading takes, are together of bulk at most 1048576: NARROWER than '..Said'. Prove '..Said' where nothing that the law and all that it calls make is longer than what came in: it says more and counts as full. Else prove '..UptoSaid'. A law counts once. -/
mutual
def uptoBulk {H : Type} : DataW H → Nat
  | .lit (.string bytes) => bytes.length + 1
  | .lit _ => 1
  | .nil => 1
  | .ptr d => uptoBulk d + 1
  | .slice elems spare => uptoBulkAll elems + uptoBulkAll spare + 1
  | .agg parts => uptoBulkAll parts + 1
  | .iface _ d => uptoBulk d + 1
  | .map entries => uptoBulkEntries entries + 1
  | .held _ => 1
def uptoBulkAll {H : Type} : List (DataW H) → Nat
  | [] => 0
  | d :: r => uptoBulk d + uptoBulkAll r
def uptoBulkEntries {H : Type} : List (Lit × DataW H) → Nat
  | [] => 0
  | x :: r => uptoBulkEntry x + uptoBulkEntries r
def uptoBulkEntry {H : Type} : Lit × DataW H → Nat
  | (.string bytes, d) => bytes.length + uptoBulk d + 1
  | (_, d) => uptoBulk d + 1
 end
def uptoSmall : (H : Type) → List (DataW H) → Bool := fun _ ds => decide (uptoBulkAll ds ≤ 1048576)
def OpenSpec.upto (s : _root_.Go.ChangeSpec) : _root_.Go.OpenSpec := { _root_.Go.OpenSpec.ofChange s with cond := some uptoSmall }

/-- 'paternosterlaw19.DiffsMatch', WHERE WHAT IT READS IS OF BULK AT MOST 1048576: true; the input reads as it did. -/
def diffsMatchUptoRow : OpenClaim := { program := "ytcjhhnoaoldcmaa", sum := "1580b39315bacc3085f41c8e75c43ad76963d1d44eb0df3b8b13d4e16f721eee", func := "paternoster/paternosterlaw19.DiffsMatch", spec := "diffsMatch", inPlace := ["slices.overlaps[int]"], unfollowed := true, recurses := true, plainKeys := false, apart := false, narrowed := true }
def DiffsMatchUptoSaid : Prop := diffsMatchUptoRow.holds Try.pinned (OpenSpec.upto diffsMatchSpec)

/-- 'paternosterlaw19.DiffsKeep', WHERE WHAT IT READS IS OF BULK AT MOST 1048576: true; the input reads as it did. -/
def diffsKeepUptoRow : OpenClaim := { program := "ytcjhhnoaoldcmaa", sum := "1580b39315bacc3085f41c8e75c43ad76963d1d44eb0df3b8b13d4e16f721eee", func := "paternoster/paternosterlaw19.DiffsKeep", spec := "diffsKeep", inPlace := ["slices.overlaps[int]"], unfollowed := true, recurses := true, plainKeys := false, apart := false, narrowed := true }
def DiffsKeepUptoSaid : Prop := diffsKeepUptoRow.holds Try.pinned (OpenSpec.upto diffsKeepSpec)

/-- 'paternosterlaw19.DiffsKnown', WHERE WHAT IT READS IS OF BULK AT MOST 1048576: true; the input reads as it did. -/
def diffsKnownUptoRow : OpenClaim := { program := "ytcjhhnoaoldcmaa", sum := "1580b39315bacc3085f41c8e75c43ad76963d1d44eb0df3b8b13d4e16f721eee", func := "paternoster/paternosterlaw19.DiffsKnown", spec := "diffsKnown", inPlace := ["slices.overlaps[int]", "slices.overlaps[paternoster/api.Attr]", "slices.overlaps[paternoster/api.Node]"], unfollowed := true, recurses := true, plainKeys := false, apart := false, narrowed := true }
def DiffsKnownUptoSaid : Prop := diffsKnownUptoRow.holds Try.pinned (OpenSpec.upto diffsKnownSpec)

end Rows
end Go.Proofs.Ytcjhhnoaoldcmaa
