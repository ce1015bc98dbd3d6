/-
  No cell of these rows narrows 'for every input' (looked for: loops, veiled, ifaces, maps, wideKeys, modest, calm, conditions, laid).
  DERIVED. THE GIVEN ROWS OF THIS SEAT. 6 by the template 'for every input the law returns true; each argument reads behind the call as it read before'; 0 by the template 'total and deterministic' (their statements: YtmdkgpkboidhfaaTotals.lean).
  GIVEN WITH THE SEED: the statements are not yours to turn. If you find one false, say at which input.
  Laid BY PROGRAM, IN A SANDBOX (cutbox-rows.mjs): the forced cells as the released guide's own fill.sh prints them over the translation 20ba70abeffe50a8… (all of the seat's roots in one cut). By AI agents, Wed Nov 11 2026. No macro, syntax, notation, axiom, sorry.
-/
import Derived.Test.YtmdkgpkboidhfaaChecked
import GoSem.Claim
import GoSem.ClaimJoined
import GoSem.ClaimMapViews
import Derived.JoinedTies
import Derived.KernelRfl
namespace Go.Proofs.Ytmdkgpkboidhfaa
/- THE CELL 'sum', in the pinned program and in every row, IS THE sha256 OF THE DUMP (.gsa) THAT YtmdkgpkboidhfaaProg.lean LOADS. Nothing in Lean hashes anything: it is a label: what it is worth is what the hold of that sum in a sandbox is worth. -/
noncomputable def Try.pinned : Pinned := { name := "ytmdkgpkboidhfaa", sum := "20ba70abeffe50a8030ad78cdc21aa6effa37b7dc9329093a1bcc6951f06b671", checked := Try.checked }
namespace Rows
def none {H : Type} : Left H := { results := [], args := [] }

/-- 'paternosterlaw08.RisesLongest': WHATEVER THE INPUT: true; the input reads as it did. -/
def risesLongestSpec : ChangeSpec := { name := "risesLongest", fn := fun _ => fun
  | [d] => { results := [.lit (.bool true)], args := [d] }
  | _ => none }
def risesLongestRow : OpenClaim := { program := "ytmdkgpkboidhfaa", sum := "20ba70abeffe50a8030ad78cdc21aa6effa37b7dc9329093a1bcc6951f06b671", func := "paternoster/paternosterlaw08.RisesLongest", spec := "risesLongest", inPlace := ["slices.overlaps[int]"], unfollowed := true, recurses := true, apart := false }
def RisesLongestSaid : Prop := risesLongestRow.holds Try.pinned (OpenSpec.ofChange risesLongestSpec)

/-- ITS FALSE NEIGHBOUR: 'it returns false'. Refute it at one input. -/
def risesLongestWrong : ChangeSpec := { name := "risesLongest", fn := fun _ => fun
  | [d] => { results := [.lit (.bool false)], args := [d] }
  | _ => none }
def RisesLongestWrongFalsely : Prop := risesLongestRow.holds Try.pinned (OpenSpec.ofChange risesLongestWrong)

/-- 'paternosterlaw08.RisesLeast': WHATEVER THE INPUT: true; the input reads as it did. -/
def risesLeastSpec : ChangeSpec := { name := "risesLeast", fn := fun _ => fun
  | [d1, d2] => { results := [.lit (.bool true)], args := [d1, d2] }
  | _ => none }
def risesLeastRow : OpenClaim := { program := "ytmdkgpkboidhfaa", sum := "20ba70abeffe50a8030ad78cdc21aa6effa37b7dc9329093a1bcc6951f06b671", func := "paternoster/paternosterlaw08.RisesLeast", spec := "risesLeast", inPlace := ["slices.overlaps[int]"], unfollowed := true, recurses := true, apart := false }
def RisesLeastSaid : Prop := risesLeastRow.holds Try.pinned (OpenSpec.ofChange risesLeastSpec)

/-- ITS FALSE NEIGHBOUR: 'it returns false'. Refute it at one input. -/
def risesLeastWrong : ChangeSpec := { name := "risesLeast", fn := fun _ => fun
  | [d1, d2] => { results := [.lit (.bool false)], args := [d1, d2] }
  | _ => none }
def RisesLeastWrongFalsely : Prop := risesLeastRow.holds Try.pinned (OpenSpec.ofChange risesLeastWrong)

/-- 'paternosterlaw08.RisesMoves': WHATEVER THE INPUT: true; the input reads as it did. -/
def risesMovesSpec : ChangeSpec := { name := "risesMoves", fn := fun _ => fun
  | [d] => { results := [.lit (.bool true)], args := [d] }
  | _ => none }
def risesMovesRow : OpenClaim := { program := "ytmdkgpkboidhfaa", sum := "20ba70abeffe50a8030ad78cdc21aa6effa37b7dc9329093a1bcc6951f06b671", func := "paternoster/paternosterlaw08.RisesMoves", spec := "risesMoves", inPlace := ["slices.overlaps[int]"], unfollowed := true, recurses := true, apart := false }
def RisesMovesSaid : Prop := risesMovesRow.holds Try.pinned (OpenSpec.ofChange risesMovesSpec)

/-- ITS FALSE NEIGHBOUR: 'it returns false'. Refute it at one input. -/
def risesMovesWrong : ChangeSpec := { name := "risesMoves", fn := fun _ => fun
  | [d] => { results := [.lit (.bool false)], args := [d] }
  | _ => none }
def RisesMovesWrongFalsely : Prop := risesMovesRow.holds Try.pinned (OpenSpec.ofChange risesMovesWrong)

/-- 'paternosterlaw08.RisesFewest': WHATEVER THE INPUT: true; the input reads as it did. -/
def risesFewestSpec : ChangeSpec := { name := "risesFewest", fn := fun _ => fun
  | [d1, d2] => { results := [.lit (.bool true)], args := [d1, d2] }
  | _ => none }
def risesFewestRow : OpenClaim := { program := "ytmdkgpkboidhfaa", sum := "20ba70abeffe50a8030ad78cdc21aa6effa37b7dc9329093a1bcc6951f06b671", func := "paternoster/paternosterlaw08.RisesFewest", spec := "risesFewest", inPlace := ["slices.overlaps[int]"], unfollowed := true, recurses := true, apart := false }
def RisesFewestSaid : Prop := risesFewestRow.holds Try.pinned (OpenSpec.ofChange risesFewestSpec)

/-- ITS FALSE NEIGHBOUR: 'it returns false'. Refute it at one input. -/
def risesFewestWrong : ChangeSpec := { name := "risesFewest", fn := fun _ => fun
  | [d1, d2] => { results := [.lit (.bool false)], args := [d1, d2] }
  | _ => none }
def RisesFewestWrongFalsely : Prop := risesFewestRow.holds Try.pinned (OpenSpec.ofChange risesFewestWrong)

/-- 'paternosterlaw08.RisesErrors': WHATEVER THE INPUT: true; the input reads as it did. -/
def risesErrorsSpec : ChangeSpec := { name := "risesErrors", fn := fun _ => fun
  | [d1, d2] => { results := [.lit (.bool true)], args := [d1, d2] }
  | _ => none }
def risesErrorsRow : OpenClaim := { program := "ytmdkgpkboidhfaa", sum := "20ba70abeffe50a8030ad78cdc21aa6effa37b7dc9329093a1bcc6951f06b671", func := "paternoster/paternosterlaw08.RisesErrors", spec := "risesErrors", inPlace := ["slices.overlaps[int]"], unfollowed := true, recurses := true, apart := false }
def RisesErrorsSaid : Prop := risesErrorsRow.holds Try.pinned (OpenSpec.ofChange risesErrorsSpec)

/-- ITS FALSE NEIGHBOUR: 'it returns false'. Refute it at one input. -/
def risesErrorsWrong : ChangeSpec := { name := "risesErrors", fn := fun _ => fun
  | [d1, d2] => { results := [.lit (.bool false)], args := [d1, d2] }
  | _ => none }
def RisesErrorsWrongFalsely : Prop := risesErrorsRow.holds Try.pinned (OpenSpec.ofChange risesErrorsWrong)

/-- 'paternosterlaw08.RisesKnown': WHATEVER THE INPUT: true; the input reads as it did. -/
def risesKnownSpec : ChangeSpec := { name := "risesKnown", fn := fun _ => fun
  | [] => { results := [.lit (.bool true)], args := [] }
  | _ => none }
def risesKnownRow : OpenClaim := { program := "ytmdkgpkboidhfaa", sum := "20ba70abeffe50a8030ad78cdc21aa6effa37b7dc9329093a1bcc6951f06b671", func := "paternoster/paternosterlaw08.RisesKnown", spec := "risesKnown", inPlace := ["slices.overlaps[int]"], unfollowed := true, recurses := true, apart := false }
def RisesKnownSaid : Prop := risesKnownRow.holds Try.pinned (OpenSpec.ofChange risesKnownSpec)

/-- ITS FALSE NEIGHBOUR: 'it returns false'. Refute it at one input. -/
def risesKnownWrong : ChangeSpec := { name := "risesKnown", fn := fun _ => fun
  | [] => { results := [.lit (.bool false)], args := [] }
  | _ => none }
def RisesKnownWrongFalsely : Prop := risesKnownRow.holds Try.pinned (OpenSpec.ofChange risesKnownWrong)

/- THE SECOND FORM. 'bulk': how many values and letters a reading holds, each counted each time it is reached (what is shared counts as often as it is met; a slice's spare places count too). A statement '..UptoSaid' is the law's where the arguments, and the package variables that the reading takes, are together of bulk at most 1048576: NARROWER than '..Said'. Prove '..Said' where nothing that the law and all that it calls make is longer than what came in: it says more and counts as full. Else prove '..UptoSaid'. A law counts once. -/
mutual
def uptoBulk {H : Type} : DataW H → Nat
  | .lit (.string bytes) => bytes.length + 1
  | .lit _ => 1
  | .nil => 1
  | .ptr d => uptoBulk d + 1
  | .slice elems spare => uptoBulkAll elems + uptoBulkAll spare + 1
  | .agg parts => uptoBulkAll parts + 1
  | .iface _ d => uptoBulk d + 1
  | .map entries => uptoBulkEntries entries + 1
  | .held _ => 1
def uptoBulkAll {H : Type} : List (DataW H) → Nat
  | [] => 0
  | d :: r => uptoBulk d + uptoBulkAll r
def uptoBulkEntries {H : Type} : List (Lit × DataW H) → Nat
  | [] => 0
  | x :: r => uptoBulkEntry x + uptoBulkEntries r
def uptoBulkEntry {H : Type} : Lit × DataW H → Nat
  | (.string bytes, d) => bytes.length + uptoBulk d + 1
  | (_, d) => uptoBulk d + 1
 end
def uptoSmall : (H : Type) → List (DataW H) → Bool := fun _ ds => decide (uptoBulkAll ds ≤ 1048576)
def OpenSpec.upto (s : _root_.Go.ChangeSpec) : _root_.Go.OpenSpec := { _root_.Go.OpenSpec.ofChange s with cond := some uptoSmall }

/-- 'paternosterlaw08.RisesLongest', WHERE WHAT IT READS IS OF BULK AT MOST 1048576: true; the input reads as it did. -/
def risesLongestUptoRow : OpenClaim := { program := "ytmdkgpkboidhfaa", sum := "20ba70abeffe50a8030ad78cdc21aa6effa37b7dc9329093a1bcc6951f06b671", func := "paternoster/paternosterlaw08.RisesLongest", spec := "risesLongest", inPlace := ["slices.overlaps[int]"], unfollowed := true, recurses := true, apart := false, narrowed := true }
def RisesLongestUptoSaid : Prop := risesLongestUptoRow.holds Try.pinned (OpenSpec.upto risesLongestSpec)

/-- 'paternosterlaw08.RisesLeast', WHERE WHAT IT READS IS OF BULK AT MOST 1048576: true; the input reads as it did. -/
def risesLeastUptoRow : OpenClaim := { program := "ytmdkgpkboidhfaa", sum := "20ba70abeffe50a8030ad78cdc21aa6effa37b7dc9329093a1bcc6951f06b671", func := "paternoster/paternosterlaw08.RisesLeast", spec := "risesLeast", inPlace := ["slices.overlaps[int]"], unfollowed := true, recurses := true, apart := false, narrowed := true }
def RisesLeastUptoSaid : Prop := risesLeastUptoRow.holds Try.pinned (OpenSpec.upto risesLeastSpec)

/-- 'paternosterlaw08.RisesMoves', WHERE WHAT IT READS IS OF BULK AT MOST 1048576: true; the input reads as it did. -/
def risesMovesUptoRow : OpenClaim := { program := "ytmdkgpkboidhfaa", sum := "20ba70abeffe50a8030ad78cdc21aa6effa37b7dc9329093a1bcc6951f06b671", func := "paternoster/paternosterlaw08.RisesMoves", spec := "risesMoves", inPlace := ["slices.overlaps[int]"], unfollowed := true, recurses := true, apart := false, narrowed := true }
def RisesMovesUptoSaid : Prop := risesMovesUptoRow.holds Try.pinned (OpenSpec.upto risesMovesSpec)

/-- 'paternosterlaw08.RisesFewest', WHERE WHAT IT READS IS OF BULK AT MOST 1048576: true; the input reads as it did. -/
def risesFewestUptoRow : OpenClaim := { program := "ytmdkgpkboidhfaa", sum := "20ba70abeffe50a8030ad78cdc21aa6effa37b7dc9329093a1bcc6951f06b671", func := "paternoster/paternosterlaw08.RisesFewest", spec := "risesFewest", inPlace := ["slices.overlaps[int]"], unfollowed := true, recurses := true, apart := false, narrowed := true }
def RisesFewestUptoSaid : Prop := risesFewestUptoRow.holds Try.pinned (OpenSpec.upto risesFewestSpec)

/-- 'paternosterlaw08.RisesErrors', WHERE WHAT IT READS IS OF BULK AT MOST 1048576: true; the input reads as it did. -/
def risesErrorsUptoRow : OpenClaim := { program := "ytmdkgpkboidhfaa", sum := "20ba70abeffe50a8030ad78cdc21aa6effa37b7dc9329093a1bcc6951f06b671", func := "paternoster/paternosterlaw08.RisesErrors", spec := "risesErrors", inPlace := ["slices.overlaps[int]"], unfollowed := true, recurses := true, apart := false, narrowed := true }
def RisesErrorsUptoSaid : Prop := risesErrorsUptoRow.holds Try.pinned (OpenSpec.upto risesErrorsSpec)

/-- 'paternosterlaw08.RisesKnown', WHERE WHAT IT READS IS OF BULK AT MOST 1048576: true; the input reads as it did. -/
def risesKnownUptoRow : OpenClaim := { program := "ytmdkgpkboidhfaa", sum := "20ba70abeffe50a8030ad78cdc21aa6effa37b7dc9329093a1bcc6951f06b671", func := "paternoster/paternosterlaw08.RisesKnown", spec := "risesKnown", inPlace := ["slices.overlaps[int]"], unfollowed := true, recurses := true, apart := false, narrowed := true }
def RisesKnownUptoSaid : Prop := risesKnownUptoRow.holds Try.pinned (OpenSpec.upto risesKnownSpec)

end Rows
end Go.Proofs.Ytmdkgpkboidhfaa
