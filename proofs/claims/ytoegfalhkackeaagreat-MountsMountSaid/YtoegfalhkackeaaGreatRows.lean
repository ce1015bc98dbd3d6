/-
  NARROWER THAN 'FOR EVERY INPUT', by the rows' own cells (each row's printed sentence says how): MountsErrors: loops.
  DERIVED. THE GIVEN ROWS OF THIS SEAT. 5 by the template 'for every input the law returns true; each argument reads behind the call as it read before'; 0 by the template 'total and deterministic' (their statements: YtoegfalhkackeaaGreatTotals.lean).
  GIVEN WITH THE SEED: the statements are not yours to turn. If you find one false, say at which input.
  Laid BY PROGRAM, IN A SANDBOX (cutbox-rows.mjs): the forced cells as the released guide's own fill.sh prints them over the translation 1c45cdf3cdc62a3d… (all of the seat's roots in one cut). By AI agents, Wed Nov 11 2026. No macro, syntax, notation, axiom, sorry.
-/
import Derived.Test.YtoegfalhkackeaaGreatChecked
import GoSem.Claim
import GoSem.ClaimJoined
import GoSem.ClaimMapViews
import Derived.JoinedTies
import Derived.KernelRfl
namespace Go.Proofs.YtoegfalhkackeaaGreat
/- THE CELL 'sum', in the pinned program and in every row, IS THE sha256 OF THE DUMP (.gsa) THAT YtoegfalhkackeaaGreatProg.lean LOADS. Nothing in Lean hashes anything: it is a label: what it is worth is what the hold of that sum in a sandbox is worth. -/
noncomputable def Tryz.pinned : Pinned := { name := "ytoegfalhkackeaagreat", sum := "1c45cdf3cdc62a3dd96aa9f3e418e0a677b00d291f0fdb6de537d6cce7e89df6", checked := Tryz.checked }
namespace Rows
def none {H : Type} : Left H := { results := [], args := [] }

/-- 'paternosterlaw18.MountsAgain': WHATEVER THE INPUT: true; the input reads as it did. -/
def mountsAgainSpec : ChangeSpec := { name := "mountsAgain", fn := fun _ => fun
  | [d1, d2] => { results := [.lit (.bool true)], args := [d1, d2] }
  | _ => none }
def mountsAgainRow : OpenClaim := { program := "ytoegfalhkackeaagreat", sum := "1c45cdf3cdc62a3dd96aa9f3e418e0a677b00d291f0fdb6de537d6cce7e89df6", func := "paternoster/paternosterlaw18.MountsAgain", spec := "mountsAgain", inPlace := ["slices.overlaps[paternoster/api.Handle]"], unfollowed := true, recurses := true, apart := false }
def MountsAgainSaid : Prop := mountsAgainRow.holds Tryz.pinned (OpenSpec.ofChange mountsAgainSpec)

/-- ITS FALSE NEIGHBOUR: 'it returns false'. Refute it at one input. -/
def mountsAgainWrong : ChangeSpec := { name := "mountsAgain", fn := fun _ => fun
  | [d1, d2] => { results := [.lit (.bool false)], args := [d1, d2] }
  | _ => none }
def MountsAgainWrongFalsely : Prop := mountsAgainRow.holds Tryz.pinned (OpenSpec.ofChange mountsAgainWrong)

/-- 'paternosterlaw18.MountsErrors': WHATEVER THE INPUT: true; the input reads as it did. -/
def mountsErrorsSpec : ChangeSpec := { name := "mountsErrors", fn := fun _ => fun
  | [d1, d2] => { results := [.lit (.bool true)], args := [d1, d2] }
  | _ => none }
def mountsErrorsRow : OpenClaim := { program := "ytoegfalhkackeaagreat", sum := "1c45cdf3cdc62a3dd96aa9f3e418e0a677b00d291f0fdb6de537d6cce7e89df6", func := "paternoster/paternosterlaw18.MountsErrors", spec := "mountsErrors", inPlace := ["slices.overlaps[paternoster/api.Handle]"], unfollowed := true, recurses := true, loops := true, apart := false }
def MountsErrorsSaid : Prop := mountsErrorsRow.holds Tryz.pinned (OpenSpec.ofChange mountsErrorsSpec)

/-- ITS FALSE NEIGHBOUR: 'it returns false'. Refute it at one input. -/
def mountsErrorsWrong : ChangeSpec := { name := "mountsErrors", fn := fun _ => fun
  | [d1, d2] => { results := [.lit (.bool false)], args := [d1, d2] }
  | _ => none }
def MountsErrorsWrongFalsely : Prop := mountsErrorsRow.holds Tryz.pinned (OpenSpec.ofChange mountsErrorsWrong)

/-- 'paternosterlaw18.MountsKnown': WHATEVER THE INPUT: true; the input reads as it did. -/
def mountsKnownSpec : ChangeSpec := { name := "mountsKnown", fn := fun _ => fun
  | [] => { results := [.lit (.bool true)], args := [] }
  | _ => none }
def mountsKnownRow : OpenClaim := { program := "ytoegfalhkackeaagreat", sum := "1c45cdf3cdc62a3dd96aa9f3e418e0a677b00d291f0fdb6de537d6cce7e89df6", func := "paternoster/paternosterlaw18.MountsKnown", spec := "mountsKnown", inPlace := ["slices.overlaps[paternoster/api.Handle]"], unfollowed := true, recurses := true, apart := false }
def MountsKnownSaid : Prop := mountsKnownRow.holds Tryz.pinned (OpenSpec.ofChange mountsKnownSpec)

/-- ITS FALSE NEIGHBOUR: 'it returns false'. Refute it at one input. -/
def mountsKnownWrong : ChangeSpec := { name := "mountsKnown", fn := fun _ => fun
  | [] => { results := [.lit (.bool false)], args := [] }
  | _ => none }
def MountsKnownWrongFalsely : Prop := mountsKnownRow.holds Tryz.pinned (OpenSpec.ofChange mountsKnownWrong)

/-- 'paternosterlaw18.MountsDrop': WHATEVER THE INPUT: true; the input reads as it did. -/
def mountsDropSpec : ChangeSpec := { name := "mountsDrop", fn := fun _ => fun
  | [d1, d2] => { results := [.lit (.bool true)], args := [d1, d2] }
  | _ => none }
def mountsDropRow : OpenClaim := { program := "ytoegfalhkackeaagreat", sum := "1c45cdf3cdc62a3dd96aa9f3e418e0a677b00d291f0fdb6de537d6cce7e89df6", func := "paternoster/paternosterlaw18.MountsDrop", spec := "mountsDrop", inPlace := ["slices.overlaps[paternoster/api.Handle]"], unfollowed := true, recurses := true, apart := false }
def MountsDropSaid : Prop := mountsDropRow.holds Tryz.pinned (OpenSpec.ofChange mountsDropSpec)

/-- ITS FALSE NEIGHBOUR: 'it returns false'. Refute it at one input. -/
def mountsDropWrong : ChangeSpec := { name := "mountsDrop", fn := fun _ => fun
  | [d1, d2] => { results := [.lit (.bool false)], args := [d1, d2] }
  | _ => none }
def MountsDropWrongFalsely : Prop := mountsDropRow.holds Tryz.pinned (OpenSpec.ofChange mountsDropWrong)

/-- 'paternosterlaw18.MountsMount': WHATEVER THE INPUT: true; the input reads as it did. -/
def mountsMountSpec : ChangeSpec := { name := "mountsMount", fn := fun _ => fun
  | [d1, d2] => { results := [.lit (.bool true)], args := [d1, d2] }
  | _ => none }
def mountsMountRow : OpenClaim := { program := "ytoegfalhkackeaagreat", sum := "1c45cdf3cdc62a3dd96aa9f3e418e0a677b00d291f0fdb6de537d6cce7e89df6", func := "paternoster/paternosterlaw18.MountsMount", spec := "mountsMount", inPlace := ["slices.overlaps[paternoster/api.Handle]"], unfollowed := true, recurses := true, apart := false }
def MountsMountSaid : Prop := mountsMountRow.holds Tryz.pinned (OpenSpec.ofChange mountsMountSpec)

/-- ITS FALSE NEIGHBOUR: 'it returns false'. Refute it at one input. -/
def mountsMountWrong : ChangeSpec := { name := "mountsMount", fn := fun _ => fun
  | [d1, d2] => { results := [.lit (.bool false)], args := [d1, d2] }
  | _ => none }
def MountsMountWrongFalsely : Prop := mountsMountRow.holds Tryz.pinned (OpenSpec.ofChange mountsMountWrong)

/- THE SECOND FORM. 'bulk': how many values and letters a reading holds, each counted each time it is reached (what is shared counts as often as it is met; a slice's spare places count too). A statement '..UptoSaid' is the law's where the arguments, and the package variables that the reading takes, are together of bulk at most 1048576: NARROWER than '..Said'. Prove '..Said' where nothing that the law and all that it calls make is longer than what came in: it says more and counts as full. Else prove '..UptoSaid'. A law counts once. -/
mutual
def uptoBulk {H : Type} : DataW H → Nat
  | .lit (.string bytes) => bytes.length + 1
  | .lit _ => 1
  | .nil => 1
  | .ptr d => uptoBulk d + 1
  | .slice elems spare => uptoBulkAll elems + uptoBulkAll spare + 1
  | .agg parts => uptoBulkAll parts + 1
  | .iface _ d => uptoBulk d + 1
  | .map entries => uptoBulkEntries entries + 1
  | .held _ => 1
def uptoBulkAll {H : Type} : List (DataW H) → Nat
  | [] => 0
  | d :: r => uptoBulk d + uptoBulkAll r
def uptoBulkEntries {H : Type} : List (Lit × DataW H) → Nat
  | [] => 0
  | x :: r => uptoBulkEntry x + uptoBulkEntries r
def uptoBulkEntry {H : Type} : Lit × DataW H → Nat
  | (.string bytes, d) => bytes.length + uptoBulk d + 1
  | (_, d) => uptoBulk d + 1
 end
def uptoSmall : (H : Type) → List (DataW H) → Bool := fun _ ds => decide (uptoBulkAll ds ≤ 1048576)
def OpenSpec.upto (s : _root_.Go.ChangeSpec) : _root_.Go.OpenSpec := { _root_.Go.OpenSpec.ofChange s with cond := some uptoSmall }

/-- 'paternosterlaw18.MountsAgain', WHERE WHAT IT READS IS OF BULK AT MOST 1048576: true; the input reads as it did. -/
def mountsAgainUptoRow : OpenClaim := { program := "ytoegfalhkackeaagreat", sum := "1c45cdf3cdc62a3dd96aa9f3e418e0a677b00d291f0fdb6de537d6cce7e89df6", func := "paternoster/paternosterlaw18.MountsAgain", spec := "mountsAgain", inPlace := ["slices.overlaps[paternoster/api.Handle]"], unfollowed := true, recurses := true, apart := false, narrowed := true }
def MountsAgainUptoSaid : Prop := mountsAgainUptoRow.holds Tryz.pinned (OpenSpec.upto mountsAgainSpec)

/-- 'paternosterlaw18.MountsErrors', WHERE WHAT IT READS IS OF BULK AT MOST 1048576: true; the input reads as it did. -/
def mountsErrorsUptoRow : OpenClaim := { program := "ytoegfalhkackeaagreat", sum := "1c45cdf3cdc62a3dd96aa9f3e418e0a677b00d291f0fdb6de537d6cce7e89df6", func := "paternoster/paternosterlaw18.MountsErrors", spec := "mountsErrors", inPlace := ["slices.overlaps[paternoster/api.Handle]"], unfollowed := true, recurses := true, loops := true, apart := false, narrowed := true }
def MountsErrorsUptoSaid : Prop := mountsErrorsUptoRow.holds Tryz.pinned (OpenSpec.upto mountsErrorsSpec)

/-- 'paternosterlaw18.MountsKnown', WHERE WHAT IT READS IS OF BULK AT MOST 1048576: true; the input reads as it did. -/
def mountsKnownUptoRow : OpenClaim := { program := "ytoegfalhkackeaagreat", sum := "1c45cdf3cdc62a3dd96aa9f3e418e0a677b00d291f0fdb6de537d6cce7e89df6", func := "paternoster/paternosterlaw18.MountsKnown", spec := "mountsKnown", inPlace := ["slices.overlaps[paternoster/api.Handle]"], unfollowed := true, recurses := true, apart := false, narrowed := true }
def MountsKnownUptoSaid : Prop := mountsKnownUptoRow.holds Tryz.pinned (OpenSpec.upto mountsKnownSpec)

/-- 'paternosterlaw18.MountsDrop', WHERE WHAT IT READS IS OF BULK AT MOST 1048576: true; the input reads as it did. -/
def mountsDropUptoRow : OpenClaim := { program := "ytoegfalhkackeaagreat", sum := "1c45cdf3cdc62a3dd96aa9f3e418e0a677b00d291f0fdb6de537d6cce7e89df6", func := "paternoster/paternosterlaw18.MountsDrop", spec := "mountsDrop", inPlace := ["slices.overlaps[paternoster/api.Handle]"], unfollowed := true, recurses := true, apart := false, narrowed := true }
def MountsDropUptoSaid : Prop := mountsDropUptoRow.holds Tryz.pinned (OpenSpec.upto mountsDropSpec)

/-- 'paternosterlaw18.MountsMount', WHERE WHAT IT READS IS OF BULK AT MOST 1048576: true; the input reads as it did. -/
def mountsMountUptoRow : OpenClaim := { program := "ytoegfalhkackeaagreat", sum := "1c45cdf3cdc62a3dd96aa9f3e418e0a677b00d291f0fdb6de537d6cce7e89df6", func := "paternoster/paternosterlaw18.MountsMount", spec := "mountsMount", inPlace := ["slices.overlaps[paternoster/api.Handle]"], unfollowed := true, recurses := true, apart := false, narrowed := true }
def MountsMountUptoSaid : Prop := mountsMountUptoRow.holds Tryz.pinned (OpenSpec.upto mountsMountSpec)

end Rows
end Go.Proofs.YtoegfalhkackeaaGreat
