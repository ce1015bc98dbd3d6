/-
  No cell of these rows narrows 'for every input' (looked for: loops, veiled, ifaces, maps, wideKeys, modest, calm, conditions, laid).
  DERIVED. THE GIVEN ROWS OF THIS SEAT. 5 by the template 'for every input the law returns true; each argument reads behind the call as it read before'; 0 by the template 'total and deterministic' (their statements: YtkeoanklmnadiaaTotals.lean).
  GIVEN WITH THE SEED: the statements are not yours to turn. If you find one false, say at which input.
  Laid BY PROGRAM, IN A SANDBOX (cutbox-rows.mjs): the forced cells as the released guide's own fill.sh prints them over the translation e526f42afbda50e7… (all of the seat's roots in one cut). By AI agents, Wed Nov 11 2026. No macro, syntax, notation, axiom, sorry.
-/
import Derived.Test.YtkeoanklmnadiaaChecked
import GoSem.Claim
import GoSem.ClaimJoined
import GoSem.ClaimMapViews
import Derived.JoinedTies
import Derived.KernelRfl
namespace Go.Proofs.Ytkeoanklmnadiaa
/- THE CELL 'sum', in the pinned program and in every row, IS THE sha256 OF THE DUMP (.gsa) THAT YtkeoanklmnadiaaProg.lean LOADS. Nothing in Lean hashes anything: it is a label: what it is worth is what the hold of that sum in a sandbox is worth. -/
noncomputable def Try.pinned : Pinned := { name := "ytkeoanklmnadiaa", sum := "e526f42afbda50e79faf331da6cc8aac061a24efb62cab8213fa5b754ec12eab", checked := Try.checked }
namespace Rows
def none {H : Type} : Left H := { results := [], args := [] }

/-- 'paternosterlaw13.AttrsDiff': WHATEVER THE INPUT: true; the input reads as it did. -/
def attrsDiffSpec : ChangeSpec := { name := "attrsDiff", fn := fun _ => fun
  | [d1, d2] => { results := [.lit (.bool true)], args := [d1, d2] }
  | _ => none }
def attrsDiffRow : OpenClaim := { program := "ytkeoanklmnadiaa", sum := "e526f42afbda50e79faf331da6cc8aac061a24efb62cab8213fa5b754ec12eab", func := "paternoster/paternosterlaw13.AttrsDiff", spec := "attrsDiff", unfollowed := true, recurses := true, apart := false }
def AttrsDiffSaid : Prop := attrsDiffRow.holds Try.pinned (OpenSpec.ofChange attrsDiffSpec)

/-- ITS FALSE NEIGHBOUR: 'it returns false'. Refute it at one input. -/
def attrsDiffWrong : ChangeSpec := { name := "attrsDiff", fn := fun _ => fun
  | [d1, d2] => { results := [.lit (.bool false)], args := [d1, d2] }
  | _ => none }
def AttrsDiffWrongFalsely : Prop := attrsDiffRow.holds Try.pinned (OpenSpec.ofChange attrsDiffWrong)

/-- 'paternosterlaw13.AttrsApply': WHATEVER THE INPUT: true; the input reads as it did. -/
def attrsApplySpec : ChangeSpec := { name := "attrsApply", fn := fun _ => fun
  | [d1, d2] => { results := [.lit (.bool true)], args := [d1, d2] }
  | _ => none }
def attrsApplyRow : OpenClaim := { program := "ytkeoanklmnadiaa", sum := "e526f42afbda50e79faf331da6cc8aac061a24efb62cab8213fa5b754ec12eab", func := "paternoster/paternosterlaw13.AttrsApply", spec := "attrsApply", unfollowed := true, recurses := true, apart := false }
def AttrsApplySaid : Prop := attrsApplyRow.holds Try.pinned (OpenSpec.ofChange attrsApplySpec)

/-- ITS FALSE NEIGHBOUR: 'it returns false'. Refute it at one input. -/
def attrsApplyWrong : ChangeSpec := { name := "attrsApply", fn := fun _ => fun
  | [d1, d2] => { results := [.lit (.bool false)], args := [d1, d2] }
  | _ => none }
def AttrsApplyWrongFalsely : Prop := attrsApplyRow.holds Try.pinned (OpenSpec.ofChange attrsApplyWrong)

/-- 'paternosterlaw13.AttrsCompose': WHATEVER THE INPUT: true; the input reads as it did. -/
def attrsComposeSpec : ChangeSpec := { name := "attrsCompose", fn := fun _ => fun
  | [d1, d2, d3] => { results := [.lit (.bool true)], args := [d1, d2, d3] }
  | _ => none }
def attrsComposeRow : OpenClaim := { program := "ytkeoanklmnadiaa", sum := "e526f42afbda50e79faf331da6cc8aac061a24efb62cab8213fa5b754ec12eab", func := "paternoster/paternosterlaw13.AttrsCompose", spec := "attrsCompose", unfollowed := true, recurses := true, apart := false }
def AttrsComposeSaid : Prop := attrsComposeRow.holds Try.pinned (OpenSpec.ofChange attrsComposeSpec)

/-- ITS FALSE NEIGHBOUR: 'it returns false'. Refute it at one input. -/
def attrsComposeWrong : ChangeSpec := { name := "attrsCompose", fn := fun _ => fun
  | [d1, d2, d3] => { results := [.lit (.bool false)], args := [d1, d2, d3] }
  | _ => none }
def AttrsComposeWrongFalsely : Prop := attrsComposeRow.holds Try.pinned (OpenSpec.ofChange attrsComposeWrong)

/-- 'paternosterlaw13.AttrsErrors': WHATEVER THE INPUT: true; the input reads as it did. -/
def attrsErrorsSpec : ChangeSpec := { name := "attrsErrors", fn := fun _ => fun
  | [d1, d2, d3] => { results := [.lit (.bool true)], args := [d1, d2, d3] }
  | _ => none }
def attrsErrorsRow : OpenClaim := { program := "ytkeoanklmnadiaa", sum := "e526f42afbda50e79faf331da6cc8aac061a24efb62cab8213fa5b754ec12eab", func := "paternoster/paternosterlaw13.AttrsErrors", spec := "attrsErrors", unfollowed := true, recurses := true, apart := false }
def AttrsErrorsSaid : Prop := attrsErrorsRow.holds Try.pinned (OpenSpec.ofChange attrsErrorsSpec)

/-- ITS FALSE NEIGHBOUR: 'it returns false'. Refute it at one input. -/
def attrsErrorsWrong : ChangeSpec := { name := "attrsErrors", fn := fun _ => fun
  | [d1, d2, d3] => { results := [.lit (.bool false)], args := [d1, d2, d3] }
  | _ => none }
def AttrsErrorsWrongFalsely : Prop := attrsErrorsRow.holds Try.pinned (OpenSpec.ofChange attrsErrorsWrong)

/-- 'paternosterlaw13.AttrsKnown': WHATEVER THE INPUT: true; the input reads as it did. -/
def attrsKnownSpec : ChangeSpec := { name := "attrsKnown", fn := fun _ => fun
  | [] => { results := [.lit (.bool true)], args := [] }
  | _ => none }
def attrsKnownRow : OpenClaim := { program := "ytkeoanklmnadiaa", sum := "e526f42afbda50e79faf331da6cc8aac061a24efb62cab8213fa5b754ec12eab", func := "paternoster/paternosterlaw13.AttrsKnown", spec := "attrsKnown", unfollowed := true, recurses := true, apart := false }
def AttrsKnownSaid : Prop := attrsKnownRow.holds Try.pinned (OpenSpec.ofChange attrsKnownSpec)

/-- ITS FALSE NEIGHBOUR: 'it returns false'. Refute it at one input. -/
def attrsKnownWrong : ChangeSpec := { name := "attrsKnown", fn := fun _ => fun
  | [] => { results := [.lit (.bool false)], args := [] }
  | _ => none }
def AttrsKnownWrongFalsely : Prop := attrsKnownRow.holds Try.pinned (OpenSpec.ofChange attrsKnownWrong)

/- THE SECOND FORM. 'bulk': how many values and letters a reading holds, each counted each time it is reached (what is shared counts as often as it is met; a slice's spare places count too). A statement '..UptoSaid' is the law's where the arguments, and the package variables that the reading takes, are together of bulk at most 1048576: NARROWER than '..Said'. Prove '..Said' where nothing that the law and all that it calls make is longer than what came in: it says more and counts as full. Else prove '..UptoSaid'. A law counts once. -/
mutual
def uptoBulk {H : Type} : DataW H → Nat
  | .lit (.string bytes) => bytes.length + 1
  | .lit _ => 1
  | .nil => 1
  | .ptr d => uptoBulk d + 1
  | .slice elems spare => uptoBulkAll elems + uptoBulkAll spare + 1
  | .agg parts => uptoBulkAll parts + 1
  | .iface _ d => uptoBulk d + 1
  | .map entries => uptoBulkEntries entries + 1
  | .held _ => 1
def uptoBulkAll {H : Type} : List (DataW H) → Nat
  | [] => 0
  | d :: r => uptoBulk d + uptoBulkAll r
def uptoBulkEntries {H : Type} : List (Lit × DataW H) → Nat
  | [] => 0
  | x :: r => uptoBulkEntry x + uptoBulkEntries r
def uptoBulkEntry {H : Type} : Lit × DataW H → Nat
  | (.string bytes, d) => bytes.length + uptoBulk d + 1
  | (_, d) => uptoBulk d + 1
 end
def uptoSmall : (H : Type) → List (DataW H) → Bool := fun _ ds => decide (uptoBulkAll ds ≤ 1048576)
def OpenSpec.upto (s : _root_.Go.ChangeSpec) : _root_.Go.OpenSpec := { _root_.Go.OpenSpec.ofChange s with cond := some uptoSmall }

/-- 'paternosterlaw13.AttrsDiff', WHERE WHAT IT READS IS OF BULK AT MOST 1048576: true; the input reads as it did. -/
def attrsDiffUptoRow : OpenClaim := { program := "ytkeoanklmnadiaa", sum := "e526f42afbda50e79faf331da6cc8aac061a24efb62cab8213fa5b754ec12eab", func := "paternoster/paternosterlaw13.AttrsDiff", spec := "attrsDiff", unfollowed := true, recurses := true, apart := false, narrowed := true }
def AttrsDiffUptoSaid : Prop := attrsDiffUptoRow.holds Try.pinned (OpenSpec.upto attrsDiffSpec)

/-- 'paternosterlaw13.AttrsApply', WHERE WHAT IT READS IS OF BULK AT MOST 1048576: true; the input reads as it did. -/
def attrsApplyUptoRow : OpenClaim := { program := "ytkeoanklmnadiaa", sum := "e526f42afbda50e79faf331da6cc8aac061a24efb62cab8213fa5b754ec12eab", func := "paternoster/paternosterlaw13.AttrsApply", spec := "attrsApply", unfollowed := true, recurses := true, apart := false, narrowed := true }
def AttrsApplyUptoSaid : Prop := attrsApplyUptoRow.holds Try.pinned (OpenSpec.upto attrsApplySpec)

/-- 'paternosterlaw13.AttrsCompose', WHERE WHAT IT READS IS OF BULK AT MOST 1048576: true; the input reads as it did. -/
def attrsComposeUptoRow : OpenClaim := { program := "ytkeoanklmnadiaa", sum := "e526f42afbda50e79faf331da6cc8aac061a24efb62cab8213fa5b754ec12eab", func := "paternoster/paternosterlaw13.AttrsCompose", spec := "attrsCompose", unfollowed := true, recurses := true, apart := false, narrowed := true }
def AttrsComposeUptoSaid : Prop := attrsComposeUptoRow.holds Try.pinned (OpenSpec.upto attrsComposeSpec)

/-- 'paternosterlaw13.AttrsErrors', WHERE WHAT IT READS IS OF BULK AT MOST 1048576: true; the input reads as it did. -/
def attrsErrorsUptoRow : OpenClaim := { program := "ytkeoanklmnadiaa", sum := "e526f42afbda50e79faf331da6cc8aac061a24efb62cab8213fa5b754ec12eab", func := "paternoster/paternosterlaw13.AttrsErrors", spec := "attrsErrors", unfollowed := true, recurses := true, apart := false, narrowed := true }
def AttrsErrorsUptoSaid : Prop := attrsErrorsUptoRow.holds Try.pinned (OpenSpec.upto attrsErrorsSpec)

/-- 'paternosterlaw13.AttrsKnown', WHERE WHAT IT READS IS OF BULK AT MOST 1048576: true; the input reads as it did. -/
def attrsKnownUptoRow : OpenClaim := { program := "ytkeoanklmnadiaa", sum := "e526f42afbda50e79faf331da6cc8aac061a24efb62cab8213fa5b754ec12eab", func := "paternoster/paternosterlaw13.AttrsKnown", spec := "attrsKnown", unfollowed := true, recurses := true, apart := false, narrowed := true }
def AttrsKnownUptoSaid : Prop := attrsKnownUptoRow.holds Try.pinned (OpenSpec.upto attrsKnownSpec)

end Rows
end Go.Proofs.Ytkeoanklmnadiaa
