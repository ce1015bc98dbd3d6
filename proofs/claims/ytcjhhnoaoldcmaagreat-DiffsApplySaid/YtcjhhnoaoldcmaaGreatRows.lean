/-
  NARROWER THAN 'FOR EVERY INPUT', by the rows' own cells (each row's printed sentence says how): DiffsApply: loops · DiffsErrors: loops.
  DERIVED. THE GIVEN ROWS OF THIS SEAT. 4 by the template 'for every input the law returns true; each argument reads behind the call as it read before'; 0 by the template 'total and deterministic' (their statements: YtcjhhnoaoldcmaaGreatTotals.lean).
  GIVEN WITH THE SEED: the statements are not yours to turn. If you find one false, say at which input.
  Laid BY PROGRAM, IN A SANDBOX (cutbox-rows.mjs): the forced cells as the released guide's own fill.sh prints them over the translation 71d58c0b3a636583… (all of the seat's roots in one cut). By AI agents, Wed Nov 11 2026. No macro, syntax, notation, axiom, sorry.
-/
import Derived.Test.YtcjhhnoaoldcmaaGreatChecked
import GoSem.Claim
import GoSem.ClaimJoined
import GoSem.ClaimMapViews
import Derived.JoinedTies
import Derived.KernelRfl
namespace Go.Proofs.YtcjhhnoaoldcmaaGreat
/- THE CELL 'sum', in the pinned program and in every row, IS THE sha256 OF THE DUMP (.gsa) THAT YtcjhhnoaoldcmaaGreatProg.lean LOADS. Nothing in Lean hashes anything: it is a label: what it is worth is what the hold of that sum in a sandbox is worth. -/
noncomputable def Tryz.pinned : Pinned := { name := "ytcjhhnoaoldcmaagreat", sum := "71d58c0b3a636583abfeaf0f347c72839dc973e8cf07585a3349b48526a93250", checked := Tryz.checked }
namespace Rows
def none {H : Type} : Left H := { results := [], args := [] }

/-- 'paternosterlaw19.DiffsDiff': WHATEVER THE INPUT: true; the input reads as it did. -/
def diffsDiffSpec : ChangeSpec := { name := "diffsDiff", fn := fun _ => fun
  | [d1, d2] => { results := [.lit (.bool true)], args := [d1, d2] }
  | _ => none }
def diffsDiffRow : OpenClaim := { program := "ytcjhhnoaoldcmaagreat", sum := "71d58c0b3a636583abfeaf0f347c72839dc973e8cf07585a3349b48526a93250", func := "paternoster/paternosterlaw19.DiffsDiff", spec := "diffsDiff", inPlace := ["slices.overlaps[int]", "slices.overlaps[paternoster/api.Attr]", "slices.overlaps[paternoster/api.Node]"], unfollowed := true, recurses := true, plainKeys := false, apart := false }
def DiffsDiffSaid : Prop := diffsDiffRow.holds Tryz.pinned (OpenSpec.ofChange diffsDiffSpec)

/-- ITS FALSE NEIGHBOUR: 'it returns false'. Refute it at one input. -/
def diffsDiffWrong : ChangeSpec := { name := "diffsDiff", fn := fun _ => fun
  | [d1, d2] => { results := [.lit (.bool false)], args := [d1, d2] }
  | _ => none }
def DiffsDiffWrongFalsely : Prop := diffsDiffRow.holds Tryz.pinned (OpenSpec.ofChange diffsDiffWrong)

/-- 'paternosterlaw19.DiffsSelf': WHATEVER THE INPUT: true; the input reads as it did. -/
def diffsSelfSpec : ChangeSpec := { name := "diffsSelf", fn := fun _ => fun
  | [d1, d2] => { results := [.lit (.bool true)], args := [d1, d2] }
  | _ => none }
def diffsSelfRow : OpenClaim := { program := "ytcjhhnoaoldcmaagreat", sum := "71d58c0b3a636583abfeaf0f347c72839dc973e8cf07585a3349b48526a93250", func := "paternoster/paternosterlaw19.DiffsSelf", spec := "diffsSelf", inPlace := ["slices.overlaps[int]", "slices.overlaps[paternoster/api.Attr]", "slices.overlaps[paternoster/api.Node]"], unfollowed := true, recurses := true, plainKeys := false, apart := false }
def DiffsSelfSaid : Prop := diffsSelfRow.holds Tryz.pinned (OpenSpec.ofChange diffsSelfSpec)

/-- ITS FALSE NEIGHBOUR: 'it returns false'. Refute it at one input. -/
def diffsSelfWrong : ChangeSpec := { name := "diffsSelf", fn := fun _ => fun
  | [d1, d2] => { results := [.lit (.bool false)], args := [d1, d2] }
  | _ => none }
def DiffsSelfWrongFalsely : Prop := diffsSelfRow.holds Tryz.pinned (OpenSpec.ofChange diffsSelfWrong)

/-- 'paternosterlaw19.DiffsApply': WHATEVER THE INPUT: true; the input reads as it did. -/
def diffsApplySpec : ChangeSpec := { name := "diffsApply", fn := fun _ => fun
  | [d1, d2] => { results := [.lit (.bool true)], args := [d1, d2] }
  | _ => none }
def diffsApplyRow : OpenClaim := { program := "ytcjhhnoaoldcmaagreat", sum := "71d58c0b3a636583abfeaf0f347c72839dc973e8cf07585a3349b48526a93250", func := "paternoster/paternosterlaw19.DiffsApply", spec := "diffsApply", inPlace := ["slices.overlaps[int]", "slices.overlaps[paternoster/api.Attr]", "slices.overlaps[paternoster/api.Node]"], unfollowed := true, recurses := true, loops := true, plainKeys := false, apart := false }
def DiffsApplySaid : Prop := diffsApplyRow.holds Tryz.pinned (OpenSpec.ofChange diffsApplySpec)

/-- ITS FALSE NEIGHBOUR: 'it returns false'. Refute it at one input. -/
def diffsApplyWrong : ChangeSpec := { name := "diffsApply", fn := fun _ => fun
  | [d1, d2] => { results := [.lit (.bool false)], args := [d1, d2] }
  | _ => none }
def DiffsApplyWrongFalsely : Prop := diffsApplyRow.holds Tryz.pinned (OpenSpec.ofChange diffsApplyWrong)

/-- 'paternosterlaw19.DiffsErrors': WHATEVER THE INPUT: true; the input reads as it did. -/
def diffsErrorsSpec : ChangeSpec := { name := "diffsErrors", fn := fun _ => fun
  | [d1, d2] => { results := [.lit (.bool true)], args := [d1, d2] }
  | _ => none }
def diffsErrorsRow : OpenClaim := { program := "ytcjhhnoaoldcmaagreat", sum := "71d58c0b3a636583abfeaf0f347c72839dc973e8cf07585a3349b48526a93250", func := "paternoster/paternosterlaw19.DiffsErrors", spec := "diffsErrors", inPlace := ["slices.overlaps[int]", "slices.overlaps[paternoster/api.Attr]", "slices.overlaps[paternoster/api.Node]"], unfollowed := true, recurses := true, loops := true, plainKeys := false, apart := false }
def DiffsErrorsSaid : Prop := diffsErrorsRow.holds Tryz.pinned (OpenSpec.ofChange diffsErrorsSpec)

/-- ITS FALSE NEIGHBOUR: 'it returns false'. Refute it at one input. -/
def diffsErrorsWrong : ChangeSpec := { name := "diffsErrors", fn := fun _ => fun
  | [d1, d2] => { results := [.lit (.bool false)], args := [d1, d2] }
  | _ => none }
def DiffsErrorsWrongFalsely : Prop := diffsErrorsRow.holds Tryz.pinned (OpenSpec.ofChange diffsErrorsWrong)

/- THE SECOND FORM. 'bulk': how many values and letters a reading holds, each counted each time it is reached (what is shared counts as often as it is met; a slice's spare places count too). A statement '..UptoSaid' is the law's where the arguments, and the package variables that the reading takes, are together of bulk at most 1048576: NARROWER than '..Said'. Prove '..Said' where nothing that the law and all that it calls make is longer than what came in: it says more and counts as full. Else prove '..UptoSaid'. A law counts once. -/
mutual
def uptoBulk {H : Type} : DataW H → Nat
  | .lit (.string bytes) => bytes.length + 1
  | .lit _ => 1
  | .nil => 1
  | .ptr d => uptoBulk d + 1
  | .slice elems spare => uptoBulkAll elems + uptoBulkAll spare + 1
  | .agg parts => uptoBulkAll parts + 1
  | .iface _ d => uptoBulk d + 1
  | .map entries => uptoBulkEntries entries + 1
  | .held _ => 1
def uptoBulkAll {H : Type} : List (DataW H) → Nat
  | [] => 0
  | d :: r => uptoBulk d + uptoBulkAll r
def uptoBulkEntries {H : Type} : List (Lit × DataW H) → Nat
  | [] => 0
  | x :: r => uptoBulkEntry x + uptoBulkEntries r
def uptoBulkEntry {H : Type} : Lit × DataW H → Nat
  | (.string bytes, d) => bytes.length + uptoBulk d + 1
  | (_, d) => uptoBulk d + 1
 end
def uptoSmall : (H : Type) → List (DataW H) → Bool := fun _ ds => decide (uptoBulkAll ds ≤ 1048576)
def OpenSpec.upto (s : _root_.Go.ChangeSpec) : _root_.Go.OpenSpec := { _root_.Go.OpenSpec.ofChange s with cond := some uptoSmall }

/-- 'paternosterlaw19.DiffsDiff', WHERE WHAT IT READS IS OF BULK AT MOST 1048576: true; the input reads as it did. -/
def diffsDiffUptoRow : OpenClaim := { program := "ytcjhhnoaoldcmaagreat", sum := "71d58c0b3a636583abfeaf0f347c72839dc973e8cf07585a3349b48526a93250", func := "paternoster/paternosterlaw19.DiffsDiff", spec := "diffsDiff", inPlace := ["slices.overlaps[int]", "slices.overlaps[paternoster/api.Attr]", "slices.overlaps[paternoster/api.Node]"], unfollowed := true, recurses := true, plainKeys := false, apart := false, narrowed := true }
def DiffsDiffUptoSaid : Prop := diffsDiffUptoRow.holds Tryz.pinned (OpenSpec.upto diffsDiffSpec)

/-- 'paternosterlaw19.DiffsSelf', WHERE WHAT IT READS IS OF BULK AT MOST 1048576: true; the input reads as it did. -/
def diffsSelfUptoRow : OpenClaim := { program := "ytcjhhnoaoldcmaagreat", sum := "71d58c0b3a636583abfeaf0f347c72839dc973e8cf07585a3349b48526a93250", func := "paternoster/paternosterlaw19.DiffsSelf", spec := "diffsSelf", inPlace := ["slices.overlaps[int]", "slices.overlaps[paternoster/api.Attr]", "slices.overlaps[paternoster/api.Node]"], unfollowed := true, recurses := true, plainKeys := false, apart := false, narrowed := true }
def DiffsSelfUptoSaid : Prop := diffsSelfUptoRow.holds Tryz.pinned (OpenSpec.upto diffsSelfSpec)

/-- 'paternosterlaw19.DiffsApply', WHERE WHAT IT READS IS OF BULK AT MOST 1048576: true; the input reads as it did. -/
def diffsApplyUptoRow : OpenClaim := { program := "ytcjhhnoaoldcmaagreat", sum := "71d58c0b3a636583abfeaf0f347c72839dc973e8cf07585a3349b48526a93250", func := "paternoster/paternosterlaw19.DiffsApply", spec := "diffsApply", inPlace := ["slices.overlaps[int]", "slices.overlaps[paternoster/api.Attr]", "slices.overlaps[paternoster/api.Node]"], unfollowed := true, recurses := true, loops := true, plainKeys := false, apart := false, narrowed := true }
def DiffsApplyUptoSaid : Prop := diffsApplyUptoRow.holds Tryz.pinned (OpenSpec.upto diffsApplySpec)

/-- 'paternosterlaw19.DiffsErrors', WHERE WHAT IT READS IS OF BULK AT MOST 1048576: true; the input reads as it did. -/
def diffsErrorsUptoRow : OpenClaim := { program := "ytcjhhnoaoldcmaagreat", sum := "71d58c0b3a636583abfeaf0f347c72839dc973e8cf07585a3349b48526a93250", func := "paternoster/paternosterlaw19.DiffsErrors", spec := "diffsErrors", inPlace := ["slices.overlaps[int]", "slices.overlaps[paternoster/api.Attr]", "slices.overlaps[paternoster/api.Node]"], unfollowed := true, recurses := true, loops := true, plainKeys := false, apart := false, narrowed := true }
def DiffsErrorsUptoSaid : Prop := diffsErrorsUptoRow.holds Tryz.pinned (OpenSpec.upto diffsErrorsSpec)

end Rows
end Go.Proofs.YtcjhhnoaoldcmaaGreat
