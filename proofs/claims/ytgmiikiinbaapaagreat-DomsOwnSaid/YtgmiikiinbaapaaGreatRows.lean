/-
  No cell of these rows narrows 'for every input' (looked for: loops, veiled, ifaces, maps, wideKeys, modest, calm, conditions, laid).
  DERIVED. THE GIVEN ROWS OF THIS SEAT. 6 by the template 'for every input the law returns true; each argument reads behind the call as it read before'; 0 by the template 'total and deterministic' (their statements: YtgmiikiinbaapaaGreatTotals.lean).
  GIVEN WITH THE SEED: the statements are not yours to turn. If you find one false, say at which input.
  Laid BY PROGRAM, IN A SANDBOX (cutbox-rows.mjs): the forced cells as the released guide's own fill.sh prints them over the translation bae3d39ba5361a0f… (all of the seat's roots in one cut). By AI agents, Wed Nov 11 2026. No macro, syntax, notation, axiom, sorry.
-/
import Derived.Test.YtgmiikiinbaapaaGreatChecked
import GoSem.Claim
import GoSem.ClaimJoined
import GoSem.ClaimMapViews
import Derived.JoinedTies
import Derived.KernelRfl
namespace Go.Proofs.YtgmiikiinbaapaaGreat
/- THE CELL 'sum', in the pinned program and in every row, IS THE sha256 OF THE DUMP (.gsa) THAT YtgmiikiinbaapaaGreatProg.lean LOADS. Nothing in Lean hashes anything: it is a label: what it is worth is what the hold of that sum in a sandbox is worth. -/
noncomputable def Tryz.pinned : Pinned := { name := "ytgmiikiinbaapaagreat", sum := "bae3d39ba5361a0f0e85e3a0f0fb3b335e2ade7a2c964dab20c011479e828f89", checked := Tryz.checked }
namespace Rows
def none {H : Type} : Left H := { results := [], args := [] }

/-- 'paternosterlaw16.DomsKnown': WHATEVER THE INPUT: true; the input reads as it did. -/
def domsKnownSpec : ChangeSpec := { name := "domsKnown", fn := fun _ => fun
  | [] => { results := [.lit (.bool true)], args := [] }
  | _ => none }
def domsKnownRow : OpenClaim := { program := "ytgmiikiinbaapaagreat", sum := "bae3d39ba5361a0f0e85e3a0f0fb3b335e2ade7a2c964dab20c011479e828f89", func := "paternoster/paternosterlaw16.DomsKnown", spec := "domsKnown", inPlace := ["slices.overlaps[paternoster/api.Handle]"], unfollowed := true, recurses := true, apart := false }
def DomsKnownSaid : Prop := domsKnownRow.holds Tryz.pinned (OpenSpec.ofChange domsKnownSpec)

/-- ITS FALSE NEIGHBOUR: 'it returns false'. Refute it at one input. -/
def domsKnownWrong : ChangeSpec := { name := "domsKnown", fn := fun _ => fun
  | [] => { results := [.lit (.bool false)], args := [] }
  | _ => none }
def DomsKnownWrongFalsely : Prop := domsKnownRow.holds Tryz.pinned (OpenSpec.ofChange domsKnownWrong)

/-- 'paternosterlaw16.DomsPlay': WHATEVER THE INPUT: true; the input reads as it did. -/
def domsPlaySpec : ChangeSpec := { name := "domsPlay", fn := fun _ => fun
  | [d] => { results := [.lit (.bool true)], args := [d] }
  | _ => none }
def domsPlayRow : OpenClaim := { program := "ytgmiikiinbaapaagreat", sum := "bae3d39ba5361a0f0e85e3a0f0fb3b335e2ade7a2c964dab20c011479e828f89", func := "paternoster/paternosterlaw16.DomsPlay", spec := "domsPlay", inPlace := ["slices.overlaps[paternoster/api.Handle]"], unfollowed := true, recurses := true, apart := false }
def DomsPlaySaid : Prop := domsPlayRow.holds Tryz.pinned (OpenSpec.ofChange domsPlaySpec)

/-- ITS FALSE NEIGHBOUR: 'it returns false'. Refute it at one input. -/
def domsPlayWrong : ChangeSpec := { name := "domsPlay", fn := fun _ => fun
  | [d] => { results := [.lit (.bool false)], args := [d] }
  | _ => none }
def DomsPlayWrongFalsely : Prop := domsPlayRow.holds Tryz.pinned (OpenSpec.ofChange domsPlayWrong)

/-- 'paternosterlaw16.DomsOwn': WHATEVER THE INPUT: true; the input reads as it did. -/
def domsOwnSpec : ChangeSpec := { name := "domsOwn", fn := fun _ => fun
  | [d] => { results := [.lit (.bool true)], args := [d] }
  | _ => none }
def domsOwnRow : OpenClaim := { program := "ytgmiikiinbaapaagreat", sum := "bae3d39ba5361a0f0e85e3a0f0fb3b335e2ade7a2c964dab20c011479e828f89", func := "paternoster/paternosterlaw16.DomsOwn", spec := "domsOwn", inPlace := ["slices.overlaps[paternoster/api.Handle]"], unfollowed := true, recurses := true, apart := false }
def DomsOwnSaid : Prop := domsOwnRow.holds Tryz.pinned (OpenSpec.ofChange domsOwnSpec)

/-- ITS FALSE NEIGHBOUR: 'it returns false'. Refute it at one input. -/
def domsOwnWrong : ChangeSpec := { name := "domsOwn", fn := fun _ => fun
  | [d] => { results := [.lit (.bool false)], args := [d] }
  | _ => none }
def DomsOwnWrongFalsely : Prop := domsOwnRow.holds Tryz.pinned (OpenSpec.ofChange domsOwnWrong)

/-- 'paternosterlaw16.DomsUndo': WHATEVER THE INPUT: true; the input reads as it did. -/
def domsUndoSpec : ChangeSpec := { name := "domsUndo", fn := fun _ => fun
  | [d1, d2, d3] => { results := [.lit (.bool true)], args := [d1, d2, d3] }
  | _ => none }
def domsUndoRow : OpenClaim := { program := "ytgmiikiinbaapaagreat", sum := "bae3d39ba5361a0f0e85e3a0f0fb3b335e2ade7a2c964dab20c011479e828f89", func := "paternoster/paternosterlaw16.DomsUndo", spec := "domsUndo", inPlace := ["slices.overlaps[paternoster/api.Handle]"], unfollowed := true, recurses := true, apart := false }
def DomsUndoSaid : Prop := domsUndoRow.holds Tryz.pinned (OpenSpec.ofChange domsUndoSpec)

/-- ITS FALSE NEIGHBOUR: 'it returns false'. Refute it at one input. -/
def domsUndoWrong : ChangeSpec := { name := "domsUndo", fn := fun _ => fun
  | [d1, d2, d3] => { results := [.lit (.bool false)], args := [d1, d2, d3] }
  | _ => none }
def DomsUndoWrongFalsely : Prop := domsUndoRow.holds Tryz.pinned (OpenSpec.ofChange domsUndoWrong)

/-- 'paternosterlaw16.DomsCopy': WHATEVER THE INPUT: true; the input reads as it did. -/
def domsCopySpec : ChangeSpec := { name := "domsCopy", fn := fun _ => fun
  | [d1, d2, d3] => { results := [.lit (.bool true)], args := [d1, d2, d3] }
  | _ => none }
def domsCopyRow : OpenClaim := { program := "ytgmiikiinbaapaagreat", sum := "bae3d39ba5361a0f0e85e3a0f0fb3b335e2ade7a2c964dab20c011479e828f89", func := "paternoster/paternosterlaw16.DomsCopy", spec := "domsCopy", inPlace := ["slices.overlaps[paternoster/api.Handle]"], unfollowed := true, recurses := true, apart := false }
def DomsCopySaid : Prop := domsCopyRow.holds Tryz.pinned (OpenSpec.ofChange domsCopySpec)

/-- ITS FALSE NEIGHBOUR: 'it returns false'. Refute it at one input. -/
def domsCopyWrong : ChangeSpec := { name := "domsCopy", fn := fun _ => fun
  | [d1, d2, d3] => { results := [.lit (.bool false)], args := [d1, d2, d3] }
  | _ => none }
def DomsCopyWrongFalsely : Prop := domsCopyRow.holds Tryz.pinned (OpenSpec.ofChange domsCopyWrong)

/-- 'paternosterlaw16.DomsNil': WHATEVER THE INPUT: true; the input reads as it did. -/
def domsNilSpec : ChangeSpec := { name := "domsNil", fn := fun _ => fun
  | [d1, d2, d3] => { results := [.lit (.bool true)], args := [d1, d2, d3] }
  | _ => none }
def domsNilRow : OpenClaim := { program := "ytgmiikiinbaapaagreat", sum := "bae3d39ba5361a0f0e85e3a0f0fb3b335e2ade7a2c964dab20c011479e828f89", func := "paternoster/paternosterlaw16.DomsNil", spec := "domsNil", inPlace := ["slices.overlaps[paternoster/api.Handle]"], unfollowed := true, recurses := true, apart := false }
def DomsNilSaid : Prop := domsNilRow.holds Tryz.pinned (OpenSpec.ofChange domsNilSpec)

/-- ITS FALSE NEIGHBOUR: 'it returns false'. Refute it at one input. -/
def domsNilWrong : ChangeSpec := { name := "domsNil", fn := fun _ => fun
  | [d1, d2, d3] => { results := [.lit (.bool false)], args := [d1, d2, d3] }
  | _ => none }
def DomsNilWrongFalsely : Prop := domsNilRow.holds Tryz.pinned (OpenSpec.ofChange domsNilWrong)

/- THE SECOND FORM. 'bulk': how many values and letters a reading holds, each counted each time it is reached (what is shared counts as often as it is met; a slice's spare places count too). A statement '..UptoSaid' is the law's where the arguments, and the package variables that the reading takes, are together of bulk at most 1048576: NARROWER than '..Said'. Prove '..Said' where nothing that the law and all that it calls make is longer than what came in: it says more and counts as full. Else prove '..UptoSaid'. A law counts once. -/
mutual
def uptoBulk {H : Type} : DataW H → Nat
  | .lit (.string bytes) => bytes.length + 1
  | .lit _ => 1
  | .nil => 1
  | .ptr d => uptoBulk d + 1
  | .slice elems spare => uptoBulkAll elems + uptoBulkAll spare + 1
  | .agg parts => uptoBulkAll parts + 1
  | .iface _ d => uptoBulk d + 1
  | .map entries => uptoBulkEntries entries + 1
  | .held _ => 1
def uptoBulkAll {H : Type} : List (DataW H) → Nat
  | [] => 0
  | d :: r => uptoBulk d + uptoBulkAll r
def uptoBulkEntries {H : Type} : List (Lit × DataW H) → Nat
  | [] => 0
  | x :: r => uptoBulkEntry x + uptoBulkEntries r
def uptoBulkEntry {H : Type} : Lit × DataW H → Nat
  | (.string bytes, d) => bytes.length + uptoBulk d + 1
  | (_, d) => uptoBulk d + 1
 end
def uptoSmall : (H : Type) → List (DataW H) → Bool := fun _ ds => decide (uptoBulkAll ds ≤ 1048576)
def OpenSpec.upto (s : _root_.Go.ChangeSpec) : _root_.Go.OpenSpec := { _root_.Go.OpenSpec.ofChange s with cond := some uptoSmall }

/-- 'paternosterlaw16.DomsKnown', WHERE WHAT IT READS IS OF BULK AT MOST 1048576: true; the input reads as it did. -/
def domsKnownUptoRow : OpenClaim := { program := "ytgmiikiinbaapaagreat", sum := "bae3d39ba5361a0f0e85e3a0f0fb3b335e2ade7a2c964dab20c011479e828f89", func := "paternoster/paternosterlaw16.DomsKnown", spec := "domsKnown", inPlace := ["slices.overlaps[paternoster/api.Handle]"], unfollowed := true, recurses := true, apart := false, narrowed := true }
def DomsKnownUptoSaid : Prop := domsKnownUptoRow.holds Tryz.pinned (OpenSpec.upto domsKnownSpec)

/-- 'paternosterlaw16.DomsPlay', WHERE WHAT IT READS IS OF BULK AT MOST 1048576: true; the input reads as it did. -/
def domsPlayUptoRow : OpenClaim := { program := "ytgmiikiinbaapaagreat", sum := "bae3d39ba5361a0f0e85e3a0f0fb3b335e2ade7a2c964dab20c011479e828f89", func := "paternoster/paternosterlaw16.DomsPlay", spec := "domsPlay", inPlace := ["slices.overlaps[paternoster/api.Handle]"], unfollowed := true, recurses := true, apart := false, narrowed := true }
def DomsPlayUptoSaid : Prop := domsPlayUptoRow.holds Tryz.pinned (OpenSpec.upto domsPlaySpec)

/-- 'paternosterlaw16.DomsOwn', WHERE WHAT IT READS IS OF BULK AT MOST 1048576: true; the input reads as it did. -/
def domsOwnUptoRow : OpenClaim := { program := "ytgmiikiinbaapaagreat", sum := "bae3d39ba5361a0f0e85e3a0f0fb3b335e2ade7a2c964dab20c011479e828f89", func := "paternoster/paternosterlaw16.DomsOwn", spec := "domsOwn", inPlace := ["slices.overlaps[paternoster/api.Handle]"], unfollowed := true, recurses := true, apart := false, narrowed := true }
def DomsOwnUptoSaid : Prop := domsOwnUptoRow.holds Tryz.pinned (OpenSpec.upto domsOwnSpec)

/-- 'paternosterlaw16.DomsUndo', WHERE WHAT IT READS IS OF BULK AT MOST 1048576: true; the input reads as it did. -/
def domsUndoUptoRow : OpenClaim := { program := "ytgmiikiinbaapaagreat", sum := "bae3d39ba5361a0f0e85e3a0f0fb3b335e2ade7a2c964dab20c011479e828f89", func := "paternoster/paternosterlaw16.DomsUndo", spec := "domsUndo", inPlace := ["slices.overlaps[paternoster/api.Handle]"], unfollowed := true, recurses := true, apart := false, narrowed := true }
def DomsUndoUptoSaid : Prop := domsUndoUptoRow.holds Tryz.pinned (OpenSpec.upto domsUndoSpec)

/-- 'paternosterlaw16.DomsCopy', WHERE WHAT IT READS IS OF BULK AT MOST 1048576: true; the input reads as it did. -/
def domsCopyUptoRow : OpenClaim := { program := "ytgmiikiinbaapaagreat", sum := "bae3d39ba5361a0f0e85e3a0f0fb3b335e2ade7a2c964dab20c011479e828f89", func := "paternoster/paternosterlaw16.DomsCopy", spec := "domsCopy", inPlace := ["slices.overlaps[paternoster/api.Handle]"], unfollowed := true, recurses := true, apart := false, narrowed := true }
def DomsCopyUptoSaid : Prop := domsCopyUptoRow.holds Tryz.pinned (OpenSpec.upto domsCopySpec)

/-- 'paternosterlaw16.DomsNil', WHERE WHAT IT READS IS OF BULK AT MOST 1048576: true; the input reads as it did. -/
def domsNilUptoRow : OpenClaim := { program := "ytgmiikiinbaapaagreat", sum := "bae3d39ba5361a0f0e85e3a0f0fb3b335e2ade7a2c964dab20c011479e828f89", func := "paternoster/paternosterlaw16.DomsNil", spec := "domsNil", inPlace := ["slices.overlaps[paternoster/api.Handle]"], unfollowed := true, recurses := true, apart := false, narrowed := true }
def DomsNilUptoSaid : Prop := domsNilUptoRow.holds Tryz.pinned (OpenSpec.upto domsNilSpec)

end Rows
end Go.Proofs.YtgmiikiinbaapaaGreat
