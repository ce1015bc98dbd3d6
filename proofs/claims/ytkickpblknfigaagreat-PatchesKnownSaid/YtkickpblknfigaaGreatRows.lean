/-
  NARROWER THAN 'FOR EVERY INPUT', by the rows' own cells (each row's printed sentence says how): PatchesCarry: loops · PatchesErrors: loops.
  DERIVED. THE GIVEN ROWS OF THIS SEAT. 6 by the template 'for every input the law returns true; each argument reads behind the call as it read before'; 0 by the template 'total and deterministic' (their statements: YtkickpblknfigaaGreatTotals.lean).
  GIVEN WITH THE SEED: the statements are not yours to turn. If you find one false, say at which input.
  Laid BY PROGRAM, IN A SANDBOX (cutbox-rows.mjs): the forced cells as the released guide's own fill.sh prints them over the translation 78c9621fa6fe7ee7… (all of the seat's roots in one cut). By AI agents, Wed Nov 11 2026. No macro, syntax, notation, axiom, sorry.
-/
import Derived.Test.YtkickpblknfigaaGreatChecked
import GoSem.Claim
import GoSem.ClaimJoined
import GoSem.ClaimMapViews
import Derived.JoinedTies
import Derived.KernelRfl
namespace Go.Proofs.YtkickpblknfigaaGreat
/- THE CELL 'sum', in the pinned program and in every row, IS THE sha256 OF THE DUMP (.gsa) THAT YtkickpblknfigaaGreatProg.lean LOADS. Nothing in Lean hashes anything: it is a label: what it is worth is what the hold of that sum in a sandbox is worth. -/
noncomputable def Tryz.pinned : Pinned := { name := "ytkickpblknfigaagreat", sum := "78c9621fa6fe7ee7770b1e434ca856bb256179828ec0f987b8630c600bfa13c6", checked := Tryz.checked }
namespace Rows
def none {H : Type} : Left H := { results := [], args := [] }

/-- 'paternosterlaw20.PatchesHandles': WHATEVER THE INPUT: true; the input reads as it did. -/
def patchesHandlesSpec : ChangeSpec := { name := "patchesHandles", fn := fun _ => fun
  | [d1, d2] => { results := [.lit (.bool true)], args := [d1, d2] }
  | _ => none }
def patchesHandlesRow : OpenClaim := { program := "ytkickpblknfigaagreat", sum := "78c9621fa6fe7ee7770b1e434ca856bb256179828ec0f987b8630c600bfa13c6", func := "paternoster/paternosterlaw20.PatchesHandles", spec := "patchesHandles", inPlace := ["slices.overlaps[paternoster/api.Handle]", "slices.overlaps[int]"], unfollowed := true, recurses := true, plainKeys := false, apart := false }
def PatchesHandlesSaid : Prop := patchesHandlesRow.holds Tryz.pinned (OpenSpec.ofChange patchesHandlesSpec)

/-- ITS FALSE NEIGHBOUR: 'it returns false'. Refute it at one input. -/
def patchesHandlesWrong : ChangeSpec := { name := "patchesHandles", fn := fun _ => fun
  | [d1, d2] => { results := [.lit (.bool false)], args := [d1, d2] }
  | _ => none }
def PatchesHandlesWrongFalsely : Prop := patchesHandlesRow.holds Tryz.pinned (OpenSpec.ofChange patchesHandlesWrong)

/-- 'paternosterlaw20.PatchesPatch': WHATEVER THE INPUT: true; the input reads as it did. -/
def patchesPatchSpec : ChangeSpec := { name := "patchesPatch", fn := fun _ => fun
  | [d1, d2, d3] => { results := [.lit (.bool true)], args := [d1, d2, d3] }
  | _ => none }
def patchesPatchRow : OpenClaim := { program := "ytkickpblknfigaagreat", sum := "78c9621fa6fe7ee7770b1e434ca856bb256179828ec0f987b8630c600bfa13c6", func := "paternoster/paternosterlaw20.PatchesPatch", spec := "patchesPatch", inPlace := ["slices.overlaps[paternoster/api.Handle]", "slices.overlaps[int]"], unfollowed := true, recurses := true, plainKeys := false, apart := false }
def PatchesPatchSaid : Prop := patchesPatchRow.holds Tryz.pinned (OpenSpec.ofChange patchesPatchSpec)

/-- ITS FALSE NEIGHBOUR: 'it returns false'. Refute it at one input. -/
def patchesPatchWrong : ChangeSpec := { name := "patchesPatch", fn := fun _ => fun
  | [d1, d2, d3] => { results := [.lit (.bool false)], args := [d1, d2, d3] }
  | _ => none }
def PatchesPatchWrongFalsely : Prop := patchesPatchRow.holds Tryz.pinned (OpenSpec.ofChange patchesPatchWrong)

/-- 'paternosterlaw20.PatchesBack': WHATEVER THE INPUT: true; the input reads as it did. -/
def patchesBackSpec : ChangeSpec := { name := "patchesBack", fn := fun _ => fun
  | [d1, d2, d3] => { results := [.lit (.bool true)], args := [d1, d2, d3] }
  | _ => none }
def patchesBackRow : OpenClaim := { program := "ytkickpblknfigaagreat", sum := "78c9621fa6fe7ee7770b1e434ca856bb256179828ec0f987b8630c600bfa13c6", func := "paternoster/paternosterlaw20.PatchesBack", spec := "patchesBack", inPlace := ["slices.overlaps[paternoster/api.Handle]", "slices.overlaps[int]"], unfollowed := true, recurses := true, plainKeys := false, apart := false }
def PatchesBackSaid : Prop := patchesBackRow.holds Tryz.pinned (OpenSpec.ofChange patchesBackSpec)

/-- ITS FALSE NEIGHBOUR: 'it returns false'. Refute it at one input. -/
def patchesBackWrong : ChangeSpec := { name := "patchesBack", fn := fun _ => fun
  | [d1, d2, d3] => { results := [.lit (.bool false)], args := [d1, d2, d3] }
  | _ => none }
def PatchesBackWrongFalsely : Prop := patchesBackRow.holds Tryz.pinned (OpenSpec.ofChange patchesBackWrong)

/-- 'paternosterlaw20.PatchesKnown': WHATEVER THE INPUT: true; the input reads as it did. -/
def patchesKnownSpec : ChangeSpec := { name := "patchesKnown", fn := fun _ => fun
  | [] => { results := [.lit (.bool true)], args := [] }
  | _ => none }
def patchesKnownRow : OpenClaim := { program := "ytkickpblknfigaagreat", sum := "78c9621fa6fe7ee7770b1e434ca856bb256179828ec0f987b8630c600bfa13c6", func := "paternoster/paternosterlaw20.PatchesKnown", spec := "patchesKnown", inPlace := ["slices.overlaps[paternoster/api.Handle]", "slices.overlaps[int]", "slices.overlaps[paternoster/api.Attr]", "slices.overlaps[paternoster/api.Node]"], unfollowed := true, recurses := true, plainKeys := false, apart := false }
def PatchesKnownSaid : Prop := patchesKnownRow.holds Tryz.pinned (OpenSpec.ofChange patchesKnownSpec)

/-- ITS FALSE NEIGHBOUR: 'it returns false'. Refute it at one input. -/
def patchesKnownWrong : ChangeSpec := { name := "patchesKnown", fn := fun _ => fun
  | [] => { results := [.lit (.bool false)], args := [] }
  | _ => none }
def PatchesKnownWrongFalsely : Prop := patchesKnownRow.holds Tryz.pinned (OpenSpec.ofChange patchesKnownWrong)

/-- 'paternosterlaw20.PatchesCarry': WHATEVER THE INPUT: true; the input reads as it did. -/
def patchesCarrySpec : ChangeSpec := { name := "patchesCarry", fn := fun _ => fun
  | [d1, d2, d3] => { results := [.lit (.bool true)], args := [d1, d2, d3] }
  | _ => none }
def patchesCarryRow : OpenClaim := { program := "ytkickpblknfigaagreat", sum := "78c9621fa6fe7ee7770b1e434ca856bb256179828ec0f987b8630c600bfa13c6", func := "paternoster/paternosterlaw20.PatchesCarry", spec := "patchesCarry", inPlace := ["slices.overlaps[paternoster/api.Handle]", "slices.overlaps[int]", "slices.overlaps[paternoster/api.Attr]", "slices.overlaps[paternoster/api.Node]"], unfollowed := true, recurses := true, loops := true, plainKeys := false, apart := false }
def PatchesCarrySaid : Prop := patchesCarryRow.holds Tryz.pinned (OpenSpec.ofChange patchesCarrySpec)

/-- ITS FALSE NEIGHBOUR: 'it returns false'. Refute it at one input. -/
def patchesCarryWrong : ChangeSpec := { name := "patchesCarry", fn := fun _ => fun
  | [d1, d2, d3] => { results := [.lit (.bool false)], args := [d1, d2, d3] }
  | _ => none }
def PatchesCarryWrongFalsely : Prop := patchesCarryRow.holds Tryz.pinned (OpenSpec.ofChange patchesCarryWrong)

/-- 'paternosterlaw20.PatchesErrors': WHATEVER THE INPUT: true; the input reads as it did. -/
def patchesErrorsSpec : ChangeSpec := { name := "patchesErrors", fn := fun _ => fun
  | [d1, d2, d3] => { results := [.lit (.bool true)], args := [d1, d2, d3] }
  | _ => none }
def patchesErrorsRow : OpenClaim := { program := "ytkickpblknfigaagreat", sum := "78c9621fa6fe7ee7770b1e434ca856bb256179828ec0f987b8630c600bfa13c6", func := "paternoster/paternosterlaw20.PatchesErrors", spec := "patchesErrors", inPlace := ["slices.overlaps[paternoster/api.Handle]", "slices.overlaps[int]", "slices.overlaps[paternoster/api.Attr]", "slices.overlaps[paternoster/api.Node]"], unfollowed := true, recurses := true, loops := true, plainKeys := false, apart := false }
def PatchesErrorsSaid : Prop := patchesErrorsRow.holds Tryz.pinned (OpenSpec.ofChange patchesErrorsSpec)

/-- ITS FALSE NEIGHBOUR: 'it returns false'. Refute it at one input. -/
def patchesErrorsWrong : ChangeSpec := { name := "patchesErrors", fn := fun _ => fun
  | [d1, d2, d3] => { results := [.lit (.bool false)], args := [d1, d2, d3] }
  | _ => none }
def PatchesErrorsWrongFalsely : Prop := patchesErrorsRow.holds Tryz.pinned (OpenSpec.ofChange patchesErrorsWrong)

/- THE SECOND FORM. 'bulk': how many values and letters a reading holds, each counted each time it is reached (what is shared counts as often as it is met; a slice's spare places count too). A statement '..UptoSaid' is the law's where the arguments, and the package variables that the reading takes, are together of bulk at most 1048576: NARROWER than '..Said'. Prove '..Said' where nothing that the law and all that it calls make is longer than what came in: it says more and counts as full. Else prove '..UptoSaid'. A law counts once. -/
mutual
def uptoBulk {H : Type} : DataW H → Nat
  | .lit (.string bytes) => bytes.length + 1
  | .lit _ => 1
  | .nil => 1
  | .ptr d => uptoBulk d + 1
  | .slice elems spare => uptoBulkAll elems + uptoBulkAll spare + 1
  | .agg parts => uptoBulkAll parts + 1
  | .iface _ d => uptoBulk d + 1
  | .map entries => uptoBulkEntries entries + 1
  | .held _ => 1
def uptoBulkAll {H : Type} : List (DataW H) → Nat
  | [] => 0
  | d :: r => uptoBulk d + uptoBulkAll r
def uptoBulkEntries {H : Type} : List (Lit × DataW H) → Nat
  | [] => 0
  | x :: r => uptoBulkEntry x + uptoBulkEntries r
def uptoBulkEntry {H : Type} : Lit × DataW H → Nat
  | (.string bytes, d) => bytes.length + uptoBulk d + 1
  | (_, d) => uptoBulk d + 1
 end
def uptoSmall : (H : Type) → List (DataW H) → Bool := fun _ ds => decide (uptoBulkAll ds ≤ 1048576)
def OpenSpec.upto (s : _root_.Go.ChangeSpec) : _root_.Go.OpenSpec := { _root_.Go.OpenSpec.ofChange s with cond := some uptoSmall }

/-- 'paternosterlaw20.PatchesHandles', WHERE WHAT IT READS IS OF BULK AT MOST 1048576: true; the input reads as it did. -/
def patchesHandlesUptoRow : OpenClaim := { program := "ytkickpblknfigaagreat", sum := "78c9621fa6fe7ee7770b1e434ca856bb256179828ec0f987b8630c600bfa13c6", func := "paternoster/paternosterlaw20.PatchesHandles", spec := "patchesHandles", inPlace := ["slices.overlaps[paternoster/api.Handle]", "slices.overlaps[int]"], unfollowed := true, recurses := true, plainKeys := false, apart := false, narrowed := true }
def PatchesHandlesUptoSaid : Prop := patchesHandlesUptoRow.holds Tryz.pinned (OpenSpec.upto patchesHandlesSpec)

/-- 'paternosterlaw20.PatchesPatch', WHERE WHAT IT READS IS OF BULK AT MOST 1048576: true; the input reads as it did. -/
def patchesPatchUptoRow : OpenClaim := { program := "ytkickpblknfigaagreat", sum := "78c9621fa6fe7ee7770b1e434ca856bb256179828ec0f987b8630c600bfa13c6", func := "paternoster/paternosterlaw20.PatchesPatch", spec := "patchesPatch", inPlace := ["slices.overlaps[paternoster/api.Handle]", "slices.overlaps[int]"], unfollowed := true, recurses := true, plainKeys := false, apart := false, narrowed := true }
def PatchesPatchUptoSaid : Prop := patchesPatchUptoRow.holds Tryz.pinned (OpenSpec.upto patchesPatchSpec)

/-- 'paternosterlaw20.PatchesBack', WHERE WHAT IT READS IS OF BULK AT MOST 1048576: true; the input reads as it did. -/
def patchesBackUptoRow : OpenClaim := { program := "ytkickpblknfigaagreat", sum := "78c9621fa6fe7ee7770b1e434ca856bb256179828ec0f987b8630c600bfa13c6", func := "paternoster/paternosterlaw20.PatchesBack", spec := "patchesBack", inPlace := ["slices.overlaps[paternoster/api.Handle]", "slices.overlaps[int]"], unfollowed := true, recurses := true, plainKeys := false, apart := false, narrowed := true }
def PatchesBackUptoSaid : Prop := patchesBackUptoRow.holds Tryz.pinned (OpenSpec.upto patchesBackSpec)

/-- 'paternosterlaw20.PatchesKnown', WHERE WHAT IT READS IS OF BULK AT MOST 1048576: true; the input reads as it did. -/
def patchesKnownUptoRow : OpenClaim := { program := "ytkickpblknfigaagreat", sum := "78c9621fa6fe7ee7770b1e434ca856bb256179828ec0f987b8630c600bfa13c6", func := "paternoster/paternosterlaw20.PatchesKnown", spec := "patchesKnown", inPlace := ["slices.overlaps[paternoster/api.Handle]", "slices.overlaps[int]", "slices.overlaps[paternoster/api.Attr]", "slices.overlaps[paternoster/api.Node]"], unfollowed := true, recurses := true, plainKeys := false, apart := false, narrowed := true }
def PatchesKnownUptoSaid : Prop := patchesKnownUptoRow.holds Tryz.pinned (OpenSpec.upto patchesKnownSpec)

/-- 'paternosterlaw20.PatchesCarry', WHERE WHAT IT READS IS OF BULK AT MOST 1048576: true; the input reads as it did. -/
def patchesCarryUptoRow : OpenClaim := { program := "ytkickpblknfigaagreat", sum := "78c9621fa6fe7ee7770b1e434ca856bb256179828ec0f987b8630c600bfa13c6", func := "paternoster/paternosterlaw20.PatchesCarry", spec := "patchesCarry", inPlace := ["slices.overlaps[paternoster/api.Handle]", "slices.overlaps[int]", "slices.overlaps[paternoster/api.Attr]", "slices.overlaps[paternoster/api.Node]"], unfollowed := true, recurses := true, loops := true, plainKeys := false, apart := false, narrowed := true }
def PatchesCarryUptoSaid : Prop := patchesCarryUptoRow.holds Tryz.pinned (OpenSpec.upto patchesCarrySpec)

/-- 'paternosterlaw20.PatchesErrors', WHERE WHAT IT READS IS OF BULK AT MOST 1048576: true; the input reads as it did. -/
def patchesErrorsUptoRow : OpenClaim := { program := "ytkickpblknfigaagreat", sum := "78c9621fa6fe7ee7770b1e434ca856bb256179828ec0f987b8630c600bfa13c6", func := "paternoster/paternosterlaw20.PatchesErrors", spec := "patchesErrors", inPlace := ["slices.overlaps[paternoster/api.Handle]", "slices.overlaps[int]", "slices.overlaps[paternoster/api.Attr]", "slices.overlaps[paternoster/api.Node]"], unfollowed := true, recurses := true, loops := true, plainKeys := false, apart := false, narrowed := true }
def PatchesErrorsUptoSaid : Prop := patchesErrorsUptoRow.holds Tryz.pinned (OpenSpec.upto patchesErrorsSpec)

end Rows
end Go.Proofs.YtkickpblknfigaaGreat
