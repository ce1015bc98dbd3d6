/-
  What is proved: the law PatchesKnown, which takes no arguments, returns true in whatever memory it is called.
  Conditions: none. The walk is the run of the executor (texts Xe1 to Xe21), which the kernel carries out in pieces, great calls apart; the frame is a shell that the kit wrote.
-/
import Derived.Test.YtkickpblknfigaaGreatRows
import Derived.Test.YtkickpblknfigaaGreatPatchesKnownLifted
import Derived.WalkKit
import Derived.ProofKit
import Derived.OpenShut
import Derived.ShutString
namespace Go.Proofs.YtkickpblknfigaaGreat.patchesKnown
open Go.ChangeShapes Go.WideShapes Go.ChangeAt Go.RowKit
open Go.ChangeMaps (open_string shut_string)
set_option linter.unusedVariables false

theorem over : Rows.patchesKnownRow.holds Tryz.pinned (OpenSpec.ofChange Rows.patchesKnownSpec) :=
  OpenClaim.holds_of_wide 6 Tryz.f6 rfl rfl rfl rfl rfl rfl rfl ⟨rfl, rfl, rfl, rfl, rfl⟩ rfl rfl rfl rfl rfl (by kernel_rfl) Tryz.func6 (by kernel_rfl)
    (of_decide_eq_true (by kernel_rfl)) (by unfold Func.isWrapper; first | (rw [if_pos (by decide +kernel)]; kernel_rfl) | (rw [if_neg (by decide +kernel)]; exact ⟨rfl, rfl⟩))
    (fun os started H enc _ => lifted os started H enc)

theorem proved : Rows.PatchesKnownSaid :=
  over
end Go.Proofs.YtkickpblknfigaaGreat.patchesKnown
