/-
  What is proved: the walk of the law PatchesKnown: called in any memory it returns true.
  Conditions: none.
-/
import Derived.Test.YtkickpblknfigaaGreatPatchesKnownChain3
namespace Go.Proofs.YtkickpblknfigaaGreat.patchesKnown
open Go.RowKit
set_option maxRecDepth 100000 in
theorem walk (w : World) : Calls Tryz.prog 6 #[] w fun e w' => e = .returned (.bool true) ∧ Below w.heap.size w w' :=
  Xe.calls_of_pieces' mixed (Xe.withSumm_ok (Xe.exec_ok mixed ov_ok 100000) summ23) (by kernel_rfl) (by kernel_rfl) (by kernel_rfl) until0x99 piece102 w

end Go.Proofs.YtkickpblknfigaaGreat.patchesKnown
