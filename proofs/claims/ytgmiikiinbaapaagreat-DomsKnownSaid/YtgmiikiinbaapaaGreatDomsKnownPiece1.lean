/-
  What is proved: the executor runs the piece 1 of the law DomsKnown from one state to the next one.
  Conditions: none.
-/
import Derived.Test.YtgmiikiinbaapaaGreatDomsKnownStates
namespace Go.Proofs.YtgmiikiinbaapaaGreat.domsKnown
open Go.RowKit
set_option maxRecDepth 100000 in
theorem piece1 : Xe.pieceB Tryz.prog (Xe.xdraw Tryz.prog) (Xe.exec Tryz.prog (Xe.ovIf 115 35 Xe.noOv) 100000) 263 100000 (Xe.part Tryz.prog 3 7 13) s1 [0, 3, 4, 140, 141, 142, 143, 144, 2439, 2440, 2441, 2467, 2510, 2902, 3060, 3498, 3656, 4140, 4298, 4830, 4988, 5566, 5724, 5734, 5743, 6348] s2 = true := by kernel_rfl
end Go.Proofs.YtgmiikiinbaapaaGreat.domsKnown
