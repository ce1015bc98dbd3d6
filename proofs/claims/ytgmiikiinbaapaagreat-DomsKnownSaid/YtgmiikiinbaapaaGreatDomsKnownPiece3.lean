/-
  What is proved: the executor runs the piece 3 of the law DomsKnown from one state to the next one.
  Conditions: none.
-/
import Derived.Test.YtgmiikiinbaapaaGreatDomsKnownStates
namespace Go.Proofs.YtgmiikiinbaapaaGreat.domsKnown
open Go.RowKit
set_option maxRecDepth 100000 in
theorem piece3 : Xe.pieceB Tryz.prog (Xe.xdraw Tryz.prog) (Xe.exec Tryz.prog (Xe.ovIf 115 35 Xe.noOv) 100000) 263 100000 (List.replicate 7 (Xe.loopOf Tryz.prog 3 26)) s3 [0, 1, 2, 3, 4, 5, 6, 7, 8, 9, 10, 11, 12, 13, 14, 15, 16, 17, 18, 19, 20, 21, 22, 24, 25, 26, 27, 28, 55, 884, 1715, 2546, 3377, 4208, 5039, 5049, 5058, 5711] s4 = true := by kernel_rfl
end Go.Proofs.YtgmiikiinbaapaaGreat.domsKnown
