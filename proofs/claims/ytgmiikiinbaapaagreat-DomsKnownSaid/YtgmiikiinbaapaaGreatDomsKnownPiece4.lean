/-
  What is proved: the executor runs the piece 4 of the law DomsKnown from one state to the next one.
  Conditions: none.
-/
import Derived.Test.YtgmiikiinbaapaaGreatDomsKnownStates
namespace Go.Proofs.YtgmiikiinbaapaaGreat.domsKnown
open Go.RowKit
set_option maxRecDepth 100000 in
theorem piece4 : Xe.pieceB Tryz.prog (Xe.xdraw Tryz.prog) (Xe.exec Tryz.prog (Xe.ovIf 115 35 Xe.noOv) 100000) 263 100000 (List.replicate 7 (Xe.loopOf Tryz.prog 3 26)) s4 [0, 1, 2, 3, 4, 5, 6, 7, 8, 9, 10, 11, 12, 13, 14, 15, 16, 17, 18, 19, 20, 21, 22, 23, 24, 25, 26, 27, 28, 29, 30, 31, 32, 33, 34, 64, 895, 1726, 2557, 3388, 4219, 5050, 5060, 5069, 5722] s5 = true := by kernel_rfl
end Go.Proofs.YtgmiikiinbaapaaGreat.domsKnown
