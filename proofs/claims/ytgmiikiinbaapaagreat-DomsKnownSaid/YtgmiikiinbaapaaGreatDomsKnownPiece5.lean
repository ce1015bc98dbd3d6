/-
  What is proved: the executor runs the piece 5 of the law DomsKnown from one state to the next one.
  Conditions: none.
-/
import Derived.Test.YtgmiikiinbaapaaGreatDomsKnownStates
namespace Go.Proofs.YtgmiikiinbaapaaGreat.domsKnown
open Go.RowKit
set_option maxRecDepth 100000 in
theorem piece5 : Xe.loopB Tryz.prog (Xe.xdraw Tryz.prog) (Xe.exec Tryz.prog (Xe.ovIf 115 35 Xe.noOv) 100000) 263 100000 (Xe.loopOf Tryz.prog 3 26) 6 s5 [0, 1, 2, 3, 4, 5, 6, 7, 8, 9, 10, 11, 12, 13, 14, 15, 16, 17, 18, 19, 20, 21, 22, 23, 24, 25, 26, 27, 28, 29, 30, 31, 32, 33, 34, 35, 36, 37, 38, 39, 40, 41, 71, 902, 1733, 1743, 1752, 2405] s6 = true := by kernel_rfl
end Go.Proofs.YtgmiikiinbaapaaGreat.domsKnown
