/-
  What is proved: the executor runs the piece 2 of the law MountsKnown from one state to the next one.
  Conditions: none.
-/
import Derived.Test.YtoegfalhkackeaaGreatMountsKnownStates
namespace Go.Proofs.YtoegfalhkackeaaGreat.mountsKnown
open Go.RowKit
set_option maxRecDepth 100000 in
theorem piece2 : Xe.pieceB Tryz.prog (Xe.xdraw Tryz.prog) (Xe.exec Tryz.prog (Xe.ovIf 119 41 Xe.noOv) 100000) 117 100000 (List.replicate 5 (Xe.loopOf Tryz.prog 5 4)) s2 [0, 1, 2, 3, 4, 5, 6, 7, 8, 9, 10, 11, 12, 13, 14, 16, 17, 19, 215, 263, 658, 1494, 1542, 1937, 2773, 2821, 3216, 4052, 4100, 4495, 5224, 5331, 5379, 5389, 5774, 5907, 6284] s3 = true := by kernel_rfl
end Go.Proofs.YtoegfalhkackeaaGreat.mountsKnown
