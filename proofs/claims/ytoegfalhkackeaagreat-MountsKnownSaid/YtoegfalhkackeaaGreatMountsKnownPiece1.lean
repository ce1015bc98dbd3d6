/-
  What is proved: the executor runs the piece 1 of the law MountsKnown from one state to the next one.
  Conditions: none.
-/
import Derived.Test.YtoegfalhkackeaaGreatMountsKnownStates
namespace Go.Proofs.YtoegfalhkackeaaGreat.mountsKnown
open Go.RowKit
set_option maxRecDepth 100000 in
theorem piece1 : Xe.pieceB Tryz.prog (Xe.xdraw Tryz.prog) (Xe.exec Tryz.prog (Xe.ovIf 119 41 Xe.noOv) 100000) 117 100000 (List.replicate 5 (Xe.loopOf Tryz.prog 5 4)) s1 [0, 1, 3, 197, 245, 640, 1474, 1522, 1917, 2753, 2801, 3196, 4032, 4080, 4475, 5204, 5311, 5359, 5369, 5754, 5887, 6264] s2 = true := by kernel_rfl
end Go.Proofs.YtoegfalhkackeaaGreat.mountsKnown
