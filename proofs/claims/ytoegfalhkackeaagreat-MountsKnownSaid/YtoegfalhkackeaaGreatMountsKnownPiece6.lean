/-
  What is proved: the executor runs the piece 6 of the law MountsKnown from one state to the next one.
  Conditions: none.
-/
import Derived.Test.YtoegfalhkackeaaGreatMountsKnownStates
namespace Go.Proofs.YtoegfalhkackeaaGreat.mountsKnown
open Go.RowKit
set_option maxRecDepth 100000 in
theorem piece6 : Xe.pieceB Tryz.prog (Xe.xdraw Tryz.prog) (Xe.exec Tryz.prog (Xe.ovIf 119 41 Xe.noOv) 100000) 117 100000 (Xe.part Tryz.prog 5 8 1) s6 [0, 1, 2, 51, 54, 56, 58, 59, 13326] s7 = true := by kernel_rfl
end Go.Proofs.YtoegfalhkackeaaGreat.mountsKnown
