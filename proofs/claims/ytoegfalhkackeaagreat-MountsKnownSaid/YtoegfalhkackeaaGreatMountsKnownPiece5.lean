/-
  What is proved: the executor runs the piece 5 of the law MountsKnown from one state to the next one.
  Conditions: none.
-/
import Derived.Test.YtoegfalhkackeaaGreatMountsKnownStates
namespace Go.Proofs.YtoegfalhkackeaaGreat.mountsKnown
open Go.RowKit
set_option maxRecDepth 100000 in
theorem piece5 : Xe.pieceB Tryz.prog (Xe.xdraw Tryz.prog) (Xe.exec Tryz.prog (Xe.ovIf 119 41 Xe.noOv) 100000) 117 100000 (Xe.part Tryz.prog 5 5 3) s5 [0, 1, 2, 3, 4, 5, 6, 7, 8, 9, 10, 11, 12, 13, 14, 15, 16, 17, 18, 19, 20, 21, 22, 23, 24, 25, 26, 27, 28, 29, 30, 31, 32, 33, 34, 35, 36, 37, 38, 39, 40, 41, 42, 43, 44, 45, 46, 47, 48, 49, 50, 51, 52, 53, 54, 55, 56, 57, 4242, 4693] s6 = true := by kernel_rfl
end Go.Proofs.YtoegfalhkackeaaGreat.mountsKnown
