/-
  What is proved: the executor runs pieces of the law RebindsKnown from one state to the next one.
  Conditions: none.
-/
import Derived.Test.YtbdbkggaadbhoaaGreatRebindsKnownStates0
namespace Go.Proofs.YtbdbkggaadbhoaaGreat.rebindsKnown
open Go.RowKit
set_option maxRecDepth 100000 in
theorem piece1 : Xe.pieceB Tryz.prog (Xe.xdraw2 Tryz.prog) (Xe.exec Tryz.prog (Xe.ovIf 290 24 (Xe.ovIf 131 58 Xe.noOv)) 100000) 186 0 100000 (Xe.part Tryz.prog 3 19 4) st0x1 [0, 1, 2, 3, 4, 5, 6, 9, 10, 11, 12, 13, 16, 17, 18, 19, 20, 21, 22, 23, 24, 25, 26, 27, 28, 29, 30, 31, 33, 34, 35, 36, 37, 38, 39, 263, 267] st0x2 = true := by kernel_rfl
end Go.Proofs.YtbdbkggaadbhoaaGreat.rebindsKnown
