/-
  What is proved: the executor runs pieces of the law RebindsKnown from one state to the next one.
  Conditions: none.
-/
import Derived.Test.YtbdbkggaadbhoaaGreatRebindsKnownStates0
namespace Go.Proofs.YtbdbkggaadbhoaaGreat.rebindsKnown
open Go.RowKit
set_option maxRecDepth 100000 in
theorem piece3 : Xe.pieceB Tryz.prog (Xe.xdraw2 Tryz.prog) (Xe.exec Tryz.prog (Xe.ovIf 290 24 (Xe.ovIf 131 58 Xe.noOv)) 100000) 166 38 100000 (Xe.part Tryz.prog 20 8 6) st1x1 [0, 1, 2, 3, 4, 5, 6, 7, 8, 9, 10, 11, 12, 13, 14, 15, 16, 17, 18, 19, 20, 21, 22, 23, 24, 25, 26, 27, 28, 29, 30, 31, 32, 33, 34, 35, 36, 37, 38, 39, 40, 41, 42, 43, 44, 47, 48, 49, 50, 52, 53, 54, 55, 56, 57, 58, 59, 60, 61, 64, 65, 66, 67, 68, 71, 73, 75, 76, 850, 851, 855, 859, 860, 864, 868, 869, 873, 2687, 2736, 2746, 3130, 3872, 4032] st1x2 = true := by kernel_rfl
end Go.Proofs.YtbdbkggaadbhoaaGreat.rebindsKnown
