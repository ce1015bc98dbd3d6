/-
  What is proved: the executor runs pieces of the law RebindsKnown from one state to the next one.
  Conditions: none.
-/
import Derived.Test.YtbdbkggaadbhoaaGreatRebindsKnownStates0
namespace Go.Proofs.YtbdbkggaadbhoaaGreat.rebindsKnown
open Go.RowKit
set_option maxRecDepth 100000 in
theorem piece0 : Xe.pieceB Tryz.prog (Xe.xdraw2 Tryz.prog) (Xe.exec Tryz.prog (Xe.ovIf 290 24 (Xe.ovIf 131 58 Xe.noOv)) 100000) 186 0 100000 (Xe.part Tryz.prog 3 0 19) Xe.St.none [0, 1, 7, 11, 13, 15, 17, 125, 146, 147, 163, 2012, 2014, 2016, 2124, 2145, 2146, 2162, 2294, 2343, 2898, 2947, 3341, 3851, 4011, 4037, 4047, 4056, 4702, 4706, 5269, 5273, 5281, 5389, 5390, 6052, 6053, 6054, 6055, 6595] st0x1 = true := by kernel_rfl
end Go.Proofs.YtbdbkggaadbhoaaGreat.rebindsKnown
