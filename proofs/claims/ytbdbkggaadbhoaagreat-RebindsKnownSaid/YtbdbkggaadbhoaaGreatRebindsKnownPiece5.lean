/-
  What is proved: the executor runs pieces of the law RebindsKnown from one state to the next one.
  Conditions: none.
-/
import Derived.Test.YtbdbkggaadbhoaaGreatRebindsKnownStates0
namespace Go.Proofs.YtbdbkggaadbhoaaGreat.rebindsKnown
open Go.RowKit
set_option maxRecDepth 100000 in
theorem piece5 : Xe.lastB Tryz.prog (Xe.xdraw2 Tryz.prog) (Xe.withSumm (Xe.exec Tryz.prog (Xe.ovIf 290 24 (Xe.ovIf 131 58 Xe.noOv)) 100000) 20 st1x0 st1x3) 186 100000 ((Xe.partsOf Tryz.prog 3).drop 23) st0x2 (Xe.resOf' Tryz.prog 3) = true := by kernel_rfl
end Go.Proofs.YtbdbkggaadbhoaaGreat.rebindsKnown
