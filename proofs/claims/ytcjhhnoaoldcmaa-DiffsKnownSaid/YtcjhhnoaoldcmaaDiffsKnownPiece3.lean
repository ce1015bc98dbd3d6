/-
  What is proved: the executor runs pieces of the law DiffsKnown from one state to the next one.
  Conditions: none.
-/
import Derived.Test.YtcjhhnoaoldcmaaDiffsKnownStates0
namespace Go.Proofs.Ytcjhhnoaoldcmaa.diffsKnown
open Go.RowKit
set_option maxRecDepth 100000 in
theorem piece3 : Xe.pieceB Try.prog (Xe.xdraw2 Try.prog) (Xe.exec Try.prog (Xe.ovIf 97 26 (Xe.ovIf 83 25 (Xe.ovIf 71 30 Xe.noOv))) 100000) 92 34 100000 (Xe.part Try.prog 13 0 4) st1x0 [0, 1, 2, 3, 4, 5, 6, 7, 8, 9, 10, 11, 12, 13, 14, 15, 16, 17, 18, 19, 20, 21, 22, 23, 24, 25, 26, 27, 28, 29, 30, 31, 32, 33, 749, 761, 1850, 2781, 2881, 2894] st1x1 = true := by kernel_rfl
end Go.Proofs.Ytcjhhnoaoldcmaa.diffsKnown
