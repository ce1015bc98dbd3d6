/-
  What is proved: the executor runs pieces of the law DiffsKnown from one state to the next one.
  Conditions: none.
-/
import Derived.Test.YtcjhhnoaoldcmaaDiffsKnownStates0
namespace Go.Proofs.Ytcjhhnoaoldcmaa.diffsKnown
open Go.RowKit
set_option maxRecDepth 100000 in
theorem piece2 : Xe.pieceB Try.prog (Xe.xdraw2 Try.prog) (Xe.exec Try.prog (Xe.ovIf 97 26 (Xe.ovIf 83 25 (Xe.ovIf 71 30 Xe.noOv))) 100000) 115 0 100000 (Xe.part Try.prog 5 17 1) st0x2 [0, 1, 2, 3, 4, 5, 6, 7, 8, 9, 10, 11, 12, 13, 14, 15, 16, 17, 18, 19, 20, 21, 22, 1052, 1056, 1060, 1064, 1068, 1072, 1076, 1080, 1084, 1088, 1089] st0x3 = true := by kernel_rfl
end Go.Proofs.Ytcjhhnoaoldcmaa.diffsKnown
