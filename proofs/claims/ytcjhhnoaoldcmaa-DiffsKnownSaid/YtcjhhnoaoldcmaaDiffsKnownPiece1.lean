/-
  What is proved: the executor runs pieces of the law DiffsKnown from one state to the next one.
  Conditions: none.
-/
import Derived.Test.YtcjhhnoaoldcmaaDiffsKnownStates0
namespace Go.Proofs.Ytcjhhnoaoldcmaa.diffsKnown
open Go.RowKit
set_option maxRecDepth 100000 in
theorem piece1 : Xe.pieceB Try.prog (Xe.xdraw2 Try.prog) (Xe.exec Try.prog (Xe.ovIf 97 26 (Xe.ovIf 83 25 (Xe.ovIf 71 30 Xe.noOv))) 100000) 115 0 100000 (Xe.part Try.prog 5 8 9) st0x1 [0, 1, 2, 3, 4, 5, 6, 7, 182, 391, 507, 622, 693, 695, 700, 772, 773, 803, 805, 806, 807, 808, 809] st0x2 = true := by kernel_rfl
end Go.Proofs.Ytcjhhnoaoldcmaa.diffsKnown
