/-
  What is proved: the executor runs pieces of the law DiffsKnown from one state to the next one.
  Conditions: none.
-/
import Derived.Test.YtcjhhnoaoldcmaaDiffsKnownStates0
namespace Go.Proofs.Ytcjhhnoaoldcmaa.diffsKnown
open Go.RowKit
set_option maxRecDepth 100000 in
theorem piece0 : Xe.pieceB Try.prog (Xe.xdraw2 Try.prog) (Xe.exec Try.prog (Xe.ovIf 97 26 (Xe.ovIf 83 25 (Xe.ovIf 71 30 Xe.noOv))) 100000) 115 0 100000 (Xe.part Try.prog 5 0 8) Xe.St.none [1242, 2150, 2151, 2152, 2292, 2293, 4418] st0x1 = true := by kernel_rfl
end Go.Proofs.Ytcjhhnoaoldcmaa.diffsKnown
