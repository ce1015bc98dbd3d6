/-
  What is proved: the executor runs pieces of the law DiffsKnown from one state to the next one.
  Conditions: none.
-/
import Derived.Test.YtcjhhnoaoldcmaaDiffsKnownStates0
namespace Go.Proofs.Ytcjhhnoaoldcmaa.diffsKnown
open Go.RowKit
set_option maxRecDepth 100000 in
theorem piece5 : Xe.lastB Try.prog (Xe.xdraw2 Try.prog) (Xe.withSumm (Xe.exec Try.prog (Xe.ovIf 97 26 (Xe.ovIf 83 25 (Xe.ovIf 71 30 Xe.noOv))) 100000) 13 st1x0 st1x2) 115 100000 ((Xe.partsOf Try.prog 5).drop 18) st0x3 (Xe.resOf' Try.prog 5) = true := by kernel_rfl
end Go.Proofs.Ytcjhhnoaoldcmaa.diffsKnown
