/-
  What is proved: the executor runs the piece 6 of the law DomsKnown from one state to the next one.
  Conditions: none.
-/
import Derived.Test.YtgmiikiinbaapaaGreatDomsKnownStates
namespace Go.Proofs.YtgmiikiinbaapaaGreat.domsKnown
open Go.RowKit
set_option maxRecDepth 100000 in
theorem piece6 : Xe.lastB Tryz.prog (Xe.xdraw Tryz.prog) (Xe.exec Tryz.prog (Xe.ovIf 115 35 Xe.noOv) 100000) 263 100000 ((Xe.partsOf Tryz.prog 3).drop 27) s6 (Xe.resOf' Tryz.prog 3) = true := by kernel_rfl
end Go.Proofs.YtgmiikiinbaapaaGreat.domsKnown
