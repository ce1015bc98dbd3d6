/-
  What is proved: the executor runs the piece 7 of the law MountsKnown from one state to the next one.
  Conditions: none.
-/
import Derived.Test.YtoegfalhkackeaaGreatMountsKnownStates
namespace Go.Proofs.YtoegfalhkackeaaGreat.mountsKnown
open Go.RowKit
set_option maxRecDepth 100000 in
theorem piece7 : Xe.lastB Tryz.prog (Xe.xdraw Tryz.prog) (Xe.exec Tryz.prog (Xe.ovIf 119 41 Xe.noOv) 100000) 117 100000 ((Xe.partsOf Tryz.prog 5).drop 9) s7 (Xe.resOf' Tryz.prog 5) = true := by kernel_rfl
end Go.Proofs.YtoegfalhkackeaaGreat.mountsKnown
