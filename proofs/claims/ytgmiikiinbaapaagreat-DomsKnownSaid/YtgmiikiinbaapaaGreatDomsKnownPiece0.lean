/-
  What is proved: the executor runs the piece 0 of the law DomsKnown from one state to the next one.
  Conditions: none.
-/
import Derived.Test.YtgmiikiinbaapaaGreatDomsKnownStates
namespace Go.Proofs.YtgmiikiinbaapaaGreat.domsKnown
open Go.RowKit
set_option maxRecDepth 100000 in
theorem piece0 : Xe.pieceB Tryz.prog (Xe.xdraw Tryz.prog) (Xe.exec Tryz.prog (Xe.ovIf 115 35 Xe.noOv) 100000) 263 100000 (Xe.part Tryz.prog 3 0 7) Xe.St.none [0, 26, 36, 45, 46, 6653] s1 = true := by kernel_rfl
end Go.Proofs.YtgmiikiinbaapaaGreat.domsKnown
