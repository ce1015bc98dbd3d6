/-
  What is proved: the executor says yes to the law DomsNil where the second handle is of the kind sndPair and the third one of the kind sndPair.
  Conditions: none.
-/
import Derived.Test.YtgmiikiinbaapaaGreatRows
import Derived.Test.YtgmiikiinbaapaaGreatXe17
import Derived.WalkKit
namespace Go.Proofs.YtgmiikiinbaapaaGreat.domsNil
open Go.RowKit
set_option maxRecDepth 100000 in
theorem ran22 : Xe.yes ((Xe.exec Tryz.prog (Xe.ovIf 115 35 Xe.noOv) 100000).run 8 [Xe.anyPair, Xe.sndPair, Xe.sndPair] Xe.Hp.empty) = true := by kernel_rfl
end Go.Proofs.YtgmiikiinbaapaaGreat.domsNil
