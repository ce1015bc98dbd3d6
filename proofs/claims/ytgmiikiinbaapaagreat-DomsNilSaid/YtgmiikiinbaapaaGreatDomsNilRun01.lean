/-
  What is proved: the executor says yes to the law DomsNil where the second handle is of the kind zeroPair and the third one of the kind fstPair.
  Conditions: none.
-/
import Derived.Test.YtgmiikiinbaapaaGreatRows
import Derived.Test.YtgmiikiinbaapaaGreatXe17
import Derived.WalkKit
namespace Go.Proofs.YtgmiikiinbaapaaGreat.domsNil
open Go.RowKit
set_option maxRecDepth 100000 in
theorem ran01 : Xe.yes ((Xe.exec Tryz.prog (Xe.ovIf 115 35 Xe.noOv) 100000).run 8 [Xe.anyPair, Xe.zeroPair, Xe.fstPair] Xe.Hp.empty) = true := by kernel_rfl
end Go.Proofs.YtgmiikiinbaapaaGreat.domsNil
