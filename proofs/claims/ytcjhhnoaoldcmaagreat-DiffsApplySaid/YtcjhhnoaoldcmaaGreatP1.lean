/- Chapter 19: 'lives' answers true; the second half of its run.
  Conditions: none. -/
import Derived.Test.YtcjhhnoaoldcmaaGreatP0
set_option linter.all false
noncomputable section
namespace Go.D
open Go Go.Xe Go.RowKit
set_option maxRecDepth 100000 in
def lvB :DQ PR (j3 PR) (exec PR LO 5000) 14 4 5000 sLV=true:=by kernel_rfl
end Go.D
