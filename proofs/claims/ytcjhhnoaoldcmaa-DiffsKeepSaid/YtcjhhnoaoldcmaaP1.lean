/- Chapter 19: 'lives' answers true; the second half of its run.
  Conditions: none. -/
import Derived.Test.YtcjhhnoaoldcmaaP0
set_option linter.unusedVariables false
noncomputable section
namespace Go.D
open Go Go.Xe Go.RowKit
set_option maxRecDepth 100000 in
theorem lvB :ba9 PR (i8 PR) (exec PR LO 5000) 92 5000 ((H6 PR 13).drop 4) sLV (ay1 PR 13)=true:=by kernel_rfl
end Go.D
