/- Chapter 19: 'lives' answers true; the second half of its run.
  Conditions: none. -/
import Derived.Test.YtcjhhnoaoldcmaaGreatP0
set_option linter.unusedVariables false
noncomputable section
namespace Go.D
open Go Go.Xe Go.RowKit
set_option maxRecDepth 100000 in
theorem lvB :be4 PR (l8 PR) (exec PR LO 5000) 92 5000 ((I5 PR 14).drop 4) sLV (az0 PR 14)=true:=by kernel_rfl
end Go.D
