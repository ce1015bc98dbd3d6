/- Chapter 36, PlansSame: contract and loop.
  Conditions: none. -/
import Derived.Test.YtpdcecfnlccicaaP17
set_option linter.unusedVariables false
noncomputable section
namespace Go.C36
open Go.Xe Go.Sx
end Go.C36
