/- Chapter 36, the rows and pools of a law: the condition holds.
  Conditions: none. -/
import Derived.Test.YtpdcecfnlccicaaP12
set_option linter.unusedVariables false
set_option linter.unusedSimpArgs false
namespace Go.C36
open Go Go.Xe Go.Sx
end Go.C36
