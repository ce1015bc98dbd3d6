/- Chapter 36, the rows that a law makes: the condition holds.
  Conditions: none. -/
import Derived.Test.YtpdcecfnlccicaaP5
set_option linter.unusedVariables false
set_option linter.unusedSimpArgs false
namespace Go.C36
open Go Go.Xe Go.Sx
theorem pr0 (p : Int × Int) : (prRow p).getD 0 (.int 0) = .int p.1 := rfl
end Go.C36
