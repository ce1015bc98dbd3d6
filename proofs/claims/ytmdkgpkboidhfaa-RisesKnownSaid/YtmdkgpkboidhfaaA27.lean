/- The conditions of contracts, as the engine's printer has written them, and that the kernel comes to the same.
  Conditions: none. -/
import Derived.Test.YtmdkgpkboidhfaaA26
import Derived.Test.YtmdkgpkboidhfaaRows
import Derived.KernelRfl
set_option linter.unusedVariables false
set_option maxRecDepth 100000
namespace Go.C08
open Go Go.Xe Go.Sx
end Go.C08
