/- Chapter 08, moves: the conditions of the reference's Moves and of RisesErrors hold.
  Conditions: none. -/
import Derived.Test.YtmdkgpkboidhfaaA23
set_option linter.unusedVariables false
set_option linter.unusedSimpArgs false
namespace Go.C08
open Go Go.Xe Go.Sx
section
variable {l m : List Int}
end
end Go.C08
