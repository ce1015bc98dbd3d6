/- Chapter 08, the numbers that are kept: the condition holds.
  Conditions: none. -/
import Derived.Test.YtmdkgpkboidhfaaA10
import Derived.Test.YtmdkgpkboidhfaaA18
set_option linter.unusedVariables false
set_option linter.unusedSimpArgs false
namespace Go.C08
open Go Go.Xe Go.Sx
theorem ordOf_len (l m : List Int) : (ordOf l m).length=m.length:=List.length_map _
end Go.C08
