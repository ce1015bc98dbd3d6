/- The writer of a diff: the condition of Diff holds.
  Conditions: none. -/
import Derived.Test.YtcjhhnoaoldcmaaGreatD7
set_option linter.unusedVariables false
set_option linter.unusedSimpArgs false
namespace Go.D
open Go Go.Xe Go.Sx
open Go.C36 (row t6 lis cLong cRlong longPre longRel rlongPre rlongRel)
end Go.D
