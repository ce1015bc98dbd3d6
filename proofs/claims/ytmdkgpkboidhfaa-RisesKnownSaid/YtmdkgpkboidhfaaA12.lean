/- Chapter 08, the walk of RisesLeast.
  Conditions: none. -/
import Derived.Test.YtmdkgpkboidhfaaA7
import Derived.Test.YtmdkgpkboidhfaaA11
noncomputable section
namespace Go.C08
open Go Go.Xe Go.Sx Go.RowKit
open Go.Proofs
end Go.C08
