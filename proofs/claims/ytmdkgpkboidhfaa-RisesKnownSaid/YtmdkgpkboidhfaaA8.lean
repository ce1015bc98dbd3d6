/- Chapter 08, RisesLeast: its contract and loops.
  Conditions: none. -/
import Derived.Test.YtmdkgpkboidhfaaA6
set_option linter.unusedVariables false
noncomputable section
namespace Go.C08
open Go.Xe Go.Sx
def Vl (l : List Int) : Option Int→Int→List Int→Prop
 | _,_,[]=>True
 | last,k,a :: o=>k≤a∧0≤a ∧ ∃ x,l[a.toNat]? = some x∧(∀ y,last=some y→y < x)∧Vl l (some x) (a+1) o
end Go.C08
