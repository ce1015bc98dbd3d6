/- Chapter 36, the reference's plan: the condition holds.
  Conditions: none. -/
import Derived.Test.YtpdcecfnlccicaaQ6
set_option linter.unusedVariables false
set_option linter.unusedSimpArgs false
namespace Go.C36
open Go Go.Xe Go.Sx
theorem vpick_len : ∀ (l fs : List Int) (n y : Int),(vpick l fs n y).length ≤ l.length
 | [],fs,n,y => by rw [vpick_nil]; exact Nat.le_refl _
 | x :: l,[],n,y => Nat.zero_le _
 | x :: l,f :: fs,n,y => by
  rw [vpick_cons]
  split
  ·have := vpick_len l fs (n - 1) x
   simp only [List.length_cons]; omega
  ·have := vpick_len l fs n y
   simp only [List.length_cons]; omega
theorem rkept_le (l : List Int) : (rkept l).length ≤ l.length := vpick_len _ _ _ _
section
variable {o n : List Rw} {p b : List Int}
end
end Go.C36
