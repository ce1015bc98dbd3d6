/- Chapter 36, PlansSame: the condition holds.
  Conditions: none. -/
import Derived.Test.YtpdcecfnlccicaaP20
set_option linter.unusedVariables false
set_option linter.unusedSimpArgs false
namespace Go.C36
open Go Go.Xe Go.Sx
theorem UOk.rel {O N : List Rw} {P B : List Int} (h : UOk O N P B) (L S : Sx.Rows) (e : Int) : ofRel [.lst (O.map Rw.row), .lst (N.map Rw.row), .lst (P.map row), .lst (B.map row)] [.lst L, .lst S, .int e] ↔ (e = 0 ∧ L = (ofLeaves O N P B).map Lv.row ∧ S = (ofSteps O N P B).map Stp.row) := by
 simp only [ofRel, rws_map, nums_map, h.err]
 constructor
 ·rintro ⟨rfl, h1, h2⟩
  rw [if_pos rfl] at h1 h2
  exact ⟨rfl, h1, h2⟩
 ·rintro ⟨rfl, h1, h2⟩
  rw [if_pos rfl, if_pos rfl]
  exact ⟨rfl, h1, h2⟩
end Go.C36
