/- Chapter 36, PlansSame: the condition holds.
  Conditions: none. -/
import Derived.Test.YtpdcecfnlccicaaP20
set_option linter.unusedVariables false
set_option linter.unusedSimpArgs false
namespace Go.C36
open Go Go.Xe Go.Sx
theorem forall_eq3 {α β γ : Sort _} {a : α} {b : β} {c : γ} {p : α → β → γ → Prop} : (∀ x y z,z = c ∧ x = a ∧ y = b → p x y z) ↔ p a b c :=
 ⟨fun h => h _ _ _ ⟨rfl,rfl,rfl⟩,fun h x y z ⟨e,f,g⟩ => by subst e; subst f; subst g; exact h⟩
theorem forall_eq4 {α β γ δ : Sort _} {a : α} {b : β} {c : γ} {d : δ} {p : α → β → γ → δ → Prop} : (∀ x y z w,x = a ∧ y = b ∧ z = c ∧ w = d → p x y z w) ↔ p a b c d :=
 ⟨fun h => h _ _ _ _ ⟨rfl,rfl,rfl,rfl⟩,fun h x y z w ⟨e,f,g,k⟩ => by subst e; subst f; subst g; subst k; exact h⟩
theorem UOk.rel {O N : List Rw} {P B : List Int} (h : UOk O N P B) (L S : Sx.Rows) (e : Int) : ofRel [.lst (O.map Rw.row), .lst (N.map Rw.row), .lst (P.map row), .lst (B.map row)] [.lst L, .lst S, .int e] ↔ (e = 0 ∧ L = (ofLeaves O N P B).map Lv.row ∧ S = (ofSteps O N P B).map Stp.row) := by
 simp only [ofRel,rws_map,nums_map,h.err]
 constructor
 ·rintro ⟨rfl,h1,h2⟩
  rw [if_pos rfl] at h1 h2
  exact ⟨rfl,h1,h2⟩
 ·rintro ⟨rfl,h1,h2⟩
  rw [if_pos rfl,if_pos rfl]
  exact ⟨rfl,h1,h2⟩
theorem UOk.plan {O N : List Rw} {P B : List Int} (h : UOk O N P B) (L : Sx.Rows) : planPre [.lst L, .lst ((ofSteps O N P B).map Stp.row)] := ⟨_,rfl,by rw [ofSteps_len]; have := h.ln; omega⟩
end Go.C36
