/- Chapter 13, AttrsErrors: the condition holds.
  Conditions: none. -/
import Derived.Test.YtkeoanklmnadiaaA15
set_option linter.unusedVariables false
set_option linter.unusedSimpArgs false
namespace Go.C13
open Go Go.Xe Go.Sx

theorem forall_eq2 {α β : Sort _} {a : α} {b : β} {p : α → β → Prop} : (∀ x y, x = a ∧ y = b → p x y) ↔ p a b :=
  ⟨fun h => h _ _ ⟨rfl, rfl⟩, fun h x y ⟨e, f⟩ => by subst e; subst f; exact h⟩
theorem idx_find : ∀ (l : List Att) (n : Str), (idxA l n < 0 → findA l n = none) ∧ (0 ≤ idxA l n → ∃ a, l[(idxA l n).toNat]? = some a ∧ a.n = n ∧ findA l n = some a.v)
  | [], n => ⟨fun _ => rfl, fun h => by rw [idxA_nil] at h; omega⟩
  | a :: l, n => by
    have ih := idx_find l n
    rw [idxA_cons]
    unfold findA
    by_cases h : a.n = n
    · rw [if_pos h, if_pos h]
      exact ⟨fun h => by omega, fun _ => ⟨a, rfl, h, rfl⟩⟩
    · rw [if_neg h, if_neg h]
      by_cases k : idxA l n < 0
      · rw [if_pos k]; exact ⟨fun _ => ih.1 k, fun h => by omega⟩
      · rw [if_neg k]
        refine ⟨fun h => by omega, fun _ => ?_⟩
        obtain ⟨b, h1, h2⟩ := ih.2 (by omega)
        exact ⟨b, by rw [toNat_succ (by omega)]; exact h1, h2⟩
theorem ckEds_nil : ckEds [] = 0 := rfl
theorem vAts_nil : vAts [] = true := rfl
theorem cmpE_r (l : List Ed) : cmpE l [] = ckEds l := by unfold cmpE; rw [ckEds_nil]; split <;> simp [*]
theorem cmpE_l (l : List Ed) : cmpE [] l = ckEds l := by unfold cmpE; rw [ckEds_nil, if_pos rfl]
theorem isAts_nil : isAts [] := ⟨[], rfl, by show 0 ≤ 1000; omega⟩
theorem isEds_nil : isEds [] := ⟨[], rfl, by show 0 ≤ 1000; omega⟩
theorem ats_nil : ats [] = [] := rfl
theorem eds_nil : eds [] = [] := rfl
theorem ite_same {α : Sort _} {p : Prop} [Decidable p] {a b c d : α} : (if p then a else b) = (if p then a else b) := rfl
theorem ckAts_eq (l : List Att) : ckAts l = if vAts l then 0 else 14 := rfl
theorem yes_bool {b : Bool} : [Dat.bool b] = [Dat.bool true] ↔ b = true := by simp
theorem ckEds_val (l : List Ed) : ckEds l = 0 ∨ ckEds l = 14 ∨ ckEds l = 16 := by
  unfold ckEds
  split
  · split
    · exact .inl rfl
    · exact .inr (.inr rfl)
  · exact .inr (.inl rfl)

theorem vcErr_ok : vcErr := by
  unfold vcErr vcErr0 Nd
  rintro _ _ s ⟨⟨l, rfl⟩, ⟨es, rfl⟩⟩
  simp only [livesPre, livesRel, yesRel, errRel, trueRel, yes_bool, need_twice, need_known, implies_true, and_true, true_and, true_implies, forall_eq, List.length_map]
  refine And.intro (fun h => h) fun h1 => And.intro (fun h => h) fun h2 h3 => ?_
  have hA : isAts (l.map Att.row) := ⟨l, rfl, by show l.length ≤ 1000; omega⟩
  have hE : isEds (es.map Ed.row) := ⟨es, rfl, by show es.length ≤ 1000; omega⟩
  simp only [rcheckPre, checkPre, plainPre, ceditsPre, rceditsPre, findPre, rfindPre, asPre, diffPre, at2Pre, appPre, aePre, compPre, rcheckRel, checkRel, plainRel, rceditsRel, ceditsRel, findRel, rfindRel, diffRel, appRel, compRel, forall_eq, forall_eq2, ats_map, eds_map, ats_nil, eds_nil, hA, hE, isAts_nil, isEds_nil, cmpE_l, cmpE_r, vAts_nil, Bool.and_true, Bool.true_and, Int.lt_irrefl, not_false_eq_true, true_and, and_true, true_implies, List.length_map, findV, findN]
  obtain ⟨f1, f2⟩ := idx_find l s
  by_cases hv : vAts l = true
  · have ha : ckAts l = 0 := by unfold ckAts; rw [if_pos hv]
    simp only [hv, ha, app, if_true, true_implies, true_and, implies_true, and_true, not_true_eq_false, false_implies]
    have hk : idxA l s < 0 ∧ findA l s = none ∨ ¬ idxA l s < 0 ∧ idxA l s < l.length ∧ ∃ v, findA l s = some v ∧ (cellAt (l.map Att.row) (idxA l s) 1).toStr = v := by
      by_cases hk : idxA l s < 0
      · exact .inl ⟨hk, f1 hk⟩
      · obtain ⟨a, h1, h2, h3⟩ := f2 (by omega)
        exact .inr ⟨hk, (idxA_ge l s).2, a.v, h3, by rw [cellAt_map h1]; rfl⟩
    by_cases hb : ckEds es = 0
    · simp only [hb, if_true, true_implies, true_and, implies_true, and_true, not_true_eq_false, false_implies]
      rcases hk with ⟨h4, h5⟩ | ⟨h4, h5, v, h6, h7⟩
      · simp [h4, h5]
      · simp [h4, h5, h6, h7]; try omega
    · simp only [hb, if_false, true_implies, true_and, implies_true, and_true, not_true_eq_false, not_false_eq_true, false_implies]
      rcases hk with ⟨h4, h5⟩ | ⟨h4, h5, v, h6, h7⟩
      · simp [h4, h5]
      · simp [h4, h5, h6, h7]; try omega
  · have hv : vAts l = false := fnot hv
    have ha : ckAts l = 14 := by unfold ckAts; rw [hv]; rfl
    simp [hv, ha, app]
end Go.C13
