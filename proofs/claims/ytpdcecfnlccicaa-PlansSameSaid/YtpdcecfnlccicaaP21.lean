/- Chapter 36, PlansSame: the condition holds.
  Conditions: none. -/
import Derived.Test.YtpdcecfnlccicaaP20
set_option linter.unusedVariables false
set_option linter.unusedSimpArgs false
namespace Go.C36
open Go Go.Xe Go.Sx

theorem forall_eq3 {α β γ : Sort _} {a : α} {b : β} {c : γ} {p : α → β → γ → Prop} : (∀ x y z, z = c ∧ x = a ∧ y = b → p x y z) ↔ p a b c :=
  ⟨fun h => h _ _ _ ⟨rfl, rfl, rfl⟩, fun h x y z ⟨e, f, g⟩ => by subst e; subst f; subst g; exact h⟩
theorem forall_eq4 {α β γ δ : Sort _} {a : α} {b : β} {c : γ} {d : δ} {p : α → β → γ → δ → Prop} : (∀ x y z w, x = a ∧ y = b ∧ z = c ∧ w = d → p x y z w) ↔ p a b c d :=
  ⟨fun h => h _ _ _ _ ⟨rfl, rfl, rfl, rfl⟩, fun h x y z w ⟨e, f, g, k⟩ => by subst e; subst f; subst g; subst k; exact h⟩

theorem UOk.rel {O N : List Rw} {P B : List Int} (h : UOk O N P B) (L S : Sx.Rows) (e : Int) : ofRel [.lst (O.map Rw.row), .lst (N.map Rw.row), .lst (P.map row), .lst (B.map row)] [.lst L, .lst S, .int e] ↔ (e = 0 ∧ L = (ofLeaves O N P B).map Lv.row ∧ S = (ofSteps O N P B).map Stp.row) := by
  simp only [ofRel, rws_map, nums_map, h.err]
  constructor
  · rintro ⟨rfl, h1, h2⟩
    rw [if_pos rfl] at h1 h2
    exact ⟨rfl, h1, h2⟩
  · rintro ⟨rfl, h1, h2⟩
    rw [if_pos rfl, if_pos rfl]
    exact ⟨rfl, h1, h2⟩
theorem UOk.plan {O N : List Rw} {P B : List Int} (h : UOk O N P B) (L : Sx.Rows) : planPre [.lst L, .lst ((ofSteps O N P B).map Stp.row)] := ⟨_, rfl, by rw [ofSteps_len]; have := h.ln; omega⟩

theorem vcPsame_ok : vcPsame := by
  unfold vcPsame Nd
  rintro _ _ a b c d e f ⟨⟨l, rfl, hl⟩, ⟨m, rfl, hm⟩, ha, hb, hc, hd, he, hf⟩
  have U := uok hl hm ha hb hc hd he hf
  have hu : uofPre [.lst (l.map prRow), .lst (m.map prRow), .int a, .int b, .int c, .int d, .int e, .int f] := ⟨⟨l, rfl, hl⟩, ⟨m, rfl, hm⟩, ha, hb, hc, hd, he, hf⟩
  simp only [hu, uofRel, prs_map, forall_eq4, true_and, true_implies]
  generalize rowsL l = O at U
  generalize rowsL m = N at U
  generalize [inOf a b, inOf c d, inOf e f] = P at U
  generalize [bndOf a, bndOf c, bndOf e] = B at U
  have U1 := U.self
  have U2 := U.swap
  have ndO := nodup_of_key U.no
  have ndN := nodup_of_key U.nn
  have lO : (ofSteps O O P B).length = O.length := ofSteps_len
  have s0 : many isStay (ofSteps O O P B) = (O.length : Int) := by rw [of_stays, filter_self]
  have m0 : many isMove (ofSteps O O P B) = 0 := same_moves ndO
  have perm := both_perm ndO ndN
  have sE : many isStay (ofSteps O N P B) = many isStay (ofSteps N O P B) := by rw [of_stays, of_stays, perm.length_eq]
  have mE : many isMove (ofSteps O N P B) = many isMove (ofSteps N O P B) := by
    have q1 := of_moves (P := P) (B := B) ndO ndN
    have q2 := of_moves (P := P) (B := B) ndN ndO
    have q3 := lis_both (F := O.filter fun x => decide (x ∈ N)) (G := N.filter fun x => decide (x ∈ O)) (List.Pairwise.filter _ ndO) (List.Pairwise.filter _ ndN) fun x => perm.mem_iff
    have q4 := perm.length_eq
    omega
  simp only [U.pre, U1.pre, U2.pre, U.rel, U1.rel, U2.rel, forall_eq3, true_and, true_implies, need_twice, need_known, implies_true, and_true, same_none, List.map_nil, List.length_nil, List.length_map, nstaysPre, nmovesPre, U.plan, U1.plan, U2.plan, nstaysRel, nmovesRel, stps_map, forall_eq, s0, m0, sE, mE, sameSInv, sameSMu, lO, not_true_eq_false, false_implies, livesPre, livesRel, yesRel]
  refine And.intro (fun h => by simp at h) fun _ => ?_
  have hlo := U.lo
  refine And.intro ⟨by omega, by omega⟩ fun _ k ⟨k0, k1⟩ => And.intro (fun hk => ?_) fun hk => ?_
  · have hs := same_steps (P := P) (B := B) ndO (i := k.toNat) (by omega)
    simp only [cellAt_map hs, st0, st1, st2, toInt_int, toBool_bool, true_and, true_implies, implies_true, and_true, not_true_eq_false, false_implies]
    have ek : ((k.toNat : Nat) : Int) = k := by omega
    simp only [ek, true_implies, not_true_eq_false, false_implies, and_true, implies_true]
    refine And.intro (by omega) fun _ => And.intro hk fun _ => ?_
    repeat' first
      | (with_reducible refine And.intro ?_ ?_)
      | intro _
      | omega
      | (exfalso; simp_all; done)
  · rintro x28 hx
    first | exact hx | (simp [psameRel, trueR, hx]) | (simp_all [psameRel, trueR])

end Go.C36
