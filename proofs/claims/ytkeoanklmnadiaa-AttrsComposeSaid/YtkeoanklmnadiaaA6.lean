/- Chapter 13, lists: the order of strings; checks and copies: the conditions hold.
  Conditions: none. -/
import Derived.Test.YtkeoanklmnadiaaA5
set_option linter.unusedVariables false
set_option linter.unusedSimpArgs false
namespace Go.C13
open Go Go.Xe Go.Sx

/-! ## The order of strings -/

theorem lt_irrefl : ∀ a : Str, lt a a = false
  | [] => rfl
  | a :: x => by
    have := lt_irrefl x
    unfold lt at this ⊢
    simp [Op.bytesLess, this]
theorem lt_trans : ∀ {a b c : Str}, lt a b = true → lt b c = true → lt a c = true
  | _, [], _, h, _ => by unfold lt at h; cases ‹List UInt8› <;> simp [Op.bytesLess] at h
  | _, _ :: _, [], _, h => by unfold lt at h; simp [Op.bytesLess] at h
  | [], _ :: _, _ :: _, _, _ => rfl
  | a :: x, b :: y, c :: z, h, k => by
    unfold lt at h k ⊢
    simp only [Op.bytesLess, Bool.or_eq_true, decide_eq_true_eq, Bool.and_eq_true, beq_iff_eq] at h k ⊢
    rcases h with h | ⟨rfl, h⟩
    · rcases k with k | ⟨rfl, k⟩
      · exact .inl (UInt8.lt_trans h k)
      · exact .inl h
    · rcases k with k | ⟨rfl, k⟩
      · exact .inl k
      · exact .inr ⟨rfl, lt_trans h k⟩
theorem lt_tri : ∀ {a b : Str}, lt a b = false → a ≠ b → lt b a = true
  | [], [], _, h => absurd rfl h
  | [], b :: y, h, _ => by unfold lt at h; simp [Op.bytesLess] at h
  | a :: x, [], _, _ => rfl
  | a :: x, b :: y, h, k => by
    unfold lt at h ⊢
    simp only [Op.bytesLess, Bool.or_eq_false_iff, decide_eq_false_iff_not, Bool.and_eq_false_iff, Bool.or_eq_true, decide_eq_true_eq, Bool.and_eq_true, beq_iff_eq] at h ⊢
    by_cases e : a = b
    · subst e
      refine .inr ⟨rfl, lt_tri (by rcases h.2 with h2 | h2; simp at h2; exact h2) fun e => k (by rw [e])⟩
    · have h1 := h.1
      refine .inl ?_
      have := UInt8.lt_or_lt_of_ne e
      exact this.resolve_left h1
theorem lt_asymm {a b : Str} (h : lt a b = true) : lt b a = false := by
  cases hb : lt b a with
  | false => rfl
  | true => have := lt_trans h hb; rw [lt_irrefl] at this; cases this
theorem lt_ne {a b : Str} (h : lt a b = true) : a ≠ b := fun e => by rw [e, lt_irrefl] at h; cases h

theorem asc_pw : ∀ {l : List Str}, asc l = true ↔ pw l
  | [] => by simp [asc, pw]
  | [a] => by simp [asc, pw]
  | a :: b :: l => by
    unfold asc
    rw [Bool.and_eq_true, asc_pw (l := b :: l)]
    unfold pw
    rw [List.pairwise_cons (l := b :: l)]
    constructor
    · rintro ⟨h1, h2⟩
      refine ⟨fun x hx => ?_, h2⟩
      rcases List.mem_cons.1 hx with rfl | hx
      · exact h1
      · exact lt_trans h1 ((List.pairwise_cons.1 h2).1 x hx)
    · rintro ⟨h1, h2⟩
      exact ⟨h1 b (by simp), h2⟩
theorem pw_app {l : List Str} {a : Str} : pw (l ++ [a]) ↔ pw l ∧ ∀ x ∈ l, lt x a = true := by
  unfold pw
  rw [List.pairwise_append]
  simp
theorem pw_get {l : List Str} (h : pw l) {i j : Nat} {a b : Str} (hi : l[i]? = some a) (hj : l[j]? = some b) (hij : i < j) : lt a b = true := by
  obtain ⟨h1, rfl⟩ := List.getElem?_eq_some_iff.1 hi
  obtain ⟨h2, rfl⟩ := List.getElem?_eq_some_iff.1 hj
  exact List.pairwise_iff_getElem.1 h i j h1 h2 hij

/-! ## Rows -/

theorem ats_map (l : List Att) : ats (l.map Att.row) = l := by
  unfold ats; rw [List.map_map]; exact List.map_id' l
theorem eds_map (l : List Ed) : eds (l.map Ed.row) = l := by
  unfold eds; rw [List.map_map]; exact List.map_id' l
theorem at0 (a : Att) : (Att.row a).getD 0 (.int 0) = .str a.n := rfl
theorem at1 (a : Att) : (Att.row a).getD 1 (.int 0) = .str a.v := rfl
theorem ed0 (a : Ed) : (Ed.row a).getD 0 (.int 0) = .str a.n := rfl
theorem ed1 (a : Ed) : (Ed.row a).getD 1 (.int 0) = .bool a.d := rfl
theorem ed2 (a : Ed) : (Ed.row a).getD 2 (.int 0) = .str a.v := rfl

theorem ckAts_len {l : List Att} (h : 8 < l.length) : ckAts l = 14 := by unfold ckAts vAts; rw [decide_eq_false (by omega)]; rfl
theorem ckAts_ok {l : List Att} {a : Att} (ha : a ∈ l) (h : okAt a = false) : ckAts l = 14 := by
  have : l.all okAt = false := by
    cases hb : l.all okAt with
    | false => rfl
    | true => rw [List.all_eq_true] at hb; rw [hb a ha] at h; cases h
  unfold ckAts vAts; rw [this]; simp
theorem ckAts_asc {l : List Att} (h : ¬ pw (l.map Att.n)) : ckAts l = 14 := by
  have : asc (l.map Att.n) = false := by
    cases hb : asc (l.map Att.n) with
    | false => rfl
    | true => exact absurd (asc_pw.1 hb) h
  unfold ckAts vAts; rw [this]; simp
theorem ckAts_yes {l : List Att} (h : l.length ≤ 8) (h1 : ∀ a ∈ l, okAt a = true) (h2 : pw (l.map Att.n)) : ckAts l = 0 := by
  unfold ckAts vAts; rw [decide_eq_true h, List.all_eq_true.2 h1, asc_pw.2 h2]; rfl
theorem okAt_n {a : Att} (h : vName a.n = false) : okAt a = false := by unfold okAt; rw [h]; rfl
theorem okAt_v {a : Att} (h : vStr a.v = false) : okAt a = false := by unfold okAt; rw [h, Bool.and_false]
theorem okAt_yes {a : Att} (h : vName a.n = true) (h1 : vStr a.v = true) : okAt a = true := by unfold okAt; rw [h, h1]; rfl
theorem vName_a : vName [97] = true := by decide

theorem all_take_step {α : Type} {l : List α} {k : Int} {a : α} {p : α → Bool} (h0 : 0 ≤ k) (ha : l[k.toNat]? = some a) (h : ∀ b ∈ l.take k.toNat, p b = true) (hp : p a = true) : ∀ b ∈ l.take (k + 1).toNat, p b = true := by
  rw [toNat_succ h0, take_succ_at ha]
  intro b hb
  rcases List.mem_append.1 hb with hb | hb
  · exact h b hb
  · simp at hb; subst hb; exact hp
theorem pw_take_step {l : List Str} {k : Int} {a : Str} (h0 : 0 ≤ k) (ha : l[k.toNat]? = some a) : pw (l.take (k + 1).toNat) ↔ pw (l.take k.toNat) ∧ ∀ x ∈ l.take k.toNat, lt x a = true := by
  rw [toNat_succ h0, take_succ_at ha, pw_app]
theorem pw_take_prev {l : List Str} {k : Int} {a b : Str} (h0 : 0 < k) (ha : l[k.toNat]? = some a) (hb : l[(k + -1).toNat]? = some b) (hl : lt b a = true) (h : pw (l.take k.toNat)) : pw (l.take (k + 1).toNat) := by
  rw [pw_take_step (by omega) ha]
  refine ⟨h, fun x hx => ?_⟩
  obtain ⟨i, hi⟩ := List.mem_iff_getElem?.1 hx
  have hik : i < k.toNat := by have := (List.getElem?_eq_some_iff.1 hi).1; rw [List.length_take] at this; omega
  by_cases e : i = (k + -1).toNat
  · rw [List.getElem?_take, if_pos hik, e, hb] at hi
    simp only [Option.some.injEq] at hi
    rw [← hi]; exact hl
  · refine lt_trans (pw_get h hi (j := (k + -1).toNat) (b := b) ?_ (by omega)) hl
    rw [List.getElem?_take, if_pos (by omega)]; exact hb
theorem take_full {α : Type} {l : List α} {k : Int} (h : (l.length : Int) ≤ k) : l.take k.toNat = l := List.take_of_length_le (by omega)
theorem map_get {α β : Type} {f : α → β} {l : List α} {k : Nat} {a : α} (h : l[k]? = some a) : (l.map f)[k]? = some (f a) := by rw [List.getElem?_map, h]; rfl

theorem pw_bad {l : List Str} {k : Int} {a b : Str} (h0 : 0 < k) (ha : l[k.toNat]? = some a) (hb : l[(k + -1).toNat]? = some b) (h : lt a b = true ∨ a = b) : ¬ pw l := by
  intro hp
  have := pw_get hp hb ha (by omega)
  rcases h with h | h
  · rw [lt_asymm this] at h; cases h
  · rw [h, lt_irrefl] at this; cases this

theorem vcCheck_ok : vcCheck := by
  unfold vcCheck Nd
  rintro _ ⟨l, rfl, hl⟩
  simp only [namedRel, textRel, checkRel, attInv, attMu, llMu, namedPre, textPre, sPre, need_twice, need_known, implies_true, and_true, true_and, true_implies, forall_eq, ats_map, List.length_map, vName_a, not_true_eq_false, false_implies]
  refine And.intro (fun h => (ckAts_len (by omega)).symm) fun h8 => And.intro ⟨by omega, by omega, by simp, rfl⟩ fun _ k ⟨k0, k1, k2, k3⟩ => And.intro (fun hk => ?_) fun hk => ?_
  · obtain ⟨a, ha⟩ := Sx.get_at k0 hk
    have hm := List.mem_of_getElem? ha
    simp only [cellAt_map ha, at0, at1, toStr_str]
    rw [List.map_take] at k3 ⊢
    have k3' := asc_pw.1 k3
    have hna := map_get (f := Att.n) ha
    have fn : ∀ {b : Bool}, ¬ b = true → b = false := fun {b} h => by cases b <;> simp at h ⊢
    by_cases hk0 : 0 < k
    · obtain ⟨b, hb⟩ := Sx.get_at (T := l) (i := k + -1) (by omega) (by omega)
      have hnb := map_get (f := Att.n) hb
      simp only [cellAt_map hb, at0, toStr_str]
      repeat' first | (refine And.intro ?_ ?_) | intro _
      all_goals first
        | omega
        | assumption
        | exact (ckAts_ok hm (okAt_v (fn ‹¬ vStr a.v = true›))).symm
        | exact (ckAts_ok hm (okAt_n (fn ‹¬ vName a.n = true›))).symm
        | exact (ckAts_asc (pw_bad hk0 hna hnb (.inl ‹Op.bytesLess a.n b.n = true›))).symm
        | exact (ckAts_asc (pw_bad hk0 hna hnb (.inr ‹a.n = b.n›))).symm
        | exact all_take_step k0 ha k2 (okAt_yes ‹vName a.n = true› ‹vStr a.v = true›) _ (by assumption)
        | exact asc_pw.2 (pw_take_prev hk0 hna hnb (lt_tri (fn ‹¬ Op.bytesLess a.n b.n = true›) ‹¬ a.n = b.n›) k3')
    · obtain rfl : k = 0 := by omega
      repeat' first | (refine And.intro ?_ ?_) | intro _
      all_goals first
        | omega
        | assumption
        | exact (ckAts_ok hm (okAt_v (fn ‹¬ vStr a.v = true›))).symm
        | exact (ckAts_ok hm (okAt_n (fn ‹¬ vName a.n = true›))).symm
        | exact all_take_step k0 ha k2 (okAt_yes ‹vName a.n = true› ‹vStr a.v = true›) _ (by assumption)
        | exact asc_pw.2 ((pw_take_step k0 hna).2 ⟨k3', by simp⟩)
  · rw [take_full (by omega)] at k2 k3
    exact (ckAts_yes (by omega) k2 (asc_pw.1 k3)).symm

end Go.C13
