/- Chapter 15, taking back: one step.
  Conditions: none. -/
import Derived.Test.YtdhbegidnfapjaaB12
import Derived.Test.YtdhbegidnfapjaaC2
set_option linter.unusedVariables false
set_option linter.unusedSimpArgs false
namespace Go.C15
open Go Go.Xe Go.Sx

theorem modify_same {T : List Slot} {i : Nat} {s : Slot} {g : Slot → Slot} (h : T[i]? = some s) (hg : g s = s) : T.modify i g = T := by
  apply List.ext_getElem?
  intro k
  rw [List.getElem?_modify]
  by_cases e : i = k
  · subst e; rw [h]; simp [hg]
  · simp only [e, if_false]
    cases T[k]? <;> rfl

theorem undo_take {A : Ar} {n : Nat} (h : AOk A n) (x : Int) : (A.take x).untake A.tidx A.tgen = (A, 0) := by
  have hok : A.Ok := h.ok
  obtain ⟨T, c⟩ := A
  cases c with
  | nil =>
    have t1 : Ar.take ⟨T, []⟩ x = ⟨T ++ [⟨1, true, 0, x⟩], []⟩ := rfl
    have t2 : Ar.tidx ⟨T, []⟩ = T.length := rfl
    have t3 : Ar.tgen ⟨T, []⟩ = 1 := by unfold Ar.tgen genAt; rw [t2]; simp
    rw [t1, t2, t3]
    have hs : (⟨T ++ [⟨1, true, 0, x⟩], []⟩ : Ar).T[((T.length : Nat) : Int).toNat]? = some ⟨1, true, 0, x⟩ := by simp
    have hv : Ar.valid ⟨T ++ [⟨1, true, 0, x⟩], []⟩ ((T.length : Nat) : Int) 1 = true := by rw [valid_some hs]; rfl
    unfold Ar.untake
    rw [if_neg (by rw [hv]; simp), if_neg (by simp), if_pos rfl]
    simp
  | cons i c =>
    obtain ⟨s, h1, h2, h3⟩ := hok.head rfl
    have hch : Chain T (i :: c) := hok.chain
    have hfr : 2 ≤ s.gen ∧ s.x = 0 := h.fr i (by simp) s h1
    have h1' : T[i]? = some s := h1
    have t1 : Ar.take ⟨T, i :: c⟩ x = ⟨T.modify i (fun s => { s with used := true, next := 0, x := x }), c⟩ := rfl
    have t2 : Ar.tidx ⟨T, i :: c⟩ = i := rfl
    have t3 : Ar.tgen ⟨T, i :: c⟩ = s.gen := by unfold Ar.tgen; rw [t2, genAt_of h1]
    rw [t1, t2, t3]
    have hs : (⟨T.modify i (fun s => { s with used := true, next := 0, x := x }), c⟩ : Ar).T[((i : Nat) : Int).toNat]? = some { s with used := true, next := 0, x := x } := by
      show (T.modify i _)[i]? = _
      rw [modify_get h1', if_pos rfl]
    have hv : Ar.valid ⟨T.modify i (fun s => { s with used := true, next := 0, x := x }), c⟩ ((i : Nat) : Int) s.gen = true := by rw [valid_some hs]; simp
    unfold Ar.untake
    rw [if_neg (by rw [hv]; simp), if_neg (by omega), if_neg (by omega)]
    show ((⟨(T.modify i (fun s => { s with used := true, next := 0, x := x })).modify i (fun s => ⟨s.gen, false, linkOf c, 0⟩), i :: c⟩ : Ar), (0 : Int)) = _
    rw [modify_modify', modify_same h1' (by
      obtain ⟨g, u, nx, y⟩ := s
      have e1 : u = false := h2
      have e2 : nx = linkOf c := h3
      have e3 : y = 0 := hfr.2
      subst e1; subst e2; subst e3; rfl)]

theorem undo_free {A : Ar} {n : Nat} (h : AOk A n) {i g : Int} (hi : 0 ≤ i) (hv : A.valid i g = true) : (A.free i).unfree i g (xAt A.T i.toNat) = (A, 0) := by
  have hok : A.Ok := h.ok
  obtain ⟨s, hs, hu, hg⟩ := valid_at hv
  have hgen := hok.gen s (List.mem_of_getElem? hs)
  have hus : s.next = 0 := h.us s (List.mem_of_getElem? hs) hu
  rw [xAt_of hs]
  unfold Ar.unfree
  have hc : (A.free i).c = i.toNat :: A.c := rfl
  have hT : (A.free i).T = A.T.modify i.toNat (fun s => ⟨s.gen + 1, false, linkOf A.c, 0⟩) := rfl
  have hga : genAt (A.free i).T i.toNat = s.gen + 1 := by
    have : (A.free i).T[i.toNat]? = some ⟨s.gen + 1, false, linkOf A.c, 0⟩ := by rw [hT, modify_get hs, if_pos rfl]
    rw [genAt_of this]
  rw [hc]
  simp only [hga]
  rw [if_pos ⟨by omega, by omega, by omega⟩, hT, modify_modify', modify_same hs (by
    obtain ⟨g', u, nx, y⟩ := s
    have e1 : u = true := hu
    have e2 : nx = 0 := hus
    have e3 : g' = g := hg
    subst e1; subst e2; subst e3; rfl)]

theorem undo_set {A : Ar} {i g x : Int} (hv : A.valid i g = true) : (A.set i x).valid i g = true ∧ (A.set i x).set i (xAt A.T i.toNat) = A := by
  obtain ⟨s, hs, hu, hg⟩ := valid_at hv
  have hT : (A.set i x).T = A.T.modify i.toNat (fun s => { s with x := x }) := rfl
  have h1 : (A.set i x).T[i.toNat]? = some { s with x := x } := by rw [hT, modify_get hs, if_pos rfl]
  refine ⟨by rw [valid_some h1]; simp [hu, hg], ?_⟩
  rw [xAt_of hs]
  show (⟨(A.T.modify i.toNat (fun s => { s with x := x })).modify i.toNat (fun t => { t with x := s.x }), A.c⟩ : Ar) = A
  rw [modify_modify', modify_same hs rfl]

/-- What is kept of an operation, and of its handle. -/
def keepO (p : Bo) (o : Op) : Op := if o.kind < 3 then o else ⟨o.kind, o.which, xAt p.A.T (pickH o p.H).1.toNat⟩
def keepH (p : Bo) (o : Op) : Hd := if o.kind < 3 then ((p.A.tidx : Int), p.A.tgen) else pickH o p.H

theorem undo_step {p : Bo} {n : Nat} (h : p.Ok n) {o : Op} (ho : o.Ok) (hk : o.kind < 6) (hv : 2 < o.kind → p.A.valid (pickH o p.H).1 (pickH o p.H).2 = true) :
    (p.step o).A.undo (keepO p o) (keepH p o) = (p.A, 0) ∧ (keepO p o).Ok ∧ (keepO p o).kind < 6 ∧ U32 (keepH p o).1 ∧ U32 (keepH p o).2 := by
  have hk0 := ho.k.1
  have hm : o.kind.tmod 8 = o.kind := Int.tmod_eq_of_lt hk0 (by omega)
  obtain ⟨u1, u2⟩ := pick_u32 (o := o) h.hu
  unfold keepO keepH Bo.step
  simp only [hm]
  by_cases h3 : o.kind < 3
  · rw [if_pos h3, if_pos h3, if_pos (by omega)]
    refine ⟨?_, ho, hk, h.ok.tgen_u32⟩
    unfold Ar.undo
    rw [if_pos (by omega)]
    exact undo_take h.a o.x
  · rw [if_neg h3, if_neg h3, if_neg (by omega)]
    have hv := hv (by omega)
    have hxr : 0 ≤ xAt p.A.T (pickH o p.H).1.toNat ∧ xAt p.A.T (pickH o p.H).1.toNat ≤ 255 := by
      obtain ⟨s, hs, _⟩ := valid_at hv
      rw [xAt_of hs]
      exact h.xs s (List.mem_of_getElem? hs)
    refine ⟨?_, ⟨ho.k, ho.w, hxr⟩, hk, u1, u2⟩
    unfold Ar.undo
    rw [if_neg (show ¬ (o.kind = 0 ∨ o.kind = 1 ∨ o.kind = 2) by omega)]
    by_cases h5 : o.kind = 5
    · rw [if_neg (show ¬ (o.kind = 3 ∨ o.kind = 4) by omega), if_neg (show ¬ (o.kind = 3 ∨ o.kind = 4) by omega), if_pos h5, if_pos hv]
      obtain ⟨e1, e2⟩ := undo_set (x := o.x) hv
      simp only [e1, if_true, e2]
    · rw [if_pos (show (o.kind = 3 ∨ o.kind = 4) by omega), if_pos (show (o.kind = 3 ∨ o.kind = 4) by omega), if_pos hv]
      exact undo_free h.a u1.1 hv

theorem Und.ok {n : Nat} {A0 : Ar} (h0 : A0.Ok) : ∀ {D : List Op} {K : List Hd} {A : Ar}, Und n A0 D K A → A.Ok
  | _, _, _, .nil => h0
  | _, _, _, .snoc _ _ _ _ _ _ _ _ _ _ _ hB _ => hB
theorem Und.len {n : Nat} {A0 : Ar} : ∀ {D : List Op} {K : List Hd} {A : Ar}, Und n A0 D K A → D.length = K.length
  | _, _, _, .nil => rfl
  | _, _, _, .snoc _ _ _ _ _ _ h _ _ _ _ _ _ => by simp [h.len]
theorem Und.inv {n : Nat} {A0 : Ar} {D : List Op} {K : List Hd} {o : Op} {h : Hd} {B : Ar} (hu : Und n A0 (D ++ [o]) (K ++ [h]) B) :
    ∃ A, Und n A0 D K A ∧ o.Ok ∧ o.kind < 6 ∧ U32 h.1 ∧ U32 h.2 ∧ B.Ok ∧ B.undo o h = (A, 0) := by
  generalize hD : D ++ [o] = D' at hu
  generalize hK : K ++ [h] = K' at hu
  cases hu with
  | nil => simp at hD
  | snoc D1 K1 A _ o1 h1 hu' a b c d e f =>
    obtain ⟨rfl, e1⟩ := List.append_inj' hD rfl
    obtain ⟨rfl, e2⟩ := List.append_inj' hK rfl
    simp only [List.cons.injEq, and_true] at e1 e2
    subst e1; subst e2
    exact ⟨A, hu', a, b, c, d, e, f⟩

end Go.C15
