/- Chapter 15, the parts: the conditions of the arena's contracts hold.
  Conditions: none. -/
import Derived.Test.YtdhbegidnfapjaaA2
set_option linter.unusedVariables false
set_option linter.unusedSimpArgs false
namespace Go.C15
open Go Go.Xe Go.Sx

/-! ## Rows that are the images of something -/

section
variable {α : Type} {f : α → List Dat}

theorem cellAt_map {T : List α} {i : Int} {s : α} (h : T[i.toNat]? = some s) (j : Nat) : cellAt (T.map f) i j = (f s).getD j (.int 0) := by
  unfold cellAt
  rw [List.getD_eq_getElem?_getD (l := T.map f), List.getElem?_map, h]
  rfl

theorem modify_map {h : List Dat → List Dat} {g : α → α} (hg : ∀ s, h (f s) = f (g s)) : ∀ {T : List α} {n : Nat}, (T.map f).modify n h = (T.modify n g).map f
  | [], n => by cases n <;> rfl
  | a :: T, 0 => by show h (f a) :: T.map f = f (g a) :: T.map f; rw [hg]
  | a :: T, n + 1 => by show f a :: (T.map f).modify n h = f a :: (T.modify n g).map f; rw [modify_map hg]

theorem setAt_map {T : List α} {i : Int} {j : Nat} {d : Dat} (g : α → α) (hg : ∀ s, (f s).set j d = f (g s)) : setAt (T.map f) i j d = (T.modify i.toNat g).map f := by
  unfold setAt
  exact modify_map hg

theorem modify_modify' {g h : α → α} : ∀ {T : List α} {n : Nat}, (T.modify n g).modify n h = T.modify n (fun s => h (g s))
  | [], n => by cases n <;> rfl
  | a :: T, 0 => rfl
  | a :: T, n + 1 => by show a :: (T.modify n g).modify n h = a :: T.modify n _; rw [modify_modify']
end

theorem modify_app {α : Type} (s : α) (g : α → α) : ∀ T : List α, (T ++ [s]).modify T.length g = T ++ [g s]
  | [] => rfl
  | a :: T => by show a :: (T ++ [s]).modify T.length g = a :: (T ++ [g s]); rw [modify_app s g T]

theorem map_inj' {α β : Type} {f : α → β} (hf : ∀ a b, f a = f b → a = b) : ∀ {l m : List α}, l.map f = m.map f → l = m
  | [], [], _ => rfl
  | [], _ :: _, h => by simp at h
  | _ :: _, [], h => by simp at h
  | a :: l, b :: m, h => by
    simp only [List.map_cons, List.cons.injEq] at h
    rw [hf a b h.1, map_inj' hf h.2]

theorem wrapU32 {n : Int} (h0 : 0 ≤ n) (h1 : n < 4294967296) : IntKind.wrap .u32 n = n := by
  have : n % 4294967296 = n := Int.emod_eq_of_lt h0 h1
  simp [IntKind.wrap, IntKind.signed, IntKind.bits, this]

/-! ## Arenas -/

theorem live_le (T : List Slot) : live T ≤ T.length := List.length_filter_le _ _

theorem live_app (T : List Slot) (s : Slot) : live (T ++ [s]) = live T + (if s.used then 1 else 0) := by
  unfold live
  rw [List.filter_append, List.length_append]
  cases h : s.used <;> simp [List.filter, h]

theorem live_modify {T : List Slot} : ∀ {i : Nat} {s : Slot} (g : Slot → Slot), T[i]? = some s → (live (T.modify i g) : Int) = live T - (if s.used then 1 else 0) + (if (g s).used then 1 else 0) := by
  induction T with
  | nil => intro i s g h; simp at h
  | cons a T ih =>
    intro i s g h
    cases i with
    | zero =>
      simp only [List.getElem?_cons_zero, Option.some.injEq] at h
      subst h
      have e : (a :: T).modify 0 g = g a :: T := rfl
      rw [e]
      unfold live
      cases h1 : a.used <;> cases h2 : (g a).used <;> simp [List.filter, h1, h2]
    | succ i =>
      simp only [List.getElem?_cons_succ] at h
      have e : (a :: T).modify (i + 1) g = a :: T.modify i g := rfl
      rw [e]
      have := ih g h
      unfold live at this ⊢
      cases h1 : a.used <;> simp only [List.filter, h1, List.length_cons] <;> omega

theorem live_pos {T : List Slot} {i : Nat} {s : Slot} (h : T[i]? = some s) (hu : s.used = true) : 1 ≤ live T := by
  unfold live
  have : s ∈ T.filter Slot.used := List.mem_filter.2 ⟨List.mem_of_getElem? h, hu⟩
  exact List.length_pos_of_mem this

theorem Ar.Ok.head {A : Ar} (h : A.Ok) {i : Nat} {c : List Nat} (hc : A.c = i :: c) : ∃ s, A.T[i]? = some s ∧ s.used = false ∧ s.next = linkOf c := by
  have := h.chain
  rw [hc] at this
  exact this.1

theorem Chain.at {T : List Slot} : ∀ {pre : List Nat} {i : Nat} {c : List Nat}, Chain T (pre ++ i :: c) → ∃ s, T[i]? = some s ∧ s.used = false ∧ s.next = linkOf c
  | [], i, c, h => h.1
  | _ :: pre, i, c, h => Chain.at (pre := pre) h.2.2

theorem genAt_of {T : List Slot} {i : Nat} {s : Slot} (h : T[i]? = some s) : genAt T i = s.gen := by unfold genAt; rw [h]; rfl
theorem xAt_of {T : List Slot} {i : Nat} {s : Slot} (h : T[i]? = some s) : xAt T i = s.x := by unfold xAt; rw [h]; rfl

theorem vcLives_ok : vcLives := by
  unfold vcLives Nd
  intro _
  exact ⟨rfl, fun _ => trivial⟩

theorem row_inj (s t : Slot) (h : s.row = t.row) : s = t := by
  cases s; cases t
  simp only [Slot.row, List.cons.injEq, Dat.int.injEq, Dat.bool.injEq] at h
  obtain ⟨rfl, rfl, rfl, rfl, _⟩ := h
  rfl

theorem chain_inj {T : List Slot} : ∀ {c d : List Nat}, Chain T c → Chain T d → linkOf c = linkOf d → c = d
  | [], [], _, _, _ => rfl
  | [], j :: d, _, _, h => by simp only [linkOf] at h; omega
  | i :: c, [], _, _, h => by simp only [linkOf] at h; omega
  | i :: c, j :: d, hc, hd, h => by
    simp only [linkOf] at h
    have e : i = j := by omega
    subst e
    obtain ⟨⟨s, h1, _, h2⟩, _, h3⟩ := hc
    obtain ⟨⟨t, k1, _, k2⟩, _, k3⟩ := hd
    rw [h1] at k1
    cases k1
    rw [chain_inj h3 k3 (by rw [← h2, ← k2])]

theorem Ar.inj {A B : Ar} (hA : A.Ok) (hB : B.Ok) (h : A.dats = B.dats) : A = B := by
  simp only [Ar.dats, List.cons.injEq, Dat.int.injEq, Dat.lst.injEq, and_true] at h
  obtain ⟨h1, h2, _⟩ := h
  have e := map_inj' row_inj h1
  obtain ⟨T, c⟩ := A
  obtain ⟨T', c'⟩ := B
  simp only at e h2
  subst e
  exact congrArg (Ar.mk T) (chain_inj hA.chain hB.chain h2)

theorem chain_lt {T : List Slot} : ∀ {c : List Nat}, Chain T c → ∀ i ∈ c, i < T.length
  | [], _, i, hi => by simp at hi
  | j :: c, h, i, hi => by
    rcases List.mem_cons.1 hi with rfl | hi
    · obtain ⟨⟨s, h1, _⟩, _⟩ := h
      exact (List.getElem?_eq_some_iff.1 h1).1
    · exact chain_lt h.2.2 i hi

theorem vcTake_ok : vcTake := by
  unfold vcTake Nd
  intro x0 x1 x2 x3 hp
  obtain ⟨A, x, hA, hlt, e⟩ := hp
  simp only [Ar.dats, List.cons.injEq, Dat.int.injEq, Dat.lst.injEq, and_true] at e
  obtain ⟨rfl, rfl, rfl, rfl⟩ := e
  have hll := live_le A.T
  have hsz := hA.size
  simp only [List.length_map]
  have hrel : ∀ e, e = .int A.tidx :: .int A.tgen :: .int 0 :: (A.take x0).dats → takeRel [.int x0, .lst (A.T.map Slot.row), .int (linkOf A.c), .int (live A.T)] e := by
    refine fun e he => ⟨fun B y hB hd => ?_⟩
    have hd' : Dat.int x0 :: A.dats = Dat.int y :: B.dats := hd
    simp only [List.cons.injEq, Dat.int.injEq] at hd'
    obtain ⟨rfl, h⟩ := hd'
    rw [he, Ar.inj hA hB h]
  cases hc : A.c with
  | nil =>
    rw [hc] at hrel
    simp only [linkOf, true_implies, not_true, false_implies, and_true, true_and, implies_true] at hrel ⊢
    have e1 : A.T.map Slot.row ++ chunk 4 1 [.int 1, .bool false, .int 0, .int 0] = (A.T ++ [(⟨1, false, 0, 0⟩ : Slot)]).map Slot.row := by rw [List.map_append]; rfl
    have e2 : (A.T ++ [(⟨1, false, 0, 0⟩ : Slot)])[(A.T.length : Int).toNat]? = some (⟨1, false, 0, 0⟩ : Slot) := by simp
    have e3 : (A.T.length : Int).toNat = A.T.length := by omega
    have fin : takeRel [.int x0, .lst (A.T.map Slot.row), .int 0, .int (live A.T)] [.int (IntKind.wrap .u32 A.T.length), .int (cellAt (A.T.map Slot.row ++ chunk 4 1 [.int 1, .bool false, .int 0, .int 0]) A.T.length 0).toInt, .int 0,
        .lst (setAt (setAt (setAt (A.T.map Slot.row ++ chunk 4 1 [.int 1, .bool false, .int 0, .int 0]) A.T.length 2 (.int 0)) A.T.length 1 (.bool true)) A.T.length 3 (.int x0)),
        .int (cellAt (A.T.map Slot.row ++ chunk 4 1 [.int 1, .bool false, .int 0, .int 0]) A.T.length 2).toInt, .int (live A.T + 1)] := by
      refine hrel _ ?_
      rw [e1, cellAt_map e2, cellAt_map e2, wrapU32 (by omega) (by omega), setAt_map (fun s => { s with next := 0 }) (fun _ => rfl), setAt_map (fun s => { s with used := true }) (fun _ => rfl), setAt_map (fun s => { s with x := x0 }) (fun _ => rfl),
        modify_modify', modify_modify', e3, modify_app]
      have t1 : A.tidx = A.T.length := by unfold Ar.tidx; rw [hc]
      have t2 : A.take x0 = ⟨A.T ++ [⟨1, true, 0, x0⟩], []⟩ := by unfold Ar.take; rw [hc]
      have t3 : A.tgen = 1 := by unfold Ar.tgen genAt; rw [t1]; simp
      rw [t1, t2, t3]
      simp only [Ar.dats, live_app, linkOf, if_true]
      rfl
    repeat' first | exact fin | (refine And.intro ?_ (fun _ => ?_)) | intro _ | exact trivial
    all_goals omega
  | cons i c =>
    obtain ⟨s, h1, h2, h3⟩ := hA.head hc
    have hi := (List.getElem?_eq_some_iff.1 h1).1
    rw [hc] at hrel
    simp only [linkOf] at hrel ⊢
    have e0 : ((i : Int) + 1 + -1) = i := by omega
    rw [e0]
    have e1 : A.T[(i : Int).toNat]? = some s := h1
    have e3 : (i : Int).toNat = i := by omega
    have fin : takeRel [.int x0, .lst (A.T.map Slot.row), .int (i + 1), .int (live A.T)] [.int (IntKind.wrap .u32 i), .int (cellAt (A.T.map Slot.row) i 0).toInt, .int 0,
        .lst (setAt (setAt (setAt (A.T.map Slot.row) i 2 (.int 0)) i 1 (.bool true)) i 3 (.int x0)), .int (cellAt (A.T.map Slot.row) i 2).toInt, .int (live A.T + 1)] := by
      refine hrel _ ?_
      rw [cellAt_map e1, cellAt_map e1, wrapU32 (by omega) (by omega), setAt_map (fun s => { s with next := 0 }) (fun _ => rfl), setAt_map (fun s => { s with used := true }) (fun _ => rfl), setAt_map (fun s => { s with x := x0 }) (fun _ => rfl),
        modify_modify', modify_modify', e3]
      have t1 : A.tidx = i := by unfold Ar.tidx; rw [hc]
      have t2 : A.take x0 = ⟨A.T.modify i (fun s => { s with used := true, next := 0, x := x0 }), c⟩ := by unfold Ar.take; rw [hc]
      have t3 : A.tgen = s.gen := by unfold Ar.tgen; rw [t1, genAt_of h1]
      have t4 := live_modify (fun s => { s with used := true, next := 0, x := x0 }) h1
      rw [h2] at t4
      simp only [if_true, Bool.false_eq_true, if_false, Int.sub_zero] at t4
      rw [t1, t2, t3]
      simp only [Ar.dats, t4, ← h3]
      rfl
    repeat' first | exact fin | (refine And.intro ?_ (fun _ => ?_)) | intro _ | exact trivial
    all_goals omega

theorem valid_some {A : Ar} {i g : Int} {s : Slot} (h : A.T[i.toNat]? = some s) : A.valid i g = (s.used && decide (s.gen = g)) := by unfold Ar.valid; rw [h]
theorem valid_none {A : Ar} {i g : Int} (h : A.T[i.toNat]? = none) : A.valid i g = false := by unfold Ar.valid; rw [h]

theorem getD0 (s : Slot) : (Slot.row s).getD 0 (.int 0) = .int s.gen := rfl
theorem getD1 (s : Slot) : (Slot.row s).getD 1 (.int 0) = .bool s.used := rfl
theorem getD2 (s : Slot) : (Slot.row s).getD 2 (.int 0) = .int s.next := rfl
theorem getD3 (s : Slot) : (Slot.row s).getD 3 (.int 0) = .int s.x := rfl
theorem toInt_int (n : Int) : (Dat.int n).toInt = n := rfl
theorem toBool_bool (b : Bool) : (Dat.bool b).toBool = b := rfl

theorem vcValid_ok : vcValid := by
  unfold vcValid Nd
  intro x0 x1 x2 x3 x4 hp
  obtain ⟨A, i, g, hA, hi0, hi1, hg0, hg1, e⟩ := hp
  simp only [Ar.dats, List.cons.injEq, Dat.int.injEq, Dat.lst.injEq, and_true] at e
  obtain ⟨rfl, rfl, rfl, rfl, rfl⟩ := e
  have hsz := hA.size
  have hrel : ∀ b, A.valid x0 x1 = b → validRel [.int x0, .int x1, .lst (A.T.map Slot.row), .int (linkOf A.c), .int (live A.T)] [.bool b, .lst (A.T.map Slot.row), .int (linkOf A.c), .int (live A.T)] := by
    refine fun b hb => ⟨fun B i g hB hd => ?_⟩
    have hd' : Dat.int x0 :: Dat.int x1 :: A.dats = Dat.int i :: Dat.int g :: B.dats := hd
    simp only [List.cons.injEq, Dat.int.injEq] at hd'
    obtain ⟨rfl, rfl, h⟩ := hd'
    rw [← Ar.inj hA hB h, hb]; rfl
  simp only [List.length_map]
  cases hs : A.T[x0.toNat]? with
  | none =>
    have hl := List.getElem?_eq_none_iff.1 hs
    have f0 := hrel false (valid_none hs)
    repeat' first | exact f0 | (refine And.intro ?_ (fun _ => ?_)) | intro _ | exact trivial
    all_goals omega
  | some s =>
    have hl := (List.getElem?_eq_some_iff.1 hs).1
    simp only [cellAt_map hs, getD0, getD1, toInt_int, toBool_bool]
    have hv := valid_some (g := x1) hs
    have f1 : s.used = true → s.gen = x1 → validRel [.int x0, .int x1, .lst (A.T.map Slot.row), .int (linkOf A.c), .int (live A.T)] [.bool true, .lst (A.T.map Slot.row), .int (linkOf A.c), .int (live A.T)] := fun h1 h2 => hrel true (by rw [hv, h1]; simp [h2])
    have f2 : ¬ s.gen = x1 → validRel [.int x0, .int x1, .lst (A.T.map Slot.row), .int (linkOf A.c), .int (live A.T)] [.bool false, .lst (A.T.map Slot.row), .int (linkOf A.c), .int (live A.T)] := fun h2 => hrel false (by rw [hv]; simp [h2])
    have f3 : ¬ s.used = true → validRel [.int x0, .int x1, .lst (A.T.map Slot.row), .int (linkOf A.c), .int (live A.T)] [.bool false, .lst (A.T.map Slot.row), .int (linkOf A.c), .int (live A.T)] := fun h2 => hrel false (by rw [hv]; simp [h2])
    repeat' first | assumption | exact f1 (by assumption) (by assumption) | exact f2 (by assumption) | exact f3 (by assumption) | (refine And.intro ?_ (fun _ => ?_)) | intro _ | exact trivial
    all_goals omega

theorem vcFree_ok : vcFree := by
  unfold vcFree Nd
  intro x0 x1 x2 x3 x4 hp
  obtain ⟨A, i, g, hA, hi0, hi1, hg0, hg1, e⟩ := hp
  simp only [Ar.dats, List.cons.injEq, Dat.int.injEq, Dat.lst.injEq, and_true] at e
  obtain ⟨rfl, rfl, rfl, rfl, rfl⟩ := e
  have hsz := hA.size
  have hll := live_le A.T
  have hrel : ∀ e, (e = if A.valid x0 x1 then .int (xAt A.T x0.toNat) :: .int 0 :: (A.free x0).dats else .int 0 :: .int 11 :: A.dats) → freeRel [.int x0, .int x1, .lst (A.T.map Slot.row), .int (linkOf A.c), .int (live A.T)] e := by
    refine fun e he => ⟨fun B i g hB hd => ?_⟩
    have hd' : Dat.int x0 :: Dat.int x1 :: A.dats = Dat.int i :: Dat.int g :: B.dats := hd
    simp only [List.cons.injEq, Dat.int.injEq] at hd'
    obtain ⟨rfl, rfl, h⟩ := hd'
    rw [← Ar.inj hA hB h, he]
  have bad : A.valid x0 x1 = false → freeRel [.int x0, .int x1, .lst (A.T.map Slot.row), .int (linkOf A.c), .int (live A.T)] [.int 0, .int 11, .lst (A.T.map Slot.row), .int (linkOf A.c), .int (live A.T)] := fun h => hrel _ (by rw [h]; rfl)
  simp only [List.length_map]
  cases hs : A.T[x0.toNat]? with
  | none =>
    have hl := List.getElem?_eq_none_iff.1 hs
    have f0 := bad (valid_none hs)
    repeat' first | exact f0 | (refine And.intro ?_ (fun _ => ?_)) | intro _ | exact trivial
    all_goals omega
  | some s =>
    have hl := (List.getElem?_eq_some_iff.1 hs).1
    have hgen := hA.gen s (List.mem_of_getElem? hs)
    simp only [cellAt_map hs, getD0, getD1, getD3, toInt_int, toBool_bool]
    have hv := valid_some (g := x1) hs
    have f1 : s.used = true → s.gen = x1 → freeRel [.int x0, .int x1, .lst (A.T.map Slot.row), .int (linkOf A.c), .int (live A.T)] [.int s.x, .int 0, .lst (setAt (setAt (setAt (setAt (A.T.map Slot.row) x0 1 (.bool false)) x0 3 (.int 0)) x0 0 (.int (IntKind.wrap .u32 (s.gen + 1)))) x0 2 (.int (linkOf A.c))), .int (x0 + 1), .int (live A.T + -1)] := by
      intro h1 h2
      refine hrel _ ?_
      have t0 : A.valid x0 x1 = true := by rw [hv, h1]; simp [h2]
      rw [t0, if_pos rfl, xAt_of hs, wrapU32 (by omega) (by omega), setAt_map (fun s => { s with used := false }) (fun _ => rfl), setAt_map (fun s => { s with x := 0 }) (fun _ => rfl), setAt_map (fun t => { t with gen := s.gen + 1 }) (fun _ => rfl), setAt_map (fun s => { s with next := linkOf A.c }) (fun _ => rfl),
        modify_modify', modify_modify', modify_modify']
      have t1 : A.T.modify x0.toNat (fun t => ⟨s.gen + 1, false, linkOf A.c, 0⟩) = A.T.modify x0.toNat (fun s => ⟨s.gen + 1, false, linkOf A.c, 0⟩) := by
        apply List.ext_getElem?
        intro k
        rw [List.getElem?_modify, List.getElem?_modify]
        by_cases hk : x0.toNat = k
        · subst hk; rw [hs]; rfl
        · simp only [hk, if_false]
      have t4 := live_modify (fun s => ⟨s.gen + 1, false, linkOf A.c, 0⟩) hs
      rw [h1] at t4
      simp only [if_true, Bool.false_eq_true, if_false, Int.add_zero] at t4
      show _ = [Dat.int s.x, Dat.int 0, Dat.lst ((A.T.modify x0.toNat (fun s => ⟨s.gen + 1, false, linkOf A.c, 0⟩)).map Slot.row), Dat.int (x0.toNat + 1), Dat.int (live (A.T.modify x0.toNat (fun s => ⟨s.gen + 1, false, linkOf A.c, 0⟩)))]
      rw [show (x0.toNat : Int) = x0 by omega, t4, ← t1]
      rfl
    have f2 : ¬ s.gen = x1 → freeRel [.int x0, .int x1, .lst (A.T.map Slot.row), .int (linkOf A.c), .int (live A.T)] [.int 0, .int 11, .lst (A.T.map Slot.row), .int (linkOf A.c), .int (live A.T)] := fun h2 => bad (by rw [hv]; simp [h2])
    have f3 : ¬ s.used = true → freeRel [.int x0, .int x1, .lst (A.T.map Slot.row), .int (linkOf A.c), .int (live A.T)] [.int 0, .int 11, .lst (A.T.map Slot.row), .int (linkOf A.c), .int (live A.T)] := fun h2 => bad (by rw [hv]; simp [h2])
    have hpos : s.used = true → 1 ≤ live A.T := live_pos hs
    repeat' first | assumption | exact f1 (by assumption) (by assumption) | exact f2 (by assumption) | exact f3 (by assumption) | (refine And.intro ?_ (fun _ => ?_)) | intro _ | exact trivial
    all_goals omega

theorem chain_gen {T : List Slot} {i : Nat} {s : Slot} (h : T[i]? = some s) : genAt T i = s.gen := genAt_of h

theorem nodup_chain {T : List Slot} : ∀ {c : List Nat}, Chain T c → c.Nodup
  | [], _ => List.nodup_nil
  | _ :: _, h => List.nodup_cons.2 ⟨h.2.1, nodup_chain h.2.2⟩

theorem nodup_len : ∀ {n : Nat} {c : List Nat}, c.Nodup → (∀ i ∈ c, i < n) → c.length ≤ n
  | 0, c, _, h => by
    cases c with
    | nil => exact Nat.le_refl _
    | cons i c => have := h i (by simp); omega
  | n + 1, c, hd, h => by
    have h1 : (c.filter (· != n)).Nodup := hd.filter _
    have h2 := nodup_len h1 (n := n) fun i hi => by
      obtain ⟨a, b⟩ := List.mem_filter.1 hi
      have := h i a
      have hne : i ≠ n := by simpa using b
      omega
    have h3 : c.length ≤ (c.filter (· != n)).length + 1 := by
      by_cases hm : n ∈ c
      · have := hd.erase_eq_filter n
        rw [← this, List.length_erase_of_mem hm]; omega
      · rw [List.filter_eq_self.2 (fun i hi => by simp; exact fun e => hm (e ▸ hi))]; omega
    omega

theorem Ar.Ok.clen {A : Ar} (h : A.Ok) : A.c.length ≤ A.T.length := nodup_len (nodup_chain h.chain) (chain_lt h.chain)

theorem vcWait_ok : vcWait := by
  unfold vcWait Nd
  intro x0 x1 x2 hp
  obtain ⟨A, hA, e⟩ := hp
  simp only [Ar.dats, List.cons.injEq, Dat.int.injEq, Dat.lst.injEq, and_true] at e
  obtain ⟨rfl, rfl, rfl⟩ := e
  have hsz := hA.size
  have hcl := hA.clen
  have hrel : ∀ L, L = A.waiting → waitRel [.lst (A.T.map Slot.row), .int (linkOf A.c), .int (live A.T)] [.lst L, .lst (A.T.map Slot.row), .int (linkOf A.c), .int (live A.T)] := by
    refine fun L hL => ⟨fun B hB hd => ?_⟩
    have h : A.dats = B.dats := hd
    rw [← Ar.inj hA hB h, hL]; rfl
  refine ⟨⟨A, [], A.c, hA, rfl, rfl, rfl⟩, fun _ x3 x4 hi => ?_⟩
  obtain ⟨B, pre, rest, hB, hc, hg, e⟩ := hi
  obtain rfl := Ar.inj hA hB hg
  simp only [List.cons.injEq, Dat.int.injEq, Dat.lst.injEq, and_true] at e
  obtain ⟨rfl, rfl⟩ := e
  have hplen : pre.length + rest.length ≤ A.T.length := by rw [hc, List.length_append] at hcl; exact hcl
  simp only [List.length_map]
  cases rest with
  | nil =>
    rw [List.append_nil] at hc
    have fin := hrel (pre.map fun i : Nat => hrow (i : Int) (genAt A.T i)) (by unfold Ar.waiting; rw [hc])
    simp only [linkOf]
    repeat' first | exact fin | (refine And.intro ?_ (fun _ => ?_)) | intro _ | exact trivial
    all_goals omega
  | cons i rest =>
    have hch := hA.chain
    rw [hc] at hch
    obtain ⟨s, h1, h2, h3⟩ := Chain.at hch
    have hi := (List.getElem?_eq_some_iff.1 h1).1
    have e0 : ((i : Int) + 1 + -1) = i := by omega
    have e1 : A.T[(i : Int).toNat]? = some s := h1
    simp only [linkOf, e0, cellAt_map e1, getD0, getD2, toInt_int]
    have e2 : (pre.map fun i : Nat => hrow (i : Int) (genAt A.T i)) ++ chunk 2 1 [.int (IntKind.wrap .u32 i), .int s.gen] = (pre ++ [i]).map fun i : Nat => hrow (i : Int) (genAt A.T i) := by
      rw [List.map_append, wrapU32 (by omega) (by omega)]
      show _ = _ ++ [hrow (i : Int) (genAt A.T i)]
      rw [genAt_of h1]; rfl
    have inv' : waitInv [.lst (A.T.map Slot.row), .int (linkOf A.c), .int (live A.T)] [.lst ((pre.map fun i : Nat => hrow (i : Int) (genAt A.T i)) ++ chunk 2 1 [.int (IntKind.wrap .u32 i), .int s.gen]), .int s.next] :=
      ⟨A, pre ++ [i], rest, hA, by rw [hc]; simp, rfl, by rw [e2, h3]⟩
    have mu' : waitMu [.lst (A.T.map Slot.row), .int (linkOf A.c), .int (live A.T)] [.lst ((pre.map fun i : Nat => hrow (i : Int) (genAt A.T i)) ++ chunk 2 1 [.int (IntKind.wrap .u32 i), .int s.gen]), .int s.next] <
        waitMu [.lst (A.T.map Slot.row), .int (linkOf A.c), .int (live A.T)] [.lst (pre.map fun i : Nat => hrow (i : Int) (genAt A.T i)), .int ((i : Int) + 1)] := by
      rw [e2]
      simp only [waitMu, List.length_map, List.length_append, List.length_cons, List.length_nil]
      simp only [List.length_cons] at hplen
      omega
    simp only [List.length_cons] at hplen
    repeat' first | exact inv' | exact mu' | (refine And.intro ?_ (fun _ => ?_)) | intro _ | exact trivial
    all_goals omega
end Go.C15
