/- Chapter 15, the other functions of the arena, those of the definition: the conditions of their contracts hold.
  Conditions: none. -/
import Derived.Test.YtdhbegidnfapjaaB2
set_option linter.unusedVariables false
set_option linter.unusedSimpArgs false
namespace Go.C15
open Go Go.Xe Go.Sx

theorem part_all {L : Sx.Rows} {n : Int} (h : (L.length : Int) ≤ n) : Sx.part L 0 n = L := by
  unfold Sx.part
  simp only [Int.toNat_zero, List.drop_zero]
  exact List.take_of_length_le (by omega)

theorem part_tail {α : Type} {f : α → List Dat} {a : α} {l : List α} : Sx.part ((a :: l).map f) 1 (l.length : Int) = l.map f := by
  unfold Sx.part
  simp only [List.map_cons, show (1 : Int).toNat = 1 from rfl, List.drop_succ_cons, List.drop_zero]
  exact List.take_of_length_le (by simp)

theorem part_take {α : Type} {f : α → List Dat} {l : List α} {n : Int} : Sx.part (l.map f) 0 n = (l.take n.toNat).map f := by
  unfold Sx.part
  simp [List.map_take]

theorem over_one {r : List Dat} {l : Sx.Rows} : Sx.part (Sx.over [r] 1 l) 0 ((l.length : Int) + 1) = r :: l := by
  have : Sx.over [r] 1 l = r :: l := by
    unfold Sx.over
    simp
  rw [this]
  exact part_all (by simp)

theorem wrap_inc {n : Int} (h : U32 n) : IntKind.wrap .u32 (n + 1) = inc32 n := by
  obtain ⟨h0, h1⟩ := h
  unfold inc32
  by_cases e : n = 4294967295
  · subst e; rw [if_pos rfl]; decide
  · rw [if_neg e]; exact wrapU32 (by omega) (by omega)

theorem wrap_dec {n : Int} (h : U32 n) : IntKind.wrap .u32 (n + -1) = dec32 n := by
  obtain ⟨h0, h1⟩ := h
  unfold dec32
  by_cases e : n = 0
  · subst e; rw [if_pos rfl]; decide
  · rw [if_neg e]; exact wrapU32 (by omega) (by omega)

theorem opair_inj (o p : Op) (h : o.row = p.row) : o = p := by
  cases o; cases p
  simp only [Op.row, List.cons.injEq, Dat.int.injEq] at h
  obtain ⟨rfl, rfl, rfl, _⟩ := h
  rfl

theorem vcAwaits_ok : vcAwaits := by
  unfold vcAwaits Nd
  intro x0 x1 x2 x3 x4 hp
  exact hp.elim

theorem vcAget_ok : vcAget := by
  unfold vcAget Nd
  intro x0 x1 x2 x3 x4 hp
  obtain ⟨A, i, g, hA, hi0, hi1, hg0, hg1, e⟩ := hp
  simp only [Ar.dats, List.cons.injEq, Dat.int.injEq, Dat.lst.injEq, and_true] at e
  obtain ⟨rfl, rfl, rfl, rfl, rfl⟩ := e
  have hsz := hA.size
  have hrel : ∀ l, l = (if A.valid x0 x1 then [Dat.int (xAt A.T x0.toNat), Dat.int 0] else [Dat.int 0, Dat.int 11]) → agetRel [.int x0, .int x1, .lst (A.T.map Slot.row), .int (linkOf A.c), .int (live A.T)] (l ++ [.lst (A.T.map Slot.row), .int (linkOf A.c), .int (live A.T)]) := by
    refine fun l hl => ⟨fun B i g hB hd => ?_⟩
    have hd' : Dat.int x0 :: Dat.int x1 :: A.dats = Dat.int i :: Dat.int g :: B.dats := hd
    simp only [List.cons.injEq, Dat.int.injEq] at hd'
    obtain ⟨rfl, rfl, h⟩ := hd'
    rw [← Ar.inj hA hB h, hl]; rfl
  have bad : A.valid x0 x1 = false → agetRel [.int x0, .int x1, .lst (A.T.map Slot.row), .int (linkOf A.c), .int (live A.T)] [.int 0, .int 11, .lst (A.T.map Slot.row), .int (linkOf A.c), .int (live A.T)] := fun h => hrel [.int 0, .int 11] (by rw [h]; rfl)
  simp only [List.length_map, Int.lt_irrefl, not_false_eq_true, true_and, true_implies, forall_const, need_known, need_twice, implies_true, and_true]
  cases hs : A.T[x0.toNat]? with
  | none =>
    have hl := List.getElem?_eq_none_iff.1 hs
    have f0 := bad (valid_none hs)
    repeat' first | exact f0 | (refine And.intro ?_ (fun _ => ?_)) | intro _
    all_goals omega
  | some s =>
    have hl := (List.getElem?_eq_some_iff.1 hs).1
    simp only [cellAt_map hs, getD0, getD1, getD3, toInt_int, toBool_bool]
    have hv := valid_some (g := x1) hs
    have f1 : s.used = true → s.gen = x1 → agetRel [.int x0, .int x1, .lst (A.T.map Slot.row), .int (linkOf A.c), .int (live A.T)] [.int s.x, .int 0, .lst (A.T.map Slot.row), .int (linkOf A.c), .int (live A.T)] := fun h1 h2 => hrel [.int s.x, .int 0] (by rw [hv, h1, xAt_of hs]; simp [h2])
    have f2 : ¬ s.gen = x1 → agetRel [.int x0, .int x1, .lst (A.T.map Slot.row), .int (linkOf A.c), .int (live A.T)] [.int 0, .int 11, .lst (A.T.map Slot.row), .int (linkOf A.c), .int (live A.T)] := fun h2 => bad (by rw [hv]; simp [h2])
    have f3 : ¬ s.used = true → agetRel [.int x0, .int x1, .lst (A.T.map Slot.row), .int (linkOf A.c), .int (live A.T)] [.int 0, .int 11, .lst (A.T.map Slot.row), .int (linkOf A.c), .int (live A.T)] := fun h2 => bad (by rw [hv]; simp [h2])
    repeat' first | assumption | exact f1 (by assumption) (by assumption) | exact f2 (by assumption) | exact f3 (by assumption) | (refine And.intro ?_ (fun _ => ?_)) | intro _
    all_goals omega

theorem vcAset_ok : vcAset := by
  unfold vcAset Nd
  intro x0 x1 x2 x3 x4 x5 hp
  obtain ⟨A, i, g, x, hA, ⟨hi0, hi1⟩, ⟨hg0, hg1⟩, e⟩ := hp
  simp only [Ar.dats, List.cons.injEq, Dat.int.injEq, Dat.lst.injEq, and_true] at e
  obtain ⟨rfl, rfl, rfl, rfl, rfl, rfl⟩ := e
  have hsz := hA.size
  have hrel : ∀ l, l = (if A.valid x0 x1 then .int 0 :: (A.set x0 x2).dats else .int 11 :: A.dats) → asetRel [.int x0, .int x1, .int x2, .lst (A.T.map Slot.row), .int (linkOf A.c), .int (live A.T)] l := by
    refine fun l hl => ⟨fun B i g x hB hd => ?_⟩
    have hd' : Dat.int x0 :: Dat.int x1 :: Dat.int x2 :: A.dats = Dat.int i :: Dat.int g :: Dat.int x :: B.dats := hd
    simp only [List.cons.injEq, Dat.int.injEq] at hd'
    obtain ⟨rfl, rfl, rfl, h⟩ := hd'
    rw [← Ar.inj hA hB h, hl]
  have bad : A.valid x0 x1 = false → asetRel [.int x0, .int x1, .int x2, .lst (A.T.map Slot.row), .int (linkOf A.c), .int (live A.T)] [.int 11, .lst (A.T.map Slot.row), .int (linkOf A.c), .int (live A.T)] := fun h => hrel _ (by rw [h]; rfl)
  simp only [List.length_map, Int.lt_irrefl, not_false_eq_true, true_and, true_implies, forall_const, need_known, need_twice, implies_true, and_true]
  cases hs : A.T[x0.toNat]? with
  | none =>
    have hl := List.getElem?_eq_none_iff.1 hs
    have f0 := bad (valid_none hs)
    repeat' first | exact f0 | (refine And.intro ?_ (fun _ => ?_)) | intro _
    all_goals omega
  | some s =>
    have hl := (List.getElem?_eq_some_iff.1 hs).1
    simp only [cellAt_map hs, getD0, getD1, getD3, toInt_int, toBool_bool]
    have hv := valid_some (g := x1) hs
    have f1 : s.used = true → s.gen = x1 → asetRel [.int x0, .int x1, .int x2, .lst (A.T.map Slot.row), .int (linkOf A.c), .int (live A.T)] [.int 0, .lst (Sx.setAt (A.T.map Slot.row) x0 3 (.int x2)), .int (linkOf A.c), .int (live A.T)] := by
      intro h1 h2
      refine hrel _ ?_
      have t0 : A.valid x0 x1 = true := by rw [hv, h1]; simp [h2]
      have t4 := live_modify (fun s => { s with x := x2 }) hs
      rw [h1] at t4
      simp only [if_true] at t4
      rw [t0, if_pos rfl, setAt_map (fun s => { s with x := x2 }) (fun _ => rfl)]
      show _ = [Dat.int 0, Dat.lst ((A.T.modify x0.toNat (fun s => { s with x := x2 })).map Slot.row), Dat.int (linkOf A.c), Dat.int (live (A.T.modify x0.toNat (fun s => { s with x := x2 })))]
      rw [t4, Int.sub_add_cancel]
    have f2 : ¬ s.gen = x1 → asetRel [.int x0, .int x1, .int x2, .lst (A.T.map Slot.row), .int (linkOf A.c), .int (live A.T)] [.int 11, .lst (A.T.map Slot.row), .int (linkOf A.c), .int (live A.T)] := fun h2 => bad (by rw [hv]; simp [h2])
    have f3 : ¬ s.used = true → asetRel [.int x0, .int x1, .int x2, .lst (A.T.map Slot.row), .int (linkOf A.c), .int (live A.T)] [.int 11, .lst (A.T.map Slot.row), .int (linkOf A.c), .int (live A.T)] := fun h2 => bad (by rw [hv]; simp [h2])
    repeat' first | assumption | exact f1 (by assumption) (by assumption) | exact f2 (by assumption) | exact f3 (by assumption) | (refine And.intro ?_ (fun _ => ?_)) | intro _
    all_goals omega

theorem live_take {T : List Slot} {s : Slot} {n : Nat} (h : T[n]? = some s) (hn : n + 1 = T.length) (hu : s.used = true) : (live (T.take n) : Int) = live T - 1 := by
  have e : T = T.take n ++ [s] := by
    apply List.ext_getElem?
    intro k
    rw [List.getElem?_append]
    by_cases hk : k < (T.take n).length
    · rw [if_pos hk, List.getElem?_take, if_pos (by simp at hk; omega)]
    · rw [if_neg hk]
      simp only [List.length_take] at hk ⊢
      by_cases h2 : k = n
      · subst h2
        rw [h, show k - min k T.length = 0 by omega]; rfl
      · rw [List.getElem?_eq_none (by omega), List.getElem?_eq_none (by simp; omega)]
  have := live_app (T.take n) s
  rw [← e, hu, if_pos rfl] at this
  omega

theorem vcAuntake_ok : vcAuntake := by
  unfold vcAuntake vcAuntake0 Nd
  intro x0 x1 x2 x3 x4 hp
  obtain ⟨A, i, g, hA, hi0, hi1, hg0, hg1, e⟩ := hp
  simp only [Ar.dats, List.cons.injEq, Dat.int.injEq, Dat.lst.injEq, and_true] at e
  obtain ⟨rfl, rfl, rfl, rfl, rfl⟩ := e
  have hsz := hA.size
  have hll := live_le A.T
  have hrel : ∀ l, l = (.int (A.untake x0 x1).2 :: (A.untake x0 x1).1.dats) → auntakeRel [.int x0, .int x1, .lst (A.T.map Slot.row), .int (linkOf A.c), .int (live A.T)] l := by
    refine fun l hl => ⟨fun B i g hB hd => ?_⟩
    have hd' : Dat.int x0 :: Dat.int x1 :: A.dats = Dat.int i :: Dat.int g :: B.dats := hd
    simp only [List.cons.injEq, Dat.int.injEq] at hd'
    obtain ⟨rfl, rfl, h⟩ := hd'
    rw [← Ar.inj hA hB h, hl]
  have bad : A.valid x0 x1 = false → auntakeRel [.int x0, .int x1, .lst (A.T.map Slot.row), .int (linkOf A.c), .int (live A.T)] [.int 11, .lst (A.T.map Slot.row), .int (linkOf A.c), .int (live A.T)] := fun h => hrel _ (by unfold Ar.untake; rw [if_pos h]; rfl)
  simp only [List.length_map, Int.lt_irrefl, not_false_eq_true, true_and, true_implies, forall_const, need_known, need_twice, implies_true, and_true]
  cases hs : A.T[x0.toNat]? with
  | none =>
    have hl := List.getElem?_eq_none_iff.1 hs
    have f0 := bad (valid_none hs)
    repeat' first | exact f0 | (refine And.intro ?_ (fun _ => ?_)) | intro _
    all_goals omega
  | some s =>
    have hl := (List.getElem?_eq_some_iff.1 hs).1
    simp only [cellAt_map hs, getD0, getD1, getD3, toInt_int, toBool_bool]
    have hv := valid_some (g := x1) hs
    have hvt : s.used = true → s.gen = x1 → A.valid x0 x1 ≠ false := fun h1 h2 => by rw [hv, h1]; simp [h2]
    have hpos : s.used = true → 1 ≤ live A.T := live_pos hs
    have f10 : s.used = true → s.gen = x1 → s.gen = 1 → ¬ x0 = (A.T.length : Int) + -1 → auntakeRel [.int x0, .int x1, .lst (A.T.map Slot.row), .int (linkOf A.c), .int (live A.T)] [.int 10, .lst (A.T.map Slot.row), .int (linkOf A.c), .int (live A.T)] := by
      intro h1 h2 h3 h4
      refine hrel _ ?_
      unfold Ar.untake
      rw [if_neg (hvt h1 h2), if_pos ⟨by omega, by omega⟩]; rfl
    have f0 : s.used = true → s.gen = x1 → s.gen = 1 → x0 = (A.T.length : Int) + -1 → auntakeRel [.int x0, .int x1, .lst (A.T.map Slot.row), .int (linkOf A.c), .int (live A.T)]
        [.int 0, .lst (Sx.part (Sx.setAt (Sx.setAt (A.T.map Slot.row) x0 1 (.bool false)) x0 3 (.int 0)) 0 ((A.T.length : Int) + -1)), .int (linkOf A.c), .int (live A.T + -1)] := by
      intro h1 h2 h3 h4
      refine hrel _ ?_
      unfold Ar.untake
      rw [if_neg (hvt h1 h2), if_neg (by omega), if_pos (by omega), setAt_map (fun s => { s with used := false }) (fun _ => rfl), setAt_map (fun s => { s with x := 0 }) (fun _ => rfl), modify_modify', part_take, ← h4]
      have e1 : (A.T.modify x0.toNat (fun s => { s with used := false, x := 0 })).take x0.toNat = A.T.take x0.toNat := by
        apply List.ext_getElem?
        intro k
        rw [List.getElem?_take, List.getElem?_take]
        by_cases hk : k < x0.toNat
        · rw [if_pos hk, if_pos hk, List.getElem?_modify]
          have : x0.toNat ≠ k := by omega
          simp [this]
        · rw [if_neg hk, if_neg hk]
      have e2 := live_take hs (by omega) h1
      show _ = [Dat.int 0, Dat.lst ((A.T.take x0.toNat).map Slot.row), Dat.int (linkOf A.c), Dat.int (live (A.T.take x0.toNat))]
      rw [e1, e2]; rfl
    have f1 : s.used = true → s.gen = x1 → ¬ s.gen = 1 → auntakeRel [.int x0, .int x1, .lst (A.T.map Slot.row), .int (linkOf A.c), .int (live A.T)]
        [.int 0, .lst (Sx.setAt (Sx.setAt (Sx.setAt (A.T.map Slot.row) x0 1 (.bool false)) x0 3 (.int 0)) x0 2 (.int (linkOf A.c))), .int (x0 + 1), .int (live A.T + -1)] := by
      intro h1 h2 h3
      refine hrel _ ?_
      unfold Ar.untake
      rw [if_neg (hvt h1 h2), if_neg (by omega), if_neg (by omega), setAt_map (fun s => { s with used := false }) (fun _ => rfl), setAt_map (fun s => { s with x := 0 }) (fun _ => rfl), setAt_map (fun s => { s with next := linkOf A.c }) (fun _ => rfl),
        modify_modify', modify_modify']
      have t4 := live_modify (fun s => ⟨s.gen, false, linkOf A.c, 0⟩) hs
      rw [h1] at t4
      simp only [if_true, Bool.false_eq_true, if_false, Int.add_zero] at t4
      show _ = [Dat.int 0, Dat.lst ((A.T.modify x0.toNat (fun s => ⟨s.gen, false, linkOf A.c, 0⟩)).map Slot.row), Dat.int (x0.toNat + 1), Dat.int (live (A.T.modify x0.toNat (fun s => ⟨s.gen, false, linkOf A.c, 0⟩)))]
      rw [show (x0.toNat : Int) = x0 by omega, t4]; rfl
    have f2 : ¬ s.gen = x1 → auntakeRel [.int x0, .int x1, .lst (A.T.map Slot.row), .int (linkOf A.c), .int (live A.T)] [.int 11, .lst (A.T.map Slot.row), .int (linkOf A.c), .int (live A.T)] := fun h2 => bad (by rw [hv]; simp [h2])
    have f3 : ¬ s.used = true → auntakeRel [.int x0, .int x1, .lst (A.T.map Slot.row), .int (linkOf A.c), .int (live A.T)] [.int 11, .lst (A.T.map Slot.row), .int (linkOf A.c), .int (live A.T)] := fun h2 => bad (by rw [hv]; simp [h2])
    repeat' first | assumption | exact f10 (by assumption) (by assumption) (by assumption) (by assumption) | exact f0 (by assumption) (by assumption) (by assumption) (by assumption) | exact f1 (by assumption) (by assumption) (by assumption) | exact f2 (by assumption) | exact f3 (by assumption) | (refine And.intro ?_ (fun _ => ?_)) | intro _
    all_goals omega

end Go.C15
