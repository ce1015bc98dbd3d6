/- Chapter 15, the definition's functions: the conditions of their contracts hold.
  Conditions: none. -/
import Derived.Test.YtdhbegidnfapjaaB3
set_option linter.unusedVariables false
set_option linter.unusedSimpArgs false
namespace Go.C15
open Go Go.Xe Go.Sx

theorem rrow_inj (s t : RS) (h : s.row = t.row) : s = t := by
  cases s; cases t
  simp only [RS.row, List.cons.injEq, Dat.int.injEq, Dat.bool.injEq] at h
  obtain ⟨rfl, rfl, rfl, _⟩ := h
  rfl
theorem irow_inj (s t : Nat) (h : irow s = irow t) : s = t := by
  simp only [irow, List.cons.injEq, Dat.int.injEq, and_true] at h
  omega
theorem Rf.inj {R Q : Rf} (h : R.dats = Q.dats) : R = Q := by
  simp only [Rf.dats, List.cons.injEq, Dat.lst.injEq, and_true] at h
  obtain ⟨h1, h2⟩ := h
  obtain ⟨L, F⟩ := R
  obtain ⟨L', F'⟩ := Q
  rw [show L = L' from map_inj' rrow_inj h1, show F = F' from map_inj' irow_inj h2]

theorem app_inj {α : Type} {a b c d : List α} (h : a ++ c = b ++ d) (hl : a.length = b.length) : a = b ∧ c = d := List.append_inj h hl

theorem rgetD0 (s : RS) : (RS.row s).getD 0 (.int 0) = .int s.gen := rfl
theorem rgetD1 (s : RS) : (RS.row s).getD 1 (.int 0) = .bool s.used := rfl
theorem rgetD2 (s : RS) : (RS.row s).getD 2 (.int 0) = .int s.x := rfl
theorem rgen_of {L : List RS} {i : Nat} {s : RS} (h : L[i]? = some s) : rgenAt L i = s.gen := by unfold rgenAt; rw [h]; rfl
theorem rx_of {L : List RS} {i : Nat} {s : RS} (h : L[i]? = some s) : rxAt L i = s.x := by unfold rxAt; rw [h]; rfl
theorem rvalid_some {R : Rf} {i g : Int} {s : RS} (h : R.L[i.toNat]? = some s) : R.valid i g = (s.used && decide (s.gen = g)) := by unfold Rf.valid; rw [h]
theorem rvalid_none {R : Rf} {i g : Int} (h : R.L[i.toNat]? = none) : R.valid i g = false := by unfold Rf.valid; rw [h]

/-- The first of the free ones. -/
theorem first_free (i : Nat) (F : List Nat) : (Sx.cellAt ((i :: F).map irow) 0 0).toInt = i := rfl

theorem vcRtake_ok : vcRtake := by
  unfold vcRtake Nd
  intro x0 x1 x2 hp
  obtain ⟨R, x, hR, e⟩ := hp
  simp only [Rf.dats, List.cons_append, List.nil_append, List.cons.injEq, Dat.int.injEq, Dat.lst.injEq, and_true] at e
  obtain ⟨rfl, rfl, rfl⟩ := e
  have hsz := hR.size
  have hfs := hR.fsize
  have hrel : ∀ e, e = (R.take x2).dats ++ [.int R.tidx, .int R.tgen] → rtakeRel [.lst (R.L.map RS.row), .lst (R.F.map irow), .int x2] e := by
    refine fun e he => ⟨fun Q y hQ hd => ?_⟩
    have hd' : R.dats ++ [Dat.int x2] = Q.dats ++ [Dat.int y] := hd
    obtain ⟨h1, h2⟩ := app_inj hd' rfl
    simp only [List.cons.injEq, Dat.int.injEq, and_true] at h2
    rw [← Rf.inj h1, ← h2, he]
  simp only [List.length_map]
  cases hF : R.F with
  | nil =>
    rw [hF] at hrel
    simp only [List.map_nil, List.length_nil] at hrel ⊢
    have fin : rtakeRel [.lst (R.L.map RS.row), .lst [], .int x2] [.lst (Sx.setAt (Sx.setAt (R.L.map RS.row ++ Sx.chunk 3 1 [.int 1, .bool false, .int 0]) R.L.length 1 (.bool true)) R.L.length 2 (.int x2)), .lst [], .int (IntKind.wrap .u32 R.L.length),
        .int (Sx.cellAt (R.L.map RS.row ++ Sx.chunk 3 1 [.int 1, .bool false, .int 0]) R.L.length 0).toInt] := by
      refine hrel _ ?_
      have e1 : R.L.map RS.row ++ Sx.chunk 3 1 [.int 1, .bool false, .int 0] = (R.L ++ [(⟨1, false, 0⟩ : RS)]).map RS.row := by rw [List.map_append]; rfl
      have e2 : (R.L ++ [(⟨1, false, 0⟩ : RS)])[(R.L.length : Int).toNat]? = some (⟨1, false, 0⟩ : RS) := by simp
      have e3 : (R.L.length : Int).toNat = R.L.length := by omega
      rw [e1, cellAt_map e2, wrapU32 (by omega) (by omega), setAt_map (fun s => { s with used := true }) (fun _ => rfl), setAt_map (fun s => { s with x := x2 }) (fun _ => rfl), modify_modify', e3, modify_app]
      have t1 : R.tidx = R.L.length := by unfold Rf.tidx; rw [hF]
      have t2 : R.take x2 = ⟨R.L ++ [⟨1, true, x2⟩], []⟩ := by unfold Rf.take; rw [hF]
      have t3 : R.tgen = 1 := by unfold Rf.tgen rgenAt; rw [t1]; simp
      rw [t1, t2, t3]; rfl
    repeat' first | exact fin | (refine And.intro ?_ (fun _ => ?_)) | intro _ | exact trivial
    all_goals omega
  | cons i F =>
    rw [hF] at hrel
    rw [hF] at hfs
    simp only [List.length_cons] at hfs
    have hi := hR.free i (by rw [hF]; simp)
    have h1 : R.L[i]? = some (R.L[i]'hi) := List.getElem?_eq_getElem hi
    generalize hs : (R.L[i]'hi) = s at h1
    simp only [first_free, List.length_cons, List.length_map]
    have e1 : R.L[(i : Int).toNat]? = some s := h1
    have e3 : (i : Int).toNat = i := by omega
    have t1 : R.tidx = i := by unfold Rf.tidx; rw [hF]
    have t2 : R.take x2 = ⟨R.L.modify i (fun s => { s with used := true, x := x2 }), F⟩ := by unfold Rf.take; rw [hF]
    have t3 : R.tgen = s.gen := by unfold Rf.tgen; rw [t1, rgen_of h1]
    have key : ∀ l, l = F.map irow → rtakeRel [.lst (R.L.map RS.row), .lst ((i :: F).map irow), .int x2] [.lst (Sx.setAt (Sx.setAt (R.L.map RS.row) i 1 (.bool true)) i 2 (.int x2)), .lst l, .int (IntKind.wrap .u32 i), .int (Sx.cellAt (R.L.map RS.row) i 0).toInt] := by
      intro l hl
      refine hrel _ ?_
      rw [hl, cellAt_map e1, wrapU32 (by omega) (by omega), setAt_map (fun s => { s with used := true }) (fun _ => rfl), setAt_map (fun s => { s with x := x2 }) (fun _ => rfl), modify_modify', e3, t1, t2, t3]
      rfl
    have e4 : (((F.length + 1 : Nat) : Int) + -1) = F.length := by omega
    have fin1 := key (Sx.part ((i :: F).map irow) 1 (F.length : Int)) part_tail
    have fin2 : ¬ (1 : Int) < ((F.length + 1 : Nat) : Int) → rtakeRel [.lst (R.L.map RS.row), .lst ((i :: F).map irow), .int x2] [.lst (Sx.setAt (Sx.setAt (R.L.map RS.row) i 1 (.bool true)) i 2 (.int x2)), .lst [], .int (IntKind.wrap .u32 i), .int (Sx.cellAt (R.L.map RS.row) i 0).toInt] := fun h =>
      key [] (by have : F = [] := List.eq_nil_of_length_eq_zero (by omega); rw [this]; rfl)
    rw [e4]
    repeat' first | exact fin1 | exact fin2 (by omega) | (refine And.intro ?_ (fun _ => ?_)) | intro _ | exact trivial
    all_goals omega

theorem vcRvalid_ok : vcRvalid := by
  unfold vcRvalid Nd
  intro x0 x1 x2 x3 hp
  obtain ⟨R, i, g, hR, ⟨hi0, hi1⟩, ⟨hg0, hg1⟩, e⟩ := hp
  simp only [Rf.dats, List.cons_append, List.nil_append, List.cons.injEq, Dat.int.injEq, Dat.lst.injEq, and_true] at e
  obtain ⟨rfl, rfl, rfl, rfl⟩ := e
  have hsz := hR.size
  have hrel : ∀ b, R.valid x2 x3 = b → rvalidRel [.lst (R.L.map RS.row), .lst (R.F.map irow), .int x2, .int x3] [.bool b] := by
    refine fun b hb => ⟨fun Q i g hQ hd => ?_⟩
    have hd' : R.dats ++ [Dat.int x2, Dat.int x3] = Q.dats ++ [Dat.int i, Dat.int g] := hd
    obtain ⟨h1, h2⟩ := app_inj hd' rfl
    simp only [List.cons.injEq, Dat.int.injEq, and_true] at h2
    rw [← Rf.inj h1, ← h2.1, ← h2.2, hb]
  refine ⟨⟨R, x2, x3, 0, hR, rfl, rfl, by omega, by omega, fun h => by omega⟩, fun _ => ?_⟩
  rintro k ⟨Q, i, g, k', hQ, hg, hk, hk0, hk1, hkv⟩
  have hd' : R.dats ++ [Dat.int x2, Dat.int x3] = Q.dats ++ [Dat.int i, Dat.int g] := hg
  obtain ⟨h1, h2⟩ := app_inj hd' rfl
  simp only [List.cons.injEq, Dat.int.injEq, and_true] at h2 hk
  have := Rf.inj h1
  subst this
  obtain ⟨rfl, rfl⟩ := h2
  subst hk
  simp only [List.length_map, Int.lt_irrefl, not_false_eq_true, true_and, true_implies, forall_const, need_known, need_twice, implies_true, and_true]
  by_cases hkl : k < (R.L.length : Int)
  · have hkn : k.toNat < R.L.length := by omega
    have hs : R.L[k.toNat]? = some (R.L[k.toNat]'hkn) := List.getElem?_eq_getElem hkn
    generalize (R.L[k.toNat]'hkn) = s at hs
    simp only [cellAt_map hs, rgetD0, rgetD1, toInt_int, toBool_bool]
    rw [wrapU32 (n := k) (by omega) (by omega)]
    have inv : (k = x2 → R.valid x2 x3 = false) → rvalidLInv [.lst (R.L.map RS.row), .lst (R.F.map irow), .int x2, .int x3] [.int (k + 1)] := fun h => ⟨R, x2, x3, k + 1, hR, rfl, rfl, by omega, by omega, fun h2 => by
      by_cases e : x2 = k
      · exact h e.symm
      · exact hkv (by omega)⟩
    have mu : rvalidLMu [.lst (R.L.map RS.row), .lst (R.F.map irow), .int x2, .int x3] [.int (k + 1)] < rvalidLMu [.lst (R.L.map RS.row), .lst (R.F.map irow), .int x2, .int x3] [.int k] := by
      show (((R.L.map RS.row).length : Int) - (k + 1)).toNat < (((R.L.map RS.row).length : Int) - k).toNat
      rw [List.length_map]; omega
    have hv : k = x2 → R.valid x2 x3 = (s.used && decide (s.gen = x3)) := fun h => by subst h; exact rvalid_some hs
    have t1 : k = x2 → s.used = true → s.gen = x3 → rvalidRel [.lst (R.L.map RS.row), .lst (R.F.map irow), .int x2, .int x3] [.bool true] := fun h1 h2 h3 => hrel true (by rw [hv h1, h2]; simp [h3])
    have i1 : ¬ k = x2 → rvalidLInv [.lst (R.L.map RS.row), .lst (R.F.map irow), .int x2, .int x3] [.int (k + 1)] := fun h => inv fun h2 => absurd h2 h
    have i2 : ¬ s.used = true → rvalidLInv [.lst (R.L.map RS.row), .lst (R.F.map irow), .int x2, .int x3] [.int (k + 1)] := fun h => inv fun h2 => by rw [hv h2]; simp [h]
    have i3 : ¬ s.gen = x3 → rvalidLInv [.lst (R.L.map RS.row), .lst (R.F.map irow), .int x2, .int x3] [.int (k + 1)] := fun h => inv fun h2 => by rw [hv h2]; simp [h]
    repeat' first | assumption | exact t1 (by assumption) (by assumption) (by assumption) | exact i1 (by assumption) | exact i2 (by assumption) | exact i3 (by assumption) | (refine And.intro ?_ (fun _ => ?_)) | intro _
    all_goals omega
  · have fin : rvalidRel [.lst (R.L.map RS.row), .lst (R.F.map irow), .int x2, .int x3] [.bool false] := by
      refine hrel false ?_
      by_cases h : x2 < (R.L.length : Int)
      · exact hkv (by omega)
      · exact rvalid_none (List.getElem?_eq_none (by omega))
    repeat' first | exact fin | (refine And.intro ?_ (fun _ => ?_)) | intro _
    all_goals omega

theorem rvalid_all {R : Rf} {i g : Int} (hR : R.Ok) {G : Bool → Prop} (h : G (R.valid i g)) : ∀ b, rvalidRel [.lst (R.L.map RS.row), .lst (R.F.map irow), .int i, .int g] [.bool b] → G b := by
  intro b hr
  have := hr.of R i g hR rfl
  simp only [List.cons.injEq, Dat.bool.injEq, and_true] at this
  rw [this]; exact h

theorem free_push (R : Rf) (i : Int) (hi : 0 ≤ i) : Sx.chunk 1 1 [.int i] ++ R.F.map irow = (i.toNat :: R.F).map irow := by
  show [[Dat.int i]] ++ _ = _
  rw [List.map_cons, show irow i.toNat = [Dat.int i] by unfold irow; rw [show (i.toNat : Int) = i by omega]]; rfl
theorem free_push2 (R : Rf) (i : Int) (hi : 0 ≤ i) : Sx.part (Sx.over (Sx.chunk 1 1 [.int i]) 1 (R.F.map irow)) 0 ((R.F.length : Int) + 1) = (i.toNat :: R.F).map irow := by
  have := over_one (r := [Dat.int i]) (l := R.F.map irow)
  rw [List.length_map] at this
  rw [show Sx.chunk 1 1 [.int i] = [[Dat.int i]] from rfl, this, List.map_cons, show irow i.toNat = [Dat.int i] by unfold irow; rw [show (i.toNat : Int) = i by omega]]

theorem over_len (R : Rf) (i : Int) : (Sx.over (Sx.chunk 1 1 [.int i]) 1 (R.F.map irow)).length = R.F.length + 1 := by
  unfold Sx.over Sx.chunk
  simp [Sx.chunk]

theorem vcRfree_ok : vcRfree := by
  unfold vcRfree Nd
  intro x0 x1 x2 x3 hp
  obtain ⟨R, i, g, hR, ⟨hi0, hi1⟩, ⟨hg0, hg1⟩, e⟩ := hp
  simp only [Rf.dats, List.cons_append, List.nil_append, List.cons.injEq, Dat.int.injEq, Dat.lst.injEq, and_true] at e
  obtain ⟨rfl, rfl, rfl, rfl⟩ := e
  have hsz := hR.size
  have hfs := hR.fsize
  have hrel : ∀ e, e = (if R.valid x2 x3 then (R.free x2).dats ++ [.int (rxAt R.L x2.toNat), .int 0] else R.dats ++ [.int 0, .int 11]) → rfreeRel [.lst (R.L.map RS.row), .lst (R.F.map irow), .int x2, .int x3] e := by
    refine fun e he => ⟨fun Q i g hQ hd => ?_⟩
    have hd' : R.dats ++ [Dat.int x2, Dat.int x3] = Q.dats ++ [Dat.int i, Dat.int g] := hd
    obtain ⟨h1, h2⟩ := app_inj hd' rfl
    simp only [List.cons.injEq, Dat.int.injEq, and_true] at h2
    rw [← Rf.inj h1, ← h2.1, ← h2.2, he]
  refine ⟨⟨R, x2, x3, hR, ⟨hi0, hi1⟩, ⟨hg0, hg1⟩, rfl⟩, fun _ => rvalid_all hR ?_⟩
  simp only [List.length_map, Int.lt_irrefl, not_false_eq_true, true_and, true_implies, forall_const, need_known, need_twice, implies_true, and_true, free_push R x2 hi0, free_push2 R x2 hi0]
  cases hv : R.valid x2 x3 with
  | false =>
    have f0 : rfreeRel [.lst (R.L.map RS.row), .lst (R.F.map irow), .int x2, .int x3] [.lst (R.L.map RS.row), .lst (R.F.map irow), .int 0, .int 11] := hrel _ (by rw [hv]; rfl)
    simp only [Bool.false_eq_true, not_false_eq_true, true_implies, false_implies, true_and]
    repeat' first | exact f0 | (refine And.intro ?_ (fun _ => ?_)) | intro _
    all_goals omega
  | true =>
    have hs : ∃ s, R.L[x2.toNat]? = some s ∧ s.used = true ∧ s.gen = x3 := by
      cases hs : R.L[x2.toNat]? with
      | none => rw [rvalid_none hs] at hv; cases hv
      | some s =>
        rw [rvalid_some hs, Bool.and_eq_true, decide_eq_true_eq] at hv
        exact ⟨s, rfl, hv⟩
    obtain ⟨s, hs, hu, hg⟩ := hs
    have hl := (List.getElem?_eq_some_iff.1 hs).1
    have hgen := hR.gen s (List.mem_of_getElem? hs)
    have f1 : rfreeRel [.lst (R.L.map RS.row), .lst (R.F.map irow), .int x2, .int x3] [.lst (Sx.setAt (Sx.setAt (Sx.setAt (R.L.map RS.row) x2 1 (.bool false)) x2 2 (.int 0)) x2 0 (.int (IntKind.wrap .u32 (x3 + 1)))), .lst ((x2.toNat :: R.F).map irow), .int (Sx.cellAt (R.L.map RS.row) x2 2).toInt, .int 0] := by
      refine hrel _ ?_
      rw [hv, if_pos rfl, cellAt_map hs, rgetD2, rx_of hs, wrapU32 (by omega) (by omega), setAt_map (fun s => { s with used := false }) (fun _ => rfl), setAt_map (fun s => { s with x := 0 }) (fun _ => rfl), setAt_map (fun t => { t with gen := x3 + 1 }) (fun _ => rfl), modify_modify', modify_modify']
      have t1 : R.L.modify x2.toNat (fun t => ⟨x3 + 1, false, 0⟩) = R.L.modify x2.toNat (fun s => ⟨s.gen + 1, false, 0⟩) := by
        apply List.ext_getElem?
        intro k
        rw [List.getElem?_modify, List.getElem?_modify]
        by_cases hk : x2.toNat = k
        · subst hk; rw [hs, ← hg]; rfl
        · simp only [hk, if_false]
      show _ = [Dat.lst ((R.L.modify x2.toNat (fun s => ⟨s.gen + 1, false, 0⟩)).map RS.row), Dat.lst ((x2.toNat :: R.F).map irow), Dat.int s.x, Dat.int 0]
      rw [← t1]; rfl
    have hov := over_len R x2
    simp only [not_true, true_implies, false_implies, and_true]
    repeat' first | exact f1 | (refine And.intro ?_ (fun _ => ?_)) | intro _
    all_goals omega

theorem vcRuntake_ok : vcRuntake := by
  unfold vcRuntake Nd
  intro x0 x1 x2 x3 hp
  obtain ⟨R, i, g, hR, ⟨hi0, hi1⟩, ⟨hg0, hg1⟩, e⟩ := hp
  simp only [Rf.dats, List.cons_append, List.nil_append, List.cons.injEq, Dat.int.injEq, Dat.lst.injEq, and_true] at e
  obtain ⟨rfl, rfl, rfl, rfl⟩ := e
  have hsz := hR.size
  have hfs := hR.fsize
  have hov := over_len R x2
  have hrel : ∀ e, e = (R.untake x2 x3).1.dats ++ [.int (R.untake x2 x3).2] → runtakeRel [.lst (R.L.map RS.row), .lst (R.F.map irow), .int x2, .int x3] e := by
    refine fun e he => ⟨fun Q i g hQ hd => ?_⟩
    have hd' : R.dats ++ [Dat.int x2, Dat.int x3] = Q.dats ++ [Dat.int i, Dat.int g] := hd
    obtain ⟨h1, h2⟩ := app_inj hd' rfl
    simp only [List.cons.injEq, Dat.int.injEq, and_true] at h2
    rw [← Rf.inj h1, ← h2.1, ← h2.2, he]
  refine ⟨⟨R, x2, x3, hR, ⟨hi0, hi1⟩, ⟨hg0, hg1⟩, rfl⟩, fun _ => rvalid_all hR ?_⟩
  simp only [List.length_map, Int.lt_irrefl, not_false_eq_true, true_and, true_implies, forall_const, need_known, need_twice, implies_true, and_true, free_push R x2 hi0, free_push2 R x2 hi0]
  cases hv : R.valid x2 x3 with
  | false =>
    have f0 : runtakeRel [.lst (R.L.map RS.row), .lst (R.F.map irow), .int x2, .int x3] [.lst (R.L.map RS.row), .lst (R.F.map irow), .int 11] := hrel _ (by unfold Rf.untake; rw [if_pos hv]; rfl)
    simp only [Bool.false_eq_true, not_false_eq_true, true_implies, false_implies, true_and]
    repeat' first | exact f0 | (refine And.intro ?_ (fun _ => ?_)) | intro _
    all_goals omega
  | true =>
    have hn : R.valid x2 x3 ≠ false := by rw [hv]; simp
    have hs : ∃ s, R.L[x2.toNat]? = some s := by
      cases hs : R.L[x2.toNat]? with
      | none => rw [rvalid_none hs] at hv; cases hv
      | some s => exact ⟨s, rfl⟩
    obtain ⟨s, hs⟩ := hs
    have hl := (List.getElem?_eq_some_iff.1 hs).1
    have f1 : x3 = 1 → x2 < (R.L.length : Int) + -1 → runtakeRel [.lst (R.L.map RS.row), .lst (R.F.map irow), .int x2, .int x3] [.lst (R.L.map RS.row), .lst (R.F.map irow), .int 10] := fun h1 h2 => hrel _ (by unfold Rf.untake; rw [if_neg hn, if_pos ⟨h1, by omega⟩]; rfl)
    have f2 : x3 = 1 → ¬ x2 < (R.L.length : Int) + -1 → runtakeRel [.lst (R.L.map RS.row), .lst (R.F.map irow), .int x2, .int x3] [.lst (Sx.part (R.L.map RS.row) 0 x2), .lst (R.F.map irow), .int 0] := fun h1 h2 => hrel _ (by unfold Rf.untake; rw [if_neg hn, if_neg (by omega), if_pos h1, part_take]; rfl)
    have f3 : ¬ x3 = 1 → runtakeRel [.lst (R.L.map RS.row), .lst (R.F.map irow), .int x2, .int x3] [.lst (Sx.setAt (Sx.setAt (R.L.map RS.row) x2 1 (.bool false)) x2 2 (.int 0)), .lst ((x2.toNat :: R.F).map irow), .int 0] := by
      intro h1
      refine hrel _ ?_
      unfold Rf.untake
      rw [if_neg hn, if_neg (by omega), if_neg h1, setAt_map (fun s => { s with used := false }) (fun _ => rfl), setAt_map (fun s => { s with x := 0 }) (fun _ => rfl), modify_modify']
      rfl
    simp only [not_true, true_implies, false_implies, and_true]
    repeat' first | exact f1 (by omega) (by omega) | exact f2 (by omega) (by omega) | exact f3 (by omega) | (refine And.intro ?_ (fun _ => ?_)) | intro _
    all_goals omega

theorem vcRunfree_ok : vcRunfree := by
  unfold vcRunfree Nd
  intro x0 x1 x2 x3 x4 hp
  obtain ⟨R, i, g, x, hR, ⟨hi0, hi1⟩, ⟨hg0, hg1⟩, e⟩ := hp
  simp only [Rf.dats, List.cons_append, List.nil_append, List.cons.injEq, Dat.int.injEq, Dat.lst.injEq, and_true] at e
  obtain ⟨rfl, rfl, rfl, rfl, rfl⟩ := e
  have hsz := hR.size
  have hfs := hR.fsize
  have hrel : ∀ e, e = (R.unfree x2 x3 x4).1.dats ++ [.int (R.unfree x2 x3 x4).2] → runfreeRel [.lst (R.L.map RS.row), .lst (R.F.map irow), .int x2, .int x3, .int x4] e := by
    refine fun e he => ⟨fun Q i g x hQ hd => ?_⟩
    have hd' : R.dats ++ [Dat.int x2, Dat.int x3, Dat.int x4] = Q.dats ++ [Dat.int i, Dat.int g, Dat.int x] := hd
    obtain ⟨h1, h2⟩ := app_inj hd' rfl
    simp only [List.cons.injEq, Dat.int.injEq, and_true] at h2
    rw [← Rf.inj h1, ← h2.1, ← h2.2.1, ← h2.2.2, he]
  simp only [List.length_map, Int.lt_irrefl, not_false_eq_true, true_and, true_implies, forall_const, need_known, need_twice, implies_true, and_true]
  cases hF : R.F with
  | nil =>
    rw [hF] at hrel
    have f0 : runfreeRel [.lst (R.L.map RS.row), .lst (([] : List Nat).map irow), .int x2, .int x3, .int x4] [.lst (R.L.map RS.row), .lst (([] : List Nat).map irow), .int 10] := hrel _ (by
      have un : R.unfree x2 x3 x4 = (R, 10) := by unfold Rf.unfree; rw [hF]
      rw [un]; show _ = R.dats ++ [Dat.int 10]; unfold Rf.dats; rw [hF]; rfl)
    rw [hF] at hfs
    simp only [List.length_nil] at hfs ⊢
    repeat' first | exact f0 | (refine And.intro ?_ (fun _ => ?_)) | intro _
    all_goals omega
  | cons j F =>
    have hj := hR.free j (by rw [hF]; simp)
    have h1 : R.L[j]? = some (R.L[j]'hj) := List.getElem?_eq_getElem hj
    generalize (R.L[j]'hj) = s at h1
    have e1 : R.L[(j : Int).toNat]? = some s := h1
    have hgen := hR.gen s (List.mem_of_getElem? h1)
    rw [hF] at hrel hfs
    simp only [List.length_cons] at hfs
    simp only [first_free, List.length_cons, cellAt_map e1, rgetD0, toInt_int]
    rw [wrapU32 (n := (j : Int)) (by omega) (by omega), wrapU32 (n := s.gen + -1) (by omega) (by omega), show (((F.length + 1 : Nat) : Int) + -1) = F.length by omega, part_tail]
    have un : R.unfree x2 x3 x4 = if (j : Int) = x2 ∧ x3 ≠ 0 ∧ s.gen - 1 = x3 then (⟨R.L.modify j (fun _ => ⟨x3, true, x4⟩), F⟩, 0) else (R, 10) := by unfold Rf.unfree; rw [hF]; simp only [rgen_of h1]
    have bad : ¬ ((j : Int) = x2 ∧ x3 ≠ 0 ∧ s.gen - 1 = x3) → runfreeRel [.lst (R.L.map RS.row), .lst ((j :: F).map irow), .int x2, .int x3, .int x4] [.lst (R.L.map RS.row), .lst ((j :: F).map irow), .int 10] := fun h => hrel _ (by rw [un, if_neg h]; show _ = R.dats ++ [Dat.int 10]; unfold Rf.dats; rw [hF]; rfl)
    have good : ∀ l, l = F.map irow → (j : Int) = x2 → ¬ x3 = 0 → s.gen + -1 = x3 → runfreeRel [.lst (R.L.map RS.row), .lst ((j :: F).map irow), .int x2, .int x3, .int x4] [.lst (Sx.setAt (Sx.setAt (Sx.setAt (R.L.map RS.row) j 0 (.int x3)) j 1 (.bool true)) j 2 (.int x4)), .lst l, .int 0] := by
      intro l hl h2 h3 h4
      refine hrel _ ?_
      rw [hl, un, if_pos ⟨h2, h3, by omega⟩, setAt_map (fun s => { s with gen := x3 }) (fun _ => rfl), setAt_map (fun s => { s with used := true }) (fun _ => rfl), setAt_map (fun s => { s with x := x4 }) (fun _ => rfl), modify_modify', modify_modify']
      rfl
    have good2 : ¬ (1 : Int) < ((F.length + 1 : Nat) : Int) → (j : Int) = x2 → ¬ x3 = 0 → s.gen + -1 = x3 → runfreeRel [.lst (R.L.map RS.row), .lst ((j :: F).map irow), .int x2, .int x3, .int x4] [.lst (Sx.setAt (Sx.setAt (Sx.setAt (R.L.map RS.row) j 0 (.int x3)) j 1 (.bool true)) j 2 (.int x4)), .lst [], .int 0] := fun h =>
      good [] (by have : F = [] := List.eq_nil_of_length_eq_zero (by omega); rw [this]; rfl)
    repeat' first | exact bad (by omega) | exact good _ rfl (by omega) (by omega) (by omega) | exact good2 (by omega) (by omega) (by omega) (by omega) | (refine And.intro ?_ (fun _ => ?_)) | intro _
    all_goals omega

theorem vcPick_ok : vcPick := by
  unfold vcPick Nd
  intro x0 x1 x2 x3 hp
  obtain ⟨o, H, ho, hH, e⟩ := hp
  simp only [Op.row, List.cons_append, List.nil_append, List.cons.injEq, Dat.int.injEq, Dat.lst.injEq, and_true] at e
  obtain ⟨rfl, rfl, rfl, rfl⟩ := e
  have hw := ho.w
  have hHl := hH.1
  have hrel : ∀ h, h = pickH o H → pickRel [.int o.kind, .int o.which, .int o.x, .lst (H.map hr)] (hr h) := by
    refine fun h hh => ⟨fun p K hp hK hd => ?_⟩
    have hd' : o.row ++ [Dat.lst (H.map hr)] = p.row ++ [Dat.lst (K.map hr)] := hd
    obtain ⟨h1, h2⟩ := app_inj hd' rfl
    simp only [List.cons.injEq, Dat.lst.injEq, and_true] at h2
    rw [← opair_inj o p h1, ← map_inj' hr_inj h2, hh]
  simp only [List.length_map, Int.lt_irrefl, not_false_eq_true, true_and, true_implies, forall_const, need_known, need_twice, implies_true, and_true]
  by_cases hz : (H.length : Int) = 0
  · have f0 : pickRel [.int o.kind, .int o.which, .int o.x, .lst (H.map hr)] [.int 0, .int 0] := hrel (0, 0) (by
      have : H = [] := List.eq_nil_of_length_eq_zero (by omega)
      unfold pickH; rw [this]; simp)
    repeat' first | exact f0 | (refine And.intro ?_ (fun _ => ?_)) | intro _
    all_goals omega
  · have htm := tmod_range hw.1 (show (0 : Int) < H.length by omega)
    obtain ⟨p, hp1, hp2⟩ := hd_get htm.1 htm.2
    obtain ⟨hu1, hu2⟩ := hH.2 p hp2
    simp only [cellAt_map hp1, hgetD0, hgetD1, toInt_int, wrap_inc hu1, wrap_inc hu2, wrap_dec hu2]
    have pk : pickH o H = if o.which = 251 then (p.1, inc32 p.2) else if o.which = 252 then (p.1, dec32 p.2) else if o.which = 253 then (inc32 p.1, p.2) else if o.which = 254 then (0, 0) else if o.which = 255 then (4294967295, 4294967295) else p := by unfold pickH; rw [hp1]
    have g1 : o.which = 251 → pickRel [.int o.kind, .int o.which, .int o.x, .lst (H.map hr)] [.int p.1, .int (inc32 p.2)] := fun h => hrel (p.1, inc32 p.2) (by rw [pk, if_pos h])
    have g2 : o.which = 252 → pickRel [.int o.kind, .int o.which, .int o.x, .lst (H.map hr)] [.int p.1, .int (dec32 p.2)] := fun h => hrel (p.1, dec32 p.2) (by rw [pk, if_neg (by omega), if_pos h])
    have g3 : o.which = 253 → pickRel [.int o.kind, .int o.which, .int o.x, .lst (H.map hr)] [.int (inc32 p.1), .int p.2] := fun h => hrel (inc32 p.1, p.2) (by rw [pk, if_neg (by omega), if_neg (by omega), if_pos h])
    have g4 : o.which = 254 → pickRel [.int o.kind, .int o.which, .int o.x, .lst (H.map hr)] [.int 0, .int 0] := fun h => hrel (0, 0) (by rw [pk, if_neg (by omega), if_neg (by omega), if_neg (by omega), if_pos h])
    have g5 : o.which = 255 → pickRel [.int o.kind, .int o.which, .int o.x, .lst (H.map hr)] [.int 4294967295, .int 4294967295] := fun h => hrel (4294967295, 4294967295) (by rw [pk, if_neg (by omega), if_neg (by omega), if_neg (by omega), if_neg (by omega), if_pos h])
    have g6 : ¬ o.which = 251 → ¬ o.which = 252 → ¬ o.which = 253 → ¬ o.which = 254 → ¬ o.which = 255 → pickRel [.int o.kind, .int o.which, .int o.x, .lst (H.map hr)] [.int p.1, .int p.2] := fun h1 h2 h3 h4 h5 => hrel p (by rw [pk, if_neg h1, if_neg h2, if_neg h3, if_neg h4, if_neg h5])
    repeat' first | exact g1 (by assumption) | exact g2 (by assumption) | exact g3 (by assumption) | exact g4 (by assumption) | exact g5 (by assumption) | exact g6 (by assumption) (by assumption) (by assumption) (by assumption) (by assumption) | (refine And.intro ?_ (fun _ => ?_)) | intro _
    all_goals omega

end Go.C15
