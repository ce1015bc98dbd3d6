/- Chapter 15, the last three of the arena's functions: the conditions of their contracts hold.
  Conditions: none. -/
import Derived.Test.YtdhbegidnfapjaaB4
set_option linter.unusedVariables false
set_option linter.unusedSimpArgs false
namespace Go.C15
open Go Go.Xe Go.Sx

theorem usedH_app (s : Slot) : ∀ (T : List Slot) (i : Nat), usedH i (T ++ [s]) = usedH i T ++ (if s.used then [(((i + T.length : Nat) : Int), s.gen)] else [])
  | [], i => by
    simp only [List.nil_append, usedH, List.length_nil, Nat.add_zero]
  | t :: T, i => by
    simp only [List.cons_append, usedH, usedH_app s T (i + 1), List.length_cons]
    rw [show i + 1 + T.length = i + (T.length + 1) by omega]
    cases t.used <;> rfl

theorem usedH_len : ∀ (T : List Slot) (i : Nat), (usedH i T).length = live T
  | [], _ => rfl
  | t :: T, i => by
    have := usedH_len T (i + 1)
    cases hu : t.used
    · simp only [usedH, hu, live, List.filter_cons] at this ⊢; exact this
    · simp only [usedH, hu, live, List.filter_cons, if_true, List.length_cons] at this ⊢; rw [this]

theorem take_succ' {T : List Slot} {k : Nat} {s : Slot} (h : T[k]? = some s) : T.take (k + 1) = T.take k ++ [s] := by
  rw [List.take_add_one, h]; rfl

theorem live_takeN (T : List Slot) (k : Nat) : live (T.take k) ≤ live T := by
  unfold live
  exact ((List.take_sublist k T).filter _).length_le

theorem over_end {L r : Sx.Rows} {n m : Int} (h : n = (L.length : Int)) (hm : m = (L.length : Int) + r.length) : Sx.part (Sx.over L n r) 0 m = L ++ r := by
  subst h
  have : Sx.over L (L.length : Int) r = L ++ r := by
    unfold Sx.over
    simp
  rw [this]
  exact part_all (by simp; omega)

theorem over_end_len {L r : Sx.Rows} {n : Int} (h : n = (L.length : Int)) : (Sx.over L n r).length = L.length + r.length := by
  subst h
  unfold Sx.over
  simp

theorem vcAhandles_ok : vcAhandles := by
  unfold vcAhandles Nd
  intro x0 x1 x2 hp
  obtain ⟨A, hA, e⟩ := hp
  simp only [Ar.dats, List.cons.injEq, Dat.int.injEq, Dat.lst.injEq, and_true] at e
  obtain ⟨rfl, rfl, rfl⟩ := e
  have hsz := hA.size
  have hlv := live_le A.T
  have hrel : ∀ L, L = A.handles.map hr → ahandlesRel [.lst (A.T.map Slot.row), .int (linkOf A.c), .int (live A.T)] [.lst L, .lst (A.T.map Slot.row), .int (linkOf A.c), .int (live A.T)] := by
    refine fun L hL => ⟨fun B hB hd => ?_⟩
    have h : A.dats = B.dats := hd
    rw [← Ar.inj hA hB h, hL]; rfl
  have st : ahandlesLInv [.lst (A.T.map Slot.row), .int (linkOf A.c), .int (live A.T)] [.lst (Sx.part (List.replicate ((live A.T : Int)).toNat [(.int (0)), (.int (0))] : Sx.Rows) 0 0), .int 0] :=
    ⟨A, 0, hA, rfl, by omega, by rw [List.take_zero]; unfold Sx.part; simp [usedH]⟩
  refine And.intro (by omega) fun _ => And.intro (by omega) fun _ => And.intro (by omega) fun _ => And.intro rfl fun _ => And.intro (by omega) fun _ => And.intro st fun _ => ?_
  rintro x3 x4 ⟨B, k, hB, hg, hk, e⟩
  obtain rfl := Ar.inj hA hB hg
  simp only [List.cons.injEq, Dat.int.injEq, Dat.lst.injEq, and_true] at e
  obtain ⟨rfl, rfl⟩ := e
  have hlen := usedH_len (A.T.take k) 0
  have hlt := live_takeN A.T k
  simp only [List.length_map, Int.lt_irrefl, not_false_eq_true, true_and, true_implies, forall_const, need_known, need_twice, implies_true, and_true]
  by_cases hkl : k < A.T.length
  · have hs : A.T[k]? = some (A.T[k]'hkl) := List.getElem?_eq_getElem hkl
    generalize (A.T[k]'hkl) = s at hs
    have hs' : A.T[(k : Int).toNat]? = some s := hs
    have ht := take_succ' hs
    have hua := usedH_app s (A.T.take k) 0
    have hkk : (A.T.take k).length = k := by rw [List.length_take]; omega
    rw [← ht, hkk] at hua
    have hl1 := usedH_len (A.T.take (k + 1)) 0
    have hl2 := live_takeN A.T (k + 1)
    simp only [cellAt_map hs', getD0, getD1, toInt_int, toBool_bool]
    rw [wrapU32 (n := (k : Int)) (by omega) (by omega)]
    have mu : ∀ l l', ahandlesLMu [.lst (A.T.map Slot.row), .int (linkOf A.c), .int (live A.T)] [l, .int ((k : Int) + 1)] < ahandlesLMu [.lst (A.T.map Slot.row), .int (linkOf A.c), .int (live A.T)] [l', .int k] := by
      intro l l'
      show (((A.T.map Slot.row).length : Int) - ((k : Int) + 1)).toNat < (((A.T.map Slot.row).length : Int) - k).toNat
      rw [List.length_map]; omega
    have inv : ∀ l, l = (usedH 0 (A.T.take (k + 1))).map hr → ahandlesLInv [.lst (A.T.map Slot.row), .int (linkOf A.c), .int (live A.T)] [.lst l, .int ((k : Int) + 1)] := by
      intro l hl
      exact ⟨A, k + 1, hA, rfl, hkl, by rw [hl]; rfl⟩
    cases hu : s.used with
    | true =>
      rw [hu] at hua
      simp only [if_true, Nat.zero_add] at hua
      have hua' : (usedH 0 (A.T.take (k + 1))).length = (usedH 0 (A.T.take k)).length + 1 := by rw [hua]; simp
      have ho := over_end (L := (usedH 0 (A.T.take k)).map hr) (r := Sx.chunk 2 1 [Dat.int k, Dat.int s.gen]) (n := ((usedH 0 (A.T.take k)).length : Int)) (m := ((usedH 0 (A.T.take k)).length : Int) + 1) (by rw [List.length_map]) (by rw [List.length_map]; rfl)
      have hol := over_end_len (L := (usedH 0 (A.T.take k)).map hr) (r := Sx.chunk 2 1 [Dat.int k, Dat.int s.gen]) (n := ((usedH 0 (A.T.take k)).length : Int)) (by rw [List.length_map])
      have hol' : (Sx.over ((usedH 0 (A.T.take k)).map hr) ((usedH 0 (A.T.take k)).length : Int) (Sx.chunk 2 1 [Dat.int k, Dat.int s.gen])).length = (usedH 0 (A.T.take k)).length + 1 := by rw [hol, List.length_map]; rfl
      have i1 := inv _ (show (usedH 0 (A.T.take k)).map hr ++ Sx.chunk 2 1 [Dat.int k, Dat.int s.gen] = _ by rw [hua, List.map_append]; rfl)
      rw [ho]
      simp only [not_true, false_implies, and_true, true_implies]
      repeat' first | exact i1 | exact mu _ _ | (refine And.intro ?_ (fun _ => ?_)) | intro _
      all_goals omega
    | false =>
      rw [hu] at hua
      simp only [Bool.false_eq_true, if_false, List.append_nil] at hua
      have i2 := inv _ (show (usedH 0 (A.T.take k)).map hr = _ by rw [hua])
      simp only [Bool.false_eq_true, not_false_eq_true, false_implies, true_and, true_implies]
      repeat' first | exact i2 | exact mu _ _ | (refine And.intro ?_ (fun _ => ?_)) | intro _
      all_goals omega
  · have htk : A.T.take k = A.T := List.take_of_length_le (by omega)
    rw [htk] at hlen
    have fin := hrel ((usedH 0 (A.T.take k)).map hr) (by rw [htk]; rfl)
    rw [htk] at fin
    rw [htk]
    repeat' first | exact fin | (refine And.intro ?_ (fun _ => ?_)) | intro _
    all_goals omega

theorem vcAwait_ok : vcAwait := by
  unfold vcAwait Nd
  intro x0 x1 x2 hp
  obtain ⟨A, hA, e⟩ := hp
  simp only [Ar.dats, List.cons.injEq, Dat.int.injEq, Dat.lst.injEq, and_true] at e
  obtain ⟨rfl, rfl, rfl⟩ := e
  have hsz := hA.size
  have hcl := hA.clen
  have hrel : ∀ L, L = (freeH A).map hr → awaitRel [.lst (A.T.map Slot.row), .int (linkOf A.c), .int (live A.T)] [.lst L, .lst (A.T.map Slot.row), .int (linkOf A.c), .int (live A.T)] := by
    refine fun L hL => ⟨fun B hB hd => ?_⟩
    have h : A.dats = B.dats := hd
    rw [← Ar.inj hA hB h, hL]; rfl
  refine ⟨⟨A, [], A.c, hA, rfl, rfl, rfl⟩, fun _ x3 x4 hi => ?_⟩
  obtain ⟨B, pre, rest, hB, hc, hg, e⟩ := hi
  obtain rfl := Ar.inj hA hB hg
  simp only [List.cons.injEq, Dat.int.injEq, Dat.lst.injEq, and_true] at e
  obtain ⟨rfl, rfl⟩ := e
  have hplen : pre.length + rest.length ≤ A.T.length := by rw [hc, List.length_append] at hcl; exact hcl
  simp only [List.length_map]
  cases rest with
  | nil =>
    rw [List.append_nil] at hc
    have fin := hrel (pre.map fun i : Nat => hrow (i : Int) (genAt A.T i)) (by unfold freeH; rw [hc, List.map_map]; rfl)
    simp only [linkOf]
    repeat' first | exact fin | (refine And.intro ?_ (fun _ => ?_)) | intro _ | exact trivial
    all_goals omega
  | cons i rest =>
    have hch := hA.chain
    rw [hc] at hch
    obtain ⟨s, h1, h2, h3⟩ := Chain.at hch
    have hi := (List.getElem?_eq_some_iff.1 h1).1
    have e0 : ((i : Int) + 1 + -1) = i := by omega
    have e1 : A.T[(i : Int).toNat]? = some s := h1
    simp only [linkOf, e0, cellAt_map e1, getD0, getD2, toInt_int]
    have e2 : (pre.map fun i : Nat => hrow (i : Int) (genAt A.T i)) ++ chunk 2 1 [.int (IntKind.wrap .u32 i), .int s.gen] = (pre ++ [i]).map fun i : Nat => hrow (i : Int) (genAt A.T i) := by
      rw [List.map_append, wrapU32 (by omega) (by omega)]
      show _ = _ ++ [hrow (i : Int) (genAt A.T i)]
      rw [genAt_of h1]; rfl
    have inv' : awaitLInv [.lst (A.T.map Slot.row), .int (linkOf A.c), .int (live A.T)] [.lst ((pre.map fun i : Nat => hrow (i : Int) (genAt A.T i)) ++ chunk 2 1 [.int (IntKind.wrap .u32 i), .int s.gen]), .int s.next] :=
      ⟨A, pre ++ [i], rest, hA, by rw [hc]; simp, rfl, by rw [e2, h3]⟩
    have mu' : awaitLMu [.lst (A.T.map Slot.row), .int (linkOf A.c), .int (live A.T)] [.lst ((pre.map fun i : Nat => hrow (i : Int) (genAt A.T i)) ++ chunk 2 1 [.int (IntKind.wrap .u32 i), .int s.gen]), .int s.next] <
        awaitLMu [.lst (A.T.map Slot.row), .int (linkOf A.c), .int (live A.T)] [.lst (pre.map fun i : Nat => hrow (i : Int) (genAt A.T i)), .int ((i : Int) + 1)] := by
      rw [e2]
      simp only [awaitLMu, waitMu, List.length_map, List.length_append, List.length_cons, List.length_nil]
      simp only [List.length_cons] at hplen
      omega
    simp only [List.length_cons] at hplen
    repeat' first | exact inv' | exact mu' | (refine And.intro ?_ (fun _ => ?_)) | intro _ | exact trivial
    all_goals omega

theorem vcAunfree_ok : vcAunfree := by
  unfold vcAunfree vcAunfree1 vcAunfree0 Nd
  intro x0 x1 x2 x3 x4 x5 hp
  obtain ⟨A, i, g, x, hA, ⟨hi0, hi1⟩, ⟨hg0, hg1⟩, e⟩ := hp
  simp only [Ar.dats, List.cons.injEq, Dat.int.injEq, Dat.lst.injEq, and_true] at e
  obtain ⟨rfl, rfl, rfl, rfl, rfl, rfl⟩ := e
  have hsz := hA.size
  have hlv := live_le A.T
  have hrel : ∀ l, l = .int (A.unfree x0 x1 x2).2 :: (A.unfree x0 x1 x2).1.dats → aunfreeRel [.int x0, .int x1, .int x2, .lst (A.T.map Slot.row), .int (linkOf A.c), .int (live A.T)] l := by
    refine fun l hl => ⟨fun B i g x hB hd => ?_⟩
    have hd' : Dat.int x0 :: Dat.int x1 :: Dat.int x2 :: A.dats = Dat.int i :: Dat.int g :: Dat.int x :: B.dats := hd
    simp only [List.cons.injEq, Dat.int.injEq] at hd'
    obtain ⟨rfl, rfl, rfl, h⟩ := hd'
    rw [← Ar.inj hA hB h, hl]
  have bad : ¬ (linkOf A.c = x0 + 1 ∧ x1 ≠ 0 ∧ genAt A.T x0.toNat - 1 = x1) → aunfreeRel [.int x0, .int x1, .int x2, .lst (A.T.map Slot.row), .int (linkOf A.c), .int (live A.T)] [.int 10, .lst (A.T.map Slot.row), .int (linkOf A.c), .int (live A.T)] := by
    intro h
    refine hrel _ ?_
    have un : A.unfree x0 x1 x2 = (A, 10) := by
      unfold Ar.unfree
      cases hc : A.c with
      | nil => rfl
      | cons j c =>
        simp only
        rw [hc] at h
        simp only [linkOf] at h
        rw [if_neg (fun hh => h ⟨by omega, hh.2.1, by rw [show x0.toNat = j by omega]; exact hh.2.2⟩)]
    rw [un]; rfl
  simp only [List.length_map, Int.lt_irrefl, not_false_eq_true, true_and, true_implies, forall_const, need_known, need_twice, implies_true, and_true]
  cases hs : A.T[x0.toNat]? with
  | none =>
    have hl := List.getElem?_eq_none_iff.1 hs
    have f0 := bad (fun h => by
      cases hc : A.c with
      | nil => rw [hc] at h; simp only [linkOf] at h; omega
      | cons j c =>
        obtain ⟨s, h1, _⟩ := hA.head hc
        rw [hc] at h; simp only [linkOf] at h
        have := (List.getElem?_eq_some_iff.1 h1).1
        omega)
    repeat' first | exact f0 | (refine And.intro ?_ (fun _ => ?_)) | intro _
    all_goals omega
  | some s =>
    have hl := (List.getElem?_eq_some_iff.1 hs).1
    have hgen := hA.gen s (List.mem_of_getElem? hs)
    rw [genAt_of hs] at bad
    have hgm : ¬ s.gen = 4294967295 := by omega
    simp only [cellAt_map hs, getD0, getD1, getD2, toInt_int, toBool_bool, hgm, false_implies, true_and, not_false_eq_true, true_implies]
    rw [wrapU32 (n := s.gen + -1) (by omega) (by omega)]
    by_cases hc : linkOf A.c = x0 + 1
    · have hcc : ∃ c, A.c = x0.toNat :: c := by
        cases hc' : A.c with
        | nil => rw [hc'] at hc; simp only [linkOf] at hc; omega
        | cons j c => rw [hc'] at hc; simp only [linkOf] at hc; exact ⟨c, by rw [show x0.toNat = j by omega]⟩
      obtain ⟨c, hcc⟩ := hcc
      obtain ⟨s', h1, h2, h3⟩ := hA.head hcc
      rw [hs] at h1
      obtain rfl := Option.some.inj h1
      have f1 : ¬ x1 = 0 → s.gen + -1 = x1 → aunfreeRel [.int x0, .int x1, .int x2, .lst (A.T.map Slot.row), .int (linkOf A.c), .int (live A.T)] [.int 0, .lst (Sx.setAt (Sx.setAt (Sx.setAt (Sx.setAt (A.T.map Slot.row) x0 0 (.int x1)) x0 2 (.int (0))) x0 1 (.bool true)) x0 3 (.int x2)), .int s.next, .int ((live A.T : Int) + 1)] := by
        intro n1 n2
        refine hrel _ ?_
        have un : A.unfree x0 x1 x2 = (⟨A.T.modify x0.toNat (fun _ => ⟨x1, true, 0, x2⟩), c⟩, 0) := by
          unfold Ar.unfree
          rw [hcc]
          simp only
          rw [if_pos ⟨by omega, n1, by rw [genAt_of hs]; omega⟩]
        rw [un, setAt_map (fun s => { s with gen := x1 }) (fun _ => rfl), setAt_map (fun s => { s with next := 0 }) (fun _ => rfl), setAt_map (fun s => { s with used := true }) (fun _ => rfl), setAt_map (fun s => { s with x := x2 }) (fun _ => rfl), modify_modify', modify_modify', modify_modify']
        have hlm := live_modify (fun _ => (⟨x1, true, 0, x2⟩ : Slot)) hs
        simp only [h2, Bool.false_eq_true, if_false, if_true, Int.sub_zero] at hlm
        show _ = [Dat.int 0, Dat.lst ((A.T.modify x0.toNat (fun _ => ⟨x1, true, 0, x2⟩)).map Slot.row), Dat.int (linkOf c), Dat.int (live (A.T.modify x0.toNat (fun _ => (⟨x1, true, 0, x2⟩ : Slot))))]
        rw [hlm, h3]
      have f0 : ¬ (¬ x1 = 0 ∧ s.gen + -1 = x1) → aunfreeRel [.int x0, .int x1, .int x2, .lst (A.T.map Slot.row), .int (linkOf A.c), .int (live A.T)] [.int 10, .lst (A.T.map Slot.row), .int (linkOf A.c), .int (live A.T)] := fun h => bad (fun hh => h ⟨hh.2.1, by omega⟩)
      simp only [h2, Bool.false_eq_true, false_implies, true_and, not_false_eq_true, true_implies]
      repeat' first | exact f0 (by omega) | exact f1 (by omega) (by omega) | (refine And.intro ?_ (fun _ => ?_)) | intro _
      all_goals omega
    · have f0 := bad (fun h => hc h.1)
      simp only [hc, false_implies, true_and, not_false_eq_true, true_implies]
      repeat' first | exact f0 | (refine And.intro ?_ (fun _ => ?_)) | intro _
      all_goals omega

end Go.C15
