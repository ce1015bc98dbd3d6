/- Chapter 15, comparing both arenas: the condition holds.
  Conditions: none. -/
import Derived.Test.YtdhbegidnfapjaaB9
set_option linter.unusedVariables false
set_option linter.unusedSimpArgs false
namespace Go.C15
open Go Go.Xe Go.Sx

theorem ahandles_all {A : Ar} (hA : A.Ok) {G : Sx.Rows → Sx.Rows → Int → Int → Prop} (h : G (A.handles.map hr) (A.T.map Slot.row) (linkOf A.c) (live A.T)) :
    ∀ l S f v, ahandlesRel [.lst (A.T.map Slot.row), .int (linkOf A.c), .int (live A.T)] [.lst l, .lst S, .int f, .int v] → G l S f v := by
  intro l S f v hr'
  have := hr'.of A hA rfl
  simp only [Ar.dats, List.cons.injEq, Dat.int.injEq, Dat.lst.injEq, and_true] at this
  obtain ⟨rfl, rfl, rfl, rfl⟩ := this
  exact h
theorem await_all {A : Ar} (hA : A.Ok) {G : Sx.Rows → Sx.Rows → Int → Int → Prop} (h : G ((freeH A).map hr) (A.T.map Slot.row) (linkOf A.c) (live A.T)) :
    ∀ l S f v, awaitRel [.lst (A.T.map Slot.row), .int (linkOf A.c), .int (live A.T)] [.lst l, .lst S, .int f, .int v] → G l S f v := by
  intro l S f v hr'
  have := hr'.of A hA rfl
  simp only [Ar.dats, List.cons.injEq, Dat.int.injEq, Dat.lst.injEq, and_true] at this
  obtain ⟨rfl, rfl, rfl, rfl⟩ := this
  exact h
theorem listL_all {H : List Hd} {G : Int → Prop} (h : ∀ j : Nat, j ≤ H.length → G j) : ∀ k, listLInv [.lst (H.map hr), .lst (H.map hr)] [.int k] → G k := by
  rintro k ⟨K, j, hg, hj, e⟩
  simp only [List.cons.injEq, Dat.lst.injEq, Dat.int.injEq, and_true] at hg e
  have := map_inj' hr_inj hg.1
  subst this
  subst e
  exact h j hj
theorem rs_used (s : Slot) : s.rs.used = s.used := rfl
theorem rs_gen (s : Slot) : s.rs.gen = s.gen := rfl
theorem rs_x (s : Slot) : s.rs.x = s.x := rfl
theorem igetD0 (i : Nat) : (irow i).getD 0 (.int 0) = .int i := rfl

theorem vcSame_ok : vcSame := by
  unfold vcSame vcSame6 vcSame5 vcSame4 vcSame3 vcSame2 vcSame1 vcSame0 Nd
  intro x0 x1 x2 x3 x4 x5 hp
  obtain ⟨p, n, hP, hn, e⟩ := hp
  obtain ⟨A, H⟩ := p
  simp only [Bo.dats, Rf.dats, Ar.dats, List.cons_append, List.nil_append, List.cons.injEq, Dat.int.injEq, Dat.lst.injEq, and_true] at e
  obtain ⟨rfl, rfl, rfl, rfl, rfl, rfl⟩ := e
  have hrel : sameRel [.lst (A.toR.L.map RS.row), .lst (A.toR.F.map irow), .lst (H.map hr), .lst (A.T.map Slot.row), .int (linkOf A.c), .int (live A.T)] [.int 1, .lst (A.toR.L.map RS.row), .lst (A.toR.F.map irow), .lst (H.map hr), .lst (A.T.map Slot.row), .int (linkOf A.c), .int (live A.T)] := by
    refine ⟨fun q m hq hm hd => ?_⟩
    have hd' : (⟨A, H⟩ : Bo).dats = q.dats := hd
    rw [← Bo.inj hP hq hd']; rfl
  have hA : A.Ok := hP.ok
  have hsz := hA.size
  have hcl := hA.clen
  have hLl : A.toR.L.length = A.T.length := by unfold Ar.toR; simp
  have hFl : A.toR.F.length = A.c.length := rfl
  have hF : A.toR.F = A.c := rfl
  simp only [List.length_map, Int.lt_irrefl, not_false_eq_true, true_and, true_implies, forall_const, need_known, need_twice, implies_true, and_true, eq_self, hLl, hFl, not_true_eq_false, false_implies]
  refine And.intro ⟨A, 0, hA, rfl, by omega, by rw [List.take_zero]; rfl⟩ fun _ => ?_
  rintro x6 x7 x8 x9 x10 ⟨B, k, hB, hg, hk, e⟩
  have hg' : A.toR.dats ++ A.dats = B.toR.dats ++ B.dats := hg
  obtain rfl := Ar.inj hA hB (app_inj hg' rfl).2
  simp only [Ar.dats, List.cons_append, List.nil_append, List.cons.injEq, Dat.int.injEq, Dat.lst.injEq, and_true] at e
  obtain ⟨rfl, rfl, rfl, rfl, rfl⟩ := e
  have hlen := usedH_len (A.T.take k) 0
  have hlt := live_takeN A.T k
  have hll := live_le A.T
  simp only [List.length_map]
  refine And.intro (fun hkl => ?_) fun hkl => ?_
  · have hkl' : k < A.T.length := by omega
    have hs : A.T[k]? = some (A.T[k]'hkl') := List.getElem?_eq_getElem hkl'
    generalize (A.T[k]'hkl') = s at hs
    have hRs : A.toR.L[(k : Int).toNat]? = some s.rs := by
      show (A.T.map Slot.rs)[k]? = _
      rw [List.getElem?_map, hs]; rfl
    have ht := take_succ' hs
    have hua := usedH_app s (A.T.take k) 0
    have hkk : (A.T.take k).length = k := by rw [List.length_take]; omega
    rw [← ht, hkk] at hua
    simp only [cellAt_map hRs, rgetD0, rgetD1, rgetD2, toInt_int, toBool_bool, rs_used, rs_gen, rs_x]
    rw [wrapU32 (n := (k : Int)) (by omega) (by omega)]
    have mu : ∀ l l' T T' a b a' b' g, sameLMu (.lst (A.toR.L.map RS.row) :: g) [l, .int ((k : Int) + 1), T, a, b] < sameLMu (.lst (A.toR.L.map RS.row) :: g) [l', .int k, T', a', b'] := by
      intro l l' T T' a b a' b' g
      show (((A.toR.L.map RS.row).length : Int) - ((k : Int) + 1)).toNat < (((A.toR.L.map RS.row).length : Int) - k).toNat
      rw [List.length_map]; omega
    have inv : ∀ l, l = (usedH 0 (A.T.take (k + 1))).map hr → sameLInv [.lst (A.toR.L.map RS.row), .lst (A.toR.F.map irow), .lst (A.T.map Slot.row), .int (linkOf A.c), .int (live A.T)] [.lst l, .int ((k : Int) + 1), .lst (A.T.map Slot.row), .int (linkOf A.c), .int (live A.T)] := by
      intro l hl
      exact ⟨A, k + 1, hA, rfl, hkl', by rw [hl]; rfl⟩
    cases hu : s.used with
    | true =>
      rw [hu] at hua
      simp only [if_true, Nat.zero_add] at hua
      have hap : (usedH 0 (A.T.take k)).map hr ++ Sx.chunk 2 1 [Dat.int k, Dat.int s.gen] = (usedH 0 (A.T.take (k + 1))).map hr := by rw [hua, List.map_append]; rfl
      have hgt : (usedH 0 (A.T.take (k + 1)))[(((usedH 0 (A.T.take k)).length : Int)).toNat]? = some ((k : Int), s.gen) := by rw [hua]; simp
      have i1 := inv _ hap
      rw [hap] at i1 ⊢
      have hsg := hA.gen s (List.mem_of_getElem? hs)
      simp only [cellAt_map hgt, hgetD0, hgetD1, toInt_int, true_implies, not_true_eq_false, false_implies, and_true]
      refine And.intro (by omega) fun _ => And.intro (by omega) fun _ => And.intro (by omega) fun _ => And.intro (by omega) fun _ => ?_
      have hs' : A.T[(k : Int).toNat]? = some s := hs
      have hvt : A.valid (k : Int) s.gen = true := by rw [valid_some hs', hu]; simp
      refine And.intro (by omega) fun _ => And.intro (by omega) fun _ => And.intro (by omega) fun _ => And.intro (by omega) fun _ => ?_
      refine And.intro ⟨A, k, s.gen, hA, by omega, by omega, by omega, by omega, rfl⟩ fun _ => aget_all hA (fun hv => ?_) (fun hv => by rw [hvt] at hv; cases hv)
      rw [xAt_of hs']
      simp only [true_implies, not_true_eq_false, false_implies, and_true, true_and, eq_self]
      repeat' first | exact i1 | exact mu _ _ _ _ _ _ _ _ _ | (refine And.intro ?_ (fun _ => ?_)) | intro _
      all_goals omega
    | false =>
      rw [hu] at hua
      simp only [Bool.false_eq_true, if_false, List.append_nil] at hua
      have i2 := inv _ (show (usedH 0 (A.T.take k)).map hr = _ by rw [hua])
      simp only [Bool.false_eq_true, not_false_eq_true, false_implies, true_and, true_implies]
      repeat' first | exact i2 | exact mu _ _ _ _ _ _ _ _ _ | (refine And.intro ?_ (fun _ => ?_)) | intro _
      all_goals omega
  · have hkT : A.T.take k = A.T := List.take_of_length_le (by omega)
    rw [hkT] at hlen hlt ⊢
    refine And.intro ⟨A, 0, hA, rfl, by omega, by rw [List.take_zero]; rfl⟩ fun _ => ?_
    rintro x11 x12 ⟨B, m, hB, hg, hm, e⟩
    have hg' : A.toR.dats ++ A.dats = B.toR.dats ++ B.dats := hg
    obtain rfl := Ar.inj hA hB (app_inj hg' rfl).2
    simp only [List.cons.injEq, Dat.int.injEq, Dat.lst.injEq, and_true] at e
    obtain ⟨rfl, rfl⟩ := e
    have hml : (A.c.take m).length = m := by rw [List.length_take]; omega
    simp only [List.length_map, hml]
    refine And.intro (fun hmc => ?_) fun hmc => ?_
    · have hmc' : m < A.c.length := by omega
      have hi : A.c[m]? = some (A.c[m]'hmc') := List.getElem?_eq_getElem hmc'
      have hil := chain_lt hA.chain (A.c[m]'hmc') (List.getElem_mem hmc')
      generalize (A.c[m]'hmc') = i at hi hil
      have hs : A.T[i]? = some (A.T[i]'hil) := List.getElem?_eq_getElem hil
      generalize (A.T[i]'hil) = s at hs
      have hFi : A.toR.F[(m : Int).toNat]? = some i := hi
      have hRs : A.toR.L[(i : Int).toNat]? = some s.rs := by
        show (A.T.map Slot.rs)[i]? = _
        rw [List.getElem?_map, hs]; rfl
      simp only [cellAt_map hFi, igetD0, toInt_int, cellAt_map hRs, rgetD0, rs_gen]
      rw [wrapU32 (n := (i : Int)) (by omega) (by omega)]
      have hap : ((A.c.take m).map fun i : Nat => ((i : Int), genAt A.T i)).map hr ++ Sx.chunk 2 1 [Dat.int i, Dat.int s.gen] = ((A.c.take (m + 1)).map fun i : Nat => ((i : Int), genAt A.T i)).map hr := by
        rw [List.take_add_one, hi, List.map_append, List.map_append]
        show _ = _ ++ [hr ((i : Int), genAt A.T i)]
        rw [genAt_of hs]; rfl
      have inv : sameMInv [.lst (A.toR.L.map RS.row), .lst (A.toR.F.map irow), .lst (A.T.map Slot.row), .int (linkOf A.c), .int (live A.T)] [.lst (((A.c.take m).map fun i : Nat => ((i : Int), genAt A.T i)).map hr ++ Sx.chunk 2 1 [Dat.int i, Dat.int s.gen]), .int ((m : Int) + 1)] :=
        ⟨A, m + 1, hA, rfl, hmc', by rw [hap]; rfl⟩
      have mu : ∀ l l' g, sameMMu (.lst (A.toR.L.map RS.row) :: .lst (A.toR.F.map irow) :: g) [l, .int ((m : Int) + 1)] < sameMMu (.lst (A.toR.L.map RS.row) :: .lst (A.toR.F.map irow) :: g) [l', .int m] := by
        intro l l' g
        show (((A.toR.F.map irow).length : Int) - ((m : Int) + 1)).toNat < (((A.toR.F.map irow).length : Int) - m).toNat
        rw [List.length_map, hFl]; omega
      repeat' first | exact inv | exact mu _ _ _ | (refine And.intro ?_ (fun _ => ?_)) | intro _
      all_goals omega
    · have hmT : A.c.take m = A.c := List.take_of_length_le (by omega)
      rw [hmT]
      have hfree : (A.c.map fun i : Nat => ((i : Int), genAt A.T i)) = freeH A := rfl
      rw [hfree]
      have hH : usedH 0 A.T = A.handles := rfl
      rw [hH] at hlen ⊢
      have hlen' : ((live A.T : Nat) : Int) = (A.handles.length : Int) := by omega
      refine And.intro (fun _ => ?_) fun h => absurd hlen' h
      refine And.intro ⟨A, hA, rfl⟩ fun _ => ahandles_all hA ?_
      have hmm : m = A.c.length := by omega
      have hfl : (freeH A).length = m := by rw [hmm]; unfold freeH; rw [List.length_map]
      have hhl : A.handles.length ≤ 100000 := by omega
      have muL : ∀ (K : List Hd) (j : Nat), j < K.length → listLMu [.lst (K.map hr), .lst (K.map hr)] [.int ((j : Int) + 1)] < listLMu [.lst (K.map hr), .lst (K.map hr)] [.int (j : Int)] := by
        intro K j hj
        show (((K.map hr).length : Int) - ((j : Int) + 1)).toNat < (((K.map hr).length : Int) - j).toNat
        rw [List.length_map]; omega
      have invL : ∀ (K : List Hd) (j : Nat), j < K.length → listLInv [.lst (K.map hr), .lst (K.map hr)] [.int ((j : Int) + 1)] := fun K j hj => ⟨K, j + 1, rfl, hj, rfl⟩
      simp only [List.length_map, eq_self, true_implies, not_true_eq_false, false_implies, and_true]
      refine And.intro ⟨A.handles, 0, rfl, by omega, rfl⟩ fun _ => listL_all fun j hj => ?_
      refine And.intro (fun hj2 => ?_) fun _ => ?_
      · have i1 := invL A.handles j (by omega)
        have m1 := muL A.handles j (by omega)
        repeat' first | exact i1 | exact m1 | (refine And.intro ?_ (fun _ => ?_)) | intro _
        all_goals omega
      · refine And.intro ⟨A, hA, rfl⟩ fun _ => await_all hA ?_
        simp only [List.length_map, eq_self, true_implies, not_true_eq_false, false_implies, and_true, hfl]
        refine And.intro ⟨freeH A, 0, rfl, by omega, rfl⟩ fun _ => listL_all fun j hj => ?_
        refine And.intro (fun hj2 => ?_) fun _ => hrel
        have i1 := invL (freeH A) j (by omega)
        have m1 := muL (freeH A) j (by omega)
        repeat' first | exact i1 | exact m1 | (refine And.intro ?_ (fun _ => ?_)) | intro _
        all_goals omega
end Go.C15
