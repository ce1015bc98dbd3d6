/- Chapter 15, taking back: the condition holds.
  Conditions: none. -/
import Derived.Test.YtdhbegidnfapjaaB14
set_option linter.unusedVariables false
set_option linter.unusedSimpArgs false
namespace Go.C15
open Go Go.Xe Go.Sx

theorem backM_all {A0 : Ar} (h0 : A0.Ok) {G : Sx.Rows → Sx.Rows → Int → Sx.Rows → Sx.Rows → Sx.Rows → Sx.Rows → Int → Int → Prop}
    (h : ∀ (B0 : Ar) (p : Bo) (k : Nat) (D : List Op) (K : List Hd), p.Ok (60 + k) → Bo.Ok ⟨B0, []⟩ 200 → k ≤ 40 → Und 200 B0 D K p.A → D.length ≤ k → A0.toR.dats = B0.toR.dats → G (D.map Op.row) (K.map hr) k (p.A.toR.L.map RS.row) (p.A.toR.F.map irow) (p.H.map hr) (p.A.T.map Slot.row) (linkOf p.A.c) (live p.A.T)) :
    ∀ d k e l f h S c v, backMInv [.lst (A0.toR.L.map RS.row), .lst (A0.toR.F.map irow)] [.lst d, .lst k, .int e, .lst l, .lst f, .lst h, .lst S, .int c, .int v] → G d k e l f h S c v := by
  rintro d k e l f h' S c v ⟨B0, p, n, D, K, hp, hB, hn, hU, hD, hg, e⟩
  simp only [Bo.dats, Rf.dats, Ar.dats, List.cons_append, List.nil_append, List.cons.injEq, Dat.int.injEq, Dat.lst.injEq, and_true] at e
  obtain ⟨rfl, rfl, rfl, rfl, rfl, rfl, rfl, rfl, rfl⟩ := e
  exact h B0 p n D K hp hB hn hU hD hg

/-- An operation of the second list. -/
theorem back_op (o0 : Op) (h : o0.Ok) : ∃ o : Op, o0.kind.tmod 6 = o.kind ∧ o0.which = o.which ∧ o0.x = o.x ∧ o.Ok ∧ o.kind < 6 := by
  have hm := tmod_range h.k.1 (show (0 : Int) < 6 by decide)
  exact ⟨⟨o0.kind.tmod 6, o0.which, o0.x⟩, rfl, rfl, rfl, ⟨⟨hm.1, by show o0.kind.tmod 6 ≤ 255; omega⟩, h.w, h.x⟩, hm.2⟩

theorem backM_start {p : Bo} {k : Nat} (hp : p.Ok k) (hk : k ≤ 60) : backMInv [.lst (p.A.toR.L.map RS.row), .lst (p.A.toR.F.map irow)] [.lst ([] : Sx.Rows), .lst ([] : Sx.Rows), .int 0, .lst (p.A.toR.L.map RS.row), .lst (p.A.toR.F.map irow), .lst (p.H.map hr), .lst (p.A.T.map Slot.row), .int (linkOf p.A.c), .int (live p.A.T)] :=
  ⟨p.A, p, 0, [], [], hp.le (by omega), hp.a.le (by omega), by omega, .nil, by simp, rfl, rfl⟩

theorem wrapU8 {n : Int} (h0 : 0 ≤ n) (h1 : n ≤ 255) : IntKind.wrap .u8 n = n := by
  have : n % 256 = n := Int.emod_eq_of_lt h0 (by omega)
  simp [IntKind.wrap, IntKind.signed, IntKind.bits, this]

theorem backM_mu {g g' : List Dat} {m : Nat} (h40 : (m : Int) < 40) (a b a' b' : Dat) (d d' : List Dat) : backMMu g (a :: b :: .int ((m : Int) + 1) :: d) < backMMu g' (a' :: b' :: .int (m : Int) :: d') := by
  show (40 - ((m : Int) + 1)).toNat < (40 - (m : Int)).toNat
  omega

theorem backM_step {A0 B0 : Ar} {q : Bo} {m : Nat} {D : List Op} {K : List Hd} {o : Op} (hq : q.Ok (60 + m)) (hB : Bo.Ok ⟨B0, []⟩ 200) (h40 : (m : Int) < 40) (hU : Und 200 B0 D K q.A) (hD : D.length ≤ m) (hg : A0.toR.dats = B0.toR.dats) (hoo : o.Ok) (hk6 : o.kind < 6)
    (hv : 2 < o.kind → q.A.valid (pickH o q.H).1 (pickH o q.H).2 = true) (l k : Sx.Rows) (hl : l = (D ++ [keepO q o]).map Op.row) (hk : k = (K ++ [keepH q o]).map hr) :
    backMInv [.lst (A0.toR.L.map RS.row), .lst (A0.toR.F.map irow)] [.lst l, .lst k, .int ((m : Int) + 1), .lst ((q.step o).A.toR.L.map RS.row), .lst ((q.step o).A.toR.F.map irow), .lst ((q.step o).H.map hr), .lst ((q.step o).A.T.map Slot.row), .int (linkOf (q.step o).A.c), .int (live (q.step o).A.T)] := by
  obtain ⟨u1, u2, u3, u4, u5⟩ := undo_step hq hoo hk6 hv
  have hs := hq.step (by omega) hoo
  exact ⟨B0, q.step o, m + 1, D ++ [keepO q o], K ++ [keepH q o], hs, hB, by omega, .snoc D K q.A _ _ _ hU u2 u3 u4 u5 hs.ok u1, by simp; omega, hg, by rw [hl, hk]; rfl⟩

theorem backU_start {A0 B0 A : Ar} {D : List Op} {K : List Hd} (hA : A.Ok) (hB : Bo.Ok ⟨B0, []⟩ 200) (hU : Und 200 B0 D K A) (hg : A0.toR.dats = B0.toR.dats) :
    backUInv [.lst (A0.toR.L.map RS.row), .lst (A0.toR.F.map irow), .lst (D.map Op.row), .lst (K.map hr)] [.int ((D.length : Int) + -1), .lst (A.T.map Slot.row), .int (linkOf A.c), .int (live A.T)] := by
  refine ⟨B0, A, D.length, D, K, hA, hB, Nat.le_refl _, ?_, ?_, rfl⟩
  · rw [List.take_of_length_le (Nat.le_refl _), List.take_of_length_le (by rw [hU.len]; exact Nat.le_refl _)]; exact hU
  · show A0.toR.dats ++ [.lst (D.map Op.row), .lst (K.map hr)] = _
    rw [hg]

theorem backU_inv {A0 B0 A : Ar} {D : List Op} {K : List Hd} {j : Nat} (hA : A.Ok) (hB : Bo.Ok ⟨B0, []⟩ 200) (hj : j ≤ D.length) (hU : Und 200 B0 (D.take j) (K.take j) A) (hg : A0.toR.dats = B0.toR.dats) :
    backUInv [.lst (A0.toR.L.map RS.row), .lst (A0.toR.F.map irow), .lst (D.map Op.row), .lst (K.map hr)] [.int ((j : Int) + -1), .lst (A.T.map Slot.row), .int (linkOf A.c), .int (live A.T)] := by
  refine ⟨B0, A, j, D, K, hA, hB, hj, hU, ?_, rfl⟩
  show A0.toR.dats ++ [.lst (D.map Op.row), .lst (K.map hr)] = _
  rw [hg]

theorem backU_all {A0 : Ar} {D : List Op} {K : List Hd} {G : Int → Sx.Rows → Int → Int → Prop}
    (h : ∀ (B0 A : Ar) (k : Nat), A.Ok → Bo.Ok ⟨B0, []⟩ 200 → k ≤ D.length → Und 200 B0 (D.take k) (K.take k) A → A0.toR.dats = B0.toR.dats → G ((k : Int) + -1) (A.T.map Slot.row) (linkOf A.c) (live A.T)) :
    ∀ e S c v, backUInv [.lst (A0.toR.L.map RS.row), .lst (A0.toR.F.map irow), .lst (D.map Op.row), .lst (K.map hr)] [.int e, .lst S, .int c, .int v] → G e S c v := by
  rintro e S c v ⟨B0, A, k, D', K', hA, hB, hk, hU, hg, e'⟩
  have hg' : A0.toR.dats ++ [.lst (D.map Op.row), .lst (K.map hr)] = B0.toR.dats ++ [.lst (D'.map Op.row), .lst (K'.map hr)] := hg
  obtain ⟨g1, g2⟩ := app_inj hg' rfl
  simp only [List.cons.injEq, Dat.lst.injEq, and_true] at g2
  have hD := map_inj' opair_inj g2.1
  have hK := map_inj' hr_inj g2.2
  subst hD
  subst hK
  simp only [Ar.dats, List.cons.injEq, Dat.int.injEq, Dat.lst.injEq, and_true] at e'
  obtain ⟨rfl, rfl, rfl, rfl⟩ := e'
  exact h B0 A k hA hB hk hU g1

theorem Und.nil_inv {n : Nat} {A0 A : Ar} (h : Und n A0 [] [] A) : A = A0 := by
  generalize hD : ([] : List Op) = D at h
  generalize hK : ([] : List Hd) = K at h
  cases h with
  | nil => rfl
  | snoc D1 K1 A1 _ o1 h1 hu' a b c d e f => simp at hD

theorem backU_mu {g g' : List Dat} {j : Nat} (d d' : List Dat) : backUMu g (.int ((j : Int) + -1) :: d) < backUMu g' (.int (j : Int) :: d') := by
  show ((j : Int) + -1 + 1).toNat < ((j : Int) + 1).toNat
  omega

theorem vcBack_ok : vcBack := by
  unfold vcBack vcBack4 vcBack3 vcBack2 vcBack1 vcBack0 Nd
  intro x0 x1 hp
  obtain ⟨L, M, hL, hM, e⟩ := hp
  simp only [List.cons.injEq, Dat.lst.injEq, and_true] at e
  obtain ⟨rfl, rfl⟩ := e
  refine And.intro (playL_start _) fun _ => playL_all fun p k hp hk => ?_
  simp only [List.length_map, Int.lt_irrefl, not_false_eq_true, true_and, true_implies, forall_const, need_known, need_twice, implies_true, and_true, eq_self, not_true_eq_false, false_implies]
  have hHl : p.H.length ≤ k := hp.hl
  have hTl : p.A.T.length ≤ k := hp.tl
  refine And.intro (fun hkl => And.intro (fun hk6 => ?_) fun _ => ?_) fun _ => ?_
  · obtain ⟨o, ho⟩ := op_get (L := L) (i := (k : Int)) (by omega) hkl
    have hoo := hL o (List.mem_of_getElem? ho)
    simp only [cellAt_map ho, ogetD0, ogetD1, ogetD2, toInt_int]
    refine And.intro (by omega) fun _ => And.intro (by omega) fun _ => ?_
    refine And.intro ⟨o, p, k, hoo, hp, by omega, rfl⟩ fun _ => do_all hp (by omega) hoo ?_
    have hq := hp.step (by omega) hoo
    generalize p.step o = q at hq
    simp only [Int.reduceEq, not_false_eq_true, true_and, true_implies, false_implies, and_true]
    refine And.intro (by omega) fun _ => And.intro (playL_inv hq hk6) fun _ => playL_mu hk6 _ _
  all_goals
    have hLl : p.A.toR.L.length = p.A.T.length := by unfold Ar.toR; simp
    have hFl : p.A.toR.F.length ≤ 100000 := (toR_ok hp.ok).fsize
    refine And.intro (by omega) fun _ => And.intro (by omega) fun _ => ?_
    refine And.intro (backM_start hp hk) fun _ => backM_all hp.ok fun B0 q m D K hq hB hm hU hD hg => ?_
    have hKl := hU.len
    have hqH : q.H.length ≤ 60 + m := hq.hl
    have hR := toR_ok hq.ok
    simp only [List.length_map]
    refine And.intro (fun h1 => And.intro (fun h40 => ?_) fun _ => ?_) fun _ => ?_
    · obtain ⟨o0, ho⟩ := op_get (by omega) h1
      obtain ⟨o, e1, e2, e3, hoo, hk6⟩ := back_op o0 (hM o0 (List.mem_of_getElem? ho))
      simp only [cellAt_map ho, ogetD0, ogetD1, ogetD2, toInt_int, e1, e2, e3]
      have hHO : HOk q.H := ⟨by omega, hq.hu⟩
      refine And.intro (by omega) fun _ => And.intro (by omega) fun _ => And.intro ?_ (pick_all hoo hHO ?_)
      · have hv := vcPick_ok _ _ _ _ ⟨o, q.H, hoo, hHO, rfl⟩
        simp only [Nd, need_twice, need_known, implies_true, and_true, List.length_map] at hv ⊢
        exact hv
      obtain ⟨⟨ha0, ha1⟩, hb0, hb1⟩ := pick_u32 (o := o) hq.hu
      refine And.intro (fun h2 => ?_) fun h2 => ?_
      · refine And.intro ⟨q.A.toR, _, _, hR, ⟨ha0, ha1⟩, ⟨hb0, hb1⟩, rfl⟩ fun _ => rvalid_all hR ?_
        rw [toR_valid]
        cases hv : q.A.valid (pickH o q.H).1 (pickH o q.H).2 with
        | true =>
          obtain ⟨s, hs, hu, hgn⟩ := valid_at hv
          have hlt := (List.getElem?_eq_some_iff.1 hs).1
          have hql : q.A.toR.L.length = q.A.T.length := by unfold Ar.toR; simp
          have hRs : q.A.toR.L[(pickH o q.H).1.toNat]? = some s.rs := by
            show (q.A.T.map Slot.rs)[(pickH o q.H).1.toNat]? = _
            rw [List.getElem?_map, hs]; rfl
          have hsx := hq.xs s (List.mem_of_getElem? hs)
          simp only [cellAt_map hRs, rgetD2, toInt_int, rs_x]
          rw [wrapU8 hsx.1 hsx.2]
          simp only [true_implies, not_true_eq_false, false_implies, and_true]
          have inv := backM_step (A0 := p.A) hq hB h40 hU hD hg hoo hk6 (fun _ => hv) (D.map Op.row ++ chunk 3 1 [.int o.kind, .int o.which, .int s.x]) (K.map hr ++ chunk 2 1 [.int (pickH o q.H).1, .int (pickH o q.H).2])
            (by unfold keepO; rw [if_neg (by omega), xAt_of hs, List.map_append]; rfl) (by unfold keepH; rw [if_neg (by omega), List.map_append]; rfl)
          repeat refine And.intro (by omega) fun _ => ?_
          refine And.intro ⟨o, q, 60 + m, hoo, hq, by omega, rfl⟩ fun _ => do_all hq (by omega) hoo ?_
          simp only [Int.reduceEq, not_false_eq_true, true_and, true_implies, false_implies, and_true]
          refine And.intro (fun h3 => by omega) fun h3 => ?_
          repeat' first | exact inv | exact backM_mu h40 _ _ _ _ _ _ | (refine And.intro ?_ (fun _ => ?_)) | intro _
          all_goals omega
        | false =>
          have inv : backMInv [.lst (p.A.toR.L.map RS.row), .lst (p.A.toR.F.map irow)] [.lst (D.map Op.row), .lst (K.map hr), .int ((m : Int) + 1), .lst (q.A.toR.L.map RS.row), .lst (q.A.toR.F.map irow), .lst (q.H.map hr), .lst (q.A.T.map Slot.row), .int (linkOf q.A.c), .int (live q.A.T)] :=
            ⟨B0, q, m + 1, D, K, hq.le (by omega), hB, by omega, hU, by omega, hg, rfl⟩
          simp only [Bool.false_eq_true, not_false_eq_true, true_implies, false_implies, true_and]
          repeat' first | exact inv | exact backM_mu h40 _ _ _ _ _ _ | (refine And.intro ?_ (fun _ => ?_)) | intro _
          all_goals omega
      · repeat refine And.intro (by omega) fun _ => ?_
        refine And.intro ⟨o, q, 60 + m, hoo, hq, by omega, rfl⟩ fun _ => do_all hq (by omega) hoo ?_
        have hm8 : o.kind.tmod 8 = o.kind := Int.tmod_eq_of_lt hoo.k.1 (by omega)
        have hko := hoo.k.1
        have hH : (q.step o).H = q.H ++ [((q.A.tidx : Int), q.A.tgen)] := by
          unfold Bo.step
          simp only [hm8]
          rw [if_pos (by omega)]
        have hHl : (q.step o).H.length = q.H.length + 1 := by rw [hH]; simp
        have hHg : (q.step o).H[(((q.step o).H.length : Int) + -1).toNat]? = some ((q.A.tidx : Int), q.A.tgen) := by
          rw [show (((q.step o).H.length : Int) + -1).toNat = q.H.length by omega, hH]; simp
        simp only [List.length_map, cellAt_map hHg, hgetD0, hgetD1, toInt_int, Int.reduceEq, not_false_eq_true, true_and, true_implies, false_implies, and_true]
        have inv := backM_step (A0 := p.A) hq hB h40 hU hD hg hoo hk6 (fun h => by omega) (D.map Op.row ++ chunk 3 1 [.int o.kind, .int o.which, .int o.x]) (K.map hr ++ chunk 2 1 [.int (q.A.tidx : Int), .int q.A.tgen])
          (by unfold keepO; rw [if_pos (by omega), List.map_append]; rfl) (by unfold keepH; rw [if_pos (by omega), List.map_append]; rfl)
        refine And.intro (fun h3 => ?_) fun h3 => by omega
        repeat' first | exact inv | exact backM_mu h40 _ _ _ _ _ _ | (refine And.intro ?_ (fun _ => ?_)) | intro _
        all_goals omega
    all_goals
      refine And.intro (by omega) fun _ => ?_
      refine And.intro (backU_start hq.ok hB hU hg) fun _ => backU_all fun C0 A j hA hC hj hUj hgC => ?_
      refine And.intro (fun hneg => ?_) fun hpos => ?_
      · obtain rfl : j = 0 := by omega
        have hAC : A = C0 := by
          rw [List.take_zero, List.take_zero] at hUj
          exact hUj.nil_inv
        subst hAC
        have hgC' : [Dat.lst (p.A.toR.L.map RS.row), Dat.lst (p.A.toR.F.map irow)] = [Dat.lst (A.toR.L.map RS.row), Dat.lst (A.toR.F.map irow)] := hgC
        simp only [List.cons.injEq, Dat.lst.injEq, and_true] at hgC'
        rw [hgC'.1, hgC'.2]
        have hf : Bo.Ok ⟨A, q.H⟩ 200 := ⟨hC.ok, hC.tl, hC.gl, by show q.H.length ≤ 200; omega, hq.hu, hC.xs, hC.fr, hC.us⟩
        refine And.intro ⟨⟨A, q.H⟩, 200, hf, by omega, rfl⟩ fun _ => same_all hf (by omega) ?_
        simp only [true_implies, not_true_eq_false, false_implies, and_true, eq_self]
        refine And.intro rfl fun _ => lives_all ?_
        exact ⟨trivial, rfl⟩
      · obtain ⟨i, rfl⟩ : ∃ i, j = i + 1 := ⟨j - 1, by omega⟩
        have ei : ((i + 1 : Nat) : Int) + -1 = (i : Int) := by omega
        have hDo : D[i]? = some (D[i]'(by omega)) := List.getElem?_eq_getElem (by omega)
        have hKh : K[i]? = some (K[i]'(by omega)) := List.getElem?_eq_getElem (by omega)
        generalize (D[i]'(by omega)) = o at hDo
        generalize (K[i]'(by omega)) = h at hKh
        rw [List.take_add_one, List.take_add_one, hDo, hKh] at hUj
        obtain ⟨A', hU', ho, hk6, u1, u2, hA', hun⟩ := Und.inv hUj
        have hDo' : D[(i : Int).toNat]? = some o := hDo
        have hKh' : K[(i : Int).toNat]? = some h := hKh
        simp only [ei, cellAt_map hDo', cellAt_map hKh', ogetD0, ogetD1, ogetD2, hgetD0, hgetD1, toInt_int]
        refine And.intro (by omega) fun _ => ?_
        have inv := backU_inv (A0 := p.A) (hU'.ok hC.ok) hC (show i ≤ D.length by omega) hU' hgC
        have hko := ho.k.1
        have hox := ho.x
        have hiK : (i : Int) < K.length := by have := (List.getElem?_eq_some_iff.1 hKh).1; omega
        have hat : atPre [.int h.1, .int h.2, .lst (A.T.map Slot.row), .int (linkOf A.c), .int (live A.T)] := ⟨A, h.1, h.2, hA, u1.1, u1.2, u2.1, u2.2, rfl⟩
        have hat2 : at2Pre [.int h.1, .int h.2, .int o.x, .lst (A.T.map Slot.row), .int (linkOf A.c), .int (live A.T)] := ⟨A, h.1, h.2, o.x, hA, u1, u2, rfl⟩
        unfold Ar.undo at hun
        iterate 3
          refine And.intro (fun hk => ?_) fun _ => ?_
          · rw [if_pos (by omega)] at hun
            refine And.intro (by omega) fun _ => And.intro (by omega) fun _ => And.intro hat fun _ => auntake_all hA ?_
            rw [hun]
            simp only [true_implies, not_true_eq_false, false_implies, and_true]
            repeat' first | exact inv | exact backU_mu _ _ | (refine And.intro ?_ (fun _ => ?_)) | intro _
            all_goals omega
        rw [if_neg (by omega)] at hun
        iterate 2
          refine And.intro (fun hk => ?_) fun _ => ?_
          · rw [if_pos (by omega)] at hun
            repeat refine And.intro (by omega) fun _ => ?_
            refine And.intro hat2 fun _ => aunfree_all hA ?_
            rw [hun]
            simp only [true_implies, not_true_eq_false, false_implies, and_true]
            repeat' first | exact inv | exact backU_mu _ _ | (refine And.intro ?_ (fun _ => ?_)) | intro _
            all_goals omega
        rw [if_neg (by omega)] at hun
        repeat refine And.intro (by omega) fun _ => ?_
        refine And.intro hat2 fun _ => aset_all hA (fun hv => ?_) (fun hv => ?_)
        · rw [if_pos hv] at hun
          simp only [Prod.mk.injEq, and_true] at hun
          rw [hun]
          simp only [true_implies, not_true_eq_false, false_implies, and_true]
          repeat' first | exact inv | exact backU_mu _ _ | (refine And.intro ?_ (fun _ => ?_)) | intro _
          all_goals omega
        · rw [hv, if_neg (by simp)] at hun
          simp at hun

end Go.C15
