/- Chapter 15, a copy of an arena: the condition holds.
  Conditions: none. -/
import Derived.Test.YtdhbegidnfapjaaB12
import Derived.Test.YtdhbegidnfapjaaC1
set_option linter.unusedVariables false
set_option linter.unusedSimpArgs false
namespace Go.C15
open Go Go.Xe Go.Sx

theorem copyM_start {g : List Dat} {p : Bo} {k : Nat} (hp : p.Ok k) (hk : k ≤ 60) : copyMInv g [.int 0, .lst (p.A.toR.L.map RS.row), .lst (p.A.toR.F.map irow), .lst (p.H.map hr), .lst (p.A.T.map Slot.row), .int (linkOf p.A.c), .int (live p.A.T), .lst (p.A.toR.L.map RS.row), .lst (p.A.toR.F.map irow), .lst (p.H.map hr), .lst (p.A.T.map Slot.row), .int (linkOf p.A.c), .int (live p.A.T)] :=
  ⟨p, p, 0, hp.le (by omega), hp.le (by omega), by omega, rfl⟩
theorem copyM_all {g : List Dat} {G : Int → Sx.Rows → Sx.Rows → Sx.Rows → Sx.Rows → Int → Int → Sx.Rows → Sx.Rows → Sx.Rows → Sx.Rows → Int → Int → Prop}
    (h : ∀ (p q : Bo) (k : Nat), p.Ok (60 + k) → q.Ok (60 + k) → k ≤ 20 → G k (p.A.toR.L.map RS.row) (p.A.toR.F.map irow) (p.H.map hr) (p.A.T.map Slot.row) (linkOf p.A.c) (live p.A.T) (q.A.toR.L.map RS.row) (q.A.toR.F.map irow) (q.H.map hr) (q.A.T.map Slot.row) (linkOf q.A.c) (live q.A.T)) :
    ∀ e l f k S c v l' f' k' S' c' v', copyMInv g [.int e, .lst l, .lst f, .lst k, .lst S, .int c, .int v, .lst l', .lst f', .lst k', .lst S', .int c', .int v'] → G e l f k S c v l' f' k' S' c' v' := by
  rintro e l f k S c v l' f' k' S' c' v' ⟨p, q, n, hp, hq, hn, e⟩
  simp only [Bo.dats, Rf.dats, Ar.dats, List.cons_append, List.nil_append, List.cons.injEq, Dat.int.injEq, Dat.lst.injEq, and_true] at e
  obtain ⟨rfl, rfl, rfl, rfl, rfl, rfl, rfl, rfl, rfl, rfl, rfl, rfl, rfl⟩ := e
  exact h p q n hp hq hn
theorem copyM_mu {g : List Dat} {k : Nat} (hk : (k : Int) < 20) (d d' : List Dat) : copyMMu g (.int ((k : Int) + 1) :: d) < copyMMu g (.int (k : Int) :: d') := by
  show (20 - ((k : Int) + 1)).toNat < (20 - (k : Int)).toNat
  omega
theorem copyM_inv {g : List Dat} {p q : Bo} {k : Nat} (hp : p.Ok (60 + k + 1)) (hq : q.Ok (60 + k + 1)) (hk : (k : Int) < 20) : copyMInv g [.int ((k : Int) + 1), .lst (p.A.toR.L.map RS.row), .lst (p.A.toR.F.map irow), .lst (p.H.map hr), .lst (p.A.T.map Slot.row), .int (linkOf p.A.c), .int (live p.A.T), .lst (q.A.toR.L.map RS.row), .lst (q.A.toR.F.map irow), .lst (q.H.map hr), .lst (q.A.T.map Slot.row), .int (linkOf q.A.c), .int (live q.A.T)] := ⟨p, q, k + 1, hp, hq, by omega, rfl⟩

/-- After the copy. -/
theorem vcCopy0_ok {L M N : List Op} {p : Bo} {k : Nat} (hp : p.Ok k) (hk : k ≤ 60) (hL : ∀ o ∈ L, o.Ok) (hM : ∀ o ∈ M, o.Ok) (hN : ∀ o ∈ N, o.Ok) :
    vcCopy0 (L.map Op.row) (M.map Op.row) (N.map Op.row) (p.A.toR.L.map RS.row) (p.A.toR.F.map irow) (p.H.map hr) (p.A.T.map Slot.row) (linkOf p.A.c) (live p.A.T) (p.A.toR.L.map RS.row) (p.A.toR.F.map irow) (p.H.map hr) (p.A.T.map Slot.row) (linkOf p.A.c) (live p.A.T) := by
  unfold vcCopy0 Nd
  have hHl : p.H.length ≤ k := hp.hl
  have hTl : p.A.T.length ≤ k := hp.tl
  simp only [List.length_map, Int.lt_irrefl, not_false_eq_true, true_and, true_implies, forall_const, need_known, need_twice, implies_true, and_true, eq_self, not_true_eq_false, false_implies]
  refine And.intro (copyM_start hp hk) fun _ => copyM_all fun p q m hp hq hm => ?_
  refine And.intro (fun h20 => And.intro (fun h1 => ?_) fun h1 => ?_) fun _ => ?_
  · obtain ⟨o, ho⟩ := op_get (by omega) h1
    have hoo := hM o (List.mem_of_getElem? ho)
    simp only [cellAt_map ho, ogetD0, ogetD1, ogetD2, toInt_int]
    refine And.intro (by omega) fun _ => And.intro (by omega) fun _ => ?_
    refine And.intro ⟨o, q, 60 + m, hoo, hq, by omega, rfl⟩ fun _ => do_all hq (by omega) hoo ?_
    have hq' := hq.step (by omega) hoo
    generalize q.step o = q' at hq'
    simp only [Int.reduceEq, not_false_eq_true, true_and, true_implies, false_implies, and_true]
    refine And.intro h1 fun _ => And.intro (fun h2 => ?_) fun h2 => ?_
    · obtain ⟨o2, ho2⟩ := op_get (by omega) h2
      have hoo2 := hN o2 (List.mem_of_getElem? ho2)
      simp only [cellAt_map ho2, ogetD0, ogetD1, ogetD2, toInt_int]
      refine And.intro (by omega) fun _ => And.intro (by omega) fun _ => ?_
      refine And.intro ⟨o2, p, 60 + m, hoo2, hp, by omega, rfl⟩ fun _ => do_all hp (by omega) hoo2 ?_
      have hp' := hp.step (by omega) hoo2
      generalize p.step o2 = p' at hp'
      simp only [Int.reduceEq, not_false_eq_true, true_and, true_implies, false_implies, and_true]
      repeat' first | exact copyM_inv hp' hq' h20 | exact copyM_mu h20 _ _ | (refine And.intro ?_ (fun _ => ?_)) | intro _
      all_goals omega
    · have hp' := hp.le (Nat.le_succ (60 + m))
      repeat' first | exact copyM_inv hp' hq' h20 | exact copyM_mu h20 _ _ | (refine And.intro ?_ (fun _ => ?_)) | intro _
      all_goals omega
  · have hq' := hq.le (Nat.le_succ (60 + m))
    refine And.intro (fun h2 => ?_) fun h2 => ?_
    · obtain ⟨o2, ho2⟩ := op_get (by omega) h2
      have hoo2 := hN o2 (List.mem_of_getElem? ho2)
      simp only [cellAt_map ho2, ogetD0, ogetD1, ogetD2, toInt_int]
      refine And.intro (by omega) fun _ => And.intro (by omega) fun _ => ?_
      refine And.intro ⟨o2, p, 60 + m, hoo2, hp, by omega, rfl⟩ fun _ => do_all hp (by omega) hoo2 ?_
      have hp' := hp.step (by omega) hoo2
      generalize p.step o2 = p' at hp'
      simp only [Int.reduceEq, not_false_eq_true, true_and, true_implies, false_implies, and_true]
      repeat' first | exact copyM_inv hp' hq' h20 | exact copyM_mu h20 _ _ | (refine And.intro ?_ (fun _ => ?_)) | intro _
      all_goals omega
    · have hp' := hp.le (Nat.le_succ (60 + m))
      repeat' first | exact copyM_inv hp' hq' h20 | exact copyM_mu h20 _ _ | (refine And.intro ?_ (fun _ => ?_)) | intro _
      all_goals omega
  · refine And.intro ⟨_, _, hp, by omega, rfl⟩ fun _ => same_all hp (by omega) ?_
    refine And.intro ⟨_, _, hq, by omega, rfl⟩ fun _ => same_all hq (by omega) ?_
    simp only [Int.reduceMul, Int.reduceEq, Int.reduceLT, Int.reduceNeg, not_false_eq_true, true_and, true_implies, not_true_eq_false, false_implies, and_true, eq_self, and_self]
    refine And.intro rfl fun _ => lives_all ?_
    exact rfl

theorem vcCopy_ok : vcCopy := by
  unfold vcCopy vcCopy2 vcCopy1 Nd
  intro x0 x1 x2 hp
  obtain ⟨L, M, N, hL, hM, hN, e⟩ := hp
  simp only [List.cons.injEq, Dat.lst.injEq, and_true] at e
  obtain ⟨rfl, rfl, rfl⟩ := e
  refine And.intro (playL_start _) fun _ => playL_all fun p k hp hk => ?_
  simp only [List.length_map, Int.lt_irrefl, not_false_eq_true, true_and, true_implies, forall_const, need_known, need_twice, implies_true, and_true, eq_self, not_true_eq_false, false_implies]
  have hHl : p.H.length ≤ k := hp.hl
  have hTl : p.A.T.length ≤ k := hp.tl
  refine And.intro (fun hkl => And.intro (fun hk6 => ?_) fun _ => ?_) fun _ => ?_
  · obtain ⟨o, ho⟩ := op_get (L := L) (i := (k : Int)) (by omega) hkl
    have hoo := hL o (List.mem_of_getElem? ho)
    simp only [cellAt_map ho, ogetD0, ogetD1, ogetD2, toInt_int]
    refine And.intro (by omega) fun _ => And.intro (by omega) fun _ => ?_
    refine And.intro ⟨o, p, k, hoo, hp, by omega, rfl⟩ fun _ => do_all hp (by omega) hoo ?_
    have hq := hp.step (by omega) hoo
    generalize p.step o = q at hq
    simp only [Int.reduceEq, not_false_eq_true, true_and, true_implies, false_implies, and_true]
    refine And.intro (by omega) fun _ => And.intro (playL_inv hq hk6) fun _ => playL_mu hk6 _ _
  all_goals
    intro b
    refine And.intro (fun _ hl => ?_) (fun _ => ?_)
    · have hT : p.A.T.map Slot.row = ([] : Sx.Rows) := by rw [List.eq_nil_of_length_eq_zero (show p.A.T.length = 0 by omega)]; rfl
      refine And.intro (by omega) fun _ => ?_
      rw [← hT]
      refine And.intro ⟨_, _, hp, by omega, rfl⟩ fun _ => same_all hp (by omega) ?_
      simp only [Int.reduceEq, not_false_eq_true, true_and, true_implies, false_implies, and_true]
      exact vcCopy0_ok hp hk hL hM hN
    · refine And.intro (by omega) fun _ => And.intro (fun _ => ?_) fun _ => ?_
      · refine And.intro (by omega) fun _ => ?_
        rw [show Sx.chunk 4 0 [] ++ p.A.T.map Slot.row = p.A.T.map Slot.row from rfl]
        refine And.intro ⟨_, _, hp, by omega, rfl⟩ fun _ => same_all hp (by omega) ?_
        simp only [Int.reduceEq, not_false_eq_true, true_and, true_implies, false_implies, and_true]
        exact vcCopy0_ok hp hk hL hM hN
      · have hol : (Sx.over (Sx.chunk 4 0 []) 0 (p.A.T.map Slot.row)).length = p.A.T.length := by rw [over_end_len (L := Sx.chunk 4 0 []) (n := 0) rfl, List.length_map]; simp [Sx.chunk]
        refine And.intro (by omega) fun _ => And.intro (by omega) fun _ => And.intro (by omega) fun _ => And.intro (by omega) fun _ => ?_
        rw [over_end (L := Sx.chunk 4 0 []) (r := p.A.T.map Slot.row) (n := 0) (m := (p.A.T.length : Int)) rfl (by rw [List.length_map]; simp [Sx.chunk]), show Sx.chunk 4 0 [] ++ p.A.T.map Slot.row = p.A.T.map Slot.row from rfl]
        refine And.intro ⟨_, _, hp, by omega, rfl⟩ fun _ => same_all hp (by omega) ?_
        simp only [Int.reduceEq, not_false_eq_true, true_and, true_implies, false_implies, and_true]
        exact vcCopy0_ok hp hk hL hM hN

end Go.C15
