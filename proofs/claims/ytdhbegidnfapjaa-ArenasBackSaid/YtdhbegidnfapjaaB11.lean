/- Chapter 15, playing on both arenas: the condition holds.
  Conditions: none. -/
import Derived.Test.YtdhbegidnfapjaaB10
set_option linter.unusedVariables false
set_option linter.unusedSimpArgs false
namespace Go.C15
open Go Go.Xe Go.Sx

theorem do_all {p : Bo} {n : Nat} (hp : p.Ok n) (hn : n < 1000) {o : Op} (ho : o.Ok) {G : Int → Sx.Rows → Sx.Rows → Sx.Rows → Sx.Rows → Int → Int → Prop}
    (h : G 1 ((p.step o).A.toR.L.map RS.row) ((p.step o).A.toR.F.map irow) ((p.step o).H.map hr) ((p.step o).A.T.map Slot.row) (linkOf (p.step o).A.c) (live (p.step o).A.T)) :
    ∀ e l f k S c v, doRel [.int o.kind, .int o.which, .int o.x, .lst (p.A.toR.L.map RS.row), .lst (p.A.toR.F.map irow), .lst (p.H.map hr), .lst (p.A.T.map Slot.row), .int (linkOf p.A.c), .int (live p.A.T)] [.int e, .lst l, .lst f, .lst k, .lst S, .int c, .int v] → G e l f k S c v := by
  intro e l f k S c v hh
  have := hh.of o p n ho hp hn rfl
  simp only [Bo.dats, Rf.dats, Ar.dats, List.cons_append, List.nil_append, List.cons.injEq, Dat.int.injEq, Dat.lst.injEq, and_true] at this
  obtain ⟨rfl, rfl, rfl, rfl, rfl, rfl, rfl⟩ := this
  exact h
theorem same_all {p : Bo} {n : Nat} (hp : p.Ok n) (hn : n < 1000) {G : Int → Sx.Rows → Sx.Rows → Sx.Rows → Sx.Rows → Int → Int → Prop}
    (h : G 1 (p.A.toR.L.map RS.row) (p.A.toR.F.map irow) (p.H.map hr) (p.A.T.map Slot.row) (linkOf p.A.c) (live p.A.T)) :
    ∀ e l f k S c v, sameRel [.lst (p.A.toR.L.map RS.row), .lst (p.A.toR.F.map irow), .lst (p.H.map hr), .lst (p.A.T.map Slot.row), .int (linkOf p.A.c), .int (live p.A.T)] [.int e, .lst l, .lst f, .lst k, .lst S, .int c, .int v] → G e l f k S c v := by
  intro e l f k S c v hh
  have := hh.of p n hp hn rfl
  simp only [Bo.dats, Rf.dats, Ar.dats, List.cons_append, List.nil_append, List.cons.injEq, Dat.int.injEq, Dat.lst.injEq, and_true] at this
  obtain ⟨rfl, rfl, rfl, rfl, rfl, rfl, rfl⟩ := this
  exact h

theorem bot0 : Bo.Ok ⟨⟨[], []⟩, []⟩ 0 where
  ok := ⟨trivial, by simp, fun s h => (by simp at h)⟩
  tl := by simp
  gl := fun s h => (by simp at h)
  hl := by simp
  hu := fun s h => (by simp at h)
  xs := fun s h => (by simp at h)
  fr := fun s h => (by simp at h)
  us := fun s h => (by simp at h)

theorem ogetD2 (p : Op) : (Op.row p).getD 2 (.int 0) = .int p.x := rfl
theorem playL_start (g : List Dat) : playLInv g [.int 0, .lst ([] : Sx.Rows), .lst ([] : Sx.Rows), .lst ([] : Sx.Rows), .lst ([] : Sx.Rows), .int 0, .int 0] := ⟨⟨⟨[], []⟩, []⟩, 0, bot0, by omega, rfl⟩
theorem playL_all {g : List Dat} {G : Int → Sx.Rows → Sx.Rows → Sx.Rows → Sx.Rows → Int → Int → Prop}
    (h : ∀ (p : Bo) (k : Nat), p.Ok k → k ≤ 60 → G k (p.A.toR.L.map RS.row) (p.A.toR.F.map irow) (p.H.map hr) (p.A.T.map Slot.row) (linkOf p.A.c) (live p.A.T)) :
    ∀ e l f k S c v, playLInv g [.int e, .lst l, .lst f, .lst k, .lst S, .int c, .int v] → G e l f k S c v := by
  rintro e l f k S c v ⟨p, n, hp, hn, e⟩
  simp only [Bo.dats, Rf.dats, Ar.dats, List.cons_append, List.nil_append, List.cons.injEq, Dat.int.injEq, Dat.lst.injEq, and_true] at e
  obtain ⟨rfl, rfl, rfl, rfl, rfl, rfl, rfl⟩ := e
  exact h p n hp hn
theorem playL_mu {g : List Dat} {k : Nat} (hk : (k : Int) < 60) (d d' : List Dat) : playLMu g (.int ((k : Int) + 1) :: d) < playLMu g (.int (k : Int) :: d') := by
  show (60 - ((k : Int) + 1)).toNat < (60 - (k : Int)).toNat
  omega
theorem playL_inv {g : List Dat} {p : Bo} {k : Nat} (hp : p.Ok (k + 1)) (hk : (k : Int) < 60) : playLInv g [.int ((k : Int) + 1), .lst (p.A.toR.L.map RS.row), .lst (p.A.toR.F.map irow), .lst (p.H.map hr), .lst (p.A.T.map Slot.row), .int (linkOf p.A.c), .int (live p.A.T)] := ⟨p, k + 1, hp, by omega, rfl⟩

theorem vcPlay_ok : vcPlay := by
  unfold vcPlay Nd
  intro x0 hp
  obtain ⟨L, hL, e⟩ := hp
  simp only [List.cons.injEq, Dat.lst.injEq, and_true] at e
  subst e
  refine And.intro (playL_start _) fun _ => playL_all fun p k hp hk => ?_
  simp only [List.length_map, Int.lt_irrefl, not_false_eq_true, true_and, true_implies, forall_const, need_known, need_twice, implies_true, and_true, eq_self, not_true_eq_false, false_implies]
  have hend : samePre [.lst (p.A.toR.L.map RS.row), .lst (p.A.toR.F.map irow), .lst (p.H.map hr), .lst (p.A.T.map Slot.row), .int (linkOf p.A.c), .int (live p.A.T)] := ⟨p, k, hp, by omega, rfl⟩
  refine And.intro (fun hkl => And.intro (fun hk6 => ?_) fun _ => ?_) fun _ => ?_
  · obtain ⟨o, ho⟩ := op_get (L := L) (i := (k : Int)) (by omega) hkl
    have hoo := hL o (List.mem_of_getElem? ho)
    simp only [cellAt_map ho, ogetD0, ogetD1, ogetD2, toInt_int]
    refine And.intro (by omega) fun _ => And.intro (by omega) fun _ => ?_
    refine And.intro ⟨o, p, k, hoo, hp, by omega, rfl⟩ fun _ => do_all hp (by omega) hoo ?_
    have hq := hp.step (by omega) hoo
    generalize p.step o = q at hq
    simp only [Int.reduceEq, not_false_eq_true, true_and, true_implies, false_implies, and_true]
    refine And.intro ⟨q, k + 1, hq, by omega, rfl⟩ fun _ => same_all hq (by omega) ?_
    simp only [Int.reduceEq, not_false_eq_true, true_and, true_implies, false_implies, and_true]
    refine And.intro (by omega) fun _ => And.intro (playL_inv hq hk6) fun _ => playL_mu hk6 _ _
  all_goals
    refine And.intro hend fun _ => same_all hp (by omega) ?_
    simp only [true_implies, not_true_eq_false, false_implies, and_true, eq_self]
    refine And.intro rfl fun _ => lives_all ?_
    exact ⟨trivial, rfl⟩

end Go.C15
