/- Chapter 15, an operation on both arenas: the condition holds.
  Conditions: none. -/
import Derived.Test.YtdhbegidnfapjaaB8
set_option linter.unusedVariables false
set_option linter.unusedSimpArgs false
namespace Go.C15
open Go Go.Xe Go.Sx

theorem pick_all {o : Op} {H : List Hd} (ho : o.Ok) (hH : HOk H) {G : Int → Int → Prop} (h : G (pickH o H).1 (pickH o H).2) : ∀ a b, pickRel [.int o.kind, .int o.which, .int o.x, .lst (H.map hr)] [.int a, .int b] → G a b := by
  intro a b hh
  have := hh.of o H ho hH rfl
  simp only [hr, hrow, List.cons.injEq, Dat.int.injEq, and_true] at this
  obtain ⟨rfl, rfl⟩ := this
  exact h
theorem rtake_all {R : Rf} {x : Int} (hR : R.Ok) {G : Sx.Rows → Sx.Rows → Int → Int → Prop} (h : G ((R.take x).L.map RS.row) ((R.take x).F.map irow) R.tidx R.tgen) :
    ∀ l f i g, rtakeRel [.lst (R.L.map RS.row), .lst (R.F.map irow), .int x] [.lst l, .lst f, .int i, .int g] → G l f i g := by
  intro l f i g hh
  have := hh.of R x hR rfl
  simp only [Rf.dats, List.cons_append, List.nil_append, List.cons.injEq, Dat.int.injEq, Dat.lst.injEq, and_true] at this
  obtain ⟨rfl, rfl, rfl, rfl⟩ := this
  exact h
theorem rfree_all {R : Rf} {i g : Int} (hR : R.Ok) {G : Sx.Rows → Sx.Rows → Int → Int → Prop} (h1 : R.valid i g = true → G ((R.free i).L.map RS.row) ((R.free i).F.map irow) (rxAt R.L i.toNat) 0) (h2 : R.valid i g = false → G (R.L.map RS.row) (R.F.map irow) 0 11) :
    ∀ l f x e, rfreeRel [.lst (R.L.map RS.row), .lst (R.F.map irow), .int i, .int g] [.lst l, .lst f, .int x, .int e] → G l f x e := by
  intro l f x e hh
  have := hh.of R i g hR rfl
  cases hv : R.valid i g with
  | true =>
    rw [hv, if_pos rfl] at this
    simp only [Rf.dats, List.cons_append, List.nil_append, List.cons.injEq, Dat.int.injEq, Dat.lst.injEq, and_true] at this
    obtain ⟨rfl, rfl, rfl, rfl⟩ := this
    exact h1 hv
  | false =>
    rw [hv, if_neg (by simp)] at this
    simp only [Rf.dats, List.cons_append, List.nil_append, List.cons.injEq, Dat.int.injEq, Dat.lst.injEq, and_true] at this
    obtain ⟨rfl, rfl, rfl, rfl⟩ := this
    exact h2 hv
theorem runtake_all {R : Rf} {i g : Int} (hR : R.Ok) {G : Sx.Rows → Sx.Rows → Int → Prop} (h : G ((R.untake i g).1.L.map RS.row) ((R.untake i g).1.F.map irow) (R.untake i g).2) :
    ∀ l f e, runtakeRel [.lst (R.L.map RS.row), .lst (R.F.map irow), .int i, .int g] [.lst l, .lst f, .int e] → G l f e := by
  intro l f e hh
  have := hh.of R i g hR rfl
  simp only [Rf.dats, List.cons_append, List.nil_append, List.cons.injEq, Dat.int.injEq, Dat.lst.injEq, and_true] at this
  obtain ⟨rfl, rfl, rfl⟩ := this
  exact h
theorem runfree_all {R : Rf} {i g x : Int} (hR : R.Ok) {G : Sx.Rows → Sx.Rows → Int → Prop} (h : G ((R.unfree i g x).1.L.map RS.row) ((R.unfree i g x).1.F.map irow) (R.unfree i g x).2) :
    ∀ l f e, runfreeRel [.lst (R.L.map RS.row), .lst (R.F.map irow), .int i, .int g, .int x] [.lst l, .lst f, .int e] → G l f e := by
  intro l f e hh
  have := hh.of R i g x hR rfl
  simp only [Rf.dats, List.cons_append, List.nil_append, List.cons.injEq, Dat.int.injEq, Dat.lst.injEq, and_true] at this
  obtain ⟨rfl, rfl, rfl⟩ := this
  exact h
theorem aget_all {A : Ar} {i g : Int} (hA : A.Ok) {G : Int → Int → Sx.Rows → Int → Int → Prop} (h1 : A.valid i g = true → G (xAt A.T i.toNat) 0 (A.T.map Slot.row) (linkOf A.c) (live A.T)) (h2 : A.valid i g = false → G 0 11 (A.T.map Slot.row) (linkOf A.c) (live A.T)) :
    ∀ x e S f v, agetRel [.int i, .int g, .lst (A.T.map Slot.row), .int (linkOf A.c), .int (live A.T)] [.int x, .int e, .lst S, .int f, .int v] → G x e S f v := by
  intro x e S f v hh
  have := hh.of A i g hA rfl
  cases hv : A.valid i g with
  | true =>
    rw [hv, if_pos rfl] at this
    simp only [Ar.dats, List.cons_append, List.nil_append, List.cons.injEq, Dat.int.injEq, Dat.lst.injEq, and_true] at this
    obtain ⟨rfl, rfl, rfl, rfl, rfl⟩ := this
    exact h1 hv
  | false =>
    rw [hv, if_neg (by simp)] at this
    simp only [Ar.dats, List.cons_append, List.nil_append, List.cons.injEq, Dat.int.injEq, Dat.lst.injEq, and_true] at this
    obtain ⟨rfl, rfl, rfl, rfl, rfl⟩ := this
    exact h2 hv
theorem aset_all {A : Ar} {i g x : Int} (hA : A.Ok) {G : Int → Sx.Rows → Int → Int → Prop} (h1 : A.valid i g = true → G 0 ((A.set i x).T.map Slot.row) (linkOf (A.set i x).c) (live (A.set i x).T)) (h2 : A.valid i g = false → G 11 (A.T.map Slot.row) (linkOf A.c) (live A.T)) :
    ∀ e S f v, asetRel [.int i, .int g, .int x, .lst (A.T.map Slot.row), .int (linkOf A.c), .int (live A.T)] [.int e, .lst S, .int f, .int v] → G e S f v := by
  intro e S f v hh
  have := hh.of A i g x hA rfl
  cases hv : A.valid i g with
  | true =>
    rw [hv, if_pos rfl] at this
    simp only [Ar.dats, List.cons.injEq, Dat.int.injEq, Dat.lst.injEq, and_true] at this
    obtain ⟨rfl, rfl, rfl, rfl⟩ := this
    exact h1 hv
  | false =>
    rw [hv, if_neg (by simp)] at this
    simp only [Ar.dats, List.cons.injEq, Dat.int.injEq, Dat.lst.injEq, and_true] at this
    obtain ⟨rfl, rfl, rfl, rfl⟩ := this
    exact h2 hv
theorem auntake_all {A : Ar} {i g : Int} (hA : A.Ok) {G : Int → Sx.Rows → Int → Int → Prop} (h : G (A.untake i g).2 ((A.untake i g).1.T.map Slot.row) (linkOf (A.untake i g).1.c) (live (A.untake i g).1.T)) :
    ∀ e S f v, auntakeRel [.int i, .int g, .lst (A.T.map Slot.row), .int (linkOf A.c), .int (live A.T)] [.int e, .lst S, .int f, .int v] → G e S f v := by
  intro e S f v hh
  have := hh.of A i g hA rfl
  simp only [Ar.dats, List.cons.injEq, Dat.int.injEq, Dat.lst.injEq, and_true] at this
  obtain ⟨rfl, rfl, rfl, rfl⟩ := this
  exact h
theorem aunfree_all {A : Ar} {i g x : Int} (hA : A.Ok) {G : Int → Sx.Rows → Int → Int → Prop} (h : G (A.unfree i g x).2 ((A.unfree i g x).1.T.map Slot.row) (linkOf (A.unfree i g x).1.c) (live (A.unfree i g x).1.T)) :
    ∀ e S f v, aunfreeRel [.int i, .int g, .int x, .lst (A.T.map Slot.row), .int (linkOf A.c), .int (live A.T)] [.int e, .lst S, .int f, .int v] → G e S f v := by
  intro e S f v hh
  have := hh.of A i g x hA rfl
  simp only [Ar.dats, List.cons.injEq, Dat.int.injEq, Dat.lst.injEq, and_true] at this
  obtain ⟨rfl, rfl, rfl, rfl⟩ := this
  exact h

theorem Bo.inj {p q : Bo} {n m : Nat} (hp : p.Ok n) (hq : q.Ok m) (h : p.dats = q.dats) : p = q := by
  obtain ⟨A, H⟩ := p
  obtain ⟨B, K⟩ := q
  have h' : Dat.lst (A.toR.L.map RS.row) :: Dat.lst (A.toR.F.map irow) :: Dat.lst (H.map hr) :: A.dats = Dat.lst (B.toR.L.map RS.row) :: Dat.lst (B.toR.F.map irow) :: Dat.lst (K.map hr) :: B.dats := h
  simp only [List.cons.injEq, Dat.lst.injEq] at h'
  obtain ⟨_, _, h3, h4⟩ := h'
  have hAB : A = B := Ar.inj hp.ok hq.ok h4
  rw [hAB, map_inj' hr_inj h3]

theorem toR_x (A : Ar) (i : Nat) : rxAt A.toR.L i = xAt A.T i := toR_xAt A.T i

theorem vcDo_ok : vcDo := by
  unfold vcDo vcDo6 vcDo5 vcDo4 vcDo3 vcDo2 vcDo1 vcDo0 Nd
  intro x0 x1 x2 x3 x4 x5 x6 x7 x8 hp
  obtain ⟨o, p, n, ho, hP, hn, e⟩ := hp
  obtain ⟨A, H⟩ := p
  simp only [Bo.dats, Rf.dats, Ar.dats, Op.row, List.cons_append, List.nil_append, List.cons.injEq, Dat.int.injEq, Dat.lst.injEq, and_true] at e
  obtain ⟨rfl, rfl, rfl, rfl, rfl, rfl, rfl, rfl, rfl⟩ := e
  have hrel : ∀ e, e = .int 1 :: (Bo.step ⟨A, H⟩ o).dats → doRel [.int o.kind, .int o.which, .int o.x, .lst (A.toR.L.map RS.row), .lst (A.toR.F.map irow), .lst (H.map hr), .lst (A.T.map Slot.row), .int (linkOf A.c), .int (live A.T)] e := by
    refine fun e he => ⟨fun o' q m ho' hq hm hd => ?_⟩
    have hd' : o.row ++ (⟨A, H⟩ : Bo).dats = o'.row ++ q.dats := hd
    obtain ⟨h1, h2⟩ := app_inj hd' rfl
    rw [← opair_inj o o' h1, ← Bo.inj hP hq h2, he]
  have hA : A.Ok := hP.ok
  have hHl : H.length ≤ n := hP.hl
  have hHO : HOk H := ⟨by omega, hP.hu⟩
  have hR := toR_ok hA
  have hx := ho.x
  have hk := ho.k
  refine ⟨?_, pick_all ho hHO ?_⟩
  · have hv := vcPick_ok _ _ _ _ ⟨o, H, ho, hHO, rfl⟩
    simp only [Nd, need_twice, need_known, implies_true, and_true] at hv ⊢
    exact hv
  obtain ⟨⟨ha0, ha1⟩, hb0, hb1⟩ := pick_u32 (o := o) hP.hu
  have hst : Bo.step ⟨A, H⟩ o = (if o.kind.tmod 8 = 0 ∨ o.kind.tmod 8 = 1 ∨ o.kind.tmod 8 = 2 then ⟨A.take o.x, H ++ [((A.tidx : Int), A.tgen)]⟩
    else if o.kind.tmod 8 = 3 ∨ o.kind.tmod 8 = 4 then ⟨if A.valid (pickH o H).1 (pickH o H).2 then A.free (pickH o H).1 else A, H⟩
    else if o.kind.tmod 8 = 5 then ⟨if A.valid (pickH o H).1 (pickH o H).2 then A.set (pickH o H).1 o.x else A, H⟩
    else if o.kind.tmod 8 = 6 then ⟨(A.untake (pickH o H).1 (pickH o H).2).1, H⟩
    else ⟨(A.unfree (pickH o H).1 (pickH o H).2 o.x).1, H⟩ : Bo) := rfl
  generalize hpk : pickH o H = pk at ha0 ha1 hb0 hb1 hst
  obtain ⟨a, b⟩ := pk
  have hkm := tmod_range hk.1 (show (0 : Int) < 8 by decide)
  simp only [List.length_map, Int.lt_irrefl, not_false_eq_true, true_and, true_implies, forall_const, need_known, need_twice, implies_true, and_true, eq_self] at ha0 ha1 hb0 hb1 hst ⊢
  refine And.intro (by omega) fun _ => ?_
  have htk : ∀ hk : o.kind.tmod 8 = 0 ∨ o.kind.tmod 8 = 1 ∨ o.kind.tmod 8 = 2, doRel [.int o.kind, .int o.which, .int o.x, .lst (A.toR.L.map RS.row), .lst (A.toR.F.map irow), .lst (H.map hr), .lst (A.T.map Slot.row), .int (linkOf A.c), .int (live A.T)]
      [.int 1, .lst ((A.take o.x).toR.L.map RS.row), .lst ((A.take o.x).toR.F.map irow), .lst (H.map hr ++ chunk 2 1 [.int (A.tidx : Int), .int A.tgen]), .lst ((A.take o.x).T.map Slot.row), .int (linkOf (A.take o.x).c), .int (live (A.take o.x).T)] := fun hk => hrel _ (by rw [hst, if_pos hk, app_hd]; rfl)
  have hT := hA.take o.x (by have := hP.tl; have h2 : A.T.length ≤ n := this; omega)
  have hTR := toR_ok hT.ok
  have htg := hA.tgen_u32
  iterate 3
    refine And.intro (fun hk => ?_) fun _ => ?_
    · refine And.intro ⟨A, o.x, hA, by have := hP.tl; have h2 : A.T.length ≤ n := this; omega, rfl⟩ fun _ => take_all hA ?_
      refine And.intro ⟨A.toR, o.x, hR, rfl⟩ fun _ => rtake_all hR ?_
      refine And.intro (by omega) fun _ => ?_
      simp only [toR_tidx, toR_tgen, ← toR_take, true_implies, not_true_eq_false, false_implies, and_true]
      refine And.intro ⟨A.take o.x, _, _, hT.ok, htg.1.1, htg.1.2, htg.2.1, htg.2.2, rfl⟩ fun _ => aget_all hT.ok (fun hv => ?_) (fun hv => ?_) <;>
      (refine And.intro ⟨A.take o.x, _, _, hT.ok, htg.1.1, htg.1.2, htg.2.1, htg.2.2, rfl⟩ fun _ => valid_all hT.ok ?_
       refine And.intro ⟨(A.take o.x).toR, _, _, hTR, htg.1, htg.2, rfl⟩ fun _ => rvalid_all hTR ?_
       rw [toR_valid, hv]
       simp only [beq_self_eq_true, true_implies, not_true_eq_false, false_implies, and_true, true_and, eq_self]
       refine And.intro ⟨A.take o.x, _, _, hT.ok, htg.1.1, htg.1.2, htg.2.1, htg.2.2, rfl⟩ fun _ => valid_all hT.ok ?_
       rw [hv]
       simp only [beq_self_eq_true, true_implies, not_true_eq_false, false_implies, and_true, true_and, eq_self, decide_true, decide_false, Int.reduceEq, not_false_eq_true]
       exact htk (by omega))
  have hat : atPre [.int a, .int b, .lst (A.T.map Slot.row), .int (linkOf A.c), .int (live A.T)] := ⟨A, a, b, hA, ha0, ha1, hb0, hb1, rfl⟩
  have hrt : rhPre [.lst (A.toR.L.map RS.row), .lst (A.toR.F.map irow), .int a, .int b] := ⟨A.toR, a, b, hR, ⟨ha0, ha1⟩, ⟨hb0, hb1⟩, rfl⟩
  iterate 2
    refine And.intro (fun hk => ?_) fun _ => ?_
    · refine And.intro hat fun _ => free_all hA (fun hv => ?_) (fun hv => ?_)
      · have hF : (A.free a).Ok := (AOk.free hP.a hn ha0 hv).ok
        have hFR := toR_ok hF
        refine And.intro hrt fun _ => rfree_all hR (fun _ => ?_) (fun h => by rw [toR_valid, hv] at h; cases h)
        simp only [toR_x, ← toR_free, true_implies, not_true_eq_false, false_implies, and_true, true_and]
        refine And.intro ⟨A.free a, _, _, hF, ha0, ha1, hb0, hb1, rfl⟩ fun _ => aget_all hF (fun hv => ?_) (fun hv => ?_) <;>
        (refine And.intro ⟨A.free a, _, _, hF, ha0, ha1, hb0, hb1, rfl⟩ fun _ => valid_all hF ?_
         refine And.intro ⟨(A.free a).toR, _, _, hFR, ⟨ha0, ha1⟩, ⟨hb0, hb1⟩, rfl⟩ fun _ => rvalid_all hFR ?_
         rw [toR_valid, hv]
         simp only [beq_self_eq_true, true_implies, not_true_eq_false, false_implies, and_true, true_and, eq_self]
         refine And.intro ⟨A.free a, _, _, hF, ha0, ha1, hb0, hb1, rfl⟩ fun _ => valid_all hF ?_
         rw [hv]
         simp only [beq_self_eq_true, true_implies, not_true_eq_false, false_implies, and_true, true_and, eq_self, decide_true, decide_false, Int.reduceEq, not_false_eq_true]
         exact hrel _ (by rw [hst, if_neg (by omega), if_pos (by omega), if_pos (by assumption)]; rfl))
      · refine And.intro hrt fun _ => rfree_all hR (fun h => by rw [toR_valid, hv] at h; cases h) (fun _ => ?_)
        simp only [true_implies, not_true_eq_false, false_implies, and_true, true_and]
        refine And.intro hat fun _ => aget_all hA (fun hv => ?_) (fun hv => ?_) <;>
        (refine And.intro hat fun _ => valid_all hA ?_
         refine And.intro hrt fun _ => rvalid_all hR ?_
         rw [toR_valid, hv]
         simp only [beq_self_eq_true, true_implies, not_true_eq_false, false_implies, and_true, true_and, eq_self]
         refine And.intro hat fun _ => valid_all hA ?_
         rw [hv]
         simp only [beq_self_eq_true, true_implies, not_true_eq_false, false_implies, and_true, true_and, eq_self, decide_true, decide_false, Int.reduceEq, not_false_eq_true]
         exact hrel _ (by rw [hst, if_neg (by omega), if_pos (by omega), if_neg (by simp only [*]; simp)]; rfl))
  refine And.intro (fun hk => ?_) fun _ => ?_
  · refine And.intro ⟨A, a, b, o.x, hA, ⟨ha0, ha1⟩, ⟨hb0, hb1⟩, rfl⟩ fun _ => aset_all hA (fun hv => ?_) (fun hv => ?_)
    · have hS : (A.set a o.x).Ok := (AOk.set hP.a hv hx).ok
      have hSR := toR_ok hS
      have hLl : A.toR.L.length = A.T.length := by unfold Ar.toR; simp
      have hFl : A.toR.F.length ≤ 100000 := hR.fsize
      have hsz := hA.size
      have hlt : a < (A.T.length : Int) := by
        obtain ⟨s, hs, _⟩ := valid_at hv
        have := (List.getElem?_eq_some_iff.1 hs).1
        omega
      have hset : setAt (A.toR.L.map RS.row) a 2 (.int o.x) = (A.set a o.x).toR.L.map RS.row := by rw [setAt_map (fun s => { s with x := o.x }) (fun _ => rfl), toR_set]; rfl
      refine And.intro hrt fun _ => rvalid_all hR ?_
      rw [toR_valid, hv, hset]
      simp only [beq_self_eq_true, true_implies, not_true_eq_false, false_implies, and_true, true_and, eq_self, decide_true, decide_false, Int.reduceEq, not_false_eq_true]
      refine And.intro (by omega) fun _ => And.intro (by omega) fun _ => And.intro (by omega) fun _ => And.intro (by omega) fun _ => ?_
      refine And.intro ⟨A.set a o.x, _, _, hS, ha0, ha1, hb0, hb1, rfl⟩ fun _ => aget_all hS (fun hv => ?_) (fun hv => ?_) <;>
      (refine And.intro ⟨A.set a o.x, _, _, hS, ha0, ha1, hb0, hb1, rfl⟩ fun _ => valid_all hS ?_
       refine And.intro ⟨(A.set a o.x).toR, _, _, hSR, ⟨ha0, ha1⟩, ⟨hb0, hb1⟩, rfl⟩ fun _ => rvalid_all hSR ?_
       rw [toR_valid, hv]
       simp only [beq_self_eq_true, true_implies, not_true_eq_false, false_implies, and_true, true_and, eq_self]
       refine And.intro ⟨A.set a o.x, _, _, hS, ha0, ha1, hb0, hb1, rfl⟩ fun _ => valid_all hS ?_
       rw [hv]
       simp only [beq_self_eq_true, true_implies, not_true_eq_false, false_implies, and_true, true_and, eq_self, decide_true, decide_false, Int.reduceEq, not_false_eq_true]
       exact hrel _ (by rw [hst, if_neg (by omega), if_neg (by omega), if_pos (by omega), if_pos (by assumption)]; rfl))
    · refine And.intro hrt fun _ => rvalid_all hR ?_
      rw [toR_valid, hv]
      simp only [beq_self_eq_true, true_implies, not_true_eq_false, false_implies, and_true, true_and, eq_self, decide_true, decide_false, Int.reduceEq, not_false_eq_true]
      refine And.intro hat fun _ => aget_all hA (fun hv => ?_) (fun hv => ?_) <;>
      (refine And.intro hat fun _ => valid_all hA ?_
       refine And.intro hrt fun _ => rvalid_all hR ?_
       rw [toR_valid, hv]
       simp only [beq_self_eq_true, true_implies, not_true_eq_false, false_implies, and_true, true_and, eq_self]
       refine And.intro hat fun _ => valid_all hA ?_
       rw [hv]
       simp only [beq_self_eq_true, true_implies, not_true_eq_false, false_implies, and_true, true_and, eq_self, decide_true, decide_false, Int.reduceEq, not_false_eq_true]
       exact hrel _ (by rw [hst, if_neg (by omega), if_neg (by omega), if_pos (by omega), if_neg (by simp only [*]; simp)]; rfl))
  refine And.intro (fun hk => ?_) fun _ => ?_
  · refine And.intro hat fun _ => auntake_all hA ?_
    refine And.intro hrt fun _ => runtake_all hR ?_
    rw [toR_untake]
    have hU : (A.untake a b).1.Ok := (AOk.untake hP.a ha0).ok
    have hUR := toR_ok hU
    simp only [true_implies, not_true_eq_false, false_implies, and_true, true_and]
    refine And.intro ⟨(A.untake a b).1, _, _, hU, ha0, ha1, hb0, hb1, rfl⟩ fun _ => aget_all hU (fun hv => ?_) (fun hv => ?_) <;>
    (refine And.intro ⟨(A.untake a b).1, _, _, hU, ha0, ha1, hb0, hb1, rfl⟩ fun _ => valid_all hU ?_
     refine And.intro ⟨(A.untake a b).1.toR, _, _, hUR, ⟨ha0, ha1⟩, ⟨hb0, hb1⟩, rfl⟩ fun _ => rvalid_all hUR ?_
     rw [toR_valid, hv]
     simp only [beq_self_eq_true, true_implies, not_true_eq_false, false_implies, and_true, true_and, eq_self]
     refine And.intro ⟨(A.untake a b).1, _, _, hU, ha0, ha1, hb0, hb1, rfl⟩ fun _ => valid_all hU ?_
     rw [hv]
     simp only [beq_self_eq_true, true_implies, not_true_eq_false, false_implies, and_true, true_and, eq_self, decide_true, decide_false, Int.reduceEq, not_false_eq_true]
     exact hrel _ (by rw [hst, if_neg (by omega), if_neg (by omega), if_neg (by omega), if_pos (by omega)]; rfl))
  refine And.intro (fun hk => ?_) fun h7 => by omega
  refine And.intro ⟨A, a, b, o.x, hA, ⟨ha0, ha1⟩, ⟨hb0, hb1⟩, rfl⟩ fun _ => aunfree_all hA ?_
  refine And.intro ⟨A.toR, a, b, o.x, hR, ⟨ha0, ha1⟩, ⟨hb0, hb1⟩, rfl⟩ fun _ => runfree_all hR ?_
  rw [toR_unfree]
  have hU : (A.unfree a b o.x).1.Ok := (AOk.unfree hP.a hb0 hx).ok
  have hUR := toR_ok hU
  simp only [true_implies, not_true_eq_false, false_implies, and_true, true_and]
  refine And.intro ⟨(A.unfree a b o.x).1, _, _, hU, ha0, ha1, hb0, hb1, rfl⟩ fun _ => aget_all hU (fun hv => ?_) (fun hv => ?_) <;>
  (refine And.intro ⟨(A.unfree a b o.x).1, _, _, hU, ha0, ha1, hb0, hb1, rfl⟩ fun _ => valid_all hU ?_
   refine And.intro ⟨(A.unfree a b o.x).1.toR, _, _, hUR, ⟨ha0, ha1⟩, ⟨hb0, hb1⟩, rfl⟩ fun _ => rvalid_all hUR ?_
   rw [toR_valid, hv]
   simp only [beq_self_eq_true, true_implies, not_true_eq_false, false_implies, and_true, true_and, eq_self]
   refine And.intro ⟨(A.unfree a b o.x).1, _, _, hU, ha0, ha1, hb0, hb1, rfl⟩ fun _ => valid_all hU ?_
   rw [hv]
   simp only [beq_self_eq_true, true_implies, not_true_eq_false, false_implies, and_true, true_and, eq_self, decide_true, decide_false, Int.reduceEq, not_false_eq_true]
   exact hrel _ (by rw [hst, if_neg (by omega), if_neg (by omega), if_neg (by omega), if_neg (by omega)]; rfl))

end Go.C15
