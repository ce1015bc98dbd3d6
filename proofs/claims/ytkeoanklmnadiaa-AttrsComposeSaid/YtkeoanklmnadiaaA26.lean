/- Chapter 13, AttrsCompose: the condition holds.
  Conditions: none. -/
import Derived.Test.YtkeoanklmnadiaaA25
set_option linter.unusedVariables false
set_option linter.unusedSimpArgs false
namespace Go.C13
open Go Go.Xe Go.Sx

section
variable {A : List Ed} {i k : Int} {a : Ed} {n v : Str} {d : Bool}
theorem last_start : lastInv [.lst (A.map Ed.row), .int i] [.int 0, .str [], .bool false, .str []] := by
  simp only [lastInv, List.length_map, eds_map]
  exact ⟨by omega, by omega, rfl⟩
theorem last_step1 (ha : A[k.toNat]? = some a) (hn : a.n = nameOf i) (h : lastInv [.lst (A.map Ed.row), .int i] [.int k, .str n, .bool d, .str v]) : lastInv [.lst (A.map Ed.row), .int i] [.int (k + 1), .str a.n, .bool a.d, .str a.v] := by
  simp only [lastInv, List.length_map, eds_map] at h ⊢
  have hlt := (List.getElem?_eq_some_iff.1 ha).1
  refine ⟨by omega, by omega, ?_⟩
  rw [toNat_succ h.1, take_succ_at ha, lastW_snoc, if_pos hn]
theorem last_step2 (ha : A[k.toNat]? = some a) (hn : ¬ a.n = nameOf i) (h : lastInv [.lst (A.map Ed.row), .int i] [.int k, .str n, .bool d, .str v]) : lastInv [.lst (A.map Ed.row), .int i] [.int (k + 1), .str n, .bool d, .str v] := by
  simp only [lastInv, List.length_map, eds_map] at h ⊢
  have hlt := (List.getElem?_eq_some_iff.1 ha).1
  refine ⟨by omega, by omega, ?_⟩
  rw [toNat_succ h.1, take_succ_at ha, lastW_snoc, if_neg hn]
  exact h.2.2
theorem last_mu (hk : k < A.length) (x y : List Dat) : lastMu [.lst (A.map Ed.row), .int i] (.int (k + 1) :: x) < lastMu [.lst (A.map Ed.row), .int i] (.int k :: y) := by
  simp only [lastMu, List.length_map]
  omega
theorem last_end (hk : ¬ k < A.length) (h : lastInv [.lst (A.map Ed.row), .int i] [.int k, .str n, .bool d, .str v]) : (⟨n, d, v⟩ : Ed) = lastW A (nameOf i) := by
  simp only [lastInv, List.length_map, eds_map] at h
  rw [h.2.2, List.take_of_length_le (by omega)]
theorem last_ge (h : lastInv [.lst (A.map Ed.row), .int i] [.int k, .str n, .bool d, .str v]) : 0 ≤ k := by
  simp only [lastInv] at h
  exact h.1
end

theorem vcComps_ok : vcComps := by
  unfold vcComps vcComps0 vcComps1 Nd
  intro x0 x1 x2 x3 x4 x5 x6 x7 x8 x9 x10 x11 x12 x13 x14 x15 x16 x17 x18 x19 x20 x21 x22 x23 x24 x25 x26 x27 x28 x29 x30 x31 x32 x33 x34 hp
  obtain ⟨t, vs, w, ws, z, zs, h1, h2, h3, he⟩ := hp
  obtain ⟨a1, a2, a3, a4, a5, a6, a7, a8, rfl⟩ := len8 h1.2.1
  obtain ⟨b1, b2, b3, b4, b5, b6, b7, b8, b9, b10, b11, b12, rfl⟩ := len12 h2.2.1
  obtain ⟨c1, c2, c3, c4, c5, c6, c7, c8, c9, c10, c11, c12, rfl⟩ := len12 h3.2.1
  simp only [List.map_cons, List.map_nil, List.cons_append, List.nil_append, List.cons.injEq, Dat.int.injEq, and_true] at he
  obtain ⟨rfl, rfl, rfl, rfl, rfl, rfl, rfl, rfl, rfl, rfl, rfl, rfl, rfl, rfl, rfl, rfl, rfl, rfl, rfl, rfl, rfl, rfl, rfl, rfl, rfl, rfl, rfl, rfl, rfl, rfl, rfl, rfl, rfl, rfl, rfl⟩ := he
  have p1 := oflPre_of h1
  have p2 := ofwPre_of h2
  have p3 := ofwPre_of h3
  simp only [List.map_cons, List.map_nil] at p1 p2 p3
  simp only [oflRel, ofwRel]
  generalize hl : listL x0 (ints [.int x1, .int x2, .int x3, .int x4, .int x5, .int x6, .int x7, .int x8]) 8 = l
  generalize hp : listW x9 (ints [.int x10, .int x11, .int x12, .int x13, .int x14, .int x15, .int x16, .int x17, .int x18, .int x19, .int x20, .int x21]) 12 = p
  generalize hq : listW x22 (ints [.int x23, .int x24, .int x25, .int x26, .int x27, .int x28, .int x29, .int x30, .int x31, .int x32, .int x33, .int x34]) 12 = q
  have v1 : vAts l = true := by rw [← hl]; exact vAts_listL _ _
  have v2 : ckEds p = 0 := by rw [← hp]; exact ckEds_listW _ _
  have v3 : ckEds q = 0 := by rw [← hq]; exact ckEds_listW _ _
  have n1 := (vAts_ok v1).1
  have n2 : p.length ≤ 12 := by rw [← hp]; exact listW_len _ _ _
  have n3 : q.length ≤ 12 := by rw [← hq]; exact listW_len _ _ _
  have nc := compM_len p q
  have hA := isAts_of (l := l) (by omega)
  have hP := isEds_of (l := p) (by omega)
  have hQ := isEds_of (l := q) (by omega)
  have hC := isEds_of (l := compM p q) (by omega)
  have hce : cmpE p q = 0 := by unfold cmpE; rw [if_pos v2, v3]
  have hck := ckEds_compM v2 v3
  have hlast := fun n => lastW_comp (ckEds_s v2) (ckEds_s v3) n
  have hend := @comp_end l p q v1 v2 v3
  have hlen1 := rapp_len l p
  have hlen2 := rapp_len (rapp l p).1 q
  have hlen3 := app_len l (compM p q)
  have hM := isAts_of (l := (rapp l p).1) (by omega)
  have hN := isAts_of (l := (rapp (rapp l p).1 q).1) (by omega)
  have hB := isAts_of (l := (app l (compM p q)).1) (by omega)
  have hle1 : l.length + p.length ≤ 1000 := by omega
  have hle2 : (rapp l p).1.length + q.length ≤ 1000 := by omega
  simp only [p1, p2, p3, livesPre, livesRel, yesRel, compsRel, trueRel, yes_bool, plainPre, ceditsPre, rceditsPre, compPre, appPre, aePre, rappPre, samePre, at2Pre, plainRel, compRel, appRel, rappRel, sameRel, ceditsRel, rceditsRel, forall_eq, forall_eq2, ats_map, eds_map, v1, v2, v3, hce, hck, if_true, hA, hP, hQ, hC, hM, hN, hB, hle1, hle2, List.length_map, Int.lt_irrefl, not_false_eq_true, true_and, and_true, true_implies, need_twice, need_known, implies_true, not_true_eq_false, false_implies, namesInv, namesMu, nmPre, nmRel]
  generalize compM p q = c at *
  rw [← List.map_append]
  have hAl : ((p ++ q).length : Int) = p.length + q.length := by rw [List.length_append]; omega
  refine And.intro ⟨by omega, by omega⟩ fun _ i ⟨i0, i1⟩ => And.intro (fun hi => And.intro (by omega) fun _ => And.intro last_start fun _ k n d v hk => And.intro (fun hk' => ?_) fun hk' => And.intro last_start fun _ k' n' d' v' hj => And.intro (fun hj' => ?_) fun hj' => ?_) fun hi => ?_
  · have k0 := last_ge hk
    obtain ⟨a, ha⟩ := Sx.get_at (T := p ++ q) (i := k) k0 (by omega)
    simp only [cellAt_map ha, ed0, ed1, ed2, toStr_str, toBool_bool]
    repeat' first
      | exact last_step1 ha ‹_› hk
      | exact last_step2 ha ‹_› hk
      | exact last_mu (by omega) _ _
      | (refine And.intro ?_ ?_)
      | intro _
    all_goals omega
  · have k0 := last_ge hj
    obtain ⟨a, ha⟩ := Sx.get_at (T := c) (i := k') k0 (by omega)
    simp only [cellAt_map ha, ed0, ed1, ed2, toStr_str, toBool_bool]
    repeat' first
      | exact last_step1 ha ‹_› hj
      | exact last_step2 ha ‹_› hj
      | exact last_mu (by omega) _ _
      | (refine And.intro ?_ ?_)
      | intro _
    all_goals omega
  · have e1 := last_end (by omega) hk
    have e2 := last_end (by omega) hj
    rw [← hlast, ← e2] at e1
    simp only [Ed.mk.injEq] at e1
    obtain ⟨rfl, rfl, rfl⟩ := e1
    simp only [beq_self_eq_true, not_true_eq_false, false_implies, true_implies, and_true, true_and]
    repeat' first
      | (refine And.intro ?_ ?_)
      | intro _
    all_goals omega
  · refine And.intro (fun h0 h1 => ?_) fun h => h
    rcases hend h0 h1 with h | ⟨h, h'⟩
    · simp [h]
    · simp [h, h']
end Go.C13
