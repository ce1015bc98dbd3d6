/- Chapter 36, PlansSame: the plain law.
  Conditions: none. -/
import Derived.Test.YtpdcecfnlccicaaP19
set_option linter.unusedVariables false
set_option linter.unusedSimpArgs false
namespace Go.C36
open Go Go.Xe Go.Sx

/-! ## Rising subsequences of an order and of its inverse -/

theorem Vl.inv {A B : List Int} (h : ∀ (p : Nat) (x : Int), A[p]? = some x → 0 ≤ x ∧ B[x.toNat]? = some (p : Int)) : ∀ {o : List Int} {y a : Int}, 0 ≤ a → Vl A (some y) (a + 1) o → Vl B (some a) (y + 1) (o.map fun i => A.getD i.toNat 0)
  | [], y, a, _, _ => trivial
  | b :: o, y, a, ha, hv => by
    obtain ⟨h1, h2, x, h3, h4, h5⟩ := hv
    obtain ⟨k1, k2⟩ := h _ _ h3
    have e : A.getD b.toNat 0 = x := by rw [List.getD_eq_getElem?_getD, h3]; rfl
    have hyx := h4 y rfl
    rw [List.map_cons, e]
    refine ⟨by omega, k1, b, by rw [k2]; congr 1; omega, fun z hz => by simp only [Option.some.injEq] at hz; omega, Vl.inv h (by omega) h5⟩
theorem inv_lis {A B : List Int} (h : ∀ (p : Nat) (x : Int), A[p]? = some x → 0 ≤ x ∧ B[x.toNat]? = some (p : Int)) : (lis A).length ≤ (lis B).length := by
  have hv : Vl B none 0 ((lis A).map fun i => A.getD i.toNat 0) := by
    have h0 := lis_vl A
    generalize lis A = o at h0
    cases o with
    | nil => trivial
    | cons b o =>
      obtain ⟨h1, h2, x, h3, h4, h5⟩ := h0
      obtain ⟨k1, k2⟩ := h _ _ h3
      have e : A.getD b.toNat 0 = x := by rw [List.getD_eq_getElem?_getD, h3]; rfl
      rw [List.map_cons, e]
      exact ⟨k1, k1, b, by rw [k2]; congr 1; omega, (fun z hz => by cases hz), Vl.inv h (by omega) h5⟩
  have := hv.len
  rw [List.length_map] at this
  have h2 := lis_len B
  omega

/-! ## Rows and their places -/

theorem atI_map {O : List Rw} : ∀ {F : List Rw} {g : Rw}, (∀ x ∈ F, x ∈ O) → g ∈ O → atI (F.map (atR O)) (atR O g) = atR F g
  | [], g, _, _ => rfl
  | x :: F, g, hs, hg => by
    have ih := atI_map (F := F) (g := g) (fun y hy => hs y (by simp [hy])) hg
    rw [List.map_cons, atI_cons, atR_cons, ih]
    by_cases e : x = g
    · rw [if_pos (by rw [e]), if_pos e]
    · rw [if_neg (fun c => e (atR_inj (hs x (by simp)) hg c)), if_neg e]

theorem ord_map {O F G : List Rw} (hF : ∀ x ∈ F, x ∈ O) (hG : ∀ x ∈ G, x ∈ O) : ordOf (F.map (atR O)) (G.map (atR O)) = G.map (atR F) := by
  unfold ordOf
  rw [List.map_map]
  refine List.map_congr_left fun g hg => ?_
  exact atI_map hF (hG g hg)

theorem ord_inv {F G : List Rw} (hF : F.Nodup) (hG : G.Nodup) (hp : ∀ x, x ∈ F ↔ x ∈ G) : ∀ (p : Nat) (x : Int), (G.map (atR F))[p]? = some x → 0 ≤ x ∧ (F.map (atR G))[x.toNat]? = some (p : Int) := by
  intro p x hx
  rw [List.getElem?_map] at hx
  cases hg : G[p]? with
  | none => rw [hg] at hx; cases hx
  | some g =>
    rw [hg] at hx
    simp only [Option.map_some, Option.some.injEq] at hx
    subst hx
    have hm : g ∈ F := (hp g).2 (List.mem_of_getElem? hg)
    obtain ⟨h1, h2⟩ := atR_get hm
    refine ⟨h1, ?_⟩
    rw [List.getElem?_map, h2]
    simp only [Option.map_some, Option.some.injEq]
    exact atR_at (nodup_take hG hg) hg

/-- Both ways as many are kept. -/
theorem lis_both {F G : List Rw} (hF : F.Nodup) (hG : G.Nodup) (hp : ∀ x, x ∈ F ↔ x ∈ G) : (lis (G.map (atR F))).length = (lis (F.map (atR G))).length :=
  Nat.le_antisymm (inv_lis (ord_inv hF hG hp)) (inv_lis (ord_inv hG hF fun x => (hp x).symm))

/-! ## The numbers that are kept -/

theorem Vl.get_lt {l : List Int} : ∀ {o : List Int} {last : Option Int} {k : Int} {i j : Nat} {a b : Int}, Vl l last k o → o[i]? = some a → o[j]? = some b → i < j → a < b
  | c :: o, last, k, 0, j + 1, a, b, h, hi, hj, _ => by
    cases hi
    have hj' : o[j]? = some b := by simpa using hj
    have := (Vl.at h.2.2.choose_spec.2.2 hj').1
    omega
  | c :: o, last, k, i + 1, j + 1, a, b, h, hi, hj, hlt => by
    exact Vl.get_lt h.2.2.choose_spec.2.2 (by simpa using hi) (by simpa using hj) (by omega)
  | c :: o, last, k, i, 0, a, b, h, hi, hj, hlt => by omega
  | [], last, k, i, j, a, b, h, hi, hj, hlt => by simp at hi

theorem kept_nodup {f h : List Int} (hn : h.Nodup) : (keptL f h).Nodup := by
  have hv := lis_vl (ordOf f h)
  unfold keptL
  unfold List.Nodup
  rw [List.pairwise_map, List.pairwise_iff_getElem]
  intro i j hi hj hij he
  have a1 : (lis (ordOf f h))[i]? = some (lis (ordOf f h))[i] := List.getElem?_eq_getElem hi
  have a2 : (lis (ordOf f h))[j]? = some (lis (ordOf f h))[j] := List.getElem?_eq_getElem hj
  have hlt := hv.get_lt a1 a2 hij
  obtain ⟨_, b1, x, b2⟩ := hv.at a1
  obtain ⟨_, c1, y, c2⟩ := hv.at a2
  generalize (lis (ordOf f h))[i] = a at *
  generalize (lis (ordOf f h))[j] = b at *
  have la := (List.getElem?_eq_some_iff.1 b2).1
  have lb := (List.getElem?_eq_some_iff.1 c2).1
  rw [ordOf_len] at la lb
  have d1 : h[a.toNat]? = some h[a.toNat] := List.getElem?_eq_getElem la
  have d2 : h[b.toNat]? = some h[b.toNat] := List.getElem?_eq_getElem lb
  rw [List.getD_eq_getElem?_getD, List.getD_eq_getElem?_getD, d1, d2] at he
  simp only [Option.getD_some] at he
  have := (List.pairwise_iff_getElem.1 hn) a.toNat b.toNat la lb (by omega)
  exact this he
theorem kept_sub {f h : List Int} : ∀ x ∈ keptL f h, x ∈ h := by
  intro x hx
  unfold keptL at hx
  obtain ⟨a, ha, rfl⟩ := List.mem_map.1 hx
  obtain ⟨i, hi⟩ := List.mem_iff_getElem?.1 ha
  obtain ⟨_, b1, y, b2⟩ := (lis_vl (ordOf f h)).at hi
  have la := (List.getElem?_eq_some_iff.1 b2).1
  rw [ordOf_len] at la
  have d1 : h[a.toNat]? = some h[a.toNat] := List.getElem?_eq_getElem la
  rw [List.getD_eq_getElem?_getD, d1]
  exact List.getElem_mem la
theorem kept_len (f h : List Int) : (keptL f h).length = (lis (ordOf f h)).length := List.length_map _

/-- How many numbers are not kept. -/
theorem count_out {f h : List Int} (hn : h.Nodup) : h.countP (fun x => decide (x ∉ keptL f h)) + (lis (ordOf f h)).length = h.length := by
  have h1 : (h.filter fun x => decide (x ∈ keptL f h)).Perm (keptL f h) := by
    refine (List.perm_ext_iff_of_nodup (List.Pairwise.filter _ hn) (kept_nodup hn)).2 fun x => ?_
    simp only [List.mem_filter, decide_eq_true_eq]
    exact ⟨fun c => c.2, fun c => ⟨kept_sub x c, c⟩⟩
  have h2 := h1.length_eq
  rw [kept_len, ← List.countP_eq_length_filter] at h2
  have h3 := List.length_eq_countP_add_countP (fun x => decide (x ∈ keptL f h)) (l := h)
  have h4 : h.countP (fun x => decide (x ∉ keptL f h)) = h.countP (fun a => !(decide (a ∈ keptL f h))) := by
    congr 1
    funext x
    simp
  have h5 : h.countP (fun a => !(decide (a ∈ keptL f h))) = h.countP (fun a => decide ¬ (decide (a ∈ keptL f h)) = true) := by
    congr 1
    funext x
    simp
  omega

/-! ## Steps -/

theorem keepS_w1 (K : List Int) (s : Stp) : (keepS K s).w = s.w := by unfold keepS; split <;> rfl
theorem keepS_o1 (K : List Int) (s : Stp) : (keepS K s).o = s.o := by unfold keepS; split <;> rfl
theorem stay_keep (K : List Int) (s : Stp) : isStay (keepS K s) = isStay s := by unfold isStay; rw [keepS_w1]
theorem many_map_stay (K : List Int) (l : List Stp) : many isStay (l.map (keepS K)) = many isStay l := by
  unfold many
  rw [List.countP_map]
  congr 2
  funext s
  exact stay_keep K s
theorem stAll_stays {O : List Rw} : ∀ (l : List Rw) (s : TS), many isStay (stAll O l s).st = many isStay s.st + (l.filter fun x => decide (x ∈ O)).length
  | [], s => by simp [stAll]
  | x :: l, s => by
    rw [stAll, stAll_stays l]
    unfold stStep
    by_cases hm : x ∈ O
    · rw [if_pos hm, List.filter_cons_of_pos (by simp [hm]), many_snoc, List.length_cons]
      simp only [isStay, decide_true, if_true]; omega
    · rw [if_neg hm, List.filter_cons_of_neg (by simp [hm])]
      split <;> (rw [many_snoc]; simp [isStay])
theorem move_keep {K : List Int} {o : Int} : isMove (keepS K ⟨1, o, true⟩) = decide (o ∉ K) := by
  unfold keepS isMove
  by_cases h : o ∈ K
  · rw [if_pos ⟨rfl, h⟩]; simp [h]
  · rw [if_neg (fun c => h c.2)]; simp [h]
theorem move_keep' {K : List Int} {w o : Int} : isMove (keepS K ⟨w, o, false⟩) = false := by
  unfold keepS isMove
  split <;> rfl
theorem stAll_moves {O : List Rw} {K : List Int} : ∀ (l : List Rw) (s : TS), many isMove ((stAll O l s).st.map (keepS K)) = many isMove (s.st.map (keepS K)) + ((l.filter fun x => decide (x ∈ O)).map (atR O)).countP (fun o => decide (o ∉ K))
  | [], s => by simp [stAll]
  | x :: l, s => by
    rw [stAll, stAll_moves l]
    unfold stStep
    by_cases hm : x ∈ O
    · rw [if_pos hm, List.filter_cons_of_pos (by simp [hm]), List.map_append, List.map_cons, List.map_cons, List.map_nil, many_snoc, move_keep, List.countP_cons]
      split <;> omega
    · rw [if_neg hm, List.filter_cons_of_neg (by simp [hm])]
      split <;> (rw [List.map_append, List.map_cons, List.map_nil, many_snoc, move_keep']; simp)

section
variable {O N : List Rw} {P B : List Int}

theorem of_stays : many isStay (ofSteps O N P B) = ((N.filter fun x => decide (x ∈ O)).length : Int) := by
  unfold ofSteps stOut
  rw [many_map_stay, stAll_stays]
  simp [many]

/-- The moves: what stays, without what is kept. -/
theorem of_moves (hO : O.Nodup) (hN : N.Nodup) : many isMove (ofSteps O N P B) + (lis ((N.filter fun x => decide (x ∈ O)).map (atR (O.filter fun x => decide (x ∈ N))))).length = ((N.filter fun x => decide (x ∈ O)).length : Int) := by
  have hb := lvOut_bf (N := N) (P := P) (B := B) hO
  have hh := stOut_bh (O := O) (N := N) (P := P) (B := B)
  have hG : (N.filter fun x => decide (x ∈ O)).Nodup := List.Pairwise.filter _ hN
  have sG : ∀ x ∈ (N.filter fun x => decide (x ∈ O)), x ∈ O := fun x hx => by simpa using (List.mem_filter.1 hx).2
  have sF : ∀ x ∈ (O.filter fun x => decide (x ∈ N)), x ∈ O := fun x hx => (List.mem_filter.1 hx).1
  have ho := ord_map sF sG
  have hn : (stOut O N P B).bh.Nodup := by rw [hh]; exact nodup_atR hG sG
  have hc := count_out (f := (lvOut O N P B).bf) hn
  have hm : many isMove (ofSteps O N P B) = ((stOut O N P B).bh.countP (fun o => decide (o ∉ kOut O N P B)) : Int) := by
    unfold ofSteps
    conv => lhs; unfold stOut
    rw [stAll_moves, hh]
    simp [many]
  have e1 : kOut O N P B = keptL (lvOut O N P B).bf (stOut O N P B).bh := rfl
  rw [hm, e1]
  rw [hb, hh, ho] at hc
  rw [hb, hh]
  rw [List.length_map] at hc
  omega
end

section
variable {O : List Rw} {P B : List Int}

theorem filter_self : (O.filter fun x => decide (x ∈ O)) = O := List.filter_eq_self.2 fun x hx => by simp [hx]
theorem at_self (hO : O.Nodup) {i : Nat} {x : Rw} (h : O[i]? = some x) : atR O x = i := atR_at (nodup_take hO h) h
theorem lis_self (hO : O.Nodup) : (lis (O.map (atR O))).length = O.length := by
  have hall : ∀ (c k : Nat) (last : Option Int), O.length - k = c → (∀ y, last = some y → y < k) → Vl (O.map (atR O)) last k ((List.range' k c).map fun (i : Nat) => (i : Int)) := by
    intro c
    induction c with
    | zero => intro k last _ _; trivial
    | succ c ih =>
      intro k last hc hl
      rw [List.range'_succ, List.map_cons]
      have hk : k < O.length := by omega
      have hx : O[k]? = some O[k] := List.getElem?_eq_getElem hk
      refine ⟨Int.le_refl _, by omega, k, ?_, hl, ?_⟩
      · rw [Int.toNat_natCast, List.getElem?_map, hx, Option.map_some, at_self hO hx]
      · exact ih (k + 1) (some (k : Int)) (by omega) fun y hy => by simp only [Option.some.injEq] at hy; omega
  have hv := hall O.length 0 none (by omega) fun y hy => by cases hy
  have h1 := Vl.len hv
  have h2 := lis_len (O.map (atR O))
  have h3 := maxF_le (O.map (atR O))
  rw [List.length_map] at h1 h3
  rw [List.length_range'] at h1
  omega

theorem same_moves (hO : O.Nodup) : many isMove (ofSteps O O P B) = 0 := by
  have := of_moves (P := P) (B := B) hO hO
  rw [filter_self, lis_self hO] at this
  omega
theorem same_st : ∀ (l : List Rw) (s : TS), (∀ x ∈ l, x ∈ O) → (stAll O l s).st = s.st ++ l.map fun x => ⟨1, atR O x, true⟩
  | [], s, _ => by simp [stAll]
  | x :: l, s, h => by
    rw [stAll, same_st l _ fun y hy => h y (by simp [hy])]
    unfold stStep
    rw [if_pos (h x (by simp))]
    simp
theorem same_leaves : ∀ (i : Int) (l : List Rw) (s : LS), (∀ x ∈ l, x ∈ O) → (lvAll O B i l s).lv = s.lv
  | i, [], s, _ => rfl
  | i, x :: l, s, h => by
    rw [lvAll, same_leaves _ l _ fun y hy => h y (by simp [hy])]
    unfold lvStep
    rw [if_pos (h x (by simp))]
theorem same_none : ofLeaves O O P B = [] := same_leaves (O := O) 0 O ⟨P, [], []⟩ fun x hx => hx
theorem many_zero {f : Stp → Bool} {l : List Stp} (h : many f l = 0) : ∀ s ∈ l, f s = false := fun s hs => by
  unfold many at h
  have h' : l.countP f = 0 := by omega
  have := List.countP_eq_zero.1 h' s hs
  simpa using this
theorem same_steps (hO : O.Nodup) {i : Nat} (hi : i < O.length) : (ofSteps O O P B)[i]? = some ⟨1, i, false⟩ := by
  have hx : O[i]? = some O[i] := List.getElem?_eq_getElem hi
  have h1 : (ofSteps O O P B)[i]? = some (keepS (kOut O O P B) ⟨1, i, true⟩) := by
    unfold ofSteps stOut
    rw [same_st O _ fun x hx => hx, List.nil_append, List.getElem?_map, List.getElem?_map, hx, Option.map_some, Option.map_some, at_self hO hx]
  have h2 := many_zero (same_moves (P := P) (B := B) hO) _ (List.mem_of_getElem? h1)
  rw [h1]
  have h3 := keepS_w1 (kOut O O P B) ⟨1, i, true⟩
  have h4 := keepS_o1 (kOut O O P B) ⟨1, i, true⟩
  unfold isMove at h2
  congr 1
  generalize keepS (kOut O O P B) ⟨1, i, true⟩ = s at *
  cases s
  simp only at h2 h3 h4
  subst h2; subst h3; subst h4
  rfl
theorem ofSteps_len {N : List Rw} : (ofSteps O N P B).length = N.length := by
  have : ∀ (l : List Rw) (s : TS), (stAll O l s).st.length = s.st.length + l.length := by
    intro l
    induction l with
    | nil => intro s; simp [stAll]
    | cons x l ih =>
      intro s
      rw [stAll, ih]
      unfold stStep
      split
      · simp; omega
      · split <;> (simp; omega)
  unfold ofSteps stOut
  rw [List.length_map, this]
  simp
end

/-! ## The rows of a law -/

def okL (l : List (Int × Int)) : Prop := ∀ p ∈ l, okPr p
theorem rowsL_ok {l : List (Int × Int)} (h : okL l) : (rowsL l).length ≤ 20 ∧ (∀ r ∈ rowsL l, (1 ≤ r.k ∧ r.k ≤ 30) ∧ 0 ≤ r.t ∧ r.t < 3) ∧ ((rowsL l).map Rw.k).Nodup := by
  have : ∀ (m : List (Int × Int)) (o : List Rw), (∀ p ∈ m, okPr p) → (∀ r ∈ o, (1 ≤ r.k ∧ r.k ≤ 30) ∧ 0 ≤ r.t ∧ r.t < 3) → (o.map Rw.k).Nodup →
      (m.foldl addR o).length ≤ o.length + m.length ∧ (∀ r ∈ m.foldl addR o, (1 ≤ r.k ∧ r.k ≤ 30) ∧ 0 ≤ r.t ∧ r.t < 3) ∧ ((m.foldl addR o).map Rw.k).Nodup := by
    intro m
    induction m with
    | nil => intro o _ h1 h2; exact ⟨by simp, h1, h2⟩
    | cons p m ih =>
      intro o hm h1 h2
      obtain ⟨⟨p1, p2⟩, p3, p4⟩ := hm p (by simp)
      have a := ih (addR o p) (fun q hq => hm q (by simp [hq])) ?_ ?_
      · refine ⟨?_, a.2⟩
        have := addR_len o p
        rw [List.foldl_cons, List.length_cons]
        have := a.1
        omega
      · intro r hr
        unfold addR at hr
        split at hr
        · exact h1 r hr
        · rcases List.mem_append.1 hr with hr | hr
          · exact h1 r hr
          · simp only [List.mem_singleton] at hr
            subst hr
            have t0 := Int.tmod_nonneg (a := p.1) 30 p1
            have t1 := Int.tmod_lt_of_pos p.1 (b := 30) (by omega)
            have t2 := Int.tmod_nonneg (a := p.2) 3 p3
            have t3 := Int.tmod_lt_of_pos p.2 (b := 3) (by omega)
            unfold mkRw
            simp only
            omega
      · unfold addR
        split
        · exact h2
        · rename_i hn
          rw [List.map_append, List.nodup_append]
          refine ⟨h2, by simp, fun x hx y hy e => ?_⟩
          simp only [List.map_cons, List.map_nil, List.mem_singleton] at hy
          subst hy; subst e
          exact hn hx
  obtain ⟨h1, h2, h3⟩ := this (l.take 20) [] (fun p hp => h p (List.mem_of_mem_take hp)) (by simp) (by simp)
  refine ⟨?_, h2, h3⟩
  have : (l.take 20).length ≤ 20 := by rw [List.length_take]; omega
  simp only [List.length_nil] at h1
  unfold rowsL
  omega
theorem chkR_zero : ∀ {l : List Rw} {n : Int} {s : List Int}, (∀ x ∈ l, x.k ≠ 0 ∧ x.t < n ∧ x.k ∉ s) → (l.map Rw.k).Nodup → chkR n s l = 0
  | [], n, s, _, _ => rfl
  | x :: l, n, s, h, hn => by
    rw [List.map_cons, List.nodup_cons] at hn
    obtain ⟨h1, h2, h3⟩ := h x (by simp)
    rw [chkR_cons, if_neg h1, if_neg (by omega), if_neg h3]
    refine chkR_zero (fun y hy => ⟨(h y (by simp [hy])).1, (h y (by simp [hy])).2.1, fun c => ?_⟩) hn.2
    rcases List.mem_append.1 c with c | c
    · exact (h y (by simp [hy])).2.2 c
    · simp only [List.mem_singleton] at c
      exact hn.1 (List.mem_map.2 ⟨y, hy, c⟩)
theorem nodup_of_key {l : List Rw} (h : (l.map Rw.k).Nodup) : l.Nodup := by
  unfold List.Nodup at h ⊢
  rw [List.pairwise_map] at h
  exact h.imp fun hab e => hab (by rw [e])

/-- What a law's rows and pools are. -/
structure UOk (O N : List Rw) (P B : List Int) : Prop where
  lo : O.length ≤ 20
  ln : N.length ≤ 20
  ro : ∀ r ∈ O, (1 ≤ r.k ∧ r.k ≤ 30) ∧ 0 ≤ r.t ∧ r.t < 3
  rn : ∀ r ∈ N, (1 ≤ r.k ∧ r.k ≤ 30) ∧ 0 ≤ r.t ∧ r.t < 3
  no : (O.map Rw.k).Nodup
  nn : (N.map Rw.k).Nodup
  rb : rightB P B
  lb : B.length = 3
  bb : ∀ x ∈ B, 0 ≤ x ∧ x < 5
theorem UOk.swap {O N : List Rw} {P B : List Int} (h : UOk O N P B) : UOk N O P B := ⟨h.ln, h.lo, h.rn, h.ro, h.nn, h.no, h.rb, h.lb, h.bb⟩
theorem UOk.self {O N : List Rw} {P B : List Int} (h : UOk O N P B) : UOk O O P B := ⟨h.lo, h.lo, h.ro, h.ro, h.no, h.no, h.rb, h.lb, h.bb⟩
theorem UOk.isR {O N : List Rw} {P B : List Int} (h : UOk O N P B) : isR (O.map Rw.row) :=
  ⟨O, rfl, by have := h.lo; omega, fun r hr => by have := h.ro r hr; unfold Rw.Ok; omega⟩
theorem UOk.chk {O N : List Rw} {P B : List Int} (h : UOk O N P B) : chkP B.length O = 0 := by
  unfold chkP
  rw [h.lb, if_neg (by omega)]
  exact chkR_zero (fun x hx => by have := h.ro x hx; exact ⟨by omega, by omega, by simp⟩) h.no
theorem UOk.pre {O N : List Rw} {P B : List Int} (h : UOk O N P B) : ofPre [.lst (O.map Rw.row), .lst (N.map Rw.row), .lst (P.map row), .lst (B.map row)] :=
  ⟨h.isR, h.swap.isR, ⟨P, rfl, by have := h.rb.2.2.1; have := h.lb; omega⟩, ⟨B, rfl, by have := h.lb; omega⟩, fun x hx => by rw [nums_map] at hx; have := h.bb x hx; omega⟩
theorem UOk.err {O N : List Rw} {P B : List Int} (h : UOk O N P B) : ofErr O N P B = 0 := by rw [ofErr_0 h.rb h.chk, h.swap.chk]
theorem uok {l m : List (Int × Int)} {a b c d e f : Int} (hl : okL l) (hm : okL m) (ha : u8 a) (hb : u8 b) (hc : u8 c) (hd : u8 d) (he : u8 e) (hf : u8 f) :
    UOk (rowsL l) (rowsL m) [inOf a b, inOf c d, inOf e f] [bndOf a, bndOf c, bndOf e] := by
  obtain ⟨l1, l2, l3⟩ := rowsL_ok hl
  obtain ⟨m1, m2, m3⟩ := rowsL_ok hm
  have t : ∀ n : Int, u8 n → 0 ≤ bndOf n ∧ bndOf n < 5 := fun n h => ⟨Int.tmod_nonneg 5 h.1, Int.tmod_lt_of_pos n (by omega)⟩
  have q : ∀ n k : Int, u8 n → u8 k → 0 ≤ inOf n k ∧ inOf n k ≤ bndOf n := fun n k h hk => by
    have h1 := Int.tmod_nonneg (a := k) (bndOf n + 1) hk.1
    have h2 := Int.tmod_lt_of_pos k (b := bndOf n + 1) (by have := (t n h).1; omega)
    unfold inOf; omega
  refine ⟨l1, m1, l2, m2, l3, m3, ⟨by simp, by simp, by simp, fun i x y hx hy => ?_⟩, rfl, fun x hx => ?_⟩
  · match i, hx, hy with
    | 0, hx, hy => cases hx; cases hy; exact q a b ha hb
    | 1, hx, hy => cases hx; cases hy; exact q c d hc hd
    | 2, hx, hy => cases hx; cases hy; exact q e f he hf
    | i + 3, hx, hy => simp at hx
  · simp only [List.mem_cons, List.not_mem_nil, or_false] at hx
    rcases hx with rfl | rfl | rfl
    · exact t a ha
    · exact t c hc
    · exact t e he

end Go.C36
