/- Chapter 36, PlansSame: the plain law.
  Conditions: none. -/
import Derived.Test.YtpdcecfnlccicaaP19
set_option linter.unusedVariables false
set_option linter.unusedSimpArgs false
namespace Go.C36
open Go Go.Xe Go.Sx
theorem Vl.inv {A B : List Int} (h : ∀ (p : Nat) (x : Int), A[p]? = some x → 0 ≤ x ∧ B[x.toNat]? = some (p : Int)) : ∀ {o : List Int} {y a : Int}, 0 ≤ a → Vl A (some y) (a + 1) o → Vl B (some a) (y + 1) (o.map fun i => A.getD i.toNat 0)
 | [], y, a, _, _ => trivial
 | b :: o, y, a, ha, hv => by
  obtain ⟨h1, h2, x, h3, h4, h5⟩ := hv
  obtain ⟨k1, k2⟩ := h _ _ h3
  have e : A.getD b.toNat 0 = x := by rw [List.getD_eq_getElem?_getD, h3]; rfl
  have hyx := h4 y rfl
  rw [List.map_cons, e]
  refine ⟨by omega, k1, b, by rw [k2]; congr 1; omega, fun z hz => by simp only [Option.some.injEq] at hz; omega, Vl.inv h (by omega) h5⟩
section
variable {O N : List Rw} {P B : List Int}
end
section
variable {O : List Rw} {P B : List Int}
theorem at_self (hO : O.Nodup) {i : Nat} {x : Rw} (h : O[i]? = some x) : atR O x = i := atR_at (nodup_take hO h) h
theorem ofSteps_len {N : List Rw} : (ofSteps O N P B).length = N.length := by
 have : ∀ (l : List Rw) (s : TS), (stAll O l s).st.length = s.st.length + l.length := by
  intro l
  induction l with
  | nil => intro s; simp [stAll]
  | cons x l ih =>
   intro s
   rw [stAll, ih]
   unfold stStep
   split
   ·simp; omega
   ·split <;> (simp; omega)
 unfold ofSteps stOut
 rw [List.length_map, this]
 simp
end
theorem chkR_zero : ∀ {l : List Rw} {n : Int} {s : List Int}, (∀ x ∈ l, x.k ≠ 0 ∧ x.t < n ∧ x.k ∉ s) → (l.map Rw.k).Nodup → chkR n s l = 0
 | [], n, s, _, _ => rfl
 | x :: l, n, s, h, hn => by
  rw [List.map_cons, List.nodup_cons] at hn
  obtain ⟨h1, h2, h3⟩ := h x (by simp)
  rw [chkR_cons, if_neg h1, if_neg (by omega), if_neg h3]
  refine chkR_zero (fun y hy => ⟨(h y (by simp [hy])).1, (h y (by simp [hy])).2.1, fun c => ?_⟩) hn.2
  rcases List.mem_append.1 c with c | c
  ·exact (h y (by simp [hy])).2.2 c
  ·simp only [List.mem_singleton] at c
   exact hn.1 (List.mem_map.2 ⟨y, hy, c⟩)
structure UOk (O N : List Rw) (P B : List Int) : Prop where
 lo : O.length ≤ 20
 ln : N.length ≤ 20
 ro : ∀ r ∈ O, (1 ≤ r.k ∧ r.k ≤ 30) ∧ 0 ≤ r.t ∧ r.t < 3
 rn : ∀ r ∈ N, (1 ≤ r.k ∧ r.k ≤ 30) ∧ 0 ≤ r.t ∧ r.t < 3
 no : (O.map Rw.k).Nodup
 nn : (N.map Rw.k).Nodup
 rb : rightB P B
 lb : B.length = 3
 bb : ∀ x ∈ B, 0 ≤ x ∧ x < 5
theorem UOk.swap {O N : List Rw} {P B : List Int} (h : UOk O N P B) : UOk N O P B := ⟨h.ln, h.lo, h.rn, h.ro, h.nn, h.no, h.rb, h.lb, h.bb⟩
theorem UOk.isR {O N : List Rw} {P B : List Int} (h : UOk O N P B) : isR (O.map Rw.row) :=
 ⟨O, rfl, by have := h.lo; omega, fun r hr => by have := h.ro r hr; unfold Rw.Ok; omega⟩
theorem UOk.chk {O N : List Rw} {P B : List Int} (h : UOk O N P B) : chkP B.length O = 0 := by
 unfold chkP
 rw [h.lb, if_neg (by omega)]
 exact chkR_zero (fun x hx => by have := h.ro x hx; exact ⟨by omega, by omega, by simp⟩) h.no
theorem UOk.pre {O N : List Rw} {P B : List Int} (h : UOk O N P B) : ofPre [.lst (O.map Rw.row), .lst (N.map Rw.row), .lst (P.map row), .lst (B.map row)] :=
 ⟨h.isR, h.swap.isR, ⟨P, rfl, by have := h.rb.2.2.1; have := h.lb; omega⟩, ⟨B, rfl, by have := h.lb; omega⟩, fun x hx => by rw [nums_map] at hx; have := h.bb x hx; omega⟩
theorem UOk.err {O N : List Rw} {P B : List Int} (h : UOk O N P B) : ofErr O N P B = 0 := by rw [ofErr_0 h.rb h.chk, h.swap.chk]
end Go.C36
