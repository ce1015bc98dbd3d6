/- Chapter 08, RisesLeast: the condition holds.
  Conditions: none. -/
import Derived.Test.YtmdkgpkboidhfaaA9
import Derived.Test.YtmdkgpkboidhfaaA10
set_option linter.unusedVariables false
set_option linter.unusedSimpArgs false
namespace Go.C08
open Go Go.Xe Go.Sx

structure Ot (l : List Int) (k : Int) (o : List Int) : Prop where
  k0 : 0 ≤ k
  k1 : k ≤ l.length
  vl : Vl l none 0 o
  rg : ∀ a ∈ o, 0 ≤ a ∧ a < k
  ln : (o.length : Int) ≤ k

section
variable {l o g : List Int} {k x : Int}
theorem ot_of (h : Ot l k o) : othInv [.lst (l.map row)] [.int k, .lst (o.map row)] := by
  simp only [othInv, nums_map, List.length_map]
  exact ⟨h.k0, h.k1, o, rfl, h.vl, h.rg, h.ln⟩
theorem ot_get {O : Sx.Rows} (h : othInv [.lst (l.map row)] [.int k, .lst O]) : ∃ o : List Int, O = o.map row ∧ Ot l k o := by
  simp only [othInv, nums_map, List.length_map] at h
  obtain ⟨h1, h2, o, h3, h4, h5, h6⟩ := h
  exact ⟨o, h3, h1, h2, h4, h5, h6⟩
theorem ot_mu (hk : k < l.length) (a b : List Dat) : othMu [.lst (l.map row)] (.int (k + 1) :: a) < othMu [.lst (l.map row)] (.int k :: b) := by
  simp only [othMu, List.length_map]
  omega
theorem Ot.skip (h : Ot l k o) (hk : k < l.length) : Ot l (k + 1) o :=
  ⟨by have := h.k0; omega, by omega, h.vl, fun a ha => by have := h.rg a ha; omega, by have := h.ln; omega⟩
theorem Ot.take (h : Ot l k o) (hx : l[k.toNat]? = some x) (hl : ∀ z, lastN l o = some z → z < x) : Ot l (k + 1) (o ++ [k]) := by
  have hlt := (List.getElem?_eq_some_iff.1 hx).1
  have h0 := h.k0
  have hn := h.ln
  refine ⟨by omega, by omega, h.vl.snoc (fun a ha => (h.rg a ha).2) h0 h0 hx (fun _ z hz => by cases hz) hl, fun a ha => ?_, by rw [List.length_append]; simp; omega⟩
  rcases List.mem_append.1 ha with ha | ha
  · have := h.rg a ha; omega
  · simp at ha; omega
theorem Ot.last (h : Ot l k o) (ho : 0 < (o.length : Int)) : ∃ j y : Int, o[((o.length : Int) + -1).toNat]? = some j ∧ 0 ≤ j ∧ j < k ∧ l[j.toNat]? = some y ∧ ∀ z, lastN l o = some z ↔ z = y := by
  obtain ⟨j, hj⟩ := Sx.get_at (T := o) (i := (o.length : Int) + -1) (by omega) (by omega)
  obtain ⟨h1, h2⟩ := h.rg j (List.mem_of_getElem? hj)
  have hk := h.k1
  obtain ⟨y, hy⟩ := Sx.get_at (T := l) (i := j) h1 (by omega)
  refine ⟨j, y, hj, h1, h2, hy, fun z => ?_⟩
  have hl : o.getLast? = some j := by rw [List.getLast?_eq_getElem?, ← hj]; congr 1; omega
  unfold lastN
  rw [hl]
  show l[j.toNat]? = some z ↔ z = y
  rw [hy]
  constructor
  · intro e; exact (Option.some.inj e).symm
  · rintro rfl; rfl
theorem chk_of (h0 : 0 ≤ k) (h1 : k ≤ g.length) : chkInv [.lst (l.map row), .lst (g.map row)] [.int k] := by
  simp only [chkInv, List.length_map]
  exact ⟨h0, h1⟩
theorem chk_mu (h1 : k < g.length) : chkMu [.lst (l.map row), .lst (g.map row)] [.int (k + 1)] < chkMu [.lst (l.map row), .lst (g.map row)] [.int k] := by
  simp only [chkMu, List.length_map]
  omega
theorem cmp_of (h0 : 0 ≤ k) (h1 : k ≤ g.length) (h2 : g.take k.toNat = o.take k.toNat) : cmpInv [.lst (g.map row), .lst (o.map row)] [.int k] := by
  simp only [cmpInv, List.length_map, nums_map]
  exact ⟨h0, h1, h2⟩
theorem cmp_mu (h1 : k < g.length) : cmpMu [.lst (g.map row), .lst (o.map row)] [.int (k + 1)] < cmpMu [.lst (g.map row), .lst (o.map row)] [.int k] := by
  simp only [cmpMu, List.length_map]
  omega
end

theorem vcLeast_ok : vcLeast := by
  unfold vcLeast Nd
  rintro _ w ⟨⟨l, rfl⟩, _, _⟩
  have yes_bool : ∀ b : Bool, [Dat.bool b] = [Dat.bool true] ↔ b = true := fun b => by simp
  have fe2 : ∀ {α β : Type} {a : α} {b : β} {p : α → β → Prop}, (∀ x y, x = a ∧ y = b → p x y) ↔ p a b := fun {α β a b p} => ⟨fun h => h _ _ ⟨rfl, rfl⟩, fun h x y ⟨e, f⟩ => by subst e; subst f; exact h⟩
  simp only [livesPre, livesRel, yesRel, leastRel, trueRel, yes_bool, longPre, onePre, longRel, fe2, need_twice, need_known, implies_true, and_true, true_and, true_implies, forall_eq, List.length_map, nums_map, not_true_eq_false, false_implies]
  refine fun h1 => And.intro ⟨l, rfl, by omega⟩ fun _ => And.intro (chk_of (k := 0) (by omega) (by omega)) fun _ k hk => ?_
  have hv := lis_vl l
  have hlen := lis_len l
  have hF := maxF_le l
  have hle : ∀ o, Vl l none 0 o → o.length ≤ (lis l).length := fun o h => by have := h.len; omega
  have hlex : ∀ o, Vl l none 0 o → o.length = (lis l).length → Lex (lis l) o := fun o h e => lis_lex h e
  generalize lis l = g at hv hlen hle hlex hk
  simp only [chkInv, List.length_map] at hk
  obtain ⟨k0, k1⟩ := hk
  refine And.intro (fun hkg => ?_) fun hkg => ?_
  · obtain ⟨a, ha⟩ := Sx.get_at (T := g) (i := k) k0 hkg
    obtain ⟨q1, q2, x, hx⟩ := hv.at ha
    have hax := (List.getElem?_eq_some_iff.1 hx).1
    simp only [cellAt_map ha, cellAt_map hx, row0, toInt_int]
    have nx : chkInv [.lst (l.map row), .lst (g.map row)] [.int (k + 1)] := chk_of (by omega) (by omega)
    have nm : chkMu [.lst (l.map row), .lst (g.map row)] [.int (k + 1)] < chkMu [.lst (l.map row), .lst (g.map row)] [.int k] := chk_mu hkg
    by_cases hk0 : 0 < k
    · obtain ⟨b, hb⟩ := Sx.get_at (T := g) (i := k + -1) (by omega) (by omega)
      obtain ⟨r1, r2, y, hy⟩ := hv.at hb
      have hby := (List.getElem?_eq_some_iff.1 hy).1
      obtain ⟨s1, y', x', s2, s3, s4⟩ := hv.two (i := (k + -1).toNat) hb (by rw [← ha]; congr 1; omega)
      rw [hy] at s2
      rw [hx] at s3
      cases s2; cases s3
      simp only [cellAt_map hb, cellAt_map hy, row0, toInt_int]
      repeat' first
        | with_reducible exact nx
        | with_reducible exact nm
        | (with_reducible refine And.intro ?_ ?_)
        | intro _
        | omega
    · repeat' first
        | with_reducible exact nx
        | with_reducible exact nm
        | (with_reducible refine And.intro ?_ ?_)
        | intro _
        | omega
  · refine And.intro (ot_of (o := []) ⟨by omega, by omega, trivial, fun a h => by simp at h, by simp⟩) fun _ i O hi => ?_
    obtain ⟨o, rfl, hO⟩ := ot_get hi
    have i0 := hO.k0
    have hol := hO.ln
    have hog := hle o hO.vl
    simp only [List.length_map, Int.lt_irrefl, not_false_eq_true, true_and, true_implies]
    refine And.intro (fun hil => ?_) fun hil => ?_
    · obtain ⟨x, hx⟩ := Sx.get_at (T := l) (i := i) i0 hil
      have g0 : 0 < (g.length : Int) := by
        have := (Vl.len (l := l) (o := [i]) ⟨i0, i0, x, hx, (fun y hy => by cases hy), trivial⟩)
        simp at this; omega
      have sk := ot_of (hO.skip hil)
      simp only [cellAt_map hx, row0, toInt_int, map_app_row]
      refine And.intro (by omega) fun _ => And.intro (fun _ => ?_) fun _ => ?_
      · by_cases ho : 0 < (o.length : Int)
        · obtain ⟨j, y, g1, g2, g3, g4, g5⟩ := hO.last ho
          simp only [cellAt_map g1, cellAt_map g4, row0, toInt_int]
          have tk : y < x → othInv [.lst (l.map row)] [.int (i + 1), .lst ((o ++ [i]).map row)] := fun h => ot_of (hO.take hx fun z hz => by rw [(g5 z).1 hz]; exact h)
          by_cases hyx : y < x
          · have tk := tk hyx
            repeat' first
              | with_reducible exact tk
              | with_reducible exact ot_mu hil _ _
              | (with_reducible refine And.intro ?_ ?_)
              | intro _
              | omega
          · clear tk
            repeat' first
              | (with_reducible refine And.intro ?_ ?_)
              | intro _
              | omega
        · have ho' := lastN_nil ho
          have tk := ot_of (hO.take hx fun z hz => by rw [ho'] at hz; cases hz)
          repeat' first
            | with_reducible exact tk
            | with_reducible exact ot_mu hil _ _
            | (with_reducible refine And.intro ?_ ?_)
            | intro _
            | omega
      · repeat' first
          | with_reducible exact sk
          | with_reducible exact ot_mu hil _ _
          | (with_reducible refine And.intro ?_ ?_)
          | intro _
          | omega
    · refine And.intro (fun he => ?_) fun he => ?_
      · have hx := hlex o hO.vl (by omega)
        refine And.intro (cmp_of (k := 0) (by omega) (by omega) rfl) fun _ k hk => ?_
        simp only [cmpInv, List.length_map, nums_map] at hk
        obtain ⟨k0, k1, kt⟩ := hk
        refine fun hkl => ?_
        obtain ⟨a, ha⟩ := Sx.get_at (T := g) (i := k) k0 hkl
        obtain ⟨b, hb⟩ := Sx.get_at (T := o) (i := k) k0 (by omega)
        simp only [cellAt_map ha, cellAt_map hb, row0, toInt_int]
        have e := toNat_succ k0
        have lt : ¬ a = b → a < b := fun h => hx.get kt ha hb h
        by_cases hab : a = b
        · have nx : cmpInv [.lst (g.map row), .lst (o.map row)] [.int (k + 1)] := cmp_of (by omega) (by omega) (by rw [e, take_succ_at ha, take_succ_at hb, kt, hab])
          have nm : cmpMu [.lst (g.map row), .lst (o.map row)] [.int (k + 1)] < cmpMu [.lst (g.map row), .lst (o.map row)] [.int k] := cmp_mu hkl
          repeat' first
            | with_reducible exact nx
            | with_reducible exact nm
            | (with_reducible refine And.intro ?_ ?_)
            | intro _
            | omega
        · have lt := lt hab
          repeat' first
            | (with_reducible refine And.intro ?_ ?_)
            | intro _
            | omega
      · repeat' first
          | (with_reducible refine And.intro ?_ ?_)
          | intro _
          | omega

end Go.C08
