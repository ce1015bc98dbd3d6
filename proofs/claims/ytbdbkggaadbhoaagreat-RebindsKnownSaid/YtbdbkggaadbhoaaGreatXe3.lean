/- The executor, part 3: new blocks, stores, and blocks that are handed on keep the relation.
  Conditions: none. -/
import Derived.Test.YtbdbkggaadbhoaaGreatXe2
noncomputable section
namespace Go.Xe
open Go.RowKit

section
variable {B : Nat → Prop} {w0 : World} {σ : Sg} {hp : Hp} {w : World}

def Sg.ext (σ : Sg) (i : Nat) (p : Pl) : Sg := fun j => if j = i then some p else σ j
theorem Sg.ext_same (σ : Sg) (i : Nat) (p : Pl) : σ.ext i p i = some p := by simp [Sg.ext]
theorem Sg.ext_other (σ : Sg) (i : Nat) (p : Pl) {j : Nat} (h : j ≠ i) : σ.ext i p j = σ j := by simp [Sg.ext, h]
theorem Sg.le_ext {σ : Sg} {i : Nat} (p : Pl) (h : σ i = none) : Sg.le σ (σ.ext i p) := by
  intro j q hq
  have hne : j ≠ i := by intro e; subst e; rw [h] at hq; cases hq
  rw [Sg.ext_other _ _ _ hne]; exact hq

/-- A new block of whatever kind, under a number that stands for nothing yet. -/
theorem HR.allocO (h : HR B w0 σ hp w) (id nx : Nat) (hid : σ id = none) (hnx : hp.nx ≤ nx) (hlt : id < nx) (b : Blk) (o : Obj) (p : Pl) (hp0 : p.blk = w.heap.size) (hb : BR (σ.ext id p) p b o) :
    HR B w0 (σ.ext id p) ⟨hp.m.set id (some b), nx⟩ (w.alloc o) := by
  have hle := Sg.le_ext (σ := σ) (i := id) p hid
  refine ⟨h.os, h.tape, h.output, by simp; have := h.size; omega, h.old, fun k hk => by rw [Below.heap_alloc _ _ _ (by have := h.old k hk; have := h.size; omega)]; exact h.kept k hk, ?_, ?_, ?_⟩
  · intro i hi
    have hi' : nx ≤ i := hi
    rw [Sg.ext_other _ _ _ (by omega)]
    exact h.fresh i (by omega)
  · intro i b' hg
    simp only [T.get_set] at hg
    by_cases hi : i = id
    · rw [if_pos hi] at hg
      simp only [Option.some.injEq] at hg
      subst hg; subst hi
      refine ⟨p, o, Sg.ext_same _ _ _, (fun hB => by have h1 := h.old _ hB; have h2 := h.size; omega), ?_, hb⟩
      rw [hp0]
      show (w.heap.push _)[w.heap.size]? = _; simp
    · rw [if_neg hi] at hg
      obtain ⟨q, o', h1, h2, h3, h4⟩ := h.live i b' hg
      refine ⟨q, o', by rw [Sg.ext_other _ _ _ hi]; exact h1, h2, ?_, h4.mono hle⟩
      rw [Below.heap_alloc _ _ _ (Array.getElem?_eq_some_iff.1 h3).1]; exact h3
  · intro i j b1 b2 q r hi hj hne hqi hrj
    simp only [T.get_set] at hi hj
    by_cases ei : i = id
    · have ej : j ≠ id := by omega
      rw [if_neg ej] at hj
      rw [ei, Sg.ext_same] at hqi
      rw [Sg.ext_other _ _ _ ej] at hrj
      obtain ⟨r', o', h1, _, h3, _⟩ := h.live j b2 hj
      have : r' = r := Option.some.inj (h1.symm.trans hrj)
      subst this
      have := (Array.getElem?_eq_some_iff.1 h3).1
      rw [← Option.some.inj hqi, hp0]
      omega
    · rw [if_neg ei] at hi
      rw [Sg.ext_other _ _ _ ei] at hqi
      by_cases ej : j = id
      · rw [ej, Sg.ext_same] at hrj
        obtain ⟨q', o', h1, _, h3, _⟩ := h.live i b1 hi
        have : q' = q := Option.some.inj (h1.symm.trans hqi)
        subst this
        have := (Array.getElem?_eq_some_iff.1 h3).1
        rw [← Option.some.inj hrj, hp0]
        omega
      · rw [if_neg ej] at hj
        rw [Sg.ext_other _ _ _ ej] at hrj
        exact h.inj i j _ _ q r hi hj hne hqi hrj

/-- A new row of cells, under a number that stands for nothing yet. -/
theorem HR.allocAt (h : HR B w0 σ hp w) (id nx : Nat) (hid : σ id = none) (hnx : hp.nx ≤ nx) (hlt : id < nx) (c : T Value) (n e z : Nat) (us : Array Value) (hn : n ≤ us.size)
    (hc : ∀ j, j < n → ∃ v u, c.get j = some v ∧ us[j]? = some u ∧ VR σ v u) :
    HR B w0 (σ.ext id ⟨w.heap.size, 0, us.size, z⟩) ⟨hp.m.set id (some (.cells c n e z)), nx⟩ (w.alloc (.cells us e)) := by
  refine h.allocO id nx hid hnx hlt _ _ _ rfl ⟨us, rfl, rfl, rfl, by simpa using hn, fun j hj => ?_⟩
  obtain ⟨v, u, h1, h2, h3⟩ := hc j hj
  exact ⟨v, u, h1, by simpa using h2, h3.mono (Sg.le_ext _ hid)⟩

/-- A new block. -/
theorem HR.alloc (h : HR B w0 σ hp w) (c : T Value) (n e z : Nat) (us : Array Value) (hn : n ≤ us.size)
    (hc : ∀ j, j < n → ∃ v u, c.get j = some v ∧ us[j]? = some u ∧ VR σ v u) :
    HR B w0 (σ.ext hp.nx ⟨w.heap.size, 0, us.size, z⟩) ⟨hp.m.set hp.nx (some (.cells c n e z)), hp.nx + 1⟩ (w.alloc (.cells us e)) :=
  h.allocAt hp.nx (hp.nx + 1) (h.fresh _ (Nat.le_refl _)) (Nat.le_succ _) (Nat.lt_succ_self _) c n e z us hn hc

/-- A live block turns into another one, in place. -/
theorem HR.turn (h : HR B w0 σ hp w) {i : Nat} {b b' : Blk} (hg : hp.m.get i = some b) {p : Pl} (hpi : σ i = some p) {o : Obj} {w' : World} (hh : w'.heap[p.blk]? = some o)
    (hk : ∀ k, k ≠ p.blk → w'.heap[k]? = w.heap[k]?) (hs : w'.heap.size = w.heap.size) (h1 : w'.os = w.os) (h2 : w'.tape = w.tape) (h3 : w'.output = w.output) (hb : BR σ p b' o) :
    HR B w0 σ { hp with m := hp.m.set i (some b') } w' := by
  obtain ⟨p', o', g1, g3, g4, g5⟩ := h.live i b hg
  have : p' = p := Option.some.inj (g1.symm.trans hpi)
  subst this
  refine ⟨h1.trans h.os, h2.trans h.tape, h3.trans h.output, by rw [hs]; exact h.size, h.old, fun k hkB => ?_, h.fresh, ?_, ?_⟩
  · rw [hk k (fun e => g3 (by rw [← e]; exact hkB))]; exact h.kept k hkB
  · intro j b2 hj
    simp only [T.get_set] at hj
    by_cases hji : j = i
    · rw [if_pos hji] at hj
      simp only [Option.some.injEq] at hj
      subst hj; subst hji
      exact ⟨p', o, g1, g3, hh, hb⟩
    · rw [if_neg hji] at hj
      obtain ⟨q, oq, d1, d2, d3, d4⟩ := h.live j b2 hj
      exact ⟨q, oq, d1, d2, by rw [hk _ (h.inj j i _ _ q p' hj hg hji d1 g1)]; exact d3, d4⟩
  · intro a c b1 b2 q r ha hc hne hqa hrc
    simp only [T.get_set] at ha hc
    have ha' : ∃ b, hp.m.get a = some b := by
      by_cases hai : a = i
      · subst hai; exact ⟨_, hg⟩
      · rw [if_neg hai] at ha; exact ⟨_, ha⟩
    have hc' : ∃ b, hp.m.get c = some b := by
      by_cases hci : c = i
      · subst hci; exact ⟨_, hg⟩
      · rw [if_neg hci] at hc; exact ⟨_, hc⟩
    obtain ⟨_, ha'⟩ := ha'
    obtain ⟨_, hc'⟩ := hc'
    exact h.inj a c _ _ q r ha' hc' hne hqa hrc

/-- A store of some cells in a row, into known cells or just behind them. -/
theorem HR.store (h : HR B w0 σ hp w) {i n e z o : Nat} {c : T Value} (hg : hp.m.get i = some (.cells c n e z)) {p : Pl} (hpi : σ i = some p)
    {vs us : List Value} (hv : VRL σ vs us) (h1 : ∀ u ∈ us, u.oneCell' = true) (ho : o ≤ n) (hs : p.dl + o + vs.length ≤ p.siz) (P : Program) :
    ∃ w', (storeCells ⟨p.blk, p.dl + o, none⟩ us).run P w = .ok () w' ∧ HR B w0 σ { hp with m := hp.m.set i (some (.cells (fill c o vs) (max n (o + vs.length)) e z)) } w' ∧ w'.heap.size = w.heap.size := by
  obtain ⟨p', C, g1, g2, g3, g4, g5, g6, g7⟩ := h.liveC hg
  have : p' = p := Option.some.inj (g1.symm.trans hpi)
  subst this
  have hr := run_storeCells_at P p'.blk (p'.dl + o) e us 0 C w g4 (by rw [← hv.1]; omega) h1
  simp only [Nat.add_zero] at hr
  refine ⟨_, hr, ?_, by simp [World.setRow]⟩
  have hrow := setRow_heap w p'.blk C (C.toList.take (p'.dl + o) ++ us ++ C.toList.drop (p'.dl + o + us.length)).toArray e (0, 0) g4
  have hsize : (C.toList.take (p'.dl + o) ++ us ++ C.toList.drop (p'.dl + o + us.length)).toArray.size = C.size := by
    have := hv.1
    simp; omega
  refine h.turn hg g1 hrow (fun k hk => setRow_other w _ k _ hk) (by simp [World.setRow]) rfl rfl rfl ⟨_, rfl, g2, by rw [hsize]; exact g5, by omega, fun k hk => ?_⟩
  rw [get_fill]
  have hl := hv.1
  by_cases hin : o ≤ k ∧ k < o + vs.length
  · rw [if_pos hin]
    have hk' : k - o < vs.length := by omega
    have hk2 : k - o < us.length := by omega
    refine ⟨vs[k - o], us[k - o], by simp [hk'], ?_, hv.2 (k - o) _ _ (by simp [hk']) (by simp [hk2])⟩
    simp only [List.append_assoc, List.getElem?_toArray]
    rw [List.getElem?_append_right (by simp; omega), List.getElem?_append_left (by simp; omega)]
    have : p'.dl + k - (List.take (p'.dl + o) C.toList).length = k - o := by simp; omega
    rw [this]; simp [hk2]
  · rw [if_neg hin]
    have hkn : k < n := by omega
    obtain ⟨v, u, a1, a2, a3⟩ := g7 k hkn
    refine ⟨v, u, a1, ?_, a3⟩
    simp only [List.append_assoc, List.getElem?_toArray]
    rw [← a2]
    by_cases hko : k < o
    · rw [List.getElem?_append_left (by simp; omega), List.getElem?_take, if_pos (by omega)]; simp
    · rw [List.getElem?_append_right (by simp; omega), List.getElem?_append_right (by simp; omega), List.getElem?_drop]
      simp only [List.length_take, Array.length_toList]
      rw [← Array.getElem?_toList]
      congr 1; omega

/-- A block is handed on from place o on, under a new number; the old number is dead. -/
theorem HR.move (h : HR B w0 σ hp w) {i n e z o k : Nat} {c : T Value} (hg : hp.m.get i = some (.cells c n e z)) {p : Pl} (hpi : σ i = some p) (hk : o + k ≤ n)
    (c' : T Value) (hc : ∀ j, j < k → c'.get j = c.get (o + j)) :
    HR B w0 (σ.ext hp.nx ⟨p.blk, p.dl + o, p.siz, p.esz⟩) ⟨(hp.m.set i none).set hp.nx (some (.cells c' k e z)), hp.nx + 1⟩ w := by
  have hle := Sg.le_ext (σ := σ) (i := hp.nx) ⟨p.blk, p.dl + o, p.siz, p.esz⟩ (h.fresh _ (Nat.le_refl _))
  obtain ⟨p', C, g1, g2, g3, g4, g5, g6, g7⟩ := h.liveC hg
  have : p' = p := Option.some.inj (g1.symm.trans hpi)
  subst this
  have hin : i ≠ hp.nx := by
    intro e; rw [e, h.fresh _ (Nat.le_refl _)] at hpi; cases hpi
  refine ⟨h.os, h.tape, h.output, h.size, h.old, h.kept, ?_, ?_, ?_⟩
  · intro j hj
    simp at hj
    rw [Sg.ext_other _ _ _ (by omega)]
    exact h.fresh j (by omega)
  · intro j b2 hj
    simp only [T.get_set] at hj
    by_cases ej : j = hp.nx
    · rw [if_pos ej] at hj
      simp only [Option.some.injEq] at hj
      subst hj; subst ej
      refine ⟨_, _, Sg.ext_same _ _ _, g3, g4, C, rfl, g2, g5, by show p'.dl + o + k ≤ p'.siz; omega, fun j hj => ?_⟩
      obtain ⟨v, u, a1, a2, a3⟩ := g7 (o + j) (by omega)
      refine ⟨v, u, by rw [hc j hj]; exact a1, ?_, a3.mono hle⟩
      rw [← a2]; congr 1; show p'.dl + o + j = _; omega
    · rw [if_neg ej] at hj
      by_cases ei : j = i
      · rw [if_pos ei] at hj; cases hj
      · rw [if_neg ei] at hj
        obtain ⟨q, oq, d1, d2, d3, d4⟩ := h.live j b2 hj
        exact ⟨q, oq, by rw [Sg.ext_other _ _ _ ej]; exact d1, d2, d3, d4.mono hle⟩
  · intro a b b1 b2 q r ha hb hne hqa hrb
    simp only [T.get_set] at ha hb
    by_cases ea : a = hp.nx
    · have eb : b ≠ hp.nx := by omega
      rw [if_neg eb] at hb
      by_cases eb' : b = i
      · rw [if_pos eb'] at hb; cases hb
      · rw [if_neg eb'] at hb
        rw [ea, Sg.ext_same] at hqa
        rw [Sg.ext_other _ _ _ eb] at hrb
        rw [← Option.some.inj hqa]
        exact h.inj i b _ _ p' r hg hb (Ne.symm eb') hpi hrb
    · rw [if_neg ea] at ha
      by_cases ea' : a = i
      · rw [if_pos ea'] at ha; cases ha
      · rw [if_neg ea'] at ha
        rw [Sg.ext_other _ _ _ ea] at hqa
        by_cases eb : b = hp.nx
        · rw [eb, Sg.ext_same] at hrb
          rw [← Option.some.inj hrb]
          exact h.inj a i _ _ q p' ha hg ea' hqa hpi
        · rw [if_neg eb] at hb
          by_cases eb' : b = i
          · rw [if_pos eb'] at hb; cases hb
          · rw [if_neg eb'] at hb
            rw [Sg.ext_other _ _ _ eb] at hrb
            exact h.inj a b _ _ q r ha hb hne hqa hrb
end
end Go.Xe
