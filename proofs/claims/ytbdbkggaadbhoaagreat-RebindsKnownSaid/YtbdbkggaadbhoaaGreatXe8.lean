/- The executor, part 8: append, copy, and slices of slices.
  Conditions: none. -/
import Derived.Test.YtbdbkggaadbhoaaGreatXe7
noncomputable section
namespace Go.Xe
open Go.RowKit

section
variable {P : Program} {B : Nat → Prop} {w0 : World} {σ : Sg} {hp : Hp} {w : World}

/-- The first cells of a slice. -/
def xfirst (hp : Hp) (size : Nat) (x : Value) : Option (Nat × List Value) :=
  match x with
  | .slice none n _ => bif Nat.beq n 0 then some (0, []) else none
  | .slice (some ⟨i, o, none⟩) n _ => match hp.m.get i with
    | some (.cells c k _ _) => bif Nat.ble (o + n * size) k then
        match loadN c o (n * size) with
        | some vs => some (n, vs)
        | none => none
      else none
    | _ => none
  | .slice (some ⟨0, 0, some 0⟩) 0 _ => some (0, [])
  | _ => none

theorem xfirst_sound {size n : Nat} {x x' : Value} {vs : List Value} (h : xfirst hp size x = some (n, vs)) (hx : VR σ x x') (hw : HR B w0 σ hp w) :
    ∃ us, VRL σ vs us ∧ us.length = n * size ∧ (∃ b c, x' = .slice b n c ∧ (b = none → n = 0 ∧ us = []) ∧ ∀ a, b = some a → ∀ j u, us[j]? = some u → w.cell? (a.add j) = some u) := by
  unfold xfirst at h
  split at h
  · rename_i k c
    cases hb : Nat.beq k 0 with
    | false => rw [hb] at h; cases h
    | true =>
      rw [hb, cond_true] at h
      simp only [Option.some.injEq, Prod.mk.injEq] at h
      obtain ⟨rfl, rfl⟩ := h
      have hk := Nat.eq_of_beq_eq_true hb
      subst hk
      cases hx
      exact ⟨[], VRL.nil σ, by simp, none, c, rfl, (fun _ => ⟨rfl, rfl⟩), (fun a ha => by cases ha)⟩
  · rename_i i o k cap
    split at h
    · rename_i c m e z hg
      cases hb : Nat.ble (o + k * size) m with
      | false => rw [hb] at h; cases h
      | true =>
        rw [hb, cond_true] at h
        split at h
        · rename_i vs' hl
          simp only [Option.some.injEq, Prod.mk.injEq] at h
          obtain ⟨rfl, rfl⟩ := h
          cases hx with
          | slice _ _ p _ _ c' hp' hc hl' =>
          obtain ⟨us, h1, h2, h3⟩ := hw.cells hg (Nat.le_of_ble_eq_true hb) hl hp'
          exact ⟨us, h1, h2, _, c', rfl, (fun h => by cases h), (fun a ha => by cases ha; exact h3)⟩
        · cases h
    · cases h
  · simp only [Option.some.injEq, Prod.mk.injEq] at h
    obtain ⟨rfl, rfl⟩ := h
    cases hx with
    | vague q c' => exact ⟨[], VRL.nil σ, by simp, _, c', rfl, (fun h => by cases h), (fun a _ j u hu => by simp at hu)⟩
  · cases h

theorem run_firstCells {size n : Nat} {b : Option Addr} {c : Nat} {us : List Value} (hlen : us.length = n * size) (hn : b = none → n = 0 ∧ us = [])
    (hs : ∀ a, b = some a → ∀ j u, us[j]? = some u → w.cell? (a.add j) = some u) :
    (Builtin.firstCells size n (.slice b n c)).run P w = .ok us.toArray w := by
  cases b with
  | none => obtain ⟨rfl, rfl⟩ := hn rfl; exact run_firstCells_none w size 0 0 c
  | some a => exact run_firstCells_some w size n a n c us hlen (hs a rfl)

/-- append within the capacity, at whatever place of a block. -/
theorem run_append_at (t u ty e e2 : TypeId) (i : TypeInfo) (ht : P.underlying t = some (.slice e)) (hu : P.underlying u = some (.slice e2)) (hi : P.info? e = some i)
    (a : Addr) (sLen sCap n c : Nat) (b : Option Addr) (us : List Value) (hf : (Builtin.firstCells i.size n (.slice b n c)).run P w = .ok us.toArray w)
    (hroom : sLen + n ≤ sCap) {w' : World} (hst : (storeCells (a.add (sLen * i.size)) us).run P w = .ok () w') :
    (Builtin.append_ #[t, u] ty #[.slice (some a) sLen sCap, .slice b n c]).run P w = .ok (.slice (some a) (sLen + n) sCap) w' := by
  simp [Builtin.append_, run_underlying ht, run_underlying hu, sizeOf, typeInfo, hi, Builtin.lenOf, hroom, hf, hst]

theorem run_append_more (t u ty e e2 : TypeId) (i : TypeInfo) (z : Value) (ht : P.underlying t = some (.slice e)) (hu : P.underlying u = some (.slice e2)) (hi : P.info? e = some i) (hz : i.zero = some z)
    (base : Option Addr) (sLen sCap n c : Nat) (b : Option Addr) (olds us : List Value)
    (hfo : ∀ w', w'.heap = w.heap → (Builtin.firstCells i.size sLen (.slice base sLen sCap)).run P w' = .ok olds.toArray w')
    (hf : ∀ w', w'.heap = w.heap → (Builtin.firstCells i.size n (.slice b n c)).run P w' = .ok us.toArray w')
    (hg : sCap < sLen + n) (h63 : ((sLen + n : Nat) : Int) ≤ 9223372036854775807) (hfit : Builtin.nextslicecap (sLen + n) sCap * i.bytes ≤ 281474976710656) :
    (Builtin.append_ #[t, u] ty #[.slice base sLen sCap, .slice b n c]).run P w =
      .ok (.slice (some ⟨w.heap.size, 0, none⟩) (sLen + n) (grownCap w (sLen + n) sCap e))
        (w.drew.alloc (.cells (olds.toArray ++ us.toArray ++ Builtin.zeroCells z.cells (grownCap w (sLen + n) sCap e - (sLen + n))) e)) := by
  have hn : ¬ (sLen + n ≤ sCap) := by omega
  have h63' : ¬ (9223372036854775807 < ((sLen : Int) + (n : Int))) := by omega
  have h48' : ¬ (281474976710656 < Builtin.nextslicecap (sLen + n) sCap * i.bytes) := by omega
  have e1 := hf w.drew rfl
  have e2' := hfo w.drew rfl
  simp [Builtin.append_, run_underlying ht, run_underlying hu, sizeOf, typeInfo, zeroValue, hi, hz, Builtin.lenOf, hn, h63', h48', Question.forced, e1, e2', newRow, grownCap]
  congr 2
  apply Array.ext'
  simp [List.append_assoc]

/-- A block that is not looked at any more. -/
theorem HR.kill (h : HR B w0 σ hp w) (i : Nat) : HR B w0 σ { hp with m := hp.m.set i none } w := by
  refine ⟨h.os, h.tape, h.output, h.size, h.old, h.kept, h.fresh, ?_, ?_⟩
  · intro j b hj
    simp only [T.get_set] at hj
    by_cases hji : j = i
    · rw [if_pos hji] at hj; cases hj
    · rw [if_neg hji] at hj; exact h.live j b hj
  · intro a b b1 b2 p q ha hb hne hpa hqb
    simp only [T.get_set] at ha hb
    by_cases hai : a = i
    · rw [if_pos hai] at ha; cases ha
    · rw [if_neg hai] at ha
      by_cases hbi : b = i
      · rw [if_pos hbi] at hb; cases hb
      · rw [if_neg hbi] at hb
        exact h.inj a b _ _ p q ha hb hne hpa hqb

/-- A new row behind an append: the known cells, and some more. -/
theorem HR.grown (hw : HR B w0 σ hp w) {vs us : List Value} (hv : VRL σ vs us) (more : Array Value) (c : T Value) (hc : ∀ j, j < vs.length → c.get j = vs[j]?) (e z : Nat) :
    HR B w0 (σ.ext hp.nx ⟨w.heap.size, 0, us.length + more.size, z⟩) ⟨hp.m.set hp.nx (some (.cells c vs.length e z)), hp.nx + 1⟩ (w.drew.alloc (.cells (us.toArray ++ more) e)) := by
  have := hw.drew.alloc c vs.length e z (us.toArray ++ more) (by rw [hv.1]; simp) (fun j hj => by
    have hj' : j < us.length := by rw [← hv.1]; exact hj
    refine ⟨vs[j], us[j], by rw [hc j hj]; simp [hj], ?_, hv.2 j _ _ (by simp [hj]) (by simp [hj'])⟩
    simp [Array.getElem?_append, hj'])
  simpa using this

theorem HR.of_same (h : HR B w0 σ hp w) {hp2 : Hp} (hn : hp2.nx = hp.nx) (hm : ∀ i, hp2.m.get i = hp.m.get i) : HR B w0 σ hp2 w :=
  ⟨h.os, h.tape, h.output, h.size, h.old, h.kept, fun i hi => h.fresh i (by rw [← hn]; exact hi), fun i b hg => h.live i b (by rw [← hm]; exact hg),
   fun i j b b' p q hi hj => h.inj i j b b' p q (by rw [← hm]; exact hi) (by rw [← hm]; exact hj)⟩

def xappend (P : Program) (hp : Hp) (t u : TypeId) (s x : Value) : Option (Value × Hp) :=
  match P.underlying t, P.underlying u with
  | some (.slice e), some (.slice _) => match P.info? e with
    | none => none
    | some ie => match ie.zero with
      | none => none
      | some z => bif Nat.beq z.cells.toList.length ie.size && Nat.ble ie.bytes 1048576 then
          match xfirst hp ie.size x with
          | none => none
          | some (n, news) => match s with
            | .slice none sLen sCap => bif Nat.beq sLen 0 && Nat.beq sCap 0 && Nat.ble n 67108864 then
                bif Nat.beq n 0 then some (.slice none 0 0, hp)
                else some (.slice (some ⟨hp.nx, 0, none⟩) n (mkCap n 0), hp.new news e ie.size)
              else none
            | .slice (some ⟨i, o, none⟩) sLen sCap => match hp.m.get i with
              | some (.cells c k e' z') =>
                bif Nat.ble (sLen + n) 67108864 && news.all Value.oneCell' then
                  bif Nat.beq n 0 then
                    bif Nat.ble sLen sCap then some (.slice (some ⟨i, o, none⟩) sLen sCap, hp) else none
                  else
                    bif Nat.ble unk sCap then
                      bif Nat.ble 1 (capHi sCap) && Nat.ble (capHi sCap) (sLen + n) then
                        bif Nat.ble (o + sLen * ie.size) k then
                          match loadN c o (sLen * ie.size) with
                          | none => none
                          | some olds => some (.slice (some ⟨hp.nx, 0, none⟩) (sLen + n) (mkCap (sLen + n) 0), hp.new (olds ++ news) e ie.size)
                        else none
                      else bif Nat.beq z' ie.size && Nat.beq e' e && Nat.ble (o + sLen * ie.size) k then
                        bif Nat.ble (sLen + n) (capLo sCap) then
                          some (.slice (some ⟨i, o, none⟩) (sLen + n) sCap, xput hp i c (Nat.max k (o + (sLen + n) * ie.size)) e' z' (o + sLen * ie.size) news)
                        else
                        match loadN c o (sLen * ie.size) with
                        | none => none
                        | some olds =>
                          (bif Nat.beq o 0 then fill c (sLen * ie.size) news else fill (fill .e 0 olds) (sLen * ie.size) news).force fun ct =>
                            some (.slice (some ⟨hp.nx, 0, none⟩) (sLen + n) (mkCap (sLen + n) 0), ⟨(hp.m.set i none).set hp.nx (some (.cells ct ((sLen + n) * ie.size) e' z')), hp.nx + 1⟩)
                      else none
                    else bif Nat.ble (sLen + n) sCap then
                      bif Nat.ble (o + (sLen + n) * ie.size) k then
                        some (.slice (some ⟨i, o, none⟩) (sLen + n) sCap, xput hp i c k e' z' (o + sLen * ie.size) news)
                      else none
                    else
                      bif Nat.ble (o + sLen * ie.size) k then
                        match loadN c o (sLen * ie.size) with
                        | none => none
                        | some olds => some (.slice (some ⟨hp.nx, 0, none⟩) (sLen + n) (mkCap (sLen + n) 0), hp.new (olds ++ news) e ie.size)
                      else none
                else none
              | _ => none
            | _ => none
        else none
  | _, _ => none

theorem loadN_of {c : T Value} : ∀ {vs : List Value} {o : Nat}, (∀ j, j < vs.length → c.get (o + j) = vs[j]?) → loadN c o vs.length = some vs
  | [], o, _ => rfl
  | v :: vs, o, h => by
    simp only [List.length_cons, loadN]
    have h0 := h 0 (by simp)
    simp only [Nat.add_zero, List.getElem?_cons_zero] at h0
    rw [h0]
    have := loadN_of (c := c) (vs := vs) (o := o + 1) (fun j hj => by have := h (j + 1) (by simp; omega); rw [show o + (j + 1) = o + 1 + j by omega] at this; simpa using this)
    rw [this]

theorem VR.unkSlice (σ : Sg) (i : Nat) (p : Pl) (hd : p.dl = 0) {l c' : Nat} (hl : l ≤ c') (hb : c' * p.esz ≤ p.siz) : VR (σ.ext i p) (.slice (some ⟨i, 0, none⟩) l (mkCap l 0)) (.slice (some ⟨p.blk, 0, none⟩) l c') := by
  have := VR.slice (σ := σ.ext i p) i 0 p l (mkCap l 0) c' (Sg.ext_same _ _ _) (.inr ⟨mkCap_ge _ _, by rw [mkCap_lo unk_pos]; exact hl, .inl (mkCap_hi unk_pos), by rw [hd]; omega⟩) hl
  simpa [hd] using this

theorem cell_heap {w' : World} (h : w'.heap = w.heap) (a : Addr) : w'.cell? a = w.cell? a := by
  unfold World.cell?; rw [h]

set_option maxHeartbeats 1000000 in
theorem xappend_sound {t u : TypeId} {s s' x x' : Value} {v : Value} {hp' : Hp} (h : xappend P hp t u s x = some (v, hp')) (hs : VR σ s s') (hx : VR σ x x') (hw : HR B w0 σ hp w) (ty : TypeId) :
    MOK hp B w0 σ v hp' ((Builtin.append_ #[t, u] ty #[s', x']).run P w) := by
  unfold xappend at h
  split at h
  case h_2 => cases h
  rename_i e e2 ht hu
  split at h
  · cases h
  rename_i ie hie
  split at h
  · cases h
  rename_i z hz
  cases hb : Nat.beq z.cells.toList.length ie.size && Nat.ble ie.bytes 1048576 with
  | false => rw [hb] at h; cases h
  | true =>
  rw [hb, cond_true] at h
  simp only [Bool.and_eq_true] at hb
  have ez : z.cells.size = ie.size := by have := Nat.eq_of_beq_eq_true hb.1; simpa using this
  have eb := Nat.le_of_ble_eq_true hb.2
  split at h
  · cases h
  rename_i n news hfx
  obtain ⟨us, hv, hlen, b, c, rfl, hbn, hbs⟩ := xfirst_sound hfx hx hw
  have hnl : news.length = n * ie.size := by rw [hv.1]; exact hlen
  have hf : (Builtin.firstCells ie.size n (.slice b n c)).run P w = .ok us.toArray w := run_firstCells hlen hbn hbs
  have hfw : ∀ w' : World, w'.heap = w.heap → (Builtin.firstCells ie.size n (.slice b n c)).run P w' = .ok us.toArray w' := fun w' hh =>
    run_firstCells hlen hbn (fun a ha j u hu => by rw [cell_heap hh]; exact hbs a ha j u hu)
  split at h
  · rename_i sLen sCap
    cases h0 : Nat.beq sLen 0 && Nat.beq sCap 0 && Nat.ble n 67108864 with
    | false => rw [h0] at h; cases h
    | true =>
    rw [h0, cond_true] at h
    simp only [Bool.and_eq_true] at h0
    have e1 := Nat.eq_of_beq_eq_true h0.1.1
    have e2' := Nat.eq_of_beq_eq_true h0.1.2
    have hn := Nat.le_of_ble_eq_true h0.2
    subst e1; subst e2'
    cases hs
    cases hn0 : Nat.beq n 0 with
    | true =>
      rw [hn0, cond_true] at h
      simp only [Option.some.injEq, Prod.mk.injEq] at h
      obtain ⟨rfl, rfl⟩ := h
      have := Nat.eq_of_beq_eq_true hn0
      subst this
      have hus : us = [] := List.eq_nil_of_length_eq_zero (by simpa using hlen)
      subst hus
      refine ⟨σ, .slice none 0 0, w, ?_, Sg.gr_refl _ σ, .nils 0 0, hw⟩
      simp [Builtin.append_, run_underlying ht, run_underlying hu, sizeOf, typeInfo, hie, Builtin.lenOf, hf]
    | false =>
      rw [hn0, cond_false] at h
      simp only [Option.some.injEq, Prod.mk.injEq] at h
      obtain ⟨rfl, rfl⟩ := h
      have hn0' : n ≠ 0 := fun e => by rw [e] at hn0; cases hn0
      have hr := run_append_more (P := P) (w := w) t u ty e e2 ie z ht hu hie hz none 0 0 n c b [] us (fun w' _ => run_firstCells_none w' ie.size 0 0 0) hfw (by omega) (by omega)
        (growslice_fits (by omega) (by have := Nat.mul_le_mul (show 0 + n ≤ 67108864 by omega) eb; omega))
      simp only [Nat.zero_add] at hr
      have hge := grownCap_ge w n 0 e
      have hgr := hw.grown hv (Builtin.zeroCells z.cells (grownCap w n 0 e - n)) (fill .e 0 news) (fun j hj => get_fill0 news j hj) e ie.size
      refine ⟨_, _, _, hr, hw.le_new _, VR.unkSlice σ hp.nx ⟨w.heap.size, 0, us.length + (Builtin.zeroCells z.cells (grownCap w n 0 e - n)).size, ie.size⟩ rfl hge ?_, ?_⟩
      · show grownCap w n 0 e * ie.size ≤ us.length + _
        rw [size_zeroCells, hlen, ez, ← Nat.add_mul]
        exact Nat.mul_le_mul_right _ (by omega)
      · simpa [Hp.new] using hgr
  · rename_i i o sLen sCap
    split at h
    case h_2 => cases h
    rename_i k0 k e' z' hg
    cases h0 : Nat.ble (sLen + n) 67108864 && news.all Value.oneCell' with
    | false => rw [h0] at h; cases h
    | true =>
    rw [h0, cond_true] at h
    simp only [Bool.and_eq_true] at h0
    have hn := Nat.le_of_ble_eq_true h0.1
    have hone := hv.all_oneCell h0.2
    cases hs with
    | slice _ _ p _ _ c' hpi hcc hll =>
    obtain ⟨k1, k2⟩ := hw.place hg hpi
    cases hn0 : Nat.beq n 0 with
    | true =>
      rw [hn0, cond_true] at h
      have := Nat.eq_of_beq_eq_true hn0
      subst this
      have hus : us = [] := List.eq_nil_of_length_eq_zero (by simpa using hlen)
      subst hus
      cases hle : Nat.ble sLen sCap with
      | false => rw [hle] at h; cases h
      | true =>
        rw [hle, cond_true] at h
        simp only [Option.some.injEq, Prod.mk.injEq] at h
        obtain ⟨rfl, rfl⟩ := h
        refine ⟨σ, _, w, run_append_at t u ty e e2 ie ht hu hie _ sLen c' 0 c b [] hf (by omega) (by simp [storeCells]), Sg.gr_refl _ σ, .slice i o p sLen sCap c' hpi hcc hll, hw⟩
    | false =>
    rw [hn0, cond_false] at h
    have hn0' : n ≠ 0 := fun e => by rw [e] at hn0; cases hn0
    have grow : ∀ olds : List Value, loadN k0 o (sLen * ie.size) = some olds → o + sLen * ie.size ≤ k → c' < sLen + n → ∀ (hpx : Hp), HR B w0 σ hpx w → ∀ ct : T Value, (∀ j, j < (olds ++ news).length → ct.get j = (olds ++ news)[j]?) →
        ∀ ex zx, ex = e → zx = ie.size → hpx.nx = hp.nx →
        MOK hp B w0 σ (.slice (some ⟨hp.nx, 0, none⟩) (sLen + n) (mkCap (sLen + n) 0)) ⟨hpx.m.set hp.nx (some (.cells ct ((sLen + n) * ie.size) ex zx)), hp.nx + 1⟩
          ((Builtin.append_ #[t, u] ty #[.slice (some ⟨p.blk, p.dl + o, none⟩) sLen c', .slice b n c]).run P w) := by
      rintro olds hlo hok hlt hpx hwx ct hct ex zx rfl rfl hnx
      obtain ⟨us0, hv0, hlen0, hc0⟩ := hw.cells hg hok hlo hpi
      have hfo : ∀ w' : World, w'.heap = w.heap → (Builtin.firstCells ie.size sLen (.slice (some ⟨p.blk, p.dl + o, none⟩) sLen c')).run P w' = .ok us0.toArray w' := fun w' hh =>
        run_firstCells_some w' ie.size sLen _ sLen c' us0 hlen0 (fun j u hu => by rw [cell_heap hh]; exact hc0 j u hu)
      have hr := run_append_more (P := P) (w := w) t u ty ex e2 ie z ht hu hie hz (some ⟨p.blk, p.dl + o, none⟩) sLen c' n c b us0 us hfo hfw hlt (by omega)
        (growslice_fits hlt (by have := Nat.mul_le_mul hn eb; omega))
      have hge := grownCap_ge w (sLen + n) c' ex
      have hcat := hv0.append hv
      have hcl : (olds ++ news).length = (sLen + n) * ie.size := by rw [hcat.1, List.length_append, hlen0, hlen, Nat.add_mul]
      have hgr := hwx.grown hcat (Builtin.zeroCells z.cells (grownCap w (sLen + n) c' ex - (sLen + n))) ct hct ex ie.size
      rw [hcl, hnx] at hgr
      have hur : (us0 ++ us).length = (sLen + n) * ie.size := by rw [← hcat.1]; exact hcl
      rw [show (us0 ++ us).toArray = us0.toArray ++ us.toArray by simp] at hgr
      refine ⟨_, _, _, hr, hw.le_new _, VR.unkSlice σ hp.nx ⟨w.heap.size, 0, (us0 ++ us).length + (Builtin.zeroCells z.cells (grownCap w (sLen + n) c' ex - (sLen + n))).size, ie.size⟩ rfl hge ?_, hgr⟩
      show grownCap w (sLen + n) c' ex * ie.size ≤ (us0 ++ us).length + _
      rw [size_zeroCells, hur, ez, ← Nat.add_mul]
      exact Nat.mul_le_mul_right _ (by omega)
    have grow2 : ∀ {v : Value} {hp' : Hp}, c' < sLen + n → (bif Nat.ble (o + sLen * ie.size) k then
        match loadN k0 o (sLen * ie.size) with
        | none => none
        | some olds => some (Value.slice (some ⟨hp.nx, 0, none⟩) (sLen + n) (mkCap (sLen + n) 0), hp.new (olds ++ news) e ie.size)
      else none) = some (v, hp') → MOK hp B w0 σ v hp' ((Builtin.append_ #[t, u] ty #[.slice (some ⟨p.blk, p.dl + o, none⟩) sLen c', .slice b n c]).run P w) := by
      intro v hp' hlt h
      cases hok : Nat.ble (o + sLen * ie.size) k with
      | false => rw [hok] at h; cases h
      | true =>
        rw [hok, cond_true] at h
        have hok := Nat.le_of_ble_eq_true hok
        split at h
        · cases h
        rename_i olds hlo
        simp only [Option.some.injEq, Prod.mk.injEq] at h
        obtain ⟨rfl, rfl⟩ := h
        have hol := (loadN_get hlo).1
        have := grow olds hlo hok hlt hp hw (fill .e 0 (olds ++ news)) (fun j hj => get_fill0 _ j hj) e ie.size rfl rfl rfl
        rw [show (sLen + n) * ie.size = (olds ++ news).length by rw [List.length_append, hol, hnl, Nat.add_mul]] at this
        exact this
    cases hcu : Nat.ble unk sCap with
    | true =>
      rw [hcu, cond_true] at h
      have hcu := Nat.le_of_ble_eq_true hcu
      obtain ⟨hclo, hchi, hbnd⟩ : capLo sCap ≤ c' ∧ (capHi sCap = 0 ∨ c' < capHi sCap) ∧ p.dl + o + c' * p.esz ≤ p.siz := by
        rcases hcc with ⟨_, h⟩ | ⟨_, h2, h3, h4⟩
        · omega
        · exact ⟨h2, h3, h4⟩
      cases hsure : Nat.ble 1 (capHi sCap) && Nat.ble (capHi sCap) (sLen + n) with
      | true =>
        rw [hsure, cond_true] at h
        simp only [Bool.and_eq_true] at hsure
        have g1 := Nat.le_of_ble_eq_true hsure.1
        have g2 := Nat.le_of_ble_eq_true hsure.2
        exact grow2 (by omega) h
      | false =>
      rw [hsure, cond_false] at h
      cases h1 : Nat.beq z' ie.size && Nat.beq e' e && Nat.ble (o + sLen * ie.size) k with
      | false => rw [h1] at h; cases h
      | true =>
      rw [h1, cond_true] at h
      simp only [Bool.and_eq_true] at h1
      have hz' := Nat.eq_of_beq_eq_true h1.1.1
      have he := Nat.eq_of_beq_eq_true h1.1.2
      have hok := Nat.le_of_ble_eq_true h1.2
      cases hsl : Nat.ble (sLen + n) (capLo sCap) with
      | true =>
        rw [hsl, cond_true, xput_eq] at h
        have hsl := Nat.le_of_ble_eq_true hsl
        have hroom : sLen + n ≤ c' := by omega
        simp only [Option.some.injEq, Prod.mk.injEq] at h
        obtain ⟨rfl, rfl⟩ := h
        have hfit : p.dl + (o + sLen * ie.size + n * ie.size) ≤ p.siz := by
          have : (sLen + n) * ie.size ≤ c' * p.esz := by rw [k2, hz']; exact Nat.mul_le_mul_right _ hroom
          rw [Nat.add_mul] at this
          omega
        obtain ⟨w', hst, hh, _⟩ := hw.store (o := o + sLen * ie.size) hg hpi hv hone hok (by rw [hnl]; omega) P
        have hadd : (⟨p.blk, p.dl + o, none⟩ : Addr).add (sLen * ie.size) = ⟨p.blk, p.dl + (o + sLen * ie.size), none⟩ := by rw [Addr.add_lit, Nat.add_assoc]
        have hrun := run_append_at (P := P) t u ty e e2 ie ht hu hie ⟨p.blk, p.dl + o, none⟩ sLen c' n c b us hf hroom (w' := w') (by rw [hadd]; exact hst)
        refine ⟨σ, _, w', hrun, Sg.gr_refl _ σ, .slice i o p _ _ _ hpi (.inr ⟨hcu, hclo, hchi, hbnd⟩) hroom, ?_⟩
        rw [hnl, show max k (o + sLen * ie.size + n * ie.size) = Nat.max k (o + (sLen + n) * ie.size) by rw [Nat.add_mul, Nat.add_assoc]] at hh
        exact hh
      | false =>
      rw [hsl, cond_false] at h
      split at h
      · cases h
      rename_i olds hlo
      rw [T.force_eq] at h
      generalize htr : (bif Nat.beq o 0 then fill k0 (sLen * ie.size) news else fill (fill .e 0 olds) (sLen * ie.size) news) = ct at h
      simp only [Option.some.injEq, Prod.mk.injEq] at h
      obtain ⟨rfl, rfl⟩ := h
      obtain ⟨hol, hog⟩ := loadN_get hlo
      have hct : ∀ j, j < (olds ++ news).length → ct.get j = (olds ++ news)[j]? := by
        intro j hj
        rw [← htr]
        have hjl : j < sLen * ie.size + news.length := by simpa [hol] using hj
        by_cases hjs : j < sLen * ie.size
        · rw [List.getElem?_append_left (by omega), hog j hjs]
          cases ho : Nat.beq o 0 with
          | true =>
            have := Nat.eq_of_beq_eq_true ho
            subst this
            rw [cond_true, get_fill, if_neg (by omega)]; simp
          | false =>
            rw [cond_false, get_fill, if_neg (by omega), get_fill0 olds j (by omega), hog j hjs]
        · rw [List.getElem?_append_right (by omega), hol]
          cases ho : Nat.beq o 0 with
          | true => rw [cond_true, get_fill, if_pos (by omega)]
          | false => rw [cond_false, get_fill, if_pos (by omega)]
      by_cases hroom : sLen + n ≤ c'
      · -- in place
        have hfit : p.dl + o + (sLen * ie.size + n * ie.size) ≤ p.siz := by
          have : (sLen + n) * ie.size ≤ c' * p.esz := by rw [k2, hz']; exact Nat.mul_le_mul_right _ hroom
          rw [Nat.add_mul] at this
          omega
        have hm := hw.move hg hpi (o := o) (k := sLen * ie.size) hok (bif Nat.beq o 0 then k0 else fill .e 0 olds) (fun j hj => by
          cases ho : Nat.beq o 0 with
          | true => have := Nat.eq_of_beq_eq_true ho; subst this; simp
          | false => rw [cond_false, get_fill0 olds j (by omega), hog j hj])
        have hle := hw.le_new ⟨p.blk, p.dl + o, p.siz, p.esz⟩
        obtain ⟨w', hst, hh, _⟩ := hm.store (i := hp.nx) (o := sLen * ie.size) (by rw [T.get_set, if_pos rfl]) (Sg.ext_same _ _ _) (hv.mono hle.le) hone (Nat.le_refl _) (by show p.dl + o + _ + _ ≤ p.siz; rw [hnl]; omega) P
        have hadd : (⟨p.blk, p.dl + o, none⟩ : Addr).add (sLen * ie.size) = ⟨p.blk, p.dl + o + sLen * ie.size, none⟩ := Addr.add_lit _ _ _
        have hrun := run_append_at (P := P) t u ty e e2 ie ht hu hie ⟨p.blk, p.dl + o, none⟩ sLen c' n c b us hf hroom (w' := w') (by rw [hadd]; exact hst)
        refine ⟨_, _, w', hrun, hle, ?_, ?_⟩
        · have := VR.slice (σ := σ.ext hp.nx ⟨p.blk, p.dl + o, p.siz, p.esz⟩) hp.nx 0 ⟨p.blk, p.dl + o, p.siz, p.esz⟩ (sLen + n) (mkCap (sLen + n) 0) c' (Sg.ext_same _ _ _) (.inr ⟨mkCap_ge _ _, by rw [mkCap_lo unk_pos]; exact hroom, .inl (mkCap_hi unk_pos), by simpa using hbnd⟩) hroom
          simpa using this
        · have hft : fill (bif Nat.beq o 0 then k0 else fill .e 0 olds) (sLen * ie.size) news = ct := by
            rw [← htr]; cases Nat.beq o 0 <;> rfl
          rw [hft, hnl, show max (sLen * ie.size) (sLen * ie.size + n * ie.size) = (sLen + n) * ie.size by rw [Nat.add_mul]; omega] at hh
          refine hh.of_same rfl (fun j => ?_)
          simp only [T.get_set]
          split <;> rfl
      · subst hz'
        subst he
        exact grow olds hlo hok (by omega) { hp with m := hp.m.set i none } (hw.kill i) _ hct _ _ rfl rfl rfl
    | false =>
      rw [hcu, cond_false] at h
      have hcu' : ¬ unk ≤ sCap := fun h => by rw [Nat.ble_eq_true_of_le h] at hcu; cases hcu
      obtain ⟨rfl, hltu⟩ : sCap = c' ∧ sCap < unk := by
        rcases hcc with h | ⟨h, _⟩
        · exact h
        · exact absurd h hcu'
      cases hroom : Nat.ble (sLen + n) sCap with
      | true =>
        rw [hroom, cond_true] at h
        have hroom := Nat.le_of_ble_eq_true hroom
        cases hin : Nat.ble (o + (sLen + n) * ie.size) k with
        | false => rw [hin] at h; cases h
        | true =>
          rw [hin, cond_true, xput_eq] at h
          have hin := Nat.le_of_ble_eq_true hin
          simp only [Option.some.injEq, Prod.mk.injEq] at h
          obtain ⟨rfl, rfl⟩ := h
          rw [Nat.add_mul] at hin
          obtain ⟨w', hst, hh, _⟩ := hw.store (o := o + sLen * ie.size) hg hpi hv hone (by omega) (by rw [hnl]; omega) P
          have hadd : (⟨p.blk, p.dl + o, none⟩ : Addr).add (sLen * ie.size) = ⟨p.blk, p.dl + (o + sLen * ie.size), none⟩ := by rw [Addr.add_lit, Nat.add_assoc]
          have hrun := run_append_at (P := P) t u ty e e2 ie ht hu hie ⟨p.blk, p.dl + o, none⟩ sLen sCap n c b us hf hroom (w' := w') (by rw [hadd]; exact hst)
          refine ⟨σ, _, w', hrun, Sg.gr_refl _ σ, .slice i o p _ _ _ hpi (.inl ⟨rfl, hltu⟩) hroom, ?_⟩
          · rw [hnl, show max k (o + sLen * ie.size + n * ie.size) = k by omega] at hh
            exact hh
      | false =>
        rw [hroom, cond_false] at h
        have hroom' : ¬ sLen + n ≤ sCap := fun h => by rw [Nat.ble_eq_true_of_le h] at hroom; cases hroom
        exact grow2 (by omega) h
  · cases h
end
end Go.Xe
