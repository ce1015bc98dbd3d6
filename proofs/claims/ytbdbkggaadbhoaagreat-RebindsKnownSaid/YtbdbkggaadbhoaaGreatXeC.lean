/- The executor, part C: clear, zero values behind a slice, two slices that may overlap.
  Conditions: none. -/
import Derived.Test.YtbdbkggaadbhoaaGreatXeM
import Derived.Lib.AppendZerosOnto
import Derived.Lib.Overlaps
noncomputable section
namespace Go.Xe
open Go.RowKit

/-! ## Equal values -/

def allB (f : Value → Value → Bool) : List Value → List Value → Bool
  | [], [] => true
  | x :: xs, y :: ys => f x y && allB f xs ys
  | _, _ => false

theorem allB_eq {f : Value → Value → Bool} (hf : ∀ x y, f x y = true → x = y) : ∀ {xs ys : List Value}, allB f xs ys = true → xs = ys
  | [], [], _ => rfl
  | x :: xs, y :: ys, h => by
    simp only [allB, Bool.and_eq_true] at h
    rw [hf _ _ h.1, allB_eq hf h.2]
  | [], _ :: _, h => by cases h
  | _ :: _, [], h => by cases h

def veq : Nat → Value → Value → Bool
  | 0, _, _ => false
  | n + 1, x, y => match x, y with
    | .bool a, .bool b => a == b
    | .int j a, .int k b => decide (j = k) && decide (a = b)
    | .string a, .string b => a.data.toList == b.data.toList
    | .pointer a, .pointer b => decide (a = b)
    | .slice a l c, .slice b l' c' => decide (a = b) && Nat.beq l l' && Nat.beq c c'
    | .map a, .map b => decide (a = b)
    | .nilFunc, .nilFunc => true
    | .nilIface, .nilIface => true
    | .iface t v, .iface u w => Nat.beq t u && veq n v w
    | .agg a, .agg b => allB (veq n) a.toList b.toList
    | .tuple a, .tuple b => allB (veq n) a.toList b.toList
    | .func f a c, .func g b d => decide (f = g) && allB (veq n) a.toList b.toList && allB (veq n) c.toList d.toList
    | .complex f a b, .complex g c d => decide (f = g) && Nat.beq a c && Nat.beq b d
    | .chan a, .chan b => decide (a = b)
    | _, _ => false

theorem veq_eq : ∀ (n : Nat) (x y : Value), veq n x y = true → x = y := by
  intro n
  induction n with
  | zero => intro x y h; cases h
  | succ n ih =>
    intro x y h
    simp only [veq] at h
    split at h
    · simp at h; rw [h]
    · simp only [Bool.and_eq_true, decide_eq_true_eq] at h; rw [h.1, h.2]
    · rename_i a b
      obtain ⟨⟨a⟩⟩ := a
      obtain ⟨⟨b⟩⟩ := b
      simp at h
      rw [h]
    · simp only [decide_eq_true_eq] at h; rw [h]
    · simp only [Bool.and_eq_true, decide_eq_true_eq] at h; rw [h.1.1, Nat.eq_of_beq_eq_true h.1.2, Nat.eq_of_beq_eq_true h.2]
    · simp only [decide_eq_true_eq] at h; rw [h]
    · rfl
    · rfl
    · simp only [Bool.and_eq_true] at h; rw [Nat.eq_of_beq_eq_true h.1, ih _ _ h.2]
    · rw [Array.ext' (allB_eq ih h)]
    · rw [Array.ext' (allB_eq ih h)]
    · simp only [Bool.and_eq_true, decide_eq_true_eq] at h; rw [h.1.1, Array.ext' (allB_eq ih h.1.2), Array.ext' (allB_eq ih h.2)]
    · simp only [Bool.and_eq_true, decide_eq_true_eq] at h; rw [h.1.1, Nat.eq_of_beq_eq_true h.1.2, Nat.eq_of_beq_eq_true h.2]
    · simp only [decide_eq_true_eq] at h; rw [h]
    · cases h

section
variable {P : Program} {B : Nat → Prop} {w0 : World} {σ : Sg} {hp : Hp} {w : World}

def xclear (P : Program) (hp : Hp) (t : TypeId) (x : Value) : Option (Value × Hp) :=
  match P.underlying t with
  | some (.slice e) => match x with
    | .slice none _ _ => some (.tuple #[], hp)
    | .slice (some _) 0 _ => some (.tuple #[], hp)
    | .slice (some ⟨i, o, none⟩) (n + 1) _ => match xzero P e with
      | none => none
      | some z => match hp.m.get i with
        | some (.cells c k e' z') => bif Nat.ble (o + (xrep (n + 1) z.cells.toList).length) k && (xrep (n + 1) z.cells.toList).all Value.oneCell' then
            some (.tuple #[], xput hp i c k e' z' o (xrep (n + 1) z.cells.toList))
          else none
        | _ => none
    | _ => none
  | some (.map _ _) => match x with
    | .map none => some (.tuple #[], hp)
    | .map (some i) => match hp.m.get i with
      | some (.map _ _) => some (.tuple #[], { hp with m := hp.m.set i (some (.map [] false)) })
      | _ => none
    | _ => none
  | _ => none

theorem xclear_sound {t : TypeId} {x x' : Value} {v : Value} {hp' : Hp} (h : xclear P hp t x = some (v, hp')) (hx : VR σ x x') (hw : HR B w0 σ hp w) (ty : TypeId) :
    MOK hp B w0 σ v hp' ((Builtin.clear_ #[t] ty #[x']).run P w) := by
  have tup : VR σ (.tuple #[]) (.tuple #[]) := VRL.to_tuple (VRL.nil σ)
  unfold xclear at h
  split at h
  · rename_i e ht
    split at h
    · simp only [Option.some.injEq, Prod.mk.injEq] at h
      obtain ⟨rfl, rfl⟩ := h
      cases hx
      refine ⟨σ, .tuple #[], w, ?_, Sg.gr_refl _ σ, tup, hw⟩
      simp [Builtin.clear_, run_underlying ht]
    · simp only [Option.some.injEq, Prod.mk.injEq] at h
      obtain ⟨rfl, rfl⟩ := h
      cases hx <;> exact ⟨σ, .tuple #[], w, by simp [Builtin.clear_, run_underlying ht], Sg.gr_refl _ σ, tup, hw⟩
    · rename_i i o n c0
      split at h
      · cases h
      rename_i z hz
      split at h
      case h_2 => cases h
      rename_i c k e' z' hg
      cases hx with
      | slice _ _ p _ _ c' hpi hcc hll =>
      obtain ⟨k1, k2⟩ := hw.place hg hpi
      cases hb : Nat.ble (o + (xrep (n + 1) z.cells.toList).length) k && (xrep (n + 1) z.cells.toList).all Value.oneCell' with
      | false => rw [hb] at h; cases h
      | true =>
        rw [hb, cond_true, xput_eq] at h
        simp only [Bool.and_eq_true] at hb
        have hin := Nat.le_of_ble_eq_true hb.1
        simp only [Option.some.injEq, Prod.mk.injEq] at h
        obtain ⟨rfl, rfl⟩ := h
        obtain ⟨hc, hzr⟩ := xzero_sound hz
        have hv : VRL σ (xrep (n + 1) z.cells.toList) (xrep (n + 1) z.cells.toList) := (cst_VR σ hc).cells.xrep (n + 1)
        have hone := hv.all_oneCell hb.2
        obtain ⟨w', hst, hh, _⟩ := hw.store (o := o) hg hpi hv hone (by omega) (by omega) P
        have hcl : (Builtin.zeroCells z.cells (n + 1)).toList = xrep (n + 1) z.cells.toList := rep_cells z.cells (n + 1)
        refine ⟨σ, .tuple #[], w', ?_, Sg.gr_refl _ σ, tup, ?_⟩
        · simp [Builtin.clear_, run_underlying ht, hzr, hcl, hst]
        · rw [show max k (o + (xrep (n + 1) z.cells.toList).length) = k by omega] at hh
          exact hh
    · cases h
  · rename_i kt et ht
    split at h
    · simp only [Option.some.injEq, Prod.mk.injEq] at h
      obtain ⟨rfl, rfl⟩ := h
      cases hx
      refine ⟨σ, .tuple #[], w, ?_, Sg.gr_refl _ σ, tup, hw⟩
      simp [Builtin.clear_, run_underlying ht]
    · rename_i i
      split at h
      case h_2 => cases h
      rename_i es reg hg
      simp only [Option.some.injEq, Prod.mk.injEq] at h
      obtain ⟨rfl, rfl⟩ := h
      cases hx with
      | map _ p hpi =>
      obtain ⟨p', o, g1, _, g3, ents, clock, rfl, g4, g5, g6⟩ := hw.live i _ hg
      have : p' = p := Option.some.inj (g1.symm.trans hpi)
      subst this
      have hget := run_getObj (P := P) g3 (fun c e f h => by cases h)
      have hset := run_setObj (P := P) (o' := .map #[] clock) g3 (fun c e f h => by cases h)
      refine ⟨σ, .tuple #[], _, ?_, Sg.gr_refl _ σ, tup, hw.setO hg g1 (b' := .map [] false) (o := .map #[] clock) ⟨_, _, rfl, rfl, (fun j y e hy he => by simp at hy), fun hr => by cases hr⟩⟩
      simp [Builtin.clear_, run_underlying ht, hget, hset]
    · cases h
  · cases h

/-- 'append(s, make(T, n)...)', where there is surely no room. -/
def xappendZ (P : Program) (hp : Hp) (t u : TypeId) (s x : Value) : Option (Value × Hp) :=
  match P.underlying t, P.underlying u with
  | some (.slice e), some (.int _) => match P.info? e with
    | none => none
    | some ie => match ie.zero with
      | none => none
      | some z => match s, x with
        | .slice (some ⟨i, o, none⟩) sLen sCap, .int _ (.ofNat cnt) =>
          bif cst z && Nat.beq z.cells.toList.length ie.size && Nat.ble ie.bytes 1048576 && Nat.ble 1 ie.size && Nat.ble 1 cnt && Nat.ble (sLen + cnt) 67108864 &&
              (Nat.ble unk sCap && Nat.ble 1 (capHi sCap) && Nat.ble (capHi sCap) (sLen + cnt)) then
            match hp.m.get i with
            | some (.cells c k _ _) => bif Nat.ble (o + sLen * ie.size) k then
                match loadN c o (sLen * ie.size) with
                | some olds => some (.slice (some ⟨hp.nx, 0, none⟩) (sLen + cnt) (mkCap (sLen + cnt) 0), hp.new (olds ++ xrep cnt z.cells.toList) e ie.size)
                | none => none
              else none
            | _ => none
          else none
        | _, _ => none
  | _, _ => none

theorem xappendZ_sound {t u : TypeId} {s s' x x' : Value} {v : Value} {hp' : Hp} (h : xappendZ P hp t u s x = some (v, hp')) (hs : VR σ s s') (hx : VR σ x x') (hw : HR B w0 σ hp w) (ty : TypeId) :
    MOK hp B w0 σ v hp' ((Builtin.append_ #[t, u] ty #[s', x']).run P w) := by
  unfold xappendZ at h
  split at h
  case h_2 => cases h
  rename_i e ik ht hu
  split at h
  · cases h
  rename_i ie hie
  split at h
  · cases h
  rename_i z hz
  split at h
  case h_2 => cases h
  rename_i i o sLen sCap kq cnt
  cases hb : cst z && Nat.beq z.cells.toList.length ie.size && Nat.ble ie.bytes 1048576 && Nat.ble 1 ie.size && Nat.ble 1 cnt && Nat.ble (sLen + cnt) 67108864 &&
              (Nat.ble unk sCap && Nat.ble 1 (capHi sCap) && Nat.ble (capHi sCap) (sLen + cnt)) with
  | false => rw [hb] at h; cases h
  | true =>
  rw [hb, cond_true] at h
  simp only [Bool.and_eq_true] at hb
  obtain ⟨⟨⟨⟨⟨⟨b1, b2⟩, b3⟩, b4⟩, b5⟩, b6⟩, ⟨b7, b8⟩, b9⟩ := hb
  have ez : z.cells.size = ie.size := by have := Nat.eq_of_beq_eq_true b2; simpa using this
  have b3 := Nat.le_of_ble_eq_true b3
  have b4 := Nat.le_of_ble_eq_true b4
  have b5 := Nat.le_of_ble_eq_true b5
  have b6 := Nat.le_of_ble_eq_true b6
  have b7 := Nat.le_of_ble_eq_true b7
  have b8 := Nat.le_of_ble_eq_true b8
  have b9 := Nat.le_of_ble_eq_true b9
  split at h
  case h_2 => cases h
  rename_i c k e' z' hg
  cases hok : Nat.ble (o + sLen * ie.size) k with
  | false => rw [hok] at h; cases h
  | true =>
  rw [hok, cond_true] at h
  have hok := Nat.le_of_ble_eq_true hok
  split at h
  case h_2 => cases h
  rename_i olds hlo
  simp only [Option.some.injEq, Prod.mk.injEq] at h
  obtain ⟨rfl, rfl⟩ := h
  cases hx
  cases hs with
  | slice _ _ p _ _ c' hpi hcc hll =>
  have hlt : c' < sLen + cnt := by
    rcases hcc with ⟨_, h⟩ | ⟨_, _, h, _⟩ <;> omega
  obtain ⟨us0, hv0, hlen0, hc0⟩ := hw.cells hg hok hlo hpi
  have hr := Lib.run_append_grow_zeros (P := P) w t u ty e ie z kq ik ht hu hie hz (some ⟨p.blk, p.dl + o, none⟩) sLen c' us0
    (run_firstCells_some w.drew ie.size sLen _ sLen c' us0 hlen0 (fun j u hu => (cell_heap (w := w) (w' := w.drew) rfl _).trans (hc0 j u hu))) cnt (by omega) (by omega) hlt (by omega)
    (by have := Nat.mul_le_mul (show cnt ≤ 67108864 by omega) b3; omega) (growslice_fits hlt (by have := Nat.mul_le_mul b6 b3; omega))
  have hzc : (Builtin.zeroCells z.cells cnt).toList = xrep cnt z.cells.toList := rep_cells z.cells cnt
  have hvz : VRL σ (xrep cnt z.cells.toList) (Builtin.zeroCells z.cells cnt).toList := by rw [hzc]; exact (cst_VR σ b1).cells.xrep cnt
  have hcat := hv0.append hvz
  have hge := grownCap_ge w (sLen + cnt) c' e
  have hgr := hw.grown hcat (Builtin.zeroCells z.cells (grownCap w (sLen + cnt) c' e - (sLen + cnt))) (fill .e 0 (olds ++ xrep cnt z.cells.toList)) (fun j hj => get_fill0 _ j hj) e ie.size
  have hul : (us0 ++ (Builtin.zeroCells z.cells cnt).toList).length = (sLen + cnt) * ie.size := by
    rw [List.length_append, hlen0, Array.length_toList, size_zeroCells, ez, Nat.add_mul]
  rw [show (us0 ++ (Builtin.zeroCells z.cells cnt).toList).toArray = us0.toArray ++ Builtin.zeroCells z.cells cnt by apply Array.ext'; simp] at hgr
  refine ⟨_, _, _, hr, hw.le_new _, VR.unkSlice σ hp.nx ⟨w.heap.size, 0, (us0 ++ (Builtin.zeroCells z.cells cnt).toList).length + (Builtin.zeroCells z.cells (grownCap w (sLen + cnt) c' e - (sLen + cnt))).size, ie.size⟩ rfl hge ?_, ?_⟩
  · show grownCap w (sLen + cnt) c' e * ie.size ≤ (us0 ++ (Builtin.zeroCells z.cells cnt).toList).length + _
    rw [size_zeroCells, hul, ez, ← Nat.add_mul]
    exact Nat.mul_le_mul_right _ (by omega)
  · simpa [Hp.new] using hgr

/-! ## Two slices that may overlap -/

/-- Function g is the library's 'slices.overlaps' at slices of type t. -/
def OvOK (P : Program) (g : FuncId) (t : TypeId) : Prop :=
  ∃ fn r, P.funcs[g]? = some fn ∧ (fn.name == "runtime.NumGoroutine") = false ∧ fn.body.isNone = true ∧ Extern.findNext fn = none ∧ Extern.find fn = some (Extern.SlicesOverlaps.overlaps #[t, t] #[r])

def xover (P : Program) (hp : Hp) (t : TypeId) (args : List Value) : Option (Value × Hp) :=
  match P.underlying t with
  | some (.slice e) => match P.info? e with
    | some _ => match args with
      | [.slice (some ⟨i, _, none⟩) _ _, .slice (some ⟨j, _, none⟩) _ _] => bif Nat.beq i j then none else
          match hp.m.get i, hp.m.get j with
          | some (.cells _ _ _ _), some (.cells _ k _ _) => bif Nat.ble 1 k then some (.bool false, hp) else none
          | _, _ => none
      | _ => none
    | none => none
  | _ => none

theorem xover_sound {g : FuncId} {t : TypeId} (ho : OvOK P g t) {args args' : List Value} {v : Value} {hp' : Hp} (h : xover P hp t args = some (v, hp')) (ha : VRL σ args args') (hw : HR B w0 σ hp w) :
    hp' = hp ∧ ∃ u, VR σ v u ∧ (callFunc g args'.toArray).run P w = .ok (.value u) w := by
  unfold xover at h
  split at h
  case h_2 => cases h
  rename_i e ht
  split at h
  case h_2 => cases h
  rename_i ie hie
  split at h
  case h_2 => cases h
  rename_i i o1 l1 c1 j o2 l2 c2
  cases hij : Nat.beq i j with
  | true => rw [hij] at h; cases h
  | false =>
  rw [hij, cond_false] at h
  have hij' : i ≠ j := fun e => by rw [e, beq_t rfl] at hij; cases hij
  split at h
  case h_2 => cases h
  rename_i ci ki ei zi cj kj ej zj hgi hgj
  cases hk : Nat.ble 1 kj with
  | false => rw [hk] at h; cases h
  | true =>
  rw [hk, cond_true] at h
  have hk := Nat.le_of_ble_eq_true hk
  simp only [Option.some.injEq, Prod.mk.injEq] at h
  obtain ⟨rfl, rfl⟩ := h
  obtain ⟨a1, r, rfl, ha1, hr⟩ := ha.uncons
  obtain ⟨a2, r, rfl, ha2, hr⟩ := hr.uncons
  rw [hr.unnil] at *
  cases ha1 with
  | slice _ _ p _ _ c1' hpi hc1 hl1 =>
  cases ha2 with
  | slice _ _ q _ _ c2' hqj hc2 hl2 =>
  obtain ⟨fn, rt, f1, f2, f3, f4, f5⟩ := ho
  have hne : p.blk ≠ q.blk := hw.inj i j _ _ p q hgi hgj hij' hpi hqj
  refine ⟨rfl, .bool false, .bool false, ?_⟩
  obtain ⟨p', C, g1, g2, g3, g4, g5, g6, g7⟩ := hw.liveC hgi
  have : p' = p := Option.some.inj (g1.symm.trans hpi)
  subst this
  obtain ⟨q', D, m1, m2, m3, m4, m5, m6, m7⟩ := hw.liveC hgj
  have : q' = q := Option.some.inj (m1.symm.trans hqj)
  subst this
  have hsz : ∀ w, (Go.sizeOf e).run P w = .ok ie.size w := fun w => by simp [sizeOf, typeInfo, hie]
  rw [run_callFunc_extern f1 f2 f3 f4 f5]
  have hap := Lib.run_overlaps_apart (P := P) w t rt e ht ie.size hsz ⟨p'.blk, p'.dl + o1, none⟩ ⟨q'.blk, q'.dl + o2, none⟩ l1 c1' l2 c2' hne ei ej C.size D.size
    (by simp [World.shape?, g4]) (by simp [World.shape?, m4]) (by omega) (by simp [World.frozen?, g4]) (by simp [World.frozen?, g4])
  rw [hap]
  rfl
end
end Go.Xe
