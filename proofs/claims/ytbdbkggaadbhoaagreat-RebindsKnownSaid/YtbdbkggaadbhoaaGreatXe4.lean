/- The executor, part 4: operations that touch no memory.
  Conditions: none. -/
import Derived.Test.YtbdbkggaadbhoaaGreatXe3
noncomputable section
namespace Go.Xe
open Go.RowKit

/-! ## Temporaries and operands -/

structure TR (σ : Sg) (nt : Nat) (tm : T Value) (tmps : Array Value) : Prop where
  size : tmps.size = nt
  at_ : ∀ k, VR σ ((tm.get k).getD undef) (tmps.getD k undef)

theorem TR.mono {σ σ' : Sg} (hs : Sg.le σ σ') {nt : Nat} {tm : T Value} {tmps : Array Value} (h : TR σ nt tm tmps) : TR σ' nt tm tmps :=
  ⟨h.size, fun k => (h.at_ k).mono hs⟩

theorem TR.put {σ : Sg} {nt : Nat} {tm : T Value} {tmps : Array Value} (h : TR σ nt tm tmps) {d : Nat} (hd : d < nt) {v u : Value} (hv : VR σ v u) :
    TR σ nt (tm.set d (some v)) (tmps.setIfInBounds d u) := by
  refine ⟨by simpa using h.size, fun k => ?_⟩
  rw [T.get_set]
  by_cases hk : k = d
  · subst hk
    rw [if_pos rfl]
    have : k < tmps.size := by rw [h.size]; exact hd
    simpa [this] using hv
  · rw [if_neg hk]
    have := h.at_ k
    simpa [Array.getElem?_setIfInBounds_ne (Ne.symm hk)] using this

def scal : Value → Bool
  | .bool _ | .int _ _ | .float _ _ | .string _ | .pointer none | .slice none _ _ | .map none | .nilFunc | .nilIface => true
  | _ => false
def cst : Value → Bool
  | .agg cs => cs.toList.all scal
  | .tuple vs => vs.toList.all scal
  | v => scal v

theorem scal_VR (σ : Sg) {v : Value} (h : scal v = true) : VR σ v v := by
  cases v with
  | bool b => exact .bool b
  | int k n => exact .int k n
  | float k n => exact .float k n
  | string s => exact .string s
  | pointer a => cases a with
    | none => exact .nilp
    | some a => simp [scal] at h
  | slice a l c => cases a with
    | none => exact .nils l c
    | some a => simp [scal] at h
  | map r => cases r with
    | none => exact .nilm
    | some a => simp [scal] at h
  | nilFunc => exact .nilf
  | nilIface => exact .nili
  | _ => simp [scal] at h

theorem VRL_scal (σ : Sg) : ∀ {vs : List Value}, vs.all scal = true → VRL σ vs vs
  | [], _ => VRL.nil σ
  | v :: vs, h => by
    simp only [List.all_cons, Bool.and_eq_true] at h
    exact VRL.cons (scal_VR σ h.1) (VRL_scal σ h.2)

theorem cst_VR (σ : Sg) {v : Value} (h : cst v = true) : VR σ v v := by
  cases v with
  | agg cs => have := (VRL_scal σ (show cs.toList.all scal = true from h)).to_agg; simpa using this
  | tuple vs => have := (VRL_scal σ (show vs.toList.all scal = true from h)).to_tuple; simpa using this
  | bool b => exact .bool b
  | int k n => exact .int k n
  | float k n => exact .float k n
  | string s => exact .string s
  | nilFunc => exact .nilf
  | nilIface => exact .nili
  | _ => exact scal_VR σ h

def xeval (tm : T Value) : Operand → Option Value
  | .tmp t => some ((tm.get t).getD undef)
  | .const v => bif cst v then some v else none
  | .global _ => none
  | .func f => some (.func (.func f) #[] #[])

theorem xeval_VR {σ : Sg} {nt : Nat} {tm : T Value} {a : Act} (h : TR σ nt tm a.tmps) {x : Operand} {v : Value} (hx : xeval tm x = some v) : VR σ v (a.eval x) := by
  cases x with
  | tmp t => simp only [xeval, Option.some.injEq] at hx; subst hx; exact h.at_ t
  | const c =>
    simp only [xeval] at hx
    cases hc : cst c with
    | false => simp [hc] at hx
    | true => simp [hc] at hx; subst hx; exact cst_VR σ hc
  | global g => simp [xeval] at hx
  | func f =>
    simp only [xeval, Option.some.injEq] at hx; subst hx
    exact .func _ _ _ _ _ rfl (fun i x y h _ => by simp at h) rfl (fun i x y h _ => by simp at h)

def xevs (tm : T Value) : List Operand → Option (List Value)
  | [] => some []
  | x :: xs => match xeval tm x with
    | some v => match xevs tm xs with
      | some vs => some (v :: vs)
      | none => none
    | none => none

theorem xevs_VR {σ : Sg} {nt : Nat} {tm : T Value} {a : Act} (h : TR σ nt tm a.tmps) : ∀ {xs : List Operand} {vs : List Value}, xevs tm xs = some vs → VRL σ vs (xs.map a.eval)
  | [], vs, hx => by simp [xevs] at hx; subst hx; exact VRL.nil σ
  | x :: xs, vs, hx => by
    simp only [xevs] at hx
    cases hv : xeval tm x with
    | none => simp [hv] at hx
    | some v =>
      cases hr : xevs tm xs with
      | none => simp [hv, hr] at hx
      | some r => simp [hv, hr] at hx; subst hx; exact VRL.cons (xeval_VR h hv) (xevs_VR h hr)

/-! ## Parts of values -/

def aggB : TypeDesc → Bool
  | .struct _ | .array _ _ => true
  | _ => false

def xsize (P : Program) (t : TypeId) : Option Nat := match P.info? t with | some i => some i.size | none => none

def xpart (P : Program) (t : TypeId) (cs : List Value) (off : Nat) : Option Value :=
  match P.underlying t with
  | none => none
  | some d => bif aggB d then
      match P.info? t with
      | some i => some (.agg ((cs.drop off).take i.size).toArray)
      | none => none
    else cs[off]?

theorem run_isAgg {P : Program} {t : TypeId} {d : TypeDesc} (h : P.underlying t = some d) (w : World) : (isAgg t).run P w = .ok (aggB d) w := by
  unfold isAgg
  simp only [Sem.run_bind, run_underlying h, Result.andThen_ok]
  cases d <;> rfl

theorem extract_drop (cs : Array Value) (off n : Nat) : cs.extract off (off + n) = ((cs.toList.drop off).take n).toArray := by
  apply Array.ext'
  simp [List.take_drop, Array.toList_extract]

theorem xpart_sound {P : Program} {σ : Sg} {t : TypeId} {xs : List Value} {off : Nat} {v : Value} (h : xpart P t xs off = some v) {ys : Array Value} (hy : VRL σ xs ys.toList) :
    ∃ u, VR σ v u ∧ ∀ w, (part t ys off).run P w = .ok u w := by
  unfold xpart at h
  cases hu : P.underlying t with
  | none => simp [hu] at h
  | some d =>
    simp only [hu] at h
    cases hd : aggB d with
    | true =>
      simp only [hd, cond_true] at h
      cases hi : P.info? t with
      | none => simp [hi] at h
      | some i =>
        simp only [hi, Option.some.injEq] at h
        subst h
        refine ⟨.agg (ys.extract off (off + i.size)), ?_, fun w => ?_⟩
        · rw [extract_drop]
          refine VRL.to_agg ⟨by have := hy.1; simp at this ⊢; omega, fun j x y hx hy' => ?_⟩
          rw [List.getElem?_take] at hx hy'
          by_cases hj : j < i.size
          · rw [if_pos hj, List.getElem?_drop] at hx hy'
            exact hy.2 _ x y hx hy'
          · rw [if_neg hj] at hx; cases hx
        · unfold part
          simp only [Sem.run_bind, run_isAgg hu, Result.andThen_ok, hd, if_true, sizeOf, typeInfo, run_program, hi, Sem.run_pure]
    | false =>
      simp only [hd, cond_false] at h
      obtain ⟨u, hu2, hv⟩ := hy.get h
      refine ⟨u, hv, fun w => ?_⟩
      unfold part
      have : ys[off]? = some u := by simpa using hu2
      simp only [Sem.run_bind, run_isAgg hu, Result.andThen_ok, hd, Bool.false_eq_true, if_false, this, Sem.run_pure]

def xfield (P : Program) (xt : TypeId) (x : Value) (f : Nat) : Option Value :=
  match P.underlying xt with
  | some (.struct fs) => match fs.toList[f]? with
    | some fd => match x with
      | .agg cs => xpart P fd.type cs.toList fd.offset
      | _ => none
    | none => none
  | _ => none

theorem xfield_sound {P : Program} {σ : Sg} {xt : TypeId} {x y : Value} {f : Nat} {v : Value} (h : xfield P xt x f = some v) (hy : VR σ x y) :
    ∃ u, VR σ v u ∧ ∀ w, (Instr.field xt y f).run P w = .ok u w := by
  unfold xfield at h
  split at h
  · rename_i fs hu
    split at h
    · rename_i fd hf
      split at h
      · rename_i cs
        obtain ⟨ds, rfl, hd⟩ := VRL.of_agg hy
        obtain ⟨u, h1, h2⟩ := xpart_sound h hd
        refine ⟨u, h1, fun w => ?_⟩
        have hf' : fs[f]? = some fd := by simpa using hf
        simp [Instr.field, run_underlying hu, hf', asAgg, h2]
      · cases h
    · cases h
  · cases h

def xextract (x : Value) (i : Nat) : Option Value :=
  match x with
  | .tuple vs => vs.toList[i]?
  | _ => none

theorem xextract_sound {P : Program} {σ : Sg} {x y : Value} {i : Nat} {v : Value} (h : xextract x i = some v) (hy : VR σ x y) :
    ∃ u, VR σ v u ∧ ∀ w, (Instr.extract y i).run P w = .ok u w := by
  unfold xextract at h
  split at h
  · rename_i vs
    obtain ⟨ds, rfl, hd⟩ := VRL.of_tuple hy
    obtain ⟨u, h1, h2⟩ := hd.get h
    refine ⟨u, h2, fun w => ?_⟩
    have : ds[i]? = some u := by simpa using h1
    simp [Instr.extract, this]
  · cases h

def xindex (P : Program) (xt : TypeId) (x i : Value) : Option Value :=
  match i with
  | .int _ n => match P.underlying xt, x with
    | some (.array len e), .agg cs => bif decide (0 ≤ n) && decide (n < len) then
        match P.info? e with
        | some ie => xpart P e cs.toList (n.toNat * ie.size)
        | none => none
      else none
    | some .string, .string s => bif decide (0 ≤ n) then
        match s.data.toList[n.toNat]? with
        | some b => some (.int .u8 b.toNat)
        | none => none
      else none
    | _, _ => none
  | _ => none

theorem byteArray_get? (s : ByteArray) (i : Nat) : s[i]? = s.data.toList[i]? := by
  obtain ⟨⟨l⟩⟩ := s
  rw [getElem?_def]
  by_cases h : i < l.length
  · have h1 : i < (ByteArray.mk ⟨l⟩).size := h
    rw [dif_pos h1]; simp [h]; rfl
  · have h1 : ¬ i < (ByteArray.mk ⟨l⟩).size := h
    rw [dif_neg h1]; simp; omega

theorem xindex_sound {P : Program} {σ : Sg} {xt : TypeId} {x y i j : Value} {v : Value} (h : xindex P xt x i = some v) (hy : VR σ x y) (hj : VR σ i j) :
    ∃ u, VR σ v u ∧ ∀ w, (Instr.index xt y j).run P w = .ok u w := by
  unfold xindex at h
  split at h
  · rename_i k n
    cases hj
    split at h
    · rename_i len e cs hu
      obtain ⟨ds, rfl, hd⟩ := VRL.of_agg hy
      cases hb : decide (0 ≤ n) && decide (n < len) with
      | false => simp [hb] at h
      | true =>
        simp only [hb, cond_true] at h
        simp only [Bool.and_eq_true, decide_eq_true_eq] at hb
        split at h
        · rename_i ie hie
          obtain ⟨u, h1, h2⟩ := xpart_sound h hd
          refine ⟨u, h1, fun w => ?_⟩
          simp [Instr.index, asIntOf, run_underlying hu, hb, sizeOf, typeInfo, hie, h2]
        · cases h
    · rename_i s hu
      cases hy
      cases hb : decide (0 ≤ n) with
      | false => simp [hb] at h
      | true =>
        simp only [hb, cond_true] at h
        simp only [decide_eq_true_eq] at hb
        split at h
        · rename_i b hs
          simp only [Option.some.injEq] at h
          subst h
          refine ⟨_, .int _ _, fun w => ?_⟩
          have : s[n.toNat]? = some b := by rw [byteArray_get?]; exact hs
          simp [Instr.index, asIntOf, run_underlying hu, hb, this]
        · cases h
    · cases h
  · cases h

/-! ## Building structs -/

def splice (cells : List Value) (off : Nat) (vs : List Value) : List Value := cells.take off ++ vs ++ cells.drop (off + vs.length)

def xfill (place : Nat → Option (Nat × Nat)) (cells : List Value) : List (Nat × Value) → Option (List Value)
  | [] => some cells
  | (i, v) :: rest => match place i with
    | none => none
    | some (off, size) => bif Nat.beq v.cells.toList.length size && Nat.ble (off + size) cells.length then xfill place (splice cells off v.cells.toList) rest else none

theorem fold_splice (off : Nat) : ∀ (vs : List Value) (k : Nat) (cs : Array Value), off + k + vs.length ≤ cs.size →
    ((vs.zipIdx k).foldl (fun (cs : Array Value) (p : Value × Nat) => cs.setIfInBounds (off + p.2) p.1) cs).toList = splice cs.toList (off + k) vs
  | [], k, cs, h => by simp [splice]
  | v :: vs, k, cs, h => by
    simp only [List.zipIdx_cons, List.foldl_cons]
    simp only [List.length_cons] at h
    have ih := fold_splice off vs (k + 1) (cs.setIfInBounds (off + k) v) (by simp; omega)
    rw [ih]
    unfold splice
    have := list_seg_step cs.toList (off + k) v vs (by simp; omega)
    simpa [Array.toList_setIfInBounds, Nat.add_assoc] using this

theorem VRL.splice {σ : Sg} {a b c d : List Value} (h : VRL σ a b) (k : VRL σ c d) (off : Nat) : VRL σ (splice a off c) (Xe.splice b off d) := by
  unfold Xe.splice
  have ht : VRL σ (a.take off) (b.take off) := ⟨by simp [h.1], fun i x y hx hy => by
    rw [List.getElem?_take] at hx hy
    split at hx
    · rename_i hi; rw [if_pos hi] at hy; exact h.2 i x y hx hy
    · cases hx⟩
  have hdr : VRL σ (a.drop (off + c.length)) (b.drop (off + d.length)) := by
    rw [k.1]
    exact ⟨by simp [h.1], fun i x y hx hy => by rw [List.getElem?_drop] at hx hy; exact h.2 _ x y hx hy⟩
  exact (ht.append k).append hdr

/-- Two lists of numbered parts. -/
def PVR (σ : Sg) (xs ys : List (Nat × Value)) : Prop := xs.length = ys.length ∧ ∀ (i : Nat) x y, xs[i]? = some x → ys[i]? = some y → x.1 = y.1 ∧ VR σ x.2 y.2
theorem PVR.uncons {σ : Sg} {x : Nat × Value} {xs ys : List (Nat × Value)} (h : PVR σ (x :: xs) ys) : ∃ u ys', ys = (x.1, u) :: ys' ∧ VR σ x.2 u ∧ PVR σ xs ys' := by
  cases ys with
  | nil => exact absurd h.1 (by simp)
  | cons y ys =>
    have h0 := h.2 0 x y rfl rfl
    exact ⟨y.2, ys, by rw [h0.1], h0.2, by have := h.1; simpa using this, fun i a b ha hb => h.2 (i + 1) a b (by simpa using ha) (by simpa using hb)⟩
theorem PVR.unnil {σ : Sg} {ys : List (Nat × Value)} (h : PVR σ [] ys) : ys = [] := List.eq_nil_of_length_eq_zero h.1.symm

theorem xfill_sound {σ : Sg} (place : Nat → Option (Nat × Nat)) : ∀ (xs : List (Nat × Value)) (ys : List (Nat × Value)) (cells r : List Value) (cs : Array Value),
    xfill place cells xs = some r → PVR σ xs ys → VRL σ cells cs.toList → ∃ ds, Instr.fill place cs ys = some ds ∧ VRL σ r ds.toList := by
  intro xs
  induction xs with
  | nil => intro ys cells r cs h hp hc; rw [hp.unnil]; simp [xfill] at h; subst h; exact ⟨cs, rfl, hc⟩
  | cons x xs ih =>
    intro ys cells r cs h hp hc
    obtain ⟨u, ys', rfl, hu, hp'⟩ := hp.uncons
    obtain ⟨i, v⟩ := x
    simp only [xfill] at h
    simp only [Instr.fill]
    cases hpl : place i with
    | none => simp [hpl] at h
    | some os =>
      obtain ⟨off, size⟩ := os
      simp only [hpl] at h ⊢
      cases hb : Nat.beq v.cells.toList.length size && Nat.ble (off + size) cells.length with
      | false => rw [hb] at h; cases h
      | true =>
        simp only [hb, cond_true] at h
        simp only [Bool.and_eq_true] at hb
        have e1 : v.cells.toList.length = size := Nat.eq_of_beq_eq_true hb.1
        have e2 : off + size ≤ cells.length := Nat.le_of_ble_eq_true hb.2
        have hcells := hu.cells
        have e3 : u.cells.size = size := by rw [← e1, hcells.1]; simp
        have e4 : off + u.cells.size ≤ cs.size := by rw [e3]; have := hc.1; simp at this; omega
        have hne : ¬ (decide (u.cells.size ≠ size) || decide (off + u.cells.size > cs.size)) = true := by simp; omega
        rw [if_neg hne]
        have hf : (u.cells.zipIdx.foldl (fun (cs : Array Value) (p : Value × Nat) => cs.setIfInBounds (off + p.2) p.1) cs).toList = splice cs.toList off u.cells.toList := by
          rw [← Array.foldl_toList, Array.toList_zipIdx]
          exact fold_splice off u.cells.toList 0 cs (by simpa using e4)
        refine ih ys' _ r _ h hp' ?_
        rw [hf]
        exact hc.splice hcells off

def xplaces (P : Program) : List Field → Option (List (Nat × Nat))
  | [] => some []
  | f :: fs => match P.info? f.type with
    | some i => match xplaces P fs with
      | some r => some ((f.offset, i.size) :: r)
      | none => none
    | none => none

theorem run_places {P : Program} (w : World) : ∀ {fs : List Field} {r : List (Nat × Nat)}, xplaces P fs = some r →
    (fs.mapM fun f => do pure (f.offset, ← sizeOf f.type) : Sem (List (Nat × Nat))).run P w = .ok r w
  | [], r, h => by simp [xplaces] at h; subst h; simp
  | f :: fs, r, h => by
    simp only [xplaces] at h
    cases hi : P.info? f.type with
    | none => simp [hi] at h
    | some i =>
      cases hr : xplaces P fs with
      | none => simp [hi, hr] at h
      | some r' =>
        simp [hi, hr] at h
        subst h
        have ih := run_places (P := P) w hr
        have hs : (sizeOf f.type).run P w = .ok i.size w := by simp [sizeOf, typeInfo, hi]
        rw [List.mapM_cons]
        simp only [Sem.run_bind, hs, Result.andThen_ok, Sem.run_pure, ih]

def xzero (P : Program) (t : TypeId) : Option Value := match P.info? t with
  | some i => match i.zero with
    | some z => bif cst z then some z else none
    | none => none
  | none => none

theorem xzero_sound {P : Program} {t : TypeId} {z : Value} (h : xzero P t = some z) : cst z = true ∧ ∀ w, (zeroValue t).run P w = .ok z w := by
  unfold xzero at h
  split at h
  · rename_i i hi
    split at h
    · rename_i z' hz
      cases hc : cst z' with
      | false => simp [hc] at h
      | true =>
        simp only [hc, cond_true, Option.some.injEq] at h
        subst h
        exact ⟨hc, fun w => by simp [zeroValue, typeInfo, hi, hz]⟩
    · cases h
  · cases h

def xbuild (P : Program) (t : TypeId) (parts : List (Nat × Value)) : Option Value :=
  match xzero P t with
  | none => none
  | some z => match P.underlying t with
    | some (.struct fs) => match xplaces P fs.toList with
      | some pl => match xfill (fun i => pl[i]?) z.cells.toList parts with
        | some cs => some (.agg cs.toArray)
        | none => none
      | none => none
    | some (.array _ e) => match P.info? e with
      | some ie => match xfill (fun i => some (i * ie.size, ie.size)) z.cells.toList parts with
        | some cs => some (.agg cs.toArray)
        | none => none
      | none => none
    | _ => none

theorem xbuild_sound {P : Program} {σ : Sg} {t : TypeId} {xs : List (Nat × Value)} {ys : Array (Nat × Value)} {v : Value} (h : xbuild P t xs = some v) (hy : PVR σ xs ys.toList) :
    ∃ u, VR σ v u ∧ ∀ w, (Instr.build t ys).run P w = .ok u w := by
  unfold xbuild at h
  split at h
  · cases h
  · rename_i z hz
    obtain ⟨hc, hzr⟩ := xzero_sound hz
    have hzz := (cst_VR σ hc).cells
    split at h
    · rename_i fs hu
      split at h
      · rename_i pl hpl
        split at h
        · rename_i cs hf
          simp only [Option.some.injEq] at h
          subst h
          obtain ⟨ds, h1, h2⟩ := xfill_sound (σ := σ) _ _ _ _ _ _ hf hy hzz
          refine ⟨.agg ds, by have := h2.to_agg; simpa using this, fun w => ?_⟩
          have hpr := run_places (P := P) w hpl
          have hm : (fs.mapM fun f => do pure (f.offset, ← sizeOf f.type) : Sem (Array (Nat × Nat))).run P w = .ok pl.toArray w := by
            rw [Array.mapM_eq_mapM_toList, Sem.run_map, hpr]; rfl
          have hfn : (fun x : Nat => pl.toArray[x]?) = fun i : Nat => pl[i]? := by funext i; simp
          unfold Instr.build
          simp only [Sem.run_bind, hzr, Result.andThen_ok, run_underlying hu, hm, hfn, h1, Sem.run_pure]
        · cases h
      · cases h
    · rename_i n e hu
      split at h
      · rename_i ie hie
        split at h
        · rename_i cs hf
          simp only [Option.some.injEq] at h
          subst h
          obtain ⟨ds, h1, h2⟩ := xfill_sound (σ := σ) _ _ _ _ _ _ hf hy hzz
          refine ⟨.agg ds, by have := h2.to_agg; simpa using this, fun w => ?_⟩
          simp [Instr.build, hzr, run_underlying hu, sizeOf, typeInfo, hie, h1]
        · cases h
      · cases h
    · cases h

end Go.Xe
