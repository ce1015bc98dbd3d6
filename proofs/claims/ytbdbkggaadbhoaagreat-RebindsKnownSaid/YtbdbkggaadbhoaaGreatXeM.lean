/- The executor, part M: maps with plain keys, and iterators over strings.
  Conditions: none. -/
import Derived.Test.YtbdbkggaadbhoaaGreatXe9
noncomputable section
namespace Go.Xe
open Go.RowKit

section
variable {P : Program} {B : Nat → Prop} {w0 : World} {σ : Sg} {hp : Hp} {w : World}

/-! ## Iterators over strings -/

def xnext (hp : Hp) (it : Value) (isString : Bool) : Option (Value × Hp) :=
  match it, isString with
  | .pointer (some ⟨i, 0, none⟩), true => match hp.m.get i with
    | some (.sit s pos) => bif Nat.blt pos s.data.toList.length then
        some (.tuple #[.bool true, .int .i64 pos, .int .i32 (Utf8.decode s pos).1], { hp with m := hp.m.set i (some (.sit s (pos + (Utf8.decode s pos).2))) })
      else some (.tuple #[.bool false], hp)
    | _ => none
  | _, _ => none

theorem VR.tup1 {σ : Sg} {a b : Value} (h : VR σ a b) : VR σ (.tuple #[a]) (.tuple #[b]) := (VRL.cons h (VRL.nil σ)).to_tuple
theorem VR.tup2 {σ : Sg} {a b c d : Value} (h : VR σ a b) (k : VR σ c d) : VR σ (.tuple #[a, c]) (.tuple #[b, d]) := (VRL.cons h (VRL.cons k (VRL.nil σ))).to_tuple
theorem VR.tup3 {σ : Sg} {a b c d e f : Value} (h : VR σ a b) (k : VR σ c d) (l : VR σ e f) : VR σ (.tuple #[a, c, e]) (.tuple #[b, d, f]) := (VRL.cons h (VRL.cons k (VRL.cons l (VRL.nil σ)))).to_tuple

theorem run_getObj {r : Nat} {o : Obj} (h : w.heap[r]? = some o) (hc : ∀ c e f, o ≠ .cells c e f) : (getObj r).run P w = .ok o w := by
  simp only [getObj, Sem.run, h]

theorem run_setObj {r : Nat} {o o' : Obj} (h : w.heap[r]? = some o) (hc : ∀ c e f, o ≠ .cells c e f) : (setObj r o').run P w = .ok () { w with heap := w.heap.setIfInBounds r o' } := by
  simp only [setObj, Sem.run, h]

/-- An object that is no row of cells turns into another one. -/
theorem HR.setO (h : HR B w0 σ hp w) {i : Nat} {b b' : Blk} (hg : hp.m.get i = some b) {p : Pl} (hpi : σ i = some p) {o : Obj} (hb : BR σ p b' o) :
    HR B w0 σ { hp with m := hp.m.set i (some b') } { w with heap := w.heap.setIfInBounds p.blk o } := by
  obtain ⟨p', o', g1, _, g4, _⟩ := h.live i b hg
  have : p' = p := Option.some.inj (g1.symm.trans hpi)
  subst this
  have hlt := (Array.getElem?_eq_some_iff.1 g4).1
  refine h.turn hg hpi ?_ (fun k hk => ?_) (by simp) rfl rfl rfl hb
  · simp [hlt]
  · simp [Array.getElem?_setIfInBounds_ne (Ne.symm hk)]

theorem xnext_sound {it it' v : Value} {isS : Bool} {hp' : Hp} (h : xnext hp it isS = some (v, hp')) (hi : VR σ it it') (hw : HR B w0 σ hp w) (ty : TypeId) :
    MOK hp B w0 σ v hp' ((Instr.next it' isS ty).run P w) := by
  unfold xnext at h
  split at h
  · rename_i i
    cases hi with
    | ptr _ _ p hpi =>
    split at h
    · rename_i s pos hg
      obtain ⟨p', o, g1, g2, g3, g4, g5⟩ := hw.live i _ hg
      have : p' = p := Option.some.inj (g1.symm.trans hpi)
      subst this
      subst g4
      have hget := run_getObj (P := P) g3 (fun c e f h => by cases h)
      cases hlt : Nat.blt pos s.data.toList.length with
      | true =>
        rw [hlt, cond_true] at h
        simp only [Option.some.injEq, Prod.mk.injEq] at h
        obtain ⟨rfl, rfl⟩ := h
        have hpos : pos < s.size := by have := Nat.le_of_ble_eq_true hlt; simp at this; omega
        have hset := run_setObj (P := P) (o' := .stringIter s (pos + (Utf8.decode s pos).2)) g3 (fun c e f h => by cases h)
        refine ⟨σ, _, _, ?_, Sg.gr_refl _ σ, VR.tup3 (.bool true) (.int .i64 pos) (.int .i32 _), hw.setO hg g1 (b' := .sit s (pos + (Utf8.decode s pos).2)) ⟨rfl, g5⟩⟩
        simp [Instr.next, g5, hget, hpos, hset, goInt]
      | false =>
        rw [hlt, cond_false] at h
        simp only [Option.some.injEq, Prod.mk.injEq] at h
        obtain ⟨rfl, rfl⟩ := h
        have hpos : ¬ pos < s.size := by
          intro hc
          rw [show Nat.blt pos s.data.toList.length = true from Nat.ble_eq_true_of_le (by simp; omega)] at hlt
          cases hlt
        refine ⟨σ, _, w, ?_, Sg.gr_refl _ σ, VR.tup1 (.bool false), hw⟩
        simp [Instr.next, g5, hget, hpos]
    · cases h
  · cases h

/-! ## Maps -/

def xsame (kind : TypeDesc) (a b : Value) : Option Bool :=
  match kind, a, b with
  | .int _, .int k x, .int k' y => bif decide (k = k') then some (decide (x = y)) else none
  | .string, .string x, .string y => some (x.data.toList == y.data.toList)
  | .bool, .bool x, .bool y => some (x == y)
  | _, _, _ => none

theorem xsame_sound {kind : TypeDesc} {a b a' b' : Value} {r : Bool} (h : xsame kind a b = some r) (ha : VR σ a a') (hb : VR σ b b') :
    Instr.sameNow kind a' b' = some r ∧ (r = true → a = b ∧ Instr.sameBits 10000 b' a' = true) := by
  unfold xsame at h
  split at h
  · rename_i k0 k x k' y
    cases ha; cases hb
    cases hk : decide (k = k') with
    | false => rw [hk] at h; cases h
    | true =>
      rw [hk] at h
      simp only [decide_eq_true_eq] at hk
      subst hk
      simp only [cond_true, Option.some.injEq] at h
      subst h
      refine ⟨?_, fun hr => ?_⟩
      · simp only [Instr.sameNow, if_true]; congr 1
      · simp only [decide_eq_true_eq] at hr
        subst hr
        exact ⟨rfl, by simp [Instr.sameBits]⟩
  · rename_i x y
    cases ha; cases hb
    simp only [Option.some.injEq] at h
    subst h
    have e : (x == y) = (x.data.toList == y.data.toList) := by rw [beq_toListBytes, ByteArray.toList_eq, ByteArray.toList_eq]
    refine ⟨by simp only [Instr.sameNow, e], fun hr => ?_⟩
    have hxy : x = y := by
      obtain ⟨⟨x⟩⟩ := x
      obtain ⟨⟨y⟩⟩ := y
      simp at hr
      rw [hr]
    subst hxy
    exact ⟨rfl, by simp only [Instr.sameBits, e, hr]⟩
  · rename_i x y
    cases ha; cases hb
    simp only [Option.some.injEq] at h
    subst h
    refine ⟨rfl, fun hr => ?_⟩
    have hxy : x = y := by simpa using hr
    subst hxy
    exact ⟨rfl, by simp [Instr.sameBits]⟩
  · cases h

def xfind (kind : TypeDesc) (k : Value) : List (Value × Value) → Nat → Option (Option (Nat × Value))
  | [], _ => some none
  | e :: es, i => match xsame kind k e.1 with
    | some true => some (some (i, e.2))
    | some false => xfind kind k es (i + 1)
    | none => none

theorem xfind_sound {kind : TypeDesc} {k k' : Value} (hk : VR σ k k') : ∀ {es : List (Value × Value)} {ents : List MapEntry} {i : Nat} {r : Option (Nat × Value)}, xfind kind k es i = some r →
    es.length = ents.length → (∀ (j : Nat) x e, es[j]? = some x → ents[j]? = some e → VR σ x.1 e.key ∧ VR σ x.2 e.val) →
    (r = none → Instr.findNow kind k' ents i = some none) ∧
    (∀ n v, r = some (n, v) → i ≤ n ∧ ∃ u x e, Instr.findNow kind k' ents i = some (some (n, u)) ∧ VR σ v u ∧ es[n - i]? = some x ∧ ents[n - i]? = some e ∧ x = (k, v) ∧ Instr.sameBits 10000 e.key k' = true)
  | [], ents, i, r, h, hl, _ => by
    simp only [xfind, Option.some.injEq] at h
    subst h
    have : ents = [] := List.eq_nil_of_length_eq_zero hl.symm
    subst this
    exact ⟨fun _ => rfl, (fun n v h => by cases h)⟩
  | x :: es, [], i, r, h, hl, _ => by simp at hl
  | x :: es, e :: ents, i, r, h, hl, hr => by
    obtain ⟨h1, h2⟩ := hr 0 x e rfl rfl
    simp only [xfind] at h
    split at h
    · rename_i hs
      obtain ⟨s1, s2⟩ := xsame_sound hs hk h1
      obtain ⟨s3, s4⟩ := s2 rfl
      simp only [Option.some.injEq] at h
      subst h
      refine ⟨(fun h => by cases h), fun n v h => ?_⟩
      simp only [Option.some.injEq, Prod.mk.injEq] at h
      obtain ⟨rfl, rfl⟩ := h
      exact ⟨Nat.le_refl _, e.val, x, e, by simp only [Instr.findNow, s1], h2, by simp, by simp, by rw [s3], s4⟩
    · rename_i hs
      obtain ⟨s1, _⟩ := xsame_sound hs hk h1
      obtain ⟨i1, i2⟩ := xfind_sound (ents := ents) hk h (by simpa using hl) (fun j x' e' hx he => hr (j + 1) x' e' (by simpa using hx) (by simpa using he))
      refine ⟨fun hn => by simp only [Instr.findNow, s1]; exact i1 hn, fun n v hnv => ?_⟩
      obtain ⟨j1, u, x', e', j2, j3, j4, j5, j6⟩ := i2 n v hnv
      refine ⟨by omega, u, x', e', by simp only [Instr.findNow, s1]; exact j2, j3, ?_, ?_, j6⟩
      · rw [show n - i = (n - (i + 1)) + 1 by omega]; simpa using j4
      · rw [show n - i = (n - (i + 1)) + 1 by omega]; simpa using j5
    · cases h

/-- A key's type that has a plain order of letters or numbers. -/
def keyB (d : TypeDesc) : Bool :=
  match d with
  | .int _ | .string | .bool => true
  | _ => false

theorem run_checkKey {t : TypeId} {d : TypeDesc} (hu : P.underlying t = some d) (hk : keyB d = true) (b : Bool) (v : Value) : (Instr.checkKey b 10000 t v).run P w = .ok () w := by
  show (Instr.checkKey b (9999 + 1) t v).run P w = .ok () w
  unfold Instr.checkKey
  simp only [Sem.run_bind, run_underlying hu, Result.andThen_ok]
  cases d <;> simp [keyB] at hk <;> rfl

/-! A key that is a struct of plain fields. -/

/-- Plain fields, each of which can be read. -/
def xkeyS (P : Program) (cs : List Value) : List Field → Bool
  | [] => true
  | f :: fs => match P.underlying f.type, xpart P f.type cs f.offset with
    | some d, some _ => keyB d && xkeyS P cs fs
    | _, _ => false

def xsbL : List Value → List Value → Bool
  | [], [] => true
  | .int k x :: xs, .int k' y :: ys => decide (k = k') && decide (x = y) && xsbL xs ys
  | .bool x :: xs, .bool y :: ys => (x == y) && xsbL xs ys
  | .string x :: xs, .string y :: ys => (x.data.toList == y.data.toList) && xsbL xs ys
  | _, _ => false

def xsb (a b : Value) : Bool :=
  match a, b with
  | .agg xs, .agg ys => xsbL xs.toList ys.toList
  | _, _ => false

theorem xsbL_sound : ∀ {xs ys xs' ys' : List Value}, xsbL xs ys = true → VRL σ xs xs' → VRL σ ys ys' →
    xs'.length = ys'.length ∧ (xs'.zip ys').all (fun p => Instr.sameBits 9999 p.1 p.2) = true := by
  intro xs
  induction xs with
  | nil =>
    intro ys xs' ys' h hx hy
    cases ys with
    | nil => rw [hx.unnil, hy.unnil]; exact ⟨rfl, rfl⟩
    | cons y ys => simp [xsbL] at h
  | cons x xs ih =>
    intro ys xs' ys' h hx hy
    cases ys with
    | nil => cases x <;> simp [xsbL] at h
    | cons y ys =>
      obtain ⟨x', xs', rfl, hx1, hx2⟩ := hx.uncons
      obtain ⟨y', ys', rfl, hy1, hy2⟩ := hy.uncons
      unfold xsbL at h
      split at h
      · cases ‹_ :: _ = []›
      · rename_i k a _ k' b _ e1 e2
        simp only [List.cons.injEq] at e1 e2
        obtain ⟨rfl, rfl⟩ := e1
        obtain ⟨rfl, rfl⟩ := e2
        simp only [Bool.and_eq_true, decide_eq_true_eq] at h
        obtain ⟨⟨rfl, rfl⟩, h⟩ := h
        obtain ⟨l1, l2⟩ := ih h hx2 hy2
        cases hx1; cases hy1
        exact ⟨by simp [l1], by simp only [List.zip_cons_cons, List.all_cons, l2, Bool.and_true]; simp [Instr.sameBits]⟩
      · rename_i a _ b _ e1 e2
        simp only [List.cons.injEq] at e1 e2
        obtain ⟨rfl, rfl⟩ := e1
        obtain ⟨rfl, rfl⟩ := e2
        simp only [Bool.and_eq_true] at h
        obtain ⟨h1, h⟩ := h
        obtain ⟨l1, l2⟩ := ih h hx2 hy2
        cases hx1; cases hy1
        exact ⟨by simp [l1], by simp only [List.zip_cons_cons, List.all_cons, l2, Bool.and_true]; simpa [Instr.sameBits] using h1⟩
      · rename_i a _ b _ e1 e2
        simp only [List.cons.injEq] at e1 e2
        obtain ⟨rfl, rfl⟩ := e1
        obtain ⟨rfl, rfl⟩ := e2
        simp only [Bool.and_eq_true] at h
        obtain ⟨h1, h⟩ := h
        obtain ⟨l1, l2⟩ := ih h hx2 hy2
        cases hx1; cases hy1
        have e : (a == b) = (a.data.toList == b.data.toList) := by rw [beq_toListBytes, ByteArray.toList_eq, ByteArray.toList_eq]
        exact ⟨by simp [l1], by simp only [List.zip_cons_cons, List.all_cons, l2, Bool.and_true]; simp only [Instr.sameBits, e, h1]⟩
      · cases h

theorem xsb_sound {a b a' b' : Value} (h : xsb a b = true) (ha : VR σ a a') (hb : VR σ b b') : Instr.sameBits 10000 a' b' = true := by
  unfold xsb at h
  split at h
  · obtain ⟨xs', rfl, hx⟩ := VRL.of_agg ha
    obtain ⟨ys', rfl, hy⟩ := VRL.of_agg hb
    obtain ⟨l1, l2⟩ := xsbL_sound h hx hy
    show Instr.sameBits (9999 + 1) _ _ = true
    simp only [Instr.sameBits, Bool.and_eq_true, beq_iff_eq]
    exact ⟨by simpa using l1, l2⟩
  · cases h

def xfindS (P : Program) (kt : TypeId) (k : Value) : List (Value × Value) → Nat → Option (Option (Nat × Value))
  | [], _ => some none
  | e :: es, i => match xeq P 10000 kt k e.1 with
    | some true => bif xsb e.1 k then some (some (i, e.2)) else none
    | some false => xfindS P kt k es (i + 1)
    | none => none

def xfindAny (P : Program) (kt : TypeId) (d : TypeDesc) (k : Value) (es : List (Value × Value)) : Option (Option (Nat × Value)) :=
  match d with
  | .struct fs => match k with
    | .agg cs => bif xkeyS P cs.toList fs.toList then xfindS P kt k es 0 else none
    | _ => none
  | d => bif keyB d then xfind d k es 0 else none

theorem xfindS_sound {kt : TypeId} {k k' : Value} (hk : VR σ k k') (w : World) : ∀ {es : List (Value × Value)} {ents : List MapEntry} {i : Nat} {r : Option (Nat × Value)}, xfindS P kt k es i = some r →
    es.length = ents.length → (∀ (j : Nat) x e, es[j]? = some x → ents[j]? = some e → VR σ x.1 e.key ∧ VR σ x.2 e.val) →
    (r = none → (Instr.findAsking kt k' ents i).run P w = .ok none w) ∧
    (∀ n v, r = some (n, v) → i ≤ n ∧ ∃ u x e, (Instr.findAsking kt k' ents i).run P w = .ok (some (n, u)) w ∧ VR σ v u ∧ es[n - i]? = some x ∧ ents[n - i]? = some e ∧ Instr.sameBits 10000 e.key k' = true)
  | [], ents, i, r, h, hl, _ => by
    simp only [xfindS, Option.some.injEq] at h
    subst h
    have : ents = [] := List.eq_nil_of_length_eq_zero hl.symm
    subst this
    exact ⟨fun _ => by simp [Instr.findAsking], (fun n v h => by cases h)⟩
  | x :: es, [], i, r, h, hl, _ => by simp at hl
  | x :: es, e :: ents, i, r, h, hl, hr => by
    obtain ⟨h1, h2⟩ := hr 0 x e rfl rfl
    simp only [xfindS] at h
    split at h
    · rename_i hs
      have s1 : (Op.equal kt k' e.key).run P w = .ok true w := xeq_sound 10000 kt k x.1 true hs k' e.key hk h1 w
      cases hb : xsb x.1 k with
      | false => rw [hb] at h; cases h
      | true =>
      rw [hb, cond_true] at h
      simp only [Option.some.injEq] at h
      subst h
      refine ⟨(fun h => by cases h), fun n v h => ?_⟩
      simp only [Option.some.injEq, Prod.mk.injEq] at h
      obtain ⟨rfl, rfl⟩ := h
      exact ⟨Nat.le_refl _, e.val, x, e, by simp only [Instr.findAsking, Sem.run_bind, s1, Result.andThen_ok, if_true, Sem.run_pure], h2, by simp, by simp, xsb_sound hb h1 hk⟩
    · rename_i hs
      have s1 : (Op.equal kt k' e.key).run P w = .ok false w := xeq_sound 10000 kt k x.1 false hs k' e.key hk h1 w
      obtain ⟨i1, i2⟩ := xfindS_sound (ents := ents) hk w h (by simpa using hl) (fun j x' e' hx he => hr (j + 1) x' e' (by simpa using hx) (by simpa using he))
      have step : (Instr.findAsking kt k' (e :: ents) i).run P w = (Instr.findAsking kt k' ents (i + 1)).run P w := by
        simp only [Instr.findAsking, Sem.run_bind, s1, Result.andThen_ok, Bool.false_eq_true, if_false]
      refine ⟨fun hn => by rw [step]; exact i1 hn, fun n v hnv => ?_⟩
      obtain ⟨j1, u, x', e', j2, j3, j4, j5, j6⟩ := i2 n v hnv
      refine ⟨by omega, u, x', e', by rw [step]; exact j2, j3, ?_, ?_, j6⟩
      · rw [show n - i = (n - (i + 1)) + 1 by omega]; simpa using j4
      · rw [show n - i = (n - (i + 1)) + 1 by omega]; simpa using j5
    · cases h

theorem run_checkKeyS {t : TypeId} {fs : Array Field} (hu : P.underlying t = some (.struct fs)) {cs : List Value} {cs' : Array Value} (hc : VRL σ cs cs'.toList) (hk : xkeyS P cs fs.toList = true) (b : Bool) (w : World) :
    (Instr.checkKey b 10000 t (.agg cs')).run P w = .ok () w := by
  have key : ∀ (l : List Field), xkeyS P cs l = true → (forIn l PUnit.unit (fun f _ => do
      if f.name ≠ "_" then Instr.checkKey b 9999 f.type (← part f.type cs' f.offset)
      pure (ForInStep.yield PUnit.unit)) : Sem PUnit).run P w = .ok PUnit.unit w := by
    intro l
    induction l with
    | nil => intro _; simp
    | cons f l ih =>
      intro hl
      simp only [xkeyS] at hl
      split at hl
      · rename_i d v hd hp
        simp only [Bool.and_eq_true] at hl
        obtain ⟨u, _, hu⟩ := xpart_sound hp hc
        have hck : ∀ v, (Instr.checkKey b 9999 f.type v).run P w = .ok () w := by
          intro v
          show (Instr.checkKey b (9998 + 1) f.type v).run P w = .ok () w
          unfold Instr.checkKey
          simp only [Sem.run_bind, run_underlying hd, Result.andThen_ok]
          have := hl.1
          cases d <;> simp [keyB] at this <;> rfl
        rw [List.forIn_cons, Sem.run_bind]
        by_cases hn : f.name = "_"
        · simp only [ne_eq, hn, not_true_eq_false, if_false, Sem.run_pure, Result.andThen_ok]
          exact ih hl.2
        · simp only [ne_eq, hn, not_false_eq_true, if_true, Sem.run_bind, hu, hck, Sem.run_pure, Result.andThen_ok]
          exact ih hl.2
      · cases hl
  show (Instr.checkKey b (9999 + 1) t (.agg cs')).run P w = .ok () w
  unfold Instr.checkKey
  simp only [Sem.run_bind, run_underlying hu, Result.andThen_ok]
  have := key fs.toList hk
  simp at this
  simp [this]

theorem xfindAny_sound {kt : TypeId} {d : TypeDesc} (hd : P.underlying kt = some d) {k k' : Value} (hk : VR σ k k') {es : List (Value × Value)} {ents : List MapEntry} {r : Option (Nat × Value)} (h : xfindAny P kt d k es = some r)
    (hl : es.length = ents.length) (hr : ∀ (j : Nat) x e, es[j]? = some x → ents[j]? = some e → VR σ x.1 e.key ∧ VR σ x.2 e.val) (w : World) :
    (∀ b, (Instr.checkKey b 10000 kt k').run P w = .ok () w) ∧ (r = none → (Instr.findKey kt k' ents).run P w = .ok none w) ∧
    (∀ n v, r = some (n, v) → ∃ u x e, (Instr.findKey kt k' ents).run P w = .ok (some (n, u)) w ∧ VR σ v u ∧ es[n]? = some x ∧ ents[n]? = some e ∧ Instr.sameBits 10000 e.key k' = true) := by
  unfold xfindAny at h
  split at h
  · rename_i fs
    split at h
    · rename_i cs
      obtain ⟨cs', rfl, hcs⟩ := VRL.of_agg hk
      cases hb : xkeyS P cs.toList fs.toList with
      | false => rw [hb] at h; cases h
      | true =>
      rw [hb, cond_true] at h
      obtain ⟨f1, f2⟩ := xfindS_sound hk w h hl hr
      have hfk : (Instr.findKey kt (.agg cs') ents).run P w = (Instr.findAsking kt (.agg cs') ents 0).run P w := by
        simp only [Instr.findKey, Sem.run_bind, run_underlying hd, Result.andThen_ok]
        cases ents with
        | nil => simp [Instr.findNow, Instr.findAsking]
        | cons e ents => simp [Instr.findNow, Instr.sameNow]
      refine ⟨fun b => run_checkKeyS hd hcs hb b w, fun hn => by rw [hfk]; exact f1 hn, fun n v hnv => ?_⟩
      obtain ⟨_, u, x, e, g1, g2, g3, g4, g5⟩ := f2 n v hnv
      rw [Nat.sub_zero] at g3 g4
      exact ⟨u, x, e, by rw [hfk]; exact g1, g2, g3, g4, g5⟩
    · cases h
  · cases hkb : keyB d with
    | false => rw [hkb] at h; cases h
    | true =>
      rw [hkb, cond_true] at h
      obtain ⟨f1, f2⟩ := xfind_sound hk h hl hr
      refine ⟨fun b => run_checkKey hd hkb b k', fun hn => ?_, fun n v hnv => ?_⟩
      · simp only [Instr.findKey, Sem.run_bind, run_underlying hd, Result.andThen_ok, f1 hn, Sem.run_pure]
      · obtain ⟨_, u, x, e, g1, g2, g3, g4, _, g5⟩ := f2 n v hnv
        rw [Nat.sub_zero] at g3 g4
        exact ⟨u, x, e, by simp only [Instr.findKey, Sem.run_bind, run_underlying hd, Result.andThen_ok, g1, Sem.run_pure], g2, g3, g4, g5⟩

def xlookup (P : Program) (hp : Hp) (t : TypeId) (x k : Value) (ok : Bool) : Option Value :=
  match P.underlying t with
  | some (.map kt et) => match P.underlying kt with
    | some d =>
        match (match x with
          | .map none => some []
          | .map (some i) => match hp.m.get i with
            | some (.map es _) => some es
            | _ => none
          | _ => none) with
        | none => none
        | some es => match xfindAny P kt d k es with
          | some (some (_, v)) => some (bif ok then .tuple #[v, .bool true] else v)
          | some none => match xzero P et with
            | some z => some (bif ok then .tuple #[z, .bool false] else z)
            | none => none
          | none => none
    | none => none
  | _ => none

theorem xlookup_sound {t : TypeId} {x x' k k' v : Value} {ok : Bool} (h : xlookup P hp t x k ok = some v) (hx : VR σ x x') (hk : VR σ k k') (hw : HR B w0 σ hp w) :
    ∃ u, VR σ v u ∧ (Instr.lookup t x' k' ok).run P w = .ok u w := by
  unfold xlookup at h
  split at h
  · rename_i kt et hu
    split at h
    · rename_i d hd
      have main : ∀ (es : List (Value × Value)) (ents : List MapEntry), es.length = ents.length → (∀ (j : Nat) x e, es[j]? = some x → ents[j]? = some e → VR σ x.1 e.key ∧ VR σ x.2 e.val) →
          (match xfindAny P kt d k es with
            | some (some (_, v)) => some (bif ok then .tuple #[v, .bool true] else v)
            | some none => match xzero P et with
              | some z => some (bif ok then .tuple #[z, .bool false] else z)
              | none => none
            | none => none) = some v →
          (∀ b, (Instr.checkKey b 10000 kt k').run P w = .ok () w) ∧ ∃ u, VR σ v u ∧ (do
            let (v, ok') ← match ← Instr.findKey kt k' ents with
              | some (_, v) => pure (v, true)
              | none => pure (← zeroValue et, false)
            pure (if ok then .tuple #[v, .bool ok'] else v) : Sem Value).run P w = .ok u w := by
        intro es ents hl hr h
        split at h
        · rename_i n v0 hf
          obtain ⟨hck, _, f3⟩ := xfindAny_sound hd hk hf hl hr w
          obtain ⟨u, x1, e1, hfk, f2, _⟩ := f3 n v0 rfl
          simp only [Option.some.injEq] at h
          subst h
          refine ⟨hck, if ok then .tuple #[u, .bool true] else u, ?_, ?_⟩
          · cases ok
            · exact f2
            · exact VR.tup2 f2 (.bool true)
          · simp only [Sem.run_bind, hfk, Result.andThen_ok, Sem.run_pure]
        · rename_i hf
          obtain ⟨hck, f2, _⟩ := xfindAny_sound hd hk hf hl hr w
          have hfk := f2 rfl
          split at h
          · rename_i z hz
            obtain ⟨hc, hzr⟩ := xzero_sound hz
            simp only [Option.some.injEq] at h
            subst h
            refine ⟨hck, if ok then .tuple #[z, .bool false] else z, ?_, ?_⟩
            · cases ok
              · exact cst_VR σ hc
              · exact VR.tup2 (cst_VR σ hc) (.bool false)
            · simp only [Sem.run_bind, hfk, Result.andThen_ok, hzr, Sem.run_pure]
          · cases h
        · cases h
      split at h
      · cases h
      · rename_i es hes
        split at hes
        · simp only [Option.some.injEq] at hes
          subst hes
          cases hx
          obtain ⟨hck, u, h1, h2⟩ := main [] [] rfl (fun j x e hx => by simp at hx) h
          refine ⟨u, h1, ?_⟩
          simp only [Instr.lookup, Sem.run_bind, run_underlying hu, Result.andThen_ok, Sem.run_pure, hck]
          simp only [Sem.run_bind] at h2
          exact h2
        · rename_i i
          split at hes
          · rename_i es' reg' hg
            simp only [Option.some.injEq] at hes
            subst hes
            cases hx with
            | map _ p hpi =>
            obtain ⟨p', o, g1, _, g3, ents, clock, rfl, g4, g5, g6⟩ := hw.live i _ hg
            have : p' = p := Option.some.inj (g1.symm.trans hpi)
            subst this
            have hget := run_getObj (P := P) g3 (fun c e f h => by cases h)
            obtain ⟨hck, u, h1, h2⟩ := main es' ents.toList (by simpa using g4.symm) (fun j x e hx he => g5 j x e hx (by simpa using he)) h
            refine ⟨u, h1, ?_⟩
            simp only [Instr.lookup, Sem.run_bind, run_underlying hu, Result.andThen_ok, hget, Sem.run_pure, hck]
            simp only [Sem.run_bind] at h2
            exact h2
          · cases hes
        · cases hes
    · cases h
  · cases h

def xmapSet (P : Program) (hp : Hp) (t : TypeId) (m k x : Value) : Option Hp :=
  match P.underlying t with
  | some (.map kt _) => match P.underlying kt with
    | some d =>
        match m with
        | .map (some i) => match hp.m.get i with
          | some (.map es reg) => match xfindAny P kt d k es with
            | some (some (n, _)) => some { hp with m := hp.m.set i (some (.map (es.set n (k, x)) reg)) }
            | some none => some { hp with m := hp.m.set i (some (.map (es ++ [(k, x)]) reg)) }
            | none => none
          | _ => none
        | _ => none
    | none => none
  | _ => none

theorem xmapSet_sound {t : TypeId} {m m' k k' x x' : Value} {hp' : Hp} (h : xmapSet P hp t m k x = some hp') (hm : VR σ m m') (hk : VR σ k k') (hx : VR σ x x') (hw : HR B w0 σ hp w) :
    ∃ w', (Instr.mapUpdate t m' k' x').run P w = .ok () w' ∧ HR B w0 σ hp' w' ∧ hp'.nx = hp.nx := by
  unfold xmapSet at h
  split at h
  · rename_i kt et hu
    split at h
    · rename_i d hd
      split at h
      · rename_i i
        cases hm with
        | map _ p hpi =>
        split at h
        · rename_i es reg hg
          obtain ⟨p', o, g1, _, g3, ents, clock, rfl, g4, g5, g6⟩ := hw.live i _ hg
          have : p' = p := Option.some.inj (g1.symm.trans hpi)
          subst this
          have hget := run_getObj (P := P) g3 (fun c e f h => by cases h)
          have hset := fun o' => run_setObj (P := P) (o' := o') g3 (fun c e f h => by cases h)
          have hl : es.length = ents.toList.length := by simpa using g4.symm
          have hr : ∀ (j : Nat) x e, es[j]? = some x → ents.toList[j]? = some e → VR σ x.1 e.key ∧ VR σ x.2 e.val := fun j x e hx he => g5 j x e hx (by simpa using he)
          split at h
          · rename_i n v0 hf
            obtain ⟨hck, _, f0⟩ := xfindAny_sound hd hk hf hl hr w
            obtain ⟨u, x1, e1, hfk, f2, f3, f4, f6⟩ := f0 n v0 rfl
            have he1 : ents[n]? = some e1 := by simpa using f4
            simp only [Option.some.injEq] at h
            subst h
            have hks : (Instr.keyThatStays e1.key k').run P w = .ok k' w := by
              simp only [Instr.keyThatStays, f6, if_true, Sem.run_pure]
            refine ⟨_, ?_, hw.setO hg g1 (b' := .map (es.set n (k, x)) reg) (o := .map (ents.modify n fun e => { e with key := k', val := x' }) clock) ⟨_, _, rfl, by simp [g4], fun j y e hy he => ?_, fun hreg => ?_⟩, rfl⟩
            · simp only [Instr.mapUpdate, Sem.run_bind, run_underlying hu, Result.andThen_ok, hget, hck, hfk, he1, Option.map_some, Option.getD_some, hks, hset]
            · rw [List.getElem?_set] at hy
              rw [Array.getElem?_modify] at he
              by_cases hnj : n = j
              · subst hnj
                rw [if_pos rfl] at hy he
                have hlt : n < es.length := by rw [hl]; exact (List.getElem?_eq_some_iff.1 f4).1
                rw [if_pos hlt] at hy
                simp only [Option.some.injEq] at hy
                rw [he1] at he
                simp only [Option.map_some, Option.some.injEq] at he
                subst hy; subst he
                exact ⟨hk, hx⟩
              · rw [if_neg hnj] at hy he
                exact g5 j y e hy he
            · obtain ⟨c1, c2⟩ := g6 hreg
              refine ⟨by simp [c1], fun j e he => ?_⟩
              rw [Array.getElem?_modify] at he
              by_cases hnj : n = j
              · subst hnj
                rw [if_pos rfl, he1] at he
                simp only [Option.map_some, Option.some.injEq] at he
                subst he
                exact c2 n e1 he1
              · rw [if_neg hnj] at he
                exact c2 j e he
          · rename_i hf
            obtain ⟨hck, f0, _⟩ := xfindAny_sound hd hk hf hl hr w
            have hfk := f0 rfl
            simp only [Option.some.injEq] at h
            subst h
            refine ⟨_, ?_, hw.setO hg g1 (b' := .map (es ++ [(k, x)]) reg) (o := .map (ents.push { key := k', val := x', born := clock }) (clock + 1)) ⟨_, _, rfl, by simp [g4], fun j y e hy he => ?_, fun hreg => ?_⟩, rfl⟩
            · simp only [Instr.mapUpdate, Sem.run_bind, run_underlying hu, Result.andThen_ok, hget, hck, hfk, hset]
            · rw [List.getElem?_append] at hy
              rw [Array.getElem?_push] at he
              by_cases hj : j < es.length
              · rw [if_pos hj] at hy
                rw [if_neg (by omega)] at he
                exact g5 j y e hy he
              · rw [if_neg hj] at hy
                have hj2 : j - es.length = 0 := by
                  have := (List.getElem?_eq_some_iff.1 hy).1
                  simp at this; omega
                rw [hj2] at hy
                simp only [List.getElem?_cons_zero, Option.some.injEq] at hy
                rw [if_pos (by omega)] at he
                simp only [Option.some.injEq] at he
                subst hy; subst he
                exact ⟨hk, hx⟩
            · obtain ⟨c1, c2⟩ := g6 hreg
              refine ⟨by simp [c1], fun j e he => ?_⟩
              rw [Array.getElem?_push] at he
              by_cases hj : j = ents.size
              · rw [if_pos hj] at he
                simp only [Option.some.injEq] at he
                subst he
                exact c1.trans hj.symm
              · rw [if_neg hj] at he
                exact c2 j e he
          · cases h
        · cases h
      · cases h
    · cases h
  · cases h

/-- An entry of a map whose stamps are known, found or laid: its value and its stamp. -/
def xmapEntry (P : Program) (hp : Hp) (t : TypeId) (m k : Value) : Option (Value × Hp) :=
  match P.underlying t with
  | some (.map kt et) => match P.underlying kt with
    | some d =>
        match m with
        | .map (some i) => match hp.m.get i with
          | some (.map es true) => match xfindAny P kt d k es with
            | some (some (n, v)) => match es[n]? with
              | some y => some (.tuple #[v, .int .i64 n], { hp with m := hp.m.set i (some (.map (es.set n (k, y.2)) true)) })
              | none => none
            | some none => match xzero P et with
              | some z => some (.tuple #[z, .int .i64 es.length], { hp with m := hp.m.set i (some (.map (es ++ [(k, z)]) true)) })
              | none => none
            | none => none
          | _ => none
        | _ => none
    | none => none
  | _ => none

theorem xmapEntry_sound {t : TypeId} {m m' k k' v : Value} {hp' : Hp} (h : xmapEntry P hp t m k = some (v, hp')) (hm : VR σ m m') (hk : VR σ k k') (hw : HR B w0 σ hp w) :
    MOK hp B w0 σ v hp' ((Instr.mapEntry t m' k').run P w) := by
  unfold xmapEntry at h
  split at h
  · rename_i kt et hu
    split at h
    · rename_i d hd
      split at h
      · rename_i i
        cases hm with
        | map _ p hpi =>
        split at h
        · rename_i es hg
          obtain ⟨p', o, g1, _, g3, ents, clock, rfl, g4, g5, g6⟩ := hw.live i _ hg
          have : p' = p := Option.some.inj (g1.symm.trans hpi)
          subst this
          obtain ⟨c1, c2⟩ := g6 rfl
          have hget := run_getObj (P := P) g3 (fun c e f h => by cases h)
          have hset := fun o' => run_setObj (P := P) (o' := o') g3 (fun c e f h => by cases h)
          have hl : es.length = ents.toList.length := by simpa using g4.symm
          have hr : ∀ (j : Nat) x e, es[j]? = some x → ents.toList[j]? = some e → VR σ x.1 e.key ∧ VR σ x.2 e.val := fun j x e hx he => g5 j x e hx (by simpa using he)
          split at h
          · rename_i n v0 hf
            obtain ⟨hck, _, f0⟩ := xfindAny_sound hd hk hf hl hr w
            obtain ⟨u, x1, e1, hfk, f2, f3, f4, f6⟩ := f0 n v0 rfl
            have he1 : ents[n]? = some e1 := by simpa using f4
            rw [f3] at h
            simp only [Option.some.injEq, Prod.mk.injEq] at h
            obtain ⟨rfl, rfl⟩ := h
            have hks : (Instr.keyThatStays e1.key k').run P w = .ok k' w := by
              simp only [Instr.keyThatStays, f6, if_true, Sem.run_pure]
            refine ⟨σ, .tuple #[u, goInt e1.born], _, ?_, Sg.gr_refl _ σ, ?_, hw.setO hg g1 (b' := .map (es.set n (k, x1.2)) true) (o := .map (ents.modify n fun e => { e with key := k' }) clock) ⟨_, _, rfl, by simp [g4], fun j y e hy he => ?_, fun _ => ?_⟩⟩
            · simp only [Instr.mapEntry, Sem.run_bind, run_underlying hu, Result.andThen_ok, hget, hck, hfk, he1, Option.map_some, Option.getD_some, hks, hset, Sem.run_pure]
            · rw [c2 n e1 he1]
              exact VR.tup2 f2 (.int _ _)
            · rw [List.getElem?_set] at hy
              rw [Array.getElem?_modify] at he
              by_cases hnj : n = j
              · subst hnj
                rw [if_pos rfl] at hy he
                have hlt : n < es.length := by rw [hl]; exact (List.getElem?_eq_some_iff.1 f4).1
                rw [if_pos hlt] at hy
                simp only [Option.some.injEq] at hy
                rw [he1] at he
                simp only [Option.map_some, Option.some.injEq] at he
                subst hy; subst he
                exact ⟨hk, (g5 n x1 e1 f3 he1).2⟩
              · rw [if_neg hnj] at hy he
                exact g5 j y e hy he
            · refine ⟨by simp [c1], fun j e he => ?_⟩
              rw [Array.getElem?_modify] at he
              by_cases hnj : n = j
              · subst hnj
                rw [if_pos rfl, he1] at he
                simp only [Option.map_some, Option.some.injEq] at he
                subst he
                exact c2 n e1 he1
              · rw [if_neg hnj] at he
                exact c2 j e he
          · rename_i hf
            obtain ⟨hck, f0, _⟩ := xfindAny_sound hd hk hf hl hr w
            have hfk := f0 rfl
            split at h
            · rename_i z hz
              obtain ⟨hc, hzr⟩ := xzero_sound hz
              simp only [Option.some.injEq, Prod.mk.injEq] at h
              obtain ⟨rfl, rfl⟩ := h
              refine ⟨σ, .tuple #[z, goInt clock], _, ?_, Sg.gr_refl _ σ, ?_, hw.setO hg g1 (b' := .map (es ++ [(k, z)]) true) (o := .map (ents.push { key := k', val := z, born := clock }) (clock + 1)) ⟨_, _, rfl, by simp [g4], fun j y e hy he => ?_, fun _ => ?_⟩⟩
              · simp only [Instr.mapEntry, Sem.run_bind, run_underlying hu, Result.andThen_ok, hget, hck, hfk, hzr, hset, Sem.run_pure]
              · rw [c1, g4]
                exact VR.tup2 (cst_VR σ hc) (.int _ _)
              · rw [List.getElem?_append] at hy
                rw [Array.getElem?_push] at he
                by_cases hj : j < es.length
                · rw [if_pos hj] at hy
                  rw [if_neg (by omega)] at he
                  exact g5 j y e hy he
                · rw [if_neg hj] at hy
                  have hj2 : j - es.length = 0 := by
                    have := (List.getElem?_eq_some_iff.1 hy).1
                    simp at this; omega
                  rw [hj2] at hy
                  simp only [List.getElem?_cons_zero, Option.some.injEq] at hy
                  rw [if_pos (by omega)] at he
                  simp only [Option.some.injEq] at he
                  subst hy; subst he
                  exact ⟨hk, cst_VR σ hc⟩
              · refine ⟨by simp [c1], fun j e he => ?_⟩
                rw [Array.getElem?_push] at he
                by_cases hj : j = ents.size
                · rw [if_pos hj] at he
                  simp only [Option.some.injEq] at he
                  subst he
                  exact c1.trans hj.symm
                · rw [if_neg hj] at he
                  exact c2 j e he
            · cases h
          · cases h
        · cases h
      · cases h
    · cases h
  · cases h

/-- The entry with that stamp gets another value. -/
def xentryStore (hp : Hp) (m s x : Value) : Option Hp :=
  match m, s with
  | .map (some i), .int _ (.ofNat n) => match hp.m.get i with
    | some (.map es true) => match es[n]? with
      | some y => some { hp with m := hp.m.set i (some (.map (es.set n (y.1, x)) true)) }
      | none => none
    | _ => none
  | _, _ => none

theorem xentryStore_sound {t : TypeId} {m m' s s' x x' : Value} {hp' : Hp} (h : xentryStore hp m s x = some hp') (hm : VR σ m m') (hs : VR σ s s') (hx : VR σ x x') (hw : HR B w0 σ hp w) :
    ∃ w', (Instr.entryStore t m' s' x').run P w = .ok () w' ∧ HR B w0 σ hp' w' ∧ hp'.nx = hp.nx := by
  unfold xentryStore at h
  split at h
  · rename_i i kd n
    cases hm with
    | map _ p hpi =>
    cases hs
    split at h
    · rename_i es hg
      obtain ⟨p', o, g1, _, g3, ents, clock, rfl, g4, g5, g6⟩ := hw.live i _ hg
      have : p' = p := Option.some.inj (g1.symm.trans hpi)
      subst this
      obtain ⟨c1, c2⟩ := g6 rfl
      have hget := run_getObj (P := P) g3 (fun c e f h => by cases h)
      have hset := fun o' => run_setObj (P := P) (o' := o') g3 (fun c e f h => by cases h)
      split at h
      · rename_i y hy
        simp only [Option.some.injEq] at h
        subst h
        have hn : n < ents.size := by rw [g4]; exact (List.getElem?_eq_some_iff.1 hy).1
        have he1 : ents[n]? = some ents[n] := by simp [hn]
        have hfi : ents.findIdx? (fun e => (e.born : Int) == Int.ofNat n) = some n := by
          rw [Array.findIdx?_eq_some_iff_getElem]
          refine ⟨hn, ?_, fun j hj => ?_⟩
          · rw [c2 n _ he1]; simp
          · have := c2 j ents[j] (by simp [show j < ents.size by omega])
            rw [this]
            simp only [Int.ofNat_eq_natCast, beq_iff_eq, Int.natCast_inj]
            omega
        refine ⟨_, ?_, hw.setO hg g1 (b' := .map (es.set n (y.1, x)) true) (o := .map (ents.modify n fun e => { e with val := x' }) clock) ⟨_, _, rfl, by simp [g4], fun j z e hz he => ?_, fun _ => ?_⟩, rfl⟩
        · simp only [Instr.entryStore, Sem.run_bind, Result.andThen_ok, hget, asInt, asIntOf, Sem.run_pure, hfi, hset]
        · rw [List.getElem?_set] at hz
          rw [Array.getElem?_modify] at he
          by_cases hnj : n = j
          · subst hnj
            rw [if_pos rfl] at hz he
            rw [if_pos (by rw [← g4]; exact hn)] at hz
            simp only [Option.some.injEq] at hz
            rw [he1] at he
            simp only [Option.map_some, Option.some.injEq] at he
            subst hz; subst he
            exact ⟨(g5 n y _ hy he1).1, hx⟩
          · rw [if_neg hnj] at hz he
            exact g5 j z e hz he
        · refine ⟨by simp [c1], fun j e he => ?_⟩
          rw [Array.getElem?_modify] at he
          by_cases hnj : n = j
          · subst hnj
            rw [if_pos rfl, he1] at he
            simp only [Option.map_some, Option.some.injEq] at he
            subst he
            exact c2 n ents[n] he1
          · rw [if_neg hnj] at he
            exact c2 j e he
      · cases h
    · cases h
  · cases h

def xlenM (hp : Hp) (P : Program) (t : TypeId) (x : Value) : Option Value :=
  match P.underlying t, x with
  | some (.map _ _), .map (some i) => match hp.m.get i with
    | some (.map es _) => some (.int .i64 es.length)
    | _ => none
  | _, _ => xlen P t x

theorem xlenM_sound {t : TypeId} {x x' v : Value} (h : xlenM hp P t x = some v) (hx : VR σ x x') (hw : HR B w0 σ hp w) (ty : TypeId) (ats : Array TypeId) (hat : ats[0]? = some t) :
    VR σ v v ∧ (Builtin.len_ ats ty #[x']).run P w = .ok v w := by
  unfold xlenM at h
  split at h
  · rename_i kt et i hu
    split at h
    · rename_i es hg
      simp only [Option.some.injEq] at h
      subst h
      cases hx with
      | map _ p hpi =>
      obtain ⟨p', o, g1, _, g3, ents, clock, rfl, g4, g5, g6⟩ := hw.live i _ hg
      have : p' = p := Option.some.inj (g1.symm.trans hpi)
      subst this
      have hget := run_getObj (P := P) g3 (fun c e f h => by cases h)
      refine ⟨.int _ _, ?_⟩
      simp [Builtin.len_, hat, run_underlying hu, hget, goInt, g4]
    · cases h
  · exact ⟨(xlen_sound (P := P) h hx ty ats hat).1, (xlen_sound (P := P) h hx ty ats hat).2 w⟩
end
end Go.Xe
