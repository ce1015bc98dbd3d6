/- The executor, part 2: the relation between abstract and concrete values and memories; loads, stores and new blocks keep it.
  Conditions: none. -/
import Derived.Test.YtbdbkggaadbhoaaGreatXe1
noncomputable section
namespace Go.Xe
open Go.RowKit

structure Pl where
  blk : Nat
  dl : Nat
  siz : Nat
  esz : Nat

/-- Where the abstract blocks lie. -/
def Sg : Type := Nat → Option Pl
def Sg.le (σ σ' : Sg) : Prop := ∀ i p, σ i = some p → σ' i = some p
theorem Sg.le_refl (σ : Sg) : Sg.le σ σ := fun _ _ h => h
theorem Sg.le_trans {a b c : Sg} (h : Sg.le a b) (k : Sg.le b c) : Sg.le a c := fun i p e => k i p (h i p e)

/-- σ' stands for all that σ stood for, and for more numbers from n on alone; n' is the next number now. -/
structure Sg.gr (n n' : Nat) (σ σ' : Sg) : Prop where
  le : Sg.le σ σ'
  low : ∀ i, i < n → σ' i = σ i
  nx : n ≤ n'
theorem Sg.gr_refl (n : Nat) (σ : Sg) : Sg.gr n n σ σ := ⟨Sg.le_refl σ, fun _ _ => rfl, Nat.le_refl n⟩
theorem Sg.gr_trans {n n1 n2 : Nat} {a b c : Sg} (h : Sg.gr n n1 a b) (k : Sg.gr n1 n2 b c) : Sg.gr n n2 a c :=
  ⟨Sg.le_trans h.le k.le, fun i hi => (k.low i (by have := h.nx; omega)).trans (h.low i hi), Nat.le_trans h.nx k.nx⟩

/-- The capacity that is not known. -/
def unk : Nat := 9223372036854775808

/-- A capacity from unk on stands for one that is not known: at least 'capLo', and less than 'capHi' if that is not 0. -/
def capLo (c : Nat) : Nat := c / unk - 1
def capHi (c : Nat) : Nat := c % unk
def mkCap (lo hi : Nat) : Nat := unk * (lo + 1) + hi
theorem mkCap_lo {lo hi : Nat} (h : hi < unk) : capLo (mkCap lo hi) = lo := by unfold capLo mkCap; unfold unk at *; omega
theorem mkCap_hi {lo hi : Nat} (h : hi < unk) : capHi (mkCap lo hi) = hi := by unfold capHi mkCap; unfold unk at *; omega
theorem mkCap_ge (lo hi : Nat) : unk ≤ mkCap lo hi := by unfold mkCap unk; omega
theorem unk_lo : capLo unk = 0 := by decide
theorem unk_hi : capHi unk = 0 := by decide
theorem unk_pos : 0 < unk := by decide

/-- '.complex f lo hi' stands for an integer that is not known: of kind 'ikind f lo', at least 'loOf lo', and less than hi if hi is not 0. -/
def fkind : FloatKind → Nat → IntKind
  | .f32, 0 => .u32
  | .f32, 1 => .u64
  | .f32, _ => .u8
  | .f64, _ => .i64
def ikind (f : FloatKind) (lo : Nat) : IntKind := fkind f (lo / 18446744073709551616)
def loOf (lo : Nat) : Nat := lo % 18446744073709551616
theorem loOf_le (lo : Nat) : loOf lo ≤ lo := Nat.mod_le _ _

inductive VR (σ : Sg) : Value → Value → Prop
  | bool (b : Bool) : VR σ (.bool b) (.bool b)
  | int (k : IntKind) (n : Int) : VR σ (.int k n) (.int k n)
  | float (k : FloatKind) (n : Nat) : VR σ (.float k n) (.float k n)
  | ival (f : FloatKind) (lo hi n : Nat) (h1 : loOf lo ≤ n) (h2 : hi = 0 ∨ n < hi) : VR σ (.complex f lo hi) (.int (ikind f lo) n)
  | string (s : ByteArray) : VR σ (.string s) (.string s)
  | nilp : VR σ (.pointer none) (.pointer none)
  | ptr (i o : Nat) (p : Pl) (h : σ i = some p) : VR σ (.pointer (some ⟨i, o, none⟩)) (.pointer (some ⟨p.blk, p.dl + o, none⟩))
  | nils (l c : Nat) : VR σ (.slice none l c) (.slice none l c)
  | slice (i o : Nat) (p : Pl) (l c c' : Nat) (h : σ i = some p) (hc : (c = c' ∧ c < unk) ∨ (unk ≤ c ∧ capLo c ≤ c' ∧ (capHi c = 0 ∨ c' < capHi c) ∧ p.dl + o + c' * p.esz ≤ p.siz)) (hl : l ≤ c') :
      VR σ (.slice (some ⟨i, o, none⟩) l c) (.slice (some ⟨p.blk, p.dl + o, none⟩) l c')
  | vague (q : Addr) (c' : Nat) : VR σ (.slice (some ⟨0, 0, some 0⟩) 0 unk) (.slice (some q) 0 c')
  | nilm : VR σ (.map none) (.map none)
  | map (i : Nat) (p : Pl) (h : σ i = some p) : VR σ (.map (some i)) (.map (some p.blk))
  | func (fn : Fn) (xs ys cs ds : Array Value) (h1 : xs.size = ys.size) (h2 : ∀ (i : Nat) x y, xs[i]? = some x → ys[i]? = some y → VR σ x y)
      (h3 : cs.size = ds.size) (h4 : ∀ (i : Nat) x y, cs[i]? = some x → ds[i]? = some y → VR σ x y) : VR σ (.func fn xs cs) (.func fn ys ds)
  | nilf : VR σ .nilFunc .nilFunc
  | yield (i : Nat) (p : Pl) (h : σ i = some p) : VR σ (.chan (some i)) (.func (.yield p.blk) #[] #[])
  | iface (t : TypeId) (v u : Value) (h : VR σ v u) : VR σ (.iface t v) (.iface t u)
  | nili : VR σ .nilIface .nilIface
  | agg (xs ys : Array Value) (h1 : xs.size = ys.size) (h2 : ∀ (i : Nat) x y, xs[i]? = some x → ys[i]? = some y → VR σ x y) : VR σ (.agg xs) (.agg ys)
  | tuple (xs ys : Array Value) (h1 : xs.size = ys.size) (h2 : ∀ (i : Nat) x y, xs[i]? = some x → ys[i]? = some y → VR σ x y) : VR σ (.tuple xs) (.tuple ys)

theorem VR.mono {σ σ' : Sg} (hs : Sg.le σ σ') {a b : Value} (h : VR σ a b) : VR σ' a b := by
  induction h with
  | bool b => exact .bool b
  | int k n => exact .int k n
  | float k n => exact .float k n
  | ival f lo hi n h1 h2 => exact .ival f lo hi n h1 h2
  | string s => exact .string s
  | nilp => exact .nilp
  | ptr i o p h => exact .ptr i o p (hs _ _ h)
  | nils l c => exact .nils l c
  | slice i o p l c c' h hc hl => exact .slice i o p l c c' (hs _ _ h) hc hl
  | vague q c' => exact .vague q c'
  | nilm => exact .nilm
  | map i p h => exact .map i p (hs _ _ h)
  | func fn xs ys cs ds h1 _ h3 _ ih1 ih2 => exact .func fn xs ys cs ds h1 ih1 h3 ih2
  | nilf => exact .nilf
  | yield i p h => exact .yield i p (hs _ _ h)
  | iface t v u _ ih => exact .iface t v u ih
  | nili => exact .nili
  | agg xs ys h1 _ ih => exact .agg xs ys h1 ih
  | tuple xs ys h1 _ ih => exact .tuple xs ys h1 ih

theorem VR.undef (σ : Sg) : VR σ undef undef := .tuple _ _ rfl (fun i x y h _ => by simp at h)

/-- Two lists of values, place by place. -/
def VRL (σ : Sg) (xs ys : List Value) : Prop := xs.length = ys.length ∧ ∀ (i : Nat) x y, xs[i]? = some x → ys[i]? = some y → VR σ x y
theorem VRL.nil (σ : Sg) : VRL σ [] [] := ⟨rfl, fun i x y h _ => by simp at h⟩
theorem VRL.cons {σ : Sg} {x y : Value} {xs ys : List Value} (h : VR σ x y) (hs : VRL σ xs ys) : VRL σ (x :: xs) (y :: ys) := by
  refine ⟨by simp [hs.1], fun i a b ha hb => ?_⟩
  cases i with
  | zero => simp at ha hb; subst ha; subst hb; exact h
  | succ i => simp at ha hb; exact hs.2 i a b ha hb
theorem VRL.uncons {σ : Sg} {x : Value} {xs ys : List Value} (h : VRL σ (x :: xs) ys) : ∃ y ys', ys = y :: ys' ∧ VR σ x y ∧ VRL σ xs ys' := by
  cases ys with
  | nil => exact absurd h.1 (by simp)
  | cons y ys => exact ⟨y, ys, rfl, h.2 0 x y rfl rfl, by have := h.1; simpa using this, fun i a b ha hb => h.2 (i + 1) a b (by simpa using ha) (by simpa using hb)⟩
theorem VRL.unnil {σ : Sg} {ys : List Value} (h : VRL σ [] ys) : ys = [] := List.eq_nil_of_length_eq_zero h.1.symm
theorem VRL.mono {σ σ' : Sg} (hs : Sg.le σ σ') {a b : List Value} (h : VRL σ a b) : VRL σ' a b := ⟨h.1, fun i x y hx hy => (h.2 i x y hx hy).mono hs⟩
theorem VRL.append {σ : Sg} {a b c d : List Value} (h : VRL σ a b) (k : VRL σ c d) : VRL σ (a ++ c) (b ++ d) := by
  induction a generalizing b with
  | nil => rw [h.unnil]; exact k
  | cons x a ih => obtain ⟨y, b', rfl, h1, h2⟩ := h.uncons; exact VRL.cons h1 (ih h2)
theorem VRL.get {σ : Sg} {a b : List Value} (h : VRL σ a b) {i : Nat} {x : Value} (hx : a[i]? = some x) : ∃ y, b[i]? = some y ∧ VR σ x y := by
  have hi : i < a.length := (List.getElem?_eq_some_iff.1 hx).1
  have hb : i < b.length := by rw [← h.1]; exact hi
  exact ⟨b[i], by simp [hb], h.2 i x _ hx (by simp [hb])⟩
theorem VRL.of_agg {σ : Sg} {a : Array Value} {v : Value} (h : VR σ (.agg a) v) : ∃ b, v = .agg b ∧ VRL σ a.toList b.toList := by
  cases h with
  | agg _ ys h1 h2 => exact ⟨ys, rfl, by simpa using h1, fun i x y hx hy => h2 i x y (by simpa using hx) (by simpa using hy)⟩
theorem VRL.to_agg {σ : Sg} {a b : List Value} (h : VRL σ a b) : VR σ (.agg a.toArray) (.agg b.toArray) :=
  .agg _ _ (by simpa using h.1) (fun i x y hx hy => h.2 i x y (by simpa using hx) (by simpa using hy))
theorem VRL.of_tuple {σ : Sg} {a : Array Value} {v : Value} (h : VR σ (.tuple a) v) : ∃ b, v = .tuple b ∧ VRL σ a.toList b.toList := by
  cases h with
  | tuple _ ys h1 h2 => exact ⟨ys, rfl, by simpa using h1, fun i x y hx hy => h2 i x y (by simpa using hx) (by simpa using hy)⟩
theorem VRL.to_tuple {σ : Sg} {a b : List Value} (h : VRL σ a b) : VR σ (.tuple a.toArray) (.tuple b.toArray) :=
  .tuple _ _ (by simpa using h.1) (fun i x y hx hy => h.2 i x y (by simpa using hx) (by simpa using hy))

theorem VR.cells {σ : Sg} {v u : Value} (h : VR σ v u) : VRL σ v.cells.toList u.cells.toList := by
  cases h with
  | agg xs ys h1 h2 => exact ⟨by simpa [Value.cells] using h1, fun i x y hx hy => h2 i x y (by simpa [Value.cells] using hx) (by simpa [Value.cells] using hy)⟩
  | bool b => exact VRL.cons (.bool b) (VRL.nil σ)
  | int k n => exact VRL.cons (.int k n) (VRL.nil σ)
  | float k n => exact VRL.cons (.float k n) (VRL.nil σ)
  | ival f lo hi n h1 h2 => exact VRL.cons (.ival f lo hi n h1 h2) (VRL.nil σ)
  | string s => exact VRL.cons (.string s) (VRL.nil σ)
  | nilp => exact VRL.cons .nilp (VRL.nil σ)
  | ptr i o p h => exact VRL.cons (.ptr i o p h) (VRL.nil σ)
  | nils l c => exact VRL.cons (.nils l c) (VRL.nil σ)
  | slice i o p l c c' h hc hl => exact VRL.cons (.slice i o p l c c' h hc hl) (VRL.nil σ)
  | vague q c' => exact VRL.cons (.vague q c') (VRL.nil σ)
  | nilm => exact VRL.cons .nilm (VRL.nil σ)
  | map i p h => exact VRL.cons (.map i p h) (VRL.nil σ)
  | func fn xs ys cs ds h1 h2 h3 h4 => exact VRL.cons (.func fn xs ys cs ds h1 h2 h3 h4) (VRL.nil σ)
  | nilf => exact VRL.cons .nilf (VRL.nil σ)
  | yield i p h => exact VRL.cons (.yield i p h) (VRL.nil σ)
  | iface t v u h => exact VRL.cons (.iface t v u h) (VRL.nil σ)
  | nili => exact VRL.cons .nili (VRL.nil σ)
  | tuple xs ys h1 h2 => exact VRL.cons (.tuple xs ys h1 h2) (VRL.nil σ)

theorem VR.oneCell {σ : Sg} {v u : Value} (h : VR σ v u) (hv : v.oneCell' = true) : u.oneCell' = true := by
  cases h <;> first | rfl | (simp [Value.oneCell'] at hv)

/-! ## Memory -/

inductive Blk where
  | cells (c : T Value) (n : Nat) (elem esz : Nat)
  | sit (s : ByteArray) (pos : Nat)
  | map (es : List (Value × Value)) (reg : Bool)
  | loop (st : LoopState) (pend : Option Code) (nt : Nat) (tms : T Value) (params : Array Tmp) (assign body : Code) (db : Nat)
  | dfr

structure Hp where
  m : T Blk
  nx : Nat

/-- What an abstract block says of the one that it stands for: cells, an iterator over a string, a map. -/
def BR (σ : Sg) (p : Pl) : Blk → Obj → Prop
  | .cells c n e z, o => ∃ C, o = .cells C e (0, 0) ∧ p.esz = z ∧ C.size = p.siz ∧ p.dl + n ≤ p.siz ∧ ∀ j, j < n → ∃ v u, c.get j = some v ∧ C[p.dl + j]? = some u ∧ VR σ v u
  | .sit s pos, o => o = .stringIter s pos ∧ p.dl = 0
  | .dfr, o => o = .deferred (some [])
  | .loop st pend nt tms params assign body db, o => ∃ r, o = .loop r ∧ r.state = st ∧ r.pending = pend ∧ r.params = params ∧ r.assign = assign ∧ r.body = body ∧
      (r.tmps.size = nt ∧ ∀ k, VR σ ((tms.get k).getD undef) (r.tmps.getD k undef)) ∧ ∃ q, σ db = some q ∧ q.blk = r.defers
  | .map es reg, o => ∃ ents clock, o = .map ents clock ∧ ents.size = es.length ∧ (∀ (j : Nat) x e, es[j]? = some x → ents[j]? = some e → VR σ x.1 e.key ∧ VR σ x.2 e.val) ∧
      (reg = true → clock = ents.size ∧ ∀ (j : Nat) e, ents[j]? = some e → e.born = j)

theorem BR.mono {σ σ' : Sg} (hs : Sg.le σ σ') {p : Pl} {b : Blk} {o : Obj} (h : BR σ p b o) : BR σ' p b o := by
  cases b with
  | cells c n e z =>
    obtain ⟨C, h1, h2, h3, h4, h5⟩ := h
    exact ⟨C, h1, h2, h3, h4, fun j hj => let ⟨v, u, a, b, c⟩ := h5 j hj; ⟨v, u, a, b, c.mono hs⟩⟩
  | sit s pos => exact h
  | dfr => exact h
  | loop st pend nt tms params assign body db =>
    obtain ⟨r, h1, h2, h3, h4, h5, h6, ⟨h7, h8⟩, q, h9, h10⟩ := h
    exact ⟨r, h1, h2, h3, h4, h5, h6, ⟨h7, fun k => (h8 k).mono hs⟩, q, hs _ _ h9, h10⟩
  | map es reg =>
    obtain ⟨ents, clock, h1, h2, h3, h4⟩ := h
    exact ⟨ents, clock, h1, h2, fun j x e hx he => ⟨(h3 j x e hx he).1.mono hs, (h3 j x e hx he).2.mono hs⟩, h4⟩

/-- The abstract memory stands for a part of what the world holds; the blocks of B are as they were in w0. -/
structure HR (B : Nat → Prop) (w0 : World) (σ : Sg) (hp : Hp) (w : World) : Prop where
  os : w.os = w0.os
  tape : w.tape = w0.tape
  output : w.output = w0.output
  size : w0.heap.size ≤ w.heap.size
  old : ∀ k, B k → k < w0.heap.size
  kept : ∀ k, B k → w.heap[k]? = w0.heap[k]?
  fresh : ∀ i, hp.nx ≤ i → σ i = none
  live : ∀ i b, hp.m.get i = some b → ∃ p o, σ i = some p ∧ ¬ B p.blk ∧ w.heap[p.blk]? = some o ∧ BR σ p b o
  inj : ∀ i j b b' p q, hp.m.get i = some b → hp.m.get j = some b' → i ≠ j → σ i = some p → σ j = some q → p.blk ≠ q.blk

theorem HR.liveC {B : Nat → Prop} {w0 : World} {σ : Sg} {hp : Hp} {w : World} (h : HR B w0 σ hp w) {i n e z : Nat} {c : T Value} (hg : hp.m.get i = some (.cells c n e z)) :
    ∃ p C, σ i = some p ∧ p.esz = z ∧ ¬ B p.blk ∧ w.heap[p.blk]? = some (.cells C e (0, 0)) ∧ C.size = p.siz ∧ p.dl + n ≤ p.siz ∧ ∀ j, j < n → ∃ v u, c.get j = some v ∧ C[p.dl + j]? = some u ∧ VR σ v u := by
  obtain ⟨p, o, h1, h2, h3, C, rfl, h5, h6, h7, h8⟩ := h.live i _ hg
  exact ⟨p, C, h1, h5, h2, h3, h6, h7, h8⟩

theorem HR.drew {B : Nat → Prop} {w0 : World} {σ : Sg} {hp : Hp} {w : World} (h : HR B w0 σ hp w) : HR B w0 σ hp w.drew :=
  ⟨h.os, h.tape, h.output, h.size, h.old, h.kept, h.fresh, h.live, h.inj⟩

/-- The list, place by place, from place k on. -/
def fill (c : T Value) : Nat → List Value → T Value
  | _, [] => c
  | k, v :: vs => fill (c.set k (some v)) (k + 1) vs

theorem get_fill : ∀ (vs : List Value) (c : T Value) (k j : Nat), (fill c k vs).get j = if k ≤ j ∧ j < k + vs.length then vs[j - k]? else c.get j := by
  intro vs
  induction vs with
  | nil => intro c k j; simp only [fill, List.length_nil, Nat.add_zero]; rw [if_neg (by omega)]
  | cons v vs ih =>
    intro c k j
    simp only [fill, ih, T.get_set, List.length_cons]
    by_cases h1 : j = k
    · subst h1; rw [if_neg (by omega), if_pos rfl, if_pos (by omega)]; simp
    · by_cases h2 : k + 1 ≤ j ∧ j < k + 1 + vs.length
      · rw [if_pos h2, if_pos (by omega)]
        have : j - k = (j - (k + 1)) + 1 := by omega
        rw [this]; simp
      · rw [if_neg h2, if_neg h1, if_neg (by omega)]

/-- n cells from place o on. -/
def loadN (c : T Value) : Nat → Nat → Option (List Value)
  | _, 0 => some []
  | o, n + 1 => match c.get o with
    | some v => match loadN c (o + 1) n with
      | some vs => some (v :: vs)
      | none => none
    | none => none

theorem loadN_get {c : T Value} : ∀ {n o : Nat} {vs : List Value}, loadN c o n = some vs → vs.length = n ∧ ∀ j, j < n → vs[j]? = c.get (o + j) := by
  intro n
  induction n with
  | zero => intro o vs h; simp [loadN] at h; subst h; exact ⟨rfl, fun j hj => by omega⟩
  | succ n ih =>
    intro o vs h
    simp only [loadN] at h
    cases hv : c.get o with
    | none => simp [hv] at h
    | some v =>
      cases hr : loadN c (o + 1) n with
      | none => simp [hv, hr] at h
      | some rest =>
        simp [hv, hr] at h
        subst h
        obtain ⟨h1, h2⟩ := ih hr
        refine ⟨by simp [h1], fun j hj => ?_⟩
        cases j with
        | zero => simp [hv]
        | succ j => simp only [List.getElem?_cons_succ]; rw [h2 j (by omega)]; congr 1; omega

/-- The cells of a block that are known, read out of the world. -/
theorem HR.cells {B : Nat → Prop} {w0 : World} {σ : Sg} {hp : Hp} {w : World} (h : HR B w0 σ hp w) {i n e z o m : Nat} {c : T Value} {vs : List Value}
    (hg : hp.m.get i = some (.cells c n e z)) (hn : o + m ≤ n) (hl : loadN c o m = some vs) {p : Pl} (hp' : σ i = some p) :
    ∃ us, VRL σ vs us ∧ us.length = m ∧ ∀ j u, us[j]? = some u → w.cell? ((⟨p.blk, p.dl + o, none⟩ : Addr).add j) = some u := by
  obtain ⟨q, C, hq, hz, hB, hw, hs, hd, hc⟩ := h.liveC hg
  have : q = p := Option.some.inj (hq.symm.trans hp')
  subst this
  obtain ⟨hlen, hget⟩ := loadN_get hl
  refine ⟨(C.toList.drop (q.dl + o)).take m, ⟨?_, ?_⟩, ?_, ?_⟩
  · simp; omega
  · intro j x y hx hy
    have hj : j < m := by have := (List.getElem?_eq_some_iff.1 hx).1; omega
    rw [hget j hj] at hx
    obtain ⟨v, u, h1, h2, h3⟩ := hc (o + j) (by omega)
    rw [List.getElem?_take, if_pos hj, List.getElem?_drop] at hy
    have e1 : v = x := Option.some.inj (h1.symm.trans hx)
    have e2 : u = y := by
      have : C.toList[q.dl + o + j]? = some u := by rw [← h2]; simp [Nat.add_assoc]
      exact Option.some.inj (this.symm.trans hy)
    subst e1; subst e2; exact h3
  · simp; omega
  · intro j u hu
    have hj : j < m := by
      have := (List.getElem?_eq_some_iff.1 hu).1
      simp at this; omega
    rw [List.getElem?_take, if_pos hj, List.getElem?_drop] at hu
    rw [Addr.add_lit, cell_of_row w q.blk _ C e (0, 0) hw]
    simpa using hu

end Go.Xe
