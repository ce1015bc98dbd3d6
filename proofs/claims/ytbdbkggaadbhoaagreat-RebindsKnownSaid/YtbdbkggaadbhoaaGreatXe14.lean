/- The executor, part 14: whatever order a region draws, it comes to the end of the run in the order of the text.
  Conditions: none. -/
import Derived.Test.YtbdbkggaadbhoaaGreatXe13
noncomputable section
namespace Go.Xe
open Go.RowKit

/-! ## The looks -/

def xpre (pres : List Nat) (o : Oper) : Nat :=
  o.after.toList.foldl (fun s e => bif Region.binds .any e then (s ||| 2 ^ e.on) ||| pres.getD e.on 0 else s) 0

def xpres : List Oper → List Nat → List Nat
  | [], acc => acc
  | o :: os, acc => xpres os (acc ++ [xpre acc o])

def opMask (s : Nat) : Operand → Nat
  | .tmp t => s ||| 2 ^ t
  | _ => s

/-- The temporaries that an operation looks at, as a mask. -/
def looks (all : List Oper) (o : Oper) : Nat :=
  o.op.operands.toList.foldl opMask (match o.guard with
    | some (g, _) => match all[g]? with
      | some p => match p.dst with
        | some d => 2 ^ d
        | none => 0
      | none => 0
    | none => 0)

structure Inf where
  o : Oper
  pre : Nat
  i : Nat
  lk : Nat
  wr : Bool

def infs (all : List Oper) (pres : List Nat) : List Inf := ((all.zip pres).zipIdx).map fun x => ⟨x.1.1, x.1.2, x.2, looks all x.1.1, Nat.beq (okind x.1.1.op) 3⟩

def dstIs (o : Oper) (t : Nat) : Bool := match o.dst with | some d => Nat.beq d t | none => false

def s1 (pres : List Nat) (x : Inf) : Bool := Nat.beq x.pre (xpre pres x.o) && x.o.after.toList.all (fun e => !(Region.binds .any e) || Nat.blt e.on x.i)

def s2 (x y : Inf) : Bool :=
  bif Nat.beq x.i y.i then true else
    (match y.o.dst with
     | none => true
     | some t => !(dstIs x.o t) && (bif x.lk.testBit t then (bif Nat.blt y.i x.i then x.pre.testBit y.i else y.pre.testBit x.i) else true)) &&
    (bif x.wr && y.wr && Nat.blt y.i x.i then x.pre.testBit y.i else true)

def stat (all : List Oper) (pres : List Nat) : Bool :=
  Nat.beq pres.length all.length && (infs all pres).all (s1 pres) && (infs all pres).all (fun x => (infs all pres).all (s2 x))

def isW (e : Ent) : Bool := Nat.beq (okind e.o.op) 3

def allowed (es : List Ent) (e : Ent) (k : Nat) : Bool :=
  es.all fun y => bif isW y then (bif Nat.blt y.i k then !(y.pre.testBit e.i) else !(e.pre.testBit y.i)) else true

def own (es : List Ent) (e : Ent) (k : Nat) : Bool :=
  es.all fun y => bif isW y then (Nat.blt y.i k == Nat.blt y.i e.i) else true

def lookAt (P : Program) (es : List Ent) (e : Ent) (k : Nat) (S : Hp) : Bool :=
  bif own es e k then true else bif allowed es e k then
    (match xrd P e.tm S e.o.op with
     | some v => veq 1000 v e.r
     | none => false)
  else true

def dyn (P : Program) (S0 : Hp) (es : List Ent) : Bool :=
  es.all fun e => bif e.wt && Nat.beq (okind e.o.op) 1 then lookAt P es e 0 S0 && es.all (fun x => bif isW x then lookAt P es e (x.i + 1) x.S2 else true) else true

def xdraw (P : Program) : Drawer := fun call nt all tm hp =>
  bif stat all (xpres all []) then
    match xgo P call nt all hp.nx (all.zip (xpres all [])) 0 tm ⟨hp.m, hp.nx + all.length⟩ 0 [] with
    | some out => bif dyn P ⟨hp.m, hp.nx + all.length⟩ out.es then some (out.tm, takes hp.nx (selE out.I) out.es out.S) else none
    | none => none
  else none

/-! ## What the looks say -/

theorem foldl_or {α : Type} (f : α → Nat → Bool) (g : Nat → α → Nat) (hg : ∀ s x j, (g s x).testBit j = true ↔ (s.testBit j = true ∨ f x j = true)) : ∀ (l : List α) (s : Nat) (j : Nat),
    (l.foldl g s).testBit j = true ↔ (s.testBit j = true ∨ ∃ x ∈ l, f x j = true)
  | [], s, j => by simp
  | x :: l, s, j => by
    rw [List.foldl_cons, foldl_or f g hg l (g s x) j, hg]
    constructor
    · rintro ((h | h) | ⟨y, hy, h⟩)
      · exact .inl h
      · exact .inr ⟨x, by simp, h⟩
      · exact .inr ⟨y, by simp [hy], h⟩
    · rintro (h | ⟨y, hy, h⟩)
      · exact .inl (.inl h)
      · rcases List.mem_cons.1 hy with rfl | hy
        · exact .inl (.inr h)
        · exact .inr ⟨y, hy, h⟩

theorem xpre_spec {pres : List Nat} {o : Oper} {j : Nat} (h : (xpre pres o).testBit j = true) : ∃ e ∈ o.after.toList, Region.binds .any e = true ∧ (e.on = j ∨ (pres.getD e.on 0).testBit j = true) := by
  unfold xpre at h
  rw [foldl_or (fun (e : Edge) j => Region.binds .any e && (decide (e.on = j) || (pres.getD e.on 0).testBit j))] at h
  · rcases h with h | ⟨e, he, h⟩
    · simp at h
    · simp only [Bool.and_eq_true, Bool.or_eq_true, decide_eq_true_eq] at h
      exact ⟨e, he, h.1, h.2⟩
  · intro s e j
    cases Region.binds .any e with
    | false => simp
    | true => simp [Nat.testBit_or, Nat.testBit_two_pow, or_assoc]

theorem looks_spec {all : List Oper} {o : Oper} {t : Nat} : (looks all o).testBit t = true ↔
    ((∃ g want p, o.guard = some (g, want) ∧ all[g]? = some p ∧ p.dst = some t) ∨ Operand.tmp t ∈ o.op.operands.toList) := by
  unfold looks
  rw [foldl_or (fun (x : Operand) j => match x with | .tmp t => decide (t = j) | _ => false)]
  · constructor
    · rintro (h | ⟨x, hx, h⟩)
      · left
        cases hg : o.guard with
        | none => simp [hg] at h
        | some gw =>
          obtain ⟨g, want⟩ := gw
          simp only [hg] at h
          cases hp : all[g]? with
          | none => simp [hp] at h
          | some p =>
            simp only [hp] at h
            cases hd : p.dst with
            | none => simp [hd] at h
            | some d =>
              simp only [hd, Nat.testBit_two_pow, decide_eq_true_eq] at h
              exact ⟨g, want, p, rfl, hp, by rw [hd, h]⟩
      · right
        cases x with
        | tmp t' => simp only [decide_eq_true_eq] at h; rw [← h]; exact hx
        | _ => simp at h
    · rintro (⟨g, want, p, hg, hp, hd⟩ | h)
      · left
        simp [hg, hp, hd]
      · exact .inr ⟨_, h, by simp⟩
  · intro s x j
    cases x <;> simp [opMask, Nat.testBit_or, Nat.testBit_two_pow]

/-- Whether an operation has been carried out. -/
def lst (L : Array Bool) (j : Nat) : Prop := L.getD j false = true

section
variable {P : Program} {B : Nat → Prop} {w0 : World} {call : Caller} {nt : Nat} {ops : Array Oper} {pres : List Nat} {nx0 : Nat} {l : List Ent} {tm0 tmN : T Value} {S0 SN : Hp} {IN : Nat}

/-- All that is fixed through the region. -/
structure Fix (P : Program) (call : Caller) (nt : Nat) (ops : Array Oper) (pres : List Nat) (nx0 : Nat) (l : List Ent) (tm0 tmN : T Value) (S0 SN : Hp) (IN : Nat) : Prop where
  stat : stat ops.toList pres = true
  dyn : dyn P S0 l.reverse = true
  map : l.map (fun e => (e.o, e.pre)) = ops.toList.zip pres
  chain : Chain P call nt ops.toList nx0 tmN SN IN [] l tm0 S0 0

variable (F : Fix P call nt ops pres nx0 l tm0 tmN S0 SN IN)
include F

theorem Fix.plen : pres.length = ops.size := by
  have := F.stat
  simp only [Xe.stat, Bool.and_eq_true] at this
  have := Nat.eq_of_beq_eq_true this.1.1
  simpa using this

theorem Fix.len : l.length = ops.size := by
  have := congrArg List.length F.map
  simpa [F.plen] using this

theorem Fix.ent {j : Nat} {o : Oper} (h : ops[j]? = some o) : ∃ e, l[j]? = some e ∧ e.o = o := by
  have hj : j < ops.size := (Array.getElem?_eq_some_iff.1 h).1
  have hj' : j < l.length := by rw [F.len]; exact hj
  refine ⟨l[j], by simp [hj'], ?_⟩
  have := congrArg (fun x => x[j]?) F.map
  simp only [List.getElem?_map] at this
  have hz : (ops.toList.zip pres)[j]? = some (o, pres[j]'(by rw [F.plen]; exact hj)) := by
    rw [List.getElem?_zip_eq_some]
    exact ⟨by simpa using h, by simp⟩
  rw [hz] at this
  simp only [List.getElem?_eq_getElem hj', Option.map_some, Option.some.injEq, Prod.mk.injEq] at this
  exact this.1

theorem Fix.at_ {j : Nat} {e : Ent} (h : l[j]? = some e) : ops[j]? = some e.o ∧ e.pre = pres.getD j 0 ∧ e.i = j := by
  have hm := congrArg (fun x => x[j]?) F.map
  simp only [List.getElem?_map, h, Option.map_some] at hm
  have := List.getElem?_zip_eq_some.1 hm.symm
  refine ⟨by simpa using this.1, by simp [List.getD, this.2], ?_⟩
  have := (F.chain.get h).1
  simpa using this

theorem Fix.inf {j : Nat} {e : Ent} (h : l[j]? = some e) : (⟨e.o, e.pre, j, looks ops.toList e.o, Nat.beq (okind e.o.op) 3⟩ : Inf) ∈ infs ops.toList pres := by
  have hm := congrArg (fun x => x[j]?) F.map
  simp only [List.getElem?_map, h, Option.map_some] at hm
  unfold infs
  refine List.mem_map.2 ⟨((e.o, e.pre), j), ?_, rfl⟩
  rw [List.mem_zipIdx_iff_getElem?]
  simpa using hm.symm

theorem Fix.p1 {j : Nat} {e : Ent} (h : l[j]? = some e) : (∀ k, e.pre.testBit k = true → ∃ ed ∈ e.o.after.toList, Region.binds .any ed = true ∧ (ed.on = k ∨ (pres.getD ed.on 0).testBit k = true)) ∧
    ∀ ed ∈ e.o.after.toList, Region.binds .any ed = true → ed.on < j := by
  have hs := F.stat
  simp only [Xe.stat, Bool.and_eq_true, List.all_eq_true] at hs
  have := hs.1.2 _ (F.inf h)
  simp only [s1, Bool.and_eq_true, List.all_eq_true, Bool.or_eq_true, Bool.not_eq_true'] at this
  have he := Nat.eq_of_beq_eq_true this.1
  refine ⟨fun k hk => xpre_spec (by rw [← he]; exact hk), fun ed hed hb => ?_⟩
  rcases this.2 ed hed with h1 | h1
  · rw [hb] at h1; cases h1
  · exact Nat.le_of_ble_eq_true h1

theorem Fix.p2 {i j : Nat} {e e' : Ent} (hi : l[i]? = some e) (hj : l[j]? = some e') (hne : i ≠ j) : (∀ t, e'.o.dst = some t → e.o.dst ≠ some t) ∧
    (∀ t, e'.o.dst = some t → (looks ops.toList e.o).testBit t = true → (j < i → e.pre.testBit j = true) ∧ (i < j → e'.pre.testBit i = true)) ∧
    (okind e.o.op = 3 → okind e'.o.op = 3 → j < i → e.pre.testBit j = true) := by
  have hs := F.stat
  simp only [Xe.stat, Bool.and_eq_true, List.all_eq_true] at hs
  have := hs.2 _ (F.inf hi) _ (F.inf hj)
  simp only [s2] at this
  rw [beq_f hne, cond_false, Bool.and_eq_true] at this
  obtain ⟨h1, h2⟩ := this
  refine ⟨fun t ht hd => ?_, fun t ht hl => ?_, fun k1 k2 hlt => ?_⟩
  · simp only [ht, Bool.and_eq_true, Bool.not_eq_true'] at h1
    have := h1.1
    simp only [dstIs, hd] at this
    rw [beq_t rfl] at this
    cases this
  · simp only [ht, Bool.and_eq_true, hl, cond_true] at h1
    have h3 := h1.2
    constructor
    · intro hlt
      rw [show Nat.blt j i = true from Nat.ble_eq_true_of_le hlt, cond_true] at h3
      exact h3
    · intro hlt
      have : Nat.blt j i = false := by
        cases hb : Nat.blt j i
        · rfl
        · have : j < i := Nat.le_of_ble_eq_true hb; omega
      rw [this, cond_false] at h3
      exact h3
  · rw [beq_t k1, beq_t k2, show Nat.blt j i = true from Nat.ble_eq_true_of_le hlt] at h2
    simpa using h2

omit F

/-- What holds while the region runs, in whatever order: L: what has been carried out; k: the writers ahead of place k have been. -/
structure Inv (B : Nat → Prop) (w0 : World) (P : Program) (call : Caller) (nt : Nat) (ops : Array Oper) (nx0 : Nat) (l : List Ent) (tm0 tmN : T Value) (S0 SN : Hp) (IN : Nat) (σ0 : Sg) (D : List Deferred) (L : Array Bool) (a : Act) (w : World) (σ : Sg) (k : Nat) (S : Hp) (I : Nat) : Prop where
  size : L.size = ops.size
  down : ∀ j e, l[j]? = some e → lst L j → ∀ m, e.pre.testBit m = true → lst L m
  defers : a.defers = D
  tsz : a.tmps.size = nt
  tin : ∀ (j : Nat) e t, l[j]? = some e → lst L j → e.o.dst = some t → VR σ e.r (a.tmps.getD t undef)
  tout : ∀ t, (∀ (j : Nat) e, l[j]? = some e → lst L j → e.o.dst ≠ some t) → VR σ ((tm0.get t).getD undef) (a.tmps.getD t undef)
  cut : ∃ tmk, Chain P call nt ops.toList nx0 tmN SN IN (l.take k).reverse (l.drop k) tmk S I
  norm : (k = 0 ∧ S = S0) ∨ ∃ e, 0 < k ∧ l[k - 1]? = some e ∧ okind e.o.op = 3 ∧ S = e.S2
  wr : ∀ (j : Nat) e, l[j]? = some e → okind e.o.op = 3 → (lst L j ↔ j < k)
  hr : HR B w0 σ S w
  gr : Sg.gr nx0 S.nx σ0 σ
  room : nx0 + ops.size ≤ S.nx
  none : ∀ (j : Nat) e n, l[j]? = some e → e.nw = some n → ¬ lst L j → σ (nx0 + j) = none
  ext : ∀ (j : Nat) e n, l[j]? = some e → e.nw = some n → lst L j → I.testBit j = false → ∃ b, Ext B σ S w (nx0 + j) n b
  apart : ∀ (j j' : Nat) e e' n n' b b', l[j]? = some e → l[j']? = some e' → e.nw = some n → e'.nw = some n' → j ≠ j' → lst L j → lst L j' → I.testBit j = false → I.testBit j' = false →
    Ext B σ S w (nx0 + j) n b → Ext B σ S w (nx0 + j') n' b' → b ≠ b'

theorem lst_set {L : Array Bool} {i j : Nat} (hi : i < L.size) : lst (L.setIfInBounds i true) j ↔ (lst L j ∨ j = i) := by
  unfold lst
  by_cases h : j = i
  · subst h; simp [hi]
  · rw [getD_set_ne false (Ne.symm h)]; simp [h]

theorem unlisted {L : Array Bool} {i : Nat} (h : L.getD i true = false) : i < L.size ∧ ¬ lst L i := by
  have hi : i < L.size := by
    rcases Nat.lt_or_ge i L.size with h' | h'
    · exact h'
    · simp [Array.getElem?_eq_none h'] at h
  refine ⟨hi, fun hl => ?_⟩
  unfold lst at hl
  simp [hi] at h hl
  rw [h] at hl; cases hl

theorem cut_still {k i : Nat} {tmk : T Value} {S : Hp} {I : Nat} (hc : Chain P call nt ops.toList nx0 tmN SN IN (l.take k).reverse (l.drop k) tmk S I) {e : Ent} (he : l[i]? = some e) (hk : k ≤ i)
    (hn : ∀ (j : Nat) e', l[j]? = some e' → k ≤ j → j < i → okind e'.o.op ≠ 3) : e.S = S ∧ e.I = I := by
  have h1 : (l.drop k)[i - k]? = some e := by rw [List.getElem?_drop]; rw [show k + (i - k) = i by omega]; exact he
  refine (hc.upTo h1).still fun e' hm => ?_
  obtain ⟨m, hm2⟩ := List.mem_iff_getElem?.1 hm
  have hlt : m < i - k := by
    rcases Nat.lt_or_ge m (i - k) with h | h
    · exact h
    · rw [List.getElem?_take, if_neg (by omega)] at hm2; exact absurd hm2 (by simp)
  rw [List.getElem?_take, if_pos hlt, List.getElem?_drop] at hm2
  exact hn (k + m) e' hm2 (by omega) (by omega)

include F
/-- What an operation that comes up looks at, is as it was in the run in the order of the text. -/
theorem Fix.seen {σ0 : Sg} {D : List Deferred} {L : Array Bool} {a : Act} {w : World} {σ : Sg} {k : Nat} {S : Hp} {I : Nat} (V : Inv B w0 P call nt ops nx0 l tm0 tmN S0 SN IN σ0 D L a w σ k S I)
    {i : Nat} {e : Ent} (he : l[i]? = some e) (hpre : ∀ m, e.pre.testBit m = true → lst L m) (hi : ¬ lst L i) {t : Nat} (ht : (looks ops.toList e.o).testBit t = true) :
    VR σ ((e.tm.get t).getD undef) (a.tmps.getD t undef) := by
  have hp := F.chain.upTo he
  by_cases hx : ∃ (j : Nat) (e' : Ent), j < i ∧ l[j]? = some e' ∧ e'.o.dst = some t
  · obtain ⟨j, e', hlt, hj, hd⟩ := hx
    have hlj : lst L j := hpre j (((F.p2 he hj (by omega)).2.1 t hd ht).1 hlt)
    have := hp.tm_some (k := j) (e := e') (t := t) (by rw [List.getElem?_take, if_pos hlt]; exact hj) hd (fun m e2 hm hne hd2 => by
      rw [List.getElem?_take] at hm
      split at hm
      · exact (F.p2 hm hj hne).1 t hd hd2
      · exact absurd hm (by simp))
    rw [this]
    exact V.tin j e' t hj hlj hd
  · have hno : ∀ e' ∈ l.take i, e'.o.dst ≠ some t := by
      intro e' hm hd
      obtain ⟨m, hm2⟩ := List.mem_iff_getElem?.1 hm
      rw [List.getElem?_take] at hm2
      split at hm2
      · rename_i hlt; exact hx ⟨m, e', hlt, hm2, hd⟩
      · exact absurd hm2 (by simp)
    rw [hp.tm_none hno]
    refine V.tout t fun j e' hj hlj hd => ?_
    by_cases hji : j = i
    · subst hji; exact hi hlj
    · rcases Nat.lt_or_ge j i with hlt | hge
      · exact hx ⟨j, e', hlt, hj, hd⟩
      · exact hi (V.down j e' hj hlj i (((F.p2 he hj (Ne.symm hji)).2.1 t hd ht).2 (by omega)))
end

theorem xwanted_eq' {σ : Sg} {tm : T Value} {tmps : Array Value} (ops : Array Oper) (o : Oper)
    (h : ∀ g want p d, o.guard = some (g, want) → ops.toList[g]? = some p → p.dst = some d → VR σ ((tm.get d).getD undef) (tmps.getD d undef)) :
    Region.wanted o (yielded ops tmps) = xwanted ops.toList tm o := by
  unfold Region.wanted xwanted
  cases hg : o.guard with
  | none => rfl
  | some gw =>
    obtain ⟨j, want⟩ := gw
    simp only
    have hy : yielded ops tmps j = xyields ops.toList tm j := by
      unfold yielded xyields
      rw [Array.getElem?_toList]
      cases hj : ops[j]? with
      | none => rfl
      | some p =>
        simp only [Option.bind_some]
        cases hd : p.dst with
        | none => rfl
        | some d =>
          simp only [Option.bind_some]
          have := h j want p d hg (by simpa using hj) hd
          by_cases hlt : d < tmps.size
          · have e : tmps[d]? = some tmps[d] := by simp [hlt]
            have e2 : tmps.getD d undef = tmps[d] := by simp [Array.getD, hlt]
            rw [e2] at this
            rw [e]
            cases hg : tm.get d with
            | none =>
              rw [hg, Option.getD_none] at this
              generalize tmps[d] = x at this
              cases this
              rfl
            | some v =>
              rw [hg, Option.getD_some] at this
              generalize tmps[d] = x at this
              cases this <;> rfl
          · have e : tmps[d]? = none := Array.getElem?_eq_none (Nat.le_of_not_lt hlt)
            have e2 : tmps.getD d undef = undef := by simp [Array.getD, hlt]
            rw [e2] at this
            rw [e]
            cases hg : tm.get d with
            | none => rfl
            | some v =>
              rw [hg, Option.getD_some] at this
              unfold undef at this
              cases this
              rfl
    rw [hy]
    cases xyields ops.toList tm j with
    | none => rfl
    | some b => cases b <;> cases want <;> rfl
end Go.Xe
