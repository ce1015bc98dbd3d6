/- The executor, part 13: a region that draws its order, run once in the order of the text, with looks that no other order comes to another end.
  Conditions: none. -/
import Derived.Test.YtbdbkggaadbhoaaGreatXe12
noncomputable section
namespace Go.Xe
open Go.RowKit

/-! ## The run in the order of the text -/

structure Ent where
  i : Nat
  o : Oper
  pre : Nat
  tm : T Value
  S : Hp
  S2 : Hp
  I : Nat
  wt : Bool
  r : Value
  nw : Option Nw

def takes (nx0 : Nat) (m : Nat → Bool) : List Ent → Hp → Hp
  | [], S => S
  | e :: es, S => match e.nw with
    | some n => bif m e.i then takes nx0 m es (S.take (nx0 + e.i) n) else takes nx0 m es S
    | none => takes nx0 m es S

def selW (pre I : Nat) (j : Nat) : Bool := pre.testBit j && !I.testBit j
def selE (I : Nat) (j : Nat) : Bool := !I.testBit j

structure Out where
  tm : T Value
  S : Hp
  I : Nat
  es : List Ent

def xgo (P : Program) (call : Caller) (nt : Nat) (all : List Oper) (nx0 : Nat) : List (Oper × Nat) → Nat → T Value → Hp → Nat → List Ent → Option Out
  | [], _, tm, S, I, es => some ⟨tm, S, I, es⟩
  | (o, pre) :: rest, i, tm, S, I, es =>
    bif dstOK nt o.dst then
      bif xwanted all tm o then
        match okind o.op with
        | 0 => match xop P call tm S o.op with
          | some (v, _) => xgo P call nt all nx0 rest (i + 1) (xputT tm o.dst v) S I (⟨i, o, pre, tm, S, S, I, true, v, none⟩ :: es)
          | none => none
        | 1 => match xrd P tm S o.op with
          | some v => xgo P call nt all nx0 rest (i + 1) (xputT tm o.dst v) S I (⟨i, o, pre, tm, S, S, I, true, v, none⟩ :: es)
          | none => none
        | 2 => match xnw P tm o.op with
          | some n => xgo P call nt all nx0 rest (i + 1) (xputT tm o.dst (n.val (nx0 + i))) S I (⟨i, o, pre, tm, S, S, I, true, n.val (nx0 + i), some n⟩ :: es)
          | none => none
        | _ => match xop P call tm (takes nx0 (selW pre I) es S) o.op with
          | some (v, S2) => xgo P call nt all nx0 rest (i + 1) (xputT tm o.dst v) S2 (I ||| pre) (⟨i, o, pre, tm, S, S2, I, true, v, none⟩ :: es)
          | none => none
      else xgo P call nt all nx0 rest (i + 1) (xputT tm o.dst undef) S I (⟨i, o, pre, tm, S, S, I, false, undef, none⟩ :: es)
    else none

/-- What holds of one operation of the run; 'es': the ones before it, the last one first. -/
structure StepOK (P : Program) (call : Caller) (nt : Nat) (all : List Oper) (nx0 : Nat) (e : Ent) (es : List Ent) (tm' : T Value) (S' : Hp) (I' : Nat) : Prop where
  dst : dstOK nt e.o.dst = true
  wt : e.wt = xwanted all e.tm e.o
  tm : tm' = xputT e.tm e.o.dst e.r
  S2 : e.S2 = S'
  un : e.wt = false → e.r = undef ∧ e.nw = none
  low : (e.wt = false ∨ okind e.o.op ≠ 3) → S' = e.S ∧ I' = e.I
  k0 : e.wt = true → okind e.o.op = 0 → ∀ S, xop P call e.tm S e.o.op = some (e.r, S)
  k1 : e.wt = true → okind e.o.op = 1 → xrd P e.tm e.S e.o.op = some e.r
  k2 : e.wt = true → okind e.o.op = 2 → ∃ n, xnw P e.tm e.o.op = some n ∧ e.r = n.val (nx0 + e.i) ∧ e.nw = some n
  k3 : e.wt = true → 3 ≤ okind e.o.op → xop P call e.tm (takes nx0 (selW e.pre e.I) es e.S) e.o.op = some (e.r, S') ∧ I' = e.I ||| e.pre
  nw : okind e.o.op ≠ 2 → e.nw = none

inductive Chain (P : Program) (call : Caller) (nt : Nat) (all : List Oper) (nx0 : Nat) (tmN : T Value) (SN : Hp) (IN : Nat) : List Ent → List Ent → T Value → Hp → Nat → Prop
  | nil (es : List Ent) : Chain P call nt all nx0 tmN SN IN es [] tmN SN IN
  | cons (e : Ent) (es s : List Ent) (tm' : T Value) (S' : Hp) (I' : Nat) (hi : e.i = es.length) (h : StepOK P call nt all nx0 e es tm' S' I')
      (hc : Chain P call nt all nx0 tmN SN IN (e :: es) s tm' S' I') : Chain P call nt all nx0 tmN SN IN es (e :: s) e.tm e.S e.I

theorem okind_le (o : Op) : okind o ≤ 3 := by
  unfold okind
  split <;> omega

section
variable {P : Program} {call : Caller} {nt : Nat} {all : List Oper} {nx0 : Nat} {tmN : T Value} {SN : Hp} {IN : Nat}

theorem xgo_chain : ∀ (ps : List (Oper × Nat)) (i : Nat) (tm : T Value) (S : Hp) (I : Nat) (es : List Ent) (out : Out), xgo P call nt all nx0 ps i tm S I es = some out → i = es.length →
    ∃ s, out.es = s.reverse ++ es ∧ s.map (fun e => (e.o, e.pre)) = ps ∧ Chain P call nt all nx0 out.tm out.S out.I es s tm S I := by
  intro ps
  induction ps with
  | nil =>
    intro i tm S I es out h hi
    simp only [xgo, Option.some.injEq] at h
    subst h
    exact ⟨[], rfl, rfl, .nil es⟩
  | cons p ps ih =>
    intro i tm S I es out h hi
    obtain ⟨o, pre⟩ := p
    simp only [xgo] at h
    cases hd : dstOK nt o.dst with
    | false => rw [hd] at h; cases h
    | true =>
      rw [hd, cond_true] at h
      have next : ∀ (e : Ent) (S' : Hp) (I' : Nat), e.i = i → e.o = o → e.pre = pre → e.tm = tm → e.S = S → e.I = I → StepOK P call nt all nx0 e es (xputT tm o.dst e.r) S' I' →
          xgo P call nt all nx0 ps (i + 1) (xputT tm o.dst e.r) S' I' (e :: es) = some out →
          ∃ s, out.es = s.reverse ++ es ∧ s.map (fun e => (e.o, e.pre)) = (o, pre) :: ps ∧ Chain P call nt all nx0 out.tm out.S out.I es s tm S I := by
        rintro e S' I' rfl rfl rfl rfl rfl rfl hs hx
        obtain ⟨s, h1, h2, h3⟩ := ih _ _ _ _ _ _ hx (by simp [hi])
        exact ⟨e :: s, by simp [h1], by simp [h2], .cons e es s _ _ _ hi hs h3⟩
      cases hw : xwanted all tm o with
      | false =>
        rw [hw, cond_false] at h
        refine next ⟨i, o, pre, tm, S, S, I, false, undef, none⟩ S I rfl rfl rfl rfl rfl rfl ⟨hd, hw.symm, rfl, rfl, fun _ => ⟨rfl, rfl⟩, fun _ => ⟨rfl, rfl⟩, ?_, ?_, ?_, ?_, fun _ => rfl⟩ h <;> (intro hf; cases hf)
      | true =>
        rw [hw, cond_true] at h
        split at h
        · rename_i hk
          split at h
          · rename_i v S2 hx
            obtain ⟨r, hr⟩ := xop_pure (P := P) (call := call) (tm := tm) hk
            have hrv : r = some v := by
              rw [hr] at hx
              exact (withHp_some hx).1
            refine next ⟨i, o, pre, tm, S, S, I, true, v, none⟩ S I rfl rfl rfl rfl rfl rfl ⟨hd, hw.symm, rfl, rfl, fun hf => (by cases hf), fun _ => ⟨rfl, rfl⟩, fun _ _ S => ?_, fun _ h1 => ?_, fun _ h1 => ?_, fun _ h1 => ?_, fun _ => rfl⟩ h
            · rw [hr, hrv]; rfl
            · have : okind o.op = 1 := h1; omega
            · have : okind o.op = 2 := h1; omega
            · have : 3 ≤ okind o.op := h1; omega
          · cases h
        · rename_i hk
          split at h
          · rename_i v hx
            refine next ⟨i, o, pre, tm, S, S, I, true, v, none⟩ S I rfl rfl rfl rfl rfl rfl ⟨hd, hw.symm, rfl, rfl, fun hf => (by cases hf), fun _ => ⟨rfl, rfl⟩, fun _ h1 => ?_, fun _ _ => hx, fun _ h1 => ?_, fun _ h1 => ?_, fun _ => rfl⟩ h
            · have : okind o.op = 0 := h1; omega
            · have : okind o.op = 2 := h1; omega
            · have : 3 ≤ okind o.op := h1; omega
          · cases h
        · rename_i hk
          split at h
          · rename_i n hx
            refine next ⟨i, o, pre, tm, S, S, I, true, n.val (nx0 + i), some n⟩ S I rfl rfl rfl rfl rfl rfl ⟨hd, hw.symm, rfl, rfl, fun hf => (by cases hf), fun _ => ⟨rfl, rfl⟩, fun _ h1 => ?_, fun _ h1 => ?_, fun _ _ => ⟨n, hx, rfl, rfl⟩, fun _ h1 => ?_, fun h1 => absurd hk h1⟩ h
            · have : okind o.op = 0 := h1; omega
            · have : okind o.op = 1 := h1; omega
            · have : 3 ≤ okind o.op := h1; omega
          · cases h
        · rename_i hk0 hk1 hk2
          have h3 : okind o.op = 3 := by
            have := okind_le o.op
            have h0 : okind o.op ≠ 0 := hk0
            have h1 : okind o.op ≠ 1 := hk1
            have h2 : okind o.op ≠ 2 := hk2
            omega
          split at h
          · rename_i v S2 hx
            refine next ⟨i, o, pre, tm, S, S2, I, true, v, none⟩ S2 (I ||| pre) rfl rfl rfl rfl rfl rfl ⟨hd, hw.symm, rfl, rfl, fun hf => (by cases hf), fun hl => ?_, fun _ h1 => ?_, fun _ h1 => ?_, fun _ h1 => ?_, fun _ _ => ⟨hx, rfl⟩, fun _ => rfl⟩ h
            · rcases hl with hf | hf
              · cases hf
              · exact absurd h3 hf
            · have : okind o.op = 0 := h1; omega
            · have : okind o.op = 1 := h1; omega
            · have : okind o.op = 2 := h1; omega
          · cases h

theorem Chain.get {es s : List Ent} {tm : T Value} {S : Hp} {I : Nat} (h : Chain P call nt all nx0 tmN SN IN es s tm S I) : ∀ {k : Nat} {e : Ent}, s[k]? = some e →
    e.i = es.length + k ∧ ∃ tm' S' I', StepOK P call nt all nx0 e ((s.take k).reverse ++ es) tm' S' I' ∧ Chain P call nt all nx0 tmN SN IN (e :: ((s.take k).reverse ++ es)) (s.drop (k + 1)) tm' S' I' := by
  induction h with
  | nil es => intro k e h; simp at h
  | cons e0 es s tm' S' I' hi hs hc ih =>
    intro k e h
    cases k with
    | zero =>
      simp only [List.getElem?_cons_zero, Option.some.injEq] at h
      subst h
      exact ⟨by simpa using hi, tm', S', I', by simpa using hs, by simpa using hc⟩
    | succ k =>
      simp only [List.getElem?_cons_succ] at h
      obtain ⟨h1, tm2, S2, I2, h2, h3⟩ := ih h
      refine ⟨by rw [h1]; simp; omega, tm2, S2, I2, ?_, ?_⟩
      · simpa using h2
      · simpa using h3

theorem Chain.upTo {es s : List Ent} {tm : T Value} {S : Hp} {I : Nat} (h : Chain P call nt all nx0 tmN SN IN es s tm S I) : ∀ {k : Nat} {e : Ent}, s[k]? = some e →
    Chain P call nt all nx0 e.tm e.S e.I es (s.take k) tm S I := by
  induction h with
  | nil es => intro k e h; simp at h
  | cons e0 es s tm' S' I' hi hs hc ih =>
    intro k e h
    cases k with
    | zero =>
      simp only [List.getElem?_cons_zero, Option.some.injEq] at h
      subst h
      exact .nil es
    | succ k =>
      simp only [List.getElem?_cons_succ] at h
      exact .cons e0 es _ tm' S' I' hi hs (ih h)

theorem Chain.tm_none {es s : List Ent} {tm : T Value} {S : Hp} {I : Nat} (h : Chain P call nt all nx0 tmN SN IN es s tm S I) {t : Nat} (hn : ∀ e ∈ s, e.o.dst ≠ some t) : tmN.get t = tm.get t := by
  induction h with
  | nil es => rfl
  | cons e0 es s tm' S' I' hi hs hc ih =>
    rw [ih (fun e he => hn e (by simp [he])), hs.tm]
    have h0 := hn e0 (by simp)
    unfold xputT
    cases hd : e0.o.dst with
    | none => rfl
    | some d =>
      simp only
      rw [T.get_set, if_neg (fun e => h0 (by rw [hd, e]))]

theorem Chain.tm_some {es s : List Ent} {tm : T Value} {S : Hp} {I : Nat} (h : Chain P call nt all nx0 tmN SN IN es s tm S I) : ∀ {k : Nat} {e : Ent} {t : Nat}, s[k]? = some e → e.o.dst = some t →
    (∀ (j : Nat) e', s[j]? = some e' → j ≠ k → e'.o.dst ≠ some t) → tmN.get t = some e.r := by
  induction h with
  | nil es => intro k e t h; simp at h
  | cons e0 es s tm' S' I' hi hs hc ih =>
    intro k e t h hd hu
    cases k with
    | zero =>
      simp only [List.getElem?_cons_zero, Option.some.injEq] at h
      subst h
      have hno : ∀ e ∈ s, e.o.dst ≠ some t := by
        intro e he
        obtain ⟨j, hj, rfl⟩ := List.mem_iff_getElem.1 he
        exact hu (j + 1) _ (by simp [hj]) (by omega)
      rw [hc.tm_none hno, hs.tm]
      unfold xputT
      rw [hd]
      simp only
      rw [T.get_set, if_pos rfl]
    | succ k =>
      simp only [List.getElem?_cons_succ] at h
      exact ih h hd (fun j e' hj hne => hu (j + 1) e' (by simpa using hj) (by omega))

theorem Chain.still {es s : List Ent} {tm : T Value} {S : Hp} {I : Nat} (h : Chain P call nt all nx0 tmN SN IN es s tm S I) (hn : ∀ e ∈ s, okind e.o.op ≠ 3) : SN = S ∧ IN = I := by
  induction h with
  | nil es => exact ⟨rfl, rfl⟩
  | cons e0 es s tm' S' I' hi hs hc ih =>
    obtain ⟨h1, h2⟩ := ih (fun e he => hn e (by simp [he]))
    obtain ⟨h3, h4⟩ := hs.low (.inr (hn e0 (by simp)))
    exact ⟨h1.trans h3, h2.trans h4⟩
end

/-! ## Frames of blocks that wait -/

section
variable {P : Program} {B : Nat → Prop} {w0 : World} {σ : Sg} {hp : Hp} {w : World}

theorem Ext.take {id id' b b' : Nat} {n n' : Nw} (h : Ext B σ hp w id n b) (h' : Ext B σ hp w id' n' b') (hb : b ≠ b') : Ext B σ (hp.take id n) w id' n' b' := by
  obtain ⟨p, o, a1, a2, a3, a4, a5, a6⟩ := h'
  obtain ⟨q, D, c1, c2, _⟩ := h
  refine ⟨p, o, a1, a2, a3, a4, a5, ?_⟩
  intro i c r hg hr
  simp only [Hp.take, T.get_set] at hg
  by_cases hi : i = id
  · subst hi
    have : r = q := Option.some.inj (hr.symm.trans c1)
    subst this
    rw [c2]; exact hb
  · rw [if_neg hi] at hg
    exact a6 i c r hg hr

theorem Ext.step {S1 S2 : Hp} {id b : Nat} {n : Nw} (h : Ext B σ S1 w id n b) {σ' : Sg} {w' : World} (k : HR (rest σ S1 w) w σ' S2 w') (hle : Sg.le σ σ') : Ext B σ' S2 w' id n b := by
  obtain ⟨p, o, a1, a2, a3, a4, a5, a6⟩ := h
  have hr : rest σ S1 w b := ⟨(Array.getElem?_eq_some_iff.1 a3).1, fun i c q hg hq => a6 i c q hg hq⟩
  refine ⟨p, o, hle _ _ a1, a2, by rw [k.kept b hr]; exact a3, a4.mono hle, a5, ?_⟩
  intro i c q hg hq heq
  obtain ⟨q', D, d1, d2, _⟩ := k.live i c hg
  have : q' = q := Option.some.inj (d1.symm.trans hq)
  subst this
  rw [heq] at d2
  exact d2 hr

theorem Ext.lay {id id' b' : Nat} {n' : Nw} (h' : Ext B σ hp w id' n' b') (hw : HR B w0 σ hp w) (hid : σ id = none) (pl : Pl) (o : Obj) : Ext B (σ.ext id pl) hp (w.alloc o) id' n' b' := by
  obtain ⟨p, C, a1, a2, a3, a4, a5, a6⟩ := h'
  have hle := Sg.le_ext pl hid
  refine ⟨p, C, hle _ _ a1, a2, by rw [Below.heap_alloc _ _ _ (Array.getElem?_eq_some_iff.1 a3).1]; exact a3, a4.mono hle, a5, ?_⟩
  intro i c q hg hq
  obtain ⟨q', D, d1, _⟩ := hw.live i c hg
  have := (hle _ _ d1).symm.trans hq
  have : q' = q := Option.some.inj this
  subst this
  exact a6 i c q' hg d1

theorem takes_ok {nx0 : Nat} {m : Nat → Bool} : ∀ (es : List Ent) {hp : Hp}, HR B w0 σ hp w →
    (∀ (j : Nat) e n, es[j]? = some e → e.nw = some n → m e.i = true → ∃ b, Ext B σ hp w (nx0 + e.i) n b) →
    (∀ (j j' : Nat) e e' n n' b b', es[j]? = some e → es[j']? = some e' → j ≠ j' → e.nw = some n → e'.nw = some n' → m e.i = true → m e'.i = true → Ext B σ hp w (nx0 + e.i) n b → Ext B σ hp w (nx0 + e'.i) n' b' → b ≠ b') →
    HR B w0 σ (takes nx0 m es hp) w ∧ (takes nx0 m es hp).nx = hp.nx ∧
    ∀ id' n' b', Ext B σ hp w id' n' b' → (∀ (j : Nat) e n b, es[j]? = some e → e.nw = some n → m e.i = true → Ext B σ hp w (nx0 + e.i) n b → b ≠ b') → Ext B σ (takes nx0 m es hp) w id' n' b' := by
  intro es
  induction es with
  | nil => intro hp hw _ _; exact ⟨hw, rfl, fun id' n' b' h _ => h⟩
  | cons e es ih =>
    intro hp hw h1 h2
    cases hn : e.nw with
    | none =>
      simp only [takes, hn]
      obtain ⟨a1, a2, a3⟩ := ih hw (fun j e n hj => h1 (j + 1) e n (by simpa using hj)) (fun j j' e e' n n' b b' hj hj' hne => h2 (j + 1) (j' + 1) e e' n n' b b' (by simpa using hj) (by simpa using hj') (by omega))
      exact ⟨a1, a2, fun id' n' b' hx hd => a3 id' n' b' hx (fun j e n b hj => hd (j + 1) e n b (by simpa using hj))⟩
    | some n =>
      cases hm : m e.i with
      | false =>
        simp only [takes, hn, hm, cond_false]
        obtain ⟨a1, a2, a3⟩ := ih hw (fun j e n hj => h1 (j + 1) e n (by simpa using hj)) (fun j j' e e' n n' b b' hj hj' hne => h2 (j + 1) (j' + 1) e e' n n' b b' (by simpa using hj) (by simpa using hj') (by omega))
        exact ⟨a1, a2, fun id' n' b' hx hd => a3 id' n' b' hx (fun j e n b hj => hd (j + 1) e n b (by simpa using hj))⟩
      | true =>
        simp only [takes, hn, hm, cond_true]
        obtain ⟨b, hb⟩ := h1 0 e n rfl hn hm
        have hb0 : ∀ b2, Ext B σ hp w (nx0 + e.i) n b2 → b2 = b := by
          intro b2 hx
          obtain ⟨p, _, c1, c2, _⟩ := hx
          obtain ⟨q, _, d1, d2, _⟩ := hb
          have : p = q := Option.some.inj (c1.symm.trans d1)
          rw [← c2, ← d2, this]
        have keep : ∀ {id' : Nat} {n' : Nw} {b' : Nat}, Ext B σ hp w id' n' b' → b ≠ b' → Ext B σ (hp.take (nx0 + e.i) n) w id' n' b' := fun hx hne => hb.take hx hne
        have back : ∀ {id' : Nat} {n' : Nw} {b' b2 : Nat}, Ext B σ hp w id' n' b' → Ext B σ (hp.take (nx0 + e.i) n) w id' n' b2 → b2 = b' := by
          intro id' n' b' b2 hx hy
          obtain ⟨p, _, c1, c2, _⟩ := hx
          obtain ⟨q, _, d1, d2, _⟩ := hy
          have : p = q := Option.some.inj (c1.symm.trans d1)
          rw [← c2, ← d2, this]
        obtain ⟨a1, a2, a3⟩ := ih (hp := hp.take (nx0 + e.i) n) (hw.take hb)
          (fun j e' n' hj hn' hm' => by
            obtain ⟨b', hb'⟩ := h1 (j + 1) e' n' (by simpa using hj) hn' hm'
            exact ⟨b', keep hb' (h2 0 (j + 1) e e' n n' b b' rfl (by simpa using hj) (by omega) hn hn' hm hm' hb hb')⟩)
          (fun j j' e1 e2 n1 n2 b1 b2 hj hj' hne k1 k2 k3 k4 x1 x2 => by
            obtain ⟨c1, y1⟩ := h1 (j + 1) e1 n1 (by simpa using hj) k1 k3
            obtain ⟨c2, y2⟩ := h1 (j' + 1) e2 n2 (by simpa using hj') k2 k4
            rw [back y1 x1, back y2 x2]
            exact h2 (j + 1) (j' + 1) e1 e2 n1 n2 c1 c2 (by simpa using hj) (by simpa using hj') (by omega) k1 k2 k3 k4 y1 y2)
        refine ⟨a1, a2, fun id' n' b' hx hd => a3 id' n' b' (keep hx (hd 0 e n b rfl hn hm hb)) (fun j e1 n1 b1 hj k1 k3 x1 => ?_)⟩
        obtain ⟨c1, y1⟩ := h1 (j + 1) e1 n1 (by simpa using hj) k1 k3
        rw [back y1 x1]
        exact hd (j + 1) e1 n1 c1 (by simpa using hj) k1 k3 y1
end
end Go.Xe
