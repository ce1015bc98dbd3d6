/- The executor, part 15: one operation of a region that draws its order keeps what holds; the region.
  Conditions: none. -/
import Derived.Test.YtbdbkggaadbhoaaGreatXe14
import Derived.OrdersIn
import Derived.Test.YtbdbkggaadbhoaaGreatXeS
noncomputable section
namespace Go.Xe
open Go.RowKit

section
variable {P : Program} {B : Nat → Prop} {w0 : World} {call : Caller} {nt : Nat} {ops : Array Oper} {pres : List Nat} {nx0 : Nat} {l : List Ent} {tm0 tmN : T Value} {S0 SN : Hp} {IN : Nat}
variable (F : Fix P call nt ops pres nx0 l tm0 tmN S0 SN IN)
include F

/-- The operations ahead of place i, the last one first: their places. -/
theorem Fix.before {i j : Nat} {e : Ent} (hi : i ≤ l.length) (h : ((l.take i).reverse)[j]? = some e) : j < i ∧ l[i - 1 - j]? = some e ∧ e.i = i - 1 - j := by
  have hlen : (l.take i).length = i := by simp; omega
  have hj : j < i := by
    have := (List.getElem?_eq_some_iff.1 h).1
    simpa [hlen] using this
  rw [List.getElem?_reverse (by rw [hlen]; exact hj), hlen, List.getElem?_take, if_pos (by omega)] at h
  exact ⟨hj, h, (F.at_ h).2.2⟩

/-- The blocks that wait and are wanted are taken in; the others wait on. -/
theorem Fix.takes {σ0 : Sg} {D : List Deferred} {L : Array Bool} {a : Act} {w : World} {σ : Sg} {k : Nat} {S : Hp} {I : Nat} (V : Inv B w0 P call nt ops nx0 l tm0 tmN S0 SN IN σ0 D L a w σ k S I)
    {i : Nat} (hi : i ≤ l.length) (m : Nat → Bool) (hm : ∀ j, j < i → m j = true → lst L j ∧ I.testBit j = false) :
    HR B w0 σ (Xe.takes nx0 m (l.take i).reverse S) w ∧ (Xe.takes nx0 m (l.take i).reverse S).nx = S.nx ∧
    ∀ (j : Nat) e n b, l[j]? = some e → e.nw = some n → lst L j → I.testBit j = false → (j < i → m j = false) → Ext B σ S w (nx0 + j) n b → Ext B σ (Xe.takes nx0 m (l.take i).reverse S) w (nx0 + j) n b := by
  have H := takes_ok (B := B) (w0 := w0) (σ := σ) (w := w) (nx0 := nx0) (m := m) (l.take i).reverse V.hr
    (fun j e n hj hn hme => by
      obtain ⟨h1, h2, h3⟩ := F.before hi hj
      obtain ⟨h4, h5⟩ := hm _ (by omega : i - 1 - j < i) (h3 ▸ hme)
      rw [h3]
      exact V.ext _ e n h2 hn h4 h5)
    (fun j j' e e' n n' b b' hj hj' hne hn hn' hme hme' x1 x2 => by
      obtain ⟨h1, h2, h3⟩ := F.before hi hj
      obtain ⟨g1, g2, g3⟩ := F.before hi hj'
      obtain ⟨h4, h5⟩ := hm _ (by omega : i - 1 - j < i) (h3 ▸ hme)
      obtain ⟨g4, g5⟩ := hm _ (by omega : i - 1 - j' < i) (g3 ▸ hme')
      rw [h3] at x1
      rw [g3] at x2
      exact V.apart _ _ e e' n n' b b' h2 g2 hn hn' (by omega) h4 g4 h5 g5 x1 x2)
  refine ⟨H.1, H.2.1, fun j e n b hj hn hlj hIj hmj hx => H.2.2 _ n b hx fun j' e' n' b' hj' hn' hme' hx' => ?_⟩
  obtain ⟨g1, g2, g3⟩ := F.before hi hj'
  obtain ⟨g4, g5⟩ := hm _ (by omega : i - 1 - j' < i) (g3 ▸ hme')
  rw [g3] at hx'
  refine V.apart _ _ e' e n' n b' b g2 hj hn' hn ?_ g4 hlj g5 hIj hx' hx
  intro heq
  have := hmj (by omega)
  rw [← heq, ← g3, hme'] at this
  cases this

/-- The read of a value at whatever cut. -/
theorem Fix.read {σ0 : Sg} {D : List Deferred} {L : Array Bool} {a : Act} {w : World} {σ : Sg} {k : Nat} {S : Hp} {I : Nat} (V : Inv B w0 P call nt ops nx0 l tm0 tmN S0 SN IN σ0 D L a w σ k S I)
    {i : Nat} {e : Ent} (he : l[i]? = some e) (hpre : ∀ m, e.pre.testBit m = true → lst L m) (hi : ¬ lst L i) (hw : e.wt = true) (hk1 : okind e.o.op = 1) : xrd P e.tm S e.o.op = some e.r := by
  have hei : e.i = i := (F.at_ he).2.2
  have hmem : ∀ {j : Nat} {y : Ent}, l[j]? = some y → y ∈ l.reverse := fun h => List.mem_reverse.2 (List.mem_of_getElem? h)
  have hget : ∀ {y : Ent}, y ∈ l.reverse → ∃ j, l[j]? = some y ∧ y.i = j := fun h => by
    obtain ⟨j, hj⟩ := List.mem_iff_getElem?.1 (List.mem_reverse.1 h)
    exact ⟨j, hj, (F.at_ hj).2.2⟩
  have hall : allowed l.reverse e k = true := by
    unfold allowed
    rw [List.all_eq_true]
    intro y hy
    obtain ⟨j, hj, hyi⟩ := hget hy
    cases hW : isW y with
    | false => rfl
    | true =>
      have h3 : okind y.o.op = 3 := Nat.eq_of_beq_eq_true hW
      rw [cond_true]
      rw [hyi, hei]
      by_cases hlt : j < k
      · rw [show Nat.blt j k = true from Nat.ble_eq_true_of_le hlt, cond_true]
        have hlj := (V.wr j y hj h3).2 hlt
        cases hb : y.pre.testBit i with
        | false => rfl
        | true => exact absurd (V.down j y hj hlj i hb) hi
      · have hb : Nat.blt j k = false := by
          cases hb : Nat.blt j k
          · rfl
          · have : j < k := Nat.le_of_ble_eq_true hb; omega
        rw [hb, cond_false]
        cases hb2 : e.pre.testBit j with
        | false => rfl
        | true => exact absurd ((V.wr j y hj h3).1 (hpre j hb2)) hlt
  obtain ⟨tm', S', I', hs, hc'⟩ := (F.chain.get he).2
  have hr := hs.k1 hw hk1
  have concl : lookAt P l.reverse e k S = true → xrd P e.tm S e.o.op = some e.r := by
    intro hl
    unfold lookAt at hl
    cases ho : own l.reverse e k with
    | true =>
      -- the cut is the operation's own
      have hno : ∀ (j : Nat) y, l[j]? = some y → okind y.o.op = 3 → (j < k ↔ j < i) := by
        intro j y hj h3
        unfold own at ho
        rw [List.all_eq_true] at ho
        have := ho y (hmem hj)
        have hW : isW y = true := beq_t h3
        rw [hW, cond_true, (F.at_ hj).2.2, hei] at this
        constructor
        · intro hlt
          rw [show Nat.blt j k = true from Nat.ble_eq_true_of_le hlt] at this
          have : Nat.blt j i = true := by simpa using this
          exact Nat.le_of_ble_eq_true this
        · intro hlt
          rw [show Nat.blt j i = true from Nat.ble_eq_true_of_le hlt] at this
          have : Nat.blt j k = true := by simpa using this
          exact Nat.le_of_ble_eq_true this
      have hki : k ≤ i := by
        rcases V.norm with ⟨h0, _⟩ | ⟨y, h0, hy, h3, _⟩
        · omega
        · have := (hno (k - 1) y hy h3).1 (by omega)
          omega
      obtain ⟨tmk, hcut⟩ := V.cut
      have hS := (cut_still hcut he hki (fun j y hj h1 h2 h3 => by have := (hno j y hj h3).2 h2; omega)).1
      rw [← hS]; exact hr
    | false =>
      rw [ho, cond_false, hall, cond_true] at hl
      split at hl
      · rename_i v hv
        rw [hv, veq_eq _ _ _ hl]
      · cases hl
  have hd := F.dyn
  unfold Xe.dyn at hd
  rw [List.all_eq_true] at hd
  have h0 := hd e (hmem he)
  have hcond : (e.wt && Nat.beq (okind e.o.op) 1) = true := by rw [hw, beq_t hk1]; rfl
  rw [hcond, cond_true, Bool.and_eq_true, List.all_eq_true] at h0
  rcases V.norm with ⟨hk, hS⟩ | ⟨y, hk, hy, h3, hS⟩
  · subst hk; subst hS
    exact concl h0.1
  · have := h0.2 y (hmem hy)
    have hW : isW y = true := beq_t h3
    rw [hW, cond_true, (F.at_ hy).2.2, show k - 1 + 1 = k by omega] at this
    rw [← hS] at this
    exact concl this

set_option maxHeartbeats 1000000 in
theorem Fix.step {σ0 : Sg} {D : List Deferred} {L : Array Bool} {a : Act} {w : World} {σ : Sg} {k : Nat} {S : Hp} {I : Nat} (hcall : CallOK P call) (V : Inv B w0 P call nt ops nx0 l tm0 tmN S0 SN IN σ0 D L a w σ k S I)
    {i : Nat} (hr : i ∈ Region.ready .any ops L) (Q : Exit → Act → World → Prop) (r : Option Nat) :
    wpOpIn (RF r) 0 P ops Q i (fun a' w' => ∃ σ' k' S' I', Inv B w0 P call nt ops nx0 l tm0 tmN S0 SN IN σ0 D (L.setIfInBounds i true) a' w' σ' k' S' I') a w := by
  obtain ⟨hun, o, ho, hall⟩ := mem_ready.1 hr
  obtain ⟨hiL, hni⟩ := unlisted hun
  obtain ⟨e, he, heo⟩ := F.ent ho
  have hei : e.i = i := (F.at_ he).2.2
  have hilen : i < l.length := (List.getElem?_eq_some_iff.1 he).1
  -- all that it waits for is done
  have hpre : ∀ m, e.pre.testBit m = true → lst L m := by
    intro m hm
    obtain ⟨ed, hed, hb, h⟩ := (F.p1 he).1 m hm
    have hon : lst L ed.on := hall ed (by rw [← heo]; simpa using hed) hb
    rcases h with h | h
    · rw [← h]; exact hon
    · have hlt := (F.p1 he).2 ed hed hb
      have hon' : ed.on < l.length := by omega
      obtain ⟨e', he'⟩ : ∃ e', l[ed.on]? = some e' := ⟨l[ed.on], by simp [hon']⟩
      exact V.down ed.on e' he' hon m (by rw [(F.at_ he').2.1]; exact h)
  obtain ⟨tm', S', I', hs, hcn⟩ := (F.chain.get he).2
  simp only [List.append_nil] at hs hcn
  have hcn' : ∃ tmk, Chain P call nt ops.toList nx0 tmN SN IN (l.take (i + 1)).reverse (l.drop (i + 1)) tmk S' I' := by
    refine ⟨tm', ?_⟩
    have : e :: (l.take i).reverse = (l.take (i + 1)).reverse := by
      rw [List.take_succ_eq_append_getElem hilen, List.reverse_append]
      have : l[i] = e := by simpa [hilen] using he
      simp [this]
    rw [← this]; exact hcn
  -- what it looks at
  have hseen : ∀ t, (looks ops.toList o).testBit t = true → VR σ ((e.tm.get t).getD undef) (a.tmps.getD t undef) := fun t ht => F.seen V he hpre hni (by rw [heo]; exact ht)
  have hER : ∀ x ∈ o.op.operands, ∀ v, xeval e.tm x = some v → VR σ v (a.eval x) := by
    intro x hx v hv
    cases x with
    | tmp t =>
      simp only [xeval, Option.some.injEq] at hv
      subst hv
      exact hseen t (looks_spec.2 (.inr (by simpa using hx)))
    | const c =>
      simp only [xeval] at hv
      cases hc : cst c with
      | false => simp [hc] at hv
      | true => simp [hc] at hv; subst hv; exact cst_VR σ hc
    | global g => simp [xeval] at hv
    | func f =>
      simp only [xeval, Option.some.injEq] at hv; subst hv
      exact .func _ _ _ _ _ rfl (fun i x y h _ => by simp at h) rfl (fun i x y h _ => by simp at h)
  have hwant : Region.wanted o (yielded ops a.tmps) = e.wt := by
    rw [hs.wt, heo]
    exact xwanted_eq' ops o fun g want p d hg hp hd => hseen d (looks_spec.2 (.inl ⟨g, want, p, hg, hp, hd⟩))
  have hdst : ∀ (j : Nat) e' t, l[j]? = some e' → j ≠ i → e'.o.dst = some t → o.dst ≠ some t := fun j e' t hj hne ht => by rw [← heo]; exact (F.p2 he hj (Ne.symm hne)).1 t ht
  -- the parts of what holds that are alike in all cases
  have build : ∀ (u : Value) (σ' : Sg) (w' : World) (k' : Nat) (S2 : Hp) (I2 : Nat), Sg.le σ σ' → VR σ' e.r u →
      (∃ tmk, Chain P call nt ops.toList nx0 tmN SN IN (l.take k').reverse (l.drop k') tmk S2 I2) →
      ((k' = 0 ∧ S2 = S0) ∨ ∃ e, 0 < k' ∧ l[k' - 1]? = some e ∧ okind e.o.op = 3 ∧ S2 = e.S2) →
      (∀ (j : Nat) e, l[j]? = some e → okind e.o.op = 3 → (lst (L.setIfInBounds i true) j ↔ j < k')) →
      HR B w0 σ' S2 w' → Sg.gr nx0 S2.nx σ0 σ' → nx0 + ops.size ≤ S2.nx →
      (∀ (j : Nat) e n, l[j]? = some e → e.nw = some n → ¬ lst (L.setIfInBounds i true) j → σ' (nx0 + j) = none) →
      (∀ (j : Nat) e n, l[j]? = some e → e.nw = some n → lst (L.setIfInBounds i true) j → I2.testBit j = false → ∃ b, Ext B σ' S2 w' (nx0 + j) n b) →
      (∀ (j j' : Nat) e e' n n' b b', l[j]? = some e → l[j']? = some e' → e.nw = some n → e'.nw = some n' → j ≠ j' → lst (L.setIfInBounds i true) j → lst (L.setIfInBounds i true) j' → I2.testBit j = false → I2.testBit j' = false →
        Ext B σ' S2 w' (nx0 + j) n b → Ext B σ' S2 w' (nx0 + j') n' b' → b ≠ b') →
      Inv B w0 P call nt ops nx0 l tm0 tmN S0 SN IN σ0 D (L.setIfInBounds i true) (a.put o.dst u) w' σ' k' S2 I2 := by
    intro u σ' w' k' S2 I2 hle hv h1 h2 h3 h4 h5 h6 h7 h8 h9
    have hput : ∀ t, o.dst ≠ some t → (a.put o.dst u).tmps.getD t undef = a.tmps.getD t undef := by
      intro t ht
      cases hd : o.dst with
      | none => rfl
      | some d =>
        have hne : d ≠ t := fun h => ht (by rw [hd, h])
        simp [Act.put, Array.getElem?_setIfInBounds_ne hne]
    have hputs : ∀ t, o.dst = some t → (a.put o.dst u).tmps.getD t undef = u := by
      intro t ht
      have hb : dstOK nt o.dst = true := by rw [← heo]; exact hs.dst
      rw [ht] at hb ⊢
      have hlt : t < a.tmps.size := by rw [V.tsz]; exact Nat.le_of_ble_eq_true hb
      simp [Act.put, hlt]
    refine ⟨by simpa using V.size, ?_, by rw [put_defers]; exact V.defers, ?_, ?_, ?_, h1, h2, h3, h4, h5, h6, h7, h8, h9⟩
    · intro j e' hj hlj m hm
      rw [lst_set hiL] at hlj ⊢
      rcases hlj with hlj | rfl
      · exact .inl (V.down j e' hj hlj m hm)
      · have : e' = e := Option.some.inj (hj.symm.trans he)
        subst this
        exact .inl (hpre m hm)
    · cases hd : o.dst <;> simp [Act.put, V.tsz]
    · intro j e' t hj hlj ht
      rw [lst_set hiL] at hlj
      by_cases hji : j = i
      · subst hji
        have : e' = e := Option.some.inj (hj.symm.trans he)
        subst this
        rw [hputs t (by rw [← heo]; exact ht)]
        exact hv
      · rw [hput t (hdst j e' t hj hji ht)]
        exact (V.tin j e' t hj (hlj.resolve_right hji) ht).mono hle
    · intro t hno
      have hoi : o.dst ≠ some t := by rw [← heo]; exact hno i e he ((lst_set hiL).2 (.inr rfl))
      rw [hput t hoi]
      exact (V.tout t fun j e' hj hlj => hno j e' hj ((lst_set hiL).2 (.inl hlj))).mono hle
  -- a step that leaves the abstract memory alone
  have calm : ∀ (u : Value) (σ' : Sg) (w' : World), okind o.op ≠ 3 → (e.nw = none) → Sg.gr S.nx S.nx σ σ' → VR σ' e.r u → HR (rest σ S w) w σ' S w' →
      ∃ σ' k' S' I', Inv B w0 P call nt ops nx0 l tm0 tmN S0 SN IN σ0 D (L.setIfInBounds i true) (a.put o.dst u) w' σ' k' S' I' := by
    intro u σ' w' hk hnw hgr hv hk'
    refine ⟨σ', k, S, I, build u σ' w' k S I hgr.le hv V.cut V.norm (fun j e' hj h3 => ?_) (V.hr.back hk') (Sg.gr_trans V.gr hgr) V.room (fun j e' n hj hn hlj => ?_) (fun j e' n hj hn hlj hI => ?_) (fun j j' e1 e2 n1 n2 b1 b2 hj hj' hn1 hn2 hne hl1 hl2 hI1 hI2 x1 x2 => ?_)⟩
    · rw [lst_set hiL, ← V.wr j e' hj h3]
      constructor
      · rintro (h | rfl)
        · exact h
        · have : e' = e := Option.some.inj (hj.symm.trans he)
          subst this
          exact absurd h3 (by rw [heo]; exact hk)
      · exact .inl
    · have hlj' : ¬ lst L j := fun h => hlj ((lst_set hiL).2 (.inl h))
      have hjn : j < l.length := (List.getElem?_eq_some_iff.1 hj).1
      rw [hgr.low _ (by have := V.room; have := F.len; omega)]
      exact V.none j e' n hj hn hlj'
    · have hji : j ≠ i := by rintro rfl; rw [Option.some.inj (hj.symm.trans he), hnw] at hn; cases hn
      rw [lst_set hiL] at hlj
      obtain ⟨b, hb⟩ := V.ext j e' n hj hn (hlj.resolve_right hji) hI
      exact ⟨b, hb.step hk' hgr.le⟩
    · have hji : j ≠ i := by rintro rfl; rw [Option.some.inj (hj.symm.trans he), hnw] at hn1; cases hn1
      have hji' : j' ≠ i := by rintro rfl; rw [Option.some.inj (hj'.symm.trans he), hnw] at hn2; cases hn2
      rw [lst_set hiL] at hl1 hl2
      obtain ⟨c1, y1⟩ := V.ext j e1 n1 hj hn1 (hl1.resolve_right hji) hI1
      obtain ⟨c2, y2⟩ := V.ext j' e2 n2 hj' hn2 (hl2.resolve_right hji') hI2
      have uniq : ∀ {id : Nat} {n : Nw} {b c : Nat}, Ext B σ S w id n c → Ext B σ' S w' id n b → b = c := by
        intro id n b c hx hy
        obtain ⟨p, _, p1, p2, _⟩ := hx
        obtain ⟨q, _, q1, q2, _⟩ := hy
        have := (hgr.le _ _ p1).symm.trans q1
        have : p = q := Option.some.inj this
        rw [← p2, ← q2, this]
      rw [uniq y1 x1, uniq y2 x2]
      exact V.apart j j' e1 e2 n1 n2 c1 c2 hj hj' hn1 hn2 hne (hl1.resolve_right hji) (hl2.resolve_right hji') hI1 hI2 y1 y2
  -- a writer comes up at its own place
  have hwr : okind o.op = 3 → e.S = S ∧ e.I = I ∧ k ≤ i ∧ ∀ (j : Nat) e', l[j]? = some e' → okind e'.o.op = 3 → (lst (L.setIfInBounds i true) j ↔ j < i + 1) := by
    intro h3
    have h3e : okind e.o.op = 3 := by rw [heo]; exact h3
    have hki : k ≤ i := by
      rcases Nat.lt_or_ge i k with h | h
      · exact absurd ((V.wr i e he h3e).2 h) hni
      · exact h
    obtain ⟨tmk, hcut⟩ := V.cut
    have hlt : ∀ (j : Nat) e', l[j]? = some e' → okind e'.o.op = 3 → j < i → lst L j := fun j e' hj k3 hlt => hpre j ((F.p2 he hj (by omega)).2.2 h3e k3 hlt)
    have hst := cut_still hcut he hki (fun j e' hj h1 h2 k3 => by have := (V.wr j e' hj k3).1 (hlt j e' hj k3 h2); omega)
    refine ⟨hst.1, hst.2, hki, fun j e' hj k3 => ?_⟩
    rw [lst_set hiL]
    constructor
    · rintro (h | rfl)
      · rcases Nat.lt_or_ge i j with h' | h'
        · exact absurd (V.down j e' hj h i ((F.p2 hj he (by omega)).2.2 k3 h3e h')) hni
        · omega
      · omega
    · intro h
      by_cases hji : j = i
      · exact .inr hji
      · exact .inl (hlt j e' hj k3 (by omega))
  unfold wpOpIn
  simp only [ho]
  rw [hwant]
  cases hwt : e.wt with
  | false =>
    rw [if_neg (by simp)]
    refine ⟨fun _ _ => trivial, ?_⟩
    obtain ⟨hru, hnw⟩ := hs.un hwt
    by_cases h3 : okind o.op = 3
    · obtain ⟨e1, e2, hki, hw3⟩ := hwr h3
      obtain ⟨l1, l2⟩ := hs.low (.inl hwt)
      have h3e : okind e.o.op = 3 := by rw [heo]; exact h3
      refine ⟨σ, i + 1, S', I', build undef σ w (i + 1) S' I' (Sg.le_refl σ) (by rw [hru]; exact VR.undef σ) hcn' (.inr ⟨e, by omega, he, h3e, hs.S2.symm⟩) hw3
        (by rw [l1, e1]; exact V.hr) (by rw [l1, e1]; exact V.gr) (by rw [l1, e1]; exact V.room) (fun j e' n hj hn hlj => ?_) (fun j e' n hj hn hlj hI => ?_) (fun j j' f1 f2 n1 n2 b1 b2 hj hj' hn1 hn2 hne hl1 hl2 hI1 hI2 x1 x2 => ?_)⟩
      · exact V.none j e' n hj hn (fun h => hlj ((lst_set hiL).2 (.inl h)))
      · have hji : j ≠ i := by rintro rfl; rw [Option.some.inj (hj.symm.trans he), hnw] at hn; cases hn
        rw [lst_set hiL] at hlj
        rw [l1, e1]
        rw [l2, e2] at hI
        exact V.ext j e' n hj hn (hlj.resolve_right hji) hI
      · have hji : j ≠ i := by rintro rfl; rw [Option.some.inj (hj.symm.trans he), hnw] at hn1; cases hn1
        have hji' : j' ≠ i := by rintro rfl; rw [Option.some.inj (hj'.symm.trans he), hnw] at hn2; cases hn2
        rw [lst_set hiL] at hl1 hl2
        rw [l1, e1] at x1 x2
        rw [l2, e2] at hI1 hI2
        exact V.apart j j' f1 f2 n1 n2 b1 b2 hj hj' hn1 hn2 hne (hl1.resolve_right hji) (hl2.resolve_right hji') hI1 hI2 x1 x2
    · exact calm undef σ w h3 hnw (Sg.gr_refl _ σ) (by rw [hru]; exact VR.undef σ) V.hr.max
  | true =>
    rw [if_pos rfl]
    by_cases h0 : okind o.op = 0
    · have hx := hs.k0 hwt (by rw [heo]; exact h0) S
      rw [heo] at hx
      exact xop_sound hcall hx hER V.hr.max _ Q (fun σ' u w' hgr hv hw' => calm u σ' w' (by omega) (hs.nw (by rw [heo]; omega)) hgr hv hw') r
    by_cases h1 : okind o.op = 1
    · have hx := xrd_xop (call := call) (by rw [heo]; exact h1) (F.read V he hpre hni hwt (by rw [heo]; exact h1))
      rw [heo] at hx
      exact xop_sound hcall hx hER V.hr.max _ Q (fun σ' u w' hgr hv hw' => calm u σ' w' (by omega) (hs.nw (by rw [heo]; omega)) hgr hv hw') r
    by_cases h2 : okind o.op = 2
    · obtain ⟨n, hx, hrv, hnw⟩ := hs.k2 hwt (by rw [heo]; exact h2)
      rw [heo] at hx
      obtain ⟨sm, hes, hlen, ob, siz, z, hbr, hrun⟩ := xnw_sound (σ := σ) hx hER
      have hid : σ (nx0 + i) = none := V.none i e n he hnw hni
      have hlt : nx0 + i < S.nx := by have := V.room; have := F.len; omega
      obtain ⟨hl1, hl2⟩ := V.hr.lay hid hlt n (p := ⟨w.heap.size, 0, siz, z⟩) rfl (hbr _)
      have hle := Sg.le_ext (σ := σ) (i := nx0 + i) ⟨w.heap.size, 0, siz, z⟩ hid
      refine wpIn_of_wp (fun c hc => by rw [hc] at h2; cases h2) ?_
      unfold Oper.wp
      rw [hes, Sem.run_bind, hrun w, Result.andThen_ok, Sem.run_pure, Oper.upon_value]
      refine ⟨_, k, S, I, build _ _ _ k S I hle ?_ V.cut V.norm (fun j e' hj h3 => ?_) hl1 ⟨Sg.le_trans V.gr.le hle, fun j hj => (Sg.ext_other _ _ _ (by omega)).trans (V.gr.low j hj), V.gr.nx⟩ V.room (fun j e' n' hj hn hlj => ?_) (fun j e' n' hj hn hlj hI => ?_)
        (fun j j' f1 f2 n1 n2 b1 b2 hj hj' hn1 hn2 hne hlj1 hlj2 hI1 hI2 x1 x2 => ?_)⟩
      · rw [hrv, hei]
        exact Nw.val_VR hlen _ _ _ _
      · rw [lst_set hiL, ← V.wr j e' hj h3]
        constructor
        · rintro (h | rfl)
          · exact h
          · have : e' = e := Option.some.inj (hj.symm.trans he)
            subst this
            rw [heo] at h3; omega
        · exact .inl
      · have hji : j ≠ i := by rintro rfl; exact hlj ((lst_set hiL).2 (.inr rfl))
        rw [Sg.ext_other _ _ _ (by omega)]
        exact V.none j e' n' hj hn (fun h => hlj ((lst_set hiL).2 (.inl h)))
      · by_cases hji : j = i
        · subst hji
          have : e' = e := Option.some.inj (hj.symm.trans he)
          subst this
          have : n' = n := Option.some.inj (hn.symm.trans hnw)
          subst this
          exact ⟨_, hl2⟩
        · rw [lst_set hiL] at hlj
          obtain ⟨b, hb⟩ := V.ext j e' n' hj hn (hlj.resolve_right hji) hI
          exact ⟨b, hb.lay V.hr hid _ _⟩
      · -- apart
        have old : ∀ (j : Nat) (f : Ent) (n' : Nw) (b : Nat), l[j]? = some f → f.nw = some n' → j ≠ i → lst (L.setIfInBounds i true) j → I.testBit j = false →
            Ext B (σ.ext (nx0 + i) ⟨w.heap.size, 0, siz, z⟩) S (w.alloc ob) (nx0 + j) n' b → Ext B σ S w (nx0 + j) n' b ∧ b < w.heap.size := by
          intro j f n' b hj hn hji hlj hI hx
          rw [lst_set hiL] at hlj
          obtain ⟨c, hc⟩ := V.ext j f n' hj hn (hlj.resolve_right hji) hI
          have hcc := hc
          obtain ⟨p, C, p1, p2, p5, _⟩ := hc
          obtain ⟨q, _, q1, q2, _⟩ := hx
          have := (hle _ _ p1).symm.trans q1
          have : p = q := Option.some.inj this
          have hbc : b = c := by rw [← p2, ← q2, this]
          subst hbc
          exact ⟨hcc, (Array.getElem?_eq_some_iff.1 p5).1⟩
        have new : ∀ (n' : Nw) (b : Nat), Ext B (σ.ext (nx0 + i) ⟨w.heap.size, 0, siz, z⟩) S (w.alloc ob) (nx0 + i) n' b → b = w.heap.size := by
          intro n' b hx
          obtain ⟨q, _, q1, q2, _⟩ := hx
          rw [Sg.ext_same] at q1
          rw [← q2, ← Option.some.inj q1]
        by_cases hji : j = i
        · subst hji
          have hj2 : j' ≠ j := Ne.symm hne
          have := (old j' f2 n2 b2 hj' hn2 hj2 hlj2 hI2 x2).2
          rw [new n1 b1 x1]; omega
        · by_cases hji' : j' = i
          · subst hji'
            have := (old j f1 n1 b1 hj hn1 hji hlj1 hI1 x1).2
            rw [new n2 b2 x2]; omega
          · have o1 := (old j f1 n1 b1 hj hn1 hji hlj1 hI1 x1).1
            have o2 := (old j' f2 n2 b2 hj' hn2 hji' hlj2 hI2 x2).1
            rw [lst_set hiL] at hlj1 hlj2
            exact V.apart j j' f1 f2 n1 n2 b1 b2 hj hj' hn1 hn2 hne (hlj1.resolve_right hji) (hlj2.resolve_right hji') hI1 hI2 o1 o2
    · -- a writer
      have h3 : okind o.op = 3 := by have := okind_le o.op; omega
      have h3e : okind e.o.op = 3 := by rw [heo]; exact h3
      obtain ⟨e1, e2, hki, hw3⟩ := hwr h3
      obtain ⟨hx, hI'⟩ := hs.k3 hwt (by omega)
      rw [heo, e1, e2] at hx
      rw [e2] at hI'
      obtain ⟨T1, T2, T3⟩ := F.takes V (i := i) (by omega) (selW e.pre I) (fun j hj hm => by
        simp only [selW, Bool.and_eq_true, Bool.not_eq_true'] at hm
        exact ⟨hpre j hm.1, hm.2⟩)
      refine xop_sound hcall hx hER T1.max _ Q (fun σ' u w' hgr hv hw' => ?_) r
      rw [T2] at hgr
      have keep : ∀ (j : Nat) (f : Ent) (n : Nw), l[j]? = some f → f.nw = some n → lst L j → I'.testBit j = false → ∃ b, Ext B σ S w (nx0 + j) n b ∧ Ext B σ' S' w' (nx0 + j) n b := by
        intro j f n hj hn hlj hI
        rw [hI', Nat.testBit_or, Bool.or_eq_false_iff] at hI
        obtain ⟨b, hb⟩ := V.ext j f n hj hn hlj hI.1
        exact ⟨b, hb, (T3 j f n b hj hn hlj hI.1 (fun _ => by simp [selW, hI.2]) hb).step hw' hgr.le⟩
      have hnw : e.nw = none := hs.nw (by omega)
      refine ⟨σ', i + 1, S', I', build u σ' w' (i + 1) S' I' hgr.le hv hcn' (.inr ⟨e, by omega, he, h3e, hs.S2.symm⟩) hw3 (T1.back hw') (Sg.gr_trans V.gr hgr) (by have := V.room; have := hgr.nx; omega) (fun j e' n hj hn hlj => ?_) (fun j e' n hj hn hlj hI => ?_)
        (fun j j' f1 f2 n1 n2 b1 b2 hj hj' hn1 hn2 hne hl1 hl2 hI1 hI2 x1 x2 => ?_)⟩
      · have hjn : j < l.length := (List.getElem?_eq_some_iff.1 hj).1
        rw [hgr.low _ (by have := V.room; have := F.len; omega)]
        exact V.none j e' n hj hn (fun h => hlj ((lst_set hiL).2 (.inl h)))
      · have hji : j ≠ i := by rintro rfl; rw [Option.some.inj (hj.symm.trans he), hnw] at hn; cases hn
        rw [lst_set hiL] at hlj
        obtain ⟨b, _, hb⟩ := keep j e' n hj hn (hlj.resolve_right hji) hI
        exact ⟨b, hb⟩
      · have hji : j ≠ i := by rintro rfl; rw [Option.some.inj (hj.symm.trans he), hnw] at hn1; cases hn1
        have hji' : j' ≠ i := by rintro rfl; rw [Option.some.inj (hj'.symm.trans he), hnw] at hn2; cases hn2
        rw [lst_set hiL] at hl1 hl2
        obtain ⟨c1, y1, z1⟩ := keep j f1 n1 hj hn1 (hl1.resolve_right hji) hI1
        obtain ⟨c2, y2, z2⟩ := keep j' f2 n2 hj' hn2 (hl2.resolve_right hji') hI2
        have uniq : ∀ {id : Nat} {n : Nw} {b c : Nat}, Ext B σ' S' w' id n c → Ext B σ' S' w' id n b → b = c := by
          intro id n b c hx hy
          obtain ⟨p, _, p1, p2, _⟩ := hx
          obtain ⟨q, _, q1, q2, _⟩ := hy
          have : p = q := Option.some.inj (p1.symm.trans q1)
          rw [← p2, ← q2, this]
        rw [uniq z1 x1, uniq z2 x2]
        rw [hI', Nat.testBit_or, Bool.or_eq_false_iff] at hI1 hI2
        exact V.apart j j' f1 f2 n1 n2 c1 c2 hj hj' hn1 hn2 hne (hl1.resolve_right hji) (hl2.resolve_right hji') hI1.1 hI2.1 y1 y2

theorem Fix.all {L : Array Bool} (hsz : L.size = ops.size) (hr : Region.ready .any ops L = []) : ∀ j, j < ops.size → lst L j := by
  intro j
  induction j using Nat.strongRecOn with
  | _ j ih =>
    intro hj
    by_cases hl : lst L j
    · exact hl
    · exfalso
      have hm : j ∈ Region.ready .any ops L := by
        refine mem_ready.2 ⟨?_, ops[j], by simp [hj], fun ed hed hb => ?_⟩
        · unfold lst at hl
          have : j < L.size := by omega
          simp [this] at hl ⊢
          exact hl
        · obtain ⟨e, he, heo⟩ := F.ent (o := ops[j]) (j := j) (by simp [hj])
          have := (F.p1 he).2 ed (by rw [heo]; simpa using hed) hb
          exact ih ed.on this (by omega)
      rw [hr] at hm
      cases hm

theorem Fix.ends {σ0 : Sg} {D : List Deferred} {L : Array Bool} {a : Act} {w : World} {σ : Sg} {k : Nat} {S : Hp} {I : Nat} (V : Inv B w0 P call nt ops nx0 l tm0 tmN S0 SN IN σ0 D L a w σ k S I)
    (hall : ∀ j, j < ops.size → lst L j) : Post nx0 B w0 σ0 nt .normal tmN (Xe.takes nx0 (selE IN) l.reverse SN) D .normal a w := by
  obtain ⟨tmk, hcut⟩ := V.cut
  have hlist : ∀ {j : Nat} {e : Ent}, l[j]? = some e → lst L j := fun h => hall _ (by have := (List.getElem?_eq_some_iff.1 h).1; have := F.len; omega)
  have hst := hcut.still (fun e hm => by
    obtain ⟨m, hm2⟩ := List.mem_iff_getElem?.1 hm
    rw [List.getElem?_drop] at hm2
    intro h3
    have := (V.wr _ e hm2 h3).1 (hlist hm2)
    omega)
  obtain ⟨T1, T2, _⟩ := F.takes V (i := l.length) (Nat.le_refl _) (selE IN) (fun j hj hm => by
    have : l[j]? = some l[j] := by simp [hj]
    refine ⟨hlist this, ?_⟩
    rw [← hst.2]
    simpa [selE] using hm)
  rw [List.take_length] at T1 T2
  rw [← hst.1] at T1 T2
  refine ⟨rfl, V.defers, σ, by rw [T2, hst.1]; exact V.gr, ⟨V.tsz, fun t => ?_⟩, T1⟩
  by_cases hx : ∃ (j : Nat) (e : Ent), l[j]? = some e ∧ e.o.dst = some t
  · obtain ⟨j, e, hj, hd⟩ := hx
    rw [F.chain.tm_some hj hd (fun m e2 hm hne hd2 => (F.p2 hm hj hne).1 t hd hd2)]
    exact V.tin j e t hj (hlist hj) hd
  · rw [F.chain.tm_none (fun e he hd => by
      obtain ⟨m, hm⟩ := List.mem_iff_getElem?.1 he
      exact hx ⟨m, e, hm, hd⟩)]
    exact V.tout t (fun j e hj _ hd => hx ⟨j, e, hj, hd⟩)
omit F

def open_ (L : Array Bool) : Nat := (L.toList.filter (fun b => !b)).length

theorem filter_set : ∀ (l : List Bool) (i : Nat), l[i]? = some false → ((l.set i true).filter (fun b => !b)).length + 1 = (l.filter (fun b => !b)).length
  | [], i, h => by simp at h
  | b :: l, 0, h => by simp at h; subst h; simp
  | b :: l, i + 1, h => by
    have := filter_set l i (by simpa using h)
    cases b <;> simp [this]

theorem open_set {L : Array Bool} {i : Nat} (h : L.getD i true = false) : open_ (L.setIfInBounds i true) + 1 = open_ L := by
  have hi := (unlisted h).1
  unfold open_
  rw [Array.toList_setIfInBounds]
  refine filter_set L.toList i ?_
  simp [hi] at h ⊢
  exact h

include F
theorem Fix.any {σ0 : Sg} {D : List Deferred} (hcall : CallOK P call) (r : Option Nat) : ∀ (fuel : Nat) (L : Array Bool) (a : Act) (w : World) (σ : Sg) (k : Nat) (S : Hp) (I : Nat), open_ L = fuel → Inv B w0 P call nt ops nx0 l tm0 tmN S0 SN IN σ0 D L a w σ k S I →
    wpAnyIn (RF r) 0 P .any ops (Post nx0 B w0 σ0 nt .normal tmN (Xe.takes nx0 (selE IN) l.reverse SN) D) fuel L a w := by
  intro fuel
  induction fuel with
  | zero =>
    intro L a w σ k S I hf V
    have hr : Region.ready .any ops L = [] := by
      cases hrd : Region.ready .any ops L with
      | nil => rfl
      | cons i r =>
        have : i ∈ Region.ready .any ops L := by rw [hrd]; simp
        have := open_set (mem_ready.1 this).1
        omega
    exact ⟨hr, F.ends V (F.all V.size hr)⟩
  | succ fuel ih =>
    intro L a w σ k S I hf V
    refine ⟨fun hr => F.ends V (F.all V.size hr), fun i hi => ?_⟩
    have hop := open_set (mem_ready.1 hi).1
    refine wpOpIn_mono (fun a' w' hV => ?_) (F.step hcall V hi _ r)
    obtain ⟨σ', k', S', I', V'⟩ := hV
    exact ih _ a' w' σ' k' S' I' (by omega) V'
end

theorem xdraw_any {P : Program} {call : Caller} (hcall : CallOK P call) {nt : Nat} {ops : Array Oper} {tm : T Value} {hp : Hp} {tm' : T Value} {hp' : Hp} (h : xdraw P call nt ops.toList tm hp = some (tm', hp')) {B : Nat → Prop} {w0 : World} {σ : Sg} {a : Act} {w : World} (ht : TR σ nt tm a.tmps) (hw : HR B w0 σ hp w) (r : Option Nat) :
    wpAnyIn (RF r) 0 P .any ops (Post hp.nx B w0 σ nt .normal tm' hp' a.defers) ops.size (Array.replicate ops.size false) a { w with drawn := w.drawn + 1 } := by
  unfold xdraw at h
  cases hst : stat ops.toList (xpres ops.toList []) with
  | false => rw [hst] at h; cases h
  | true =>
    rw [hst, cond_true] at h
    split at h
    · rename_i out hgo
      cases hdy : dyn P ⟨hp.m, hp.nx + ops.toList.length⟩ out.es with
      | false => rw [hdy] at h; cases h
      | true =>
        rw [hdy, cond_true] at h
        simp only [Option.some.injEq, Prod.mk.injEq] at h
        obtain ⟨rfl, rfl⟩ := h
        obtain ⟨l, h1, h2, h3⟩ := xgo_chain _ 0 tm _ 0 [] out hgo rfl
        rw [List.append_nil] at h1
        have F : Fix P call nt ops (xpres ops.toList []) hp.nx l tm out.tm ⟨hp.m, hp.nx + ops.toList.length⟩ out.S out.I := ⟨hst, by rw [← h1]; exact hdy, h2, h3⟩
        rw [h1]
        have hopen : open_ (Array.replicate ops.size false) = ops.size := by simp [open_]
        refine F.any (B := B) (w0 := w0) (σ0 := σ) hcall r ops.size _ a _ σ 0 ⟨hp.m, hp.nx + ops.toList.length⟩ 0 hopen ?_
        have hno : ∀ j, ¬ lst (Array.replicate ops.size false) j := by
          intro j hl
          unfold lst at hl
          by_cases hj : j < ops.size <;> simp [hj] at hl
        have hr : HR B w0 σ ⟨hp.m, hp.nx + ops.toList.length⟩ w.drew :=
          ⟨hw.os, hw.tape, hw.output, hw.size, hw.old, hw.kept, fun i hi => hw.fresh i (by simp at hi; omega), hw.live, hw.inj⟩
        refine ⟨by simp, fun j e hj hl => absurd hl (hno j), rfl, ht.size, fun j e t hj hl => absurd hl (hno j), fun t _ => ht.at_ t, ⟨tm, by simpa using h3⟩, .inl ⟨rfl, rfl⟩, fun j e hj _ => ⟨fun h => absurd h (hno j), fun h => by omega⟩,
          hr, ⟨Sg.le_refl σ, fun _ _ => rfl, by simp⟩, by simp, fun j e n hj hn _ => ?_, fun j e n hj hn hl => absurd hl (hno j), fun j j' e e' n n' b b' hj hj' hn hn' hne hl => absurd hl (hno j)⟩
        exact hw.fresh _ (by omega)
    · cases h

theorem xdraw_ok {P : Program} (hm : P.follows .mixedOrders = true) : DrawOK P (xdraw P) :=
  fun _ hcall _ _ _ _ _ _ _ h _ _ _ _ _ ht hw r => wpIn_region_any hm (xdraw_any hcall h ht hw r)

end Go.Xe
