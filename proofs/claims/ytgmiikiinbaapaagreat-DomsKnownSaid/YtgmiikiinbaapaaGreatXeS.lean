/- The executor, part S: calls, and calls that are run once for each of two ranges of a capacity.
  Conditions: none. -/
import Derived.Test.YtgmiikiinbaapaaGreatXe12
noncomputable section
namespace Go.Xe
open Go.RowKit

/-! ## A call that is run once for each of two ranges of a capacity -/

/-- The second and the third argument, if they are not the first one's block. -/
def xsplit (R : List Value → Hp → Option (Value × Hp)) (args : List Value) (hp : Hp) : Option (Value × Hp) :=
  match args with
  | [.slice (some ⟨i, 0, none⟩) l c, x, .slice (some ⟨j, o, none⟩) m cm] =>
    bif Nat.ble unk c && Nat.beq (capHi c) 0 && !(Nat.beq i j) && Nat.ble (l + m) 67108864 then
      match hp.m.get i, hp.m.get j with
      | some bi, some bj =>
        match R [.slice (some ⟨i, 0, none⟩) l (mkCap (l + m) 0), x, .slice (some ⟨j, o, none⟩) m cm] ⟨(T.set .e i (some bi)).set j (some bj), hp.nx⟩,
            R [.slice (some ⟨i, 0, none⟩) l (mkCap l (l + m)), x, .slice (some ⟨j, o, none⟩) m cm] ⟨(T.set .e i (some bi)).set j (some bj), hp.nx⟩ with
        | some (.slice (some ⟨a, 0, none⟩) la ca, ha), some (.slice (some ⟨b, 0, none⟩) lb cb, hb) =>
          bif Nat.beq la lb && Nat.ble unk ca && Nat.ble unk cb then
            match ha.m.get a, hb.m.get b with
            | some (.cells c1 k1 e1 z1), some (.cells c2 k2 e2 z2) =>
              bif Nat.beq k1 k2 && Nat.beq e1 e2 && Nat.beq z1 z2 then
                match loadN c1 0 k1, loadN c2 0 k1 with
                | some v1, some v2 => bif allB (veq 100) v1 v2 then
                    some (.slice (some ⟨Nat.max ha.nx hb.nx, 0, none⟩) la (mkCap la 0),
                      ⟨((hp.m.set i none).set j none).set (Nat.max ha.nx hb.nx) (some (.cells c1 k1 e1 z1)), Nat.max ha.nx hb.nx + 1⟩)
                  else none
                | _, _ => none
              else none
            | _, _ => none
          else none
        | _, _ => none
      | _, _ => none
    else none
  | _ => none

def xbody (P : Program) (dr : Drawer) (call : Caller) (n : Nat) (f : FuncId) (args : List Value) (hp : Hp) : Option (Value × Hp) :=
  match P.funcs[f]? with
  | some fn => match fn.body with
    | some c => match xcode P dr call (args.length + (fn.ntmps - args.length)) n c (fill .e 0 args) hp with
      | some (.mk .normal tm' hp') => match xresults P tm' hp' fn.results.toList with
        | some vs => some (xpack vs, hp')
        | none => none
      | some (.mk .ret tm' hp') => match xresults P tm' hp' fn.results.toList with
        | some vs => some (xpack vs, hp')
        | none => none
      | _ => none
    | none => none
  | none => none

def xrunS (R : List Value → Hp → Option (Value × Hp)) (args : List Value) (hp : Hp) : Option (Value × Hp) :=
  match R args hp with
  | some r => some r
  | none => xsplit R args hp

def xrun (P : Program) (dr : Drawer) (ov : FuncId → Option TypeId) : Nat → FuncId → List Value → Hp → Option (Value × Hp)
  | 0, _, _, _ => none
  | n + 1, f, args, hp => xrunS (xbody P dr ⟨xrun P dr ov n, ov⟩ n f) args hp

section
variable {P : Program} {B : Nat → Prop} {w0 : World}

/-- One function's run is right. -/
def RunOK (P : Program) (f : FuncId) (R : List Value → Hp → Option (Value × Hp)) : Prop :=
  ∀ args hp v hp', R args hp = some (v, hp') → ∀ B w0 σ w args', VRL σ args args' → HR B w0 σ hp w →
    Calls P f args'.toArray w (fun e w' => ∃ σ' u, e = .returned u ∧ Sg.gr hp.nx hp'.nx σ σ' ∧ VR σ' v u ∧ HR B w0 σ' hp' w')

theorem xbody_sound {dr : Drawer} (hdr : DrawOK P dr) {call : Caller} (ih : CallOK P call) (n : Nat) (g : FuncId) : RunOK P g (xbody P dr call n g) := by
  intro args hp v hp' h B w0 σ w args' ha hw
  simp only [xbody] at h
  split at h
  · rename_i fn hfn
    split at h
    · rename_i c hc
      have fin : ∀ e tm1 hp1, (e = .normal ∨ e = .ret) → xcode P dr call (args.length + (fn.ntmps - args.length)) n c (fill .e 0 args) hp = some (.mk e tm1 hp1) →
          (match xresults P tm1 hp1 fn.results.toList with | some vs => some (xpack vs, hp1) | none => none) = some (v, hp') →
          Calls P g args'.toArray w (fun e w' => ∃ σ' u, e = .returned u ∧ Sg.gr hp.nx hp'.nx σ σ' ∧ VR σ' v u ∧ HR B w0 σ' hp' w') := by
        intro e tm1 hp1 he hx hr
        split at hr
        · rename_i vs hvs
          simp only [Option.some.injEq, Prod.mk.injEq] at hr
          obtain ⟨rfl, rfl⟩ := hr
          refine calls_of_wp hfn hc (wp_mono ((xcode_sound (B := B) (w0 := w0) ih hdr n).1 c _ hp e tm1 hp1 σ { tmps := args'.toArray ++ Array.replicate (fn.ntmps - args'.toArray.size) undef, defers := [] } w hx (TR.start ha fn.ntmps) hw rfl) fun e' a' w' hq => ?_)
          obtain ⟨rfl, hd, σ', hle, ht, hw'⟩ := hq
          obtain ⟨us, hu1, hu2⟩ := xresults_sound ht hw' hvs
          have hres : (results fn a'.tmps).run P w' = .ok (xpack us) w' := by
            have he : results fn a'.tmps = (do let vs ← fn.results.mapM (resOf a'.tmps); pure (if h : vs.size = 1 then vs[0] else .tuple vs) : Sem Value) := rfl
            rw [he, Array.mapM_eq_mapM_toList, Sem.run_bind, Sem.run_map, hu2]
            simp only [Result.andThen_ok, Sem.run_pure]
            congr 1
            cases us with
            | nil => rfl
            | cons x us => cases us <;> rfl
          have hvr : VR σ' (xpack vs) (xpack us) := by
            cases vs with
            | nil => rw [hu1.unnil]; exact VRL.to_tuple (VRL.nil σ')
            | cons x vs =>
              obtain ⟨y, us', rfl, hxy, hrest⟩ := hu1.uncons
              cases vs with
              | nil => rw [hrest.unnil]; exact hxy
              | cons x2 vs =>
                obtain ⟨y2, us2, rfl, _, _⟩ := hrest.uncons
                exact hu1.to_tuple
          rcases he with rfl | rfl
          · exact ⟨hd, _, hres, σ', _, rfl, hle, hvr, hw'⟩
          · exact ⟨hd, _, hres, σ', _, rfl, hle, hvr, hw'⟩
        · cases hr
      split at h
      · rename_i tm1 hp1 hx
        exact fin .normal tm1 hp1 (.inl rfl) hx h
      · rename_i tm1 hp1 hx
        exact fin .ret tm1 hp1 (.inr rfl) hx h
      · cases h
    · cases h
  · cases h

/-- What a run in the small memory of two blocks tells of the great one. -/
theorem small_join {σ σa : Sg} {hp ha : Hp} {w w' : World} {i j a N : Nat} {bi bj : Blk} {la ca : Nat} {c1 c2 : T Value} {k e z : Nat} {u : Value} (hw : HR B w0 σ hp w)
    (hgi : hp.m.get i = some bi) (hgj : hp.m.get j = some bj) (hr : HR (rest σ ⟨(T.set .e i (some bi)).set j (some bj), hp.nx⟩ w) w σa ha w') (gr : Sg.gr hp.nx ha.nx σ σa)
    (hv : VR σa (.slice (some ⟨a, 0, none⟩) la ca) u) (hca : unk ≤ ca) (hga : ha.m.get a = some (.cells c2 k e z)) (hc : ∀ x, x < k → c1.get x = c2.get x) (hN : ha.nx ≤ N) :
    ∃ σ', Sg.gr hp.nx (N + 1) σ σ' ∧ VR σ' (.slice (some ⟨N, 0, none⟩) la (mkCap la 0)) u ∧ HR B w0 σ' ⟨((hp.m.set i none).set j none).set N (some (.cells c1 k e z)), N + 1⟩ w' := by
  have small : ∀ x b, ((T.set .e i (some bi)).set j (some bj) : T Blk).get x = some b → (x = i ∨ x = j) ∧ hp.m.get x = some b := by
    intro x b hg
    rw [T.get_set] at hg
    by_cases hj : x = j
    · rw [if_pos hj] at hg
      simp only [Option.some.injEq] at hg
      subst hg; subst hj
      exact ⟨.inr rfl, hgj⟩
    · rw [if_neg hj, T.get_set] at hg
      by_cases hi : x = i
      · rw [if_pos hi] at hg
        simp only [Option.some.injEq] at hg
        subst hg; subst hi
        exact ⟨.inl rfl, hgi⟩
      · rw [if_neg hi] at hg
        simp [T.get_e] at hg
  have hws : HR B w0 σ ⟨(T.set .e i (some bi)).set j (some bj), hp.nx⟩ w := hw.less (fun x b hg => (small x b hg).2)
  have hb := hws.back hr
  cases hv with
  | slice _ _ p _ _ c' hpa hcc hll =>
  have hfn : σa N = none := hb.fresh N hN
  have hle := Sg.le_ext (σ := σa) (i := N) p hfn
  have hnx := gr.nx
  obtain ⟨p', o, l1, l2, l3, l4⟩ := hb.live a _ hga
  have : p' = p := Option.some.inj (l1.symm.trans hpa)
  subst this
  obtain ⟨q', o', r1, r2, r3, _⟩ := hr.live a _ hga
  have : q' = p' := Option.some.inj (r1.symm.trans hpa)
  subst this
  have old : ∀ x b, x ≠ N → ((((hp.m.set i none).set j none).set N (some (.cells c1 k e z))) : T Blk).get x = some b → hp.m.get x = some b ∧ ∃ q o, σ x = some q ∧ ¬ B q.blk ∧ w.heap[q.blk]? = some o ∧ BR σ q b o ∧ rest σ ⟨(T.set .e i (some bi)).set j (some bj), hp.nx⟩ w q.blk := by
    intro x b hxN hg
    rw [T.get_set, if_neg hxN, T.get_set] at hg
    by_cases hj : x = j
    · rw [if_pos hj] at hg; cases hg
    · rw [if_neg hj, T.get_set] at hg
      by_cases hi : x = i
      · rw [if_pos hi] at hg; cases hg
      · rw [if_neg hi] at hg
        obtain ⟨q, o, h1, h2, h3, h4⟩ := hw.live x b hg
        refine ⟨hg, q, o, h1, h2, h3, h4, (Array.getElem?_eq_some_iff.1 h3).1, fun y b' q' hy hq' => ?_⟩
        obtain ⟨hyij, hgy⟩ := small y b' hy
        have hyx : y ≠ x := by rintro rfl; rcases hyij with rfl | rfl <;> contradiction
        exact hw.inj y x _ _ q' q hgy hg hyx hq' h1
  refine ⟨σa.ext N q', ⟨Sg.le_trans gr.le hle, fun x hx => (Sg.ext_other _ _ _ (by omega)).trans (gr.low x hx), by omega⟩, ?_, ?_⟩
  · have := VR.slice (σ := σa.ext N q') N 0 q' la (mkCap la 0) c' (Sg.ext_same _ _ _) (.inr ⟨mkCap_ge _ _, by rw [mkCap_lo unk_pos]; exact hll, .inl (mkCap_hi unk_pos), by
      rcases hcc with ⟨_, h⟩ | ⟨_, _, _, h⟩
      · omega
      · exact h⟩) hll
    exact this
  · refine ⟨hb.os, hb.tape, hb.output, hb.size, hb.old, hb.kept, fun x hx => (Sg.ext_other _ _ _ (by have : N + 1 ≤ x := hx; omega)).trans (hb.fresh x (by have : N + 1 ≤ x := hx; omega)), ?_, ?_⟩
    · intro x b hg
      by_cases hx : x = N
      · subst hx
        rw [T.get_set, if_pos rfl] at hg
        simp only [Option.some.injEq] at hg
        subst hg
        obtain ⟨C, e1, e2, e3, e4, e5⟩ := l4
        refine ⟨q', o, Sg.ext_same _ _ _, l2, l3, C, e1, e2, e3, e4, fun y hy => ?_⟩
        obtain ⟨v, u, a1, a2, a3⟩ := e5 y hy
        exact ⟨v, u, (hc y hy).trans a1, a2, a3.mono hle⟩
      · obtain ⟨hg', q, o, h1, h2, h3, h4, h5⟩ := old x b hx hg
        exact ⟨q, o, hle _ _ (gr.le _ _ h1), h2, (hr.kept _ h5).trans h3, h4.mono (Sg.le_trans gr.le hle)⟩
    · intro x y b1 b2 p1 p2 hx hy hne hp1 hp2
      by_cases hxN : x = N
      · subst hxN
        have hyN : y ≠ x := Ne.symm hne
        obtain ⟨_, q, o, h1, _, _, _, h5⟩ := old y b2 hyN hy
        have e1 : p1 = q' := Option.some.inj (hp1.symm.trans (Sg.ext_same _ _ _))
        have e2 : p2 = q := Option.some.inj (hp2.symm.trans (hle _ _ (gr.le _ _ h1)))
        subst e1; subst e2
        exact fun heq => r2 (heq ▸ h5)
      · obtain ⟨hgx, q, o, h1, _, _, _, h5⟩ := old x b1 hxN hx
        have e1 : p1 = q := Option.some.inj (hp1.symm.trans (hle _ _ (gr.le _ _ h1)))
        subst e1
        by_cases hyN : y = N
        · subst hyN
          have e2 : p2 = q' := Option.some.inj (hp2.symm.trans (Sg.ext_same _ _ _))
          subst e2
          exact fun heq => r2 (heq ▸ h5)
        · obtain ⟨hgy, q2, o2, m1, _⟩ := old y b2 hyN hy
          have e2 : p2 = q2 := Option.some.inj (hp2.symm.trans (hle _ _ (gr.le _ _ m1)))
          subst e2
          exact hw.inj x y _ _ _ _ hgx hgy hne h1 m1

theorem xsplit_sound {f : FuncId} {R : List Value → Hp → Option (Value × Hp)} (hR : RunOK P f R) : RunOK P f (xsplit R) := by
  intro args hp v hp' h B w0 σ w args' hargs hw
  unfold xsplit at h
  split at h
  case h_2 => cases h
  rename_i i l c x j o m cm
  cases hb : Nat.ble unk c && Nat.beq (capHi c) 0 && !(Nat.beq i j) && Nat.ble (l + m) 67108864 with
  | false => rw [hb] at h; cases h
  | true =>
  rw [hb, cond_true] at h
  simp only [Bool.and_eq_true] at hb
  obtain ⟨⟨⟨b1, b2⟩, b3⟩, b4⟩ := hb
  have b1 := Nat.le_of_ble_eq_true b1
  have b4 := Nat.le_of_ble_eq_true b4
  split at h
  case h_2 => cases h
  rename_i bi bj hgi hgj
  split at h
  case h_2 => cases h
  rename_i a la ca ha b lb cb hbb hA hB
  cases hb2 : Nat.beq la lb && Nat.ble unk ca && Nat.ble unk cb with
  | false => rw [hb2] at h; cases h
  | true =>
  rw [hb2, cond_true] at h
  simp only [Bool.and_eq_true] at hb2
  have d1 := Nat.eq_of_beq_eq_true hb2.1.1
  have d2 := Nat.le_of_ble_eq_true hb2.1.2
  have d3 := Nat.le_of_ble_eq_true hb2.2
  subst d1
  split at h
  case h_2 => cases h
  rename_i c1 k1 e1 z1 c2 k2 e2 z2 hga hgb
  cases hb3 : Nat.beq k1 k2 && Nat.beq e1 e2 && Nat.beq z1 z2 with
  | false => rw [hb3] at h; cases h
  | true =>
  rw [hb3, cond_true] at h
  simp only [Bool.and_eq_true] at hb3
  have f1 := Nat.eq_of_beq_eq_true hb3.1.1
  have f2 := Nat.eq_of_beq_eq_true hb3.1.2
  have f3 := Nat.eq_of_beq_eq_true hb3.2
  subst f1; subst f2; subst f3
  split at h
  case h_2 => cases h
  rename_i v1 v2 hl1 hl2
  cases hveq : allB (veq 100) v1 v2 with
  | false => rw [hveq] at h; cases h
  | true =>
  rw [hveq, cond_true] at h
  simp only [Option.some.injEq, Prod.mk.injEq] at h
  obtain ⟨rfl, rfl⟩ := h
  have hvv := allB_eq (veq_eq 100) hveq
  subst hvv
  have hsame : ∀ x, x < k1 → c1.get x = c2.get x := by
    intro x hx
    have g1 := (loadN_get hl1).2 x hx
    have g2 := (loadN_get hl2).2 x hx
    rw [Nat.zero_add] at g1 g2
    rw [← g1, ← g2]
  have small : ∀ x b, ((T.set .e i (some bi)).set j (some bj) : T Blk).get x = some b → hp.m.get x = some b := by
    intro x b hg
    rw [T.get_set] at hg
    by_cases hj : x = j
    · rw [if_pos hj] at hg
      simp only [Option.some.injEq] at hg
      subst hg; subst hj
      exact hgj
    · rw [if_neg hj, T.get_set] at hg
      by_cases hi : x = i
      · rw [if_pos hi] at hg
        simp only [Option.some.injEq] at hg
        subst hg; subst hi
        exact hgi
      · rw [if_neg hi] at hg
        simp [T.get_e] at hg
  have hmax := (hw.less small).max
  obtain ⟨s', r, rfl, hs, hrest⟩ := hargs.uncons
  cases hs with
  | slice _ _ p _ _ c' hpi hcc hll =>
  obtain ⟨hclo, hbnd⟩ : capLo c ≤ c' ∧ p.dl + 0 + c' * p.esz ≤ p.siz := by
    rcases hcc with ⟨_, h⟩ | ⟨_, h2, _, h4⟩
    · omega
    · exact ⟨h2, h4⟩
  have hlu : l + m < unk := by unfold unk; omega
  by_cases hroom : l + m ≤ c'
  · have hv' : VR σ (.slice (some ⟨i, 0, none⟩) l (mkCap (l + m) 0)) (.slice (some ⟨p.blk, p.dl + 0, none⟩) l c') :=
      .slice i 0 p l _ c' hpi (.inr ⟨mkCap_ge _ _, by rw [mkCap_lo unk_pos]; exact hroom, .inl (mkCap_hi unk_pos), hbnd⟩) hll
    refine (hR _ _ _ _ hA _ _ _ _ _ (VRL.cons hv' hrest) hmax).mono fun e w' he => ?_
    obtain ⟨σa, u, rfl, gr, hvu, hwa⟩ := he
    obtain ⟨σ', q1, q2, q3⟩ := small_join (c1 := c1) (N := Nat.max ha.nx hbb.nx) hw hgi hgj hwa gr hvu d2 hga (fun _ _ => rfl) (Nat.le_max_left _ _)
    exact ⟨σ', u, rfl, q1, q2, q3⟩
  · have hv' : VR σ (.slice (some ⟨i, 0, none⟩) l (mkCap l (l + m))) (.slice (some ⟨p.blk, p.dl + 0, none⟩) l c') :=
      .slice i 0 p l _ c' hpi (.inr ⟨mkCap_ge _ _, by rw [mkCap_lo hlu]; exact hll, .inr (by rw [mkCap_hi hlu]; omega), hbnd⟩) hll
    refine (hR _ _ _ _ hB _ _ _ _ _ (VRL.cons hv' hrest) hmax).mono fun e w' he => ?_
    obtain ⟨σa, u, rfl, gr, hvu, hwa⟩ := he
    obtain ⟨σ', q1, q2, q3⟩ := small_join (c1 := c1) (N := Nat.max ha.nx hbb.nx) hw hgi hgj hwa gr hvu d3 hgb hsame (Nat.le_max_right _ _)
    exact ⟨σ', u, rfl, q1, q2, q3⟩

theorem xrun_sound {dr : Drawer} (hdr : DrawOK P dr) {ov : FuncId → Option TypeId} (hov : ∀ g t, ov g = some t → OvOK P g t) : ∀ n, CallOK P ⟨xrun P dr ov n, ov⟩ := by
  intro n
  induction n with
  | zero => exact ⟨fun g args hp v hp' h => by simp [xrun] at h, hov⟩
  | succ n ih =>
    refine ⟨fun g args hp v hp' h => ?_, hov⟩
    simp only [xrun, xrunS] at h
    split at h
    · rename_i r hr
      simp only [Option.some.injEq] at h
      subst h
      exact xbody_sound hdr ih n g args hp v hp' hr
    · exact xsplit_sound (xbody_sound hdr ih n g) args hp v hp' h
end
end Go.Xe
