/- The executor, part 21: a call that is proved apart, from a small memory, and is taken as it is in a great one.
  Conditions: none. -/
import Derived.Test.YtbdbkggaadbhoaaGreatXe20
noncomputable section
namespace Go.Xe
open Go.RowKit

section
variable {P : Program} {B : Nat → Prop} {w0 : World}

/-- What a run in a small memory tells of the great one. -/
theorem HR.frame {σ σa : Sg} {hp s s' b' : Hp} {w w' : World} (hw : HR B w0 σ hp w) (hsub : ∀ i b, s.m.get i = some b → ∃ c, hp.m.get i = some c) (hr : HR (rest σ s w) w σa s' w') (gr : Sg.gr s.nx s'.nx σ σa)
    (hbig : ∀ i b, b'.m.get i = some b → s'.m.get i = some b ∨ (s.m.get i = none ∧ hp.m.get i = some b)) (hnx : b'.nx = s'.nx) : HR B w0 σa b' w' := by
  have sub : ∀ k, B k → rest σ s w k := by
    intro k hk
    refine ⟨by have := hw.old k hk; have := hw.size; omega, fun i b p hg hp1 he => ?_⟩
    obtain ⟨c, hc⟩ := hsub i b hg
    obtain ⟨p', o, h1, h3, _⟩ := hw.live i c hc
    have : p' = p := Option.some.inj (h1.symm.trans hp1)
    subst this
    exact h3 (he ▸ hk)
  have old : ∀ i b, s.m.get i = none → hp.m.get i = some b → ∃ q o, σ i = some q ∧ ¬ B q.blk ∧ w.heap[q.blk]? = some o ∧ BR σ q b o ∧ rest σ s w q.blk := by
    intro i b hn hg
    obtain ⟨q, o, h1, h2, h3, h4⟩ := hw.live i b hg
    refine ⟨q, o, h1, h2, h3, h4, (Array.getElem?_eq_some_iff.1 h3).1, fun j c p hj hp1 => ?_⟩
    obtain ⟨c', hc'⟩ := hsub j c hj
    exact hw.inj j i _ _ p q hc' hg (fun e => by rw [e, hn] at hj; cases hj) hp1 h1
  refine ⟨hr.os.trans hw.os, hr.tape.trans hw.tape, hr.output.trans hw.output, Nat.le_trans hw.size hr.size, hw.old, fun k hk => (hr.kept k (sub k hk)).trans (hw.kept k hk), fun i hi => hr.fresh i (by rw [← hnx]; exact hi), ?_, ?_⟩
  · intro i b hg
    rcases hbig i b hg with h | ⟨hn, h⟩
    · obtain ⟨p, o, h1, h2, h3, h4⟩ := hr.live i b h
      exact ⟨p, o, h1, fun hB => h2 (sub _ hB), h3, h4⟩
    · obtain ⟨q, o, h1, h2, h3, h4, h5⟩ := old i b hn h
      exact ⟨q, o, gr.le _ _ h1, h2, (hr.kept _ h5).trans h3, h4.mono gr.le⟩
  · intro i j b c p q hi hj hne hp1 hq1
    rcases hbig i b hi with h | ⟨hn, h⟩
    · rcases hbig j c hj with k | ⟨kn, k⟩
      · exact hr.inj i j b c p q h k hne hp1 hq1
      · obtain ⟨q', o, h1, _, _, _, h5⟩ := old j c kn k
        have : q' = q := Option.some.inj ((gr.le _ _ h1).symm.trans hq1)
        subst this
        obtain ⟨p', o', r1, r2, _⟩ := hr.live i b h
        have : p' = p := Option.some.inj (r1.symm.trans hp1)
        subst this
        exact fun e => r2 (e ▸ h5)
    · obtain ⟨p', o, h1, _, _, _, h5⟩ := old i b hn h
      have : p' = p := Option.some.inj ((gr.le _ _ h1).symm.trans hp1)
      subst this
      rcases hbig j c hj with k | ⟨kn, k⟩
      · obtain ⟨q', o', r1, r2, _⟩ := hr.live j c k
        have : q' = q := Option.some.inj (r1.symm.trans hq1)
        subst this
        exact fun e => r2 (e ▸ h5)
      · obtain ⟨q', o', k1, _, _, _, _⟩ := old j c kn k
        have : q' = q := Option.some.inj ((gr.le _ _ k1).symm.trans hq1)
        subst this
        exact hw.inj i j b c p' q' h k hne h1 k1

/-- A call proved apart: from the state s (whose temporaries are the arguments) to the state s' (whose temporary 0 is the result). -/
def Summ (P : Program) (f : FuncId) (s s' : St) : Prop :=
  ∀ B w0 σ w args', VRL σ s.tms args' → HR B w0 σ s.hp w →
    Calls P f args'.toArray w (fun e w' => ∃ σ' u v, s'.tms = [v] ∧ e = .returned u ∧ Sg.gr s.hp.nx s'.hp.nx σ σ' ∧ VR σ' v u ∧ HR B w0 σ' s'.hp w')

def mergeB (m : T Blk) : Nat → List Bl → List Bl → T Blk
  | _, _, [] => m
  | k, [], c :: cs => mergeB (m.set k c.blk) (k + 1) [] cs
  | k, .gone :: bs, _ :: cs => mergeB m (k + 1) bs cs
  | k, _ :: bs, c :: cs => mergeB (m.set k c.blk) (k + 1) bs cs

theorem mergeB_get : ∀ (cs bs : List Bl) (m : T Blk) (k i : Nat) (b : Blk), (mergeB m k bs cs).get i = some b → bs.length ≤ cs.length →
    (k ≤ i ∧ ∃ c, cs[i - k]? = some c ∧ c.blk = some b) ∨ (m.get i = some b ∧ (i < k ∨ (bs[i - k]?).bind Bl.blk = none))
  | [], [], m, k, i, b, h, _ => .inr ⟨h, .inr (by simp)⟩
  | [], _ :: _, _, _, _, _, _, hl => by simp at hl
  | c :: cs, [], m, k, i, b, h, _ => by
    rcases mergeB_get cs [] (m.set k c.blk) (k + 1) i b (by simpa [mergeB] using h) (by simp) with ⟨h1, c', h2, h3⟩ | ⟨h1, h2⟩
    · refine .inl ⟨by omega, c', ?_, h3⟩
      rw [show i - k = (i - (k + 1)) + 1 by omega, List.getElem?_cons_succ]; exact h2
    · rw [T.get_set] at h1
      by_cases hik : i = k
      · subst hik
        rw [if_pos rfl] at h1
        exact .inl ⟨Nat.le_refl _, c, by simp, h1⟩
      · rw [if_neg hik] at h1
        exact .inr ⟨h1, .inr (by simp)⟩
  | c :: cs, x :: bs, m, k, i, b, h, hl => by
    have hl' : bs.length ≤ cs.length := by simpa using hl
    have next : ∀ (m2 : T Blk), (mergeB m2 (k + 1) bs cs).get i = some b → (m2.get i = some b → i = k → c.blk = some b ∨ (m.get i = some b ∧ x.blk = none)) → (i ≠ k → m2.get i = m.get i) →
        (k ≤ i ∧ ∃ c', (c :: cs)[i - k]? = some c' ∧ c'.blk = some b) ∨ (m.get i = some b ∧ (i < k ∨ ((x :: bs)[i - k]?).bind Bl.blk = none)) := by
      intro m2 h hk hn
      rcases mergeB_get cs bs m2 (k + 1) i b h hl' with ⟨h1, c', h2, h3⟩ | ⟨h1, h2⟩
      · refine .inl ⟨by omega, c', ?_, h3⟩
        rw [show i - k = (i - (k + 1)) + 1 by omega, List.getElem?_cons_succ]; exact h2
      · by_cases hik : i = k
        · rcases hk h1 hik with h4 | ⟨h4, h5⟩
          · subst hik; exact .inl ⟨Nat.le_refl _, c, by simp, h4⟩
          · subst hik; exact .inr ⟨h4, .inr (by simpa using h5)⟩
        · rw [hn hik] at h1
          refine .inr ⟨h1, ?_⟩
          rcases h2 with h2 | h2
          · exact .inl (by omega)
          · by_cases hlt : i < k
            · exact .inl hlt
            · right
              rw [show i - k = (i - (k + 1)) + 1 by omega, List.getElem?_cons_succ]; exact h2
    cases x with
    | gone => exact next m (by simpa [mergeB] using h) (fun h1 _ => .inr ⟨h1, rfl⟩) (fun _ => rfl)
    | cells n vs e z =>
      exact next (m.set k c.blk) (by simpa [mergeB] using h) (fun h1 hik => by rw [T.get_set, if_pos hik] at h1; exact .inl h1) (fun hik => by rw [T.get_set, if_neg hik])
    | map es reg =>
      exact next (m.set k c.blk) (by simpa [mergeB] using h) (fun h1 hik => by rw [T.get_set, if_pos hik] at h1; exact .inl h1) (fun hik => by rw [T.get_set, if_neg hik])

/-- The numbers before n. -/
def upTo : Nat → Nat → List Nat
  | _, 0 => []
  | k, n + 1 => k :: upTo (k + 1) n
theorem upTo_get : ∀ {n k i : Nat}, (upTo k n)[i]? = if i < n then some (k + i) else none
  | 0, k, i => by simp [upTo]
  | n + 1, k, i => by
    cases i with
    | zero => simp [upTo]
    | succ i =>
      rw [upTo, List.getElem?_cons_succ, upTo_get]
      by_cases h : i < n
      · rw [if_pos h, if_pos (by omega)]; congr 1; omega
      · rw [if_neg h, if_neg (by omega)]

/-- With a call that was proved apart. -/
def withSumm (call : Caller) (f : FuncId) (s s' : St) : Caller :=
  ⟨fun g xs hp => bif Nat.beq g f && Nat.beq hp.nx s.bls.length && Nat.beq xs.length s.tms.length && Nat.ble s.bls.length s'.bls.length then
      (bif weakB (upTo 0 s.bls.length) s.tms.length (fill .e 0 xs) hp s then match s'.tms with
        | [v] => some (v, ⟨mergeB hp.m 0 s.bls s'.bls, s'.bls.length⟩)
        | _ => call.run g xs hp
      else call.run g xs hp)
    else call.run g xs hp, call.ov, call.round⟩

theorem withSumm_ok {call : Caller} (hc : CallOK P call) {f : FuncId} {s s' : St} (hs : Summ P f s s') : CallOK P (withSumm call f s s') := by
  refine ⟨fun g xs hp v hp' h B w0 σ w ys hv hw => ?_, hc.ov, hc.round⟩
  simp only [withSumm] at h
  cases hb : Nat.beq g f && Nat.beq hp.nx s.bls.length && Nat.beq xs.length s.tms.length && Nat.ble s.bls.length s'.bls.length with
  | false => rw [hb, cond_false] at h; exact hc.run g xs hp v hp' h B w0 σ w ys hv hw
  | true =>
    rw [hb, cond_true] at h
    simp only [Bool.and_eq_true] at hb
    obtain ⟨⟨⟨b1, b2⟩, b3⟩, b4⟩ := hb
    have b1 := Nat.eq_of_beq_eq_true b1
    have b2 := Nat.eq_of_beq_eq_true b2
    have b3 := Nat.eq_of_beq_eq_true b3
    have b4 := Nat.le_of_ble_eq_true b4
    cases hwk : weakB (upTo 0 s.bls.length) s.tms.length (fill .e 0 xs) hp s with
    | false => rw [hwk, cond_false] at h; exact hc.run g xs hp v hp' h B w0 σ w ys hv hw
    | true =>
      rw [hwk, cond_true] at h
      split at h
      · rename_i v0 hv0
        simp only [Option.some.injEq, Prod.mk.injEq] at h
        obtain ⟨rfl, rfl⟩ := h
        have ht : TR σ s.tms.length (fill .e 0 xs) ys.toArray := by
          have := TR.start hv xs.length
          have e : xs.length + (xs.length - xs.length) = s.tms.length := by omega
          rw [e] at this
          have e2 : ys.toArray ++ Array.replicate (xs.length - ys.toArray.size) undef = ys.toArray := by
            have : xs.length - ys.toArray.size = 0 := by have := hv.1; simp; omega
            rw [this]; simp
          rw [e2] at this
          exact this
        obtain ⟨σ1, e1, t1, w1⟩ := weakB_ok hwk ht hw.max
        have hσ : σ1 = σ := by
          rw [e1]
          funext i
          rw [upTo_get]
          by_cases hi : i < s.bls.length
          · rw [if_pos hi, Nat.zero_add]; rfl
          · rw [if_neg hi]
            exact (hw.fresh i (by omega)).symm
        subst hσ
        have hv1 : VRL σ1 s.tms ys := by
          refine ⟨by rw [← b3]; exact hv.1, fun i x y hx hy => ?_⟩
          have := t1.at_ i
          unfold St.tm at this
          rw [fill_get, hx, Option.getD_some] at this
          have hy' : ys.toArray.getD i undef = y := by simp [hy]
          rw [hy'] at this
          exact this
        have hsub : ∀ i b, s.hp.m.get i = some b → ∃ c, hp.m.get i = some c := by
          intro i b hg
          have hwk2 := hwk
          unfold weakB at hwk2
          rw [T.force_eq] at hwk2
          simp only [Bool.and_eq_true] at hwk2
          obtain ⟨_, _, h4⟩ := hwk2
          obtain ⟨_, b5⟩ := blsB_get h4
          have hg : (fillB .e 0 s.bls).get i = some b := hg
          rw [get_fillB] at hg
          by_cases hi : i < s.bls.length
          · rw [if_pos (by omega), Nat.sub_zero, Option.bind_eq_some_iff] at hg
            obtain ⟨x, hx, hxb⟩ := hg
            obtain ⟨j, hj, hjb⟩ := b5 i x hx
            rw [upTo_get, if_pos hi, Nat.zero_add] at hj
            cases hj
            cases hy : hp.m.get i with
            | none => rw [hy] at hjb; cases x with
              | gone => cases hxb
              | _ => cases hjb
            | some y => exact ⟨y, rfl⟩
          · rw [if_neg (by omega), T.get_e] at hg; cases hg
        have hsm := w1.max
        subst b1
        refine (hs (rest σ1 s.hp w) w σ1 w ys hv1 hsm).mono fun e w' he => ?_
        obtain ⟨σ', u, v1, q0, rfl, q1, q2, q3⟩ := he
        rw [hv0] at q0
        cases q0
        refine ⟨σ', u, rfl, ?_, q2, ?_⟩
        · exact ⟨q1.le, fun i hi => q1.low i (by show i < s.bls.length; omega), by have := q1.nx; show hp.nx ≤ s'.bls.length; omega⟩
        · refine hw.frame hsub q3 q1 (b' := ⟨mergeB hp.m 0 s.bls s'.bls, s'.bls.length⟩) (fun i b hg => ?_) rfl
          rcases mergeB_get s'.bls s.bls hp.m 0 i b hg b4 with ⟨_, c, h2, h3⟩ | ⟨h1, h2⟩
          · left
            show (fillB .e 0 s'.bls).get i = some b
            rw [Nat.sub_zero] at h2
            have hi : i < s'.bls.length := (List.getElem?_eq_some_iff.1 h2).1
            rw [get_fillB, if_pos (by omega), Nat.sub_zero, h2]
            exact h3
          · right
            refine ⟨?_, h1⟩
            rcases h2 with h2 | h2
            · exact absurd h2 (Nat.not_lt_zero i)
            · show (fillB .e 0 s.bls).get i = none
              rw [Nat.sub_zero] at h2
              rw [get_fillB]
              by_cases hi : i < s.bls.length
              · rw [if_pos (by omega), Nat.sub_zero]; exact h2
              · rw [if_neg (by omega), T.get_e]
      · exact hc.run g xs hp v hp' h B w0 σ w ys hv hw

/-- A call proved apart, by pieces. -/
theorem summ_of_pieces {call : Caller} {dr : Drawer} (hcall : CallOK P call) (hdr : DrawOK P dr) {f k m nt : Nat} {s0 s s' : St} {l : List Nat} (hs : (P.funcs[f]?).isSome = true) (hb : (fnAt P f).body.isSome = true) (hn : s0.tms.length + (ntOf P f - s0.tms.length) = nt)
    (h1 : Runs P nt s0.bls.length ((partsOf P f).take k) s0.tm s0.hp .normal s.tm s.hp) (h2 : retB P dr call nt s0.bls.length m ((partsOf P f).drop k) s (resOf' P f) l s' = true) (h3 : Nat.ble s0.bls.length s'.bls.length = true) (h4 : Nat.beq s'.tms.length 1 = true) : Summ P f s0 s' := by
  intro B w0 σ w args' hv hw
  have hfn : P.funcs[f]? = some (fnAt P f) := by
    unfold fnAt
    cases h : P.funcs[f]? with
    | none => rw [h] at hs; cases hs
    | some fn => rfl
  generalize hF : fnAt P f = fn at hfn hb
  cases hc : fn.body with
  | none => rw [hc] at hb; cases hb
  | some c =>
    have hparts : partsOf P f = flat c := by unfold partsOf; rw [hF, hc]
    have hnt : ntOf P f = fn.ntmps := by unfold ntOf; rw [hF]
    have hrs : resOf' P f = fn.results.toList := by unfold resOf'; rw [hF]
    rw [hparts] at h1
    rw [hparts, hrs] at h2
    rw [hnt] at hn
    unfold retB at h2
    simp only [Bool.and_eq_true] at h2
    obtain ⟨⟨p1, p2⟩, h2⟩ := h2
    have key : ∀ e tm hp vs, (e = .normal ∨ e = .ret) → xlist P dr call nt m ((flat c).drop k) s.tm s.hp = some (.mk e tm hp []) → xresults P tm hp fn.results.toList = some vs → weakB l 1 (fill .e 0 [xpack vs]) hp s' = true →
        Calls P f args'.toArray w (fun e w' => ∃ σ' u v, s'.tms = [v] ∧ e = .returned u ∧ Sg.gr s0.hp.nx s'.hp.nx σ σ' ∧ VR σ' v u ∧ HR B w0 σ' s'.hp w') := by
      intro e tm hp vs he hx hr hwk
      have hall := h1.append (xlist_runs hcall hdr _ hx (Nat.le_of_ble_eq_true p2))
      rw [List.take_append_drop] at hall
      have h0 := TR.start hv fn.ntmps
      rw [hn] at h0
      refine callsIn_wide.1 (callsIn_of_wp (n := 0) hfn hc trivial (wpIn_mono (F := RF none) (wp_of_flat (fun l a w h => by rcases he with rfl | rfl <;> cases h.1) (hall B w0 σ { tmps := args'.toArray ++ Array.replicate (fn.ntmps - args'.toArray.size) undef, defers := [] } w h0 hw rfl)) fun e' a' w' hq => ?_))
      obtain ⟨rfl, hd, σ', hl, ht, hw'⟩ := hq
      obtain ⟨us, hu1, hu2⟩ := xresults_sound ht hw' hr
      obtain ⟨r1, r2⟩ := results_run hu1 hu2
      have t1 : TR σ' 1 (fill .e 0 [xpack vs]) #[xpack us] := by
        have := TR.start (VRL.cons r2 (VRL.nil σ')) 1
        simpa using this
      obtain ⟨σ1, rfl, t2, w2⟩ := weakB_ok hwk t1 hw'
      have hlen : s'.tms.length = 1 := Nat.eq_of_beq_eq_true h4
      match hst : s'.tms, hlen with
      | [v], _ =>
      have hvu : VR (fun i => (l[i]?).bind σ') v (xpack us) := by
        have := t2.at_ 0
        unfold St.tm at this
        rw [fill_get, hst] at this
        simpa using this
      have hlow : ∀ i, i < s0.bls.length → (l[i]?).bind σ' = σ i := by
        intro i hi
        rw [preB_get p1 i hi, Nat.zero_add]
        exact hl i hi
      have gr : Sg.gr s0.hp.nx s'.hp.nx σ (fun i => (l[i]?).bind σ') := by
        refine ⟨fun i p hip => ?_, fun i hi => hlow i hi, Nat.le_of_ble_eq_true h3⟩
        have hi : i < s0.bls.length := by
          apply Classical.byContradiction
          intro hge
          have := hw.fresh i (by show s0.bls.length ≤ i; omega)
          rw [this] at hip; cases hip
        exact (hlow i hi).trans hip
      rcases he with rfl | rfl
      · exact ⟨hd, _, r1, _, _, v, rfl, rfl, gr, hvu, w2⟩
      · exact ⟨hd, _, r1, _, _, v, rfl, rfl, gr, hvu, w2⟩
    split at h2
    · rename_i tm hp hx
      split at h2
      · rename_i vs hr
        exact key .normal tm hp vs (.inl rfl) hx hr h2
      · cases h2
    · rename_i tm hp hx
      split at h2
      · rename_i vs hr
        exact key .ret tm hp vs (.inr rfl) hx hr h2
      · cases h2
    · cases h2
end
end Go.Xe
