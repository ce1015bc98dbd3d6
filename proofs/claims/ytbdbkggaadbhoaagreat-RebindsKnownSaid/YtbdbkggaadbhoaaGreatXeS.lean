/- The executor, part S: calls, and calls that are run once for each of two ranges of a capacity.
  Conditions: none. -/
import Derived.Test.YtbdbkggaadbhoaaGreatXe12
noncomputable section
namespace Go.Xe
open Go.RowKit

/-! ## A call that is run once for each of two ranges of a capacity -/

/-- The second and the third argument, if they are not the first one's block. -/
def xsplit (R : List Value → Hp → Option (Value × Hp)) (args : List Value) (hp : Hp) : Option (Value × Hp) :=
  match args with
  | [.slice (some ⟨i, 0, none⟩) l c, x, .slice (some ⟨j, o, none⟩) m cm] =>
    bif Nat.ble unk c && Nat.beq (capHi c) 0 && !(Nat.beq i j) && Nat.ble (l + m) 67108864 then
      match hp.m.get i, hp.m.get j with
      | some bi, some bj =>
        match R [.slice (some ⟨i, 0, none⟩) l (mkCap (l + m) 0), x, .slice (some ⟨j, o, none⟩) m cm] ⟨(T.set .e i (some bi)).set j (some bj), hp.nx⟩,
            R [.slice (some ⟨i, 0, none⟩) l (mkCap l (l + m)), x, .slice (some ⟨j, o, none⟩) m cm] ⟨(T.set .e i (some bi)).set j (some bj), hp.nx⟩ with
        | some (.slice (some ⟨a, 0, none⟩) la ca, ha), some (.slice (some ⟨b, 0, none⟩) lb cb, hb) =>
          bif Nat.beq la lb && Nat.ble unk ca && Nat.ble unk cb then
            match ha.m.get a, hb.m.get b with
            | some (.cells c1 k1 e1 z1), some (.cells c2 k2 e2 z2) =>
              bif Nat.beq k1 k2 && Nat.beq e1 e2 && Nat.beq z1 z2 then
                match loadN c1 0 k1, loadN c2 0 k1 with
                | some v1, some v2 => bif allB (veq 100) v1 v2 then
                    some (.slice (some ⟨Nat.max ha.nx hb.nx, 0, none⟩) la (mkCap la 0),
                      ⟨((hp.m.set i none).set j none).set (Nat.max ha.nx hb.nx) (some (.cells c1 k1 e1 z1)), Nat.max ha.nx hb.nx + 1⟩)
                  else none
                | _, _ => none
              else none
            | _, _ => none
          else none
        | _, _ => none
      | _, _ => none
    else none
  | _ => none

/-- The deferred calls, at the end of a call. -/
def xleave (P : Program) (runD : FuncId → List Value → Hp → Option (Value × Hp)) : List Df → Hp → Option Hp
  | [], hp => some hp
  | .mark r :: ds, hp => match hp.m.get r with
    | some .dfr => xleave P runD ds { hp with m := hp.m.set r none }
    | _ => none
  | .call g args cap :: ds, hp => match P.funcs[g]? with
    | some fn => bif okFn fn then
        match runD g (args ++ cap) hp with
        | some (_, hp') => xleave P runD ds hp'
        | none => none
      else none
    | none => none

def xfin (P : Program) (fn : Func) (runD : FuncId → List Value → Hp → Option (Value × Hp)) (tm : T Value) (hp : Hp) (ds : List Df) : Option (Value × Hp) :=
  match xleave P runD ds hp with
  | some hp' => match xresults P tm hp' fn.results.toList with
    | some vs => some (xpack vs, hp')
    | none => none
  | none => none

def xbody (P : Program) (dr : Drawer) (call : Caller) (runD : FuncId → List Value → Hp → Option (Value × Hp)) (n : Nat) (f : FuncId) (args : List Value) (hp : Hp) : Option (Value × Hp) :=
  match P.funcs[f]? with
  | some fn => match fn.body with
    | some c => match xcode P dr call (args.length + (fn.ntmps - args.length)) none n c (fill .e 0 args) hp [] with
      | some (.mk .normal tm' hp' ds) => xfin P fn runD tm' hp' ds
      | some (.mk .ret tm' hp' ds) => xfin P fn runD tm' hp' ds
      | _ => none
    | none => none
  | none => none

/-- A call that was deferred, of a function that defers nothing. -/
def xbodyD (P : Program) (dr : Drawer) (call : Caller) (n : Nat) (f : FuncId) (args : List Value) (hp : Hp) : Option (Value × Hp) :=
  match P.funcs[f]? with
  | some fn => match fn.body with
    | some c => match xcode P dr call (args.length + (fn.ntmps - args.length)) none n c (fill .e 0 args) hp [] with
      | some (.mk .normal tm' hp' []) => xfin P fn (fun _ _ _ => none) tm' hp' []
      | some (.mk .ret tm' hp' []) => xfin P fn (fun _ _ _ => none) tm' hp' []
      | _ => none
    | none => none
  | none => none

def putAll (tm : T Value) : List Tmp → List Value → T Value
  | t :: ts, v :: vs => putAll (tm.set t (some v)) ts vs
  | _, _ => tm

def allLt (n : Nat) : List Tmp → Bool
  | [] => true
  | t :: ts => Nat.blt t n && allLt n ts

/-- A round of a range over a function: the record's number; the arguments of its yield. -/
def xround (P : Program) (dr : Drawer) (call : Caller) (m : Nat) (i : Nat) (args : List Value) (hp : Hp) : Option (Value × Hp) :=
  match hp.m.get i with
  | some (.loop .ready _ nt tms ps assign body _) =>
    bif Nat.beq ps.toList.length args.length && allLt nt ps.toList then
      match xcode P dr call nt (some i) m assign (putAll tms ps.toList args) hp [] with
      | some (.mk .normal tm1 hp1 ds1) => match hp1.m.get i with
        | some (.loop .ready p1 n1 t1 q1 a1 b1 d1) =>
          match xcode P dr call nt (some i) m body tm1 { hp1 with m := hp1.m.set i (some (.loop .busy p1 n1 t1 q1 a1 b1 d1)) } ds1 with
          | some (.mk e _ hp2 _) => match hp2.m.get i with
            | some (.loop _ _ n2 t2 q2 a2 b2 d2) => match e with
              | .normal => some (.bool true, { hp2 with m := hp2.m.set i (some (.loop .ready none n2 t2 q2 a2 b2 d2)) })
              | .ret => some (.bool false, { hp2 with m := hp2.m.set i (some (.loop .done (some .ret) n2 t2 q2 a2 b2 d2)) })
              | .exit id => some (.bool false, { hp2 with m := hp2.m.set i (some (.loop .done (some (.exit id)) n2 t2 q2 a2 b2 d2)) })
              | _ => none
            | _ => none
          | none => none
        | _ => none
      | _ => none
    else none
  | _ => none

def xrunS (R : List Value → Hp → Option (Value × Hp)) (args : List Value) (hp : Hp) : Option (Value × Hp) :=
  match R args hp with
  | some r => some r
  | none => xsplit R args hp

/-- How calls are run, with so many calls in each other at most. -/
def callerOf (P : Program) (dr : Drawer) (ov : FuncId → Option TypeId) : Nat → Caller
  | 0 => ⟨fun _ _ _ => none, ov, fun _ _ _ => none⟩
  | n + 1 => ⟨fun f args hp => xrunS (xbody P dr (callerOf P dr ov n) (xbodyD P dr (callerOf P dr ov n) n) n f) args hp, ov, xround P dr (callerOf P dr ov n) n⟩

section
variable {P : Program} {B : Nat → Prop} {w0 : World}

/-- One function's run is right. -/
def RunOK (P : Program) (f : FuncId) (R : List Value → Hp → Option (Value × Hp)) : Prop :=
  ∀ args hp v hp', R args hp = some (v, hp') → ∀ B w0 σ w args', VRL σ args args' → HR B w0 σ hp w →
    Calls P f args'.toArray w (fun e w' => ∃ σ' u, e = .returned u ∧ Sg.gr hp.nx hp'.nx σ σ' ∧ VR σ' v u ∧ HR B w0 σ' hp' w')

/-- A deferred call's run is right. -/
def RunDOK (P : Program) (f : FuncId) (R : List Value → Hp → Option (Value × Hp)) : Prop :=
  ∀ args hp v hp', R args hp = some (v, hp') → ∀ B w0 σ w args', VRL σ args args' → HR B w0 σ hp w → ∀ u,
    CallsDIn Fence.wide 0 P f args'.toArray u w (fun e u' w' => u' = u ∧ ∃ σ' x, e = .returned x ∧ Sg.gr hp.nx hp'.nx σ σ' ∧ VR σ' v x ∧ HR B w0 σ' hp' w')

theorem HR.touch {σ : Sg} {hp : Hp} {w : World} (h : HR B w0 σ hp w) {b : Nat} {o : Obj} (hB : ¬ B b) (hl : ∀ i x q, hp.m.get i = some x → σ i = some q → q.blk ≠ b) : HR B w0 σ hp { w with heap := w.heap.setIfInBounds b o } := by
  refine ⟨h.os, h.tape, h.output, by simpa using h.size, h.old, fun k hk => ?_, h.fresh, fun i x hg => ?_, h.inj⟩
  · have hne : b ≠ k := fun e => hB (by rw [e]; exact hk)
    simp [Array.getElem?_setIfInBounds_ne hne, h.kept k hk]
  · obtain ⟨p, o', h1, h2, h3, h4⟩ := h.live i x hg
    refine ⟨p, o', h1, h2, ?_, h4⟩
    have hne : b ≠ p.blk := (hl i x p hg h1).symm
    simp [Array.getElem?_setIfInBounds_ne hne, h3]

theorem results_run {fn : Func} {tmps : Array Value} {vs us : List Value} {w : World} {σ : Sg} (h1 : VRL σ vs us) (h2 : (fn.results.toList.mapM (resOf tmps) : Sem (List Value)).run P w = .ok us w) : (results fn tmps).run P w = .ok (xpack us) w ∧ VR σ (xpack vs) (xpack us) := by
  constructor
  · have he : results fn tmps = (do let vs ← fn.results.mapM (resOf tmps); pure (if h : vs.size = 1 then vs[0] else .tuple vs) : Sem Value) := rfl
    rw [he, Array.mapM_eq_mapM_toList, Sem.run_bind, Sem.run_map, h2]
    simp only [Result.andThen_ok, Sem.run_pure]
    congr 1
    cases us with
    | nil => rfl
    | cons x us => cases us <;> rfl
  · cases vs with
    | nil => rw [h1.unnil]; exact VRL.to_tuple (VRL.nil σ)
    | cons x vs =>
      obtain ⟨y, us', rfl, hxy, hrest⟩ := h1.uncons
      cases vs with
      | nil => rw [hrest.unnil]; exact hxy
      | cons x2 vs =>
        obtain ⟨y2, us2, rfl, _, _⟩ := hrest.uncons
        exact h1.to_tuple

theorem xleave_sound {runD : FuncId → List Value → Hp → Option (Value × Hp)} (hD : ∀ g, RunDOK P g (runD g)) {fn : Func} {tmps : Array Value} {R : Ending → World → Prop} : ∀ (ds : List Df) (D : List Deferred) (hp hp' : Hp) (σ : Sg) (w : World),
    xleave P runD ds hp = some hp' → DsR σ ds D → HR B w0 σ hp w → (∀ σ' w', Sg.gr hp.nx hp'.nx σ σ' → HR B w0 σ' hp' w' → LeavesIn Fence.wide 0 P fn tmps R [] .returning w') → LeavesInM Fence.wide 0 P fn tmps R D .returning w := by
  intro ds
  induction ds with
  | nil =>
    intro D hp hp' σ w h hd hw k
    simp only [xleave, Option.some.injEq] at h
    subst h
    cases D with
    | nil => exact k σ w (Sg.gr_refl _ σ) hw
    | cons d D => exact hd.elim
  | cons x ds ih =>
    intro D hp hp' σ w h hd hw k
    cases D with
    | nil => cases x <;> exact hd.elim
    | cons d D =>
      obtain ⟨hx, hd⟩ := hd
      cases x with
      | mark r =>
        simp only [xleave] at h
        split at h
        · rename_i hg
          obtain ⟨p, hp1, htar⟩ := hx
          obtain ⟨p', o, q1, q2, q3, q4⟩ := hw.live r _ hg
          have : p' = p := Option.some.inj (q1.symm.trans hp1)
          subst this
          have q4 : o = .deferred (some []) := q4
          subst q4
          have hw2 := (HR.drop hw r).touch (o := .deferred none) q2 (fun i x q hi hq e => by
            have hi : (hp.m.set r none).get i = some x := hi
            rw [T.get_set] at hi
            by_cases hir : i = r
            · rw [if_pos hir] at hi; cases hi
            · rw [if_neg hir] at hi
              exact hw.inj i r x _ q p' hi hg hir hq q1 e)
          exact ⟨by simp, .inl ⟨p'.blk, _, htar, run_takeDeferred q3, ih D _ hp' σ _ h hd hw2 k⟩⟩
        · cases h
      | call g args cap =>
        simp only [xleave] at h
        obtain ⟨cap', htar, hva, hvc⟩ := hx
        split at h
        · rename_i fg hfg
          cases ho : okFn fg with
          | false => rw [ho] at h; cases h
          | true =>
            rw [ho, cond_true] at h
            split at h
            · rename_i v hp1 hr
              refine ⟨by simp, .inr ⟨fun h => (by cases h), .func g, cap', g, (d.args.toList ++ cap'.toList).toArray, htar, ?_, fun _ _ => trivial, ?_⟩⟩
              · rw [htar]
                have : (d.args.toList ++ cap'.toList).toArray = d.args ++ cap' := by apply Array.ext'; simp
                rw [this]
                exact run_callFunc hfg ho w
              · refine CallsDIn.mono (hD g (args ++ cap) hp v hp1 hr B w0 σ w _ (hva.append hvc) hw .returning) fun e u' w' he => ?_
                obtain ⟨rfl, σ1, x, rfl, gr, _, hw1⟩ := he
                exact ih D hp1 hp' σ1 w' h (hd.mono gr.le) hw1 fun σ' w'' g' hw' => k σ' w'' (Sg.gr_trans gr g') hw'
            · cases h
        · cases h

theorem xbody_sound {dr : Drawer} (hdr : DrawOK P dr) {call : Caller} (ih : CallOK P call) {runD : FuncId → List Value → Hp → Option (Value × Hp)} (hD : ∀ g, RunDOK P g (runD g)) (n : Nat) (g : FuncId) : RunOK P g (xbody P dr call runD n g) := by
  intro args hp v hp' h B w0 σ w args' ha hw
  simp only [xbody] at h
  split at h
  · rename_i fn hfn
    split at h
    · rename_i c hc
      have fin : ∀ e tm1 hp1 ds1, (e = .normal ∨ e = .ret) → xcode P dr call (args.length + (fn.ntmps - args.length)) none n c (fill .e 0 args) hp [] = some (.mk e tm1 hp1 ds1) →
          xfin P fn runD tm1 hp1 ds1 = some (v, hp') →
          Calls P g args'.toArray w (fun e w' => ∃ σ' u, e = .returned u ∧ Sg.gr hp.nx hp'.nx σ σ' ∧ VR σ' v u ∧ HR B w0 σ' hp' w') := by
        intro e tm1 hp1 ds1 he hx hr
        unfold xfin at hr
        split at hr
        · rename_i hp2 hlv
          split at hr
          · rename_i vs hvs
            simp only [Option.some.injEq, Prod.mk.injEq] at hr
            obtain ⟨rfl, rfl⟩ := hr
            refine callsIn_wide.1 (callsIn_of_wp_marks (n := 0) hfn hc trivial (wpIn_mono ((xcode_sound (B := B) (w0 := w0) ih hdr n).1 c _ hp [] e tm1 hp1 ds1 σ { tmps := args'.toArray ++ Array.replicate (fn.ntmps - args'.toArray.size) undef, defers := [] } w none hx (TR.start ha fn.ntmps) hw trivial trivial) fun e' a' w' hq => ?_))
            obtain ⟨rfl, σ', hle, hd, ht, hw'⟩ := hq
            have hL : LeavesInM Fence.wide 0 P fn a'.tmps (fun e w' => ∃ σ' u, e = .returned u ∧ Sg.gr hp.nx hp2.nx σ σ' ∧ VR σ' (xpack vs) u ∧ HR B w0 σ' hp2 w') a'.defers .returning w' :=
              xleave_sound hD ds1 a'.defers hp1 hp2 σ' w' hlv hd hw' fun σ2 w2 g2 hw2 => by
                obtain ⟨us, hu1, hu2⟩ := xresults_sound (ht.mono g2.le) hw2 hvs
                obtain ⟨r1, r2⟩ := results_run hu1 hu2
                exact ⟨_, r1, σ2, _, rfl, Sg.gr_trans hle g2, r2, hw2⟩
            rcases he with rfl | rfl
            · exact hL
            · exact hL
          · cases hr
        · cases hr
      split at h
      · rename_i tm1 hp1 ds1 hx
        exact fin .normal tm1 hp1 ds1 (.inl rfl) hx h
      · rename_i tm1 hp1 ds1 hx
        exact fin .ret tm1 hp1 ds1 (.inr rfl) hx h
      · cases h
    · cases h
  · cases h

theorem xbodyD_sound {dr : Drawer} (hdr : DrawOK P dr) {call : Caller} (ih : CallOK P call) (n : Nat) (g : FuncId) : RunDOK P g (xbodyD P dr call n g) := by
  intro args hp v hp' h B w0 σ w args' ha hw u0
  simp only [xbodyD] at h
  split at h
  · rename_i fn hfn
    split at h
    · rename_i c hc
      have fin : ∀ e tm1 hp1, (e = .normal ∨ e = .ret) → xcode P dr call (args.length + (fn.ntmps - args.length)) none n c (fill .e 0 args) hp [] = some (.mk e tm1 hp1 []) →
          xfin P fn (fun _ _ _ => none) tm1 hp1 [] = some (v, hp') →
          CallsDIn Fence.wide 0 P g args'.toArray u0 w (fun e u' w' => u' = u0 ∧ ∃ σ' u, e = .returned u ∧ Sg.gr hp.nx hp'.nx σ σ' ∧ VR σ' v u ∧ HR B w0 σ' hp' w') := by
        intro e tm1 hp1 he hx hr
        unfold xfin at hr
        simp only [xleave] at hr
        split at hr
        · rename_i vs hvs
          simp only [Option.some.injEq, Prod.mk.injEq] at hr
          obtain ⟨rfl, rfl⟩ := hr
          refine callsDIn_of_wp (R := fun e w' => ∃ σ' u, e = .returned u ∧ Sg.gr hp.nx hp1.nx σ σ' ∧ VR σ' (xpack vs) u ∧ HR B w0 σ' hp1 w') (n := 0) hfn hc trivial
            (wpIn_mono ((xcode_sound (B := B) (w0 := w0) ih hdr n).1 c _ hp [] e tm1 hp1 [] σ { tmps := args'.toArray ++ Array.replicate (fn.ntmps - args'.toArray.size) undef, defers := [] } w none hx (TR.start ha fn.ntmps) hw trivial trivial) fun e' a' w' hq => ?_)
          obtain ⟨rfl, σ', hle, hd, ht, hw'⟩ := hq
          obtain ⟨us, hu1, hu2⟩ := xresults_sound ht hw' hvs
          obtain ⟨r1, r2⟩ := results_run hu1 hu2
          have hd : a'.defers = [] := by
            cases hD : a'.defers with
            | nil => rfl
            | cons d D => rw [hD] at hd; exact hd.elim
          rcases he with rfl | rfl
          · exact ⟨hd, _, r1, σ', _, rfl, hle, r2, hw'⟩
          · exact ⟨hd, _, r1, σ', _, rfl, hle, r2, hw'⟩
        · cases hr
      split at h
      · rename_i tm1 hp1 hx
        exact fin .normal tm1 hp1 (.inl rfl) hx h
      · rename_i tm1 hp1 hx
        exact fin .ret tm1 hp1 (.inr rfl) hx h
      · cases h
    · cases h
  · cases h

theorem putAll_TR {σ : Sg} {nt : Nat} : ∀ (ps : List Tmp) (xs ys : List Value) (tm : T Value) (tmps : Array Value), allLt nt ps = true → ps.length = xs.length → VRL σ xs ys → TR σ nt tm tmps →
    TR σ nt (putAll tm ps xs) ((ps.zip ys).foldl (fun tmps (x : Tmp × Value) => tmps.setIfInBounds x.1 x.2) tmps)
  | [], xs, ys, tm, tmps, _, _, _, h => by cases xs <;> simpa [putAll] using h
  | t :: ts, [], ys, tm, tmps, _, hl, _, _ => by simp at hl
  | t :: ts, x :: xs, ys, tm, tmps, ha, hl, hv, h => by
    obtain ⟨y, ys', rfl, hxy, hr⟩ := hv.uncons
    simp only [allLt, Bool.and_eq_true] at ha
    exact putAll_TR ts xs ys' _ _ ha.2 (by simpa using hl) hr (h.put (Nat.le_of_ble_eq_true ha.1) hxy)

/-- A round's end. -/
theorem end_round {σ : Sg} {hp : Hp} {w : World} (hw : HR B w0 σ hp w) {i : Nat} {p : Pl} (hi : σ i = some p) {st : LoopState} {pend : Option Code} {nt : Nat} {tms : T Value} {ps : Array Tmp} {assign body : Code} {db : Nat}
    (hg : hp.m.get i = some (.loop st pend nt tms ps assign body db)) (jump : Option Code) :
    ∃ w', (Instr.endRound p.blk jump).run P w = .ok (.bool jump.isNone) w' ∧ HR B w0 σ { hp with m := hp.m.set i (some (.loop (if jump.isNone then .ready else .done) jump nt tms ps assign body db)) } w' := by
  obtain ⟨p', o, q1, q2, q3, q4⟩ := hw.live i _ hg
  have : p' = p := Option.some.inj (q1.symm.trans hi)
  subst this
  obtain ⟨rec, rfl, k1, k2, k3, k4, k5, k6, k7⟩ := q4
  exact ⟨_, run_endRound jump q3, HR.setO hw hg q1 ⟨_, rfl, rfl, rfl, k3, k4, k5, k6, k7⟩⟩

theorem xround_sound {dr : Drawer} (hdr : DrawOK P dr) {call : Caller} (ih : CallOK P call) (m : Nat) : ∀ i args hp v hp', xround P dr call m i args hp = some (v, hp') → ∀ B w0 σ w args' p, σ i = some p → VRL σ args args' → HR B w0 σ hp w →
    ∃ r, w.heap[p.blk]? = some (.loop r) ∧ args'.length = r.params.size ∧
      RoundIn Fence.wide 0 P p.blk r.fn ((r.params.zip args'.toArray).foldl (fun tmps (t, a) => tmps.setIfInBounds t a) r.tmps) r.assign r.body w (fun e w' => ∃ σ' u, e = .returned u ∧ Sg.gr hp.nx hp'.nx σ σ' ∧ VR σ' v u ∧ HR B w0 σ' hp' w') := by
  intro i args hp v hp' h B w0 σ w args' p hi ha hw
  unfold xround at h
  split at h
  · rename_i pend nt tms ps assign body db hg
    cases hb : Nat.beq ps.toList.length args.length && allLt nt ps.toList with
    | false => rw [hb] at h; cases h
    | true =>
      rw [hb, cond_true] at h
      simp only [Bool.and_eq_true] at hb
      have hlen := Nat.eq_of_beq_eq_true hb.1
      obtain ⟨p', o, q1, q2, q3, q4⟩ := hw.live i _ hg
      have : p' = p := Option.some.inj (q1.symm.trans hi)
      subst this
      obtain ⟨rec, rfl, k1, k2, rfl, rfl, rfl, k6, k7⟩ := q4
      refine ⟨rec, q3, by rw [← ha.1, ← hlen]; simp, ?_⟩
      have hfold : (rec.params.zip args'.toArray).foldl (fun tmps (x : Tmp × Value) => tmps.setIfInBounds x.1 x.2) rec.tmps = (rec.params.toList.zip args').foldl (fun tmps (x : Tmp × Value) => tmps.setIfInBounds x.1 x.2) rec.tmps := by
        rw [← Array.foldl_toList, Array.toList_zip]
      have ht0 := putAll_TR rec.params.toList args args' tms rec.tmps hb.2 hlen ha ⟨k6.1, k6.2⟩
      rw [← hfold] at ht0
      split at h
      · rename_i tm1 hp1 ds1 hx
        refine roundIn_of_wpIn (F := Fence.wide) trivial (wpIn_mono ((xcode_sound (B := B) (w0 := w0) ih hdr m).1 rec.assign _ hp [] .normal tm1 hp1 ds1 σ { tmps := _, defers := [] } w (some p'.blk) hx ht0 hw trivial ⟨p', hi, rfl⟩) fun e1 a1 w1 hq1 => ?_)
        obtain ⟨rfl, σ1, gr1, hd1, ht1, hw1⟩ := hq1
        have hi1 := gr1.le _ _ hi
        split at h
        · rename_i p1 n1 t1 r1 as1 bo1 db1 hg1
          obtain ⟨p2, o2, u1, u2, u3, u4⟩ := hw1.live i _ hg1
          have : p2 = p' := Option.some.inj (u1.symm.trans hi1)
          subst this
          obtain ⟨rec1, rfl, m1, m2, m3, m4, m5, m6, m7⟩ := u4
          refine ⟨_, run_beginRound u3 m1, ?_⟩
          have hw2 := HR.setO (b' := .loop .busy p1 n1 t1 r1 as1 bo1 db1) hw1 hg1 hi1 (o := .loop { rec1 with state := .busy }) ⟨_, rfl, rfl, m2, m3, m4, m5, m6, m7⟩
          split at h
          · rename_i e tm2 hp2 ds2 hx2
            refine wpIn_mono ((xcode_sound (B := B) (w0 := w0) ih hdr m).1 rec.body _ _ ds1 e tm2 hp2 ds2 σ1 a1 _ (some p2.blk) hx2 ht1 hw2 hd1 ⟨p2, hi1, rfl⟩) fun e2 a2 w2 hq2 => ?_
            obtain ⟨rfl, σ2, gr2, _, _, hw3⟩ := hq2
            have hi2 := gr2.le _ _ hi1
            have gr : Sg.gr hp.nx hp2.nx σ σ2 := Sg.gr_trans gr1 gr2
            split at h
            · rename_i st3 pend3 n3 t3 r3 as3 bo3 db3 hg3
              split at h
              · simp only [Option.some.injEq, Prod.mk.injEq] at h
                obtain ⟨rfl, rfl⟩ := h
                obtain ⟨w3, s1, s2⟩ := end_round (P := P) hw3 hi2 hg3 none
                exact ⟨_, w3, s1, σ2, _, rfl, gr, .bool true, s2⟩
              · simp only [Option.some.injEq, Prod.mk.injEq] at h
                obtain ⟨rfl, rfl⟩ := h
                obtain ⟨w3, s1, s2⟩ := end_round (P := P) hw3 hi2 hg3 (some .ret)
                exact ⟨_, w3, s1, σ2, _, rfl, gr, .bool false, s2⟩
              · rename_i id
                simp only [Option.some.injEq, Prod.mk.injEq] at h
                obtain ⟨rfl, rfl⟩ := h
                obtain ⟨w3, s1, s2⟩ := end_round (P := P) hw3 hi2 hg3 (some (.exit id))
                exact ⟨_, w3, s1, σ2, _, rfl, gr, .bool false, s2⟩
              · cases h
            · cases h
          · cases h
        · cases h
      · cases h
  · cases h

/-- What a run in the small memory of two blocks tells of the great one. -/
theorem small_join {σ σa : Sg} {hp ha : Hp} {w w' : World} {i j a N : Nat} {bi bj : Blk} {la ca : Nat} {c1 c2 : T Value} {k e z : Nat} {u : Value} (hw : HR B w0 σ hp w)
    (hgi : hp.m.get i = some bi) (hgj : hp.m.get j = some bj) (hr : HR (rest σ ⟨(T.set .e i (some bi)).set j (some bj), hp.nx⟩ w) w σa ha w') (gr : Sg.gr hp.nx ha.nx σ σa)
    (hv : VR σa (.slice (some ⟨a, 0, none⟩) la ca) u) (hca : unk ≤ ca) (hga : ha.m.get a = some (.cells c2 k e z)) (hc : ∀ x, x < k → c1.get x = c2.get x) (hN : ha.nx ≤ N) :
    ∃ σ', Sg.gr hp.nx (N + 1) σ σ' ∧ VR σ' (.slice (some ⟨N, 0, none⟩) la (mkCap la 0)) u ∧ HR B w0 σ' ⟨((hp.m.set i none).set j none).set N (some (.cells c1 k e z)), N + 1⟩ w' := by
  have small : ∀ x b, ((T.set .e i (some bi)).set j (some bj) : T Blk).get x = some b → (x = i ∨ x = j) ∧ hp.m.get x = some b := by
    intro x b hg
    rw [T.get_set] at hg
    by_cases hj : x = j
    · rw [if_pos hj] at hg
      simp only [Option.some.injEq] at hg
      subst hg; subst hj
      exact ⟨.inr rfl, hgj⟩
    · rw [if_neg hj, T.get_set] at hg
      by_cases hi : x = i
      · rw [if_pos hi] at hg
        simp only [Option.some.injEq] at hg
        subst hg; subst hi
        exact ⟨.inl rfl, hgi⟩
      · rw [if_neg hi] at hg
        simp [T.get_e] at hg
  have hws : HR B w0 σ ⟨(T.set .e i (some bi)).set j (some bj), hp.nx⟩ w := hw.less (fun x b hg => (small x b hg).2)
  have hb := hws.back hr
  cases hv with
  | slice _ _ p _ _ c' hpa hcc hll =>
  have hfn : σa N = none := hb.fresh N hN
  have hle := Sg.le_ext (σ := σa) (i := N) p hfn
  have hnx := gr.nx
  obtain ⟨p', o, l1, l2, l3, l4⟩ := hb.live a _ hga
  have : p' = p := Option.some.inj (l1.symm.trans hpa)
  subst this
  obtain ⟨q', o', r1, r2, r3, _⟩ := hr.live a _ hga
  have : q' = p' := Option.some.inj (r1.symm.trans hpa)
  subst this
  have old : ∀ x b, x ≠ N → ((((hp.m.set i none).set j none).set N (some (.cells c1 k e z))) : T Blk).get x = some b → hp.m.get x = some b ∧ ∃ q o, σ x = some q ∧ ¬ B q.blk ∧ w.heap[q.blk]? = some o ∧ BR σ q b o ∧ rest σ ⟨(T.set .e i (some bi)).set j (some bj), hp.nx⟩ w q.blk := by
    intro x b hxN hg
    rw [T.get_set, if_neg hxN, T.get_set] at hg
    by_cases hj : x = j
    · rw [if_pos hj] at hg; cases hg
    · rw [if_neg hj, T.get_set] at hg
      by_cases hi : x = i
      · rw [if_pos hi] at hg; cases hg
      · rw [if_neg hi] at hg
        obtain ⟨q, o, h1, h2, h3, h4⟩ := hw.live x b hg
        refine ⟨hg, q, o, h1, h2, h3, h4, (Array.getElem?_eq_some_iff.1 h3).1, fun y b' q' hy hq' => ?_⟩
        obtain ⟨hyij, hgy⟩ := small y b' hy
        have hyx : y ≠ x := by rintro rfl; rcases hyij with rfl | rfl <;> contradiction
        exact hw.inj y x _ _ q' q hgy hg hyx hq' h1
  refine ⟨σa.ext N q', ⟨Sg.le_trans gr.le hle, fun x hx => (Sg.ext_other _ _ _ (by omega)).trans (gr.low x hx), by omega⟩, ?_, ?_⟩
  · have := VR.slice (σ := σa.ext N q') N 0 q' la (mkCap la 0) c' (Sg.ext_same _ _ _) (.inr ⟨mkCap_ge _ _, by rw [mkCap_lo unk_pos]; exact hll, .inl (mkCap_hi unk_pos), by
      rcases hcc with ⟨_, h⟩ | ⟨_, _, _, h⟩
      · omega
      · exact h⟩) hll
    exact this
  · refine ⟨hb.os, hb.tape, hb.output, hb.size, hb.old, hb.kept, fun x hx => (Sg.ext_other _ _ _ (by have : N + 1 ≤ x := hx; omega)).trans (hb.fresh x (by have : N + 1 ≤ x := hx; omega)), ?_, ?_⟩
    · intro x b hg
      by_cases hx : x = N
      · subst hx
        rw [T.get_set, if_pos rfl] at hg
        simp only [Option.some.injEq] at hg
        subst hg
        obtain ⟨C, e1, e2, e3, e4, e5⟩ := l4
        refine ⟨q', o, Sg.ext_same _ _ _, l2, l3, C, e1, e2, e3, e4, fun y hy => ?_⟩
        obtain ⟨v, u, a1, a2, a3⟩ := e5 y hy
        exact ⟨v, u, (hc y hy).trans a1, a2, a3.mono hle⟩
      · obtain ⟨hg', q, o, h1, h2, h3, h4, h5⟩ := old x b hx hg
        exact ⟨q, o, hle _ _ (gr.le _ _ h1), h2, (hr.kept _ h5).trans h3, h4.mono (Sg.le_trans gr.le hle)⟩
    · intro x y b1 b2 p1 p2 hx hy hne hp1 hp2
      by_cases hxN : x = N
      · subst hxN
        have hyN : y ≠ x := Ne.symm hne
        obtain ⟨_, q, o, h1, _, _, _, h5⟩ := old y b2 hyN hy
        have e1 : p1 = q' := Option.some.inj (hp1.symm.trans (Sg.ext_same _ _ _))
        have e2 : p2 = q := Option.some.inj (hp2.symm.trans (hle _ _ (gr.le _ _ h1)))
        subst e1; subst e2
        exact fun heq => r2 (heq ▸ h5)
      · obtain ⟨hgx, q, o, h1, _, _, _, h5⟩ := old x b1 hxN hx
        have e1 : p1 = q := Option.some.inj (hp1.symm.trans (hle _ _ (gr.le _ _ h1)))
        subst e1
        by_cases hyN : y = N
        · subst hyN
          have e2 : p2 = q' := Option.some.inj (hp2.symm.trans (Sg.ext_same _ _ _))
          subst e2
          exact fun heq => r2 (heq ▸ h5)
        · obtain ⟨hgy, q2, o2, m1, _⟩ := old y b2 hyN hy
          have e2 : p2 = q2 := Option.some.inj (hp2.symm.trans (hle _ _ (gr.le _ _ m1)))
          subst e2
          exact hw.inj x y _ _ _ _ hgx hgy hne h1 m1

theorem xsplit_sound {f : FuncId} {R : List Value → Hp → Option (Value × Hp)} (hR : RunOK P f R) : RunOK P f (xsplit R) := by
  intro args hp v hp' h B w0 σ w args' hargs hw
  unfold xsplit at h
  split at h
  case h_2 => cases h
  rename_i i l c x j o m cm
  cases hb : Nat.ble unk c && Nat.beq (capHi c) 0 && !(Nat.beq i j) && Nat.ble (l + m) 67108864 with
  | false => rw [hb] at h; cases h
  | true =>
  rw [hb, cond_true] at h
  simp only [Bool.and_eq_true] at hb
  obtain ⟨⟨⟨b1, b2⟩, b3⟩, b4⟩ := hb
  have b1 := Nat.le_of_ble_eq_true b1
  have b4 := Nat.le_of_ble_eq_true b4
  split at h
  case h_2 => cases h
  rename_i bi bj hgi hgj
  split at h
  case h_2 => cases h
  rename_i a la ca ha b lb cb hbb hA hB
  cases hb2 : Nat.beq la lb && Nat.ble unk ca && Nat.ble unk cb with
  | false => rw [hb2] at h; cases h
  | true =>
  rw [hb2, cond_true] at h
  simp only [Bool.and_eq_true] at hb2
  have d1 := Nat.eq_of_beq_eq_true hb2.1.1
  have d2 := Nat.le_of_ble_eq_true hb2.1.2
  have d3 := Nat.le_of_ble_eq_true hb2.2
  subst d1
  split at h
  case h_2 => cases h
  rename_i c1 k1 e1 z1 c2 k2 e2 z2 hga hgb
  cases hb3 : Nat.beq k1 k2 && Nat.beq e1 e2 && Nat.beq z1 z2 with
  | false => rw [hb3] at h; cases h
  | true =>
  rw [hb3, cond_true] at h
  simp only [Bool.and_eq_true] at hb3
  have f1 := Nat.eq_of_beq_eq_true hb3.1.1
  have f2 := Nat.eq_of_beq_eq_true hb3.1.2
  have f3 := Nat.eq_of_beq_eq_true hb3.2
  subst f1; subst f2; subst f3
  split at h
  case h_2 => cases h
  rename_i v1 v2 hl1 hl2
  cases hveq : allB (veq 100) v1 v2 with
  | false => rw [hveq] at h; cases h
  | true =>
  rw [hveq, cond_true] at h
  simp only [Option.some.injEq, Prod.mk.injEq] at h
  obtain ⟨rfl, rfl⟩ := h
  have hvv := allB_eq (veq_eq 100) hveq
  subst hvv
  have hsame : ∀ x, x < k1 → c1.get x = c2.get x := by
    intro x hx
    have g1 := (loadN_get hl1).2 x hx
    have g2 := (loadN_get hl2).2 x hx
    rw [Nat.zero_add] at g1 g2
    rw [← g1, ← g2]
  have small : ∀ x b, ((T.set .e i (some bi)).set j (some bj) : T Blk).get x = some b → hp.m.get x = some b := by
    intro x b hg
    rw [T.get_set] at hg
    by_cases hj : x = j
    · rw [if_pos hj] at hg
      simp only [Option.some.injEq] at hg
      subst hg; subst hj
      exact hgj
    · rw [if_neg hj, T.get_set] at hg
      by_cases hi : x = i
      · rw [if_pos hi] at hg
        simp only [Option.some.injEq] at hg
        subst hg; subst hi
        exact hgi
      · rw [if_neg hi] at hg
        simp [T.get_e] at hg
  have hmax := (hw.less small).max
  obtain ⟨s', r, rfl, hs, hrest⟩ := hargs.uncons
  cases hs with
  | slice _ _ p _ _ c' hpi hcc hll =>
  obtain ⟨hclo, hbnd⟩ : capLo c ≤ c' ∧ p.dl + 0 + c' * p.esz ≤ p.siz := by
    rcases hcc with ⟨_, h⟩ | ⟨_, h2, _, h4⟩
    · omega
    · exact ⟨h2, h4⟩
  have hlu : l + m < unk := by unfold unk; omega
  by_cases hroom : l + m ≤ c'
  · have hv' : VR σ (.slice (some ⟨i, 0, none⟩) l (mkCap (l + m) 0)) (.slice (some ⟨p.blk, p.dl + 0, none⟩) l c') :=
      .slice i 0 p l _ c' hpi (.inr ⟨mkCap_ge _ _, by rw [mkCap_lo unk_pos]; exact hroom, .inl (mkCap_hi unk_pos), hbnd⟩) hll
    refine (hR _ _ _ _ hA _ _ _ _ _ (VRL.cons hv' hrest) hmax).mono fun e w' he => ?_
    obtain ⟨σa, u, rfl, gr, hvu, hwa⟩ := he
    obtain ⟨σ', q1, q2, q3⟩ := small_join (c1 := c1) (N := Nat.max ha.nx hbb.nx) hw hgi hgj hwa gr hvu d2 hga (fun _ _ => rfl) (Nat.le_max_left _ _)
    exact ⟨σ', u, rfl, q1, q2, q3⟩
  · have hv' : VR σ (.slice (some ⟨i, 0, none⟩) l (mkCap l (l + m))) (.slice (some ⟨p.blk, p.dl + 0, none⟩) l c') :=
      .slice i 0 p l _ c' hpi (.inr ⟨mkCap_ge _ _, by rw [mkCap_lo hlu]; exact hll, .inr (by rw [mkCap_hi hlu]; omega), hbnd⟩) hll
    refine (hR _ _ _ _ hB _ _ _ _ _ (VRL.cons hv' hrest) hmax).mono fun e w' he => ?_
    obtain ⟨σa, u, rfl, gr, hvu, hwa⟩ := he
    obtain ⟨σ', q1, q2, q3⟩ := small_join (c1 := c1) (N := Nat.max ha.nx hbb.nx) hw hgi hgj hwa gr hvu d3 hgb hsame (Nat.le_max_right _ _)
    exact ⟨σ', u, rfl, q1, q2, q3⟩

theorem callerOf_ok {dr : Drawer} (hdr : DrawOK P dr) {ov : FuncId → Option TypeId} (hov : ∀ g t, ov g = some t → OvOK P g t) : ∀ n, CallOK P (callerOf P dr ov n) := by
  intro n
  induction n with
  | zero => exact ⟨(fun g args hp v hp' h => by cases h), hov, (fun i args hp v hp' h => by cases h)⟩
  | succ n ih =>
    refine ⟨fun g args hp v hp' h => ?_, hov, xround_sound hdr ih n⟩
    simp only [callerOf, xrunS] at h
    have hb := xbody_sound hdr ih (xbodyD_sound hdr ih n) n g
    split at h
    · rename_i r hr
      simp only [Option.some.injEq] at h
      subst h
      exact hb args hp v hp' hr
    · exact xsplit_sound hb args hp v hp' h
end
end Go.Xe
