/- Chapter 36, the walk of PlansErrors.
  Conditions: none. -/
import Derived.Test.YtpdcecfnlccicaaS6
import Derived.Test.YtpdcecfnlccicaaS7
noncomputable section
namespace Go.C36
open Go Go.Xe Go.Sx Go.RowKit
open Go.Proofs
theorem stageC2 : AllG Try.prog U0 LV (stageC 2) := ⟨g_lives, trivial⟩
theorem g_rcheck : RightG Try.prog U0 LV cRcheck 25 := rightG_eq annsC stageC2 400 vcRcheck_eq vcRcheck_ok (conT rfl)
theorem stageC1 : AllG Try.prog U0 LV (stageC 1) := ⟨g_rcheck, g_lives, trivial⟩
theorem g_rerr : RightG Try.prog U0 LV cRerr 23 := rightG_eq annsC stageC1 400 vcRerr_eq vcRerr_ok (conT rfl)
theorem stageE1 : AllG Try.prog U0 LV (stageE 1) := ⟨g_rof, g_of, g_peq, g_ahead, g_nstays, g_nbinds, g_nmakes, g_ndrops, g_nmoves, g_pcheck, g_rcheck, g_rerr, g_lives, trivial⟩
theorem g_perr : RightG Try.prog U0 LV cPerr 6 := rightG_eq annsE stageE1 400 vcPerr_eq vcPerr_ok (conT rfl)
theorem rw_kinds : kf Try.prog 47 = [.int .u64, .int .u8] := by kernel_rfl
theorem in_kinds : kf Try.prog 3 = [.int .i64] := by kernel_rfl
theorem lv_kinds : kf Try.prog 49 = [.int .i64, .bool] := by kernel_rfl
theorem st_kinds : kf Try.prog 40 = [.int .u8, .int .i64, .bool] := by kernel_rfl
theorem a_kinds : kf Try.prog 56 = [.sl 47, .sl 47] := by kernel_rfl
theorem a_lay : layB Try.prog 56 = true := by kernel_rfl
theorem a_good : (kf Try.prog 56).all (goodK Try.prog 3) = true := by kernel_rfl
theorem b_kinds : kf Try.prog 57 = [.sl 3, .sl 3] := by kernel_rfl
theorem b_lay : layB Try.prog 57 = true := by kernel_rfl
theorem b_good : (kf Try.prog 57).all (goodK Try.prog 3) = true := by kernel_rfl
theorem p_kinds : kf Try.prog 34 = [.sl 49, .sl 40] := by kernel_rfl
theorem p_lay : layB Try.prog 34 = true := by kernel_rfl
theorem p_good : (kf Try.prog 34).all (goodK Try.prog 3) = true := by kernel_rfl
theorem dw_num {P : Program} {k : IntKind} {d : Dat} (h : DW P (.int k) d) : ∃ n, (k.min ≤ n ∧ n ≤ k.max) ∧ d = .int n := by
 cases h with
 | int k n h => exact ⟨n, h, rfl⟩
theorem dw_bit {P : Program} {d : Dat} (h : DW P .bool d) : ∃ b, d = .bool b := by
 cases h with
 | bool b => exact ⟨b, rfl⟩
theorem rows_rw {d : Dat} (h : DW Try.prog (.sl 47) d) : ∃ L : List Rw, (∀ r ∈ L, r.Ok) ∧ d = .lst (L.map Rw.row) := by
 cases h with
 | sl _ rows hl hz hh =>
  obtain ⟨L, h1, h2⟩ := rows_map_of Rw.row Rw.Ok (rows := rows) fun r hr => by
   have h3 := hz r hr
   rw [rw_kinds] at h3
   obtain ⟨i, hi⟩ := List.mem_iff_getElem?.1 hr
   match r, h3, hi with
   | [a, b], _, hi =>
    obtain ⟨x, hx, rfl⟩ := dw_num (hh i 0 _ (.int .u64) a hi rfl (by rw [rw_kinds]; rfl))
    obtain ⟨y, hy, rfl⟩ := dw_num (hh i 1 _ (.int .u8) b hi rfl (by rw [rw_kinds]; rfl))
    have x0 : (0 : Int) ≤ x := hx.1
    have x1 : x ≤ 18446744073709551615 := hx.2
    have y0 : (0 : Int) ≤ y := hy.1
    have y1 : y ≤ 255 := hy.2
    exact ⟨⟨x, y⟩, ⟨x0, by show x < _; omega, y0, by show y < _; omega⟩, rfl⟩
  exact ⟨L, h1, by rw [h2]⟩
theorem rows_in {d : Dat} (h : DW Try.prog (.sl 3) d) : ∃ L : List Int, (∀ x ∈ L, x < 9223372036854775808) ∧ d = .lst (L.map row) := by
 cases h with
 | sl _ rows hl hz hh =>
  obtain ⟨L, h1, h2⟩ := rows_map_of row (fun x => x < 9223372036854775808) (rows := rows) fun r hr => by
   have h3 := hz r hr
   rw [in_kinds] at h3
   obtain ⟨i, hi⟩ := List.mem_iff_getElem?.1 hr
   match r, h3, hi with
   | [a], _, hi =>
    obtain ⟨x, hx, rfl⟩ := dw_num (hh i 0 _ (.int .i64) a hi rfl (by rw [in_kinds]; rfl))
    have x1 : x ≤ 9223372036854775807 := hx.2
    exact ⟨x, by show x < _; omega, rfl⟩
  exact ⟨L, h1, by rw [h2]⟩
theorem rows_lv {d : Dat} (h : DW Try.prog (.sl 49) d) : ∃ L : List Lv, d = .lst (L.map Lv.row) := by
 cases h with
 | sl _ rows hl hz hh =>
  obtain ⟨L, _, h2⟩ := rows_map_of Lv.row (fun _ => True) (rows := rows) fun r hr => by
   have h3 := hz r hr
   rw [lv_kinds] at h3
   obtain ⟨i, hi⟩ := List.mem_iff_getElem?.1 hr
   match r, h3, hi with
   | [a, b], _, hi =>
    obtain ⟨x, _, rfl⟩ := dw_num (hh i 0 _ (.int .i64) a hi rfl (by rw [lv_kinds]; rfl))
    obtain ⟨y, rfl⟩ := dw_bit (hh i 1 _ .bool b hi rfl (by rw [lv_kinds]; rfl))
    exact ⟨⟨x, y⟩, trivial, rfl⟩
  exact ⟨L, by rw [h2]⟩
theorem rows_st {d : Dat} (h : DW Try.prog (.sl 40) d) : ∃ L : List Stp, d = .lst (L.map Stp.row) := by
 cases h with
 | sl _ rows hl hz hh =>
  obtain ⟨L, _, h2⟩ := rows_map_of Stp.row (fun _ => True) (rows := rows) fun r hr => by
   have h3 := hz r hr
   rw [st_kinds] at h3
   obtain ⟨i, hi⟩ := List.mem_iff_getElem?.1 hr
   match r, h3, hi with
   | [a, b, c], _, hi =>
    obtain ⟨x, _, rfl⟩ := dw_num (hh i 0 _ (.int .u8) a hi rfl (by rw [st_kinds]; rfl))
    obtain ⟨y, _, rfl⟩ := dw_num (hh i 1 _ (.int .i64) b hi rfl (by rw [st_kinds]; rfl))
    obtain ⟨z, rfl⟩ := dw_bit (hh i 2 _ .bool c hi rfl (by rw [st_kinds]; rfl))
    exact ⟨⟨x, y, z⟩, trivial, rfl⟩
  exact ⟨L, by rw [h2]⟩
theorem arg_both {H : Type} {enc : TypeId × Value → H} {w : World} {spare : Nat → Bool} {held : Bool} {u : TypeId} {xs : Array Value} {d : DataW H} {ps : List MemPlace} {k0 k1 : TypeId} (hl : layB Try.prog u = true) (hg : (kf Try.prog u).all (goodK Try.prog 3) = true) (hk : kf Try.prog u = [.sl k0, .sl k1]) (hx : xs.size = Try.prog.cellsOf u)
  (h : DataW.Trod enc Try.prog w 0 spare held u (.agg xs) d ps) : ∃ (a b : Value) (D E : Dat), DW Try.prog (.sl k0) D ∧ DW Try.prog (.sl k1) E ∧ VR (roSg w) (.agg [a, b].toArray) (.agg xs) ∧
   ∀ i j, VD Try.prog U0 (fun _ => none) (roF w) (.agg [.lst k0 (.dat i (.lst D.rows)) false, .lst k1 (.dat j (.lst E.rows)) false]) (.agg [a, b].toArray) := by
 have key := arg_agg h hl hg
 rw [hk] at key
 obtain ⟨v0, d0, e0, a0, r0, p0, q0⟩ := key 0 _ rfl
 obtain ⟨v1, d1, e1, a1, r1, p1, q1⟩ := key 1 _ rfl
 have hs : xs.size = 2 := by rw [hx, (layB_get hl).1, hk]; rfl
 refine ⟨a0, a1, d0, d1, q0, q1, ?_, fun i j => ?_⟩
 ·refine .agg _ _ (by rw [hs]; rfl) fun i x y hx' hy => ?_
  have hx' : [a0, a1][i]? = some x := by simpa using hx'
  match i, hx', hy with
  | 0, hx', hy => cases hx'; rw [hy] at e0; cases e0; exact absV_VR r0
  | 1, hx', hy => cases hx'; rw [hy] at e1; cases e1; exact absV_VR r1
  | i + 2, hx', hy => simp at hx'
 ·have l0 := p0.lst_eq
  have l1 := p1.lst_eq
  rw [l0] at p0
  rw [l1] at p1
  have hv : VDL Try.prog U0 (fun _ => none) (roF w) [.lst k0 (.dat i (.lst d0.rows)) false, .lst k1 (.dat j (.lst d1.rows)) false] [a0, a1] :=
   VDL.cons (.lst k0 (.dat i (.lst d0.rows)) false a0 p0 (fun h => by cases h)) (VDL.cons (.lst k1 (.dat j (.lst d1.rows)) false a1 p1 (fun h => by cases h)) VDL.nil)
  exact hv.agg
theorem okWide_array {P : Program} {w : World} {r : Reach} {b : Nat} {t e : TypeId} {n : Nat} {v : Value} (ht : P.underlying t = some (.array n e)) (h : Value.okWide P w r b t v) : ∃ cs, v = .agg cs ∧ cs.size = P.cellsOf t := by
 simp only [Value.okWide, ht] at h
 obtain ⟨cs, h1, h2, _⟩ := h
 exact ⟨cs, h1, h2⟩
theorem perr_walk {H : Type} {enc : TypeId × Value → H} {W : World} {spare : Nat → Bool} {held : Bool} {u v w : Value} {d e f : DataW H} {ps qs rs : List MemPlace} (hm : Try.prog.follows .mixedOrders = true) {fs : Array Field}
  (ht : Try.prog.underlying 56 = some (.array 2 27)) (ht' : Try.prog.underlying 57 = some (.array 2 28)) (ht'' : Try.prog.underlying 34 = some (.struct fs)) {r : Reach} {b : Nat} (hu : Value.okWide Try.prog W r b 56 u) (hv : Value.okWide Try.prog W r b 57 v) (hw : Value.okWide Try.prog W r b 34 w)
  (h : DataW.Trod enc Try.prog W 0 spare held 56 u d ps) (k : DataW.Trod enc Try.prog W 0 spare held 57 v e qs) (m : DataW.Trod enc Try.prog W 0 spare held 34 w f rs) : Calls Try.prog 6 #[u, v, w] W fun e w' => e = .returned (.bool true) ∧ Below W.heap.size W w' := by
 obtain ⟨xs, rfl, hx⟩ := okWide_array ht hu
 obtain ⟨ys, rfl, hy⟩ := okWide_array ht' hv
 obtain ⟨zs, rfl, hz⟩ := Go.WideShapes.okWide_struct ht'' hw
 obtain ⟨a1, b1, D1, E1, q1, q2, q3, q4⟩ := arg_both a_lay a_good a_kinds hx h
 obtain ⟨a2, b2, D2, E2, r1, r2, r3, r4⟩ := arg_both b_lay b_good b_kinds hy k
 obtain ⟨a3, b3, D3, E3, s1, s2, s3, s4⟩ := arg_both p_lay p_good p_kinds hz m
 obtain ⟨O, hO, rfl⟩ := rows_rw q1
 obtain ⟨N, hN, rfl⟩ := rows_rw q2
 obtain ⟨P, _, rfl⟩ := rows_in r1
 obtain ⟨B, hB, rfl⟩ := rows_in r2
 obtain ⟨L, rfl⟩ := rows_lv s1
 obtain ⟨S, rfl⟩ := rows_st s2
 refine law_calls hm (LV_ok hm) g_perr rfl rfl rfl (fun d e h => h) rfl (fun nb ds => rfl)
  (es := [.dat 0 (.lst (O.map Rw.row)), .dat 1 (.lst (N.map Rw.row)), .dat 2 (.lst (P.map row)), .dat 3 (.lst (B.map row)), .dat 4 (.lst (L.map Lv.row)), .dat 5 (.lst (S.map Stp.row))])
  rfl ⟨⟨O, rfl, hO⟩, ⟨N, rfl, hN⟩, ⟨P, rfl⟩, ⟨B, rfl, hB⟩, ⟨L, rfl⟩, ⟨S, rfl⟩⟩ (xs := [_, _, _]) (ys := [_, _, _]) ?_ (VRL.cons q3 (VRL.cons r3 (VRL.cons s3 (VRL.nil _))))
 exact VDL.cons (q4 0 1) (VDL.cons (r4 2 3) (VDL.cons (s4 4 5) VDL.nil))
end Go.C36
