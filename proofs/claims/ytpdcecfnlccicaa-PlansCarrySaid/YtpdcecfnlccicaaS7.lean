/- Chapter 36, the contracts stand; a law's argument.
  Conditions: none. -/
import Derived.Test.YtpdcecfnlccicaaQ7
import Derived.RowKit
import Derived.WideShapes
noncomputable section
namespace Go.C36
open Go Go.Xe Go.Sx Go.RowKit
open Go.Proofs
theorem lives_run : yes ((exec Try.prog noOv 5000).run 12 [] Hp.empty) = true := by kernel_rfl
theorem lives_yes (hm : Try.prog.follows .mixedOrders = true) : TrueOK Try.prog 12 := fun w => calls_yes hm noOv_ok lives_run w
def LV : FuncId → Option TypeId := ovIf 12 tTrue noOv
theorem LV_ok (hm : Try.prog.follows .mixedOrders = true) : ∀ g t,LV g = some t → OvOK Try.prog g t := by
 intro g t h
 unfold LV ovIf at h
 cases hb : Nat.beq g 12 with
 | true =>
  rw [hb,cond_true,Option.some.injEq] at h
  rw [← h,Nat.eq_of_beq_eq_true hb]
  exact ov_true (lives_yes hm)
 | false => rw [hb,cond_false] at h; cases h
theorem g_lives : RightG Try.prog U0 LV (cYes "lives") 12 := yes_right rfl "lives"
theorem stageS0 : AllG Try.prog U0 LV (stageS 0) := ⟨g_lives,trivial⟩
theorem g_len : RightG Try.prog U0 LV cLen 48 := rightG_eq annsS stageS0 400 vcLen_eq vcLen_ok (conT rfl)
theorem g_max : RightG Try.prog U0 LV cMax 49 := rightG_eq annsS stageS0 400 vcMax_eq vcMax_ok (conT rfl)
theorem stageS1 : AllG Try.prog U0 LV (stageS 1) := ⟨g_len,g_max,g_lives,trivial⟩
theorem g_long : RightG Try.prog U0 LV cLong 47 := rightG_eq annsS stageS1 400 vcLong_eq vcLong_ok (conT rfl)
theorem stageV0 : AllG Try.prog U0 LV (stageV 0) := ⟨g_lives,trivial⟩
theorem g_check : RightG Try.prog U0 LV cCheck 46 := rightG_eq annsV stageV0 400 vcCheck_eq vcCheck_ok (conT rfl)
theorem stageV1 : AllG Try.prog U0 LV (stageV 1) := ⟨g_check,g_long,g_lives,trivial⟩
theorem g_kepti : RightG Try.prog U0 LV cKepti 42 := rightG_eq annsV stageV1 400 vcKepti_eq vcKepti_ok (conT rfl)
theorem stageV2 : AllG Try.prog U0 LV (stageV 2) := ⟨g_kepti,g_lives,trivial⟩
theorem g_kept : RightG Try.prog U0 LV cKept 30 := rightG_eq annsV stageV2 400 vcKept_eq vcKept_ok (conT rfl)
theorem stageP0 : AllG Try.prog U0 LV (stageP 0) := ⟨g_lives,trivial⟩
theorem g_pcheck : RightG Try.prog U0 LV cPcheck 24 := rightG_eq annsP stageP0 400 vcPcheck_eq vcPcheck_ok (conT rfl)
theorem g_right : RightG Try.prog U0 LV cRight 27 := rightG_eq annsP stageP0 400 vcRight_eq vcRight_ok (conT rfl)
theorem stageQ0 : AllG Try.prog U0 LV (stageQ 0) := ⟨g_lives,trivial⟩
theorem g_rows : RightG Try.prog U0 LV cRows 26 := rightG_eq annsQ stageQ0 400 vcRows_eq vcRows_ok (conT rfl)
theorem stageX0 : AllG Try.prog U0 LV (stageX 0) := ⟨g_lives,trivial⟩
theorem g_nmoves : RightG Try.prog U0 LV cNmoves 11 := rightG_eq annsX stageX0 400 vcNmoves_eq vcNmoves_ok (conT rfl)
theorem stageY0 : AllG Try.prog U0 LV (stageY 0) := ⟨g_rows,g_lives,trivial⟩
theorem g_uof : RightG Try.prog U0 LV cUof 8 := rightG_eq annsY stageY0 400 vcUof_eq vcUof_ok (conT rfl)
theorem stageZ0 : AllG Try.prog U0 LV (stageZ 0) := ⟨g_lives,trivial⟩
theorem g_idx : RightG Try.prog U0 LV cIdx 43 := rightG_eq annsZ stageZ0 400 vcIdx_eq vcIdx_ok (conT rfl)
theorem stageZ1 : AllG Try.prog U0 LV (stageZ 1) := ⟨g_pcheck,g_right,g_kept,g_idx,g_lives,trivial⟩
theorem g_of : RightG Try.prog U0 LV cOf 9 := rightG_eq annsZ stageZ1 400 vcOf_eq vcOf_ok (conT rfl)
theorem stageB0 : AllG Try.prog U0 LV (stageB 0) := ⟨g_lives,trivial⟩
theorem g_ahead : RightG Try.prog U0 LV cAhead 13 := rightG_eq annsB stageB0 400 vcAhead_eq vcAhead_ok (conT rfl)
theorem g_nmakes : RightG Try.prog U0 LV cNmakes 17 := rightG_eq annsB stageB0 400 vcNmakes_eq vcNmakes_ok (conT rfl)
theorem g_ndrops : RightG Try.prog U0 LV cNdrops 18 := rightG_eq annsB stageB0 400 vcNdrops_eq vcNdrops_ok (conT rfl)
theorem g_rlens : RightG Try.prog U0 LV cRlens 45 := rightG_eq annsB stageB0 400 vcRlens_eq vcRlens_ok (conT rfl)
theorem stageB1 : AllG Try.prog U0 LV (stageB 1) := ⟨g_rlens,g_lives,trivial⟩
theorem g_rkept : RightG Try.prog U0 LV cRkept 38 := rightG_eq annsB stageB1 400 vcRkept_eq vcRkept_ok (conT rfl)
theorem stageB2 : AllG Try.prog U0 LV (stageB 2) := ⟨g_rkept,g_lives,trivial⟩
theorem g_rlongest : RightG Try.prog U0 LV cRlongest 16 := rightG_eq annsB stageB2 400 vcRlongest_eq vcRlongest_ok (conT rfl)
def kU : List Kd := [.sl 23, .sl 23, .int .u8, .int .u8, .int .u8, .int .u8, .int .u8, .int .u8]
theorem u_kinds : kf Try.prog 26 = kU := by kernel_rfl
theorem u_lay : layB Try.prog 26 = true := by kernel_rfl
theorem u_good : (kf Try.prog 26).all (goodK Try.prog 3) = true := by kernel_rfl
theorem pr_kinds : kf Try.prog 23 = [.int .u8, .int .u8] := by kernel_rfl
theorem dw_u8 {P : Program} {d : Dat} (h : DW P (.int .u8) d) : ∃ n,u8 n ∧ d = .int n := by
 cases h with
 | int k n h =>
  have h1 : (0 : Int) ≤ n := h.1
  have h2 : n ≤ 255 := h.2
  exact ⟨n,⟨h1,by omega⟩,rfl⟩
theorem rows_pr {d : Dat} (h : DW Try.prog (.sl 23) d) : ∃ L : List (Int × Int),okL L ∧ d = .lst (L.map prRow) := by
 cases h with
 | sl _ rows hl hz hh =>
  obtain ⟨L,h1,h2⟩ := rows_map_of prRow okPr (rows := rows) fun r hr => by
   have h3 := hz r hr
   rw [pr_kinds] at h3
   obtain ⟨i,hi⟩ := List.mem_iff_getElem?.1 hr
   match r,h3,hi with
   | [a,b],_,hi =>
    have ka := hh i 0 _ (.int .u8) a hi rfl (by rw [pr_kinds]; rfl)
    have kb := hh i 1 _ (.int .u8) b hi rfl (by rw [pr_kinds]; rfl)
    obtain ⟨x,hx,rfl⟩ := dw_u8 ka
    obtain ⟨y,hy,rfl⟩ := dw_u8 kb
    exact ⟨(x,y),⟨hx,hy⟩,rfl⟩
  exact ⟨L,h1,by rw [h2]⟩
theorem arg_u8 {w : World} {v : Value} {d : Dat} (h : ArgOK Try.prog w (.int .u8) v d) : ∃ n,u8 n ∧ VR (roSg w) (.int .u8 n) v := by
 obtain ⟨a,h1,h2,h3⟩ := h
 obtain ⟨n,hn,rfl⟩ := dw_u8 h3
 cases h2
 exact ⟨n,hn,absV_VR h1⟩
theorem arg_prs {w : World} {v : Value} {d : Dat} (h : ArgOK Try.prog w (.sl 23) v d) : ∃ (a : Value) (L : List (Int × Int)),okL L ∧ VR (roSg w) a v ∧ ∀ n,VD Try.prog U0 (fun _ => none) (roF w) (.lst 23 (.dat n (.lst (L.map prRow))) false) a := by
 obtain ⟨a,h1,h2,h3⟩ := h
 obtain ⟨L,hL,rfl⟩ := rows_pr h3
 exact ⟨a,L,hL,absV_VR h1,fun n => .lst 23 _ false a h2 (fun h => by cases h)⟩
def uVals (a b : Value) (c d e f g h : Int) : List Value := [a,b, .int .u8 c, .int .u8 d, .int .u8 e, .int .u8 f, .int .u8 g, .int .u8 h]
def uSvs (L M : List (Int × Int)) (c d e f g h : Int) : List SV := [.lst 23 (.dat 0 (.lst (L.map prRow))) false, .lst 23 (.dat 1 (.lst (M.map prRow))) false, .int .u8 (.dat 2 (.int c)), .int .u8 (.dat 3 (.int d)), .int .u8 (.dat 4 (.int e)), .int .u8 (.dat 5 (.int f)), .int .u8 (.dat 6 (.int g)), .int .u8 (.dat 7 (.int h))]
theorem arg_U {H : Type} {enc : TypeId × Value → H} {w : World} {spare : Nat → Bool} {held : Bool} {v : Value} {d : DataW H} {ps : List MemPlace} {fs : Array Field} (ht : Try.prog.underlying 26 = some (.struct fs)) {r : Reach} {b : Nat} (hv : Value.okWide Try.prog w r b 26 v)
  (h : DataW.Trod enc Try.prog w 0 spare held 26 v d ps) : ∃ (x : Value) (L M : List (Int × Int)) (c1 c2 c3 c4 c5 c6 : Int),okL L ∧ okL M ∧ u8 c1 ∧ u8 c2 ∧ u8 c3 ∧ u8 c4 ∧ u8 c5 ∧ u8 c6 ∧ VR (roSg w) x v ∧ VD Try.prog U0 (fun _ => none) (roF w) (.agg (uSvs L M c1 c2 c3 c4 c5 c6)) x := by
 obtain ⟨xs,rfl,hx⟩ := Go.WideShapes.okWide_struct ht hv
 have key := arg_agg h u_lay u_good
 rw [u_kinds] at key
 obtain ⟨v0,d0,e0,k0⟩ := key 0 _ rfl
 obtain ⟨v1,d1,e1,k1⟩ := key 1 _ rfl
 obtain ⟨v2,d2,e2,k2⟩ := key 2 _ rfl
 obtain ⟨v3,d3,e3,k3⟩ := key 3 _ rfl
 obtain ⟨v4,d4,e4,k4⟩ := key 4 _ rfl
 obtain ⟨v5,d5,e5,k5⟩ := key 5 _ rfl
 obtain ⟨v6,d6,e6,k6⟩ := key 6 _ rfl
 obtain ⟨v7,d7,e7,k7⟩ := key 7 _ rfl
 obtain ⟨a,L,hL,r0,g0⟩ := arg_prs k0
 obtain ⟨b,M,hM,r1,g1⟩ := arg_prs k1
 obtain ⟨c2,u2,r2⟩ := arg_u8 k2
 obtain ⟨c3,u3,r3⟩ := arg_u8 k3
 obtain ⟨c4,u4,r4⟩ := arg_u8 k4
 obtain ⟨c5,u5,r5⟩ := arg_u8 k5
 obtain ⟨c6,u6,r6⟩ := arg_u8 k6
 obtain ⟨c7,u7,r7⟩ := arg_u8 k7
 have hs : xs.size = 8 := by
  rw [hx,(layB_get u_lay).1,u_kinds]; rfl
 refine ⟨.agg (uVals a b c2 c3 c4 c5 c6 c7).toArray,L,M,c2,c3,c4,c5,c6,c7,hL,hM,u2,u3,u4,u5,u6,u7, ?_, ?_⟩
 ·refine .agg _ _ (by rw [hs]; rfl) fun i x y hx' hy => ?_
  have hx' : (uVals a b c2 c3 c4 c5 c6 c7)[i]? = some x := by simpa using hx'
  match i,hx',hy with
  | 0,hx',hy => cases hx'; rw [hy] at e0; cases e0; exact r0
  | 1,hx',hy => cases hx'; rw [hy] at e1; cases e1; exact r1
  | 2,hx',hy => cases hx'; rw [hy] at e2; cases e2; exact r2
  | 3,hx',hy => cases hx'; rw [hy] at e3; cases e3; exact r3
  | 4,hx',hy => cases hx'; rw [hy] at e4; cases e4; exact r4
  | 5,hx',hy => cases hx'; rw [hy] at e5; cases e5; exact r5
  | 6,hx',hy => cases hx'; rw [hy] at e6; cases e6; exact r6
  | 7,hx',hy => cases hx'; rw [hy] at e7; cases e7; exact r7
  | i + 8,hx',hy => simp [uVals] at hx'
 ·have hv : VDL Try.prog U0 (fun _ => none) (roF w) (uSvs L M c2 c3 c4 c5 c6 c7) (uVals a b c2 c3 c4 c5 c6 c7) :=
   VDL.cons (g0 0) (VDL.cons (g1 1) (VDL.cons (.int .u8 (.dat 2 (.int c2))) (VDL.cons (.int .u8 (.dat 3 (.int c3))) (VDL.cons (.int .u8 (.dat 4 (.int c4))) (VDL.cons (.int .u8 (.dat 5 (.int c5))) (VDL.cons (.int .u8 (.dat 6 (.int c6))) (VDL.cons (.int .u8 (.dat 7 (.int c7))) VDL.nil)))))))
  exact hv.agg
end Go.C36
