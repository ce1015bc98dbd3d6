/- Chapter 13, the contracts stand; the arguments of the laws are data; the walk of AttrsErrors.
  Conditions: none. -/
import Derived.Test.YtkeoanklmnadiaaA16
import Derived.RowKit
import Derived.WideShapes
noncomputable section
namespace Go.C13
open Go Go.Xe Go.Sx Go.RowKit
open Go.Proofs

/-! ## The examples -/

theorem lives_run : yes ((exec Try.prog noOv 5000).run 15 [] Hp.empty) = true := by kernel_rfl
theorem lives_yes (hm : Try.prog.follows .mixedOrders = true) : TrueOK Try.prog 15 := fun w => calls_yes hm noOv_ok lives_run w

def LV : FuncId → Option TypeId := ovIf 15 tTrue noOv
theorem LV_ok (hm : Try.prog.follows .mixedOrders = true) : ∀ g t, LV g = some t → OvOK Try.prog g t := by
  intro g t h
  unfold LV ovIf at h
  cases hb : Nat.beq g 15 with
  | true =>
    rw [hb, cond_true, Option.some.injEq] at h
    rw [← h, Nat.eq_of_beq_eq_true hb]
    exact ov_true (lives_yes hm)
  | false => rw [hb, cond_false] at h; cases h

theorem g_lives : RightG Try.prog U0 LV (cYes "lives") 15 := yes_right rfl "lives"

theorem stageS0 : AllG Try.prog U0 LV (stageS 0) := ⟨g_lives, trivial⟩
theorem g_rname : RightG Try.prog U0 LV cRname 37 := rightG_eq annsS stageS0 400 vcRname_eq vcRname_ok (conT rfl)
theorem g_rstr : RightG Try.prog U0 LV cRstr 38 := rightG_eq annsS stageS0 400 vcRstr_eq vcRstr_ok (conT rfl)
theorem g_named : RightG Try.prog U0 LV cNamed 54 := rightG_eq annsS stageS0 400 vcNamed_eq vcNamed_ok (conT rfl)
theorem g_text : RightG Try.prog U0 LV cText 53 := rightG_eq annsS stageS0 400 vcText_eq vcText_ok (conT rfl)
theorem g_cmp : RightG Try.prog U0 LV cCmp 42 := rightG_eq annsS stageS0 400 vcCmp_eq vcCmp_ok (conT rfl)
theorem g_nm : RightG Try.prog U0 LV cNm 19 := rightG_eq annsS stageS0 400 vcNm_eq vcNm_ok (conT rfl)
theorem g_val : RightG Try.prog U0 LV cVal 24 := rightG_eq annsS stageS0 400 vcVal_eq vcVal_ok (conT rfl)
theorem stageM0 : AllG Try.prog U0 LV (stageM 0) := ⟨g_named, g_text, g_rname, g_rstr, g_cmp, g_nm, g_val, g_lives, trivial⟩
theorem g_check : RightG Try.prog U0 LV cCheck 22 := rightG_eq annsM stageM0 400 vcCheck_eq vcCheck_ok (conT rfl)
theorem g_rcheck : RightG Try.prog U0 LV cRcheck 20 := rightG_eq annsM stageM0 400 vcRcheck_eq vcRcheck_ok (conT rfl)
theorem g_rcedits : RightG Try.prog U0 LV cRcedits 18 := rightG_eq annsM stageM0 400 vcRcedits_eq vcRcedits_ok (conT rfl)
theorem g_rfind : RightG Try.prog U0 LV cRfind 23 := rightG_eq annsM stageM0 400 vcRfind_eq vcRfind_ok (conT rfl)
theorem g_same : RightG Try.prog U0 LV cSame 11 := rightG_eq annsM stageM0 400 vcSame_eq vcSame_ok (conT rfl)
theorem g_ins : RightG Try.prog U0 LV cIns 33 := rightG_eq annsM stageM0 400 vcIns_eq vcIns_ok (conT rfl)
theorem g_plain : RightG Try.prog U0 LV cPlain 14 := rightG_eq annsM stageM0 400 vcPlain_eq vcPlain_ok (conT rfl)
theorem g_ofl : RightG Try.prog U0 LV cOfl 8 := rightG_eq annsM stageM0 400 vcOfl_eq vcOfl_ok (conT rfl)
theorem g_ofw : RightG Try.prog U0 LV cOfw 16 := rightG_eq annsM stageM0 400 vcOfw_eq vcOfw_ok (conT rfl)
theorem stageA0_ok : AllG Try.prog U0 LV stageA0 := ⟨g_named, g_text, g_rname, g_rstr, g_cmp, g_nm, g_val, g_check, g_rcheck, g_rcedits, g_rfind, g_same, g_ins, g_plain, g_ofl, g_ofw, g_lives, trivial⟩
theorem g_cedits : RightG Try.prog U0 LV cCedits 12 := rightG_eq annsA (l := stageA 0) stageA0_ok 400 vcCedits_eq vcCedits_ok (conT rfl)
theorem g_find : RightG Try.prog U0 LV cFind 21 := rightG_eq annsA (l := stageA 0) stageA0_ok 400 vcFind_eq vcFind_ok (conT rfl)
theorem g_rapp : RightG Try.prog U0 LV cRapp 13 := rightG_eq annsA (l := stageA 0) stageA0_ok 400 vcRapp_eq vcRapp_ok (conT rfl)
theorem stageA1_ok : AllG Try.prog U0 LV (stageA 1) := ⟨g_cedits, stageA0_ok⟩
theorem g_diff : RightG Try.prog U0 LV cDiff 9 := rightG_eq annsA stageA1_ok 400 vcDiff_eq vcDiff_ok (conT rfl)
theorem g_app : RightG Try.prog U0 LV cApp 10 := rightG_eq annsA stageA1_ok 400 vcApp_eq vcApp_ok (conT rfl)
theorem g_comp : RightG Try.prog U0 LV cComp 17 := rightG_eq annsA stageA1_ok 400 vcComp_eq vcComp_ok (conT rfl)
theorem stageL0_ok : AllG Try.prog U0 LV (stageL 0) := ⟨g_diff, g_app, g_comp, g_find, g_rapp, g_cedits, stageA0_ok⟩

theorem g_err : RightG Try.prog U0 LV cErr 6 := rightG_eq annsL stageL0_ok 400 vcErr_eq vcErr_ok (conT rfl)

/-! ## Lists of attributes, of edits, and strings -/

theorem at_kinds : kf Try.prog 59 = [.str, .str] := by kernel_rfl
theorem at_kd : kd1 Try.prog 25 = .sl 59 := by kernel_rfl
theorem at_good : goodK Try.prog 3 (.sl 59) = true := by kernel_rfl
theorem ed_kinds : kf Try.prog 61 = [.str, .bool, .str] := by kernel_rfl
theorem ed_kd : kd1 Try.prog 27 = .sl 61 := by kernel_rfl
theorem ed_good : goodK Try.prog 3 (.sl 61) = true := by kernel_rfl
theorem str_kd : kd1 Try.prog 9 = .str := by kernel_rfl

theorem dw_str {P : Program} {d : Dat} (h : DW P .str d) : ∃ s, d = .str s := by
  cases h with
  | str s h => exact ⟨s, rfl⟩
theorem dw_bool {P : Program} {d : Dat} (h : DW P .bool d) : ∃ b, d = .bool b := by
  cases h with
  | bool b => exact ⟨b, rfl⟩

theorem rows_of {rows : Sx.Rows} {α : Type} (f : α → List Dat) (h : ∀ r ∈ rows, ∃ a, r = f a) : ∃ L : List α, rows = L.map f := by
  induction rows with
  | nil => exact ⟨[], rfl⟩
  | cons r rows ih =>
    obtain ⟨a, e⟩ := h r (by simp)
    obtain ⟨L, e'⟩ := ih fun r hr => h r (by simp [hr])
    exact ⟨a :: L, by rw [e, e']; rfl⟩

theorem ats_of {d : Dat} (h : DW Try.prog (.sl 59) d) : ∃ L : List Att, d = .lst (L.map Att.row) := by
  cases h with
  | sl _ rows hl hz hh =>
    obtain ⟨L, h2⟩ := rows_of Att.row (rows := rows) fun r hr => by
      have h3 := hz r hr
      rw [at_kinds] at h3
      obtain ⟨i, hi⟩ := List.mem_iff_getElem?.1 hr
      match r, h3, hi with
      | [a, b], _, hi =>
        have ka := hh i 0 _ .str a hi rfl (by rw [at_kinds]; rfl)
        have kb := hh i 1 _ .str b hi rfl (by rw [at_kinds]; rfl)
        obtain ⟨x, rfl⟩ := dw_str ka
        obtain ⟨y, rfl⟩ := dw_str kb
        exact ⟨⟨x, y⟩, rfl⟩
    exact ⟨L, by rw [h2]⟩
theorem eds_of {d : Dat} (h : DW Try.prog (.sl 61) d) : ∃ L : List Ed, d = .lst (L.map Ed.row) := by
  cases h with
  | sl _ rows hl hz hh =>
    obtain ⟨L, h2⟩ := rows_of Ed.row (rows := rows) fun r hr => by
      have h3 := hz r hr
      rw [ed_kinds] at h3
      obtain ⟨i, hi⟩ := List.mem_iff_getElem?.1 hr
      match r, h3, hi with
      | [a, b, c], _, hi =>
        have ka := hh i 0 _ .str a hi rfl (by rw [ed_kinds]; rfl)
        have kb := hh i 1 _ .bool b hi rfl (by rw [ed_kinds]; rfl)
        have kc := hh i 2 _ .str c hi rfl (by rw [ed_kinds]; rfl)
        obtain ⟨x, rfl⟩ := dw_str ka
        obtain ⟨y, rfl⟩ := dw_bool kb
        obtain ⟨z, rfl⟩ := dw_str kc
        exact ⟨⟨x, y, z⟩, rfl⟩
    exact ⟨L, by rw [h2]⟩

section
variable {H : Type} {enc : TypeId × Value → H} {W : World} {spare : Nat → Bool} {held : Bool}

theorem arg_ats {v : Value} {d : DataW H} {ps : List MemPlace} {r : Reach} {b : Nat} (ht : Try.prog.underlying 25 = some (.slice 59)) (hv : Value.okWide Try.prog W r b 25 v) (h : DataW.Trod enc Try.prog W 0 spare held 25 v d ps) :
    ∃ (a : Value) (L : List Att), VR (roSg W) a v ∧ ∀ n, VD Try.prog U0 (fun _ => none) (roF W) (.lst 59 (.dat n (.lst (L.map Att.row))) false) a := by
  obtain ⟨a0, len, cap, rfl⟩ := Go.WideShapes.okWide_slice ht hv
  obtain ⟨d', a, h1, h2, h3⟩ := arg_one h (m := 3) (by rw [at_kd]; exact at_good) rfl
  rw [at_kd] at h2 h3
  obtain ⟨L, rfl⟩ := ats_of h3
  exact ⟨a, L, absV_VR h1, fun n => .lst 59 _ false a h2 (fun h => by cases h)⟩
theorem arg_eds {v : Value} {d : DataW H} {ps : List MemPlace} {r : Reach} {b : Nat} (ht : Try.prog.underlying 27 = some (.slice 61)) (hv : Value.okWide Try.prog W r b 27 v) (h : DataW.Trod enc Try.prog W 0 spare held 27 v d ps) :
    ∃ (a : Value) (L : List Ed), VR (roSg W) a v ∧ ∀ n, VD Try.prog U0 (fun _ => none) (roF W) (.lst 61 (.dat n (.lst (L.map Ed.row))) false) a := by
  obtain ⟨a0, len, cap, rfl⟩ := Go.WideShapes.okWide_slice ht hv
  obtain ⟨d', a, h1, h2, h3⟩ := arg_one h (m := 3) (by rw [ed_kd]; exact ed_good) rfl
  rw [ed_kd] at h2 h3
  obtain ⟨L, rfl⟩ := eds_of h3
  exact ⟨a, L, absV_VR h1, fun n => .lst 61 _ false a h2 (fun h => by cases h)⟩
theorem arg_str {v : Value} {d : DataW H} {ps : List MemPlace} {r : Reach} {b : Nat} (ht : Try.prog.underlying 9 = some .string) (hv : Value.okWide Try.prog W r b 9 v) (h : DataW.Trod enc Try.prog W 0 spare held 9 v d ps) :
    ∃ (a : Value) (s : Str), VR (roSg W) a v ∧ ∀ n, VD Try.prog U0 (fun _ => none) (roF W) (.str (.dat n (.str s))) a := by
  obtain ⟨s0, rfl⟩ := Go.WideShapes.okWide_string ht hv
  obtain ⟨d', a, h1, h2, h3⟩ := arg_one h (m := 3) (by rw [str_kd]; rfl) rfl
  rw [str_kd] at h2 h3
  obtain ⟨s, rfl⟩ := dw_str h3
  cases h2
  exact ⟨_, s, absV_VR h1, fun n => .str (.dat n (.str s))⟩
end

theorem err_walk {H : Type} {enc : TypeId × Value → H} {W : World} {spare : Nat → Bool} {held : Bool} {v w u : Value} {d e f : DataW H} {ps qs rs : List MemPlace} (hm : Try.prog.follows .mixedOrders = true)
    (ht : Try.prog.underlying 25 = some (.slice 59)) (ht' : Try.prog.underlying 27 = some (.slice 61)) (ht'' : Try.prog.underlying 9 = some .string) {r : Reach} {b : Nat} (hv : Value.okWide Try.prog W r b 25 v) (hw : Value.okWide Try.prog W r b 27 w) (hu : Value.okWide Try.prog W r b 9 u)
    (h : DataW.Trod enc Try.prog W 0 spare held 25 v d ps) (k : DataW.Trod enc Try.prog W 0 spare held 27 w e qs) (l : DataW.Trod enc Try.prog W 0 spare held 9 u f rs) : Calls Try.prog 6 #[v, w, u] W fun e w' => e = .returned (.bool true) ∧ Below W.heap.size W w' := by
  obtain ⟨a, L, h2, h3⟩ := arg_ats ht hv h
  obtain ⟨a', M, k2, k3⟩ := arg_eds ht' hw k
  obtain ⟨a'', s, l2, l3⟩ := arg_str ht'' hu l
  refine law_calls hm (LV_ok hm) g_err rfl rfl rfl (fun d e h => h) rfl (fun nb ds => rfl) (es := [.dat 0 (.lst (L.map Att.row)), .dat 1 (.lst (M.map Ed.row)), .dat 2 (.str s)]) rfl ⟨⟨L, rfl⟩, M, rfl⟩ (xs := [a, a', a'']) (ys := [v, w, u]) ?_ (VRL.cons h2 (VRL.cons k2 (VRL.cons l2 (VRL.nil _))))
  exact VDL.cons (h3 0) (VDL.cons (k3 1) (VDL.cons (l3 2) VDL.nil))

end Go.C13
