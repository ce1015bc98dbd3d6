/- Chapter 08, the contracts stand; the walk of RisesLongest.
  Conditions: none. -/
import Derived.Test.YtmdkgpkboidhfaaA6
import Derived.RowKit
import Derived.WideShapes
noncomputable section
namespace Go.C08
open Go Go.Xe Go.Sx Go.RowKit
open Go.Proofs
def LO : FuncId → Option TypeId := ovIf 39 22 noOv
theorem LO_ok : ∀ g t,LO g = some t → OvOK Try.prog g t := ovIf_ok (OvOK.of 4 (by kernel_rfl) (by kernel_rfl) (by kernel_rfl) (by kernel_rfl) (by kernel_rfl)) noOv_ok
theorem lives_run : yes ((exec Try.prog LO 5000).run 9 [] Hp.empty) = true := by kernel_rfl
theorem lives_yes (hm : Try.prog.follows .mixedOrders = true) : TrueOK Try.prog 9 := fun w => calls_yes hm LO_ok lives_run w
def LV : FuncId → Option TypeId := ovIf 9 tTrue noOv
theorem LV_ok (hm : Try.prog.follows .mixedOrders = true) : ∀ g t,LV g = some t → OvOK Try.prog g t := by
 intro g t h
 unfold LV ovIf at h
 cases hb : Nat.beq g 9 with
 | true =>
  rw [hb,cond_true,Option.some.injEq] at h
  rw [← h,Nat.eq_of_beq_eq_true hb]
  exact ov_true (lives_yes hm)
 | false => rw [hb,cond_false] at h; cases h
theorem g_lives : RightG Try.prog U0 LV (cYes "lives") 9 := yes_right rfl "lives"
theorem stageS0 : AllG Try.prog U0 LV (stageS 0) := ⟨g_lives,trivial⟩
theorem g_len : RightG Try.prog U0 LV cLen 24 := rightG_eq annsS stageS0 400 vcLen_eq vcLen_ok (conT rfl)
theorem g_max : RightG Try.prog U0 LV cMax 25 := rightG_eq annsS stageS0 400 vcMax_eq vcMax_ok (conT rfl)
theorem g_same : RightG Try.prog U0 LV cSame 11 := rightG_eq annsS stageS0 400 vcSame_eq vcSame_ok (conT rfl)
theorem g_rlong : RightG Try.prog U0 LV cRlong 12 := rightG_eq annsS stageS0 400 vcRlong_eq vcRlong_ok (conT rfl)
theorem stageS1 : AllG Try.prog U0 LV (stageS 1) := ⟨g_len,g_max,g_lives,trivial⟩
theorem g_long : RightG Try.prog U0 LV cLong 10 := rightG_eq annsS stageS1 400 vcLong_eq vcLong_ok (conT rfl)
theorem n_kinds : kf Try.prog 3 = [.int .i64] := by kernel_rfl
theorem n_kd : kd1 Try.prog 22 = .sl 3 := by kernel_rfl
theorem n_good : goodK Try.prog 3 (.sl 3) = true := by kernel_rfl
theorem rows_of {rows : Sx.Rows} {α : Type} (f : α → List Dat) (R : α → Prop) (h : ∀ r ∈ rows,∃ a,R a ∧ r = f a) : ∃ L : List α,(∀ a ∈ L,R a) ∧ rows = L.map f := by
 induction rows with
 | nil => exact ⟨[],fun a h => (by simp at h),rfl⟩
 | cons r rows ih =>
  obtain ⟨a,ha,e⟩ := h r (by simp)
  obtain ⟨L,hL,e'⟩ := ih fun r hr => h r (by simp [hr])
  exact ⟨a :: L,fun b hb => by rcases List.mem_cons.1 hb with rfl | hb; exact ha; exact hL b hb,by rw [e,e']; rfl⟩
def fits (n : Int) : Prop := IntKind.i64.min ≤ n ∧ n ≤ IntKind.i64.max
theorem dw_int {P : Program} {d : Dat} (h : DW P (.int .i64) d) : ∃ n,fits n ∧ d = .int n := by
 cases h with
 | int k n h => exact ⟨n,h,rfl⟩
theorem nums_of {d : Dat} (h : DW Try.prog (.sl 3) d) : ∃ L : List Int,(∀ n ∈ L,fits n) ∧ d = .lst (L.map row) := by
 cases h with
 | sl _ rows hl hz hh =>
  obtain ⟨L,h1,h2⟩ := rows_of row fits (rows := rows) fun r hr => by
   have h3 := hz r hr
   rw [n_kinds] at h3
   obtain ⟨i,hi⟩ := List.mem_iff_getElem?.1 hr
   match r,h3,hi with
   | [a],_,hi =>
    have ka := hh i 0 _ (.int .i64) a hi rfl (by rw [n_kinds]; rfl)
    obtain ⟨x,hx,rfl⟩ := dw_int ka
    exact ⟨x,hx,rfl⟩
  exact ⟨L,h1,by rw [h2]⟩
theorem arg_nums {H : Type} {enc : TypeId × Value → H} {W : World} {spare : Nat → Bool} {held : Bool} {v : Value} {d : DataW H} {ps : List MemPlace} {r : Reach} {b : Nat} (ht : Try.prog.underlying 22 = some (.slice 3)) (hv : Value.okWide Try.prog W r b 22 v) (h : DataW.Trod enc Try.prog W 0 spare held 22 v d ps) :
  ∃ (a : Value) (L : List Int),(∀ n ∈ L,fits n) ∧ VR (roSg W) a v ∧ ∀ n,VD Try.prog U0 (fun _ => none) (roF W) (.lst 3 (.dat n (.lst (L.map row))) false) a := by
 obtain ⟨a0,len,cap,rfl⟩ := Go.WideShapes.okWide_slice ht hv
 obtain ⟨d',a,h1,h2,h3⟩ := arg_one h (m := 3) (by rw [n_kd]; exact n_good) rfl
 rw [n_kd] at h2 h3
 obtain ⟨L,hL,rfl⟩ := nums_of h3
 exact ⟨a,L,hL,absV_VR h1,fun n => .lst 3 _ false a h2 (fun h => by cases h)⟩
end Go.C08
