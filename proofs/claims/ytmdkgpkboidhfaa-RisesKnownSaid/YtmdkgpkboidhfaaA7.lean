/- Chapter 08, the contracts stand; the walk of RisesLongest.
  Conditions: none. -/
import Derived.Test.YtmdkgpkboidhfaaA6
import Derived.RowKit
import Derived.WideShapes
noncomputable section
namespace Go.C08
open Go Go.Xe Go.Sx Go.RowKit
open Go.Proofs
def LO : FuncId→Option TypeId:=ovIf 39 22 noOv
theorem LO_ok : ∀ g t,LO g=some t→OvOK Try.prog g t:=ovIf_ok (OvOK.of 4 (by kernel_rfl) (by kernel_rfl) (by kernel_rfl) (by kernel_rfl) (by kernel_rfl)) noOv_ok
theorem lives_run : yes ((exec Try.prog LO 5000).run 9 [] Hp.empty)=true:=by kernel_rfl
theorem lives_yes (hm : Try.prog.follows .mixedOrders=true) : TrueOK Try.prog 9:=fun w=>calls_yes hm LO_ok lives_run w
def LV : FuncId→Option TypeId:=ovIf 9 tTrue LO
theorem LV_ok (hm : Try.prog.follows .mixedOrders=true) : ∀ g t,LV g=some t→OvOK Try.prog g t:=by
 intro g t h
 unfold LV ovIf at h
 cases hb : Nat.beq g 9 with
 | true =>
  rw [hb,cond_true,Option.some.injEq] at h
  rw [← h,Nat.eq_of_beq_eq_true hb]
  exact ov_true (lives_yes hm)
 | false=>rw [hb,cond_false] at h; exact LO_ok g t h
theorem g_lives : RightG Try.prog U0 LV (cYes "lives") 9:=yes_right rfl "lives"
theorem stageS0 : AllG Try.prog U0 LV (stageS 0):=⟨g_lives,trivial⟩
theorem g_len : RightG Try.prog U0 LV cLen 24:=rightG_eq annsS stageS0 400 vcLen_eq vcLen_ok (conT rfl)
theorem g_max : RightG Try.prog U0 LV cMax 25:=rightG_eq annsS stageS0 400 vcMax_eq vcMax_ok (conT rfl)
theorem g_same : RightG Try.prog U0 LV cSame 11:=rightG_eq annsS stageS0 400 vcSame_eq vcSame_ok (conT rfl)
theorem stageS1 : AllG Try.prog U0 LV (stageS 1):=⟨g_len,g_max,g_lives,trivial⟩
theorem g_long : RightG Try.prog U0 LV cLong 10:=rightG_eq annsS stageS1 400 vcLong_eq vcLong_ok (conT rfl)
end Go.C08
