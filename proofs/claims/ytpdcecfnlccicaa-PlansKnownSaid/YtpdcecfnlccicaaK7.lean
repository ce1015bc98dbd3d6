/- Chapter 36, PlansKnown: the contracts stand; the walk.
  Conditions: none. -/
import Derived.Test.YtpdcecfnlccicaaK6
import Derived.Test.YtpdcecfnlccicaaRows
import Derived.KernelRfl
import Derived.RowKit
set_option linter.unusedVariables false
noncomputable section
namespace Go.C36
open Go Go.Xe Go.Sx Go.RowKit
open Go.Proofs
theorem lives_run : yes ((exec Try.prog noOv 5000).run 12 [] Hp.empty)=true:=by kernel_rfl
theorem lives_yes (hm : Try.prog.follows .mixedOrders=true) : TrueOK Try.prog 12:=fun w=>calls_yes hm noOv_ok lives_run w
def LV : FuncId→Option TypeId:=ovIf 12 tTrue noOv
theorem LV_ok (hm : Try.prog.follows .mixedOrders=true) : ∀ g t,LV g=some t→OvOK Try.prog g t:=by
 intro g t h
 unfold LV ovIf at h
 cases hb : Nat.beq g 12 with
 | true =>
  rw [hb,cond_true,Option.some.injEq] at h
  rw [← h,Nat.eq_of_beq_eq_true hb]
  exact ov_true (lives_yes hm)
 | false=>rw [hb,cond_false] at h; cases h
theorem g_lives : RightG Try.prog U0 LV (cYes "lives") 12:=yes_right rfl "lives"
theorem stageS0 : AllG Try.prog U0 LV (stageS 0):=⟨g_lives,trivial⟩
theorem g_len : RightG Try.prog U0 LV cLen 48:=rightG_eq annsS stageS0 400 vcLen_eq vcLen_ok (conT rfl)
theorem g_max : RightG Try.prog U0 LV cMax 49:=rightG_eq annsS stageS0 400 vcMax_eq vcMax_ok (conT rfl)
theorem stageS1 : AllG Try.prog U0 LV (stageS 1):=⟨g_len,g_max,g_lives,trivial⟩
theorem g_long : RightG Try.prog U0 LV cLong 47:=rightG_eq annsS stageS1 400 vcLong_eq vcLong_ok (conT rfl)
theorem stageV0 : AllG Try.prog U0 LV (stageV 0):=⟨g_lives,trivial⟩
theorem g_check : RightG Try.prog U0 LV cCheck 46:=rightG_eq annsV stageV0 400 vcCheck_eq vcCheck_ok (conT rfl)
theorem stageV1 : AllG Try.prog U0 LV (stageV 1):=⟨g_check,g_long,g_lives,trivial⟩
theorem g_kepti : RightG Try.prog U0 LV cKepti 42:=rightG_eq annsV stageV1 400 vcKepti_eq vcKepti_ok (conT rfl)
theorem stageV2 : AllG Try.prog U0 LV (stageV 2):=⟨g_kepti,g_lives,trivial⟩
theorem g_kept : RightG Try.prog U0 LV cKept 30:=rightG_eq annsV stageV2 400 vcKept_eq vcKept_ok (conT rfl)
theorem stageP0 : AllG Try.prog U0 LV (stageP 0):=⟨g_lives,trivial⟩
theorem g_right : RightG Try.prog U0 LV cRight 27:=rightG_eq annsP stageP0 400 vcRight_eq vcRight_ok (conT rfl)
theorem stageU0 : AllG Try.prog U0 LV (stageU 0):=⟨g_lives,trivial⟩
theorem g_nstays : RightG Try.prog U0 LV cNstays 10:=rightG_eq annsU stageU0 400 vcNstays_eq vcNstays_ok (conT rfl)
theorem stageX0 : AllG Try.prog U0 LV (stageX 0):=⟨g_lives,trivial⟩
theorem g_nmoves : RightG Try.prog U0 LV cNmoves 11:=rightG_eq annsX stageX0 400 vcNmoves_eq vcNmoves_ok (conT rfl)
theorem stageZ0 : AllG Try.prog U0 LV (stageZ 0):=⟨g_lives,trivial⟩
theorem g_idx : RightG Try.prog U0 LV cIdx 43:=rightG_eq annsZ stageZ0 400 vcIdx_eq vcIdx_ok (conT rfl)
theorem stageB0 : AllG Try.prog U0 LV (stageB 0):=⟨g_lives,trivial⟩
theorem g_nbinds : RightG Try.prog U0 LV cNbinds 22:=rightG_eq annsB stageB0 400 vcNbinds_eq vcNbinds_ok (conT rfl)
theorem g_nmakes : RightG Try.prog U0 LV cNmakes 17:=rightG_eq annsB stageB0 400 vcNmakes_eq vcNmakes_ok (conT rfl)
theorem g_ndrops : RightG Try.prog U0 LV cNdrops 18:=rightG_eq annsB stageB0 400 vcNdrops_eq vcNdrops_ok (conT rfl)
theorem stageK0 : AllG Try.prog U0 LV (stageK 0):=⟨g_lives,trivial⟩
theorem lendsK0 : AllG Try.prog U0 LV (lendsK 0):=trivial
theorem g_pcheckx : RightG Try.prog U0 LV cPcheckx 24:=rightL_eq annsK stageK0 lendsK0 400 vcPcheckx_eq vcPcheckx_ok (conT rfl)
theorem stageK1 : AllG Try.prog U0 LV (stageK 1):=⟨g_pcheckx,g_right,g_kept,g_idx,g_lives,trivial⟩
theorem lendsK1 : AllG Try.prog U0 LV (lendsK 1):=trivial
theorem g_ofx : RightG Try.prog U0 LV cOfx 9:=rightL_eq annsK stageK1 lendsK1 400 vcOfx_eq vcOfx_ok (conT rfl)
theorem stageK2 : AllG Try.prog U0 LV (stageK 2):=⟨g_nstays,g_nmoves,g_ndrops,g_nbinds,g_nmakes,g_lives,trivial⟩
theorem lendsK2 : AllG Try.prog U0 LV (lendsK 2):=⟨g_ofx,trivial⟩
theorem g_kn : RightG Try.prog U0 LV cKn 7:=rightL_eq annsK stageK2 lendsK2 400 vcKn_eq vcKn_ok (conT rfl)
theorem knRel_true {d e : List Dat} (h : knRel d e) : e=[.bool true]:=by
 unfold knRel at h
 split at h
 ·rw [h]
 ·exact h.elim
theorem kn_walk {W : World} (hm : Try.prog.follows .mixedOrders=true) : Calls Try.prog 7 #[] W fun e w' => e = .returned (.bool true)∧Below W.heap.size W w' :=
 law_calls hm (LV_ok hm) g_kn rfl rfl rfl (fun d e h=>knRel_true h) rfl (fun nb ds=>rfl) (es:=[]) rfl rfl (xs:=[]) (ys:=[]) VDL.nil (VRL.nil _)
end Go.C36
