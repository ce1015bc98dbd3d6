/- Chapter 36, the contracts stand; a law's argument.
  Conditions: none. -/
import Derived.Test.YtpdcecfnlccicaaQ7
import Derived.RowKit
import Derived.WideShapes
noncomputable section
namespace Go.C36
open Go Go.Xe Go.Sx Go.RowKit
open Go.Proofs
theorem lives_run : yes ((exec Try.prog noOv 5000).run 12 [] Hp.empty) = true := by kernel_rfl
theorem lives_yes (hm : Try.prog.follows .mixedOrders = true) : TrueOK Try.prog 12 := fun w => calls_yes hm noOv_ok lives_run w
def LV : FuncId → Option TypeId := ovIf 12 tTrue noOv
theorem LV_ok (hm : Try.prog.follows .mixedOrders = true) : ∀ g t, LV g = some t → OvOK Try.prog g t := by
 intro g t h
 unfold LV ovIf at h
 cases hb : Nat.beq g 12 with
 | true =>
  rw [hb, cond_true, Option.some.injEq] at h
  rw [← h, Nat.eq_of_beq_eq_true hb]
  exact ov_true (lives_yes hm)
 | false => rw [hb, cond_false] at h; cases h
theorem g_lives : RightG Try.prog U0 LV (cYes "lives") 12 := yes_right rfl "lives"
theorem stageS0 : AllG Try.prog U0 LV (stageS 0) := ⟨g_lives, trivial⟩
theorem g_len : RightG Try.prog U0 LV cLen 48 := rightG_eq annsS stageS0 400 vcLen_eq vcLen_ok (conT rfl)
theorem g_max : RightG Try.prog U0 LV cMax 49 := rightG_eq annsS stageS0 400 vcMax_eq vcMax_ok (conT rfl)
theorem stageS1 : AllG Try.prog U0 LV (stageS 1) := ⟨g_len, g_max, g_lives, trivial⟩
theorem g_long : RightG Try.prog U0 LV cLong 47 := rightG_eq annsS stageS1 400 vcLong_eq vcLong_ok (conT rfl)
theorem stageV0 : AllG Try.prog U0 LV (stageV 0) := ⟨g_lives, trivial⟩
theorem g_check : RightG Try.prog U0 LV cCheck 46 := rightG_eq annsV stageV0 400 vcCheck_eq vcCheck_ok (conT rfl)
theorem stageV1 : AllG Try.prog U0 LV (stageV 1) := ⟨g_check, g_long, g_lives, trivial⟩
theorem g_kepti : RightG Try.prog U0 LV cKepti 42 := rightG_eq annsV stageV1 400 vcKepti_eq vcKepti_ok (conT rfl)
theorem stageV2 : AllG Try.prog U0 LV (stageV 2) := ⟨g_kepti, g_lives, trivial⟩
theorem g_kept : RightG Try.prog U0 LV cKept 30 := rightG_eq annsV stageV2 400 vcKept_eq vcKept_ok (conT rfl)
theorem stageP0 : AllG Try.prog U0 LV (stageP 0) := ⟨g_lives, trivial⟩
theorem g_pcheck : RightG Try.prog U0 LV cPcheck 24 := rightG_eq annsP stageP0 400 vcPcheck_eq vcPcheck_ok (conT rfl)
theorem g_right : RightG Try.prog U0 LV cRight 27 := rightG_eq annsP stageP0 400 vcRight_eq vcRight_ok (conT rfl)
theorem stageU0 : AllG Try.prog U0 LV (stageU 0) := ⟨g_lives, trivial⟩
theorem g_nstays : RightG Try.prog U0 LV cNstays 10 := rightG_eq annsU stageU0 400 vcNstays_eq vcNstays_ok (conT rfl)
theorem stageX0 : AllG Try.prog U0 LV (stageX 0) := ⟨g_lives, trivial⟩
theorem g_nmoves : RightG Try.prog U0 LV cNmoves 11 := rightG_eq annsX stageX0 400 vcNmoves_eq vcNmoves_ok (conT rfl)
theorem stageZ0 : AllG Try.prog U0 LV (stageZ 0) := ⟨g_lives, trivial⟩
theorem g_idx : RightG Try.prog U0 LV cIdx 43 := rightG_eq annsZ stageZ0 400 vcIdx_eq vcIdx_ok (conT rfl)
theorem stageZ1 : AllG Try.prog U0 LV (stageZ 1) := ⟨g_pcheck, g_right, g_kept, g_idx, g_lives, trivial⟩
theorem g_of : RightG Try.prog U0 LV cOf 9 := rightG_eq annsZ stageZ1 400 vcOf_eq vcOf_ok (conT rfl)
theorem stageB0 : AllG Try.prog U0 LV (stageB 0) := ⟨g_lives, trivial⟩
theorem g_ahead : RightG Try.prog U0 LV cAhead 13 := rightG_eq annsB stageB0 400 vcAhead_eq vcAhead_ok (conT rfl)
theorem g_nbinds : RightG Try.prog U0 LV cNbinds 22 := rightG_eq annsB stageB0 400 vcNbinds_eq vcNbinds_ok (conT rfl)
theorem g_nmakes : RightG Try.prog U0 LV cNmakes 17 := rightG_eq annsB stageB0 400 vcNmakes_eq vcNmakes_ok (conT rfl)
theorem g_ndrops : RightG Try.prog U0 LV cNdrops 18 := rightG_eq annsB stageB0 400 vcNdrops_eq vcNdrops_ok (conT rfl)
theorem g_peq : RightG Try.prog U0 LV cPeq 20 := rightG_eq annsB stageB0 400 vcPeq_eq vcPeq_ok (conT rfl)
theorem g_pfind : RightG Try.prog U0 LV cPfind 40 := rightG_eq annsB stageB0 400 vcPfind_eq vcPfind_ok (conT rfl)
theorem g_rlens : RightG Try.prog U0 LV cRlens 45 := rightG_eq annsB stageB0 400 vcRlens_eq vcRlens_ok (conT rfl)
theorem stageB1 : AllG Try.prog U0 LV (stageB 1) := ⟨g_rlens, g_lives, trivial⟩
theorem g_rkept : RightG Try.prog U0 LV cRkept 38 := rightG_eq annsB stageB1 400 vcRkept_eq vcRkept_ok (conT rfl)
theorem stageC0 : AllG Try.prog U0 LV (stageC 0) := ⟨g_pfind, g_rkept, g_lives, trivial⟩
theorem g_rof : RightG Try.prog U0 LV cRof 19 := rightG_eq annsC stageC0 400 vcRof_eq vcRof_ok (conT rfl)
end Go.C36
