/- Chapter 19: the contracts of DiffsErrors stand.
  Conditions: none. -/
import Derived.Test.YtcjhhnoaoldcmaaGreatF3
import Derived.Test.YtcjhhnoaoldcmaaGreatC6
import Derived.Test.YtcjhhnoaoldcmaaGreatG6
import Derived.Test.YtcjhhnoaoldcmaaGreatG8
import Derived.Test.YtcjhhnoaoldcmaaGreatG9
import Derived.Test.YtcjhhnoaoldcmaaGreatJ3
set_option linter.unusedVariables false
set_option maxRecDepth 100000
noncomputable section
namespace Go.D
open Go Go.Xe Go.Sx Go.RowKit
open Go.C36 (row t6 lis cLong cRlong longPre longRel rlongPre rlongRel)
open Go.Proofs
theorem stC0 :P1 PR U0 LV (stageC 0):=⟨g_long,g_rlong,g_lives,trivial⟩
theorem g_mat :m8 PR U0 LV cMat 41:=l7 annsC stC0 noX 400 vcMat_eq vcMat_ok (J2 rfl)
theorem g_stay :m8 PR U0 LV cStay 23:=l7 annsC stC0 noX 400 vcStay_eq vcStay_ok (J2 rfl)
theorem g_rstay :m8 PR U0 LV cRstay 24:=l7 annsC stC0 noX 400 vcRstay_eq vcRstay_ok (J2 rfl)
theorem stC2 :P1 PR U0 LV (stageC 2):=⟨g_mat,g_chk,g_lives,trivial⟩
theorem g_dmt :m8 PR U0 LV cDmt 21:=l7 annsC stC2 noX 400 vcDmt_eq vcDmt_ok (J2 rfl)
theorem g_cmp :m8 PR U0 LV cCmp 112:=l7 annsD st_l allX 400 vcCmp_eq vcCmp_ok (J2 rfl)
theorem stD1 :P1 PR U0 LV (stageD 1):=⟨g_chk,g_cmp,g_lives,trivial⟩
theorem g_adf :m8 PR U0 LV cAdf 81:=l7 annsD stD1 allX 400 vcAdf_eq vcAdf_ok (J2 rfl)
theorem g_put :m8 PR U0 LV cPut 48:=l7 annsD st_l allX 400 vcPut_eq vcPut_ok (J2 rfl)
theorem stD2 :P1 PR U0 LV (stageD 2):=⟨g_adf,g_put,g_lives,trivial⟩
theorem g_own :m8 PR U0 LV cOwn 46:=l7 annsD stD2 allX 400 vcOwn_eq vcOwn_ok (J2 rfl)
theorem stD3 :P1 PR U0 LV (stageD 3):=⟨g_put,g_own,g_mat,g_stay,g_chk,g_cpd,g_lives,trivial⟩
theorem g_node :m8 PR U0 LV cNode 31:=N4 annsD stD3 allX 400 nodeMu vcNode_eq vcNode_ok (fun n=>J2 rfl)
theorem g_mat2 :m8 PR U0 LV cMat2 41:=l7 annsG st_l noX 400 vcMat2_eq vcMat2_ok (J2 rfl)
theorem allG :aL5 PR U0 LV (primsG PR):=⟨⟨bt8 g_mat2,rfl⟩,trivial⟩
theorem g_rname :m8 PR U0 LV cRname 71:=l7 annsG st_l allG 400 vcRname_eq vcRname_ok (J2 rfl)
theorem g_rstr :m8 PR U0 LV cRstr 72:=l7 annsG st_l allG 400 vcRstr_eq vcRstr_ok (J2 rfl)
theorem stG1 :P1 PR U0 LV (stageG 1):=⟨g_rname,g_rstr,g_lives,trivial⟩
theorem g_one :m8 PR U0 LV cOne 94:=l7 annsG stG1 allG 400 vcOne_eq vcOne_ok (J2 rfl)
theorem stG2 :P1 PR U0 LV (stageG 2):=⟨g_one,g_lives,trivial⟩
theorem g_rcnt :m8 PR U0 LV cRcnt 68:=N4 annsG stG2 allG 400 rcntMu vcRcnt_eq vcRcnt_ok (fun n=>J2 rfl)
theorem stG3 :P1 PR U0 LV (stageG 3):=⟨g_rcnt,g_lives,trivial⟩
theorem g_rchk :m8 PR U0 LV cRchk 15:=l7 annsG stG3 allG 400 vcRchk_eq vcRchk_ok (J2 rfl)
theorem g_wgh :m8 PR U0 LV cWgh 16:=N4 annsG st_l allG 400 wghMu vcWgh_eq vcWgh_ok (fun n=>J2 rfl)
theorem stG4 :P1 PR U0 LV (stageG 4):=⟨g_chk,g_cpd,g_node,g_lives,trivial⟩
theorem g_dde :m8 PR U0 LV cDde 8:=l7 annsG stG4 allG 400 vcDde_eq vcDde_ok (J2 rfl)
theorem stG5 :P1 PR U0 LV (stageG 5):=⟨g_cpd,g_lives,trivial⟩
theorem g_cpo :m8 PR U0 LV cCpo 45:=l7 annsG stG5 allG 400 vcCpo_eq vcCpo_ok (J2 rfl)
theorem stG6 :P1 PR U0 LV (stageG 6):=⟨g_chk,g_cpd,g_lives,trivial⟩
theorem g_kp :m8 PR U0 LV cKp 42:=N4 annsG stG6 allG 400 kpMu vcKp_eq vcKp_ok (fun n=>J2 rfl)
theorem stG7 :P1 PR U0 LV (stageG 7):=⟨g_chk,g_cpo,g_kp,g_lives,trivial⟩
theorem g_kpt :m8 PR U0 LV cKpt 22:=l7 annsG stG7 allG 400 vcKpt_eq vcKpt_ok (J2 rfl)
theorem stJ0 :P1 PR U0 LV (stageJ 0):=⟨g_wgh,g_rchk,g_dmt,g_dde,g_kpt,g_chk,g_cpd,g_stay,g_rstay,g_lives,trivial⟩
theorem g_err :m8 PR U0 LV cErr 6:=l7 annsJ stJ0 noX 400 vcErr_eq vcErr_ok (J2 rfl)
end Go.D
