/- Chapter 19: the contracts stand.
  Conditions: none. -/
import Derived.Test.YtcjhhnoaoldcmaaF0
import Derived.Test.YtcjhhnoaoldcmaaD8
import Derived.Test.YtcjhhnoaoldcmaaA9
import Derived.Test.YtcjhhnoaoldcmaaB5
import Derived.Test.YtcjhhnoaoldcmaaB6
set_option linter.unusedVariables false
set_option maxRecDepth 100000
noncomputable section
namespace Go.D
open Go Go.Xe Go.Sx Go.RowKit
open Go.C36 (row A2 lis cLong cRlong longPre longRel rlongPre rlongRel)
open Go.Proofs
noncomputable def ρi :Go.Shelf.Ren:=⟨fun n=>bif Nat.beq n 27 then 71 else bif Nat.beq n 28 then 72 else n,fun t=>bif Nat.beq t 22 then 30 else t,fun g=>g⟩
noncomputable def iei :TypeInfo:=(PR.info? 3).getD default
theorem iei_eq :PR.info? 3=some iei:=by kernel_rfl
theorem iei_size :iei.size=1:=by kernel_rfl
theorem delI :be7 PR 51 ρi 3 iei (.int .i64 0) where
 fn:=⟨ac1 PR 51,by kernel_rfl,by kernel_rfl,by kernel_rfl,by kernel_rfl⟩
 t22:=by kernel_rfl
 ty:=iei_eq
 zero:=by kernel_rfl
 cst:=rfl
 zl:=by kernel_rfl
 one:=rfl
 by_:=bN3 (by kernel_rfl)
theorem insI :ag4 PR 49 ρi 3 iei (.int .i64 0) where
 fn:=⟨ac1 PR 49,by kernel_rfl,by kernel_rfl,by kernel_rfl,by kernel_rfl⟩
 t22:=by kernel_rfl
 t3:=by kernel_rfl
 ty:=iei_eq
 zero:=by kernel_rfl
 cst:=rfl
 zl:=by kernel_rfl
 sz:=by rw[iei_size];exact bH7 _
 by_:=bN3 (by kernel_rfl)
 fo:=⟨ac1 PR 71,by kernel_rfl,by kernel_rfl⟩
 nT:=by kernel_rfl
theorem allX :aP1 PR U0 LV (primsD PR):=by
 have h1:=bb5 (U:=U0) (ov:=LV) delI rfl
 have h2:=bb9 (U:=U0) (ov:=LV) insI rfl rfl
 rw[iei_size]at h1 h2
 exact⟨⟨h1,rfl⟩,⟨h2,rfl⟩,trivial⟩
theorem g_lives :p9 PR U0 LV (R7 "lives") LVn:=aq7 rfl "lives"
theorem st_l :T7 PR U0 LV [(LVn,R7 "lives")]:=⟨g_lives,trivial⟩
theorem noX :aP1 PR U0 LV []:=trivial
theorem g_named :p9 PR U0 LV cNamed 102:=n8 annsA st_l noX 400 vcNamed_eq vcNamed_ok (M3 rfl)
theorem g_text :p9 PR U0 LV cText 101:=n8 annsA st_l noX 400 vcText_eq vcText_ok (M3 rfl)
theorem stA1 :T7 PR U0 LV (stageA 1):=⟨g_named,g_text,g_lives,trivial⟩
theorem g_alone :p9 PR U0 LV cAlone 94:=n8 annsA stA1 noX 400 vcAlone_eq vcAlone_ok (M3 rfl)
theorem stA2 :T7 PR U0 LV (stageA 2):=⟨g_alone,g_lives,trivial⟩
theorem g_walk :p9 PR U0 LV cWalk 93:=Y8 annsA stA2 noX 400 walkMu vcWalk_eq vcWalk_ok (fun n=>M3 rfl)
theorem stA3 :T7 PR U0 LV (stageA 3):=⟨g_walk,g_lives,trivial⟩
theorem g_chk :p9 PR U0 LV cChk 34:=n8 annsA stA3 noX 400 vcChk_eq vcChk_ok (M3 rfl)
theorem g_cpd :p9 PR U0 LV cCpd 43:=Y8 annsA st_l noX 400 cpdMu vcCpd_eq vcCpd_ok (fun n=>M3 rfl)
theorem g_tag :p9 PR U0 LV cTag 21:=n8 annsB st_l noX 400 vcTag_eq vcTag_ok (M3 rfl)
theorem g_ats :p9 PR U0 LV cAts 22:=n8 annsB st_l noX 400 vcAts_eq vcAts_ok (M3 rfl)
theorem stB1 :T7 PR U0 LV (stageB 1):=⟨g_tag,g_ats,g_lives,trivial⟩
theorem g_bld :p9 PR U0 LV cBld 23:=Y8 annsB stB1 noX 400 bldMu vcBld_eq vcBld_ok (fun n=>M3 rfl)
theorem stB2 :T7 PR U0 LV (stageB 2):=⟨g_bld,g_tag,g_ats,g_lives,trivial⟩
theorem g_tree :p9 PR U0 LV cTree 6:=n8 annsB stB2 noX 400 vcTree_eq vcTree_ok (M3 rfl)
theorem stS0 :T7 PR C36.U0 LV (C36.stageS 0):=⟨aq7 rfl "lives",trivial⟩
theorem noXS :aP1 PR C36.U0 LV []:=trivial
theorem g_len :p9 PR C36.U0 LV C36.cLen 52:=n8 C36.annsS stS0 noXS 400 C36.vcLen_eq C36.vcLen_ok (M3 rfl)
theorem g_max :p9 PR C36.U0 LV C36.cMax 53:=n8 C36.annsS stS0 noXS 400 C36.vcMax_eq C36.vcMax_ok (M3 rfl)
theorem stS1 :T7 PR C36.U0 LV (C36.stageS 1):=⟨g_len,g_max,aq7 rfl "lives",trivial⟩
theorem g_long :p9 PR C36.U0 LV C36.cLong 31:=n8 C36.annsS stS1 noXS 400 C36.vcLong_eq C36.vcLong_ok (M3 rfl)
theorem g_rlong :p9 PR C36.U0 LV C36.cRlong 32:=n8 C36.annsS stS0 noXS 400 C36.vcRlong_eq C36.vcRlong_ok (M3 rfl)
end Go.D
