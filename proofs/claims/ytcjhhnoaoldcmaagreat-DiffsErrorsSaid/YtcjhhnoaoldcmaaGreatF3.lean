/- Chapter 19: the contracts stand.
  Conditions: none. -/
import Derived.Test.YtcjhhnoaoldcmaaGreatF0
import Derived.Test.YtcjhhnoaoldcmaaGreatD8
import Derived.Test.YtcjhhnoaoldcmaaGreatB5
import Derived.Test.YtcjhhnoaoldcmaaGreatB6
set_option linter.unusedVariables false
set_option maxRecDepth 100000
noncomputable section
namespace Go.D
open Go Go.Xe Go.Sx Go.RowKit
open Go.C36 (row t6 lis cLong cRlong longPre longRel rlongPre rlongRel)
open Go.Proofs
noncomputable def ρi :Go.Shelf.Ren:=⟨fun n=>bif Nat.beq n 27 then 83 else bif Nat.beq n 28 then 84 else n,fun t=>bif Nat.beq t 22 then 45 else t,fun g=>g⟩
noncomputable def iei :TypeInfo:=(PR.info? 3).getD default
theorem iei_eq :PR.info? 3=some iei:=by kernel_rfl
theorem iei_size :iei.size=1:=by kernel_rfl
theorem delI :bf8 PR 53 ρi 3 iei (.int .i64 0) where
 fn:=⟨ad1 PR 53,by kernel_rfl,by kernel_rfl,by kernel_rfl,by kernel_rfl⟩
 t22:=by kernel_rfl
 ty:=iei_eq
 zero:=by kernel_rfl
 cst:=rfl
 zl:=by kernel_rfl
 one:=rfl
 by_:=bP8 (by kernel_rfl)
theorem insI :ah6 PR 51 ρi 3 iei (.int .i64 0) where
 fn:=⟨ad1 PR 51,by kernel_rfl,by kernel_rfl,by kernel_rfl,by kernel_rfl⟩
 t22:=by kernel_rfl
 t3:=by kernel_rfl
 ty:=iei_eq
 zero:=by kernel_rfl
 cst:=rfl
 zl:=by kernel_rfl
 sz:=by rw[iei_size];exact bK2 _
 by_:=bP8 (by kernel_rfl)
 fo:=⟨ad1 PR 83,by kernel_rfl,by kernel_rfl⟩
 nT:=by kernel_rfl
theorem allX :aL5 PR U0 LV (primsD PR):=by
 have h1:=bc7 (U:=U0) (ov:=LV) delI rfl
 have h2:=bd1 (U:=U0) (ov:=LV) insI rfl rfl
 rw[iei_size]at h1 h2
 exact⟨⟨h1,rfl⟩,⟨h2,rfl⟩,trivial⟩
theorem g_lives :m8 PR U0 LV (M8 "lives") LVn:=at8 rfl "lives"
theorem st_l :P1 PR U0 LV [(LVn,M8 "lives")]:=⟨g_lives,trivial⟩
theorem noX :aL5 PR U0 LV []:=trivial
theorem g_named :m8 PR U0 LV cNamed 115:=l7 annsA st_l noX 400 vcNamed_eq vcNamed_ok (J2 rfl)
theorem g_text :m8 PR U0 LV cText 114:=l7 annsA st_l noX 400 vcText_eq vcText_ok (J2 rfl)
theorem stA1 :P1 PR U0 LV (stageA 1):=⟨g_named,g_text,g_lives,trivial⟩
theorem g_alone :m8 PR U0 LV cAlone 108:=l7 annsA stA1 noX 400 vcAlone_eq vcAlone_ok (J2 rfl)
theorem stA2 :P1 PR U0 LV (stageA 2):=⟨g_alone,g_lives,trivial⟩
theorem g_walk :m8 PR U0 LV cWalk 107:=N4 annsA stA2 noX 400 walkMu vcWalk_eq vcWalk_ok (fun n=>J2 rfl)
theorem stA3 :P1 PR U0 LV (stageA 3):=⟨g_walk,g_lives,trivial⟩
theorem g_chk :m8 PR U0 LV cChk 34:=l7 annsA stA3 noX 400 vcChk_eq vcChk_ok (J2 rfl)
theorem g_cpd :m8 PR U0 LV cCpd 45:=N4 annsA st_l noX 400 cpdMu vcCpd_eq vcCpd_ok (fun n=>J2 rfl)
theorem stS0 :P1 PR C36.U0 LV (C36.stageS 0):=⟨at8 rfl "lives",trivial⟩
theorem noXS :aL5 PR C36.U0 LV []:=trivial
theorem g_len :m8 PR C36.U0 LV C36.cLen 77:=l7 C36.annsS stS0 noXS 400 C36.vcLen_eq C36.vcLen_ok (J2 rfl)
theorem g_max :m8 PR C36.U0 LV C36.cMax 78:=l7 C36.annsS stS0 noXS 400 C36.vcMax_eq C36.vcMax_ok (J2 rfl)
theorem stS1 :P1 PR C36.U0 LV (C36.stageS 1):=⟨g_len,g_max,at8 rfl "lives",trivial⟩
theorem g_long :m8 PR C36.U0 LV C36.cLong 43:=l7 C36.annsS stS1 noXS 400 C36.vcLong_eq C36.vcLong_ok (J2 rfl)
theorem g_rlong :m8 PR C36.U0 LV C36.cRlong 44:=l7 C36.annsS stS0 noXS 400 C36.vcRlong_eq C36.vcRlong_ok (J2 rfl)
end Go.D
