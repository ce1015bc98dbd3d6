/- Chapter 19: 'lives' answers true.
  Conditions: none. -/
import Derived.Test.YtcjhhnoaoldcmaaGreatP1
import Derived.Test.YtcjhhnoaoldcmaaGreatA1
import Derived.RowKit
import Derived.Test.YtcjhhnoaoldcmaaGreatD8
import Derived.Test.YtcjhhnoaoldcmaaGreatA9
import Derived.Test.YtcjhhnoaoldcmaaGreatB5
import Derived.Test.YtcjhhnoaoldcmaaGreatB6
set_option linter.unusedVariables false
noncomputable section
namespace Go.D
open Go Go.Xe Go.Sx Go.RowKit
open Go.Proofs
theorem LO_ok :∀g t,LO g=some t->Z8 PR g t:=bf4 (Z8.of 4 (by kernel_rfl) (by kernel_rfl) (by kernel_rfl) (by kernel_rfl) (by kernel_rfl)) bA1
set_option maxRecDepth 100000 in
theorem lives_yes (hm:PR.follows .mixedOrders=true):aX2 PR LVn:=fun w=>
 at3 (P:=PR) (f:=14) (k:=4) (n:=5000) (m:=5000) (nt:=92) (s:=sLV) hm LO_ok (by kernel_rfl) (by kernel_rfl) (by kernel_rfl) (O0.step (k:=0) O0.start 4 (bt7 (aJ5 hm LO_ok 5000) (ap6 hm) lvA)) lvB w
noncomputable def LM :FuncId->Option TypeId:=aD3 110 26 LO
theorem LM_ok :∀g t,LM g=some t->Z8 PR g t:=bf4 (Z8.of 4 (by kernel_rfl) (by kernel_rfl) (by kernel_rfl) (by kernel_rfl) (by kernel_rfl)) LO_ok
noncomputable def LV :FuncId->Option TypeId:=aD3 LVn af4 LM
theorem LV_ok (hm:PR.follows .mixedOrders=true):∀g t,LV g=some t->Z8 PR g t:=by
 intro g t h
 unfold LV aD3 at h
 cases hb:Nat.beq g LVn with
 |true=>
  rw[hb,bG8,bF1]at h
  rw[<-h,bF6 hb]
  exact bA4 (lives_yes hm)
 |false=>rw[hb,bG9]at h;exact LM_ok g t h
end Go.D
set_option maxRecDepth 100000
noncomputable section
namespace Go.D
open Go Go.Xe Go.Sx Go.RowKit
open Go.C36 (row j0 lis cLong cRlong longPre longRel rlongPre rlongRel)
open Go.Proofs
noncomputable def ρi :Go.Shelf.Ren:=⟨fun n=>bif Nat.beq n 27 then 83 else bif Nat.beq n 28 then 84 else n,fun t=>bif Nat.beq t 22 then 45 else t,fun g=>g⟩
noncomputable def iei :TypeInfo:=(PR.info? 3).getD default
theorem iei_eq :PR.info? 3=some iei:=by kernel_rfl
theorem iei_size :iei.size=1:=by kernel_rfl
theorem delI :aO0 PR 53 ρi 3 iei (.int .i64 0) where
 fn:=⟨T4 PR 53,by kernel_rfl,by kernel_rfl,by kernel_rfl,by kernel_rfl⟩
 t22:=by kernel_rfl
 ty:=iei_eq
 zero:=by kernel_rfl
 cst:=rfl
 zl:=by kernel_rfl
 one:=rfl
 by_:=bN0 (by kernel_rfl)
theorem insI :Z7 PR 51 ρi 3 iei (.int .i64 0) where
 fn:=⟨T4 PR 51,by kernel_rfl,by kernel_rfl,by kernel_rfl,by kernel_rfl⟩
 t22:=by kernel_rfl
 t3:=by kernel_rfl
 ty:=iei_eq
 zero:=by kernel_rfl
 cst:=rfl
 zl:=by kernel_rfl
 sz:=by rw[iei_size];exact bH4 _
 by_:=bN0 (by kernel_rfl)
 fo:=⟨T4 PR 83,by kernel_rfl,by kernel_rfl⟩
 nT:=by kernel_rfl
theorem allX :aD2 PR U0 LV (primsD PR):=by
 have h1:=az7 (U:=U0) (ov:=LV) delI rfl
 have h2:=aA0 (U:=U0) (ov:=LV) insI rfl rfl
 rw[iei_size]at h1 h2
 exact⟨⟨h1,rfl⟩,⟨h2,rfl⟩,trivial⟩
theorem g_lives :i7 PR U0 LV (D1 "lives") LVn:=aq6 rfl "lives"
theorem st_l :M0 PR U0 LV [(LVn,D1 "lives")]:=⟨g_lives,trivial⟩
theorem noX :aD2 PR U0 LV []:=trivial
theorem g_named :i7 PR U0 LV cNamed 115:=i3 annsA st_l noX 400 vcNamed_eq vcNamed_ok (F8 rfl)
theorem g_text :i7 PR U0 LV cText 114:=i3 annsA st_l noX 400 vcText_eq vcText_ok (F8 rfl)
theorem stA1 :M0 PR U0 LV (stageA 1):=⟨g_named,g_text,g_lives,trivial⟩
theorem g_alone :i7 PR U0 LV cAlone 108:=i3 annsA stA1 noX 400 vcAlone_eq vcAlone_ok (F8 rfl)
theorem stA2 :M0 PR U0 LV (stageA 2):=⟨g_alone,g_lives,trivial⟩
theorem g_walk :i7 PR U0 LV cWalk 107:=K5 annsA stA2 noX 400 walkMu vcWalk_eq vcWalk_ok (fun n=>F8 rfl)
theorem stA3 :M0 PR U0 LV (stageA 3):=⟨g_walk,g_lives,trivial⟩
theorem g_chk :i7 PR U0 LV cChk 34:=i3 annsA stA3 noX 400 vcChk_eq vcChk_ok (F8 rfl)
theorem g_cpd :i7 PR U0 LV cCpd 45:=K5 annsA st_l noX 400 cpdMu vcCpd_eq vcCpd_ok (fun n=>F8 rfl)
theorem g_tag :i7 PR U0 LV cTag 25:=i3 annsB st_l noX 400 vcTag_eq vcTag_ok (F8 rfl)
theorem g_ats :i7 PR U0 LV cAts 26:=i3 annsB st_l noX 400 vcAts_eq vcAts_ok (F8 rfl)
theorem stB1 :M0 PR U0 LV (stageB 1):=⟨g_tag,g_ats,g_lives,trivial⟩
theorem g_bld :i7 PR U0 LV cBld 27:=K5 annsB stB1 noX 400 bldMu vcBld_eq vcBld_ok (fun n=>F8 rfl)
theorem stB2 :M0 PR U0 LV (stageB 2):=⟨g_bld,g_tag,g_ats,g_lives,trivial⟩
theorem stS0 :M0 PR C36.U0 LV (C36.stageS 0):=⟨aq6 rfl "lives",trivial⟩
theorem noXS :aD2 PR C36.U0 LV []:=trivial
theorem g_len :i7 PR C36.U0 LV C36.cLen 77:=i3 C36.annsS stS0 noXS 400 C36.vcLen_eq C36.vcLen_ok (F8 rfl)
theorem g_max :i7 PR C36.U0 LV C36.cMax 78:=i3 C36.annsS stS0 noXS 400 C36.vcMax_eq C36.vcMax_ok (F8 rfl)
theorem stS1 :M0 PR C36.U0 LV (C36.stageS 1):=⟨g_len,g_max,aq6 rfl "lives",trivial⟩
theorem g_long :i7 PR C36.U0 LV C36.cLong 43:=i3 C36.annsS stS1 noXS 400 C36.vcLong_eq C36.vcLong_ok (F8 rfl)
theorem g_rlong :i7 PR C36.U0 LV C36.cRlong 44:=i3 C36.annsS stS0 noXS 400 C36.vcRlong_eq C36.vcRlong_ok (F8 rfl)
end Go.D
