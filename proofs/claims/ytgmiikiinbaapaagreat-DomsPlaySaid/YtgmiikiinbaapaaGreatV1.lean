/- Chapter 16: the contracts stand.
  Conditions: none. -/
import Derived.Test.YtgmiikiinbaapaaGreatP0
import Derived.Test.YtgmiikiinbaapaaGreatY5
import Derived.Test.YtgmiikiinbaapaaGreatW3
import Derived.Test.YtgmiikiinbaapaaGreatW8
set_option linter.all false
set_option maxRecDepth 100000
noncomputable section
namespace Go.D
open Go Go.Xe Go.Sx Go.RowKit
open Go.Proofs
def MG :∀g t,LO g=some t->iH PR g t:=Mg (iH.of 4 (by kernel_rfl) (by kernel_rfl) (by kernel_rfl) (by kernel_rfl) (by kernel_rfl)) Mc
def HB (hm:PR.follows .mixedOrders=true):DY PR LVn:=fun w=>Ee hm MG HA w
noncomputable def LV :Aa:=zT LVn iB LO
def LV_ok (hm:PR.follows .mixedOrders=true):∀g t,LV g=some t->iH PR g t:=by
 intro g t h;unfold LV zT at h;cases hb:Nat.beq g LVn with
 |true=>rw[hb,OT,OD]at h;rw[<-h,OI hb];exact Mh (HB hm)|false=>rw[hb,OU]at h;exact MG g t h
noncomputable def ρh :Go.Shelf.Ren:=⟨fun n=>bif Nat.beq n 27 then 115 else bif Nat.beq n 28 then 116 else n,fun t=>bif Nat.beq t 22 then 35 else t,fun g=>g⟩
noncomputable def ieh :Ba:=(PR.info? tHd).getD default
def JB :PR.info? tHd=some ieh:=by kernel_rfl
def Cn :ieh.size=2:=by kernel_rfl
def zvH :Av:= .agg #[.int .u32 0,.int .u32 0]
def delH :Gd PR 143 ρh tHd ieh zvH where
 fn:=⟨yY PR 143,by kernel_rfl,by kernel_rfl,by kernel_rfl,by kernel_rfl⟩
 t22:=by kernel_rfl
 ty:=JB
 zero:=by kernel_rfl
 cst:=rfl
 zl:=by kernel_rfl
 one:=rfl
 by_:=Qi (by kernel_rfl)
def insH :gX PR 50 ρh tHd ieh zvH where
 fn:=⟨yY PR 50,by kernel_rfl,by kernel_rfl,by kernel_rfl,by kernel_rfl⟩
 t22:=by kernel_rfl
 t3:=by kernel_rfl
 ty:=JB
 zero:=by kernel_rfl
 cst:=rfl
 zl:=by kernel_rfl
 sz:=by rw[Cn];decide
 by_:=Qi (by kernel_rfl)
 fo:=⟨yY PR 115,by kernel_rfl,by kernel_rfl⟩
 nT:=by kernel_rfl
def D1 :j3 PR U0 LV (cYes "lives") LVn:=IK rfl "lives"
def K2 :S3 PR U0 LV [(LVn,cYes "lives")]:=⟨D1,trivial⟩
def noX :dQ PR U0 LV []:=trivial
def LP :j3 PR U0 LV cNamed 160:=i5 dD K2 noX 400 vcNamed_eq vcNamed_ok (A6 rfl)
def NW :j3 PR U0 LV cText 159:=i5 dD K2 noX 400 vcText_eq vcText_ok (A6 rfl)
def stA1 :S3 PR U0 LV (cM 1):=⟨LP,NW,D1,trivial⟩
def LN :j3 PR U0 LV cAlone 156:=i5 dD stA1 noX 400 vcAlone_eq vcAlone_ok (A6 rfl)
def stA2 :S3 PR U0 LV (cM 2):=⟨LN,D1,trivial⟩
def NX :j3 PR U0 LV cWalk 155:=N0 dD stA2 noX 400 fJ vcWalk_eq vcWalk_ok (fun n=>A6 rfl)
def stA3 :S3 PR U0 LV (cM 3):=⟨NX,D1,trivial⟩
def Jp :j3 PR U0 LV cChk 60:=i5 dD stA3 noX 400 vcChk_eq vcChk_ok (A6 rfl)
def g_cpd :j3 PR U0 LV cCpd 122:=N0 dD K2 noX 400 wD vcCpd_eq vcCpd_ok (fun n=>A6 rfl)
def r_at :RRO PR U0 LV cAt 45:=R2 T5 K2 noX 400 vcAt_eq vcAt_ok (A6 rfl)
def r_vld :RRO PR U0 LV cVld 110:=R2 T5 K2 noX 400 vcVld_eq vcVld_ok (A6 rfl)
def r_plc :RRO PR U0 LV cPlc 48:=R2 T5 K2 noX 400 vcPlc_eq vcPlc_ok (A6 rfl)
def xB1 :dQ PR U0 LV (sW 1 PR):=⟨⟨L6 r_at,rfl⟩,trivial⟩
def r_abo :RRO PR U0 LV cAbo 46:=R2 T5 K2 xB1 400 vcAbo_eq vcAbo_ok (A6 rfl)
def xO :dQ PR U0 LV (S8 0 PR):=⟨⟨L6 r_at,rfl⟩,⟨L6 r_vld,rfl⟩,⟨L6 r_plc,rfl⟩,⟨L6 r_abo,rfl⟩,trivial⟩
def stO :S3 PR U0 LV (FE 0):=⟨Jp,D1,trivial⟩
def g_stx :j3 PR U0 LV cStx 33:=i5 Gh stO xO 400 vcStx_eq vcStx_ok (A6 rfl)
def g_plk :j3 PR U0 LV cPlk 36:=i5 Gh stO xO 400 vcPlk_eq vcPlk_ok (A6 rfl)
def xK :dQ PR U0 LV (zV 0 PR):=by have h1:=Fi (U:=U0) (ov:=LV) delH rfl;have h2:=Oz (Fq (U:=U0) (ov:=LV) insH rfl rfl) (by kernel_rfl) rfl;rw[Cn]at h1 h2;exact⟨⟨h1,rfl⟩,⟨h2,rfl⟩,xO⟩
def g_ins :j3 PR U0 LV cIns 13:=i5 vY K2 xK 400 vcIns_eq vcIns_ok (A6 rfl)
def g_rem :j3 PR U0 LV cRem 34:=i5 vY K2 xK 400 vcRem_eq vcRem_ok (A6 rfl)
def g_mov :j3 PR U0 LV cMov 35:=i5 vY K2 xK 400 vcMov_eq vcMov_ok (A6 rfl)
def g_cre :j3 PR U0 LV cCre 37:=i5 MJ stO xO 400 vcCre_eq vcCre_ok (A6 rfl)
def g_cmp :j3 PR U0 LV cCmp 153:=i5 vX stO noX 400 vcCmp_eq vcCmp_ok (A6 rfl)
def MZ :j3 PR U0 LV cCed 105:=i5 vX stO noX 400 vcCed_eq vcCed_ok (A6 rfl)
def stF1 :S3 PR U0 LV (AY 1):=⟨g_cmp,Jp,MZ,D1,trivial⟩
def g_app :j3 PR U0 LV cApp 107:=i5 vX stF1 noX 400 vcApp_eq vcApp_ok (A6 rfl)
def stG :S3 PR U0 LV (KY 0):=⟨MZ,g_app,D1,trivial⟩
def g_edt :j3 PR U0 LV cEdt 38:=i5 MK stG xO 400 vcEdt_eq vcEdt_ok (A6 rfl)
def r_hds :RRO PR U0 LV cHds 82:=R2 oK K2 xO 400 vcHds_eq vcHds_ok (A6 rfl)
def r_wai :RRO PR U0 LV cWai 58:=R2 oK K2 xO 400 vcWai_eq vcWai_ok (A6 rfl)
def xH1 :dQ PR U0 LV (sX 1 PR):=⟨⟨L6 r_hds,rfl⟩,xO⟩
def r_roo :RRO PR U0 LV cRoo 25:=R2 oK K2 xH1 400 vcRoo_eq vcRoo_ok (A6 rfl)
def r_lok :RRO PR U0 LV cLok 17:=R2 oK K2 xO 400 vcLok_eq vcLok_ok (A6 rfl)
def r_tre :RRO PR U0 LV cTre 59:=Mm ML K2 xO 400 Dl vcTre_eq vcTre_ok (A6 rfl)
def stM :S3 PR U0 LV (KZ 0):=⟨Jp,g_cpd,D1,trivial⟩
def xM :dQ PR U0 LV (Km 0 PR):=⟨⟨L6 r_tre,rfl⟩,xO⟩
def r_tee :RRO PR U0 LV cTee 16:=R2 MM stM xM 400 vcTee_eq vcTee_ok (A6 rfl)
def g_frc :j3 PR U0 LV cFrc 53:=N0 MN K2 xO 400 wK vcFrc_eq vcFrc_ok (fun n=>A6 rfl)
def stP :S3 PR U0 LV (La 0):=⟨g_frc,D1,trivial⟩
def g_fre :j3 PR U0 LV cFre 14:=i5 MO stP xO 400 vcFre_eq vcFre_ok (A6 rfl)
def zB :j3 PR U0 LV cRname 126:=i5 hE K2 noX 400 vcRname_eq vcRname_ok (A6 rfl)
def Ej :j3 PR U0 LV cRstr 127:=i5 hE K2 noX 400 vcRstr_eq vcRstr_ok (A6 rfl)
def stV1 :S3 PR U0 LV (fH 1):=⟨zB,Ej,D1,trivial⟩
def g_one :j3 PR U0 LV cOne 157:=i5 hE stV1 noX 400 vcOne_eq vcOne_ok (A6 rfl)
def stV2 :S3 PR U0 LV (fH 2):=⟨g_one,D1,trivial⟩
def NP :j3 PR U0 LV cRcnt 152:=N0 hE stV2 noX 400 nH vcRcnt_eq vcRcnt_ok (fun n=>A6 rfl)
def stV3 :S3 PR U0 LV (fH 3):=⟨NP,D1,trivial⟩
def Jr :j3 PR U0 LV cRchk 80:=i5 hE stV3 noX 400 vcRchk_eq vcRchk_ok (A6 rfl)
def g_equ :j3 PR U0 LV cEqu 138:=N0 Gi K2 noX 400 Cc vcEqu_eq vcEqu_ok (fun n=>A6 rfl)
def stW1 :S3 PR U0 LV (FF 1):=⟨Jr,g_equ,D1,trivial⟩
def g_sam :j3 PR U0 LV cSam 81:=i5 Gi stW1 noX 400 vcSam_eq vcSam_ok (A6 rfl)
def Jq :j3 PR U0 LV cRat 128:=i5 T7 K2 noX 400 vcRat_eq vcRat_ok (A6 rfl)
def Js :j3 PR U0 LV cRcp 29:=i5 T7 K2 noX 400 vcRcp_eq vcRcp_ok (A6 rfl)
def Nc :j3 PR U0 LV cRpl 133:=i5 T7 K2 noX 400 vcRpl_eq vcRpl_ok (A6 rfl)
def Ju :j3 PR U0 LV cRput 134:=i5 T7 K2 noX 400 vcRput_eq vcRput_ok (A6 rfl)
def Jv :j3 PR U0 LV cRwit 135:=i5 T7 K2 noX 400 vcRwit_eq vcRwit_ok (A6 rfl)
def Na :j3 PR U0 LV cFnd 129:=i5 T7 K2 noX 400 vcFnd_eq vcFnd_ok (A6 rfl)
def Jt :j3 PR U0 LV cRins 151:=i5 T7 K2 noX 400 vcRins_eq vcRins_ok (A6 rfl)
def stQ0 :S3 PR U0 LV (aD 0):=⟨zB,Ej,Jq,Js,Nc,Ju,Jv,Na,Jt,D1,trivial⟩
def g_rap :j3 PR U0 LV cRap 131:=i5 T6 stQ0 noX 400 vcRap_eq vcRap_ok (A6 rfl)
def stQ1 :S3 PR U0 LV (aD 1):=⟨zB,Ej,Jq,Js,Nc,Ju,Jv,Na,Jt,g_rap,D1,trivial⟩
def NQ :j3 PR U0 LV cRcre 67:=i5 T6 stQ0 noX 400 vcRcre_eq vcRcre_ok (A6 rfl)
def NN :j3 PR U0 LV cRatt 69:=i5 T6 stQ1 noX 400 vcRatt_eq vcRatt_ok (A6 rfl)
def NV :j3 PR U0 LV cRtxt 70:=i5 T6 stQ0 noX 400 vcRtxt_eq vcRtxt_ok (A6 rfl)
def NS :j3 PR U0 LV cRplk 74:=i5 T6 stQ0 noX 400 vcRplk_eq vcRplk_ok (A6 rfl)
def NT :j3 PR U0 LV cRrem 72:=i5 T6 stQ0 noX 400 vcRrem_eq vcRrem_ok (A6 rfl)
def g_rmv :j3 PR U0 LV cRmv 73:=i5 T6 stQ0 noX 400 vcRmv_eq vcRmv_ok (A6 rfl)
def g_rns :j3 PR U0 LV cRns 71:=i5 T6 stQ0 noX 400 vcRns_eq vcRns_ok (A6 rfl)
def NO :j3 PR U0 LV cRbel 136:=N0 vZ K2 noX 400 nG vcRbel_eq vcRbel_ok (fun n=>A6 rfl)
def NU :j3 PR U0 LV cRtre 79:=N0 vZ K2 noX 400 tK vcRtre_eq vcRtre_ok (fun n=>A6 rfl)
def stS1 :S3 PR U0 LV (Bd 1):=⟨Jq,Js,NO,D1,trivial⟩
def NR :j3 PR U0 LV cRfre 75:=i5 vZ stS1 noX 400 vcRfre_eq vcRfre_ok (A6 rfl)
def r_pck :RRO PR U0 LV cPck 64:=R2 dE K2 noX 400 vcPck_eq vcPck_ok (A6 rfl)
def r_hnd :RRO PR U0 LV cHnd 78:=R2 dE K2 noX 400 vcHnd_eq vcHnd_ok (A6 rfl)
def g_tag :j3 PR U0 LV cTag 65:=i5 dE K2 noX 400 vcTag_eq vcTag_ok (A6 rfl)
def g_nms :j3 PR U0 LV cNms 68:=i5 dE K2 noX 400 vcNms_eq vcNms_ok (A6 rfl)
def g_txt :j3 PR U0 LV cTxt 66:=i5 dE K2 noX 400 vcTxt_eq vcTxt_ok (A6 rfl)
def g_asm :j3 PR U0 LV cAsm 77:=i5 dE K2 noX 400 vcAsm_eq vcAsm_ok (A6 rfl)
def xX :dQ PR U0 LV (Ko 0 PR):=⟨⟨L6 r_pck,rfl⟩,trivial⟩
def stX :S3 PR U0 LV (Lb 0):=⟨g_tag,g_nms,g_txt,g_cre,g_edt,g_stx,g_plk,g_ins,g_rem,g_mov,g_fre,NQ,NN,NV,NS,g_rns,NT,g_rmv,NR,D1,trivial⟩
def g_do :j3 PR U0 LV cDo 22:=i5 MP stX xX 400 vcDo_eq vcDo_ok (A6 rfl)
def xY :dQ PR U0 LV (Kp 0 PR):=⟨⟨L6 r_lok,rfl⟩,⟨L6 r_tee,rfl⟩,⟨L6 r_roo,rfl⟩,⟨L6 r_wai,rfl⟩,⟨L6 r_hnd,rfl⟩,trivial⟩
def stY :S3 PR U0 LV (Lc 0):=⟨NU,Jr,g_sam,g_asm,D1,trivial⟩
def Ns :RRO PR U0 LV cSme 23:=R2 MQ stY xY 400 vcSme_eq vcSme_ok (A6 rfl)
end Go.D
