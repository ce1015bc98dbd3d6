/- Chapter 16: the contracts stand.
  Conditions: none. -/
import Derived.Test.YtgmiikiinbaapaaGreatP0
import Derived.Test.YtgmiikiinbaapaaGreatW2
import Derived.Test.YtgmiikiinbaapaaGreatM7
set_option maxRecDepth 100000
set_option linter.all false
noncomputable section
namespace Go.D
open Go Go.Xe Go.Sx Go.RowKit
open Go.Proofs
def Oo :∀g t,LO g=some t->jW PR g t:=NO (jW.of 4 (by kernel_rfl) (by kernel_rfl) (by kernel_rfl) (by kernel_rfl) (by kernel_rfl)) NJ
def IS (hm:PR.follows .mixedOrders=true):Fi PR LVn:=fun w=>Fs hm Oo IR w
noncomputable def LV :Aa:=Bx LVn jQ LO
def LV_ok (hm:PR.follows .mixedOrders=true):∀g t,LV g=some t->jW PR g t:=by
 intro g t h;unfold LV Bx at h;cases hb:Nat.beq g LVn with
 |true=>rw[hb,QR,QA]at h;rw[<-h,QF hb];exact NP (IS hm)|false=>rw[hb,QS]at h;exact Oo g t h
noncomputable def ρh :Go.Shelf.Ren:=⟨fun n=>bif Nat.beq n 27 then 115 else bif Nat.beq n 28 then 116 else n,fun t=>bif Nat.beq t 22 then 35 else t,fun g=>g⟩
noncomputable def ieh :Ba:=(PR.info? tHd).getD default
def La :PR.info? tHd=some ieh:=by kernel_rfl
def Ds :ieh.size=2:=by kernel_rfl
def zvH :Av:= .agg #[.int .u32 0,.int .u32 0]
def delH :Hm PR 143 ρh tHd ieh zvH where
 fn:=⟨Bd PR 143,by kernel_rfl,by kernel_rfl,by kernel_rfl,by kernel_rfl⟩
 t22:=by kernel_rfl
 ty:=La
 zero:=by kernel_rfl
 cst:=rfl
 zl:=by kernel_rfl
 one:=rfl
 by_:=Sh (by kernel_rfl)
def insH :jG PR 50 ρh tHd ieh zvH where
 fn:=⟨Bd PR 50,by kernel_rfl,by kernel_rfl,by kernel_rfl,by kernel_rfl⟩
 t22:=by kernel_rfl
 t3:=by kernel_rfl
 ty:=La
 zero:=by kernel_rfl
 cst:=rfl
 zl:=by kernel_rfl
 sz:=by rw[Ds];decide
 by_:=Sh (by kernel_rfl)
 fo:=⟨Bd PR 115,by kernel_rfl,by kernel_rfl⟩
 nT:=by kernel_rfl
def A4 :j2 PR U0 LV (cYes "lives") LVn:=Kg rfl "lives"
def M7 :L8 PR U0 LV [(LVn,cYes "lives")]:=⟨A4,trivial⟩
def noX :aU PR U0 LV []:=trivial
def Nx :j2 PR U0 LV cNamed 160:=i6 eN M7 noX 400 vcNamed_eq vcNamed_ok (A2 rfl)
def PG :j2 PR U0 LV cText 159:=i6 eN M7 noX 400 vcText_eq vcText_ok (A2 rfl)
def stA1 :L8 PR U0 LV (dU 1):=⟨Nx,PG,A4,trivial⟩
def Nu :j2 PR U0 LV cAlone 156:=i6 eN stA1 noX 400 vcAlone_eq vcAlone_ok (A2 rfl)
def stA2 :L8 PR U0 LV (dU 2):=⟨Nu,A4,trivial⟩
def PH :j2 PR U0 LV cWalk 155:=Q3 eN stA2 noX 400 gW vcWalk_eq vcWalk_ok (fun n=>A2 rfl)
def stA3 :L8 PR U0 LV (dU 3):=⟨PH,A4,trivial⟩
def KO :j2 PR U0 LV cChk 60:=i6 eN stA3 noX 400 vcChk_eq vcChk_ok (A2 rfl)
def g_cpd :j2 PR U0 LV cCpd 122:=Q3 eN M7 noX 400 yI vcCpd_eq vcCpd_ok (fun n=>A2 rfl)
def LY :RRO PR U0 LV cAt 45:=O8 W6 M7 noX 400 vcAt_eq vcAt_ok (A2 rfl)
def r_vld :RRO PR U0 LV cVld 110:=O8 W6 M7 noX 400 vcVld_eq vcVld_ok (A2 rfl)
def r_plc :RRO PR U0 LV cPlc 48:=O8 W6 M7 noX 400 vcPlc_eq vcPlc_ok (A2 rfl)
def xB1 :aU PR U0 LV (uY 1 PR):=⟨⟨E2 LY,rfl⟩,trivial⟩
def r_abo :RRO PR U0 LV cAbo 46:=O8 W6 M7 xB1 400 vcAbo_eq vcAbo_ok (A2 rfl)
def xO :aU PR U0 LV (W3 0 PR):=⟨⟨E2 LY,rfl⟩,⟨E2 r_vld,rfl⟩,⟨E2 r_plc,rfl⟩,⟨E2 r_abo,rfl⟩,trivial⟩
def stO :L8 PR U0 LV (GS 0):=⟨KO,A4,trivial⟩
def g_stx :j2 PR U0 LV cStx 33:=i6 Hr stO xO 400 vcStx_eq vcStx_ok (A2 rfl)
def g_plk :j2 PR U0 LV cPlk 36:=i6 Hr stO xO 400 vcPlk_eq vcPlk_ok (A2 rfl)
def xK :aU PR U0 LV (By 0 PR):=by have h1:=Gy (U:=U0) (ov:=LV) delH rfl;have h2:=Qw (GE (U:=U0) (ov:=LV) insH rfl rfl) (by kernel_rfl) rfl;rw[Ds]at h1 h2;exact⟨⟨h1,rfl⟩,⟨h2,rfl⟩,xO⟩
def g_ins :j2 PR U0 LV cIns 13:=i6 yD M7 xK 400 vcIns_eq vcIns_ok (A2 rfl)
def g_rem :j2 PR U0 LV cRem 34:=i6 yD M7 xK 400 vcRem_eq vcRem_ok (A2 rfl)
def g_mov :j2 PR U0 LV cMov 35:=i6 yD M7 xK 400 vcMov_eq vcMov_ok (A2 rfl)
def g_cre :j2 PR U0 LV cCre 37:=i6 Ou stO xO 400 vcCre_eq vcCre_ok (A2 rfl)
def g_cmp :j2 PR U0 LV cCmp 153:=i6 yC stO noX 400 vcCmp_eq vcCmp_ok (A2 rfl)
def OK :j2 PR U0 LV cCed 105:=i6 yC stO noX 400 vcCed_eq vcCed_ok (A2 rfl)
def stF1 :L8 PR U0 LV (Cl 1):=⟨g_cmp,KO,OK,A4,trivial⟩
def g_app :j2 PR U0 LV cApp 107:=i6 yC stF1 noX 400 vcApp_eq vcApp_ok (A2 rfl)
def stG :L8 PR U0 LV (MG 0):=⟨OK,g_app,A4,trivial⟩
def g_edt :j2 PR U0 LV cEdt 38:=i6 Ov stG xO 400 vcEdt_eq vcEdt_ok (A2 rfl)
def LZ :RRO PR U0 LV cHds 82:=O8 qI M7 xO 400 vcHds_eq vcHds_ok (A2 rfl)
def OZ :RRO PR U0 LV cWai 58:=O8 qI M7 xO 400 vcWai_eq vcWai_ok (A2 rfl)
def xH1 :aU PR U0 LV (uZ 1 PR):=⟨⟨E2 LZ,rfl⟩,xO⟩
def r_roo :RRO PR U0 LV cRoo 25:=O8 qI M7 xH1 400 vcRoo_eq vcRoo_ok (A2 rfl)
def r_lok :RRO PR U0 LV cLok 17:=O8 qI M7 xO 400 vcLok_eq vcLok_ok (A2 rfl)
def r_tre :RRO PR U0 LV cTre 59:=NU Ow M7 xO 400 Ev vcTre_eq vcTre_ok (A2 rfl)
def stM :L8 PR U0 LV (MH 0):=⟨KO,g_cpd,A4,trivial⟩
def xM :aU PR U0 LV (LP 0 PR):=⟨⟨E2 r_tre,rfl⟩,xO⟩
def r_tee :RRO PR U0 LV cTee 16:=O8 Ox stM xM 400 vcTee_eq vcTee_ok (A2 rfl)
def g_frc :j2 PR U0 LV cFrc 53:=Q3 Oy M7 xO 400 yP vcFrc_eq vcFrc_ok (fun n=>A2 rfl)
def stP :L8 PR U0 LV (MI 0):=⟨g_frc,A4,trivial⟩
def g_fre :j2 PR U0 LV cFre 14:=i6 Oz stP xO 400 vcFre_eq vcFre_ok (A2 rfl)
def Bg :j2 PR U0 LV cRname 126:=i6 jJ M7 noX 400 vcRname_eq vcRname_ok (A2 rfl)
def FC :j2 PR U0 LV cRstr 127:=i6 jJ M7 noX 400 vcRstr_eq vcRstr_ok (A2 rfl)
def stV1 :L8 PR U0 LV (gU 1):=⟨Bg,FC,A4,trivial⟩
def g_one :j2 PR U0 LV cOne 157:=i6 jJ stV1 noX 400 vcOne_eq vcOne_ok (A2 rfl)
def stV2 :L8 PR U0 LV (gU 2):=⟨g_one,A4,trivial⟩
def Pz :j2 PR U0 LV cRcnt 152:=Q3 jJ stV2 noX 400 pE vcRcnt_eq vcRcnt_ok (fun n=>A2 rfl)
def stV3 :L8 PR U0 LV (gU 3):=⟨Pz,A4,trivial⟩
def KQ :j2 PR U0 LV cRchk 80:=i6 jJ stV3 noX 400 vcRchk_eq vcRchk_ok (A2 rfl)
def g_equ :j2 PR U0 LV cEqu 138:=Q3 Hs M7 noX 400 Di vcEqu_eq vcEqu_ok (fun n=>A2 rfl)
def stW1 :L8 PR U0 LV (GT 1):=⟨KQ,g_equ,A4,trivial⟩
def g_sam :j2 PR U0 LV cSam 81:=i6 Hs stW1 noX 400 vcSam_eq vcSam_ok (A2 rfl)
def KP :j2 PR U0 LV cRat 128:=i6 W8 M7 noX 400 vcRat_eq vcRat_ok (A2 rfl)
def HF :j2 PR U0 LV cRcp 29:=i6 W8 M7 noX 400 vcRcp_eq vcRcp_ok (A2 rfl)
def OM :j2 PR U0 LV cRpl 133:=i6 W8 M7 noX 400 vcRpl_eq vcRpl_ok (A2 rfl)
def KS :j2 PR U0 LV cRput 134:=i6 W8 M7 noX 400 vcRput_eq vcRput_ok (A2 rfl)
def KT :j2 PR U0 LV cRwit 135:=i6 W8 M7 noX 400 vcRwit_eq vcRwit_ok (A2 rfl)
def OL :j2 PR U0 LV cFnd 129:=i6 W8 M7 noX 400 vcFnd_eq vcFnd_ok (A2 rfl)
def KR :j2 PR U0 LV cRins 151:=i6 W8 M7 noX 400 vcRins_eq vcRins_ok (A2 rfl)
def stQ0 :L8 PR U0 LV (bJ 0):=⟨Bg,FC,KP,HF,OM,KS,KT,OL,KR,A4,trivial⟩
def g_rap :j2 PR U0 LV cRap 131:=i6 W7 stQ0 noX 400 vcRap_eq vcRap_ok (A2 rfl)
def stQ1 :L8 PR U0 LV (bJ 1):=⟨Bg,FC,KP,HF,OM,KS,KT,OL,KR,g_rap,A4,trivial⟩
def PA :j2 PR U0 LV cRcre 67:=i6 W7 stQ0 noX 400 vcRcre_eq vcRcre_ok (A2 rfl)
def Px :j2 PR U0 LV cRatt 69:=i6 W7 stQ1 noX 400 vcRatt_eq vcRatt_ok (A2 rfl)
def PF :j2 PR U0 LV cRtxt 70:=i6 W7 stQ0 noX 400 vcRtxt_eq vcRtxt_ok (A2 rfl)
def PC :j2 PR U0 LV cRplk 74:=i6 W7 stQ0 noX 400 vcRplk_eq vcRplk_ok (A2 rfl)
def PD :j2 PR U0 LV cRrem 72:=i6 W7 stQ0 noX 400 vcRrem_eq vcRrem_ok (A2 rfl)
def g_rmv :j2 PR U0 LV cRmv 73:=i6 W7 stQ0 noX 400 vcRmv_eq vcRmv_ok (A2 rfl)
def g_rns :j2 PR U0 LV cRns 71:=i6 W7 stQ0 noX 400 vcRns_eq vcRns_ok (A2 rfl)
def Py :j2 PR U0 LV cRbel 136:=Q3 yE M7 noX 400 pD vcRbel_eq vcRbel_ok (fun n=>A2 rfl)
def PE :j2 PR U0 LV cRtre 79:=Q3 yE M7 noX 400 vN vcRtre_eq vcRtre_ok (fun n=>A2 rfl)
def stS1 :L8 PR U0 LV (Cn 1):=⟨KP,HF,Py,A4,trivial⟩
def PB :j2 PR U0 LV cRfre 75:=i6 yE stS1 noX 400 vcRfre_eq vcRfre_ok (A2 rfl)
def r_pck :RRO PR U0 LV cPck 64:=O8 eO M7 noX 400 vcPck_eq vcPck_ok (A2 rfl)
def r_hnd :RRO PR U0 LV cHnd 78:=O8 eO M7 noX 400 vcHnd_eq vcHnd_ok (A2 rfl)
def g_tag :j2 PR U0 LV cTag 65:=i6 eO M7 noX 400 vcTag_eq vcTag_ok (A2 rfl)
def g_nms :j2 PR U0 LV cNms 68:=i6 eO M7 noX 400 vcNms_eq vcNms_ok (A2 rfl)
def g_txt :j2 PR U0 LV cTxt 66:=i6 eO M7 noX 400 vcTxt_eq vcTxt_ok (A2 rfl)
def yR :j2 PR U0 LV cAsm 77:=i6 eO M7 noX 400 vcAsm_eq vcAsm_ok (A2 rfl)
def xX :aU PR U0 LV (LR 0 PR):=⟨⟨E2 r_pck,rfl⟩,trivial⟩
def stX :L8 PR U0 LV (MJ 0):=⟨g_tag,g_nms,g_txt,g_cre,g_edt,g_stx,g_plk,g_ins,g_rem,g_mov,g_fre,PA,Px,PF,PC,g_rns,PD,g_rmv,PB,A4,trivial⟩
def g_do :j2 PR U0 LV cDo 22:=i6 OA stX xX 400 vcDo_eq vcDo_ok (A2 rfl)
def xY :aU PR U0 LV (LS 0 PR):=⟨⟨E2 r_lok,rfl⟩,⟨E2 r_tee,rfl⟩,⟨E2 r_roo,rfl⟩,⟨E2 OZ,rfl⟩,⟨E2 r_hnd,rfl⟩,trivial⟩
def stY :L8 PR U0 LV (MK 0):=⟨PE,KQ,g_sam,yR,A4,trivial⟩
def OY :RRO PR U0 LV cSme 23:=O8 OB stY xY 400 vcSme_eq vcSme_ok (A2 rfl)
def g_nwb :j2 PR U0 LV cNwb 21:=i6 OC M7 (show aU PR U0 LV (LU 0 PR)from⟨⟨E2 OY,rfl⟩,trivial⟩) 400 vcNwb_eq vcNwb_ok (A2 rfl)
def iE :kf PR 56=[.int .u8,.int .u8,.int .u8,.int .u8,.int .u8]:=by kernel_rfl
def OW :kd1 PR 51= .sl 56:=by kernel_rfl
def NN :Dp PR 3 (.sl 56)=true:=by kernel_rfl
def Dg {P:Aw}{d:Dat}(h:DW P (.int .u8) d):∃n:Int,B8 n/\d= .int n:=by
 cases h with
 |int k n h=>have h1:=h.1;have h2:n<=255:=h.2;exact⟨n,⟨h1,by omega⟩,rfl⟩
def os_of {d:Dat}(h:DW PR (.sl 56) d):∃L:Sx.Rows,(∀r∈L,O5 r)/\d= .lst L:=by
 cases h with
 |sl _ rows hl hz hh=>
  refine⟨rows,fun r hr=>?_,rfl⟩;have h3:=hz r hr;rw[iE]at h3;obtain⟨i,hi⟩:=RH.1 hr
  match r,h3,hi with
  | [a,b,c,d,e],_,hi=>obtain⟨a,f,rfl⟩:=Dg (hh i 0 _ (.int .u8) a hi rfl (by rw[iE];rfl));obtain⟨b,hb,rfl⟩:=Dg (hh i 1 _ (.int .u8) b hi rfl (by rw[iE];rfl));obtain⟨c,hc,rfl⟩:=Dg (hh i 2 _ (.int .u8) c hi rfl (by rw[iE];rfl));obtain⟨d,g,rfl⟩:=Dg (hh i 3 _ (.int .u8) d hi rfl (by rw[iE];rfl));obtain⟨e,he,rfl⟩:=Dg (hh i 4 _ (.int .u8) e hi rfl (by rw[iE];rfl));exact⟨a,b,c,d,e,rfl,f,hb,hc,g,he⟩
def Fo {H:Type}{enc:Ax×Av->H}{W:Bc}{c:Nat->Bool}{e:Bool}{v:Av}{d:DataW H}{ps:List MemPlace}(ht:PR.underlying 51=some (.slice 56)){r:Reach}{b:Nat}(hv:Value.okWide PR W r b 51 v)(h:DataW.Trod enc PR W 0 c e 51 v d ps):∃(a:Av) (L:Sx.Rows),(∀r∈L,O5 r)/\VR (Ea W) a v/\ ∀n,VD PR U0 (fun _=>none) (roF W) (.lst 56 (.dat n (.lst L)) false) a:=by obtain⟨f,len,cap,rfl⟩:=Go.WideShapes.okWide_slice ht hv;obtain⟨g,a,h1,h2,h3⟩:=Nl h (m:=3) (by rw[OW];exact NN) rfl;rw[OW]at h2 h3;obtain⟨L,hL,rfl⟩:=os_of h3;exact⟨a,L,hL,Hq h1,fun n=>.lst 56 _ false a h2 (fun h=>by cases h)⟩
def DK {d e:Ar}(h:Gk d e):∃r,e= .bool true::r:=by unfold Gk at h;split at h;exact⟨_,by rw[h]⟩;exact h.elim
def g_bpl :j2 PR U0 LV cBpl 24:=i6 Ko (show L8 PR U0 LV (Iu 0)from⟨g_do,A4,trivial⟩) (show aU PR U0 LV (HU 0 PR)from trivial) 400 vcBpl_eq vcBpl_ok (A2 rfl)
def PW {P:Aw}{ov:Aa}{g:Ay}(p:As->Bool){k1 k2:As->M SV}(h1:B0 P U0 ov k1 g)(h2:B0 P U0 ov k2 g):B0 P U0 ov (orK p k1 k2) g:=fun l args τ F s hp a b=>by unfold orK;cases p l;exact h2 l args τ F s hp a b;exact h1 l args τ F s hp a b
def g_eqh :j2 PR U0 LV cEqh 87:=i6 K9 (show L8 PR U0 LV (G3 0)from⟨yR,A4,trivial⟩) noX 400 vcEqh_eq vcEqh_ok (A2 rfl)
def g_eqa :j2 PR U0 LV cEqa 90:=i6 K9 (show L8 PR U0 LV (G3 0)from⟨yR,A4,trivial⟩) noX 400 vcEqa_eq vcEqa_ok (A2 rfl)
def Pb :L8 PR U0 LV (G3 1):=⟨g_eqh,g_eqa,A4,trivial⟩
def r_sm1 :RRO PR U0 LV cSm1 89:=O8 K9 (show L8 PR U0 LV (G3 3)from Pb) (show aU PR U0 LV (N9 3 PR)from⟨⟨E2 LY,rfl⟩,trivial⟩) 400 vcSm1_eq vcSm1_ok (A2 rfl)
def r_dsm :RRO PR U0 LV cDsm 31:=O8 K9 Pb (show aU PR U0 LV (N9 1 PR)from⟨⟨E2 LY,rfl⟩,⟨E2 LZ,rfl⟩,⟨E2 OZ,rfl⟩,⟨E2 r_sm1,rfl⟩,trivial⟩) 400 vcDsm_eq vcDsm_ok (A2 rfl)
def g_owv :j2 PR U0 LV cOwv 62:=i6 K9 (show L8 PR U0 LV (G3 0)from⟨yR,A4,trivial⟩) noX 400 vcOwv_eq vcOwv_ok (A2 rfl)
def r_clo :RRO PR U0 LV cClo 140:=O8 K9 (show L8 PR U0 LV (G3 0)from⟨yR,A4,trivial⟩) noX 400 vcClo_eq vcClo_ok (A2 rfl)
def g_dcp :j2 PR U0 LV cDcp 30:=i6 K9 (show L8 PR U0 LV (G3 4)from⟨g_owv,A4,trivial⟩) (show aU PR U0 LV (N9 4 PR)from⟨⟨E2 r_clo,rfl⟩,⟨E2 LY,rfl⟩,⟨E2 LZ,rfl⟩,trivial⟩) 400 vcDcp_eq vcDcp_ok (A2 rfl)
def g_eql :j2 PR U0 LV cEql 32:=i6 K9 (show L8 PR U0 LV (G3 0)from⟨yR,A4,trivial⟩) noX 400 vcEql_eq vcEql_ok (A2 rfl)
def Lz :B0 PR U0 LV (OT PR) 31:=GW (fun _=>[]) (rV (l:=[(LVn,cYes "lives")]) ⟨A4,trivial⟩ (xs:=[]) trivial) (fun g hg hn=>(show∀g,Xe.isT (LV g)=true->fP PR U0 [(LVn,cYes "lives")] g≠none from A2 rfl) g hg (iA (xs:=[]) (ov:=LV) (P:=PR) (U:=U0) trivial g hg hn)) 400 31 rfl
def xCP :aU PR U0 LV (N9 2 PR):=⟨⟨E2 OY,rfl⟩,⟨PW ptr2 (E2 r_dsm) Lz,rfl⟩,trivial⟩
def stCP2 :L8 PR U0 LV (G3 2):=⟨g_nwb,g_bpl,g_dcp,HF,g_eql,A4,trivial⟩
def g_cpy :j2 PR U0 LV cCpy 7:=i6 K9 stCP2 xCP 400 vcCpy_eq vcCpy_ok (A2 rfl)
def cpy_walk {H:Type}{enc:Ax×Av->H}{W:Bc}{c:Nat->Bool}{g:Bool}{v w x:Av}{d e f:DataW H}{ps y z:List MemPlace}(hm:PR.follows .mixedOrders=true)(ht:PR.underlying 51=some (.slice 56)){r:Reach}{b:Nat}(hv:Value.okWide PR W r b 51 v)(u:Value.okWide PR W r b 51 w)(hx:Value.okWide PR W r b 51 x)(h:DataW.Trod enc PR W 0 c g 51 v d ps)(h':DataW.Trod enc PR W 0 c g 51 w e y)(n:DataW.Trod enc PR W 0 c g 51 x f z):Calls PR 7 #[v,w,x] W fun e w'=>e= .returned (.bool true)/\Below W.heap.size W w':=by obtain⟨a,L,h1,h2,h3⟩:=Fo ht hv h;obtain⟨t,s,o,p,q⟩:=Fo ht u h';obtain⟨m,l,i,j,k⟩:=Fo ht hx n;exact FJ hm (LV_ok hm) g_cpy rfl (fun d e h=>DK h) (es:=[.dat 0 (.lst L),.dat 1 (.lst s),.dat 2 (.lst l),.dat 3 (.lst [])]) rfl ⟨rfl,h1,o,i⟩ (R:= .dat 3 (.lst [])) rfl rfl (xs:=[a,t,m]) (ys:=[v,w,x]) (TG (h3 0) (TG (q 1) (TG (k 2) TH))) (TK h2 (TK p (TK j (TL _))))
