/- Chapter 16: the contracts stand.
  Conditions: none. -/
import Derived.Test.YtgmiikiinbaapaaGreatP0
import Derived.Test.YtgmiikiinbaapaaGreatW3
import Derived.Test.YtgmiikiinbaapaaGreatO3
set_option maxRecDepth 100000
set_option linter.all false
noncomputable section
namespace Go.D
open Go Go.Xe Go.Sx Go.RowKit
open Go.Proofs
def Nm :∀g t,LO g=some t->iQ PR g t:=MH (iQ.of 4 (by kernel_rfl) (by kernel_rfl) (by kernel_rfl) (by kernel_rfl) (by kernel_rfl)) MC
def HZ (hm:PR.follows .mixedOrders=true):Ey PR LVn:=fun w=>EE hm Nm HY w
noncomputable def LV :Aa:=AI LVn iK LO
def LV_ok (hm:PR.follows .mixedOrders=true):∀g t,LV g=some t->iQ PR g t:=by
 intro g t h;unfold LV AI at h;cases hb:Nat.beq g LVn with
 |true=>rw[hb,PB,Pj]at h;rw[<-h,Pq hb];exact MI (HZ hm)|false=>rw[hb,PC]at h;exact Nm g t h
noncomputable def ρh :Go.Shelf.Ren:=⟨fun n=>bif Nat.beq n 27 then 115 else bif Nat.beq n 28 then 116 else n,fun t=>bif Nat.beq t 22 then 35 else t,fun g=>g⟩
noncomputable def ieh :Ba:=(PR.info? tHd).getD default
def Ke :PR.info? tHd=some ieh:=by kernel_rfl
def CJ :ieh.size=2:=by kernel_rfl
def zvH :Av:= .agg #[.int .u32 0,.int .u32 0]
def delH :GC PR 143 ρh tHd ieh zvH where
 fn:=⟨zP PR 143,by kernel_rfl,by kernel_rfl,by kernel_rfl,by kernel_rfl⟩
 t22:=by kernel_rfl
 ty:=Ke
 zero:=by kernel_rfl
 cst:=rfl
 zl:=by kernel_rfl
 one:=rfl
 by_:=QN (by kernel_rfl)
def insH :hZ PR 50 ρh tHd ieh zvH where
 fn:=⟨zP PR 50,by kernel_rfl,by kernel_rfl,by kernel_rfl,by kernel_rfl⟩
 t22:=by kernel_rfl
 t3:=by kernel_rfl
 ty:=Ke
 zero:=by kernel_rfl
 cst:=rfl
 zl:=by kernel_rfl
 sz:=by rw[CJ];decide
 by_:=QN (by kernel_rfl)
 fo:=⟨zP PR 115,by kernel_rfl,by kernel_rfl⟩
 nT:=by kernel_rfl
def C6 :j4 PR U0 LV (cYes "lives") LVn:=Jj rfl "lives"
def I8 :R0 PR U0 LV [(LVn,cYes "lives")]:=⟨C6,trivial⟩
def noX :dS PR U0 LV []:=trivial
def Mr :j4 PR U0 LV cNamed 160:=i6 dJ I8 noX 400 vcNamed_eq vcNamed_ok (A1 rfl)
def OB :j4 PR U0 LV cText 159:=i6 dJ I8 noX 400 vcText_eq vcText_ok (A1 rfl)
def stA1 :R0 PR U0 LV (cT 1):=⟨Mr,OB,C6,trivial⟩
def Mq :j4 PR U0 LV cAlone 156:=i6 dJ stA1 noX 400 vcAlone_eq vcAlone_ok (A1 rfl)
def stA2 :R0 PR U0 LV (cT 2):=⟨Mq,C6,trivial⟩
def OC :j4 PR U0 LV cWalk 155:=N7 dJ stA2 noX 400 fU vcWalk_eq vcWalk_ok (fun n=>A1 rfl)
def stA3 :R0 PR U0 LV (cT 3):=⟨OC,C6,trivial⟩
def JR :j4 PR U0 LV cChk 60:=i6 dJ stA3 noX 400 vcChk_eq vcChk_ok (A1 rfl)
def g_cpd :j4 PR U0 LV cCpd 122:=N7 dJ I8 noX 400 wT vcCpd_eq vcCpd_ok (fun n=>A1 rfl)
def r_at :RRO PR U0 LV cAt 45:=M0 T9 I8 noX 400 vcAt_eq vcAt_ok (A1 rfl)
def r_vld :RRO PR U0 LV cVld 110:=M0 T9 I8 noX 400 vcVld_eq vcVld_ok (A1 rfl)
def r_plc :RRO PR U0 LV cPlc 48:=M0 T9 I8 noX 400 vcPlc_eq vcPlc_ok (A1 rfl)
def xB1 :dS PR U0 LV (tO 1 PR):=⟨⟨H4 r_at,rfl⟩,trivial⟩
def r_abo :RRO PR U0 LV cAbo 46:=M0 T9 I8 xB1 400 vcAbo_eq vcAbo_ok (A1 rfl)
def xO :dS PR U0 LV (T5 0 PR):=⟨⟨H4 r_at,rfl⟩,⟨H4 r_vld,rfl⟩,⟨H4 r_plc,rfl⟩,⟨H4 r_abo,rfl⟩,trivial⟩
def stO :R0 PR U0 LV (Gg 0):=⟨JR,C6,trivial⟩
def g_stx :j4 PR U0 LV cStx 33:=i6 GG stO xO 400 vcStx_eq vcStx_ok (A1 rfl)
def g_plk :j4 PR U0 LV cPlk 36:=i6 GG stO xO 400 vcPlk_eq vcPlk_ok (A1 rfl)
def xK :dS PR U0 LV (AM 0 PR):=by have h1:=FK (U:=U0) (ov:=LV) delH rfl;have h2:=Pf (FQ (U:=U0) (ov:=LV) insH rfl rfl) (by kernel_rfl) rfl;rw[CJ]at h1 h2;exact⟨⟨h1,rfl⟩,⟨h2,rfl⟩,xO⟩
def g_ins :j4 PR U0 LV cIns 13:=i6 wO I8 xK 400 vcIns_eq vcIns_ok (A1 rfl)
def g_rem :j4 PR U0 LV cRem 34:=i6 wO I8 xK 400 vcRem_eq vcRem_ok (A1 rfl)
def g_mov :j4 PR U0 LV cMov 35:=i6 wO I8 xK 400 vcMov_eq vcMov_ok (A1 rfl)
def g_cre :j4 PR U0 LV cCre 37:=i6 Np stO xO 400 vcCre_eq vcCre_ok (A1 rfl)
def g_cmp :j4 PR U0 LV cCmp 153:=i6 wN stO noX 400 vcCmp_eq vcCmp_ok (A1 rfl)
def NK :j4 PR U0 LV cCed 105:=i6 wN stO noX 400 vcCed_eq vcCed_ok (A1 rfl)
def stF1 :R0 PR U0 LV (Bv 1):=⟨g_cmp,JR,NK,C6,trivial⟩
def g_app :j4 PR U0 LV cApp 107:=i6 wN stF1 noX 400 vcApp_eq vcApp_ok (A1 rfl)
def stG :R0 PR U0 LV (LD 0):=⟨NK,g_app,C6,trivial⟩
def g_edt :j4 PR U0 LV cEdt 38:=i6 Ns stG xO 400 vcEdt_eq vcEdt_ok (A1 rfl)
def r_hds :RRO PR U0 LV cHds 82:=M0 kO I8 xO 400 vcHds_eq vcHds_ok (A1 rfl)
def r_wai :RRO PR U0 LV cWai 58:=M0 kO I8 xO 400 vcWai_eq vcWai_ok (A1 rfl)
def xH1 :dS PR U0 LV (nS 1 PR):=⟨⟨H4 r_hds,rfl⟩,xO⟩
def r_roo :RRO PR U0 LV cRoo 25:=M0 kO I8 xH1 400 vcRoo_eq vcRoo_ok (A1 rfl)
def r_lok :RRO PR U0 LV cLok 17:=M0 kO I8 xO 400 vcLok_eq vcLok_ok (A1 rfl)
def r_tre :RRO PR U0 LV cTre 59:=MN Nt I8 xO 400 DJ vcTre_eq vcTre_ok (A1 rfl)
def stM :R0 PR U0 LV (LF 0):=⟨JR,g_cpd,C6,trivial⟩
def xM :dS PR U0 LV (KM 0 PR):=⟨⟨H4 r_tre,rfl⟩,xO⟩
def NY :RRO PR U0 LV cTee 16:=M0 Nu stM xM 400 vcTee_eq vcTee_ok (A1 rfl)
def g_frc :j4 PR U0 LV cFrc 53:=N7 Nx I8 xO 400 xA vcFrc_eq vcFrc_ok (fun n=>A1 rfl)
def stP :R0 PR U0 LV (LG 0):=⟨g_frc,C6,trivial⟩
def g_fre :j4 PR U0 LV cFre 14:=i6 Ny stP xO 400 vcFre_eq vcFre_ok (A1 rfl)
def zS :j4 PR U0 LV cRname 126:=i6 iC I8 noX 400 vcRname_eq vcRname_ok (A1 rfl)
def EJ :j4 PR U0 LV cRstr 127:=i6 iC I8 noX 400 vcRstr_eq vcRstr_ok (A1 rfl)
def stV1 :R0 PR U0 LV (fQ 1):=⟨zS,EJ,C6,trivial⟩
def g_one :j4 PR U0 LV cOne 157:=i6 iC stV1 noX 400 vcOne_eq vcOne_ok (A1 rfl)
def stV2 :R0 PR U0 LV (fQ 2):=⟨g_one,C6,trivial⟩
def Ou :j4 PR U0 LV cRcnt 152:=N7 iC stV2 noX 400 nX vcRcnt_eq vcRcnt_ok (fun n=>A1 rfl)
def stV3 :R0 PR U0 LV (fQ 3):=⟨Ou,C6,trivial⟩
def JT :j4 PR U0 LV cRchk 80:=i6 iC stV3 noX 400 vcRchk_eq vcRchk_ok (A1 rfl)
def g_equ :j4 PR U0 LV cEqu 138:=N7 GH I8 noX 400 CA vcEqu_eq vcEqu_ok (fun n=>A1 rfl)
def stW1 :R0 PR U0 LV (Gh 1):=⟨JT,g_equ,C6,trivial⟩
def g_sam :j4 PR U0 LV cSam 81:=i6 GH stW1 noX 400 vcSam_eq vcSam_ok (A1 rfl)
def JS :j4 PR U0 LV cRat 128:=i6 U2 I8 noX 400 vcRat_eq vcRat_ok (A1 rfl)
def JU :j4 PR U0 LV cRcp 29:=i6 U2 I8 noX 400 vcRcp_eq vcRcp_ok (A1 rfl)
def NM :j4 PR U0 LV cRpl 133:=i6 U2 I8 noX 400 vcRpl_eq vcRpl_ok (A1 rfl)
def JW :j4 PR U0 LV cRput 134:=i6 U2 I8 noX 400 vcRput_eq vcRput_ok (A1 rfl)
def JX :j4 PR U0 LV cRwit 135:=i6 U2 I8 noX 400 vcRwit_eq vcRwit_ok (A1 rfl)
def NL :j4 PR U0 LV cFnd 129:=i6 U2 I8 noX 400 vcFnd_eq vcFnd_ok (A1 rfl)
def JV :j4 PR U0 LV cRins 151:=i6 U2 I8 noX 400 vcRins_eq vcRins_ok (A1 rfl)
def stQ0 :R0 PR U0 LV (aJ 0):=⟨zS,EJ,JS,JU,NM,JW,JX,NL,JV,C6,trivial⟩
def g_rap :j4 PR U0 LV cRap 131:=i6 U1 stQ0 noX 400 vcRap_eq vcRap_ok (A1 rfl)
def stQ1 :R0 PR U0 LV (aJ 1):=⟨zS,EJ,JS,JU,NM,JW,JX,NL,JV,g_rap,C6,trivial⟩
def Ov :j4 PR U0 LV cRcre 67:=i6 U1 stQ0 noX 400 vcRcre_eq vcRcre_ok (A1 rfl)
def Oq :j4 PR U0 LV cRatt 69:=i6 U1 stQ1 noX 400 vcRatt_eq vcRatt_ok (A1 rfl)
def OA :j4 PR U0 LV cRtxt 70:=i6 U1 stQ0 noX 400 vcRtxt_eq vcRtxt_ok (A1 rfl)
def Ox :j4 PR U0 LV cRplk 74:=i6 U1 stQ0 noX 400 vcRplk_eq vcRplk_ok (A1 rfl)
def Oy :j4 PR U0 LV cRrem 72:=i6 U1 stQ0 noX 400 vcRrem_eq vcRrem_ok (A1 rfl)
def g_rmv :j4 PR U0 LV cRmv 73:=i6 U1 stQ0 noX 400 vcRmv_eq vcRmv_ok (A1 rfl)
def g_rns :j4 PR U0 LV cRns 71:=i6 U1 stQ0 noX 400 vcRns_eq vcRns_ok (A1 rfl)
def Ot :j4 PR U0 LV cRbel 136:=N7 wP I8 noX 400 nW vcRbel_eq vcRbel_ok (fun n=>A1 rfl)
def Oz :j4 PR U0 LV cRtre 79:=N7 wP I8 noX 400 tY vcRtre_eq vcRtre_ok (fun n=>A1 rfl)
def stS1 :R0 PR U0 LV (Bx 1):=⟨JS,JU,Ot,C6,trivial⟩
def Ow :j4 PR U0 LV cRfre 75:=i6 wP stS1 noX 400 vcRfre_eq vcRfre_ok (A1 rfl)
def r_pck :RRO PR U0 LV cPck 64:=M0 dK I8 noX 400 vcPck_eq vcPck_ok (A1 rfl)
def r_hnd :RRO PR U0 LV cHnd 78:=M0 dK I8 noX 400 vcHnd_eq vcHnd_ok (A1 rfl)
def g_tag :j4 PR U0 LV cTag 65:=i6 dK I8 noX 400 vcTag_eq vcTag_ok (A1 rfl)
def g_nms :j4 PR U0 LV cNms 68:=i6 dK I8 noX 400 vcNms_eq vcNms_ok (A1 rfl)
def g_txt :j4 PR U0 LV cTxt 66:=i6 dK I8 noX 400 vcTxt_eq vcTxt_ok (A1 rfl)
def g_asm :j4 PR U0 LV cAsm 77:=i6 dK I8 noX 400 vcAsm_eq vcAsm_ok (A1 rfl)
def xX :dS PR U0 LV (KO 0 PR):=⟨⟨H4 r_pck,rfl⟩,trivial⟩
def stX :R0 PR U0 LV (LH 0):=⟨g_tag,g_nms,g_txt,g_cre,g_edt,g_stx,g_plk,g_ins,g_rem,g_mov,g_fre,Ov,Oq,OA,Ox,g_rns,Oy,g_rmv,Ow,C6,trivial⟩
def g_do :j4 PR U0 LV cDo 22:=i6 Nz stX xX 400 vcDo_eq vcDo_ok (A1 rfl)
def xY :dS PR U0 LV (KP 0 PR):=⟨⟨H4 r_lok,rfl⟩,⟨H4 NY,rfl⟩,⟨H4 r_roo,rfl⟩,⟨H4 r_wai,rfl⟩,⟨H4 r_hnd,rfl⟩,trivial⟩
def stY :R0 PR U0 LV (LI 0):=⟨Oz,JT,g_sam,g_asm,C6,trivial⟩
def NX :RRO PR U0 LV cSme 23:=M0 NA stY xY 400 vcSme_eq vcSme_ok (A1 rfl)
def g_nwb :j4 PR U0 LV cNwb 21:=i6 NC I8 (show dS PR U0 LV (KQ 0 PR)from⟨⟨H4 NX,rfl⟩,trivial⟩) 400 vcNwb_eq vcNwb_ok (A1 rfl)
def gH :kf PR 56=[.int .u8,.int .u8,.int .u8,.int .u8,.int .u8]:=by kernel_rfl
def NV :kd1 PR 51= .sl 56:=by kernel_rfl
def MG :CG PR 3 (.sl 56)=true:=by kernel_rfl
def Cy {P:Aw}{d:Dat}(h:DW P (.int .u8) d):∃n:Int,B8 n/\d= .int n:=by
 cases h with
 |int k n h=>have h1:=h.1;have h2:n<=255:=h.2;exact⟨n,⟨h1,by omega⟩,rfl⟩
def os_of {d:Dat}(h:DW PR (.sl 56) d):∃L:Sx.Rows,(∀r∈L,O5 r)/\d= .lst L:=by
 cases h with
 |sl _ rows hl hz hh=>
  refine⟨rows,fun r hr=>?_,rfl⟩;have h3:=hz r hr;rw[gH]at h3;obtain⟨i,hi⟩:=Qr.1 hr
  match r,h3,hi with
  | [a,b,c,d,e],_,hi=>obtain⟨a,f,rfl⟩:=Cy (hh i 0 _ (.int .u8) a hi rfl (by rw[gH];rfl));obtain⟨b,hb,rfl⟩:=Cy (hh i 1 _ (.int .u8) b hi rfl (by rw[gH];rfl));obtain⟨c,hc,rfl⟩:=Cy (hh i 2 _ (.int .u8) c hi rfl (by rw[gH];rfl));obtain⟨d,g,rfl⟩:=Cy (hh i 3 _ (.int .u8) d hi rfl (by rw[gH];rfl));obtain⟨e,he,rfl⟩:=Cy (hh i 4 _ (.int .u8) e hi rfl (by rw[gH];rfl));exact⟨a,b,c,d,e,rfl,f,hb,hc,g,he⟩
def Oi {H:Type}{enc:Ax×Av->H}{W:Bc}{c:Nat->Bool}{e:Bool}{v:Av}{d:DataW H}{ps:List MemPlace}(ht:PR.underlying 51=some (.slice 56)){r:Reach}{b:Nat}(hv:Value.okWide PR W r b 51 v)(h:DataW.Trod enc PR W 0 c e 51 v d ps):∃(a:Av) (L:Sx.Rows),(∀r∈L,O5 r)/\VR (Do W) a v/\ ∀n,VD PR U0 (fun _=>none) (roF W) (.lst 56 (.dat n (.lst L)) false) a:=by obtain⟨f,len,cap,rfl⟩:=Go.WideShapes.okWide_slice ht hv;obtain⟨g,a,h1,h2,h3⟩:=Mj h (m:=3) (by rw[NV];exact MG) rfl;rw[NV]at h2 h3;obtain⟨L,hL,rfl⟩:=os_of h3;exact⟨a,L,hL,GF h1,fun n=>.lst 56 _ false a h2 (fun h=>by cases h)⟩
def CZ {d e:Ar}(h:Fv d e):∃r,e= .bool true::r:=by unfold Fv at h;split at h;exact⟨_,by rw[h]⟩;exact h.elim
def g_bpl :j4 PR U0 LV cBpl 24:=i6 zB (show R0 PR U0 LV (rD 0)from⟨g_do,C6,trivial⟩) (show dS PR U0 LV (qQ 0 PR)from trivial) 400 vcBpl_eq vcBpl_ok (A1 rfl)
def r_waa :RRO PR U0 LV cWaa 58:=M0 mZ I8 xO 400 vcWaa_eq vcWaa_ok (A1 rfl)
def r_roa :RRO PR U0 LV cRoa 25:=M0 mZ I8 xH1 400 vcRoa_eq vcRoa_ok (A1 rfl)
def r_lka :RRO PR U0 LV cLka 17:=M0 mZ I8 xO 400 vcLka_eq vcLka_ok (A1 rfl)
def xOW :dS PR U0 LV (qQ 1 PR):=⟨⟨H4 NX,rfl⟩,⟨H4 r_lka,rfl⟩,⟨H4 NY,rfl⟩,⟨H4 r_roa,rfl⟩,⟨H4 r_waa,rfl⟩,trivial⟩
def stOW :R0 PR U0 LV (rD 1):=⟨g_nwb,g_bpl,C6,trivial⟩
def g_own :j4 PR U0 LV cOwn 5:=i6 zB stOW xOW 400 vcOwn_eq vcOwn_ok (A1 rfl)
def own_walk {H:Type}{enc:Ax×Av->H}{W:Bc}{c:Nat->Bool}{f:Bool}{v:Av}{d:DataW H}{ps:List MemPlace}(hm:PR.follows .mixedOrders=true)(ht:PR.underlying 51=some (.slice 56)){r:Reach}{b:Nat}(hv:Value.okWide PR W r b 51 v)(h:DataW.Trod enc PR W 0 c f 51 v d ps):Calls PR 5 #[v] W fun e w'=>e= .returned (.bool true)/\Below W.heap.size W w':=by obtain⟨a,L,h1,h2,h3⟩:=Oi ht hv h;exact EP hm (LV_ok hm) g_own rfl (fun d e h=>CZ h) (es:=[.dat 0 (.lst L),.dat 1 (.lst [])]) rfl ⟨rfl,h1⟩ (R:= .dat 1 (.lst [])) rfl rfl (xs:=[a]) (ys:=[v]) (Sh (h3 0) Si) (Sn h2 (Sp _))
