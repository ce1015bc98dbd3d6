/- The reference's Check, weigh, the diff of any two trees: the conditions hold.
  Conditions: none. -/
import Derived.Test.YtoegfalhkackeaaGreatW2
import Derived.Test.YtoegfalhkackeaaGreatR3
set_option maxRecDepth 100000
set_option linter.all false
noncomputable section
namespace Go.D
open Go Go.Xe Go.Sx
variable {c:List a9}
def AN {lv i n:Int}:qU [.lst (rows c),.int lv] [.int i,.int n]↔0<=i/\i<=(c.length:Int)/\1<=lv/\1<=n/\n<=1000+64*lv/\(n<=64↔AllAs (c.take i.toNat)/\(a9.depths (c.take i.toNat):Int)+1<=lv/\a9.sizes (c.take i.toNat)+1<=64)/\(n<=64->n=a9.sizes (c.take i.toNat)+1):=by simp only[qU,ln,TG,jF,forall_eq']
def OT {lv i n m:Int}{a:a9}(h:qU [.lst (rows c),.int lv] [.int i,.int n])(b:c[i.toNat]? =some a)(hn:¬64<n)(p:1<=m)(q:m<=1000+64*(lv+(-1)))(hm:m<=64↔Fits a (lv+(-1)))(d:m<=64->m=a.size):qU [.lst (rows c),.int lv] [.int (i+1),.int (n+m)]:=by obtain⟨h0,h1,h2,h3,h4,h5,o⟩:=AN.1 h;have hi:=(Tn.1 b).1;obtain⟨f,k,l⟩:=h5.1 (by omega);refine AN.2 ⟨by omega,by omega,h2,by omega,by omega,?_,?_⟩;rw[v7 h0 b,iQ,eB,dM,Ik,MX];constructor;intro hs;obtain⟨e,g,j⟩:=hm.1 (by omega);refine⟨⟨f,e,trivial⟩,by omega,by omega⟩;rintro ⟨⟨k1,k2,_⟩,k3,k4⟩;have:=d (hm.2 ⟨k2,by omega,by omega⟩);omega;intro hs;rw[v7 h0 b,dM,Ik];omega
theorem vcRcnt_ok (N:Nat):vcRcnt N:=by
 rintro _ _ _ _ _ _ lv ⟨⟨h0,F,s,rfl,rfl,rfl,rfl,rfl,rfl⟩,l⟩;have l:lv.toNat<N+1:=l;have G:=V5 s;have hz:=T9 s;have no:∀n:Int,64<n->n<=1000+64*lv-> ¬Fits s lv->W7 [.int s.k,.str s.t,.str s.y,.lst (s.a.map Att.row),.str s.x,.lst (rows s.c),.int lv] [.int n]:=fun n h1 h2 h3=>by refine⟨by omega,h2,fun a e=>?_⟩;rw[u9]at e;grind
 simp only[Nd,H5,u9,forall_eq,I64];refine⟨fun hl=>⟨no _ (by omega) (by omega) fun f=>by have:=f.2.1;omega,fun _=>trivial⟩,fun hl=>⟨⟨s,rfl,rfl,rfl,rfl,rfl,rfl⟩,fun _ b hb=>⟨fun q=>?_,fun p=>⟨no _ (by omega) (by omega) fun f=>p (hb.2 ((B9 s).1 f.1).1),fun _=>trivial⟩⟩⟩⟩;have j:=hb.1 q;have u:=(bB j).1;refine⟨AN.2 ⟨by omega,by omega,by omega,by omega,by omega,by simp[AllAs,a9.depths,a9.sizes];omega,by simp[a9.sizes]⟩,fun _ i n hi=>?_⟩;obtain⟨i0,H,I,w,r,o,z⟩:=AN.1 hi;have E:ln (rows s.c)=(s.c.length:Int):=by grind
 simp only[E];refine⟨fun g=>⟨fun d=>⟨no n d r fun f=>?_,fun _=>trivial⟩,fun d=>?_⟩,fun g=>⟨?_,fun _=>trivial⟩⟩;have v:=((B9 s).1 f.1).2;have:=xX s.c i.toNat;have:=Er s.c i.toNat;have:=o.2 ⟨kT v _,by have:=f.2.1;omega,by have:=f.2.2;omega⟩;omega;obtain⟨a,e⟩:=Sx.get_at i0 g;simp only[cI,cS,cL,G5 e,t0,t1,t2,t3,t4,t5,V8,A6,T8,W7,jB,pS,u9,forall_eq,exists_eq,UG];refine⟨by omega,fun _=>⟨g,fun _=>⟨⟨by omega,by omega⟩,fun _=>⟨(by grind),fun _ m ⟨A,B,C,D⟩=>⟨⟨by omega,by omega⟩,fun _=>⟨⟨by omega,by omega⟩,fun _=>⟨OT hi e d A B C D,fun _=>⟨?_,fun _=>trivial⟩⟩⟩⟩⟩⟩⟩⟩;show(((rows s.c).length:Int)-(i+1)).toNat<(((rows s.c).length:Int)-i).toNat;rw[TG];omega;rw[B0 (by omega)]at o z;refine⟨w,r,fun a e=>?_⟩;rw[u9]at e;subst e;refine⟨⟨fun h=>?_,fun f=>?_⟩,fun h=>by omega⟩;obtain⟨k1,k2,k3⟩:=o.1 h;exact⟨(B9 _).2 ⟨j,k1⟩,by omega,by omega⟩;exact o.2 ⟨((B9 _).1 f.1).2,by have:=f.2.1;omega,by have:=f.2.2;omega⟩
theorem vcRchk_ok :vcRchk:=by
 rintro _ _ _ _ _ _ ⟨s,rfl,rfl,rfl,rfl,rfl,rfl⟩;simp only[Nd,W7,jB,bM,L3,u9,forall_eq,exists_eq,UG,Ux];have V:Fits s 6↔w9 s:=⟨fun f=>⟨f.1,f.2.2,by have:=f.2.1;omega⟩,fun v=>⟨v.1,by have:=v.2.2;omega,v.2.1⟩⟩
 grind
end Go.D
namespace Go.D
open Go Go.Xe Go.Sx Go.RowKit
open Go.Proofs
def Qi :∀g t,LO g=some t->kV PR g t:=Pv (kV.of 4 (by kernel_rfl) (by kernel_rfl) (by kernel_rfl) (by kernel_rfl) (by kernel_rfl)) Ps
def JF (hm:PR.follows .mixedOrders=true):Fk PR LVn:=fun w=>Fx hm Qi JC w
noncomputable def LV :Aa:=Bp LVn kP LO
def LV_ok (hm:PR.follows .mixedOrders=true):∀g t,LV g=some t->kV PR g t:=by
 intro g t h;unfold LV Bp at h;cases hb:Nat.beq g LVn with
 |true=>rw[hb,TE,Tk]at h;rw[<-h,Tp hb];exact Pw (JF hm)|false=>rw[hb,TF]at h;exact Qi g t h
noncomputable def ρh :Go.Shelf.Ren:=⟨fun n=>bif Nat.beq n 27 then 119 else bif Nat.beq n 28 then 120 else n,fun t=>bif Nat.beq t 22 then 41 else t,fun g=>g⟩
noncomputable def ieh :Ba:=(PR.info? tHd).getD default
def Ml :PR.info? tHd=some ieh:=by kernel_rfl
def Di :ieh.size=2:=by kernel_rfl
def zvH :Av:= .agg #[.int .u32 0,.int .u32 0]
def delH :Hv PR 159 ρh tHd ieh zvH where
 fn:=⟨AS PR 159,by kernel_rfl,by kernel_rfl,by kernel_rfl,by kernel_rfl⟩
 t22:=by kernel_rfl
 ty:=Ml
 zero:=by kernel_rfl
 cst:=rfl
 zl:=by kernel_rfl
 one:=rfl
 by_:=UM (by kernel_rfl)
def insH :kC PR 73 ρh tHd ieh zvH where
 fn:=⟨AS PR 73,by kernel_rfl,by kernel_rfl,by kernel_rfl,by kernel_rfl⟩
 t22:=by kernel_rfl
 t3:=by kernel_rfl
 ty:=Ml
 zero:=by kernel_rfl
 cst:=rfl
 zl:=by kernel_rfl
 sz:=by rw[Di];decide
 by_:=UM (by kernel_rfl)
 fo:=⟨AS PR 119,by kernel_rfl,by kernel_rfl⟩
 nT:=by kernel_rfl
def B5 :n9 PR U0 LV (cYes "lives") LVn:=Lc rfl "lives"
def dO :O8 PR U0 LV [(LVn,cYes "lives")]:=⟨B5,trivial⟩
def noX :gF PR U0 LV []:=trivial
def OX :n9 PR U0 LV cNamed 161:=m8 cW dO noX 400 vcNamed_eq vcNamed_ok (F6 rfl)
def RC :n9 PR U0 LV cText 160:=m8 cW dO noX 400 vcText_eq vcText_ok (F6 rfl)
def stA1 :O8 PR U0 LV (cO 1):=⟨OX,RC,B5,trivial⟩
def OW :n9 PR U0 LV cAlone 105:=m8 cW stA1 noX 400 vcAlone_eq vcAlone_ok (F6 rfl)
def stA2 :O8 PR U0 LV (cO 2):=⟨OW,B5,trivial⟩
def RD :n9 PR U0 LV cWalk 104:=J7 cW stA2 noX 400 iK vcWalk_eq vcWalk_ok (fun n=>F6 rfl)
def stA3 :O8 PR U0 LV (cO 3):=⟨RD,B5,trivial⟩
def tL :n9 PR U0 LV cChk 42:=m8 cW stA3 noX 400 vcChk_eq vcChk_ok (F6 rfl)
def QG :n9 PR U0 LV cCpd 98:=J7 cW dO noX 400 xS vcCpd_eq vcCpd_ok (fun n=>F6 rfl)
def r_at :RRO PR U0 LV cAt 68:=eP bD dO noX 400 vcAt_eq vcAt_ok (F6 rfl)
def r_vld :RRO PR U0 LV cVld 97:=eP bD dO noX 400 vcVld_eq vcVld_ok (F6 rfl)
def r_plc :RRO PR U0 LV cPlc 71:=eP bD dO noX 400 vcPlc_eq vcPlc_ok (F6 rfl)
def xB1 :gF PR U0 LV (uS 1 PR):=⟨⟨P0 r_at,rfl⟩,trivial⟩
def r_abo :RRO PR U0 LV cAbo 69:=eP bD dO xB1 400 vcAbo_eq vcAbo_ok (F6 rfl)
def xO :gF PR U0 LV (cH 0 PR):=⟨⟨P0 r_at,rfl⟩,⟨P0 r_vld,rfl⟩,⟨P0 r_plc,rfl⟩,⟨P0 r_abo,rfl⟩,trivial⟩
def stO :O8 PR U0 LV (SK 0):=⟨tL,B5,trivial⟩
def xK :gF PR U0 LV (Gz 0 PR):=by have h1:=GI (U:=U0) (ov:=LV) delH rfl;have h2:=SY (GO (U:=U0) (ov:=LV) insH rfl rfl) (by kernel_rfl) rfl;rw[Di]at h1 h2;exact⟨⟨h1,rfl⟩,⟨h2,rfl⟩,xO⟩
def g_ins :n9 PR U0 LV cIns 27:=m8 Hy dO xK 400 vcIns_eq vcIns_ok (F6 rfl)
def g_rem :n9 PR U0 LV cRem 54:=m8 Hy dO xK 400 vcRem_eq vcRem_ok (F6 rfl)
def g_cre :n9 PR U0 LV cCre 61:=m8 Ql stO xO 400 vcCre_eq vcCre_ok (F6 rfl)
def g_cmp :n9 PR U0 LV cCmp 188:=m8 xL stO noX 400 vcCmp_eq vcCmp_ok (F6 rfl)
def QF :n9 PR U0 LV cCed 146:=m8 xL stO noX 400 vcCed_eq vcCed_ok (F6 rfl)
def stF1 :O8 PR U0 LV (BT 1):=⟨g_cmp,tL,QF,B5,trivial⟩
def g_app :n9 PR U0 LV cApp 148:=m8 xL stF1 noX 400 vcApp_eq vcApp_ok (F6 rfl)
def stG :O8 PR U0 LV (NZ 0):=⟨QF,g_app,B5,trivial⟩
def g_edt :n9 PR U0 LV cEdt 89:=m8 Qm stG xO 400 vcEdt_eq vcEdt_ok (F6 rfl)
def Nm :RRO PR U0 LV cLok 50:=eP Qn dO xO 400 vcLok_eq vcLok_ok (F6 rfl)
def r_tre :RRO PR U0 LV cTre 48:=PG Qo dO xO 400 EB vcTre_eq vcTre_ok (F6 rfl)
def stM :O8 PR U0 LV (Oc 0):=⟨tL,QG,B5,trivial⟩
def xM :gF PR U0 LV (Ng 0 PR):=⟨⟨P0 r_tre,rfl⟩,xO⟩
def Nn :RRO PR U0 LV cTee 12:=eP Qp stM xM 400 vcTee_eq vcTee_ok (F6 rfl)
def g_frc :n9 PR U0 LV cFrc 91:=J7 Qq dO xO 400 xY vcFrc_eq vcFrc_ok (fun n=>F6 rfl)
def stP :O8 PR U0 LV (Od 0):=⟨g_frc,B5,trivial⟩
def QH :n9 PR U0 LV cFre 46:=m8 Qr stP xO 400 vcFre_eq vcFre_ok (F6 rfl)
def OY :n9 PR U0 LV cRname 136:=m8 kE dO noX 400 vcRname_eq vcRname_ok (F6 rfl)
def RB :n9 PR U0 LV cRstr 137:=m8 kE dO noX 400 vcRstr_eq vcRstr_ok (F6 rfl)
def stV1 :O8 PR U0 LV (iI 1):=⟨OY,RB,B5,trivial⟩
def g_one :n9 PR U0 LV cOne 144:=m8 kE stV1 noX 400 vcOne_eq vcOne_ok (F6 rfl)
def stV2 :O8 PR U0 LV (iI 2):=⟨g_one,B5,trivial⟩
def RA :n9 PR U0 LV cRcnt 88:=J7 kE stV2 noX 400 pS vcRcnt_eq vcRcnt_ok (fun n=>F6 rfl)
def stV3 :O8 PR U0 LV (iI 3):=⟨RA,B5,trivial⟩
def Mf :n9 PR U0 LV cRchk 22:=m8 kE stV3 noX 400 vcRchk_eq vcRchk_ok (F6 rfl)
def g_equ :n9 PR U0 LV cEqu 55:=J7 Hz dO noX 400 CY vcEqu_eq vcEqu_ok (fun n=>F6 rfl)
def stW1 :O8 PR U0 LV (Ha 1):=⟨Mf,g_equ,B5,trivial⟩
def g_sam :n9 PR U0 LV cSam 15:=m8 Hz stW1 noX 400 vcSam_eq vcSam_ok (F6 rfl)
