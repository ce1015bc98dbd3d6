/- The reference's Check, weigh, the diff of any two trees: the conditions hold.
  Conditions: none. -/
import Derived.Test.YtoegfalhkackeaaGreatW2
import Derived.Test.YtoegfalhkackeaaGreatP0
import Derived.Test.YtoegfalhkackeaaGreatR3
set_option maxRecDepth 100000
set_option linter.all false
noncomputable section
namespace Go.D
open Go Go.Xe Go.Sx
variable {c:List a9}
def zZ {lv i n:Int}:pU [.lst (rows c),.int lv] [.int i,.int n]↔0<=i/\i<=(c.length:Int)/\1<=lv/\1<=n/\n<=1000+64*lv/\(n<=64↔AllAs (c.take i.toNat)/\(a9.depths (c.take i.toNat):Int)+1<=lv/\a9.sizes (c.take i.toNat)+1<=64)/\(n<=64->n=a9.sizes (c.take i.toNat)+1):=by simp only[pU,ln,Rc,iJ,forall_eq']
def Ng {lv i n m:Int}{a:a9}(h:pU [.lst (rows c),.int lv] [.int i,.int n])(b:c[i.toNat]? =some a)(hn:¬64<n)(r:1<=m)(s:m<=1000+64*(lv+(-1)))(hm:m<=64↔Fits a (lv+(-1)))(d:m<=64->m=a.size):pU [.lst (rows c),.int lv] [.int (i+1),.int (n+m)]:=by obtain⟨h0,h1,h2,h3,h4,g,p⟩:=zZ.1 h;have hi:=(QL.1 b).1;obtain⟨f,l,o⟩:=g.1 (by omega);refine zZ.2 ⟨by omega,by omega,h2,by omega,by omega,?_,?_⟩;rw[B3 h0 b,nX,jY,T8,LB,Pe];constructor;intro hs;obtain⟨e,j,k⟩:=hm.1 (by omega);refine⟨⟨f,e,trivial⟩,by omega,by omega⟩;rintro ⟨⟨k1,k2,_⟩,k3,q⟩;have:=d (hm.2 ⟨k2,by omega,by omega⟩);omega;intro hs;rw[B3 h0 b,T8,LB];omega
theorem vcRcnt_ok (N:Nat):vcRcnt N:=by
 rintro _ _ _ _ _ _ lv ⟨⟨h0,F,s,rfl,rfl,rfl,rfl,rfl,rfl⟩,l⟩;have l:lv.toNat<N+1:=l;have G:=xC s;have hz:=V3 s;have no:∀n:Int,64<n->n<=1000+64*lv-> ¬Fits s lv->U5 [.int s.k,.str s.t,.str s.y,.lst (s.a.map Att.row),.str s.x,.lst (rows s.c),.int lv] [.int n]:=fun n h1 h2 h3=>by refine⟨by omega,h2,fun a e=>?_⟩;rw[y6]at e;grind
 simp only[Nd,G3,y6,forall_eq,I64];refine⟨fun hl=>⟨no _ (by omega) (by omega) fun f=>by have:=f.2.1;omega,fun _=>trivial⟩,fun hl=>⟨⟨s,rfl,rfl,rfl,rfl,rfl,rfl⟩,fun _ b hb=>⟨fun q=>?_,fun p=>⟨no _ (by omega) (by omega) fun f=>p (hb.2 ((H2 s).1 f.1).1),fun _=>trivial⟩⟩⟩⟩;have j:=hb.1 q;have u:=(hM j).1;refine⟨zZ.2 ⟨by omega,by omega,by omega,by omega,by omega,by simp[AllAs,a9.depths,a9.sizes];omega,by simp[a9.sizes]⟩,fun _ i n hi=>?_⟩;obtain⟨i0,H,I,w,r,o,z⟩:=zZ.1 hi;have E:ln (rows s.c)=(s.c.length:Int):=by grind
 simp only[E];refine⟨fun g=>⟨fun d=>⟨no n d r fun f=>?_,fun _=>trivial⟩,fun d=>?_⟩,fun g=>⟨?_,fun _=>trivial⟩⟩;have v:=((H2 s).1 f.1).2;have:=xD s.c i.toNat;have:=DF s.c i.toNat;have:=o.2 ⟨jR v _,by have:=f.2.1;omega,by have:=f.2.2;omega⟩;omega;obtain⟨a,e⟩:=Sx.get_at i0 g;simp only[cI,cS,cL,L2 e,t0,t1,t2,t3,t4,t5,Z4,C5,V2,U5,iF,oU,y6,forall_eq,exists_eq,Sq];refine⟨by omega,fun _=>⟨g,fun _=>⟨⟨by omega,by omega⟩,fun _=>⟨(by grind),fun _ m ⟨A,B,C,D⟩=>⟨⟨by omega,by omega⟩,fun _=>⟨⟨by omega,by omega⟩,fun _=>⟨Ng hi e d A B C D,fun _=>⟨?_,fun _=>trivial⟩⟩⟩⟩⟩⟩⟩⟩;show(((rows s.c).length:Int)-(i+1)).toNat<(((rows s.c).length:Int)-i).toNat;rw[Rc];omega;rw[F7 (by omega)]at o z;refine⟨w,r,fun a e=>?_⟩;rw[y6]at e;subst e;refine⟨⟨fun h=>?_,fun f=>?_⟩,fun h=>by omega⟩;obtain⟨k1,k2,k3⟩:=o.1 h;exact⟨(H2 _).2 ⟨j,k1⟩,by omega,by omega⟩;exact o.2 ⟨((H2 _).1 f.1).2,by have:=f.2.1;omega,by have:=f.2.2;omega⟩
theorem vcRchk_ok :vcRchk:=by
 rintro _ _ _ _ _ _ ⟨s,rfl,rfl,rfl,rfl,rfl,rfl⟩;simp only[Nd,U5,iF,iE,J7,y6,forall_eq,exists_eq,Sq,Sc];have V:Fits s 6↔z5 s:=⟨fun f=>⟨f.1,f.2.2,by have:=f.2.1;omega⟩,fun v=>⟨v.1,by have:=v.2.2;omega,v.2.1⟩⟩
 grind
end Go.D
namespace Go.D
open Go Go.Xe Go.Sx Go.RowKit
open Go.Proofs
def Ou :∀g t,LO g=some t->jU PR g t:=NG (jU.of 4 (by kernel_rfl) (by kernel_rfl) (by kernel_rfl) (by kernel_rfl) (by kernel_rfl)) ND
def Is (hm:PR.follows .mixedOrders=true):EB PR LVn:=fun w=>EH hm Ou Ir w
noncomputable def LV :Aa:=AT LVn jP LO
def LV_ok (hm:PR.follows .mixedOrders=true):∀g t,LV g=some t->jU PR g t:=by
 intro g t h;unfold LV AT at h;cases hb:Nat.beq g LVn with
 |true=>rw[hb,Ra,QI]at h;rw[<-h,QN hb];exact NI (Is hm)|false=>rw[hb,Rb]at h;exact Ou g t h
noncomputable def ρh :Go.Shelf.Ren:=⟨fun n=>bif Nat.beq n 27 then 119 else bif Nat.beq n 28 then 120 else n,fun t=>bif Nat.beq t 22 then 41 else t,fun g=>g⟩
noncomputable def ieh :Ba:=(PR.info? tHd).getD default
def KP :PR.info? tHd=some ieh:=by kernel_rfl
def CH :ieh.size=2:=by kernel_rfl
def zvH :Av:= .agg #[.int .u32 0,.int .u32 0]
def delH :GG PR 159 ρh tHd ieh zvH where
 fn:=⟨Ap PR 159,by kernel_rfl,by kernel_rfl,by kernel_rfl,by kernel_rfl⟩
 t22:=by kernel_rfl
 ty:=KP
 zero:=by kernel_rfl
 cst:=rfl
 zl:=by kernel_rfl
 one:=rfl
 by_:=Sz (by kernel_rfl)
def insH :jE PR 73 ρh tHd ieh zvH where
 fn:=⟨Ap PR 73,by kernel_rfl,by kernel_rfl,by kernel_rfl,by kernel_rfl⟩
 t22:=by kernel_rfl
 t3:=by kernel_rfl
 ty:=KP
 zero:=by kernel_rfl
 cst:=rfl
 zl:=by kernel_rfl
 sz:=by rw[CH];decide
 by_:=Sz (by kernel_rfl)
 fo:=⟨Ap PR 119,by kernel_rfl,by kernel_rfl⟩
 nT:=by kernel_rfl
def B9 :p9 PR U0 LV (cYes "lives") LVn:=JJ rfl "lives"
def fI :P7 PR U0 LV [(LVn,cYes "lives")]:=⟨B9,trivial⟩
def noX :fB PR U0 LV []:=trivial
def Nm :p9 PR U0 LV cNamed 161:=t7 cD fI noX 400 vcNamed_eq vcNamed_ok (G2 rfl)
def PC :p9 PR U0 LV cText 160:=t7 cD fI noX 400 vcText_eq vcText_ok (G2 rfl)
def stA1 :P7 PR U0 LV (bS 1):=⟨Nm,PC,B9,trivial⟩
def Nl :p9 PR U0 LV cAlone 105:=t7 cD stA1 noX 400 vcAlone_eq vcAlone_ok (G2 rfl)
def stA2 :P7 PR U0 LV (bS 2):=⟨Nl,B9,trivial⟩
def PD :p9 PR U0 LV cWalk 104:=O8 cD stA2 noX 400 gV vcWalk_eq vcWalk_ok (fun n=>G2 rfl)
def stA3 :P7 PR U0 LV (bS 3):=⟨PD,B9,trivial⟩
def sN :p9 PR U0 LV cChk 42:=t7 cD stA3 noX 400 vcChk_eq vcChk_ok (G2 rfl)
def OS :p9 PR U0 LV cCpd 98:=O8 cD fI noX 400 wY vcCpd_eq vcCpd_ok (fun n=>G2 rfl)
def r_at :RRO PR U0 LV cAt 68:=dU aR fI noX 400 vcAt_eq vcAt_ok (G2 rfl)
def r_vld :RRO PR U0 LV cVld 97:=dU aR fI noX 400 vcVld_eq vcVld_ok (G2 rfl)
def r_plc :RRO PR U0 LV cPlc 71:=dU aR fI noX 400 vcPlc_eq vcPlc_ok (G2 rfl)
def xB1 :fB PR U0 LV (uE 1 PR):=⟨⟨M4 r_at,rfl⟩,trivial⟩
def r_abo :RRO PR U0 LV cAbo 69:=dU aR fI xB1 400 vcAbo_eq vcAbo_ok (G2 rfl)
def xO :fB PR U0 LV (bN 0 PR):=⟨⟨M4 r_at,rfl⟩,⟨M4 r_vld,rfl⟩,⟨M4 r_plc,rfl⟩,⟨M4 r_abo,rfl⟩,trivial⟩
def stO :P7 PR U0 LV (Qm 0):=⟨sN,B9,trivial⟩
def xK :fB PR U0 LV (FG 0 PR):=by have h1:=FR (U:=U0) (ov:=LV) delH rfl;have h2:=Qu (FZ (U:=U0) (ov:=LV) insH rfl rfl) (by kernel_rfl) rfl;rw[CH]at h1 h2;exact⟨⟨h1,rfl⟩,⟨h2,rfl⟩,xO⟩
def g_ins :p9 PR U0 LV cIns 27:=t7 GL fI xK 400 vcIns_eq vcIns_ok (G2 rfl)
def g_rem :p9 PR U0 LV cRem 54:=t7 GL fI xK 400 vcRem_eq vcRem_ok (G2 rfl)
def OT :p9 PR U0 LV cCre 61:=t7 OB stO xO 400 vcCre_eq vcCre_ok (G2 rfl)
def g_cmp :p9 PR U0 LV cCmp 188:=t7 wT stO noX 400 vcCmp_eq vcCmp_ok (G2 rfl)
def OR :p9 PR U0 LV cCed 146:=t7 wT stO noX 400 vcCed_eq vcCed_ok (G2 rfl)
def stF1 :P7 PR U0 LV (Bu 1):=⟨g_cmp,sN,OR,B9,trivial⟩
def g_app :p9 PR U0 LV cApp 148:=t7 wT stF1 noX 400 vcApp_eq vcApp_ok (G2 rfl)
def stG :P7 PR U0 LV (Mq 0):=⟨OR,g_app,B9,trivial⟩
def g_edt :p9 PR U0 LV cEdt 89:=t7 OC stG xO 400 vcEdt_eq vcEdt_ok (G2 rfl)
def LJ :RRO PR U0 LV cLok 50:=dU OD fI xO 400 vcLok_eq vcLok_ok (G2 rfl)
def r_tre :RRO PR U0 LV cTre 48:=NS OE fI xO 400 DO vcTre_eq vcTre_ok (G2 rfl)
def stM :P7 PR U0 LV (Ms 0):=⟨sN,OS,B9,trivial⟩
def xM :fB PR U0 LV (LG 0 PR):=⟨⟨M4 r_tre,rfl⟩,xO⟩
def Pg :RRO PR U0 LV cTee 12:=dU OF stM xM 400 vcTee_eq vcTee_ok (G2 rfl)
def g_frc :p9 PR U0 LV cFrc 91:=O8 OG fI xO 400 xE vcFrc_eq vcFrc_ok (fun n=>G2 rfl)
def stP :P7 PR U0 LV (Mt 0):=⟨g_frc,B9,trivial⟩
def OV :p9 PR U0 LV cFre 46:=t7 OH stP xO 400 vcFre_eq vcFre_ok (G2 rfl)
def Nn :p9 PR U0 LV cRname 136:=t7 jG fI noX 400 vcRname_eq vcRname_ok (G2 rfl)
def PB :p9 PR U0 LV cRstr 137:=t7 jG fI noX 400 vcRstr_eq vcRstr_ok (G2 rfl)
def stV1 :P7 PR U0 LV (gU 1):=⟨Nn,PB,B9,trivial⟩
def g_one :p9 PR U0 LV cOne 144:=t7 jG stV1 noX 400 vcOne_eq vcOne_ok (G2 rfl)
def stV2 :P7 PR U0 LV (gU 2):=⟨g_one,B9,trivial⟩
def PA :p9 PR U0 LV cRcnt 88:=O8 jG stV2 noX 400 oU vcRcnt_eq vcRcnt_ok (fun n=>G2 rfl)
def stV3 :P7 PR U0 LV (gU 3):=⟨PA,B9,trivial⟩
def Pz :p9 PR U0 LV cRchk 22:=t7 jG stV3 noX 400 vcRchk_eq vcRchk_ok (G2 rfl)
