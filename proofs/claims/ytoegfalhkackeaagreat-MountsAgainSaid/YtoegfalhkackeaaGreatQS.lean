/- Mounts: Handles' contract stands.
  Conditions: none. -/
import Derived.Test.YtoegfalhkackeaaGreatQR
import Derived.Test.YtoegfalhkackeaaGreatW5
import Derived.Test.YtoegfalhkackeaaGreatGH
set_option maxRecDepth 100000
set_option linter.all false
noncomputable section
namespace Go.D
open Go Go.Xe Go.Sx Go.RowKit
open Go.Proofs
def vcHa2_ok :vcHa2:=by
 unfold vcHa2;rintro i g S fr lv c0 u v c3 y z A B st N ⟨q,p,j,l,hR0,w0⟩;refine nin (nrn (ndi ⟨q,p,j,l,hR0,w0⟩ fun k t a x C sz pn pi pg ch r hL=>?_));have hL:if K0 S i g=true then _ else r=11:=hL
 by_cases hv:K0 S i g=true
 ·rw[TJ hv]at hL;obtain⟨_,_,_,_,_,_,_,_,_,_,r0⟩:=hL;refine⟨fun _=>nin (nrn (ndi ⟨q,p,⟨j,l,hR0,w0⟩,hv⟩ fun O o=>?_)),fun h=>absurd r0 h⟩;obtain⟨c,hc⟩:=hR0.vld.1 hv;obtain⟨s,s1,s2,_⟩:=Vm hc;have m:=o j l c ⟨fr,lv,hR0⟩ w0 hc;have pos:0<ln O:=by rw[m,cX w0 s1 s2];unfold ln;simp
  refine ndi (by omega) (nin (nin (ndi pos (nrn (nrn (ndt fun D K n w=>?_))))));obtain⟨d,f,b⟩:=n;obtain⟨c',e⟩:=b.vld.1 hv;rw[e];exact⟨rfl,o D K c' ⟨d,f,b⟩ w e⟩
 ·rw[TH hv]at hL;refine⟨fun h=>by omega,fun _=>ndt fun D K n w=>?_⟩;obtain⟨d,f,b⟩:=n;cases h:D.at i g with
  |none=>exact⟨hL,rfl⟩|some c=>exact absurd (b.vld.2 ⟨c,h⟩) hv
def Su :RRO PR U0 LV cCo2 oF:=r_co2 (by kernel_rfl) (by kernel_rfl) (by kernel_rfl) (by kernel_rfl) Nm
def r_ha2 :RRO PR U0 LV cHa2 13:=eP Lt dO (show gF PR U0 LV (Im 0 PR)from⟨⟨P0 Nm,rfl⟩,⟨P0 Su,rfl⟩,trivial⟩) 400 vcHa2_eq vcHa2_ok (F6 rfl)
def g_mn1 :n9 PR U0 LV cMn1 43:=J7 Lw (show O8 PR U0 LV (IV 0)from⟨g_cre,g_edt,g_ins,QH,B5,trivial⟩) noX 400 DC vcMn1_eq vcMn1_ok (fun n=>F6 rfl)
def QI :n9 PR U0 LV cMnt 10:=m8 O9 (show O8 PR U0 LV (L6 1)from⟨tL,g_mn1,B5,trivial⟩) noX 400 vcMnt_eq vcMnt_ok (F6 rfl)
def g_nwd :n9 PR U0 LV cNwd 8:=m8 O9 dO noX 400 vcNwd_eq vcNwd_ok (F6 rfl)
def g_eqb :n9 PR U0 LV cEqb 164:=m8 O9 dO noX 400 vcEqb_eq vcEqb_ok (F6 rfl)
def g_smn :n9 PR U0 LV cSmn 106:=J7 O9 (show O8 PR U0 LV (L6 2)from⟨g_eqb,B5,trivial⟩) noX 400 Eu vcSmn_eq vcSmn_ok (fun n=>F6 rfl)
def g_stp :n9 PR U0 LV cStp 58:=m8 O9 (show O8 PR U0 LV (L6 3)from⟨tL,QG,B5,trivial⟩) noX 400 vcStp_eq vcStp_ok (F6 rfl)
def g_nsm :n9 PR U0 LV cNsm 57:=m8 O9 (show O8 PR U0 LV (L6 4)from⟨tL,g_smn,B5,trivial⟩) noX 400 vcNsm_eq vcNsm_ok (F6 rfl)
def r_is :RRO PR U0 LV cIs 19:=eP O9 (show O8 PR U0 LV (L6 5)from⟨tL,g_nsm,g_stp,B5,trivial⟩) (show gF PR U0 LV (W6 5 PR)from⟨⟨P0 Nn,rfl⟩,trivial⟩) 400 vcIs_eq vcIs_ok (F6 rfl)
def g_drp :n9 PR U0 LV cDrp 14:=m8 O9 (show O8 PR U0 LV (L6 7)from⟨g_rem,QH,B5,trivial⟩) (show gF PR U0 LV (W6 7 PR)from⟨⟨P0 Nm,rfl⟩,trivial⟩) 400 vcDrp_eq vcDrp_ok (F6 rfl)
def g_cln :n9 PR U0 LV cCln 11:=m8 Lu (show O8 PR U0 LV (IT 1)from⟨QI,B5,trivial⟩) (show gF PR U0 LV (In 1 PR)from⟨⟨P0 Nn,rfl⟩,trivial⟩) 400 vcCln_eq vcCln_ok (F6 rfl)
open Go Go.Xe Go.Sx
def vcCnt :Prop:=
 ∀a b c d f g,AJ [.int a,.str b,.str c,.lst d,.str f,.lst g]->Nd (aA [.lst (pQ (d8 6 1 [.int a,.str b,.str c,.lst d,.str f,.lst g]) 0 1),.int 1,.int 0,.int 0]) (∀h i j,G0 [.lst (pQ (d8 6 1 [.int a,.str b,.str c,.lst d,.str f,.lst g]) 0 1),.int 1,.int 0,.int 0] [.bool h,.int i,.int j]->((h=true->Nd (oZ [.int a,.str b,.str c,.lst d,.str f,.lst g] [.int i]) True)/\(¬h=true->Nd (oZ [.int a,.str b,.str c,.lst d,.str f,.lst g] [.int 0]) True)))
def vcCnt_eq :kq Go.Proofs.Tryz.prog cCnt Ls (IS 0) (Px 0) 18=vcCnt:=by kernel_rfl
open Go Go.Xe Go.Sx
def vcCnt_ok :vcCnt:=by
 rintro _ _ _ _ _ _ ⟨s,rfl,rfl,rfl,rfl,rfl,rfl⟩;have e:pQ (d8 6 1 [(.int s.k),(.str s.t),(.str s.y),(.lst (s.a.map Att.row)),(.str s.x),(.lst (rows s.c))]) 0 1=[s.row]:=by rw[Q3];rfl
 simp only[Nd,e,aA,G0,oZ,u9,UD,UG,pT,forall_eq',forall_eq,exists_eq',UC,Ux];refine⟨by omega,fun _ b n d ⟨h1,h2,h3,h4,h5,g⟩=>⟨fun e=>?_,fun e v=>absurd (h5.2 ⟨v.1,by have:=v.2.2;omega,by have:=v.2.1;omega⟩) e⟩⟩;obtain⟨f,i,j⟩:=h5.1 e;have:=(g e).1;exact⟨fun _=>by omega,fun h=>absurd ⟨f,by omega,by omega⟩ h⟩
def QJ :n9 PR U0 LV cTgx 39:=m8 gJ dO noX 400 vcTgx_eq vcTgx_ok (F6 rfl)
def QE :n9 PR U0 LV cAts 40:=m8 gJ dO noX 400 vcAts_eq vcAts_ok (F6 rfl)
def g_bld :n9 PR U0 LV cBld 41:=J7 gJ (show O8 PR U0 LV (jJ 1)from⟨QJ,QE,B5,trivial⟩) noX 400 mV vcBld_eq vcBld_ok (fun n=>F6 rfl)
def g_trw :n9 PR U0 LV cTrw 9:=m8 gJ (show O8 PR U0 LV (jJ 2)from⟨g_bld,QJ,QE,B5,trivial⟩) noX 400 vcTrw_eq vcTrw_ok (F6 rfl)
def g_rsp :n9 PR U0 LV cRsp 16:=J7 Lx (show O8 PR U0 LV (IW 0)from⟨Mf,B5,trivial⟩) noX 400 Eg vcRsp_eq vcRsp_ok (fun n=>F6 rfl)
def g_ctn :n9 PR U0 LV cCnt 18:=m8 Ls (show O8 PR U0 LV (IS 0)from stA3) noX 400 vcCnt_eq vcCnt_ok (F6 rfl)
def g_mag :n9 PR U0 LV cMag 3:=m8 Lv (show O8 PR U0 LV (IU 0)from⟨g_trw,g_nwd,QI,g_cln,g_drp,g_sam,g_rsp,g_ctn,B5,trivial⟩) (show gF PR U0 LV (Io 0 PR)from⟨⟨P0 Nn,rfl⟩,⟨P0 r_ha2,rfl⟩,⟨P0 r_is,rfl⟩,trivial⟩) 400 vcMag_eq vcMag_ok (F6 rfl)
def kN :List Kd:=[.int .u8,.int .u8,.sl 5]
def If :kf PR 24=kN:=by kernel_rfl
def QQ :FU PR 24=true:=by kernel_rfl
def RR :(kf PR 24).all (De PR 3)=true:=by kernel_rfl
def HC :kf PR 5=[.int .u8]:=by kernel_rfl
variable {d:Dat}
def QC {P:Aw}(h:DW P (.int .u8) d):∃n:Int,u8 n/\d= .int n:=by
 cases h with
 |int k n h=>have h1:(0:Int)<=n:=h.1;have h2:n<=255:=h.2;exact⟨n,⟨h1,by omega⟩,rfl⟩
def LM (h:DW PR (.sl 5) d):∃L:Sx.Rows,bytes L/\d= .lst L:=by
 cases h with
 |sl _ rows hl hz hh=>
  obtain⟨L,h1,h2⟩:=Ee (fun n:Int=>[Dat.int n]) u8 (rows:=rows) fun r hr=>by
   have h3:=hz r hr;rw[HC]at h3;obtain⟨i,hi⟩:=Uq.1 hr
   match r,h3,hi with
   | [a],_,hi=>have b:=hh i 0 _ (.int .u8) a hi rfl (by rw[HC];rfl);obtain⟨x,hx,rfl⟩:=QC b;exact⟨x,hx,rfl⟩
  exact⟨rows,⟨L,h2,h1⟩,rfl⟩
variable {w:Bc}{v:Av}
def LC (h:mM PR w (.int .u8) v d):∃n:Int,u8 n/\VR (wX w) (.int .u8 n) v:=by obtain⟨a,h1,h2,h3⟩:=h;obtain⟨n,hn,rfl⟩:=QC h3;cases h2;exact⟨n,hn,AC h1⟩
def Jm (h:mM PR w (.sl 5) v d):∃(a:Av) (L:Sx.Rows),bytes L/\VR (wX w) a v/\ ∀n,VD PR U0 (fun _=>none) (roF w) (.lst 5 (.dat n (.lst L)) false) a:=by obtain⟨a,h1,h2,h3⟩:=h;obtain⟨L,hL,rfl⟩:=LM h3;exact⟨a,L,hL,AC h1,fun n=>.lst 5 _ false a h2 (fun h=>by cases h)⟩
def Ie (t y:Int)(a:Av):Af:=[.int .u8 t,.int .u8 y,a]
def nSvs (k:Nat)(t y:Int)(L:Sx.Rows):As:=[.int .u8 (.dat k (.int t)),.int .u8 (.dat (k+1) (.int y)),.lst 5 (.dat (k+2) (.lst L)) false]
variable {spare:Nat->Bool}{ps:List MemPlace}{fs:Array Field}{r:Reach}
def Qs {H:Type}{enc:Ax×Av->H}{f:Bool}{d:DataW H}(ht:PR.underlying 24=some (.struct fs)){b:Nat}(hv:Value.okWide PR w r b 24 v)(h:DataW.Trod enc PR w 0 spare f 24 v d ps):∃(x:Av) (t y:Int) (L:Sx.Rows),u8 t/\u8 y/\bytes L/\VR (wX w) x v/\ ∀k,VD PR U0 (fun _=>none) (roF w) (.agg (nSvs k t y L)) x:=by
 obtain⟨xs,rfl,hx⟩:=Go.WideShapes.okWide_struct ht hv;have e:=OM h QQ RR;rw[If]at e;obtain⟨q,n,e0,k0⟩:=e 0 _ rfl;obtain⟨s,o,e1,k1⟩:=e 1 _ rfl;obtain⟨u,p,e2,k2⟩:=e 2 _ rfl;obtain⟨t,l,r0⟩:=LC k0;obtain⟨y,m,r1⟩:=LC k1;obtain⟨a,L,hL,j,g⟩:=Jm k2;have hs:xs.size=3:=by rw[hx,(tW QQ).1,If];rfl
 refine⟨.agg (Ie t y a).toArray,t,y,L,l,m,hL,?_,fun k=>?_⟩
 ·refine .agg _ _ (by rw[hs];rfl) fun i x z c hy=>?_;have c:(Ie t y a)[i]? =some x:=by simpa using c
  match i,c,hy with
  |0,c,hy=>cases c;rw[hy]at e0;cases e0;exact r0
  |1,c,hy=>cases c;rw[hy]at e1;cases e1;exact r1
  |2,c,hy=>cases c;rw[hy]at e2;cases e2;exact j
  |i+3,c,hy=>simp[Ie]at c
 ·have hv:VDL PR U0 (fun _=>none) (roF w) (nSvs k t y L) (Ie t y a):=
   Wd (.int .u8 (.dat k (.int t))) (Wd (.int .u8 (.dat (k+1) (.int y))) (Wd (g (k+2)) We))
  exact hv.agg
def Dt {d e:Ar}(h:P1 d e):∃r,e= .bool true::r:=by unfold P1 My at h;split at h;exact⟨_,by rw[h]⟩;exact h.elim
def mag_walk {H:Type}{enc:Ax×Av->H}{W:Bc}{a:Bool}{w:Av}{d e:DataW H}{l:List MemPlace}(hm:PR.follows .mixedOrders=true)(ht:PR.underlying 24=some (.struct fs)){b:Nat}(hv:Value.okWide PR W r b 24 v)(j:Value.okWide PR W r b 24 w)(h:DataW.Trod enc PR W 0 spare a 24 v d ps)(k:DataW.Trod enc PR W 0 spare a 24 w e l):Calls PR 3 #[v,w] W fun e w'=>e= .returned (.bool true)/\Below W.heap.size W w':=by obtain⟨x,t1,o,c,m,w1,g,h2,h3⟩:=Qs ht hv h;obtain⟨y,t2,p,f,n,w2,i,k2,k3⟩:=Qs ht j k;exact FR hm (LV_ok hm) g_mag rfl (fun d e h=>Dt h) (es:=[.dat 0 (.int t1),.dat 1 (.int o),.dat 2 (.lst c),.dat 3 (.int t2),.dat 4 (.int p),.dat 5 (.lst f),.dat 6 (.lst [])]) rfl ⟨rfl,⟨m,w1,g⟩,n,w2,i⟩ (R:= .dat 6 (.lst [])) rfl rfl (xs:=[x,y]) (ys:=[v,w]) (Wd (h3 0) (Wd (k3 3) We)) (Wh h2 (Wh k2 (Wi _)))
