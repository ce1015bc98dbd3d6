/- DiffsApply: the contracts stand.
  Conditions: none. -/
import Derived.Test.YtcjhhnoaoldcmaaGreatA1
import Derived.Test.YtcjhhnoaoldcmaaGreatA9
import Derived.Test.YtcjhhnoaoldcmaaGreatV5
import Derived.Test.YtcjhhnoaoldcmaaGreatT6
import Derived.Test.YtcjhhnoaoldcmaaGreatTC
set_option linter.all false
set_option maxRecDepth 100000
noncomputable section
namespace Go.D
open Go Go.Xe Go.Sx Go.RowKit
open Go.C36 (row)
open Go.Proofs
noncomputable def LW :Aa:=ne LVn fQ (ne 89 25 LM)
def LW_ok (hm:PR.follows .mixedOrders=true):∀g t,LW g=some t->dq PR g t:=by
 intro g t h;unfold LW ne at h;cases hb:Nat.beq g LVn with
 |true=>rw[hb,Kc,JL]at h;rw[<-h,JQ hb];exact Hh (AZ hm)|false=>rw[hb,Ke]at h;exact rK (dq.of 4 rfl rfl rfl rfl (by kernel_rfl)) LM_ok g t h
def H7 :g8 PR U0 LW (cYes "lives") LVn:=Co rfl "lives"
def vh :aI PR U0 LW [(LVn,cYes "lives")]:=⟨H7,trivial⟩
def noX :AE PR U0 LW []:=trivial
def GN :g8 PR U0 LW cNamed 115:=o6 fJ vh noX 400 vcNamed_eq vcNamed_ok (V4 rfl)
def IZ :g8 PR U0 LW cText 114:=o6 fJ vh noX 400 vcText_eq vcText_ok (V4 rfl)
def stA1 :aI PR U0 LW (ek 1):=⟨GN,IZ,H7,trivial⟩
def GM :g8 PR U0 LW cAlone 108:=o6 fJ stA1 noX 400 vcAlone_eq vcAlone_ok (V4 rfl)
def stA2 :aI PR U0 LW (ek 2):=⟨GM,H7,trivial⟩
def Jb :g8 PR U0 LW cWalk 107:=Q8 fJ stA2 noX 400 ep vcWalk_eq vcWalk_ok (fun n=>V4 rfl)
def stA3 :aI PR U0 LW (ek 3):=⟨Jb,H7,trivial⟩
def Dy :g8 PR U0 LW cChk 34:=o6 fJ stA3 noX 400 vcChk_eq vcChk_ok (V4 rfl)
def Is :g8 PR U0 LW cTag 25:=o6 ke vh noX 400 vcTag_eq vcTag_ok (V4 rfl)
def Ir :g8 PR U0 LW cAts 26:=o6 ke vh noX 400 vcAts_eq vcAts_ok (V4 rfl)
def stB1 :aI PR U0 LW (jE 1):=⟨Is,Ir,H7,trivial⟩
def g_bld :g8 PR U0 LW cBld 27:=Q8 ke stB1 noX 400 gW vcBld_eq vcBld_ok (fun n=>V4 rfl)
def stB2 :aI PR U0 LW (jE 2):=⟨g_bld,Is,Ir,H7,trivial⟩
def Ja :g8 PR U0 LW cTree 7:=o6 ke stB2 noX 400 vcTree_eq vcTree_ok (V4 rfl)
def yS :g8 PR U0 LW cRname 71:=o6 dD vh noX 400 vcRname_eq vcRname_ok (V4 rfl)
def Dz :g8 PR U0 LW cRstr 72:=o6 dD vh noX 400 vcRstr_eq vcRstr_ok (V4 rfl)
def stG1 :aI PR U0 LW (el 1):=⟨yS,Dz,H7,trivial⟩
def g_one :g8 PR U0 LW cOne 94:=o6 dD stG1 noX 400 vcOne_eq vcOne_ok (V4 rfl)
def stG2 :aI PR U0 LW (el 2):=⟨g_one,H7,trivial⟩
def IY :g8 PR U0 LW cRcnt 68:=Q8 dD stG2 noX 400 ju vcRcnt_eq vcRcnt_ok (fun n=>V4 rfl)
def stG3 :aI PR U0 LW (el 3):=⟨IY,H7,trivial⟩
def ms :g8 PR U0 LW cRchk 15:=o6 dD stG3 noX 400 vcRchk_eq vcRchk_ok (V4 rfl)
def g_equ :g8 PR U0 LW cEqu 36:=Q8 yn vh noX 400 tC vcEqu_eq vcEqu_ok (fun n=>V4 rfl)
def stH1 :aI PR U0 LW (xI 1):=⟨ms,g_equ,H7,trivial⟩
def g_sam :g8 PR U0 LW cSam 13:=o6 yn stH1 noX 400 vcSam_eq vcSam_ok (V4 rfl)
def stT0 :aI PR U0 LW (Q9 0):=⟨Dy,H7,trivial⟩
def g_frm :g8 PR U0 LW cFrm 61:=o6 V0 stT0 noX 400 vcFrm_eq vcFrm_ok (V4 rfl)
def g_ced :g8 PR U0 LW cCed 65:=o6 V0 stT0 noX 400 vcCed_eq vcCed_ok (V4 rfl)
def stT1 :aI PR U0 LW (Q9 1):=⟨ms,H7,trivial⟩
def g_rfm :g8 PR U0 LW cRfm 69:=o6 V0 stT1 noX 400 vcRfm_eq vcRfm_ok (V4 rfl)
def g_rfd :g8 PR U0 LW cRfd 70:=o6 V0 stT1 noX 400 vcRfd_eq vcRfd_ok (V4 rfl)
def g_rch :g8 PR U0 LW cRch 73:=IX rfl ms
def stT2 :aI PR U0 LW (Q9 2):=⟨ms,yS,Dz,g_rfm,g_rfd,g_rch,H7,trivial⟩
def g_rca :g8 PR U0 LW cRca 39:=Q8 V0 stT2 noX 400 uF vcRca_eq vcRca_ok (fun n=>V4 rfl)
def stT3 :aI PR U0 LW (Q9 3):=⟨ms,g_rca,H7,trivial⟩
def g_rap :g8 PR U0 LW cRap 18:=o6 V0 stT3 noX 400 vcRap_eq vcRap_ok (V4 rfl)
def g_wg2 :g8 PR U0 LW cWg2 16:=Q8 V0 vh noX 400 qj vcWg2_eq vcWg2_ok (fun n=>V4 rfl)
def cb :oF LW:=⟨rfl,rfl,rfl,rfl,rfl,rfl,rfl,rfl,rfl,Dy,g_ced,g_frm,fun t h=>Gy rfl Dy h (pk rfl rfl rfl _ t (Kj _) h.1)⟩
def g_apy :g8 PR U0 LW cApy 11:=IW cb rfl rfl rfl
def stT4 :aI PR U0 LW (Q9 4):=⟨g_wg2,Ja,g_apy,g_rap,g_sam,H7,trivial⟩
def g_dap :g8 PR U0 LW cDap 5:=o6 V0 stT4 noX 400 vcDap_eq vcDap_ok (V4 rfl)
end Go.D
noncomputable section
namespace Go.D
open Go Go.Xe Go.Sx Go.RowKit
open Go.C36 (row)
open Go.Proofs
def kN :List Kd:=[.int .u8,.int .u8,.sl 5]
def Hc :kf PR 24=kN:=by kernel_rfl
def Iw :tZ PR 24=true:=by kernel_rfl
def Jf :(kf PR 24).all (tP PR 3)=true:=by kernel_rfl
variable {P:Ax}{d:Dat}
def Dm (h:DW P (.int .u8) d):∃n:Int,u8 n/\d= .int n:=by
 cases h with
 |int k n h=>have h1:=h.1;have h2:n<=255:=h.2;exact⟨n,⟨h1,by omega⟩,rfl⟩
theorem CW (h:DW PR (.sl 5) d):∃L:Sx.Rows,bytes L/\d= .lst L:=by
 cases h with
 |sl _ rows hl hz hh=>
  obtain⟨L,h1,h2⟩:=T4 (fun n:Int=>[Dat.int n]) u8 fun r hr=>by
   have h3:=hz r hr;obtain⟨i,hi⟩:=KQ.1 hr
   match r,h3,hi with
   | [a],_,hi=>have c:=hh i 0 _ (.int .u8) a hi rfl rfl;obtain⟨x,hx,rfl⟩:=Dm c;grind
  exact⟨rows,⟨L,h2,h1⟩,rfl⟩
variable {v:Aw}
def CL {w:Be}(h:fD PR w (.int .u8) v d):∃n:Int,u8 n/\VR (gu w) (.int .u8 n) v:=by obtain⟨a,h1,h2,h3⟩:=h;obtain⟨n,hn,rfl⟩:=Dm h3;cases h2;exact⟨n,hn,ly h1⟩
theorem AJ {w:Be}(h:fD PR w (.sl 5) v d):∃(a:Aw) (L:Sx.Rows),bytes L/\VR (gu w) a v/\ ∀n,VD PR U0 (fun _=>none) (roF w) (.lst 5 (.dat n (.lst L)) false) a:=by obtain⟨a,h1,h2,h3⟩:=h;obtain⟨L,c,rfl⟩:=CW h3;exact⟨a,L,c,ly h1,fun n=>.lst 5 _ false a h2 (fun h=>by grind)⟩
def Iv (t y:Int)(a:Aw):Af:=[.int .u8 t,.int .u8 y,a]
def nSvs (k:Nat)(t y:Int)(L:Sx.Rows):Au:=[.int .u8 (.dat k (.int t)),.int .u8 (.dat (k+1) (.int y)),.lst 5 (.dat (k+2) (.lst L)) false]
variable {spare:Nat->Bool}{held:Bool}{ps:List MemPlace}{fs:Array Field}{b:Nat}
theorem arg_N {H:Type}{enc:Ay×Aw->H}{w:Be}{d:DataW H}(ht:PR.underlying 24=some (.struct fs)){r:Reach}(e:Value.okWide PR w r b 24 v)(h:DataW.Trod enc PR w 0 spare held 24 v d ps):∃(x:Aw) (t y:Int) (L:Sx.Rows),u8 t/\u8 y/\bytes L/\VR (gu w) x v/\ ∀k,VD PR U0 (fun _=>none) (roF w) (.agg (nSvs k t y L)) x:=by
 obtain⟨xs,rfl,hx⟩:=Go.WideShapes.okWide_struct ht e;have key:=Gl h Iw Jf;obtain⟨A,s,e0,k0⟩:=key 0 _ rfl;obtain⟨B,u,f,k1⟩:=key 1 _ rfl;obtain⟨C,z,g,k2⟩:=key 2 _ rfl;obtain⟨t,p,m⟩:=CL k0;obtain⟨y,q,n⟩:=CL k1;obtain⟨a,L,l,o,j⟩:=AJ k2;have hs:xs.size=3:=by rw[hx,(mK Iw).1,Hc];rfl
 refine⟨.agg (Iv t y a).toArray,t,y,L,p,q,l,?_,fun k=>?_⟩
 ·refine .agg _ _ (by rw[hs];rfl) fun i x D c hy=>?_
  match i,c,hy with
  |0,c,hy=>cases c;rw[hy]at e0;cases e0;exact m
  |1,c,hy=>cases c;rw[hy]at f;cases f;exact n
  |2,c,hy=>cases c;rw[hy]at g;cases g;exact o
  |i+3,c,hy=>grind
 ·have e:VDL PR U0 (fun _=>none) (roF w) (nSvs k t y L) (Iv t y a):=
   MB (.int .u8 (.dat k (.int t))) (MB (.int .u8 (.dat (k+1) (.int y))) (MB (j (k+2)) MC))
  exact e.agg
def Z8 (h:DW P .str d):∃s,d= .str s:=by
 cases h with
 |str s _=>exact⟨s,rfl⟩
theorem mo {k:IntKind}(h:DW P (.int k) d):∃n,d= .int n:=by cases h<;>grind
theorem Dl (h:DW PR (.sl 88) d):∃a:List Att,d= .lst (a.map Att.row):=by
 cases h with
 |sl _ rows hl hz hh=>
  obtain⟨L,_,rfl⟩:=T4 Att.row (fun _=>True) fun r hr=>by
   have h3:=hz r hr;obtain⟨i,hi⟩:=KQ.1 hr
   match r,h3,hi with
   | [a,b],_,hi=>obtain⟨x,rfl⟩:=Z8 (hh i 0 _ .str a hi rfl rfl);obtain⟨y,rfl⟩:=Z8 (hh i 1 _ .str b hi rfl rfl);exact⟨⟨x,y⟩,trivial,rfl⟩
  grind
theorem IQ {kd:Kd}(h:DW PR kd d):kd= .sl 28-> ∃l:List a8,d= .lst (rows l):=by
 induction h with
 |sl e j hl hz hh g=>
  intro e0;cases e0;obtain⟨L,_,rfl⟩:=T4 a8.row (fun _=>True) fun r hr=>by
   have h3:=hz r hr;obtain⟨i,hi⟩:=KQ.1 hr
   match r,h3,hi with
   | [a,b,c,d,e,f],_,hi=>obtain⟨k,rfl⟩:=mo (hh i 0 _ (.int .u8) a hi rfl rfl);obtain⟨t,rfl⟩:=Z8 (hh i 1 _ .str b hi rfl rfl);obtain⟨y,rfl⟩:=Z8 (hh i 2 _ .str c hi rfl rfl);obtain⟨a,rfl⟩:=Dl (hh i 3 _ _ d hi rfl rfl);obtain⟨x,rfl⟩:=Z8 (hh i 4 _ .str e hi rfl rfl);obtain⟨l,rfl⟩:=g i 5 _ _ f hi rfl rfl rfl;exact⟨.mk k t y a x l,trivial,(H9 (.mk k t y a x l)).symm⟩
  grind
 |_=>grind
theorem GC (h:DW PR (.sl 3) d):∃m:Ak,d= .lst (m.map row):=by
 cases h with
 |sl _ c hl hz hh=>
  obtain⟨L,_,rfl⟩:=T4 row (fun _=>True) fun r hr=>by
   have h3:=hz r hr;obtain⟨i,hi⟩:=KQ.1 hr
   match r,h3,hi with
   | [a],_,hi=>obtain⟨x,rfl⟩:=mo (hh i 0 _ (.int .i64) a hi rfl rfl);exact⟨x,trivial,rfl⟩
  grind
theorem CK {H:Type}{enc:Ay×Aw->H}{w:Be}{S:Kd->Prop}(c:oX P S){u:Ay}{d:DataW H}(h:DataW.Trod enc P w 0 spare held u v d ps)(e:S (kd1 P u))(f:v.cells.toList=[v]):∃d,fD P w (kd1 P u) v d:=by obtain⟨a,h⟩:=h;obtain⟨v',d,h1,h2⟩:=ma c (a+1) a (KW _) u _ _ h e;grind
def Hx :oX PR fun kd=>inL [88,28,3,47] kd=true:=GP (by kernel_rfl)
theorem IP (h:DW PR (.sl 47) d):∃l:List Stp,d= .lst (l.map Stp.row)/\ ∀s∈l,0<=s.w/\s.w<256:=by
 cases h with
 |sl _ A hl hz hh=>
  obtain⟨L,h1,rfl⟩:=T4 Stp.row (fun s=>0<=s.w/\s.w<256) fun r hr=>by
   have h3:=hz r hr;obtain⟨i,hi⟩:=KQ.1 hr
   match r,h3,hi with
   | [a,b,c,d,e,f,g,j,k,m,n,o],_,hi=>obtain⟨w,hw,rfl⟩:=Dm (hh i 0 _ (.int .u8) a hi rfl rfl);obtain⟨p,rfl⟩:=GC (hh i 1 _ _ b hi rfl rfl);obtain⟨z,rfl⟩:=Z8 (hh i 2 _ .str c hi rfl rfl);obtain⟨v,rfl⟩:=Z8 (hh i 3 _ .str d hi rfl rfl);obtain⟨q,rfl⟩:=mo (hh i 4 _ (.int .i64) e hi rfl rfl);obtain⟨o',rfl⟩:=mo (hh i 5 _ (.int .i64) f hi rfl rfl);obtain⟨u,rfl⟩:=mo (hh i 6 _ (.int .u8) g hi rfl rfl);obtain⟨t,rfl⟩:=Z8 (hh i 7 _ .str j hi rfl rfl);obtain⟨y,rfl⟩:=Z8 (hh i 8 _ .str k hi rfl rfl);obtain⟨at_,rfl⟩:=Dl (hh i 9 _ _ m hi rfl rfl);obtain⟨x,rfl⟩:=Z8 (hh i 10 _ .str n hi rfl rfl);obtain⟨l,rfl⟩:=IQ (hh i 11 _ _ o hi rfl rfl) rfl;exact⟨⟨w,p,z,v,q,o',.mk u t y at_ x l⟩,⟨hw.1,hw.2⟩,(iE ⟨w,p,z,v,q,o',.mk u t y at_ x l⟩).symm⟩
  grind
variable {W:Be}
theorem arg_S {H:Type}{enc:Ay×Aw->H}{d:DataW H}{r:Reach}(ht:PR.underlying 30=some (.slice 47))(e:Value.okWide PR W r b 30 v)(h:DataW.Trod enc PR W 0 spare held 30 v d ps):∃(a:Aw) (l:List Stp),(∀s∈l,0<=s.w/\s.w<256)/\VR (gu W) a v/\ ∀n,VD PR U0 (fun _=>none) (roF W) (.lst 47 (.dat n (.lst (l.map Stp.row))) false) a:=by obtain⟨a0,len,cap,rfl⟩:=Go.WideShapes.okWide_slice ht e;obtain⟨f,a,h1,h2,h3⟩:=CK Hx h rfl rfl;obtain⟨L,rfl,c⟩:=IP h3;exact⟨a,L,c,ly h1,fun n=>.lst _ _ false a h2 (fun h=>by grind)⟩
def tw {d e:As}(h:M0 d e):e=[.bool true]:=by
 unfold M0 at h;split at h
 ·rw[h]
 ·exact h.elim
def dap_walk {H:Type}{enc:Ay×Aw->H}{w:Aw}{d e:DataW H}{g:List MemPlace}(hm:PR.follows .mixedOrders=true)(ht:PR.underlying 24=some (.struct fs))(a:PR.underlying 30=some (.slice 47)){r:Reach}(f:Value.okWide PR W r b 24 v)(hw:Value.okWide PR W r b 30 w)(h:DataW.Trod enc PR W 0 spare held 24 v d ps)(k:DataW.Trod enc PR W 0 spare held 30 w e g):Calls PR 5 #[v,w] W fun e w'=>e= .returned (.bool true)/\Below W.heap.size W w':=by obtain⟨x,t1,m,c,i,j,b1,h2,h3⟩:=arg_N ht f h;obtain⟨y,l,hl,k2,k3⟩:=arg_S a hw k;exact AY hm (LW_ok hm) g_dap rfl rfl rfl (fun d e h=>tw h) rfl (fun nb ds=>rfl) (es:=[.dat 0 (.int t1),.dat 1 (.int m),.dat 2 (.lst c),.dat 3 (.lst (l.map Stp.row))]) rfl ⟨⟨i,j,b1⟩,l,rfl,hl⟩ (MB (h3 0) (MB (k3 3) MC)) (ME h2 (ME k2 (MF _)))
end Go.D
