/- Chapter 19: the contracts of DiffsSelf stand.
  Conditions: none. -/
import Derived.Test.YtcjhhnoaoldcmaaGreatF0
import Derived.Test.YtcjhhnoaoldcmaaGreatC5
import Derived.Test.YtcjhhnoaoldcmaaGreatG5
import Derived.Test.YtcjhhnoaoldcmaaGreatH3
import Derived.Test.YtcjhhnoaoldcmaaGreatI5
import Derived.Test.YtcjhhnoaoldcmaaGreatK3
set_option linter.unusedVariables false
set_option maxRecDepth 100000
noncomputable section
namespace Go.D
open Go Go.Xe Go.Sx Go.RowKit
open Go.C36 (row j0 lis cLong cRlong longPre longRel rlongPre rlongRel)
open Go.Proofs
noncomputable def ρn :Go.Shelf.Ren:=⟨fun n=>bif Nat.beq n 27 then 110 else bif Nat.beq n 28 then 111 else n,fun t=>bif Nat.beq t 22 then 26 else t,fun g=>g⟩
noncomputable def ien :TypeInfo:=(PR.info? 28).getD default
def zvN :Value:= .agg #[.int .u8 0,.string ⟨#[]⟩,.string ⟨#[]⟩,.slice none 0 0,.string ⟨#[]⟩,.slice none 0 0]
theorem ien_eq :PR.info? 28=some ien:=by kernel_rfl
theorem ien_size :ien.size=6:=by kernel_rfl
theorem delN :aO0 PR 91 ρn 28 ien zvN where
 fn:=⟨T4 PR 91,by kernel_rfl,by kernel_rfl,by kernel_rfl,by kernel_rfl⟩
 t22:=by kernel_rfl
 ty:=ien_eq
 zero:=by kernel_rfl
 cst:=by kernel_rfl
 zl:=by kernel_rfl
 one:=by kernel_rfl
 by_:=bN0 (by kernel_rfl)
theorem insN :Z7 PR 93 ρn 28 ien zvN where
 fn:=⟨T4 PR 93,by kernel_rfl,by kernel_rfl,by kernel_rfl,by kernel_rfl⟩
 t22:=by kernel_rfl
 t3:=by kernel_rfl
 ty:=ien_eq
 zero:=by kernel_rfl
 cst:=by kernel_rfl
 zl:=by kernel_rfl
 sz:=by rw[ien_size];decide
 by_:=bN0 (by kernel_rfl)
 fo:=⟨T4 PR 110,by kernel_rfl,by kernel_rfl⟩
 nT:=by kernel_rfl
theorem allI :aD2 PR U0 LV (primsI PR):=by
 have h1:=az7 (U:=U0) (ov:=LV) delN rfl
 have h2:=aA0 (U:=U0) (ov:=LV) insN rfl rfl
 rw[ien_size]at h1 h2
 exact⟨⟨h1,rfl⟩,⟨h2,rfl⟩,trivial⟩
theorem stC0 :M0 PR U0 LV (stageC 0):=⟨g_long,g_rlong,g_lives,trivial⟩
theorem g_mat :i7 PR U0 LV cMat 41:=i3 annsC stC0 noX 400 vcMat_eq vcMat_ok (F8 rfl)
theorem g_stay :i7 PR U0 LV cStay 23:=i3 annsC stC0 noX 400 vcStay_eq vcStay_ok (F8 rfl)
theorem g_cmp :i7 PR U0 LV cCmp 112:=i3 annsD st_l allX 400 vcCmp_eq vcCmp_ok (F8 rfl)
theorem stD1 :M0 PR U0 LV (stageD 1):=⟨g_chk,g_cmp,g_lives,trivial⟩
theorem g_adf :i7 PR U0 LV cAdf 81:=i3 annsD stD1 allX 400 vcAdf_eq vcAdf_ok (F8 rfl)
theorem g_put :i7 PR U0 LV cPut 48:=i3 annsD st_l allX 400 vcPut_eq vcPut_ok (F8 rfl)
theorem stD2 :M0 PR U0 LV (stageD 2):=⟨g_adf,g_put,g_lives,trivial⟩
theorem g_own :i7 PR U0 LV cOwn 46:=i3 annsD stD2 allX 400 vcOwn_eq vcOwn_ok (F8 rfl)
theorem stD3 :M0 PR U0 LV (stageD 3):=⟨g_put,g_own,g_mat,g_stay,g_chk,g_cpd,g_lives,trivial⟩
theorem g_node :i7 PR U0 LV cNode 31:=K5 annsD stD3 allX 400 nodeMu vcNode_eq vcNode_ok (fun n=>F8 rfl)
theorem g_rname :i7 PR U0 LV cRname 71:=i3 annsG st_l noX 400 vcRname_eq vcRname_ok (F8 rfl)
theorem g_rstr :i7 PR U0 LV cRstr 72:=i3 annsG st_l noX 400 vcRstr_eq vcRstr_ok (F8 rfl)
theorem stG1 :M0 PR U0 LV (stageG 1):=⟨g_rname,g_rstr,g_lives,trivial⟩
theorem g_one :i7 PR U0 LV cOne 94:=i3 annsG stG1 noX 400 vcOne_eq vcOne_ok (F8 rfl)
theorem stG2 :M0 PR U0 LV (stageG 2):=⟨g_one,g_lives,trivial⟩
theorem g_rcnt :i7 PR U0 LV cRcnt 68:=K5 annsG stG2 noX 400 rcntMu vcRcnt_eq vcRcnt_ok (fun n=>F8 rfl)
theorem stG3 :M0 PR U0 LV (stageG 3):=⟨g_rcnt,g_lives,trivial⟩
theorem g_rchk :i7 PR U0 LV cRchk 15:=i3 annsG stG3 noX 400 vcRchk_eq vcRchk_ok (F8 rfl)
theorem g_equ :i7 PR U0 LV cEqu 36:=K5 annsH st_l noX 400 equMu vcEqu_eq vcEqu_ok (fun n=>F8 rfl)
theorem stH1 :M0 PR U0 LV (stageH 1):=⟨g_rchk,g_equ,g_lives,trivial⟩
theorem g_sam :i7 PR U0 LV cSam 13:=i3 annsH stH1 noX 400 vcSam_eq vcSam_ok (F8 rfl)
theorem g_tro :i7 PR U0 LV cTro 7:=i3 annsB stB2 noX 400 vcTro_eq vcTro_ok (F8 rfl)
theorem stI1 :M0 PR U0 LV (stageI 1):=⟨g_chk,g_cpd,g_lives,trivial⟩
theorem g_mov :i7 PR U0 LV cMov 35:=i3 annsI stI1 allI 400 vcMov_eq vcMov_ok (F8 rfl)
theorem stI3 :M0 PR U0 LV (stageI 3):=⟨g_chk,g_cpd,g_mov,g_lives,trivial⟩
theorem g_apm :i7 PR U0 LV cApm 11:=i3 annsI stI3 allI 400 vcApm_eq vcApm_ok (F8 rfl)
theorem stI4 :M0 PR U0 LV (stageI 4):=⟨g_chk,g_cpd,g_node,g_lives,trivial⟩
theorem g_dda :i7 PR U0 LV cDda 8:=i3 annsI stI4 allI 400 vcDda_eq vcDda_ok (F8 rfl)
theorem allK :aD2 PR U0 LV (primsK PR):=⟨⟨br2 g_dda,rfl⟩,trivial⟩
theorem stK0 :M0 PR U0 LV (stageK 0):=⟨g_tro,g_rchk,g_apm,g_sam,g_lives,trivial⟩
theorem g_slf :i7 PR U0 LV cSlf 4:=i3 annsK stK0 allK 400 vcSlf_eq vcSlf_ok (F8 rfl)
end Go.D
noncomputable section
namespace Go.D
open Go Go.Xe Go.Sx Go.RowKit
open Go.C36 (row)
open Go.Proofs
def kN :List Kd:=[.int .u8,.int .u8,.sl 5]
theorem n_kinds :kf PR 24=kN:=by kernel_rfl
theorem n_lay :aY0 PR 24=true:=by kernel_rfl
theorem n_good :(kf PR 24).all (ax3 PR 3)=true:=by kernel_rfl
theorem b_kinds :kf PR 5=[.int .u8]:=by kernel_rfl
variable {d:Dat}
theorem dw_u8 {P:Program}(h:DW P (.int .u8) d):∃n:Int,u8 n/\d= .int n:=by
 cases h with
 |int k n h=>
  have h1:(0:Int)<=n:=h.1
  have h2:n<=255:=h.2
  exact⟨n,⟨h1,by omega⟩,rfl⟩
theorem bytes_of (h:DW PR (.sl 5) d):∃L:Sx.Rows,bytes L/\d= .lst L:=by
 cases h with
 |sl _ rows hl hz hh=>
  obtain⟨L,h1,h2⟩:=aS8 (fun n:Int=>[Dat.int n]) u8 (rows:=rows) fun r hr=>by
   have h3:=hz r hr
   rw[b_kinds]at h3
   obtain⟨i,hi⟩:=bK6.1 hr
   match r,h3,hi with
   | [a],_,hi=>
    have c:=hh i 0 _ (.int .u8) a hi rfl (by rw[b_kinds];rfl)
    obtain⟨x,hx,rfl⟩:=dw_u8 c
    exact⟨x,hx,rfl⟩
  exact⟨rows,⟨L,h2,h1⟩,rfl⟩
variable {w:World}{v:Value}
theorem arg_u8 (h:ae9 PR w (.int .u8) v d):∃n:Int,u8 n/\VR (ag6 w) (.int .u8 n) v:=by
 obtain⟨a,h1,h2,h3⟩:=h
 obtain⟨n,hn,rfl⟩:=dw_u8 h3
 cases h2
 exact⟨n,hn,au1 h1⟩
theorem arg_bytes (h:ae9 PR w (.sl 5) v d):∃(a:Value) (L:Sx.Rows),bytes L/\VR (ag6 w) a v/\ ∀n,VD PR U0 (fun _=>none) (roF w) (.lst 5 (.dat n (.lst L)) false) a:=by
 obtain⟨a,h1,h2,h3⟩:=h
 obtain⟨L,c,rfl⟩:=bytes_of h3
 exact⟨a,L,c,au1 h1,fun n=>.lst 5 _ false a h2 (fun h=>by cases h)⟩
def nVals (t y:Int)(a:Value):List Value:=[.int .u8 t,.int .u8 y,a]
def nSvs (k:Nat)(t y:Int)(L:Sx.Rows):List SV:=[.int .u8 (.dat k (.int t)),.int .u8 (.dat (k+1) (.int y)),.lst 5 (.dat (k+2) (.lst L)) false]
variable {spare:Nat->Bool}{held:Bool}{ps:List MemPlace}{fs:Array Field}{r:Reach}{b:Nat}
theorem arg_N {H : Type} {enc : TypeId × Value → H}     {d : DataW H}   (ht : PR.underlying 24 = some (.struct fs))   ( e : Value.okWide PR w r b 24 v)
  (h:DataW.Trod enc PR w 0 spare held 24 v d ps):∃(x:Value) (t y:Int) (L:Sx.Rows),u8 t/\u8 y/\bytes L/\VR (ag6 w) x v/\ ∀k,VD PR U0 (fun _=>none) (roF w) (.agg (nSvs k t y L)) x:=by
 obtain⟨xs,rfl,hx⟩:=Go.WideShapes.okWide_struct ht e
 have key:=by9 h n_lay n_good
 rw[n_kinds]at key
 obtain⟨A,s,e0,k0⟩:=key 0 _ rfl
 obtain⟨v1,u,f,k1⟩:=key 1 _ rfl
 obtain⟨B,z,g,k2⟩:=key 2 _ rfl
 obtain⟨t,p,m⟩:=arg_u8 k0
 obtain⟨y,q,n⟩:=arg_u8 k1
 obtain⟨a,L,l,o,j⟩:=arg_bytes k2
 have hs:xs.size=3:=by
  rw[hx,(ax7 n_lay).1,n_kinds];rfl
 refine⟨.agg (nVals t y a).toArray,t,y,L,p,q,l,?_,fun k=>?_⟩
 ·refine .agg _ _ (by rw[hs];rfl) fun i x C c hy=>?_
  have c:(nVals t y a)[i]? =some x:=by simpa using c
  match i,c,hy with
  |0,c,hy=>cases c;rw[hy]at e0;cases e0;exact m
  |1,c,hy=>cases c;rw[hy]at f;cases f;exact n
  |2,c,hy=>cases c;rw[hy]at g;cases g;exact o
  |i+3,c,hy=>simp[nVals]at c
 ·have  e : VDL PR U0 (fun _ => none) (roF w) (nSvs k t y L) (nVals t y a) :=
   VDL.cons (.int .u8 (.dat k (.int t))) (VDL.cons (.int .u8 (.dat (k+1) (.int y))) (VDL.cons (j (k+2)) VDL.nil))
  exact e.agg
theorem u_kd :kd1 PR 5= .int .u8:=by kernel_rfl
theorem u_good :ax3 PR 3 (.int .u8)=true:=by kernel_rfl
variable {W:World}
theorem arg_U {H:Type}{enc:TypeId×Value->H}{d:DataW H}(ht:PR.underlying 5=some (.int .u8))(c:Value.okWide PR W r b 5 v)(h:DataW.Trod enc PR W 0 spare held 5 v d ps):∃n:Int,u8 n/\VR (ag6 W) (.int .u8 n) v:=by
 obtain⟨n0,rfl⟩:=Go.WideShapes.okWide_int ht c
 obtain⟨e,a,h1,h2,h3⟩:=bz0 h (m:=3) (by rw[u_kd];exact u_good) rfl
 rw[u_kd]at h2 h3
 obtain⟨n,hn,rfl⟩:=dw_u8 h3
 cases h2
 exact⟨n,hn,au1 h1⟩
theorem slfRel_true {d e:List Dat}(h:slfRel d e):e=[.bool true]:=by
 unfold slfRel at h
 split at h
 ·rw[h]
 ·exact h.elim
theorem slf_walk {H : Type} {enc : TypeId × Value → H}    {w:Value} {d e : DataW H} { j:List MemPlace} (hm : PR.follows .mixedOrders = true)  (ht : PR.underlying 24 = some (.struct fs)) (  a : PR.underlying 5 = some (.int .u8))   ( g : Value.okWide PR W r b 24 v) ( i : Value.okWide PR W r b 5 w)
  (h:DataW.Trod enc PR W 0 spare held 24 v d ps) (k:DataW.Trod enc PR W 0 spare held 5 w e j):Calls PR 4 #[v,w] W fun e w'=>e= .returned (.bool true)/\Below W.heap.size W w':=by
 obtain⟨x,t1,o,c,l,m,f,h2,h3⟩:=arg_N ht g h
 obtain⟨n,hn,k2⟩:=arg_U a i k
 refine bj4 hm (LV_ok hm) g_slf rfl rfl rfl (fun d e h=>slfRel_true h) rfl (fun nb ds=>rfl) (es:=[.dat 0 (.int t1),.dat 1 (.int o),.dat 2 (.lst c),.dat 3 (.int n)]) rfl ⟨l,m,f,hn⟩ (xs:=[x,.int .u8 n]) (ys:=[v,w]) ?_ (VRL.cons h2 (VRL.cons k2 (VRL.nil _)))
 exact VDL.cons (h3 0) (VDL.cons (.int .u8 (.dat 3 (.int n))) VDL.nil)
end Go.D
