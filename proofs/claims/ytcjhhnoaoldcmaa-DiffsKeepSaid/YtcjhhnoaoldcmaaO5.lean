/- DiffsKeep: the contracts stand.
  Conditions: none. -/
import Derived.Test.YtcjhhnoaoldcmaaF1
import Derived.Test.YtcjhhnoaoldcmaaC3
import Derived.Test.YtcjhhnoaoldcmaaN5
import Derived.Test.YtcjhhnoaoldcmaaN9
import Derived.Test.YtcjhhnoaoldcmaaO4
set_option linter.unusedVariables false
set_option maxRecDepth 100000
noncomputable section
namespace Go.D
open Go Go.Xe Go.Sx Go.RowKit
open Go.C36 (row j8 lis)
open Go.Proofs
theorem vcBef_eq2 :(cvc Go.Proofs.Try.prog U0 cBef (sxF Go.Proofs.Try.prog U0 annsC (B0 Go.Proofs.Try.prog U0 (stageO 0) (primsO Go.Proofs.Try.prog)) 400 30)).vc U0 (fun _=>True)=vcBef:=by kernel_rfl
theorem g_bef :d6 PR U0 LV cBef 30:=j0 annsC st_l noX 400 vcBef_eq2 vcBef_ok (H2 rfl)
theorem stC1 :P2 PR U0 LV (stageC 1):=⟨g_bef,g_lives,trivial⟩
theorem g_rmat :d6 PR U0 LV cRmat 9:=j0 annsC stC1 noX 400 vcRmat_eq vcRmat_ok (H2 rfl)
theorem g_mat2 :d6 PR U0 LV cMat2 25:=j0 annsN st_l noX 400 vcMat2_eq vcMat2_ok (H2 rfl)
theorem g_rname :d6 PR U0 LV cRname 106:=j0 annsN st_l noX 400 vcRname_eq vcRname_ok (H2 rfl)
theorem g_rstr :d6 PR U0 LV cRstr 105:=j0 annsN st_l noX 400 vcRstr_eq vcRstr_ok (H2 rfl)
theorem stN1 :P2 PR U0 LV (stageN 1):=⟨g_rname,g_rstr,g_lives,trivial⟩
theorem g_one :d6 PR U0 LV cOne 95:=j0 annsN stN1 noX 400 vcOne_eq vcOne_ok (H2 rfl)
theorem stN2 :P2 PR U0 LV (stageN 2):=⟨g_one,g_lives,trivial⟩
theorem g_rcnt :d6 PR U0 LV cRcnt 76:=J9 annsN stN2 noX 400 rcntMu vcRcnt_eq vcRcnt_ok (fun n=>H2 rfl)
theorem stN3 :P2 PR U0 LV (stageN 3):=⟨g_rcnt,g_lives,trivial⟩
theorem g_rchk :d6 PR U0 LV cRchk 35:=j0 annsN stN3 noX 400 vcRchk_eq vcRchk_ok (H2 rfl)
theorem g_equ :d6 PR U0 LV cEqu 36:=J9 annsH st_l noX 400 equMu vcEqu_eq vcEqu_ok (fun n=>H2 rfl)
theorem stH1 :P2 PR U0 LV (stageH 1):=⟨g_rchk,g_equ,g_lives,trivial⟩
theorem g_sam :d6 PR U0 LV cSam 15:=j0 annsH stH1 noX 400 vcSam_eq vcSam_ok (H2 rfl)
theorem stM0 :P2 PR U0 LV (stageM 0):=⟨g_chk,g_cpd,g_lives,trivial⟩
theorem g_cpy :d6 PR U0 LV cCpy 26:=j0 annsM stM0 noX 400 vcCpy_eq vcCpy_ok (H2 rfl)
theorem g_dck :d6 PR U0 LV cDck 24:=j0 annsM stM0 noX 400 vcDck_eq vcDck_ok (H2 rfl)
theorem g_ft :d6 PR U0 LV cFt 12:=j0 annsM st_l noX 400 vcFt_eq vcFt_ok (H2 rfl)
theorem stM1 :P2 PR U0 LV (stageM 1):=⟨g_cpy,g_lives,trivial⟩
theorem g_kr (tm:T Value):M4 PR U0 cKr (PmT tpKr tm) (PcX PR LV ntKr (pcKr (f5 PR kF)) otKr 6 tm):=aF6 annsM stM1 noX 400 vcKr_eq vcKr_ok (H2 rfl) 6 (fun es fv=>⟨0,6,_,_,_,_,rfl,rfl,rfl⟩) tm
theorem g_ca (tm:T Value):M4 PR U0 cCa (PmT tpCa tm) (PcX PR LV ntCa (pcCa (f5 PR pF)) otCa 6 tm):=aF6 annsM st_l noX 400 vcCa_eq vcCa_ok (H2 rfl) 6 (fun es fv=>⟨0,6,_,_,_,_,rfl,rfl,rfl⟩) tm
theorem keep_at (t o:Tree)(h:Valid t)(h':Valid o):KeepAt LV t o:=keep_ok rfl g_kr g_mat2 _ t o (bC4 _) h.1 h'
theorem copy_at (t:Tree)(h:Valid t):CyAt LV t:=copy_ok rfl g_chk h (copied_ok rfl g_ca _ t (bC4 _) h.1)
theorem g_kee :d6 PR U0 LV cKee 14:=g_keeO rfl g_dck g_chk g_cpy g_ft copy_at keep_at
theorem g_plc :d6 PR U0 LV cPlc 56:=j0 annsO st_l noX 400 vcPlc_eq vcPlc_ok (H2 rfl)
theorem stO1 :P2 PR U0 LV (stageO 1):=⟨g_rmat,g_plc,g_lives,trivial⟩
theorem g_rkt :d6 PR U0 LV cRkt 37:=J9 annsO stO1 noX 400 rktMu vcRkt_eq vcRkt_ok (fun n=>H2 rfl)
theorem stO2 :P2 PR U0 LV (stageO 2):=⟨g_rkt,g_rchk,g_lives,trivial⟩
theorem g_rke :d6 PR U0 LV cRke 16:=j0 annsO stO2 noX 400 vcRke_eq vcRke_ok (H2 rfl)
theorem stO3 :P2 PR U0 LV (stageO 3):=⟨g_tree,g_kee,g_rke,g_sam,g_lives,trivial⟩
theorem g_dkp :d6 PR U0 LV cDkp 4:=j0 annsO stO3 noX 400 vcDkp_eq vcDkp_ok (H2 rfl)
end Go.D
noncomputable section
namespace Go.D
open Go Go.Xe Go.Sx Go.RowKit
open Go.C36 (row)
open Go.Proofs
def kN :List Kd:=[.int .u8,.int .u8,.sl 5]
theorem n_kinds :kf PR 24=kN:=by kernel_rfl
theorem n_lay :aV0 PR 24=true:=by kernel_rfl
theorem n_good :(kf PR 24).all (aN4 PR 3)=true:=by kernel_rfl
theorem b_kinds :kf PR 5=[.int .u8]:=by kernel_rfl
variable {d:Dat}
theorem dw_u8 {P:Program}(h:DW P (.int .u8) d):∃n:Int,u8 n/\d= .int n:=by
 cases h with
 |int k n h=>
  have h1:(0:Int)<=n:=h.1
  have h2:n<=255:=h.2
  exact⟨n,⟨h1,by omega⟩,rfl⟩
theorem bytes_of (h:DW PR (.sl 5) d):∃L:Sx.Rows,bytes L/\d= .lst L:=by
 cases h with
 |sl _ rows hl hz hh=>
  obtain⟨L,h1,h2⟩:=aQ4 (fun n:Int=>[Dat.int n]) u8 (rows:=rows) fun r hr=>by
   have h3:=hz r hr
   rw[b_kinds]at h3
   obtain⟨i,hi⟩:=bF5.1 hr
   match r,h3,hi with
   | [a],_,hi=>
    have b:=hh i 0 _ (.int .u8) a hi rfl (by rw[b_kinds];rfl)
    obtain⟨x,hx,rfl⟩:=dw_u8 b
    exact⟨x,hx,rfl⟩
  exact⟨rows,⟨L,h2,h1⟩,rfl⟩
variable {w:World}{v:Value}
theorem arg_u8 (h:ai0 PR w (.int .u8) v d):∃n:Int,u8 n/\VR (ak1 w) (.int .u8 n) v:=by
 obtain⟨a,h1,h2,h3⟩:=h
 obtain⟨n,hn,rfl⟩:=dw_u8 h3
 cases h2
 exact⟨n,hn,aH5 h1⟩
theorem arg_bytes (h:ai0 PR w (.sl 5) v d):∃(a:Value) (L:Sx.Rows),bytes L/\VR (ak1 w) a v/\ ∀n,VD PR U0 (fun _=>none) (roF w) (.lst 5 (.dat n (.lst L)) false) a:=by
 obtain⟨a,h1,h2,h3⟩:=h
 obtain⟨L,b,rfl⟩:=bytes_of h3
 exact⟨a,L,b,aH5 h1,fun n=>.lst 5 _ false a h2 (fun h=>by cases h)⟩
def nVals (t y:Int)(a:Value):List Value:=[.int .u8 t,.int .u8 y,a]
def nSvs (k:Nat)(t y:Int)(L:Sx.Rows):List SV:=[.int .u8 (.dat k (.int t)),.int .u8 (.dat (k+1) (.int y)),.lst 5 (.dat (k+2) (.lst L)) false]
variable {spare:Nat->Bool}{ps:List MemPlace}{fs:Array Field}{r:Reach}
theorem arg_N {H : Type} {enc : TypeId × Value → H}   {   e : Bool}  {d : DataW H}   (ht : PR.underlying 24 = some (.struct fs))  {b : Nat} ( f : Value.okWide PR w r b 24 v)
  (h:DataW.Trod enc PR w 0 spare e 24 v d ps):∃(x:Value) (t y:Int) (L:Sx.Rows),u8 t/\u8 y/\bytes L/\VR (ak1 w) x v/\ ∀k,VD PR U0 (fun _=>none) (roF w) (.agg (nSvs k t y L)) x:=by
 obtain⟨xs,rfl,hx⟩:=Go.WideShapes.okWide_struct ht f
 have key:=bt7 h n_lay n_good
 rw[n_kinds]at key
 obtain⟨B,u,e0,k0⟩:=key 0 _ rfl
 obtain⟨v1,z,g,k1⟩:=key 1 _ rfl
 obtain⟨C,A,j,k2⟩:=key 2 _ rfl
 obtain⟨t,q,n⟩:=arg_u8 k0
 obtain⟨y,s,o⟩:=arg_u8 k1
 obtain⟨a,L,m,p,l⟩:=arg_bytes k2
 have hs:xs.size=3:=by
  rw[hx,(aw6 n_lay).1,n_kinds];rfl
 refine⟨.agg (nVals t y a).toArray,t,y,L,q,s,m,?_,fun k=>?_⟩
 ·refine .agg _ _ (by rw[hs];rfl) fun i x D c hy=>?_
  have c:(nVals t y a)[i]? =some x:=by simpa using c
  match i,c,hy with
  |0,c,hy=>cases c;rw[hy]at e0;cases e0;exact n
  |1,c,hy=>cases c;rw[hy]at g;cases g;exact o
  |2,c,hy=>cases c;rw[hy]at j;cases j;exact p
  |i+3,c,hy=>simp[nVals]at c
 ·have  f : VDL PR U0 (fun _ => none) (roF w) (nSvs k t y L) (nVals t y a) :=
   VDL.cons (.int .u8 (.dat k (.int t))) (VDL.cons (.int .u8 (.dat (k+1) (.int y))) (VDL.cons (l (k+2)) VDL.nil))
  exact f.agg
theorem dkpRel_true {d e:List Dat}(h:dkpRel d e):e=[.bool true]:=by
 unfold dkpRel at h
 split at h
 ·rw[h]
 ·exact h.elim
theorem dkp_walk {H : Type} {enc : TypeId × Value → H} {W : World}  {   a : Bool} {w:Value} {d e : DataW H} { m:List MemPlace} (hm : PR.follows .mixedOrders = true)  (ht : PR.underlying 24 = some (.struct fs))  {b : Nat} ( j : Value.okWide PR W r b 24 v) ( l : Value.okWide PR W r b 24 w)
  (h:DataW.Trod enc PR W 0 spare a 24 v d ps) (k:DataW.Trod enc PR W 0 spare a 24 w e m):Calls PR 4 #[v,w] W fun e w'=>e= .returned (.bool true)/\Below W.heap.size W w':=by
 obtain⟨x,t1,s,c,n,p,g,h2,h3⟩:=arg_N ht j h
 obtain⟨y,t2,t,f,o,q,i,k2,k3⟩:=arg_N ht l k
 refine bf5 hm (LV_ok hm) g_dkp rfl rfl rfl (fun d e h=>dkpRel_true h) rfl (fun nb ds=>rfl) (es:=[.dat 0 (.int t1),.dat 1 (.int s),.dat 2 (.lst c),.dat 3 (.int t2),.dat 4 (.int t),.dat 5 (.lst f)]) rfl ⟨n,p,g,o,q,i⟩ (xs:=[x,y]) (ys:=[v,w]) ?_ (VRL.cons h2 (VRL.cons k2 (VRL.nil _)))
 exact VDL.cons (h3 0) (VDL.cons (k3 3) VDL.nil)
end Go.D
