/- Chapter 19: the contracts of DiffsMatch stand.
  Conditions: none. -/
import Derived.Test.YtcjhhnoaoldcmaaF1
import Derived.Test.YtcjhhnoaoldcmaaE3
set_option linter.unusedVariables false
set_option maxRecDepth 100000
noncomputable section
namespace Go.D
open Go Go.Xe Go.Sx Go.RowKit
open Go.C36 (row A2 lis cLong cRlong longPre longRel rlongPre rlongRel)
open Go.Proofs
theorem stC0 :T7 PR U0 LV (stageC 0):=⟨g_long,g_rlong,g_lives,trivial⟩
theorem g_mat :p9 PR U0 LV cMat 25:=n8 annsC stC0 noX 400 vcMat_eq vcMat_ok (M3 rfl)
theorem g_bef :p9 PR U0 LV cBef 30:=n8 annsC stC0 noX 400 vcBef_eq vcBef_ok (M3 rfl)
theorem stC1 :T7 PR U0 LV (stageC 1):=⟨g_bef,g_lives,trivial⟩
theorem g_rmat :p9 PR U0 LV cRmat 9:=n8 annsC stC1 noX 400 vcRmat_eq vcRmat_ok (M3 rfl)
theorem g_stay :p9 PR U0 LV cStay 10:=n8 annsC stC0 noX 400 vcStay_eq vcStay_ok (M3 rfl)
theorem g_rstay :p9 PR U0 LV cRstay 11:=n8 annsC stC0 noX 400 vcRstay_eq vcRstay_ok (M3 rfl)
theorem stC2 :T7 PR U0 LV (stageC 2):=⟨g_mat,g_chk,g_lives,trivial⟩
theorem g_dmt :p9 PR U0 LV cDmt 7:=n8 annsC stC2 noX 400 vcDmt_eq vcDmt_ok (M3 rfl)
theorem g_cmp :p9 PR U0 LV cCmp 99:=n8 annsD st_l allX 400 vcCmp_eq vcCmp_ok (M3 rfl)
theorem stD1 :T7 PR U0 LV (stageD 1):=⟨g_chk,g_cmp,g_lives,trivial⟩
theorem g_adf :p9 PR U0 LV cAdf 69:=n8 annsD stD1 allX 400 vcAdf_eq vcAdf_ok (M3 rfl)
theorem g_put :p9 PR U0 LV cPut 46:=n8 annsD st_l allX 400 vcPut_eq vcPut_ok (M3 rfl)
theorem stD2 :T7 PR U0 LV (stageD 2):=⟨g_adf,g_put,g_lives,trivial⟩
theorem g_own :p9 PR U0 LV cOwn 44:=n8 annsD stD2 allX 400 vcOwn_eq vcOwn_ok (M3 rfl)
theorem stD3 :T7 PR U0 LV (stageD 3):=⟨g_put,g_own,g_mat,g_stay,g_chk,g_cpd,g_lives,trivial⟩
theorem g_node :p9 PR U0 LV cNode 27:=Y8 annsD stD3 allX 400 nodeMu vcNode_eq vcNode_ok (fun n=>M3 rfl)
theorem stD4 :T7 PR U0 LV (stageD 4):=⟨g_chk,g_cpd,g_node,g_lives,trivial⟩
theorem g_ddf :p9 PR U0 LV cDdf 8:=n8 annsD stD4 allX 400 vcDdf_eq vcDdf_ok (M3 rfl)
theorem stE0 :T7 PR U0 LV (stageE 0):=⟨g_tree,g_dmt,g_ddf,g_rmat,g_stay,g_rstay,g_lives,trivial⟩
theorem g_dm :p9 PR U0 LV cDm 3:=n8 annsE stE0 noX 400 vcDm_eq vcDm_ok (M3 rfl)
def kN :List Kd:=[.int .u8,.int .u8,.sl 5]
theorem n_kinds :kf PR 24=kN:=by kernel_rfl
theorem n_lay :bs1 PR 24=true:=by kernel_rfl
theorem n_good :(kf PR 24).all (aQ9 PR 3)=true:=by kernel_rfl
theorem b_kinds :kf PR 5=[.int .u8]:=by kernel_rfl
theorem dw_u8 {P:Program}{d:Dat}(h:DW P (.int .u8) d):∃n:Int,u8 n/\d= .int n:=by
 cases h with
 |int k n h=>
  have h1:(0:Int)<=n:=h.1
  have h2:n<=255:=h.2
  exact⟨n,⟨h1,by omega⟩,rfl⟩
theorem bytes_of {d:Dat}(h:DW PR (.sl 5) d):∃L:Sx.Rows,bytes L/\d= .lst L:=by
 cases h with
 |sl _ rows hl hz hh=>
  obtain⟨L,h1,h2⟩:=aU0 (fun n:Int=>[Dat.int n]) u8 (rows:=rows) fun r hr=>by
   have h3:=hz r hr
   rw[b_kinds]at h3
   obtain⟨i,hi⟩:=bK9.1 hr
   match r,h3,hi with
   | [a],_,hi=>
    have ka:=hh i 0 _ (.int .u8) a hi rfl (by rw[b_kinds];rfl)
    obtain⟨x,hx,rfl⟩:=dw_u8 ka
    exact⟨x,hx,rfl⟩
  exact⟨rows,⟨L,h2,h1⟩,rfl⟩
theorem arg_u8 {w:World}{v:Value}{d:Dat}(h:aq8 PR w (.int .u8) v d):∃n:Int,u8 n/\VR (aE1 w) (.int .u8 n) v:=by
 obtain⟨a,h1,h2,h3⟩:=h
 obtain⟨n,hn,rfl⟩:=dw_u8 h3
 cases h2
 exact⟨n,hn,aJ7 h1⟩
theorem arg_bytes {w:World}{v:Value}{d:Dat}(h:aq8 PR w (.sl 5) v d):∃(a:Value) (L:Sx.Rows),bytes L/\VR (aE1 w) a v/\ ∀n,VD PR U0 (fun _=>none) (roF w) (.lst 5 (.dat n (.lst L)) false) a:=by
 obtain⟨a,h1,h2,h3⟩:=h
 obtain⟨L,hL,rfl⟩:=bytes_of h3
 exact⟨a,L,hL,aJ7 h1,fun n=>.lst 5 _ false a h2 (fun h=>by cases h)⟩
def nVals (t y:Int)(a:Value):List Value:=[.int .u8 t,.int .u8 y,a]
def nSvs (k:Nat)(t y:Int)(L:Sx.Rows):List SV:=[.int .u8 (.dat k (.int t)),.int .u8 (.dat (k+1) (.int y)),.lst 5 (.dat (k+2) (.lst L)) false]
theorem arg_N {H : Type} {enc : TypeId × Value → H} {w : World} {spare : Nat → Bool} {held : Bool} {v : Value} {d : DataW H} {ps : List MemPlace} {fs : Array Field} (ht : PR.underlying 24 = some (.struct fs)) {r : Reach} {b : Nat} (hv : Value.okWide PR w r b 24 v)
  (h:DataW.Trod enc PR w 0 spare held 24 v d ps):∃(x:Value) (t y:Int) (L:Sx.Rows),u8 t/\u8 y/\bytes L/\VR (aE1 w) x v/\ ∀k,VD PR U0 (fun _=>none) (roF w) (.agg (nSvs k t y L)) x:=by
 obtain⟨xs,rfl,hx⟩:=Go.WideShapes.okWide_struct ht hv
 have key:=bz0 h n_lay n_good
 rw[n_kinds]at key
 obtain⟨v0,d0,e0,k0⟩:=key 0 _ rfl
 obtain⟨v1,d1,e1,k1⟩:=key 1 _ rfl
 obtain⟨v2,d2,e2,k2⟩:=key 2 _ rfl
 obtain⟨t,u0,r0⟩:=arg_u8 k0
 obtain⟨y,u1,r1⟩:=arg_u8 k1
 obtain⟨a,L,hL,r2,g2⟩:=arg_bytes k2
 have hs:xs.size=3:=by
  rw[hx,(ax9 n_lay).1,n_kinds];rfl
 refine⟨.agg (nVals t y a).toArray,t,y,L,u0,u1,hL,?_,fun k=>?_⟩
 ·refine .agg _ _ (by rw[hs];rfl) fun i x y' hx' hy=>?_
  have hx':(nVals t y a)[i]? =some x:=by simpa using hx'
  match i,hx',hy with
  |0,hx',hy=>cases hx';rw[hy]at e0;cases e0;exact r0
  |1,hx',hy=>cases hx';rw[hy]at e1;cases e1;exact r1
  |2,hx',hy=>cases hx';rw[hy]at e2;cases e2;exact r2
  |i+3,hx',hy=>simp[nVals]at hx'
 ·have hv : VDL PR U0 (fun _ => none) (roF w) (nSvs k t y L) (nVals t y a) :=
   VDL.cons (.int .u8 (.dat k (.int t))) (VDL.cons (.int .u8 (.dat (k+1) (.int y))) (VDL.cons (g2 (k+2)) VDL.nil))
  exact hv.agg
theorem dmRel_true {d e:List Dat}(h:dmRel d e):e=[.bool true]:=by
 unfold dmRel at h
 split at h
 ·rw[h]
 ·exact h.elim
theorem dm_walk {H : Type} {enc : TypeId × Value → H} {W : World} {spare : Nat → Bool} {held : Bool} {v w : Value} {d e : DataW H} {ps qs : List MemPlace} (hm : PR.follows .mixedOrders = true) {fs : Array Field} (ht : PR.underlying 24 = some (.struct fs)) {r : Reach} {b : Nat} (hv : Value.okWide PR W r b 24 v) (hw : Value.okWide PR W r b 24 w)
  (h:DataW.Trod enc PR W 0 spare held 24 v d ps) (k:DataW.Trod enc PR W 0 spare held 24 w e qs):Calls PR 3 #[v,w] W fun e w'=>e= .returned (.bool true)/\Below W.heap.size W w':=by
 obtain⟨x,t1,y1,L1,u1,w1,b1,h2,h3⟩:=arg_N ht hv h
 obtain⟨y,t2,y2,L2,u2,w2,b2,k2,k3⟩:=arg_N ht hw k
 refine bk1 hm (LV_ok hm) g_dm rfl rfl rfl (fun d e h=>dmRel_true h) rfl (fun nb ds=>rfl) (es:=[.dat 0 (.int t1),.dat 1 (.int y1),.dat 2 (.lst L1),.dat 3 (.int t2),.dat 4 (.int y2),.dat 5 (.lst L2)]) rfl ⟨u1,w1,b1,u2,w2,b2⟩ (xs:=[x,y]) (ys:=[v,w]) ?_ (VRL.cons h2 (VRL.cons k2 (VRL.nil _)))
 exact VDL.cons (h3 0) (VDL.cons (k3 3) VDL.nil)
end Go.D
