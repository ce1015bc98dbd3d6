/- Chapter 19: arguments that are trees; the walk of DiffsErrors.
  Conditions: none. -/
import Derived.Test.YtcjhhnoaoldcmaaGreatJ4
set_option linter.unusedVariables false
set_option maxRecDepth 100000
noncomputable section
namespace Go.D
open Go Go.Xe Go.Sx Go.RowKit
open Go.C36 (row)
open Go.Proofs
def kT :List Kd:=[.int .u8,.str,.str,.sl 88,.str,.sl 28]
theorem tr_kinds :kf PR 28=kT:=by kernel_rfl
theorem at_kinds :kf PR 88=[.str,.str]:=by kernel_rfl
theorem in_kinds :kf PR 3=[.int .i64]:=by kernel_rfl
theorem in_kd :kd1 PR 45= .sl 3:=by kernel_rfl
theorem in_good :aS4 PR 3 (.sl 3)=true:=by kernel_rfl
theorem tr_lay :ba6 PR 28=true:=by kernel_rfl
theorem tr_good :aQ8 PR fun kd=>inL [88,28] kd=true:=bC0 (by kernel_rfl)
theorem dw_str {P:Program}{d:Dat}(h:DW P .str d):∃s,d= .str s:=by
 cases h with
 |str s _=>exact⟨s,rfl⟩
theorem dw_int {P:Program}{k:IntKind}{d:Dat}(h:DW P (.int k) d):∃n,d= .int n:=by
 cases h with
 |int k n _=>exact⟨n,rfl⟩
theorem dw_ats {d:Dat}(h:DW PR (.sl 88) d):∃a:List Att,d= .lst (a.map Att.row):=by
 cases h with
 |sl _ rows hl hz hh=>
  obtain⟨L,_,rfl⟩:=ae0 Att.row (fun _=>True) (rows:=rows) fun r hr=>by
   have h3:=hz r hr
   rw[at_kinds]at h3 hh
   obtain⟨i,hi⟩:=bN4.1 hr
   match r,h3,hi with
   | [a,b],_,hi=>
    obtain⟨x,rfl⟩:=dw_str (hh i 0 _ .str a hi rfl rfl)
    obtain⟨y,rfl⟩:=dw_str (hh i 1 _ .str b hi rfl rfl)
    exact⟨⟨x,y⟩,trivial,rfl⟩
  exact⟨L,rfl⟩
theorem dw_trs {kd:Kd}{d:Dat}(h:DW PR kd d):kd= .sl 28-> ∃l:List Tree,d= .lst (rows l):=by
 induction h with
 |sl e rs hl hz hh ih=>
  intro e0
  cases e0
  rw[tr_kinds]at hz hh ih
  obtain⟨L,_,rfl⟩:=ae0 Tree.row (fun _=>True) (rows:=rs) fun r hr=>by
   have h3:=hz r hr
   obtain⟨i,hi⟩:=bN4.1 hr
   match r,h3,hi with
   | [a,b,c,d,e,f],_,hi=>
    obtain⟨k,rfl⟩:=dw_int (hh i 0 _ (.int .u8) a hi rfl rfl)
    obtain⟨t,rfl⟩:=dw_str (hh i 1 _ .str b hi rfl rfl)
    obtain⟨y,rfl⟩:=dw_str (hh i 2 _ .str c hi rfl rfl)
    obtain⟨a,rfl⟩:=dw_ats (hh i 3 _ _ d hi rfl rfl)
    obtain⟨x,rfl⟩:=dw_str (hh i 4 _ .str e hi rfl rfl)
    obtain⟨l,rfl⟩:=ih i 5 _ _ f hi rfl rfl rfl
    exact⟨.mk k t y a x l,trivial,(row_def (.mk k t y a x l)).symm⟩
  exact⟨L,rfl⟩
 |_=>intro h;cases h
def tVals (k:Int)(t y:Str)(a:Value)(x:Str)(c:Value):List Value:=[.int .u8 k,.string ⟨t.toArray⟩,.string ⟨y.toArray⟩,a,.string ⟨x.toArray⟩,c]
def tSvs (n:Nat)(s:Tree):List SV:=[.int .u8 (.dat n (.int s.k)),.str (.dat (n+1) (.str s.t)),.str (.dat (n+2) (.str s.y)),.lst 88 (.dat (n+3) (.lst (s.a.map Att.row))) false,.str (.dat (n+4) (.str s.x)),.lst 28 (.dat (n+5) (.lst (rows s.c))) false]
theorem arg_T {H : Type} {enc : TypeId × Value → H} {w : World} {spare : Nat → Bool} {held : Bool} {v : Value} {d : DataW H} {ps : List MemPlace} {fs : Array Field} (ht : PR.underlying 28 = some (.struct fs)) {r : Reach} {b : Nat} (hv : Value.okWide PR w r b 28 v)
  (h:DataW.Trod enc PR w 0 spare held 28 v d ps):∃(x:Value) (s:Tree),VR (ar2 w) x v/\ ∀n,VD PR U0 (fun _=>none) (roF w) (.agg (tSvs n s)) x:=by
 obtain⟨xs,rfl,hx⟩:=Go.WideShapes.okWide_struct ht hv
 have key:=bs1 tr_good h tr_lay (by rw[tr_kinds];decide)
 rw[tr_kinds]at key
 obtain⟨v0,d0,e0,b0,r0,p0,q0⟩:=key 0 _ rfl
 obtain⟨v1,d1,e1,b1,r1,p1,q1⟩:=key 1 _ rfl
 obtain⟨v2,d2,e2,b2,r2,p2,q2⟩:=key 2 _ rfl
 obtain⟨v3,d3,e3,b3,r3,p3,q3⟩:=key 3 _ rfl
 obtain⟨v4,d4,e4,b4,r4,p4,q4⟩:=key 4 _ rfl
 obtain⟨v5,d5,e5,b5,r5,p5,q5⟩:=key 5 _ rfl
 obtain⟨k,rfl⟩:=dw_int q0
 obtain⟨t,rfl⟩:=dw_str q1
 obtain⟨y,rfl⟩:=dw_str q2
 obtain⟨a,rfl⟩:=dw_ats q3
 obtain⟨z,rfl⟩:=dw_str q4
 obtain⟨c,rfl⟩:=dw_trs q5 rfl
 cases p0;cases p1;cases p2;cases p4
 have hs:xs.size=6:=by
  rw[hx,(aA7 tr_lay).1,tr_kinds];rfl
 refine⟨.agg (tVals k t y b3 z b5).toArray,.mk k t y a z c,?_,fun n=>?_⟩
 ·refine .agg _ _ (by rw[hs];rfl) fun i x y' hx' hy=>?_
  have hx':(tVals k t y b3 z b5)[i]? =some x:=by simpa using hx'
  match i,hx',hy with
  |0,hx',hy=>cases hx';rw[hy]at e0;cases e0;exact T4 r0
  |1,hx',hy=>cases hx';rw[hy]at e1;cases e1;exact T4 r1
  |2,hx',hy=>cases hx';rw[hy]at e2;cases e2;exact T4 r2
  |3,hx',hy=>cases hx';rw[hy]at e3;cases e3;exact T4 r3
  |4,hx',hy=>cases hx';rw[hy]at e4;cases e4;exact T4 r4
  |5,hx',hy=>cases hx';rw[hy]at e5;cases e5;exact T4 r5
  |i+6,hx',hy=>simp[tVals]at hx'
 ·have hv : VDL PR U0 (fun _ => none) (roF w) (tSvs n (.mk k t y a z c)) (tVals k t y b3 z b5) :=
   VDL.cons (.int .u8 (.dat n (.int k))) (VDL.cons (.str (.dat (n+1) (.str t))) (VDL.cons (.str (.dat (n+2) (.str y))) (VDL.cons (.lst _ (.dat (n+3) (.lst (a.map Att.row))) false b3 p3 (fun h=>by cases h)) (VDL.cons (.str (.dat (n+4) (.str z))) (VDL.cons (.lst _ (.dat (n+5) (.lst (rows c))) false b5 p5 (fun h=>by cases h)) VDL.nil)))))
  exact hv.agg
theorem dw_nums {d:Dat}(h:DW PR (.sl 3) d):∃m:List Int,d= .lst (m.map row):=by
 cases h with
 |sl _ rs hl hz hh=>
  rw[in_kinds]at hz hh
  obtain⟨L,_,rfl⟩:=ae0 row (fun _=>True) (rows:=rs) fun r hr=>by
   have h3:=hz r hr
   obtain⟨i,hi⟩:=bN4.1 hr
   match r,h3,hi with
   | [a],_,hi=>
    obtain⟨x,rfl⟩:=dw_int (hh i 0 _ (.int .i64) a hi rfl rfl)
    exact⟨x,trivial,rfl⟩
  exact⟨L,rfl⟩
theorem arg_I {H : Type} {enc : TypeId × Value → H} {W : World} {spare : Nat → Bool} {held : Bool} {v : Value} {d : DataW H} {ps : List MemPlace} {r : Reach} {b : Nat} (ht : PR.underlying 45 = some (.slice 3)) (hv : Value.okWide PR W r b 45 v) (h : DataW.Trod enc PR W 0 spare held 45 v d ps) :
  ∃(a:Value) (m:List Int),VR (ar2 W) a v/\ ∀n,VD PR U0 (fun _=>none) (roF W) (.lst 3 (.dat n (.lst (m.map row))) false) a:=by
 obtain⟨a0,len,cap,rfl⟩:=Go.WideShapes.okWide_slice ht hv
 obtain⟨d',a,h1,h2,h3⟩:=bB6 h (m:=3) (by rw[in_kd];exact in_good) rfl
 rw[in_kd]at h2 h3
 obtain⟨L,rfl⟩:=dw_nums h3
 exact⟨a,L,T4 h1,fun n=>.lst _ _ false a h2 (fun h=>by cases h)⟩
theorem errRel_true {d e:List Dat}(h:errRel d e):e=[.bool true]:=by
 unfold errRel at h
 split at h
 ·rw[h]
 ·exact h.elim
theorem err_walk {H : Type} {enc : TypeId × Value → H} {W : World} {spare : Nat → Bool} {held : Bool} {v w : Value} {d e : DataW H} {ps qs : List MemPlace} (hm : PR.follows .mixedOrders = true) {fs : Array Field} (ht : PR.underlying 28 = some (.struct fs)) (ht' : PR.underlying 45 = some (.slice 3)) {r : Reach} {b : Nat} (hv : Value.okWide PR W r b 28 v) (hw : Value.okWide PR W r b 45 w)
  (h:DataW.Trod enc PR W 0 spare held 28 v d ps) (k:DataW.Trod enc PR W 0 spare held 45 w e qs):Calls PR 6 #[v,w] W fun e w'=>e= .returned (.bool true)/\Below W.heap.size W w':=by
 obtain⟨x,s,h2,h3⟩:=arg_T ht hv h
 obtain⟨y,m,k2,k3⟩:=arg_I ht' hw k
 refine bl8 hm (LV_ok hm) g_err rfl rfl rfl (fun d e h=>errRel_true h) rfl (fun nb ds=>rfl) (es:=[.dat 0 (.int s.k),.dat 1 (.str s.t),.dat 2 (.str s.y),.dat 3 (.lst (s.a.map Att.row)),.dat 4 (.str s.x),.dat 5 (.lst (rows s.c)),.dat 6 (.lst (m.map row))]) rfl ⟨⟨s,rfl,rfl,rfl,rfl,rfl,rfl⟩,m,rfl⟩ (xs:=[x,y]) (ys:=[v,w]) ?_ (VRL.cons h2 (VRL.cons k2 (VRL.nil _)))
 exact VDL.cons (h3 0) (VDL.cons (k3 6) VDL.nil)
end Go.D
