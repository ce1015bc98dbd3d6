/- Chapter 08, the arguments of RisesMoves and RisesFewest, and their walks.
  Conditions: none. -/
import Derived.Test.YtmdkgpkboidhfaaA35
set_option linter.unusedVariables false
noncomputable section
namespace Go.C08
open Go Go.Xe Go.Sx Go.RowKit
open Go.Proofs
def kP : List Kd:=[.int .u8, .int .u8, .sl 5, .sl 5]
theorem p_kinds : kf Try.prog 34=kP:=by kernel_rfl
theorem p_lay : layB Try.prog 34=true:=by kernel_rfl
theorem p_good : (kf Try.prog 34).all (goodK Try.prog 3)=true:=by kernel_rfl
theorem b_kinds : kf Try.prog 5=[.int .u8]:=by kernel_rfl
theorem s_kinds : kf Try.prog 50=[.int .i64, .int .i64]:=by kernel_rfl
theorem s_kd : kd1 Try.prog 38 = .sl 50:=by kernel_rfl
theorem s_good : goodK Try.prog 3 (.sl 50)=true:=by kernel_rfl
theorem dw_u8 {P : Program} {d : Dat} (h : DW P (.int .u8) d) : ∃ n : Int,(0≤n∧n < 256)∧d = .int n:=by
 cases h with
 | int k n h =>
  have h1 : (0 : Int)≤n:=h.1
  have h2 : n≤255:=h.2
  exact ⟨n,⟨h1,by omega⟩,rfl⟩
theorem bytes_of {d : Dat} (h : DW Try.prog (.sl 5) d) : ∃ L : List Int,(∀ n ∈ L,0≤n∧n < 256)∧d = .lst (L.map row):=by
 cases h with
 | sl _ rows hl hz hh =>
  obtain ⟨L,h1,h2⟩:=rows_of row (fun n : Int=>0≤n∧n < 256) (rows:=rows) fun r hr=>by
   have h3:=hz r hr
   rw [b_kinds] at h3
   obtain ⟨i,hi⟩:=List.mem_iff_getElem?.1 hr
   match r,h3,hi with
   | [a],_,hi =>
    have ka:=hh i 0 _ (.int .u8) a hi rfl (by rw [b_kinds]; rfl)
    obtain ⟨x,hx,rfl⟩:=dw_u8 ka
    exact ⟨x,hx,rfl⟩
  exact ⟨L,h1,by rw [h2]⟩
theorem steps_of {d : Dat} (h : DW Try.prog (.sl 50) d) : ∃ L : List Sp,d = .lst (L.map Sp.row):=by
 cases h with
 | sl _ rows hl hz hh =>
  obtain ⟨L,_,h2⟩:=rows_of Sp.row (fun _=>True) (rows:=rows) fun r hr=>by
   have h3:=hz r hr
   rw [s_kinds] at h3
   obtain ⟨i,hi⟩:=List.mem_iff_getElem?.1 hr
   match r,h3,hi with
   | [a,b],_,hi =>
    have ka:=hh i 0 _ (.int .i64) a hi rfl (by rw [s_kinds]; rfl)
    have kb:=hh i 1 _ (.int .i64) b hi rfl (by rw [s_kinds]; rfl)
    obtain ⟨x,_,rfl⟩:=dw_int ka
    obtain ⟨y,_,rfl⟩:=dw_int kb
    exact ⟨⟨x,y⟩,trivial,rfl⟩
  exact ⟨L,by rw [h2]⟩
theorem arg_u8 {w : World} {v : Value} {d : Dat} (h : ArgOK Try.prog w (.int .u8) v d) : ∃ n : Int,(0≤n∧n < 256)∧VR (roSg w) (.int .u8 n) v:=by
 obtain ⟨a,h1,h2,h3⟩:=h
 obtain ⟨n,hn,rfl⟩:=dw_u8 h3
 cases h2
 exact ⟨n,hn,absV_VR h1⟩
theorem arg_bytes {w : World} {v : Value} {d : Dat} (h : ArgOK Try.prog w (.sl 5) v d) : ∃ (a : Value) (L : List Int),(∀ n ∈ L,0≤n∧n < 256)∧VR (roSg w) a v ∧ ∀ n,VD Try.prog U0 (fun _=>none) (roF w) (.lst 5 (.dat n (.lst (L.map row))) false) a:=by
 obtain ⟨a,h1,h2,h3⟩:=h
 obtain ⟨L,hL,rfl⟩:=bytes_of h3
 exact ⟨a,L,hL,absV_VR h1,fun n => .lst 5 _ false a h2 (fun h=>by cases h)⟩
theorem arg_steps {H : Type} {enc : TypeId × Value → H} {W : World} {spare : Nat → Bool} {held : Bool} {v : Value} {d : DataW H} {ps : List MemPlace} {r : Reach} {b : Nat} (ht : Try.prog.underlying 38 = some (.slice 50)) (hv : Value.okWide Try.prog W r b 38 v) (h : DataW.Trod enc Try.prog W 0 spare held 38 v d ps) :
  ∃ (a : Value) (L : List Sp),VR (roSg W) a v ∧ ∀ n,VD Try.prog U0 (fun _=>none) (roF W) (.lst 50 (.dat n (.lst (L.map Sp.row))) false) a:=by
 obtain ⟨a0,len,cap,rfl⟩:=Go.WideShapes.okWide_slice ht hv
 obtain ⟨d',a,h1,h2,h3⟩:=arg_one h (m:=3) (by rw [s_kd]; exact s_good) rfl
 rw [s_kd] at h2 h3
 obtain ⟨L,rfl⟩:=steps_of h3
 exact ⟨a,L,absV_VR h1,fun n => .lst 50 _ false a h2 (fun h=>by cases h)⟩
def pVals (n f : Int) (a b : Value) : List Value:=[.int .u8 n, .int .u8 f,a,b]
def pSvs (n f : Int) (A B : List Int) : List SV:=[.int .u8 (.dat 0 (.int n)), .int .u8 (.dat 1 (.int f)), .lst 5 (.dat 2 (.lst (A.map row))) false, .lst 5 (.dat 3 (.lst (B.map row))) false]
theorem arg_P {H : Type} {enc : TypeId × Value → H} {w : World} {spare : Nat → Bool} {held : Bool} {v : Value} {d : DataW H} {ps : List MemPlace} {fs : Array Field} (ht : Try.prog.underlying 34 = some (.struct fs)) {r : Reach} {b : Nat} (hv : Value.okWide Try.prog w r b 34 v)
  (h : DataW.Trod enc Try.prog w 0 spare held 34 v d ps) : ∃ (x : Value) (n f : Int) (A B : List Int),pofPre [.int n, .int f, .lst (A.map row), .lst (B.map row)]∧VR (roSg w) x v∧VD Try.prog U0 (fun _=>none) (roF w) (.agg (pSvs n f A B)) x:=by
 obtain ⟨xs,rfl,hx⟩:=Go.WideShapes.okWide_struct ht hv
 have key:=arg_agg h p_lay p_good
 rw [p_kinds] at key
 obtain ⟨v0,d0,e0,k0⟩:=key 0 _ rfl
 obtain ⟨v1,d1,e1,k1⟩:=key 1 _ rfl
 obtain ⟨v2,d2,e2,k2⟩:=key 2 _ rfl
 obtain ⟨v3,d3,e3,k3⟩:=key 3 _ rfl
 obtain ⟨n,u0,r0⟩:=arg_u8 k0
 obtain ⟨f,u1,r1⟩:=arg_u8 k1
 obtain ⟨a,A,hA,r2,g2⟩:=arg_bytes k2
 obtain ⟨c,B,hB,r3,g3⟩:=arg_bytes k3
 have hs : xs.size=4:=by
  rw [hx,(layB_get p_lay).1,p_kinds]; rfl
 refine ⟨.agg (pVals n f a c).toArray,n,f,A,B,⟨u0,u1,⟨A,rfl,hA⟩,B,rfl,hB⟩, ?_, ?_⟩
 ·refine .agg _ _ (by rw [hs]; rfl) fun i x y hx' hy => ?_
  have hx' : (pVals n f a c)[i]? = some x:=by simpa using hx'
  match i,hx',hy with
  | 0,hx',hy=>cases hx'; rw [hy] at e0; cases e0; exact r0
  | 1,hx',hy=>cases hx'; rw [hy] at e1; cases e1; exact r1
  | 2,hx',hy=>cases hx'; rw [hy] at e2; cases e2; exact r2
  | 3,hx',hy=>cases hx'; rw [hy] at e3; cases e3; exact r3
  | i+4,hx',hy=>simp [pVals] at hx'
 ·have hv : VDL Try.prog U0 (fun _ => none) (roF w) (pSvs n f A B) (pVals n f a c) :=
   VDL.cons (.int .u8 (.dat 0 (.int n))) (VDL.cons (.int .u8 (.dat 1 (.int f))) (VDL.cons (g2 2) (VDL.cons (g3 3) VDL.nil)))
  exact hv.agg
theorem rmv_walk {H : Type} {enc : TypeId × Value → H} {W : World} {spare : Nat → Bool} {held : Bool} {v : Value} {d : DataW H} {ps : List MemPlace} (hm : Try.prog.follows .mixedOrders = true) {fs : Array Field} (ht : Try.prog.underlying 34 = some (.struct fs)) {r : Reach} {b : Nat} (hv : Value.okWide Try.prog W r b 34 v)
  (h : DataW.Trod enc Try.prog W 0 spare held 34 v d ps) : Calls Try.prog 5 #[v] W fun e w' => e = .returned (.bool true)∧Below W.heap.size W w' := by
 obtain ⟨x,n,f,A,B,hp,h2,h3⟩:=arg_P ht hv h
 refine law_calls hm (LV_ok hm) g_rmv rfl rfl rfl (fun d e h=>h) rfl (fun nb ds=>rfl) (es:=[.dat 0 (.int n), .dat 1 (.int f), .dat 2 (.lst (A.map row)), .dat 3 (.lst (B.map row))]) rfl hp (xs:=[x]) (ys:=[v]) ?_ (VRL.cons h2 (VRL.nil _))
 exact VDL.cons h3 VDL.nil
theorem rfe_walk {H : Type} {enc : TypeId × Value → H} {W : World} {spare : Nat → Bool} {held : Bool} {v w : Value} {d e : DataW H} {ps qs : List MemPlace} (hm : Try.prog.follows .mixedOrders = true) {fs : Array Field} (ht : Try.prog.underlying 34 = some (.struct fs)) (ht' : Try.prog.underlying 38 = some (.slice 50)) {r : Reach} {b : Nat} (hv : Value.okWide Try.prog W r b 34 v) (hw : Value.okWide Try.prog W r b 38 w)
  (h : DataW.Trod enc Try.prog W 0 spare held 34 v d ps) (k : DataW.Trod enc Try.prog W 0 spare held 38 w e qs) : Calls Try.prog 6 #[v,w] W fun e w' => e = .returned (.bool true)∧Below W.heap.size W w' := by
 obtain ⟨x,n,f,A,B,hp,h2,h3⟩:=arg_P ht hv h
 obtain ⟨y,S,k2,k3⟩:=arg_steps ht' hw k
 refine law_calls hm (LV_ok hm) g_rfe rfl rfl rfl (fun d e h=>h) rfl (fun nb ds=>rfl) (es:=[.dat 0 (.int n), .dat 1 (.int f), .dat 2 (.lst (A.map row)), .dat 3 (.lst (B.map row)), .dat 4 (.lst (S.map Sp.row))]) rfl ⟨hp,S,rfl⟩ (xs:=[x,y]) (ys:=[v,w]) ?_ (VRL.cons h2 (VRL.cons k2 (VRL.nil _)))
 exact VDL.cons h3 (VDL.cons (k3 4) VDL.nil)
end Go.C08
