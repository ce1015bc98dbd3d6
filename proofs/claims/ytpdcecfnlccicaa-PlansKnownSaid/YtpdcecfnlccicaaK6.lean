/- Chapter 36, PlansKnown: the condition holds.
  Conditions: none. -/
import Derived.Test.YtpdcecfnlccicaaK5
set_option linter.unusedVariables false
set_option linter.unusedSimpArgs false
namespace Go.C36
open Go Go.Xe Go.Sx
theorem part_all (L : Sx.Rows) : Sx.part L 0 (L.length : Int)=L:=by simp [Sx.part]
theorem vcKn_ok : vcKn := by
 unfold vcKn Nd
 intro _
 refine And.intro ⟨by omega,by omega,rfl,rfl⟩ fun _ k A B hk => ?_
 simp only [kaInv] at hk
 obtain ⟨k0,k1,rfl,rfl⟩:=hk
 have l1 : ((upW k.toNat).map Rw.row).length=k.toNat:=by rw [List.length_map,up_len]
 have l2 : ((dnW k.toNat).map Rw.row).length=k.toNat:=by rw [List.length_map,dn_len]
 refine And.intro (fun hk => ?_) fun hk => ?_
 ·have e:=toNat_succ k0
  have inv : kaInv [] [.int (k+1), .lst ((upW k.toNat).map Rw.row ++ chunk 2 1 [.int (k+1), .int 0]), .lst ((dnW k.toNat).map Rw.row ++ chunk 2 1 [.int (1024 - k), .int 0])]:=by
   refine ⟨by omega,by omega, ?_, ?_⟩
   ·rw [e,up_snoc,map_app_rw]; congr 4; omega
   ·rw [e,dn_snoc,map_app_rw]; congr 4; omega
  have mu : ∀ a b c d : Dat,kaMu [] [.int (k+1),a,b] < kaMu [] [.int k,c,d]:=fun a b c d=>by simp only [kaMu]; omega
  rw [l1,l2]
  repeat' first
   | with_reducible exact inv
   | with_reducible exact mu _ _ _ _
   | (with_reducible refine And.intro ?_ ?_)
   | exact trivial
   | intro _
   | omega
 ·have hk : k = 1024 := by omega
  subst hk
  have t : (1024 : Int).toNat=1024:=rfl
  rw [t] at l1 l2 ⊢
  have rU : isRx ((upW 1024).map Rw.row):=⟨_,rfl,up_ok 1024 (Nat.le_refl _)⟩
  have rD : isRx ((dnW 1024).map Rw.row):=⟨_,rfl,dn_ok⟩
  have b0 : isN (([0] : List Int).map row):=⟨_,rfl,by decide⟩
  have P1 : ofxPre [.lst ((upW 1024).map Rw.row), .lst ((dnW 1024).map Rw.row), .lst (chunk 1 1 [.int 0]), .lst (chunk 1 1 [.int 0])]:=by
   refine ⟨rU,rD,b0,b0,fun x hx => ?_⟩
   rw [show nums (chunk 1 1 [.int 0])=[0] from rfl,List.mem_singleton] at hx
   omega
  have P2 : ofxPre [.lst ((upW 1024).map Rw.row ++ chunk 2 1 [.int 2000, .int 0]), .lst ((dnW 1024).map Rw.row), .lst (chunk 1 1 [.int 0]), .lst (chunk 1 1 [.int 0])]:=by
   refine ⟨⟨upW 1024 ++ [(⟨2000,0⟩ : Rw)],map_app_rw _ _ _,fun r hr => ?_⟩,rD,b0,b0,P1.2.2.2.2⟩
   rcases List.mem_append.1 hr with h | h
   ·exact up_ok 1024 (Nat.le_refl _) r h
   ·rw [List.mem_singleton] at h; rw [h]; unfold Rw.Ok; simp
  generalize hU : (upW 1024).map Rw.row=UU at *
  generalize hD : (dnW 1024).map Rw.row=DD at *
  rw [l1,l2]
  simp only [Int.lt_irrefl,not_false_eq_true,true_and,true_implies,implies_true,and_true]
  refine And.intro P1 fun _ x3 x4 x5 h5 => ?_
  rw [← hU,← hD] at h5
  obtain ⟨rfl,rfl,V,rfl,lV,m1,m2⟩:=first_rel h5
  refine And.intro (by omega) fun _=>And.intro (fun h=>absurd h (by omega)) fun _ => ?_
  refine And.intro P2 fun _ x6 x7 x8 h8 => ?_
  rw [← hU,← hD,map_app_rw] at h8
  have:=second_rel h8
  subst this
  have pS : planPre [.lst (([] : List Lv).map Lv.row), .lst (((⟨1,1023,false⟩ : Stp) :: V).map Stp.row)]:=⟨_,rfl,by rw [List.length_cons,lV]; omega⟩
  have hx : ((⟨1,1023,false⟩ : Stp) :: V)[(0 : Int).toNat]? = some ⟨1,1023,false⟩:=rfl
  have pl : (0 : Int) < ((((⟨1,1023,false⟩ : Stp) :: V).map Stp.row).length : Int):=by rw [List.length_map,List.length_cons]; omega
  have c2 : (Sx.cellAt (((⟨1,1023,false⟩ : Stp) :: V).map Stp.row) 0 2).toBool=false:=by rw [cellAt_map hx]; rfl
  have c1 : (Sx.cellAt (((⟨1,1023,false⟩ : Stp) :: V).map Stp.row) 0 1).toInt=1023:=by rw [cellAt_map hx]; rfl
  refine And.intro (fun _=>And.intro rfl fun _=>And.intro rfl fun _ => ?_) fun h=>absurd rfl h
  refine And.intro (fun _=>And.intro rfl fun _=>And.intro pS fun _ x9 h9 => ?_) fun h=>absurd rfl h
  simp only [nstaysRel,stps_map] at h9
  rw [m1] at h9
  subst h9
  refine And.intro rfl fun _=>And.intro rfl fun _=>And.intro (fun _=>And.intro rfl fun _=>And.intro pS fun _ x10 h10 => ?_) fun h=>absurd rfl h
  simp only [nmovesRel,stps_map] at h10
  rw [m2] at h10
  subst h10
  refine And.intro rfl fun _=>And.intro rfl fun _=>And.intro (fun _ => ?_) fun h=>absurd rfl h
  refine And.intro rfl fun _=>And.intro rfl fun _=>And.intro pl fun _=>And.intro rfl fun _=>And.intro rfl fun _=>And.intro pl fun _=>And.intro rfl fun _ => ?_
  generalize ((⟨1,1023,false⟩ : Stp) :: V).map Stp.row=X4 at *
  refine And.intro (fun h=>by rw [c2] at h; cases h) fun h => ?_
  refine And.intro h fun _=>And.intro h fun _=>And.intro pl fun _=>And.intro h fun _=>And.intro h fun _=>And.intro pl fun _=>And.intro h fun _=>And.intro h fun _=>And.intro (fun _ => ?_) fun h=>absurd c1 h
  have K0 : kbInv [] [.lst DD, .int 0]:=⟨by omega,by omega,dnW 1024,hD.symm,dn_len 1024,fun i hi=>by omega⟩
  refine And.intro K0 fun _ A j hj => ?_
  simp only [kbInv] at hj
  obtain ⟨q0,q1,a,rfl,la,hq⟩:=hj
  have lA : (a.map Rw.row).length=1024:=by rw [List.length_map,la]
  refine And.intro (fun hlt => ?_) fun hge => ?_
  ·have hu : (upW 1024)[j.toNat]? = some ⟨1 + j, 0⟩ := by
    rw [upW_mk]
    unfold mkW
    rw [List.getElem?_map,asc_get,if_pos (by omega)]
    show some (Rw.mk _ _)=_
    congr 2; omega
   have hcell : (Sx.cellAt UU j 0).toInt=1+j:=by rw [← hU,cellAt_map hu]; rfl
   obtain ⟨x,hx⟩:=Sx.get_at (T:=a) (i:=j) q0 (by omega)
   have hset : (a.set j.toNat ⟨1+j,x.t⟩)[j.toNat]? = some (⟨1+j,x.t⟩ : Rw):=by rw [List.getElem?_set_self (by omega)]
   have hnew : Sx.setAt (Sx.setAt (a.map Rw.row) j 0 (.int (Sx.cellAt UU j 0).toInt)) j 1 (.int 1)=(a.set j.toNat ⟨1+j,1⟩).map Rw.row:=by
    rw [hcell,setAt_map (y:=(⟨1+j,x.t⟩ : Rw)) hx rfl,setAt_map (y:=(⟨1+j,1⟩ : Rw)) hset rfl,List.set_set]
   have inv : kbInv [] [.lst (Sx.setAt (Sx.setAt (a.map Rw.row) j 0 (.int (Sx.cellAt UU j 0).toInt)) j 1 (.int 1)), .int (j+1)]:=by
    rw [hnew]
    refine ⟨by omega,by omega,_,rfl,by rw [List.length_set,la],fun i hi => ?_⟩
    rw [List.getElem?_set]
    by_cases e : j.toNat=i
    ·rw [if_pos e,if_pos (by omega)]; congr 2; omega
    ·rw [if_neg e]; exact hq i (by omega)
   have mu : ∀ b c : Dat,kbMu [] [b, .int (j+1)] < kbMu [] [c, .int j]:=fun b c=>by simp only [kbMu]; omega
   repeat' first
    | with_reducible exact inv
    | with_reducible exact mu _ _
    | (with_reducible refine And.intro ?_ ?_)
    | exact trivial
    | intro _
    | (rw [lA]; omega)
    | omega
  ·have hj : j=1024:=by omega
   subst hj
   have ha:=kb_done la hq
   subst ha
   have hpart : Sx.part ((chW 1024).map Rw.row) 0 ((1024 : Nat) : Int)=(chW 1024).map Rw.row:=by
    have h:=part_all ((chW 1024).map Rw.row)
    rw [lA] at h; exact h
   have rC : isRx ((chW 1024).map Rw.row):=⟨_,rfl,ch_ok 1024 (Nat.le_refl _)⟩
   have P3 : ofxPre [.lst UU, .lst ((chW 1024).map Rw.row), .lst (chunk 1 2 [.int 5, .int 7]), .lst (chunk 1 2 [.int 105, .int 7])]:=by
    refine ⟨rU,rC,⟨[5,7],rfl,by decide⟩,⟨[105,7],rfl,by decide⟩,fun x hx => ?_⟩
    rw [show nums (chunk 1 2 [.int 105, .int 7])=[105,7] from rfl] at hx
    simp at hx; omega
   rw [hpart,lA]
   refine And.intro (by omega) fun _=>And.intro P3 fun _ x13 x14 x15 hr => ?_
   rw [← hU] at hr
   obtain ⟨rfl,L,S,rfl,rfl,n1,n2,n3,n4,n5,n6⟩:=third_rel hr
   have pS : planPre [.lst (L.map Lv.row), .lst (S.map Stp.row)]:=⟨S,rfl,by omega⟩
   have pL : ndropsPre [.lst (L.map Lv.row), .lst (S.map Stp.row)]:=⟨L,rfl,by omega⟩
   refine And.intro (fun _=>And.intro rfl fun _=>And.intro pS fun _ x16 h16 => ?_) fun h=>absurd rfl h
   simp only [nstaysRel,stps_map] at h16
   rw [n4] at h16
   subst h16
   refine And.intro rfl fun _=>And.intro rfl fun _=>And.intro (fun _=>And.intro rfl fun _=>And.intro pL fun _ x17 h17 => ?_) fun h=>absurd rfl h
   simp only [ndropsRel,lvs_map] at h17
   rw [n3] at h17
   subst h17
   refine And.intro rfl fun _=>And.intro rfl fun _=>And.intro (fun _=>And.intro rfl fun _=>And.intro pS fun _ x18 h18 => ?_) fun h=>absurd rfl h
   simp only [nbindsRel,stps_map] at h18
   rw [n5] at h18
   subst h18
   refine And.intro rfl fun _=>And.intro rfl fun _=>And.intro (fun _=>And.intro rfl fun _=>And.intro pS fun _ x19 h19 => ?_) fun h=>absurd rfl h
   simp only [nmakesRel,stps_map] at h19
   rw [n6] at h19
   subst h19
   refine And.intro rfl fun _=>And.intro rfl fun _=>And.intro (fun _=>And.intro ?_ fun _ x20 h20=>And.intro rfl fun _ => ?_) fun h=>absurd rfl h
   ·exact rfl
   ·cases h20; exact rfl
end Go.C36
