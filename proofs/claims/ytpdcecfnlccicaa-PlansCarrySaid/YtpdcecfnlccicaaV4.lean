/- Chapter 36, PlansCarry: one round of the loop over the steps.
  Conditions: none. -/
import Derived.Test.YtpdcecfnlccicaaV2
import Derived.Test.YtpdcecfnlccicaaV3
import Derived.Test.YtpdcecfnlccicaaQ8
set_option linter.unusedVariables false
set_option linter.unusedSimpArgs false
namespace Go.C36
open Go Go.Xe Go.Sx
theorem vcTake2_ok : vcTake2 := vcTake_ok
section
variable {O N : List Rw} {P B : List Int}
structure QI (O N : List Rw) (P B : List Int) (i : Int) (l t h : List Int) (s : List Stp) : Prop where
 i0 : 0 ≤ i
 i1 : i ≤ N.length
 hb : inB t B
 sl : (s.length : Int) = i
 hl : (h.length : Int) ≤ i
 ll : (l.length : Int) ≤ O.length + i
 st : stAll O (N.drop i.toNat) ⟨t,h,s⟩ = stOut O N P B
 ca : carI O N (ofSteps O N P B) i.toNat l
theorem QI.inv {i : Int} {l t h : List Int} {s : List Stp} (q : QI O N P B i l t h s) : q4Inv [.lst ((ofSteps O N P B).map Stp.row), .lst (O.map Rw.row), .lst (N.map Rw.row), .lst (P.map row), .lst (B.map row)] [.int i, .lst (l.map row), .lst (t.map row), .lst (h.map row)] := by
 simp only [q4Inv,rws_map,nums_map,stps_map,List.length_map]
 exact ⟨q.i0,q.i1,l,t,h,s,rfl,rfl,rfl,q.hb,q.sl,q.hl,q.ll,q.st,q.ca⟩
theorem QI.of {i : Int} {L T H : Sx.Rows} (q : q4Inv [.lst ((ofSteps O N P B).map Stp.row), .lst (O.map Rw.row), .lst (N.map Rw.row), .lst (P.map row), .lst (B.map row)] [.int i, .lst L, .lst T, .lst H]) :
  ∃ l t h s,L = l.map row ∧ T = t.map row ∧ H = h.map row ∧ QI O N P B i l t h s := by
 simp only [q4Inv,rws_map,nums_map,stps_map,List.length_map] at q
 obtain ⟨i0,i1,l,t,h,s,rfl,rfl,rfl,h1,h2,h3,h4,h5,h6⟩ := q
 exact ⟨l,t,h,s,rfl,rfl,rfl,i0,i1,h1,h2,h3,h4,h5,h6⟩
def NxA (O N : List Rw) (P B : List Int) (i : Nat) (a : Int) : Prop :=
 kkL (N.drop (i + 1)) ((ofSteps O N P B).drop (i + 1)) = [] ∧ a = 0 ∨ ∃ D',kkL (N.drop (i + 1)) ((ofSteps O N P B).drop (i + 1)) = a :: D' ∧ a ≠ 0
theorem QI.stay (U : UOk O N P B) {i a : Int} {l t h : List Int} {s : List Stp} {x : Rw} (q : QI O N P B i l t h s) (hx : N[i.toNat]? = some x) (hm : x ∈ O) (ha : NxA O N P B i.toNat a) :
  (ofSteps O N P B)[i.toNat]? = some ⟨1,atR O x,decide (atR O x ∉ kOut O N P B)⟩ ∧ (atR O x ∈ kOut O N P B → QI O N P B (i + 1) l t (h ++ [atR O x]) (s ++ [⟨1,atR O x,true⟩])) ∧
   (atR O x ∉ kOut O N P B → QI O N P B (i + 1) (putL (l.filter fun y => decide (y ≠ x.k)) x.k a) t (h ++ [atR O x]) (s ++ [⟨1,atR O x,true⟩])) := by
 obtain ⟨s',hs,h2,_⟩ := of_at (O := O) (P := P) (B := B) hx
 have hs' := h2 hm
 subst hs'
 have e := toNat_succ q.i0
 have hi : i.toNat < N.length := (List.getElem?_eq_some_iff.1 hx).1
 obtain ⟨k1,k2,_⟩ := car_step U hx hs q.ca ha
 have hst := q.st
 rw [Sx.drop_at hx,stAll] at hst
 unfold stStep at hst
 rw [if_pos hm] at hst
 have i0 := q.i0
 have sl := q.sl
 have hl := q.hl
 have ll := q.ll
 refine ⟨hs,fun hk => ⟨by omega,by omega,q.hb,by rw [List.length_append]; simp; omega,by rw [List.length_append]; simp; omega,by omega,by rw [e]; exact hst,by rw [e]; exact k1 ⟨rfl,by simp [hk]⟩⟩,fun hk => ?_⟩
 obtain ⟨k3,k4⟩ := k2 fun c => by simp [hk] at c
 exact ⟨by omega,by omega,q.hb,by rw [List.length_append]; simp; omega,by rw [List.length_append]; simp; omega,by omega,by rw [e]; exact hst,by rw [e]; exact k3⟩
theorem QI.bind (U : UOk O N P B) {i a w : Int} {l t h : List Int} {s : List Stp} {x : Rw} (q : QI O N P B i l t h s) (hx : N[i.toNat]? = some x) (hm : x ∉ O) (hw : t[x.t.toNat]? = some w) (w0 : 0 < w) (ha : NxA O N P B i.toNat a) :
  (ofSteps O N P B)[i.toNat]? = some ⟨2, -1,false⟩ ∧ QI O N P B (i + 1) (putL l x.k a) (t.set x.t.toNat (w - 1)) h (s ++ [⟨2, -1,false⟩]) := by
 have e := toNat_succ q.i0
 have hi : i.toNat < N.length := (List.getElem?_eq_some_iff.1 hx).1
 have i0 := q.i0
 have sl := q.sl
 have hl := q.hl
 have ll := q.ll
 have gw : t.getD x.t.toNat 0 = w := by rw [List.getD_eq_getElem?_getD,hw]; rfl
 have hq : stStep O ⟨t,h,s⟩ x = ⟨t.set x.t.toNat (w - 1),h,s ++ [⟨2, -1,false⟩]⟩ := by unfold stStep putN; rw [if_neg hm,gw,if_pos w0]
 have hs := of_now hx (by omega) q.st (q := ⟨2, -1,false⟩) (by rw [hq])
 rw [keepS_n (by simp)] at hs
 obtain ⟨_,k2,k5⟩ := car_step U hx hs q.ca ha
 obtain ⟨k3,k4⟩ := k2 fun c => by simp at c
 rw [k5 (by simp)] at k3 k4
 have hst := q.st
 rw [Sx.drop_at hx,stAll,hq] at hst
 obtain ⟨w',v,hw',hv,_,w1⟩ := inB_get q.hb (i := x.t) (U.rn x (List.mem_of_getElem? hx)).2.1 (by have := U.lb; have := U.rn x (List.mem_of_getElem? hx); omega)
 rw [hw] at hw'
 cases hw'
 exact ⟨hs,by omega,by omega,inB_set q.hb hv (by omega) (by omega),by rw [List.length_append]; simp; omega,by omega,by omega,by rw [e]; exact hst,by rw [e]; exact k3⟩
theorem QI.make (U : UOk O N P B) {i a w : Int} {l t h : List Int} {s : List Stp} {x : Rw} (q : QI O N P B i l t h s) (hx : N[i.toNat]? = some x) (hm : x ∉ O) (hw : t[x.t.toNat]? = some w) (w0 : ¬ 0 < w) (ha : NxA O N P B i.toNat a) :
  (ofSteps O N P B)[i.toNat]? = some ⟨3, -1,false⟩ ∧ QI O N P B (i + 1) (putL l x.k a) t h (s ++ [⟨3, -1,false⟩]) := by
 have e := toNat_succ q.i0
 have hi : i.toNat < N.length := (List.getElem?_eq_some_iff.1 hx).1
 have i0 := q.i0
 have sl := q.sl
 have hl := q.hl
 have ll := q.ll
 have gw : t.getD x.t.toNat 0 = w := by rw [List.getD_eq_getElem?_getD,hw]; rfl
 have hq : stStep O ⟨t,h,s⟩ x = ⟨t,h,s ++ [⟨3, -1,false⟩]⟩ := by unfold stStep; rw [if_neg hm,gw,if_neg w0]
 have hs := of_now hx (by omega) q.st (q := ⟨3, -1,false⟩) (by rw [hq])
 rw [keepS_n (by simp)] at hs
 obtain ⟨_,k2,k5⟩ := car_step U hx hs q.ca ha
 obtain ⟨k3,k4⟩ := k2 fun c => by simp at c
 rw [k5 (by simp)] at k3 k4
 have hst := q.st
 rw [Sx.drop_at hx,stAll,hq] at hst
 exact ⟨hs,by omega,by omega,q.hb,by rw [List.length_append]; simp; omega,by omega,by omega,by rw [e]; exact hst,by rw [e]; exact k3⟩
end
end Go.C36
