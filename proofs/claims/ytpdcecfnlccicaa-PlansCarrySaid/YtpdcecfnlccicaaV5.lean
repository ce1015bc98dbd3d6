/- Chapter 36, PlansCarry: the rounds' conditions hold.
  Conditions: none. -/
import Derived.Test.YtpdcecfnlccicaaV4
set_option linter.unusedVariables false
set_option linter.unusedSimpArgs false
namespace Go.C36
open Go Go.Xe Go.Sx
section
variable {O N : List Rw} {P B : List Int} {i : Int} {l t h : List Int} {s : List Stp} {x : Rw}
theorem mu4 {X : List Dat} {x0 x1 : Dat} {L T H L' T' H' : Dat} (hi : i < N.length) (h0 : 0 ≤ i) : q4Mu (x0 :: x1 :: .lst (N.map Rw.row) :: X) [.int (i + 1),L,T,H] < q4Mu (x0 :: x1 :: .lst (N.map Rw.row) :: X) [.int i,L',T',H'] := by
 simp only [q4Mu,List.length_map]; omega
theorem vcPcar1_ok (U : UOk O N P B) {st : Stp} {l' h' : List Int} {s' : List Stp} (q : QI O N P B i l t h s) (hi : i < N.length) (hs : (ofSteps O N P B)[i.toNat]? = some st) (he : h' = h ++ [st.o]) (q' : QI O N P B (i + 1) l' t h' s') :
  vcPcar1 (O.map Rw.row) (N.map Rw.row) (P.map row) (B.map row) ((ofSteps O N P B).map Stp.row) i (l.map row) (t.map row) (h.map row) (l'.map row) := by
 subst he
 have i0 := q.i0
 have lN := U.ln
 have inv := q'.inv
 unfold vcPcar1 Nd
 simp only [cellAt_map hs,st0,st1,st2,toInt_int,toBool_bool,List.length_map,not_true_eq_false,not_false_eq_true,Int.lt_irrefl,need_twice,need_known,implies_true,and_true,true_and,true_implies,map_app_row]
 repeat' first
  | with_reducible exact inv
  | exact mu4 hi i0
  | (with_reducible refine And.intro ?_ ?_)
  | intro _
  | omega
theorem vcPcar2_ok (U : UOk O N P B) {st : Stp} {h' : List Int} {s' : List Stp} (q : QI O N P B i l t h s) (hx : N[i.toNat]? = some x) (hs : (ofSteps O N P B)[i.toNat]? = some st) (he : h' = h ++ [st.o]) (q' : QI O N P B (i + 1) l t h' s') (x0 x1 : Sx.Rows) (x2 x3 x4 x5 x6 x7 : Int) :
  vcPcar2 x0 x1 x2 x3 x4 x5 x6 x7 (O.map Rw.row) (N.map Rw.row) (P.map row) (B.map row) ((ofSteps O N P B).map Stp.row) i (l.map row) (t.map row) (h.map row) := by
 subst he
 have i0 := q.i0
 have lN := U.ln
 have inv := q'.inv
 have hr := U.rn x (List.mem_of_getElem? hx)
 have hi : i.toNat < N.length := (List.getElem?_eq_some_iff.1 hx).1
 have lB := U.lb
 have tl := q.hb.1
 obtain ⟨w,v,hw,hv,w0,w1⟩ := inB_get q.hb (i := x.t) hr.2.1 (by omega)
 have n3 : ¬ i < 0 := by omega
 have n4 : i < N.length := by omega
 have n5 : ¬ x.t < 0 := by omega
 have n6 : x.t < t.length := by omega
 have n7 : ¬ w < 0 := by omega
 unfold vcPcar2 Nd
 simp only [cellAt_map hs,cellAt_map hx,cellAt_map hw,rw0,rw1,row0,st0,st1,st2,toInt_int,toBool_bool,List.length_map,n3,n4,n5,n6,n7,false_implies,not_true_eq_false,not_false_eq_true,Int.lt_irrefl,need_twice,need_known,implies_true,and_true,true_and,true_implies,map_app_row]
 repeat' first
  | with_reducible exact inv
  | exact mu4 n4 i0
  | (with_reducible refine And.intro ?_ ?_)
  | intro _
  | omega
theorem vcPcar4_ok (U : UOk O N P B) {w : Int} {l' : List Int} {s' : List Stp} (q : QI O N P B i l t h s) (hx : N[i.toNat]? = some x) (hw : t[x.t.toNat]? = some w) (q' : QI O N P B (i + 1) l' (t.set x.t.toNat (w - 1)) h s') :
  vcPcar4 (O.map Rw.row) (N.map Rw.row) (P.map row) (B.map row) ((ofSteps O N P B).map Stp.row) i (l.map row) (t.map row) (h.map row) (l'.map row) := by
 have i0 := q.i0
 have lN := U.ln
 have inv := q'.inv
 have hi : i.toNat < N.length := (List.getElem?_eq_some_iff.1 hx).1
 have n4 : i < N.length := by omega
 have e : w + -1 = w - 1 := by omega
 unfold vcPcar4 Nd
 simp only [cellAt_map hx,cellAt_map hw,setAt_row hw,rw0,rw1,row0,e,toInt_int,toBool_bool,List.length_map,not_true_eq_false,not_false_eq_true,Int.lt_irrefl,need_twice,need_known,implies_true,and_true,true_and,true_implies]
 repeat' first
  | with_reducible exact inv
  | exact mu4 n4 i0
  | (with_reducible refine And.intro ?_ ?_)
  | intro _
  | omega
theorem vcPcar5_ok (U : UOk O N P B) {l' : List Int} {s' : List Stp} (q : QI O N P B i l t h s) (n4 : i < N.length) (q' : QI O N P B (i + 1) l' t h s') :
  vcPcar5 (O.map Rw.row) (N.map Rw.row) (P.map row) (B.map row) ((ofSteps O N P B).map Stp.row) i (l.map row) (t.map row) (h.map row) (l'.map row) := by
 have i0 := q.i0
 have lN := U.ln
 have inv := q'.inv
 unfold vcPcar5 Nd
 simp only [List.length_map,not_true_eq_false,not_false_eq_true,Int.lt_irrefl,need_twice,need_known,implies_true,and_true,true_and,true_implies]
 repeat' first
  | with_reducible exact inv
  | exact mu4 n4 i0
  | (with_reducible refine And.intro ?_ ?_)
  | intro _
  | omega
theorem vcPcar6_ok (U : UOk O N P B) (q : QI O N P B i l t h s) (hx : N[i.toNat]? = some x) (hm : x ∈ O) (ha : NxA O N P B i.toNat 0) (x0 x1 : Sx.Rows) (x2 x3 x4 x5 x6 x7 : Int) :
  vcPcar6 x0 x1 x2 x3 x4 x5 x6 x7 (O.map Rw.row) (N.map Rw.row) (P.map row) (B.map row) ((ofSteps O N P B).map Stp.row) i (l.map row) (t.map row) (h.map row) := by
 obtain ⟨hs,q1,q2⟩ := q.stay U hx hm ha
 obtain ⟨a0,a1⟩ := atR_get hm
 have a2 := (List.getElem?_eq_some_iff.1 a1).1
 have hr := U.rn x (List.mem_of_getElem? hx)
 have i0 := q.i0
 have hi : i.toNat < N.length := (List.getElem?_eq_some_iff.1 hx).1
 have lO := U.lo
 have lN := U.ln
 have ll := q.ll
 have hl := q.hl
 have lB := U.lb
 have tl := q.hb.1
 obtain ⟨w,v,hw,hv,w0,w1⟩ := inB_get q.hb (i := x.t) hr.2.1 (by omega)
 have hQ : isQ (l.map row) := ⟨l,rfl,by omega⟩
 have hlf : (l.filter fun y => decide (y ≠ x.k)).length ≤ l.length := List.length_filter_le _ _
 have hQ' : isQ ((l.filter fun y => decide (y ≠ x.k)).map row) := ⟨_,rfl,by omega⟩
 have n1 : ¬ atR O x < 0 := by omega
 have n2 : atR O x < O.length := by omega
 have n3 : ¬ i < 0 := by omega
 have n4 : i < N.length := by omega
 have n5 : ¬ x.t < 0 := by omega
 have n6 : x.t < t.length := by omega
 have n7 : ¬ w < 0 := by omega
 have r1 := fun hk => vcPcar1_ok U q n4 hs rfl (q2 hk)
 have r2 := fun hk => vcPcar2_ok U q hx hs rfl (q1 hk) x0 x1 x2 x3 x4 x5 x6 x7
 unfold vcPcar6 Nd
 simp only [cellAt_map hs,cellAt_map hx,cellAt_map a1,cellAt_map hw,st0,st1,st2,rw0,rw1,row0,toInt_int,toBool_bool,List.length_map,take2Pre,takePre,take2Rel,takeRel,putPre,putRel,hQ,hQ',nums_map,forall_eq,n1,n2,n3,n4,n5,n6,n7,not_true_eq_false,not_false_eq_true,false_implies,Int.lt_irrefl,need_twice,need_known,implies_true,and_true,true_and,true_implies,map_app_row]
 refine And.intro (by omega) fun _ => And.intro (fun hk => ?_) fun hk => ?_
 ·exact r1 (by simpa using hk)
 ·exact r2 (by simpa using hk)
theorem vcPcar7_ok (U : UOk O N P B) (q : QI O N P B i l t h s) (hx : N[i.toNat]? = some x) (hm : x ∉ O) (ha : NxA O N P B i.toNat 0) (x0 x1 : Sx.Rows) (x2 x3 x4 x5 x6 x7 : Int) :
  vcPcar7 x0 x1 x2 x3 x4 x5 x6 x7 (O.map Rw.row) (N.map Rw.row) (P.map row) (B.map row) ((ofSteps O N P B).map Stp.row) i (l.map row) (t.map row) (h.map row) := by
 have hr := U.rn x (List.mem_of_getElem? hx)
 have i0 := q.i0
 have hi : i.toNat < N.length := (List.getElem?_eq_some_iff.1 hx).1
 have lO := U.lo
 have lN := U.ln
 have ll := q.ll
 have lB := U.lb
 have tl := q.hb.1
 obtain ⟨w,v,hw,hv,w0,w1⟩ := inB_get q.hb (i := x.t) hr.2.1 (by omega)
 have hvb := U.bb v (List.mem_of_getElem? hv)
 have hQ : isQ (l.map row) := ⟨l,rfl,by omega⟩
 have n3 : ¬ i < 0 := by omega
 have n4 : i < N.length := by omega
 have n5 : ¬ x.t < 0 := by omega
 have n6 : x.t < t.length := by omega
 have e : w + -1 = w - 1 := by omega
 by_cases hw0 : 0 < w
 ·obtain ⟨hs,q'⟩ := q.bind U hx hm hw hw0 ha
  have r4 := vcPcar4_ok U q hx hw q'
  have hw' : (t.set x.t.toNat (w - 1))[x.t.toNat]? = some (w - 1) := List.getElem?_set_self (by omega)
  have n7 : ¬ w - 1 < 0 := by omega
  have n8 : ¬ w - 1 < -9223372036854775808 ∧ w - 1 < 9223372036854775808 := by omega
  unfold vcPcar7 Nd
  simp only [cellAt_map hs,cellAt_map hx,cellAt_map hw,setAt_row hw,cellAt_map hw',e,st0,rw0,rw1,row0,toInt_int,List.length_map,putPre,putRel,hQ,nums_map,forall_eq,n3,n4,n5,n6,n7,n8,not_true_eq_false,not_false_eq_true,false_implies,Int.lt_irrefl,need_twice,need_known,implies_true,and_true,true_and,true_implies,r4]
 ·obtain ⟨hs,q'⟩ := q.make U hx hm hw hw0 ha
  have r5 := vcPcar5_ok U q n4 q'
  have n7 : ¬ w < 0 := by omega
  have n8 : w = 0 := by omega
  have d : ¬ (3 : Int) = 2 := by omega
  subst n8
  unfold vcPcar7 Nd
  simp only [cellAt_map hs,cellAt_map hx,cellAt_map hw,st0,rw0,rw1,row0,toInt_int,List.length_map,putPre,putRel,hQ,nums_map,forall_eq,n3,n4,n5,n6,n7,d,not_true_eq_false,not_false_eq_true,false_implies,Int.lt_irrefl,need_twice,need_known,implies_true,and_true,true_and,true_implies,r5]
end
end Go.C36
