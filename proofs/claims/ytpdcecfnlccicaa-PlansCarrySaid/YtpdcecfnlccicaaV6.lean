/- Chapter 36, PlansCarry: the condition holds.
  Conditions: none. -/
import Derived.Test.YtpdcecfnlccicaaV5
set_option linter.unusedVariables false
set_option linter.unusedSimpArgs false
namespace Go.C36
open Go Go.Xe Go.Sx
theorem three : ∀ {l : List Int},l.length = 3 → ∃ a b c,l = [a,b,c]
 | [a,b,c],_ => ⟨a,b,c,rfl⟩
theorem vcPcar_ok : vcPcar := by
 unfold vcPcar Nd
 rintro z0 z1 a b c d e f ⟨⟨l,rfl,hl⟩,⟨m,rfl,hm⟩,ha,hb,hc,hd,he,hf⟩
 have U := uok hl hm ha hb hc hd he hf
 have hu : uofPre [.lst (l.map prRow), .lst (m.map prRow), .int a, .int b, .int c, .int d, .int e, .int f] := ⟨⟨l,rfl,hl⟩,⟨m,rfl,hm⟩,ha,hb,hc,hd,he,hf⟩
 simp only [hu,uofRel,prs_map,forall_eq4,true_and,true_implies]
 generalize rowsL l = O at U
 generalize rowsL m = N at U
 generalize hP : [inOf a b,inOf c d,inOf e f] = P at U
 generalize [bndOf a,bndOf c,bndOf e] = B at U
 have lS : (ofSteps O N P B).length = N.length := ofSteps_len
 have lO := U.lo
 have lN := U.ln
 have lB := U.lb
 have lL := ofLeaves_len (O := O) (N := N) (P := P) (B := B)
 have lA : ((aheadF 0 (ofSteps O N P B)).length : Int) = N.length := by rw [aheadF_len,lS]
 have pA : ∀ L : Sx.Rows,aheadPre [.lst L, .lst ((ofSteps O N P B).map Stp.row)] := U.plan
 simp only [U.pre,U.rel,pA,aheadRel,stps_map,forall_eq3,forall_eq,true_and,true_implies,List.length_map,lS,lA,eq_self,need_twice,need_known,implies_true,and_true,not_true_eq_false,false_implies]
 refine And.intro ?_ fun _ k K hi => ?_
 ·simp only [q0Inv,rws_map,List.length_map]
  exact ⟨by omega,by omega,by simp⟩
 simp only [q0Inv,rws_map,List.length_map] at hi
 obtain ⟨k0,k1,rfl⟩ := hi
 simp only [List.length_map,Int.lt_irrefl,not_false_eq_true,true_and,true_implies,need_twice,need_known,implies_true,and_true]
 refine And.intro (fun hk => ?_) fun hk => ?_
 ·obtain ⟨x,hx⟩ := Sx.get_at (T := O) (i := k) k0 hk
  have e := toNat_succ k0
  have inv : q0Inv [.lst (O.map Rw.row)] [.int (k + 1), .lst (((O.take (k + 1).toNat).map Rw.k).map row)] := by
   simp only [q0Inv,rws_map,List.length_map]
   exact ⟨by omega,by omega,trivial⟩
  have mu : ∀ d d' : Dat,q0Mu [.lst (O.map Rw.row)] [.int (k + 1),d] < q0Mu [.lst (O.map Rw.row)] [.int k,d'] := fun d d' => by
   simp only [q0Mu,List.length_map]; omega
  have e2 : ((O.take k.toNat).map Rw.k).map row ++ chunk 1 1 [.int x.k] = ((O.take (k + 1).toNat).map Rw.k).map row := by
   rw [map_app_row,e,take_succ_at hx]
   congr 1
   rw [List.map_append]; rfl
  have tl : (O.take k.toNat).length ≤ O.length := by rw [List.length_take]; omega
  simp only [cellAt_map hx,rw0,toInt_int,e2]
  repeat' first
   | with_reducible exact inv
   | with_reducible exact mu _ _
   | (with_reducible refine And.intro ?_ ?_)
   | intro _
   | omega
 have hkO : O.take k.toNat = O := List.take_of_length_le (by omega)
 rw [hkO]
 clear hk hkO k0 k1
 have lP := U.rb.2.2.1
 refine And.intro (by omega) fun _ => ?_
 obtain ⟨g1,g2⟩ := U.go
 refine And.intro ?_ fun _ i L T hi => ?_
 ·simp only [q2Inv,rws_map,nums_map,lvs_map,List.length_map]
  exact ⟨by omega,by omega,_,_,rfl,rfl,U.inP,by simp,g1⟩
 simp only [q2Inv,rws_map,nums_map,lvs_map,List.length_map] at hi
 obtain ⟨i0,i1,l,t,rfl,rfl,hb,ll,hg⟩ := hi
 have tl := hb.1
 simp only [List.length_map,Int.lt_irrefl,not_false_eq_true,true_and,true_implies,need_twice,need_known,implies_true,and_true]
 refine And.intro (fun hi => ?_) fun hi => ?_
 ·obtain ⟨y, hy⟩ := Sx.get_at (T := ofLeaves O N P B) (i := i) i0 hi
  have e := toNat_succ i0
  rw [Sx.drop_at hy] at hg
  obtain ⟨x,a0,hx,w,v,hw,hv,hg⟩ := hg
  have a2 := (List.getElem?_eq_some_iff.1 hx).1
  have hr := U.ro x (List.mem_of_getElem? hx)
  obtain ⟨w',v',hw',hv',w0,w1⟩ := inB_get hb (i := x.t) hr.2.1 (by omega)
  rw [hw] at hw'
  rw [hv] at hv'
  cases hw'
  cases hv'
  have hvb := U.bb v (List.mem_of_getElem? hv)
  have hQ : isQ (l.map row) := ⟨l,rfl,by omega⟩
  have hlf : (l.filter fun y => decide (y ≠ x.k)).length ≤ l.length := List.length_filter_le _ _
  have n1 : ¬ y.a < 0 := by omega
  have n2 : y.a < O.length := by omega
  have n3 : ¬ i < 0 := by omega
  have n5 : ¬ x.t < 0 := by omega
  have n6 : x.t < t.length := by omega
  have n7 : x.t < B.length := by omega
  have n8 : ¬ v < w := by omega
  have mu : ∀ d d' d2 d2' : Dat,q2Mu [.lst ((ofLeaves O N P B).map Lv.row), .lst (O.map Rw.row), .lst (N.map Rw.row), .lst (P.map row), .lst (B.map row)] [.int (i + 1),d,d2] < q2Mu [.lst ((ofLeaves O N P B).map Lv.row), .lst (O.map Rw.row), .lst (N.map Rw.row), .lst (P.map row), .lst (B.map row)] [.int i,d',d2'] := fun d d' d2 d2' => by
   simp only [q2Mu,q0Mu,List.length_map]; omega
  have mk : ∀ t' : List Int, inB t' B → lvGo O B ((ofLeaves O N P B).drop (i + 1).toNat) t' (l.filter fun y => decide (y ≠ x.k)) (lvOut O N P B).th (bKeys O N) →
    q2Inv [.lst ((ofLeaves O N P B).map Lv.row), .lst (O.map Rw.row), .lst (N.map Rw.row), .lst (P.map row), .lst (B.map row)] [.int (i + 1), .lst ((l.filter fun y => decide (y ≠ x.k)).map row), .lst (t'.map row)] := fun t' hb' hg' => by
   simp only [q2Inv,rws_map,nums_map,lvs_map,List.length_map]
   exact ⟨by omega,by omega,_,_,rfl,rfl,hb',by omega,hg'⟩
  rw [e] at mk
  by_cases hdr : y.d = true
  ·rw [if_pos hdr] at hg
   obtain ⟨rfl,hg⟩ := hg
   have inv := mk t hb hg
   simp only [cellAt_map hy,cellAt_map hx,cellAt_map hw,cellAt_map hv,lv0,lv1,rw0,rw1,row0,toInt_int,toBool_bool,List.length_map,take2Pre,takePre,take2Rel,takeRel,hQ,nums_map,forall_eq,hdr,Bool.false_eq_true,n1,n2,n3,n5,n6,n7,n8,eq_self,not_true_eq_false,not_false_eq_true,false_implies,Int.lt_irrefl,need_twice,need_known,implies_true,and_true,true_and,true_implies]
   repeat' first
    | with_reducible exact inv
    | with_reducible exact mu _ _ _ _
    | (with_reducible refine And.intro ?_ ?_)
    | intro _
    | omega
  ·rw [if_neg hdr] at hg
   obtain ⟨hlt,hg⟩ := hg
   have inv := mk (t.set x.t.toNat (w + 1)) (inB_set hb hv (by omega) (by omega)) hg
   have hw' : (t.set x.t.toNat (w + 1))[x.t.toNat]? = some (w + 1) := List.getElem?_set_self (by omega)
   have n9 : ¬ v < w + 1 := by omega
   simp only [cellAt_map hy,cellAt_map hx,cellAt_map hw,cellAt_map hv,setAt_row hw,cellAt_map hw',lv0,lv1,rw0,rw1,row0,toInt_int,toBool_bool,List.length_map,take2Pre,takePre,take2Rel,takeRel,hQ,nums_map,forall_eq,hdr,Bool.false_eq_true,n1,n2,n3,n5,n6,n7,n9,eq_self,not_true_eq_false,not_false_eq_true,false_implies,Int.lt_irrefl,need_twice,need_known,implies_true,and_true,true_and,true_implies]
   repeat' first
    | with_reducible exact inv
    | with_reducible exact mu _ _ _ _
    | (with_reducible refine And.intro ?_ ?_)
    | intro _
    | omega
 rw [List.drop_of_length_le (by omega)] at hg
 obtain ⟨rfl,rfl⟩ := hg
 clear hi i0 i1
 have q0 : QI O N P B 0 (bKeys O N) (lvOut O N P B).th [] [] := ⟨by omega,by omega,hb,rfl,by simp,by omega,by simp [stOut],car_0 U⟩
 refine And.intro q0.inv fun _ i L T H hq => ?_
 obtain ⟨l,t,h,s,rfl,rfl,rfl,q⟩ := QI.of hq
 clear hq q0 hb ll tl
 have i0 := q.i0
 have i1 := q.i1
 have tl := q.hb.1
 simp only [List.length_map,Int.lt_irrefl,not_false_eq_true,true_and,true_implies,need_twice,need_known,implies_true,and_true]
 refine And.intro (fun hi => ?_) fun hi => ?_
 ·obtain ⟨x,hx⟩ := Sx.get_at (T := N) (i := i) i0 hi
  have hn : (aheadF 0 (ofSteps O N P B))[i.toNat]? = some (nxt (i + 1) ((ofSteps O N P B).drop (i.toNat + 1))) := by
   rw [ahead_at _ 0 i.toNat (by omega)]
   congr 2
   omega
  have n3 : ¬ i < 0 := by omega
  rcases nxt_kk (N.drop (i.toNat + 1)) ((ofSteps O N P B).drop (i.toNat + 1)) (i + 1) (by rw [List.length_drop,List.length_drop,lS]) with ⟨e1,e2⟩ | ⟨m,z,D,e1,e2,e3⟩
  ·have hA : NxA O N P B i.toNat 0 := .inl ⟨e2,rfl⟩
   rw [e1] at hn
   have n1 : ¬ i < -1 := by omega
   by_cases hm : x ∈ O
   ·have hs := (q.stay U hx hm hA).1
    have r6 := fun x0 x1 x2 x3 x4 x5 x6 x7 => vcPcar6_ok U q hx hm hA x0 x1 x2 x3 x4 x5 x6 x7
    simp only [cellAt_map hn,cellAt_map hs,st0,row0,toInt_int,n1,n3,hi,r6,eq_self,not_true_eq_false,not_false_eq_true,false_implies,need_twice,need_known,implies_true,and_true,true_and,true_implies]
   ·have r7 := fun x0 x1 x2 x3 x4 x5 x6 x7 => vcPcar7_ok U q hx hm hA x0 x1 x2 x3 x4 x5 x6 x7
    obtain ⟨s',hs,_,h3⟩ := of_at (O := O) (P := P) (B := B) hx
    have h3 := h3 hm
    simp only [cellAt_map hn,cellAt_map hs,st0,row0,toInt_int,n1,n3,hi,h3,r7,eq_self,not_true_eq_false,not_false_eq_true,false_implies,need_twice,need_known,implies_true,and_true,true_and,true_implies]
  ·rw [List.getElem?_drop] at e2
   have hz : N[(i + 1 + (m : Int)).toNat]? = some z := by rw [← e2]; congr 1; omega
   have z1 := (List.getElem?_eq_some_iff.1 hz).1
   have zr := U.rn z (List.mem_of_getElem? hz)
   have hA : NxA O N P B i.toNat z.k := .inr ⟨D,e3,by omega⟩
   rw [e1] at hn
   have n1 : i < i + 1 + (m : Int) := by omega
   have n2 : i + 1 + (m : Int) < N.length := by omega
   have n4 : ¬ i + 1 + (m : Int) < 0 := by omega
   have hr := U.rn x (List.mem_of_getElem? hx)
   have ll := q.ll
   have hl := q.hl
   obtain ⟨w,v,hw,hv,w0,w1⟩ := inB_get q.hb (i := x.t) hr.2.1 (by omega)
   have hvb := U.bb v (List.mem_of_getElem? hv)
   have hQ : isQ (l.map row) := ⟨l,rfl,by omega⟩
   have hlf : (l.filter fun y => decide (y ≠ x.k)).length ≤ l.length := List.length_filter_le _ _
   have hQ' : isQ ((l.filter fun y => decide (y ≠ x.k)).map row) := ⟨_,rfl,by omega⟩
   have n5 : ¬ x.t < 0 := by omega
   have n6 : x.t < t.length := by omega
   have n7 : ¬ w < 0 := by omega
   by_cases hm : x ∈ O
   ·obtain ⟨hs,q1,q2⟩ := q.stay U hx hm hA
    obtain ⟨a0,a1⟩ := atR_get hm
    have a2 := (List.getElem?_eq_some_iff.1 a1).1
    have m1 : ¬ atR O x < 0 := by omega
    have m2 : atR O x < O.length := by omega
    have r1 := fun hk => vcPcar1_ok U q hi hs rfl (q2 hk)
    have r2 := fun hk => vcPcar2_ok U q hx hs rfl (q1 hk)
    simp only [cellAt_map hn,cellAt_map hz,cellAt_map hs,cellAt_map hx,cellAt_map a1,cellAt_map hw,st0,st1,st2,rw0,rw1,row0,toInt_int,toBool_bool,List.length_map,take2Pre,takePre,take2Rel,takeRel,putPre,putRel,hQ,hQ',nums_map,forall_eq,hi,m1,m2,n1,n2,n3,n4,n5,n6,n7,eq_self,not_true_eq_false,not_false_eq_true,false_implies,Int.lt_irrefl,need_twice,need_known,implies_true,and_true,true_and,true_implies]
    refine And.intro (by omega) fun _ => And.intro (fun hk => ?_) fun hk => ?_
    ·exact r1 (by simpa using hk)
    ·exact r2 (by simpa using hk) _ _ _ _ _ _ _ _
   ·by_cases hw0 : 0 < w
    ·obtain ⟨hs,q'⟩ := q.bind U hx hm hw hw0 hA
     have r4 := vcPcar4_ok U q hx hw q'
     have hw' : (t.set x.t.toNat (w - 1))[x.t.toNat]? = some (w - 1) := List.getElem?_set_self (by omega)
     have n9 : ¬ w - 1 < 0 := by omega
     have n8 : ¬ w - 1 < -9223372036854775808 ∧ w - 1 < 9223372036854775808 := by omega
     have e : w + -1 = w - 1 := by omega
     have d : ¬ (2 : Int) = 1 := by omega
     simp only [cellAt_map hn,cellAt_map hz,cellAt_map hs,cellAt_map hx,cellAt_map hw,setAt_row hw,cellAt_map hw',e,st0,rw0,rw1,row0,toInt_int,List.length_map,putPre,putRel,hQ,nums_map,forall_eq,hi,n1,n2,n3,n4,n5,n6,n9,n8,d,eq_self,not_true_eq_false,not_false_eq_true,false_implies,Int.lt_irrefl,need_twice,need_known,implies_true,and_true,true_and,true_implies,r4]
    ·obtain ⟨hs,q'⟩ := q.make U hx hm hw hw0 hA
     have r5 := vcPcar5_ok U q hi q'
     have n8 : w = 0 := by omega
     have d : ¬ (3 : Int) = 2 := by omega
     have d2 : ¬ (3 : Int) = 1 := by omega
     subst n8
     simp only [cellAt_map hn,cellAt_map hz,cellAt_map hs,cellAt_map hx,cellAt_map hw,st0,rw0,rw1,row0,toInt_int,List.length_map,putPre,putRel,hQ,nums_map,forall_eq,hi,n1,n2,n3,n4,n5,n6,n7,d,d2,eq_self,not_true_eq_false,not_false_eq_true,false_implies,Int.lt_irrefl,need_twice,need_known,implies_true,and_true,true_and,true_implies,r5]
 have hiN : i = N.length := by omega
 have hca := q.ca
 have hst := q.st
 have hb := q.hb
 have hl := q.hl
 rw [hiN,Int.toNat_natCast] at hca hst
 have hlN := car_end U hca
 subst hlN
 rw [List.drop_length] at hst
 have ht : t = (stOut O N P B).th := by rw [← hst]; rfl
 have hh : h = (stOut O N P B).bh := by rw [← hst]; rfl
 have hmv := moves_all U
 have hcnt := count_all U
 rw [← hh] at hmv
 rw [← ht] at hcnt
 have pS : ∀ L : Sx.Rows,nmovesPre [.lst L, .lst ((ofSteps O N P B).map Stp.row)] := U.plan
 have pM : ∀ L : Sx.Rows,nmakesPre [.lst L, .lst ((ofSteps O N P B).map Stp.row)] := U.plan
 have pD : ndropsPre [.lst ((ofLeaves O N P B).map Lv.row), .lst ((ofSteps O N P B).map Stp.row)] := ⟨_,rfl,by omega⟩
 have pR : rlongestPre [.lst (h.map row)] := ⟨h,rfl,by omega⟩
 have rk := rkept_le h
 have hp := U.inP
 obtain ⟨t0,t1,t2,et⟩ := three (tl.trans lB)
 obtain ⟨p0,p1,p2,ep⟩ := three (lP.trans lB)
 obtain ⟨b0,b1,b2,eb⟩ := three lB
 clear hP
 subst et
 subst ep
 subst eb
 have u0 := hb.2 0 t0 b0 rfl rfl
 have u1 := hb.2 1 t1 b1 rfl rfl
 have u2 := hb.2 2 t2 b2 rfl rfl
 have v0 := hp.2 0 p0 b0 rfl rfl
 have v1 := hp.2 1 p1 b1 rfl rfl
 have v2 := hp.2 2 p2 b2 rfl rfl
 have w0 := U.bb b0 (by simp)
 have w1 := U.bb b1 (by simp)
 have w2 := U.bb b2 (by simp)
 have c0 : ∀ y0 y1 y2 : Int,cellAt ([y0,y1,y2].map row) 0 0 = .int y0 := fun _ _ _ => rfl
 have c1 : ∀ y0 y1 y2 : Int,cellAt ([y0,y1,y2].map row) 1 0 = .int y1 := fun _ _ _ => rfl
 have c2 : ∀ y0 y1 y2 : Int,cellAt ([y0,y1,y2].map row) 2 0 = .int y2 := fun _ _ _ => rfl
 have l3 : ∀ y0 y1 y2 : Int,(([y0,y1,y2] : List Int).length : Int) = 3 := fun _ _ _ => rfl
 simp only [List.sum_cons,List.sum_nil] at hcnt
 have mk0 : 0 ≤ many isMake (ofSteps O N [p0,p1,p2] [b0,b1,b2]) := by unfold many; omega
 have dr0 : 0 ≤ drops (ofLeaves O N [p0,p1,p2] [b0,b1,b2]) := by unfold drops; omega
 simp only [pS,pM,pD,pR,nmovesRel,nmakesRel,ndropsRel,rlongestRel,stps_map,lvs_map,nums_map,forall_eq,c0,c1,c2,l3,toInt_int,List.length_map,eq_self,not_true_eq_false,not_false_eq_true,false_implies,Int.lt_irrefl,need_twice,need_known,implies_true,and_true,true_and,true_implies,hmv,livesPre,livesRel,yesRel,q9Inv]
 have rk' : ((rkept h).length : Int) ≤ h.length := by omega
 iterate 13 refine And.intro (by omega) fun _ => ?_
 refine And.intro (by omega) fun _ j hj => ?_
 obtain ⟨j0,j1⟩ := hj
 have heq : ((O.length : Int) + many isMake (ofSteps O N [p0,p1,p2] [b0,b1,b2]) = N.length + (t0 - p0 + t1 - p1 + t2 - p2) + drops (ofLeaves O N [p0,p1,p2] [b0,b1,b2])) := by omega
 have mkN : many isMake (ofSteps O N [p0,p1,p2] [b0,b1,b2]) ≤ N.length := by
  have : (ofSteps O N [p0,p1,p2] [b0,b1,b2]).countP isMake ≤ (ofSteps O N [p0,p1,p2] [b0,b1,b2]).length := List.countP_le_length
  unfold many; omega
 have drN : drops (ofLeaves O N [p0,p1,p2] [b0,b1,b2]) ≤ 20 := by
  have : (ofLeaves O N [p0,p1,p2] [b0,b1,b2]).countP (fun x => x.d) ≤ (ofLeaves O N [p0,p1,p2] [b0,b1,b2]).length := List.countP_le_length
  unfold drops; omega
 refine And.intro (fun hj => ?_) fun hj => ?_
 ·obtain ⟨x,hx⟩ := Sx.get_at (T := N) (i := j) j0 hj
  have hx2 : (N.map Rw.k)[j.toNat]? = some x.k := by rw [List.getElem?_map,hx]; rfl
  have mu : q9Mu [.lst (N.map Rw.row)] [.int (j + 1)] < q9Mu [.lst (N.map Rw.row)] [.int j] := by
   simp only [q9Mu,q0Mu,List.length_map]; omega
  simp only [cellAt_map hx,cellAt_map hx2,rw0,row0,toInt_int,eq_self,not_true_eq_false,false_implies,and_true,true_implies]
  repeat' first
   | with_reducible exact mu
   | (with_reducible refine And.intro ?_ ?_)
   | intro _
   | omega
 ·simp only [heq,eq_self,not_true_eq_false,false_implies,and_true,true_implies,true_and,pcarRel,trueC]
  exact And.intro (by omega) fun _ => And.intro (by omega) fun _ => And.intro (by omega) fun _ x30 h => h
end Go.C36
