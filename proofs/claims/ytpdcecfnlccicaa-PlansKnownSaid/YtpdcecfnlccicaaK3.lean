/- Chapter 36, lists of rows that may be too long: the conditions hold.
  Conditions: none. -/
import Derived.Test.YtpdcecfnlccicaaK2
set_option linter.unusedVariables false
set_option linter.unusedSimpArgs false
namespace Go.C36
open Go Go.Xe Go.Sx
theorem chkX_ok {n : Int} {l : List Rw} (h : chkX n l=0) : l.length≤1024∧chkP n l=0:=by
 unfold chkX at h
 unfold chkP
 split at h
 ·omega
 ·rename_i h1
  rw [if_neg h1]
  split at h
  ·omega
  ·exact ⟨by omega,h⟩
theorem vcPcheckx_ok : vcPcheckx:=by
 unfold vcPcheckx Nd
 rintro _ n ⟨⟨l,rfl,hr⟩,n0,n1⟩
 simp only [pcheckxRel,psInv,psMu,List.length_map,rws_map,need_twice,need_known,implies_true,and_true,true_and,true_implies]
 refine And.intro (fun h => ?_) fun h1=>And.intro (fun h => ?_) fun h2 => ?_
 ·have e : chkX n l=1:=by unfold chkX; rw [if_pos (.inl h)]
  rw [e]
  repeat' first
   | rfl
   | exact h
   | (with_reducible refine And.intro ?_ ?_)
   | intro _
 ·have e : chkX n l=1:=by unfold chkX; rw [if_pos (.inr h)]
  rw [e]
 ·refine And.intro (fun h=>by unfold chkX; rw [if_neg (by omega),if_pos h]) fun hl => ?_
  have e : chkX n l=chkR n [] l:=by unfold chkX; rw [if_neg (by omega),if_neg hl]
  rw [e]
  refine And.intro ⟨by omega,by omega,fun x=>by simp [mgetR,Dat.toBool],rfl⟩ fun _ k M ⟨k0,k1,hm,hc⟩=>And.intro (fun hk => ?_) fun hk => ?_
  ·obtain ⟨x,hx⟩:=Sx.get_at (T:=l) (i:=k) k0 hk
   have hxr:=hr x (List.mem_of_getElem? hx)
   obtain ⟨r1,r2,r3,r4⟩:=hxr
   have ek:=toNat_succ k0
   rw [Sx.drop_at hx,chkR_cons] at hc
   simp only [cellAt_map hx,rw0,rw1,toInt_int]
   refine And.intro (by omega) fun _=>And.intro hk fun _=>And.intro (fun h0 => ?_) fun h0 => ?_
   ·rw [if_pos h0] at hc; exact hc
   ·rw [if_neg h0] at hc
    refine And.intro ⟨by omega,by omega⟩ fun _=>And.intro (fun h3 => ?_) fun h3 => ?_
    ·rw [if_neg (by omega)] at hc
     refine And.intro (fun h4 => ?_) fun h4 => ?_
     ·rw [hm,decide_eq_true_eq] at h4
      rw [if_pos h4] at hc; exact hc
     ·rw [hm,decide_eq_true_eq] at h4
      rw [if_neg h4] at hc
      have inv : ∀ y,(mgetR (mputR M [x.k] (.bool true)) [y] (.bool false)).toBool=decide (y ∈ (l.take (k+1).toNat).map Rw.k):=fun y=>by
       rw [mget_mput [x.k] [y] rfl,ek,take_succ_at hx]
       by_cases hy : y=x.k
       ·rw [hy,if_pos rfl]; simp [Dat.toBool]
       ·rw [if_neg (fun c=>hy (List.cons.inj c).1),hm,List.map_append]; simp [hy]
      have cc : chkR n ((l.take (k+1).toNat).map Rw.k) (l.drop (k+1).toNat)=chkR n [] l:=by rw [ek,take_succ_at hx,List.map_append]; exact hc
      repeat' first
       | exact inv
       | exact cc
       | (with_reducible refine And.intro ?_ ?_)
       | intro _
       | omega
    ·rw [if_pos (by omega)] at hc; exact hc
  ·rw [List.drop_of_length_le (by omega),chkR_nil] at hc; exact hc
theorem map_app_lv (o : List Lv) (i : Int) (b : Bool) : o.map Lv.row ++ chunk 2 1 [.int i, .bool b]=(o ++ [(⟨i,b⟩ : Lv)]).map Lv.row:=by rw [List.map_append]; rfl
theorem map_app_st (o : List Stp) (w i : Int) (b : Bool) : o.map Stp.row ++ chunk 3 1 [.int w, .int i, .bool b]=(o ++ [(⟨w,i,b⟩ : Stp)]).map Stp.row:=by rw [List.map_append]; rfl
theorem ofErrX_0 {o n : List Rw} {p b : List Int} (h1 : rightB p b) (h2 : chkX b.length o=0) : ofErrX o n p b=chkX b.length n:=by
 unfold ofErrX; rw [if_pos h1,if_pos h2]
theorem keepS_w {K : List Int} {s : Stp} (h : s.w=1) (hk : s.o ∈ K) : keepS K s=⟨s.w,s.o,false⟩:=by unfold keepS; rw [if_pos ⟨h,hk⟩]
theorem keepS_n {K : List Int} {s : Stp} (h : ¬ (s.w=1∧s.o ∈ K)) : keepS K s=s:=by unfold keepS; rw [if_neg h]
def midS (K : List Int) (s : List Stp) (k : Nat) : List Stp:=(s.take k).map (keepS K) ++ s.drop k
theorem midS_get {K : List Int} {s : List Stp} {k : Nat} {x : Stp} (h : s[k]? = some x) : (midS K s k)[k]? = some x:=by
 have hk:=(List.getElem?_eq_some_iff.1 h).1
 unfold midS
 rw [List.getElem?_append_right (by rw [List.length_map,List.length_take]; omega),List.length_map,List.length_take,Nat.min_eq_left (by omega),Nat.sub_self,List.getElem?_drop]
 exact h
theorem midS_len (K : List Int) (s : List Stp) (k : Nat) : (midS K s k).length=s.length:=by
 unfold midS; rw [List.length_append,List.length_map,List.length_take,List.length_drop]; omega
theorem midS_succ {K : List Int} {s : List Stp} {k : Nat} {x : Stp} (h : s[k]? = some x) : midS K s (k+1)=(midS K s k).set k (keepS K x):=by
 have hk:=(List.getElem?_eq_some_iff.1 h).1
 have hl : ((s.take k).map (keepS K)).length=k:=by rw [List.length_map,List.length_take]; omega
 unfold midS
 rw [take_succ_at h,List.map_append,Sx.drop_at h,List.set_append,hl,if_neg (by omega),Nat.sub_self]
 simp
theorem midS_same {K : List Int} {s : List Stp} {k : Nat} {x : Stp} (h : s[k]? = some x) (hx : keepS K x=x) : midS K s (k+1)=midS K s k:=by
 rw [midS_succ h,hx]
 apply List.ext_getElem?
 intro m
 rw [List.getElem?_set]
 split
 ·rename_i e
  subst e
  have:=midS_get (K:=K) h
  have hk:=(List.getElem?_eq_some_iff.1 this).1
  rw [if_pos hk,this]
 ·rfl
section
variable {o n : List Rw} {p b : List Int}
theorem ty_ok (h : chkP b.length o=0) (ho : ∀ r ∈ o,r.Ok) {x : Rw} (hx : x ∈ o) : 0≤x.t∧x.t < b.length:=by
 have h1:=(chkP_ok h).2.2.1 x hx
 have h2:=ho x hx
 exact ⟨h2.2.2.1,h1.2⟩
theorem vcOfx0_ok {M : Sx.Rows} (ho' : ∀ r ∈ o, r.Ok) (hn' : ∀ r ∈ n, r.Ok) (hb : ∀ x ∈ b, x < 9223372036854775808) (hr : rightB p b) (x1 : chkX b.length o = 0) (x2 : chkX b.length n = 0)
  (hM : ∀ x : Rw,(mgetR M [x.k,x.t] (.bool false)).toBool=decide (x ∈ n)) : vcOfx0 (o.map Rw.row) (n.map Rw.row) (p.map row) (b.map row) M:=by
 obtain ⟨ho,c1⟩:=chkX_ok x1
 obtain ⟨hn,c2⟩:=chkX_ok x2
 have nd1:=(chkP_ok c1).2.2.2
 have nd2:=(chkP_ok c2).2.2.2
 have he : ofErrX o n p b=0:=by rw [ofErrX_0 hr x1,x2]
 unfold vcOfx0 Nd
 rintro k _ _ A _ hi
 simp only [o4Inv,rws_map,nums_map,List.length_map] at hi
 obtain ⟨k0,k1,hA,t,f,l,rfl,rfl,rfl,hT,fl,ll,hall⟩:=hi
 simp only [List.length_map,Int.lt_irrefl,not_false_eq_true,true_and,true_implies,need_twice,need_known,implies_true,and_true]
 refine And.intro (fun hk => ?_) fun hk => ?_
 ·obtain ⟨x, hx⟩ := Sx.get_at (T := o) (i := k) k0 hk
  have e:=toNat_succ k0
  have hm : x ∈ o:=List.mem_of_getElem? hx
  obtain ⟨t0,t1⟩:=ty_ok c1 ho' hm
  have hnk:=nodup_take nd1 hx
  rw [Sx.drop_at hx,lvAll,← e] at hall
  simp only [cellAt_map hx,rw0,rw1,toInt_int,hM x,decide_eq_true_eq]
  have hA' : x ∉ n → ∀ y : Rw,y ∈ n→(mhasR A [y.k,y.t]=decide (y ∈ o.take (k+1).toNat))∧(y ∈ o.take (k+1).toNat→mgetR A [y.k,y.t] (.int 0) = .int (atR o y)):=fun hxn y hy=>by
   have hyx : y ≠ x:=fun c=>hxn (c ▸ hy)
   rw [e,take_succ_at hx]
   have : (y ∈ o.take k.toNat ++ [x]) ↔ y ∈ o.take k.toNat:=by simp [hyx]
   simp only [this]
   exact hA y hy
  refine And.intro (by omega) fun _=>And.intro hk fun _=>And.intro (fun hin => ?_) fun hin => ?_
  ·have inv : o4Inv [.lst (o.map Rw.row), .lst (n.map Rw.row), .lst (p.map row), .lst (b.map row), .lst M] [.int (k + 1), .lst (f.map row ++ chunk 1 1 [.int k]), .lst (t.map row), .lst (mputR A [x.k, x.t] (.int k)), .lst (l.map Lv.row)] := by
    simp only [o4Inv,rws_map,nums_map,List.length_map]
    refine ⟨by omega,by omega,fun y hy => ?_,t,f ++ [k],l,rfl,map_app_row f k,rfl,hT,by rw [List.length_append]; simp; omega,by omega, ?_⟩
    ·rw [mhas_mput [x.k,x.t] [y.k,y.t] rfl,mget_mput [x.k,x.t] [y.k,y.t] rfl,e,take_succ_at hx]
     by_cases hyx : y=x
     ·subst hyx
      refine ⟨by simp,fun _ => ?_⟩
      rw [if_pos rfl,atR_at hnk hx]; congr 1; omega
     ·have q : ¬ [y.k,y.t]=[x.k,x.t]:=fun c=>hyx (rw_key.1 c)
      obtain ⟨h1,h2⟩:=hA y hy
      rw [if_neg q,decide_eq_false q,h1]
      refine ⟨by simp [hyx],fun h=>h2 ?_⟩
      rcases List.mem_append.1 h with h | h
      ·exact h
      ·simp at h; exact absurd h hyx
    ·rw [← hall]; unfold lvStep; rw [if_pos hin]
   have mu : o4Mu [.lst (o.map Rw.row), .lst (n.map Rw.row), .lst (p.map row), .lst (b.map row), .lst M] [.int (k+1), .lst (f.map row ++ chunk 1 1 [.int k]), .lst (t.map row), .lst (mputR A [x.k,x.t] (.int k)), .lst (l.map Lv.row)] < o4Mu [.lst (o.map Rw.row), .lst (n.map Rw.row), .lst (p.map row), .lst (b.map row), .lst M] [.int k, .lst (f.map row), .lst (t.map row), .lst A, .lst (l.map Lv.row)]:=by
    simp only [o4Mu,List.length_map]; omega
   repeat' first
    | with_reducible exact inv
    | with_reducible exact mu
    | (with_reducible refine And.intro ?_ ?_)
    | intro _
    | omega
  ·obtain ⟨u, v, hu, hv, u0, u1⟩ := inB_get hT t0 t1
   have hvb:=hb v (List.mem_of_getElem? hv)
   have gu : t.getD x.t.toNat 0=u:=by rw [List.getD_eq_getElem?_getD,hu]; rfl
   have gv : b.getD x.t.toNat 0=v:=by rw [List.getD_eq_getElem?_getD,hv]; rfl
   have tl:=hT.1
   simp only [cellAt_map hu,cellAt_map hv,row0,toInt_int,setAt_row hu,map_app_lv]
   refine And.intro (by omega) fun _=>And.intro (by omega) fun _=>And.intro (by omega) fun _=>And.intro (by omega) fun _=>And.intro (fun hlt => ?_) fun hlt => ?_
   ·have inv : o4Inv [.lst (o.map Rw.row), .lst (n.map Rw.row), .lst (p.map row), .lst (b.map row), .lst M] [.int (k + 1), .lst (f.map row), .lst ((t.set x.t.toNat (u + 1)).map row), .lst A, .lst ((l ++ [(⟨k, !decide (u < v)⟩ : Lv)]).map Lv.row)] := by
     simp only [o4Inv,rws_map,nums_map,List.length_map]
     refine ⟨by omega,by omega,hA' hin,_,f,_,rfl,rfl,rfl,inB_set hT hv (by omega) (by omega),by omega,by rw [List.length_append]; simp; omega, ?_⟩
     rw [← hall]; unfold lvStep; rw [if_neg hin,gu,gv,if_pos hlt,decide_eq_true hlt]; rfl
    have mu : o4Mu [.lst (o.map Rw.row), .lst (n.map Rw.row), .lst (p.map row), .lst (b.map row), .lst M] [.int (k+1), .lst (f.map row), .lst ((t.set x.t.toNat (u+1)).map row), .lst A, .lst ((l ++ [(⟨k,!decide (u < v)⟩ : Lv)]).map Lv.row)] < o4Mu [.lst (o.map Rw.row), .lst (n.map Rw.row), .lst (p.map row), .lst (b.map row), .lst M] [.int k, .lst (f.map row), .lst (t.map row), .lst A, .lst (l.map Lv.row)]:=by
     simp only [o4Mu,List.length_map]; omega
    repeat' first
     | with_reducible exact inv
     | with_reducible exact mu
     | (with_reducible refine And.intro ?_ ?_)
     | intro _
     | omega
   ·have inv : o4Inv [.lst (o.map Rw.row), .lst (n.map Rw.row), .lst (p.map row), .lst (b.map row), .lst M] [.int (k + 1), .lst (f.map row), .lst (t.map row), .lst A, .lst ((l ++ [(⟨k, !decide (u < v)⟩ : Lv)]).map Lv.row)] := by
     simp only [o4Inv,rws_map,nums_map,List.length_map]
     refine ⟨by omega,by omega,hA' hin,_,f,_,rfl,rfl,rfl,hT,by omega,by rw [List.length_append]; simp; omega, ?_⟩
     rw [← hall]; unfold lvStep; rw [if_neg hin,gu,gv,if_neg hlt,decide_eq_false hlt]; rfl
    have mu : o4Mu [.lst (o.map Rw.row), .lst (n.map Rw.row), .lst (p.map row), .lst (b.map row), .lst M] [.int (k+1), .lst (f.map row), .lst (t.map row), .lst A, .lst ((l ++ [(⟨k,!decide (u < v)⟩ : Lv)]).map Lv.row)] < o4Mu [.lst (o.map Rw.row), .lst (n.map Rw.row), .lst (p.map row), .lst (b.map row), .lst M] [.int k, .lst (f.map row), .lst (t.map row), .lst A, .lst (l.map Lv.row)]:=by
     simp only [o4Mu,List.length_map]; omega
    repeat' first
     | with_reducible exact inv
     | with_reducible exact mu
     | (with_reducible refine And.intro ?_ ?_)
     | intro _
     | omega
 ·
  rw [List.drop_of_length_le (by omega),lvAll] at hall
  have hA2 : ∀ x : Rw,x ∈ n→(mhasR A [x.k,x.t]=decide (x ∈ o))∧(x ∈ o→mgetR A [x.k,x.t] (.int 0) = .int (atR o x)):=by
   rw [List.take_of_length_le (by omega)] at hA; exact hA
  clear hA
  have ht : (lvOut o n p b).th=t:=by rw [← hall]
  have hf : (lvOut o n p b).bf=f:=by rw [← hall]
  have hl : ofLeaves o n p b=l:=by unfold ofLeaves; rw [← hall]
  refine And.intro ?_ fun _ => ?_
  ·simp only [o6Inv,rws_map,nums_map,List.length_map]
   exact ⟨by omega,by omega,trivial,t,t,[],[],rfl,rfl,rfl,rfl,hT,by simp,by simp,rfl⟩
  rintro j _ _ _ _ hj
  simp only [o6Inv,rws_map,nums_map,List.length_map] at hj
  obtain ⟨j0,j1,rfl,tt,u,h,s,ett,rfl,rfl,rfl,hU,hh,hs,hst⟩:=hj
  have : tt=t:=(row_inj ett).symm
  subst this
  simp only [List.length_map,Int.lt_irrefl,not_false_eq_true,true_and,true_implies,need_twice,need_known,implies_true,and_true]
  refine And.intro (fun hjn => ?_) fun hjn => ?_
  ·obtain ⟨x, hx⟩ := Sx.get_at (T := n) (i := j) j0 hjn
   have e:=toNat_succ j0
   have hm : x ∈ n:=List.mem_of_getElem? hx
   obtain ⟨t0,t1⟩:=ty_ok c2 hn' hm
   obtain ⟨q1,q2⟩:=hA2 x hm
   rw [Sx.drop_at hx,stAll,← e] at hst
   obtain ⟨y,v,hy,hv,y0,y1⟩:=inB_get hU t0 t1
   have hvb:=hb v (List.mem_of_getElem? hv)
   have gy : u.getD x.t.toNat 0=y:=by rw [List.getD_eq_getElem?_getD,hy]; rfl
   have ul:=hU.1
   simp only [cellAt_map hx,rw0,rw1,toInt_int,q1,decide_eq_true_eq,cellAt_map hy,row0,setAt_row hy,map_app_row,map_app_st]
   refine And.intro (by omega) fun _=>And.intro hjn fun _=>And.intro (fun hin => ?_) fun hin => ?_
   ·simp only [q2 hin,toInt_int]
    have inv : o6Inv [.lst (o.map Rw.row), .lst (n.map Rw.row), .lst (b.map row), .lst A, .lst (l.map Lv.row), .lst (tt.map row)] [.int (j+1), .lst (u.map row), .lst ((h ++ [atR o x]).map row), .lst (l.map Lv.row), .lst ((s ++ [(⟨1,atR o x,true⟩ : Stp)]).map Stp.row)]:=by
     simp only [o6Inv,rws_map,nums_map,List.length_map]
     refine ⟨by omega,by omega,trivial,tt,u,_,_,rfl,rfl,rfl,rfl,hU,by rw [List.length_append]; simp; omega,by rw [List.length_append]; simp; omega, ?_⟩
     rw [← hst]; unfold stStep; rw [if_pos hin]
    have mu : o6Mu [.lst (o.map Rw.row), .lst (n.map Rw.row), .lst (b.map row), .lst A, .lst (l.map Lv.row), .lst (tt.map row)] [.int (j+1), .lst (u.map row), .lst ((h ++ [atR o x]).map row), .lst (l.map Lv.row), .lst ((s ++ [(⟨1,atR o x,true⟩ : Stp)]).map Stp.row)] < o6Mu [.lst (o.map Rw.row), .lst (n.map Rw.row), .lst (b.map row), .lst A, .lst (l.map Lv.row), .lst (tt.map row)] [.int j, .lst (u.map row), .lst (h.map row), .lst (l.map Lv.row), .lst (s.map Stp.row)]:=by
     simp only [o6Mu,List.length_map]; omega
    repeat' first
     | with_reducible exact inv
     | with_reducible exact mu
     | (with_reducible refine And.intro ?_ ?_)
     | intro _
     | omega
   ·refine And.intro (by omega) fun _ => And.intro (by omega) fun _ => And.intro (fun hlt => ?_) fun hlt => ?_
    ·have inv : o6Inv [.lst (o.map Rw.row), .lst (n.map Rw.row), .lst (b.map row), .lst A, .lst (l.map Lv.row), .lst (tt.map row)] [.int (j + 1), .lst ((u.set x.t.toNat (y + -1)).map row), .lst (h.map row), .lst (l.map Lv.row), .lst ((s ++ [(⟨2, -1, false⟩ : Stp)]).map Stp.row)] := by
      simp only [o6Inv,rws_map,nums_map,List.length_map]
      refine ⟨by omega,by omega,trivial,tt,_,_,_,rfl,rfl,rfl,rfl,inB_set hU hv (by omega) (by omega),by omega,by rw [List.length_append]; simp; omega, ?_⟩
      rw [← hst]; unfold stStep; rw [if_neg hin,gy,if_pos hlt]; rfl
     have mu : o6Mu [.lst (o.map Rw.row), .lst (n.map Rw.row), .lst (b.map row), .lst A, .lst (l.map Lv.row), .lst (tt.map row)] [.int (j+1), .lst ((u.set x.t.toNat (y + -1)).map row), .lst (h.map row), .lst (l.map Lv.row), .lst ((s ++ [(⟨2, -1,false⟩ : Stp)]).map Stp.row)] < o6Mu [.lst (o.map Rw.row), .lst (n.map Rw.row), .lst (b.map row), .lst A, .lst (l.map Lv.row), .lst (tt.map row)] [.int j, .lst (u.map row), .lst (h.map row), .lst (l.map Lv.row), .lst (s.map Stp.row)]:=by
      simp only [o6Mu,List.length_map]; omega
     repeat' first
      | with_reducible exact inv
      | with_reducible exact mu
      | (with_reducible refine And.intro ?_ ?_)
      | intro _
      | omega
    ·have inv : o6Inv [.lst (o.map Rw.row), .lst (n.map Rw.row), .lst (b.map row), .lst A, .lst (l.map Lv.row), .lst (tt.map row)] [.int (j + 1), .lst (u.map row), .lst (h.map row), .lst (l.map Lv.row), .lst ((s ++ [(⟨3, -1, false⟩ : Stp)]).map Stp.row)] := by
      simp only [o6Inv,rws_map,nums_map,List.length_map]
      refine ⟨by omega,by omega,trivial,tt,_,_,_,rfl,rfl,rfl,rfl,hU,by omega,by rw [List.length_append]; simp; omega, ?_⟩
      rw [← hst]; unfold stStep; rw [if_neg hin,gy,if_neg hlt]
     have mu : o6Mu [.lst (o.map Rw.row), .lst (n.map Rw.row), .lst (b.map row), .lst A, .lst (l.map Lv.row), .lst (tt.map row)] [.int (j+1), .lst (u.map row), .lst (h.map row), .lst (l.map Lv.row), .lst ((s ++ [(⟨3, -1,false⟩ : Stp)]).map Stp.row)] < o6Mu [.lst (o.map Rw.row), .lst (n.map Rw.row), .lst (b.map row), .lst A, .lst (l.map Lv.row), .lst (tt.map row)] [.int j, .lst (u.map row), .lst (h.map row), .lst (l.map Lv.row), .lst (s.map Stp.row)]:=by
      simp only [o6Mu,List.length_map]; omega
     repeat' first
      | with_reducible exact inv
      | with_reducible exact mu
      | (with_reducible refine And.intro ?_ ?_)
      | intro _
      | omega
  ·rw [List.drop_of_length_le (by omega), stAll] at hst
   have hso : stOut o n p b=⟨u,h,s⟩:=by unfold stOut; rw [ht,← hst]
   have hp0 : pairE f h=0:=by
    have:=pair_out (P:=p) (B:=b) nd1 nd2
    rw [hf,hso] at this; exact this
   have hK : kOut o n p b=keptL f h:=by unfold kOut; rw [hf,hso]
   have hkp : keptPre [.lst (f.map row), .lst (h.map row)]:=⟨⟨f,rfl,by omega⟩,⟨h,rfl,by omega⟩⟩
   have hS : ofSteps o n p b=s.map (keepS (keptL f h)):=by unfold ofSteps; rw [hK,hso]
   refine And.intro hkp fun _ => ?_
   simp only [keptRel,nums_map,hp0,if_true,forall_eq2]
   generalize hKK : keptL f h=K at hS
   have hKl : K.length≤4096:=by
    rw [← hKK]
    unfold keptL
    rw [List.length_map]
    have h1:=lis_len (ordOf f h)
    have h2:=maxF_le (ordOf f h)
    rw [ordOf_len] at h2
    omega
   refine And.intro (fun _ => ?_) fun hne=>absurd trivial hne
   refine And.intro ?_ fun _ => ?_
   ·simp only [o8Inv,stps_map,nums_map,List.length_map]
    exact ⟨by omega,by omega,trivial,by simp⟩
   rintro S i hi
   simp only [o8Inv,stps_map,nums_map,List.length_map] at hi
   obtain ⟨i0,i1,_,hSS⟩:=hi
   have hSS : S=(midS K s i.toNat).map Stp.row:=hSS
   subst hSS
   have hml:=midS_len K s i.toNat
   refine And.intro (fun his => ?_) fun his => ?_
   ·obtain ⟨x,hx⟩:=Sx.get_at (T:=s) (i:=i) i0 his
    have hmx:=midS_get (K:=K) hx
    have e:=toNat_succ i0
    have hidx : ∀ v,idxPre [.lst (K.map row), .int v]:=fun v=>⟨K,rfl,hKl⟩
    have mk : ∀ (l : List Stp),l=midS K s (i+1).toNat→o8Inv [.lst (s.map Stp.row), .lst (K.map row)] [.lst (l.map Stp.row), .int (i+1)]:=fun l hl=>by
     subst hl
     simp only [o8Inv,stps_map,nums_map,List.length_map,midS_len]
     exact ⟨by omega,by omega,trivial,rfl⟩
    have mu : ∀ (a b : Dat),o8Mu [.lst (s.map Stp.row), .lst (K.map row)] [a, .int (i+1)] < o8Mu [.lst (s.map Stp.row), .lst (K.map row)] [b, .int i]:=fun a b=>by
     simp only [o8Mu,List.length_map]; omega
    simp only [cellAt_map hmx,st0,st1,toInt_int,hidx,idxRel,nums_map,forall_eq,List.length_map,hml,true_and,true_implies]
    refine And.intro (by omega) fun _=>And.intro his fun _=>And.intro his fun _=>And.intro (fun hw => ?_) fun hw => ?_
    ·have same : ¬ x.o ∈ K→o8Inv [.lst (s.map Stp.row), .lst (K.map row)] [.lst ((midS K s i.toNat).map Stp.row), .int (i+1)]:=fun hk=>mk _ (by rw [e]; exact (midS_same hx (keepS_n fun c=>hk c.2)).symm)
     have other : x.o ∈ K→o8Inv [.lst (s.map Stp.row), .lst (K.map row)] [.lst (setAt ((midS K s i.toNat).map Stp.row) i 2 (.bool false)), .int (i+1)]:=fun hk=>by
      rw [setAt_map (y:=(⟨x.w,x.o,false⟩ : Stp)) hmx rfl]
      refine mk _ ?_
      rw [e,midS_succ hx,keepS_w hw hk]
     refine And.intro hw fun _=>And.intro (fun hlt => ?_) fun hlt => ?_
     ·have hk : ¬ x.o ∈ K:=fun c=>by have:=atI_nn.2 c; omega
      have inv:=same hk
      repeat' first
       | with_reducible exact inv
       | with_reducible exact mu _ _
       | (with_reducible refine And.intro ?_ ?_)
       | intro _
       | omega
     ·have hk : x.o ∈ K:=atI_nn.1 (by omega)
      have inv:=other hk
      repeat' first
       | with_reducible exact inv
       | with_reducible exact mu _ _
       | (with_reducible refine And.intro ?_ ?_)
       | intro _
       | omega
    ·have inv : o8Inv [.lst (s.map Stp.row), .lst (K.map row)] [.lst ((midS K s i.toNat).map Stp.row), .int (i+1)]:=mk _ (by rw [e]; exact (midS_same hx (keepS_n fun c=>hw c.1)).symm)
     repeat' first
      | with_reducible exact inv
      | with_reducible exact mu _ _
      | exact hw
      | (with_reducible refine And.intro ?_ ?_)
      | intro _
      | omega
   ·have hfin : midS K s i.toNat = ofSteps o n p b := by
     rw [hS]
     unfold midS
     rw [List.take_of_length_le (by omega),List.drop_of_length_le (by omega),List.append_nil]
    have hpart : Sx.part ((midS K s i.toNat).map Stp.row) 0 (s.length : Int)=(ofSteps o n p b).map Stp.row:=by
     rw [hfin,Sx.part_map]
     congr 1
     have : (ofSteps o n p b).length=s.length:=by rw [hS,List.length_map]
     simp [List.take_of_length_le (Nat.le_of_eq this)]
    rw [hpart]
    have hrel : ofxRel [.lst (o.map Rw.row), .lst (n.map Rw.row), .lst (p.map row), .lst (b.map row)] [.lst (l.map Lv.row), .lst ((ofSteps o n p b).map Stp.row), .int 0]:=by
     simp only [ofxRel,rws_map,nums_map,he,if_true,hl,and_self]
    repeat' first
     | with_reducible exact hrel
     | (with_reducible refine And.intro ?_ ?_)
     | intro _
     | (simp only [List.length_map,hml]; omega)
     | omega
end
theorem vcOfx_ok : vcOfx := by
 unfold vcOfx Nd
 rintro _ _ _ _ ⟨⟨o,rfl,ho'⟩,⟨n,rfl,hn'⟩,⟨p,rfl,hp⟩,⟨b,rfl,hbl⟩,hb⟩
 rw [nums_map] at hb
 have r1 : rightPre [.lst (p.map row), .lst (b.map row)]:=⟨⟨p,rfl,hp⟩,⟨b,rfl,hbl⟩⟩
 have rO : isRx (o.map Rw.row):=⟨o,rfl,ho'⟩
 have rN : isRx (n.map Rw.row):=⟨n,rfl,hn'⟩
 have c0 : ∀ L : Sx.Rows,isRx L→pcheckxPre [.lst L, .int ((b.map row).length : Int)]:=fun L h=>⟨h,by omega,by rw [List.length_map]; omega⟩
 simp only [r1,c0 _ rO,c0 _ rN,pcheckxRel,rightRel,forall_eq,true_and,true_implies,nums_map,rws_map]
 intro x4 hx4
 refine And.intro (fun h => ?_) fun h => ?_
 ·have hr : rightB p b := hx4.1 h
  simp only [List.length_map]
  refine And.intro (fun c1 => ?_) fun c1 => ?_
  ·refine And.intro (fun c2 => ?_) fun c2 => ?_
   ·have hn:=(chkX_ok c2).1
    simp only [o2Inv,o2Mu,rws_map,List.length_map,need_twice,need_known,implies_true,and_true,true_and,true_implies]
    refine And.intro ⟨by omega,by omega,fun x=>by simp [mgetR,Dat.toBool]⟩ fun _ k M ⟨k0,k1,hM⟩=>And.intro (fun hk => ?_) fun hk => ?_
    ·obtain ⟨x,hx⟩:=Sx.get_at (T:=n) (i:=k) k0 hk
     have e:=toNat_succ k0
     simp only [cellAt_map hx,rw0,rw1,toInt_int]
     have inv : ∀ y : Rw,(mgetR (mputR M [x.k,x.t] (.bool true)) [y.k,y.t] (.bool false)).toBool=decide (y ∈ n.take (k+1).toNat):=fun y=>by
      rw [mget_mput [x.k,x.t] [y.k,y.t] rfl,e,take_succ_at hx]
      by_cases hy : y=x
      ·rw [if_pos (by rw [hy]),hy]; simp [Dat.toBool]
      ·rw [if_neg (fun c=>hy (rw_key.1 c)),hM]; simp [hy]
     repeat' first
      | exact inv
      | (with_reducible refine And.intro ?_ ?_)
      | intro _
      | omega
    ·rw [List.take_of_length_le (by omega)] at hM
     have main:=vcOfx0_ok ho' hn' hb hr c1 c2 hM
     have ho:=(chkX_ok c1).1
     have hn:=(chkX_ok c2).1
     have start : ∀ T : Sx.Rows,T=p.map row→o4Inv [.lst (o.map Rw.row), .lst (n.map Rw.row), .lst (p.map row), .lst (b.map row), .lst M] [.int 0, .lst ([] : Sx.Rows), .lst T, .lst ([] : Sx.Rows), .lst ([] : Sx.Rows)]:=fun T hT=>by
      subst hT
      simp only [o4Inv,rws_map,nums_map,List.length_map]
      refine ⟨by omega,by omega,fun x _=>⟨by simp [mhasR],by simp⟩,p,[],[],rfl,rfl,rfl,⟨hr.2.2.1,fun i x y h1 h2=>hr.2.2.2 i x y h1 h2⟩,by simp,by simp,rfl⟩
     intro x9
     refine And.intro (fun _ hp0 => ?_) fun _=>And.intro (by omega) fun _=>And.intro (fun _ => ?_) fun _ => ?_
     ·have : p=[]:=List.eq_nil_of_length_eq_zero (by omega)
      exact And.intro (start _ (by rw [this]; rfl)) fun _=>main
     ·exact And.intro (by omega) fun _=>And.intro (start _ rfl) fun _=>main
     ·have ov : Sx.over (chunk 1 0 []) 0 (p.map row)=p.map row:=by simp [Sx.over,chunk]
      rw [ov]
      refine And.intro (by rw [List.length_map]; omega) fun _=>And.intro (start _ (part_row rfl)) fun _=>main
   ·have hrel : ofxRel [.lst (o.map Rw.row), .lst (n.map Rw.row), .lst (p.map row), .lst (b.map row)] [.lst ([] : Sx.Rows), .lst ([] : Sx.Rows), .int (chkX b.length n)] := by
     simp only [ofxRel,rws_map,nums_map,ofErrX_0 hr c1,if_neg c2,List.map_nil,and_self]
    exact And.intro hrel fun _=>trivial
  ·have he : ofErrX o n p b=chkX b.length o:=by unfold ofErrX; rw [if_pos hr,if_neg c1]
   have hrel : ofxRel [.lst (o.map Rw.row), .lst (n.map Rw.row), .lst (p.map row), .lst (b.map row)] [.lst ([] : Sx.Rows), .lst ([] : Sx.Rows), .int (chkX b.length o)]:=by
    simp only [ofxRel,rws_map,nums_map,he,if_neg c1,List.map_nil,and_self]
   exact And.intro hrel fun _=>trivial
 ·have hr : ¬ rightB p b:=fun c=>h (hx4.2 c)
  have he : ofErrX o n p b=1:=by unfold ofErrX; rw [if_neg hr]
  have hrel : ofxRel [.lst (o.map Rw.row), .lst (n.map Rw.row), .lst (p.map row), .lst (b.map row)] [.lst ([] : Sx.Rows), .lst ([] : Sx.Rows), .int 1]:=by
   simp only [ofxRel,rws_map,nums_map,he]
   simp
  exact And.intro hrel fun _=>trivial
end Go.C36
