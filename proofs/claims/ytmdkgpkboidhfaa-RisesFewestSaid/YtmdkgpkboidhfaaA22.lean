/- Chapter 08, moves: plain laws, and the conditions of Pair, the reference's Kept, Moves, the reference's Moves, of comparing steps.
  Conditions: none. -/
import Derived.Test.YtmdkgpkboidhfaaA21
set_option linter.unusedVariables false
set_option linter.unusedSimpArgs false
namespace Go.C08
open Go Go.Xe Go.Sx
theorem sps_map (l : List Sp) : sps (l.map Sp.row)=l:=by
 unfold sps; rw [List.map_map]; exact List.map_id' l
theorem sp0 (s : Sp) : (Sp.row s).getD 0 (.int 0) = .int s.w:=rfl
theorem sp1 (s : Sp) : (Sp.row s).getD 1 (.int 0) = .int s.a:=rfl
theorem map_app_sp (o : List Sp) (w a : Int) : o.map Sp.row ++ chunk 2 1 [.int w, .int a]=(o ++ [(⟨w,a⟩ : Sp)]).map Sp.row:=by rw [List.map_append]; rfl
theorem over_end (X Y : Sx.Rows) : Sx.over X X.length Y=X ++ Y:=by
 unfold Sx.over
 rw [Int.toNat_natCast,List.take_length,List.drop_of_length_le (by omega),List.append_nil]
theorem part_all (X : Sx.Rows) {n : Int} (h : n=X.length) : Sx.part X 0 n=X:=by
 unfold Sx.part
 subst h
 rw [Int.toNat_natCast]; simp
theorem atI_nn : ∀ {l : List Int} {x : Int},0≤atI l x ↔ x ∈ l
 | [],x=>by simp [atI]
 | y :: l,x=>by
  rw [atI_cons,List.mem_cons]
  by_cases e : y=x
  ·rw [if_pos e]; simp [e]
  ·have ih:=atI_nn (l:=l) (x:=x)
   rw [if_neg e]
   split
   ·rename_i h
    constructor
    ·intro c; omega
    ·rintro (c | c)
     ·exact absurd c.symm e
     ·exact absurd (ih.2 c) (by omega)
   ·rename_i h
    constructor
    ·intro _; exact .inr (ih.1 (by omega))
    ·intro _; omega
theorem vl_asc {l : List Int} : ∀ {o : List Int} {last : Option Int} {k : Int},Vl l last k o→o.Pairwise (· < ·) ∧ ∀ a ∈ o,k≤a∧0≤a∧a < l.length
 | [],last,k,_=>⟨List.Pairwise.nil,fun a h=>by simp at h⟩
 | a :: o,last,k,h=>by
  obtain ⟨h1,h2,x,h3,_,h4⟩:=h
  obtain ⟨k1,k2⟩:=vl_asc h4
  have h5:=(List.getElem?_eq_some_iff.1 h3).1
  refine ⟨List.Pairwise.cons (fun b hb=>by have:=(k2 b hb).1; omega) k1,fun b hb => ?_⟩
  rcases List.mem_cons.1 hb with rfl | hb
  ·exact ⟨h1,h2,by omega⟩
  ·have:=k2 b hb
   exact ⟨by omega,this.2⟩
theorem asc_ge : ∀ {K : List Int} {k : Int} {i : Nat} {a : Int},K.Pairwise (· < ·)→(∀ a ∈ K,k≤a)→K[i]? = some a→k+i≤a
 | [],k,i,a,_,_,h=>by simp at h
 | b :: K,k,0,a,hp,hk,h=>by
  have:=hk a (by simp at h; simp [h])
  omega
 | b :: K,k,i+1,a,hp,hk,h=>by
  obtain ⟨p1,p2⟩:=List.pairwise_cons.1 hp
  have hb:=hk b (by simp)
  have:=asc_ge (k:=k+1) (i:=i) (a:=a) p2 (fun c hc=>by have:=p1 c hc; omega) (by simpa using h)
  omega
theorem count_split (j : Int) (n : Nat) : ∀ (K : List Int),K.Pairwise (· < ·)→K.countP (fun a=>decide (j≤a∧a < j+(n+1 : Nat)))=K.countP (fun a=>decide (j+1≤a∧a < j+1+(n : Nat)))+if j ∈ K then 1 else 0
 | [],_=>rfl
 | b :: K,hp=>by
  obtain ⟨p1,p2⟩:=List.pairwise_cons.1 hp
  have ih:=count_split j n K p2
  rw [List.countP_cons,List.countP_cons,ih]
  by_cases e : j=b
  ·subst e
   have hn : j ∉ K:=fun c=>by have:=p1 j c; omega
   have c1 : j≤j∧j < j+((n+1 : Nat) : Int):=by omega
   have c2 : ¬ (j+1≤j∧j < j+1+(n : Int)):=by omega
   rw [decide_eq_true c1,decide_eq_false c2,if_neg hn]
   simp
  ·have hm : (j ∈ b :: K) ↔ j ∈ K:=by simp [e]
   have hd : (j≤b∧b < j+(n+1 : Nat)) ↔ (j+1≤b∧b < j+1+(n : Nat)):=by
    constructor <;> intro h <;> omega
   simp only [hm,hd]
   omega
theorem mvF_len {K : List Int} (hp : K.Pairwise (· < ·)) : ∀ (l : List Int) (j : Int),(mvF K j l).length+K.countP (fun a=>decide (j≤a∧a < j+l.length))=l.length
 | [],j=>by
  have : K.countP (fun a=>decide (j≤a∧a < j+(([] : List Int).length : Int)))=0:=List.countP_eq_zero.2 fun a _=>by simp
  rw [this]; rfl
 | x :: l,j=>by
  have ih:=mvF_len hp l (j+1)
  have hs:=count_split j l.length K hp
  rw [List.length_cons,hs,mvF,List.length_append]
  split <;> simp_all <;> omega
theorem mvF_full {K N : List Int} (hp : K.Pairwise (· < ·)) (hr : ∀ a ∈ K,0≤a∧a < N.length) : (mvF K 0 N).length+K.length=N.length:=by
 have:=mvF_len hp N 0
 rw [List.countP_eq_length.2 fun a ha=>by have:=hr a ha; simp; omega] at this
 exact this
theorem pair_0 {l m : List Int} (h : pairE l m=0) : chk l=0∧chk m=0∧l.length=m.length ∧ ∀ x ∈ m,x ∈ l:=by
 unfold pairE at h
 split at h
 ·rename_i h1
  split at h
  ·rename_i h2
   split at h
   ·rename_i h3; exact ⟨h1,h2,h3⟩
   ·omega
  ·rename_i h2; exact absurd h h2
 ·rename_i h1; exact absurd h h1
theorem lis_ok (l m : List Int) : (lis (ordOf l m)).Pairwise (· < ·) ∧ ∀ a ∈ lis (ordOf l m),0≤a∧a < m.length:=by
 obtain ⟨h1,h2⟩:=vl_asc (lis_vl (ordOf l m))
 rw [ordOf_len] at h2
 exact ⟨h1,fun a ha=>(h2 a ha).2⟩
theorem lis_le (l m : List Int) : (lis (ordOf l m)).length≤m.length:=by
 obtain ⟨h1,h2⟩:=lis_ok l m
 have:=mvF_full h1 h2
 omega
theorem mv_same {l m : List Int} (h : pairE l m=0) : mvV (keptL l m) m=movesL l m:=by
 obtain ⟨_,hm,_,_⟩:=pair_0 h
 obtain ⟨_,hr⟩:=lis_ok l m
 unfold movesL keptL
 generalize lis (ordOf l m)=K at hr
 have key : ∀ (c j : Nat),m.length - j=c→mvV (K.map fun k=>m.getD k.toNat 0) (m.drop j)=mvF K j (m.drop j):=by
  intro c
  induction c with
  | zero=>intro j hc; rw [List.drop_of_length_le (by omega)]; rfl
  | succ c ih =>
   intro j hc
   obtain ⟨x,hx⟩ : ∃ x,m[j]? = some x:=⟨_,List.getElem?_eq_getElem (by omega)⟩
   rw [Sx.drop_at hx,mvV,mvF,ih (j+1) (by omega)]
   have hmem : (x ∈ K.map fun k=>m.getD k.toNat 0) ↔ ((j : Int) ∈ K):=by
    rw [List.mem_map]
    constructor
    ·rintro ⟨k,hk,e⟩
     have hk' := hr k hk
     have hg : m[k.toNat]? = some x:=by
      rw [← e,List.getD_eq_getElem?_getD,List.getElem?_eq_getElem (by omega)]; rfl
     have : k.toNat=j:=by
      rcases Nat.lt_trichotomy k.toNat j with h | h | h
      ·exact absurd (List.mem_of_getElem? (i:=k.toNat) (by rw [List.getElem?_take,if_pos h]; exact hg)) (chkF_nodup hm hx).2
      ·exact h
      ·exact absurd (List.mem_of_getElem? (i:=j) (by rw [List.getElem?_take,if_pos h]; exact hx)) (chkF_nodup hm hg).2
     rw [show (j : Int)=k by omega]; exact hk
    ·intro hk
     exact ⟨j,hk,by rw [Int.toNat_natCast,List.getD_eq_getElem?_getD,hx]; rfl⟩
   simp only [hmem]
   rfl
 exact key m.length 0 (by omega)
theorem vcRkept_ok : vcRkept:=by
 unfold vcRkept Nd
 rintro _ _ ⟨⟨l,rfl,hl⟩,⟨m,rfl,hm⟩,hp⟩
 have hL : isN (l.map row):=⟨l,rfl,hl⟩
 simp only [rk0Inv,rk0Mu,rk2Inv,rk2Mu,paMu,ratPre,ratRel,hL,nums_map,List.length_map,forall_eq,Int.lt_irrefl,not_false_eq_true,need_twice,need_known,implies_true,and_true,true_and,true_implies]
 refine And.intro ⟨by omega,by omega,by simp [ordOf]⟩ fun _ k O ⟨k0,k1,hO⟩ => ?_
 subst hO
 simp only [ordOf_len,List.length_map]
 refine And.intro (fun hk => ?_) fun hk => ?_
 ·obtain ⟨x,hx⟩:=Sx.get_at (T:=m) (i:=k) k0 hk
  have e:=toNat_succ k0
  have e2 : (ordOf l (m.take k.toNat)).map row ++ chunk 1 1 [.int (atI l x)]=(ordOf l (m.take (k+1).toNat)).map row:=by
   rw [map_app_row,e,take_succ_at hx]
   congr 1
   unfold ordOf
   rw [List.map_append]; rfl
  have tl : (m.take k.toNat).length≤m.length:=by rw [List.length_take]; omega
  simp only [cellAt_map hx,row0,toInt_int,e2]
  repeat' first
   | with_reducible rfl
   | with_reducible trivial
   | (with_reducible refine And.intro ?_ ?_)
   | intro _
   | omega
 ·rw [List.take_of_length_le (by omega)]
  have hQ : isN ((ordOf l m).map row):=⟨_,rfl,by rw [ordOf_len]; exact hm⟩
  obtain ⟨g1,g2⟩:=lis_ok l m
  have g3:=lis_le l m
  simp only [rlongPre,onePre,rlongRel,rkeptRel,hQ,nums_map,forall_eq,List.length_map,keptL,need_twice,need_known,implies_true,and_true,true_and,true_implies]
  generalize lis (ordOf l m)=g at *
  refine And.intro ⟨by omega,by omega,by simp⟩ fun _ j O ⟨j0,j1,hO⟩ => ?_
  subst hO
  refine And.intro (fun hj => ?_) fun hj => ?_
  ·obtain ⟨a,ha⟩:=Sx.get_at (T:=g) (i:=j) j0 hj
   have hr:=g2 a (List.mem_of_getElem? ha)
   obtain ⟨y,hy⟩:=Sx.get_at (T:=m) (i:=a) hr.1 hr.2
   have e:=toNat_succ j0
   have e2 : ((g.take j.toNat).map fun k=>m.getD k.toNat 0).map row ++ chunk 1 1 [.int y]=((g.take (j+1).toNat).map fun k=>m.getD k.toNat 0).map row:=by
    have : m.getD a.toNat 0=y:=by rw [List.getD_eq_getElem?_getD,hy]; rfl
    rw [map_app_row,e,take_succ_at ha]
    congr 1
    rw [List.map_append]
    simp only [List.map_cons,List.map_nil,this]
   have tl : (g.take j.toNat).length≤g.length:=by rw [List.length_take]; omega
   simp only [cellAt_map ha,cellAt_map hy,row0,toInt_int,e2,List.length_map]
   repeat' first
    | with_reducible rfl
    | with_reducible trivial
    | (with_reducible refine And.intro ?_ ?_)
    | intro _
    | omega
  ·rw [List.take_of_length_le (by omega)]
theorem vcSteps_ok : vcSteps:=by
 unfold vcSteps Nd
 rintro _ e _ f ⟨⟨l,rfl⟩,⟨m,rfl,hm⟩⟩
 simp only [seqInv,seqMu,paMu,stepsRel,sps_map,List.length_map,eq_self,not_true_eq_false,false_implies,need_twice,need_known,implies_true,and_true,true_and,true_implies]
 have no : ∀ {P : Prop} [Decidable P],¬ P→false=decide P:=fun h=>(decide_eq_false h).symm
 refine And.intro (fun h1 => ?_) fun h1 => ?_
 ·subst h1
  simp only [true_and,true_implies,eq_self,need_twice,need_known]
  refine And.intro (fun h2 => ?_) fun h2 => ?_
  ·refine And.intro ⟨by omega,by omega,by omega,by simp⟩ fun _ k ⟨k0,k1,k2,ht⟩ => ?_
   refine And.intro (fun hk => ?_) fun hk => ?_
   ·obtain ⟨x,hx⟩:=Sx.get_at (T:=l) (i:=k) k0 (by omega)
    obtain ⟨y,hy⟩:=Sx.get_at (T:=m) (i:=k) k0 hk
    have ek:=toNat_succ k0
    have ne : x ≠ y → ¬ (l=m):=fun h c=>h (by subst c; rw [hx] at hy; exact Option.some.inj hy)
    simp only [cellAt_map hx,cellAt_map hy,sp0,sp1,toInt_int]
    have n0 : ¬ k < 0:=by omega
    have n1 : k < l.length:=by omega
    simp only [n0,n1,hk,not_false_eq_true,true_and,true_implies]
    refine And.intro (fun hw => ?_) fun hw => ?_
    ·have hw' : x.w=y.w:=hw
     simp only [hw',eq_self,true_and,true_implies]
     refine And.intro (fun ha => ?_) fun ha => ?_
     ·have hxy : x=y:=by cases x; cases y; simp_all
      have ht' : l.take (k+1).toNat=m.take (k+1).toNat:=by rw [ek,take_succ_at hx,take_succ_at hy,ht,hxy]
      repeat' first
       | with_reducible exact ht'
       | (with_reducible refine And.intro ?_ ?_)
       | intro _
       | omega
     ·exact no (ne fun c=>ha (by rw [c]))
    ·have q:=no (ne fun c=>hw (by rw [c]))
     repeat' first
      | with_reducible exact q
      | with_reducible exact hw
      | (with_reducible refine And.intro ?_ ?_)
      | intro _
   ·rw [List.take_of_length_le (by omega),List.take_of_length_le (by omega)] at ht
    exact (decide_eq_true ht).symm
  ·have q:=no fun c : l=m=>h2 (by rw [c])
   repeat' first
    | with_reducible exact q
    | with_reducible exact h2
    | (with_reducible refine And.intro ?_ ?_)
    | intro _
 ·have q:=no fun c : e=f∧l=m=>h1 c.1
  repeat' first
   | with_reducible exact q
   | with_reducible exact h1
   | (with_reducible refine And.intro ?_ ?_)
   | intro _
end Go.C08
