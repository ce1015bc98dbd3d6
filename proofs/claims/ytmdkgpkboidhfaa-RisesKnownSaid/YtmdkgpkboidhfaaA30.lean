/- Chapter 08, plain laws: what moves do to an order; no fewer do.
  Conditions: none. -/
import Derived.Test.YtmdkgpkboidhfaaA29
set_option linter.unusedVariables false
set_option linter.unusedSimpArgs false
namespace Go.C08
open Go Go.Xe Go.Sx
theorem chk_ok {l : List Int} (h : chk l=0) : l.Nodup ∧ ∀ x ∈ l,0≤x:=by
 have key : ∀ (l s : List Int),chkF s l=0→l.Nodup∧(∀ x ∈ l,0≤x) ∧ ∀ x ∈ l,x ∉ s:=by
  intro l
  induction l with
  | nil=>intro s _; simp
  | cons y l ih =>
   intro s h
   rw [chkF_cons] at h
   split at h
   ·omega
   ·split at h
    ·omega
    ·rename_i h1 h2
     obtain ⟨i1,i2,i3⟩:=ih _ h
     refine ⟨List.nodup_cons.2 ⟨fun hy=>i3 y hy (by simp),i1⟩,fun x hx => ?_,fun x hx => ?_⟩
     ·rcases List.mem_cons.1 hx with rfl | hx
      ·omega
      ·exact i2 x hx
     ·rcases List.mem_cons.1 hx with rfl | hx
      ·exact h2
      ·exact fun hs=>i3 x hx (List.mem_append_left _ hs)
 exact ⟨(key l [] h).1,(key l [] h).2.1⟩
theorem perm_at {m : List Int} {k : Nat} {x : Int} : (m.take k ++ x :: m.drop k).Perm (x :: m):=by
 have:=List.perm_middle (a:=x) (l₁:=m.take k) (l₂:=m.drop k)
 rwa [List.take_append_drop] at this
theorem stepL_perm {l : List Int} {s : Sp} (h : s.w ∈ l) : (stepL l s).Perm l:=perm_at.trans (List.perm_cons_erase h).symm
theorem stepE_0 {l : List Int} {s : Sp} : stepE l s=0 ↔ s.w ∈ l∧(s.a = -1 ∨ s.a ∈ l)∧s.w ≠ s.a:=by
 unfold stepE
 constructor
 ·intro h
  split at h
  ·omega
  ·rename_i h1
   split at h
   ·omega
   ·rename_i h2
    refine ⟨Classical.byContradiction fun c=>h1 (.inl c), ?_,h2⟩
    by_cases c : s.a = -1
    ·exact .inl c
    ·exact .inr (Classical.byContradiction fun d=>h1 (.inr ⟨c,d⟩))
 ·rintro ⟨h1,h2,h3⟩
  rw [if_neg,if_neg h3]
  rintro (c | ⟨c,d⟩)
  ·exact c h1
  ·exact h2.elim c d
theorem carL_app : ∀ (a b : List Sp) (l l' : List Int),carL l a=(l',0)→carL l (a ++ b)=carL l' b
 | [],b,l,l',h=>by
  simp only [carL,Prod.mk.injEq] at h
  rw [List.nil_append,h.1]
 | s :: a,b,l,l',h=>by
  simp only [carL] at h
  split at h
  ·rename_i h0
   rw [List.cons_append,carL,if_pos h0]
   exact carL_app a b _ l' h
  ·rename_i h0
   simp only [Prod.mk.injEq] at h
   exact absurd h.2 h0
theorem carL_perm : ∀ {ss : List Sp} {l l' : List Int},carL l ss=(l',0)→l'.Perm l
 | [],l,l',h=>by
  simp only [carL,Prod.mk.injEq] at h
  rw [h.1]
 | s :: ss,l,l',h=>by
  simp only [carL] at h
  split at h
  ·rename_i h0
   exact (carL_perm h).trans (stepL_perm (stepE_0.1 h0).1)
  ·rename_i h0
   simp only [Prod.mk.injEq] at h
   exact absurd h.2 h0
theorem split_once : ∀ {X A Y B : List Int} {a : Int},a ∉ X→a ∉ A→X ++ a :: Y=A ++ a :: B→X=A∧Y=B
 | [],[],Y,B,a,_,_,h=>by simpa using h
 | [],c :: A,Y,B,a,_,hA,h=>by
  simp only [List.nil_append,List.cons_append,List.cons.injEq] at h
  exact absurd (by rw [h.1]; simp) hA
 | c :: X,[],Y,B,a,hX,_,h=>by
  simp only [List.nil_append,List.cons_append,List.cons.injEq] at h
  exact absurd (by rw [h.1]; simp) hX
 | c :: X,d :: A,Y,B,a,hX,hA,h=>by
  simp only [List.cons_append,List.cons.injEq] at h
  obtain ⟨e1,e2⟩:=split_once (fun m=>hX (by simp [m])) (fun m=>hA (by simp [m])) h.2
  exact ⟨by rw [h.1,e1],e2⟩
theorem filter_erase {p : Int→Bool} {x : Int} (hx : p x=false) : ∀ l : List Int,(l.erase x).filter p=l.filter p
 | []=>rfl
 | y :: l=>by
  rw [List.erase_cons]
  by_cases e : y=x
  ·subst e
   simp [hx]
  ·rw [if_neg (by simpa using e)]
   simp only [List.filter_cons]
   rw [filter_erase hx l]
theorem idx_split {m : List Int} {a : Int} (h : a ∈ m) : m.drop (m.idxOf a) = a :: m.drop (m.idxOf a + 1) ∧ a ∉ m.take (m.idxOf a) := by
 induction m with
 | nil=>simp at h
 | cons y m ih =>
  by_cases e : y=a
  ·subst e; simp [List.idxOf_cons]
  ·have hm : a ∈ m := by
    rcases List.mem_cons.1 h with h | h
    ·exact absurd h.symm e
    ·exact h
   obtain ⟨h1,h2⟩:=ih hm
   have hi : (y :: m).idxOf a=m.idxOf a+1:=by rw [List.idxOf_cons,show (y == a)=false by simpa using e]; rfl
   rw [hi]
   refine ⟨by simpa using h1, ?_⟩
   rw [List.take_succ_cons,List.mem_cons]
   rintro (h | h)
   ·exact e h.symm
   ·exact h2 h
theorem step_filt {l A D : List Int} {S : List Int} {x : Int} (hl : l.Nodup) (hxl : x ∈ l) (hx0 : 0 ≤ x) (hxS : x ∉ S) (hxD : x ∉ D) (hA : ∀ a ∈ D, a ∉ A) (hD : ∀ a ∈ D, a ∈ l) (h0 : ∀ a ∈ l, 0 ≤ a) (hf : (l.filter fun y => decide (y ∈ S ∨ y ∈ D)) = A ++ D) :
  stepE l ⟨x,hdN D⟩=0∧((stepL l ⟨x,hdN D⟩).filter fun y=>decide (y ∈ S ∨ y ∈ x :: D))=A ++ x :: D:=by
 have hxe : x ∉ l.erase x:=fun h=>(List.Nodup.mem_erase_iff hl).1 h |>.1 rfl
 have hfe : ((l.erase x).filter fun y=>decide (y ∈ S ∨ y ∈ D))=A ++ D:=by
  rw [filter_erase (by simp [hxS,hxD])]; exact hf
 have hq : ∀ L : List Int,x ∉ L→(L.filter fun y=>decide (y ∈ S ∨ y ∈ x :: D))=L.filter fun y=>decide (y ∈ S ∨ y ∈ D):=by
  intro L hL
  refine List.filter_congr fun y hy => ?_
  have : y ≠ x:=fun e=>hL (e ▸ hy)
  simp [this]
 have hins : ∀ k,(((l.erase x).take k ++ x :: (l.erase x).drop k).filter fun y=>decide (y ∈ S ∨ y ∈ x :: D))=((l.erase x).take k).filter (fun y=>decide (y ∈ S ∨ y ∈ D)) ++ x :: ((l.erase x).drop k).filter fun y=>decide (y ∈ S ∨ y ∈ D):=by
  intro k
  rw [List.filter_append,List.filter_cons,if_pos (by simp),hq _ (fun h=>hxe (List.mem_of_mem_take h)),hq _ (fun h=>hxe (List.mem_of_mem_drop h))]
 cases D with
 | nil =>
  refine ⟨stepE_0.2 ⟨hxl, .inl rfl,by show x ≠ -1; omega⟩, ?_⟩
  show (((l.erase x).take (l.erase x).length ++ x :: (l.erase x).drop (l.erase x).length).filter _)=_
  rw [hins,List.take_length,List.drop_length,hfe]
  simp
 | cons a D =>
  have ha : a ∈ l:=hD a (by simp)
  have hxa : x ≠ a:=fun e=>hxD (by simp [e])
  have hane : a ≠ -1:=by have:=h0 a ha; omega
  refine ⟨stepE_0.2 ⟨hxl, .inr ha,hxa⟩, ?_⟩
  have hae : a ∈ l.erase x:=(List.Nodup.mem_erase_iff hl).2 ⟨Ne.symm hxa,ha⟩
  obtain ⟨h1,h2⟩:=idx_split hae
  have hk : stepL l ⟨x,hdN (a :: D)⟩=(l.erase x).take ((l.erase x).idxOf a) ++ x :: (l.erase x).drop ((l.erase x).idxOf a):=by
   show (l.erase x).take (if a = -1 then _ else _) ++ x :: (l.erase x).drop (if a = -1 then _ else _)=_
   rw [if_neg hane]
   rfl
  rw [hk,hins]
  have e:=hfe
  rw [← List.take_append_drop ((l.erase x).idxOf a) (l.erase x),List.filter_append,h1,List.filter_cons,if_pos (by simp)] at e
  obtain ⟨e1,e2⟩:=split_once (fun h=>h2 (List.mem_filter.1 h).1) (hA a (by simp)) e
  rw [h1,List.filter_cons,if_pos (by simp),e1,e2]
theorem car_mv {old now S : List Int} (hO : old.Nodup) (hN : now.Nodup) (hm : ∀ x, x ∈ now ↔ x ∈ old) (h0 : ∀ x ∈ old, 0 ≤ x) (hS : (old.filter fun y => decide (y ∈ S)) = now.filter fun y => decide (y ∈ S)) :
  ∀ (suf pre : List Int),now=pre ++ suf → ∃ l,carL old (mvV S suf)=(l,0)∧(l.filter fun y=>decide (y ∈ S ∨ y ∈ suf))=(pre.filter fun y=>decide (y ∈ S)) ++ suf
 | [],pre,h=>by
  rw [List.append_nil] at h
  subst h
  exact ⟨old,rfl,by simpa using hS⟩
 | x :: suf,pre,h=>by
  obtain ⟨l,h1,h2⟩:=car_mv hO hN hm h0 hS suf (pre ++ [x]) (by rw [h,List.append_assoc]; rfl)
  have hp:=carL_perm h1
  have hl : l.Nodup:=hp.symm.nodup hO
  have hxn : x ∈ now:=by rw [h]; simp
  have hnd : (pre ++ x :: suf).Nodup:=h ▸ hN
  obtain ⟨n1,n2,n3⟩:=List.nodup_append.1 hnd
  obtain ⟨n4,n5⟩:=List.nodup_cons.1 n2
  rw [mvV]
  by_cases hx : x ∈ S
  ·rw [if_pos hx,List.append_nil]
   refine ⟨l,h1, ?_⟩
   rw [List.filter_append,List.filter_cons,if_pos (by simpa using hx)] at h2
   have : (fun y=>decide (y ∈ S ∨ y ∈ x :: suf))=fun y=>decide (y ∈ S ∨ y ∈ suf):=by
    funext y
    by_cases e : y=x
    ·subst e; simp [hx]
    ·simp [e]
   rw [this,h2]
   simp
  ·rw [if_neg hx,carL_app _ _ _ _ h1]
   rw [List.filter_append,List.filter_cons,if_neg (by simpa using hx),List.filter_nil,List.append_nil] at h2
   obtain ⟨g1,g2⟩:=step_filt (A:=pre.filter fun y=>decide (y ∈ S)) hl (hp.mem_iff.2 ((hm x).1 hxn)) (h0 x ((hm x).1 hxn)) hx n4 (fun a ha hc=>n3 a (List.mem_filter.1 hc).1 a (by simp [ha]) rfl)
    (fun a ha=>hp.mem_iff.2 ((hm a).1 (by rw [h]; simp [ha]))) (fun a ha=>h0 a (hp.mem_iff.1 ha)) h2
   exact ⟨_,by simp only [carL,if_pos g1],g2⟩
theorem sub_drop {l : List Int} : ∀ (ps : List Nat) (k : Nat),(∀ p ∈ ps,k≤p)→ps.Pairwise (· < ·)→(∀ p ∈ ps,p < l.length)→(ps.map fun p=>l.getD p 0).Sublist (l.drop k)
 | [],k,_,_,_=>List.nil_sublist _
 | p :: ps,k,h1,h2,h3=>by
  obtain ⟨g1,g2⟩:=List.pairwise_cons.1 h2
  have hp:=h3 p (by simp)
  have hk:=h1 p (by simp)
  have ih:=sub_drop ps (p+1) (fun q hq=>g1 q hq) g2 (fun q hq=>h3 q (by simp [hq]))
  have : l.drop p=l.getD p 0 :: l.drop (p+1):=by
   rw [List.getD_eq_getElem?_getD,List.getElem?_eq_getElem hp]
   exact List.drop_eq_getElem_cons hp
  refine List.Sublist.trans ?_ (List.drop_sublist_drop_left l hk)
  rw [this,List.map_cons]
  exact ih.cons_cons _
theorem filter_sub : ∀ {S N : List Int},S.Sublist N→N.Nodup→(N.filter fun y=>decide (y ∈ S))=S:=by
 intro S N h
 induction h with
 | slnil=>intro _; rfl
 | cons a h ih =>
  rename_i S N
  intro hn
  obtain ⟨n1,n2⟩:=List.nodup_cons.1 hn
  have : a ∉ S:=fun c=>n1 (h.subset c)
  rw [List.filter_cons,if_neg (by simpa using this)]
  exact ih n2
 | cons_cons a h ih =>
  rename_i S N
  intro hn
  obtain ⟨n1,n2⟩:=List.nodup_cons.1 hn
  rw [List.filter_cons,if_pos (by simp)]
  have : (N.filter fun y=>decide (y ∈ a :: S))=N.filter fun y=>decide (y ∈ S):=by
   refine List.filter_congr fun y hy => ?_
   have : y ≠ a:=fun e=>n1 (e ▸ hy)
   simp [this]
  rw [this,ih n2]
theorem vl_vals {l : List Int} : ∀ {o : List Int} {last : Option Int} {k : Int},Vl l last k o→(o.map fun a=>l.getD a.toNat 0).Pairwise (· < ·) ∧ ∀ y,last=some y → ∀ z ∈ o.map fun a=>l.getD a.toNat 0,y < z
 | [],last,k,_=>⟨List.Pairwise.nil,fun _ _ z hz=>by simp at hz⟩
 | a :: o,last,k,h=>by
  obtain ⟨h1,h2,x,h3,h4,h5⟩:=h
  obtain ⟨i1,i2⟩:=vl_vals h5
  have hx : l.getD a.toNat 0=x:=by rw [List.getD_eq_getElem?_getD,h3]; rfl
  refine ⟨?_,fun y hy z hz => ?_⟩
  ·rw [List.map_cons,hx]
   exact List.pairwise_cons.2 ⟨fun z hz=>i2 x rfl z hz,i1⟩
  ·rw [List.map_cons,hx,List.mem_cons] at hz
   have:=h4 y hy
   rcases hz with rfl | hz
   ·exact this
   ·have:=i2 x rfl z hz; omega
theorem atI_get {l : List Int} {x : Int} (h : x ∈ l) : l.getD (atI l x).toNat 0=x∧0≤atI l x∧atI l x < l.length:=by
 induction l with
 | nil=>simp at h
 | cons y l ih =>
  rw [atI_cons]
  by_cases e : y=x
  ·rw [if_pos e]; simp [e]
  ·rw [if_neg e]
   have hm : x ∈ l:=by
    rcases List.mem_cons.1 h with h | h
    ·exact absurd h.symm e
    ·exact h
   obtain ⟨h1,h2,h3⟩:=ih hm
   rw [if_neg (by omega)]
   refine ⟨?_,by omega,by simp; omega⟩
   rw [show (atI l x+1).toNat=(atI l x).toNat+1 by omega]
   simpa using h1
theorem keptL_sub {l m : List Int} (hs : ∀ x ∈ m, x ∈ l) : (keptL l m).Sublist m ∧ (keptL l m).Sublist l := by
 obtain ⟨k1,k2⟩:=lis_ok l m
 have hv:=lis_vl (ordOf l m)
 obtain ⟨v1,_⟩:=vl_vals hv
 unfold keptL
 generalize lis (ordOf l m)=K at *
 constructor
 ·have := sub_drop (l := m) (K.map Int.toNat) 0 (fun _ _ => Nat.zero_le _) (by
   rw [List.pairwise_map]
   refine List.Pairwise.imp_of_mem ?_ k1
   intro a b ha hb hab
   have:=k2 a ha
   omega) (fun p hp=>by
   obtain ⟨a,ha,rfl⟩:=List.mem_map.1 hp
   have:=k2 a ha
   omega)
  rw [List.map_map] at this
  exact this
 ·have hg : ∀ a ∈ K, ∃ y, m[a.toNat]? = some y ∧ (ordOf l m).getD a.toNat 0 = atI l y := by
   intro a ha
   have:=k2 a ha
   refine ⟨m[a.toNat]'(by omega),List.getElem?_eq_getElem (by omega), ?_⟩
   unfold ordOf
   rw [List.getD_eq_getElem?_getD,List.getElem?_map,List.getElem?_eq_getElem (by omega)]
   rfl
  have:=sub_drop (l:=l) (K.map fun a=>((ordOf l m).getD a.toNat 0).toNat) 0 (fun _ _=>Nat.zero_le _) (by
   rw [List.pairwise_map]
   rw [List.pairwise_map] at v1
   refine List.Pairwise.imp_of_mem ?_ v1
   intro a b ha hb hab
   obtain ⟨y,hy,e⟩:=hg a ha
   have:=(atI_get (hs y (List.mem_of_getElem? hy))).2.1
   omega) (fun p hp=>by
   obtain ⟨a,ha,rfl⟩:=List.mem_map.1 hp
   obtain ⟨y,hy,e⟩:=hg a ha
   have:=(atI_get (hs y (List.mem_of_getElem? hy))).2
   omega)
  rw [List.map_map,List.drop_zero] at this
  have e : (K.map ((fun p=>l.getD p 0) ∘ fun a=>((ordOf l m).getD a.toNat 0).toNat))=K.map fun k=>m.getD k.toNat 0:=by
   refine List.map_congr_left fun a ha => ?_
   obtain ⟨y,hy,e⟩:=hg a ha
   show l.getD ((ordOf l m).getD a.toNat 0).toNat 0=_
   rw [e,(atI_get (hs y (List.mem_of_getElem? hy))).1,List.getD_eq_getElem?_getD,hy]
   rfl
  rwa [e] at this
theorem perm_of_sub : ∀ {m l : List Int},m.Nodup→(∀ x ∈ m,x ∈ l)→l.length=m.length→m.Perm l
 | [],l,_,_,h=>by rw [List.eq_nil_of_length_eq_zero h]
 | x :: m,l,hn,hs,h=>by
  obtain ⟨n1,n2⟩:=List.nodup_cons.1 hn
  have hx:=hs x (by simp)
  have ih:=perm_of_sub (l:=l.erase x) n2 (fun y hy=>(List.mem_erase_of_ne (fun e : y=x=>n1 (e ▸ hy))).2 (hs y (by simp [hy]))) (by rw [List.length_erase,if_pos hx,h]; rfl)
  exact (ih.cons x).trans (List.perm_cons_erase hx).symm
theorem pair_mem {l m : List Int} (h : pairE l m=0) : l.Nodup∧m.Nodup∧(∀ x,x ∈ m ↔ x ∈ l) ∧ ∀ x ∈ l,0≤x:=by
 obtain ⟨h1,h2,h3,h4⟩:=pair_0 h
 obtain ⟨c1,c2⟩:=chk_ok h1
 obtain ⟨c3,_⟩:=chk_ok h2
 have hp : m.Perm l:=perm_of_sub c3 h4 h3
 exact ⟨c1,c3,fun x=>hp.mem_iff,c2⟩
theorem carry_moves {l m : List Int} (h : pairE l m=0) (hl : l.length≤4096) : carryL l (movesL l m)=(m,0):=by
 obtain ⟨h1,h2,h3,h4⟩:=pair_mem h
 obtain ⟨p1,_,p3,_⟩:=pair_0 h
 obtain ⟨k1,k2⟩:=keptL_sub (l:=l) (m:=m) (fun x hx=>(h3 x).1 hx)
 obtain ⟨l',q1,q2⟩:=car_mv (S:=keptL l m) h1 h2 h3 h4 (by rw [filter_sub k2 h1,filter_sub k1 h2]) m [] rfl
 have hp:=carL_perm q1
 have hf : (l'.filter fun y=>decide (y ∈ keptL l m ∨ y ∈ m))=l' := by
  rw [List.filter_eq_self]
  intro y hy
  have : y ∈ m:=(h3 y).2 (hp.mem_iff.1 hy)
  simp [this]
 rw [hf] at q2
 simp only [List.filter_nil,List.nil_append] at q2
 subst q2
 have hmv : (movesL l l').length≤4096:=by
  have e1:=mvF_full (lis_ok l l').1 (lis_ok l l').2
  unfold movesL
  omega
 unfold carryL
 rw [if_neg (by omega),if_neg (by omega),← mv_same h]
 exact q1
end Go.C08
