/- Chapter 36, plans: plain facts.
  Conditions: none. -/
import Derived.Test.YtpdcecfnlccicaaP15
set_option linter.unusedVariables false
set_option linter.unusedSimpArgs false
namespace Go.C36
open Go Go.Xe Go.Sx
theorem rw_key {x y : Rw} : [x.k,x.t]=[y.k,y.t] ↔ x=y:=by
 cases x; cases y
 simp
theorem atR_cons (y : Rw) (l : List Rw) (x : Rw) : atR (y :: l) x=if y=x then 0 else (if atR l x < 0 then -1 else atR l x+1):=rfl
theorem atR_at : ∀ {l : List Rw} {k : Nat} {x : Rw},x ∉ l.take k→l[k]? = some x→atR l x=k
 | y :: l,0,x,h,hk=>by cases hk; rw [atR_cons,if_pos rfl]; rfl
 | y :: l,k+1,x,h,hk=>by
  have ih:=atR_at (l:=l) (k:=k) (x:=x) (fun h' => h (by simp [h'])) hk
  rw [atR_cons,if_neg (fun e=>h (by simp [e])),ih,if_neg (by omega)]; omega
 | [],k,x,h,hk=>by simp at hk
theorem atR_get : ∀ {l : List Rw} {x : Rw},x ∈ l→0≤atR l x∧l[(atR l x).toNat]? = some x
 | y :: l,x,h=>by
  rw [atR_cons]
  by_cases e : y=x
  ·rw [if_pos e,e]; exact ⟨Int.le_refl 0,rfl⟩
  ·rw [if_neg e]
   have hm : x ∈ l:=by
    rcases List.mem_cons.1 h with h | h
    ·exact absurd h.symm e
    ·exact h
   obtain ⟨h1,h2⟩:=atR_get hm
   rw [if_neg (by omega),toNat_succ h1]
   exact ⟨by omega,by simpa using h2⟩
theorem atR_inj {l : List Rw} {x y : Rw} (hx : x ∈ l) (hy : y ∈ l) (h : atR l x=atR l y) : x=y:=by
 have h1:=(atR_get hx).2
 have h2:=(atR_get hy).2
 rw [h,h2] at h1
 exact (Option.some.inj h1).symm
theorem nodup_take {α : Type} {l : List α} {k : Nat} {x : α} (h : l.Nodup) (hk : l[k]? = some x) : x ∉ l.take k:=by
 intro hm
 have e:=List.take_append_drop k l
 rw [← e,Sx.drop_at hk,List.nodup_append] at h
 exact h.2.2 x hm x (by simp) rfl
theorem chkR_ok : ∀ {l : List Rw} {n : Int} {s : List Int},chkR n s l=0→(∀ x ∈ l,x.k ≠ 0∧x.t < n∧x.k ∉ s)∧l.Nodup
 | [],n,s,_=>⟨fun x h=>by simp at h,List.nodup_nil⟩
 | y :: l,n,s,h=>by
  rw [chkR_cons] at h
  split at h
  ·omega
  ·split at h
   ·omega
   ·split at h
    ·omega
    ·rename_i h1 h2 h3
     obtain ⟨k1,k2⟩:=chkR_ok h
     refine ⟨fun x hx => ?_,List.nodup_cons.2 ⟨fun hm=>(k1 y hm).2.2 (by simp),k2⟩⟩
     rcases List.mem_cons.1 hx with rfl | hx
     ·exact ⟨h1,by omega,h3⟩
     ·exact ⟨(k1 x hx).1,(k1 x hx).2.1,fun c=>(k1 x hx).2.2 (by simp [c])⟩
theorem chkP_ok {l : List Rw} {n : Int} (h : chkP n l=0) : 1≤n∧n≤8∧(∀ x ∈ l,x.k ≠ 0∧x.t < n)∧l.Nodup:=by
 unfold chkP at h
 split at h
 ·omega
 ·obtain ⟨h1,h2⟩:=chkR_ok h
  exact ⟨by omega,by omega,fun x hx=>⟨(h1 x hx).1,(h1 x hx).2.1⟩,h2⟩
theorem lvAll_bf {N : List Rw} {B : List Int} {O : List Rw} (hO : O.Nodup) : ∀ (c k : Nat) (s : LS),O.length - k=c→(lvAll N B k (O.drop k) s).bf=s.bf ++ ((O.drop k).filter (fun x=>decide (x ∈ N))).map (atR O)
 | 0,k,s,hc=>by
  rw [List.drop_of_length_le (by omega)]
  simp [lvAll]
 | c+1,k,s,hc=>by
  obtain ⟨x,hx⟩ : ∃ x,O[k]? = some x:=⟨_,List.getElem?_eq_getElem (by omega)⟩
  rw [Sx.drop_at hx,lvAll,show ((k : Int)+1)=((k+1 : Nat) : Int) by omega,lvAll_bf hO c (k+1) _ (by omega)]
  unfold lvStep
  by_cases hm : x ∈ N
  ·rw [if_pos hm,List.filter_cons_of_pos (by simp [hm]),List.map_cons,atR_at (nodup_take hO hx) hx,List.append_assoc]; rfl
  ·rw [if_neg hm,List.filter_cons_of_neg (by simp [hm])]
   split <;> rfl
theorem lvOut_bf {O N : List Rw} {P B : List Int} (hO : O.Nodup) : (lvOut O N P B).bf=(O.filter (fun x=>decide (x ∈ N))).map (atR O):=by
 have:=lvAll_bf (N:=N) (B:=B) hO O.length 0 ⟨P,[],[]⟩ (by omega)
 simpa [lvOut] using this
theorem stAll_bh {O : List Rw} : ∀ (l : List Rw) (s : TS),(stAll O l s).bh=s.bh ++ (l.filter (fun x=>decide (x ∈ O))).map (atR O)
 | [],s=>by simp [stAll]
 | x :: l,s=>by
  rw [stAll,stAll_bh l]
  unfold stStep
  by_cases hm : x ∈ O
  ·rw [if_pos hm,List.filter_cons_of_pos (by simp [hm]),List.map_cons,List.append_assoc]; rfl
  ·rw [if_neg hm,List.filter_cons_of_neg (by simp [hm])]
   split <;> rfl
theorem stOut_bh {O N : List Rw} {P B : List Int} : (stOut O N P B).bh=(N.filter (fun x=>decide (x ∈ O))).map (atR O):=by
 unfold stOut
 rw [stAll_bh]; rfl
theorem both_perm {O N : List Rw} (hO : O.Nodup) (hN : N.Nodup) : (O.filter (fun x=>decide (x ∈ N))).Perm (N.filter (fun x=>decide (x ∈ O))):=by
 refine (List.perm_ext_iff_of_nodup (List.Pairwise.filter _ hO) (List.Pairwise.filter _ hN)).2 fun x => ?_
 simp only [List.mem_filter,decide_eq_true_eq]
 exact And.comm
theorem chkF_zero : ∀ {l s : List Int},(∀ x ∈ l,0≤x∧x ∉ s)→l.Nodup→chkF s l=0
 | [],s,_,_=>rfl
 | x :: l,s,h,hn=>by
  rw [List.nodup_cons] at hn
  have h1:=h x (by simp)
  rw [chkF_cons,if_neg (by omega),if_neg h1.2]
  refine chkF_zero (fun y hy=>⟨(h y (by simp [hy])).1,fun c => ?_⟩) hn.2
  rcases List.mem_append.1 c with c | c
  ·exact (h y (by simp [hy])).2 c
  ·simp only [List.mem_singleton] at c
   subst c; exact hn.1 hy
theorem nodup_atR {O F : List Rw} (hF : F.Nodup) (hs : ∀ x ∈ F,x ∈ O) : (F.map (atR O)).Nodup:=by
 unfold List.Nodup
 rw [List.pairwise_map]
 exact List.Pairwise.imp_of_mem (fun {a b} ha hb hab h=>hab (atR_inj (hs a ha) (hs b hb) h)) hF
theorem pair_zero {O F G : List Rw} (hF : F.Nodup) (hp : F.Perm G) (hs : ∀ x ∈ F,x ∈ O) : pairE (F.map (atR O)) (G.map (atR O))=0:=by
 have hG : G.Nodup:=hp.nodup_iff.1 hF
 have hs' : ∀ x ∈ G,x ∈ O:=fun x hx=>hs x (hp.mem_iff.2 hx)
 have nn : ∀ {F : List Rw},(∀ x ∈ F,x ∈ O) → ∀ x ∈ F.map (atR O),0≤x∧x ∉ ([] : List Int):=fun h x hx=>by
  obtain ⟨r,hr,rfl⟩:=List.mem_map.1 hx
  exact ⟨(atR_get (h r hr)).1,by simp⟩
 have c1 : chk (F.map (atR O))=0:=chkF_zero (nn hs) (nodup_atR hF hs)
 have c2 : chk (G.map (atR O))=0:=chkF_zero (nn hs') (nodup_atR hG hs')
 unfold pairE
 rw [if_pos c1,if_pos c2,if_pos]
 refine ⟨by rw [List.length_map,List.length_map,hp.length_eq],fun x hx => ?_⟩
 obtain ⟨r,hr,rfl⟩:=List.mem_map.1 hx
 exact List.mem_map.2 ⟨r,hp.mem_iff.2 hr,rfl⟩
theorem pair_out {O N : List Rw} {P B : List Int} (hO : O.Nodup) (hN : N.Nodup) : pairE (lvOut O N P B).bf (stOut O N P B).bh=0:=by
 rw [lvOut_bf hO,stOut_bh]
 exact pair_zero (List.Pairwise.filter _ hO) (both_perm hO hN) fun x hx=>(List.mem_filter.1 hx).1
theorem atI_nn : ∀ {l : List Int} {x : Int},0≤atI l x ↔ x ∈ l
 | [],x=>by simp [atI]
 | y :: l,x=>by
  rw [atI_cons,List.mem_cons]
  by_cases e : y=x
  ·rw [if_pos e]; simp [e]
  ·have ih:=atI_nn (l:=l) (x:=x)
   rw [if_neg e]
   split
   ·rename_i h
    constructor
    ·intro c; omega
    ·rintro (c | c)
     ·exact absurd c.symm e
     ·exact absurd (ih.2 c) (by omega)
   ·rename_i h
    constructor
    ·intro _; exact .inr (ih.1 (by omega))
    ·intro _; omega
theorem setAt_map {α : Type} {f : α→List Dat} {l : List α} {i : Int} {j : Nat} {x y : α} {d : Dat} (hx : l[i.toNat]? = some x) (h : (f x).set j d=f y) : setAt (l.map f) i j d=(l.set i.toNat y).map f:=by
 unfold setAt
 rw [List.map_set]
 apply List.ext_getElem?
 intro m
 rw [List.getElem?_modify,List.getElem?_map,List.getElem?_set]
 by_cases e : i.toNat=m
 ·subst e
  have hlt:=(List.getElem?_eq_some_iff.1 hx).1
  rw [hx]
  simp [h,hlt]
 ·simp [e]
theorem setAt_row {l : List Int} {i : Int} {x y : Int} (hx : l[i.toNat]? = some x) : setAt (l.map row) i 0 (.int y)=(l.set i.toNat y).map row:=setAt_map hx rfl
theorem inB_get {t b : List Int} (h : inB t b) {i : Int} (h0 : 0≤i) (h1 : i < b.length) : ∃ x y,t[i.toNat]? = some x∧b[i.toNat]? = some y∧0≤x∧x≤y:=by
 obtain ⟨hl,hb⟩:=h
 have a1 : t[i.toNat]? = some t[i.toNat]:=List.getElem?_eq_getElem (by omega)
 have a2 : b[i.toNat]? = some b[i.toNat]:=List.getElem?_eq_getElem (by omega)
 obtain ⟨b1,b2⟩:=hb _ _ _ a1 a2
 exact ⟨_,_,a1,a2,b1,b2⟩
theorem inB_set {t b : List Int} (h : inB t b) {i : Nat} {y v : Int} (hb : b[i]? = some y) (h0 : 0≤v) (h1 : v≤y) : inB (t.set i v) b:=by
 refine ⟨by rw [List.length_set]; exact h.1,fun j x z hj hz => ?_⟩
 rw [List.getElem?_set] at hj
 split at hj
 ·rename_i e
  subst e
  split at hj
  ·simp only [Option.some.injEq] at hj
   subst hj
   rw [hb] at hz
   simp only [Option.some.injEq] at hz
   subst hz
   exact ⟨h0,h1⟩
  ·cases hj
 ·exact h.2 j x z hj hz
theorem lvs_map (l : List Lv) : lvs (l.map Lv.row)=l:=by
 unfold lvs; rw [List.map_map]; exact List.map_id' l
theorem vcIdx_ok : vcIdx := by
 unfold vcIdx Nd
 rintro _ v ⟨l,rfl,hl⟩
 simp only [idxRel,idInv,idMu,List.length_map,nums_map,need_twice,need_known,implies_true,and_true,true_and,true_implies]
 refine And.intro ⟨by omega,by omega,by simp⟩ fun _ k ⟨k0,k1,hn⟩=>And.intro (fun hk => ?_) fun hk => ?_
 ·obtain ⟨x, hx⟩ := Sx.get_at (T := l) (i := k) k0 hk
  have e:=toNat_succ k0
  simp only [cellAt_map hx,row0,toInt_int]
  refine And.intro (by omega) fun _=>And.intro (by omega) fun _=>And.intro (fun h => ?_) fun h => ?_
  ·subst h
   rw [atI_at hn hx]; omega
  ·have q : v ∉ l.take (k + 1).toNat := by
    rw [e,take_succ_at hx]
    simp [hn,h]
   repeat' first
    | exact q
    | (with_reducible refine And.intro ?_ ?_)
    | intro _
    | omega
 ·rw [List.take_of_length_le (by omega)] at hn
  exact (atI_no hn).symm
end Go.C36
