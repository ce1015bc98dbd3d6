/- Chapter 36, PlansKnown: what the plans are.
  Conditions: none. -/
import Derived.Test.YtpdcecfnlccicaaK3
set_option linter.unusedVariables false
set_option linter.unusedSimpArgs false
namespace Go.C36
open Go Go.Xe Go.Sx
theorem chkR_zero : ∀ {l : List Rw} {s : List Int} {n : Int},(∀ x ∈ l,x.k ≠ 0∧x.t < n∧x.k ∉ s)→(l.map Rw.k).Nodup→chkR n s l=0
 | [],s,n,_,_=>rfl
 | x :: l,s,n,h,hd=>by
  obtain ⟨h1,h2,h3⟩:=h x (by simp)
  rw [List.map_cons,List.nodup_cons] at hd
  rw [chkR_cons,if_neg h1,if_neg (by omega),if_neg h3]
  refine chkR_zero (fun y hy => ?_) hd.2
  obtain ⟨k1,k2,k3⟩:=h y (by simp [hy])
  refine ⟨k1,k2,fun c => ?_⟩
  rcases List.mem_append.1 c with c | c
  ·exact k3 c
  ·simp only [List.mem_singleton] at c
   exact hd.1 (by rw [← c]; exact List.mem_map.2 ⟨y,hy,rfl⟩)
def mkW (t : Int) (l : List Int) : List Rw:=l.map fun k=>⟨k,t⟩
theorem mkW_mem {t : Int} {l : List Int} {x : Rw} : x ∈ mkW t l ↔ x.k ∈ l∧x.t=t:=by
 unfold mkW
 rw [List.mem_map]
 constructor
 ·rintro ⟨k,h,rfl⟩; exact ⟨h,rfl⟩
 ·rintro ⟨h,rfl⟩; exact ⟨x.k,h,rfl⟩
theorem mkW_keys (t : Int) (l : List Int) : (mkW t l).map Rw.k=l:=by
 unfold mkW; rw [List.map_map]; exact List.map_id' l
theorem mkW_len (t : Int) (l : List Int) : (mkW t l).length=l.length:=List.length_map _
theorem mkW_chk {t n : Int} {l : List Int} (h1 : 1≤n∧n≤8) (ht : t < n) (hd : l.Nodup) (h0 : ∀ x ∈ l,x ≠ 0) (hl : l.length≤1024) : chkX n (mkW t l)=0:=by
 unfold chkX
 rw [if_neg (by omega),if_neg (by rw [mkW_len]; omega)]
 refine chkR_zero (fun x hx => ?_) (by rw [mkW_keys]; exact hd)
 obtain ⟨k1,k2⟩:=mkW_mem.1 hx
 exact ⟨h0 _ k1,by omega,by simp⟩
theorem mkW_atR (t : Int) : ∀ (a k : Int) (n : Nat),a≤k→k < a+n→atR (mkW t (asc a n)) ⟨k,t⟩=k - a
 | a,k,0,h1,h2=>by omega
 | a,k,n+1,h1,h2=>by
  have e : mkW t (asc a (n+1))=⟨a,t⟩ :: mkW t (asc (a+1) n):=rfl
  rw [e,atR_cons]
  by_cases h : a=k
  ·rw [if_pos (by rw [h])]; omega
  ·rw [if_neg (fun c=>h (Rw.mk.inj c).1),mkW_atR t (a+1) k n (by omega) (by omega),if_neg (by omega)]; omega
theorem asc_atI : ∀ (a k : Int) (n : Nat),a≤k→k < a+n→atI (asc a n) k=k - a
 | a,k,0,h1,h2=>by omega
 | a,k,n+1,h1,h2=>by
  rw [asc,atI_cons]
  by_cases h : a=k
  ·rw [if_pos h]; omega
  ·rw [if_neg h,asc_atI (a+1) k n (by omega) (by omega),if_neg (by omega)]; omega
theorem upW_mk (n : Nat) : upW n=mkW 0 (asc 1 n):=rfl
theorem dnW_mk (n : Nat) : dnW n=mkW 0 (dwn 1024 n):=rfl
theorem chW_mk (n : Nat) : chW n=mkW 1 (asc 1 n):=rfl
theorem lvAll_all {N : List Rw} {B : List Int} : ∀ (O : List Rw) (i : Int) (s : LS),(∀ x ∈ O,x ∈ N)→lvAll N B i O s = { s with bf:=s.bf ++ asc i O.length }
 | [],i,s,_=>by simp [lvAll,asc]
 | x :: O,i,s,h=>by
  rw [lvAll,lvAll_all O (i+1) _ fun y hy=>h y (by simp [hy])]
  unfold lvStep
  rw [if_pos (h x (by simp))]
  simp only [List.length_cons,asc,List.append_assoc,List.singleton_append]
theorem stAll_all {O : List Rw} : ∀ (N : List Rw) (s : TS),(∀ x ∈ N,x ∈ O)→stAll O N s=⟨s.th,s.bh ++ N.map (atR O),s.st ++ (N.map (atR O)).map fun o=>(⟨1,o,true⟩ : Stp)⟩
 | [],s,_=>by simp [stAll]
 | x :: N,s,h=>by
  rw [stAll,stAll_all N _ fun y hy=>h y (by simp [hy])]
  unfold stStep
  rw [if_pos (h x (by simp))]
  simp only [List.map_cons,List.append_assoc,List.singleton_append]
theorem dwn_cons (c : Int) (n : Nat) : dwn c (n+1)=c :: dwn (c - 1) n:=rfl
theorem map_sub1 (f : Int→Int) (l : List Int) (h : ∀ k ∈ l,f k=k - 1) : l.map f=l.map (fun k=>k - 1):=List.map_congr_left h
theorem mkW_map (t : Int) (l : List Int) (f : Rw→Int) : (mkW t l).map f=l.map fun k=>f ⟨k,t⟩:=List.map_map
theorem turned_gen {U D : List Rw} {A W V : List Int} (P B : List Int) (h1 : ∀ x ∈ U, x ∈ D) (h2 : ∀ x ∈ D, x ∈ U) (hat : D.map (atR U) = W) (hA : asc 0 U.length = A) (ho : ordOf A W = W) (hl : lis W = [0]) (hd : W = 1023 :: V) (hV : ∀ o ∈ V, o ≤ 1022) :
  ofLeaves U D P B=[]∧ofSteps U D P B=(⟨1,1023,false⟩ : Stp) :: V.map fun o=>(⟨1,o,true⟩ : Stp):=by
 have g1 : lvOut U D P B=⟨P,[],A⟩:=by
  unfold lvOut
  rw [lvAll_all _ _ _ h1,hA]
  simp only [List.nil_append]
 have g2 : stOut U D P B=⟨P,W,W.map fun o=>(⟨1,o,true⟩ : Stp)⟩:=by
  unfold stOut
  rw [g1,stAll_all _ _ h2,hat]
  simp only [List.nil_append]
 have hk : kOut U D P B=[1023]:=by
  unfold kOut keptL
  rw [g1,g2]
  simp only
  rw [ho,hl,hd,List.map_cons,List.map_nil]
  simp only [Int.toNat_zero,List.getD_cons_zero]
 refine ⟨by unfold ofLeaves; rw [g1], ?_⟩
 unfold ofSteps
 rw [g2,hk]
 simp only
 have e1 : keepS [1023] ⟨1,1023,true⟩=⟨1,1023,false⟩:=keepS_w rfl (by simp)
 have e2 : (V.map fun o=>(⟨1,o,true⟩ : Stp)).map (keepS [1023])=V.map fun o=>(⟨1,o,true⟩ : Stp):=by
  rw [List.map_map]
  refine List.map_congr_left fun o ho => ?_
  have:=hV o ho
  exact keepS_n fun c=>by have:=c.2; simp at this; omega
 rw [hd,List.map_cons,List.map_cons,e1,e2]
theorem up_dn : ∀ x ∈ upW 1024,x ∈ dnW 1024:=fun x hx=>by
 rw [upW_mk,mkW_mem] at hx
 rw [dnW_mk,mkW_mem]
 have:=asc_mem.1 hx.1
 exact ⟨dwn_in.2 (by omega),hx.2⟩
theorem dn_up : ∀ x ∈ dnW 1024,x ∈ upW 1024:=fun x hx=>by
 rw [dnW_mk,mkW_mem] at hx
 rw [upW_mk,mkW_mem]
 have:=dwn_in.1 hx.1
 exact ⟨asc_mem.2 (by omega),hx.2⟩
theorem at_gen (n : Nat) (c : Int) (hc : c=n) : (mkW 0 (dwn c n)).map (atR (mkW 0 (asc 1 n)))=dwn (c - 1) n:=by
 rw [mkW_map,← dwn_sub c 1 n]
 refine map_sub1 _ _ fun k hk => ?_
 have:=dwn_in.1 hk
 exact mkW_atR 0 1 k n (by omega) (by omega)
theorem ord_gen (n : Nat) (c : Int) (hc : c+1=n) : ordOf (asc 0 n) (dwn c n)=dwn c n:=by
 unfold ordOf
 have : (dwn c n).map (atI (asc 0 n))=(dwn c n).map (fun k=>k):=List.map_congr_left fun k hk=>by
  have:=dwn_in.1 hk
  rw [asc_atI 0 k n (by omega) (by omega),Int.sub_zero]
 rw [this,List.map_id']
theorem lis_gen {n m : Nat} (c : Int) (h : n=m+1) : lis (dwn c n)=[0]:=by rw [h]; exact lis_dwn c m
theorem dwn_gen {n m : Nat} {c d : Int} (h : n=m+1) (h2 : c - 1=d) : dwn c n=c :: dwn d m:=by rw [h,dwn_cons,h2]
theorem up_len (n : Nat) : (upW n).length=n:=by rw [upW_mk,mkW_len,asc_len]
theorem sub_gen {n : Nat} {c d : Int} (h : c - 1=d) : dwn (c - 1) n=dwn d n:=by rw [h]
theorem turned_of (P B : List Int) : ofLeaves (upW 1024) (dnW 1024) P B=[]∧ofSteps (upW 1024) (dnW 1024) P B=(⟨1,1023,false⟩ : Stp) :: (dwn 1022 1023).map fun o=>(⟨1,o,true⟩ : Stp) :=
 turned_gen (A:=asc 0 1024) (W:=dwn 1023 1024) P B up_dn dn_up ((at_gen 1024 1024 (by omega)).trans (sub_gen (by omega))) (by rw [up_len]) (ord_gen 1024 1023 (by omega)) (lis_gen 1023 (m:=1023) (by omega)) (dwn_gen (m:=1023) (by omega) (by omega)) fun o h=>(dwn_in.1 h).2
theorem turned_many : many isStay ((⟨1,1023,false⟩ : Stp) :: (dwn 1022 1023).map fun o=>(⟨1,o,true⟩ : Stp))=1024∧many isMove ((⟨1,1023,false⟩ : Stp) :: (dwn 1022 1023).map fun o=>(⟨1,o,true⟩ : Stp))=1023:=by
 have hl : ((dwn 1022 1023).map fun o=>(⟨1,o,true⟩ : Stp)).length=1023:=by rw [List.length_map,dwn_len]
 constructor
 ·unfold many
  rw [List.countP_cons,List.countP_eq_length.2 (fun s hs=>by obtain ⟨o,_,rfl⟩:=List.mem_map.1 hs; rfl),hl]
  rfl
 ·unfold many
  rw [List.countP_cons,List.countP_eq_length.2 (fun s hs=>by obtain ⟨o,_,rfl⟩:=List.mem_map.1 hs; rfl),hl]
  rfl
theorem lv_none {N : List Rw} : ∀ (O : List Rw) (i a : Int) (l : List Lv) (f : List Int), (∀ x ∈ O, x ∉ N ∧ x.t = 0) → a ≤ 105 →
  ∃ l',lvAll N [105,7] i O ⟨[a,7],l,f⟩=⟨[min 105 (a+O.length),7],l',f⟩∧l'.length=l.length+O.length∧drops l' = drops l+max 0 (a+O.length - 105)
 | [],i,a,l,f,_,ha=>⟨l,by rw [lvAll,List.length_nil]; congr 2; omega,rfl,by rw [List.length_nil]; omega⟩
 | x :: O, i, a, l, f, h, ha => by
  obtain ⟨h1,h2⟩:=h x (by simp)
  rw [lvAll]
  have et : x.t.toNat=0:=by rw [h2]; rfl
  by_cases hr : a < 105
  ·have e : lvStep N [105, 7] ⟨[a, 7], l, f⟩ i x = ⟨[a + 1, 7], l ++ [⟨i, false⟩], f⟩ := by
    unfold lvStep
    rw [if_neg h1,et,if_pos (show ([a,7] : List Int).getD 0 0 < ([105,7] : List Int).getD 0 0 from hr)]
    rfl
   obtain ⟨l',e1,e2,e3⟩:=lv_none O (i+1) (a+1) (l ++ [⟨i,false⟩]) f (fun y hy=>h y (by simp [hy])) (by omega)
   refine ⟨l',by rw [e,e1,List.length_cons]; congr 2; omega,by rw [e2]; simp only [List.length_append,List.length_cons,List.length_nil]; omega, ?_⟩
   rw [e3,drops_snoc,if_neg (by simp),List.length_cons]; omega
  ·have e : lvStep N [105, 7] ⟨[a, 7], l, f⟩ i x = ⟨[a, 7], l ++ [⟨i, true⟩], f⟩ := by
    unfold lvStep
    rw [if_neg h1,et,if_neg (show ¬ ([a,7] : List Int).getD 0 0 < ([105,7] : List Int).getD 0 0 from hr)]
   obtain ⟨l',e1,e2,e3⟩:=lv_none O (i+1) a (l ++ [⟨i,true⟩]) f (fun y hy=>h y (by simp [hy])) ha
   refine ⟨l',by rw [e,e1,List.length_cons]; congr 2; omega,by rw [e2]; simp only [List.length_append,List.length_cons,List.length_nil]; omega, ?_⟩
   rw [e3,drops_snoc,if_pos rfl,List.length_cons]; omega
theorem st_none {O : List Rw} : ∀ (N : List Rw) (d c : Int) (h : List Int) (s : List Stp), (∀ x ∈ N, x ∉ O ∧ x.t = 1) → 0 ≤ c →
  ∃ s',(stAll O N ⟨[d,c],h,s⟩).st=s' ∧ s'.length=s.length+N.length∧many isStay s' = many isStay s∧many isBind s' = many isBind s+min c N.length∧many isMake s' = many isMake s+max 0 (N.length - c)
 | [],d,c,h,s,_,hc=>⟨s,rfl,rfl,rfl,by rw [List.length_nil]; omega,by rw [List.length_nil]; omega⟩
 | x :: N, d, c, h, s, hx, hc => by
  obtain ⟨h1,h2⟩:=hx x (by simp)
  have et : x.t.toNat=1:=by rw [h2]; rfl
  rw [stAll]
  by_cases hr : 0 < c
  ·have e : stStep O ⟨[d, c], h, s⟩ x = ⟨[d, c - 1], h, s ++ [⟨2, -1, false⟩]⟩ := by
    unfold stStep
    rw [if_neg h1,et,if_pos (show 0 < ([d,c] : List Int).getD 1 0 from hr)]
    rfl
   obtain ⟨s',e1,e2,e3,e4,e5⟩:=st_none N d (c - 1) h (s ++ [⟨2, -1,false⟩]) (fun y hy=>hx y (by simp [hy])) (by omega)
   refine ⟨s',by rw [e,e1],by rw [e2]; simp only [List.length_append,List.length_cons,List.length_nil]; omega, ?_, ?_, ?_⟩
   ·rw [e3,many_snoc,if_neg (by simp [isStay])]; omega
   ·rw [e4,many_snoc,if_pos (by simp [isBind]),List.length_cons]; omega
   ·rw [e5,many_snoc,if_neg (by simp [isMake]),List.length_cons]; omega
  ·have e : stStep O ⟨[d, c], h, s⟩ x = ⟨[d, c], h, s ++ [⟨3, -1, false⟩]⟩ := by
    unfold stStep
    rw [if_neg h1,et,if_neg (show ¬ 0 < ([d,c] : List Int).getD 1 0 from hr)]
   obtain ⟨s',e1,e2,e3,e4,e5⟩:=st_none N d c h (s ++ [⟨3, -1,false⟩]) (fun y hy=>hx y (by simp [hy])) hc
   refine ⟨s',by rw [e,e1],by rw [e2]; simp only [List.length_append,List.length_cons,List.length_nil]; omega, ?_, ?_, ?_⟩
   ·rw [e3,many_snoc,if_neg (by simp [isStay])]; omega
   ·rw [e4,many_snoc,if_neg (by simp [isBind]),List.length_cons]; omega
   ·rw [e5,many_snoc,if_pos (by simp [isMake]),List.length_cons]; omega
theorem keepS_is (K : List Int) (s : Stp) : (keepS K s).w=s.w:=by unfold keepS; split <;> rfl
theorem many_keep {f : Stp→Bool} (hf : ∀ s t : Stp,s.w=t.w→f s=f t) (K : List Int) (l : List Stp) : many f (l.map (keepS K))=many f l:=by
 unfold many
 rw [List.countP_map]
 congr 1
 exact List.countP_congr fun s _=>by rw [Function.comp,hf _ s (keepS_is K s)]
theorem changed_gen {U C : List Rw} (hu : ∀ x ∈ U, x ∉ C ∧ x.t = 0) (hc : ∀ x ∈ C, x ∉ U ∧ x.t = 1) (lu : U.length = 1024) (lc : C.length = 1024) :
  (ofLeaves U C [5,7] [105,7]).length=1024∧(ofSteps U C [5,7] [105,7]).length=1024∧drops (ofLeaves U C [5,7] [105,7])=924∧many isStay (ofSteps U C [5,7] [105,7])=0∧many isBind (ofSteps U C [5,7] [105,7])=7∧many isMake (ofSteps U C [5,7] [105,7])=1017:=by
 obtain ⟨l',e1,e2,e3⟩:=lv_none (N:=C) U 0 5 [] [] hu (by omega)
 obtain ⟨s',f1,f2,f3,f4,f5⟩:=st_none (O:=U) C (min 105 (5+(U.length : Int))) 7 [] [] hc (by omega)
 have hl : ofLeaves U C [5,7] [105,7]=l' := by unfold ofLeaves lvOut; rw [e1]
 have hs : ofSteps U C [5,7] [105,7]=s'.map (keepS (kOut U C [5,7] [105,7])):=by
  unfold ofSteps stOut lvOut
  rw [e1]
  simp only
  rw [f1]
 rw [hl,hs,List.length_map,many_keep (fun s t h=>by unfold isStay; rw [h]),many_keep (fun s t h=>by unfold isBind; rw [h]),many_keep (fun s t h=>by unfold isMake; rw [h])]
 rw [lu] at e2 e3
 rw [lc] at f2 f4 f5
 have z0 : drops []=0:=rfl
 have z1 : many isStay []=0:=rfl
 have z2 : many isBind []=0:=rfl
 have z3 : many isMake []=0:=rfl
 rw [z0] at e3
 rw [z1] at f3
 rw [z2] at f4
 rw [z3] at f5
 rw [List.length_nil,Nat.zero_add] at e2 f2
 exact ⟨e2,f2,by omega,f3,by omega,by omega⟩
theorem changed_of : (ofLeaves (upW 1024) (chW 1024) [5, 7] [105, 7]).length = 1024 ∧ (ofSteps (upW 1024) (chW 1024) [5, 7] [105, 7]).length = 1024 ∧ drops (ofLeaves (upW 1024) (chW 1024) [5, 7] [105, 7]) = 924 ∧ many isStay (ofSteps (upW 1024) (chW 1024) [5, 7] [105, 7]) = 0 ∧
  many isBind (ofSteps (upW 1024) (chW 1024) [5,7] [105,7])=7∧many isMake (ofSteps (upW 1024) (chW 1024) [5,7] [105,7])=1017 :=
 changed_gen (fun x hx=>by
  rw [upW_mk,mkW_mem] at hx
  exact ⟨fun c=>by rw [chW_mk,mkW_mem] at c; omega,hx.2⟩) (fun x hx=>by
  rw [chW_mk,mkW_mem] at hx
  exact ⟨fun c=>by rw [upW_mk,mkW_mem] at c; omega,hx.2⟩) (by rw [upW_mk,mkW_len,asc_len]) (by rw [chW_mk,mkW_len,asc_len])
end Go.C36
