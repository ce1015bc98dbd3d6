/- Chapter 36, PlansCarry: the plain laws (what leaves is taken out; what is put makes the rows now; how many there are).
  Conditions: none. -/
import Derived.Test.YtpdcecfnlccicaaV1
import Derived.Test.YtpdcecfnlccicaaS3
set_option linter.unusedVariables false
set_option linter.unusedSimpArgs false
namespace Go.C36
open Go Go.Xe Go.Sx
theorem ahead_at : ∀ (l : List Stp) (i : Int) (k : Nat),k < l.length → (aheadF i l)[k]? = some (nxt (i + k + 1) (l.drop (k + 1)))
 | [],i,k,h => by simp at h
 | s :: l,i,0,h => by rw [aheadF]; simp
 | s :: l,i,k + 1,h => by
  rw [aheadF,List.getElem?_cons_succ,ahead_at l (i + 1) k (by simpa using h),List.drop_succ_cons]
  congr 2
  omega
theorem key_inj : ∀ {N : List Rw} {x z : Rw},(N.map Rw.k).Nodup → x ∈ N → z ∈ N → x.k = z.k → x = z
 | y :: N,x,z,hn,hx,hz,e => by
  rw [List.map_cons,List.nodup_cons] at hn
  rcases List.mem_cons.1 hx with h1 | h1
  ·rcases List.mem_cons.1 hz with h2 | h2
   ·rw [h1,h2]
   ·exact absurd (List.mem_map.2 ⟨z,h2,by rw [← e,h1]⟩) hn.1
  ·rcases List.mem_cons.1 hz with h2 | h2
   ·exact absurd (List.mem_map.2 ⟨x,h1,by rw [e,h2]⟩) hn.1
   ·exact key_inj hn.2 h1 h2 e
theorem sum_set : ∀ {l : List Int} {k : Nat} {w v : Int},l[k]? = some w → (l.set k v).sum + w = l.sum + v
 | [],k,w,v,h => by simp at h
 | x :: l,0,w,v,h => by
  simp only [List.getElem?_cons_zero,Option.some.injEq] at h
  subst h
  simp only [List.set_cons_zero,List.sum_cons]; omega
 | x :: l,k + 1,w,v,h => by
  have := sum_set (l := l) (k := k) (w := w) (v := v) (by simpa using h)
  simp only [List.set_cons_succ,List.sum_cons]; omega
theorem drops_cons (s : Lv) (L : List Lv) : drops (s :: L) = drops L + if s.d = true then 1 else 0 := by
 unfold drops
 rw [List.countP_cons]
 split <;> simp
theorem go_sum {O : List Rw} {B : List Int} : ∀ {L : List Lv} {t l t' l' : List Int},lvGo O B L t l t' l' → t'.sum + drops L = t.sum + L.length
 | [],t,l,t',l',h => by
  obtain ⟨rfl,_⟩ := h
  simp [drops]
 | s :: L,t,l,t',l',h => by
  obtain ⟨x,a0,hx,w,v,hw,hv,h⟩ := h
  rw [drops_cons,List.length_cons]
  split at h
  ·rename_i hd
   have := go_sum h.2
   rw [if_pos hd]; omega
  ·rename_i hd
   have := go_sum h.2
   have := sum_set (v := w + 1) hw
   rw [if_neg hd]; omega
theorem lv_go {O N : List Rw} {B : List Int} (hn : (O.map Rw.k).Nodup) (ht : ∀ x ∈ O, 0 ≤ x.t ∧ x.t < B.length) : ∀ (c k : Nat) (s : LS) (l : List Int), O.length - k = c → inB s.th B → l = ((O.take k).filter fun x => decide (x ∈ N)).map Rw.k ++ (O.drop k).map Rw.k →
  ∃ new,(lvAll N B k (O.drop k) s).lv = s.lv ++ new ∧ lvGo O B new s.th l (lvAll N B k (O.drop k) s).th (bKeys O N) ∧ inB (lvAll N B k (O.drop k) s).th B
 | 0,k,s,l,hc,hb,hl => by
  rw [List.drop_of_length_le (by omega)] at hl ⊢
  rw [List.take_of_length_le (by omega)] at hl
  exact ⟨[],by simp [lvAll],⟨rfl,by rw [hl]; simp [bKeys]⟩,hb⟩
 | c + 1, k, s, l, hc, hb, hl => by
  obtain ⟨x,hx⟩ : ∃ x,O[k]? = some x := ⟨_,List.getElem?_eq_getElem (by omega)⟩
  have hm : x ∈ O := List.mem_of_getElem? hx
  have hd := Sx.drop_at hx
  have htk : O.take (k + 1) = O.take k ++ [x] := take_succ_at hx
  obtain ⟨t0,t1⟩ := ht x hm
  obtain ⟨w,v,hw,hv,w0,w1⟩ := inB_get hb t0 t1
  have gw : s.th.getD x.t.toNat 0 = w := by rw [List.getD_eq_getElem?_getD,hw]; rfl
  have gv : B.getD x.t.toNat 0 = v := by rw [List.getD_eq_getElem?_getD,hv]; rfl
  rw [hd] at hl ⊢
  rw [lvAll,show ((k : Int) + 1) = ((k + 1 : Nat) : Int) by omega]
  by_cases hN : x ∈ N
  ·have hs : lvStep N B s k x = { s with bf := s.bf ++ [(k : Int)] } := by unfold lvStep; rw [if_pos hN]
   rw [hs]
   exact lv_go hn ht c (k + 1) { s with bf := s.bf ++ [(k : Int)] } l (by omega) hb (by rw [hl,htk,List.filter_append,List.filter_cons_of_pos (by simp [hN])]; simp)
  ·have hnd : ((O.take k).map Rw.k ++ x.k :: (O.drop (k + 1)).map Rw.k).Nodup := by
    have := hn
    rw [← List.take_append_drop k O,hd,List.map_append,List.map_cons] at this
    exact this
   have k1 : x.k ∉ (O.take k).map Rw.k := fun c => (List.nodup_append.1 hnd).2.2 _ c _ (by simp) rfl
   have k2 : x.k ∉ (O.drop (k + 1)).map Rw.k := (List.nodup_cons.1 (List.nodup_append.1 hnd).2.1).1
   have hl' : (l.filter fun y => decide (y ≠ x.k)) = ((O.take (k + 1)).filter fun x => decide (x ∈ N)).map Rw.k ++ (O.drop (k + 1)).map Rw.k := by
    rw [hl,htk,List.filter_append,List.map_cons,List.filter_cons_of_neg (by simp),List.filter_append,List.filter_cons_of_neg (by simp [hN]),List.filter_nil,List.append_nil]
    congr 1
    ·refine List.filter_eq_self.2 fun y hy => ?_
     obtain ⟨z,hz,rfl⟩ := List.mem_map.1 hy
     have := k1
     simp only [decide_eq_true_eq]
     exact fun e => k1 (e ▸ List.mem_map.2 ⟨z,(List.mem_filter.1 hz).1,rfl⟩)
    ·refine List.filter_eq_self.2 fun y hy => ?_
     simp only [decide_eq_true_eq]
     exact fun e => k2 (e ▸ hy)
   by_cases hlt : w < v
   ·have hs : lvStep N B s k x = { s with th := s.th.set x.t.toNat (w + 1),lv := s.lv ++ [⟨k,false⟩] } := by unfold lvStep putN; rw [if_neg hN,gw,gv,if_pos hlt]
    rw [hs]
    obtain ⟨new,h1,h2,h3⟩ := lv_go hn ht c (k + 1) { s with th := s.th.set x.t.toNat (w + 1),lv := s.lv ++ [⟨k,false⟩] } _ (by omega) (inB_set hb hv (by omega) (by omega)) hl'
    exact ⟨⟨k,false⟩ :: new,by rw [h1]; simp,⟨x,by show (0 : Int) ≤ k; omega,by show O[(k : Int).toNat]? = _; rw [Int.toNat_natCast]; exact hx,w,v,hw,hv,by rw [if_neg (by simp)]; exact ⟨hlt,h2⟩⟩,h3⟩
   ·have hs : lvStep N B s k x = { s with lv := s.lv ++ [⟨k,true⟩] } := by unfold lvStep; rw [if_neg hN,gw,gv,if_neg hlt]
    rw [hs]
    obtain ⟨new,h1,h2,h3⟩ := lv_go hn ht c (k + 1) { s with lv := s.lv ++ [⟨k,true⟩] } _ (by omega) hb hl'
    exact ⟨⟨k,true⟩ :: new,by rw [h1]; simp,⟨x,by show (0 : Int) ≤ k; omega,by show O[(k : Int).toNat]? = _; rw [Int.toNat_natCast]; exact hx,w,v,hw,hv,by rw [if_pos (by simp)]; exact ⟨by omega,h2⟩⟩,h3⟩
theorem lv_count {N : List Rw} {B : List Int} : ∀ (l : List Rw) (i : Int) (s : LS),(lvAll N B i l s).lv.length + (lvAll N B i l s).bf.length = s.lv.length + s.bf.length + l.length
 | [],i,s => rfl
 | x :: l,i,s => by
  rw [lvAll,lv_count l,List.length_cons]
  unfold lvStep
  split
  ·simp; omega
  ·split <;> (simp; omega)
theorem st_spec {O : List Rw} : ∀ (l : List Rw) (s : TS),∃ z,(stAll O l s).st = s.st ++ z ∧ z.length = l.length ∧ ∀ (j : Nat) (x : Rw),l[j]? = some x → ∃ q : Stp,z[j]? = some q ∧ (x ∈ O → q = ⟨1,atR O x,true⟩) ∧ (x ∉ O → q.w ≠ 1 ∧ q.m = false)
 | [],s => ⟨[],by simp [stAll],rfl,fun j x h => by simp at h⟩
 | y :: l,s => by
  obtain ⟨z,h1,h2,h3⟩ := st_spec (O := O) l (stStep O s y)
  have key : ∃ q : Stp,(stStep O s y).st = s.st ++ [q] ∧ (y ∈ O → q = ⟨1,atR O y,true⟩) ∧ (y ∉ O → q.w ≠ 1 ∧ q.m = false) := by
   unfold stStep
   by_cases hm : y ∈ O
   ·rw [if_pos hm]
    exact ⟨_,rfl,fun _ => rfl,fun c => absurd hm c⟩
   ·rw [if_neg hm]
    split
    ·exact ⟨_,rfl,fun c => absurd c hm,fun _ => ⟨by simp,rfl⟩⟩
    ·exact ⟨_,rfl,fun c => absurd c hm,fun _ => ⟨by simp,rfl⟩⟩
  obtain ⟨q,q1,q2⟩ := key
  refine ⟨q :: z,by rw [stAll,h1,q1,List.append_assoc]; rfl,by simp [h2],fun j x hx => ?_⟩
  cases j with
  | zero =>
   simp only [List.getElem?_cons_zero,Option.some.injEq] at hx
   subst hx
   exact ⟨q,rfl,q2⟩
  | succ j => exact h3 j x (by simpa using hx)
section
variable {O N : List Rw} {P B : List Int}
theorem of_at {j : Nat} {x : Rw} (h : N[j]? = some x) : ∃ s : Stp,(ofSteps O N P B)[j]? = some s ∧ (x ∈ O → s = ⟨1,atR O x,decide (atR O x ∉ kOut O N P B)⟩) ∧ (x ∉ O → s.w ≠ 1) := by
 obtain ⟨z,h1,h2,h3⟩ := st_spec (O := O) N ⟨(lvOut O N P B).th,[],[]⟩
 obtain ⟨q,hq,q1,q2⟩ := h3 j x h
 have hz : (stOut O N P B).st = z := by unfold stOut; rw [h1]; rfl
 refine ⟨keepS (kOut O N P B) q,by unfold ofSteps; rw [hz,List.getElem?_map,hq]; rfl,fun hx => ?_,fun hx => by rw [keepS_w1]; exact (q2 hx).1⟩
 rw [q1 hx]
 unfold keepS
 by_cases hk : atR O x ∈ kOut O N P B
 ·rw [if_pos ⟨rfl,hk⟩]; simp [hk]
 ·rw [if_neg (fun c => hk c.2)]; simp [hk]
theorem of_now {i : Nat} {x : Rw} {t h : List Int} {s : List Stp} {q : Stp} (hx : N[i]? = some x) (hs : s.length = i) (hA : stAll O (N.drop i) ⟨t,h,s⟩ = stOut O N P B) (hq : (stStep O ⟨t,h,s⟩ x).st = s ++ [q]) : (ofSteps O N P B)[i]? = some (keepS (kOut O N P B) q) := by
 rw [Sx.drop_at hx,stAll] at hA
 obtain ⟨z,h1,_⟩ := st_spec (O := O) (N.drop (i + 1)) (stStep O ⟨t,h,s⟩ x)
 unfold ofSteps
 rw [← hA,h1,hq,List.getElem?_map,List.append_assoc,List.getElem?_append_right (by omega),hs,Nat.sub_self]
 rfl
theorem kk_filter {p : Rw → Bool} : ∀ {l : List Rw} {r : List Stp},l.length = r.length → (∀ (j : Nat) (x : Rw) (s : Stp),l[j]? = some x → r[j]? = some s → ((s.w = 1 ∧ s.m = false) ↔ p x = true)) → kkL l r = (l.filter p).map Rw.k
 | [],[],_,_ => rfl
 | [],s :: r,hl,_ => by simp at hl
 | x :: l,[],hl,_ => by simp at hl
 | x :: l,s :: r,hl,h => by
  have h0 := h 0 x s rfl rfl
  have ih := kk_filter (p := p) (l := l) (r := r) (by simpa using hl) (fun j x s hx hs => h (j + 1) x s (by simpa using hx) (by simpa using hs))
  rw [kkL]
  by_cases c : s.w = 1 ∧ s.m = false
  ·rw [if_pos c,List.filter_cons_of_pos (h0.1 c),List.map_cons,ih]
  ·rw [if_neg c,List.filter_cons_of_neg (fun d => c (h0.2 d)),ih]
theorem kk_nil (r : List Stp) : kkL [] r = [] := by cases r <;> rfl
theorem kk_sub : ∀ (l : List Rw) (r : List Stp),(kkL l r).Sublist (l.map Rw.k)
 | [],r => by rw [kk_nil]; exact List.nil_sublist _
 | x :: l,[] => List.nil_sublist _
 | x :: l,s :: r => by
  rw [kkL,List.map_cons]
  split
  ·exact (kk_sub l r).cons_cons _
  ·exact (kk_sub l r).cons _
theorem nxt_kk : ∀ (l : List Rw) (r : List Stp) (j : Int),l.length = r.length → (nxt j r = -1 ∧ kkL l r = []) ∨ ∃ (m : Nat) (z : Rw) (D : List Int),nxt j r = j + m ∧ l[m]? = some z ∧ kkL l r = z.k :: D
 | [],[],j,_ => .inl ⟨rfl,rfl⟩
 | [],s :: r,j,hl => by simp at hl
 | x :: l,[],j,hl => by simp at hl
 | x :: l,s :: r,j,h => by
  rw [nxt,kkL]
  by_cases c : s.w = 1 ∧ s.m = false
  ·rw [if_pos c,if_pos c]; exact .inr ⟨0,x,_,by omega,rfl,rfl⟩
  ·rw [if_neg c,if_neg c]
   rcases nxt_kk l r (j + 1) (by simpa using h) with h | ⟨m,z,D,h1,h2,h3⟩
   ·exact .inl h
   ·exact .inr ⟨m + 1,z,D,by omega,by simpa using h2,h3⟩
theorem putF_filter {x a : Int} {p : Int → Bool} (hx : p x = true) (ha : p a = true) : ∀ l,(putF x a l).filter p = putF x a (l.filter p)
 | [] => rfl
 | y :: l => by
  have ih := putF_filter hx ha l
  rw [putF]
  by_cases e : y = a
  ·subst e
   rw [if_pos rfl]
   simp only [List.filter_cons,hx,ha,if_true,putF,ih]
  ·rw [if_neg e]
   by_cases py : p y = true
   ·simp only [List.filter_cons,py,if_true,putF,if_neg e,ih]
   ·rw [List.filter_cons_of_neg py,List.filter_cons_of_neg py,ih]
theorem putF_id {x a : Int} : ∀ l,a ∉ l → putF x a l = l
 | [],_ => rfl
 | y :: l,h => by
  simp only [List.mem_cons,not_or] at h
  rw [putF,if_neg (fun e => h.1 e.symm),putF_id l h.2]
theorem putF_at {x a : Int} : ∀ (l m : List Int),a ∉ l → a ∉ m → putF x a (l ++ a :: m) = l ++ x :: a :: m
 | [],m,_,h => by rw [List.nil_append,putF,if_pos rfl,putF_id m h]; rfl
 | y :: l,m,h,hm => by
  simp only [List.mem_cons,not_or] at h
  rw [List.cons_append,putF,if_neg (fun e => h.1 e.symm),putF_at l m h.2 hm]; rfl
theorem putF_mem {x a y : Int} : ∀ l,y ∈ putF x a l → y = x ∨ y ∈ l
 | [],h => by simp [putF] at h
 | z :: l,h => by
  rw [putF] at h
  split at h
  ·rcases List.mem_cons.1 h with h | h
   ·exact .inl h
   ·rcases List.mem_cons.1 h with h | h
    ·exact .inr (by simp [h])
    ·rcases putF_mem l h with h | h
     ·exact .inl h
     ·exact .inr (by simp [h])
  ·rcases List.mem_cons.1 h with h | h
   ·exact .inr (by simp [h])
   ·rcases putF_mem l h with h | h
    ·exact .inl h
    ·exact .inr (by simp [h])
theorem putL_mem {l : List Int} {x a y : Int} (h : y ∈ putL l x a) : y = x ∨ y ∈ l := by
 unfold putL at h
 split at h
 ·rcases List.mem_append.1 h with h | h
  ·exact putF_mem l h
  ·exact .inl (by simpa using h)
 ·exact putF_mem l h
theorem putF_count {x a : Int} : ∀ l : List Int,(putF x a l).length = l.length + l.count a
 | [] => rfl
 | y :: l => by
  have ih := putF_count (x := x) (a := a) l
  rw [putF,List.count_cons]
  by_cases e : y = a
  ·subst e
   simp only [if_true,List.length_cons,ih,beq_self_eq_true]; omega
  ·rw [if_neg e,if_neg (by simpa using e),List.length_cons,ih,List.length_cons]; omega
theorem put_len2 {l A D : List Int} {x a : Int} (hD : (A ++ D).Nodup) (hf : (l.filter fun y => decide (y ∈ A ++ D)) = A ++ D) (h0 : (0 : Int) ∉ l) (ha : D = [] ∧ a = 0 ∨ ∃ D',D = a :: D' ∧ a ≠ 0) : (putL l x a).length ≤ l.length + 1 := by
 rcases ha with ⟨rfl,rfl⟩ | ⟨D',rfl,h⟩
 ·unfold putL
  rw [if_pos rfl,putF_id l h0]; simp
 ·unfold putL
  have n1 : a ∉ A := fun c => (List.nodup_append.1 hD).2.2 _ c _ (by simp) rfl
  have n2 : a ∉ D' := (List.nodup_cons.1 (List.nodup_append.1 hD).2.1).1
  have hc : (l.filter fun y => decide (y ∈ A ++ a :: D')).count a = l.count a := List.count_filter (by simp)
  rw [hf,List.count_append,List.count_cons_self,List.count_eq_zero_of_not_mem n1,List.count_eq_zero_of_not_mem n2] at hc
  rw [if_neg h,putF_count]
  omega
theorem put_car {l A D : List Int} {x a : Int} (hx : x ∉ l) (hD : (A ++ D).Nodup) (h0 : (0 : Int) ∉ l) (hf : (l.filter fun y => decide (y ∈ A ++ D)) = A ++ D) (ha : D = [] ∧ a = 0 ∨ ∃ D', D = a :: D' ∧ a ≠ 0) :
  ((putL l x a).filter fun y => decide (y ∈ A ++ [x] ++ D)) = A ++ [x] ++ D := by
 have hf' : (l.filter fun y => decide (y ∈ A ++ [x] ++ D)) = A ++ D := by
  refine Eq.trans (List.filter_congr fun y hy => ?_) hf
  have : y ≠ x := fun e => hx (e ▸ hy)
  simp [this]
 rcases ha with ⟨rfl,rfl⟩ | ⟨D',rfl,h⟩
 ·unfold putL
  rw [if_pos rfl,putF_id l h0,List.filter_append,hf']
  simp
 ·unfold putL
  have n1 : a ∉ A := fun c => (List.nodup_append.1 hD).2.2 _ c _ (by simp) rfl
  have n2 : a ∉ D' := (List.nodup_cons.1 (List.nodup_append.1 hD).2.1).1
  rw [if_neg h,putF_filter (by simp) (by simp),hf',putF_at A D' n1 n2]
  simp
theorem vpick_gt : ∀ (l fs : List Int) (n y : Int),∀ z ∈ vpick l fs n y,y < z
 | [],fs,n,y,z,hz => by rw [vpick_nil] at hz; simp at hz
 | x :: l,[],n,y,z,hz => by simp [vpick] at hz
 | x :: l,f :: fs,n,y,z,hz => by
  rw [vpick_cons] at hz
  split at hz
  ·rename_i c
   rcases List.mem_cons.1 hz with h | h
   ·omega
   ·have := vpick_gt l fs (n - 1) x z h
    omega
  ·exact vpick_gt l fs n y z hz
theorem vpick_mem : ∀ (l fs : List Int) (n y : Int),∀ z ∈ vpick l fs n y,z ∈ l
 | [],fs,n,y,z,hz => by rw [vpick_nil] at hz; simp at hz
 | x :: l,[],n,y,z,hz => by simp [vpick] at hz
 | x :: l,f :: fs,n,y,z,hz => by
  rw [vpick_cons] at hz
  split at hz
  ·rcases List.mem_cons.1 hz with h | h
   ·simp [h]
   ·exact List.mem_cons_of_mem _ (vpick_mem l fs (n - 1) x z h)
  ·exact List.mem_cons_of_mem _ (vpick_mem l fs n y z hz)
theorem vpick_asc : ∀ (l fs : List Int) (n y : Int),l.Nodup → l.Pairwise fun a b => a ∈ vpick l fs n y → b ∈ vpick l fs n y → a < b
 | [],fs,n,y,_ => List.Pairwise.nil
 | x :: l,[],n,y,_ => by
  refine List.Pairwise.imp (R := fun _ _ => True) (fun {a b} _ h => ?_) (List.pairwise_of_forall fun _ _ => trivial)
  simp [vpick] at h
 | x :: l,f :: fs,n,y,hn => by
  rw [List.nodup_cons] at hn
  rw [vpick_cons]
  split
  ·refine List.Pairwise.cons (fun b hb _ h => ?_) (List.Pairwise.imp_of_mem (fun {a b} ha hb hab h1 h2 => ?_) (vpick_asc l fs (n - 1) x hn.2))
   ·rcases List.mem_cons.1 h with h | h
    ·exact absurd (h ▸ hb) hn.1
    ·exact vpick_gt l fs (n - 1) x b h
   ·refine hab ?_ ?_
    ·rcases List.mem_cons.1 h1 with h | h
     ·exact absurd (h ▸ ha) hn.1
     ·exact h
    ·rcases List.mem_cons.1 h2 with h | h
     ·exact absurd (h ▸ hb) hn.1
     ·exact h
  ·exact List.Pairwise.cons (fun b hb h _ => absurd (vpick_mem _ _ _ _ _ h) hn.1) (vpick_asc l fs n y hn.2)
theorem UOk.split (U : UOk O N P B) {i : Nat} {x : Rw} (hx : N[i]? = some x) : ((N.take i).map Rw.k ++ x.k :: (N.drop (i + 1)).map Rw.k).Nodup := by
 have := U.nn
 rw [← List.take_append_drop i N,Sx.drop_at hx,List.map_append,List.map_cons] at this
 exact this
theorem car_0 (U : UOk O N P B) : carI O N (ofSteps O N P B) 0 (bKeys O N) := by
 have ndO := nodup_of_key U.no
 have ndN := nodup_of_key U.nn
 have hK := kept_same (P := P) (B := B) ndO ndN
 have hlen : N.length = (ofSteps O N P B).length := ofSteps_len.symm
 generalize hp : (fun x : Rw => decide (x ∈ O ∧ atR O x ∈ kOut O N P B)) = p
 have hpx : ∀ x,p x = true ↔ (x ∈ O ∧ atR O x ∈ kOut O N P B) := fun x => by rw [← hp]; simp
 have hkk : kkL N (ofSteps O N P B) = (N.filter p).map Rw.k := by
  refine kk_filter hlen fun j x s hx hs => ?_
  obtain ⟨s',h1,h2,h3⟩ := of_at (O := O) (P := P) (B := B) hx
  rw [hs] at h1
  simp only [Option.some.injEq] at h1
  subst h1
  rw [hpx]
  by_cases hm : x ∈ O
  ·rw [h2 hm]
   simp [hm]
  ·exact ⟨fun c => absurd c.1 (h3 hm),fun c => absurd c.1 hm⟩
 have h2 : (O.filter fun x => decide (x ∈ N)).filter p = N.filter p := by
  have hbh := stOut_bh (O := O) (N := N) (P := P) (B := B)
  have hG : (N.filter fun x => decide (x ∈ O)).Nodup := List.Pairwise.filter _ ndN
  have sG : ∀ x ∈ (N.filter fun x => decide (x ∈ O)),x ∈ O := fun x hx => by simpa using (List.mem_filter.1 hx).2
  have asc : (N.filter p).Pairwise fun a b => atR O a < atR O b := by
   have hnb : (stOut O N P B).bh.Nodup := by rw [hbh]; exact nodup_atR hG sG
   have := vpick_asc _ (frm (stOut O N P B).bh) (maxL (frm (stOut O N P B).bh)) (-1) hnb
   change List.Pairwise (fun a b => a ∈ rkept (stOut O N P B).bh → b ∈ rkept (stOut O N P B).bh → a < b) (stOut O N P B).bh at this
   rw [← hK] at this
   rw [hbh,List.pairwise_map,List.pairwise_filter] at this
   rw [List.pairwise_filter]
   refine this.imp fun {a b} h pa pb => ?_
   have pa := (hpx a).1 pa
   have pb := (hpx b).1 pb
   exact h (by simp [pa.1]) (by simp [pb.1]) pa.2 pb.2
  refine List.Perm.eq_of_pairwise (le := fun a b => atR O a < atR O b) (fun a b _ _ h1 h2 => by omega) (List.Pairwise.filter _ (List.Pairwise.filter _ (asc_at ndO))) asc ?_
  refine (List.perm_ext_iff_of_nodup (List.Pairwise.filter _ (List.Pairwise.filter _ ndO)) (List.Pairwise.filter _ ndN)).2 fun x => ?_
  simp only [List.mem_filter,decide_eq_true_eq,hpx]
  exact ⟨fun h => ⟨h.1.2,h.2⟩,fun h => ⟨⟨h.2.1,h.1⟩,h.2⟩⟩
 have h1 : ((bKeys O N).filter fun y => decide (y ∈ (N.filter p).map Rw.k)) = (N.filter p).map Rw.k := by
  unfold bKeys
  rw [List.filter_map,← h2]
  congr 1
  refine List.filter_congr fun x hx => ?_
  have hx' := (List.mem_filter.1 hx).2
  simp only [decide_eq_true_eq] at hx'
  rw [h2]
  show decide (x.k ∈ (N.filter p).map Rw.k) = p x
  cases hpp : p x with
  | true => simp only [decide_eq_true_eq]; exact List.mem_map.2 ⟨x,List.mem_filter.2 ⟨hx',hpp⟩,rfl⟩
  | false =>
   simp only [decide_eq_false_iff_not]
   intro c
   obtain ⟨z,hz,e⟩ := List.mem_map.1 c
   obtain ⟨z1,z2⟩ := List.mem_filter.1 hz
   rw [key_inj U.nn z1 hx' e,hpp] at z2
   cases z2
 refine ⟨?_,fun y hy => .inr ?_⟩
 ·simp only [List.take_zero,List.drop_zero,List.map_nil,List.nil_append,hkk]
  exact h1
 ·obtain ⟨z,hz,e⟩ := List.mem_map.1 hy
  obtain ⟨z1,z2⟩ := List.mem_filter.1 hz
  exact ⟨z,by simpa using z2,z1,e⟩
theorem car_key (U : UOk O N P B) {S : List Stp} {i : Nat} {l : List Int} (hc : carI O N S i l) : (0 : Int) ∉ l := by
 intro h
 rcases hc.2 0 h with h | ⟨z,hz,_,e⟩
 ·obtain ⟨z,hz,e⟩ := List.mem_map.1 h
  have := U.rn z (List.mem_of_mem_take hz)
  omega
 ·have := U.rn z (List.mem_of_mem_drop hz)
  omega
theorem car_step (U : UOk O N P B) {i : Nat} {x : Rw} {s : Stp} {l : List Int} {a : Int} (hx : N[i]? = some x) (hs : (ofSteps O N P B)[i]? = some s) (hc : carI O N (ofSteps O N P B) i l)
  (ha : kkL (N.drop (i + 1)) ((ofSteps O N P B).drop (i + 1)) = [] ∧ a = 0 ∨ ∃ D',kkL (N.drop (i + 1)) ((ofSteps O N P B).drop (i + 1)) = a :: D' ∧ a ≠ 0) :
  (s.w = 1 ∧ s.m = false → carI O N (ofSteps O N P B) (i + 1) l) ∧ (¬ (s.w = 1 ∧ s.m = false) → carI O N (ofSteps O N P B) (i + 1) (putL (l.filter fun y => decide (y ≠ x.k)) x.k a) ∧ (putL (l.filter fun y => decide (y ≠ x.k)) x.k a).length ≤ l.length + 1) ∧ (s.w ≠ 1 → (l.filter fun y => decide (y ≠ x.k)) = l) := by
 have hnd := U.split hx
 have h00 := car_key U hc
 obtain ⟨c1,c2⟩ := hc
 have hsub := kk_sub (N.drop (i + 1)) ((ofSteps O N P B).drop (i + 1))
 generalize hD : kkL (N.drop (i + 1)) ((ofSteps O N P B).drop (i + 1)) = D at *
 rw [Sx.drop_at hx,Sx.drop_at hs,kkL,hD] at c1
 rw [Sx.drop_at hx] at c2
 have htk : (N.take (i + 1)).map Rw.k = (N.take i).map Rw.k ++ [x.k] := by rw [take_succ_at hx,List.map_append]; rfl
 unfold carI
 rw [hD,htk]
 generalize hA : (N.take i).map Rw.k = A at *
 have kA : x.k ∉ A := fun c => (List.nodup_append.1 hnd).2.2 _ c _ (by simp) rfl
 have kR : x.k ∉ (N.drop (i + 1)).map Rw.k := (List.nodup_cons.1 (List.nodup_append.1 hnd).2.1).1
 have kD : x.k ∉ D := fun c => kR (hsub.subset c)
 refine ⟨fun h => ?_,fun h => ?_,fun h => ?_⟩
 ·rw [if_pos h] at c1
  refine ⟨?_,fun y hy => ?_⟩
  ·have e : A ++ [x.k] ++ D = A ++ x.k :: D := by simp
   rw [e]; exact c1
  ·rcases c2 y hy with h | ⟨z,hz,hz',e⟩
   ·exact .inl (List.mem_append_left _ h)
   ·rcases List.mem_cons.1 hz with h | h
    ·subst h; exact .inl (by simp [e])
    ·exact .inr ⟨z,h,hz',e⟩
 ·rw [if_neg h] at c1
  have hf : ((l.filter fun y => decide (y ≠ x.k)).filter fun y => decide (y ∈ A ++ D)) = A ++ D := by
   have : ((l.filter fun y => decide (y ≠ x.k)).filter fun y => decide (y ∈ A ++ D)) = (l.filter fun y => decide (y ∈ A ++ D)).filter fun y => decide (y ≠ x.k) := by
    rw [List.filter_filter,List.filter_filter]
    refine List.filter_congr fun y _ => Bool.and_comm _ _
   rw [this,c1]
   refine List.filter_eq_self.2 fun y hy => ?_
   simp only [decide_eq_true_eq]
   intro e
   subst e
   rcases List.mem_append.1 hy with h | h
   ·exact kA h
   ·exact kD h
  have hAD : (A ++ D).Nodup := List.Sublist.nodup (List.Sublist.append (List.Sublist.refl A) (hsub.cons x.k)) hnd
  have h01 : (0 : Int) ∉ l.filter fun y => decide (y ≠ x.k) := fun c => h00 (List.mem_filter.1 c).1
  have hlen : (l.filter fun y => decide (y ≠ x.k)).length ≤ l.length := List.length_filter_le _ _
  refine ⟨⟨put_car (by simp) hAD h01 hf ha,fun y hy => ?_⟩,by have := put_len2 (x := x.k) hAD hf h01 ha; omega⟩
  ·rcases putL_mem hy with h | h
   ·exact .inl (by simp [h])
   ·obtain ⟨h1,h2⟩ := List.mem_filter.1 h
    simp only [decide_eq_true_eq] at h2
    rcases c2 y h1 with h | ⟨z,hz,hz',e⟩
    ·exact .inl (List.mem_append_left _ h)
    ·rcases List.mem_cons.1 hz with h | h
     ·subst h; exact absurd e.symm h2
     ·exact .inr ⟨z,h,hz',e⟩
 ·refine List.filter_eq_self.2 fun y hy => ?_
  simp only [decide_eq_true_eq]
  intro e
  subst e
  rcases c2 _ hy with h' | ⟨z,hz,hz',e⟩
  ·exact kA h'
  ·rcases List.mem_cons.1 hz with h' | h'
   ·subst h'
    obtain ⟨s',h1,h2,h3⟩ := of_at (O := O) (P := P) (B := B) hx
    rw [hs] at h1
    simp only [Option.some.injEq] at h1
    subst h1
    exact h (by rw [h2 hz'])
   ·exact kR (List.mem_map.2 ⟨z,h',e⟩)
theorem car_end (U : UOk O N P B) {l : List Int} (hc : carI O N (ofSteps O N P B) N.length l) : l = N.map Rw.k := by
 obtain ⟨c1,c2⟩ := hc
 simp only [List.take_length,List.drop_length,kk_nil,List.append_nil] at c1 c2
 rw [← c1]
 refine (List.filter_eq_self.2 fun y hy => ?_).symm
 rcases c2 y hy with h | ⟨z,hz,_⟩
 ·simpa using h
 ·simp at hz
theorem st_sum (U : UOk O N P B) : ∀ (l : List Rw) (s : TS), inB s.th B → (∀ x ∈ l, 0 ≤ x.t ∧ x.t < 3) → (stAll O l s).th.sum + many isBind (stAll O l s).st = s.th.sum + many isBind s.st ∧ inB (stAll O l s).th B ∧
  ((stAll O l s).bh.length : Int) + many isBind (stAll O l s).st + many isMake (stAll O l s).st = s.bh.length + many isBind s.st + many isMake s.st + l.length
 | [],s,hb,_ => ⟨rfl,hb,by simp [stAll]⟩
 | x :: l,s,hb,ht => by
  obtain ⟨t0,t1⟩ := ht x (by simp)
  obtain ⟨w,v,hw,hv,w0,w1⟩ := inB_get hb t0 (by have := U.lb; omega)
  have gw : s.th.getD x.t.toNat 0 = w := by rw [List.getD_eq_getElem?_getD,hw]; rfl
  rw [stAll]
  unfold stStep
  by_cases hm : x ∈ O
  ·rw [if_pos hm]
   obtain ⟨h1,h2,h3⟩ := st_sum U l ⟨s.th,s.bh ++ [atR O x],s.st ++ [⟨1,atR O x,true⟩]⟩ hb fun y hy => ht y (by simp [hy])
   simp only [many_snoc,isBind,isMake,List.length_append,List.length_cons,List.length_nil] at h1 h3 ⊢
   exact ⟨by simpa using h1,h2,by simp at h3 ⊢; omega⟩
  ·rw [if_neg hm,gw]
   split
   ·have hs := sum_set (v := w - 1) hw
    obtain ⟨h1,h2,h3⟩ := st_sum U l ⟨putN s.th x.t.toNat (w - 1),s.bh,s.st ++ [⟨2, -1,false⟩]⟩ (inB_set hb hv (by omega) (by omega)) fun y hy => ht y (by simp [hy])
    simp only [many_snoc,isBind,isMake,List.length_append,List.length_cons,List.length_nil,putN] at h1 h2 h3 ⊢
    exact ⟨by simp at h1 ⊢; omega,h2,by simp at h3 ⊢; omega⟩
   ·obtain ⟨h1,h2,h3⟩ := st_sum U l { s with st := s.st ++ [⟨3, -1,false⟩] } hb fun y hy => ht y (by simp [hy])
    simp only [many_snoc,isBind,isMake,List.length_append,List.length_cons,List.length_nil] at h1 h3 ⊢
    exact ⟨by simpa using h1,h2,by simp at h3 ⊢; omega⟩
theorem many_keep {f : Stp → Bool} {K : List Int} (hf : ∀ s,f (keepS K s) = f s) (l : List Stp) : many f (l.map (keepS K)) = many f l := by
 unfold many
 rw [List.countP_map]
 congr 2
 funext s
 exact hf s
theorem UOk.inP (U : UOk O N P B) : inB P B := ⟨U.rb.2.2.1,U.rb.2.2.2⟩
theorem UOk.go (U : UOk O N P B) : lvGo O B (ofLeaves O N P B) P (O.map Rw.k) (lvOut O N P B).th (bKeys O N) ∧ inB (lvOut O N P B).th B := by
 obtain ⟨new,h1,h2,h3⟩ := lv_go (N := N) (B := B) U.no (fun x hx => by have := U.ro x hx; have := U.lb; omega) O.length 0 ⟨P,[],[]⟩ (O.map Rw.k) (by omega) U.inP (by simp)
 have e : ofLeaves O N P B = new := by
  unfold ofLeaves lvOut
  simpa using h1
 rw [e]
 exact ⟨by simpa [lvOut] using h2,by simpa [lvOut] using h3⟩
theorem count_all (U : UOk O N P B) : (O.length : Int) + many isMake (ofSteps O N P B) = N.length + ((stOut O N P B).th.sum - P.sum) + drops (ofLeaves O N P B) := by
 have ndO := nodup_of_key U.no
 have ndN := nodup_of_key U.nn
 obtain ⟨g1,g2⟩ := U.go
 have h1 := go_sum g1
 have h2 := lv_count (N := N) (B := B) O 0 ⟨P,[],[]⟩
 obtain ⟨h3,_,h4⟩ := st_sum U N ⟨(lvOut O N P B).th,[],[]⟩ g2 fun x hx => (U.rn x hx).2
 have h5 : many isMake (ofSteps O N P B) = many isMake (stOut O N P B).st := by unfold ofSteps; exact many_keep (fun s => by unfold isMake; rw [keepS_w1]) _
 have h6 : (lvOut O N P B).bf.length = (stOut O N P B).bh.length := by rw [lvOut_bf ndO,stOut_bh,List.length_map,List.length_map,(both_perm ndO ndN).length_eq]
 change (lvOut O N P B).lv.length + (lvOut O N P B).bf.length = 0 + 0 + O.length at h2
 change (stOut O N P B).th.sum + many isBind (stOut O N P B).st = (lvOut O N P B).th.sum + many isBind [] at h3
 change ((stOut O N P B).bh.length : Int) + many isBind (stOut O N P B).st + many isMake (stOut O N P B).st = (([] : List Int).length : Int) + many isBind [] + many isMake [] + N.length at h4
 change _ = _ + (((lvOut O N P B).lv.length : Nat) : Int) at h1
 change (lvOut O N P B).th.sum + drops (ofLeaves O N P B) = _ at h1
 simp only [many,List.countP_nil,List.length_nil] at h3 h4
 unfold many at h5 ⊢
 omega
theorem moves_all (U : UOk O N P B) : many isMove (ofSteps O N P B) = (stOut O N P B).bh.length - (rkept (stOut O N P B).bh).length := by
 have ndO := nodup_of_key U.no
 have ndN := nodup_of_key U.nn
 have hbh := stOut_bh (O := O) (N := N) (P := P) (B := B)
 have hG : (N.filter fun x => decide (x ∈ O)).Nodup := List.Pairwise.filter _ ndN
 have sG : ∀ x ∈ (N.filter fun x => decide (x ∈ O)),x ∈ O := fun x hx => by simpa using (List.mem_filter.1 hx).2
 have hn : (stOut O N P B).bh.Nodup := by rw [hbh]; exact nodup_atR hG sG
 have hc := count_out (f := (lvOut O N P B).bf) hn
 have hm := stAll_moves (O := O) (K := kOut O N P B) N ⟨(lvOut O N P B).th,[],[]⟩
 rw [← kept_same ndO ndN]
 have hl := kept_len (lvOut O N P B).bf (stOut O N P B).bh
 change (kOut O N P B).length = _ at hl
 change List.countP (fun x => decide (x ∉ kOut O N P B)) (stOut O N P B).bh + _ = _ at hc
 rw [← hbh] at hm
 change many isMove (ofSteps O N P B) = many isMove [] + _ at hm
 simp only [many,List.countP_nil] at hm ⊢
 omega
end
end Go.C36
