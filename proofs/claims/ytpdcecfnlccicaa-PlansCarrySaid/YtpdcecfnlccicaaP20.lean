/- Chapter 36, PlansSame: the plain law.
  Conditions: none. -/
import Derived.Test.YtpdcecfnlccicaaP19
set_option linter.unusedVariables false
set_option linter.unusedSimpArgs false
namespace Go.C36
open Go Go.Xe Go.Sx
theorem Vl.inv {A B : List Int} (h : ∀ (p : Nat) (x : Int),A[p]? = some x → 0 ≤ x ∧ B[x.toNat]? = some (p : Int)) : ∀ {o : List Int} {y a : Int},0 ≤ a → Vl A (some y) (a + 1) o → Vl B (some a) (y + 1) (o.map fun i => A.getD i.toNat 0)
 | [],y,a,_,_ => trivial
 | b :: o,y,a,ha,hv => by
  obtain ⟨h1,h2,x,h3,h4,h5⟩ := hv
  obtain ⟨k1,k2⟩ := h _ _ h3
  have e : A.getD b.toNat 0 = x := by rw [List.getD_eq_getElem?_getD,h3]; rfl
  have hyx := h4 y rfl
  rw [List.map_cons,e]
  refine ⟨by omega,k1,b,by rw [k2]; congr 1; omega,fun z hz => by simp only [Option.some.injEq] at hz; omega,Vl.inv h (by omega) h5⟩
theorem Vl.get_lt {l : List Int} : ∀ {o : List Int} {last : Option Int} {k : Int} {i j : Nat} {a b : Int},Vl l last k o → o[i]? = some a → o[j]? = some b → i < j → a < b
 | c :: o,last,k,0,j + 1,a,b,h,hi,hj,_ => by
  cases hi
  have hj' : o[j]? = some b := by simpa using hj
  have := (Vl.at h.2.2.choose_spec.2.2 hj').1
  omega
 | c :: o,last,k,i + 1,j + 1,a,b,h,hi,hj,hlt => by
  exact Vl.get_lt h.2.2.choose_spec.2.2 (by simpa using hi) (by simpa using hj) (by omega)
 | c :: o,last,k,i,0,a,b,h,hi,hj,hlt => by omega
 | [],last,k,i,j,a,b,h,hi,hj,hlt => by simp at hi
theorem kept_nodup {f h : List Int} (hn : h.Nodup) : (keptL f h).Nodup := by
 have hv := lis_vl (ordOf f h)
 unfold keptL
 unfold List.Nodup
 rw [List.pairwise_map,List.pairwise_iff_getElem]
 intro i j hi hj hij he
 have a1 : (lis (ordOf f h))[i]? = some (lis (ordOf f h))[i] := List.getElem?_eq_getElem hi
 have a2 : (lis (ordOf f h))[j]? = some (lis (ordOf f h))[j] := List.getElem?_eq_getElem hj
 have hlt := hv.get_lt a1 a2 hij
 obtain ⟨_,b1,x,b2⟩ := hv.at a1
 obtain ⟨_,c1,y,c2⟩ := hv.at a2
 generalize (lis (ordOf f h))[i] = a at *
 generalize (lis (ordOf f h))[j] = b at *
 have la := (List.getElem?_eq_some_iff.1 b2).1
 have lb := (List.getElem?_eq_some_iff.1 c2).1
 rw [ordOf_len] at la lb
 have d1 : h[a.toNat]? = some h[a.toNat] := List.getElem?_eq_getElem la
 have d2 : h[b.toNat]? = some h[b.toNat] := List.getElem?_eq_getElem lb
 rw [List.getD_eq_getElem?_getD,List.getD_eq_getElem?_getD,d1,d2] at he
 simp only [Option.getD_some] at he
 have := (List.pairwise_iff_getElem.1 hn) a.toNat b.toNat la lb (by omega)
 exact this he
theorem kept_sub {f h : List Int} : ∀ x ∈ keptL f h,x ∈ h := by
 intro x hx
 unfold keptL at hx
 obtain ⟨a,ha,rfl⟩ := List.mem_map.1 hx
 obtain ⟨i,hi⟩ := List.mem_iff_getElem?.1 ha
 obtain ⟨_,b1,y,b2⟩ := (lis_vl (ordOf f h)).at hi
 have la := (List.getElem?_eq_some_iff.1 b2).1
 rw [ordOf_len] at la
 have d1 : h[a.toNat]? = some h[a.toNat] := List.getElem?_eq_getElem la
 rw [List.getD_eq_getElem?_getD,d1]
 exact List.getElem_mem la
theorem kept_len (f h : List Int) : (keptL f h).length = (lis (ordOf f h)).length := List.length_map _
theorem count_out {f h : List Int} (hn : h.Nodup) : h.countP (fun x => decide (x ∉ keptL f h)) + (lis (ordOf f h)).length = h.length := by
 have h1 : (h.filter fun x => decide (x ∈ keptL f h)).Perm (keptL f h) := by
  refine (List.perm_ext_iff_of_nodup (List.Pairwise.filter _ hn) (kept_nodup hn)).2 fun x => ?_
  simp only [List.mem_filter,decide_eq_true_eq]
  exact ⟨fun c => c.2,fun c => ⟨kept_sub x c,c⟩⟩
 have h2 := h1.length_eq
 rw [kept_len,← List.countP_eq_length_filter] at h2
 have h3 := List.length_eq_countP_add_countP (fun x => decide (x ∈ keptL f h)) (l := h)
 have h4 : h.countP (fun x => decide (x ∉ keptL f h)) = h.countP (fun a => !(decide (a ∈ keptL f h))) := by
  congr 1
  funext x
  simp
 have h5 : h.countP (fun a => !(decide (a ∈ keptL f h))) = h.countP (fun a => decide ¬ (decide (a ∈ keptL f h)) = true) := by
  congr 1
  funext x
  simp
 omega
theorem keepS_w1 (K : List Int) (s : Stp) : (keepS K s).w = s.w := by unfold keepS; split <;> rfl
theorem move_keep {K : List Int} {o : Int} : isMove (keepS K ⟨1,o,true⟩) = decide (o ∉ K) := by
 unfold keepS isMove
 by_cases h : o ∈ K
 ·rw [if_pos ⟨rfl,h⟩]; simp [h]
 ·rw [if_neg (fun c => h c.2)]; simp [h]
theorem move_keep' {K : List Int} {w o : Int} : isMove (keepS K ⟨w,o,false⟩) = false := by
 unfold keepS isMove
 split <;> rfl
theorem stAll_moves {O : List Rw} {K : List Int} : ∀ (l : List Rw) (s : TS),many isMove ((stAll O l s).st.map (keepS K)) = many isMove (s.st.map (keepS K)) + ((l.filter fun x => decide (x ∈ O)).map (atR O)).countP (fun o => decide (o ∉ K))
 | [],s => by simp [stAll]
 | x :: l,s => by
  rw [stAll,stAll_moves l]
  unfold stStep
  by_cases hm : x ∈ O
  ·rw [if_pos hm,List.filter_cons_of_pos (by simp [hm]),List.map_append,List.map_cons,List.map_cons,List.map_nil,many_snoc,move_keep,List.countP_cons]
   split <;> omega
  ·rw [if_neg hm,List.filter_cons_of_neg (by simp [hm])]
   split <;> (rw [List.map_append,List.map_cons,List.map_nil,many_snoc,move_keep']; simp)
section
variable {O N : List Rw} {P B : List Int}
end
section
variable {O : List Rw} {P B : List Int}
theorem at_self (hO : O.Nodup) {i : Nat} {x : Rw} (h : O[i]? = some x) : atR O x = i := atR_at (nodup_take hO h) h
theorem ofSteps_len {N : List Rw} : (ofSteps O N P B).length = N.length := by
 have : ∀ (l : List Rw) (s : TS),(stAll O l s).st.length = s.st.length + l.length := by
  intro l
  induction l with
  | nil => intro s; simp [stAll]
  | cons x l ih =>
   intro s
   rw [stAll,ih]
   unfold stStep
   split
   ·simp; omega
   ·split <;> (simp; omega)
 unfold ofSteps stOut
 rw [List.length_map,this]
 simp
end
def okL (l : List (Int × Int)) : Prop := ∀ p ∈ l,okPr p
theorem rowsL_ok {l : List (Int × Int)} (h : okL l) : (rowsL l).length ≤ 20 ∧ (∀ r ∈ rowsL l, (1 ≤ r.k ∧ r.k ≤ 30) ∧ 0 ≤ r.t ∧ r.t < 3) ∧ ((rowsL l).map Rw.k).Nodup := by
 have : ∀ (m : List (Int × Int)) (o : List Rw), (∀ p ∈ m, okPr p) → (∀ r ∈ o, (1 ≤ r.k ∧ r.k ≤ 30) ∧ 0 ≤ r.t ∧ r.t < 3) → (o.map Rw.k).Nodup →
   (m.foldl addR o).length ≤ o.length + m.length ∧ (∀ r ∈ m.foldl addR o,(1 ≤ r.k ∧ r.k ≤ 30) ∧ 0 ≤ r.t ∧ r.t < 3) ∧ ((m.foldl addR o).map Rw.k).Nodup := by
  intro m
  induction m with
  | nil => intro o _ h1 h2; exact ⟨by simp,h1,h2⟩
  | cons p m ih =>
   intro o hm h1 h2
   obtain ⟨⟨p1,p2⟩,p3,p4⟩ := hm p (by simp)
   have a := ih (addR o p) (fun q hq => hm q (by simp [hq])) ?_ ?_
   ·refine ⟨?_,a.2⟩
    have := addR_len o p
    rw [List.foldl_cons,List.length_cons]
    have := a.1
    omega
   ·intro r hr
    unfold addR at hr
    split at hr
    ·exact h1 r hr
    ·rcases List.mem_append.1 hr with hr | hr
     ·exact h1 r hr
     ·simp only [List.mem_singleton] at hr
      subst hr
      have t0 := Int.tmod_nonneg (a := p.1) 30 p1
      have t1 := Int.tmod_lt_of_pos p.1 (b := 30) (by omega)
      have t2 := Int.tmod_nonneg (a := p.2) 3 p3
      have t3 := Int.tmod_lt_of_pos p.2 (b := 3) (by omega)
      unfold mkRw
      simp only
      omega
   ·unfold addR
    split
    ·exact h2
    ·rename_i hn
     rw [List.map_append,List.nodup_append]
     refine ⟨h2,by simp,fun x hx y hy e => ?_⟩
     simp only [List.map_cons,List.map_nil,List.mem_singleton] at hy
     subst hy; subst e
     exact hn hx
 obtain ⟨h1,h2,h3⟩ := this (l.take 20) [] (fun p hp => h p (List.mem_of_mem_take hp)) (by simp) (by simp)
 refine ⟨?_,h2,h3⟩
 have : (l.take 20).length ≤ 20 := by rw [List.length_take]; omega
 simp only [List.length_nil] at h1
 unfold rowsL
 omega
theorem chkR_zero : ∀ {l : List Rw} {n : Int} {s : List Int},(∀ x ∈ l,x.k ≠ 0 ∧ x.t < n ∧ x.k ∉ s) → (l.map Rw.k).Nodup → chkR n s l = 0
 | [],n,s,_,_ => rfl
 | x :: l,n,s,h,hn => by
  rw [List.map_cons,List.nodup_cons] at hn
  obtain ⟨h1,h2,h3⟩ := h x (by simp)
  rw [chkR_cons,if_neg h1,if_neg (by omega),if_neg h3]
  refine chkR_zero (fun y hy => ⟨(h y (by simp [hy])).1,(h y (by simp [hy])).2.1,fun c => ?_⟩) hn.2
  rcases List.mem_append.1 c with c | c
  ·exact (h y (by simp [hy])).2.2 c
  ·simp only [List.mem_singleton] at c
   exact hn.1 (List.mem_map.2 ⟨y,hy,c⟩)
theorem nodup_of_key {l : List Rw} (h : (l.map Rw.k).Nodup) : l.Nodup := by
 unfold List.Nodup at h ⊢
 rw [List.pairwise_map] at h
 exact h.imp fun hab e => hab (by rw [e])
structure UOk (O N : List Rw) (P B : List Int) : Prop where
 lo : O.length ≤ 20
 ln : N.length ≤ 20
 ro : ∀ r ∈ O,(1 ≤ r.k ∧ r.k ≤ 30) ∧ 0 ≤ r.t ∧ r.t < 3
 rn : ∀ r ∈ N,(1 ≤ r.k ∧ r.k ≤ 30) ∧ 0 ≤ r.t ∧ r.t < 3
 no : (O.map Rw.k).Nodup
 nn : (N.map Rw.k).Nodup
 rb : rightB P B
 lb : B.length = 3
 bb : ∀ x ∈ B,0 ≤ x ∧ x < 5
theorem UOk.swap {O N : List Rw} {P B : List Int} (h : UOk O N P B) : UOk N O P B := ⟨h.ln,h.lo,h.rn,h.ro,h.nn,h.no,h.rb,h.lb,h.bb⟩
theorem UOk.isR {O N : List Rw} {P B : List Int} (h : UOk O N P B) : isR (O.map Rw.row) :=
 ⟨O,rfl,by have := h.lo; omega,fun r hr => by have := h.ro r hr; unfold Rw.Ok; omega⟩
theorem UOk.chk {O N : List Rw} {P B : List Int} (h : UOk O N P B) : chkP B.length O = 0 := by
 unfold chkP
 rw [h.lb,if_neg (by omega)]
 exact chkR_zero (fun x hx => by have := h.ro x hx; exact ⟨by omega,by omega,by simp⟩) h.no
theorem UOk.pre {O N : List Rw} {P B : List Int} (h : UOk O N P B) : ofPre [.lst (O.map Rw.row), .lst (N.map Rw.row), .lst (P.map row), .lst (B.map row)] :=
 ⟨h.isR,h.swap.isR,⟨P,rfl,by have := h.rb.2.2.1; have := h.lb; omega⟩,⟨B,rfl,by have := h.lb; omega⟩,fun x hx => by rw [nums_map] at hx; have := h.bb x hx; omega⟩
theorem UOk.err {O N : List Rw} {P B : List Int} (h : UOk O N P B) : ofErr O N P B = 0 := by rw [ofErr_0 h.rb h.chk,h.swap.chk]
theorem uok {l m : List (Int × Int)} {a b c d e f : Int} (hl : okL l) (hm : okL m) (ha : u8 a) (hb : u8 b) (hc : u8 c) (hd : u8 d) (he : u8 e) (hf : u8 f) :
  UOk (rowsL l) (rowsL m) [inOf a b,inOf c d,inOf e f] [bndOf a,bndOf c,bndOf e] := by
 obtain ⟨l1,l2,l3⟩ := rowsL_ok hl
 obtain ⟨m1,m2,m3⟩ := rowsL_ok hm
 have t : ∀ n : Int,u8 n → 0 ≤ bndOf n ∧ bndOf n < 5 := fun n h => ⟨Int.tmod_nonneg 5 h.1,Int.tmod_lt_of_pos n (by omega)⟩
 have q : ∀ n k : Int,u8 n → u8 k → 0 ≤ inOf n k ∧ inOf n k ≤ bndOf n := fun n k h hk => by
  have h1 := Int.tmod_nonneg (a := k) (bndOf n + 1) hk.1
  have h2 := Int.tmod_lt_of_pos k (b := bndOf n + 1) (by have := (t n h).1; omega)
  unfold inOf; omega
 refine ⟨l1,m1,l2,m2,l3,m3,⟨by simp,by simp,by simp,fun i x y hx hy => ?_⟩,rfl,fun x hx => ?_⟩
 ·match i,hx,hy with
  | 0,hx,hy => cases hx; cases hy; exact q a b ha hb
  | 1,hx,hy => cases hx; cases hy; exact q c d hc hd
  | 2,hx,hy => cases hx; cases hy; exact q e f he hf
  | i + 3,hx,hy => simp at hx
 ·simp only [List.mem_cons,List.not_mem_nil,or_false] at hx
  rcases hx with rfl | rfl | rfl
  ·exact t a ha
  ·exact t c hc
  ·exact t e he
end Go.C36
