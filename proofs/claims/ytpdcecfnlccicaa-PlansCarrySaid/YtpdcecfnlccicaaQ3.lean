/- Chapter 36, the reference's lengths and what it keeps: the conditions hold.
  Conditions: none. -/
import Derived.Test.YtpdcecfnlccicaaQ2
set_option linter.unusedVariables false
set_option linter.unusedSimpArgs false
namespace Go.C36
open Go Go.Xe Go.Sx
structure Ro (l : List Int) (i : Int) (f : List Int) : Prop where
 i0 : -1 ≤ i
 i1 : i < l.length
 fl : f.length = l.length
 fd : f.drop (i + 1).toNat = frm (l.drop (i + 1).toNat)
structure In (l : List Int) (i k : Int) (f : List Int) (x v : Int) : Prop where
 i0 : 0 ≤ i
 k0 : i < k
 k1 : k ≤ l.length
 fl : f.length = l.length
 fd : f.drop (i + 1).toNat = frm (l.drop (i + 1).toNat)
 lx : l[i.toNat]? = some x
 fx : f[i.toNat]? = some v
 v1 : 1 ≤ v
 eq : max v (1 + best x (l.drop k.toNat) (f.drop k.toNat)) = 1 + best x (l.drop (i + 1).toNat) (f.drop (i + 1).toNat)
section
variable {l f : List Int} {i k x v y g : Int}
theorem ro_of (h : Ro l i f) : rlInv [.lst (l.map row)] [.int i, .lst (f.map row)] := by
 simp only [rlInv,nums_map,List.length_map]
 exact ⟨h.i0,h.i1,f,rfl,h.fl,h.fd⟩
theorem ro_get {F : Sx.Rows} (h : rlInv [.lst (l.map row)] [.int i, .lst F]) : ∃ f : List Int,F = f.map row ∧ Ro l i f := by
 simp only [rlInv,nums_map,List.length_map] at h
 obtain ⟨h1,h2,f,h3,h4,h5⟩ := h
 exact ⟨f,h3,h1,h2,h4,h5⟩
theorem ro_mu (hi : 0 ≤ i) (c d : Dat) (X : List Dat) : rlMu X [.int (i + -1),c] < rlMu X [.int i,d] := by
 simp only [rlMu]
 omega
theorem in_of (h : In l i k f x v) : innInv [.lst (l.map row), .int i] [.int k, .lst (f.map row)] := by
 simp only [innInv,nums_map,List.length_map]
 exact ⟨h.i0,h.k0,h.k1,f,x,v,rfl,h.fl,h.fd,h.lx,h.fx,h.v1,h.eq⟩
theorem in_get {F : Sx.Rows} (h : innInv [.lst (l.map row), .int i] [.int k, .lst F]) : ∃ (f : List Int) (x v : Int),F = f.map row ∧ In l i k f x v := by
 simp only [innInv,nums_map,List.length_map] at h
 obtain ⟨h1,h2,h3,f,x,v,h4,h5,h6,h7,h8,h9,h10⟩ := h
 exact ⟨f,x,v,h4,h1,h2,h3,h5,h6,h7,h8,h9,h10⟩
theorem in_mu {I : Dat} (hk : k < l.length) (a b : List Dat) : innMu [.lst (l.map row),I] (.int (k + 1) :: a) < innMu [.lst (l.map row),I] (.int k :: b) := by
 simp only [innMu,List.length_map]
 omega
theorem Ro.start : Ro l ((l.length : Int) + -1) (List.replicate l.length 0) := by
 refine ⟨by omega,by omega,by simp, ?_⟩
 rw [List.drop_of_length_le (by simp; omega),List.drop_of_length_le (by omega)]; rfl
theorem In.start (h : Ro l i f) (hi : 0 ≤ i) (hx : l[i.toNat]? = some x) : In l i (i + 1) (setN f i.toNat 1) x 1 := by
 have hil : i.toNat < f.length := by have := h.fl; have := h.i1; omega
 have e1 := toNat_succ hi
 have hd : (setN f i.toNat 1).drop (i + 1).toNat = f.drop (i + 1).toNat := by rw [e1,setN_drop' (by omega) (by omega)]
 refine ⟨hi,by omega,by have := h.i1; omega,by rw [setN_len hil]; exact h.fl,by rw [hd]; exact h.fd,hx,by rw [setN_get (by omega),if_pos rfl],by omega, ?_⟩
 have := best_nn x (l.drop (i + 1).toNat) ((setN f i.toNat 1).drop (i + 1).toNat)
 omega
theorem In.at (h : In l i k f x v) (hg : f[k.toNat]? = some g) : 1 ≤ g ∧ g ≤ l.length := by
 have hk := h.k0
 have hi := h.i0
 have e : (f.drop (i + 1).toNat)[k.toNat - (i + 1).toNat]? = some g := by
  rw [List.getElem?_drop,← hg]; congr 1; omega
 rw [h.fd] at e
 have := frm_bound _ _ _ e
 rw [List.length_drop] at this
 omega
theorem In.step (h : In l i k f x v) (hy : l[k.toNat]? = some y) (hg : f[k.toNat]? = some g) : max v (1 + if x < y then max g (best x (l.drop (k + 1).toNat) (f.drop (k + 1).toNat)) else best x (l.drop (k + 1).toNat) (f.drop (k + 1).toNat)) = 1 + best x (l.drop (i + 1).toNat) (f.drop (i + 1).toNat) := by
 have hk := h.k0
 have hi := h.i0
 rw [← h.eq,Sx.drop_at hy,Sx.drop_at hg,best_cons,toNat_succ (k := k) (by omega)]
theorem In.skip (h : In l i k f x v) (hy : l[k.toNat]? = some y) (hg : f[k.toNat]? = some g) (hc : x < y → ¬ v < g + 1) : In l i (k + 1) f x v := by
 have hlt := (List.getElem?_eq_some_iff.1 hy).1
 have hk := h.k0
 have hi := h.i0
 refine ⟨hi,by omega,by omega,h.fl,h.fd,h.lx,h.fx,h.v1, ?_⟩
 have := h.step hy hg
 rw [← this]
 by_cases c : x < y
 ·rw [if_pos c]; have := hc c; omega
 ·rw [if_neg c]
theorem In.take (h : In l i k f x v) (hy : l[k.toNat]? = some y) (hg : f[k.toNat]? = some g) (hc : x < y) (hv : v < g + 1) : In l i (k + 1) (setN f i.toNat (g + 1)) x (g + 1) := by
 have hlt := (List.getElem?_eq_some_iff.1 hy).1
 have hil := (List.getElem?_eq_some_iff.1 h.fx).1
 have hk := h.k0
 have hi := h.i0
 have hv1 := h.v1
 have d1 : (setN f i.toNat (g + 1)).drop (i + 1).toNat = f.drop (i + 1).toNat := setN_drop' (by omega) (by omega)
 have d2 : (setN f i.toNat (g + 1)).drop (k + 1).toNat = f.drop (k + 1).toNat := setN_drop' (by omega) (by omega)
 refine ⟨hi,by omega,by omega,by rw [setN_len hil]; exact h.fl,by rw [d1]; exact h.fd,h.lx,by rw [setN_get (by omega),if_pos rfl],by omega, ?_⟩
 have := h.step hy hg
 rw [d1,d2,← this,if_pos hc]
 omega
theorem In.done (h : In l i k f x v) (hk : ¬ k < l.length) : Ro l (i + -1) f := by
 have hk1 := h.k1
 have hi := h.i0
 have hi1 := h.k0
 have e := h.eq
 rw [List.drop_of_length_le (l := l) (i := k.toNat) (by omega)] at e
 have b0 : best x [] (f.drop k.toNat) = 0 := by unfold best; rfl
 rw [b0] at e
 have hv1 := h.v1
 have hd := Sx.drop_at h.lx
 have hfd := Sx.drop_at h.fx
 have e1 := toNat_succ hi
 have ei : (i + -1 + 1).toNat = i.toNat := by omega
 have hfr : f.drop i.toNat = frm (l.drop i.toNat) := by
  rw [hfd,hd,frm_cons,← e1,h.fd]
  rw [h.fd] at e
  congr 1; omega
 exact ⟨by omega,by omega,h.fl,by rw [ei]; exact hfr⟩
end
theorem vcRlens_ok : vcRlens := by
 unfold vcRlens Nd
 rintro _ ⟨l,rfl,hl⟩
 simp only [rlensRel,lenRel,rep_row,List.length_map,List.length_replicate,Int.toNat_natCast,nums_map,Int.lt_irrefl,not_false_eq_true,true_and,true_implies,and_true,need_twice,need_known,implies_true]
 repeat (refine And.intro (by omega) fun _ => ?_)
 have hs : Sx.part ((List.replicate l.length 0).map row) 0 l.length = (List.replicate l.length 0).map row := part_row (by simp)
 rw [hs]
 refine And.intro (ro_of Ro.start) fun _ i F hi => ?_
 obtain ⟨f,rfl,hO⟩ := ro_get hi
 have i0 := hO.i0
 have i1 := hO.i1
 have fl := hO.fl
 simp only [List.length_map,Int.lt_irrefl,not_false_eq_true,true_and,true_implies,fl]
 refine And.intro (fun hi => ?_) fun hi => ?_
 ·have e0 : (i + 1).toNat = 0 := by omega
  have hf : f = frm l := by have := hO.fd; rw [e0] at this; exact this
  subst hf
  repeat' first
   | rfl
   | (with_reducible refine And.intro ?_ ?_)
   | intro _
   | omega
 ·obtain ⟨x,hx⟩ := Sx.get_at (T := l) (i := i) (by omega) i1
  have hil : i.toNat < f.length := by omega
  have so : Sx.part (Sx.over (f.map row) i (chunk 1 1 [.int 1])) 0 l.length = (setN f i.toNat 1).map row := by rw [over_row,part_row (by rw [setN_len hil,fl])]
  have sl : ((Sx.over (f.map row) i (chunk 1 1 [.int 1])).length : Int) = l.length := by rw [over_row,List.length_map,setN_len hil,fl]
  simp only [so,sl,cellAt_map hx,row0,toInt_int,Int.lt_irrefl,not_false_eq_true,true_and,true_implies]
  repeat (refine And.intro (by omega) fun _ => ?_)
  refine And.intro (in_of (In.start hO (by omega) hx)) fun _ k F' hi' => ?_
  obtain ⟨f',x',v,rfl,hI⟩ := in_get hi'
  have hx' := hI.lx
  rw [hx] at hx'
  cases hx'
  have k0 := hI.k0
  have fl' := hI.fl
  have hil' : i.toNat < f'.length := by omega
  have hv := hI.fx
  simp only [List.length_map,Int.lt_irrefl,not_false_eq_true,true_and,true_implies,fl']
  refine And.intro (fun hk => ?_) fun hk => ?_
  ·obtain ⟨y,hy⟩ := Sx.get_at (T := l) (i := k) (by omega) hk
   obtain ⟨g,hg⟩ := Sx.get_at (T := f') (i := k) (by omega) (by omega)
   have hb := hI.at hg
   have so' : Sx.part (Sx.over (f'.map row) i (chunk 1 1 [.int (g + 1)])) 0 l.length = (setN f' i.toNat (g + 1)).map row := by rw [over_row,part_row (by rw [setN_len hil',fl'])]
   have sl' : ((Sx.over (f'.map row) i (chunk 1 1 [.int (g + 1)])).length : Int) = l.length := by rw [over_row,List.length_map,setN_len hil',fl']
   simp only [cellAt_map hy,cellAt_map hg,cellAt_map hv,row0,toInt_int,so',sl',true_and,true_implies]
   repeat (refine And.intro (by omega) fun _ => ?_)
   refine And.intro (fun hxy => ?_) fun hxy => ?_
   ·repeat (refine And.intro (by omega) fun _ => ?_)
    refine And.intro (fun hvg => ?_) fun hvg => ?_
    ·have tk := in_of (hI.take hy hg hxy hvg)
     repeat' first
      | with_reducible exact tk
      | (with_reducible refine And.intro ?_ ?_)
      | intro _
      | omega
      | with_reducible exact in_mu hk _ _
    ·have sk := in_of (hI.skip hy hg fun _ => hvg)
     repeat' first
      | with_reducible exact sk
      | (with_reducible refine And.intro ?_ ?_)
      | intro _
      | omega
      | with_reducible exact in_mu hk _ _
   ·have sk := in_of (hI.skip hy hg fun c => absurd c hxy)
    repeat' first
     | with_reducible exact sk
     | (with_reducible refine And.intro ?_ ?_)
     | intro _
     | omega
     | with_reducible exact in_mu hk _ _
  ·have dn := ro_of (hI.done hk)
   repeat' first
    | with_reducible exact dn
    | (with_reducible refine And.intro ?_ ?_)
    | intro _
    | omega
    | with_reducible exact ro_mu (by omega) _ _ _
theorem vpick_cons (x f : Int) (l fs : List Int) (n y : Int) : vpick (x :: l) (f :: fs) n y = if f = n ∧ y < x then x :: vpick l fs (n - 1) x else vpick l fs n y := rfl
theorem vpick_nil (fs : List Int) (n y : Int) : vpick [] fs n y = [] := by cases fs <;> rfl
theorem vcRkept_ok : vcRkept := by
 unfold vcRkept Nd
 rintro _ ⟨l,rfl,hl⟩
 have hL : rlensPre [.lst (l.map row)] := ⟨l,rfl,hl⟩
 have fb := frm_bound l
 have fl := frm_len l
 have mx := maxF_le l
 have mn := maxL_nn (frm l)
 simp only [hL,rlensRel,lenRel,nums_map,forall_eq,rkeptRel,kmInv,kmMu,List.length_map,Int.lt_irrefl,not_false_eq_true,true_and,true_implies,and_true,need_twice,need_known,implies_true,fl]
 refine And.intro ⟨by omega,by omega,rfl⟩ fun _ j m ⟨j0,j1,hm⟩ => And.intro (fun hj => ?_) fun hj => ?_
 ·obtain ⟨g,hg⟩ := Sx.get_at (T := frm l) (i := j) j0 (by omega)
  have e := toNat_succ j0
  have hb := fb _ _ hg
  have hm' : maxL ((frm l).take (j + 1).toNat) = max m g := by rw [e,take_succ_at hg,maxL_app _ _ (by omega),hm]
  simp only [cellAt_map hg,row0,toInt_int,hm']
  repeat' first
   | (with_reducible refine And.intro ?_ ?_)
   | intro _
   | omega
 ·rw [List.take_of_length_le (by omega)] at hm
  subst hm
  have ini : kpInv [.lst (l.map row), .lst ((frm l).map row), .int (maxL (frm l))] [.int 0, .lst ([] : Sx.Rows), .int (-1)] := by
   simp only [kpInv,nums_map,List.length_map]
   exact ⟨by omega,by omega,[],rfl,by simp,by simp⟩
  refine And.intro ini fun _ k O y hi => ?_
  simp only [kpInv,nums_map,List.length_map] at hi
  obtain ⟨k0,k1,o,rfl,ol,ho⟩ := hi
  simp only [List.length_map,Int.lt_irrefl,not_false_eq_true,true_and,true_implies]
  refine And.intro (fun hk => ?_) fun hk => ?_
  ·obtain ⟨x,hx⟩ := Sx.get_at (T := l) (i := k) k0 hk
   obtain ⟨g,hg⟩ := Sx.get_at (T := frm l) (i := k) k0 (by omega)
   have e := toNat_succ k0
   rw [Sx.drop_at hx,Sx.drop_at hg,vpick_cons,← e] at ho
   simp only [cellAt_map hx,cellAt_map hg,row0,toInt_int,map_app_row]
   have skip : ¬ (g = maxL (frm l) - o.length ∧ y < x) → kpInv [.lst (l.map row), .lst ((frm l).map row), .int (maxL (frm l))] [.int (k + 1), .lst (o.map row), .int y] := fun h => by
    rw [if_neg h] at ho
    simp only [kpInv,nums_map,List.length_map]
    exact ⟨by omega,by omega,o,rfl,by omega,ho⟩
   have take : (g = maxL (frm l) - o.length ∧ y < x) → kpInv [.lst (l.map row), .lst ((frm l).map row), .int (maxL (frm l))] [.int (k + 1), .lst ((o ++ [x]).map row), .int x] := fun h => by
    rw [if_pos h] at ho
    simp only [kpInv,nums_map,List.length_map]
    refine ⟨by omega,by omega,o ++ [x],rfl,by rw [List.length_append]; simp; omega, ?_⟩
    rw [← ho,List.append_assoc,List.length_append,show maxL (frm l) - ((o.length + [x].length : Nat) : Int) = maxL (frm l) - o.length - 1 by simp only [List.length_cons,List.length_nil]; omega]
    rfl
   have mu : ∀ (a b : List Dat) ,kpMu [.lst (l.map row), .lst ((frm l).map row), .int (maxL (frm l))] (.int (k + 1) :: a) < kpMu [.lst (l.map row), .lst ((frm l).map row), .int (maxL (frm l))] (.int k :: b) := fun a b => by
    simp only [kpMu,List.length_map]; omega
   refine And.intro (by omega) fun _ => And.intro hk fun _ => And.intro (by omega) fun _ => And.intro (fun hgn => ?_) fun hgn => ?_
   ·repeat (refine And.intro (by first | exact hgn | omega) fun _ => ?_)
    refine And.intro (fun hyx => ?_) fun hyx => ?_
    ·have inv := take ⟨hgn,hyx⟩
     repeat' first
      | with_reducible exact inv
      | with_reducible exact mu _ _
      | (with_reducible refine And.intro ?_ ?_)
      | intro _
      | omega
    ·have inv := skip fun c => hyx c.2
     repeat' first
      | with_reducible exact inv
      | with_reducible exact mu _ _
      | (with_reducible refine And.intro ?_ ?_)
      | intro _
      | omega
   ·have inv := skip fun c => hgn c.1
    repeat' first
     | with_reducible exact inv
     | with_reducible exact mu _ _
     | exact hgn
     | (with_reducible refine And.intro ?_ ?_)
     | intro _
     | omega
  ·rw [List.drop_of_length_le (by omega),vpick_nil,List.append_nil] at ho
   have hr : o = rkept l := ho
   subst hr
   repeat' first
    | rfl
    | (with_reducible refine And.intro ?_ ?_)
    | intro _
    | omega
end Go.C36
