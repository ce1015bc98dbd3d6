/- Chapter 36, PlansOf: the plain law (what the plan keeps is what the definition keeps).
  Conditions: none. -/
import Derived.Test.YtpdcecfnlccicaaQ7
set_option linter.unusedVariables false
set_option linter.unusedSimpArgs false
namespace Go.C36
open Go Go.Xe Go.Sx
def mono (g : Int → Int) (l : List Int) : Prop := ∀ x ∈ l,∀ y ∈ l,x < y ↔ g x < g y
theorem best_map {g : Int → Int} {x : Int} : ∀ {l fs : List Int},(∀ y ∈ l,x < y ↔ g x < g y) → best (g x) (l.map g) fs = best x l fs
 | [],fs,_ => by cases fs <;> rfl
 | y :: l,[],_ => rfl
 | y :: l,f :: fs,h => by
  rw [List.map_cons,best_cons,best_cons,best_map fun z hz => h z (by simp [hz])]
  have := h y (by simp)
  by_cases c : x < y
  ·rw [if_pos c,if_pos (this.1 c)]
  ·rw [if_neg c,if_neg fun d => c (this.2 d)]
theorem frm_map {g : Int → Int} : ∀ {l : List Int},mono g l → frm (l.map g) = frm l
 | [],_ => rfl
 | x :: l,h => by
  rw [List.map_cons,frm_cons,frm_cons,frm_map (fun a ha b hb => h a (by simp [ha]) b (by simp [hb])),best_map fun y hy => h x (by simp) y (by simp [hy])]
theorem pick_map {g : Int → Int} {L : List Int} (h : mono g L) : ∀ {l fs : List Int} {i n : Int} {last : Option Int},(∀ x ∈ l,x ∈ L) → (∀ x,last = some x → x ∈ L) → pickL (l.map g) fs i n (last.map g) = pickL l fs i n last
 | [],fs,i,n,last,_,_ => by rw [List.map_nil,pickL_nil,pickL_nil]
 | x :: l,[],i,n,last,_,_ => rfl
 | x :: l,f :: fs,i,n,last,hl,ha => by
  have hx := hl x (by simp)
  have e : (∀ y,last.map g = some y → y < g x) ↔ (∀ y,last = some y → y < x) := by
   cases last with
   | none => simp
   | some z =>
    simp only [Option.map_some,Option.some.injEq,forall_eq']
    exact (h z (ha z rfl) x hx).symm
  rw [List.map_cons,pickL_cons,pickL_cons]
  have r1 := pick_map h (l := l) (fs := fs) (i := i + 1) (n := n - 1) (last := some x) (fun y hy => hl y (by simp [hy])) (fun y hy => by cases hy; exact hx)
  have r2 := pick_map h (l := l) (fs := fs) (i := i + 1) (n := n) (last := last) (fun y hy => hl y (by simp [hy])) ha
  rw [Option.map_some] at r1
  by_cases c : 0 < n ∧ f = n ∧ ∀ y,last = some y → y < x
  ·rw [if_pos c,if_pos ⟨c.1,c.2.1,e.2 c.2.2⟩,r1]
  ·rw [if_neg c,if_neg fun d => c ⟨d.1,d.2.1,e.1 d.2.2⟩,r2]
theorem lis_map {g : Int → Int} {l : List Int} (h : mono g l) : lis (l.map g) = lis l := by
 unfold lis
 rw [frm_map h]
 exact pick_map h (last := none) (fun x hx => hx) (fun x hx => by cases hx)
theorem vpick_eq {l : List Int} (h0 : ∀ x ∈ l, 0 ≤ x) : ∀ (c k : Nat) (n y : Int) (last : Option Int), l.length - k = c → (last = none ∧ y = -1 ∨ last = some y) →
  (pickL (l.drop k) ((frm l).drop k) k n last).map (fun j => l.getD j.toNat 0) = vpick (l.drop k) ((frm l).drop k) n y
 | 0,k,n,y,last,hc,_ => by
  rw [List.drop_of_length_le (l := l) (by omega),pickL_nil,vpick_nil]; rfl
 | c + 1,k,n,y,last,hc,hl => by
  have hk : k < l.length := by omega
  have hx : l[k]? = some l[k] := List.getElem?_eq_getElem hk
  have hf : (frm l)[k]? = some ((frm l)[k]'(by rw [frm_len]; exact hk)) := List.getElem?_eq_getElem _
  have hb := (frm_bound l _ _ hf).1
  have hn := h0 _ (List.mem_of_getElem? hx)
  generalize l[k] = x at hx hn
  generalize ((frm l)[k]'(by rw [frm_len]; exact hk)) = f at hf hb
  rw [Sx.drop_at hx,Sx.drop_at hf,pickL_cons,vpick_cons,show ((k : Int) + 1) = ((k + 1 : Nat) : Int) by omega]
  have e : (0 < n ∧ f = n ∧ (∀ z,last = some z → z < x)) ↔ (f = n ∧ y < x) := by
   rcases hl with ⟨rfl,rfl⟩ | rfl
   ·simp; omega
   ·simp only [Option.some.injEq,forall_eq']
    constructor
    ·rintro ⟨_,h1,h2⟩; exact ⟨h1,h2⟩
    ·rintro ⟨h1,h2⟩; exact ⟨by omega,h1,h2⟩
  by_cases hh : f = n ∧ y < x
  ·rw [if_pos (e.2 hh),if_pos hh,List.map_cons,vpick_eq h0 c (k + 1) (n - 1) x (some x) (by omega) (.inr rfl)]
   congr 1
   rw [List.getD_eq_getElem?_getD,Int.toNat_natCast,hx]; rfl
  ·rw [if_neg fun c => hh (e.1 c),if_neg hh,vpick_eq h0 c (k + 1) n y last (by omega) hl]
theorem rkept_eq {l : List Int} (h0 : ∀ x ∈ l,0 ≤ x) : rkept l = (lis l).map fun j => l.getD j.toNat 0 := by
 have := vpick_eq h0 l.length 0 (maxL (frm l)) (-1) none (by omega) (.inl ⟨rfl,rfl⟩)
 simpa [rkept,lis] using this.symm
theorem atI_mono : ∀ {f : List Int},f.Pairwise (· < ·) → ∀ x ∈ f,∀ y ∈ f,x < y ↔ atI f x < atI f y
 | [],_,x,hx,_,_ => by simp at hx
 | z :: f,h,x,hx,y,hy => by
  rw [List.pairwise_cons] at h
  rw [atI_cons,atI_cons]
  rcases List.mem_cons.1 hx with rfl | hx'
  ·rcases List.mem_cons.1 hy with rfl | hy'
   ·simp
   ·have h1 := h.1 y hy'
    have h2 := atI_nn.2 hy'
    rw [if_pos rfl,if_neg (by omega),if_neg (by omega)]
    omega
  ·have a1 := h.1 x hx'
   have a2 := atI_nn.2 hx'
   rw [if_neg (show ¬ z = x by omega),if_neg (by omega)]
   rcases List.mem_cons.1 hy with rfl | hy'
   ·rw [if_pos rfl]; omega
   ·have h1 := h.1 y hy'
    have h2 := atI_nn.2 hy'
    rw [if_neg (show ¬ z = y by omega),if_neg (by omega)]
    have := atI_mono h.2 x hx' y hy'
    omega
theorem asc_at {O : List Rw} (hO : O.Nodup) : O.Pairwise fun a b => atR O a < atR O b := by
 rw [List.pairwise_iff_getElem]
 intro i j hi hj hij
 have h1 : O[i]? = some O[i] := List.getElem?_eq_getElem hi
 have h2 : O[j]? = some O[j] := List.getElem?_eq_getElem hj
 rw [at_self hO h1,at_self hO h2]
 omega
theorem bf_asc {O N : List Rw} {P B : List Int} (hO : O.Nodup) : (lvOut O N P B).bf.Pairwise (· < ·) := by
 rw [lvOut_bf hO,List.pairwise_map]
 exact List.Pairwise.filter _ (asc_at hO)
theorem kept_same {O N : List Rw} {P B : List Int} (hO : O.Nodup) (hN : N.Nodup) : kOut O N P B = rkept (stOut O N P B).bh := by
 have hb := lvOut_bf (N := N) (P := P) (B := B) hO
 have hh := stOut_bh (O := O) (N := N) (P := P) (B := B)
 have hp := both_perm hO hN
 have sub : ∀ x ∈ (stOut O N P B).bh,x ∈ (lvOut O N P B).bf := fun x hx => by
  rw [hh] at hx
  rw [hb]
  obtain ⟨r,hr,rfl⟩ := List.mem_map.1 hx
  exact List.mem_map.2 ⟨r,hp.mem_iff.2 hr,rfl⟩
 have nn : ∀ x ∈ (stOut O N P B).bh,0 ≤ x := fun x hx => by
  rw [hh] at hx
  obtain ⟨r,hr,rfl⟩ := List.mem_map.1 hx
  exact (atR_get (by simpa using (List.mem_filter.1 hr).2)).1
 rw [rkept_eq nn]
 unfold kOut keptL ordOf
 rw [lis_map fun x hx y hy => atI_mono (bf_asc hO) x (sub x hx) y (sub y hy)]
theorem ofLeaves_len {O N : List Rw} {P B : List Int} : (ofLeaves O N P B).length ≤ O.length := by
 have : ∀ (l : List Rw) (i : Int) (s : LS),(lvAll N B i l s).lv.length ≤ s.lv.length + l.length := by
  intro l
  induction l with
  | nil => intro i s; exact Nat.le_refl _
  | cons x l ih =>
   intro i s
   rw [lvAll]
   have h := ih (i + 1) (lvStep N B s i x)
   have : (lvStep N B s i x).lv.length ≤ s.lv.length + 1 := by
    unfold lvStep
    split
    ·simp
    ·split <;> simp
   rw [List.length_cons]
   omega
 have h := this O 0 ⟨P,[],[]⟩
 simpa [ofLeaves,lvOut] using h
end Go.C36
