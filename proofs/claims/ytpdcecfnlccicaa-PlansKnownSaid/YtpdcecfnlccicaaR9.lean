/- Chapter 36 (rises), the plain law of RisesLeast: what is picked is a longest rising subsequence, and the first one of those.
  Conditions: none. -/
import Derived.Test.YtpdcecfnlccicaaR8
set_option linter.unusedVariables false
set_option linter.unusedSimpArgs false
namespace Go.C36
open Go Go.Xe Go.Sx
theorem frm_at {l : List Int} {a b : Nat} {x y f g : Int} (hab : a < b) (hx : l[a]? = some x) (hy : l[b]? = some y) (hxy : x < y) (hf : (frm l)[a]? = some f) (hg : (frm l)[b]? = some g) : g+1≤f:=by
 have h1:=Sx.drop_at hf
 rw [frm_drop,Sx.drop_at hx,frm_cons] at h1
 have h2:=(List.cons.inj h1).1
 have h3:=best_ge x (l.drop (a+1)) (frm (l.drop (a+1))) (b - a - 1) g y (by rw [← frm_drop,List.getElem?_drop,← hg]; congr 1; omega) (by rw [List.getElem?_drop,← hy]; congr 1; omega) hxy
 omega
theorem frm_ex {l : List Int} {a : Nat} {x : Int} (hx : l[a]? = some x) : ∃ f,(frm l)[a]? = some f :=
 ⟨_,List.getElem?_eq_getElem (by rw [frm_len]; exact (List.getElem?_eq_some_iff.1 hx).1)⟩
theorem maxL_ge : ∀ {l : List Int} {m : Nat} {x : Int},l[m]? = some x→x≤maxL l
 | y :: l,0,x,h=>by cases h; show y≤max y (maxL l); omega
 | y :: l,m+1,x,h=>by have:=maxL_ge (l:=l) (m:=m) (x:=x) h; show x≤max y (maxL l); omega
 | [],m,x,h=>by simp at h
theorem Vl.high {l : List Int} : ∀ {o : List Int} {last : Option Int} {k a : Int},Vl l last k (a :: o) → ∃ f,(frm l)[a.toNat]? = some f∧(o.length : Int)+1≤f
 | [],last,k,a,h=>by
  obtain ⟨_,_,x,hx,_,_⟩:=h
  obtain ⟨f,hf⟩:=frm_ex hx
  exact ⟨f,hf,by have:=(frm_bound l _ f hf).1; simp; omega⟩
 | b :: o,last,k,a,h=>by
  obtain ⟨_,h2,x,hx,_,h5⟩:=h
  obtain ⟨g,hg,hl⟩:=Vl.high h5
  obtain ⟨q1,q2,y,hy,q4,_⟩:=h5
  obtain ⟨f,hf⟩:=frm_ex hx
  have:=frm_at (a:=a.toNat) (b:=b.toNat) (by omega) hx hy (q4 x rfl) hf hg
  exact ⟨f,hf,by simp at hl ⊢; omega⟩
theorem Vl.len {l o : List Int} (h : Vl l none 0 o) : (o.length : Int)≤maxL (frm l):=by
 cases o with
 | nil=>have:=maxL_nn (frm l); simp; omega
 | cons a o =>
  obtain ⟨f,hf,hl⟩:=h.high
  have:=maxL_ge hf
  simp; omega
theorem pick_head {l : List Int} : ∀ (c : Nat) {k n : Int} {last : Option Int} {a : Int} {o : List Int}, 0 ≤ k → l.length - k.toNat = c → pickL (l.drop k.toNat) ((frm l).drop k.toNat) k n last = a :: o →
  k≤a∧0 < n ∧ ∃ x,l[a.toNat]? = some x∧(frm l)[a.toNat]? = some n∧(∀ y,last=some y→y < x)∧(∀ (b y : Int),k≤b→b < a→l[b.toNat]? = some y→(frm l)[b.toNat]? = some n → ¬ ∀ z,last=some z→z < y) ∧
   o=pickL (l.drop (a+1).toNat) ((frm l).drop (a+1).toNat) (a+1) (n - 1) (some x)
 | 0,k,n,last,a,o,h0,hc,h=>by
  rw [List.drop_of_length_le (l:=l) (by omega),pickL_nil] at h
  cases h
 | c+1,k,n,last,a,o,h0,hc,h=>by
  obtain ⟨x,hx⟩:=Sx.get_at (T:=l) (i:=k) h0 (by omega)
  obtain ⟨f,hf⟩:=frm_ex hx
  rw [Sx.drop_at hx,Sx.drop_at hf,pickL_cons] at h
  have e:=toNat_succ h0
  by_cases hh : 0 < n∧f=n ∧ ∀ y,last=some y→y < x
  ·rw [if_pos hh] at h
   obtain ⟨rfl,rfl⟩:=List.cons.inj h
   exact ⟨Int.le_refl _,hh.1,x,hx,by rw [hf,hh.2.1],hh.2.2,fun b y h1 h2=>by omega,by rw [e]⟩
  ·rw [if_neg hh,← e] at h
   obtain ⟨h1,h2,x',h3,h4,h5,h6,h7⟩:=pick_head c (by omega) (by omega) h
   refine ⟨by omega,h2,x',h3,h4,h5,fun b y k1 k2 k3 k4 k5 => ?_,h7⟩
   by_cases eb : b=k
   ·subst eb
    rw [hx] at k3
    rw [hf] at k4
    cases k3; cases k4
    exact hh ⟨h2,rfl,k5⟩
   ·exact h6 b y (by omega) k2 k3 k4 k5
theorem pick_vl {l : List Int} : ∀ (o : List Int) {k n : Int} {last : Option Int},0≤k→pickL (l.drop k.toNat) ((frm l).drop k.toNat) k n last=o→Vl l last k o
 | [],k,n,last,_,_=>trivial
 | a :: o,k,n,last,h0,h=>by
  obtain ⟨h1,h2,x,h3,h4,h5,h6,h7⟩:=pick_head _ h0 rfl h
  exact ⟨h1,by omega,x,h3,h5,pick_vl o (by omega) h7.symm⟩
theorem lis_vl (l : List Int) : Vl l none 0 (lis l):=pick_vl (lis l) (k:=0) (n:=maxL (frm l)) (Int.le_refl 0) rfl
def Lex : List Int→List Int→Prop
 | a :: g,b :: o=>a < b ∨ (a=b∧Lex g o)
 | _,_=>True
theorem Lex.get : ∀ {g o : List Int} {k : Nat} {a b : Int},Lex g o→g.take k=o.take k→g[k]? = some a→o[k]? = some b→a ≠ b→a < b
 | x :: g,y :: o,0,a,b,h,_,ha,hb,hne=>by
  cases ha; cases hb
  exact h.elim id fun c=>absurd c.1 hne
 | x :: g,y :: o,k+1,a,b,h,ht,ha,hb,hne=>by
  have ht' := List.cons.inj ht
  rcases h with h | ⟨_,h⟩
  ·rw [ht'.1] at h; omega
  ·exact Lex.get h ht'.2 ha hb hne
 | [],_,k,a,b,_,_,ha,_,_=>by simp at ha
 | _ :: _,[],k,a,b,_,_,_,hb,_=>by simp at hb
theorem Vl.at {l : List Int} : ∀ {o : List Int} {last : Option Int} {k : Int} {i : Nat} {a : Int},Vl l last k o→o[i]? = some a→k≤a∧0≤a ∧ ∃ x,l[a.toNat]? = some x
 | b :: o,last,k,0,a,h,ha=>by cases ha; exact ⟨h.1,h.2.1,h.2.2.choose,h.2.2.choose_spec.1⟩
 | b :: o,last,k,i+1,a,h,ha=>by
  obtain ⟨h1,h2,x,h3,h4,h5⟩:=h
  obtain ⟨q1,q2⟩:=Vl.at h5 (i:=i) ha
  exact ⟨by omega,q2⟩
 | [],_,_,i,a,h,ha=>by simp at ha
end Go.C36
