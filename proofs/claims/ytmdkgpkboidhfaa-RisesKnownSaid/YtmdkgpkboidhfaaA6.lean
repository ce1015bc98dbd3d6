/- Chapter 08, the definition's longest rising subsequence, and the law: the conditions hold.
  Conditions: none. -/
import Derived.Test.YtmdkgpkboidhfaaA5
set_option linter.unusedVariables false
set_option linter.unusedSimpArgs false
namespace Go.C08
open Go Go.Xe Go.Sx
structure Ou (l : List Int) (m i : Int) (f : List Int) : Prop where
 i0 : -1≤i
 i1 : i < l.length
 fl : f.length=l.length
 fd : f.drop (i+1).toNat=frm (l.drop (i+1).toNat)
 mx : m=maxL (frm (l.drop (i+1).toNat))
structure In (l : List Int) (i k : Int) (f : List Int) (x v : Int) : Prop where
 i0 : 0≤i
 k0 : i < k
 k1 : k≤l.length
 fl : f.length=l.length
 fd : f.drop (i+1).toNat=frm (l.drop (i+1).toNat)
 lx : l[i.toNat]? = some x
 fx : f[i.toNat]? = some v
 v1 : 1≤v
 eq : max v (1+best x (l.drop k.toNat) (f.drop k.toNat))=1+best x (l.drop (i+1).toNat) (f.drop (i+1).toNat)
section
variable {l f : List Int} {m i k x v y g : Int}
theorem Ou.start : Ou l 0 ((l.length : Int) + -1) (List.replicate l.length 0):=by
 refine ⟨by omega,by omega,by simp, ?_, ?_⟩
 ·rw [List.drop_of_length_le (by simp; omega),List.drop_of_length_le (by omega)]; rfl
 ·rw [List.drop_of_length_le (by omega)]; rfl
theorem In.start (h : Ou l m i f) (hi : 0≤i) (hx : l[i.toNat]? = some x) : In l i (i+1) (setN f i.toNat 1) x 1:=by
 have hil : i.toNat < f.length:=by have:=h.fl; have:=h.i1; omega
 have e1:=toNat_succ hi
 have hd : (setN f i.toNat 1).drop (i+1).toNat=f.drop (i+1).toNat:=by rw [e1,setN_drop' (by omega) (by omega)]
 refine ⟨hi,by omega,by have:=h.i1; omega,by rw [setN_len hil]; exact h.fl,by rw [hd]; exact h.fd,hx,by rw [setN_get (by omega),if_pos rfl],by omega, ?_⟩
 have:=best_nn x (l.drop (i+1).toNat) ((setN f i.toNat 1).drop (i+1).toNat)
 omega
theorem In.at (h : In l i k f x v) (hg : f[k.toNat]? = some g) : 1≤g∧g≤l.length:=by
 have hk:=h.k0
 have hi:=h.i0
 have e : (f.drop (i+1).toNat)[k.toNat - (i+1).toNat]? = some g:=by
  rw [List.getElem?_drop,← hg]; congr 1; omega
 rw [h.fd] at e
 have:=frm_bound _ _ _ e
 rw [List.length_drop] at this
 omega
theorem In.step (h : In l i k f x v) (hy : l[k.toNat]? = some y) (hg : f[k.toNat]? = some g) : max v (1+if x < y then max g (best x (l.drop (k+1).toNat) (f.drop (k+1).toNat)) else best x (l.drop (k+1).toNat) (f.drop (k+1).toNat))=1+best x (l.drop (i+1).toNat) (f.drop (i+1).toNat):=by
 have hk:=h.k0
 have hi:=h.i0
 rw [← h.eq,Sx.drop_at hy,Sx.drop_at hg,best_cons,toNat_succ (k:=k) (by omega)]
theorem In.skip (h : In l i k f x v) (hy : l[k.toNat]? = some y) (hg : f[k.toNat]? = some g) (hc : x < y → ¬ v < g+1) : In l i (k+1) f x v:=by
 have hlt:=(List.getElem?_eq_some_iff.1 hy).1
 have hk:=h.k0
 have hi:=h.i0
 refine ⟨hi,by omega,by omega,h.fl,h.fd,h.lx,h.fx,h.v1, ?_⟩
 have:=h.step hy hg
 rw [← this]
 by_cases c : x < y
 ·rw [if_pos c]; have:=hc c; omega
 ·rw [if_neg c]
theorem In.take (h : In l i k f x v) (hy : l[k.toNat]? = some y) (hg : f[k.toNat]? = some g) (hc : x < y) (hv : v < g+1) : In l i (k+1) (setN f i.toNat (g+1)) x (g+1):=by
 have hlt:=(List.getElem?_eq_some_iff.1 hy).1
 have hil:=(List.getElem?_eq_some_iff.1 h.fx).1
 have hk:=h.k0
 have hi:=h.i0
 have hv1:=h.v1
 have d1 : (setN f i.toNat (g+1)).drop (i+1).toNat=f.drop (i+1).toNat:=setN_drop' (by omega) (by omega)
 have d2 : (setN f i.toNat (g+1)).drop (k+1).toNat=f.drop (k+1).toNat:=setN_drop' (by omega) (by omega)
 refine ⟨hi,by omega,by omega,by rw [setN_len hil]; exact h.fl,by rw [d1]; exact h.fd,h.lx,by rw [setN_get (by omega),if_pos rfl],by omega, ?_⟩
 have:=h.step hy hg
 rw [d1,d2,← this,if_pos hc]
 omega
theorem In.done {g' : List Int} (h : In l i k f x v) (ho : Ou l m i g') (hk : ¬ k < l.length) : Ou l (max m v) (i + -1) f:=by
 have hk1:=h.k1
 have hi:=h.i0
 have hi1:=h.k0
 have e:=h.eq
 rw [List.drop_of_length_le (l:=l) (i:=k.toNat) (by omega)] at e
 have b0 : best x [] (f.drop k.toNat)=0:=by unfold best; rfl
 rw [b0] at e
 have hv1:=h.v1
 have hd:=Sx.drop_at h.lx
 have hfd:=Sx.drop_at h.fx
 have e1:=toNat_succ hi
 have ei : (i + -1+1).toNat=i.toNat:=by omega
 have hfr : f.drop i.toNat=frm (l.drop i.toNat):=by
  rw [hfd,hd,frm_cons,← e1,h.fd]
  rw [h.fd] at e
  congr 1; omega
 refine ⟨by omega,by omega,h.fl,by rw [ei]; exact hfr, ?_⟩
 rw [ei,hd,frm_cons,ho.mx,← e1]
 rw [h.fd] at e
 show _=max _ _
 omega
end
end Go.C08
