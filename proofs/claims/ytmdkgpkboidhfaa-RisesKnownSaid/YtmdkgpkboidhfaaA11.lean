/- Chapter 08, RisesLeast: the condition holds.
  Conditions: none. -/
import Derived.Test.YtmdkgpkboidhfaaA9
import Derived.Test.YtmdkgpkboidhfaaA10
set_option linter.unusedVariables false
set_option linter.unusedSimpArgs false
namespace Go.C08
open Go Go.Xe Go.Sx
structure Ot (l : List Int) (k : Int) (o : List Int) : Prop where
 k0 : 0≤k
 k1 : k≤l.length
 vl : Vl l none 0 o
 rg : ∀ a ∈ o,0≤a∧a < k
 ln : (o.length : Int)≤k
section
variable {l o g : List Int} {k x : Int}
theorem Ot.skip (h : Ot l k o) (hk : k < l.length) : Ot l (k+1) o :=
 ⟨by have:=h.k0; omega,by omega,h.vl,fun a ha=>by have:=h.rg a ha; omega,by have:=h.ln; omega⟩
theorem Ot.take (h : Ot l k o) (hx : l[k.toNat]? = some x) (hl : ∀ z,lastN l o=some z→z < x) : Ot l (k+1) (o ++ [k]):=by
 have hlt:=(List.getElem?_eq_some_iff.1 hx).1
 have h0:=h.k0
 have hn:=h.ln
 refine ⟨by omega,by omega,h.vl.snoc (fun a ha=>(h.rg a ha).2) h0 h0 hx (fun _ z hz=>by cases hz) hl,fun a ha => ?_,by rw [List.length_append]; simp; omega⟩
 rcases List.mem_append.1 ha with ha | ha
 ·have:=h.rg a ha; omega
 ·simp at ha; omega
theorem Ot.last (h : Ot l k o) (ho : 0 < (o.length : Int)) : ∃ j y : Int,o[((o.length : Int) + -1).toNat]? = some j∧0≤j∧j < k∧l[j.toNat]? = some y ∧ ∀ z,lastN l o=some z ↔ z=y:=by
 obtain ⟨j,hj⟩:=Sx.get_at (T:=o) (i:=(o.length : Int) + -1) (by omega) (by omega)
 obtain ⟨h1,h2⟩:=h.rg j (List.mem_of_getElem? hj)
 have hk:=h.k1
 obtain ⟨y,hy⟩:=Sx.get_at (T:=l) (i:=j) h1 (by omega)
 refine ⟨j,y,hj,h1,h2,hy,fun z => ?_⟩
 have hl : o.getLast? = some j:=by rw [List.getLast?_eq_getElem?,← hj]; congr 1; omega
 unfold lastN
 rw [hl]
 show l[j.toNat]? = some z ↔ z=y
 rw [hy]
 constructor
 ·intro e; exact (Option.some.inj e).symm
 ·rintro rfl; rfl
end
end Go.C08
