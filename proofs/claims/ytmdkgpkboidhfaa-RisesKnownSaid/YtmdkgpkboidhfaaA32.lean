/- Chapter 08, carrying steps out: the conditions of Carry and of the definition's step hold.
  Conditions: none. -/
import Derived.Test.YtmdkgpkboidhfaaA30
import Derived.Test.YtmdkgpkboidhfaaA31
set_option linter.unusedVariables false
set_option linter.unusedSimpArgs false
namespace Go.C08
open Go Go.Xe Go.Sx
theorem cell_row {o : List Int} {k x : Int} (h : o[k.toNat]? = some x) : (Sx.cellAt (o.map row) k 0).toInt=x:=by
 rw [cellAt_map (f:=row) h]; rfl
theorem row_at {o : List Int} {k : Int} (h0 : 0≤k) (h1 : k < o.length) : ∃ x,o[k.toNat]? = some x∧(Sx.cellAt (o.map row) k 0).toInt=x:=by
 have h : o[k.toNat]? = some (o[k.toNat]'(by omega)):=List.getElem?_eq_getElem (by omega)
 exact ⟨_,h,cell_row h⟩
theorem sp_at {ss : List Sp} {k : Int} (h0 : 0≤k) (h1 : k < ss.length) : ∃ s,ss[k.toNat]? = some s∧(Sx.cellAt (ss.map Sp.row) k 0).toInt=s.w∧(Sx.cellAt (ss.map Sp.row) k 1).toInt=s.a:=by
 have h : ss[k.toNat]? = some (ss[k.toNat]'(by omega)):=List.getElem?_eq_getElem (by omega)
 exact ⟨_,h,by rw [cellAt_map (f:=Sp.row) h]; rfl,by rw [cellAt_map (f:=Sp.row) h]; rfl⟩
theorem ix_0 (o : List Int) (x : Int) : ixInv [.lst (o.map row), .int x] [.int 0]:=by
 simp only [ixInv]
 exact ⟨by omega,by omega,by simp⟩
theorem ix_s {o : List Int} {x y k : Int} (h : ixInv [.lst (o.map row), .int x] [.int k]) (hy : o[k.toNat]? = some y) (hne : x ≠ y) : ixInv [.lst (o.map row), .int x] [.int (k+1)]:=by
 simp only [ixInv,nums_map,List.length_map] at h ⊢
 obtain ⟨h1,h2,h3⟩:=h
 have hl:=(List.getElem?_eq_some_iff.1 hy).1
 refine ⟨by omega,by omega, ?_⟩
 rw [toNat_succ h1,List.take_add_one,hy]
 simp only [Option.toList_some,List.mem_append,List.mem_singleton,not_or]
 exact ⟨h3,hne⟩
theorem ix_m {o : List Int} {x k : Int} (h0 : 0≤k) (h1 : k < o.length) : ixMu [.lst (o.map row), .int x] [.int (k+1)] < ixMu [.lst (o.map row), .int x] [.int k]:=by
 simp only [ixMu,List.length_map]; omega
theorem ix_y {o : List Int} {x k : Int} (h : ixInv [.lst (o.map row), .int x] [.int k]) (hy : o[k.toNat]? = some x) : x ∈ o∧o.idxOf x=k.toNat:=by
 simp only [ixInv,nums_map,List.length_map] at h
 refine ⟨List.mem_of_getElem? hy, ?_⟩
 obtain ⟨h1,h2⟩:=idx_split (List.mem_of_getElem? hy)
 have hk:=(List.getElem?_eq_some_iff.1 hy).1
 have hi : o.idxOf x < o.length:=List.idxOf_lt_length_iff.2 (List.mem_of_getElem? hy)
 rcases Nat.lt_trichotomy (o.idxOf x) k.toNat with c | c | c
 ·exfalso
  refine h.2.2 (List.mem_of_getElem? (i:=o.idxOf x) ?_)
  rw [List.getElem?_take,if_pos c]
  have:=congrArg List.head? h1
  rw [List.head?_drop] at this
  exact this
 ·exact c
 ·exfalso
  refine h2 (List.mem_of_getElem? (i:=k.toNat) ?_)
  rw [List.getElem?_take,if_pos c]; exact hy
theorem ix_n {o : List Int} {x k : Int} (h : ixInv [.lst (o.map row), .int x] [.int k]) (hk : ¬ k < o.length) : x ∉ o:=by
 simp only [ixInv,nums_map,List.length_map] at h
 have:=h.2.2
 rwa [List.take_of_length_le (by omega)] at this
theorem car_err {l o : List Int} {ss : List Sp} {k : Int} {s : Sp} (hc : carL l (ss.take k.toNat)=(o,0)) (hs : ss[k.toNat]? = some s) (he : stepE o s ≠ 0) : carL l ss=([],stepE o s):=by
 have e : ss=ss.take k.toNat ++ s :: ss.drop (k.toNat+1):=by rw [← Sx.drop_at hs,List.take_append_drop]
 rw [e,carL_app _ _ _ _ hc,carL,if_neg he]
theorem car_next {l o : List Int} {ss : List Sp} {k : Int} {s : Sp} (h0 : 0≤k) (hc : carL l (ss.take k.toNat)=(o,0)) (hs : ss[k.toNat]? = some s) (he : stepE o s=0) : carL l (ss.take (k+1).toNat)=(stepL o s,0):=by
 rw [toNat_succ h0,List.take_add_one,hs,carL_app _ _ _ _ hc]
 simp only [Option.toList_some,carL,if_pos he]
theorem erase_idx {o : List Int} {x : Int} (h : x ∈ o) : o.take (o.idxOf x) ++ o.drop (o.idxOf x + 1) = o.erase x := by
 induction o with
 | nil=>simp at h
 | cons y o ih =>
  by_cases e : y=x
  ·subst e; simp [List.idxOf_cons]
  ·have hm : x ∈ o := by
    rcases List.mem_cons.1 h with h | h
    ·exact absurd h.symm e
    ·exact h
   rw [List.idxOf_cons,show (y == x)=false by simpa using e,List.erase_cons,if_neg (by simpa using e)]
   simpa using ih hm
section
variable {l o : List Int} {ss : List Sp} {k j : Int} {s : Sp}
theorem del_rows (h : o[j.toNat]? = some s.w) (h0 : 0≤j) (hi : o.idxOf s.w=j.toNat) : Sx.part (o.map row) 0 j ++ Sx.part (o.map row) (j+1) (((o.map row).length : Int) - (j+1))=(o.erase s.w).map row:=by
 have hm:=List.mem_of_getElem? h
 rw [part_take,part_drop o (by omega) (by rw [List.length_map]),← List.map_append,toNat_succ h0,← hi,erase_idx hm]
theorem ins_rows {m : List Int} {t : Int} (w : Int) (h0 : 0≤t) (h1 : t≤m.length) {n : Int} (hn : n=m.length) : (Sx.part (m.map row) 0 t ++ Sx.chunk 1 1 [.int w]) ++ Sx.part (m.map row) t (n - t)=(m.take t.toNat ++ w :: m.drop t.toNat).map row:=by
 rw [part_take,part_drop m h0 (by omega),show Sx.chunk 1 1 [.int w]=[row w] from rfl]
 simp
end
theorem nd_eq {p q : Prop} : (p∧(p→q))=(p∧q):=propext ⟨fun h=>⟨h.1,h.2 h.1⟩,fun h=>⟨h.1,fun _=>h.2⟩⟩
end Go.C08
