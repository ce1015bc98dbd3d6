/- Chapter 08, plain laws of ascending and descending lists.
  Conditions: none. -/
import Derived.Test.YtmdkgpkboidhfaaA34
set_option linter.unusedVariables false
namespace Go.C08
open Go.Xe Go.Sx
def asc (a : Int) : Nat→List Int
 | 0=>[]
 | n+1=>a :: asc (a+1) n
def dsc : Nat→List Int
 | 0=>[]
 | n+1=>((n : Int)+1) :: dsc n
def dwn (c : Int) : Nat→List Int
 | 0=>[]
 | n+1=>c :: dwn (c - 1) n
theorem asc_len : ∀ (a : Int) (n : Nat),(asc a n).length=n
 | _,0=>rfl
 | a,n+1=>by rw [asc,List.length_cons,asc_len (a+1) n]
theorem dwn_len : ∀ (a : Int) (n : Nat),(dwn a n).length=n
 | _,0=>rfl
 | a,n+1=>by rw [dwn,List.length_cons,dwn_len (a - 1) n]
theorem asc_get : ∀ (a : Int) (n i : Nat),(asc a n)[i]? = if i < n then some (a+i) else none
 | a,0,i=>by simp [asc]
 | a,n+1,0=>by simp [asc]
 | a,n+1,i+1=>by
  rw [asc,List.getElem?_cons_succ,asc_get (a+1) n i]
  by_cases h : i < n
  ·rw [if_pos h,if_pos (by omega)]; congr 1; omega
  ·rw [if_neg h,if_neg (by omega)]
theorem dwn_get : ∀ (a : Int) (n i : Nat),(dwn a n)[i]? = if i < n then some (a - i) else none
 | a,0,i=>by simp [dwn]
 | a,n+1,0=>by simp [dwn]
 | a,n+1,i+1=>by
  rw [dwn,List.getElem?_cons_succ,dwn_get (a - 1) n i]
  by_cases h : i < n
  ·rw [if_pos h,if_pos (by omega)]; congr 1; omega
  ·rw [if_neg h,if_neg (by omega)]
theorem asc_mem : ∀ {a x : Int} {n : Nat},x ∈ asc a n ↔ a≤x∧x < a+n
 | a,x,0=>by simp only [asc,List.not_mem_nil,false_iff]; omega
 | a,x,n+1=>by
  rw [asc,List.mem_cons,asc_mem (a:=a+1)]; omega
theorem dwn_mem : ∀ {a x : Int} {n : Nat},x ∈ dwn a n→x≤a
 | a,x,0,h=>by simp [dwn] at h
 | a,x,n+1,h=>by
  rw [dwn,List.mem_cons] at h
  rcases h with h | h
  ·omega
  ·have:=dwn_mem h; omega
theorem asc_nodup : ∀ (a : Int) (n : Nat),(asc a n).Nodup
 | a,0=>List.nodup_nil
 | a,n+1=>by
  rw [asc,List.nodup_cons]
  exact ⟨fun h=>by have:=asc_mem.1 h; omega,asc_nodup (a+1) n⟩
theorem asc_take : ∀ (a : Int) (m n : Nat),(asc a (m+n)).take m=asc a m
 | a,0,n=>by simp [asc]
 | a,m+1,n=>by
  rw [show m+1+n=(m+n)+1 by omega,asc,List.take_succ_cons,asc_take (a+1) m n,asc]
theorem dwn_take : ∀ (a : Int) (m n : Nat),(dwn a (m+n)).take m=dwn a m
 | a,0,n=>by simp [dwn]
 | a,m+1,n=>by
  rw [show m+1+n=(m+n)+1 by omega,dwn,List.take_succ_cons,dwn_take (a - 1) m n,dwn]
theorem best_nil (x : Int) (fs : List Int) : best x [] fs=0:=by unfold best; rfl
theorem best_zero (x : Int) : ∀ (l fs : List Int),(∀ b ∈ l,b≤x)→best x l fs=0
 | [],fs,_=>best_nil x fs
 | y :: l,[],_=>by unfold best; rfl
 | y :: l,f :: fs,h=>by
  have h1:=h y (by simp)
  rw [best_cons,if_neg (by omega),best_zero x l fs fun b hb=>h b (by simp [hb])]
theorem best_asc (x : Int) {B F : List Int} (hB : ∀ b ∈ B,b≤x) : ∀ (c : Int) (n : Nat),x < c→best x (asc c n ++ B) (dsc n ++ F)=n
 | c,0,_=>best_zero x B F hB
 | c,n+1,h=>by
  rw [asc,dsc,List.cons_append,List.cons_append,best_cons,if_pos h,best_asc x hB (c+1) n (by omega)]
  omega
theorem frm_asc {B : List Int} : ∀ (a : Int) (n : Nat),(∀ b ∈ B,b < a)→frm (asc a n ++ B)=dsc n ++ frm B
 | a,0,_=>rfl
 | a,n+1,h=>by
  rw [asc,List.cons_append,frm_cons,frm_asc (a+1) n fun b hb=>by have:=h b hb; omega,best_asc a (fun b hb=>by have:=h b hb; omega) (a+1) n (by omega),dsc,List.cons_append]
  congr 1; omega
theorem frm_dwn : ∀ (c : Int) (n : Nat),frm (dwn c n)=List.replicate n 1
 | c,0=>rfl
 | c,n+1=>by
  rw [dwn,frm_cons,frm_dwn (c - 1) n,best_zero c _ _ fun b hb=>by have:=dwn_mem hb; omega,List.replicate_succ]
  rfl
theorem maxL_dsc (F : List Int) (hF : 0≤maxL F) : ∀ n : Nat,maxL (dsc n ++ F)=max (n : Int) (maxL F)
 | 0=>by show maxL F=_; omega
 | n+1=>by
  rw [dsc,List.cons_append]
  show max ((n : Int)+1) (maxL (dsc n ++ F))=_
  rw [maxL_dsc F hF n]; omega
theorem pick_asc {B F : List Int} : ∀ (n : Nat) (a i : Int) (last : Option Int),(∀ y,last=some y→y < a)→pickL (asc a n ++ B) (dsc n ++ F) i n last=asc i n
 | 0,a,i,last,_=>by
  show pickL B F i 0 last=[]
  exact pickL_zero _ _ _ _ _ (by omega)
 | n+1,a,i,last,h=>by
  rw [asc,dsc,List.cons_append,List.cons_append,pickL_cons,if_pos ⟨by omega,by omega,h⟩,asc]
  congr 1
  rw [show ((n+1 : Nat) : Int) - 1=(n : Int) by omega]
  exact pick_asc n (a+1) (i+1) (some a) fun y hy=>by cases hy; omega
theorem lis_asc {B : List Int} {a : Int} {n : Nat} (h : ∀ b ∈ B,b < a) (hm : maxL (frm B)≤n) : lis (asc a n ++ B)=asc 0 n:=by
 unfold lis
 rw [frm_asc a n h,maxL_dsc _ (maxL_nn _),show max (n : Int) (maxL (frm B))=n by omega]
 exact pick_asc n a 0 none fun y hy=>by cases hy
theorem lis_up (a : Int) (n : Nat) : lis (asc a n)=asc 0 n:=by
 have:=lis_asc (B:=[]) (a:=a) (n:=n) (fun b hb=>by simp at hb) (by show (0 : Int)≤n; omega)
 rwa [List.append_nil] at this
theorem maxL_up (a : Int) (n : Nat) : maxL (frm (asc a n))=n:=by
 have:=lis_len (asc a n)
 rw [lis_up,asc_len] at this
 omega
theorem lis_turned {n m : Nat} (h : m≤n) {a : Int} (ha : (m : Int)≤a) : lis (asc a n ++ asc 0 m)=asc 0 n :=
 lis_asc (fun b hb=>by have:=asc_mem.1 hb; omega) (by rw [maxL_up]; omega)
theorem lis_dwn (c : Int) (n : Nat) : lis (dwn c (n+1))=[0]:=by
 have : dwn c (n+1)=asc c 1 ++ dwn (c - 1) n:=rfl
 rw [this,lis_asc (fun b hb=>by have:=dwn_mem hb; omega) ?_]
 ·rfl
 ·rw [frm_dwn]
  exact maxL_le _ _ (by omega) fun x hx=>by rw [List.mem_replicate] at hx; omega
theorem atI_up {n : Nat} {x : Int} (h0 : 0≤x) (h1 : x < n) : atI (asc 0 n) x=x:=by
 have:=atI_at (l:=asc 0 n) (k:=x.toNat) (x:=x) ?_ ?_
 ·omega
 ·intro h
  obtain ⟨i,hi⟩:=List.mem_iff_getElem?.1 h
  rw [List.getElem?_take] at hi
  split at hi
  ·rw [asc_get] at hi
   split at hi
   ·simp only [Option.some.injEq] at hi; omega
   ·cases hi
  ·cases hi
 ·rw [asc_get,if_pos (by omega)]; congr 1; omega
def trn (m n : Nat) : List Int:=asc m n ++ asc 0 m
theorem trn_mem {m n : Nat} {x : Int} : x ∈ trn m n ↔ 0≤x∧x < m+n:=by
 unfold trn; rw [List.mem_append,asc_mem,asc_mem]; omega
theorem trn_len (m n : Nat) : (trn m n).length=n+m:=by unfold trn; rw [List.length_append,asc_len,asc_len]
theorem trn_nodup (m n : Nat) : (trn m n).Nodup:=by
 unfold trn
 rw [List.nodup_append]
 refine ⟨asc_nodup _ _,asc_nodup _ _,fun a ha b hb => ?_⟩
 have:=asc_mem.1 ha
 have:=asc_mem.1 hb
 omega
theorem ord_trn (m n : Nat) : ordOf (asc 0 (n+m)) (trn m n)=trn m n:=by
 unfold ordOf
 refine (List.map_congr_left fun x hx => ?_).trans (List.map_id _)
 have:=trn_mem.1 hx
 exact atI_up this.1 (by omega)
theorem pair_trn (m n : Nat) : pairE (asc 0 (n+m)) (trn m n)=0:=by
 unfold pairE
 rw [if_pos (chk_mk (asc_nodup _ _) fun x hx=>(asc_mem.1 hx).1),if_pos (chk_mk (trn_nodup _ _) fun x hx=>(trn_mem.1 hx).1),if_pos]
 refine ⟨by rw [asc_len,trn_len],fun x hx => ?_⟩
 have:=trn_mem.1 hx
 exact asc_mem.2 (by omega)
theorem mvF_kept (K : List Int) {B : List Int} : ∀ (n : Nat) (a j : Int),(∀ i,j≤i→i < j+n→i ∈ K)→mvF K j (asc a n ++ B)=mvF K (j+n) B
 | 0,a,j,_=>by rw [asc,List.nil_append,show j+((0 : Nat) : Int)=j by omega]
 | n+1,a,j,h=>by
  rw [asc,List.cons_append,mvF,if_pos (h j (by omega) (by omega)),List.append_nil,mvF_kept K n (a+1) (j+1) fun i h1 h2=>h i (by omega) (by omega)]
  congr 1; omega
theorem mvF_out (K : List Int) : ∀ (n : Nat) (a j : Int),(∀ i ∈ K,i < j)→(mvF K j (asc a n)).length=n∧(0 < n→(mvF K j (asc a n))[0]? = some ⟨a+n - 1, -1⟩)∧(1 < n→(mvF K j (asc a n))[n - 1]? = some ⟨a,a+1⟩)
 | 0,a,j,_=>⟨rfl,fun h=>by omega,fun h=>by omega⟩
 | n+1,a,j,h=>by
  obtain ⟨h1,h2,h3⟩:=mvF_out K n (a+1) (j+1) fun i hi=>by have:=h i hi; omega
  have hj : j ∉ K:=fun hj=>by have:=h j hj; omega
  rw [asc,mvF,if_neg hj]
  refine ⟨by rw [List.length_append,h1]; rfl,fun _ => ?_,fun hn => ?_⟩
  ·cases n with
   | zero=>simp [asc,mvF,hdN]
   | succ n =>
    rw [List.getElem?_append_left (by omega),h2 (by omega)]
    congr 2; omega
  ·rw [show n+1 - 1=n by omega,List.getElem?_append_right (by omega),h1,Nat.sub_self]
   cases n with
   | zero=>omega
   | succ n=>rfl
theorem moves_trn {m n : Nat} (h : m≤n) (hm : 1 < m) : (movesL (asc 0 (n+m)) (trn m n)).length=m∧(movesL (asc 0 (n+m)) (trn m n))[0]? = some ⟨m - 1, -1⟩∧(movesL (asc 0 (n+m)) (trn m n))[m - 1]? = some ⟨0,1⟩:=by
 unfold movesL
 rw [ord_trn]
 have e : lis (trn m n)=asc 0 n:=lis_turned h (Int.le_refl _)
 rw [e]
 unfold trn
 rw [mvF_kept (asc 0 n) n m 0 fun i h0 h1=>asc_mem.2 ⟨h0,by omega⟩]
 obtain ⟨h1,h2,h3⟩:=mvF_out (asc 0 n) m 0 (0+n) fun i hi=>(asc_mem.1 hi).2
 refine ⟨h1,(h2 (by omega)).trans ?_,h3 hm⟩
 congr 2; omega
theorem car_rep : ∀ n : Nat,carL [1] (List.replicate n ⟨1, -1⟩)=([1],0)
 | 0=>rfl
 | n+1=>by
  rw [List.replicate_succ]
  have h1 : stepE [1] ⟨1, -1⟩=0:=by decide
  have h2 : stepL [1] ⟨1, -1⟩=[1]:=by decide
  rw [carL,if_pos h1,h2,car_rep n]
theorem setAt_row {l : List Int} {k x : Int} (h0 : 0≤k) (h1 : k < l.length) : Sx.setAt (l.map row) k 0 (.int x)=(l.set k.toNat x).map row:=by
 unfold Sx.setAt
 refine List.ext_getElem? fun i => ?_
 rw [List.getElem?_modify,List.getElem?_map,List.getElem?_map,List.getElem?_set]
 by_cases c : k.toNat=i
 ·subst c
  rw [if_pos rfl,if_pos (by omega)]
  have : l[k.toNat]? = some l[k.toNat]:=List.getElem?_eq_getElem (by omega)
  simp [this,row]
 ·rw [if_neg c]
  simp [c]
theorem setAt_sp {l : List Sp} {k x y : Int} (h0 : 0≤k) (h1 : k < l.length) : Sx.setAt (Sx.setAt (l.map Sp.row) k 0 (.int x)) k 1 (.int y)=(l.set k.toNat ⟨x,y⟩).map Sp.row:=by
 unfold Sx.setAt
 refine List.ext_getElem? fun i => ?_
 rw [List.getElem?_modify,List.getElem?_modify,List.getElem?_map,List.getElem?_map,List.getElem?_set]
 by_cases c : k.toNat=i
 ·subst c
  rw [if_pos rfl,if_pos (by omega)]
  have : l[k.toNat]? = some l[k.toNat]:=List.getElem?_eq_getElem (by omega)
  simp [this,Sp.row]
 ·rw [if_neg c]
  simp [c]
end Go.C08
