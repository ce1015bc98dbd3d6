/- Chapter 36, PlansKnown: ascending and descending lists.
  Conditions: none. -/
import Derived.Test.YtpdcecfnlccicaaQ3
set_option linter.unusedVariables false
namespace Go.C36
open Go.Xe Go.Sx
def asc (a : Int) : Nat→List Int
 | 0=>[]
 | n+1=>a :: asc (a+1) n
def dsc : Nat→List Int
 | 0=>[]
 | n+1=>((n : Int)+1) :: dsc n
def dwn (c : Int) : Nat→List Int
 | 0=>[]
 | n+1=>c :: dwn (c - 1) n
theorem asc_len : ∀ (a : Int) (n : Nat),(asc a n).length=n
 | _,0=>rfl
 | a,n+1=>by rw [asc,List.length_cons,asc_len (a+1) n]
theorem dwn_len : ∀ (a : Int) (n : Nat),(dwn a n).length=n
 | _,0=>rfl
 | a,n+1=>by rw [dwn,List.length_cons,dwn_len (a - 1) n]
theorem asc_get : ∀ (a : Int) (n i : Nat),(asc a n)[i]? = if i < n then some (a+i) else none
 | a,0,i=>by simp [asc]
 | a,n+1,0=>by simp [asc]
 | a,n+1,i+1=>by
  rw [asc,List.getElem?_cons_succ,asc_get (a+1) n i]
  by_cases h : i < n
  ·rw [if_pos h,if_pos (by omega)]; congr 1; omega
  ·rw [if_neg h,if_neg (by omega)]
theorem asc_mem : ∀ {a x : Int} {n : Nat},x ∈ asc a n ↔ a≤x∧x < a+n
 | a,x,0=>by simp only [asc,List.not_mem_nil,false_iff]; omega
 | a,x,n+1=>by
  rw [asc,List.mem_cons,asc_mem (a:=a+1)]; omega
theorem dwn_in : ∀ {a x : Int} {n : Nat},x ∈ dwn a n ↔ a - n < x∧x≤a
 | a,x,0=>by simp only [dwn,List.not_mem_nil,false_iff]; omega
 | a,x,n+1=>by
  rw [dwn,List.mem_cons,dwn_in (a:=a - 1)]; omega
theorem dwn_mem {a x : Int} {n : Nat} (h : x ∈ dwn a n) : x≤a:=(dwn_in.1 h).2
theorem dwn_nodup : ∀ (a : Int) (n : Nat),(dwn a n).Nodup
 | a,0=>List.nodup_nil
 | a,n+1=>by
  rw [dwn,List.nodup_cons]
  exact ⟨fun h=>by have:=dwn_mem h; omega,dwn_nodup (a - 1) n⟩
theorem asc_snoc : ∀ (a : Int) (n : Nat),asc a (n+1)=asc a n ++ [a+n]
 | a,0=>by simp [asc]
 | a,n+1=>by
  rw [asc,asc_snoc (a+1) n,asc]
  simp; omega
theorem dwn_snoc : ∀ (a : Int) (n : Nat),dwn a (n+1)=dwn a n ++ [a - n]
 | a,0=>by simp [dwn]
 | a,n+1=>by
  rw [dwn,dwn_snoc (a - 1) n,dwn]
  simp; omega
theorem dwn_sub : ∀ (a c : Int) (n : Nat),(dwn a n).map (fun k=>k - c)=dwn (a - c) n
 | a,c,0=>rfl
 | a,c,n+1=>by
  rw [dwn,List.map_cons,dwn_sub (a - 1) c n,dwn]
  congr 2; omega
theorem asc_nodup : ∀ (a : Int) (n : Nat),(asc a n).Nodup
 | a,0=>List.nodup_nil
 | a,n+1=>by
  rw [asc,List.nodup_cons]
  exact ⟨fun h=>by have:=asc_mem.1 h; omega,asc_nodup (a+1) n⟩
theorem best_nil (x : Int) (fs : List Int) : best x [] fs=0:=by unfold best; rfl
theorem best_zero (x : Int) : ∀ (l fs : List Int),(∀ b ∈ l,b≤x)→best x l fs=0
 | [],fs,_=>best_nil x fs
 | y :: l,[],_=>by unfold best; rfl
 | y :: l,f :: fs,h=>by
  have h1:=h y (by simp)
  rw [best_cons,if_neg (by omega),best_zero x l fs fun b hb=>h b (by simp [hb])]
theorem best_asc (x : Int) {B F : List Int} (hB : ∀ b ∈ B,b≤x) : ∀ (c : Int) (n : Nat),x < c→best x (asc c n ++ B) (dsc n ++ F)=n
 | c,0,_=>best_zero x B F hB
 | c,n+1,h=>by
  rw [asc,dsc,List.cons_append,List.cons_append,best_cons,if_pos h,best_asc x hB (c+1) n (by omega)]
  omega
theorem frm_asc {B : List Int} : ∀ (a : Int) (n : Nat),(∀ b ∈ B,b < a)→frm (asc a n ++ B)=dsc n ++ frm B
 | a,0,_=>rfl
 | a,n+1,h=>by
  rw [asc,List.cons_append,frm_cons,frm_asc (a+1) n fun b hb=>by have:=h b hb; omega,best_asc a (fun b hb=>by have:=h b hb; omega) (a+1) n (by omega),dsc,List.cons_append]
  congr 1; omega
theorem frm_dwn : ∀ (c : Int) (n : Nat),frm (dwn c n)=List.replicate n 1
 | c,0=>rfl
 | c,n+1=>by
  rw [dwn,frm_cons,frm_dwn (c - 1) n,best_zero c _ _ fun b hb=>by have:=dwn_mem hb; omega,List.replicate_succ]
  rfl
theorem maxL_dsc (F : List Int) (hF : 0≤maxL F) : ∀ n : Nat,maxL (dsc n ++ F)=max (n : Int) (maxL F)
 | 0=>by show maxL F=_; omega
 | n+1=>by
  rw [dsc,List.cons_append]
  show max ((n : Int)+1) (maxL (dsc n ++ F))=_
  rw [maxL_dsc F hF n]; omega
theorem pick_asc {B F : List Int} : ∀ (n : Nat) (a i : Int) (last : Option Int),(∀ y,last=some y→y < a)→pickL (asc a n ++ B) (dsc n ++ F) i n last=asc i n
 | 0,a,i,last,_=>by
  show pickL B F i 0 last=[]
  exact pickL_zero _ _ _ _ _ (by omega)
 | n+1,a,i,last,h=>by
  rw [asc,dsc,List.cons_append,List.cons_append,pickL_cons,if_pos ⟨by omega,by omega,h⟩,asc]
  congr 1
  rw [show ((n+1 : Nat) : Int) - 1=(n : Int) by omega]
  exact pick_asc n (a+1) (i+1) (some a) fun y hy=>by cases hy; omega
theorem lis_asc {B : List Int} {a : Int} {n : Nat} (h : ∀ b ∈ B,b < a) (hm : maxL (frm B)≤n) : lis (asc a n ++ B)=asc 0 n:=by
 unfold lis
 rw [frm_asc a n h,maxL_dsc _ (maxL_nn _),show max (n : Int) (maxL (frm B))=n by omega]
 exact pick_asc n a 0 none fun y hy=>by cases hy
theorem lis_dwn (c : Int) (n : Nat) : lis (dwn c (n+1))=[0]:=by
 have : dwn c (n+1)=asc c 1 ++ dwn (c - 1) n:=rfl
 rw [this,lis_asc (fun b hb=>by have:=dwn_mem hb; omega) ?_]
 ·rfl
 ·rw [frm_dwn]
  exact maxL_le _ _ (by omega) fun x hx=>by rw [List.mem_replicate] at hx; omega
end Go.C36
