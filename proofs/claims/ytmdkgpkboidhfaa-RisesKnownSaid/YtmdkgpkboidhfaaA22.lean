/- Chapter 08, moves: plain laws, and the conditions of Pair, the reference's Kept, Moves, the reference's Moves, of comparing steps.
  Conditions: none. -/
import Derived.Test.YtmdkgpkboidhfaaA21
set_option linter.unusedVariables false
set_option linter.unusedSimpArgs false
namespace Go.C08
open Go Go.Xe Go.Sx
theorem sps_map (l : List Sp) : sps (l.map Sp.row)=l:=by
 unfold sps; rw [List.map_map]; exact List.map_id' l
theorem map_app_sp (o : List Sp) (w a : Int) : o.map Sp.row ++ chunk 2 1 [.int w, .int a]=(o ++ [(⟨w,a⟩ : Sp)]).map Sp.row:=by rw [List.map_append]; rfl
theorem over_end (X Y : Sx.Rows) : Sx.over X X.length Y=X ++ Y:=by
 unfold Sx.over
 rw [Int.toNat_natCast,List.take_length,List.drop_of_length_le (by omega),List.append_nil]
theorem part_all (X : Sx.Rows) {n : Int} (h : n=X.length) : Sx.part X 0 n=X:=by
 unfold Sx.part
 subst h
 rw [Int.toNat_natCast]; simp
theorem vl_asc {l : List Int} : ∀ {o : List Int} {last : Option Int} {k : Int},Vl l last k o→o.Pairwise (· < ·) ∧ ∀ a ∈ o,k≤a∧0≤a∧a < l.length
 | [],last,k,_=>⟨List.Pairwise.nil,fun a h=>by simp at h⟩
 | a :: o,last,k,h=>by
  obtain ⟨h1,h2,x,h3,_,h4⟩:=h
  obtain ⟨k1,k2⟩:=vl_asc h4
  have h5:=(List.getElem?_eq_some_iff.1 h3).1
  refine ⟨List.Pairwise.cons (fun b hb=>by have:=(k2 b hb).1; omega) k1,fun b hb => ?_⟩
  rcases List.mem_cons.1 hb with rfl | hb
  ·exact ⟨h1,h2,by omega⟩
  ·have:=k2 b hb
   exact ⟨by omega,this.2⟩
theorem asc_ge : ∀ {K : List Int} {k : Int} {i : Nat} {a : Int},K.Pairwise (· < ·)→(∀ a ∈ K,k≤a)→K[i]? = some a→k+i≤a
 | [],k,i,a,_,_,h=>by simp at h
 | b :: K,k,0,a,hp,hk,h=>by
  have:=hk a (by simp at h; simp [h])
  omega
 | b :: K,k,i+1,a,hp,hk,h=>by
  obtain ⟨p1,p2⟩:=List.pairwise_cons.1 hp
  have hb:=hk b (by simp)
  have:=asc_ge (k:=k+1) (i:=i) (a:=a) p2 (fun c hc=>by have:=p1 c hc; omega) (by simpa using h)
  omega
theorem count_split (j : Int) (n : Nat) : ∀ (K : List Int),K.Pairwise (· < ·)→K.countP (fun a=>decide (j≤a∧a < j+(n+1 : Nat)))=K.countP (fun a=>decide (j+1≤a∧a < j+1+(n : Nat)))+if j ∈ K then 1 else 0
 | [],_=>rfl
 | b :: K,hp=>by
  obtain ⟨p1,p2⟩:=List.pairwise_cons.1 hp
  have ih:=count_split j n K p2
  rw [List.countP_cons,List.countP_cons,ih]
  by_cases e : j=b
  ·subst e
   have hn : j ∉ K:=fun c=>by have:=p1 j c; omega
   have c1 : j≤j∧j < j+((n+1 : Nat) : Int):=by omega
   have c2 : ¬ (j+1≤j∧j < j+1+(n : Int)):=by omega
   rw [decide_eq_true c1,decide_eq_false c2,if_neg hn]
   simp
  ·have hm : (j ∈ b :: K) ↔ j ∈ K:=by simp [e]
   have hd : (j≤b∧b < j+(n+1 : Nat)) ↔ (j+1≤b∧b < j+1+(n : Nat)):=by
    constructor <;> intro h <;> omega
   simp only [hm,hd]
   omega
theorem mvF_len {K : List Int} (hp : K.Pairwise (· < ·)) : ∀ (l : List Int) (j : Int),(mvF K j l).length+K.countP (fun a=>decide (j≤a∧a < j+l.length))=l.length
 | [],j=>by
  have : K.countP (fun a=>decide (j≤a∧a < j+(([] : List Int).length : Int)))=0:=List.countP_eq_zero.2 fun a _=>by simp
  rw [this]; rfl
 | x :: l,j=>by
  have ih:=mvF_len hp l (j+1)
  have hs:=count_split j l.length K hp
  rw [List.length_cons,hs,mvF,List.length_append]
  split <;> simp_all <;> omega
theorem mvF_full {K N : List Int} (hp : K.Pairwise (· < ·)) (hr : ∀ a ∈ K,0≤a∧a < N.length) : (mvF K 0 N).length+K.length=N.length:=by
 have:=mvF_len hp N 0
 rw [List.countP_eq_length.2 fun a ha=>by have:=hr a ha; simp; omega] at this
 exact this
theorem pair_0 {l m : List Int} (h : pairE l m=0) : chk l=0∧chk m=0∧l.length=m.length ∧ ∀ x ∈ m,x ∈ l:=by
 unfold pairE at h
 split at h
 ·rename_i h1
  split at h
  ·rename_i h2
   split at h
   ·rename_i h3; exact ⟨h1,h2,h3⟩
   ·omega
  ·rename_i h2; exact absurd h h2
 ·rename_i h1; exact absurd h h1
theorem lis_ok (l m : List Int) : (lis (ordOf l m)).Pairwise (· < ·) ∧ ∀ a ∈ lis (ordOf l m),0≤a∧a < m.length:=by
 obtain ⟨h1,h2⟩:=vl_asc (lis_vl (ordOf l m))
 rw [ordOf_len] at h2
 exact ⟨h1,fun a ha=>(h2 a ha).2⟩
theorem lis_le (l m : List Int) : (lis (ordOf l m)).length≤m.length:=by
 obtain ⟨h1,h2⟩:=lis_ok l m
 have:=mvF_full h1 h2
 omega
theorem mv_same {l m : List Int} (h : pairE l m=0) : mvV (keptL l m) m=movesL l m:=by
 obtain ⟨_,hm,_,_⟩:=pair_0 h
 obtain ⟨_,hr⟩:=lis_ok l m
 unfold movesL keptL
 generalize lis (ordOf l m)=K at hr
 have key : ∀ (c j : Nat),m.length - j=c→mvV (K.map fun k=>m.getD k.toNat 0) (m.drop j)=mvF K j (m.drop j):=by
  intro c
  induction c with
  | zero=>intro j hc; rw [List.drop_of_length_le (by omega)]; rfl
  | succ c ih =>
   intro j hc
   obtain ⟨x,hx⟩ : ∃ x,m[j]? = some x:=⟨_,List.getElem?_eq_getElem (by omega)⟩
   rw [Sx.drop_at hx,mvV,mvF,ih (j+1) (by omega)]
   have hmem : (x ∈ K.map fun k=>m.getD k.toNat 0) ↔ ((j : Int) ∈ K):=by
    rw [List.mem_map]
    constructor
    ·rintro ⟨k,hk,e⟩
     have hk' := hr k hk
     have hg : m[k.toNat]? = some x:=by
      rw [← e,List.getD_eq_getElem?_getD,List.getElem?_eq_getElem (by omega)]; rfl
     have : k.toNat=j:=by
      rcases Nat.lt_trichotomy k.toNat j with h | h | h
      ·exact absurd (List.mem_of_getElem? (i:=k.toNat) (by rw [List.getElem?_take,if_pos h]; exact hg)) (chkF_nodup hm hx).2
      ·exact h
      ·exact absurd (List.mem_of_getElem? (i:=j) (by rw [List.getElem?_take,if_pos h]; exact hx)) (chkF_nodup hm hg).2
     rw [show (j : Int)=k by omega]; exact hk
    ·intro hk
     exact ⟨j,hk,by rw [Int.toNat_natCast,List.getD_eq_getElem?_getD,hx]; rfl⟩
   simp only [hmem]
   rfl
 exact key m.length 0 (by omega)
end Go.C08
