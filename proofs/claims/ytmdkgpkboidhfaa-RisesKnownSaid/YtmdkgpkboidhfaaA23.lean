/- Chapter 08, moves: the conditions of Moves and of the reference's Moves hold.
  Conditions: none. -/
import Derived.Test.YtmdkgpkboidhfaaA22
set_option linter.unusedVariables false
set_option linter.unusedSimpArgs false
namespace Go.C08
open Go Go.Xe Go.Sx
section
variable {m g : List Int} {i : Int} {n : Nat} {x y : Int}
structure MI (m g : List Int) (i : Int) (n : Nat) : Prop where
 i0 : -1≤i
 i1 : i < m.length
 n1 : n≤g.length
 lo : ∀ j ∈ g.take n,j≤i
 hi : ∀ j ∈ g.drop n,i < j
 ln : ((mvF g (i+1) (m.drop (i+1).toNat)).length : Int)+(g.length - n)=m.length - (i+1)
theorem MI.inv (h : MI m g i n) : mvInv [.lst (m.map row), .lst (g.map row)] [.int i, .lst ((g.take n).map row), .lst ((mvF g (i+1) (m.drop (i+1).toNat)).map Sp.row), .int (hdN (m.drop (i+1).toNat))]:=by
 simp only [mvInv,nums_map,List.length_map]
 exact ⟨h.i0,h.i1,n,rfl,h.n1,h.lo,h.hi,trivial,trivial,h.ln⟩
theorem MI.of {L O : Sx.Rows} {a : Int} (h : mvInv [.lst (m.map row), .lst (g.map row)] [.int i, .lst L, .lst O, .int a]) : ∃ n : Nat,L=(g.take n).map row∧O=(mvF g (i+1) (m.drop (i+1).toNat)).map Sp.row∧a=hdN (m.drop (i+1).toNat)∧MI m g i n:=by
 simp only [mvInv,nums_map,List.length_map] at h
 obtain ⟨h1,h2,n,rfl,h3,h4,h5,rfl,rfl,h6⟩:=h
 rw [List.length_map] at h6
 exact ⟨n,rfl,rfl,rfl,h1,h2,h3,h4,h5,h6⟩
theorem last_split (hp : g.Pairwise (· < ·)) (hn : 0 < n) (hy : g[n - 1]? = some y) : (∀ z ∈ g.take (n - 1),z < y)∧g.take n=g.take (n - 1) ++ [y]∧g.drop (n - 1)=y :: g.drop n:=by
 have e : n - 1+1=n:=by omega
 have h1:=Sx.drop_at hy
 have h2:=take_succ_at hy
 rw [e] at h1 h2
 have h3:=hp
 rw [← List.take_append_drop (n - 1) g,h1,List.pairwise_append] at h3
 exact ⟨fun z hz=>h3.2.2 z hz y (by simp),h2,h1⟩
theorem mv_at (hx : m[i.toNat]? = some x) (i0 : 0≤i) : mvF g (i + -1+1) (m.drop (i + -1+1).toNat)=mvF g (i+1) (m.drop (i+1).toNat) ++ (if i ∈ g then [] else [⟨x,hdN (m.drop (i+1).toNat)⟩])∧hdN (m.drop (i + -1+1).toNat)=x:=by
 rw [show i + -1+1=i by omega,Sx.drop_at hx,toNat_succ i0]
 exact ⟨rfl,rfl⟩
theorem MI.pop (hp : g.Pairwise (· < ·)) (h : MI m g i n) (hx : m[i.toNat]? = some x) (i0 : 0 ≤ i) (hn : 0 < n) (hy : g[n - 1]? = some i) :
  MI m g (i + -1) (n - 1)∧mvF g (i + -1+1) (m.drop (i + -1+1).toNat)=mvF g (i+1) (m.drop (i+1).toNat)∧hdN (m.drop (i + -1+1).toNat)=x:=by
 obtain ⟨h1,h2⟩:=mv_at (g:=g) hx i0
 rw [if_pos (List.mem_of_getElem? hy),List.append_nil] at h1
 obtain ⟨s1,s2,s3⟩:=last_split hp hn hy
 have i1:=h.i1
 have n1:=h.n1
 have ln:=h.ln
 refine ⟨⟨by omega,by omega,by omega,fun j hj=>by have:=s1 j hj; omega,fun j hj => ?_,by rw [h1]; omega⟩,h1,h2⟩
 rw [s3] at hj
 rcases List.mem_cons.1 hj with rfl | hj
 ·omega
 ·have:=h.hi j hj; omega
theorem MI.put (hp : g.Pairwise (· < ·)) (hr : ∀ a ∈ g, 0 ≤ a ∧ a < m.length) (h : MI m g i n) (hx : m[i.toNat]? = some x) (i0 : 0 ≤ i) (hy : ∀ y, 0 < n → g[n - 1]? = some y → y ≠ i) :
  MI m g (i + -1) n∧mvF g (i + -1+1) (m.drop (i + -1+1).toNat)=mvF g (i+1) (m.drop (i+1).toNat) ++ [⟨x,hdN (m.drop (i+1).toNat)⟩]∧hdN (m.drop (i + -1+1).toNat)=x∧((mvF g (i+1) (m.drop (i+1).toNat)).length : Int)+1≤m.length - g.length:=by
 obtain ⟨h1,h2⟩:=mv_at (g:=g) hx i0
 have i1:=h.i1
 have n1:=h.n1
 have ln:=h.ln
 have key : (∀ z ∈ g.take n,z < i)∧(n : Int)≤i:=by
  by_cases hn : 0 < n
  ·obtain ⟨y,hg⟩ : ∃ y,g[n - 1]? = some y:=⟨_,List.getElem?_eq_getElem (by omega)⟩
   obtain ⟨s1,s2,s3⟩:=last_split hp hn hg
   have hle : y≤i:=h.lo y (by rw [s2]; simp)
   have hne:=hy y hn hg
   have hge:=asc_ge (k:=0) hp (fun a ha=>(hr a ha).1) hg
   refine ⟨fun z hz => ?_,by omega⟩
   rw [s2] at hz
   rcases List.mem_append.1 hz with hz | hz
   ·have:=s1 z hz; omega
   ·simp only [List.mem_singleton] at hz; omega
  ·have : n=0:=by omega
   subst this
   exact ⟨fun z hz=>by simp at hz,by omega⟩
 have hni : i ∉ g:=fun c=>by
  rw [← List.take_append_drop n g] at c
  rcases List.mem_append.1 c with c | c
  ·have:=key.1 i c; omega
  ·have:=h.hi i c; omega
 rw [if_neg hni] at h1
 exact ⟨⟨by omega,by omega,by omega,fun j hj=>by have:=key.1 j hj; omega,fun j hj=>by have:=h.hi j hj; omega,by rw [h1,List.length_append]; simp; omega⟩,h1,h2,by omega⟩
theorem mu_mv {X : List Dat} {A B C D E F : Dat} (i0 : 0≤i) : mvMu X [.int (i + -1),A,B,C] < mvMu X [.int i,D,E,F]:=by
 simp only [mvMu]; omega
end
theorem vcMoves_ok : vcMoves := by
 unfold vcMoves Nd
 rintro _ _ ⟨⟨l,rfl,hl⟩,⟨m,rfl,hm⟩⟩
 have hL : isN (l.map row):=⟨l,rfl,hl⟩
 have hM : isN (m.map row):=⟨m,rfl,hm⟩
 simp only [keptiPre,twoPre,keptiRel,movesRel,hL,hM,forall_eq2,nums_map,need_twice,need_known,implies_true,and_true,true_and,true_implies]
 refine And.intro (fun he => ?_) fun he=>by
  rw [if_neg he]
  first | rfl | exact And.intro he fun _=>rfl
 rw [he]
 obtain ⟨g1,g2⟩:=lis_ok l m
 have g3:=lis_le l m
 unfold movesL
 simp only [if_true,List.length_map,eq_self,and_true,true_and,true_implies,need_twice,need_known]
 generalize lis (ordOf l m)=g at *
 refine And.intro (fun h => ?_) fun h => ?_
 ·have:=mvF_full g1 g2
  rw [List.eq_nil_of_length_eq_zero (l:=mvF g 0 m) (by omega)]; rfl
 have m0 : MI m g ((m.length : Int) + -1) g.length:=⟨by omega,by omega,by omega,fun j hj=>by
  rw [List.take_length] at hj
  have:=g2 j hj; omega,fun j hj=>by simp at hj,by
  rw [List.drop_of_length_le (by omega)]
  simp only [mvF,List.length_nil]; omega⟩
 have inv0:=m0.inv
 rw [List.take_length,List.drop_of_length_le (by omega)] at inv0
 have ep : Sx.part (List.replicate ((m.length : Int) - g.length).toNat [(Dat.int 0),(Dat.int 0)]) 0 0=[]:=rfl
 simp only [mvF,hdN,List.map_nil] at inv0
 simp only [List.length_replicate,ep,inv0,Int.lt_irrefl,not_false_eq_true,need_twice,need_known,implies_true,and_true,true_and,true_implies]
 repeat (refine And.intro (by omega) fun _ => ?_)
 intro i L O a hi
 obtain ⟨n,rfl,rfl,rfl,h⟩:=MI.of hi
 clear hi
 have i1:=h.i1
 have n1:=h.n1
 have ln:=h.ln
 have tl : (g.take n).length=n:=by rw [List.length_take]; omega
 simp only [List.length_map,tl]
 refine And.intro (fun h0 => ?_) fun h0 => ?_
 ·have hi : i = -1:=by have:=h.i0; omega
  subst hi
  have hn : n=0:=by
   rcases Nat.eq_zero_or_pos n with h' | h'
   ·exact h'
   ·obtain ⟨y,hg⟩ : ∃ y,g[n - 1]? = some y:=⟨_,List.getElem?_eq_getElem (by omega)⟩
    have h1:=h.lo y (by rw [(last_split g1 h' hg).2.1]; simp)
    have h2:=(g2 y (List.mem_of_getElem? hg)).1
    omega
  subst hn
  have e0 : (-1 : Int)+1=0:=rfl
  simp only [e0,Int.toNat_zero,List.drop_zero] at ln ⊢
  repeat' first
   | with_reducible rfl
   | with_reducible trivial
   | (with_reducible refine And.intro ?_ ?_)
   | intro _
   | omega
 ·obtain ⟨x, hx⟩ := Sx.get_at (T := m) (i := i) (by omega) i1
  have i0 : 0≤i:=by omega
  have fin : (∀ y, 0 < n → g[n - 1]? = some y → y ≠ i) → ((((m.length : Int) - g.length < ((mvF g (i + 1) (m.drop (i + 1).toNat)).length : Int) + 1) → vcMoves0 i ((mvF g (i + 1) (m.drop (i + 1).toNat)).map Sp.row)) ∧
    (¬ ((m.length : Int) - g.length < ((mvF g (i+1) (m.drop (i+1).toNat)).length : Int)+1)→vcMoves1 (m.map row) (g.map row) i ((g.take n).map row) ((mvF g (i+1) (m.drop (i+1).toNat)).map Sp.row) (hdN (m.drop (i+1).toNat)))):=by
   intro hy
   obtain ⟨k1,k2,k3,k4⟩:=h.put g1 g2 hx i0 hy
   refine And.intro (fun c=>by omega) fun c => ?_
   have inv:=k1.inv
   rw [k2,k3] at inv
   have eo : ∀ w a : Int,Sx.over ((mvF g (i+1) (m.drop (i+1).toNat)).map Sp.row) ((mvF g (i+1) (m.drop (i+1).toNat)).length : Int) (chunk 2 1 [.int w, .int a])=((mvF g (i+1) (m.drop (i+1).toNat)) ++ [(⟨w,a⟩ : Sp)]).map Sp.row:=fun w a=>by
    have:=over_end ((mvF g (i+1) (m.drop (i+1).toNat)).map Sp.row) (chunk 2 1 [.int w, .int a])
    rw [List.length_map] at this
    rw [this,map_app_sp]
   have ep : ∀ s : Sp,Sx.part (((mvF g (i+1) (m.drop (i+1).toNat)) ++ [s]).map Sp.row) 0 (((mvF g (i+1) (m.drop (i+1).toNat)).length : Int)+1)=((mvF g (i+1) (m.drop (i+1).toNat)) ++ [s]).map Sp.row:=fun s=>part_all _ (by simp)
   unfold vcMoves1 Nd
   simp only [cellAt_map hx,row0,toInt_int,List.length_map,eo,ep,List.length_append,List.length_cons,List.length_nil,Int.lt_irrefl,not_false_eq_true,need_twice,need_known,implies_true,and_true,true_and,true_implies]
   repeat' first
    | with_reducible exact inv
    | with_reducible exact mu_mv i0
    | (with_reducible refine And.intro ?_ ?_)
    | intro _
    | omega
  refine And.intro i1 fun _=>And.intro (fun hn => ?_) fun hn => ?_
  ·obtain ⟨y,hg⟩ : ∃ y,g[n - 1]? = some y:=⟨_,List.getElem?_eq_getElem (by omega)⟩
   have hg' : (g.take n)[((n : Int) + -1).toNat]? = some y:=by
    rw [show ((n : Int) + -1).toNat=n - 1 by omega,List.getElem?_take,if_pos (by omega)]; exact hg
   have hpt : Sx.part ((g.take n).map row) 0 ((n : Int) + -1)=(g.take (n - 1)).map row:=by
    unfold Sx.part
    rw [Int.toNat_zero,List.drop_zero,← List.map_take,List.take_take]
    congr 2
    omega
   simp only [cellAt_map hg',hpt,row0,toInt_int,need_twice,need_known]
   iterate 5 refine And.intro (by omega) fun _ => ?_
   refine And.intro (fun hyi => ?_) fun hyi => ?_
   ·subst hyi
    obtain ⟨k1,k2,k3⟩:=h.pop g1 hx i0 (by omega) hg
    have inv:=k1.inv
    rw [k2,k3] at inv
    simp only [cellAt_map hx,row0,toInt_int]
    repeat' first
     | with_reducible exact inv
     | with_reducible exact mu_mv i0
     | (with_reducible refine And.intro ?_ ?_)
     | intro _
     | omega
   ·have hf:=fin fun z _ hz=>by rw [hg] at hz; cases hz; exact hyi
    repeat' first
     | with_reducible exact hf
     | (with_reducible refine And.intro ?_ ?_)
     | intro _
     | omega
  ·have hf:=fin fun z hn' _=>by omega
   repeat' first
    | with_reducible exact hf
    | (with_reducible refine And.intro ?_ ?_)
    | intro _
    | omega
end Go.C08
