/- Chapter 08, moves: the conditions of the reference's Moves and of RisesErrors hold.
  Conditions: none. -/
import Derived.Test.YtmdkgpkboidhfaaA23
set_option linter.unusedVariables false
set_option linter.unusedSimpArgs false
namespace Go.C08
open Go Go.Xe Go.Sx
theorem keptL_le (l m : List Int) : (keptL l m).length≤m.length:=by
 unfold keptL
 rw [List.length_map]
 exact lis_le l m
theorem mu_rm {X : List Dat} {i : Int} {A B C D : Dat} (i0 : 0≤i) : rmMu X [.int (i + -1),A,B] < rmMu X [.int i,C,D]:=by
 simp only [rmMu,mvMu]; omega
theorem vcRmoves_ok : vcRmoves:=by
 unfold vcRmoves Nd
 rintro _ _ ⟨⟨l,rfl,hl⟩,⟨m,rfl,hm⟩,hp⟩
 have hrk : rkeptPre [.lst (l.map row), .lst (m.map row)]:=⟨⟨l,rfl,hl⟩,⟨m,rfl,hm⟩,hp⟩
 have g3:=keptL_le l m
 have hQ : isN ((keptL l m).map row):=⟨_,rfl,by omega⟩
 simp only [hrk,rkeptRel,rmovesRel,nums_map,forall_eq,Int.lt_irrefl,not_false_eq_true,true_and,true_implies,need_twice,need_known,implies_true,and_true,List.length_map]
 generalize keptL l m=S at *
 refine And.intro (by omega) fun _=>And.intro ?_ fun _ i O T hi => ?_
 ·simp only [rmInv,nums_map,List.length_map]
  refine ⟨by omega,by omega,trivial,by simp; omega, ?_⟩
  rw [List.drop_of_length_le (by omega)]; rfl
 have hi' := hi
 simp only [rmInv,nums_map,List.length_map] at hi
 obtain ⟨i0,i1,rfl,ol,rfl⟩:=hi
 rw [List.length_map] at ol
 simp only [ratPre,ratRel,hQ,nums_map,List.length_map,forall_eq,Int.lt_irrefl,not_false_eq_true,true_and,true_implies,need_twice,need_known,implies_true,and_true]
 refine And.intro (fun h0 => ?_) fun h0 => ?_
 ·have hi : i = -1:=by omega
  subst hi
  rfl
 ·obtain ⟨x,hx⟩:=Sx.get_at (T:=m) (i:=i) (by omega) i1
  have i00 : 0≤i:=by omega
  have hv : ∀ o : List Sp,o=mvV S (m.drop (i+1).toNat) ++ (if x ∈ S then [] else [⟨x,hdN (m.drop (i+1).toNat)⟩])→rmInv [.lst (m.map row), .lst (S.map row)] [.int (i + -1), .lst (o.map Sp.row), .lst (S.map row)]:=by
   rintro o rfl
   simp only [rmInv,nums_map,List.length_map]
   refine ⟨by omega,by omega,trivial, ?_, ?_⟩
   ·rw [List.length_append]
    split <;> (simp; omega)
   ·rw [show i + -1+1=i by omega,Sx.drop_at hx,mvV,toNat_succ i00]
  have hin : (¬ atI S x < 0) ↔ x ∈ S:=by
   rw [← atI_nn]; omega
  simp only [cellAt_map hx,row0,toInt_int]
  have stay : x ∈ S→vcRmoves0 (m.map row) (S.map row) i ((mvV S (m.drop (i+1).toNat)).map Sp.row) (S.map row):=fun h=>by
   have inv:=hv _ (by rw [if_pos h,List.append_nil])
   unfold vcRmoves0 Nd
   simp only [List.length_map,Int.lt_irrefl,not_false_eq_true,true_and,true_implies,need_twice,need_known,implies_true,and_true]
   repeat' first
    | with_reducible exact inv
    | with_reducible exact mu_rm i00
    | (with_reducible refine And.intro ?_ ?_)
    | intro _
    | omega
  refine And.intro (by omega) fun _=>And.intro (fun hl => ?_) fun hl => ?_
  ·obtain ⟨y,hy⟩:=Sx.get_at (T:=m) (i:=i+1) (by omega) (by omega)
   have hh : hdN (m.drop (i+1).toNat)=y:=by rw [Sx.drop_at hy]; rfl
   simp only [cellAt_map hy,row0,toInt_int,map_app_sp]
   iterate 4 refine And.intro (by omega) fun _ => ?_
   first | (refine And.intro i1 fun _ => ?_) | skip
   refine And.intro (fun hn => ?_) fun hn=>stay (hin.1 hn)
   have inv:=hv _ (by rw [if_neg fun c=>hin.2 c hn,hh])
   repeat' first
    | with_reducible exact inv
    | with_reducible exact mu_rm i00
    | (with_reducible refine And.intro ?_ ?_)
    | intro _
    | omega
  ·have hh : hdN (m.drop (i+1).toNat) = -1:=by rw [List.drop_of_length_le (by omega)]; rfl
   simp only [map_app_sp]
   iterate 1 refine And.intro (by omega) fun _ => ?_
   first | (refine And.intro i1 fun _ => ?_) | skip
   refine And.intro (fun hn => ?_) fun hn=>stay (hin.1 hn)
   have inv:=hv _ (by rw [if_neg fun c=>hin.2 c hn,hh])
   repeat' first
    | with_reducible exact inv
    | with_reducible exact mu_rm i00
    | (with_reducible refine And.intro ?_ ?_)
    | intro _
    | omega
section
variable {l m : List Int}
end
end Go.C08
