/- Chapter 36, checking rows and pools: the conditions hold.
  Conditions: none. -/
import Derived.Test.YtpdcecfnlccicaaP2
set_option linter.unusedVariables false
set_option linter.unusedSimpArgs false
namespace Go.C36
open Go Go.Xe Go.Sx
theorem rws_map (l : List Rw) : rws (l.map Rw.row)=l:=by
 unfold rws; rw [List.map_map]; exact List.map_id' l
theorem rw0 (r : Rw) : (Rw.row r).getD 0 (.int 0) = .int r.k:=rfl
theorem rw1 (r : Rw) : (Rw.row r).getD 1 (.int 0) = .int r.t:=rfl
theorem chkR_cons (n : Int) (s : List Int) (x : Rw) (l : List Rw) : chkR n s (x :: l)=if x.k=0 then 9 else if n≤x.t then 1 else if x.k ∈ s then 8 else chkR n (s ++ [x.k]) l:=by rw [chkR]
theorem chkR_nil (n : Int) (s : List Int) : chkR n s []=0:=rfl
theorem vcRight_ok : vcRight:=by
 unfold vcRight Nd
 rintro _ _ ⟨⟨p,rfl,hp⟩,⟨b,rfl,hb⟩⟩
 have no : ¬ rightB p b→(false=true ↔ rightB p b):=fun h=>⟨(fun c=>by cases c),fun c=>absurd c h⟩
 simp only [rightRel,rgInv,rgMu,List.length_map,nums_map,need_twice,need_known,implies_true,and_true,true_and,true_implies]
 refine And.intro (fun h => ?_) fun h1 => ?_
 ·have:=no (fun c=>by have:=c.1; omega)
  repeat' first
   | exact this
   | exact h
   | (with_reducible refine And.intro ?_ ?_)
   | intro _
 ·repeat (refine And.intro h1 fun _ => ?_)
  refine And.intro (fun h => ?_) fun h2 => ?_
  ·have:=no (fun c=>by have:=c.2.1; omega)
   repeat' first
    | exact this
    | exact h
    | (with_reducible refine And.intro ?_ ?_)
    | intro _
  ·repeat (refine And.intro h2 fun _ => ?_)
   refine And.intro (fun hl => ?_) fun h => ?_
   ·refine And.intro ⟨by omega,by omega,fun i x y hi=>by omega⟩ fun _ k ⟨k0,k1,hk'⟩=>And.intro (fun hk => ?_) fun hk => ?_
    ·obtain ⟨x,hx⟩:=Sx.get_at (T:=p) (i:=k) k0 hk
     obtain ⟨y,hy⟩:=Sx.get_at (T:=b) (i:=k) k0 (by omega)
     have ek:=toNat_succ k0
     simp only [cellAt_map hx,cellAt_map hy,row0,toInt_int]
     have bad : ¬ (0≤x∧x≤y)→(false=true ↔ rightB p b):=fun h=>no fun c=>h (c.2.2.2 k.toNat x y hx hy)
     have nx : 0≤x∧x≤y → ∀ (i : Nat) (a c : Int),(i : Int) < k+1→p[i]? = some a→b[i]? = some c→0≤a∧a≤c:=fun h i a c hi ha hc=>by
      by_cases e : i=k.toNat
      ·subst e
       rw [hx] at ha
       rw [hy] at hc
       cases ha; cases hc
       exact h
      ·exact hk' i a c (by omega) ha hc
     by_cases hxy : 0≤x∧x≤y
     ·have nx:=nx hxy
      clear bad
      repeat' first
       | exact nx
       | (with_reducible refine And.intro ?_ ?_)
       | intro _
       | omega
     ·have bad:=bad hxy
      clear nx
      repeat' first
       | exact bad
       | (with_reducible refine And.intro ?_ ?_)
       | intro _
       | omega
    ·exact ⟨fun _=>⟨by omega,by omega,by omega,fun i x y hx hy=>hk' i x y (by have:=(List.getElem?_eq_some_iff.1 hx).1; omega) hx hy⟩,fun _=>by first | rfl | trivial⟩
   ·have:=no (fun c=>by have:=c.2.2.1; omega)
    repeat' first
     | exact this
     | exact h
     | (with_reducible refine And.intro ?_ ?_)
     | intro _
end Go.C36
