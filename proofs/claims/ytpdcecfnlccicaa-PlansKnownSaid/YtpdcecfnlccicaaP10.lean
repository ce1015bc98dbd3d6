/- Chapter 36, counting the steps of a plan: the conditions hold.
  Conditions: none. -/
import Derived.Test.YtpdcecfnlccicaaP9
set_option linter.unusedVariables false
set_option linter.unusedSimpArgs false
namespace Go.C36
open Go Go.Xe Go.Sx
theorem stps_map (l : List Stp) : stps (l.map Stp.row)=l:=by
 unfold stps; rw [List.map_map]; exact List.map_id' l
theorem st0 (s : Stp) : (Stp.row s).getD 0 (.int 0) = .int s.w:=rfl
theorem st1 (s : Stp) : (Stp.row s).getD 1 (.int 0) = .int s.o:=rfl
theorem st2 (s : Stp) : (Stp.row s).getD 2 (.int 0) = .bool s.m:=rfl
theorem many_snoc (f : Stp→Bool) (l : List Stp) (s : Stp) : many f (l ++ [s])=many f l+if f s=true then 1 else 0:=by
 unfold many
 rw [List.countP_append,List.countP_singleton]
 split <;> omega
theorem vcNstays_ok : vcNstays:=by
 unfold vcNstays Nd
 rintro _ _ ⟨l,rfl,hl⟩
 simp only [nstaysRel,mnsInv,mnsMu,List.length_map,stps_map,need_twice,need_known,implies_true,and_true,true_and,true_implies]
 refine And.intro ⟨by omega,by omega,rfl,by omega,by omega⟩ fun _ k n ⟨k0,k1,hn,n0,n1⟩=>And.intro (fun hk => ?_) fun hk => ?_
 ·obtain ⟨s,hs⟩:=Sx.get_at (T:=l) (i:=k) k0 hk
  have e:=toNat_succ k0
  have hst : many isStay (l.take (k+1).toNat)=n+if isStay s=true then 1 else 0:=by rw [e,take_succ_at hs,many_snoc,hn]
  simp only [cellAt_map hs,st0,toInt_int]
  refine And.intro (by omega) fun _=>And.intro hk fun _=>And.intro (fun h => ?_) fun h => ?_
  ·have q : n+1=many isStay (l.take (k+1).toNat):=by rw [hst,if_pos (show isStay s=true from decide_eq_true h)]
   repeat' first
    | exact q
    | (with_reducible refine And.intro ?_ ?_)
    | intro _
    | omega
  ·have q : n=many isStay (l.take (k+1).toNat):=by rw [hst,if_neg (show ¬ isStay s=true from fun c=>h (of_decide_eq_true c)),Int.add_zero]
   repeat' first
    | exact q
    | (with_reducible refine And.intro ?_ ?_)
    | intro _
    | omega
 ·rw [List.take_of_length_le (by omega)] at hn; exact hn
theorem vcNmoves_ok : vcNmoves:=by
 unfold vcNmoves Nd
 rintro _ _ ⟨l,rfl,hl⟩
 simp only [nmovesRel,mnmInv,mnmMu,mnsMu,List.length_map,stps_map,need_twice,need_known,implies_true,and_true,true_and,true_implies]
 refine And.intro ⟨by omega,by omega,rfl,by omega,by omega⟩ fun _ k n ⟨k0,k1,hn,n0,n1⟩=>And.intro (fun hk => ?_) fun hk => ?_
 ·obtain ⟨s,hs⟩:=Sx.get_at (T:=l) (i:=k) k0 hk
  have e:=toNat_succ k0
  have hst : many isMove (l.take (k+1).toNat)=n+if isMove s=true then 1 else 0:=by rw [e,take_succ_at hs,many_snoc,hn]
  simp only [cellAt_map hs,st2,toBool_bool]
  refine And.intro (by omega) fun _=>And.intro hk fun _=>And.intro (fun h => ?_) fun h => ?_
  ·have q : n+1=many isMove (l.take (k+1).toNat):=by rw [hst,if_pos (show isMove s=true from h)]
   repeat' first
    | exact q
    | (with_reducible refine And.intro ?_ ?_)
    | intro _
    | omega
  ·have q : n=many isMove (l.take (k+1).toNat):=by rw [hst,if_neg (show ¬ isMove s=true from h),Int.add_zero]
   repeat' first
    | exact q
    | (with_reducible refine And.intro ?_ ?_)
    | intro _
    | omega
 ·rw [List.take_of_length_le (by omega)] at hn; exact hn
end Go.C36
