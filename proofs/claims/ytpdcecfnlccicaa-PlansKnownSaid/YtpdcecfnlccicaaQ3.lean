/- Chapter 36, counting what is rebound, made and dropped: the conditions hold.
  Conditions: none. -/
import Derived.Test.YtpdcecfnlccicaaQ2
set_option linter.unusedVariables false
set_option linter.unusedSimpArgs false
namespace Go.C36
open Go Go.Xe Go.Sx
theorem lv1 (s : Lv) : (Lv.row s).getD 1 (.int 0) = .bool s.d:=rfl
theorem vcNbinds_ok : vcNbinds:=by
 unfold vcNbinds Nd
 rintro _ _ ⟨l,rfl,hl⟩
 simp only [nbindsRel,mnbInv,mnbMu,mnsMu,List.length_map,stps_map,need_twice,need_known,implies_true,and_true,true_and,true_implies]
 refine And.intro ⟨by omega,by omega,rfl,by omega,by omega⟩ fun _ k n ⟨k0,k1,hn,n0,n1⟩=>And.intro (fun hk => ?_) fun hk => ?_
 ·obtain ⟨s,hs⟩:=Sx.get_at (T:=l) (i:=k) k0 hk
  have e:=toNat_succ k0
  have hst : many isBind (l.take (k+1).toNat)=n+if isBind s=true then 1 else 0:=by rw [e,take_succ_at hs,many_snoc,hn]
  simp only [cellAt_map hs,st0,toInt_int]
  refine And.intro (by omega) fun _=>And.intro hk fun _=>And.intro (fun h => ?_) fun h => ?_
  ·have q : n+1=many isBind (l.take (k+1).toNat):=by rw [hst,if_pos (show isBind s=true from decide_eq_true h)]
   repeat' first
    | exact q
    | (with_reducible refine And.intro ?_ ?_)
    | intro _
    | omega
  ·have q : n=many isBind (l.take (k+1).toNat):=by rw [hst,if_neg (show ¬ isBind s=true from fun c=>h (of_decide_eq_true c)),Int.add_zero]
   repeat' first
    | exact q
    | (with_reducible refine And.intro ?_ ?_)
    | intro _
    | omega
 ·rw [List.take_of_length_le (by omega)] at hn; exact hn
theorem vcNmakes_ok : vcNmakes:=by
 unfold vcNmakes Nd
 rintro _ _ ⟨l,rfl,hl⟩
 simp only [nmakesRel,mnkInv,mnkMu,mnsMu,List.length_map,stps_map,need_twice,need_known,implies_true,and_true,true_and,true_implies]
 refine And.intro ⟨by omega,by omega,rfl,by omega,by omega⟩ fun _ k n ⟨k0,k1,hn,n0,n1⟩=>And.intro (fun hk => ?_) fun hk => ?_
 ·obtain ⟨s,hs⟩:=Sx.get_at (T:=l) (i:=k) k0 hk
  have e:=toNat_succ k0
  have hst : many isMake (l.take (k+1).toNat)=n+if isMake s=true then 1 else 0:=by rw [e,take_succ_at hs,many_snoc,hn]
  simp only [cellAt_map hs,st0,toInt_int]
  refine And.intro (by omega) fun _=>And.intro hk fun _=>And.intro (fun h => ?_) fun h => ?_
  ·have q : n+1=many isMake (l.take (k+1).toNat):=by rw [hst,if_pos (show isMake s=true from decide_eq_true h)]
   repeat' first
    | exact q
    | (with_reducible refine And.intro ?_ ?_)
    | intro _
    | omega
  ·have q : n=many isMake (l.take (k+1).toNat):=by rw [hst,if_neg (show ¬ isMake s=true from fun c=>h (of_decide_eq_true c)),Int.add_zero]
   repeat' first
    | exact q
    | (with_reducible refine And.intro ?_ ?_)
    | intro _
    | omega
 ·rw [List.take_of_length_le (by omega)] at hn; exact hn
theorem drops_snoc (l : List Lv) (s : Lv) : drops (l ++ [s])=drops l+if s.d=true then 1 else 0:=by
 unfold drops
 rw [List.countP_append,List.countP_singleton]
 split <;> omega
theorem vcNdrops_ok : vcNdrops:=by
 unfold vcNdrops Nd
 rintro _ _ ⟨l,rfl,hl⟩
 simp only [ndropsRel,ndInv,ndMu,mnsMu,List.length_map,lvs_map,need_twice,need_known,implies_true,and_true,true_and,true_implies]
 refine And.intro ⟨by omega,by omega,rfl,by omega,by omega⟩ fun _ k n ⟨k0,k1,hn,n0,n1⟩=>And.intro (fun hk => ?_) fun hk => ?_
 ·obtain ⟨s,hs⟩:=Sx.get_at (T:=l) (i:=k) k0 hk
  have e:=toNat_succ k0
  have hst : drops (l.take (k+1).toNat)=n+if s.d=true then 1 else 0:=by rw [e,take_succ_at hs,drops_snoc,hn]
  simp only [cellAt_map hs,lv1,toBool_bool]
  refine And.intro (by omega) fun _=>And.intro hk fun _=>And.intro (fun h => ?_) fun h => ?_
  ·have q : n+1=drops (l.take (k+1).toNat):=by rw [hst,if_pos h]
   repeat' first
    | exact q
    | (with_reducible refine And.intro ?_ ?_)
    | intro _
    | omega
  ·have q : n=drops (l.take (k+1).toNat):=by rw [hst,if_neg h,Int.add_zero]
   repeat' first
    | exact q
    | (with_reducible refine And.intro ?_ ?_)
    | intro _
    | omega
 ·rw [List.take_of_length_le (by omega)] at hn; exact hn
end Go.C36
