/- The reference's Check: the conditions of Name, Str and one hold.
  Conditions: none. -/
import Derived.Test.YtcjhhnoaoldcmaaGreatG2
import Derived.Test.YtcjhhnoaoldcmaaGreatA6
set_option linter.unusedVariables false
set_option linter.unusedSimpArgs false
namespace Go.D
open Go Go.Xe Go.Sx
open Go.C36 (row t6 lis cLong cRlong longPre longRel rlongPre rlongRel)
theorem vcRname_ok :vcRname:=by
 unfold vcRname vcRname0 Nd
 intro s hp
 have F:¬(s.length:Int)<1->16<s.length\/s.all nameB=true->(!decide (16<(s.length:Int)))=vName s:=fun h h2=>by
  by_cases c:16<s.length
  ·rw[vName_len (.inr c),decide_eq_true (by omega)];rfl
  ·rw[vName_yes (by omega) (by omega) (h2.resolve_left c),bP5 (by omega)];rfl
 simp only[ln,I64,rnameRel,namedRel,rnInv,nmInv,rnMu,slMu,A3,A0,bO2,bP2,bO7,bM3]
 refine⟨⟨by omega,by omega,rfl⟩,fun _ k ⟨k0,k1,k2⟩=>⟨fun hk=>⟨fun h17=>?_,fun h17=>⟨fun h=>(vName_len (.inl (by omega))).symm,fun h=>F h (.inl (by omega))⟩⟩,fun hk=>⟨fun h=>(vName_len (.inl (by omega))).symm,fun h=>F h (.inr (take_all_of k2 (by omega)))⟩⟩⟩
 obtain⟨b,hb,eb⟩:=byte_at k0 hk
 rw[eb]
 repeat' first| (refine bK7 ?_ ?_)|intro _
 all_goals first|omega|exact(vName_all (all_bad hb (nameB_not (by omega)))).symm|exact all_step hb k0 k2 (nameB_of (by omega))
theorem vcRstr_ok :vcRstr:=by
 unfold vcRstr Nd
 intro s hp
 simp only[ln,I64,rstrRel,textRel,rsInv,stInv,rsMu,slMu,A3,A0,bO2,bP2,bO7,bM3]
 refine⟨fun h=>(vStr_len (by omega)).symm,fun h=>⟨⟨by omega,by omega,rfl⟩,fun _ k ⟨k0,k1,k2⟩=>⟨fun hk=>?_,fun hk=>(vStr_yes (by omega) (take_all_of k2 (by omega))).symm⟩⟩⟩
 obtain⟨b,hb,eb⟩:=byte_at k0 hk
 rw[eb]
 repeat' first| (refine bK7 ?_ ?_)|intro _
 all_goals first|omega|exact(vStr_all (all_bad hb (strB_not (by omega)))).symm|exact all_step hb k0 k2 (strB_of (by omega) (by omega))
end Go.D
