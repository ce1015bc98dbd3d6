/- Chapter 36, the rows and pools of a law: the condition holds.
  Conditions: none. -/
import Derived.Test.YtpdcecfnlccicaaP12
set_option linter.unusedVariables false
set_option linter.unusedSimpArgs false
namespace Go.C36
open Go Go.Xe Go.Sx
theorem vcUof_ok : vcUof := by
 unfold vcUof Nd
 rintro _ _ a b c d e f ⟨⟨l,rfl,hl⟩,⟨m,rfl,hm⟩,⟨a0,a1⟩,⟨b0,b1⟩,⟨c0,c1⟩,⟨d0,d1⟩,⟨e0,e1⟩,⟨f0,f1⟩⟩
 have hL : rowsPre [.lst (l.map prRow)] := ⟨l,rfl,hl⟩
 have hM : rowsPre [.lst (m.map prRow)] := ⟨m,rfl,hm⟩
 have t : ∀ n : Int,0 ≤ n → 0 ≤ n.tmod 5 ∧ n.tmod 5 < 5 := fun n h => ⟨Int.tmod_nonneg 5 h,Int.tmod_lt_of_pos n (by omega)⟩
 obtain ⟨p1,p2⟩ := t a a0
 obtain ⟨p3,p4⟩ := t c c0
 obtain ⟨p5,p6⟩ := t e e0
 simp only [rowsRel,uofRel,prs_map,hL,hM,forall_eq,true_and,and_true,true_implies,need_twice,need_known,implies_true]
 repeat' first
  | rfl
  | (with_reducible refine And.intro ?_ ?_)
  | intro _
  | omega
end Go.C36
