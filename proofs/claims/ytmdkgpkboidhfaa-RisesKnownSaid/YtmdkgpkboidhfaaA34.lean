/- Chapter 08, the conditions of RisesMoves and RisesFewest hold.
  Conditions: none. -/
import Derived.Test.YtmdkgpkboidhfaaA33
set_option linter.unusedVariables false
set_option linter.unusedSimpArgs false
namespace Go.C08
open Go Go.Xe Go.Sx
theorem chk_mk {l : List Int} (h1 : l.Nodup) (h2 : ∀ x ∈ l,0≤x) : chk l=0:=by
 have key : ∀ (l s : List Int),l.Nodup→(∀ x ∈ l,0≤x)→(∀ x ∈ l,x ∉ s)→chkF s l=0:=by
  intro l
  induction l with
  | nil=>intro s _ _ _; rfl
  | cons x l ih =>
   intro s hn h0 hs
   obtain ⟨n1,n2⟩:=List.nodup_cons.1 hn
   rw [chkF_cons,if_neg (by have:=h0 x (by simp); omega),if_neg (hs x (by simp))]
   refine ih _ n2 (fun y hy=>h0 y (by simp [hy])) fun y hy hc => ?_
   rcases List.mem_append.1 hc with hc | hc
   ·exact hs y (by simp [hy]) hc
   ·simp only [List.mem_singleton] at hc
    subst hc
    exact n1 hy
 exact key l [] h1 h2 (fun x _ h=>by simp at h)
end Go.C08
