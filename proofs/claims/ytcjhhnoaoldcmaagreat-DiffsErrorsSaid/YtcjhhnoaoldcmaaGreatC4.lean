/- Which children match, by the definition: the conditions hold.
  Conditions: none. -/
import Derived.Test.YtcjhhnoaoldcmaaGreatC3
set_option linter.unusedVariables false
set_option linter.unusedSimpArgs false
namespace Go.D
open Go Go.Xe Go.Sx
open Go.C36 (row t6 lis cLong cRlong longPre longRel rlongPre rlongRel)
theorem spk_eq {c d:Tree}{a b:Nat}:spk d a=spk c b↔d.y=c.y/\d.k=c.k/\d.t=c.t/\(c.y=[]->a=b):=by
 unfold spk
 simp only[bO8,KV.i.injEq,KV.s.injEq,bP2]
 constructor
 ·rintro ⟨h1,h2,h3,h4⟩
  refine⟨h3,h1,h2,fun h=>?_⟩
  rw[h3,bK1 h,bK1 h]at h4;omega
 ·rintro ⟨h3,h1,h2,h4⟩
  refine⟨h1,h2,h3,?_⟩
  rw[h3]
  by_cases h:c.y=[]
  ·rw[bK1 h,bK1 h,h4 h]
  ·rw[bJ9 h,bJ9 h]
end Go.D
