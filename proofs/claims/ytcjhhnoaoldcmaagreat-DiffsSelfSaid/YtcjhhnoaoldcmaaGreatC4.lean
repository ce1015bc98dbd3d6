/- Which children match, by the definition: the conditions hold.
  Conditions: none. -/
import Derived.Test.YtcjhhnoaoldcmaaGreatC3
set_option linter.unusedVariables false
set_option linter.unusedSimpArgs false
namespace Go.D
open Go Go.Xe Go.Sx
open Go.C36 (row j0 lis cLong cRlong longPre longRel rlongPre rlongRel)
theorem spk_eq {c d:Tree}{a b:Nat}:spk d a=spk c b↔d.y=c.y/\d.k=c.k/\d.t=c.t/\(c.y=[]->a=b):=by
 unfold spk
 simp only[bM0,KV.i.injEq,KV.s.injEq,bM4]
 constructor
 ·rintro ⟨h1,h2,h3,h4⟩
  refine⟨h3,h1,h2,fun h=>?_⟩
  rw[h3,bH3 h,bH3 h]at h4;omega
 ·rintro ⟨h3,h1,h2,h4⟩
  refine⟨h1,h2,h3,?_⟩
  rw[h3]
  by_cases h:c.y=[]
  ·rw[bH3 h,bH3 h,h4 h]
  ·rw[bH1 h,bH1 h]
theorem mtch_at {o n:List Tree}{i:Nat}(h:i<n.length):(mtch o n)[i]? =some (lastIx (spotAt o) o.length (spotAt n i)):=by
 unfold mtch;rw[bK1,List.getElem?_range h];rfl
end Go.D
