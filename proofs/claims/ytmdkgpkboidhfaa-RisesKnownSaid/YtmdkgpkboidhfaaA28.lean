/- Chapter 08, the orders of a law: the conditions hold.
  Conditions: none. -/
import Derived.Test.YtmdkgpkboidhfaaA27
set_option linter.unusedVariables false
set_option linter.unusedSimpArgs false
namespace Go.C08
open Go Go.Xe Go.Sx
theorem part_take (r : List Int) (k : Int) : Sx.part (r.map row) 0 k=(r.take k.toNat).map row:=by
 unfold Sx.part
 rw [Int.toNat_zero,List.drop_zero,List.map_take]
theorem part_drop (r : List Int) {k n : Int} (h0 : 0≤k) (hn : n=r.length - k) : Sx.part (r.map row) k n=(r.drop k.toNat).map row:=by
 unfold Sx.part
 rw [← List.map_drop,List.take_of_length_le]
 rw [List.length_map,List.length_drop]; omega
end Go.C08
