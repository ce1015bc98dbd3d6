/-
  What is proved: the executor runs the first parts of the law JournalsNil, with an argument that is not known, up to a state.
  Conditions: none.
-/
import Derived.Test.YtcdhfbjbcdekfaaRows
import Derived.Test.YtcdhfbjbcdekfaaXe20
import Derived.WalkKit
namespace Go.Proofs.Ytcdhfbjbcdekfaa.journalsNil
open Go.RowKit
set_option maxRecDepth 100000
def s1 : Xe.St := ⟨[.complex .f32 36893488147419103232 256, Go.undef, .bool false, .pointer none, .pointer (some ⟨0, 0, none⟩), .slice (some ⟨1, 0, none⟩) 2 2, .int .i64 (2), .pointer none, .int .i64 (2), .pointer (some ⟨3, 0, none⟩), .int .i64 (0), .complex .f64 0 80, .int .i64 (0), Go.undef, .pointer none, .slice (some ⟨1, 0, none⟩) 2 2, .int .i64 (2), .bool false, .int .i64 (1), .int .i64 (2), .slice (some ⟨1, 0, none⟩) 2 2, .int .i64 (1), .pointer (some ⟨1, 1, none⟩), .pointer (some ⟨0, 0, none⟩), .int .i64 (2), .bool false, .bool false, .slice (some ⟨1, 0, none⟩) 2 2, .int .i64 (1), .pointer (some ⟨1, 1, none⟩), .pointer (some ⟨0, 0, none⟩), .int .i64 (2), .bool false, .bool false, .bool false, .slice (some ⟨1, 0, none⟩) 2 2, .int .i64 (1), .pointer (some ⟨1, 1, none⟩), .pointer (some ⟨0, 0, none⟩), .int .i64 (2), .bool false, .bool false, .bool false, .slice (some ⟨1, 0, none⟩) 2 2, .int .i64 (1), .pointer (some ⟨1, 1, none⟩), .pointer (some ⟨0, 0, none⟩), .int .i64 (0), .bool false, .bool false, .bool false, .slice (some ⟨1, 0, none⟩) 2 2, .int .i64 (1), .pointer (some ⟨1, 1, none⟩), .pointer (some ⟨0, 0, none⟩), .int .i64 (0), .bool false, .bool false, .bool false, .slice (some ⟨1, 0, none⟩) 2 2, .int .i64 (1), .pointer (some ⟨1, 1, none⟩), .pointer (some ⟨0, 0, none⟩), .int .i64 (2), .bool false, .bool false, .tuple #[.pointer none, .int .i64 (2)], .tuple #[.pointer none, .int .i64 (2)], .pointer none, .int .i64 (2), .tuple #[.pointer (some ⟨3, 0, none⟩), .int .i64 (0)], .pointer (some ⟨2, 0, none⟩), .tuple #[.pointer (some ⟨3, 0, none⟩), .int .i64 (0)], .pointer (some ⟨3, 0, none⟩), .int .i64 (0), .pointer none, .bool false, .bool false, .int .i64 (2), .bool false, .bool false, .bool false, .int .i64 (0), .bool false, .bool false, .bool false, .pointer (some ⟨3, 0, none⟩), .int .i64 (1), .bool false, .bool false, .bool false, .pointer none, .int .i64 (2), .bool false, .bool false, .complex .f32 36893488147419103232 256, .complex .f32 36893488147419103232 80, .complex .f64 0 80, Go.undef, Go.undef, Go.undef, Go.undef, Go.undef, Go.undef, Go.undef, Go.undef, Go.undef, Go.undef, Go.undef, Go.undef, Go.undef, Go.undef, Go.undef, Go.undef, Go.undef, Go.undef, Go.undef, Go.undef, Go.undef, Go.undef, Go.undef, Go.undef, Go.undef, Go.undef, Go.undef, Go.undef, Go.undef, Go.undef, Go.undef, Go.undef, Go.undef, Go.undef, Go.undef, Go.undef, Go.undef, Go.undef, Go.undef, Go.undef, Go.undef, Go.undef, Go.undef, Go.undef],
  [.gone,
   .gone,
   .cells 13 [.slice none 0 0, .int .i64 (0), .int .i64 (0), .int .i64 (0), .int .i64 (0), .int .i64 (0), .int .i64 (0), .int .i64 (0), .int .i64 (0), .int .i64 (0), .int .i64 (0), .bool false, .slice none 0 0] 50 13,
   .cells 2 [.pointer (some ⟨2, 0, none⟩), .slice none 0 0] 26 2]⟩
def Good (i : Nat) : Prop := Xe.lastB Try.prog (Xe.xdraw Try.prog) (Xe.exec Try.prog Xe.noOv 100000) 142 100000 ((Xe.partsOf Try.prog 3).drop 12) (s1.setI 11 i) (Xe.resOf' Try.prog 3) = true
theorem first : Xe.firstB Try.prog (Xe.xdraw Try.prog) (Xe.exec Try.prog Xe.noOv 100000) 142 100000 ((Xe.partsOf Try.prog 3).take 12) [Xe.anyU8] [0, 1, 6, 7] s1 = true := by kernel_rfl
end Go.Proofs.Ytcdhfbjbcdekfaa.journalsNil
