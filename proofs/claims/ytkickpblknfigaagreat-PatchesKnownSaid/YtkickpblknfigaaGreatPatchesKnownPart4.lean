/-
  What is proved: the executor runs pieces of the law PatchesKnown from one state to the next one.
  Conditions: none.
-/
import Derived.Test.YtkickpblknfigaaGreatPatchesKnownStates2
namespace Go.Proofs.YtkickpblknfigaaGreat.patchesKnown
open Go.RowKit
set_option maxRecDepth 100000 in
theorem piece24 : Xe.pieceB Tryz.prog (Xe.xdraw2 Tryz.prog) (Xe.exec Tryz.prog (Xe.ovIf 274 26 (Xe.ovIf 250 25 (Xe.ovIf 238 37 (Xe.ovIf 155 43 Xe.noOv)))) 100000) 82 99 100000 (List.replicate 1 (Xe.loopOf Tryz.prog 45 8)) st7x1 [0, 1, 2, 3, 4, 5, 6, 7, 8, 9, 10, 11, 12, 13, 14, 15, 16, 17, 18, 19, 20, 21, 22, 23, 24, 25, 26, 27, 28, 29, 30, 31, 32, 33, 34, 35, 36, 37, 38, 39, 40, 41, 42, 43, 44, 45, 46, 47, 48, 49, 50, 51, 52, 53, 54, 55, 56, 57, 58, 59, 60, 61, 62, 63, 64, 65, 66, 67, 68, 69, 70, 71, 72, 73, 74, 75, 76, 77, 78, 79, 80, 81, 82, 83, 84, 85, 86, 87, 88, 89, 90, 91, 92, 93, 94, 95, 96, 97, 98, 99, 100, 101, 102, 103, 104, 105, 106, 141, 355, 375] st7x2 = true := by kernel_rfl
set_option maxRecDepth 100000 in
theorem piece91 : Xe.pieceB Tryz.prog (Xe.xdraw2 Tryz.prog) (Xe.exec Tryz.prog (Xe.ovIf 274 26 (Xe.ovIf 250 25 (Xe.ovIf 238 37 (Xe.ovIf 155 43 Xe.noOv)))) 100000) 6 80 100000 (Xe.part Tryz.prog 38 0 2) st22x0 [0, 1, 2, 3, 4, 5, 6, 7, 8, 9, 10, 11, 12, 13, 14, 15, 16, 17, 18, 19, 20, 21, 22, 23, 24, 25, 26, 27, 28, 29, 30, 31, 32, 33, 34, 35, 36, 37, 38, 39, 40, 41, 42, 43, 44, 45, 46, 47, 48, 49, 50, 51, 52, 53, 54, 55, 56, 57, 58, 59, 60, 61, 62, 63, 64, 65, 66, 67, 68, 69, 70, 71, 72, 73, 74, 75, 76, 77, 78, 79, 80] st22x1 = true := by kernel_rfl
set_option maxRecDepth 100000 in
theorem piece100 : Xe.pieceB Tryz.prog (Xe.xdraw2 Tryz.prog) (Xe.exec Tryz.prog (Xe.ovIf 274 26 (Xe.ovIf 250 25 (Xe.ovIf 238 37 (Xe.ovIf 155 43 Xe.noOv)))) 100000) 129 27 100000 (Xe.part Tryz.prog 16 5 5) st23x1 [0, 1, 2, 3, 4, 5, 6, 7, 8, 9, 10, 11, 12, 13, 14, 15, 16, 17, 18, 19, 20, 21, 22, 23, 24, 25, 26, 27, 29, 30, 31, 32, 33, 34, 36, 37, 38, 39, 41, 42, 2661, 3192, 3325, 3434, 3435] st23x2 = true := by kernel_rfl
end Go.Proofs.YtkickpblknfigaaGreat.patchesKnown
