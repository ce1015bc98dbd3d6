/-
  What is proved: the executor runs pieces of the law PatchesKnown from one state to the next one.
  Conditions: none.
-/
import Derived.Test.YtkickpblknfigaaGreatPatchesKnownStates2
namespace Go.Proofs.YtkickpblknfigaaGreat.patchesKnown
open Go.RowKit
set_option maxRecDepth 100000 in
theorem piece7 : Xe.loopB Tryz.prog (Xe.xdraw2 Tryz.prog) (Xe.exec Tryz.prog (Xe.ovIf 274 26 (Xe.ovIf 250 25 (Xe.ovIf 238 37 (Xe.ovIf 155 43 Xe.noOv)))) 100000) 76 51 100000 (Xe.loopOf Tryz.prog 105 9) 2 st4x2 [0, 1, 2, 3, 4, 5, 6, 7, 8, 9, 10, 11, 12, 13, 14, 15, 16, 17, 18, 19, 20, 21, 22, 23, 24, 25, 26, 27, 28, 29, 30, 31, 32, 33, 34, 35, 36, 37, 38, 39, 40, 41, 42, 43, 44, 45, 46, 47, 48, 49, 50, 51, 52, 53, 54, 55, 56, 57, 58, 59, 60, 61, 62, 64, 97, 655, 1213, 1771, 2329, 2887, 3416, 3445, 3455, 3464, 3841] st4x3 = true := by kernel_rfl
set_option maxRecDepth 100000 in
theorem piece94 : Xe.retB Tryz.prog (Xe.xdraw2 Tryz.prog) (Xe.exec Tryz.prog (Xe.ovIf 274 26 (Xe.ovIf 250 25 (Xe.ovIf 238 37 (Xe.ovIf 155 43 Xe.noOv)))) 100000) 16 78 100000 ((Xe.partsOf Tryz.prog 22).drop 2) st21x2 (Xe.resOf' Tryz.prog 22) [0, 1, 2, 3, 4, 5, 6, 7, 8, 9, 10, 11, 12, 13, 14, 15, 16, 17, 18, 19, 20, 21, 22, 23, 24, 25, 26, 27, 28, 29, 30, 31, 32, 33, 34, 35, 36, 37, 38, 39, 40, 41, 42, 43, 44, 45, 46, 47, 48, 49, 50, 51, 52, 53, 54, 55, 56, 57, 58, 59, 60, 61, 62, 63, 64, 65, 66, 67, 68, 69, 70, 71, 72, 73, 74, 75, 76, 77] st21x3 = true := by kernel_rfl
set_option maxRecDepth 100000 in
theorem piece97 : Xe.loopB Tryz.prog (Xe.xdraw2 Tryz.prog) (Xe.exec Tryz.prog (Xe.ovIf 274 26 (Xe.ovIf 250 25 (Xe.ovIf 238 37 (Xe.ovIf 155 43 Xe.noOv)))) 100000) 169 0 100000 (Xe.loopOf Tryz.prog 6 16) 4 st0x6 [0, 1, 2, 3, 4, 5, 6, 7, 8, 9, 10, 11, 12, 13, 14, 15, 16, 17, 18, 19, 20, 21, 22, 23, 24, 25, 26, 27, 28, 29, 30, 31, 32, 33, 34, 35, 36, 66, 621, 1176, 1731, 2286, 2841, 3396, 3406, 3415, 3792] st0x7 = true := by kernel_rfl
set_option maxRecDepth 100000 in
theorem piece101 : Xe.retB Tryz.prog (Xe.xdraw2 Tryz.prog) (Xe.exec Tryz.prog (Xe.ovIf 274 26 (Xe.ovIf 250 25 (Xe.ovIf 238 37 (Xe.ovIf 155 43 Xe.noOv)))) 100000) 129 27 100000 ((Xe.partsOf Tryz.prog 16).drop 10) st23x2 (Xe.resOf' Tryz.prog 16) [0, 1, 2, 3, 4, 5, 6, 7, 8, 9, 10, 11, 12, 13, 14, 15, 16, 17, 18, 19, 20, 21, 22, 23, 24, 25, 26] st23x3 = true := by kernel_rfl
end Go.Proofs.YtkickpblknfigaaGreat.patchesKnown
