/-
  What is proved: the executor runs pieces of the law PatchesKnown from one state to the next one.
  Conditions: none.
-/
import Derived.Test.YtkickpblknfigaaGreatPatchesKnownStates2
namespace Go.Proofs.YtkickpblknfigaaGreat.patchesKnown
open Go.RowKit
set_option maxRecDepth 100000 in
theorem piece0 : Xe.pieceB Tryz.prog (Xe.xdraw2 Tryz.prog) (Xe.exec Tryz.prog (Xe.ovIf 274 26 (Xe.ovIf 250 25 (Xe.ovIf 238 37 (Xe.ovIf 155 43 Xe.noOv)))) 100000) 169 0 100000 (Xe.part Tryz.prog 6 0 5) Xe.St.none [0, 1, 35, 103, 105, 110, 169, 172, 173, 175, 177, 179, 180, 181, 211, 212, 213, 214, 215, 216, 217] st0x1 = true := by kernel_rfl
set_option maxRecDepth 100000 in
theorem piece34 : Xe.pieceB Tryz.prog (Xe.xdraw2 Tryz.prog) (Xe.exec Tryz.prog (Xe.ovIf 274 26 (Xe.ovIf 250 25 (Xe.ovIf 238 37 (Xe.ovIf 155 43 Xe.noOv)))) 100000) 82 128 100000 (List.replicate 4 (Xe.loopOf Tryz.prog 45 8)) st9x2 [0, 1, 2, 3, 4, 5, 6, 7, 8, 9, 10, 11, 12, 13, 14, 15, 16, 17, 18, 19, 20, 21, 22, 23, 24, 25, 26, 27, 28, 29, 30, 31, 32, 33, 34, 35, 36, 37, 38, 39, 40, 41, 42, 43, 44, 45, 46, 47, 48, 49, 50, 51, 52, 53, 54, 55, 56, 57, 58, 59, 60, 61, 62, 63, 64, 65, 66, 67, 68, 69, 70, 71, 72, 73, 74, 75, 76, 77, 78, 79, 80, 81, 82, 83, 84, 85, 86, 87, 88, 89, 90, 91, 92, 93, 94, 95, 96, 97, 98, 99, 100, 101, 102, 103, 104, 105, 106, 107, 108, 109, 110, 111, 112, 113, 114, 115, 116, 117, 118, 119, 120, 121, 122, 123, 124, 125, 126, 127, 128, 129, 130, 131, 132, 133, 134, 6147, 6154, 6229, 6261, 6262, 6293, 6300, 6352, 6378, 8292, 8299, 8377, 8411] st9x3 = true := by kernel_rfl
set_option maxRecDepth 100000 in
theorem piece78 : Xe.retB Tryz.prog (Xe.xdraw2 Tryz.prog) (Xe.withSumm (Xe.exec Tryz.prog (Xe.ovIf 274 26 (Xe.ovIf 250 25 (Xe.ovIf 238 37 (Xe.ovIf 155 43 Xe.noOv)))) 100000) 51 st17x0 st17x7) 63 101 100000 ((Xe.partsOf Tryz.prog 12).drop 11) st11x3 (Xe.resOf' Tryz.prog 12) [0, 1, 2, 3, 4, 5, 6, 7, 8, 9, 10, 11, 12, 13, 14, 15, 16, 17, 18, 19, 20, 21, 22, 23, 24, 25, 26, 27, 28, 29, 30, 31, 32, 33, 34, 35, 36, 37, 38, 39, 40, 41, 42, 43, 44, 45, 46, 47, 48, 49, 50, 51, 52, 53, 54, 55, 56, 57, 58, 59, 60, 61, 62, 63, 64, 65, 66, 67, 68, 69, 70, 71, 72, 73, 74, 75, 76, 77, 78, 79, 80, 81, 82, 83, 84, 85, 86, 87, 88, 89, 90, 91, 92, 93, 94, 95, 96, 97, 98, 99, 100, 157, 158, 159, 160, 161, 162, 163, 164, 165, 166, 167, 168, 169, 170, 171, 172, 173, 174, 175] st11x4 = true := by kernel_rfl
set_option maxRecDepth 100000 in
theorem piece96 : Xe.pieceB Tryz.prog (Xe.xdraw2 Tryz.prog) (Xe.exec Tryz.prog (Xe.ovIf 274 26 (Xe.ovIf 250 25 (Xe.ovIf 238 37 (Xe.ovIf 155 43 Xe.noOv)))) 100000) 169 0 100000 (List.replicate 10 (Xe.loopOf Tryz.prog 6 16)) st0x5 [0, 1, 2, 3, 4, 5, 6, 7, 8, 9, 10, 11, 12, 13, 14, 15, 16, 17, 18, 19, 20, 21, 22, 23, 24, 25, 27, 54, 607, 1162, 1717, 2272, 2827, 3382, 3937, 4492, 5047, 5057, 5066, 5443] st0x6 = true := by kernel_rfl
end Go.Proofs.YtkickpblknfigaaGreat.patchesKnown
