/-
  What is proved: the executor runs pieces of the law PatchesKnown from one state to the next one.
  Conditions: none.
-/
import Derived.Test.YtkickpblknfigaaGreatPatchesKnownStates2
namespace Go.Proofs.YtkickpblknfigaaGreat.patchesKnown
open Go.RowKit
set_option maxRecDepth 100000 in
theorem piece28 : Xe.pieceB Tryz.prog (Xe.xdraw2 Tryz.prog) (Xe.exec Tryz.prog (Xe.ovIf 274 26 (Xe.ovIf 250 25 (Xe.ovIf 238 37 (Xe.ovIf 155 43 Xe.noOv)))) 100000) 82 123 100000 (List.replicate 5 (Xe.loopOf Tryz.prog 45 8)) st8x3 [0, 1, 2, 3, 4, 5, 6, 7, 8, 9, 10, 11, 12, 13, 14, 15, 16, 17, 18, 19, 20, 21, 22, 23, 24, 25, 26, 27, 28, 29, 30, 31, 32, 33, 34, 35, 36, 37, 38, 39, 40, 41, 42, 43, 44, 45, 46, 47, 48, 49, 50, 51, 52, 53, 54, 55, 56, 57, 58, 59, 60, 61, 62, 63, 64, 65, 66, 67, 68, 69, 70, 71, 72, 73, 74, 75, 76, 77, 78, 79, 80, 81, 82, 83, 84, 85, 86, 87, 88, 89, 90, 91, 92, 93, 94, 95, 96, 97, 98, 99, 100, 101, 102, 103, 104, 105, 106, 107, 108, 109, 110, 111, 112, 113, 114, 115, 116, 117, 118, 119, 120, 121, 122, 123, 124, 125, 126, 127, 128, 129, 4557, 4611, 4659, 4660, 4691, 4698, 4748, 5822, 5879, 5929] st8x4 = true := by kernel_rfl
set_option maxRecDepth 100000 in
theorem piece45 : Xe.pieceB Tryz.prog (Xe.xdraw2 Tryz.prog) (Xe.exec Tryz.prog (Xe.ovIf 274 26 (Xe.ovIf 250 25 (Xe.ovIf 238 37 (Xe.ovIf 155 43 Xe.noOv)))) 100000) 82 131 100000 (List.replicate 2 (Xe.loopOf Tryz.prog 45 8)) st10x5 [0, 1, 2, 3, 4, 5, 6, 7, 8, 9, 10, 11, 12, 13, 14, 15, 16, 17, 18, 19, 20, 21, 22, 23, 24, 25, 26, 27, 28, 29, 30, 31, 32, 33, 34, 35, 36, 37, 38, 39, 40, 41, 42, 43, 44, 45, 46, 47, 48, 49, 50, 51, 52, 53, 54, 55, 56, 57, 58, 59, 60, 61, 62, 63, 64, 65, 66, 67, 68, 69, 70, 71, 72, 73, 74, 75, 76, 77, 78, 79, 80, 81, 82, 83, 84, 85, 86, 87, 88, 89, 90, 91, 92, 93, 94, 95, 96, 97, 98, 99, 100, 101, 102, 103, 104, 105, 106, 107, 108, 109, 110, 111, 112, 113, 114, 115, 116, 117, 118, 119, 120, 121, 122, 123, 124, 125, 126, 127, 128, 129, 130, 131, 132, 133, 134, 135, 136, 137, 3562, 3569, 3621, 3705, 3743, 3744, 3775, 3782, 3834, 3886, 3921, 7203, 7210, 7262, 7349, 7389] st10x6 = true := by kernel_rfl
end Go.Proofs.YtkickpblknfigaaGreat.patchesKnown
