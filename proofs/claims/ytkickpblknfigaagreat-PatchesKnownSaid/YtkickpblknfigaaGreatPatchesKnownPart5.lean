/-
  What is proved: the executor runs pieces of the law PatchesKnown from one state to the next one.
  Conditions: none.
-/
import Derived.Test.YtkickpblknfigaaGreatPatchesKnownStates2
namespace Go.Proofs.YtkickpblknfigaaGreat.patchesKnown
open Go.RowKit
set_option maxRecDepth 100000 in
theorem piece16 : Xe.pieceB Tryz.prog (Xe.xdraw2 Tryz.prog) (Xe.exec Tryz.prog (Xe.ovIf 274 26 (Xe.ovIf 250 25 (Xe.ovIf 238 37 (Xe.ovIf 155 43 Xe.noOv)))) 100000) 76 87 100000 (List.replicate 10 (Xe.loopOf Tryz.prog 105 9)) st6x1 [0, 1, 2, 3, 4, 5, 6, 7, 8, 9, 10, 11, 12, 13, 14, 15, 16, 17, 18, 19, 20, 21, 22, 23, 24, 25, 26, 27, 28, 29, 30, 31, 32, 33, 34, 35, 36, 37, 38, 39, 40, 41, 42, 43, 44, 45, 46, 47, 48, 49, 50, 51, 52, 53, 54, 55, 56, 57, 58, 59, 60, 61, 62, 63, 64, 65, 66, 67, 68, 69, 70, 71, 72, 73, 74, 75, 76, 77, 78, 79, 80, 81, 82, 83, 84, 85, 86, 87, 88, 89, 91, 121, 677, 1235, 1793, 2351, 2909, 3467, 4025, 4583, 5112, 5141, 5151, 5160, 5537] st6x2 = true := by kernel_rfl
set_option maxRecDepth 100000 in
theorem piece49 : Xe.retB Tryz.prog (Xe.xdraw2 Tryz.prog) (Xe.exec Tryz.prog (Xe.ovIf 274 26 (Xe.ovIf 250 25 (Xe.ovIf 238 37 (Xe.ovIf 155 43 Xe.noOv)))) 100000) 82 131 100000 ((Xe.partsOf Tryz.prog 45).drop 9) st10x9 (Xe.resOf' Tryz.prog 45) [0, 1, 2, 3, 4, 5, 6, 7, 8, 9, 10, 11, 12, 13, 14, 15, 16, 17, 18, 19, 20, 21, 22, 23, 24, 25, 26, 27, 28, 29, 30, 31, 32, 33, 34, 35, 36, 37, 38, 39, 40, 41, 42, 43, 44, 45, 46, 47, 48, 49, 50, 51, 52, 53, 54, 55, 56, 57, 58, 59, 60, 61, 62, 63, 64, 65, 66, 67, 68, 69, 70, 71, 72, 73, 74, 75, 76, 77, 78, 79, 80, 81, 82, 83, 84, 85, 86, 87, 88, 89, 90, 91, 92, 93, 94, 95, 96, 97, 98, 99, 100, 101, 102, 103, 104, 105, 106, 107, 108, 109, 110, 111, 112, 113, 114, 115, 116, 117, 118, 119, 120, 121, 122, 123, 124, 125, 126, 127, 128, 129, 130, 141, 142, 143, 144, 145] st10x10 = true := by kernel_rfl
set_option maxRecDepth 100000 in
theorem piece89 : Xe.pieceB Tryz.prog (Xe.xdraw2 Tryz.prog) (Xe.withSumm (Xe.exec Tryz.prog (Xe.ovIf 274 26 (Xe.ovIf 250 25 (Xe.ovIf 238 37 (Xe.ovIf 155 43 Xe.noOv)))) 100000) 18 st18x0 st18x2) 169 0 100000 (Xe.part Tryz.prog 6 9 2) st0x3 [0, 1, 2, 3, 5, 6, 7, 8, 10, 11, 12, 13, 14, 15, 16, 17, 18, 19, 20, 21, 22, 68, 69, 89, 99, 5957, 5961, 5965, 5969, 5973, 5977, 5981, 5985, 5989, 5993, 5997, 6001, 6005, 6009, 6013, 6017, 6021, 6025, 6029, 6033, 6037, 6041, 6045, 6049, 6053, 6057, 6061, 6065, 6069, 6073, 6077, 6081, 6085, 6089, 6093, 6097, 6101, 6105, 6109, 6113, 6117, 6121, 6125, 6129, 6133, 6137, 6141, 6145, 6149, 6153, 6157, 6161, 6165] st0x4 = true := by kernel_rfl
end Go.Proofs.YtkickpblknfigaaGreat.patchesKnown
