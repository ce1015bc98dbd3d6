/-
  What is proved: what the pieces of the law PatchesKnown come to, one after another.
  Conditions: none.
-/
import Derived.Test.YtkickpblknfigaaGreatPatchesKnownChain2
namespace Go.Proofs.YtkickpblknfigaaGreat.patchesKnown
open Go.RowKit
theorem until19x0 : Xe.Runs Tryz.prog 28 92 ((Xe.partsOf Tryz.prog 49).take 0) st19x0.tm st19x0.hp .normal st19x0.tm st19x0.hp := Xe.Runs.start
set_option maxRecDepth 100000 in
theorem until19x82 : Xe.Runs Tryz.prog 28 92 ((Xe.partsOf Tryz.prog 49).take 7) st19x0.tm st19x0.hp .normal st19x1.tm st19x1.hp := Xe.Runs.step (k := 0) until19x0 7 (Xe.piece_ok (Xe.exec_ok mixed ov_ok 100000) (Xe.xdraw2_ok mixed) piece81)
theorem until20x0 : Xe.Runs Tryz.prog 130 95 ((Xe.partsOf Tryz.prog 115).take 0) st20x0.tm st20x0.hp .normal st20x0.tm st20x0.hp := Xe.Runs.start
set_option maxRecDepth 100000 in
theorem until20x83 : Xe.Runs Tryz.prog 130 95 ((Xe.partsOf Tryz.prog 115).take 9) st20x0.tm st20x0.hp .normal st20x1.tm st20x1.hp := Xe.Runs.step (k := 0) until20x0 9 (Xe.piece_ok (Xe.exec_ok mixed ov_ok 100000) (Xe.xdraw2_ok mixed) piece82)
set_option maxRecDepth 100000 in
theorem until20x86 : Xe.Runs Tryz.prog 130 95 ((Xe.partsOf Tryz.prog 115).take 10) st20x0.tm st20x0.hp .normal st20x4.tm st20x4.hp := Xe.Runs.loopStep (k := 9) until20x83 (by kernel_rfl) (Xe.RunsLoop.many 2 (Xe.piece_ok (Xe.exec_ok mixed ov_ok 100000) (Xe.xdraw2_ok mixed) piece83) (Xe.RunsLoop.many 2 (Xe.piece_ok (Xe.exec_ok mixed ov_ok 100000) (Xe.xdraw2_ok mixed) piece84) (Xe.loopB_ok (Xe.exec_ok mixed ov_ok 100000) (Xe.xdraw2_ok mixed) piece85)))
set_option maxRecDepth 100000 in
theorem summ20 : Xe.Summ Tryz.prog 115 st20x0 st20x5 := Xe.summ_of_pieces (Xe.exec_ok mixed ov_ok 100000) (Xe.xdraw2_ok mixed) (by kernel_rfl) (by kernel_rfl) (by kernel_rfl) until20x86 piece86 (by kernel_rfl) (by kernel_rfl)
set_option maxRecDepth 100000 in
theorem summ19 : Xe.Summ Tryz.prog 49 st19x0 st19x2 := Xe.summ_of_pieces (Xe.withSumm_ok (Xe.exec_ok mixed ov_ok 100000) summ20) (Xe.xdraw2_ok mixed) (by kernel_rfl) (by kernel_rfl) (by kernel_rfl) until19x82 piece87 (by kernel_rfl) (by kernel_rfl)
set_option maxRecDepth 100000 in
theorem summ18 : Xe.Summ Tryz.prog 18 st18x0 st18x2 := Xe.summ_of_pieces (Xe.withSumm_ok (Xe.exec_ok mixed ov_ok 100000) summ19) (Xe.xdraw2_ok mixed) (by kernel_rfl) (by kernel_rfl) (by kernel_rfl) until18x81 piece88 (by kernel_rfl) (by kernel_rfl)
set_option maxRecDepth 100000 in
theorem until0x90 : Xe.Runs Tryz.prog 169 0 ((Xe.partsOf Tryz.prog 6).take 11) Xe.St.none.tm Xe.St.none.hp .normal st0x4.tm st0x4.hp := Xe.Runs.step (k := 9) until0x80 2 (Xe.piece_ok (Xe.withSumm_ok (Xe.exec_ok mixed ov_ok 100000) summ18) (Xe.xdraw2_ok mixed) piece89)
theorem until21x0 : Xe.Runs Tryz.prog 16 78 ((Xe.partsOf Tryz.prog 22).take 0) st21x0.tm st21x0.hp .normal st21x0.tm st21x0.hp := Xe.Runs.start
set_option maxRecDepth 100000 in
theorem until21x91 : Xe.Runs Tryz.prog 16 78 ((Xe.partsOf Tryz.prog 22).take 1) st21x0.tm st21x0.hp .normal st21x1.tm st21x1.hp := Xe.Runs.step (k := 0) until21x0 1 (Xe.piece_ok (Xe.exec_ok mixed ov_ok 100000) (Xe.xdraw2_ok mixed) piece90)
theorem until22x0 : Xe.Runs Tryz.prog 6 80 ((Xe.partsOf Tryz.prog 38).take 0) st22x0.tm st22x0.hp .normal st22x0.tm st22x0.hp := Xe.Runs.start
set_option maxRecDepth 100000 in
theorem until22x92 : Xe.Runs Tryz.prog 6 80 ((Xe.partsOf Tryz.prog 38).take 2) st22x0.tm st22x0.hp .normal st22x1.tm st22x1.hp := Xe.Runs.step (k := 0) until22x0 2 (Xe.piece_ok (Xe.exec_ok mixed ov_ok 100000) (Xe.xdraw2_ok mixed) piece91)
set_option maxRecDepth 100000 in
theorem summ22 : Xe.Summ Tryz.prog 38 st22x0 st22x2 := Xe.summ_of_pieces (Xe.exec_ok mixed ov_ok 100000) (Xe.xdraw2_ok mixed) (by kernel_rfl) (by kernel_rfl) (by kernel_rfl) until22x92 piece92 (by kernel_rfl) (by kernel_rfl)
set_option maxRecDepth 100000 in
theorem until21x94 : Xe.Runs Tryz.prog 16 78 ((Xe.partsOf Tryz.prog 22).take 2) st21x0.tm st21x0.hp .normal st21x2.tm st21x2.hp := Xe.Runs.step (k := 1) until21x91 1 (Xe.piece_ok (Xe.withSumm_ok (Xe.exec_ok mixed ov_ok 100000) summ22) (Xe.xdraw2_ok mixed) piece93)
set_option maxRecDepth 100000 in
theorem summ21 : Xe.Summ Tryz.prog 22 st21x0 st21x3 := Xe.summ_of_pieces (Xe.exec_ok mixed ov_ok 100000) (Xe.xdraw2_ok mixed) (by kernel_rfl) (by kernel_rfl) (by kernel_rfl) until21x94 piece94 (by kernel_rfl) (by kernel_rfl)
set_option maxRecDepth 100000 in
theorem until0x96 : Xe.Runs Tryz.prog 169 0 ((Xe.partsOf Tryz.prog 6).take 16) Xe.St.none.tm Xe.St.none.hp .normal st0x5.tm st0x5.hp := Xe.Runs.step (k := 11) until0x90 5 (Xe.piece_ok (Xe.withSumm_ok (Xe.exec_ok mixed ov_ok 100000) summ21) (Xe.xdraw2_ok mixed) piece95)
set_option maxRecDepth 100000 in
theorem until0x98 : Xe.Runs Tryz.prog 169 0 ((Xe.partsOf Tryz.prog 6).take 17) Xe.St.none.tm Xe.St.none.hp .normal st0x7.tm st0x7.hp := Xe.Runs.loopStep (k := 16) until0x96 (by kernel_rfl) (Xe.RunsLoop.many 10 (Xe.piece_ok (Xe.exec_ok mixed ov_ok 100000) (Xe.xdraw2_ok mixed) piece96) (Xe.loopB_ok (Xe.exec_ok mixed ov_ok 100000) (Xe.xdraw2_ok mixed) piece97))
set_option maxRecDepth 100000 in
theorem until0x99 : Xe.Runs Tryz.prog 169 0 ((Xe.partsOf Tryz.prog 6).take 19) Xe.St.none.tm Xe.St.none.hp .normal st0x8.tm st0x8.hp := Xe.Runs.step (k := 17) until0x98 2 (Xe.piece_ok (Xe.exec_ok mixed ov_ok 100000) (Xe.xdraw2_ok mixed) piece98)
theorem until23x0 : Xe.Runs Tryz.prog 129 27 ((Xe.partsOf Tryz.prog 16).take 0) st23x0.tm st23x0.hp .normal st23x0.tm st23x0.hp := Xe.Runs.start
set_option maxRecDepth 100000 in
theorem until23x100 : Xe.Runs Tryz.prog 129 27 ((Xe.partsOf Tryz.prog 16).take 5) st23x0.tm st23x0.hp .normal st23x1.tm st23x1.hp := Xe.Runs.step (k := 0) until23x0 5 (Xe.piece_ok (Xe.exec_ok mixed ov_ok 100000) (Xe.xdraw2_ok mixed) piece99)
set_option maxRecDepth 100000 in
theorem until23x101 : Xe.Runs Tryz.prog 129 27 ((Xe.partsOf Tryz.prog 16).take 10) st23x0.tm st23x0.hp .normal st23x2.tm st23x2.hp := Xe.Runs.step (k := 5) until23x100 5 (Xe.piece_ok (Xe.exec_ok mixed ov_ok 100000) (Xe.xdraw2_ok mixed) piece100)
set_option maxRecDepth 100000 in
theorem summ23 : Xe.Summ Tryz.prog 16 st23x0 st23x3 := Xe.summ_of_pieces (Xe.exec_ok mixed ov_ok 100000) (Xe.xdraw2_ok mixed) (by kernel_rfl) (by kernel_rfl) (by kernel_rfl) until23x101 piece101 (by kernel_rfl) (by kernel_rfl)
end Go.Proofs.YtkickpblknfigaaGreat.patchesKnown
