/-
  What is proved: what the pieces of the law PatchesKnown come to, one after another.
  Conditions: none.
-/
import Derived.Test.YtkickpblknfigaaGreatPatchesKnownChain1
namespace Go.Proofs.YtkickpblknfigaaGreat.patchesKnown
open Go.RowKit
theorem until13x0 : Xe.Runs Tryz.prog 130 110 ((Xe.partsOf Tryz.prog 115).take 0) st13x0.tm st13x0.hp .normal st13x0.tm st13x0.hp := Xe.Runs.start
set_option maxRecDepth 100000 in
theorem until13x58 : Xe.Runs Tryz.prog 130 110 ((Xe.partsOf Tryz.prog 115).take 9) st13x0.tm st13x0.hp .normal st13x1.tm st13x1.hp := Xe.Runs.step (k := 0) until13x0 9 (Xe.piece_ok (Xe.exec_ok mixed ov_ok 100000) (Xe.xdraw2_ok mixed) piece57)
set_option maxRecDepth 100000 in
theorem until13x61 : Xe.Runs Tryz.prog 130 110 ((Xe.partsOf Tryz.prog 115).take 10) st13x0.tm st13x0.hp .normal st13x4.tm st13x4.hp := Xe.Runs.loopStep (k := 9) until13x58 (by kernel_rfl) (Xe.RunsLoop.many 2 (Xe.piece_ok (Xe.exec_ok mixed ov_ok 100000) (Xe.xdraw2_ok mixed) piece58) (Xe.RunsLoop.many 1 (Xe.piece_ok (Xe.exec_ok mixed ov_ok 100000) (Xe.xdraw2_ok mixed) piece59) (Xe.loopB_ok (Xe.exec_ok mixed ov_ok 100000) (Xe.xdraw2_ok mixed) piece60)))
set_option maxRecDepth 100000 in
theorem summ13 : Xe.Summ Tryz.prog 115 st13x0 st13x5 := Xe.summ_of_pieces (Xe.exec_ok mixed ov_ok 100000) (Xe.xdraw2_ok mixed) (by kernel_rfl) (by kernel_rfl) (by kernel_rfl) until13x61 piece61 (by kernel_rfl) (by kernel_rfl)
set_option maxRecDepth 100000 in
theorem summ12 : Xe.Summ Tryz.prog 49 st12x0 st12x3 := Xe.summ_of_pieces (Xe.withSumm_ok (Xe.exec_ok mixed ov_ok 100000) summ13) (Xe.xdraw2_ok mixed) (by kernel_rfl) (by kernel_rfl) (by kernel_rfl) until12x57 piece62 (by kernel_rfl) (by kernel_rfl)
set_option maxRecDepth 100000 in
theorem until11x64 : Xe.Runs Tryz.prog 63 101 ((Xe.partsOf Tryz.prog 12).take 7) st11x0.tm st11x0.hp .normal st11x2.tm st11x2.hp := Xe.Runs.step (k := 4) until11x55 3 (Xe.piece_ok (Xe.withSumm_ok (Xe.exec_ok mixed ov_ok 100000) summ12) (Xe.xdraw2_ok mixed) piece63)
theorem until14x0 : Xe.Runs Tryz.prog 37 156 ((Xe.partsOf Tryz.prog 50).take 0) st14x0.tm st14x0.hp .normal st14x0.tm st14x0.hp := Xe.Runs.start
set_option maxRecDepth 100000 in
theorem until14x65 : Xe.Runs Tryz.prog 37 156 ((Xe.partsOf Tryz.prog 50).take 1) st14x0.tm st14x0.hp .normal st14x1.tm st14x1.hp := Xe.Runs.step (k := 0) until14x0 1 (Xe.piece_ok (Xe.exec_ok mixed ov_ok 100000) (Xe.xdraw2_ok mixed) piece64)
theorem until15x0 : Xe.Runs Tryz.prog 29 158 ((Xe.partsOf Tryz.prog 20).take 0) st15x0.tm st15x0.hp .normal st15x0.tm st15x0.hp := Xe.Runs.start
set_option maxRecDepth 100000 in
theorem until15x66 : Xe.Runs Tryz.prog 29 158 ((Xe.partsOf Tryz.prog 20).take 6) st15x0.tm st15x0.hp .normal st15x1.tm st15x1.hp := Xe.Runs.step (k := 0) until15x0 6 (Xe.piece_ok (Xe.exec_ok mixed ov_ok 100000) (Xe.xdraw2_ok mixed) piece65)
set_option maxRecDepth 100000 in
theorem summ15 : Xe.Summ Tryz.prog 20 st15x0 st15x2 := Xe.summ_of_pieces (Xe.exec_ok mixed ov_ok 100000) (Xe.xdraw2_ok mixed) (by kernel_rfl) (by kernel_rfl) (by kernel_rfl) until15x66 piece66 (by kernel_rfl) (by kernel_rfl)
set_option maxRecDepth 100000 in
theorem until14x68 : Xe.Runs Tryz.prog 37 156 ((Xe.partsOf Tryz.prog 50).take 7) st14x0.tm st14x0.hp .normal st14x2.tm st14x2.hp := Xe.Runs.step (k := 1) until14x65 6 (Xe.piece_ok (Xe.withSumm_ok (Xe.exec_ok mixed ov_ok 100000) summ15) (Xe.xdraw2_ok mixed) piece67)
theorem until16x0 : Xe.Runs Tryz.prog 18 1117 ((Xe.partsOf Tryz.prog 117).take 0) st16x0.tm st16x0.hp .normal st16x0.tm st16x0.hp := Xe.Runs.start
set_option maxRecDepth 100000 in
theorem summ16 : Xe.Summ Tryz.prog 117 st16x0 st16x1 := Xe.summ_of_pieces (Xe.exec_ok mixed ov_ok 100000) (Xe.xdraw2_ok mixed) (by kernel_rfl) (by kernel_rfl) (by kernel_rfl) until16x0 piece68 (by kernel_rfl) (by kernel_rfl)
set_option maxRecDepth 100000 in
theorem summ14 : Xe.Summ Tryz.prog 50 st14x0 st14x3 := Xe.summ_of_pieces (Xe.withSumm_ok (Xe.exec_ok mixed ov_ok 100000) summ16) (Xe.xdraw2_ok mixed) (by kernel_rfl) (by kernel_rfl) (by kernel_rfl) until14x68 piece69 (by kernel_rfl) (by kernel_rfl)
set_option maxRecDepth 100000 in
theorem until11x71 : Xe.Runs Tryz.prog 63 101 ((Xe.partsOf Tryz.prog 12).take 11) st11x0.tm st11x0.hp .normal st11x3.tm st11x3.hp := Xe.Runs.step (k := 7) until11x64 4 (Xe.piece_ok (Xe.withSumm_ok (Xe.exec_ok mixed ov_ok 100000) summ14) (Xe.xdraw2_ok mixed) piece70)
theorem until17x0 : Xe.Runs Tryz.prog 45 157 ((Xe.partsOf Tryz.prog 51).take 0) st17x0.tm st17x0.hp .normal st17x0.tm st17x0.hp := Xe.Runs.start
set_option maxRecDepth 100000 in
theorem until17x72 : Xe.Runs Tryz.prog 45 157 ((Xe.partsOf Tryz.prog 51).take 3) st17x0.tm st17x0.hp .normal st17x1.tm st17x1.hp := Xe.Runs.step (k := 0) until17x0 3 (Xe.piece_ok (Xe.exec_ok mixed ov_ok 100000) (Xe.xdraw2_ok mixed) piece71)
set_option maxRecDepth 100000 in
theorem until17x77 : Xe.Runs Tryz.prog 45 157 ((Xe.partsOf Tryz.prog 51).take 4) st17x0.tm st17x0.hp .normal st17x6.tm st17x6.hp := Xe.Runs.loopStep (k := 3) until17x72 (by kernel_rfl) (Xe.RunsLoop.many 8 (Xe.piece_ok (Xe.exec_ok mixed ov_ok 100000) (Xe.xdraw2_ok mixed) piece72) (Xe.RunsLoop.many 7 (Xe.piece_ok (Xe.exec_ok mixed ov_ok 100000) (Xe.xdraw2_ok mixed) piece73) (Xe.RunsLoop.many 8 (Xe.piece_ok (Xe.exec_ok mixed ov_ok 100000) (Xe.xdraw2_ok mixed) piece74) (Xe.RunsLoop.many 8 (Xe.piece_ok (Xe.exec_ok mixed ov_ok 100000) (Xe.xdraw2_ok mixed) piece75) (Xe.loopB_ok (Xe.exec_ok mixed ov_ok 100000) (Xe.xdraw2_ok mixed) piece76)))))
set_option maxRecDepth 100000 in
theorem summ17 : Xe.Summ Tryz.prog 51 st17x0 st17x7 := Xe.summ_of_pieces (Xe.exec_ok mixed ov_ok 100000) (Xe.xdraw2_ok mixed) (by kernel_rfl) (by kernel_rfl) (by kernel_rfl) until17x77 piece77 (by kernel_rfl) (by kernel_rfl)
set_option maxRecDepth 100000 in
theorem summ11 : Xe.Summ Tryz.prog 12 st11x0 st11x4 := Xe.summ_of_pieces (Xe.withSumm_ok (Xe.exec_ok mixed ov_ok 100000) summ17) (Xe.xdraw2_ok mixed) (by kernel_rfl) (by kernel_rfl) (by kernel_rfl) until11x71 piece78 (by kernel_rfl) (by kernel_rfl)
set_option maxRecDepth 100000 in
theorem until0x80 : Xe.Runs Tryz.prog 169 0 ((Xe.partsOf Tryz.prog 6).take 9) Xe.St.none.tm Xe.St.none.hp .normal st0x3.tm st0x3.hp := Xe.Runs.step (k := 8) until0x54 1 (Xe.piece_ok (Xe.withSumm_ok (Xe.exec_ok mixed ov_ok 100000) summ11) (Xe.xdraw2_ok mixed) piece79)
theorem until18x0 : Xe.Runs Tryz.prog 95 89 ((Xe.partsOf Tryz.prog 18).take 0) st18x0.tm st18x0.hp .normal st18x0.tm st18x0.hp := Xe.Runs.start
set_option maxRecDepth 100000 in
theorem until18x81 : Xe.Runs Tryz.prog 95 89 ((Xe.partsOf Tryz.prog 18).take 1) st18x0.tm st18x0.hp .normal st18x1.tm st18x1.hp := Xe.Runs.step (k := 0) until18x0 1 (Xe.piece_ok (Xe.exec_ok mixed ov_ok 100000) (Xe.xdraw2_ok mixed) piece80)
end Go.Proofs.YtkickpblknfigaaGreat.patchesKnown
