/-
  What is proved: what the pieces of the law PatchesKnown come to, one after another.
  Conditions: none.
-/
import Derived.Test.YtkickpblknfigaaGreatPatchesKnownChain0
namespace Go.Proofs.YtkickpblknfigaaGreat.patchesKnown
open Go.RowKit
set_option maxRecDepth 100000 in
theorem until1x23 : Xe.Runs Tryz.prog 165 21 ((Xe.partsOf Tryz.prog 10).take 6) st1x0.tm st1x0.hp .normal st1x2.tm st1x2.hp := Xe.Runs.step (k := 4) until1x2 2 (Xe.piece_ok (Xe.withSumm_ok (Xe.exec_ok mixed ov_ok 100000) summ2) (Xe.xdraw2_ok mixed) piece22)
theorem until7x0 : Xe.Runs Tryz.prog 82 99 ((Xe.partsOf Tryz.prog 45).take 0) st7x0.tm st7x0.hp .normal st7x0.tm st7x0.hp := Xe.Runs.start
set_option maxRecDepth 100000 in
theorem until7x24 : Xe.Runs Tryz.prog 82 99 ((Xe.partsOf Tryz.prog 45).take 8) st7x0.tm st7x0.hp .normal st7x1.tm st7x1.hp := Xe.Runs.step (k := 0) until7x0 8 (Xe.piece_ok (Xe.exec_ok mixed ov_ok 100000) (Xe.xdraw2_ok mixed) piece23)
theorem until8x0 : Xe.Runs Tryz.prog 82 123 ((Xe.partsOf Tryz.prog 45).take 0) st8x0.tm st8x0.hp .normal st8x0.tm st8x0.hp := Xe.Runs.start
set_option maxRecDepth 100000 in
theorem until8x26 : Xe.Runs Tryz.prog 82 123 ((Xe.partsOf Tryz.prog 45).take 8) st8x0.tm st8x0.hp .normal st8x1.tm st8x1.hp := Xe.Runs.step (k := 0) until8x0 8 (Xe.piece_ok (Xe.exec_ok mixed ov_ok 100000) (Xe.xdraw2_ok mixed) piece25)
set_option maxRecDepth 100000 in
theorem until8x30 : Xe.Runs Tryz.prog 82 123 ((Xe.partsOf Tryz.prog 45).take 9) st8x0.tm st8x0.hp .normal st8x5.tm st8x5.hp := Xe.Runs.loopStep (k := 8) until8x26 (by kernel_rfl) (Xe.RunsLoop.many 7 (Xe.piece_ok (Xe.exec_ok mixed ov_ok 100000) (Xe.xdraw2_ok mixed) piece26) (Xe.RunsLoop.many 4 (Xe.piece_ok (Xe.exec_ok mixed ov_ok 100000) (Xe.xdraw2_ok mixed) piece27) (Xe.RunsLoop.many 5 (Xe.piece_ok (Xe.exec_ok mixed ov_ok 100000) (Xe.xdraw2_ok mixed) piece28) (Xe.loopB_ok (Xe.exec_ok mixed ov_ok 100000) (Xe.xdraw2_ok mixed) piece29))))
set_option maxRecDepth 100000 in
theorem summ8 : Xe.Summ Tryz.prog 45 st8x0 st8x6 := Xe.summ_of_pieces (Xe.exec_ok mixed ov_ok 100000) (Xe.xdraw2_ok mixed) (by kernel_rfl) (by kernel_rfl) (by kernel_rfl) until8x30 piece30 (by kernel_rfl) (by kernel_rfl)
theorem until9x0 : Xe.Runs Tryz.prog 82 128 ((Xe.partsOf Tryz.prog 45).take 0) st9x0.tm st9x0.hp .normal st9x0.tm st9x0.hp := Xe.Runs.start
set_option maxRecDepth 100000 in
theorem until9x33 : Xe.Runs Tryz.prog 82 128 ((Xe.partsOf Tryz.prog 45).take 8) st9x0.tm st9x0.hp .normal st9x1.tm st9x1.hp := Xe.Runs.step (k := 0) until9x0 8 (Xe.piece_ok (Xe.exec_ok mixed ov_ok 100000) (Xe.xdraw2_ok mixed) piece32)
set_option maxRecDepth 100000 in
theorem until9x38 : Xe.Runs Tryz.prog 82 128 ((Xe.partsOf Tryz.prog 45).take 9) st9x0.tm st9x0.hp .normal st9x6.tm st9x6.hp := Xe.Runs.loopStep (k := 8) until9x33 (by kernel_rfl) (Xe.RunsLoop.many 4 (Xe.piece_ok (Xe.exec_ok mixed ov_ok 100000) (Xe.xdraw2_ok mixed) piece33) (Xe.RunsLoop.many 4 (Xe.piece_ok (Xe.exec_ok mixed ov_ok 100000) (Xe.xdraw2_ok mixed) piece34) (Xe.RunsLoop.many 3 (Xe.piece_ok (Xe.exec_ok mixed ov_ok 100000) (Xe.xdraw2_ok mixed) piece35) (Xe.RunsLoop.many 3 (Xe.piece_ok (Xe.exec_ok mixed ov_ok 100000) (Xe.xdraw2_ok mixed) piece36) (Xe.loopB_ok (Xe.exec_ok mixed ov_ok 100000) (Xe.xdraw2_ok mixed) piece37)))))
set_option maxRecDepth 100000 in
theorem summ9 : Xe.Summ Tryz.prog 45 st9x0 st9x7 := Xe.summ_of_pieces (Xe.exec_ok mixed ov_ok 100000) (Xe.xdraw2_ok mixed) (by kernel_rfl) (by kernel_rfl) (by kernel_rfl) until9x38 piece38 (by kernel_rfl) (by kernel_rfl)
theorem until10x0 : Xe.Runs Tryz.prog 82 131 ((Xe.partsOf Tryz.prog 45).take 0) st10x0.tm st10x0.hp .normal st10x0.tm st10x0.hp := Xe.Runs.start
set_option maxRecDepth 100000 in
theorem until10x41 : Xe.Runs Tryz.prog 82 131 ((Xe.partsOf Tryz.prog 45).take 8) st10x0.tm st10x0.hp .normal st10x1.tm st10x1.hp := Xe.Runs.step (k := 0) until10x0 8 (Xe.piece_ok (Xe.exec_ok mixed ov_ok 100000) (Xe.xdraw2_ok mixed) piece40)
set_option maxRecDepth 100000 in
theorem until10x49 : Xe.Runs Tryz.prog 82 131 ((Xe.partsOf Tryz.prog 45).take 9) st10x0.tm st10x0.hp .normal st10x9.tm st10x9.hp := Xe.Runs.loopStep (k := 8) until10x41 (by kernel_rfl) (Xe.RunsLoop.many 3 (Xe.piece_ok (Xe.exec_ok mixed ov_ok 100000) (Xe.xdraw2_ok mixed) piece41) (Xe.RunsLoop.many 2 (Xe.piece_ok (Xe.exec_ok mixed ov_ok 100000) (Xe.xdraw2_ok mixed) piece42) (Xe.RunsLoop.many 2 (Xe.piece_ok (Xe.exec_ok mixed ov_ok 100000) (Xe.xdraw2_ok mixed) piece43) (Xe.RunsLoop.many 2 (Xe.piece_ok (Xe.exec_ok mixed ov_ok 100000) (Xe.xdraw2_ok mixed) piece44) (Xe.RunsLoop.many 2 (Xe.piece_ok (Xe.exec_ok mixed ov_ok 100000) (Xe.xdraw2_ok mixed) piece45) (Xe.RunsLoop.many 2 (Xe.piece_ok (Xe.exec_ok mixed ov_ok 100000) (Xe.xdraw2_ok mixed) piece46) (Xe.RunsLoop.many 2 (Xe.piece_ok (Xe.exec_ok mixed ov_ok 100000) (Xe.xdraw2_ok mixed) piece47) (Xe.loopB_ok (Xe.exec_ok mixed ov_ok 100000) (Xe.xdraw2_ok mixed) piece48))))))))
set_option maxRecDepth 100000 in
theorem summ10 : Xe.Summ Tryz.prog 45 st10x0 st10x10 := Xe.summ_of_pieces (Xe.exec_ok mixed ov_ok 100000) (Xe.xdraw2_ok mixed) (by kernel_rfl) (by kernel_rfl) (by kernel_rfl) until10x49 piece49 (by kernel_rfl) (by kernel_rfl)
set_option maxRecDepth 100000 in
theorem until7x51 : Xe.Runs Tryz.prog 82 99 ((Xe.partsOf Tryz.prog 45).take 9) st7x0.tm st7x0.hp .normal st7x5.tm st7x5.hp := Xe.Runs.loopStep (k := 8) until7x24 (by kernel_rfl) (Xe.RunsLoop.many 1 (Xe.piece_ok (Xe.exec_ok mixed ov_ok 100000) (Xe.xdraw2_ok mixed) piece24) (Xe.RunsLoop.many 1 (Xe.piece_ok (Xe.withSumm_ok (Xe.exec_ok mixed ov_ok 100000) summ8) (Xe.xdraw2_ok mixed) piece31) (Xe.RunsLoop.many 1 (Xe.piece_ok (Xe.withSumm_ok (Xe.exec_ok mixed ov_ok 100000) summ9) (Xe.xdraw2_ok mixed) piece39) (Xe.loopB_ok (Xe.withSumm_ok (Xe.exec_ok mixed ov_ok 100000) summ10) (Xe.xdraw2_ok mixed) piece50))))
set_option maxRecDepth 100000 in
theorem summ7 : Xe.Summ Tryz.prog 45 st7x0 st7x6 := Xe.summ_of_pieces (Xe.exec_ok mixed ov_ok 100000) (Xe.xdraw2_ok mixed) (by kernel_rfl) (by kernel_rfl) (by kernel_rfl) until7x51 piece51 (by kernel_rfl) (by kernel_rfl)
set_option maxRecDepth 100000 in
theorem summ1 : Xe.Summ Tryz.prog 10 st1x0 st1x3 := Xe.summ_of_pieces (Xe.withSumm_ok (Xe.exec_ok mixed ov_ok 100000) summ7) (Xe.xdraw2_ok mixed) (by kernel_rfl) (by kernel_rfl) (by kernel_rfl) until1x23 piece52 (by kernel_rfl) (by kernel_rfl)
set_option maxRecDepth 100000 in
theorem until0x54 : Xe.Runs Tryz.prog 169 0 ((Xe.partsOf Tryz.prog 6).take 8) Xe.St.none.tm Xe.St.none.hp .normal st0x2.tm st0x2.hp := Xe.Runs.step (k := 5) until0x1 3 (Xe.piece_ok (Xe.withSumm_ok (Xe.exec_ok mixed ov_ok 100000) summ1) (Xe.xdraw2_ok mixed) piece53)
theorem until11x0 : Xe.Runs Tryz.prog 63 101 ((Xe.partsOf Tryz.prog 12).take 0) st11x0.tm st11x0.hp .normal st11x0.tm st11x0.hp := Xe.Runs.start
set_option maxRecDepth 100000 in
theorem until11x55 : Xe.Runs Tryz.prog 63 101 ((Xe.partsOf Tryz.prog 12).take 4) st11x0.tm st11x0.hp .normal st11x1.tm st11x1.hp := Xe.Runs.step (k := 0) until11x0 4 (Xe.piece_ok (Xe.exec_ok mixed ov_ok 100000) (Xe.xdraw2_ok mixed) piece54)
theorem until12x0 : Xe.Runs Tryz.prog 28 107 ((Xe.partsOf Tryz.prog 49).take 0) st12x0.tm st12x0.hp .normal st12x0.tm st12x0.hp := Xe.Runs.start
set_option maxRecDepth 100000 in
theorem until12x56 : Xe.Runs Tryz.prog 28 107 ((Xe.partsOf Tryz.prog 49).take 5) st12x0.tm st12x0.hp .normal st12x1.tm st12x1.hp := Xe.Runs.step (k := 0) until12x0 5 (Xe.piece_ok (Xe.exec_ok mixed ov_ok 100000) (Xe.xdraw2_ok mixed) piece55)
set_option maxRecDepth 100000 in
theorem until12x57 : Xe.Runs Tryz.prog 28 107 ((Xe.partsOf Tryz.prog 49).take 7) st12x0.tm st12x0.hp .normal st12x2.tm st12x2.hp := Xe.Runs.step (k := 5) until12x56 2 (Xe.piece_ok (Xe.exec_ok mixed ov_ok 100000) (Xe.xdraw2_ok mixed) piece56)
end Go.Proofs.YtkickpblknfigaaGreat.patchesKnown
