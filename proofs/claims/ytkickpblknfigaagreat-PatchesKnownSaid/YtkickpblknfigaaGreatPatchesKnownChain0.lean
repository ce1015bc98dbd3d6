/-
  What is proved: what the pieces of the law PatchesKnown come to, one after another.
  Conditions: none.
-/
import Derived.Test.YtkickpblknfigaaGreatPatchesKnownPart0
import Derived.Test.YtkickpblknfigaaGreatPatchesKnownPart1
import Derived.Test.YtkickpblknfigaaGreatPatchesKnownPart2
import Derived.Test.YtkickpblknfigaaGreatPatchesKnownPart3
import Derived.Test.YtkickpblknfigaaGreatPatchesKnownPart4
import Derived.Test.YtkickpblknfigaaGreatPatchesKnownPart5
import Derived.Test.YtkickpblknfigaaGreatPatchesKnownPart6
import Derived.Test.YtkickpblknfigaaGreatPatchesKnownPart7
import Derived.Test.YtkickpblknfigaaGreatPatchesKnownPart8
import Derived.Test.YtkickpblknfigaaGreatPatchesKnownPart9
import Derived.Test.YtkickpblknfigaaGreatPatchesKnownPart10
import Derived.Test.YtkickpblknfigaaGreatPatchesKnownPart11
import Derived.Test.YtkickpblknfigaaGreatPatchesKnownPart12
import Derived.Test.YtkickpblknfigaaGreatPatchesKnownPart13
import Derived.Test.YtkickpblknfigaaGreatPatchesKnownPart14
import Derived.Test.YtkickpblknfigaaGreatPatchesKnownPart15
import Derived.Test.YtkickpblknfigaaGreatPatchesKnownPart16
import Derived.Test.YtkickpblknfigaaGreatPatchesKnownPart17
import Derived.Test.YtkickpblknfigaaGreatPatchesKnownPart18
import Derived.Test.YtkickpblknfigaaGreatPatchesKnownPart19
import Derived.Test.YtkickpblknfigaaGreatPatchesKnownPart20
import Derived.Test.YtkickpblknfigaaGreatPatchesKnownPart21
import Derived.WalkKit
namespace Go.Proofs.YtkickpblknfigaaGreat.patchesKnown
open Go.RowKit
theorem mixed : Tryz.prog.follows .mixedOrders = true := by kernel_rfl
set_option maxRecDepth 100000 in
theorem ov_ok : ∀ g t, (Xe.ovIf 274 26 (Xe.ovIf 250 25 (Xe.ovIf 238 37 (Xe.ovIf 155 43 Xe.noOv)))) g = some t → Xe.OvOK Tryz.prog g t := (Xe.ovIf_ok (Xe.OvOK.of 4 (by kernel_rfl) (by kernel_rfl) (by kernel_rfl) (by kernel_rfl) (by kernel_rfl)) (Xe.ovIf_ok (Xe.OvOK.of 4 (by kernel_rfl) (by kernel_rfl) (by kernel_rfl) (by kernel_rfl) (by kernel_rfl)) (Xe.ovIf_ok (Xe.OvOK.of 4 (by kernel_rfl) (by kernel_rfl) (by kernel_rfl) (by kernel_rfl) (by kernel_rfl)) (Xe.ovIf_ok (Xe.OvOK.of 4 (by kernel_rfl) (by kernel_rfl) (by kernel_rfl) (by kernel_rfl) (by kernel_rfl)) Xe.noOv_ok))))
theorem until0x0 : Xe.Runs Tryz.prog 169 0 ((Xe.partsOf Tryz.prog 6).take 0) Xe.St.none.tm Xe.St.none.hp .normal Xe.St.none.tm Xe.St.none.hp := Xe.Runs.start
set_option maxRecDepth 100000 in
theorem until0x1 : Xe.Runs Tryz.prog 169 0 ((Xe.partsOf Tryz.prog 6).take 5) Xe.St.none.tm Xe.St.none.hp .normal st0x1.tm st0x1.hp := Xe.Runs.step (k := 0) until0x0 5 (Xe.piece_ok (Xe.exec_ok mixed ov_ok 100000) (Xe.xdraw2_ok mixed) piece0)
theorem until1x0 : Xe.Runs Tryz.prog 165 21 ((Xe.partsOf Tryz.prog 10).take 0) st1x0.tm st1x0.hp .normal st1x0.tm st1x0.hp := Xe.Runs.start
set_option maxRecDepth 100000 in
theorem until1x2 : Xe.Runs Tryz.prog 165 21 ((Xe.partsOf Tryz.prog 10).take 4) st1x0.tm st1x0.hp .normal st1x1.tm st1x1.hp := Xe.Runs.step (k := 0) until1x0 4 (Xe.piece_ok (Xe.exec_ok mixed ov_ok 100000) (Xe.xdraw2_ok mixed) piece1)
theorem until2x0 : Xe.Runs Tryz.prog 23 37 ((Xe.partsOf Tryz.prog 44).take 0) st2x0.tm st2x0.hp .normal st2x0.tm st2x0.hp := Xe.Runs.start
set_option maxRecDepth 100000 in
theorem until2x3 : Xe.Runs Tryz.prog 23 37 ((Xe.partsOf Tryz.prog 44).take 8) st2x0.tm st2x0.hp .normal st2x1.tm st2x1.hp := Xe.Runs.step (k := 0) until2x0 8 (Xe.piece_ok (Xe.exec_ok mixed ov_ok 100000) (Xe.xdraw2_ok mixed) piece2)
theorem until3x0 : Xe.Runs Tryz.prog 76 41 ((Xe.partsOf Tryz.prog 105).take 0) st3x0.tm st3x0.hp .normal st3x0.tm st3x0.hp := Xe.Runs.start
set_option maxRecDepth 100000 in
theorem until3x4 : Xe.Runs Tryz.prog 76 41 ((Xe.partsOf Tryz.prog 105).take 9) st3x0.tm st3x0.hp .normal st3x1.tm st3x1.hp := Xe.Runs.step (k := 0) until3x0 9 (Xe.piece_ok (Xe.exec_ok mixed ov_ok 100000) (Xe.xdraw2_ok mixed) piece3)
theorem until4x0 : Xe.Runs Tryz.prog 76 51 ((Xe.partsOf Tryz.prog 105).take 0) st4x0.tm st4x0.hp .normal st4x0.tm st4x0.hp := Xe.Runs.start
set_option maxRecDepth 100000 in
theorem until4x6 : Xe.Runs Tryz.prog 76 51 ((Xe.partsOf Tryz.prog 105).take 9) st4x0.tm st4x0.hp .normal st4x1.tm st4x1.hp := Xe.Runs.step (k := 0) until4x0 9 (Xe.piece_ok (Xe.exec_ok mixed ov_ok 100000) (Xe.xdraw2_ok mixed) piece5)
set_option maxRecDepth 100000 in
theorem until4x8 : Xe.Runs Tryz.prog 76 51 ((Xe.partsOf Tryz.prog 105).take 10) st4x0.tm st4x0.hp .normal st4x3.tm st4x3.hp := Xe.Runs.loopStep (k := 9) until4x6 (by kernel_rfl) (Xe.RunsLoop.many 9 (Xe.piece_ok (Xe.exec_ok mixed ov_ok 100000) (Xe.xdraw2_ok mixed) piece6) (Xe.loopB_ok (Xe.exec_ok mixed ov_ok 100000) (Xe.xdraw2_ok mixed) piece7))
set_option maxRecDepth 100000 in
theorem summ4 : Xe.Summ Tryz.prog 105 st4x0 st4x4 := Xe.summ_of_pieces (Xe.exec_ok mixed ov_ok 100000) (Xe.xdraw2_ok mixed) (by kernel_rfl) (by kernel_rfl) (by kernel_rfl) until4x8 piece8 (by kernel_rfl) (by kernel_rfl)
theorem until5x0 : Xe.Runs Tryz.prog 76 69 ((Xe.partsOf Tryz.prog 105).take 0) st5x0.tm st5x0.hp .normal st5x0.tm st5x0.hp := Xe.Runs.start
set_option maxRecDepth 100000 in
theorem until5x11 : Xe.Runs Tryz.prog 76 69 ((Xe.partsOf Tryz.prog 105).take 9) st5x0.tm st5x0.hp .normal st5x1.tm st5x1.hp := Xe.Runs.step (k := 0) until5x0 9 (Xe.piece_ok (Xe.exec_ok mixed ov_ok 100000) (Xe.xdraw2_ok mixed) piece10)
set_option maxRecDepth 100000 in
theorem until5x13 : Xe.Runs Tryz.prog 76 69 ((Xe.partsOf Tryz.prog 105).take 10) st5x0.tm st5x0.hp .normal st5x3.tm st5x3.hp := Xe.Runs.loopStep (k := 9) until5x11 (by kernel_rfl) (Xe.RunsLoop.many 8 (Xe.piece_ok (Xe.exec_ok mixed ov_ok 100000) (Xe.xdraw2_ok mixed) piece11) (Xe.loopB_ok (Xe.exec_ok mixed ov_ok 100000) (Xe.xdraw2_ok mixed) piece12))
set_option maxRecDepth 100000 in
theorem summ5 : Xe.Summ Tryz.prog 105 st5x0 st5x4 := Xe.summ_of_pieces (Xe.exec_ok mixed ov_ok 100000) (Xe.xdraw2_ok mixed) (by kernel_rfl) (by kernel_rfl) (by kernel_rfl) until5x13 piece13 (by kernel_rfl) (by kernel_rfl)
theorem until6x0 : Xe.Runs Tryz.prog 76 87 ((Xe.partsOf Tryz.prog 105).take 0) st6x0.tm st6x0.hp .normal st6x0.tm st6x0.hp := Xe.Runs.start
set_option maxRecDepth 100000 in
theorem until6x16 : Xe.Runs Tryz.prog 76 87 ((Xe.partsOf Tryz.prog 105).take 9) st6x0.tm st6x0.hp .normal st6x1.tm st6x1.hp := Xe.Runs.step (k := 0) until6x0 9 (Xe.piece_ok (Xe.exec_ok mixed ov_ok 100000) (Xe.xdraw2_ok mixed) piece15)
set_option maxRecDepth 100000 in
theorem until6x18 : Xe.Runs Tryz.prog 76 87 ((Xe.partsOf Tryz.prog 105).take 10) st6x0.tm st6x0.hp .normal st6x3.tm st6x3.hp := Xe.Runs.loopStep (k := 9) until6x16 (by kernel_rfl) (Xe.RunsLoop.many 10 (Xe.piece_ok (Xe.exec_ok mixed ov_ok 100000) (Xe.xdraw2_ok mixed) piece16) (Xe.loopB_ok (Xe.exec_ok mixed ov_ok 100000) (Xe.xdraw2_ok mixed) piece17))
set_option maxRecDepth 100000 in
theorem summ6 : Xe.Summ Tryz.prog 105 st6x0 st6x4 := Xe.summ_of_pieces (Xe.exec_ok mixed ov_ok 100000) (Xe.xdraw2_ok mixed) (by kernel_rfl) (by kernel_rfl) (by kernel_rfl) until6x18 piece18 (by kernel_rfl) (by kernel_rfl)
set_option maxRecDepth 100000 in
theorem until3x20 : Xe.Runs Tryz.prog 76 41 ((Xe.partsOf Tryz.prog 105).take 10) st3x0.tm st3x0.hp .normal st3x5.tm st3x5.hp := Xe.Runs.loopStep (k := 9) until3x4 (by kernel_rfl) (Xe.RunsLoop.many 1 (Xe.piece_ok (Xe.exec_ok mixed ov_ok 100000) (Xe.xdraw2_ok mixed) piece4) (Xe.RunsLoop.many 1 (Xe.piece_ok (Xe.withSumm_ok (Xe.exec_ok mixed ov_ok 100000) summ4) (Xe.xdraw2_ok mixed) piece9) (Xe.RunsLoop.many 1 (Xe.piece_ok (Xe.withSumm_ok (Xe.exec_ok mixed ov_ok 100000) summ5) (Xe.xdraw2_ok mixed) piece14) (Xe.loopB_ok (Xe.withSumm_ok (Xe.exec_ok mixed ov_ok 100000) summ6) (Xe.xdraw2_ok mixed) piece19))))
set_option maxRecDepth 100000 in
theorem summ3 : Xe.Summ Tryz.prog 105 st3x0 st3x6 := Xe.summ_of_pieces (Xe.exec_ok mixed ov_ok 100000) (Xe.xdraw2_ok mixed) (by kernel_rfl) (by kernel_rfl) (by kernel_rfl) until3x20 piece20 (by kernel_rfl) (by kernel_rfl)
set_option maxRecDepth 100000 in
theorem summ2 : Xe.Summ Tryz.prog 44 st2x0 st2x2 := Xe.summ_of_pieces (Xe.withSumm_ok (Xe.exec_ok mixed ov_ok 100000) summ3) (Xe.xdraw2_ok mixed) (by kernel_rfl) (by kernel_rfl) (by kernel_rfl) until2x3 piece21 (by kernel_rfl) (by kernel_rfl)
end Go.Proofs.YtkickpblknfigaaGreat.patchesKnown
