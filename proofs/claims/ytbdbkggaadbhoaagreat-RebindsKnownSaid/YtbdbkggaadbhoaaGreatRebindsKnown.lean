/-
  What is proved: the law RebindsKnown, which takes no arguments, returns true in whatever memory it is called.
  Conditions: none. The walk is the run of the executor (texts Xe1 to Xe21), which the kernel carries out in pieces, great calls apart; the frame is a shell that the kit wrote.
-/
import Derived.Test.YtbdbkggaadbhoaaGreatRows
import Derived.Test.YtbdbkggaadbhoaaGreatRebindsKnownPiece0
import Derived.Test.YtbdbkggaadbhoaaGreatRebindsKnownPiece1
import Derived.Test.YtbdbkggaadbhoaaGreatRebindsKnownPiece2
import Derived.Test.YtbdbkggaadbhoaaGreatRebindsKnownPiece3
import Derived.Test.YtbdbkggaadbhoaaGreatRebindsKnownPiece4
import Derived.Test.YtbdbkggaadbhoaaGreatRebindsKnownPiece5
import Derived.WalkKit
import Derived.ProofKit
import Derived.OpenShut
import Derived.ShutString
namespace Go.Proofs.YtbdbkggaadbhoaaGreat.rebindsKnown
open Go.ChangeShapes Go.WideShapes Go.ChangeAt Go.RowKit
open Go.ChangeMaps (open_string shut_string)
set_option linter.unusedVariables false

theorem own : ownKnob Tryz.prog.godebug = none := by kernel_rfl

theorem mixed : Tryz.prog.follows .mixedOrders = true := by kernel_rfl
set_option maxRecDepth 100000 in
theorem ov_ok : ∀ g t, (Xe.ovIf 290 24 (Xe.ovIf 131 58 Xe.noOv)) g = some t → Xe.OvOK Tryz.prog g t := (Xe.ovIf_ok (Xe.OvOK.of 4 (by kernel_rfl) (by kernel_rfl) (by kernel_rfl) (by kernel_rfl) (by kernel_rfl)) (Xe.ovIf_ok (Xe.OvOK.of 4 (by kernel_rfl) (by kernel_rfl) (by kernel_rfl) (by kernel_rfl) (by kernel_rfl)) Xe.noOv_ok))
theorem until0x0 : Xe.Runs Tryz.prog 186 0 ((Xe.partsOf Tryz.prog 3).take 0) Xe.St.none.tm Xe.St.none.hp .normal Xe.St.none.tm Xe.St.none.hp := Xe.Runs.start
set_option maxRecDepth 100000 in
theorem until0x1 : Xe.Runs Tryz.prog 186 0 ((Xe.partsOf Tryz.prog 3).take 19) Xe.St.none.tm Xe.St.none.hp .normal st0x1.tm st0x1.hp := Xe.Runs.step (k := 0) until0x0 19 (Xe.piece_ok (Xe.exec_ok mixed ov_ok 100000) (Xe.xdraw2_ok mixed) piece0)
set_option maxRecDepth 100000 in
theorem until0x2 : Xe.Runs Tryz.prog 186 0 ((Xe.partsOf Tryz.prog 3).take 23) Xe.St.none.tm Xe.St.none.hp .normal st0x2.tm st0x2.hp := Xe.Runs.step (k := 19) until0x1 4 (Xe.piece_ok (Xe.exec_ok mixed ov_ok 100000) (Xe.xdraw2_ok mixed) piece1)
theorem until1x0 : Xe.Runs Tryz.prog 166 38 ((Xe.partsOf Tryz.prog 20).take 0) st1x0.tm st1x0.hp .normal st1x0.tm st1x0.hp := Xe.Runs.start
set_option maxRecDepth 100000 in
theorem until1x3 : Xe.Runs Tryz.prog 166 38 ((Xe.partsOf Tryz.prog 20).take 8) st1x0.tm st1x0.hp .normal st1x1.tm st1x1.hp := Xe.Runs.step (k := 0) until1x0 8 (Xe.piece_ok (Xe.exec_ok mixed ov_ok 100000) (Xe.xdraw2_ok mixed) piece2)
set_option maxRecDepth 100000 in
theorem until1x4 : Xe.Runs Tryz.prog 166 38 ((Xe.partsOf Tryz.prog 20).take 14) st1x0.tm st1x0.hp .normal st1x2.tm st1x2.hp := Xe.Runs.step (k := 8) until1x3 6 (Xe.piece_ok (Xe.exec_ok mixed ov_ok 100000) (Xe.xdraw2_ok mixed) piece3)
set_option maxRecDepth 100000 in
theorem summ1 : Xe.Summ Tryz.prog 20 st1x0 st1x3 := Xe.summ_of_pieces (Xe.exec_ok mixed ov_ok 100000) (Xe.xdraw2_ok mixed) (by kernel_rfl) (by kernel_rfl) (by kernel_rfl) until1x4 piece4 (by kernel_rfl) (by kernel_rfl)
set_option maxRecDepth 100000 in
theorem walk (w : World) : Calls Tryz.prog 3 #[] w fun e w' => e = .returned (.bool true) ∧ Below w.heap.size w w' :=
  Xe.calls_of_pieces' mixed (Xe.withSumm_ok (Xe.exec_ok mixed ov_ok 100000) summ1) (by kernel_rfl) (by kernel_rfl) (by kernel_rfl) until0x2 piece5 w

set_option maxRecDepth 100000 in
theorem lifted (os : Os) (started : os.Started) (H : Type) (enc : TypeId × Value → H) :
    ReturnsInHanded {} Tryz.checked os 3 .any (Rows.rebindsKnownSpec.pre6 enc Tryz.prog Tryz.f3 Rows.rebindsKnownRow.domain false) (Rows.rebindsKnownSpec.post enc Tryz.prog Tryz.f3 false true false false) := by
  refine returnsInHanded_of_change (C := Tryz.checked) own started (by kernel_rfl) Tryz.func3
    (ChangeSpec.witness6 (enc := enc) (C := Tryz.checked) false ⟨#[], #[], []⟩ 8 (by kernel_rfl) (by kernel_rfl) (by kernel_rfl) (by kernel_rfl)) ?_
  intro W base args ds gs before hval0 hW hcnd _
  have hval : ∀ (j : Nat) t v, Tryz.f3.params[j]? = some t → args[j]? = some v → Value.okWide Tryz.prog W .any base t v := hval0
  have hW' := hW
  obtain ⟨p, q, hA0, hV, rfl, hfz, hnd⟩ := hW
  have hA : DataW.TrodAll enc Tryz.prog W 0 (fun _ => true) true Tryz.f3.params.toList args.toList ds p := hA0
  rw [Tryz.params3] at hA hval
  obtain ⟨rfl, rfl, rfl⟩ := trodAll_none hA
  obtain ⟨rfl, rfl⟩ := trodVars_none hV
  clear hA0 hval0
  simp only [List.append_nil] at hW'
  refine (walk  W).mono fun e W' ⟨he, hg⟩ => ?_
  subst he
  refine ⟨_, rfl, [], [], [], [], [], [], hW', ?_, ?_, ?_, hg.frame _, fun h => by cases h⟩
  · exact trodAll_cons_mk (shut_bool Tryz.underlying4 _) trodAll_mk0
  · rfl
  · rfl

theorem over : Rows.rebindsKnownRow.holds Tryz.pinned (OpenSpec.ofChange Rows.rebindsKnownSpec) :=
  OpenClaim.holds_of_wide 3 Tryz.f3 rfl rfl rfl rfl rfl rfl rfl ⟨rfl, rfl, rfl, rfl, rfl⟩ rfl rfl rfl rfl rfl (by kernel_rfl) Tryz.func3 (by kernel_rfl)
    (of_decide_eq_true (by kernel_rfl)) (by unfold Func.isWrapper; first | (rw [if_pos (by decide +kernel)]; kernel_rfl) | (rw [if_neg (by decide +kernel)]; exact ⟨rfl, rfl⟩))
    (fun os started H enc _ => lifted os started H enc)

theorem proved : Rows.RebindsKnownSaid :=
  over
end Go.Proofs.YtbdbkggaadbhoaaGreat.rebindsKnown
