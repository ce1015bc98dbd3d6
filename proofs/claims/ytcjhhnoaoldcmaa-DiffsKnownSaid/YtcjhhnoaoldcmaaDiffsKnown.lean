/-
  What is proved: the law DiffsKnown, which takes no arguments, returns true in whatever memory it is called.
  Conditions: none. The walk is the run of the executor (texts Xe1 to Xe21), which the kernel carries out in pieces, great calls apart; the frame is a shell that the kit wrote.
-/
import Derived.Test.YtcjhhnoaoldcmaaRows
import Derived.Test.YtcjhhnoaoldcmaaDiffsKnownPiece0
import Derived.Test.YtcjhhnoaoldcmaaDiffsKnownPiece1
import Derived.Test.YtcjhhnoaoldcmaaDiffsKnownPiece2
import Derived.Test.YtcjhhnoaoldcmaaDiffsKnownPiece3
import Derived.Test.YtcjhhnoaoldcmaaDiffsKnownPiece4
import Derived.Test.YtcjhhnoaoldcmaaDiffsKnownPiece5
import Derived.WalkKit
import Derived.ProofKit
import Derived.OpenShut
import Derived.ShutString
namespace Go.Proofs.Ytcjhhnoaoldcmaa.diffsKnown
open Go.ChangeShapes Go.WideShapes Go.ChangeAt Go.RowKit
open Go.ChangeMaps (open_string shut_string)
set_option linter.unusedVariables false

theorem own : ownKnob Try.prog.godebug = none := by kernel_rfl

theorem mixed : Try.prog.follows .mixedOrders = true := by kernel_rfl
set_option maxRecDepth 100000 in
theorem ov_ok : ∀ g t, (Xe.ovIf 97 26 (Xe.ovIf 83 25 (Xe.ovIf 71 30 Xe.noOv))) g = some t → Xe.OvOK Try.prog g t := (Xe.ovIf_ok (Xe.OvOK.of 4 (by kernel_rfl) (by kernel_rfl) (by kernel_rfl) (by kernel_rfl) (by kernel_rfl)) (Xe.ovIf_ok (Xe.OvOK.of 4 (by kernel_rfl) (by kernel_rfl) (by kernel_rfl) (by kernel_rfl) (by kernel_rfl)) (Xe.ovIf_ok (Xe.OvOK.of 4 (by kernel_rfl) (by kernel_rfl) (by kernel_rfl) (by kernel_rfl) (by kernel_rfl)) Xe.noOv_ok)))
theorem until0x0 : Xe.Runs Try.prog 115 0 ((Xe.partsOf Try.prog 5).take 0) Xe.St.none.tm Xe.St.none.hp .normal Xe.St.none.tm Xe.St.none.hp := Xe.Runs.start
set_option maxRecDepth 100000 in
theorem until0x1 : Xe.Runs Try.prog 115 0 ((Xe.partsOf Try.prog 5).take 8) Xe.St.none.tm Xe.St.none.hp .normal st0x1.tm st0x1.hp := Xe.Runs.step (k := 0) until0x0 8 (Xe.piece_ok (Xe.exec_ok mixed ov_ok 100000) (Xe.xdraw2_ok mixed) piece0)
set_option maxRecDepth 100000 in
theorem until0x2 : Xe.Runs Try.prog 115 0 ((Xe.partsOf Try.prog 5).take 17) Xe.St.none.tm Xe.St.none.hp .normal st0x2.tm st0x2.hp := Xe.Runs.step (k := 8) until0x1 9 (Xe.piece_ok (Xe.exec_ok mixed ov_ok 100000) (Xe.xdraw2_ok mixed) piece1)
set_option maxRecDepth 100000 in
theorem until0x3 : Xe.Runs Try.prog 115 0 ((Xe.partsOf Try.prog 5).take 18) Xe.St.none.tm Xe.St.none.hp .normal st0x3.tm st0x3.hp := Xe.Runs.step (k := 17) until0x2 1 (Xe.piece_ok (Xe.exec_ok mixed ov_ok 100000) (Xe.xdraw2_ok mixed) piece2)
theorem until1x0 : Xe.Runs Try.prog 92 34 ((Xe.partsOf Try.prog 13).take 0) st1x0.tm st1x0.hp .normal st1x0.tm st1x0.hp := Xe.Runs.start
set_option maxRecDepth 100000 in
theorem until1x4 : Xe.Runs Try.prog 92 34 ((Xe.partsOf Try.prog 13).take 4) st1x0.tm st1x0.hp .normal st1x1.tm st1x1.hp := Xe.Runs.step (k := 0) until1x0 4 (Xe.piece_ok (Xe.exec_ok mixed ov_ok 100000) (Xe.xdraw2_ok mixed) piece3)
set_option maxRecDepth 100000 in
theorem summ1 : Xe.Summ Try.prog 13 st1x0 st1x2 := Xe.summ_of_pieces (Xe.exec_ok mixed ov_ok 100000) (Xe.xdraw2_ok mixed) (by kernel_rfl) (by kernel_rfl) (by kernel_rfl) until1x4 piece4 (by kernel_rfl) (by kernel_rfl)
set_option maxRecDepth 100000 in
theorem walk (w : World) : Calls Try.prog 5 #[] w fun e w' => e = .returned (.bool true) ∧ Below w.heap.size w w' :=
  Xe.calls_of_pieces' mixed (Xe.withSumm_ok (Xe.exec_ok mixed ov_ok 100000) summ1) (by kernel_rfl) (by kernel_rfl) (by kernel_rfl) until0x3 piece5 w

set_option maxRecDepth 100000 in
theorem lifted (os : Os) (started : os.Started) (H : Type) (enc : TypeId × Value → H) :
    ReturnsInHanded {} Try.checked os 5 .any (Rows.diffsKnownSpec.pre6 enc Try.prog Try.f5 Rows.diffsKnownRow.domain false) (Rows.diffsKnownSpec.post enc Try.prog Try.f5 false true false false) := by
  refine returnsInHanded_of_change (C := Try.checked) own started (by kernel_rfl) Try.func5
    (ChangeSpec.witness6 (enc := enc) (C := Try.checked) false ⟨#[], #[], []⟩ 8 (by kernel_rfl) (by kernel_rfl) (by kernel_rfl) (by kernel_rfl)) ?_
  intro W base args ds gs before hval0 hW hcnd _
  have hval : ∀ (j : Nat) t v, Try.f5.params[j]? = some t → args[j]? = some v → Value.okWide Try.prog W .any base t v := hval0
  have hW' := hW
  obtain ⟨p, q, hA0, hV, rfl, hfz, hnd⟩ := hW
  have hA : DataW.TrodAll enc Try.prog W 0 (fun _ => true) true Try.f5.params.toList args.toList ds p := hA0
  rw [Try.params5] at hA hval
  obtain ⟨rfl, rfl, rfl⟩ := trodAll_none hA
  obtain ⟨rfl, rfl⟩ := trodVars_none hV
  clear hA0 hval0
  simp only [List.append_nil] at hW'
  refine (walk  W).mono fun e W' ⟨he, hg⟩ => ?_
  subst he
  refine ⟨_, rfl, [], [], [], [], [], [], hW', ?_, ?_, ?_, hg.frame _, fun h => by cases h⟩
  · exact trodAll_cons_mk (shut_bool Try.underlying4 _) trodAll_mk0
  · rfl
  · rfl

theorem over : Rows.diffsKnownRow.holds Try.pinned (OpenSpec.ofChange Rows.diffsKnownSpec) :=
  OpenClaim.holds_of_wide 5 Try.f5 rfl rfl rfl rfl rfl rfl rfl ⟨rfl, rfl, rfl, rfl, rfl⟩ rfl rfl rfl rfl rfl (by kernel_rfl) Try.func5 (by kernel_rfl)
    (of_decide_eq_true (by kernel_rfl)) (by unfold Func.isWrapper; first | (rw [if_pos (by decide +kernel)]; kernel_rfl) | (rw [if_neg (by decide +kernel)]; exact ⟨rfl, rfl⟩))
    (fun os started H enc _ => lifted os started H enc)

theorem proved : Rows.DiffsKnownSaid :=
  over
end Go.Proofs.Ytcjhhnoaoldcmaa.diffsKnown
