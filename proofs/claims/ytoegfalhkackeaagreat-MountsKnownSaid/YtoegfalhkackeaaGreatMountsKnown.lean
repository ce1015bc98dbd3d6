/-
  What is proved: the law MountsKnown, which takes no arguments, returns true in whatever memory it is called.
  Conditions: none. The walk is the run of the executor (texts Xe1 to Xe19), which the kernel carries out in pieces; the frame is a shell that the kit wrote.
-/
import Derived.Test.YtoegfalhkackeaaGreatRows
import Derived.Test.YtoegfalhkackeaaGreatMountsKnownPiece0
import Derived.Test.YtoegfalhkackeaaGreatMountsKnownPiece1
import Derived.Test.YtoegfalhkackeaaGreatMountsKnownPiece2
import Derived.Test.YtoegfalhkackeaaGreatMountsKnownPiece3
import Derived.Test.YtoegfalhkackeaaGreatMountsKnownPiece4
import Derived.Test.YtoegfalhkackeaaGreatMountsKnownPiece5
import Derived.Test.YtoegfalhkackeaaGreatMountsKnownPiece6
import Derived.Test.YtoegfalhkackeaaGreatMountsKnownPiece7
import Derived.WalkKit
import Derived.ProofKit
import Derived.OpenShut
import Derived.ShutString
namespace Go.Proofs.YtoegfalhkackeaaGreat.mountsKnown
open Go.ChangeShapes Go.WideShapes Go.ChangeAt Go.RowKit
open Go.ChangeMaps (open_string shut_string)
set_option linter.unusedVariables false

theorem own : ownKnob Tryz.prog.godebug = none := by kernel_rfl

theorem mixed : Tryz.prog.follows .mixedOrders = true := by kernel_rfl
set_option maxRecDepth 100000 in
theorem ov_ok : ∀ g t, (Xe.ovIf 119 41 Xe.noOv) g = some t → Xe.OvOK Tryz.prog g t := (Xe.ovIf_ok (Xe.OvOK.of 4 (by kernel_rfl) (by kernel_rfl) (by kernel_rfl) (by kernel_rfl) (by kernel_rfl)) Xe.noOv_ok)
theorem until0 : Xe.Runs Tryz.prog 117 ((Xe.partsOf Tryz.prog 5).take 0) Xe.St.none.tm Xe.St.none.hp .normal Xe.St.none.tm Xe.St.none.hp := Xe.Runs.start
set_option maxRecDepth 100000 in
theorem until1 : Xe.Runs Tryz.prog 117 ((Xe.partsOf Tryz.prog 5).take 4) Xe.St.none.tm Xe.St.none.hp .normal s1.tm s1.hp := Xe.Runs.step (k := 0) until0 4 (Xe.piece_ok (Xe.exec_ok mixed ov_ok 100000) (Xe.xdraw_ok mixed) piece0)
set_option maxRecDepth 100000 in
theorem until5 : Xe.Runs Tryz.prog 117 ((Xe.partsOf Tryz.prog 5).take 5) Xe.St.none.tm Xe.St.none.hp .normal s5.tm s5.hp := Xe.Runs.loopStep (k := 4) until1 (by kernel_rfl) (Xe.RunsLoop.many 5 (Xe.piece_ok (Xe.exec_ok mixed ov_ok 100000) (Xe.xdraw_ok mixed) piece1) (Xe.RunsLoop.many 5 (Xe.piece_ok (Xe.exec_ok mixed ov_ok 100000) (Xe.xdraw_ok mixed) piece2) (Xe.RunsLoop.many 5 (Xe.piece_ok (Xe.exec_ok mixed ov_ok 100000) (Xe.xdraw_ok mixed) piece3) (Xe.loopB_ok (Xe.exec_ok mixed ov_ok 100000) (Xe.xdraw_ok mixed) piece4))))
set_option maxRecDepth 100000 in
theorem until6 : Xe.Runs Tryz.prog 117 ((Xe.partsOf Tryz.prog 5).take 8) Xe.St.none.tm Xe.St.none.hp .normal s6.tm s6.hp := Xe.Runs.step (k := 5) until5 3 (Xe.piece_ok (Xe.exec_ok mixed ov_ok 100000) (Xe.xdraw_ok mixed) piece5)
set_option maxRecDepth 100000 in
theorem until7 : Xe.Runs Tryz.prog 117 ((Xe.partsOf Tryz.prog 5).take 9) Xe.St.none.tm Xe.St.none.hp .normal s7.tm s7.hp := Xe.Runs.step (k := 8) until6 1 (Xe.piece_ok (Xe.exec_ok mixed ov_ok 100000) (Xe.xdraw_ok mixed) piece6)
set_option maxRecDepth 100000 in
theorem walk (w : World) : Calls Tryz.prog 5 #[] w fun e w' => e = .returned (.bool true) ∧ Below w.heap.size w w' :=
  Xe.calls_of_pieces mixed ov_ok (by kernel_rfl) (by kernel_rfl) (by kernel_rfl) until7 piece7 w

set_option maxRecDepth 100000 in
theorem lifted (os : Os) (started : os.Started) (H : Type) (enc : TypeId × Value → H) :
    ReturnsInHanded {} Tryz.checked os 5 .any (Rows.mountsKnownSpec.pre6 enc Tryz.prog Tryz.f5 Rows.mountsKnownRow.domain false) (Rows.mountsKnownSpec.post enc Tryz.prog Tryz.f5 false true false false) := by
  refine returnsInHanded_of_change (C := Tryz.checked) own started (by kernel_rfl) Tryz.func5
    (ChangeSpec.witness6 (enc := enc) (C := Tryz.checked) false ⟨#[], #[], []⟩ 8 (by kernel_rfl) (by kernel_rfl) (by kernel_rfl) (by kernel_rfl)) ?_
  intro W base args ds gs before hval0 hW hcnd _
  have hval : ∀ (j : Nat) t v, Tryz.f5.params[j]? = some t → args[j]? = some v → Value.okWide Tryz.prog W .any base t v := hval0
  have hW' := hW
  obtain ⟨p, q, hA0, hV, rfl, hfz, hnd⟩ := hW
  have hA : DataW.TrodAll enc Tryz.prog W 0 (fun _ => true) true Tryz.f5.params.toList args.toList ds p := hA0
  rw [Tryz.params5] at hA hval
  obtain ⟨rfl, rfl, rfl⟩ := trodAll_none hA
  obtain ⟨rfl, rfl⟩ := trodVars_none hV
  clear hA0 hval0
  simp only [List.append_nil] at hW'
  refine (walk  W).mono fun e W' ⟨he, hg⟩ => ?_
  subst he
  refine ⟨_, rfl, [], [], [], [], [], [], hW', ?_, ?_, ?_, hg.frame _, fun h => by cases h⟩
  · exact trodAll_cons_mk (shut_bool Tryz.underlying4 _) trodAll_mk0
  · rfl
  · rfl

theorem over : Rows.mountsKnownRow.holds Tryz.pinned (OpenSpec.ofChange Rows.mountsKnownSpec) :=
  OpenClaim.holds_of_wide 5 Tryz.f5 rfl rfl rfl rfl rfl rfl rfl ⟨rfl, rfl, rfl, rfl, rfl⟩ rfl rfl rfl rfl rfl (by kernel_rfl) Tryz.func5 (by kernel_rfl)
    (of_decide_eq_true (by kernel_rfl)) (by unfold Func.isWrapper; first | (rw [if_pos (by decide +kernel)]; kernel_rfl) | (rw [if_neg (by decide +kernel)]; exact ⟨rfl, rfl⟩))
    (fun os started H enc _ => lifted os started H enc)

theorem proved : Rows.MountsKnownSaid :=
  over
end Go.Proofs.YtoegfalhkackeaaGreat.mountsKnown
