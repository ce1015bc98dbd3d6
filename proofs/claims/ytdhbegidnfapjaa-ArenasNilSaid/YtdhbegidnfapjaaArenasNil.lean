/-
  What is proved: the law ArenasNil returns true in whatever memory and with whatever handles it is called.
  Conditions: none. The walk is the run of the executor (texts Xe1 to Xe17) on integers that are not known, which the kernel carries out.
-/
import Derived.Test.YtdhbegidnfapjaaRows
import Derived.Test.YtdhbegidnfapjaaXe17
import Derived.WalkKit
import Derived.ProofKit
import Derived.OpenShut
import Derived.ShutString
namespace Go.Proofs.Ytdhbegidnfapjaa.arenasNil
open Go.ChangeShapes Go.WideShapes Go.ChangeAt Go.RowKit
open Go.ChangeMaps (open_string shut_string)
set_option linter.unusedVariables false

theorem own : ownKnob Try.prog.godebug = none := by kernel_rfl

theorem mixed : Try.prog.follows .mixedOrders = true := by kernel_rfl
theorem pairTypes : Try.prog.cellTypes Try.prog.depth 27 = some [25, 25] := by kernel_rfl
theorem pairCells : Try.prog.cellsOf 27 = 2 := by kernel_rfl
theorem any {W : World} {r : Reach} {b : Nat} {v : Value} {σ : Xe.Sg} (h : Value.okWide Try.prog W r b 27 v) : Xe.VR σ Xe.anyPair v :=
  Xe.anyPair_of Try.underlying27 pairTypes pairCells Try.underlying25 Try.underlying25 h
set_option maxRecDepth 100000 in
theorem ran : Xe.yes ((Xe.exec Try.prog Xe.noOv 100000).run 8 [Xe.anyPair] Xe.Hp.empty) = true := by kernel_rfl
theorem walk {r : Reach} {b : Nat} {W : World} {v0 : Value} (h0 : Value.okWide Try.prog W r b 27 v0) (w : World) : Calls Try.prog 8 #[v0] w fun e w' => e = .returned (.bool true) ∧ Below w.heap.size w w' :=
  Xe.calls_yesA mixed Xe.noOv_ok ran (Xe.VRL.cons (any h0) (Xe.VRL.nil _)) w

set_option maxRecDepth 100000 in
theorem lifted (os : Os) (started : os.Started) (H : Type) (enc : TypeId × Value → H) :
    ReturnsInHanded {} Try.checked os 8 .any (Rows.arenasNilSpec.pre6 enc Try.prog Try.f8 Rows.arenasNilRow.domain false) (Rows.arenasNilSpec.post enc Try.prog Try.f8 false true false false) := by
  refine returnsInHanded_of_change (C := Try.checked) own started (by kernel_rfl) Try.func8
    (ChangeSpec.witness6 (enc := enc) (C := Try.checked) false ⟨#[], #[.agg #[.int .u32 0, .int .u32 0]], []⟩ 8 (by kernel_rfl) (by kernel_rfl) (by kernel_rfl) (by kernel_rfl)) ?_
  intro W base args ds gs before hval0 hW hcnd _
  have hval : ∀ (j : Nat) t v, Try.f8.params[j]? = some t → args[j]? = some v → Value.okWide Try.prog W .any base t v := hval0
  have hW' := hW
  obtain ⟨p, q, hA0, hV, rfl, hfz, hnd⟩ := hW
  have hA : DataW.TrodAll enc Try.prog W 0 (fun _ => true) true Try.f8.params.toList args.toList ds p := hA0
  rw [Try.params8] at hA hval
  obtain ⟨v0, d0, rfl, rfl, hd0⟩ := trodAll_one hA
  obtain ⟨rfl, rfl⟩ := trodVars_none hV
  have again : ∀ {v : Value} {d : DataW H} {ps : List MemPlace}, DataW.Trod enc Try.prog W 0 (fun _ => true) true 27 v d ps → ∀ {w' : World} {base' : Nat} {spare' : Nat → Bool} {held' : Bool}, DataW.Trod enc Try.prog w' base' spare' held' 27 v d ps :=
    fun {_ _ _} h {w' base' spare' held'} => Xe.pair_again Try.underlying27 Try.underlying25 Try.underlying25 h w' base' spare' held'
  clear hA0 hval0
  refine (walk (hval 0 _ _ rfl rfl) W).mono fun e W' ⟨he, hg⟩ => ?_
  subst he
  refine ⟨_, rfl, _, [], _, [], _, [], hW', ?_, trodAll_mk1 (again hd0), ?_, hg.frame _, fun h => by cases h⟩
  · exact trodAll_cons_mk (shut_bool Try.underlying4 _) trodAll_mk0
  · rfl

theorem over : Rows.arenasNilRow.holds Try.pinned (OpenSpec.ofChange Rows.arenasNilSpec) :=
  OpenClaim.holds_of_wide 8 Try.f8 rfl rfl rfl rfl rfl rfl rfl ⟨rfl, rfl, rfl, rfl, rfl⟩ rfl rfl rfl rfl rfl (by kernel_rfl) Try.func8 (by kernel_rfl)
    (of_decide_eq_true (by kernel_rfl)) (by unfold Func.isWrapper; first | (rw [if_pos (by decide +kernel)]; kernel_rfl) | (rw [if_neg (by decide +kernel)]; exact ⟨rfl, rfl⟩))
    (fun os started H enc _ => lifted os started H enc)

theorem proved : Rows.ArenasNilSaid :=
  over
end Go.Proofs.Ytdhbegidnfapjaa.arenasNil
