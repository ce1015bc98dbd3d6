/-
  What is proved: the law DomsNil returns true in whatever memory and with whatever handles it is called.
  Conditions: none. The walk is the run of the executor (texts Xe1 to Xe17) on integers that are not known, which the kernel carries out.
-/
import Derived.Test.YtgmiikiinbaapaaGreatRows
import Derived.Test.YtgmiikiinbaapaaGreatDomsNilRun00
import Derived.Test.YtgmiikiinbaapaaGreatDomsNilRun01
import Derived.Test.YtgmiikiinbaapaaGreatDomsNilRun02
import Derived.Test.YtgmiikiinbaapaaGreatDomsNilRun10
import Derived.Test.YtgmiikiinbaapaaGreatDomsNilRun11
import Derived.Test.YtgmiikiinbaapaaGreatDomsNilRun12
import Derived.Test.YtgmiikiinbaapaaGreatDomsNilRun20
import Derived.Test.YtgmiikiinbaapaaGreatDomsNilRun21
import Derived.Test.YtgmiikiinbaapaaGreatDomsNilRun22
import Derived.WalkKit
import Derived.ProofKit
import Derived.OpenShut
import Derived.ShutString
namespace Go.Proofs.YtgmiikiinbaapaaGreat.domsNil
open Go.ChangeShapes Go.WideShapes Go.ChangeAt Go.RowKit
open Go.ChangeMaps (open_string shut_string)
set_option linter.unusedVariables false

theorem own : ownKnob Tryz.prog.godebug = none := by kernel_rfl

theorem mixed : Tryz.prog.follows .mixedOrders = true := by kernel_rfl
theorem pairTypes : Tryz.prog.cellTypes Tryz.prog.depth 26 = some [24, 24] := by kernel_rfl
theorem pairCells : Tryz.prog.cellsOf 26 = 2 := by kernel_rfl
set_option maxRecDepth 100000 in
theorem any {W : World} {r : Reach} {b : Nat} {v : Value} {σ : Xe.Sg} (h : Value.okWide Tryz.prog W r b 26 v) : Xe.VR σ Xe.anyPair v :=
  Xe.anyPair_of Tryz.underlying26 pairTypes pairCells Tryz.underlying24 Tryz.underlying24 h
set_option maxRecDepth 100000 in
theorem walk {r : Reach} {b : Nat} {W : World} {v0 v1 v2 : Value} (h0 : Value.okWide Tryz.prog W r b 26 v0) (h1 : Value.okWide Tryz.prog W r b 26 v1) (h2 : Value.okWide Tryz.prog W r b 26 v2) (w : World) : Calls Tryz.prog 8 #[v0, v1, v2] w fun e w' => e = .returned (.bool true) ∧ Below w.heap.size w w' := by
  have go : ∀ {x y : Value}, Xe.VRL (fun _ => none) [x, y] [v1, v2] → Xe.yes ((Xe.exec Tryz.prog (Xe.ovIf 115 35 Xe.noOv) 100000).run 8 [Xe.anyPair, x, y] Xe.Hp.empty) = true → Calls Tryz.prog 8 #[v0, v1, v2] w fun e w' => e = .returned (.bool true) ∧ Below w.heap.size w w' :=
    fun hl h => Xe.calls_yesA mixed (Xe.ovIf_ok (Xe.OvOK.of 4 (by kernel_rfl) (by kernel_rfl) (by kernel_rfl) (by kernel_rfl) (by kernel_rfl)) Xe.noOv_ok) h (Xe.VRL.cons (any h0) hl) w
  have two : ∀ {x y : Value}, Xe.VR (fun _ => none) x v1 → Xe.VR (fun _ => none) y v2 → Xe.VRL (fun _ => none) [x, y] [v1, v2] := fun hx hy => Xe.VRL.cons hx (Xe.VRL.cons hy (Xe.VRL.nil _))
  rcases Xe.anyPair_cases (any h1) with k1 | k1 | k1 <;> rcases Xe.anyPair_cases (any h2) with k2 | k2 | k2
  · exact go (two k1 k2) ran00
  · exact go (two k1 k2) ran01
  · exact go (two k1 k2) ran02
  · exact go (two k1 k2) ran10
  · exact go (two k1 k2) ran11
  · exact go (two k1 k2) ran12
  · exact go (two k1 k2) ran20
  · exact go (two k1 k2) ran21
  · exact go (two k1 k2) ran22

set_option maxRecDepth 100000 in
theorem lifted (os : Os) (started : os.Started) (H : Type) (enc : TypeId × Value → H) :
    ReturnsInHanded {} Tryz.checked os 8 .any (Rows.domsNilSpec.pre6 enc Tryz.prog Tryz.f8 Rows.domsNilRow.domain false) (Rows.domsNilSpec.post enc Tryz.prog Tryz.f8 false true false false) := by
  refine returnsInHanded_of_change (C := Tryz.checked) own started (by kernel_rfl) Tryz.func8
    (ChangeSpec.witness6 (enc := enc) (C := Tryz.checked) false ⟨#[], #[.agg #[.int .u32 0, .int .u32 0], .agg #[.int .u32 0, .int .u32 0], .agg #[.int .u32 0, .int .u32 0]], []⟩ 8 (by kernel_rfl) (by kernel_rfl) (by kernel_rfl) (by kernel_rfl)) ?_
  intro W base args ds gs before hval0 hW hcnd _
  have hval : ∀ (j : Nat) t v, Tryz.f8.params[j]? = some t → args[j]? = some v → Value.okWide Tryz.prog W .any base t v := hval0
  have hW' := hW
  obtain ⟨p, q, hA0, hV, rfl, hfz, hnd⟩ := hW
  have hA : DataW.TrodAll enc Tryz.prog W 0 (fun _ => true) true Tryz.f8.params.toList args.toList ds p := hA0
  rw [Tryz.params8] at hA hval
  obtain ⟨v0, v1, v2, d0, d1, d2, p0, p1, p2, rfl, rfl, rfl, hd0, hd1, hd2⟩ := trodAll_three hA
  obtain ⟨rfl, rfl⟩ := trodVars_none hV
  have again : ∀ {v : Value} {d : DataW H} {ps : List MemPlace}, DataW.Trod enc Tryz.prog W 0 (fun _ => true) true 26 v d ps → ∀ {w' : World} {base' : Nat} {spare' : Nat → Bool} {held' : Bool}, DataW.Trod enc Tryz.prog w' base' spare' held' 26 v d ps :=
    fun {_ _ _} h {w' base' spare' held'} => Xe.pair_again Tryz.underlying26 Tryz.underlying24 Tryz.underlying24 h w' base' spare' held'
  clear hA0 hval0
  refine (walk (hval 0 _ _ rfl rfl) (hval 1 _ _ rfl rfl) (hval 2 _ _ rfl rfl) W).mono fun e W' ⟨he, hg⟩ => ?_
  subst he
  refine ⟨_, rfl, _, [], _, [], _, [], hW', ?_, trodAll_mk3 (again hd0) (again hd1) (again hd2), ?_, hg.frame _, fun h => by cases h⟩
  · exact trodAll_cons_mk (shut_bool Tryz.underlying4 _) trodAll_mk0
  · rfl

theorem over : Rows.domsNilRow.holds Tryz.pinned (OpenSpec.ofChange Rows.domsNilSpec) :=
  OpenClaim.holds_of_wide 8 Tryz.f8 rfl rfl rfl rfl rfl rfl rfl ⟨rfl, rfl, rfl, rfl, rfl⟩ rfl rfl rfl rfl rfl (by kernel_rfl) Tryz.func8 (by kernel_rfl)
    (of_decide_eq_true (by kernel_rfl)) (by unfold Func.isWrapper; first | (rw [if_pos (by decide +kernel)]; kernel_rfl) | (rw [if_neg (by decide +kernel)]; exact ⟨rfl, rfl⟩))
    (fun os started H enc _ => lifted os started H enc)

theorem proved : Rows.DomsNilSaid :=
  over
end Go.Proofs.YtgmiikiinbaapaaGreat.domsNil
