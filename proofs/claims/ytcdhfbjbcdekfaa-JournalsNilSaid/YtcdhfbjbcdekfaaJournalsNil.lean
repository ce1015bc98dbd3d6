/-
  What is proved: the law JournalsNil returns true in whatever memory and for whatever number it is called.
  Conditions: none. The walk is the run of the executor (texts Xe1 to Xe20), which the kernel carries out, for each value of the number by 80; the frame is a shell that the kit wrote.
-/
import Derived.Test.YtcdhfbjbcdekfaaRows
import Derived.Test.YtcdhfbjbcdekfaaJournalsNilLast0
import Derived.Test.YtcdhfbjbcdekfaaJournalsNilLast1
import Derived.Test.YtcdhfbjbcdekfaaJournalsNilLast2
import Derived.Test.YtcdhfbjbcdekfaaJournalsNilLast3
import Derived.Test.YtcdhfbjbcdekfaaJournalsNilLast4
import Derived.Test.YtcdhfbjbcdekfaaJournalsNilLast5
import Derived.Test.YtcdhfbjbcdekfaaJournalsNilLast6
import Derived.Test.YtcdhfbjbcdekfaaJournalsNilLast7
import Derived.WalkKit
import Derived.ProofKit
import Derived.OpenShut
import Derived.ShutString
namespace Go.Proofs.Ytcdhfbjbcdekfaa.journalsNil
open Go.ChangeShapes Go.WideShapes Go.ChangeAt Go.RowKit
open Go.ChangeMaps (open_string shut_string)
set_option linter.unusedVariables false

theorem own : ownKnob Try.prog.godebug = none := by kernel_rfl

theorem mixed : Try.prog.follows .mixedOrders = true := by kernel_rfl
set_option maxRecDepth 100000 in
theorem any {a0 : Int} (w0 : (Lit.int .u8 a0).wf = true) (w : World) {σ : Xe.Sg} : Xe.VR σ Xe.anyU8 (.int .u8 a0) :=
  Xe.anyU8_of' (w := w) Try.underlying5 (okWide_int_mk Try.underlying5 w0)
theorem upto0 : ∀ i, i < 0 → Good i := Xe.below_zero
theorem upto1 : ∀ i, i < 1 → Good i := Xe.below_cons (p := Good) (c := 0) upto0 last0
theorem upto2 : ∀ i, i < 2 → Good i := Xe.below_cons (p := Good) (c := 1) upto1 last1
theorem upto3 : ∀ i, i < 3 → Good i := Xe.below_cons (p := Good) (c := 2) upto2 last2
theorem upto4 : ∀ i, i < 4 → Good i := Xe.below_cons (p := Good) (c := 3) upto3 last3
theorem upto5 : ∀ i, i < 5 → Good i := Xe.below_cons (p := Good) (c := 4) upto4 last4
theorem upto6 : ∀ i, i < 6 → Good i := Xe.below_cons (p := Good) (c := 5) upto5 last5
theorem upto7 : ∀ i, i < 7 → Good i := Xe.below_cons (p := Good) (c := 6) upto6 last6
theorem upto8 : ∀ i, i < 8 → Good i := Xe.below_cons (p := Good) (c := 7) upto7 last7
theorem upto9 : ∀ i, i < 9 → Good i := Xe.below_cons (p := Good) (c := 8) upto8 last8
theorem upto10 : ∀ i, i < 10 → Good i := Xe.below_cons (p := Good) (c := 9) upto9 last9
theorem upto11 : ∀ i, i < 11 → Good i := Xe.below_cons (p := Good) (c := 10) upto10 last10
theorem upto12 : ∀ i, i < 12 → Good i := Xe.below_cons (p := Good) (c := 11) upto11 last11
theorem upto13 : ∀ i, i < 13 → Good i := Xe.below_cons (p := Good) (c := 12) upto12 last12
theorem upto14 : ∀ i, i < 14 → Good i := Xe.below_cons (p := Good) (c := 13) upto13 last13
theorem upto15 : ∀ i, i < 15 → Good i := Xe.below_cons (p := Good) (c := 14) upto14 last14
theorem upto16 : ∀ i, i < 16 → Good i := Xe.below_cons (p := Good) (c := 15) upto15 last15
theorem upto17 : ∀ i, i < 17 → Good i := Xe.below_cons (p := Good) (c := 16) upto16 last16
theorem upto18 : ∀ i, i < 18 → Good i := Xe.below_cons (p := Good) (c := 17) upto17 last17
theorem upto19 : ∀ i, i < 19 → Good i := Xe.below_cons (p := Good) (c := 18) upto18 last18
theorem upto20 : ∀ i, i < 20 → Good i := Xe.below_cons (p := Good) (c := 19) upto19 last19
theorem upto21 : ∀ i, i < 21 → Good i := Xe.below_cons (p := Good) (c := 20) upto20 last20
theorem upto22 : ∀ i, i < 22 → Good i := Xe.below_cons (p := Good) (c := 21) upto21 last21
theorem upto23 : ∀ i, i < 23 → Good i := Xe.below_cons (p := Good) (c := 22) upto22 last22
theorem upto24 : ∀ i, i < 24 → Good i := Xe.below_cons (p := Good) (c := 23) upto23 last23
theorem upto25 : ∀ i, i < 25 → Good i := Xe.below_cons (p := Good) (c := 24) upto24 last24
theorem upto26 : ∀ i, i < 26 → Good i := Xe.below_cons (p := Good) (c := 25) upto25 last25
theorem upto27 : ∀ i, i < 27 → Good i := Xe.below_cons (p := Good) (c := 26) upto26 last26
theorem upto28 : ∀ i, i < 28 → Good i := Xe.below_cons (p := Good) (c := 27) upto27 last27
theorem upto29 : ∀ i, i < 29 → Good i := Xe.below_cons (p := Good) (c := 28) upto28 last28
theorem upto30 : ∀ i, i < 30 → Good i := Xe.below_cons (p := Good) (c := 29) upto29 last29
theorem upto31 : ∀ i, i < 31 → Good i := Xe.below_cons (p := Good) (c := 30) upto30 last30
theorem upto32 : ∀ i, i < 32 → Good i := Xe.below_cons (p := Good) (c := 31) upto31 last31
theorem upto33 : ∀ i, i < 33 → Good i := Xe.below_cons (p := Good) (c := 32) upto32 last32
theorem upto34 : ∀ i, i < 34 → Good i := Xe.below_cons (p := Good) (c := 33) upto33 last33
theorem upto35 : ∀ i, i < 35 → Good i := Xe.below_cons (p := Good) (c := 34) upto34 last34
theorem upto36 : ∀ i, i < 36 → Good i := Xe.below_cons (p := Good) (c := 35) upto35 last35
theorem upto37 : ∀ i, i < 37 → Good i := Xe.below_cons (p := Good) (c := 36) upto36 last36
theorem upto38 : ∀ i, i < 38 → Good i := Xe.below_cons (p := Good) (c := 37) upto37 last37
theorem upto39 : ∀ i, i < 39 → Good i := Xe.below_cons (p := Good) (c := 38) upto38 last38
theorem upto40 : ∀ i, i < 40 → Good i := Xe.below_cons (p := Good) (c := 39) upto39 last39
theorem upto41 : ∀ i, i < 41 → Good i := Xe.below_cons (p := Good) (c := 40) upto40 last40
theorem upto42 : ∀ i, i < 42 → Good i := Xe.below_cons (p := Good) (c := 41) upto41 last41
theorem upto43 : ∀ i, i < 43 → Good i := Xe.below_cons (p := Good) (c := 42) upto42 last42
theorem upto44 : ∀ i, i < 44 → Good i := Xe.below_cons (p := Good) (c := 43) upto43 last43
theorem upto45 : ∀ i, i < 45 → Good i := Xe.below_cons (p := Good) (c := 44) upto44 last44
theorem upto46 : ∀ i, i < 46 → Good i := Xe.below_cons (p := Good) (c := 45) upto45 last45
theorem upto47 : ∀ i, i < 47 → Good i := Xe.below_cons (p := Good) (c := 46) upto46 last46
theorem upto48 : ∀ i, i < 48 → Good i := Xe.below_cons (p := Good) (c := 47) upto47 last47
theorem upto49 : ∀ i, i < 49 → Good i := Xe.below_cons (p := Good) (c := 48) upto48 last48
theorem upto50 : ∀ i, i < 50 → Good i := Xe.below_cons (p := Good) (c := 49) upto49 last49
theorem upto51 : ∀ i, i < 51 → Good i := Xe.below_cons (p := Good) (c := 50) upto50 last50
theorem upto52 : ∀ i, i < 52 → Good i := Xe.below_cons (p := Good) (c := 51) upto51 last51
theorem upto53 : ∀ i, i < 53 → Good i := Xe.below_cons (p := Good) (c := 52) upto52 last52
theorem upto54 : ∀ i, i < 54 → Good i := Xe.below_cons (p := Good) (c := 53) upto53 last53
theorem upto55 : ∀ i, i < 55 → Good i := Xe.below_cons (p := Good) (c := 54) upto54 last54
theorem upto56 : ∀ i, i < 56 → Good i := Xe.below_cons (p := Good) (c := 55) upto55 last55
theorem upto57 : ∀ i, i < 57 → Good i := Xe.below_cons (p := Good) (c := 56) upto56 last56
theorem upto58 : ∀ i, i < 58 → Good i := Xe.below_cons (p := Good) (c := 57) upto57 last57
theorem upto59 : ∀ i, i < 59 → Good i := Xe.below_cons (p := Good) (c := 58) upto58 last58
theorem upto60 : ∀ i, i < 60 → Good i := Xe.below_cons (p := Good) (c := 59) upto59 last59
theorem upto61 : ∀ i, i < 61 → Good i := Xe.below_cons (p := Good) (c := 60) upto60 last60
theorem upto62 : ∀ i, i < 62 → Good i := Xe.below_cons (p := Good) (c := 61) upto61 last61
theorem upto63 : ∀ i, i < 63 → Good i := Xe.below_cons (p := Good) (c := 62) upto62 last62
theorem upto64 : ∀ i, i < 64 → Good i := Xe.below_cons (p := Good) (c := 63) upto63 last63
theorem upto65 : ∀ i, i < 65 → Good i := Xe.below_cons (p := Good) (c := 64) upto64 last64
theorem upto66 : ∀ i, i < 66 → Good i := Xe.below_cons (p := Good) (c := 65) upto65 last65
theorem upto67 : ∀ i, i < 67 → Good i := Xe.below_cons (p := Good) (c := 66) upto66 last66
theorem upto68 : ∀ i, i < 68 → Good i := Xe.below_cons (p := Good) (c := 67) upto67 last67
theorem upto69 : ∀ i, i < 69 → Good i := Xe.below_cons (p := Good) (c := 68) upto68 last68
theorem upto70 : ∀ i, i < 70 → Good i := Xe.below_cons (p := Good) (c := 69) upto69 last69
theorem upto71 : ∀ i, i < 71 → Good i := Xe.below_cons (p := Good) (c := 70) upto70 last70
theorem upto72 : ∀ i, i < 72 → Good i := Xe.below_cons (p := Good) (c := 71) upto71 last71
theorem upto73 : ∀ i, i < 73 → Good i := Xe.below_cons (p := Good) (c := 72) upto72 last72
theorem upto74 : ∀ i, i < 74 → Good i := Xe.below_cons (p := Good) (c := 73) upto73 last73
theorem upto75 : ∀ i, i < 75 → Good i := Xe.below_cons (p := Good) (c := 74) upto74 last74
theorem upto76 : ∀ i, i < 76 → Good i := Xe.below_cons (p := Good) (c := 75) upto75 last75
theorem upto77 : ∀ i, i < 77 → Good i := Xe.below_cons (p := Good) (c := 76) upto76 last76
theorem upto78 : ∀ i, i < 78 → Good i := Xe.below_cons (p := Good) (c := 77) upto77 last77
theorem upto79 : ∀ i, i < 79 → Good i := Xe.below_cons (p := Good) (c := 78) upto78 last78
theorem upto80 : ∀ i, i < 80 → Good i := Xe.below_cons (p := Good) (c := 79) upto79 last79
set_option maxRecDepth 100000 in
theorem walk (a0 : Int) (w0 : (Lit.int .u8 a0).wf = true) (w : World) : Calls Try.prog 3 #[.int .u8 a0] w fun e w' => e = .returned (.bool true) ∧ Below w.heap.size w w' :=
  Xe.calls_of_splits (xs := [Xe.anyU8]) (ys := [.int .u8 a0]) (c := 80) (t := 11) (k := 12) mixed Xe.noOv_ok (by kernel_rfl) (by kernel_rfl) (by kernel_rfl) first rfl (by decide) upto80 (Xe.VRL.cons (any w0 w) (Xe.VRL.nil _)) w

set_option maxRecDepth 100000 in
theorem lifted (os : Os) (started : os.Started) (H : Type) (enc : TypeId × Value → H) :
    ReturnsInHanded {} Try.checked os 3 .any (Rows.journalsNilSpec.pre6 enc Try.prog Try.f3 Rows.journalsNilRow.domain false) (Rows.journalsNilSpec.post enc Try.prog Try.f3 false true false false) := by
  refine returnsInHanded_of_change (C := Try.checked) own started (by kernel_rfl) Try.func3
    (ChangeSpec.witness6 (enc := enc) (C := Try.checked) false ⟨#[], #[.int .u8 0], []⟩ 8 (by kernel_rfl) (by kernel_rfl) (by kernel_rfl) (by kernel_rfl)) ?_
  intro W base args ds gs before hval0 hW hcnd _
  have hval : ∀ (j : Nat) t v, Try.f3.params[j]? = some t → args[j]? = some v → Value.okWide Try.prog W .any base t v := hval0
  have hW' := hW
  obtain ⟨p, q, hA0, hV, rfl, hfz, hnd⟩ := hW
  have hA : DataW.TrodAll enc Try.prog W 0 (fun _ => true) true Try.f3.params.toList args.toList ds p := hA0
  rw [Try.params3] at hA hval
  obtain ⟨v0, vs0, d0, ds0, p0, q0, hargs, rfl, rfl, h0, r0⟩ := trodAll_cons hA
  obtain ⟨rfl, rfl, rfl⟩ := trodAll_nil r0
  obtain rfl : args = #[v0] := by cases args; simp_all
  obtain ⟨rfl, rfl⟩ := trodVars_none hV
  obtain ⟨a0, rfl, rfl, rfl, w0⟩ := open_int Try.underlying5 (hval 0 5 v0 rfl rfl) h0
  clear hA0 hval0
  simp only [List.append_nil] at hW'
  refine (walk a0 w0 W).mono fun e W' ⟨he, hg⟩ => ?_
  subst he
  refine ⟨_, rfl, _, [], _, [], _, [], hW', ?_, trodAll_cons_mk (shut_int Try.underlying5 w0) trodAll_mk0, ?_, hg.frame _, fun h => by cases h⟩
  · exact trodAll_cons_mk (shut_bool Try.underlying4 _) trodAll_mk0
  · rfl

theorem over : Rows.journalsNilRow.holds Try.pinned (OpenSpec.ofChange Rows.journalsNilSpec) :=
  OpenClaim.holds_of_wide 3 Try.f3 rfl rfl rfl rfl rfl rfl rfl ⟨rfl, rfl, rfl, rfl, rfl⟩ rfl rfl rfl rfl rfl (by kernel_rfl) Try.func3 (by kernel_rfl)
    (of_decide_eq_true (by kernel_rfl)) (by unfold Func.isWrapper; first | (rw [if_pos (by decide +kernel)]; kernel_rfl) | (rw [if_neg (by decide +kernel)]; exact ⟨rfl, rfl⟩))
    (fun os started H enc _ => lifted os started H enc)

theorem proved : Rows.JournalsNilSaid :=
  over
end Go.Proofs.Ytcdhfbjbcdekfaa.journalsNil
