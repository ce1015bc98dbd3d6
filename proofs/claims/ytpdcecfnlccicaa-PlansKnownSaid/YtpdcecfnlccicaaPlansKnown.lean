/-
  What is proved: the law PlansKnown returns true in whatever memory it is called.
  Conditions: none. The walk is the condition that the symbolic engine (texts Sm1 to Sm3, over the executor, texts Xm1 to Xm3) asks for, and that the kernel has computed; it is proved in the other texts.
-/
import Derived.Test.YtpdcecfnlccicaaRows
import Derived.Test.YtpdcecfnlccicaaK7
import Derived.WalkKit
import Derived.ProofKit
import Derived.OpenShut
import Derived.ShutString
import Derived.Carry
namespace Go.Proofs.Ytpdcecfnlccicaa.plansKnown
open Go.ChangeShapes Go.WideShapes Go.ChangeAt Go.RowKit
open Go.ChangeMaps (open_string shut_string)
set_option linter.unusedVariables false
theorem own : ownKnob Try.prog.godebug=none:=by kernel_rfl
theorem mixed : Try.prog.follows .mixedOrders=true:=by kernel_rfl
theorem laid : laidOutB Try.prog=true:=by kernel_rfl
set_option maxRecDepth 100000 in
theorem lifted (os : Os) (started : os.Started) (H : Type) (enc : TypeId × Value → H) :
  ReturnsInHanded {} Try.checked os 7 .any (Rows.plansKnownSpec.pre6 enc Try.prog Try.f7 Rows.plansKnownRow.domain false) (Rows.plansKnownSpec.post enc Try.prog Try.f7 false true false false):=by
 refine returnsInHanded_of_change (C:=Try.checked) own started (by kernel_rfl) Try.func7
  (ChangeSpec.witness6 (enc:=enc) (C:=Try.checked) false ⟨#[],#[],[]⟩ 9 (by kernel_rfl) (by kernel_rfl) (by kernel_rfl) (by kernel_rfl)) ?_
 intro W base args ds gs before hval0 hW hcnd _
 have hval : ∀ (j : Nat) t v,Try.f7.params[j]? = some t→args[j]? = some v→Value.okWide Try.prog W .any base t v:=hval0
 have hW' := hW
 obtain ⟨p,q,hA0,hV,rfl,hfz,hnd⟩:=hW
 have hA : DataW.TrodAll enc Try.prog W 0 (fun _=>true) true Try.f7.params.toList args.toList ds p:=hA0
 rw [Try.params7] at hA hval
 obtain ⟨rfl,rfl,rfl⟩:=trodAll_none hA
 obtain ⟨rfl,rfl⟩:=trodVars_none hV
 clear hA0 hval0
 simp only [List.append_nil] at hW'
 refine (C36.kn_walk (W:=W) mixed).mono fun e W' ⟨he,hg⟩ => ?_
 subst he
 refine ⟨_,rfl,[],[],[],[],[],[],hW', ?_, ?_, ?_,hg.frame _,fun h=>by cases h⟩
 ·exact trodAll_cons_mk (shut_bool Try.underlying4 _) trodAll_mk0
 ·rfl
 ·rfl
theorem over : Rows.plansKnownRow.holds Try.pinned (OpenSpec.ofChange Rows.plansKnownSpec) :=
 OpenClaim.holds_of_wide 7 Try.f7 rfl rfl rfl rfl rfl rfl rfl ⟨rfl,rfl,rfl,rfl,rfl⟩ rfl rfl rfl rfl rfl (by kernel_rfl) Try.func7 (by kernel_rfl)
  (of_decide_eq_true (by kernel_rfl)) (by unfold Func.isWrapper; first | (rw [if_pos (by decide +kernel)]; kernel_rfl) | (rw [if_neg (by decide +kernel)]; exact ⟨rfl,rfl⟩))
  (fun os started H enc _=>lifted os started H enc)
theorem proved : Rows.PlansKnownSaid :=
 over
end Go.Proofs.Ytpdcecfnlccicaa.plansKnown
