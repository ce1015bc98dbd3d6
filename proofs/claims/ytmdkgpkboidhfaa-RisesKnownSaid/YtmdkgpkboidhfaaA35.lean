/- Chapter 08, carrying steps out: the contracts stand.
  Conditions: none. -/
import Derived.Test.YtmdkgpkboidhfaaA34
set_option linter.unusedVariables false
noncomputable section
namespace Go.C08
open Go Go.Xe Go.Sx Go.RowKit
open Go.Proofs
noncomputable def ρ8 : Go.Shelf.Ren:=⟨fun n=>n+12,fun t=>t,fun g=>g⟩
noncomputable def ie8 : TypeInfo:=(Try.prog.info? 3).getD default
theorem ie8_eq : Try.prog.info? 3=some ie8:=by kernel_rfl
theorem ie8_size : ie8.size=1:=by kernel_rfl
theorem del8 : DelFn Try.prog 33 ρ8 3 ie8 (.int .i64 0) where
 fn:=⟨fnAt Try.prog 33,by kernel_rfl,by kernel_rfl,by kernel_rfl,by kernel_rfl⟩
 t22:=by kernel_rfl
 ty:=ie8_eq
 zero:=by kernel_rfl
 cst:=rfl
 zl:=by kernel_rfl
 one:=rfl
 by_:=of_decide_eq_true (by kernel_rfl)
theorem ins8 : InsFn Try.prog 34 ρ8 3 ie8 (.int .i64 0) where
 fn:=⟨fnAt Try.prog 34,by kernel_rfl,by kernel_rfl,by kernel_rfl,by kernel_rfl⟩
 t22:=by kernel_rfl
 t3:=by kernel_rfl
 ty:=ie8_eq
 zero:=by kernel_rfl
 cst:=rfl
 zl:=by kernel_rfl
 sz:=by rw [ie8_size]; exact Nat.le_refl _
 by_:=of_decide_eq_true (by kernel_rfl)
 fo:=⟨fnAt Try.prog 39,by kernel_rfl,by kernel_rfl⟩
 nT:=by kernel_rfl
theorem allX : AllX Try.prog U0 LV (primsC Try.prog):=by
 have h1:=sdel_right (U:=U0) (ov:=LV) del8 rfl
 have h2:=sins_right (U:=U0) (ov:=LV) ins8 rfl rfl
 rw [ie8_size] at h1 h2
 exact ⟨⟨h1,rfl⟩,⟨h2,rfl⟩,trivial⟩
theorem stageC0 : AllG Try.prog U0 LV (stageC 0):=⟨g_check,g_lives,trivial⟩
theorem g_carry : RightG Try.prog U0 LV cCarry 19:=rightX_eq annsC stageC0 allX 400 vcCarry_eq vcCarry_ok (conT rfl)
end Go.C08
