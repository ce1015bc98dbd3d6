/- Chapter 19: 'lives' answers true.
  Conditions: none. -/
import Derived.Test.YtcjhhnoaoldcmaaGreatP1
import Derived.Test.YtcjhhnoaoldcmaaGreatA1
import Derived.RowKit
set_option linter.unusedVariables false
noncomputable section
namespace Go.D
open Go Go.Xe Go.Sx Go.RowKit
open Go.Proofs
theorem LO_ok :∀g t,LO g=some t->ai7 PR g t:=bD1 (ai7.of 4 (by kernel_rfl) (by kernel_rfl) (by kernel_rfl) (by kernel_rfl) (by kernel_rfl)) bC8
set_option maxRecDepth 100000 in
theorem lives_yes (hm:PR.follows .mixedOrders=true):aZ8 PR LVn:=fun w=>
 aw4 (P:=PR) (f:=14) (k:=4) (n:=5000) (m:=5000) (nt:=92) (s:=sLV) hm LO_ok (by kernel_rfl) (by kernel_rfl) (by kernel_rfl) (Q4.step (k:=0) Q4.start 4 (bw5 (aM1 hm LO_ok 5000) (as5 hm) lvA)) lvB w
noncomputable def LV :FuncId->Option TypeId:=aN2 LVn ai1 LO
theorem LV_ok (hm:PR.follows .mixedOrders=true):∀g t,LV g=some t->ai7 PR g t:=by
 intro g t h
 unfold LV aN2 at h
 cases hb:Nat.beq g LVn with
 |true=>
  rw[hb,bJ6,bH9]at h
  rw[<-h,bI4 hb]
  exact bD2 (lives_yes hm)
 |false=>rw[hb,bJ7]at h;exact LO_ok g t h
end Go.D
