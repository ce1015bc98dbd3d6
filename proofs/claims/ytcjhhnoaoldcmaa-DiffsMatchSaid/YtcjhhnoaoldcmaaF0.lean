/- Chapter 19: 'lives' answers true.
  Conditions: none. -/
import Derived.Test.YtcjhhnoaoldcmaaP1
import Derived.Test.YtcjhhnoaoldcmaaA1
import Derived.RowKit
set_option linter.unusedVariables false
noncomputable section
namespace Go.D
open Go Go.Xe Go.Sx Go.RowKit
open Go.Proofs
theorem LO_ok :∀g t,LO g=some t->ah9 PR g t:=bA2 (ah9.of 4 (by kernel_rfl) (by kernel_rfl) (by kernel_rfl) (by kernel_rfl) (by kernel_rfl)) bz9
set_option maxRecDepth 100000 in
theorem lives_yes (hm:PR.follows .mixedOrders=true):aY6 PR LVn:=fun w=>
 au1 (P:=PR) (f:=13) (k:=4) (n:=5000) (m:=5000) (nt:=92) (s:=sLV) hm LO_ok (by kernel_rfl) (by kernel_rfl) (by kernel_rfl) (P8.step (k:=0) P8.start 4 (bu6 (aK0 hm LO_ok 5000) (ap7 hm) lvA)) lvB w
noncomputable def LV :FuncId->Option TypeId:=aL0 LVn ah2 LO
theorem LV_ok (hm:PR.follows .mixedOrders=true):∀g t,LV g=some t->ah9 PR g t:=by
 intro g t h
 unfold LV aL0 at h
 cases hb:Nat.beq g LVn with
 |true=>
  rw[hb,bH1,bF4]at h
  rw[<-h,bF9 hb]
  exact bA3 (lives_yes hm)
 |false=>rw[hb,bH2]at h;exact LO_ok g t h
end Go.D
