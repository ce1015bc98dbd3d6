/- Chapter 19: 'lives' answers true; the first half of its run.
  Conditions: none. -/
import Derived.Test.YtcjhhnoaoldcmaaXm3
import Derived.Test.YtcjhhnoaoldcmaaRows
import Derived.KernelRfl
set_option linter.unusedVariables false
noncomputable section
namespace Go.D
open Go Go.Xe Go.RowKit
noncomputable abbrev PR :Program:=Go.Proofs.Try.prog
noncomputable def LO :FuncId->Option TypeId:=aC0 71 30 noOv
def q0 :Value:= .string ⟨#[]⟩
def q1 :Value:= .slice none 0 0
def q2 :Value:= .int .i64 0
def sLV :St:=⟨[.bool false,.slice (some ⟨1,0,none⟩) 3 3,.slice (some ⟨2,0,none⟩) 1 1,.slice (some ⟨5,0,none⟩) 3 3,undef,undef,undef,undef,undef,.slice (some ⟨1,0,none⟩) 3 3,.slice (some ⟨2,0,none⟩) 1 1,.slice (some ⟨5,0,none⟩) 3 3]++List.replicate 80 undef,
 [.cells 1 [q2] 3 1,
  .cells 36 [.int .u8 1,q1,.string ⟨#[120]⟩,q0,q2,q2,.int .u8 0,q0,q0,q1,q0,q1,.int .u8 2,q1,.string ⟨#[121]⟩,.string ⟨#[50]⟩,q2,q2,.int .u8 0,q0,q0,q1,q0,q1,.int .u8 3,.slice (some ⟨0,0,none⟩) 1 1,q0,.string ⟨#[117]⟩,q2,q2,.int .u8 0,q0,q0,q1,q0,q1] 43 12,
  .cells 12 [.int .u8 6,q1,q0,q0,.int .i64 2,q2,.int .u8 0,q0,q0,q1,q0,q1] 43 12,
  .cells 0 [] 28 6,
  .cells 0 [] 28 6,
  .cells 36 [.int .u8 4,q1,q0,q0,q2,q2,.int .u8 0,q0,q0,q1,q0,q1,.int .u8 5,q1,q0,q0,q2,q2,.int .u8 1,.string ⟨#[99]⟩,.string ⟨#[112]⟩,q1,q0,.slice (some ⟨3,0,none⟩) 0 0,.int .u8 5,q1,q0,q0,q2,.int .i64 2,.int .u8 1,.string ⟨#[100]⟩,q0,q1,q0,.slice (some ⟨4,0,none⟩) 0 0] 43 12]⟩
set_option maxRecDepth 100000 in
theorem lvA :aW7 PR (i8 PR) (exec PR LO 5000) 92 0 5000 (Xe.part PR 13 0 4) St.none [715,727,1816,2747,2847,2860] sLV=true:=by kernel_rfl
end Go.D
