/- Chapter 19: 'lives' answers true; the first half of its run.
  Conditions: none. -/
import Derived.Test.YtcjhhnoaoldcmaaGreatXm3
import Derived.Test.YtcjhhnoaoldcmaaGreatRows
import Derived.KernelRfl
set_option linter.all false
noncomputable section
namespace Go.D
open Go Go.Xe Go.RowKit
noncomputable abbrev PR :Ax:=Go.Proofs.Tryz.prog
noncomputable def LO :Aa:=ne 83 45 noOv
def q0 :Aw:= .string ⟨#[]⟩
def q1 :Aw:= .slice none 0 0
def q2 :Aw:= .int .i64 0
def sl (i n:Nat):Aw:= .slice (some ⟨i,0,none⟩) n n
def sLV :St:=⟨[.bool false,sl 727 3,sl 1816 1,sl 2860 3,undef,undef,undef,undef,undef,sl 727 3,sl 1816 1,sl 2860 3]++List.replicate 80 undef,2861,
 [(715,[q2],3,1),
  (727,[.int .u8 1,q1,.string ⟨#[120]⟩,q0,q2,q2,.int .u8 0,q0,q0,q1,q0,q1,.int .u8 2,q1,.string ⟨#[121]⟩,.string ⟨#[50]⟩,q2,q2,.int .u8 0,q0,q0,q1,q0,q1,.int .u8 3,sl 715 1,q0,.string ⟨#[117]⟩,q2,q2,.int .u8 0,q0,q0,q1,q0,q1],47,12),
  (1816,[.int .u8 6,q1,q0,q0,.int .i64 2,q2,.int .u8 0,q0,q0,q1,q0,q1],47,12),
  (2747,[],28,6),
  (2847,[],28,6),
  (2860,[.int .u8 4,q1,q0,q0,q2,q2,.int .u8 0,q0,q0,q1,q0,q1,.int .u8 5,q1,q0,q0,q2,q2,.int .u8 1,.string ⟨#[99]⟩,.string ⟨#[112]⟩,q1,q0,sl 2747 0,.int .u8 5,q1,q0,q0,q2,.int .i64 2,.int .u8 1,.string ⟨#[100]⟩,q0,q1,q0,sl 2847 0],47,12)]⟩
set_option maxRecDepth 100000 in
def lvA :St.of 92 (sLV.bls.map (·.1)) (oj PR (j3 PR) (exec PR LO 5000) 92 5000 4 (qK PR 14) .e ⟨.e,0⟩)=some (sLV.tms,sLV.nx,sLV.bls.map fun b=>some (some b.2.1,b.2.2)):=by kernel_rfl
end Go.D
