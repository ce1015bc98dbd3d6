/-
  What is proved: the law DiffsMatch returns true in whatever memory and with whatever arguments it is called.
  Conditions: none. The walk is the condition that the symbolic engine (texts Sm1 to Sm3, over the executor, texts Xm1 to Xm3) asks for, and that the kernel has computed; it is proved in the other texts.
-/
import Derived.Test.YtcjhhnoaoldcmaaRows
import Derived.Test.YtcjhhnoaoldcmaaF2
import Derived.WalkKit
import Derived.ProofKit
import Derived.OpenShut
import Derived.ShutString
import Derived.Carry
namespace Go.Proofs.Ytcjhhnoaoldcmaa.diffsMatch
open Go.ChangeShapes Go.WideShapes Go.ChangeAt Go.RowKit
open Go.ChangeMaps (open_string shut_string)
set_option linter.unusedVariables false
theorem own :ownKnob Try.prog.godebug=none:=by kernel_rfl
theorem mixed :Try.prog.follows .mixedOrders=true:=by kernel_rfl
theorem laid :laidOutB Try.prog=true:=by kernel_rfl
set_option maxRecDepth 100000 in
theorem lifted (os : Os) (started : os.Started) (H : Type) (enc : TypeId × Value → H) :
  ReturnsInHanded {} Try.checked os 3 .any (Rows.diffsMatchSpec.pre6 enc Try.prog Try.f3 Rows.diffsMatchRow.domain false) (Rows.diffsMatchSpec.post enc Try.prog Try.f3 false true false false):=by
 refine returnsInHanded_of_change (C:=Try.checked) own started (by kernel_rfl) Try.func3
  (ChangeSpec.witness6 (enc:=enc) (C:=Try.checked) false ⟨#[],#[.agg #[.int .u8 0,.int .u8 0,.slice none 0 0],.agg #[.int .u8 0,.int .u8 0,.slice none 0 0]],[]⟩ 9 (by kernel_rfl) (by kernel_rfl) (by kernel_rfl) (by kernel_rfl)) ?_
 intro W base args ds gs before hval0 hW hcnd _
 have hval:∀(j:Nat) t v,Try.f3.params[j]? =some t->args[j]? =some v->Value.okWide Try.prog W .any base t v:=hval0
 have hW':=hW
 obtain⟨p,q,hA0,hV,rfl,hfz,hnd⟩:=hW
 have hA:DataW.TrodAll enc Try.prog W 0 (fun _=>true) true Try.f3.params.toList args.toList ds p:=hA0
 rw[Try.params3]at hA hval
 have hlt:∀x∈p,x.block<W.heap.size:=fun x hx=>by simpa using hA.lt x hx
 obtain⟨v0,v1,d0,d1,p0,p1,rfl,rfl,rfl,hd0,hd1⟩:=trodAll_two hA
 obtain⟨rfl,rfl⟩:=trodVars_none hV
 clear hA0 hval0
 refine(D.dm_walk mixed Try.underlying24 (hval 0 _ _ rfl rfl) (hval 1 _ _ rfl rfl) hd0 hd1).mono fun e W' ⟨he,hg⟩=>?_
 subst he
 refine⟨_,rfl,_,[],_,[],_,[],hW',?_,trodAll_mk2 (Below.trod laid (by kernel_rfl) (of_decide_eq_true (by kernel_rfl)) hd0 hg fun x hx=>hlt x (by simp[hx])) (Below.trod laid (by kernel_rfl) (of_decide_eq_true (by kernel_rfl)) hd1 hg fun x hx=>hlt x (by simp[hx])),?_,hg.frame _,fun h=>by cases h⟩
 ·exact trodAll_cons_mk (shut_bool Try.underlying4 _) trodAll_mk0
 ·rfl
theorem over :Rows.diffsMatchRow.holds Try.pinned (OpenSpec.ofChange Rows.diffsMatchSpec):=
 OpenClaim.holds_of_wide 3 Try.f3 rfl rfl rfl rfl rfl rfl rfl ⟨rfl,rfl,rfl,rfl,rfl⟩ rfl rfl rfl rfl rfl (by kernel_rfl) Try.func3 (by kernel_rfl)
  (of_decide_eq_true (by kernel_rfl)) (by unfold Func.isWrapper;first| (rw[if_pos (by decide+kernel)];kernel_rfl)| (rw[if_neg (by decide+kernel)];exact⟨rfl,rfl⟩))
  (fun os started H enc _=>lifted os started H enc)
theorem proved :Rows.DiffsMatchSaid:=
 over
end Go.Proofs.Ytcjhhnoaoldcmaa.diffsMatch
