/-
  What is proved: the law DiffsSelf returns true in whatever memory and with whatever arguments it is called.
  Conditions: none. The walk is the condition that the symbolic engine (texts Sm1 to Sm3, over the executor, texts Xm1 to Xm3) asks for, and that the kernel has computed; it is proved in the other texts.
-/
import Derived.Test.YtcjhhnoaoldcmaaGreatRows
import Derived.Test.YtcjhhnoaoldcmaaGreatK4
import Derived.WalkKit
import Derived.ProofKit
import Derived.OpenShut
import Derived.ShutString
import Derived.Carry
namespace Go.Proofs.YtcjhhnoaoldcmaaGreat.diffsSelf
open Go.ChangeShapes Go.WideShapes Go.ChangeAt Go.RowKit
open Go.ChangeMaps (open_string shut_string)
set_option linter.unusedVariables false
theorem own :ownKnob Tryz.prog.godebug=none:=by kernel_rfl
theorem mixed :Tryz.prog.follows .mixedOrders=true:=by kernel_rfl
theorem laid :laidOutB Tryz.prog=true:=by kernel_rfl
set_option maxRecDepth 100000 in
theorem lifted (os : Os) (      c : os.Started) (H : Type) (enc : TypeId × Value → H) :
  ReturnsInHanded {} Tryz.checked os 4 .any (Rows.diffsSelfSpec.pre6 enc Tryz.prog Tryz.f4 Rows.diffsSelfRow.domain false) (Rows.diffsSelfSpec.post enc Tryz.prog Tryz.f4 false true false false):=by
 refine returnsInHanded_of_change (C:=Tryz.checked) own c (by kernel_rfl) Tryz.func4
  (ChangeSpec.witness6 (enc:=enc) (C:=Tryz.checked) false ⟨#[],#[.agg #[.int .u8 0,.int .u8 0,.slice none 0 0],.int .u8 0],[]⟩ 9 (by kernel_rfl) (by kernel_rfl) (by kernel_rfl) (by kernel_rfl)) ?_
 intro W d args ds gs before b m n _
 have a:∀(j:Nat) t v,Tryz.f4.params[j]? =some t->args[j]? =some v->Value.okWide Tryz.prog W .any d t v:=b
 have k:=m
 obtain⟨p,q,f,o,rfl,r,s⟩:=m
 have i:DataW.TrodAll enc Tryz.prog W 0 (fun _=>true) true Tryz.f4.params.toList args.toList ds p:=f
 rw[Tryz.params4]at i a
 have hlt:∀x∈p,x.block<W.heap.size:=fun x hx=>by simpa using i.lt x hx
 obtain⟨A,v1,w,y,z,p1,rfl,rfl,rfl,g,hd1⟩:=trodAll_two i
 obtain⟨rfl,rfl⟩:=trodVars_none o
 clear f b
 refine(D.slf_walk mixed Tryz.underlying24 Tryz.underlying5 (a 0 _ _ rfl rfl) (a 1 _ _ rfl rfl) g hd1).mono fun e u ⟨he,l⟩=>?_
 subst he
 refine⟨_,rfl,_,[],_,[],_,[],k,?_,trodAll_mk2 (Below.trod laid (by kernel_rfl) (of_decide_eq_true (by kernel_rfl)) g l fun x hx=>hlt x (by simp[hx])) (Below.trod laid (by kernel_rfl) (of_decide_eq_true (by kernel_rfl)) hd1 l fun x hx=>hlt x (by simp[hx])),?_,l.frame _,fun h=>by cases h⟩
 ·exact trodAll_cons_mk (shut_bool Tryz.underlying4 _) trodAll_mk0
 ·rfl
theorem over :Rows.diffsSelfRow.holds Tryz.pinned (OpenSpec.ofChange Rows.diffsSelfSpec):=
 OpenClaim.holds_of_wide 4 Tryz.f4 rfl rfl rfl rfl rfl rfl rfl ⟨rfl,rfl,rfl,rfl,rfl⟩ rfl rfl rfl rfl rfl (by kernel_rfl) Tryz.func4 (by kernel_rfl)
  (of_decide_eq_true (by kernel_rfl)) (by unfold Func.isWrapper;first| (rw[if_pos (by decide+kernel)];kernel_rfl)| (rw[if_neg (by decide+kernel)];exact⟨rfl,rfl⟩))
  (fun os a H enc _=>lifted os a H enc)
theorem proved :Rows.DiffsSelfSaid:=
 over
end Go.Proofs.YtcjhhnoaoldcmaaGreat.diffsSelf
