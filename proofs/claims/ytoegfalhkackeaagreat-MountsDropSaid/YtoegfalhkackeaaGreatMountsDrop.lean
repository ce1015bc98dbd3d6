/-
  What is proved: the law MountsDrop returns true in whatever memory and with whatever arguments it is called.
  Conditions: none. The walk is the condition that the symbolic engine (texts Sm1 to Sm3, over the executor, texts Xm1 to Xm3) asks for, and that the kernel has computed; it is proved in the other texts.
-/
import Derived.Test.YtoegfalhkackeaaGreatW3
import Derived.ProofKit
import Derived.ShutString
namespace Go.Proofs.YtoegfalhkackeaaGreat.mountsDrop
open Go.ChangeShapes Go.WideShapes Go.ChangeAt Go.RowKit
open Go.ChangeMaps (open_string shut_string)
set_option linter.unusedVariables false
theorem own :ownKnob Tryz.prog.godebug=none:=by kernel_rfl
theorem mixed :Tryz.prog.follows .mixedOrders=true:=by kernel_rfl
theorem laid :laidOutB Tryz.prog=true:=by kernel_rfl
set_option maxRecDepth 100000 in
theorem lifted (os:Os)(c:os.Started)(H:Type)(enc:Ax×Av->H):ReturnsInHanded {} Tryz.checked os 6 .any (Rows.mountsDropSpec.pre6 enc Tryz.prog Tryz.f6 Rows.mountsDropRow.domain false) (Rows.mountsDropSpec.post enc Tryz.prog Tryz.f6 false true false false):=by
 refine returnsInHanded_of_change (C:=Tryz.checked) own c (by kernel_rfl) Tryz.func6
  (ChangeSpec.witness6 (enc:=enc) (C:=Tryz.checked) false ⟨#[],#[.slice none 0 0,.slice none 0 0],[]⟩ 9 (by kernel_rfl) (by kernel_rfl) (by kernel_rfl) (by kernel_rfl)) ?_
 intro W d args ds gs before b l m _;have a:∀(j:Nat) t v,Tryz.f6.params[j]? =some t->args[j]? =some v->Value.okWide Tryz.prog W .any d t v:=b;have k:=l;obtain⟨p,q,f,hV,rfl,n,o⟩:=l;have i:DataW.TrodAll enc Tryz.prog W 0 (λ_=>true) true Tryz.f6.params.toList args.toList ds p:=f;rw[Tryz.params6]at i a;have hlt:∀x∈p,x.block<W.heap.size:=λx hx=>by simpa using i.lt x hx
 obtain⟨y,z,s,u,w,p1,rfl,rfl,rfl,g,hd1⟩:=trodAll_two i;obtain⟨rfl,rfl⟩:=trodVars_none hV;clear f b;refine(D.mdr_walk mixed Tryz.underlying62 (a 0 _ _ rfl rfl) (a 1 _ _ rfl rfl) g hd1).mono λe r ⟨he,hg⟩=>?_;subst he;refine⟨_,rfl,_,[],_,[],_,[],k,?_,trodAll_mk2 (Below.trod laid (by kernel_rfl) (of_decide_eq_true (by kernel_rfl)) g hg λx hx=>hlt x (by simp[hx])) (Below.trod laid (by kernel_rfl) (of_decide_eq_true (by kernel_rfl)) hd1 hg λx hx=>hlt x (by simp[hx])),?_,hg.frame _,λh=>by cases h⟩;exact trodAll_cons_mk (shut_bool Tryz.underlying4 _) trodAll_mk0;rfl
theorem over :Rows.mountsDropRow.holds Tryz.pinned (OpenSpec.ofChange Rows.mountsDropSpec):=
 OpenClaim.holds_of_wide 6 Tryz.f6 rfl rfl rfl rfl rfl rfl rfl ⟨rfl,rfl,rfl,rfl,rfl⟩ rfl rfl rfl rfl rfl (by kernel_rfl) Tryz.func6 (by kernel_rfl)
  (of_decide_eq_true (by kernel_rfl)) (by unfold Func.isWrapper;first| (rw[if_pos (by decide+kernel)];kernel_rfl)| (rw[if_neg (by decide+kernel)];exact⟨rfl,rfl⟩))
  (λos a H enc _=>lifted os a H enc)
theorem proved :Rows.MountsDropSaid:=
 over
