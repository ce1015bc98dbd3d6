/-
  What is proved: the law DomsOwn returns true in whatever memory and with whatever arguments it is called.
  Conditions: none. The walk is the condition that the symbolic engine (texts Sm1 to Sm3, over the executor, texts Xm1 to Xm3) asks for, and that the kernel has computed; it is proved in the other texts.
-/
import Derived.Test.YtgmiikiinbaapaaGreatV1
import Derived.ProofKit
import Derived.ShutString
namespace Go.Proofs.YtgmiikiinbaapaaGreat.domsOwn
open Go.ChangeShapes Go.WideShapes Go.ChangeAt Go.RowKit
open Go.ChangeMaps (open_string shut_string)
set_option linter.unusedVariables false
theorem own :ownKnob Tryz.prog.godebug=none:=by kernel_rfl
theorem mixed :Tryz.prog.follows .mixedOrders=true:=by kernel_rfl
theorem laid :laidOutB Tryz.prog=true:=by kernel_rfl
set_option maxRecDepth 100000 in
theorem lifted (os:Os)(b:os.Started)(H:Type)(enc:Ax×Av->H):ReturnsInHanded {} Tryz.checked os 5 .any (Rows.domsOwnSpec.pre6 enc Tryz.prog Tryz.f5 Rows.domsOwnRow.domain false) (Rows.domsOwnSpec.post enc Tryz.prog Tryz.f5 false true false false):=by
 refine returnsInHanded_of_change (C:=Tryz.checked) own b (by kernel_rfl) Tryz.func5
  (ChangeSpec.witness6 (enc:=enc) (C:=Tryz.checked) false ⟨#[],#[.slice none 0 0],[]⟩ 9 (by kernel_rfl) (by kernel_rfl) (by kernel_rfl) (by kernel_rfl)) ?_
 intro W d args ds gs before a l m _;have c:∀(j:Nat) t v,Tryz.f5.params[j]? =some t->args[j]? =some v->Value.okWide Tryz.prog W .any d t v:=a;have k:=l;obtain⟨p,q,f,hV,rfl,n,o⟩:=l;have i:DataW.TrodAll enc Tryz.prog W 0 (fun _=>true) true Tryz.f5.params.toList args.toList ds p:=f;rw[Tryz.params5]at i c;obtain⟨u,s,rfl,rfl,g⟩:=trodAll_one i;obtain⟨rfl,rfl⟩:=trodVars_none hV;have hlt:∀x∈p,x.block<W.heap.size:=fun x hx=>by simpa using i.lt x hx
 clear f a;refine(D.own_walk mixed Tryz.underlying51 (c 0 _ _ rfl rfl) g).mono fun e r ⟨he,hg⟩=>?_;subst he;refine⟨_,rfl,_,[],_,[],_,[],k,?_,trodAll_mk1 (Below.trod laid (by kernel_rfl) (of_decide_eq_true (by kernel_rfl)) g hg hlt),?_,hg.frame _,fun h=>by cases h⟩;exact trodAll_cons_mk (shut_bool Tryz.underlying4 _) trodAll_mk0;rfl
theorem over :Rows.domsOwnRow.holds Tryz.pinned (OpenSpec.ofChange Rows.domsOwnSpec):=
 OpenClaim.holds_of_wide 5 Tryz.f5 rfl rfl rfl rfl rfl rfl rfl ⟨rfl,rfl,rfl,rfl,rfl⟩ rfl rfl rfl rfl rfl (by kernel_rfl) Tryz.func5 (by kernel_rfl)
  (of_decide_eq_true (by kernel_rfl)) (by unfold Func.isWrapper;first| (rw[if_pos (by decide+kernel)];kernel_rfl)| (rw[if_neg (by decide+kernel)];exact⟨rfl,rfl⟩))
  (fun os a H enc _=>lifted os a H enc)
theorem proved :Rows.DomsOwnSaid:=
 over
