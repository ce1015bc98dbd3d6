/-
  What is proved: the law MountsAgain returns true in whatever memory and with whatever arguments it is called.
  Conditions: none. The walk is the condition that the symbolic engine (texts Sm1 to Sm3, over the executor, texts Xm1 to Xm3) asks for, and that the kernel has computed; it is proved in the other texts.
-/
import Derived.Test.YtoegfalhkackeaaGreatQS
import Derived.ProofKit
import Derived.ShutString
namespace Go.Proofs.YtoegfalhkackeaaGreat.mountsAgain
open Go.ChangeShapes Go.WideShapes Go.ChangeAt Go.RowKit
open Go.ChangeMaps (open_string shut_string)
set_option linter.unusedVariables false
theorem own :ownKnob Tryz.prog.godebug=none:=by kernel_rfl
theorem mixed :Tryz.prog.follows .mixedOrders=true:=by kernel_rfl
theorem laid :laidOutB Tryz.prog=true:=by kernel_rfl
set_option maxRecDepth 100000 in
theorem lifted (os:Os)(c:os.Started)(H:Type)(enc:Ax×Av->H):ReturnsInHanded {} Tryz.checked os 3 .any (Rows.mountsAgainSpec.pre6 enc Tryz.prog Tryz.f3 Rows.mountsAgainRow.domain false) (Rows.mountsAgainSpec.post enc Tryz.prog Tryz.f3 false true false false):=by
 refine returnsInHanded_of_change (C:=Tryz.checked) own c (by kernel_rfl) Tryz.func3
  (ChangeSpec.witness6 (enc:=enc) (C:=Tryz.checked) false ⟨#[],#[.agg #[.int .u8 0,.int .u8 0,.slice none 0 0],.agg #[.int .u8 0,.int .u8 0,.slice none 0 0]],[]⟩ 9 (by kernel_rfl) (by kernel_rfl) (by kernel_rfl) (by kernel_rfl)) ?_
 intro W d args ds gs before b l m _;have a:∀(j:Nat) t v,Tryz.f3.params[j]? =some t->args[j]? =some v->Value.okWide Tryz.prog W .any d t v:=b;have k:=l;obtain⟨p,q,f,hV,rfl,n,o⟩:=l;have i:DataW.TrodAll enc Tryz.prog W 0 (fun _=>true) true Tryz.f3.params.toList args.toList ds p:=f;rw[Tryz.params3]at i a;have hlt:∀x∈p,x.block<W.heap.size:=fun x hx=>by simpa using i.lt x hx
 obtain⟨y,z,s,u,w,p1,rfl,rfl,rfl,g,hd1⟩:=trodAll_two i;obtain⟨rfl,rfl⟩:=trodVars_none hV;clear f b;refine(D.mag_walk mixed Tryz.underlying24 (a 0 _ _ rfl rfl) (a 1 _ _ rfl rfl) g hd1).mono fun e r ⟨he,hg⟩=>?_;subst he;refine⟨_,rfl,_,[],_,[],_,[],k,?_,trodAll_mk2 (Below.trod laid (by kernel_rfl) (of_decide_eq_true (by kernel_rfl)) g hg fun x hx=>hlt x (by simp[hx])) (Below.trod laid (by kernel_rfl) (of_decide_eq_true (by kernel_rfl)) hd1 hg fun x hx=>hlt x (by simp[hx])),?_,hg.frame _,fun h=>by cases h⟩;exact trodAll_cons_mk (shut_bool Tryz.underlying4 _) trodAll_mk0;rfl
theorem over :Rows.mountsAgainRow.holds Tryz.pinned (OpenSpec.ofChange Rows.mountsAgainSpec):=
 OpenClaim.holds_of_wide 3 Tryz.f3 rfl rfl rfl rfl rfl rfl rfl ⟨rfl,rfl,rfl,rfl,rfl⟩ rfl rfl rfl rfl rfl (by kernel_rfl) Tryz.func3 (by kernel_rfl)
  (of_decide_eq_true (by kernel_rfl)) (by unfold Func.isWrapper;first| (rw[if_pos (by decide+kernel)];kernel_rfl)| (rw[if_neg (by decide+kernel)];exact⟨rfl,rfl⟩))
  (fun os a H enc _=>lifted os a H enc)
theorem proved :Rows.MountsAgainSaid:=
 over
