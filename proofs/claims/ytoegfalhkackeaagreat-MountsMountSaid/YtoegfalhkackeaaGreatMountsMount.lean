/-
  What is proved: the law MountsMount returns true in whatever memory and with whatever arguments it is called.
  Conditions: none. The walk is the condition that the symbolic engine (texts Sm1 to Sm3, over the executor, texts Xm1 to Xm3) asks for, and that the kernel has computed; it is proved in the other texts.
-/
import Derived.Test.YtoegfalhkackeaaGreatQ14
import Derived.ProofKit
import Derived.ShutString
noncomputable section
namespace Go.Proofs.YtoegfalhkackeaaGreat.mountsMount
open Go.ChangeShapes Go.WideShapes Go.ChangeAt Go.RowKit
open Go.ChangeMaps (open_string shut_string)
set_option linter.unusedVariables false
theorem own :ownKnob Tryz.prog.godebug=none:=by kernel_rfl
theorem mixed :Tryz.prog.follows .mixedOrders=true:=by kernel_rfl
theorem laid :laidOutB Tryz.prog=true:=by kernel_rfl
set_option maxRecDepth 100000 in
theorem lifted (w:Os)(d:w.Started)(H:Type)(a:Ax×Av->H):ReturnsInHanded {} Tryz.checked w 7 .any (Rows.mountsMountSpec.pre6 a Tryz.prog Tryz.f7 Rows.mountsMountRow.domain false) (Rows.mountsMountSpec.post a Tryz.prog Tryz.f7 false true false false):=by
 refine returnsInHanded_of_change (C:=Tryz.checked) own d (by kernel_rfl) Tryz.func7
  (ChangeSpec.witness6 (enc:=a) (C:=Tryz.checked) false ⟨#[],#[.slice none 0 0,.agg #[.int .u8 0,.int .u8 0,.slice none 0 0]],[]⟩ 9 (by kernel_rfl) (by kernel_rfl) (by kernel_rfl)<|by kernel_rfl) ?_
 intro W f args y I m c s u _;have b:∀(j:Nat) t v,Tryz.f7.params[j]? =some t->args[j]? =some v->Value.okWide Tryz.prog W .any f t v:=c;have o:=s;obtain⟨p,q,g,hV,rfl,A,B⟩:=s;have n:DataW.TrodAll a Tryz.prog W 0 (λ_=>true) true Tryz.f7.params.toList args.toList y p:=g;rw[Tryz.params7]at n b;have k:∀x∈p,x.block<W.heap.size:=λx l=>by simpa using n.lt x l
 obtain⟨L,M,F,G,J,K,rfl,rfl,rfl,i,hd1⟩:=trodAll_two n;obtain⟨rfl,rfl⟩:=trodVars_none hV;clear g c;refine(D.mmo_walk mixed Tryz.underlying62 Tryz.underlying24 (b 0 _ _ rfl rfl) (b 1 _ _ rfl rfl) i hd1).mono λe E ⟨z,r⟩=>?_;subst z;refine⟨_,rfl,_,[],_,[],_,[],o,?_,trodAll_mk2 (Below.trod laid (by kernel_rfl) (of_decide_eq_true<|by kernel_rfl) i r λx l=>k x<|by simp[l])<|Below.trod laid (by kernel_rfl) (of_decide_eq_true<|by kernel_rfl) hd1 r λx l=>k x<|by simp[l],?_,r.frame _,λh=>by cases h⟩;exact trodAll_cons_mk (shut_bool Tryz.underlying4 _) trodAll_mk0;rfl
theorem over :Rows.mountsMountRow.holds Tryz.pinned (OpenSpec.ofChange Rows.mountsMountSpec):=
 OpenClaim.holds_of_wide 7 Tryz.f7 rfl rfl rfl rfl rfl rfl rfl ⟨rfl,rfl,rfl,rfl,rfl⟩ rfl rfl rfl rfl rfl (by kernel_rfl) Tryz.func7 (by kernel_rfl)
  (of_decide_eq_true<|by kernel_rfl) (by unfold Func.isWrapper;first| (rw[if_pos<|by decide+kernel];kernel_rfl)| (rw[if_neg<|by decide+kernel];exact⟨rfl,rfl⟩))
  (λc a H b _=>lifted c a H b)
theorem proved :Rows.MountsMountSaid:=
 over
