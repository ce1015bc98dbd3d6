/-
  What is proved: the law DomsCopy returns true in whatever memory and with whatever arguments it is called.
  Conditions: none. The walk is the condition that the symbolic engine (texts Sm1 to Sm3, over the executor, texts Xm1 to Xm3) asks for, and that the kernel has computed; it is proved in the other texts.
-/
import Derived.Test.YtgmiikiinbaapaaGreatV1
import Derived.ProofKit
import Derived.ShutString
namespace Go.Proofs.YtgmiikiinbaapaaGreat.domsCopy
open Go.ChangeShapes Go.WideShapes Go.ChangeAt Go.RowKit
open Go.ChangeMaps (open_string shut_string)
set_option linter.unusedVariables false
theorem own :ownKnob Tryz.prog.godebug=none:=by kernel_rfl
theorem mixed :Tryz.prog.follows .mixedOrders=true:=by kernel_rfl
theorem laid :laidOutB Tryz.prog=true:=by kernel_rfl
set_option maxRecDepth 100000 in
theorem lifted (os:Os)(c:os.Started)(H:Type)(enc:Ax×Av->H):ReturnsInHanded {} Tryz.checked os 7 .any (Rows.domsCopySpec.pre6 enc Tryz.prog Tryz.f7 Rows.domsCopyRow.domain false) (Rows.domsCopySpec.post enc Tryz.prog Tryz.f7 false true false false):=by
 refine returnsInHanded_of_change (C:=Tryz.checked) own c (by kernel_rfl) Tryz.func7
  (ChangeSpec.witness6 (enc:=enc) (C:=Tryz.checked) false ⟨#[],#[.slice none 0 0,.slice none 0 0,.slice none 0 0],[]⟩ 9 (by kernel_rfl) (by kernel_rfl) (by kernel_rfl) (by kernel_rfl)) ?_
 intro W d args ds gs before b m n _;have a:∀(j:Nat) t v,Tryz.f7.params[j]? =some t->args[j]? =some v->Value.okWide Tryz.prog W .any d t v:=b;have g:=m;obtain⟨p,q,f,hV,rfl,o,r⟩:=m;have l:DataW.TrodAll enc Tryz.prog W 0 (fun _=>true) true Tryz.f7.params.toList args.toList ds p:=f;rw[Tryz.params7]at l a;have hlt:∀x∈p,x.block<W.heap.size:=fun x hx=>by simpa using l.lt x hx
 obtain⟨A,B,E,w,y,z,s,p1,p2,rfl,rfl,rfl,i,hd1,k⟩:=trodAll_three l;obtain⟨rfl,rfl⟩:=trodVars_none hV;clear f b;refine(D.cpy_walk mixed Tryz.underlying51 (a 0 _ _ rfl rfl) (a 1 _ _ rfl rfl) (a 2 _ _ rfl rfl) i hd1 k).mono fun e u ⟨he,hg⟩=>?_;subst he;rw[List.append_assoc s p1 p2]at g;refine⟨_,rfl,_,[],_,[],_,[],g,?_,trodAll_mk3 (Below.trod laid (by kernel_rfl) (of_decide_eq_true (by kernel_rfl)) i hg fun x hx=>hlt x (by simp[hx])) (Below.trod laid (by kernel_rfl) (of_decide_eq_true (by kernel_rfl)) hd1 hg fun x hx=>hlt x (by simp[hx])) (Below.trod laid (by kernel_rfl) (of_decide_eq_true (by kernel_rfl)) k hg fun x hx=>hlt x (by simp[hx])),?_,hg.frame _,fun h=>by cases h⟩;exact trodAll_cons_mk (shut_bool Tryz.underlying4 _) trodAll_mk0;rfl
theorem over :Rows.domsCopyRow.holds Tryz.pinned (OpenSpec.ofChange Rows.domsCopySpec):=
 OpenClaim.holds_of_wide 7 Tryz.f7 rfl rfl rfl rfl rfl rfl rfl ⟨rfl,rfl,rfl,rfl,rfl⟩ rfl rfl rfl rfl rfl (by kernel_rfl) Tryz.func7 (by kernel_rfl)
  (of_decide_eq_true (by kernel_rfl)) (by unfold Func.isWrapper;first| (rw[if_pos (by decide+kernel)];kernel_rfl)| (rw[if_neg (by decide+kernel)];exact⟨rfl,rfl⟩))
  (fun os a H enc _=>lifted os a H enc)
theorem proved :Rows.DomsCopySaid:=
 over
