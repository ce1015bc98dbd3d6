/- Keep, step by step, in the executor.
  Conditions: none. -/
import Derived.Test.YtcjhhnoaoldcmaaMJ
set_option linter.unusedVariables false
set_option linter.unusedSimpArgs false
set_option maxRecDepth 10000
noncomputable section
namespace Go.D
open Go Go.Xe Go.Sx
open Go.C36 (row)
abbrev qF :FuncId:=14
theorem qc_eq :f5 PR qF=Go.Proofs.Try.f14.body.getD .skip:=by kernel_rfl
theorem q_fn :PR.funcs[qF]? =some Go.Proofs.Try.f14:=by kernel_rfl
theorem d_fn :PR.funcs[24]? =some Go.Proofs.Try.f24:=by kernel_rfl
theorem d_ok :O7 Go.Proofs.Try.f24=true:=by kernel_rfl
theorem ft_fn :PR.funcs[12]? =some Go.Proofs.Try.f12:=by kernel_rfl
theorem ft_ok :O7 Go.Proofs.Try.f12=true:=by kernel_rfl
abbrev qc1 :Code:=cdB (f5 PR qF)
abbrev qc2 :Code:=cdB qc1
abbrev qc3 :Code:=cdB qc2
abbrev qc4 :Code:=cdB qc3
theorem q_c0 :f5 PR qF= .seq (cdA (f5 PR qF)) (.seq (.seq (cdA (cdA qc1)) (.seq (cdA (cdB (cdA qc1))) (.cond (.tmp 12) (cdA (cdB (cdB (cdA qc1)))) .skip))) (.seq (cdA qc2) (.seq (.seq (cdA (cdA qc3)) (.cond (.tmp 19) (cdA (cdB (cdA qc3))) .skip)) (.seq (.seq (cdA (cdA qc4)) (.cond (.tmp 24) (.seq (cdA (cdA (cdB (cdA qc4)))) .ret) .skip)) (.seq (cdA (cdB qc4)) .ret))))):=by kernel_rfl
section
variable {ov :FuncId->Option TypeId}{hp:Hp}{tm:T Value}{vs us ws:List Value}{ib ir iw:Nat}{cs d:T Value}{Q:T Value->Hp->Prop}{hp1:Hp}
theorem xo_as0 (call:c8):xop PR call tm hp (.assign (.const (.int .i64 0)))=some (.int .i64 0,hp):=by
 have h:cst (.int .i64 0)=true:=rfl
 simp only[a9,d9,a8,h,bB8,d8]
theorem q_R0 (h0 : tm.get 0 = some (.agg vs.toArray)) (h1 : tm.get 1 = some (.agg us.toArray)) ( b : vs.length = 6) (  a : us.length = 6)
  (k:∀tm1 hp1,hp1.nx=hp.nx+3->(∀j,j<hp.nx->hp1.m.get j=hp.m.get j)->hp1.m.get hp.nx=some (.cells (fill .e 0 vs) 6 tN 6)->hp1.m.get (hp.nx+1)=some (.cells (fill .e 0 us) 6 tN 6)->hp1.m.get (hp.nx+2)=some (.cells zB 6 tN 6)->tm1.get 2=some (.pointer (some ⟨hp.nx,0,none⟩))->tm1.get 3=some (.pointer (some ⟨hp.nx+1,0,none⟩))->tm1.get 4=some (.pointer (some ⟨hp.nx+2,0,none⟩))->Q tm1 hp1):YN PR ov 29 (cdA (f5 PR qF)) tm hp Q:=by
 rw[qc_eq]
 simp only[Go.Proofs.Try.f14,bE3,cdA,cdB]
 have e:(Value.agg vs.toArray).cells.toList=vs:=by simp[Value.cells]
 have e':(Value.agg us.toArray).cells.toList=us:=by simp[Value.cells]
 refine .region (.op rfl rfl (xo_box h0) (.op rfl rfl (xo_box (by simp only[gp];exact h1)) (.op rfl rfl xo_alloc (.op rfl rfl xo_as0 (.nil ?_)))))
 rw[e,b,e',a]
 refine⟨((keeps_set (bH4 _) (.inl (bC4 _))).trans (keeps_set (hp:=⟨_,hp.nx+1⟩) (bH4 _) (.inl (bC4 _)))).trans (keeps_set (hp:=⟨_,hp.nx+1+1⟩) (bH4 _) (.inl (bC4 _))),k _ _ rfl (fun j hj=>?_) ?_ ?_ ?_ ?_ ?_ ?_⟩
 ·show(((hp.m.set hp.nx _).set (hp.nx+1) _).set (hp.nx+2) _).get j=_
  rw[T.get_set,bC1 (by omega),T.get_set,bC1 (by omega),T.get_set,bC1 (by omega)]
 ·show(((hp.m.set hp.nx _).set (hp.nx+1) _).set (hp.nx+2) _).get hp.nx=_
  rw[T.get_set,bC1 (by omega),T.get_set,bC1 (by omega),T.get_set,bC3 rfl]
 ·show(((hp.m.set hp.nx _).set (hp.nx+1) _).set (hp.nx+2) _).get (hp.nx+1)=_
  rw[T.get_set,bC1 (by omega),T.get_set,bC3 rfl]
 ·show(((hp.m.set hp.nx _).set (hp.nx+1) _).set (hp.nx+2) _).get (hp.nx+2)=_
  rw[T.get_set,bC3 rfl]
 ·simp only[gp];rfl
 ·simp only[gp];rfl
 ·simp only[gp];rfl
theorem q_R1 (h2 : tm.get 2 = some (.pointer (some ⟨ib, 0, none⟩))) (hb : hp.m.get ib = some (.cells cs 6 tN 6)) (hl : f9 cs 0 6 = some vs) (h3 : tm.get 3 = some (.pointer (some ⟨ir, 0, none⟩))) (hr : hp.m.get ir = some (.cells d 6 tN 6)) (  a : f9 d 0 6 = some us)
  (hx:E4 PR ov 24 [.agg vs.toArray,.agg us.toArray] hp (.int .i64 0) hp1) (hk:m9 hp hp1) (k:∀tm1,(∀x,x<5->tm1.get x=tm.get x)->Q tm1 hp1):YN PR ov 29 (.seq (cdA (cdA qc1)) (.seq (cdA (cdB (cdA qc1))) (.cond (.tmp 12) (cdA (cdB (cdB (cdA qc1)))) .skip))) tm hp Q:=by
 unfold qc1
 rw[qc_eq]
 simp only[Go.Proofs.Try.f14,bE3,cdA,cdB]
 refine .seq (.region (.op rfl rfl (xo_load h2 (ld_N' hb rfl (by omega) hl)) (.op rfl rfl (xo_load (by simp only[gp];exact h3) (ld_N' hr rfl (by omega) a)) (.cons rfl rfl (xo_call2 d_fn d_ok (by simp only[gp];rfl) (by simp only[gp];rfl) hx) (.op rfl rfl (xo_as (by simp only[gp];rfl)) (.nil ⟨hk,.seq (.region ?_)⟩))))))
 refine .op rfl rfl (xo_mv (by simp only[gp];rfl)) (.op rfl rfl (xo_ne0 (by simp only[gp];rfl)) (.nil ⟨.refl _,.condF (ev_t (by simp only[gp];rfl)) (.skip (k _ fun x hx=>?_))⟩))
 simp only[gp]
 iterate 6 rw[bC1 (by omega)]
theorem q_R4 (h3 : tm.get 3 = some (.pointer (some ⟨ir, 0, none⟩))) (hr : hp.m.get ir = some (.cells d 6 tN 6)) (hl : f9 d 0 6 = some us) (hx : E4 PR ov yF [.agg us.toArray] hp (.agg ws.toArray) hp1) (hk : m9 hp hp1) (  b : ws.length = 6) (  a : ws.all Value.oneCell' = true)
  (k:∀tm1,(∀x,x<5->tm1.get x=tm.get x)->tm1.get 7=some (.pointer (some ⟨hp1.nx,0,none⟩))->Q tm1 ⟨(hp1.m.set hp1.nx (some (.cells zB 6 tN 6))).set hp1.nx (some (.cells (fill zB 0 ws) 6 tN 6)),hp1.nx+1⟩):YN PR ov 29 (cdA qc2) tm hp Q:=by
 unfold qc2 qc1
 rw[qc_eq]
 simp only[Go.Proofs.Try.f14,bE3,cdA,cdB]
 refine .region (.op rfl rfl (xo_load h3 (ld_N' hr rfl (by omega) hl)) (.cons rfl rfl (xo_call1 y_fn y_ok (by simp only[gp];rfl) hx) (.op rfl rfl xo_alloc (.op rfl rfl (xo_store (by simp only[gp];rfl) (by simp only[gp];rfl) (st_N (cs:=zB) (z:=6) (e:=tN) (n:=6) (by show(hp1.m.set hp1.nx _).get hp1.nx=_;rw[T.get_set,bC3 rfl]) (by omega) b a)) (.nil ⟨?_,k _ (fun x hx=>?_) ?_⟩)))))
 ·exact(hk.trans (keeps_set (bH4 _) (.inl (bC4 _)))).trans (keeps_set (hp:=⟨_,hp1.nx+1⟩) (bC4 _) (.inr (by show(hp1.m.set hp1.nx _).get hp1.nx≠_;rw[T.get_set,bC3 rfl];exact fun h=>by cases h)))
 ·simp only[gp,gn]
  iterate 3 rw[bC1 (by omega)]
 ·simp only[gp,gn];rfl
theorem q_R5 (h2 : tm.get 2 = some (.pointer (some ⟨ib, 0, none⟩))) (hb : hp.m.get ib = some (.cells cs 6 tN 6)) (hl : f9 cs 0 6 = some vs) (h3 : tm.get 3 = some (.pointer (some ⟨ir, 0, none⟩))) (hr : hp.m.get ir = some (.cells d 6 tN 6)) (  a : f9 d 0 6 = some us) {b : Bool}
  (hx:E4 PR ov 12 [.agg vs.toArray,.agg us.toArray] hp (.bool b) hp1) (hk:m9 hp hp1) (k:∀tm1,(∀x,x<8->tm1.get x=tm.get x)->tm1.get 19=some (.bool b)->Q tm1 hp1):YN PR ov 29 (cdA (cdA qc3)) tm hp Q:=by
 unfold qc3 qc2 qc1
 rw[qc_eq]
 simp only[Go.Proofs.Try.f14,bE3,cdA,cdB]
 refine .region (.op rfl rfl (xo_load h2 (ld_N' hb rfl (by omega) hl)) (.op rfl rfl (xo_load (by simp only[gp];exact h3) (ld_N' hr rfl (by omega) a)) (.cons rfl rfl (xo_call2 ft_fn ft_ok (by simp only[gp];rfl) (by simp only[gp];rfl) hx) (.nil ⟨hk,k _ (fun x hx=>?_) ?_⟩))))
 ·simp only[gp]
  iterate 3 rw[bC1 (by omega)]
 ·simp only[gp];rfl
theorem q_R6 (h2 : tm.get 2 = some (.pointer (some ⟨ib, 0, none⟩))) (hb : hp.m.get ib = some (.cells cs 6 tN 6)) (hl : f9 cs 0 6 = some vs) ( a : tm.get 7 = some (.pointer (some ⟨iw, 0, none⟩))) {v : Value}
  (hx:E4 PR ov kF [.agg vs.toArray,.pointer (some ⟨iw,0,none⟩)] hp v hp1) (hk:m9 hp hp1) (k:∀tm1,(∀x,x<8->tm1.get x=tm.get x)->Q tm1 hp1):YN PR ov 29 (cdA (cdB (cdA qc3))) tm hp Q:=by
 unfold qc3 qc2 qc1
 rw[qc_eq]
 simp only[Go.Proofs.Try.f14,bE3,cdA,cdB]
 refine .region (.op rfl rfl (xo_load h2 (ld_N' hb rfl (by omega) hl)) (.cons rfl rfl (xo_call2 k_fn k_ok (by simp only[gp];rfl) (by simp only[gp];exact a) hx) (.nil ⟨hk,k _ fun x hx=>?_⟩)))
 simp only[gp]
 iterate 2 rw[bC1 (by omega)]
theorem q_R7 ( a : tm.get 7 = some (.pointer (some ⟨iw, 0, none⟩))) ( b : hp.m.get iw = some (.cells cs 6 tN 6)) (hl : f9 cs 0 6 = some ws) {n : Int} (hx : E4 PR ov 34 [.agg ws.toArray] hp (.int .i64 n) hp1) (hk : m9 hp hp1)
  (k:∀tm1,(∀x,x<8->tm1.get x=tm.get x)->tm1.get 24=some (.bool (!decide (n=0)))->Q tm1 hp1):YN PR ov 29 (cdA (cdA qc4)) tm hp Q:=by
 unfold qc4 qc3 qc2 qc1
 rw[qc_eq]
 simp only[Go.Proofs.Try.f14,bE3,cdA,cdB]
 refine .region (.op rfl rfl (xo_load a (ld_N' b rfl (by omega) hl)) (.cons rfl rfl (xo_call1 h_fn h_ok (by simp only[gp];rfl) hx) (.op rfl rfl (xo_ne0 (by simp only[gp];rfl)) (.nil ⟨hk,k _ (fun x hx=>?_) ?_⟩))))
 ·simp only[gp]
  iterate 3 rw[bC1 (by omega)]
 ·simp only[gp];rfl
theorem q_R8 (h3 : tm.get 3 = some (.pointer (some ⟨ir, 0, none⟩))) (hr : hp.m.get ir = some (.cells d 6 tN 6)) (hl : f9 d 0 6 = some us) (hx : E4 PR ov yF [.agg us.toArray] hp (.agg ws.toArray) hp1) (hk : m9 hp hp1) (  c : ws.length = 6) (  b : ws.all Value.oneCell' = true) {i4 : Nat} (h4 : tm.get 4 = some (.pointer (some ⟨i4, 0, none⟩))) (  a : hp1.m.get i4 = some (.cells cs 6 tN 6))
  (k:∀tm1,tm1.get 4=tm.get 4->tm1.get 5=some (.int .i64 0)->Q tm1 ⟨hp1.m.set i4 (some (.cells (fill cs 0 ws) 6 tN 6)),hp1.nx⟩):YN PR ov 29 (cdA (cdA (cdB (cdA qc4)))) tm hp Q:=by
 unfold qc4 qc3 qc2 qc1
 rw[qc_eq]
 simp only[Go.Proofs.Try.f14,bE3,cdA,cdB]
 refine .region (.op rfl rfl (xo_load h3 (ld_N' hr rfl (by omega) hl)) (.cons rfl rfl (xo_call1 y_fn y_ok (by simp only[gp];rfl) hx) (.op rfl rfl (xo_store (by simp only[gp];exact h4) (by simp only[gp];rfl) (st_N a (by omega) c b)) (.op rfl rfl xo_as0 (.nil ⟨hk.trans (keeps_set (bC4 _) (.inr (by rw[a];exact fun h=>by cases h))),k _ ?_ ?_⟩)))))
 ·simp only[gp,gn];rfl
 ·simp only[gp,gn];rfl
theorem q_R9 ( e : tm.get 7 = some (.pointer (some ⟨ir, 0, none⟩))) (hr : hp.m.get ir = some (.cells d 6 tN 6)) (hl : f9 d 0 6 = some us) (hx : E4 PR ov yF [.agg us.toArray] hp (.agg ws.toArray) hp1) (hk : m9 hp hp1) (  c : ws.length = 6) (  b : ws.all Value.oneCell' = true) {i4 : Nat} (h4 : tm.get 4 = some (.pointer (some ⟨i4, 0, none⟩))) (  a : hp1.m.get i4 = some (.cells cs 6 tN 6))
  (k:∀tm1,tm1.get 4=tm.get 4->tm1.get 5=some (.int .i64 0)->Q tm1 ⟨hp1.m.set i4 (some (.cells (fill cs 0 ws) 6 tN 6)),hp1.nx⟩):YN PR ov 29 (cdA (cdB qc4)) tm hp Q:=by
 unfold qc4 qc3 qc2 qc1
 rw[qc_eq]
 simp only[Go.Proofs.Try.f14,bE3,cdA,cdB]
 refine .region (.op rfl rfl (xo_load e (ld_N' hr rfl (by omega) hl)) (.cons rfl rfl (xo_call1 y_fn y_ok (by simp only[gp];rfl) hx) (.op rfl rfl (xo_store (by simp only[gp];exact h4) (by simp only[gp];rfl) (st_N a (by omega) c b)) (.op rfl rfl xo_as0 (.nil ⟨hk.trans (keeps_set (bC4 _) (.inr (by rw[a];exact fun h=>by cases h))),k _ ?_ ?_⟩)))))
 ·simp only[gp,gn];rfl
 ·simp only[gp,gn];rfl
end
end Go.D
