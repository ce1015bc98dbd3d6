/- Copy: a tree whose lists are its own.
  Conditions: none. -/
import Derived.Test.YtcjhhnoaoldcmaaMI
set_option linter.unusedVariables false
set_option linter.unusedSimpArgs false
set_option maxRecDepth 10000
noncomputable section
namespace Go.D
open Go Go.Xe Go.Sx
open Go.C36 (row)
abbrev yF :FuncId:=26
theorem yc_eq :f5 PR yF=Go.Proofs.Try.f26.body.getD .skip:=by kernel_rfl
theorem y_fn :PR.funcs[yF]? =some Go.Proofs.Try.f26:=by kernel_rfl
theorem y_ok :O7 Go.Proofs.Try.f26=true:=by kernel_rfl
theorem h_fn :PR.funcs[34]? =some Go.Proofs.Try.f34:=by kernel_rfl
theorem h_ok :O7 Go.Proofs.Try.f34=true:=by kernel_rfl
section
variable {hp hp':Hp}{tm:T Value}{a v:Value}{x:Nat}
theorem xo_ne0 {k:Int}{t t':TypeId}(hx:tm.get x=some (.int .i64 k))(call:c8):xop PR call tm hp (.binOp .neq t (.tmp x) (.const (.int .i64 0)) t')=some (.bool (!decide (k=0)),hp):=by
 have h:cst (.int .i64 0)=true:=rfl
 simp only[a9,d9,a8,hx,h,bE3,T8,ae4,bF7,bB8,t8,ah2,d8]
theorem xo_callT {ov:FuncId->Option TypeId}{f:FuncId}{fn:Func}(hf:PR.funcs[f]? =some fn)(b:O7 fn=true){ats:Array TypeId}(hx:tm.get x=some a)(h:E4 PR ov f [a,.bool true] hp v hp'):XOp PR ov (.call ⟨.value (.func f),#[.tmp x,.const (.bool true)],ats⟩) tm hp v hp':=by
 have hc:cst (.bool true)=true:=rfl
 exact h.mono fun n k=>by simp only[a9,d9,U2,a8,hx,hc,bB8,bE3,ar3,hf,b];exact k
end
section
variable {ov :FuncId->Option TypeId}{hp:Hp}{tm:T Value}{vs:List Value}{ib ir:Nat}{Q:T Value->Hp->Prop}
theorem y_c0 :f5 PR yF= .seq (cdA (f5 PR yF)) (.seq (.seq (cdA (cdA (cdB (f5 PR yF)))) (.cond (.tmp 5) (cdA (cdB (cdA (cdB (f5 PR yF))))) .skip)) (.seq (cdA (cdB (cdB (f5 PR yF)))) .ret)):=by kernel_rfl
theorem y_R0 (h0 : tm.get 0 = some (.agg vs.toArray)) ( b : vs.length = 6)
  (k:∀tm1 hp1,hp1.nx=hp.nx+2->(∀j,j<hp.nx->hp1.m.get j=hp.m.get j)->hp1.m.get hp.nx=some (.cells (fill .e 0 vs) 6 tN 6)->hp1.m.get (hp.nx+1)=some (.cells zB 6 tN 6)->tm1.get 1=some (.pointer (some ⟨hp.nx,0,none⟩))->tm1.get 2=some (.pointer (some ⟨hp.nx+1,0,none⟩))->Q tm1 hp1):YN PR ov 9 (cdA (f5 PR yF)) tm hp Q:=by
 rw[yc_eq]
 simp only[Go.Proofs.Try.f26,bE3,cdA,cdB]
 have e:(Value.agg vs.toArray).cells.toList=vs:=by simp[Value.cells]
 refine .region (.op rfl rfl (xo_box h0) (.op rfl rfl xo_alloc (.nil ?_)))
 rw[e,b]
 refine⟨(keeps_set (bH4 _) (.inl (bC4 _))).trans (keeps_set (hp:=⟨_,hp.nx+1⟩) (bH4 _) (.inl (bC4 _))),k _ _ rfl (fun j hj=>?_) ?_ ?_ ?_ ?_⟩
 ·show((hp.m.set hp.nx _).set (hp.nx+1) _).get j=_
  rw[T.get_set,bC1 (by omega),T.get_set,bC1 (by omega)]
 ·show((hp.m.set hp.nx _).set (hp.nx+1) _).get hp.nx=_
  rw[T.get_set,bC1 (by omega),T.get_set,bC3 rfl]
 ·show((hp.m.set hp.nx _).set (hp.nx+1) _).get (hp.nx+1)=_
  rw[T.get_set,bC3 rfl]
 ·simp only[gp];rfl
 ·simp only[gp];rfl
variable {cs:T Value}
theorem y_R1 (h1 : tm.get 1 = some (.pointer (some ⟨ib, 0, none⟩)))  (hb : hp.m.get ib = some (.cells cs 6 tN 6)) (hl : f9 cs 0 6 = some vs) {hp1 : Hp} (hx : E4 PR ov 34 [.agg vs.toArray] hp (.int .i64 0) hp1) (hk : m9 hp hp1)
  (k:∀tm1,(∀x,x<3->tm1.get x=tm.get x)->Q tm1 hp1):YN PR ov 9 (.seq (cdA (cdA (cdB (f5 PR yF)))) (.cond (.tmp 5) (cdA (cdB (cdA (cdB (f5 PR yF))))) .skip)) tm hp Q:=by
 rw[yc_eq]
 simp only[Go.Proofs.Try.f26,bE3,cdA,cdB]
 refine .seq (.region (.op rfl rfl (xo_load h1 (ld_N' hb rfl (by omega) hl)) (.cons rfl rfl (xo_call1 h_fn h_ok (by simp only[gp];rfl) hx) (.op rfl rfl (xo_ne0 (by simp only[gp];rfl)) (.nil ⟨hk,.condF (ev_t (by simp only[gp];rfl)) (.skip (k _ fun x hx=>?_))⟩)))))
 simp only[gp]
 rw[bC1 (by omega),bC1 (by omega),bC1 (by omega)]
theorem y_R3 (h1 : tm.get 1 = some (.pointer (some ⟨ib, 0, none⟩)))  (hb : hp.m.get ib = some (.cells cs 6 tN 6)) (hl : f9 cs 0 6 = some vs) {hp1 : Hp} { b : List Value} (hx : E4 PR ov pF [.agg vs.toArray, .bool true] hp (.agg  b.toArray) hp1) (hk : m9 hp hp1) (  e :  b.length = 6) (  c :  b.all Value.oneCell' = true) (h2 : tm.get 2 = some (.pointer (some ⟨ir, 0, none⟩))) {d : T Value} (hr : hp1.m.get ir = some (.cells d 6 tN 6))
  (k:∀tm1,(∀x,x<3->tm1.get x=tm.get x)->Q tm1 ⟨hp1.m.set ir (some (.cells (fill d 0 b) 6 tN 6)),hp1.nx⟩):YN PR ov 9 (cdA (cdB (cdB (f5 PR yF)))) tm hp Q:=by
 rw[yc_eq]
 simp only[Go.Proofs.Try.f26,bE3,cdA,cdB]
 refine .region (.op rfl rfl (xo_load h1 (ld_N' hb rfl (by omega) hl)) (.cons rfl rfl (xo_callT p_fn p_ok (by simp only[gp];rfl) hx) (.op rfl rfl (xo_store (by simp only[gp];exact h2) (by simp only[gp];rfl) (st_N hr (by omega) e c)) (.nil ⟨hk.trans (keeps_set (bC4 _) (.inr (by rw[hr];exact fun h=>by cases h))),k _ fun x hx=>?_⟩))))
 simp only[gp,gn]
 rw[bC1 (by omega),bC1 (by omega)]
end
variable {ov :FuncId->Option TypeId}
def CyAt (ov:FuncId->Option TypeId)(t:Tree):Prop:=∀(hp:Hp) (vs:List Value) (F0:FB),vs.length=6->RN F0 t (fun q=>vs[q]?)->FH F0 hp->
 ∃(hp':Hp) (ws:List Value) (F':FB) (S:List Nat),E4 PR ov yF [.agg vs.toArray] hp (.agg ws.toArray) hp'/\m9 hp hp'/\(∀j,j<hp.nx->hp'.m.get j=hp.m.get j)/\Fle F0 F'/\FH F' hp'/\(∀q b,F' q=some b->q∉S/\(F0 q=some b\/hp.nx<=q))/\ws.length=6/\TA F' hp'.m.get S t (fun q=>ws[q]?)/\S.Nodup/\ ∀j∈S,hp.nx<=j/\j<hp'.nx
theorem loadN_0 {vs:List Value}(b:vs.length=6):f9 (fill .e 0 vs) 0 6=some vs:=loadN_fill b
theorem copy_ok ( O : Go.Xe.isT (ov yF) = false) (hk : d6 PR U0 ov cChk 34) {t : Tree} ( N : Valid t) (hp : CpAt ov t) : CyAt ov t := by
 intro hp0 vs F0 l p hF
 have body : YR ov 9 (f5 PR yF) (fill .e 0 [.agg vs.toArray]) hp0 fun tm' hp' => ∃ ( f : List Value) (F' : FB) (S : List Nat) (d : T Value), tm'.get 2 = some (.pointer (some ⟨hp0.nx + 1, 0, none⟩)) ∧ hp'.m.get (hp0.nx + 1) = some (.cells d 6 tN 6) ∧ f9 d 0 6 = some  f ∧ (∀ j, j < hp0.nx → hp'.m.get j = hp0.m.get j) ∧ Fle F0 F' ∧ FH F' hp' ∧
   (∀q b,F' q=some b->q∉S/\(F0 q=some b\/hp0.nx<=q))/\f.length=6/\TA F' hp'.m.get S t (fun q=>f[q]?)/\S.Nodup/\ ∀j∈S,hp0.nx<=j/\j<hp'.nx:=by
  rw[y_c0]
  refine .seq (y_R0 (by rw[A0];rfl) l fun tm1 hp1 R E F gr a1 a2=>?_)
  have A:FH F0 hp1:=fun q b h=>⟨by rw[E q (hF q b h).2];exact(hF q b h).1,by have:=(hF q b h).2;omega⟩
  obtain⟨L,hp2,n,xc,i,hn⟩:=chk_use hk A l p
  have B:n=0:=hn.2 N
  subst B
  have U:=i.kp.nx
  refine .seq (y_R1 a1 F (loadN_0 l) xc i.kp fun X D=>?_)
  obtain⟨hp3,f,F3,S,C,s,k,u,G,I,w,J,W,r⟩:=hp hp2 vs L l (p.mono i.fle) i.fh
  have y:hp3.m.get (hp0.nx+1)=some (.cells zB 6 tN 6):=by rw[k _ (by omega),i.same _ (by omega)];exact gr
  have V:=s.nx
  have o:∀q b,F3 q=some b->q≠hp0.nx+1/\(F0 q=some b\/hp0.nx<=q):=fun q b h=>by
   rcases(I q b h).2 with h|h
   ·rcases i.fz q b h with h|h
    ·exact⟨by have:=(hF q b h).2;omega,.inl h⟩
    ·exact⟨by omega,.inr (by omega)⟩
   ·exact⟨by omega,.inr (by omega)⟩
  have st:∀j,j≠hp0.nx+1->(hp3.m.set (hp0.nx+1) (some (.cells (fill zB 0 f) 6 tN 6))).get j=hp3.m.get j:=fun j hj=>by rw[T.get_set,bC1 hj]
  refine .seq (y_R3 (by rw[D 1 (by omega)];exact a1) (by rw[i.same _ (by omega)];exact F) (loadN_0 l) C s w (J.one w) (by rw[D 2 (by omega)];exact a2) y fun Y x3=>.ret ?_)
  refine⟨f,F3,S,fill zB 0 f,by rw[x3 2 (by omega),D 2 (by omega)];exact a2,by show(hp3.m.set (hp0.nx+1) _).get (hp0.nx+1)=_;rw[T.get_set,bC3 rfl],loadN_fill w,fun j hj=>?_,fun q b h=>u _ _ (i.fle _ _ h),fun q b h=>⟨?_,(G q b h).2⟩,fun q b h=>⟨(I q b h).1,(o q b h).2⟩,w,J.frame fun j hj=>st j (by have:=(r j hj).1;omega),W,fun j hj=>?_⟩
  ·show(hp3.m.set (hp0.nx+1) _).get j=_
   rw[st j (by omega),k j (by omega),i.same j (by omega),E j hj]
  ·show(hp3.m.set (hp0.nx+1) _).get q=_
   rw[st q (o q b h).1]
   exact(G q b h).1
  ·have:=r j hj
   exact⟨by omega,this.2⟩
 obtain⟨tm',hp1,x,f,F1,S,M,t4,gr,hl,K,fl,fh,fz,Z,ta,nd,lt⟩:=body
 obtain⟨hp2,C,s,k,u⟩:=ad9 (ov:=ov) (args:=[.agg vs.toArray]) (c:=f5 PR yF) y_fn (by kernel_rfl) O (show XK PR ov (1+(Go.Proofs.Try.f26.ntmps-1)) _ _ _ _ _ _ from(show 1+(Go.Proofs.Try.f26.ntmps-1)=9 from by kernel_rfl)▸x) (.inr rfl) (vs:=[.agg f.toArray]) (fun h2 same=>by
  have e:Go.Proofs.Try.f26.results.toList=[.cell 2 tN]:=by kernel_rfl
  rw[e]
  have g:h2.m.get (hp0.nx+1)=some (.cells M 6 tN 6):=by rw[same _ (by rw[gr];exact fun h=>by cases h)];exact gr
  have:=ld_N' (m:=h2.m) (nx:=h2.nx) g rfl (by omega) hl
  simp only[t9,Q6,t4,bE3]
  rw[show A8 PR h2 tN (.pointer (some ⟨hp0.nx+1,0,none⟩))=some (.agg f.toArray)from this])
 obtain⟨H,k1,k2,k3,P⟩:=fh_body hF fh fl u s k
 refine⟨hp2,f,H,S,C,u,fun j hj=>?_,k1,k3,fun q b h=>fz q b (k2 q b h),Z,(ta.arrs P).frame fun j hj=>?_,nd,fun j hj=>by rw[s];exact lt j hj⟩
 ·by_cases e:hp1.m.get j=some .dfr
  ·rw[K j hj]at e
   rw[e]
   exact u.dfr j hj e
  ·rw[k j e];exact K j hj
 ·obtain⟨c,n,z,e⟩:=ta.cells j hj
  exact k j (by rw[e];exact fun h=>by cases h)
end Go.D
