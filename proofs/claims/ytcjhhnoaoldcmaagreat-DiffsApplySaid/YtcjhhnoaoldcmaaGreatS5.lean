/- Contracts of functions of nodes, in the executor; Copy: a tree all of whose lists are its own (DiffsApply).
  Conditions: none. -/
import Derived.Test.YtcjhhnoaoldcmaaGreatS4
set_option linter.all false
set_option maxRecDepth 10000
noncomputable section
namespace Go.D
open Go Go.Xe Go.Sx
open Go.C36 (row)
variable {ov :Aa}
def ndE (t:a8)(k:Nat):Av:=[.dat k (.int t.k),.dat (k+1) (.str t.t),.dat (k+2) (.str t.y),.dat (k+3) (.lst (t.a.map Att.row)),.dat (k+4) (.str t.x),.dat (k+5) (.lst (rows t.c))]
def ndV (t:a8)(k:Nat):SV:= .agg [.int .u8 (.dat k (.int t.k)),.str (.dat (k+1) (.str t.t)),.str (.dat (k+2) (.str t.y)),.lst tAt (.dat (k+3) (.lst (t.a.map Att.row))) false,.str (.dat (k+4) (.str t.x)),.lst tN (.dat (k+5) (.lst (rows t.c))) false]
theorem sq {τ:Tau}{F:FB}{t:a8}{vs:Af}(k:Nat)(l:vs.length=6)(h:RN F t (fun q=>vs[q]?)):VD PR U0 τ F (ndV t k) (.agg vs.toArray):=by
 obtain⟨a,b,c,d,e,f,rfl⟩:=ub l;obtain⟨⟨h0,h1,h2,⟨va,h3,g⟩,h4⟩,vc,h5,j⟩:=h;cases h0;cases h1;cases h2;cases h3;cases h4;cases h5;refine .agg _ _ rfl fun i a x ha hx=>?_
 match i,ha,hx with
 |0,ha,hx=>cases ha;cases hx;exact .int _ _
 |1,ha,hx=>cases ha;cases hx;exact .str _
 |2,ha,hx=>cases ha;cases hx;exact .str _
 |3,ha,hx=>cases ha;cases hx;exact .lst _ _ _ _ g (fun h=>by grind)
 |4,ha,hx=>cases ha;cases hx;exact .str _
 |5,ha,hx=>cases ha;cases hx;exact .lst _ _ _ _ j (fun h=>by grind)
 |i+6,ha,hx=>grind
def wJ {α:Type}{l:List α}(h:l.length=1):∃a,l=[a]:=by
 match l,h with
 | [a],_=>exact⟨a,rfl⟩
structure AF (F F':FB)(hp hp':Hp):Prop where
 kp:l9 hp hp'
 fle:Fle F F'
 fh:FH F' hp'
 fz:∀i b,F' i=some b->F i=some b\/hp.nx<=i
 same:∀j,j<hp.nx->hp'.m.get j=hp.m.get j
variable {F :FB}{hp:Hp}{t o:a8}{vs us:Af}
def Gv (hk:g8 PR U0 ov cChk 34)(hF:FH F hp)(c:vs.length=6)(h:RN F t (fun q=>vs[q]?)):∃F' hp' n,A4 PR ov 34 [.agg vs.toArray] hp (.int .i64 n) hp'/\AF F F' hp hp'/\(n=0↔z7 t):=by obtain⟨v,F',hp',b,d,f,g,i,j,k,l,m,p⟩:=hk.use rfl rfl rfl rfl (es:=ndE t 0) rfl (⟨t,rfl,rfl,rfl,rfl,rfl,rfl⟩) hF (.cons (sq 0 c h) MC);obtain⟨e,rfl⟩:=wJ (l);cases p;exact⟨F',hp',e.toI U0,d,⟨f,g,i,j,k⟩,(m t ⟨rfl,rfl,rfl,rfl,rfl,rfl⟩).1⟩
def AF.new {F F':FB}{hp hp':Hp}(h:AF F F' hp hp'):New hp hp':=⟨h.kp.nx,h.same⟩
def D8 {F:FB}{hp hp':Hp}(h:FH F hp)(k:New hp hp'):FH F hp':=fun q b e=>⟨by rw[k.old q (h q b e).2];exact(h q b e).1,KO (h q b e).2 k.nx⟩
abbrev yF :Az:=30
def y_fn :PR.funcs[yF]? =some Go.Proofs.Tryz.f30:=by kernel_rfl
def h_fn :PR.funcs[34]? =some Go.Proofs.Tryz.f34:=by kernel_rfl
def h_ok :cC Go.Proofs.Tryz.f34=true:=by kernel_rfl
section
variable {hp hp':Hp}{tm:Ao}{a v:Aw}{x:Nat}
def aG {k:Int}{t t':Ay}(hx:tm.get x=some (.int .i64 k))(call:c7):xop PR call tm hp (.binOp .neq t (.tmp x) (.const (.int .i64 0)) t')=some (.bool (!decide (k=0)),hp):=by have h:cst (.int .i64 0)=true:=rfl;simp only[b9,f7,a9,hx,h,KC,v6,J3,KR,Kc,o7,W2,c9]
def FX {ov:Aa}{f:Az}{fn:Func}(hf:PR.funcs[f]? =some fn)(b:cC fn=true){ats:Array Ay}(hx:tm.get x=some a)(h:A4 PR ov f [a,.bool true] hp v hp'):XOp PR ov (.call ⟨.value (.func f),#[.tmp x,.const (.bool true)],ats⟩) tm hp v hp':=by have hc:cst (.bool true)=true:=rfl;exact h.mono fun n k=>by simp only[b9,f7,W3,a9,hx,hc,Kc,KC,eu,hf,b];exact k
end
section
variable {ov :Aa}{hp:Hp}{tm:Ao}{vs:Af}{ib ir:Nat}{Q:Ao->Hp->Prop}
def y_R0 (h0:tm.get 0=some (.agg vs.toArray))(b:vs.length=6)(k:∀tm1 hp1,hp1.nx=hp.nx+2->(∀j,j<hp.nx->hp1.m.get j=hp.m.get j)->hp1.m.get hp.nx=some (.cells (fill .e 0 vs) 6 tN 6)->hp1.m.get (hp.nx+1)=some (.cells zB 6 tN 6)->tm1.get 1=some (.pointer (some ⟨hp.nx,0,none⟩))->tm1.get 2=some (.pointer (some ⟨hp.nx+1,0,none⟩))->Q tm1 hp1):YN PR ov 9 (cdA (D2 PR yF)) tm hp Q:=by
 have e:(Value.agg vs.toArray).cells.toList=vs:=rfl;refine .region (.o (gJ h0) (.o T9 (.nil ?_)));rw[e,b];refine⟨(d9 (Lk _) (.inl (Kj _))).trans (d9 (Lk _) (.inl (Kj _))),k _ _ rfl (fun j hj=>?_) ?_ ?_ ?_ ?_⟩
 ·show((hp.m.set hp.nx _).set (hp.nx+1) _).get j=_;rw[Mw,Kg (by omega),Mw,Kg (by omega)]
 ·show((hp.m.set hp.nx _).set (hp.nx+1) _).get hp.nx=_;rw[Mw,Kg (by omega),Mw,Ki rfl]
 ·show((hp.m.set hp.nx _).set (hp.nx+1) _).get (hp.nx+1)=_;rw[Mw,Ki rfl]
 ·simp only[gp];rfl
 ·simp only[gp];rfl
variable {cs:Ao}
theorem y_R1 (h1:tm.get 1=some (.pointer (some ⟨ib,0,none⟩)))(hb:hp.m.get ib=some (.cells cs 6 tN 6))(hl:d6 cs 0 6=some vs){hp1:Hp}(hx:A4 PR ov 34 [.agg vs.toArray] hp (.int .i64 0) hp1)(hk:l9 hp hp1)(k:∀tm1,(∀x,x<3->tm1.get x=tm.get x)->Q tm1 hp1):YN PR ov 9 (.seq (cdA (cdA (cdB (D2 PR yF)))) (.cond (.tmp 5) (cdA (cdB (cdA (cdB (D2 PR yF))))) .skip)) tm hp Q:=by refine .seq (.region (.o (m8 h1 (aT hb rfl (by omega) hl)) (.c (iR h_fn h_ok (by simp only[gp];rfl) hx) (.o (aG (by simp only[gp];rfl)) (.nil ⟨hk,.condF (qX (by simp only[gp];rfl)) (.skip (k _ fun x hx=>?_))⟩)))));simp only[gp];grind
theorem y_R3 (h1:tm.get 1=some (.pointer (some ⟨ib,0,none⟩)))(hb:hp.m.get ib=some (.cells cs 6 tN 6))(hl:d6 cs 0 6=some vs){hp1:Hp}{ws:Af}(hx:A4 PR ov pF [.agg vs.toArray,.bool true] hp (.agg ws.toArray) hp1)(hk:l9 hp hp1)(e:ws.length=6)(b:ws.all Value.oneCell'=true)(h2:tm.get 2=some (.pointer (some ⟨ir,0,none⟩))){d:Ao}(hr:hp1.m.get ir=some (.cells d 6 tN 6))(k:∀tm1,(∀x,x<3->tm1.get x=tm.get x)->Q tm1 ⟨hp1.m.set ir (some (.cells (fill d 0 ws) 6 tN 6)),hp1.nx⟩):YN PR ov 9 (cdA (cdB (cdB (D2 PR yF)))) tm hp Q:=by refine .region (.o (m8 h1 (aT hb rfl (by omega) hl)) (.c (FX p_fn p_ok (by simp only[gp];rfl) hx) (.o (G6 (by simp only[gp];exact h2) (by simp only[gp];rfl) (dw hr (by omega) e b)) (.nil ⟨hk.trans (d9 (Kj _) (.inr (by grind))),k _ fun x hx=>?_⟩))));simp only[gp,gn];grind
end
def bZ {vs:Af}(b:vs.length=6):d6 (fill .e 0 vs) 0 6=some vs:=r0 b
theorem Gy (B:Go.Xe.isT (ov yF)=false)(hk:g8 PR U0 ov cChk 34){t:a8}(A:z7 t)(hp:qB ov pF [.bool true] t):qB ov yF [] t:=by
 intro hp0 vs F0 e f hF;obtain⟨ws,hp',hp2,⟨S,nw,K,tb,nd,lt⟩,l,d,w,G⟩:=uM (hp:=hp0) (args:=[.agg vs.toArray]) (c:=D2 PR yF) y_fn rfl rfl rfl B rfl (R:=fun ws hp'=>∃S,New hp0 hp'/\ws.length=6/\TB hp'.m.get S t (fun q=>ws[q]?)/\S.Nodup/\ ∀j∈S,hp0.nx<=j/\j<hp'.nx) (by
  refine .seq (y_R0 rfl e fun tm1 hp1 C r s gr a1 a2=>?_);have u:New hp0 hp1:=⟨by omega,r⟩
  obtain⟨N,hp2,n,M,cc,hn⟩:=Gv hk (D8 hF u) e f;have k:=hn.2 A;subst k;have g:=cc.new;have D:=g.nx;refine .seq (y_R1 a1 s (bZ e) M cc.kp fun I z=>?_);obtain⟨b,ws,S,l,d,h,y,H,p⟩:=hp hp2 vs F0 e f (D8 (D8 hF u) g);have i:b.m.get (hp0.nx+1)=some (.cells zB 6 tN 6):=by rw[d.old _ (by omega),g.old _ (by omega)];exact gr
  have E:=d.nx;have st:∀j,j≠hp0.nx+1->(b.m.set (hp0.nx+1) (some (.cells (fill zB 0 ws) 6 tN 6))).get j=b.m.get j:=fun j hj=>by rw[Mw,Kg hj]
  refine .seq (y_R3 (by rw[z 1 (by omega)];exact a1) (by rw[g.old _ (by omega)];exact s) (bZ e) l d.keeps h (y.one h) (by grind) i fun J L=>.ret (⟨ws,_,fill zB 0 ws,by rw[L 2 (by omega),z 2 (by omega)];exact a2,by rw[Mw,Ki rfl],r0 h,S,⟨by grind,fun j hj=>?_⟩,h,y.frame fun j hj=>st j (by grind),H,fun j hj=>?_⟩))
  ·show(b.m.set (hp0.nx+1) _).get j=_;rw[st j (by omega),d.old j (by omega),g.old j (by omega),r j hj]
  ·have:=p j hj;exact⟨by omega,this.2⟩)
 exact⟨hp2,ws,S,l,nw.leave d w G,K,tb.leave w,nd,fun j hj=>by grind⟩
end Go.D
