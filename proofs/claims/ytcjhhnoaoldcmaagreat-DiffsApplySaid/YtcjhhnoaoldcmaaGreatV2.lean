/- The reference's children, in the executor: its regions (DiffsApply).
  Conditions: none. -/
import Derived.Test.YtcjhhnoaoldcmaaGreatSW
set_option linter.all false
set_option maxRecDepth 10000
noncomputable section
namespace Go.D
open Go Go.Xe Go.Sx Go.RowKit
open Go.C36 (row)
abbrev chF :Az:=73
abbrev tRs :Ay:=51
def ch_fn :PR.funcs[chF]? =some Go.Proofs.Tryz.f73:=by kernel_rfl
abbrev cc0 :Code:=D2 PR chF
abbrev cc3 :Code:=cdB (cdB (cdB cc0))
abbrev ccX :Code:=cdA (cdB (cdA cc3))
abbrev ccY :Code:=cdB (cdB (cdA cc3))
abbrev cc4 :Code:=cdB cc3
abbrev ccZ :Code:=cdA (cdB (cdA cc4))
abbrev cc5 :Code:=cdB cc4
def cc0_c :cc0= .seq (cdA cc0) (.seq (cdA (cdB cc0)) (.seq (cdA (cdB (cdB cc0))) (.seq (.seq (cdA (cdA cc3)) (.cond (.tmp 14) ccX ccY)) (.seq (.seq (cdA (cdA cc4)) (.cond (.tmp 48) ccZ .skip)) (.seq (cdA cc5) (cdB cc5)))))):=rfl
def Iq (i o:Nat):i7 PR tRs (.pointer (some ⟨i,o,none⟩)) 0=some (.pointer (some ⟨i,o+0,none⟩)):=by kernel_rfl
def tD (i o:Nat):i7 PR tRs (.pointer (some ⟨i,o,none⟩)) 4=some (.pointer (some ⟨i,o+4,none⟩)):=by kernel_rfl
def yL (i o:Nat):i7 PR tRs (.pointer (some ⟨i,o,none⟩)) 5=some (.pointer (some ⟨i,o+5,none⟩)):=by kernel_rfl
def fa_R6 (i o:Nat):i7 PR tRs (.pointer (some ⟨i,o,none⟩)) 6=some (.pointer (some ⟨i,o+6,none⟩)):=by kernel_rfl
section
variable {ov :Aa}{hp hp1 hp2 hp':Hp}{tm:Ao}{Q:Ao->Hp->Prop}{us vs ws:Af}{b2 b3 b4 b7:Nat}{F:FB}
variable {x y:Nat}{u v:Aw}
def Gb {t:Nat}{w:Aw}(hx:tm.get x=some v)(hy:tm.get y=some u)(h:i9 PR hp t v none (some u) none=some (w,hp))(call:c7):xop PR call tm hp (.slice t (.tmp x) none (some (.tmp y)) none)=some (w,hp):=by simp only[b9,f7,cY,a9,hx,hy,KC,h]
def oz {t:Nat}{w:Aw}(hx:tm.get x=some v)(hy:tm.get y=some u)(h:i9 PR hp t v (some u) none none=some (w,hp))(call:c7):xop PR call tm hp (.slice t (.tmp x) (some (.tmp y)) none none)=some (w,hp):=by simp only[b9,f7,cY,a9,hx,hy,KC,h]
def Aj {a:Array Ay}(ht:a.toList=[tS,tS])(hy:tm.get y=some u)(h:∀call:c7,l8 PR hp .append [tS,tS] [.slice none 0 0,u]=some (v,hp')):XOp PR ov (.call ⟨.builtin .append,#[.const (.slice none 0 0),.tmp y],a⟩) tm hp v hp':= .of fun n=>by have hc:cst (.slice none 0 0)=true:=rfl;simp only[b9,f7,W3,a9,hc,Kc,hy,KC,ht,h (exec PR ov n)]
def xT {w:Aw}{a:Array Ay}(ht:a.toList=[tS,tS])(hx:tm.get x=some w)(hy:tm.get y=some u)(h:∀call:c7,l8 PR hp .append [tS,tS] [w,u]=some (v,hp')):XOp PR ov (.call ⟨.builtin .append,#[.tmp x,.tmp y],a⟩) tm hp v hp':= .of fun n=>by simp only[b9,f7,W3,a9,hx,hy,KC,ht,h (exec PR ov n)]
def C_R0 (h0:tm.get 0=some (.agg us.toArray))(h1:tm.get 1=some (.agg vs.toArray))(a:us.length=6)(h12:vs.length=12)(k:∀tm1 hp1,hp1.nx=hp.nx+3->(∀j,j<hp.nx->hp1.m.get j=hp.m.get j)->hp1.m.get hp.nx=some (.cells (fill .e 0 us) 6 tN 6)->hp1.m.get (hp.nx+1)=some (.cells (fill .e 0 vs) 12 tRs 12)->hp1.m.get (hp.nx+2)=some (.cells zB 6 tN 6)->tm1.get 2=some (.pointer (some ⟨hp.nx,0,none⟩))->tm1.get 3=some (.pointer (some ⟨hp.nx+1,0,none⟩))->tm1.get 4=some (.pointer (some ⟨hp.nx+2,0,none⟩))->Q tm1 hp1):YN PR ov 76 (cdA cc0) tm hp Q:=by
 have e:(Value.agg us.toArray).cells.toList=us:=rfl;have e':(Value.agg vs.toArray).cells.toList=vs:=rfl;unfold cc0;refine .region (.o (gJ h0) (.o (gJ (by simp only[gp];exact h1)) (.o T9 (.o (D5 rfl) (.nil ?_)))));rw[e,e',a,h12];refine⟨((d9 (Lk _) (.inl (Kj _))).trans (d9 (Lk _) (.inl (Kj _)))).trans (d9 (Lk _) (.inl (Kj _))),k _ _ rfl (fun j hj=>?_) ?_ ?_ ?_ ?_ ?_ ?_⟩
 ·show(((hp.m.set hp.nx _).set (hp.nx+1) _).set (hp.nx+1+1) _).get j=_;rw[Mw,Kg (by omega),Mw,Kg (by omega),Mw,Kg (by omega)]
 ·show(((hp.m.set hp.nx _).set (hp.nx+1) _).set (hp.nx+1+1) _).get hp.nx=_;rw[Mw,Kg (by omega),Mw,Kg (by omega),Mw,Ki rfl]
 ·show(((hp.m.set hp.nx _).set (hp.nx+1) _).set (hp.nx+1+1) _).get (hp.nx+1)=_;rw[Mw,Kg (by omega),Mw,Ki rfl]
 ·show(((hp.m.set hp.nx _).set (hp.nx+1) _).set (hp.nx+1+1) _).get (hp.nx+1+1)=_;rw[Mw,Ki rfl]
 all_goals (simp only[gp];rfl)
theorem C_R1 (h2:tm.get 2=some (.pointer (some ⟨b2,0,none⟩)))(hb:hp.m.get b2=some (.cells (fill .e 0 us) 6 tN 6))(a:us[5]? =some v)(k:∀tm1,(∀x,x<6->tm1.get x=tm.get x)->tm1.get 6=some v->Q tm1 hp):YN PR ov 76 (cdA (cdB cc0)) tm hp Q:=by
 unfold cc0;refine .region (.o (jQ h2) (.o (qL (h:=((hO hb rfl (by omega)).trans (d7.trans a)))) (.o qA (.nil ⟨.refl _,k _ (fun x hx=>?_) ?_⟩))))
 ·simp only[gp];grind
 ·simp only[gp];rfl
theorem C_R2 (h3:tm.get 3=some (.pointer (some ⟨b3,0,none⟩)))(hb:hp.m.get b3=some (.cells (fill .e 0 vs) 12 tRs 12))(h12:vs.length=12)(h1:(vs.drop 6).all Value.oneCell'=true)(k:∀tm1,(∀x,x<7->tm1.get x=tm.get x)->tm1.get 7=some (.pointer (some ⟨hp.nx,0,none⟩))->Q tm1 ⟨(hp.m.set hp.nx (some (.cells zB 6 tN 6))).set hp.nx (some (.cells (fill zB 0 (vs.drop 6)) 6 tN 6)),hp.nx+1⟩):YN PR ov 76 (cdA (cdB (cdB cc0))) tm hp Q:=by
 have a:(vs.drop 6).length=6:=by grind
 unfold cc0;refine .region (.o (l7 fa_R6 h3) (.o (qL (h:=(rl yl zV hb rfl (by omega) (DX h12)))) (.o T9 (.o (qS (h:=(dw (by rw[Mw,Ki rfl]) (by omega) a h1))) (.nil ⟨?_,k _ (fun x hx=>?_) ?_⟩)))))
 ·exact(d9 (Lk _) (.inl (Kj _))).trans (d9 (Kj _) (.inr (by rw[Mw,Ki rfl];exact fun h=>by grind)))
 ·simp only[gp,gn];grind
 ·simp only[gp,gn];rfl
theorem C_R3 {w:Int}(h3:tm.get 3=some (.pointer (some ⟨b3,0,none⟩)))(hb:hp.m.get b3=some (.cells (fill .e 0 vs) 12 tRs 12))(hw:vs[0]? =some (.int .i64 w))(k:∀tm1,(∀x,x<12->tm1.get x=tm.get x)->tm1.get 14=some (.bool (decide (w=5)))->Q tm1 hp):YN PR ov 76 (cdA (cdA cc3)) tm hp Q:=by
 unfold cc3 cc0;refine .region (.o (l7 Iq h3) (.o (qL (h:=((B7 U2 hb rfl (by omega)).trans (d7.trans hw)))) (.o (eD (by simp only[gp];rfl)) (.nil ⟨.refl _,k _ (fun x hx=>?_) ?_⟩))))
 ·simp only[gp];grind
 ·simp only[gp];rfl
variable {d:Ao}
theorem C_R4 {e:Int}(h7:tm.get 7=some (.pointer (some ⟨b7,0,none⟩)))(hb:hp.m.get b7=some (.cells d 6 tN 6))(hl:d6 d 0 6=some ws)(hx:A4 PR ov 15 [.agg ws.toArray] hp (.int .i64 e) hp1)(hk:l9 hp hp1)(k:∀tm1,(∀x,x<15->tm1.get x=tm.get x)->tm1.get 17=some (.bool (!decide (e=0)))->Q tm1 hp1):YN PR ov 76 (cdA ccX) tm hp Q:=by
 unfold ccX cc3 cc0;refine .region (.o (m8 h7 (li hb (by omega) hl)) (.c (B3 rfl (by simp only[gp];rfl) hx) (.o (aG (by simp only[gp];rfl)) (.nil ⟨hk,k _ (fun x hx=>?_) ?_⟩))))
 ·simp only[gp];grind
 ·simp only[gp];rfl
theorem C_R5 (h2:tm.get 2=some (.pointer (some ⟨b2,0,none⟩)))(hb:hp.m.get b2=some (.cells (fill .e 0 us) 6 tN 6))(a:us.length=6)(h1:us.all Value.oneCell'=true)(h4:tm.get 4=some (.pointer (some ⟨b4,0,none⟩)))(hb4:hp.m.get b4=some (.cells d 6 tN 6))(k:∀tm1,tm1.get 4=tm.get 4->tm1.get 5=some (.int .i64 14)->Q tm1 ⟨hp.m.set b4 (some (.cells (fill d 0 us) 6 tN 6)),hp.nx⟩):YR ov 76 (cdA (cdB ccX)) tm hp Q:=by
 unfold ccX cc3 cc0;refine .seq (.region (.o (m8 h2 (li hb (by omega) (bZ a))) (.o (G6 (by simp only[gp];exact h4) (by simp only[gp];rfl) (dw hb4 (by omega) a h1)) (.o (D5 rfl) (.nil ⟨d9 (Kj _) (.inr (by grind)),.ret (k _ ?_ ?_)⟩)))))
 ·simp only[gp,gn];grind
 ·simp only[gp,gn];rfl
variable {l:Nat}{q:Ar}
theorem C_R6 {i:Int}{c:Nat}(b:tm.get 6=some (.slice q l c))(h3:tm.get 3=some (.pointer (some ⟨b3,0,none⟩)))(hb:hp.m.get b3=some (.cells (fill .e 0 vs) 12 tRs 12))(hi:vs[4]? =some (.int .i64 i))(k:∀tm1,(∀x,x<19->tm1.get x=tm.get x)->tm1.get 28=some (.bool (decide (i<0\/(l:Int)<=i)))->Q tm1 hp):YN PR ov 76 (cdA (cdA ccY)) tm hp Q:=by
 unfold ccY cc3 cc0;refine .region (.o (l7 tD h3) (.o (qL (h:=((B7 U2 hb rfl (by omega)).trans (d7.trans hi)))) (.o (jR (by simp only[gp];rfl)) (.o qM ?_))));by_cases a:i<0
 ·rw[decide_eq_true a];refine .s (.s (.s (.s (.s (.o (K0 (v:=undef) (by simp only[gp];rfl) (fun h=>by grind)) (.nil ⟨.refl _,k _ (fun x hx=>?_) ?_⟩))))))
  ·simp only[gp];iterate 10 rw[Kg (by omega)]
  ·simp only[gp];simp[a]
 ·rw[Ll a];refine .w (l7 tD (by simp only[gp];exact h3)) (.w (qL (h:=((B7 U2 hb rfl (by omega)).trans (d7.trans hi)))) (.w (i5 (by simp only[gp];exact b)) (.w (gL (by simp only[gp];rfl) rfl) (.w (FY (by simp only[gp];rfl) (by simp only[gp];rfl)) (.o (K0 (by simp only[gp];rfl) (fun _=>by simp only[gp];rfl)) (.nil ⟨.refl _,k _ (fun x hx=>?_) ?_⟩))))))
  ·simp only[gp];iterate 10 rw[Kg (by omega)]
  ·simp only[gp];simp[a]
theorem C_R7 (h2:tm.get 2=some (.pointer (some ⟨b2,0,none⟩)))(hb:hp.m.get b2=some (.cells (fill .e 0 us) 6 tN 6))(a:us.length=6)(h1:us.all Value.oneCell'=true)(h4:tm.get 4=some (.pointer (some ⟨b4,0,none⟩)))(hb4:hp.m.get b4=some (.cells d 6 tN 6))(k:∀tm1,tm1.get 4=tm.get 4->tm1.get 5=some (.int .i64 11)->Q tm1 ⟨hp.m.set b4 (some (.cells (fill d 0 us) 6 tN 6)),hp.nx⟩):YR ov 76 (cdA (cdB (cdA ccY))) tm hp Q:=by
 unfold ccY cc3 cc0;refine .seq (.region (.o (m8 h2 (li hb (by omega) (bZ a))) (.o (G6 (by simp only[gp];exact h4) (by simp only[gp];rfl) (dw hb4 (by omega) a h1)) (.o (D5 rfl) (.nil ⟨d9 (Kj _) (.inr (by grind)),.ret (k _ ?_ ?_)⟩)))))
 ·simp only[gp,gn];grind
 ·simp only[gp,gn];rfl
theorem C_R8 {i c ic oc f n:Nat}{b:Blk}{dc:Ao}(g:tm.get 6=some (.slice (some ⟨ic,oc,none⟩) l c))(h3:tm.get 3=some (.pointer (some ⟨b3,0,none⟩)))(h7:tm.get 7=some (.pointer (some ⟨b7,0,none⟩)))(hb:hp.m.get b3=some (.cells (fill .e 0 vs) 12 tRs 12))(hi:vs[4]? =some (.int .i64 i))(j:i<l)(hc:hp.m.get ic=some b)(hr:rdC b=some (dc,f,n))(hN:oc+i*6+6<=f)(hl:d6 dc (oc+i*6) 6=some ws)(a:ws.length=6)(h1:ws.all Value.oneCell'=true)(hb7:hp.m.get b7=some (.cells d 6 tN 6))(k:∀tm1,(∀x,x<19->tm1.get x=tm.get x)->Q tm1 ⟨hp.m.set b7 (some (.cells (fill d 0 ws) 6 tN 6)),hp.nx⟩):YN PR ov 76 (cdA (cdB ccY)) tm hp Q:=by unfold ccY cc3 cc0;refine .region (.o (i5 g) (.o (l7 tD (by simp only[gp];exact h3)) (.o (qL (h:=((B7 U2 hb rfl (by omega)).trans (d7.trans hi)))) (.o (cX (by simp only[gp];rfl) (by simp only[gp];rfl) (DJ (by omega) (by omega))) (.o (qL (h:=(aT hc hr (hN) (hl)))) (.o (G6 (by simp only[gp];exact h7) (by simp only[gp];rfl) (dw hb7 (by omega) a h1)) (.nil ⟨d9 (Kj _) (.inr (by grind)),k _ (fun x hx=>?_)⟩)))))));simp only[gp,gn];grind
theorem Ct {w:Int}(h3:tm.get 3=some (.pointer (some ⟨b3,0,none⟩)))(hb:hp.m.get b3=some (.cells (fill .e 0 vs) 12 tRs 12))(hw:vs[0]? =some (.int .i64 w))(k:∀tm1,(∀x,x<46->tm1.get x=tm.get x)->tm1.get 48=some (.bool (decide (4<w)))->Q tm1 hp):YN PR ov 76 (cdA (cdA cc4)) tm hp Q:=by
 unfold cc4 cc3 cc0;refine .region (.o (l7 Iq h3) (.o (qL (h:=((B7 U2 hb rfl (by omega)).trans (d7.trans hw)))) (.o (FZ (by simp only[gp];rfl)) (.nil ⟨.refl _,k _ (fun x hx=>?_) ?_⟩))))
 ·simp only[gp];grind
 ·simp only[gp];rfl
theorem HS {i:Int}{c:Nat}(b:tm.get 6=some (.slice q l c))(h3:tm.get 3=some (.pointer (some ⟨b3,0,none⟩)))(hb:hp.m.get b3=some (.cells (fill .e 0 vs) 12 tRs 12))(hi:vs[5]? =some (.int .i64 i))(k:∀tm1,(∀x,x<49->tm1.get x=tm.get x)->tm1.get 58=some (.bool (decide (i<0\/(l:Int)<i)))->Q tm1 hp):YN PR ov 76 (cdA (cdA ccZ)) tm hp Q:=by
 unfold ccZ cc4 cc3 cc0;refine .region (.o (l7 yL h3) (.o (qL (h:=((B7 U2 hb rfl (by omega)).trans (d7.trans hi)))) (.o (jR (by simp only[gp];rfl)) (.o qM ?_))));by_cases a:i<0
 ·rw[decide_eq_true a];refine .s (.s (.s (.s (.s (.o (K0 (v:=undef) (by simp only[gp];rfl) (fun h=>by grind)) (.nil ⟨.refl _,k _ (fun x hx=>?_) ?_⟩))))))
  ·simp only[gp];iterate 10 rw[Kg (by omega)]
  ·simp only[gp];simp[a]
 ·rw[Ll a];refine .w (l7 yL (by simp only[gp];exact h3)) (.w (qL (h:=((B7 U2 hb rfl (by omega)).trans (d7.trans hi)))) (.w (i5 (by simp only[gp];exact b)) (.w (gL (by simp only[gp];rfl) rfl) (.w (IG (by simp only[gp];rfl) (by simp only[gp];rfl)) (.o (K0 (by simp only[gp];rfl) (fun _=>by simp only[gp];rfl)) (.nil ⟨.refl _,k _ (fun x hx=>?_) ?_⟩))))))
  ·simp only[gp];iterate 10 rw[Kg (by omega)]
  ·simp only[gp];simp[a]
theorem C_R12 (h2:tm.get 2=some (.pointer (some ⟨b2,0,none⟩)))(hb:hp.m.get b2=some (.cells (fill .e 0 us) 6 tN 6))(a:us.length=6)(h1:us.all Value.oneCell'=true)(h4:tm.get 4=some (.pointer (some ⟨b4,0,none⟩)))(hb4:hp.m.get b4=some (.cells d 6 tN 6))(k:∀tm1,tm1.get 4=tm.get 4->tm1.get 5=some (.int .i64 1)->Q tm1 ⟨hp.m.set b4 (some (.cells (fill d 0 us) 6 tN 6)),hp.nx⟩):YR ov 76 (cdA (cdB (cdA ccZ))) tm hp Q:=by
 unfold ccZ cc4 cc3 cc0;refine .seq (.region (.o (m8 h2 (li hb (by omega) (bZ a))) (.o (G6 (by simp only[gp];exact h4) (by simp only[gp];rfl) (dw hb4 (by omega) a h1)) (.o (D5 rfl) (.nil ⟨d9 (Kj _) (.inr (by grind)),.ret (k _ ?_ ?_)⟩)))))
 ·simp only[gp,gn];grind
 ·simp only[gp,gn];rfl
theorem C_R14 {c:Nat}{f:Ao}{a:Af}(j:tm.get 6=some (.slice q l c))(h2:tm.get 2=some (.pointer (some ⟨b2,0,none⟩)))(hb:hp.m.get b2=some (.cells (fill .e 0 us) 6 tN 6))(n:d6 (fill (fill .e 0 us) 5 [.slice q l c]) 0 6=some a)(i:a.length=6)(h1:a.all Value.oneCell'=true)(h4:tm.get 4=some (.pointer (some ⟨b4,0,none⟩)))(hb4:hp.m.get b4=some (.cells f 6 tN 6))(g:b2≠b4)(k:∀tm1,tm1.get 4=tm.get 4->tm1.get 5=some (.int .i64 0)->Q tm1 ⟨(hp.m.set b2 (some (.cells (fill (fill .e 0 us) 5 [.slice q l c]) 6 tN 6))).set b4 (some (.cells (fill f 0 a) 6 tN 6)),hp.nx⟩):YR ov 76 (.seq (cdA cc5) (cdB cc5)) tm hp Q:=by
 unfold cc5 cc4 cc3 cc0;have k1:l9 hp ⟨hp.m.set b2 (some (.cells (fill (fill .e 0 us) 5 [.slice q l c]) 6 tN 6)),hp.nx⟩:=d9 (Kj _) (.inr (by grind));refine .seq (.region (.o (i5 j) (.o (jQ (by simp only[gp];exact h2)) (.o (qS (h:=(BZ rfl hb (by omega) rfl rfl))) (.nil ⟨k1,?_⟩)))));have b:(hp.m.set b2 (some (Blk.cells (fill (fill .e 0 us) 5 [.slice q l c]) 6 tN 6))).get b4=some (.cells f 6 tN 6):=by rw[Mw,Kg (fun e=>g e.symm)];exact hb4
 refine .seq (.region (.o (m8 (by simp only[gp,gn];exact h2) (aT (by rw[Mw,Ki rfl]) rfl (by omega) n)) (.o (G6 (by simp only[gp,gn];exact h4) (by simp only[gp];rfl) (dw b (by omega) i h1)) (.o (D5 rfl) (.nil ⟨d9 (Kj _) (.inr (by grind)),.ret (k _ ?_ ?_)⟩)))))
 ·simp only[gp,gn];grind
 ·simp only[gp,gn];rfl
end
end Go.D
