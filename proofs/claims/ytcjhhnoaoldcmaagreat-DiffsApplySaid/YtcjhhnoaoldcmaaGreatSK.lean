/- move, in the executor: its regions (DiffsApply).
  Conditions: none. -/
import Derived.Test.YtcjhhnoaoldcmaaGreatSI
set_option linter.all false
set_option maxRecDepth 10000
noncomputable section
namespace Go.D
open Go Go.Xe Go.Sx Go.RowKit
open Go.C36 (row)
abbrev mvF :Az:=67
def Je :D2 PR mvF=Go.Proofs.Tryz.f67.body.getD .skip:=by kernel_rfl
def mv_fn :PR.funcs[mvF]? =some Go.Proofs.Tryz.f67:=by kernel_rfl
abbrev m0 :Code:=D2 PR mvF
abbrev m2 :Code:=cdB (cdB m0)
abbrev mX :Code:=cdA (cdB (cdA m2))
abbrev mY :Code:=cdB (cdB (cdA m2))
abbrev m3 :Code:=cdB m2
abbrev m4 :Code:=cdB m3
abbrev m5 :Code:=cdB m4
abbrev mZ :Code:=cdA (cdB (cdA m5))
abbrev m6 :Code:=cdB m5
section
variable {ov :Aa}{hp:Hp}{tm:Ao}{Q:Ao->Hp->Prop}{vs:Af}{b3 b5 il ol Nl:Nat}{csl:Ao}
theorem M_R0 (h1:tm.get 1=some (.agg vs.toArray))(h12:vs.length=12)(k:∀tm1,(∀x,x<3->tm1.get x=tm.get x)->tm1.get 3=some (.pointer (some ⟨hp.nx,0,none⟩))->Q tm1 ⟨hp.m.set hp.nx (some (.cells (fill .e 0 vs) 12 tSp 12)),hp.nx+1⟩):YN PR ov 83 (cdA m0) tm hp Q:=by
 have e:(Value.agg vs.toArray).cells.toList=vs:=rfl;unfold m0;refine .region (.o (gJ h1) (.o (D5 rfl) (.nil ?_)));rw[e,h12];refine⟨d9 (Lk _) (.inl (Kj _)),k _ (fun x hx=>?_) ?_⟩
 ·simp only[gp];grind
 ·simp only[gp];rfl
theorem M_R1 (h3:tm.get 3=some (.pointer (some ⟨b3,0,none⟩)))(hb:hp.m.get b3=some (.cells (fill .e 0 vs) 12 tSp 12))(h12:vs.length=12)(h1:(vs.drop 6).all Value.oneCell'=true)(k:∀tm1,(∀x,x<5->tm1.get x=tm.get x)->tm1.get 5=some (.pointer (some ⟨hp.nx,0,none⟩))->Q tm1 ⟨(hp.m.set hp.nx (some (.cells zB 6 tN 6))).set hp.nx (some (.cells (fill zB 0 (vs.drop 6)) 6 tN 6)),hp.nx+1⟩):YN PR ov 83 (cdA (cdB m0)) tm hp Q:=by
 have a:(vs.drop 6).length=6:=by grind
 have hl:d6 (fill .e 0 vs) (0+6) 6=some (vs.drop 6):=by have:=i8 (vs:=vs.drop 6) (fun q hq=>by rw[Kz,d7]);grind
 unfold m0;refine .region (.o (l7 Dr h3) (.o (qL (h:=(rl yl zV hb rfl (by omega) hl))) (.o T9 (.o (qS (h:=(dw (by rw[Mw,Ki rfl]) (by omega) a h1))) (.nil ⟨?_,k _ (fun x hx=>?_) ?_⟩)))))
 ·exact(d9 (Lk _) (.inl (Kj _))).trans (d9 (Kj _) (.inr (by rw[Mw,Ki rfl];exact fun h=>by grind)))
 ·simp only[gp,gn];grind
 ·simp only[gp,gn];rfl
theorem M_R2 {w:Int}(h3:tm.get 3=some (.pointer (some ⟨b3,0,none⟩)))(hb:hp.m.get b3=some (.cells (fill .e 0 vs) 12 tSp 12))(hw:vs[0]? =some (.int .u8 w))(k:∀tm1,(∀x,x<10->tm1.get x=tm.get x)->tm1.get 12=some (.bool (decide (w=5)))->Q tm1 hp):YN PR ov 83 (cdA (cdA m2)) tm hp Q:=by
 unfold m2 m0;refine .region (.o (l7 pq h3) (.o (qL (h:=((B7 wq hb rfl (by omega)).trans (d7.trans hw)))) (.o (eD (by simp only[gp];rfl)) (.nil ⟨.refl _,k _ (fun x hx=>?_) ?_⟩))))
 ·simp only[gp];grind
 ·simp only[gp];rfl
variable {d:Ao}{ws:Af}
theorem M_R3 {hp1:Hp}{e:Int}(h5:tm.get 5=some (.pointer (some ⟨b5,0,none⟩)))(hb:hp.m.get b5=some (.cells d 6 tN 6))(hl:d6 d 0 6=some ws)(hx:A4 PR ov 34 [.agg ws.toArray] hp (.int .i64 e) hp1)(hk:l9 hp hp1)(k:∀tm1,(∀x,x<6->tm1.get x=tm.get x)->tm1.get 6=some (.int .i64 e)->Q tm1 hp1):YN PR ov 83 (cdA (cdA mX)) tm hp Q:=by
 unfold mX m2 m0;refine .region (.o (m8 h5 (li hb (by omega) hl)) (.c (B3 rfl (by simp only[gp];rfl) hx) (.o qA (.nil ⟨hk,k _ (fun x hx=>?_) ?_⟩))))
 ·simp only[gp];grind
 ·simp only[gp];rfl
theorem M_R4 {e:Int}(a:tm.get 6=some (.int .i64 e))(k:∀tm1,(∀x,x<15->tm1.get x=tm.get x)->tm1.get 16=some (.bool (!decide (e=0)))->Q tm1 hp):YN PR ov 83 (cdA (cdB (cdA mX))) tm hp Q:=by
 unfold mX m2 m0;refine .region (.o (i5 a) (.o (aG (by simp only[gp];rfl)) (.nil ⟨.refl _,k _ (fun x hx=>?_) ?_⟩)))
 ·simp only[gp];grind
 ·simp only[gp];rfl
def M_R5 {e:Aw}(a:tm.get 6=some e)(k:∀tm1,tm1.get 4=some e->Q tm1 hp):YR ov 83 (cdA (cdB (cdB (cdA mX)))) tm hp Q:=by unfold mX m2 m0;exact .seq (.region (.o (i5 a) (.o qA (.nil ⟨.refl _,.ret (k _ (by simp only[gp];rfl))⟩))))
theorem M_R6 {b:Ao}{us:Af}{hp1:Hp}(h5:tm.get 5=some (.pointer (some ⟨b5,0,none⟩)))(hb:hp.m.get b5=some (.cells d 6 tN 6))(hl:d6 d 0 6=some ws)(hx:A4 PR ov yF [.agg ws.toArray] hp (.agg us.toArray) hp1)(hk:l9 hp hp1)(a:hp1.m.get b5=some (.cells b 6 tN 6))(e:us.length=6)(h1:us.all Value.oneCell'=true)(k:∀tm1,(∀x,x<6->tm1.get x=tm.get x)->Q tm1 ⟨hp1.m.set b5 (some (.cells (fill b 0 us) 6 tN 6)),hp1.nx⟩):YN PR ov 83 (cdB mX) tm hp Q:=by unfold mX m2 m0;refine .region (.o (m8 h5 (li hb (by omega) hl)) (.c (B3 rfl (by simp only[gp];rfl) hx) (.o (G6 (by simp only[gp];exact h5) (by simp only[gp];rfl) (dw a (by omega) e h1)) (.nil ⟨hk.trans (d9 (Kj _) (.inr (by grind))),k _ (fun x hx=>?_)⟩))));simp only[gp,gn];grind
variable {l:Nat}{q:Ar}
def M_R7 {i:Int}{c:Nat}(h0:tm.get 0=some (.pointer (some ⟨il,ol,none⟩)))(h3:tm.get 3=some (.pointer (some ⟨b3,0,none⟩)))(hb:hp.m.get b3=some (.cells (fill .e 0 vs) 12 tSp 12))(hi:vs[4]? =some (.int .i64 i))(hw:hp.m.get il=some (.cells csl Nl tN 6))(hN:ol+6<=Nl)(hn:csl.get (ol+5)=some (.slice q l c))(k:∀tm1,(∀x,x<20->tm1.get x=tm.get x)->tm1.get 32=some (.bool (decide (i<0\/(l:Int)<=i)))->Q tm1 ⟨hp.m,hp.nx+13⟩):YN PR ov 83 (cdA (cdA mY)) tm hp Q:=by
 unfold mY m2 m0;refine .drawG rfl ?_;refine .o (l7 tE h3) (.r (qL (h:=((B7 U2 hb rfl (by omega)).trans (d7.trans hi)))) (.o (jR (by simp only[gp];rfl)) (.o qM ?_)));by_cases a:i<0
 ·rw[decide_eq_true a];refine MH rfl (by simp[e9,q9,gp]) (MH rfl (by simp[e9,q9,gp]) (MH rfl (by simp[e9,q9,gp]) (MH rfl (by simp[e9,q9,gp]) (MH rfl (by simp[e9,q9,gp]) (MH rfl (by simp[e9,q9,gp]) (MH rfl (by simp[e9,q9,gp]) (MH rfl (by simp[e9,q9,gp]) ?_)))))));refine .o (K0 (v:=undef) (by simp only[gp];rfl) (fun h=>by cases h)) (.nil ⟨by kernel_rfl,by kernel_rfl,⟨Nat.le_add_right _ _,fun r hr h=>h⟩,k _ (fun x hx=>?_) ?_⟩)
  ·simp only[gp];iterate 13 rw[Kg (by omega)]
  ·simp only[gp];simp[a]
 ·rw[Ll a];refine YG.k0W rfl (by simp[e9,q9,gp]) rfl (l7 tE (by simp only[gp];exact h3)) (YG.k1W rfl (by simp[e9,q9,gp]) rfl (qL (h:=((B7 U2 hb rfl (by omega)).trans (d7.trans hi)))) (YG.k0W rfl (by simp[e9,q9,gp]) rfl (i5 (by simp only[gp];exact h0)) (YG.k0W rfl (by simp[e9,q9,gp]) rfl qN ?_)));refine YG.k0W rfl (by simp[e9,q9,gp]) rfl qD (YG.k1W rfl (by simp[e9,q9,gp]) rfl (qL (h:=((hO hw rfl (by omega)).trans hn))) (YG.k1W rfl (by simp[e9,q9,gp]) rfl (gL (by simp only[gp];rfl) rfl) (YG.k0W rfl (by simp[e9,q9,gp]) rfl (FY (by simp only[gp];rfl) (by simp only[gp];rfl)) ?_)));refine .o (K0 (by simp only[gp];rfl) (fun _=>by simp only[gp];rfl)) (.nil ⟨by kernel_rfl,by kernel_rfl,⟨Nat.le_add_right _ _,fun r hr h=>h⟩,k _ (fun x hx=>?_) ?_⟩)
  ·simp only[gp];iterate 13 rw[Kg (by omega)]
  ·simp only[gp];simp[a]
def M_R8 (k:∀tm1,tm1.get 4=some (.int .i64 11)->Q tm1 hp):YR ov 83 (cdA (cdB (cdA mY))) tm hp Q:=by unfold mY m2 m0;exact .seq (.region (.o (D5 rfl) (.nil ⟨.refl _,.ret (k _ (by simp only[gp];rfl))⟩)))
theorem M_R9 {i:Nat}{c ic oc b:Nat}{cc:Ao}(h0:tm.get 0=some (.pointer (some ⟨il,ol,none⟩)))(h3:tm.get 3=some (.pointer (some ⟨b3,0,none⟩)))(h5:tm.get 5=some (.pointer (some ⟨b5,0,none⟩)))(hb:hp.m.get b3=some (.cells (fill .e 0 vs) 12 tSp 12))(hi:vs[4]? =some (.int .i64 i))(hw:hp.m.get il=some (.cells csl Nl tN 6))(hN:ol+6<=Nl)(hn:csl.get (ol+5)=some (.slice (some ⟨ic,oc,none⟩) l c))(g:i<l)(hc:hp.m.get ic=some (.cells cc b tN 6))(a:oc+i*6+6<=b)(hl:d6 cc (oc+i*6) 6=some ws)(f:ws.length=6)(h1:ws.all Value.oneCell'=true)(hb5:hp.m.get b5=some (.cells d 6 tN 6))(k:∀tm1,(∀x,x<20->tm1.get x=tm.get x)->Q tm1 ⟨hp.m.set b5 (some (.cells (fill d 0 ws) 6 tN 6)),hp.nx+9⟩):YN PR ov 83 (cdB mY) tm hp Q:=by
 unfold mY m2 m0;refine .drawG rfl ?_;refine .o (i5 h0) (.o qN (.o qD (.r (qL (h:=((hO hw rfl (by omega)).trans hn))) ?_)));refine .o (l7 tE (by simp only[gp];exact h3)) (.r (qL (h:=((B7 U2 hb rfl (by omega)).trans (d7.trans hi)))) (.o (cX (by simp only[gp];rfl) (by simp only[gp];rfl) (DJ (by omega) (by omega))) (.r (qL (h:=(aT hc rfl (a) (hl)))) ?_)));refine .k3 rfl rfl rfl rfl (qu (by simp only[gp];exact h5) (by simp only[gp];rfl) (dw hb5 (by omega) f h1)) (.nil ⟨by kernel_rfl,by kernel_rfl,?_,k _ fun x hx=>?_⟩)
 ·exact d9 (Nat.le_add_right _ _) (.inr (by grind))
 ·simp only[gp,gn];iterate 8 rw[Kg (by omega)]
theorem M_R10 {v:Aw}(h0:tm.get 0=some (.pointer (some ⟨il,ol,none⟩)))(hw:hp.m.get il=some (.cells csl Nl tN 6))(hN:ol+6<=Nl)(hn:csl.get (ol+5)=some v)(k:∀tm1,(∀x,x<7->tm1.get x=tm.get x)->tm1.get 7=some v->Q tm1 hp):YN PR ov 83 (cdA m3) tm hp Q:=by
 unfold m3 m2 m0;refine .region (.o (i5 h0) (.o qN (.o qD (.o (qL (h:=((hO hw rfl (by omega)).trans hn))) (.o qA (.nil ⟨.refl _,k _ (fun x hx=>?_) ?_⟩))))))
 ·simp only[gp];grind
 ·simp only[gp];rfl
theorem HX {w:Int}(h3:tm.get 3=some (.pointer (some ⟨b3,0,none⟩)))(hb:hp.m.get b3=some (.cells (fill .e 0 vs) 12 tSp 12))(hw:vs[0]? =some (.int .u8 w))(k:∀tm1,(∀x,x<45->tm1.get x=tm.get x)->tm1.get 47=some (.bool (!decide (w=5)))->Q tm1 hp):YN PR ov 83 (cdA (cdA m4)) tm hp Q:=by
 unfold m4 m3 m2 m0;refine .region (.o (l7 pq h3) (.o (qL (h:=((B7 wq hb rfl (by omega)).trans (d7.trans hw)))) (.o (Ga (by simp only[gp];rfl)) (.nil ⟨.refl _,k _ (fun x hx=>?_) ?_⟩))))
 ·simp only[gp];grind
 ·simp only[gp];rfl
theorem Cw {w:Int}(h3:tm.get 3=some (.pointer (some ⟨b3,0,none⟩)))(hb:hp.m.get b3=some (.cells (fill .e 0 vs) 12 tSp 12))(hw:vs[0]? =some (.int .u8 w))(k:∀tm1,(∀x,x<59->tm1.get x=tm.get x)->tm1.get 61=some (.bool (!decide (w=4)))->Q tm1 hp):YN PR ov 83 (cdA (cdA m5)) tm hp Q:=by
 unfold m5 m4 m3 m2 m0;refine .region (.o (l7 pq h3) (.o (qL (h:=((B7 wq hb rfl (by omega)).trans (d7.trans hw)))) (.o (Ga (by simp only[gp];rfl)) (.nil ⟨.refl _,k _ (fun x hx=>?_) ?_⟩))))
 ·simp only[gp];grind
 ·simp only[gp];rfl
def IG {x y t t':Nat}{a m:Int}(hx:tm.get x=some (.int .i64 a))(hy:tm.get y=some (.int .i64 m))(call:c7):xop PR call tm hp (.binOp .gtr t (.tmp x) (.tmp y) t')=some (.bool (decide (m<a)),hp):=by simp only[b9,f7,a9,hx,hy,KC,v6,J3,KR,Kc,o7,W2,c9]
theorem HY {i:Int}{c:Nat}(h7:tm.get 7=some (.slice q l c))(h3:tm.get 3=some (.pointer (some ⟨b3,0,none⟩)))(hb:hp.m.get b3=some (.cells (fill .e 0 vs) 12 tSp 12))(hi:vs[5]? =some (.int .i64 i))(k:∀tm1,(∀x,x<62->tm1.get x=tm.get x)->tm1.get 71=some (.bool (decide (i<0\/(l:Int)<i)))->Q tm1 hp):YN PR ov 83 (cdA (cdA mZ)) tm hp Q:=by
 unfold mZ m5 m4 m3 m2 m0;refine .region (.o (l7 Dq h3) (.o (qL (h:=((B7 U2 hb rfl (by omega)).trans (d7.trans hi)))) (.o (jR (by simp only[gp];rfl)) (.o qM ?_))));by_cases a:i<0
 ·rw[decide_eq_true a];refine .s (.s (.s (.s (.s (.o (K0 (v:=undef) (by simp only[gp];rfl) (fun h=>by grind)) (.nil ⟨.refl _,k _ (fun x hx=>?_) ?_⟩))))))
  ·simp only[gp];iterate 10 rw[Kg (by omega)]
  ·simp only[gp];simp[a]
 ·rw[Ll a];refine .w (l7 Dq (by simp only[gp];exact h3)) (.w (qL (h:=((B7 U2 hb rfl (by omega)).trans (d7.trans hi)))) (.w (i5 (by simp only[gp];exact h7)) (.w (gL (by simp only[gp];rfl) rfl) (.w (IG (by simp only[gp];rfl) (by simp only[gp];rfl)) (.o (K0 (by simp only[gp];rfl) (fun _=>by simp only[gp];rfl)) (.nil ⟨.refl _,k _ (fun x hx=>?_) ?_⟩))))))
  ·simp only[gp];iterate 10 rw[Kg (by omega)]
  ·simp only[gp];simp[a]
def M_R15 (k:∀tm1,tm1.get 4=some (.int .i64 1)->Q tm1 hp):YR ov 83 (cdA (cdB (cdA mZ))) tm hp Q:=by unfold mZ m5 m4 m3 m2 m0;exact .seq (.region (.o (D5 rfl) (.nil ⟨.refl _,.ret (k _ (by simp only[gp];rfl))⟩)))
theorem HZ {c:Nat}(h0:tm.get 0=some (.pointer (some ⟨il,ol,none⟩)))(h7:tm.get 7=some (.slice q l c))(hw:hp.m.get il=some (.cells csl Nl tN 6))(hN:ol+6<=Nl)(k:∀tm1,tm1.get 4=some (.int .i64 0)->Q tm1 ⟨hp.m.set il (some (.cells (fill csl (ol+5) [.slice q l c]) Nl tN 6)),hp.nx⟩):YR ov 83 m6 tm hp Q:=by unfold m6 m5 m4 m3 m2 m0;refine .seq (.region (.o (i5 h0) (.o (i5 (by simp only[gp];exact h7)) (.o qN (.o qD (.o (qS (h:=(BZ rfl hw (by omega) rfl rfl))) (.nil ⟨d9 (Kj _) (.inr (by grind)),.seq (.region (.o (D5 rfl) (.nil ⟨.refl _,.ret (k _ (by simp only[gp];rfl))⟩)))⟩)))))))
end
end Go.D
