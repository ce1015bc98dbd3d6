/- carry, in the executor: its regions ahead of the node's step, and what is done at the node (DiffsApply).
  Conditions: none. -/
import Derived.Test.YtcjhhnoaoldcmaaGreatSN
set_option linter.all false
set_option maxRecDepth 10000
noncomputable section
namespace Go.D
open Go Go.Xe Go.Sx Go.RowKit
open Go.C36 (row)
abbrev y0 :Code:=D2 PR yyF
abbrev yP :Code:=cdA (cdB y0)
abbrev y2 :Code:=cdB (cdB y0)
abbrev yB :Code:=cdB y2
abbrev yb0 :Code:=cdA (cdA yB)
abbrev y7 :Code:=cdB (cdB yb0)
abbrev yR :Code:=cdA (cdB y7)
abbrev yE :Code:=cdB (cdB y7)
abbrev yM :Code:=cdB (cdB (cdB (cdB (cdB (cdB R5)))))
def y0_c :y0= .seq (cdA y0) (.seq yP (.seq (cdA y2) yB)):=by kernel_rfl
def yP_c :yP= .seq (cdA yP) (.seq (cdA (cdB yP)) (.cond (.tmp 15) (cdA (cdB (cdB yP))) .skip)):=by kernel_rfl
def yB_c :yB= .seq (.block 0 yb0) (.seq (.seq (cdA (cdA (cdB yB))) (.block 1 R5)) (cdB (cdB yB))):=by kernel_rfl
section
variable {ov :Aa}{hp hp' hp1:Hp}{tm:Ao}{Q:Ao->Hp->Prop}{F:FB}{s:Stp}{vs:Af}{n:a8}{b3 il ol Nl:Nat}{csl:Ao}{S1:Ah}
def JC {t e t' x:Nat}{a:Ar}(ht:PR.underlying t=some (.pointer e))(hx:tm.get x=some (.pointer a))(call:c7):xop PR call tm hp (.binOp .eql t (.tmp x) (.const (.pointer none)) t')=some (.bool a.isNone,hp):=by
 have h:cst (.pointer none)=true:=rfl;have h1:J3 PR .eql t (.pointer a) (.pointer none)=some (.bool a.isNone):=by simp only[J3,I1,Kc];unfold xeq;simp only[ht];cases a<;>rfl
 simp only[b9,f7,a9,hx,h,KC,Kc,v6,h1,c9]
def JH {t t' x y:Nat}{a b:Bool}(ht:PR.underlying t=some .bool)(hx:tm.get x=some (.bool a))(hy:tm.get y=some (.bool b))(call:c7):xop PR call tm hp (.binOp .neq t (.tmp x) (.tmp y) t')=some (.bool (!(a==b)),hp):=by
 have h1:J3 PR .neq t (.bool a) (.bool b)=some (.bool (!(a==b))):=by simp only[J3,I1,Kc];simp only[xeq,ht]
 simp only[b9,f7,a9,hx,hy,KC,v6,h1,c9]
theorem DV (h12:vs.length=12):d6 (fill .e 0 vs) 0 12=some vs:=by have:=i8 (vs:=vs) (fun q hq=>by rw[Ks,d7]);grind
theorem DX (h12:vs.length=12):d6 (fill .e 0 vs) (0+6) 6=some (vs.drop 6):=by
 have a:(vs.drop 6).length=6:=by grind
 have:=i8 (vs:=vs.drop 6) (fun q hq=>by rw[Kz,d7]);grind
theorem Y_R0 (h1:tm.get 1=some (.agg vs.toArray))(h12:vs.length=12)(k:∀tm1,(∀x,x<3->tm1.get x=tm.get x)->tm1.get 3=some (.pointer (some ⟨hp.nx,0,none⟩))->Q tm1 ⟨hp.m.set hp.nx (some (.cells (fill .e 0 vs) 12 tSp 12)),hp.nx+1⟩):YN PR ov 141 (cdA y0) tm hp Q:=by
 have e:(Value.agg vs.toArray).cells.toList=vs:=rfl;unfold y0;refine .region (.o (gJ h1) (.o (D5 rfl) (.nil ?_)));rw[e,h12];refine⟨d9 (Lk _) (.inl (Kj _)),k _ (fun x hx=>?_) ?_⟩
 ·simp only[gp];grind
 ·simp only[gp];rfl
variable {e:Int}
theorem Y_R1 (h3:tm.get 3=some (.pointer (some ⟨b3,0,none⟩)))(hb:hp.m.get b3=some (.cells (fill .e 0 vs) 12 tSp 12))(h12:vs.length=12)(hx:A4 PR ov 61 [.agg vs.toArray] hp (.int .i64 e) hp1)(hk:l9 hp hp1)(k:∀tm1,(∀x,x<5->tm1.get x=tm.get x)->tm1.get 5=some (.int .i64 e)->Q tm1 hp1):YN PR ov 141 (cdA yP) tm hp Q:=by
 unfold yP y0;refine .region (.o (m8 h3 (rl ym vn hb rfl (by omega) (DV h12))) (.c (B3 rfl (by simp only[gp];rfl) hx) (.o qA (.nil ⟨hk,k _ (fun x hx=>?_) ?_⟩))))
 ·simp only[gp];grind
 ·simp only[gp];rfl
theorem Y_R2 (h5:tm.get 5=some (.int .i64 e))(k:∀tm1,(∀x,x<14->tm1.get x=tm.get x)->tm1.get 15=some (.bool (!decide (e=0)))->Q tm1 hp):YN PR ov 141 (cdA (cdB yP)) tm hp Q:=by
 unfold yP y0;refine .region (.o (i5 h5) (.o (aG (by simp only[gp];rfl)) (.nil ⟨.refl _,k _ (fun x hx=>?_) ?_⟩)))
 ·simp only[gp];grind
 ·simp only[gp];rfl
def Y_R3 {e:Aw}(h5:tm.get 5=some e)(k:∀tm1,tm1.get 4=some e->Q tm1 hp):YR ov 141 (cdA (cdB (cdB yP))) tm hp Q:=by unfold yP y0;exact .seq (.region (.o (i5 h5) (.o qA (.nil ⟨.refl _,.ret (k _ (by simp only[gp];rfl))⟩))))
theorem Y_R4 {a b r:Aw}(h0:tm.get 0=some a)(h3:tm.get 3=some (.pointer (some ⟨b3,0,none⟩)))(hb:hp.m.get b3=some (.cells (fill .e 0 vs) 12 tSp 12))(d:vs[1]? =some b)(hx:A4 PR ov fF [a,b] hp r hp1)(hk:l9 hp hp1)(k:∀tm1,(∀x,x<6->tm1.get x=tm.get x)->tm1.get 6=some r->Q tm1 hp1):YN PR ov 141 (cdA y2) tm hp Q:=by
 unfold y2 y0;refine .region (.o (i5 h0) (.o (l7 fa_S1 (by simp only[gp];exact h3)) (.o (qL (h:=((B7 ag_Is hb rfl (by omega)).trans (d7.trans d)))) (.c (bH rfl (by simp only[gp];rfl) (by simp only[gp];rfl) hx) (.o qA (.nil ⟨hk,k _ (fun x hx=>?_) ?_⟩))))))
 ·simp only[gp];grind
 ·simp only[gp];rfl
theorem Y_R5 {a:Ar}(b:tm.get 6=some (.pointer a))(k:∀tm1,(∀x,x<21->tm1.get x=tm.get x)->tm1.get 21=some (.bool a.isNone)->Q tm1 hp):YN PR ov 141 (cdA yb0) tm hp Q:=by
 obtain⟨e,ht⟩:∃e,PR.underlying 43=some (.pointer e):=⟨tN,rfl⟩
 unfold yb0 yB y2 y0;refine .region (.o (i5 b) (.o (JC ht (by simp only[gp];rfl)) (.o qA (.nil ⟨.refl _,k _ (fun x hx=>?_) ?_⟩))))
 ·simp only[gp];grind
 ·simp only[gp];rfl
def Y_R6 (k:∀tm1,tm1.get 4=some (.int .i64 11)->Q tm1 hp):YR ov 141 (cdA (cdB yb0)) tm hp Q:=by unfold yb0 yB y2 y0;exact .seq (.region (.o (D5 rfl) (.nil ⟨.refl _,.ret (k _ (by simp only[gp];rfl))⟩)))
theorem Y_R7 (C:Cx F s vs n b3 il ol Nl csl S1 tm hp)(k:∀tm1,(∀x,x<24->tm1.get x=tm.get x)->tm1.get 24=some (.bool (decide (s.w=7)))->Q tm1 hp):YN PR ov 141 (cdA y7) tm hp Q:=by
 unfold y7 yb0 yB y2 y0;refine .region (.o (l7 pq C.t3) (.o (qL (h:=((B7 wq C.hb rfl (by omega)).trans (d7.trans C.hs.2.1)))) (.o (eD (by simp only[gp];rfl)) (.o qA (.nil ⟨.refl _,k _ (fun x hx=>?_) ?_⟩)))))
 ·simp only[gp];grind
 ·simp only[gp];rfl
theorem Y_R8 (C:Cx F s vs n b3 il ol Nl csl S1 tm hp)(hx:A4 PR ov 34 [.agg (vs.drop 6).toArray] hp (.int .i64 e) hp1)(hk:l9 hp hp1)(k:∀tm1,(∀x,x<7->tm1.get x=tm.get x)->tm1.get 7=some (.int .i64 e)->Q tm1 hp1):YN PR ov 141 (cdA (cdA yR)) tm hp Q:=by
 unfold yR y7 yb0 yB y2 y0;refine .region (.o (l7 Dr C.t3) (.o (qL (h:=(rl yl zV C.hb rfl (by omega) (DX C.hs.1)))) (.c (B3 rfl (by simp only[gp];rfl) hx) (.o qA (.nil ⟨hk,k _ (fun x hx=>?_) ?_⟩)))))
 ·simp only[gp];grind
 ·simp only[gp];rfl
theorem Y_R9 (h7:tm.get 7=some (.int .i64 e))(k:∀tm1,(∀x,x<31->tm1.get x=tm.get x)->tm1.get 32=some (.bool (!decide (e=0)))->Q tm1 hp):YN PR ov 141 (cdA (cdB (cdA yR))) tm hp Q:=by
 unfold yR y7 yb0 yB y2 y0;refine .region (.o (i5 h7) (.o (aG (by simp only[gp];rfl)) (.nil ⟨.refl _,k _ (fun x hx=>?_) ?_⟩)))
 ·simp only[gp];grind
 ·simp only[gp];rfl
def Y_R10 {e:Aw}(h7:tm.get 7=some e)(k:∀tm1,tm1.get 4=some e->Q tm1 hp):YR ov 141 (cdA (cdB (cdB (cdA yR)))) tm hp Q:=by unfold yR y7 yb0 yB y2 y0;exact .seq (.region (.o (i5 h7) (.o qA (.nil ⟨.refl _,.ret (k _ (by simp only[gp];rfl))⟩))))
theorem Y_R11 {us:Af}(C:Cx F s vs n b3 il ol Nl csl S1 tm hp)(hx:A4 PR ov yF [.agg (vs.drop 6).toArray] hp (.agg us.toArray) hp1)(hk:l9 hp hp1)(hw:hp1.m.get il=some (.cells csl Nl tN 6))(a:us.length=6)(h1:us.all Value.oneCell'=true)(k:∀tm1,Q tm1 ⟨hp1.m.set il (some (.cells (fill csl ol us) Nl tN 6)),hp1.nx⟩):YN PR ov 141 (cdA (cdB yR)) tm hp Q:=by have:=C.hN;unfold yR y7 yb0 yB y2 y0;refine .region (.o (i5 C.t6) (.o (l7 Dr (by simp only[gp];exact C.t3)) (.o (qL (h:=(rl yl zV C.hb rfl (by omega) (DX C.hs.1)))) (.c (B3 rfl (by simp only[gp];rfl) hx) (.o qN (.o (qS (h:=(dw hw (by omega) a h1))) (.nil ⟨hk.trans (d9 (Kj _) (.inr (by grind))),k _⟩)))))))
def Y_R12 (k:∀tm1,tm1.get 4=some (.int .i64 0)->Q tm1 hp):YR ov 141 (cdB (cdB yR)) tm hp Q:=by unfold yR y7 yb0 yB y2 y0;exact .seq (.region (.o (D5 rfl) (.nil ⟨.refl _,.ret (k _ (by simp only[gp];rfl))⟩)))
def Ig (C:Cx F s vs n b3 il ol Nl csl S1 tm hp)(k:∀tm1,(∀x,x<39->tm1.get x=tm.get x)->tm1.get 39=some (.bool (!(decide (s.w=3)==decide (n.k=2))))->Q tm1 ⟨hp.m,hp.nx+10⟩):YN PR ov 141 (cdA yE) tm hp Q:=by
 have:=C.hN;have a:csl.get (ol+0)=some (.int .u8 n.k):=C.tb.kind;unfold yE y7 yb0 yB y2 y0;refine .drawG rfl ?_;refine .o (l7 pq C.t3) (.r (qL (h:=((B7 wq C.hb rfl (by omega)).trans (d7.trans C.hs.2.1)))) (.o (eD (by simp only[gp];rfl)) (.o (i5 (by simp only[gp];exact C.t6)) (.o qN ?_))));refine .o (l7 fa_N0 (by simp only[gp];rfl)) (.r (qL (h:=((B7 wq C.hw rfl (by omega)).trans a))) (.o (eD (by simp only[gp];rfl)) (.o (JH rfl (by simp only[gp];rfl) (by simp only[gp];rfl)) (.o qA (.nil ⟨by kernel_rfl,by kernel_rfl,⟨Nat.le_add_right _ _,fun r hr h=>h⟩,k _ (fun x hx=>?_) ?_⟩)))))
 ·simp only[gp];iterate 10 rw[Kg (by omega)]
 ·simp only[gp];rfl
def Y_R14 (k:∀tm1,tm1.get 4=some (.int .i64 1)->Q tm1 hp):YR ov 141 (cdA (cdB yE)) tm hp Q:=by unfold yE y7 yb0 yB y2 y0;exact .seq (.region (.o (D5 rfl) (.nil ⟨.refl _,.ret (k _ (by simp only[gp];rfl))⟩)))
theorem Y_R15 (C:Cx F s vs n b3 il ol Nl csl S1 tm hp)(k:∀tm1,(∀x,x<49->tm1.get x=tm.get x)->tm1.get 50=some (.int .u8 s.w)->Q tm1 hp):YN PR ov 141 (cdA (cdA (cdB yB))) tm hp Q:=by
 unfold yB y2 y0;refine .region (.o (l7 pq C.t3) (.o (qL (h:=((B7 wq C.hb rfl (by omega)).trans (d7.trans C.hs.2.1)))) (.nil ⟨.refl _,k _ (fun x hx=>?_) ?_⟩)))
 ·simp only[gp];grind
 ·simp only[gp];rfl
theorem lW {w:Int}(a:tm.get 50=some (.int .u8 w))(k:∀tm1,(∀x,x<54->tm1.get x=tm.get x)->tm1.get 54=some (.bool (decide (w=3)))->Q tm1 hp):YN PR ov 141 (cdA R5) tm hp Q:=by
 unfold R5;refine .region (.o (eD a) (.o qA (.nil ⟨.refl _,k _ (fun x hx=>?_) ?_⟩)))
 ·simp only[gp];grind
 ·simp only[gp];rfl
theorem sS {w:Int}(a:tm.get 50=some (.int .u8 w))(k:∀tm1,(∀x,x<54->tm1.get x=tm.get x)->tm1.get 66=some (.bool (decide (w=1)))->Q tm1 hp):YN PR ov 141 (cdA (cdB (cdB R5))) tm hp Q:=by
 unfold R5;refine .region (.o (eD a) (.o qA (.nil ⟨.refl _,k _ (fun x hx=>?_) ?_⟩)))
 ·simp only[gp];grind
 ·simp only[gp];rfl
theorem CA {w:Int}(a:tm.get 50=some (.int .u8 w))(k:∀tm1,(∀x,x<54->tm1.get x=tm.get x)->tm1.get 88=some (.bool (decide (w=2)))->Q tm1 hp):YN PR ov 141 (cdA (cdB (cdB (cdB (cdB R5))))) tm hp Q:=by
 unfold R5;refine .region (.o (eD a) (.o qA (.nil ⟨.refl _,k _ (fun x hx=>?_) ?_⟩)))
 ·simp only[gp];grind
 ·simp only[gp];rfl
def Y_R16 (C:Cx F s vs n b3 il ol Nl csl S1 tm hp)(hx:A4 PR ov mvF [.pointer (some ⟨il,ol,none⟩),.agg vs.toArray] hp (.int .i64 e) hp1)(hk:l9 hp hp1)(k:∀tm1,tm1.get 4=some (.int .i64 e)->Q tm1 hp1):YR ov 141 yM tm hp Q:=by unfold yM R5;refine .seq (.region (.o (i5 C.t6) (.o (m8 (by simp only[gp];exact C.t3) (rl ym vn C.hb rfl (by omega) (DV C.hs.1))) (.c (bH rfl (by simp only[gp];rfl) (by simp only[gp];rfl) hx) (.o qA (.nil ⟨hk,.ret (k _ (by simp only[gp];rfl))⟩))))))
def Y_R33 (k:∀tm1,tm1.get 4=some (.int .i64 0)->Q tm1 hp):YR ov 141 (cdB (cdB yB)) tm hp Q:=by unfold yB y2 y0;exact .seq (.region (.o (D5 rfl) (.nil ⟨.refl _,.ret (k _ (by simp only[gp];rfl))⟩)))
end
end Go.D
