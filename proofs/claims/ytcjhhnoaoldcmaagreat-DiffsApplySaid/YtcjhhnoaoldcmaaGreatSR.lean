/- Apply, in the executor: its regions (DiffsApply).
  Conditions: none. -/
import Derived.Test.YtcjhhnoaoldcmaaGreatSP
set_option linter.all false
set_option maxRecDepth 10000
noncomputable section
namespace Go.D
open Go Go.Xe Go.Sx Go.RowKit
open Go.C36 (row)
abbrev apF :Az:=11
abbrev tLs :Ay:=30
def ap_fn :PR.funcs[apF]? =some Go.Proofs.Tryz.f11:=by kernel_rfl
def FD :PR.underlying tLs=some (.slice tSp):=by kernel_rfl
abbrev z0 :Code:=D2 PR apF
abbrev zP :Code:=cdA (cdB z0)
abbrev z2 :Code:=cdB (cdB z0)
abbrev z3 :Code:=cdB z2
abbrev z4 :Code:=cdB z3
abbrev zL :Code:=cdA (cdA (cdB (cdA z4)))
abbrev zb :Code:=cdA (cdA (cdB (cdB zL)))
abbrev z5 :Code:=cdB z4
abbrev zC :Code:=cdA z5
def yh :Af:=[.int .u8 0,.string ⟨#[]⟩,.string ⟨#[]⟩,.slice none 0 0,.string ⟨#[]⟩,.slice none 0 0]
def Ij :R2 PR tN []=some (.agg yh.toArray):=by kernel_rfl
section
variable {hp :Hp}{tm:Ao}
variable {F:FB}{v:Aw}
def pv_I {k:IntKind}{m:Int}(h:PV PR F (.int k) v (.int m)):v= .int k m:=by cases h;rfl
def EM {m:Str}(h:PV PR F .str v (.str m)):v= .string ⟨m.toArray⟩:=by cases h;rfl
theorem Hk {l:List Stp}(h:PV PR F (.sl tSp) v (.lst (l.map Stp.row))){j:Nat}{s:Stp}(hj:l[j]? =some s):∃ic oc cc A dc C G ws,v= .slice (some ⟨ic,oc,none⟩) l.length cc/\F ic=some A/\rdC A=some (dc,C,G)/\oc+j*12+12<=C/\d6 dc (oc+j*12) 12=some ws/\wl F s ws:=by
 generalize H:l.map Stp.row=L at h;have B:L.length=l.length:=by grind
 have E:=(JO.1 hj).1;have r:kf PR tSp=[.int .u8,.sl 3,.str,.str,.int .i64,.int .i64,.int .u8,.str,.str,.sl tAt,.str,.sl tN]:=rfl;cases h with
 |nils=>grind|vague=>grind|sl e i o c b cs n z u x hF hb hc hn hz hr hx hp=>
  have g:z=12:=by simp_all
  subst g;have f:L[j]? =some s.row:=by grind
  have m:s.row=[.int s.w,.lst (s.p.map row),.str s.n,.str s.v,.int s.i,.int s.o,.int s.t.k,.str s.t.t,.str s.t.y,.lst (s.t.a.map Att.row),.str s.t.x,.lst (rows s.t.c)]:=by unfold Stp.row;rw[H9];rfl
  have D:∀q,q<12->cs.get (o+j*12+q)=some (x j q):=fun q hq=>hx j q s.row _ f (JX (by grind));have hl:d6 cs (o+j*12) 12=some ((List.range 12).map (x j)):=by have:=i8 (vs:=(List.range 12).map (x j)) (fun q hq=>by simp only[Kf,List.length_range]at hq;rw[D q hq];simp[hq]);grind
  have P:∀q kd d,s.row[q]? =some d->(kf PR tSp)[q]? =some kd->PV PR F kd (x j q) d:=fun q kd d h1 h2=>hp j q s.row kd d f h1 h2;rw[m,r]at P;have e:(List.range 12).map (x j)=[x j 0,x j 1,x j 2,x j 3,x j 4,x j 5,x j 6,x j 7,x j 8,x j 9,x j 10,x j 11]:=rfl;refine⟨i,o,c,b,cs,n,_,_,by grind,hF,hb,by omega,hl,by simp,?_,⟨x j 1,by rfl,P 1 _ _ rfl rfl⟩,?_,?_,?_,?_,⟨⟨?_,?_,?_,⟨x j 9,by rfl,P 9 _ _ rfl rfl⟩,?_⟩,x j 11,by rfl,P 11 _ _ rfl rfl⟩⟩<;>rw[e]
  ·exact congrArg some (pv_I (P 0 _ _ rfl rfl))
  ·exact congrArg some (EM (P 2 _ _ rfl rfl))
  ·exact congrArg some (EM (P 3 _ _ rfl rfl))
  ·exact congrArg some (pv_I (P 4 _ _ rfl rfl))
  ·exact congrArg some (pv_I (P 5 _ _ rfl rfl))
  ·exact congrArg some (pv_I (P 6 _ _ rfl rfl))
  ·exact congrArg some (EM (P 7 _ _ rfl rfl))
  ·exact congrArg some (EM (P 8 _ _ rfl rfl))
  ·exact congrArg some (EM (P 10 _ _ rfl rfl))
def ix_L {i o q c:Nat}{k:Int}(h0:0<=k)(h1:k<q):j7 PR tLs (.slice (some ⟨i,o,none⟩) q c) (.int .i64 k)=some (.pointer (some ⟨i,o+k.toNat*12,none⟩)):=by
 obtain⟨ie,he,hs⟩:∃ie,PR.info? tSp=some ie/\ie.size=12:=⟨(PR.info? tSp).getD default,rfl,rfl⟩
 simp only[j7,FD,he,hs,h0,h1,KR,Bool.and_self,Kc]
def wl.one {s:Stp}{vs:Af}(h:wl F s vs):vs.all Value.oneCell'=true:=by obtain⟨h12,h0,⟨z,h1,l⟩,h2,h3,h4,h5,⟨k0,k1,k2,⟨va,k3,o⟩,r⟩,vc,t,p⟩:=h;obtain⟨a,b,c,d,e,f,g,i,j,k,m,n,rfl⟩:=DS h12;obtain⟨q1,u,rfl⟩:=N5 l;obtain⟨q2,w,rfl⟩:=N5 o;obtain⟨y,x,rfl⟩:=N5 p;cases h0;cases h1;cases h2;cases h3;cases h4;cases h5;cases k0;cases k1;cases k2;cases k3;cases r;cases t;rfl
end
section
variable {ov :Aa}{hp hp1:Hp}{tm:Ao}{Q:Ao->Hp->Prop}{vs:Af}{b2 b4 b7:Nat}
theorem Z_R0 (h0:tm.get 0=some (.agg vs.toArray))(a:vs.length=6)(k:∀tm1 hp1,hp1.nx=hp.nx+2->(∀j,j<hp.nx->hp1.m.get j=hp.m.get j)->hp1.m.get hp.nx=some (.cells (fill .e 0 vs) 6 tN 6)->hp1.m.get (hp.nx+1)=some (.cells zB 6 tN 6)->(∀x,x<2->tm1.get x=tm.get x)->tm1.get 2=some (.pointer (some ⟨hp.nx,0,none⟩))->tm1.get 4=some (.pointer (some ⟨hp.nx+1,0,none⟩))->Q tm1 hp1):YN PR ov 45 (cdA z0) tm hp Q:=by
 unfold z0;have e:(Value.agg vs.toArray).cells.toList=vs:=rfl;refine .region (.o (gJ h0) (.o T9 (.o (D5 rfl) (.nil ?_))));rw[e,a];refine⟨(d9 (Lk _) (.inl (Kj _))).trans (d9 (Lk _) (.inl (Kj _))),k _ _ rfl (fun j hj=>?_) ?_ ?_ (fun x hx=>?_) ?_ ?_⟩
 ·show((hp.m.set hp.nx _).set (hp.nx+1) _).get j=_;rw[Mw,Kg (by omega),Mw,Kg (by omega)]
 ·show((hp.m.set hp.nx _).set (hp.nx+1) _).get hp.nx=_;rw[Mw,Kg (by omega),Mw,Ki rfl]
 ·show((hp.m.set hp.nx _).set (hp.nx+1) _).get (hp.nx+1)=_;rw[Mw,Ki rfl]
 ·simp only[gp];grind
 ·simp only[gp];rfl
 ·simp only[gp];rfl
variable {e:Int}{d:Ao}{ws:Af}
theorem Z_R1 (h2:tm.get 2=some (.pointer (some ⟨b2,0,none⟩)))(hb:hp.m.get b2=some (.cells d 6 tN 6))(hl:d6 d 0 6=some ws)(hx:A4 PR ov 34 [.agg ws.toArray] hp (.int .i64 e) hp1)(hk:l9 hp hp1)(k:∀tm1,(∀x,x<6->tm1.get x=tm.get x)->tm1.get 15=some (.bool (!decide (e=0)))->Q tm1 hp1):YN PR ov 45 (cdA zP) tm hp fun t1 h1=>YN PR ov 45 (cdA (cdB zP)) t1 h1 Q:=by
 unfold zP z0;refine .region (.o (m8 h2 (li hb (by omega) hl)) (.c (B3 rfl (by simp only[gp];rfl) hx) (.o qA (.nil ⟨hk,.region (.o qM (.o (aG (by simp only[gp];rfl)) (.nil ⟨.refl _,k _ (fun x hx=>?_) ?_⟩)))⟩))))
 ·simp only[gp];grind
 ·simp only[gp];rfl
def FZ {t t':Ay}{x:Nat}{a b:Int}(hx:tm.get x=some (.int .i64 a))(call:c7):xop PR call tm hp (.binOp .gtr t (.tmp x) (.const (.int .i64 b)) t')=some (.bool (decide (b<a)),hp):=by have h:cst (.int .i64 b)=true:=rfl;simp only[b9,f7,a9,hx,h,KC,v6,J3,KR,Kc,o7,W2,c9]
variable {q:Ar}
theorem Z_R4 {l c:Nat}(h1:tm.get 1=some (.slice q l c))(k:∀tm1,(∀x,x<18->tm1.get x=tm.get x)->tm1.get 20=some (.bool (decide ((4096:Int)<l)))->Q tm1 hp):YN PR ov 45 (cdA (cdA z2)) tm hp Q:=by
 unfold z2 z0;refine .region (.o (i5 h1) (.o (kV FD (by simp only[gp];rfl) rfl) (.o (FZ (by simp only[gp];rfl)) (.nil ⟨.refl _,k _ (fun x hx=>?_) ?_⟩))))
 ·simp only[gp];grind
 ·simp only[gp];rfl
variable {us:Af}
theorem Z_R6 (h2:tm.get 2=some (.pointer (some ⟨b2,0,none⟩)))(hb:hp.m.get b2=some (.cells d 6 tN 6))(hl:d6 d 0 6=some ws)(hx:A4 PR ov yF [.agg ws.toArray] hp (.agg us.toArray) hp1)(hk:l9 hp hp1)(a:us.length=6)(h1:us.all Value.oneCell'=true)(k:∀tm1,(∀x,x<7->tm1.get x=tm.get x)->tm1.get 7=some (.pointer (some ⟨hp1.nx,0,none⟩))->Q tm1 ⟨(hp1.m.set hp1.nx (some (.cells zB 6 tN 6))).set hp1.nx (some (.cells (fill zB 0 us) 6 tN 6)),hp1.nx+1⟩):YN PR ov 45 (cdA z3) tm hp Q:=by
 unfold z3 z2 z0;refine .region (.o (m8 h2 (li hb (by omega) hl)) (.c (B3 rfl (by simp only[gp];rfl) hx) (.o T9 (.o (qS (h:=(dw (by rw[Mw,Ki rfl]) (by omega) a h1))) (.nil ⟨?_,k _ (fun x hx=>?_) ?_⟩)))))
 ·exact(hk.trans (d9 (Lk _) (.inl (Kj _)))).trans (d9 (Kj _) (.inr (by rw[Mw,Ki rfl];exact fun h=>by grind)))
 ·simp only[gp,gn];grind
 ·simp only[gp,gn];rfl
theorem Z_R7 {l c:Nat}(h1:tm.get 1=some (.slice q l c))(k:∀tm1,(∀x,x<8->tm1.get x=tm.get x)->tm1.get 24=some (.slice q l c)->tm1.get 25=some (.int .i64 l)->tm1.get 26=some (.int .i64 0)->Q tm1 hp):YN PR ov 45 (cdA (cdA z4)) tm hp Q:=by
 unfold z4 z3 z2 z0;refine .region (.o (i5 h1) (.o (kV FD (by simp only[gp];rfl) rfl) (.o (JG rfl) (.nil ⟨.refl _,k _ (fun x hx=>?_) ?_ ?_ ?_⟩))))
 ·simp only[gp];grind
 all_goals (simp only[gp];rfl)
def Z_R8 {n i:Int}(a:tm.get 25=some (.int .i64 n))(b:tm.get 26=some (.int .i64 i))(k:∀tm1,(∀x,x≠27->tm1.get x=tm.get x)->tm1.get 27=some (.bool (decide (i<n)))->Q tm1 hp):YN PR ov 45 (cdA zL) tm hp Q:=by unfold zL z4 z3 z2 z0;exact .region (.o (Aq b a) (.nil ⟨.refl _,k _ (fun x hx=>by rw[gp,Kg hx]) (by rw[gp,Ki rfl])⟩))
theorem Z_R9 {i ic oc l cc n r:Nat}{g:Blk}{dc:Ao}{zv:Aw}(hz:D6 PR tSp=some zv)(a:zv.cells.toList.length=12)(b:tm.get 24=some (.slice (some ⟨ic,oc,none⟩) l cc))(f:tm.get 26=some (.int .i64 i))(hi:i<l)(hc:hp.m.get ic=some g)(hr:rdC g=some (dc,n,r))(hN:oc+i*12+12<=n)(hl:d6 dc (oc+i*12) 12=some vs)(h12:vs.length=12)(h1:vs.all Value.oneCell'=true)(k:∀tm1 hp1,(∀x,x<28->x≠9->tm1.get x=tm.get x)->tm1.get 9=some (.pointer (some ⟨hp.nx,0,none⟩))->New hp hp1->hp1.nx=hp.nx+1->(∃d,hp1.m.get hp.nx=some (.cells d 12 tSp 12)/\d6 d 0 12=some vs)->Q tm1 hp1):YN PR ov 45 (cdA zb) tm hp Q:=by
 unfold zb zL z4 z3 z2 z0;have p:d6 (fill (fill .e 0 zv.cells.toList) 0 vs) 0 12=some vs:=by have:=i8 (c:=fill (fill .e 0 zv.cells.toList) 0 vs) (vs:=vs) (o:=0) (fun q hq=>by rw[f6,Ki ⟨by omega,by omega⟩];congr 1;omega);grind
 refine .region (.o (cX b f (ix_L (by omega) (by omega))) (.o (qL (h:=(rl ym vn hc hr (hN) (hl)))) (.o (IE hz) (.o (qS (h:=(st_g vn (by rw[Mw,Ki rfl]) (by omega) h12 h1))) (.nil ⟨?_,k _ _ (fun x hx s=>?_) ?_ ⟨Lk _,fun j hj=>?_⟩ rfl ⟨_,?_,p⟩⟩)))))
 ·exact(d9 (Lk _) (.inl (Kj _))).trans (d9 (Kj _) (.inr (by rw[Mw,Ki rfl];exact fun h=>by grind)))
 ·simp only[gp,gn];grind
 ·simp only[gp,gn];rfl
 ·show((hp.m.set hp.nx _).set hp.nx _).get j=_;rw[Mw,Kg (by omega),Mw,Kg (by omega)]
 ·show((hp.m.set hp.nx _).set hp.nx _).get hp.nx=_;rw[Mw,Ki rfl,a]
theorem Z_R10 {a:Nat}{p:Aw}(f:tm.get 9=some (.pointer (some ⟨a,0,none⟩)))(h7:tm.get 7=some p)(hb:hp.m.get a=some (.cells d 12 tSp 12))(hl:d6 d 0 12=some vs)(hx:A4 PR ov yyF [p,.agg vs.toArray] hp (.int .i64 e) hp1)(hk:l9 hp hp1)(k:∀tm1,(∀x,x<28->x≠10->tm1.get x=tm.get x)->tm1.get 10=some (.int .i64 e)->tm1.get 33=some (.bool (!decide (e=0)))->Q tm1 hp1):YN PR ov 45 (cdA (cdB zb)) tm hp fun t1 h1=>YN PR ov 45 (cdA (cdB (cdB zb))) t1 h1 Q:=by
 unfold zb zL z4 z3 z2 z0;refine .region (.o (m8 f (rl ym vn hb rfl (by omega) hl)) (.c (bH rfl (by simp only[gp];exact h7) (by simp only[gp];rfl) hx) (.o qA (.nil ⟨hk,.region (.o qM (.o (aG (by simp only[gp];rfl)) (.nil ⟨.refl _,k _ (fun x hx b=>?_) ?_ ?_⟩)))⟩))))
 ·simp only[gp];grind
 all_goals (simp only[gp];rfl)
theorem Z_R12 {e:Aw}(a:tm.get 10=some e)(h4:tm.get 4=some (.pointer (some ⟨b4,0,none⟩)))(hb:hp.m.get b4=some (.cells d 6 tN 6))(k:∀tm1,tm1.get 4=tm.get 4->tm1.get 5=some e->Q tm1 ⟨hp.m.set b4 (some (.cells (fill d 0 yh) 6 tN 6)),hp.nx⟩):YR ov 45 (cdA (cdB (cdB (cdB zb)))) tm hp Q:=by
 unfold zb zL z4 z3 z2 z0;refine .seq (.region (.o (bG rfl Ij) (.o (i5 (by simp only[gp];exact a)) (.o (G6 (by simp only[gp];exact h4) (by simp only[gp];rfl) (dw hb (by omega) rfl rfl)) (.o (FV (by simp only[gp,gn];rfl)) (.nil ⟨d9 (Kj _) (.inr (by grind)),.ret (k _ ?_ ?_)⟩))))))
 ·simp only[gp,gn];grind
 ·simp only[gp,gn];rfl
theorem Z_R13 {i:Int}(a:tm.get 26=some (.int .i64 i))(h0:0<=i)(h1:i<1000000)(k:∀tm1,(∀x,x<26->tm1.get x=tm.get x)->tm1.get 26=some (.int .i64 (i+1))->Q tm1 hp):YN PR ov 45 (cdB (cdB (cdB zL))) tm hp Q:=by
 unfold zL z4 z3 z2 z0;refine .region (.o (gK a h0 h1) (.o qM (.nil ⟨.refl _,k _ (fun x hx=>?_) ?_⟩)))
 ·simp only[gp];grind
 ·simp only[gp];rfl
theorem Ih (h7:tm.get 7=some (.pointer (some ⟨b7,0,none⟩)))(hb:hp.m.get b7=some (.cells d 6 tN 6))(hl:d6 d 0 6=some ws)(hx:A4 PR ov 34 [.agg ws.toArray] hp (.int .i64 e) hp1)(hk:l9 hp hp1)(k:∀tm1,(∀x,x<8->tm1.get x=tm.get x)->tm1.get 11=some (.int .i64 e)->tm1.get 40=some (.bool (!decide (e=0)))->Q tm1 hp1):YN PR ov 45 (cdA zC) tm hp fun t1 h1=>YN PR ov 45 (cdA (cdB zC)) t1 h1 Q:=by
 unfold zC z5 z4 z3 z2 z0;refine .region (.o (m8 h7 (li hb (by omega) hl)) (.c (B3 rfl (by simp only[gp];rfl) hx) (.o qA (.nil ⟨hk,.region (.o qM (.o (aG (by simp only[gp];rfl)) (.nil ⟨.refl _,k _ (fun x hx=>?_) ?_ ?_⟩)))⟩))))
 ·simp only[gp];grind
 all_goals (simp only[gp];rfl)
theorem Z_R16 {e:Aw}(a:tm.get 11=some e)(h4:tm.get 4=some (.pointer (some ⟨b4,0,none⟩)))(hb:hp.m.get b4=some (.cells d 6 tN 6))(k:∀tm1,tm1.get 4=tm.get 4->tm1.get 5=some e->Q tm1 ⟨hp.m.set b4 (some (.cells (fill d 0 yh) 6 tN 6)),hp.nx⟩):YR ov 45 (cdA (cdB (cdB zC))) tm hp Q:=by
 unfold zC z5 z4 z3 z2 z0;refine .seq (.region (.o (bG rfl Ij) (.o (i5 (by simp only[gp];exact a)) (.o (G6 (by simp only[gp];exact h4) (by simp only[gp];rfl) (dw hb (by omega) rfl rfl)) (.o (FV (by simp only[gp,gn];rfl)) (.nil ⟨d9 (Kj _) (.inr (by grind)),.ret (k _ ?_ ?_)⟩))))))
 ·simp only[gp,gn];grind
 ·simp only[gp,gn];rfl
theorem Z_R17 {a:Ao}(h7:tm.get 7=some (.pointer (some ⟨b7,0,none⟩)))(hb:hp.m.get b7=some (.cells d 6 tN 6))(hl:d6 d 0 6=some ws)(hx:A4 PR ov yF [.agg ws.toArray] hp (.agg us.toArray) hp1)(hk:l9 hp hp1)(h4:tm.get 4=some (.pointer (some ⟨b4,0,none⟩)))(hb4:hp1.m.get b4=some (.cells a 6 tN 6))(b:us.length=6)(h1:us.all Value.oneCell'=true)(k:∀tm1,tm1.get 4=tm.get 4->tm1.get 5=some (.int .i64 0)->Q tm1 ⟨hp1.m.set b4 (some (.cells (fill a 0 us) 6 tN 6)),hp1.nx⟩):YR ov 45 (cdB z5) tm hp Q:=by
 unfold z5 z4 z3 z2 z0;refine .seq (.region (.o (m8 h7 (li hb (by omega) hl)) (.c (B3 rfl (by simp only[gp];rfl) hx) (.o (G6 (by simp only[gp];exact h4) (by simp only[gp];rfl) (dw hb4 (by omega) b h1)) (.o (D5 rfl) (.nil ⟨hk.trans (d9 (Kj _) (.inr (by grind))),.ret (k _ ?_ ?_)⟩))))))
 ·simp only[gp,gn];grind
 ·simp only[gp,gn];rfl
end
end Go.D
