/- Mounts: the handles of a node are yielded (below): its code, region by region (but for the call of Look); below itself.
  Conditions: none. -/
import Derived.Test.YtoegfalhkackeaaGreatQ5
set_option maxRecDepth 10000
set_option linter.all false
noncomputable section
namespace Go.D
open Go Go.Xe Go.Sx
abbrev tHs :Ax:=41
abbrev tVw :Ax:=108
abbrev tDp :Ax:=25
def wA :PR.underlying tHs=some (.slice tHn):=by kernel_rfl
def Fq :(PR.underlying tHs).map dY=some false:=by kernel_rfl
def Lp :(PR.underlying tDp).map dY=some false:=by kernel_rfl
def Rm :Nat.beq tDp rgT=false:=by kernel_rfl
def fa_V (i o:Nat):M6 PR tVw (.pointer (some ⟨i,o,none⟩)) 8=some (.pointer (some ⟨i,o+9,none⟩)):=by kernel_rfl
abbrev bR0 :Code:=cdA bC
abbrev bR1 :Code:=cdA (cdA (cdB bC))
abbrev bR2 :Code:=cdA (cdB (cdB bC))
abbrev bR3 :Code:=cdA (cdB (cdB (cdB bC)))
abbrev bR4 :Code:=cdA bLB
abbrev bR5 :Code:=cdA (cdA (cdA bL2))
abbrev bR6 :Code:=cdA (cdB (cdA (cdA bL2)))
abbrev bR9 :Code:=cdB bL2
abbrev bLp :Code:= .seq bR4 (.seq (.cond (.tmp 23) .skip (.exit 0)) (.seq (.block 1 (.seq bR5 (.seq bR6 (.block 2 (.rangeFunc (.tmp 28) #[29] bR7 bBo))))) bR9))
def Ri :H9 PR bF= .seq bR0 (.seq (.seq bR1 (.cond (.tmp 12) .ret .skip)) (.seq bR2 (.seq bR3 (.block 0 (.loop bLp))))):=by kernel_rfl
section
variable {ov :Aa}{hp hp1:Hp}{tm:Ao}{ws:Af}{i b y:Nat}{Q:Ao->Hp->Prop}{cs:Ao}{ar:Ai}{v:Av}{x t o:Nat}
def ix_H {q c:Nat}{k:Int}(h0:0<=k)(h1:k<q):C4 PR tHs (.slice (some ⟨i,o,none⟩) q c) (.int .i64 k)=some (.pointer (some ⟨i,o+k.toNat*2,none⟩)):=by simp only[C4,wA,pM,dH,h0,h1,Ur,Bool.and_self,TE]
def Qa (hx:tm.get x=some (.pointer (some ⟨i,o,none⟩)))(call:i8):xop PR call tm hp (.fieldAddr tVw (.tmp x) 8)=some (.pointer (some ⟨i,o+9,none⟩),hp):=by simp only[c8,j5,c9,hx,Ud,fa_V,i7]
def Qb {q:Aq}{l c:Nat}{a:Array Ax}(hx:tm.get x=some (.slice q l c))(ht:a.toList=[tHs])(call:i8):xop PR call tm hp (.call ⟨.builtin .len,#[.tmp x],a⟩)=some (.int .i64 l,hp):=by have h:aS hp PR tHs (.slice q l c)=some (.int .i64 l):=wJ wA q l c;simp only[c8,j5,Y8,c9,hx,Ud,y9,ht,h,i7]
def b_0 {u v:Av}(h0:tm.get 0=some (.chan (some i)))(h1:tm.get 1=some u)(h2:tm.get 2=some v)(k:∀tm1,tm1.get 1=some u->tm1.get 2=some v->tm1.get 3=some (.pointer (some ⟨hp.nx,0,none⟩))->Q tm1 ⟨hp.m.set hp.nx (some (.cells (fill .e 0 [.chan (some i)]) 1 tYh 1)),hp.nx+1⟩):YN PR ov ar 35 bR0 tm hp Q:=by unfold bR0 bC;rw[wU];simp only[Go.Proofs.Tryz.f101,Ud,cdA,cdB];have e:(Value.chan (some i)).cells.toList=[.chan (some i)]:=rfl;refine .region (.op rfl rfl (Ct Ro h0) (.nil ?_));rw[e];refine⟨⟨UI _,fun r hr h=>by show(hp.m.set hp.nx _).get r=_;rw[VX,TH (by omega)];exact h⟩,k _ ?_ ?_ ?_⟩;rw[gp,TH (by decide)];exact h1;rw[gp,TH (by decide)];exact h2;rw[gp,TJ rfl]
def b_1 {nb c zb:Nat}(h1:tm.get 1=some (.pointer (some ⟨b,o,none⟩)))(h3:tm.get 3=some (.pointer (some ⟨y,0,none⟩)))(hy:hp.m.get y=some (.cells (fill .e 0 [.chan (some i)]) 1 tYh 1))(hb:hp.m.get b=some (.cells cs nb c zb))(a:o+2<=nb)(hl:j9 cs o 2=some ws)(hx:Fl PR ov i [.agg ws.toArray] hp (.bool true) hp1)(hk:H7 hp hp1)(k:∀tm1,(∀x,x<9->tm1.get x=tm.get x)->tm1.get 12=some (.bool false)->Q tm1 hp1):YN PR ov ar 35 bR1 tm hp Q:=by
 unfold bR1 bC;rw[wU];simp only[Go.Proofs.Tryz.f101,Ud,cdA,cdB];refine .region (.op rfl rfl (K4 h3 ((Do Lq hy rfl (by omega)).trans (by rw[p6 _ _ (by simp)];rfl))) (.op rfl rfl (K4 (by rw[gp,TH (by decide)];exact h1) (Jz hb rfl a hl)) ?_));refine .cons rfl rfl (wP (i:=i) (vs:=[.agg ws.toArray]) (by rw[gp,TH (by decide),gp,TJ rfl]) ?_ hx) ?_;simp only[Y8,c9,gp];rfl;refine .op rfl rfl (Hm (by rw[gp,TJ rfl])) (.nil ⟨hk,k _ (fun x hx=>?_) ?_⟩)
 ·simp only[gp];iterate 4 rw[TH (by omega)]
 simp only[gp];rfl
def b_4 {n j:Int}(a:tm.get 21=some (.int .i64 n))(c:tm.get 22=some (.int .i64 j))(k:∀tm1,(∀x,x≠23->tm1.get x=tm.get x)->tm1.get 23=some (.bool (decide (j<n)))->Q tm1 hp):YN PR ov ar 35 bR4 tm hp Q:=by unfold bR4 bLB bC;rw[wU];simp only[Go.Proofs.Tryz.f101,Ud,cdA,cdB];exact .region (.op rfl rfl (xo_lt c a) (.nil ⟨.refl _,k _ (fun x hx=>by rw[gp,TH hx]) (by rw[gp,TJ rfl])⟩))
def b_9 {j:Int}(a:tm.get 22=some (.int .i64 j))(h0:0<=j)(h1:j<1000000)(k:∀tm1,(∀x,x<22->tm1.get x=tm.get x)->tm1.get 22=some (.int .i64 (j+1))->Q tm1 hp):YN PR ov ar 35 bR9 tm hp Q:=by unfold bR9 bL2 bLB bC;rw[wU];simp only[Go.Proofs.Tryz.f101,Ud,cdA,cdB];refine .region (.op rfl rfl (Tf a h0 h1) (.op rfl rfl (Jf (by simp only[gp];rfl)) (.nil ⟨.refl _,k _ (fun x hx=>?_) ?_⟩)));simp only[gp];rw[TH (by omega),TH (by omega)];simp only[gp];rfl
end
section
variable {ov :Aa}{hp hp1:Hp}{tm:Ao}{ws:Af}{i b y:Nat}{Q:Ao->Hp->Prop}{cs:Ao}{ar:Ai}{v a:Av}{x t o n z:Nat}
def b_3 {q:Aq}{l c d g e:Nat}(h4:tm.get 4=some (.pointer (some ⟨b,0,none⟩)))(hb:hp.m.get b=some (.cells cs d e g))(hn:10<=d)(f:cs.get 9=some (.slice q l c))(k:∀tm1,(∀x,x<9->tm1.get x=tm.get x)->tm1.get 20=some (.slice q l c)->tm1.get 21=some (.int .i64 l)->tm1.get 22=some (.int .i64 0)->Q tm1 hp):YN PR ov ar 35 bR3 tm hp Q:=by
 unfold bR3 bC;rw[wU];simp only[Go.Proofs.Tryz.f101,Ud,cdA,cdB];refine .region (.op rfl rfl (Qa h4) (.op rfl rfl (K4 (by simp only[gp];rfl) ((Do Fq hb rfl (by omega)).trans f)) (.op rfl rfl (Qb (by simp only[gp];rfl) rfl) (.op rfl rfl Tg (.nil ⟨.refl _,k _ (fun x hx=>?_) ?_ ?_ ?_⟩)))))
 ·simp only[gp];iterate 4 rw[TH (by omega)]
 simp only[gp];rfl;simp only[gp];rfl;simp only[gp];rfl
def b_5 {g e l cc p B:Nat}{f:Blk}{dc:Ao}{j:Int}(c:tm.get 20=some (.slice (some ⟨g,e,none⟩) l cc))(d:tm.get 22=some (.int .i64 j))(w:0<=j)(A:j<l)(hc:hp.m.get g=some f)(hr:rdC f=some (dc,p,B))(hn:e+j.toNat*2+2<=p)(hl:j9 dc (e+j.toNat*2) 2=some ws)(h2:ws.length=2)(s:ws.all Value.oneCell'=true)(k:∀tm1,(∀x,x<24->x≠7->tm1.get x=tm.get x)->tm1.get 7=some (.pointer (some ⟨hp.nx,0,none⟩))->Q tm1 ⟨(hp.m.set hp.nx (some (.cells zHB 2 tHn 2))).set hp.nx (some (.cells (fill zHB 0 ws) 2 tHn 2)),hp.nx+1⟩):YN PR ov ar 35 bR5 tm hp Q:=by unfold bR5 bL2 bLB bC;rw[wU];simp only[Go.Proofs.Tryz.f101,Ud,cdA,cdB];refine .region (.op rfl rfl (Te c d (ix_H w A)) (.op rfl rfl (K4 (by simp only[gp];rfl) (Jz hc hr hn hl)) (.op rfl rfl qK (.op rfl rfl (dU (by simp only[gp];rfl) (by simp only[gp];rfl) (st_H (by rw[VX,TJ rfl]) (by omega) h2 s)) (.nil ⟨⟨UI _,fun r hr h=>?_⟩,k _ (fun x hx q=>?_) ?_⟩)))));show((hp.m.set hp.nx _).set hp.nx _).get r=_;rw[VX,TH (by omega),VX,TH (by omega)];exact h;simp only[gp,gn];rw[TH q,TH (by omega),TH (by omega)];simp only[gp,gn];rfl
variable {u:Av}
def b_6 {c bd e g q h:Nat}{f:Ao}(h2:tm.get 2=some (.pointer (some ⟨bd,e,none⟩)))(l:hp.m.get bd=some (.cells f g h q))(d:e+1<=g)(p:f.get e=some u)(j:tm.get 7=some (.pointer (some ⟨c,0,none⟩)))(hc:hp.m.get c=some (.cells cs 2 tHn 2))(hl:j9 cs 0 2=some ws)(hx:Y0 PR ov bG [u,.agg ws.toArray] hp v hp1)(hk:H7 hp hp1)(k:∀tm1,(∀x,x<26->tm1.get x=tm.get x)->tm1.get 28=some v->Q tm1 hp1):YN PR ov ar 35 bR6 tm hp Q:=by unfold bR6 bL2 bLB bC;rw[wU];simp only[Go.Proofs.Tryz.f101,Ud,cdA,cdB];refine .region (.op rfl rfl (K4 h2 ((Do Lp l rfl d).trans p)) (.op rfl rfl (K4 (by rw[gp,TH (by decide)];exact j) (Jz hc rfl (by omega) hl)) (.cons rfl rfl (EW Qu bg_ok (by rw[gp,TH (by decide),gp,TJ rfl]) (by rw[gp,TJ rfl]) hx) (.nil ⟨hk,k _ (fun x hx=>?_) ?_⟩))));simp only[gp];rw[TH (by omega),TH (by omega),TH (by omega)];simp only[gp];rfl
def Td {f:Ay}(hx:tm.get x=some a)(hy:tm.get y=some u)(call:i8):xop PR call tm hp (.makeFunc (.func f) #[] #[.tmp x,.tmp y])=some (.func (.func f) #[] #[a,u],hp):=by simp only[c8,j5,yS,Y8,c9,hx,hy,Ud]
abbrev hR0 :Code:=cdA (H9 PR bG)
abbrev hR1 :Code:=cdA (cdB (H9 PR bG))
def RE :H9 PR bG= .seq hR0 (.seq hR1 .ret):=by kernel_rfl
def ha_0 {p:Aq}(h0:tm.get 0=some (.pointer p))(h1:tm.get 1=some (.agg ws.toArray))(h2:ws.length=2)(k:∀tm1,tm1.get 2=some (.pointer (some ⟨hp.nx,0,none⟩))->tm1.get 3=some (.pointer (some ⟨hp.nx+1,0,none⟩))->Q tm1 ⟨(hp.m.set hp.nx (some (.cells (fill .e 0 [.pointer p]) 1 tDp 1))).set (hp.nx+1) (some (.cells (fill .e 0 ws) 2 tHn 2)),hp.nx+2⟩):YN PR ov none 6 hR0 tm hp Q:=by
 unfold hR0;rw[Qt];simp only[Go.Proofs.Tryz.f53,Ud,cdA,cdB];have e:(Value.agg ws.toArray).cells.toList=ws:=by simp[Value.cells]
 have e':(Value.pointer p).cells.toList=[.pointer p]:=rfl;refine .region (.op rfl rfl (Ct Rm h0) (.op rfl rfl (Ct Qx (by rw[gp,TH (by decide)];exact h1)) ?_));rw[e,e',h2];refine .op rfl rfl Qc (.nil ⟨⟨by show hp.nx<=hp.nx+1+1;omega,fun r hr h=>?_⟩,k _ ?_ ?_⟩);show((hp.m.set hp.nx _).set (hp.nx+1) _).get r=_;rw[VX,TH (by omega),VX,TH (by omega)];exact h;simp only[gp];rfl;simp only[gp];rfl
def ha_1 (h2:tm.get 2=some u)(h3:tm.get 3=some a)(k:∀tm1,tm1.get 4=some (.func (.func bF) #[] #[a,u])->Q tm1 hp):YN PR ov none 6 hR1 tm hp Q:=by unfold hR1;rw[Qt];simp only[Go.Proofs.Tryz.f53,Ud,cdA,cdB];refine .region (.op rfl rfl (Td h3 h2) (.op rfl rfl (Je (by simp only[gp];rfl)) (.nil ⟨.refl _,k _ ?_⟩)));simp only[gp];rfl
end
def Jp {ov:Aa}{hp:Hp}{ws:Af}{p:Aq}(hg:Xe.isT (ov bG)=false)(h2:ws.length=2):∃hp',Y0 PR ov bG [.pointer p,.agg ws.toArray] hp (.func (.func bF) #[] #[.pointer (some ⟨hp.nx+1,0,none⟩),.pointer (some ⟨hp.nx,0,none⟩)]) hp'/\hp'.nx=hp.nx+2/\hp'.m.get hp.nx=some (.cells (fill .e 0 [.pointer p]) 1 tDp 1)/\hp'.m.get (hp.nx+1)=some (.cells (fill .e 0 ws) 2 tHn 2)/\(∀b,b<hp.nx->hp'.m.get b=hp.m.get b):=by
 obtain⟨tm1,hp1,X0,l,n,e1⟩:=ha_0 (ov:=ov) (hp:=hp) (ws:=ws) (p:=p) (tm:=fill .e 0 [.pointer p,.agg ws.toArray]) (Q:=fun tm1 h1=>tm1.get 2=some (.pointer (some ⟨hp.nx,0,none⟩))/\tm1.get 3=some (.pointer (some ⟨hp.nx+1,0,none⟩))/\h1=⟨(hp.m.set hp.nx (some (.cells (fill .e 0 [.pointer p]) 1 tDp 1))).set (hp.nx+1) (some (.cells (fill .e 0 ws) 2 tHn 2)),hp.nx+2⟩) (by rw[p6 _ _ (by simp)];rfl) (by rw[p6 _ _ (by simp)];rfl) h2 fun tm1 a b=>⟨a,b,rfl⟩
 obtain⟨d,hp2,X1,o,e2⟩:=ha_1 (ov:=ov) (hp:=hp1) (tm:=tm1) (Q:=fun d h2=>d.get 4=some (.func (.func bF) #[] #[.pointer (some ⟨hp.nx+1,0,none⟩),.pointer (some ⟨hp.nx,0,none⟩)])/\h2=hp1) l n fun d a=>⟨a,rfl⟩
 subst e2;have X:XK PR ov none 6 (H9 PR bG) (fill .e 0 [.pointer p,.agg ws.toArray]) hp .ret d hp2:=by rw[RE];exact X0.seq (X1.seq .ret)
 obtain⟨i,r1,q,j,r⟩:=jS (ov:=ov) (args:=[.pointer p,.agg ws.toArray]) (c:=H9 PR bG) Qu (by kernel_rfl) hg (show XK PR ov none (2+(Go.Proofs.Tryz.f53.ntmps-2)) _ _ _ _ _ _ from(show 2+(Go.Proofs.Tryz.f53.ntmps-2)=6 from by kernel_rfl)▸X) (.inr rfl) (vs:=[.func (.func bF) #[] #[.pointer (some ⟨hp.nx+1,0,none⟩),.pointer (some ⟨hp.nx,0,none⟩)]]) (fun h2 _=>by
  have e:Go.Proofs.Tryz.f53.results.toList=[.tmp 4]:=by kernel_rfl
  rw[e];simp only[I9,bU,o,Ud])
 have g:∀b,hp2.m.get b=if b=hp.nx+1 then some (.cells (fill .e 0 ws) 2 tHn 2)else if b=hp.nx then some (.cells (fill .e 0 [.pointer p]) 1 tDp 1)else hp.m.get b:=fun b=>by rw[e1];show((hp.m.set hp.nx _).set (hp.nx+1) _).get b=_;rw[VX,VX]
 refine⟨i,r1,by rw[q,e1],?_,?_,fun b hb=>?_⟩;rw[j _ (by rw[g,TH (by omega),TJ rfl];exact fun h=>by cases h),g,TH (by omega),TJ rfl];rw[j _ (by rw[g,TJ rfl];exact fun h=>by cases h),g,TJ rfl]
 ·by_cases f:hp.m.get b=some .dfr;rw[r.dfr b hb f,f]
  ·have k:hp2.m.get b=hp.m.get b:=by rw[g,TH (by omega),TH (by omega)]
   rw[j b (by rw[k];exact f),k]
abbrev lkF :Ay:=50
def lk_fn :PR.funcs[lkF]? =some Go.Proofs.Tryz.f50:=by kernel_rfl
def lk_ok :gA Go.Proofs.Tryz.f50=true:=by kernel_rfl
def box_V :Nat.beq tVw rgT=false:=by kernel_rfl
noncomputable def niV :Ba:=(PR.info? tVw).getD default
def RT :PR.info? tVw=some niV:=by kernel_rfl
def MO :niV.size=10:=by kernel_rfl
def zV :Av:=(V0 PR tVw).getD undef
def zV_eq :V0 PR tVw=some zV:=by kernel_rfl
def Tj :zV.cells.toList.length=10:=by kernel_rfl
def zVB :Ao:=fill .e 0 zV.cells.toList
section
variable {ov :Aa}{hp hp1:Hp}{tm:Ao}{ws vs:Af}{b:Nat}{Q:Ao->Hp->Prop}{cs:Ao}{ar:Ai}{v:Av}{x i o n e z:Nat}
def st_V (h:hp.m.get i=some (.cells cs n e z))(hn:o+10<=n)(hl:vs.length=10)(a:vs.all Value.oneCell'=true):E0 PR hp tVw (.pointer (some ⟨i,o,none⟩)) (.agg vs.toArray)=some {hp with m:=hp.m.set i (some (.cells (fill cs o vs) n e z))}:=by have:(Value.agg vs.toArray).cells.toList=vs:=rfl;simp only[E0,h,RT,MO,this,hl,t9,Ts hn,a,Bool.and_self,TE,H3]
def KX (call:i8):xop PR call tm hp (.alloc tVw)=some (.pointer (some ⟨hp.nx,0,none⟩),⟨hp.m.set hp.nx (some (.cells zVB 10 tVw 10)),hp.nx+1⟩):=by simp only[c8,j5,hX,box_V,TF,xnw,bR,zV_eq,L8,Hp.add,Nw.val,I5,Tj,zVB]
def OF {l:Af}{k:Nat}(hx:tm.get x=some (.tuple l.toArray))(hk:l[k]? =some v)(call:i8):xop PR call tm hp (.extract (.tmp x) k)=some (v,hp):=by
 have h:U5 (.tuple l.toArray) k=some v:=by simp only[U5];simpa using hk
 simp only[c8,j5,c9,hx,Ud,h,i7]
def b_2 {bd d nb l zb j y p:Nat}{g:Ao}{u r:Av}(h1:tm.get 1=some (.pointer (some ⟨b,o,none⟩)))(hb:hp.m.get b=some (.cells cs nb l zb))(a:o+2<=nb)(hl:j9 cs o 2=some ws)(h2:tm.get 2=some (.pointer (some ⟨bd,d,none⟩)))(s:hp.m.get bd=some (.cells g j p y))(c:d+1<=j)(w:g.get d=some u)(hx:Y0 PR ov lkF [u,.agg ws.toArray] hp (.tuple [.agg vs.toArray,r].toArray) hp1)(hk:H7 hp hp1)(f:vs.length=10)(t:vs.all Value.oneCell'=true)(k:∀tm1,(∀x,x<4->tm1.get x=tm.get x)->tm1.get 4=some (.pointer (some ⟨hp1.nx,0,none⟩))->Q tm1 ⟨(hp1.m.set hp1.nx (some (.cells zVB 10 tVw 10))).set hp1.nx (some (.cells (fill zVB 0 vs) 10 tVw 10)),hp1.nx+1⟩):YN PR ov ar 35 bR2 tm hp Q:=by
 unfold bR2 bC;rw[wU];simp only[Go.Proofs.Tryz.f101,Ud,cdA,cdB];refine .region (.op rfl rfl (K4 h2 ((Do Lp s rfl c).trans w)) (.op rfl rfl (K4 (by rw[gp,TH (by decide)];exact h1) (Jz hb rfl a hl)) (.cons rfl rfl (EW lk_fn lk_ok (by rw[gp,TH (by decide),gp,TJ rfl]) (by rw[gp,TJ rfl]) hx) ?_)));refine .op rfl rfl (Jf (by simp only[gp];rfl)) (.op rfl rfl (OF (k:=0) (by simp only[gp];rfl) rfl) (.op rfl rfl (OF (k:=1) (by simp only[gp];rfl) rfl) (.op rfl rfl KX ?_)));refine .op rfl rfl (dU (by simp only[gp];rfl) (by simp only[gp];rfl) (st_V (by rw[VX,TJ rfl]) (by omega) f t)) (.op rfl rfl (Je (by simp only[gp,gn];rfl)) (.nil ⟨⟨Us hk.nx (UI _),fun q hq h=>?_⟩,k _ (fun x hx=>?_) ?_⟩));have:=hk.nx;show((hp1.m.set hp1.nx _).set hp1.nx _).get q=_;rw[VX,TH (by omega),VX,TH (by omega)];exact hk.dfr q hq h
 ·simp only[gp,gn];iterate 8 rw[TH (by omega)]
 simp only[gp,gn];rfl
