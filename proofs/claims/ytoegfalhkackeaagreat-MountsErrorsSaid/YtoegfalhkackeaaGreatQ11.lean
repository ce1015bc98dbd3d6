/- Mounts: Cost's code, region by region.
  Conditions: none. -/
import Derived.Test.YtoegfalhkackeaaGreatQ9
set_option maxRecDepth 10000
set_option linter.all false
noncomputable section
namespace Go.D
open Go Go.Xe Go.Sx
abbrev cC :Code:=R5 PR cF
abbrev cX :Code:=cdB (cdB cC)
abbrev cR0 :Code:=cdA cC
abbrev cR1 :Code:=cdA (cdB cC)
abbrev cR2 :Code:=cdA (cdA cX)
abbrev cR3 :Code:=cdA (cdA (cdB (cdA cX)))
abbrev cR4 :Code:=cdA (cdB cX)
abbrev cY :Code:=cdA (cdB (cdB cX))
abbrev cR5 :Code:=cdA cY
abbrev cRF :Code:=cdA (cdB cY)
abbrev cR6 :Code:=cdAs cRF
abbrev cBo :Code:=cdBo cRF
abbrev cR7 :Code:=cdA cBo
abbrev cR8 :Code:=cdA (cdB (cdB (cdB cX)))
def c_bo :cBo= .block 1 cR7:=by kernel_rfl
def Kn :R5 PR cF= .seq cR0 (.seq cR1 (.seq (.seq cR2 (.cond (.tmp 10) (.seq cR3 .ret) .skip)) (.seq cR4 (.seq (.seq cR5 (.block 0 (.rangeFunc (.tmp 13) #[14] cR6 cBo))) (.seq cR8 .ret))))):=by kernel_rfl
section
variable {ov :Aa}{hp hp1:Hp}{tm:Ao}{ws:Af}{b b2 b5:Nat}{Q:Ao->Hp->Prop}{cs:Ao}{ar:Ai}
def c_0 (h0:tm.get 0=some (.agg ws.toArray))(a:ws.length=6)(k:∀tm1,tm1.get 1=some (.pointer (some ⟨hp.nx,0,none⟩))->tm1.get 2=some (.pointer (some ⟨hp.nx+1,0,none⟩))->Q tm1 ⟨(hp.m.set hp.nx (some (.cells (fill .e 0 ws) 6 tN 6))).set (hp.nx+1) (some (.cells zCB 8 tC 8)),hp.nx+2⟩):YN PR ov ar 26 cR0 tm hp Q:=by
 unfold cR0 cC;rw[zS];simp only[Go.Proofs.Tryz.f23,RB,cdA,cdB];have e:(Value.agg ws.toArray).cells.toList=ws:=by simp[Value.cells]
 refine .region (.op rfl rfl (Gy Km h0) ?_);rw[e,a];refine .op rfl rfl JA (.op rfl rfl (Gx 0) (.nil ⟨⟨by show hp.nx<=hp.nx+1+1;omega,fun r hr h=>?_⟩,k _ ?_ ?_⟩));show((hp.m.set hp.nx _).set (hp.nx+1) _).get r=_;rw[TQ,Re (by omega),TQ,Re (by omega)];exact h;simp only[gp];rfl;simp only[gp];rfl
variable {n:Int}
def c_1 (h1:tm.get 1=some (.pointer (some ⟨b,0,none⟩)))(hb:hp.m.get b=some (.cells cs 6 tN 6))(hl:n9 cs 0 6=some ws)(hx:W8 PR ov nF [.agg ws.toArray] hp (i64 n) hp1)(hk:I8 hp hp1)(k:∀tm1,(∀x,x<3->tm1.get x=tm.get x)->tm1.get 4=some (i64 n)->Q tm1 hp1):YN PR ov ar 26 cR1 tm hp Q:=by unfold cR1 cC;rw[zS];simp only[Go.Proofs.Tryz.f23,RB,cdA,cdB];refine .region (.op rfl rfl (O3 h1 (xL hb rfl (by omega) hl)) (.cons rfl rfl (vW n_fn n_ok (by simp only[gp];rfl) hx) (.op rfl rfl (Pn (by simp only[gp];rfl)) (.nil ⟨hk,k _ (fun x hx=>?_) ?_⟩))));simp only[gp];rw[Re (by omega),Re (by omega),Re (by omega)];simp only[gp];rfl
def c_2 (h4:tm.get 4=some (i64 n))(k:∀tm1,(∀x,x<5->tm1.get x=tm.get x)->tm1.get 10=some (.bool (decide (n=0)))->Q tm1 hp):YN PR ov ar 26 cR2 tm hp Q:=by unfold cR2 cX cC;rw[zS];simp only[Go.Proofs.Tryz.f23,RB,cdA,cdB];refine .region (.op rfl rfl (El h4) (.op rfl rfl (Qz (k:=n) (by simp only[gp];rfl)) (.nil ⟨.refl _,k _ (fun x hx=>?_) ?_⟩)));simp only[gp];rw[Re (by omega),Re (by omega)];simp only[gp];rfl
def c_3 (h2:tm.get 2=some (.pointer (some ⟨b2,0,none⟩)))(hb:hp.m.get b2=some (.cells cs 8 tC 8))(k:∀tm1,tm1.get 2=some (.pointer (some ⟨b2,0,none⟩))->tm1.get 3=some (i64 14)->Q tm1 ⟨hp.m.set b2 (some (.cells (fill cs 0 [i64 0,i64 0,i64 0,i64 0,i64 0,i64 0,i64 0,i64 0]) 8 tC 8)),hp.nx⟩):YN PR ov ar 26 cR3 tm hp Q:=by unfold cR3 cX cC;rw[zS];simp only[Go.Proofs.Tryz.f23,RB,cdA,cdB];refine .region (.op rfl rfl Og (.op rfl rfl (dC (by simp only[gp];exact h2) (by simp only[gp];rfl) (st_C (vs:=[i64 0,i64 0,i64 0,i64 0,i64 0,i64 0,i64 0,i64 0]) hb (by omega) rfl rfl)) (.op rfl rfl (Gx 14) (.nil ⟨⟨Ri _,fun r hr h=>?_⟩,k _ ?_ ?_⟩))));show(hp.m.set b2 _).get r=_;rw[TQ];split;rename_i e;rw[e,hb]at h;cases h;exact h;simp only[gp,gn];exact h2;simp only[gp,gn];rfl
def c_4 (k:∀tm1,(∀x,x<5->tm1.get x=tm.get x)->tm1.get 5=some (.pointer (some ⟨hp.nx,0,none⟩))->Q tm1 ⟨(hp.m.set hp.nx (some (.cells zW 1 tW 1))).set hp.nx (some (.cells (fill zW 0 [i64 0]) 1 tW 1)),hp.nx+1⟩):YN PR ov ar 26 cR4 tm hp Q:=by unfold cR4 cX cC;rw[zS];simp only[Go.Proofs.Tryz.f23,RB,cdA,cdB];refine .region (.op rfl rfl JB (.op rfl rfl (JC (k:=0) (by simp only[gp];rfl) (st_W (by rw[TQ,Rh rfl]) (by omega))) (.nil ⟨⟨Ss _,fun r hr h=>?_⟩,k _ (fun x hx=>?_) ?_⟩)));show((hp.m.set hp.nx _).set hp.nx _).get r=_;rw[TQ,Re (by omega),TQ,Re (by omega)];exact h;simp only[gp,gn];rw[Re (by omega)];simp only[gp,gn];rfl
def c_5 {v:Av}(h1:tm.get 1=some (.pointer (some ⟨b,0,none⟩)))(hb:hp.m.get b=some (.cells cs 6 tN 6))(hl:n9 cs 0 6=some ws)(hx:W8 PR ov aG [.agg ws.toArray] hp v hp1)(hk:I8 hp hp1)(k:∀tm1,(∀x,x<6->tm1.get x=tm.get x)->tm1.get 13=some v->Q tm1 hp1):YN PR ov ar 26 cR5 tm hp Q:=by unfold cR5 cY cX cC;rw[zS];simp only[Go.Proofs.Tryz.f23,RB,cdA,cdB];refine .region (.op rfl rfl (O3 h1 (xL hb rfl (by omega) hl)) (.cons rfl rfl (vW JU Oy (by simp only[gp];rfl) hx) (.nil ⟨hk,k _ (fun x hx=>?_) ?_⟩)));simp only[gp];rw[Re (by omega),Re (by omega)];simp only[gp];rfl
def c_6 (a:tm.get 14=some (.agg ws.toArray))(c:ws.length=6)(d:ws.all Value.oneCell'=true)(k:∀tm1,(∀x,x≠6->tm1.get x=tm.get x)->tm1.get 6=some (.pointer (some ⟨hp.nx,0,none⟩))->Q tm1 ⟨(hp.m.set hp.nx (some (.cells zB 6 tN 6))).set hp.nx (some (.cells (fill zB 0 ws) 6 tN 6)),hp.nx+1⟩):YN PR ov ar 26 cR6 tm hp Q:=by unfold cR6 cRF cY cX cC;rw[zS];simp only[Go.Proofs.Tryz.f23,RB,cdA,cdB,cdAs];refine .region (.op rfl rfl pK (.op rfl rfl (dC (by simp only[gp];rfl) (by simp only[gp];exact a) (st_N (by rw[TQ,Rh rfl]) (by omega) c d)) (.nil ⟨⟨Ss _,fun r hr h=>?_⟩,k _ (fun x hx=>?_) ?_⟩)));show((hp.m.set hp.nx _).set hp.nx _).get r=_;rw[TQ,Re (by omega),TQ,Re (by omega)];exact h;simp only[gp,gn];rw[Re hx];simp only[gp,gn];rfl
variable {cw:Ao}
def c_7 {c l cc:Nat}{q:Aq}{a:Int}(f:tm.get 5=some (.pointer (some ⟨b5,0,none⟩)))(d:hp.m.get b5=some (.cells cw 1 tW 1))(hg:cw.get 0=some (i64 a))(g:tm.get 6=some (.pointer (some ⟨c,0,none⟩)))(hc:hp.m.get c=some (.cells cs 6 tN 6))(h3:cs.get 3=some (.slice q l cc))(a0:0<=a)(a1:a<1000000)(i:l<1000000)(k:∀tm1,Q tm1 ⟨hp.m.set b5 (some (.cells (fill cw 0 [i64 (a+l)]) 1 tW 1)),hp.nx⟩):YN PR ov ar 26 cR7 tm hp Q:=by unfold cR7 cBo cRF cY cX cC;rw[zS];simp only[Go.Proofs.Tryz.f23,RB,cdA,cdB,cdBo];refine .region (.op rfl rfl (O3 f ((KW Oz d rfl (by omega)).trans hg)) (.op rfl rfl (Oi (by simp only[gp];exact g)) (.op rfl rfl (O3 (by simp only[gp];rfl) ((KW Pr hc rfl (by omega)).trans h3)) (.op rfl rfl (Oj (by simp only[gp];rfl) rfl) ?_))));refine .op rfl rfl (Qx (k:=a) (l:=l) (by simp only[gp];rfl) (by simp only[gp];rfl) a0 a1 (by omega) (by omega)) (.op rfl rfl (dC (by simp only[gp];exact f) (by simp only[gp];rfl) (st_W d (by omega))) (.nil ⟨⟨Ri _,fun r hr h=>?_⟩,k _⟩));show(hp.m.set b5 _).get r=_;rw[TQ];split;rename_i e;rw[e,d]at h;cases h;exact h
def c_8 {a:Int}(h2:tm.get 2=some (.pointer (some ⟨b2,0,none⟩)))(h4:tm.get 4=some (i64 n))(f:tm.get 5=some (.pointer (some ⟨b5,0,none⟩)))(hb:hp.m.get b2=some (.cells cs 8 tC 8))(g:hp.m.get b5=some (.cells cw 1 tW 1))(hg:cw.get 0=some (i64 a))(n0:1<=n)(i:n<1000000)(k:∀tm1,tm1.get 2=some (.pointer (some ⟨b2,0,none⟩))->tm1.get 3=some (i64 0)->Q tm1 ⟨hp.m.set b2 (some (.cells (fill cs 0 [i64 n,i64 n,i64 0,i64 (n-1),i64 0,i64 0,i64 a,i64 0]) 8 tC 8)),hp.nx⟩):YN PR ov ar 26 cR8 tm hp Q:=by unfold cR8 cX cC;rw[zS];simp only[Go.Proofs.Tryz.f23,RB,cdA,cdB];refine .region (.op rfl rfl (El h4) (.op rfl rfl (El (by simp only[gp];exact h4)) (.op rfl rfl (El (by simp only[gp];exact h4)) (.op rfl rfl (Qy (k:=n) (by simp only[gp];rfl) n0 i) ?_))));refine .op rfl rfl (O3 (by simp only[gp];exact f) ((KW Oz g rfl (by omega)).trans hg)) (.op rfl rfl (Oh (a:=n) (b:=n) (c:=n-1) (d:=a) (by simp only[gp];rfl) (by simp only[gp];rfl) (by simp only[gp];rfl) (by simp only[gp];rfl)) ?_);refine .op rfl rfl (dC (by simp only[gp];exact h2) (by simp only[gp];rfl) (st_C (vs:=[i64 n,i64 n,i64 0,i64 (n-1),i64 0,i64 0,i64 a,i64 0]) hb (by omega) rfl rfl)) (.op rfl rfl (Gx 0) (.nil ⟨⟨Ri _,fun r hr h=>?_⟩,k _ ?_ ?_⟩));show(hp.m.set b2 _).get r=_;rw[TQ];split;rename_i e;rw[e,hb]at h;cases h;exact h;simp only[gp,gn];exact h2;simp only[gp,gn];rfl
end
def aL (n:a9):Nat:=n.a.length
def wB (s:a9)(k:Nat):Nat:=(((gM s).take k).map aL).sum
mutual
def rW :∀s:a9,((gM s).map aL).sum=qU s
 | .mk k t y a x c=>by simp only[gM,RM,List.sum_cons,qU,attNs_pre c];rfl
def attNs_pre :∀l:List a9,((preL l).map aL).sum=attNs l
 | []=>rfl|s::l=>by simp only[preL,RH,List.sum_append,attNs,rW s,attNs_pre l]
end
def Ki (s:a9):wB s s.size=qU s:=by unfold wB;rw[RK (by rw[Dh];exact Ri _),rW]
def Ig {s n:a9}{k:Nat}(h:(gM s)[k]? =some n):wB s (k+1)=wB s k+aL n:=by unfold wB;rw[List.take_add_one,h,RH,List.sum_append];simp
def MY (s:a9)(k:Nat):wB s k<=qU s:=by
 have:=rW s;have e:((gM s).map aL).sum=(((gM s).take k).map aL).sum+(((gM s).drop k).map aL).sum:=by rw[<-List.sum_append,<-RH,SP]
 unfold wB;omega
mutual
def GO :∀s:a9,U7 s->qU s<=8*s.size
 | .mk k t y a x c,h=>by
  unfold U7 at h;have b:a.length<=8:=by rcases h.1 with h|h;have:a=[]:=h.2.2.2.2.1;simp[this];exact h.2.2.2.2.1
  have:=attNs_le c h.2;simp only[qU,a9.size];omega
def attNs_le :∀l:List a9,AllAs l->attNs l<=8*a9.sizes l
 | [],_=>by simp[attNs]|s::l,h=>by unfold AllAs at h;have:=GO s h.1;have:=attNs_le l h.2;simp only[attNs,a9.sizes];omega
end
def OM (s:a9)(b5:Nat)(k:Nat)(g:FB):Prop:=∃cw:Ao,g b5=some (.cells cw 1 tW 1)/\cw.get 0=some (i64 (wB s k))
def costY (F:FB)(s:a9)(k:Nat)(args:Af):Prop:=∃(n:a9) (ws:Af),(gM s)[k]? =some n/\args=[.agg ws.toArray]/\ws.length=6/\NT F n (fun p=>ws[p]?)
section
variable {ov :Aa}{s:a9}{F:FB}{j b5 db:Nat}{hp2:Hp}{tms:Ao}
def Ik (hs:qU s<1000000)(hj:hp2.m.get j=some (.loop .ready none 26 tms #[14] cR6 cBo db))(L:j<hp2.nx)(t:b5<hp2.nx)(o:b5≠j)(t5:tms.get 5=some (.pointer (some ⟨b5,0,none⟩))):Ey PR ov j (fun b=>b=b5) hp2.nx hp2.m.get (OM s b5) (costY F s) where
 stab:=fun k g g' ⟨cw,h1,h2⟩ hh=>⟨cw,by rw[hh b5 rfl];exact h1,h2⟩
 wlt:=fun b hb=>by rw[hb];exact t
 nodfr:=fun k g b ⟨cw,h1,h2⟩ hb h=>by rw[hb,h1]at h;cases h
 arg:=fun k args ⟨n,ws,_,h2,h3,h4⟩=>⟨ws,h2,h3,h4.one h3⟩
 step:=by
  intro k args hp S I;obtain⟨n,ws,hn,rfl,E,l⟩:=I;have K:=l.one E;obtain⟨cw,r,hg⟩:=S.j;have i:=(S.old j L fun e=>o e.symm).trans hj;have J:=S.nx;obtain⟨tm1,hp1,X1,O,P,u⟩:YN PR ov (some j) 26 cR6 (kN tms [14] [.agg ws.toArray]) hp fun tm1 h1=>tm1.get 5=some (.pointer (some ⟨b5,0,none⟩))/\tm1.get 6=some (.pointer (some ⟨hp.nx,0,none⟩))/\h1=⟨(hp.m.set hp.nx (some (.cells zB 6 tN 6))).set hp.nx (some (.cells (fill zB 0 ws) 6 tN 6)),hp.nx+1⟩:=
   c_6 (by show(tms.set 14 _).get 14=_;rw[TQ,Rh rfl]) E K fun tm1 a b=>⟨by rw[a 5 (by decide)];show(tms.set 14 _).get 5=_;rw[TQ,Re (by decide)];exact t5,b,rfl⟩
  have v:∀b,b≠hp.nx->hp1.m.get b=hp.m.get b:=fun b hb=>by rw[u];show((hp.m.set hp.nx _).set hp.nx _).get b=_;rw[TQ,Re hb,TQ,Re hb]
  have G:hp1.m.get hp.nx=some (.cells (fill zB 0 ws) 6 tN 6):=by rw[u];show((hp.m.set hp.nx _).set hp.nx _).get hp.nx=_;rw[TQ,Rh rfl]
  have B:hp1.nx=hp.nx+1:=by rw[u]
  have A:hp1.m.get j=some (.loop .ready none 26 tms #[14] cR6 cBo db):=(v j (by omega)).trans i;let d:Hp:=⟨hp1.m.set j (some (.loop .busy none 26 tms #[14] cR6 cBo db)),hp1.nx⟩
  have w:∀b,b≠j->d.m.get b=hp1.m.get b:=fun b h1=>by show(hp1.m.set j _).get b=_;rw[TQ,Re h1]
  have x:d.m.get j=some (.loop .busy none 26 tms #[14] cR6 cBo db):=by show(hp1.m.set j _).get j=_;rw[TQ,Rh rfl]
  obtain⟨⟨_,_,_,⟨Q,h3,y⟩,_⟩,_⟩:=l;obtain⟨q,c,rfl⟩:=FJ y;have M:(n.a.map Att.row).length=aL n:=by rw[Rc];rfl
  have st:=Ig hn;have bd:=MY s (k+1);have H:d.m.get b5=some (.cells cw 1 tW 1):=by rw[w b5 o,v b5 (by omega)];exact r
  obtain⟨C,f,X2,p⟩:YN PR ov (some j) 26 cBo tm1 d fun _ h2=>h2=⟨d.m.set b5 (some (.cells (fill cw 0 [i64 (wB s k+((n.a.map Att.row).length:Nat))]) 1 tW 1)),d.nx⟩:=by rw[c_bo];refine .block (c_7 (c:=hp.nx) (cs:=fill zB 0 ws) (cw:=cw) O H hg P (by rw[w _ (by omega)];exact G) (by rw[l8,Rh ⟨by omega,by omega⟩];exact h3) (by omega) (by omega) (by omega) fun C=>rfl)
  have z:f.m.get j=some (.loop .busy none 26 tms #[14] cR6 cBo db):=by rw[p];show(d.m.set b5 _).get j=_;rw[TQ,Re (fun e=>o e.symm)];exact x
  have N:f.nx=hp.nx+1:=by rw[p];exact B
  have D:∀b,b<hp.nx-> ¬b=b5->(f.m.set j (some (.loop .ready none 26 tms #[14] cR6 cBo db))).get b=hp.m.get b:=fun b h1 h2=>by rw[TQ];split;rename_i e;rw[e];exact i.symm;rename_i e;rw[p];show(d.m.set b5 _).get b=_;rw[TQ,Re h2,w b e,v b (by omega)]
  refine⟨⟨f.m.set j (some (.loop .ready none 26 tms #[14] cR6 cBo db)),f.nx⟩,xrnd i rfl rfl X1 A X2 z,⟨by show hp2.nx<=f.nx;omega,fun b hb r=>?_,fill cw 0 [i64 (wB s k+((n.a.map Att.row).length:Nat))],?_,?_⟩,⟨by show hp.nx<=f.nx;omega,D⟩⟩;show(f.m.set j _).get b=_;rw[D b (by omega) r];exact S.old b hb r;show(f.m.set j _).get b5=_;rw[TQ,Re o,p];show(d.m.set b5 _).get b5=_;rw[TQ,Rh rfl];rw[l8,Rh ⟨by omega,by simp⟩,M,st];simp
