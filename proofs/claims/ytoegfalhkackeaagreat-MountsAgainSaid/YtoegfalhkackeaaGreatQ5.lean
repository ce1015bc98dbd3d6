/- Mounts: the nodes of a tree are yielded (all): its code, step by step.
  Conditions: none. -/
import Derived.Test.YtoegfalhkackeaaGreatQ1
set_option maxRecDepth 10000
set_option linter.all false
noncomputable section
namespace Go.D
open Go Go.Xe Go.Sx
def Jq :Code->Code
 | .rangeFunc _ _ a _=>a|c=>c
def Jr :Code->Code
 | .rangeFunc _ _ _ b=>b|c=>c
abbrev aC :Code:=H9 PR aF
abbrev aLB :Code:=cdA (cdA (cdB (cdB (cdB aC))))
abbrev aL2 :Code:=cdB (cdB aLB)
abbrev aRF :Code:=cdA (cdB (cdB (cdA (cdA aL2))))
abbrev aR6 :Code:=Jq aRF
abbrev aBo :Code:=Jr aRF
abbrev aR7 :Code:=cdA (cdA aBo)
def a_bo :aBo= .block 3 (.seq aR7 (.cond (.tmp 23) .ret .skip)):=by kernel_rfl
section
variable {ov :Aa}{hp hp1:Hp}{tm:Ao}{ws:Af}{i b y:Nat}{Q:Ao->Hp->Prop}{cs cy:Ao}{ar:Ai}
def Mv {vs:Af}{o:Nat}(a:vs.length=6):j9 (fill cs o vs) o 6=some vs:=by have:=B3 (c:=fill cs o vs) (vs:=vs) (o:=o) (fun q hq=>by rw[j8,TJ ⟨by omega,by omega⟩];congr 1;omega);rwa[a]at this
def a_6 (a:tm.get 19=some (.agg ws.toArray))(c:ws.length=6)(d:ws.all Value.oneCell'=true)(k:∀tm1,(∀x,x≠5->tm1.get x=tm.get x)->tm1.get 5=some (.pointer (some ⟨hp.nx,0,none⟩))->Q tm1 ⟨(hp.m.set hp.nx (some (.cells zB 6 tN 6))).set hp.nx (some (.cells (fill zB 0 ws) 6 tN 6)),hp.nx+1⟩):YN PR ov ar 25 aR6 tm hp Q:=by unfold aR6 aRF aL2 aLB aC;rw[a_eq];simp only[Go.Proofs.Tryz.f108,Ud,cdA,cdB,Jq];refine .region (.op rfl rfl KW (.op rfl rfl (dU (by simp only[gp];rfl) (by simp only[gp];exact a) (st_N (by rw[VX,TJ rfl]) (by omega) c d)) (.nil ⟨⟨UI _,fun r hr h=>?_⟩,k _ (fun x hx=>?_) ?_⟩)));show((hp.m.set hp.nx _).set hp.nx _).get r=_;rw[VX,TH (by omega),VX,TH (by omega)];exact h;simp only[gp,gn];rw[TH hx];simp only[gp,gn];rfl
def a_7 {c:Nat}(h2:tm.get 2=some (.pointer (some ⟨y,0,none⟩)))(h5:tm.get 5=some (.pointer (some ⟨c,0,none⟩)))(hy:hp.m.get y=some (.cells (fill .e 0 [.chan (some i)]) 1 tYl 1))(hc:hp.m.get c=some (.cells cs 6 tN 6))(hl:j9 cs 0 6=some ws)(hx:Fl PR ov i [.agg ws.toArray] hp (.bool true) hp1)(hk:H7 hp hp1)(k:∀tm1,tm1.get 23=some (.bool false)->Q tm1 hp1):YN PR ov ar 25 aR7 tm hp Q:=by unfold aR7 aBo aRF aL2 aLB aC;rw[a_eq];simp only[Go.Proofs.Tryz.f108,Ud,cdA,cdB,Jr];refine .region (.op rfl rfl (K4 h2 ((Do agg_Y hy rfl (by omega)).trans (by rw[p6 _ _ (by simp)];rfl))) (.op rfl rfl (K4 (by rw[gp,TH (by decide)];exact h5) (ld_N' hc rfl (by omega) hl)) ?_));refine .cons rfl rfl (wP (i:=i) (vs:=[.agg ws.toArray]) (by rw[gp,TH (by decide),gp,TJ rfl]) ?_ hx) ?_;simp only[Y8,c9,gp];rfl;refine .op rfl rfl (Hm (by rw[gp,TJ rfl])) (.nil ⟨hk,k _ ?_⟩);simp only[gp];rfl
def evt {x:Nat}{v:Av}(h:tm.get x=some v):c9 tm (.tmp x)=some v:=by simp only[c9,h,Ud]
end
structure OSt (n0:Nat)(g0:Ac)(O0:Nat->Prop)(J:Nat->(Nat->Prop)->(Ac)->Prop)(k:Nat)(O:Nat->Prop)(hp:Hp):Prop where
 nx:n0<=hp.nx
 old:∀b,b<n0-> ¬O b->hp.m.get b=g0 b
 lt:∀b,O b->b<hp.nx
 own:∀b,b<n0->O b->O0 b
 mono:∀b,O0 b->O b
 j:J k O hp.m.get
structure sP (P:Aw)(ov:Aa)(i z n0:Nat)(g0:Ac)(O0:Nat->Prop)(J:Nat->(Nat->Prop)->(Ac)->Prop)(Y:Nat->Af->Prop):Prop where
 stab:∀k O g g',J k O g->(∀b,O b->g' b=g b)->J k O g'
 nodfr:∀k O g b,J k O g->O b->g b≠some .dfr
 arg:∀k args,Y k args-> ∃ws:Af,args=[.agg ws.toArray]/\ws.length=z/\ws.all Value.oneCell'=true
 step:∀k O args hp,OSt n0 g0 O0 J k O hp->Y k args-> ∃hp' O',Fl P ov i args hp (.bool true) hp'/\OSt n0 g0 O0 J (k+1) O' hp'/\Kp O hp hp'/\(∀b,O b->O' b)/\ ∀b,O' b->O b\/hp.nx<=b
section
variable {P :Aw}{ov:Aa}{i z n0 k:Nat}{O O0 O2:Nat->Prop}{g0:Ac}{J:Nat->(Nat->Prop)->(Ac)->Prop}{Y:Nat->Af->Prop}{hp hp' hp2:Hp}
def OSt.grow (R:sP P ov i z n0 g0 O0 J Y)(h:OSt n0 g0 O0 J k O hp)(hn:hp.nx<=hp'.nx)(hk:∀b,b<n0\/O b->hp'.m.get b=hp.m.get b):OSt n0 g0 O0 J k O hp':=
 ⟨Us h.nx hn,fun b hb a=>(hk b (.inl hb)).trans (h.old b hb a),fun b hb=>Uo (h.lt b hb) hn,h.own,h.mono,R.stab k _ _ _ h.j fun b hb=>hk b (.inr hb)⟩
def OSt.start (h:OSt n0 g0 O0 J k O hp):OSt hp.nx hp.m.get O J k O hp:=
 ⟨TK _,fun _ _ _=>rfl,h.lt,fun _ _ hb=>hb,fun _ hb=>hb,h.j⟩
def OSt.out (h2:OSt n0 g0 O0 J k O2 hp2){k':Nat}(h:OSt hp2.nx hp2.m.get O2 J k' O hp):OSt n0 g0 O0 J k' O hp:=
 ⟨Us h2.nx h.nx,fun b hb a=>(h.old b (Uo hb h2.nx) a).trans (h2.old b hb fun h'=>a (h.mono b h')),h.lt,fun b hb a=>h2.own b hb (h.own b (Uo hb h2.nx) a),fun b hb=>h.mono b (h2.mono b hb),h.j⟩
def OSt.inn {O':Nat->Prop}{k':Nat}(h2:OSt n0 g0 O0 J k O2 hp2){k1:Nat}(h:OSt hp2.nx hp2.m.get O2 J k1 O hp)(h':OSt n0 g0 O0 J k' O' hp')(hk:∀b,b<hp2.nx-> ¬O' b->hp'.m.get b=hp2.m.get b)(hn:hp2.nx<=hp'.nx)(c:∀b,O b->O' b)(d:∀b,O' b->O b\/hp2.nx<=b):OSt hp2.nx hp2.m.get O2 J k' O' hp':=
 ⟨hn,hk,h'.lt,fun b hb a=>by rcases d b a with h3|h3;exact h.own b hb h3;omega,fun b hb=>c b (h.mono b hb),h'.j⟩
end
abbrev bF :Ay:=101
abbrev bG :Ay:=53
abbrev tHn :Ax:=34
abbrev tYh :Ax:=162
def wU :H9 PR bF=Go.Proofs.Tryz.f101.body.getD .skip:=by kernel_rfl
def b_fn :PR.funcs[bF]? =some Go.Proofs.Tryz.f101:=by kernel_rfl
def b_ok :gA Go.Proofs.Tryz.f101=true:=by kernel_rfl
def Qt :H9 PR bG=Go.Proofs.Tryz.f53.body.getD .skip:=by kernel_rfl
def Qu :PR.funcs[bG]? =some Go.Proofs.Tryz.f53:=by kernel_rfl
def bg_ok :gA Go.Proofs.Tryz.f53=true:=by kernel_rfl
def Qx :Nat.beq tHn rgT=false:=by kernel_rfl
def Ro :Nat.beq tYh rgT=false:=by kernel_rfl
def Lq :(PR.underlying tYh).map dY=some false:=by kernel_rfl
def agg_H :(PR.underlying tHn).map dY=some true:=by kernel_rfl
noncomputable def niH :Ba:=(PR.info? tHn).getD default
def pM :PR.info? tHn=some niH:=by kernel_rfl
def dH :niH.size=2:=by kernel_rfl
def zH :Av:=(V0 PR tHn).getD undef
def QZ :V0 PR tHn=some zH:=by kernel_rfl
def qS :zH.cells.toList.length=2:=by kernel_rfl
def zHB :Ao:=fill .e 0 zH.cells.toList
section
variable {ov :Aa}{hp hp1 hp':Hp}{tm:Ao}{x y t i o n e z b:Nat}{cs:Ao}{vs ws:Af}{v a:Av}{Q:Ao->Hp->Prop}{ar:Ai}
theorem Jz {m:T Blk}{nx:Nat}{c:Blk}(h:m.get i=some c)(hr:rdC c=some (cs,n,z))(hn:o+2<=n)(hl:j9 cs o 2=some vs):F8 PR ⟨m,nx⟩ tHn (.pointer (some ⟨i,o,none⟩))=some (.agg vs.toArray):=by
 have h1:=agg_H;cases f:PR.underlying tHn with
 |none=>grind|some d=>rw[f]at h1;simp at h1;simp only[F8,h,hr,f,h1,TE,pM,dH,Ts hn,hl]
def st_H (h:hp.m.get i=some (.cells cs n e z))(hn:o+2<=n)(hl:vs.length=2)(c:vs.all Value.oneCell'=true):E0 PR hp tHn (.pointer (some ⟨i,o,none⟩)) (.agg vs.toArray)=some {hp with m:=hp.m.set i (some (.cells (fill cs o vs) n e z))}:=by have:(Value.agg vs.toArray).cells.toList=vs:=rfl;simp only[E0,h,pM,dH,this,hl,t9,Ts hn,c,Bool.and_self,TE,H3]
def qK (call:i8):xop PR call tm hp (.alloc tHn)=some (.pointer (some ⟨hp.nx,0,none⟩),⟨hp.m.set hp.nx (some (.cells zHB 2 tHn 2)),hp.nx+1⟩):=by simp only[c8,j5,hX,Qx,TF,xnw,bR,QZ,L8,Hp.add,Nw.val,I5,qS,zHB]
def iX (h2:vs.length=2):j9 (fill cs o vs) o 2=some vs:=by have:=B3 (c:=fill cs o vs) (vs:=vs) (o:=o) (fun q hq=>by rw[j8,TJ ⟨by omega,by omega⟩];congr 1;omega);rwa[h2]at this
abbrev bC :Code:=H9 PR bF
abbrev bLB :Code:=cdA (cdA (cdB (cdB (cdB (cdB bC)))))
abbrev bL2 :Code:=cdB (cdB bLB)
abbrev bRF :Code:=cdA (cdB (cdB (cdA (cdA bL2))))
abbrev bR7 :Code:=Jq bRF
abbrev bBo :Code:=Jr bRF
abbrev bR8 :Code:=cdA (cdA bBo)
def b_bo :bBo= .block 3 (.seq bR8 (.cond (.tmp 33) .ret .skip)):=by kernel_rfl
def b_7 (c:tm.get 29=some (.agg ws.toArray))(h2:ws.length=2)(d:ws.all Value.oneCell'=true)(k:∀tm1,(∀x,x≠8->tm1.get x=tm.get x)->tm1.get 8=some (.pointer (some ⟨hp.nx,0,none⟩))->Q tm1 ⟨(hp.m.set hp.nx (some (.cells zHB 2 tHn 2))).set hp.nx (some (.cells (fill zHB 0 ws) 2 tHn 2)),hp.nx+1⟩):YN PR ov ar 35 bR7 tm hp Q:=by unfold bR7 bRF bL2 bLB bC;rw[wU];simp only[Go.Proofs.Tryz.f101,Ud,cdA,cdB,Jq];refine .region (.op rfl rfl qK (.op rfl rfl (dU (by simp only[gp];rfl) (by simp only[gp];exact c) (st_H (by rw[VX,TJ rfl]) (by omega) h2 d)) (.nil ⟨⟨UI _,fun r hr h=>?_⟩,k _ (fun x hx=>?_) ?_⟩)));show((hp.m.set hp.nx _).set hp.nx _).get r=_;rw[VX,TH (by omega),VX,TH (by omega)];exact h;simp only[gp,gn];rw[TH hx];simp only[gp,gn];rfl
def b_8 {c:Nat}(h3:tm.get 3=some (.pointer (some ⟨y,0,none⟩)))(d:tm.get 8=some (.pointer (some ⟨c,0,none⟩)))(hy:hp.m.get y=some (.cells (fill .e 0 [.chan (some i)]) 1 tYh 1))(hc:hp.m.get c=some (.cells cs 2 tHn 2))(hl:j9 cs 0 2=some ws)(hx:Fl PR ov i [.agg ws.toArray] hp (.bool true) hp1)(hk:H7 hp hp1)(k:∀tm1,tm1.get 33=some (.bool false)->Q tm1 hp1):YN PR ov ar 35 bR8 tm hp Q:=by unfold bR8 bBo bRF bL2 bLB bC;rw[wU];simp only[Go.Proofs.Tryz.f101,Ud,cdA,cdB,Jr];refine .region (.op rfl rfl (K4 h3 ((Do Lq hy rfl (by omega)).trans (by rw[p6 _ _ (by simp)];rfl))) (.op rfl rfl (K4 (by rw[gp,TH (by decide)];exact d) (Jz hc rfl (by omega) hl)) ?_));refine .cons rfl rfl (wP (i:=i) (vs:=[.agg ws.toArray]) (by rw[gp,TH (by decide),gp,TJ rfl]) ?_ hx) ?_;simp only[Y8,c9,gp];rfl;refine .op rfl rfl (Hm (by rw[gp,TJ rfl])) (.nil ⟨hk,k _ ?_⟩);simp only[gp];rfl
end
section
variable {ov :Aa}{i j y n0 k2 db:Nat}{g0:Ac}{O0 O2:Nat->Prop}{J:Nat->(Nat->Prop)->(Ac)->Prop}{Y:Nat->Af->Prop}{hp2:Hp}{tms:Ao}
def RM (R:sP PR ov i 2 n0 g0 O0 J Y)(S2:OSt n0 g0 O0 J k2 O2 hp2)(hj:hp2.m.get j=some (.loop .ready none 35 tms #[29] bR7 bBo db))(M:¬O2 j)(F:j<hp2.nx)(jn:n0<=j)(hy:hp2.m.get y=some (.cells (fill .e 0 [.chan (some i)]) 1 tYh 1))(X:¬O2 y)(G:y<hp2.nx)(Z:y≠j)(t3:tms.get 3=some (.pointer (some ⟨y,0,none⟩))):sP PR ov j 2 hp2.nx hp2.m.get O2 J Y where
 stab:=R.stab
 nodfr:=R.nodfr
 arg:=R.arg
 step:=by
  intro k O args hp S E;obtain⟨ws,rfl,h2,L⟩:=R.arg k args E;have o:¬O j:=fun h=>M (S.own j F h);have U:¬O y:=fun h=>X (S.own y G h);have f:=(S.old j F o).trans hj;have u:=(S.old y G U).trans hy;have K:=S.nx;have N:=S2.nx;obtain⟨tm1,hp1,X1,V,W,e1⟩:YN PR ov (some j) 35 bR7 (iA tms [29] [.agg ws.toArray]) hp fun tm1 h1=>tm1.get 3=some (.pointer (some ⟨y,0,none⟩))/\tm1.get 8=some (.pointer (some ⟨hp.nx,0,none⟩))/\h1=⟨(hp.m.set hp.nx (some (.cells zHB 2 tHn 2))).set hp.nx (some (.cells (fill zHB 0 ws) 2 tHn 2)),hp.nx+1⟩:=
   b_7 (by show(tms.set 29 _).get 29=_;rw[VX,TJ rfl]) h2 L fun tm1 a b=>⟨by rw[a 3 (by decide)];show(tms.set 29 _).get 3=_;rw[VX,TH (by decide)];exact t3,b,rfl⟩
  have C:∀b,b≠hp.nx->hp1.m.get b=hp.m.get b:=fun b hb=>by rw[e1];show((hp.m.set hp.nx _).set hp.nx _).get b=_;rw[VX,TH hb,VX,TH hb]
  have H:hp1.m.get hp.nx=some (.cells (fill zHB 0 ws) 2 tHn 2):=by rw[e1];show((hp.m.set hp.nx _).set hp.nx _).get hp.nx=_;rw[VX,TJ rfl]
  have A:hp1.nx=hp.nx+1:=by rw[e1]
  have t:hp1.m.get j=some (.loop .ready none 35 tms #[29] bR7 bBo db):=(C j (by omega)).trans f;let g:Hp:=⟨hp1.m.set j (some (.loop .busy none 35 tms #[29] bR7 bBo db)),hp1.nx⟩
  have q:∀b,b≠j->b≠hp.nx->g.m.get b=hp.m.get b:=fun b h1 h2=>by show(hp1.m.set j _).get b=_;rw[VX,TH h1];exact C b h2
  have r:g.m.get j=some (.loop .busy none 35 tms #[29] bR7 bBo db):=by show(hp1.m.set j _).get j=_;rw[VX,TJ rfl]
  have P:g.nx=hp.nx+1:=A;have SB:OSt n0 g0 O0 J k O g:=(S2.out S).grow R (by omega) fun b hb=>by
   have:b≠j/\b<hp.nx:=by rcases hb with hb|hb;omega;exact⟨fun e=>o (by rw[<-e];exact hb),S.lt b hb⟩
   exact q b this.1 (by omega)
  obtain⟨I,O',XR,SC,KC,w,x⟩:=R.step k O _ g SB E;have v:=KC.keeps fun b hb=>R.nodfr k O _ b SB.j hb;obtain⟨B,d,X2,e2⟩:YN PR ov (some j) 35 bBo tm1 g fun _ h2=>h2=I:=by rw[b_bo];refine .block (.seq (b_8 (i:=i) (y:=y) (c:=hp.nx) (cs:=fill zHB 0 ws) V W ?_ ?_ (iX h2) XR v fun B h=>.condF (evt h) (.skip rfl)));rw[q y Z (by omega)];exact u;show(hp1.m.set j _).get hp.nx=_;rw[VX,TH (by omega)];exact H
  subst e2;have s:d.m.get j=some (.loop .busy none 35 tms #[29] bR7 bBo db):=(KC.2 j (by omega) o).trans r;have Q:=KC.1;have z:¬O' j:=fun h=>by rcases x j h with h|h;exact o h;omega
  have D:∀b,b<hp.nx-> ¬O b->(d.m.set j (some (.loop .ready none 35 tms #[29] bR7 bBo db))).get b=hp.m.get b:=fun b h1 h2=>by rw[VX];split;rename_i e;rw[e];exact f.symm;rename_i e;rw[KC.2 b (by omega) h2];exact q b e (by omega)
  have p:OSt n0 g0 O0 J (k+1) O' ⟨d.m.set j (some (.loop .ready none 35 tms #[29] bR7 bBo db)),d.nx⟩:=SC.grow R (TK _) fun b hb=>by show(d.m.set j _).get b=_;rw[VX,TH];rintro rfl;rcases hb with hb|hb;omega;exact z hb
  refine⟨⟨d.m.set j (some (.loop .ready none 35 tms #[29] bR7 bBo db)),d.nx⟩,O',xrnd f rfl rfl X1 t X2 s,S2.inn S p (fun b hb n=>?_) (by show hp2.nx<=d.nx;omega) w (fun b n=>?_),⟨by show hp.nx<=d.nx;omega,D⟩,w,fun b n=>?_⟩;show(d.m.set j _).get b=_;have l:¬O b:=fun h=>n (w b h);rw[D b (by omega) l];exact S.old b hb l;rcases x b n with h|h;exact .inl h;exact .inr (by omega);rcases x b n with h|h;exact .inl h;exact .inr (by omega)
