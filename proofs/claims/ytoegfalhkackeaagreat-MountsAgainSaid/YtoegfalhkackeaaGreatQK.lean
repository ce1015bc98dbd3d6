/- Mounts: handles are collected (slices.AppendSeq): its rounds.
  Conditions: none. -/
import Derived.Test.YtoegfalhkackeaaGreatQJ
set_option maxRecDepth 10000
set_option linter.all false
noncomputable section
namespace Go.D
open Go Go.Xe Go.Sx
def appJ (D:DM)(L:Ah)(bx:Nat)(k:Nat)(O:Nat->Prop)(g:FB):Prop:=O bx/\(∀b,O b->g b≠some .dfr)/\ ∃(cw:Ao) (v:Av) (q:Ai),g bx=some (.cells cw 1 tHs 1)/\cw.get 0=some v/\SlK g v k ((L.take k).flatMap (hv D)) q/\ ∀r,q=some r->O r/\r≠bx
def appY (D:DM)(L:Ah)(k:Nat)(args:Af):Prop:=∃x:Nat,L[k]? =some x/\args=[.agg (hv D x).toArray]
def SlK.mono {g g':FB}{v:Av}{k:Nat}{us:Af}{q:Ai}(h:SlK g v k us q)(hg:∀r,q=some r->g' r=g r):SlK g' v k us q:=by rcases h with h| ⟨h1,r,c,h2,h3,h4,h5⟩;exact .inl h;exact .inr ⟨h1,r,c,h2,(hg r h5).trans h3,h4,h5⟩
section
variable {ov :Aa}{D:DM}{L:Ah}{j bx db:Nat}{hp2:Hp}{tms:Ao}
def LA (hL:L.length<=1000000)(hj:hp2.m.get j=some (.loop .ready none 13 tms #[7] sR2 sBo db))(j1:j<hp2.nx)(bn:bx<hp2.nx)(y:bx≠j)(t2:tms.get 2=some (.pointer (some ⟨bx,0,none⟩))):sP PR ov j 2 hp2.nx hp2.m.get (fun b=>b=bx) (appJ D L bx) (appY D L) where
 stab:=fun k O g g' ⟨h1,h2,cw,v,q,h3,h4,h5,h6⟩ hh=>⟨h1,fun b hb=>by rw[hh b hb];exact h2 b hb,cw,v,q,by rw[hh bx h1];exact h3,h4,h5.mono fun r hr=>hh r (h6 r hr).1,h6⟩
 nodfr:=fun k O g b h hb=>h.2.1 b hb
 arg:=fun k args ⟨x,_,h⟩=>⟨hv D x,h,rfl,rfl⟩
 step:=by
  intro k O args hp S hY;obtain⟨x,hx,rfl⟩:=hY;obtain⟨J,nd,cw,v,q,w,hg,U,hq⟩:=S.j;have I:¬O j:=fun h=>y (S.own j j1 h).symm;have u:=(S.old j j1 I).trans hj;have ab:=S.nx;have bl:=S.lt bx J;have hk:k<L.length:=(Tn.1 hx).1;obtain⟨tm1,hp1,X1,q2,q5,e1⟩:YN PR ov (some j) 13 sR2 (iA tms [7] [.agg (hv D x).toArray]) hp fun tm1 h1=>tm1.get 2=some (.pointer (some ⟨bx,0,none⟩))/\tm1.get 5=some (.pointer (some ⟨hp.nx,0,none⟩))/\h1=⟨(hp.m.set hp.nx (some (.cells zHB 2 tHn 2))).set hp.nx (some (.cells (fill zHB 0 (hv D x)) 2 tHn 2)),hp.nx+1⟩:=
   s_2 (by show(tms.set 7 _).get 7=_;rw[VX,TJ rfl]) rfl rfl fun tm1 a b=>⟨by rw[a 2 (by decide)];show(tms.set 7 _).get 2=_;rw[VX,TH (by decide)];exact t2,b,rfl⟩
  have g1:∀b,b≠hp.nx->hp1.m.get b=hp.m.get b:=fun b hb=>by rw[e1];show((hp.m.set hp.nx _).set hp.nx _).get b=_;rw[VX,TH hb,VX,TH hb]
  have gq:hp1.m.get hp.nx=some (.cells (fill zHB 0 (hv D x)) 2 tHn 2):=by rw[e1];show((hp.m.set hp.nx _).set hp.nx _).get hp.nx=_;rw[VX,TJ rfl]
  have X:hp1.nx=hp.nx+1:=by rw[e1]
  have R:hp1.m.get j=some (.loop .ready none 13 tms #[7] sR2 sBo db):=(g1 j (by omega)).trans u;let f:Hp:=⟨hp1.m.set j (some (.loop .busy none 13 tms #[7] sR2 sBo db)),hp1.nx⟩
  have K:∀b,b≠j->b≠hp.nx->f.m.get b=hp.m.get b:=fun b h1 h2=>by show(hp1.m.set j _).get b=_;rw[VX,TH h1];exact g1 b h2
  have M:f.m.get j=some (.loop .busy none 13 tms #[7] sR2 sBo db):=by show(hp1.m.set j _).get j=_;rw[VX,TJ rfl]
  have N:f.m.get hp.nx=some (.cells (fill zHB 0 (hv D x)) 2 tHn 2):=by show(hp1.m.set j _).get hp.nx=_;rw[VX,TH (by omega)];exact gq
  have ad:f.nx=hp.nx+1:=X;let o:Hp:=⟨f.m.set f.nx (some (.cells (fill .e 0 (hv D x)) 2 tHn 2)),f.nx+1⟩
  have C:∀b,b≠f.nx->o.m.get b=f.m.get b:=fun b h=>by show(f.m.set f.nx _).get b=_;rw[VX,TH h]
  have ah:o.nx=hp.nx+2:=by show f.nx+1=_;omega
  have H:∀b,O b->o.m.get b=hp.m.get b:=fun b hb=>by have:=S.lt b hb;rw[C b (by omega),K b (fun e=>I (by rw[<-e];exact hb)) (by omega)]
  obtain⟨v',d,ha,ac,l,i,V⟩:=appH (hp:=o) (c:=f.nx) (ws:=hv D x) (U.mono fun r hr=>H r (hq r hr).1) (by omega) (by show(f.m.set f.nx _).get f.nx=_;rw[VX,TJ rfl]) rfl rfl (fun r hr=>by have:=S.lt r (hq r hr).1;omega);obtain⟨p,m,rfl⟩:=l.len;have qO:∀b,¬O b->q≠some b:=fun b hb e=>hb (hq b e).1;have P:o.m.get bx=some (.cells cw 1 tHs 1):=(H bx J).trans w;have bq:q≠some bx:=fun e=>(hq bx e).2 rfl;have z:d.m.get bx=some (.cells cw 1 tHs 1):=(i bx (by omega) bq).trans P;have W:H7 f d:=⟨by omega,fun r hr h=>by
   have F:r≠f.nx:=by omega
   rw[i r (by omega) fun e=>nd r (hq r e).1 (by rw[<-H r (hq r e).1,C r F];exact h),C r F];exact h⟩
  obtain⟨Z,n,X2,e2⟩:YN PR ov (some j) 13 sBo tm1 f fun _ h2=>h2=⟨d.m.set bx (some (.cells (fill cw 0 [.slice p (k+1) m]) 1 tHs 1)),d.nx⟩:=by rw[s_bo];exact .block (s_3 (c:=hp.nx) (cc:=fill zHB 0 (hv D x)) q2 ((K bx y (by omega)).trans w) hg (by omega) q5 N (iX rfl) rfl ha z W fun Z=>rfl)
  have G:∀b,b≠bx->n.m.get b=d.m.get b:=fun b hb=>by rw[e2];show(d.m.set bx _).get b=_;rw[VX,TH hb]
  have A:n.m.get bx=some (.cells (fill cw 0 [.slice p (k+1) m]) 1 tHs 1):=by rw[e2];show(d.m.set bx _).get bx=_;rw[VX,TJ rfl]
  have Y:n.nx=hp.nx+3:=by rw[e2];show d.nx=_;omega
  have Q:n.m.get j=some (.loop .busy none 13 tms #[7] sR2 sBo db):=by rw[G j (fun e=>y e.symm),i j (by omega) (qO j I),C j (by omega)];exact M
  let t:Hp:=⟨n.m.set j (some (.loop .ready none 13 tms #[7] sR2 sBo db)),n.nx⟩
  have B:∀b,b≠j->t.m.get b=n.m.get b:=fun b hb=>by show(n.m.set j _).get b=_;rw[VX,TH hb]
  have gN:∀b,b<hp.nx-> ¬O b->t.m.get b=hp.m.get b:=fun b h1 h2=>by by_cases e:b=j;subst e;show(n.m.set b _).get b=_;rw[VX,TJ rfl];exact u.symm;rw[B b e,G b (fun e=>h2 (by rw[e];exact J)),i b (by omega) (qO b h2),C b (by omega),K b e (by omega)]
  have ae:t.nx=hp.nx+3:=Y;have s:t.m.get o.nx=d.m.get o.nx:=by rw[B _ (by omega),G _ (by omega)]
  have us:(L.take k).flatMap (hv D)++hv D x=(L.take (k+1)).flatMap (hv D):=by rw[List.take_add_one,hx,List.flatMap_append];simp
  rw[us]at l;refine⟨t,fun b=>O b\/b=o.nx,xrnd u rfl rfl X1 R X2 Q,⟨by show hp2.nx<=t.nx;omega,fun b hb w=>?_,fun b hb=>?_,fun b hb w=>?_,fun b hb=>.inl (S.mono b hb),.inl J,fun b hb=>?_,fill cw 0 [.slice p (k+1) m],.slice p (k+1) m,some o.nx,?_,?_,l.mono fun r hr=>?_,fun r hr=>?_⟩,⟨by show hp.nx<=t.nx;omega,gN⟩,fun b hb=>.inl hb,fun b hb=>?_⟩;rw[gN b (by omega) fun h=>w (.inl h)];exact S.old b hb fun h=>w (.inl h);rcases hb with hb|rfl;have:=S.lt b hb;omega;omega;rcases w with h|h;exact S.own b hb h;omega
  ·rcases hb with hb|rfl
   ·by_cases e:b=bx;subst e;rw[B b y,A];exact fun h=>by cases h
    ·have aa:=S.lt b hb;rw[B b (fun e=>I (by rw[<-e];exact hb)),G b e];by_cases E:q=some b;rw[V b E];exact fun h=>by cases h
     rw[i b (by omega) E,H b hb];exact nd b hb
   rw[s];rcases l with⟨h,_⟩| ⟨_,r,c,_,h3,_,h5⟩;omega;cases h5;rw[h3];exact fun h=>by cases h
  rw[B bx y];exact A;rw[j8,TJ ⟨by omega,by simp⟩];rfl;cases hr;exact s;cases hr;exact⟨.inr rfl,by omega⟩;rcases hb with hb|rfl;exact .inl hb;exact .inr (by omega)
end
section
variable {ov :Aa}{D:DM}{c b ob bd od nb eb zb nd ed zd:Nat}{u:Av}{hp hp':Hp}{cs cd:Ao}{tm:Ao}{Q:Ao->Hp->Prop}{v a:Av}
def ColR (D:DM)(c:Nat)(hp:Hp)(v:Av)(hp':Hp):Prop:=hp.nx<=hp'.nx/\(∀b,b<hp.nx->hp'.m.get b=hp.m.get b)/\ ∃q,SlK hp'.m.get v (bel D 1001 c).length ((bel D 1001 c).flatMap (hv D)) q/\ ∀r,q=some r->hp.nx<=r/\r<hp'.nx
def PM (G:Xe.isT (ov sF)=false)(hB:xH ov D hp.nx hp.m.get u c)(y:(bel D 1001 c).length<=1000000)(hb:hp.m.get b=some (.cells cs nb eb zb))(H:ob+2<=nb)(hl:j9 cs ob 2=some (hv D c))(b1:b<hp.nx)(hd:hp.m.get bd=some (.cells cd nd ed zd))(I:od+1<=nd)(F:cd.get od=some u)(d1:bd<hp.nx):∃v hp',Y0 PR ov sF [.slice none 0 0,.func (.func bF) #[] #[.pointer (some ⟨b,ob,none⟩),.pointer (some ⟨bd,od,none⟩)]] hp v hp'/\ColR D c hp v hp':=by
 obtain⟨tm1,hp1,X0,p1,p2,e1⟩:=s_0 (ov:=ov) (ar:=none) (hp:=hp) (v:= .func (.func bF) #[] #[.pointer (some ⟨b,ob,none⟩),.pointer (some ⟨bd,od,none⟩)]) (tm:=fill .e 0 [.slice none 0 0,.func (.func bF) #[] #[.pointer (some ⟨b,ob,none⟩),.pointer (some ⟨bd,od,none⟩)]]) (Q:=fun tm1 h1=>tm1.get 1=some (.func (.func bF) #[] #[.pointer (some ⟨b,ob,none⟩),.pointer (some ⟨bd,od,none⟩)])/\tm1.get 2=some (.pointer (some ⟨hp.nx,0,none⟩))/\h1=⟨hp.m.set hp.nx (some (.cells (fill .e 0 [.slice none 0 0]) 1 tHs 1)),hp.nx+1⟩)
  (by rw[p6 _ _ (by simp)];rfl) (by rw[p6 _ _ (by simp)];rfl) fun tm1 a1 a2=>⟨a1,a2,rfl⟩
 have g1:∀c,c<hp.nx->hp1.m.get c=hp.m.get c:=fun c hc=>by rw[e1];show(hp.m.set hp.nx _).get c=_;rw[VX,TH (by omega)]
 have p:hp1.m.get hp.nx=some (.cells (fill .e 0 [.slice none 0 0]) 1 tHs 1):=by rw[e1];show(hp.m.set hp.nx _).get hp.nx=_;rw[VX,TJ rfl]
 have ab:hp1.nx=hp.nx+1:=by rw[e1]
 obtain⟨g,d,X1,R,q6,e2⟩:=s_1 (ov:=ov) (ar:=none) (hp:=hp1) (Q:=fun g h2=>(∀x,x≠6->g.get x=tm1.get x)/\g.get 6=some (.func (.func bF) #[] #[.pointer (some ⟨b,ob,none⟩),.pointer (some ⟨bd,od,none⟩)])/\h2=hp1) p1 fun g a b=>⟨a,b,rfl⟩
 subst e2;let O:Blk:= .loop .ready none 13 g #[7] sR2 sBo d.nx
 let i:Hp:=⟨(d.m.set d.nx (some .dfr)).set (d.nx+1) (some O),d.nx+2⟩
 have C:∀b,b<d.nx->i.m.get b=d.m.get b:=fun b hb=>by show((d.m.set d.nx _).set (d.nx+1) _).get b=_;rw[VX,TH (by omega),VX,TH (by omega)]
 have E:i.m.get d.nx=some .dfr:=by show((d.m.set d.nx _).set (d.nx+1) _).get d.nx=_;rw[VX,TH (by omega),VX,TJ rfl]
 have t:i.m.get (d.nx+1)=some O:=by show((d.m.set d.nx _).set (d.nx+1) _).get (d.nx+1)=_;rw[VX,TJ rfl]
 have ac:i.nx=hp.nx+3:=by show d.nx+2=_;omega
 have l:∀b,b<hp.nx->i.m.get b=hp.m.get b:=fun b hb=>(C b (by omega)).trans (g1 b hb);have s:i.m.get hp.nx=some (.cells (fill .e 0 [.slice none 0 0]) 1 tHs 1):=(C _ (by omega)).trans p;have W:=LA (ov:=ov) (D:=D) (L:=bel D 1001 c) (j:=d.nx+1) (bx:=hp.nx) (db:=d.nx) (hp2:=i) (tms:=g) y t (by omega) (by omega) (by omega) (by rw[R 2 (by decide)];exact p2);have Y:OSt i.nx i.m.get (fun b=>b=hp.nx) (appJ D (bel D 1001 c) hp.nx) 0 (fun b=>b=hp.nx) i:=
  ⟨TK _,fun _ _ _=>rfl,fun b hb=>by omega,fun _ _ h=>h,fun _ h=>h,rfl,fun b (hb:b=hp.nx)=>(by rw[hb,s];exact fun h=>(by cases h)),fill .e 0 [.slice none 0 0],.slice none 0 0,none,s,(by rw[p6 _ _ (by simp)];rfl),.inl ⟨rfl,rfl,rfl,rfl⟩,fun r hr=>(by cases hr)⟩
 obtain⟨f,V,Z,S7,K7,m7,U⟩:=hB (d.nx+1) i.nx 0 b ob bd od nb eb zb nd ed zd (fun b=>b=hp.nx) (fun b=>b=hp.nx) i.m.get _ _ i cs cd W Y (by rw[l b b1];exact hb) H hl (by omega) (by omega) (by rw[l bd d1];exact hd) I F (by omega) (by omega) (by omega) (fun b hb=>l b hb) (fun b hb=>by omega)
  (fun q x hq=>⟨x,by rw[TT];exact hq,rfl⟩)
 have B:∀b,b<i.nx->b≠hp.nx->f.m.get b=i.m.get b:=fun b hb A=>K7.2 b hb A;have n7:=S7.nx;have XR:XK PR ov none 13 (.rangeFunc (.tmp 6) #[7] sR2 sBo) g d .normal g ⟨f.m.set (d.nx+1) none,f.nx⟩:=XK.range (evt q6) b_fn b_ok Z ((B _ (by omega) (by omega)).trans E) ((B _ (by omega) (by omega)).trans t) (by omega) fun b hb k=>by
  have A:b≠hp.nx:=fun e=>by rw[e,p]at k;cases k
  rw[B b (by omega) A,C b hb];exact k
 let n:Hp:=⟨f.m.set (d.nx+1) none,f.nx⟩
 have g8:∀b,b≠d.nx+1->n.m.get b=f.m.get b:=fun b hb=>by show(f.m.set (d.nx+1) none).get b=_;rw[VX,TH hb]
 have M:¬V (d.nx+1):=fun h=>by rcases U _ h with h|h<;>omega
 obtain⟨oB,K,cw,v,q,A,hg,z,hq⟩:=S7.j;rw[TT,List.take_length]at z;obtain⟨o,aa,X4,u4,e9⟩:=s_4 (ov:=ov) (ar:=none) (tm:=g) (hp:=n) (v:=v) (cw:=cw) (Q:=fun o h9=>o.get 4=some v/\h9=n) (by rw[R 2 (by decide)];exact p2) (by rw[g8 _ (by omega)];exact A) hg fun o a=>⟨a,rfl⟩
 subst e9;have X:XK PR ov none 13 (H9 PR sF) (fill .e 0 [.slice none 0 0,.func (.func bF) #[] #[.pointer (some ⟨b,ob,none⟩),.pointer (some ⟨bd,od,none⟩)]]) hp .ret o n:=by rw[SE];exact X0.seq (XK.seq (X1.seq (XK.block XR)) (X4.seq .ret))
 obtain⟨J,r1,r2,S,r4⟩:=jS (ov:=ov) (args:=[.slice none 0 0,.func (.func bF) #[] #[.pointer (some ⟨b,ob,none⟩),.pointer (some ⟨bd,od,none⟩)]]) (c:=H9 PR sF) s_fn (by kernel_rfl) G (show XK PR ov none (2+(Go.Proofs.Tryz.f100.ntmps-2)) _ _ _ _ _ _ from(show 2+(Go.Proofs.Tryz.f100.ntmps-2)=13 from by kernel_rfl)▸X) (.inr rfl) (vs:=[v]) (fun h2 _=>by
  have e:Go.Proofs.Tryz.f100.results.toList=[.tmp 4]:=by kernel_rfl
  rw[e];simp only[I9,bU,u4,Ud])
 have P:∀b,b<hp.nx->n.m.get b=hp.m.get b:=fun b hb=>by rw[g8 b (by omega),B b (by omega) (by omega),l b hb]
 have ad:n.nx=f.nx:=rfl;refine⟨v,J,r1,by omega,fun b hb=>?_,q,z.mono fun r hr=>?_,fun r hr=>?_⟩;by_cases k:hp.m.get b=some .dfr;rw[r4.dfr b hb k,k];rw[S b (by rw[P b hb];exact k),P b hb];have w:=(hq r hr).1;have N:n.m.get r=f.m.get r:=g8 r fun e=>M (by rw[<-e];exact w);rw[S r (by rw[N];exact K r w),N];have w:=(hq r hr).1;have:=S7.lt r w;refine⟨?_,by omega⟩;rcases U r w with h|h<;>omega
abbrev oF :Ay:=52
def o_eq :H9 PR oF=Go.Proofs.Tryz.f52.body.getD .skip:=by kernel_rfl
def o_fn :PR.funcs[oF]? =some Go.Proofs.Tryz.f52:=by kernel_rfl
def OE {f:Ay}{fn:Func}{x:Nat}(hf:PR.funcs[f]? =some fn)(d:gA fn=true){ats:Array Ax}(hx:tm.get x=some a)(h:Y0 PR ov f [.slice none 0 0,a] hp v hp'):XOp PR ov (.call ⟨.value (.func f),#[.const (.slice none 0 0),.tmp x],ats⟩) tm hp v hp':=
 h.mono fun n k=>by have hc:cst (.slice none 0 0)=true:=rfl;simp only[c8,j5,Y8,c9,hc,hx,Ud,kQ,hf,d,TE];exact k
abbrev oR0 :Code:=cdA (H9 PR oF)
abbrev oR1 :Code:=cdA (cdB (H9 PR oF))
def Sd :H9 PR oF= .seq oR0 (.seq oR1 .ret):=by kernel_rfl
def o_0 (h0:tm.get 0=some v)(k:∀tm1,tm1.get 0=some v->Q tm1 hp):YN PR ov none 5 oR0 tm hp Q:=by unfold oR0;rw[o_eq];simp only[Go.Proofs.Tryz.f52,Ud,cdA,cdB];exact .region (.op rfl rfl Jg (.nil ⟨.refl _,k _ (by simp only[gp];exact h0)⟩))
def o_1 (h0:tm.get 0=some v)(h:Y0 PR ov sF [.slice none 0 0,v] hp a hp')(hk:H7 hp hp')(k:∀tm1,tm1.get 2=some a->Q tm1 hp'):YN PR ov none 5 oR1 tm hp Q:=by unfold oR1;rw[o_eq];simp only[Go.Proofs.Tryz.f52,Ud,cdA,cdB];refine .region (.op rfl rfl (Jf h0) (.cons rfl rfl (OE s_fn s_ok (by rw[gp,TJ rfl]) h) (.op rfl rfl (Je (by simp only[gp];rfl)) (.nil ⟨hk,k _ ?_⟩))));simp only[gp];rfl
def OS (i:Xe.isT (ov oF)=false)(h:Y0 PR ov sF [.slice none 0 0,u] hp v hp')(hc:ColR D c hp v hp'):∃f,Y0 PR ov oF [u] hp v f/\ColR D c hp v f:=by
 obtain⟨k1,k2,q,k3,k4⟩:=hc;obtain⟨tm1,hp1,X0,l,e1⟩:=o_0 (ov:=ov) (hp:=hp) (v:=u) (tm:=fill .e 0 [u]) (Q:=fun tm1 h1=>tm1.get 0=some u/\h1=hp) (by rw[p6 _ _ (by simp)];rfl) fun tm1 a=>⟨a,rfl⟩
 subst e1;have kp:H7 hp1 hp':=⟨k1,fun r hr h=>by rw[k2 r hr];exact h⟩
 obtain⟨d,hp2,X1,n,e2⟩:=o_1 (ov:=ov) (hp:=hp1) (tm:=tm1) (Q:=fun d h2=>d.get 2=some v/\h2=hp') l h kp fun d a=>⟨a,rfl⟩
 subst e2;have X:XK PR ov none 5 (H9 PR oF) (fill .e 0 [u]) hp1 .ret d hp2:=by rw[Sd];exact X0.seq (X1.seq .ret)
 obtain⟨j,r1,s,k,o⟩:=jS (ov:=ov) (args:=[u]) (c:=H9 PR oF) o_fn (by kernel_rfl) i (show XK PR ov none (1+(Go.Proofs.Tryz.f52.ntmps-1)) _ _ _ _ _ _ from(show 1+(Go.Proofs.Tryz.f52.ntmps-1)=5 from by kernel_rfl)▸X) (.inr rfl) (vs:=[v]) (fun h2 _=>by
  have e:Go.Proofs.Tryz.f52.results.toList=[.tmp 2]:=by kernel_rfl
  rw[e];simp only[I9,bU,n,Ud])
 refine⟨j,r1,by omega,fun b hb=>?_,q,k3.mono fun r hr=>?_,fun r hr=>?_⟩;by_cases g:hp1.m.get b=some .dfr;rw[o.dfr b hb g,g];rw[k b (by rw[k2 b hb];exact g),k2 b hb];refine k r ?_;rcases k3 with⟨_,_,_,h⟩| ⟨_,p,c',_,h3,_,h5⟩;rw[h]at hr;cases hr;rw[h5]at hr;cases hr;rw[h3];exact fun h=>by cases h
 have:=k4 r hr;omega
