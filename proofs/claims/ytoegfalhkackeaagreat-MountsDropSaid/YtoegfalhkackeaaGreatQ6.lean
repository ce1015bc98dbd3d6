/- Mounts: the nodes of a tree are yielded (all): rounds of a range that calls on.
  Conditions: none. -/
import Derived.Test.YtoegfalhkackeaaGreatQ1
set_option maxRecDepth 10000
set_option linter.all false
noncomputable section
namespace Go.D
open Go Go.Xe Go.Sx
variable {F:FB}
def Cc {e:Ax}{v:Av}{L:a8}(h:PV PR F (.sl e) v (.l L)):∃q c,v= .slice q L.length c:=by
 cases h with
 |nils=>exact⟨_,_,rfl⟩|vague=>exact⟨_,_,rfl⟩|sl e i o c=>exact⟨_,_,rfl⟩
def NT.one {t:c9}{ws:Af}(o:ws.length=6)(h:NT F t (λq=>ws[q]?)):ws.all Value.oneCell'=true:=by
 match ws,o with
 | [a,b,c,d,e,f],_=>obtain⟨⟨h0,h1,h2,⟨p,h3,g⟩,h4⟩,vc,n,m⟩:=h;obtain⟨q,l,rfl⟩:=Cc g;obtain⟨q',l',rfl⟩:=Cc m;cases h0;cases h1;cases h2;cases h3;cases h4;cases n;rfl
theorem NT.load {t:c9}{cs:Ao}(h:NT F t (at6 cs 0)):∃ws,j7 cs 0 6=some ws/\ws.length=6/\NT F t (λq=>ws[q]?):=by
 have g:∀k,k<6-> ∃x,cs.get (0+k)=some x:=λk hk=>by obtain⟨x,hx,_⟩:=h.cell k _ _ (Tf (by rw[Ec];exact hk)) (Tf (hk));exact⟨x,hx⟩
 have hl:j7 cs 0 6=some ((List.range 6).map λk=>(cs.get (0+k)).getD undef):=by have:=A9 (vs:=(List.range 6).map λk=>(cs.get (0+k)).getD undef) (o:=0) (λq hq=>by obtain⟨x,hx⟩:=g q hq;have e:q<6:=hq;simp[e];rw[TA]at hx;rw[hx];rfl);grind
 refine⟨_,hl,by simp,.of_cells λk d kd a hk=>?_⟩;have b:k<6:=by have:=(SW.1 a).1;rw[Ec]at this;exact this
 obtain⟨x,hx,hp⟩:=h.cell k d kd a hk;refine⟨x,?_,hp⟩;have hx:cs.get (0+k)=some x:=hx;grind
section
variable {ov :Aa}{i j y n0 k db:Nat}{W:Nat->Prop}{g0:Ac}{J:Nat->(Ac)->Prop}{Y:Nat->Af->Prop}{hp hp2:Hp}{tms:Ao}
theorem inner (R:Rnds PR ov i W n0 g0 J Y)(hn:n0<=hp2.nx)(l:∀b,b<n0-> ¬W b->hp2.m.get b=g0 b)(hj:hp2.m.get j=some (.loop .ready none 25 tms #[19] aR6 aBo db))(C:n0<=j)(N:j<hp2.nx)(hy:hp2.m.get y=some (.cells (fill .e 0 [.chan (some i)]) 1 tYl 1))(V:n0<=y)(X:y<hp2.nx)(Z:y≠j)(t2:tms.get 2=some (.pointer (some ⟨y,0,none⟩))):Rnds PR ov j W hp2.nx hp2.m.get J Y where
 stab:=R.stab
 wlt:=λb hb=>TX (R.wlt b hb) hn
 nodfr:=R.nodfr
 arg:=R.arg
 step:=by
  intro k args hp S B;obtain⟨ws,rfl,A,M⟩:=R.arg k args B;have t:∀b,n0<=b-> ¬W b:=λb hb d=>by have:=R.wlt b d;omega
  have f:=(S.old j N (t j C)).trans hj;have r:=(S.old y X (t y V)).trans hy;have L:=S.nx;obtain⟨tm1,hp1,D,Q,U,w⟩:YN PR ov (some j) 25 aR6 (gO tms [19] [.agg ws.toArray]) hp λtm1 h1=>tm1.get 2=some (.pointer (some ⟨y,0,none⟩))/\tm1.get 5=some (.pointer (some ⟨hp.nx,0,none⟩))/\h1=⟨(hp.m.set hp.nx (some (.cells zB 6 tN 6))).set hp.nx (some (.cells (fill zB 0 ws) 6 tN 6)),hp.nx+1⟩:=
   a_6 (by show(tms.set 19 _).get 19=_;rw[VF,Tp rfl]) A M λtm1 a b=>⟨by rw[a 2 (by omega)];show(tms.set 19 _).get 2=_;rw[VF,Tn (by omega)];exact t2,b,rfl⟩
  have x:∀b,b≠hp.nx->hp1.m.get b=hp.m.get b:=λb hb=>by rw[w];rw[VF,Tn hb,VF,Tn hb]
  have I:hp1.m.get hp.nx=some (.cells (fill zB 0 ws) 6 tN 6):=by rw[w];rw[VF,Tp rfl]
  have u:hp1.nx=hp.nx+1:=by grind
  have q:hp1.m.get j=some (.loop .ready none 25 tms #[19] aR6 aBo db):=(x j (by omega)).trans f;let g:Hp:=⟨hp1.m.set j (some (.loop .busy none 25 tms #[19] aR6 aBo db)),hp1.nx⟩
  have n:∀b,b≠j->b≠hp.nx->g.m.get b=hp.m.get b:=λb h1 h2=>by rw[VF,Tn h1];exact x b h2
  have o:g.m.get j=some (.loop .busy none 25 tms #[19] aR6 aBo db):=by rw[VF,Tp rfl]
  have O:g.nx=hp.nx+1:=u;have SB:St W n0 g0 J k g:=⟨by omega,λb hb d=>by rw[n b (by omega) (by omega),S.old b (by omega) d];exact l b hb d,R.stab k _ _ S.j λb d=>n b (by grind) (by grind)⟩
  obtain⟨K,XR,SC,KC⟩:=R.step k _ g SB B;have s:=KC.keeps λb hb=>R.nodfr k _ b SB.j hb;obtain⟨v,c,E,G⟩:YN PR ov (some j) 25 aBo tm1 g λ_ h2=>h2=K:=by refine .block (.seq (a_7 (cs:=fill zB 0 ws) Q U ?_ ?_ (Mv A) XR s λv h=>.condF (evt h) (.skip rfl)));rw[n y Z (by omega)];exact r;show(hp1.m.set j _).get hp.nx=_;rw[VF,Tn (by omega)];exact I
  subst G;have p:c.m.get j=some (.loop .busy none 25 tms #[19] aR6 aBo db):=(KC.2 j (by omega) (t j C)).trans o;have P:=KC.1;have H:∀b,b<hp.nx-> ¬W b->b≠j->c.m.get b=hp.m.get b:=λb h1 h2 h3=>by rw[KC.2 b (by omega) h2];exact n b h3 (by omega)
  have z:∀b,b<hp.nx-> ¬W b->(c.m.set j (some (.loop .ready none 25 tms #[19] aR6 aBo db))).get b=hp.m.get b:=λb h1 h2=>by rw[VF];split;rename_i e;rw[e];exact f.symm;rename_i e;exact H b h1 h2 e
  refine⟨⟨c.m.set j (some (.loop .ready none 25 tms #[19] aR6 aBo db)),c.nx⟩,xrnd f rfl rfl D q E p,⟨by show hp2.nx<=c.nx;omega,λb hb d=>?_,?_⟩,⟨by show hp.nx<=c.nx;omega,z⟩⟩;show(c.m.set j _).get b=_;rw[z b (by omega) d];exact S.old b hb d;refine R.stab (k+1) _ _ SC.j λb d=>?_;rw[VF,Tn (by grind)]
end
end Go.D
namespace Go.D
open Go Go.Xe Go.Sx
mutual
def MT :c9->List c9
 | .mk k t y a x c=>.mk k t y a x c::preL c
def preL :List c9->List c9
 | []=>[]
 |s::l=>MT s++preL l
end
mutual
def MU :∀s:c9,(MT s).length=s.size
 | .mk k t y a x c=>by simp only[MT,c9.size,TM,preL_len c]
def preL_len :∀l:List c9,(preL l).length=c9.sizes l
 | []=>rfl|s::l=>by simp only[preL,c9.sizes,Tv,MU s,preL_len l]
end
section
variable {ov :Aa}{hp:Hp}{ws:Af}
end
section
variable {ov :Aa}{s:c9}{i n0 k0 y:Nat}{W:Nat->Prop}{g0 F:FB}{J:Nat->FB->Prop}{Y:Nat->Af->Prop}{hpa:Hp}{vc:Av}
end
def Kp.leave {W:Nat->Prop}{hp a c:Hp}(K:Kp W hp a)(hn:c.nx=a.nx)(h:∀b,a.m.get b≠some .dfr->c.m.get b=a.m.get b)(kp:H4 hp c):Kp W hp c:=
 ⟨by rw[hn];exact K.1,λb hb e=>by by_cases d:a.m.get b=some .dfr;have:=K.2 b hb e;rw[d]at this;rw[<-this];exact kp.dfr b hb this.symm;rw[h b d];exact K.2 b hb e⟩
section
variable {ov :Aa}{D:DM}{nS K c:Nat}{gS:FB}{u:Av}{p:Aq}{s:Sl}
def Dq (aj:Xe.isT (ov bF)=false)(ak:Xe.isT (ov bG)=false)(w:WF D K)(hL:Bf ov D nS gS u)(hu:u= .pointer p)(hs:D.L[c]? =some s)(us:s.used=true)(IH:∀j∈s.n.ch,yK ov D nS gS u j)(al:s.n.ch.length<1000000):yK ov D nS gS u c:=by
 intro i n0 k0 b oq bd od nb eb zb nd ed zd O0 O g0 J Y hp cs cd R S hb N hl b1 bw B P M d1 dw ax hS oS hY;rw[U9 w hs us]at hY⊢;have Sn:=S.nx;have H:=S.lt;have nN:∀b,hp.nx<=b-> ¬O b:=λb hb h=>by have:=H b h;omega
 obtain⟨tm1,hpa,X0,q1,q2,q3,ea⟩:=b_0 (ov:=ov) (ar:=none) (i:=i) (u:= .pointer (some ⟨b,oq,none⟩)) (v:= .pointer (some ⟨bd,od,none⟩)) (hp:=hp) (tm:=fill .e 0 [.chan (some i),.pointer (some ⟨b,oq,none⟩),.pointer (some ⟨bd,od,none⟩)]) (Q:=λtm1 h1=>tm1.get 1=some (.pointer (some ⟨b,oq,none⟩))/\tm1.get 2=some (.pointer (some ⟨bd,od,none⟩))/\tm1.get 3=some (.pointer (some ⟨hp.nx,0,none⟩))/\h1=⟨hp.m.set hp.nx (some (.cells (fill .e 0 [.chan (some i)]) 1 tYh 1)),hp.nx+1⟩)
  (by rw[p7 _ _ (by simp)];rfl) (by rw[p7 _ _ (by simp)];rfl) (by rw[p7 _ _ (by simp)];rfl) λtm1 a1 a2 a3=>⟨a1,a2,a3,rfl⟩
 have ga:∀c,c<hp.nx->hpa.m.get c=hp.m.get c:=λc hc=>by rw[ea];show(hp.m.set hp.nx _).get c=_;rw[VF,Tn (by omega)]
 have gy:hpa.m.get hp.nx=some (.cells (fill .e 0 [.chan (some i)]) 1 tYh 1):=by rw[ea];show(hp.m.set hp.nx _).get hp.nx=_;rw[VF,Tp rfl]
 have ay:hpa.nx=hp.nx+1:=by rw[ea]
 have Ka:Kp O hp hpa:=⟨by omega,λc hc _=>ga c hc⟩
 have Sa:OSt n0 g0 O0 J k0 O hpa:=S.grow R (by omega) λc hc=>ga c (by rcases hc with hc|hc;omega;exact H c hc);obtain⟨V,O1,XR,Sb,Kb,m1,m2⟩:=R.step k0 O [.agg (hv D c).toArray] hpa Sa (hY 0 c rfl);have am:=Kb.keeps λc hc=>R.nodfr k0 _ _ c Sa.j hc;have az:=Kb.1;have I:∀c,c<hp.nx-> ¬O c->V.m.get c=hp.m.get c:=λc hc hw=>(Kb.2 c (by omega) hw).trans (ga c hc);obtain⟨o,k,X1,C,q9,ae⟩:=b_1 (ov:=ov) (ar:=none) (tm:=tm1) (Q:=λo h2=>(∀x,x<9->o.get x=tm1.get x)/\o.get 12=some (.bool false)/\h2=V) q1 q3 gy ((ga b b1).trans hb) N hl XR am λo a c=>⟨a,c,rfl⟩
 subst ae;have G:∀b,b<nS-> ¬O b:=λb hb h=>by have:=oS b h;omega
 obtain⟨f,vs,rr,q,cc,XL,ao,gc,aw,ho,h9,ai⟩:=hL c s k hs us (by omega) λb hb=>(I b (by omega) (G b hb)).trans (hS b hb);have an:H4 k f:=⟨ao,λr hr h=>by rw[gc r hr];exact h⟩
 obtain⟨t,l,X2,aa,q4,E⟩:=b_2 (ov:=ov) (ar:=none) (tm:=o) (vs:=vs) (Q:=λt h3=>(∀x,x<4->t.get x=o.get x)/\t.get 4=some (.pointer (some ⟨f.nx,0,none⟩))/\h3=⟨(f.m.set f.nx (some (.cells zVB 10 tVw 10))).set f.nx (some (.cells (fill zVB 0 vs) 10 tVw 10)),f.nx+1⟩)
  (by rw[C 1 (by decide)];exact q1) ((I b b1 bw).trans hb) N hl (by rw[C 2 (by decide)];exact q2) ((I bd d1 dw).trans B) P M XL an aw ho λt a c=>⟨a,c,rfl⟩
 have gd:∀c,c<f.nx->l.m.get c=f.m.get c:=λc hc=>by rw[E];show((f.m.set f.nx _).set f.nx _).get c=_;rw[VF,Tn (by omega),VF,Tn (by omega)]
 have ah:l.m.get f.nx=some (.cells (fill zVB 0 vs) 10 tVw 10):=by rw[E];show((f.m.set f.nx _).set f.nx _).get f.nx=_;rw[VF,Tp rfl]
 have ba:l.nx=f.nx+1:=by rw[E]
 have z:∀c,c<k.nx->l.m.get c=k.m.get c:=λc hc=>(gd c (by omega)).trans (gc c hc);obtain⟨g,A,X3,ab,ap,aq,au,e4⟩:=b_3 (ov:=ov) (ar:=none) (tm:=t) (hp:=l) (Q:=λg h4=>(∀x,x<9->g.get x=t.get x)/\g.get 20=some (.slice q s.n.ch.length cc)/\g.get 21=some (.int .i64 s.n.ch.length)/\g.get 22=some (.int .i64 0)/\h4=l) q4 ah (by omega) (by rw[j6,Tp ⟨by omega,by omega⟩];exact h9) λg a1 a2 a3 a4=>⟨a1,a2,a3,a4,rfl⟩
 subst e4;have ac:OSt n0 g0 O0 J (k0+1) O1 A:=Sb.grow R (by omega) λc hc=>z c (by rcases hc with hc|hc;omega;exact Sb.lt c hc);have F:∀c,c<hpa.nx-> ¬O c-> ¬O1 c:=λc hc h h'=>(m2 c h').elim h λh3=>by omega
 obtain⟨av,W,O',ad,SL,KL,m',w'⟩:=Lx (cc:=cc) (k0:=k0+1) ak hu IH al R (y:=hp.nx) (hpa:=A) (Oa:=O1) (by omega) (F _ (by omega) (nN _ (Tq _))) (by omega) (by rw[z _ (by omega),Kb.2 hp.nx (by omega) (nN _ (Tq _))];exact gy)
  (bd:=bd) (F _ (by omega) dw) (by omega) (by rw[z _ (by omega),I bd d1 dw];exact B) P M (by omega) (λb hb=>by rw[z b (by omega),I b (by omega) (G b hb)];exact hS b hb) (λb hb=>(m2 b hb).elim (oS b) λh=>by omega)
  (λj x hj=>by obtain⟨Z,oc,bc,dc,nc,zc,k1,⟨k2,k3,k4⟩,k5⟩:=ai j x hj;refine⟨Z,oc,bc,dc,nc,zc,k1,⟨(gd Z k3).trans k2,by omega,λh=>?_⟩,k5⟩;have:=Sb.lt Z h;rcases k4 with k4|k4;exact F Z (by omega) (G Z k4) h;omega)
  (λq x hq=>by have:=hY (q+1) x (by rw[Te];exact hq);rwa[show k0+(q+1)=k0+1+q by omega]at this)
  s.n.ch [] g A O1 rfl (by rw[ab 2 (by decide),aa 2 (by decide),C 2 (by decide)];exact q2) (by rw[ab 3 (by decide),aa 3 (by decide),C 3 (by decide)];exact q3) ap aq au ac .refl (λb h=>h) (λb h=>.inl h)
 have X:XK PR ov none 35 (I9 PR bF) (fill .e 0 [.chan (some i),.pointer (some ⟨b,oq,none⟩),.pointer (some ⟨bd,od,none⟩)]) hp .normal av W:=by rw[QN];exact X0.seq ((X1.seq (XK.condF (evt q9) .skip)).seq (X2.seq (X3.seq (XK.blockX ad))))
 obtain⟨U,r1,r2,r3,r4⟩:=jI (ov:=ov) (args:=[.chan (some i),.pointer (some ⟨b,oq,none⟩),.pointer (some ⟨bd,od,none⟩)]) (c:=I9 PR bF) b_fn (by kernel_rfl) aj (show XK PR ov none (3+(Go.Proofs.Tryz.f101.ntmps-3)) _ _ _ _ _ _ from(show 3+(Go.Proofs.Tryz.f101.ntmps-3)=35 from by kernel_rfl)▸X) (.inl rfl) (vs:=[]) (λ_ _=>by
  have e:Go.Proofs.Tryz.f101.results.toList=[]:=by kernel_rfl
  rw[e];rfl)
 have mm:∀b,O b->O' b:=λb h=>m' b (m1 b h);have Kz:Kp O hp W:=((Ka.trans Kb).trans ⟨by omega,λc hc _=>z c hc⟩).sub KL λc h=>(m2 c h).imp id λh=>by omega
 have K3:Kp O hp U:=Kz.leave r2 r3 r4;have k1:=K3.1;refine⟨U,O',r1,⟨by omega,λd B hw=>?_,λd B=>by rw[r2];exact SL.lt d B,SL.own,SL.mono,?_⟩,K3,mm,λd B=>?_⟩;rw[K3.2 d (by omega) λh=>hw (mm d h)];exact S.old d B λh=>hw (mm d h);rw[TM,show k0+((s.n.ch.flatMap (bel D 1001)).length+1)=k0+1+(s.n.ch.flatMap (bel D 1001)).length by omega];exact R.stab _ _ _ _ SL.j λd B=>r3 d (R.nodfr _ _ _ d SL.j B)
 .rcases w' d B with h|h;exact(m2 d h).imp id λh=>by omega
  exact .inr (by omega)
def LF (w:WF D K)(hs:D.L[c]? =some s)(us:s.used=true):s.n.ch.length<1000000:=by
 obtain⟨h1,h2⟩:=w.ch c s hs us;have:s.n.ch ⊆ List.range D.L.length:=λj hj=>by obtain⟨sj,k,_⟩:=h2 j hj;exact List.mem_range.2 (SW.1 k).1
 have:=h1.length_le_of_subset this;have:=w.lim;simp at*;omega
def HV (a:Xe.isT (ov bF)=false)(b:Xe.isT (ov bG)=false)(w:WF D K)(hL:Bf ov D nS gS u)(d:u= .pointer p){r:Nat->Nat}(h1:∀i,r i<=K)(hr:∀(i:Nat) s,D.L[i]? =some s->s.used=true-> ∀j∈s.n.ch,r i<r j):∀(N c:Nat) (s:Sl),D.L[c]? =some s->s.used=true->K-r c<=N->yK ov D nS gS u c
 |0,c,s,hs,us,e=>Dq a b w hL d hs us (λj hj=>by have:=hr c s hs us j hj;have:=h1 j;omega) (LF w hs us)|N+1,c,s,hs,us,e=>Dq a b w hL d hs us (λj hj=>by obtain⟨sj,k1,k2,_⟩:=(w.ch c s hs us).2 j hj;have:=hr c s hs us j hj;have:=h1 j;exact HV a b w hL d h1 hr N j sj k1 k2 (by omega)) (LF w hs us)
def QP (a:Xe.isT (ov bF)=false)(b:Xe.isT (ov bG)=false)(w:WF D K)(hL:Bf ov D nS gS u)(d:u= .pointer p)(hs:D.L[c]? =some s)(us:s.used=true):yK ov D nS gS u c:=by obtain⟨r,h1,hr⟩:=w.rank;exact HV a b w hL d h1 hr _ c s hs us (Tq _)
end
abbrev sF :Ay:=100
def Nu :I9 PR sF=Go.Proofs.Tryz.f100.body.getD .skip:=by kernel_rfl
def s_fn :PR.funcs[sF]? =some Go.Proofs.Tryz.f100:=by kernel_rfl
def s_ok :fJ Go.Proofs.Tryz.f100=true:=by kernel_rfl
def QS :Nat.beq tHs rgT=false:=by kernel_rfl
noncomputable def niHs :Ba:=(PR.info? tHs).getD default
def Pc :PR.info? tHs=some niHs:=by kernel_rfl
def JT :niHs.size=1:=by kernel_rfl
def MG :Nat.ble niH.bytes 1048576=true:=by kernel_rfl
def Qu :niH.zero=some zH:=by kernel_rfl
section
variable {ov :Aa}{hp hp1 hp':Hp}{tm:Ao}{x y t i o n e z b:Nat}{cs:Ao}{vs ws:Af}{v a u:Av}{Q:Ao->Hp->Prop}{ar:Ai}
variable {q:Aq}{c:Nat}
def Xc {l:Nat}(h:hp.m.get i=some (.cells cs n e z))(hn:o+1<=n):I5 PR hp tHs (.pointer (some ⟨i,o,none⟩)) (.slice q l c)=some {hp with m:=hp.m.set i (some (.cells (fill cs o [.slice q l c]) n e z))}:=by have:(Value.slice q l c).cells.toList=[.slice q l c]:=rfl;have h2: [Value.slice q l c].all Value.oneCell'=true:=rfl;simp only[I5,h,Pc,JT,this,TM,UR,TA,u7,Ta hn,h2,Bool.and_self,Tk,N4]
theorem SG (hx:tm.get x=some (.agg ws.toArray))(h2:ws.length=2)(call:i9):xop PR call tm hp (.buildSlice tHs 1 #[(0,.tmp x)])=some (.slice (some ⟨hp.nx,0,none⟩) 1 1,⟨hp.m.set hp.nx (some (.cells (fill .e 0 ws) 2 tHn 2)),hp.nx+1⟩):=by
 have h1:(Value.agg ws.toArray).cells.toList=ws:=rfl;have h3:splice (xrep 1 zH.cells.toList) 0 ws=ws:=by
  refine List.ext_getElem? λj=>?_;have d:(xrep 1 zH.cells.toList).length=2:=by rw[Xe.xrep_length,qQ]
  simp only[splice,List.take_zero,List.nil_append,TA];grind
 have h4:Nat.ble (0*2+2) (xrep 1 zH.cells.toList).length=true:=by rw[Xe.xrep_length,qQ];rfl
 simp only[xop,ob,bT,i6,hx,TL,xnw,Hz,wV,pC,QE,cO,qQ,u7,Bool.and_self];rw[show Nat.ble 1 16777216=true from rfl,show Nat.ble (1*2) 16777216=true from rfl];simp only[Bool.and_self,Tk,kE,h1,h2,u7,h4];rw[UE,h3];simp only[U8,Hp.add,Nw.val,H8,h2]
def SF {w:Av}{d:Array Ax}(ht:d.toList=[tHs,tHs])(hx:tm.get x=some w)(hy:tm.get y=some u)(h:B9 PR hp .append [tHs,tHs] [w,u]=some (v,hp'))(call:i9):xop PR call tm hp (.call ⟨.builtin .append,#[.tmp x,.tmp y],d⟩)=some (v,hp'):=by simp only[xop,ob,aE,i6,hx,hy,TL,ht,h]
def Jq (call:i9):xop PR call tm hp (.assign (.const (.slice none 0 0)))=some (.slice none 0 0,hp):=by have h:cst (.slice none 0 0)=true:=rfl;simp only[xop,ob,i6,h,Tk,j3]
def SlK (hp:FB)(v:Av)(k:Nat)(us:Af)(q:Ai):Prop:=(k=0/\v= .slice none 0 0/\us=[]/\q=none)\/(1<=k/\ ∃(r:Nat) (c:Ao),v= .slice (some ⟨r,0,none⟩) k (d8 k 0)/\hp r=some (.cells c (k*2) tHn 2)/\j7 c 0 (k*2)=some us/\q=some r)
variable {k:Nat}{us:Af}
def SlK.len {g:FB}{q:Ai}(h:SlK g v k us q):∃p c,v= .slice p k c:=by rcases h with⟨rfl,rfl,_⟩| ⟨_,r,c,rfl,_⟩;exact⟨_,_,rfl⟩;exact⟨_,_,rfl⟩
def DS {c:Ao}{ws:Af}(h:j7 c 0 k=some us):j7 (fill c k ws) 0 (k+ws.length)=some (us++ws):=by obtain⟨hl,hg⟩:=m9 h;have:=A9 (c:=fill c k ws) (vs:=us++ws) (o:=0) (λq hq=>by rw[TA,j6];by_cases hk:q<k;rw[Tn (by omega),Tc (by omega)];have:=hg q hk;rw[TA]at this;exact this.symm;rw[Tv]at hq;rw[Tp ⟨by omega,by omega⟩,Tb (by omega)];congr 1;omega);rwa[Tv,hl]at this
def appH {q:Ai}(h:SlK hp.m.get v k us q)(hk:k<=1000000)(hc:hp.m.get c=some (.cells (fill .e 0 ws) 2 tHn 2))(h2:ws.length=2)(D:ws.all Value.oneCell'=true)(hq:∀r,q=some r->r<hp.nx):∃g hp',B9 PR hp .append [tHs,tHs] [v,.slice (some ⟨c,0,none⟩) 1 1]=some (g,hp')/\hp'.nx=hp.nx+1/\SlK hp'.m.get g (k+1) (us++ws) (some hp.nx)/\(∀b,b<hp.nx->q≠some b->hp'.m.get b=hp.m.get b)/\ ∀b,q=some b->hp'.m.get b=none:=by
 have hf:y9 hp 2 (.slice (some ⟨c,0,none⟩) 1 1)=some (1,ws):=by simp only[y9,hc,rdC];rw[show Nat.ble (0+1*2) 2=true from rfl,Nat.one_mul,iK h2];rfl
 have hz:Nat.beq 2 2=true:=rfl;rcases h with⟨rfl,rfl,rfl,rfl⟩| ⟨k1,r,d,rfl,hr,hl,rfl⟩;refine⟨.slice (some ⟨hp.nx,0,none⟩) 1 (d8 1 0),hp.new ws tHn 2,?_,rfl,.inr ⟨by omega,hp.nx,fill .e 0 ws,rfl,?_,?_,rfl⟩,λb hb _=>?_,λb hb=>by cases hb⟩;simp only[B9,D1,wV,pC,Qu,qQ,cO,MG,hz,Bool.and_self,Tk,hf];rfl;show(hp.m.set hp.nx _).get hp.nx=_;rw[VF,Tp rfl,h2];rw[List.nil_append];exact iK h2;show(hp.m.set hp.nx _).get b=_;rw[VF,Tn (by omega)]
 .have E:=hq r rfl;refine⟨.slice (some ⟨hp.nx,0,none⟩) (k+1) (d8 (k+1) 0),⟨(hp.m.set r none).set hp.nx (some (.cells (fill d (k*2) ws) ((k+1)*2) tHn 2)),hp.nx+1⟩,?_,rfl,.inr ⟨by omega,hp.nx,fill d (k*2) ws,rfl,?_,?_,rfl⟩,λb hb f=>?_,λb hb=>?_⟩
  .have j:Nat.ble (k+1) 67108864=true:=Ta (by omega);have l:Nat.beq 1 0=false:=rfl;have p:Nat.ble unk (d8 k 0)=true:=Ta (q0 _ _);have s:Nat.ble 1 (E7 (d8 k 0))=false:=by rw[G3 F6];rfl
   have w:Nat.ble (0+k*2) (k*2)=true:=Ta (by omega);have A:Nat.ble (k+1) (O8 (d8 k 0))=false:=by
    rw[H6 F6];cases h:Nat.ble (k+1) k with
    |false=>rfl|true=>have:=SX h;omega
   have B:Nat.beq tHn tHn=true:=rfl;have C:Nat.beq 0 0=true:=rfl;simp only[B9,D1,wV,pC,Qu,qQ,cO,MG,hz,Bool.and_self,Tk,hf,hr,j,D,l,Tl,p,s,Bool.false_and,B,w,A,hl,C,VC]
  show((hp.m.set r none).set hp.nx _).get hp.nx=_;rw[VF,Tp rfl];rw[show(k+1)*2=k*2+ws.length by omega];exact DS hl;show((hp.m.set r none).set hp.nx _).get b=_;rw[VF,Tn (by omega),VF,Tn (by rintro rfl;exact f rfl)];cases hb;show((hp.m.set r none).set hp.nx _).get r=_;rw[VF,Tn (by omega),VF,Tp rfl]
abbrev sR0 :Code:=cdA (I9 PR sF)
abbrev sR1 :Code:=cdA (cdA (cdB (I9 PR sF)))
abbrev sRF :Code:=cdA (cdB (cdA (cdB (I9 PR sF))))
abbrev sR2 :Code:=Jz sRF
abbrev sBo :Code:=JA sRF
abbrev sR3 :Code:=cdA sBo
abbrev sR4 :Code:=cdA (cdB (cdB (I9 PR sF)))
def RZ :I9 PR sF= .seq sR0 (.seq (.seq sR1 (.block 0 (.rangeFunc (.tmp 6) #[7] sR2 sBo))) (.seq sR4 .ret)):=by kernel_rfl
def s_bo :sBo= .block 1 sR3:=by kernel_rfl
def s_0 (h0:tm.get 0=some (.slice none 0 0))(h1:tm.get 1=some v)(k:∀tm1,tm1.get 1=some v->tm1.get 2=some (.pointer (some ⟨hp.nx,0,none⟩))->Q tm1 ⟨hp.m.set hp.nx (some (.cells (fill .e 0 [.slice none 0 0]) 1 tHs 1)),hp.nx+1⟩):YN PR ov ar 13 sR0 tm hp Q:=by unfold sR0;rw[Nu];simp only[Go.Proofs.Tryz.f100,TL,cdA,cdB];have e:(Value.slice none 0 0).cells.toList=[.slice none 0 0]:=rfl;refine .region (.op rfl rfl (CZ QS h0) ?_);rw[e];refine .op rfl rfl Jq (.nil ⟨⟨Ur _,λr hr h=>by show(hp.m.set hp.nx _).get r=_;rw[VF,Tn (by omega)];exact h⟩,k _ ?_ ?_⟩);simp only[gp];exact h1;simp only[gp];rfl
def s_1 (h1:tm.get 1=some v)(k:∀tm1,(∀x,x≠6->tm1.get x=tm.get x)->tm1.get 6=some v->Q tm1 hp):YN PR ov ar 13 sR1 tm hp Q:=by unfold sR1;rw[Nu];simp only[Go.Proofs.Tryz.f100,TL,cdA,cdB];exact .region (.op rfl rfl (Jp h1) (.nil ⟨.refl _,k _ (λx hx=>by rw[gp,Tn hx]) (by rw[gp,Tp rfl])⟩))
def s_2 (d:tm.get 7=some (.agg ws.toArray))(h2:ws.length=2)(f:ws.all Value.oneCell'=true)(k:∀tm1,(∀x,x≠5->tm1.get x=tm.get x)->tm1.get 5=some (.pointer (some ⟨hp.nx,0,none⟩))->Q tm1 ⟨(hp.m.set hp.nx (some (.cells zHB 2 tHn 2))).set hp.nx (some (.cells (fill zHB 0 ws) 2 tHn 2)),hp.nx+1⟩):YN PR ov ar 13 sR2 tm hp Q:=by unfold sR2 sRF;rw[Nu];simp only[Go.Proofs.Tryz.f100,TL,cdA,cdB,Jz];refine .region (.op rfl rfl qJ (.op rfl rfl (cZ (by simp only[gp];rfl) (by simp only[gp];exact d) (st_H (by rw[VF,Tp rfl]) (by omega) h2 f)) (.nil ⟨⟨Ur _,λr hr h=>?_⟩,k _ (λx hx=>?_) ?_⟩)));show((hp.m.set hp.nx _).set hp.nx _).get r=_;rw[VF,Tn (by omega),VF,Tn (by omega)];exact h;simp only[gp,gn];rw[Tn hx];simp only[gp,gn];rfl
variable {cw:Ao}
def s_3 {bx:Nat}{cc:Ao}{l m:Nat}(h2:tm.get 2=some (.pointer (some ⟨bx,0,none⟩)))(hb:hp.m.get bx=some (.cells cw 1 tHs 1))(hv:cw.get 0=some v)(p:bx<hp.nx)(f:tm.get 5=some (.pointer (some ⟨c,0,none⟩)))(hc:hp.m.get c=some (.cells cc 2 tHn 2))(hl:j7 cc 0 2=some ws)(j:ws.length=2)(g:B9 PR ⟨hp.m.set hp.nx (some (.cells (fill .e 0 ws) 2 tHn 2)),hp.nx+1⟩ .append [tHs,tHs] [v,.slice (some ⟨hp.nx,0,none⟩) 1 1]=some (.slice q l m,hp1))(d:hp1.m.get bx=some (.cells cw 1 tHs 1))(hk:H4 hp hp1)(k:∀tm1,Q tm1 ⟨hp1.m.set bx (some (.cells (fill cw 0 [.slice q l m]) 1 tHs 1)),hp1.nx⟩):YN PR ov ar 13 sR3 tm hp Q:=by unfold sR3 sBo sRF;rw[Nu];simp only[Go.Proofs.Tryz.f100,TL,cdA,cdB,JA];refine .region (.op rfl rfl (J7 h2 ((DP FN hb rfl (by omega)).trans hv)) (.op rfl rfl (J7 (by rw[gp,Tn (by decide)];exact f) (JH hc rfl (by omega) hl)) (.op rfl rfl (SG (by simp only[gp];rfl) j) (.op rfl rfl (SF rfl (by simp only[gp];rfl) (by simp only[gp];rfl) g) (.op rfl rfl (cZ (by simp only[gp];exact h2) (by simp only[gp];rfl) (Xc d (by omega))) (.nil ⟨⟨hk.nx,λr hr h=>?_⟩,k _⟩))))));show(hp1.m.set bx _).get r=_;rw[VF,Tn (by rintro rfl;rw[hb]at h;cases h)];exact hk.dfr r hr h
def s_4 {bx:Nat}(h2:tm.get 2=some (.pointer (some ⟨bx,0,none⟩)))(hb:hp.m.get bx=some (.cells cw 1 tHs 1))(hv:cw.get 0=some v)(k:∀tm1,tm1.get 4=some v->Q tm1 hp):YN PR ov ar 13 sR4 tm hp Q:=by unfold sR4;rw[Nu];simp only[Go.Proofs.Tryz.f100,TL,cdA,cdB];refine .region (.op rfl rfl (J7 h2 ((DP FN hb rfl (by omega)).trans hv)) (.op rfl rfl (Jo (by simp only[gp];rfl)) (.nil ⟨.refl _,k _ ?_⟩)));simp only[gp];rfl
end
def appJ (D:DM)(L:Ah)(bx:Nat)(k:Nat)(O:Nat->Prop)(g:FB):Prop:=O bx/\(∀b,O b->g b≠some .dfr)/\ ∃(cw:Ao) (v:Av) (q:Ai),g bx=some (.cells cw 1 tHs 1)/\cw.get 0=some v/\SlK g v k ((L.take k).flatMap (hv D)) q/\ ∀r,q=some r->O r/\r≠bx
def appY (D:DM)(L:Ah)(k:Nat)(args:Af):Prop:=∃x:Nat,L[k]? =some x/\args=[.agg (hv D x).toArray]
def SlK.mono {g g':FB}{v:Av}{k:Nat}{us:Af}{q:Ai}(h:SlK g v k us q)(hg:∀r,q=some r->g' r=g r):SlK g' v k us q:=by rcases h with h| ⟨h1,r,c,h2,h3,h4,a⟩;exact .inl h;exact .inr ⟨h1,r,c,h2,(hg r a).trans h3,h4,a⟩
section
variable {ov :Aa}{D:DM}{L:Ah}{j bx db:Nat}{hp2:Hp}{tms:Ao}
def Lm (hL:L.length<=1000000)(hj:hp2.m.get j=some (.loop .ready none 13 tms #[7] sR2 sBo db))(j1:j<hp2.nx)(bn:bx<hp2.nx)(y:bx≠j)(t2:tms.get 2=some (.pointer (some ⟨bx,0,none⟩))):sY PR ov j 2 hp2.nx hp2.m.get (λb=>b=bx) (appJ D L bx) (appY D L) where
 stab:=λk O g g' ⟨h1,h2,cw,v,q,h3,h4,U,h6⟩ hh=>⟨h1,λb hb=>by rw[hh b hb];exact h2 b hb,cw,v,q,by rw[hh bx h1];exact h3,h4,U.mono λr hr=>hh r (h6 r hr).1,h6⟩
 nodfr:=λk O g b h hb=>h.2.1 b hb
 arg:=λk args ⟨x,_,h⟩=>⟨hv D x,h,rfl,rfl⟩
 step:=by
  intro k O args hp S hY;obtain⟨x,hx,rfl⟩:=hY;obtain⟨J,nd,cw,v,q,w,hg,X,hq⟩:=S.j;have I:¬O j:=λh=>y (S.own j j1 h).symm;have u:=(S.old j j1 I).trans hj;have ae:=S.nx;have bl:=S.lt bx J;have hk:k<L.length:=(SW.1 hx).1;obtain⟨tm1,hp1,X1,q2,q5,K⟩:YN PR ov (some j) 13 sR2 (gO tms [7] [.agg (hv D x).toArray]) hp λtm1 h1=>tm1.get 2=some (.pointer (some ⟨bx,0,none⟩))/\tm1.get 5=some (.pointer (some ⟨hp.nx,0,none⟩))/\h1=⟨(hp.m.set hp.nx (some (.cells zHB 2 tHn 2))).set hp.nx (some (.cells (fill zHB 0 (hv D x)) 2 tHn 2)),hp.nx+1⟩:=
   s_2 (by show(tms.set 7 _).get 7=_;rw[VF,Tp rfl]) rfl rfl λtm1 a b=>⟨by rw[a 2 (by decide)];show(tms.set 7 _).get 2=_;rw[VF,Tn (by decide)];exact t2,b,rfl⟩
  have g1:∀b,b≠hp.nx->hp1.m.get b=hp.m.get b:=λb hb=>by rw[K];show((hp.m.set hp.nx _).set hp.nx _).get b=_;rw[VF,Tn hb,VF,Tn hb]
  have gq:hp1.m.get hp.nx=some (.cells (fill zHB 0 (hv D x)) 2 tHn 2):=by rw[K];show((hp.m.set hp.nx _).set hp.nx _).get hp.nx=_;rw[VF,Tp rfl]
  have aa:hp1.nx=hp.nx+1:=by rw[K]
  have W:hp1.m.get j=some (.loop .ready none 13 tms #[7] sR2 sBo db):=(g1 j (by omega)).trans u;let f:Hp:=⟨hp1.m.set j (some (.loop .busy none 13 tms #[7] sR2 sBo db)),hp1.nx⟩
  have N:∀b,b≠j->b≠hp.nx->f.m.get b=hp.m.get b:=λb h1 h2=>by show(hp1.m.set j _).get b=_;rw[VF,Tn h1];exact g1 b h2
  have P:f.m.get j=some (.loop .busy none 13 tms #[7] sR2 sBo db):=by show(hp1.m.set j _).get j=_;rw[VF,Tp rfl]
  have Q:f.m.get hp.nx=some (.cells (fill zHB 0 (hv D x)) 2 tHn 2):=by show(hp1.m.set j _).get hp.nx=_;rw[VF,Tn (by omega)];exact gq
  have ai:f.nx=hp.nx+1:=aa;let o:Hp:=⟨f.m.set f.nx (some (.cells (fill .e 0 (hv D x)) 2 tHn 2)),f.nx+1⟩
  have C:∀b,b≠f.nx->o.m.get b=f.m.get b:=λb h=>by show(f.m.set f.nx _).get b=_;rw[VF,Tn h]
  have ak:o.nx=hp.nx+2:=by show f.nx+1=_;omega
  have H:∀b,O b->o.m.get b=hp.m.get b:=λb hb=>by have:=S.lt b hb;rw[C b (by omega),N b (λe=>I (by rw[<-e];exact hb)) (by omega)]
  obtain⟨v',d,ha,ah,l,i,Y⟩:=appH (hp:=o) (c:=f.nx) (ws:=hv D x) (X.mono λr hr=>H r (hq r hr).1) (by omega) (by show(f.m.set f.nx _).get f.nx=_;rw[VF,Tp rfl]) rfl rfl (λr hr=>by have:=S.lt r (hq r hr).1;omega);obtain⟨p,m,rfl⟩:=l.len;have qO:∀b,¬O b->q≠some b:=λb hb e=>hb (hq b e).1;have R:o.m.get bx=some (.cells cw 1 tHs 1):=(H bx J).trans w;have bq:q≠some bx:=λe=>(hq bx e).2 rfl;have z:d.m.get bx=some (.cells cw 1 tHs 1):=(i bx (by omega) bq).trans R;have Z:H4 f d:=⟨by omega,λr hr h=>by
   have F:r≠f.nx:=by omega
   rw[i r (by omega) λe=>nd r (hq r e).1 (by rw[<-H r (hq r e).1,C r F];exact h),C r F];exact h⟩
  obtain⟨ac,n,X2,M⟩:YN PR ov (some j) 13 sBo tm1 f λ_ h2=>h2=⟨d.m.set bx (some (.cells (fill cw 0 [.slice p (k+1) m]) 1 tHs 1)),d.nx⟩:=by rw[s_bo];exact .block (s_3 (c:=hp.nx) (cc:=fill zHB 0 (hv D x)) q2 ((N bx y (by omega)).trans w) hg (by omega) q5 Q (iK rfl) rfl ha z Z λac=>rfl)
  have G:∀b,b≠bx->n.m.get b=d.m.get b:=λb hb=>by rw[M];show(d.m.set bx _).get b=_;rw[VF,Tn hb]
  have A:n.m.get bx=some (.cells (fill cw 0 [.slice p (k+1) m]) 1 tHs 1):=by rw[M];show(d.m.set bx _).get bx=_;rw[VF,Tp rfl]
  have ab:n.nx=hp.nx+3:=by rw[M];show d.nx=_;omega
  have V:n.m.get j=some (.loop .busy none 13 tms #[7] sR2 sBo db):=by rw[G j (λe=>y e.symm),i j (by omega) (qO j I),C j (by omega)];exact P
  let t:Hp:=⟨n.m.set j (some (.loop .ready none 13 tms #[7] sR2 sBo db)),n.nx⟩
  have B:∀b,b≠j->t.m.get b=n.m.get b:=λb hb=>by show(n.m.set j _).get b=_;rw[VF,Tn hb]
  have gN:∀b,b<hp.nx-> ¬O b->t.m.get b=hp.m.get b:=λb h1 h2=>by by_cases e:b=j;subst e;show(n.m.set b _).get b=_;rw[VF,Tp rfl];exact u.symm;rw[B b e,G b (λe=>h2 (by rw[e];exact J)),i b (by omega) (qO b h2),C b (by omega),N b e (by omega)]
  have aj:t.nx=hp.nx+3:=ab;have s:t.m.get o.nx=d.m.get o.nx:=by rw[B _ (by omega),G _ (by omega)]
  have us:(L.take k).flatMap (hv D)++hv D x=(L.take (k+1)).flatMap (hv D):=by rw[List.take_add_one,hx,List.flatMap_append];simp
  rw[us]at l;refine⟨t,λb=>O b\/b=o.nx,xrnd u rfl rfl X1 W X2 V,⟨by show hp2.nx<=t.nx;omega,λb hb w=>?_,λb hb=>?_,λb hb w=>?_,λb hb=>.inl (S.mono b hb),.inl J,λb hb=>?_,fill cw 0 [.slice p (k+1) m],.slice p (k+1) m,some o.nx,?_,?_,l.mono λr hr=>?_,λr hr=>?_⟩,⟨by show hp.nx<=t.nx;omega,gN⟩,λb hb=>.inl hb,λb hb=>?_⟩;rw[gN b (by omega) λh=>w (.inl h)];exact S.old b hb λh=>w (.inl h);rcases hb with hb|rfl;have:=S.lt b hb;omega;omega;rcases w with h|h;exact S.own b hb h;omega
  .rcases hb with hb|rfl
   .by_cases e:b=bx;subst e;rw[B b y,A];exactλh=>by cases h
    .have ad:=S.lt b hb;rw[B b (λe=>I (by rw[<-e];exact hb)),G b e];by_cases E:q=some b;rw[Y b E];exactλh=>by cases h
     rw[i b (by omega) E,H b hb];exact nd b hb
   rw[s];rcases l with⟨h,_⟩| ⟨_,r,c,_,h3,_,U⟩;omega;cases U;rw[h3];exactλh=>by cases h
  rw[B bx y];exact A;rw[j6,Tp ⟨by omega,by simp⟩];rfl;cases hr;exact s;cases hr;exact⟨.inr rfl,by omega⟩;rcases hb with hb|rfl;exact .inl hb;exact .inr (by omega)
end
section
variable {ov :Aa}{D:DM}{c b oq bd od nb eb zb nd ed zd:Nat}{u:Av}{hp hp':Hp}{cs cd:Ao}{tm:Ao}{Q:Ao->Hp->Prop}{v a:Av}
def ColR (D:DM)(c:Nat)(hp:Hp)(v:Av)(hp':Hp):Prop:=hp.nx<=hp'.nx/\(∀b,b<hp.nx->hp'.m.get b=hp.m.get b)/\ ∃q,SlK hp'.m.get v (bel D 1001 c).length ((bel D 1001 c).flatMap (hv D)) q/\ ∀r,q=some r->hp.nx<=r/\r<hp'.nx
def Pw (H:Xe.isT (ov sF)=false)(hB:yK ov D hp.nx hp.m.get u c)(y:(bel D 1001 c).length<=1000000)(hb:hp.m.get b=some (.cells cs nb eb zb))(I:oq+2<=nb)(hl:j7 cs oq 2=some (hv D c))(b1:b<hp.nx)(hd:hp.m.get bd=some (.cells cd nd ed zd))(J:od+1<=nd)(G:cd.get od=some u)(d1:bd<hp.nx):∃v hp',V6 PR ov sF [.slice none 0 0,.func (.func bF) #[] #[.pointer (some ⟨b,oq,none⟩),.pointer (some ⟨bd,od,none⟩)]] hp v hp'/\ColR D c hp v hp':=by
 obtain⟨tm1,hp1,X0,p1,p2,C⟩:=s_0 (ov:=ov) (ar:=none) (hp:=hp) (v:= .func (.func bF) #[] #[.pointer (some ⟨b,oq,none⟩),.pointer (some ⟨bd,od,none⟩)]) (tm:=fill .e 0 [.slice none 0 0,.func (.func bF) #[] #[.pointer (some ⟨b,oq,none⟩),.pointer (some ⟨bd,od,none⟩)]]) (Q:=λtm1 h1=>tm1.get 1=some (.func (.func bF) #[] #[.pointer (some ⟨b,oq,none⟩),.pointer (some ⟨bd,od,none⟩)])/\tm1.get 2=some (.pointer (some ⟨hp.nx,0,none⟩))/\h1=⟨hp.m.set hp.nx (some (.cells (fill .e 0 [.slice none 0 0]) 1 tHs 1)),hp.nx+1⟩)
  (by rw[p7 _ _ (by simp)];rfl) (by rw[p7 _ _ (by simp)];rfl) λtm1 a1 a2=>⟨a1,a2,rfl⟩
 have g1:∀c,c<hp.nx->hp1.m.get c=hp.m.get c:=λc hc=>by rw[C];show(hp.m.set hp.nx _).get c=_;rw[VF,Tn (by omega)]
 have p:hp1.m.get hp.nx=some (.cells (fill .e 0 [.slice none 0 0]) 1 tHs 1):=by rw[C];show(hp.m.set hp.nx _).get hp.nx=_;rw[VF,Tp rfl]
 have ab:hp1.nx=hp.nx+1:=by rw[C]
 obtain⟨g,d,X1,S,q6,e2⟩:=s_1 (ov:=ov) (ar:=none) (hp:=hp1) (Q:=λg h2=>(∀x,x≠6->g.get x=tm1.get x)/\g.get 6=some (.func (.func bF) #[] #[.pointer (some ⟨b,oq,none⟩),.pointer (some ⟨bd,od,none⟩)])/\h2=hp1) p1 λg a b=>⟨a,b,rfl⟩
 subst e2;let P:Blk:= .loop .ready none 13 g #[7] sR2 sBo d.nx
 let i:Hp:=⟨(d.m.set d.nx (some .dfr)).set (d.nx+1) (some P),d.nx+2⟩
 have E:∀b,b<d.nx->i.m.get b=d.m.get b:=λb hb=>by show((d.m.set d.nx _).set (d.nx+1) _).get b=_;rw[VF,Tn (by omega),VF,Tn (by omega)]
 have F:i.m.get d.nx=some .dfr:=by show((d.m.set d.nx _).set (d.nx+1) _).get d.nx=_;rw[VF,Tn (by omega),VF,Tp rfl]
 have t:i.m.get (d.nx+1)=some P:=by show((d.m.set d.nx _).set (d.nx+1) _).get (d.nx+1)=_;rw[VF,Tp rfl]
 have ac:i.nx=hp.nx+3:=by show d.nx+2=_;omega
 have l:∀b,b<hp.nx->i.m.get b=hp.m.get b:=λb hb=>(E b (by omega)).trans (g1 b hb);have s:i.m.get hp.nx=some (.cells (fill .e 0 [.slice none 0 0]) 1 tHs 1):=(E _ (by omega)).trans p;have Y:=Lm (ov:=ov) (D:=D) (L:=bel D 1001 c) (j:=d.nx+1) (bx:=hp.nx) (db:=d.nx) (hp2:=i) (tms:=g) y t (by omega) (by omega) (by omega) (by rw[S 2 (by decide)];exact p2);have Z:OSt i.nx i.m.get (λb=>b=hp.nx) (appJ D (bel D 1001 c) hp.nx) 0 (λb=>b=hp.nx) i:=
  ⟨Tq _,λ_ _ _=>rfl,λb hb=>by omega,λ_ _ h=>h,λ_ h=>h,rfl,λb (hb:b=hp.nx)=>(by rw[hb,s];exactλh=>(by cases h)),fill .e 0 [.slice none 0 0],.slice none 0 0,none,s,(by rw[p7 _ _ (by simp)];rfl),.inl ⟨rfl,rfl,rfl,rfl⟩,λr hr=>(by cases hr)⟩
 obtain⟨f,W,XA,S7,K7,m7,V⟩:=hB (d.nx+1) i.nx 0 b oq bd od nb eb zb nd ed zd (λb=>b=hp.nx) (λb=>b=hp.nx) i.m.get _ _ i cs cd Y Z (by rw[l b b1];exact hb) I hl (by omega) (by omega) (by rw[l bd d1];exact hd) J G (by omega) (by omega) (by omega) (λb hb=>l b hb) (λb hb=>by omega)
  (λq x hq=>⟨x,by rw[TA];exact hq,rfl⟩)
 have B:∀b,b<i.nx->b≠hp.nx->f.m.get b=i.m.get b:=λb hb A=>K7.2 b hb A;have n7:=S7.nx;have XR:XK PR ov none 13 (.rangeFunc (.tmp 6) #[7] sR2 sBo) g d .normal g ⟨f.m.set (d.nx+1) none,f.nx⟩:=XK.range (evt q6) b_fn b_ok XA ((B _ (by omega) (by omega)).trans F) ((B _ (by omega) (by omega)).trans t) (by omega) λb hb k=>by
  have A:b≠hp.nx:=λe=>by rw[e,p]at k;cases k
  rw[B b (by omega) A,E b hb];exact k
 let n:Hp:=⟨f.m.set (d.nx+1) none,f.nx⟩
 have g8:∀b,b≠d.nx+1->n.m.get b=f.m.get b:=λb hb=>by show(f.m.set (d.nx+1) none).get b=_;rw[VF,Tn hb]
 have N:¬W (d.nx+1):=λh=>by rcases V _ h with h|h<;>omega
 obtain⟨oB,M,cw,v,q,A,hg,z,hq⟩:=S7.j;rw[TA,List.take_length]at z;obtain⟨o,aa,X4,u4,e9⟩:=s_4 (ov:=ov) (ar:=none) (tm:=g) (hp:=n) (v:=v) (cw:=cw) (Q:=λo h9=>o.get 4=some v/\h9=n) (by rw[S 2 (by decide)];exact p2) (by rw[g8 _ (by omega)];exact A) hg λo a=>⟨a,rfl⟩
 subst e9;have X:XK PR ov none 13 (I9 PR sF) (fill .e 0 [.slice none 0 0,.func (.func bF) #[] #[.pointer (some ⟨b,oq,none⟩),.pointer (some ⟨bd,od,none⟩)]]) hp .ret o n:=by rw[RZ];exact X0.seq (XK.seq (X1.seq (XK.block XR)) (X4.seq .ret))
 obtain⟨K,r1,r2,U,r4⟩:=jI (ov:=ov) (args:=[.slice none 0 0,.func (.func bF) #[] #[.pointer (some ⟨b,oq,none⟩),.pointer (some ⟨bd,od,none⟩)]]) (c:=I9 PR sF) s_fn (by kernel_rfl) H (show XK PR ov none (2+(Go.Proofs.Tryz.f100.ntmps-2)) _ _ _ _ _ _ from(show 2+(Go.Proofs.Tryz.f100.ntmps-2)=13 from by kernel_rfl)▸X) (.inr rfl) (vs:=[v]) (λh2 _=>by
  have e:Go.Proofs.Tryz.f100.results.toList=[.tmp 4]:=by kernel_rfl
  rw[e];simp only[I4,bA,u4,TL])
 have R:∀b,b<hp.nx->n.m.get b=hp.m.get b:=λb hb=>by rw[g8 b (by omega),B b (by omega) (by omega),l b hb]
 have ad:n.nx=f.nx:=rfl;refine⟨v,K,r1,by omega,λb hb=>?_,q,z.mono λr hr=>?_,λr hr=>?_⟩;by_cases k:hp.m.get b=some .dfr;rw[r4.dfr b hb k,k];rw[U b (by rw[R b hb];exact k),R b hb];have w:=(hq r hr).1;have O:n.m.get r=f.m.get r:=g8 r λe=>N (by rw[<-e];exact w);rw[U r (by rw[O];exact M r w),O];have w:=(hq r hr).1;have:=S7.lt r w;refine⟨?_,by omega⟩;rcases V r w with h|h<;>omega
abbrev oF :Ay:=52
def o_eq :I9 PR oF=Go.Proofs.Tryz.f52.body.getD .skip:=by kernel_rfl
def o_fn :PR.funcs[oF]? =some Go.Proofs.Tryz.f52:=by kernel_rfl
def Ow {f:Ay}{fn:Func}{x:Nat}(hf:PR.funcs[f]? =some fn)(d:fJ fn=true){ats:Array Ax}(hx:tm.get x=some a)(h:V6 PR ov f [.slice none 0 0,a] hp v hp'):XOp PR ov (.call ⟨.value (.func f),#[.const (.slice none 0 0),.tmp x],ats⟩) tm hp v hp':=
 h.mono λn k=>by have hc:cst (.slice none 0 0)=true:=rfl;simp only[xop,ob,aE,i6,hc,hx,TL,nW,hf,d,Tk];exact k
abbrev oR0 :Code:=cdA (I9 PR oF)
abbrev oR1 :Code:=cdA (cdB (I9 PR oF))
def RK :I9 PR oF= .seq oR0 (.seq oR1 .ret):=by kernel_rfl
def o_0 (h0:tm.get 0=some v)(k:∀tm1,tm1.get 0=some v->Q tm1 hp):YN PR ov none 5 oR0 tm hp Q:=by unfold oR0;rw[o_eq];simp only[Go.Proofs.Tryz.f52,TL,cdA,cdB];exact .region (.op rfl rfl Jq (.nil ⟨.refl _,k _ (by simp only[gp];exact h0)⟩))
def o_1 (h0:tm.get 0=some v)(h:V6 PR ov sF [.slice none 0 0,v] hp a hp')(hk:H4 hp hp')(k:∀tm1,tm1.get 2=some a->Q tm1 hp'):YN PR ov none 5 oR1 tm hp Q:=by unfold oR1;rw[o_eq];simp only[Go.Proofs.Tryz.f52,TL,cdA,cdB];refine .region (.op rfl rfl (Jp h0) (.cons rfl rfl (Ow s_fn s_ok (by rw[gp,Tp rfl]) h) (.op rfl rfl (Jo (by simp only[gp];rfl)) (.nil ⟨hk,k _ ?_⟩))));simp only[gp];rfl
def OK (i:Xe.isT (ov oF)=false)(h:V6 PR ov sF [.slice none 0 0,u] hp v hp')(hc:ColR D c hp v hp'):∃f,V6 PR ov oF [u] hp v f/\ColR D c hp v f:=by
 obtain⟨k1,k2,q,k3,k4⟩:=hc;obtain⟨tm1,hp1,X0,p,l⟩:=o_0 (ov:=ov) (hp:=hp) (v:=u) (tm:=fill .e 0 [u]) (Q:=λtm1 h1=>tm1.get 0=some u/\h1=hp) (by rw[p7 _ _ (by simp)];rfl) λtm1 a=>⟨a,rfl⟩
 subst l;have kp:H4 hp1 hp':=⟨k1,λr hr h=>by rw[k2 r hr];exact h⟩
 obtain⟨d,hp2,X1,s,n⟩:=o_1 (ov:=ov) (hp:=hp1) (tm:=tm1) (Q:=λd h2=>d.get 2=some v/\h2=hp') p h kp λd a=>⟨a,rfl⟩
 subst n;have X:XK PR ov none 5 (I9 PR oF) (fill .e 0 [u]) hp1 .ret d hp2:=by rw[RK];exact X0.seq (X1.seq .ret)
 obtain⟨j,r1,x,k,t⟩:=jI (ov:=ov) (args:=[u]) (c:=I9 PR oF) o_fn (by kernel_rfl) i (show XK PR ov none (1+(Go.Proofs.Tryz.f52.ntmps-1)) _ _ _ _ _ _ from(show 1+(Go.Proofs.Tryz.f52.ntmps-1)=5 from by kernel_rfl)▸X) (.inr rfl) (vs:=[v]) (λh2 _=>by
  have e:Go.Proofs.Tryz.f52.results.toList=[.tmp 2]:=by kernel_rfl
  rw[e];simp only[I4,bA,s,TL])
 refine⟨j,r1,by omega,λb hb=>?_,q,k3.mono λr hr=>?_,λr hr=>?_⟩;by_cases g:hp1.m.get b=some .dfr;rw[t.dfr b hb g,g];rw[k b (by rw[k2 b hb];exact g),k2 b hb];refine k r ?_;rcases k3 with⟨_,_,_,h⟩| ⟨_,w,c',_,h3,_,o⟩;rw[h]at hr;cases hr;rw[o]at hr;cases hr;rw[h3];exactλh=>by cases h
 have:=k4 r hr;omega
