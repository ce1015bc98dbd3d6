/- Mounts: the nodes of a tree are yielded (all): rounds of a range that calls on.
  Conditions: none. -/
import Derived.Test.YtoegfalhkackeaaGreatQH
set_option maxRecDepth 10000
set_option linter.all false
noncomputable section
namespace Go.D
open Go Go.Xe Go.Sx
variable {F:FB}
def Bt {e:Ax}{v:Av}{L:Sx.Rows}(h:PV PR F (.sl e) v (.lst L)):∃q c,v= .slice q L.length c:=by
 cases h with
 |nils=>exact⟨_,_,rfl⟩|vague=>exact⟨_,_,rfl⟩|sl e i o c=>exact⟨_,_,rfl⟩
def NT.one {t:a9}{ws:Af}(n:ws.length=6)(h:NT F t (fun q=>ws[q]?)):ws.all Value.oneCell'=true:=by
 match ws,n with
 | [a,b,c,d,e,f],_=>obtain⟨⟨h0,h1,h2,⟨o,h3,g⟩,h4⟩,vc,h5,m⟩:=h;obtain⟨q,l,rfl⟩:=Bt g;obtain⟨q',l',rfl⟩:=Bt m;cases h0;cases h1;cases h2;cases h3;cases h4;cases h5;rfl
def NT.load {t:a9}{cs:Ao}(h:NT F t (at6 cs 0)):∃ws,j9 cs 0 6=some ws/\ws.length=6/\NT F t (fun q=>ws[q]?):=by
 have g:∀k,k<6-> ∃x,cs.get (0+k)=some x:=fun k hk=>by obtain⟨x,hx,_⟩:=h.cell k _ _ (Tx (by rw[DJ];exact hk)) (Tx (by rw[kf_N];exact hk));exact⟨x,hx⟩
 have hl:j9 cs 0 6=some ((List.range 6).map fun k=>(cs.get (0+k)).getD undef):=by have:=B3 (c:=cs) (vs:=(List.range 6).map fun k=>(cs.get (0+k)).getD undef) (o:=0) (fun q hq=>by simp only[TG,List.length_range]at hq;obtain⟨x,hx⟩:=g q hq;have e:q<6:=hq;simp[e];rw[TT]at hx;rw[hx];rfl);simpa using this
 refine⟨_,hl,by simp,.of_cells fun k d kd b hk=>?_⟩;have a:k<6:=by have:=(Tn.1 b).1;rw[DJ]at this;exact this
 obtain⟨x,hx,hp⟩:=h.cell k d kd b hk;refine⟨x,?_,hp⟩;have hx:cs.get (0+k)=some x:=hx;rw[TT]at hx;simp[a];rw[hx];rfl
section
variable {ov :Aa}{i j y n0 k db:Nat}{W:Nat->Prop}{g0:Ac}{J:Nat->(Ac)->Prop}{Y:Nat->Af->Prop}{hp hp2:Hp}{tms:Ao}
def inner (R:Rnds PR ov i W n0 g0 J Y)(hn:n0<=hp2.nx)(n:∀b,b<n0-> ¬W b->hp2.m.get b=g0 b)(hj:hp2.m.get j=some (.loop .ready none 25 tms #[19] aR6 aBo db))(C:n0<=j)(K:j<hp2.nx)(hy:hp2.m.get y=some (.cells (fill .e 0 [.chan (some i)]) 1 tYl 1))(P:n0<=y)(Q:y<hp2.nx)(U:y≠j)(t2:tms.get 2=some (.pointer (some ⟨y,0,none⟩))):Rnds PR ov j W hp2.nx hp2.m.get J Y where
 stab:=R.stab
 wlt:=fun b hb=>Uo (R.wlt b hb) hn
 nodfr:=R.nodfr
 arg:=R.arg
 step:=by
  intro k args hp S B;obtain⟨ws,rfl,A,I⟩:=R.arg k args B;have u:∀b,n0<=b-> ¬W b:=fun b hb f=>by have:=R.wlt b f;omega
  have g:=(S.old j K (u j C)).trans hj;have s:=(S.old y Q (u y P)).trans hy;have H:=S.nx;obtain⟨tm1,hp1,X1,N,O,e1⟩:YN PR ov (some j) 25 aR6 (iA tms [19] [.agg ws.toArray]) hp fun tm1 h1=>tm1.get 2=some (.pointer (some ⟨y,0,none⟩))/\tm1.get 5=some (.pointer (some ⟨hp.nx,0,none⟩))/\h1=⟨(hp.m.set hp.nx (some (.cells zB 6 tN 6))).set hp.nx (some (.cells (fill zB 0 ws) 6 tN 6)),hp.nx+1⟩:=
   a_6 (by show(tms.set 19 _).get 19=_;rw[VX,TJ rfl]) A I fun tm1 a b=>⟨by rw[a 2 (by decide)];show(tms.set 19 _).get 2=_;rw[VX,TH (by decide)];exact t2,b,rfl⟩
  have x:∀b,b≠hp.nx->hp1.m.get b=hp.m.get b:=fun b hb=>by rw[e1];show((hp.m.set hp.nx _).set hp.nx _).get b=_;rw[VX,TH hb,VX,TH hb]
  have E:hp1.m.get hp.nx=some (.cells (fill zB 0 ws) 6 tN 6):=by rw[e1];show((hp.m.set hp.nx _).set hp.nx _).get hp.nx=_;rw[VX,TJ rfl]
  have v:hp1.nx=hp.nx+1:=by rw[e1]
  have r:hp1.m.get j=some (.loop .ready none 25 tms #[19] aR6 aBo db):=(x j (by omega)).trans g;let l:Hp:=⟨hp1.m.set j (some (.loop .busy none 25 tms #[19] aR6 aBo db)),hp1.nx⟩
  have o:∀b,b≠j->b≠hp.nx->l.m.get b=hp.m.get b:=fun b h1 h2=>by show(hp1.m.set j _).get b=_;rw[VX,TH h1];exact x b h2
  have p:l.m.get j=some (.loop .busy none 25 tms #[19] aR6 aBo db):=by show(hp1.m.set j _).get j=_;rw[VX,TJ rfl]
  have L:l.nx=hp.nx+1:=v;have SB:St W n0 g0 J k l:=⟨by omega,fun b hb f=>by rw[o b (by omega) (by omega),S.old b (by omega) f];exact n b hb f,R.stab k _ _ S.j fun b f=>o b (by have:=R.wlt b f;omega) (by have:=R.wlt b f;omega)⟩
  obtain⟨G,XR,SC,KC⟩:=R.step k _ l SB B;have t:=KC.keeps fun b hb=>R.nodfr k _ b SB.j hb;obtain⟨w,d,X2,e2⟩:YN PR ov (some j) 25 aBo tm1 l fun _ h2=>h2=G:=by rw[a_bo];refine .block (.seq (a_7 (i:=i) (y:=y) (c:=hp.nx) (cs:=fill zB 0 ws) N O ?_ ?_ (Mv A) XR t fun w h=>.condF (evt h) (.skip rfl)));rw[o y U (by omega)];exact s;show(hp1.m.set j _).get hp.nx=_;rw[VX,TH (by omega)];exact E
  subst e2;have q:d.m.get j=some (.loop .busy none 25 tms #[19] aR6 aBo db):=(KC.2 j (by omega) (u j C)).trans p;have M:=KC.1;have D:∀b,b<hp.nx-> ¬W b->b≠j->d.m.get b=hp.m.get b:=fun b h1 h2 h3=>by rw[KC.2 b (by omega) h2];exact o b h3 (by omega)
  have z:∀b,b<hp.nx-> ¬W b->(d.m.set j (some (.loop .ready none 25 tms #[19] aR6 aBo db))).get b=hp.m.get b:=fun b h1 h2=>by rw[VX];split;rename_i e;rw[e];exact g.symm;rename_i e;exact D b h1 h2 e
  refine⟨⟨d.m.set j (some (.loop .ready none 25 tms #[19] aR6 aBo db)),d.nx⟩,xrnd g rfl rfl X1 r X2 q,⟨by show hp2.nx<=d.nx;omega,fun b hb f=>?_,?_⟩,⟨by show hp.nx<=d.nx;omega,z⟩⟩;show(d.m.set j _).get b=_;rw[z b (by omega) f];exact S.old b hb f;refine R.stab (k+1) _ _ SC.j fun b f=>?_;show(d.m.set j _).get b=_;rw[VX,TH (by have:=R.wlt b f;omega)]
end
end Go.D
namespace Go.D
open Go Go.Xe Go.Sx
mutual
def Nc :a9->List a9
 | .mk k t y a x c=>.mk k t y a x c::preL c
def preL :List a9->List a9
 | []=>[]
 |s::l=>Nc s++preL l
end
mutual
def Nf :∀s:a9,(Nc s).length=s.size
 | .mk k t y a x c=>by simp only[Nc,a9.size,Ue,preL_len c]
def preL_len :∀l:List a9,(preL l).length=a9.sizes l
 | []=>rfl|s::l=>by simp only[preL,a9.sizes,TO,Nf s,preL_len l]
end
def Ky {l:List a9}{c:a9}(h:c∈l):c.size<=a9.sizes l:=by
 induction l with
 |nil=>cases h
 |cons a l b=>simp only[a9.sizes];rcases TZ.1 h with rfl|h;omega;have:=b h;omega
section
variable {ov :Aa}{hp:Hp}{ws:Af}
end
section
variable {ov :Aa}{s:a9}{i n0 k0 y:Nat}{W:Nat->Prop}{g0 F:FB}{J:Nat->FB->Prop}{Y:Nat->Af->Prop}{hpa:Hp}{vc:Av}
end
def Kp.leave {W:Nat->Prop}{hp a c:Hp}(K:Kp W hp a)(hn:c.nx=a.nx)(h:∀b,a.m.get b≠some .dfr->c.m.get b=a.m.get b)(kp:H7 hp c):Kp W hp c:=
 ⟨by rw[hn];exact K.1,fun b hb e=>by by_cases d:a.m.get b=some .dfr;have:=K.2 b hb e;rw[d]at this;rw[<-this];exact kp.dfr b hb this.symm;rw[h b d];exact K.2 b hb e⟩
section
variable {ov :Aa}{D:DM}{nS K c:Nat}{gS:FB}{u:Av}{p:Aq}{s:Sl}
def CL (aj:Xe.isT (ov bF)=false)(ak:Xe.isT (ov bG)=false)(w:WF D K)(hL:AA ov D nS gS u)(hu:u= .pointer p)(hs:D.L[c]? =some s)(us:s.used=true)(IH:∀j∈s.n.ch,xH ov D nS gS u j)(al:s.n.ch.length<1000000):xH ov D nS gS u c:=by
 intro i n0 k0 b ob bd od nb eb zb nd ed zd O0 O g0 J Y hp cs cd R S hb N hl b1 bw B P M d1 dw ay hS oS hY;rw[cX w hs us]at hY⊢;have Sn:=S.nx;have H:=S.lt;have nN:∀b,hp.nx<=b-> ¬O b:=fun b hb h=>by have:=H b h;omega
 obtain⟨tm1,hpa,X0,q1,q2,q3,ea⟩:=b_0 (ov:=ov) (ar:=none) (i:=i) (u:= .pointer (some ⟨b,ob,none⟩)) (v:= .pointer (some ⟨bd,od,none⟩)) (hp:=hp) (tm:=fill .e 0 [.chan (some i),.pointer (some ⟨b,ob,none⟩),.pointer (some ⟨bd,od,none⟩)]) (Q:=fun tm1 h1=>tm1.get 1=some (.pointer (some ⟨b,ob,none⟩))/\tm1.get 2=some (.pointer (some ⟨bd,od,none⟩))/\tm1.get 3=some (.pointer (some ⟨hp.nx,0,none⟩))/\h1=⟨hp.m.set hp.nx (some (.cells (fill .e 0 [.chan (some i)]) 1 tYh 1)),hp.nx+1⟩)
  (by rw[p6 _ _ (by simp)];rfl) (by rw[p6 _ _ (by simp)];rfl) (by rw[p6 _ _ (by simp)];rfl) fun tm1 a1 a2 a3=>⟨a1,a2,a3,rfl⟩
 have ga:∀c,c<hp.nx->hpa.m.get c=hp.m.get c:=fun c hc=>by rw[ea];show(hp.m.set hp.nx _).get c=_;rw[VX,TH (by omega)]
 have gy:hpa.m.get hp.nx=some (.cells (fill .e 0 [.chan (some i)]) 1 tYh 1):=by rw[ea];show(hp.m.set hp.nx _).get hp.nx=_;rw[VX,TJ rfl]
 have az:hpa.nx=hp.nx+1:=by rw[ea]
 have Ka:Kp O hp hpa:=⟨by omega,fun c hc _=>ga c hc⟩
 have Sa:OSt n0 g0 O0 J k0 O hpa:=S.grow R (by omega) fun c hc=>ga c (by rcases hc with hc|hc;omega;exact H c hc);obtain⟨V,O1,XR,Sb,Kb,m1,m2⟩:=R.step k0 O [.agg (hv D c).toArray] hpa Sa (hY 0 c rfl);have an:=Kb.keeps fun c hc=>R.nodfr k0 _ _ c Sa.j hc;have ba:=Kb.1;have I:∀c,c<hp.nx-> ¬O c->V.m.get c=hp.m.get c:=fun c hc hw=>(Kb.2 c (by omega) hw).trans (ga c hc);obtain⟨o,k,X1,C,q9,ae⟩:=b_1 (ov:=ov) (ar:=none) (tm:=tm1) (Q:=fun o h2=>(∀x,x<9->o.get x=tm1.get x)/\o.get 12=some (.bool false)/\h2=V) q1 q3 gy ((ga b b1).trans hb) N hl XR an fun o a c=>⟨a,c,rfl⟩
 subst ae;have G:∀b,b<nS-> ¬O b:=fun b hb h=>by have:=oS b h;omega
 obtain⟨f,vs,rr,q,cc,XL,ap,gc,ax,ho,h9,ai⟩:=hL c s k hs us (by omega) fun b hb=>(I b (by omega) (G b hb)).trans (hS b hb);have ao:H7 k f:=⟨ap,fun r hr h=>by rw[gc r hr];exact h⟩
 obtain⟨t,l,X2,aa,q4,E⟩:=b_2 (ov:=ov) (ar:=none) (tm:=o) (vs:=vs) (Q:=fun t h3=>(∀x,x<4->t.get x=o.get x)/\t.get 4=some (.pointer (some ⟨f.nx,0,none⟩))/\h3=⟨(f.m.set f.nx (some (.cells zVB 10 tVw 10))).set f.nx (some (.cells (fill zVB 0 vs) 10 tVw 10)),f.nx+1⟩)
  (by rw[C 1 (by decide)];exact q1) ((I b b1 bw).trans hb) N hl (by rw[C 2 (by decide)];exact q2) ((I bd d1 dw).trans B) P M XL ao ax ho fun t a c=>⟨a,c,rfl⟩
 have gd:∀c,c<f.nx->l.m.get c=f.m.get c:=fun c hc=>by rw[E];show((f.m.set f.nx _).set f.nx _).get c=_;rw[VX,TH (by omega),VX,TH (by omega)]
 have ah:l.m.get f.nx=some (.cells (fill zVB 0 vs) 10 tVw 10):=by rw[E];show((f.m.set f.nx _).set f.nx _).get f.nx=_;rw[VX,TJ rfl]
 have bb:l.nx=f.nx+1:=by rw[E]
 have z:∀c,c<k.nx->l.m.get c=k.m.get c:=fun c hc=>(gd c (by omega)).trans (gc c hc);obtain⟨g,A,X3,ab,aq,au,av,e4⟩:=b_3 (ov:=ov) (ar:=none) (tm:=t) (hp:=l) (Q:=fun g h4=>(∀x,x<9->g.get x=t.get x)/\g.get 20=some (.slice q s.n.ch.length cc)/\g.get 21=some (.int .i64 s.n.ch.length)/\g.get 22=some (.int .i64 0)/\h4=l) q4 ah (by omega) (by rw[j8,TJ ⟨by omega,by omega⟩];exact h9) fun g a1 a2 a3 a4=>⟨a1,a2,a3,a4,rfl⟩
 subst e4;have ac:OSt n0 g0 O0 J (k0+1) O1 A:=Sb.grow R (by omega) fun c hc=>z c (by rcases hc with hc|hc;omega;exact Sb.lt c hc);have F:∀c,c<hpa.nx-> ¬O c-> ¬O1 c:=fun c hc h h'=>(m2 c h').elim h fun h3=>by omega
 obtain⟨aw,W,O',ad,SL,KL,m',w'⟩:=LI (cc:=cc) (k0:=k0+1) ak hu IH al R (y:=hp.nx) (hpa:=A) (Oa:=O1) (by omega) (F _ (by omega) (nN _ (TK _))) (by omega) (by rw[z _ (by omega),Kb.2 hp.nx (by omega) (nN _ (TK _))];exact gy)
  (bd:=bd) (F _ (by omega) dw) (by omega) (by rw[z _ (by omega),I bd d1 dw];exact B) P M (by omega) (fun b hb=>by rw[z b (by omega),I b (by omega) (G b hb)];exact hS b hb) (fun b hb=>(m2 b hb).elim (oS b) fun h=>by omega)
  (fun j x hj=>by obtain⟨Z,oc,bc,dc,nc,zc,k1,⟨k2,k3,k4⟩,k5⟩:=ai j x hj;refine⟨Z,oc,bc,dc,nc,zc,k1,⟨(gd Z k3).trans k2,by omega,fun h=>?_⟩,k5⟩;have:=Sb.lt Z h;rcases k4 with k4|k4;exact F Z (by omega) (G Z k4) h;omega)
  (fun q x hq=>by have:=hY (q+1) x (by rw[Tw];exact hq);rwa[show k0+(q+1)=k0+1+q by omega]at this)
  s.n.ch [] g A O1 rfl (by rw[ab 2 (by decide),aa 2 (by decide),C 2 (by decide)];exact q2) (by rw[ab 3 (by decide),aa 3 (by decide),C 3 (by decide)];exact q3) aq au av ac .refl (fun b h=>h) (fun b h=>.inl h)
 have X:XK PR ov none 35 (H9 PR bF) (fill .e 0 [.chan (some i),.pointer (some ⟨b,ob,none⟩),.pointer (some ⟨bd,od,none⟩)]) hp .normal aw W:=by rw[Ri];exact X0.seq ((X1.seq (XK.condF (evt q9) .skip)).seq (X2.seq (X3.seq (XK.blockX ad))))
 obtain⟨U,r1,r2,r3,r4⟩:=jS (ov:=ov) (args:=[.chan (some i),.pointer (some ⟨b,ob,none⟩),.pointer (some ⟨bd,od,none⟩)]) (c:=H9 PR bF) b_fn (by kernel_rfl) aj (show XK PR ov none (3+(Go.Proofs.Tryz.f101.ntmps-3)) _ _ _ _ _ _ from(show 3+(Go.Proofs.Tryz.f101.ntmps-3)=35 from by kernel_rfl)▸X) (.inl rfl) (vs:=[]) (fun _ _=>by
  have e:Go.Proofs.Tryz.f101.results.toList=[]:=by kernel_rfl
  rw[e];rfl)
 have mm:∀b,O b->O' b:=fun b h=>m' b (m1 b h);have Kz:Kp O hp W:=((Ka.trans Kb).trans ⟨by omega,fun c hc _=>z c hc⟩).sub KL fun c h=>(m2 c h).imp id fun h=>by omega
 have K3:Kp O hp U:=Kz.leave r2 r3 r4;have k1:=K3.1;refine⟨U,O',r1,⟨by omega,fun d B hw=>?_,fun d B=>by rw[r2];exact SL.lt d B,SL.own,SL.mono,?_⟩,K3,mm,fun d B=>?_⟩;rw[K3.2 d (by omega) fun h=>hw (mm d h)];exact S.old d B fun h=>hw (mm d h);rw[Ue,show k0+((s.n.ch.flatMap (bel D 1001)).length+1)=k0+1+(s.n.ch.flatMap (bel D 1001)).length by omega];exact R.stab _ _ _ _ SL.j fun d B=>r3 d (R.nodfr _ _ _ d SL.j B)
 ·rcases w' d B with h|h;exact(m2 d h).imp id fun h=>by omega
  exact .inr (by omega)
def LQ (w:WF D K)(hs:D.L[c]? =some s)(us:s.used=true):s.n.ch.length<1000000:=by
 obtain⟨h1,h2⟩:=w.ch c s hs us;have:s.n.ch ⊆ List.range D.L.length:=fun j hj=>by obtain⟨sj,k,_⟩:=h2 j hj;exact List.mem_range.2 (Tn.1 k).1
 have:=h1.length_le_of_subset this;have:=w.lim;simp at*;omega
def HD (a:Xe.isT (ov bF)=false)(b:Xe.isT (ov bG)=false)(w:WF D K)(hL:AA ov D nS gS u)(d:u= .pointer p){r:Nat->Nat}(h1:∀i,r i<=K)(hr:∀(i:Nat) s,D.L[i]? =some s->s.used=true-> ∀j∈s.n.ch,r i<r j):∀(N c:Nat) (s:Sl),D.L[c]? =some s->s.used=true->K-r c<=N->xH ov D nS gS u c
 |0,c,s,hs,us,e=>CL a b w hL d hs us (fun j hj=>by have:=hr c s hs us j hj;have:=h1 j;omega) (LQ w hs us)|N+1,c,s,hs,us,e=>CL a b w hL d hs us (fun j hj=>by obtain⟨sj,k1,k2,_⟩:=(w.ch c s hs us).2 j hj;have:=hr c s hs us j hj;have:=h1 j;exact HD a b w hL d h1 hr N j sj k1 k2 (by omega)) (LQ w hs us)
def Rj (a:Xe.isT (ov bF)=false)(b:Xe.isT (ov bG)=false)(w:WF D K)(hL:AA ov D nS gS u)(d:u= .pointer p)(hs:D.L[c]? =some s)(us:s.used=true):xH ov D nS gS u c:=by obtain⟨r,h1,hr⟩:=w.rank;exact HD a b w hL d h1 hr _ c s hs us (TK _)
