/- move, in the executor: whole (DiffsApply).
  Conditions: none. -/
import Derived.Test.YtcjhhnoaoldcmaaGreatSM
set_option linter.all false
set_option maxRecDepth 10000
noncomputable section
namespace Go.D
open Go Go.Xe Go.Sx Go.RowKit
open Go.C36 (row)
section
variable {ov :Aa}{hp0 hp hp1 hp2:Hp}{tm tmC:Ao}{F:FB}{s:Stp}{vs:Af}{n n':a8}{b0 b3 b5 il ol Nl:Nat}{csl:Ao}{S1:Ah}
theorem W7.leave (k:W7 hp0 il ol Nl csl S1 n' hp1)(hn:hp2.nx=hp1.nx)(same:∀i,hp1.m.get i≠some .dfr->hp2.m.get i=hp1.m.get i)(kp:l9 hp0 hp2):W7 hp0 il ol Nl csl S1 n' hp2:=by
 obtain⟨⟨csl',S2,k1,k2,k3,a,b,c,f⟩,g,d⟩:=k;refine⟨⟨csl',S2,by grind,k2,k3.leave same,a,b,c,fun q hq=>by grind⟩,by omega,fun j hj h1 h2=>?_⟩;by_cases e:hp1.m.get j=some .dfr
 ·rw[d j hj h1 h2]at e;rw[e];exact kp.dfr j hj e
 ·grind
def MvR (hp0:Hp)(il ol Nl:Nat)(csl:Ao)(S1:Ah)(r:Except Int a8)(e:Int)(hp':Hp):Prop:=match r with
 | .ok n'=>e=0/\W7 hp0 il ol Nl csl S1 n' hp'| .error k=>e=k/\New hp0 hp'
open Classical in
theorem jm (h1:¬(s.w=5/\ ¬z7 s.t))(h2:¬(s.w≠5/\(s.i<0\/(n.c.length:Int)<=s.i))):H2 n s=if s.w≠4/\(s.o<0\/((G3 n s).length:Int)<s.o)then .error 1 else .ok (rV n (if s.w=4 then G3 n s else G7 (G3 n s) s.o (child n s))):=by unfold H2;grind
variable {K:List Kid}{cc:Ao}
theorem DN {H:FB}{oc i:Nat}{ch:Kid}(a:KOk H K)(hl:d6 cc oc (K.length*6)=some (K8 K))(hi:K[i]? =some ch):d6 cc (oc+i*6) 6=some ch.2.2:=by have b:=(a ch (JV hi)).1;have hj:=(JO.1 hi).1;have:=i8 (fun q hq=>by rw[<-hM a hi (by omega),(g9 hl).2 (i*6+q) (by omega),KU]);grind
theorem zn (hc:Go.Xe.isT (ov ckF)=false)(hd:Go.Xe.isT (ov dkF)=false)(hi:Go.Xe.isT (ov ikF)=false)(G:ov (ρn.f 27)=some (ρn.t 22))(C:Cx F s vs n b0 il ol Nl csl S1 tmC hp0)(ac:n.c.length<=999){vc:Aw}{ic:Ai}{oc:Nat}(KD:wg hp0 n il ol Nl csl S1 vc ic oc cc K){ch:Kid}(M:Mv vs b3 b5 il ol ch.2.2 hp0 tm hp)(g1:¬(s.w=5/\ ¬z7 s.t))(g2:¬(s.w≠5/\(s.i<0\/(n.c.length:Int)<=s.i)))(D:ch.1=child n s)(v:ch.2.2.length=6/\TB hp.m.get ch.2.1 ch.1 (fun q=>ch.2.2[q]?))(h5:s.w=5->ch.2.1.Nodup/\ ∀q∈ch.2.1,hp0.nx<=q/\q<hp.nx)(V:s.w≠5->K[s.i.toNat]? =some ch):YR ov 83 m3 tm hp fun tm' hp'=>∃e,tm'.get 4=some (.int .i64 e)/\MvR hp0 il ol Nl csl S1 (H2 n s) e hp':=by
 have Q:=C.hs;have I:m3= .seq (cdA m3) (.seq (.seq (cdA (cdA m4)) (.cond (.tmp 47) (cdA (cdB (cdA m4))) .skip)) m5):=by kernel_rfl
 have ae:K.length=n.c.length:=by rw[<-KD.kl,Kf]
 have hw:hp.m.get il=some (.cells csl Nl tN 6):=(M.nw.old il C.ilt).trans C.hw;have nx0:=M.nw.nx;have back:∀q∈aN K,q<hp0.nx:=fun q h=>C.lt q (KD.ks q h);have A:KOk hp.m.get K:=KD.ok.frame fun k hk q hq=>M.nw.old q (back q (List.mem_flatten.2 (by grind)));have u:=KD.own.frame fun j hj=>M.nw.old j (C.lt j (KD.ic j hj));rw[I,jm g1 g2];refine .seq (M_R10 M.t0 hw C.hN KD.h5 fun tm1 R h7=>?_);by_cases p:s.w=5
 ·refine .seq (.seq (HX (by rw[R 3 (by omega)];exact M.t3) M.hb3 Q.2.1 fun ab S U=>.condF (j9 (by grind)) (.skip ?_)));have M2:=M.next ⟨Kj _,fun _ _=>rfl⟩ fun x hx=>(S x (by omega)).trans (R x (by omega));obtain⟨nd,fr⟩:=h5 p;have d:s.w≠4:=by omega
  have P:G3 n s=K.map (·.1):=by unfold G3;rw[Ki p,KD.kl]
  obtain⟨tm',hp',xk,r⟩:=Er hc hi G C KD M2 d (by rw[S 7 (by omega)];exact h7) v A ⟨ic,oc,cc,u,KD.ld,fun j hj=>⟨by have:=C.lt j (KD.ic j hj);omega,trivial⟩⟩ (by omega) (LS.2 ⟨nd,KD.nd,fun a ha b hb e=>by have:=(fr a ha).1;have:=back b hb;omega⟩) fun q hq=>(Kx.1 hq).elim (fun h=>.inr (fr q h)) .inl;rw[P,Kf,Kg d];refine⟨tm',hp',xk,?_⟩;by_cases hb:s.o<0\/(K.length:Int)<s.o
  ·rw[Ki hb]at r;rw[Ki ⟨d,hb⟩];exact⟨1,r.1,rfl,r.2⟩
  ·rw[Kg hb]at r;rw[Kg fun h=>hb h.2,<-D];exact⟨0,r.1,rfl,r.2⟩
 ·obtain⟨i,y⟩:∃i:Nat,s.i=i:=⟨s.i.toNat,by omega⟩
  have E:i<K.length:=by omega
  have X:K[i]? =some ch:=by have:=V p;rw[y]at this;exact this
  have g:=CU X;have L:(ch.2.1++aN (E8 K i)).Nodup:=g.nodup_iff.2 KD.nd;have P:G3 n s=(E8 K i).map (·.1):=by unfold G3;rw[Kg p,Ea,KD.kl,y]
  have ad:(E8 K i).length=K.length-1:=ml E;refine .seq (.seq (HX (by rw[R 3 (by omega)];exact M.t3) M.hb3 Q.2.1 fun ab S U=>.condT (j9 (by grind)) ?_));have M2:=M.next ⟨Kj _,fun _ _=>rfl⟩ fun x hx=>(S x (by omega)).trans (R x (by omega));refine M_R12 hc hd M2.t0 M2.t3 M2.hb3 M2.b3l (by rw[<-y];exact Q.2.2.2.2.2.1) hw C.hN KD.h5 A u KD.ld (fun j hj=>by have:=C.lt j (KD.ic j hj);omega) E (by omega) fun ai z v3 x3 Y W Z=>?_;have M3:=M2.next Y fun x hx=>x3 x (by omega);have N:KOk z.m.get (E8 K i):=(A.del i).frame fun k hk q hq=>Y.old q (by have l:=g.mem_iff.1 (Lv _ (List.mem_flatten.2 ⟨k.2.1,Lt.2 ⟨k,hk,rfl⟩,hq⟩));have:=back q l;omega);by_cases d:s.w=4
  ·have J:m5= .seq (.seq (cdA (cdA m5)) (.cond (.tmp 61) mZ .skip)) m6:=by kernel_rfl
   rw[J,Kg (fun h=>h.1 d),Ki d,P];refine .seq (.seq (Cw M3.t3 M3.hb3 Q.2.1 fun aj x4 ah=>.condF (j9 (by grind)) (.skip ?_)));have aa:=Z;obtain⟨H,O,cc3,y1,_⟩:=aa;obtain⟨q3,c3,rfl⟩:=y1.sl;have T:=KD.up z (E8 K i) _ hp.nx M3.nw Z nx0 N (by omega) (LS.1 L).2.1 fun q hq=>by have l:=g.mem_iff.1 (Lv _ hq);have:=back q l;exact⟨.inl l,by omega⟩
   exact HZ (by rw[x4 0 (by omega)];exact M3.t0) (by grind) ((M3.nw.old il C.ilt).trans C.hw) C.hN fun ak h4=>⟨0,h4,rfl,T⟩
  ·obtain⟨H,O,cc3,y1,y2,y3⟩:=Z;have B:ch.2.2.length=6/\TB z.m.get ch.2.1 ch.1 (fun q=>ch.2.2[q]?):=⟨v.1,v.2.frame fun q hq=>Y.old q (by have:=back q (g.mem_iff.1 (LG _ hq));omega)⟩
   obtain⟨tm',hp',xk,r⟩:=Er hc hi G C KD M3 d W B N ⟨H,O,cc3,y1,y2,fun j hj=>⟨(y3 j hj).1,trivial⟩⟩ (by omega) L fun q hq=>.inl (g.mem_iff.1 hq);rw[P,Kf,Kg d];refine⟨tm',hp',xk,?_⟩;by_cases hb:s.o<0\/((E8 K i).length:Int)<s.o
   ·rw[Ki hb]at r;rw[Ki ⟨d,hb⟩];exact⟨1,r.1,rfl,r.2⟩
   ·rw[Kg hb]at r;rw[Kg fun h=>hb h.2,<-D];exact⟨0,r.1,rfl,r.2⟩
def Hb (hc:Go.Xe.isT (ov ckF)=false)(hd:Go.Xe.isT (ov dkF)=false)(hi:Go.Xe.isT (ov ikF)=false)(ae:ov (ρn.f 27)=some (ρn.t 22))(hk:g8 PR U0 ov cChk 34)(hy:z7 s.t->qB ov yF [] s.t)(C:Cx F s vs n b0 il ol Nl csl S1 tmC hp0)(L:n.c.length<=999):YR ov 83 m0 (fill .e 0 [.pointer (some ⟨il,ol,none⟩),.agg vs.toArray]) hp0 fun tm' hp'=>∃e,tm'.get 4=some (.int .i64 e)/\MvR hp0 il ol Nl csl S1 (H2 n s) e hp':=by
 have y:=C.hs;have h12:=y.1;have rn:RN F s.t (fun q=>(vs.drop 6)[q]?):=y.2.2.2.2.2.2.2.win fun q hq=>Kz ..;have A:(vs.drop 6).length=6:=by rw[KN];omega
 obtain⟨vc,ic,oc,cc,K,KD⟩:=C.kids;have N:K.length=n.c.length:=by rw[<-KD.kl,Kf]
 have V:m0= .seq (cdA m0) (.seq (cdA (cdB m0)) (.seq (.seq (cdA (cdA m2)) (.cond (.tmp 12) mX mY)) m3)):=by kernel_rfl
 have ai:∀ {U:Hp} {b:Nat} {k:Bc Blk},New hp0 U->hp0.nx<=b->New hp0 ⟨U.m.set b k,U.nx⟩:=fun h hb=>⟨h.nx,fun j hj=>by show(_:T Blk).get j=_;rw[Mw,Kg (by omega),h.old j hj]⟩
 rw [V];refine .seq (M_R0 (by rw[d7];rfl) h12 fun tm1 x1 h3=>.seq (M_R1 h3 (by show(hp0.m.set hp0.nx _).get hp0.nx=_;rw[Mw,Ki rfl]) h12 (rn.one A) fun E x2 h5=>?_));have M:Mv vs hp0.nx (hp0.nx+1) il ol (vs.drop 6) hp0 E ⟨((hp0.m.set hp0.nx (some (.cells (fill .e 0 vs) 12 tSp 12))).set (hp0.nx+1) (some (.cells zB 6 tN 6))).set (hp0.nx+1) (some (.cells (fill zB 0 (vs.drop 6)) 6 tN 6)),hp0.nx+1+1⟩:=by
  refine⟨by rw[x2 0 (by omega),x1 0 (by omega),d7];rfl,by rw[x2 3 (by omega)];exact h3,h5,⟨by show hp0.nx<=hp0.nx+1+1;omega,fun j hj=>?_⟩,?_,by show hp0.nx<hp0.nx+1+1;omega,⟨fill zB 0 (vs.drop 6),?_,r0 A⟩,by show hp0.nx+1<hp0.nx+1+1;omega⟩
  ·show(((hp0.m.set hp0.nx _).set (hp0.nx+1) _).set (hp0.nx+1) _).get j=_;rw[Mw,Kg (by omega),Mw,Kg (by omega),Mw,Kg (by omega)]
  ·show(((hp0.m.set hp0.nx _).set (hp0.nx+1) _).set (hp0.nx+1) _).get hp0.nx=_;rw[Mw,Kg (by omega),Mw,Kg (by omega),Mw,Ki rfl]
  ·show(((hp0.m.set hp0.nx _).set (hp0.nx+1) _).set (hp0.nx+1) _).get (hp0.nx+1)=_;rw[Mw,Ki rfl]
 revert M;generalize (⟨((hp0.m.set hp0.nx (some (.cells (fill .e 0 vs) 12 tSp 12))).set (hp0.nx+1) (some (.cells zB 6 tN 6))).set (hp0.nx+1) (some (.cells (fill zB 0 (vs.drop 6)) 6 tN 6)),hp0.nx+1+1⟩:Hp)=g;intro M;have al:=M.b5l;obtain⟨d,hb5,S⟩:=M.hb5;by_cases a:s.w=5
 ·obtain⟨ah,e,r1,W,r3,r4⟩:=dL hk (D8 C.fh M.nw) A rn;by_cases he:e=0
  ·have hV:=r3.1 he;have n3:=M.nw.trans W;have ap:=W.nx;refine .seq (.seq (M_R2 M.t3 M.hb3 y.2.1 fun X r l=>.condT (j9 (by rw[l,decide_eq_true a])) ?_));refine .seq (.seq (M_R3 (by rw[r 5 (by omega)];exact M.t5) hb5 S r1 W.keeps fun G Z h6=>.seq (M_R4 h6 fun v x5 O=>.condF (j9 (by rw[O,decide_eq_true he];rfl)) (.skip ?_))));obtain⟨o,us,Sx,y1,y2,y3,y4,y5,y6⟩:=hy hV ah (vs.drop 6) F A rn (D8 C.fh n3);have aq:=y2.nx;have I:ah.m.get (hp0.nx+1)=some (.cells d 6 tN 6):=(W.old _ al).trans hb5;have ab:o.m.get (hp0.nx+1)=some (.cells d 6 tN 6):=(y2.old _ (by omega)).trans I;refine M_R6 (by rw[x5 5 (by omega),Z 5 (by omega),r 5 (by omega)];exact M.t5) I S y1 y2.keeps ab y3 (y4.one y3) fun Y x6=>?_;have ht:∀x,x<6->Y.get x=E.get x:=fun x hx=>by rw[x6 x (by omega),x5 x (by omega),Z x (by omega),r x (by omega)]
   have M6:Mv vs hp0.nx (hp0.nx+1) il ol us hp0 Y ⟨o.m.set (hp0.nx+1) (some (.cells (fill d 0 us) 6 tN 6)),o.nx⟩:=by
    refine⟨(ht 0 (by omega)).trans M.t0,(ht 3 (by omega)).trans M.t3,(ht 5 (by omega)).trans M.t5,ai (n3.trans y2) (by omega),?_,by show hp0.nx<o.nx;omega,⟨fill d 0 us,?_,r0 y3⟩,by show hp0.nx+1<o.nx;omega⟩
    ·show(o.m.set (hp0.nx+1) _).get hp0.nx=_;rw[Mw,Kg (by omega),y2.old _ (by omega),W.old _ (by omega)];exact M.hb3
    ·show(o.m.set (hp0.nx+1) _).get (hp0.nx+1)=_;rw[Mw,Ki rfl]
   exact zn hc hd hi ae C L KD (ch:=(s.t,Sx,us)) M6 (fun h=>h.2 hV) (fun h=>h.1 a) (by unfold child;rw[Ki a]) ⟨y3,y4.frame fun j hj=>by have:=(y6 j hj).1;rw[Mw,Kg (by omega)]⟩ (fun _=>⟨y5,fun q hq=>by have:=y6 q hq;show hp0.nx<=q/\q<o.nx;omega⟩) (fun h=>absurd a h)
  ·have hV:¬z7 s.t:=fun h=>he (r3.2 h);have aj:e=14:=r4.resolve_left he;have em:H2 n s= .error 14:=by unfold H2;rw[Ki ⟨a,hV⟩]
   rw[em];refine .seqX (.seq (M_R2 M.t3 M.hb3 y.2.1 fun X r l=>.condT (j9 (by rw[l,decide_eq_true a])) ?_));refine .seqX (.seq (M_R3 (by rw[r 5 (by omega)];exact M.t5) hb5 S r1 W.keeps fun G Z h6=>.seq (M_R4 h6 fun v x5 O=>.condT (j9 (by rw[O,Ll he];rfl)) ?_)));exact M_R5 (by rw[x5 6 (by omega)];exact h6) fun Y h4=>⟨e,h4,aj,M.nw.trans W⟩
 ·have hw:g.m.get il=some (.cells csl Nl tN 6):=(M.nw.old il C.ilt).trans C.hw;obtain⟨q,c,aa⟩:=KD.own.sl;have D:=KD.h5;rw[aa]at D;by_cases p:s.i<0\/(K.length:Int)<=s.i
  ·have em:H2 n s= .error 11:=by unfold H2;rw[Kg (fun h=>a h.1),Ki ⟨a,by rw[<-N];exact p⟩]
   rw[em];refine .seqX (.seq (M_R2 M.t3 M.hb3 y.2.1 fun X r l=>.condF (j9 (by rw[l,Ll a])) ?_));refine .seqX (.seq (M_R7 (by rw[r 0 (by omega)];exact M.t0) (by rw[r 3 (by omega)];exact M.t3) M.hb3 y.2.2.2.2.2.1 hw C.hN D fun G Z P=>.condT (j9 (by rw[P,decide_eq_true p])) (M_R8 fun v h4=>⟨11,h4,rfl,M.nw.trans ⟨Nat.le_add_right _ _,fun _ _=>rfl⟩⟩)))
  ·obtain⟨i,R⟩:∃i:Nat,s.i=i:=⟨s.i.toNat,by omega⟩
   have ac:i<K.length:=by omega
   obtain⟨ch,u⟩:∃ch,K[i]? =some ch:=⟨_,JX ac⟩
   have ad:=DN KD.ok KD.ld u;obtain⟨z,J⟩:=KD.ok ch (JV u);rcases KD.own with⟨h0,_⟩| ⟨ix,c',Nx,rfl,H,ao,Q,hN⟩
   ·omega
   rw[aa]at H;cases H;have hx:g.m.get ix=some (.cells cc Nx tN 6):=(M.nw.old ix (C.lt ix (KD.ic ix (by simp)))).trans Q;refine .seq (.seq (M_R2 M.t3 M.hb3 y.2.1 fun X r l=>.condF (j9 (by rw[l,Ll a])) ?_));refine .seq (.seq (M_R7 (by rw[r 0 (by omega)];exact M.t0) (by rw[r 3 (by omega)];exact M.t3) M.hb3 y.2.2.2.2.2.1 hw C.hN D fun G Z P=>.condF (j9 (by rw[P,Ll p])) (.skip ?_)));have B:∀x,x<10->G.get x=E.get x:=fun x hx=>by rw[Z x (by omega),r x (by omega)]
   refine M_R9 (i:=i) (hp:=⟨g.m,g.nx+13⟩) (by rw[B 0 (by omega)];exact M.t0) (by rw[B 3 (by omega)];exact M.t3) (by rw[B 5 (by omega)];exact M.t5) M.hb3 (by rw[<-R];exact y.2.2.2.2.2.1) hw C.hN D ac hx (by omega) ad z (J.one z) hb5 fun v x5=>?_;have ht:∀x,x<6->v.get x=E.get x:=fun x hx=>by rw[x5 x (by omega),B x (by omega)]
   have M6:Mv vs hp0.nx (hp0.nx+1) il ol ch.2.2 hp0 v ⟨g.m.set (hp0.nx+1) (some (.cells (fill d 0 ch.2.2) 6 tN 6)),g.nx+13+9⟩:=by
    refine⟨(ht 0 (by omega)).trans M.t0,(ht 3 (by omega)).trans M.t3,(ht 5 (by omega)).trans M.t5,⟨by show hp0.nx<=g.nx+13+9;omega,fun j hj=>?_⟩,?_,by show hp0.nx<g.nx+13+9;omega,⟨fill d 0 ch.2.2,?_,r0 z⟩,by show hp0.nx+1<g.nx+13+9;omega⟩
    ·show(g.m.set (hp0.nx+1) _).get j=_;rw[Mw,Kg (by omega),M.nw.old j hj]
    ·show(g.m.set (hp0.nx+1) _).get hp0.nx=_;rw[Mw,Kg (by omega)];exact M.hb3
    ·show(g.m.set (hp0.nx+1) _).get (hp0.nx+1)=_;rw[Mw,Ki rfl]
   have ak:n.c[i]? =some ch.1:=by rw[<-KD.kl,KL,u];rfl
   refine zn hc hd hi ae C L KD (ch:=ch) M6 (fun h=>a h.1) (fun h=>p (by rw[N];exact h.2)) (by unfold child;rw[Kg a,R,KB,Kr,ak];rfl) ⟨z,J.frame fun q hq=>M6.nw.old q (C.lt q (KD.ks q (List.mem_flatten.2 ⟨ch.2.1,Lt.2 ⟨ch,JV u,rfl⟩,hq⟩)))⟩ (fun h=>absurd h a) (fun _=>by rw[R,KB];exact u)
def GZ (l:Go.Xe.isT (ov mvF)=false)(hc:Go.Xe.isT (ov ckF)=false)(hd:Go.Xe.isT (ov dkF)=false)(hi:Go.Xe.isT (ov ikF)=false)(b:ov (ρn.f 27)=some (ρn.t 22))(hk:g8 PR U0 ov cChk 34)(hy:z7 s.t->qB ov yF [] s.t)(C:Cx F s vs n b0 il ol Nl csl S1 tmC hp0)(a:n.c.length<=999):∃hp' e,A4 PR ov mvF [.pointer (some ⟨il,ol,none⟩),.agg vs.toArray] hp0 (.int .i64 e) hp'/\l9 hp0 hp'/\MvR hp0 il ol Nl csl S1 (H2 n s) e hp':=by
 obtain⟨h,d,o,e,h4,r⟩:=Hb hc hd hi b hk hy C a;obtain⟨tm',hp',hp2,q,m,i,j,g⟩:=lN (Q:=fun _ hp'=>MvR hp0 il ol Nl csl S1 (H2 n s) e hp') mv_fn rfl rfl (by kernel_rfl) l rfl ⟨h,d,o,h4,r⟩;refine⟨hp2,e,m,g,?_⟩;cases hm:H2 n s with
 |ok n'=>rw[hm]at q;exact⟨q.1,q.2.leave i j g⟩|error k=>rw[hm]at q;exact⟨q.1,q.2.leave i j g⟩
end
end Go.D
