/- carry, in the executor: what is done at the node (DiffsApply).
  Conditions: none. -/
import Derived.Test.YtcjhhnoaoldcmaaGreatSO
set_option linter.all false
set_option maxRecDepth 10000
noncomputable section
namespace Go.D
open Go Go.Xe Go.Sx Go.RowKit
open Go.C36 (row)
structure oF (ov:Aa):Prop where
 at_:Go.Xe.isT (ov aF)=false
 mv:Go.Xe.isT (ov mvF)=false
 ck:Go.Xe.isT (ov ckF)=false
 dk:Go.Xe.isT (ov dkF)=false
 ik:Go.Xe.isT (ov ikF)=false
 da:Go.Xe.isT (ov 64)=false
 ia:Go.Xe.isT (ov 66)=false
 on:ov (ρn.f 27)=some (ρn.t 22)
 oa:ov (ρa.f 27)=some (ρa.t 22)
 chk:g8 PR U0 ov cChk 34
 ced:g8 PR U0 ov cCed 65
 frm:g8 PR U0 ov cFrm 61
 cpy:∀t,z7 t->qB ov yF [] t
section
variable {ov :Aa}{hp0 hp hp':Hp}{tm:Ao}{F:FB}{s:Stp}{vs:Af}{n:a8}{b3 il ol Nl:Nat}{csl:Ao}{S1:Ah}
def MvR.new {r:Except Int a8}{e:Int}(h:New hp0 hp)(k:MvR hp il ol Nl csl S1 r e hp'):MvR hp0 il ol Nl csl S1 r e hp':=by
 cases r with
 |ok n'=>exact⟨k.1,k.2.new h⟩|error m=>exact⟨k.1,h.trans k.2⟩
def New.refl (hp:Hp):New hp hp:=⟨Nat.le_refl _,fun _ _=>rfl⟩
def Ma:type_of% @New.refl:=@New.refl
open Classical in
theorem ET (cb:oF ov)(C:Cx F s vs n b3 il ol Nl csl S1 tm hp):YR ov 141 yR tm hp fun tm' hp'=>∃e,tm'.get 4=some (.int .i64 e)/\MvR hp il ol Nl csl S1 (if z7 s.t then .ok s.t else .error 14:Except Int a8) e hp':=by
 have l:=C.hs;have h12:=l.1;have r:=l.2.2.2.2.2.2.2.win fun q hq=>List.getElem?_drop ..;have c:(vs.drop 6).length=6:=by grind
 obtain⟨hp1,e,o,a,p,A⟩:=dL cb.chk C.fh c r;by_cases he:e=0
 ·have d:=p.1 he;refine .seq (.seq (Y_R8 C o a.keeps fun tm1 u h7=>.seq (Y_R9 h7 fun i v g=>.condF (j9 (by grind)) (.skip ?_))));have C1:=C.new a (by rw[v 3 (by omega),u 3 (by omega)]) (by grind);obtain⟨hp2,us,y,D,y2,w,x,E,G⟩:=cb.cpy s.t d hp1 (vs.drop 6) F c r C1.fh;have b:=C1.ilt;have z:=a.nx;have gs:∀j,j≠il->(hp2.m.set il (some (.cells (fill csl ol us) Nl tN 6))).get j=hp2.m.get j:=fun j hj=>by rw[Mw,if_neg hj]
  refine .seq (Y_R11 C1 D y2.keeps ((y2.old il b).trans C1.hw) w (x.one w) fun k=>Y_R12 fun B h4=>⟨0,h4,?_⟩);rw[if_pos d];refine⟨rfl,⟨⟨fill csl ol us,y,by rw[Mw,if_pos rfl],fun q hq=>by rw[f6,if_neg (by omega)],?_,fun h=>by grind,E,fun q hq=>.inr (by grind),fun q hq=>(G q hq).2⟩,by have:=y2.nx;show hp.nx<=hp2.nx;omega,fun j hj h1 h2=>?_⟩⟩
  ·refine(x.frame fun j hj=>gs j (by grind)).win fun q hq=>?_;unfold at6;rw[f6,if_pos (by omega)];grind
  ·show(hp2.m.set il _).get j=_;rw[gs j h1,y2.old j (by omega),a.old j hj]
 ·have d:¬z7 s.t:=fun h=>he (p.2 h);have f:=A.resolve_left he;refine .seqX (.seq (Y_R8 C o a.keeps fun tm1 u h7=>.seq (Y_R9 h7 fun i v g=>.condT (j9 (by grind)) (Y_R10 (by grind) fun k h4=>⟨e,h4,?_⟩))));rw[if_neg d];exact⟨f,a⟩
theorem Gs (cb:oF ov)(C:Cx F s vs n b3 il ol Nl csl S1 tm hp)(m:n.c.length<=999)(b:tm.get 50=some (.int .u8 s.w)){r:Except Int a8}(hr:r=if s.w=3 then(if A9 s.v=true then .ok (xr n s.v)else .error 14)else if s.w=1 then(if z8 n.a s.n then .ok (Y4 n (E8 n.a (q8 n.a s.n)))else .error 11)else if s.w=2 then(if¬(j8 s.n=true/\A9 s.v=true)\/(z8 n.a s.n=false/\8<=n.a.length)then .error 14 else .ok (Y4 n (fy n.a s)))else H2 n s):(∃n',r= .ok n'/\YN PR ov 141 R5 tm hp fun _ hp'=>W7 hp il ol Nl csl S1 n' hp')\/YR ov 141 R5 tm hp fun tm' hp'=>∃e,tm'.get 4=some (.int .i64 e)/\MvR hp il ol Nl csl S1 r e hp':=by
 have same:∀ {tm':Ao},(∀x,x<54->tm'.get x=tm.get x)->Cx F s vs n b3 il ol Nl csl S1 tm' hp:=fun h=>C.new (Ma hp) (h 3 (by omega)) (h 6 (by omega));by_cases A:s.w=3
 ·rw[if_pos A]at hr;cases g:A9 s.v with
  |true=>rw[if_pos g]at hr;exact .inl ⟨_,hr,.seq (lW b fun tm1 d f=>.condT (j9 (by grind)) ((CZ cb.chk (same d)).1 g))⟩|false=>rw[if_neg (by grind)]at hr;refine .inr (.seq (lW b fun tm1 d f=>.condT (j9 (by grind)) ?_));obtain⟨tm',hp',q,h4,nw⟩:=(CZ cb.chk (same d)).2 g;exact⟨tm',hp',q,14,h4,by rw[hr];exact⟨rfl,nw⟩⟩
 rw[if_neg A]at hr;by_cases y:s.w=1
 ·rw[if_pos y]at hr;cases g:z8 n.a s.n with
  |true=>rw[if_pos g]at hr;exact .inl ⟨_,hr,.seq (lW b fun tm1 d f=>.condF (j9 (by grind)) (.seq (sS (by rw[d 50 (by omega)];exact b) fun k i j=>.condT (j9 (by grind)) ((CX cb.at_ cb.da (same fun x hx=>(i x hx).trans (d x hx))).1 g))))⟩|false=>rw[if_neg (by grind)]at hr;refine .inr (.seq (lW b fun tm1 d f=>.condF (j9 (by grind)) (.seq (sS (by rw[d 50 (by omega)];exact b) fun k i j=>.condT (j9 (by grind)) ?_))));obtain⟨tm',hp',q,h4,nw⟩:=(CX cb.at_ cb.da (same fun x hx=>(i x hx).trans (d x hx))).2 g;exact⟨tm',hp',q,11,h4,by rw[hr];exact⟨rfl,nw⟩⟩
 rw[if_neg y]at hr;by_cases z:s.w=2
 ·rw[if_pos z]at hr;by_cases g:¬(j8 s.n=true/\A9 s.v=true)\/(z8 n.a s.n=false/\8<=n.a.length)
  ·rw[if_pos g]at hr;refine .inr (.seq (lW b fun tm1 d f=>.condF (j9 (by grind)) (.seq (sS (by rw[d 50 (by omega)];exact b) fun k i j=>.condF (j9 (by grind)) (.seq (CA (by rw[i 50 (by omega),d 50 (by omega)];exact b) fun o p l=>.condT (j9 (by grind)) ?_))))));obtain⟨tm',hp',q,h4,nw⟩:=(Im cb.at_ cb.ia cb.oa cb.ced (same fun x hx=>(p x hx).trans ((i x hx).trans (d x hx)))).2 g;exact⟨tm',hp',q,14,h4,by rw[hr];exact⟨rfl,nw⟩⟩
  ·rw[if_neg g]at hr;exact .inl ⟨_,hr,.seq (lW b fun tm1 d f=>.condF (j9 (by grind)) (.seq (sS (by rw[d 50 (by omega)];exact b) fun k i j=>.condF (j9 (by grind)) (.seq (CA (by rw[i 50 (by omega),d 50 (by omega)];exact b) fun o p l=>.condT (j9 (by grind)) ((Im cb.at_ cb.ia cb.oa cb.ced (same fun x hx=>(p x hx).trans ((i x hx).trans (d x hx)))).1 g))))))⟩
 rw[if_neg z]at hr;refine .inr (.seq (lW b fun tm1 d f=>.condF (j9 (by grind)) (.seq (sS (by rw[d 50 (by omega)];exact b) fun k i j=>.condF (j9 (by grind)) (.seq (CA (by rw[i 50 (by omega),d 50 (by omega)];exact b) fun o p l=>.condF (j9 (by grind)) ?_))))));have u:=same fun x hx=>(p x hx).trans ((i x hx).trans (d x hx));obtain⟨hp',e,B,D,E⟩:=GZ cb.mv cb.ck cb.dk cb.ik cb.on cb.chk (cb.cpy s.t) u m;exact Y_R16 u B D fun G h4=>⟨e,h4,by rw[hr];exact E⟩
theorem Bq (cb:oF ov)(C:Cx F s vs n b3 il ol Nl csl S1 tm hp)(p:n.c.length<=999):YR ov 141 yB tm hp fun tm' hp'=>∃e,tm'.get 4=some (.int .i64 e)/\MvR hp il ol Nl csl S1 (H3 n s) e hp':=by
 classical
 have same:∀ {tm':Ao},(∀x,x<21->tm'.get x=tm.get x)->Cx F s vs n b3 il ol Nl csl S1 tm' hp:=fun h=>C.new (Ma hp) (h 3 (by omega)) (h 6 (by omega));rw[yB_c];by_cases G:s.w=7
 ·have J:H3 n s=if z7 s.t then .ok s.t else .error 14:=by unfold H3;rw[if_pos G]
  rw[J];refine .seqX (YR.block (.seq (Y_R5 C.t6 fun tm1 f d=>.condF (j9 d) (.seq (Y_R7 (same f) fun r l o=>.condT (j9 (by grind)) (ET cb (same fun x hx=>(l x (by omega)).trans (f x hx))))))))
 ·by_cases hk:s.w=3↔n.k=2
  ·have L:=propext hk;have hb:(!(decide (s.w=3)==decide (n.k=2)))=false:=by grind
   refine .seq (.block (.seq (Y_R5 C.t6 fun tm1 f d=>.condF (j9 d) (.seq (Y_R7 (same f) fun r l o=>.condF (j9 (by grind)) (.seq (Ig (same fun x hx=>(l x (by omega)).trans (f x hx)) fun u H A=>.condF (j9 (by grind)) (.skip ?_))))))));have B:New hp ⟨hp.m,hp.nx+10⟩:=⟨Nat.le_add_right _ _,fun _ _=>rfl⟩
   have C3:=C.new B (by rw[H 3 (by omega),l 3 (by omega),f 3 (by omega)]) (by grind);have z:H3 n s=if s.w=3 then(if A9 s.v=true then .ok (xr n s.v)else .error 14)else if s.w=1 then(if z8 n.a s.n then .ok (Y4 n (E8 n.a (q8 n.a s.n)))else .error 11)
    else if s.w=2 then(if¬(j8 s.n=true/\A9 s.v=true)\/(z8 n.a s.n=false/\8<=n.a.length)then .error 14 else .ok (Y4 n (fy n.a s)))else H2 n s:=by
    unfold H3;grind
   obtain⟨b,q,E,rfl,y,g⟩:=Y_R15 C3 (Q:=fun b q=>q=⟨hp.m,hp.nx+10⟩/\(∀x,x<49->b.get x=u.get x)/\b.get 50=some (.int .u8 s.w)) fun b y g=>⟨rfl,y,g⟩
   have I:=C3.new (Ma _) (y 3 (by omega)) (y 6 (by omega));rcases Gs cb I p g z with⟨n',e,j,i,D,h5⟩| ⟨j,i,D,e,h4,h5⟩
   ·refine .seq (.seq ⟨b,_,E,j,i,D.block,Y_R33 fun K h4=>⟨0,h4,?_⟩⟩);rw[e];exact⟨rfl,h5.new B⟩
   ·exact .seqX (.seq ⟨b,_,E,YR.block ⟨j,i,D,e,h4,h5.new B⟩⟩)
  ·have z:H3 n s= .error 1:=by unfold H3;rw[if_neg G,if_pos hk]
   have hb:(!(decide (s.w=3)==decide (n.k=2)))=true:=by grind
   rw[z];exact .seqX (YR.block (.seq (Y_R5 C.t6 fun tm1 f d=>.condF (j9 d) (.seq (Y_R7 (same f) fun r l o=>.condF (j9 (by grind)) (.seq (Ig (same fun x hx=>(l x (by omega)).trans (f x hx)) fun u H A=>.condT (j9 (by grind)) (Y_R14 fun b h4=>⟨1,h4,rfl,Nat.le_add_right _ _,fun _ _=>rfl⟩))))))))
end
end Go.D
noncomputable section
namespace Go.D
open Go Go.Xe Go.Sx Go.RowKit
open Go.C36 (row)
section
variable {ov :Aa}{hp0 hp hp1 hp2 hp':Hp}{F:FB}{s:Stp}{vs:Af}{t:a8}{il ol Nl:Nat}{csl:Ao}{S1:Ah}
def MvR.leave {r:Except Int a8}{e:Int}(k:MvR hp0 il ol Nl csl S1 r e hp1)(hn:hp2.nx=hp1.nx)(same:∀i,hp1.m.get i≠some .dfr->hp2.m.get i=hp1.m.get i)(kp:l9 hp0 hp2):MvR hp0 il ol Nl csl S1 r e hp2:=by
 cases r with
 |ok n'=>exact⟨k.1,k.2.leave hn same kp⟩|error m=>exact⟨k.1,k.2.leave hn same kp⟩
theorem Da (cb:oF ov)(hg:Go.Xe.isT (ov yyF)=false)(K:Go.Xe.isT (ov fF)=false){iw ow N:Nat}{cs:Ao}{S:Ah}(hs:wl F s vs)(hF:FH F hp)(hl:s.p.length<=1000)(hn:∀m,gC t s.p=some m->m.c.length<=999)(hT:TB hp.m.get S t (at6 cs ow))(L:S.Nodup)(hi:iw∉S)(hH:hp.m.get iw=some (.cells cs N tN 6))(hN:ow+6<=N)(l:iw<hp.nx)(n:∀q∈S,q<hp.nx)(aa:∀q b,F q=some b->q≠iw/\q∉S):∃hp' e,A4 PR ov yyF [.pointer (some ⟨iw,ow,none⟩),.agg vs.toArray] hp (.int .i64 e) hp'/\l9 hp hp'/\MvR hp iw ow N cs S (D7 t s) e hp':=by
 have h12:=hs.1;have E:YR ov 141 y0 (fill .e 0 [.pointer (some ⟨iw,ow,none⟩),.agg vs.toArray]) hp fun tm' hp'=>∃e,tm'.get 4=some (.int .i64 e)/\MvR hp iw ow N cs S (D7 t s) e hp':=by
  rw[y0_c,yP_c];refine .seq (Y_R0 rfl h12 fun tm1 x1 h3=>?_);have nA:New hp ⟨hp.m.set hp.nx (some (.cells (fill .e 0 vs) 12 tSp 12)),hp.nx+1⟩:=⟨Lk _,fun j hj=>by rw[Mw,Kg (by omega)]⟩
  have i:(hp.m.set hp.nx (some (Blk.cells (fill .e 0 vs) 12 tSp 12))).get hp.nx=some (.cells (fill .e 0 vs) 12 tSp 12):=by rw[Mw,Ki rfl]
  obtain⟨d,B,f⟩:=GL cb.frm (D8 hF nA) hs;have w:=nA.trans f;have ab:hp.nx+1<=d.nx:=f.nx;have o:d.m.get hp.nx=some (.cells (fill .e 0 vs) 12 tSp 12):=(f.old hp.nx (KW _)).trans i;by_cases hf:R9 s=0
  ·obtain⟨vp,O,P⟩:=hs.2.2.1;have D:D7 t s=dJ s t s.p:=by unfold D7;rw[Ki hf]
   rw[D,lE];have J:=hT.frame fun j hj=>w.old j (n j hj);have I:d.m.get iw=some (.cells cs N tN 6):=(w.old iw l).trans hH;obtain⟨u,r,f1,f2,f3,f4,f5⟩:=GI K (D8 hF w) P hl J L hi I hN;have g:New d u:=(Ma d).leave f2 f4 f3;have A:=w.trans g;refine .seq (.seq (Y_R1 h3 i h12 B f.keeps fun U X h5=>.seq (Y_R2 h5 fun V Y G=>.condF (j9 (by grind)) (.skip ?_))));refine .seq (Y_R4 (by rw[Y 0 (by omega),X 0 (by omega),x1 0 (by omega),d7];rfl) (by grind) o O f1 f3 fun x x4 h6=>?_);rcases f5 with⟨y,rfl⟩| ⟨m,q,il,ol,Nl,csl,S1,y,e2,e3,rfl,g1,g2,g3,g4,g5,z,g7,up⟩
   ·rw[y,yB_c];refine .seqX (YR.block ?_);exact .seq (Y_R5 h6 fun ac x5 H=>.condT (j9 H) (Y_R6 fun ad h4=>⟨11,h4,rfl,A⟩))
   ·have v:il=iw\/il∈S:=g7;have ilt:il<hp.nx:=v.elim (fun e=>by rw[e];exact l) (n il);have fz:∀q b,F q=some b->q≠il/\q∉S1:=fun q b e=>(by grind)
    have C:Cx F s vs m hp.nx il ol Nl csl S1 x u:=by exact⟨by rw[x4 3 (by omega),Y 3 (by omega),X 3 (by omega)];exact h3,h6,(g.old _ (by omega)).trans o,hs,D8 hF A,(g.old _ (by omega)).trans g1,g2,by omega,by omega,by omega,fun h=>by have:=n _ (z _ h);omega,g3.frame fun j hj=>g.old j (by grind),g4,g5,fun j hj=>by have:=n _ (z _ hj);omega,fz⟩
    obtain⟨tm',hp',Z,e,h4,hr⟩:=Bq cb C (hn m y);refine⟨tm',hp',Z,e,h4,?_⟩;rw[y];show MvR hp iw ow N cs S (match H3 m s with| .ok R=>.ok (oK t s.p R)| .error e=>.error e) e hp';cases a:H3 m s with
    |error k=>rw[a]at hr;exact⟨hr.1,A.trans hr.2⟩|ok R=>
     rw[a]at hr;obtain⟨k0,⟨csl',S2,k1,k2,k3,k4,k5,k6,k7⟩,k8,k9⟩:=hr;obtain⟨S',cs',u1,u2,u3,u4,u5,u6⟩:=up hp'.m.get S2 R csl' k1 k2 (fun q hq h1 h2=>by have:q<hp.nx:=hq.elim (fun e=>by rw[e];exact l) (n q);rw[k9 q (by omega) h1 h2,g.old q (by omega)]) (by grind) k4 k5 k3;have mem:∀q∈S',q∈S\/hp.nx<=q:=fun q hq=>(u6 q hq).elim (fun h=>.inl h.1) fun h=>(k6 q h).elim (fun h=>.inl (z q h)) fun h=>.inr (by omega);refine⟨k0,⟨cs',S',u1,u2,by rw[e2,uC];exact u3,u5,u4,mem,fun q hq=>?_⟩,by omega,fun j hj h1 h2=>?_⟩
     ·rcases u6 q hq with h|h
      ·have:=n q h.1;omega
      ·exact k7 q h
     ·have h3:j≠il:=fun e=>v.elim (fun e'=>h1 (e.trans e')) fun e'=>h2 (by grind);rw[k9 j (by omega) h3 (fun h=>h2 (z j h)),A.old j hj]
  ·have D:D7 t s= .error (R9 s):=by unfold D7;rw[Kg hf]
   rw[D];exact .seqX (.seq (Y_R1 h3 i h12 B f.keeps fun U X h5=>.seq (Y_R2 h5 fun V Y G=>.condT (j9 (by grind)) (Y_R3 (by grind) fun x h4=>⟨_,h4,rfl,w⟩))))
 obtain⟨W,M,Z,e,h4,r⟩:=E;obtain⟨tm',hp',hp2,q,B,r2,r3,r4⟩:=lN (Q:=fun _ hp'=>MvR hp iw ow N cs S (D7 t s) e hp') yy_fn rfl rfl (by kernel_rfl) hg rfl ⟨W,M,Z,h4,r⟩;exact⟨hp2,e,B,r4,q.leave r2 r3 r4⟩
end
end Go.D
