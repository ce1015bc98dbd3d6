/- Keep, whole: what a call of it does.
  Conditions: none. -/
import Derived.Test.YtcjhhnoaoldcmaaMK
set_option linter.unusedVariables false
set_option linter.unusedSimpArgs false
set_option maxRecDepth 10000
noncomputable section
namespace Go.D
open Go Go.Xe Go.Sx
open Go.C36 (row)
def KeepR (s s' r:Tree):Prop:=(fit s s'/\Valid (keepT s' s)/\r=keepT s' s)\/(¬(fit s s'/\Valid (keepT s' s))/\r=s')
theorem rn_load {F:FB}{t:Tree}{cs:T Value}{o:Nat}(h:RN F t (at6 cs o)):∃a:List Value,f9 cs o 6=some a/\a.length=6/\RN F t (fun q=>a[q]?):=by
 obtain⟨⟨h0,h1,h2,⟨e,h3,b⟩,h4⟩,vc,h5,d⟩:=h
 let a:List Value:=[.int .u8 t.k,.string ⟨t.t.toArray⟩,.string ⟨t.y.toArray⟩,e,.string ⟨t.x.toArray⟩,vc]
 refine⟨a,?_,rfl,⟨rfl,rfl,rfl,⟨e,rfl,b⟩,rfl⟩,vc,rfl,d⟩
 have:=C0 (c:=cs) (vs:=a) (o:=o) (fun q hq=>by
  have hq:q<6:=hq
  match q,hq with
  |0,_=>exact h0
  |1,_=>exact h1
  |2,_=>exact h2
  |3,_=>exact h3
  |4,_=>exact h4
  |5,_=>exact h5)
 exact this
variable {ov :FuncId->Option TypeId}
theorem Calm.trans {F F1 a:FB}{hp hp1 hp2:Hp}(h:Calm F F1 hp hp1)(k:Calm F1 a hp1 hp2):Calm F a hp hp2:=
 ⟨h.kp.trans k.kp,fun i b e=>k.fle _ _ (h.fle _ _ e),k.fh,fun i b e=>by
  rcases k.fz i b e with e|e
  ·exact h.fz i b e
  ·exact .inr (bF8 h.kp.nx e),fun j hj=>(k.same j (bF3 hj h.kp.nx)).trans (h.same j hj)⟩
section
variable {s s':Tree}{hp0:Hp}{vs us:List Value}{F0:FB}
theorem keepF_code (hd : d6 PR U0 ov cDck 24) (hc : d6 PR U0 ov cChk 34) (hy : d6 PR U0 ov cCpy 26) (hf : d6 PR U0 ov cFt 12) (hV : Valid s) (  W : Valid s') (hC : CyAt ov s') (hK : KeepAt ov s' s)
  (O:vs.length=6) (e:us.length=6) (hR:RN F0 s (fun q=>vs[q]?)) (F:RN F0 s' (fun q=>us[q]?)) (hF:FH F0 hp0) {tm0:T Value} (a0:tm0.get 0=some (.agg vs.toArray)) (a1:tm0.get 1=some (.agg us.toArray)):
  YR ov 29 (f5 PR qF) tm0 hp0 fun tm' hp'=>∃(Q:List Value) (F':FB) (r:Tree) (d:T Value),tm'.get 4=some (.pointer (some ⟨hp0.nx+2,0,none⟩))/\tm'.get 5=some (.int .i64 0)/\hp'.m.get (hp0.nx+2)=some (.cells d 6 tN 6)/\f9 d 0 6=some Q/\(∀j,j<hp0.nx->hp'.m.get j=hp0.m.get j)/\Fle F0 F'/\FH F' hp'/\
   (∀q b,F' q=some b->F0 q=some b\/hp0.nx<=q)/\Q.length=6/\KeepR s s' r/\RN F' r (fun q=>Q[q]?):=by
 rw[q_c0]
 refine .seq (q_R0 a0 a1 O e fun tm1 hp1 au g1 gb gr g4 t2 t3 t4=>?_)
 have ai:FH F0 hp1:=fun q b h=>⟨by rw[g1 q (hF q b h).2];exact(hF q b h).1,by have:=(hF q b h).2;omega⟩
 obtain⟨F2,hp2,x2,J⟩:=dck_use hd hV W ai O hR e F
 have av:=J.kp.nx
 refine .seq (q_R1 t2 gb (loadN_0 O) t3 gr (loadN_0 e) x2 J.kp fun bb e2=>?_)
 obtain⟨hp3,w0,F3,S,r1,r2,r3,r4,r5,r6,r7,r8,r9,g⟩:=hC hp2 us F2 e (F.mono J.fle) J.fh
 have aw:=r2.nx
 refine .seq (q_R4 (by rw[e2 3 (by omega)];exact t3) (by rw[J.same _ (by omega)];exact gr) (loadN_0 e) r1 r2 r7 (r8.one r7) fun C e3 t7=>?_)
 generalize hh:(⟨(hp3.m.set hp3.nx (some (.cells zB 6 tN 6))).set hp3.nx (some (.cells (fill zB 0 w0) 6 tN 6)),hp3.nx+1⟩:Hp)=i
 have ax:i.nx=hp3.nx+1:=by rw[<-hh]
 have k4:∀j,j≠hp3.nx->i.m.get j=hp3.m.get j:=fun j hj=>by rw[<-hh];show((hp3.m.set hp3.nx _).set hp3.nx _).get j=_;rw[T.get_set,bC1 hj,T.get_set,bC1 hj]
 have k7:i.m.get hp3.nx=some (.cells (fill zB 0 w0) 6 tN 6):=by rw[<-hh];show((hp3.m.set hp3.nx _).set hp3.nx _).get hp3.nx=_;rw[T.get_set,bC3 rfl]
 have aj:FH F3 i:=fun q b h=>⟨by rw[k4 q (by have:=(r5 q b h).2;omega)];exact(r5 q b h).1,by have:=(r5 q b h).2;omega⟩
 have l3:Fle F0 F3:=fun q b h=>r4 _ _ (J.fle _ _ h)
 have z3:∀q b,F3 q=some b->q∉S/\(F0 q=some b\/hp1.nx<=q):=fun q b h=>⟨(r6 q b h).1,by
  rcases(r6 q b h).2 with h|h
  ·exact J.fz q b h
  ·exact .inr (by omega)⟩
 have z:∀j,j<hp1.nx->i.m.get j=hp1.m.get j:=fun j hj=>by rw[k4 j (by omega),r3 j (by omega),J.same j hj]
 obtain⟨R,a,b,x5,p,hb⟩:=ft_use hf aj O (hR.mono l3) e (F.mono l3)
 have ay:=p.kp.nx
 have A:∀j,j<hp1.nx->a.m.get j=hp1.m.get j:=fun j hj=>(p.same j (by omega)).trans (z j hj)
 have w5:a.m.get hp3.nx=some (.cells (fill zB 0 w0) 6 tN 6):=(p.same _ (by omega)).trans k7
 have S5:∀j∈S,a.m.get j=hp3.m.get j:=fun j hj=>by have:=(g j hj).2;rw[p.same j (by omega),k4 j (by omega)]
 have ac:TA R a.m.get S s' (at6 (fill zB 0 w0) 0):=((r8.mono p.fle).frame S5).win fun q hq=>by
  show(fill zB 0 w0).get (0+q)=_
  rw[j3,bC3 ⟨by omega,by omega⟩]
  congr 1
  omega
 have z5:∀q b,R q=some b->q∉S/\q≠hp3.nx/\(F0 q=some b\/hp1.nx<=q):=fun q b h=>by
  rcases p.fz q b h with h|h
  ·obtain⟨h1,h2⟩:=z3 q b h
   exact⟨h1,by have:=(r5 q b h).2;omega,h2⟩
  ·exact⟨fun hq=>by have:=(g q hq).2;omega,by omega,.inr (by omega)⟩
 have aa:C.get 2=some (.pointer (some ⟨hp0.nx,0,none⟩)):=by rw[e3 2 (by omega),e2 2 (by omega)];exact t2
 have ab:C.get 3=some (.pointer (some ⟨hp0.nx+1,0,none⟩)):=by rw[e3 3 (by omega),e2 3 (by omega)];exact t3
 have aq:C.get 4=some (.pointer (some ⟨hp0.nx+2,0,none⟩)):=by rw[e3 4 (by omega),e2 4 (by omega)];exact t4
 have ao:YN PR ov 29 (.seq (cdA (cdA qc3)) (.cond (.tmp 19) (cdA (cdB (cdA qc3))) .skip)) C i fun I u=>∃(n:Tree) (K:FB) (v:T Value),(n=if b=true then keepT s' s else s')/\(∀x,x<8->I.get x=C.get x)/\m9 i u/\u.m.get hp3.nx=some (.cells v 6 tN 6)/\RN K n (at6 v 0)/\FH K u/\Fle R K/\(∀q b,K q=some b->F0 q=some b\/hp1.nx<=q)/\ ∀j,j<hp1.nx->u.m.get j=hp1.m.get j:=by
  refine .seq (q_R5 aa ((z _ (by omega)).trans gb) (loadN_0 O) ab ((z _ (by omega)).trans gr) (loadN_0 e) x5 p.kp fun bc e5 t19=>?_)
  cases b with
  |true=>
   obtain⟨u,v,K,y1,y2,y3,y4,y5,y6,y7,y8,y9⟩:=hK a vs R hp3.nx 0 6 (fill zB 0 w0) S O ((hR.mono l3).mono p.fle) p.fh (fun q b h=>⟨(z5 q b h).1,(z5 q b h).2.1⟩) w5 (bC4 _) (by omega) ac r9 (fun h=>by have:=(g _ h).2;omega) (fun j hj=>by have:=(g j hj).2;omega)
   refine .condT (ev_t t19) (q_R6 (by rw[e5 2 (by omega)];exact aa) ((A _ (by omega)).trans gb) (loadN_0 O) (by rw[e5 7 (by omega)];exact t7) y1 y2 fun I M=>⟨keepT s' s,K,v,by rw[bC3 rfl],fun x hx=>(M x hx).trans (e5 x hx),p.kp.trans y2,y4,y9,y7,y6,fun q b h=>?_,fun j hj=>?_⟩)
   ·rcases(y8 q b h).2 with h|h|h
    ·exact(z5 q b h).2.2
    ·exact .inr (by have:=(g q h).1;omega)
    ·exact .inr (by omega)
   ·rw[y3 j (by omega) (by omega) (fun h=>by have:=(g j h).1;omega)]
    exact A j hj
  |false=>
   let G:FB:=fun q=>if q∈S then a.m.get q else none
   have P:∀q b,G q=some b->q∈S/\a.m.get q=some b:=fun q b h=>by
    have h:(if q∈S then a.m.get q else none)=some b:=h
    by_cases hq:q∈S
    ·rw[bC3 hq]at h;exact⟨hq,h⟩
    ·rw[bC1 hq]at h;cases h
   have hG:FH G a:=fun q b h=>⟨(P q b h).2,by have:=(g q (P q b h).1).2;omega⟩
   refine .condF (ev_t t19) (.skip ⟨s',orF R G,fill zB 0 w0,by rw[bC1 (by simp)],fun x hx=>e5 x hx,p.kp,w5,ac.read (orF_l _ _) fun j hj=>?_,orF_h p.fh hG,orF_l _ _,fun q b h=>?_,A⟩)
   ·unfold orF
    cases hf:R j with
    |some b=>exact absurd hj (z5 j b hf).1
    |none=>show(if j∈S then a.m.get j else none)=_;rw[bC3 hj]
   ·rcases orF_or h with h|h
    ·exact(z5 q b h).2.2
    ·exact .inr (by have:=(g q (P q b h).1).1;omega)
 refine .seq (ao.mono fun I u al ⟨n,K,v,hn,M,_,w6,ap,ae,ah,z6,Y⟩=>?_)
 obtain⟨w7,l7,ad,Z⟩:=rn_load ap
 obtain⟨F7,X,m,x7,D,hm⟩:=chk_use hc ae ad Z
 have az:=al.nx
 have ba:=D.kp.nx
 have V:Fle F0 F7:=fun q b h=>D.fle _ _ (ah _ _ (p.fle _ _ (l3 _ _ h)))
 have z7:∀q b,F7 q=some b->F0 q=some b\/hp1.nx<=q:=fun q b h=>by
  rcases D.fz q b h with h|h
  ·exact z6 q b h
  ·exact .inr (by omega)
 have o:∀j,j<hp1.nx->X.m.get j=hp1.m.get j:=fun j hj=>(D.same j (by omega)).trans (Y j hj)
 have   U : ∀ { L : FB} {  f : Hp} { E : List Value} {r : Tree} {  l : T Value}, Calm F7  L   X   f →  E.length = 6 → RN  L r (fun q =>  E[q]?) → KeepR s s' r →   l.get 4 = some (.pointer (some ⟨hp0.nx + 2, 0, none⟩)) →   l.get 5 = some (.int .i64 0) → (∃ ( Q : List Value) (F' : FB) (r : Tree) (d : T Value),   l.get 4 = some (.pointer (some ⟨hp0.nx + 2, 0, none⟩)) ∧   l.get 5 = some (.int .i64 0) ∧ (  f.m.set (hp0.nx + 2) (some (.cells (fill zB 0  E) 6 tN 6))).get (hp0.nx + 2) = some (.cells d 6 tN 6) ∧ f9 d 0 6 = some  Q ∧ (∀ j, j < hp0.nx → (  f.m.set (hp0.nx + 2) (some (.cells (fill zB 0  E) 6 tN 6))).get j = hp0.m.get j) ∧ Fle F0 F' ∧ FH F' ⟨  f.m.set (hp0.nx + 2) (some (.cells (fill zB 0  E) 6 tN 6)),   f.nx⟩ ∧
   (∀q b,F' q=some b->F0 q=some b\/hp0.nx<=q)/\Q.length=6/\KeepR s s' r/\RN F' r (fun q=>Q[q]?)):=by
  intro L f E r l t c k ak h4 h5
  have z8:∀q b,L q=some b->F0 q=some b\/hp1.nx<=q:=fun q b h=>by
   rcases t.fz q b h with h|h
   ·exact z7 q b h
   ·exact .inr (by omega)
  refine⟨E,L,r,fill zB 0 E,h4,h5,by rw[T.get_set,bC3 rfl],loadN_fill c,fun j hj=>?_,fun q b h=>t.fle _ _ (V _ _ h),fun q b h=>⟨?_,(t.fh q b h).2⟩,fun q b h=>?_,c,ak,k⟩
  ·rw[T.get_set,bC1 (by omega),t.same j (by omega),o j (by omega),g1 j hj]
  ·show(f.m.set (hp0.nx+2) _).get q=_
   rw[T.get_set,bC1 ?_]
   ·exact(t.fh q b h).1
   ·rcases z8 q b h with h|h
    ·have:=(hF q b h).2;omega
    ·omega
  ·rcases z8 q b h with h|h
   ·exact .inl h
   ·exact .inr (by omega)
 have u4:I.get 4=some (.pointer (some ⟨hp0.nx+2,0,none⟩)):=by rw[M 4 (by omega)];exact aq
 by_cases H:m=0
 ·
  refine .seq ?_
  refine .seq (q_R7 (by rw[M 7 (by omega)];exact t7) w6 l7 x7 D.kp fun ar N B=>?_)
  have w:Valid n:=hm.1 H
  rw[H]at B
  refine .condF (ev_t B) (.skip ?_)
  obtain⟨L,f,E,x8,t,c,k⟩:=cpy_use hy w D.fh ad (Z.mono D.fle)
  refine .seq (q_R9 (ir:=hp3.nx) (i4:=hp0.nx+2) (by rw[N 7 (by omega),M 7 (by omega)];exact t7) ((D.same _ (by omega)).trans w6) l7 x8 t.kp c (k.one c) (by rw[N 4 (by omega)];exact u4) ((t.same _ (by omega)).trans ((o _ (by omega)).trans g4)) fun l h4 h5=>.ret ?_)
  refine U t c k ?_ (by rw[h4,N 4 (by omega)];exact u4) h5
  rw[hn]
  by_cases y:b=true
  ·rw[bC3 y]
   rw[hn,bC3 y]at w
   exact .inl ⟨hb.1 y,w,rfl⟩
  ·rw[bC1 y]
   exact .inr ⟨fun h=>y (hb.2 h.1),rfl⟩
 ·
  refine .seqX (.seq (q_R7 (by rw[M 7 (by omega)];exact t7) w6 l7 x7 D.kp fun ar N B=>?_))
  have w:¬Valid n:=fun h=>H (hm.2 h)
  rw[bH5 H]at B
  obtain⟨L,f,E,x8,t,c,k⟩:=cpy_use hy W D.fh e (F.mono V)
  refine .condT (ev_t B) (.seq (q_R8 (ir:=hp0.nx+1) (i4:=hp0.nx+2) (by rw[N 3 (by omega),M 3 (by omega)];exact ab) ((o _ (by omega)).trans gr) (loadN_0 e) x8 t.kp c (k.one c) (by rw[N 4 (by omega)];exact u4) ((t.same _ (by omega)).trans ((o _ (by omega)).trans g4)) fun l h4 h5=>.ret ?_))
  refine U t c k ?_ (by rw[h4,N 4 (by omega)];exact u4) h5
  refine .inr ⟨fun h=>w ?_,rfl⟩
  rw[hn,bC3 (hb.2 h.1)]
  exact h.2
theorem keepF_ok ( z : Go.Xe.isT (ov qF) = false) (hd : d6 PR U0 ov cDck 24) (hc : d6 PR U0 ov cChk 34) (hy : d6 PR U0 ov cCpy 26) (hf : d6 PR U0 ov cFt 12) ( y : Valid s) (  i : Valid s') ( u : CyAt ov s') ( v : KeepAt ov s' s)
  (t:vs.length=6) (d:us.length=6) (w:RN F0 s (fun q=>vs[q]?)) (f:RN F0 s' (fun q=>us[q]?)) (hF:FH F0 hp0):
  ∃(hp':Hp) (a:List Value) (F':FB) (r:Tree),E4 PR ov qF [.agg vs.toArray,.agg us.toArray] hp0 (.tuple #[.agg a.toArray,.int .i64 0]) hp'/\Calm F0 F' hp0 hp'/\a.length=6/\KeepR s s' r/\RN F' r (fun q=>a[q]?):=by
 obtain⟨tm',hp1,x,a,F1,r,p,t4,t5,gr,hl,o,fl,fh,fz,E,k,D⟩:=keepF_code hd hc hy hf y i u v t d w f hF (tm0:=fill .e 0 [.agg vs.toArray,.agg us.toArray]) (by rw[A0];rfl) (by rw[A0];rfl)
 obtain⟨hp2,B,C,n,l⟩:=ad9 (ov:=ov) (args:=[.agg vs.toArray,.agg us.toArray]) (c:=f5 PR qF) q_fn (by kernel_rfl) z (show XK PR ov (2+(Go.Proofs.Try.f14.ntmps-2)) _ _ _ _ _ _ from(show 2+(Go.Proofs.Try.f14.ntmps-2)=29 from by kernel_rfl)▸x) (.inr rfl) (vs:=[.agg a.toArray,.int .i64 0]) (fun h2 same=>by
  have e:Go.Proofs.Try.f14.results.toList=[.cell 4 tN,.tmp 5]:=by kernel_rfl
  rw[e]
  have g:h2.m.get (hp0.nx+2)=some (.cells p 6 tN 6):=by rw[same _ (by rw[gr];exact fun h=>by cases h)];exact gr
  have:=ld_N' (m:=h2.m) (nx:=h2.nx) g rfl (by omega) hl
  simp only[t9,Q6,t4,t5,bE3]
  rw[show A8 PR h2 tN (.pointer (some ⟨hp0.nx+2,0,none⟩))=some (.agg a.toArray)from this])
 obtain⟨H,k1,k2,k3,A⟩:=fh_body hF fh fl l C n
 refine⟨hp2,a,H,r,B,⟨l,k1,k3,fun q b h=>fz q b (k2 q b h),fun j hj=>?_⟩,E,k,D.arrs A⟩
 by_cases e:hp1.m.get j=some .dfr
 ·rw[o j hj]at e
  rw[e]
  exact l.dfr j hj e
 ·rw[n j e];exact o j hj
end
end Go.D
