/- copied, whole: what a call of it does.
  Conditions: none. -/
import Derived.Test.YtcjhhnoaoldcmaaMG
set_option linter.unusedVariables false
set_option linter.unusedSimpArgs false
set_option maxRecDepth 10000
noncomputable section
namespace Go.D
open Go Go.Xe Go.Sx
open Go.C36 (row)
section
variable {ov :FuncId->Option TypeId}{nt:Nat}{c1 c2:Code}{tm:T Value}{hp:Hp}{Q:T Value->Hp->Prop}
variable (ov nt) in
def YR (c:Code)(tm:T Value)(hp:Hp)(Q:T Value->Hp->Prop):Prop:=∃tm1 hp1,XK PR ov nt c tm hp .ret tm1 hp1/\Q tm1 hp1
theorem YR.ret (h:Q tm hp):YR ov nt .ret tm hp Q:=⟨_,_,.ret,h⟩
theorem YR.seq (h:YN PR ov nt c1 tm hp fun t1 h1=>YR ov nt c2 t1 h1 Q):YR ov nt (.seq c1 c2) tm hp Q:=by
 obtain⟨t1,h1,k1,t2,h2,k2,k3⟩:=h
 exact⟨t2,h2,k1.seq k2,k3⟩
theorem YR.seqX (h:YR ov nt c1 tm hp Q):YR ov nt (.seq c1 c2) tm hp Q:=by
 obtain⟨t1,h1,k1,k2⟩:=h
 exact⟨t1,h1,k1.seqX (by simp),k2⟩
variable {o:Operand}
theorem YR.condT (hc:a8 tm o=some (.bool true))(h:YR ov nt c1 tm hp Q):YR ov nt (.cond o c1 c2) tm hp Q:=by obtain⟨t1,h1,k1,k2⟩:=h;exact⟨t1,h1,k1.condT hc,k2⟩
theorem YR.condF (hc:a8 tm o=some (.bool false))(h:YR ov nt c2 tm hp Q):YR ov nt (.cond o c1 c2) tm hp Q:=by obtain⟨t1,h1,k1,k2⟩:=h;exact⟨t1,h1,k1.condF hc,k2⟩
end
variable {ov :FuncId->Option TypeId}
theorem copied_code (hC : ∀ tm, M4 PR U0 cCa (PmT tpCa tm) (PcX PR ov ntCa (pcCa (f5 PR pF)) otCa 6 tm)) {t : Tree} (ha : t.a.length ≤ 1000) (   i : t.c.length ≤ 1000) (ih : ∀ s ∈ t.c, CpAt ov s) {hp : Hp} {vs : List Value} {F0 : FB} (h6 : vs.length = 6) (  P : RN F0 t (fun q => vs[q]?)) (hF : FH F0 hp)
  {tm0:T Value} (h0:tm0.get 0=some (.agg vs.toArray)) (h1:tm0.get 1=some (.bool true)):
  YR ov 38 (f5 PR pF) tm0 hp fun tm' hp'=>∃(n:List Value) (F':FB) (S:List Nat) (d:T Value),tm'.get 4=some (.pointer (some ⟨hp.nx+1,0,none⟩))/\hp'.m.get (hp.nx+1)=some (.cells d 6 tN 6)/\f9 d 0 6=some n/\(∀j,j<hp.nx->hp'.m.get j=hp.m.get j)/\Fle F0 F'/\FH F' hp'/\
   (∀q b,F' q=some b->q∉S/\(F0 q=some b\/hp.nx<=q))/\n.length=6/\TA F' hp'.m.get S t (fun q=>n[q]?)/\S.Nodup/\ ∀j∈S,hp.nx<=j/\j<hp'.nx:=by
 rw[p_c0]
 refine .seq (p_R0 h0 h1 h6 fun tm1 hp1 aa g1 gb gr a1 a2 a4=>?_)
 refine .seq (p_R1 a1 fun X D=>?_)
 have N:FH F0 hp1:=fun q b h=>⟨by rw[g1 q (hF q b h).2];exact(hF q b h).1,by have:=(hF q b h).2;omega⟩
 have O:F0 hp.nx=none:=by
  cases h:F0 hp.nx with
  |none=>rfl
  |some b=>have:=(hF _ _ h).2;omega
 obtain⟨p,hp2,g,F1,xA,gA,hA,rA,u,lA,sA,zA,W⟩:=ca_use (tm:=X) hC gb (by omega) O (P.win fun q hq=>by show(fill .e 0 vs).get (0+q)=_;rw[A0,bD3]) N (by rw[D 2 (by omega)];exact a2) ha
 refine .seq ⟨p,hp2,xA,?_⟩
 have t1:p.get 1=some (.bool true):=by rw[W 1 (by omega),D 1 (by omega)];exact a1
 have t2:p.get 2=some (.pointer (some ⟨hp.nx,0,none⟩)):=by rw[W 2 (by omega),D 2 (by omega)];exact a2
 have t4:p.get 4=some (.pointer (some ⟨hp.nx+1,0,none⟩)):=by rw[W 4 (by omega),D 4 (by omega)];exact a4
 have ab:hp1.nx<=hp2.nx:=xA.kp.nx
 obtain⟨hd,vc,l,r⟩:=rA
 obtain⟨qo,co,rfl⟩:=pv_sl' r
 have U:(rows t.c).length=t.c.length:=by simp[rows]
 rw[U]at l r
 have l:g.get 5=some (.slice qo t.c.length co):=l
 refine .seq (p_R4 t2 gA l i fun ae E t5=>?_)
 generalize hh:(⟨hp2.m.set hp2.nx (some (.cells (fill .e 0 (xrep t.c.length zN.cells.toList)) (t.c.length*6) tN 6)),hp2.nx+1⟩:Hp)=hp3
 have ac:hp3.nx=hp2.nx+1:=by rw[<-hh]
 have B:∀j,j≠hp2.nx->hp3.m.get j=hp2.m.get j:=fun j hj=>by rw[<-hh];show(hp2.m.set hp2.nx _).get j=_;rw[T.get_set,bC1 hj]
 have gi:hp3.m.get hp2.nx=some (.cells (fill .e 0 (xrep t.c.length zN.cells.toList)) (t.c.length*6) tN 6):=by rw[<-hh];show(hp2.m.set hp2.nx _).get hp2.nx=_;rw[T.get_set,bC3 rfl]
 have v:hp3.m.get hp.nx=some (.cells g 6 tN 6):=(B _ (by omega)).trans gA
 refine .seq (.seq (p_R5 (by rw[E 2 (by omega)];exact t2) v l fun A G t21 t22 t23=>?_))
 have H:F1 hp2.nx=none:=by
  cases h:F1 hp2.nx with
  |none=>rfl
  |some b=>have:=(u _ _ h).2;omega
 have I:Ic hp3 t F1 hp.nx (hp.nx+1) hp2.nx (.slice qo t.c.length co) 0 A hp3 (fill .e 0 (xrep t.c.length zN.cells.toList)) F1 []:=
  ⟨by rw[G 1 (by omega),E 1 (by omega)];exact t1,by rw[G 2 (by omega),E 2 (by omega)];exact t2,by rw[G 4 (by omega),E 4 (by omega)];exact t4,by rw[G 5 (by omega)];exact t5,t21,t22,t23,.refl _,fun _ _ _=>rfl,gi,rfl,fun j s S _ h=>by simp at h,List.nodup_nil,fun q h=>by simp at h,
   fun q b h=>⟨by rw[B q (by have:=(u q b h).2;omega)];exact(u q b h).1,by have:=(u q b h).2;omega⟩,Fle.refl _,fun q b h=>⟨by simp,.inl h⟩⟩
 obtain⟨Y,f,K,F4,Ss,xL,I4⟩:=c_loop (fun k tm hp' cs F Ss I hk=>c_step (by omega) H r i ih I hk) t.c.length 0 A hp3 _ F1 [] (bD3 _) I
 refine⟨Y,f,xL.blockX,?_⟩
 have ad:=I4.kp.nx
 have L:f.m.get hp.nx=some (.cells g 6 tN 6):=(I4.old _ (by omega) (by omega)).trans v
 have M:f.m.get (hp.nx+1)=some (.cells zB 6 tN 6):=by rw[I4.old _ (by omega) (by omega),B _ (by omega),sA _ (by omega) (by omega)];exact gr
 refine .seq (p_R10 I4.t2 L I4.t5 fun ah Z=>?_)
 have R:=hd
 obtain⟨c0,c1,c2,⟨va,c3,J⟩,c4⟩:=R
 let n:List Value:=[.int .u8 t.k,.string ⟨t.t.toArray⟩,.string ⟨t.y.toArray⟩,va,.string ⟨t.x.toArray⟩,.slice (some ⟨hp2.nx,0,none⟩) t.c.length t.c.length]
 have z:Hd F1 t (fun q=>n[q]?):=⟨rfl,rfl,rfl,⟨va,rfl,J⟩,rfl⟩
 have V:n.all Value.oneCell'=true:=hd_one rfl z ⟨_,_,_,rfl⟩
 have hl:f9 (fill g 5 [.slice (some ⟨hp2.nx,0,none⟩) t.c.length t.c.length]) 0 6=some n:=by
  have:=C0 (c:=fill g 5 [.slice (some ⟨hp2.nx,0,none⟩) t.c.length t.c.length]) (vs:=n) (o:=0) (fun q hq=>by
   have hq:q<6:=hq
   rw[j3,bD3]
   match q,hq with
   |0,_=>rw[bC1 (by simp)];exact c0
   |1,_=>rw[bC1 (by simp)];exact c1
   |2,_=>rw[bC1 (by simp)];exact c2
   |3,_=>rw[bC1 (by simp)];exact c3
   |4,_=>rw[bC1 (by simp)];exact c4
   |5,_=>rw[bC3 (by simp)];rfl)
  exact this
 refine .seq (p_R11 (ir:=hp.nx+1) (by rw[Z 2 (by omega)];exact I4.t2) (by show(f.m.set hp.nx _).get hp.nx=_;rw[T.get_set,bC3 rfl]) hl rfl V (by rw[Z 4 (by omega)];exact I4.t4) (d:=zB) (by show(f.m.set hp.nx _).get (hp.nx+1)=_;rw[T.get_set,bC1 (by omega)];exact M) fun ai x8=>.ret ?_)
 have C:∀j,j≠hp.nx->j≠hp.nx+1->((f.m.set hp.nx (some (.cells (fill g 5 [.slice (some ⟨hp2.nx,0,none⟩) t.c.length t.c.length]) 6 tN 6))).set (hp.nx+1) (some (.cells (fill zB 0 n) 6 tN 6))).get j=f.m.get j:=fun j h1 h2=>by
  rw[T.get_set,bC1 h2,T.get_set,bC1 h1]
 have w:∀q b,F4 q=some b->q≠hp.nx/\q≠hp.nx+1/\q≠hp2.nx/\(F0 q=some b\/hp.nx<=q):=fun q b h=>by
  rcases(I4.fz q b h).2 with h|h
  ·have h2:=(u q b h).2
   rcases zA q b h with h'|h'
   ·have:=(hF q b h').2
    exact⟨by omega,by omega,by omega,.inl h'⟩
   ·exact⟨by omega,by omega,by omega,.inr (by omega)⟩
  ·exact⟨by omega,by omega,by omega,.inr (by omega)⟩
 refine⟨n,F4,hp2.nx::Ss.flatten,fill zB 0 n,by rw[x8 4 (by omega),Z 4 (by omega)];exact I4.t4,by show((f.m.set hp.nx _).set (hp.nx+1) _).get (hp.nx+1)=_;rw[T.get_set,bC3 rfl],loadN_fill rfl,fun j hj=>?_,fun q b h=>I4.fle _ _ (lA _ _ h),fun q b h=>?_,fun q b h=>?_,rfl,?_,?_,fun j hj=>?_⟩
 ·show((f.m.set hp.nx _).set (hp.nx+1) _).get j=_
  rw[C j (by omega) (by omega),I4.old j (by omega) (by omega),B j (by omega),sA j (by omega) (by omega),g1 j hj]
 ·obtain⟨k1,k2,_⟩:=w q b h
  refine⟨?_,(I4.fh q b h).2⟩
  show((f.m.set hp.nx _).set (hp.nx+1) _).get q=_
  rw[C q k1 k2]
  exact(I4.fh q b h).1
 ·obtain⟨_,_,k3,k4⟩:=w q b h
  exact⟨fun hq=>(bD9.1 hq).elim k3 (I4.fz q b h).1,k4⟩
 ·refine .mk t _ hp2.nx K Ss (z.mono I4.fle) rfl ?_ i I4.sl fun j s S hs hS=>(I4.done j s S hs hS).frame fun q hq=>?_
  ·show((f.m.set hp.nx _).set (hp.nx+1) _).get hp2.nx=_
   rw[C _ (by omega) (by omega)]
   exact I4.arr
  ·have:=(I4.lt q (mem_flat hS hq)).1
   exact C q (by omega) (by omega)
 ·refine List.nodup_cons.2 ⟨fun h=>?_,I4.nd⟩
  have:=(I4.lt _ h).1
  omega
 ·show _/\j<f.nx
  rcases bD9.1 hj with rfl|hj
  ·omega
  ·have:=I4.lt j hj
   omega
theorem copied_ok (u:Go.Xe.isT (ov pF)=false)(r:∀tm,M4 PR U0 cCa (PmT tpCa tm) (PcX PR ov ntCa (pcCa (f5 PR pF)) otCa 6 tm)):∀(d:Nat) (t:Tree),t.size<=d->AllA t->CpAt ov t
 |0,t,hd,_=>by have:=size_pos t;omega
 |d+1,t,hd,p=>by
  intro hp vs F0 B f hF
  have D:∀s∈t.c,CpAt ov s:=fun s hs=>copied_ok u r d s (by
   rw[size_def]at hd
   obtain⟨a,b,e⟩:=List.append_of_mem hs
   have A:t.c=(a++ [s])++b:=by rw[e];simp
   rw[A,sizes_app,sizes_app,one_s]at hd
   omega) (by
   obtain⟨j,hj⟩:=bK1 hs
   exact AllAs_mem ((AllA_iff t).1 p).2 hj)
  have C:=alone_c ((AllA_iff t).1 p).1
  obtain⟨tm',hp1,x,l,F1,S,y,t4,gr,hl,w,fl,fh,fz,G,ta,nd,lt⟩:=copied_code r (by omega) (by omega) D B f hF (tm0:=fill .e 0 [.agg vs.toArray,.bool true]) (by rw[A0];rfl) (by rw[A0];rfl)
  obtain⟨hp2,F,v,i,k⟩:=ad9 (ov:=ov) (args:=[.agg vs.toArray,.bool true]) (c:=f5 PR pF) p_fn (by kernel_rfl) u (show XK PR ov (2+(Go.Proofs.Try.f43.ntmps-2)) _ _ _ _ _ _ from(show 2+(Go.Proofs.Try.f43.ntmps-2)=38 from by kernel_rfl)▸x) (.inr rfl) (vs:=[.agg l.toArray]) (fun h2 same=>by
   have e:Go.Proofs.Try.f43.results.toList=[.cell 4 tN]:=by kernel_rfl
   rw[e]
   have g:h2.m.get (hp.nx+1)=some (.cells y 6 tN 6):=by rw[same _ (by rw[gr];exact fun h=>by cases h)];exact gr
   have:=ld_N' (m:=h2.m) (nx:=h2.nx) g rfl (by omega) hl
   simp only[t9,Q6,t4,bE3]
   rw[show A8 PR h2 tN (.pointer (some ⟨hp.nx+1,0,none⟩))=some (.agg l.toArray)from this])
  obtain⟨H,k1,k2,k3,E⟩:=fh_body hF fh fl k v i
  refine⟨hp2,l,H,S,F,k,fun j hj=>?_,k1,k3,fun q b h=>fz q b (k2 q b h),G,(ta.arrs E).frame fun j hj=>?_,nd,fun j hj=>by rw[v];exact lt j hj⟩
  ·by_cases e:hp1.m.get j=some .dfr
   ·rw[w j hj]at e
    rw[e]
    exact k.dfr j hj e
   ·rw[i j e];exact w j hj
  ·obtain⟨c,n,z,e⟩:=ta.cells j hj
   exact i j (by rw[e];exact fun h=>by cases h)
end Go.D
