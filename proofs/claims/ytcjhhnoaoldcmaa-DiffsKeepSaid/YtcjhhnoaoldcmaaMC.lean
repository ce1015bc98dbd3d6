/- keep, whole: its code in the executor.
  Conditions: none. -/
import Derived.Test.YtcjhhnoaoldcmaaMB
import Derived.Test.YtcjhhnoaoldcmaaF1
set_option linter.unusedVariables false
set_option linter.unusedSimpArgs false
noncomputable section
namespace Go.D
open Go Go.Xe Go.Sx
open Go.C36 (row)
variable {ov :FuncId->Option TypeId}
variable {v:Value}{L:Sx.Rows}
theorem pv_sl {F:FB}{e:TypeId}(h:PV PR F (.sl e) v (.lst L)):∃q c,v= .slice q L.length c:=by
 cases h with
 |nils=>exact⟨_,_,rfl⟩
 |vague=>exact⟨_,_,rfl⟩
 |sl e i o c=>exact⟨_,_,rfl⟩
theorem valid_c {s c:Tree}(h:Valid s)(hc:c∈s.c):Valid c:=by
 obtain⟨h1,h2,h3⟩:=h
 obtain⟨j,hj⟩:=bK1 hc
 refine⟨AllAs_mem ((AllA_iff s).1 h1).2 hj,?_,?_⟩
 ·rw[size_def]at h2
  have:=List.append_of_mem hc
  obtain⟨a,b,e⟩:=this
  have d:s.c=(a++ [c])++b:=by rw[e];simp
  rw[d,sizes_app,sizes_app,one_s]at h2
  omega
 ·rw[depth_def]at h3
  obtain⟨a,b,e⟩:=List.append_of_mem hc
  have d:s.c=(a++ [c])++b:=by rw[e];simp
  rw[d,depths_app,depths_app,one_d]at h3
  omega
theorem int_frz {F:FB}{hp:Hp}{n0:Nat}(h:OwnL PR F 3 1 n0 hp L v):∃G:FB,(∀q b,G q=some b->hp.m.get q=some b/\n0<=q/\q<hp.nx)/\PV PR G (.sl 3) v (.lst L):=by
 rcases h with⟨rfl,rfl⟩| ⟨i,o,c,cs,n,rfl,h1,h2,h3,h4,h5,g⟩
 ·exact⟨fun _=>none,fun q b h=>(by cases h),.nils _⟩
 ·obtain⟨j,l,p,e⟩:=h5
  refine⟨fun q=>if q=i then hp.m.get i else none,fun q b h=>?_,?_⟩
  ·have h:(if q=i then hp.m.get i else none)=some b:=h
   by_cases hq:q=i
   ·rw[bC3 hq]at h
    subst hq
    exact⟨h,h1,h2⟩
   ·rw[bC1 hq]at h;cases h
  ·refine .sl _ i o c _ cs n 1 L (fun r k=>(cs.get (o+r*1+k)).getD undef) (by show(if i=i then hp.m.get i else none)=_;rw[bC3 rfl];exact h4) rfl ⟨g,.mk⟩ j l p (fun r k row d hr hk=>?_) (fun r k row kd d hr hk a=>?_)
   ·obtain⟨x,hx,_⟩:=e r k row d hr hk
    rw[hx];rfl
   ·obtain⟨x,hx,hp⟩:=e r k row d hr hk
    rw[hx]
    have h:=hp kd a
    rw[kf_I]at a
    have f:kd= .int .i64:=by
     cases k with
     |zero=>exact(bC7 a).symm
     |succ k=>simp at a
    subst f
    show PV PR _ (.int .i64) x d
    have h:PV PR F (.int .i64) x d:=h
    cases h
    exact .int _ _
section
variable {hp :Hp}{vs:List Value}{F0:FB}{iw ow N:Nat}{cs:T Value}{S:List Nat}{t o:Tree}
theorem keep_code (hR : ∀ tm, M4 PR U0 cKr (PmT tpKr tm) (PcX PR ov ntKr (pcKr (f5 PR kF)) otKr 6 tm)) ( az : d6 PR U0 ov cMat2 25) (hA : AllA t) (hV : Valid o) (ih : ∀ s o', s ∈ t.c → o' ∈ o.c → KeepAt ov s o')
  (be:vs.length=6) (au:RN F0 o (fun q=>vs[q]?)) (hF:FH F0 hp) (l:∀q b,F0 q=some b->q∉S/\q≠iw) (hw:hp.m.get iw=some (.cells cs N tN 6)) (hN:ow+6<=N) (aa:iw<hp.nx) (hT:TA F0 hp.m.get S t (at6 cs ow)) (ad:S.Nodup) (Z:iw∉S) (E:∀j∈S,j<hp.nx)
  {tm0:T Value} (h0:tm0.get 0=some (.agg vs.toArray)) (h1:tm0.get 1=some (.pointer (some ⟨iw,ow,none⟩))):
  YN PR ov 69 (f5 PR kF) tm0 hp fun _ hp'=>∃cs' F' ai,Win F' hp' iw ow N t (rows (keepL t.c o.c (mtch o.c t.c)++leftF o.c (mtch o.c t.c) o.c.length)) cs' ai/\(∀j,j<hp.nx->j≠iw->j∉S->hp'.m.get j=hp.m.get j)/\(∀j,j<ow\/ow+6<=j->cs'.get j=cs.get j)/\Fle F0 F'/\
   (∀q b,F' q=some b->F0 q=some b\/q∈S\/hp.nx<=q)/\ ∀q,ai=some q->hp.nx<=q\/q∈S:=by
 have bp:t.c.length<=16:=(alone_c ((AllA_iff t).1 hA).1).1
 have bq:o.c.length<=16:=(alone_c ((AllA_iff o).1 hV.1).1).1
 have ac:(mtch o.c t.c).length=t.c.length:=mtch_len _ _
 let G:FB:=fun q=>if q∈S then hp.m.get q else none
 have hG:FH G hp:=fun q b h=>by
  have h:(if q∈S then hp.m.get q else none)=some b:=h
  by_cases hq:q∈S
  ·rw[bC3 hq]at h;exact⟨h,E q hq⟩
  ·rw[bC1 hq]at h;cases h
 have C:FH (orF F0 G) hp:=orF_h hF hG
 have av:∀j∈S,orF F0 G j=hp.m.get j:=fun j hj=>by
  unfold orF
  cases hf:F0 j with
  |some b=>exact absurd hj (l j b hf).1
  |none=>show(if j∈S then hp.m.get j else none)=_;rw[bC3 hj]
 obtain⟨_,vn,J,bc⟩:=hT.read (orF_l F0 G) av
 obtain⟨bw,vo,z,w⟩:=au
 obtain⟨_,_,i,cs0,Ss,hd,h5,hH,hb,hl,hk⟩:=hT
 have Y:i∉Ss.flatten:=(List.nodup_cons.1 ad).1
 have ae:Ss.flatten.Nodup:=(List.nodup_cons.1 ad).2
 have hi:i<hp.nx:=E i (List.mem_cons_self ..)
 have p:iw≠i:=fun e=>Z (by rw[e];exact List.mem_cons_self ..)
 have n:iw∉Ss.flatten:=fun h=>Z (bF9 _ h)
 have J:cs.get (ow+5)=some vn:=J
 have h5:cs.get (ow+5)=some (.slice (some ⟨i,0,none⟩) t.c.length t.c.length):=h5
 obtain⟨qo,co,rfl⟩:=pv_sl w
 have ay:(rows o.c).length=o.c.length:=by simp[rows]
 rw[ay]at z w
 rw[k_c0]
 refine .seq (k_R0 h0 h1 fun tm1 K1=>?_)
 generalize hh:(⟨hp.m.set hp.nx (some (.cells (fill .e 0 vs) vs.length tN vs.length)),hp.nx+1⟩:Hp)=hp1
 have bx:hp1.nx=hp.nx+1:=by rw[<-hh]
 have H:∀j,j≠hp.nx->hp1.m.get j=hp.m.get j:=fun j hj=>by rw[<-hh];show(hp.m.set hp.nx _).get j=_;rw[T.get_set,bC1 hj]
 have V:hp1.m.get hp.nx=some (.cells (fill .e 0 vs) 6 tN 6):=by rw[<-hh];show(hp.m.set hp.nx _).get hp.nx=_;rw[T.get_set,bC3 rfl,be]
 have Q:FH (orF F0 G) ⟨hp1.m,hp1.nx+8⟩:=fun q b h=>⟨by rw[H q (by have:=(C q b h).2;omega)];exact(C q b h).1,by have:=(C q b h).2;show q<hp1.nx+8;omega⟩
 obtain⟨v,F2,hp2,L,xm,km,bu,bt,bv,sm,rl,own⟩:=az.useA rfl rfl rfl rfl (es:=[.dat 0 (.lst (rows o.c)),.dat 1 (.lst (rows t.c))]) rfl (show twoPre [.lst (rows o.c),.lst (rows t.c)]from⟨_,_,rfl,rfl,by omega,by omega⟩) Q
  (xs:=[.slice qo o.c.length co,vn]) (show VDL PR U0 _ _ [.lst tN (.dat 0 (.lst (rows o.c))) false,.lst tN (.dat 1 (.lst (rows t.c))) false] _ from .cons (.lst _ _ _ _ (w.mono PR (orF_l F0 G)) (fun h=>by cases h)) (.cons (.lst _ _ _ _ bc (fun h=>by cases h)) VDL.nil))
 have rl:L=(mtch o.c t.c).map row:=rl _ _ rfl rfl
 subst rl
 have ak:∀j,j<hp.nx+9->hp2.m.get j=hp1.m.get j:=fun j hj=>sm j (by show j<hp1.nx+8;omega)
 have bz:hp.nx+9<=hp2.nx:=by have:hp1.nx+8<=hp2.nx:=km.nx;omega
 have x:∀j,j<hp.nx->hp2.m.get j=hp.m.get j:=fun j hj=>(ak j (by omega)).trans (H j (by omega))
 obtain⟨A,R,bb⟩:=int_frz own
 have U:∀q b,A q=some b->hp.nx+9<=q:=fun q b h=>by have:hp1.nx+8<=q:=(R q b h).2.1;omega
 refine .seq (k_D1 K1 V (by omega) ((H iw (by omega)).trans hw) hN (by rw[A0];exact z) J xm ⟨by omega,fun r hr h=>km.dfr r (by show r<hp1.nx+8;omega) h⟩ fun ca K2 t4=>?_)
 have K:hp2.m.get iw=some (.cells cs N tN 6):=(x iw aa).trans hw
 have X:hp2.m.get hp.nx=some (.cells (fill .e 0 vs) 6 tN 6):=(ak _ (by omega)).trans V
 have D:FH F0 hp2:=fun q b h=>⟨by rw[x q (hF q b h).2];exact(hF q b h).1,by have:=(hF q b h).2;omega⟩
 have f:∀ {q:Nat},q∈Ss.flatten->q<hp.nx:=fun h=>E _ (bF9 _ h)
 refine .seq (.seq (k_R2 K2 t4 K hN h5 fun al K3 bj t19 t20=>?_))
 have I:I0 hp2 t o F0 iw ow hp.nx i v Ss cs0 0 al hp2 cs0 F0:=
  ⟨K3,bj,t19,t20,.refl _,fun _ _ _ _=>rfl,(x i hi).trans hH,fun _ _ _ _=>rfl,fun j s h=>absurd h (Nat.not_lt_zero _),D,Fle.refl _,fun q b h=>.inl h⟩
 have step:∀(k:Nat) (tm:T Value) (hp':Hp) (cs':T Value) (F:FB),I0 hp2 t o F0 iw ow hp.nx i v Ss cs0 k tm hp' cs' F->k<t.c.length->YN PR ov 69 kL0 tm hp' fun tm' ah=>∃O F',I0 hp2 t o F0 iw ow hp.nx i v Ss cs0 (k+1) tm' ah O F':=by
  intro k tm hp' cs' F I ax
  rcases own with⟨e,_⟩| ⟨im,om,cm,csm,nm,e1,e2,e3,e4,e5,e6,e7⟩
  ·have:=congrArg List.length e
   simp only[bC0,bJ8,ac]at this
   omega
  ·have e2:hp1.nx+8<=im:=e2
   refine k_step (im:=im) (om:=om) (cm:=cm) (nm:=nm) (csm:=csm) ae Y hl (fun q hq=>by have:=f hq;omega) (by omega) p n (by omega) (fun q b h=>⟨fun h'=>(l q b h).1 (bF9 _ h'),fun h'=>(l q b h).1 (by rw[h'];exact List.mem_cons_self ..),(D q b h).2⟩)
    (fun j s S' hs d=>(hk j s S' hs d).frame fun q hq=>x q (f (mem_flat d hq))) (by rw[e1];simp only[bC0,ac]) e3 (by omega) (fun h=>by have:=f h;omega) e5 e6 (show hp.nx<hp2.nx by omega) (by omega) (fun h=>by have:=f h;omega) X (by omega) (by rw[A0];exact z) w D K hN h5 hb ih I ax
 obtain⟨bk,g,ao,M,x4,I4⟩:=k_loop step t.c.length 0 al hp2 cs0 F0 (bD3 _) I
 refine⟨bk,g,x4.blockX,?_⟩
 have aw:g.m.get hp.nx=some (.cells (fill .e 0 vs) 6 tN 6):=(I4.old hp.nx (by omega) (by omega) fun q S' _ d h=>by have:=f (mem_flat d h);omega).trans X
 refine .seq (k_R8 I4.k12 aw (by omega) (by rw[A0];exact z) fun bl e5 t45 t46 t47=>?_)
 have B:FH A g:=fun q b h=>by
  obtain⟨g1,g2,g3⟩:=R q b h
  have g2:=U q b h
  refine⟨?_,bF3 g3 I4.kp.nx⟩
  rw[I4.old q g3 (by omega) fun q' S' _ d h=>by have:=f (mem_flat d h);omega]
  exact g1
 have P:∀q b,orF M A q=some b->F0 q=some b\/q∈Ss.flatten\/hp.nx<=q:=fun q b h=>by
  rcases orF_or h with h|h
  ·rcases I4.fz q b h with h| ⟨j,S',_,d,h⟩|h
   ·exact .inl h
   ·exact .inr (.inl (mem_flat d h))
   ·exact .inr (.inr (by omega))
  ·exact .inr (.inr (by have:=U q b h;omega))
 have u:∀q,q<hp.nx->q∉Ss.flatten->(∀b,F0 q≠some b)->orF M A q=none:=fun q h1 h2 h3=>by
  cases hq:orF M A q with
  |none=>rfl
  |some b=>
   rcases P q b hq with h|h|h
   ·exact absurd h (h3 b)
   ·exact absurd h h2
   ·omega
 have y:(keepL t.c o.c (mtch o.c t.c)).length=t.c.length:=keepL_len _ _ _
 have bg:g.m.get iw=some (.cells cs N tN 6):=(I4.old iw (by omega) p fun q S' _ d h=>n (mem_flat d h)).trans K
 have W:Win (orF M A) g iw ow N t (rows (keepL t.c o.c (mtch o.c t.c)++leftF o.c (mtch o.c t.c) 0)) cs (some i):=by
  refine⟨bg,hN,bF3 (by omega) I4.kp.nx,u iw aa n fun b h=>(l iw b h).2 rfl,hd.mono fun q b h=>orF_l _ _ _ _ (I4.fle q b h),⟨_,h5,.inr ⟨i,0,t.c.length,ao,t.c.length*6,rfl,?_,?_,bF3 (by omega) I4.kp.nx,p.symm,u i hi Y fun b h=>(l i b h).1 (List.mem_cons_self ..),I4.arr,?_⟩⟩,orF_h I4.fh B⟩
  ·simp only[rows,bC0,leftF,bI5,y]
  ·exact .inl ⟨by unfold unk;omega,by simp only[rows,bC0,leftF,bI5,y],by simp only[rows,bC0,leftF,bI5,y];omega⟩
  ·refine rowsAt_of (fun j s hj=>?_) (by simp only[leftF,bI5,y];omega)
   simp only[leftF,bI5]at hj
   rw[bD3]
   exact(I4.done j s (by have:=(bA4.1 hj).1;omega) hj).mono (orF_l _ _)
 have I5:I2 g (orF M A) iw ow N t (keepL t.c o.c (mtch o.c t.c)) o.c (mtch o.c t.c) cs (some i) 0 bl g cs (orF M A) (some i) v (.slice qo o.c.length co):=
  ⟨W,by rw[e5 1 (by omega)];exact I4.k12.a,by rw[e5 4 (by omega)];exact I4.t4,bb.mono PR (orF_r I4.fh B),t45,w.mono PR fun q b h=>orF_l _ _ _ _ (I4.fle q b h),t46,t47,.refl _,fun _ _ _ _=>rfl,fun _ _=>rfl,Fle.refl _,fun q b h=>.inl h,fun q h=>.inr h⟩
 obtain⟨bm,ba,ap,F6,bh,x6,W6,_,bi,bn,aq,ar,aj⟩:=k2_loop hR (by omega) (by omega) (fun s hs=>valid_c hV hs) o.c.length 0 (bD3 _) I5
 refine⟨bm,ba,x6.blockX,ap,F6,bh,W6,fun j h1 h2 h3=>?_,bn,fun q b h=>aq _ _ (orF_l _ _ _ _ (I4.fle q b h)),fun q b h=>?_,fun q h=>?_⟩
 ·have ab:j≠i:=fun e=>h3 (by rw[e];exact List.mem_cons_self ..)
  have:=I4.kp.nx
  rw[bi j (by omega) h2 (fun e=>ab (by cases e;rfl)),I4.old j (by omega) ab fun q S' _ d h=>h3 (bF9 _ (mem_flat d h))]
  exact x j h1
 ·have:=I4.kp.nx
  rcases ar q b h with h|h|h
  ·rcases P q b h with h|h|h
   ·exact .inl h
   ·exact .inr (.inl (bF9 _ h))
   ·exact .inr (.inr h)
  ·exact .inr (.inr (by omega))
  ·cases h;exact .inr (.inl (List.mem_cons_self ..))
 ·have:=I4.kp.nx
  rcases aj q h with h|h
  ·exact .inl (by omega)
  ·cases h;exact .inr (List.mem_cons_self ..)
end
end Go.D
