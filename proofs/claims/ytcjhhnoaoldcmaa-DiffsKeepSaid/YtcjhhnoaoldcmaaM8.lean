/- keep: its first loop, in the executor.
  Conditions: none. -/
import Derived.Test.YtcjhhnoaoldcmaaM7
set_option linter.unusedVariables false
set_option linter.unusedSimpArgs false
noncomputable section
namespace Go.D
open Go Go.Xe Go.Sx
open Go.C36 (row)
def KeepAt (ov:FuncId->Option TypeId)(t o:Tree):Prop:=∀(hp:Hp) (vs:List Value) (F0:FB) (iw ow N:Nat) (cs:T Value) (S:List Nat),vs.length=6->RN F0 o (fun q=>vs[q]?)->FH F0 hp->(∀q b,F0 q=some b->q∉S/\q≠iw)->
 hp.m.get iw=some (.cells cs N tN 6)->ow+6<=N->iw<hp.nx->TA F0 hp.m.get S t (at6 cs ow)->S.Nodup->iw∉S->(∀j∈S,j<hp.nx)->
 ∃hp' cs' F',E4 PR ov kF [.agg vs.toArray,.pointer (some ⟨iw,ow,none⟩)] hp (.tuple #[]) hp'/\m9 hp hp'/\(∀j,j<hp.nx->j≠iw->j∉S->hp'.m.get j=hp.m.get j)/\
  hp'.m.get iw=some (.cells cs' N tN 6)/\(∀j,j<ow\/ow+6<=j->cs'.get j=cs.get j)/\Fle F0 F'/\FH F' hp'/\(∀q b,F' q=some b->q≠iw/\(F0 q=some b\/q∈S\/hp.nx<=q))/\RN F' (keepT t o) (at6 cs' ow)
variable {F:FB}{S:List Nat}{t:Tree}{g:Nat->Option Value}
theorem TA.frame {H b:FB}(h:TA F H S t g)(c:∀j∈S,b j=H j):TA F b S t g:=by
 induction h with
 |mk t g i cs Ss hd h5 hH hb hl hk d=>
  exact .mk t g i cs Ss hd h5 (by rw[c i (List.mem_cons_self ..)];exact hH) hb hl fun j s S hs a=>d j s S hs a fun q hq=>c q (bF9 _ (mem_flat a hq))
variable {g':Nat->Option Value}
theorem TA.win {H:FB}(h:TA F H S t g)(j:∀q,q<6->g' q=g q):TA F H S t g':=by
 obtain⟨_,_,i,cs,Ss,⟨a,b,c,⟨k,d,e⟩,f⟩,h5,hH,hb,hl,hk⟩:=h
 exact .mk _ _ i cs Ss ⟨by rw[j 0 (by omega)];exact a,by rw[j 1 (by omega)];exact b,by rw[j 2 (by omega)];exact c,⟨k,by rw[j 3 (by omega)];exact d,e⟩,by rw[j 4 (by omega)];exact f⟩ (by rw[j 5 (by omega)];exact h5) hH hb hl hk
theorem RN.win (h:RN F t g)(j:∀q,q<6->g' q=g q):RN F t g':=by
 obtain⟨⟨a,b,c,⟨l,d,e⟩,f⟩,vc,h5,k⟩:=h
 exact⟨⟨by rw[j 0 (by omega)];exact a,by rw[j 1 (by omega)];exact b,by rw[j 2 (by omega)];exact c,⟨l,by rw[j 3 (by omega)];exact d,e⟩,by rw[j 4 (by omega)];exact f⟩,vc,by rw[j 5 (by omega)];exact h5,k⟩
def orF (F G:FB):FB:=fun q=>match F q with
 |some b=>some b
 |none=>G q
theorem orF_l (F G:FB):Fle F (orF F G):=fun q b h=>by simp only[orF,h]
variable {G:FB}
theorem orF_r {hp:Hp}(hF:FH F hp)(a:FH G hp):Fle G (orF F G):=fun q b h=>by
 unfold orF
 cases hq:F q with
 |none=>exact h
 |some c=>
  have:=(hF q c hq).1
  rw[(a q b h).1]at this
  exact this.symm
theorem orF_or {q:Nat}{b:Blk}(h:orF F G q=some b):F q=some b\/G q=some b:=by
 unfold orF at h
 cases hq:F q with
 |none=>rw[hq]at h;exact .inr h
 |some c=>rw[hq]at h;exact .inl h
theorem orF_h {hp:Hp}(hF:FH F hp)(a:FH G hp):FH (orF F G) hp:=fun q b h=>by
 rcases orF_or h with h|h
 ·exact hF q b h
 ·exact a q b h
theorem k_c0 :f5 PR kF= .seq (cdA (f5 PR kF)) (.seq (cdA (cdB (f5 PR kF))) (.seq (.seq (cdA (cdA (cdB (cdB (f5 PR kF))))) (.block 0 (.loop kL0))) (.seq (cdA (cdB (cdB (cdB (f5 PR kF))))) (.block 2 (.loop kL2))))):=by kernel_rfl
theorem k_l0 :kL0= .seq (cdA kL0) (.seq (.cond (.tmp 21) .skip (.exit 0)) (.seq (cdA (cdB (cdB kL0))) (cdB (cdB (cdB kL0))))):=by kernel_rfl
theorem k_l2 :kL2= .seq (cdA kL2) (.seq (.cond (.tmp 48) .skip (.exit 2)) (.seq (pcKr (f5 PR kF)) (cdB (cdB (cdB kL2))))):=by kernel_rfl
section
variable {ov :FuncId->Option TypeId}{hp2:Hp}{t o:Tree}{F0:FB}{iw ow ib i:Nat}{vm:Value}{Ss:List (List Nat)}{cs0:T Value}
structure I0 (hp2:Hp)(t o:Tree)(F0:FB)(iw ow ib i:Nat)(vm:Value)(Ss:List (List Nat))(cs0:T Value)(k:Nat)(tm:T Value)(hp:Hp)(cs:T Value)(F:FB):Prop where
 k12:K12 tm iw ow ib
 t4:tm.get 4=some vm
 t19:tm.get 19=some (.int .i64 t.c.length)
 t20:tm.get 20=some (.int .i64 k)
 kp:m9 hp2 hp
 old:∀j,j<hp2.nx->j≠i->(∀q S,q<k->Ss[q]? =some S->j∉S)->hp.m.get j=hp2.m.get j
 arr:hp.m.get i=some (.cells cs (t.c.length*6) tN 6)
 todo:∀j,k<=j-> ∀q,q<6->cs.get (j*6+q)=cs0.get (j*6+q)
 done:∀j s,j<k->(keepL t.c o.c (mtch o.c t.c))[j]? =some s->RN F s (at6 cs (j*6))
 fh:FH F hp
 fle:Fle F0 F
 fz:∀q b,F q=some b->F0 q=some b\/(∃j S,j<k/\Ss[j]? =some S/\q∈S)\/hp2.nx<=q
theorem nodup_flat {Ss:List (List Nat)}(h:Ss.flatten.Nodup){j k q:Nat}{S S':List Nat}(hj:Ss[j]? =some S)(hk:Ss[k]? =some S')(a:j≠k)(h1:q∈S)(h2:q∈S'):False:=by
 have hp:=List.pairwise_iff_getElem.1 (List.pairwise_flatten.1 h).2
 obtain⟨a1,a2⟩:=bA4.1 hj
 obtain⟨b,c⟩:=bA4.1 hk
 rcases Nat.lt_or_gt_of_ne a with hlt|hlt
 ·have:=hp j k a1 b hlt
  rw[a2,c]at this
  exact this q h1 q h2 rfl
 ·have:=hp k j b a1 hlt
  rw[a2,c]at this
  exact this q h2 q h1 rfl
theorem k_step {im om cm nm : Nat} {csm : T Value} (  D : Ss.flatten.Nodup) (  C : i ∉ Ss.flatten) ( av : Ss.length = t.c.length) (  v : ∀ q ∈ Ss.flatten, q < hp2.nx) ( ap : i < hp2.nx) ( au : iw ≠ i) (   Z : iw ∉ Ss.flatten) (   Y : iw < hp2.nx)
  (u:∀q b,F0 q=some b->q∉Ss.flatten/\q≠i/\q<hp2.nx) (ak:∀j s S,t.c[j]? =some s->Ss[j]? =some S->TA F0 hp2.m.get S s (at6 cs0 (j*6)))
  {Fm:FB} (J:vm= .slice (some ⟨im,om,none⟩) t.c.length cm) (ar:im<hp2.nx) (X:im≠i) (W:im∉Ss.flatten) (hm:hp2.m.get im=some (.cells csm nm 3 1)) (aw:j7 PR Fm 3 1 om nm csm ((mtch o.c t.c).map row))
  {cb:T Value} {zb nb:Nat} (aq:ib<hp2.nx) (V:ib≠i) (U:ib∉Ss.flatten) (hb:hp2.m.get ib=some (.cells cb nb tN zb)) (ay:6<=nb) {vo:Value} (ba:cb.get 5=some vo) (bb:PV PR F0 (.sl tN) vo (.lst (rows o.c))) (bk:FH F0 hp2)
  {cw:T Value} {nw zw ca:Nat} (hw:hp2.m.get iw=some (.cells cw nw tN zw)) (az:ow+6<=nw) (be:cw.get (ow+5)=some (.slice (some ⟨i,0,none⟩) t.c.length ca)) (bj:t.c.length<=1000)
  (ih:∀s o',s∈t.c->o'∈o.c->KeepAt ov s o') {k:Nat} {tm:T Value} {hp:Hp} {cs:T Value} {F:FB} (I:I0 hp2 t o F0 iw ow ib i vm Ss cs0 k tm hp cs F) (hk:k<t.c.length):
  YN PR ov 69 kL0 tm hp fun tm' hp'=>∃cs' F',I0 hp2 t o F0 iw ow ib i vm Ss cs0 (k+1) tm' hp' cs' F':=by
 obtain⟨s,hs⟩:∃s,t.c[k]? =some s:=⟨_,bB3 hk⟩
 obtain⟨S,w⟩:∃S,Ss[k]? =some S:=⟨_,bB3 (by rw[av];exact hk)⟩
 have ax:(mtch o.c t.c).length=t.c.length:=mtch_len _ _
 obtain⟨x,hx⟩:∃x,(mtch o.c t.c)[k]? =some x:=⟨_,bB3 (by rw[ax];exact hk)⟩
 have ad:(mtch o.c t.c).getD k (-1)=x:=by rw[bD2,hx];rfl
 obtain⟨aa,ab⟩:=int_at aw hx
 have keep:∀j,j<hp2.nx->j≠i->j∉Ss.flatten->hp.m.get j=hp2.m.get j:=fun j h1 h2 h3=>I.old j h1 h2 fun q S' _ hq hj=>h3 (mem_flat hq hj)
 have sub:∀q∈S,q∈Ss.flatten:=fun q hq=>mem_flat w hq
 have l:(k:Int).toNat=k:=rfl
 have aj:∀q∈S,hp.m.get q=hp2.m.get q:=fun q hq=>I.old q (v q (sub q hq)) (fun e=>C (by rw[<-e];exact sub q hq)) fun j S' hj ai H=>nodup_flat D ai w (by omega) H hq
 have R:TA F0 hp.m.get S s (at6 cs (k*6)):=((ak k s S hs w).frame aj).win fun q hq=>I.todo k (bC4 _) q hq
 rw[k_l0]
 refine .seq (k_R3 I.t19 I.t20 fun tm1 M ah=>?_)
 refine .seq (.condT (ev_t (by rw[ah];simp only[decide_eq_true (show(k:Int)<(t.c.length:Int) by omega)])) (.skip (.seq ?_)))
 have t4:tm1.get 4=some (.slice (some ⟨im,om,none⟩) t.c.length cm):=by rw[M 4 (by omega),I.t4,J]
 have ac:hp.m.get im=some (.cells csm nm 3 1):=by rw[keep im ar X W];exact hm
 refine k_R45 (mk:=x) t4 (by rw[M 20 (by omega)];exact I.t20) (by omega) (by omega) ac (by rw[l];exact aa) (by rw[l];exact ab) fun p O h5 P=>?_
 have K2:K12 p iw ow ib:=⟨by rw[O 1 (by omega) (by omega),M 1 (by omega)];exact I.k12.a,by rw[O 2 (by omega) (by omega),M 2 (by omega)];exact I.k12.b⟩
 have L:p.get 4=some (.slice (some ⟨im,om,none⟩) t.c.length cm):=by rw[O 4 (by omega) (by omega),t4]
 have y:p.get 19=some (.int .i64 t.c.length):=by rw[O 19 (by omega) (by omega),M 19 (by omega)];exact I.t19
 have z:p.get 20=some (.int .i64 k):=by rw[O 20 (by omega) (by omega),M 20 (by omega)];exact I.t20
 by_cases n:0<=x
 ·
  obtain⟨bm,bl⟩:=mtch_mem (bB1 hx)
  have bh:x.toNat<o.c.length:=by omega
  obtain⟨o',E⟩:∃o',o.c[x.toNat]? =some o':=⟨_,bB3 bh⟩
  obtain⟨ic,oc,cc,bc,dc,nc,zc,ws,p1,p2,p3,p4,p5,p6,p7⟩:=pv_row bb E
  have al:hp.m.get ib=some (.cells cb nb tN zb):=by rw[keep ib aq V U];exact hb
  have bg:hp.m.get iw=some (.cells cw nw tN zw):=by rw[keep iw Y au Z];exact hw
  have ao:hp.m.get ic=some bc:=(I.fh ic bc (I.fle _ _ p2)).1
  have bi:i<hp.nx:=bF3 ap I.kp.nx
  have B:=ih s o' (bB1 hs) (bB1 E) ⟨hp.m,hp.nx+15⟩ ws F0 i (k*6) (t.c.length*6) cs S p6 p7 (fun q b h=>⟨(I.fh q b (I.fle _ _ h)).1,bF3 (I.fh q b (I.fle _ _ h)).2 (Nat.le_add_right _ _)⟩)
   (fun q b h=>⟨fun h'=>(u q b h).1 (sub q h'),(u q b h).2.1⟩) I.arr (by omega) (by show i<hp.nx+15;omega) R ((List.pairwise_flatten.1 D).1 S (bB1 w)) (fun h=>C (sub i h)) (fun q hq=>by have:=v q (sub q hq);have:=I.kp.nx;show q<hp.nx+15;omega)
  obtain⟨hp',cs',F',r1,r2,r3,r4,r5,r6,r7,r8,r9⟩:=B
  have K:m9 hp hp':=⟨bF8 (Nat.le_add_right _ 15) r2.nx,fun r hr h=>r2.dfr r (bF3 hr (Nat.le_add_right _ 15)) h⟩
  have same:∀j,j<hp.nx->j≠i->j∉S->hp'.m.get j=hp.m.get j:=fun j h1 h2 h3=>r3 j (bF3 h1 (Nat.le_add_right _ 15)) h2 h3
  have Q:FH F hp':=fun q b h=>by
   obtain⟨g1,g2⟩:=I.fh q b h
   refine⟨?_,bF3 g2 K.nx⟩
   rw[same q g2 ?_ ?_]
   ·exact g1
   ·rintro rfl
    rcases I.fz q b h with h| ⟨j,S',_,hj,hq⟩|h
    ·exact(u q b h).2.1 rfl
    ·exact C (mem_flat hj hq)
    ·omega
   ·intro hq
    rcases I.fz q b h with h| ⟨j,S',f,hj,H⟩|h
    ·exact(u q b h).1 (sub q hq)
    ·exact nodup_flat D hj w (by omega) H hq
    ·have:=v q (sub q hq);omega
  refine k_D6 K2 (by rw[P];simp only[decide_eq_true n]) h5 L (by omega) (by omega) ac (by rw[l];exact aa) (by rw[l];exact ab) al ay bg az (by rw[ba,p1]) be (by omega) ao p3 n (by omega) p4 p5 (by rw[l,bD3];exact r1) K fun bn e3=>?_
  refine k_R7 (by rw[e3 20 (by omega)];exact z) (by omega) (by omega) fun ae N A=>⟨cs',orF F F',?_⟩
  have ee:∀q,q<20->ae.get q=p.get q:=fun q hq=>by rw[N q hq,e3 q (by omega)]
  refine⟨⟨by rw[ee 1 (by omega)];exact K2.a,by rw[ee 2 (by omega)];exact K2.b⟩,by rw[ee 4 (by omega),L,J],by rw[ee 19 (by omega)];exact y,by rw[A];rfl,I.kp.trans K,fun j h1 h2 h3=>?_,r4,fun j hj q hq=>?_,fun j s' hj d=>?_,orF_h Q r7,fun q b h=>orF_l _ _ _ _ (I.fle q b h),fun q b h=>?_⟩
  ·rw[same j (bF3 h1 I.kp.nx) h2 (h3 k S (bG1 _) w)]
   exact I.old j h1 h2 fun q S' hq=>h3 q S' (by omega)
  ·rw[r5 _ (.inr (by have:(k+1)*6<=j*6:=bB4 _ hj;omega))]
   exact I.todo j (by omega) q hq
  ·by_cases f:j=k
   ·subst f
    rw[keepL_get hs,ad,bC3 n]at d
    cases d
    have e:o.c.getD x.toNat noT=o':=by rw[bD2,E];rfl
    rw[e]
    exact r9.mono (orF_r Q r7)
   ·refine((I.done j s' (by omega) d).mono (orF_l _ _)).win fun q hq=>?_
    have:(j+1)*6<=k*6:=bB4 _ (by omega)
    exact r5 _ (.inl (by omega))
  ·rcases orF_or h with h|h
   ·rcases I.fz q b h with h| ⟨j,S',f,hj⟩|h
    ·exact .inl h
    ·exact .inr (.inl ⟨j,S',by omega,hj⟩)
    ·exact .inr (.inr h)
   ·rcases(r8 q b h).2 with h|h|h
    ·exact .inl h
    ·exact .inr (.inl ⟨k,S,bG1 _,w,h⟩)
    ·exact .inr (.inr (by have:=I.kp.nx;have:hp.nx+15<=q:=h;omega))
 ·
  refine k_no (by rw[P];simp only[bH5 n]) ?_
  let G:FB:=fun q=>if q∈S then hp.m.get q else none
  have hG:FH G hp:=fun q b h=>by
   have h:(if q∈S then hp.m.get q else none)=some b:=h
   by_cases hq:q∈S
   ·rw[bC3 hq]at h
    exact⟨h,by have:=v q (sub q hq);have:=I.kp.nx;omega⟩
   ·rw[bC1 hq]at h;cases h
  refine k_R7 z (by omega) (by omega) fun ae N A=>⟨cs,orF F G,?_⟩
  refine⟨⟨by rw[N 1 (by omega)];exact K2.a,by rw[N 2 (by omega)];exact K2.b⟩,by rw[N 4 (by omega),L,J],by rw[N 19 (by omega)];exact y,by rw[A];rfl,I.kp,fun j h1 h2 h3=>I.old j h1 h2 fun q S' hq=>h3 q S' (by omega),I.arr,fun j hj q hq=>I.todo j (by omega) q hq,fun j s' hj d=>?_,orF_h I.fh hG,fun q b h=>orF_l _ _ _ _ (I.fle q b h),fun q b h=>?_⟩
  ·by_cases f:j=k
   ·subst f
    rw[keepL_get hs,ad,bC1 n]at d
    cases d
    refine R.read (fun q b h=>orF_l _ _ _ _ (I.fle q b h)) fun q hq=>?_
    unfold orF
    cases hf:F q with
    |some b=>exact((I.fh q b hf).1).symm
    |none=>show(if q∈S then hp.m.get q else none)=_;rw[bC3 hq]
   ·exact(I.done j s' (by omega) d).mono (orF_l _ _)
  ·rcases orF_or h with h|h
   ·rcases I.fz q b h with h| ⟨j,S',f,hj⟩|h
    ·exact .inl h
    ·exact .inr (.inl ⟨j,S',by omega,hj⟩)
    ·exact .inr (.inr h)
   ·have h:(if q∈S then hp.m.get q else none)=some b:=h
    by_cases hq:q∈S
    ·exact .inr (.inl ⟨k,S,bG1 _,w,hq⟩)
    ·rw[bC1 hq]at h;cases h
end
end Go.D
