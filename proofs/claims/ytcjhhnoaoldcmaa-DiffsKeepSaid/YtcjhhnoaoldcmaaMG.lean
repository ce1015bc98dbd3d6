/- copied: a tree whose lists are its own.
  Conditions: none. -/
import Derived.Test.YtcjhhnoaoldcmaaMF
import Derived.Test.YtcjhhnoaoldcmaaMD
set_option linter.unusedVariables false
set_option linter.unusedSimpArgs false
set_option maxRecDepth 10000
noncomputable section
namespace Go.D
open Go Go.Xe Go.Sx
open Go.C36 (row)
variable {ov :FuncId->Option TypeId}
variable {F H:FB}{S:List Nat}{t:Tree}{g:Nat->Option Value}
theorem TA.mono {F':FB}(h:Fle F F')(k:TA F H S t g):TA F' H S t g:=by
 induction k with
 |mk t g i cs Ss hd h5 hH hb hl _ a=>exact .mk t g i cs Ss (hd.mono h) h5 hH hb hl a
theorem TA.arrs {F':FB}(h:∀i b cs,F i=some b->arr b=some cs->F' i=some b)(k:TA F H S t g):TA F' H S t g:=by
 induction k with
 |mk t g i cs Ss hd h5 hH hb hl _ j=>
  obtain⟨a,b,c,⟨l,d,e⟩,f⟩:=hd
  exact .mk t g i cs Ss ⟨a,b,c,⟨l,d,PV.arrs h e⟩,f⟩ h5 hH hb hl j
theorem TA.cells (k:TA F H S t g):∀j∈S,∃cs n z,H j=some (.cells cs n tN z):=by
 induction k with
 |mk t g i cs Ss hd h5 hH hb hl hk b=>
  intro j hj
  rcases bD9.1 hj with rfl|hj
  ·exact⟨_,_,_,hH⟩
  ·obtain⟨S,a,hq⟩:=List.mem_flatten.1 hj
   obtain⟨n,hn⟩:=bK1 a
   have hlt:n<t.c.length:=by rw[<-hl];exact(bA4.1 hn).1
   exact b n _ S (bB3 hlt) hn j hq
theorem fh_body {F0 G : FB} {hp hp1 hp2 : Hp} (hF : FH F0 hp) ( f : FH G hp1) (fl : Fle F0 G) (kp : m9 hp hp2) (  a : hp2.nx = hp1.nx) (same : ∀ i, hp1.m.get i ≠ some .dfr → hp2.m.get i = hp1.m.get i) :
  ∃H:FB,Fle F0 H/\(∀q b,H q=some b->G q=some b)/\FH H hp2/\ ∀i b c,G i=some b->arr b=some c->H i=some b:=by
 let H:FB:=fun q=>match F0 q with
  |some b=>some b
  |none=>match G q with
   |some b=>if(arr b).isSome then some b else none
   |none=>none
 have hH:∀q b,H q=some b->F0 q=some b\/(G q=some b/\(arr b).isSome=true):=fun q b h=>by
  have h:(match F0 q with
   |some b=>some b
   |none=>match G q with
    |some b=>if(arr b).isSome then some b else none
    |none=>none)=some b:=h
  cases h0:F0 q with
  |some b'=>rw[h0]at h;exact .inl h
  |none=>
   rw[h0]at h
   simp only at h
   cases h1:G q with
   |none=>rw[h1]at h;cases h
   |some b'=>
    rw[h1]at h
    simp only at h
    by_cases h2:(arr b').isSome=true
    ·rw[bC3 h2]at h
     cases h
     exact .inr ⟨rfl,h2⟩
    ·rw[bC1 h2]at h;cases h
 refine⟨H,fun q b h=>?_,fun q b h=>?_,fun q b h=>?_,fun q b c h1 h2=>?_⟩
 ·show (match F0 q with
   |some b=>some b
   |none=>match G q with
    |some b=>if(arr b).isSome then some b else none
    |none=>none)=some b
  rw[h]
 ·rcases hH q b h with h| ⟨h,_⟩
  ·exact fl q b h
  ·exact h
 ·rcases hH q b h with h| ⟨h,h'⟩
  ·obtain⟨k1,k2⟩:=hF q b h
   obtain⟨d,j⟩:=f q b (fl _ _ h)
   refine⟨?_,by rw[a];exact j⟩
   by_cases e:hp1.m.get q=some .dfr
   ·rw[d]at e
    rw[e]at k1
    rw[e]
    exact kp.dfr q k2 k1
   ·rw[same q e];exact d
  ·obtain⟨k1,k2⟩:=f q b h
   refine⟨?_,by rw[a];exact k2⟩
   rw[same q (fun e=>by rw[k1]at e;cases e;cases h')]
   exact k1
 ·show (match F0 q with
   |some b=>some b
   |none=>match G q with
    |some b=>if(arr b).isSome then some b else none
    |none=>none)=some b
  cases h0:F0 q with
  |some b'=>
   have:=fl _ _ h0
   rw[h1]at this
   exact this.symm
  |none=>simp only[h1,h2,Option.isSome_some,bI6]
def CpAt (ov:FuncId->Option TypeId)(t:Tree):Prop:=∀(hp:Hp) (vs:List Value) (F0:FB),vs.length=6->RN F0 t (fun q=>vs[q]?)->FH F0 hp->
 ∃(hp':Hp) (ws:List Value) (F':FB) (S:List Nat),E4 PR ov pF [.agg vs.toArray,.bool true] hp (.agg ws.toArray) hp'/\m9 hp hp'/\(∀j,j<hp.nx->hp'.m.get j=hp.m.get j)/\Fle F0 F'/\FH F' hp'/\(∀q b,F' q=some b->q∉S/\(F0 q=some b\/hp.nx<=q))/\ws.length=6/\TA F' hp'.m.get S t (fun q=>ws[q]?)/\S.Nodup/\ ∀j∈S,hp.nx<=j/\j<hp'.nx
variable {ws:List Value}
theorem TA.one (a:ws.length=6)(h:TA F H S t (fun q=>ws[q]?)):ws.all Value.oneCell'=true:=by
 obtain⟨_,_,i,cs,Ss,hd,h5,_⟩:=h
 exact hd_one a hd ⟨_,_,_,h5⟩
theorem RN.one (b:ws.length=6)(h:RN F t (fun q=>ws[q]?)):ws.all Value.oneCell'=true:=by
 obtain⟨hd,vc,h5,a⟩:=h
 obtain⟨q,c,rfl⟩:=pv_sl' a
 exact hd_one b hd ⟨_,_,_,h5⟩
section
variable {hp2 :Hp}{t:Tree}{F0:FB}{ib ir i:Nat}{vo:Value}
structure Ic (hp2:Hp)(t:Tree)(F0:FB)(ib ir i:Nat)(vo:Value)(k:Nat)(tm:T Value)(hp:Hp)(cs:T Value)(F:FB)(Ss:List (List Nat)):Prop where
 t1:tm.get 1=some (.bool true)
 t2:tm.get 2=some (.pointer (some ⟨ib,0,none⟩))
 t4:tm.get 4=some (.pointer (some ⟨ir,0,none⟩))
 t5:tm.get 5=some (.slice (some ⟨i,0,none⟩) t.c.length t.c.length)
 t21:tm.get 21=some vo
 t22:tm.get 22=some (.int .i64 t.c.length)
 t23:tm.get 23=some (.int .i64 k)
 kp:m9 hp2 hp
 old:∀j,j<hp2.nx->j≠i->hp.m.get j=hp2.m.get j
 arr:hp.m.get i=some (.cells cs (t.c.length*6) tN 6)
 sl:Ss.length=k
 done:∀j s S,t.c[j]? =some s->Ss[j]? =some S->TA F hp.m.get S s (at6 cs (j*6))
 nd:Ss.flatten.Nodup
 lt:∀q∈Ss.flatten,hp2.nx<=q/\q<hp.nx
 fh:FH F hp
 fle:Fle F0 F
 fz:∀q b,F q=some b->q∉Ss.flatten/\(F0 q=some b\/hp2.nx<=q)
theorem c_step (  K : i < hp2.nx) (  G : F0 i = none) (  O : PV PR F0 (.sl tN) vo (.lst (rows t.c))) (  aa : t.c.length ≤ 1000) (ih : ∀ s ∈ t.c, CpAt ov s) {k : Nat} {tm : T Value} {hp : Hp} {cs : T Value} {F : FB} {Ss : List (List Nat)} (I : Ic hp2 t F0 ib ir i vo k tm hp cs F Ss) (hk : k < t.c.length) :
  YN PR ov 38 pL tm hp fun tm' hp'=>∃cs' F' B,Ic hp2 t F0 ib ir i vo (k+1) tm' hp' cs' F' B:=by
 obtain⟨s,hs⟩:∃s,t.c[k]? =some s:=⟨_,bB3 hk⟩
 obtain⟨ic,oc,cc,X,dc,nc,zc,ws,e1,e2,e3,e4,e5,z,Y⟩:=pv_row O hs
 have Z:i<hp.nx:=bF3 K I.kp.nx
 have v:∀b,F i≠some b:=fun b h=>by
  rcases(I.fz i b h).2 with h|h
  ·rw[G]at h;cases h
  ·omega
 rw[p_l0]
 refine .seq (p_R6 I.t22 I.t23 fun tm1 o D=>?_)
 refine .seq (.condT (ev_t (by rw[D];simp only[decide_eq_true (show(k:Int)<(t.c.length:Int) by omega)])) (.skip (.seq (.block (.seq ?_)))))
 have J:hp.m.get ic=some X:=(I.fh ic X (I.fle _ _ e2)).1
 have P:ws.all Value.oneCell'=true:=Y.one z
 refine p_R7 (k0:=k) (by rw[o 23 (by omega)];exact I.t23) (by rw[o 21 (by omega),I.t21,e1]) hk J e3 e4 e5 z P fun ae A h6 h7=>?_
 generalize hh:(⟨(hp.m.set hp.nx (some (.cells zB 6 tN 6))).set hp.nx (some (.cells (fill zB 0 ws) 6 tN 6)),hp.nx+1⟩:Hp)=hp1
 have ab:hp1.nx=hp.nx+1:=by rw[<-hh]
 have u:∀j,j≠hp.nx->hp1.m.get j=hp.m.get j:=fun j hj=>by rw[<-hh];show((hp.m.set hp.nx _).set hp.nx _).get j=_;rw[T.get_set,bC1 hj,T.get_set,bC1 hj]
 have g7:hp1.m.get hp.nx=some (.cells (fill zB 0 ws) 6 tN 6):=by rw[<-hh];show((hp.m.set hp.nx _).set hp.nx _).get hp.nx=_;rw[T.get_set,bC3 rfl]
 have E:FH F hp1:=fun q b h=>⟨by rw[u q (by have:=(I.fh q b h).2;omega)];exact(I.fh q b h).1,by have:=(I.fh q b h).2;omega⟩
 obtain⟨hp3,y,F3,S,r1,Q,R,r4,r5,r6,U,r8,r9,n⟩:=ih s (bB1 hs) hp1 ws F z (Y.mono I.fle) E
 have N:=r8.one U
 have w:hp3.m.get i=some (.cells cs (t.c.length*6) tN 6):=by rw[R i (by omega),u i (by omega)];exact I.arr
 have M:k*6+6<=t.c.length*6:=by have:(k+1)*6<=t.c.length*6:=bB4 _ hk;omega
 refine p_R8 (k0:=k) h6 (by rw[A 5 (by omega) (by omega) (by omega),o 5 (by omega)];exact I.t5) hk h7 g7 (loadN_fill z) (by rw[A 1 (by omega) (by omega) (by omega),o 1 (by omega)];exact I.t1) r1 Q U N w M fun V x3=>?_
 have xx:∀q,q<23->q≠6->q≠7->V.get q=tm.get q:=fun q h1 h2 h3=>by rw[x3 q (by omega),A q (by omega) h2 h3,o q (by omega)]
 refine p_R9 (k0:=k) (by rw[x3 23 (by omega),A 23 (by omega) (by omega) (by omega),o 23 (by omega)];exact I.t23) (by omega) fun W x4 C=>⟨fill cs (k*6) y,F3,Ss++ [S],?_⟩
 have p:∀q,q<23->q≠6->q≠7->W.get q=tm.get q:=fun q h1 h2 h3=>(x4 q h1).trans (xx q h1 h2 h3)
 have ac:=Q.nx
 have ad:=I.kp.nx
 have st:∀j,j≠i->(hp3.m.set i (some (.cells (fill cs (k*6) y) (t.c.length*6) tN 6))).get j=hp3.m.get j:=fun j hj=>by rw[T.get_set,bC1 hj]
 have win:∀j,j≠k-> ∀q,q<6->at6 (fill cs (k*6) y) (j*6) q=at6 cs (j*6) q:=fun j hj q hq=>by
  unfold at6
  rw[j3,bC1]
  rw[U]
  rintro ⟨a,b⟩
  rcases Nat.lt_or_gt_of_ne hj with h|h
  ·have:(j+1)*6<=k*6:=bB4 _ h;omega
  ·have:(k+1)*6<=j*6:=bB4 _ h;omega
 have f:(Ss++ [S]).flatten=Ss.flatten++S:=by simp
 refine⟨by rw[p 1 (by omega) (by omega) (by omega)];exact I.t1,by rw[p 2 (by omega) (by omega) (by omega)];exact I.t2,by rw[p 4 (by omega) (by omega) (by omega)];exact I.t4,by rw[p 5 (by omega) (by omega) (by omega)];exact I.t5,by rw[p 21 (by omega) (by omega) (by omega)];exact I.t21,by rw[p 22 (by omega) (by omega) (by omega)];exact I.t22,by rw[C];rfl,?_,fun j h1 h2=>?_,?_,by rw[bC8,I.sl];rfl,fun j s' S' l d=>?_,?_,fun q hq=>?_,fun q b h=>?_,fun q b h=>r4 _ _ (I.fle q b h),fun q b h=>?_⟩
 ·refine I.kp.trans ⟨by show hp.nx<=hp3.nx;omega,fun r hr h=>?_⟩
  show(hp3.m.set i _).get r=_
  rw[st r (fun e=>by rw[e,I.arr]at h;cases h)]
  exact Q.dfr r (by omega) (by rw[u r (by omega)];exact h)
 ·show(hp3.m.set i _).get j=_
  rw[st j h2,R j (by omega),u j (by omega)]
  exact I.old j h1 h2
 ·show(hp3.m.set i _).get i=_
  rw[T.get_set,bC3 rfl]
 ·by_cases hj:j<k
  ·rw[bB0 (by rw[I.sl];exact hj)]at d
   refine(((I.done j s' S' l d).mono r4).frame fun q hq=>?_).win (win j (by omega))
   obtain⟨q1,q2⟩:=I.lt q (mem_flat d hq)
   show(hp3.m.set i _).get q=_
   rw[st q (by omega),R q (by omega),u q (by omega)]
  ·have x:j<(Ss++ [S]).length:=(bA4.1 d).1
   rw[bC8,I.sl]at x
   have L:j=k:=by simp only[bE4,bJ8]at x;omega
   subst L
   rw[hs]at l
   cases l
   have eS:S'=S:=by
    rw[bA9 (by rw[I.sl];exact bC4 _),I.sl,bJ7]at d
    simpa using d.symm
   subst eS
   refine(r8.frame fun q hq=>?_).win fun q hq=>?_
   ·show(hp3.m.set i _).get q=_
    exact st q (by have:=(n q hq).1;omega)
   ·show(fill cs (j*6) y).get (j*6+q)=y[q]?
    rw[j3,bC3 ⟨by omega,by omega⟩]
    congr 1
    omega
 ·rw[f]
  refine List.nodup_append.2 ⟨I.nd,r9,fun a ha b hb=>?_⟩
  have:=(I.lt a ha).2
  have:=(n b hb).1
  omega
 ·rw[f]at hq
  rcases bD8.1 hq with hq|hq
  ·have:=I.lt q hq
   exact⟨this.1,by show q<hp3.nx;omega⟩
  ·have:=n q hq
   exact⟨by omega,this.2⟩
 ·refine⟨?_,(r5 q b h).2⟩
  show(hp3.m.set i _).get q=_
  rw[st q]
  ·exact(r5 q b h).1
  ·rintro rfl
   rcases(r6 q b h).2 with h|h
   ·exact v b h
   ·omega
 ·rw[f]
  obtain⟨k1,k2⟩:=r6 q b h
  refine⟨fun hq=>?_,?_⟩
  ·rcases bD8.1 hq with hq|hq
   ·rcases k2 with k2|k2
    ·exact(I.fz q b k2).1 hq
    ·have:=(I.lt q hq).2;omega
   ·exact k1 hq
  ·rcases k2 with k2|k2
   ·exact(I.fz q b k2).2
   ·exact .inr (by omega)
theorem c_loop (st : ∀ (k : Nat) (tm : T Value) (hp : Hp) (cs : T Value) (F : FB) (Ss : List (List Nat)), Ic hp2 t F0 ib ir i vo k tm hp cs F Ss → k < t.c.length → YN PR ov 38 pL tm hp fun tm' hp' => ∃ cs' F'   a, Ic hp2 t F0 ib ir i vo (k + 1) tm' hp' cs' F'   a) :
  ∀(d k:Nat) (tm:T Value) (hp:Hp) (cs:T Value) (F:FB) (Ss:List (List Nat)),k+d=t.c.length->Ic hp2 t F0 ib ir i vo k tm hp cs F Ss-> ∃tm' hp' cs' F' a,XK PR ov 38 (.loop pL) tm hp (.exit 0) tm' hp'/\Ic hp2 t F0 ib ir i vo t.c.length tm' hp' cs' F' a
 |0,k,tm,hp,cs,F,Ss,hk,I=>by
  have h3:=p_R6 (ov:=ov) (hp:=hp) (Q:=fun tm1 hp1=>hp1=hp/\(∀x,x≠24->tm1.get x=tm.get x)/\tm1.get 24=some (.bool (decide ((k:Int)<(t.c.length:Int))))) I.t22 I.t23 fun tm1 b h=>⟨rfl,b,h⟩
  obtain⟨tm1,hp1,j,rfl,b,h⟩:=h3
  rw[bH5 (by omega)]at h
  refine⟨tm1,hp1,cs,F,Ss,.loopX ?_ (by simp),?_⟩
  ·rw[p_l0]
   exact j.seq (.seqX (.condF (ev_t h) .exit) (by simp))
  ·rw[show k=t.c.length by omega]at I
   exact⟨by rw[b 1 (by omega)];exact I.t1,by rw[b 2 (by omega)];exact I.t2,by rw[b 4 (by omega)];exact I.t4,by rw[b 5 (by omega)];exact I.t5,by rw[b 21 (by omega)];exact I.t21,by rw[b 22 (by omega)];exact I.t22,by rw[b 23 (by omega)];exact I.t23,I.kp,I.old,I.arr,I.sl,I.done,I.nd,I.lt,I.fh,I.fle,I.fz⟩
 |d+1,k,tm,hp,cs,F,Ss,hk,I=>by
  obtain⟨tm1,hp1,j,f,F1,e,l⟩:=st k tm hp cs F Ss I (by omega)
  obtain⟨tm',hp',cs',F',a,m,I2⟩:=c_loop st d (k+1) tm1 hp1 f F1 e (by omega) l
  exact⟨tm',hp',cs',F',a,j.loopN m,I2⟩
end
end Go.D
