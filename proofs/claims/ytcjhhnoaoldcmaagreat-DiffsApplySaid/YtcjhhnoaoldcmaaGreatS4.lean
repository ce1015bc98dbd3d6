/- copied: a tree all of whose lists are its own (DiffsApply).
  Conditions: none. -/
import Derived.Test.YtcjhhnoaoldcmaaGreatS3
import Derived.Test.YtcjhhnoaoldcmaaGreatA5
set_option linter.all false
set_option maxRecDepth 10000
noncomputable section
namespace Go.D
open Go Go.Xe Go.Sx
open Go.C36 (row)
variable {ov :Aa}
def qB (ov:Aa)(f:Az)(xs:Af)(t:a8):Prop:=∀(hp:Hp) (vs:Af) (F0:FB),vs.length=6->RN F0 t (fun q=>vs[q]?)->FH F0 hp->
 ∃(hp':Hp) (ws:Af) (S:Ah),A4 PR ov f (.agg vs.toArray::xs) hp (.agg ws.toArray) hp'/\New hp hp'/\ws.length=6/\TB hp'.m.get S t (fun q=>ws[q]?)/\S.Nodup/\ ∀j∈S,hp.nx<=j/\j<hp'.nx
section
variable {hp2 :Hp}{t:a8}{F0:FB}{ib ir i:Nat}{vo:Aw}
structure Ic (hp2:Hp)(t:a8)(ib ir i:Nat)(vo:Aw)(k:Nat)(tm:Ao)(hp:Hp)(cs:Ao)(Ss:List (Ah)):Prop where
 t1:tm.get 1=some (.bool true)
 t2:tm.get 2=some (.pointer (some ⟨ib,0,none⟩))
 t4:tm.get 4=some (.pointer (some ⟨ir,0,none⟩))
 t5:tm.get 5=some (.slice (some ⟨i,0,none⟩) t.c.length t.c.length)
 t21:tm.get 21=some vo
 t22:tm.get 22=some (.int .i64 t.c.length)
 t23:tm.get 23=some (.int .i64 k)
 kp:l9 hp2 hp
 old:∀j,j<hp2.nx->j≠i->hp.m.get j=hp2.m.get j
 arr:hp.m.get i=some (.cells cs (t.c.length*6) tN 6)
 sl:Ss.length=k
 done:∀j s S,t.c[j]? =some s->Ss[j]? =some S->TB hp.m.get S s (at6 cs (j*6))
 nd:Ss.flatten.Nodup
 lt:∀q∈Ss.flatten,hp2.nx<=q/\q<hp.nx
variable {cs:Ao}{Ss:List (Ah)}
theorem Ic.fh {k:Nat}{tm:Ao}{hp:Hp}(I:Ic hp2 t ib ir i vo k tm hp cs Ss)(hF:FH F0 hp2)(a:F0 i=none):FH F0 hp:=fun q b h=>⟨by rw[I.old q (hF q b h).2 (by grind)];exact(hF q b h).1,by have:=(hF q b h).2;have:=I.kp.nx;omega⟩
theorem IL (hF:FH F0 hp2)(H:i<hp2.nx)(F:F0 i=none)(M:PV PR F0 (.sl tN) vo (.lst (rows t.c)))(V:t.c.length<=1000)(ih:∀s∈t.c,qB ov pF [.bool true] s){k:Nat}{tm:Ao}{hp:Hp}(I:Ic hp2 t ib ir i vo k tm hp cs Ss)(hk:k<t.c.length):YN PR ov 38 pL tm hp fun tm' hp'=>∃cs' C,Ic hp2 t ib ir i vo (k+1) tm' hp' cs' C:=by
 obtain⟨s,hs⟩:∃s,t.c[k]? =some s:=⟨_,JX hk⟩
 obtain⟨ic,oc,cc,Q,dc,nc,zc,ws,Z,e2,e3,e4,e5,A,R⟩:=EN M hs;have U:i<hp.nx:=KO H I.kp.nx;have l:=I.fh hF F;refine .seq (p_R6 I.t22 I.t23 fun tm1 u aa=>?_);refine .seq (.condT (qX (by grind)) (.skip (.seq (.block (.seq ?_)))));have G:hp.m.get ic=some Q:=(l ic Q e2).1;have N:ws.all Value.oneCell'=true:=R.one A;refine p_R7 (by rw[u 23 (by omega)];exact I.t23) (by rw[u 21 (by omega),I.t21,Z]) hk G e3 e4 e5 A N fun ae B h6 h7=>?_;generalize hh:(⟨(hp.m.set hp.nx (some (.cells zB 6 tN 6))).set hp.nx (some (.cells (fill zB 0 ws) 6 tN 6)),hp.nx+1⟩:Hp)=hp1;have ab:hp1.nx=hp.nx+1:=by rw[<-hh]
 have w:∀j,j≠hp.nx->hp1.m.get j=hp.m.get j:=fun j hj=>by rw[<-hh];rw[Mw,Kg hj,Mw,Kg hj]
 have g7:hp1.m.get hp.nx=some (.cells (fill zB 0 ws) 6 tN 6):=by rw[<-hh];rw[Mw,Ki rfl]
 have E:FH F0 hp1:=fun q b h=>⟨by rw[w q (by have:=(l q b h).2;omega)];exact(l q b h).1,by have:=(l q b h).2;omega⟩
 obtain⟨d,us,S,r1,p,W,X,r9,o⟩:=ih s (JV hs) hp1 ws F0 A R E;have L:=X.one W;have x:d.m.get i=some (.cells cs (t.c.length*6) tN 6):=by rw[p.old i (by omega),w i (by omega)];exact I.arr
 have K:k*6+6<=t.c.length*6:=by omega
 refine p_R8 h6 (by rw[B 5 (by omega) (by omega) (by omega),u 5 (by omega)];exact I.t5) hk h7 g7 (r0 A) (by rw[B 1 (by omega) (by omega) (by omega),u 1 (by omega)];exact I.t1) r1 p.keeps W L x K fun O Y=>?_;have xx:∀q,q<23->q≠6->q≠7->O.get q=tm.get q:=fun q h1 h2 h3=>by rw[Y q (by omega),B q (by omega) h2 h3,u q (by omega)]
 refine p_R9 (by rw[Y 23 (by omega),B 23 (by omega) (by omega) (by omega),u 23 (by omega)];exact I.t23) (by omega) fun P x4 D=>⟨fill cs (k*6) us,Ss++ [S],?_⟩
 have v:∀q,q<23->q≠6->q≠7->P.get q=tm.get q:=fun q h1 h2 h3=>(x4 q h1).trans (xx q h1 h2 h3);have ac:=p.nx;have ad:=I.kp.nx;have st:∀j,j≠i->(d.m.set i (some (.cells (fill cs (k*6) us) (t.c.length*6) tN 6))).get j=d.m.get j:=fun j hj=>by rw[Mw,Kg hj]
 have win:∀j,j≠k-> ∀q,q<6->at6 (fill cs (k*6) us) (j*6) q=at6 cs (j*6) q:=fun j hj q hq=>by
  unfold at6;rw[f6,Kg];rintro ⟨a,b⟩;rcases Nat.lt_or_gt_of_ne hj with h|h
  ·omega
  ·omega
 have y:(Ss++ [S]).flatten=Ss.flatten++S:=by simp
 refine⟨by rw[v 1 (by omega) (by omega) (by omega)];exact I.t1,by rw[v 2 (by omega) (by omega) (by omega)];exact I.t2,by rw[v 4 (by omega) (by omega) (by omega)];exact I.t4,by rw[v 5 (by omega) (by omega) (by omega)];exact I.t5,by rw[v 21 (by omega) (by omega) (by omega)];exact I.t21,by rw[v 22 (by omega) (by omega) (by omega)];exact I.t22,by rw[D];rfl,?_,fun j h1 h2=>?_,?_,by rw[Kn,I.sl];rfl,fun j s' S' n f=>?_,?_,fun q hq=>?_⟩
 ·refine I.kp.trans ⟨by show hp.nx<=d.nx;omega,fun r hr h=>?_⟩;rw[st r (fun e=>by rw[e,I.arr]at h;cases h),p.old r (by omega),w r (by omega)];exact h
 ·show(d.m.set i _).get j=_;rw[st j h2,p.old j (by omega),w j (by omega)];exact I.old j h1 h2
 ·show(d.m.set i _).get i=_;rw[Mw,Ki rfl]
 ·by_cases hj:j<k
  ·rw[JU (by rw[I.sl];exact hj)]at f;refine((I.done j s' S' n f).frame fun q hq=>?_).win (win j (by omega));obtain⟨q1,q2⟩:=I.lt q (I7 f hq);rw[st q (by omega),p.old q (by omega),w q (by omega)]
  ·have z:j<(Ss++ [S]).length:=(JO.1 f).1;rw[Kn,I.sl]at z;have J:j=k:=by simp only[KE,LP]at z;omega
   subst J;rw[hs]at n;cases n;have eS:S'=S:=by rw[JT (by rw[I.sl];exact Kj _),I.sl,Nat.sub_self]at f;simpa using f.symm
   subst eS;refine(X.frame fun q hq=>?_).win fun q hq=>?_
   ·show(d.m.set i _).get q=_;exact st q (by have:=(o q hq).1;omega)
   ·show(fill cs (j*6) us).get (j*6+q)=us[q]?;rw[f6,Ki ⟨by omega,by omega⟩];congr 1;omega
 ·rw[y];refine LS.2 ⟨I.nd,r9,fun a ha b hb=>?_⟩;have:=(I.lt a ha).2;have:=(o b hb).1;omega
 ·rw[y]at hq;rcases Kx.1 hq with hq|hq
  ·have:=I.lt q hq;exact⟨this.1,by show q<d.nx;omega⟩
  ·have:=o q hq;exact⟨by omega,this.2⟩
def CY (st:∀(k:Nat) (tm:Ao) (hp:Hp) (cs:Ao) (Ss:List (Ah)),Ic hp2 t ib ir i vo k tm hp cs Ss->k<t.c.length->YN PR ov 38 pL tm hp fun tm' hp'=>∃cs' a,Ic hp2 t ib ir i vo (k+1) tm' hp' cs' a):∀(d k:Nat) (tm:Ao) (hp:Hp) (cs:Ao) (Ss:List (Ah)),k+d=t.c.length->Ic hp2 t ib ir i vo k tm hp cs Ss-> ∃tm' hp' cs' a,XK PR ov 38 (.loop pL) tm hp (.exit 0) tm' hp'/\Ic hp2 t ib ir i vo t.c.length tm' hp' cs' a
 |0,k,tm,hp,cs,Ss,hk,I=>by
  obtain⟨tm1,hp1,j,rfl,b,h⟩:=p_R6 (ov:=ov) (Q:=fun tm1 hp1=>hp1=hp/\(∀x,x≠24->tm1.get x=tm.get x)/\tm1.get 24=some (.bool (decide ((k:Int)<(t.c.length:Int))))) I.t22 I.t23 fun tm1 b h=>⟨rfl,b,h⟩
  rw[Ll (by omega)]at h;refine⟨tm1,hp1,cs,Ss,.loopX ?_ (by simp),?_⟩
  ·rw[p_l0];exact j.seq (.seqX (.condF (qX h) .exit) (by simp))
  ·rw[show k=t.c.length by omega]at I;exact{I with t1:=by rw[b 1 (by omega)];exact I.t1,t2:=by rw[b 2 (by omega)];exact I.t2,t4:=by rw[b 4 (by omega)];exact I.t4,t5:=by rw[b 5 (by omega)];exact I.t5,t21:=by rw[b 21 (by omega)];exact I.t21,t22:=by rw[b 22 (by omega)];exact I.t22,t23:=by rw[b 23 (by omega)];exact I.t23}
 |d+1,k,tm,hp,cs,Ss,hk,I=>by obtain⟨tm1,hp1,j,f,e,l⟩:=st k tm hp cs Ss I (by omega);obtain⟨tm',hp',cs',a,n,m⟩:=CY st d (k+1) tm1 hp1 f e (by omega) l;exact⟨tm',hp',cs',a,j.loopN n,m⟩
end
variable {S:Ah}{t:a8}{g:Ad}
theorem TB.cells {H:FB}(k:TB H S t g):∀j∈S,∃cs n e z,H j=some (.cells cs n e z):=by
 induction k with
 |mk t g va vc ia ic oa oc ca cc Ss hf h3 h5 ha hac hc hl hb hba hk b=>
  intro j hj;rcases Kx.1 hj with hj|hj
  ·rcases ha with⟨_,rfl,_⟩| ⟨i,c,N,rfl,_,_,hH,_⟩
   ·grind
   ·grind
  rcases Kx.1 hj with hj|hj
  ·rcases hc with⟨_,rfl,_⟩| ⟨i,c,N,rfl,_,_,hH,_⟩
   ·grind
   ·grind
  obtain⟨S,a,hq⟩:=List.mem_flatten.1 hj;obtain⟨n,hn⟩:=LU a;have hlt:n<t.c.length:=by grind
  exact b n _ S (JX hlt) hn j hq
theorem TB.leave {hp1 hp2:Hp}(h:TB hp1.m.get S t g)(same:∀i,hp1.m.get i≠some .dfr->hp2.m.get i=hp1.m.get i):TB hp2.m.get S t g:=h.frame fun j hj=>same j (by obtain⟨c,n,e,z,h⟩:=h.cells j hj;rw[h];exact fun h=>by grind)
def New.leave {hp hp1 hp2:Hp}(h:New hp hp1)(hn:hp2.nx=hp1.nx)(same:∀i,hp1.m.get i≠some .dfr->hp2.m.get i=hp1.m.get i)(kp:l9 hp hp2):New hp hp2:=⟨by rw[hn];exact h.nx,fun j hj=>by
 by_cases e:hp1.m.get j=some .dfr
 ·rw[h.old j hj]at e;rw[e];exact kp.dfr j hj e
 ·rw[same j e];exact h.old j hj⟩
theorem tr (M:Go.Xe.isT (ov cF)=false)(N:Go.Xe.isT (ov lF)=false)(ha:t.a.length<=1000)(n:t.c.length<=1000)(ih:∀s∈t.c,qB ov pF [.bool true] s){hp:Hp}{vs:Af}{F0:FB}(h6:vs.length=6)(L:RN F0 t (fun q=>vs[q]?))(hF:FH F0 hp){tm0:Ao}(h0:tm0.get 0=some (.agg vs.toArray))(h1:tm0.get 1=some (.bool true)):YR ov 38 (D2 PR pF) tm0 hp fun tm' hp'=>∃(ws:Af) (S:Ah) (d:Ao),tm'.get 4=some (.pointer (some ⟨hp.nx+1,0,none⟩))/\hp'.m.get (hp.nx+1)=some (.cells d 6 tN 6)/\d6 d 0 6=some ws/\New hp hp'/\ws.length=6/\TB hp'.m.get S t (fun q=>ws[q]?)/\S.Nodup/\ ∀j∈S,hp.nx<=j/\j<hp'.nx:=by
 refine .seq (p_R0 h0 h1 h6 fun tm1 hp1 aa Z gb gr a1 a2 a4=>?_);refine .seq (p_R1 a1 fun ae W=>?_);have H:FH F0 hp1:=fun q b h=>⟨by rw[Z q (hF q b h).2];exact(hF q b h).1,by have:=(hF q b h).2;omega⟩
 obtain⟨hd,vc,p,o⟩:=L;obtain⟨c0,c1,c2,⟨va,c3,C⟩,c4⟩:=hd;obtain⟨qo,co,rfl⟩:=N5 o;have O:(rows t.c).length=t.c.length:=by simp[rows]
 rw[O]at p o;refine .seq (p_R3 M N (by grind) gb (by omega) (show(fill .e 0 vs).get 3=_ from d7.trans c3) C H ha fun r hp2 V io ct X ab o2 gA oA aA Q=>?_);have t1:r.get 1=some (.bool true):=by rw[X 1 (by omega),W 1 (by omega)];exact a1
 have t2:r.get 2=some (.pointer (some ⟨hp.nx,0,none⟩)):=by rw[X 2 (by omega),W 2 (by omega)];exact a2
 have t4:r.get 4=some (.pointer (some ⟨hp.nx+1,0,none⟩)):=by rw[X 4 (by omega),W 4 (by omega)];exact a4
 have cell:∀q,q≠3->(fill (fill .e 0 vs) 3 [V]).get q=vs[q]? :=fun q hq=>by rw[f6,Kg (by simp;omega),d7]
 refine .seq (p_R4 t2 gA ((cell 5 (by omega)).trans p) n fun ah A t5=>?_);generalize hh:(⟨hp2.m.set hp2.nx (some (.cells (fill .e 0 (xrep t.c.length zN.cells.toList)) (t.c.length*6) tN 6)),hp2.nx+1⟩:Hp)=f;have ac:f.nx=hp2.nx+1:=by rw[<-hh]
 have w:∀j,j≠hp2.nx->f.m.get j=hp2.m.get j:=fun j hj=>by rw[<-hh];rw[Mw,Kg hj]
 have gi:f.m.get hp2.nx=some (.cells (fill .e 0 (xrep t.c.length zN.cells.toList)) (t.c.length*6) tN 6):=by rw[<-hh];rw[Mw,Ki rfl]
 have u:f.m.get hp.nx=some (.cells (fill (fill .e 0 vs) 3 [V]) 6 tN 6):=(w _ (by omega)).trans gA;have o3:∀j,j<hp.nx->f.m.get j=hp.m.get j:=fun j hj=>by rw[w j (by omega),o2 j (by omega) (by omega),Z j hj]
 refine .seq (.seq (p_R5 (by rw[A 2 (by omega)];exact t2) u ((cell 5 (by omega)).trans p) fun v B t21 t22 t23=>?_));have I:Ic f t hp.nx (hp.nx+1) hp2.nx (.slice qo t.c.length co) 0 v f (fill .e 0 (xrep t.c.length zN.cells.toList)) []:=
  ⟨by rw[B 1 (by omega),A 1 (by omega)];exact t1,by rw[B 2 (by omega),A 2 (by omega)];exact t2,by rw[B 4 (by omega),A 4 (by omega)];exact t4,by rw[B 5 (by omega)];exact t5,t21,t22,t23,.refl _,fun _ _ _=>rfl,gi,rfl,fun j s S _ h=>by simp at h,List.nodup_nil,fun q h=>by simp at h⟩
 have J:FH F0 f:=fun q b h=>⟨by rw[o3 q (hF q b h).2];exact(hF q b h).1,by have:=(hF q b h).2;omega⟩
 have K:F0 hp2.nx=none:=by
  cases h:F0 hp2.nx with
  |none=>rfl|some b=>have:=(hF _ _ h).2;omega
 obtain⟨U,l,D,Ss,xL,I4⟩:=CY (fun k tm hp' cs Ss I hk=>IL J (by omega) K o n ih I hk) t.c.length 0 v f _ [] (Ks _) I;refine⟨U,l,xL.blockX,?_⟩;have ad:=I4.kp.nx;have F:=(I4.old hp.nx (by omega) (by omega)).trans u;have G:l.m.get (hp.nx+1)=some (.cells zB 6 tN 6):=by rw[I4.old _ (by omega) (by omega),w _ (by omega),o2 _ (by omega) (by omega)];exact gr
 refine .seq (p_R10 I4.t2 F I4.t5 fun ai Y=>?_);let ws:Af:=[.int .u8 t.k,.string ⟨t.t.toArray⟩,.string ⟨t.y.toArray⟩,V,.string ⟨t.x.toArray⟩,.slice (some ⟨hp2.nx,0,none⟩) t.c.length t.c.length]
 obtain⟨R,E,rfl⟩:=oA.sl;have P:ws.all Value.oneCell'=true:=rfl;have hl:d6 (fill (fill (fill .e 0 vs) 3 [.slice R t.a.length E]) 5 [.slice (some ⟨hp2.nx,0,none⟩) t.c.length t.c.length]) 0 6=some ws:=by
  have:=i8 (c:=fill (fill (fill .e 0 vs) 3 [.slice R t.a.length E]) 5 [.slice (some ⟨hp2.nx,0,none⟩) t.c.length t.c.length]) (vs:=ws) (fun q hq=>by
   rw[f6,Ks]
   match q,hq with
   |0,_=>rw[Kg (by simp),cell 0 (by omega)];exact c0|1,_=>rw[Kg (by simp),cell 1 (by omega)];exact c1|2,_=>rw[Kg (by simp),cell 2 (by omega)];exact c2|3,_=>rw[Kg (by simp),f6,Ki (by simp)];rfl|4,_=>rw[Kg (by simp),cell 4 (by omega)];exact c4|5,_=>rfl)
  exact this
 refine .seq (p_R11 (by rw[Y 2 (by omega)];exact I4.t2) (by rw[Mw,Ki rfl]) hl rfl P (by rw[Y 4 (by omega)];exact I4.t4) (by rw[Mw,Kg (by omega)];exact G) fun aj x8=>.ret ?_);generalize hm:((l.m.set hp.nx (some (.cells (fill (fill (fill .e 0 vs) 3 [.slice R t.a.length E]) 5 [.slice (some ⟨hp2.nx,0,none⟩) t.c.length t.c.length]) 6 tN 6))).set (hp.nx+1) (some (.cells (fill zB 0 ws) 6 tN 6)))=m;have z:∀j,j≠hp.nx->j≠hp.nx+1->m.get j=l.m.get j:=fun j h1 h2=>by rw[<-hm,Mw,Kg h2,Mw,Kg h1]
 refine⟨ws,io.toList++([hp2.nx]++Ss.flatten),fill zB 0 ws,by rw[x8 4 (by omega),Y 4 (by omega)];exact I4.t4,by rw[<-hm,Mw,Ki rfl],r0 rfl,⟨by show hp.nx<=l.nx;omega,fun j hj=>?_⟩,rfl,?_,?_,fun j hj=>?_⟩
 ·show m.get j=_;rw[z j (by omega) (by omega),I4.old j (by omega) (by omega),o3 j hj]
 ·refine .mk t _ _ _ io (some hp2.nx) 0 0 ct D Ss ⟨rfl,rfl,rfl,rfl⟩ rfl rfl (oA.frame fun j hj=>?_) aA (.inr ⟨hp2.nx,_,t.c.length*6,rfl,rfl,.inl ⟨by unfold unk;omega,rfl,by omega⟩,?_,by omega⟩) I4.sl n ha fun j s S hs hS=>?_
  ·have:=Q j hj;rw[z _ (by omega) (by omega),I4.old j (by omega) (by omega),w j (by omega)]
  ·show m.get hp2.nx=_;rw[z _ (by omega) (by omega)];exact I4.arr
  ·rw[Ks];refine(I4.done j s S hs hS).frame fun q hq=>?_;have:=(I4.lt q (I7 hS hq)).1;exact z q (by omega) (by omega)
 ·refine LS.2 ⟨by cases io<;>simp,LS.2 ⟨by simp,I4.nd,fun a h b hb e=>?_⟩,fun a h b hb e=>?_⟩
  ·have:a=hp2.nx:=by simpa using h
   have:=(I4.lt b hb).1;omega
  ·have:=Q a h;rcases Kx.1 hb with hb|hb
   ·have:b=hp2.nx:=by simpa using hb
    omega
   ·have:=(I4.lt b hb).1;omega
 ·show hp.nx<=j/\j<l.nx;rcases Kx.1 hj with h|h
  ·have:=Q j h;omega
  rcases Kx.1 h with h|h
  ·have:j=hp2.nx:=by simpa using h
   omega
  ·have:=I4.lt j h;omega
theorem pk (o:Go.Xe.isT (ov pF)=false)(f:Go.Xe.isT (ov cF)=false)(h:Go.Xe.isT (ov lF)=false):∀(d:Nat) (t:a8),t.size<=d->fV t->qB ov pF [.bool true] t
 |0,t,hd,_=>by have:=nC t;omega|d+1,t,hd,n=>by
  intro hp vs F0 v k hF;have y:∀s∈t.c,qB ov pF [.bool true] s:=fun s hs=>pk o f h d s (by
   rw[P0]at hd;obtain⟨a,b,e⟩:=List.append_of_mem hs;have u:t.c=(a++ [s])++b:=by grind
   rw[u,L2,L2,pP]at hd;omega) (by
   obtain⟨j,hj⟩:=LU hs;exact aH ((B6 t).1 n).2 hj)
  have w:=gT ((B6 t).1 n).1;obtain⟨tm',hp1,x,ws,S,r,t4,gr,hl,nw,l,tb,nd,lt⟩:=tr f h (by omega) (by omega) y v k hF (tm0:=fill .e 0 [.agg vs.toArray,.bool true]) rfl rfl;obtain⟨ws,hp',hp2,⟨S,nw,l,tb,nd,lt⟩,z,A,p,B⟩:=uM p_fn rfl rfl (by kernel_rfl) o rfl (R:=fun ws hp'=>∃S,New hp hp'/\ws.length=6/\TB hp'.m.get S t (fun q=>ws[q]?)/\S.Nodup/\ ∀j∈S,hp.nx<=j/\j<hp'.nx) ⟨tm',hp1,x,ws,_,r,t4,gr,hl,S,nw,l,tb,nd,lt⟩;exact⟨hp2,ws,S,z,nw.leave A p B,l,tb.leave p,nd,fun j hj=>by grind⟩
end Go.D
