/- keep: a round of its second loop, in the executor.
  Conditions: none. -/
import Derived.Test.YtcjhhnoaoldcmaaM9
set_option linter.unusedVariables false
set_option linter.unusedSimpArgs false
noncomputable section
namespace Go.D
open Go Go.Xe Go.Sx
open Go.C36 (row)
theorem len5 {α:Type}{l:List α}(h:l.length=5):∃a b c d e,l=[a,b,c,d,e]:=by
 match l,h with
 | [a,b,c,d,e],_=>exact⟨a,b,c,d,e,rfl⟩
theorem len6 {α:Type}{l:List α}(h:l.length=6):∃a b c d e f,l=[a,b,c,d,e,f]:=by
 match l,h with
 | [a,b,c,d,e,f],_=>exact⟨a,b,c,d,e,f,rfl⟩
theorem len10 {α:Type}{l:List α}(h:l.length=10):∃a b c d e f g i j k,l=[a,b,c,d,e,f,g,i,j,k]:=by
 match l,h with
 | [a,b,c,d,e,f,g,i,j,k],_=>exact⟨a,b,c,d,e,f,g,i,j,k,rfl⟩
theorem vat {τ:Tau}{F:FB}{l:List SV}{xs:List Value}(h:VDL PR U0 τ F l xs){i:Nat}{a:SV}{x:Value}(b:l[i]? =some a)(hx:xs[i]? =some x):VD PR U0 τ F a x:=h.2 i a x b hx
variable {tm:T Value}
theorem got {k:Nat}{v:Value}(h:(tm.get k).getD undef=v)(a:v≠undef):tm.get k=some v:=by
 cases hk:tm.get k with
 |none=>rw[hk]at h;exact absurd h.symm a
 |some w=>rw[hk]at h;exact congrArg some h
variable {ov :FuncId->Option TypeId}
theorem kr_use (hR : ∀ tm, M4 PR U0 cKr (PmT tpKr tm) (PcX PR ov ntKr (pcKr (f5 PR kF)) otKr 6 tm)) {F : FB} {hp : Hp} {iw ow N : Nat} {t : Tree} {L : Sx.Rows} {cs : T Value} {io : Option Nat} (W : Win F hp iw ow N t L cs io)  {M C : Sx.Rows} {vm vo : Value} {n i : Int}
  (h1:tm.get 1=some (.pointer (some ⟨iw,ow,none⟩))) (h4:tm.get 4=some vm) (bl:PV PR F (.sl 3) vm (.lst M)) (av:tm.get 45=some vo) (bm:PV PR F (.sl tN) vo (.lst C)) (aw:tm.get 46=some (.int .i64 n)) (ax:tm.get 47=some (.int .i64 i)) (ai:krPre (krD M C L n i t)):
  ∃tm' hp' cs' F' L' J K g,XK PR ov 69 (pcKr (f5 PR kF)) tm hp .normal tm' hp'/\krRel (krD M C L n i t) (krD M C L' n i t)/\Win F' hp' iw ow N t L' cs' g/\Fle F F'/\tm'.get 1=some (.pointer (some ⟨iw,ow,none⟩))/\tm'.get 4=some J/\PV PR F' (.sl 3) J (.lst M)/\tm'.get 45=some K/\PV PR F' (.sl tN) K (.lst C)/\
   tm'.get 46=some (.int .i64 n)/\tm'.get 47=some (.int .i64 i)/\(∀j,j<ow\/ow+6<=j->cs'.get j=cs.get j)/\(∀j,j<hp.nx->j≠iw->io≠some j->hp'.m.get j=hp.m.get j)/\(∀q b,F' q=some b->F q=some b\/hp.nx<=q\/io=some q)/\(∀q,g=some q->hp.nx<=q\/io=some q):=by
 obtain⟨p,hp1,hp2,hs⟩:=kr_sd W M C n i
 have hx:VDL PR U0 (krT iw ow p) F [.ptr 0 6 (.int 0) 0,.lst 3 (.dat 0 (.lst M)) false,.lst tN (.dat 1 (.lst C)) false,.int .i64 (.dat 2 (.int n)),.int .i64 (.dat 3 (.int i))] [.pointer (some ⟨iw,ow,none⟩),vm,vo,.int .i64 n,.int .i64 i]:=by
  refine .cons ?_ (.cons (.lst _ _ _ _ bl (fun h=>by cases h)) (.cons (.lst _ _ _ _ bm (fun h=>by cases h)) (.cons (.int _ _) (.cons (.int _ _) VDL.nil))))
  have:=VD.ptr (P:=PR) (U:=U0) (τ:=krT iw ow p) (F:=F) 0 6 (.int 0) 0 iw ow rfl (by decide)
  have e:ow+(E.int 0).toN U0*6+0=ow:=by show ow+0*6+0=ow;omega
  rwa[e]at this
 have bi:PmT tpKr tm [.pointer (some ⟨iw,ow,none⟩),vm,vo,.int .i64 n,.int .i64 i]:=fun j k x hk hx=>by
  match j,hk,hx with
  |0,hk,hx=>cases hk;cases hx;exact h1
  |1,hk,hx=>cases hk;cases hx;exact h4
  |2,hk,hx=>cases hk;cases hx;exact av
  |3,hk,hx=>cases hk;cases hx;exact aw
  |4,hk,hx=>cases hk;cases hx;exact ax
  |j+5,hk,hx=>simp at hx
 obtain⟨v,τ',F',s',hp',vs,aa,ar,aq,nw,O,⟨⟨tm',xk,hv⟩,pw⟩,ex,s,bn,bc,V,ay,S,D,ba,bu,ac,ad,ah,G⟩:=hR tm (krE M C L n i t) rfl ai _ F hp _ hs hx bi
 have hn:nw=[]:=List.length_eq_zero_iff.1 (by have:nw.length+1=1:=ah;omega)
 subst hn
 obtain⟨H,rfl⟩:∃b,O=[b]:=by
  match O,ad with
  | [b],_=>exact⟨b,rfl⟩
 obtain⟨e0,e1,e2,e3,e4,e5,e6,e7,e8,z,rfl⟩:=len10 (show aq.length=10 from S.len)
 have G:krRel (krD M C L n i t) [.lst (e0.toR U0),.lst (e1.toR U0),.int (e2.toI U0),.int (e3.toI U0),.int (e4.toI U0),.str (e5.den U0).toStr,.str (e6.den U0).toStr,.lst (e7.toR U0),.str (e8.den U0).toStr,.lst (z.toR U0)]:=G
 have hr:=G
 obtain⟨r0,r1,r2,r3,r4,r5,r6,r7,r8,r9⟩:=hr
 have τ0:τ' 0=some (some (iw,ow)):=ex.st 0 (by show 0<2;omega)
 let τ2:Tau:=fun b=>match b with
  |0=>τ' 0
  |1=>τ' H
  |_=>none
 have a:VDL PR U0 τ2 F' [.ptr 0 6 (.int 0) 0,.lst 3 (.dat 0 (.lst (e0.toR U0))) false,.lst tN (.dat 1 (.lst (e1.toR U0))) false,.int .i64 (.dat 2 (.int (e2.toI U0))),.int .i64 (.dat 3 (.int (e3.toI U0))),.int .u8 (.dat 4 (.int (e4.toI U0))),.str (.dat 5 (.str (e5.den U0).toStr)),.str (.dat 6 (.str (e6.den U0).toStr)),.lst tAt (.dat 7 (.lst (e7.toR U0))) false,.str (.dat 8 (.str (e8.den U0).toStr)),.sl 1 6 (.int 0) (i9 (.dat 9 (.lst (z.toR U0)))) .un] (aa++ar):=
  Y5.vals (τ2:=τ2) (num:=idN) (nb:=1) S (q9 (g8 cKr.outL) 0 _ rfl) (fun j b h=>by
   match j,h with
   |0,h=>cases h;rfl
   |j+1,h=>
    have h:([0]:List Nat)[j+1]? =some b:=h
    simp at h) (fun k b h=>by
   match k,h with
   |0,h=>cases h;rfl
   |k+1,h=>simp at h) bn
 obtain⟨a0,a1,a2,a3,a4,rfl⟩:=len5 (show aa.length=5 from bc)
 obtain⟨g0,ys,rfl,be,⟨bv,bw,cs',n',q1,q2,q3,q4⟩,rfl⟩:=ay
 obtain⟨c0,c1,c2,c3,c4,c5,rfl⟩:=len6 (show g0.length=6 from be)
 rw[τ0]at q1
 cases q1
 rw[bI5]at a
 have bk:=V τ2 F' [.ptr 0 6 (.int 0) 0,.lst 3 (.dat 0 (.lst (e0.toR U0))) false,.lst tN (.dat 1 (.lst (e1.toR U0))) false,.int .i64 (.dat 2 (.int (e2.toI U0))),.int .i64 (.dat 3 (.int (e3.toI U0)))] [] (.cons (vat a (i:=0) rfl rfl) (.cons (vat a (i:=1) rfl rfl) (.cons (vat a (i:=2) rfl rfl) (.cons (vat a (i:=3) rfl rfl) (.cons (vat a (i:=4) rfl rfl) VDL.nil)))))
 have Y:VD PR U0 τ2 F' (.tup [.ptr 0 6 (.int 0) 0,.lst 3 (.dat 0 (.lst (e0.toR U0))) false,.lst tN (.dat 1 (.lst (e1.toR U0))) false,.int .i64 (.dat 2 (.int (e2.toI U0))),.int .i64 (.dat 3 (.int (e3.toI U0)))]) (.tuple [(tm'.get 1).getD undef,(tm'.get 4).getD undef,(tm'.get 45).getD undef,(tm'.get 46).getD undef,(tm'.get 47).getD undef].toArray):=by
  have e:v= .tuple [(tm'.get 1).getD undef,(tm'.get 4).getD undef,(tm'.get 45).getD undef,(tm'.get 46).getD undef,(tm'.get 47).getD undef].toArray:=hv
  rw[<-e];exact bk
 generalize hT: [(tm'.get 1).getD undef,(tm'.get 4).getD undef,(tm'.get 45).getD undef,(tm'.get 46).getD undef,(tm'.get 47).getD undef]=TL at Y
 have B:VDL PR U0 τ2 F' [.ptr 0 6 (.int 0) 0,.lst 3 (.dat 0 (.lst (e0.toR U0))) false,.lst tN (.dat 1 (.lst (e1.toR U0))) false,.int .i64 (.dat 2 (.int (e2.toI U0))),.int .i64 (.dat 3 (.int (e3.toI U0)))] TL:=by
  generalize hA:TL.toArray=A at Y
  cases Y with
  |tup l xs k1 k2=>
   have:TL=xs:=by simpa using congrArg Array.toList hA
   rw[this];exact⟨k1,k2⟩
 subst hT
 have t1:tm'.get 1=some (.pointer (some ⟨iw,ow,none⟩)):=by
  have h:=vat B (i:=0) rfl rfl
  generalize hu:(tm'.get 1).getD undef=u at h
  cases h with
  |ptr _ _ _ _ Q o' k k0=>
   have k:τ' 0=some (some (Q,o')):=k
   rw[τ0]at k
   cases k
   have e:ow+(E.int 0).toN U0*6+0=ow:=by show ow+0*6+0=ow;omega
   rw[e]at hu
   exact got hu (by unfold undef;simp)
 have tl:∀ {k:Nat} {e:TypeId} {d:Nat} {R:Sx.Rows},VD PR U0 τ2 F' (.lst e (.dat d (.lst R)) false) ((tm'.get k).getD undef)-> ∃u,tm'.get k=some u/\PV PR F' (.sl e) u (.lst R):=by
  intro k e d R h
  generalize hu:(tm'.get k).getD undef=u at h
  cases h with
  |lst _ _ _ _ r _=>
   refine⟨u,got hu ?_,r⟩
   rintro rfl
   have r:PV PR F' (.sl e) (.tuple #[]) (.lst R):=r
   cases r
 have ti:∀ {k:Nat} {d:Nat} {x:Int},VD PR U0 τ2 F' (.int .i64 (.dat d (.int x))) ((tm'.get k).getD undef)->tm'.get k=some (.int .i64 x):=by
  intro k d x h
  generalize hu:(tm'.get k).getD undef=u at h
  cases h
  exact got hu (by unfold undef;simp)
 obtain⟨J,t4,m4⟩:=tl (vat B (i:=1) rfl rfl)
 obtain⟨K,t45,ak⟩:=tl (vat B (i:=2) rfl rfl)
 have t46:=ti (vat B (i:=3) rfl rfl)
 have t47:=ti (vat B (i:=4) rfl rfl)
 rw[r0]at m4
 rw[r1]at ak
 rw[r2]at t46
 rw[r3]at t47
 have ab:F' iw=none:=by
  obtain⟨x,Z⟩:=D 0 (show(0:Nat)∈([0]:List Nat)from by simp)
  rcases s.live 0 x Z with⟨Q,o',y,k1,k2,k3,_⟩| ⟨k1,_⟩
  ·rw[τ0]at k1;cases k1;exact k3
  ·rw[τ0]at k1;cases k1
 obtain⟨bt,k1,k2⟩:=pw iw ow cs N _ _ rfl W.w
 rw[q2]at k1
 simp only[bA1,Blk.cells.injEq,bG8]at k1
 obtain⟨rfl,rfl,_⟩:=k1
 have bb:Hd F' t (at6 cs' ow):=by
  have w0:=vat a (i:=5) rfl rfl
  have w1:=vat a (i:=6) rfl rfl
  have w2:=vat a (i:=7) rfl rfl
  have w3:=vat a (i:=8) rfl rfl
  have w4:=vat a (i:=9) rfl rfl
  refine⟨?_,?_,?_,⟨c3,q4 3 c3 rfl,?_⟩,?_⟩
  ·show cs'.get (ow+0)=_
   rw[q4 0 c0 rfl]
   cases w0
   show some (Value.int .u8 (e4.toI U0))=_
   rw[r4]
  ·show cs'.get (ow+1)=_
   rw[q4 1 c1 rfl]
   cases w1
   show some (Value.string ⟨((e5.den U0).toStr).toArray⟩)=_
   rw[r5]
  ·show cs'.get (ow+2)=_
   rw[q4 2 c2 rfl]
   cases w2
   show some (Value.string ⟨((e6.den U0).toStr).toArray⟩)=_
   rw[r6]
  ·cases w3 with
   |lst _ _ _ _ r _=>rw[<-r7];exact r
  ·show cs'.get (ow+4)=_
   rw[q4 4 c4 rfl]
   cases w4
   show some (Value.string ⟨((e8.den U0).toStr).toArray⟩)=_
   rw[r8]
 obtain⟨l,bq,al,ao,ap,_⟩:=ex.hh
 have aj:∀(b j o:Nat),τ' b=some (some (j,o))->hp.nx<=j\/j=iw\/io=some j:=by
  intro b j o h
  have old:∀(b:Nat) (x:n5) (j o:Nat),(krS M C L n i t).get b=some x->krT iw ow p b=some (some (j,o))->j=iw\/io=some j:=by
   intro b x j o hb h
   rcases krS_some hb with rfl|rfl
   ·cases h;exact .inl rfl
   ·have h:some p=some (some (j,o)):=h
    cases h
    exact .inr (hp1 _ _ rfl)
  by_cases hb:2<=b
  ·rcases ao b j o hb h with q| ⟨b0,x,o0,q1,q2,_⟩
   ·exact .inl q
   ·exact .inr (old b0 x j o0 q1 q2)
  ·have bj:=ex.st b (by show b<2;omega)
   rw[bj]at h
   right
   match b,h with
   |0,h=>cases h;exact .inl rfl
   |1,h=>
    have h:some p=some (some (j,o)):=h
    cases h
    exact .inr (hp1 _ _ rfl)
   |b+2,h=>cases h
 have w5:=vat a (i:=10) rfl rfl
 obtain⟨kk,b',X,x',z1,z2,z3,z4,z5,_⟩:=S.blks (nb:=1) (q9 (g8 cKr.outL) 0 _ rfl) 1 (some (.rows (.dat 9 (.lst (z.toR U0))) tN 6 (i9 (.dat 9 (.lst (z.toR U0)))))) rfl
 have bh:kk=0:=by omega
 subst bh
 cases z2
 cases z3
 have eL:(i9 (.dat 9 (.lst (z.toR U0)))).toN U0=(z.toR U0).length:=by show((i9 (.dat 9 (.lst (z.toR U0)))).toI U0).toNat=_;rw[lenE_dat];rfl
 have h5:∃g,Own5 F' hp' iw (z.toR U0) c5 g/\ ∀q,g=some q->hp.nx<=q\/io=some q:=by
  rcases s.live H x' z4 with⟨Q,o',y,k1,bp,k3,k4⟩| ⟨k1,_⟩
  ·obtain⟨cq,nq,rfl,k5,_⟩:=z5 τ' o' y k4
   cases w5 with
   |sl _ _ _ _ _ i2 o2 c h h0 h1 hc=>
    have h:τ' H=some (some (i2,o2)):=h
    rw[k1]at h
    cases h
    have z:o'+(E.int 0).toN U0*6=o':=by show o'+0*6=o';omega
    have I:Q≠iw:=by
     obtain⟨x0,Z⟩:=D 0 (show(0:Nat)∈([0]:List Nat)from by simp)
     have az:H≠0:=by have:=ac H (by simp);intro e;rw[e]at this;exact absurd this (by decide)
     exact s.inj H 0 x' x0 Q o' iw ow z4 Z az k1 τ0
    refine⟨some Q,.inr ⟨Q,o',c,cq,nq,rfl,by rw[eL,z],?_,s.lt _ _ _ k1,I,k3,bp,k5⟩,fun q hq=>?_⟩
    ·rcases hc with⟨d1,d2,d3⟩| ⟨lo,d1,d2,d3⟩
     ·exact .inl ⟨d1,by rw[d2,eL],by rw[lenE_dat]at d3;omega⟩
     ·exact .inr ⟨lo,d1,d2,by rw[lenE_dat]at d3;omega⟩
    ·cases hq
     rcases aj H Q o' k1 with q|q|q
     ·exact .inl q
     ·exact absurd q I
     ·exact .inr q
   |sl0 _ _ _ _ _ h h0 h1 hc=>
    have h:τ' H=some none:=h
    rw[k1]at h;cases h
  ·cases w5 with
   |sl _ _ _ _ _ i2 o2 c h h0 h1 hc=>
    have h:τ' H=some (some (i2,o2)):=h
    rw[k1]at h;cases h
   |sl0 _ _ _ _ _ h h0 h1 hc=>
    rw[lenE_dat]at h1
    exact⟨none,.inl ⟨List.length_eq_zero_iff.1 (by omega),rfl,rfl⟩,fun q h=>by cases h⟩
 obtain⟨g,hO,bg⟩:=h5
 refine⟨tm',hp',cs',F',z.toR U0,J,K,g,xk,?_,⟨q2,W.wb,bF3 W.wl ex.nx,ab,bb,⟨c5,q4 5 c5 rfl,hO⟩,fun q b h=>⟨s.frz q b h,s.flt q b h⟩⟩,ex.f,t1,t4,m4,t45,ak,t46,t47,k2,fun j hj I ae=>?_,fun q b h=>?_,bg⟩
 ·exact⟨rfl,rfl,rfl,rfl,rfl,rfl,rfl,rfl,rfl,r9⟩
 ·refine al j hj fun b x o hb h _=>?_
  rcases krS_some (M:=M) (C:=C) (L:=L) (n:=n) (i:=i) (t:=t) (b:=b) (x:=x) hb with rfl|rfl
  ·cases h;exact I rfl
  ·have h:some p=some (some (j,o)):=h
   cases h
   exact ae (hp1 _ _ rfl)
 ·by_cases hlt:q<hp.nx
  ·rcases ap q b hlt h with h'| ⟨b0,o,au,_⟩
   ·exact .inl h'
   ·rcases aj b0 q o au with k|k|k
    ·omega
    ·rw[k,ab]at h;cases h
    ·exact .inr (.inr k)
  ·exact .inr (.inl (bH7 hlt))
end Go.D
