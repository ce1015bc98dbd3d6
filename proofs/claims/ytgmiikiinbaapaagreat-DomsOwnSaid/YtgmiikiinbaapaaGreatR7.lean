/- The reference's DOM: the conditions of Move and Insert hold.
  Conditions: none. -/
import Derived.Test.YtgmiikiinbaapaaGreatR6
set_option linter.all false
noncomputable section
namespace Go.D
open Go Go.Xe Go.Sx
section
variable {D :DM}{L F L' F':Sx.Rows}{i g x y:Int}{K a c d p k:Nat}{cs cs':Ak}{s:Sl}{c0 c1 c2 c3 c4 c5 c6 c7:Int}
def Rf.opt (h:Rf D L F cs)(w:WF D K):(v9 L x y=true->D.opt x y=some x)/\(x=0->y=0->D.opt x y=some (-1))/\(¬v9 L x y=true-> ¬(x=0/\y=0)->D.opt x y=Option.none):=by unfold DM.opt;refine⟨fun hv=>?_,fun b e=>by rw[PG ⟨b,e⟩],fun hv hn=>by rw[PE hn,h.none hv]⟩;obtain⟨c,s,h1,h2,_⟩:=h.spot hv;have:=(w.u32 h1).2.2;rw[PE (by omega),h1,h2]
def WF.par_iff {sp b:Sl}(w:WF D K)(hp:D.L[p]? =some sp)(up:sp.used=true)(hc:D.L[c]? =some b)(f:b.used=true):c∈sp.n.ch↔b.n.par=p:=by
 refine⟨fun h=>?_,fun h=>?_⟩;obtain⟨s,k1,k2,k3⟩:=(w.ch p sp hp up).2 c h;rw[hc]at k1;cases k1;exact k3
 ·rcases w.par c b hc f with e| ⟨q,j,e,k1,k2,k3⟩;omega
  ·have:q=p:=by omega
   subst this;rw[hp]at k1;cases k1;exact k3
def vcRmv_ok :vcRmv:=by
 unfold vcRmv;intro L F c0 c1 c2 c3 c4 c5 c6 c7 i g x y h;obtain⟨hi,hg,hx,hy,hp⟩:=h;have hp':=hp;obtain⟨D,K,b,w⟩:=hp;have hl:=b.len w;refine eD ⟨hi,hg,hl⟩ (eD ⟨hi,hg,hl⟩ (eD ⟨hx,hy,hl⟩ ?_));by_cases hv:v9 L i g=true
 ·rw[PG hv];obtain⟨c,s,h1,h2,h3,h4,v,M,A,N,O,t,hb⟩:=b.spot hv;have E:¬i<0:=by omega
  have par:∀ {D K},Rf D L F [c0,c1,c2,c3,c4,c5,c6,c7]->WF D K-> ¬cI L i 9<0-> ∃(c p:Nat) (s sp:Sl),D.at i g=some c/\i=c/\D.L[c]? =some s/\s.used=true/\D.nod c=s.n/\s.n.par=p/\D.L[p]? =some sp/\sp.used=true/\p≠c/\D.nod p=sp.n/\cI L i 9=p/\(p:Int)<ln L/\cL L p 10=sp.n.ch.map A5/\c∈sp.n.ch:=fun{D K} b w hk=>by obtain⟨c,s,h1,h2,h3,h4,v,M,A,N,O,t,_⟩:=b.spot hv;obtain⟨p,sp,e,k1,k2,k3,k4,k5⟩:=DM.par_of w h3 h4 (by rw[<-t];omega);obtain⟨V,W,q3,q4,Z⟩:=b.cells k1 k2;exact⟨c,p,s,sp,h1,h2,h3,h4,v,e,k1,k2,k4,Rt k1,by rw[t,e],V,Z,k3⟩
  have o:∀r:Int,(∀ {D K},Rf D L F [c0,c1,c2,c3,c4,c5,c6,c7]->WF D K->D.opt x y=some r)->(r<0\/(v9 L x y=true/\r=x))->
    (cI L i 9<0->vcRmv1 L F c0 c1 c2 c3 c4 c5 c6 c7 i g x y)/\
    (¬cI L i 9<0->(r=i->vcRmv2 L F c0 c1 c2 c3 c4 c5 c6 c7 i g x y)/\
     (¬r=i->(¬r<0-> ¬cI L r 9=cI L i 9->vcRmv2 L F c0 c1 c2 c3 c4 c5 c6 c7 i g x y)/\
      ((¬r<0->cI L r 9=cI L i 9)->Sx.Nd (L9 (.lst L::.lst F::J8 c0 c1 c2 c3 c4 c5 c6 c7 [])) (vcRmv3 L F c0 c1 c2 c3 c4 c5 c6 c7 i r i g x y)))):=by
   intro r C hr;have mem:∀ {D:DM} {K p:Nat} {sp:Sl},Rf D L F [c0,c1,c2,c3,c4,c5,c6,c7]->WF D K->D.L[p]? =some sp->sp.used=true-> ¬r<0->(r.toNat∈sp.n.ch↔cI L r 9=p):=fun{D K p sp} b w hp up hn=>by rcases hr with hr| ⟨hr,rfl⟩;exact absurd hr hn;obtain⟨c,s,h1,h2,h3,h4,v,M,A,N,O,t,_⟩:=b.spot hr;rw[t,show r.toNat=c by omega];exact w.par_iff hp up h3 h4
   refine⟨fun hk=>?_,fun hk=>⟨fun e=>?_,fun e=>⟨fun hn f=>?_,fun P=>?_⟩⟩⟩;unfold vcRmv1;refine ndt (B7 fun D K b w=>?_);obtain⟨c,s,h1,h2,h3,h4,v,M,A,N,O,t,_⟩:=b.spot hv;unfold aZ;rw[h1,C b w];simp only;rw[t]at hk;rw[v,PG (by rcases w.par c s h3 h4 with e| ⟨p,sp,e,_⟩<;>omega)];exact⟨rfl,rfl⟩;unfold vcRmv2;refine ndt (B7 fun D K b w=>?_);obtain⟨c,p,s,sp,p1,p2,p3,p4,G,S,_⟩:=par b w hk;unfold aZ;rw[p1,C b w];simp only;rw[G,PE (by omega),PG (.inl (by omega))];exact⟨rfl,rfl⟩;unfold vcRmv2;refine ndt (B7 fun D K b w=>?_);obtain⟨c,p,s,sp,p1,p2,p3,p4,G,S,H,I,p9,pa,T,_⟩:=par b w hk;unfold aZ;rw[p1,C b w];simp only;rw[G,S,PE (by omega),Qd,pa,PG (.inr ⟨by omega,fun m=>f (by rw[T];exact(mem b w H I hn).1 m)⟩)];exact⟨rfl,rfl⟩
   ·refine ndi hp' ?_;unfold vcRmv3;intro L1 F1 d0 d1 d2 d3 d4 d5 d6 d7 Q;obtain⟨rfl,rfl,rfl,rfl,rfl,rfl,rfl,rfl,rfl,rfl⟩:=Q;obtain⟨c,p,s,sp,p1,p2,p3,p4,G,S,H,I,p9,pa,T,U,pd,pe⟩:=par b w hk;rw[T];have m0:¬(p:Int)<0:=by omega
    have j:gM [.lst (cL L1 p 10),.int i]:=⟨sp.n.ch,c,pd,p2,w.kidlen H I⟩
    refine ndi m0<|ndi U<|ndi j fun X hX=>?_;have eX:=hX sp.n.ch c pd p2;have lw:(J0 sp.n.ch c).length<=1000:=by have:(J0 sp.n.ch c).length<=sp.n.ch.length:=List.length_filter_le ..;have:=w.kidlen H I;omega
    refine ndi ⟨_,c,eX,p2,lw⟩ fun Y hY=>ndi m0<|ndi U<|ndi U<|ndi (w.i64 (k:=5) (by rw[<-b.2.2];rfl))<|nin<|nrn<|ndt fun D K b w=>?_;obtain⟨c,q,s,sp,V,W,q3,q4,Z,q6,q7,q8,q9,qa,qb,qc,qd,qe⟩:=par b w hk;have e2:q=p:=by omega
    show Rf (aZ D i g x y).1 _ _ _/\(0:Int)=(aZ D i g x y).2;unfold aZ;rw[V,C b w];simp only;have B:¬(r=(c:Int)\/(0<=r/\r.toNat∉sp.n.ch)):=by rintro (h| ⟨h,hm⟩);exact e (by omega);exact hm ((mem b w q7 q8 (by omega)).2 (by rw[P (by omega),qb]))
    rw[Z,q6,PE (by omega),Qd,qa,PE B,<-e2];have hc:=rf_C (k:=5) (p:=q) (c:=c) (l:=Q7 (J0 sp.n.ch c) c r) (z:=q) b;have eX:=hX sp.n.ch c (by rw[<-e2];exact qd) W;have eY:=hY _ c eX W;obtain⟨rfl,rfl,_⟩:=b;refine⟨⟨?_,rfl,hc⟩,rfl⟩;rw[eY,S9 (q:=fun n=> {n with ch:=Q7 (J0 sp.n.ch c) c r}) q7 q8 rfl];show _=(((D.setN q fun n=> {n with ch:=Q7 (J0 sp.n.ch c) c r}).setN c fun n=> {n with par:=(q:Int)}).L).map Sl.row;rw[MU (D:=D.setN q _) (c:=c) (s:=s) (by rw[Hy q9];exact q3) (by rw[<-q6])]
  refine⟨fun h=>absurd h E,fun _=>⟨fun h=>absurd h E,fun _=>?_⟩⟩;by_cases j:v9 L x y=true
  ·rw[PG j];obtain⟨c',s',k1,k2,k3,k4,k5,k6,k7,_⟩:=b.spot j;obtain⟨R,u⟩:=o x (fun b w=>(b.opt w).1 j) (.inr ⟨j,rfl⟩);have x0:¬x<0:=by omega
   exact⟨fun h=>absurd h x0,fun _=>ndi E (ndi A ⟨R,fun hk=>⟨(u hk).1,fun f=>ndi x0 (ndi x0 (ndi k7 ⟨fun e=>((u hk).2 f).2 fun _=>e,fun e=>((u hk).2 f).1 x0 e⟩))⟩⟩)⟩
  ·rw[PE j];have bad:¬(x=0/\y=0)->vcRmv0 L F c0 c1 c2 c3 c4 c5 c6 c7 i g x y:=fun hn=>by unfold vcRmv0;refine ndt (B7 fun D K b w=>?_);obtain⟨c,s,h1,_⟩:=b.spot hv;unfold aZ;rw[h1,(b.opt w).2.2 j hn];exact⟨rfl,rfl⟩
   refine⟨fun _=>⟨fun ex=>⟨fun J=>?_,fun J=>bad fun h=>J h.2⟩,fun ex=>bad fun h=>ex h.1⟩,fun h=>absurd (by decide) h⟩;obtain⟨R,u⟩:=o (-1) (fun b w=>(b.opt w).2.1 ex J) (.inl (by decide));exact ndi E (ndi A ⟨R,fun hk=>⟨(u hk).1,fun f=>ndi (by decide) (((u hk).2 f).2 fun h=>absurd (by decide) h)⟩⟩)
 ·have bad:vcRmv0 L F c0 c1 c2 c3 c4 c5 c6 c7 i g x y:=by unfold vcRmv0;refine ndt (B7 fun D K b w=>?_);unfold aZ;rw[b.none hv];exact⟨rfl,rfl⟩
  rw[PE hv];exact⟨fun _=>bad,fun h=>absurd (by decide) h⟩
def Iq (w:WF D K){r:Nat->Nat}(hr:∀(i:Nat) s,D.L[i]? =some s->s.used=true-> ∀j∈s.n.ch,r i<r j):∀(n:Nat) {c:Nat} {s:Sl},D.L[c]? =some s->s.used=true->r c<=n-> ∀f b,n+1<f->n+1<b->qF (D.L.map Sl.row) f c=qF (D.L.map Sl.row) b c:=by
 intro n;induction n using Nat.strongRecOn with
 |ind n o=>
  intro c s hs h hn f b hf l;obtain⟨f,rfl⟩:∃k,f=k+1:=⟨f-1,by omega⟩
  obtain⟨b,rfl⟩:∃k,b=k+1:=⟨b-1,by omega⟩
  unfold qF;rw[PE (by omega),PE (by omega),(Rf.cells ⟨rfl,rfl,rfl⟩ hs h).2.2.2.1];rcases w.par c s hs h with e| ⟨p,sp,e,k1,k2,k3⟩
  ·rw[e];have:∀m,0<m->qF (D.L.map Sl.row) m (-1)=0:=fun m hm=>by
    obtain⟨m,rfl⟩:∃k,m=k+1:=⟨m-1,by omega⟩
    unfold qF;simp
   rw[this f (by omega),this b (by omega)]
  have:=hr p sp k1 k2 c k3;rw[e,o (r p) (by omega) k1 k2 (PH _) f b (by omega) (by omega)]
def Ir (w:WF D K)(hs:D.L[c]? =some s)(b:s.used=true):qF (D.L.map Sl.row) 1002 s.n.par<qF (D.L.map Sl.row) 1002 c:=by
 obtain⟨r,r1,e⟩:=w.rank;have:=w.lim;have:=r1 c;rw[Iq w e (r c) hs b (PH _) 1002 1003 (by omega) (by omega)]
 conv=>rhs;unfold qF
 rw[PE (by omega),(Rf.cells ⟨rfl,rfl,rfl⟩ hs b).2.2.2.1];exact Qw _
def vcRns_ok :vcRns:=by
 unfold vcRns;intro L F c0 c1 c2 c3 c4 c5 c6 c7 i g j m x y h;obtain⟨hi,hg,hj,hm,hx,hy,hp⟩:=h;have hp':=hp;obtain⟨D,K,f,w⟩:=hp;have hl:=f.len w;refine eD ⟨hi,hg,hl⟩ (eD ⟨hj,hm,hl⟩ (eD ⟨hx,hy,hl⟩ ?_));have bad:(¬v9 L i g=true\/ ¬v9 L j m=true\/(¬v9 L x y=true/\ ¬(x=0/\y=0)))->vcRns0 L F c0 c1 c2 c3 c4 c5 c6 c7 i g j m x y:=fun hb=>by
  unfold vcRns0;refine ndt (B7 fun D K f w=>?_);have:D.at i g=none\/D.at j m=none\/D.opt x y=none:=by rcases hb with h|h|h;exact .inl (f.none h);exact .inr (.inl (f.none h));exact .inr (.inr ((f.opt w).2.2 h.1 h.2))
  unfold bX;split;rename_i B J Z;rw[B,J,Z]at this;simp at this;exact⟨rfl,rfl⟩
 by_cases hv:v9 L i g=true
 ·by_cases R:v9 L j m=true
  ·rw[PG hv,PG R];obtain⟨p,sp,h1,h2,h3,h4,h5,h6,M,h8,h9,ha,hb⟩:=f.spot hv;obtain⟨c,t,k1,k2,k3,k4,k5,k6,k7,k8,k9,ka,kb⟩:=f.spot R;have T:¬i<0:=by omega
   have m0:¬j<0:=by omega
   have mod:∀ {r:Int},(∀ {D K},Rf D L F [c0,c1,c2,c3,c4,c5,c6,c7]->WF D K->D.opt x y=some r)-> ∀ {D K},Rf D L F [c0,c1,c2,c3,c4,c5,c6,c7]->WF D K-> ∃(p c:Nat) (sp t:Sl),i=p/\j=c/\D.L[p]? =some sp/\sp.used=true/\D.L[c]? =some t/\t.used=true/\cI L i 2=sp.n.kind/\cI L j 9=t.n.par/\cL L i 10=sp.n.ch.map A5/\
     ((cI L i 2≠1->bX D i g j m x y=(D,1))/\(cI L i 2=1->(t.n.par≠ -1\/Abv D c p->bX D i g j m x y=(D,10))/\(t.n.par= -1-> ¬Abv D c p->(0<=r/\r.toNat∉sp.n.ch->bX D i g j m x y=(D,1))/\(¬(0<=r/\r.toNat∉sp.n.ch)->bX D i g j m x y=(D.kids p c (Q7 sp.n.ch c r) p 3,0))))):=fun{r} ho {D K} f w=>by
    obtain⟨p,sp,h1,h2,h3,h4,h5,h6,M,h8,h9,ha,hb⟩:=f.spot hv;obtain⟨c,t,k1,k2,k3,k4,k5,k6,k7,k8,k9,ka,kb⟩:=f.spot R;refine⟨p,c,sp,t,h2,k2,h3,h4,k3,k4,h8,ka,hb,fun e=>?_,fun e=>⟨fun B=>?_,fun B J=>⟨fun Z=>?_,fun Z=>?_⟩⟩⟩;all_goals
     unfold bX;rw[h1,k1,ho f w];simp only;rw[h5,k5,<-h8]
    rw[PG e];rw[PE (by simp[e]),PG B];rw[PE (by simp[e]),PE (by rw[not_or];exact⟨by simp[B],J⟩),PG Z];rw[PE (by simp[e]),PE (by rw[not_or];exact⟨by simp[B],J⟩),PE Z]
   have G:∀r:Int,(∀ {D K},Rf D L F [c0,c1,c2,c3,c4,c5,c6,c7]->WF D K->D.opt x y=some r)->
     (cI L i 2≠1->vcRns4 L F c0 c1 c2 c3 c4 c5 c6 c7 i g j m x y)/\
     (cI L i 2=1->Sx.Nd (fI [.lst L,.int i,.int j] [.int i]) (∀k,fI [.lst L,.int i,.int j] [.int k]->
      (¬k<0->vcRns3 k j L F c0 c1 c2 c3 c4 c5 c6 c7 i g j m x y i)/\
      (k<0->(¬cI L j 9<0->vcRns2 L F c0 c1 c2 c3 c4 c5 c6 c7 i g j m x y)/\
       (cI L j 9<0->tX [.lst (cL L i 10),.int r]\/r<0)/\
       (cI L j 9<0->(0<=r/\(∀l:Ah,cL L i 10=l.map A5->r.toNat∉l)->vcRns4 L F c0 c1 c2 c3 c4 c5 c6 c7 i g j m x y)/\
        ((0<=r-> ∀l:Ah,cL L i 10=l.map A5->r.toNat∈l)->Sx.Nd (L9 (.lst L::.lst F::J8 c0 c1 c2 c3 c4 c5 c6 c7 [])) (vcRns1 L F c0 c1 c2 c3 c4 c5 c6 c7 i j r i g j m x y)))))):=by
    intro r ho;have mod:=fun{D K}=> @mod r ho D K;refine⟨fun e=>?_,fun e=>ndi (fun D K hL w q d B J hs=>?_) fun k hI=>⟨fun hk=>?_,fun hk=>⟨fun hc=>?_,fun hc=>?_,fun hc=>⟨fun hr=>?_,fun hr=>ndi hp' ?_⟩⟩⟩⟩;unfold vcRns4;refine ndt (B7 fun D K f w=>?_);obtain⟨_,_,_,_,_,_,_,_,_,_,_,_,_,q,_⟩:=mod f w;rw[q e];exact⟨rfl,rfl⟩;obtain⟨s,s1,s2⟩:=hs;exact .inr ⟨q,s,B,s1,s2,Iff.rfl⟩
    ·unfold vcRns3;have inv:=fun{D K p c} (hL:L=D.L.map Sl.row) (w:WF D K) (h1:i=((p:Nat):Int)) (h2:j=((c:Nat):Int)) (h3:∃s,D.L[p]? =some s/\s.used=true)=>(hI D K hL w p c h1 h2 h3).resolve_left fun h=>hk (by omega);obtain⟨b,s,H,A,I,Y⟩:=inv f.1 w h2 k2 ⟨sp,h3,h4⟩;refine⟨fun ab=>?_,fun ab=>ndi hk (ndi ?_ (ndi (fun D K hL w q d B J hs=>?_) (ndt ?_)))⟩
     ·unfold vcRns2;refine ndt (B7 fun D K f w=>?_);obtain⟨p,c,sp,t,v,o,O,P,U,V,q7,q8,W,_,Q⟩:=mod f w;obtain⟨b,s,H,A,I,Y⟩:=inv f.1 w v o ⟨sp,O,P⟩;have:b=c:=by omega
      subst this;rw[(Q e).1 (.inr (Y.2 .here))];exact⟨rfl,rfl⟩
     rw[H];exact(f.cells A I).1
     ·obtain⟨b,s,H,A,I,Y⟩:=inv hL w B J hs;have cc:=Rf.cells (F:=_) (cs:=_) ⟨hL,rfl,rfl⟩ A I;rw[H,cc.2.2.2.1];have E:d≠b:=fun h=>ab (by omega);rcases w.par b s A I with e'| ⟨q',sq,e',t1,t2,t3⟩;refine .inl ⟨e',fun C=>?_⟩;rcases(Y.1 C).inv with h| ⟨q',s',t1,t2,_⟩;exact E h;rw[A]at t1;cases t1;omega
      ·refine .inr ⟨q',sq,e',t1,t2,Y.trans ⟨fun C=>?_,fun C=>.up _ _ _ A e' C⟩⟩;rcases C.inv with h| ⟨o,s',u1,u2,u3⟩;exact absurd h E
       ·rw[A]at u1;cases u1;have:o=q':=by omega
        subst this;exact u3
     show qF L 1002 (cI L k 9)<qF L 1002 k;rw[H,(f.cells A I).2.2.2.1,f.1];exact Ir w A I
    unfold vcRns2;refine ndt (B7 fun D K f w=>?_);obtain⟨p,c,sp,t,v,o,O,P,U,V,q7,q8,W,_,Q⟩:=mod f w;rw[(Q e).1 (.inl (by omega))];exact⟨rfl,rfl⟩;by_cases h0:r<0;exact .inr h0;exact .inl ⟨sp.n.ch,r.toNat,hb,by omega,w.kidlen h3 h4⟩
    ·unfold vcRns4;refine ndt (B7 fun D K f w=>?_);obtain⟨p,c,sp,t,v,o,O,P,U,V,q7,q8,W,_,Q⟩:=mod f w;have C:¬Abv D c p:=by rcases hI D K f.1 w p c v o ⟨sp,O,P⟩with h| ⟨b,s,H,_⟩;exact h.2;omega
     have u:t.n.par= -1:=by rcases w.par c t U V with e| ⟨q,sq,e,_⟩<;>omega
     rw[((Q e).2 u C).1 ⟨hr.1,hr.2 _ W⟩];exact⟨rfl,rfl⟩
    ·unfold vcRns1;intro L1 F1 d0 d1 d2 d3 d4 d5 d6 d7 ac;obtain⟨rfl,rfl,rfl,rfl,rfl,rfl,rfl,rfl,rfl,rfl⟩:=ac;refine ndi T<|ndi M<|ndi ⟨sp.n.ch,c,hb,k2,w.kidlen h3 h4⟩ fun X hX=>ndi T<|ndi M<|ndi M<|ndi m0<|ndi k7<|ndi k7<|ndi (w.i64 (k:=3) (by rw[<-f.2.2];rfl))<|nin<|nrn<|ndt fun D K f w=>?_;obtain⟨p,c,sp,t,v,o,O,P,U,V,q7,q8,W,_,Q⟩:=mod f w;have C:¬Abv D c p:=by rcases hI D K f.1 w p c v o ⟨sp,O,P⟩with h| ⟨b,s,H,_⟩;exact h.2;omega
     have u:t.n.par= -1:=by rcases w.par c t U V with e| ⟨q,sq,e,_⟩<;>omega
     have eX:=hX sp.n.ch c W o;have E:p≠c:=by rintro rfl;exact C .here
     have hC:=rf_C (k:=3) (p:=p) (c:=c) (l:=Q7 sp.n.ch c r) (z:=p) f;show Rf (bX D i g j m x y).1 _ _ _/\(0:Int)=(bX D i g j m x y).2;rw[((Q e).2 u C).2 fun h=>h.2 (hr h.1 _ W)];obtain⟨rfl,rfl,_⟩:=f;rw[v,o];exact⟨⟨Hn eX O P U V E,rfl,hC⟩,rfl⟩
   refine⟨fun h=>absurd h T,fun _=>⟨fun h=>absurd h m0,fun _=>?_⟩⟩;by_cases S:v9 L x y=true
   ·rw[PG S];obtain⟨c',s',t1,t2,t3,t4,t5,t6,t7,_⟩:=f.spot S;obtain⟨m1,N⟩:=G x fun f w=>(f.opt w).1 S;have x0:¬x<0:=by omega
    refine⟨fun h=>absurd h x0,fun _=>ndi T (ndi M ⟨fun e=>⟨(N e).1,fun _ k hI=>?_⟩,m1⟩)⟩;obtain⟨v,o⟩:=(N e).2 (N e).1 k hI;refine⟨fun hk=>ndi m0 (ndi k7 ⟨fun hc=>?_,(o hk).1⟩),v⟩;obtain⟨_,p2,p3⟩:=o hk;refine ndi x0 (ndi T (ndi M (ndi ((p2 hc).resolve_right x0) fun r hr=>⟨fun h=>(p3 hc).1 ⟨by omega,fun l e=>(hr l x.toNat e (by omega)).1 h⟩,fun h=>(p3 hc).2 fun _ l e=>Classical.not_not.1 fun hn=>h ((hr l x.toNat e (by omega)).2 hn)⟩)))
   rw[PE S];refine⟨fun _=>⟨fun ex=>⟨fun ey=>?_,fun ey=>bad (.inr (.inr ⟨S,fun h=>ey h.2⟩))⟩,fun ex=>bad (.inr (.inr ⟨S,fun h=>ex h.1⟩))⟩,fun h=>absurd (by decide) h⟩;obtain⟨m1,N⟩:=G (-1) fun f w=>(f.opt w).2.1 ex ey;refine ndi T (ndi M ⟨fun e=>⟨(N e).1,fun _ k hI=>?_⟩,m1⟩);obtain⟨v,o⟩:=(N e).2 (N e).1 k hI;exact⟨fun hk=>ndi m0 (ndi k7 ⟨fun hc=>ndi (by decide) (((o hk).2.2 hc).2 fun h=>absurd h (by decide)),(o hk).1⟩),v⟩
  rw[PE R];by_cases aa:(if v9 L i g=true then i else-1)<0;exact⟨fun _=>bad (.inr (.inl R)),fun h=>absurd aa h⟩;exact⟨fun h=>absurd h aa,fun _=>⟨fun _=>bad (.inr (.inl R)),fun h=>absurd (by decide) h⟩⟩
 rw[PE hv];exact⟨fun _=>bad (.inl hv),fun h=>absurd (by decide) h⟩
