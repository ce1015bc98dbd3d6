/- The reference's DOM: the conditions of Below, Tree and Free hold.
  Conditions: none. -/
import Derived.Test.YtgmiikiinbaapaaGreatU3
set_option linter.all false
noncomputable section
namespace Go.D
open Go Go.Xe Go.Sx
section
variable {D :DM}{L F:Sx.Rows}{K c b:Nat}{s:Sl}
def zE (w:WF D K):∀ {f c:Nat},D.Us c->HS (D.L.map Sl.row) f c=(bel D f c).length
 |0,_,_=>rfl|f+1,c,⟨s,hs,a⟩=>by unfold HS bel;rw[(Rf.cells ⟨rfl,rfl,rfl⟩ hs a).2.2.2.2,Rt hs,Qf,List.length_flatMap,List.map_map,Nat.add_comm];congr 2;refine List.map_congr_left fun j hj=>?_;obtain⟨sj,h1,h2,_⟩:=(w.ch c s hs a).2 j hj;exact zE w ⟨sj,h1,h2⟩
def GL (w:WF D K)(hs:D.L[c]? =some s)(a:s.used=true):(bel D 1001 c).length<=1000:=by have:=W5 (K8 (f:=1001) w hs a) fun b hb=>(P0 w hs a b hb).2;have:=List.countP_le_length (p:=fun s:Sl=>s.used) (l:=D.L);have:=w.lim;omega
def Cr (w:WF D K)(hs:D.L[c]? =some s)(a:s.used=true){k:Nat}(hb:s.n.ch[k]? =some b):(c::(s.n.ch.take k).flatMap (bel D 1001)).length+(bel D 1001 b).length<=(bel D 1001 c).length/\c::(s.n.ch.take (k+1)).flatMap (bel D 1001)=(c::(s.n.ch.take k).flatMap (bel D 1001))++bel D 1001 b/\D.Us b:=by
 have ht:(s.n.ch.take (k+1)).flatMap (bel D 1001)=(s.n.ch.take k).flatMap (bel D 1001)++bel D 1001 b:=by rw[I5 hb];simp
 refine⟨?_,by rw[ht];rfl,?_⟩
 ·rw[aO w hs a]
  conv=>rhs;rw[<-Ra (k+1) s.n.ch,List.flatMap_append,ht]
  simp only[Qf,PL];omega
 obtain⟨d,h1,h2,_⟩:=(w.ch c s hs a).2 b (Pv hb);exact⟨d,h1,h2⟩
def P1 (hL:L=D.L.map Sl.row)(hs:D.L[c]? =some s)(a:s.used=true):(c:Int)<ln L/\cI L c 2=s.n.kind/\cL L c 4=s.n.atts.map Att.row/\cI L c 9=s.n.par/\cL L c 10=s.n.ch.map A5/\cS L c 3=s.n.tag/\cS L c 5=s.n.text/\cI L c 0=s.g:=by
 subst hL;obtain⟨h1,h2,h3,h4,d⟩:=Rf.cells (D:=D) (F:=D.free.map A5) (cs:=D.C) ⟨rfl,rfl,rfl⟩ hs a;have hc:D.L[((c:Nat):Int).toNat]? =some s:=by rw[Qd];exact hs
 refine⟨h1,h2,h3,h4,d,?_⟩;simp only[cI,cS,i4 hc];unfold Sl.row;rw[PG a];exact⟨rfl,rfl,rfl⟩
def vcRbel_ok (n:Nat):vcRbel n:=by
 unfold vcRbel;rintro L F c0 p q r t u v x i ⟨⟨D,K,c,l,w,rfl,s,hs,a⟩,hm⟩;have hL:=l.1;obtain⟨m,_,_,_,j,_⟩:=P1 hL hs a;have o:¬(c:Int)<0:=by omega
 have hm:HS L 1001 c<n+1:=hm;rw[hL,zE w ⟨s,hs,a⟩]at hm;have M:=GL w hs a;refine ndi ⟨by omega,fun D K c' s _ _ e hs a=>⟨by omega,by rw[show c'=c by omega];rfl⟩⟩ fun k O hI=>?_;obtain⟨k0,hI⟩:=hI;obtain⟨k1,B⟩:=hI D K c s hL w rfl hs a;have C:ln (cL L c 10)=(s.n.ch.length:Int):=by rw[j];simp[ln]
 have N:ln O=((c::(s.n.ch.take k.toNat).flatMap (bel D 1001)).length:Int):=by rw[B];simp[ln]
 rw[C];refine ndi o<|ndi m ⟨fun hk=>?_,fun hk=>nin<|nrn<|ndt fun D K c' hL w e hs=>?_⟩
 ·obtain⟨b,hb⟩:=Sx.get_at (T:=s.n.ch) k0 hk;obtain⟨t1,t2,t3⟩:=Cr w hs a hb;have z:cI (cL L c 10) k 0=b:=by rw[j];exact cI_il hb
  rw[z];have G:nW [.lst L,.lst F,.int c0,.int p,.int q,.int r,.int t,.int u,.int v,.int x,.int b]<n:=by show HS L 1001 b<n;rw[hL,zE w t3];simp only[Qf]at t1;omega
  refine ndi o<|ndi m<|ndi (by omega)<|ndi hk<|ndi ⟨⟨D,K,b,l,w,rfl,t3⟩,G⟩ fun R f=>?_;have y:=f D K b hL w rfl t3;have P:ln R=((bel D 1001 b).length:Int):=by rw[y];simp[ln]
  refine nin<|ndi (by omega)<|nrn<|ndi (by unfold I64;have:=w.kidlen hs a;omega)<|nin<|nrn<|ndi ⟨by omega,fun D K c' s hL w e hs a=>?_⟩<|ndt ?_
  ·obtain⟨H,h⟩:=hI D K c' s hL w e hs a;obtain⟨_,_,_,_,d,_⟩:=P1 hL hs a;rw[<-e]at d;have E:(s.n.ch.length:Int)=ln (cL L c 10):=by rw[d];simp[ln]
   obtain⟨b',g⟩:=Sx.get_at (T:=s.n.ch) k0 (by omega);have A:cI (cL L c 10) k 0=b':=by rw[d];exact cI_il g
   have:b'=b:=by omega
   subst this;obtain⟨_,I,J⟩:=Cr w hs a g;refine⟨by omega,?_⟩;rw[show(k+1).toNat=k.toNat+1 by omega,I,Qj,<-h,f D K b' hL w rfl J]
  ·show((cL L c 10).length-(k+1)).toNat<((cL L c 10).length-k).toNat;have:(cL L c 10).length=s.n.ch.length:=by rw[j];simp
   omega
 ·obtain⟨s,hs,a⟩:=hs;obtain⟨H,h⟩:=hI D K c' s hL w e hs a;obtain⟨_,_,_,_,d,_⟩:=P1 hL hs a;rw[<-e]at d;have E:(s.n.ch.length:Int)=ln (cL L c 10):=by rw[d];simp[ln]
  rw[Ql (by omega)]at h;rw[h,aO w hs a]
def vcRtre_ok (n:Nat):vcRtre n:=by
 unfold vcRtre;rintro L F c0 M N P Q R S U i m ⟨⟨m0,m6,D,K,c,G,w,rfl,s,hs,d⟩,hm⟩;have hm:m.toNat<n+1:=hm;have hL:=G.1;obtain⟨Z,l2,l3,l4,l5,l6,l7,_⟩:=P1 hL hs d;have n0:¬(c:Int)<0:=by omega
 have B:∀ {D:DM} {K} {c':Nat} {s:Sl},L=D.L.map Sl.row->WF D K->(c:Int)=c'->D.L[c']? =some s->s.used=true->ln (cL L c 10)=(s.n.ch.length:Int):=fun h1 _ h2 h3 h4=>by obtain⟨_,_,_,_,f,_⟩:=P1 h1 h3 h4;rw[h2,f];simp[ln]
 have t0:m=0\/16<ln (cL L c 10)->vcRtre0 n L F c0 M N P Q R S U c m:=fun hz=>by
  unfold vcRtre0;refine ndt fun D K c' hL w e hs=>?_;obtain⟨s,hs,d⟩:=hs;have:cX D m.toNat c'=HH:=by
   rcases hz with rfl|hz;rfl
   ·rw[B hL w e hs d]at hz;cases m.toNat with
    |zero=>rfl|succ k=>unfold cX;rw[Rt hs,PG (by omega)]
  rw[this];exact⟨rfl,rfl,rfl,rfl,rfl,rfl⟩
 refine ndi n0<|ndi Z ⟨fun z=>t0 (.inl z),fun z=>⟨fun z=>t0 (.inr z),fun aa=>ndi ?_ fun j k t y a x O hI=>?_⟩⟩;refine⟨by omega,by omega,rfl,fun D K c' s hL w e hs d=>?_⟩;obtain⟨_,l,o,q,f,p,g,_⟩:=P1 hL hs d;rw[e];exact⟨f,l,p,rfl,o,g,rfl⟩;obtain⟨X,H,Y,E⟩:=hI;have lz:ln (cL L c 10)<=16:=by omega
 have H:j<=ln (cL L c 10):=H;have lo:ln O=j:=Y;refine⟨fun hj=>?_,fun hj=>nin (nrn (ndt fun D K c' hL w e hs=>?_))⟩
 ·have h:∀ {D:DM} {K} {c':Nat} {s:Sl},L=D.L.map Sl.row->WF D K->(c:Int)=c'->D.L[c']? =some s->s.used=true-> ∃b:Nat,s.n.ch[j.toNat]? =some b/\cI (cL L c 10) j 0=b/\D.Us b:=by intro D K c' s hL w e hs d;have V:=B hL w e hs d;obtain⟨_,_,_,_,f,_⟩:=P1 hL hs d;obtain⟨b,hb⟩:=Sx.get_at (T:=s.n.ch) X (by omega);obtain⟨sb,h1,h2,_⟩:=(w.ch c' s hs d).2 b (Pv hb);exact⟨b,hb,by rw[e,f];exact cI_il hb,sb,h1,h2⟩
  obtain⟨b,hb,u,C⟩:=h hL w rfl hs d;refine ndi (by omega)<|ndi hj<|ndi (by unfold I64;omega)<|ndi ⟨⟨by omega,by omega,D,K,b,G,w,u,C⟩,?_⟩ fun k' t' y' J x' r he=>?_;show(m+ -1).toNat<n;omega
  ·refine nin<|ndi (by omega)<|nrn<|ndi (by unfold I64;omega)<|nin<|nrn<|ndi ⟨by omega,?_,?_,fun D K c' s hL w e hs d=>?_⟩ (ndt ?_);show j+1<=ln (cL L c 10);omega;rw[PL];show((O.length+1:Nat):Int)=j+1;omega
   ·obtain⟨I,l,o,q,f,p,g⟩:=E D K c' s hL w e hs d;refine⟨I,l,o,q,f,p,?_⟩;obtain⟨b,hb,u,C⟩:=h hL w e hs d;have A:=zX (he D K b hL w u C);have ct:(b8 6 1 [.int k',.str t',.str y',.lst J,.str x',.lst r]:Sx.Rows)=[(cX D (m+ -1).toNat b).row]:=by rw[<-A];rfl
    have v:(m+ -1).toNat=m.toNat-1:=by omega
    have W:(j+1).toNat=j.toNat+1:=by omega
    rw[ct,g,W,I5 hb,v];simp[rows]
   show((cL L c 10).length-(j+1)).toNat<((cL L c 10).length-j).toNat;have hj:j<((cL L c 10).length:Int):=hj;omega
 ·obtain⟨s,hs,d⟩:=hs;obtain⟨I,l,o,q,f,p,g⟩:=E D K c' s hL w e hs d;have V:=B hL w e hs d;have v:m.toNat=(m.toNat-1)+1:=by omega
  rw[v];unfold cX;rw[Rt hs,PE (by omega)];rw[Ql (by omega)]at g;exact⟨l,o,q,f,p,g⟩
def set11 {X:List Sl}{a:Nat}{so:Sl}{q:Sl->Sl}{f g i k l m n o p r d:Dat}(h:X[a]? =some so)(hq:(q so).row=[f,g,i,k,l,m,n,o,p,r,d]):a8 (a8 (a8 (a8 (a8 (a8 (a8 (a8 (a8 (a8 (a8 (X.map Sl.row) a 0 f) a 1 g) a 2 i) a 3 k) a 4 l) a 5 m) a 6 n) a 7 o) a 8 p) a 9 r) a 10 d=(X.modify a q).map Sl.row:=by unfold a8;simp only[B2,Qd];apply List.ext_getElem?;intro j;simp only[j9,Qm];by_cases e:a=j;subst e;simp only[QY,h,Qh,hq];congr 1;unfold Sl.row;split<;>rfl;simp[e]
def vcRfre_ok :vcRfre:=by
 unfold vcRfre;intro L F c0 c1 y c3 c4 c5 c6 c7 i g h;obtain⟨hi,hg,hp⟩:=h;have hp':=hp;obtain⟨D,K,o,w⟩:=hp;refine eD ⟨hi,hg,o.len w⟩ ?_;by_cases hv:v9 L i g=true
 ·rw[PG hv];obtain⟨c,s,h1,h2,h3,h4,r,h6,P,h8,H,ha,hb⟩:=o.spot hv;have n0:¬i<0:=by omega
  refine⟨fun h=>absurd h n0,fun _=>ndi n0<|ndi P ⟨fun hk=>rO hp'<|ndi ⟨D,K,c,o,w,h2,s,h3,h4⟩ fun X hX=>?_,fun hk=>ndt (B7 fun D K o w=>?_)⟩⟩
  ·have res:∀ {D K},Rf D L F [c0,c1,y,c3,c4,c5,c6,c7]->WF D K-> ∃(c:Nat) (s:Sl),D.at i g=some c/\i=c/\D.L[c]? =some s/\s.used=true/\D.nod c=s.n/\s.n.par= -1/\X=(bel D 1001 c).map A5/\(bel D 1001 c).Nodup/\ ∀b∈bel D 1001 c,D.Us b:=fun{D K} o w=>by
    obtain⟨c,s,h1,h2,h3,h4,r,h6,P,h8,H,ha,hb⟩:=o.spot hv;have B:s.n.par= -1:=by rcases w.par c s h3 h4 with e| ⟨q,sq,e,_⟩<;>omega
    exact⟨c,s,h1,h2,h3,h4,r,B,hX D K c o.1 w h2 ⟨s,h3,h4⟩,K8 w h3 h4,fun b hb=>(P0 w h3 h4 b hb).2⟩
   obtain⟨c,s,r1,r2,r3,r4,r5,r6,x,M,N⟩:=res o w;have lX:X.length=(bel D 1001 c).length:=by rw[x];simp
   have bl:=GL w r3 r4;have E:ln X=(X.length:Int):=rfl;have aa:0<=c0/\c0<=1000/\0<=y/\y<=1000:=by obtain⟨a,b,c,d,e,f,h',h1,_,h3,h4⟩:=w.cnt;have:=w.lim;have:=List.countP_le_length (p:=fun s:Sl=>s.used) (l:=D.L);have hc:=o.2.2;rw[h1]at hc;simp only[QE,QH]at hc;simp only[List.forall_mem_cons]at h4;omega
   refine nin<|nrn<|ndi ⟨by omega,by omega,by simp,fun D l hL hF _ _ _=>by simpa using⟨hL,hF⟩⟩ fun k S F' d0 V d2 W Y Z d6 d7 hI=>?_;obtain⟨k0,k1,hd,hI⟩:=hI;simp only[QE,QH]at hd;obtain⟨rfl,rfl,rfl,rfl,rfl,rfl,rfl,rfl⟩:=hd;obtain⟨v,u⟩:=hI D _ o.1 o.2.1 M N x;have lF:F'.length<=2000:=by
    rw[u,PD,gE,PL,List.length_reverse];have:D.free.length<=1000:=by
     have hs:D.free ⊆ List.range D.L.length:=fun j hj=>by obtain⟨s,h1,_⟩:=w.free.2 j hj;exact List.mem_range.2 (Po.1 h1).1
     have H:=w.free.1.length_le_of_subset hs;have:=w.lim;rw[List.length_range]at H;omega
    have:((bel D 1001 c).take k.toNat).length<=(bel D 1001 c).length:=by rw[PW];omega
    omega
   have ab:ln F'=(F'.length:Int):=rfl;refine⟨fun hk=>?_,fun hk=>nin<|nrn<|ndt fun D K o w=>?_⟩
   ·rw[E]at hk⊢;have turn:∀ {D:DM} {l:Ah},L=D.L.map Sl.row->F=D.free.map A5->l.Nodup->(∀b∈l,D.Us b)->X=l.map A5-> ∃(b:Nat) (s:Sl),cI X k 0=b/\D.L[b]? =some s/\s.used=true/\((l.take k.toNat).foldl z8 D).L[b]? =some s/\(l.take (k+1).toNat).foldl z8 D=z8 ((l.take k.toNat).foldl z8 D) b:=fun{D l} h1 h2 h3 h4 r=>by
     have lj:k<(l.length:Int):=by have:=congrArg List.length r;simp at this;omega
     obtain⟨b,hb⟩:=Sx.get_at (T:=l) k0 lj;obtain⟨s,I,J⟩:=h4 b (Pv hb);have nb:b∉l.take k.toNat:=fun m=>by obtain⟨j,hj⟩:=Rp m;rw[PS]at hj;split at hj;rename_i hlt;exact De h3 hj hb hlt rfl;cases hj
     exact⟨b,s,by rw[r];exact cI_il hb,I,J,by rw[H2 nb];exact I,by rw[p7 k0 hb,List.foldl_append];rfl⟩
    obtain⟨b,G,I,J,q3,q4,q5⟩:=turn o.1 o.2.1 M N x;have t:=(P1 o.1 J q3)
    have A:(b:Int)<ln S:=by rw[v];simp only[ln,PD];have:=(Po.1 q4).1;omega
    rw[I,t.2.2.2.2.2.2.2];have gb:=w.gen G (Pv J);have lim:=w.lim;have ew:IntKind.wrap .u32 ((G.g:Int)+1)=((G.g+1:Nat):Int):=by rw[Int.natCast_add];exact M9 (by simp[IntKind.min,IntKind.signed];omega) (by simp[IntKind.max,IntKind.signed,IntKind.bits];omega)
    rw[ew];have R:¬k<0:=by omega
    have U:¬(b:Int)<0:=by omega
    have z:∀O:Sx.Rows,O=[.int (b:Int)]::F'->nY (.lst X::.lst L::.lst F::J8 c0 V y W Y Z d6 d7 []) (.int (k+1)::.lst (a8 (a8 (a8 (a8 (a8 (a8 (a8 (a8 (a8 (a8 (a8 S b 0 (.int ((G.g+1:Nat):Int))) b 1 (.bool false)) b 2 (.int 0)) b 3 (.str [])) b 4 (.lst [])) b 5 (.str [])) b 6 (.int 0)) b 7 (.int 0)) b 8 (.bool false)) b 9 (.int 0)) b 10 (.lst []))::.lst O::J8 (c0-k+ -1) V (y+k+1) W Y Z d6 d7 []):=fun O Q=>by
     refine⟨by omega,by omega,by simp only[QE,QH,QD];omega,fun D l h1 h2 h3 h4 r=>?_⟩;obtain⟨v,u⟩:=hI D l h1 h2 h3 h4 r;obtain⟨b',s',p1,p2,p3,p4,p5⟩:=turn h1 h2 h3 h4 r;have:b'=b:=by omega
     subst this;have eg:s'.g=G.g:=by have e1:=t.2.2.2.2.2.2.2;rw[(P1 h1 p2 p3).2.2.2.2.2.2.2]at e1;omega
     rw[p5,Q,u,v];refine⟨?_,rfl⟩;rw[set11 (q:=fun s=>⟨s.g+1,false,C2 0 [] []⟩) p4 (by rw[<-eg];rfl)];rfl
    refine ndi R<|ndi hk<|ndi R<|ndi hk<|ndi U<|ndi t.1<|ndi U<|ndi A<|ndi A<|ndi R<|ndi hk<|ndi (by omega) ⟨fun h1=>?_,fun h1=>?_⟩;exact ndi (by unfold I64;omega)<|ndi (by unfold I64;omega)<|ndi (by unfold I64;omega)<|nin<|nrn<|nin<|nrn<|ndi (z _ rfl) (ndt (by show(X.length-(k+1)).toNat<(X.length-k).toNat;omega));have e0:F'= []:=Pr (by omega);subst e0;exact ndi (by unfold I64;omega)<|ndi (by unfold I64;omega)<|ndi (by unfold I64;omega)<|ndi (by simp[ln,Sx.over,b8])<|nin<|nrn<|ndi (z _ rfl) (ndt (by show(X.length-(k+1)).toNat<(X.length-k).toNat;omega))
   ·rw[E]at hk;obtain⟨c,s,r1,r2,r3,r4,r5,r6,x,M,N⟩:=res o w;obtain⟨v,u⟩:=hI D _ o.1 o.2.1 M N x;have lX:X.length=(bel D 1001 c).length:=by rw[x];simp
    rw[Ql (by omega)]at v u;show Rf (eK D i g).1 _ _ _/\(0:Int)=(eK D i g).2;unfold eK;rw[r1];simp only;rw[r5,PE (by simp[r6])];refine⟨⟨v,u,?_⟩,rfl⟩;show _=(D.C.modify 0 _).modify 2 _;have ek:k=((bel D 1001 c).length:Int):=by omega
    rw[<-o.2.2,ek];rfl
  obtain⟨c,s,h1,h2,h3,h4,r,h6,P,h8,H,ha,_⟩:=o.spot hv;unfold eK;rw[h1];simp only;rw[r,PG (by omega)];exact⟨rfl,rfl⟩
 rw[PE hv];refine⟨fun _=>ndt (B7 fun D K o w=>?_),fun h=>absurd (by decide) h⟩;unfold eK;rw[o.none hv];exact⟨rfl,rfl⟩
