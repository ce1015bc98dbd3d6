/- Mounts: the conditions of the contracts hold.
  Conditions: none. -/
import Derived.Test.YtoegfalhkackeaaGreatN6
set_option linter.all false
noncomputable section
namespace Go.D
open Go Go.Xe Go.Sx
mutual
def oE :∀s:a9,strip true s=s
 | .mk k t y a x c=>by unfold strip;rw[strips_tt c];rfl
def strips_tt :∀l:List a9,strips true l=l
 | []=>rfl|s::l=>by unfold strips;rw[oE s,strips_tt l]
end
def vcMnt_ok :vcMnt:=by unfold vcMnt;rintro k t y a x c S fr lv c0 z C c3 E F G H st N ⟨s,D,K,⟨rfl,rfl,rfl,rfl,rfl,rfl⟩,b,d,n⟩;refine ndi ⟨s,rfl,rfl,rfl,rfl,rfl,rfl⟩ fun e he=>?_;have h:=he s ⟨rfl,rfl,rfl,rfl,rfl,rfl⟩;refine⟨fun e0=>?_,fun e0=>?_⟩;have v:=h.1.1 e0;refine nin (nrn (ndi ⟨s,D,K,⟨rfl,rfl,rfl,rfl,rfl,rfl⟩,v.1,b,d,n v⟩ fun i g r S' m o I J L M O P Q R p w j=>?_));obtain⟨r0,u,q,hF,j⟩:=j;refine nin (nrn (ndt ⟨u,q,hF,fun s' D K hs b d=>⟨fun v' f=>?_,fun l=>?_⟩⟩));obtain⟨p1,p2⟩:=j s' D K hs v'.1 b d f;exact⟨p1,p2,r0⟩;rw[u9]at hs;rw[hs]at l;exact absurd v l;refine nin (nrn (ndt ⟨by unfold U32;omega,by unfold U32;omega,Vv,fun s' D K hs b d=>?_⟩));rw[u9]at hs;rw[hs];exact⟨fun v=>absurd (h.1.2 v) e0,fun _=>⟨b,rfl,rfl,by have:=h.2;omega⟩⟩
def vcNwd_ok :vcNwd:=fun _=>ndt ⟨rfl,rfl,rfl,rfl⟩
section
variable {A B:Sx.Rows}{k:Int}
def Iy (k0:0<=k)(hk:k<A.length):∃r,A[k.toNat]? =some r/\r∈A/\ ∀j,D6 A k j=r.getD j (.int 0):=by obtain⟨r,hr⟩:=Sx.get_at (T:=A) k0 hk;refine⟨r,hr,Tv hr,fun j=>?_⟩;have:=i9 (f:=id) hr j;rwa[List.map_id]at this
def CX (k0:0<=k)(h:A.take k.toNat=B.take k.toNat)(e:A[k.toNat]? =B[k.toNat]?):A.take (k+1).toNat=B.take (k+1).toNat:=by rw[show(k+1).toNat=k.toNat+1 by omega,List.take_add_one,List.take_add_one,h,e]
def HM (hk:¬k<A.length)(h:k<=A.length)(hl:A.length=B.length)(e:A.take k.toNat=B.take k.toNat):A=B:=by rwa[Uk (by omega),Uk (by omega)]at e
end
def vcEqb_ok :vcEqb:=by
 unfold vcEqb;intro A B h;obtain⟨⟨l,m,rfl,rfl⟩,p⟩:=h;have no:¬l.map Att.row=m.map Att.row->gU [.lst (l.map Att.row),.lst (m.map Att.row)] [.bool false]:=fun h=>⟨fun e=>by simp at e,fun e=>absurd e h⟩
 refine⟨fun hl=>ndi ⟨by omega,by omega,by have:((l.map Att.row).length:Int)=(m.map Att.row).length:=hl;omega,rfl⟩ fun k hI=>?_,fun hl=>ndt (no fun e=>hl (by rw[e]))⟩;obtain⟨k0,k1,g,f⟩:=hI;refine⟨fun hk=>?_,fun hk=>ndt ⟨fun _=>HM hk k1 g f,fun _=>rfl⟩⟩;have hk:k<(l.map Att.row).length:=hk;have c:k<(m.map Att.row).length:=by omega
 obtain⟨r,r1,i,j⟩:=Iy k0 hk;obtain⟨s,s1,s2,o⟩:=Iy k0 c;obtain⟨a,_,rfl⟩:=UO.1 i;obtain⟨b,_,rfl⟩:=UO.1 s2;simp only[cS,j,o];have d:¬(a.n=b.n/\a.v=b.v)->gU [.lst (l.map Att.row),.lst (m.map Att.row)] [.bool false]:=fun h=>no fun e=>by rw[e,s1]at r1;simp[Att.row]at r1;exact h ⟨r1.1.symm,r1.2.symm⟩
 refine ndi (by omega)<|ndi hk<|ndi (by omega)<|ndi c ⟨fun e1=>⟨fun e2=>ndi (by unfold I64;omega)<|ndi ⟨by omega,by omega,g,CX k0 f ?_⟩<|ndt ?_,fun e2=>ndt (d fun h=>e2 h.2)⟩,fun e1=>ndt (d fun h=>e1 h.1)⟩;rw[r1,s1];unfold Att.row;rw[show a.n=b.n from e1,show a.v=b.v from e2];show((l.map Att.row).length-(k+1)).toNat<((l.map Att.row).length-k).toNat;omega
def CS {l:List a9}{j:Int}{u:a9}(b:l[j.toNat]? =some u):cI (rows l) j 0=u.k/\cS (rows l) j 1=u.t/\cS (rows l) j 2=u.y/\cL (rows l) j 3=u.a.map Att.row/\cS (rows l) j 4=u.x/\cL (rows l) j 5=rows u.c:=by simp only[cI,cS,cL,G5 b,t0,t1,t2,t3,t4,t5,V8,A6,T8,and_self]
def vcSmn_ok (n:Nat):vcSmn n:=by
 unfold vcSmn;rintro _ _ _ _ _ _ _ _ _ _ _ _ ⟨⟨⟨s,⟨rfl,rfl,rfl,rfl,rfl,rfl⟩,J⟩,s',⟨rfl,rfl,rfl,rfl,rfl,rfl⟩,m⟩,l⟩;have l:szRs (rows s.c)<n+1:=l;have i:=(B9 s).1 J;have o:=(B9 s').1 m;obtain⟨I,P⟩:=bB i.1;have no:¬s=s'->Y7 [.int s.k,.str s.t,.str s.y,.lst (s.a.map Att.row),.str s.x,.lst (rows s.c),.int s'.k,.str s'.t,.str s'.y,.lst (s'.a.map Att.row),.str s'.x,.lst (rows s'.c)] [.bool false]:=fun h u N d f=>by rw[u9]at d f;rw[d,f];exact⟨fun e=>by simp at e,fun e=>absurd e h⟩
 refine⟨fun e0=>⟨fun e1=>⟨fun e2=>⟨fun e4=>ndi ⟨⟨s.a,s'.a,rfl,rfl⟩,by rw[TG];omega⟩ fun b hb=>⟨fun z=>⟨fun hl=>?_,fun hl=>ndt (no fun e=>hl (by rw[e]))⟩,fun b0=>ndt (no fun e=>b0 (hb.2 (by rw[e])))⟩,fun e4=>ndt (no fun e=>e4 (by rw[e]))⟩,fun e2=>ndt (no fun e=>e2 (by rw[e]))⟩,fun e1=>ndt (no fun e=>e1 (by rw[e]))⟩,fun e0=>ndt (no fun e=>e0 (by rw[e]))⟩;have C:=bZ (hb.1 z);have hl:((rows s.c).length:Int)=(rows s'.c).length:=hl;refine ndi ⟨by omega,by omega,by omega,rfl⟩ fun j hI=>?_;obtain⟨r,K,L,w⟩:=hI;have Q:((rows s.c).length:Int)=s.c.length:=by rw[rows,TG]
 have R:((rows s'.c).length:Int)=s'.c.length:=by rw[rows,TG]
 refine⟨fun hj=>?_,fun hj=>ndt fun u N d f=>?_⟩
 ·have p:j<s.c.length:=by unfold ln at hj;omega
  have q:j<s'.c.length:=by omega
  obtain⟨u,d⟩:=Sx.get_at r p;obtain⟨v,hv⟩:=Sx.get_at r q;obtain⟨g0,D,E,F,G,H⟩:=CS d;obtain⟨k0,k1,k2,k3,k4,M⟩:=CS hv;have O:=dP d;rw[g0,D,E,F,G,H,k0,k1,k2,k3,k4,M];refine ndi (by omega) (ndi hj (ndi (by omega) (ndi (by unfold ln;omega) (ndi ⟨⟨⟨u,⟨rfl,rfl,rfl,rfl,rfl,rfl⟩,Q9 i.2 d⟩,v,⟨rfl,rfl,rfl,rfl,rfl,rfl⟩,Q9 o.2 hv⟩,by show szRs (rows u.c)<n;omega⟩ fun b' g=>?_))));have g:=g u v ⟨rfl,rfl,rfl,rfl,rfl,rfl⟩ ⟨rfl,rfl,rfl,rfl,rfl,rfl⟩;refine⟨fun t=>ndi (by unfold I64;omega) (ndi ⟨by omega,by omega,by omega,CX r w ?_⟩ (ndt ?_)),fun t=>ndt (no fun e=>t (g.2 ?_))⟩;have e:=g.1 t;rw[rows,rows,Ul,Ul,d,hv,e];show((rows s.c).length-(j+1)).toNat<((rows s.c).length-j).toNat;omega;rw[e,hv]at d;cases d;rfl
 rw[u9]at d f;rw[d,f];exact⟨fun _=>vZ e0 e1 e2 C e4 (jF.mp (HM hj K L w)),fun _=>rfl⟩
def vcStp_ok :vcStp:=by unfold vcStp;rintro k t y a x c ⟨s,rfl,rfl,rfl,rfl,rfl,rfl⟩;refine ndi ⟨s,rfl,rfl,rfl,rfl,rfl,rfl⟩ fun e he=>?_;have h:=(he s ⟨rfl,rfl,rfl,rfl,rfl,rfl⟩).1;refine⟨fun e0=>ndi ⟨s,⟨rfl,rfl,rfl,rfl,rfl,rfl⟩,(h.1 e0).1⟩ fun k' t' d a' x' c' hc=>nin (nrn (ndt fun s' hs=>?_)),fun e0=>ndt fun s' hs=>?_⟩;have:=hc s' hs;rw[u9]at hs;exact⟨fun _=>this,fun b=>absurd (by rw[hs];exact h.1 e0) b⟩;rw[u9]at hs;exact⟨fun v=>absurd (h.2 (by rw[<-hs];exact v)) e0,fun _=>⟨rfl,rfl,rfl,rfl,rfl,rfl⟩⟩
def vcNsm_ok :vcNsm:=by
 unfold vcNsm;rintro _ _ _ _ _ _ _ _ _ _ _ _ ⟨⟨s,rfl,rfl,rfl,rfl,rfl,rfl⟩,s',rfl,rfl,rfl,rfl,rfl,rfl⟩;have no:¬(w9 s/\w9 s')->pO [.int s.k,.str s.t,.str s.y,.lst (s.a.map Att.row),.str s.x,.lst (rows s.c),.int s'.k,.str s'.t,.str s'.y,.lst (s'.a.map Att.row),.str s'.x,.lst (rows s'.c)] [.bool false]:=fun h u i g d=>by rw[u9]at g d;rw[g,d];exact⟨fun e=>by simp at e,fun e=>absurd ⟨e.1,e.2.1⟩ h⟩
 refine ndi ⟨s,rfl,rfl,rfl,rfl,rfl,rfl⟩ fun e he=>⟨fun e0=>ndi ⟨s',rfl,rfl,rfl,rfl,rfl,rfl⟩ fun f hf=>⟨fun f0=>?_,fun f0=>ndt (no fun h=>?_)⟩,fun e0=>ndt (no fun h=>?_)⟩
 have v:=(he s ⟨rfl,rfl,rfl,rfl,rfl,rfl⟩).1.1 e0;have v':=(hf s' ⟨rfl,rfl,rfl,rfl,rfl,rfl⟩).1.1 f0;refine ndi ⟨⟨s,⟨rfl,rfl,rfl,rfl,rfl,rfl⟩,v.1⟩,s',⟨rfl,rfl,rfl,rfl,rfl,rfl⟩,v'.1⟩ fun b hb=>ndt fun u i g d=>?_;have:=hb u i g d;rw[u9]at g d;rw[this,g,d];exact⟨fun e=>⟨v,v',e⟩,fun e=>e.2.2⟩;exact f0 ((hf s' ⟨rfl,rfl,rfl,rfl,rfl,rfl⟩).1.2 h.2);exact e0 ((he s ⟨rfl,rfl,rfl,rfl,rfl,rfl⟩).1.2 h.1)
def vcIs_ok :vcIs:=by
 unfold vcIs;rintro i g k t y a x c S fr lv c0 F w c3 G H I J st N ⟨O,M,p,s,rfl,rfl,rfl,rfl,rfl,rfl⟩;refine nin (nrn (ndi ⟨O,M,p⟩ fun k' t' Q a' x' c' r d=>?_));obtain⟨E,L,hR0,z⟩:=p;have j:=d E L ⟨fr,lv,hR0⟩ z;have bad:∀e:Int,r≠0->r≠14->vcIs0 i g s.k s.t s.y (s.a.map Att.row) s.x (rows s.c) S fr lv c0 F w c3 G H I J st N r:=fun _ h1 h2=>ndt fun D K s1 f l hs=>by have d:=d D K f l;split at d;rename_i e;rw[e];exact⟨d,rfl⟩;rename_i q e;by_cases v:w9 (J1 D 6 q);exact absurd (d.1 v).1 h1;exact absurd (d.2 v) h2
 have o:∀e:Int,(r=0\/r=14)->(e=0↔w9 s)/\(e=0\/e=14)->e≠0->vcIs0 i g s.k s.t s.y (s.a.map Att.row) s.x (rows s.c) S fr lv c0 F w c3 G H I J st N e:=fun e hr h he=>ndt fun D K s1 f l hs=>by rw[u9]at hs;rw[hs];have d:=d D K f l;split at d;omega;rename_i q e;rw[e];exact⟨fun v=>absurd (h.1.2 v) he,fun _=>⟨by have:=h.2;omega,rfl⟩⟩
 refine⟨fun r0=>?_,fun r0=>⟨fun m=>?_,fun m=>bad 0 r0 m⟩⟩
 ·refine ndi ⟨s,rfl,rfl,rfl,rfl,rfl,rfl⟩ fun e he=>?_;have he:=he s ⟨rfl,rfl,rfl,rfl,rfl,rfl⟩;refine⟨fun e0=>?_,fun e0=>o e (.inl r0) he e0⟩;have v:=he.1.1 e0;refine ndi r0 (ndi ⟨s,rfl,rfl,rfl,rfl,rfl,rfl⟩ fun k2 t2 T a2 R w u=>?_);have u:=(u s ⟨rfl,rfl,rfl,rfl,rfl,rfl⟩).1 v;have ex:∃s2,isT s2 k' t' Q a' x' c':=by split at j;omega;rename_i q e;by_cases v:w9 (J1 E 6 q);obtain⟨s2,_,h2⟩:=(j.1 v).2;exact⟨s2,h2⟩;exact absurd (j.2 v) (by omega)
  refine nin (nrn (nin (nrn (ndi ⟨ex,_,u⟩ fun b hb=>ndt fun D K s1 f l hs=>?_))));rw[u9]at hs;rw[hs];have d:=d D K f l;split at d;omega
  ·rename_i q e;rw[e];have P:w9 (J1 D 6 q):=Classical.byContradiction fun n=>by have:=d.2 n;omega
   obtain⟨_,s2,e2,h2⟩:=d.1 P;rw[oE]at e2;subst e2;exact⟨fun _=>⟨rfl,hb _ _ h2 u⟩,fun C=>absurd v C⟩
 refine ndi ⟨s,rfl,rfl,rfl,rfl,rfl,rfl⟩ fun e he=>?_;have he:=he s ⟨rfl,rfl,rfl,rfl,rfl,rfl⟩;refine⟨fun e0=>ndi r0 (ndt fun D K s1 f l hs=>?_),fun e0=>o e (.inr m) he e0⟩;rw[u9]at hs;rw[hs];have v:=he.1.1 e0;have d:=d D K f l;split at d;omega;rename_i q e;rw[e];exact⟨fun _=>⟨rfl,fun h=>by simp at h,fun h=>absurd (d.1 h.1).1 r0⟩,fun C=>absurd v C⟩
def vcDrp_ok :vcDrp:=by
 unfold vcDrp;rintro i g S fr lv c0 E F c3 G H I J st N ⟨p,o,l,m,hR0,b,y⟩;refine nin (nrn (ndi ⟨p,o,l,m,hR0.1,b⟩ fun k t a x tp sz pn pi pg ch r hL=>?_));have facts:∀ {D K},RlC D S N fr lv [c0,E,F,c3,G,H,I,J]->WF D K->K0 S i g=true-> ∃c,D.at i g=some c/\((cI N (atF S i g) 7=0/\cI N (atF S i g) 8=0)↔(D.nod c).par= -1):=fun{D K} L d hv=>by obtain⟨c,hc⟩:=L.1.vld.1 hv;obtain⟨s,h1,h2,h3,h4,h5,h6,h7,h8,h9,v,ab⟩:=L.1.flds hc;exact⟨c,hc,by rw[h9,v,h3];exact d.hI_zero h1 h2⟩
 by_cases hv:K0 S i g=true
 ·have this:if K0 S i g=true then _ else r=11:=hL
  rw[TJ hv]at this;obtain⟨_,_,_,_,_,_,_,Y,Z,_,r0⟩:=this;have up:¬(pi=0/\pg=0)->vcDrp0 S i g fr lv c0 E F c3 G H I J st N:=fun h=>by unfold vcDrp0;refine nin (nrn (ndi ⟨p,o,l,m,hR0,b⟩ fun r1 S1 aa ac b0 b1 b2 b3 b4 b5 b6 b7 ad N1 n=>?_));obtain⟨hF,n⟩:=n;refine nin (nrn (ndi ⟨p,o,_,_,(n l m hR0 b).1,b.rem y⟩ fun r2 S2 u z P Q R T U V W X C O f=>?_));obtain⟨j,f⟩:=f;refine nin (nrn (ndt ⟨hF.trans j,fun D K e d w=>?_⟩));obtain⟨c,hc,hp⟩:=facts e d hv;have:=f _ _ (n D K e d).1 (d.rem w);unfold fY;rw[hc];simp only;rw[TH fun q=>h (by rw[Y,Z];exact hp.2 q)];exact this
  refine⟨fun _=>⟨fun M=>⟨fun g0=>?_,fun g0=>up fun h=>g0 h.2⟩,fun M=>up fun h=>M h.1⟩,fun h=>absurd r0 h⟩;refine nin (nrn (ndi ⟨p,o,l,m,hR0,b⟩ fun r2 S2 u z P Q R T U V W X C O f=>?_));obtain⟨j,f⟩:=f;refine nin (nrn (ndt ⟨j,fun D K e d w=>?_⟩));obtain⟨c,hc,hp⟩:=facts e d hv;have:=f D K e d;unfold fY;rw[hc];simp only;rw[TJ (hp.1 ⟨by omega,by omega⟩)];exact this
 ·have hL:r=11:=by
   have:if K0 S i g=true then _ else r=11:=hL
   rwa[TH hv]at this
  refine⟨fun r0=>by omega,fun _=>nin (nrn (ndt ⟨Vv,fun D K e d w=>?_⟩))⟩;unfold fY;rw[e.1.none hv];exact⟨e,hL⟩
