/- Mounts: the conditions of the contracts hold.
  Conditions: none. -/
import Derived.Test.YtoegfalhkackeaaGreatN6
set_option linter.all false
noncomputable section
namespace Go.D
open Go Go.Xe Go.Sx
mutual
def uZ :∀s:a9,jO true s=s
 | .mk k t y a x c=>by unfold jO;rw[strips_tt c];rfl
def strips_tt :∀l:List a9,strips true l=l
 | []=>rfl|s::l=>by unfold strips;rw[uZ s,strips_tt l]
end
def vcMnt_ok :vcMnt:=by unfold vcMnt;rintro k t y a x c S fr lv c0 z C E F G H I st N ⟨s,D,K,⟨rfl,rfl,rfl,rfl,rfl,rfl⟩,b,d,n⟩;refine ndi ⟨s,rfl,rfl,rfl,rfl,rfl,rfl⟩ fun e he=>?_;have h:=he s ⟨rfl,rfl,rfl,rfl,rfl,rfl⟩;refine⟨fun e0=>?_,fun e0=>?_⟩;have v:=h.1.1 e0;refine nin (nrn (ndi ⟨s,D,K,⟨rfl,rfl,rfl,rfl,rfl,rfl⟩,v.1,b,d,n v⟩ fun i g r S' m o J L M O P Q R T p w j=>?_));obtain⟨r0,u,q,hF,j⟩:=j;refine nin (nrn (ndt ⟨u,q,hF,fun s' D K hs b d=>⟨fun v' f=>?_,fun l=>?_⟩⟩));obtain⟨p1,p2⟩:=j s' D K hs v'.1 b d f;exact⟨p1,p2,r0⟩;rw[y6]at hs;rw[hs]at l;exact absurd v l;refine nin (nrn (ndt ⟨by unfold U32;omega,by unfold U32;omega,To,fun s' D K hs b d=>?_⟩));rw[y6]at hs;rw[hs];exact⟨fun v=>absurd (h.1.2 v) e0,fun _=>⟨b,rfl,rfl,by have:=h.2;omega⟩⟩
def vcNwd_ok :vcNwd:=fun _=>ndt ⟨rfl,rfl,rfl,rfl⟩
def vcWgh_ok (N:Nat):vcWgh N:=by
 unfold vcWgh;rintro _ _ _ _ _ _ lv ⟨⟨h0,j,s,rfl,rfl,rfl,rfl,rfl,rfl⟩,e⟩;have e:lv.toNat<N+1:=e;have g:ln (rows s.c)=(s.c.length:Int):=by simp[ln]
 simp only[Nd,eD,vL,yZ,DU,I64,g,Sq,Sc];refine⟨fun h=>by omega,fun h=>⟨fun h2=>by omega,fun h2=>⟨fun h3=>by omega,fun h3=>⟨by omega,fun _ i n ⟨i0,l,o,p,q⟩=>⟨fun b=>⟨fun d=>by omega,fun d=>?_⟩,fun b=>by omega⟩⟩⟩⟩⟩;obtain⟨a,f⟩:=Sx.get_at i0 b;simp only[cI,cS,cL,L2 f,t0,t1,t2,t3,t4,t5,Z4,C5,V2,y6,exists_eq,Sq,Si];refine⟨by omega,fun _=>⟨b,fun _=>⟨⟨by omega,by omega⟩,fun _=>⟨⟨⟨by omega,by omega⟩,by omega⟩,fun _ m ⟨r,t⟩=>⟨⟨by omega,by omega⟩,fun _=>⟨⟨by omega,by omega⟩,fun _=>⟨by omega,fun _=>?_⟩⟩⟩⟩⟩⟩⟩;show(((rows s.c).length:Int)-(i+1)).toNat<(((rows s.c).length:Int)-i).toNat;rw[Rc];omega
section
variable {A B:Sx.Rows}{k:Int}
def Hz (k0:0<=k)(hk:k<A.length):∃r,A[k.toNat]? =some r/\r∈A/\ ∀j,D1 A k j=r.getD j (.int 0):=by obtain⟨r,hr⟩:=Sx.get_at (T:=A) k0 hk;refine⟨r,hr,QT hr,fun j=>?_⟩;have:=l6 (f:=id) hr j;rwa[List.map_id]at this
def Cz (k0:0<=k)(h:A.take k.toNat=B.take k.toNat)(e:A[k.toNat]? =B[k.toNat]?):A.take (k+1).toNat=B.take (k+1).toNat:=by rw[show(k+1).toNat=k.toNat+1 by omega,List.take_add_one,List.take_add_one,h,e]
def GZ (hk:¬k<A.length)(h:k<=A.length)(hl:A.length=B.length)(e:A.take k.toNat=B.take k.toNat):A=B:=by rwa[RK (by omega),RK (by omega)]at e
end
def vcEqb_ok :vcEqb:=by
 unfold vcEqb;intro A B h;obtain⟨⟨l,m,rfl,rfl⟩,t⟩:=h;have no:¬l.map Att.row=m.map Att.row->fY [.lst (l.map Att.row),.lst (m.map Att.row)] [.bool false]:=fun h=>⟨fun e=>by simp at e,fun e=>absurd e h⟩
 refine⟨fun hl=>ndi ⟨by omega,by omega,by have:((l.map Att.row).length:Int)=(m.map Att.row).length:=hl;omega,rfl⟩ fun k hI=>?_,fun hl=>ndt (no fun e=>hl (by rw[e]))⟩;obtain⟨k0,k1,j,i⟩:=hI;refine⟨fun hk=>?_,fun hk=>ndt ⟨fun _=>GZ hk k1 j i,fun _=>rfl⟩⟩;have hk:k<(l.map Att.row).length:=hk;have c:k<(m.map Att.row).length:=by omega
 obtain⟨r,r1,o,p⟩:=Hz k0 hk;obtain⟨s,s1,s2,q⟩:=Hz k0 c;obtain⟨a,_,rfl⟩:=SE.1 o;obtain⟨b,_,rfl⟩:=SE.1 s2;simp only[cS,p,q];have d:¬(a.n=b.n/\a.v=b.v)->fY [.lst (l.map Att.row),.lst (m.map Att.row)] [.bool false]:=fun h=>no fun e=>by rw[e,s1]at r1;simp[Att.row]at r1;exact h ⟨r1.1.symm,r1.2.symm⟩
 refine ndi (by omega)<|ndi hk<|ndi (by omega)<|ndi c ⟨fun f=>⟨fun g=>ndi (by unfold I64;omega)<|ndi ⟨by omega,by omega,j,Cz k0 i ?_⟩<|ndt ?_,fun g=>ndt (d fun h=>g h.2)⟩,fun f=>ndt (d fun h=>f h.1)⟩;rw[r1,s1];unfold Att.row;rw[show a.n=b.n from f,show a.v=b.v from g];show((l.map Att.row).length-(k+1)).toNat<((l.map Att.row).length-k).toNat;omega
def Cw {l:List a9}{j:Int}{u:a9}(b:l[j.toNat]? =some u):cI (rows l) j 0=u.k/\cS (rows l) j 1=u.t/\cS (rows l) j 2=u.y/\cL (rows l) j 3=u.a.map Att.row/\cS (rows l) j 4=u.x/\cL (rows l) j 5=rows u.c:=by simp only[cI,cS,cL,L2 b,t0,t1,t2,t3,t4,t5,Z4,C5,V2,and_self]
def vcSmn_ok (n:Nat):vcSmn n:=by
 unfold vcSmn;rintro _ _ _ _ _ _ _ _ _ _ _ _ ⟨⟨⟨s,⟨rfl,rfl,rfl,rfl,rfl,rfl⟩,M⟩,s',⟨rfl,rfl,rfl,rfl,rfl,rfl⟩,q⟩,l⟩;have l:szRs (rows s.c)<n+1:=l;have i:=(H2 s).1 M;have r:=(H2 s').1 q;obtain⟨L,T⟩:=hM i.1;have no:¬s=s'->W0 [.int s.k,.str s.t,.str s.y,.lst (s.a.map Att.row),.str s.x,.lst (rows s.c),.int s'.k,.str s'.t,.str s'.y,.lst (s'.a.map Att.row),.str s'.x,.lst (rows s'.c)] [.bool false]:=fun h u R d f=>by rw[y6]at d f;rw[d,f];exact⟨fun e=>by simp at e,fun e=>absurd e h⟩
 refine⟨fun e0=>⟨fun m=>⟨fun o=>⟨fun p=>ndi ⟨⟨s.a,s'.a,rfl,rfl⟩,by rw[Rc];omega⟩ fun b hb=>⟨fun E=>⟨fun hl=>?_,fun hl=>ndt (no fun e=>hl (by rw[e]))⟩,fun b0=>ndt (no fun e=>b0 (hb.2 (by rw[e])))⟩,fun p=>ndt (no fun e=>p (by rw[e]))⟩,fun o=>ndt (no fun e=>o (by rw[e]))⟩,fun m=>ndt (no fun e=>m (by rw[e]))⟩,fun e0=>ndt (no fun e=>e0 (by rw[e]))⟩;have F:=bG (hb.1 E);have hl:((rows s.c).length:Int)=(rows s'.c).length:=hl;refine ndi ⟨by omega,by omega,by omega,rfl⟩ fun j hI=>?_;obtain⟨C,N,O,D⟩:=hI;have U:((rows s.c).length:Int)=s.c.length:=by rw[rows,Rc]
 have V:((rows s'.c).length:Int)=s'.c.length:=by rw[rows,Rc]
 refine⟨fun hj=>?_,fun hj=>ndt fun u R d f=>?_⟩
 ·have w:j<s.c.length:=by unfold ln at hj;omega
  have z:j<s'.c.length:=by omega
  obtain⟨u,d⟩:=Sx.get_at C w;obtain⟨v,hv⟩:=Sx.get_at C z;obtain⟨g0,G,H,I,J,K⟩:=Cw d;obtain⟨k0,k1,k2,k3,P,Q⟩:=Cw hv;have S:=nA d;rw[g0,G,H,I,J,K,k0,k1,k2,k3,P,Q];refine ndi (by omega) (ndi hj (ndi (by omega) (ndi (by unfold ln;omega) (ndi ⟨⟨⟨u,⟨rfl,rfl,rfl,rfl,rfl,rfl⟩,bU i.2 d⟩,v,⟨rfl,rfl,rfl,rfl,rfl,rfl⟩,bU r.2 hv⟩,by show szRs (rows u.c)<n;omega⟩ fun b' g=>?_))));have g:=g u v ⟨rfl,rfl,rfl,rfl,rfl,rfl⟩ ⟨rfl,rfl,rfl,rfl,rfl,rfl⟩;refine⟨fun t=>ndi (by unfold I64;omega) (ndi ⟨by omega,by omega,by omega,Cz C D ?_⟩ (ndt ?_)),fun t=>ndt (no fun e=>t (g.2 ?_))⟩;have e:=g.1 t;rw[rows,rows,RL,RL,d,hv,e];show((rows s.c).length-(j+1)).toNat<((rows s.c).length-j).toNat;omega;rw[e,hv]at d;cases d;rfl
 rw[y6]at d f;rw[d,f];exact⟨fun _=>vH e0 m o F p (iJ.mp (GZ hj N O D)),fun _=>rfl⟩
def vcStp_ok :vcStp:=by unfold vcStp;rintro k t y a x c ⟨s,rfl,rfl,rfl,rfl,rfl,rfl⟩;refine ndi ⟨s,rfl,rfl,rfl,rfl,rfl,rfl⟩ fun e he=>?_;have h:=(he s ⟨rfl,rfl,rfl,rfl,rfl,rfl⟩).1;refine⟨fun e0=>ndi ⟨s,⟨rfl,rfl,rfl,rfl,rfl,rfl⟩,(h.1 e0).1⟩ fun k' t' d a' x' c' hc=>nin (nrn (ndt fun s' hs=>?_)),fun e0=>ndt fun s' hs=>?_⟩;have:=hc s' hs;rw[y6]at hs;exact⟨fun _=>this,fun b=>absurd (by rw[hs];exact h.1 e0) b⟩;rw[y6]at hs;exact⟨fun v=>absurd (h.2 (by rw[<-hs];exact v)) e0,fun _=>⟨rfl,rfl,rfl,rfl,rfl,rfl⟩⟩
def vcNsm_ok :vcNsm:=by
 unfold vcNsm;rintro _ _ _ _ _ _ _ _ _ _ _ _ ⟨⟨s,rfl,rfl,rfl,rfl,rfl,rfl⟩,s',rfl,rfl,rfl,rfl,rfl,rfl⟩;have no:¬(z5 s/\z5 s')->oS [.int s.k,.str s.t,.str s.y,.lst (s.a.map Att.row),.str s.x,.lst (rows s.c),.int s'.k,.str s'.t,.str s'.y,.lst (s'.a.map Att.row),.str s'.x,.lst (rows s'.c)] [.bool false]:=fun h u i g d=>by rw[y6]at g d;rw[g,d];exact⟨fun e=>by simp at e,fun e=>absurd ⟨e.1,e.2.1⟩ h⟩
 refine ndi ⟨s,rfl,rfl,rfl,rfl,rfl,rfl⟩ fun e he=>⟨fun e0=>ndi ⟨s',rfl,rfl,rfl,rfl,rfl,rfl⟩ fun f hf=>⟨fun f0=>?_,fun f0=>ndt (no fun h=>?_)⟩,fun e0=>ndt (no fun h=>?_)⟩
 have v:=(he s ⟨rfl,rfl,rfl,rfl,rfl,rfl⟩).1.1 e0;have v':=(hf s' ⟨rfl,rfl,rfl,rfl,rfl,rfl⟩).1.1 f0;refine ndi ⟨⟨s,⟨rfl,rfl,rfl,rfl,rfl,rfl⟩,v.1⟩,s',⟨rfl,rfl,rfl,rfl,rfl,rfl⟩,v'.1⟩ fun b hb=>ndt fun u i g d=>?_;have:=hb u i g d;rw[y6]at g d;rw[this,g,d];exact⟨fun e=>⟨v,v',e⟩,fun e=>e.2.2⟩;exact f0 ((hf s' ⟨rfl,rfl,rfl,rfl,rfl,rfl⟩).1.2 h.2);exact e0 ((he s ⟨rfl,rfl,rfl,rfl,rfl,rfl⟩).1.2 h.1)
def vcIs_ok :vcIs:=by
 unfold vcIs;rintro i g k t y a x c S fr lv c0 G w H I J L M st N ⟨R,Q,p,s,rfl,rfl,rfl,rfl,rfl,rfl⟩;refine nin (nrn (ndi ⟨R,Q,p⟩ fun k' t' U a' x' c' r d=>?_));obtain⟨F,P,z,C⟩:=p;have j:=d F P ⟨fr,lv,z⟩ C;have bad:∀e:Int,r≠0->r≠14->vcIs0 i g s.k s.t s.y (s.a.map Att.row) s.x (rows s.c) S fr lv c0 G w H I J L M st N r:=fun _ h1 h2=>ndt fun D K s1 f l hs=>by have d:=d D K f l;split at d;rename_i e;rw[e];exact⟨d,rfl⟩;rename_i q e;by_cases v:z5 (N8 D 6 q);exact absurd (d.1 v).1 h1;exact absurd (d.2 v) h2
 have o:∀e:Int,(r=0\/r=14)->(e=0↔z5 s)/\(e=0\/e=14)->e≠0->vcIs0 i g s.k s.t s.y (s.a.map Att.row) s.x (rows s.c) S fr lv c0 G w H I J L M st N e:=fun e hr h he=>ndt fun D K s1 f l hs=>by rw[y6]at hs;rw[hs];have d:=d D K f l;split at d;omega;rename_i q e;rw[e];exact⟨fun v=>absurd (h.1.2 v) he,fun _=>⟨by have:=h.2;omega,rfl⟩⟩
 refine⟨fun r0=>?_,fun r0=>⟨fun m=>?_,fun m=>bad 0 r0 m⟩⟩
 ·refine ndi ⟨s,rfl,rfl,rfl,rfl,rfl,rfl⟩ fun e he=>?_;have he:=he s ⟨rfl,rfl,rfl,rfl,rfl,rfl⟩;refine⟨fun e0=>?_,fun e0=>o e (.inl r0) he e0⟩;have v:=he.1.1 e0;refine ndi r0 (ndi ⟨s,rfl,rfl,rfl,rfl,rfl,rfl⟩ fun k2 t2 W a2 V w u=>?_);have u:=(u s ⟨rfl,rfl,rfl,rfl,rfl,rfl⟩).1 v;have ex:∃s2,isT s2 k' t' U a' x' c':=by split at j;omega;rename_i q e;by_cases v:z5 (N8 F 6 q);obtain⟨s2,_,h2⟩:=(j.1 v).2;exact⟨s2,h2⟩;exact absurd (j.2 v) (by omega)
  refine nin (nrn (nin (nrn (ndi ⟨ex,_,u⟩ fun b hb=>ndt fun D K s1 f l hs=>?_))));rw[y6]at hs;rw[hs];have d:=d D K f l;split at d;omega
  ·rename_i q e;rw[e];have T:z5 (N8 D 6 q):=Classical.byContradiction fun n=>by have:=d.2 n;omega
   obtain⟨_,s2,O,h2⟩:=d.1 T;rw[uZ]at O;subst O;exact⟨fun _=>⟨rfl,hb _ _ h2 u⟩,fun E=>absurd v E⟩
 refine ndi ⟨s,rfl,rfl,rfl,rfl,rfl,rfl⟩ fun e he=>?_;have he:=he s ⟨rfl,rfl,rfl,rfl,rfl,rfl⟩;refine⟨fun e0=>ndi r0 (ndt fun D K s1 f l hs=>?_),fun e0=>o e (.inr m) he e0⟩;rw[y6]at hs;rw[hs];have v:=he.1.1 e0;have d:=d D K f l;split at d;omega;rename_i q e;rw[e];exact⟨fun _=>⟨rfl,fun h=>by simp at h,fun h=>absurd (d.1 h.1).1 r0⟩,fun E=>absurd v E⟩
def vcHan_ok :vcHan:=by
 unfold vcHan;rintro i g S fr lv c0 e f h j l m n st N ⟨d,c,b,hv⟩;refine nin (nrn (ndi ⟨d,c,b⟩ fun k t a x o sz pn pi pg ch r hL=>?_));have hL:r=11:=by
  have:if G6 S i g=true then _ else r=11:=hL
  rwa[Re (by rw[hv];simp)]at this
 exact⟨fun r0=>by omega,fun _=>ndt hL⟩
def vcDrp_ok :vcDrp:=by
 unfold vcDrp;rintro i g S fr lv c0 F G H I J L M st N ⟨u,p,m,n,d,b,z⟩;refine nin (nrn (ndi ⟨u,p,m,n,d.1,b⟩ fun k t a x tp sz pn pi pg ch r hL=>?_));have facts:∀ {D K},RlC D S N fr lv [c0,F,G,H,I,J,L,M]->WF D K->G6 S i g=true-> ∃c,D.at i g=some c/\((cI N (atF S i g) 7=0/\cI N (atF S i g) 8=0)↔(D.nod c).par= -1):=fun{D K} O e hv=>by obtain⟨c,hc⟩:=O.1.vld.1 hv;obtain⟨s,h1,h2,h3,h4,h5,h6,h7,h8,h9,w,ab⟩:=O.1.flds hc;exact⟨c,hc,by rw[h9,w,h3];exact e.hI_zero h1 h2⟩
 by_cases hv:G6 S i g=true
 ·have this:if G6 S i g=true then _ else r=11:=hL
  rw[Rh hv]at this;obtain⟨_,_,_,_,_,_,_,e7,e8,_,r0⟩:=this;have up:¬(pi=0/\pg=0)->vcDrp0 S i g fr lv c0 F G H I J L M st N:=fun h=>by unfold vcDrp0;refine nin (nrn (ndi ⟨u,p,m,n,d,b⟩ fun r1 S1 aa ac b0 b1 b2 b3 b4 b5 b6 b7 ad N1 o=>?_));obtain⟨hF,o⟩:=o;refine nin (nrn (ndi ⟨u,p,_,_,(o m n d b).1,b.rem z⟩ fun r2 S2 v C R T U V W X Y Z E Q j=>?_));obtain⟨l,j⟩:=j;refine nin (nrn (ndt ⟨hF.trans l,fun D K f e y=>?_⟩));obtain⟨c,hc,hp⟩:=facts f e hv;have:=j _ _ (o D K f e).1 (e.rem y);unfold wD;rw[hc];simp only;rw[Re fun q=>h (by rw[e7,e8];exact hp.2 q)];exact this
  refine⟨fun _=>⟨fun P=>⟨fun g0=>?_,fun g0=>up fun h=>g0 h.2⟩,fun P=>up fun h=>P h.1⟩,fun h=>absurd r0 h⟩;refine nin (nrn (ndi ⟨u,p,m,n,d,b⟩ fun r2 S2 v C R T U V W X Y Z E Q j=>?_));obtain⟨l,j⟩:=j;refine nin (nrn (ndt ⟨l,fun D K f e y=>?_⟩));obtain⟨c,hc,hp⟩:=facts f e hv;have:=j D K f e;unfold wD;rw[hc];simp only;rw[Rh (hp.1 ⟨by omega,by omega⟩)];exact this
 ·have hL:r=11:=by
   have:if G6 S i g=true then _ else r=11:=hL
   rwa[Re hv]at this
  refine⟨fun r0=>by omega,fun _=>nin (nrn (ndt ⟨To,fun D K f e y=>?_⟩))⟩;unfold wD;rw[f.1.none hv];exact⟨f,hL⟩
