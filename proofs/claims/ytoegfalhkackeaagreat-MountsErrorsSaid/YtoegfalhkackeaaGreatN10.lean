/- Mounts: the conditions of Clear, of Clone and of the law MountsErrors hold.
  Conditions: none. -/
import Derived.Test.YtoegfalhkackeaaGreatN9
set_option linter.all false
noncomputable section
namespace Go.D
open Go Go.Xe Go.Sx
variable {D:DM}{g i:Int}
def WF.drp {K:Nat}(w:WF D K)(a:K+2<=1000):WF (wD D i g).1 (K+2):=by unfold wD;split;exact w.mono (by omega) a;split;exact(w.fre (i:=i) (g:=g) (by omega)).mono (by omega) a;exact(w.rem (i:=i) (g:=g) (by omega)).fre (by omega)
def WF.drpL :∀ {l:List (Int×Int)} {D:DM} {K:Nat},WF D K->K+2*l.length<=1000->WF (Go.D.drpL D l) (K+2*l.length)
 | [],D,K,w,_=>w|x::l,D,K,w,h=>by simp only[RC]at h;have:=WF.drpL (l:=l) (w.drp (i:=x.1) (g:=x.2) (by omega)) (by omega);simp only[RC];rwa[show K+2*(l.length+1)=K+2+2*l.length by omega]
variable {x:Int ×Int}
def KM {l:List (Int×Int)}{j:Int}(h:l[j.toNat]? =some x):cI (l.map LR) j 0=x.1/\cI (l.map LR) j 1=x.2:=by unfold cI;rw[l6 h 0,l6 h 1];exact⟨rfl,rfl⟩
def chH (D:DM)(c:Nat):List (Int×Int):=(D.nod c).ch.map fun(j:Nat)=>((j:Int),(D.gen j:Int))
variable {c:Nat}
def Na :(chH D c).map LR=(D.nod c).ch.map (F5 D.gen):=by unfold chH;rw[List.map_map];rfl
def GQ :(chH D c).length=(D.nod c).ch.length:=by unfold chH;rw[Rc]
def chH_u {K:Nat}(w:WF D K)(h:D.at i g=some c)(hx:x∈chH D c):U32 x.1/\U32 x.2:=by
 unfold chH at hx;obtain⟨j,hj,rfl⟩:=SE.1 hx;unfold DM.at at h;split at h
 ·split at h
  ·rename_i s hs;split at h
   ·rename_i b;cases h;have en:D.nod i.toNat=s.n:=Tj hs;rw[en]at hj;obtain⟨sj,h1,h2,h3⟩:=(w.ch _ s hs b.1).2 j hj;have:=w.gen sj (QT h1);have:=(QL.1 h1).1;have a:D.gen j=sj.g:=by unfold DM.gen;rw[h1]
    have:=w.lim;unfold U32;simp only[a];omega
   cases h
  cases h
 cases h
def vcClr_ok :vcClr:=by
 unfold vcClr;rintro i g S fr lv c0 M O P Q R U V st N ⟨ui,ug,D0,v,n,d,u⟩;refine nin (nrn (ndi ⟨ui,ug,D0,v,n.1,d⟩ fun k t a x tp sz pn pi pg ch r hL=>?_));have facts:∀ {D K},RlC D S N fr lv [c0,M,O,P,Q,R,U,V]->WF D K->G6 S i g=true-> ∃c,D.at i g=some c/\cI N (atF S i g) 0=(D.nod c).kind/\cL N (atF S i g) 9=(chH D c).map LR:=fun{D K} I f hv=>by obtain⟨c,hc⟩:=I.1.vld.1 hv;obtain⟨s,h1,h2,h3,h4,h5,h6,h7,Z,h9,Y,w⟩:=I.1.flds hc;exact⟨c,hc,by rw[Z,h3],by rw[w,Na,h3]⟩
 by_cases hv:G6 S i g=true
 ·have this:if G6 S i g=true then _ else r=11:=hL
  rw[Rh hv]at this;obtain⟨e0,_,_,_,_,_,_,_,_,o,r0⟩:=this;obtain⟨m,h0,k0,F⟩:=facts n d hv;have u:=u m h0;rw[F]at o;have J:((ch.length:Nat):Int)=(chH D0 m).length:=by rw[o,Rc]
  refine⟨fun _=>⟨fun k1=>?_,fun k1=>nin (nrn (ndt ⟨To,fun D K b f p=>?_⟩))⟩,fun h=>absurd r0 h⟩
  ·refine nin (nrn (ndi ⟨rfl,by omega,by omega,To,fun l D K e b f p=>by simpa [drpL]using b⟩ fun N1 j S1 W aa b0 b1 b2 b3 b4 b5 b6 b7 z ac hI=>?_));obtain⟨L,E,j1,hF,hI⟩:=hI;refine⟨fun hj=>?_,fun hj=>?_⟩
   ·have C:j<(chH D0 m).length:=by unfold ln at hj;omega
    obtain⟨x,hx⟩:=Sx.get_at E C;have ux:=chH_u d h0 (QT hx);have ex:cI ch j 0=x.1/\cI ch j 1=x.2:=by rw[o];exact KM hx
    have len:(chH D0 m).length=(D0.nod m).ch.length:=GQ;have tl:((chH D0 m).take j.toNat).length=j.toNat:=by rw[Ru];omega
    have w1:WF (drpL D0 ((chH D0 m).take j.toNat)) (v+2*j.toNat):=by have:=WF.drpL (l:=(chH D0 m).take j.toNat) d (by omega);rwa[tl]at this
    refine ndi (by omega) (ndi hj (nin (nrn (ndi (by simp[L]) (ndi ⟨by rw[ex.1];exact ux.1,by rw[ex.2];exact ux.2,_,_,hI _ D0 v o n d (by omega),w1,by omega⟩ fun r2 S2 X ab d0 d1 d2 d3 d4 d5 d6 d7 ad N2 A=>?_)))));obtain⟨B,A⟩:=A;refine ndi (by unfold I64;omega) (nin (nrn (ndi ⟨rfl,by omega,by omega,hF.trans B,fun l D K e b f p=>?_⟩ (ndt (by show(_-_:Int).toNat<(_-_:Int).toNat;unfold ln at hj;omega)))));have ll:l.length=ch.length:=by rw[e,Rc]
    obtain⟨y,hy⟩:=Sx.get_at (T:=l) E (by omega);have H:cI ch j 0=y.1/\cI ch j 1=y.2:=by rw[e];exact KM hy
    have G:(l.take j.toNat).length=j.toNat:=by rw[Ru];omega
    have w2:WF (drpL D (l.take j.toNat)) (K+2*j.toNat):=by have:=WF.drpL (l:=l.take j.toNat) f (by omega);rwa[G]at this
    have:=(A _ _ (hI l D K e b f p) w2 (by omega)).1;rw[H.1,H.2]at this;rw[B3 E hy];unfold drpL at this⊢;rw[List.foldl_append];exact this
   ·refine nin (nrn (ndi (by simp[L]) (ndt ⟨hF,fun D K b f p=>?_⟩)));obtain⟨q,h1,h2,h3⟩:=facts b f hv;have:=hI (chH D q) D K (by rw[o,<-F,h3]) b f (by rw[GQ];exact p q h1);have ll:(chH D q).length=ch.length:=by rw[o,<-F,h3,Rc]
    rw[F7 (by unfold ln at hj;omega)]at this;unfold EJ;rw[h1];simp only;rw[Re (by rw[<-h2];omega)];exact⟨this,rfl⟩
  obtain⟨q,h1,h2,h3⟩:=facts b f hv;unfold EJ;rw[h1];simp only;rw[Rh (by rw[<-h2];omega)];exact⟨b,rfl⟩
 ·have hL:r=11:=by
   have:if G6 S i g=true then _ else r=11:=hL
   rwa[Re hv]at this
  refine⟨fun r0=>by omega,fun _=>nin (nrn (ndt ⟨To,fun D K b f p=>?_⟩))⟩;unfold EJ;rw[b.1.none hv];exact⟨b,hL⟩
def vcCln_ok :vcCln:=by
 unfold vcCln;rintro i g S fr lv c0 z A B C E F G st N ⟨P,O,D0,u,f,h,l⟩;refine nin (nrn (ndi ⟨P,O,D0,u,f.1,h⟩ fun k t y a x c r I=>?_));have get:∀ {D K},RlC D S N fr lv [c0,z,A,B,C,E,F,G]->WF D K->match D.at i g with
   |none=>r=11|some q=>(z5 (N8 D 6 q)->r=0/\isT (N8 D 6 q) k t y a x c)/\(¬z5 (N8 D 6 q)->r=14):=fun{D K} d j=>by
  have:=I D K ⟨fr,lv,d.1⟩ j;split at this;rename_i e;rw[e];exact this;rename_i q e;rw[e];refine⟨fun v=>?_,this.2⟩;obtain⟨h1,s,h2,h3⟩:=this.1 v;rw[uZ]at h2;exact⟨h1,by rw[<-h2];exact h3⟩
 have g0:=get f h;refine⟨fun r0=>?_,fun r0=>nin (nrn (ndt ⟨by unfold U32;omega,by unfold U32;omega,To,fun D K d j w=>?_⟩))⟩
 ·have h0:∃q,D0.at i g=some q/\z5 (N8 D0 6 q)/\isT (N8 D0 6 q) k t y a x c:=by
   split at g0;omega
   ·rename_i q e;have v:z5 (N8 D0 6 q):=Classical.byContradiction fun n=>by have:=g0.2 n;omega
    exact⟨q,e,v,(g0.1 v).2⟩
  obtain⟨L,a0,v0,t0⟩:=h0;refine nin (nrn (nin (nrn (ndi ⟨_,D0,u,t0,f,h,l L a0⟩ fun i' g' r' S' H J R T U V W X Y Z M Q m=>?_))));obtain⟨p,o,hF,m⟩:=m;refine nin (nrn (ndt ⟨p,o,hF,fun D K d j w=>?_⟩));have b:=get d j;split at b;omega
  ·rename_i q e;rw[e];have v:z5 (N8 D 6 q):=Classical.byContradiction fun n=>by have:=b.2 n;omega
   exact⟨fun _=>(m _ D K (b.1 v).2 d j).1 v (w q e v),fun n=>absurd v n⟩
 have b:=get d j;split at b;rename_i e;rw[e];exact⟨d,b⟩;rename_i q e;rw[e];exact⟨fun v=>absurd (b.1 v).1 r0,fun n=>⟨d,b.2 n⟩⟩
def DE :DM:=⟨[],[],[0,0,0,0,0,0,0,0]⟩
def wfE :WF DE 0:=⟨⟨Ri _,by omega⟩,fun s h=>by simp[DE]at h,fun i s h=>by simp[DE]at h,fun i s h=>by simp[DE]at h,⟨fun _=>0,fun _=>Ri _,fun i s h=>by simp[DE]at h⟩,fun i s h=>by simp[DE]at h,⟨0,0,0,0,0,0,0,rfl,rfl,by omega,by simp⟩,fun i s h=>by simp[DE]at h,⟨List.nodup_nil,fun i h=>by simp[DE]at h⟩⟩
variable {N:Sx.Rows}{cs:Ak}
def rlE (h:∃M:List RN,N=M.map RN.row)(hc:cs=[0,0,0,0,0,0,0,0]):RlC DE [] N 0 0 cs:=by obtain⟨M,e⟩:=h;exact⟨⟨[],M,rfl,e,rfl,fun i s h=>by simp[DE]at h,fun i j ri rj h=>by simp at h,rfl,List.nodup_nil,fun i s h=>by simp[DE]at h,rfl⟩,hc⟩
variable {S:Sx.Rows}
def Hx {fr lv:Int}(h:RlC D S N fr lv cs):∃M:List RN,N=M.map RN.row:=by obtain⟨⟨T,M,_,e,_⟩,_⟩:=h;exact⟨M,e⟩
def atE :DE.at i g=none:=by unfold DM.at;simp[DE]
def vldE {fr lv:Int}(h:RlC DE S N fr lv cs):G6 S i g=false:=by cases e:G6 S i g;rfl;obtain⟨k,hk⟩:=h.1.vld.1 e;rw[atE]at hk;cases hk
def drpE :wD DE i g=(DE,11):=by unfold wD;rw[atE]
def clrE :EJ DE i g=(DE,11):=by unfold EJ;rw[atE]
def creE :(D8 DE 1 [120] []).1.at (D8 DE 1 [120] []).2.1 (D8 DE 1 [120] []).2.2.1=some 0:=by rfl
def yesB {d:Ar}{b:Bool}(h:mK d [.bool b]):b=true:=by have h: [Dat.bool b]=[.bool true]:=h;simpa using h
def vcMer_ok :vcMer:=by
 unfold vcMer;rintro _ _ _ _ _ _ i g N ⟨rfl,⟨s,rfl,rfl,rfl,rfl,rfl,rfl⟩,y,u⟩;refine ndi ⟨by omega,by omega,s,rfl,rfl,rfl,rfl,rfl,rfl⟩ fun w hw=>⟨fun _=>ndi rfl fun b hb=>ndt (yesB hb),fun _=>?_⟩
 refine ndi ⟨s,rfl,rfl,rfl,rfl,rfl,rfl⟩ fun e he=>?_;have he:=he s ⟨rfl,rfl,rfl,rfl,rfl,rfl⟩;refine ndi trivial fun S fr lv c0 c1 c2 c3 c4 c5 O c7 st hN=>?_;obtain⟨rfl,rfl,rfl,ae⟩:=hN;have Q:RlC DE [] [] 0 0 [c0,c1,c2,c3,c4,c5,O,c7]:=rlE ⟨[],rfl⟩ ae;have hb:z5 s->0+M2 s<=1000:=fun v=>by have:=CN s v.1;have:=v.2.1;omega
 refine nin (nrn (ndi ⟨s,DE,0,⟨rfl,rfl,rfl,rfl,rfl,rfl⟩,Q,wfE,hb⟩ fun i1 g1 r1 S1 aq av b0 b1 b2 b3 b4 b5 A X aw N1 L=>?_));obtain⟨_,_,au,L⟩:=L;have L:=L s DE 0 ⟨rfl,rfl,rfl,rfl,rfl,rfl⟩ Q wfE;refine ndi ⟨s,rfl,rfl,rfl,rfl,rfl,rfl⟩ fun p0 p1 p2 p3 p4 p5 p6 p7 r2 W=>?_;have W:=W s ⟨rfl,rfl,rfl,rfl,rfl,rfl⟩;by_cases v:z5 s
 ·have e0:=he.1.2 v;obtain⟨z,_,H⟩:=L.1 v (hb v);have I:=(W.1 v).2;have nM:=Hx z;refine⟨fun _=>⟨fun _=>⟨fun _=>?_,fun h=>absurd e0 h⟩,fun h=>absurd (I.trans e0.symm) h⟩,fun h=>absurd (H.trans e0.symm) h⟩;refine ndi trivial fun T ft lt Z d1 d2 d3 d4 d5 d6 d7 sd G=>?_;obtain⟨rfl,rfl,rfl,hds⟩:=G;have f:RlC DE [] N1 0 0 [Z,d1,d2,d3,d4,d5,d6,d7]:=rlE nM hds;refine nin (nrn (ndi ⟨y,u,⟨DE,0,f.1,wfE⟩,vldE f⟩ fun l K hH=>?_));have K:K=11:=hH;refine nin (nrn (ndi ⟨y,u,⟨DE,0,f.1,wfE⟩,s,rfl,rfl,rfl,rfl,rfl,rfl⟩ fun Y ri hI=>?_));have hI:=hI DE 0 s ⟨0,0,f.1⟩ wfE ⟨rfl,rfl,rfl,rfl,rfl,rfl⟩;rw[atE]at hI;have hI:ri=11/\Y=false:=hI;refine nin (nrn (ndi ⟨y,u,DE,0,f,wfE,fun q h=>by rw[atE]at h;cases h⟩ fun i3 g3 r3 S3 aa ah f0 f1 f2 f3 f4 f5 f6 f7 al N3 hL=>?_));obtain⟨_,_,_,hL⟩:=hL;have hL:=hL DE 0 f wfE fun q h=>by rw[atE]at h;cases h
  rw[atE]at hL;obtain⟨j,J⟩:=hL;refine⟨fun _=>⟨fun _=>⟨fun _=>?_,fun h=>absurd J h⟩,fun h=>absurd hI.1 h⟩,fun h=>absurd K h⟩;refine nin (nrn (ndi ⟨y,u,DE,0,j,wfE,by omega⟩ fun r4 S4 ab ai j0 j1 j2 j3 j4 j5 j6 j7 an N4 C=>?_));obtain⟨_,C⟩:=C;obtain⟨a,n⟩:=C DE 0 j wfE (by omega);rw[drpE]at a n;refine⟨fun _=>?_,fun h=>absurd n h⟩;refine nin (nrn (ndi ⟨y,u,DE,0,a,wfE,fun q h=>by rw[atE]at h;cases h⟩ fun r5 S5 ac aj m0 m1 m2 m3 m4 m5 m6 m7 ao N5 F=>?_));obtain⟨_,F⟩:=F;obtain⟨d,o⟩:=F DE 0 a wfE fun q h=>by rw[atE]at h;cases h
  rw[clrE]at d o;refine⟨fun _=>?_,fun h=>absurd o h⟩;refine nin (nrn (ndi ⟨rfl,rfl,rfl,.inl ⟨rfl,rfl⟩,DE,0,d,wfE⟩ fun i6 g6 r6 S6 ad ak o0 o1 o2 o3 o4 o5 o6 o7 ap N6 E=>?_));obtain⟨_,E⟩:=E;obtain⟨m,P⟩:=E DE 0 d wfE;obtain⟨k6,U,p⟩:=zY (D:=DE) (k:=1) (t:=[120]) (x:=[]) wfE (by omega) (.inl ⟨rfl,by decide,rfl⟩);have V:WF (D8 DE 1 [120] []).1 1:=wfE.cre (by omega) (.inl rfl);simp only[Prod.ext_iff]at P;obtain⟨M,A,O⟩:=P;rw[<-M]at U;rw[<-A]at p;refine nin (nrn (ndi ⟨U,p,⟨_,1,m.1,V⟩,s,rfl,rfl,rfl,rfl,rfl,rfl⟩ fun X r7 r=>?_));have r:=r _ 1 s ⟨_,_,m.1⟩ V ⟨rfl,rfl,rfl,rfl,rfl,rfl⟩;rw[M,A,creE]at r;refine⟨fun _=>⟨fun _=>ndi e0 (ndi rfl fun b hb=>ndt (yesB hb)),fun h=>absurd ((r.1 v).1.trans e0.symm) h⟩,fun h=>absurd (O.trans k6) h⟩
 ·have B:e=14:=by rcases he.2 with h|h;exact absurd (he.1.1 h) v;exact h
  obtain⟨z,rfl,rfl,H⟩:=L.2 v;obtain⟨hp,I⟩:=W.2 v;have nM:=Hx z;have R: [b0,b1,b2,b3,b4,b5,A,X]=[0,0,0,0,0,0,0,0]:=z.2;simp only[Sj,Sq]at R hp;obtain⟨rfl,rfl,rfl,rfl,rfl,rfl,rfl,rfl⟩:=R;obtain⟨rfl,rfl,rfl,rfl,rfl,rfl,rfl,rfl⟩:=hp;refine⟨fun _=>⟨fun _=>⟨fun h=>by omega,fun _=>?_⟩,fun h=>absurd (I.trans B.symm) h⟩,fun h=>absurd (H.trans B.symm) h⟩;refine⟨fun _=>⟨fun _=>⟨fun _=>⟨fun _=>⟨fun _=>⟨fun _=>⟨fun _=>⟨fun _=>⟨fun _=>⟨fun _=>⟨fun _=>⟨fun _=>⟨fun _=>⟨fun _=>⟨fun _=>⟨fun _=>⟨fun _=>⟨fun _=>?_,fun h=>absurd rfl h⟩,fun h=>absurd rfl h⟩,fun h=>absurd rfl h⟩,fun h=>absurd rfl h⟩,fun h=>absurd rfl h⟩,fun h=>absurd rfl h⟩,fun h=>absurd rfl h⟩,fun h=>absurd rfl h⟩,fun h=>absurd rfl h⟩,fun h=>absurd rfl h⟩,fun h=>absurd rfl h⟩,fun h=>absurd rfl h⟩,fun h=>absurd rfl h⟩,fun h=>absurd rfl h⟩,fun h=>absurd rfl h⟩,fun h=>absurd rfl h⟩,fun h=>absurd rfl h⟩,fun h=>absurd rfl h⟩;refine ndi trivial fun T ft lt Z d1 d2 d3 d4 d5 d6 d7 sd G=>?_;obtain⟨rfl,rfl,rfl,hds⟩:=G;have f:RlC DE [] N1 0 0 [Z,d1,d2,d3,d4,d5,d6,d7]:=rlE nM hds;refine nin (nrn (ndi ⟨y,u,⟨DE,0,f.1,wfE⟩,vldE f⟩ fun l K hH=>?_));have K:K=11:=hH;refine nin (nrn (ndi ⟨y,u,⟨DE,0,f.1,wfE⟩,s,rfl,rfl,rfl,rfl,rfl,rfl⟩ fun Y ri hI=>?_));have hI:=hI DE 0 s ⟨0,0,f.1⟩ wfE ⟨rfl,rfl,rfl,rfl,rfl,rfl⟩;rw[atE]at hI;have hI:ri=11/\Y=false:=hI;refine nin (nrn (ndi ⟨y,u,DE,0,f,wfE,fun q h=>by rw[atE]at h;cases h⟩ fun i3 g3 r3 S3 aa ah f0 f1 f2 f3 f4 f5 f6 f7 al N3 hL=>?_));obtain⟨_,_,_,hL⟩:=hL;have hL:=hL DE 0 f wfE fun q h=>by rw[atE]at h;cases h
  rw[atE]at hL;obtain⟨j,J⟩:=hL;refine⟨fun _=>⟨fun _=>⟨fun _=>?_,fun h=>absurd J h⟩,fun h=>absurd hI.1 h⟩,fun h=>absurd K h⟩;refine nin (nrn (ndi ⟨y,u,DE,0,j,wfE,by omega⟩ fun r4 S4 ab ai j0 j1 j2 j3 j4 j5 j6 j7 an N4 C=>?_));obtain⟨_,C⟩:=C;obtain⟨a,n⟩:=C DE 0 j wfE (by omega);rw[drpE]at a n;refine⟨fun _=>?_,fun h=>absurd n h⟩;refine nin (nrn (ndi ⟨y,u,DE,0,a,wfE,fun q h=>by rw[atE]at h;cases h⟩ fun r5 S5 ac aj m0 m1 m2 m3 m4 m5 m6 m7 ao N5 F=>?_));obtain⟨_,F⟩:=F;obtain⟨d,o⟩:=F DE 0 a wfE fun q h=>by rw[atE]at h;cases h
  rw[clrE]at d o;refine⟨fun _=>?_,fun h=>absurd o h⟩;refine nin (nrn (ndi ⟨rfl,rfl,rfl,.inl ⟨rfl,rfl⟩,DE,0,d,wfE⟩ fun i6 g6 r6 S6 ad ak o0 o1 o2 o3 o4 o5 o6 o7 ap N6 E=>?_));obtain⟨_,E⟩:=E;obtain⟨m,P⟩:=E DE 0 d wfE;obtain⟨k6,U,p⟩:=zY (D:=DE) (k:=1) (t:=[120]) (x:=[]) wfE (by omega) (.inl ⟨rfl,by decide,rfl⟩);have V:WF (D8 DE 1 [120] []).1 1:=wfE.cre (by omega) (.inl rfl);simp only[Prod.ext_iff]at P;obtain⟨M,A,O⟩:=P;rw[<-M]at U;rw[<-A]at p;refine nin (nrn (ndi ⟨U,p,⟨_,1,m.1,V⟩,s,rfl,rfl,rfl,rfl,rfl,rfl⟩ fun X r7 r=>?_));have r:=r _ 1 s ⟨_,_,m.1⟩ V ⟨rfl,rfl,rfl,rfl,rfl,rfl⟩;rw[M,A,creE]at r;refine⟨fun _=>⟨fun _=>ndi (by omega) ⟨fun hb=>?_,fun _=>ndi rfl fun b hb=>ndt (yesB hb)⟩,fun h=>absurd ((r.2 v).1.trans B.symm) h⟩,fun h=>absurd (O.trans k6) h⟩;rw[(r.2 v).2]at hb;cases hb
