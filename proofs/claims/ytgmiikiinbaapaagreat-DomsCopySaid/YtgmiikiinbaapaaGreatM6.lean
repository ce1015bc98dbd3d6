/- DomsCopy: equal DOMs of the program: the condition of Same holds.
  Conditions: none. -/
import Derived.Test.YtgmiikiinbaapaaGreatM4
set_option linter.all false
noncomputable section
namespace Go.D
open Go Go.Xe Go.Sx
section
variable {A B L N S S2 S' N':Sx.Rows}{k i g fr lv fr' lv' fr2 lv2:Int}{r s:Ar}{D D2:DM}{K K2 c:Nat}{cs ds:Ak}{T:List RS}{G G':Nat->Nat}
def rW (h:RlC D S N fr lv cs): [Dat.int i,.int g]∈hdF S 0↔ ∃c,D.at i g=some c:=by constructor;intro hm;obtain⟨T,M,rfl,rfl,b⟩:=h.1;rw[show hdF (T.map RS.row) 0=_ from HJ (T:=T) 0]at hm;obtain⟨j,h1,h2⟩:=Sj.1 hm;obtain⟨h1,d⟩:=List.mem_filter.1 h1;have h1:=List.mem_range.1 h1;simp only[RW,Dat.int.injEq,Sa]at h2;obtain⟨rfl,rfl⟩:=h2;have hj:T[j]? =some T[j]:=QL h1;rw[Rh,hj]at d⊢;obtain⟨s,a,e,f,_⟩:=b.back hj;have d:(T[j]).u=true:=d;refine⟨j,?_⟩;have:=SQ a (by rw[<-f];exact d);rw[SR a,<-e]at this;rw[show((0+j:Nat):Int)=j by omega];exact this;rintro ⟨c,hc⟩;obtain⟨T,M,rfl,rfl,b⟩:=h.1;obtain⟨s,r,h1,h2,h3,h4,l,_⟩:=b.at_ hc;obtain⟨s',a,e,f,_⟩:=b.back l;rw[h2]at a;cases a;have:=FF (k:=0) l (by rw[f];exact h3);rw[e,h4,show((0+c:Nat):Int)=i by omega]at this;exact this
def PI (h:D.L.map Sl.row=D2.L.map Sl.row):D.gen=D2.gen:=by
 funext j;have e:=congrArg (fun l:Sx.Rows=>l[j]?) h;simp only[RB]at e;unfold DM.gen;cases h1:D.L[j]? with
 |none=>rw[h1]at e;cases h2:D2.L[j]? with
  |none=>rfl|some q=>rw[h2]at e;cases e
 |some s=>rw[h1]at e;cases h2:D2.L[j]? with
  |none=>rw[h2]at e;cases e
  |some q=>rw[h2]at e;simp only[Rw,QA]at e;have:=s.r0;rw[e,q.r0]at this;simp at this;show s.g=q.g;omega
def Jt {s q:Sl}(h:s.row=q.row)(d:s.used=true):q.used=true/\s.g=q.g/\s.n.rn G=q.n.rn G:=by
 have h1:=s.r1;rw[h,q.r1,d]at h1;have hq:q.used=true:=by simpa using h1
 unfold Sl.row at h;rw[QW d,QW hq]at h;simp only[RW,Dat.int.injEq,Dat.str.injEq,Dat.lst.injEq,Dat.bool.injEq,Sa,RV]at h;obtain⟨e0,f,j,l,m,o,p,t,u,v⟩:=h;have:s.n.ch=q.n.ch:=(List.map_inj_right fun a b e=>by unfold l9 at e;simp at e;omega).1 v;refine⟨hq,by omega,?_⟩;unfold Nod.rn;rw[f,j,l,m,o,p,t,u,this]
def Jv (w:WF D K)(u:WF D2 K2){s q:Sl}(hs:D.L[c]? =some s)(hq:D2.L[c]? =some q)(o:s.used=true)(a:q.used=true)(hg:s.g=q.g)(h:(s.n.rn D.gen).row=(q.n.rn D2.gen).row):s.row=q.row:=by
 unfold RN.row Nod.rn at h;simp only[RW,Dat.int.injEq,Dat.str.injEq,Dat.lst.injEq,Dat.bool.injEq,Sa]at h;obtain⟨e0,v,x,y,z,C,E,m,d,F⟩:=h;have I:s.n.par=q.n.par:=by unfold hI at m;unfold hG' at d;rcases w.par c s hs o with p1| ⟨p,sp,p1,p2,_⟩<;>rcases u.par c q hq a with b| ⟨p',e,b,t,_⟩;rw[p1,b];rw[p1,QW (by omega)]at d;rw[b,QU (by omega),Rs,SR t]at d;have:=u.gen e (QK t);omega;rw[b,QU (by omega),QW (by omega),p1,Rs,SR p2]at d;have:=w.gen sp (QK p2);omega;rw[p1,b,QU (by omega),QU (by omega)]at m;omega
 have H:s.n.ch=q.n.ch:=by
  have:=congrArg (fun l:Sx.Rows=>l.map fun r=>(r.getD 0 (.int 0)).toInt.toNat) F;simp only[List.map_map]at this;have f:∀G,(fun r:Ar=>(r.getD 0 (.int 0)).toInt.toNat)∘E3 G=id:=fun G=>by funext j;simp[E3,Dat.toInt]
  rw[f,f,List.map_id,List.map_id]at this;exact this
 unfold Sl.row;rw[QW o,QW a,e0,v,x,y,z,C,E,hg,I,H]
def KJ (h:RlC D S N fr lv cs)(h2:RlC D2 S2 N fr2 lv2 ds)(e:D.L.map Sl.row=D2.L.map Sl.row):hdF S 0=hdF S2 0:=by
 have b:∀ {D:DM} {S:Sx.Rows} {fr lv:Int} {cs:Ak},RlC D S N fr lv cs->hdF S 0=((List.range (D.L.map Sl.row).length).filter fun j:Nat=>cB (D.L.map Sl.row) j 1).map (hL' (D.L.map Sl.row)):=fun{D S fr lv cs} h=>by
  obtain⟨T,M,rfl,rfl,d⟩:=h.1;rw[show hdF (T.map RS.row) 0=_ from HJ (T:=T) 0,QT,<-d.len];have row:∀j,j<T.length->cI (D.L.map Sl.row) j 0=(T.getD j ⟨0,false,0,0⟩).g/\cB (D.L.map Sl.row) j 1=(T.getD j ⟨0,false,0,0⟩).u:=fun j hj=>by have a:T[j]? =some T[j]:=QL hj;obtain⟨s,m,n,o,_⟩:=d.back a;obtain⟨f,l,_⟩:=fV (F:=D.free.map l9) (bs:=D.C) ⟨rfl,rfl,rfl⟩ m;rw[Rh,a,f,l];exact⟨n.symm,o.symm⟩
  rw[List.filter_congr fun j hj=>(row j (List.mem_range.1 hj)).2];refine List.map_congr_left fun j hj=>?_;have:=(row j (List.mem_range.1 (List.mem_filter.1 hj).1)).1;unfold hL';rw[this,show(0+j)=j by omega]
 rw[b h,b h2,e]
def Pt (h:RlC D S N fr lv cs)(h2:RlC D2 S2 N fr2 lv2 ds)(e:D.L.map Sl.row=D2.L.map Sl.row)(hk:D.at i g=some c):alk N S S2 i g:=by
 obtain⟨s,m,n,o,p,_,_,t⟩:=h.1.node hk;have e':=congrArg (fun l:Sx.Rows=>l[c]?) e;simp only[RB,m]at e';cases hc:D2.L[c]? with
 |none=>rw[hc]at e';cases e'
 |some q=>
  rw[hc]at e';simp only[Rw,QA]at e';obtain⟨u,b,d⟩:=Jt (G:=D.gen) e' o;have a:D2.at i g=some c:=by have:=SQ hc u;rw[SR hc,<-b,p]at this;rw[n];exact this
  obtain⟨s',p1,p2,v,w,_,_,j⟩:=h2.1.node a;rw[hc]at p1;cases p1;intro f _;rw[t,j,d,PI e]
def Pv (h:RlC D S N fr lv cs)(h2:RlC D2 S2 N fr2 lv2 ds)(w:WF D K)(b:WF D2 K2)(e:D.L.map Sl.row=D2.L.map Sl.row)(a:D.free=D2.free):waF S 1001 fr=waF S2 1001 fr2:=by rw[M8 (F:=D.free.map l9) (bs:=D.C) ⟨rfl,rfl,rfl⟩ h w,M8 (F:=D2.free.map l9) (bs:=D2.C) ⟨rfl,rfl,rfl⟩ h2 b,e,a]
def Pu (h:RlC D S N fr lv cs)(h2:RlC D2 S2 N fr2 lv2 ds)(w:WF D K)(E:WF D2 K2)(hh:hdF S 0=hdF S2 0)(u:waF S 1001 fr=waF S2 1001 fr2)(I:∀r∈hdF S 0,alk N S S2 (r.getD 0 (.int 0)).toInt (r.getD 1 (.int 0)).toInt):D.L.map Sl.row=D2.L.map Sl.row/\D.free=D2.free:=by
 rw[M8 (F:=D.free.map l9) (bs:=D.C) ⟨rfl,rfl,rfl⟩ h w,M8 (F:=D2.free.map l9) (bs:=D2.C) ⟨rfl,rfl,rfl⟩ h2 E]at u;have t:D.free=D2.free:=by
  have:=congrArg (fun l:Sx.Rows=>l.map fun r=>(r.getD 0 (.int 0)).toInt.toNat) u;simp only[List.map_map]at this;have f:∀L,(fun r:Ar=>(r.getD 0 (.int 0)).toInt.toNat)∘hL' L=id:=fun L=>by funext j;simp[hL',Dat.toInt]
  rw[f,f,List.map_id,List.map_id]at this;exact this
 refine⟨?_,t⟩;have b:∀i g,(∃c,D.at i g=some c)↔ ∃c,D2.at i g=some c:=fun i g=>by rw[<-rW h,<-rW h2,hh]
 have z:∀ {c:Nat} {s:Sl},D.L[c]? =some s->s.used=true-> ∃q,D2.L[c]? =some q/\s.row=q.row:=fun{c s} h1 a=>by
  have hk:=SQ h1 a;obtain⟨c',e⟩:=(b _ _).1 ⟨c,hk⟩;obtain⟨q,d,m,O,P⟩:=SP e;have:c=c':=by omega
  subst this;obtain⟨s',p1,p2,R,U,_,_,J⟩:=h.1.node hk;rw[h1]at p1;cases p1;obtain⟨q',r1,V,W,X,_,_,Q⟩:=h2.1.node e;rw[d]at r1;cases r1;have v:=I _ ((rW h).2 ⟨c,hk⟩);have v:alk N S S2 c (D.gen c):=v;refine⟨q,d,Jv w E h1 d a m (by omega) ?_⟩;apply List.ext_getElem?;intro j;by_cases hj:j<10;have:=v j hj;rw[J,Q,Rh,Rh,QL (l:=(s.n.rn D.gen).row) (by exact hj),QL (l:=(q.n.rn D2.gen).row) (by exact hj)]at this;rw[QL (l:=(s.n.rn D.gen).row) (by exact hj),QL (l:=(q.n.rn D2.gen).row) (by exact hj)];exact congrArg some this;rw[SK (by exact Sf hj),SK (by exact Sf hj)]
 have p:∀ {c:Nat} {q:Sl},D2.L[c]? =some q->q.used=true-> ∃s,D.L[c]? =some s:=fun{c q} h1 a=>by
  obtain⟨c',e⟩:=(b _ _).2 ⟨c,SQ h1 a⟩;obtain⟨s,d,m,O,P⟩:=SP e;have:c=c':=by omega
  subst this;exact⟨s,d⟩
 have x:∀ {c:Nat} {s:Sl},D.L[c]? =some s->s.used=false->c∈D.free:=fun h1 a=>by obtain⟨T,M,rfl,rfl,y⟩:=h.1;exact y.all _ _ h1 a
 have fr2:∀ {c:Nat} {s:Sl},D2.L[c]? =some s->s.used=false->c∈D2.free:=fun h1 a=>by obtain⟨T,M,rfl,rfl,y⟩:=h2.1;exact y.all _ _ h1 a
 apply List.ext_getElem?;intro c;rw[RB,RB];cases h1:D.L[c]? with
 |none=>
  cases h3:D2.L[c]? with
  |none=>rfl|some q=>
   cases a:q.used with
   |true=>obtain⟨s,hs⟩:=p h3 a;rw[h1]at hs;cases hs
   |false=>have:=fr2 h3 a;rw[<-t]at this;obtain⟨s,hs,_⟩:=w.free.2 c this;rw[h1]at hs;cases hs
 |some s=>
  cases a:s.used with
  |true=>obtain⟨q,d,m⟩:=z h1 a;rw[d,Rw,Rw,m]
  |false=>
   have hf:=x h1 a;have o:=hf;rw[t]at o;obtain⟨q,d,m⟩:=E.free.2 c o;rw[d,Rw,Rw];have H:s.g=q.g:=by rw[<-t]at u;have:=List.map_inj_left.1 u c hf;unfold hL' at this;rw[(fV (F:=D.free.map l9) (bs:=D.C) ⟨rfl,rfl,rfl⟩ h1).1,(fV (F:=D2.free.map l9) (bs:=D2.C) ⟨rfl,rfl,rfl⟩ d).1]at this;simp at this;omega
   unfold Sl.row;rw[a,m,H];rfl
def vcDsm_ok :vcDsm:=by
 unfold vcDsm;intro S fr lv c0 E I J M O P Q st S2 fr2 lv2 R U V X Y Z d6 d7 x N h;obtain⟨D,D2,K,K2,y,o,w,w2⟩:=h;have no:(∀D D2 K K2,RlC D S N fr lv [c0,E,I,J,M,O,P,Q]->RlC D2 S2 N fr2 lv2 [R,U,V,X,Y,Z,d6,d7]->WF D K->WF D2 K2-> ¬(D.L.map Sl.row=D2.L.map Sl.row/\D.free=D2.free/\D.C=D2.C))->vcDsm0 S fr lv c0 E I J M O P Q st S2 fr2 lv2 R U V X Y Z d6 d7 x N:=fun h=>ndt fun D D2 K K2 a m t v=>⟨fun e=>by simp at e,fun e=>absurd e (h D D2 K K2 a m t v)⟩
 have p:∀j,¬([c0,E,I,J,M,O,P,Q].getD j 0=[R,U,V,X,Y,Z,d6,d7].getD j 0)->vcDsm0 S fr lv c0 E I J M O P Q st S2 fr2 lv2 R U V X Y Z d6 d7 x N:=fun j h=>no fun D D2 K K2 a m _ _ e=>h (by rw[a.2,m.2,e.2.2]);obtain⟨hP,hM⟩:=y.1.hds w;obtain⟨ab,aa⟩:=o.1.hds w2;have hr:∀ {D:DM} {S:Sx.Rows},(∀r∈hdF S 0,∃(i g:Int) (c:Nat),r=[.int i,.int g]/\D.at i g=some c)->HR2 (hdF S 0):=fun h r hr=>by obtain⟨i,g,_,e,_⟩:=h r hr;exact⟨i,g,e⟩
 have wr:∀ {l:Ah} {L:Sx.Rows},HR2 (l.map (hL' L)):=fun r hr=>by obtain⟨j,_,rfl⟩:=Sj.1 hr;exact⟨_,_,rfl⟩
 refine nin<|nrn<|ndi hP fun H q=>?_;have q:H=hdF S 0:=q;refine⟨fun e0=>⟨fun e1=>⟨fun e2=>⟨fun e3=>⟨fun e4=>⟨fun e5=>⟨fun e6=>⟨fun e7=>?_,p 7⟩,p 6⟩,p 5⟩,p 4⟩,p 3⟩,p 2⟩,p 1⟩,p 0⟩;refine nin<|nrn<|ndi ⟨D,K,N,y.1,w⟩ fun W z=>nin<|nrn<|ndi ⟨D2,K2,N,o.1,w2⟩ fun W2 n=>?_;have z:W=waF S 1001 fr:=z;have n:W2=waF S2 1001 fr2:=n;have fl:D.free.length<=1000:=by
  have hs:D.free ⊆ List.range D.L.length:=fun j hj=>by obtain⟨s,h1,_⟩:=w.free.2 j hj;exact List.mem_range.2 (QD.1 h1).1
  have h9:=w.free.1.length_le_of_subset hs;have:=w.lim;rw[List.length_range]at h9;omega
 refine ndi ⟨?_,?_,?_⟩ fun b hb=>⟨fun ae=>?_,fun ad=>no fun D D2 K K2 a m t v e=>ad (hb.2 (by rw[z,n];exact Pv a m t v e.1 e.2.1))⟩
 rw[z,M8 (F:=D.free.map l9) (bs:=D.C) ⟨rfl,rfl,rfl⟩ y w];exact wr;rw[n,M8 (F:=D2.free.map l9) (bs:=D2.C) ⟨rfl,rfl,rfl⟩ o w2];exact wr;rw[z,M8 (F:=D.free.map l9) (bs:=D.C) ⟨rfl,rfl,rfl⟩ y w,QT];exact fl;have eW:waF S 1001 fr=waF S2 1001 fr2:=by rw[<-z,<-n];exact hb.1 ae
 refine nin<|nrn<|ndi ab fun H2 f=>?_;have f:H2=hdF S2 0:=f;have ai:¬H=H2->vcDsm0 S fr lv c0 E I J M O P Q st S2 fr2 lv2 R U V X Y Z d6 d7 x N:=fun h=>no fun D D2 K K2 a m t v e=>h (by rw[q,f];exact KJ a m e.1);refine⟨fun hl=>ndi ⟨by omega,by omega,by have hl:(H.length:Int)=H2.length:=hl;omega,rfl,fun r hr=>by simp at hr⟩ fun k hI=>?_,fun hl=>ai fun e=>hl (by rw[e])⟩;obtain⟨k0,k1,kl,ke,ka⟩:=hI;have lH:H.length<=1000:=by have:=w.live y.1;have:=hP.2.1;rw[q];omega
 refine⟨fun hk=>?_,fun hk=>ndt fun D D2 K K2 a m t v=>⟨fun _=>?_,fun _=>rfl⟩⟩
 ·have hk:k<H.length:=hk;obtain⟨r,r1,r2,r3⟩:=dO k0 hk;obtain⟨s,s1,s2,s3⟩:=dO k0 (show k<H2.length by omega);rw[q]at r2;rw[f]at s2;obtain⟨i,g,c,rfl,hc⟩:=hM r r2;obtain⟨j,h,d,rfl,hd⟩:=aa s s2;have x0:cI H k 0=i:=by simp only[cI,r3];rfl
  have x1:cI H k 1=g:=by simp only[cI,r3];rfl
  have y0:cI H2 k 0=j:=by simp only[cI,s3];rfl
  have y1:cI H2 k 1=h:=by simp only[cI,s3];rfl
  rw[x0,x1,y0,y1];have u:=w.u32 hc;have u2:=w2.u32 hd;refine ndi (by omega)<|ndi hk<|ndi (by omega)<|ndi (show k<H2.length by omega)<|nin<|nrn<|nin<|nrn<|ndi ⟨u.1,u.2.1,u2.1,u2.2.1,D,D2,K,K2,c,d,y,o,w,w2,hc,hd⟩ fun b hb=>⟨fun b1=>ndi (by unfold I64;omega)<|ndi ⟨by omega,by omega,kl,?_,?_⟩<|ndt ?_,fun b0=>?_⟩
  obtain⟨rfl,rfl,_⟩:=hb.1 b1;exact cO k0 ke (by rw[r1,s1]);obtain⟨rfl,rfl,ac⟩:=hb.1 b1;intro r hr;rw[show(k+1).toNat=k.toNat+1 by omega,List.take_add_one,r1]at hr;rcases Ro.1 hr with h|h;exact ka r h;simp at h;subst h;exact ac;show(H.length-(k+1)).toNat<(H.length-k).toNat;omega
  ·refine no fun D D2 K K2 a m t v e=>b0 (hb.2 ?_);have eH:H=H2:=by rw[q,f];exact KJ a m e.1
   rw[eH,s1]at r1;simp only[QA,RW,Dat.int.injEq,Sa]at r1;obtain⟨rfl,rfl⟩:=r1;obtain⟨c',ah⟩:=(rW a).1 r2;exact⟨rfl,rfl,Pt a m e.1 ah⟩
 have eH:=iO hk k1 kl ke;have hk:¬k<(H.length:Int):=hk;rw[RA (by omega),q]at ka;obtain⟨a1,a2⟩:=Pu a m t v (by rw[<-q,<-f];exact eH) eW ka;exact⟨a1,a2,by rw[<-a.2,<-m.2,e0,e1,e2,e3,e4,e5,e6,e7]⟩
