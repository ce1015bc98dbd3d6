/- The DOM: Insert: the condition holds.
  Conditions: none. -/
import Derived.Test.YtoegfalhkackeaaGreatB10
set_option linter.all false
noncomputable section
namespace Go.D
open Go Go.Xe Go.Sx
section
variable {D :DM}{S N S' N' st:Sx.Rows}{fr lv i g j m x y c0 c1 c2 c3 c4 c5 c6 c7:Int}{K c p k:Nat}{G:Nat->Nat}{cs:Ak}{Lr:Sx.Rows}{l:Ah}{t a:Int}
def Dk (h0:0<=t)(h1:t<=l.length){n q:Int}(hn:n=(l.length:Int)-t)(hq:q=(l.length:Int)+1):pQ ((pQ (l.map (F5 G)) 0 t++d8 2 1 [.int c,.int (G c)])++pQ (l.map (F5 G)) t n) 0 q=(l.take t.toNat++ [c]++l.drop t.toNat).map (F5 G):=by
 subst hn hq;have e:d8 2 1 [.int c,.int (G c)]=[c].map (F5 G):=rfl;rw[e,V0,V0,<-RH,<-RH,V0];congr 1;have a1:((l.length:Int)-t).toNat=l.length-t.toNat:=by omega
 have a2:((l.length:Int)+1).toNat=l.length+1:=by omega
 rw[a1,a2,Int.toNat_zero,SR,SR,RK (l:=l.drop t.toNat) (by simp)];rw[RK (by simp;omega)]
def iC (hn:l.Nodup)(d:D.opt x y=some a):(plF (l.map (F5 D.gen)) x y<0↔0<=a/\a.toNat∉l)/\(¬plF (l.map (F5 D.gen)) x y<0->plF (l.map (F5 D.gen)) x y<=l.length/\ ∀c,l.take (plF (l.map (F5 D.gen)) x y).toNat++ [c]++l.drop (plF (l.map (F5 D.gen)) x y).toNat=fG l c a):=by
 unfold DM.opt at d;unfold plF;by_cases e:x=0/\y=0;rw[Rh e]at d⊢;cases d;rw[Rc];refine⟨by omega,fun _=>⟨by omega,fun c=>?_⟩⟩;rw[Hr (by omega),RA,List.take_length,List.drop_length];simp
 ·rw[Re e]at d⊢;cases f:D.at x y with
  |none=>rw[f]at d;cases d
  |some b=>
   rw[f]at d;cases d;obtain⟨n,h1,h2,rfl,rfl⟩:=Th f;rw[show(n.g:Int)=(D.gen b:Nat) by rw[Ti h1],AD];by_cases m:b∈l
   ·have:=sS m;rw[Rh m];refine⟨by simp[m],fun _=>⟨by omega,fun c=>?_⟩⟩;have e:((0:Int)+(l.idxOf b:Nat)).toNat=l.idxOf b:=by omega
    rw[e,FI hn m]
   rw[Re m];exact⟨by simp[m],fun h=>absurd (by omega) h⟩
def Rl.opt (h:Rl G D S N fr lv)(hx:(x=0/\y=0)\/G6 S x y=true):∃a,D.opt x y=some a:=by unfold DM.opt;rcases hx with e|e;exact⟨-1,by rw[Rh e]⟩;obtain⟨b,hb⟩:=h.vld.1 e;by_cases e:x=0/\y=0;exact⟨-1,by rw[Rh e]⟩;exact⟨b,by rw[Re e,hb]⟩
def vcIns2_ok (hp:∃D K,RlC D S N fr lv [c0,c1,c2,c3,c4,c5,c6,c7]/\WF D K)(hv:G6 S i g=true)(hw:G6 S j m=true)(hx:(x=0/\y=0)\/G6 S x y=true)(hi:U32 i)(hg:U32 g)(hj:U32 j)(hm:U32 m)(ux:U32 x)(uy:U32 y):vcIns2 S i g fr lv c0 c1 c2 c3 c4 c5 c6 c7 st N j m x y:=by
 have hp':=hp;obtain⟨D,K,⟨hR,hc⟩,f⟩:=hp;have d:=hR.slen f;have facts:∀ {D K},RlC D S N fr lv [c0,c1,c2,c3,c4,c5,c6,c7]->WF D K-> ∃(p c:Nat) (a:Int) (sp F:Sl),D.at i g=some p/\D.at j m=some c/\D.opt x y=some a/\D.L[p]? =some sp/\sp.used=true/\D.nod p=sp.n/\D.L[c]? =some F/\F.used=true/\D.nod c=F.n/\i=p/\g=D.gen p/\j=c/\m=D.gen c/\cI N (atF S i g) 0=sp.n.kind/\cL N (atF S i g) 9=sp.n.ch.map (F5 D.gen)/\((cI N (atF S j m) 7=0/\cI N (atF S j m) 8=0)↔F.n.par= -1)/\wE D i g j m x y=open Classical in if(D.nod p).kind≠1 then(D,1)else if(D.nod c).par≠ -1\/Abv D c p then(D,10)else if 0<=a/\a.toNat∉(D.nod p).ch then(D,1)else(D.kids p c (fG (D.nod p).ch c a) p 3,0):=by intro D K o f;obtain⟨p,hp⟩:=o.1.vld.1 hv;obtain⟨c,hc⟩:=o.1.vld.1 hw;obtain⟨a,ha⟩:=o.1.opt hx;obtain⟨sp,h1,h2,h3,h4,h5,T,E,h8,h9,ac,aa⟩:=o.1.flds hp;obtain⟨F,k1,k2,k3,k4,k5,J,M,k8,k9,ab,ah⟩:=o.1.flds hc;refine⟨p,c,a,sp,F,hp,hc,ha,h1,h2,h3,k1,k2,k3,h4,by rw[Ti h1,h5],k4,by rw[Ti k1,k5],h8,aa,by rw[k9,ab];exact f.hI_zero k1 k2,?_⟩;unfold wE;rw[hp,hc,ha]
 obtain⟨p,c,a,sp,F,f1,f2,f3,f4,f5,f6,f7,f8,f9,ai,aj,ak,al,H,u,an,ao⟩:=facts ⟨hR,hc⟩ f;obtain⟨s,h1,h2,h3,h4,h5,T,E,h8,h9,ac,aa⟩:=hR.flds f1;obtain⟨s',k1,k2,k3,k4,k5,J,M,k8,k9,ab,ah⟩:=hR.flds f2;have bad:sp.n.kind=1->((¬(cI N (atF S j m) 7=0/\cI N (atF S j m) 8=0))\/ ∀D K c p,RlC D S N fr lv [c0,c1,c2,c3,c4,c5,c6,c7]->WF D K->D.at j m=some c->D.at i g=some p->Abv D c p)->vcIns0 S i g j m x y fr lv c0 c1 c2 c3 c4 c5 c6 c7 st N:=by intro hk hn;unfold vcIns0;refine nin (nrn (ndt (L6 fun D K o f=>?_)));obtain⟨p,c,a,ap,F,Z,g2,g3,g4,g5,I,g7,g8,g9,O,P,Q,R,v,w,A,r⟩:=facts o f;rw[r,Re (by rw[I,<-v,H];simp[hk]),Rh (by rcases hn with hn|hn;exact .inl (by rw[g9];exact fun e=>hn (A.2 e));exact .inr (hn D K c p o f g2 Z))];exact⟨rfl,rfl⟩
 have bad1:((cI N (atF S i g) 0≠1)\/((cI N (atF S j m) 7=0/\cI N (atF S j m) 8=0)/\(∀D K c p,RlC D S N fr lv [c0,c1,c2,c3,c4,c5,c6,c7]->WF D K->D.at j m=some c->D.at i g=some p-> ¬Abv D c p)/\plF (cL N (atF S i g) 9) x y<0))->vcIns1 S i g j m x y fr lv c0 c1 c2 c3 c4 c5 c6 c7 st N:=by intro hn;unfold vcIns1;refine nin (nrn (ndt (L6 fun D K o f=>?_)));obtain⟨p,c,a,sp,F,Z,g2,g3,g4,g5,I,g7,g8,g9,O,P,Q,R,v,w,A,r⟩:=facts o f;by_cases hk:sp.n.kind=1;rcases hn with hn| ⟨n1,n2,n3⟩;exact absurd (v.trans hk) hn;rw[w]at n3;rw[r,Re (by rw[I];simp[hk]),Re (by rw[g9];exact fun h=>h.elim (fun h=>h (A.1 n1)) (n2 D K c p o f g2 Z)),Rh (by rw[I];exact(iC (f.ch _ _ g4 g5).1 g3).1.1 n3)];exact⟨rfl,rfl⟩;rw[r,Rh (by rw[I];exact hk)];exact⟨rfl,rfl⟩
 have good:cI N (atF S i g) 0=1->(cI N (atF S j m) 7=0/\cI N (atF S j m) 8=0)->(∀D K c p,RlC D S N fr lv [c0,c1,c2,c3,c4,c5,c6,c7]->WF D K->D.at j m=some c->D.at i g=some p-> ¬Abv D c p)-> ¬plF (cL N (atF S i g) 9) x y<0-> ∀B:Sx.Rows,B=cL N (atF S i g) 9-> ∀n q:Int,n=ln (cL N (atF S i g) 9)-plF (cL N (atF S i g) 9) x y->q=ln (cL N (atF S i g) 9)+1->
   dN (J6 i g j m x y (JD S fr lv c0 c1 c2 c3 c4 c5 c6 c7 st N)) (.int 0::.lst S::J10 fr lv c0 c1 c2 (c3+1) c4 c5 c6 c7 [.lst st,.lst (i7 (i7 (i7 N (atF S i g) 9 (.lst (pQ ((pQ B 0 (plF (cL N (atF S i g) 9) x y)++d8 2 1 [.int j,.int m])++pQ B (plF (cL N (atF S i g) 9) x y) n) 0 q))) (atF S j m) 7 (.int i)) (atF S j m) 8 (.int g))]):=by
  intro hk hn hA W B hB n q V hq;subst hB;refine AS (k:=3) (fun D K o f=>?_) hp' rfl;obtain⟨p,c,a,sp,F,Z,g2,g3,g4,g5,I,g7,g8,g9,O,P,Q,R,v,w,A,r⟩:=facts o f;have e:wE D i g j m x y=(D.kids p c (fG sp.n.ch c a) p 3,0):=by rw[r,Re (by rw[I,<-v];simp[hk]),Re (by rw[g9];exact fun h=>h.elim (fun h=>h (A.1 hn)) (hA D K c p o f g2 Z)),Re (by rw[I];exact fun h=>W (by rw[w];exact(iC (f.ch _ _ g4 g5).1 g3).1.2 h)),I]
  rw[w]at W V hq⊢;obtain⟨b1,b2⟩:=(iC (f.ch _ _ g4 g5).1 g3).2 W;have l1:ln (sp.n.ch.map (F5 D.gen))=(sp.n.ch.length:Int):=by simp[ln]
  rw[l1]at V hq;refine⟨p,c,fG sp.n.ch c a,p,Z,g2,by rw[e],by rw[e],?_,?_,?_⟩;rw[Q,R,Dk (by omega) b1 V hq,b2];rw[O];unfold hI;rw[Re (by omega)];rw[P];unfold hG';rw[Re (by omega),RA]
 unfold vcIns2;refine aK ⟨hi,hg,d⟩ (M6 T E ⟨fun hk=>aK ⟨hj,hm,d⟩ (M6 J M ⟨fun X=>⟨fun Y=>?_,fun Y=>bad (by rw[<-H];exact hk) (.inl fun h=>Y h.2)⟩,fun X=>bad (by rw[<-H];exact hk) (.inl fun h=>X h.1)⟩),fun hk=>bad1 (.inl hk)⟩);refine nin (nrn (ndi ⟨hj,hm,hi,hg,D,K,c,p,hR,f,f2,f1⟩ fun b hb=>⟨fun ae=>bad (by rw[<-H];exact hk) (.inr fun D K c p h1 h2 h3 h4=>(hb D K c p h1.1 h2 h3 h4).1 ae),fun ad=>?_⟩));have hA:∀D K c p,RlC D S N fr lv [c0,c1,c2,c3,c4,c5,c6,c7]->WF D K->D.at j m=some c->D.at i g=some p-> ¬Abv D c p:=fun D K c p h1 h2 h3 h4 h=>ad ((hb D K c p h1.1 h2 h3 h4).2 h);have hP:dT [.int (atF S i g),.int x,.int y,.lst N]:=⟨ux,uy,T,E,by rw[u,Rc];exact f.kidlen f4 f5⟩
 have kl:=f.kidlen f4 f5;have ll:ln (cL N (atF S i g) 9)=(sp.n.ch.length:Int):=by rw[u];simp[ln]
 have U:I64 (c3+1):=f.i64 (k:=3) (by rw[<-hc];rfl);have pq:=iC (f.ch _ _ f4 f5).1 f3;rw[<-u]at pq;refine aK ⟨hi,hg,d⟩ (Cs hP ⟨fun hl=>bad1 (.inr ⟨⟨X,Y⟩,hA,hl⟩),fun hl=>aK ⟨hi,hg,d⟩ (M6 T E fun b=>⟨fun hb h0=>?_,fun hb=>ndi (by omega) ⟨fun h0=>?_,fun h0=>?_⟩⟩)⟩)
 ·have C:cL N (atF S i g) 9=[]:=by rw[u];rw[ll]at h0;have:sp.n.ch=[]:=QP (by omega);rw[this];rfl
  have z:plF (cL N (atF S i g) 9) x y=0:=by have:=(pq.2 hl).1;rw[ll]at h0;omega
  refine Cs hP (ndi hl (ndi (by omega) (aK ⟨hi,hg,d⟩ (aK ⟨hj,hm,d⟩ (M6 T E (M6 J M (ndi (by omega) (ndi ?_ (ndi E (M6 J M (ndi U (nin (nrn (ndt ?_))))))))))))));rw[z];simp[pQ,ln];exact good hk ⟨X,Y⟩ hA hl [] C.symm (0-plF (cL N (atF S i g) 9) x y) 1 (by rw[h0]) (by rw[h0];rfl)
 have z:d8 2 0 []++cL N (atF S i g) 9=cL N (atF S i g) 9:=rfl;refine Cs hP (nin (ndi hl (ndi (by have:=(pq.2 hl).1;omega) (ndi (by omega) (aK ⟨hi,hg,d⟩ (aK ⟨hj,hm,d⟩ (M6 T E (M6 J M (ndi (by omega) (ndi ?_ (ndi E (M6 J M (ndi U (nin (nrn (ndt ?_))))))))))))))));rw[z];have:=(pq.2 hl).1;simp only[pQ,ln,Ru,RO]at ll⊢;omega;rw[z];exact good hk ⟨X,Y⟩ hA hl _ rfl _ _ rfl rfl
 ·have C:cL N (atF S i g) 9=[]:=by rw[u];rw[ll]at h0;have:sp.n.ch=[]:=QP (by omega);rw[this];rfl
  have z:Sx.over (d8 2 0 []) 0 (cL N (atF S i g) 9)=cL N (atF S i g) 9:=by rw[C];rfl
  refine Cs hP (ndi (by omega) (ndi (by rw[z];omega) (ndi (by omega) (ndi (by rw[z];omega) (ndi hl (ndi (by have:=(pq.2 hl).1;omega) (ndi (by omega) (aK ⟨hi,hg,d⟩ (aK ⟨hj,hm,d⟩ (M6 T E (M6 J M (ndi (by omega) (ndi ?_ (ndi E (M6 J M (ndi U (nin (nrn (ndt ?_)))))))))))))))))));rw[z];have:=(pq.2 hl).1;simp only[pQ,ln,Ru,RO]at ll⊢;omega;rw[z];exact good hk ⟨X,Y⟩ hA hl _ rfl _ _ rfl rfl
theorem vcIns3_ok (h:G6 S i g=false\/G6 S j m=false\/(¬(x=0/\y=0)/\G6 S x y=false)):vcIns3 S i g j m x y fr lv c0 c1 c2 c3 c4 c5 c6 c7 st N:=by
 unfold vcIns3;refine nin (nrn (ndt (L6 fun D K b d=>?_)));have:wE D i g j m x y=(D,11):=by
  unfold wE;rcases h with h|h| ⟨h,h2⟩;rw[b.1.none (by simp[h])];rw[b.1.none (i:=j) (by simp[h])];split<;>simp_all
  ·have:D.opt x y=none:=by unfold DM.opt;rw[Re h,b.1.none (i:=x) (by simp[h2])]
   rw[this];split<;>simp_all
 rw[this];exact⟨rfl,rfl⟩
def vcIns_ok :vcIns:=by
 unfold vcIns;intro i g j m x y S fr lv c0 c1 c2 c3 c4 c5 c6 c7 st N h;obtain⟨hi,hg,hj,hm,ux,uy,hp⟩:=h;have hp':=hp;obtain⟨D,K,⟨q,hc⟩,r⟩:=hp;have b:=q.slen r;have d:¬(x=0/\y=0)->vcIns4 S i g fr lv c0 c1 c2 c3 c4 c5 c6 c7 st j m x y N:=by intro hn;unfold vcIns4;exact jI ⟨hi,hg,b⟩ ⟨fun e=>jI ⟨hj,hm,b⟩ ⟨fun f=>jI ⟨ux,uy,b⟩ ⟨fun o=>vcIns2_ok hp' e f (.inr o) hi hg hj hm ux uy,fun o=>vcIns3_ok (.inr (.inr ⟨hn,by simpa using o⟩))⟩,fun f=>vcIns3_ok (.inr (.inl (by simpa using f)))⟩,fun e=>vcIns3_ok (.inl (by simpa using e))⟩
 refine⟨fun ex=>⟨fun n=>jI ⟨hi,hg,b⟩ ⟨fun e=>jI ⟨hj,hm,b⟩ ⟨fun f=>vcIns2_ok hp' e f (.inl ⟨ex,n⟩) hi hg hj hm ux uy,fun f=>vcIns3_ok (.inr (.inl (by simpa using f)))⟩,fun e=>vcIns3_ok (.inl (by simpa using e))⟩,fun n=>d fun h=>n h.2⟩,fun ex=>d fun h=>ex h.1⟩
