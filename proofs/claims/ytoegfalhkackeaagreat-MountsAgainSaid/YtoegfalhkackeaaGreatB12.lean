/- The DOM: Insert: the condition holds.
  Conditions: none. -/
import Derived.Test.YtoegfalhkackeaaGreatB10
set_option linter.all false
noncomputable section
namespace Go.D
open Go Go.Xe Go.Sx
section
variable {D :DM}{S N S' N' st:Sx.Rows}{fr lv i g j m x y c0 c1 c2 c3 c4 c5 c6 c7:Int}{K c p k:Nat}{G:Nat->Nat}{cs:Ak}{Lr:Sx.Rows}{l:Ah}{t a:Int}
def DS (h0:0<=t)(h1:t<=l.length){n q:Int}(hn:n=(l.length:Int)-t)(hq:q=(l.length:Int)+1):pQ ((pQ (l.map (z9 G)) 0 t++d8 2 1 [.int c,.int (G c)])++pQ (l.map (z9 G)) t n) 0 q=(l.take t.toNat++ [c]++l.drop t.toNat).map (z9 G):=by
 subst hn hq;have e:d8 2 1 [.int c,.int (G c)]=[c].map (z9 G):=rfl;rw[e,X6,X6,<-Ui,<-Ui,X6];congr 1;have b:((l.length:Int)-t).toNat=l.length-t.toNat:=by omega
 have a2:((l.length:Int)+1).toNat=l.length+1:=by omega
 rw[b,a2,Int.toNat_zero,UZ,UZ,Uk (l:=l.drop t.toNat) (by simp)];rw[Uk (by simp;omega)]
def jA (hn:l.Nodup)(d:D.opt x y=some a):(plF (l.map (z9 D.gen)) x y<0↔0<=a/\a.toNat∉l)/\(¬plF (l.map (z9 D.gen)) x y<0->plF (l.map (z9 D.gen)) x y<=l.length/\ ∀c,l.take (plF (l.map (z9 D.gen)) x y).toNat++ [c]++l.drop (plF (l.map (z9 D.gen)) x y).toNat=gC l c a):=by
 unfold DM.opt at d;unfold plF;by_cases e:x=0/\y=0;rw[TJ e]at d⊢;cases d;rw[TG];refine⟨by omega,fun _=>⟨by omega,fun c=>?_⟩⟩;rw[Bs (by omega),Uc,List.take_length,List.drop_length];simp
 ·rw[TH e]at d⊢;cases f:D.at x y with
  |none=>rw[f]at d;cases d
  |some b=>
   rw[f]at d;cases d;obtain⟨n,h1,h2,rfl,rfl⟩:=Vm f;rw[show(n.g:Int)=(D.gen b:Nat) by rw[Vo h1],AX];by_cases m:b∈l
   ·have:=tQ m;rw[TJ m];refine⟨by simp[m],fun _=>⟨by omega,fun c=>?_⟩⟩;have e:((0:Int)+(l.idxOf b:Nat)).toNat=l.idxOf b:=by omega
    rw[e,GA hn m]
   rw[TH m];exact⟨by simp[m],fun h=>absurd (by omega) h⟩
def Rl.opt (h:Rl G D S N fr lv)(hx:(x=0/\y=0)\/K0 S x y=true):∃a,D.opt x y=some a:=by unfold DM.opt;rcases hx with e|e;exact⟨-1,by rw[TJ e]⟩;obtain⟨b,hb⟩:=h.vld.1 e;by_cases e:x=0/\y=0;exact⟨-1,by rw[TJ e]⟩;exact⟨b,by rw[TH e,hb]⟩
def vcIns2_ok (hp:∃D K,RlC D S N fr lv [c0,c1,c2,c3,c4,c5,c6,c7]/\WF D K)(hv:K0 S i g=true)(hw:K0 S j m=true)(hx:(x=0/\y=0)\/K0 S x y=true)(hi:U32 i)(hg:U32 g)(hj:U32 j)(hm:U32 m)(ux:U32 x)(uy:U32 y):vcIns2 S i g fr lv c0 c1 c2 c3 c4 c5 c6 c7 st N j m x y:=by
 have hp':=hp;obtain⟨D,K,⟨hR,hc⟩,f⟩:=hp;have d:=hR.slen f;have facts:∀ {D K},RlC D S N fr lv [c0,c1,c2,c3,c4,c5,c6,c7]->WF D K-> ∃(p c:Nat) (a:Int) (sp F:Sl),D.at i g=some p/\D.at j m=some c/\D.opt x y=some a/\D.L[p]? =some sp/\sp.used=true/\D.nod p=sp.n/\D.L[c]? =some F/\F.used=true/\D.nod c=F.n/\i=p/\g=D.gen p/\j=c/\m=D.gen c/\cI N (atF S i g) 0=sp.n.kind/\cL N (atF S i g) 9=sp.n.ch.map (z9 D.gen)/\((cI N (atF S j m) 7=0/\cI N (atF S j m) 8=0)↔F.n.par= -1)/\gW D i g j m x y=open Classical in if(D.nod p).kind≠1 then(D,1)else if(D.nod c).par≠ -1\/Abv D c p then(D,10)else if 0<=a/\a.toNat∉(D.nod p).ch then(D,1)else(D.kids p c (gC (D.nod p).ch c a) p 3,0):=by intro D K o f;obtain⟨p,hp⟩:=o.1.vld.1 hv;obtain⟨c,hc⟩:=o.1.vld.1 hw;obtain⟨a,ha⟩:=o.1.opt hx;obtain⟨sp,h1,h2,h3,h4,h5,T,E,h8,h9,ac,aa⟩:=o.1.flds hp;obtain⟨F,k1,k2,k3,k4,k5,J,M,k8,k9,ab,ah⟩:=o.1.flds hc;refine⟨p,c,a,sp,F,hp,hc,ha,h1,h2,h3,k1,k2,k3,h4,by rw[Vo h1,h5],k4,by rw[Vo k1,k5],h8,aa,by rw[k9,ab];exact f.hI_zero k1 k2,?_⟩;unfold gW;rw[hp,hc,ha]
 obtain⟨p,c,a,sp,F,f1,f2,f3,f4,f5,f6,f7,f8,f9,ai,aj,ak,al,H,u,an,ao⟩:=facts ⟨hR,hc⟩ f;obtain⟨s,h1,h2,h3,h4,h5,T,E,h8,h9,ac,aa⟩:=hR.flds f1;obtain⟨s',k1,k2,k3,k4,k5,J,M,k8,k9,ab,ah⟩:=hR.flds f2;have bad:sp.n.kind=1->((¬(cI N (atF S j m) 7=0/\cI N (atF S j m) 8=0))\/ ∀D K c p,RlC D S N fr lv [c0,c1,c2,c3,c4,c5,c6,c7]->WF D K->D.at j m=some c->D.at i g=some p->Abv D c p)->vcIns0 S i g j m x y fr lv c0 c1 c2 c3 c4 c5 c6 c7 st N:=by intro hk hn;unfold vcIns0;refine nin (nrn (ndt (N9 fun D K o f=>?_)));obtain⟨p,c,a,ap,F,Z,g2,g3,g4,g5,I,g7,g8,g9,O,P,Q,R,v,w,A,r⟩:=facts o f;rw[r,TH (by rw[I,<-v,H];simp[hk]),TJ (by rcases hn with hn|hn;exact .inl (by rw[g9];exact fun e=>hn (A.2 e));exact .inr (hn D K c p o f g2 Z))];exact⟨rfl,rfl⟩
 have bad1:((cI N (atF S i g) 0≠1)\/((cI N (atF S j m) 7=0/\cI N (atF S j m) 8=0)/\(∀D K c p,RlC D S N fr lv [c0,c1,c2,c3,c4,c5,c6,c7]->WF D K->D.at j m=some c->D.at i g=some p-> ¬Abv D c p)/\plF (cL N (atF S i g) 9) x y<0))->vcIns1 S i g j m x y fr lv c0 c1 c2 c3 c4 c5 c6 c7 st N:=by intro hn;unfold vcIns1;refine nin (nrn (ndt (N9 fun D K o f=>?_)));obtain⟨p,c,a,sp,F,Z,g2,g3,g4,g5,I,g7,g8,g9,O,P,Q,R,v,w,A,r⟩:=facts o f;by_cases hk:sp.n.kind=1;rcases hn with hn| ⟨n1,n2,n3⟩;exact absurd (v.trans hk) hn;rw[w]at n3;rw[r,TH (by rw[I];simp[hk]),TH (by rw[g9];exact fun h=>h.elim (fun h=>h (A.1 n1)) (n2 D K c p o f g2 Z)),TJ (by rw[I];exact(jA (f.ch _ _ g4 g5).1 g3).1.1 n3)];exact⟨rfl,rfl⟩;rw[r,TJ (by rw[I];exact hk)];exact⟨rfl,rfl⟩
 have good:cI N (atF S i g) 0=1->(cI N (atF S j m) 7=0/\cI N (atF S j m) 8=0)->(∀D K c p,RlC D S N fr lv [c0,c1,c2,c3,c4,c5,c6,c7]->WF D K->D.at j m=some c->D.at i g=some p-> ¬Abv D c p)-> ¬plF (cL N (atF S i g) 9) x y<0-> ∀B:Sx.Rows,B=cL N (atF S i g) 9-> ∀n q:Int,n=ln (cL N (atF S i g) 9)-plF (cL N (atF S i g) 9) x y->q=ln (cL N (atF S i g) 9)+1->
   eH (J6 i g j m x y (JD S fr lv c0 c1 c2 c3 c4 c5 c6 c7 st N)) (.int 0::.lst S::J10 fr lv c0 c1 c2 (c3+1) c4 c5 c6 c7 [.lst st,.lst (i6 (i6 (i6 N (atF S i g) 9 (.lst (pQ ((pQ B 0 (plF (cL N (atF S i g) 9) x y)++d8 2 1 [.int j,.int m])++pQ B (plF (cL N (atF S i g) 9) x y) n) 0 q))) (atF S j m) 7 (.int i)) (atF S j m) 8 (.int g))]):=by
  intro hk hn hA W B hB n q V hq;subst hB;refine Bo (k:=3) (fun D K o f=>?_) hp' rfl;obtain⟨p,c,a,sp,F,Z,g2,g3,g4,g5,I,g7,g8,g9,O,P,Q,R,v,w,A,r⟩:=facts o f;have e:gW D i g j m x y=(D.kids p c (gC sp.n.ch c a) p 3,0):=by rw[r,TH (by rw[I,<-v];simp[hk]),TH (by rw[g9];exact fun h=>h.elim (fun h=>h (A.1 hn)) (hA D K c p o f g2 Z)),TH (by rw[I];exact fun h=>W (by rw[w];exact(jA (f.ch _ _ g4 g5).1 g3).1.2 h)),I]
  rw[w]at W V hq⊢;obtain⟨b1,b2⟩:=(jA (f.ch _ _ g4 g5).1 g3).2 W;have l1:ln (sp.n.ch.map (z9 D.gen))=(sp.n.ch.length:Int):=by simp[ln]
  rw[l1]at V hq;refine⟨p,c,gC sp.n.ch c a,p,Z,g2,by rw[e],by rw[e],?_,?_,?_⟩;rw[Q,R,DS (by omega) b1 V hq,b2];rw[O];unfold hI;rw[TH (by omega)];rw[P];unfold hG';rw[TH (by omega),Uc]
 unfold vcIns2;refine aV ⟨hi,hg,d⟩ (P3 T E ⟨fun hk=>aV ⟨hj,hm,d⟩ (P3 J M ⟨fun X=>⟨fun Y=>?_,fun Y=>bad (by rw[<-H];exact hk) (.inl fun h=>Y h.2)⟩,fun X=>bad (by rw[<-H];exact hk) (.inl fun h=>X h.1)⟩),fun hk=>bad1 (.inl hk)⟩);refine nin (nrn (ndi ⟨hj,hm,hi,hg,D,K,c,p,hR,f,f2,f1⟩ fun b hb=>⟨fun ae=>bad (by rw[<-H];exact hk) (.inr fun D K c p h1 h2 h3 h4=>(hb D K c p h1.1 h2 h3 h4).1 ae),fun ad=>?_⟩));have hA:∀D K c p,RlC D S N fr lv [c0,c1,c2,c3,c4,c5,c6,c7]->WF D K->D.at j m=some c->D.at i g=some p-> ¬Abv D c p:=fun D K c p h1 h2 h3 h4 h=>ad ((hb D K c p h1.1 h2 h3 h4).2 h);have hP:eO [.int (atF S i g),.int x,.int y,.lst N]:=⟨ux,uy,T,E,by rw[u,TG];exact f.kidlen f4 f5⟩
 have kl:=f.kidlen f4 f5;have ll:ln (cL N (atF S i g) 9)=(sp.n.ch.length:Int):=by rw[u];simp[ln]
 have U:I64 (c3+1):=f.i64 (k:=3) (by rw[<-hc];rfl);have pq:=jA (f.ch _ _ f4 f5).1 f3;rw[<-u]at pq;refine aV ⟨hi,hg,d⟩ (CO hP ⟨fun hl=>bad1 (.inr ⟨⟨X,Y⟩,hA,hl⟩),fun hl=>aV ⟨hi,hg,d⟩ (P3 T E fun b=>⟨fun hb h0=>?_,fun hb=>ndi (by omega) ⟨fun h0=>?_,fun h0=>?_⟩⟩)⟩)
 ·have C:cL N (atF S i g) 9=[]:=by rw[u];rw[ll]at h0;have:sp.n.ch=[]:=Tq (by omega);rw[this];rfl
  have z:plF (cL N (atF S i g) 9) x y=0:=by have:=(pq.2 hl).1;rw[ll]at h0;omega
  refine CO hP (ndi hl (ndi (by omega) (aV ⟨hi,hg,d⟩ (aV ⟨hj,hm,d⟩ (P3 T E (P3 J M (ndi (by omega) (ndi ?_ (ndi E (P3 J M (ndi U (nin (nrn (ndt ?_))))))))))))));rw[z];simp[pQ,ln];exact good hk ⟨X,Y⟩ hA hl [] C.symm (0-plF (cL N (atF S i g) 9) x y) 1 (by rw[h0]) (by rw[h0];rfl)
 have z:d8 2 0 []++cL N (atF S i g) 9=cL N (atF S i g) 9:=rfl;refine CO hP (nin (ndi hl (ndi (by have:=(pq.2 hl).1;omega) (ndi (by omega) (aV ⟨hi,hg,d⟩ (aV ⟨hj,hm,d⟩ (P3 T E (P3 J M (ndi (by omega) (ndi ?_ (ndi E (P3 J M (ndi U (nin (nrn (ndt ?_))))))))))))))));rw[z];have:=(pq.2 hl).1;simp only[pQ,ln,TW,Un]at ll⊢;omega;rw[z];exact good hk ⟨X,Y⟩ hA hl _ rfl _ _ rfl rfl
 ·have C:cL N (atF S i g) 9=[]:=by rw[u];rw[ll]at h0;have:sp.n.ch=[]:=Tq (by omega);rw[this];rfl
  have z:Sx.over (d8 2 0 []) 0 (cL N (atF S i g) 9)=cL N (atF S i g) 9:=by rw[C];rfl
  refine CO hP (ndi (by omega) (ndi (by rw[z];omega) (ndi (by omega) (ndi (by rw[z];omega) (ndi hl (ndi (by have:=(pq.2 hl).1;omega) (ndi (by omega) (aV ⟨hi,hg,d⟩ (aV ⟨hj,hm,d⟩ (P3 T E (P3 J M (ndi (by omega) (ndi ?_ (ndi E (P3 J M (ndi U (nin (nrn (ndt ?_)))))))))))))))))));rw[z];have:=(pq.2 hl).1;simp only[pQ,ln,TW,Un]at ll⊢;omega;rw[z];exact good hk ⟨X,Y⟩ hA hl _ rfl _ _ rfl rfl
theorem vcIns3_ok (h:K0 S i g=false\/K0 S j m=false\/(¬(x=0/\y=0)/\K0 S x y=false)):vcIns3 S i g j m x y fr lv c0 c1 c2 c3 c4 c5 c6 c7 st N:=by
 unfold vcIns3;refine nin (nrn (ndt (N9 fun D K b d=>?_)));have:gW D i g j m x y=(D,11):=by
  unfold gW;rcases h with h|h| ⟨h,h2⟩;rw[b.1.none (by simp[h])];rw[b.1.none (i:=j) (by simp[h])];split<;>simp_all
  ·have:D.opt x y=none:=by unfold DM.opt;rw[TH h,b.1.none (i:=x) (by simp[h2])]
   rw[this];split<;>simp_all
 rw[this];exact⟨rfl,rfl⟩
def vcIns_ok :vcIns:=by
 unfold vcIns;intro i g j m x y S fr lv c0 c1 c2 c3 c4 c5 c6 c7 st N h;obtain⟨hi,hg,hj,hm,ux,uy,hp⟩:=h;have hp':=hp;obtain⟨D,K,⟨q,hc⟩,r⟩:=hp;have b:=q.slen r;have d:¬(x=0/\y=0)->vcIns4 S i g fr lv c0 c1 c2 c3 c4 c5 c6 c7 st j m x y N:=by intro hn;unfold vcIns4;exact kH ⟨hi,hg,b⟩ ⟨fun e=>kH ⟨hj,hm,b⟩ ⟨fun f=>kH ⟨ux,uy,b⟩ ⟨fun o=>vcIns2_ok hp' e f (.inr o) hi hg hj hm ux uy,fun o=>vcIns3_ok (.inr (.inr ⟨hn,by simpa using o⟩))⟩,fun f=>vcIns3_ok (.inr (.inl (by simpa using f)))⟩,fun e=>vcIns3_ok (.inl (by simpa using e))⟩
 refine⟨fun ex=>⟨fun n=>kH ⟨hi,hg,b⟩ ⟨fun e=>kH ⟨hj,hm,b⟩ ⟨fun f=>vcIns2_ok hp' e f (.inl ⟨ex,n⟩) hi hg hj hm ux uy,fun f=>vcIns3_ok (.inr (.inl (by simpa using f)))⟩,fun e=>vcIns3_ok (.inl (by simpa using e))⟩,fun n=>d fun h=>n h.2⟩,fun ex=>d fun h=>ex h.1⟩
