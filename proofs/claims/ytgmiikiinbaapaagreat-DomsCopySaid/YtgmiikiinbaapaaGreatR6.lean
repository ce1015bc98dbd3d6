/- The reference's DOM: what its rows are; the conditions of Text, Place, Remove, Move hold.
  Conditions: none. -/
import Derived.Test.YtgmiikiinbaapaaGreatR3
import Derived.Test.YtgmiikiinbaapaaGreatR5
set_option linter.all false
noncomputable section
namespace Go.D
open Go Go.Xe Go.Sx
section
variable {D :DM}{L F L' F':Sx.Rows}{i g x y:Int}{K c p k:Nat}{cs cs':Ak}{s:Sl}{q q':Nod->Nod}{c0 c1 c2 c3 c4 c5 c6 c7:Int}
def Sl.r0 (s:Sl):s.row.getD 0 (.int 0)= .int s.g:=by unfold Sl.row;split<;>rfl
theorem Sl.r1 (s:Sl):s.row.getD 1 (.int 0)= .bool s.used:=by unfold Sl.row;split<;>simp_all
def Rf.vld (h:Rf D L F cs):z9 L i g=true↔ ∃c,D.at i g=some c:=by
 obtain⟨rfl,_,_⟩:=h;unfold z9 DM.at;by_cases h0:0<=i
 ·rw[QW h0];cases hs:D.L[i.toNat]? with
  |none=>have:=List.getElem?_eq_none_iff.1 hs;simp;omega|some s=>
   have hi:i<(D.L.length:Int):=by have:=(QD.1 hs).1;omega
   rw[c9 hs,c9 hs,s.r0,s.r1];simp[h0,hi,Dat.toBool,Dat.toInt];exact fun _=>decide_eq_true_iff
 simp[h0]
def Rf.len (h:Rf D L F cs)(w:WF D K):L.length<=1000:=by rw[h.1,QT];have:=w.lim;omega
def Rf.cells (h:Rf D L F cs)(hs:D.L[c]? =some s)(a:s.used=true):(c:Int)<ln L/\cI L c 2=s.n.kind/\cL L c 4=s.n.atts.map Att.row/\cI L c 9=s.n.par/\cL L c 10=s.n.ch.map l9:=by
 obtain⟨rfl,_,_⟩:=h;have hc:D.L[((c:Nat):Int).toNat]? =some s:=by rw[Rs];exact hs
 have:=(QD.1 hs).1;simp only[cI,cL,c9 hc,ln,QT];unfold Sl.row;rw[QW a];exact⟨by omega,rfl,rfl,rfl,rfl⟩
def Rf.spot (h:Rf D L F cs)(hv:z9 L i g=true):∃(c:Nat) (s:Sl),D.at i g=some c/\i=c/\D.L[c]? =some s/\s.used=true/\D.nod c=s.n/\0<=i/\i<ln L/\cI L i 2=s.n.kind/\cL L i 4=s.n.atts.map Att.row/\cI L i 9=s.n.par/\cL L i 10=s.n.ch.map l9:=by obtain⟨c,hc⟩:=h.vld.1 hv;obtain⟨s,h1,h2,rfl,_⟩:=SP hc;obtain⟨k1,k2,k3,a,b⟩:=h.cells h1 h2;exact⟨c,s,hc,rfl,h1,h2,SU h1,by omega,k1,k2,k3,a,b⟩
def Rf.none (h:Rf D L F cs)(hv:¬z9 L i g=true):D.at i g=none:=by
 cases e:D.at i g with
 |none=>rfl|some k=>exact absurd (h.vld.2 ⟨k,e⟩) hv
def Qi (a:s.used=true):s.row=Sl.row ⟨s.g,true,s.n⟩:=by cases s;cases a;rfl
def V6 {j:Nat}{d:Dat}(hs:D.L[c]? =some s)(a:s.used=true)(h:(Sl.row ⟨s.g,true,s.n⟩).set j d=Sl.row ⟨s.g,true,q s.n⟩):a8 (D.L.map Sl.row) c j d=(D.setN c q).L.map Sl.row:=by unfold a8 DM.setN;rw[Rs];apply List.ext_getElem?;intro k;simp only[j6,RB];by_cases e:c=k;subst e;rw[<-Qi a]at h;simp[hs,h,a];simp[e]
def vY (hs:D.L[c]? =some s):(D.setN c q).L[c]? =some {s with n:=q s.n}:=by unfold DM.setN;simp[j6,hs]
def Im (h:p≠c):(D.setN p q).L[c]? =D.L[c]? :=by unfold DM.setN;simp[j6,h]
def vZ :(D.setN c q).setN c q'=D.setN c fun n=>q' (q n):=by unfold DM.setN;simp[C3]
def Oa (hs:D.L[c]? =some s)(h:q s.n=s.n):D.setN c q=D:=by
 unfold DM.setN;have:(D.L.modify c fun s=> {s with n:=q s.n})=D.L:=by apply List.ext_getElem?;intro k;rw[j6];by_cases e:c=k;subst e;rw[QW rfl,hs];simp[h];rw[QU e]
 rw[this]
def C8 {f:DM->DM×Prop}(hf:∀D K,Rf D L F cs->WF D K->(f D).1=D/\(f D).2):cG L F cs L F cs f:=fun D K a b=>⟨by rw[(hf D K a b).1];exact a,(hf D K a b).2⟩
def fK {Q:Int->Prop}(h:U32 i/\U32 g/\L.length<=1000)(k:Q (if z9 L i g=true then i else-1)):Sx.Nd (S7 (.lst L::.lst F::J10 c0 c1 c2 c3 c4 c5 c6 c7 i g [])) (∀r,Q0 (.lst L::.lst F::J10 c0 c1 c2 c3 c4 c5 c6 c7 i g []) [.int r]->Q r):=
 ndi h fun r hr=>by have hr:r=if z9 L i g=true then i else-1:=hr;subst hr;exact k
def tA {Q:Sx.Rows->Sx.Rows->Int->Int->Int->Int->Int->Int->Int->Int->Prop}(h:gK L F [c0,c1,c2,c3,c4,c5,c6,c7])(k:Q L F c0 c1 c2 c3 c4 c5 c6 c7):Sx.Nd (M4 (.lst L::.lst F::J8 c0 c1 c2 c3 c4 c5 c6 c7 [])) (∀L' F' a b d e f j m n,U8 (.lst L::.lst F::J8 c0 c1 c2 c3 c4 c5 c6 c7 []) (.lst L'::.lst F'::J8 a b d e f j m n [])->Q L' F' a b d e f j m n):=
 ndi h fun L' F' a b d e f j m n hr=>by obtain⟨rfl,rfl,rfl,rfl,rfl,rfl,rfl,rfl,rfl,rfl⟩:=hr;exact k
def vcRtxt_ok :vcRtxt:=by
 unfold vcRtxt;intro L F c0 c1 c2 c3 c4 c5 c6 c7 i g t h;obtain⟨hi,hg,hp⟩:=h;have hp':=hp;obtain⟨D,K,a,w⟩:=hp;refine fK ⟨hi,hg,a.len w⟩ ?_;by_cases hv:z9 L i g=true
 ·rw[QW hv];obtain⟨c,s,h1,h2,h3,h4,f,m,d,j,o,r,hb⟩:=a.spot hv;have bad:(cI L i 2≠2\/J5 t=false)->vcRtxt0 L F c0 c1 c2 c3 c4 c5 c6 c7 i g t:=fun hq=>by unfold vcRtxt0;refine ndt (C8 fun D K a w=>?_);obtain⟨c,s,h1,h2,h3,h4,f,m,d,j,_⟩:=a.spot hv;unfold aR;rw[h1];simp only;rw[QW (by rw[f,<-j];exact hq)];exact⟨rfl,rfl⟩
  refine⟨fun h=>by omega,fun _=>ndi (by omega) (ndi d ⟨fun hk=>ndi trivial fun b hb=>⟨fun e=>tA hp' (ndi (by omega) (ndi d (ndi d (ndi (w.i64 (k:=6) (by rw[<-a.2.2];rfl)) (nin (nrn (ndt fun D K a w=>?_))))))),fun e=>bad (.inr ?_)⟩,fun hk=>bad (.inl hk)⟩)⟩;have hb:b=J5 t:=hb;subst hb;obtain⟨c,s,h1,h2,h3,h4,f,m,d,j,_⟩:=a.spot hv;show Rf (aR D i g t).1 _ _ _/\(0:Int)=(aR D i g t).2;unfold aR;rw[h1];simp only;rw[QU (by rw[f,<-j];simp[hk,e])];obtain⟨rfl,rfl,hc⟩:=a;subst h2;exact⟨⟨V6 (q:=fun n=> {n with text:=t}) h3 h4 rfl,rfl,by show _=D.C.modify 6 _;rw[<-hc];rfl⟩,rfl⟩;have hb:b=J5 t:=hb;subst hb;simpa using e
 rw[QU hv];refine⟨fun _=>ndt (C8 fun D K a w=>?_),fun h=>absurd (by decide) h⟩;unfold aR;rw[a.none hv];exact⟨rfl,rfl⟩
def vcRplk_ok :vcRplk:=by
 unfold vcRplk;intro L F c0 c1 c2 c3 c4 c5 c6 c7 i g t z b h;obtain⟨hi,hg,hp⟩:=h;have hp':=hp;obtain⟨D,K,a,w⟩:=hp;refine fK ⟨hi,hg,a.len w⟩ ?_;by_cases hv:z9 L i g=true
 ·rw[QW hv];obtain⟨c,s,h1,h2,h3,h4,e,m,d,f,o,r,hb⟩:=a.spot hv;have j:¬i<0:=by omega
  refine⟨fun h=>by omega,fun _=>ndi j (ndi d ⟨fun hk=>tA hp' (ndi j (ndi d (ndi d (ndi j (ndi d (ndi d (ndi j (ndi d (ndi d (ndi (w.i64 (k:=7) (by rw[<-a.2.2];rfl)) (nin (nrn (ndt fun D K a w=>?_))))))))))))),fun hk=>ndt (C8 fun D K a w=>?_)⟩)⟩;obtain⟨c,s,h1,h2,h3,h4,e,m,d,f,_⟩:=a.spot hv;show Rf (mS D i g t z b).1 _ _ _/\(0:Int)=(mS D i g t z b).2;unfold mS;rw[h1];simp only;rw[QU (by rw[e,<-f];simp[hk])];obtain⟨rfl,rfl,hc⟩:=a;subst h2;refine⟨⟨?_,rfl,by show _=D.C.modify 7 _;rw[<-hc];rfl⟩,rfl⟩;rw[V6 (q:=fun n=> {n with top:=t}) h3 h4 rfl,V6 (q:=fun n=> {n with size:=z}) (vY h3) h4 rfl,V6 (q:=fun n=> {n with pin:=b}) (vY (vY h3)) h4 rfl,vZ,vZ];rfl;obtain⟨c,s,h1,h2,h3,h4,e,m,d,f,_⟩:=a.spot hv;unfold mS;rw[h1];simp only;rw[QW (by rw[e,<-f];exact hk)];exact⟨rfl,rfl⟩
 rw[QU hv];refine⟨fun _=>ndt (C8 fun D K a w=>?_),fun h=>absurd (by decide) h⟩;unfold mS;rw[a.none hv];exact⟨rfl,rfl⟩
variable {l:Ah}
def Ib {sp b:Sl}{z:Int}{X:Sx.Rows}(d:X=l.map l9)(hp:D.L[p]? =some sp)(up:sp.used=true)(hc:D.L[c]? =some b)(e:b.used=true)(a:p≠c):a8 (a8 (D.L.map Sl.row) p 10 (.lst X)) c 9 (.int z)=(D.kids p c l z k).L.map Sl.row:=by subst d;rw[V6 (q:=fun n=> {n with ch:=l}) hp up rfl,V6 (q:=fun n=> {n with par:=z}) (s:=b) (by rw[Im a];exact hc) e rfl];rfl
def rf_C (h:Rf D L F cs){z:Int}:cs.modify k (· +1)=(D.kids p c l z k).C:=by rw[h.2.2];rfl
def vcRrem_ok :vcRrem:=by
 unfold vcRrem;intro L F c0 c1 c2 c3 c4 c5 c6 c7 i g h;obtain⟨hi,hg,hp⟩:=h;have hp':=hp;obtain⟨D,K,a,w⟩:=hp;refine fK ⟨hi,hg,a.len w⟩ ?_;by_cases hv:z9 L i g=true
 ·rw[QW hv];obtain⟨c,s,h1,h2,h3,h4,f,t,b,u,v,d,hb⟩:=a.spot hv;have B:¬i<0:=by omega
  refine⟨fun h=>by omega,fun _=>ndi B (ndi b ⟨fun hk=>ndt (C8 fun D K a w=>?_),fun hk=>tA hp' ?_⟩)⟩;obtain⟨c,s,h1,h2,h3,h4,f,t,b,u,v,d,_⟩:=a.spot hv;unfold kR;rw[h1];simp only;rw[d]at hk;rw[f,QW (by rcases w.par c s h3 h4 with e| ⟨p,sp,e,_⟩<;>omega)];exact⟨rfl,rfl⟩
  ·have par:∀ {D K},Rf D L F [c0,c1,c2,c3,c4,c5,c6,c7]->WF D K-> ∃(c p:Nat) (s sp:Sl),D.at i g=some c/\i=c/\D.L[c]? =some s/\s.used=true/\D.nod c=s.n/\s.n.par=p/\D.L[p]? =some sp/\sp.used=true/\p≠c/\D.nod p=sp.n/\cI L i 9=p/\(p:Int)<ln L/\cL L p 10=sp.n.ch.map l9:=fun{D K} a w=>by obtain⟨c,s,h1,h2,h3,h4,f,t,b,u,v,d,_⟩:=a.spot hv;obtain⟨p,sp,e,k1,k2,k3,J,V⟩:=DM.par_of w h3 h4 (by rw[<-d];omega);obtain⟨m,o,C,E,r⟩:=a.cells k1 k2;exact⟨c,p,s,sp,h1,h2,h3,h4,f,e,k1,k2,J,SU k1,by rw[d,e],m,r⟩
   obtain⟨c,p,s,sp,p1,p2,W,Y,Z,p6,M,N,p9,pa,O,j,pd⟩:=par a w;rw[O];have A:¬(p:Int)<0:=by omega
   have I:iJ [.lst (cL L p 10),.int i]:=⟨sp.n.ch,c,pd,p2,w.kidlen M N⟩
   refine ndi A<|ndi j<|ndi I fun X G=>ndi A<|ndi j<|ndi j<|ndi B<|ndi b<|ndi b<|ndi (w.i64 (k:=4) (by rw[<-a.2.2];rfl))<|nin<|nrn<|ndt fun D K a w=>?_;obtain⟨c,q,s,sp,m,o,C,E,r,P,Q,R,S,T,qb,qc,U⟩:=par a w;have e:q=p:=by omega
   show Rf (kR D i g).1 _ _ _/\(0:Int)=(kR D i g).2;unfold kR;rw[m];simp only;rw[r,P,QU (by omega),Rs,T,<-e];have hc:=rf_C (k:=4) (p:=q) (c:=c) (l:=K6 sp.n.ch c) (z:= -1) a;have H:=G sp.n.ch c (by rw[<-e];exact U) o;obtain⟨rfl,rfl,_⟩:=a;rw[o];exact⟨⟨Ib H Q R C E S,rfl,hc⟩,rfl⟩
 rw[QU hv];refine⟨fun _=>ndt (C8 fun D K a w=>?_),fun h=>absurd (by decide) h⟩;unfold kR;rw[a.none hv];exact⟨rfl,rfl⟩
