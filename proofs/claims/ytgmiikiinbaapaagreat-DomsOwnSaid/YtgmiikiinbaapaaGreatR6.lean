/- The reference's DOM: what its rows are; the conditions of Text, Place, Remove, Move hold.
  Conditions: none. -/
import Derived.Test.YtgmiikiinbaapaaGreatR3
import Derived.Test.YtgmiikiinbaapaaGreatR5
set_option linter.all false
noncomputable section
namespace Go.D
open Go Go.Xe Go.Sx
section
variable {D :DM}{L F L' F':Sx.Rows}{i g x y:Int}{K c p k:Nat}{cs cs':Ak}{s:Sl}{q q':Nod->Nod}{c0 c1 c2 c3 c4 c5 c6 c7:Int}
def Sl.r0 (s:Sl):s.row.getD 0 (.int 0)= .int s.g:=by unfold Sl.row;split<;>rfl
theorem Sl.r1 (s:Sl):s.row.getD 1 (.int 0)= .bool s.used:=by unfold Sl.row;split<;>simp_all
def Rf.vld (h:Rf D L F cs):v9 L i g=true↔ ∃c,D.at i g=some c:=by
 obtain⟨rfl,_,_⟩:=h;unfold v9 DM.at;by_cases h0:0<=i
 ·rw[PG h0];cases hs:D.L[i.toNat]? with
  |none=>have:=List.getElem?_eq_none_iff.1 hs;simp;omega|some s=>
   have hi:i<(D.L.length:Int):=by have:=(Po.1 hs).1;omega
   rw[i4 hs,i4 hs,s.r0,s.r1];simp[h0,hi,Dat.toBool,Dat.toInt];exact fun _=>decide_eq_true_iff
 simp[h0]
def Rf.len (h:Rf D L F cs)(w:WF D K):L.length<=1000:=by rw[h.1,PD];have:=w.lim;omega
def Rf.cells (h:Rf D L F cs)(hs:D.L[c]? =some s)(a:s.used=true):(c:Int)<ln L/\cI L c 2=s.n.kind/\cL L c 4=s.n.atts.map Att.row/\cI L c 9=s.n.par/\cL L c 10=s.n.ch.map A5:=by
 obtain⟨rfl,_,_⟩:=h;have hc:D.L[((c:Nat):Int).toNat]? =some s:=by rw[Qd];exact hs
 have:=(Po.1 hs).1;simp only[cI,cL,i4 hc,ln,PD];unfold Sl.row;rw[PG a];exact⟨by omega,rfl,rfl,rfl,rfl⟩
def Rf.spot (h:Rf D L F cs)(hv:v9 L i g=true):∃(c:Nat) (s:Sl),D.at i g=some c/\i=c/\D.L[c]? =some s/\s.used=true/\D.nod c=s.n/\0<=i/\i<ln L/\cI L i 2=s.n.kind/\cL L i 4=s.n.atts.map Att.row/\cI L i 9=s.n.par/\cL L i 10=s.n.ch.map A5:=by obtain⟨c,hc⟩:=h.vld.1 hv;obtain⟨s,h1,h2,rfl,_⟩:=Rr hc;obtain⟨k1,k2,k3,a,b⟩:=h.cells h1 h2;exact⟨c,s,hc,rfl,h1,h2,Rt h1,by omega,k1,k2,k3,a,b⟩
def Rf.none (h:Rf D L F cs)(hv:¬v9 L i g=true):D.at i g=none:=by
 cases e:D.at i g with
 |none=>rfl|some k=>exact absurd (h.vld.2 ⟨k,e⟩) hv
def OS (a:s.used=true):s.row=Sl.row ⟨s.g,true,s.n⟩:=by cases s;cases a;rfl
def S9 {j:Nat}{d:Dat}(hs:D.L[c]? =some s)(a:s.used=true)(h:(Sl.row ⟨s.g,true,s.n⟩).set j d=Sl.row ⟨s.g,true,q s.n⟩):a8 (D.L.map Sl.row) c j d=(D.setN c q).L.map Sl.row:=by unfold a8 DM.setN;rw[Qd];apply List.ext_getElem?;intro k;simp only[j9,Qm];by_cases e:c=k;subst e;rw[<-OS a]at h;simp[hs,h,a];simp[e]
def uJ (hs:D.L[c]? =some s):(D.setN c q).L[c]? =some {s with n:=q s.n}:=by unfold DM.setN;simp[j9,hs]
def Hy (h:p≠c):(D.setN p q).L[c]? =D.L[c]? :=by unfold DM.setN;simp[j9,h]
def uK :(D.setN c q).setN c q'=D.setN c fun n=>q' (q n):=by unfold DM.setN;simp[B2]
def MU (hs:D.L[c]? =some s)(h:q s.n=s.n):D.setN c q=D:=by
 unfold DM.setN;have:(D.L.modify c fun s=> {s with n:=q s.n})=D.L:=by apply List.ext_getElem?;intro k;rw[j9];by_cases e:c=k;subst e;rw[PG rfl,hs];simp[h];rw[PE e]
 rw[this]
def B7 {f:DM->DM×Prop}(hf:∀D K,Rf D L F cs->WF D K->(f D).1=D/\(f D).2):bB L F cs L F cs f:=fun D K a b=>⟨by rw[(hf D K a b).1];exact a,(hf D K a b).2⟩
def eD {Q:Int->Prop}(h:U32 i/\U32 g/\L.length<=1000)(k:Q (if v9 L i g=true then i else-1)):Sx.Nd (P8 (.lst L::.lst F::J10 c0 c1 c2 c3 c4 c5 c6 c7 i g [])) (∀r,N6 (.lst L::.lst F::J10 c0 c1 c2 c3 c4 c5 c6 c7 i g []) [.int r]->Q r):=
 ndi h fun r hr=>by have hr:r=if v9 L i g=true then i else-1:=hr;subst hr;exact k
def rO {Q:Sx.Rows->Sx.Rows->Int->Int->Int->Int->Int->Int->Int->Int->Prop}(h:fF L F [c0,c1,c2,c3,c4,c5,c6,c7])(k:Q L F c0 c1 c2 c3 c4 c5 c6 c7):Sx.Nd (L9 (.lst L::.lst F::J8 c0 c1 c2 c3 c4 c5 c6 c7 [])) (∀L' F' a b d e f j m n,T6 (.lst L::.lst F::J8 c0 c1 c2 c3 c4 c5 c6 c7 []) (.lst L'::.lst F'::J8 a b d e f j m n [])->Q L' F' a b d e f j m n):=
 ndi h fun L' F' a b d e f j m n hr=>by obtain⟨rfl,rfl,rfl,rfl,rfl,rfl,rfl,rfl,rfl,rfl⟩:=hr;exact k
def vcRtxt_ok :vcRtxt:=by
 unfold vcRtxt;intro L F c0 c1 c2 c3 c4 c5 c6 c7 i g t h;obtain⟨hi,hg,hp⟩:=h;have hp':=hp;obtain⟨D,K,a,w⟩:=hp;refine eD ⟨hi,hg,a.len w⟩ ?_;by_cases hv:v9 L i g=true
 ·rw[PG hv];obtain⟨c,s,h1,h2,h3,h4,f,m,d,j,o,r,hb⟩:=a.spot hv;have bad:(cI L i 2≠2\/I0 t=false)->vcRtxt0 L F c0 c1 c2 c3 c4 c5 c6 c7 i g t:=fun hq=>by unfold vcRtxt0;refine ndt (B7 fun D K a w=>?_);obtain⟨c,s,h1,h2,h3,h4,f,m,d,j,_⟩:=a.spot hv;unfold Z3;rw[h1];simp only;rw[PG (by rw[f,<-j];exact hq)];exact⟨rfl,rfl⟩
  refine⟨fun h=>by omega,fun _=>ndi (by omega) (ndi d ⟨fun hk=>ndi trivial fun b hb=>⟨fun e=>rO hp' (ndi (by omega) (ndi d (ndi d (ndi (w.i64 (k:=6) (by rw[<-a.2.2];rfl)) (nin (nrn (ndt fun D K a w=>?_))))))),fun e=>bad (.inr ?_)⟩,fun hk=>bad (.inl hk)⟩)⟩;have hb:b=I0 t:=hb;subst hb;obtain⟨c,s,h1,h2,h3,h4,f,m,d,j,_⟩:=a.spot hv;show Rf (Z3 D i g t).1 _ _ _/\(0:Int)=(Z3 D i g t).2;unfold Z3;rw[h1];simp only;rw[PE (by rw[f,<-j];simp[hk,e])];obtain⟨rfl,rfl,hc⟩:=a;subst h2;exact⟨⟨S9 (q:=fun n=> {n with text:=t}) h3 h4 rfl,rfl,by show _=D.C.modify 6 _;rw[<-hc];rfl⟩,rfl⟩;have hb:b=I0 t:=hb;subst hb;simpa using e
 rw[PE hv];refine⟨fun _=>ndt (B7 fun D K a w=>?_),fun h=>absurd (by decide) h⟩;unfold Z3;rw[a.none hv];exact⟨rfl,rfl⟩
def vcRplk_ok :vcRplk:=by
 unfold vcRplk;intro L F c0 c1 c2 c3 c4 c5 c6 c7 i g t z b h;obtain⟨hi,hg,hp⟩:=h;have hp':=hp;obtain⟨D,K,a,w⟩:=hp;refine eD ⟨hi,hg,a.len w⟩ ?_;by_cases hv:v9 L i g=true
 ·rw[PG hv];obtain⟨c,s,h1,h2,h3,h4,e,m,d,f,o,r,hb⟩:=a.spot hv;have j:¬i<0:=by omega
  refine⟨fun h=>by omega,fun _=>ndi j (ndi d ⟨fun hk=>rO hp' (ndi j (ndi d (ndi d (ndi j (ndi d (ndi d (ndi j (ndi d (ndi d (ndi (w.i64 (k:=7) (by rw[<-a.2.2];rfl)) (nin (nrn (ndt fun D K a w=>?_))))))))))))),fun hk=>ndt (B7 fun D K a w=>?_)⟩)⟩;obtain⟨c,s,h1,h2,h3,h4,e,m,d,f,_⟩:=a.spot hv;show Rf (lE D i g t z b).1 _ _ _/\(0:Int)=(lE D i g t z b).2;unfold lE;rw[h1];simp only;rw[PE (by rw[e,<-f];simp[hk])];obtain⟨rfl,rfl,hc⟩:=a;subst h2;refine⟨⟨?_,rfl,by show _=D.C.modify 7 _;rw[<-hc];rfl⟩,rfl⟩;rw[S9 (q:=fun n=> {n with top:=t}) h3 h4 rfl,S9 (q:=fun n=> {n with size:=z}) (uJ h3) h4 rfl,S9 (q:=fun n=> {n with pin:=b}) (uJ (uJ h3)) h4 rfl,uK,uK];rfl;obtain⟨c,s,h1,h2,h3,h4,e,m,d,f,_⟩:=a.spot hv;unfold lE;rw[h1];simp only;rw[PG (by rw[e,<-f];exact hk)];exact⟨rfl,rfl⟩
 rw[PE hv];refine⟨fun _=>ndt (B7 fun D K a w=>?_),fun h=>absurd (by decide) h⟩;unfold lE;rw[a.none hv];exact⟨rfl,rfl⟩
variable {l:Ah}
def Hn {sp b:Sl}{z:Int}{X:Sx.Rows}(d:X=l.map A5)(hp:D.L[p]? =some sp)(up:sp.used=true)(hc:D.L[c]? =some b)(e:b.used=true)(a:p≠c):a8 (a8 (D.L.map Sl.row) p 10 (.lst X)) c 9 (.int z)=(D.kids p c l z k).L.map Sl.row:=by subst d;rw[S9 (q:=fun n=> {n with ch:=l}) hp up rfl,S9 (q:=fun n=> {n with par:=z}) (s:=b) (by rw[Hy a];exact hc) e rfl];rfl
def rf_C (h:Rf D L F cs){z:Int}:cs.modify k (· +1)=(D.kids p c l z k).C:=by rw[h.2.2];rfl
def vcRrem_ok :vcRrem:=by
 unfold vcRrem;intro L F c0 c1 c2 c3 c4 c5 c6 c7 i g h;obtain⟨hi,hg,hp⟩:=h;have hp':=hp;obtain⟨D,K,a,w⟩:=hp;refine eD ⟨hi,hg,a.len w⟩ ?_;by_cases hv:v9 L i g=true
 ·rw[PG hv];obtain⟨c,s,h1,h2,h3,h4,f,t,b,u,v,d,hb⟩:=a.spot hv;have B:¬i<0:=by omega
  refine⟨fun h=>by omega,fun _=>ndi B (ndi b ⟨fun hk=>ndt (B7 fun D K a w=>?_),fun hk=>rO hp' ?_⟩)⟩;obtain⟨c,s,h1,h2,h3,h4,f,t,b,u,v,d,_⟩:=a.spot hv;unfold jJ;rw[h1];simp only;rw[d]at hk;rw[f,PG (by rcases w.par c s h3 h4 with e| ⟨p,sp,e,_⟩<;>omega)];exact⟨rfl,rfl⟩
  ·have par:∀ {D K},Rf D L F [c0,c1,c2,c3,c4,c5,c6,c7]->WF D K-> ∃(c p:Nat) (s sp:Sl),D.at i g=some c/\i=c/\D.L[c]? =some s/\s.used=true/\D.nod c=s.n/\s.n.par=p/\D.L[p]? =some sp/\sp.used=true/\p≠c/\D.nod p=sp.n/\cI L i 9=p/\(p:Int)<ln L/\cL L p 10=sp.n.ch.map A5:=fun{D K} a w=>by obtain⟨c,s,h1,h2,h3,h4,f,t,b,u,v,d,_⟩:=a.spot hv;obtain⟨p,sp,e,k1,k2,k3,J,V⟩:=DM.par_of w h3 h4 (by rw[<-d];omega);obtain⟨m,o,C,E,r⟩:=a.cells k1 k2;exact⟨c,p,s,sp,h1,h2,h3,h4,f,e,k1,k2,J,Rt k1,by rw[d,e],m,r⟩
   obtain⟨c,p,s,sp,p1,p2,W,Y,Z,p6,M,N,p9,pa,O,j,pd⟩:=par a w;rw[O];have A:¬(p:Int)<0:=by omega
   have I:gM [.lst (cL L p 10),.int i]:=⟨sp.n.ch,c,pd,p2,w.kidlen M N⟩
   refine ndi A<|ndi j<|ndi I fun X G=>ndi A<|ndi j<|ndi j<|ndi B<|ndi b<|ndi b<|ndi (w.i64 (k:=4) (by rw[<-a.2.2];rfl))<|nin<|nrn<|ndt fun D K a w=>?_;obtain⟨c,q,s,sp,m,o,C,E,r,P,Q,R,S,T,qb,qc,U⟩:=par a w;have e:q=p:=by omega
   show Rf (jJ D i g).1 _ _ _/\(0:Int)=(jJ D i g).2;unfold jJ;rw[m];simp only;rw[r,P,PE (by omega),Qd,T,<-e];have hc:=rf_C (k:=4) (p:=q) (c:=c) (l:=J0 sp.n.ch c) (z:= -1) a;have H:=G sp.n.ch c (by rw[<-e];exact U) o;obtain⟨rfl,rfl,_⟩:=a;rw[o];exact⟨⟨Hn H Q R C E S,rfl,hc⟩,rfl⟩
 rw[PE hv];refine⟨fun _=>ndt (B7 fun D K a w=>?_),fun h=>absurd (by decide) h⟩;unfold jJ;rw[a.none hv];exact⟨rfl,rfl⟩
