/- One call on both DOMs: the condition of Do holds.
  Conditions: none. -/
import Derived.Test.YtgmiikiinbaapaaGreatX2
import Derived.Test.YtgmiikiinbaapaaGreatU3
import Derived.Test.YtgmiikiinbaapaaGreatS3
set_option linter.all false
noncomputable section
namespace Go.D
open Go Go.Xe Go.Sx
section
variable {L F L' F' H S N S' N':Sx.Rows}{fr lv fr' lv' e e' i g r i' g' r' k:Int}{bs bs' cs cs':Ak}{K:Nat}{t x:Str}
def BI.op (h:∃K,K+1<=1000/\BI K L F bs H S fr lv cs N):oX S N fr lv cs/\eU L F bs/\HOK H/\H.length<=1000:=by obtain⟨K,b,D,h1,h2,h3,h4,a⟩:=h;exact⟨⟨D,K,h2,h3⟩,⟨D,K,h1,h3⟩,h4,by omega⟩
def NK (h0:∃K,K+1<=1000/\BI K L F bs H S fr lv cs N){f:DM->DM×Int}(hp:W5 S N fr lv cs S' N' fr' lv' cs' fun D=>((f D).1,e=(f D).2))(hr:aX L F bs L' F' bs' fun D=>((f D).1,e'=(f D).2))(j:∀D K,WF D K->K+1<=1000->WF (f D).1 (K+1)):e=e'/\Fr S N S' N'/\ ∀K,K+1<=1000->BI K L F bs H S fr lv cs N->BI (K+1) L' F' bs' H S' fr' lv' cs' N':=by obtain⟨K,a,D,h1,h2,h3,h4,d⟩:=h0;have b:=(hp.2 D K h2 h3).2;have c:=(hr D K h1 h3).2;refine⟨b.trans c.symm,hp.1,fun K a h=>?_⟩;obtain⟨D,h1,h2,h3,h4,d⟩:=h;exact⟨(f D).1,(hr D K h1 h3).1,(hp.2 D K h2 h3).1,j D K h3 a,h4,by omega⟩
def LK {D:DM}(w:WF D K)(d:K+1<=1000)(h:(i,g,r)=(O6 D k t x).2):U32 i/\U32 g:=by
 unfold O6 at h;split at h
 ·simp only[OF]at h;rw[h.1,h.2.1];unfold U32;omega
 ·obtain⟨i',g',l,b,f,j,m,a,o,p,_⟩:=DM.take_spec (n:=C0 k t x) w d;simp only[OF]at h;obtain⟨h1,h2,h3⟩:=h;have:=(OG.1 a).1;have c:(D.take (C0 k t x)).1.gen i'=g':=by unfold DM.gen;rw[a]
  rw[b]at h1 h2;rw[c]at h2;rw[h1,h2];unfold U32;omega
def NJ (h0:∃K,K+1<=1000/\BI K L F bs H S fr lv cs N)(hk:k=1\/k=2)(hp:W5 S N fr lv cs S' N' fr' lv' cs' fun D=>((O6 D k t x).1,(i,g,r)=(O6 D k t x).2))(hr:aX L F bs L' F' bs' fun D=>((O6 D k t x).1,(i',g',r')=(O6 D k t x).2)):i=i'/\g=g'/\r=r'/\Fr S N S' N'/\ ∀K,K+1<=1000->BI K L F bs H S fr lv cs N->BI (K+1) L' F' bs' H S' fr' lv' cs' N'/\BI (K+1) L' F' bs' (H++ [[.int i',.int g']]) S' fr' lv' cs' N':=by
 obtain⟨K,b,D,h1,h2,h3,h4,f⟩:=h0;have c:=(hp.2 D K h2 h3).2;have d:=(hr D K h1 h3).2;have a:=c.trans d.symm;simp only[OF]at a;refine⟨a.1,a.2.1,a.2.2,hp.1,fun K b h=>?_⟩;obtain⟨D,h1,h2,h3,h4,f⟩:=h;have w:=h3.cre b hk (t:=t) (x:=x);have u:=LK h3 b (hr D K h1 h3).2;refine⟨⟨_,(hr D K h1 h3).1,(hp.2 D K h2 h3).1,w,h4,by omega⟩,⟨_,(hr D K h1 h3).1,(hp.2 D K h2 h3).1,w,fun r hr=>?_,by rw[Pe];show H.length+1<=K+1;omega⟩⟩;rcases Pq.1 hr with h|h
 ·exact h4 r h
 ·exact⟨_,_,PS.1 h,u.1,u.2⟩
def mK :U32 0:=by unfold U32;omega
def vcDo_ok :vcDo:=by
 unfold vcDo;intro k x y z s L F b0 Z b2 b3 b4 b5 b6 b7 H S fr lv c0 c1 c2 c3 c4 c5 c6 c7 st N h;obtain⟨hk,hx,hy,hz,hs,h0⟩:=h;obtain⟨o,u,hH,lH⟩:=BI.op h0;refine nin<|nrn<|nin<|nrn<|ndi ⟨hx.1,hx.2,hH⟩ fun i g u1=>nin<|nrn<|nin<|nrn<|ndi ⟨hy.1,hy.2,hH⟩ fun j m u2=>nin<|nrn<|nin<|nrn<|ndi ⟨hz.1,hz.2,hH⟩ fun p q u3=>?_;obtain⟨Y,X⟩:=u1;obtain⟨uj,um⟩:=u2;obtain⟨up,uq⟩:=u3;have ab:∀ {kk:Int} {t v:Str} (aj:kk=1\/kk=2) {a b c a' b' c':Int} {L' F' S' N' d:Sx.Rows} {fr' lv' B C E G I J M O e0 P Q R T U V W:Int},aX L F [b0,Z,b2,b3,b4,b5,b6,b7] L' F' [B,C,E,G,I,J,M,O] (fun D=>((O6 D kk t v).1,(a,b,c)=(O6 D kk t v).2))->W5 S N fr lv [c0,c1,c2,c3,c4,c5,c6,c7] S' N' fr' lv' [e0,P,Q,R,T,U,V,W] (fun D=>((O6 D kk t v).1,(a',b',c')=(O6 D kk t v).2))->
   (a'=a->vcDo2 b' b c H c' S' k x y z s L F b0 Z b2 b3 b4 b5 b6 b7 S fr lv c0 c1 c2 c3 c4 c5 c6 c7 st N L' F' B C E G I J M O a fr' lv' e0 P Q R T U V W d N')/\(¬a'=a->vcDo1 H S' k x y z s L F b0 Z b2 b3 b4 b5 b6 b7 S fr lv c0 c1 c2 c3 c4 c5 c6 c7 st N L' F' B C E G I J M O fr' lv' e0 P Q R T U V W d N'):=by
  intro kk t v aj a b c a' b' c' L' F' S' N' d fr' lv' B C E G I J M O e0 P Q R T U V W hr hp;obtain⟨q1,q2,q3,q4,q5⟩:=NJ h0 aj hp hr;refine⟨fun _=>?_,fun h=>absurd q1 h⟩;unfold vcDo2;refine⟨fun _=>⟨fun _=>nin<|ndi (by simp only[ln];omega)<|nrn ⟨fun _=>nin<|nrn<|nin<|nrn<|ndt ⟨rfl,q4,fun K A h=>(q5 K A h).2⟩,fun h=>absurd q3 h⟩,fun _=>⟨fun _=>?_,fun h=>absurd q3 h⟩⟩,fun h=>absurd q2 h⟩;unfold vcDo0;exact nin<|nrn<|nin<|nrn<|ndt ⟨rfl,q4,fun K A h=>(q5 K A h).1⟩
 have ah:vcDo3 s L F b0 Z b2 b3 b4 b5 b6 b7 S fr lv c0 c1 c2 c3 c4 c5 c6 c7 st N H k x y z:=by unfold vcDo3;intro v hv;refine ndi ⟨.inr rfl,u⟩ fun L' F' B C E G I J M O a b c hr=>nin<|nrn<|ndi ⟨rfl,rfl,rfl,.inr ⟨rfl,rfl⟩,o⟩ fun a' b' c' S' fr' lv' e0 P Q R T U V W d N' hp=>?_;exact ab (kk:=2) (t:=[]) (v:=v) (.inr rfl) hr hp
 have ac:vcDo4 s k L F b0 Z b2 b3 b4 b5 b6 b7 S fr lv c0 c1 c2 c3 c4 c5 c6 c7 st N H x y z:=by
  unfold vcDo4;refine ndi hs fun v _=>⟨fun _=>ndi hs ah,fun _=>ndi ⟨.inl rfl,u⟩ fun L' F' B C E G I J M O a b c hr=>nin<|nrn<|ndi ⟨rfl,rfl,rfl,.inl ⟨rfl,rfl⟩,o⟩ fun a' b' c' S' fr' lv' e0 P Q R T U V W d N' hp=>?_⟩
  exact ab (kk:=1) (t:=v) (v:=[]) (.inl rfl) hr hp
 have l:∀ {f:DM->DM×Int} (hw:∀D K,WF D K->K+1<=1000->WF (f D).1 (K+1)) {e e':Int} {L' F' S' N' d:Sx.Rows} {fr' lv' B C E G I J M O e0 P Q R T U V W:Int},W5 S N fr lv [c0,c1,c2,c3,c4,c5,c6,c7] S' N' fr' lv' [e0,P,Q,R,T,U,V,W] (fun D=>((f D).1,e=(f D).2))->aX L F [b0,Z,b2,b3,b4,b5,b6,b7] L' F' [B,C,E,G,I,J,M,O] (fun D=>((f D).1,e'=(f D).2))->
   (e=e'->vcDo0 H S' k x y z s L F b0 Z b2 b3 b4 b5 b6 b7 S fr lv c0 c1 c2 c3 c4 c5 c6 c7 st N L' F' B C E G I J M O fr' lv' e0 P Q R T U V W d N')/\(¬e=e'->vcDo1 H S' k x y z s L F b0 Z b2 b3 b4 b5 b6 b7 S fr lv c0 c1 c2 c3 c4 c5 c6 c7 st N L' F' B C E G I J M O fr' lv' e0 P Q R T U V W d N'):=by
  intro f hw e e' L' F' S' N' d fr' lv' B C E G I J M O e0 P Q R T U V W hp hr;obtain⟨q1,q2,q3⟩:=NK h0 hp hr hw;refine⟨fun _=>?_,fun h=>absurd q1 h⟩;unfold vcDo0;exact nin<|nrn<|nin<|nrn<|ndt ⟨rfl,q2,q3⟩
 have aa:vcDo5 k S i g j m fr lv c0 c1 c2 c3 c4 c5 c6 c7 st N L F b0 Z b2 b3 b4 b5 b6 b7 H x y z s p q:=by
  unfold vcDo5;refine⟨fun _=>nin<|nrn<|ndi ⟨Y,X,uj,um,mK,mK,o⟩ fun r S' fr' lv' e0 P Q R T U V W d N' hp=>ndi ⟨Y,X,uj,um,mK,mK,u⟩ fun L' F' B C E G I J M O r' hr=>?_,fun _=>nin<|nrn<|ndi ⟨Y,X,uj,um,up,uq,o⟩ fun r S' fr' lv' e0 P Q R T U V W d N' hp=>ndi ⟨Y,X,uj,um,up,uq,u⟩ fun L' F' B C E G I J M O r' hr=>?_⟩
  ·exact l (fun D K w A=>w.ins A) hp hr
  ·exact l (fun D K w A=>w.ins A) hp hr
 have ai:vcDo6 S i g j m fr lv c0 c1 c2 c3 c4 c5 c6 c7 st N L F b0 Z b2 b3 b4 b5 b6 b7 H k x y z s:=by unfold vcDo6;refine nin<|nrn<|ndi ⟨Y,X,uj,um,o⟩ fun r S' fr' lv' e0 P Q R T U V W d N' hp=>ndi ⟨Y,X,uj,um,u⟩ fun L' F' B C E G I J M O r' hr=>?_;exact l (fun D K w A=>w.mov A) hp hr
 have u8:∀n:Int,B8 n->Hj [.int (IntKind.wrap .u8 (n.tdiv 8))]:=fun n h=>by
  have h1:0<=n.tdiv 8:=Int.tdiv_nonneg h.1 (by omega);have h2:n.tdiv 8<256:=by have:=Int.tdiv_le_self 8 h.1;have:=h.2;omega
  rw[P6 (by simp[IntKind.min,IntKind.signed];omega) (by simp[IntKind.max,IntKind.signed,IntKind.bits];omega)];exact⟨h1,h2⟩
 refine⟨fun _=>ac,fun _=>⟨fun _=>ac,fun _=>⟨fun _=>ac,fun _=>⟨fun e=>ndi hs fun v _=>ndi e<|ndi hs ah,fun _=>⟨fun _=>?_,fun _=>⟨fun _=>?_,fun _=>⟨fun _=>?_,fun _=>⟨fun _=>aa,fun _=>⟨fun _=>aa,fun _=>⟨fun _=>aa,fun _=>⟨fun _=>aa,fun _=>⟨fun _=>?_,fun _=>⟨fun _=>ai,fun _=>⟨fun _=>ai,fun _=>⟨fun _=>?_,fun _=>?_⟩⟩⟩⟩⟩⟩⟩⟩⟩⟩⟩⟩⟩⟩⟩
 ·refine ndi hs fun n hn=>ndi (u8 s hs) fun v hv=>nin<|nrn<|ndi ⟨Y,X,by omega,o⟩ fun r S' fr' lv' e0 P Q R T U V W d N' hp=>ndi hs fun n' ad=>ndi (u8 s hs) fun v' ae=>?_;have en:n'=n:=ad.trans hn.symm;have ev:v'=v:=ae.trans hv.symm;subst en;subst ev;exact ndi ⟨Y,X,fun h=>by simp at h,u⟩ fun L' F' B C E G I J M O r' hr=>l (fun D K w A=>w.edt A) hp hr
 ·refine ndi hs fun n hn=>nin<|nrn<|ndi ⟨Y,X,by omega,o⟩ fun r S' fr' lv' e0 P Q R T U V W d N' hp=>ndi hs fun n' ad=>?_;have en:n'=n:=ad.trans hn.symm;subst en;exact ndi ⟨Y,X,fun _=>rfl,u⟩ fun L' F' B C E G I J M O r' hr=>l (fun D K w A=>w.edt A) hp hr
 ·refine ndi hs fun v hv=>nin<|nrn<|ndi ⟨Y,X,o⟩ fun r S' fr' lv' e0 P Q R T U V W d N' hp=>ndi hs fun v' ae=>?_;have ev:v'=v:=ae.trans hv.symm;subst ev;exact ndi ⟨Y,X,u⟩ fun L' F' B C E G I J M O r' hr=>l (fun D K w A=>w.text A) hp hr
 ·exact nin<|nrn<|ndi ⟨Y,X,o⟩ fun r S' fr' lv' e0 P Q R T U V W d N' hp=>ndi ⟨Y,X,u⟩ fun L' F' B C E G I J M O r' hr=>l (fun D K w A=>w.rem A) hp hr
 ·have i1:I64 s:=by unfold I64;have:=hs.1;have:=hs.2;omega
  have i2:I64 (s+ -100):=by unfold I64;have:=hs.1;have:=hs.2;omega
  have i3:I64 z:=by unfold I64;have:=hz.1;have:=hz.2;omega
  exact ndi i1<|ndi i2<|ndi i3<|nin<|nrn<|ndi ⟨Y,X,o⟩ fun r S' fr' lv' e0 P Q R T U V W d N' hp=>ndi i1<|ndi i2<|ndi i3<|ndi ⟨Y,X,u⟩ fun L' F' B C E G I J M O r' hr=>l (fun D K w A=>w.pla A) hp hr
 ·exact nin<|nrn<|ndi ⟨Y,X,o⟩ fun r S' fr' lv' e0 P Q R T U V W d N' hp=>ndi ⟨Y,X,u⟩ fun L' F' B C E G I J M O r' hr=>l (fun D K w A=>w.fre A) hp hr
end
end Go.D
