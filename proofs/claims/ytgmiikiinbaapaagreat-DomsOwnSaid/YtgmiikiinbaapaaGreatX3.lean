/- One call on both DOMs: the condition of Do holds.
  Conditions: none. -/
import Derived.Test.YtgmiikiinbaapaaGreatX2
import Derived.Test.YtgmiikiinbaapaaGreatS3
set_option linter.all false
noncomputable section
namespace Go.D
open Go Go.Xe Go.Sx
section
variable {L F L' F' H S N S' N':Sx.Rows}{fr lv fr' lv' e e' i g r i' g' r' k:Int}{bs bs' cs cs':Ak}{K:Nat}{t x:Str}
def BI.op (h:∃K,K+1<=1000/\BI K L F bs H S fr lv cs N):pJ S N fr lv cs/\fF L F bs/\HOK H/\H.length<=1000:=by obtain⟨K,b,D,h1,h2,h3,h4,a⟩:=h;exact⟨⟨D,K,h2,h3⟩,⟨D,K,h1,h3⟩,h4,by omega⟩
def Om (h0:∃K,K+1<=1000/\BI K L F bs H S fr lv cs N){f:DM->DM×Int}(hp:X0 S N fr lv cs S' N' fr' lv' cs' fun D=>((f D).1,e=(f D).2))(hr:bB L F bs L' F' bs' fun D=>((f D).1,e'=(f D).2))(j:∀D K,WF D K->K+1<=1000->WF (f D).1 (K+1)):e=e'/\Fr S N S' N'/\ ∀K,K+1<=1000->BI K L F bs H S fr lv cs N->BI (K+1) L' F' bs' H S' fr' lv' cs' N':=by obtain⟨K,a,D,h1,h2,h3,h4,d⟩:=h0;have b:=(hp.2 D K h2 h3).2;have c:=(hr D K h1 h3).2;refine⟨b.trans c.symm,hp.1,fun K a h=>?_⟩;obtain⟨D,h1,h2,h3,h4,d⟩:=h;exact⟨(f D).1,(hr D K h1 h3).1,(hp.2 D K h2 h3).1,j D K h3 a,h4,by omega⟩
def Mn {D:DM}(w:WF D K)(d:K+1<=1000)(h:(i,g,r)=(P2 D k t x).2):U32 i/\U32 g:=by
 unfold P2 at h;split at h;simp only[Pn]at h;rw[h.1,h.2.1];unfold U32;omega
 ·obtain⟨i',g',l,b,f,j,m,a,o,p,_⟩:=DM.take_spec (n:=C2 k t x) w d;simp only[Pn]at h;obtain⟨h1,h2,h3⟩:=h;have:=(Po.1 a).1;have c:(D.take (C2 k t x)).1.gen i'=g':=by unfold DM.gen;rw[a]
  rw[b]at h1 h2;rw[c]at h2;rw[h1,h2];unfold U32;omega
def Ol (h0:∃K,K+1<=1000/\BI K L F bs H S fr lv cs N)(hk:k=1\/k=2)(hp:X0 S N fr lv cs S' N' fr' lv' cs' fun D=>((P2 D k t x).1,(i,g,r)=(P2 D k t x).2))(hr:bB L F bs L' F' bs' fun D=>((P2 D k t x).1,(i',g',r')=(P2 D k t x).2)):i=i'/\g=g'/\r=r'/\Fr S N S' N'/\ ∀K,K+1<=1000->BI K L F bs H S fr lv cs N->BI (K+1) L' F' bs' H S' fr' lv' cs' N'/\BI (K+1) L' F' bs' (H++ [[.int i',.int g']]) S' fr' lv' cs' N':=by obtain⟨K,b,D,h1,h2,h3,h4,f⟩:=h0;have c:=(hp.2 D K h2 h3).2;have d:=(hr D K h1 h3).2;have a:=c.trans d.symm;simp only[Pn]at a;refine⟨a.1,a.2.1,a.2.2,hp.1,fun K b h=>?_⟩;obtain⟨D,h1,h2,h3,h4,f⟩:=h;have w:=h3.cre b hk (t:=t) (x:=x);have u:=Mn h3 b (hr D K h1 h3).2;refine⟨⟨_,(hr D K h1 h3).1,(hp.2 D K h2 h3).1,w,h4,by omega⟩,⟨_,(hr D K h1 h3).1,(hp.2 D K h2 h3).1,w,fun r hr=>?_,by rw[PL];show H.length+1<=K+1;omega⟩⟩;rcases PZ.1 hr with h|h;exact h4 r h;exact⟨_,_,QA.1 h,u.1,u.2⟩
def mW :U32 0:=by unfold U32;omega
def vcDo_ok :vcDo:=by
 unfold vcDo;intro k x y z s L F b0 Z b2 b3 b4 b5 b6 b7 H S fr lv c0 c1 c2 c3 c4 c5 c6 c7 st N h;obtain⟨hk,hx,hy,hz,hs,h0⟩:=h;obtain⟨o,u,hH,lH⟩:=BI.op h0;refine nin<|nrn<|nin<|nrn<|ndi ⟨hx.1,hx.2,hH⟩ fun i g u1=>nin<|nrn<|nin<|nrn<|ndi ⟨hy.1,hy.2,hH⟩ fun j m u2=>nin<|nrn<|nin<|nrn<|ndi ⟨hz.1,hz.2,hH⟩ fun p q u3=>?_;obtain⟨Y,X⟩:=u1;obtain⟨uj,um⟩:=u2;obtain⟨up,uq⟩:=u3;have ab:∀ {kk:Int} {t v:Str} (aj:kk=1\/kk=2) {a b c a' b' c':Int} {L' F' S' N' d:Sx.Rows} {fr' lv' B C E G I J M O e0 P Q R T U V W:Int},bB L F [b0,Z,b2,b3,b4,b5,b6,b7] L' F' [B,C,E,G,I,J,M,O] (fun D=>((P2 D kk t v).1,(a,b,c)=(P2 D kk t v).2))->X0 S N fr lv [c0,c1,c2,c3,c4,c5,c6,c7] S' N' fr' lv' [e0,P,Q,R,T,U,V,W] (fun D=>((P2 D kk t v).1,(a',b',c')=(P2 D kk t v).2))->
   (a'=a->vcDo2 b' b c H c' S' k x y z s L F b0 Z b2 b3 b4 b5 b6 b7 S fr lv c0 c1 c2 c3 c4 c5 c6 c7 st N L' F' B C E G I J M O a fr' lv' e0 P Q R T U V W d N')/\(¬a'=a->vcDo1 H S' k x y z s L F b0 Z b2 b3 b4 b5 b6 b7 S fr lv c0 c1 c2 c3 c4 c5 c6 c7 st N L' F' B C E G I J M O fr' lv' e0 P Q R T U V W d N'):=by
  intro kk t v aj a b c a' b' c' L' F' S' N' d fr' lv' B C E G I J M O e0 P Q R T U V W hr hp;obtain⟨q1,q2,q3,q4,q5⟩:=Ol h0 aj hp hr;refine⟨fun _=>?_,fun h=>absurd q1 h⟩;unfold vcDo2;refine⟨fun _=>⟨fun _=>nin<|ndi (by simp only[ln];omega)<|nrn ⟨fun _=>nin<|nrn<|nin<|nrn<|ndt ⟨rfl,q4,fun K A h=>(q5 K A h).2⟩,fun h=>absurd q3 h⟩,fun _=>⟨fun _=>?_,fun h=>absurd q3 h⟩⟩,fun h=>absurd q2 h⟩;unfold vcDo0;exact nin<|nrn<|nin<|nrn<|ndt ⟨rfl,q4,fun K A h=>(q5 K A h).1⟩
 have ah:vcDo3 s L F b0 Z b2 b3 b4 b5 b6 b7 S fr lv c0 c1 c2 c3 c4 c5 c6 c7 st N H k x y z:=by unfold vcDo3;intro v hv;refine ndi ⟨.inr rfl,u⟩ fun L' F' B C E G I J M O a b c hr=>nin<|nrn<|ndi ⟨rfl,rfl,rfl,.inr ⟨rfl,rfl⟩,o⟩ fun a' b' c' S' fr' lv' e0 P Q R T U V W d N' hp=>?_;exact ab (kk:=2) (t:=[]) (v:=v) (.inr rfl) hr hp
 have ac:vcDo4 s k L F b0 Z b2 b3 b4 b5 b6 b7 S fr lv c0 c1 c2 c3 c4 c5 c6 c7 st N H x y z:=by
  unfold vcDo4;refine ndi hs fun v _=>⟨fun _=>ndi hs ah,fun _=>ndi ⟨.inl rfl,u⟩ fun L' F' B C E G I J M O a b c hr=>nin<|nrn<|ndi ⟨rfl,rfl,rfl,.inl ⟨rfl,rfl⟩,o⟩ fun a' b' c' S' fr' lv' e0 P Q R T U V W d N' hp=>?_⟩
  exact ab (kk:=1) (t:=v) (v:=[]) (.inl rfl) hr hp
 have l:∀ {f:DM->DM×Int} (hw:∀D K,WF D K->K+1<=1000->WF (f D).1 (K+1)) {e e':Int} {L' F' S' N' d:Sx.Rows} {fr' lv' B C E G I J M O e0 P Q R T U V W:Int},X0 S N fr lv [c0,c1,c2,c3,c4,c5,c6,c7] S' N' fr' lv' [e0,P,Q,R,T,U,V,W] (fun D=>((f D).1,e=(f D).2))->bB L F [b0,Z,b2,b3,b4,b5,b6,b7] L' F' [B,C,E,G,I,J,M,O] (fun D=>((f D).1,e'=(f D).2))->
   (e=e'->vcDo0 H S' k x y z s L F b0 Z b2 b3 b4 b5 b6 b7 S fr lv c0 c1 c2 c3 c4 c5 c6 c7 st N L' F' B C E G I J M O fr' lv' e0 P Q R T U V W d N')/\(¬e=e'->vcDo1 H S' k x y z s L F b0 Z b2 b3 b4 b5 b6 b7 S fr lv c0 c1 c2 c3 c4 c5 c6 c7 st N L' F' B C E G I J M O fr' lv' e0 P Q R T U V W d N'):=by
  intro f hw e e' L' F' S' N' d fr' lv' B C E G I J M O e0 P Q R T U V W hp hr;obtain⟨q1,q2,q3⟩:=Om h0 hp hr hw;refine⟨fun _=>?_,fun h=>absurd q1 h⟩;unfold vcDo0;exact nin<|nrn<|nin<|nrn<|ndt ⟨rfl,q2,q3⟩
 have aa:vcDo5 k S i g j m fr lv c0 c1 c2 c3 c4 c5 c6 c7 st N L F b0 Z b2 b3 b4 b5 b6 b7 H x y z s p q:=by unfold vcDo5;refine⟨fun _=>nin<|nrn<|ndi ⟨Y,X,uj,um,mW,mW,o⟩ fun r S' fr' lv' e0 P Q R T U V W d N' hp=>ndi ⟨Y,X,uj,um,mW,mW,u⟩ fun L' F' B C E G I J M O r' hr=>?_,fun _=>nin<|nrn<|ndi ⟨Y,X,uj,um,up,uq,o⟩ fun r S' fr' lv' e0 P Q R T U V W d N' hp=>ndi ⟨Y,X,uj,um,up,uq,u⟩ fun L' F' B C E G I J M O r' hr=>?_⟩;exact l (fun D K w A=>w.ins A) hp hr;exact l (fun D K w A=>w.ins A) hp hr
 have ai:vcDo6 S i g j m fr lv c0 c1 c2 c3 c4 c5 c6 c7 st N L F b0 Z b2 b3 b4 b5 b6 b7 H k x y z s:=by unfold vcDo6;refine nin<|nrn<|ndi ⟨Y,X,uj,um,o⟩ fun r S' fr' lv' e0 P Q R T U V W d N' hp=>ndi ⟨Y,X,uj,um,u⟩ fun L' F' B C E G I J M O r' hr=>?_;exact l (fun D K w A=>w.mov A) hp hr
 have u8:∀n:Int,B8 n->HI [.int (IntKind.wrap .u8 (n.tdiv 8))]:=fun n h=>by
  have h1:0<=n.tdiv 8:=Int.tdiv_nonneg h.1 (by omega);have h2:n.tdiv 8<256:=by have:=Int.tdiv_le_self 8 h.1;have:=h.2;omega
  rw[M9 (by simp[IntKind.min,IntKind.signed];omega) (by simp[IntKind.max,IntKind.signed,IntKind.bits];omega)];exact⟨h1,h2⟩
 refine⟨fun _=>ac,fun _=>⟨fun _=>ac,fun _=>⟨fun _=>ac,fun _=>⟨fun e=>ndi hs fun v _=>ndi e<|ndi hs ah,fun _=>⟨fun _=>?_,fun _=>⟨fun _=>?_,fun _=>⟨fun _=>?_,fun _=>⟨fun _=>aa,fun _=>⟨fun _=>aa,fun _=>⟨fun _=>aa,fun _=>⟨fun _=>aa,fun _=>⟨fun _=>?_,fun _=>⟨fun _=>ai,fun _=>⟨fun _=>ai,fun _=>⟨fun _=>?_,fun _=>?_⟩⟩⟩⟩⟩⟩⟩⟩⟩⟩⟩⟩⟩⟩⟩;refine ndi hs fun n hn=>ndi (u8 s hs) fun v hv=>nin<|nrn<|ndi ⟨Y,X,by omega,o⟩ fun r S' fr' lv' e0 P Q R T U V W d N' hp=>ndi hs fun n' ad=>ndi (u8 s hs) fun v' ae=>?_;have en:n'=n:=ad.trans hn.symm;have ev:v'=v:=ae.trans hv.symm;subst en;subst ev;exact ndi ⟨Y,X,fun h=>by simp at h,u⟩ fun L' F' B C E G I J M O r' hr=>l (fun D K w A=>w.edt A) hp hr;refine ndi hs fun n hn=>nin<|nrn<|ndi ⟨Y,X,by omega,o⟩ fun r S' fr' lv' e0 P Q R T U V W d N' hp=>ndi hs fun n' ad=>?_;have en:n'=n:=ad.trans hn.symm;subst en;exact ndi ⟨Y,X,fun _=>rfl,u⟩ fun L' F' B C E G I J M O r' hr=>l (fun D K w A=>w.edt A) hp hr;refine ndi hs fun v hv=>nin<|nrn<|ndi ⟨Y,X,o⟩ fun r S' fr' lv' e0 P Q R T U V W d N' hp=>ndi hs fun v' ae=>?_;have ev:v'=v:=ae.trans hv.symm;subst ev;exact ndi ⟨Y,X,u⟩ fun L' F' B C E G I J M O r' hr=>l (fun D K w A=>w.text A) hp hr;exact nin<|nrn<|ndi ⟨Y,X,o⟩ fun r S' fr' lv' e0 P Q R T U V W d N' hp=>ndi ⟨Y,X,u⟩ fun L' F' B C E G I J M O r' hr=>l (fun D K w A=>w.rem A) hp hr
 ·have i1:I64 s:=by unfold I64;have:=hs.1;have:=hs.2;omega
  have i2:I64 (s+ -100):=by unfold I64;have:=hs.1;have:=hs.2;omega
  have i3:I64 z:=by unfold I64;have:=hz.1;have:=hz.2;omega
  exact ndi i1<|ndi i2<|ndi i3<|nin<|nrn<|ndi ⟨Y,X,o⟩ fun r S' fr' lv' e0 P Q R T U V W d N' hp=>ndi i1<|ndi i2<|ndi i3<|ndi ⟨Y,X,u⟩ fun L' F' B C E G I J M O r' hr=>l (fun D K w A=>w.pla A) hp hr
 exact nin<|nrn<|ndi ⟨Y,X,o⟩ fun r S' fr' lv' e0 P Q R T U V W d N' hp=>ndi ⟨Y,X,u⟩ fun L' F' B C E G I J M O r' hr=>l (fun D K w A=>w.fre A) hp hr
end
section
variable {D :DM}{L F S N:Sx.Rows}{fr lv:Int}{bs cs:Ak}{K c:Nat}{s:Sl}{T:List RS}{M:List RN}
mutual
def uT :∀s:c9,DI true s=s
 | .mk k t y a x c=>by unfold DI;rw[strips_true c];rfl
def strips_true :∀l:List c9,strips true l=l
 | []=>rfl|s::l=>by unfold strips;rw[uT s,strips_true l]
end
def hL' (L:Sx.Rows)(j:Nat):Ar:=[.int j,.int (cI L j 0)]
def pC (h:Rf D L F bs)(hs:D.L[c]? =some s):cI L c 0=s.g/\cB L c 1=s.used/\(c:Int)<ln L/\D.gen c=s.g:=by
 obtain⟨rfl,_,_⟩:=h;have hc:D.L[((c:Nat):Int).toNat]? =some s:=by rw[Qd];exact hs
 have:=(Po.1 hs).1;simp only[cI,cB,i4 hc,s.r0,s.r1,ln,PD];exact⟨rfl,rfl,by omega,Rs hs⟩
def yJ (h:Rf D L F bs)(o:RlC D S N fr lv cs)(w:WF D K)(hs:D.L[c]? =some s)(d:s.used=true):D.at c s.g=some c/\v9 S c s.g=true/\U32 (c:Int)/\U32 (s.g:Int)/\cI N (atF S c s.g) 0=cI L c 2/\cS N (atF S c s.g) 1=cS L c 3/\cL N (atF S c s.g) 2=cL L c 4/\cS N (atF S c s.g) 3=cS L c 5/\cI N (atF S c s.g) 4=cI L c 6/\cI N (atF S c s.g) 5=cI L c 7/\cB N (atF S c s.g) 6=cB L c 8/\cL L c 4=s.n.atts.map Att.row/\cI L c 9=s.n.par/\cL L c 10=s.n.ch.map A5/\cL N (atF S c s.g) 9=s.n.ch.map (hL' L)/\(cI L c 9<0->cI N (atF S c s.g) 7=0/\cI N (atF S c s.g) 8=0)/\(¬cI L c 9<0->cI L c 9<ln L/\cI L c 9<=1000/\cI N (atF S c s.g) 7=cI L c 9/\cI N (atF S c s.g) 8=cI L (cI L c 9) 0):=by
 have b:D.at c s.g=some c:=by have:=DM.at_of hs d;rwa[Rs hs]at this
 obtain⟨s',h1,h2,h3,h4,r,t,v,a⟩:=o.1.spot b;rw[hs]at h1;cases h1;have u:=w.u32 b;have hc:D.L[((c:Nat):Int).toNat]? =some s:=by rw[Qd];exact hs
 have hL:=h.1;have cel:∀j,z4 L c j=s.row.getD j (.int 0):=fun j=>by rw[hL];exact i4 hc j
 have row:s.row=[.int s.g,.bool true,.int s.n.kind,.str s.n.tag,.lst (s.n.atts.map Att.row),.str s.n.text,.int s.n.top,.int s.n.size,.bool s.n.pin,.int s.n.par,.lst (s.n.ch.map A5)]:=by unfold Sl.row;rw[PG d]
 have lim:=w.lim;have f:cI L c 9=s.n.par:=by simp only[cI,cel,row];rfl
 have l:cI N (atF S c s.g) 7=hI s.n.par:=by simp only[cI,a];rfl
 have m:cI N (atF S c s.g) 8=hG' D.gen s.n.par:=by simp only[cI,a];rfl
 refine⟨b,o.1.vld.2 ⟨c,b⟩,u.1,u.2.1,?_,?_,?_,?_,?_,?_,?_,?_,f,?_,?_,fun hn=>?_,fun hn=>?_⟩;simp only[cI,a,cel,row];rfl;simp only[cS,a,cel,row];rfl;simp only[cL,a,cel,row];rfl;simp only[cS,a,cel,row];rfl;simp only[cI,a,cel,row];rfl;simp only[cI,a,cel,row];rfl;simp only[cB,a,cel,row];rfl;simp only[cL,cel,row];rfl;simp only[cL,cel,row];rfl
 ·have:cL N (atF S c s.g) 9=s.n.ch.map (D9 D.gen):=by simp only[cL,a];rfl
  rw[this];refine List.map_congr_left fun j hj=>?_;obtain⟨sj,k1,k2,_⟩:=(w.ch c s hs d).2 j hj;obtain⟨i,_,_,k⟩:=pC h k1;unfold D9 hL';rw[i,k]
 ·rw[l,m];have:s.n.par= -1:=by rcases w.par c s hs d with e| ⟨p,sp,e,_⟩<;>omega
  rw[this];exact⟨rfl,rfl⟩
 rw[l,m,f];rw[f]at hn;rcases w.par c s hs d with e| ⟨p,sp,e,k1,k2,k3⟩;omega;obtain⟨i,_,q,k⟩:=pC h k1;have:=(Po.1 k1).1;unfold hI hG';rw[e,PE (by omega),PE (by omega),Qd,i,k];exact⟨q,by omega,rfl,rfl⟩
def Ob (h:RlT D.gen D T M fr lv)(b:Rf D L F bs):∀ {l:Ah} {i:Int},Ch T i l-> ∀f,l.length<=f->waF (T.map RS.row) f i=l.map (hL' L)
 | [],i,h,f,_=>by have h:i=0:=h;subst h;cases f<;>simp[waF]
 |a::l,i,⟨h1,r,h2,h3,h4⟩,f,hf=>by
  obtain⟨f,rfl⟩:∃k,f=k+1:=⟨f-1,by simp at hf;omega⟩
  have e:i-1=(a:Int):=by omega
  have hr:T[((a:Nat):Int).toNat]? =some r:=by rw[Qd];exact h2
  obtain⟨d,k1,k2,_⟩:=h.back h2;unfold waF;rw[PG (by omega),e,show cI (T.map RS.row) a 2=r.nx by simp only[cI];rw[i4 hr];rfl,show cI (T.map RS.row) a 0=r.g by simp only[cI];rw[i4 hr];rfl,Ob h b h4 f (by simp at hf;omega)];rw[Qn];congr 1;unfold hL';rw[(pC b k1).1,k2]
def vH (b:Rf D L F bs)(a:RlC D S N fr lv cs)(w:WF D K):waF S 1001 fr=D.free.map (hL' L):=by obtain⟨T,M,rfl,rfl,h⟩:=a.1;have:=h.len;have:=w.lim;have:=h.free.le h.nodup;exact Ob h b h.free 1001 (by omega)
def NN :∀ {T:List RS} (k:Nat),hdF (T.map RS.row) k=((List.range T.length).filter fun j=>(T.getD j ⟨0,false,0,0⟩).u).map fun j=>[Dat.int ((k+j:Nat):Int),.int (T.getD j ⟨0,false,0,0⟩).g]
 | [],k=>rfl|r::T,k=>by
  rw[Qn];unfold hdF;have b:(RS.row r).getD 1 (.int 0)= .bool r.u:=rfl;have e0:(RS.row r).getD 0 (.int 0)= .int r.g:=rfl;have a:=NN (T:=T) (k+1);rw[Int.natCast_add]at a;have a:hdF (T.map RS.row) ((k:Int)+1)=_:=a;rw[b,e0,a,Qf,List.range_succ_eq_map,List.filter_cons,List.filter_map];have d:∀l:Ah,(l.map fun j=>[Dat.int ((k+1+j:Nat):Int),.int (T.getD j ⟨0,false,0,0⟩).g])=l.map ((fun j=>[Dat.int ((k+j:Nat):Int),.int ((r::T).getD j ⟨0,false,0,0⟩).g])∘Nat.succ):=fun l=>List.map_congr_left fun j _=>by simp only[Function.comp,List.getD_cons_succ];rw[show k+1+j=k+j.succ by omega]
  have e:((fun j=>((r::T).getD j ⟨0,false,0,0⟩).u)∘Nat.succ)=fun j=>(T.getD j ⟨0,false,0,0⟩).u:=by funext j;rfl
  have hr:((r::T).getD 0 ⟨0,false,0,0⟩)=r:=rfl;rw[e,hr,d];cases f:r.u<;>simp[Dat.toBool,f,List.map_map]
def Dp (a:Rf D L F bs)(f:RlC D S N fr lv cs)(w:WF D K):(hdF S 0).filter (roB S N)=(fG L L.length).map (hL' L):=by
 obtain⟨T,M,rfl,rfl,h⟩:=f.1;have t:T.length=L.length:=by rw[h.len,a.1,PD]
 have:=NN (T:=T) 0;rw[show hdF (T.map RS.row) 0=_ from this,List.filter_map,List.filter_filter,t];unfold fG;have d:∀j∈List.range L.length,((fun r=>roB (T.map RS.row) (M.map RN.row) r)∘fun j:Nat=>[Dat.int ((0+j:Nat):Int),.int (T.getD j ⟨0,false,0,0⟩).g]) j=true/\(T.getD j ⟨0,false,0,0⟩).u=true↔(cB L j 1&&decide (cI L j 9<0))=true:=fun j hj=>by
  have hj:=List.mem_range.1 hj;rw[a.1,PD]at hj;have hs:D.L[j]? =some D.L[j]:=Pw hj;obtain⟨r,h1,h2,h3,_⟩:=h.row j _ hs;have b:T.getD j ⟨0,false,0,0⟩=r:=by rw[PP,h1];rfl
  obtain⟨B,v,C,E⟩:=pC a hs;show roB (T.map RS.row) (M.map RN.row) [Dat.int ((0+j:Nat):Int),.int (T.getD j ⟨0,false,0,0⟩).g]=true/\(T.getD j ⟨0,false,0,0⟩).u=true↔_;rw[b,v,h3];cases k:(D.L[j]).used with
  |false=>simp|true=>
   obtain⟨_,_,_,_,_,_,_,_,_,_,_,_,l,_,_,m,n⟩:=yJ a f w hs k;have e:roB (T.map RS.row) (M.map RN.row) [Dat.int ((0+j:Nat):Int),.int r.g]=(decide (cI (M.map RN.row) (atF (T.map RS.row) j (D.L[j]).g) 7=0)&&decide (cI (M.map RN.row) (atF (T.map RS.row) j (D.L[j]).g) 8=0)):=by unfold roB;rw[show(0+j)=j by omega,h2];rfl
   rw[e];simp only[Bool.true_and,PF,Pk,QH];constructor;rintro ⟨G,H⟩;apply Classical.byContradiction;intro hn;obtain⟨x,y,z,o⟩:=n hn;rcases w.par j _ hs k with e'| ⟨p,sp,e',k1,k2,k3⟩;omega;have A:=w.gen sp (Pv k1);have:=(pC a k1).1;rw[l,e']at o;omega;exact fun hn=>m hn
 have q:(List.range L.length).filter (fun j=>((fun r=>roB (T.map RS.row) (M.map RN.row) r)∘fun j:Nat=>[Dat.int ((0+j:Nat):Int),.int (T.getD j ⟨0,false,0,0⟩).g]) j&&(T.getD j ⟨0,false,0,0⟩).u)=(List.range L.length).filter fun i:Nat=>cB L i 1&&decide (cI L i 9<0):=by refine List.filter_congr fun j hj=>?_;rw[Bool.eq_iff_iff,Pk];exact d j hj
 rw[q];refine List.map_congr_left fun j hj=>?_;have hj:=List.mem_range.1 (List.mem_filter.1 hj).1;rw[a.1,PD]at hj;have hs:D.L[j]? =some D.L[j]:=Pw hj;obtain⟨r,h1,h2,h3,_⟩:=h.row j _ hs;have b:T.getD j ⟨0,false,0,0⟩=r:=by rw[PP,h1];rfl
 unfold hL';rw[b,(pC a hs).1,h2,show(0+j)=j by omega]
