/- One call on both DOMs: the condition of Do holds.
  Conditions: none. -/
import Derived.Test.YtoegfalhkackeaaGreatQM
import Derived.Test.YtoegfalhkackeaaGreatW8
set_option maxRecDepth 100000
set_option linter.all false
noncomputable section
namespace Go.D
open Go Go.Xe Go.Sx
section
variable {L F L' F' H S N S' N':a8}{fr lv fr' lv' e e' i g r i' g' r' k:Int}{bs bs' cs cs':Ak}{K:Nat}{t x:Str}
def BI.op (h:∃K,K+1<=1000/\BI K L F bs H S fr lv cs N):rD S N fr lv cs/\gR L F bs/\HOK H/\H.length<=1000:=by obtain⟨K,b,D,h1,h2,h3,h4,a⟩:=h;exact⟨⟨D,K,h2,h3⟩,⟨D,K,h1,h3⟩,h4,by omega⟩
def Rc (h0:∃K,K+1<=1000/\BI K L F bs H S fr lv cs N){f:DM->DM×Int}(hp:Z5 S N fr lv cs S' N' fr' lv' cs' λD=>((f D).1,e=(f D).2))(hr:cQ L F bs L' F' bs' λD=>((f D).1,e'=(f D).2))(j:∀D K,WF D K->K+1<=1000->WF (f D).1 (K+1)):e=e'/\Fr S N S' N'/\ ∀K,K+1<=1000->BI K L F bs H S fr lv cs N->BI (K+1) L' F' bs' H S' fr' lv' cs' N':=by obtain⟨K,a,D,h1,h2,h3,h4,d⟩:=h0;have b:=(hp.2 D K h2 h3).2;have c:=(hr D K h1 h3).2;refine⟨b.trans c.symm,hp.1,λK a h=>?_⟩;obtain⟨D,h1,h2,h3,h4,d⟩:=h;exact⟨(f D).1,(hr D K h1 h3).1,(hp.2 D K h2 h3).1,j D K h3 a,h4,by omega⟩
def OL {D:DM}(w:WF D K)(d:K+1<=1000)(h:(i,g,r)=(I6 D k t x).2):U32 i/\U32 g:=by
 unfold I6 at h;split at h;simp only[SU]at h;rw[h.1,h.2.1];unfold U32;omega
 .obtain⟨i',g',l,b,f,j,m,a,o,p,_⟩:=DM.take_spec (n:=C5 k t x) w d;simp only[SU]at h;obtain⟨h1,h2,h3⟩:=h;have:=(SW.1 a).1;have c:(D.take (C5 k t x)).1.gen i'=g':=by unfold DM.gen;rw[a]
  rw[b]at h1 h2;rw[c]at h2;rw[h1,h2];unfold U32;omega
def Rb (h0:∃K,K+1<=1000/\BI K L F bs H S fr lv cs N)(hk:k=1\/k=2)(hp:Z5 S N fr lv cs S' N' fr' lv' cs' λD=>((I6 D k t x).1,(i,g,r)=(I6 D k t x).2))(hr:cQ L F bs L' F' bs' λD=>((I6 D k t x).1,(i',g',r')=(I6 D k t x).2)):i=i'/\g=g'/\r=r'/\Fr S N S' N'/\ ∀K,K+1<=1000->BI K L F bs H S fr lv cs N->BI (K+1) L' F' bs' H S' fr' lv' cs' N'/\BI (K+1) L' F' bs' (H++ [[.i i',.i g']]) S' fr' lv' cs' N':=by obtain⟨K,b,D,h1,h2,h3,h4,f⟩:=h0;have c:=(hp.2 D K h2 h3).2;have d:=(hr D K h1 h3).2;have a:=c.trans d.symm;simp only[SU]at a;refine⟨a.1,a.2.1,a.2.2,hp.1,λK b h=>?_⟩;obtain⟨D,h1,h2,h3,h4,f⟩:=h;have w:=h3.cre b hk (t:=t) (x:=x);have u:=OL h3 b (hr D K h1 h3).2;refine⟨⟨_,(hr D K h1 h3).1,(hp.2 D K h2 h3).1,w,h4,by omega⟩,⟨_,(hr D K h1 h3).1,(hp.2 D K h2 h3).1,w,λr hr=>?_,by rw[Tv];show H.length+1<=K+1;omega⟩⟩;rcases TG.1 hr with h|h;exact h4 r h;exact⟨_,_,Ui.1 h,u.1,u.2⟩
def oG :U32 0:=by unfold U32;omega
def zy :Wi:=by
 unfold Wi;intro k x y z s L F b0 Y Z b3 b4 b5 b6 b7 H S fr lv c0 c1 c2 c3 c4 c5 c6 c7 st N h;obtain⟨hk,hx,hy,hz,hs,h0⟩:=h;obtain⟨l,o,hH,lH⟩:=BI.op h0;refine nin<|nrn<|nin<|nrn<|ndi ⟨hx.1,hx.2,hH⟩ λi g u1=>nin<|nrn<|nin<|nrn<|ndi ⟨hy.1,hy.2,hH⟩ λj m u2=>nin<|nrn<|nin<|nrn<|ndi ⟨hz.1,hz.2,hH⟩ λp q u3=>?_;obtain⟨X,W⟩:=u1;obtain⟨uj,um⟩:=u2;obtain⟨up,uq⟩:=u3;have ab:∀ {kk:Int} {t v:Str} (aj:kk=1\/kk=2) {a b c a' b' c':Int} {L' F' S' N' st':a8} {fr' lv' A B C E G I J M e0 O P Q R T U V:Int},cQ L F [b0,Y,Z,b3,b4,b5,b6,b7] L' F' [A,B,C,E,G,I,J,M] (λD=>((I6 D kk t v).1,(a,b,c)=(I6 D kk t v).2))->Z5 S N fr lv [c0,c1,c2,c3,c4,c5,c6,c7] S' N' fr' lv' [e0,O,P,Q,R,T,U,V] (λD=>((I6 D kk t v).1,(a',b',c')=(I6 D kk t v).2))->
   (a'=a->mq b' b c H c' S' k x y z s L F b0 Y Z b3 b4 b5 b6 b7 S fr lv c0 c1 c2 c3 c4 c5 c6 c7 st N L' F' A B C E G I J M a fr' lv' e0 O P Q R T U V st' N')/\(¬a'=a->cz H S' k x y z s L F b0 Y Z b3 b4 b5 b6 b7 S fr lv c0 c1 c2 c3 c4 c5 c6 c7 st N L' F' A B C E G I J M fr' lv' e0 O P Q R T U V st' N'):=by
  intro kk t v aj a b c a' b' c' L' F' S' N' st' fr' lv' A B C E G I J M e0 O P Q R T U V hr hp;obtain⟨q1,q2,q3,q4,q5⟩:=Rb h0 aj hp hr;refine⟨λ_=>?_,λh=>absurd q1 h⟩;unfold mq;refine⟨λ_=>⟨λ_=>nin<|ndi (by simp only[ln];omega)<|nrn ⟨λ_=>nin<|nrn<|nin<|nrn<|ndt ⟨rfl,q4,λK u h=>(q5 K u h).2⟩,λh=>absurd q3 h⟩,λ_=>⟨λ_=>?_,λh=>absurd q3 h⟩⟩,λh=>absurd q2 h⟩;unfold dg;exact nin<|nrn<|nin<|nrn<|ndt ⟨rfl,q4,λK u h=>(q5 K u h).1⟩
 have ah:mo s L F b0 Y Z b3 b4 b5 b6 b7 S fr lv c0 c1 c2 c3 c4 c5 c6 c7 st N H k x y z:=by unfold mo;intro v hv;refine ndi ⟨.inr rfl,o⟩ λL' F' A B C E G I J M a b c hr=>nin<|nrn<|ndi ⟨rfl,rfl,rfl,.inr ⟨rfl,rfl⟩,l⟩ λa' b' c' S' fr' lv' e0 O P Q R T U V st' N' hp=>?_;exact ab (kk:=2) (t:=[]) (v:=v) (.inr rfl) hr hp
 have ac:jx s k L F b0 Y Z b3 b4 b5 b6 b7 S fr lv c0 c1 c2 c3 c4 c5 c6 c7 st N H x y z:=by
  unfold jx;refine ndi hs λv _=>⟨λ_=>ndi hs ah,λ_=>ndi ⟨.inl rfl,o⟩ λL' F' A B C E G I J M a b c hr=>nin<|nrn<|ndi ⟨rfl,rfl,rfl,.inl ⟨rfl,rfl⟩,l⟩ λa' b' c' S' fr' lv' e0 O P Q R T U V st' N' hp=>?_⟩
  exact ab (kk:=1) (t:=v) (v:=[]) (.inl rfl) hr hp
 have d:∀ {f:DM->DM×Int} (hw:∀D K,WF D K->K+1<=1000->WF (f D).1 (K+1)) {e e':Int} {L' F' S' N' st':a8} {fr' lv' A B C E G I J M e0 O P Q R T U V:Int},Z5 S N fr lv [c0,c1,c2,c3,c4,c5,c6,c7] S' N' fr' lv' [e0,O,P,Q,R,T,U,V] (λD=>((f D).1,e=(f D).2))->cQ L F [b0,Y,Z,b3,b4,b5,b6,b7] L' F' [A,B,C,E,G,I,J,M] (λD=>((f D).1,e'=(f D).2))->
   (e=e'->dg H S' k x y z s L F b0 Y Z b3 b4 b5 b6 b7 S fr lv c0 c1 c2 c3 c4 c5 c6 c7 st N L' F' A B C E G I J M fr' lv' e0 O P Q R T U V st' N')/\(¬e=e'->cz H S' k x y z s L F b0 Y Z b3 b4 b5 b6 b7 S fr lv c0 c1 c2 c3 c4 c5 c6 c7 st N L' F' A B C E G I J M fr' lv' e0 O P Q R T U V st' N'):=by
  intro f hw e e' L' F' S' N' st' fr' lv' A B C E G I J M e0 O P Q R T U V hp hr;obtain⟨q1,q2,q3⟩:=Rc h0 hp hr hw;refine⟨λ_=>?_,λh=>absurd q1 h⟩;unfold dg;exact nin<|nrn<|nin<|nrn<|ndt ⟨rfl,q2,q3⟩
 have aa:gm k S i g j m fr lv c0 c1 c2 c3 c4 c5 c6 c7 st N L F b0 Y Z b3 b4 b5 b6 b7 H x y z s p q:=by unfold gm;refine⟨λ_=>nin<|nrn<|ndi ⟨X,W,uj,um,oG,oG,l⟩ λr S' fr' lv' e0 O P Q R T U V st' N' hp=>ndi ⟨X,W,uj,um,oG,oG,o⟩ λL' F' A B C E G I J M r' hr=>?_,λ_=>nin<|nrn<|ndi ⟨X,W,uj,um,up,uq,l⟩ λr S' fr' lv' e0 O P Q R T U V st' N' hp=>ndi ⟨X,W,uj,um,up,uq,o⟩ λL' F' A B C E G I J M r' hr=>?_⟩;exact d (λD K w u=>w.ins u) hp hr;exact d (λD K w u=>w.ins u) hp hr
 have ai:mn S i g j m fr lv c0 c1 c2 c3 c4 c5 c6 c7 st N L F b0 Y Z b3 b4 b5 b6 b7 H k x y z s:=by unfold mn;refine nin<|nrn<|ndi ⟨X,W,uj,um,l⟩ λr S' fr' lv' e0 O P Q R T U V st' N' hp=>ndi ⟨X,W,uj,um,o⟩ λL' F' A B C E G I J M r' hr=>?_;exact d (λD K w u=>w.mov u) hp hr
 have u8:∀n:Int,B8 n->Ji [.i (IntKind.wrap .u8 (n.tdiv 8))]:=λn h=>by
  have h1:0<=n.tdiv 8:=Int.tdiv_nonneg h.1 (by omega);have h2:n.tdiv 8<256:=by have:=Int.tdiv_le_self 8 h.1;have:=h.2;omega
  rw[P4 (by simp[IntKind.min,IntKind.signed];omega) (by simp[IntKind.max,IntKind.signed,IntKind.bits];omega)];exact⟨h1,h2⟩
 refine⟨λ_=>ac,λ_=>⟨λ_=>ac,λ_=>⟨λ_=>ac,λ_=>⟨λe=>ndi hs λv _=>ndi e<|ndi hs ah,λ_=>⟨λ_=>?_,λ_=>⟨λ_=>?_,λ_=>⟨λ_=>?_,λ_=>⟨λ_=>aa,λ_=>⟨λ_=>aa,λ_=>⟨λ_=>aa,λ_=>⟨λ_=>aa,λ_=>⟨λ_=>?_,λ_=>⟨λ_=>ai,λ_=>⟨λ_=>ai,λ_=>⟨λ_=>?_,λ_=>?_⟩⟩⟩⟩⟩⟩⟩⟩⟩⟩⟩⟩⟩⟩⟩;refine ndi hs λn hn=>ndi (u8 s hs) λv hv=>nin<|nrn<|ndi ⟨X,W,by omega,l⟩ λr S' fr' lv' e0 O P Q R T U V st' N' hp=>ndi hs λn' ad=>ndi (u8 s hs) λv' ae=>?_;have en:n'=n:=ad.trans hn.symm;have ev:v'=v:=ae.trans hv.symm;subst en;subst ev;exact ndi ⟨X,W,λh=>by simp at h,o⟩ λL' F' A B C E G I J M r' hr=>d (λD K w u=>w.edt u) hp hr;refine ndi hs λn hn=>nin<|nrn<|ndi ⟨X,W,by omega,l⟩ λr S' fr' lv' e0 O P Q R T U V st' N' hp=>ndi hs λn' ad=>?_;have en:n'=n:=ad.trans hn.symm;subst en;exact ndi ⟨X,W,λ_=>rfl,o⟩ λL' F' A B C E G I J M r' hr=>d (λD K w u=>w.edt u) hp hr;refine ndi hs λv hv=>nin<|nrn<|ndi ⟨X,W,l⟩ λr S' fr' lv' e0 O P Q R T U V st' N' hp=>ndi hs λv' ae=>?_;have ev:v'=v:=ae.trans hv.symm;subst ev;exact ndi ⟨X,W,o⟩ λL' F' A B C E G I J M r' hr=>d (λD K w u=>w.text u) hp hr;exact nin<|nrn<|ndi ⟨X,W,l⟩ λr S' fr' lv' e0 O P Q R T U V st' N' hp=>ndi ⟨X,W,o⟩ λL' F' A B C E G I J M r' hr=>d (λD K w u=>w.rem u) hp hr
 .have i1:I64 s:=by unfold I64;have:=hs.1;have:=hs.2;omega
  have i2:I64 (s+ -100):=by unfold I64;have:=hs.1;have:=hs.2;omega
  have i3:I64 z:=by unfold I64;have:=hz.1;have:=hz.2;omega
  exact ndi i1<|ndi i2<|ndi i3<|nin<|nrn<|ndi ⟨X,W,l⟩ λr S' fr' lv' e0 O P Q R T U V st' N' hp=>ndi i1<|ndi i2<|ndi i3<|ndi ⟨X,W,o⟩ λL' F' A B C E G I J M r' hr=>d (λD K w u=>w.pla u) hp hr
 exact nin<|nrn<|ndi ⟨X,W,l⟩ λr S' fr' lv' e0 O P Q R T U V st' N' hp=>ndi ⟨X,W,o⟩ λL' F' A B C E G I J M r' hr=>d (λD K w u=>w.fre u) hp hr
end
section
variable {D :DM}{L F S N:a8}{fr lv:Int}{bs cs:Ak}{K c:Nat}{s:Sl}{T:List RS}{M:List RN}
mutual
def wO :∀s:c9,kC true s=s
 | .mk k t y a x c=>by unfold kC;rw[strips_true c];rfl
def strips_true :∀l:List c9,strips true l=l
 | []=>rfl|s::l=>by unfold strips;rw[wO s,strips_true l]
end
def hL' (L:a8)(j:Nat):Ar:=[.i j,.i (cI L j 0)]
def qX (h:Rf D L F bs)(hs:D.L[c]? =some s):cI L c 0=s.g/\cB L c 1=s.used/\(c:Int)<ln L/\D.gen c=s.g:=by
 obtain⟨rfl,_,_⟩:=h;have hc:D.L[((c:Nat):Int).toNat]? =some s:=by rw[TK];exact hs
 have:=(SW.1 hs).1;simp only[cI,cB,d9 hc,s.r0,s.r1,ln,Tm];exact⟨rfl,rfl,by omega,UY hs⟩
def AJ (m:Rf D L F bs)(v:RlC D S N fr lv cs)(w:WF D K)(hs:D.L[c]? =some s)(h:s.used=true):D.at c s.g=some c/\t9 S c s.g=true/\U32 (c:Int)/\U32 (s.g:Int)/\cI N (atF S c s.g) 0=cI L c 2/\cS N (atF S c s.g) 1=cS L c 3/\cL N (atF S c s.g) 2=cL L c 4/\cS N (atF S c s.g) 3=cS L c 5/\cI N (atF S c s.g) 4=cI L c 6/\cI N (atF S c s.g) 5=cI L c 7/\cB N (atF S c s.g) 6=cB L c 8/\cL L c 4=s.n.atts.map Att.row/\cI L c 9=s.n.par/\cL L c 10=s.n.ch.map z5/\cL N (atF S c s.g) 9=s.n.ch.map (hL' L)/\(cI L c 9<0->cI N (atF S c s.g) 7=0/\cI N (atF S c s.g) 8=0)/\(¬cI L c 9<0->cI L c 9<ln L/\cI L c 9<=1000/\cI N (atF S c s.g) 7=cI L c 9/\cI N (atF S c s.g) 8=cI L (cI L c 9) 0):=by
 have f:D.at c s.g=some c:=by have:=UX hs h;rwa[UY hs]at this
 obtain⟨s',h1,h2,h3,h4,y,z,A,d⟩:=v.1.spot f;rw[hs]at h1;cases h1;have u:=w.u32 f;have hc:D.L[((c:Nat):Int).toNat]? =some s:=by rw[TK];exact hs
 have hL:=m.1;have a:∀j,z8 L c j=s.row.getD j (.i 0):=λj=>by rw[hL];exact d9 hc j
 have row:s.row=[.i s.g,.b true,.i s.n.kind,.s s.n.tag,.l (s.n.atts.map Att.row),.s s.n.text,.i s.n.top,.i s.n.size,.b s.n.pin,.i s.n.par,.l (s.n.ch.map z5)]:=by unfold Sl.row;rw[Tp h]
 have lim:=w.lim;have k:cI L c 9=s.n.par:=by simp only[cI,a,row];rfl
 have r:cI N (atF S c s.g) 7=hI s.n.par:=by simp only[cI,d];rfl
 have t:cI N (atF S c s.g) 8=hG' D.gen s.n.par:=by simp only[cI,d];rfl
 refine⟨f,v.1.vld.2 ⟨c,f⟩,u.1,u.2.1,?_,?_,?_,?_,?_,?_,?_,?_,k,?_,?_,λhn=>?_,λhn=>?_⟩;simp only[cI,d,a,row];rfl;simp only[cS,d,a,row];rfl;simp only[cL,d,a,row];rfl;simp only[cS,d,a,row];rfl;simp only[cI,d,a,row];rfl;simp only[cI,d,a,row];rfl;simp only[cB,d,a,row];rfl;simp only[cL,a,row];rfl;simp only[cL,a,row];rfl
 .have:cL N (atF S c s.g) 9=s.n.ch.map (B2 D.gen):=by simp only[cL,d];rfl
  rw[this];refine List.map_congr_left λj hj=>?_;obtain⟨sj,k1,k2,_⟩:=(w.ch c s hs h).2 j hj;obtain⟨o,_,_,q⟩:=qX m k1;unfold B2 hL';rw[o,q]
 .rw[r,t];have:s.n.par= -1:=by rcases w.par c s hs h with e| ⟨p,sp,e,_⟩<;>omega
  rw[this];exact⟨rfl,rfl⟩
 rw[r,t,k];rw[k]at hn;rcases w.par c s hs h with e| ⟨p,sp,e,k1,k2,k3⟩;omega;obtain⟨o,_,x,q⟩:=qX m k1;have:=(SW.1 k1).1;unfold hI hG';rw[e,Tn (by omega),Tn (by omega),TK,o,q];exact⟨x,by omega,rfl,rfl⟩
def QC (h:RlT D.gen D T M fr lv)(b:Rf D L F bs):∀ {l:Ah} {i:Int},Ch T i l-> ∀f,l.length<=f->waF (T.map RS.row) f i=l.map (hL' L)
 | [],i,h,f,_=>by have h:i=0:=h;subst h;cases f<;>simp[waF]
 |a::l,i,⟨h1,r,h2,h3,h4⟩,f,hf=>by
  obtain⟨f,rfl⟩:∃k,f=k+1:=⟨f-1,by simp at hf;omega⟩
  have e:i-1=(a:Int):=by omega
  have hr:T[((a:Nat):Int).toNat]? =some r:=by rw[TK];exact h2
  obtain⟨d,k1,k2,_⟩:=h.back h2;unfold waF;rw[Tp (by omega),e,show cI (T.map RS.row) a 2=r.nx by simp only[cI];rw[d9 hr];rfl,show cI (T.map RS.row) a 0=r.g by simp only[cI];rw[d9 hr];rfl,QC h b h4 f (by simp at hf;omega)];rw[TV];congr 1;unfold hL';rw[(qX b k1).1,k2]
def Hv (b:Rf D L F bs)(a:RlC D S N fr lv cs)(w:WF D K):waF S 1001 fr=D.free.map (hL' L):=by obtain⟨T,M,rfl,rfl,h⟩:=a.1;have:=h.len;have:=w.lim;have:=h.free.le h.nodup;exact QC h b h.free 1001 (by omega)
def Qr :∀ {T:List RS} (k:Nat),hdF (T.map RS.row) k=((List.range T.length).filter λj=>(T.getD j ⟨0,false,0,0⟩).u).map λj=>[Dat.i ((k+j:Nat):Int),.i (T.getD j ⟨0,false,0,0⟩).g]
 | [],k=>rfl|r::T,k=>by
  rw[TV];unfold hdF;have d:(RS.row r).getD 1 (.i 0)= .b r.u:=rfl;have e0:(RS.row r).getD 0 (.i 0)= .i r.g:=rfl;have a:=Qr (T:=T) (k+1);rw[Int.natCast_add]at a;have a:hdF (T.map RS.row) ((k:Int)+1)=_:=a;rw[d,e0,a,TM,List.range_succ_eq_map,List.filter_cons,List.filter_map];have e:∀l:Ah,(l.map λj=>[Dat.i ((k+1+j:Nat):Int),.i (T.getD j ⟨0,false,0,0⟩).g])=l.map ((λj=>[Dat.i ((k+j:Nat):Int),.i ((r::T).getD j ⟨0,false,0,0⟩).g])∘Nat.succ):=λl=>List.map_congr_left λj _=>by simp only[Function.comp,List.getD_cons_succ];rw[show k+1+j=k+j.succ by omega]
  have f:((λj=>((r::T).getD j ⟨0,false,0,0⟩).u)∘Nat.succ)=λj=>(T.getD j ⟨0,false,0,0⟩).u:=by funext j;rfl
  have hr:((r::T).getD 0 ⟨0,false,0,0⟩)=r:=rfl;rw[f,hr,e];cases h:r.u<;>simp[Dat.toBool,h,List.map_map]
def Nn (a:Rf D L F bs)(f:RlC D S N fr lv cs)(w:WF D K):(hdF S 0).filter (roB S N)=(jO L L.length).map (hL' L):=by
 obtain⟨T,M,rfl,rfl,h⟩:=f.1;have t:T.length=L.length:=by rw[h.len,a.1,Tm]
 have:=Qr (T:=T) 0;rw[show hdF (T.map RS.row) 0=_ from this,List.filter_map,List.filter_filter,t];unfold jO;have d:∀j∈List.range L.length,((λr=>roB (T.map RS.row) (M.map RN.row) r)∘λj:Nat=>[Dat.i ((0+j:Nat):Int),.i (T.getD j ⟨0,false,0,0⟩).g]) j=true/\(T.getD j ⟨0,false,0,0⟩).u=true↔(cB L j 1&&decide (cI L j 9<0))=true:=λj hj=>by
  have hj:=List.mem_range.1 hj;rw[a.1,Tm]at hj;have hs:D.L[j]? =some D.L[j]:=Tf hj;obtain⟨r,h1,h2,h3,_⟩:=h.row j _ hs;have b:T.getD j ⟨0,false,0,0⟩=r:=by rw[Tz,h1];rfl
  obtain⟨B,v,C,E⟩:=qX a hs;show roB (T.map RS.row) (M.map RN.row) [Dat.i ((0+j:Nat):Int),.i (T.getD j ⟨0,false,0,0⟩).g]=true/\(T.getD j ⟨0,false,0,0⟩).u=true↔_;rw[b,v,h3];cases k:(D.L[j]).used with
  |false=>simp|true=>
   obtain⟨_,_,_,_,_,_,_,_,_,_,_,_,l,_,_,m,n⟩:=AJ a f w hs k;have e:roB (T.map RS.row) (M.map RN.row) [Dat.i ((0+j:Nat):Int),.i r.g]=(decide (cI (M.map RN.row) (atF (T.map RS.row) j (D.L[j]).g) 7=0)&&decide (cI (M.map RN.row) (atF (T.map RS.row) j (D.L[j]).g) 8=0)):=by unfold roB;rw[show(0+j)=j by omega,h2];rfl
   rw[e];simp only[Bool.true_and,To,SR,Up];constructor;rintro ⟨G,H⟩;apply Classical.byContradiction;intro hn;obtain⟨x,y,z,o⟩:=n hn;rcases w.par j _ hs k with e'| ⟨p,sp,e',k1,k2,k3⟩;omega;have A:=w.gen sp (Td k1);have:=(qX a k1).1;rw[l,e']at o;omega;exactλhn=>m hn
 have q:(List.range L.length).filter (λj=>((λr=>roB (T.map RS.row) (M.map RN.row) r)∘λj:Nat=>[Dat.i ((0+j:Nat):Int),.i (T.getD j ⟨0,false,0,0⟩).g]) j&&(T.getD j ⟨0,false,0,0⟩).u)=(List.range L.length).filter λi:Nat=>cB L i 1&&decide (cI L i 9<0):=by refine List.filter_congr λj hj=>?_;rw[Bool.eq_iff_iff,SR];exact d j hj
 rw[q];refine List.map_congr_left λj hj=>?_;have hj:=List.mem_range.1 (List.mem_filter.1 hj).1;rw[a.1,Tm]at hj;have hs:D.L[j]? =some D.L[j]:=Tf hj;obtain⟨r,h1,h2,h3,_⟩:=h.row j _ hs;have b:T.getD j ⟨0,false,0,0⟩=r:=by rw[Tz,h1];rfl
 unfold hL';rw[b,(qX a hs).1,h2,show(0+j)=j by omega]
end
open Go Go.Xe Go.Sx
def Wa :Prop:=
 GC []->Nd (GD [] (.l []::.l []::J8 0 0 0 0 0 0 0 0 (.l []::.l []::J10 0 0 0 0 0 0 0 0 0 0 [.l []]))) True
def vq :kq WD V7 (U6 0) (iO 0) 28=Wa:=by kernel_rfl
def jq (a b:a8)(c:Bool)(d:a8)(f:Int)(g h:a8)(j k m o p q r s:Int)(t u:a8)(v w x y z A B C D F:Int)(G H I J:a8)(K L M N O P Q R S T U V W X Y Z x47 x48:Int)(x49 x50:a8):Prop:=
 Nq (ln a)<|Nq (ln b)<|Nd (¬c=true)<|Nd (Bm (.l d::.i f::.l g::.l h::J8 j k m o p q r s (.l t::JD u v w x y z A B C D F G H)) (.i 1::.l I::.l J::J8 K L M N O P Q R (.l a::JD b S T U V W X Y Z x47 x48 x49 x50))) True
def yv :Prop:=
 ∀a d o p q r s t u v w x f g y z A B C D F G H I J K,FQ (.l a::.i d::.l o::.l p::J8 q r s t u v w x (.l f::JD g y z A B C D F G H I J K))->Nq (ln f) (Nq (ln g)<|Nd (Bn [.l a,.i d] (.l K::.i 0::.l o::.l p::J8 q r s t u v w x (.l f::.l g::J10 y z A B C D F G H I [.b false,.l J])))<|∀L c M N O P Q S T U V W h j X Y Z x43 x44 x45 x46 x47 x48 x49 x50 x51,Bn [.l a,.i d] (.l L::.i c::.l M::.l N::J8 O P Q S T U V W (.l h::.l j::J10 X Y Z x43 x44 x45 x46 x47 x48 x49 [.b x50,.l x51]))->((c<ln a->((c<d->Nb c (ln a) (Nq (ln h)<|Nq (ln j)<|Nd (¬x50=true)<|Cg LM yZ (.i (cI a c 0)::.i (cI a c 1)::.i (cI a c 2)::.i (cI a c 3)::.i (cI a c 4)::.l M::.l N::J8 O P Q S T U V W (.l h::JD j X Y Z x43 x44 x45 x46 x47 x48 x49 x51 L)) λR=>∀x52 x53 x54 x55 x56 x57 x58 x59 x60 x61 x62 k m x65 x66 x67 x68 x69 x70 x71 x72 x73 x74 x75 x76,R (.i x52::.l x53::.l x54::J8 x55 x56 x57 x58 x59 x60 x61 x62 (.l k::JD m x65 x66 x67 x68 x69 x70 x71 x72 x73 x74 x75 x76))->We (.l x76::.i (c+1)::.l x53::.l x54::J8 x55 x56 x57 x58 x59 x60 x61 x62 (.l k::.l m::J10 x65 x66 x67 x68 x69 x70 x71 x72 x73 x74 [.b false,.l x75])) λE=>((x52=0->Nq (ln k) (Nq (ln m)<|Nd (Bm (.l a::.i d::.l o::.l p::J8 q r s t u v w x (.l f::JD g y z A B C D F G H I J K)) (.i 0::.l x53::.l x54::J8 x55 x56 x57 x58 x59 x60 x61 x62 (.l k::JD m x65 x66 x67 x68 x69 x70 x71 x72 x73 x74 x75 x76))) True))/\(¬x52=0->Nd (I64 (c+1)) (Nq (ln k)<|Nq (ln m)<|Nd (Bn [.l a,.i d] E)<|Nd (LB [.l a,.i d] E<LB [.l a,.i d] (.l L::.i c::.l M::.l N::J8 O P Q S T U V W (.l h::.l j::J10 X Y Z x43 x44 x45 x46 x47 x48 x49 [.b x50,.l x51]))) True)))))/\(¬c<d->jq h j x50 a d o p q r s t u v w x f g y z A B C D F G H I J K M N O P Q S T U V W X Y Z x43 x44 x45 x46 x47 x48 x49 x51 L)))/\(¬c<ln a->jq h j x50 a d o p q r s t u v w x f g y z A B C D F G H I J K M N O P Q S T U V W X Y Z x43 x44 x45 x46 x47 x48 x49 x51 L)))
def yu :kq WP V7 (U6 1) (iO 1) 29=yv:=by kernel_rfl
def te :Prop:=
 ∀d f g h j k m o p q r s,GO (.l d::.l f::J10 g h j k m o p q r s [])->We (.l d::.l f::J10 g h j k m o p q r s []) λX=>Cg M1 K5 X (λR=>∀t,R [.i t]->Cg nA nB (.l d::.l f::J8 g h j k m o p q [.i t]) (λR=>∀a,R [.l a]->We [.l a,.l d] λW=>Nd (vL W [.i 0,.l []]) (∀b c,vL W [.i b,.l c]->We [.i (b+1),.l (c++b8 2 1 [.i 0,.i 0])] λY=>We [.i (b+1),.l (c++b8 2 1 [.i (IntKind.wrap .u32 (cI a b 0)),.i (cI d (cI a b 0) 0)])] λV=>((b<ln a->Nb b (ln a) ((cI a b 0<0->Ni (ln c) (Nd (ln c+1<67108865)<|Nr (ln c)<|Nd (I64 (b+1))<|Nq (ln c+1)<|Nd (vL W Y)<|Nd (Ex W Y<Ex W [.i b,.l c]) True))/\(¬cI a b 0<0->Nb (cI a b 0) (ln d) (Ni (ln c)<|Nd (ln c+1<67108865)<|Nr (ln c)<|Nd (I64 (b+1))<|Nq (ln c+1)<|Nd (vL W V)<|Nd (Ex W V<Ex W [.i b,.l c]) True))))/\(¬b<ln a->Nq (ln c) (Nd (GP X [.l c]) True))))))
def sw :kq Ww V7 (U6 2) (iO 2) 32=te:=by kernel_rfl
def tr :Prop:=
 ∀c d f g h j k m o p a b,vI (.l c::.l d::J10 f g h j k m o p a b [])->We (.l c::.l d::J10 f g h j k m o p a b []) λV=>Cg nH iU V (λR=>∀q r s t u v w x y z L,R (.l q::.l r::J8 s t u v w x y z [.i L])->Cg sI iR (.l q::.l r::J10 s t u v w x y z a b []) (λR=>∀A B C D F G H I J K M,R (.l A::.l B::J8 C D F G H I J K [.i M])->Nd (vJ V (.l A::.l B::J8 C D F G H I J K [])) True))
def tq :kq LT V7 (U6 3) (iO 3) 34=tr:=by kernel_rfl
def uf :Prop:=
 ∀a d f g h j k m o p L M,GL (.l a::.l d::J10 f g h j k m o p L M [])->We (.l a::.l d::J10 f g h j k m o p L M []) λT=>Cg M1 K5 T (λR=>∀b,R [.i b]->We (cL a b 10) λW=>We (.l W::.l a::.l d::J8 f g h j k m o p []) λV=>Nb b (ln a) (Nd (vG V (.i 0::.l a::.l d::J8 f g h j k m o p []))<|∀c q B C D F G H I J K,vG V (.i c::.l q::.l B::J8 C D F G H I J K [])->We (.i c::.l q::.l B::J8 C D F G H I J K []) λZ=>((c<ln W->Nb c (ln W) ((cI W c 0<0->Cg vI vJ (.l q::.l B::J10 C D F G H I J K 0 0 []) (λR=>∀r s t u v w x y z A,R (.l r::.l s::J8 t u v w x y z A [])->We (.i (c+1)::.l r::.l s::J8 t u v w x y z A []) λX=>Nd (I64 (c+1)) (Nd (vG V X)<|Nd (Er V X<Er V Z) True)))/\(¬cI W c 0<0->Nb (cI W c 0) (ln q) (Cg vI vJ (.l q::.l B::J10 C D F G H I J K (IntKind.wrap .u32 (cI W c 0)) (cI q (cI W c 0) 0) []) λR=>∀r s t u v w x y z A,R (.l r::.l s::J8 t u v w x y z A [])->We (.i (c+1)::.l r::.l s::J8 t u v w x y z A []) λY=>Nd (I64 (c+1)) (Nd (vG V Y)<|Nd (Er V Y<Er V Z) True)))))/\(¬c<ln W->Nd (GM T (.l q::.l B::J8 C D F G H I J K [])) True))))
def ue :kq Wx V7 (U6 4) (iO 4) 33=uf:=by kernel_rfl
def wq :Prop:=
 ∀a c,Gl [.l a,.l c]->We (kV [.l a,.l c] [.i 0]) λV=>((ln a=ln c->((ln a=ln a->Nd (BJ [.l a] [.i 0]) (∀b,BJ [.l a] [.i b]->((b<ln a->Nb b (ln a) (Nb b (ln c)<|(cI a b 0=cI c b 0->((cI a b 1=cI c b 1->Nd (I64 (b+1)) (Nd (BJ [.l a] [.i (b+1)])<|Nd (Ms [.l a] [.i (b+1)]<Ms [.l a] [.i b]) True))/\(¬cI a b 1=cI c b 1->Nd V True)))/\(¬cI a b 0=cI c b 0->Nd V True)))/\(¬b<ln a->Nd (kV [.l a,.l c] [.i 1]) True))))/\(¬ln a=ln a->Nd V True)))/\(¬ln a=ln c->Nd V True))
def wo :kq WH V7 (U6 0) (iO 0) 31=wq:=by kernel_rfl
section
variable {D :DM}{K p c:Nat}{sp:Sl}{cs:Ah}
def OY (w:WF D K)(hp:D.L[p]? =some sp)(up:sp.used=true)(i:sp.n.ch=c::cs):∃o,(W8 D c (D.gen c)).1.L[p]? =some o/\o.used=true/\o.n.ch=cs/\ ∀j∈cs,(W8 D c (D.gen c)).1.gen j=D.gen j:=by
 obtain⟨hn,hc⟩:=w.ch p sp hp up;rw[i]at hn;obtain⟨B,_⟩:=List.nodup_cons.1 hn;obtain⟨A,h1,h2,h3⟩:=hc c (by rw[i];exact List.mem_cons_self);obtain⟨r,_,hr⟩:=w.rank;have G:=hr p sp hp up c (by rw[i];exact List.mem_cons_self);have F:p≠c:=λe=>by rw[e]at G;omega
 have t:=UX h1 h2;have C:(V3 D c (D.gen c)).1=D.kids p c cs (-1) 4:=by
  unfold V3;rw[t];simp only;rw[UZ h1,h3,Tn (by omega),TK,UZ hp,i];have:I7 (c::cs) c=cs:=by unfold I7;rw[List.filter_cons_of_neg (by simp)];exact List.filter_eq_self.2 λx hx=>by simp;rintro rfl;exact B hx
  rw[this]
 have get:∀j:Nat,(D.kids p c cs (-1) 4).L[j]? =D.L[j]?.map λs=>(⟨s.g,s.used,{s.n with ch:=(if p=j then cs else s.n.ch),par:=(if c=j then(-1:Int)else s.n.par)}⟩:Sl):=λj=>by
  unfold DM.kids DM.cnt DM.setN;simp only[l8];cases D.L[j]? with
  |none=>simp|some s=>by_cases C:p=j<;>by_cases E:c=j<;>simp[C,E]
 have d:∀ {j:Nat} {s:Sl},D.L[j]? =some s->(D.kids p c cs (-1) 4).L[j]? =some (⟨s.g,s.used,{s.n with ch:=(if p=j then cs else s.n.ch),par:=(if c=j then(-1:Int)else s.n.par)}⟩:Sl):=λ{j s} h=>by rw[get,h];rfl
 have T:(D.kids p c cs (-1) 4).gen=D.gen:=DM.kids_gen;have N:(D.kids p c cs (-1) 4).L[c]? =some ⟨A.g,A.used,{A.n with par:= -1}⟩:=by rw[get,h1];simp[F]
 have W:WF D K:=w;have E:(W8 D c (D.gen c)).1=(S3 (D.kids p c cs (-1) 4) c (D.gen c)).1:=by unfold W8;rw[t];simp only;rw[UZ h1,h3,Tn (by omega),C]
 have at1:(D.kids p c cs (-1) 4).at c (D.gen c)=some c:=by have:=UX N h2;rwa[T]at this
 have M:∀ {b:Nat},Abv (D.kids p c cs (-1) 4) c b->Abv D c b:=λ{b} h=>by
  induction h with
  |here=>exact .here|up b q s h hq k H=>rw[get]at h;obtain⟨s0,k1,k2⟩:=Uz.1 h;by_cases e:c=b;rw[e];exact .here;refine .up b q s0 k1 ?_ H;rw[<-hq,<-k2];simp[e]
 have P:¬Abv (D.kids p c cs (-1) 4) c p:=λh=>by have:=(Abv.rank w hr (M h) ⟨sp,hp,up⟩).1;omega
 have off:∀ {b:Nat},b∈bel (D.kids p c cs (-1) 4) 1001 c-> ∀ {s:Sl},D.L[b]? =some s->Abv (D.kids p c cs (-1) 4) c b:=λ{b} hb {s} hs=>by
  have I:∀(f a b:Nat),b∈bel (D.kids p c cs (-1) 4) f a->Abv (D.kids p c cs (-1) 4) c a->(∃s,D.L[a]? =some s/\s.used=true)->Abv (D.kids p c cs (-1) 4) c b:=by
   intro f;induction f with
   |zero=>intro a b hb y _;rw[Ui.1 hb];exact y
   |succ f H=>
    intro a b hb y V;obtain⟨J,l,z⟩:=V;unfold bel at hb;rcases TH.1 hb with rfl|hb;exact y
    .obtain⟨j,hj,hb⟩:=List.mem_flatMap.1 hb;have S:=d l;rw[UZ S]at hj;have u:j∈J.n.ch/\j≠c:=by by_cases e:p=a;subst e;rw[hp]at l;cases l;simp at hj;exact⟨by rw[i];exact Uc _ hj,λe=>B (e▸hj)⟩;simp[e]at hj;refine⟨hj,λe'=>?_⟩;subst e';obtain⟨_,k1,_,k3⟩:=(w.ch a J l z).2 j hj;rw[h1]at k1;cases k1;omega
     obtain⟨sj,k1,k2,k3⟩:=(w.ch a J l z).2 j u.1;have v:=d k1;exact H j b hb (.up j a _ v (by simp[Ne.symm u.2,k3]) y) ⟨sj,k1,k2⟩
  exact I _ _ _ hb .here ⟨A,h1,h2⟩
 have R:(W8 D c (D.gen c)).1.L=((bel (D.kids p c cs (-1) 4) 1001 c).foldl A1 (D.kids p c cs (-1) 4)).L:=by rw[E];unfold S3;rw[at1];simp only;rw[UZ N,Tn (by simp)]
 have keep:∀ {b:Nat} {s:Sl},D.L[b]? =some s-> ¬Abv (D.kids p c cs (-1) 4) c b->(W8 D c (D.gen c)).1.L[b]? =(D.kids p c cs (-1) 4).L[b]? :=λ{b s} hs h=>by rw[R,G2 λm=>h (off m hs)]
 refine⟨_,(keep hp P).trans (d hp),up,by simp,λj hj=>?_⟩;obtain⟨sj,k1,k2,k3⟩:=hc j (by rw[i];exact Uc _ hj);have O:c≠j:=λe=>B (e▸hj);have v:=d k1;have U:¬Abv (D.kids p c cs (-1) 4) c j:=λh=>by
  rcases h.inv with h| ⟨q,s,l,z,Q⟩;exact O h
  .rw[v]at l;cases l;simp[O,k3]at z;have:q=p:=by omega
   rw[this]at Q;exact P Q
 rw[UY ((keep k1 U).trans v),UY k1]
def Me (k:Nat):∀(l:Ah) {D:DM} {K:Nat} {sp:Sl},WF D K->K+2*l.length<=1000->D.L[p]? =some sp->sp.used=true->sp.n.ch=l-> ∀j,l[k]? =some j->(drpL D ((l.map λ(j:Nat)=>((j:Int),(D.gen j:Int))).take k)).gen j=D.gen j:=by
 induction k with
 |zero=>exactλl D K sp w b hp up a j hj=>rfl
 |succ k e=>
  intro l D K sp w b hp up a j hj;cases l with
  |nil=>simp at hj|cons c cs=>
  obtain⟨f,h1,h2,h3,h4⟩:=OY w hp up a;simp only[TM]at b;have hj:cs[k]? =some j:=hj;have hm:(cs.map λ(j:Nat)=>((j:Int),(D.gen j:Int)))=cs.map λ(j:Nat)=>((j:Int),((W8 D c (D.gen c)).1.gen j:Int)):=List.map_congr_left λj hj=>by rw[h4 j hj]
  have d:=e cs (w.drp (i:=c) (g:=(D.gen c:Int)) (by omega)) (by omega) h1 h2 h3 j hj;rw[<-hm]at d;rw[TV,List.take_succ_cons];exact d.trans (h4 j (Td hj))
def Ie {i g:Int}:(W8 D i g).1.L.length=D.L.length:=by
 have hf:∀D:DM,(S3 D i g).1.L.length=D.L.length:=λD=>by unfold S3;split;rfl;split;rfl;exact mQ
 unfold W8;split;rfl;split;exact hf D;rw[hf];unfold V3;split;split;rfl;show(List.modify _ _ _).length=_;simp[DM.setN];rfl
def mL :∀ {l:List (Int×Int)} {D:DM},(drpL D l).L.length=D.L.length
 | [],D=>rfl|x::l,D=>(mL (l:=l)).trans Ie
