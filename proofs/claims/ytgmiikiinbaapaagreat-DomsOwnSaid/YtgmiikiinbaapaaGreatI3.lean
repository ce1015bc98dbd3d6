/- The DOM: a slot is freed: plain lemmas.
  Conditions: none. -/
import Derived.Test.YtgmiikiinbaapaaGreatI1
set_option linter.all false
noncomputable section
namespace Go.D
open Go Go.Xe Go.Sx
section
variable {D :DM}{S N:Sx.Rows}{fr lv i g:Int}{K c:Nat}{G:Nat->Nat}{T:List RS}{M:List RN}
def Jy (w:WF D K){r:Nat->Nat}(h1:∀i,r i<=K)(hr:∀(i:Nat) s,D.L[i]? =some s->s.used=true-> ∀j∈s.n.ch,r i<r j):∀(n:Nat) {c:Nat} {s:Sl},D.L[c]? =some s->s.used=true->K-r c<=n-> ∀f b,n<f->n<b->bel D f c=bel D b c:=by
 intro n;induction n with
 |zero=>
  intro c s hs d hn f b hf h;obtain⟨f,rfl⟩:∃k,f=k+1:=⟨f-1,by omega⟩
  obtain⟨b,rfl⟩:∃k,b=k+1:=⟨b-1,by omega⟩
  unfold bel;rw[Rt hs];cases e:s.n.ch with
  |nil=>rfl|cons a l=>have:=hr c s hs d a (by simp[e]);have:=h1 a;omega
 |succ n m=>
  intro c s hs d hn f b hf h;obtain⟨f,rfl⟩:∃k,f=k+1:=⟨f-1,by omega⟩
  obtain⟨b,rfl⟩:∃k,b=k+1:=⟨b-1,by omega⟩
  unfold bel;rw[Rt hs];congr 1;rw[List.flatMap_def,List.flatMap_def];congr 1;refine List.map_congr_left fun j hj=>?_;obtain⟨sj,k1,k2,_⟩:=(w.ch c s hs d).2 j hj;have:=hr c s hs d j hj;have:=h1 j;exact m k1 k2 (by omega) f b (by omega) (by omega)
def aO (w:WF D K){s:Sl}(hs:D.L[c]? =some s)(a:s.used=true):bel D 1001 c=c::s.n.ch.flatMap (bel D 1001):=by
 obtain⟨r,h1,hr⟩:=w.rank;have lim:=w.lim;rw[Jy w h1 hr K hs a (by omega) 1001 1002 (by omega) (by omega)]
 conv=>lhs;unfold bel
 rw[Rt hs]
def sY {L:List Sl}{q:Sl->Sl}(hq:∀s,(q s).used=false):∀ {c:Nat} {s:Sl},L[c]? =some s->s.used=true->(L.modify c q).countP (·.used)+1=L.countP (·.used):=by
 induction L with
 |nil=>intro c s h;simp at h
 |cons a L d=>
  intro c s h b;cases c with
  |zero=>simp at h;subst h;simp[List.countP_cons,b,hq]|succ c=>simp at h;have:=d h b;simp[List.countP_cons];omega
def RlT.lose (h:RlT G D T M fr lv){s:Sl}(hs:D.L[c]? =some s)(n:s.used=true):RlT G (z8 D c) (T.modify c fun r=>⟨r.g+1,false,fr, -1⟩) M (c+1) (lv-1):=by
 obtain⟨r,hr,hg,l,_⟩:=h.row c s hs;have hc:c∉D.free:=fun m=>by obtain⟨u,k1,k2⟩:=h.free.unused c m;rw[hr]at k1;cases k1;rw[l,n]at k2;cases k2
 have get:∀j,(z8 D c).L[j]? =if c=j then D.L[j]?.map (fun s=>⟨s.g+1,false,C2 0 [] []⟩)else D.L[j]? :=fun j=>j9 ..
 refine⟨by unfold z8;simpa using h.len,fun j sj hj=>?_,fun a b t rb d hb o p e=>?_,⟨rfl,⟨r.g+1,false,fr, -1⟩,by rw[j9,PG rfl,hr];rfl,rfl,h.free.mod hc⟩,List.nodup_cons.2 ⟨hc,h.nodup⟩,fun j sj hj hn=>?_,?_⟩;rw[get]at hj;simp only[j9];by_cases e:c=j;subst e;rw[PG rfl,hs]at hj;cases hj;exact⟨⟨r.g+1,false,fr, -1⟩,by rw[PG rfl,hr];rfl,by simp[hg],rfl,fun h=>by simp at h⟩;rw[PE e]at hj⊢;exact h.row j sj hj;simp only[j9]at d hb;by_cases f:c=a;rw[PG f]at d;subst f;rw[hr]at d;cases d;simp at o;by_cases k:c=b;rw[PG k]at hb;subst k;rw[hr]at hb;cases hb;simp at p;rw[PE f]at d;rw[PE k]at hb;exact h.inj a b t rb d hb o p e;rw[get]at hj;by_cases e:c=j;subst e;exact List.mem_cons_self;rw[PE e]at hj;exact Qu _ (h.all j sj hj hn);rw[h.lv];have:=sY (q:=fun s=>⟨s.g+1,false,C2 0 [] []⟩) (fun _=>rfl) hs n;unfold z8;simp only;omega
end
section
variable {D :DM}{S N S' N' S'' N'':Sx.Rows}{fr lv i g:Int}{K a b c:Nat}{G:Nat->Nat}{T:List RS}{M:List RN}{X Y:Ah}
def Fr.trans (h:Fr S N S' N')(h':Fr S' N' S'' N''):Fr S N S'' N'':=by obtain⟨h1,h2,h3⟩:=h;obtain⟨k1,k2,k3⟩:=h';refine⟨by omega,fun k hk hn=>?_,fun i hi d=>?_⟩;rw[k2 k (by omega) fun j hj d e=>?_,h2 k hk hn];rcases h3 j hj d with⟨q,f,l,m⟩|h;exact hn q f l (m.trans e);omega;rcases k3 i hi d with⟨q,f,l,m⟩|h;rcases h3 q f l with⟨p,p1,p2,n⟩|h;exact .inl ⟨p,p1,p2,n.trans m⟩;exact .inr (by omega);exact .inr (by omega)
def H2 :∀ {X:Ah} {D:DM} {j:Nat},j∉X->(X.foldl z8 D).L[j]? =D.L[j]?
 | [],_,_,_=>rfl|x::X,D,j,h=>by rw[List.foldl_cons,H2 (fun m=>h (Qu _ m))];unfold z8;simp only[j9];rw[PE (show¬x=j from fun e=>h (by simp[e]))]
def sD :∀ {X:Ah} {D:DM},(X.foldl z8 D).L.length=D.L.length
 | [],_=>rfl|x::X,D=>by rw[List.foldl_cons,sD];unfold z8;simp
def W5 :∀ {Y:Ah} {D:DM},Y.Nodup->(∀b∈Y,∃s,D.L[b]? =some s/\s.used=true)->(Y.foldl z8 D).L.countP (·.used)+Y.length=D.L.countP (·.used)
 | [],_,_,_=>rfl|y::Y,D,hn,h=>by
  obtain⟨hy,hn⟩:=List.nodup_cons.1 hn;obtain⟨s,h1,h2⟩:=h y List.mem_cons_self;rw[List.foldl_cons];have:=W5 (D:=z8 D y) hn fun b hb=>by obtain⟨s,k1,k2⟩:=h b (Qu _ hb);refine⟨s,?_,k2⟩;unfold z8;simp only[j9];rw[PE (show¬y=b from fun e=>hy (by rw[e];exact hb))];exact k1
  have k:=sY (q:=fun s=>⟨s.g+1,false,C2 0 [] []⟩) (fun _=>rfl) h1 h2;have:(z8 D y).L.countP (·.used)+1=D.L.countP (·.used):=k;rw[Qf];omega
def Abv.top {p:Nat}{s:Sl}(h:D.L[a]? =some s)(hp:s.n.par=p)(k:Abv D a b):Abv D p b:=by
 induction k with
 |here=>exact .up _ _ _ h hp .here|up b q s' h' hq _ d=>exact .up _ _ _ h' hq d
def Abv.lin (h:Abv D a b)(k:Abv D c b):Abv D a c\/Abv D c a:=by
 induction h with
 |here=>exact .inr k|up b p s h' hp k' d=>
  cases k with
  |here=>exact .inl (.up _ _ _ h' hp k')|up _ p' s' h2 hp' k2=>
   rw[h']at h2;cases h2;have:p=p':=by omega
   subst this;exact d k2
def Abv.rank (w:WF D K){r:Nat->Nat}(hr:∀(i:Nat) s,D.L[i]? =some s->s.used=true-> ∀j∈s.n.ch,r i<r j)(h:Abv D a b):(∃s,D.L[b]? =some s/\s.used=true)->r a<=r b/\ ∃s,D.L[a]? =some s/\s.used=true:=by
 induction h with
 |here=>exact fun h=>⟨PH _,h⟩
 |up b p s h hp k f=>
  rintro ⟨s',h1,h2⟩;rw[h]at h1;cases h1;rcases w.par b s h h2 with e| ⟨q,d,e,k1,k2,k3⟩;omega
  ·have:p=q:=by omega
   subst this;have:=hr p d k1 k2 b k3;have:=f ⟨d,k1,k2⟩;exact⟨by omega,this.2⟩
def P0 (w:WF D K):∀ {f c:Nat} {s:Sl},D.L[c]? =some s->s.used=true-> ∀b∈bel D f c,Abv D c b/\ ∃s,D.L[b]? =some s/\s.used=true
 |0,c,s,hs,d,b,hb=>by rw[QA.1 hb];exact⟨.here,s,hs,d⟩|f+1,c,s,hs,d,b,hb=>by unfold bel at hb;rw[Rt hs]at hb;rcases Qa.1 hb with rfl|hb;exact⟨.here,s,hs,d⟩;obtain⟨j,hj,hb⟩:=List.mem_flatMap.1 hb;obtain⟨sj,k1,k2,k3⟩:=(w.ch c s hs d).2 j hj;obtain⟨e,h⟩:=P0 w k1 k2 b hb;exact⟨e.top k1 k3,h⟩
def K8 (w:WF D K):∀ {f c:Nat} {s:Sl},D.L[c]? =some s->s.used=true->(bel D f c).Nodup
 |0,c,s,hs,k=>by unfold bel;simp|f+1,c,s,hs,k=>by
  obtain⟨r,_,hr⟩:=w.rank;obtain⟨hn,hc⟩:=w.ch c s hs k;unfold bel;rw[Rt hs];refine List.nodup_cons.2 ⟨fun m=>?_,List.pairwise_flatMap.2 ⟨fun j hj=>?_,?_⟩⟩;obtain⟨j,hj,hb⟩:=List.mem_flatMap.1 m;obtain⟨sj,k1,k2,k3⟩:=hc j hj;have:=((P0 w k1 k2 c hb).1.rank w hr ⟨s,hs,k⟩).1;have:=hr c s hs k j hj;omega;obtain⟨sj,k1,k2,k3⟩:=hc j hj;exact K8 w k1 k2
  ·refine List.Pairwise.imp_of_mem (fun{x y} hx hy d=>?_) hn;obtain⟨sx,k1,k2,k3⟩:=hc x hx;obtain⟨l,u,B,C⟩:=hc y hy;rintro p hp q hq rfl;obtain⟨v,H⟩:=P0 w k1 k2 p hp;obtain⟨z,_⟩:=P0 w u B p hq;have no:∀ {x y:Nat} {l:Sl},x∈s.n.ch->y∈s.n.ch->x≠y->D.L[y]? =some l->l.n.par=c->Abv D x y->False:=fun{x y l} hx hy d o hp h=>by
    rcases h.inv with e| ⟨p,E,t,F,A⟩;exact d e
    ·rw[o]at t;cases t;have:p=c:=by omega
     subst this;have:=(A.rank w hr ⟨s,hs,k⟩).1;have:=hr p s hs k x hx;omega
   rcases v.lin z with h|h;exact no hx hy d u C h;exact no hy hx (Ne.symm d) k1 k3 h
def X8 (S:Sx.Rows):Nat:=S.countP fun r=>(r.getD 1 (.int 0)).toBool
def Rl.uses (h:Rl G D S N fr lv):X8 S=D.L.countP (·.used)/\lv=X8 S:=by
 obtain⟨T,M,rfl,rfl,h⟩:=h;have e:X8 (T.map RS.row)=D.L.countP (·.used):=by unfold X8;rw[List.countP_map,<-h.count];rfl
 exact⟨e,by rw[e];exact h.lv⟩
def frS (S:Sx.Rows)(i fr:Int)(g:Int):Sx.Rows:=a8 (a8 (a8 (a8 S i 1 (.bool false)) i 3 (.int (-1))) i 0 (.int g)) i 2 (.int fr)
def Rl.lose (h:Rl G D S N fr lv)(hk:D.at i g=some c):Rl G (z8 D c) (frS S i fr (g+1)) N (i+1) (lv+ -1)/\Fr S N (frS S i fr (g+1)) N:=by
 obtain⟨T,M,rfl,rfl,h⟩:=h;obtain⟨s,r,k1,k2,k3,m,d,o,q,t⟩:=h.at_ hk;subst k1;obtain⟨l,k,n,_⟩:=h.row c s k2;rw[d]at k;cases k;have e:frS (T.map RS.row) c fr (g+1)=(T.modify c fun r=>⟨r.g+1,false,fr, -1⟩).map RS.row:=by unfold frS;rw[R8 (fun r:RS=> {r with u:=false}) (fun _=>rfl),R8 (fun r:RS=> {r with p:= -1}) (fun _=>rfl),R8 (fun r:RS=> {r with g:=g+1}) (fun _=>rfl),R8 (fun r:RS=> {r with nx:=fr}) (fun _=>rfl),Qd,B2,B2,B2];congr 1;apply List.ext_getElem?;intro j;simp only[j9];by_cases e:c=j;subst e;simp[d,n,m];simp[e]
 rw[e];refine⟨⟨_,M,rfl,rfl,h.lose k2 k3⟩,?_⟩;have:=NJ (N:=M.map RN.row) (T:=T) (T':=T.modify c fun r=>⟨r.g+1,false,fr, -1⟩) (X:=[]) fun j l hj f=>by simp only[j9]at hj;by_cases e:c=j;rw[PG e]at hj;subst e;rw[d]at hj;cases hj;simp at f;rw[PE e]at hj;exact .inl ⟨l,hj,f,rfl⟩
 simpa using this
def HV :z8 (X.foldl z8 D) c=(X++ [c]).foldl z8 D:=by rw[List.foldl_append];rfl
def RlX.at_ (hk:D.at i g=some c)(hc:c∉X):(X.foldl z8 D).at i g=some c:=by
 obtain⟨s,h1,h2,rfl,rfl⟩:=Rr hk;have e:(X.foldl z8 D).L[c]? =some s:=by rw[H2 hc];exact h1
 have:=DM.at_of e h2;rwa[Rs e]at this
def RlX.lose (h:RlX D X S N fr lv)(hk:D.at i g=some c)(hc:c∉X):RlX D (X++ [c]) (frS S i fr (g+1)) N (i+1) (lv+ -1)/\Fr S N (frS S i fr (g+1)) N:=by have:=Rl.lose h (RlX.at_ hk hc);unfold RlX;rw[<-HV];exact this
def RlX.slen (h:RlX D X S N fr lv)(w:WF D K):S.length<=1000:=by obtain⟨T,M,rfl,rfl,h⟩:=h;rw[PD,h.len,sD];have:=w.lim;omega
def RlX.kids (h:RlX D X S N fr lv)(hk:D.at i g=some c)(hc:c∉X):∃s,D.L[c]? =some s/\s.used=true/\cL N (cI S i 3) 9=s.n.ch.map (D9 D.gen)/\0<=cI S i 3/\cI S i 3<N.length/\cB S i 1=true/\cI S i 0=g/\0<=i/\i<S.length:=by have d:=RlX.at_ (X:=X) hk hc;obtain⟨s,h1,h2,h3,h4,e,f,j,k⟩:=Rl.spot h d;obtain⟨_,_,_,hi,_⟩:=Rr hk;subst hi;have hv:=(Rl.vld h).2 ⟨c,d⟩;unfold v9 at hv;simp only[Pk,PF]at hv;rw[H2 hc]at h1;rw[e];exact⟨s,h1,h2,by unfold cL;rw[k];rfl,f,j,h4,hv.2,by omega,by omega⟩
def RlX.count {d e:Int}(h:RlX D X S N fr lv)(h':RlX D (X++Y) S' N' d e)(hn:Y.Nodup)(f:∀b∈Y,b∉X/\ ∃s,D.L[b]? =some s/\s.used=true):X8 S'+Y.length=X8 S:=by rw[h.uses.1,h'.uses.1,List.foldl_append];exact W5 hn fun b hb=>by obtain⟨h1,s,h2,h3⟩:=f b hb;exact⟨s,by rw[H2 h1];exact h2,h3⟩
end
section
variable {D :DM}{S N S1 S':Sx.Rows}{fr lv fr1 lv1 i g j:Int}{K c b:Nat}{X:Ah}{s:Sl}
def gC :c∈bel D 1001 c:=by unfold bel;exact List.mem_cons_self
def Ki (w:WF D K)(hs:D.L[c]? =some s)(a:s.used=true){k:Nat}(hb:s.n.ch[k]? =some b)(d:∀q∈s.n.ch.flatMap (bel D 1001),q∉X):D.at b (D.gen b)=some b/\(∀q∈bel D 1001 b,q∉X++(s.n.ch.take k).flatMap (bel D 1001))/\(s.n.ch.take (k+1)).flatMap (bel D 1001)=(s.n.ch.take k).flatMap (bel D 1001)++bel D 1001 b/\(bel D 1001 b).Nodup/\(∀q∈bel D 1001 b,∃s,D.L[q]? =some s/\s.used=true):=by
 have hm:=Pv hb;obtain⟨h,k1,k2,_⟩:=(w.ch c s hs a).2 b hm;have hn:=K8 (f:=1001) w hs a;rw[aO w hs a]at hn;have hn:=(List.nodup_cons.1 hn).2;have ht:(s.n.ch.take (k+1)).flatMap (bel D 1001)=(s.n.ch.take k).flatMap (bel D 1001)++bel D 1001 b:=by rw[I5 hb];simp
 refine⟨DM.at_of k1 k2,fun q hq m=>?_,ht,K8 w k1 k2,fun q hq=>(P0 w k1 k2 q hq).2⟩;rcases PZ.1 m with m|m;exact d q (List.mem_flatMap.2 ⟨b,hm,hq⟩) m;have e:s.n.ch=s.n.ch.take (k+1)++s.n.ch.drop (k+1):=(Ra ..).symm;rw[e,List.flatMap_append,ht]at hn;have hn:=(Ro.1 (Ro.1 hn).1).2.2;exact hn q m q hq rfl
end
def vcFrc_ok (n:Nat):vcFrc n:=by
 unfold vcFrc;rintro i g S fr lv c0 c1 c2 c3 c4 c5 c6 c7 st N Q W ⟨⟨hi,hg,U,hW,D,X,K,c,k,w,hc,l⟩,hm⟩;have U:Q.length+X8 S<=1000:=U;have hm:X8 S<n+1:=hm;have lim:=w.lim;have V:=k.slen w;obtain⟨s,h1,h2,h3,h4,P,R,F,h8,e⟩:=k.kids hc (l c gC);have lS:ln S=(S.length:Int):=rfl;have lQ:ln Q=(Q.length:Int):=rfl;have lW:ln W=(W.length:Int):=rfl;have ae:=k.uses.2;have ub:X8 S<=S.length:=List.countP_le_length;have gb:=w.u32 hc;have ew:IntKind.wrap .u32 (cI S i 0+1)=g+1:=by rw[F];obtain⟨s',k1,k2,k3,a⟩:=Rr hc;have:=w.gen s' (Pv k1);exact M9 (by simp[IntKind.min,IntKind.signed];omega) (by simp[IntKind.max,IntKind.signed,IntKind.bits];omega)
 have gs:g<=1001:=by obtain⟨s',k1,k2,k3,a⟩:=Rr hc;have:=w.gen s' (Pv k1);omega
 have step:∀ {D X K c},RlX D X S N fr lv->WF D K->D.at i g=some c->(∀b∈bel D 1001 c,b∉X)->RlX D (X++ [c]) (frS S i fr (g+1)) N (i+1) (lv+ -1)/\Fr S N (frS S i fr (g+1)) N/\ ∃s,D.L[c]? =some s/\s.used=true/\cL N (cI S i 3) 9=s.n.ch.map (D9 D.gen)/\(∀q∈s.n.ch.flatMap (bel D 1001),q∉X++ [c])/\bel D 1001 c=c::s.n.ch.flatMap (bel D 1001):=fun{D X K c} k w hc l=>by obtain⟨k1,k2⟩:=k.lose hc (l c gC);obtain⟨s,h1,h2,h3,_⟩:=k.kids hc (l c gC);have B:=aO w h1 h2;refine⟨k1,k2,s,h1,h2,h3,fun q hq m=>?_,B⟩;have hn:=K8 (f:=1001) w h1 h2;rw[B]at hn l;rcases PZ.1 m with m|m;exact l q (Qu _ hq) m;rw[QA.1 m]at hq;exact(List.nodup_cons.1 hn).1 hq
 obtain⟨s1,s2,_⟩:=step k w hc l;have u1:X8 (frS S i fr (g+1))+1=X8 S:=k.count s1 (by simp) fun b hb=>by rw[QA.1 hb];exact⟨l c gC,s,h1,h2⟩
 refine ndi ⟨by unfold U32 at hi;omega,by unfold U32 at hi;omega⟩ (ndi ⟨by omega,by omega⟩ ⟨fun _=>?_,fun h=>absurd e h⟩);have C:¬i<0:=by omega
 refine ndi C (ndi e (ndi e ⟨fun _=>ndi e ⟨fun _=>?_,fun h=>absurd F h⟩,fun h=>absurd R h⟩));refine ndi e (ndi e (ndi e (ndi (by unfold I64;omega) (ndi e ⟨fun _=>?_,fun h=>absurd (by rw[F];omega) h⟩))));refine ndi e<|ndi e<|ndi C<|ndi e<|ndi e<|ndi (by unfold I64;omega)<|ndi (by unfold I64;omega)<|nin<|ndi (by omega)<|nrn<|nin<|ndi (by omega)<|nrn<|C0 h4 P<|nin<|nrn<|nin<|nrn<|nin<|nrn ?_;rw[ew];generalize A:a8 (a8 (a8 (a8 S i 1 (.bool false)) i 3 (.int (-1))) i 0 (.int (g+1))) i 2 (.int fr)=S1;have A:frS S i fr (g+1)=S1:=A;rw[A]at s1 s2 u1;generalize E:cL N (cI S i 3) 9=L;have I:(Q++b8 2 1 [.int i,.int g]).length=Q.length+1:=by rw[PL];rfl
 have J:(W++b8 1 1 [.int (cI S i 3)]).length=W.length+1:=by rw[PL];rfl
 generalize eQ:Q++b8 2 1 [.int i,.int g]=Q1 at I⊢;generalize eW:W++b8 1 1 [.int (cI S i 3)]=W1 at J⊢;refine ndi ?_ fun N' j S' aa ac a0 C a2 a3 a4 a5 a6 a7 z ah Q' W' hI=>?_;refine⟨rfl,rfl,rfl,by omega,by omega,by omega,?_,PH _,Fr.refl,fun D X K q d h1 h2 h3 h4 P R=>?_⟩;show Q1.length+X8 S1<=1000;omega;simpa using h1;obtain⟨rfl,rfl,O,j0,j1,x,p,v,hF,G⟩:=hI;have p:Q'.length+X8 S'<=1000:=p;have v:X8 S'<=X8 S1:=v;have Y:ln L<=1000:=by obtain⟨_,_,s,k1,k2,k3,_⟩:=step k w hc l;have:=w.kidlen k1 k2;rw[<-E,k3];simp only[ln,PD];omega
 have lL:ln L=(L.length:Int):=rfl;refine⟨fun hj=>?_,fun hj=>?_⟩
 ·have turn:∀ {D:DM} {X:Ah} {K q:Nat} {d:Sl},RlX D X S1 N' (i+1) (lv+ -1)->WF D K->D.L[q]? =some d->d.used=true->L=d.n.ch.map (D9 D.gen)->(∀b∈d.n.ch.flatMap (bel D 1001),b∉X)-> ∃b:Nat,D.at (cI L j 0) (cI L j 1)=some b/\(∀q∈bel D 1001 b,q∉X++(d.n.ch.take j.toNat).flatMap (bel D 1001))/\(d.n.ch.take (j+1).toNat).flatMap (bel D 1001)=(d.n.ch.take j.toNat).flatMap (bel D 1001)++bel D 1001 b/\(bel D 1001 b).Nodup/\(∀q∈bel D 1001 b,∃s,D.L[q]? =some s/\s.used=true):=fun{D X K q d} k1 w k3 a o r=>by
   have lj:j<(d.n.ch.length:Int):=by have:=congrArg List.length o;simp at this;omega
   obtain⟨b,hb⟩:=Sx.get_at (T:=d.n.ch) j0 lj;obtain⟨t1,t2,t3,t4,t5⟩:=Ki w k3 a hb r;have e0:cI L j 0=b:=by rw[o];simp only[cI,i4 hb];rfl
   have e1:cI L j 1=D.gen b:=by rw[o];simp only[cI,i4 hb];rfl
   rw[e0,e1,show(j+1).toNat=j.toNat+1 by omega];exact⟨b,t1,t2,t3,t4,t5⟩
  obtain⟨_,_,s,k1,k2,k3,a,_⟩:=step k w hc l;rw[E]at k3;obtain⟨b,t1,t2,t3,t4,t5⟩:=turn s1 w k1 k2 k3 a;obtain⟨r1,r2⟩:=G D _ K c s s1 w k1 k2 k3 a;have Z:=w.u32 t1;refine ndi (by omega) (ndi hj (nin (nrn (ndi (by simp) (nin (nrn (nin (nrn (ndi ⟨⟨Z.1,Z.2.1,p,x,D,_,K,b,r1,w,t1,t2⟩,?_⟩ fun S2 ab ad b0 b1 b2 b3 b4 b5 b6 b7 ai N2 Q2 W2 hr=>?_)))))))));show X8 S'<n;omega;obtain⟨B,rfl,y,H,u⟩:=hr;obtain⟨t,M⟩:=u D _ K b r1 w t1 t2;have cu:=r1.count t t4 fun q hq=>⟨t2 q hq,t5 q hq⟩
  refine ndi (by unfold I64;omega) (nin (nrn (nin (nrn (nin (nrn (ndi ⟨rfl,rfl,B.trans O,by omega,by omega,y,?_,?_,hF.trans H,fun D X K q d k1 w k3 a o r=>?_⟩ (ndt ?_))))))));show Q2.length+X8 S2<=1000;omega;show X8 S2<=X8 S1;omega;obtain⟨b,t1,t2,t3,t4,t5⟩:=turn k1 w k3 a o r;obtain⟨r1,r2⟩:=G D X K q d k1 w k3 a o r;obtain⟨t,M⟩:=u D _ K b r1 w t1 t2;rw[t3,<-Py,PL];exact⟨t,by omega⟩;show(L.length-(j+1)).toNat<(L.length-j).toNat;omega
 unfold vcFrc0;refine nin (nrn (ndi (by simp) (nin (nrn (nin (nrn (ndt ⟨O,rfl,x,s2.trans hF,fun D X K c k w hc l=>?_⟩)))))));obtain⟨k1,_,s,k2,k3,a,o,r⟩:=step k w hc l;rw[E]at a;rw[A]at k1;obtain⟨t,M⟩:=G D _ K c s k1 w k2 k3 a o;have el:s.n.ch.take j.toNat=s.n.ch:=Ql (by have:=congrArg List.length a;simp at this;omega);rw[el]at t M;rw[r];exact⟨by simpa using t,by rw[Qf];omega⟩
