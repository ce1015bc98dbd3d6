/- The DOM: what is below a node; slots that are freed one after another: plain lemmas.
  Conditions: none. -/
import Derived.Test.YtoegfalhkackeaaGreatI2
set_option linter.all false
noncomputable section
namespace Go.D
open Go Go.Xe Go.Sx
section
variable {D :DM}{S N S' N' S'' N'':Sx.Rows}{fr lv i g:Int}{K a b c:Nat}{G:Nat->Nat}{T:List RS}{M:List RN}{X Y:Ah}
def Fr.trans (h:Fr S N S' N')(h':Fr S' N' S'' N''):Fr S N S'' N'':=by obtain⟨h1,h2,h3⟩:=h;obtain⟨k1,k2,k3⟩:=h';refine⟨by omega,fun k hk hn=>?_,fun i hi d=>?_⟩;rw[k2 k (by omega) fun j hj d e=>?_,h2 k hk hn];rcases h3 j hj d with⟨q,f,l,m⟩|h;exact hn q f l (m.trans e);omega;rcases k3 i hi d with⟨q,f,l,m⟩|h;rcases h3 q f l with⟨p,p1,p2,n⟩|h;exact .inl ⟨p,p1,p2,n.trans m⟩;exact .inr (by omega);exact .inr (by omega)
def I0 :∀ {X:Ah} {D:DM} {j:Nat},j∉X->(X.foldl C0 D).L[j]? =D.L[j]?
 | [],_,_,_=>rfl|x::X,D,j,h=>by rw[List.foldl_cons,I0 (fun m=>h (Ut _ m))];unfold C0;simp only[m9];rw[TH (show¬x=j from fun e=>h (by simp[e]))]
def nE :∀ {X:Ah} {D:DM},(X.foldl C0 D).L.length=D.L.length
 | [],_=>rfl|x::X,D=>by rw[List.foldl_cons,nE];unfold C0;simp
def eD :∀ {Y:Ah} {D:DM},Y.Nodup->(∀b∈Y,∃s,D.L[b]? =some s/\s.used=true)->(Y.foldl C0 D).L.countP (·.used)+Y.length=D.L.countP (·.used)
 | [],_,_,_=>rfl|y::Y,D,hn,h=>by
  obtain⟨hy,hn⟩:=List.nodup_cons.1 hn;obtain⟨s,h1,h2⟩:=h y List.mem_cons_self;rw[List.foldl_cons];have:=eD (D:=C0 D y) hn fun b hb=>by obtain⟨s,k1,k2⟩:=h b (Ut _ hb);refine⟨s,?_,k2⟩;unfold C0;simp only[m9];rw[TH (show¬y=b from fun e=>hy (by rw[e];exact hb))];exact k1
  have k:=uI (q:=fun s=>⟨s.g+1,false,D9 0 [] []⟩) (fun _=>rfl) h1 h2;have:(C0 D y).L.countP (·.used)+1=D.L.countP (·.used):=k;rw[Ue];omega
def Abv.top {p:Nat}{s:Sl}(h:D.L[a]? =some s)(hp:s.n.par=p)(k:Abv D a b):Abv D p b:=by
 induction k with
 |here=>exact .up _ _ _ h hp .here|up b q s' h' hq _ d=>exact .up _ _ _ h' hq d
def Abv.lin (h:Abv D a b)(k:Abv D c b):Abv D a c\/Abv D c a:=by
 induction h with
 |here=>exact .inr k|up b p s h' hp k' d=>
  cases k with
  |here=>exact .inl (.up _ _ _ h' hp k')|up _ p' s' h2 hp' k2=>
   rw[h']at h2;cases h2;have:p=p':=by omega
   subst this;exact d k2
def Abv.rank (w:WF D K){r:Nat->Nat}(hr:∀(i:Nat) s,D.L[i]? =some s->s.used=true-> ∀j∈s.n.ch,r i<r j)(h:Abv D a b):(∃s,D.L[b]? =some s/\s.used=true)->r a<=r b/\ ∃s,D.L[a]? =some s/\s.used=true:=by
 induction h with
 |here=>exact fun h=>⟨TK _,h⟩
 |up b p s h hp k f=>
  rintro ⟨s',h1,h2⟩;rw[h]at h1;cases h1;rcases w.par b s h h2 with e| ⟨q,d,e,k1,k2,k3⟩;omega
  ·have:p=q:=by omega
   subst this;have:=hr p d k1 k2 b k3;have:=f ⟨d,k1,k2⟩;exact⟨by omega,this.2⟩
def R9 (w:WF D K):∀ {f c:Nat} {s:Sl},D.L[c]? =some s->s.used=true-> ∀b∈bel D f c,Abv D c b/\ ∃s,D.L[b]? =some s/\s.used=true
 |0,c,s,hs,d,b,hb=>by rw[Uz.1 hb];exact⟨.here,s,hs,d⟩|f+1,c,s,hs,d,b,hb=>by unfold bel at hb;rw[Vp hs]at hb;rcases TZ.1 hb with rfl|hb;exact⟨.here,s,hs,d⟩;obtain⟨j,hj,hb⟩:=List.mem_flatMap.1 hb;obtain⟨sj,k1,k2,k3⟩:=(w.ch c s hs d).2 j hj;obtain⟨e,h⟩:=R9 w k1 k2 b hb;exact⟨e.top k1 k3,h⟩
def M8 (w:WF D K):∀ {f c:Nat} {s:Sl},D.L[c]? =some s->s.used=true->(bel D f c).Nodup
 |0,c,s,hs,k=>by unfold bel;simp|f+1,c,s,hs,k=>by
  obtain⟨r,_,hr⟩:=w.rank;obtain⟨hn,hc⟩:=w.ch c s hs k;unfold bel;rw[Vp hs];refine List.nodup_cons.2 ⟨fun m=>?_,List.pairwise_flatMap.2 ⟨fun j hj=>?_,?_⟩⟩;obtain⟨j,hj,hb⟩:=List.mem_flatMap.1 m;obtain⟨sj,k1,k2,k3⟩:=hc j hj;have:=((R9 w k1 k2 c hb).1.rank w hr ⟨s,hs,k⟩).1;have:=hr c s hs k j hj;omega;obtain⟨sj,k1,k2,k3⟩:=hc j hj;exact M8 w k1 k2
  ·refine List.Pairwise.imp_of_mem (fun{x y} hx hy d=>?_) hn;obtain⟨sx,k1,k2,k3⟩:=hc x hx;obtain⟨l,t,v,z⟩:=hc y hy;rintro p hp q hq rfl;obtain⟨u,B⟩:=R9 w k1 k2 p hp;obtain⟨a2,_⟩:=R9 w t v p hq;have no:∀ {x y:Nat} {l:Sl},x∈s.n.ch->y∈s.n.ch->x≠y->D.L[y]? =some l->l.n.par=c->Abv D x y->False:=fun{x y l} hx hy d o hp h=>by
    rcases h.inv with e| ⟨p,A,e1,e2,e3⟩;exact d e
    ·rw[o]at e1;cases e1;have:p=c:=by omega
     subst this;have:=(e3.rank w hr ⟨s,hs,k⟩).1;have:=hr p s hs k x hx;omega
   rcases u.lin a2 with h|h;exact no hx hy d t z h;exact no hy hx (Ne.symm d) k1 k3 h
def aX (S:Sx.Rows):Nat:=S.countP fun r=>(r.getD 1 (.int 0)).toBool
def Rl.uses (h:Rl G D S N fr lv):aX S=D.L.countP (·.used)/\lv=aX S:=by
 obtain⟨T,M,rfl,rfl,h⟩:=h;have e:aX (T.map RS.row)=D.L.countP (·.used):=by unfold aX;rw[List.countP_map,<-h.count];rfl
 exact⟨e,by rw[e];exact h.lv⟩
def frS (S:Sx.Rows)(i fr:Int)(g:Int):Sx.Rows:=i6 (i6 (i6 (i6 S i 1 (.bool false)) i 3 (.int (-1))) i 0 (.int g)) i 2 (.int fr)
def Rl.lose (h:Rl G D S N fr lv)(hk:D.at i g=some c):Rl G (C0 D c) (frS S i fr (g+1)) N (i+1) (lv+ -1)/\Fr S N (frS S i fr (g+1)) N:=by
 obtain⟨T,M,rfl,rfl,h⟩:=h;obtain⟨s,r,k1,k2,k3,k4,d,n,o,q⟩:=h.at_ hk;subst k1;obtain⟨l,k,m,_⟩:=h.row c s k2;rw[d]at k;cases k;have e:frS (T.map RS.row) c fr (g+1)=(T.modify c fun r=>⟨r.g+1,false,fr, -1⟩).map RS.row:=by unfold frS;rw[V7 (fun r:RS=> {r with u:=false}) (fun _=>rfl),V7 (fun r:RS=> {r with p:= -1}) (fun _=>rfl),V7 (fun r:RS=> {r with g:=g+1}) (fun _=>rfl),V7 (fun r:RS=> {r with nx:=fr}) (fun _=>rfl),Uc,N8,N8,N8];congr 1;apply List.ext_getElem?;intro j;simp only[m9];by_cases e:c=j;subst e;simp[d,m,k4];simp[e]
 rw[e];refine⟨⟨_,M,rfl,rfl,h.lose k2 k3⟩,?_⟩;have:=QD (N:=M.map RN.row) (T:=T) (T':=T.modify c fun r=>⟨r.g+1,false,fr, -1⟩) (X:=[]) fun j l hj f=>by simp only[m9]at hj;by_cases e:c=j;rw[TJ e]at hj;subst e;rw[d]at hj;cases hj;simp at f;rw[TH e]at hj;exact .inl ⟨l,hj,f,rfl⟩
 simpa using this
def Jw :C0 (X.foldl C0 D) c=(X++ [c]).foldl C0 D:=by rw[List.foldl_append];rfl
def RlX.at_ (hk:D.at i g=some c)(hc:c∉X):(X.foldl C0 D).at i g=some c:=by
 obtain⟨s,h1,h2,rfl,rfl⟩:=Vm hk;have e:(X.foldl C0 D).L[c]? =some s:=by rw[I0 hc];exact h1
 have:=Vn e h2;rwa[Vo e]at this
def RlX.lose (h:RlX D X S N fr lv)(hk:D.at i g=some c)(hc:c∉X):RlX D (X++ [c]) (frS S i fr (g+1)) N (i+1) (lv+ -1)/\Fr S N (frS S i fr (g+1)) N:=by have:=Rl.lose h (RlX.at_ hk hc);unfold RlX;rw[<-Jw];exact this
def RlX.slen (h:RlX D X S N fr lv)(w:WF D K):S.length<=1000:=by obtain⟨T,M,rfl,rfl,h⟩:=h;rw[TG,h.len,nE];have:=w.lim;omega
def RlX.kids (h:RlX D X S N fr lv)(hk:D.at i g=some c)(hc:c∉X):∃s,D.L[c]? =some s/\s.used=true/\cL N (cI S i 3) 9=s.n.ch.map (z9 D.gen)/\0<=cI S i 3/\cI S i 3<N.length/\cB S i 1=true/\cI S i 0=g/\0<=i/\i<S.length:=by have d:=RlX.at_ (X:=X) hk hc;obtain⟨s,h1,h2,h3,h4,h5,e,f,j⟩:=Rl.spot h d;obtain⟨_,_,_,hi,_⟩:=Vm hk;subst hi;have hv:=(Rl.vld h).2 ⟨c,d⟩;unfold K0 at hv;simp only[Tl,TI]at hv;rw[I0 hc]at h1;rw[h5];exact⟨s,h1,h2,by unfold cL;rw[j];rfl,e,f,h4,hv.2,by omega,by omega⟩
def RlX.count {d e:Int}(h:RlX D X S N fr lv)(h':RlX D (X++Y) S' N' d e)(hn:Y.Nodup)(f:∀b∈Y,b∉X/\ ∃s,D.L[b]? =some s/\s.used=true):aX S'+Y.length=aX S:=by rw[h.uses.1,h'.uses.1,List.foldl_append];exact eD hn fun b hb=>by obtain⟨h1,s,h2,h3⟩:=f b hb;exact⟨s,by rw[I0 h1];exact h2,h3⟩
end
section
variable {D :DM}{S N S1 S':Sx.Rows}{fr lv fr1 lv1 i g j:Int}{K c b:Nat}{X:Ah}{s:Sl}
def iS :c∈bel D 1001 c:=by unfold bel;exact List.mem_cons_self
def Mq (w:WF D K)(hs:D.L[c]? =some s)(a:s.used=true){k:Nat}(hb:s.n.ch[k]? =some b)(d:∀q∈s.n.ch.flatMap (bel D 1001),q∉X):D.at b (D.gen b)=some b/\(∀q∈bel D 1001 b,q∉X++(s.n.ch.take k).flatMap (bel D 1001))/\(s.n.ch.take (k+1)).flatMap (bel D 1001)=(s.n.ch.take k).flatMap (bel D 1001)++bel D 1001 b/\(bel D 1001 b).Nodup/\(∀q∈bel D 1001 b,∃s,D.L[q]? =some s/\s.used=true):=by
 have hm:=Tv hb;obtain⟨h,k1,k2,_⟩:=(w.ch c s hs a).2 b hm;have hn:=M8 (f:=1001) w hs a;rw[cX w hs a]at hn;have hn:=(List.nodup_cons.1 hn).2;have ht:(s.n.ch.take (k+1)).flatMap (bel D 1001)=(s.n.ch.take k).flatMap (bel D 1001)++bel D 1001 b:=by rw[Z9 hb];simp
 refine⟨Vn k1 k2,fun q hq m=>?_,ht,M8 w k1 k2,fun q hq=>(R9 w k1 k2 q hq).2⟩;rcases TY.1 m with m|m;exact d q (List.mem_flatMap.2 ⟨b,hm,hq⟩) m;have e:s.n.ch=s.n.ch.take (k+1)++s.n.ch.drop (k+1):=(UX ..).symm;rw[e,List.flatMap_append,ht]at hn;have hn:=(Vj.1 (Vj.1 hn).1).2.2;exact hn q m q hq rfl
end
def vcFrc_ok (n:Nat):vcFrc n:=by
 unfold vcFrc;rintro i g S fr lv c0 c1 c2 c3 c4 c5 c6 c7 st N Q W ⟨⟨hi,hg,P,hW,D,X,K,c,e,w,hc,k⟩,hm⟩;have P:Q.length+aX S<=1000:=P;have hm:aX S<n+1:=hm;have lim:=w.lim;have R:=e.slen w;obtain⟨s,h1,h2,h3,h4,h5,O,E,h8,d⟩:=e.kids hc (k c iS);have lS:ln S=(S.length:Int):=rfl;have lQ:ln Q=(Q.length:Int):=rfl;have lW:ln W=(W.length:Int):=rfl;have ae:=e.uses.2;have ub:aX S<=S.length:=List.countP_le_length;have gb:=w.u32 hc;have ew:IntKind.wrap .u32 (cI S i 0+1)=g+1:=by rw[E];obtain⟨s',k1,k2,k3,k4⟩:=Vm hc;have:=w.gen s' (Tv k1);exact Jb (by simp[IntKind.min,IntKind.signed];omega) (by simp[IntKind.max,IntKind.signed,IntKind.bits];omega)
 have gs:g<=1001:=by obtain⟨s',k1,k2,k3,k4⟩:=Vm hc;have:=w.gen s' (Tv k1);omega
 have step:∀ {D X K c},RlX D X S N fr lv->WF D K->D.at i g=some c->(∀b∈bel D 1001 c,b∉X)->RlX D (X++ [c]) (frS S i fr (g+1)) N (i+1) (lv+ -1)/\Fr S N (frS S i fr (g+1)) N/\ ∃s,D.L[c]? =some s/\s.used=true/\cL N (cI S i 3) 9=s.n.ch.map (z9 D.gen)/\(∀q∈s.n.ch.flatMap (bel D 1001),q∉X++ [c])/\bel D 1001 c=c::s.n.ch.flatMap (bel D 1001):=fun{D X K c} e w hc k=>by obtain⟨k1,k2⟩:=e.lose hc (k c iS);obtain⟨s,h1,h2,h3,_⟩:=e.kids hc (k c iS);have A:=cX w h1 h2;refine⟨k1,k2,s,h1,h2,h3,fun q hq m=>?_,A⟩;have hn:=M8 (f:=1001) w h1 h2;rw[A]at hn k;rcases TY.1 m with m|m;exact k q (Ut _ hq) m;rw[Uz.1 m]at hq;exact(List.nodup_cons.1 hn).1 hq
 obtain⟨s1,s2,_⟩:=step e w hc k;have u1:aX (frS S i fr (g+1))+1=aX S:=e.count s1 (by simp) fun b hb=>by rw[Uz.1 hb];exact⟨k c iS,s,h1,h2⟩
 refine ndi ⟨by unfold U32 at hi;omega,by unfold U32 at hi;omega⟩ (ndi ⟨by omega,by omega⟩ ⟨fun _=>?_,fun h=>absurd d h⟩);have B:¬i<0:=by omega
 refine ndi B (ndi d (ndi d ⟨fun _=>ndi d ⟨fun _=>?_,fun h=>absurd E h⟩,fun h=>absurd O h⟩));refine ndi d (ndi d (ndi d (ndi (by unfold I64;omega) (ndi d ⟨fun _=>?_,fun h=>absurd (by rw[E];omega) h⟩))));refine ndi d<|ndi d<|ndi B<|ndi d<|ndi d<|ndi (by unfold I64;omega)<|ndi (by unfold I64;omega)<|nin<|ndi (by omega)<|nrn<|nin<|ndi (by omega)<|nrn<|P3 h4 h5<|nin<|nrn<|nin<|nrn<|nin<|nrn ?_;rw[ew];generalize y:i6 (i6 (i6 (i6 S i 1 (.bool false)) i 3 (.int (-1))) i 0 (.int (g+1))) i 2 (.int fr)=S1;have y:frS S i fr (g+1)=S1:=y;rw[y]at s1 s2 u1;generalize C:cL N (cI S i 3) 9=L;have H:(Q++d8 2 1 [.int i,.int g]).length=Q.length+1:=by rw[TO];rfl
 have I:(W++d8 1 1 [.int (cI S i 3)]).length=W.length+1:=by rw[TO];rfl
 generalize eQ:Q++d8 2 1 [.int i,.int g]=Q1 at H⊢;generalize eW:W++d8 1 1 [.int (cI S i 3)]=W1 at I⊢;refine ndi ?_ fun Y j S' aa ac a0 B a2 a3 a4 a5 a6 a7 z ah Q' W' hI=>?_;refine⟨rfl,rfl,rfl,by omega,by omega,by omega,?_,TK _,Vv,fun D X K q a h1 h2 h3 h4 h5 O=>?_⟩;show Q1.length+aX S1<=1000;omega;simpa using h1;obtain⟨rfl,rfl,M,j0,j1,v,o,u,hF,F⟩:=hI;have o:Q'.length+aX S'<=1000:=o;have u:aX S'<=aX S1:=u;have U:ln L<=1000:=by obtain⟨_,_,s,k1,k2,k3,_⟩:=step e w hc k;have:=w.kidlen k1 k2;rw[<-C,k3];simp only[ln,TG];omega
 have lL:ln L=(L.length:Int):=rfl;refine⟨fun hj=>?_,fun hj=>?_⟩
 ·have turn:∀ {D:DM} {X:Ah} {K q:Nat} {a:Sl},RlX D X S1 Y (i+1) (lv+ -1)->WF D K->D.L[q]? =some a->a.used=true->L=a.n.ch.map (z9 D.gen)->(∀b∈a.n.ch.flatMap (bel D 1001),b∉X)-> ∃b:Nat,D.at (cI L j 0) (cI L j 1)=some b/\(∀q∈bel D 1001 b,q∉X++(a.n.ch.take j.toNat).flatMap (bel D 1001))/\(a.n.ch.take (j+1).toNat).flatMap (bel D 1001)=(a.n.ch.take j.toNat).flatMap (bel D 1001)++bel D 1001 b/\(bel D 1001 b).Nodup/\(∀q∈bel D 1001 b,∃s,D.L[q]? =some s/\s.used=true):=fun{D X K q a} k1 w k3 k4 l p=>by
   have lj:j<(a.n.ch.length:Int):=by have:=congrArg List.length l;simp at this;omega
   obtain⟨b,hb⟩:=Sx.get_at (T:=a.n.ch) j0 lj;obtain⟨t1,t2,t3,t4,t5⟩:=Mq w k3 k4 hb p;have e0:cI L j 0=b:=by rw[l];simp only[cI,i9 hb];rfl
   have e1:cI L j 1=D.gen b:=by rw[l];simp only[cI,i9 hb];rfl
   rw[e0,e1,show(j+1).toNat=j.toNat+1 by omega];exact⟨b,t1,t2,t3,t4,t5⟩
  obtain⟨_,_,s,k1,k2,k3,k4,_⟩:=step e w hc k;rw[C]at k3;obtain⟨b,t1,t2,t3,t4,t5⟩:=turn s1 w k1 k2 k3 k4;obtain⟨r1,r2⟩:=F D _ K c s s1 w k1 k2 k3 k4;have V:=w.u32 t1;refine ndi (by omega) (ndi hj (nin (nrn (ndi (by simp) (nin (nrn (nin (nrn (ndi ⟨⟨V.1,V.2.1,o,v,D,_,K,b,r1,w,t1,t2⟩,?_⟩ fun S2 ab ad b0 b1 b2 b3 b4 b5 b6 b7 ai N2 Q2 W2 hr=>?_)))))))));show aX S'<n;omega;obtain⟨A,rfl,x,G,t⟩:=hr;obtain⟨r,J⟩:=t D _ K b r1 w t1 t2;have cu:=r1.count r t4 fun q hq=>⟨t2 q hq,t5 q hq⟩
  refine ndi (by unfold I64;omega) (nin (nrn (nin (nrn (nin (nrn (ndi ⟨rfl,rfl,A.trans M,by omega,by omega,x,?_,?_,hF.trans G,fun D X K q a k1 w k3 k4 l p=>?_⟩ (ndt ?_))))))));show Q2.length+aX S2<=1000;omega;show aX S2<=aX S1;omega;obtain⟨b,t1,t2,t3,t4,t5⟩:=turn k1 w k3 k4 l p;obtain⟨r1,r2⟩:=F D X K q a k1 w k3 k4 l p;obtain⟨r,J⟩:=t D _ K b r1 w t1 t2;rw[t3,<-Tz,TO];exact⟨r,by omega⟩;show(L.length-(j+1)).toNat<(L.length-j).toNat;omega
 unfold vcFrc0;refine nin (nrn (ndi (by simp) (nin (nrn (nin (nrn (ndt ⟨M,rfl,v,s2.trans hF,fun D X K c e w hc k=>?_⟩)))))));obtain⟨k1,_,s,k2,k3,k4,l,p⟩:=step e w hc k;rw[C]at k4;rw[y]at k1;obtain⟨r,J⟩:=F D _ K c s k1 w k2 k3 k4 l;have Z:s.n.ch.take j.toNat=s.n.ch:=Uk (by have:=congrArg List.length k4;simp at this;omega);rw[Z]at r J;rw[p];exact⟨by simpa using r,by rw[Ue];omega⟩
def pE (D:DM)(i g:Int):DM×Int:=match D.at i g with
 |none=>(D,11)
 |some c=>if(D.nod c).par≠ -1 then(D,10)else({(bel D 1001 c).foldl C0 D with C:=(D.C.modify 0 (· -(bel D 1001 c).length)).modify 2 (· +(bel D 1001 c).length)},0)
def lD :Ar->Ar->Prop
 | [.int i,.int g,.lst S,.int fr,.int lv,.int a,.int b,.int c,.int d,.int e,.int f,.int h,.int m,.lst _,.lst N],[.int r,.lst S',.int fr',.int lv',.int a',.int b',.int c',.int d',.int e',.int f',.int h',.int m',.lst _,.lst N']=>
  nP S N fr lv [a,b,c,d,e,f,h,m] S' N' fr' lv' [a',b',c',d',e',f',h',m'] fun D=>((pE D i g).1,r=(pE D i g).2)
 |_,_=>False
def tK:=By
def cFre:=mkD "fre" [hV] tK [iV] lD
def Qr :Ay->List (Nat×(Fm->SS->J0)):=bD
def Od :Nat->List (Ay×Con)
 |_=>[(91,cFrc),(LVn,cYes "lives")]
def Sq :Nat->Aw->G1:=cH
