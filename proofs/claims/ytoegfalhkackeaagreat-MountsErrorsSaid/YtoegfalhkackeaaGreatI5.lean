/- The DOM: a root and all below it are freed: the condition of the closure holds.
  Conditions: none. -/
import Derived.Test.YtoegfalhkackeaaGreatI3
set_option linter.all false
noncomputable section
namespace Go.D
open Go Go.Xe Go.Sx
section
variable {D :DM}{S N S1 S':Sx.Rows}{fr lv fr1 lv1 i g j:Int}{K c b:Nat}{X:Ah}{s:Sl}
def hO :c∈bel D 1001 c:=by unfold bel;exact List.mem_cons_self
def KT (w:WF D K)(hs:D.L[c]? =some s)(a:s.used=true){k:Nat}(hb:s.n.ch[k]? =some b)(d:∀q∈s.n.ch.flatMap (bel D 1001),q∉X):D.at b (D.gen b)=some b/\(∀q∈bel D 1001 b,q∉X++(s.n.ch.take k).flatMap (bel D 1001))/\(s.n.ch.take (k+1)).flatMap (bel D 1001)=(s.n.ch.take k).flatMap (bel D 1001)++bel D 1001 b/\(bel D 1001 b).Nodup/\(∀q∈bel D 1001 b,∃s,D.L[q]? =some s/\s.used=true):=by
 have hm:=QT hb;obtain⟨h,k1,k2,_⟩:=(w.ch c s hs a).2 b hm;have hn:=R9 (f:=1001) w hs a;rw[lR w hs a]at hn;have hn:=(List.nodup_cons.1 hn).2;have ht:(s.n.ch.take (k+1)).flatMap (bel D 1001)=(s.n.ch.take k).flatMap (bel D 1001)++bel D 1001 b:=by rw[Y8 hb];simp
 refine⟨DM.at_of k1 k2,fun q hq m=>?_,ht,R9 w k1 k2,fun q hq=>(X6 w k1 k2 q hq).2⟩;rcases Rw.1 m with m|m;exact d q (List.mem_flatMap.2 ⟨b,hm,hq⟩) m;have e:s.n.ch=s.n.ch.take (k+1)++s.n.ch.drop (k+1):=(SP ..).symm;rw[e,List.flatMap_append,ht]at hn;have hn:=(Te.1 (Te.1 hn).1).2.2;exact hn q m q hq rfl
end
def vcFrc_ok (n:Nat):vcFrc n:=by
 unfold vcFrc;rintro i g S fr lv c0 c1 c2 c3 c4 c5 c6 c7 st N Q W ⟨⟨hi,hg,R,hW,D,X,K,c,k,w,hc,l⟩,hm⟩;have R:Q.length+aN S<=1000:=R;have hm:aN S<n+1:=hm;have lim:=w.lim;have U:=k.slen w;obtain⟨s,h1,h2,h3,h4,O,P,E,h8,e⟩:=k.kids hc (l c hO);have lS:ln S=(S.length:Int):=rfl;have lQ:ln Q=(Q.length:Int):=rfl;have lW:ln W=(W.length:Int):=rfl;have ae:=k.uses.2;have ub:aN S<=S.length:=List.countP_le_length;have gb:=w.u32 hc;have ew:IntKind.wrap .u32 (cI S i 0+1)=g+1:=by rw[E];obtain⟨s',k1,k2,k3,a⟩:=Th hc;have:=w.gen s' (QT k1);exact HY (by simp[IntKind.min,IntKind.signed];omega) (by simp[IntKind.max,IntKind.signed,IntKind.bits];omega)
 have gs:g<=1001:=by obtain⟨s',k1,k2,k3,a⟩:=Th hc;have:=w.gen s' (QT k1);omega
 have step:∀ {D X K c},RlX D X S N fr lv->WF D K->D.at i g=some c->(∀b∈bel D 1001 c,b∉X)->RlX D (X++ [c]) (frS S i fr (g+1)) N (i+1) (lv+ -1)/\Fr S N (frS S i fr (g+1)) N/\ ∃s,D.L[c]? =some s/\s.used=true/\cL N (cI S i 3) 9=s.n.ch.map (F5 D.gen)/\(∀q∈s.n.ch.flatMap (bel D 1001),q∉X++ [c])/\bel D 1001 c=c::s.n.ch.flatMap (bel D 1001):=fun{D X K c} k w hc l=>by obtain⟨k1,k2⟩:=k.lose hc (l c hO);obtain⟨s,h1,h2,h3,_⟩:=k.kids hc (l c hO);have B:=lR w h1 h2;refine⟨k1,k2,s,h1,h2,h3,fun q hq m=>?_,B⟩;have hn:=R9 (f:=1001) w h1 h2;rw[B]at hn l;rcases Rw.1 m with m|m;exact l q (RV _ hq) m;rw[Se.1 m]at hq;exact(List.nodup_cons.1 hn).1 hq
 obtain⟨s1,s2,_⟩:=step k w hc l;have u1:aN (frS S i fr (g+1))+1=aN S:=k.count s1 (by simp) fun b hb=>by rw[Se.1 hb];exact⟨l c hO,s,h1,h2⟩
 refine ndi ⟨by unfold U32 at hi;omega,by unfold U32 at hi;omega⟩ (ndi ⟨by omega,by omega⟩ ⟨fun _=>?_,fun h=>absurd e h⟩);have a1:¬i<0:=by omega
 refine ndi a1 (ndi e (ndi e ⟨fun _=>ndi e ⟨fun _=>?_,fun h=>absurd E h⟩,fun h=>absurd P h⟩));refine ndi e (ndi e (ndi e (ndi (by unfold I64;omega) (ndi e ⟨fun _=>?_,fun h=>absurd (by rw[E];omega) h⟩))));refine ndi e<|ndi e<|ndi a1<|ndi e<|ndi e<|ndi (by unfold I64;omega)<|ndi (by unfold I64;omega)<|nin<|ndi (by omega)<|nrn<|nin<|ndi (by omega)<|nrn<|M6 h4 O<|nin<|nrn<|nin<|nrn<|nin<|nrn ?_;rw[ew];generalize A:i7 (i7 (i7 (i7 S i 1 (.bool false)) i 3 (.int (-1))) i 0 (.int (g+1))) i 2 (.int fr)=S1;have A:frS S i fr (g+1)=S1:=A;rw[A]at s1 s2 u1;generalize C:cL N (cI S i 3) 9=L;have H:(Q++d8 2 1 [.int i,.int g]).length=Q.length+1:=by rw[Rn];rfl
 have I:(W++d8 1 1 [.int (cI S i 3)]).length=W.length+1:=by rw[Rn];rfl
 generalize eQ:Q++d8 2 1 [.int i,.int g]=Q1 at H⊢;generalize eW:W++d8 1 1 [.int (cI S i 3)]=W1 at I⊢;refine ndi ?_ fun Z j S' aa ac a0 a1 a2 a3 a4 a5 a6 a7 z ah Q' W' hI=>?_;refine⟨rfl,rfl,rfl,by omega,by omega,by omega,?_,Ri _,To,fun D X K q d h1 h2 h3 h4 O P=>?_⟩;show Q1.length+aN S1<=1000;omega;simpa using h1;obtain⟨rfl,rfl,M,j0,j1,x,p,v,hF,F⟩:=hI;have p:Q'.length+aN S'<=1000:=p;have v:aN S'<=aN S1:=v;have V:ln L<=1000:=by obtain⟨_,_,s,k1,k2,k3,_⟩:=step k w hc l;have:=w.kidlen k1 k2;rw[<-C,k3];simp only[ln,Rc];omega
 have lL:ln L=(L.length:Int):=rfl;refine⟨fun hj=>?_,fun hj=>?_⟩
 ·have turn:∀ {D:DM} {X:Ah} {K q:Nat} {d:Sl},RlX D X S1 Z (i+1) (lv+ -1)->WF D K->D.L[q]? =some d->d.used=true->L=d.n.ch.map (F5 D.gen)->(∀b∈d.n.ch.flatMap (bel D 1001),b∉X)-> ∃b:Nat,D.at (cI L j 0) (cI L j 1)=some b/\(∀q∈bel D 1001 b,q∉X++(d.n.ch.take j.toNat).flatMap (bel D 1001))/\(d.n.ch.take (j+1).toNat).flatMap (bel D 1001)=(d.n.ch.take j.toNat).flatMap (bel D 1001)++bel D 1001 b/\(bel D 1001 b).Nodup/\(∀q∈bel D 1001 b,∃s,D.L[q]? =some s/\s.used=true):=fun{D X K q d} k1 w k3 a o r=>by
   have lj:j<(d.n.ch.length:Int):=by have:=congrArg List.length o;simp at this;omega
   obtain⟨b,hb⟩:=Sx.get_at (T:=d.n.ch) j0 lj;obtain⟨t1,t2,t3,t4,t5⟩:=KT w k3 a hb r;have e0:cI L j 0=b:=by rw[o];simp only[cI,l6 hb];rfl
   have e1:cI L j 1=D.gen b:=by rw[o];simp only[cI,l6 hb];rfl
   rw[e0,e1,show(j+1).toNat=j.toNat+1 by omega];exact⟨b,t1,t2,t3,t4,t5⟩
  obtain⟨_,_,s,k1,k2,k3,a,_⟩:=step k w hc l;rw[C]at k3;obtain⟨b,t1,t2,t3,t4,t5⟩:=turn s1 w k1 k2 k3 a;obtain⟨r1,r2⟩:=F D _ K c s s1 w k1 k2 k3 a;have Y:=w.u32 t1;refine ndi (by omega) (ndi hj (nin (nrn (ndi (by simp) (nin (nrn (nin (nrn (ndi ⟨⟨Y.1,Y.2.1,p,x,D,_,K,b,r1,w,t1,t2⟩,?_⟩ fun S2 ab ad b0 b1 b2 b3 b4 b5 b6 b7 ai N2 Q2 W2 hr=>?_)))))))));show aN S'<n;omega;obtain⟨B,rfl,y,G,u⟩:=hr;obtain⟨t,J⟩:=u D _ K b r1 w t1 t2;have cu:=r1.count t t4 fun q hq=>⟨t2 q hq,t5 q hq⟩
  refine ndi (by unfold I64;omega) (nin (nrn (nin (nrn (nin (nrn (ndi ⟨rfl,rfl,B.trans M,by omega,by omega,y,?_,?_,hF.trans G,fun D X K q d k1 w k3 a o r=>?_⟩ (ndt ?_))))))));show Q2.length+aN S2<=1000;omega;show aN S2<=aN S1;omega;obtain⟨b,t1,t2,t3,t4,t5⟩:=turn k1 w k3 a o r;obtain⟨r1,r2⟩:=F D X K q d k1 w k3 a o r;obtain⟨t,J⟩:=u D _ K b r1 w t1 t2;rw[t3,<-QX,Rn];exact⟨t,by omega⟩;show(L.length-(j+1)).toNat<(L.length-j).toNat;omega
 unfold vcFrc0;refine nin (nrn (ndi (by simp) (nin (nrn (nin (nrn (ndt ⟨M,rfl,x,s2.trans hF,fun D X K c k w hc l=>?_⟩)))))));obtain⟨k1,_,s,k2,k3,a,o,r⟩:=step k w hc l;rw[C]at a;rw[A]at k1;obtain⟨t,J⟩:=F D _ K c s k1 w k2 k3 a o;have el:s.n.ch.take j.toNat=s.n.ch:=RK (by have:=congrArg List.length a;simp at this;omega);rw[el]at t J;rw[r];exact⟨by simpa using t,by rw[RC];omega⟩
def qW (D:DM)(i g:Int):DM×Int:=match D.at i g with
 |none=>(D,11)
 |some c=>if(D.nod c).par≠ -1 then(D,10)else({(bel D 1001 c).foldl B8 D with C:=(D.C.modify 0 (· -(bel D 1001 c).length)).modify 2 (· +(bel D 1001 c).length)},0)
def kC :Ar->Ar->Prop
 | [.int i,.int g,.lst S,.int fr,.int lv,.int a,.int b,.int c,.int d,.int e,.int f,.int h,.int m,.lst _,.lst N],[.int r,.lst S',.int fr',.int lv',.int a',.int b',.int c',.int d',.int e',.int f',.int h',.int m',.lst _,.lst N']=>
  mR S N fr lv [a,b,c,d,e,f,h,m] S' N' fr' lv' [a',b',c',d',e',f',h',m'] fun D=>((qW D i g).1,r=(qW D i g).2)
 |_,_=>False
def sL:=AZ
def cFre:=mkD "fre" [hV] sL [iV] kC
def OH :Ay->List (Nat×(Fm->SS->K0)):=aR
def Mt :Nat->List (Ay×Con)
 |_=>[(91,cFrc),(LVn,cYes "lives")]
def Qa :Nat->Aw->I9:=bN
