/- The DOM: Move: the condition holds.
  Conditions: none. -/
import Derived.Test.YtgmiikiinbaapaaGreatB12
set_option linter.all false
noncomputable section
namespace Go.D
open Go Go.Xe Go.Sx
section
variable {D :DM}{S N S' N' st B:Sx.Rows}{fr lv i g j m x y c0 c1 c2 c3 c4 c5 c6 c7:Int}{K c p k:Nat}{G:Nat->Nat}{cs:Ak}{Lr:Sx.Rows}{l:Ah}{t a n q:Int}
def JL (hn:l.Nodup)(hc:c∈l)(ht:t=(l.idxOf c:Nat))(he:n=(l.length:Int)-(t+1)):pQ (l.map (D9 G)) 0 t++pQ (l.map (D9 G)) (t+1) n=(J0 l c).map (D9 G):=by
 have e:=nI hc;subst ht he;rw[M3,M3,<-Qj,<-BJ hn hc];congr 1;generalize l.idxOf c=t at*;have b:((t:Int)+1).toNat=t+1:=by omega
 have d:((l.length:Int)-((t:Int)+1)).toNat=l.length-(t+1):=by omega
 rw[b,d,Qd,Int.toNat_zero,Rc,Ql (l:=l.drop (t+1)) (by simp)]
def Na (hn:l.Nodup)(hc:c∈l):(J0 l c).length+1=l.length:=by have b:=nI hc;rw[<-BJ hn hc];simp;omega
def gV {b:Nat}:b∈J0 l c↔b∈l/\b≠c:=by unfold J0;simp
def paI (S N:Sx.Rows)(i g:Int):Int:=atF S (cI N (atF S i g) 7) (cI N (atF S i g) 8)
def paL (S N:Sx.Rows)(i g:Int):Sx.Rows:=cL N (paI S N i g) 9
def deL (S N:Sx.Rows)(i g:Int):Sx.Rows:=pQ (b8 2 0 []++paL S N i g) 0 (plF (paL S N i g) i g)++pQ (b8 2 0 []++paL S N i g) (plF (paL S N i g) i g+1) (ln (paL S N i g)-(plF (paL S N i g) i g+1))
structure MvH (S N:Sx.Rows)(fr lv i g x y:Int)(cs:Ak):Prop where
 hp:∃D K,RlC D S N fr lv cs/\WF D K
 hv:v9 S i g=true
 hn:¬(cI N (atF S i g) 7=0/\cI N (atF S i g) 8=0)
 hx:(x=0/\y=0)\/v9 S x y=true
 hi:U32 i
 hg:U32 g
 ux:U32 x
 uy:U32 y
def MvH.facts (h:MvH S N fr lv i g x y cs)(z:RlC D S N fr lv cs)(A:WF D K):∃(c q:Nat) (a:Int) (d:Sl),D.at i g=some c/\D.opt x y=some a/\(D.nod c).par=q/\D.at (cI N (atF S i g) 7) (cI N (atF S i g) 8)=some q/\D.L[q]? =some d/\d.used=true/\c∈d.n.ch/\d.n.ch.Nodup/\paL S N i g=d.n.ch.map (D9 D.gen)/\plF (paL S N i g) i g=(d.n.ch.idxOf c:Nat)/\deL S N i g=(J0 d.n.ch c).map (D9 D.gen)/\(a=c↔x=i/\y=g)/\i=c/\g=D.gen c/\cI N (atF S i g) 7=hI q/\cI N (atF S i g) 8=hG' D.gen q/\aZ D i g x y=if a=c\/(0<=a/\a.toNat∉d.n.ch)then(D,1)else(D.kids q c (Q7 (J0 d.n.ch c) c a) q 5,0):=by
 obtain⟨c,hk⟩:=z.1.vld.1 h.hv;obtain⟨a,f⟩:=z.1.opt h.hx;obtain⟨s,h1,h2,h3,h4,F,Y,Z,h8,H,u,W⟩:=z.1.flds hk;have o:(D.nod c).par≠ -1:=fun e=>by refine h.hn ?_;rw[H,u];exact(A.hI_zero h1 h2).2 (by rw[<-h3];exact e)
 obtain⟨q,d,w,Q,R,T,U,C,E,X,V,r,J,M,O,P⟩:=z.1.par A hk o;have p1:paL S N i g=d.n.ch.map (D9 D.gen):=V;refine⟨c,q,a,d,hk,f,w,Q,R,T,C,E,p1,by rw[p1,r],?_,?_,h4,by rw[Rs h1,F],by rw[H,<-h3,w],by rw[u,<-h3,w],?_⟩;unfold deL;rw[p1,r];exact JL E C rfl (by simp[ln])
 ·unfold DM.opt at f;have hg:=A.u32 hk;by_cases e:x=0/\y=0;rw[PG e]at f;cases f;constructor;intro h;omega;rintro ⟨rfl,rfl⟩;omega
  ·rw[PE e]at f;cases v:D.at x y with
   |none=>rw[v]at f;cases f
   |some b=>
    rw[v]at f;cases f;constructor
    ·intro h;have:b=c:=by omega
     subst this;obtain⟨s1,I,q2,rfl,rfl⟩:=Rr v;rw[h1]at I;cases I;exact⟨h4.symm,F⟩
    rintro ⟨rfl,rfl⟩;rw[hk]at v;cases v;rfl
 unfold aZ;rw[hk,f];simp only;rw[PE o,w,Qd,U]
def MvH.good (h:MvH S N fr lv i g x y [c0,c1,c2,c3,c4,c5,c6,c7])(Q:¬(x=i/\y=g))(E:¬plF (paL S N i g) x y<0):ln (deL S N i g)=plF (paL S N i g) i g+(ln (paL S N i g)-(plF (paL S N i g) i g+1))/\0<=plF (deL S N i g) x y/\plF (deL S N i g) x y<=ln (deL S N i g)/\ ∀n q:Int,n=ln (deL S N i g)-plF (deL S N i g) x y->q=ln (deL S N i g)+1->cD (.int i::.int g::.int x::.int y::JD S fr lv c0 c1 c2 c3 c4 c5 c6 c7 st N) (.int 0::.lst S::J10 fr lv c0 c1 c2 c3 c4 (c5+1) c6 c7 [.lst st,.lst (a8 (a8 (a8 N (paI S N i g) 9 (.lst (pQ ((pQ (deL S N i g) 0 (plF (deL S N i g) x y)++b8 2 1 [.int i,.int g])++pQ (deL S N i g) (plF (deL S N i g) x y) n) 0 q))) (atF S i g) 7 (.int (cI N (atF S i g) 7))) (atF S i g) 8 (.int (cI N (atF S i g) 8)))]):=by
 have H:∀ {D K},RlC D S N fr lv [c0,c1,c2,c3,c4,c5,c6,c7]->WF D K-> ∃(c q:Nat) (a:Int) (b:Sl),D.at i g=some c/\D.at (cI N (atF S i g) 7) (cI N (atF S i g) 8)=some q/\i=c/\g=D.gen c/\cI N (atF S i g) 7=hI q/\cI N (atF S i g) 8=hG' D.gen q/\deL S N i g=(J0 b.n.ch c).map (D9 D.gen)/\aZ D i g x y=(D.kids q c (Q7 (J0 b.n.ch c) c a) q 5,0)/\ ¬plF (deL S N i g) x y<0/\plF (deL S N i g) x y<=(J0 b.n.ch c).length/\(J0 b.n.ch c).take (plF (deL S N i g) x y).toNat++ [c]++(J0 b.n.ch c).drop (plF (deL S N i g) x y).toNat=Q7 (J0 b.n.ch c) c a:=by
  intro D K o r;obtain⟨c,q,a,b,U,M,f3,V,f5,f6,W,I,O,s,d,u,v,w,z,A,C⟩:=h.facts o r;have P:a≠c:=fun e=>Q (u.1 e);rw[O]at E;have h1:¬(0<=a/\a.toNat∉b.n.ch):=fun h=>E ((cH I M).1.2 h);have pp:=cH (l:=J0 b.n.ch c) (I.filter _) M;rw[<-d]at pp;have h2:¬plF (deL S N i g) x y<0:=fun h=>by have:=pp.1.1 h;rw[gV]at this;exact h1 ⟨this.1,fun hm=>this.2 ⟨hm,by omega⟩⟩
  exact⟨c,q,a,b,U,V,v,w,z,A,d,by rw[C,PE (fun h=>h.elim P h1)],h2,(pp.2 h2).1,(pp.2 h2).2 c⟩
 obtain⟨D,K,o,r⟩:=h.hp;obtain⟨c,q,a,b,U,M,f3,V,f5,f6,W,I,O,s,d,u,v,w,z,A,C⟩:=h.facts o r;obtain⟨c',q',a',T,k1,k2,k3,X,Y,Z,J,R,k9,f,F⟩:=H o r;have L:ln (deL S N i g)=((J0 T.n.ch c').length:Int):=by rw[J];simp[ln]
 refine⟨?_,by omega,by rw[L];exact f,fun n q hn hq=>?_⟩
 ·have e2:ln (deL S N i g)=((J0 b.n.ch c).length:Int):=by rw[d];simp[ln]
  have e3:ln (paL S N i g)=(b.n.ch.length:Int):=by rw[O];simp[ln]
  have:=Na I W;rw[e2,e3,s];omega
 ·refine AH (k:=5) (fun D K o r=>?_) h.hp rfl;obtain⟨c,q',a,b,k1,k2,k3,X,Y,Z,J,R,k9,f,F⟩:=H o r;have L:ln (deL S N i g)=((J0 b.n.ch c).length:Int):=by rw[J];simp[ln]
  rw[L]at hn hq;refine⟨q',c,Q7 (J0 b.n.ch c) c a,q',k2,k1,by rw[R],by rw[R],?_,Y,Z⟩;rw[<-F];rw[<-Dd (G:=D.gen) (c:=c) (by omega) f hn hq,<-J,<-k3,<-X]
def vcMov1_ok (h:MvH S N fr lv i g x y [c0,c1,c2,c3,c4,c5,c6,c7])(hb:(x=i/\y=g)\/plF (paL S N i g) x y<0):vcMov1 S i g x y fr lv c0 c1 c2 c3 c4 c5 c6 c7 st N:=by unfold vcMov1;refine nin (nrn (ndt (C8 fun D K C E=>?_)));obtain⟨c,q,a,O,F,w,H,I,J,L,M,z,A,f,o,b,r,s,u,v,d⟩:=h.facts C E;rw[d,PG];exact⟨rfl,rfl⟩;rcases hb with e|e;exact .inl (b.2 e);rw[A]at e;exact .inr ((cH z w).1.1 e)
def MvH.spots (h:MvH S N fr lv i g x y [c0,c1,c2,c3,c4,c5,c6,c7]):S.length<=1000/\0<=atF S i g/\atF S i g<N.length/\0<=paI S N i g/\paI S N i g<N.length/\U32 (cI N (atF S i g) 7)/\U32 (cI N (atF S i g) 8)/\(paL S N i g).length<=1000/\0<ln (paL S N i g)/\0<=plF (paL S N i g) i g/\plF (paL S N i g) i g<ln (paL S N i g)/\I64 (c5+1):=by
 obtain⟨D,K,b,d⟩:=h.hp;obtain⟨c,q,a,Q,o,T,U,e,H,I,J,V,f,r,v,w,z,A,C,E,F⟩:=h.facts b d;obtain⟨s,h1,h2,h3,h4,W,L,M,_⟩:=b.1.flds o;obtain⟨s',k1,k2,k3,Y,Z,O,P,_⟩:=b.1.flds e;have X:=nI J;have u:=d.u32 e;have R:ln (paL S N i g)=(Q.n.ch.length:Int):=by rw[f];simp[ln]
 refine⟨b.1.slen d,L,M,O,P,u.1,u.2.1,by rw[f,PD];exact d.kidlen H I,by omega,by omega,by omega,d.i64 (k:=5) (by rw[<-b.2];rfl)⟩
def Ko (A B:Sx.Rows):ln (A++B)=ln A+ln B:=by simp[ln]
def vcMov6_ok (h:MvH S N fr lv i g x y [c0,c1,c2,c3,c4,c5,c6,c7])(e:¬(x=i/\y=g))(v:¬plF (paL S N i g) x y<0)(h0:¬(x=0/\y=0)):vcMov6 N (paI S N i g) (plF (paL S N i g) i g) x y S (atF S i g) fr lv c0 c1 c2 c3 c4 c5 c6 c7 st i g:=by
 obtain⟨s1,s2,E,F,H,T,U,X,Y,P,Q,z⟩:=h.spots;obtain⟨L,M,W,O⟩:=h.good (st:=st) e v;have A:plF (deL S N i g) x y=ixF (deL S N i g) x y 0:=by unfold plF;rw[PE h0]
 unfold vcMov6;intro k hk;have u:pQ (b8 2 0 []++cL N (paI S N i g) 9) 0 (plF (paL S N i g) i g)++pQ (b8 2 0 []++cL N (paI S N i g) 9) (plF (paL S N i g) i g+1) (ln (cL N (paI S N i g) 9)-(plF (paL S N i g) i g+1))=deL S N i g:=rfl;have V:cL N (paI S N i g) 9=paL S N i g:=rfl;have I:plF (paL S N i g) i g+(ln (cL N (paI S N i g) 9)-(plF (paL S N i g) i g+1))=ln (deL S N i g):=L.symm;have R:ln (paL S N i g)<=1000:=by simp only[ln];omega
 rw[u]at hk;rw[<-Ko,u,I];obtain⟨k0,k1,k2⟩:=hk;have f:∀d:k<ln (deL S N i g),(¬x=cI (deL S N i g) k 0\/ ¬y=cI (deL S N i g) k 1)->vcMov5 k N (paI S N i g) (plF (paL S N i g) i g) x y:=by
  intro d e;have d:k<((deL S N i g).length:Int):=d;obtain⟨r,r1,w⟩:=W3 k0 d;unfold vcMov5;rw[u];have C:ln (deL S N i g)<=1000:=by omega
  have C:((deL S N i g).length:Int)<=1000:=C;refine ndi (by unfold I64;omega) (ndi ⟨by omega,by omega,?_⟩ (ndt ?_));rw[k2,r1];simp only[cI,w]at e;rw[eN,PE (by rintro ⟨a,b⟩;rcases e with h|h;exact h a.symm;exact h b.symm)];simp only[xC,A7];omega
 refine⟨fun d=>ndi (by omega) (ndi d (ndi d ⟨fun o=>⟨fun s=>?_,fun s=>f d (.inr s)⟩,fun o=>f d (.inl o)⟩)),fun d=>?_⟩
 ·have J:plF (deL S N i g) x y=k:=by obtain⟨r,r1,w⟩:=W3 k0 d;simp only[cI,w]at o s;rw[A,k2,r1,eN,PG ⟨o.symm,s.symm⟩]
  subst J;refine ndi (by omega) (ndi (by omega) (ndi (by omega) (ndi (by omega) (E2 ⟨T,U,s1⟩ (E2 ⟨h.hi,h.hg,s1⟩ (C0 F H (C0 s2 E (ndi (Int.not_lt.2 F) (ndi ?_ (ndi H (C0 s2 E (ndi z (nin (nrn (ndt (O _ _ rfl rfl))))))))))))))));simp only[pQ,ln,PW,Qo];simp only[ln]at d;omega
 rw[A,k2,GX (List.drop_eq_nil_of_le (by simp only[ln]at d;omega))]at M;omega
def vcMov2_ok (h:MvH S N fr lv i g x y [c0,c1,c2,c3,c4,c5,c6,c7])(o:¬(x=i/\y=g))(ex:x=0)(w:y=0):vcMov2 S i g fr lv c0 c1 c2 c3 c4 c5 c6 c7 st N x y:=by
 obtain⟨s1,s2,d,e,f,u,v,A,C,L,M,r⟩:=h.spots;have O:ln (paL S N i g)<=1000:=by simp only[ln];omega
 have s:ln (paL S N i g)<67108865:=by omega
 unfold vcMov2;refine E2 ⟨h.hi,h.hg,s1⟩ (C0 s2 d (E2 ⟨u,v,s1⟩ (eC ⟨h.ux,h.uy,e,f,A⟩ ⟨fun hl=>vcMov1_ok h (.inr hl),fun hl=>E2 ⟨h.hi,h.hg,s1⟩ (C0 s2 d (E2 ⟨h.hi,h.hg,s1⟩ (C0 s2 d (E2 ⟨u,v,s1⟩ (eC ⟨h.hi,h.hg,e,f,A⟩ (C0 e f fun b=>⟨fun hb h0=>absurd h0 (Int.ne_of_gt C),fun hb=>ndi s ⟨fun h0=>?_,fun h0=>absurd C h0⟩⟩))))))⟩)));obtain⟨J,P,Q,z⟩:=h.good (st:=st) o hl;have E:pQ (b8 2 0 []++cL N (atF S (cI N (atF S i g) 7) (cI N (atF S i g) 8)) 9) 0 (plF (cL N (atF S (cI N (atF S i g) 7) (cI N (atF S i g) 8)) 9) i g)++pQ (b8 2 0 []++cL N (atF S (cI N (atF S i g) 7) (cI N (atF S i g) 8)) 9) (plF (cL N (atF S (cI N (atF S i g) 7) (cI N (atF S i g) 8)) 9) i g+1) (ln (cL N (atF S (cI N (atF S i g) 7) (cI N (atF S i g) 8)) 9)-(plF (cL N (atF S (cI N (atF S i g) 7) (cI N (atF S i g) 8)) 9) i g+1))=deL S N i g:=rfl;have F:plF (cL N (atF S (cI N (atF S i g) 7) (cI N (atF S i g) 8)) 9) i g+(ln (cL N (atF S (cI N (atF S i g) 7) (cI N (atF S i g) 8)) 9)-(plF (cL N (atF S (cI N (atF S i g) 7) (cI N (atF S i g) 8)) 9) i g+1))=ln (deL S N i g):=J.symm;rw[<-Ko,E,F];have H:cL N (atF S (cI N (atF S i g) 7) (cI N (atF S i g) 8)) 9=paL S N i g:=rfl;rw[H];have I:plF (deL S N i g) x y=ln (deL S N i g):=by unfold plF;rw[PG ⟨ex,w⟩]
 rw[I]at z;refine ndi (by unfold I64;omega) (nin (ndi (by omega) (ndi (by omega) (ndi (by omega) (ndi ex (ndi w (nin (ndi (by omega) (nin (ndi (by omega) (E2 ⟨u,v,s1⟩ (E2 ⟨h.hi,h.hg,s1⟩ (C0 e f (C0 s2 d (ndi (Int.not_lt.2 e) (ndi ?_ (ndi f (C0 s2 d (ndi r (nin (nrn (ndt (z _ _ rfl rfl)))))))))))))))))))))));simp only[pQ,ln,PW,Qo];omega
def vcMov7_ok (h:MvH S N fr lv i g x y [c0,c1,c2,c3,c4,c5,c6,c7])(d:¬(x=i/\y=g))(ex:x=0)(u:¬y=0):vcMov7 S i g fr lv c0 c1 c2 c3 c4 c5 c6 c7 st N x y:=by
 obtain⟨s1,s2,o,r,s,v,w,z,A,E,F,H⟩:=h.spots;have I:ln (paL S N i g)<=1000:=by simp only[ln];omega
 have f:ln (paL S N i g)<67108865:=by omega
 unfold vcMov7;refine E2 ⟨h.hi,h.hg,s1⟩ (C0 s2 o (E2 ⟨v,w,s1⟩ (eC ⟨h.ux,h.uy,r,s,z⟩ ⟨fun hl=>vcMov1_ok h (.inr hl),fun hl=>E2 ⟨h.hi,h.hg,s1⟩ (C0 s2 o (E2 ⟨h.hi,h.hg,s1⟩ (C0 s2 o (E2 ⟨v,w,s1⟩ (eC ⟨h.hi,h.hg,r,s,z⟩ (C0 r s fun b=>⟨fun hb h0=>absurd h0 (Int.ne_of_gt A),fun hb=>ndi f ⟨fun h0=>?_,fun h0=>absurd A h0⟩⟩))))))⟩)));have C:cL N (atF S (cI N (atF S i g) 7) (cI N (atF S i g) 8)) 9=paL S N i g:=rfl;rw[C];exact ndi (by unfold I64;omega) (nin (ndi (by omega) (ndi (by omega) (ndi (by omega) (ndi ex (ndi u (ndi ⟨by omega,by omega,rfl⟩ (vcMov6_ok h d hl fun e=>u e.2))))))))
def vcMov9_ok (h:MvH S N fr lv i g x y [c0,c1,c2,c3,c4,c5,c6,c7])(d:¬(x=i/\y=g))(ex:¬x=0):vcMov9 S i g fr lv c0 c1 c2 c3 c4 c5 c6 c7 st N x y:=by
 obtain⟨s1,s2,o,r,s,u,v,w,z,C,E,F⟩:=h.spots;have H:ln (paL S N i g)<=1000:=by simp only[ln];omega
 have f:ln (paL S N i g)<67108865:=by omega
 unfold vcMov9;refine E2 ⟨h.hi,h.hg,s1⟩ (C0 s2 o (E2 ⟨u,v,s1⟩ (eC ⟨h.ux,h.uy,r,s,w⟩ ⟨fun hl=>vcMov1_ok h (.inr hl),fun hl=>E2 ⟨h.hi,h.hg,s1⟩ (C0 s2 o (E2 ⟨h.hi,h.hg,s1⟩ (C0 s2 o (E2 ⟨u,v,s1⟩ (eC ⟨h.hi,h.hg,r,s,w⟩ (C0 r s fun b=>⟨fun hb h0=>absurd h0 (Int.ne_of_gt z),fun hb=>ndi f ⟨fun h0=>?_,fun h0=>absurd z h0⟩⟩))))))⟩)));have A:cL N (atF S (cI N (atF S i g) 7) (cI N (atF S i g) 8)) 9=paL S N i g:=rfl;rw[A];exact ndi (by unfold I64;omega) (nin (ndi (by omega) (ndi (by omega) (ndi (by omega) (ndi ex (ndi ⟨by omega,by omega,rfl⟩ (vcMov6_ok h d hl fun e=>ex e.1)))))))
theorem vcMov4_ok (h:v9 S i g=false\/(¬(x=0/\y=0)/\v9 S x y=false)):vcMov4 S i g x y fr lv c0 c1 c2 c3 c4 c5 c6 c7 st N:=by
 unfold vcMov4;refine nin (nrn (ndt (C8 fun D K b d=>?_)));have:aZ D i g x y=(D,11):=by
  unfold aZ;rcases h with h| ⟨h,h2⟩;rw[b.1.none (by simp[h])]
  ·have:D.opt x y=none:=by unfold DM.opt;rw[PE h,b.1.none (i:=x) (by simp[h2])]
   rw[this];split<;>simp_all
 rw[this];exact⟨rfl,rfl⟩
def vcMov0_ok (h0:∃D K,RlC D S N fr lv [c0,c1,c2,c3,c4,c5,c6,c7]/\WF D K)(hv:v9 S i g=true)(hx:(x=0/\y=0)\/v9 S x y=true)(f:cI N (atF S i g) 7=0)(h:cI N (atF S i g) 8=0):vcMov0 S i g x y fr lv c0 c1 c2 c3 c4 c5 c6 c7 st N:=by unfold vcMov0;refine nin (nrn (ndt (C8 fun D K d o=>?_)));obtain⟨c,hk⟩:=d.1.vld.1 hv;obtain⟨a,r⟩:=d.1.opt hx;obtain⟨s,h1,h2,h3,h4,u,v,w,e,b,h12,_⟩:=d.1.flds hk;unfold aZ;rw[hk,r];simp only;rw[PG (by rw[h3];exact(o.hI_zero h1 h2).1 ⟨b.symm.trans f,h12.symm.trans h⟩)];exact⟨rfl,rfl⟩
def vcMov_ok :vcMov:=by
 unfold vcMov;intro i g x y S fr lv c0 c1 c2 c3 c4 c5 c6 c7 st N h;obtain⟨hi,hg,ux,uy,hp⟩:=h;have hp':=hp;obtain⟨D,K,⟨C,hc⟩,M⟩:=hp;have d:=C.slen M;have mk:v9 S i g=true->(x=0/\y=0)\/v9 S x y=true-> ¬(cI N (atF S i g) 7=0/\cI N (atF S i g) 8=0)->MvH S N fr lv i g x y [c0,c1,c2,c3,c4,c5,c6,c7]:=fun hv hx hn=>⟨hp',hv,hn,hx,hi,hg,ux,uy⟩
 have at_:v9 S i g=true->0<=atF S i g/\atF S i g<N.length:=fun hv=>by obtain⟨c,hk⟩:=C.vld.1 hv;obtain⟨s,h1,h2,h3,h4,O,J,L,_⟩:=C.flds hk;exact⟨J,L⟩
 have F:x=0->y=0->v9 S i g=true-> ¬(cI N (atF S i g) 7=0/\cI N (atF S i g) 8=0)->vcMov3 x i y g S fr lv c0 c1 c2 c3 c4 c5 c6 c7 st N:=fun ex o hv hn=>by have H:=mk hv (.inl ⟨ex,o⟩) hn;unfold vcMov3;exact⟨fun r=>⟨fun u=>vcMov1_ok H (.inl ⟨r,u⟩),fun u=>vcMov2_ok H (fun e=>u e.2) ex o⟩,fun r=>vcMov2_ok H (fun e=>r e.1) ex o⟩
 have I:x=0-> ¬y=0->v9 S i g=true->v9 S x y=true-> ¬(cI N (atF S i g) 7=0/\cI N (atF S i g) 8=0)->vcMov8 x i y g S fr lv c0 c1 c2 c3 c4 c5 c6 c7 st N:=fun ex o hv E hn=>by have H:=mk hv (.inr E) hn;unfold vcMov8;exact⟨fun r=>⟨fun u=>vcMov1_ok H (.inl ⟨r,u⟩),fun u=>vcMov7_ok H (fun e=>u e.2) ex o⟩,fun r=>vcMov7_ok H (fun e=>r e.1) ex o⟩
 have A:¬x=0->v9 S i g=true->v9 S x y=true-> ¬(cI N (atF S i g) 7=0/\cI N (atF S i g) 8=0)->vcMov10 x i y g S fr lv c0 c1 c2 c3 c4 c5 c6 c7 st N:=fun ex hv E hn=>by have H:=mk hv (.inr E) hn;unfold vcMov10;exact⟨fun r=>⟨fun u=>vcMov1_ok H (.inl ⟨r,u⟩),fun u=>vcMov9_ok H (fun e=>u e.2) ex⟩,fun r=>vcMov9_ok H (fun e=>r e.1) ex⟩
 have no:∀ {b:Bool},¬b=true->b=false:=by simp
 refine⟨fun ex=>⟨fun o=>U3 ⟨hi,hg,d⟩ ⟨fun f=>E2 ⟨hi,hg,d⟩ (C0 (at_ f).1 (at_ f).2 ⟨fun v=>⟨fun w=>vcMov0_ok hp' f (.inl ⟨ex,o⟩) v w,fun w=>F ex o f fun e=>w e.2⟩,fun v=>F ex o f fun e=>v e.1⟩),fun f=>vcMov4_ok (.inl (no f))⟩,fun o=>U3 ⟨hi,hg,d⟩ ⟨fun f=>U3 ⟨ux,uy,d⟩ ⟨fun z=>E2 ⟨hi,hg,d⟩ (C0 (at_ f).1 (at_ f).2 ⟨fun v=>⟨fun w=>vcMov0_ok hp' f (.inr z) v w,fun w=>I ex o f z fun e=>w e.2⟩,fun v=>I ex o f z fun e=>v e.1⟩),fun z=>vcMov4_ok (.inr ⟨fun e=>o e.2,no z⟩)⟩,fun f=>vcMov4_ok (.inl (no f))⟩⟩,fun ex=>U3 ⟨hi,hg,d⟩ ⟨fun f=>U3 ⟨ux,uy,d⟩ ⟨fun z=>E2 ⟨hi,hg,d⟩ (C0 (at_ f).1 (at_ f).2 ⟨fun v=>⟨fun w=>vcMov0_ok hp' f (.inr z) v w,fun w=>A ex f z fun e=>w e.2⟩,fun v=>A ex f z fun e=>v e.1⟩),fun z=>vcMov4_ok (.inr ⟨fun e=>ex e.1,no z⟩)⟩,fun f=>vcMov4_ok (.inl (no f))⟩⟩
