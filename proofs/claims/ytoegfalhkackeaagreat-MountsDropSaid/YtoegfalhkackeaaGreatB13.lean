/- The DOM: Move: the condition holds.
  Conditions: none. -/
import Derived.Test.YtoegfalhkackeaaGreatB9
set_option maxRecDepth 100000
set_option linter.all false
noncomputable section
namespace Go.D
open Go Go.Xe Go.Sx
section
variable {D :DM}{S N S' N' st B:a8}{fr lv i g j m x y c0 c1 c2 c3 c4 c5 c6 c7:Int}{K c p k:Nat}{G:Nat->Nat}{cs:Ak}{Lr:a8}{l:Ah}{t a n q:Int}
def LL (hn:l.Nodup)(hc:c∈l)(ht:t=(l.idxOf c:Nat))(he:n=(l.length:Int)-(t+1)):pQ (l.map (B2 G)) 0 t++pQ (l.map (B2 G)) (t+1) n=(I7 l c).map (B2 G):=by
 have e:=oW hc;subst ht he;rw[O9,O9,<-TQ,<-CN hn hc];congr 1;generalize l.idxOf c=t at*;have b:((t:Int)+1).toNat=t+1:=by omega
 have d:((l.length:Int)-((t:Int)+1)).toNat=l.length-(t+1):=by omega
 rw[b,d,TK,Int.toNat_zero,UK,TT (l:=l.drop (t+1)) (by simp)]
def PF (hn:l.Nodup)(hc:c∈l):(I7 l c).length+1=l.length:=by have b:=oW hc;rw[<-CN hn hc];simp;omega
def jF {b:Nat}:b∈I7 l c↔b∈l/\b≠c:=by unfold I7;simp
def paI (S N:a8)(i g:Int):Int:=atF S (cI N (atF S i g) 7) (cI N (atF S i g) 8)
def paL (S N:a8)(i g:Int):a8:=cL N (paI S N i g) 9
def deL (S N:a8)(i g:Int):a8:=pQ (b8 2 0 []++paL S N i g) 0 (plF (paL S N i g) i g)++pQ (b8 2 0 []++paL S N i g) (plF (paL S N i g) i g+1) (ln (paL S N i g)-(plF (paL S N i g) i g+1))
structure MvH (S N:a8)(fr lv i g x y:Int)(cs:Ak):Prop where
 hp:∃D K,RlC D S N fr lv cs/\WF D K
 hv:t9 S i g=true
 hn:¬(cI N (atF S i g) 7=0/\cI N (atF S i g) 8=0)
 hx:(x=0/\y=0)\/t9 S x y=true
 hi:U32 i
 hg:U32 g
 ux:U32 x
 uy:U32 y
def MvH.facts (h:MvH S N fr lv i g x y cs)(z:RlC D S N fr lv cs)(A:WF D K):∃(c q:Nat) (a:Int) (d:Sl),D.at i g=some c/\D.opt x y=some a/\(D.nod c).par=q/\D.at (cI N (atF S i g) 7) (cI N (atF S i g) 8)=some q/\D.L[q]? =some d/\d.used=true/\c∈d.n.ch/\d.n.ch.Nodup/\paL S N i g=d.n.ch.map (B2 D.gen)/\plF (paL S N i g) i g=(d.n.ch.idxOf c:Nat)/\deL S N i g=(I7 d.n.ch c).map (B2 D.gen)/\(a=c↔x=i/\y=g)/\i=c/\g=D.gen c/\cI N (atF S i g) 7=hI q/\cI N (atF S i g) 8=hG' D.gen q/\cN D i g x y=if a=c\/(0<=a/\a.toNat∉d.n.ch)then(D,1)else(D.kids q c (S4 (I7 d.n.ch c) c a) q 5,0):=by
 obtain⟨c,hk⟩:=z.1.vld.1 h.hv;obtain⟨a,f⟩:=z.1.opt h.hx;obtain⟨s,h1,h2,h3,h4,F,Y,Z,h8,H,u,W⟩:=z.1.flds hk;have o:(D.nod c).par≠ -1:=λe=>by refine h.hn ?_;rw[H,u];exact(A.hI_zero h1 h2).2 (by rw[<-h3];exact e)
 obtain⟨q,d,w,Q,R,T,U,C,E,X,V,r,J,M,O,P⟩:=z.1.par A hk o;have p1:paL S N i g=d.n.ch.map (B2 D.gen):=V;refine⟨c,q,a,d,hk,f,w,Q,R,T,C,E,p1,by rw[p1,r],?_,?_,h4,by rw[UY h1,F],by rw[H,<-h3,w],by rw[u,<-h3,w],?_⟩;unfold deL;rw[p1,r];exact LL E C rfl (by simp[ln])
 .unfold DM.opt at f;have hg:=A.u32 hk;by_cases e:x=0/\y=0;rw[Tp e]at f;cases f;constructor;intro h;omega;rintro ⟨rfl,rfl⟩;omega
  .rw[Tn e]at f;cases v:D.at x y with
   |none=>rw[v]at f;cases f
   |some b=>
    rw[v]at f;cases f;constructor
    .intro h;have:b=c:=by omega
     subst this;obtain⟨s1,I,q2,rfl,rfl⟩:=UW v;rw[h1]at I;cases I;exact⟨h4.symm,F⟩
    rintro ⟨rfl,rfl⟩;rw[hk]at v;cases v;rfl
 unfold cN;rw[hk,f];simp only;rw[Tn o,w,TK,U]
def MvH.good (h:MvH S N fr lv i g x y [c0,c1,c2,c3,c4,c5,c6,c7])(Q:¬(x=i/\y=g))(E:¬plF (paL S N i g) x y<0):ln (deL S N i g)=plF (paL S N i g) i g+(ln (paL S N i g)-(plF (paL S N i g) i g+1))/\0<=plF (deL S N i g) x y/\plF (deL S N i g) x y<=ln (deL S N i g)/\ ∀n q:Int,n=ln (deL S N i g)-plF (deL S N i g) x y->q=ln (deL S N i g)+1->dO (.i i::.i g::.i x::.i y::JD S fr lv c0 c1 c2 c3 c4 c5 c6 c7 st N) (.i 0::.l S::J10 fr lv c0 c1 c2 c3 c4 (c5+1) c6 c7 [.l st,.l (a9 (a9 (a9 N (paI S N i g) 9 (.l (pQ ((pQ (deL S N i g) 0 (plF (deL S N i g) x y)++b8 2 1 [.i i,.i g])++pQ (deL S N i g) (plF (deL S N i g) x y) n) 0 q))) (atF S i g) 7 (.i (cI N (atF S i g) 7))) (atF S i g) 8 (.i (cI N (atF S i g) 8)))]):=by
 have H:∀ {D K},RlC D S N fr lv [c0,c1,c2,c3,c4,c5,c6,c7]->WF D K-> ∃(c q:Nat) (a:Int) (b:Sl),D.at i g=some c/\D.at (cI N (atF S i g) 7) (cI N (atF S i g) 8)=some q/\i=c/\g=D.gen c/\cI N (atF S i g) 7=hI q/\cI N (atF S i g) 8=hG' D.gen q/\deL S N i g=(I7 b.n.ch c).map (B2 D.gen)/\cN D i g x y=(D.kids q c (S4 (I7 b.n.ch c) c a) q 5,0)/\ ¬plF (deL S N i g) x y<0/\plF (deL S N i g) x y<=(I7 b.n.ch c).length/\(I7 b.n.ch c).take (plF (deL S N i g) x y).toNat++ [c]++(I7 b.n.ch c).drop (plF (deL S N i g) x y).toNat=S4 (I7 b.n.ch c) c a:=by
  intro D K o r;obtain⟨c,q,a,b,U,M,f3,V,f5,f6,W,I,O,s,d,u,v,w,z,A,C⟩:=h.facts o r;have P:a≠c:=λe=>Q (u.1 e);rw[O]at E;have h1:¬(0<=a/\a.toNat∉b.n.ch):=λh=>E ((dR I M).1.2 h);have pp:=dR (l:=I7 b.n.ch c) (I.filter _) M;rw[<-d]at pp;have h2:¬plF (deL S N i g) x y<0:=λh=>by have:=pp.1.1 h;rw[jF]at this;exact h1 ⟨this.1,λhm=>this.2 ⟨hm,by omega⟩⟩
  exact⟨c,q,a,b,U,V,v,w,z,A,d,by rw[C,Tn (λh=>h.elim P h1)],h2,(pp.2 h2).1,(pp.2 h2).2 c⟩
 obtain⟨D,K,o,r⟩:=h.hp;obtain⟨c,q,a,b,U,M,f3,V,f5,f6,W,I,O,s,d,u,v,w,z,A,C⟩:=h.facts o r;obtain⟨c',q',a',T,k1,k2,k3,k4,X,Y,J,R,k9,f,F⟩:=H o r;have L:ln (deL S N i g)=((I7 T.n.ch c').length:Int):=by rw[J];simp[ln]
 refine⟨?_,by omega,by rw[L];exact f,λn q hn hq=>?_⟩
 .have Z:ln (deL S N i g)=((I7 b.n.ch c).length:Int):=by rw[d];simp[ln]
  have e3:ln (paL S N i g)=(b.n.ch.length:Int):=by rw[O];simp[ln]
  have:=PF I W;rw[Z,e3,s];omega
 .refine BY (k:=5) (λD K o r=>?_) h.hp rfl;obtain⟨c,q',a,b,k1,k2,k3,k4,X,Y,J,R,k9,f,F⟩:=H o r;have L:ln (deL S N i g)=((I7 b.n.ch c).length:Int):=by rw[J];simp[ln]
  rw[L]at hn hq;refine⟨q',c,S4 (I7 b.n.ch c) c a,q',k2,k1,by rw[R],by rw[R],?_,X,Y⟩;rw[<-F];rw[<-El (G:=D.gen) (c:=c) (by omega) f hn hq,<-J,<-k3,<-k4]
def cr (h:MvH S N fr lv i g x y [c0,c1,c2,c3,c4,c5,c6,c7])(hb:(x=i/\y=g)\/plF (paL S N i g) x y<0):di S i g x y fr lv c0 c1 c2 c3 c4 c5 c6 c7 st N:=by unfold di;refine nin (nrn (ndt (D2 λD K C E=>?_)));obtain⟨c,q,a,O,F,w,H,I,J,L,M,z,A,f,o,b,r,s,u,v,d⟩:=h.facts C E;rw[d,Tp];exact⟨rfl,rfl⟩;rcases hb with e|e;exact .inl (b.2 e);rw[A]at e;exact .inr ((dR z w).1.1 e)
def MvH.spots (h:MvH S N fr lv i g x y [c0,c1,c2,c3,c4,c5,c6,c7]):S.length<=1000/\0<=atF S i g/\atF S i g<N.length/\0<=paI S N i g/\paI S N i g<N.length/\U32 (cI N (atF S i g) 7)/\U32 (cI N (atF S i g) 8)/\(paL S N i g).length<=1000/\0<ln (paL S N i g)/\0<=plF (paL S N i g) i g/\plF (paL S N i g) i g<ln (paL S N i g)/\I64 (c5+1):=by
 obtain⟨D,K,b,d⟩:=h.hp;obtain⟨c,q,a,Q,o,T,U,e,H,I,J,V,f,r,v,w,z,A,C,E,F⟩:=h.facts b d;obtain⟨s,h1,h2,h3,h4,W,L,M,_⟩:=b.1.flds o;obtain⟨s',k1,k2,k3,k4,Y,O,P,_⟩:=b.1.flds e;have X:=oW J;have u:=d.u32 e;have R:ln (paL S N i g)=(Q.n.ch.length:Int):=by rw[f];simp[ln]
 refine⟨b.1.slen d,L,M,O,P,u.1,u.2.1,by rw[f,Tm];exact d.kidlen H I,by omega,by omega,by omega,d.i64 (k:=5) (by rw[<-b.2];rfl)⟩
def Mu (A B:a8):ln (A++B)=ln A+ln B:=by simp[ln]
def fy (h:MvH S N fr lv i g x y [c0,c1,c2,c3,c4,c5,c6,c7])(e:¬(x=i/\y=g))(v:¬plF (paL S N i g) x y<0)(h0:¬(x=0/\y=0)):jb N (paI S N i g) (plF (paL S N i g) i g) x y S (atF S i g) fr lv c0 c1 c2 c3 c4 c5 c6 c7 st i g:=by
 obtain⟨s1,s2,E,F,H,T,U,X,Y,P,Q,z⟩:=h.spots;obtain⟨L,M,W,O⟩:=h.good (st:=st) e v;have A:plF (deL S N i g) x y=ixF (deL S N i g) x y 0:=by unfold plF;rw[Tn h0]
 unfold jb;intro k hk;have u:pQ (b8 2 0 []++cL N (paI S N i g) 9) 0 (plF (paL S N i g) i g)++pQ (b8 2 0 []++cL N (paI S N i g) 9) (plF (paL S N i g) i g+1) (ln (cL N (paI S N i g) 9)-(plF (paL S N i g) i g+1))=deL S N i g:=rfl;have V:cL N (paI S N i g) 9=paL S N i g:=rfl;have I:plF (paL S N i g) i g+(ln (cL N (paI S N i g) 9)-(plF (paL S N i g) i g+1))=ln (deL S N i g):=L.symm;have R:ln (paL S N i g)<=1000:=by simp only[ln];omega
 rw[u]at hk;rw[<-Mu,u,I];obtain⟨k0,k1,k2⟩:=hk;have f:∀d:k<ln (deL S N i g),(¬x=cI (deL S N i g) k 0\/ ¬y=cI (deL S N i g) k 1)->jc k N (paI S N i g) (plF (paL S N i g) i g) x y:=by
  intro d e;have d:k<((deL S N i g).length:Int):=d;obtain⟨r,r1,w⟩:=cC k0 d;unfold jc;rw[u];have C:ln (deL S N i g)<=1000:=by omega
  have C:((deL S N i g).length:Int)<=1000:=C;refine ndi (by unfold I64;omega) (ndi ⟨by omega,by omega,?_⟩ (ndt ?_));rw[k2,r1];simp only[cI,w]at e;rw[gC,Tn (by rintro ⟨a,b⟩;rcases e with h|h;exact h a.symm;exact h b.symm)];simp only[zE,A2];omega
 refine⟨λd=>ndi (by omega) (ndi d (ndi d ⟨λo=>⟨λs=>?_,λs=>f d (.inr s)⟩,λo=>f d (.inl o)⟩)),λd=>?_⟩
 .have J:plF (deL S N i g) x y=k:=by obtain⟨r,r1,w⟩:=cC k0 d;simp only[cI,w]at o s;rw[A,k2,r1,gC,Tp ⟨o.symm,s.symm⟩]
  subst J;refine ndi (by omega) (ndi (by omega) (ndi (by omega) (ndi (by omega) (G0 ⟨T,U,s1⟩ (G0 ⟨h.hi,h.hg,s1⟩ (C8 F H (C8 s2 E (ndi (Int.not_lt.2 F) (ndi ?_ (ndi H (C8 s2 E (ndi z (nin (nrn (ndt (O _ _ rfl rfl))))))))))))))));simp only[pQ,ln,TE,TW];simp only[ln]at d;omega
 rw[A,k2,Il (List.drop_eq_nil_of_le (by simp only[ln]at d;omega))]at M;omega
def gf (h:MvH S N fr lv i g x y [c0,c1,c2,c3,c4,c5,c6,c7])(o:¬(x=i/\y=g))(ex:x=0)(w:y=0):je S i g fr lv c0 c1 c2 c3 c4 c5 c6 c7 st N x y:=by
 obtain⟨s1,s2,d,e,f,u,v,A,C,L,M,r⟩:=h.spots;have O:ln (paL S N i g)<=1000:=by simp only[ln];omega
 have s:ln (paL S N i g)<67108865:=by omega
 unfold je;refine G0 ⟨h.hi,h.hg,s1⟩ (C8 s2 d (G0 ⟨u,v,s1⟩ (fQ ⟨h.ux,h.uy,e,f,A⟩ ⟨λhl=>cr h (.inr hl),λhl=>G0 ⟨h.hi,h.hg,s1⟩ (C8 s2 d (G0 ⟨h.hi,h.hg,s1⟩ (C8 s2 d (G0 ⟨u,v,s1⟩ (fQ ⟨h.hi,h.hg,e,f,A⟩ (C8 e f λb=>⟨λhb h0=>absurd h0 (Int.ne_of_gt C),λhb=>ndi s ⟨λh0=>?_,λh0=>absurd C h0⟩⟩))))))⟩)));obtain⟨J,P,Q,z⟩:=h.good (st:=st) o hl;have E:pQ (b8 2 0 []++cL N (atF S (cI N (atF S i g) 7) (cI N (atF S i g) 8)) 9) 0 (plF (cL N (atF S (cI N (atF S i g) 7) (cI N (atF S i g) 8)) 9) i g)++pQ (b8 2 0 []++cL N (atF S (cI N (atF S i g) 7) (cI N (atF S i g) 8)) 9) (plF (cL N (atF S (cI N (atF S i g) 7) (cI N (atF S i g) 8)) 9) i g+1) (ln (cL N (atF S (cI N (atF S i g) 7) (cI N (atF S i g) 8)) 9)-(plF (cL N (atF S (cI N (atF S i g) 7) (cI N (atF S i g) 8)) 9) i g+1))=deL S N i g:=rfl;have F:plF (cL N (atF S (cI N (atF S i g) 7) (cI N (atF S i g) 8)) 9) i g+(ln (cL N (atF S (cI N (atF S i g) 7) (cI N (atF S i g) 8)) 9)-(plF (cL N (atF S (cI N (atF S i g) 7) (cI N (atF S i g) 8)) 9) i g+1))=ln (deL S N i g):=J.symm;rw[<-Mu,E,F];have H:cL N (atF S (cI N (atF S i g) 7) (cI N (atF S i g) 8)) 9=paL S N i g:=rfl;rw[H];have I:plF (deL S N i g) x y=ln (deL S N i g):=by unfold plF;rw[Tp ⟨ex,w⟩]
 rw[I]at z;refine ndi (by unfold I64;omega) (nin (ndi (by omega) (ndi (by omega) (ndi (by omega) (ndi ex (ndi w (nin (ndi (by omega) (nin (ndi (by omega) (G0 ⟨u,v,s1⟩ (G0 ⟨h.hi,h.hg,s1⟩ (C8 e f (C8 s2 d (ndi (Int.not_lt.2 e) (ndi ?_ (ndi f (C8 s2 d (ndi r (nin (nrn (ndt (z _ _ rfl rfl)))))))))))))))))))))));simp only[pQ,ln,TE,TW];omega
def fw (h:MvH S N fr lv i g x y [c0,c1,c2,c3,c4,c5,c6,c7])(d:¬(x=i/\y=g))(ex:x=0)(u:¬y=0):ja S i g fr lv c0 c1 c2 c3 c4 c5 c6 c7 st N x y:=by
 obtain⟨s1,s2,o,r,s,v,w,z,A,E,F,H⟩:=h.spots;have I:ln (paL S N i g)<=1000:=by simp only[ln];omega
 have f:ln (paL S N i g)<67108865:=by omega
 unfold ja;refine G0 ⟨h.hi,h.hg,s1⟩ (C8 s2 o (G0 ⟨v,w,s1⟩ (fQ ⟨h.ux,h.uy,r,s,z⟩ ⟨λhl=>cr h (.inr hl),λhl=>G0 ⟨h.hi,h.hg,s1⟩ (C8 s2 o (G0 ⟨h.hi,h.hg,s1⟩ (C8 s2 o (G0 ⟨v,w,s1⟩ (fQ ⟨h.hi,h.hg,r,s,z⟩ (C8 r s λb=>⟨λhb h0=>absurd h0 (Int.ne_of_gt A),λhb=>ndi f ⟨λh0=>?_,λh0=>absurd A h0⟩⟩))))))⟩)));have C:cL N (atF S (cI N (atF S i g) 7) (cI N (atF S i g) 8)) 9=paL S N i g:=rfl;rw[C];exact ndi (by unfold I64;omega) (nin (ndi (by omega) (ndi (by omega) (ndi (by omega) (ndi ex (ndi u (ndi ⟨by omega,by omega,rfl⟩ (fy h d hl λe=>u e.2))))))))
def fu (h:MvH S N fr lv i g x y [c0,c1,c2,c3,c4,c5,c6,c7])(d:¬(x=i/\y=g))(ex:¬x=0):iy S i g fr lv c0 c1 c2 c3 c4 c5 c6 c7 st N x y:=by
 obtain⟨s1,s2,o,r,s,u,v,w,z,C,E,F⟩:=h.spots;have H:ln (paL S N i g)<=1000:=by simp only[ln];omega
 have f:ln (paL S N i g)<67108865:=by omega
 unfold iy;refine G0 ⟨h.hi,h.hg,s1⟩ (C8 s2 o (G0 ⟨u,v,s1⟩ (fQ ⟨h.ux,h.uy,r,s,w⟩ ⟨λhl=>cr h (.inr hl),λhl=>G0 ⟨h.hi,h.hg,s1⟩ (C8 s2 o (G0 ⟨h.hi,h.hg,s1⟩ (C8 s2 o (G0 ⟨u,v,s1⟩ (fQ ⟨h.hi,h.hg,r,s,w⟩ (C8 r s λb=>⟨λhb h0=>absurd h0 (Int.ne_of_gt z),λhb=>ndi f ⟨λh0=>?_,λh0=>absurd z h0⟩⟩))))))⟩)));have A:cL N (atF S (cI N (atF S i g) 7) (cI N (atF S i g) 8)) 9=paL S N i g:=rfl;rw[A];exact ndi (by unfold I64;omega) (nin (ndi (by omega) (ndi (by omega) (ndi (by omega) (ndi ex (ndi ⟨by omega,by omega,rfl⟩ (fy h d hl λe=>ex e.1)))))))
theorem de (h:t9 S i g=false\/(¬(x=0/\y=0)/\t9 S x y=false)):dq S i g x y fr lv c0 c1 c2 c3 c4 c5 c6 c7 st N:=by
 unfold dq;refine nin (nrn (ndt (D2 λD K b d=>?_)));have:cN D i g x y=(D,11):=by
  unfold cN;rcases h with h| ⟨h,h2⟩;rw[b.1.none (by simp[h])]
  .have:D.opt x y=none:=by unfold DM.opt;rw[Tn h,b.1.none (i:=x) (by simp[h2])]
   rw[this];split<;>simp_all
 rw[this];exact⟨rfl,rfl⟩
def ef (h0:∃D K,RlC D S N fr lv [c0,c1,c2,c3,c4,c5,c6,c7]/\WF D K)(hv:t9 S i g=true)(hx:(x=0/\y=0)\/t9 S x y=true)(h:cI N (atF S i g) 7=0)(o:cI N (atF S i g) 8=0):fi S i g x y fr lv c0 c1 c2 c3 c4 c5 c6 c7 st N:=by unfold fi;refine nin (nrn (ndt (D2 λD K e r=>?_)));obtain⟨c,hk⟩:=e.1.vld.1 hv;obtain⟨a,u⟩:=e.1.opt hx;obtain⟨s,h1,h2,h3,h4,v,w,z,f,b,d,_⟩:=e.1.flds hk;unfold cN;rw[hk,u];simp only;rw[Tp (by rw[h3];exact(r.hI_zero h1 h2).1 ⟨b.symm.trans h,d.symm.trans o⟩)];exact⟨rfl,rfl⟩
def vw :wa:=by
 unfold wa;intro i g x y S fr lv c0 c1 c2 c3 c4 c5 c6 c7 st N h;obtain⟨hi,hg,ux,uy,hp⟩:=h;have hp':=hp;obtain⟨D,K,⟨C,hc⟩,M⟩:=hp;have d:=C.slen M;have mk:t9 S i g=true->(x=0/\y=0)\/t9 S x y=true-> ¬(cI N (atF S i g) 7=0/\cI N (atF S i g) 8=0)->MvH S N fr lv i g x y [c0,c1,c2,c3,c4,c5,c6,c7]:=λhv hx hn=>⟨hp',hv,hn,hx,hi,hg,ux,uy⟩
 have at_:t9 S i g=true->0<=atF S i g/\atF S i g<N.length:=λhv=>by obtain⟨c,hk⟩:=C.vld.1 hv;obtain⟨s,h1,h2,h3,h4,O,J,L,_⟩:=C.flds hk;exact⟨J,L⟩
 have F:x=0->y=0->t9 S i g=true-> ¬(cI N (atF S i g) 7=0/\cI N (atF S i g) 8=0)->jd x i y g S fr lv c0 c1 c2 c3 c4 c5 c6 c7 st N:=λex o hv hn=>by have H:=mk hv (.inl ⟨ex,o⟩) hn;unfold jd;exact⟨λr=>⟨λu=>cr H (.inl ⟨r,u⟩),λu=>gf H (λe=>u e.2) ex o⟩,λr=>gf H (λe=>r e.1) ex o⟩
 have I:x=0-> ¬y=0->t9 S i g=true->t9 S x y=true-> ¬(cI N (atF S i g) 7=0/\cI N (atF S i g) 8=0)->iz x i y g S fr lv c0 c1 c2 c3 c4 c5 c6 c7 st N:=λex o hv E hn=>by have H:=mk hv (.inr E) hn;unfold iz;exact⟨λr=>⟨λu=>cr H (.inl ⟨r,u⟩),λu=>fw H (λe=>u e.2) ex o⟩,λr=>fw H (λe=>r e.1) ex o⟩
 have A:¬x=0->t9 S i g=true->t9 S x y=true-> ¬(cI N (atF S i g) 7=0/\cI N (atF S i g) 8=0)->ff x i y g S fr lv c0 c1 c2 c3 c4 c5 c6 c7 st N:=λex hv E hn=>by have H:=mk hv (.inr E) hn;unfold ff;exact⟨λr=>⟨λu=>cr H (.inl ⟨r,u⟩),λu=>fu H (λe=>u e.2) ex⟩,λr=>fu H (λe=>r e.1) ex⟩
 have no:∀ {b:Bool},¬b=true->b=false:=by simp
 refine⟨λex=>⟨λo=>Y7 ⟨hi,hg,d⟩ ⟨λf=>G0 ⟨hi,hg,d⟩ (C8 (at_ f).1 (at_ f).2 ⟨λv=>⟨λw=>ef hp' f (.inl ⟨ex,o⟩) v w,λw=>F ex o f λe=>w e.2⟩,λv=>F ex o f λe=>v e.1⟩),λf=>de (.inl (no f))⟩,λo=>Y7 ⟨hi,hg,d⟩ ⟨λf=>Y7 ⟨ux,uy,d⟩ ⟨λz=>G0 ⟨hi,hg,d⟩ (C8 (at_ f).1 (at_ f).2 ⟨λv=>⟨λw=>ef hp' f (.inr z) v w,λw=>I ex o f z λe=>w e.2⟩,λv=>I ex o f z λe=>v e.1⟩),λz=>de (.inr ⟨λe=>o e.2,no z⟩)⟩,λf=>de (.inl (no f))⟩⟩,λex=>Y7 ⟨hi,hg,d⟩ ⟨λf=>Y7 ⟨ux,uy,d⟩ ⟨λz=>G0 ⟨hi,hg,d⟩ (C8 (at_ f).1 (at_ f).2 ⟨λv=>⟨λw=>ef hp' f (.inr z) v w,λw=>A ex f z λe=>w e.2⟩,λv=>A ex f z λe=>v e.1⟩),λz=>de (.inr ⟨λe=>ex e.1,no z⟩)⟩,λf=>de (.inl (no f))⟩⟩
end
def C5 (k:Int)(t x:Str):Nod:=⟨k,t,[],x,0,0,false, -1,[]⟩
def DM.grow (D:DM):DM:=if D.free=[]then⟨D.L++ [⟨1,false,C5 0 [] []⟩],[D.L.length],D.C⟩else D
def DM.take (D:DM)(n:Nod):DM×Nat:=match D.grow.free with
 |i::l=>(⟨D.grow.L.modify i λs=>⟨s.g,true,n⟩,l,D.C⟩,i)
 | []=>(D,0)
def I6 (D:DM)(k:Int)(t x:Str):DM×Int×Int×Int:=if(k=1/\B3 t=false)\/(k=2/\H9 x=false)then(D,0,0,1)else
 let r:=D.take (C5 k t x)
 ((r.1.cnt 0).cnt 1,r.2,r.1.gen r.2,0)
def Bs :Ar->Prop
 | [.i k,.s t,.s y,.l at',.s x,.l ch,.l S,.i fr,.i lv,.i a,.i b,.i c,.i d,.i e,.i f,.i h,.i m,.l _,.l N]=>y=[]/\at'= []/\ch=[]/\((k=1/\x=[])\/(k=2/\t=[]))/\rD S N fr lv [a,b,c,d,e,f,h,m]|_=>False
def fY :Ar->Ar->Prop
 | [.i k,.s t,.s y,.l at',.s x,.l ch,.l S,.i fr,.i lv,.i a,.i b,.i c,.i d,.i e,.i f,.i h,.i m,.l _,.l N],[.i i,.i g,.i r,.l S',.i fr',.i lv',.i a',.i b',.i c',.i d',.i e',.i f',.i h',.i m',.l _,.l N']=>
  Z5 S N fr lv [a,b,c,d,e,f,h,m] S' N' fr' lv' [a',b',c',d',e',f',h',m'] λD=>((I6 D k t x).1,(i,g,r)=(I6 D k t x).2)
 |_,_=>False
def VV:=mkD "cre" [nV] Bs [hV,iV] fY
def PP :Ay->List (Nat×(Fm->SS->F9)):=W3
def Sf :Nat->List (Ay×Con)
 |_=>[(42,fp),(LVn,cq "lives")]
def RL :Nat->Aw->D4:=V8
open Go Go.Xe Go.Sx
def zI :a8:=(b8 4 1 [(.i (1)),(.b false),(.i (0)),(.i (-1))])
def ye :Prop:=
 ∀j k w x m y a c d f g o p q r t u v h,Bs (.i j::.s k::.s w::.l x::.s m::.l y::JD a c d f g o p q r t u v h)->We (JD a c d f g o p q r t u v h) λT=>We (c+(-1)<ln a) λZ=>We (ln a<ln a+1) λY=>We (c+(-1)) λX=>We (h++b8 10 1 [.i j,.s k,.l [],.s m,.i 0,.i 0,.b false,.i 0,.i 0,.l []]) λW=>We (.i j::.s k::.s w::.l x::.s m::.l y::T) λV=>Cg fV T5 [.i j,.s k,.s w,.l x,.s m,.l y] (λR=>∀z,R [.i z]->((z=0->((c=0->((ln a=1048576->Nq (ln a) (Nd (fY V (.i 0::.i 0::.i 3::JD a c d f g o p q r t u v W)) True))/\(¬ln a=1048576->Nd (c=0) (Ni (ln a)<|Nd (ln a+1<67108865)<|Nr (ln a)<|Nd (I64 (ln a))<|Nb (ln a) (ln a+1)<|Nd Y<|Nd Y<|Nd Y<|Nd Y<|Nd (I64 (d+1))<|Nd Y<|Nd (I64 (f+1))<|Nd (I64 (g+1))<|Nq (ln a+1)<|Nd (fY V (.i (IntKind.wrap .u32 (ln a))::.i (cI (a++zI) (ln a) 0)::.i 0::.l (a9 (a9 (a9 (a++zI) (ln a) 2 (.i 0)) (ln a) 1 (.b true)) (ln a) 3 (.i (ln h)))::J10 (cI (a++zI) (ln a) 2) (d+1) (f+1) (g+1) o p q r t u [.l v,.l W])) True))))/\(¬c=0->Nd (¬c=0) (Nd (I64 X)<|Nb X (ln a)<|Nd Z<|Nd Z<|Nd Z<|Nd Z<|Nd (I64 (d+1))<|Nd Z<|Nd (I64 (f+1))<|Nd (I64 (g+1))<|Nq (ln a)<|Nd (fY V (.i (IntKind.wrap .u32 X)::.i (cI a X 0)::.i 0::.l (a9 (a9 (a9 a X 2 (.i 0)) X 1 (.b true)) X 3 (.i (ln h)))::J10 (cI a X 2) (d+1) (f+1) (g+1) o p q r t u [.l v,.l W])) True))))/\(¬z=0->Nq (ln a) (Nd (fY V (.i 0::.i 0::.i 1::T)) True))))
def yd :kq VV PP (Sf 0) (RL 0) 61=ye:=by kernel_rfl
section
variable {D D':DM}{S N S' N' st:a8}{fr lv i g x y c0 c1 c2 c3 c4 c5 c6 c7:Int}{K c k:Nat}{G G':Nat->Nat}{T T':List RS}{M:List RN}{cs:Ak}
def WF.rn_eq (w:WF D K){s:Sl}(h:D.L[c]? =some s)(b:s.used=true)(a:∀(j:Nat) s,D.L[j]? =some s->s.used=true->G j=G' j):s.n.rn G=s.n.rn G':=by
 unfold Nod.rn;have d:hG' G s.n.par=hG' G' s.n.par:=by unfold hG';rcases w.par c s h b with e| ⟨p,sp,e,h1,h2,_⟩;rw[e];rfl;rw[e,Tn (by omega),Tn (by omega),TK,a p sp h1 h2]
 have f:s.n.ch.map (B2 G)=s.n.ch.map (B2 G'):=List.map_congr_left λj hj=>by obtain⟨sj,h1,h2,_⟩:=(w.ch c s h b).2 j hj;unfold B2;rw[a j sj h1 h2]
 rw[d,f]
def RlT.regen (h:RlT G D T M fr lv)(b:∀(c:Nat) s,D.L[c]? =some s->s.used=true->s.n.rn G=s.n.rn G'):RlT G' D T M fr lv:=
 ⟨h.len,λi s hs=>by obtain⟨r,h1,h2,h3,h4⟩:=h.row i s hs;exact⟨r,h1,h2,h3,λa=>by rw[<-b i s hs a];exact h4 a⟩,h.inj,h.free,h.nodup,h.all,h.lv⟩
def Ch.mod {q:RS->RS}{j:Nat}:∀ {l:Ah} {fr:Int},Ch T fr l->j∉l->Ch (T.modify j q) fr l
 | [],_,h,_=>h|a::l,_,⟨h1,r,h2,h3,h4⟩,hn=>by have e:j≠a:=λe=>hn (by simp[e]);exact⟨h1,r,by rw[l8,Tn e];exact h2,h3,h4.mod λm=>hn (by simp[m])⟩
def Ch.unused :∀ {l:Ah} {fr:Int},Ch T fr l-> ∀j∈l,∃r,T[j]? =some r/\r.u=false
 | [],_,_,j,h=>by simp at h|a::l,_,⟨h1,r,h2,h3,h4⟩,j,h=>by rcases TH.1 h with rfl|h;exact⟨r,h2,h3⟩;exact h4.unused j h
variable {n:Nod}
def kX {L:List Sl}:∀ {c:Nat} {s:Sl},L[c]? =some s->s.used=false->(L.modify c λs=>⟨s.g,true,n⟩).countP (·.used)=L.countP (·.used)+1:=by
 induction L with
 |nil=>intro c s h;simp at h
 |cons a L d=>
  intro c s h b;cases c with
  |zero=>simp at h;subst h;simp[List.countP_cons,b]|succ c=>simp at h;simp[List.countP_cons,d h b];omega
variable {C:Ak}
def RlT.take {i:Nat}{l:Ah}(h:RlT G D T M fr lv)(hf:D.free=i::l){r:RS}(hr:T[i]? =some r):RlT G ⟨D.L.modify i λs=>⟨s.g,true,n⟩,l,C⟩ (T.modify i λr=>⟨r.g,true,0,M.length⟩) (M++ [n.rn G]) r.nx (lv+1):=by
 have o:=h.free;rw[hf]at o;obtain⟨_,O,q,z,hl⟩:=o;rw[hr]at q;cases q;have d:=h.nodup;rw[hf]at d;obtain⟨hi,d⟩:=List.nodup_cons.1 d;obtain⟨s,hs,hg,w,_⟩:=h.back hr;have old:∀j:Nat,∀rj,T[j]? =some rj->rj.u=true->rj.p<M.length:=λj rj h1 h2=>by obtain⟨sj,k1,k2,k3,k4⟩:=h.back h1;obtain⟨J,I⟩:=k4 (by rw[<-k3];exact h2);have:=(SW.1 I).1;omega
 refine⟨by simpa using h.len,λj sj hj=>?_,λa b B rb f hb E F e=>?_,hl.mod hi,d,λj sj hj hn=>?_,?_⟩;simp only[l8]at hj⊢;by_cases e:i=j;subst e;rw[Tp rfl,hs]at hj;cases hj;exact⟨⟨r.g,true,0,M.length⟩,by rw[Tp rfl,hr];rfl,hg,rfl,λ_=>⟨by simp,by simp⟩⟩;rw[Tn e]at hj⊢;obtain⟨rj,h1,h2,h3,h4⟩:=h.row j sj hj;refine⟨rj,h1,h2,h3,λw=>?_⟩;obtain⟨H,A⟩:=h4 w;exact⟨H,by rw[Tc (SW.1 A).1];exact A⟩;simp only[l8]at f hb;by_cases t:i=a<;>by_cases v:i=b;omega;rw[Tp t]at f;rw[Tn v]at hb;subst t;rw[hr]at f;cases f;have:=old b rb hb F;simp only at e;omega;rw[Tn t]at f;rw[Tp v]at hb;subst v;rw[hr]at hb;cases hb;have:=old a B f E;simp only at e;omega;rw[Tn t]at f;rw[Tn v]at hb;exact h.inj a b B rb f hb E F e;simp only[l8]at hj;by_cases e:i=j;subst e;rw[Tp rfl,hs]at hj;cases hj;simp at hn;rw[Tn e]at hj;have:=h.all j sj hj hn;rw[hf]at this;rcases TH.1 this with e'|m;exact absurd e'.symm e;exact m;rw[h.lv];have:=kX (n:=n) hs (by rw[<-w];exact z);simp only[this];omega
def RlT.grow (h:RlT G D T M fr lv)(hf:D.free=[]):RlT G ⟨D.L++ [⟨1,false,n⟩],[D.L.length],C⟩ (T++ [⟨1,false,0, -1⟩]) M (D.L.length+1) lv:=by
 have get:∀(j:Nat) s,(D.L++ [⟨1,false,n⟩])[j]? =some s->D.L[j]? =some s\/(j=D.L.length/\s=⟨1,false,n⟩):=λj s hj=>by
  by_cases e:j<D.L.length;rw[Tc e]at hj;exact .inl hj
  .rw[Tb (by omega)]at hj;have:j-D.L.length=0:=by by_cases z:j-D.L.length=0;exact z;rw[US (by simp;omega)]at hj;cases hj
   rw[this]at hj;cases hj;exact .inr ⟨by omega,rfl⟩
 have d:∀(j:Nat) r,(T++ [⟨1,false,0, -1⟩])[j]? =some r->r.u=true->T[j]? =some r:=λj r hj p=>by
  by_cases e:j<T.length;rw[Tc e]at hj;exact hj
  .rw[Tb (by omega)]at hj;have:j-T.length=0:=by by_cases z:j-T.length=0;exact z;rw[US (by simp;omega)]at hj;cases hj
   rw[this]at hj;cases hj;simp at p
 refine⟨by simpa using h.len,λj s hj=>?_,λa b f rb o hb l m e=>h.inj a b f rb (d a f o l) (d b rb hb m) l m e,⟨rfl,⟨1,false,0, -1⟩,?_,rfl,rfl⟩,by simp,λj s hj hn=>?_,?_⟩;rcases get j s hj with hj| ⟨rfl,rfl⟩;obtain⟨r,h1,h2⟩:=h.row j s hj;exact⟨r,by rw[Tc (SW.1 h1).1];exact h1,h2⟩;exact⟨⟨1,false,0, -1⟩,by rw[<-h.len];simp,rfl,rfl,λh=>by simp at h⟩;rw[<-h.len];simp;rcases get j s hj with hj| ⟨rfl,rfl⟩;have:=h.all j s hj hn;rw[hf]at this;simp at this;simp;rw[h.lv];simp[List.countP_append]
def Qj {X:a8}(h:∀(j:Nat) a,T'[j]? =some a->a.u=true->(∃r,T[j]? =some r/\r.u=true/\r.p=a.p)\/(N.length:Int)<=a.p):Fr (T.map RS.row) N (T'.map RS.row) (N++X):=by
 refine⟨by simp,λk hk _=>Tc hk,λj hj d=>?_⟩;rw[Tm]at hj;have b:T'[((j:Nat):Int).toNat]? =some (T'[j]'hj):=by rw[TK];exact Tf hj
 simp only[cB,cI]at d⊢;rw[d9 b]at d⊢;rcases h j _ (Tf hj) d with⟨r,h1,h2,h3⟩|h1
 .have hr:T[((j:Nat):Int).toNat]? =some r:=by rw[TK];exact h1
  refine .inl ⟨j,by rw[Tm];exact(SW.1 h1).1,?_,?_⟩;rw[d9 hr];exact h2;rw[d9 hr];exact h3
 exact .inr h1
end
section
variable {D D':DM}{S N S' N' st S1:a8}{fr lv i g x y fr1:Int}{K c k:Nat}{G G':Nat->Nat}{T T':List RS}{M:List RN}{cs:Ak}{n:Nod}
def DM.grow_get {j:Nat}{s:Sl}(h:D.L[j]? =some s):D.grow.L[j]? =some s:=by unfold DM.grow;split;rw[Tc (SW.1 h).1];exact h;exact h
def DM.grow_old {j:Nat}{s:Sl}(h:D.grow.L[j]? =some s)(a:s.used=true):D.L[j]? =some s:=by unfold DM.grow at h;split at h;by_cases e:j<D.L.length;rw[Tc e]at h;exact h;rw[Tb (by omega)]at h;have:=Td h;simp at this;rw[this]at a;simp at a;exact h
def Rl.take (h:Rl D.gen D S N fr lv)(w:WF D K)(h1:(fr=0/\S1=S++zI/\fr1=ln S+1)\/(fr≠0/\S1=S/\fr1=fr))(hn:n.par= -1/\n.ch=[]):∃i:Nat,fr1=i+1/\(D.take n).2=i/\i<S1.length/\cI S1 i 0=(D.take n).1.gen i/\i<=1000/\S1.length<=1001/\(D.take n).1.C=D.C/\Rl (D.take n).1.gen (D.take n).1 (a9 (a9 (a9 S1 i 2 (.i 0)) i 1 (.b true)) i 3 (.i (ln N))) (N++ [(n.rn D.gen).row]) (cI S1 i 2) (lv+1)/\Fr S N (a9 (a9 (a9 S1 i 2 (.i 0)) i 1 (.b true)) i 3 (.i (ln N))) (N++ [(n.rn D.gen).row]):=by
 obtain⟨T,M,rfl,rfl,q⟩:=h;have hl:=q.len;have lim:=w.lim;have d:∃T1 i l,S1=T1.map RS.row/\RlT D.gen D.grow T1 M fr1 lv/\D.grow.free=i::l/\(∀(j:Nat) r,T1[j]? =some r->r.u=true->T[j]? =some r)/\T1.length<=1001:=by
  rcases h1 with⟨rfl,rfl,rfl⟩| ⟨h0,rfl,rfl⟩
  .have hf:D.free=[]:=by
    have:=q.free;cases e:D.free with
    |nil=>rfl|cons a l=>rw[e]at this;have:=this.1;omega
   have hg:=q.grow hf (n:=C5 0 [] []) (C:=D.C);refine⟨T++ [⟨1,false,0, -1⟩],D.L.length,[],by simp[zI,RS.row,b8],?_,by unfold DM.grow;rw[Tp hf],λj r hj I=>?_,by simp;omega⟩
   .have P:ln (T.map RS.row)=(D.L.length:Int):=by simp[ln,hl]
    unfold DM.grow;rw[Tp hf,P];exact hg
   by_cases e:j<T.length;rw[Tc e]at hj;exact hj;rw[Tb (by omega)]at hj;have:=Td hj;simp at this;rw[this]at I;simp at I
  .cases e:D.free with
   |nil=>have:=q.free;rw[e]at this;exact absurd this h0|cons a l=>
    have hg:D.grow=D:=by unfold DM.grow;rw[Tn (by simp[e])]
    exact⟨T,a,l,rfl,by rw[hg];exact q,by rw[hg];exact e,λ_ _ h _=>h,by omega⟩
 obtain⟨T1,i,l,rfl,f,hf,A,z⟩:=d;have t:=f.free;rw[hf]at t;obtain⟨Q,r,hr,I,_⟩:=t;have hk:=f.take (C:=D.C) (n:=n) hf hr;have hi:=(SW.1 hr).1;have o:D.take n=(⟨D.grow.L.modify i λs=>⟨s.g,true,n⟩,l,D.C⟩,i):=by unfold DM.take;rw[hf]
 have v:∀(j:Nat) s,D.L[j]? =some s->D.gen j=(D.take n).1.gen j:=by intro j s hj;rw[UY hj,o];unfold DM.gen;simp only[l8,DM.grow_get hj];by_cases e:i=j<;>simp[e]
 have B:T1[((i:Nat):Int).toNat]? =some r:=by rw[TK];exact hr
 obtain⟨s,hs,H,m,_⟩:=f.back hr;have J:a9 (a9 (a9 (T1.map RS.row) i 2 (.i 0)) i 1 (.b true)) i 3 (.i (ln (M.map RN.row)))=(T1.modify i λr=>⟨r.g,true,0,M.length⟩).map RS.row:=by rw[T7 (λr:RS=> {r with nx:=0}) (λ_=>rfl),T7 (λr:RS=> {r with u:=true}) (λ_=>rfl),T7 (λr:RS=> {r with p:=(M.length:Int)}) (λa=>by simp[RS.row,ln]),TK,B6,B6]
 refine⟨i,by omega,by rw[o],by rw[Tm];exact hi,?_,by omega,by rw[Tm];exact z,by rw[o],?_,?_⟩;simp only[cI];rw[d9 B,o];unfold DM.gen;simp only[l8,hs];simp[RS.row,Dat.toInt,H]
 .rw[J];have F:cI (T1.map RS.row) i 2=r.nx:=by simp only[cI];rw[d9 B];rfl
  rw[F];refine⟨_,M++ [n.rn D.gen],rfl,by simp,?_⟩;have:=hk.regen (G':=(D.take n).1.gen) λc s hc m=>?_;rw[show(D.take n).1=⟨D.grow.L.modify i λs=>⟨s.g,true,n⟩,l,D.C⟩ by rw[o]]at this⊢;exact this;simp only[l8]at hc;by_cases e:i=c;subst e;rw[Tp rfl,hs]at hc;cases hc;unfold Nod.rn;simp only[hn.1,hn.2];rfl;rw[Tn e]at hc;exact w.rn_eq (DM.grow_old hc m) m λj s h _=>v j s h
 rw[J];refine Qj λj O hj E=>?_;simp only[l8]at hj;by_cases e:i=j;subst e;rw[Tp rfl,hr]at hj;cases hj;exact .inr (by simp);rw[Tn e]at hj;exact .inl ⟨O,A j O hj E,E,rfl⟩
end
section
variable {D :DM}{S N st S1:a8}{fr lv fr1 p k c0 c1 c2 c3 c4 c5 c6 c7:Int}{t x:Str}{K:Nat}
def GA :E3 (.mk 1 t [] [] [] [])↔B3 t=true:=by simp[E3,U7,AllAs,Y4,c9.k,c9.x,c9.t,c9.y,c9.a,c9.c,c9.size,c9.sizes,c9.depth,c9.depths,kH,Asc]
def WF.live (w:WF D K)(h:Rl D.gen D S N fr lv):0<=lv/\lv<=1000:=by obtain⟨T,M,rfl,rfl,h⟩:=h;have:=w.lim;have:=List.countP_le_length (p:=λs:Sl=>s.used) (l:=D.L);rw[h.lv];omega
def Ia (hk:(k=1/\x=[])\/(k=2/\t=[]))(f:¬((k=1/\B3 t=false)\/(k=2/\H9 x=false)))(h0:∃D K,RlC D S N fr lv [c0,c1,c2,c3,c4,c5,c6,c7]/\WF D K)(h1:(fr=0/\S1=S++zI/\fr1=ln S+1)\/(fr≠0/\S1=S/\fr1=fr))(hp:p=fr1-1):0<=p/\p<ln S1/\p<=1000/\fY (.i k::.s t::.s []::.l []::.s x::.l []::JD S fr lv c0 c1 c2 c3 c4 c5 c6 c7 st N) (.i (IntKind.wrap .u32 p)::.i (cI S1 p 0)::.i 0::.l (a9 (a9 (a9 S1 p 2 (.i 0)) p 1 (.b true)) p 3 (.i (ln N)))::J10 (cI S1 p 2) (lv+1) (c0+1) (c1+1) c2 c3 c4 c5 c6 c7 [.l st,.l (N++b8 10 1 [.i k,.s t,.l [],.s x,.i 0,.i 0,.b false,.i 0,.i 0,.l []])]):=by
 have row:∀G,(b8 10 1 [.i k,.s t,.l [],.s x,.i 0,.i 0,.b false,.i 0,.i 0,.l []]:a8)=[((C5 k t x).rn G).row]:=λG=>rfl;obtain⟨D,K,c,d⟩:=h0;obtain⟨i,q,g,r,h,u,v,j,m,o⟩:=c.1.take d h1 (n:=C5 k t x) ⟨rfl,rfl⟩;have a:p=i:=by omega
 refine⟨by omega,by rw[a];simp only[ln];omega,by omega,by rw[row D.gen,a];exact o,λD K c d=>?_⟩;obtain⟨i,q,g,r,h,u,v,j,m,o⟩:=c.1.take d h1 (n:=C5 k t x) ⟨rfl,rfl⟩;have a:p=i:=by omega
 have e:I6 D k t x=(((D.take (C5 k t x)).1.cnt 0).cnt 1,((D.take (C5 k t x)).2:Int),((D.take (C5 k t x)).1.gen (D.take (C5 k t x)).2:Int),0):=by unfold I6;rw[Tn f]
 refine⟨⟨?_,?_⟩,?_⟩<;>simp only[e];rw[row D.gen,a];exact(m.cnt 0).cnt 1;show _=(((D.take (C5 k t x)).1.cnt 0).cnt 1).C;unfold DM.cnt;simp only;rw[j,<-c.2];rfl;rw[a,h,g,P4 (by simp[IntKind.min,IntKind.signed]) (by simp[IntKind.max,IntKind.signed,IntKind.bits];omega)]
def yc :ye:=by
 unfold ye;intro k t y g x ch S fr lv c0 c1 c2 c3 c4 c5 c6 c7 st N h;obtain⟨rfl,rfl,rfl,hk,hp⟩:=h;have hp':=hp;obtain⟨D,K,⟨c,hc⟩,a⟩:=hp;have d:=c.slen a;have b:=a.live c;have i0:I64 (c0+1):=a.i64 (k:=0) (by rw[<-hc];rfl);have f:I64 (c1+1):=a.i64 (k:=1) (by rw[<-hc];rfl);have hl:ln S<=1000:=by simp only[ln];omega
 have i:0<=ln S:=by simp only[ln];omega
 refine ndi ⟨.mk k t [] [] x [],rfl,rfl,rfl,rfl,rfl,rfl⟩ λe he=>?_;have he:=(he (.mk k t [] [] x []) ⟨rfl,rfl,rfl,rfl,rfl,rfl⟩).1;have hv:e=0↔ ¬((k=1/\B3 t=false)\/(k=2/\H9 x=false)):=by rw[he];rcases hk with⟨rfl,rfl⟩| ⟨rfl,rfl⟩;rw[GA];simp;rw[rK];simp
 refine⟨λe0=>⟨λf0=>⟨λbig=>by omega,λ_=>?_⟩,λf0=>?_⟩,λe0=>nin (nrn (ndt (D2 λD K j a=>?_)))⟩
 .obtain⟨h1,h2,h3,h4⟩:=Ia (st:=st) (p:=ln S) hk (hv.1 e0) hp' (.inl ⟨f0,rfl,rfl⟩) (by omega);have z:ln S<ln S+1:=by omega
  exact ndi f0 (nin (ndi (by omega) (nrn (ndi (by unfold I64;omega) (ndi (by omega) (ndi z (ndi z (ndi z (ndi z (ndi z (ndi (by unfold I64;omega) (ndi z (ndi i0 (ndi f (nin (nrn (ndt h4)))))))))))))))))
 obtain⟨h1,h2,h3,h4⟩:=Ia (st:=st) (p:=fr+ -1) hk (hv.1 e0) hp' (.inr ⟨f0,rfl,rfl⟩) (by omega);exact ndi f0 (ndi (by unfold I64;omega) (ndi (by omega) (ndi h2 (ndi h2 (ndi h2 (ndi h2 (ndi h2 (ndi (by unfold I64;omega) (ndi h2 (ndi i0 (ndi f (nin (nrn (ndt h4))))))))))))));have:(k=1/\B3 t=false)\/(k=2/\H9 x=false):=Classical.byContradiction λh=>e0 (hv.2 h);unfold I6;rw[Tp this];exact⟨rfl,rfl⟩
end
structure Ed where
 n:Str
 d:Bool
 v:Str
def Ed.row (e:Ed):Ar:=[.s e.n,.b e.d,.s e.v]
def bK (e:Ed):Bool:=B3 e.n&&H9 e.v&&(!e.d||e.v.isEmpty)
def edA (e:Ed):List Att:=if e.d then []else [⟨e.n,e.v⟩]
def N8 :List Att->Ed->List Att
 | [],e=>edA e|a::l,e=>if lt a.n e.n then a::N8 l e else if a.n=e.n then edA e++l else edA e++a::l
def bad1 :List Att->Ed->Bool
 | [],e=>e.d|a::l,e=>if lt a.n e.n then bad1 l e else if a.n=e.n then false else e.d
def apF (l:List Att)(e:Ed):List Att×Int:=if bad1 l e then([],11)else if 8<(N8 l e).length then([],3)else(N8 l e,0)
def fP (l:List Att)(e:Ed)(i k:Int):List Att:=if k=0 then N8 (l.drop i.toNat) e else l.drop i.toNat
def jK (l:List Att)(e:Ed)(i k:Int):Bool:=if k=0 then bad1 (l.drop i.toNat) e else false
def vAt (l:List Att):Prop:=l.length<=8/\(∀a∈l,B3 a.n=true/\H9 a.v=true)/\Asc (l.map Att.n)
def FX (a b:Str):Int:=if lt a b then-1 else if a=b then 0 else 1
def FW :Ar->Prop
 | [.s _,.s _]=>True|_=>False
def fX :Ar->Ar->Prop
 | [.s a,.s b],[.i n]=>n=FX a b|_,_=>False
def WO:=mkC "cmp" [sV,sV] FW [iV] fX
def Bo :Ar->Prop
 | [.l L]=>∃e:Ed,L=[e.row]
 |_=>False
def fU :Ar->Ar->Prop
 | [.l L],[.i r]=>∀e:Ed,L=[e.row]->(r=0↔bK e=true)
 |_,_=>False
def VX:=mkC "ced" [.one (.g (.lst 155))] Bo [iV] fU
def Bi :Ar->Prop
 | [.l L,.l E]=>∃(l:List Att) (e:Ed),L=l.map Att.row/\E=[e.row]/\vAt l/\bK e=true|_=>False
def dE :Ar->Ar->Prop
 | [.l L,.l E],[.l O,.i r]=>∀(l:List Att) (e:Ed),L=l.map Att.row->E=[e.row]->O=(apF l e).1.map Att.row/\r=(apF l e).2|_,_=>False
def WR:=mkC "app" [.one (.g (.lst rV)),.one (.g (.lst 155))] Bi [.one (.g (.clp rV)),iV] dE
def capB (t j:Nat)(gs:List G):Fm->SS->Bb (List (Nat×List G)):=λf _=>match lk f t with
 |some (.fn _ _ cs)=>match cs[j]? with
  |some (.ptr b _ _ _)=>some [(b,gs)]|_=>none
 |_=>none
def yS :Ar->Ar->Prop
 | [.l L],[.i i]=>0<=i/\i<=L.length/\ ∀e:Ed,L=[e.row]->0<i->bK e=true|_,_=>False
def FV:=A2
def HX :Ar->Ar->Prop
 | [.l L],[.i i]=>1<=i|_,_=>False
def cfMu:=A2
def fD :Ar->Ar->Prop
 | [.l A, .l B], [.i i, .i k, .l O, .i r] => 0 ≤ i ∧ i ≤ A.length ∧ 0 ≤ k ∧ k ≤ B.length ∧ ∀ (l : List Att) (e : Ed), A = l.map Att.row → B = [e.row] → ((r = 0 ∧ jK l e i k = bad1 l e) ∨ (r = 11 ∧ bad1 l e = true)) ∧
   ∃o:List Att,O=o.map Att.row/\(o.length:Int)<=i+k/\o++fP l e i k=N8 l e
 |_,_=>False
def aA :Ar->Ar->Nat
 | [.l A,.l B],.i i:: .i k::_=>((A.length-i)+(B.length-k)).toNat|_,_=>0
def yN :Ay->List (Nat×(Fm->SS->F9))
 |146=>[(0,D5 U0 "ce" (F5 [(8,.int .i64),(4,.any)] nob) (j9 0) yS FV),(2,D5 U0 "cf" (F5 [(5,.int .i64)] nob) (j9 0) HX cfMu)]
 |178=>[(0,D5 U0 "mg" (F5 [(10,.int .i64),(11,.int .i64)] (bl2 (capB 4 0 [.acc rV 2]) (capB 4 3 [.int .i64]))) (gh2 (j9 0) (j9 1)) fD aA)]
 |f=>W3 f
def CC :Nat->List (Ay×Con)
 |0=>[(42,fp),(LVn,cq "lives")]
 |_=>[(188,WO),(42,fp),(146,VX),(LVn,cq "lives")]
def GI (_:Nat)(P:Aw):D4:=[]
