/- The conditions of contracts, as the engine's printer has written them, and that the kernel comes to the same.
  Conditions: none. -/
import Derived.Test.YtoegfalhkackeaaGreatR8
set_option maxRecDepth 100000
set_option linter.all false
noncomputable section
namespace Go.D
open Go Go.Xe Go.Sx
def Wb (n:Nat):Prop:=
 ∀h j k d m b o p q f r c,(Bw [.i h,.s j,.s k,.l d,.s m,.l b,.i o,.s p,.s q,.l f,.s r,.l c]/\Dy [.i h,.s j,.s k,.l d,.s m,.l b,.i o,.s p,.s q,.l f,.s r,.l c]<n+1)->((h=o->((j=p->((k=q->((m=r->((ln d=ln f->((ln b=ln c->Nd (Dx [.l d,.l f] [.i 0]) (∀g,Dx [.l d,.l f] [.i g]->((g<ln d->Nd (¬g<0) (Nd (g<ln d)<|Nd (¬g<0)<|Nd (g<ln f)<|(cS d g 0=cS f g 0->((cS d g 1=cS f g 1->Nd (I64 (g+1)) (Nd (Dx [.l d,.l f] [.i (g+1)])<|Nd (eaMu [.l d,.l f] [.i (g+1)]<eaMu [.l d,.l f] [.i g]) True))/\(¬cS d g 1=cS f g 1->Nd (R1 [.i h,.s j,.s k,.l d,.s m,.l b,.i o,.s p,.s q,.l f,.s r,.l c] [.i 0]) True)))/\(¬cS d g 0=cS f g 0->Nd (R1 [.i h,.s j,.s k,.l d,.s m,.l b,.i o,.s p,.s q,.l f,.s r,.l c] [.i 0]) True)))/\(¬g<ln d->Nd (If [.l b,.l c] [.i 0]) (∀a,If [.l b,.l c] [.i a]->((a<ln b->Nd (¬a<0) (Nd (a<ln b)<|Nd (¬a<0)<|Nd (a<ln c)<|Nd (Bw [.i (cI b a 0),.s (cS b a 1),.s (cS b a 2),.l (cL b a 3),.s (cS b a 4),.l (cL b a 5),.i (cI c a 0),.s (cS c a 1),.s (cS c a 2),.l (cL c a 3),.s (cS c a 4),.l (cL c a 5)]/\Dy [.i (cI b a 0),.s (cS b a 1),.s (cS b a 2),.l (cL b a 3),.s (cS b a 4),.l (cL b a 5),.i (cI c a 0),.s (cS c a 1),.s (cS c a 2),.l (cL c a 3),.s (cS c a 4),.l (cL c a 5)]<n)<|
 ∀t,R1 [.i (cI b a 0),.s (cS b a 1),.s (cS b a 2),.l (cL b a 3),.s (cS b a 4),.l (cL b a 5),.i (cI c a 0),.s (cS c a 1),.s (cS c a 2),.l (cL c a 3),.s (cS c a 4),.l (cL c a 5)] [.i t]->((t=0->Nd (R1 [.i h,.s j,.s k,.l d,.s m,.l b,.i o,.s p,.s q,.l f,.s r,.l c] [.i 0]) True)/\(¬t=0->Nd (I64 (a+1)) (Nd (If [.l b,.l c] [.i (a+1)])<|Nd (ecMu [.l b,.l c] [.i (a+1)]<ecMu [.l b,.l c] [.i a]) True)))))/\(¬a<ln b->Nd (R1 [.i h,.s j,.s k,.l d,.s m,.l b,.i o,.s p,.s q,.l f,.s r,.l c] [.i 1]) True)))))))/\(¬ln b=ln c->Nd (R1 [.i h,.s j,.s k,.l d,.s m,.l b,.i o,.s p,.s q,.l f,.s r,.l c] [.i 0]) True)))/\(¬ln d=ln f->Nd (R1 [.i h,.s j,.s k,.l d,.s m,.l b,.i o,.s p,.s q,.l f,.s r,.l c] [.i 0]) True)))/\(¬m=r->Nd (R1 [.i h,.s j,.s k,.l d,.s m,.l b,.i o,.s p,.s q,.l f,.s r,.l c] [.i 0]) True)))/\(¬k=q->Nd (R1 [.i h,.s j,.s k,.l d,.s m,.l b,.i o,.s p,.s q,.l f,.s r,.l c] [.i 0]) True)))/\(¬j=p->Nd (R1 [.i h,.s j,.s k,.l d,.s m,.l b,.i o,.s p,.s q,.l f,.s r,.l c] [.i 0]) True)))/\(¬h=o->Nd (R1 [.i h,.s j,.s k,.l d,.s m,.l b,.i o,.s p,.s q,.l f,.s r,.l c] [.i 0]) True))
def xz (n:Nat):kq (VU.below Dy (n+1)) HQ ((55,VU.below Dy n)::Hq 0) (MW 0) 55=Wb n:=by kernel_rfl
def VY :Prop:=
 ∀a b c d f g h j k m o p,vZ [.i a,.s b,.s c,.l d,.s f,.l g,.i h,.s j,.s k,.l m,.s o,.l p]->Nd (dS [.i a,.s b,.s c,.l d,.s f,.l g]) (∀q,U3 [.i a,.s b,.s c,.l d,.s f,.l g] [.i q]->((q=0->Nd (dS [.i h,.s j,.s k,.l m,.s o,.l p]) (∀r,U3 [.i h,.s j,.s k,.l m,.s o,.l p] [.i r]->((r=0->Nd (Bw [.i a,.s b,.s c,.l d,.s f,.l g,.i h,.s j,.s k,.l m,.s o,.l p]) (∀t,R1 [.i a,.s b,.s c,.l d,.s f,.l g,.i h,.s j,.s k,.l m,.s o,.l p] [.i t]->Nd (gV [.i a,.s b,.s c,.l d,.s f,.l g,.i h,.s j,.s k,.l m,.s o,.l p] [.i t]) True))/\(¬r=0->Nd (gV [.i a,.s b,.s c,.l d,.s f,.l g,.i h,.s j,.s k,.l m,.s o,.l p] [.i 0]) True))))/\(¬q=0->Nd (gV [.i a,.s b,.s c,.l d,.s f,.l g,.i h,.s j,.s k,.l m,.s o,.l p] [.i 0]) True)))
def rq :kq Wr HQ (Hq 1) (MW 1) 15=VY:=by kernel_rfl
open Go Go.Xe Go.Sx
theorem HU {a b:Att}(h1:a.n=b.n)(h2:a.v=b.v):a=b:=by cases a;cases b;simp_all
def rJ {α:Type}{f:α->Ar}(hf:∀a b,f a=f b->a=b){l m:List α}{k:Nat}(h:(l.map f).take k=(m.map f).take k):l.take k=m.take k:=by rw[<-List.map_take,<-List.map_take]at h;exact uI hf h
theorem xy (N:Nat):Wb N:=by
 rintro _ _ _ _ _ _ _ _ _ _ _ _ ⟨⟨⟨s,⟨rfl,rfl,rfl,rfl,rfl,rfl⟩,H⟩,s',⟨rfl,rfl,rfl,rfl,rfl,rfl⟩,I⟩,p⟩;have p:szRs (rows s.c)<N+1:=p;have A:=(L5 s).1 H;have B:=(L5 s').1 I;obtain⟨E,L⟩:=mF B.1;have no:s≠s'->R1 [.i s.k,.s s.t,.s s.y,.l (s.a.map Att.row),.s s.x,.l (rows s.c),.i s'.k,.s s'.t,.s s'.y,.l (s'.a.map Att.row),.s s'.x,.l (rows s'.c)] [.i 0]:=λh a b n hb=>by rw[H5]at n hb;subst n;subst hb;exact(by grind)
 have C:ln (s.a.map Att.row)=(s.a.length:Int):=by simp[ln]
 have D:ln (s'.a.map Att.row)=(s'.a.length:Int):=by simp[ln]
 have u:ln (rows s.c)=(s.c.length:Int):=by simp[ln]
 have v:ln (rows s'.c)=(s'.c.length:Int):=by simp[ln]
 have o:∀a b:Att,a.row=b.row->a=b:=λa b h=>by have:=T0 (a:=[a]) (b:=[b]) (by grind);simpa using this
 simp only[Nd,I64,C,D,u,v,Up,Ug];refine⟨λhk=>⟨λht=>⟨λhy=>⟨λhx=>⟨λn=>⟨λhc=>⟨⟨by omega,by simp[ln],by omega,by simp⟩,λ_ i ⟨i0,M,O,w⟩=>⟨λhi=>?_,λhi=>?_⟩⟩,λh=>no λe=>h (by grind)⟩,λh=>no λe=>h (by grind)⟩,λh=>no λe=>h (by grind)⟩,λh=>no λe=>h (by grind)⟩,λh=>no λe=>h (by grind)⟩,λh=>no λe=>h (by grind)⟩;obtain⟨a,f⟩:=Sx.get_at i0 hi;obtain⟨b,g⟩:=Sx.get_at i0 (show i<(s'.a.length:Int) by omega);have r:a≠b->s≠s':=λh e=>h (by have d:=f;rw[e]at d;rw[g]at d;exact(Tu d).symm);simp only[cS,d9 f,d9 g,at0,at1,C7];refine⟨by omega,λ_=>⟨hi,λ_=>⟨by omega,λ_=>⟨by omega,λ_=>⟨λh1=>⟨λh2=>⟨⟨by omega,by omega⟩,λ_=>⟨⟨by omega,by omega,by rw[C,D];exact n,?_⟩,λ_=>?_⟩⟩,λh2=>no (r λe=>h2 (by grind))⟩,λh1=>no (r λe=>h1 (by grind))⟩⟩⟩⟩⟩;rw[p6 i0 (H2 f),p6 i0 (H2 g),w,HU h1 h2];show(((s.a.map Att.row).length:Int)-(i+1)).toNat<(((s.a.map Att.row).length:Int)-i).toNat;rw[Tm];omega
 .have F:s.a=s'.a:=by have:=rJ o w;rwa[A3 (by omega),A3 (by omega)]at this
  refine⟨⟨by omega,by simp[ln],by rw[u,v];exact hc,by simp⟩,λ_ j ⟨q,P,Q,z⟩=>⟨λhj=>?_,λhj=>?_⟩⟩;obtain⟨a,f⟩:=Sx.get_at q hj;obtain⟨b,g⟩:=Sx.get_at q (show j<(s'.c.length:Int) by omega);have r:a≠b->s≠s':=λh e=>h (by have d:=f;rw[e]at d;rw[g]at d;exact(Tu d).symm);have J:=wR f;simp only[cI,cS,cL,Q3 f,Q3 g,t0,t1,t2,t3,t4,t5,jD,C7,cR];refine⟨by omega,λ_=>⟨hj,λ_=>⟨by omega,λ_=>⟨by omega,λ_=>⟨⟨⟨⟨a,⟨rfl,rfl,rfl,rfl,rfl,rfl⟩,iE A.2 f⟩,b,⟨rfl,rfl,rfl,rfl,rfl,rfl⟩,iE B.2 g⟩,by show szRs (rows a.c)<N;omega⟩,λ_ m hm=>?_⟩⟩⟩⟩⟩;obtain⟨m1,K⟩:=hm a b ⟨rfl,rfl,rfl,rfl,rfl,rfl⟩ ⟨rfl,rfl,rfl,rfl,rfl,rfl⟩;refine⟨λh0=>no (r λe=>by have:=m1 e;omega),λh0=>⟨⟨by omega,by omega⟩,λ_=>⟨⟨by omega,by omega,by rw[u,v];exact hc,?_⟩,λ_=>?_⟩⟩⟩;have e:a=b:=Classical.byContradiction λc=>h0 (K c);rw[p6 q (H2 f),p6 q (H2 g),e];exact congrArg (· ++_) z;show(((rows s.c).length:Int)-(j+1)).toNat<(((rows s.c).length:Int)-j).toNat;rw[Tm];omega
  .have G:s.c=s'.c:=by have:=rJ (λa b=>sK) z;rwa[A3 (by omega),A3 (by omega)]at this
   have e:=ET hk ht hy F hx G;intro a b n hb;rw[H5]at n hb;subst n;subst hb;exact⟨λ_=>rfl,λc=>absurd e c⟩
theorem rm :VY:=by
 rintro _ _ _ _ _ _ _ _ _ _ _ _ ⟨⟨s,rfl,rfl,rfl,rfl,rfl,rfl⟩,s',rfl,rfl,rfl,rfl,rfl,rfl⟩;have R:∀n:Int,((E3 s/\s=s'->n=1)/\(¬(E3 s/\s=s')->n=0))->gV [.i s.k,.s s.t,.s s.y,.l (s.a.map Att.row),.s s.x,.l (rows s.c),.i s'.k,.s s'.t,.s s'.y,.l (s'.a.map Att.row),.s s'.x,.l (rows s'.c)] [.i n]:=λn h a b f hb=>by rw[H5]at f hb;grind
 refine⟨⟨s,rfl,rfl,rfl,rfl,rfl,rfl⟩,λ_ e he=>⟨λh0=>⟨⟨s',rfl,rfl,rfl,rfl,rfl,rfl⟩,λ_ j d=>⟨λh2=>?_,λh2=>⟨R _ ⟨?_,λ_=>rfl⟩,λ_=>trivial⟩⟩⟩,λh0=>⟨R _ ⟨?_,λ_=>rfl⟩,λ_=>trivial⟩⟩⟩;have v:=(he s ⟨rfl,rfl,rfl,rfl,rfl,rfl⟩).1.1 h0;have g:=(d s' ⟨rfl,rfl,rfl,rfl,rfl,rfl⟩).1.1 h2;refine⟨⟨⟨s,⟨rfl,rfl,rfl,rfl,rfl,rfl⟩,v.1⟩,s',⟨rfl,rfl,rfl,rfl,rfl,rfl⟩,g.1⟩,λ_ n hn=>⟨R n ?_,λ_=>trivial⟩⟩;obtain⟨m,o⟩:=hn s s' ⟨rfl,rfl,rfl,rfl,rfl,rfl⟩ ⟨rfl,rfl,rfl,rfl,rfl,rfl⟩;grind;exactλh=>absurd ((d s' ⟨rfl,rfl,rfl,rfl,rfl,rfl⟩).1.2 (h.2▸h.1)) h2;exactλh=>absurd ((he s ⟨rfl,rfl,rfl,rfl,rfl,rfl⟩).1.2 h.1) h0
def CI {n m:Int}(h0:0<=n)(h:0<m):¬n.tmod m<0/\n.tmod m<m:=by have:=Int.tmod_nonneg m h0;have:=Int.tmod_lt_of_pos n h;omega
def qx :qz:=by unfold qz;rintro n ⟨h0,h1⟩;obtain⟨a,b⟩:=CI h0 (show(0:Int)<5 by omega);exact ndi a (ndi b (ndi b (ndt trivial)))
def vr :vu:=by unfold vu;rintro n ⟨h0,h1⟩;obtain⟨a,b⟩:=CI h0 (show(0:Int)<5 by omega);exact ndi a (ndi b (ndi b (ndt rfl)))
def qn :qp:=by unfold qp;rintro n ⟨h0,h1⟩;obtain⟨a,b⟩:=CI h0 (show(0:Int)<4 by omega);exact ndi a (ndi b (ndi b (ndt rfl)))
def Fb (x:Int):U32 (IntKind.wrap .u32 x):=by unfold U32 IntKind.wrap;simp[IntKind.signed,IntKind.bits];omega
def vg :vj:=by
 unfold vj;intro n L F b0 o p q s t u v H S fr lv c0 w x y A B C D st N h;obtain⟨h0,h1,c⟩:=h;have z:U32 0:=by unfold U32;omega
 have zero:∀d,bL d [.i 0,.i 0]:=λ_=>⟨z,z⟩
 refine⟨λe=>ndt (zero _),λe=>⟨λe'=>ndt (zero _),λe'=>?_⟩⟩;have k:0<ln H:=by simp only[ln]at e'⊢;omega
 obtain⟨a,b⟩:=CI h0 k;have cell:U32 (cI H (n.tmod (ln H)) 0)/\U32 (cI H (n.tmod (ln H)) 1):=by
  obtain⟨r,hr⟩:=Sx.get_at (T:=H) (i:=n.tmod (ln H)) (by omega) b;obtain⟨i,g,rfl,l,m⟩:=c r (Td hr);have:∀j,z8 H (n.tmod (ln H)) j=([Dat.i i,.i g]:Ar).getD j (.i 0):=λj=>by have:=d9 (f:=id) hr j;rwa[List.map_id]at this
  simp only[cI,this];exact⟨l,m⟩
 refine ndi (by unfold I64;omega)<|ndi e'<|ndi a<|ndi b<|ndi b ⟨λ_=>ndt ⟨cell.1,Fb _⟩,λ_=>⟨λ_=>ndt ⟨Fb _,cell.2⟩,λ_=>⟨λ_=>ndt ⟨by unfold U32;omega,by unfold U32;omega⟩,λ_=>ndt cell⟩⟩⟩
def wz :xb:=by
 unfold xb;intro P X L F b0 g m n o p q r H S fr lv c0 s t u v w x y st N h;obtain⟨l,rfl,rfl,hl,h1,h2⟩:=h;have e:ln (l.map λj:Nat=>[Dat.i j,.i (cI L j 0)])=(l.length:Int):=by simp[ln]
 have f:ln (l.map z5)=(l.length:Int):=by simp[ln]
 rw[e,f];refine⟨λ_=>⟨λ_=>ndi ⟨by omega,by simp⟩ λk hI=>?_,λh=>absurd rfl h⟩,λh=>absurd rfl h⟩;obtain⟨k0,k1⟩:=hI;refine⟨λhk=>?_,λ_=>ndt rfl⟩;obtain⟨b,hb⟩:=Sx.get_at (T:=l) k0 hk;have hm:=hl b (Td hb);have e0:cI (l.map λj:Nat=>[Dat.i j,.i (cI L j 0)]) k 0=b:=by simp only[cI,d9 hb];rfl
 have c:cI (l.map λj:Nat=>[Dat.i j,.i (cI L j 0)]) k 1=cI L b 0:=by simp only[cI,d9 hb];rfl
 have n0:¬k<0:=by omega
 have wr:IntKind.wrap .u32 (b:Int)=b:=P4 (by simp[IntKind.min,IntKind.signed]) (by simp[IntKind.max,IntKind.signed,IntKind.bits];omega);have z:ln L=(L.length:Int):=rfl;rw[e0,c,dm hb,wr];have a:∀d:Ar,Sx.Nd (I64 (k+1)) (Sx.Nd (oU [.l (l.map λj:Nat=>[Dat.i j,.i (cI L j 0)]),.l (l.map z5),.l L] [.i (k+1)]) (Sx.Nd (tX [.l (l.map λj:Nat=>[Dat.i j,.i (cI L j 0)]),.l (l.map z5),.l L] [.i (k+1)]<tX [.l (l.map λj:Nat=>[Dat.i j,.i (cI L j 0)]),.l (l.map z5),.l L] [.i k]) True)):=λ_=>
  ndi (by unfold I64;omega) (ndi ⟨by omega,by rw[Tm];omega⟩ (ndt (by simp only[tX,A2];rw[Tm];omega)))
 exact ndi n0 (ndi hk (ndi n0 (ndi hk ⟨λh=>absurd h (by omega),λ_=>ndi (by omega) (ndi (by omega) ⟨λ_=>⟨λ_=>a [],λh=>absurd rfl h⟩,λh=>absurd rfl h⟩)⟩)))
def yw :yy:=by
 unfold yy;rintro A B ⟨l,m,rfl,rfl,hl⟩;have o:ln (l.map Att.row)=(l.length:Int):=by simp[ln]
 have p:ln (m.map Att.row)=(m.length:Int):=by simp[ln]
 rw[o,p];refine⟨λn=>ndi ⟨by omega,by omega,by simp;omega,by simp⟩ λk hI=>?_,λhn=>ndt ⟨λe=>absurd (by rw[T0 e]) hn,λ_=>rfl⟩⟩;obtain⟨k0,k1,k2,h⟩:=hI;refine⟨λhk=>?_,λhk=>ndt ⟨λ_=>rfl,λhn=>absurd ?_ hn⟩⟩
 .obtain⟨a,c⟩:=Sx.get_at (T:=l) k0 hk;obtain⟨b,hb⟩:=Sx.get_at (T:=m) k0 (by omega);rw[(dk c).1,(dk c).2,(dk hb).1,(dk hb).2];have n0:¬k<0:=by omega
  have no:a≠b->bD [.l (l.map Att.row),.l (m.map Att.row)] [.i 0]:=λj=>⟨λe=>absurd (by have:=T0 e;subst this;rw[c]at hb;exact Tu hb) j,λ_=>rfl⟩
  refine ndi n0 (ndi hk (ndi n0 (ndi (by omega) ⟨λd=>⟨λf=>?_,λf=>ndt (no λe=>f (by rw[e]))⟩,λd=>ndt (no λe=>d (by rw[e]))⟩)));have g:a=b:=HU d f;subst g;refine ndi (by unfold I64;omega) (ndi ⟨by omega,by rw[Tm];omega,k2,?_⟩ (ndt (by simp only[Lt,A2];rw[Tm];omega)));rw[p6 k0 (H2 c),p6 k0 (H2 hb),h]
 rw[TT (by rw[Tm];omega),TT (by rw[Tm];omega)]at h;exact h
open Go Go.Xe Go.Sx
def ly (n:Nat):Prop:=
 ∀a f g h j k m o p q b,(nA (.l a::.l f::J8 g h j k m o p q [.i b])/\pI (.l a::.l f::J8 g h j k m o p q [.i b])<n+1)->We (cL a b 10) λX=>We [.l a,.i b] λW=>Nd (Cf W [.i 0,.l (b8 1 1 [.i b])]) (∀c d,Cf W [.i c,.l d]->We (.l a::.l f::J8 g h j k m o p q [.i (cI X c 0)]) λV=>Nb b (ln a) ((c<ln X->Nb b (ln a) (Nb c (ln X)<|Nd (nA V/\pI V<n)<|∀r,nB V [.l r]->Ni (ln d) (Nd (ln d+ln r<67108865)<|Nr (ln d)<|Nd (I64 (c+1))<|Nq (ln d+ln r)<|Nd (Cf W [.i (c+1),.l (d++r)])<|Nd (Nf W [.i (c+1),.l (d++r)]<Nf W [.i c,.l d]) True)))/\(¬c<ln X->Nq (ln d) (Nd (nB (.l a::.l f::J8 g h j k m o p q [.i b]) [.l d]) True))))
def pw (n:Nat):kq (jz.below pI (n+1)) yP ((76,jz.below pI n)::CE 0) (GJ 0) 76=ly n:=by kernel_rfl
def ep (n:Nat)(a b:a8)(c d f g h j k m o p:Int):Prop:=
 Nd (dW (.l a::.l b::J10 c d f g h j k m o p []) [.i 0,.s [],.s [],.l [],.s [],.l []]) True
def kw (n:Nat):Prop:=
 ∀a g h j k m o p q r b c,(aQ (.l a::.l g::J10 h j k m o p q r b c [])/\vU (.l a::.l g::J10 h j k m o p q r b c [])<n+1)->We (cL a b 10) λY=>We [.l a,.i b,.i c,.l Y] λW=>Nb b (ln a) ((c=0->ep n a g h j k m o p q r b c)/\(¬c=0->((16<ln Y->ep n a g h j k m o p q r b c)/\(¬16<ln Y->Nd (Cs W [.i 0,.i (cI a b 2),.s (cS a b 3),.s [],.l (cL a b 4),.s (cS a b 5),.l []]) (∀d t u v w x f,Cs W [.i d,.i t,.s u,.s v,.l w,.s x,.l f]->We (.l a::.l g::J10 h j k m o p q r (cI Y d 0) (c+(-1)) []) λV=>((d<ln Y->Nb d (ln Y) (Nd (I64 (c+(-1)))<|Nd (aQ V/\vU V<n)<|∀y z A B C D,dW V [.i y,.s z,.s A,.l B,.s C,.l D]->We [.i (d+1),.i t,.s u,.s v,.l w,.s x,.l (f++b8 6 1 [.i y,.s z,.s A,.l B,.s C,.l D])] λX=>Ni (ln f) (Nd (ln f+1<67108865)<|Nr (ln f)<|Nd (I64 (d+1))<|Nq (ln f+1)<|Nd (Cs W X)<|Nd (Ns W X<Ns W [.i d,.i t,.s u,.s v,.l w,.s x,.l f]) True)))/\(¬d<ln Y->Nq (ln f) (Nd (dW (.l a::.l g::J10 h j k m o p q r b c []) [.i t,.s u,.s v,.l w,.s x,.l f]) True))))))))
def oe (n:Nat):kq (mw.below vU (n+1)) yP ((82,mw.below vU n)::CE 0) (GJ 0) 82=kw n:=by kernel_rfl
def lr :Prop:=
 ∀d f g h j k m o p q D F,sI (.l d::.l f::J10 g h j k m o p q D F [])->Cg M1 K5 (.l d::.l f::J10 g h j k m o p q D F []) (λR=>∀C,R [.i C]->((C<0->Nd (iR (.l d::.l f::J10 g h j k m o p q D F []) (.l d::.l f::J8 g h j k m o p q [.i 11])) True)/\(¬C<0->Nb C (ln d) ((cI d C 9<0->Cg O3 V9 (.l d::.l f::J8 g h j k m o p q []) (λR=>∀G H I J K L M N O P,R (.l G::.l H::J8 I J K L M N O P [])->Cg nA nB (.l d::.l f::J8 g h j k m o p q [.i C]) (λR=>∀a,R [.l a]->Nq (ln G) (Nd (pL (.l a::.l d::.l f::J8 g h j k m o p q []) (.i 0::.l G::.l H::J8 I J K L M N O P []))<|∀c t r u w v x y z A B,pL (.l a::.l d::.l f::J8 g h j k m o p q []) (.i c::.l t::.l r::J8 u w v x y z A B [])->((c<ln a->Nb c (ln a) (Nb c (ln a)<|Nb (cI a c 0) (ln d)<|Nb (cI a c 0) (ln t)<|Nd (cI a c 0<ln t)<|Nb c (ln a)<|Nd (ln r+1<67108865)<|(1<ln r+1->Nd (I64 (u+(-1))) (Nd (I64 (v+1))<|Nd (I64 (c+1))<|Nq (ln r+1)<|Nq (ln t)<|Nd (pL (.l a::.l d::.l f::J8 g h j k m o p q []) (.i (c+1)::.l (a9 (a9 (a9 (a9 (a9 (a9 (a9 (a9 (a9 (a9 (a9 t (cI a c 0) 0 (.i (IntKind.wrap .u32 (cI d (cI a c 0) 0+1)))) (cI a c 0) 1 (.b false)) (cI a c 0) 2 (.i 0)) (cI a c 0) 3 (.s [])) (cI a c 0) 4 (.l [])) (cI a c 0) 5 (.s [])) (cI a c 0) 6 (.i 0)) (cI a c 0) 7 (.i 0)) (cI a c 0) 8 (.b false)) (cI a c 0) 9 (.i 0)) (cI a c 0) 10 (.l []))::.l (b8 1 1 [.i (cI a c 0)]++r)::J8 (u+(-1)) w (v+1) x y z A B []))<|
 Nd (Ew (.l a::.l d::.l f::J8 g h j k m o p q []) (.i (c+1)::.l (a9 (a9 (a9 (a9 (a9 (a9 (a9 (a9 (a9 (a9 (a9 t (cI a c 0) 0 (.i (IntKind.wrap .u32 (cI d (cI a c 0) 0+1)))) (cI a c 0) 1 (.b false)) (cI a c 0) 2 (.i 0)) (cI a c 0) 3 (.s [])) (cI a c 0) 4 (.l [])) (cI a c 0) 5 (.s [])) (cI a c 0) 6 (.i 0)) (cI a c 0) 7 (.i 0)) (cI a c 0) 8 (.b false)) (cI a c 0) 9 (.i 0)) (cI a c 0) 10 (.l []))::.l (b8 1 1 [.i (cI a c 0)]++r)::J8 (u+(-1)) w (v+1) x y z A B [])<Ew (.l a::.l d::.l f::J8 g h j k m o p q []) (.i c::.l t::.l r::J8 u w v x y z A B [])) True))/\(¬1<ln r+1->Nd (I64 (u+(-1))) (Nd (I64 (v+1))<|Nd (I64 (c+1))<|Nd (¬ln (Sx.over (b8 1 1 [.i (cI a c 0)]) 1 r)<ln r+1)<|Nq (ln t)<|Nd (pL (.l a::.l d::.l f::J8 g h j k m o p q []) (.i (c+1)::.l (a9 (a9 (a9 (a9 (a9 (a9 (a9 (a9 (a9 (a9 (a9 t (cI a c 0) 0 (.i (IntKind.wrap .u32 (cI d (cI a c 0) 0+1)))) (cI a c 0) 1 (.b false)) (cI a c 0) 2 (.i 0)) (cI a c 0) 3 (.s [])) (cI a c 0) 4 (.l [])) (cI a c 0) 5 (.s [])) (cI a c 0) 6 (.i 0)) (cI a c 0) 7 (.i 0)) (cI a c 0) 8 (.b false)) (cI a c 0) 9 (.i 0)) (cI a c 0) 10 (.l []))::.l (pQ (Sx.over (b8 1 1 [.i (cI a c 0)]) 1 r) 0 (ln r+1))::J8 (u+(-1)) w (v+1) x y z A B []))<|
 Nd (Ew (.l a::.l d::.l f::J8 g h j k m o p q []) (.i (c+1)::.l (a9 (a9 (a9 (a9 (a9 (a9 (a9 (a9 (a9 (a9 (a9 t (cI a c 0) 0 (.i (IntKind.wrap .u32 (cI d (cI a c 0) 0+1)))) (cI a c 0) 1 (.b false)) (cI a c 0) 2 (.i 0)) (cI a c 0) 3 (.s [])) (cI a c 0) 4 (.l [])) (cI a c 0) 5 (.s [])) (cI a c 0) 6 (.i 0)) (cI a c 0) 7 (.i 0)) (cI a c 0) 8 (.b false)) (cI a c 0) 9 (.i 0)) (cI a c 0) 10 (.l []))::.l (pQ (Sx.over (b8 1 1 [.i (cI a c 0)]) 1 r) 0 (ln r+1))::J8 (u+(-1)) w (v+1) x y z A B [])<Ew (.l a::.l d::.l f::J8 g h j k m o p q []) (.i c::.l t::.l r::J8 u w v x y z A B [])) True))))/\(¬c<ln a->Nq (ln t) (Nd (iR (.l d::.l f::J10 g h j k m o p q D F []) (.l t::.l r::J8 u w v x y z A B [.i 0])) True)))))))/\(¬cI d C 9<0->Nd (iR (.l d::.l f::J10 g h j k m o p q D F []) (.l d::.l f::J8 g h j k m o p q [.i 10])) True)))))
def oz :kq ne yP (CE 1) (GJ 1) 79=lr:=by kernel_rfl
section
variable {D :DM}{L F:a8}{K c b:Nat}{s:Sl}
def Bk (w:WF D K):∀ {f c:Nat},D.Us c->Jx (D.L.map Sl.row) f c=(bel D f c).length
 |0,_,_=>rfl|f+1,c,⟨s,hs,a⟩=>by unfold Jx bel;rw[(Rf.cells ⟨rfl,rfl,rfl⟩ hs a).2.2.2.2,UZ hs,TM,List.length_flatMap,List.map_map,Nat.add_comm];congr 2;refine List.map_congr_left λj hj=>?_;obtain⟨sj,h1,h2,_⟩:=(w.ch c s hs a).2 j hj;exact Bk w ⟨sj,h1,h2⟩
def rY (w:WF D K)(hs:D.L[c]? =some s)(a:s.used=true):(bel D 1001 c).length<=1000:=by have:=Y9 (K1 (f:=1001) w hs a) λb hb=>(J0 w hs a b hb).2;have:=List.countP_le_length (p:=λs:Sl=>s.used) (l:=D.L);have:=w.lim;omega
def Dp (w:WF D K)(hs:D.L[c]? =some s)(a:s.used=true){k:Nat}(hb:s.n.ch[k]? =some b):(c::(s.n.ch.take k).flatMap (bel D 1001)).length+(bel D 1001 b).length<=(bel D 1001 c).length/\c::(s.n.ch.take (k+1)).flatMap (bel D 1001)=(c::(s.n.ch.take k).flatMap (bel D 1001))++bel D 1001 b/\D.Us b:=by
 have ht:(s.n.ch.take (k+1)).flatMap (bel D 1001)=(s.n.ch.take k).flatMap (bel D 1001)++bel D 1001 b:=by rw[E1 hb];simp
 refine⟨?_,by rw[ht];rfl,?_⟩
 .rw[U9 w hs a]
  conv=>rhs;rw[<-UI (k+1) s.n.ch,List.flatMap_append,ht]
  simp only[TM,Tv];omega
 obtain⟨d,h1,h2,_⟩:=(w.ch c s hs a).2 b (Td hb);exact⟨d,h1,h2⟩
def J9 (hL:L=D.L.map Sl.row)(hs:D.L[c]? =some s)(a:s.used=true):(c:Int)<ln L/\cI L c 2=s.n.kind/\cL L c 4=s.n.atts.map Att.row/\cI L c 9=s.n.par/\cL L c 10=s.n.ch.map z5/\cS L c 3=s.n.tag/\cS L c 5=s.n.text/\cI L c 0=s.g:=by
 subst hL;obtain⟨h1,h2,h3,h4,d⟩:=Rf.cells (D:=D) (F:=D.free.map z5) (cs:=D.C) ⟨rfl,rfl,rfl⟩ hs a;have hc:D.L[((c:Nat):Int).toNat]? =some s:=by rw[TK];exact hs
 refine⟨h1,h2,h3,h4,d,?_⟩;simp only[cI,cS,d9 hc];unfold Sl.row;rw[Tp a];exact⟨rfl,rfl,rfl⟩
def pu (n:Nat):ly n:=by
 unfold ly;rintro L F c0 p q r t u v x i ⟨⟨D,K,c,m,w,rfl,s,hs,a⟩,hm⟩;have hL:=m.1;obtain⟨o,_,_,_,j,_⟩:=J9 hL hs a;have n0:¬(c:Int)<0:=by omega
 have hm:Jx L 1001 c<n+1:=hm;rw[hL,Bk w ⟨s,hs,a⟩]at hm;have M:=rY w hs a;refine ndi ⟨by omega,λD K c' s _ _ e hs a=>⟨by omega,by rw[show c'=c by omega];rfl⟩⟩ λk O hI=>?_;obtain⟨k0,hI⟩:=hI;obtain⟨k1,B⟩:=hI D K c s hL w rfl hs a;have C:ln (cL L c 10)=(s.n.ch.length:Int):=by rw[j];simp[ln]
 have N:ln O=((c::(s.n.ch.take k.toNat).flatMap (bel D 1001)).length:Int):=by rw[B];simp[ln]
 rw[C];refine ndi n0<|ndi o ⟨λhk=>?_,λhk=>nin<|nrn<|ndt λD K c' hL w e hs=>?_⟩
 .obtain⟨b,hb⟩:=Sx.get_at (T:=s.n.ch) k0 hk;obtain⟨t1,t2,t3⟩:=Dp w hs a hb;have z:cI (cL L c 10) k 0=b:=by rw[j];exact dm hb
  rw[z];have G:pI [.l L,.l F,.i c0,.i p,.i q,.i r,.i t,.i u,.i v,.i x,.i b]<n:=by show Jx L 1001 b<n;rw[hL,Bk w t3];simp only[TM]at t1;omega
  refine ndi n0<|ndi o<|ndi (by omega)<|ndi hk<|ndi ⟨⟨D,K,b,m,w,rfl,t3⟩,G⟩ λR f=>?_;have y:=f D K b hL w rfl t3;have P:ln R=((bel D 1001 b).length:Int):=by rw[y];simp[ln]
  refine nin<|ndi (by omega)<|nrn<|ndi (by unfold I64;have:=w.kidlen hs a;omega)<|nin<|nrn<|ndi ⟨by omega,λD K c' s hL w e hs a=>?_⟩<|ndt ?_
  .obtain⟨H,h⟩:=hI D K c' s hL w e hs a;obtain⟨_,_,_,_,d,_⟩:=J9 hL hs a;rw[<-e]at d;have E:(s.n.ch.length:Int)=ln (cL L c 10):=by rw[d];simp[ln]
   obtain⟨b',g⟩:=Sx.get_at (T:=s.n.ch) k0 (by omega);have A:cI (cL L c 10) k 0=b':=by rw[d];exact dm g
   have:b'=b:=by omega
   subst this;obtain⟨_,I,J⟩:=Dp w hs a g;refine⟨by omega,?_⟩;rw[show(k+1).toNat=k.toNat+1 by omega,I,TQ,<-h,f D K b' hL w rfl J]
  .show((cL L c 10).length-(k+1)).toNat<((cL L c 10).length-k).toNat;have:(cL L c 10).length=s.n.ch.length:=by rw[j];simp
   omega
 .obtain⟨s,hs,a⟩:=hs;obtain⟨H,h⟩:=hI D K c' s hL w e hs a;obtain⟨_,_,_,_,d,_⟩:=J9 hL hs a;rw[<-e]at d;have E:(s.n.ch.length:Int)=ln (cL L c 10):=by rw[d];simp[ln]
  rw[TT (by omega)]at h;rw[h,U9 w hs a]
def ny (n:Nat):kw n:=by
 unfold kw;rintro L F c0 N P Q R S U V i m ⟨⟨m0,m6,D,K,c,H,w,rfl,s,hs,d⟩,hm⟩;have hm:m.toNat<n+1:=hm;have hL:=H.1;obtain⟨l1,l2,l3,l4,l5,l6,l7,_⟩:=J9 hL hs d;have n0:¬(c:Int)<0:=by omega
 have C:∀ {D:DM} {K} {c':Nat} {s:Sl},L=D.L.map Sl.row->WF D K->(c:Int)=c'->D.L[c']? =some s->s.used=true->ln (cL L c 10)=(s.n.ch.length:Int):=λh1 _ h2 h3 h4=>by obtain⟨_,_,_,_,f,_⟩:=J9 h1 h3 h4;rw[h2,f];simp[ln]
 have t0:m=0\/16<ln (cL L c 10)->ep n L F c0 N P Q R S U V c m:=λhz=>by
  unfold ep;refine ndt λD K c' hL w e hs=>?_;obtain⟨s,hs,d⟩:=hs;have:R7 D m.toNat c'=ES:=by
   rcases hz with rfl|hz;rfl
   .rw[C hL w e hs d]at hz;cases m.toNat with
    |zero=>rfl|succ k=>unfold R7;rw[UZ hs,Tp (by omega)]
  rw[this];exact⟨rfl,rfl,rfl,rfl,rfl,rfl⟩
 refine ndi n0<|ndi l1 ⟨λz=>t0 (.inl z),λz=>⟨λz=>t0 (.inr z),λaa=>ndi ?_ λj k t y a x O hI=>?_⟩⟩;refine⟨by omega,by omega,rfl,λD K c' s hL w e hs d=>?_⟩;obtain⟨_,o,p,r,f,q,g,_⟩:=J9 hL hs d;rw[e];exact⟨f,o,q,rfl,p,g,rfl⟩;obtain⟨Y,I,Z,G⟩:=hI;have lz:ln (cL L c 10)<=16:=by omega
 have I:j<=ln (cL L c 10):=I;have lo:ln O=j:=Z;refine⟨λhj=>?_,λhj=>nin (nrn (ndt λD K c' hL w e hs=>?_))⟩
 .have h:∀ {D:DM} {K} {c':Nat} {s:Sl},L=D.L.map Sl.row->WF D K->(c:Int)=c'->D.L[c']? =some s->s.used=true-> ∃b:Nat,s.n.ch[j.toNat]? =some b/\cI (cL L c 10) j 0=b/\D.Us b:=by intro D K c' s hL w e hs d;have W:=C hL w e hs d;obtain⟨_,_,_,_,f,_⟩:=J9 hL hs d;obtain⟨b,hb⟩:=Sx.get_at (T:=s.n.ch) Y (by omega);obtain⟨sb,h1,h2,_⟩:=(w.ch c' s hs d).2 b (Td hb);exact⟨b,hb,by rw[e,f];exact dm hb,sb,h1,h2⟩
  obtain⟨b,hb,v,E⟩:=h hL w rfl hs d;refine ndi (by omega)<|ndi hj<|ndi (by unfold I64;omega)<|ndi ⟨⟨by omega,by omega,D,K,b,H,w,v,E⟩,?_⟩ λk' t' y' M x' u he=>?_;show(m+ -1).toNat<n;omega
  .refine nin<|ndi (by omega)<|nrn<|ndi (by unfold I64;omega)<|nin<|nrn<|ndi ⟨by omega,?_,?_,λD K c' s hL w e hs d=>?_⟩ (ndt ?_);show j+1<=ln (cL L c 10);omega;rw[Tv];show((O.length+1:Nat):Int)=j+1;omega
   .obtain⟨J,o,p,r,f,q,g⟩:=G D K c' s hL w e hs d;refine⟨J,o,p,r,f,q,?_⟩;obtain⟨b,hb,v,E⟩:=h hL w e hs d;have B:=BG (he D K b hL w v E);have ct:(b8 6 1 [.i k',.s t',.s y',.l M,.s x',.l u]:a8)=[(R7 D (m+ -1).toNat b).row]:=by rw[<-B];rfl
    have A:(m+ -1).toNat=m.toNat-1:=by omega
    have X:(j+1).toNat=j.toNat+1:=by omega
    rw[ct,g,X,E1 hb,A];simp[rows]
   show((cL L c 10).length-(j+1)).toNat<((cL L c 10).length-j).toNat;have hj:j<((cL L c 10).length:Int):=hj;omega
 .obtain⟨s,hs,d⟩:=hs;obtain⟨J,o,p,r,f,q,g⟩:=G D K c' s hL w e hs d;have W:=C hL w e hs d;have A:m.toNat=(m.toNat-1)+1:=by omega
  rw[A];unfold R7;rw[UZ hs,Tn (by omega)];rw[TT (by omega)]at g;exact⟨o,p,r,f,q,g⟩
def Xf {X:List Sl}{a:Nat}{so:Sl}{q:Sl->Sl}{f g i k l m n o p r d:Dat}(h:X[a]? =some so)(hq:(q so).row=[f,g,i,k,l,m,n,o,p,r,d]):a9 (a9 (a9 (a9 (a9 (a9 (a9 (a9 (a9 (a9 (a9 (X.map Sl.row) a 0 f) a 1 g) a 2 i) a 3 k) a 4 l) a 5 m) a 6 n) a 7 o) a 8 p) a 9 r) a 10 d=(X.modify a q).map Sl.row:=by unfold a9;simp only[B6,TK];apply List.ext_getElem?;intro j;simp only[l8,TU];by_cases e:a=j;subst e;simp only[UG,h,TO,hq];congr 1;unfold Sl.row;split<;>rfl;simp[e]
def oy :lr:=by
 unfold lr;intro L F c0 c1 y c3 c4 c5 c6 c7 i g h;obtain⟨hi,hg,hp⟩:=h;have hp':=hp;obtain⟨D,K,o,w⟩:=hp;refine fR ⟨hi,hg,o.len w⟩ ?_;by_cases hv:t9 L i g=true
 .rw[Tp hv];obtain⟨c,s,h1,h2,h3,h4,r,h6,P,h8,H,ha,hb⟩:=o.spot hv;have n0:¬i<0:=by omega
  refine⟨λh=>absurd h n0,λ_=>ndi n0<|ndi P ⟨λhk=>tE hp'<|ndi ⟨D,K,c,o,w,h2,s,h3,h4⟩ λX hX=>?_,λhk=>ndt (C2 λD K o w=>?_)⟩⟩
  .have res:∀ {D K},Rf D L F [c0,c1,y,c3,c4,c5,c6,c7]->WF D K-> ∃(c:Nat) (s:Sl),D.at i g=some c/\i=c/\D.L[c]? =some s/\s.used=true/\D.nod c=s.n/\s.n.par= -1/\X=(bel D 1001 c).map z5/\(bel D 1001 c).Nodup/\ ∀b∈bel D 1001 c,D.Us b:=λ{D K} o w=>by
    obtain⟨c,s,h1,h2,h3,h4,r,h6,P,h8,H,ha,hb⟩:=o.spot hv;have B:s.n.par= -1:=by rcases w.par c s h3 h4 with e| ⟨q,sq,e,_⟩<;>omega
    exact⟨c,s,h1,h2,h3,h4,r,B,hX D K c o.1 w h2 ⟨s,h3,h4⟩,K1 w h3 h4,λb hb=>(J0 w h3 h4 b hb).2⟩
   obtain⟨c,s,r1,r2,r3,r4,r5,r6,x,M,N⟩:=res o w;have lX:X.length=(bel D 1001 c).length:=by rw[x];simp
   have bl:=rY w r3 r4;have E:ln X=(X.length:Int):=rfl;have aa:0<=c0/\c0<=1000/\0<=y/\y<=1000:=by obtain⟨a,b,c,d,e,f,h',h1,_,h3,h4⟩:=w.cnt;have:=w.lim;have:=List.countP_le_length (p:=λs:Sl=>s.used) (l:=D.L);have hc:=o.2.2;rw[h1]at hc;simp only[Um,Up]at hc;simp only[List.forall_mem_cons]at h4;omega
   refine nin<|nrn<|ndi ⟨by omega,by omega,by simp,λD l hL hF _ _ _=>by simpa using⟨hL,hF⟩⟩ λk S F' d0 V d2 W Y Z d6 d7 hI=>?_;obtain⟨k0,k1,hd,hI⟩:=hI;simp only[Um,Up]at hd;obtain⟨rfl,rfl,rfl,rfl,rfl,rfl,rfl,rfl⟩:=hd;obtain⟨v,u⟩:=hI D _ o.1 o.2.1 M N x;have lF:F'.length<=2000:=by
    rw[u,Tm,iJ,Tv,List.length_reverse];have:D.free.length<=1000:=by
     have hs:D.free ⊆ List.range D.L.length:=λj hj=>by obtain⟨s,h1,_⟩:=w.free.2 j hj;exact List.mem_range.2 (SW.1 h1).1
     have H:=w.free.1.length_le_of_subset hs;have:=w.lim;rw[List.length_range]at H;omega
    have:((bel D 1001 c).take k.toNat).length<=(bel D 1001 c).length:=by rw[TE];omega
    omega
   have ab:ln F'=(F'.length:Int):=rfl;refine⟨λhk=>?_,λhk=>nin<|nrn<|ndt λD K o w=>?_⟩
   .rw[E]at hk⊢;have turn:∀ {D:DM} {l:Ah},L=D.L.map Sl.row->F=D.free.map z5->l.Nodup->(∀b∈l,D.Us b)->X=l.map z5-> ∃(b:Nat) (s:Sl),cI X k 0=b/\D.L[b]? =some s/\s.used=true/\((l.take k.toNat).foldl A1 D).L[b]? =some s/\(l.take (k+1).toNat).foldl A1 D=A1 ((l.take k.toNat).foldl A1 D) b:=λ{D l} h1 h2 h3 h4 r=>by
     have lj:k<(l.length:Int):=by have:=congrArg List.length r;simp at this;omega
     obtain⟨b,hb⟩:=Sx.get_at (T:=l) k0 lj;obtain⟨s,I,J⟩:=h4 b (Td hb);have nb:b∉l.take k.toNat:=λm=>by obtain⟨j,hj⟩:=UU m;rw[TB]at hj;split at hj;rename_i hlt;exact Em h3 hj hb hlt rfl;cases hj
     exact⟨b,s,by rw[r];exact dm hb,I,J,by rw[G2 nb];exact I,by rw[p6 k0 hb,List.foldl_append];rfl⟩
    obtain⟨b,G,I,J,q3,q4,q5⟩:=turn o.1 o.2.1 M N x;have t:=(J9 o.1 J q3)
    have A:(b:Int)<ln S:=by rw[v];simp only[ln,Tm];have:=(SW.1 q4).1;omega
    rw[I,t.2.2.2.2.2.2.2];have gb:=w.gen G (Td J);have lim:=w.lim;have ew:IntKind.wrap .u32 ((G.g:Int)+1)=((G.g+1:Nat):Int):=by rw[Int.natCast_add];exact P4 (by simp[IntKind.min,IntKind.signed];omega) (by simp[IntKind.max,IntKind.signed,IntKind.bits];omega)
    rw[ew];have R:¬k<0:=by omega
    have U:¬(b:Int)<0:=by omega
    have z:∀O:a8,O=[.i (b:Int)]::F'->pL (.l X::.l L::.l F::J8 c0 V y W Y Z d6 d7 []) (.i (k+1)::.l (a9 (a9 (a9 (a9 (a9 (a9 (a9 (a9 (a9 (a9 (a9 S b 0 (.i ((G.g+1:Nat):Int))) b 1 (.b false)) b 2 (.i 0)) b 3 (.s [])) b 4 (.l [])) b 5 (.s [])) b 6 (.i 0)) b 7 (.i 0)) b 8 (.b false)) b 9 (.i 0)) b 10 (.l []))::.l O::J8 (c0-k+ -1) V (y+k+1) W Y Z d6 d7 []):=λO Q=>by
     refine⟨by omega,by omega,by simp only[Um,Up,Ul];omega,λD l h1 h2 h3 h4 r=>?_⟩;obtain⟨v,u⟩:=hI D l h1 h2 h3 h4 r;obtain⟨b',s',p1,p2,p3,p4,p5⟩:=turn h1 h2 h3 h4 r;have:b'=b:=by omega
     subst this;have eg:s'.g=G.g:=by have e1:=t.2.2.2.2.2.2.2;rw[(J9 h1 p2 p3).2.2.2.2.2.2.2]at e1;omega
     rw[p5,Q,u,v];refine⟨?_,rfl⟩;rw[Xf (q:=λs=>⟨s.g+1,false,C5 0 [] []⟩) p4 (by rw[<-eg];rfl)];rfl
    refine ndi R<|ndi hk<|ndi R<|ndi hk<|ndi U<|ndi t.1<|ndi U<|ndi A<|ndi A<|ndi R<|ndi hk<|ndi (by omega) ⟨λh1=>?_,λh1=>?_⟩;exact ndi (by unfold I64;omega)<|ndi (by unfold I64;omega)<|ndi (by unfold I64;omega)<|nin<|nrn<|nin<|nrn<|ndi (z _ rfl) (ndt (by show(X.length-(k+1)).toNat<(X.length-k).toNat;omega));have e0:F'= []:=SZ (by omega);subst e0;exact ndi (by unfold I64;omega)<|ndi (by unfold I64;omega)<|ndi (by unfold I64;omega)<|ndi (by simp[ln,Sx.over,b8])<|nin<|nrn<|ndi (z _ rfl) (ndt (by show(X.length-(k+1)).toNat<(X.length-k).toNat;omega))
   .rw[E]at hk;obtain⟨c,s,r1,r2,r3,r4,r5,r6,x,M,N⟩:=res o w;obtain⟨v,u⟩:=hI D _ o.1 o.2.1 M N x;have lX:X.length=(bel D 1001 c).length:=by rw[x];simp
    rw[TT (by omega)]at v u;show Rf (S3 D i g).1 _ _ _/\(0:Int)=(S3 D i g).2;unfold S3;rw[r1];simp only;rw[r5,Tn (by simp[r6])];refine⟨⟨v,u,?_⟩,rfl⟩;show _=(D.C.modify 0 _).modify 2 _;have ek:k=((bel D 1001 c).length:Int):=by omega
    rw[<-o.2.2,ek];rfl
  obtain⟨c,s,h1,h2,h3,h4,r,h6,P,h8,H,ha,_⟩:=o.spot hv;unfold S3;rw[h1];simp only;rw[r,Tp (by omega)];exact⟨rfl,rfl⟩
 rw[Tn hv];refine⟨λ_=>ndt (C2 λD K o w=>?_),λh=>absurd (by decide) h⟩;unfold S3;rw[o.none hv];exact⟨rfl,rfl⟩
