/- The conditions of contracts, as the engine's printer has written them, and that the kernel comes to the same.
  Conditions: none. -/
import Derived.Test.YtoegfalhkackeaaGreatB13
set_option maxRecDepth 100000
set_option linter.all false
noncomputable section
namespace Go.D
open Go Go.Xe Go.Sx
def Wd :Prop:=
 ∀b a,FW [.s b,.s a]->We [.s b,.s a] λV=>((b=b->((a=a->((Op.bytesLess b a=true->Nd (fX V [.i (-1)]) True)/\(¬Op.bytesLess b a=true->Nd (¬Op.bytesLess b a=true) ((b=a->Nd (fX V [.i 0]) True)/\(¬b=a->Nd (fX V [.i 1]) True)))))/\(¬a=a->Nd (fX V [.i 1]) True)))/\(¬b=b->((a=a->Nd (fX V [.i (-1)]) True)/\(¬a=a->Nd (fX V [.i 0]) True))))
def yi :kq WO yN (CC 0) (GI 0) 188=Wd:=by kernel_rfl
def Wg :Prop:=
 ∀a,Bo [.l a]->Nd (yS [.l a] [.i 0]) (∀c,yS [.l a] [.i c]->We (FV [.l a] [.i (c+1)]<FV [.l a] [.i c]) λV=>((c<ln a->Nb c (ln a) (Cg fV T5 [.i 1,.s ([97]:Ae),.s [],.l (b8 2 1 [.s (cS a c 0),.s (cS a c 2)]),.s [],.l []] λR=>∀b,R [.i b]->((b=0->((cB a c 1=true->((cS a c 2=([]:Ae)->Nd (I64 (c+1)) (Nd (yS [.l a] [.i (c+1)])<|Nd V True))/\(¬cS a c 2=([]:Ae)->Nd (fU [.l a] [.i 14]) True)))/\(¬cB a c 1=true->Nd (I64 (c+1)) (Nd (yS [.l a] [.i (c+1)])<|Nd V True))))/\(¬b=0->Nd (fU [.l a] [.i 14]) True))))/\(¬c<ln a->Nd (HX [.l a] [.i 1]) (∀b,HX [.l a] [.i b]->We (b+(-1)) λW=>((b<ln a->Nb b (ln a) (Nd (I64 W)<|Nb W (ln a)<|(Op.bytesLess (cS a b 0) (cS a W 0)=true->Nd (fU [.l a] [.i 16]) True)/\(¬Op.bytesLess (cS a b 0) (cS a W 0)=true->((cS a b 0=cS a W 0->Nd (fU [.l a] [.i 16]) True)/\(¬cS a b 0=cS a W 0->Nd (I64 (b+1)) (Nd (HX [.l a] [.i (b+1)])<|Nd (cfMu [.l a] [.i (b+1)]<cfMu [.l a] [.i b]) True))))))/\(¬b<ln a->Nd (fU [.l a] [.i 0]) True))))))
def yq :kq VX yN (CC 0) (GI 0) 146=Wg:=by kernel_rfl
def jt (a:Int)(d b c:a8)(f g:Int):Prop:=
 We [.l d,.l c] λV=>We [.i f,.i (a+1),.l (b++b8 2 1 [.s (cS d (-1) 0),.s (cS d (-1) 1)]),.i g] λW=>We [.i f,.i (a+1),.l (b++b8 2 1 [.s (cS c a 0),.s (cS c a 2)]),.i g] λX=>We [.i f,.i a,.l b,.i g] λY=>We [.i f,.i (a+1),.l b,.i 11] λZ=>(a<0->Nd (false=true) (Nd ((-1)<ln d)<|Ni (ln b)<|Nd (ln b+1<67108865)<|Nr (ln b)<|Nd (I64 (a+1))<|Nq (ln b+1)<|Nd (fD V W)<|Nd (aA V W<aA V Y) True))/\(¬a<0->Nb a (ln c) ((cB c a 1=true->Nd (I64 (a+1)) (Nq (ln b)<|Nd (fD V Z)<|Nd (aA V Z<aA V Y) True))/\(¬cB c a 1=true->Nb a (ln c) (Nb a (ln c)<|Ni (ln b)<|Nd (ln b+1<67108865)<|Nr (ln b)<|Nd (I64 (a+1))<|Nq (ln b+1)<|Nd (fD V X)<|Nd (aA V X<aA V Y) True))))
def js (a:Int)(b c d:a8)(f g:Int):Prop:=
 We [.i (a+1),.i f,.l (c++b8 2 1 [.s (cS b a 0),.s (cS b a 1)]),.i g] λV=>Nb a (ln b)<|Ni (ln c)<|Nd (ln c+1<67108865)<|Nr (ln c)<|Nd (I64 (a+1))<|Nq (ln c+1)<|Nd (fD [.l b,.l d] V)<|Nd (aA [.l b,.l d] V<aA [.l b,.l d] [.i a,.i f,.l c,.i g]) True
def jr (b:Int)(f:a8)(a:Int)(d c:a8)(g:Int):Prop:=
 We [.l f,.l c] λV=>We [.i (b+1),.i (a+1),.l (d++b8 2 1 [.s (cS f b 0),.s (cS f b 1)]),.i g] λW=>We [.i (b+1),.i (a+1),.l (d++b8 2 1 [.s (cS c a 0),.s (cS c a 2)]),.i g] λX=>We [.i b,.i a,.l d,.i g] λY=>We (I64 (b+1)) λZ=>We (I64 (a+1)) λT=>We [.i (b+1),.i (a+1),.l d,.i 11] λS=>We [.i (b+1),.i (a+1),.l d,.i g] λK=>(b=ln f->jt a f d c b g)/\(¬b=ln f->((a=ln c->js b f d c a g)/\(¬a=ln c->Nb b (ln f) (Nb a (ln c)<|Cg FW fX [.s (cS f b 0),.s (cS c a 0)] λR=>∀h,R [.i h]->((h<0->js b f d c a g)/\(¬h<0->((0<h->jt a f d c b g)/\(¬0<h->((a<0->Nb b (ln f) (Ni (ln d)<|Nd (ln d+1<67108865)<|Nr (ln d)<|Nd Z<|Nd T<|Nq (ln d+1)<|Nd (fD V W)<|Nd (aA V W<aA V Y) True))/\(¬a<0->Nb a (ln c) ((cB c a 1=true->((b<0->Nd Z (Nd T<|Nq (ln d)<|Nd (fD V S)<|Nd (aA V S<aA V Y) True))/\(¬b<0->Nd Z (Nd T<|Nq (ln d)<|Nd (fD V K)<|Nd (aA V K<aA V Y) True))))/\(¬cB c a 1=true->Nb a (ln c) (Nb a (ln c)<|Ni (ln d)<|Nd (ln d+1<67108865)<|Nr (ln d)<|Nd Z<|Nd T<|Nq (ln d+1)<|Nd (fD V X)<|Nd (aA V X<aA V Y) True)))))))))))))
def Wh :Prop:=
 ∀a b,Bi [.l a,.l b]->We [.l a,.l b] λV=>Cg fV T5 [.i 1,.s ([97]:Ae),.s [],.l a,.s [],.l []] (λR=>∀h,R [.i h]->((h=0->Cg Bo fU [.l b] (λR=>∀j,R [.i j]->((j=0->Nd (fD V [.i 0,.i 0,.l [],.i 0]) (∀f g c d,fD V [.i f,.i g,.l c,.i d]->((f<ln a->jr f a g c b d)/\(¬f<ln a->((g<ln b->jr f a g c b d)/\(¬g<ln b->((d=0->((8<ln c->Nd (dE V [.l [],.i 3]) True)/\(¬8<ln c->Nd (d=0) (Nd (¬ln c<0)<|Ni (ln c)<|Nq (ln c)<|Nq (ln c)<|Nd (dE V [.l c,.i 0]) True))))/\(¬d=0->Nd (¬d=0) (Nd (dE V [.l [],.i d]) True)))))))))/\(¬j=0->Nd (dE V [.l [],.i j]) True))))/\(¬h=0->Nd (dE V [.l [],.i h]) True)))
def za :kq WR yN (CC 1) (GI 1) 148=Wh:=by kernel_rfl
def yh :Wd:=by intro a b _;refine⟨λ_=>⟨λ_=>⟨λh=>ndt ?_,λh=>ndi h ⟨λe=>ndt ?_,λe=>ndt ?_⟩⟩,λh=>absurd rfl h⟩,λh=>absurd rfl h⟩<;>show _=FX _ _<;>unfold FX lt;rw[Tp h];rw[Tn h,Tp e];rw[Tn h,Tn e]
def kP {e e':Ed}(h: [e.row]=[e'.row]):e=e':=by obtain⟨n,d,v⟩:=e;obtain⟨n',a,c⟩:=e';simp only[Ed.row,Um,Dat.s.injEq,Dat.b.injEq,Up]at h;obtain⟨rfl,rfl,rfl⟩:=h;rfl
def JX {n v:Str}:E3 (.mk 1 [97] [] [⟨n,v⟩] [] [])↔B3 n=true/\H9 v=true:=by
 have:B3 [97]=true:=by decide
 simp[E3,U7,AllAs,Y4,c9.k,c9.x,c9.t,c9.y,c9.a,c9.c,c9.size,c9.sizes,c9.depth,c9.depths,kH,Asc,this]
def yp :Wg:=by
 rintro _ ⟨e,rfl⟩;have p:ln [e.row]=1:=rfl;refine ndi ⟨by omega,by simp,λ_ _ h=>by omega⟩ λi hI=>?_;obtain⟨i0,c,hi⟩:=hI;have hi:=hi e rfl;have c:i<=1:=c;refine⟨λh1=>?_,λh1=>ndi (Uh _) λj hj=>⟨λh=>?_,λh=>ndt λe' he=>?_⟩⟩
 .have z:i=0:=by omega
  subst z;have f:cS [e.row] 0 0=e.n:=rfl;have g:cS [e.row] 0 2=e.v:=rfl;have m:cB [e.row] 0 1=e.d:=rfl;rw[f,g,m];refine ndi (by omega) (ndi h1 (ndi ⟨.mk 1 [97] [] [⟨e.n,e.v⟩] [] [],rfl,rfl,rfl,rfl,rfl,rfl⟩ λr hr=>?_));have hr:=(hr (.mk 1 [97] [] [⟨e.n,e.v⟩] [] []) ⟨rfl,rfl,rfl,rfl,rfl,rfl⟩).1;rw[JX]at hr;have a:bK e=true->Nd (I64 (0+1)) (Nd (yS [.l [e.row]] [.i (0+1)]) (Nd (FV [.l [e.row]] [.i (0+1)]<FV [.l [e.row]] [.i 0]) True)):=λh=>
   ndi (by unfold I64;omega) (ndi ⟨by omega,by simp,λe' he _=>by cases kP he;exact h⟩ (ndt (by show(((1:Nat):Int)-(0+1)).toNat<(((1:Nat):Int)-0).toNat;decide)))
  refine⟨λr0=>⟨λb=>⟨λhv=>a ?_,λhv=>ndt λe' he=>?_⟩,λb=>a ?_⟩,λr0=>ndt λe' he=>?_⟩;obtain⟨h2,h3⟩:=hr.1 r0;rw[hv]at h3;simp[bK,h2,h3,hv];cases kP he;simp[bK,b,hv];obtain⟨h2,h3⟩:=hr.1 r0;simp[bK,h2,h3,b];cases kP he;constructor;intro h;omega;intro h;simp[bK]at h;exact absurd (hr.2 h.1) r0
 have hj:1<=j:=hj;omega;cases kP he;exact⟨λ_=>hi (by omega),λ_=>rfl⟩
section
variable {l :List Att}{e:Ed}{i k r:Int}{o:List Att}
def MgK (l:List Att)(e:Ed)(i k:Int)(o:List Att)(r:Int):Prop:=((r=0/\jK l e i k=bad1 l e)\/(r=11/\bad1 l e=true))/\(o.length:Int)<=i+k/\o++fP l e i k=N8 l e
def zO (i0:0<=i)(a:i<=l.length)(k0:0<=k)(k1:k<=1)(h:MgK l e i k o r):fD [.l (l.map Att.row),.l [e.row]] [.i i,.i k,.l (o.map Att.row),.i r]:=
 ⟨i0,by rw[Tm];exact a,k0,k1,λl' e' h1 h2=>by cases T0 h1;cases kP h2;exact⟨h.1,o,rfl,h.2⟩⟩
def uJ (o:List Att)(n v:Str):o.map Att.row++b8 2 1 [.s n,.s v]=(o++ [(⟨n,v⟩:Att)]).map Att.row:=by rw[TQ];rfl
def gv (hl:l.length<=8)(i0:0<=i)(b:i<=l.length)(hk:k=0)(h:MgK l e i k o r)(hq:fP l e i 0=edA e++fP l e i 1)(hb:jK l e i 0=e.d):jt k (l.map Att.row) (o.map Att.row) [e.row] i r:=by
 subst hk;obtain⟨h1,h2,h3⟩:=h;have c:cS [e.row] 0 0=e.n:=rfl;have f:cS [e.row] 0 2=e.v:=rfl;have g:cB [e.row] 0 1=e.d:=rfl;have lo:ln (o.map Att.row)=(o.length:Int):=by simp[ln]
 have j:(0:Int)+1=1:=rfl;rw[hb]at h1;unfold jt;rw[c,f,g,uJ o e.n e.v,j];refine⟨λh=>by omega,λ_=>ndi (by omega) (ndi (show(0:Int)<1 by omega) ⟨λa=>?_,λa=>?_⟩)⟩;refine ndi (by unfold I64;omega) (nin (nrn (ndi (zO i0 b (by omega) (by omega) ⟨.inr ⟨rfl,?_⟩,by omega,?_⟩) (ndt ?_))));rcases h1 with h1|h1;rw[<-h1.2];exact a;exact h1.2;rw[hq,edA,Tp a]at h3;exact h3;simp only[aA,Tm,TM,UR];omega;refine ndi (by omega) (ndi (show(0:Int)<1 by omega) (ndi (by omega) (ndi (show(0:Int)<1 by omega) (nin (ndi (by omega) (nrn (ndi (by unfold I64;omega) (nin (nrn (ndi (zO i0 b (by omega) (by omega) ⟨?_,by simp;omega,?_⟩) (ndt ?_)))))))))));rcases h1 with h1|h1;exact .inl ⟨h1.1,by rw[<-h1.2];unfold jK;rw[Tn (by omega)];simpa using a⟩;exact .inr h1;rw[hq,edA,Tn a,<-Th]at h3;exact h3;simp only[aA,Tm,TM,UR];omega
def gu (hl:l.length<=8)(i0:0<=i){a:Att}(b:l[i.toNat]? =some a)(k0:0<=k)(k1:k<=1)(h:MgK l e i k o r)(hq:fP l e i k=a::fP l e (i+1) k)(hb:jK l e i k=jK l e (i+1) k):js i (l.map Att.row) (o.map Att.row) [e.row] k r:=by
 obtain⟨h1,h2,h3⟩:=h;have f:=(SW.1 b).1;have c:cS (l.map Att.row) i 0=a.n:=by simp only[cS,d9 b];rfl
 have d:cS (l.map Att.row) i 1=a.v:=by simp only[cS,d9 b];rfl
 have lo:ln (o.map Att.row)=(o.length:Int):=by simp[ln]
 have g:ln (l.map Att.row)=(l.length:Int):=by simp[ln]
 unfold js;rw[c,d,uJ];refine ndi (by omega) (ndi (by omega) (nin (ndi (by omega) (nrn (ndi (by unfold I64;omega) (nin (nrn (ndi (zO (by omega) (by omega) k0 k1 ⟨by rw[<-hb];exact h1,by simp;omega,?_⟩) (ndt ?_)))))))));rw[hq]at h3;rw[Th];exact h3;simp only[aA,Tm,TM,UR];omega
def go (hl:l.length<=8)(i0:0<=i)(m:i<=l.length)(k0:0<=k)(k1:k<=1)(h:MgK l e i k o r)(hlt:i<l.length\/k<1):jr i (l.map Att.row) k (o.map Att.row) [e.row] r:=by
 have x:ln (l.map Att.row)=(l.length:Int):=by simp[ln]
 unfold jr;refine⟨λhi=>gv hl i0 m (by omega) h ?_ ?_,λhi=>?_⟩;unfold fP;rw[Tp rfl,Tn (by omega),List.drop_eq_nil_of_le (by omega)];unfold N8;simp;unfold jK;rw[Tp rfl,List.drop_eq_nil_of_le (by omega)];rfl;obtain⟨a,f⟩:=Sx.get_at (T:=l) i0 (by omega);have b:=Ic f;have e0:=eG i0;refine⟨λhk=>?_,λhk=>?_⟩;have hk:k=1:=hk;refine gu hl i0 f k0 k1 h ?_ ?_;unfold fP;rw[Tn (by omega),Tn (by omega),b,e0];unfold jK;rw[Tn (by omega),Tn (by omega)]
 .have hk:k=0:=by have hk:¬k=1:=hk;omega
  subst hk;have s:cS (l.map Att.row) i 0=a.n:=by simp only[cS,d9 f];rfl
  have t:cS [e.row] 0 0=e.n:=rfl;have u:cS [e.row] 0 2=e.v:=rfl;have w:cB [e.row] 0 1=e.d:=rfl;have lo:ln (o.map Att.row)=(o.length:Int):=by simp[ln]
  have g:fP l e i 0=N8 (a::l.drop (i.toNat+1)) e:=by unfold fP;rw[Tp rfl,b]
  have j:jK l e i 0=bad1 (a::l.drop (i.toNat+1)) e:=by unfold jK;rw[Tp rfl,b]
  rw[s,t,u,w];refine ndi (by omega) (ndi (by omega) (ndi (by omega) (ndi (show(0:Int)<1 by omega) (ndi trivial λc hc=>?_))));have hc:c=FX a.n e.n:=hc;have p:(0:Int)+1=1:=rfl;refine⟨λc0=>?_,λc0=>⟨λq=>?_,λq=>?_⟩⟩
  .have hlt:lt a.n e.n=true:=by
    unfold FX at hc;split at hc
    .assumption
    split at hc<;>omega
   refine gu hl i0 f k0 k1 h ?_ ?_;rw[g];unfold N8;rw[Tp hlt];unfold fP;rw[Tp rfl,e0];rw[j];unfold bad1;rw[Tp hlt];unfold jK;rw[Tp rfl,e0]
  .have hn:¬lt a.n e.n=true/\ ¬a.n=e.n:=by unfold FX at hc;split at hc;omega;split at hc;omega;exact⟨by assumption,by assumption⟩
   refine gv hl i0 m rfl h ?_ ?_;rw[g];unfold N8;rw[Tn hn.1,Tn hn.2];unfold fP;rw[Tn (by omega),b];rw[j];unfold bad1;rw[Tn hn.1,Tn hn.2]
  .have hn:¬lt a.n e.n=true/\a.n=e.n:=by unfold FX at hc;split at hc;omega;split at hc;exact⟨by assumption,by assumption⟩;omega
   obtain⟨h1,h2,h3⟩:=h;have p1:fP l e i 0=edA e++fP l e (i+1) 1:=by rw[g];unfold N8;rw[Tn hn.1,Tp hn.2];unfold fP;rw[Tn (by omega),e0]
   have p2:jK l e i 0=jK l e (i+1) 1:=by rw[j];unfold bad1;rw[Tn hn.1,Tp hn.2];unfold jK;rw[Tn (by omega)]
   rw[p1]at h3;rw[p2]at h1;refine⟨λh=>by omega,λ_=>ndi (by omega) (ndi (show(0:Int)<1 by omega) ⟨λb=>⟨λh=>by omega,λ_=>?_⟩,λb=>?_⟩)⟩;rw[p];refine ndi (by unfold I64;omega) (ndi (by unfold I64;omega) (nin (nrn (ndi (zO (by omega) (by omega) (by omega) (by omega) ⟨h1,by omega,?_⟩) (ndt ?_)))));rw[edA,Tp b]at h3;exact h3;simp only[aA,Tm,TM,UR];omega;rw[p,uJ];refine ndi (by omega) (ndi (show(0:Int)<1 by omega) (ndi (by omega) (ndi (show(0:Int)<1 by omega) (nin (ndi (by omega) (nrn (ndi (by unfold I64;omega) (ndi (by unfold I64;omega) (nin (nrn (ndi (zO (by omega) (by omega) (by omega) (by omega) ⟨h1,by simp;omega,?_⟩) (ndt ?_))))))))))));rw[edA,Tn b,<-Th]at h3;exact h3;simp only[aA,Tm,TM,UR];omega
end
def Gm {l:List Att}(h:vAt l):E3 (.mk 1 [97] [] l [] []):=by obtain⟨h1,h2,h3⟩:=h;refine⟨⟨.inr ⟨rfl,(show B3 [97]=true from by decide),.inl rfl,rfl,h1,(show 0<=16 by omega),h2,h3,List.Pairwise.nil⟩,trivial⟩,by simp[c9.size,c9.sizes],by simp[c9.depth,c9.depths]⟩
def yz :Wh:=by
 rintro _ _ ⟨l,e,rfl,rfl,hl,he⟩;have q:ln (l.map Att.row)=(l.length:Int):=by simp[ln]
 have un:∀ {O:a8} {r:Int},O=(apF l e).1.map Att.row->r=(apF l e).2->dE [.l (l.map Att.row),.l [e.row]] [.l O,.i r]:=λh1 h2 l' e' d c=>by cases T0 d;cases kP c;exact⟨h1,h2⟩
 refine ndi ⟨.mk 1 [97] [] l [] [],rfl,rfl,rfl,rfl,rfl,rfl⟩ λx hx=>⟨λx0=>ndi ⟨e,rfl⟩ λy hy=>⟨λm=>ndi ?_ λi k O r hI=>?_,λm=>absurd ((hy e rfl).2 he) m⟩,λx0=>absurd ((hx _ ⟨rfl,rfl,rfl,rfl,rfl,rfl⟩).1.2 (Gm hl)) x0⟩
 refine zO (o:=[]) (by omega) (by omega) (by omega) (by omega) ⟨.inl ⟨rfl,?_⟩,by simp,?_⟩;unfold jK;rw[Tp rfl];rfl;unfold fP;rw[Tp rfl];rfl
 .obtain⟨i0,f,k0,k1,p⟩:=hI;obtain⟨h1,o,rfl,h2,h3⟩:=p l e rfl rfl;rw[Tm]at f;have k1:k<=1:=k1;have j:=hl.1;have lo:ln (o.map Att.row)=(o.length:Int):=by simp[ln]
  have g:MgK l e i k o r:=⟨h1,h2,h3⟩
  refine⟨λhi=>go j i0 f k0 k1 g (.inl (by omega)),λhi=>⟨λhk=>go j i0 f k0 k1 g (.inr hk),λhk=>?_⟩⟩;have hk:¬k<1:=hk;have b:o=N8 l e:=by unfold fP at h3;rw[Tn (by omega),List.drop_eq_nil_of_le (by omega),UF]at h3;exact h3
  have a:(r=0/\bad1 l e=false)\/(r=11/\bad1 l e=true):=by unfold jK at h1;rw[Tn (by omega)]at h1;rcases h1 with h|h;exact .inl ⟨h.1,h.2.symm⟩;exact .inr h
  refine⟨λr0=>⟨λn=>ndt (un ?_ ?_),λn=>ndi r0 (ndi (by omega) (nin (nin (nrn (nin (nrn (ndt (un ?_ ?_))))))))⟩,λr0=>ndi r0 (ndt (un ?_ ?_))⟩;all_goals unfold apF
  rw[Tn (by rcases a with h|h;simp[h.2];omega),<-b,Tp (by omega)];rfl;rw[Tn (by rcases a with h|h;simp[h.2];omega),<-b,Tp (by omega)];rw[Tn (by rcases a with h|h;simp[h.2];omega),<-b,Tn (by omega)];rw[Tn (by rcases a with h|h;simp[h.2];omega),<-b,Tn (by omega)];rw[Tp (by rcases a with h|h;omega;exact h.2)];rfl;rw[Tp (by rcases a with h|h;omega;exact h.2)];rcases a with h|h;exact absurd h.1 r0;exact h.1
def R9 (D:DM)(i g:Int)(e:Ed)(w:Int):DM×Int:=match D.at i g with
 |none=>(D,11)
 |some c=>if(D.nod c).kind≠1 then(D,1)else if bK e=false then(D,w)else
  if(apF (D.nod c).atts e).2=0 then((D.setN c λn=> {n with atts:=(apF n.atts e).1}).cnt 6,0)else(D,if(apF (D.nod c).atts e).2=11 then 17 else(apF (D.nod c).atts e).2)
def Bv :Ar->Prop
 | [.i i,.i g,.s _,.b _,.s _,.i w,.l S,.i fr,.i lv,.i a,.i b,.i c,.i d,.i e,.i f,.i h,.i m,.l _,.l N]=>U32 i/\U32 g/\w≠0/\rD S N fr lv [a,b,c,d,e,f,h,m]|_=>False
def dG :Ar->Ar->Prop
 | [.i i,.i g,.s n,.b z,.s v,.i w,.l S,.i fr,.i lv,.i a,.i b,.i c,.i d,.i e,.i f,.i h,.i m,.l _,.l N],[.i r,.l S',.i fr',.i lv',.i a',.i b',.i c',.i d',.i e',.i f',.i h',.i m',.l _,.l N']=>
  Z5 S N fr lv [a,b,c,d,e,f,h,m] S' N' fr' lv' [a',b',c',d',e',f',h',m'] λD=>((R9 D i g ⟨n,z,v⟩ w).1,r=(R9 D i g ⟨n,z,v⟩ w).2)
 |_,_=>False
def WN:=mkD "edt" [hV,.agg [.g .str,.g .bool,.g .str],iV] Bv [iV] dG
def PQ :Ay->List (Nat×(Fm->SS->F9)):=W3
def NW :Nat->List (Ay×Con)
 |_=>[(146,VX),(148,WR),(LVn,cq "lives")]
def RM :Nat->Aw->D4:=V8
open Go Go.Xe Go.Sx
def jm (a:a8)(u v f g h j k m o p d q:Int)(r c:a8)(w:Ae)(x:Bool)(y:Ae)(A:Int):Prop:=
 We (.i u::.i v::.s w::.b x::.s y::.i A::JD a f g h j k m o p d q r c) λV=>We (Cg u9 u6 (.i u::.i v::JE a f g h j k m o p d q r)) λW=>We (JD a f g h j k m o p d q r c) λX=>Nq (ln a)<|W λR=>∀B,R [.i B]->Nb B (ln c) (Cg Bi dE [.l (cL c B 2),.l (b8 3 1 [.s w,.b x,.s y])] λR=>∀C t,R [.l C,.i t]->((t=11->Nq (ln a) (Nd (dG V (.i 17::X)) True))/\(¬t=11->((t=0->Nq (ln a) (W λR=>∀z,R [.i z]->Nb z (ln c) (Nb z (ln c)<|Nd (I64 (d+1))<|Nq (ln a)<|Nd (dG V (.i 0::JD a f g h j k m o p (d+1) q r (a9 c z 2 (.l C)))) True)))/\(¬t=0->Nd (¬t=0) (Nq (ln a)<|Nd (dG V (.i t::X)) True))))))
def x8 :Prop:=
 ∀u v w x y t a d f g h j k m o p q r c,Bv (.i u::.i v::.s w::.b x::.s y::.i t::JD a d f g h j k m o p q r c)->We (.i u::.i v::JE a d f g h j k m o p q r) λW=>We (JD a d f g h j k m o p q r c) λV=>Nq (ln a) (Cg I0 E2 W λR=>∀A,R [.b A]->((A=true->Nq (ln a) (Cg u9 u6 W λR=>∀z,R [.i z]->Nb z (ln c) ((cI c z 0=1->Cg Bo fU [.l (b8 3 1 [.s w,.b x,.s y])] (λR=>∀B,R [.i B]->((B=0->jm a u v d f g h j k m o p q r c w x y t)/\(¬B=0->((t=0->jm a u v d f g h j k m o p q r c w x y t)/\(¬t=0->Nd (¬t=0) (Nq (ln a)<|Nd (dG (.i u::.i v::.s w::.b x::.s y::.i t::V) (.i t::V)) True)))))))/\(¬cI c z 0=1->Nq (ln a) (Nd (dG (.i u::.i v::.s w::.b x::.s y::.i t::V) (.i 1::V)) True)))))/\(¬A=true->Nq (ln a) (Nd (dG (.i u::.i v::.s w::.b x::.s y::.i t::V) (.i 11::V)) True))))
def x7 :kq WN PQ (NW 0) (RM 0) 89=x8:=by kernel_rfl
section
variable {D :DM}{S N st:a8}{fr lv i g w c0 c1 c2 c3 c4 c5 c6 c7:Int}{K:Nat}{e:Ed}
def qf (hp:∃D K,RlC D S N fr lv [c0,c1,c2,c3,c4,c5,c6,c7]/\WF D K)(hv:t9 S i g=true)(hi:U32 i)(hg:U32 g)(hk:cI N (atF S i g) 0=1)(he:bK e=true):jm S i g fr lv c0 c1 c2 c3 c4 c5 c6 c7 st N e.n e.d e.v w:=by
 have hp':=hp;obtain⟨D,K,⟨P,hc⟩,y⟩:=hp;have m:=P.slen y;have facts:∀ {D K},RlC D S N fr lv [c0,c1,c2,c3,c4,c5,c6,c7]->WF D K-> ∃c,D.at i g=some c/\0<=atF S i g/\atF S i g<N.length/\cL N (atF S i g) 2=(D.nod c).atts.map Att.row/\vAt (D.nod c).atts/\R9 D i g e w=if(apF (D.nod c).atts e).2=0 then((D.setN c λn=> {n with atts:=(apF n.atts e).1}).cnt 6,0)else(D,if(apF (D.nod c).atts e).2=11 then 17 else(apF (D.nod c).atts e).2):=by
  intro D K M y;obtain⟨c,h⟩:=M.1.vld.1 hv;obtain⟨s,h1,h2,h3,h4,J,L,I⟩:=M.1.node h;have kd:s.n.kind=1:=by rw[<-hk];unfold cI;rw[I];rfl
  refine⟨c,h,J,L,?_,?_,?_⟩;rw[UZ h1];unfold cL;rw[I];rfl;rw[UZ h1];exact y.atts c s h1 h3;unfold R9;rw[h];simp only;rw[Tn (by rw[UZ h1];simp[kd]),Tn (by simp[he])]
 obtain⟨c,V,A,B,C,R,W⟩:=facts ⟨P,hc⟩ y;unfold jm;refine G0 ⟨hi,hg,m⟩ (C8 A B (ndi ⟨(D.nod c).atts,e,C,rfl,R,he⟩ λO r t=>?_));have t:=t (D.nod c).atts e C rfl;have all:∀ {D' u},RlC D' S N fr lv [c0,c1,c2,c3,c4,c5,c6,c7]->WF D' u-> ∃c',D'.at i g=some c'/\O=(apF (D'.nod c').atts e).1.map Att.row/\r=(apF (D'.nod c').atts e).2/\(D'.nod c').atts=(D.nod c).atts/\R9 D' i g e w=if r=0 then((D'.setN c' λn=> {n with atts:=(apF n.atts e).1}).cnt 6,0)else(D',if r=11 then 17 else r):=by intro D' u b f;obtain⟨c',o,E,H,x,p,T⟩:=facts b f;have:(D'.nod c').atts=(D.nod c).atts:=T0 (x.symm.trans C);refine⟨c',o,by rw[this];exact t.1,by rw[this];exact t.2,this,?_⟩;rw[T,this,<-t.2]
 refine⟨λr1=>nin (nrn (ndt (D2 λD' u b f=>?_))),λr1=>⟨λr0=>G0 ⟨hi,hg,m⟩ (C8 A B (C8 A B (ndi (y.i64 (k:=6) (by rw[<-hc];rfl)) (nin (nrn (ndt ?_)))))),λr0=>ndi r0 (nin (nrn (ndt (D2 λD' u b f=>?_))))⟩⟩;obtain⟨c',o,E,H,x,p⟩:=all b f;show(R9 D' i g e w).1=D'/\_=(R9 D' i g e w).2;rw[p,Tn (by omega),Tp r1];exact⟨rfl,rfl⟩
 .have U:(apF (D.nod c).atts e).1.map Att.row=O:=t.1.symm;refine GF (q:=λn=> {n with atts:=(apF (D.nod c).atts e).1}) (q':=λr=> {r with a:=O}) (F:=λr=>r.set 2 (.l O)) (k:=6) hv (λ_=>rfl) (λG n=>by unfold Nod.rn;rw[U]) rfl rfl (λD' u c' b f h=>?_) hp';obtain⟨Q,o,E,H,x,p⟩:=all b f;rw[h]at o;cases o;show(R9 D' i g e w).1=_/\_=(R9 D' i g e w).2;rw[p,Tp r0];refine⟨?_,rfl⟩;obtain⟨s,h1,h2,h3,h4,J,L,I⟩:=b.1.node h;have hs:s.n.atts=(D.nod c).atts:=by rw[<-x,UZ h1]
  have:D'.setN c' (λn=> {n with atts:=(apF n.atts e).1})=D'.setN c' λn=> {n with atts:=(apF (D.nod c).atts e).1}:=by unfold DM.setN;congr 1;apply List.ext_getElem?;intro j;simp only[l8];by_cases z:c'=j;subst z;rw[Tp rfl,Tp rfl,h1];simp[hs];rw[Tn z,Tn z]
  rw[this]
 obtain⟨c',o,E,H,x,p⟩:=all b f;show(R9 D' i g e w).1=D'/\_=(R9 D' i g e w).2;rw[p,Tn r0,Tn r1];exact⟨rfl,rfl⟩
def x6 :x8:=by
 unfold x8;intro i g n d v w S fr lv c0 c1 c2 c3 c4 c5 c6 c7 st N h;obtain⟨hi,hg,p,hp⟩:=h;have hp':=hp;obtain⟨D,K,⟨o,hc⟩,k⟩:=hp;have b:=o.slen k;refine Y7 ⟨hi,hg,b⟩ ⟨λhv=>?_,λhv=>nin (nrn (ndt (D2 λD K f k=>?_)))⟩
 .obtain⟨c,a⟩:=o.vld.1 hv;obtain⟨s,h1,h2,h3,h4,l,m,j⟩:=o.node a;refine G0 ⟨hi,hg,b⟩ (C8 l m ⟨λhk=>ndi ⟨⟨n,d,v⟩,rfl⟩ λr hr=>⟨λr0=>qf (e:=⟨n,d,v⟩) hp' hv hi hg hk ((hr ⟨n,d,v⟩ rfl).1 r0),λr0=>⟨λw0=>absurd w0 p,λ_=>ndi p (nin (nrn (ndt (D2 λD K f k=>?_))))⟩⟩,λhk=>nin (nrn (ndt (D2 λD K f k=>?_)))⟩)
  .obtain⟨c,a⟩:=f.1.vld.1 hv;obtain⟨s,h1,h2,h3,h4,l,m,j⟩:=f.1.node a;have kd:s.n.kind=1:=by rw[<-hk];unfold cI;rw[j];rfl
   unfold R9;rw[a];simp only;rw[Tn (by rw[UZ h1];simp[kd]),Tp (by simpa using λh=>r0 ((hr ⟨n,d,v⟩ rfl).2 h))];exact⟨rfl,rfl⟩
  .obtain⟨c,a⟩:=f.1.vld.1 hv;obtain⟨s,h1,h2,h3,h4,l,m,j⟩:=f.1.node a;have kd:s.n.kind≠1:=by intro h;apply hk;rw[<-h];unfold cI;rw[j];rfl
   unfold R9;rw[a];simp only;rw[Tp (by rw[UZ h1];exact kd)];exact⟨rfl,rfl⟩
 unfold R9;rw[f.1.none hv];exact⟨rfl,rfl⟩
end
def hdF :a8->Int->a8
 | [],_=>[]
 |r::S,k=>if(r.getD 1 (.i 0)).toBool then [.i k,r.getD 0 (.i 0)]::hdF S (k+1)else hdF S (k+1)
def waF (S:a8):Nat->Int->a8
 |0,_=>[]
 |f+1,i=>if 0<i then [.i (i-1),.i (cI S (i-1) 0)]::waF S f (cI S (i-1) 2)else []
def roB (S N:a8)(r:Ar):Bool:=decide (cI N (atF S (r.getD 0 (.i 0)).toInt (r.getD 1 (.i 0)).toInt) 7=0)&&decide (cI N (atF S (r.getD 0 (.i 0)).toInt (r.getD 1 (.i 0)).toInt) 8=0)
def Ge :Ar->Prop
 | .l S:: .i _:: .i lv::_=>S.length<=1000/\lv=(hdF S 0).length/\ ∀r∈S,∃n:Int,r.getD 0 (.i 0)= .i n|_=>False
def Gf :Ar->Ar->Prop
 | .l S::_,[.l O]=>O=hdF S 0|_,_=>False
def AF :Ar->Prop
 | [.l S,.i fr,.i lv,.i _,.i _,.i _,.i _,.i _,.i _,.i _,.i _,.l _,.l N]=>∃D K,Rl D.gen D S N fr lv/\WF D K|_=>False
def GS:=AF
def Ht :Ar->Prop
 | .l S:: .i fr:: .i lv::_=>∃D K N,Rl D.gen D S N fr lv/\WF D K|_=>False
def Hu :Ar->Ar->Prop
 | .l S:: .i fr:: .i lv::_,[.l O]=>O=waF S 1001 fr|_,_=>False
def GT :Ar->Ar->Prop
 | [.l S,.i fr,.i lv,.i _,.i _,.i _,.i _,.i _,.i _,.i _,.i _,.l _,.l N],[.l O]=>O=(hdF S 0).filter (roB S N)|_,_=>False
def bI :Ar->Prop
 | .i i:: .i g::d=>U32 i/\U32 g/\AF d|_=>False
def K4 :Ar->Ar->Prop
 | [.i i,.i g,.l S,.i fr,.i lv,.i _,.i _,.i _,.i _,.i _,.i _,.i _,.i _,.l _,.l N],[.i k,.s t,.l a,.s x,.i tp,.i sz,.b pn,.i pi,.i pg,.l ch,.i r]=>
  if t9 S i g=true then k=cI N (atF S i g) 0/\t=cS N (atF S i g) 1/\a=cL N (atF S i g) 2/\x=cS N (atF S i g) 3/\tp=cI N (atF S i g) 4/\sz=cI N (atF S i g) 5/\pn=cB N (atF S i g) 6/\pi=cI N (atF S i g) 7/\pg=cI N (atF S i g) 8/\ch=cL N (atF S i g) 9/\r=0 else r=11
 |_,_=>False
def vwV :Vs:= .agg [.g (.int .u8),.g .str,.g (.clp rV),.g .str,.g (.int .i64),.g (.int .i64),.g .bool,.g (.int .u32),.g (.int .u32),.g (.clp tHd)]
def WK:=mkR "hds" [dV] dmB dmF Ge [.one (.g (.lst tHd))] Gf
def Wl:=mkR "wai" [dV] dmB dmF Ht [.one (.g (.clp tHd))] Hu
def Wt:=mkR "roo" [dV] oQ Bu GS [.one (.g (.clp tHd))] GT
def fq:=mkR "lok" [dV,hV] oQ Bu bI [vwV,iV] K4
def tV :Ar->Ar->Prop
 | [.l S,.i lv],[.l O,.i k]=>0<=k/\k<=S.length/\(O.length:Int)<=k/\O++hdF (S.drop k.toNat) k=hdF S 0|_,_=>False
def tW :Ar->Ar->Nat
 | [.l S,_],[_,.i k]=>(S.length-k).toNat|_,_=>0
def chL (S:a8):Nat->Int->Nat
 |0,_=>0|f+1,i=>if 0<i then chL S f (cI S (i-1) 2)+1 else 0
def CM :Ar->Ar->Prop
 | [.l S,.i fr],[.l O,.i i]=>0<=i/\i<=S.length/\O++waF S (1001-O.length) i=waF S 1001 fr/\O.length+chL S 1001 i<=1000/\(∃(T:List RS) (l:Ah),S=T.map RS.row/\Ch T i l/\l.Nodup)|_,_=>False
def On :Ar->Ar->Nat
 | [.l S,_],[_,.i i]=>chL S 1001 i|_,_=>0
def vO :Ar->Ar->Prop
 | [.l S,.l N,.l H],[.l O,.i k]=>0<=k/\k<=H.length/\(O.length:Int)<=k/\O++(H.drop k.toNat).filter (roB S N)=H.filter (roB S N)|_,_=>False
def vP :Ar->Ar->Nat
 | [_,_,.l H],[_,.i k]=>(H.length-k).toNat|_,_=>0
def freT (t:Nat):Fm->SS->List (So×E):=λf s=>match lk f t with
 |some (.ptr b _ _ _)=>match s.get b with
  |some (.cells (_::c::_) _ _)=>svG c|_=>[]
 |_=>[]
def livT (t:Nat):Fm->SS->List (So×E):=λf s=>match lk f t with
 |some (.ptr b _ _ _)=>match s.get b with
  |some (.cells (_::_::c::_) _ _)=>svG c|_=>[]
 |_=>[]
def qS :Ay->List (Nat×(Fm->SS->F9))
 |135=>[(0,D5 U0 "wal" (F5 [(3,.acc tHd 2),(4,.int .i64)] nob) (gh2 (wJ 0) (freT 0)) CM On)]
 |134=>[(0,D5 U0 "hdl" (F5 [(3,.acc tHd 2),(18,.int .i64)] nob) (gh2 (wJ 0) (livT 0)) tV tW)]
 |83=>[(0,D5 U0 "rol" (F5 [(3,.acc tHd 2),(13,.int .i64)] nob) (gh2 (wJ 0) (gh2 uT (j9 11))) vO vP)]
 |_=>[]
def CD :Nat->List (Ay×Con)
 |_=>[(LVn,cq "lives")]
def vD :Nat->Aw->D4
 |0,P=>V8 0 P|_,P=>(134,kro P U0 WK)::V8 0 P
open Go Go.Xe Go.Sx
def xf :Prop:=
 ∀d f b g h j k m o p q r,Ge (JE d f b g h j k m o p q r)->We (List.replicate (b).toNat [.i 0,.i 0]:a8) λX=>We [.l d,.i b] λW=>Nb b 1048577 (Nd (¬ln X<0)<|Nr b<|Ni b<|Nd (tV W [.l (pQ X 0 0),.i 0])<|∀a c,tV W [.l a,.i c]->We (Sx.over a (ln a) (b8 2 1 [.i (IntKind.wrap .u32 c),.i (cI d c 0)])) λV=>((c<ln d->Nb c (ln d) (Nd (c<ln d)<|(cB d c 1=true->Ni (ln a) (Nd (ln a+1<67108865)<|(b<ln a+1->Nr (ln a) (Nd (I64 (c+1))<|Nq (ln a+1) False))/\(¬b<ln a+1->Ni b (Nd (I64 (c+1))<|Nd (¬ln V<ln a+1)<|Nr b<|Ni b<|Nd (tV W [.l (pQ V 0 (ln a+1)),.i (c+1)])<|Nd (tW W [.l (pQ V 0 (ln a+1)),.i (c+1)]<tW W [.l a,.i c]) True))))/\(¬cB d c 1=true->Nd (I64 (c+1)) (Nq (ln a)<|Nr b<|Ni b<|Nd (tV W [.l a,.i (c+1)])<|Nd (tW W [.l a,.i (c+1)]<tW W [.l a,.i c]) True))))/\(¬c<ln d->Nq (ln a) (Nd (Gf (JE d f b g h j k m o p q r) [.l a]) True))))
def xe :kr WK qS (CD 0) (vD 0) 134=xf:=by kernel_rfl
def qj :Prop:=
 ∀b d f g h j k m o p q r,Ht (JE b d f g h j k m o p q r)->Nd (CM [.l b,.i d] [.l [],.i d]) (∀c a,CM [.l b,.i d] [.l c,.i a]->((0<a->Nd (I64 (a+(-1))) (Nd (I64 (a+(-1)))<|Nb (a+(-1)) (ln b)<|Nd (a+(-1)<ln b)<|Ni (ln c)<|Nd (ln c+1<67108865)<|Nr (ln c)<|Nd (I64 (a+(-1)))<|Nb (a+(-1)) (ln b)<|Nd (a+(-1)<ln b)<|Nq (ln c+1)<|Nd (CM [.l b,.i d] [.l (c++b8 2 1 [.i (IntKind.wrap .u32 (a+(-1))),.i (cI b (a+(-1)) 0)]),.i (cI b (a+(-1)) 2)])<|
 Nd (On [.l b,.i d] [.l (c++b8 2 1 [.i (IntKind.wrap .u32 (a+(-1))),.i (cI b (a+(-1)) 0)]),.i (cI b (a+(-1)) 2)]<On [.l b,.i d] [.l c,.i a]) True))/\(¬0<a->Nd (¬ln c<0) (Ni (ln c)<|Nq (ln c)<|Nq (ln c)<|Nd (Hu (JE b d f g h j k m o p q r) [.l c]) True))))
def qi :kr Wl qS (CD 0) (vD 0) 135=qj:=by kernel_rfl
def ia (a:Int)(b c d f:a8):Prop:=
 We [.l c,.l d,.l f] λV=>Nd (I64 (a+1))<|Nq (ln b)<|Nd (vO V [.l b,.i (a+1)])<|Nd (vP V [.l b,.i (a+1)]<vP V [.l b,.i a]) True
def sf :Prop:=
 ∀f h j k m o p q r s t u d,GS (JD f h j k m o p q r s t u d)->We (JE f h j k m o p q r s t u) λX=>Nq (ln f) (Cg Ge Gf X λR=>∀a,R [.l a]->We [.l f,.l d,.l a] λV=>Nd (vO V [.l [],.i 0]) (∀c b,vO V [.l c,.i b]->We [.l (c++b8 2 1 [.i (cI a b 0),.i (cI a b 1)]),.i (b+1)] λW=>((b<ln a->Nb b (ln a) (Nq (ln f)<|Cg u9 u6 (.i (cI a b 0)::.i (cI a b 1)::X) λR=>∀g,R [.i g]->Nb g (ln d) ((cI d g 7=0->((cI d g 8=0->Ni (ln c) (Nd (ln c+1<67108865)<|Nr (ln c)<|Nd (I64 (b+1))<|Nq (ln c+1)<|Nd (vO V W)<|Nd (vP V W<vP V [.l c,.i b]) True))/\(¬cI d g 8=0->ia b c f d a)))/\(¬cI d g 7=0->ia b c f d a))))/\(¬b<ln a->Nd (¬ln c<0) (Ni (ln c)<|Nq (ln c)<|Nq (ln c)<|Nd (GT (JD f h j k m o p q r s t u d) [.l c]) True)))))
def se :kr Wt qS (CD 1) (vD 1) 83=sf:=by kernel_rfl
def wk :Prop:=
 We (b8 2 0 []) λV=>∀f g d h j k m o p q r t u v a,bI (.i f::.i g::JD d h j k m o p q r t u v a)->We (.i f::.i g::JE d h j k m o p q r t u v) λQ=>We (.i f::.i g::JD d h j k m o p q r t u v a) λX=>Nq (ln d) (Cg I0 E2 Q λR=>∀x,R [.b x]->((x=true->Nq (ln d) (Cg u9 u6 Q λR=>∀c,R [.i c]->We (b8 2 0 []++cL a c 2) λE=>We (b8 2 0 []++cL a c 9) λG=>We (cI a c 8) λH=>We (cI a c 7) λN=>We (cB a c 6) λM=>We (cI a c 5) λL=>We (cI a c 4) λK=>We (cS a c 3) λS=>We (cS a c 1) λT=>We (cI a c 0) λZ=>We (cL a c 2) λY=>We (cL a c 9) λW=>Nb c (ln a) (∀(y:Bool),(y=true->ln Y=0->∀(w:Bool),(w=true->ln W=0->Nd (K4 X [.i Z,.s T,.l [],.s S,.i K,.i L,.b M,.i N,.i H,.l [],.i 0]) True)/\(¬w=true->Nd (ln W<67108865) ((0<ln W->Nd (¬ln W<0) (Ni (ln W)<|Nq (ln W)<|Nq (ln W)<|Nd (K4 X [.i Z,.s T,.l [],.s S,.i K,.i L,.b M,.i N,.i H,.l G,.i 0]) True))/\(¬0<ln W->Nd (¬ln W<0) (Ni (ln W)<|Nd (¬0<ln W)<|Nr (ln W)<|Nd (¬ln (Sx.over V 0 W)<ln W)<|Nd (K4 X [.i Z,.s T,.l [],.s S,.i K,.i L,.b M,.i N,.i H,.l (pQ (Sx.over V 0 W) 0 (ln W)),.i 0]) True)))))/\(¬y=true->Nd (ln Y<67108865) ((0<ln Y->Nd (¬ln Y<0) (Ni (ln Y)<|Ni (ln Y)<|∀(w:Bool),(w=true->ln W=0->Nr (ln Y) (Nq (ln Y)<|Nd (K4 X [.i Z,.s T,.l E,.s S,.i K,.i L,.b M,.i N,.i H,.l [],.i 0]) True))/\(¬w=true->Nd (ln W<67108865) ((0<ln W->Nd (¬ln W<0) (Ni (ln W)<|Ni (ln W)<|Nr (ln Y)<|Nq (ln Y)<|Nr (ln W)<|Nq (ln W)<|Nd (K4 X [.i Z,.s T,.l E,.s S,.i K,.i L,.b M,.i N,.i H,.l G,.i 0]) True))/\(¬0<ln W->Nd (¬ln W<0) (Ni (ln W)<|Nd (¬0<ln W)<|Nr (ln Y)<|Nq (ln Y)<|Nr (ln W)<|Nd (¬ln (Sx.over V 0 W)<ln W)<|Nd (K4 X [.i Z,.s T,.l E,.s S,.i K,.i L,.b M,.i N,.i H,.l (pQ (Sx.over V 0 W) 0 (ln W)),.i 0]) True))))))/\(¬0<ln Y->Nd (¬ln Y<0) (Ni (ln Y)<|Nd (¬0<ln Y)<|∀(w:Bool),(w=true->ln W=0->Nr (ln Y) (Nd (¬ln (Sx.over V 0 Y)<ln Y)<|Nd (K4 X [.i Z,.s T,.l (pQ (Sx.over V 0 Y) 0 (ln Y)),.s S,.i K,.i L,.b M,.i N,.i H,.l [],.i 0]) True))/\(¬w=true->Nd (ln W<67108865) ((0<ln W->Nd (¬ln W<0) (Ni (ln W)<|Ni (ln W)<|Nr (ln Y)<|Nd (¬ln (Sx.over V 0 Y)<ln Y)<|Nr (ln W)<|Nq (ln W)<|Nd (K4 X [.i Z,.s T,.l (pQ (Sx.over V 0 Y) 0 (ln Y)),.s S,.i K,.i L,.b M,.i N,.i H,.l G,.i 0]) True))/\(¬0<ln W->Nd (¬ln W<0) (Ni (ln W)<|Nd (¬0<ln W)<|Nr (ln Y)<|Nd (¬ln (Sx.over V 0 Y)<ln Y)<|Nr (ln W)<|Nd (¬ln (Sx.over V 0 W)<ln W)<|Nd (K4 X [.i Z,.s T,.l (pQ (Sx.over V 0 Y) 0 (ln Y)),.s S,.i K,.i L,.b M,.i N,.i H,.l (pQ (Sx.over V 0 W) 0 (ln W)),.i 0]) True)))))))))))/\(¬x=true->Nd (K4 X [.i 0,.s [],.l [],.s [],.i 0,.i 0,.b false,.i 0,.i 0,.l [],.i 11]) True)))
def wj :kr fq qS (CD 0) (vD 0) 50=wk:=by kernel_rfl
def Mh {S:a8}{k:Int}(h0:0<=k)(h1:k<S.length):∃r,r∈S/\(∀j,z8 S k j=r.getD j (.i 0))/\hdF (S.drop k.toNat) k=if(r.getD 1 (.i 0)).toBool then [.i k,r.getD 0 (.i 0)]::hdF (S.drop (k+1).toNat) (k+1)else hdF (S.drop (k+1).toNat) (k+1):=by obtain⟨r,r1,a⟩:=cC h0 h1;exact⟨r,UC (by rw[r1];exact List.mem_cons_self),a,by rw[r1];rfl⟩
def Ke {O:a8}{r:Ar}:pQ (Sx.over O (ln O) [r]) 0 (ln O+1)=O++ [r]:=by
 unfold pQ Sx.over;have e:(ln O+1).toNat=O.length+1:=by simp only[ln];omega
 have a:(ln O).toNat=O.length:=by simp only[ln];omega
 rw[e,a,List.take_length,List.drop_of_length_le (l:=O) (by omega),UF,Int.toNat_zero,UK];exact TT (by simp)
def xc :xf:=by
 unfold xf;intro S fr lv c0 g j l o p q s st h;obtain⟨h1,h2,h3⟩:=h;have e:∀(S:a8) (k:Int),(hdF S k).length<=S.length:=by
  intro S;induction S with
  |nil=>intro k;exact Tq _
  |cons r S f=>intro k;unfold hdF;have:=f (k+1);split<;>simp<;>omega
 have:=e S 0;have ls:ln S<=1000:=by simp only[ln];omega
 refine ndi (by omega) (ndi (by omega) (ndi (by simp only[ln];omega) (nrn (nin (ndi ⟨by omega,by omega,by simp[pQ],by simp[pQ]⟩ λO k hI=>?_)))));obtain⟨k0,k1,k2,k3⟩:=hI;have lo:ln O<=1000:=by simp only[ln];omega
 refine⟨λhk=>?_,λhk=>nin (nrn (ndt ?_))⟩
 .have c:k<S.length:=hk;obtain⟨r,m,r1,d⟩:=Mh k0 c;obtain⟨n,hn⟩:=h3 r m;have a:cB S k 1=(r.getD 1 (.i 0)).toBool:=by simp only[cB,r1]
  have b:(.i (cI S k 0):Dat)=r.getD 0 (.i 0):=by simp only[cI,r1,hn];rfl
  refine ndi (by omega) (ndi hk (ndi hk ⟨λhb=>?_,λhb=>?_⟩))
  .rw[a]at hb;rw[d,Tp hb]at k3;have lk:O.length+1<=(hdF S 0).length:=by rw[<-k3];simp
   have w:IntKind.wrap .u32 k=k:=P4 (by simp[IntKind.min,IntKind.signed];omega) (by simp[IntKind.max,IntKind.signed,IntKind.bits];omega);have row:(b8 2 1 [.i (IntKind.wrap .u32 k),.i (cI S k 0)]:a8)=[[.i k,r.getD 0 (.i 0)]]:=by rw[w,<-b];rfl
   rw[row,Ke];refine nin (ndi (by omega) ⟨λh=>?_,λh=>nin (ndi (by unfold I64;omega) (ndi ?_ (nrn (nin (ndi ⟨by omega,by omega,by simp;omega,?_⟩ (ndt ?_))))))⟩);simp only[ln]at h;omega;simp only[Sx.over,ln,Tv,TE,TW,TM,UR];omega;rw[Th];exact k3;simp only[tW];omega
  rw[a]at hb;rw[d,Tn hb]at k3;refine ndi (by unfold I64;omega) (nin (nrn (nrn (nin (ndi ⟨by omega,by omega,by omega,k3⟩ (ndt ?_))))));simp only[tW];omega
 have hk:¬k<(S.length:Int):=hk;rw[List.drop_eq_nil_of_le (by omega)]at k3;show O=hdF S 0;rw[<-k3];simp[hdF]
def wi :wk:=by
 unfold wk;intro i g S fr lv c0 u v w x y z C st N h;obtain⟨hi,hg,D,K,p,q⟩:=h;have j:=p.slen q;refine Y7 ⟨hi,hg,j⟩ ⟨λhv=>?_,λhv=>ndt ?_⟩
 .obtain⟨c,hk⟩:=p.vld.1 hv;obtain⟨s,h1,h2,h3,h4,E,F,t⟩:=p.node hk;have H:ln (cL N (atF S i g) 2)<=8:=by
   have:cL N (atF S i g) 2=s.n.atts.map Att.row:=by unfold cL;rw[t];rfl
   rw[this];simp only[ln,Tm];have:=(q.atts c s h1 h3).1;omega
  have I:ln (cL N (atF S i g) 9)<=1000:=by
   have:cL N (atF S i g) 9=s.n.ch.map (B2 D.gen):=by unfold cL;rw[t];rfl
   rw[this];simp only[ln,Tm];have:=q.kidlen h1 h3;omega
  have a:∀ {A B:a8},A=cL N (atF S i g) 2->B=cL N (atF S i g) 9->K4 [.i i,.i g,.l S,.i fr,.i lv,.i c0,.i u,.i v,.i w,.i x,.i y,.i z,.i C,.l st,.l N] [.i (cI N (atF S i g) 0),.s (cS N (atF S i g) 1),.l A,.s (cS N (atF S i g) 3),.i (cI N (atF S i g) 4),.i (cI N (atF S i g) 5),.b (cB N (atF S i g) 6),.i (cI N (atF S i g) 7),.i (cI N (atF S i g) 8),.l B,.i 0]:=λf d=>by show ite _ _ _;rw[Tp hv];exact⟨rfl,rfl,f,rfl,rfl,rfl,rfl,rfl,rfl,d,rfl⟩
  refine G0 ⟨hi,hg,j⟩ (C8 E F ?_);have k:∀ {L:a8},ln L=0->[]=L:=λh=>(SZ (by simp only[ln]at h;omega)).symm;have o:∀ {L:a8},0<=ln L:=λ{L}=>by simp only[ln];omega
  have ov:∀ {L:a8},¬0<ln L->Sx.over (b8 2 0 []) 0 L=L:=λ{L} h=>by have:=k (L:=L) (by have:=o (L:=L);omega);subst this;rfl
  have pt:∀ {L:a8},¬0<ln L->pQ (Sx.over (b8 2 0 []) 0 L) 0 (ln L)=L:=λ{L} h=>by have:=k (L:=L) (by have:=o (L:=L);omega);subst this;rfl
  have J:=o (L:=cL N (atF S i g) 2);have zB:=o (L:=cL N (atF S i g) 9);exactλG=>⟨λ_ m r=>⟨λ_ e=>ndt (a (k m) (k e)),λ_=>ndi (by omega) ⟨λd=>ndi (by omega) (nin (nin (nrn (nin (nrn (ndt (a (k m) rfl))))))),λd=>ndi (by omega) (nin (ndi d (nrn (ndi (by rw[ov d];omega) (ndt (a (k m) (pt d)))))))⟩⟩,
   λ_=>ndi (by omega) ⟨λf=>ndi (by omega) (nin (nin λr=>⟨λ_ e=>nrn (nin (nrn (ndt (a rfl (k e))))),λ_=>ndi (by omega) ⟨λd=>ndi (by omega) (nin (nin (nrn (nin (nrn (nrn (nin (nrn (ndt (a rfl rfl)))))))))),λd=>ndi (by omega) (nin (ndi d (nrn (nin (nrn (nrn (ndi (by rw[ov d];omega) (ndt (a rfl (pt d))))))))))⟩⟩)),
    λf=>ndi (by omega) (nin (ndi f λr=>⟨λ_ e=>nrn (ndi (by rw[ov f];omega) (ndt (a (pt f) (k e)))),λ_=>ndi (by omega) ⟨λd=>ndi (by omega) (nin (nin (nrn (ndi (by rw[ov f];omega) (nrn (nin (nrn (ndt (a (pt f) rfl))))))))),λd=>ndi (by omega) (nin (ndi d (nrn (ndi (by rw[ov f];omega) (nrn (ndi (by rw[ov d];omega) (ndt (a (pt f) (pt d)))))))))⟩⟩))⟩⟩
 show ite _ _ _;rw[Tn hv]
section
variable {D :DM}{S N:a8}{fr lv i k:Int}{K:Nat}{T:List RS}{M:List RN}{l:Ah}{G:Nat->Nat}
def Ch.len :∀ {l:Ah} {i:Int},Ch T i l-> ∀f,l.length<=f->chL (T.map RS.row) f i=l.length
 | [],i,h,f,_=>by have h:i=0:=h;subst h;cases f<;>simp[chL]
 |a::l,i,⟨h1,r,h2,h3,h4⟩,f,hf=>by
  obtain⟨f,rfl⟩:∃k,f=k+1:=⟨f-1,by simp at hf;omega⟩
  have e:i-1=(a:Int):=by omega
  have hr:T[((a:Nat):Int).toNat]? =some r:=by rw[TK];exact h2
  unfold chL;rw[Tp (by omega),e,show cI (T.map RS.row) a 2=r.nx by simp only[cI];rw[d9 hr];rfl,h4.len f (by simp at hf;omega)];rfl
def Ch.rng :∀ {l:Ah} {i:Int},Ch T i l->0<=i/\i<=T.length
 | [],i,h=>by have h:i=0:=h;omega|a::l,i,⟨h1,r,h2,h3,h4⟩=>by have:=(SW.1 h2).1;omega
def Ch.le (h:Ch T i l)(hn:l.Nodup):l.length<=T.length:=by
 have hs:l ⊆ List.range T.length:=λj hj=>by obtain⟨r,h1,_⟩:=h.unused j hj;exact List.mem_range.2 (SW.1 h1).1
 simpa using hn.length_le_of_subset hs
def qh :qj:=by
 unfold qj;intro S fr lv c0 v x y z A B C st h;obtain⟨D,K,N,⟨T,M,rfl,rfl,b⟩,p⟩:=h;have hl:=b.len;have lim:=p.lim;have fl:=b.free.le b.nodup;have o:=b.free.rng;refine ndi ⟨o.1,by rw[Tm];exact o.2,rfl,by rw[b.free.len 1001 (by omega)];simp;omega,T,_,rfl,b.free,b.nodup⟩ λO i hI=>?_;obtain⟨i0,q,m,d,T',l,n,c,hn⟩:=hI;rw[n]at q m d⊢;have t:T'.length=T.length:=by have:=congrArg List.length n;simpa using this.symm
 have F:=c.le hn;have cl:=c.len 1001 (by omega);rw[cl]at d;have lo:ln O<=1000:=by simp only[ln];omega
 have u:0<=ln O:=by simp only[ln];omega
 have s:ln (T'.map RS.row)=(T.length:Int):=by simp[ln,t]
 refine⟨λhi=>?_,λhi=>ndi (by omega) (nin (nin (nrn (nin (nrn (ndt ?_))))))⟩
 .cases l with
  |nil=>have:i=0:=c;omega|cons a l=>
   obtain⟨h1,r,h2,h3,h4⟩:=c;have E:=(SW.1 h2).1;have e:i+ -1=(a:Int):=by omega
   have e':i-1=(a:Int):=by omega
   have hr:T'[((a:Nat):Int).toNat]? =some r:=by rw[TK];exact h2
   have nx:cI (T'.map RS.row) a 2=r.nx:=by simp only[cI];rw[d9 hr];rfl
   rw[e];have w:IntKind.wrap .u32 (a:Int)=a:=P4 (by simp[IntKind.min,IntKind.signed]) (by simp[IntKind.max,IntKind.signed,IntKind.bits];omega);rw[w,nx];have b0:(a:Int)<ln (T'.map RS.row):=by rw[s];omega
   have g:I64 (a:Int):=by unfold I64;omega
   have j:=(List.nodup_cons.1 hn).2;have d:O.length+(l.length+1)<=1000:=d;have hg:=h4.rng;refine ndi g (ndi g (ndi (by omega) (ndi b0 (ndi b0 (nin (ndi (by omega) (nrn (ndi g (ndi (by omega) (ndi b0 (ndi b0 (nin (nrn (ndi ⟨hg.1,by rw[Tm];exact hg.2,?_,?_,T',l,rfl,h4,j⟩ (ndt ?_)))))))))))))))
   .rw[<-m,Th];congr 1;have:(1001-O.length)=(1001-(O++b8 2 1 [.i (a:Int),.i (cI (T'.map RS.row) a 0)]).length)+1:=by
     have:(O++b8 2 1 [.i (a:Int),.i (cI (T'.map RS.row) a 0)]).length=O.length+1:=by rw[Tv];rfl
     omega
    rw[this]
    conv=>rhs;unfold waF
    rw[Tp hi,e',nx];rfl
   rw[h4.len 1001 (by omega),Tv];show O.length+1+l.length<=1000;omega;show chL (T'.map RS.row) 1001 r.nx<chL (T'.map RS.row) 1001 i;rw[h4.len 1001 (by omega),cl];simp
 .show O=waF (T'.map RS.row) 1001 fr;rw[<-m];have:∀f,waF (T'.map RS.row) f i=[]:=λf=>by cases f<;>simp[waF,hi]
  rw[this,UF]
def Ik :∀ {T:List RS} {k:Int} {r:Ar},r∈hdF (T.map RS.row) k-> ∃(j:Nat) (q:RS),T[j]? =some q/\q.u=true/\r=[.i (k+j),.i q.g]
 | [],_,_,h=>by simp[hdF]at h|q::T,k,r,h=>by
  rw[TV]at h;unfold hdF at h;have a:r∈hdF (T.map RS.row) (k+1)-> ∃(j:Nat) (q':RS),(q::T)[j]? =some q'/\q'.u=true/\r=[.i (k+j),.i q'.g]:=λh=>by obtain⟨j,q',h1,h2,h3⟩:=Ik h;exact⟨j+1,q',by simpa using h1,h2,by rw[h3];simp;omega⟩
  by_cases b:q.u=true;rw[Tp (by simpa [RS.row,Dat.toBool]using b)]at h;rcases TH.1 h with h|h;exact⟨0,q,rfl,b,by rw[h];simp[RS.row]⟩;exact a h;rw[Tn (by simpa [RS.row,Dat.toBool]using b)]at h;exact a h
def BE :∀ {T:List RS} {k:Int},(hdF (T.map RS.row) k).length=T.countP (·.u)
 | [],_=>rfl|q::T,k=>by rw[TV];unfold hdF;by_cases a:q.u=true;rw[Tp (by simpa [RS.row,Dat.toBool]using a),TM,BE,List.countP_cons_of_pos (by exact a)];rw[Tn (by simpa [RS.row,Dat.toBool]using a),BE,List.countP_cons_of_neg (by exact a)]
def RlT.count (h:RlT G D T M fr lv):T.countP (·.u)=D.L.countP (·.used):=by
 have:T.map (·.u)=D.L.map (·.used):=by
  apply List.ext_getElem?;intro j;simp only[TU];cases hs:D.L[j]? with
  |none=>rw[US (by rw[h.len];exact List.getElem?_eq_none_iff.1 hs)];rfl|some s=>obtain⟨r,h1,h2,h3,_⟩:=h.row j s hs;rw[h1];simp[h3]
 have c:=congrArg (List.countP id) this;simpa [List.countP_map,Function.comp_def]using c
def Rl.hds (h:Rl D.gen D S N fr lv)(w:WF D K):(S.length<=1000/\lv=(hdF S 0).length/\ ∀r∈S,∃n:Int,r.getD 0 (.i 0)= .i n)/\ ∀r∈hdF S 0,∃(i g:Int) (c:Nat),r=[.i i,.i g]/\D.at i g=some c:=by have hl:=h.slen w;obtain⟨T,M,rfl,rfl,h⟩:=h;refine⟨⟨hl,by rw[h.lv,BE,h.count],λr hr=>?_⟩,λr hr=>?_⟩;obtain⟨q,_,rfl⟩:=Uy.1 hr;exact⟨q.g,rfl⟩;obtain⟨j,q,h1,h2,h3⟩:=Ik hr;obtain⟨s,k1,k2,k3,k4⟩:=h.back h1;refine⟨_,_,j,h3,?_⟩;have:=UX k1 (by rw[<-k3];exact h2);rw[UY k1,<-k2]at this;rw[Int.zero_add];exact this
def sa :sf:=by
 unfold sf;intro S fr lv c0 A B C E F I J st N h;obtain⟨D,K,m,n⟩:=h;obtain⟨j,w⟩:=m.hds n;have d:=j.1;refine nin (nrn (ndi j λH a=>ndi ?_ λO k hI=>?_));exact⟨by omega,by omega,by simp,rfl⟩;have a:H=hdF S 0:=a;obtain⟨k0,k1,k2,k3⟩:=hI;have y:(H.length:Int)=lv:=by rw[a];exact j.2.1.symm
 have z:=n.live m;have lo:ln O<=1000:=by simp only[ln];omega
 have x:0<=ln O:=by simp only[ln];omega
 refine⟨λhk=>?_,λhk=>ndi (by omega) (nin (nin (nrn (nin (nrn (ndt ?_))))))⟩
 .have o:k<H.length:=hk;obtain⟨r,r1,p⟩:=cC k0 o;have hr:r∈H:=UC (by rw[r1];exact List.mem_cons_self);obtain⟨i,g,c,rfl,hc⟩:=w r (by rw[<-a];exact hr);have e0:cI H k 0=i:=by simp only[cI,p];rfl
  have q:cI H k 1=g:=by simp only[cI,p];rfl
  have u:=n.u32 hc;obtain⟨s,h1,h2,h3,h4,L,t,v,_⟩:=m.flds hc;rw[r1]at k3;have step:∀b,roB S N [.i i,.i g]=b->(H.drop k.toNat).filter (roB S N)=(if b then [[.i i,.i g]]else [])++(H.drop (k+1).toNat).filter (roB S N):=λb hb=>by rw[r1,List.filter_cons,hb];cases b<;>simp
  rw[<-r1]at k3;rw[e0,q];have no:roB S N [.i i,.i g]=false->ia k O S N H:=λhb=>by unfold ia;rw[step false hb]at k3;refine ndi (by unfold I64;omega) (nin (nrn (ndi ⟨by omega,by omega,by omega,by simpa using k3⟩ (ndt ?_))));simp only[vP];omega
  refine ndi (by omega) (ndi hk (G0 ⟨u.1,u.2.1,d⟩ ?_));refine C8 t v ⟨λe=>⟨λf=>?_,λf=>no ?_⟩,λe=>no ?_⟩
  .have hb:roB S N [.i i,.i g]=true:=by show(decide (cI N (atF S i g) 7=0)&&decide (cI N (atF S i g) 8=0))=true;simp[e,f]
   rw[step true hb]at k3;refine nin (ndi (by omega) (nrn (ndi (by unfold I64;omega) (nin (nrn (ndi ⟨by omega,by omega,?_,?_⟩ (ndt ?_)))))));rw[Tv];show((O.length+1:Nat):Int)<=k+1;omega;rw[Th];exact k3;simp only[vP];omega
  show(decide (cI N (atF S i g) 7=0)&&decide (cI N (atF S i g) 8=0))=false;simp[f];show(decide (cI N (atF S i g) 7=0)&&decide (cI N (atF S i g) 8=0))=false;simp[e]
 have hk:¬k<(H.length:Int):=hk;rw[List.drop_eq_nil_of_le (by omega)]at k3;show O=(hdF S 0).filter (roB S N);rw[<-a,<-k3];simp
end
def ES :c9:= .mk 0 [] [] [] [] []
def R7 (D:DM):Nat->Nat->c9
 |0,_=>ES|l+1,c=>if 16<(D.nod c).ch.length then ES else .mk (D.nod c).kind (D.nod c).tag [] (D.nod c).atts (D.nod c).text ((D.nod c).ch.map (R7 D l))
def CK :Ar->Prop
 | [.i i,.i g,.i n,.l S,.i fr,.i lv,.i _,.i _,.i _,.i _,.i _,.i _,.i _,.i _,.l _,.l N]=>U32 i/\U32 g/\0<=n/\n<=6/\ ∃D K c,Rl D.gen D S N fr lv/\WF D K/\D.at i g=some c|_=>False
def wU :Ar->Ar->Prop
 | [.i i,.i g,.i n,.l S,.i fr,.i lv,.i _,.i _,.i _,.i _,.i _,.i _,.i _,.i _,.l _,.l N],[.i k,.s t,.s y,.l a,.s x,.l ch]=>∀D K c,RlE D S N->WF D K->D.at i g=some c->isT (R7 D n.toNat c) k t y a x ch|_,_=>False
def EQ :Ar->Nat
 |_::_:: .i n::_=>n.toNat|_=>0
def Id:=mkR "tre" [dV,hV,iV] oQ Bu CK [nV] wU
def CL :Ar->Ar->Prop
 | [.l S,.l N,.i i,.i g,.i n,.l L],[.i j,.i k,.s t,.s y,.l a,.s x,.l O]=>0<=j/\j<=L.length/\(O.length:Int)=j/\ ∀D K c,RlE D S N->WF D K->D.at i g=some c->L=(D.nod c).ch.map (B2 D.gen)/\k=(D.nod c).kind/\t=(D.nod c).tag/\y=[]/\a=(D.nod c).atts.map Att.row/\x=(D.nod c).text/\O=rows (((D.nod c).ch.take j.toNat).map (R7 D (n.toNat-1)))|_,_=>False
def Oj :Ar->Ar->Nat
 | [_,_,_,_,_,.l L],.i j::_=>(L.length-j).toNat|_,_=>0
def PS :Ay->List (Nat×(Fm->SS->F9))
 |48=>[(0,D5 U0 "trl" (F5 [(53,.int .i64)] (J1 8 [.int .u8,.str,.str,.lst rV,.str,.acc 30 6])) (gh2 (gh2 (wJ 0) uT) (gh2 (hdT 1) (gh2 (j9 2) (j9 51)))) CL Oj)]
 |_=>[]
def Sh :Nat->List (Ay×Con)
 |_=>[(LVn,cq "lives")]
def RO :Nat->Aw->D4
 |_,P=>V8 0 P
open Go Go.Xe Go.Sx
def gw (n:Nat)(a b c:Int)(d:a8)(f g h j k m o p q r:Int)(t u:a8):Prop:=
 Nd (wU (.i a::.i b::.i c::JD d f g h j k m o p q r t u) [.i 0,.s [],.s [],.l [],.s [],.l []]) True
def qt (n:Nat):Prop:=
 ∀g h c d k m o p q r t u v w x a,(CK (.i g::.i h::.i c::JD d k m o p q r t u v w x a)/\EQ (.i g::.i h::.i c::JD d k m o p q r t u v w x a)<n+1)->Nq (ln d) (Cg u9 u6 (.i g::.i h::JE d k m o p q r t u v w x) λR=>∀b,R [.i b]->Nb b (ln a) (Nb b (ln a)<|Nb b (ln a)<|Nb b (ln a)<|(c=0->gw n g h c d k m o p q r t u v w x a)/\(¬c=0->Nb b (ln a) ((16<ln (cL a b 9)->gw n g h c d k m o p q r t u v w x a)/\(¬16<ln (cL a b 9)->Nb b (ln a) (Nd (CL [.l d,.l a,.i g,.i h,.i c,.l (cL a b 9)] [.i 0,.i (cI a b 0),.s (cS a b 1),.s [],.l (cL a b 2),.s (cS a b 3),.l []])<|∀f y z A B C j,CL [.l d,.l a,.i g,.i h,.i c,.l (cL a b 9)] [.i f,.i y,.s z,.s A,.l B,.s C,.l j]->((f<ln (cL a b 9)->Nb f (ln (cL a b 9)) (Nd (I64 (c+(-1)))<|Nq (ln d)<|Nd (CK (.i (cI (cL a b 9) f 0)::.i (cI (cL a b 9) f 1)::.i (c+(-1))::JD d k m o p q r t u v w x a)/\EQ (.i (cI (cL a b 9) f 0)::.i (cI (cL a b 9) f 1)::.i (c+(-1))::JD d k m o p q r t u v w x a)<n)<|
 ∀D F G H I J,wU (.i (cI (cL a b 9) f 0)::.i (cI (cL a b 9) f 1)::.i (c+(-1))::JD d k m o p q r t u v w x a) [.i D,.s F,.s G,.l H,.s I,.l J]->Ni (ln j) (Nd (ln j+1<67108865)<|Nr (ln j)<|Nd (I64 (f+1))<|Nq (ln j+1)<|Nd (CL [.l d,.l a,.i g,.i h,.i c,.l (cL a b 9)] [.i (f+1),.i y,.s z,.s A,.l B,.s C,.l (j++b8 6 1 [.i D,.s F,.s G,.l H,.s I,.l J])])<|Nd (Oj [.l d,.l a,.i g,.i h,.i c,.l (cL a b 9)] [.i (f+1),.i y,.s z,.s A,.l B,.s C,.l (j++b8 6 1 [.i D,.s F,.s G,.l H,.s I,.l J])]<Oj [.l d,.l a,.i g,.i h,.i c,.l (cL a b 9)] [.i f,.i y,.s z,.s A,.l B,.s C,.l j]) True)))/\(¬f<ln (cL a b 9)->Nq (ln j) (Nd (wU (.i g::.i h::.i c::JD d k m o p q r t u v w x a) [.i y,.s z,.s A,.l B,.s C,.l j]) True)))))))))
def qr (n:Nat):kr (Id.below EQ (n+1)) PS (Sh 0) (λ_=>((48,kro Go.Proofs.Tryz.prog U0 (Id.below EQ n))::RO 0 Go.Proofs.Tryz.prog)) 48=qt n:=by kernel_rfl
