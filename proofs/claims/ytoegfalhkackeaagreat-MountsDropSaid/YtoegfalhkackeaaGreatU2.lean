/- The conditions of contracts, as the engine's printer has written them, and that the kernel comes to the same.
  Conditions: none. -/
import Derived.Test.YtoegfalhkackeaaGreatR4
set_option maxRecDepth 100000
set_option linter.all false
noncomputable section
namespace Go.D
open Go Go.Xe Go.Sx
def vi (a:Int)(b c:a8)(d f g h j k m o:Int)(p q:a8)(r s t u v w x y z A:Int)(B C:a8):Prop:=
 Nd (bL (.i a::.l b::.l c::J8 d f g h j k m o (.l p::JD q r s t u v w x y z A B C)) [.i 0,.i 0]) True
def vj :Prop:=
 ∀b c d f g h j k m o p a q r s t u v w x y z A B C,uY (.i b::.l c::.l d::J8 f g h j k m o p (.l a::JD q r s t u v w x y z A B C))->We (.i b::.l c::.l d::J8 f g h j k m o p (.l a::JD q r s t u v w x y z A B C)) λV=>((b=250->vi b c d f g h j k m o p a q r s t u v w x y z A B C)/\(¬b=250->((ln a=0->vi b c d f g h j k m o p a q r s t u v w x y z A B C)/\(¬ln a=0->Nd (I64 b) (Nd (¬ln a=0)<|Nb ((b:Int).tmod (ln a)) (ln a)<|Nd ((b:Int).tmod (ln a)<ln a)<|(b=251->Nd (bL V [.i (cI a ((b:Int).tmod (ln a)) 0),.i (IntKind.wrap .u32 (cI a ((b:Int).tmod (ln a)) 1+1))]) True)/\(¬b=251->((b=252->Nd (bL V [.i (IntKind.wrap .u32 (cI a ((b:Int).tmod (ln a)) 0+1)),.i (cI a ((b:Int).tmod (ln a)) 1)]) True)/\(¬b=252->((b=253->Nd (bL V [.i 4294967295,.i 1]) True)/\(¬b=253->Nd (bL V [.i (cI a ((b:Int).tmod (ln a)) 0),.i (cI a ((b:Int).tmod (ln a)) 1)]) True))))))))))
def vh :kr WB fA (pY 0) (pH 0) 121=vj:=by kernel_rfl
def qz :Prop:=
 ∀a,CG [.i a]->Nb ((a:Int).tmod 5) 5 (Nd ((a:Int).tmod 5<5)<|Nd (CH [.i a] [.s (cS (b8 1 5 [.s ([97]:Ae),.s ([98]:Ae),.s ([108,105]:Ae),.s ([65]:Ae),.s []]) ((a:Int).tmod 5) 0)]) True)
def qy :kq Wo fA (pY 0) (pH 0) 122=qz:=by kernel_rfl
def vu :Prop:=
 ∀a,pD [.i a]->Nb ((a:Int).tmod 5) 5 (Nd ((a:Int).tmod 5<5)<|Nd (pE [.i a] [.s (cS (b8 1 5 [.s ([99,108,97,115,115]:Ae),.s ([105,100]:Ae),.s ([120]:Ae),.s ([121]:Ae),.s ([90]:Ae)]) ((a:Int).tmod 5) 0)]) True)
def vt :kq WE fA (pY 0) (pH 0) 124=vu:=by kernel_rfl
def qp :Prop:=
 ∀a,hZ [.i a]->Nb ((a:Int).tmod 4) 4 (Nd ((a:Int).tmod 4<4)<|Nd (lN [.i a] [.s (cS (b8 1 4 [.s [],.s ([104,105]:Ae),.s ([126]:Ae),.s ([0]:Ae)]) ((a:Int).tmod 4) 0)]) True)
def qo :kq Wn fA (pY 0) (pH 0) 123=qp:=by kernel_rfl
def eh (a b c d:a8)(f g h j k m o p:Int)(q r:a8)(s t u v w x y z A B:Int)(C D:a8):Prop:=
 Nd (dK (.l a::.l b::.l c::.l d::J8 f g h j k m o p (.l q::JD r s t u v w x y z A B C D)) [.i 0]) True
def xb :Prop:=
 ∀a c d f g h j k m o p q r s t u v w x y z A B C D F,bE (.l a::.l c::.l d::.l f::J8 g h j k m o p q (.l r::JD s t u v w x y z A B C D F))->We [.l a,.l c,.l d] λV=>((ln a=ln c->((ln a=ln a->Nd (oU V [.i 0]) (∀b,oU V [.i b]->We (tX V [.i (b+1)]<tX V [.i b]) λX=>We (cI c b 0) λW=>((b<ln a->Nb b (ln a) (Nb b (ln c)<|(cI c b 0<0->((cI a b 0=0->((cI a b 1=0->Nd (I64 (b+1)) (Nd (oU V [.i (b+1)])<|Nd X True))/\(¬cI a b 1=0->eh a c d f g h j k m o p q r s t u v w x y z A B C D F)))/\(¬cI a b 0=0->eh a c d f g h j k m o p q r s t u v w x y z A B C D F)))/\(¬cI c b 0<0->Nb W (ln d) ((cI a b 0=IntKind.wrap .u32 W->((cI a b 1=cI d W 0->Nd (I64 (b+1)) (Nd (oU V [.i (b+1)])<|Nd X True))/\(¬cI a b 1=cI d W 0->eh a c d f g h j k m o p q r s t u v w x y z A B C D F)))/\(¬cI a b 0=IntKind.wrap .u32 W->eh a c d f g h j k m o p q r s t u v w x y z A B C D F)))))/\(¬b<ln a->Nd (dK (.l a::.l c::.l d::.l f::J8 g h j k m o p q (.l r::JD s t u v w x y z A B C D F)) [.i 1]) True))))/\(¬ln a=ln a->eh a c d f g h j k m o p q r s t u v w x y z A B C D F)))/\(¬ln a=ln c->eh a c d f g h j k m o p q r s t u v w x y z A B C D F))
def xa :kr WJ fA (pY 0) (pH 0) 81=xb:=by kernel_rfl
def yy :Prop:=
 ∀a b,kK [.l a,.l b]->We [.l a,.l b] λV=>((ln a=ln b->Nd (Bj V [.i 0]) (∀c,Bj V [.i c]->((c<ln a->Nb c (ln a) (Nb c (ln b)<|(cS a c 0=cS b c 0->((cS a c 1=cS b c 1->Nd (I64 (c+1)) (Nd (Bj V [.i (c+1)])<|Nd (Lt V [.i (c+1)]<Lt V [.i c]) True))/\(¬cS a c 1=cS b c 1->Nd (bD V [.i 0]) True)))/\(¬cS a c 0=cS b c 0->Nd (bD V [.i 0]) True)))/\(¬c<ln a->Nd (bD V [.i 1]) True))))/\(¬ln a=ln b->Nd (bD V [.i 0]) True))
def yx :kq WQ fA (pY 0) (pH 0) 80=yy:=by kernel_rfl
open Go Go.Xe Go.Sx
def uo :Prop:=
 ∀b f g h j k m o p q c d,M1 (.l b::.l f::J10 g h j k m o p q c d [])->We (.l b::.l f::J10 g h j k m o p q c d []) λX=>We [.l b,.i c,.i d] λV=>Nd (lC V [.i 0]) (∀a,lC V [.i a]->We (lC V [.i (a+1)]) λY=>We (mZ V [.i (a+1)]<mZ V [.i a]) λW=>((a<ln b->((IntKind.wrap .u32 a=c->Nb a (ln b) ((cB b a 1=true->Nb a (ln b) ((cI b a 0=d->Nd (K5 X [.i a]) True)/\(¬cI b a 0=d->Nd (I64 (a+1)) (Nd Y<|Nd W True))))/\(¬cB b a 1=true->Nd (I64 (a+1)) (Nd Y<|Nd W True))))/\(¬IntKind.wrap .u32 a=c->Nd (I64 (a+1)) (Nd Y<|Nd W True))))/\(¬a<ln b->Nd (K5 X [.i (-1)]) True)))
def ul :kq mi W5 (lK 0) (bM 0) 30=uo:=by kernel_rfl
def tz :Prop:=
 ∀a d g h j k m o p q,O3 (.l a::.l d::J8 g h j k m o p q [])->Nd (ln d<67108865) (Nq (ln d)<|Nd (Ci (.l a::.l d::J8 g h j k m o p q []) (.i 0::.l []::.l d::J8 g h j k m o p q []))<|∀c f r t u v w x y z A,Ci (.l a::.l d::J8 g h j k m o p q []) (.i c::.l f::.l r::J8 t u v w x y z A [])->((c<ln a->Nb c (ln a) (Nd (ln (cL a c 4)<67108865)<|Nd (ln (cL a c 10)<67108865)<|Nq (ln (cL a c 4))<|Nq (ln (cL a c 10))<|Ni (ln f)<|Nd (ln f+1<67108865)<|Nr (ln f)<|Nd (I64 (c+1))<|Nq (ln f+1)<|Nd (Ci (.l a::.l d::J8 g h j k m o p q []) (.i (c+1)::.l (f++b8 11 1 [.i (cI a c 0),.b (cB a c 1),.i (cI a c 2),.s (cS a c 3),.l (cL a c 4),.s (cS a c 5),.i (cI a c 6),.i (cI a c 7),.b (cB a c 8),.i (cI a c 9),.l (cL a c 10)])::.l r::J8 t u v w x y z A []))<|
 Nd (Ng (.l a::.l d::J8 g h j k m o p q []) (.i (c+1)::.l (f++b8 11 1 [.i (cI a c 0),.b (cB a c 1),.i (cI a c 2),.s (cS a c 3),.l (cL a c 4),.s (cS a c 5),.i (cI a c 6),.i (cI a c 7),.b (cB a c 8),.i (cI a c 9),.l (cL a c 10)])::.l r::J8 t u v w x y z A [])<Ng (.l a::.l d::J8 g h j k m o p q []) (.i c::.l f::.l r::J8 t u v w x y z A [])) True))/\(¬c<ln a->Nq (ln f) (Nd (V9 (.l a::.l d::J8 g h j k m o p q []) (.l f::.l r::J8 t u v w x y z A [])) True))))
def tw :kq ST W5 (lK 0) (bM 0) 132=tz:=by kernel_rfl
def ry :Prop:=
 ∀a c,vT [.l a,.i c]->We [.l a,.i c] λV=>Nd (pP V [.i 0]) (∀b,pP V [.i b]->((b<ln a->Nb b (ln a) ((cI a b 0=c->Nd (Co V [.i b]) True)/\(¬cI a b 0=c->Nd (I64 (b+1)) (Nd (pP V [.i (b+1)])<|Nd (Np V [.i (b+1)]<Np V [.i b]) True))))/\(¬b<ln a->Nd (Co V [.i (-1)]) True)))
def rx :kq Ws W5 (lK 0) (bM 0) 142=ry:=by kernel_rfl
def lf :Prop:=
 ∀b f d,sL [.l b,.i f,.i d]->We [.l b,.i f,.i d] λV=>Nd (dU V [.i 0,.l []]) (∀c a,dU V [.i c,.l a]->We (ln a+1<67108865) λY=>We [.i (c+1),.l (a++b8 1 1 [.i (cI b c 0)])] λX=>We [.i (c+1),.l ((a++b8 1 1 [.i f])++b8 1 1 [.i (cI b c 0)])] λW=>((c<ln b->Nb c (ln b) ((cI b c 0=d->Ni (ln a) (Nd Y<|Nr (ln a)<|Nb c (ln b)<|Ni (ln a+1)<|Nd (ln a+2<67108865)<|Nr (ln a+1)<|Nd (I64 (c+1))<|Nq (ln a+2)<|Nd (dU V W)<|Nd (pR V W<pR V [.i c,.l a]) True))/\(¬cI b c 0=d->Nb c (ln b) (Ni (ln a)<|Nd Y<|Nr (ln a)<|Nd (I64 (c+1))<|Nq (ln a+1)<|Nd (dU V X)<|Nd (pR V X<pR V [.i c,.l a]) True))))/\(¬c<ln b->((d<0->Ni (ln a) (Nd Y<|Nr (ln a)<|Nq (ln a+1)<|Nd (nF V [.l (a++b8 1 1 [.i f])]) True))/\(¬d<0->Nq (ln a) (Nd (nF V [.l a]) True))))))
def oo :kq zo W5 (lK 0) (bM 0) 143=lf:=by kernel_rfl
def ko :Prop:=
 ∀a d,iW [.l a,.i d]->We [.l a,.i d] λV=>Nd (dY V [.i 0,.l []]) (∀b c,dY V [.i b,.l c]->We [.i (b+1),.l (c++b8 1 1 [.i (cI a b 0)])] λW=>((b<ln a->Nb b (ln a) ((cI a b 0=d->Nd (I64 (b+1)) (Nq (ln c)<|Nd (dY V [.i (b+1),.l c])<|Nd (pS V [.i (b+1),.l c]<pS V [.i b,.l c]) True))/\(¬cI a b 0=d->Nb b (ln a) (Ni (ln c)<|Nd (ln c+1<67108865)<|Nr (ln c)<|Nd (I64 (b+1))<|Nq (ln c+1)<|Nd (dY V W)<|Nd (pS V W<pS V [.i b,.l c]) True))))/\(¬b<ln a->Nq (ln c) (Nd (sM V [.l c]) True))))
def nq :kq zm W5 (lK 0) (bM 0) 133=ko:=by kernel_rfl
def xw :Prop:=
 ∀a c,Bz [.l a,.s c]->We [.l a,.s c] λV=>Nd (oT V [.i 0]) (∀b,oT V [.i b]->((b<ln a->Nb b (ln a) ((cS a b 0=c->Nd (tP V [.i b]) True)/\(¬cS a b 0=c->Nd (I64 (b+1)) (Nd (oT V [.i (b+1)])<|Nd (LS V [.i (b+1)]<LS V [.i b]) True))))/\(¬b<ln a->Nd (tP V [.i (-1)]) True)))
def xu :kq WM W5 (lK 0) (bM 0) 138=xw:=by kernel_rfl
def er (a:Int)(c d:a8)(f g:Ae)(h:Bool):Prop:=
 We [.i (a+1),.l (d++b8 2 1 [.s (cS c a 0),.s (cS c a 1)]),.b h] λV=>We [.l c,.s f,.s g] λW=>Nb a (ln c)<|Ni (ln d)<|Nd (ln d+1<67108865)<|Nr (ln d)<|Nd (I64 (a+1))<|Nq (ln d+1)<|Nd (dT W V)<|Nd (pM W V<pM W [.i a,.l d,.b h]) True
def lq :Prop:=
 ∀a f g,sJ [.l a,.s f,.s g]->We [.l a,.s f,.s g] λV=>Nd (dT V [.i 0,.l [],.b false]) (∀d c h,dT V [.i d,.l c,.b h]->We [.i (d+1),.l ((c++b8 2 1 [.s f,.s g])++b8 2 1 [.s (cS a d 0),.s (cS a d 1)]),.b true] λW=>((d<ln a->((h=true->er d a c f g h)/\(¬h=true->Nb d (ln a) ((Op.bytesLess f (cS a d 0)=true->Ni (ln c) (Nd (ln c+1<67108865)<|Nr (ln c)<|Nb d (ln a)<|Ni (ln c+1)<|Nd (ln c+2<67108865)<|Nr (ln c+1)<|Nd (I64 (d+1))<|Nq (ln c+2)<|Nd (dT V W)<|Nd (pM V W<pM V [.i d,.l c,.b h]) True))/\(¬Op.bytesLess f (cS a d 0)=true->er d a c f g h)))))/\(¬d<ln a->((h=true->Nq (ln c) (Nd (nC V [.l c]) True))/\(¬h=true->Ni (ln c) (Nd (ln c+1<67108865)<|Nr (ln c)<|Nq (ln c+1)<|Nd (nC V [.l (c++b8 2 1 [.s f,.s g])]) True))))))
def ox :kq zq W5 (lK 0) (bM 0) 176=lq:=by kernel_rfl
open Go Go.Xe Go.Sx
def jl (a:a8)(q r b c d f g h j k l m:Int)(o p:a8):Prop:=
 We (JD a b c d f g h j k l m o p) λV=>Nq (ln a)<|Nd (kQ (.i q::.i r::V) (.i 10::V)) True
def xn :Prop:=
 ∀s t a d f g h j k m o p q r c,tT (.i s::.i t::JD a d f g h j k m o p q r c)->We (.i s::.i t::JE a d f g h j k m o p q r) λW=>We (JD a d f g h j k m o p q r c) λV=>Nq (ln a) (Cg I0 E2 W λR=>∀w,R [.b w]->((w=true->Nq (ln a) (Cg u9 u6 W λR=>∀u,R [.i u]->Nb u (ln c) ((cI c u 7=0->((cI c u 8=0->Nq (ln a) (Cg tR tS (.i s::.i t::.l a::J10 d f g h j k m o p q [.l r,.l c,.l [],.l []]) λR=>∀x A B y C z D F G H I J K v L,R (.l x::J10 A B y C z D F G H I [.l J,.l K,.l v,.l L])->Nd (I64 (y-ln v)) (Nd (I64 (z+ln v))<|Nq (ln x)<|Nd (kQ (.i s::.i t::V) (.i 0::JD x A B (y-ln v) C (z+ln v) D F G H I J K)) True)))/\(¬cI c u 8=0->jl a s t d f g h j k m o p q r c)))/\(¬cI c u 7=0->jl a s t d f g h j k m o p q r c))))/\(¬w=true->Nq (ln a) (Nd (kQ (.i s::.i t::V) (.i 11::V)) True))))
def xl :kq VS PY (NY 0) (RQ 0) 46=xn:=by kernel_rfl
def Po {G G':Nat->Nat}{n:Nod}(h1:n.par= -1\/ ∃p:Nat,n.par=p/\G p=G' p)(h2:∀j∈n.ch,G j=G' j):n.rn G=n.rn G':=by
 unfold Nod.rn;have a:hG' G n.par=hG' G' n.par:=by unfold hG';rcases h1 with e| ⟨p,e,h⟩;rw[e];rfl;rw[e,Tn (by omega),Tn (by omega),TK,h]
 have b:n.ch.map (B2 G)=n.ch.map (B2 G'):=List.map_congr_left λj hj=>by unfold B2;rw[h2 j hj]
 rw[a,b]
section
variable {D :DM}{S N S' N':a8}{fr lv fr' lv' i g:Int}{K c:Nat}{s:Sl}
def RlX.done (h:RlX D (bel D 1001 c) S N fr lv)(w:WF D K)(hs:D.L[c]? =some s)(l:s.used=true)(hp:s.n.par= -1){C:Ak}:Rl ((bel D 1001 c).foldl A1 D).gen {(bel D 1001 c).foldl A1 D with C:=C} S N fr lv:=by
 obtain⟨T,M,rfl,rfl,h⟩:=h;have k:RlT ((bel D 1001 c).foldl A1 D).gen ((bel D 1001 c).foldl A1 D) T M fr lv:=h.regen λj sj hj d=>by
  have hn:=K1 (f:=1001) w hs l;have a:∀ {q:Nat},q∉bel D 1001 c->D.gen q=((bel D 1001 c).foldl A1 D).gen q:=λm=>by unfold DM.gen;rw[G2 m]
  by_cases m:j∈bel D 1001 c;obtain⟨_,s',h1,_⟩:=J0 w hs l j m;rw[mP hn m h1]at hj;cases hj;cases d;rw[G2 m]at hj;obtain⟨k1,k2⟩:=zC w hs l hp hj d m;refine Po ?_ λb hb=>a (k2 b hb);rcases w.par j sj hj d with e| ⟨q,r,e,o,p,t⟩;exact .inl e;exact .inr ⟨q,e,a (k1 q r e o p)⟩
 exact⟨T,M,rfl,rfl,k.len,k.row,k.inj,k.free,k.nodup,k.all,k.lv⟩
def xk :xn:=by
 unfold xn;intro i g S fr lv c0 v w x y z A B st N h;obtain⟨hi,hg,hp⟩:=h;have hp':=hp;obtain⟨D,K,⟨k,hc⟩,j⟩:=hp;have o:=k.slen j;refine Y7 ⟨hi,hg,o⟩ ⟨λhv=>?_,λhv=>nin (nrn (ndt (D2 λD K m j=>?_)))⟩
 .have facts:∀ {D K},RlC D S N fr lv [c0,v,w,x,y,z,A,B]->WF D K-> ∃c s,D.at i g=some c/\D.L[c]? =some s/\s.used=true/\0<=atF S i g/\atF S i g<N.length/\((cI N (atF S i g) 7=0/\cI N (atF S i g) 8=0)↔s.n.par= -1)/\S3 D i g=if s.n.par≠ -1 then(D,10)else({(bel D 1001 c).foldl A1 D with C:=(D.C.modify 0 (· -(bel D 1001 c).length)).modify 2 (· +(bel D 1001 c).length)},0):=λ{D K} m j=>by obtain⟨c,hc⟩:=m.1.vld.1 hv;obtain⟨s,h1,h2,h3,h4,h5,Z,h7,h8,h9,M,Y⟩:=m.1.flds hc;refine⟨c,s,hc,h1,h2,Z,h7,?_,?_⟩;rw[h9,M];exact j.hI_zero h1 h2;unfold S3;rw[hc];simp only;rw[h3]
  obtain⟨c,s,q,G,H,I,J,r,t⟩:=facts ⟨k,hc⟩ j;have bad:¬(cI N (atF S i g) 7=0/\cI N (atF S i g) 8=0)->jl S i g fr lv c0 v w x y z A B st N:=λhb=>by unfold jl;refine nin (nrn (ndt (D2 λD K m j=>?_)));obtain⟨c,s,q,G,H,I,J,r,t⟩:=facts m j;rw[t,Tp λh=>hb (r.2 h)];exact⟨rfl,rfl⟩
  refine G0 ⟨hi,hg,o⟩ (C8 I J ⟨λE=>⟨λF=>?_,λF=>bad λh=>F h.2⟩,λE=>bad λh=>E h.1⟩);have hx:∀ {D},RlC D S N fr lv [c0,v,w,x,y,z,A,B]->RlX D [] S N fr lv:=λh=>h.1;have us:=k.uses;have lS:aB S<=1000:=by have:aB S<=S.length:=List.countP_le_length;omega
  refine nin (nrn (ndi ⟨hi,hg,by show 0+aB S<=1000;omega,rfl,D,[],K,c,k,j,q,λ_ _=>by simp⟩ λS' fr' lv' b0 R u T U V W X st' N' Q' W' hr=>?_));obtain⟨O,rfl,_,hF,m⟩:=hr;simp only[Um,Up]at O;obtain⟨rfl,rfl,rfl,rfl,rfl,rfl,rfl,rfl⟩:=O;have res:∀ {D K},RlC D S N' fr lv [b0,R,u,T,U,V,W,X]->WF D K-> ∃c s,D.L[c]? =some s/\s.used=true/\s.n.par= -1/\RlX D (bel D 1001 c) S' N' fr' lv'/\Q'.length=(bel D 1001 c).length/\S3 D i g=({(bel D 1001 c).foldl A1 D with C:=(D.C.modify 0 (· -(bel D 1001 c).length)).modify 2 (· +(bel D 1001 c).length)},0):=λ{D K} k j=>by
   obtain⟨c,s,q,G,H,I,J,r,t⟩:=facts k j;obtain⟨q1,q2⟩:=m D [] K c (hx k) j q λ_ _=>by simp
   have hp:=r.1 ⟨E,F⟩;exact⟨c,s,G,H,hp,by simpa using q1,by simpa using q2,by rw[t,Tn (by simp[hp])]⟩
  obtain⟨c,s,k1,k2,k3,k4,P,Q⟩:=res ⟨k,hc⟩ j;have bl:(bel D 1001 c).length<=1000:=by have:=Y9 (K1 (f:=1001) j k1 k2) λb hb=>(J0 j k1 k2 b hb).2;have:=List.countP_le_length (p:=λs:Sl=>s.used) (l:=D.L);have:=j.lim;omega
  have cb:0<=b0/\b0<=1000/\0<=u/\u<=1000:=by obtain⟨a,b,c,d,e,f,h',h1,_,h3,h4⟩:=j.cnt;have:=j.lim;have:=List.countP_le_length (p:=λs:Sl=>s.used) (l:=D.L);rw[<-hc]at h1;simp only[Um,Up]at h1;simp only[List.forall_mem_cons]at h4;omega
  have lQ:ln Q'=((bel D 1001 c).length:Int):=by simp only[ln];omega
  refine ndi (by unfold I64;omega) (ndi (by unfold I64;omega) (nin (nrn (ndt ⟨hF,λD K k j=>?_⟩))));obtain⟨c,s,k1,k2,k3,k4,P,Q⟩:=res k j;show RlC (S3 D i g).1 S' N' fr' lv' _/\(0:Int)=(S3 D i g).2;rw[Q];refine⟨⟨k4.done j k1 k2 k3,?_⟩,rfl⟩;rw[<-k.2,<-P];rfl
 unfold S3;rw[m.1.none hv];exact⟨rfl,rfl⟩
end
def uk :uo:=by
 unfold uo;intro L F c0 d f j m o q r i g h;obtain⟨hi,hg,hl⟩:=h;have s:ln L=(L.length:Int):=rfl;unfold U32 at hi;refine ndi ⟨by omega,by omega,λh=>by omega⟩ λk hk=>?_;obtain⟨k0,k1,hI⟩:=hk;have b:k<L.length->IntKind.wrap .u32 k=k:=λh=>P4 (by simp[IntKind.min,IntKind.signed];omega) (by simp[IntKind.max,IntKind.signed,IntKind.bits];omega);have next:k<L.length->(t9 L i g=true->i≠k)->Sx.Nd (I64 (k+1)) (Sx.Nd (lC [.l L,.i i,.i g] [.i (k+1)]) (Sx.Nd (mZ [.l L,.i i,.i g] [.i (k+1)]<mZ [.l L,.i i,.i g] [.i k]) True)):=λh hn=>
  ndi (by unfold I64;omega) (ndi ⟨by omega,by omega,λhv=>by have:=hI hv;have:=hn hv;omega⟩ (ndt (by simp only[mZ,A2,ln];omega)))
 refine⟨λh=>?_,λh=>ndt ?_⟩
 .have h:k<L.length:=h;rw[b h];refine⟨λe=>ndi (by omega) (ndi h ⟨λhb=>ndi (by omega) (ndi h ⟨λhc=>ndt ?_,λhc=>next h λhv _=>?_⟩),λhb=>next h λhv _=>?_⟩),λe=>next h λ_ e'=>e e'.symm⟩;all_goals subst e
  .show k=if t9 L k g=true then k else-1
   rw[Tp];unfold t9;have hb:(z8 L k 1).toBool=true:=hb;have hc:(z8 L k 0).toInt=g:=hc;simp[k0,h,hb,hc]
  unfold t9 at hv;simp only[SR,To]at hv;exact hc hv.2;unfold t9 at hv;simp only[SR,To]at hv;exact hb hv.1.2
 .show(-1:Int)=if t9 L i g=true then i else-1
  rw[Tn λhv=>?_];have:=hI hv;unfold t9 at hv;simp only[SR,To]at hv;omega
def Sl.row_eta (s:Sl){L:a8}{k:Int}(h:∀j,z8 L k j=s.row.getD j (.i 0)):b8 11 1 [(.i (cI L k 0)),(.b (cB L k 1)),(.i (cI L k 2)),(.s (cS L k 3)),(.l (cL L k 4)),(.s (cS L k 5)),(.i (cI L k 6)),(.i (cI L k 7)),(.b (cB L k 8)),(.i (cI L k 9)),(.l (cL L k 10))]=[s.row]:=by simp only[cI,cB,cS,cL,h];unfold Sl.row;split<;>rfl
def WF.lens {D:DM}{K:Nat}(w:WF D K){s:Sl}(hs:s∈D.L){L:a8}{k:Int}(h:∀j,z8 L k j=s.row.getD j (.i 0)):(cL L k 4).length<=8/\(cL L k 10).length<=1000:=by simp only[cL,h];obtain⟨j,hj⟩:=UU hs;unfold Sl.row;split;rename_i b;have:=(w.atts j s hj b).1;have:=w.kidlen hj b;simp[Dat.rows];omega;simp[Dat.rows]
def tu :tz:=by
 unfold tz;intro L F c0 m o q r t u x h;obtain⟨D,K,⟨rfl,rfl,hc⟩,w⟩:=h;have lim:=w.lim;have fl:D.free.length<=1000:=by
  have hs:D.free ⊆ List.range D.L.length:=λj hj=>by obtain⟨s,h1,_⟩:=w.free.2 j hj;exact List.mem_range.2 (SW.1 h1).1
  have:=w.free.1.length_le_of_subset hs;rw[List.length_range]at this;omega
 have I:ln (D.L.map Sl.row)=(D.L.length:Int):=by simp[ln]
 refine ndi (by simp only[ln,Tm];omega) (nin (nrn (ndi ⟨by omega,by omega,by simp,rfl⟩ λk O F' y z A B C E G H hI=>?_)));obtain⟨k0,k1,b,d⟩:=hI;cases d;have f:(O.length:Int)=k:=by
  have:k<=D.L.length:=by simpa using k1
  rw[b,TE,Tm];omega
 have g:ln O=k:=f;refine⟨λh=>?_,λh=>nin (nrn (ndt ?_))⟩
 .obtain⟨s,hs⟩:=Sx.get_at (T:=D.L) k0 (by omega);have hr:∀j,z8 (D.L.map Sl.row) k j=s.row.getD j (.i 0):=λj=>d9 hs j;obtain⟨J,M⟩:=w.lens (Td hs) hr;rw[s.row_eta hr];refine ndi (by omega) (ndi h (ndi (by simp only[ln];omega) (ndi (by simp only[ln];omega) (nin (nrn (nin (nrn (nin (ndi (by omega) (nrn (ndi (by unfold I64;omega) (nin (nrn (ndi ⟨by omega,?_,?_,rfl⟩ (ndt ?_)))))))))))))));simp;omega
  .have e:(k+1).toNat=k.toNat+1:=by omega
   rw[e,b,E1 (H2 hs)]
  simp only[Ng,A2];simp only[ln,Tm]at*;omega
 refine⟨?_,rfl,rfl,rfl,rfl,rfl,rfl,rfl,rfl,rfl⟩;rw[b];exact TT (by simp;omega)
def vQ :∀ {l m:Ah},l.map z5=m.map z5->l=m
 | [],[],_=>rfl| [],_::_,h=>by simp at h|_::_,[],h=>by simp at h|a::l,b::m,h=>by
  simp only[TV,Um]at h;have h1:((a:Nat):Int)=b:=by have:=h.1;simp only[z5,Um,Dat.i.injEq]at this;exact this.1
  rw[vQ h.2,show a=b by omega]
section
variable {l :Ah}{c:Nat}{k a:Int}{O:a8}
def fN {P:Ah->Nat->Prop}:(∀(m:Ah) (d:Nat),l.map z5=m.map z5->(c:Int)=d->P m d)↔P l c:=
 ⟨λh=>h l c rfl rfl,λh m d h1 h2=>by rw[<-vQ h1,show d=c by omega];exact h⟩
def dm {b:Nat}(h:l[k.toNat]? =some b):cI (l.map z5) k 0=b:=by simp only[cI,d9 h];rfl
def Cq :pP [.l (l.map z5),.i c] [.i k]↔0<=k/\k<=(l.length:Int)/\c∉l.take k.toNat:=by simp only[pP,Tm,fN (P:=λl c=>c∉l.take k.toNat)]
def ru :ry:=by
 unfold ry;rintro L i ⟨l,c,rfl,rfl,hl⟩;have d:ln (l.map z5)=(l.length:Int):=by simp[ln]
 refine ndi (Cq.2 ⟨by omega,by omega,by simp⟩) λk hI=>?_;obtain⟨k0,k1,hI⟩:=Cq.1 hI;rw[d];refine⟨λh=>?_,λh=>ndt (fN (P:=λl c=>(-1:Int)<0↔c∉l)|>.2 ?_)⟩
 .obtain⟨b,hb⟩:=Sx.get_at (T:=l) k0 h;rw[dm hb];refine ndi (by omega) (ndi h ⟨λe=>ndt (fN (P:=λl c=>k<0↔c∉l)|>.2 ?_),λe=>ndi (by unfold I64;omega) (ndi (Cq.2 ⟨by omega,by omega,?_⟩) (ndt ?_))⟩)
  .have:c∈l:=by rw[show c=b by omega];exact Td hb
   simp[this];omega
  rw[p6 k0 hb];simp only[TG,Ui,not_or];exact⟨hI,by omega⟩;simp only[Np,A2,d];omega
 rw[A3 (by omega)]at hI;simp[hI]
def nG :dU [.l (l.map z5),.i c,.i a] [.i k,.l O]↔0<=k/\k<=(l.length:Int)/\(O.length:Int)<=2*k/\O=(rU (l.take k.toNat) c a).map z5:=by simp only[dU,Tm,fN (P:=λl c=>O=(rU (l.take k.toNat) c a).map z5)]
def Ek (l m:Ah):rU (l++m) c a=rU l c a++rU m c a:=by unfold rU;rw[List.flatMap_append]
def om :lf:=by
 unfold lf;rintro L i a ⟨l,c,rfl,rfl,hl⟩;have m:ln (l.map z5)=(l.length:Int):=by simp[ln]
 refine ndi (nG.2 ⟨by omega,by omega,by simp,by simp[rU]⟩) λk O hI=>?_;obtain⟨k0,k1,k2,f⟩:=nG.1 hI;have q:ln O=(O.length:Int):=rfl;rw[m];have o:∀ {A:a8},(O++A).length=O.length+A.length:=λ{A}=>Tv;refine⟨λh=>?_,λh=>⟨λj=>?_,λj=>?_⟩⟩;obtain⟨b,hb⟩:=Sx.get_at (T:=l) k0 h;rw[dm hb];have g:∀x:Nat,b8 1 1 [.i (x:Int)]=([x]:Ah).map z5:=λ_=>rfl;refine ndi (by omega) (ndi h ⟨λe=>nin (ndi (by omega) (nrn (ndi (by omega) (ndi h (nin (ndi (by omega) (nrn (ndi (by unfold I64;omega) (nin (nrn (ndi (nG.2 ⟨by omega,by omega,?_,?_⟩) (ndt ?_)))))))))))),λe=>ndi (by omega) (ndi h (nin (ndi (by omega) (nrn (ndi (by unfold I64;omega) (nin (nrn (ndi (nG.2 ⟨by omega,by omega,?_,?_⟩) (ndt ?_)))))))))⟩);simp[b8];omega;rw[g,g,p6 k0 hb,Ek,f];unfold rU;rw[List.flatMap_singleton,Tp e];simp;simp only[pR,A2,m];omega;simp[b8];omega;rw[g,p6 k0 hb,Ek,f];unfold rU;rw[List.flatMap_singleton,Tn e];simp;simp only[pR,A2,m];omega;refine nin (ndi (by omega) (nrn (nin (nrn (ndt (fN (P:=λl d=>O++b8 1 1 [.i ↑c]=(S4 l d a).map z5)|>.2 ?_))))));rw[f,A3 (by omega)];unfold S4 rU;rw[Tp j];simp[b8,z5];refine nin (nrn (ndt (fN (P:=λl c=>O=(S4 l c a).map z5)|>.2 ?_)));rw[f,A3 (by omega)];unfold S4 rU;rw[Tn j];simp
def nJ :dY [.l (l.map z5),.i c] [.i k,.l O]↔0<=k/\k<=(l.length:Int)/\(O.length:Int)<=k/\O=(I7 (l.take k.toNat) c).map z5:=by simp only[dY,Tm,fN (P:=λl c=>O=(I7 (l.take k.toNat) c).map z5)]
def np :ko:=by
 unfold ko;rintro L i ⟨l,c,rfl,rfl,hl⟩;have f:ln (l.map z5)=(l.length:Int):=by simp[ln]
 refine ndi (nJ.2 ⟨by omega,by omega,by simp,by simp[I7]⟩) λk O hI=>?_;obtain⟨k0,k1,k2,d⟩:=nJ.1 hI;have g:ln O=(O.length:Int):=rfl;rw[f];refine⟨λh=>?_,λh=>nin (nrn (ndt (fN (P:=λl c=>O=(I7 l c).map z5)|>.2 ?_)))⟩;obtain⟨b,hb⟩:=Sx.get_at (T:=l) k0 h;rw[dm hb];refine ndi (by omega) (ndi h ⟨λe=>ndi (by unfold I64;omega) (nin (nrn (ndi (nJ.2 ⟨by omega,by omega,by omega,?_⟩) (ndt ?_)))),λe=>ndi (by omega) (ndi h (nin (ndi (by omega) (nrn (ndi (by unfold I64;omega) (nin (nrn (ndi (nJ.2 ⟨by omega,by omega,?_,?_⟩) (ndt ?_)))))))))⟩);rw[p6 k0 hb,d];unfold I7;rw[List.filter_append];simp[show b=c by omega];simp only[pS,A2,f];omega;simp[b8];omega;rw[p6 k0 hb,d];unfold I7;rw[List.filter_append];simp[show b≠c by omega,b8,z5];simp only[pS,A2,f];omega;rw[d,A3 (by omega)]
end
section
variable {l :List Att}{k:Int}{n v:Str}{O:a8}{p:Bool}
def oI {P:List Att->Prop}:(∀m:List Att,l.map Att.row=m.map Att.row->P m)↔P l:=⟨λh=>h l rfl,λh m e=>by rw[<-T0 e];exact h⟩
def BA :oT [.l (l.map Att.row),.s n] [.i k]↔0<=k/\k<=(l.length:Int)/\ ∀a∈l.take k.toNat,a.n≠n:=by simp only[oT,Tm,oI (P:=λl=>∀a∈l.take k.toNat,a.n≠n)]
def dk {b:Att}(h:l[k.toNat]? =some b):cS (l.map Att.row) k 0=b.n/\cS (l.map Att.row) k 1=b.v:=by simp only[cS,d9 h];exact⟨rfl,rfl⟩
def xr :xw:=by
 unfold xw;rintro L n ⟨l,rfl,hl⟩;have d:ln (l.map Att.row)=(l.length:Int):=by simp[ln]
 refine ndi (BA.2 ⟨by omega,by omega,by simp⟩) λk hI=>?_;obtain⟨k0,k1,hI⟩:=BA.1 hI;rw[d];refine⟨λh=>?_,λh=>ndt ⟨by omega,by omega,oI (P:=λl=>((-1:Int)<0/\ ∀a∈l,a.n≠n)\/_)|>.2 (.inl ⟨by omega,?_⟩)⟩⟩;obtain⟨b,hb⟩:=Sx.get_at (T:=l) k0 h;rw[(dk hb).1];refine ndi (by omega) (ndi h ⟨λe=>ndt ⟨by omega,by simpa using h,oI (P:=λl=>(k<0/\ ∀a∈l,a.n≠n)\/(0<=k/\ ∃a,l[k.toNat]? =some a/\a.n=n))|>.2 (.inr ⟨k0,b,hb,e⟩)⟩,λe=>ndi (by unfold I64;omega) (ndi (BA.2 ⟨by omega,by omega,?_⟩) (ndt ?_))⟩);rw[p6 k0 hb];intro a f;rcases TG.1 f with h|h;exact hI a h;rw[Ui.1 h];exact e;simp only[LS,A2,d];omega;rwa[A3 (by omega)]at hI
def nD :dT [.l (l.map Att.row),.s n,.s v] [.i k,.l O,.b p]↔0<=k/\k<=(l.length:Int)/\(O.length:Int)<=k+(if p=true then 1 else 0)/\ ∃o:List Att,O=o.map Att.row/\(if p=true then o++l.drop k.toNat else o++cF (l.drop k.toNat) ⟨n,v⟩)=cF l ⟨n,v⟩:=by simp only[dT,Tm,oI (P:=λl=>∃o:List Att,O=o.map Att.row/\(if p=true then o++l.drop k.toNat else o++cF (l.drop k.toNat) ⟨n,v⟩)=cF l ⟨n,v⟩)]
def ow :lq:=by
 unfold lq;rintro L n v ⟨l,rfl,hl⟩;have j:ln (l.map Att.row)=(l.length:Int):=by simp[ln]
 refine ndi (nD.2 ⟨by omega,by omega,by simp,[],rfl,by simp⟩) λk O p hI=>?_;obtain⟨k0,k1,k2,o,rfl,f⟩:=nD.1 hI;have i:ln (o.map Att.row)=(o.length:Int):=by simp[ln]
 have k2:(o.length:Int)<=k+(if p=true then 1 else 0):=by simpa using k2
 have k3:(o.length:Int)<=k+1:=by split at k2<;>omega
 rw[j,i];refine⟨λh=>?_,λh=>⟨λhp=>nin (nrn (ndt ?_)),λhp=>nin (ndi (by omega) (nrn (nin (nrn (ndt ?_)))))⟩⟩
 .obtain⟨b,hb⟩:=Sx.get_at (T:=l) k0 h;have g:l.drop k.toNat=b::l.drop (k+1).toNat:=by obtain⟨h1,rfl⟩:=SW.1 hb;rw[show(k+1).toNat=k.toNat+1 by omega];exact List.drop_eq_getElem_cons h1
  have d:(p=true\/lt n b.n=false)->er k (l.map Att.row) (o.map Att.row) n v p:=λhp=>by unfold er;rw[j,i,(dk hb).1,(dk hb).2];refine ndi (by omega) (ndi h (nin (ndi (by omega) (nrn (ndi (by unfold I64;omega) (nin (nrn (ndi (nD.2 ⟨by omega,by omega,?_,o++ [b],by rw[TQ];rfl,?_⟩) (ndt ?_)))))))));rw[Tv,Tm];show((o.length+1:Nat):Int)<=_;split at k2<;>rename_i h1;rw[Tp h1];omega;rw[Tn h1];omega;rw[<-f,g];rcases hp with rfl|hp;simp;cases p;simp[cF,hp];simp;simp only[pM,A2];simp only[ln,Tm]at*;omega
  refine⟨λhp=>d (.inl hp),λhp=>ndi (by omega) (ndi h ⟨λhlt=>?_,λhlt=>d (.inr ?_)⟩)⟩;rw[(dk hb).1,(dk hb).2];rw[(dk hb).1]at hlt;have hlt:lt n b.n=true:=hlt;refine nin (ndi (by omega) (nrn (ndi (by omega) (ndi h (nin (ndi (by omega) (nrn (ndi (by unfold I64;omega) (nin (nrn (ndi (nD.2 ⟨by omega,by omega,?_,o++ [⟨n,v⟩]++ [b],by simp[b8,Att.row],?_⟩) (ndt ?_))))))))))));rw[Tv,Tv,Tm,Tp rfl];show((o.length+1+1:Nat):Int)<=_;rw[Tn hp]at k2;omega;rw[Tn hp,g]at f;rw[Tp rfl,<-f];simp[cF,hlt];simp only[pM,A2];simp only[ln,Tm]at*;omega
  .rw[(dk hb).1]at hlt;cases e:lt n b.n with
   |false=>rfl|true=>exact absurd e hlt
 refine oI (P:=λl=>o.map Att.row=(cF l ⟨n,v⟩).map Att.row)|>.2 ?_;rw[Tp hp,List.drop_eq_nil_of_le (by omega),UF]at f;rw[f];refine oI (P:=λl=>o.map Att.row++b8 2 1 [.s n,.s v]=(cF l ⟨n,v⟩).map Att.row)|>.2 ?_;rw[Tn hp,List.drop_eq_nil_of_le (by omega)]at f;rw[<-f];simp[b8,Att.row,cF]
