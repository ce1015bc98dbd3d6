/- The conditions of contracts, as the engine's printer has written them, and that the kernel comes to the same.
  Conditions: none. -/
import Derived.Test.YtoegfalhkackeaaGreatGA
set_option maxRecDepth 100000
set_option linter.all false
noncomputable section
namespace Go.D
open Go Go.Xe Go.Sx
def P4 :a8:=(b9 11 1 [(.i<|1),(.b false),(.i<|0),(.s []),(.l []),(.s []),(.i<|0),(.i<|0),(.b false),(.i<|0),(.l [])])
def ji j k m o p q r t u v d f:=
 Ca (.l j::.l k::J8 m o p q r t u v [.i d,.s f]) λV=>Ca (.b false) λW=>Cg R5 aJ (.l j::.l k::J8 m o p q r t u v []) λR=>∀a c g h w x y z A B,R (.l a::.l c::J8 g h w x y z A B [])->Ca (ln a<ln a+1) λK=>Ca (ln a+1) λS=>Ca (cI c 0 0<ln a) λT=>Ca (a9 (a++P4) (ln a) 0<|.i<|cI (a++P4) (ln a) 0) λZ=>Ca (a9 (a9 (a9 (a9 (a9 Z (ln a) 1<|.b true) (ln a) 2<|.i d) (ln a) 3<|.s f) (ln a) 4<|.l []) (ln a) 5<|.s []) λY=>Ca (cI c 0 0) λX=>((0<ln c->Nd (0<ln c) (Nd (¬ln c<1)<|Ni (ln c)<|Nd (d=1)<|Nb X (ln a)<|Nd T<|Nb X (ln a)<|Nd T<|Nd (I64<|g+1)<|Nd (I64<|h+1)<|(cI c 0 0<0->Nq (ln a) (Nd (J7 V<|.l (a9 (a9 (a9 (a9 (a9 (a9 (a9 (a9 (a9 (a9 (a9 a X 0<|.i<|cI a X 0) X 1<|.b true) X 2<|.i d) X 3<|.s f) X 4<|.l []) X 5<|.s []) X 6<|.i 0) X 7<|.i 0) X 8 W) X 9<|.i<|-1) X 10<|.l [])::.l (pQ c 1<|ln c+(-1))::J10 (g+1) (h+1) w x y z A B 0 0 [.i 0]) True))/\(¬cI c 0 0<0->Nb X (ln a) (Nd T<|Nq (ln a)<|Nd (J7 V<|.l (a9 (a9 (a9 (a9 (a9 (a9 (a9 (a9 (a9 (a9 (a9 a X 0<|.i<|cI a X 0) X 1<|.b true) X 2<|.i d) X 3<|.s f) X 4<|.l []) X 5<|.s []) X 6<|.i 0) X 7<|.i 0) X 8 W) X 9<|.i<|-1) X 10<|.l [])::.l (pQ c 1<|ln c+(-1))::J10 (g+1) (h+1) w x y z A B (IntKind.wrap .u32 X) (cI (a9 a X 0<|.i<|cI a X 0) X 0) [.i 0]) True))))/\(¬0<ln c->Ni (ln a) (Nd (ln a+1<67108865)<|Nr (ln a)<|Nd (d=1)<|Nb (ln a) S<|Nd K<|Nb (ln a) S<|Nd K<|Nd (I64<|g+1)<|Nd (I64<|h+1)<|(ln a<0->Nq S (Nd (J7 V<|.l (a9 (a9 (a9 (a9 (a9 Y (ln a) 6<|.i 0) (ln a) 7<|.i 0) (ln a) 8 W) (ln a) 9<|.i<|-1) (ln a) 10<|.l [])::.l c::J10 (g+1) (h+1) w x y z A B 0 0 [.i 0]) True))/\(¬ln a<0->Nb (ln a) S (Nd K<|Nq S<|Nd (J7 V<|.l (a9 (a9 (a9 (a9 (a9 Y (ln a) 6<|.i 0) (ln a) 7<|.i 0) (ln a) 8 W) (ln a) 9<|.i<|-1) (ln a) 10<|.l [])::.l c::J10 (g+1) (h+1) w x y z A B (IntKind.wrap .u32<|ln a) (cI Z (ln a) 0) [.i 0]) True)))))
def fd a b c d f g h j k m o p:=
 Nd (J7 (.l a::.l b::J8 c d f g h j k m [.i o,.s p])<|.l a::.l b::J10 c d f g h j k m 0 0 [.i 1]) True
def jh j k m o p q r t u v d f:=
 Ca (.l j::.l k::J8 m o p q r t u v [.i d,.s f]) λV=>Ca (.b false) λW=>Cg R5 aJ (.l j::.l k::J8 m o p q r t u v []) λR=>∀a c g h w x y z A B,R (.l a::.l c::J8 g h w x y z A B [])->Ca (ln a<ln a+1) λK=>Ca (ln a+1) λS=>Ca (cI c 0 0<ln a) λT=>Ca (a9 (a++P4) (ln a) 0<|.i<|cI (a++P4) (ln a) 0) λZ=>Ca (a9 (a9 (a9 (a9 (a9 Z (ln a) 1<|.b true) (ln a) 2<|.i d) (ln a) 3<|.s []) (ln a) 4<|.l []) (ln a) 5<|.s f) λY=>Ca (cI c 0 0) λX=>((0<ln c->Nd (0<ln c) (Nd (¬ln c<1)<|Ni (ln c)<|Nd (¬d=1)<|Nb X (ln a)<|Nd T<|Nb X (ln a)<|Nd T<|Nd (I64<|g+1)<|Nd (I64<|h+1)<|(cI c 0 0<0->Nq (ln a) (Nd (J7 V<|.l (a9 (a9 (a9 (a9 (a9 (a9 (a9 (a9 (a9 (a9 (a9 a X 0<|.i<|cI a X 0) X 1<|.b true) X 2<|.i d) X 3<|.s []) X 4<|.l []) X 5<|.s f) X 6<|.i 0) X 7<|.i 0) X 8 W) X 9<|.i<|-1) X 10<|.l [])::.l (pQ c 1<|ln c+(-1))::J10 (g+1) (h+1) w x y z A B 0 0 [.i 0]) True))/\(¬cI c 0 0<0->Nb X (ln a) (Nd T<|Nq (ln a)<|Nd (J7 V<|.l (a9 (a9 (a9 (a9 (a9 (a9 (a9 (a9 (a9 (a9 (a9 a X 0<|.i<|cI a X 0) X 1<|.b true) X 2<|.i d) X 3<|.s []) X 4<|.l []) X 5<|.s f) X 6<|.i 0) X 7<|.i 0) X 8 W) X 9<|.i<|-1) X 10<|.l [])::.l (pQ c 1<|ln c+(-1))::J10 (g+1) (h+1) w x y z A B (IntKind.wrap .u32 X) (cI (a9 a X 0<|.i<|cI a X 0) X 0) [.i 0]) True))))/\(¬0<ln c->Ni (ln a) (Nd (ln a+1<67108865)<|Nr (ln a)<|Nd (¬d=1)<|Nb (ln a) S<|Nd K<|Nb (ln a) S<|Nd K<|Nd (I64<|g+1)<|Nd (I64<|h+1)<|(ln a<0->Nq S (Nd (J7 V<|.l (a9 (a9 (a9 (a9 (a9 Y (ln a) 6<|.i 0) (ln a) 7<|.i 0) (ln a) 8 W) (ln a) 9<|.i<|-1) (ln a) 10<|.l [])::.l c::J10 (g+1) (h+1) w x y z A B 0 0 [.i 0]) True))/\(¬ln a<0->Nb (ln a) S (Nd K<|Nq S<|Nd (J7 V<|.l (a9 (a9 (a9 (a9 (a9 Y (ln a) 6<|.i 0) (ln a) 7<|.i 0) (ln a) 8 W) (ln a) 9<|.i<|-1) (ln a) 10<|.l [])::.l c::J10 (g+1) (h+1) w x y z A B (IntKind.wrap .u32<|ln a) (cI Z (ln a) 0) [.i 0]) True)))))
def mr :Prop:=
 ∀d f g h j k m o p q a c,lE (.l d::.l f::J8 g h j k m o p q [.i a,.s c])->((a=1->Cg R9 G7 [.s c] (λR=>∀r,R [.b r]->((r=true->((a=2->Cg W5 M8 [.s c] (λR=>∀t,R [.b t]->((t=true->ji d f g h j k m o p q a c)/\(¬t=true->fd d f g h j k m o p q a c))))/\(¬a=2->ji d f g h j k m o p q a c)))/\(¬r=true->fd d f g h j k m o p q a c))))/\(¬a=1->((a=2->Cg W5 M8 [.s c] (λR=>∀r,R [.b r]->((r=true->jh d f g h j k m o p q a c)/\(¬r=true->fd d f g h j k m o p q a c))))/\(¬a=2->jh d f g h j k m o p q a c))))
def qq :kq ot aR (dY 0) (jT 0) 85=mr:=by kernel_rfl
def ww :Prop:=
 ∀f c,Ev [.l f,.l c]->Nd (ln f<67108865) (Nq (ln f)<|Nd (oD [.l f,.l c] [.i 0,.l f])<|∀d b,oD [.l f,.l c] [.i d,.l b]->((d<ln c->Nb d (ln c) (Cg DI xA [.l b,.s<|cS c d 0] λR=>∀a,R [.i a]->Nb d (ln c) ((cB c d 1->((a<0->Nd (zD [.l f,.l c] [.l [],.i 11]) True)/\(¬a<0->Nd (¬a<0) (Nd (¬a<0)<|Nd (¬ln b<a)<|Nd (ln (pQ b 0 a)<67108865)<|Nd (I64<|a+1)<|Nd (¬a+1<0)<|Nd (¬ln b<a+1)<|Ni (ln b)<|Ni (ln<|pQ b 0 a)<|Nd (ln (pQ b 0 a)+ln (pQ b (a+1)<|ln b-(a+1))<67108865)<|Nr (ln<|pQ b 0 a)<|Nb d (ln c)<|Nd (cB c d 1)<|Nd (I64<|d+1)<|Nq (ln (pQ b 0 a)+ln (pQ b (a+1)<|ln b-(a+1)))<|
 Nd (oD [.l f,.l c] [.i (d+1),.l<|pQ b 0 a++pQ b (a+1) (ln b-(a+1))])<|Nd (jV [.l f,.l c] [.i (d+1),.l<|pQ b 0 a++pQ b (a+1) (ln b-(a+1))]<jV [.l f,.l c] [.i d,.l b]) True))))/\(¬cB c d 1->((a<0->Nb d (ln c) (Nd (¬cB c d 1)<|Nb d (ln c)<|Nb d (ln c)<|Cg vP qB [.l b,.s<|cS c d 0,.s<|cS c d 2] λR=>∀g,R [.l g]->Nd (I64<|d+1) (Nd (oD [.l f,.l c] [.i (d+1),.l g])<|Nd (jV [.l f,.l c] [.i (d+1),.l g]<jV [.l f,.l c] [.i d,.l b]) True)))/\(¬a<0->Nd (¬a<0) (Nd (¬ln b<a)<|Nd (ln (pQ b 0 a)<67108865)<|Nd (I64<|a+1)<|Nd (¬a+1<0)<|Nd (¬ln b<a+1)<|Ni (ln b)<|Ni (ln<|pQ b 0 a)<|Nd (ln (pQ b 0 a)+ln (pQ b (a+1)<|ln b-(a+1))<67108865)<|Nr (ln<|pQ b 0 a)<|Nb d (ln c)<|Nd (¬cB c d 1)<|Nb d (ln c)<|Nb d (ln c)<|Nq (ln (pQ b 0 a)+ln (pQ b (a+1)<|ln b-(a+1)))<|
 Cg vP qB [.l (pQ b 0 a++pQ b (a+1) (ln b-(a+1))),.s<|cS c d 0,.s<|cS c d 2] λR=>∀g,R [.l g]->Nd (I64<|d+1) (Nd (oD [.l f,.l c] [.i (d+1),.l g])<|Nd (jV [.l f,.l c] [.i (d+1),.l g]<jV [.l f,.l c] [.i d,.l b]) True))))))))/\(¬d<ln c->((8<ln b->Nd (zD [.l f,.l c] [.l [],.i 3]) True)/\(¬8<ln b->Nd (zD [.l f,.l c] [.l b,.i 0]) True)))))
def wv :kq cRap aR (dY 0) (jT 0) 140=ww:=by kernel_rfl
def gf a d t u v f g h j k m o p q x y:=
 Ca (.l a::.l f::J10 g h j k m o p q x y [.s t,.b u,.s v]) λV=>∀z r,zD [.l (cL a d 4),.l<|b9 3 1 [.s t,.b u,.s v]] [.l z,.i r]->((r=0->Cg R5 aJ (.l a::.l f::J8 g h j k m o p q []) (λR=>∀c A B C D F G H w I,R (.l c::.l A::J8 B C D F G H w I [])->Nb d (ln c) (Nd (d<ln c)<|Nd (I64<|w+1)<|Nq (ln c)<|Nd (bB V<|.l (a9 c d 4<|.l z)::.l A::J8 B C D F G H (w+1) I [.i 0]) True)))/\(¬r=0->Nd (bB V<|.l a::.l f::J8 g h j k m o p q [.i r]) True))
def dq a c d f g h j k m o p q r t u:=
 Nd (bB (.l a::.l c::J10 d f g h j k m o p q [.s r,.b t,.s u])<|.l a::.l c::J8 d f g h j k m o [.i 1]) True
def my :Prop:=
 ∀a g h j k m o p q r u v f c d,pX (.l a::.l g::J10 h j k m o p q r u v [.s f,.b c,.s d])->Ca (.l a::.l g::J10 h j k m o p q r u v [.s f,.b c,.s d]) λV=>Cg U2 R4 (.l a::.l g::J10 h j k m o p q r u v []) (λR=>∀t,R [.i t]->Ca (Ev [.l (cL a t 4),.l<|b9 3 1 [.s f,.b c,.s d]]) λW=>((t<0->Nd (bB V<|.l a::.l g::J8 h j k m o p q r [.i 11]) True)/\(¬t<0->Nb t (ln a) ((cI a t 2=1->((c=true->Nb t (ln a) (Cg DI xA [.l (cL a t 4),.s f] λR=>∀w,R [.i w]->((w<0->Nd (bB V<|.l a::.l g::J8 h j k m o p q r [.i 17]) True)/\(¬w<0->Cg R9 G7 [.s f] (λR=>∀x,R [.b x]->((x=true->Cg W5 M8 [.s d] (λR=>∀y,R [.b y]->((y=true->Nd (c=true) ((d=([]:Ae)->Nb t (ln a) (Nd W<|gf a t f c d g h j k m o p q r u v))/\(¬d=([]:Ae)->dq a g h j k m o p q r u v f c d)))/\(¬y=true->dq a g h j k m o p q r u v f c d))))/\(¬x=true->dq a g h j k m o p q r u v f c d)))))))/\(¬c=true->Cg R9 G7 [.s f] (λR=>∀w,R [.b w]->((w=true->Cg W5 M8 [.s d] (λR=>∀x,R [.b x]->((x=true->Nd (¬c=true) (Nb t (ln a)<|Nd W<|gf a t f c d g h j k m o p q r u v))/\(¬x=true->dq a g h j k m o p q r u v f c d))))/\(¬w=true->dq a g h j k m o p q r u v f c d))))))/\(¬cI a t 2=1->dq a g h j k m o p q r u v f c d)))))
def qz :kq ou aR (dY 1) (jT 1) 86=my:=by kernel_rfl
def fu a b c d f g h j k m o p q:=
 Nd (qH (.l a::.l b::J10 c d f g h j k m o p [.s q])<|.l a::.l b::J8 c d f g h j k m [.i 1]) True
def md :Prop:=
 ∀a d f g h j k m o p r t q,EM (.l a::.l d::J10 f g h j k m o p r t [.s q])->Ca (.l a::.l d::J10 f g h j k m o p r t [.s q]) λV=>Cg U2 R4 (.l a::.l d::J10 f g h j k m o p r t []) (λR=>∀c,R [.i c]->((c<0->Nd (qH V<|.l a::.l d::J8 f g h j k m o p [.i 11]) True)/\(¬c<0->Nb c (ln a) ((cI a c 2=2->Cg W5 M8 [.s q] (λR=>∀v,R [.b v]->((v=true->Cg R5 aJ (.l a::.l d::J8 f g h j k m o p []) (λR=>∀u x y z A B C D w F,R (.l u::.l x::J8 y z A B C D w F [])->Nb c (ln u) (Nd (c<ln u)<|Nd (I64<|w+1)<|Nq (ln u)<|Nd (qH V<|.l (a9 u c 5<|.s q)::.l x::J8 y z A B C D (w+1) F [.i 0]) True)))/\(¬v=true->fu a d f g h j k m o p r t q))))/\(¬cI a c 2=2->fu a d f g h j k m o p r t q)))))
def po :kq cRtxt aR (dY 0) (jT 0) 127=md:=by kernel_rfl
def mj :Prop:=
 ∀c f g h j k m o p q r s t u v,EJ (.l c::.l f::J10 g h j k m o p q r s [.i t,.i u,.b v])->Ca (.l c::.l f::J10 g h j k m o p q r s [.i t,.i u,.b v]) λV=>Cg U2 R4 (.l c::.l f::J10 g h j k m o p q r s []) (λR=>∀a,R [.i a]->((a<0->Nd (qD V<|.l c::.l f::J8 g h j k m o p q [.i 11]) True)/\(¬a<0->Nb a (ln c) ((cI c a 2=1->Cg R5 aJ (.l c::.l f::J8 g h j k m o p q []) (λR=>∀d x y z A B C D F w,R (.l d::.l x::J8 y z A B C D F w [])->Nb a (ln d) (Nd (a<ln d)<|Nb a (ln d)<|Nd (a<ln d)<|Nb a (ln d)<|Nd (a<ln d)<|Nd (I64<|w+1)<|Nq (ln d)<|Nd (qD V<|.l (a9 (a9 (a9 d a 6<|.i t) a 7<|.i u) a 8<|.b v)::.l x::J8 y z A B C D F (w+1) [.i 0]) True)))/\(¬cI c a 2=1->Nd (qD V<|.l c::.l f::J8 g h j k m o p q [.i 1]) True)))))
def qk :kq cRplk aR (dY 0) (jT 0) 131=mj:=by kernel_rfl
def mh :Prop:=
 ∀a c d f g h j k m o q r,vS (.l a::.l c::J10 d f g h j k m o q r [])->Ca (.l a::.l c::J10 d f g h j k m o q r []) λV=>Cg U2 R4 V (λR=>∀b,R [.i b]->Ca (cI a b 9) λW=>((b<0->Nd (qG V<|.l a::.l c::J8 d f g h j k m o [.i 11]) True)/\(¬b<0->Nb b (ln a) ((cI a b 9<0->Nd (qG V<|.l a::.l c::J8 d f g h j k m o [.i 10]) True)/\(¬cI a b 9<0->Cg R5 aJ (.l a::.l c::J8 d f g h j k m o []) (λR=>∀p t u v w x s y z A,R (.l p::.l t::J8 u v w x s y z A [])->Nb W (ln a) (Cg lK vU [.l (cL a W 10),.i b] λR=>∀B,R [.l B]->Nb W (ln p) (Nd (cI a b 9<ln p)<|Nb b (ln p)<|Nd (b<ln p)<|Nd (I64<|s+1)<|Nq (ln p)<|Nd (qG V<|.l (a9 (a9 p W 10<|.l B) b 9<|.i<|-1)::.l t::J8 u v w x (s+1) y z A [.i 0]) True))))))))
def qg :kq om aR (dY 0) (jT 0) 78=mh:=by kernel_rfl
def dx a b c d f g h j k m o p q r:=
 Nd (sK (.l a::.l b::J10 c d f g h j k m o p [.i q,.i r])<|.l a::.l b::J8 c d f g h j k m [.i 11]) True
def je a b c d f g h j k m o p q r:=
 Nd (sK (.l a::.l b::J10 c d f g h j k m o p [.i q,.i r])<|.l a::.l b::J8 c d f g h j k m [.i 10]) True
def ep a b c d f g h j k m o p q r:=
 Nd (sK (.l a::.l b::J10 c d f g h j k m o p [.i q,.i r])<|.l a::.l b::J8 c d f g h j k m [.i 1]) True
def jd a f g h j k m o p q b B C D F G:=
 Ca (cI a b 9) λV=>∀c r s t u v w d x y,aJ (.l a::.l f::J8 g h j k m o p q []) (.l c::.l r::J8 s t u v w d x y [])->Nb V (ln a) (Cg lK vU [.l (cL a V 10),.i b] λR=>∀z,R [.l z]->Cg vR qE [.l z,.i b,.i B] (λR=>∀A,R [.l A]->Nb V (ln c) (Nd (cI a b 9<ln c)<|Nd (I64<|d+1)<|Nq (ln c)<|Nd (sK (.l a::.l f::J10 g h j k m o p q C D [.i F,.i G])<|.l (a9 c V 10<|.l A)::.l r::J8 s t u v w (d+1) x y [.i 0]) True)))
def vj :Prop:=
 ∀a b c d f g h j k m r s p q,JM (.l a::.l b::J10 c d f g h j k m r s [.i p,.i q])->Ca (R5<|.l a::.l b::J8 c d f g h j k m []) λW=>Ca (Cg U2 R4<|.l a::.l b::J10 c d f g h j k m r s []) λV=>V (λR=>∀o,R [.i o]->V (λR=>∀u,R [.i u]->Cg U2 R4 (.l a::.l b::J10 c d f g h j k m p q []) (λR=>∀t,R [.i t]->((o<0->dx a b c d f g h j k m r s p q)/\(¬o<0->((u<0->dx a b c d f g h j k m r s p q)/\(¬u<0->((t<0->((p=0->((q=0->Nb o (ln a) ((cI a o 9<0->je a b c d f g h j k m r s p q)/\(¬cI a o 9<0->((t=o->ep a b c d f g h j k m r s p q)/\(¬t=o->Nd (t<0) (Nd W<|jd a b c d f g h j k m o t r s p q))))))/\(¬q=0->dx a b c d f g h j k m r s p q)))/\(¬p=0->dx a b c d f g h j k m r s p q)))/\(¬t<0->Nb o (ln a) ((cI a o 9<0->je a b c d f g h j k m r s p q)/\(¬cI a o 9<0->((t=o->ep a b c d f g h j k m r s p q)/\(¬t=o->Nd (¬t<0) (Nb t (ln a)<|(cI a t 9=cI a o 9->Nd W (jd a b c d f g h j k m o t r s p q))/\(¬cI a t 9=cI a o 9->ep a b c d f g h j k m r s p q)))))))))))))))
def vi :kq cRmv aR (dY 0) (jT 0) 129=vj:=by kernel_rfl
def fm a b c d f g h j k m o p q r s t:=
 Nd (jX (.l a::.l b::J10 c d f g h j k m o p [.i q,.i r,.i s,.i t])<|.l a::.l b::J8 c d f g h j k m [.i 11]) True
def jb c g h j k m o p q r b d B C D F G H I:=
 ∀a s t u v f w x y z,aJ (.l c::.l g::J8 h j k m o p q r []) (.l a::.l s::J8 t u v f w x y z [])->Nb b (ln c) (Cg vR qE [.l (cL c b 10),.i d,.i B] λR=>∀A,R [.l A]->Nb b (ln a) (Nd (b<ln a)<|Nb d (ln a)<|Nd (d<ln a)<|Nd (I64<|f+1)<|Nq (ln a)<|Nd (jX (.l c::.l g::J10 h j k m o p q r C D [.i F,.i G,.i H,.i I])<|.l (a9 (a9 a b 10<|.l A) d 9<|.i b)::.l s::J8 t u v (f+1) w x y z [.i 0]) True))
def fk a b c d f g h j k m o p q r s t:=
 Nd (jX (.l a::.l b::J10 c d f g h j k m o p [.i q,.i r,.i s,.i t])<|.l a::.l b::J8 c d f g h j k m [.i 10]) True
def ja b c a f g h j k m o p q r s t u v w d:=
 Ca [.l a,.i d,.i c] λV=>(b=c->fk a f g h j k m o p q r s t u v w)/\(¬b=c->Nb b (ln a) (Nd (jZ V [.i (cI a b 9)])<|Nd (QY V [.i (cI a b 9)]<QY V [.i b]) True))
def eo a b c d f g h j k m o p q r s t:=
 Nd (jX (.l a::.l b::J10 c d f g h j k m o p [.i q,.i r,.i s,.i t])<|.l a::.l b::J8 c d f g h j k m [.i 1]) True
def vg :Prop:=
 ∀a c d f g h j k m o s t u v p q,zJ (.l a::.l c::J10 d f g h j k m o s t [.i u,.i v,.i p,.i q])->Ca (R5<|.l a::.l c::J8 d f g h j k m o []) λW=>Cg U2 R4 (.l a::.l c::J10 d f g h j k m o s t []) (λR=>∀b,R [.i b]->Cg U2 R4 (.l a::.l c::J10 d f g h j k m o u v []) (λR=>∀r,R [.i r]->Ca [.l a,.i b,.i r] λV=>Cg U2 R4 (.l a::.l c::J10 d f g h j k m o p q []) (λR=>∀x,R [.i x]->((b<0->fm a c d f g h j k m o s t u v p q)/\(¬b<0->((r<0->fm a c d f g h j k m o s t u v p q)/\(¬r<0->((x<0->((p=0->((q=0->Nb b (ln a) ((cI a b 2=1->Nd (jZ V [.i b]) (∀w,jZ V [.i w]->((w<0->Nb r (ln a) ((cI a r 9<0->Nd (x<0) (Nd W<|jb a c d f g h j k m o b r x s t u v p q))/\(¬cI a r 9<0->fk a c d f g h j k m o s t u v p q)))/\(¬w<0->ja w r a c d f g h j k m o s t u v p q b))))/\(¬cI a b 2=1->eo a c d f g h j k m o s t u v p q)))/\(¬q=0->fm a c d f g h j k m o s t u v p q)))/\(¬p=0->fm a c d f g h j k m o s t u v p q)))/\(¬x<0->Nb b (ln a) ((cI a b 2=1->Nd (jZ V [.i b]) (∀w,jZ V [.i w]->((w<0->Nb r (ln a) ((cI a r 9<0->Nd (¬x<0) (Nb b (ln a)<|Cg zS EH [.l (cL a b 10),.i x] λR=>∀y,R [.i y]->((y<0->eo a c d f g h j k m o s t u v p q)/\(¬y<0->Nd W (jb a c d f g h j k m o b r x s t u v p q)))))/\(¬cI a r 9<0->fk a c d f g h j k m o s t u v p q)))/\(¬w<0->ja w r a c d f g h j k m o s t u v p q b))))/\(¬cI a b 2=1->eo a c d f g h j k m o s t u v p q)))))))))))
def ve :kq cRns aR (dY 0) (jT 0) 87=vg:=by kernel_rfl
section
variable {D :DM}{L F L' F':a8}{i g x y:Int}{K c p k:Nat}{cs cs':Ak}{s:Sl}{q q':Nod->Nod}{Z Y W V U T S R:Int}
def Sl.h (s:Sl):s.f.getD 0 (.i 0)= .i s.g:=by rw[Sl.f];split<;>rfl
def Sl.j (s:Sl):s.f.getD 1 (.i 0)= .b s.d:=by rw[Sl.f];split<;>simp_all
def Rf.o (h:Rf D L F cs):z9 L i g↔ ∃c,D.m i g=some c:=by
 obtain⟨rfl,_,_⟩:=h;rw[z9,DM.m];by_cases b:0<=i
 .rw[Xg b];cases a:D.L[i.toNat]? with
  |none=>have:=List.getElem?_eq_none_iff.1 a;simp;omega|some s=>
   have d:i<(D.L.length:Int):=by have:=(WM.1 a).1;omega
   rw[d9 a,d9 a,s.h,s.j];simp[b,d,Dat.f,Dat.j];exactλ_=>decide_eq_true_iff
 simp[b]
def Rf.j (h:Rf D L F cs)(w:WF D K):L.length<=1000:=by rw[h.1,Xc];have:=w.m;omega
def Rf.f (h:Rf D L F cs)(a:D.L[c]? =s)(d:s.d):(c:Int)<ln L/\cI L c 2=s.n.j/\cL L c 4=s.n.d.map Att.d/\cI L c 9=s.n.h/\cL L c 10=s.n.e.map B9:=by
 obtain⟨rfl,_,_⟩:=h;have b:D.L[((c:Nat):Int).toNat]? =s:=by rw[Xz];exact a
 have:=(WM.1 a).1;simp only[cI,cL,d9 b,ln,Xc];rw[Sl.f,Xg d];exact⟨by omega,rfl,rfl,rfl,rfl⟩
def Rf.b (h:Rf D L F cs)(hv:z9 L i g):∃(c:Nat) (s:Sl),D.m i g=c/\i=c/\D.L[c]? =s/\s.d/\D.e c=s.n/\0<=i/\i<ln L/\cI L i 2=s.n.j/\cL L i 4=s.n.d.map Att.d/\cI L i 9=s.n.h/\cL L i 10=s.n.e.map B9:=by let⟨c,d⟩:=h.o.1 hv;obtain⟨s,a,b,rfl,_⟩:=YX d;let⟨e,f,j,k,l⟩:=h.f a b;exact⟨c,s,d,rfl,a,b,Za a,by omega,e,f,j,k,l⟩
def Rf.h (h:Rf D L F cs)(hv:¬z9 L i g):D.m i g=none:=by
 cases e:D.m i g with
 |none=>rfl|some k=>exact absurd (h.o.2 ⟨k,e⟩) hv
def Wg (a:s.d):s.f=Sl.f ⟨s.g,true,s.n⟩:=by cases s;cases a;rfl
def Z9 {j:Nat}{d:Dat}(b:D.L[c]? =s)(a:s.d)(h:(Sl.f ⟨s.g,true,s.n⟩).set j d=Sl.f ⟨s.g,true,q s.n⟩):a9 (D.L.map Sl.f) c j d=(D.j c q).L.map Sl.f:=by rw[a9,DM.j,Xz];apply List.ext_getElem?;intro k;simp only[j9,XQ];by_cases e:c=k;subst e;rw[<-Wg a]at h;simp[b,h,a];simp[e]
def AD (a:D.L[c]? =s):(D.j c q).L[c]? =some {s with n:=q s.n}:=by rw[DM.j];simp[j9,a]
def Mj (h:p≠c):(D.j p q).L[c]? =D.L[c]? :=by rw[DM.j];simp[j9,h]
def AE :(D.j c q).j c q'=D.j c λn=>q' (q n):=by unfold DM.j;simp[D8]
def TE (a:D.L[c]? =some s)(h:q s.n=s.n):D.j c q=D:=by
 rw[DM.j];have:(D.L.modify c λs=> {s with n:=q s.n})=D.L:=by apply List.ext_getElem?;intro k;rw[j9];by_cases e:c=k;subst e;rw[Xg rfl,a];simp[h];rw[Xd e]
 rw[this]
def E3 {f:DM->DM×Prop}(c:∀D K,Rf D L F cs->WF D K->(f D).1=D/\(f D).2):eV L F cs L F cs f:=λD K a b=>⟨by rw[(c D K a b).1];exact a,(c D K a b).2⟩
def iY {Q:Int->Prop}(h:U32 i/\U32 g/\L.length<=1000)(k:Q (if z9 L i g then i else-1)):Sx.Nd (U2<|.l L::.l F::J10 Z Y W V U T S R i g []) (∀r,R4 (.l L::.l F::J10 Z Y W V U T S R i g []) [.i r]->Q r):=
 ndi h λr a=>by have a:r=if z9 L i g=true then i else-1:=a;subst a;exact k
def wP {Q:a8->a8->Int->Int->Int->Int->Int->Int->Int->Int->Prop}(h:jW L F [Z,Y,W,V,U,T,S,R])(k:Q L F Z Y W V U T S R):Sx.Nd (R5<|.l L::.l F::J8 Z Y W V U T S R []) (∀L' F' a b c d e f g j,aJ (.l L::.l F::J8 Z Y W V U T S R []) (.l L'::.l F'::J8 a b c d e f g j [])->Q L' F' a b c d e f g j):=
 ndi h λL' F' a b c d e f g j m=>by obtain⟨rfl,rfl,rfl,rfl,rfl,rfl,rfl,rfl,rfl,rfl⟩:=m;exact k
def pm :md:=by
 rw[md];intro L F Z Y W V U T S R i g t h;let⟨B,A,y⟩:=h;let⟨D,K,a,w⟩:=y;refine iY ⟨B,A,a.j w⟩ ?_;by_cases hv:z9 L i g
 .rw[Xg hv];let⟨c,s,j,o,p,r,l,x,f,m,G,H,d⟩:=a.b hv;have bad:(cI L i 2≠2\/D7 t=false)->fu L F Z Y W V U T S R i g t:=λE=>by rw[fu];refine ndt<|E3 λD K a w=>?_;let⟨c,s,j,o,p,r,l,x,f,m,_⟩:=a.b hv;rw[dH,j];simp only;rw[Xg<|by rw[l,<-m];exact E];exact⟨rfl,rfl⟩
  refine⟨λh=>by omega,λ_=>ag<|ndi f ⟨λu=>ndi trivial λb d=>⟨λe=>wP y<|ag<|ndi f<|ndi f<|ndi (w.I (k:=6)<|by rw[<-a.2.2];rfl)<|nin<|nrn<|ndt λD K a w=>?_,λe=>bad<|.inr ?_⟩,λu=>bad<|.inl u⟩⟩;have d:b=D7 t:=d;subst d;let⟨c,s,j,o,p,r,l,x,f,m,_⟩:=a.b hv;show Rf (dH D i g t).1 _ _ _/\(0:Int)=(dH D i g t).2;rw[dH,j];simp only;rw[Xd<|by rw[l,<-m];simp[u,e]];obtain⟨rfl,rfl,z⟩:=a;subst o;exact⟨⟨Z9 (q:=λn=> {n with m:=t}) p r rfl,rfl,by show _=D.C.modify 6 _;rw[<-z];rfl⟩,rfl⟩;have d:b=D7 t:=d;subst d;simpa using e
 rw[Xd hv];refine⟨λ_=>ndt<|E3 λD K a w=>?_,λh=>absurd (by decide) h⟩;rw[dH,a.h hv];exact⟨rfl,rfl⟩
def qj :mj:=by
 rw[mj];intro L F Z Y W V U T S R i g t z b h;let⟨B,A,x⟩:=h;have u:=x;let⟨D,K,a,w⟩:=x;refine iY ⟨B,A,a.j w⟩ ?_;by_cases hv:z9 L i g
 .rw[Xg hv];let⟨c,s,j,p,e,f,l,v,d,m,E,G,H⟩:=a.b hv;have o:¬i<0:=by omega
  refine⟨λh=>by omega,λ_=>ndi o<|ndi d ⟨λr=>wP u<|ndi o<|ndi d<|ndi d<|ndi o<|ndi d<|ndi d<|ndi o<|ndi d<|ndi d<|ndi (w.I (k:=7)<|by rw[<-a.2.2];rfl)<|nin<|nrn<|ndt λD K a w=>?_,λr=>ndt<|E3 λD K a w=>?_⟩⟩;let⟨c,s,j,p,e,f,l,v,d,m,_⟩:=a.b hv;show Rf (pU D i g t z b).1 _ _ _/\(0:Int)=(pU D i g t z b).2;rw[pU,j];simp only;rw[Xd<|by rw[l,<-m];simp[r]];obtain⟨rfl,rfl,y⟩:=a;subst p;refine⟨⟨?_,rfl,by show _=D.C.modify 7 _;rw[<-y];rfl⟩,rfl⟩;rw[Z9 (q:=λn=> {n with t:=t}) e f rfl,Z9 (q:=λn=> {n with r:=z}) (AD e) f rfl,Z9 (q:=λn=> {n with u:=b}) (AD<|AD e) f rfl,AE,AE];rfl;let⟨c,s,j,p,e,f,l,v,d,m,_⟩:=a.b hv;rw[pU,j];simp only;rw[Xg<|by rw[l,<-m];exact r];exact⟨rfl,rfl⟩
 rw[Xd hv];refine⟨λ_=>ndt<|E3 λD K a w=>?_,λh=>absurd (by decide) h⟩;rw[pU,a.h hv];exact⟨rfl,rfl⟩
variable {l:Ah}
def LW {d b:Sl}{z:Int}{X:a8}(e:X=l.map B9)(g:D.L[p]? =d)(up:d.d)(f:D.L[c]? =b)(h:b.d)(a:p≠c):a9 (a9 (D.L.map Sl.f) p 10<|.l X) c 9 (.i z)=(D.n p c l z k).L.map Sl.f:=by subst e;rw[Z9 (q:=λn=> {n with e:=l}) g up rfl,Z9 (q:=λn=> {n with h:=z}) (s:=b) (by rw[Mj a];exact f) h rfl];rfl
def rf_C (h:Rf D L F cs){z:Int}:cs.modify k (· +1)=(D.n p c l z k).C:=by rw[h.2.2];rfl
def qf :mh:=by
 rw[mh];intro L F Z Y W V U T S R i g h;let⟨hi,hg,I⟩:=h;let⟨D,K,a,w⟩:=I;refine iY ⟨hi,hg,a.j w⟩ ?_;by_cases hv:z9 L i g
 .rw[Xg hv];let⟨c,s,o,t,d,f,r,C,j,E,G,m,hb⟩:=a.b hv;have N:¬i<0:=by omega
  refine⟨λh=>by omega,λ_=>ndi N<|ndi j ⟨λH=>ndt<|E3 λD K a w=>?_,λH=>wP I ?_⟩⟩;let⟨c,s,o,t,d,f,r,C,j,E,G,m,_⟩:=a.b hv;rw[mL,o];simp only;rw[m]at H;rw[r,Xg (by rcases w.u c s d f with e| ⟨p,b,e,_⟩<;>omega)];exact⟨rfl,rfl⟩
  .have par:∀ {D K},Rf D L F [Z,Y,W,V,U,T,S,R]->WF D K-> ∃(c p:Nat) (s b:Sl),D.m i g=c/\i=c/\D.L[c]? =s/\s.d/\D.e c=s.n/\s.n.h=p/\D.L[p]? =b/\b.d/\p≠c/\D.e p=b.n/\cI L i 9=p/\(p:Int)<ln L/\cL L p 10=b.n.e.map B9:=λ{D K} a w=>by let⟨c,s,o,t,d,f,r,C,j,E,G,m,_⟩:=a.b hv;let⟨p,b,e,v,J,k3,k4,k5⟩:=DM.u w d f (by rw[<-m];omega);let⟨y,A,O,P,B⟩:=a.f v J;exact⟨c,p,s,b,o,t,d,f,r,e,v,J,k4,Za v,by rw[m,e],y,B⟩
   let⟨c,p,s,b,p1,p2,p3,p4,p5,p6,p7,p8,p9,pa,pb,x,pd⟩:=par a w;rw[pb];have M:¬(p:Int)<0:=by omega
   have hw:lK [.l (cL L p 10),.i i]:=⟨b.n.e,c,pd,p2,w.o p7 p8⟩
   refine ndi M<|ndi x<|ndi hw λX Q=>ndi M<|ndi x<|ndi x<|ndi N<|ndi j<|ndi j<|ndi (w.I (k:=4)<|by rw[<-a.2.2];rfl)<|nin<|nrn<|ndt λD K a w=>?_;let⟨c,q,s,b,y,A,O,P,B,q6,q7,q8,q9,qa,qb,qc,qd⟩:=par a w;have e:q=p:=by omega
   show Rf (mL D i g).1 _ _ _/\(0:Int)=(mL D i g).2;rw[mL,y];simp only;rw[B,q6,af,Xz,qa,<-e];have hc:=rf_C (k:=4) (p:=q) (c:=c) (l:=N8 b.n.e c) (z:= -1) a;obtain⟨rfl,rfl,_⟩:=a;rw[A];exact⟨⟨LW (Q b.n.e c (by rw[<-e];exact qd) A) q7 q8 O P q9,rfl,hc⟩,rfl⟩
 rw[Xd hv];refine⟨λ_=>ndt<|E3 λD K a w=>?_,λh=>absurd (by decide) h⟩;rw[mL,a.h hv];exact⟨rfl,rfl⟩
end
section
variable {D :DM}{L F L' F':a8}{i g x y:Int}{K a c d p k:Nat}{cs cs':Ak}{s:Sl}{Z W V U T S R Q:Int}
def Rf.m (h:Rf D L F cs)(w:WF D K):(z9 L x y->D.r x y=x)/\(x=0->y=0->D.r x y=some (-1))/\(¬z9 L x y-> ¬(x=0/\y=0)->D.r x y=Option.none):=by rw[DM.r];refine⟨λhv=>?_,λb d=>by rw[Xg ⟨b,d⟩],λhv f=>by rw[Xd f,h.h hv]⟩;let⟨c,s,a,e,_⟩:=h.b hv;have:=(w.H a).2.2;rw[af,a,e]
def WF.par_iff {d b:Sl}(w:WF D K)(i:D.L[p]? =d)(up:d.d)(g:D.L[c]? =b)(k:b.d):c∈d.n.e↔b.n.h=p:=by
 refine⟨λh=>?_,λh=>?_⟩;let⟨s,a,j,f⟩:=(w.A p d i up).2 c h;rw[g]at a;cases a;exact f
 .rcases w.u c b g k with e| ⟨q,l,e,a,j,f⟩;omega
  .have:q=p:=by omega
   subst this;rw[i]at a;cases a;exact f
def vh :vj:=by
 rw[vj];intro L F Z W V U T S R Q i g x y h;let⟨hi,hg,hx,hy,P⟩:=h;have ab:=P;let⟨D,K,a,w⟩:=P;have hl:=a.j w;refine iY ⟨hi,hg,hl⟩<|iY ⟨hi,hg,hl⟩<|iY ⟨hx,hy,hl⟩ ?_;by_cases hv:z9 L i g
 .rw[Xg hv];let⟨c,s,t,N,u,v,C,h6,E,h8,h9,A,hb⟩:=a.b hv;have n0:¬i<0:=by omega
  have par:∀ {D K},Rf D L F [Z,W,V,U,T,S,R,Q]->WF D K-> ¬cI L i 9<0-> ∃(c p:Nat) (s b:Sl),D.m i g=c/\i=c/\D.L[c]? =s/\s.d/\D.e c=s.n/\s.n.h=p/\D.L[p]? =b/\b.d/\p≠c/\D.e p=b.n/\cI L i 9=p/\(p:Int)<ln L/\cL L p 10=b.n.e.map B9/\c∈b.n.e:=λ{D K} a w d=>by let⟨c,s,t,N,u,v,C,h6,E,h8,h9,A,_⟩:=a.b hv;let⟨p,b,e,k1,k2,k3,k4,k5⟩:=DM.u w u v (by rw[<-A];omega);let⟨q1,q2,q3,q4,q5⟩:=a.f k1 k2;exact⟨c,p,s,b,t,N,u,v,C,e,k1,k2,k4,Za k1,by rw[A,e],q1,q5,k3⟩
  have o:∀r:Int,(∀ {D K},Rf D L F [Z,W,V,U,T,S,R,Q]->WF D K->D.r x y=r)->(r<0\/(z9 L x y/\r=x))->
    (cI L i 9<0->je L F Z W V U T S R Q i g x y)/\
    (¬cI L i 9<0->(r=i->ep L F Z W V U T S R Q i g x y)/\
     (¬r=i->(¬r<0-> ¬cI L r 9=cI L i 9->ep L F Z W V U T S R Q i g x y)/\
      ((¬r<0->cI L r 9=cI L i 9)->Sx.Nd (R5<|.l L::.l F::J8 Z W V U T S R Q []) (jd L F Z W V U T S R Q i r i g x y)))):=by
   intro r O I;have J:∀ {D:DM} {K p:Nat} {b:Sl},Rf D L F [Z,W,V,U,T,S,R,Q]->WF D K->D.L[p]? =b->b.d-> ¬r<0->(r.toNat∈b.n.e↔cI L r 9=p):=λ{D K p b} a w P up H=>by obtain I| ⟨I,rfl⟩:=I;exact absurd I H;let⟨c,s,t,N,u,v,C,h6,E,h8,h9,A,_⟩:=a.b I;rw[A,show r.toNat=c by omega];exact w.par_iff P up u v
   refine⟨λd=>?_,λd=>⟨λe=>?_,λe=>⟨λH f=>?_,λaa=>?_⟩⟩⟩;rw[je];refine ndt<|E3 λD K a w=>?_;let⟨c,s,t,N,u,v,C,h6,E,h8,h9,A,_⟩:=a.b hv;unfold eS;rw[t,O a w];simp only;rw[A]at d;rw[C,Xg (by rcases w.u c s u v with e| ⟨p,b,e,_⟩<;>omega)];exact⟨rfl,rfl⟩;rw[ep];refine ndt<|E3 λD K a w=>?_;let⟨c,p,s,b,p1,M,p3,p4,p5,p6,_⟩:=par a w d;rw[eS,p1,O a w];simp only;rw[p5,af,Xg<|.inl<|by omega];exact⟨rfl,rfl⟩;rw[ep];refine ndt<|E3 λD K a w=>?_;let⟨c,p,s,b,p1,M,p3,p4,p5,p6,p7,p8,p9,pa,pb,_⟩:=par a w d;rw[eS,p1,O a w];simp only;rw[p5,p6,af,Xz,pa,Xg<|.inr ⟨by omega,λm=>f<|by rw[pb];exact(J a w p7 p8 H).1 m⟩];exact⟨rfl,rfl⟩
   .refine ndi ab ?_;rw[jd];intro L1 F1 d0 d1 d2 d3 d4 d5 d6 d7 ac;obtain⟨rfl,rfl,rfl,rfl,rfl,rfl,rfl,rfl,rfl,rfl⟩:=ac;let⟨c,p,s,b,p1,M,p3,p4,p5,p6,p7,p8,p9,pa,pb,pc,pd,pe⟩:=par a w d;rw[pb];have m0:¬(p:Int)<0:=by omega
    have j:lK [.l (cL L1 p 10),.i i]:=⟨b.n.e,c,pd,M,w.o p7 p8⟩
    refine ndi m0<|ndi pc<|ndi j λX hX=>?_;have eX:=hX b.n.e c pd M;have lw:(N8 b.n.e c).length<=1000:=by have:(N8 b.n.e c).length<=b.n.e.length:=List.length_filter_le ..;have:=w.o p7 p8;omega
    refine ndi ⟨_,c,eX,M,lw⟩ λY hY=>ndi m0<|ndi pc<|ndi pc<|ndi (w.I (k:=5)<|by rw[<-a.2.2];rfl)<|nin<|nrn<|ndt λD K a w=>?_;let⟨c,q,s,b,q1,q2,q3,q4,q5,q6,q7,q8,q9,qa,qb,qc,qd,qe⟩:=par a w d;have e2:q=p:=by omega
    show Rf (eS D i g x y).1 _ _ _/\(0:Int)=(eS D i g x y).2;rw[eS,q1,O a w];simp only;have G:¬(r=(c:Int)\/(0<=r/\r.toNat∉b.n.e)):=by rintro (h| ⟨h,hm⟩);exact e (by omega);exact hm ((J a w q7 q8<|by omega).2<|by rw[aa<|by omega,qb])
    rw[q5,q6,af,Xz,qa,Xd G,<-e2];have hc:=rf_C (k:=5) (p:=q) (c:=c) (l:=X7 (N8 b.n.e c) c r) (z:=q) a;have eX:=hX b.n.e c (by rw[<-e2];exact qd) q2;have eY:=hY _ c eX q2;obtain⟨rfl,rfl,_⟩:=a;refine⟨⟨?_,rfl,hc⟩,rfl⟩;rw[eY,Z9 (q:=λn=> {n with e:=X7 (N8 b.n.e c) c r}) q7 q8 rfl];show _=(((D.j q λn=> {n with e:=X7 (N8 b.n.e c) c r}).j c λn=> {n with h:=(q:Int)}).L).map Sl.f;rw[TE (D:=D.j q _) (c:=c) (s:=s) (by rw[Mj q9];exact q3)<|by rw[<-q6]]
  refine⟨λh=>absurd h n0,λ_=>⟨λh=>absurd h n0,λ_=>?_⟩⟩;by_cases j:z9 L x y
  .rw[Xg j];let⟨c',s',k1,k2,k3,k4,k5,k6,k7,_⟩:=a.b j;let⟨m1,B⟩:=o x (λa w=>(a.m w).1 j)<|.inr ⟨j,rfl⟩;have x0:¬x<0:=by omega
   exact⟨λh=>absurd h x0,λ_=>ndi n0<|ndi E ⟨m1,λd=>⟨(B d).1,λf=>ndi x0<|ndi x0<|ndi k7 ⟨λe=>((B d).2 f).2 λ_=>e,λe=>((B d).2 f).1 x0 e⟩⟩⟩⟩
  .rw[Xd j];have bad:¬(x=0/\y=0)->dx L F Z W V U T S R Q i g x y:=λH=>by rw[dx];refine ndt<|E3 λD K a w=>?_;let⟨c,s,t,_⟩:=a.b hv;rw[eS,t,(a.m w).2.2 j H];exact⟨rfl,rfl⟩
   refine⟨λ_=>⟨λex=>⟨λey=>?_,λey=>bad λh=>ey h.2⟩,λex=>bad λh=>ex h.1⟩,λh=>absurd (by decide) h⟩;let⟨m1,B⟩:=o (-1) (λa w=>(a.m w).2.1 ex ey) (.inl<|by decide);exact ndi n0<|ndi E ⟨m1,λd=>⟨(B d).1,λf=>ndi (by decide)<|((B d).2 f).2 λh=>absurd (by decide) h⟩⟩
 .have bad:dx L F Z W V U T S R Q i g x y:=by rw[dx];refine ndt<|E3 λD K a w=>?_;rw[eS,a.h hv];exact⟨rfl,rfl⟩
  rw[Xd hv];exact⟨λ_=>bad,λh=>absurd (by decide) h⟩
def No (w:WF D K){r:Nat->Nat}(o:∀(i:Nat) s,D.L[i]? =some s->s.d-> ∀j∈s.n.e,r i<r j):∀(n:Nat) {c:Nat} {s:Sl},D.L[c]? =some s->s.d->r c<=n-> ∀f a,n+1<f->n+1<a->uY (D.L.map Sl.f) f c=uY (D.L.map Sl.f) a c:=by
 intro n;induction n using Nat.strongRecOn with
 |ind n q=>
  intro c s b d y f a v l;obtain⟨f,rfl⟩:∃k,f=k+1:=⟨f-1,by omega⟩
  obtain⟨a,rfl⟩:∃k,a=k+1:=⟨a-1,by omega⟩
  unfold uY;rw[af,af,(Rf.f ⟨rfl,rfl,rfl⟩ b d).2.2.2.1];obtain e| ⟨p,u,e,g,h,t⟩:=w.u c s b d
  .rw[e];have:∀m,0<m->uY (D.L.map Sl.f) m (-1)=0:=λm x=>by
    obtain⟨m,rfl⟩:∃k,m=k+1:=⟨m-1,by omega⟩
    rw[uY];simp
   rw[this f<|by omega,this a<|by omega]
  have:=o p u g h c t;rw[e,q (r p) (by omega) g h (Xh _) f a (by omega)<|by omega]
def Np (w:WF D K)(a:D.L[c]? =s)(b:s.d):uY (D.L.map Sl.f) 1002 s.n.h<uY (D.L.map Sl.f) 1002 c:=by
 let⟨r,d,e⟩:=w.B;have:=w.m;have:=d c;rw[No w e (r c) a b (Xh _) 1002 1003 (by omega)<|by omega]
 conv=>rhs;rw[uY]
 rw[af,(Rf.f ⟨rfl,rfl,rfl⟩ a b).2.2.2.1];exact Yd _
def vd :vg:=by
 unfold vg;intro L F Z W V U T S R Q i g j m x y h;let⟨hi,hg,hj,hm,hx,hy,hp⟩:=h;have ad:=hp;let⟨D,K,a,w⟩:=hp;have hl:=a.j w;refine iY ⟨hi,hg,hl⟩<|iY ⟨hj,hm,hl⟩<|iY ⟨hx,hy,hl⟩ ?_;have bad:(¬z9 L i g=true\/ ¬z9 L j m=true\/(¬z9 L x y=true/\ ¬(x=0/\y=0)))->fm L F Z W V U T S R Q i g j m x y:=λhb=>by
  unfold fm;refine ndt<|E3 λD K a w=>?_;have:D.m i g=none\/D.m j m=none\/D.r x y=none:=by obtain h|h|h:=hb;exact .inl<|a.h h;exact .inr<|.inl<|a.h h;exact .inr<|.inr<|(a.m w).2.2 h.1 h.2
  unfold Y3;split;rename_i C O e3;rw[C,O,e3]at this;simp at this;exact⟨rfl,rfl⟩
 by_cases hv:z9 L i g=true
 .by_cases hu:z9 L j m
  .rw[Xg hv,Xg hu];let⟨p,f,h1,h2,P,h4,h5,h6,Y,h8,h9,ha,hb⟩:=a.b hv;obtain⟨c,t,k1,k2,k3,k4,k5,k6,k7,k8,k9,ka,kb⟩:=a.b hu;have n0:¬i<0:=by omega
   have m0:¬j<0:=by omega
   have u:∀ {r:Int},(∀ {D K},Rf D L F [Z,W,V,U,T,S,R,Q]->WF D K->D.r x y=some r)-> ∀ {D K},Rf D L F [Z,W,V,U,T,S,R,Q]->WF D K-> ∃(p c:Nat) (f t:Sl),i=p/\j=c/\D.L[p]? =some f/\f.d/\D.L[c]? =some t/\t.d/\cI L i 2=f.n.j/\cI L j 9=t.n.h/\cL L i 10=f.n.e.map B9/\
     ((cI L i 2≠1->Y3 D i g j m x y=(D,1))/\(cI L i 2=1->(t.n.h≠ -1\/Abv D c p->Y3 D i g j m x y=(D,10))/\(t.n.h= -1-> ¬Abv D c p->(0<=r/\r.toNat∉f.n.e->Y3 D i g j m x y=(D,1))/\(¬(0<=r/\r.toNat∉f.n.e)->Y3 D i g j m x y=(D.n p c (X7 f.n.e c r) p 3,0))))):=λ{r} ho {D K} a w=>by
    obtain⟨p,f,h1,h2,P,h4,h5,h6,Y,h8,h9,ha,hb⟩:=a.b hv;obtain⟨c,t,k1,k2,k3,k4,k5,k6,k7,k8,k9,ka,kb⟩:=a.b hu;refine⟨p,c,f,t,h2,k2,P,h4,k3,k4,h8,ka,hb,λe=>?_,λe=>⟨λC=>?_,λC O=>⟨λe3=>?_,λe3=>?_⟩⟩⟩;all_goals
     unfold Y3;rw[h1,k1,ho a w];simp only;rw[h5,k5,<-h8]
    rw[Xg e];rw[Xd<|by simp[e],Xg C];rw[Xd<|by simp[e],Xd<|by rw[not_or];exact⟨by simp[C],O⟩,Xg e3];rw[Xd<|by simp[e],Xd<|by rw[not_or];exact⟨by simp[C],O⟩,Xd e3]
   have J:∀r:Int,(∀ {D K},Rf D L F [Z,W,V,U,T,S,R,Q]->WF D K->D.r x y=some r)->
     (cI L i 2≠1->eo L F Z W V U T S R Q i g j m x y)/\
     (cI L i 2=1->Sx.Nd (jZ [.l L,.i i,.i j] [.i i]) (∀k,jZ [.l L,.i i,.i j] [.i k]->
      (¬k<0->ja k j L F Z W V U T S R Q i g j m x y i)/\
      (k<0->(¬cI L j 9<0->fk L F Z W V U T S R Q i g j m x y)/\
       (cI L j 9<0->zS [.l (cL L i 10),.i r]\/r<0)/\
       (cI L j 9<0->(0<=r/\(∀l:Ah,cL L i 10=l.map B9->r.toNat∉l)->eo L F Z W V U T S R Q i g j m x y)/\
        ((0<=r-> ∀l:Ah,cL L i 10=l.map B9->r.toNat∈l)->Sx.Nd (R5<|.l L::.l F::J8 Z W V U T S R Q []) (jb L F Z W V U T S R Q i j r i g j m x y)))))):=by
    intro r ho;have u:=λ{D K}=> @u r ho D K;refine⟨λe=>?_,λe=>ndi (λD K hL w q d C O hs=>?_) λk hI=>⟨λG=>?_,λG=>⟨λI=>?_,λI=>?_,λI=>⟨λhr=>?_,λhr=>ndi ad ?_⟩⟩⟩⟩;unfold eo;refine ndt<|E3 λD K a w=>?_;obtain⟨_,_,_,_,_,_,_,_,_,_,_,_,_,q,_⟩:=u a w;rw[q e];exact⟨rfl,rfl⟩;obtain⟨s,s1,s2⟩:=hs;exact .inr ⟨q,s,C,s1,s2,Iff.rfl⟩
    .unfold ja;have aa:=λ{D K p c} (hL:L=D.L.map Sl.f) (w:WF D K) (h1:i=((p:Nat):Int)) (h2:j=((c:Nat):Int)) (P:∃s,D.L[p]? =some s/\s.d)=>(hI D K hL w p c h1 h2 P).resolve_left λh=>G (by omega);obtain⟨b,s,M,B,N,b4⟩:=aa a.1 w h2 k2 ⟨f,P,h4⟩;refine⟨λac=>?_,λac=>ndi G<|ndi ?_ (ndi (λD K hL w q d C O hs=>?_)<|ndt ?_)⟩
     .unfold fk;refine ndt<|E3 λD K a w=>?_;obtain⟨p,c,f,t,A,o,q3,q4,q5,q6,q7,q8,q9,_,qa⟩:=u a w;obtain⟨b,s,M,B,N,b4⟩:=aa a.1 w A o ⟨f,q3,q4⟩;have:b=c:=by omega
      subst this;rw[(qa e).1<|.inr<|b4.2 .z];exact⟨rfl,rfl⟩
     rw[M];exact(a.f B N).1
     .obtain⟨b,s,M,B,N,b4⟩:=aa hL w C O hs;have cc:=Rf.f (F:=_) (cs:=_) ⟨hL,rfl,rfl⟩ B N;rw[M,cc.2.2.2.1];have H:d≠b:=λh=>ac (by omega);obtain e'| ⟨q',sq,e',t1,t2,t3⟩:=w.u b s B N;refine .inl ⟨e',λE=>?_⟩;rcases(b4.1 E).A with h| ⟨q',s',t1,t2,_⟩;exact H h;rw[B]at t1;cases t1;omega
      .refine .inr ⟨q',sq,e',t1,t2,b4.trans ⟨λE=>?_,λE=>.B _ _ _ B e' E⟩⟩;obtain h| ⟨o,s',u1,u2,u3⟩:=E.A;exact absurd h H
       .rw[B]at u1;cases u1;have:o=q':=by omega
        subst this;exact u3
     show uY L 1002 (cI L k 9)<uY L 1002 k;rw[M,(a.f B N).2.2.2.1,a.1];exact Np w B N
    unfold fk;refine ndt<|E3 λD K a w=>?_;obtain⟨p,c,f,t,A,o,q3,q4,q5,q6,q7,q8,q9,_,qa⟩:=u a w;rw[(qa e).1<|.inl<|by omega];exact⟨rfl,rfl⟩;by_cases h0:r<0;exact .inr h0;exact .inl ⟨f.n.e,r.toNat,hb,by omega,w.o P h4⟩
    .unfold eo;refine ndt<|E3 λD K a w=>?_;obtain⟨p,c,f,t,A,o,q3,q4,q5,q6,q7,q8,q9,_,qa⟩:=u a w;have E:¬Abv D c p:=by rcases hI D K a.1 w p c A o ⟨f,q3,q4⟩with h| ⟨b,s,M,_⟩;exact h.2;omega
     have v:t.n.h= -1:=by rcases w.u c t q5 q6 with e| ⟨q,sq,e,_⟩<;>omega
     rw[((qa e).2 v E).1 ⟨hr.1,hr.2 _ q9⟩];exact⟨rfl,rfl⟩
    .unfold jb;intro L1 F1 d0 d1 d2 d3 d4 d5 d6 d7 ae;obtain⟨rfl,rfl,rfl,rfl,rfl,rfl,rfl,rfl,rfl,rfl⟩:=ae;refine ndi n0<|ndi Y<|ndi ⟨f.n.e,c,hb,k2,w.o P h4⟩ λX hX=>ndi n0<|ndi Y<|ndi Y<|ndi m0<|ndi k7<|ndi k7<|ndi (w.I (k:=3)<|by rw[<-a.2.2];rfl)<|nin<|nrn<|ndt λD K a w=>?_;obtain⟨p,c,f,t,A,o,q3,q4,q5,q6,q7,q8,q9,_,qa⟩:=u a w;have E:¬Abv D c p:=by rcases hI D K a.1 w p c A o ⟨f,q3,q4⟩with h| ⟨b,s,M,_⟩;exact h.2;omega
     have v:t.n.h= -1:=by rcases w.u c t q5 q6 with e| ⟨q,sq,e,_⟩<;>omega
     have eX:=hX f.n.e c q9 o;have H:p≠c:=by rintro rfl;exact E .z
     have hC:=rf_C (k:=3) (p:=p) (c:=c) (l:=X7 f.n.e c r) (z:=p) a;show Rf (Y3 D i g j m x y).1 _ _ _/\(0:Int)=(Y3 D i g j m x y).2;rw[((qa e).2 v E).2 λh=>h.2<|hr h.1 _ q9];obtain⟨rfl,rfl,_⟩:=a;rw[A,o];exact⟨⟨LW eX q3 q4 q5 q6 H,rfl,hC⟩,rfl⟩
   refine⟨λh=>absurd h n0,λ_=>⟨λh=>absurd h m0,λ_=>?_⟩⟩;by_cases hw:z9 L x y
   .rw[Xg hw];obtain⟨c',s',t1,t2,t3,t4,t5,t6,t7,_⟩:=a.b hw;obtain⟨m1,m2⟩:=J x λa w=>(a.m w).1 hw;have x0:¬x<0:=by omega
    refine⟨λh=>absurd h x0,λ_=>ndi n0<|ndi Y ⟨λe=>⟨(m2 e).1,λ_ k hI=>?_⟩,m1⟩⟩;obtain⟨A,o⟩:=(m2 e).2 (m2 e).1 k hI;refine⟨λG=>ndi m0<|ndi k7 ⟨λI=>?_,(o G).1⟩,A⟩;obtain⟨_,p2,p3⟩:=o G;refine ndi x0<|ndi n0<|ndi Y<|ndi ((p2 I).resolve_right x0) λr hr=>⟨λh=>(p3 I).1 ⟨by omega,λl e=>(hr l x.toNat e<|by omega).1 h⟩,λh=>(p3 I).2 λ_ l e=>Classical.not_not.1 λhn=>h<|(hr l x.toNat e<|by omega).2 hn⟩
   rw[Xd hw];refine⟨λ_=>⟨λex=>⟨λey=>?_,λey=>bad<|.inr<|.inr ⟨hw,λh=>ey h.2⟩⟩,λex=>bad<|.inr<|.inr ⟨hw,λh=>ex h.1⟩⟩,λh=>absurd (by decide) h⟩;obtain⟨m1,m2⟩:=J (-1) λa w=>(a.m w).2.1 ex ey;refine ndi n0<|ndi Y ⟨λe=>⟨(m2 e).1,λ_ k hI=>?_⟩,m1⟩;obtain⟨A,o⟩:=(m2 e).2 (m2 e).1 k hI;exact⟨λG=>ndi m0<|ndi k7 ⟨λI=>ndi (by decide)<|((o G).2.2 I).2 λh=>absurd h<|by decide,(o G).1⟩,A⟩
  rw[Xd hu];by_cases ab:(if z9 L i g then i else-1)<0;exact⟨λ_=>bad<|.inr<|.inl hu,λh=>absurd ab h⟩;exact⟨λh=>absurd h ab,λ_=>⟨λ_=>bad<|.inr<|.inl hu,λh=>absurd (by decide) h⟩⟩
 rw[Xd hv];exact⟨λ_=>bad<|.inl hv,λh=>absurd (by decide) h⟩
end
section
variable {D :DM}{L F L' F':a8}{i g k:Int}{K c:Nat}{cs cs':Ak}{Z Y W V U T S R:Int}{t x s:Str}
def crS (L:a8)(i g k:Int)(t x:Str):a8:=a9 (a9 (a9 (a9 (a9 (a9 (a9 (a9 (a9 (a9 (a9 L i 0<|.i g) i 1<|.b true) i 2<|.i k) i 3<|.s t) i 4<|.l []) i 5<|.s x) i 6<|.i 0) i 7<|.i 0) i 8<|.b false) i 9<|.i<|-1) i 10<|.l []
variable {X:List Sl}
def Po {a gn:Nat}{b:Sl}(h:X[a]? =b)(c:b.g=gn):crS (X.map Sl.f) a gn k t x=(X.modify a λs=>⟨s.g,true,A2 k t x⟩).map Sl.f:=by simp only[crS,a9,D8,Xz];apply List.ext_getElem?;intro j;simp only[j9,XQ];by_cases e:a=j;subst e;simp only[YE,h,XH];congr 1;rw[c];rw[Sl.f];split<;>rfl;simp[e]
def ow {a:Nat}{b:Sl}{v:Int}(h:X[a]? =b):cI (a9 (X.map Sl.f) a 0<|.i v) a 0=v:=by
 rw[cI,A7,a9];have e:((X.map Sl.f).modify a λr=>r.set 0<|.i v).getD a []=b.f.set 0 (.i v):=by rw[Xp,j9,Xg rfl,XQ,h];rfl
 rw[Xz,e];show((b.f.set 0<|.i v).getD 0<|.i 0).j=v;rw[Sl.f];split<;>rfl
def CL (hk:k=1\/k=2)(ok:¬((k=1/\v5 t=false)\/(k=2/\D7 x=false)))(ht:t=if k=1 then s else [])(hx:x=if k=1 then []else s)(hp:jW L F [Z,Y,W,V,U,T,S,R]):I64 (Z+1)/\I64 (Y+1)/\L.length<=1000/\(0<ln F->0<=cI F 0 0/\cI F 0 0<ln L/\J7 (.l L::.l F::J8 Z Y W V U T S R [.i k,.s s]) (.l (crS L (cI F 0 0) (cI L (cI F 0 0) 0) k t x)::.l (pQ F 1<|ln F+ -1)::J10 (Z+1) (Y+1) W V U T S R (IntKind.wrap .u32<|cI F 0 0) (cI (a9 L (cI F 0 0) 0<|.i<|cI L (cI F 0 0) 0) (cI F 0 0) 0) [.i 0]))/\(¬0<ln F->J7 (.l L::.l F::J8 Z Y W V U T S R [.i k,.s s]) (.l (crS (L++P4) (ln L) (cI (L++P4) (ln L) 0) k t x)::.l F::J10 (Z+1) (Y+1) W V U T S R (IntKind.wrap .u32<|ln L) (cI (a9 (L++P4) (ln L) 0<|.i<|cI (L++P4) (ln L) 0) (ln L) 0) [.i 0])):=by
 let⟨D,K,c,w⟩:=hp;have o:=w.m;have I:∀a:Nat,a<=1000->IntKind.wrap .u32 (a:Int)=a:=λa h=>T7 (by simp[IntKind.min,IntKind.signed]) (by simp[IntKind.max,IntKind.signed,IntKind.bits];omega);have j:∀D:DM,z5 D k (if k=1 then s else []) (if k=1 then []else s)=(((D.b<|A2 k t x).1.o 0).o 1,((D.b<|A2 k t x).2:Int),((D.b<|A2 k t x).1.d (D.b<|A2 k t x).2:Int),0):=λD=>by rw[<-ht,<-hx];rw[z5,Xd ok]
 refine⟨w.I (k:=0)<|by rw[<-c.2.2];rfl,w.I (k:=1)<|by rw[<-c.2.2];rfl,c.j w,λn=>?_,λn=>?_⟩
 .have un:∀ {D K},Rf D L F [Z,Y,W,V,U,T,S,R]->WF D K-> ∃(a:Nat) (l:Ah) (f:Sl),D.h=a::l/\cI F 0 0=a/\pQ F 1 (ln F+ -1)=l.map B9/\D.L[a]? =f/\cI L a 0=f.g/\(a:Int)<ln L/\a<=1000:=λ{D K} c w=>by
   obtain⟨rfl,rfl,_⟩:=c;have o:=w.m;cases e:D.h with
   |nil=>rw[e]at n;simp[ln]at n|cons a l=>
    let⟨f,q,E⟩:=w.t.2 a (by rw[e];exact List.mem_cons_self);have:=(WM.1 q).1;refine⟨a,l,f,rfl,rfl,?_,q,?_,by simp[ln];omega,by omega⟩
    .simp only[pQ,ln,XU,XD,Xc];have:((((l.length+1:Nat):Int)+ -1)).toNat=l.length:=by omega
     rw[this];show((l.map B9).take l.length)=_;exact XP (by simp)
    simp only[cI];rw[d9<|by rw[Xz];exact q,Sl.h];rfl
  let⟨a,l,f,q,E,G,h4,P,Q,X⟩:=un c w;rw[E,G,P,I a X];refine⟨by omega,Q,λD K c w=>?_⟩;let⟨b,m,p,H,k2,k3,y,k5,k6,k7⟩:=un c w;have N:b=a:=by omega
  subst N;have O:l=m:=zQ<|G.symm.trans k3;subst O;have A:f.g=p.g:=by omega
  show Rf (z5 D k (if k=1 then s else []) (if k=1 then []else s)).1 _ _ _/\(_,_,(0:Int))=(z5 D k (if k=1 then s else []) (if k=1 then []else s)).2;rw[j D];have r:D.f=D:=by rw[DM.f,Xd<|by simp[H]]
  have z:D.b (A2 k t x)=(⟨D.L.modify b λs=>⟨s.g,true,A2 k t x⟩,l,D.C⟩,b):=by rw[DM.b,r,H]
  obtain⟨rfl,rfl,v⟩:=c;rw[z,Po y A.symm];refine⟨⟨rfl,rfl,?_⟩,?_⟩;show _=(D.C.modify 0 _).modify 1 _;rw[<-v];rfl
  .show _=((b:Int),((DM.d (⟨_,_,_⟩:DM) b:Nat):Int),(0:Int))
   have d:(D.L.modify b λs=>(⟨s.g,true,A2 k t x⟩:Sl))[b]? =some ⟨p.g,true,A2 k t x⟩:=by rw[j9,Xg rfl,y];rfl
   rw[ow y,A];simp only[DM.d,d]
 .refineλD K c w=>?_;have B:D.h=[]:=by
   obtain⟨_,rfl,_⟩:=c;cases e:D.h with
   |nil=>rfl|cons a l=>rw[e]at n;simp[ln]at n
  have o:=w.m;obtain⟨rfl,rfl,v⟩:=c;have lL:ln (D.L.map Sl.f)=(D.L.length:Int):=by simp[ln]
  have M:D.L.map Sl.f++P4=(D.L++ [(⟨1,false,A2 0 [] []⟩:Sl)]).map Sl.f:=by rw[XJ];rfl
  have r:D.f=⟨D.L++ [⟨1,false,A2 0 [] []⟩],[D.L.length],D.C⟩:=by rw[DM.f,Xg B]
  have z:D.b (A2 k t x)=(⟨(D.L++ [(⟨1,false,A2 0 [] []⟩:Sl)]).modify D.L.length λs=>⟨s.g,true,A2 k t x⟩,[],D.C⟩,D.L.length):=by rw[DM.b,r]
  have d:(D.L++ [(⟨1,false,A2 0 [] []⟩:Sl)])[D.L.length]? =some ⟨1,false,A2 0 [] []⟩:=by simp
  have J:cI ((D.L++ [(⟨1,false,A2 0 [] []⟩:Sl)]).map Sl.f) D.L.length 0=((1:Nat):Int):=by simp only[cI];rw[d9<|by rw[Xz];exact d,Sl.h];rfl
  show Rf (z5 D k (if k=1 then s else []) (if k=1 then []else s)).1 _ _ _/\(_,_,(0:Int))=(z5 D k (if k=1 then s else []) (if k=1 then []else s)).2;rw[j D,M,lL,I _<|by omega,J,z,Po d rfl];refine⟨⟨rfl,by rw[B];rfl,?_⟩,?_⟩;show _=(D.C.modify 0 _).modify 1 _;rw[<-v];rfl
  .show _=((D.L.length:Int),((DM.d (⟨_,_,_⟩:DM) D.L.length:Nat):Int),(0:Int))
   have u:((D.L++ [(⟨1,false,A2 0 [] []⟩:Sl)]).modify D.L.length λs=>(⟨s.g,true,A2 k t x⟩:Sl))[D.L.length]? =some ⟨1,true,A2 k t x⟩:=by rw[j9,Xg rfl,d];rfl
   rw[ow d];simp only[DM.d,u]
def qp :mr:=by
 rw[mr];intro L F Z Y W V U T S R k s h;obtain⟨u,q⟩:=h;have bad:((k=1/\v5 s=false)\/(k=2/\D7 s=false))->fd L F Z Y W V U T S R k s:=λg=>by
  rw[fd];refine ndt λD K B w=>?_;have:z5 D k (if k=1 then s else []) (if k=1 then []else s)=(D,0,0,1):=by rw[z5,Xg];obtain⟨rfl,h⟩| ⟨rfl,h⟩:=g;exact .inl ⟨rfl,h⟩;exact .inr ⟨rfl,h⟩
  show Rf (z5 D k (if k=1 then s else []) (if k=1 then []else s)).1 _ _ _/\(_,_,(1:Int))=(z5 D k (if k=1 then s else []) (if k=1 then []else s)).2;rw[this];exact⟨B,rfl⟩
 have eqb:∀ {b v:Bool},b=v-> ¬b=true->v=false:=λh A=>by subst h;simpa using A
 have i:∀ {a:Int},0<=a-> ¬a<0:=λh=>by omega
 have n:∀X:a8,0<=ln X:=λX=>by simp only[ln];omega
 refine⟨λe=>ndi trivial λb g=>⟨λc=>⟨λp=>by omega,λ_=>?_⟩,λc=>bad<|.inl ⟨e,eqb g c⟩⟩,λe=>⟨λp=>ndi trivial λb g=>⟨λc=>?_,λc=>bad<|.inr ⟨p,eqb g c⟩⟩,λp=>absurd (u.resolve_left e) p⟩⟩
 .have g:b=v5 s:=g;let⟨m1,o,C,y,z⟩:=CL (k:=k) (t:=s) (x:=[]) (s:=s) u (by rintro (⟨_,h⟩| ⟨h,_⟩);rw[<-g,c]at h;cases h;omega) (by rw[Xg e]) (by rw[Xg e]) q;rw[ji];refine wP q ⟨λl=>?_,λl=>?_⟩;let⟨j,d,r⟩:=y l;refine ndi l<|ag<|nin<|ndi e<|ndi (i j)<|ndi d<|ndi d<|ndi (i j)<|ndi d<|ndi d<|ndi m1<|ndi o ⟨λh=>absurd h<|i j,λ_=>ndi (i j)<|ndi d<|ndi d<|nin<|nrn<|ndt r⟩
  .have f:ln L<ln L+1:=by omega
   have m:=i<|n L;exact nin<|ndi (by simp only[ln];omega)<|nrn<|ndi e<|ndi m<|ndi f<|ndi f<|ndi m<|ndi f<|ndi f<|ndi m1<|ndi o ⟨λh=>absurd h m,λ_=>ndi m<|ndi f<|ndi f<|nin<|nrn<|ndt<|z l⟩
 .have g:b=D7 s:=g;let⟨m1,o,C,y,z⟩:=CL (k:=k) (t:=[]) (x:=s) (s:=s) u (by rintro (⟨h,_⟩| ⟨_,h⟩);omega;rw[<-g,c]at h;cases h) (by rw[Xd e]) (by rw[Xd e]) q;rw[jh];refine wP q ⟨λl=>?_,λl=>?_⟩;let⟨j,d,r⟩:=y l;refine ndi l<|ag<|nin<|ndi e<|ndi (i j)<|ndi d<|ndi d<|ndi (i j)<|ndi d<|ndi d<|ndi m1<|ndi o ⟨λh=>absurd h<|i j,λ_=>ndi (i j)<|ndi d<|ndi d<|nin<|nrn<|ndt r⟩
  .have f:ln L<ln L+1:=by omega
   have m:=i<|n L;exact nin<|ndi (by simp only[ln];omega)<|nrn<|ndi e<|ndi m<|ndi f<|ndi f<|ndi m<|ndi f<|ndi f<|ndi m1<|ndi o ⟨λh=>absurd h m,λ_=>ndi m<|ndi f<|ndi f<|nin<|nrn<|ndt<|z l⟩
end
section
variable {l t d:List Att}{e:Ed}{a:Att}{n v:Str}
def OS :∀ {l:List Att},bad1 l e->e.d
 | [],h=>h|b::l,h=>by rw[bad1] at h;split at h;exact OS h;split at h;cases h;exact h
def Ec :∀ {l:List Att},(∀a∈l,a.n≠e.n)->bad1 l e=e.d/\(e.d=false->eM l ⟨e.n,e.v⟩=O9 l e)
 | [],_=>⟨rfl,λh=>by rw[O9,edA,h];rfl⟩
 |b::l,h=>by let⟨i,j⟩:=Ec (l:=l) λa k=>h a<|Yb _ k;have f:=h b List.mem_cons_self;rw[bad1,eM,O9];by_cases c:lt b.n e.n;rw[Xg c,Xg c,Xd<|by rw[yD c];simp];exact⟨i,λg=>by rw[j g]⟩;rw[Xd c,Xd c,Xd f,Xd f,Xg<|DT (by simpa using c) f];exact⟨rfl,λg=>by rw[edA,g];rfl⟩
def Ek :∀ {t:List Att},Asc ((t++a::d).map Att.n)->a.n=e.n->bad1 (t++a::d) e=false/\O9 (t++a::d) e=t++edA e++d/\eM (t++d) ⟨e.n,v⟩=t++⟨e.n,v⟩::d
 | [],h,c=>by
  have f:¬lt a.n e.n:=by rw[c,lt_irrefl];simp
  refine⟨?_,?_,?_⟩;show bad1 (a::d) e=false;rw[bad1,Xd f,Xg c];show O9 (a::d) e=_;rw[O9,Xd f,Xg c];rfl
  .show eM d ⟨e.n,v⟩=_;cases d with
   |nil=>rfl|cons b d=>have:=(List.pairwise_cons.1 h).1 b.n (by simp);rw[eM,Xg<|by rw[<-c];exact this];rfl
 |b::t,h,c=>by
  let⟨g,i⟩:=List.pairwise_cons.1 h;let⟨j,k,l⟩:=Ek (t:=t) i c;have f:lt b.n e.n:=by rw[<-c];exact g a.n (by simp)
  refine⟨?_,?_,?_⟩;show bad1 (b::(t++a::d)) e=false;rw[bad1,Xg f,j];show O9 (b::(t++a::d)) e=_;rw[O9,Xg f,k];rfl;show eM (b::(t++d)) ⟨e.n,v⟩=_;rw[eM,Xd (by show¬lt e.n b.n;rw[yD f];simp),l];rfl
def wW :cS [e.b] 0 0=e.n/\cB [e.b] 0 1=e.d/\cS [e.b] 0 2=e.v:=⟨rfl,rfl,rfl⟩
def wK {P:List Att->Ed->Prop}:(∀(m:List Att) (a:Ed),l.map Att.d=m.map Att.d->[e.b]=[a.b]->P m a)↔P l e:=
 ⟨λh=>h l e rfl rfl,λh m a b c=>by rw[<-P1 b,<-nK c];exact h⟩
def wq :ww:=by
 unfold ww;rintro L E ⟨l,e,rfl,rfl,hv,R⟩;have T:ln (l.map Att.d)=(l.length:Int):=by simp[ln]
 have I:=hv.1;have S:ln ([e.b]:a8)=1:=rfl;refine ag<|nin<|nrn<|ndi ⟨by omega,by omega,wK (P:=λp k=>((0:Int)=0->l.map Att.d=l.map Att.d)/\((0:Int)=1->bad1 p k=false/\l.map Att.d=(O9 p k).map Att.d))|>.2 ⟨λ_=>rfl,λh=>by omega⟩⟩ λi O hI=>?_;let⟨i0,i1,hI⟩:=hI;let⟨J,K⟩:=hI l e rfl rfl;rw[S];refine⟨λQ=>?_,λQ=>?_⟩
 .have N:i=0:=by omega
  subst N;have A:=J rfl;subst A;rw[wW.1,wW.2.1,wW.2.2,T];have g:¬(0:Int)<0:=by omega
  have j:(0:Int)<1:=by omega
  have mu:∀X Y:Ar,jV X (.i (0+1)::Y)<jV X (.i 0::Y)\/True:=λ_ _=>.inr trivial;have q:∀m:List Att,bad1 l e=false->m=O9 l e->Sx.Nd (I64<|(0:Int)+1) (Sx.Nd (oD [.l (l.map Att.d),.l [e.b]] [.i (0+1),.l<|m.map Att.d])<|Sx.Nd (jV [.l (l.map Att.d),.l [e.b]] [.i (0+1),.l<|m.map Att.d]<jV [.l (l.map Att.d),.l [e.b]] [.i 0,.l<|l.map Att.d]) True):=λm s u=>
   ndi (by unfold I64;omega) (ndi ⟨by omega,by omega,wK (P:=λp k=>(((0:Int)+1)=0->m.map Att.d=l.map Att.d)/\(((0:Int)+1)=1->bad1 p k=false/\m.map Att.d=(O9 p k).map Att.d))|>.2 ⟨λh=>by omega,λ_=>⟨s,by rw[u]⟩⟩⟩<|ndt (by show(1-((0:Int)+1)).toNat<(1-(0:Int)).toNat;omega))
  refine ndi g<|ndi j<|ndi ⟨l,rfl,I⟩ λr x=>?_;obtain⟨r0,r1,x⟩:=x;have x:=x l rfl;have split:¬r<0-> ∃t a d,l=t++a::d/\a.n=e.n/\pQ (l.map Att.d) 0 r=t.map Att.d/\pQ (l.map Att.d) (r+1) ((l.length:Int)-(r+1))=d.map Att.d/\(r:Int)+1<=l.length:=λb=>by obtain⟨r0,a,s,u⟩:=x.resolve_left λh=>b h.1;obtain⟨B,s⟩:=WM.1 s;refine⟨l.take r.toNat,a,l.drop<|r.toNat+1,?_,u,?_,?_,by omega⟩;rw[<-s,<-List.drop_eq_getElem_cons B,YH];rw[R8];simp;rw[R8,show(r+1).toNat=r.toNat+1 by omega,XP<|by simp;omega]
  refine ndi g<|ndi j ⟨λo=>⟨λb=>ndt ?_,λb=>?_⟩,λo=>⟨λb=>?_,λb=>?_⟩⟩
  .obtain⟨s,u⟩:=x.resolve_right λh=>by omega
   refine wK (P:=λl e=>([]:a8)=(apF l e).1.map Att.d/\(11:Int)=(apF l e).2)|>.2 ?_;unfold apF;rw[Xg<|by rw[(Ec u).1];exact o];exact⟨rfl,rfl⟩
  .obtain⟨t,a,d,f,D,F,G,Z⟩:=split b;rw[F,G];have C:ln (t.map Att.d)=(t.length:Int):=by simp[ln]
   have V:ln (d.map Att.d)=(d.length:Int):=by simp[ln]
   have W:l.length=t.length+(d.length+1):=by rw[f];simp
   obtain⟨y,z,_⟩:=Ek (v:=[]) (by rw[<-f];exact hv.2.2) D;refine ndi b<|ndi b<|ag<|ag<|ndi (by unfold I64;omega)<|ag<|ag<|nin<|nin<|ag<|nrn<|ndi g<|ndi j<|ndi o ?_;have:=q (t++d) (by rw[f];exact y) (by rw[f,z];unfold edA;rw[o];simp);rw[XJ]at this;exact ndi this.1<|nin<|nrn<|this.2 this.1
  .obtain⟨s,u⟩:=x.resolve_right λh=>by omega
   obtain⟨y,z⟩:=Ec u;have c:e.d=false:=by simpa using o
   refine ndi g<|ndi j<|ndi o<|ndi g<|ndi j<|ndi g<|ndi j<|ndi ⟨l,rfl,I⟩ λX w=>?_;have w:=w l rfl;rw[w];exact q _ (by rw[y,c])<|z c
  .obtain⟨t,a,d,f,D,F,G,Z⟩:=split b;rw[F,G];have C:ln (t.map Att.d)=(t.length:Int):=by simp[ln]
   have V:ln (d.map Att.d)=(d.length:Int):=by simp[ln]
   have W:l.length=t.length+(d.length+1):=by rw[f];simp
   obtain⟨y,z,M⟩:=Ek (v:=e.v) (by rw[<-f];exact hv.2.2) D;have c:e.d=false:=by simpa using o
   refine ndi b<|ag<|ag<|ndi (by unfold I64;omega)<|ag<|ag<|nin<|nin<|ag<|nrn<|ndi g<|ndi j<|ndi o<|ndi g<|ndi j<|ndi g<|ndi j<|nin<|nrn<|ndi ⟨t++d,by rw[XJ],by rw[Xl];omega⟩ λX w=>?_;have w:=w (t++d) (by rw[XJ]);rw[w];exact q _ (by rw[f];exact y) (by rw[M,f,z];rw[edA,c];simp)
 .obtain⟨H,A⟩:=K (by omega);subst A;have U:ln ((O9 l e).map Att.d)=((O9 l e).length:Int):=by simp[ln]
  rw[U];refine⟨λh=>ndt<|wK (P:=λl e=>([]:a8)=(apF l e).1.map Att.d/\(3:Int)=(apF l e).2)|>.2 ?_,λh=>ndt<|wK (P:=λp k=>(O9 l e).map Att.d=(apF p k).1.map Att.d/\(0:Int)=(apF p k).2)|>.2 ?_⟩;rw[apF,Xd<|by rw[H];simp,Xg<|by omega];exact⟨rfl,rfl⟩;rw[apF,Xd<|by rw[H];simp,af];exact⟨rfl,rfl⟩
end
section
variable {D :DM}{L F:a8}{i g:Int}{K:Nat}{cs:Ak}
def qy :my:=by
 rw[my];intro L F W Y Z c3 c4 c5 c6 c7 i g n z v h;let⟨hi,hg,hz,hp⟩:=h;let⟨D,K,f,w⟩:=hp;refine iY ⟨hi,hg,f.j w⟩ ?_;by_cases hv:z9 L i g
 .rw[Xg hv];let⟨c,s,P,V,Q,h4,h5,h6,H,h8,M,ha,m⟩:=f.b hv;have O:¬i<0:=by omega
  have t:=w.w c s Q h4;have A:∀ {D K},Rf D L F [W,Y,Z,c3,c4,c5,c6,c7]->WF D K-> ∃(c:Nat) (B:Sl),i=c/\D.L[c]? =B/\B.d/\D.e c=B.n/\B.n.d=s.n.d/\(cI L i 2≠1-> ∀r,V7 D i g ⟨n,z,v⟩ r=(D,1))/\(cI L i 2=1-> ∀r,(cM ⟨n,z,v⟩=false->V7 D i g ⟨n,z,v⟩ r=(D,r))/\(cM ⟨n,z,v⟩->V7 D i g ⟨n,z,v⟩ r=if(apF s.n.d ⟨n,z,v⟩).2=0 then((D.j c λS=> {S with d:=(apF S.d ⟨n,z,v⟩).1}).o 6,0)else(D,if(apF s.n.d ⟨n,z,v⟩).2=11 then 17 else(apF s.n.d ⟨n,z,v⟩).2))):=λ{D K} f w=>by
   let⟨c,B,P,V,Q,h4,h5,h6,H,h8,ab,ha,m⟩:=f.b hv;have ea:B.n.d=s.n.d:=P1<|ab.symm.trans M;refine⟨c,B,V,Q,h4,h5,ea,λe r=>?_,λe r=>⟨λe1=>?_,λe1=>?_⟩⟩;all_goals
    rw[V7,P];simp only;rw[h5,<-h8]
   rw[Xg e];rw[Xd<|by simp[e],Xg e1];rw[Xd<|by simp[e],Xd<|by simp[e1],ea]
  have j:(cI L i 2≠1\/(cI L i 2=1/\z=false/\cM ⟨n,z,v⟩=false))->dq L F W Y Z c3 c4 c5 c6 c7 i g n z v:=λm=>by rw[dq];refine ndt<|E3 λD K f w=>?_;let⟨_,_,_,_,_,_,_,m1,G⟩:=A f w;obtain h| ⟨h,hz,y⟩:=m;rw[m1 h];exact⟨rfl,rfl⟩;rw[(G h _).1 y,hz];exact⟨rfl,rfl⟩
  have E:cI L i 2=1->cM ⟨n,z,v⟩->bad1 s.n.d ⟨n,z,v⟩=false->gf L i n z v F W Y Z c3 c4 c5 c6 c7 i g:=λu y m=>by
   rw[gf];intro X r hX;let⟨ac,I⟩:=hX s.n.d ⟨n,z,v⟩ M rfl;refine⟨λe=>wP hp<|ndi O<|ndi H<|ndi H<|ndi (w.I (k:=6)<|by rw[<-f.2.2];rfl)<|nin<|nrn<|ndt λD K f w=>?_,λe=>ndt<|E3 λD K f w=>?_⟩;let⟨c,B,J,U,q3,q4,q5,m1,G⟩:=A f w;show Rf (V7 D i g ⟨n,z,v⟩ _).1 _ _ _/\(0:Int)=(V7 D i g ⟨n,z,v⟩ _).2;rw[(G u _).2 y,Xg<|by rw[<-I];exact e];obtain⟨rfl,rfl,hc⟩:=f;subst J;exact⟨⟨Z9 (q:=λS=> {S with d:=(apF S.d ⟨n,z,v⟩).1}) U q3<|by rw[ac,<-q5];rfl,rfl,by show _=D.C.modify 6 _;rw[<-hc];rfl⟩,rfl⟩
   .obtain⟨c,B,J,U,q3,q4,q5,m1,G⟩:=A f w;have aa:¬(apF s.n.d ⟨n,z,v⟩).2=11:=by rw[apF,Xd<|by rw[m];simp];split<;>simp
    show(V7 D i g ⟨n,z,v⟩ _).1=D/\r=(V7 D i g ⟨n,z,v⟩ _).2;rw[(G u _).2 y,Xd<|by rw[<-I];exact e,Xd aa];exact⟨rfl,I⟩
  have l:v5 n->D7 v->(z->v=[])->cM ⟨n,z,v⟩:=λP V Q=>by
   rw[cM];cases z with
   |false=>simp[P,V]|true=>have:=Q rfl;subst this;simp[P];rfl
  have T:(v5 n=false\/D7 v=false)->cM ⟨n,z,v⟩=false:=λh=>by rw[cM];rcases h with h|h<;>simp[h]
  refine⟨λh=>absurd h O,λ_=>ndi O<|ndi H ⟨λu=>⟨λx=>?_,λx=>?_⟩,λu=>j<|.inl u⟩⟩
  .have ev:=hz x;subst ev;refine ndi O<|ndi H<|ndi ⟨s.n.d,M,t.1⟩ λr N=>?_;let⟨r0,r1,N⟩:=N;have N:=N s.n.d M;refine⟨λhn=>ndt<|E3 λD K f w=>?_,λhn=>?_⟩
   .obtain⟨_,_,_,_,_,_,_,m1,G⟩:=A f w;let⟨_,ae⟩:=N.resolve_right λh=>by omega
    have m:bad1 s.n.d ⟨n,z,[]⟩:=by rw[(Ec (e:=⟨n,z,[]⟩) ae).1];exact x
    rw[x,Xg rfl,<-x];cases ho:cM ⟨n,z,[]⟩with
    |false=>rw[(G u _).1 ho];exact⟨rfl,rfl⟩|true=>
     have:(apF s.n.d ⟨n,z,[]⟩).2=11:=by rw[apF,Xg m]
     rw[(G u _).2 ho,this];exact⟨rfl,rfl⟩
   .obtain⟨_,a,J,U⟩:=N.resolve_left λh=>hn h.1;have vn:v5 n:=by rw[<-U];exact(t.2.1 a (WT J)).1
    have vs:D7 ([]:Str):=rfl;refine ndi trivial λb m=>⟨λo=>ndi trivial λb2 p=>⟨λd=>ndi x ⟨λ_=>ndi O<|ndi H<|ndi ⟨s.n.d,⟨n,z,[]⟩,M,rfl,t,l vn vs λ_=>rfl⟩ ?_,λh=>absurd rfl h⟩,λd=>absurd (p.trans vs) d⟩,λo=>absurd (m.trans vn) o⟩
    refine E u (l vn vs λ_=>rfl) ?_;let⟨ad,J⟩:=WM.1 J;have el:s.n.d=s.n.d.take r.toNat++a::s.n.d.drop (r.toNat+1):=by rw[<-J,<-List.drop_eq_getElem_cons ad,YH]
    rw[el];exact(Ek (v:=[]) (by rw[<-el];exact t.2.2) U).1
  .have R:z=false:=by simpa using x
   refine ndi trivial λb m=>⟨λo=>ndi trivial λb2 p=>⟨λd=>?_,λd=>j<|.inr ⟨u,R,T<|.inr ?_⟩⟩,λo=>j<|.inr ⟨u,R,T<|.inl ?_⟩⟩
   .have ok:=l (m.symm.trans o) (p.symm.trans d) λh=>absurd h x;refine ndi x<|ndi O<|ndi H<|ndi ⟨s.n.d,⟨n,z,v⟩,M,rfl,t,ok⟩<|E u ok ?_;cases e:bad1 s.n.d ⟨n,z,v⟩with
    |false=>rfl|true=>exact absurd (OS e) x
   rw[<-p];simpa using d;rw[<-m];simpa using o
 rw[Xd hv];refine⟨λ_=>ndt<|E3 λD K f w=>?_,λh=>absurd (by decide) h⟩;rw[V7,f.h hv];exact⟨rfl,rfl⟩
end
open Go Go.Xe Go.Sx
def vcEqu n:=
 ∀h j k d m b o p q f r c,(DF [.i h,.s j,.s k,.l d,.s m,.l b,.i o,.s p,.s q,.l f,.s r,.l c]/\Gn [.i h,.s j,.s k,.l d,.s m,.l b,.i o,.s p,.s q,.l f,.s r,.l c]<n+1)->((h=o->((j=p->((k=q->((m=r->((ln d=ln f->((ln b=ln c->Nd (Gl [.l d,.l f] [.i 0]) (∀g,Gl [.l d,.l f] [.i g]->((g<ln d->Nd (¬g<0) (Nd (g<ln d)<|Nd (¬g<0)<|Nd (g<ln f)<|(cS d g 0=cS f g 0->((cS d g 1=cS f g 1->Nd (I64<|g+1) (Nd (Gl [.l d,.l f] [.i (g+1)])<|Nd (eaMu [.l d,.l f] [.i (g+1)]<eaMu [.l d,.l f] [.i g]) True))/\(¬cS d g 1=cS f g 1->Nd (V8 [.i h,.s j,.s k,.l d,.s m,.l b,.i o,.s p,.s q,.l f,.s r,.l c] [.i 0]) True)))/\(¬cS d g 0=cS f g 0->Nd (V8 [.i h,.s j,.s k,.l d,.s m,.l b,.i o,.s p,.s q,.l f,.s r,.l c] [.i 0]) True)))/\(¬g<ln d->Nd (Lh [.l b,.l c] [.i 0]) (∀a,Lh [.l b,.l c] [.i a]->((a<ln b->Nd (¬a<0) (Nd (a<ln b)<|Nd (¬a<0)<|Nd (a<ln c)<|Nd (DF [.i (cI b a 0),.s<|cS b a 1,.s<|cS b a 2,.l<|cL b a 3,.s<|cS b a 4,.l<|cL b a 5,.i<|cI c a 0,.s<|cS c a 1,.s<|cS c a 2,.l<|cL c a 3,.s<|cS c a 4,.l<|cL c a 5]/\Gn [.i (cI b a 0),.s<|cS b a 1,.s<|cS b a 2,.l<|cL b a 3,.s<|cS b a 4,.l<|cL b a 5,.i<|cI c a 0,.s<|cS c a 1,.s<|cS c a 2,.l<|cL c a 3,.s<|cS c a 4,.l<|cL c a 5]<n)<|
 ∀t,V8 [.i (cI b a 0),.s<|cS b a 1,.s<|cS b a 2,.l<|cL b a 3,.s<|cS b a 4,.l<|cL b a 5,.i<|cI c a 0,.s<|cS c a 1,.s<|cS c a 2,.l<|cL c a 3,.s<|cS c a 4,.l<|cL c a 5] [.i t]->((t=0->Nd (V8 [.i h,.s j,.s k,.l d,.s m,.l b,.i o,.s p,.s q,.l f,.s r,.l c] [.i 0]) True)/\(¬t=0->Nd (I64<|a+1) (Nd (Lh [.l b,.l c] [.i (a+1)])<|Nd (ecMu [.l b,.l c] [.i (a+1)]<ecMu [.l b,.l c] [.i a]) True)))))/\(¬a<ln b->Nd (V8 [.i h,.s j,.s k,.l d,.s m,.l b,.i o,.s p,.s q,.l f,.s r,.l c] [.i 1]) True)))))))/\(¬ln b=ln c->Nd (V8 [.i h,.s j,.s k,.l d,.s m,.l b,.i o,.s p,.s q,.l f,.s r,.l c] [.i 0]) True)))/\(¬ln d=ln f->Nd (V8 [.i h,.s j,.s k,.l d,.s m,.l b,.i o,.s p,.s q,.l f,.s r,.l c] [.i 0]) True)))/\(¬m=r->Nd (V8 [.i h,.s j,.s k,.l d,.s m,.l b,.i o,.s p,.s q,.l f,.s r,.l c] [.i 0]) True)))/\(¬k=q->Nd (V8 [.i h,.s j,.s k,.l d,.s m,.l b,.i o,.s p,.s q,.l f,.s r,.l c] [.i 0]) True)))/\(¬j=p->Nd (V8 [.i h,.s j,.s k,.l d,.s m,.l b,.i o,.s p,.s q,.l f,.s r,.l c] [.i 0]) True)))/\(¬h=o->Nd (V8 [.i h,.s j,.s k,.l d,.s m,.l b,.i o,.s p,.s q,.l f,.s r,.l c] [.i 0]) True))
def Eq (n:Nat):kq (cEqu.g Gn<|n+1) KU ((55,cEqu.g Gn n)::Ko 0) (QE 0) 55=vcEqu n:=by kernel_rfl
def vcSam :Prop:=
 ∀a b c d f g h j k m o p,sQ [.i a,.s b,.s c,.l d,.s f,.l g,.i h,.s j,.s k,.l m,.s o,.l p]->Nd (dC [.i a,.s b,.s c,.l d,.s f,.l g]) (∀q,W3 [.i a,.s b,.s c,.l d,.s f,.l g] [.i q]->((q=0->Nd (dC [.i h,.s j,.s k,.l m,.s o,.l p]) (∀r,W3 [.i h,.s j,.s k,.l m,.s o,.l p] [.i r]->((r=0->Nd (DF [.i a,.s b,.s c,.l d,.s f,.l g,.i h,.s j,.s k,.l m,.s o,.l p]) (∀t,V8 [.i a,.s b,.s c,.l d,.s f,.l g,.i h,.s j,.s k,.l m,.s o,.l p] [.i t]->Nd (gJ [.i a,.s b,.s c,.l d,.s f,.l g,.i h,.s j,.s k,.l m,.s o,.l p] [.i t]) True))/\(¬r=0->Nd (gJ [.i a,.s b,.s c,.l d,.s f,.l g,.i h,.s j,.s k,.l m,.s o,.l p] [.i 0]) True))))/\(¬q=0->Nd (gJ [.i a,.s b,.s c,.l d,.s f,.l g,.i h,.s j,.s k,.l m,.s o,.l p] [.i 0]) True)))
def uk :kq cSam KU (Ko 1) (QE 1) 15=vcSam:=by kernel_rfl
open Go Go.Xe Go.Sx
def KX {a b:Att}(c:a.n=b.n)(d:a.v=b.v):a=b:=by cases a;cases b;simp_all
def uK {c:Type}{f:c->Ar}(d:∀a b,f a=f b->a=b){l m:List c}{k:Nat}(h:(l.map f).take k=(m.map f).take k):l.take k=m.take k:=by rw[<-List.map_take,<-List.map_take]at h;exact yE d h
def zy (N:Nat):vcEqu N:=by
 rintro _ _ _ _ _ _ _ _ _ _ _ _ ⟨⟨⟨s,⟨rfl,rfl,rfl,rfl,rfl,rfl⟩,R⟩,d,⟨rfl,rfl,rfl,rfl,rfl,rfl⟩,S⟩,r⟩;have r:szRs (rows s.c)<N+1:=r;have B:=(B4 d).1 S;let⟨O,b8⟩:=Z1 B.1;have no:s≠d->V8 [.i s.k,.s s.t,.s s.y,.l<|s.a.map Att.d,.s s.x,.l<|rows s.c,.i d.k,.s d.t,.s d.y,.l<|d.a.map Att.d,.s d.x,.l<|rows d.c] [.i 0]:=λh a b o q=>by rw[y4]at o q;subst o;subst q;exact(by grind)
 have L:ln (s.a.map Att.d)=(s.a.length:Int):=by simp[ln]
 have M:ln (d.a.map Att.d)=(d.a.length:Int):=by simp[ln]
 have F:ln (rows s.c)=(s.c.length:Int):=by simp[ln]
 have G:ln (rows d.c)=(d.c.length:Int):=by simp[ln]
 have p:∀a b:Att,a.d=b.d->a=b:=λa b h=>by have:=P1 (a:=[a]) (b:=[b]) (by grind);simpa using this
 simp only[Nd,I64,L,M,F,G,Yo,Yf];refine⟨λT=>⟨λW=>⟨λY=>⟨λX=>⟨λo=>⟨λI=>⟨⟨by omega,by simp[ln],by omega,by simp⟩,λ_ i ⟨u,i1,i2,J⟩=>⟨λD=>?_,λD=>?_⟩⟩,λh=>no λe=>h<|by grind⟩,λh=>no λe=>h<|by grind⟩,λh=>no λe=>h<|by grind⟩,λh=>no λe=>h<|by grind⟩,λh=>no λe=>h<|by grind⟩,λh=>no λe=>h<|by grind⟩;let⟨a,g⟩:=Sx.get_at u D;let⟨b,n⟩:=Sx.get_at u (show i<(d.a.length:Int) by omega);have w:a≠b->s≠d:=λh e=>h (by have f:=g;rw[e]at f;rw[n]at f;exact(Xk f).symm);simp only[cS,d9 g,d9 n,at0,at1,B1];refine⟨by omega,λ_=>⟨D,λ_=>⟨by omega,λ_=>⟨by omega,λ_=>⟨λz=>⟨λC=>⟨⟨by omega,by omega⟩,λ_=>⟨⟨by omega,by omega,by rw[L,M];exact o,?_⟩,λ_=>?_⟩⟩,λC=>no<|w λe=>C<|by grind⟩,λz=>no<|w λe=>z<|by grind⟩⟩⟩⟩⟩;rw[m8 u<|I7 g,m8 u<|I7 n,J,KX z C];show(((s.a.map Att.d).length:Int)-(i+1)).toNat<(((s.a.map Att.d).length:Int)-i).toNat;rw[Xc];omega
 .have P:s.a=d.a:=by have:=uK p J;rwa[v7<|by omega,v7<|by omega]at this
  refine⟨⟨by omega,by simp[ln],by rw[F,G];exact I,by simp⟩,λ_ j ⟨v,j1,j2,K⟩=>⟨λE=>?_,λE=>?_⟩⟩;let⟨a,g⟩:=Sx.get_at v E;let⟨b,n⟩:=Sx.get_at v (show j<(d.c.length:Int) by omega);have w:a≠b->s≠d:=λh e=>h (by have f:=g;rw[e]at f;rw[n]at f;exact(Xk f).symm);have V:=aA g;simp only[cI,cS,cL,H7 g,H7 n,t0,t1,t2,t3,t4,t5,U8,B1,S0];refine⟨by omega,λ_=>⟨E,λ_=>⟨by omega,λ_=>⟨by omega,λ_=>⟨⟨⟨⟨a,⟨rfl,rfl,rfl,rfl,rfl,rfl⟩,O3 ((B4 s).1 R).2 g⟩,b,⟨rfl,rfl,rfl,rfl,rfl,rfl⟩,O3 B.2 n⟩,by show szRs (rows a.c)<N;omega⟩,λ_ m U=>?_⟩⟩⟩⟩⟩;let⟨m1,Z⟩:=U a b ⟨rfl,rfl,rfl,rfl,rfl,rfl⟩ ⟨rfl,rfl,rfl,rfl,rfl,rfl⟩;refine⟨λH=>no (w λe=>by have:=m1 e;omega),λH=>⟨⟨by omega,by omega⟩,λ_=>⟨⟨by omega,by omega,by rw[F,G];exact I,?_⟩,λ_=>?_⟩⟩⟩;have e:a=b:=Classical.byContradiction λc=>H<|Z c;rw[m8 v<|I7 g,m8 v<|I7 n,e];exact congrArg (· ++_) K;show(((rows s.c).length:Int)-(j+1)).toNat<(((rows s.c).length:Int)-j).toNat;rw[Xc];omega
  .have Q:s.c=d.c:=by have:=uK (λa b=>vQ) K;rwa[v7<|by omega,v7<|by omega]at this
   intro a b o q;rw[y4]at o q;subst o;subst q;exact⟨λ_=>rfl,λc=>absurd (qR T W Y P X Q) c⟩
def uh :vcSam:=by
 rintro _ _ _ _ _ _ _ _ _ _ _ _ ⟨⟨s,rfl,rfl,rfl,rfl,rfl,rfl⟩,d,rfl,rfl,rfl,rfl,rfl,rfl⟩;have R:∀n:Int,((A9 s/\s=d->n=1)/\(¬(A9 s/\s=d)->n=0))->gJ [.i s.k,.s s.t,.s s.y,.l<|s.a.map Att.d,.s s.x,.l<|rows s.c,.i d.k,.s d.t,.s d.y,.l<|d.a.map Att.d,.s d.x,.l<|rows d.c] [.i n]:=λn h a b o p=>by rw[y4]at o p;grind
 refine⟨⟨s,rfl,rfl,rfl,rfl,rfl,rfl⟩,λ_ e m=>⟨λg=>⟨⟨d,rfl,rfl,rfl,rfl,rfl,rfl⟩,λ_ u f=>⟨λj=>?_,λj=>⟨R _ ⟨?_,λ_=>rfl⟩,λ_=>trivial⟩⟩⟩,λg=>⟨R _ ⟨?_,λ_=>rfl⟩,λ_=>trivial⟩⟩⟩;have r:=(f d ⟨rfl,rfl,rfl,rfl,rfl,rfl⟩).1.1 j;refine⟨⟨⟨s,⟨rfl,rfl,rfl,rfl,rfl,rfl⟩,((m s ⟨rfl,rfl,rfl,rfl,rfl,rfl⟩).1.1 g).1⟩,d,⟨rfl,rfl,rfl,rfl,rfl,rfl⟩,r.1⟩,λ_ n q=>⟨R n ?_,λ_=>trivial⟩⟩;let⟨w,z⟩:=q s d ⟨rfl,rfl,rfl,rfl,rfl,rfl⟩ ⟨rfl,rfl,rfl,rfl,rfl,rfl⟩;grind;exactλh=>absurd ((f d ⟨rfl,rfl,rfl,rfl,rfl,rfl⟩).1.2<|h.2▸h.1) j;exactλh=>absurd ((m s ⟨rfl,rfl,rfl,rfl,rfl,rfl⟩).1.2 h.1) g
def Fj {n m:Int}(a:0<=n)(h:0<m):¬n.tmod m<0/\n.tmod m<m:=by have:=Int.tmod_nonneg m a;have:=Int.tmod_lt_of_pos n h;omega
def te :th:=by rw[th];rintro n ⟨c,d⟩;let⟨a,b⟩:=Fj c (show(0:Int)<5 by omega);exact ndi a<|ndi b<|ndi b<|ndt trivial
def xt :xw:=by rw[xw];rintro n ⟨c,d⟩;let⟨a,b⟩:=Fj c (show(0:Int)<5 by omega);exact ndi a<|ndi b<|ndi b<|ndt rfl
def rx :sa:=by rw[sa];rintro n ⟨c,d⟩;let⟨a,b⟩:=Fj c (show(0:Int)<4 by omega);exact ndi a<|ndi b<|ndi b<|ndt rfl
def HO (x:Int):U32 (IntKind.wrap .u32 x):=by rw[U32,IntKind.wrap];simp[IntKind.signed,IntKind.bits];omega
def xf :xj:=by
 rw[xj];intro n L F s t u v w x y A H S fr O B C D E G I J K P N h;let⟨l,M,m⟩:=h;have z:U32 0:=by rw[U32];omega
 have zero:∀d,dR d [.i 0,.i 0]:=λ_=>⟨z,z⟩
 refine⟨λe=>ndt<|zero _,λe=>⟨λc=>ndt<|zero _,λc=>?_⟩⟩;have o:0<ln H:=by simp only[ln]at c⊢;omega
 let⟨a,b⟩:=Fj l o;have cell:U32 (cI H (n.tmod<|ln H) 0)/\U32 (cI H (n.tmod<|ln H) 1):=by
  let⟨r,k⟩:=Sx.get_at (T:=H) (i:=n.tmod<|ln H) (by omega) b;obtain⟨i,g,rfl,p,q⟩:=m r<|WT k;have:∀j,A7 H (n.tmod<|ln H) j=([Dat.i i,.i g]:Ar).getD j (.i 0):=λj=>by have:=d9 (f:=id) k j;rwa[List.map_id]at this
  simp only[cI,this];exact⟨p,q⟩
 refine ndi (by rw[I64];omega)<|ndi c<|ndi a<|ndi b<|ndi b ⟨λ_=>ndt ⟨cell.1,HO _⟩,λ_=>⟨λ_=>ndt ⟨HO _,cell.2⟩,λ_=>⟨λ_=>ndt ⟨by rw[U32];omega,by rw[U32];omega⟩,λ_=>ndt cell⟩⟩⟩
def yx :yz:=by
 rw[yz];intro P X L F s t u v w x y z H S fr U A B C D E G I J V N h;obtain⟨l,rfl,rfl,n,K,M⟩:=h;have p:ln (l.map λj:Nat=>[Dat.i j,.i<|cI L j 0])=(l.length:Int):=by simp[ln]
 have q:ln (l.map B9)=(l.length:Int):=by simp[ln]
 rw[p,q];refine⟨λ_=>⟨λ_=>ndi ⟨by omega,by simp⟩ λk hI=>?_,λh=>absurd rfl h⟩,λh=>absurd rfl h⟩;let⟨o,Q⟩:=hI;refine⟨λe=>?_,λ_=>ndt rfl⟩;let⟨b,a⟩:=Sx.get_at (T:=l) o e;have O:=n b<|WT a;have g:cI (l.map λj:Nat=>[Dat.i j,.i<|cI L j 0]) k 0=b:=by simp only[cI,d9 a];rfl
 have m:cI (l.map λj:Nat=>[Dat.i j,.i<|cI L j 0]) k 1=cI L b 0:=by simp only[cI,d9 a];rfl
 have f:¬k<0:=by omega
 have R:ln L=(L.length:Int):=rfl;rw[g,m,fg a,T7 (by simp[IntKind.min,IntKind.signed]) (by simp[IntKind.max,IntKind.signed,IntKind.bits];omega)];have c:∀d:Ar,Sx.Nd (I64<|k+1) (Sx.Nd (rP [.l (l.map λj:Nat=>[Dat.i j,.i<|cI L j 0]),.l<|l.map B9,.l L] [.i (k+1)])<|Sx.Nd (xL [.l (l.map λj:Nat=>[Dat.i j,.i<|cI L j 0]),.l<|l.map B9,.l L] [.i (k+1)]<xL [.l (l.map λj:Nat=>[Dat.i j,.i<|cI L j 0]),.l<|l.map B9,.l L] [.i k]) True):=λ_=>
  ndi (by rw[I64];omega) (ndi ⟨by omega,by rw[Xc];omega⟩<|ndt<|by simp only[xL,B2];rw[Xc];omega)
 exact ndi f<|ndi e<|ndi f<|ndi e ⟨λh=>absurd h<|by omega,λ_=>ag<|ag ⟨λ_=>⟨λ_=>c [],λh=>absurd rfl h⟩,λh=>absurd rfl h⟩⟩
def vcAsm_ok :vcAsm:=by
 rw[vcAsm];rintro A B ⟨l,m,rfl,rfl,w⟩;have u:ln (l.map Att.d)=(l.length:Int):=by simp[ln]
 have v:ln (m.map Att.d)=(m.length:Int):=by simp[ln]
 rw[u,v];refine⟨λs=>ndi ⟨by omega,by omega,by simp;omega,by simp⟩ λk hI=>?_,λp=>ndt ⟨λe=>absurd (by rw[P1 e]) p,λ_=>rfl⟩⟩;let⟨f,x,t,n⟩:=hI;refine⟨λo=>?_,λo=>ndt ⟨λ_=>rfl,λp=>absurd ?_ p⟩⟩
 .obtain⟨a,d⟩:=Sx.get_at (T:=l) f o;let⟨b,c⟩:=Sx.get_at (T:=m) f (by omega);rw[(ef d).1,(ef d).2,(ef c).1,(ef c).2];have r:¬k<0:=by omega
  have no:a≠b->dM [.l (l.map Att.d),.l<|m.map Att.d] [.i 0]:=λq=>⟨λe=>absurd (by have:=P1 e;subst this;rw[d]at c;exact Xk c) q,λ_=>rfl⟩
  refine ndi r<|ndi o<|ndi r<|ag ⟨λg=>⟨λh=>?_,λh=>ndt<|no λe=>h<|by rw[e]⟩,λg=>ndt<|no λe=>g<|by rw[e]⟩;have j:a=b:=KX g h;subst j;refine ndi (by rw[I64];omega) (ndi ⟨by omega,by rw[Xc];omega,t,?_⟩<|ndt<|by simp only[OO,B2];rw[Xc];omega);rw[m8 f<|I7 d,m8 f<|I7 c,n]
 rw[XP<|by rw[Xc];omega,XP<|by rw[Xc];omega]at n;exact n
open Go Go.Xe Go.Sx
def mw n:=
 ∀a f g h j k m o p q b,(pY (.l a::.l f::J8 g h j k m o p q [.i b])/\sG (.l a::.l f::J8 g h j k m o p q [.i b])<n+1)->Ca (cL a b 10) λX=>Ca [.l a,.i b] λW=>Nd (Ey W [.i 0,.l<|b9 1 1 [.i b]]) (∀c d,Ey W [.i c,.l d]->Ca (.l a::.l f::J8 g h j k m o p q [.i (cI X c 0)]) λV=>Nb b (ln a)<|(c<ln X->Nb b (ln a) (Nb c (ln X)<|Nd (pY V/\sG V<n)<|∀r,pZ V [.l r]->Ni (ln d) (Nd (ln d+ln r<67108865)<|Nr (ln d)<|Nd (I64<|c+1)<|Nq (ln d+ln r)<|Nd (Ey W [.i (c+1),.l<|d++r])<|Nd (QN W [.i (c+1),.l<|d++r]<QN W [.i c,.l d]) True)))/\(¬c<ln X->Nq (ln d) (Nd (pZ (.l a::.l f::J8 g h j k m o p q [.i b]) [.l d]) True)))
def qx (n:Nat):kq (lr.g sG<|n+1) BQ ((76,lr.g sG n)::Fe 0) (JF 0) 76=mw n:=by kernel_rfl
def fw (n:Nat)(a b:a8)(c d f g h j k m o p:Int):Prop:=
 Nd (gF (.l a::.l b::J10 c d f g h j k m o p []) [.i 0,.s [],.s [],.l [],.s [],.l []]) True
def me n:=
 ∀a g h j k m o p q r b c,(dD (.l a::.l g::J10 h j k m o p q r b c [])/\zU (.l a::.l g::J10 h j k m o p q r b c [])<n+1)->Ca (cL a b 10) λY=>Ca [.l a,.i b,.i c,.l Y] λW=>Nb b (ln a)<|(c=0->fw n a g h j k m o p q r b c)/\(¬c=0->((16<ln Y->fw n a g h j k m o p q r b c)/\(¬16<ln Y->Nd (EL W [.i 0,.i<|cI a b 2,.s<|cS a b 3,.s [],.l<|cL a b 4,.s<|cS a b 5,.l []]) (∀d t u v w x f,EL W [.i d,.i t,.s u,.s v,.l w,.s x,.l f]->Ca (.l a::.l g::J10 h j k m o p q r (cI Y d 0) (c+(-1)) []) λV=>((d<ln Y->Nb d (ln Y) (Nd (I64<|c+(-1))<|Nd (dD V/\zU V<n)<|∀y z A B C D,gF V [.i y,.s z,.s A,.l B,.s C,.l D]->Ca [.i (d+1),.i t,.s u,.s v,.l w,.s x,.l<|f++b9 6 1 [.i y,.s z,.s A,.l B,.s C,.l D]] λX=>Ni (ln f)<|Nd (ln f+1<67108865)<|Nr (ln f)<|Nd (I64<|d+1)<|Nq (ln f+1)<|Nd (EL W X)<|Nd (QX W X<QX W [.i d,.i t,.s u,.s v,.l w,.s x,.l f]) True))/\(¬d<ln Y->Nq (ln f) (Nd (gF (.l a::.l g::J10 h j k m o p q r b c []) [.i t,.s u,.s v,.l w,.s x,.l f]) True)))))))
def pw (n:Nat):kq (oi.g zU<|n+1) BQ ((82,oi.g zU n)::Fe 0) (JF 0) 82=me n:=by kernel_rfl
def mq :Prop:=
 ∀d f g h j k m o p q D F,EB (.l d::.l f::J10 g h j k m o p q D F [])->Cg U2 R4 (.l d::.l f::J10 g h j k m o p q D F []) (λR=>∀C,R [.i C]->((C<0->Nd (qA (.l d::.l f::J10 g h j k m o p q D F [])<|.l d::.l f::J8 g h j k m o p q [.i 11]) True)/\(¬C<0->Nb C (ln d) ((cI d C 9<0->Cg R5 aJ (.l d::.l f::J8 g h j k m o p q []) (λR=>∀G H I J K L M N O P,R (.l G::.l H::J8 I J K L M N O P [])->Cg pY pZ (.l d::.l f::J8 g h j k m o p q [.i C]) (λR=>∀a,R [.l a]->Nq (ln G) (Nd (sI (.l a::.l d::.l f::J8 g h j k m o p q [])<|.i 0::.l G::.l H::J8 I J K L M N O P [])<|∀c t r u w v x y z A B,sI (.l a::.l d::.l f::J8 g h j k m o p q []) (.i c::.l t::.l r::J8 u w v x y z A B [])->((c<ln a->Nb c (ln a) (Nb c (ln a)<|Nb (cI a c 0) (ln d)<|Nb (cI a c 0) (ln t)<|Nd (cI a c 0<ln t)<|Nb c (ln a)<|Nd (ln r+1<67108865)<|(1<ln r+1->Nd (I64<|u+(-1)) (Nd (I64<|v+1)<|Nd (I64<|c+1)<|Nq (ln r+1)<|Nq (ln t)<|Nd (sI (.l a::.l d::.l f::J8 g h j k m o p q [])<|.i (c+1)::.l (a9 (a9 (a9 (a9 (a9 (a9 (a9 (a9 (a9 (a9 (a9 t (cI a c 0) 0<|.i<|IntKind.wrap .u32<|cI d (cI a c 0) 0+1) (cI a c 0) 1<|.b false) (cI a c 0) 2<|.i 0) (cI a c 0) 3<|.s []) (cI a c 0) 4<|.l []) (cI a c 0) 5<|.s []) (cI a c 0) 6<|.i 0) (cI a c 0) 7<|.i 0) (cI a c 0) 8<|.b false) (cI a c 0) 9<|.i 0) (cI a c 0) 10<|.l [])::.l (b9 1 1 [.i (cI a c 0)]++r)::J8 (u+(-1)) w (v+1) x y z A B [])<|
 Nd (Hj (.l a::.l d::.l f::J8 g h j k m o p q []) (.i (c+1)::.l (a9 (a9 (a9 (a9 (a9 (a9 (a9 (a9 (a9 (a9 (a9 t (cI a c 0) 0<|.i<|IntKind.wrap .u32<|cI d (cI a c 0) 0+1) (cI a c 0) 1<|.b false) (cI a c 0) 2<|.i 0) (cI a c 0) 3<|.s []) (cI a c 0) 4<|.l []) (cI a c 0) 5<|.s []) (cI a c 0) 6<|.i 0) (cI a c 0) 7<|.i 0) (cI a c 0) 8<|.b false) (cI a c 0) 9<|.i 0) (cI a c 0) 10<|.l [])::.l (b9 1 1 [.i (cI a c 0)]++r)::J8 (u+(-1)) w (v+1) x y z A B [])<Hj (.l a::.l d::.l f::J8 g h j k m o p q []) (.i c::.l t::.l r::J8 u w v x y z A B [])) True))/\(¬1<ln r+1->Nd (I64<|u+(-1)) (Nd (I64<|v+1)<|Nd (I64<|c+1)<|Nd (¬ln (Sx.over (b9 1 1 [.i (cI a c 0)]) 1 r)<ln r+1)<|Nq (ln t)<|Nd (sI (.l a::.l d::.l f::J8 g h j k m o p q [])<|.i (c+1)::.l (a9 (a9 (a9 (a9 (a9 (a9 (a9 (a9 (a9 (a9 (a9 t (cI a c 0) 0<|.i<|IntKind.wrap .u32<|cI d (cI a c 0) 0+1) (cI a c 0) 1<|.b false) (cI a c 0) 2<|.i 0) (cI a c 0) 3<|.s []) (cI a c 0) 4<|.l []) (cI a c 0) 5<|.s []) (cI a c 0) 6<|.i 0) (cI a c 0) 7<|.i 0) (cI a c 0) 8<|.b false) (cI a c 0) 9<|.i 0) (cI a c 0) 10<|.l [])::.l (pQ (Sx.over (b9 1 1 [.i (cI a c 0)]) 1 r) 0<|ln r+1)::J8 (u+(-1)) w (v+1) x y z A B [])<|
 Nd (Hj (.l a::.l d::.l f::J8 g h j k m o p q []) (.i (c+1)::.l (a9 (a9 (a9 (a9 (a9 (a9 (a9 (a9 (a9 (a9 (a9 t (cI a c 0) 0<|.i<|IntKind.wrap .u32<|cI d (cI a c 0) 0+1) (cI a c 0) 1<|.b false) (cI a c 0) 2<|.i 0) (cI a c 0) 3<|.s []) (cI a c 0) 4<|.l []) (cI a c 0) 5<|.s []) (cI a c 0) 6<|.i 0) (cI a c 0) 7<|.i 0) (cI a c 0) 8<|.b false) (cI a c 0) 9<|.i 0) (cI a c 0) 10<|.l [])::.l (pQ (Sx.over (b9 1 1 [.i (cI a c 0)]) 1 r) 0<|ln r+1)::J8 (u+(-1)) w (v+1) x y z A B [])<Hj (.l a::.l d::.l f::J8 g h j k m o p q []) (.i c::.l t::.l r::J8 u w v x y z A B [])) True))))/\(¬c<ln a->Nq (ln t) (Nd (qA (.l d::.l f::J10 g h j k m o p q D F [])<|.l t::.l r::J8 u w v x y z A B [.i 0]) True)))))))/\(¬cI d C 9<0->Nd (qA (.l d::.l f::J10 g h j k m o p q D F [])<|.l d::.l f::J8 g h j k m o p q [.i 10]) True)))))
def qo :kq oo BQ (Fe 1) (JF 1) 79=mq:=by kernel_rfl
end Go.D
namespace Go.D
open Go Go.Xe Go.Sx
section
variable {D :DM}{L F:a8}{K c b:Nat}{s:Sl}
def Dr (w:WF D K):∀ {f c:Nat},D.N c->ML (D.L.map Sl.f) f c=(bel D f c).length
 |0,_,_=>rfl|f+1,c,⟨s,a,b⟩=>by rw[ML,bel,(Rf.f ⟨rfl,rfl,rfl⟩ a b).2.2.2.2,Za a,XD,List.length_flatMap,List.map_map,Nat.add_comm];congr 2;refine List.map_congr_left λj g=>?_;let⟨h,d,e,_⟩:=(w.A c s a b).2 j g;exact Dr w ⟨h,d,e⟩
def Ds (w:WF D K)(a:D.L[c]? =s)(d:s.d):(bel D 1001 c).length<=1000:=by have:=bT (O4 (f:=1001) w a d) λb e=>(M5 w a d b e).2;have:=List.countP_le_length (p:=λs:Sl=>s.d) (l:=D.L);have:=w.m;omega
def FZ (w:WF D K)(d:D.L[c]? =s)(f:s.d){k:Nat}(a:s.n.e[k]? =b):(c::(s.n.e.take k).flatMap (bel D 1001)).length+(bel D 1001 b).length<=(bel D 1001 c).length/\c::(s.n.e.take<|k+1).flatMap (bel D 1001)=(c::(s.n.e.take k).flatMap (bel D 1001))++bel D 1001 b/\D.N b:=by
 have e:(s.n.e.take<|k+1).flatMap (bel D 1001)=(s.n.e.take k).flatMap (bel D 1001)++bel D 1001 b:=by rw[J9 a];simp
 refine⟨?_,by rw[e];rfl,?_⟩
 .rw[Z4 w d f]
  conv=>rhs;rw[<-YH (k+1) s.n.e,List.flatMap_append,e]
  simp only[XD,Xl];omega
 let⟨i,g,h,_⟩:=(w.A c s d f).2 b<|WT a;exact⟨i,g,h⟩
def V4 (hL:L=D.L.map Sl.f)(a:D.L[c]? =s)(b:s.d):(c:Int)<ln L/\cI L c 2=s.n.j/\cL L c 4=s.n.d.map Att.d/\cI L c 9=s.n.h/\cL L c 10=s.n.e.map B9/\cS L c 3=s.n.o/\cS L c 5=s.n.m/\cI L c 0=s.g:=by
 subst hL;let⟨d,e,f,h,i⟩:=Rf.f (D:=D) (F:=D.h.map B9) (cs:=D.C) ⟨rfl,rfl,rfl⟩ a b;have j:D.L[((c:Nat):Int).toNat]? =s:=by rw[Xz];exact a
 refine⟨d,e,f,h,i,?_⟩;simp only[cI,cS,d9 j];rw[Sl.f,Xg b];exact⟨rfl,rfl,rfl⟩
def qw (n:Nat):mw n:=by
 rw[mw];rintro L F z A B C E G H I i ⟨⟨D,K,c,t,w,rfl,s,a,d⟩,q⟩;have hL:=t.1;let⟨x,_,_,_,r,_⟩:=V4 hL a d;have y:¬(c:Int)<0:=by omega
 have q:ML L 1001 c<n+1:=q;rw[hL,Dr w ⟨s,a,d⟩]at q;have Y:=Ds w a d;refine ndi ⟨by omega,λD K g s _ _ e a d=>⟨by omega,by rw[show g=c by omega];rfl⟩⟩ λk O hI=>?_;let⟨v,hI⟩:=hI;let⟨Z,P⟩:=hI D K c s hL w rfl a d;have Q:ln (cL L c 10)=(s.n.e.length:Int):=by rw[r];simp[ln]
 have lO:ln O=((c::(s.n.e.take k.toNat).flatMap (bel D 1001)).length:Int):=by rw[P];simp[ln]
 rw[Q];refine ndi y<|ndi x ⟨λp=>?_,λp=>nin<|nrn<|ndt λD K g hL w e a=>?_⟩
 .obtain⟨b,u⟩:=Sx.get_at (T:=s.n.e) v p;let⟨t1,t2,t3⟩:=FZ w a d u;have M:cI (cL L c 10) k 0=b:=by rw[r];exact fg u
  rw[M];have U:sG [.l L,.l F,.i z,.i A,.i B,.i C,.i E,.i G,.i H,.i I,.i b]<n:=by show ML L 1001 b<n;rw[hL,Dr w t3];simp only[XD]at t1;omega
  refine ndi y<|ndi x<|ag<|ndi p<|ndi ⟨⟨D,K,b,t,w,rfl,t3⟩,U⟩ λR h=>?_;have lR:ln R=((bel D 1001 b).length:Int):=by rw[h D K b hL w rfl t3];simp[ln]
  refine nin<|ag<|nrn<|ndi (by rw[I64];have:=w.o a d;omega)<|nin<|nrn<|ndi ⟨by omega,λD K g s hL w e a d=>?_⟩<|ndt ?_
  .obtain⟨V,m⟩:=hI D K g s hL w e a d;let⟨_,_,_,_,f,_⟩:=V4 hL a d;rw[<-e]at f;have S:(s.n.e.length:Int)=ln (cL L c 10):=by rw[f];simp[ln]
   let⟨o,j⟩:=Sx.get_at (T:=s.n.e) v (by omega);have N:cI (cL L c 10) k 0=o:=by rw[f];exact fg j
   have:o=b:=by omega
   subst this;let⟨_,W,X⟩:=FZ w a d j;refine⟨by omega,?_⟩;rw[show(k+1).toNat=k.toNat+1 by omega,W,XJ,<-m,h D K o hL w rfl X]
  .show((cL L c 10).length-(k+1)).toNat<((cL L c 10).length-k).toNat;have:(cL L c 10).length=s.n.e.length:=by rw[r];simp
   omega
 .obtain⟨s,a,d⟩:=a;let⟨V,m⟩:=hI D K g s hL w e a d;let⟨_,_,_,_,f,_⟩:=V4 hL a d;rw[<-e]at f;have S:(s.n.e.length:Int)=ln (cL L c 10):=by rw[f];simp[ln]
  rw[XP<|by omega]at m;rw[m,Z4 w a d]
def pu (n:Nat):me n:=by
 rw[me];rintro L F X Y Z c3 c4 c5 c6 c7 i m ⟨⟨m0,m6,D,K,c,R,w,rfl,s,d,f⟩,S⟩;have S:m.toNat<n+1:=S;have hL:=R.1;obtain⟨l1,l2,l3,l4,l5,l6,l7,_⟩:=V4 hL d f;have n0:¬(c:Int)<0:=by omega
 have N:∀ {D:DM} {K} {g:Nat} {s:Sl},L=D.L.map Sl.f->WF D K->(c:Int)=g->D.L[g]? =some s->s.d->ln (cL L c 10)=(s.n.e.length:Int):=λH _ I h3 h4=>by obtain⟨_,_,_,_,h,_⟩:=V4 H h3 h4;rw[I,h];simp[ln]
 have t0:m=0\/16<ln (cL L c 10)->fw n L F X Y Z c3 c4 c5 c6 c7 c m:=λM=>by
  rw[fw];refine ndt λD K g hL w e d=>?_;let⟨s,d,f⟩:=d;have:X9 D m.toNat g=HI:=by
   obtain rfl|M:=M;rfl
   .rw[N hL w e d f]at M;cases m.toNat with
    |zero=>rfl|succ k=>rw[X9,Za d,Xg<|by omega]
  rw[this];exact⟨rfl,rfl,rfl,rfl,rfl,rfl⟩
 refine ndi n0<|ndi l1 ⟨λz=>t0<|.inl z,λz=>⟨λz=>t0<|.inr z,λaa=>ndi ?_ λj k t y a x O hI=>?_⟩⟩;refine⟨by omega,by omega,rfl,λD K g s hL w e d f=>?_⟩;let⟨_,r,u,B,h,v,p,_⟩:=V4 hL d f;rw[e];exact⟨h,r,v,rfl,u,p,rfl⟩;let⟨j0,U,jo,Q⟩:=hI;have lz:ln (cL L c 10)<=16:=by omega
 have U:j<=ln (cL L c 10):=U;have lo:ln O=j:=jo;refine⟨λA=>?_,λA=>nin<|nrn<|ndt λD K g hL w e d=>?_⟩
 .have q:∀ {D:DM} {K} {g:Nat} {s:Sl},L=D.L.map Sl.f->WF D K->(c:Int)=g->D.L[g]? =some s->s.d-> ∃b:Nat,s.n.e[j.toNat]? =b/\cI (cL L c 10) j 0=b/\D.N b:=by intro D K g s hL w e d f;have e1:=N hL w e d f;let⟨_,_,_,_,h,_⟩:=V4 hL d f;let⟨b,o⟩:=Sx.get_at (T:=s.n.e) j0 (by omega);let⟨sb,H,I,_⟩:=(w.A g s d f).2 b<|WT o;exact⟨b,o,by rw[e,h];exact fg o,sb,H,I⟩
  let⟨b,o,E,P⟩:=q hL w rfl d f;refine ag<|ndi A<|ndi (by rw[I64];omega)<|ndi ⟨⟨by omega,by omega,D,K,b,R,w,E,P⟩,?_⟩ λk' t' y' W x' C he=>?_;show(m+ -1).toNat<n;omega
  .refine nin<|ag<|nrn<|ndi (by rw[I64];omega)<|nin<|nrn<|ndi ⟨by omega,?_,?_,λD K g s hL w e d f=>?_⟩<|ndt ?_;show j+1<=ln (cL L c 10);omega;rw[Xl];show((O.length+1:Nat):Int)=j+1;omega
   .obtain⟨V,r,u,B,h,v,p⟩:=Q D K g s hL w e d f;refine⟨V,r,u,B,h,v,?_⟩;let⟨b,o,E,P⟩:=q hL w e d f;have J:=vI<|he D K b hL w E P;have ct:(b9 6 1 [.i k',.s t',.s y',.l W,.s x',.l C]:a8)=[(X9 D (m+ -1).toNat b).m]:=by rw[<-J];rfl
    have G:(m+ -1).toNat=m.toNat-1:=by omega
    have ej:(j+1).toNat=j.toNat+1:=by omega
    rw[ct,p,ej,J9 o,G];simp[rows]
   show((cL L c 10).length-(j+1)).toNat<((cL L c 10).length-j).toNat;have A:j<((cL L c 10).length:Int):=A;omega
 .obtain⟨s,d,f⟩:=d;let⟨V,r,u,B,h,v,p⟩:=Q D K g s hL w e d f;have e1:=N hL w e d f;have G:m.toNat=(m.toNat-1)+1:=by omega
  rw[G];rw[X9,Za d,af];rw[XP<|by omega]at p;exact⟨r,u,B,h,v,p⟩
def set11 {X:List Sl}{a:Nat}{p:Sl}{q:Sl->Sl}{c d f g i k l m n o b:Dat}(h:X[a]? =p)(r:(q p).f=[c,d,f,g,i,k,l,m,n,o,b]):a9 (a9 (a9 (a9 (a9 (a9 (a9 (a9 (a9 (a9 (a9 (X.map Sl.f) a 0 c) a 1 d) a 2 f) a 3 g) a 4 i) a 5 k) a 6 l) a 7 m) a 8 n) a 9 o) a 10 b=(X.modify a q).map Sl.f:=by simp only[a9,D8,Xz];apply List.ext_getElem?;intro j;simp only[j9,XQ];by_cases e:a=j;subst e;simp only[YE,h,XH,r];congr 1;rw[Sl.f];split<;>rfl;simp[e]
def qn :mq:=by
 unfold mq;intro L F J c1 M c3 c4 c5 c6 c7 i g h;obtain⟨hi,hg,hp⟩:=h;have ac:=hp;obtain⟨D,K,o,w⟩:=hp;refine iY ⟨hi,hg,o.j w⟩ ?_;by_cases hv:z9 L i g=true
 .rw[Xg hv];obtain⟨c,s,r,x,u,t,v,h6,h7,h8,U,ha,y⟩:=o.b hv;have n0:¬i<0:=by omega
  refine⟨λh=>absurd h n0,λ_=>ndi n0<|ndi h7 ⟨λz=>wP ac<|ndi ⟨D,K,c,o,w,x,s,u,t⟩ λX hX=>?_,λz=>ndt<|E3 λD K o w=>?_⟩⟩
  .have R:∀ {D K},Rf D L F [J,c1,M,c3,c4,c5,c6,c7]->WF D K-> ∃(c:Nat) (s:Sl),D.m i g=some c/\i=c/\D.L[c]? =some s/\s.d=true/\D.e c=s.n/\s.n.h= -1/\X=(bel D 1001 c).map B9/\(bel D 1001 c).Nodup/\ ∀b∈bel D 1001 c,D.N b:=λ{D K} o w=>by
    obtain⟨c,s,r,x,u,t,v,h6,h7,h8,U,ha,y⟩:=o.b hv;have P:s.n.h= -1:=by rcases w.u c s u t with e| ⟨q,sq,e,_⟩<;>omega
    exact⟨c,s,r,x,u,t,v,P,hX D K c o.1 w x ⟨s,u,t⟩,O4 w u t,λb y=>(M5 w u t b y).2⟩
   obtain⟨c,s,r1,r2,r3,r4,r5,r6,I,Y,Z⟩:=R o w;have lX:X.length=(bel D 1001 c).length:=by rw[I];simp
   have bl:=Ds w r3 r4;have Q:ln X=(X.length:Int):=rfl;have ad:0<=J/\J<=1000/\0<=M/\M<=1000:=by obtain⟨a,b,c,d,e,f,h',r,_,u,t⟩:=w.P;have:=w.m;have:=List.countP_le_length (p:=λs:Sl=>s.d) (l:=D.L);have hc:=o.2.2;rw[r]at hc;simp only[Yl,Yo]at hc;simp only[List.forall_mem_cons]at t;omega
   refine nin<|nrn<|ndi ⟨by omega,by omega,by simp,λD l hL hF _ _ _=>by simpa using⟨hL,hF⟩⟩ λk L' F' d0 d1 d2 d3 d4 d5 d6 d7 hI=>?_;obtain⟨k0,k1,hd,hI⟩:=hI;simp only[Yl,Yo]at hd;obtain⟨rfl,rfl,rfl,rfl,rfl,rfl,rfl,rfl⟩:=hd;obtain⟨G,E⟩:=hI D _ o.1 o.2.1 Y Z I;have lF:F'.length<=2000:=by
    rw[E,Xc,kX,Xl,List.length_reverse];have:D.h.length<=1000:=by
     have hs:D.h ⊆ List.range D.L.length:=λj H=>by obtain⟨s,r,_⟩:=w.t.2 j H;exact List.mem_range.2 (WM.1 r).1
     have U:=w.t.1.length_le_of_subset hs;have:=w.m;rw[List.length_range]at U;omega
    have:((bel D 1001 c).take k.toNat).length<=(bel D 1001 c).length:=by rw[Xt];omega
    omega
   have ah:ln F'=(F'.length:Int):=rfl;refine⟨λz=>?_,λz=>nin<|nrn<|ndt λD K o w=>?_⟩
   .rw[Q]at z⊢;have A:∀ {D:DM} {l:Ah},L=D.L.map Sl.f->F=D.h.map B9->l.Nodup->(∀b∈l,D.N b)->X=l.map B9-> ∃(b:Nat) (s:Sl),cI X k 0=b/\D.L[b]? =some s/\s.d=true/\((l.take k.toNat).foldl C0 D).L[b]? =some s/\(l.take (k+1).toNat).foldl C0 D=C0 ((l.take k.toNat).foldl C0 D) b:=λ{D l} r x u t v=>by
     have lj:k<(l.length:Int):=by have:=congrArg List.length v;simp at this;omega
     let⟨b,y⟩:=Sx.get_at (T:=l) k0 lj;let⟨s,V,W⟩:=t b<|WT y;have nb:b∉l.take k.toNat:=λm=>by let⟨j,H⟩:=YV m;rw[Xr]at H;split at H;rename_i ab;exact Hb u H y ab rfl;cases H
     exact⟨b,s,by rw[v];exact fg y,V,W,by rw[K6 nb];exact V,by rw[m8 k0 y,List.foldl_append];rfl⟩
    let⟨b,S,V,W,q3,q4,q5⟩:=A o.1 o.2.1 Y Z I;have B:=(V4 o.1 W q3)
    have O:(b:Int)<ln L':=by rw[G];simp only[ln,Xc];have:=(WM.1 q4).1;omega
    rw[V,B.2.2.2.2.2.2.2];have gb:=w.J S<|WT W;have ae:=w.m;have ew:IntKind.wrap .u32 ((S.g:Int)+1)=((S.g+1:Nat):Int):=by rw[Int.natCast_add];exact T7 (by simp[IntKind.min,IntKind.signed];omega) (by simp[IntKind.max,IntKind.signed,IntKind.bits];omega)
    rw[ew];have kn:¬k<0:=by omega
    have bn:¬(b:Int)<0:=by omega
    have N:∀F2:a8,F2=[.i (b:Int)]::F'->sI (.l X::.l L::.l F::J8 J d1 M d3 d4 d5 d6 d7 []) (.i (k+1)::.l (a9 (a9 (a9 (a9 (a9 (a9 (a9 (a9 (a9 (a9 (a9 L' b 0<|.i ((S.g+1:Nat):Int)) b 1<|.b false) b 2<|.i 0) b 3<|.s []) b 4<|.l []) b 5<|.s []) b 6<|.i 0) b 7<|.i 0) b 8<|.b false) b 9<|.i 0) b 10<|.l [])::.l F2::J8 (J-k+ -1) d1 (M+k+1) d3 d4 d5 d6 d7 []):=λF2 aa=>by
     refine⟨by omega,by omega,by simp only[Yl,Yo,Yk];omega,λD l r x u t v=>?_⟩;let⟨G,E⟩:=hI D l r x u t v;let⟨b',s',p1,p2,p3,p4,p5⟩:=A r x u t v;have:b'=b:=by omega
     subst this;have eg:s'.g=S.g:=by have e1:=B.2.2.2.2.2.2.2;rw[(V4 r p2 p3).2.2.2.2.2.2.2]at e1;omega
     rw[p5,aa,E,G];refine⟨?_,rfl⟩;rw[set11 (q:=λs=>⟨s.g+1,false,A2 0 [] []⟩) p4<|by rw[<-eg];rfl];rfl
    refine ndi kn<|ndi z<|ndi kn<|ndi z<|ndi bn<|ndi B.1<|ndi bn<|ndi O<|ndi O<|ndi kn<|ndi z<|ag ⟨λr=>?_,λr=>?_⟩;exact ndi (by unfold I64;omega)<|ndi (by unfold I64;omega)<|ndi (by unfold I64;omega)<|nin<|nrn<|nin<|nrn<|ndi (N _ rfl)<|ndt (by show(X.length-(k+1)).toNat<(X.length-k).toNat;omega);have e0:F'= []:=WP (by omega);subst e0;exact ndi (by unfold I64;omega)<|ndi (by unfold I64;omega)<|ndi (by unfold I64;omega)<|ndi (by simp[ln,Sx.over,b9])<|nin<|nrn<|ndi (N _ rfl)<|ndt (by show(X.length-(k+1)).toNat<(X.length-k).toNat;omega)
   .rw[Q]at z;let⟨c,s,r1,r2,r3,r4,r5,r6,I,Y,Z⟩:=R o w;let⟨G,E⟩:=hI D _ o.1 o.2.1 Y Z I;have lX:X.length=(bel D 1001 c).length:=by rw[I];simp
    rw[XP<|by omega]at G E;show Rf (fL D i g).1 _ _ _/\(0:Int)=(fL D i g).2;unfold fL;rw[r1];simp only;rw[r5,Xd<|by simp[r6]];refine⟨⟨G,E,?_⟩,rfl⟩;show _=(D.C.modify 0 _).modify 2 _;have ek:k=((bel D 1001 c).length:Int):=by omega
    rw[<-o.2.2,ek];rfl
  obtain⟨c,s,r,x,u,t,v,h6,h7,h8,U,ha,_⟩:=o.b hv;unfold fL;rw[r];simp only;rw[v,Xg<|by omega];exact⟨rfl,rfl⟩
 rw[Xd hv];refine⟨λ_=>ndt<|E3 λD K o w=>?_,λh=>absurd (by decide) h⟩;unfold fL;rw[o.h hv];exact⟨rfl,rfl⟩
end
section
variable {L F V U H S N X W:a8}{fr T Z Y e M i g r J I R k:Int}{bs Q O P:Ak}{K:Nat}{t x:Str}
def BI.d (h:∃K,K+1<=1000/\BI K L F bs H S fr T O N):uE S N fr T O/\jW L F bs/\HOK H/\H.length<=1000:=by let⟨K,f,D,b,c,a,d,e⟩:=h;exact⟨⟨D,K,c,a⟩,⟨D,K,b,a⟩,d,by omega⟩
def Vw (m:∃K,K+1<=1000/\BI K L F bs H S fr T O N){f:DM->DM×Int}(d:cD S N fr T O X W Z Y P λD=>((f D).1,e=(f D).2))(j:eV L F bs V U Q λD=>((f D).1,M=(f D).2))(o:∀D K,WF D K->K+1<=1000->WF (f D).1 (K+1)):e=M/\Fr S N X W/\ ∀K,K+1<=1000->BI K L F bs H S fr T O N->BI (K+1) V U Q H X Z Y P W:=by let⟨K,i,D,b,c,a,g,n⟩:=m;refine⟨((d.2 D K c a).2).trans ((j D K b a).2).symm,d.1,λK i h=>?_⟩;let⟨D,b,c,a,g,n⟩:=h;exact⟨(f D).1,(j D K b a).1,(d.2 D K c a).1,o D K a i,g,by omega⟩
def SJ {D:DM}(w:WF D K)(f:K+1<=1000)(h:(i,g,r)=(z5 D k t x).2):U32 i/\U32 g:=by
 rw[z5] at h;split at h;simp only[WL]at h;rw[h.1,h.2.1];rw[U32];omega
 .obtain⟨J,I,l,d,j,m,o,b,p,q,_⟩:=DM.q (n:=A2 k t x) w f;simp only[WL]at h;let⟨c,a,s⟩:=h;have:=(WM.1 b).1;have e:(D.b<|A2 k t x).1.d J=I:=by rw[DM.d,b]
  rw[d]at c a;rw[e]at a;rw[c,a];unfold U32;omega
def Vv (o:∃K,K+1<=1000/\BI K L F bs H S fr T O N)(q:k=1\/k=2)(f:cD S N fr T O X W Z Y P λD=>((z5 D k t x).1,(i,g,r)=(z5 D k t x).2))(b:eV L F bs V U Q λD=>((z5 D k t x).1,(J,I,R)=(z5 D k t x).2)):i=J/\g=I/\r=R/\Fr S N X W/\ ∀K,K+1<=1000->BI K L F bs H S fr T O N->BI (K+1) V U Q H X Z Y P W/\BI (K+1) V U Q (H++ [[.i J,.i I]]) X Z Y P W:=by let⟨K,l,D,c,e,a,j,p⟩:=o;have d:=((f.2 D K e a).2).trans ((b D K c a).2).symm;simp only[WL]at d;refine⟨d.1,d.2.1,d.2.2,f.1,λK l h=>?_⟩;let⟨D,c,e,a,j,p⟩:=h;have w:=a.V l q (t:=t) (x:=x);have u:=SJ a l (b D K c a).2;refine⟨⟨_,(b D K c a).1,(f.2 D K e a).1,w,j,by omega⟩,⟨_,(b D K c a).1,(f.2 D K e a).1,w,λr b=>?_,by rw[Xl];show H.length+1<=K+1;omega⟩⟩;obtain h|h:=Xv.1 b;exact j r h;exact⟨_,_,Yh.1 h,u.1,u.2⟩
def rB :U32 0:=by rw[U32];omega
def vcDo_ok :vcDo:=by
 rw[vcDo];intro k x y z s L F b0 b1 b2 b3 b4 b5 b6 b7 H S fr T c0 c1 c2 c3 c4 c5 c6 c7 st N h;obtain⟨hk,hx,hy,hz,hs,h0⟩:=h;let⟨A,B,hH,lH⟩:=BI.d h0;refine nin<|nrn<|nin<|nrn<|ndi ⟨hx.1,hx.2,hH⟩ λi g u1=>nin<|nrn<|nin<|nrn<|ndi ⟨hy.1,hy.2,hH⟩ λj m u2=>nin<|nrn<|nin<|nrn<|ndi ⟨hz.1,hz.2,hH⟩ λp q u3=>?_;let⟨ui,ug⟩:=u1;let⟨uj,um⟩:=u2;let⟨up,uq⟩:=u3;have ab:∀ {kk:Int} {t v:Str} (aj:kk=1\/kk=2) {a b c a' b' c':Int} {V U X W d:a8} {Z Y E G I J O P Q d7 e0 e1 e2 e3 e4 e5 e6 e7:Int},eV L F [b0,b1,b2,b3,b4,b5,b6,b7] V U [E,G,I,J,O,P,Q,d7] (λD=>((z5 D kk t v).1,(a,b,c)=(z5 D kk t v).2))->cD S N fr T [c0,c1,c2,c3,c4,c5,c6,c7] X W Z Y [e0,e1,e2,e3,e4,e5,e6,e7] (λD=>((z5 D kk t v).1,(a',b',c')=(z5 D kk t v).2))->
   (a'=a->oe b' b c H c' X k x y z s L F b0 b1 b2 b3 b4 b5 b6 b7 S fr T c0 c1 c2 c3 c4 c5 c6 c7 st N V U E G I J O P Q d7 a Z Y e0 e1 e2 e3 e4 e5 e6 e7 d W)/\(¬a'=a->dp H X k x y z s L F b0 b1 b2 b3 b4 b5 b6 b7 S fr T c0 c1 c2 c3 c4 c5 c6 c7 st N V U E G I J O P Q d7 Z Y e0 e1 e2 e3 e4 e5 e6 e7 d W):=by
  intro kk t v aj a b c a' b' c' V U X W d Z Y E G I J O P Q d7 e0 e1 e2 e3 e4 e5 e6 e7 u o;let⟨q1,q2,q3,q4,q5⟩:=Vv h0 aj o u;refine⟨λ_=>?_,λh=>absurd q1 h⟩;rw[oe];refine⟨λ_=>⟨λ_=>nin<|ndi (by simp only[ln];omega)<|nrn ⟨λ_=>nin<|nrn<|nin<|nrn<|ndt ⟨rfl,q4,λK C h=>(q5 K C h).2⟩,λh=>absurd q3 h⟩,λ_=>⟨λ_=>?_,λh=>absurd q3 h⟩⟩,λh=>absurd q2 h⟩;rw[dv];exact nin<|nrn<|nin<|nrn<|ndt ⟨rfl,q4,λK C h=>(q5 K C h).1⟩
 have ah:nu s L F b0 b1 b2 b3 b4 b5 b6 b7 S fr T c0 c1 c2 c3 c4 c5 c6 c7 st N H k x y z:=by rw[nu];intro v hv;refine ndi ⟨.inr rfl,B⟩ λV U E G I J O P Q d7 a b c u=>nin<|nrn<|ndi ⟨rfl,rfl,rfl,.inr ⟨rfl,rfl⟩,A⟩ λa' b' c' X Z Y e0 e1 e2 e3 e4 e5 e6 e7 d W o=>?_;exact ab (kk:=2) (t:=[]) (v:=v) (.inr rfl) u o
 have ac:li s k L F b0 b1 b2 b3 b4 b5 b6 b7 S fr T c0 c1 c2 c3 c4 c5 c6 c7 st N H x y z:=by
  rw[li];refine ndi hs λv _=>⟨λ_=>ndi hs ah,λ_=>ndi ⟨.inl rfl,B⟩ λV U E G I J O P Q d7 a b c u=>nin<|nrn<|ndi ⟨rfl,rfl,rfl,.inl ⟨rfl,rfl⟩,A⟩ λa' b' c' X Z Y e0 e1 e2 e3 e4 e5 e6 e7 d W o=>?_⟩
  exact ab (kk:=1) (t:=v) (v:=[]) (.inl rfl) u o
 have l:∀ {f:DM->DM×Int} (hw:∀D K,WF D K->K+1<=1000->WF (f D).1 (K+1)) {e M:Int} {V U X W d:a8} {Z Y E G I J O P Q d7 e0 e1 e2 e3 e4 e5 e6 e7:Int},cD S N fr T [c0,c1,c2,c3,c4,c5,c6,c7] X W Z Y [e0,e1,e2,e3,e4,e5,e6,e7] (λD=>((f D).1,e=(f D).2))->eV L F [b0,b1,b2,b3,b4,b5,b6,b7] V U [E,G,I,J,O,P,Q,d7] (λD=>((f D).1,M=(f D).2))->
   (e=M->dv H X k x y z s L F b0 b1 b2 b3 b4 b5 b6 b7 S fr T c0 c1 c2 c3 c4 c5 c6 c7 st N V U E G I J O P Q d7 Z Y e0 e1 e2 e3 e4 e5 e6 e7 d W)/\(¬e=M->dp H X k x y z s L F b0 b1 b2 b3 b4 b5 b6 b7 S fr T c0 c1 c2 c3 c4 c5 c6 c7 st N V U E G I J O P Q d7 Z Y e0 e1 e2 e3 e4 e5 e6 e7 d W):=by
  intro f hw e M V U X W d Z Y E G I J O P Q d7 e0 e1 e2 e3 e4 e5 e6 e7 o u;let⟨q1,q2,q3⟩:=Vw h0 o u hw;refine⟨λ_=>?_,λh=>absurd q1 h⟩;rw[dv];exact nin<|nrn<|nin<|nrn<|ndt ⟨rfl,q2,q3⟩
 have aa:ip k S i g j m fr T c0 c1 c2 c3 c4 c5 c6 c7 st N L F b0 b1 b2 b3 b4 b5 b6 b7 H x y z s p q:=by rw[ip];refine⟨λ_=>nin<|nrn<|ndi ⟨ui,ug,uj,um,rB,rB,A⟩ λr X Z Y e0 e1 e2 e3 e4 e5 e6 e7 d W o=>ndi ⟨ui,ug,uj,um,rB,rB,B⟩ λV U E G I J O P Q d7 R u=>?_,λ_=>nin<|nrn<|ndi ⟨ui,ug,uj,um,up,uq,A⟩ λr X Z Y e0 e1 e2 e3 e4 e5 e6 e7 d W o=>ndi ⟨ui,ug,uj,um,up,uq,B⟩ λV U E G I J O P Q d7 R u=>?_⟩;exact l (λD K w C=>w.W C) o u;exact l (λD K w C=>w.W C) o u
 have ai:nq S i g j m fr T c0 c1 c2 c3 c4 c5 c6 c7 st N L F b0 b1 b2 b3 b4 b5 b6 b7 H k x y z s:=by rw[nq];refine nin<|nrn<|ndi ⟨ui,ug,uj,um,A⟩ λr X Z Y e0 e1 e2 e3 e4 e5 e6 e7 d W o=>ndi ⟨ui,ug,uj,um,B⟩ λV U E G I J O P Q d7 R u=>?_;exact l (λD K w C=>w.mov C) o u
 have u8:∀n:Int,B8 n->Mz [.i (IntKind.wrap .u8<|n.tdiv 8)]:=λn h=>by
  have h1:0<=n.tdiv 8:=Int.tdiv_nonneg h.1 (by omega);have h2:n.tdiv 8<256:=by have:=Int.tdiv_le_self 8 h.1;have:=h.2;omega
  rw[T7 (by simp[IntKind.min,IntKind.signed];omega)<|by simp[IntKind.max,IntKind.signed,IntKind.bits];omega];exact⟨h1,h2⟩
 refine⟨λ_=>ac,λ_=>⟨λ_=>ac,λ_=>⟨λ_=>ac,λ_=>⟨λe=>ndi hs λv _=>ndi e<|ndi hs ah,λ_=>⟨λ_=>?_,λ_=>⟨λ_=>?_,λ_=>⟨λ_=>?_,λ_=>⟨λ_=>aa,λ_=>⟨λ_=>aa,λ_=>⟨λ_=>aa,λ_=>⟨λ_=>aa,λ_=>⟨λ_=>?_,λ_=>⟨λ_=>ai,λ_=>⟨λ_=>ai,λ_=>⟨λ_=>?_,λ_=>?_⟩⟩⟩⟩⟩⟩⟩⟩⟩⟩⟩⟩⟩⟩⟩;refine ndi hs λn hn=>ndi (u8 s hs) λv hv=>nin<|nrn<|ndi ⟨ui,ug,by omega,A⟩ λr X Z Y e0 e1 e2 e3 e4 e5 e6 e7 d W o=>ndi hs λn' ad=>ndi (u8 s hs) λv' ae=>?_;have en:n'=n:=ad.trans hn.symm;have ev:v'=v:=ae.trans hv.symm;subst en;subst ev;exact ndi ⟨ui,ug,λh=>by simp at h,B⟩ λV U E G I J O P Q d7 R u=>l (λD K w C=>w.edt C) o u;refine ndi hs λn hn=>nin<|nrn<|ndi ⟨ui,ug,by omega,A⟩ λr X Z Y e0 e1 e2 e3 e4 e5 e6 e7 d W o=>ndi hs λn' ad=>?_;have en:n'=n:=ad.trans hn.symm;subst en;exact ndi ⟨ui,ug,λ_=>rfl,B⟩ λV U E G I J O P Q d7 R u=>l (λD K w C=>w.edt C) o u;refine ndi hs λv hv=>nin<|nrn<|ndi ⟨ui,ug,A⟩ λr X Z Y e0 e1 e2 e3 e4 e5 e6 e7 d W o=>ndi hs λv' ae=>?_;have ev:v'=v:=ae.trans hv.symm;subst ev;exact ndi ⟨ui,ug,B⟩ λV U E G I J O P Q d7 R u=>l (λD K w C=>w.text C) o u;exact nin<|nrn<|ndi ⟨ui,ug,A⟩ λr X Z Y e0 e1 e2 e3 e4 e5 e6 e7 d W o=>ndi ⟨ui,ug,B⟩ λV U E G I J O P Q d7 R u=>l (λD K w C=>w.rem C) o u
 .have i1:I64 s:=by rw[I64];have:=hs.1;have:=hs.2;omega
  have i2:I64 (s+ -100):=by rw[I64];have:=hs.1;have:=hs.2;omega
  have i3:I64 z:=by rw[I64];have:=hz.1;have:=hz.2;omega
  exact ndi i1<|ndi i2<|ndi i3<|nin<|nrn<|ndi ⟨ui,ug,A⟩ λr X Z Y e0 e1 e2 e3 e4 e5 e6 e7 d W o=>ndi i1<|ndi i2<|ndi i3<|ndi ⟨ui,ug,B⟩ λV U E G I J O P Q d7 R u=>l (λD K w C=>w.pla C) o u
 exact nin<|nrn<|ndi ⟨ui,ug,A⟩ λr X Z Y e0 e1 e2 e3 e4 e5 e6 e7 d W o=>ndi ⟨ui,ug,B⟩ λV U E G I J O P Q d7 R u=>l (λD K w C=>w.fre C) o u
end
section
variable {D :DM}{L F S N:a8}{fr lv:Int}{bs cs:Ak}{K c:Nat}{s:Sl}{T:List RS}{M:List RN}
mutual
def AN :∀s:c8,R0 true s=s
 | .mk k t y a x c=>by rw[R0,strips_true c];rfl
def strips_true :∀l:List c8,strips true l=l
 | []=>rfl|s::l=>by rw[strips,AN s,strips_true l]
end
def hL' (L:a8)(j:Nat):Ar:=[.i j,.i<|cI L j 0]
def tY (h:Rf D L F bs)(a:D.L[c]? =s):cI L c 0=s.g/\cB L c 1=s.d/\(c:Int)<ln L/\D.d c=s.g:=by
 obtain⟨rfl,_,_⟩:=h;have b:D.L[((c:Nat):Int).toNat]? =s:=by rw[Xz];exact a
 have:=(WM.1 a).1;simp only[cI,cB,d9 b,s.h,s.j,ln,Xc];exact⟨rfl,rfl,by omega,YZ a⟩
def CP (q:Rf D L F bs)(z:RlC D S N fr lv cs)(w:WF D K)(h:D.L[c]? =s)(k:s.d):D.m c s.g=c/\z9 S c s.g/\U32 (c:Int)/\U32 (s.g:Int)/\cI N (atF S c s.g) 0=cI L c 2/\cS N (atF S c s.g) 1=cS L c 3/\cL N (atF S c s.g) 2=cL L c 4/\cS N (atF S c s.g) 3=cS L c 5/\cI N (atF S c s.g) 4=cI L c 6/\cI N (atF S c s.g) 5=cI L c 7/\cB N (atF S c s.g) 6=cB L c 8/\cL L c 4=s.n.d.map Att.d/\cI L c 9=s.n.h/\cL L c 10=s.n.e.map B9/\cL N (atF S c s.g) 9=s.n.e.map (hL' L)/\(cI L c 9<0->cI N (atF S c s.g) 7=0/\cI N (atF S c s.g) 8=0)/\(¬cI L c 9<0->cI L c 9<ln L/\cI L c 9<=1000/\cI N (atF S c s.g) 7=cI L c 9/\cI N (atF S c s.g) 8=cI L (cI L c 9) 0):=by
 have f:D.m c s.g=c:=by have:=YY h k;rwa[YZ h]at this
 let⟨U,y,J,M,O,P,Q,R,d⟩:=z.1.m f;rw[h]at y;cases y;have u:=w.H f;have B:D.L[((c:Nat):Int).toNat]? =s:=by rw[Xz];exact h
 have a:∀j,A7 L c j=s.f.getD j (.i 0):=λj=>by rw[q.1];exact d9 B j
 have row:s.f=[.i s.g,.b true,.i s.n.j,.s s.n.o,.l<|s.n.d.map Att.d,.s s.n.m,.i s.n.t,.i s.n.r,.b s.n.u,.i s.n.h,.l<|s.n.e.map B9]:=by rw[Sl.f,Xg k]
 have G:=w.m;have o:cI L c 9=s.n.h:=by simp only[cI,a,row];rfl
 have v:cI N (atF S c s.g) 7=hI s.n.h:=by simp only[cI,d];rfl
 have x:cI N (atF S c s.g) 8=hG' D.d s.n.h:=by simp only[cI,d];rfl
 refine⟨f,z.1.d.2 ⟨c,f⟩,u.1,u.2.1,?_,?_,?_,?_,?_,?_,?_,?_,o,?_,?_,λA=>?_,λA=>?_⟩;simp only[cI,d,a,row];rfl;simp only[cS,d,a,row];rfl;simp only[cL,d,a,row];rfl;simp only[cS,d,a,row];rfl;simp only[cI,d,a,row];rfl;simp only[cI,d,a,row];rfl;simp only[cB,d,a,row];rfl;simp only[cL,a,row];rfl;simp only[cL,a,row];rfl
 .have:cL N (atF S c s.g) 9=s.n.e.map (D4 D.d):=by simp only[cL,d];rfl
  rw[this];refine List.map_congr_left λj C=>?_;let⟨V,m,E,_⟩:=(w.A c s h k).2 j C;let⟨r,_,_,t⟩:=tY q m;rw[D4,hL',r,t]
 .rw[v,x];have:s.n.h= -1:=by rcases w.u c s h k with e| ⟨p,I,e,_⟩<;>omega
  rw[this];exact⟨rfl,rfl⟩
 rw[v,x,o];rw[o]at A;obtain e| ⟨p,I,e,m,E,T⟩:=w.u c s h k;omega;let⟨r,_,H,t⟩:=tY q m;have:=(WM.1 m).1;rw[hI,hG',e,af,af,Xz,r,t];exact⟨H,by omega,rfl,rfl⟩
def UX (h:RlT D.d D T M fr lv)(c:Rf D L F bs):∀ {l:Ah} {i:Int},Ch T i l-> ∀f,l.length<=f->waF (T.map RS.d) f i=l.map (hL' L)
 | [],i,h,f,_=>by have h:i=0:=h;subst h;cases f<;>simp[waF]
 |a::l,i,⟨p,r,b,q,m⟩,f,d=>by
  obtain⟨f,rfl⟩:∃k,f=k+1:=⟨f-1,by simp at d;omega⟩
  have e:i-1=(a:Int):=by omega
  have j:T[((a:Nat):Int).toNat]? =r:=by rw[Xz];exact b
  let⟨s,n,o,_⟩:=h.t b;rw[waF,Xg<|by omega,e,show cI (T.map RS.d) a 2=r.e by simp only[cI];rw[d9 j];rfl,show cI (T.map RS.d) a 0=r.g by simp only[cI];rw[d9 j];rfl,UX h c m f (by simp at d;omega)];rw[XU];congr 1;rw[hL',(tY c n).1,o]
def Kw (b:Rf D L F bs)(a:RlC D S N fr lv cs)(w:WF D K):waF S 1001 fr=D.h.map (hL' L):=by obtain⟨T,M,rfl,rfl,h⟩:=a.1;have:=h.h;have:=w.m;have:=h.d.h h.e;exact UX h b h.d 1001 (by omega)
def UM :∀ {T:List RS} (k:Nat),hdF (T.map RS.d) k=((List.range T.length).filter λj=>(T.getD j ⟨0,false,0,0⟩).u).map λj=>[Dat.i ((k+j:Nat):Int),.i (T.getD j ⟨0,false,0,0⟩).g]
 | [],k=>rfl|r::T,k=>by
  rw[XU];unfold hdF;have d:(RS.d r).getD 1 (.i 0)= .b r.u:=rfl;have c:(RS.d r).getD 0 (.i 0)= .i r.g:=rfl;have a:=UM (T:=T)<|k+1;rw[Int.natCast_add]at a;have a:hdF (T.map RS.d) ((k:Int)+1)=_:=a;rw[d,c,a,XD,List.range_succ_eq_map,List.filter_cons,List.filter_map];have e:∀l:Ah,(l.map λj=>[Dat.i ((k+1+j:Nat):Int),.i (T.getD j ⟨0,false,0,0⟩).g])=l.map ((λj=>[Dat.i ((k+j:Nat):Int),.i ((r::T).getD j ⟨0,false,0,0⟩).g])∘Nat.succ):=λl=>List.map_congr_left λj _=>by simp only[Function.comp,List.getD_cons_succ];rw[show k+1+j=k+j.succ by omega]
  have f:((λj=>((r::T).getD j ⟨0,false,0,0⟩).u)∘Nat.succ)=λj=>(T.getD j ⟨0,false,0,0⟩).u:=by funext j;rfl
  have h:((r::T).getD 0 ⟨0,false,0,0⟩)=r:=rfl;rw[f,h,e];cases m:r.u<;>simp[Dat.f,m,List.map_map]
def QV (b:Rf D L F bs)(q:RlC D S N fr lv cs)(w:WF D K):(hdF S 0).filter (roB S N)=(mM L L.length).map (hL' L):=by
 obtain⟨T,M,rfl,rfl,h⟩:=q.1;have B:T.length=L.length:=by rw[h.h,b.1,Xc]
 have:=UM (T:=T) 0;rw[show hdF (T.map RS.d) 0=_ from this,List.filter_map,List.filter_filter,B];rw[mM];have m:∀j∈List.range L.length,((λr=>roB (T.map RS.d) (M.map RN.d) r)∘λj:Nat=>[Dat.i ((0+j:Nat):Int),.i (T.getD j ⟨0,false,0,0⟩).g]) j/\(T.getD j ⟨0,false,0,0⟩).u↔(cB L j 1&&decide (cI L j 9<0))=true:=λj a=>by
  have a:=List.mem_range.1 a;rw[b.1,Xc]at a;have c:D.L[j]? =D.L[j]:=WV a;let⟨r,f,k,o,_⟩:=h.m j _ c;have d:T.getD j ⟨0,false,0,0⟩=r:=by rw[Xp,f];rfl
  let⟨Q,C,R,U⟩:=tY b c;show roB (T.map RS.d) (M.map RN.d) [Dat.i ((0+j:Nat):Int),.i (T.getD j ⟨0,false,0,0⟩).g]/\(T.getD j ⟨0,false,0,0⟩).u↔_;rw[d,C,o];cases s:(D.L[j]).d with
  |false=>simp|true=>
   let⟨_,_,_,_,_,_,_,_,_,_,_,_,v,_,_,x,y⟩:=CP b q w c s;have e:roB (T.map RS.d) (M.map RN.d) [Dat.i ((0+j:Nat):Int),.i r.g]=(decide (cI (M.map RN.d) (atF (T.map RS.d) j (D.L[j]).g) 7=0)&&decide (cI (M.map RN.d) (atF (T.map RS.d) j (D.L[j]).g) 8=0)):=by rw[roB,show(0+j)=j by omega,k];rfl
   rw[e];simp only[Bool.true_and,Xf,WK,Yo];constructor;rintro ⟨V,W⟩;apply Classical.byContradiction;intro l;let⟨G,H,I,z⟩:=y l;obtain n| ⟨p,E,n,t,O,P⟩:=w.u j _ c s;omega;have J:=w.J E<|WT t;have:=(tY b t).1;rw[v,n]at z;omega;exactλl=>x l
 have A:(List.range L.length).filter (λj=>((λr=>roB (T.map RS.d) (M.map RN.d) r)∘λj:Nat=>[Dat.i ((0+j:Nat):Int),.i (T.getD j ⟨0,false,0,0⟩).g]) j&&(T.getD j ⟨0,false,0,0⟩).u)=(List.range L.length).filter λi:Nat=>cB L i 1&&decide (cI L i 9<0):=by refine List.filter_congr λj a=>?_;rw[Bool.eq_iff_iff,WK];exact m j a
 rw[A];refine List.map_congr_left λj a=>?_;have a:=List.mem_range.1 (List.mem_filter.1 a).1;rw[b.1,Xc]at a;have c:D.L[j]? =D.L[j]:=WV a;let⟨r,f,k,o,_⟩:=h.m j _ c;have d:T.getD j ⟨0,false,0,0⟩=r:=by rw[Xp,f];rfl
 rw[hL',d,(tY b c).1,k,show(0+j)=j by omega]
end
open Go Go.Xe Go.Sx
def vcNwb :Prop:=
 Ju []->Nd (Jv []<|.l []::.l []::J8 0 0 0 0 0 0 0 0 (.l []::.l []::J10 0 0 0 0 0 0 0 0 0 0 [.l []])) True
def xo :kq cNwb iT (lT 0) (vN 0) 28=vcNwb:=by kernel_rfl
def kh a b c d f g h j k m o p q r s t u v w x y z A B C D F G H I J K L M N O P Q R S T U V W X Y Z x47 x48 x49 x50:=
 Nq (ln a)<|Nq (ln b)<|Nd (¬c)<|Nd (Du (.l d::.i f::.l g::.l h::J8 j k m o p q r s (.l t::JD u v w x y z A B C D F G H))<|.i 1::.l I::.l J::J8 K L M N O P Q R (.l a::JD b S T U V W X Y Z x47 x48 x49 x50)) True
def vcBpl :Prop:=
 ∀a d o p q r s t u v w x f g y z A B C D F G H I J K,Iz (.l a::.i d::.l o::.l p::J8 q r s t u v w x (.l f::JD g y z A B C D F G H I J K))->Nq (ln f) (Nq (ln g)<|Nd (Dv [.l a,.i d]<|.l K::.i 0::.l o::.l p::J8 q r s t u v w x (.l f::.l g::J10 y z A B C D F G H I [.b false,.l J]))<|∀L c M N O P Q S T U V W h j X Y Z x43 x44 x45 x46 x47 x48 x49 x50 x51,Dv [.l a,.i d] (.l L::.i c::.l M::.l N::J8 O P Q S T U V W (.l h::.l j::J10 X Y Z x43 x44 x45 x46 x47 x48 x49 [.b x50,.l x51]))->((c<ln a->((c<d->Nb c (ln a) (Nq (ln h)<|Nq (ln j)<|Nd (¬x50=true)<|Cg Pq Cd (.i (cI a c 0)::.i (cI a c 1)::.i (cI a c 2)::.i (cI a c 3)::.i (cI a c 4)::.l M::.l N::J8 O P Q S T U V W (.l h::JD j X Y Z x43 x44 x45 x46 x47 x48 x49 x51 L)) λR=>∀x52 x53 x54 x55 x56 x57 x58 x59 x60 x61 x62 k m x65 x66 x67 x68 x69 x70 x71 x72 x73 x74 x75 x76,R (.i x52::.l x53::.l x54::J8 x55 x56 x57 x58 x59 x60 x61 x62 (.l k::JD m x65 x66 x67 x68 x69 x70 x71 x72 x73 x74 x75 x76))->Ca (.l x76::.i (c+1)::.l x53::.l x54::J8 x55 x56 x57 x58 x59 x60 x61 x62 (.l k::.l m::J10 x65 x66 x67 x68 x69 x70 x71 x72 x73 x74 [.b false,.l x75])) λE=>((x52=0->Nq (ln k) (Nq (ln m)<|Nd (Du (.l a::.i d::.l o::.l p::J8 q r s t u v w x (.l f::JD g y z A B C D F G H I J K))<|.i 0::.l x53::.l x54::J8 x55 x56 x57 x58 x59 x60 x61 x62 (.l k::JD m x65 x66 x67 x68 x69 x70 x71 x72 x73 x74 x75 x76)) True))/\(¬x52=0->Nd (I64<|c+1) (Nq (ln k)<|Nq (ln m)<|Nd (Dv [.l a,.i d] E)<|Nd (OY [.l a,.i d] E<OY [.l a,.i d] (.l L::.i c::.l M::.l N::J8 O P Q S T U V W (.l h::.l j::J10 X Y Z x43 x44 x45 x46 x47 x48 x49 [.b x50,.l x51]))) True)))))/\(¬c<d->kh h j x50 a d o p q r s t u v w x f g y z A B C D F G H I J K M N O P Q S T U V W X Y Z x43 x44 x45 x46 x47 x48 x49 x51 L)))/\(¬c<ln a->kh h j x50 a d o p q r s t u v w x f g y z A B C D F G H I J K M N O P Q S T U V W X Y Z x43 x44 x45 x46 x47 x48 x49 x51 L)))
def vcBpl_eq :kq cBpl iT (lT 1) (vN 1) 29=vcBpl:=by kernel_rfl
def vr :Prop:=
 ∀d f g h j k m o p q r s,JI (.l d::.l f::J10 g h j k m o p q r s [])->Ca (.l d::.l f::J10 g h j k m o p q r s []) λX=>Cg U2 R4 X (λR=>∀t,R [.i t]->Cg pY pZ (.l d::.l f::J8 g h j k m o p q [.i t]) (λR=>∀a,R [.l a]->Ca [.l a,.l d] λW=>Nd (zG W [.i 0,.l []]) (∀b c,zG W [.i b,.l c]->Ca [.i (b+1),.l<|c++b9 2 1 [.i 0,.i 0]] λY=>Ca [.i (b+1),.l<|c++b9 2 1 [.i (IntKind.wrap .u32<|cI a b 0),.i<|cI d (cI a b 0) 0]] λV=>((b<ln a->Nb b (ln a) ((cI a b 0<0->Ni (ln c) (Nd (ln c+1<67108865)<|Nr (ln c)<|Nd (I64<|b+1)<|Nq (ln c+1)<|Nd (zG W Y)<|Nd (Hk W Y<Hk W [.i b,.l c]) True))/\(¬cI a b 0<0->Nb (cI a b 0) (ln d) (Ni (ln c)<|Nd (ln c+1<67108865)<|Nr (ln c)<|Nd (I64<|b+1)<|Nq (ln c+1)<|Nd (zG W V)<|Nd (Hk W V<Hk W [.i b,.l c]) True))))/\(¬b<ln a->Nq (ln c) (Nd (JJ X [.l c]) True))))))
def vq :kq cRha iT (lT 2) (vN 2) 32=vr:=by kernel_rfl
def yr :Prop:=
 ∀a c,IZ [.l a,.l c]->Ca (nR [.l a,.l c] [.i 0]) λV=>((ln a=ln c->((ln a=ln a->Nd (DQ [.l a] [.i 0]) (∀b,DQ [.l a] [.i b]->((b<ln a->Nb b (ln a) (Nb b (ln c)<|(cI a b 0=cI c b 0->((cI a b 1=cI c b 1->Nd (I64<|b+1) (Nd (DQ [.l a] [.i (b+1)])<|Nd (PY [.l a] [.i (b+1)]<PY [.l a] [.i b]) True))/\(¬cI a b 1=cI c b 1->Nd V True)))/\(¬cI a b 0=cI c b 0->Nd V True)))/\(¬b<ln a->Nd (nR [.l a,.l c] [.i 1]) True))))/\(¬ln a=ln a->Nd V True)))/\(¬ln a=ln c->Nd V True))
def yq :kq cLis iT (lT 0) (vN 0) 31=yr:=by kernel_rfl
section
variable {D :DM}{K p c:Nat}{sp:Sl}{cs:Ah}
end
def BI.a {K a:Nat}{L F H S N:a8}{fr c:Int}{bs b:Ak}(h:BI K L F bs H S fr c b N)(j:K<=a)(d:a<=1000):BI a L F bs H S fr c b N:=by let⟨D,e,f,g,i,k⟩:=h;exact⟨D,e,f,g.q j d,i,by omega⟩
def bi0 :BI 0 [] [] [0,0,0,0,0,0,0,0] [] [] 0 0 [0,0,0,0,0,0,0,0] []:=
 ⟨DE,⟨rfl,rfl,rfl⟩,rlE ⟨[],rfl⟩ rfl,wfE,λr h=>by simp at h,Xh _⟩
def xn :vcNwb:=λ_=>ndt ⟨rfl,rfl,rfl,rfl,rfl,rfl,rfl,rfl⟩
def Tg {l:a8}{k:Int}(s:∀r∈l,O5 r)(t:0<=k)(q:k<l.length):B8 (cI l k 0)/\B8 (cI l k 1)/\B8 (cI l k 2)/\B8 (cI l k 3)/\B8 (cI l k 4):=by
 let⟨r,g⟩:=Sx.get_at (T:=l) t q;obtain⟨a,b,c,d,e,rfl,h,m,n,o,p⟩:=s r<|WT g;have cell:∀j,cI l k j=(([Dat.i a,.i b,.i c,.i d,.i e]:Ar).getD j<|.i 0).j:=λj=>by have:=d9 (f:=id) g j;rw[List.map_id]at this;simp only[cI,this];rfl
 rw[cell,cell,cell,cell,cell];exact⟨h,m,n,o,p⟩
def vcBpl_ok :vcBpl:=by
 rw[vcBpl];intro l m L F K M O P Q R T U H S fr lv V W X Y Z c5 c6 c7 st N h;let⟨hl,m0,ad,hB⟩:=h;refine nin<|nrn<|nin<|nrn<|ndi ⟨by omega,by omega,m0,rfl,hB⟩ λI k G D e f g i j n o p E J A B q s t u v w x y z C hI=>?_;obtain⟨k0,k1,km,rfl,a⟩:=hI;have b:kh E J false l m L F K M O P Q R T U H S fr lv V W X Y Z c5 c6 c7 st N G D e f g i j n o p A B q s t u v w x y C I:=by rw[kh];exact nin<|nrn<|nin<|nrn<|ndi (by simp)<|ndt ⟨rfl,a.a (by omega)<|by omega⟩
 refine⟨λc=>⟨λab=>?_,λ_=>b⟩,λc=>b⟩;have c:k<l.length:=c;let⟨h1,h2,h3,h4,h5⟩:=Tg hl k0 c;refine ag<|ndi c<|nin<|nrn<|nin<|nrn<|ndi (by simp)<|ndi ⟨h1,h2,h3,h4,h5,_,by omega,a⟩ λr L1 F1 d0 d1 d2 d3 d4 d5 d6 d7 H1 S1 aa ac e0 e1 e2 e3 e4 e5 e6 e7 ae N1 d=>?_;let⟨r1,hf,d⟩:=d;refine⟨λh=>by omega,λ_=>ndi (by rw[I64];omega)<|nin<|nrn<|nin<|nrn<|ndi ⟨by omega,by omega,by omega,rfl,?_⟩<|ndt ?_⟩;rw[show(k+1).toNat=k.toNat+1 by omega];exact d _ (by omega) a;show(l.length-(k+1)).toNat<(l.length-k).toNat;omega
def TO {j:Nat}(h:j<=1000):IntKind.wrap .u32 (j:Int)=j:=T7 (by simp[IntKind.min,IntKind.signed]) (by simp[IntKind.max,IntKind.signed,IntKind.bits];omega)
def row_g {D:DM}{L:a8}{j:Nat}{s:Sl}(h:L=D.L.map Sl.f)(a:D.L[j]? =s):cI L j 0=s.g:=by
 subst h;have:D.L[((j:Nat):Int).toNat]? =s:=by rw[Xz];exact a
 simp only[cI,d9 this];rw[Sl.f];split<;>rfl
def vp :vr:=by
 rw[vr];rintro L F V W Y Z c4 c5 c6 c7 i g ⟨Q,P,D,K,q,d,w,v⟩;obtain⟨s,s1,s2,z,_⟩:=YX v;refine ndi ⟨Q,P,d.j w⟩ λr m=>?_;have m:r=if z9 L i g=true then i else-1:=m
 rw [Xg (d.o.2 ⟨q,v⟩)] at m;subst m;refine ndi ⟨D,K,q,d,w,z,s,s1,s2⟩ λX u=>?_;have a:=u D K q d.1 w z ⟨s,s1,s2⟩;have lX:ln X<=1000:=by rw[a];rw[ln,Xc];have:=Ds w s1 s2;omega
 refine ndi ⟨by omega,by omega,rfl,λl _=>rfl⟩ λk O hI=>?_;let⟨I,y,p,t⟩:=hI;have y:k<=ln X:=y;have p:ln O=k:=p;refine⟨λc=>?_,λc=>nin<|nrn<|ndt λD' B M hL A o=>?_⟩
 .obtain⟨b,n⟩:=Sx.get_at (T:=bel D 1001 q) I (by rw[a]at c;simpa [ln]using c);have E:cI X k 0=b:=by rw[a];exact fg n
  let⟨_,sb,C,S⟩:=M5 w s1 s2 b<|WT n;have U:=(WM.1 C).1;have J:=w.m;have lL:ln L=D.L.length:=by rw[d.1];simp[ln]
  refine ag<|ndi c ⟨λh=>by omega,λ_=>ag<|ag<|nin<|ag<|nrn<|ndi ⟨by omega,by omega⟩<|nin<|nrn<|ndi ⟨by omega,?_,?_,λl e=>?_⟩<|ndt ?_⟩;show k+1<=ln X;omega;rw[Xl];show((O.length+1:Nat):Int)=k+1;rw[ln] at p;omega
  .have H:l=bel D 1001 q:=by have:=congrArg (List.map λr:Ar=>(r.getD 0<|.i 0).j.toNat)<|e.symm.trans a;simpa [List.map_map,Function.comp_def,B9,Dat.j]using this
   rw[t l e,show(k+1).toNat=k.toNat+1 by omega,J9<|by rw[H];exact n,XJ,E,TO<|by omega];rfl
  show(X.length-(k+1)).toNat<(X.length-k).toNat;rw[ln] at c;omega
 .obtain⟨N,t1,t2,t3,_⟩:=YX o;have f:=u D' B M hL A t3 ⟨N,t1,t2⟩;rw[t _ f,XP (by rw[f]at c;simp[ln]at c;omega)];refine List.map_congr_left λj G=>?_;let⟨_,sj,x,j2⟩:=M5 A t1 t2 j G;show [Dat.i j,.i<|cI L j 0]=[Dat.i j,.i<|D'.d j]
  rw[row_g hL x,YZ x]
def yp :yr:=by rw[yr];rintro A B ⟨rfl,c,d⟩;refine⟨λ_=>⟨λ_=>ndi ⟨by omega,by omega⟩ λk hI=>?_,λh=>absurd rfl h⟩,λh=>absurd rfl h⟩;let⟨e,f⟩:=hI;refine⟨λa=>?_,λ_=>ndt rfl⟩;have b:k<A.length:=a;refine ag<|ndi a<|ag<|ndi a ⟨λ_=>⟨λ_=>ndi ⟨by omega,by omega⟩<|ndi ⟨by omega,by omega⟩<|ndt ?_,λh=>absurd rfl h⟩,λh=>absurd rfl h⟩;show(A.length-(k+1)).toNat<(A.length-k).toNat;omega
section
variable {s :c8}{D:DM}{h:Nat}{l C F L H S st N:a8}{fr lv c0 c1 c2 c3 c4 c5 c6 c7 b0 b1 b2 b3 b4 b5 b6 b7 t y K:Int}
def mmo0 {D0:DM}(hV:A9 s)(M:Mnt D0 D s h)(w:WF D 230)(f:RlC D S N fr lv [c0,c1,c2,c3,c4,c5,c6,c7])(A:Rf D L F [b0,b1,b2,b3,b4,b5,b6,b7])(u:U32 h)(v:U32 (D.d h)):jw s.k s.t s.y (s.a.map Att.d) s.x (rows s.c) (eE s) S h (D.d h) fr lv c0 c1 c2 c3 c4 c5 c6 c7 st N s.h L F b0 b1 b2 b3 b4 b5 b6 b7 l t y C []:=by
 have is:isT s s.k s.t s.y (s.a.map Att.d) s.x (rows s.c):=⟨rfl,rfl,rfl,rfl,rfl,rfl⟩
 have sV:=HG hV;let⟨sl,W,us,_,g⟩:=M.e;have q:X9 D 6 h=R0 false s:=M.b.h s hV.1 hV.2.2;have E:(bel D 1001 h).length=s.h:=by rw[M.b.f s (by have:=hV.2.2;omega)];exact Eg
 have B:I64 0:=by decide
 rw[jw];refine ndi ⟨s,is,hV.1,hV.2.1⟩ λr i=>?_;obtain rfl:=i s is;refine⟨λ_=>?_,λd=>absurd rfl d⟩;refine nin<|nrn<|ndi ⟨u,v,D,230,f.1,w⟩ λk t y G x ch r p=>?_;have p:=p D 230 ⟨_,_,f.1⟩ w;rw[g]at p;obtain⟨rfl,Z,z,m⟩:=p.1 (by rw[q];exact sV);rw[q,AO]at z;subst z;refine nin<|nrn<|ndi ⟨u,v,⟨D,230,f.1,w⟩,s,is⟩ λU r hI=>?_;have hI:=hI D 230 s ⟨_,_,f.1⟩ w is;rw[g]at hI;obtain⟨rfl,K⟩:=hI.1 hV;refine nin<|nrn<|ndi ⟨u,v,D,230,f.1,w⟩ λO r n=>?_;have n:=n D 230 ⟨_,_,f.1⟩ w;rw[g]at n;obtain⟨rfl,rfl⟩:=n;refine ndi B<|ndi B ⟨λ_=>⟨λ_=>?_,λd=>absurd (K.2 ⟨by rw[q];exact sV,sV,q⟩) d⟩,λd=>absurd rfl d⟩;refine ndi ⟨s,is,hV⟩ λX t' y' T x' V o=>?_;have o:=o s is;refine nin<|nrn<|ndi ⟨⟨_,m⟩,⟨_,o⟩⟩ λr i=>?_;refine⟨λ_=>⟨λ_=>?_,λd=>absurd (by rw[ln,Xc,E]) d⟩,λd=>absurd ((i _ _ m o).1 ⟨sV,rfl⟩) d⟩;refine ndi ⟨u,v,D,230,h,A,w,g⟩ λR e=>?_;have J:=hV.2.1;refine ndi ⟨(e D 230 h A.1 w g).symm,by rw[Xc,E];omega,λx Q=>by obtain⟨j,_,rfl⟩:=Yw.1 Q;exact⟨_,_,rfl⟩⟩ λY I=>⟨λ_=>ndi rfl λb P=>ndt<|yesB P,λh=>absurd I h⟩
end
def yi :yl:=by
 rw[yl];rintro l t y C N0 ⟨rfl,hl,ht,hy,hC⟩;refine ndi trivial λL F I J K O P Q R T H S fr lv U V W X Y Z c6 c7 st b=>?_;obtain⟨rfl,rfl,rfl,rfl,rfl,rfl,hb,hc⟩:=b;refine ndi ⟨ht,hy,hC⟩ λk tg ky a x c hT=>?_;obtain⟨s,⟨rfl,rfl,rfl,rfl,rfl,rfl⟩,hV,ab⟩:=hT;have is:isT s s.k s.t s.y (s.a.map Att.d) s.x (rows s.c):=⟨rfl,rfl,rfl,rfl,rfl,rfl⟩
 have kc:=GH s hV.1;refine nin<|nrn<|nin<|nrn<|ndi ⟨hl,by omega,by omega,by rw[hb,hc];exact bi0⟩ λr L F I J K O P Q R T H S fr lv U V W X Y Z c6 c7 st N p=>?_;let⟨r1,D,v,m,w,hH,lH⟩:=p;have w:WF D 30:=w;refine⟨λh=>by omega,λ_=>nin<|nrn<|ndi ⟨s,D,30,is,m,w,λ_=>by omega⟩ λi g e S1 aa ac d0 d1 d2 d3 d4 d5 d6 d7 ad N1 u=>?_⟩;let⟨u1,u2,_,u⟩:=u;obtain⟨j,o,rfl⟩:=(u s D 30 is m w).1 hV (by omega);refine ndi ⟨s,D,30,is,hV.1,v,w,by omega⟩ λL1 F1 e0 e1 e2 e3 e4 e5 e6 e7 i' g' f=>?_;let⟨_,_,f⟩:=f;let⟨hR1,eB⟩:=f s D 30 is hV.1 v w (by omega);refine ndi ⟨s,is⟩ λm0 m1 m2 m3 m4 m5 m6 m7 r hK=>?_;obtain⟨B,rfl⟩:=(hK s is).1 hV;have q:=o.trans eB.symm;simp only[WL]at q;refine⟨λ_=>⟨λ_=>⟨λ_=>⟨λ_=>?_,λb=>absurd q.2 b⟩,λb=>absurd q.1 b⟩,λb=>absurd rfl b⟩,λb=>absurd rfl b⟩;let⟨h,eh,M⟩:=Ql s w hV.1 (by omega);have G:WF (X6 D s).1 230:=(WF.Q s w hV.1<|by omega).q (by omega) (by omega);refine nin<|nrn<|nin<|nrn<|ndi ⟨230,_,hR1,j,G,hH,by omega⟩ λr p=>⟨λh0=>by have p:r=1:=p;omega,λ_=>?_⟩;have d:=M.f.h;rw[<-hR1.2.2,<-v.2.2]at d;have z:=G8 s;have q0:=d 0;have q1:=d 1;have q2:=d 2;have q3:=d 3;have q4:=d 4;have q5:=d 5;have q6:=d 6;have q7:=d 7;simp[cq]at q0 q1 q2 q3 q4 q5 q6 q7;have al:=vF s hV.1;simp only[Yl,Yo]at B;let⟨k0,k1,k2,k3,k4,k5,k6,k7⟩:=B;have i8:∀x:Int,0<=x/\x<=1000->I64 x:=λx h=>⟨by omega,by omega⟩
 refine ndi (i8 _<|by omega)<|ndi (i8 _<|by omega)<|ndi (i8 _<|by omega)<|ndi (i8 _<|by omega)<|ndi (i8 _<|by omega)<|ndi (i8 _<|by omega)<|ndi (i8 _<|by omega)<|ndi (i8 _<|by omega) ?_;refine⟨λ_=>⟨λ_=>⟨λ_=>⟨λ_=>⟨λ_=>⟨λ_=>⟨λ_=>⟨λ_=>?_,λb=>absurd (by omega) b⟩,λb=>absurd (by omega) b⟩,λb=>absurd (by omega) b⟩,λb=>absurd (by omega) b⟩,λb=>absurd (by omega) b⟩,λb=>absurd (by omega) b⟩,λb=>absurd (by omega) b⟩,λb=>absurd (by omega) b⟩;refine ndi ⟨by omega,by omega,s,is⟩ λn b=>?_;let⟨n1,_,b⟩:=b;let⟨p1,E⟩:=b s is;have A:=p1.2 ⟨hV.1,by have:=hV.2.2;omega,hV.2.1⟩;have E:=E A;refine⟨λh=>by omega,λ_=>⟨λ_=>?_,λb=>absurd (by omega) b⟩⟩;rw[eh]at o;simp only[WL]at o;obtain⟨rfl,rfl⟩:=o;rw[k0,k6];exact mmo0 hV M G j hR1 u1 u2
def Rh {P:Aw}{U:Ab}{j:Tau}{F:FB}{s:SS}{e c:Hp}(h:SD P U j F s e)(g:e.d<=c.d)(f:∀b,b<e.d->c.m.l b=e.m.l b):SD P U j F s c:=
 ⟨λb x a=>by obtain⟨i,o,y,d,k,l⟩|d:=h.f b x a;exact .inl ⟨i,o,y,d,by rw[f i<|h.C b i o d];exact k,l⟩;exact .inr d,h.A,λi b a=>by rw[f i<|h.B i b a];exact h.p i b a,λb i o a=>XW (h.C b i o a) g,λi b a=>XW (h.B i b a) g,h.g,h.I,h.N⟩
def coE (i g:Int)(S:a8)(fr k a b c d e f h j:Int)(m N:a8):Au:=[.B 0 (.i i),.B 1<|.i g,.B 2<|.l S,.B 3<|.i fr,.B 4<|.i k,.B 5<|.i a,.B 6<|.i b,.B 7<|.i c,.B 8<|.i d,.B 9<|.i e,.B 10<|.i f,.B 11<|.i h,.B 12<|.i j,.B 13<|.l m,.B 14<|.l N]
def lkA (j h:Int):As:=[.g 2 13 (.w 0) 0,.w [.f .u32 (.w j),.f .u32<|.w h]]
variable {i g j h fr lv c0 c1 c2 c3 c4 c5 c6 c7:Int}{S st N:a8}
def lk_vc {good:SV->List (Nat×Bb C8)->Prop}:(kro PR U0 lf (lkA j h)<|gst fh (coE i g S fr lv c0 c1 c2 c3 c4 c5 c6 c7 st N) 15).q U0 (λr=>good r.1 r.2.h)=Ni (ln S) (Nr (ln S)<|Nd (jJ<|.i j::.i h::JD S fr lv c0 c1 c2 c3 c4 c5 c6 c7 st N) (∀(k:Int) (t:Ae) (a:a8) (x:Ae) (e d:Int) (c:Bool) (pi pg:Int) (ch:a8) (r:Int),R1 (.i j::.i h::JD S fr lv c0 c1 c2 c3 c4 c5 c6 c7 st N) [.i k,.s t,.l a,.s x,.i e,.i d,.b c,.i pi,.i pg,.l ch,.i r]->good (.A [.w [.f .u8 (.B 15<|.i k),.p<|.B 16<|.s t,.m vC (.B 17<|.l a) true,.p<|.B 18<|.s x,.f .i64<|.B 19<|.i e,.f .i64<|.B 20<|.i d,.j<|.B 21<|.b c,.f .u32<|.B 22<|.i pi,.f .u32<|.B 23<|.i pg,.m tHd (.B 24<|.l ch) true],.f .i64<|.B 25<|.i r]) ((5,none)::(gst fh (coE i g S fr lv c0 c1 c2 c3 c4 c5 c6 c7 st N) 15).h))):=by kernel_rfl
end Go.D
namespace Go.D
open Go Go.Xe Go.Sx
def Cm :kf PR tHd=[.int .u32,.int .u32]:=by kernel_rfl
variable {v:Av}
def QJ {F:FB}{n:Int}(h:PV PR F (.int .u32) v (.i n)):v= .int .u32 n:=by cases h;rfl
def VW {F:FB}{D:DM}{l:Ah}(h:PV PR F (.f tHd) v (.l<|l.map<|D4 D.d)):∃q c,v= .slice q l.length c/\HSl D l q λS E=>F S=some E:=by
 generalize hL:l.map (D4 D.d)=L at h;have a:L.length=l.length:=by rw[<-hL];simp
 cases h with
 |N=>exact⟨_,_,by rw[<-a];rfl,λj x g=>by have:=(WM.1 g).1;simp only[YS]at a;omega⟩|L=>exact⟨_,_,by rw[<-a];rfl,λj x g=>by have:=(WM.1 g).1;simp only[YS]at a;omega⟩|sl e i o c b t n z s x I J T U R V Q O=>
  have r:z=2:=by rw[R,Cm];rfl
  subst r;refine⟨_,_,by rw[a],λj y g=>?_⟩;have M:=(WM.1 g).1;have f:L[j]? =(D4 D.d y):=by rw[<-hL];simp[g]
  have K:(j+1)*2<=L.length*2:=WW _ (by omega);have m:∀k d p,(D4 D.d y)[k]? =some d->(kf PR tHd)[k]? =some p->t.l (o+j*2+k)=(x j k)/\PV PR F p (x j k) d:=λk d p u N=>⟨Q j k _ d f u,O j k _ p d f u N⟩
  let⟨w,B⟩:=m 0 _ (.int .u32) rfl (by rw[Cm];rfl);let⟨A,C⟩:=m 1 _ (.int .u32) rfl (by rw[Cm];rfl);refine⟨i,o,b,t,n,_,rfl,I,J,by omega,?_⟩;exact B6 (vs:=hv D y) λq P=>by
   match q,P with
   |0,_=>rw[w,QJ B];rfl|1,_=>rw[A,QJ C];rfl
def len10 {m:Type}{l:List m}(h:l.length=10):∃a b c d e f g i j k,l=[a,b,c,d,e,f,g,i,j,k]:=by
 match l,h with
 | [a,b,c,d,e,f,g,i,j,k],_=>exact⟨a,b,c,d,e,f,g,i,j,k,rfl⟩
def lkG (L:a8)(d:List (Nat×Bb C8))(a:SV)(e:List (Nat×Bb C8)):Prop:=(∃(k:Int) (t:Ae) (c:a8) (x:Ae) (h g:Int) (f:Bool) (pi pg:Int) (r:Int),a= .A [.w [.f .u8 (.B 15<|.i k),.p<|.B 16<|.s t,.m vC (.B 17<|.l c) true,.p<|.B 18<|.s x,.f .i64<|.B 19<|.i h,.f .i64<|.B 20<|.i g,.j<|.B 21<|.b f,.f .u32<|.B 22<|.i pi,.f .u32<|.B 23<|.i pg,.m tHd (.B 24<|.l L) true],.f .i64<|.B 25<|.i r])/\e=d
section
variable {ov :Aa}{i g fr Y c0 c1 c2 c3 c4 c5 c6 c7:Int}{S st N:a8}{X:Tau}{F:FB}{Z:Hp}{u:Av}{D:DM}{K:Nat}
def TM {k m n o p s t u y i b:E}{v:Av}(h:VD PR U0 X F (.A [.w [.f .u8 k,.p m,.m vC n true,.p o,.f .i64 p,.f .i64 s,.j t,.f .u32 u,.f .u32 y,.m tHd i true],.f .i64 b]) v):∃vs:Af,∃r,v= .tuple [.agg vs.toArray,r].toArray/\vs.length=10/\vs.all Value.oneCell'/\ ∃j,vs[9]? =some j/\PV PR F (.f tHd) j (.l<|i.z U0):=by
 cases h with
 |tup l xs d e=>
 match xs,d,e with
 | [x,r],_,e=>
 have w:=e 0 _ _ rfl rfl;cases w with
 |agg l xs d a=>
 obtain⟨O,P,Q,R,S,T,U,V,W,L,rfl⟩:=len10 (show xs.length=10 from d.symm);refine⟨_,r,rfl,rfl,?_,L,rfl,?_⟩
 .have A:=a 0 _ _ rfl rfl;have B:=a 1 _ _ rfl rfl;have C:=a 2 _ _ rfl rfl;have D:=a 3 _ _ rfl rfl;have G:=a 4 _ _ rfl rfl;have H:=a 5 _ _ rfl rfl;have I:=a 6 _ _ rfl rfl;have J:=a 7 _ _ rfl rfl;have K:=a 8 _ _ rfl rfl;have g:=a 9 _ _ rfl rfl;cases A;cases B;cases D;cases G;cases H;cases I;cases J;cases K;cases C with
  |lst _ _ _ _ z _=>
  cases g with
  |lst _ _ _ _ f _=>
  obtain⟨q,c,rfl⟩:=zA z;obtain⟨N,M,rfl⟩:=zA f;rfl
 .have g:=a 9 _ _ rfl rfl;cases g with
  |lst _ _ _ _ f _=>exact f
def Tc (hL:RRO PR U0 ov lf lkF)(hs:SD PR U0 X F (gst fh (coE i g S fr Y c0 c1 c2 c3 c4 c5 c6 c7 st N) 15) Z)(hu:VD PR U0 X F (.g 2 13 (.w 0) 0) u)(w:WF D K)(M:Rl D.d D S N fr Y):Dj ov D Z.d Z.m.l u:=by
 intro c s hp E us hn hk;have z:=Rh hs hn hk;have ac:=w.m;have aa:=(WM.1 E).1;have hg:=w.J s<|WT E;have eg:=YZ E;have C:D.m c (D.d c)=c:=YY E us;have e:VDL PR U0 X F (lkA c<|D.d c) [u,.agg (hv D c).toArray]:= .g hu (.g (.agg _ _ rfl λq a x f e=>by
  match q,f,e with
  |0,f,e=>cases f;cases e;exact .int _ _
  |1,f,e=>cases f;cases e;exact .int _ _
  |q+2,f,e=>simp at f) ZK)
 let⟨a,s',hQ,ad,F',Q,ex,H,v,G,T⟩:=I1 hL (lkA c<|D.d c) _ X F _ hp e z (λr=>lkG (s.n.e.map<|D4 D.d) ((5,none)::(gst fh (coE i g S fr Y c0 c1 c2 c3 c4 c5 c6 c7 st N) 15).h) r.1 r.2.h) (by
  rw[lk_vc (good:=lkG (s.n.e.map<|D4 D.d)<|(5,none)::(gst fh (coE i g S fr Y c0 c1 c2 c3 c4 c5 c6 c7 st N) 15).h)];refine nin<|nrn<|ndi ⟨⟨by omega,by omega⟩,⟨by omega,by omega⟩,D,K,M,w⟩ λk t a x tp sz pn pi pg ch r hL=>⟨⟨k,t,a,x,tp,sz,pn,pi,pg,r,?_⟩,rfl⟩;have hL:if z9 S c (D.d c) then _ else r=11:=hL
  rw[Xg (M.d.2 ⟨c,C⟩)]at hL;let⟨_,_,_,_,_,_,_,_,_,e9,_⟩:=hL;let⟨s2,J,_,_,_,_,_,_,_,_,_,k9⟩:=M.b C;rw[E]at J;cases J;rw[e9,k9]) z
 obtain⟨⟨k,t,a0,x,tp,sz,pn,pi,pg,r,rfl⟩,hh⟩:=hQ;obtain⟨vs,r,rfl,V,ho,v9,h9,p⟩:=TM T;obtain⟨q,cc,rfl,R⟩:=VW p;let⟨l,W,a2,a3,a4,_⟩:=ex.B;have hl:l=[(5,none)]:=by rw[hh]at W;exact(List.append_cancel_right (show [(5,none)]++_=l++_ from W)).symm
 have d:∀b x,(gst fh (coE i g S fr Y c0 c1 c2 c3 c4 c5 c6 c7 st N) 15).f b=some x->b∈l.map Prod.fst->False:=λb x O I=>by have ab:b<5:=z.w O;rw[hl]at I;simp at I;omega
 refine⟨Q,vs,r,q,cc,G,ex.q,λb O=>a2 b O λb' x o h _ I=>d b' x h I,V,ho,h9,λj y hj=>?_⟩;let⟨A,oc,B,dc,nc,zc,e1,L,e3⟩:=R j y hj;refine⟨A,oc,B,dc,nc,zc,e1,⟨H.p A B L,H.B A B L,?_⟩,e3⟩;by_cases hi:hp.d<=A;exact .inr hi
 .refine .inl ?_;obtain h| ⟨b,o,h1,h2⟩:=a4 A B (by omega) L;exact hs.B A B h
  .rw[hl]at h2;have P:b=5:=by simpa using h2
   subst P;obtain h| ⟨b0,x,o0,J,_,k3⟩:=a3 5 A o (Xh 5) h1;omega;exact(d b0 x J k3).elim
end
end Go.D
namespace Go.D
open Go Go.Xe Go.Sx
def Pf:=uL
def wU :Ar->Ar->Prop
 | [.i k,.s t,.s y,.l a,.s x,.l c],[.i n]=>∀s:c8,isT s k t y a x c->(A9 s->n=s.h)/\(¬A9 s->n=0)|_,_=>False
def cCnt:=mkC "cnt" [nV] Pf [iV] wU
def OC:=eD
def Ms :Nat->List (Ay×Con)
 |_=>dX 3
def Tm :Nat->Aw->E4:=λ_ _=>[]
def ndE (t:c8)(k:Nat):Au:=[.B k (.i t.k),.B (k+1)<|.s t.t,.B (k+2)<|.s t.y,.B (k+3)<|.l<|t.a.map Att.d,.B (k+4)<|.s t.x,.B (k+5)<|.l<|rows t.c]
def ndV (t:c8)(k:Nat):SV:= .w [.f .u8 (.B k<|.i t.k),.p<|.B (k+1)<|.s t.t,.p<|.B (k+2)<|.s t.y,.m tAt (.B (k+3)<|.l<|t.a.map Att.d) false,.p<|.B (k+4)<|.s t.x,.m tN (.B (k+5)<|.l<|rows t.c) false]
def ndD (t:c8):Ar:=[.i t.k,.s t.t,.s t.y,.l<|t.a.map Att.d,.s t.x,.l<|rows t.c]
def len6 {g:Type}{l:List g}(h:l.length=6):∃a b c d e f,l=[a,b,c,d,e,f]:=by
 match l,h with
 | [a,b,c,d,e,f],_=>exact⟨a,b,c,d,e,f,rfl⟩
def len1 {b:Type}{l:List b}(h:l.length=1):∃a,l=[a]:=by
 match l,h with
 | [a],_=>exact⟨a,rfl⟩
def TL {w:Tau}{F:FB}{t:c8}{vs:Af}(k:Nat)(v:vs.length=6)(h:NT F t (λq=>vs[q]?)):VD PR U0 w F (ndV t k) (.agg vs.toArray):=by
 obtain⟨a,b,c,d,e,f,rfl⟩:=len6 v;let⟨⟨n,o,p,⟨y,r,l⟩,s⟩,z,u,m⟩:=h;cases n;cases o;cases p;cases r;cases s;cases u;refine .agg _ _ rfl λi a x j g=>?_
 match i,j,g with
 |0,j,g=>cases j;cases g;exact .int _ _
 |1,j,g=>cases j;cases g;exact .str _
 |2,j,g=>cases j;cases g;exact .str _
 |3,j,g=>cases j;cases g;exact .lst _ _ _ _ l (λh=>by cases h)
 |4,j,g=>cases j;cases g;exact .str _
 |5,j,g=>cases j;cases g;exact .lst _ _ _ _ m (λh=>by cases h)
 |i+6,j,g=>simp at g
def Qs {y:Tau}{F:FB}{t:c8}{v:Av}{a0 a1 a2 a3 a4 a5:E}(m:isT t (a0.j U0) (a1.A U0).g (a2.A U0).g (a3.z U0) (a4.A U0).g (a5.z U0))(h:VD PR U0 y F (.w [.f .u8 a0,.p a1,.p a2,.m tAt a3 false,.p a4,.m tN a5 false]) v):∃c:Af,v= .agg c.toArray/\c.length=6/\NT F t (λq=>c[q]?):=by
 let⟨d,e,f,g,i,j⟩:=m;cases h with
 |agg l xs k b=>
 obtain⟨z,A,B,w,C,x,rfl⟩:=len6 (show xs.length=6 from k.symm);have n:=b 0 _ _ rfl rfl;have o:=b 1 _ _ rfl rfl;have p:=b 2 _ _ rfl rfl;have r:=b 3 _ _ rfl rfl;have s:=b 4 _ _ rfl rfl;have u:=b 5 _ _ rfl rfl;refine⟨_,rfl,rfl,⟨?_,?_,?_,⟨w,rfl,?_⟩,?_⟩,x,rfl,?_⟩;cases n;rw[<-d];rfl;cases o;rw[<-e];rfl;cases p;rw[<-f];rfl
 .cases r with
  |lst _ _ _ _ a _=>rw[<-g];exact a
 cases s;rw[<-i];rfl
 .cases u with
  |lst _ _ _ _ a _=>rw[<-j];exact a
section
variable {O :Aa}{F:FB}{S:Hp}{s:c8}{N:Af}
def SH (l:j3 PR U0 O cCnt nF)(k:FH F S)(g:N.length=6)(h:NT F s (λq=>N[q]?)):∃a n,P0 PR O nF [.agg N.toArray] S (i64 n) a/\F9 S a/\(∀j,j<S.d->a.m.l j=S.m.l j)/\(A9 s->n=s.h)/\(¬A9 s->n=0):=by let⟨v,f,a,b,r,t,x,y,z,u,w,c,d⟩:=l.a rfl rfl rfl rfl (es:=ndE s 0) rfl (show uL (ndD s)from⟨s,rfl,rfl,rfl,rfl,rfl,rfl⟩) k (xs:=[.agg N.toArray]) (show VDL PR U0 _ F [ndV s 0] _ from .g (TL 0 g h) ZK);obtain⟨e,rfl⟩:=len1 (show b.length=1 from w);have d:VD PR U0 (λ_=>none) f (.f .i64<|.B 0<|.i<|e.j U0) v:=d;cases d;let⟨o,p⟩:=c s ⟨rfl,rfl,rfl,rfl,rfl,rfl⟩;exact⟨a,e.j U0,r,t,u,o,p⟩
def Uw (s:c8):Ak:=[(s.h:Int),s.h,0,(s.h:Int)-1,0,0,eE s,0]
def Pj (bb:Xe.isT (O cF)=false)(bc:Xe.isT (O aF)=false)(am:Xe.isT (O aG)=false)(hk:j3 PR U0 O cCnt nF)(hF:FH F S)(h6:N.length=6)(h:NT F s (λq=>N[q]?)):∃B a b c d e f g z r,P0 PR O cF [.agg N.toArray] S (.tuple #[.agg #[i64 a,i64 b,i64 c,i64 d,i64 e,i64 f,i64 g,i64 z],i64 r]) B/\S.d<=B.d/\(∀j,j<S.d->B.m.l j=S.m.l j)/\(A9 s->[a,b,c,d,e,f,g,z]=Uw s/\r=0)/\(¬A9 s->[a,b,c,d,e,f,g,z]=[0,0,0,0,0,0,0,0]/\r=14):=by
 let⟨D,H,X0,q1,q2,e1⟩:=c_0 (V:=O) (R:=none) (Z:=S) (Y:=fill .e 0 [.agg N.toArray]) (Q:=λD h1=>D.l 1=some (.pointer<|some ⟨S.d,0,none⟩)/\D.l 2=some (.pointer<|some ⟨S.d+1,0,none⟩)/\h1=⟨(S.m.m S.d<|some<|.cells (fill .e 0 N) 6 tN 6).m (S.d+1)<|some<|.cells zCB 8 tC 8,S.d+2⟩) (by rw[u5 _ _<|by simp];rfl) h6 λD a b=>⟨a,b,rfl⟩
 have g1:∀b,b<S.d->H.m.l b=S.m.l b:=λb w=>by rw[e1];show((S.m.m S.d _).m (S.d+1) _).l b=_;rw[ZD,af,ZD,af]
 have ai:H.m.l S.d=some (.cells (fill .e 0 N) 6 tN 6):=by rw[e1];show((S.m.m S.d _).m (S.d+1) _).l S.d=_;rw[ZD,af,ZD,Xg rfl]
 have ax:H.m.l (S.d+1)=some (.cells zCB 8 tC 8):=by rw[e1];show((S.m.m S.d _).m (S.d+1) _).l (S.d+1)=_;rw[ZD,Xg rfl]
 have bl:H.d=S.d+2:=by rw[e1]
 have ba:FH F H:=λx y hx=>by let⟨a1,a2⟩:=hF x y hx;exact⟨by rw[g1 x a2];exact a1,by omega⟩
 let⟨be,n,XN,aq,g2,nV,nN⟩:=SH hk ba h6 h;have bm:=aq.d;have an:j8 (fill .e 0 N) 0 6=some N:=xZ h6;let⟨E,K,X1,au,q4,e2⟩:=c_1 (V:=O) (R:=none) (Y:=D) (n:=n) (Q:=λE h2=>(∀x,x<3->E.l x=D.l x)/\E.l 4=some (i64 n)/\h2=be) q1 ai an XN aq λE a b=>⟨a,b,rfl⟩
 subst e2;let⟨A,k,X2,ab,I,e3⟩:=c_2 (V:=O) (R:=none) (Y:=E) (Z:=K) (n:=n) (Q:=λA h3=>(∀x,x<5->A.l x=E.l x)/\A.l 10=some (.bool<|decide<|n=0)/\h3=K) q4 λA a b=>⟨a,b,rfl⟩
 subst e3;have t1:A.l 1=some (.pointer<|some ⟨S.d,0,none⟩):=by rw[ab 1<|by decide,au 1<|by decide];exact q1
 have t2:A.l 2=some (.pointer<|some ⟨S.d+1,0,none⟩):=by rw[ab 2<|by decide,au 2<|by decide];exact q2
 have gb:k.m.l S.d=some (.cells (fill .e 0 N) 6 tN 6):=(g2 _<|by omega).trans ai;have gc:k.m.l (S.d+1)=some (.cells zCB 8 tC 8):=(g2 _<|by omega).trans ax;have go:∀b,b<S.d->k.m.l b=S.m.l b:=λb w=>(g2 b<|by omega).trans<|g1 b w;have ah:∀(J:Ao) (B:Hp) (cs:Ao) (vs:Af) (r:Int),XK PR O none 26 (D3 PR cF) (fill .e 0 [.agg N.toArray]) S .ret J B->J.l 2=some (.pointer<|some ⟨S.d+1,0,none⟩)->J.l 3=(i64 r)->B.m.l (S.d+1)=some (.cells (fill cs 0 vs) 8 tC 8)->vs.length=8->(∀b,b<S.d->B.m.l b=S.m.l b)->
   ∃l,P0 PR O cF [.agg N.toArray] S (.tuple #[.agg vs.toArray,i64 r]) l/\S.d<=l.d/\ ∀j,j<S.d->l.m.l j=S.m.l j:=λJ B cs vs r X u2 u3 ug v8 uo=>by
  have hl:j8 (fill cs 0 vs) 0 8=some vs:=by have:=B6 (c:=fill cs 0 vs) (vs:=vs) (o:=0) (λq hq=>by rw[j6,Xg ⟨by omega,by omega⟩];congr 1;omega);rwa[v8]at this
  let⟨l,r1,r2,r3,r4⟩:=Z0 (Y:=O) (args:=[.agg N.toArray]) (c:=D3 PR cF) c_fn (by kernel_rfl) bb (show XK PR O none (1+(Go.Proofs.Tryz.f23.ntmps-1)) _ _ _ _ _ _ from(show 1+(Go.Proofs.Tryz.f23.ntmps-1)=26 from by kernel_rfl)▸X) (.inr rfl) (vs:=[.agg vs.toArray,i64 r]) (λh2 av=>by
   have e:Go.Proofs.Tryz.f23.results.toList=[.cell 2 tC,.tmp 3]:=by kernel_rfl
   rw[e];have g:h2.m.l (S.d+1)=some (.cells (fill cs 0 vs) 8 tC 8):=by rw[av _ (by rw[ug];exactλh=>by cases h)];exact ug
   have:=ld_C (m:=h2.m) (nx:=h2.d) (o:=0) g (by omega) hl;simp only[I6,Z3,u2,u3,XB];rw[show G4 PR h2 tC (.pointer<|some ⟨S.d+1,0,none⟩)=some (.agg vs.toArray)from this])
  refine⟨l,r1,by rw[r2];exact X.k.d,λj hj=>?_⟩;by_cases M:S.m.l j=some .dfr;rw[r4.b j hj M,M];rw[r3 j<|by rw[uo j hj];exact M,uo j hj]
 by_cases v:A9 s
 .have hn:=nV v;have bk:=v.2.1;have bj:=G8 s;rw[Yr<|by omega]at I;have bi:=vF s v.1;let⟨t,l,X4,ac,q5,e4⟩:=c_4 (V:=O) (R:=none) (Y:=A) (Z:=k) (Q:=λt h4=>(∀x,x<5->t.l x=A.l x)/\t.l 5=some (.pointer<|some ⟨k.d,0,none⟩)/\h4=⟨(k.m.m k.d<|some<|.cells zW 1 tW 1).m k.d<|some<|.cells (fill zW 0 [i64 0]) 1 tW 1,k.d+1⟩) λt a b=>⟨a,b,rfl⟩
  have g4:∀b,b<k.d->l.m.l b=k.m.l b:=λb w=>by rw[e4];show((k.m.m k.d _).m k.d _).l b=_;rw[ZD,af,ZD,af]
  have aj:l.m.l k.d=some (.cells (fill zW 0 [i64 0]) 1 tW 1):=by rw[e4];show((k.m.m k.d _).m k.d _).l k.d=_;rw[ZD,Xg rfl]
  have bn:l.d=k.d+1:=by rw[e4]
  let⟨ao,XG,bo,ay,g5⟩:=KS (W:=O) (Z:=l) am h6;have bg:F9 l ao:=⟨by omega,λb w h=>by rw[g5 b w];exact h⟩
  let⟨u,i,X5,ad,bh,e5⟩:=c_5 (V:=O) (R:=none) (Y:=t) (Q:=λu h5=>(∀x,x<6->u.l x=t.l x)/\u.l 13=some (.func (.func aF) #[] #[.pointer (some ⟨l.d,0,none⟩)])/\h5=ao) (by rw[ac 1<|by decide];exact t1) (by rw[g4 _<|by omega];exact gb) an XG bg λu a b=>⟨a,b,rfl⟩
  subst e5;have aw:u.l 5=some (.pointer<|some ⟨k.d,0,none⟩):=by rw[ad 5<|by decide];exact q5
  let lp:Blk:= .loop .ready none 26 u #[14] cR6 cBo i.d
  let p:Hp:=⟨(i.m.m i.d<|some .dfr).m (i.d+1)<|some lp,i.d+2⟩
  have g6:∀b,b<i.d->p.m.l b=i.m.l b:=λb w=>by show((i.m.m i.d _).m (i.d+1) _).l b=_;rw[ZD,af,ZD,af]
  have az:p.m.l i.d=some .dfr:=by show((i.m.m i.d _).m (i.d+1) _).l i.d=_;rw[ZD,af,ZD,Xg rfl]
  have al:p.m.l (i.d+1)=lp:=by show((i.m.m i.d _).m (i.d+1) _).l (i.d+1)=_;rw[ZD,Xg rfl]
  have bp:p.d=i.d+2:=rfl;have ak:∀b,b<k.d->p.m.l b=k.m.l b:=λb w=>by rw[g6 b<|by omega,g5 b<|by omega,g4 b w]
  have RI:=MP (ov:=O) (F:=F) (s:=s) (j:=i.d+1) (Y:=k.d) (V:=i.d) (W:=p) (Z:=u) (by omega) al (by omega) (by omega) (by omega) aw;have S6:St (λb=>b=k.d) p.d p.m.l (Uv s k.d) 0 p:=⟨Xh _,λ_ _ _=>rfl,fill zW 0 [i64 0],by rw[g6 _<|by omega,g5 _<|by omega];exact aj,by rw[j6,Xg ⟨by omega,by simp⟩];rfl⟩
  obtain⟨C,XA,S7,K7⟩:=OA bc am s.h s (Xh _) (by omega) (i.d+1) p.d 0 l.d _ p.m.l _ _ F p (fill .e 0 N) RI S6 (by rw[g6 _<|by omega];exact ay) (by omega) (λe=>by omega) (by rw[FX];exact h)
   (λx z hx=>by obtain⟨a1,a2⟩:=hF x z hx;exact⟨by rw[ak x<|by omega,go x a2];exact a1,by omega,λe=>by omega⟩)
   (λq m us hq hu hm=>⟨m,us,by rw[Xq];exact hq,rfl,hu,hm⟩)
  have n7:=S7.r;have o7:∀b,b<p.d->b≠k.d->C.m.l b=p.m.l b:=λb w hw=>S7.d b w hw;have XR:XK PR O none 26 (.rangeFunc (.tmp 13) #[14] cR6 cBo) u i .normal u ⟨C.m.m (i.d+1) none,C.d⟩:=XK.j (evt bh) a_fn a_ok XA ((o7 _ (by omega)<|by omega).trans az) ((o7 _ (by omega)<|by omega).trans al) (by omega) λb w M=>by
   have hw:b≠k.d:=λe=>by rw[e,g5 _<|by omega,aj]at M;cases M
   rw[o7 b (by omega) hw,g6 b w];exact M
  have ae:=S7.j;rw[Xq]at ae;obtain⟨cw,hw,hg⟩:=ae;let L:Hp:=⟨C.m.m (i.d+1) none,C.d⟩
  have g8:∀b,b≠i.d+1->L.m.l b=C.m.l b:=λb w=>by show(C.m.m (i.d+1) none).l b=_;rw[ZD,Xd w]
  have o8:∀b,b<k.d->L.m.l b=k.m.l b:=λb w=>by rw[g8 b<|by omega,o7 b (by omega)<|by omega,ak b w]
  rw[OP]at hg;obtain⟨G,ap,X8,u2,u3,e9⟩:=c_8 (V:=O) (R:=none) (Y:=u) (Z:=L) (U:=S.d+1) (P:=k.d) (n:=n) (Q:=λG h9=>G.l 2=some (.pointer<|some ⟨S.d+1,0,none⟩)/\G.l 3=(i64 0)/\h9=⟨L.m.m (S.d+1)<|some<|.cells (fill zCB 0 [i64 n,i64 n,i64 0,i64<|n-1,i64 0,i64 0,i64<|eE s,i64 0]) 8 tC 8,L.d⟩)
   (by rw[ad 2<|by decide,ac 2<|by decide];exact t2) (by rw[ad 4<|by decide,ac 4<|by decide,ab 4<|by decide];exact q4) aw (by rw[o8 _<|by omega];exact gc) (by rw[g8 _<|by omega];exact hw) hg (by omega) (by omega) λG a b=>⟨a,b,rfl⟩
  have X:XK PR O none 26 (D3 PR cF) (fill .e 0 [.agg N.toArray]) S .ret G ap:=by rw[Pa];exact X0.a<|X1.a<|XK.a (X2.a<|XK.d (evt I) .h)<|X4.a<|XK.a (X5.a<|XK.b XR)<|X8.a .n
  obtain⟨aa,z1,z2,z3⟩:=ah G ap zCB _ 0 X u2 u3 (by rw[e9];show(L.m.m (S.d+1) _).l (S.d+1)=_;rw[ZD,Xg rfl]) rfl λb w=>by rw[e9];show(L.m.m (S.d+1) _).l b=_;rw[ZD,af,o8 b<|by omega,go b w]
  refine⟨aa,n,n,0,n-1,0,0,eE s,0,0,z1,z2,z3,λ_=>⟨?_,rfl⟩,λnv=>absurd v nv⟩;unfold Uw;rw[hn]
 .have hn:=nN v;rw[decide_eq_true hn]at I;obtain⟨t,l,X3,u2,u3,e4⟩:=c_3 (V:=O) (R:=none) (Y:=A) (Z:=k) (Q:=λt h4=>t.l 2=some (.pointer<|some ⟨S.d+1,0,none⟩)/\t.l 3=(i64 14)/\h4=⟨k.m.m (S.d+1)<|some<|.cells (fill zCB 0 [i64 0,i64 0,i64 0,i64 0,i64 0,i64 0,i64 0,i64 0]) 8 tC 8,k.d⟩) t2 gc λt a b=>⟨a,b,rfl⟩
  have X:XK PR O none 26 (D3 PR cF) (fill .e 0 [.agg N.toArray]) S .ret t l:=by rw[Pa];exact X0.a<|X1.a<|XK.r (X2.a<|XK.i (evt I)<|X3.a .n) (λh=>by cases h)
  obtain⟨aa,z1,z2,z3⟩:=ah t l zCB _ 14 X u2 u3 (by rw[e4];show(k.m.m (S.d+1) _).l (S.d+1)=_;rw[ZD,Xg rfl]) rfl λb w=>by rw[e4];show(k.m.m (S.d+1) _).l b=_;rw[ZD,af,go b w]
  exact⟨aa,0,0,0,0,0,0,0,0,14,z1,z2,z3,λhv=>absurd hv v,λ_=>⟨rfl,rfl⟩⟩
end
end Go.D
namespace Go.D
open Go Go.Xe Go.Sx
section
variable {τ :Tau}{F:FB}{s:SS}{bl:Ah}
def aX {k:IntKind}{e:E}:LOK PR U0 bl τ F s (.g<|.int k) (.f k e) (some e,none):=by refine⟨λl h=>⟨e,rfl⟩,λh=>(by cases h),λ_=>rfl,λu b f c j d _ a _=>?_,λh=>absurd rfl h⟩;cases b;rw[a e .i rfl rfl];exact .int _ _
end
def len9 {k:Type}{l:List k}(h:l.length=9):∃a b c d e f g i j,l=[a,b,c,d,e,f,g,i,j]:=by
 match l,h with
 | [a,b,c,d,e,f,g,i,j],_=>exact⟨a,b,c,d,e,f,g,i,j,rfl⟩
variable {Z :Aa}
def Wb (H:Xe.isT (Z cF)=false)(I:Xe.isT (Z aF)=false)(J:Xe.isT (Z aG)=false)(hk:j3 PR U0 Z cCnt nF):RRO PR U0 Z cCos cF:=by
 intro G p m τ F Q xs E j;obtain⟨v,w,A,B,C,D,rfl⟩:=len6 (show G.length=6 from p);let⟨s,u⟩:=m;have E:SD PR U0 τ F ⟨[],0,[],6,[]⟩ Q:=E;have P:FH F Q:=λq b h=>⟨E.p q b h,E.B q b h⟩
 obtain⟨v0,O,rfl,w0,j⟩:=VDL.f j;have L:O=[]:=WP j.1.symm;subst L;obtain⟨vs,rfl,h6,hR⟩:=Qs (a0:= .B 0 (.i<|v.j U0)) (a1:= .B 1 (.s (w.A U0).g)) (a2:= .B 2 (.s (A.A U0).g)) (a3:= .B 3 (.l<|B.z U0)) (a4:= .B 4 (.s (C.A U0).g)) (a5:= .B 5 (.l<|D.z U0)) u w0;let⟨t,a,b,c,d,e,f,g,z,r,x1,x2,R,x4,x5⟩:=Pj H I J hk P h6 hR;have o:FH F t:=λq b h=>by let⟨M,N⟩:=P q b h;exact⟨by rw[R q N];exact M,by omega⟩
 refine⟨_,F,t,[.B 0 (.i a),.B 1<|.i b,.B 2<|.i c,.B 3<|.i d,.B 4<|.i e,.B 5<|.i f,.B 6<|.i g,.B 7<|.i z,.B 8<|.i r],λ_=>none,⟨[],0,[],0,[]⟩,
  [.f .i64 (.B 0<|.i a),.f .i64<|.B 1<|.i b,.f .i64<|.B 2<|.i c,.f .i64<|.B 3<|.i d,.f .i64<|.B 4<|.i e,.f .i64<|.B 5<|.i f,.f .i64<|.B 6<|.i g,.f .i64<|.B 7<|.i z,.f .i64<|.B 8<|.i r],
  [i64 a,i64 b,i64 c,i64 d,i64 e,i64 f,i64 g,i64 z,i64 r],[],x1,x2,λ_ _ h=>h,λi y h=>o i y h,R,λi y _ h=>h,rfl,?_,SD.a o 0,?_,?_,λb hb=>by simp at hb,rfl,rfl,?_⟩
 .show IG [.i (v.j U0),.s (w.A U0).g,.s (A.A U0).g,.l<|B.z U0,.s (C.A U0).g,.l<|D.z U0] [.i a,.i b,.i c,.i d,.i e,.i f,.i g,.i z,.i r];intro s' K;have G:s'=s:=by let⟨S,T,U,V,W,X⟩:=u;let⟨k0,M,N,k3,k4,k5⟩:=K;exact qR (k0.symm.trans S) (M.symm.trans T) (N.symm.trans U) (P1<|k3.symm.trans V) (k4.symm.trans W) (bD.mp<|k5.symm.trans X)
  rw[G];exact⟨x4,x5⟩
 exact⟨_,_,[],rfl,rfl,aX,_,_,[],rfl,rfl,aX,_,_,[],rfl,rfl,aX,_,_,[],rfl,rfl,aX,_,_,[],rfl,rfl,aX,_,_,[],rfl,rfl,aX,_,_,[],rfl,rfl,aX,_,_,[],rfl,rfl,aX,_,_,[],rfl,rfl,aX,rfl,rfl⟩;exact .g (.int _ _)<|.g (.int _ _)<|.g (.int _ _)<|.g (.int _ _)<|.g (.int _ _)<|.g (.int _ _)<|.g (.int _ _)<|.g (.int _ _)<|.g (.int _ _) ZK
 .intro aa gl n;obtain⟨Y,g1,g2,g3,g4,g5,g6,g7,g8,rfl⟩:=len9 (show gl.length=9 from n.1);refine .tup [.w [Y,g1,g2,g3,g4,g5,g6,g7],g8] [_,_] rfl λi a x k j=>?_
  match i,k,j with
  |0,k,j=>
   cases k;cases j;refine .agg _ _ rfl λi a x k j=>?_
   match i,k,j with
   |0,k,j=>exact n.2 0 a x k j|1,k,j=>exact n.2 1 a x k j|2,k,j=>exact n.2 2 a x k j|3,k,j=>exact n.2 3 a x k j|4,k,j=>exact n.2 4 a x k j|5,k,j=>exact n.2 5 a x k j|6,k,j=>exact n.2 6 a x k j|7,k,j=>exact n.2 7 a x k j|i+8,k,j=>simp at j
  |1,k,j=>exact n.2 8 a x k j|i+2,k,j=>simp at j
end Go.D
namespace Go.D
open Go Go.Xe Go.Sx
section
variable {i g fr lv c0 c1 c2 c3 c4 c5 c6 c7:Int}{S st N:a8}
def co_b0 :(gst fh (coE i g S fr lv c0 c1 c2 c3 c4 c5 c6 c7 st N) 15).f 0=some (.f [.f .u32 (.B 0<|.i i),.f .u32<|.B 1<|.i g] tHd 2):=by kernel_rfl
def co_b1 :(gst fh (coE i g S fr lv c0 c1 c2 c3 c4 c5 c6 c7 st N) 15).f 1=some (.f [.g 2 13 (.w 0) 0] tDp 1):=by kernel_rfl
def co_ar :eL fh (coE i g S fr lv c0 c1 c2 c3 c4 c5 c6 c7 st N)=[.H (.func bF) [] [.g 0 2 (.w 0) 0,.g 1 1 (.w 0) 0]]:=by kernel_rfl
end
section
variable {τ :Tau}{F:FB}{s:SS}{bl:Ah}
def Tb {t:Ax}{e:E}:LOK PR U0 bl τ F s (.g<|.lst t) (.m t e false) (some e,none):=by
 refine⟨λk h=>⟨e,rfl⟩,λh=>(by cases h),λ_=>rfl,λu c i f j d _ b _=>?_,λh=>absurd rfl h⟩;have h:e.z U0=d.z U0:=b e .l rfl rfl;cases c with
 |lst _ _ _ _ a _=>rw[h]at a;exact .lst _ _ _ _ a (λh=>by cases h)
end
variable {v:Av}
def RT {a:Tau}{F:FB}{b z:Nat}(h:VD PR U0 a F (.g b z (.w 0) 0) v):∃i o,v= .pointer (some ⟨i,o,none⟩)/\a b=some (some (i,o)):=by
 cases h with
 |ptr _ _ _ _ i o h c=>exact⟨i,o,by rw[show o+(E.w 0).r U0*z+0=o by show o+0*z+0=o;omega],h⟩
def IK {D:DM}:∀ {l:Ah} {r k y:Nat},l[r]? =y->k<2->(l.flatMap<|hv D)[r*2+k]? =(hv D y)[k]?
 | [],r,k,y,h,_=>by simp at h|a::l,0,k,y,h,b=>by simp at h;subst h;rw[List.flatMap_cons,WS<|by rw[IU];omega];congr 1;omega|a::l,r+1,k,y,h,b=>by rw[List.flatMap_cons,WR<|by rw[IU];omega,IU,show(r+1)*2+k-2=r*2+k by omega];exact IK (by simpa using h) b
variable {D:DM}
def VZ {F:FB}{p:FB}{l:Ah}{q:Ai}(h:SlK p v l.length (l.flatMap<|hv D) q)(o:l.length<=67108864)(A:∀r,q=some r->F r=p r):PV PR F (.f tHd) v (.l<|l.map<|D4 D.d):=by
 obtain⟨n,rfl,_,_⟩| ⟨n,r,c,rfl,u,w,z⟩:=h;rw[List.length_eq_zero_iff.1 n];exact .N _
 .obtain⟨H,E⟩:=u7 w;have m:=PV.sl (P:=PR) (F:=F) tHd r 0 (i4 l.length 0) (.cells c (l.length*2) tHn 2) c (l.length*2) 2 (zb:=2) (l.map<|D4 D.d) (λa k=>((l.flatMap<|hv D)[a*2+k]?).getD undef) ((A r z).trans u) rfl ⟨.inr ⟨l.length,rfl,o,by rw[Xc];exact o⟩,roC.mk⟩ (by rw[Xc];omega) (by rw[Cm];rfl)
   (λx B=>by obtain⟨y,_,rfl⟩:=Yw.1 B;rfl)
   (λa k row d g f=>by
    obtain⟨y,G,rfl⟩:=Yw.1<|WT g;have e:a<l.length:=by have:=(WM.1 g).1;rwa[Xc]at this
    have b:k<2:=(WM.1 f).1;show c.l (0+a*2+k)=(((l.flatMap<|hv D)[a*2+k]?).getD undef);rw[show 0+a*2+k=0+(a*2+k) by omega,<-(E (a*2+k) (by omega)),IK (D:=D) (WV e) b,WV (show k<(hv D l[a]).length from b)];rfl)
   (λa k row C d g f b=>by
    have e:a<l.length:=by have:=(WM.1 g).1;rwa[Xc]at this
    have i:k<2:=by have:=(WM.1 b).1;rwa[Cm]at this
    have j:row=D4 D.d l[a]:=by rw[XQ,WV e]at g;simpa using g.symm
    subst j;rw[Cm]at b;show PV PR F C (((l.flatMap<|hv D)[a*2+k]?).getD undef) d;rw[IK (WV e) i]
    match k,i,f,b with
    |0,_,f,b=>cases f;cases b;exact .int _ _
    |1,_,f,b=>cases f;cases b;exact .int _ _)
  rwa[Xc]at m
def Vn {K c:Nat}{s:Sl}(w:WF D K)(a:D.L[c]? =s)(b:s.d):(bel D 1001 c).length<=1000:=by
 have:bel D 1001 c ⊆ List.range D.L.length:=λj d=>by let⟨_,e,k,_⟩:=M5 w a b j d;exact List.mem_range.2 (WM.1 k).1
 have:=(O4 w a b (f:=1001)).length_le_of_subset this;have:=w.m;simp at*;omega
def La {D':DM}{S N:a8}{fr F l m:Int}{K t:Nat}(p:Rl D.d D S N fr F)(h:Rl D'.d D' S N l m)(w:WF D K)(M:WF D' t):∀(f c:Nat) (s:Sl),D.L[c]? =some s->s.d=true->D'.d c=D.d c/\bel D' f c=bel D f c:=by
 have g:∀(c:Nat) (s:Sl),D.L[c]? =some s->s.d->D'.m c (D.d c)=some c:=λc s a b=>by let⟨k,q⟩:=h.d.1<|p.d.2 ⟨c,YY a b⟩;let⟨_,_,_,e,_⟩:=YX q;rw[q];congr 1;omega
 have d:∀(c:Nat) (s:Sl),D.L[c]? =some s->s.d->D'.d c=D.d c:=λc s a b=>by let⟨J,z,_,_,I⟩:=YX<|g c s a b;rw[YZ z];omega
 intro f;induction f with
 |zero=>exactλc s a b=>⟨d c s a b,rfl⟩
 |succ f B=>
  intro c s a b;refine⟨d c s a b,?_⟩;obtain⟨s1,o,_,u,_,_,_,_,_,_,_,v⟩:=p.b<|YY a b;obtain⟨s2,H,_,x,_,_,_,_,_,_,_,y⟩:=h.b<|g c s a b;rw[a]at o;cases o;have e:s2.n.e=s.n.e:=by have:=congrArg (List.map λr:Ar=>(r.getD 0<|.i 0).j.toNat)<|y.symm.trans v;simpa [List.map_map,Function.comp_def,D4,Dat.j]using this
  unfold bel;rw[u,x,e];congr 1;rw[List.flatMap_def,List.flatMap_def];congr 1;refine List.map_congr_left λj A=>?_;obtain⟨G,C,E,_⟩:=(w.A c s a b).2 j A;exact(B j G C E).2
def len15 {r:Type}{l:List r}(h:l.length=15):∃a b c d e f g i j k m n o p q,l=[a,b,c,d,e,f,g,i,j,k,m,n,o,p,q]:=by
 match l,h with
 | [a,b,c,d,e,f,g,i,j,k,m,n,o,p,q],_=>exact⟨a,b,c,d,e,f,g,i,j,k,m,n,o,p,q,rfl⟩
variable {Z :Aa}
def r_co2 (aa:Xe.isT (Z oF)=false)(ab:Xe.isT (Z sF)=false)(X:Xe.isT (Z bF)=false)(Y:Xe.isT (Z bG)=false)(hL:RRO PR U0 Z lf lkF):RRO PR U0 Z fh oF:=by
 intro es G H τ F hp xs a g;obtain⟨I,J,O,P,Q,R,S,T,U,V,j,k,n,o,p,rfl⟩:=len15 (show es.length=15 from G);let⟨ui,ug,⟨D,K,M,w⟩,ad⟩:=(show IF [.i (I.j U0),.i<|J.j U0,.l<|O.z U0,.i<|P.j U0,.i<|Q.j U0,.i<|R.j U0,.i<|S.j U0,.i<|T.j U0,.i<|U.j U0,.i<|V.j U0,.i<|j.j U0,.i<|k.j U0,.i<|n.j U0,.l<|o.z U0,.l<|p.z U0]from H)
 have a:SD PR U0 τ F (gst fh (coE (I.j U0) (J.j U0) (O.z U0) (P.j U0) (Q.j U0) (R.j U0) (S.j U0) (T.j U0) (U.j U0) (V.j U0) (j.j U0) (k.j U0) (n.j U0) (o.z U0)<|p.z U0) 15) hp:=a;have g:VDL PR U0 τ F (eL fh<|coE (I.j U0) (J.j U0) (O.z U0) (P.j U0) (Q.j U0) (R.j U0) (S.j U0) (T.j U0) (U.j U0) (V.j U0) (j.j U0) (k.j U0) (n.j U0) (o.z U0)<|p.z U0) xs:=g;rw[co_ar]at g;obtain⟨v0,ai,rfl,w0,g⟩:=VDL.f g;have ae:ai=[]:=WP g.1.symm;subst ae;cases w0 with
 |fn f l m ys zs h1 h2 h3 L=>
 have ah:ys=[]:=WP h1.symm;subst ah
 match zs,h3,L with
 | [p0, p1], _, L =>
 obtain⟨b,oq,rfl,tb⟩:=RT<|L 0 _ _ rfl rfl;obtain⟨bd,od,rfl,td⟩:=RT<|L 1 _ _ rfl rfl;obtain⟨b',ao,y0,t0,m0,_,cs,nb,rfl,n0,g0⟩| ⟨_,_,_,_,_,h,_⟩:=a.f 0 _ co_b0;case inr=>cases h
 rw[tb]at t0;cases t0;obtain⟨ak,ap,y1,t1,m1,_,cd,nd,rfl,n1,g1⟩| ⟨_,_,_,_,_,h,_⟩:=a.f 1 _ co_b1;case inr=>cases h
 rw[td]at t1;cases t1;let⟨x0,k0,w0⟩:=g0 0 _ rfl;let⟨x1,N,w1⟩:=g0 1 _ rfl;let⟨u,ku,wu⟩:=g1 0 _ rfl;cases w0;cases w1;obtain⟨i',o',hu,_⟩:=RT wu;obtain⟨c,hc⟩:=M.d.1 ad;obtain⟨s,s1,s2,s3,s4⟩:=YX hc;have e1:E.j U0 (.B 1<|.i<|J.j U0)=D.d c:=by rw[YZ s1];exact s4
 rw[s3]at k0;rw[e1]at N;have hl:j8 cs oq 2=(hv D c):=B6 (vs:=hv D c) λq hq=>by
  match q,hq with
  |0,_=>exact k0|1,_=>exact N
 have bl:=Vn w s1 s2;let⟨v,am,X1,C1⟩:=TB ab (Vm X Y w (Tc hL a wu w M) hu s1 s2) (by omega) m0 n0 hl (a.C _ _ _ tb) m1 n1 ku<|a.C _ _ _ td;let⟨t,X2,c1,c2,q,c3,c4⟩:=SI aa X1 C1;let A:FB:=λb=>if q=some b then t.m.l b else F b
 have C:∀r,r<hp.d->A r=F r:=λr hr=>Xd λe=>by have:=(c4 r e).1;omega
 have B:FH A t:=λr y h=>by by_cases e:q=some r;exact⟨(Xg e).symm.trans h,(c4 r e).2⟩;have h:F r=some y:=(Xd e).symm.trans h;have:=a.B r y h;exact⟨by rw[c2 r this];exact a.p r y h,by omega⟩
 refine⟨v,A,t,[.B 0 (.l<|(bel D 1001 c).map<|D4 D.d)],λ_=>none,⟨[],0,[],0,[]⟩,[.m tHd (.B 0<|.l<|(bel D 1001 c).map<|D4 D.d) false],[v],[],X2,c1,λr y h=>by rw[C r<|a.B r y h];exact h,B,c2,λr y hr h=>by rw[<-C r hr];exact h,rfl,?_,SD.a B 0,⟨_,_,[],rfl,rfl,Tb,rfl,rfl⟩,.g (.lst _ _ _ _ (VZ c3 (by omega) λr e=>Xg e) λh=>by cases h) ZK,λb hb=>by simp at hb,rfl,rfl,λaj ws hw=>?_⟩
 .intro D' K' c' d w' W;let⟨al,an,d⟩:=d;have ec:c'=c:=by let⟨_,_,_,e,_⟩:=YX W;omega
  rw[ec,(La M d w w' 1001 c s s1 s2).2];refine List.map_congr_left λy hy=>?_;let⟨_,sy,N,k2⟩:=M5 w s1 s2 y hy;show [Dat.i y,.i<|D.d y]=[Dat.i y,.i<|D'.d y]
  rw[(La M d w w' 0 y sy N k2).1]
 .obtain⟨x,z,rfl,g,hn⟩:∃x z,ws=x::z/\VD PR U0 aj A x v/\z=[]:=by
   match ws,hw with
   | [x],hw=>exact⟨x,[],rfl,hw.2 0 _ _ rfl rfl,rfl⟩
  exact g
open Go Go.Xe Go.Sx
def zk :Prop:=
 ∀d f a g h j k m o p q r t u v,IR (.i d::.i f::JD a g h j k m o p q r t u v)->Ni (ln a) (Nr (ln a)<|Nd (jJ<|.i d::.i f::JD a g h j k m o p q r t u v)<|∀x y z A B C D F G H w,R1 (.i d::.i f::JD a g h j k m o p q r t u v) [.i x,.s y,.l z,.s A,.i B,.i C,.b D,.i F,.i G,.l H,.i w]->((w=0->Ni (ln a) (Nr (ln a)<|Nd (IF<|.i d::.i f::JD a g h j k m o p q r t u v)<|∀c,Ph (.i d::.i f::JD a g h j k m o p q r t u v) [.l c]->Nd (¬ln c<0) (Ni (ln c)<|Ni (ln c)<|Nd (0<ln c)<|Nr (ln c)<|Nr (ln c)<|Nd (DN (.i d::.i f::JD a g h j k m o p q r t u v) [.l c,.i 0]) True)))/\(¬w=0->Nd (DN (.i d::.i f::JD a g h j k m o p q r t u v) [.l [],.i w]) True)))
def zh :kr cHa2 OD (TH 0) (LJ 0) 13=zk:=by kernel_rfl
open Go Go.Xe Go.Sx
def bx (a b:a8)(c d f g h j k m:Int)(o p:a8)(q r s t u v w x y z:Int)(A B:a8):Prop:=
 Nd (EO (.l a::.l b::J8 c d f g h j k m (.l o::JD p q r s t u v w x y z A B)) [.i 0]) True
def iy (a:Int)(b c:a8):Prop:=
 Ca [.i (a+1),.l<|b++b9 1 1 [.i a]] λV=>Nd (I64<|a+1)<|Nq (ln b+1)<|Nd (kE [.l c] V)<|Nd (iG [.l c] V<iG [.l c] [.i a,.l b]) True
def mb (a b:a8)(c d f g h j k m p o:Int)(O:a8)(Q:Int)(S T U:Ae)(V q r:a8)(t u v w x y z A B C:Int)(D F P:a8):Prop:=
 ∀G H I J K L,gF (.l a::.l b::J10 c d f g h j k m p 6 []) [.i G,.s H,.s I,.l J,.s K,.l L]->Cg dC W3 [.i G,.s H,.s I,.l J,.s K,.l L] (λR=>∀M,R [.i M]->((M=0->((o=0->Nq (ln O) (Cg sQ gJ [.i Q,.s S,.s T,.l O,.s U,.l V,.i G,.s H,.s I,.l J,.s K,.l L] λR=>∀N,R [.i N]->((N=0->bx a b c d f g h j k m q r t u v w x y z A B C D F)/\(¬N=0->iy p P a))))/\(¬o=0->bx a b c d f g h j k m q r t u v w x y z A B C D F)))/\(¬M=0->((o=14->iy p P a)/\(¬o=14->bx a b c d f g h j k m q r t u v w x y z A B C D F)))))
def ma (a d:a8)(f g h j k m o p b q:Int)(P:a8)(Q:Int)(S T U:Ae)(V r t:a8)(u v w x y z A B C D:Int)(F G c:a8):Prop:=
 Ca (iG [.l a] [.i (b+1),.l c]<iG [.l a] [.i b,.l c]) λW=>Ca (kE [.l a] [.i (b+1),.l c]) λX=>∀H I J K L M,gF (.l a::.l d::J10 f g h j k m o p b 6 []) [.i H,.s I,.s J,.l K,.s L,.l M]->Cg dC W3 [.i H,.s I,.s J,.l K,.s L,.l M] (λR=>∀N,R [.i N]->((N=0->((q=0->Nq (ln P) (Cg sQ gJ [.i Q,.s S,.s T,.l P,.s U,.l V,.i H,.s I,.s J,.l K,.s L,.l M] λR=>∀O,R [.i O]->((O=0->bx a d f g h j k m o p r t u v w x y z A B C D F G)/\(¬O=0->Nd (I64<|b+1) (Nq (ln c)<|Nd X<|Nd W True)))))/\(¬q=0->bx a d f g h j k m o p r t u v w x y z A B C D F G)))/\(¬N=0->((q=14->Nd (I64<|b+1) (Nq (ln c)<|Nd X<|Nd W True))/\(¬q=14->bx a d f g h j k m o p r t u v w x y z A B C D F G)))))
def ly (d a:Int)(b c f:a8)(g h j k m o p q:Int)(r s:a8)(t u v w x y z A B C:Int)(D F:a8):Prop:=
 (d=11->Nd (I64<|a+1) (Nq (ln b)<|Nd (kE [.l c] [.i (a+1),.l b])<|Nd (iG [.l c] [.i (a+1),.l b]<iG [.l c] [.i a,.l b]) True))/\(¬d=11->bx c f g h j k m o p q r s t u v w x y z A B C D F)
def uf :Prop:=
 ∀a F v w x y z A B C D d q r h f g j k m o p t u,Ke (.l a::.l F::J8 v w x y z A B C (.l D::JD d q r h f g j k m o p t u))->Ca (JD d q r h f g j k m o p t u) λE=>((h=v->((f=w->((g=x->((j=y->((k=z->((m=A->((o=B->((p=C->Nd (I64<|f-g) ((h=f-g->Nd (kE [.l a] [.i 0,.l []]) (∀c H,kE [.l a] [.i c,.l H]->((c<ln a->((c<0->Nq (ln d) (Cg jJ R1 (.i 0::.i 0::E) λR=>∀M I G J O P Q S T x35 N,R [.i M,.s I,.l G,.s J,.i O,.i P,.b Q,.i S,.i T,.l x35,.i N]->Nb c (ln a) ((cB a c 1->Nb c (ln a) ((cI a c 9<0->Ni (ln H) (Nd (ln H+1<67108865)<|Nr (ln H)<|(N=0->((M=cI a c 2->((I=cS a c 3->((J=cS a c 5->((O=cI a c 6->((P=cI a c 7->(((Q==cB a c 8)->Nd (cI a c 9<0) ((S=0->((T=0->Cg nH dM [.l G,.l<|cL a c 4] (λR=>∀K,R [.i K]->((K=0->bx a F v w x y z A B C D d q r h f g j k m o p t u)/\(¬K=0->((ln G=ln G->Nq (ln D) (Nq (ln d)<|Cg dP fO (.l x35::.l (cL a c 10)::.l a::.l F::J8 v w x y z A B C (.l D::E)) λR=>∀L,R [.i L]->((L=0->bx a F v w x y z A B C D d q r h f g j k m o p t u)/\(¬L=0->Nq (ln d) (Cg gQ aN (.i 0::.i 0::E) λR=>∀U V W X Y Z x45,R [.i U,.s V,.s W,.l X,.s Y,.l Z,.i x45]->Nd (dD<|.l a::.l F::J10 v w x y z A B C c 6 []) (mb a F v w x y z A B C c x45 X U V W Y Z D d q r h f g j k m o p t u H))))))/\(¬ln G=ln G->bx a F v w x y z A B C D d q r h f g j k m o p t u))))))/\(¬T=0->bx a F v w x y z A B C D d q r h f g j k m o p t u)))/\(¬S=0->bx a F v w x y z A B C D d q r h f g j k m o p t u)))/\(¬(Q==cB a c 8)->bx a F v w x y z A B C D d q r h f g j k m o p t u)))/\(¬P=cI a c 7->bx a F v w x y z A B C D d q r h f g j k m o p t u)))/\(¬O=cI a c 6->bx a F v w x y z A B C D d q r h f g j k m o p t u)))/\(¬J=cS a c 5->bx a F v w x y z A B C D d q r h f g j k m o p t u)))/\(¬I=cS a c 3->bx a F v w x y z A B C D d q r h f g j k m o p t u)))/\(¬M=cI a c 2->bx a F v w x y z A B C D d q r h f g j k m o p t u)))/\(¬N=0->bx a F v w x y z A B C D d q r h f g j k m o p t u)))/\(¬cI a c 9<0->((N=0->((M=cI a c 2->((I=cS a c 3->((J=cS a c 5->((O=cI a c 6->((P=cI a c 7->(((Q==cB a c 8)->Nd (¬cI a c 9<0) (Nb (cI a c 9) (ln a)<|(S=IntKind.wrap .u32 (cI a c 9)->((T=cI a (cI a c 9) 0->Cg nH dM [.l G,.l<|cL a c 4] (λR=>∀K,R [.i K]->((K=0->bx a F v w x y z A B C D d q r h f g j k m o p t u)/\(¬K=0->((ln G=ln G->Nq (ln D) (Nq (ln d)<|Cg dP fO (.l x35::.l (cL a c 10)::.l a::.l F::J8 v w x y z A B C (.l D::E)) λR=>∀L,R [.i L]->((L=0->bx a F v w x y z A B C D d q r h f g j k m o p t u)/\(¬L=0->Nq (ln d) (Cg gQ aN (.i 0::.i 0::E) λR=>∀U V W X Y Z x45,R [.i U,.s V,.s W,.l X,.s Y,.l Z,.i x45]->Nd (dD<|.l a::.l F::J10 v w x y z A B C c 6 []) (ma a F v w x y z A B C c x45 X U V W Y Z D d q r h f g j k m o p t u H))))))/\(¬ln G=ln G->bx a F v w x y z A B C D d q r h f g j k m o p t u))))))/\(¬T=cI a (cI a c 9) 0->bx a F v w x y z A B C D d q r h f g j k m o p t u)))/\(¬S=IntKind.wrap .u32 (cI a c 9)->bx a F v w x y z A B C D d q r h f g j k m o p t u)))/\(¬(Q==cB a c 8)->bx a F v w x y z A B C D d q r h f g j k m o p t u)))/\(¬P=cI a c 7->bx a F v w x y z A B C D d q r h f g j k m o p t u)))/\(¬O=cI a c 6->bx a F v w x y z A B C D d q r h f g j k m o p t u)))/\(¬J=cS a c 5->bx a F v w x y z A B C D d q r h f g j k m o p t u)))/\(¬I=cS a c 3->bx a F v w x y z A B C D d q r h f g j k m o p t u)))/\(¬M=cI a c 2->bx a F v w x y z A B C D d q r h f g j k m o p t u)))/\(¬N=0->bx a F v w x y z A B C D d q r h f g j k m o p t u)))))/\(¬cB a c 1->ly N c H a F v w x y z A B C D d q r h f g j k m o p t u))))/\(¬c<0->Nb c (ln a) (Nq (ln d)<|Cg jJ R1 (.i (IntKind.wrap .u32 c)::.i (cI a c 0)::E) λR=>∀M I G J O P Q S T x35 N,R [.i M,.s I,.l G,.s J,.i O,.i P,.b Q,.i S,.i T,.l x35,.i N]->Nb c (ln a) ((cB a c 1->Nb c (ln a) ((cI a c 9<0->Ni (ln H) (Nd (ln H+1<67108865)<|Nr (ln H)<|(N=0->((M=cI a c 2->((I=cS a c 3->((J=cS a c 5->((O=cI a c 6->((P=cI a c 7->(((Q==cB a c 8)->Nd (cI a c 9<0) ((S=0->((T=0->Cg nH dM [.l G,.l<|cL a c 4] (λR=>∀K,R [.i K]->((K=0->bx a F v w x y z A B C D d q r h f g j k m o p t u)/\(¬K=0->((ln G=ln G->Nq (ln D) (Nq (ln d)<|Cg dP fO (.l x35::.l (cL a c 10)::.l a::.l F::J8 v w x y z A B C (.l D::E)) λR=>∀L,R [.i L]->((L=0->bx a F v w x y z A B C D d q r h f g j k m o p t u)/\(¬L=0->Nq (ln d) (Cg gQ aN (.i (IntKind.wrap .u32 c)::.i (cI a c 0)::E) λR=>∀U V W X Y Z x45,R [.i U,.s V,.s W,.l X,.s Y,.l Z,.i x45]->Nd (dD<|.l a::.l F::J10 v w x y z A B C c 6 []) (mb a F v w x y z A B C c x45 X U V W Y Z D d q r h f g j k m o p t u H))))))/\(¬ln G=ln G->bx a F v w x y z A B C D d q r h f g j k m o p t u))))))/\(¬T=0->bx a F v w x y z A B C D d q r h f g j k m o p t u)))/\(¬S=0->bx a F v w x y z A B C D d q r h f g j k m o p t u)))/\(¬(Q==cB a c 8)->bx a F v w x y z A B C D d q r h f g j k m o p t u)))/\(¬P=cI a c 7->bx a F v w x y z A B C D d q r h f g j k m o p t u)))/\(¬O=cI a c 6->bx a F v w x y z A B C D d q r h f g j k m o p t u)))/\(¬J=cS a c 5->bx a F v w x y z A B C D d q r h f g j k m o p t u)))/\(¬I=cS a c 3->bx a F v w x y z A B C D d q r h f g j k m o p t u)))/\(¬M=cI a c 2->bx a F v w x y z A B C D d q r h f g j k m o p t u)))/\(¬N=0->bx a F v w x y z A B C D d q r h f g j k m o p t u)))/\(¬cI a c 9<0->((N=0->((M=cI a c 2->((I=cS a c 3->((J=cS a c 5->((O=cI a c 6->((P=cI a c 7->(((Q==cB a c 8)->Nd (¬cI a c 9<0) (Nb (cI a c 9) (ln a)<|(S=IntKind.wrap .u32 (cI a c 9)->((T=cI a (cI a c 9) 0->Cg nH dM [.l G,.l<|cL a c 4] (λR=>∀K,R [.i K]->((K=0->bx a F v w x y z A B C D d q r h f g j k m o p t u)/\(¬K=0->((ln G=ln G->Nq (ln D) (Nq (ln d)<|Cg dP fO (.l x35::.l (cL a c 10)::.l a::.l F::J8 v w x y z A B C (.l D::E)) λR=>∀L,R [.i L]->((L=0->bx a F v w x y z A B C D d q r h f g j k m o p t u)/\(¬L=0->Nq (ln d) (Cg gQ aN (.i (IntKind.wrap .u32 c)::.i (cI a c 0)::E) λR=>∀U V W X Y Z x45,R [.i U,.s V,.s W,.l X,.s Y,.l Z,.i x45]->Nd (dD<|.l a::.l F::J10 v w x y z A B C c 6 []) (ma a F v w x y z A B C c x45 X U V W Y Z D d q r h f g j k m o p t u H))))))/\(¬ln G=ln G->bx a F v w x y z A B C D d q r h f g j k m o p t u))))))/\(¬T=cI a (cI a c 9) 0->bx a F v w x y z A B C D d q r h f g j k m o p t u)))/\(¬S=IntKind.wrap .u32 (cI a c 9)->bx a F v w x y z A B C D d q r h f g j k m o p t u)))/\(¬(Q==cB a c 8)->bx a F v w x y z A B C D d q r h f g j k m o p t u)))/\(¬P=cI a c 7->bx a F v w x y z A B C D d q r h f g j k m o p t u)))/\(¬O=cI a c 6->bx a F v w x y z A B C D d q r h f g j k m o p t u)))/\(¬J=cS a c 5->bx a F v w x y z A B C D d q r h f g j k m o p t u)))/\(¬I=cS a c 3->bx a F v w x y z A B C D d q r h f g j k m o p t u)))/\(¬M=cI a c 2->bx a F v w x y z A B C D d q r h f g j k m o p t u)))/\(¬N=0->bx a F v w x y z A B C D d q r h f g j k m o p t u)))))/\(¬cB a c 1->ly N c H a F v w x y z A B C D d q r h f g j k m o p t u))))))/\(¬c<ln a->Nq (ln d) (Cg JN JO E λR=>∀M,R [.l M]->Nq (ln H) (Nq (ln D)<|Nq (ln d)<|Cg dP fO (.l M::.l H::.l a::.l F::J8 v w x y z A B C (.l D::E)) λR=>∀I,R [.i I]->Nq (ln d) (Cg Ku Kv (JE d q r h f g j k m o p t) λR=>∀G,R [.l G]->Nq (ln D) (Nq (ln d)<|Cg dP fO (.l G::.l F::.l a::.l F::J8 v w x y z A B C (.l D::E)) λR=>∀J,R [.i J]->Nd (I64<|I*J) (Nd (EO (.l a::.l F::J8 v w x y z A B C (.l D::E)) [.i (I*J)]) True)))))))))/\(¬h=f-g->bx a F v w x y z A B C D d q r h f g j k m o p t u)))/\(¬p=C->bx a F v w x y z A B C D d q r h f g j k m o p t u)))/\(¬o=B->bx a F v w x y z A B C D d q r h f g j k m o p t u)))/\(¬m=A->bx a F v w x y z A B C D d q r h f g j k m o p t u)))/\(¬k=z->bx a F v w x y z A B C D d q r h f g j k m o p t u)))/\(¬j=y->bx a F v w x y z A B C D d q r h f g j k m o p t u)))/\(¬g=x->bx a F v w x y z A B C D d q r h f g j k m o p t u)))/\(¬f=w->bx a F v w x y z A B C D d q r h f g j k m o p t u)))/\(¬h=v->bx a F v w x y z A B C D d q r h f g j k m o p t u))
def ue :kr cSme Un (RE 0) (QG 0) 35=uf:=by kernel_rfl
end Go.D
namespace Go.D
open Go Go.Xe Go.Sx
def zX {L:a8}{c:Nat}:mM L (c+1)=mM L c++if cB L c 1=true/\cI L c 9<0 then [c]else []:=by rw[mM,List.range_succ,List.filter_append];congr 1;by_cases h:cB L c 1/\cI L c 9<0;rw[Xg h];simp[h.1,h.2];rw[Xd h];rw[List.filter_cons_of_neg];rfl;simpa [WK]using λa=>(not_and.1 h) a
def ud :uf:=by
 rw[uf];intro L F Z J M b3 b4 b5 b6 b7 H S fr lv c0 c1 c2 c3 c4 c5 c6 c7 st N h;let⟨K,D,m,C,w,hH,lH⟩:=h;have aa:=m.j w;have lS:=C.1.e w;have bg:=w.m;have ec:=m.2.2.trans C.2.symm;simp only[Yl,Yo]at ec;obtain⟨rfl,rfl,rfl,rfl,rfl,rfl,rfl,rfl⟩:=ec;have ak:Z=J-M/\I64 (J-M):=by let⟨a,b,c,d,e,f,h',h1,h2,h3,h4⟩:=w.P;have hc:=m.2.2;rw[h1]at hc;simp only[Yl,Yo]at hc;simp only[List.forall_mem_cons]at h4;rw[I64];omega
 refine⟨λ_=>⟨λ_=>⟨λ_=>⟨λ_=>⟨λ_=>⟨λ_=>⟨λ_=>⟨λ_=>ndi ak.2 ⟨λ_=>ndi ⟨by omega,by omega,by simp,rfl⟩ λk O hI=>?_,λh=>absurd ak.1 h⟩,λh=>absurd rfl h⟩,λh=>absurd rfl h⟩,λh=>absurd rfl h⟩,λh=>absurd rfl h⟩,λh=>absurd rfl h⟩,λh=>absurd rfl h⟩,λh=>absurd rfl h⟩,λh=>absurd rfl h⟩;let⟨G,k1,lO,hO⟩:=hI;have bi:ln O=(O.length:Int):=rfl;have bh:ln L=(L.length:Int):=rfl;refine⟨λhk=>⟨λh=>absurd h<|by omega,λkn=>?_⟩,λhk=>?_⟩
 .obtain⟨c,rfl⟩:∃c:Nat,k=c:=⟨k.toNat,by omega⟩
  rw[Xz]at hO;have aw:c<D.L.length:=by have:=congrArg List.length m.1;rw[Xc]at this;omega
  have u:D.L[c]? =D.L[c]:=WV aw;generalize D.L[c]=s at u;let⟨g0,g1,g2,g3⟩:=tY m u;have gb:=w.J s<|WT u;have uc:U32 (c:Int):=by rw[U32];omega
  have ug:U32 (s.g:Int):=by rw[U32];omega
  have ac:jJ (.i (c:Int)::.i (s.g:Int)::JD S fr lv Z J M b3 b4 b5 b6 b7 st N):=⟨uc,ug,D,K,C.1,w⟩
  have nx:∀o:a8,o=(mM L<|c+1).map B9->Sx.Nd (I64<|(c:Int)+1) (Ni (ln o)<|Nr (ln o)<|Sx.Nd (kE [.l L] [.i ((c:Int)+1),.l o])<|Sx.Nd (iG [.l L] [.i ((c:Int)+1),.l o]<iG [.l L] [.i c,.l O]) True):=λo h=>by refine ndi (by rw[I64];omega)<|nin<|nrn<|ndi ⟨by omega,by omega,?_,by rw[show((c:Int)+1).toNat=c+1 by omega];exact h⟩<|ndt ?_;rw[h,Xc];have:(mM L<|c+1).length<=(List.range<|c+1).length:=List.length_filter_le ..;rw[List.length_range]at this;omega;show(L.length-((c:Int)+1)).toNat<(L.length-(c:Int)).toNat;omega
  have am:∀o:a8,iG [.l L] [.i (c:Int),.l o]=iG [.l L] [.i c,.l O]:=λ_=>rfl;refine ndi kn<|ndi hk<|nin<|nrn ?_;rw [T7 (by simp[IntKind.min,IntKind.signed]) (by simp[IntKind.max,IntKind.signed,IntKind.bits];omega), g0];refine ndi ac λkk t a x tp sz pn pi pg ch r hr=>ndi kn<|ndi hk ⟨λv=>?_,λv=>?_⟩
  .rw[g1]at v;let⟨n1,n2,n3,n4,n5,n6,n7,n8,n9,an,ax,ao,bj,ay,az,ba,bb⟩:=CP m C w u v;have hr:if z9 S c s.g then _ else _:=hr
   rw[Xg n2]at hr;obtain⟨rfl,rfl,rfl,rfl,rfl,rfl,rfl,rfl,rfl,rfl,rfl⟩:=hr;have Y:nH [.l (cL N (atF S c s.g) 2),.l<|cL L c 4]:=⟨s.n.d,s.n.d,by rw[n7,ao],ao,(w.w c s u v).1⟩
   have ab:dP [.l (cL N (atF S c s.g) 9),.l<|cL L c 10,.l L,.l F,.i Z,.i J,.i M,.i b3,.i b4,.i b5,.i b6,.i b7,.l H,.l S,.i fr,.i lv,.i Z,.i J,.i M,.i b3,.i b4,.i b5,.i b6,.i b7,.l st,.l N]:=by refine⟨s.n.e,ay,az,λj hj=>?_,w.o u v,aa⟩;let⟨sj,U,_⟩:=(w.A c s u v).2 j hj;have:=(tY m U).2.2.1;omega
   have ad:gQ (.i (c:Int)::.i (s.g:Int)::JD S fr lv Z J M b3 b4 b5 b6 b7 st N):=ac;have B:dD (.l L::.l F::J10 Z J M b3 b4 b5 b6 b7 c 6 []):=⟨by omega,by omega,D,K,c,m,w,rfl,s,u,v⟩
   have aj:∀ {kk:Int} {t y:Str} {a:a8} {x:Str} {ch:a8} {r:Int},aN (.i (c:Int)::.i (s.g:Int)::JD S fr lv Z J M b3 b4 b5 b6 b7 st N) [.i kk,.s t,.s y,.l a,.s x,.l ch,.i r]-> ∀ {G:Int} {t0 X:Str} {I:a8} {V:Str} {P:a8},gF (.l L::.l F::J10 Z J M b3 b4 b5 b6 b7 c 6 []) [.i G,.s t0,.s X,.l I,.s V,.l P]->
     dC [.i G,.s t0,.s X,.l I,.s V,.l P]/\ ∀q,W3 [.i G,.s t0,.s X,.l I,.s V,.l P] [.i q]->(q=0->r=0/\sQ [.i kk,.s t,.s y,.l a,.s x,.l ch,.i G,.s t0,.s X,.l I,.s V,.l P]/\ ∀n,gJ [.i kk,.s t,.s y,.l a,.s x,.l ch,.i G,.s t0,.s X,.l I,.s V,.l P] [.i n]->n=1)/\(¬q=0->r=14):=by
    intro kk t y a x ch r E G t0 X I V P z;have hT:isT (X9 D 6 c) G t0 X I V P:=z D K c m.1 w rfl ⟨s,u,v⟩;have E:=E D K ⟨_,_,C.1⟩ w;rw[n1]at E;simp only at E;refine⟨⟨_,hT⟩,λq z=>?_⟩;let⟨U,q2⟩:=z _ hT;refine⟨λe=>?_,λe=>E.2 λhv=>e<|U.2 hv⟩;have hv:=U.1 e;obtain⟨r0,s',rfl,ai⟩:=E.1 hv;rw[AN]at ai;exact⟨r0,⟨⟨_,ai⟩,_,hT⟩,λn hn=>(hn _ _ ai hT).1 ⟨hv,rfl⟩⟩
   have eqb:((cB N (atF S c s.g) 6)==(cB L c 8)):=by rw[ax];simp
   have be:∀ {x y:Int},x=y-> ∀ {p:Prop},¬x=y->p:=λh _ h'=>absurd h h';refine ndi kn<|ndi hk ⟨λhp=>?_,λhp=>?_⟩
   ·
    let⟨e7,e8⟩:=ba hp;have rt:mM L (c+1)=mM L c++ [c]:=by rw[zX,Xg ⟨by rw[g1];exact v,hp⟩]
    have aq:iy c O L:=by
     rw[iy];have:=nx (O++b9 1 1 [.i (c:Int)]) (by rw[hO,rt,XJ];rfl);have l1:ln (O++b9 1 1 [.i (c:Int)])=ln O+1:=by simp[ln,b9]
     rw[l1]at this;exact this
    refine nin<|ag<|nrn ⟨λ_=>⟨λ_=>⟨λ_=>⟨λ_=>⟨λ_=>⟨λ_=>⟨λ_=>ndi hp ⟨λ_=>⟨λ_=>ndi Y λq z=>⟨λe=>?_,λ_=>⟨λ_=>nin<|nrn<|nin<|nrn<|ndi ab λq' A=>⟨λe=>?_,λ_=>nin<|nrn<|ndi ad λkk t y a x ch r E=>ndi B ?_⟩,λh=>absurd rfl h⟩⟩,λh=>absurd e8 h⟩,λh=>absurd e7 h⟩,λh=>absurd eqb h⟩,λh=>absurd an h⟩,λh=>absurd n9 h⟩,λh=>absurd n8 h⟩,λh=>absurd n6 h⟩,λh=>absurd n5 h⟩,λh=>absurd rfl h⟩;have:=z.1 n7;omega;have A:q'=1:=A;omega;rw[mb];intro G t0 X I V P hT;let⟨f1,f2⟩:=aj E hT;refine ndi f1 λq z=>?_;let⟨f3,f4⟩:=f2 q z;exact⟨λe=>⟨λ_=>nin<|nrn<|ndi (f3 e).2.1 λn hn=>⟨λe0=>by have:=(f3 e).2.2 n hn;omega,λ_=>aq⟩,λh=>absurd (f3 e).1 h⟩,λe=>⟨λ_=>aq,λh=>absurd (f4 e) h⟩⟩
   .obtain⟨e1,e2,e7,e8⟩:=bb hp;have rt:mM L (c+1)=mM L c:=by rw[zX,Xd λh=>hp h.2,YD]
    have ap:=nx O (by rw[rt];exact hO);rw[T7 (by simp[IntKind.min,IntKind.signed];omega) (by simp[IntKind.max,IntKind.signed,IntKind.bits];omega)];refine⟨λ_=>⟨λ_=>⟨λ_=>⟨λ_=>⟨λ_=>⟨λ_=>⟨λ_=>ndi hp<|ndi hp<|ndi e1 ⟨λ_=>⟨λ_=>ndi Y λq z=>⟨λe=>?_,λ_=>⟨λ_=>nin<|nrn<|nin<|nrn<|ndi ab λq' A=>⟨λe=>?_,λ_=>nin<|nrn<|ndi ad λkk t y a x ch r E=>ndi B ?_⟩,λh=>absurd rfl h⟩⟩,λh=>absurd e8 h⟩,λh=>absurd e7 h⟩,λh=>absurd eqb h⟩,λh=>absurd an h⟩,λh=>absurd n9 h⟩,λh=>absurd n8 h⟩,λh=>absurd n6 h⟩,λh=>absurd n5 h⟩,λh=>absurd rfl h⟩;have:=z.1 n7;omega;have A:q'=1:=A;omega;rw[ma];intro G t0 X I V P hT;let⟨f1,f2⟩:=aj E hT;refine ndi f1 λq z=>?_;let⟨f3,f4⟩:=f2 q z;exact⟨λe=>⟨λ_=>nin<|nrn<|ndi (f3 e).2.1 λn hn=>⟨λe0=>by have:=(f3 e).2.2 n hn;omega,λ_=>ap⟩,λh=>absurd (f3 e).1 h⟩,λe=>⟨λ_=>ap,λh=>absurd (f4 e) h⟩⟩
  .have hn:¬z9 S c s.g:=λhv=>by
    let⟨c',av⟩:=C.1.d.1 hv;let⟨s',U,q2,q3,_⟩:=YX av;have:c=c':=by omega
    subst this;rw[u]at U;cases U;rw[g1]at v;exact v q2
   have hr:if z9 S c s.g then _ else r=11:=hr
   rw[Xd hn]at hr;rw[ly];have rt:mM L (c+1)=mM L c:=by rw[zX,Xd λh=>v h.1,YD]
   exact⟨λ_=>nx O<|by rw[rt];exact hO,λh=>absurd hr h⟩
 .have ek:k.toNat=L.length:=by omega
  rw[ek]at hO;refine nin<|nrn<|ndi ⟨D,K,C.1,w⟩ λR T=>?_;have T:R=(hdF S 0).filter (roB S N):=T;rw[QV m C w]at T;have nz:∀l:Ah,(∀j∈l,j<L.length)->l.length<=1000-> ∀Q:a8,Q=l.map (hL' L)-> ∀o:a8,o=l.map B9-> ∀d,dP (.l Q:: .l o:: .l L::d):=λl h1 h2 Q h3 o h4 d=>⟨l,h4,h3,h1,h2,aa⟩
  have p1:=nz (mM L L.length) (λj hj=>List.mem_range.1 (List.mem_filter.1 hj).1) (by have:(mM L L.length).length<=(List.range L.length).length:=List.length_filter_le ..;rw[List.length_range]at this;omega) R T O hO;have fl:D.h.length<=1000:=by
   have u:D.h ⊆ List.range D.L.length:=λj hj=>by let⟨s,h1,_⟩:=w.t.2 j hj;exact List.mem_range.2 (WM.1 h1).1
   have h9:=w.t.1.length_le_of_subset u;rw[List.length_range]at h9;omega
  refine nin<|nrn<|nin<|nrn<|nin<|nrn<|ndi (p1 _) λU ae=>nin<|nrn<|ndi ⟨D,K,N,C.1,w⟩ λW hW=>nin<|nrn<|nin<|nrn<|ndi (nz D.h (λj hj=>?_) fl W ?_ F m.2.1 _) λq2 ah=>?_;let⟨s,h1,_⟩:=w.t.2 j hj;have:=(WM.1 h1).1;have:=congrArg List.length m.1;rw[Xc]at this;omega;rw[hW,Kw m C w];have ae:U=1:=ae;have ah:q2=1:=ah;subst ae;subst ah;exact ndi (by rw[I64];omega)<|ndt rfl
open Go Go.Xe Go.Sx
def gm a c:=
 Nd (¬a<0)<|Nd (a<ln c)<|(Sx.byteAt c a<48->Nd (G7 [.s c] [.b false]) True)/\(¬Sx.byteAt c a<48->Nd (¬a<0) (Nd (a<ln c)<|(57<Sx.byteAt c a->Nd (G7 [.s c] [.b false]) True)/\(¬57<Sx.byteAt c a->Nd (I64<|a+1) (Nd (CN [.s c] [.i (a+1)])<|Nd (NC [.s c] [.i (a+1)]<NC [.s c] [.i a]) True))))
def jc :Prop:=
 ∀a,R9 [.s a]->Nd (CN [.s a] [.i 0]) (∀c,CN [.s a] [.i c]->((c<ln a->((c<17->Nd (¬c<0) (Nd (c<ln a)<|(Sx.byteAt a c<97->gm c a)/\(¬Sx.byteAt a c<97->Nd (¬c<0) (Nd (c<ln a)<|(122<Sx.byteAt a c->gm c a)/\(¬122<Sx.byteAt a c->Nd (I64<|c+1) (Nd (CN [.s a] [.i (c+1)])<|Nd (NC [.s a] [.i (c+1)]<NC [.s a] [.i c]) True))))))/\(¬c<17->((ln a<1->Nd (G7 [.s a] [.b false]) True)/\(¬ln a<1->Nd (G7 [.s a] [.b (!(decide<|16<ln a))]) True)))))/\(¬c<ln a->((ln a<1->Nd (G7 [.s a] [.b false]) True)/\(¬ln a<1->Nd (G7 [.s a] [.b (!(decide<|16<ln a))]) True)))))
def mn :kq ld mS (kI 0) (yZ 0) 136=jc:=by kernel_rfl
def mf :Prop:=
 ∀a,W5 [.s a]->((64<ln a->Nd (M8 [.s a] [.b false]) True)/\(¬64<ln a->Nd (Hq [.s a] [.i 0]) (∀c,Hq [.s a] [.i c]->((c<ln a->Nd (¬c<0) (Nd (c<ln a)<|(Sx.byteAt a c<32->Nd (M8 [.s a] [.b false]) True)/\(¬Sx.byteAt a c<32->Nd (¬c<0) (Nd (c<ln a)<|(126<Sx.byteAt a c->Nd (M8 [.s a] [.b false]) True)/\(¬126<Sx.byteAt a c->Nd (I64<|c+1) (Nd (Hq [.s a] [.i (c+1)])<|Nd (rsMu [.s a] [.i (c+1)]<rsMu [.s a] [.i c]) True))))))/\(¬c<ln a->Nd (M8 [.s a] [.b true]) True)))))
def pz :kq ol mS (kI 0) (yZ 0) 137=mf:=by kernel_rfl
def jl j a k m o c:=
 (j=([]:Ae)->((8<ln a->Nd (K2 [.i k,.s m,.s o,.l a,.s j,.l c] [.b false]) True)/\(¬8<ln a->((16<ln c->Nd (K2 [.i k,.s m,.s o,.l a,.s j,.l c] [.b false]) True)/\(¬16<ln c->Nd (CE [.l a] [.i 0]) (∀f,CE [.l a] [.i f]->((f<ln a->Nd (¬f<0) (Nd (f<ln a)<|Nd (R9 [.s (cS a f 0)])<|∀d,G7 [.s (cS a f 0)] [.b d]->((d=true->Nd (¬f<0) (Nd (f<ln a)<|Nd (W5 [.s (cS a f 1)])<|∀g,M8 [.s (cS a f 1)] [.b g]->((g=true->Nd (CF [.l a,.i f] [.i 0]) (∀h,CF [.l a,.i f] [.i h]->((h<f->Nd (¬h<0) (Nd (h<ln a)<|Nd (¬f<0)<|Nd (f<ln a)<|(Op.bytesLess (cS a h 0) (cS a f 0)->Nd (I64<|h+1) (Nd (CF [.l a,.i f] [.i (h+1)])<|Nd (Qw [.l a,.i f] [.i (h+1)]<Qw [.l a,.i f] [.i h]) True))/\(¬Op.bytesLess (cS a h 0) (cS a f 0)->Nd (K2 [.i k,.s m,.s o,.l a,.s j,.l c] [.b false]) True)))/\(¬h<f->Nd (I64<|f+1) (Nd (CE [.l a] [.i (f+1)])<|Nd (oaMu [.l a] [.i (f+1)]<oaMu [.l a] [.i f]) True)))))/\(¬g=true->Nd (K2 [.i k,.s m,.s o,.l a,.s j,.l c] [.b false]) True))))/\(¬d=true->Nd (K2 [.i k,.s m,.s o,.l a,.s j,.l c] [.b false]) True))))/\(¬f<ln a->Nd (GQ [.l c] [.i 0]) (∀d,GQ [.l c] [.i d]->((d<ln c->Nd (CG [.l c,.i d] [.i 0]) (∀g,CG [.l c,.i d] [.i g]->((g<d->Nd (¬d<0) (Nd (d<ln c)<|(cS c d 2=([]:Ae)->Nd (I64<|g+1) (Nd (CG [.l c,.i d] [.i (g+1)])<|Nd (Nl [.l c,.i d] [.i (g+1)]<Nl [.l c,.i d] [.i g]) True))/\(¬cS c d 2=([]:Ae)->Nd (¬d<0) (Nd (d<ln c)<|Nd (¬g<0)<|Nd (g<ln c)<|(cS c d 2=cS c g 2->Nd (K2 [.i k,.s m,.s o,.l a,.s j,.l c] [.b false]) True)/\(¬cS c d 2=cS c g 2->Nd (I64<|g+1) (Nd (CG [.l c,.i d] [.i (g+1)])<|Nd (Nl [.l c,.i d] [.i (g+1)]<Nl [.l c,.i d] [.i g]) True))))))/\(¬g<d->Nd (I64<|d+1) (Nd (GQ [.l c] [.i (d+1)])<|Nd (ocMu [.l c] [.i (d+1)]<ocMu [.l c] [.i d]) True)))))/\(¬d<ln c->Nd (K2 [.i k,.s m,.s o,.l a,.s j,.l c] [.b true]) True)))))))))))/\(¬j=([]:Ae)->Nd (K2 [.i k,.s m,.s o,.l a,.s j,.l c] [.b false]) True)
def vcOne :Prop:=
 ∀c d a f g h,Jy [.i c,.s d,.s a,.l f,.s g,.l h]->((c=2->Nd (W5 [.s g]) (∀j,M8 [.s g] [.b j]->((j=true->((d=([]:Ae)->((a=([]:Ae)->((ln f=0->Nd (K2 [.i c,.s d,.s a,.l f,.s g,.l h] [.b (decide<|ln h=0)]) True)/\(¬ln f=0->Nd (K2 [.i c,.s d,.s a,.l f,.s g,.l h] [.b false]) True)))/\(¬a=([]:Ae)->Nd (K2 [.i c,.s d,.s a,.l f,.s g,.l h] [.b false]) True)))/\(¬d=([]:Ae)->Nd (K2 [.i c,.s d,.s a,.l f,.s g,.l h] [.b false]) True)))/\(¬j=true->Nd (K2 [.i c,.s d,.s a,.l f,.s g,.l h] [.b false]) True))))/\(¬c=2->((c=1->Nd (R9 [.s d]) (∀j,G7 [.s d] [.b j]->((j=true->((a=([]:Ae)->jl g f c d a h)/\(¬a=([]:Ae)->Nd (R9 [.s a]) (∀k,G7 [.s a] [.b k]->((k=true->jl g f c d a h)/\(¬k=true->Nd (K2 [.i c,.s d,.s a,.l f,.s g,.l h] [.b false]) True))))))/\(¬j=true->Nd (K2 [.i c,.s d,.s a,.l f,.s g,.l h] [.b false]) True))))/\(¬c=1->Nd (K2 [.i c,.s d,.s a,.l f,.s g,.l h] [.b false]) True))))
def xl :kq cOne mS (kI 1) (yZ 1) 144=vcOne:=by kernel_rfl
def we n:=
 ∀g h j k m a d,(gC [.i g,.s h,.s j,.l k,.s m,.l a,.i d]/\sH [.i g,.s h,.s j,.l k,.s m,.l a,.i d]<n+1)->((d<1->Nd (W4 [.i g,.s h,.s j,.l k,.s m,.l a,.i d] [.i 1000]) True)/\(¬d<1->Nd (Jy [.i g,.s h,.s j,.l k,.s m,.l a]) (∀p,K2 [.i g,.s h,.s j,.l k,.s m,.l a] [.b p]->((p=true->Nd (tU [.l a,.i d] [.i 0,.i 1]) (∀c f,tU [.l a,.i d] [.i c,.i f]->((c<ln a->((64<f->Nd (W4 [.i g,.s h,.s j,.l k,.s m,.l a,.i d] [.i f]) True)/\(¬64<f->Nd (¬c<0) (Nd (c<ln a)<|Nd (I64<|d+(-1))<|Nd (gC [.i (cI a c 0),.s<|cS a c 1,.s<|cS a c 2,.l<|cL a c 3,.s<|cS a c 4,.l<|cL a c 5,.i<|d+(-1)]/\sH [.i (cI a c 0),.s<|cS a c 1,.s<|cS a c 2,.l<|cL a c 3,.s<|cS a c 4,.l<|cL a c 5,.i<|d+(-1)]<n)<|∀o,W4 [.i (cI a c 0),.s<|cS a c 1,.s<|cS a c 2,.l<|cL a c 3,.s<|cS a c 4,.l<|cL a c 5,.i<|d+(-1)] [.i o]->Nd (I64<|f+o) (Nd (I64<|c+1)<|Nd (tU [.l a,.i d] [.i (c+1),.i<|f+o])<|Nd (ctMu [.l a,.i d] [.i (c+1),.i<|f+o]<ctMu [.l a,.i d] [.i c,.i f]) True)))))/\(¬c<ln a->Nd (W4 [.i g,.s h,.s j,.l k,.s m,.l a,.i d] [.i f]) True))))/\(¬p=true->Nd (W4 [.i g,.s h,.s j,.l k,.s m,.l a,.i d] [.i 1000]) True)))))
def qt (n:Nat):kq (lm.g sH<|n+1) mS ((88,lm.g sH n)::kI 2) (yZ 2) 88=we n:=by kernel_rfl
def wh :Prop:=
 ∀a b c d f g,dC [.i a,.s b,.s c,.l d,.s f,.l g]->Nd (gC [.i a,.s b,.s c,.l d,.s f,.l g,.i 6]) (∀h,W4 [.i a,.s b,.s c,.l d,.s f,.l g,.i 6] [.i h]->((64<h->Nd (W3 [.i a,.s b,.s c,.l d,.s f,.l g] [.i 14]) True)/\(¬64<h->((h=0->Nd (W3 [.i a,.s b,.s c,.l d,.s f,.l g] [.i 14]) True)/\(¬h=0->Nd (W3 [.i a,.s b,.s c,.l d,.s f,.l g] [.i 0]) True)))))
def qv :kq lq mS (kI 3) (yZ 3) 22=wh:=by kernel_rfl
open Go Go.Xe Go.Sx
def ml :jc:=by
 unfold jc gm Nd;intro s l;have F:¬(s.length:Int)<1->16<s.length\/s.all mW->(!decide (16<(s.length:Int)))=v5 s:=λh i=>by by_cases c:16<s.length;rw[mD<|.inr c,decide_eq_true<|by omega];rfl;rw[CW (by omega) (by omega)<|i.resolve_left c,Yr<|by omega];rfl
 simp only[ln,I64,G7,G5,CN,uC,NC,B2,Yf,Yo];refine⟨⟨by omega,by omega,rfl⟩,λ_ k ⟨f,m,g⟩=>⟨λe=>⟨λa=>?_,λa=>(by grind)⟩,λe=>⟨λh=>(mD<|.inl<|by omega).symm,λh=>F h<|.inr<|dG g<|by omega⟩⟩⟩;let⟨b,d,j⟩:=vG f e
 repeat' first| (refine Xm ?_ ?_)|intro _
 all_goals first|omega|exact(CV<|oX d<|CC<|by omega).symm|exact oY d f g (GO<|by omega)
def py :mf:=by
 unfold mf Nd;intro s g;simp only[ln,I64,M8,O8,Hq,AI,rsMu,B2,Yf,Yo];refine⟨λh=>(HL<|by omega).symm,λh=>⟨⟨by omega,by omega,rfl⟩,λ_ k ⟨d,i,e⟩=>⟨λc=>?_,λc=>(HM (by omega)<|dG e<|by omega).symm⟩⟩⟩;let⟨b,a,f⟩:=vG d c
 repeat' first| (refine Xm ?_ ?_)|intro _
 all_goals first|omega|exact(Bd<|oX a<|AK<|by omega).symm|exact oY a d e (Mw (by omega)<|by omega)
open Go Go.Xe Go.Sx
variable {a:List Att}
def Eh {i:Int}:CE [.l (a.map Att.d)] [.i i]↔0<=i/\i<=(a.length:Int)/\(∀z∈a.take i.toNat,v5 z.n/\D7 z.v)/\Asc ((a.take i.toNat).map Att.n):=by simp only[CE,ln,Xc];exact⟨λ⟨c,d,h⟩=>⟨c,d,h a rfl⟩,λ⟨c,d,h⟩=>⟨c,d,λb e=>by rw[<-P1 e];exact h⟩⟩
def Ei {i k:Int}:CF [.l (a.map Att.d),.i i] [.i k]↔0<=k/\k<=i/\i<(a.length:Int)/\ ∀z∈a.take k.toNat,lt z.n (a.getD i.toNat ⟨[],[]⟩).n:=by simp only[CF,ln,Xc];exact⟨λ⟨c,d,f,h⟩=>⟨c,d,f,h a rfl⟩,λ⟨c,d,f,h⟩=>⟨c,d,f,λb e=>by rw[<-P1 e];exact h⟩⟩
variable {l:List Att}
def OM {b:Att}(h:Asc (l.map Att.n))(a:∀z∈l,lt z.n b.n):Asc ((l++ [b]).map Att.n):=by rw[Asc] at h⊢;grind
def Vj (h:Asc (l.map Att.n)){i k:Nat}{a b:Att}(e:l[k]? =a)(d:l[i]? =b)(c:k<i):lt a.n b.n:=Hb h (I7 e) (I7 d) c
def Qy (s:c8)(X:s.k=1)(Y:v5 s.t)(Z:s.y=[]\/v5 s.y):jl s.x (s.a.map Att.d) s.k s.t s.y (rows s.c):=by
 have AL:bN s↔(s.x=[]/\s.a.length<=8/\s.c.length<=16/\(∀a∈s.a,v5 a.n/\D7 a.v)/\Asc (s.a.map Att.n)/\iL (s.c.map c8.y)):=by constructor;rintro (h|h);omega;exact h.2.2.2;exactλh=>.inr ⟨X,Y,Z,h⟩
 simp only[jl,Nd,I64,K2,y4,forall_eq,R9,W5,G7,M8,G5,O8,Hs,cS,GQ,CG,oaMu,ocMu,Qw,Nl,B2,fR s.c,ln,Xc,Yf,Yo,Yk,XE];refine⟨λO=>⟨λW=>H2 λh=>?_,λW=>⟨λH=>H2 λh=>?_,λH=>⟨Eh.2 ⟨by omega,by omega,by simp,by simp[Asc]⟩,λ_ i S=>⟨λl=>?_,λl=>?_⟩⟩⟩⟩,λO=>H2 λh=>O (AL.1 h).1⟩;have:=(AL.1 h).2.1;omega;have:=(AL.1 h).2.2.1;omega
 .obtain⟨E,i1,C,D⟩:=Eh.1 S;let⟨b,q⟩:=Sx.get_at E l;have w:=WT q;have u:s.a.getD i.toNat ⟨[],[]⟩=b:=by rw[Xp,q];rfl
  simp only[d9 q,at0,at1,B1];refine⟨by omega,λ_=>⟨l,λ_=>⟨λN=>⟨by omega,λ_=>⟨l,λ_=>⟨λhv=>?_,λhv=>H2 λh=>hv ((AL.1 h).2.2.2.1 b w).2⟩⟩⟩,λN=>H2 λh=>N ((AL.1 h).2.2.2.1 b w).1⟩⟩⟩;refine⟨Ei.2 ⟨by omega,by omega,l,by simp⟩,λ_ k B=>⟨λK=>?_,λK=>?_⟩⟩;let⟨r,U,V,p⟩:=Ei.1 B;let⟨a,I⟩:=Sx.get_at r (show k<(s.a.length:Int) by omega);simp only[d9 I,at0,B1];refine⟨by omega,λ_=>⟨by omega,λ_=>⟨by omega,λ_=>⟨l,λ_=>⟨λM=>⟨⟨by omega,by omega⟩,λ_=>⟨Ei.2 ⟨by omega,by omega,l,?_⟩,λ_=>by omega⟩⟩,λM=>H2 λh=>M<|Vj (AL.1 h).2.2.2.2.1 I q<|by omega⟩⟩⟩⟩⟩;rw[m8 r I];intro z g;obtain g|g:=Xv.1 g;exact p z g;cases Yh.1 g;rw[u];exact M
  .obtain⟨r,U,V,p⟩:=Ei.1 B;have G:k=i:=by omega
   subst G;rw[u]at p;refine⟨⟨by omega,by omega⟩,λ_=>⟨Eh.2 ⟨by omega,by omega,?_,?_⟩,λ_=>by omega⟩⟩;rw[m8 E q];intro z g;obtain g|g:=Xv.1 g;exact C z g;cases Yh.1 g;exact⟨N,hv⟩;rw[m8 E q];exact OM D p
 .obtain⟨E,i1,C,D⟩:=Eh.1 S;rw[v7<|by omega]at C D;refine⟨⟨by omega,by omega,by simp[iL]⟩,λ_ j ⟨T,j1,P⟩=>⟨λo=>?_,λo=>?_⟩⟩
  .obtain⟨c,Q⟩:=Sx.get_at T o;have m:=I7 (f:=c8.y) Q;have J:(s.c.map c8.y).getD j.toNat []=c.y:=by rw[Xp,m];rfl
   simp only[H7 Q,t2,B1,J];refine⟨⟨by omega,by omega,o,.inr<|by simp⟩,λ_ k ⟨r,U,V,p⟩=>⟨λL=>?_,λL=>?_⟩⟩;let⟨d,R⟩:=Sx.get_at r (show k<(s.c.length:Int) by omega);have A:=I7 (f:=c8.y) R;simp only[H7 R,t2,B1];refine⟨by omega,λ_=>⟨o,λ_=>⟨λe=>⟨⟨by omega,by omega⟩,λ_=>⟨⟨by omega,by omega,o,.inl e⟩,λ_=>by omega⟩⟩,λe=>⟨by omega,λ_=>⟨o,λ_=>⟨by omega,λ_=>⟨by omega,λ_=>⟨λF=>H2 λh=>GB A m (by omega) e F.symm (AL.1 h).2.2.2.2.2,λF=>⟨⟨by omega,by omega⟩,λ_=>⟨⟨by omega,by omega,o,.inr λz g=>?_⟩,λ_=>by omega⟩⟩⟩⟩⟩⟩⟩⟩⟩⟩;rw[m8 r A]at g;obtain g|g:=Xv.1 g;exact(p.resolve_left e) z g;cases Yh.1 g;exactλc=>F c.symm
   .have G:k=j:=by omega
    subst G;refine⟨⟨by omega,by omega⟩,λ_=>⟨⟨by omega,by omega,rS T m P p⟩,λ_=>by omega⟩⟩
  rw[v7<|by grind]at P;exact⟨λ_=>AL.2 ⟨O,by omega,by omega,C,D,P⟩,λ_=>trivial⟩
def xk :vcOne:=by
 rintro _ _ _ _ _ _ ⟨s,rfl,rfl,rfl,rfl,rfl,rfl⟩;have B:=Qy s;simp only[Nd,K2,y4,forall_eq,R9,W5,G7,M8,G5,O8,Hs,ln,Xc,Yf,Yo,Yk,XE];refine⟨λf=>?_,λf=>⟨λb=>⟨λd=>⟨λg=>B b d<|.inl g,λg=>⟨λe=>B b d<|.inr e,λe=>H2 λh=>?_⟩⟩,λd=>H2 λh=>?_⟩,λb=>H2 λh=>?_⟩⟩
 .have i:bN s↔(D7 s.x/\s.t=[]/\s.y=[]/\s.a=[]/\s.c=[]):=by rw[bN];simp[f]
  simp_all
 all_goals
  rcases h<;>grind
open Go Go.Xe Go.Sx
variable {c:List c8}
def Dz {a i n:Int}:tU [.l (rows c),.i a] [.i i,.i n]↔0<=i/\i<=(c.length:Int)/\1<=a/\1<=n/\n<=1000+64*a/\(n<=64↔AllAs (c.take i.toNat)/\(c8.e (c.take i.toNat):Int)+1<=a/\c8.d (c.take i.toNat)+1<=64)/\(n<=64->n=c8.d (c.take i.toNat)+1):=by simp only[tU,ln,Xc,bD,forall_eq']
def SK {b i n m:Int}{a:c8}(h:tU [.l (rows c),.i b] [.i i,.i n])(d:c[i.toNat]? =a)(B:¬64<n)(m1:1<=m)(F:m<=1000+64*(b+(-1)))(g:m<=64↔Fits a (b+(-1)))(e:m<=64->m=a.h):tU [.l (rows c),.i b] [.i (i+1),.i<|n+m]:=by let⟨f,w,o,x,y,p,z⟩:=Dz.1 h;have A:=(WM.1 d).1;let⟨k,u,v⟩:=p.1 (by omega);refine Dz.2 ⟨by omega,by omega,o,by omega,by omega,?_,?_⟩;rw[m8 f d,kR,fJ,bL,LH,Qz];constructor;intro q;let⟨j,s,t⟩:=g.1 (by omega);refine⟨⟨k,j,trivial⟩,by omega,by omega⟩;rintro ⟨⟨C,r,_⟩,D,E⟩;have:=e<|g.2 ⟨r,by omega,by omega⟩;omega;intro q;rw[m8 f d,bL,LH];omega
def qr (N:Nat):we N:=by
 rintro _ _ _ _ _ _ q ⟨⟨M,Q,s,rfl,rfl,rfl,rfl,rfl,rfl⟩,o⟩;have o:q.toNat<N+1:=o;have R:=Y2 s;have S:=G8 s;have no:∀n:Int,64<n->n<=1000+64*q-> ¬Fits s q->W4 [.i s.k,.s s.t,.s s.y,.l<|s.a.map Att.d,.s s.x,.l<|rows s.c,.i q] [.i n]:=λn O B P=>by refine⟨by omega,B,λa e=>?_⟩;rw[y4]at e;grind
 simp only[Nd,K2,y4,forall_eq,I64];refine⟨λD=>⟨no _ (by omega) (by omega) λf=>by have:=f.2.1;omega,λ_=>trivial⟩,λD=>⟨⟨s,rfl,rfl,rfl,rfl,rfl,rfl⟩,λ_ b v=>⟨λu=>?_,λr=>⟨no _ (by omega) (by omega) λf=>r<|v.2 ((B4 s).1 f.1).1,λ_=>trivial⟩⟩⟩⟩;have j:=v.1 u;have A:=(Z1 j).1;refine⟨Dz.2 ⟨by omega,by omega,by omega,by omega,by omega,by simp[AllAs,c8.e,c8.d];omega,by simp[c8.d]⟩,λ_ i n w=>?_⟩;let⟨E,T,U,F,z,p,G⟩:=Dz.1 w;have L:ln (rows s.c)=(s.c.length:Int):=by grind
 simp only[L];refine⟨λg=>⟨λd=>⟨no n d z λf=>?_,λ_=>trivial⟩,λd=>?_⟩,λg=>⟨?_,λ_=>trivial⟩⟩;have:=Cc s.c i.toNat;have:=Hz s.c i.toNat;have:=p.2 ⟨bM (((B4 s).1 f.1).2) _,by have:=f.2.1;omega,by have:=f.2.2;omega⟩;omega;let⟨a,e⟩:=Sx.get_at E g;simp only[cI,cS,cL,H7 e,t0,t1,t2,t3,t4,t5,U8,B1,S0,W4,gC,sH,y4,forall_eq,exists_eq,Yo];refine⟨by omega,λ_=>⟨g,λ_=>⟨⟨by omega,by omega⟩,λ_=>⟨(by grind),λ_ m ⟨m1,I,J,K⟩=>⟨⟨by omega,by omega⟩,λ_=>⟨⟨by omega,by omega⟩,λ_=>⟨SK w e d m1 I J K,λ_=>⟨?_,λ_=>trivial⟩⟩⟩⟩⟩⟩⟩⟩;show(((rows s.c).length:Int)-(i+1)).toNat<(((rows s.c).length:Int)-i).toNat;rw[Xc];omega;rw[v7<|by omega]at p G;refine⟨F,z,λa e=>?_⟩;rw[y4]at e;subst e;refine⟨⟨λh=>?_,λf=>?_⟩,λh=>by omega⟩;let⟨H,V,W⟩:=p.1 h;exact⟨(B4 _).2 ⟨j,H⟩,by omega,by omega⟩;exact p.2 ⟨((B4 _).1 f.1).2,by have:=f.2.1;omega,by have:=f.2.2;omega⟩
def qu :wh:=by
 rintro _ _ _ _ _ _ ⟨s,rfl,rfl,rfl,rfl,rfl,rfl⟩;simp only[Nd,W4,gC,W3,M6,y4,forall_eq,exists_eq,Yo,Yf];have V:Fits s 6↔A9 s:=⟨λf=>⟨f.1,f.2.2,by have:=f.2.1;omega⟩,λv=>⟨v.1,by have:=v.2.2;omega,v.2.1⟩⟩
 grind
end Go.D
namespace Go.D
open Go Go.Xe Go.Sx Go.RowKit
open Go.Proofs
def TZ :∀g t,LO g=some t->nE PR g t:=Tj (nE.b 4 (by kernel_rfl) (by kernel_rfl) (by kernel_rfl) (by kernel_rfl)<|by kernel_rfl) Tf
def MX (a:PR.follows .mixedOrders):Is PR LVn:=λw=>IB a TZ MW w
noncomputable def LV :Aa:=Em LVn nA LO
def LV_ok (b:PR.follows .mixedOrders):∀g t,LV g=some t->nE PR g t:=by
 intro g t h;rw[LV,Em] at h;cases a:Nat.beq g LVn with
 |true=>rw[a,Xa,WJ]at h;rw[<-h,WO a];exact Tk<|MX b|false=>rw[a,Xb]at h;exact TZ g t h
noncomputable def ρh :Go.Shelf.Ren:=⟨λn=>bif Nat.beq n 27 then 119 else bif Nat.beq n 28 then 120 else n,λt=>bif Nat.beq t 22 then 41 else t,λg=>g⟩
noncomputable def ieh :Ba:=(PR.info? tHd).getD default
def PM :PR.info? tHd=ieh:=by kernel_rfl
def Gx :ieh.size=2:=by kernel_rfl
def zvH :Av:= .agg #[.int .u32 0,.int .u32 0]
def delH :KP PR 159 ρh tHd ieh zvH where
 V:=⟨DH PR 159,by kernel_rfl,by kernel_rfl,by kernel_rfl,by kernel_rfl⟩
 d:=by kernel_rfl
 l:=PM
 h:=by kernel_rfl
 s:=rfl
 J:=by kernel_rfl
 u:=rfl
 D:=Yu (by kernel_rfl)
def insH :mQ PR 73 ρh tHd ieh zvH where
 fn:=⟨DH PR 73,by kernel_rfl,by kernel_rfl,by kernel_rfl,by kernel_rfl⟩
 d:=by kernel_rfl
 V:=by kernel_rfl
 h:=PM
 l:=by kernel_rfl
 D:=rfl
 u:=by kernel_rfl
 J:=by rw[Gx];decide
 s:=Yu (by kernel_rfl)
 fo:=⟨DH PR 119,by kernel_rfl,by kernel_rfl⟩
 nT:=by kernel_rfl
def A1 :j3 PR U0 LV (dk "lives") LVn:=Ol rfl "lives"
def L6 :M4 PR U0 LV [(LVn,dk "lives")]:=⟨A1,trivial⟩
def noX :iK PR U0 LV []:=trivial
def SP :j3 PR U0 LV nl 161:=i5 eD L6 noX 400 ne mz<|z8 rfl
def VG :j3 PR U0 LV cText 160:=i5 eD L6 noX 400 pf oz<|z8 rfl
def stA1 :M4 PR U0 LV (dX 1):=⟨SP,VG,A1,trivial⟩
def SO :j3 PR U0 LV np 105:=i5 eD stA1 noX 400 nh ng<|z8 rfl
def stA2 :M4 PR U0 LV (dX 2):=⟨SO,A1,trivial⟩
def VH :j3 PR U0 LV oh 104:=E8 eD stA2 noX 400 kL oy ox<|λn=>z8 rfl
def stA3 :M4 PR U0 LV (dX 3):=⟨VH,A1,trivial⟩
def xF :j3 PR U0 LV gz 42:=i5 eD stA3 noX 400 vcChk_eq vcChk_ok<|z8 rfl
def UC :j3 PR U0 LV cCpd 98:=E8 eD L6 noX 400 BW ZV ZU<|λn=>z8 rfl
def r_at :RRO PR U0 LV cAt 68:=U3 aQ L6 noX 400 vcAt_eq vcAt_ok<|z8 rfl
def r_vld :RRO PR U0 LV cVld 97:=U3 aQ L6 noX 400 rq rm<|z8 rfl
def r_plc :RRO PR U0 LV cPlc 71:=U3 aQ L6 noX 400 xc xb<|z8 rfl
def xB1 :iK PR U0 LV (yX 1 PR):=⟨⟨I1 r_at,rfl⟩,trivial⟩
def r_abo :RRO PR U0 LV cAbo 69:=U3 aQ L6 xB1 400 vcAbo_eq vcAbo_ok<|z8 rfl
def xO :iK PR U0 LV (aI 0 PR):=⟨⟨I1 r_at,rfl⟩,⟨I1 r_vld,rfl⟩,⟨I1 r_plc,rfl⟩,⟨I1 r_abo,rfl⟩,trivial⟩
def stO :M4 PR U0 LV (Kn 0):=⟨xF,A1,trivial⟩
def g_stx :j3 PR U0 LV cStx 126:=i5 KT stO xO 400 tj ti<|z8 rfl
def g_plk :j3 PR U0 LV cPlk 130:=i5 KT stO xO 400 wz wy<|z8 rfl
def xK :iK PR U0 LV (Eo 0 PR):=by have a:=JU (U:=U0) (Y:=LV) delH rfl;have b:=Wt (JZ (U:=U0) (W:=LV) insH rfl rfl) (by kernel_rfl) rfl;rw[Gx]at a b;exact⟨⟨a,rfl⟩,⟨b,rfl⟩,xO⟩
def UH :j3 PR U0 LV cIns 27:=i5 BP L6 xK 400 yv yu<|z8 rfl
def g_rem :j3 PR U0 LV cRem 54:=i5 BP L6 xK 400 vu vt<|z8 rfl
def g_mov :j3 PR U0 LV cMov 128:=i5 BP L6 xK 400 xz xy<|z8 rfl
def UD :j3 PR U0 LV cCre 61:=i5 Ug stO xO 400 ZS ZR<|z8 rfl
def g_cmp :j3 PR U0 LV cCmp 188:=i5 BO stO noX 400 ZZ ZY<|z8 rfl
def UB :j3 PR U0 LV cCed 146:=i5 BO stO noX 400 vcCed_eq vcCed_ok<|z8 rfl
def stF1 :M4 PR U0 LV (Fa 1):=⟨g_cmp,xF,UB,A1,trivial⟩
def g_app :j3 PR U0 LV cApp 148:=i5 BO stF1 noX 400 vcApp_eq vcApp_ok<|z8 rfl
def stG :M4 PR U0 LV (RA 0):=⟨UB,g_app,A1,trivial⟩
def UE :j3 PR U0 LV cEdt 89:=i5 Uh stG xO 400 ST LT<|z8 rfl
def r_hds :RRO PR U0 LV cHds 134:=U3 tR L6 xO 400 ze za<|z8 rfl
def r_wai :RRO PR U0 LV cWai 135:=U3 tR L6 xO 400 rk rh<|z8 rfl
def xH1 :iK PR U0 LV (yY 1 PR):=⟨⟨I1 r_hds,rfl⟩,xO⟩
def r_roo :RRO PR U0 LV cRoo 83:=U3 tR L6 xH1 400 uz uw<|z8 rfl
def QK :RRO PR U0 LV lf 50:=U3 tR L6 xO 400 yn ym<|z8 rfl
def r_tre :RRO PR U0 LV cTre 48:=Tu Ui L6 xO 400 HH si sh<|z8 rfl
def stM :M4 PR U0 LV (RB 0):=⟨xF,UC,A1,trivial⟩
def xM :iK PR U0 LV (QD 0 PR):=⟨⟨I1 r_tre,rfl⟩,xO⟩
def QL :RRO PR U0 LV cTee 12:=U3 Uj stM xM 400 sv su<|z8 rfl
def g_frc :j3 PR U0 LV cFrc 91:=E8 Uk L6 xO 400 Ce zq zp<|λn=>z8 rfl
def stP :M4 PR U0 LV (RC 0):=⟨g_frc,A1,trivial⟩
def UG :j3 PR U0 LV cFre 46:=i5 Ul stP xO 400 zn zm<|z8 rfl
def DL :j3 PR U0 LV ld 136:=i5 mS L6 noX 400 mn ml<|z8 rfl
def IM :j3 PR U0 LV ol 137:=i5 mS L6 noX 400 pz py<|z8 rfl
def stV1 :M4 PR U0 LV (kI 1):=⟨DL,IM,A1,trivial⟩
def g_one :j3 PR U0 LV cOne 144:=i5 mS stV1 noX 400 xl xk<|z8 rfl
def stV2 :M4 PR U0 LV (kI 2):=⟨g_one,A1,trivial⟩
def PA :j3 PR U0 LV lm 88:=E8 mS stV2 noX 400 sH qt qr<|λn=>z8 rfl
def stV3 :M4 PR U0 LV (kI 3):=⟨PA,A1,trivial⟩
def IL :j3 PR U0 LV lq 22:=i5 mS stV3 noX 400 qv qu<|z8 rfl
def g_equ :j3 PR U0 LV cEqu 55:=E8 KU L6 noX 400 Gn Eq zy<|λn=>z8 rfl
def stW1 :M4 PR U0 LV (Ko 1):=⟨IL,g_equ,A1,trivial⟩
def UK :j3 PR U0 LV cSam 15:=i5 KU stW1 noX 400 uk uh<|z8 rfl
def Ll :j3 PR U0 LV rc 30:=i5 aS L6 noX 400 wj wi<|z8 rfl
def PB :j3 PR U0 LV cRcp 132:=i5 aS L6 noX 400 wc wa<|z8 rfl
def UJ :j3 PR U0 LV cRpl 142:=i5 aS L6 noX 400 uu ut<|z8 rfl
def PE :j3 PR U0 LV cRput 143:=i5 aS L6 noX 400 qi qh<|z8 rfl
def PF :j3 PR U0 LV cRwit 133:=i5 aS L6 noX 400 pl pk<|z8 rfl
def UF :j3 PR U0 LV cFnd 138:=i5 aS L6 noX 400 zu zt<|z8 rfl
def PD :j3 PR U0 LV cRins 176:=i5 aS L6 noX 400 qm ql<|z8 rfl
def ni :M4 PR U0 LV (dY 0):=⟨DL,IM,Ll,PB,UJ,PE,PF,UF,PD,A1,trivial⟩
def g_rap :j3 PR U0 LV cRap 140:=i5 aR ni noX 400 wv wq<|z8 rfl
def stQ1 :M4 PR U0 LV (dY 1):=⟨DL,IM,Ll,PB,UJ,PE,PF,UF,PD,g_rap,A1,trivial⟩
def PC :j3 PR U0 LV ot 85:=i5 aR ni noX 400 qq qp<|z8 rfl
def Py :j3 PR U0 LV ou 86:=i5 aR stQ1 noX 400 qz qy<|z8 rfl
def VF :j3 PR U0 LV cRtxt 127:=i5 aR ni noX 400 po pm<|z8 rfl
def VB :j3 PR U0 LV cRplk 131:=i5 aR ni noX 400 qk qj<|z8 rfl
def VC :j3 PR U0 LV om 78:=i5 aR ni noX 400 qg qf<|z8 rfl
def g_rmv :j3 PR U0 LV cRmv 129:=i5 aR ni noX 400 vi vh<|z8 rfl
def UI :j3 PR U0 LV cRns 87:=i5 aR ni noX 400 ve vd<|z8 rfl
def Pz :j3 PR U0 LV lr 76:=E8 BQ L6 noX 400 sG qx qw<|λn=>z8 rfl
def VE :j3 PR U0 LV oi 82:=E8 BQ L6 noX 400 zU pw pu<|λn=>z8 rfl
def stS1 :M4 PR U0 LV (Fe 1):=⟨Ll,PB,Pz,A1,trivial⟩
def VA :j3 PR U0 LV oo 79:=i5 BQ stS1 noX 400 qo qn<|z8 rfl
def r_pck :RRO PR U0 LV cPck 121:=U3 iD L6 noX 400 xg xf<|z8 rfl
def r_hnd :RRO PR U0 LV cHnd 81:=U3 iD L6 noX 400 yy yx<|z8 rfl
def g_tag :j3 PR U0 LV cTag 122:=i5 iD L6 noX 400 tf te<|z8 rfl
def g_nms :j3 PR U0 LV cNms 124:=i5 iD L6 noX 400 xu xt<|z8 rfl
def g_txt :j3 PR U0 LV cTxt 123:=i5 iD L6 noX 400 ry rx<|z8 rfl
def g_asm :j3 PR U0 LV cAsm 80:=i5 iD L6 noX 400 vcAsm_eq vcAsm_ok<|z8 rfl
def xX :iK PR U0 LV (QF 0 PR):=⟨⟨I1 r_pck,rfl⟩,trivial⟩
def stX :M4 PR U0 LV (RD 0):=⟨g_tag,g_nms,g_txt,UD,UE,g_stx,g_plk,UH,g_rem,g_mov,UG,PC,Py,VF,VB,UI,VC,g_rmv,VA,A1,trivial⟩
def g_do :j3 PR U0 LV cDo 75:=i5 Um stX xX 400 vcDo_eq vcDo_ok<|z8 rfl
def xY :iK PR U0 LV (QG 0 PR):=⟨⟨I1 QK,rfl⟩,⟨I1 QL,rfl⟩,⟨I1 r_roo,rfl⟩,⟨I1 r_wai,rfl⟩,⟨I1 r_hnd,rfl⟩,trivial⟩
def stY :M4 PR U0 LV (RE 0):=⟨VE,IL,UK,g_asm,A1,trivial⟩
def r_sme :RRO PR U0 LV cSme 35:=U3 Un stY xY 400 ue ud<|z8 rfl
def zg :zk:=by
 rw[zk];rintro i g S fr A C E F G H I J L P N ⟨y,v,l,m,hR0,j⟩;refine nin<|nrn<|ndi ⟨y,v,l,m,hR0,j⟩ λk t a x R Q M pi pg ch r hL=>?_;have hL:if z9 S i g then _ else r=11:=hL
 by_cases hv:z9 S i g
 .rw[Xg hv]at hL;let⟨_,_,_,_,_,_,_,_,_,_,B⟩:=hL;refine⟨λ_=>nin<|nrn<|ndi ⟨y,v,⟨l,m,hR0,j⟩,hv⟩ λO q=>?_,λh=>absurd B h⟩;let⟨c,u⟩:=hR0.d.1 hv;obtain⟨s,s1,s2,_⟩:=YX u;have p:0<ln O:=by rw[q l m c ⟨fr,A,hR0⟩ j u,Z4 j s1 s2];rw[ln];simp
  refine ag<|nin<|nin<|ndi p<|nrn<|nrn<|ndt λD K o w=>?_;let⟨d,f,b⟩:=o;let⟨z,e⟩:=b.d.1 hv;rw[e];exact⟨rfl,q D K z ⟨d,f,b⟩ w e⟩
 .rw[Xd hv]at hL;refine⟨λh=>by omega,λ_=>ndt λD K o w=>?_⟩;let⟨d,f,b⟩:=o;cases h:D.m i g with
  |none=>exact⟨hL,rfl⟩|some c=>exact absurd (b.d.2 ⟨c,h⟩) hv
def Wa :RRO PR U0 LV fh oF:=r_co2 (by kernel_rfl) (by kernel_rfl) (by kernel_rfl) (by kernel_rfl) QK
def r_ha2 :RRO PR U0 LV cHa2 13:=U3 OD L6 (show iK PR U0 LV (LJ 0 PR)from⟨⟨I1 QK,rfl⟩,⟨I1 Wa,rfl⟩,trivial⟩) 400 zh zg<|z8 rfl
def g_mn1 :j3 PR U0 LV cMn1 43:=E8 OF (show M4 PR U0 LV (Mu 0)from⟨UD,UE,UH,UG,A1,trivial⟩) noX 400 GK yg yf<|λn=>z8 rfl
def g_mnt :j3 PR U0 LV cMnt 10:=i5 aB (show M4 PR U0 LV (W7 1)from⟨xF,g_mn1,A1,trivial⟩) noX 400 yd yc<|z8 rfl
def g_eqb :j3 PR U0 LV cEqb 164:=i5 aB L6 noX 400 Id Fd<|z8 rfl
def g_smn :j3 PR U0 LV cSmn 106:=E8 aB (show M4 PR U0 LV (W7 2)from⟨g_eqb,A1,trivial⟩) noX 400 HB tz tw<|λn=>z8 rfl
def g_stp :j3 PR U0 LV cStp 58:=i5 aB (show M4 PR U0 LV (W7 3)from⟨xF,UC,A1,trivial⟩) noX 400 tr tq<|z8 rfl
def g_nsm :j3 PR U0 LV cNsm 57:=i5 aB (show M4 PR U0 LV (W7 4)from⟨xF,g_smn,A1,trivial⟩) noX 400 xq xp<|z8 rfl
def r_is :RRO PR U0 LV cIs 19:=U3 aB (show M4 PR U0 LV (W7 5)from⟨xF,g_nsm,g_stp,A1,trivial⟩) (show iK PR U0 LV (fZ 5 PR)from⟨⟨I1 QL,rfl⟩,trivial⟩) 400 vcIs_eq vcIs_ok<|z8 rfl
open Go Go.Xe Go.Sx
def vcCnt :Prop:=
 ∀a c d f g h,Pf [.i a,.s c,.s d,.l f,.s g,.l h]->Nd (bH [.l (pQ (b9 6 1 [.i a,.s c,.s d,.l f,.s g,.l h]) 0 1),.i 1,.i 0,.i 0]) (∀j k m,I9 [.l (pQ (b9 6 1 [.i a,.s c,.s d,.l f,.s g,.l h]) 0 1),.i 1,.i 0,.i 0] [.b j,.i k,.i m]->((j=true->Nd (wU [.i a,.s c,.s d,.l f,.s g,.l h] [.i k]) True)/\(¬j=true->Nd (wU [.i a,.s c,.s d,.l f,.s g,.l h] [.i 0]) True)))
def ZX :kq cCnt OC (Ms 0) (Tm 0) 18=vcCnt:=by kernel_rfl
open Go Go.Xe Go.Sx
def ZW :vcCnt:=by
 rintro _ _ _ _ _ _ ⟨s,rfl,rfl,rfl,rfl,rfl,rfl⟩;have e:pQ (b9 6 1 [(.i s.k),(.s s.t),(.s s.y),(.l<|s.a.map Att.d),(.s s.x),(.l<|rows s.c)]) 0 1=[s.m]:=by rw[T6];rfl
 simp only[Nd,e,bH,I9,wU,y4,Yl,Yo,sL,forall_eq',forall_eq,exists_eq',Yk,Yf];refine⟨by omega,λ_ b n d ⟨p,q,r,u,f,h⟩=>⟨λe=>?_,λe v=>absurd (f.2 ⟨v.1,by have:=v.2.2;omega,by have:=v.2.1;omega⟩) e⟩⟩;let⟨g,m,o⟩:=f.1 e;have:=(h e).1;exact⟨λ_=>by omega,λj=>absurd ⟨g,by omega,by omega⟩ j⟩
open Go Go.Xe Go.Sx
def ss :Prop:=
 ∀a,AS [.i a]->Nb ((a:Int).tmod 4) 4 (Nd ((a:Int).tmod 4<4)<|Nd (AT [.i a] [.s (cS (b9 1 4 [.s ([97]:Ae),.s ([98]:Ae),.s ([112,49]:Ae),.s ([115,105,120,116,101,101,110,98,121,116,101,115,116,97,103,48]:Ae)]) ((a:Int).tmod 4) 0)]) True)
def sr :kq cTgx iU (lU 0) (vO 0) 39=ss:=by kernel_rfl
def dA :a8:=(b9 1 4 [(.s []),(.s ([120]:Ae)),(.s ([97,34,98,92,99]:Ae)),(.s ([32,126]:Ae))])
def vcAts :Prop:=
 Ca ([99,108,97,115,115]:Ae) λV=>Ca ([105,100]:Ae) λW=>Ca ([122,57]:Ae) λX=>∀a,Dq [.i a]->Ca (Sx.shrI .u8 a 3) λT=>Ca (Sx.shrI .u8 a 3+1) λZ=>Ca (Sx.shrI .u8 a 3+2) λY=>(((Sx.shrI .u8 a 0:Int).tmod 2=1->Nd (I64<|IntKind.wrap .u8 T) (Nb ((IntKind.wrap .u8 T:Int).tmod 4) 4<|Nd ((IntKind.wrap .u8 T:Int).tmod 4<4)<|((Sx.shrI .u8 a 1:Int).tmod 2=1->Nd (I64<|IntKind.wrap .u8 Z) (Nb ((IntKind.wrap .u8 Z:Int).tmod 4) 4<|Nd ((IntKind.wrap .u8 Z:Int).tmod 4<4)<|((Sx.shrI .u8 a 2:Int).tmod 2=1->Nd (I64<|IntKind.wrap .u8 Y) (Nb ((IntKind.wrap .u8 Y:Int).tmod 4) 4<|Nd ((IntKind.wrap .u8 Y:Int).tmod 4<4)<|Nd (bQ [.i a] [.l (b9 2 3 [.s V,.s<|cS dA ((IntKind.wrap .u8 T:Int).tmod 4) 0,.s W,.s<|cS dA ((IntKind.wrap .u8 Z:Int).tmod 4) 0,.s X,.s<|cS dA ((IntKind.wrap .u8 Y:Int).tmod 4) 0])]) True))/\(¬(Sx.shrI .u8 a 2:Int).tmod 2=1->Nd (bQ [.i a] [.l (b9 2 2 [.s V,.s<|cS dA ((IntKind.wrap .u8 T:Int).tmod 4) 0,.s W,.s<|cS dA ((IntKind.wrap .u8 Z:Int).tmod 4) 0])]) True)))/\(¬(Sx.shrI .u8 a 1:Int).tmod 2=1->(((Sx.shrI .u8 a 2:Int).tmod 2=1->Nd (I64<|IntKind.wrap .u8 Y) (Nb ((IntKind.wrap .u8 Y:Int).tmod 4) 4<|Nd ((IntKind.wrap .u8 Y:Int).tmod 4<4)<|Nd (bQ [.i a] [.l (b9 2 2 [.s V,.s<|cS dA ((IntKind.wrap .u8 T:Int).tmod 4) 0,.s X,.s<|cS dA ((IntKind.wrap .u8 Y:Int).tmod 4) 0])]) True))/\(¬(Sx.shrI .u8 a 2:Int).tmod 2=1->Nd (bQ [.i a] [.l (b9 2 1 [.s V,.s<|cS dA ((IntKind.wrap .u8 T:Int).tmod 4) 0])]) True)))))/\(¬(Sx.shrI .u8 a 0:Int).tmod 2=1->(((Sx.shrI .u8 a 1:Int).tmod 2=1->Nd (I64<|IntKind.wrap .u8 Z) (Nb ((IntKind.wrap .u8 Z:Int).tmod 4) 4<|Nd ((IntKind.wrap .u8 Z:Int).tmod 4<4)<|((Sx.shrI .u8 a 2:Int).tmod 2=1->Nd (I64<|IntKind.wrap .u8 Y) (Nb ((IntKind.wrap .u8 Y:Int).tmod 4) 4<|Nd ((IntKind.wrap .u8 Y:Int).tmod 4<4)<|Nd (bQ [.i a] [.l (b9 2 2 [.s W,.s<|cS dA ((IntKind.wrap .u8 Z:Int).tmod 4) 0,.s X,.s<|cS dA ((IntKind.wrap .u8 Y:Int).tmod 4) 0])]) True))/\(¬(Sx.shrI .u8 a 2:Int).tmod 2=1->Nd (bQ [.i a] [.l (b9 2 1 [.s W,.s<|cS dA ((IntKind.wrap .u8 Z:Int).tmod 4) 0])]) True)))/\(¬(Sx.shrI .u8 a 1:Int).tmod 2=1->(((Sx.shrI .u8 a 2:Int).tmod 2=1->Nd (I64<|IntKind.wrap .u8 Y) (Nb ((IntKind.wrap .u8 Y:Int).tmod 4) 4<|Nd ((IntKind.wrap .u8 Y:Int).tmod 4<4)<|Nd (bQ [.i a] [.l (b9 2 1 [.s X,.s<|cS dA ((IntKind.wrap .u8 Y:Int).tmod 4) 0])]) True))/\(¬(Sx.shrI .u8 a 2:Int).tmod 2=1->Nd (bQ [.i a] [.l []]) True))))))
def vcAts_eq :kq cAts iU (lU 0) (vO 0) 40=vcAts:=by kernel_rfl
def jH :a8:=(b9 1 4 [(.s ([107,48]:Ae)),(.s ([107,49]:Ae)),(.s ([107,50]:Ae)),(.s ([107,51]:Ae))])
def Lu :a8:=(b9 1 4 [(.s []),(.s ([120]:Ae)),(.s ([104,105,32,34,121,111,117,92]:Ae)),(.s ([48]:Ae))])
def vcBld n:=
 ∀b f d,(nI [.l b,.i f,.i d]/\pA [.l b,.i f,.i d]<n+1)->Ca [.l b,.i f,.i d] λV=>Nd (bR V [.i f,.l []]) (∀c a,bR V [.i c,.l a]->Ca (Nd (aE V [.l a,.i c]) True) λG=>Ca (ln a+1) λH=>Ca [.i c,.l a] λK=>Ca (ln a+1<67108865) λX=>Ca [.l b,.i<|c+1,.i<|d+1] λW=>((c<ln b->((c<19->Nb c (ln b) (Nd (I64<|c+1)<|((cI b c 0:Int).tmod 8=0->Nq (ln a) (Nd (aE V [.l a,.i<|c+1]) True))/\(¬(cI b c 0:Int).tmod 8=0->((ln a=16->Nq (ln a) (Nd (bR V [.i (c+1),.l a])<|Nd (eF V [.i (c+1),.l a]<eF V K) True))/\(¬ln a=16->(((cI b c 0:Int).tmod 8<3->Nb ((IntKind.wrap .u8 ((cI b c 0:Int).tdiv 8):Int).tmod 4) 4 (Nd ((IntKind.wrap .u8 ((cI b c 0:Int).tdiv 8):Int).tmod 4<4)<|Ni (ln a)<|Nd X<|Nr (ln a)<|Nq H<|Nd (bR V [.i (c+1),.l<|a++b9 6 1 [.i 2,.s [],.s [],.l [],.s<|cS Lu ((IntKind.wrap .u8 ((cI b c 0:Int).tdiv 8):Int).tmod 4) 0,.l []]])<|Nd (eF V [.i (c+1),.l<|a++b9 6 1 [.i 2,.s [],.s [],.l [],.s<|cS Lu ((IntKind.wrap .u8 ((cI b c 0:Int).tdiv 8):Int).tmod 4) 0,.l []]]<eF V K) True))/\(¬(cI b c 0:Int).tmod 8<3->Cg AS AT [.i (IntKind.wrap .u8<|(cI b c 0:Int).tdiv 8)] (λR=>∀j,R [.s j]->Cg Dq bQ [.i (IntKind.wrap .u8<|(cI b c 0:Int).tdiv 2)] (λR=>∀k,R [.l k]->Ca [.i (c+1),.l<|a++b9 6 1 [.i 1,.s j,.s [],.l k,.s [],.l []]] λY=>(((cI b c 0:Int).tmod 8=3->Nb ((IntKind.wrap .u8 ((cI b c 0:Int).tdiv 8):Int).tmod 4) 4 (Nd ((IntKind.wrap .u8 ((cI b c 0:Int).tdiv 8):Int).tmod 4<4)<|Nd (rR [.l a,.s j,.s<|cS jH ((IntKind.wrap .u8 ((cI b c 0:Int).tdiv 8):Int).tmod 4) 0,.l k] [.i 0,.i 1,.s j,.s<|cS jH ((IntKind.wrap .u8 ((cI b c 0:Int).tdiv 8):Int).tmod 4) 0,.l k,.s [],.l []])<|∀g h m o p q r,rR [.l a,.s j,.s<|cS jH ((IntKind.wrap .u8 ((cI b c 0:Int).tdiv 8):Int).tmod 4) 0,.l k] [.i g,.i h,.s m,.s o,.l p,.s q,.l r]->Ca [.i g,.i h,.s m,.s o,.l p,.s q,.l r] λN=>Ca [.i (g+1),.i h,.s m,.s o,.l p,.s q,.l r] λM=>Ca [.i (g+1),.i h,.s m,.s [],.l p,.s q,.l r] λL=>Ca [.i (c+1),.l<|a++b9 6 1 [.i h,.s m,.s o,.l p,.s q,.l r]] λZ=>((g<ln a->Nb g (ln a) (Nd (g<ln a)<|(cS a g 2=o->Nd (I64<|g+1) (Nd (rR [.l a,.s j,.s<|cS jH ((IntKind.wrap .u8 ((cI b c 0:Int).tdiv 8):Int).tmod 4) 0,.l k] L)<|Nd (xR [.l a,.s j,.s<|cS jH ((IntKind.wrap .u8 ((cI b c 0:Int).tdiv 8):Int).tmod 4) 0,.l k] L<xR [.l a,.s j,.s<|cS jH ((IntKind.wrap .u8 ((cI b c 0:Int).tdiv 8):Int).tmod 4) 0,.l k] N) True))/\(¬cS a g 2=o->Nd (I64<|g+1) (Nd (rR [.l a,.s j,.s<|cS jH ((IntKind.wrap .u8 ((cI b c 0:Int).tdiv 8):Int).tmod 4) 0,.l k] M)<|Nd (xR [.l a,.s j,.s<|cS jH ((IntKind.wrap .u8 ((cI b c 0:Int).tdiv 8):Int).tmod 4) 0,.l k] M<xR [.l a,.s j,.s<|cS jH ((IntKind.wrap .u8 ((cI b c 0:Int).tdiv 8):Int).tmod 4) 0,.l k] N) True))))/\(¬g<ln a->((d<5->Nd (I64<|d+1) (Nd (nI W/\pA W<n)<|∀t u,aE W [.l t,.i u]->Ca [.i u,.l<|a++b9 6 1 [.i h,.s m,.s o,.l p,.s q,.l t]] λS=>Ni (ln a)<|Nd X<|Nr (ln a)<|Nq H<|Nd (bR V S)<|Nd (eF V S<eF V K) True))/\(¬d<5->Ni (ln a) (Nd X<|Nr (ln a)<|Nq H<|Nd (bR V Z)<|Nd (eF V Z<eF V K) True)))))))/\(¬(cI b c 0:Int).tmod 8=3->((d<5->Nd (I64<|d+1) (Nd (nI W/\pA W<n)<|∀g h,aE W [.l g,.i h]->Ca [.i h,.l<|a++b9 6 1 [.i 1,.s j,.s [],.l k,.s [],.l g]] λT=>Ni (ln a)<|Nd X<|Nr (ln a)<|Nq H<|Nd (bR V T)<|Nd (eF V T<eF V K) True))/\(¬d<5->Ni (ln a) (Nd X<|Nr (ln a)<|Nq H<|Nd (bR V Y)<|Nd (eF V Y<eF V K) True))))))))))))))/\(¬c<19->Nq (ln a) G)))/\(¬c<ln b->Nq (ln a) G)))
def vcBld_eq (n:Nat):kq (cBld.g pA<|n+1) iU ((41,cBld.g pA n)::lU 1) (vO 1) 41=vcBld n:=by kernel_rfl
def sg :Prop:=
 ∀d a b,Kt [.i d,.i a,.l b]->Cg AS AT [.i d] (λR=>∀f,R [.s f]->Cg Dq bQ [.i a] (λR=>∀g,R [.l g]->(((a:Int).tmod 3=1->Cg nI aE [.l b,.i 0,.i 2] (λR=>∀c h,R [.l c,.i h]->Nd (AX [.i d,.i a,.l b] [.i 1,.s f,.s ([114,111,111,116]:Ae),.l g,.s [],.l c]) True))/\(¬(a:Int).tmod 3=1->Cg nI aE [.l b,.i 0,.i 2] (λR=>∀c h,R [.l c,.i h]->Nd (AX [.i d,.i a,.l b] [.i 1,.s f,.s [],.l g,.s [],.l c]) True)))))
def sf :kq cTrw iU (lU 2) (vO 2) 9=sg:=by kernel_rfl
open Go Go.Xe Go.Sx
def wC (x:Int):u8 (IntKind.wrap .u8 x):=by simp only[u8,IntKind.wrap,IntKind.bits,IntKind.signed];simp;omega
variable {n:Int}
def Nf (h:u8 n):n.tmod 4=0\/n.tmod 4=1\/n.tmod 4=2\/n.tmod 4=3:=by have:=Int.tmod_eq_emod_of_nonneg (a:=n) (b:=4) h.1;omega
def sn :ss:=by rw[ss];intro n a;have h:=Nf a;simp only[Nd,AT,Yo,Yf];rcases h with h|h|h|h<;>rw[h]<;>exact⟨by omega,λ_=>⟨by omega,λ_=>⟨by omega,λ_=>by decide⟩⟩⟩
def ats_v (h:u8 n):D7 (cS dA (n.tmod 4) 0):=by rcases Nf h with h|h|h|h<;>rw[h]<;>decide
def Ej {a:List Att}(h:(a.map Att.n).Sublist [[99,108,97,115,115],[105,100],[122,57]])(hv:∀x∈a,D7 x.v):oU a:=by refine⟨by simpa using h.length_le,λx b=>⟨?_,hv x b⟩,List.Pairwise.sublist h<|by unfold lt;decide⟩;have:=h.subset<|List.mem_map_of_mem (f:=Att.n) b;simp only[Xw,List.not_mem_nil,or_false]at this;rcases this with h|h|h<;>rw[h]<;>decide
variable {a:Str}
def ok1 {n:Str}(h:List.Sublist [n] [[99,108,97,115,115],[105,100],[122,57]])(b:D7 a):∃l:List Att,b9 2 1 [.s n,.s a]=l.map Att.d/\oU l:=
 ⟨[⟨n,a⟩],rfl,Ej h<|by simp[b]⟩
def ok2 {n m b:Str}(h:List.Sublist [n,m] [[99,108,97,115,115],[105,100],[122,57]])(c:D7 a)(d:D7 b):∃l:List Att,b9 2 2 [.s n,.s a,.s m,.s b]=l.map Att.d/\oU l:=
 ⟨[⟨n,a⟩,⟨m,b⟩],rfl,Ej h<|by simp[c,d]⟩
def ok3 {b c:Str}(d:D7 a)(e:D7 b)(f:D7 c):∃l:List Att,b9 2 3 [.s [99,108,97,115,115],.s a,.s [105,100],.s b,.s [122,57],.s c]=l.map Att.d/\oU l:=
 ⟨[⟨_,a⟩,⟨_,b⟩,⟨_,c⟩],rfl,Ej (List.Sublist.refl _)<|by simp[d,e,f]⟩
def vcAts_ok :vcAts:=by
 rw[vcAts];intro n f;have b:∀(x:Int) {q:Prop},(D7 (cS dA ((IntKind.wrap .u8 x).tmod 4) 0)->q)->Nd (I64<|IntKind.wrap .u8 x) (Nd (¬((((IntKind.wrap .u8 x):Int).tmod<|4)<0))<|Nd ((((IntKind.wrap .u8 x):Int).tmod<|4)<4)<|Nd ((((IntKind.wrap .u8 x):Int).tmod<|4)<4) q):=λx q a=>by have h:=wC x;have e:=Nf h;let⟨c,d⟩:=h;exact⟨⟨by omega,by omega⟩,λ_=>⟨by omega,λ_=>⟨by omega,λ_=>⟨by omega,λ_=>a<|ats_v<|wC x⟩⟩⟩⟩
 repeat' with_reducible first| (refine b _ λ_=>?_)| (refine Xm ?_ ?_)|intro _
 all_goals first
  |exact trivial
  |exact⟨[],rfl,Ej (List.nil_sublist _)<|by simp⟩
  | (refine ok1 ?_ ?_<;>first|assumption| (repeat (first|exact List.Sublist.slnil|apply List.Sublist.cons_cons|apply List.Sublist.cons)))
  | (refine ok2 ?_ ?_ ?_<;>first|assumption| (repeat (first|exact List.Sublist.slnil|apply List.Sublist.cons_cons|apply List.Sublist.cons)))
  | (refine ok3 ?_ ?_ ?_<;>assumption)
def Jj (k:Int)(t y:Str)(a:List Att)(x:Str)(c:List c8):(c8.mk k t y a x c).m=[.i k,.s t,.s y,.l<|a.map Att.d,.s x,.l<|rows c]:=T6 _
variable {l:List c8}{Z:Int}
def PU {m b:Int}{c:c8}(h:FO l Z m)(g:K0 c)(q:l.length≠16)(j:c.y=[]\/ ∀z∈l.map c8.y,z≠c.y)(p:Z+c.j<=6)(r:c.h+m<=b):FO (l++ [c]) Z b:=by let⟨k,d,f,n,o⟩:=h;refine⟨by simp;omega,(kR _ _).2 ⟨d,g,trivial⟩,?_,by rw[fJ,Qz];omega,by rw[bL,LH];omega⟩;rw[XJ];refine List.pairwise_append.2 ⟨f,List.pairwise_singleton _ _,λx i y a e=>?_⟩;simp only[XU,List.map_nil,Yh]at a;subst a;obtain h|h:=j;exact absurd h e;exact h x i
def Lv {m a:Int}(h:FO l Z m)(b:m<=a):FO l Z a:=⟨h.1,h.2.1,h.2.2.1,h.2.2.2.1,by have:=h.2.2.2.2;omega⟩
def RY {v:Str}(h:D7 v):K0 (.mk 2 [] [] [] v []):=(B4 _).2 ⟨.inl ⟨rfl,h,rfl,rfl,rfl,rfl⟩,trivial⟩
def DC {t y:Str}{a:List Att}{c:List c8}(e:v5 t)(f:y=[]\/v5 y)(b:oU a)(d:FO c Z n):K0 (.mk 1 t y a [] c):=
 (B4 _).2 ⟨.inr ⟨rfl,e,f,rfl,by have:=b.1;show a.length<=8;omega,d.1,b.2.1,b.2.2,d.2.2.1⟩,d.2.1⟩
def GC (h:Z<=6)(a:0<=n):FO [] Z n:=⟨by simp,trivial,List.Pairwise.nil,by simp[c8.e];omega,by simp[c8.d];omega⟩
def bld_v (h:u8 n):D7 (cS Lu (n.tmod 4) 0):=by rcases Nf h with h|h|h|h<;>rw[h]<;>decide
def bld_k (h:u8 n):v5 (cS jH (n.tmod 4) 0):=by rcases Nf h with h|h|h|h<;>rw[h]<;>decide
def vcBld_ok (n:Nat):vcBld n:=by
 rw[vcBld];rintro C m Z ⟨⟨K,Q,R,u,T⟩,hm⟩;simp only[pA]at hm;refine⟨⟨K,Q,by omega,R,u,T,[],rfl,GC (by omega)<|by omega⟩,λ_ i L G=>?_⟩;obtain⟨_,_,ah,hi,_,_,l,rfl,O⟩:=G;have ab:ln (rows l)=l.length:=by simp[ln]
 have X:∀j,i<=j->j<=19->aE [.l C,.i m,.i Z] [.l (rows l),.i j]:=λj h1 u=>⟨by omega,u,l,rfl,Lv O<|by omega⟩
 have hI:∀j c M,i<j->j<=19->M=[c.m]->K0 c->l.length≠16->(c.y=[]\/ ∀z∈l.map c8.y,z≠c.y)->Z+c.j<=6->c.h+i<=j->bR [.l C,.i m,.i Z] [.i j,.l<|rows l++M]:=λj c M h1 S e U o b N hs=>
  ⟨K,Q,by omega,S,u,T,l++ [c],by rw[e];simp[rows],PU O U o b N<|by omega⟩
 have ad:=O.1;have F:∀t y a L j,v5 t->(y=[]\/v5 y/\ ∀z∈l.map c8.y,z≠y)->oU a->l.length≠16->aE [.l C,.i<|i+1,.i<|Z+1] [.l L,.i j]->
   bR [.l C,.i m,.i Z] [.i j,.l<|rows l++b9 6 1 [.i 1,.s t,.s y,.l<|a.map Att.d,.s [],.l L]]/\i<j:=by
  intro t y a L j q b r o ⟨q1,q2,c,q3,q4⟩;have q5:=q4.2.2.2;refine⟨hI j (.mk 1 t y a [] c) _ (by omega) q2 (by rw[Jj,q3];rfl) (DC q (b.imp id λh=>h.1) r q4) o (b.imp id λh=>h.2) ?_ ?_,by omega⟩;rw[Y2];show Z+((c8.e c+1:Nat):Int)<=6;omega;rw[G8];show((c8.d c+1:Nat):Int)+i<=j;omega
 have W:∀t y a,v5 t->(y=[]\/v5 y/\ ∀z∈l.map c8.y,z≠y)->oU a->l.length≠16->i<19->
   bR [.l C,.i m,.i Z] [.i (i+1),.l<|rows l++b9 6 1 [.i 1,.s t,.s y,.l<|a.map Att.d,.s [],.l []]]:=by
  intro t y a q b r o h;exact hI (i+1) (.mk 1 t y a [] []) _ (by omega) (by omega) (by rw[Jj];rfl) (DC q (b.imp id λh=>h.1) r<|GC (Z:=0) (n:=0) (by omega)<|by omega) o (b.imp id λh=>h.2) (by rw[Y2];show Z+((0+1:Nat):Int)<=6;omega) (by rw[G8];show((0+1:Nat):Int)+i<=_;omega)
 have hW:∀v,D7 v->l.length≠16->i<19->bR [.l C,.i m,.i Z] [.i (i+1),.l<|rows l++b9 6 1 [.i 2,.s [],.s [],.l [],.s v,.l []]]:=λv hv o h=>by exact hI (i+1) (.mk 2 [] [] [] v []) _ (by omega) (by omega) (by rw[Jj];rfl) (RY hv) o (.inl rfl) (by rw[Y2];show Z+((0+1:Nat):Int)<=6;omega) (by rw[G8];show((0+1:Nat):Int)+i<=_;omega)
 have mu:∀j L M,i<j->i<19->eF [.l C,.i m,.i Z] [.i j,.l L]<eF [.l C,.i m,.i Z] [.i i,.l M]:=λj L M h1 u=>by simp only[eF];omega
 simp only[ab];refine Xm (λV=>Xm (λg=>?_) λ_=>⟨by omega,λ_=>⟨rfl,λ_=>⟨X _ (by omega)<|by omega,λ_=>trivial⟩⟩⟩) λ_=>⟨by omega,λ_=>⟨rfl,λ_=>⟨X _ (by omega)<|by omega,λ_=>trivial⟩⟩⟩
 refine⟨by omega,λ_=>⟨V,λ_=>⟨⟨by omega,by omega⟩,λ_=>?_⟩⟩⟩;have I:=wC<|(cI C i 0).tdiv 8;have J:=wC<|(cI C i 0).tdiv 2;generalize IntKind.wrap .u8 ((cI C i 0).tdiv 8)=w at I⊢;generalize IntKind.wrap .u8 ((cI C i 0).tdiv 2)=w2 at J⊢;have hv:=bld_v I;have p:=bld_k I;have h4:=Nf I;generalize cS Lu (w.tmod 4) 0=v at hv⊢;generalize cS jH (w.tmod 4) 0=E at p⊢;generalize w.tmod 4=w4 at h4⊢;have ai:E≠ []:=λe=>by rw[e]at p;cases p
 refine⟨λ_=>⟨by omega,λ_=>⟨rfl,λ_=>⟨X _ (by omega)<|by omega,λ_=>trivial⟩⟩⟩,λ_=>⟨λh=>?_,λh=>?_⟩⟩;exact⟨by omega,λ_=>⟨rfl,λ_=>⟨⟨K,Q,by omega,by omega,u,T,l,rfl,Lv O<|by omega⟩,λ_=>⟨mu _ _ _ (by omega) g,λ_=>trivial⟩⟩⟩⟩;have o:l.length≠16:=λe=>h (by omega);refine⟨λ_=>?_,λ_=>⟨I,λ_ t q=>⟨J,λ_ A U=>?_⟩⟩⟩;exact⟨by omega,λ_=>⟨by omega,λ_=>⟨by omega,λ_=>⟨by omega,λ_=>⟨by omega,λ_=>⟨rfl,λ_=>⟨by omega,λ_=>⟨rfl,λ_=>⟨hW v hv o g,λ_=>⟨mu _ _ _ (by omega) g,λ_=>trivial⟩⟩⟩⟩⟩⟩⟩⟩⟩⟩;obtain⟨a,rfl,r⟩:=U;have q:v5 t:=q;have T1:∀y,(y=[]\/v5 y/\ ∀z∈l.map c8.y,z≠y)->Z<5->_:=λy b ae=>(⟨⟨by omega,by omega⟩,λ_=>⟨⟨⟨K,by omega,by omega,by omega,by omega⟩,by simp only[pA];omega⟩,λ_ L j hr=>⟨by omega,λ_=>⟨by omega,λ_=>⟨rfl,λ_=>⟨by omega,λ_=>⟨rfl,λ_=>⟨(F t y a L j q b r o hr).1,λ_=>⟨mu _ _ _ (F t y a L j q b r o hr).2 g,λ_=>trivial⟩⟩⟩⟩⟩⟩⟩⟩⟩:Nd (I64<|Z+1) (Nd ((nI [.l C,.i<|i+1,.i<|Z+1])/\pA [.l C,.i<|i+1,.i<|Z+1]<n) (∀(L:a8) (j:Int),(aE [.l C,.i<|i+1,.i<|Z+1] [.l L,.i j])->Ni (l.length:Int) (Nd (((l.length:Int)+1)<67108865)<|Nr (l.length:Int)<|Ni ((l.length:Int)+1)<|Nr ((l.length:Int)+1)<|Nd (bR [.l C,.i m,.i Z] [.i j,.l<|rows l++(b9 6 1 [(.i 1),(.s t),(.s y),(.l<|a.map Att.d),(.s []),(.l L)])])<|Nd (eF [.l C,.i m,.i Z] [.i j,.l<|rows l++(b9 6 1 [(.i 1),(.s t),(.s y),(.l<|a.map Att.d),(.s []),(.l L)])]<eF [.l C,.i m,.i Z] [.i i,.l<|rows l]) True))))
 have T2:∀y,(y=[]\/v5 y/\ ∀z∈l.map c8.y,z≠y)->_:=λy b=>(⟨by omega,λ_=>⟨by omega,λ_=>⟨rfl,λ_=>⟨by omega,λ_=>⟨rfl,λ_=>⟨W t y a q b r o g,λ_=>⟨mu _ _ _ (by omega) g,λ_=>trivial⟩⟩⟩⟩⟩⟩⟩:Ni (l.length:Int) (Nd (((l.length:Int)+1)<67108865)<|Nr (l.length:Int)<|Ni ((l.length:Int)+1)<|Nr ((l.length:Int)+1)<|Nd (bR [.l C,.i m,.i Z] [.i (i+1),.l<|rows l++(b9 6 1 [(.i 1),(.s t),(.s y),(.l<|a.map Att.d),(.s []),(.l [])])])<|Nd (eF [.l C,.i m,.i Z] [.i (i+1),.l<|rows l++(b9 6 1 [(.i 1),(.s t),(.s y),(.l<|a.map Att.d),(.s []),(.l [])])]<eF [.l C,.i m,.i Z] [.i i,.l<|rows l]) True))
 refine⟨λ_=>⟨by omega,λ_=>⟨by omega,λ_=>⟨by omega,λ_=>⟨⟨by omega,by omega,rfl,rfl,rfl,rfl,rfl,.inr ⟨rfl,by simp⟩⟩,λ_ k k1 B y a' x c aa=>?_⟩⟩⟩⟩,λ_=>⟨T1 []<|.inl rfl,λ_=>T2 []<|.inl rfl⟩⟩;obtain⟨k0,k2,rfl,rfl,rfl,rfl,rfl,b⟩:=aa;have k2:k<=(l.length:Int):=by simpa using k2
 rw[fR]at b;refine⟨λH=>⟨by omega,λ_=>⟨by omega,λ_=>⟨by omega,λ_=>?_⟩⟩⟩,λH=>?_⟩
 .obtain⟨d,N⟩:=Sx.get_at k0 H;simp only[cS,H7 N,t2,B1];have st:∀D,(D=[]\/D=E/\ ∀z∈(l.map c8.y).take (k+1).toNat,z≠E)->rR [.l (rows l),.s B,.s E,.l<|a.map Att.d] [.i (k+1),.i 1,.s B,.s D,.l<|a.map Att.d,.s [],.l []]:=λD h=>⟨by omega,by simp;omega,rfl,rfl,rfl,rfl,rfl,by rw[fR];exact h⟩
  have mk:∀D ac,xR [.l (rows l),.s B,.s E,.l<|a.map Att.d] [.i (k+1),.i 1,.s B,.s D,.l<|a.map Att.d,.s [],.l []]<xR [.l (rows l),.s B,.s E,.l<|a.map Att.d] [.i k,.i 1,.s B,.s ac,.l<|a.map Att.d,.s [],.l []]:=λ_ _=>by simp only[xR,B2,Xc];omega
  refine⟨λe=>⟨⟨by omega,by omega⟩,λ_=>⟨st _<|.inl rfl,λ_=>⟨mk _ _,λ_=>trivial⟩⟩⟩,λe=>⟨⟨by omega,by omega⟩,λ_=>⟨st _<|b.imp id λh=>⟨h.1,λz P=>?_⟩,λ_=>⟨mk _ _,λ_=>trivial⟩⟩⟩⟩;rw[m8 k0 (I7 (f:=c8.y) N),Xv,Yh]at P;obtain P|rfl:=P;exact h.2 z P;rw[<-h.1];exact e
 .rw[v7 (by rw[Xc];omega)]at b;have b:y=[]\/v5 y/\ ∀z∈l.map c8.y,z≠y:=b.imp id λh=>⟨by rw[h.1];exact p,by rw[h.1];exact h.2⟩
  exact⟨T1 y b,λ_=>T2 y b⟩
def se :sg:=by
 rw[sg];rintro n y C ⟨p,q,m⟩;have d:∀t e a L,v5 t->(e=[]\/v5 e)->oU a->(∃j,aE [.l C,.i 0,.i 2] [.l L,.i j])->AX [.i n,.i y,.l C] [.i 1,.s t,.s e,.l<|a.map Att.d,.s [],.l L]:=by rintro t e a L b k f ⟨j,r,u,c,rfl,g⟩;refine⟨.mk 1 t e a [] c,⟨rfl,rfl,rfl,rfl,rfl,rfl⟩,⟨DC b k f g,?_,?_⟩,by have:=g.2.2.2.2;rw[G8];show c8.d c+1<=20;omega⟩;have:=g.2.2.2.2;rw[G8];show c8.d c+1<=64;omega;have:=g.2.2.2.1;rw[Y2];show c8.e c+1<=6;omega
 refine⟨p,λ_ t b=>⟨q,λ_ A o=>?_⟩⟩;obtain⟨a,rfl,f⟩:=o;have b:v5 t:=b;refine⟨λ_=>⟨⟨m,by omega,by omega,by omega,by omega⟩,λ_ L j h=>⟨d _ _ a _ b (.inr<|by decide) f ⟨j,h⟩,λ_=>trivial⟩⟩,λ_=>⟨⟨m,by omega,by omega,by omega,by omega⟩,λ_ L j h=>⟨d _ _ a _ b (.inl rfl) f ⟨j,h⟩,λ_=>trivial⟩⟩⟩
open Go Go.Xe Go.Sx
def vcRsp n:=
 ∀d f o c g a,(EK [.i d,.s f,.s o,.l c,.s g,.l a]/\Hr [.i d,.s f,.s o,.l c,.s g,.l a]<n+1)->Ca [.i d,.s f,.s o,.l c,.s g,.l a] λT=>Ca [.i d,.s f,.s g,.l c] λY=>Ca [.i d,.s f,.s g,.l c,.l a] λW=>Cg dC W3 T (λR=>∀z,R [.i z]->((z=0->Nd (Er Y [.i 0,.i d,.s f,.s [],.l [],.s g,.l []]) (∀h p q r j t m,Er Y [.i h,.i p,.s q,.s r,.l j,.s t,.l m]->Ca [.i (h+1),.i p,.s q,.s r,.l<|j++b9 2 1 [.s (cS c h 0),.s<|cS c h 1],.s t,.l m] λZ=>((h<ln c->Nb h (ln c) (Ni (ln j)<|Nd (ln j+1<67108865)<|Nr (ln j)<|Nd (I64<|h+1)<|Nq (ln j+1)<|Nq (ln m)<|Nd (Er Y Z)<|Nd (LP Y Z<LP Y [.i h,.i p,.s q,.s r,.l j,.s t,.l m]) True))/\(¬h<ln c->Nq (ln j) (Nq (ln m)<|Nd (Es W [.i 0,.i p,.s q,.s r,.l j,.s t,.l m])<|∀b u v w x y k,Es W [.i b,.i u,.s v,.s w,.l x,.s y,.l k]->Ca [.i (cI a b 0),.s<|cS a b 1,.s<|cS a b 2,.l<|cL a b 3,.s<|cS a b 4,.l<|cL a b 5] λV=>((b<ln a->Nb b (ln a) (Nd (EK V/\Hr V<n)<|∀A B C D F G,zT V [.i A,.s B,.s C,.l D,.s F,.l G]->Ca [.i (b+1),.i u,.s v,.s w,.l x,.s y,.l<|k++b9 6 1 [.i A,.s B,.s C,.l D,.s F,.l G]] λX=>Ni (ln k)<|Nd (ln k+1<67108865)<|Nr (ln k)<|Nd (I64<|b+1)<|Nq (ln k+1)<|Nd (Es W X)<|Nd (LQ W X<LQ W [.i b,.i u,.s v,.s w,.l x,.s y,.l k]) True))/\(¬b<ln a->Nq (ln k) (Nd (zT T [.i u,.s v,.s w,.l x,.s y,.l k]) True))))))))/\(¬z=0->Nd (zT T [.i 0,.s [],.s [],.l [],.s [],.l []]) True)))
def ur (n:Nat):kq (cRsp.g Hr<|n+1) OG ((16,cRsp.g Hr n)::Mv 0) (To 0) 16=vcRsp n:=by kernel_rfl
open Go Go.Xe Go.Sx
def MQ {l:List c8}{c:c8}(h:c∈l):c.j<=c8.e l:=by
 induction l with
 |nil=>cases h
 |cons a l b=>simp only[c8.e];obtain rfl|h:=Xw.1 h;omega;have:=b h;omega
def NS {s c:c8}{j:Nat}(v:A9 s)(h:s.c[j]? =c):A9 c:=by have b:=lN<|WT h;have d:=MQ<|WT h;have:=v.2.1;have:=v.2.2;have:=G8 s;have:=Y2 s;exact⟨O3 ((B4 s).1 v.1).2 h,by omega,by omega⟩
def ul (n:Nat):vcRsp n:=by
 rintro _ _ _ _ _ _ ⟨⟨s,⟨rfl,rfl,rfl,rfl,rfl,rfl⟩,v⟩,p⟩;let⟨w,M⟩:=Z1 ((B4 s).1 v.1).1;refine ndi ⟨s,rfl,rfl,rfl,rfl,rfl,rfl⟩ λe B=>⟨λL=>?_,λH=>absurd ((B s ⟨rfl,rfl,rfl,rfl,rfl,rfl⟩).1.2 v) H⟩
 refine ndi ⟨by omega,by omega,rfl,rfl,rfl,by simp,rfl,rfl⟩ λi k t y a x c C=>?_;obtain⟨r,F,rfl,rfl,rfl,rfl,rfl,rfl⟩:=C;rw[Xc]at F;refine⟨λh=>?_,λh=>?_⟩
 .have h:i<(s.a.length:Int):=by simpa [ln]using h
  let⟨z,q⟩:=Sx.get_at r h;have o:ln ((s.a.map Att.d).take i.toNat)=i:=by simp[ln];omega
  refine ag<|ndi (by simpa [ln]using h)<|nin<|ndi (by rw[o];omega)<|nrn<|ndi ⟨by omega,by omega⟩<|nin<|nrn<|nin<|nrn<|ndi ⟨by omega,by rw[Xc];omega,rfl,rfl,rfl,?_,rfl,rfl⟩<|ndt ?_;rw[m8 r<|I7 (f:=Att.d) q];simp only[cS,d9 q];rfl;simp only[LP,Xc];omega
 .have h:¬i<(s.a.length:Int):=by simpa [ln]using h
  rw[v7<|by rw[Xc];omega];refine nin<|nrn<|nin<|nrn<|ndi ⟨by omega,by omega,rfl,rfl,rfl,rfl,rfl,λl _=>by simp[strips]⟩ λj k t y a x c D=>?_;obtain⟨u,G,rfl,rfl,rfl,rfl,rfl,m⟩:=D;have m:=m s.c rfl;subst m;rw[Xc]at G;have o:ln (rows<|strips false<|s.c.take j.toNat)=j:=by simp[ln,Kr];omega
  refine⟨λh=>?_,λh=>nin<|nrn<|ndt λI b=>?_⟩
  .have h:j<(s.c.length:Int):=by simpa [ln]using h
   let⟨d,g⟩:=Sx.get_at u h;have E:=aA g;have p:szRs (rows s.c)<n+1:=p;simp only[cI,cS,cL,H7 g,t0,t1,t2,t3,t4,t5,U8,B1,S0];refine ag<|ndi (by simpa [ln]using h)<|ndi ⟨⟨d,⟨rfl,rfl,rfl,rfl,rfl,rfl⟩,NS v g⟩,by show szRs (rows d.c)<n;omega⟩ λN O Q J P K A=>nin<|ndi (by rw[o];omega)<|nrn<|ndi ⟨by omega,by omega⟩<|nin<|nrn<|ndi ⟨by omega,by rw[Xc];omega,rfl,rfl,rfl,rfl,rfl,λl e=>?_⟩<|ndt ?_;rw[<-bD.mp e,m8 u g,AP];have:=vI<|A d ⟨rfl,rfl,rfl,rfl,rfl,rfl⟩;simp only[rows,XJ,strips,XU,List.map_nil,<-this];rfl;simp only[LQ,Xc];omega
  .have h:¬j<(s.c.length:Int):=by simpa [ln]using h
   rw[v7<|by omega];rw[y4]at b;subst b;cases I;exact⟨rfl,rfl,rfl,rfl,rfl,rfl⟩
end Go.D
namespace Go.D
open Go Go.Xe Go.Sx Go.RowKit
open Go.Proofs
def g_nwb :j3 PR U0 LV cNwb 28:=i5 iT L6 noX 400 xo xn<|z8 rfl
def g_bpl :j3 PR U0 LV cBpl 29:=i5 iT (show M4 PR U0 LV (lT 1)from⟨g_do,A1,trivial⟩) noX 400 vcBpl_eq vcBpl_ok<|z8 rfl
def g_rha :j3 PR U0 LV cRha 32:=i5 iT (show M4 PR U0 LV (lT 2)from⟨Ll,Pz,A1,trivial⟩) noX 400 vq vp<|z8 rfl
def g_lis :j3 PR U0 LV cLis 31:=i5 iT L6 noX 400 yq yp<|z8 rfl
def UL :j3 PR U0 LV cTgx 39:=i5 iU L6 noX 400 sr sn<|z8 rfl
def UA :j3 PR U0 LV cAts 40:=i5 iU L6 noX 400 vcAts_eq vcAts_ok<|z8 rfl
def g_bld :j3 PR U0 LV cBld 41:=E8 iU (show M4 PR U0 LV (lU 1)from⟨UL,UA,A1,trivial⟩) noX 400 pA vcBld_eq vcBld_ok<|λn=>z8 rfl
def g_trw :j3 PR U0 LV cTrw 9:=i5 iU (show M4 PR U0 LV (lU 2)from⟨g_bld,UL,UA,A1,trivial⟩) noX 400 sf se<|z8 rfl
def g_rsp :j3 PR U0 LV cRsp 16:=E8 OG (show M4 PR U0 LV (Mv 0)from⟨IL,A1,trivial⟩) noX 400 Hr ur ul<|λn=>z8 rfl
def g_ctn :j3 PR U0 LV cCnt 18:=i5 OC (show M4 PR U0 LV (Ms 0)from stA3) noX 400 ZX ZW<|z8 rfl
def r_cos :RRO PR U0 LV cCos 23:=Wb (by kernel_rfl) (by kernel_rfl) (by kernel_rfl) g_ctn
def g_rmo :j3 PR U0 LV cRmo 36:=E8 Dn (show M4 PR U0 LV (Fc 0)from⟨PC,Py,UI,A1,trivial⟩) noX 400 Hl vl vk<|λn=>z8 rfl
def g_ras :j3 PR U0 LV cRas 38:=E8 Dn L6 noX 400 Hd wm wl<|λn=>z8 rfl
def g_mmo :j3 PR U0 LV cMmo 7:=i5 OE (show M4 PR U0 LV (Mt 0)from⟨g_nwb,g_bpl,g_trw,g_mnt,g_rmo,PA,g_ras,UK,g_rsp,g_rha,g_lis,A1,trivial⟩) (show iK PR U0 LV (LK 0 PR)from⟨⟨I1 r_sme,rfl⟩,⟨I1 r_cos,rfl⟩,⟨I1 QL,rfl⟩,⟨I1 r_ha2,rfl⟩,⟨I1 r_is,rfl⟩,trivial⟩) 400 yk yi<|z8 rfl
def kN :List Kd:=[.int .u8,.int .u8,.f 5]
def LF :kf PR 24=kN:=by kernel_rfl
def UP :IY PR 24:=by kernel_rfl
def VM :(kf PR 24).all (xH PR 3):=by kernel_rfl
def KY :kf PR 5=[.int .u8]:=by kernel_rfl
variable {d:Dat}
def wV {P:Aw}(h:DW P (.int .u8) d):∃n:Int,u8 n/\d= .i n:=by
 cases h with
 |g k n h=>have b:n<=255:=h.2;exact⟨n,⟨h.1,by omega⟩,rfl⟩
def OZ (h:DW PR (.f 5) d):∃L:a8,bytes L/\d= .l L:=by
 cases h with
 |d _ rows p m j=>
  let⟨L,f,g⟩:=Ho (λn:Int=>[Dat.i n]) u8 (rows:=rows) λr e=>by
   have c:=m r e;rw[KY]at c;let⟨i,b⟩:=XY.1 e
   match r,c,b with
   | [a],_,b=>obtain⟨x,k,rfl⟩:=wV (j i 0 _ (.int .u8) a b rfl (by rw[KY];rfl));exact⟨x,k,rfl⟩
  exact⟨rows,⟨L,g,f⟩,rfl⟩
variable {w:Bc}{v:Av}
def OL (h:mP PR w (.int .u8) v d):∃n:Int,u8 n/\VR (zM w) (.int .u8 n) v:=by let⟨a,b,c,e⟩:=h;obtain⟨n,f,rfl⟩:=wV e;cases c;exact⟨n,f,vE b⟩
def MJ (h:mP PR w (.f 5) v d):∃(a:Av) (L:a8),bytes L/\VR (zM w) a v/\ ∀n,VD PR U0 (λ_=>none) (roF w) (.m 5 (.B n<|.l L) false) a:=by let⟨a,b,c,e⟩:=h;obtain⟨L,hL,rfl⟩:=OZ e;exact⟨a,L,hL,vE b,λn=>.lst 5 _ false a c (λh=>by cases h)⟩
def LD (t y:Int)(a:Av):Af:=[.int .u8 t,.int .u8 y,a]
def nSvs (k:Nat)(t y:Int)(L:a8):As:=[.f .u8 (.B k<|.i t),.f .u8<|.B (k+1)<|.i y,.m 5 (.B (k+2)<|.l L) false]
variable {Z:Nat->Bool}{Y:Bool}{ps:List MemPlace}{fs:Array Field}{r:Reach}{b:Nat}
def arg_N {H:Type}{g:Ax×Av->H}{d:DataW H}(p:PR.underlying 24=some (.struct fs))(hv:Value.okWide PR w r b 24 v)(h:DataW.Trod g PR w 0 Z Y 24 v d ps):∃(x:Av) (t y:Int) (L:a8),u8 t/\u8 y/\bytes L/\VR (zM w) x v/\ ∀k,VD PR U0 (λ_=>none) (roF w) (.w<|nSvs k t y L) x:=by
 obtain⟨xs,rfl,q⟩:=Go.WideShapes.okWide_struct p hv;have e:=Sw h UP VM;rw[LF]at e;let⟨J,F,j,s⟩:=e 0 _ rfl;let⟨K,G,l,u⟩:=e 1 _ rfl;let⟨M,I,m,z⟩:=e 2 _ rfl;let⟨t,D,A⟩:=OL s;let⟨y,E,B⟩:=OL u;let⟨a,L,hL,C,n⟩:=MJ z;have o:xs.size=3:=by rw[q,(xU UP).1,LF];rfl
 refine⟨.agg (LD t y a).toArray,t,y,L,D,E,hL,?_,λk=>?_⟩
 .refine .agg _ _ (by rw[o];rfl) λi x N c f=>?_;have c:(LD t y a)[i]? =some x:=by simpa using c
  match i,c,f with
  |0,c,f=>cases c;rw[f]at j;cases j;exact A
  |1,c,f=>cases c;rw[f]at l;cases l;exact B
  |2,c,f=>cases c;rw[f]at m;cases m;exact C
  |i+3,c,f=>simp[LD]at c
 .have hv:VDL PR U0 (λ_=>none) (roF w) (nSvs k t y L) (LD t y a):=
   ZJ (.int .u8<|.B k<|.i t) (ZJ (.int .u8<|.B (k+1)<|.i y)<|ZJ (n<|k+2) ZK)
  exact hv.w
def b8 {n:Int}(h:u8 n):B8 n:=⟨h.1,by have:=h.2;omega⟩
def lD :kf PR 74=[.int .u8,.int .u8,.int .u8,.int .u8,.int .u8]:=by kernel_rfl
def UR :kd1 PR 62= .f 74:=by kernel_rfl
def Ti :xH PR 3 (.f 74):=by kernel_rfl
def os_of (h:DW PR (.f 74) d):∃L:a8,(∀r∈L,O5 r)/\d= .l L:=by
 cases h with
 |d _ rows t s g=>
  refine⟨rows,λr k=>?_,rfl⟩;have j:=s r k;rw[lD]at j;let⟨i,f⟩:=XY.1 k
  match r,j,f with
  | [a,b,c,d,e],_,f=>obtain⟨a,m,rfl⟩:=wV (g i 0 _ (.int .u8) a f rfl<|by rw[lD];rfl);obtain⟨b,n,rfl⟩:=wV (g i 1 _ (.int .u8) b f rfl<|by rw[lD];rfl);obtain⟨c,o,rfl⟩:=wV (g i 2 _ (.int .u8) c f rfl<|by rw[lD];rfl);obtain⟨d,p,rfl⟩:=wV (g i 3 _ (.int .u8) d f rfl<|by rw[lD];rfl);obtain⟨e,q,rfl⟩:=wV (g i 4 _ (.int .u8) e f rfl<|by rw[lD];rfl);exact⟨a,b,c,d,e,rfl,b8 m,b8 n,b8 o,b8 p,b8 q⟩
variable {W:Bc}
def Vi {H:Type}{c:Ax×Av->H}{d:DataW H}(i:PR.underlying 62=some (.slice 74))(hv:Value.okWide PR W r b 62 v)(h:DataW.Trod c PR W 0 Z Y 62 v d ps):∃(a:Av) (L:a8),(∀r∈L,O5 r)/\VR (zM W) a v/\ ∀n,VD PR U0 (λ_=>none) (roF W) (.m 74 (.B n<|.l L) false) a:=by obtain⟨j,len,cap,rfl⟩:=Go.WideShapes.okWide_slice i hv;let⟨k,a,g,e,f⟩:=Sz h (m:=3) (by rw[UR];exact Ti) rfl;rw[UR]at e f;obtain⟨L,hL,rfl⟩:=os_of f;exact⟨a,L,hL,vE g,λn=>.lst 74 _ false a e (λh=>by cases h)⟩
def GJ {d e:Ar}(h:G0 d e):∃r,e= .b true::r:=by unfold G0 Qb at h;split at h;exact⟨_,by rw[h]⟩;exact h.elim
def mmo_walk {H:Type}{c:Ax×Av->H}{w:Av}{d e:DataW H}{x:List MemPlace}(f:PR.follows .mixedOrders)(q:PR.underlying 62=some (.slice 74))(p:PR.underlying 24=some (.struct fs))(hv:Value.okWide PR W r b 62 v)(s:Value.okWide PR W r b 24 w)(h:DataW.Trod c PR W 0 Z Y 62 v d ps)(k:DataW.Trod c PR W 0 Z Y 24 w e x):Calls PR 7 #[v,w] W λe A=>e= .returned (.bool true)/\Below W.heap.size W A:=by let⟨a,L,m,n,o⟩:=Vi q hv h;let⟨y,t2,C,g,z,B,j,t,u⟩:=arg_N p s k;exact IX f (LV_ok f) g_mmo rfl (λd e h=>GJ h) (es:=[.B 0 (.l L),.B 1<|.i t2,.B 2<|.i C,.B 3<|.l g,.B 4<|.l []]) rfl ⟨rfl,m,z,B,j⟩ (R:= .B 4 (.l [])) rfl rfl (xs:=[a,y]) (ys:=[v,w]) (ZJ (o 0)<|ZJ (u 1) ZK)<|ZM n<|ZM t<|ZN _
