/- The conditions of contracts, as the engine's printer has written them, and that the kernel comes to the same.
  Conditions: none. -/
import Derived.Test.YtoegfalhkackeaaGreatU2
set_option maxRecDepth 100000
set_option linter.all false
noncomputable section
namespace Go.D
open Go Go.Xe Go.Sx
def L8 :a8:=(b8 11 1 [(.i (1)),(.b false),(.i (0)),(.s []),(.l []),(.s []),(.i (0)),(.i (0)),(.b false),(.i (0)),(.l [])])
def iq (j k:a8)(m o p q r t u v d:Int)(f:Ae):Prop:=
 We (.l j::.l k::J8 m o p q r t u v [.i d,.s f]) λV=>We (.b false) λW=>Cg O3 V9 (.l j::.l k::J8 m o p q r t u v []) λR=>∀a c g h w x y z A B,R (.l a::.l c::J8 g h w x y z A B [])->We (ln a<ln a+1) λK=>We (ln a+1) λS=>We (cI c 0 0<ln a) λT=>We (a9 (a++L8) (ln a) 0 (.i (cI (a++L8) (ln a) 0))) λZ=>We (a9 (a9 (a9 (a9 (a9 Z (ln a) 1 (.b true)) (ln a) 2 (.i d)) (ln a) 3 (.s f)) (ln a) 4 (.l [])) (ln a) 5 (.s [])) λY=>We (cI c 0 0) λX=>((0<ln c->Nd (0<ln c) (Nd (¬ln c<1)<|Ni (ln c)<|Nd (d=1)<|Nb X (ln a)<|Nd T<|Nb X (ln a)<|Nd T<|Nd (I64 (g+1))<|Nd (I64 (h+1))<|(cI c 0 0<0->Nq (ln a) (Nd (L3 V (.l (a9 (a9 (a9 (a9 (a9 (a9 (a9 (a9 (a9 (a9 (a9 a X 0 (.i (cI a X 0))) X 1 (.b true)) X 2 (.i d)) X 3 (.s f)) X 4 (.l [])) X 5 (.s [])) X 6 (.i 0)) X 7 (.i 0)) X 8 W) X 9 (.i (-1))) X 10 (.l []))::.l (pQ c 1 (ln c+(-1)))::J10 (g+1) (h+1) w x y z A B 0 0 [.i 0])) True))/\(¬cI c 0 0<0->Nb X (ln a) (Nd T<|Nq (ln a)<|Nd (L3 V (.l (a9 (a9 (a9 (a9 (a9 (a9 (a9 (a9 (a9 (a9 (a9 a X 0 (.i (cI a X 0))) X 1 (.b true)) X 2 (.i d)) X 3 (.s f)) X 4 (.l [])) X 5 (.s [])) X 6 (.i 0)) X 7 (.i 0)) X 8 W) X 9 (.i (-1))) X 10 (.l []))::.l (pQ c 1 (ln c+(-1)))::J10 (g+1) (h+1) w x y z A B (IntKind.wrap .u32 X) (cI (a9 a X 0 (.i (cI a X 0))) X 0) [.i 0])) True))))/\(¬0<ln c->Ni (ln a) (Nd (ln a+1<67108865)<|Nr (ln a)<|Nd (d=1)<|Nb (ln a) S<|Nd K<|Nb (ln a) S<|Nd K<|Nd (I64 (g+1))<|Nd (I64 (h+1))<|(ln a<0->Nq S (Nd (L3 V (.l (a9 (a9 (a9 (a9 (a9 Y (ln a) 6 (.i 0)) (ln a) 7 (.i 0)) (ln a) 8 W) (ln a) 9 (.i (-1))) (ln a) 10 (.l []))::.l c::J10 (g+1) (h+1) w x y z A B 0 0 [.i 0])) True))/\(¬ln a<0->Nb (ln a) S (Nd K<|Nq S<|Nd (L3 V (.l (a9 (a9 (a9 (a9 (a9 Y (ln a) 6 (.i 0)) (ln a) 7 (.i 0)) (ln a) 8 W) (ln a) 9 (.i (-1))) (ln a) 10 (.l []))::.l c::J10 (g+1) (h+1) w x y z A B (IntKind.wrap .u32 (ln a)) (cI Z (ln a) 0) [.i 0])) True)))))
def du (a b:a8)(c d f g h j k m o:Int)(p:Ae):Prop:=
 Nd (L3 (.l a::.l b::J8 c d f g h j k m [.i o,.s p]) (.l a::.l b::J10 c d f g h j k m 0 0 [.i 1])) True
def ip (j k:a8)(m o p q r t u v d:Int)(f:Ae):Prop:=
 We (.l j::.l k::J8 m o p q r t u v [.i d,.s f]) λV=>We (.b false) λW=>Cg O3 V9 (.l j::.l k::J8 m o p q r t u v []) λR=>∀a c g h w x y z A B,R (.l a::.l c::J8 g h w x y z A B [])->We (ln a<ln a+1) λK=>We (ln a+1) λS=>We (cI c 0 0<ln a) λT=>We (a9 (a++L8) (ln a) 0 (.i (cI (a++L8) (ln a) 0))) λZ=>We (a9 (a9 (a9 (a9 (a9 Z (ln a) 1 (.b true)) (ln a) 2 (.i d)) (ln a) 3 (.s [])) (ln a) 4 (.l [])) (ln a) 5 (.s f)) λY=>We (cI c 0 0) λX=>((0<ln c->Nd (0<ln c) (Nd (¬ln c<1)<|Ni (ln c)<|Nd (¬d=1)<|Nb X (ln a)<|Nd T<|Nb X (ln a)<|Nd T<|Nd (I64 (g+1))<|Nd (I64 (h+1))<|(cI c 0 0<0->Nq (ln a) (Nd (L3 V (.l (a9 (a9 (a9 (a9 (a9 (a9 (a9 (a9 (a9 (a9 (a9 a X 0 (.i (cI a X 0))) X 1 (.b true)) X 2 (.i d)) X 3 (.s [])) X 4 (.l [])) X 5 (.s f)) X 6 (.i 0)) X 7 (.i 0)) X 8 W) X 9 (.i (-1))) X 10 (.l []))::.l (pQ c 1 (ln c+(-1)))::J10 (g+1) (h+1) w x y z A B 0 0 [.i 0])) True))/\(¬cI c 0 0<0->Nb X (ln a) (Nd T<|Nq (ln a)<|Nd (L3 V (.l (a9 (a9 (a9 (a9 (a9 (a9 (a9 (a9 (a9 (a9 (a9 a X 0 (.i (cI a X 0))) X 1 (.b true)) X 2 (.i d)) X 3 (.s [])) X 4 (.l [])) X 5 (.s f)) X 6 (.i 0)) X 7 (.i 0)) X 8 W) X 9 (.i (-1))) X 10 (.l []))::.l (pQ c 1 (ln c+(-1)))::J10 (g+1) (h+1) w x y z A B (IntKind.wrap .u32 X) (cI (a9 a X 0 (.i (cI a X 0))) X 0) [.i 0])) True))))/\(¬0<ln c->Ni (ln a) (Nd (ln a+1<67108865)<|Nr (ln a)<|Nd (¬d=1)<|Nb (ln a) S<|Nd K<|Nb (ln a) S<|Nd K<|Nd (I64 (g+1))<|Nd (I64 (h+1))<|(ln a<0->Nq S (Nd (L3 V (.l (a9 (a9 (a9 (a9 (a9 Y (ln a) 6 (.i 0)) (ln a) 7 (.i 0)) (ln a) 8 W) (ln a) 9 (.i (-1))) (ln a) 10 (.l []))::.l c::J10 (g+1) (h+1) w x y z A B 0 0 [.i 0])) True))/\(¬ln a<0->Nb (ln a) S (Nd K<|Nq S<|Nd (L3 V (.l (a9 (a9 (a9 (a9 (a9 Y (ln a) 6 (.i 0)) (ln a) 7 (.i 0)) (ln a) 8 W) (ln a) 9 (.i (-1))) (ln a) 10 (.l []))::.l c::J10 (g+1) (h+1) w x y z A B (IntKind.wrap .u32 (ln a)) (cI Z (ln a) 0) [.i 0])) True)))))
def lu :Prop:=
 ∀d f g h j k m o p q a c,sH (.l d::.l f::J8 g h j k m o p q [.i a,.s c])->((a=1->Cg P0 D8 [.s c] (λR=>∀r,R [.b r]->((r=true->((a=2->Cg R5 J3 [.s c] (λR=>∀t,R [.b t]->((t=true->iq d f g h j k m o p q a c)/\(¬t=true->du d f g h j k m o p q a c))))/\(¬a=2->iq d f g h j k m o p q a c)))/\(¬r=true->du d f g h j k m o p q a c))))/\(¬a=1->((a=2->Cg R5 J3 [.s c] (λR=>∀r,R [.b r]->((r=true->ip d f g h j k m o p q a c)/\(¬r=true->du d f g h j k m o p q a c))))/\(¬a=2->ip d f g h j k m o p q a c))))
def pc :kq zr W4 (bQ 0) (gM 0) 85=lu:=by kernel_rfl
def uu :Prop:=
 ∀f c,Ce [.l f,.l c]->Nd (ln f<67108865) (Nq (ln f)<|Nd (lB [.l f,.l c] [.i 0,.l f])<|∀d b,lB [.l f,.l c] [.i d,.l b]->((d<ln c->Nb d (ln c) (Cg Bz tP [.l b,.s (cS c d 0)] λR=>∀a,R [.i a]->Nb d (ln c) ((cB c d 1=true->((a<0->Nd (vF [.l f,.l c] [.l [],.i 11]) True)/\(¬a<0->Nd (¬a<0) (Nd (¬a<0)<|Nd (¬ln b<a)<|Nd (ln (pQ b 0 a)<67108865)<|Nd (I64 (a+1))<|Nd (¬a+1<0)<|Nd (¬ln b<a+1)<|Ni (ln b)<|Ni (ln (pQ b 0 a))<|Nd (ln (pQ b 0 a)+ln (pQ b (a+1) (ln b-(a+1)))<67108865)<|Nr (ln (pQ b 0 a))<|Nb d (ln c)<|Nd (cB c d 1=true)<|Nd (I64 (d+1))<|Nq (ln (pQ b 0 a)+ln (pQ b (a+1) (ln b-(a+1))))<|
 Nd (lB [.l f,.l c] [.i (d+1),.l (pQ b 0 a++pQ b (a+1) (ln b-(a+1)))])<|Nd (gQ [.l f,.l c] [.i (d+1),.l (pQ b 0 a++pQ b (a+1) (ln b-(a+1)))]<gQ [.l f,.l c] [.i d,.l b]) True))))/\(¬cB c d 1=true->((a<0->Nb d (ln c) (Nd (¬cB c d 1=true)<|Nb d (ln c)<|Nb d (ln c)<|Cg sJ nC [.l b,.s (cS c d 0),.s (cS c d 2)] λR=>∀g,R [.l g]->Nd (I64 (d+1)) (Nd (lB [.l f,.l c] [.i (d+1),.l g])<|Nd (gQ [.l f,.l c] [.i (d+1),.l g]<gQ [.l f,.l c] [.i d,.l b]) True)))/\(¬a<0->Nd (¬a<0) (Nd (¬ln b<a)<|Nd (ln (pQ b 0 a)<67108865)<|Nd (I64 (a+1))<|Nd (¬a+1<0)<|Nd (¬ln b<a+1)<|Ni (ln b)<|Ni (ln (pQ b 0 a))<|Nd (ln (pQ b 0 a)+ln (pQ b (a+1) (ln b-(a+1)))<67108865)<|Nr (ln (pQ b 0 a))<|Nb d (ln c)<|Nd (¬cB c d 1=true)<|Nb d (ln c)<|Nb d (ln c)<|Nq (ln (pQ b 0 a)+ln (pQ b (a+1) (ln b-(a+1))))<|
 Cg sJ nC [.l (pQ b 0 a++pQ b (a+1) (ln b-(a+1))),.s (cS c d 0),.s (cS c d 2)] λR=>∀g,R [.l g]->Nd (I64 (d+1)) (Nd (lB [.l f,.l c] [.i (d+1),.l g])<|Nd (gQ [.l f,.l c] [.i (d+1),.l g]<gQ [.l f,.l c] [.i d,.l b]) True))))))))/\(¬d<ln c->((8<ln b->Nd (vF [.l f,.l c] [.l [],.i 3]) True)/\(¬8<ln b->Nd (vF [.l f,.l c] [.l b,.i 0]) True)))))
def ut :kq Wy W4 (bQ 0) (gM 0) 140=uu:=by kernel_rfl
def eu (a:a8)(d:Int)(t:Ae)(u:Bool)(v:Ae)(f:a8)(g h j k m o p q x y:Int):Prop:=
 We (.l a::.l f::J10 g h j k m o p q x y [.s t,.b u,.s v]) λV=>∀z r,vF [.l (cL a d 4),.l (b8 3 1 [.s t,.b u,.s v])] [.l z,.i r]->((r=0->Cg O3 V9 (.l a::.l f::J8 g h j k m o p q []) (λR=>∀c A B C D F G H w I,R (.l c::.l A::J8 B C D F G H w I [])->Nb d (ln c) (Nd (d<ln c)<|Nd (I64 (w+1))<|Nq (ln c)<|Nd (aP V (.l (a9 c d 4 (.l z))::.l A::J8 B C D F G H (w+1) I [.i 0])) True)))/\(¬r=0->Nd (aP V (.l a::.l f::J8 g h j k m o p q [.i r])) True))
def da (a c:a8)(d f g h j k m o p q:Int)(r:Ae)(t:Bool)(u:Ae):Prop:=
 Nd (aP (.l a::.l c::J10 d f g h j k m o p q [.s r,.b t,.s u]) (.l a::.l c::J8 d f g h j k m o [.i 1])) True
def ma :Prop:=
 ∀a g h j k m o p q r u v f c d,sG (.l a::.l g::J10 h j k m o p q r u v [.s f,.b c,.s d])->We (.l a::.l g::J10 h j k m o p q r u v [.s f,.b c,.s d]) λV=>Cg M1 K5 (.l a::.l g::J10 h j k m o p q r u v []) (λR=>∀t,R [.i t]->We (Ce [.l (cL a t 4),.l (b8 3 1 [.s f,.b c,.s d])]) λW=>((t<0->Nd (aP V (.l a::.l g::J8 h j k m o p q r [.i 11])) True)/\(¬t<0->Nb t (ln a) ((cI a t 2=1->((c=true->Nb t (ln a) (Cg Bz tP [.l (cL a t 4),.s f] λR=>∀w,R [.i w]->((w<0->Nd (aP V (.l a::.l g::J8 h j k m o p q r [.i 17])) True)/\(¬w<0->Cg P0 D8 [.s f] (λR=>∀x,R [.b x]->((x=true->Cg R5 J3 [.s d] (λR=>∀y,R [.b y]->((y=true->Nd (c=true) ((d=([]:Ae)->Nb t (ln a) (Nd W<|eu a t f c d g h j k m o p q r u v))/\(¬d=([]:Ae)->da a g h j k m o p q r u v f c d)))/\(¬y=true->da a g h j k m o p q r u v f c d))))/\(¬x=true->da a g h j k m o p q r u v f c d)))))))/\(¬c=true->Cg P0 D8 [.s f] (λR=>∀w,R [.b w]->((w=true->Cg R5 J3 [.s d] (λR=>∀x,R [.b x]->((x=true->Nd (¬c=true) (Nb t (ln a)<|Nd W<|eu a t f c d g h j k m o p q r u v))/\(¬x=true->da a g h j k m o p q r u v f c d))))/\(¬w=true->da a g h j k m o p q r u v f c d))))))/\(¬cI a t 2=1->da a g h j k m o p q r u v f c d)))))
def pz :kq zt W4 (bQ 1) (gM 1) 86=ma:=by kernel_rfl
def eo (a b:a8)(c d f g h j k m o p:Int)(q:Ae):Prop:=
 Nd (nI (.l a::.l b::J10 c d f g h j k m o p [.s q]) (.l a::.l b::J8 c d f g h j k m [.i 1])) True
def kv :Prop:=
 ∀a d f g h j k m o p r t q,Ct (.l a::.l d::J10 f g h j k m o p r t [.s q])->We (.l a::.l d::J10 f g h j k m o p r t [.s q]) λV=>Cg M1 K5 (.l a::.l d::J10 f g h j k m o p r t []) (λR=>∀c,R [.i c]->((c<0->Nd (nI V (.l a::.l d::J8 f g h j k m o p [.i 11])) True)/\(¬c<0->Nb c (ln a) ((cI a c 2=2->Cg R5 J3 [.s q] (λR=>∀v,R [.b v]->((v=true->Cg O3 V9 (.l a::.l d::J8 f g h j k m o p []) (λR=>∀u x y z A B C D w F,R (.l u::.l x::J8 y z A B C D w F [])->Nb c (ln u) (Nd (c<ln u)<|Nd (I64 (w+1))<|Nq (ln u)<|Nd (nI V (.l (a9 u c 5 (.s q))::.l x::J8 y z A B C D (w+1) F [.i 0])) True)))/\(¬v=true->eo a d f g h j k m o p r t q))))/\(¬cI a c 2=2->eo a d f g h j k m o p r t q)))))
def nv :kq zn W4 (bQ 0) (gM 0) 127=kv:=by kernel_rfl
def lh :Prop:=
 ∀c f g h j k m o p q r s t u v,Cr (.l c::.l f::J10 g h j k m o p q r s [.i t,.i u,.b v])->We (.l c::.l f::J10 g h j k m o p q r s [.i t,.i u,.b v]) λV=>Cg M1 K5 (.l c::.l f::J10 g h j k m o p q r s []) (λR=>∀a,R [.i a]->((a<0->Nd (nE V (.l c::.l f::J8 g h j k m o p q [.i 11])) True)/\(¬a<0->Nb a (ln c) ((cI c a 2=1->Cg O3 V9 (.l c::.l f::J8 g h j k m o p q []) (λR=>∀d x y z A B C D F w,R (.l d::.l x::J8 y z A B C D F w [])->Nb a (ln d) (Nd (a<ln d)<|Nb a (ln d)<|Nd (a<ln d)<|Nb a (ln d)<|Nd (a<ln d)<|Nd (I64 (w+1))<|Nq (ln d)<|Nd (nE V (.l (a9 (a9 (a9 d a 6 (.i t)) a 7 (.i u)) a 8 (.b v))::.l x::J8 y z A B C D F (w+1) [.i 0])) True)))/\(¬cI c a 2=1->Nd (nE V (.l c::.l f::J8 g h j k m o p q [.i 1])) True)))))
def ou :kq zp W4 (bQ 0) (gM 0) 131=lh:=by kernel_rfl
def ld :Prop:=
 ∀a c d f g h j k m o q r,nH (.l a::.l c::J10 d f g h j k m o q r [])->We (.l a::.l c::J10 d f g h j k m o q r []) λV=>Cg M1 K5 V (λR=>∀b,R [.i b]->We (cI a b 9) λW=>((b<0->Nd (iU V (.l a::.l c::J8 d f g h j k m o [.i 11])) True)/\(¬b<0->Nb b (ln a) ((cI a b 9<0->Nd (iU V (.l a::.l c::J8 d f g h j k m o [.i 10])) True)/\(¬cI a b 9<0->Cg O3 V9 (.l a::.l c::J8 d f g h j k m o []) (λR=>∀p t u v w x s y z A,R (.l p::.l t::J8 u v w x s y z A [])->Nb W (ln a) (Cg iW sM [.l (cL a W 10),.i b] λR=>∀B,R [.l B]->Nb W (ln p) (Nd (cI a b 9<ln p)<|Nb b (ln p)<|Nd (b<ln p)<|Nd (I64 (s+1))<|Nq (ln p)<|Nd (iU V (.l (a9 (a9 p W 10 (.l B)) b 9 (.i (-1)))::.l t::J8 u v w x (s+1) y z A [.i 0])) True))))))))
def ol :kq mz W4 (bQ 0) (gM 0) 78=ld:=by kernel_rfl
def dh (a b:a8)(c d f g h j k m o p q r:Int):Prop:=
 Nd (pN (.l a::.l b::J10 c d f g h j k m o p [.i q,.i r]) (.l a::.l b::J8 c d f g h j k m [.i 11])) True
def im (a b:a8)(c d f g h j k m o p q r:Int):Prop:=
 Nd (pN (.l a::.l b::J10 c d f g h j k m o p [.i q,.i r]) (.l a::.l b::J8 c d f g h j k m [.i 10])) True
def dp (a b:a8)(c d f g h j k m o p q r:Int):Prop:=
 Nd (pN (.l a::.l b::J10 c d f g h j k m o p [.i q,.i r]) (.l a::.l b::J8 c d f g h j k m [.i 1])) True
def il (a f:a8)(g h j k m o p q b B C D F G:Int):Prop:=
 We (cI a b 9) λV=>∀c r s t u v w d x y,V9 (.l a::.l f::J8 g h j k m o p q []) (.l c::.l r::J8 s t u v w d x y [])->Nb V (ln a) (Cg iW sM [.l (cL a V 10),.i b] λR=>∀z,R [.l z]->Cg sL nF [.l z,.i b,.i B] (λR=>∀A,R [.l A]->Nb V (ln c) (Nd (cI a b 9<ln c)<|Nd (I64 (d+1))<|Nq (ln c)<|Nd (pN (.l a::.l f::J10 g h j k m o p q C D [.i F,.i G]) (.l (a9 c V 10 (.l A))::.l r::J8 s t u v w (d+1) x y [.i 0])) True)))
def ss :Prop:=
 ∀a b c d f g h j k m r s p q,GR (.l a::.l b::J10 c d f g h j k m r s [.i p,.i q])->We (O3 (.l a::.l b::J8 c d f g h j k m [])) λW=>We (Cg M1 K5 (.l a::.l b::J10 c d f g h j k m r s [])) λV=>V (λR=>∀o,R [.i o]->V (λR=>∀u,R [.i u]->Cg M1 K5 (.l a::.l b::J10 c d f g h j k m p q []) (λR=>∀t,R [.i t]->((o<0->dh a b c d f g h j k m r s p q)/\(¬o<0->((u<0->dh a b c d f g h j k m r s p q)/\(¬u<0->((t<0->((p=0->((q=0->Nb o (ln a) ((cI a o 9<0->im a b c d f g h j k m r s p q)/\(¬cI a o 9<0->((t=o->dp a b c d f g h j k m r s p q)/\(¬t=o->Nd (t<0) (Nd W<|il a b c d f g h j k m o t r s p q))))))/\(¬q=0->dh a b c d f g h j k m r s p q)))/\(¬p=0->dh a b c d f g h j k m r s p q)))/\(¬t<0->Nb o (ln a) ((cI a o 9<0->im a b c d f g h j k m r s p q)/\(¬cI a o 9<0->((t=o->dp a b c d f g h j k m r s p q)/\(¬t=o->Nd (¬t<0) (Nb t (ln a)<|(cI a t 9=cI a o 9->Nd W (il a b c d f g h j k m o t r s p q))/\(¬cI a t 9=cI a o 9->dp a b c d f g h j k m r s p q)))))))))))))))
def sn :kq Wv W4 (bQ 0) (gM 0) 129=ss:=by kernel_rfl
def dz (a b:a8)(c d f g h j k m o p q r s t:Int):Prop:=
 Nd (lD (.l a::.l b::J10 c d f g h j k m o p [.i q,.i r,.i s,.i t]) (.l a::.l b::J8 c d f g h j k m [.i 11])) True
def ii (c g:a8)(h j k m o p q r b d B C D F G H I:Int):Prop:=
 ∀a s t u v f w x y z,V9 (.l c::.l g::J8 h j k m o p q r []) (.l a::.l s::J8 t u v f w x y z [])->Nb b (ln c) (Cg sL nF [.l (cL c b 10),.i d,.i B] λR=>∀A,R [.l A]->Nb b (ln a) (Nd (b<ln a)<|Nb d (ln a)<|Nd (d<ln a)<|Nd (I64 (f+1))<|Nq (ln a)<|Nd (lD (.l c::.l g::J10 h j k m o p q r C D [.i F,.i G,.i H,.i I]) (.l (a9 (a9 a b 10 (.l A)) d 9 (.i b))::.l s::J8 t u v (f+1) w x y z [.i 0])) True))
def dy (a b:a8)(c d f g h j k m o p q r s t:Int):Prop:=
 Nd (lD (.l a::.l b::J10 c d f g h j k m o p [.i q,.i r,.i s,.i t]) (.l a::.l b::J8 c d f g h j k m [.i 10])) True
def ig (b c:Int)(a f:a8)(g h j k m o p q r s t u v w d:Int):Prop:=
 We [.l a,.i d,.i c] λV=>(b=c->dy a f g h j k m o p q r s t u v w)/\(¬b=c->Nb b (ln a) (Nd (gU V [.i (cI a b 9)])<|Nd (Nt V [.i (cI a b 9)]<Nt V [.i b]) True))
def dn (a b:a8)(c d f g h j k m o p q r s t:Int):Prop:=
 Nd (lD (.l a::.l b::J10 c d f g h j k m o p [.i q,.i r,.i s,.i t]) (.l a::.l b::J8 c d f g h j k m [.i 1])) True
def si :Prop:=
 ∀a c d f g h j k m o s t u v p q,Ck (.l a::.l c::J10 d f g h j k m o s t [.i u,.i v,.i p,.i q])->We (O3 (.l a::.l c::J8 d f g h j k m o [])) λW=>Cg M1 K5 (.l a::.l c::J10 d f g h j k m o s t []) (λR=>∀b,R [.i b]->Cg M1 K5 (.l a::.l c::J10 d f g h j k m o u v []) (λR=>∀r,R [.i r]->We [.l a,.i b,.i r] λV=>Cg M1 K5 (.l a::.l c::J10 d f g h j k m o p q []) (λR=>∀x,R [.i x]->((b<0->dz a c d f g h j k m o s t u v p q)/\(¬b<0->((r<0->dz a c d f g h j k m o s t u v p q)/\(¬r<0->((x<0->((p=0->((q=0->Nb b (ln a) ((cI a b 2=1->Nd (gU V [.i b]) (∀w,gU V [.i w]->((w<0->Nb r (ln a) ((cI a r 9<0->Nd (x<0) (Nd W<|ii a c d f g h j k m o b r x s t u v p q))/\(¬cI a r 9<0->dy a c d f g h j k m o s t u v p q)))/\(¬w<0->ig w r a c d f g h j k m o s t u v p q b))))/\(¬cI a b 2=1->dn a c d f g h j k m o s t u v p q)))/\(¬q=0->dz a c d f g h j k m o s t u v p q)))/\(¬p=0->dz a c d f g h j k m o s t u v p q)))/\(¬x<0->Nb b (ln a) ((cI a b 2=1->Nd (gU V [.i b]) (∀w,gU V [.i w]->((w<0->Nb r (ln a) ((cI a r 9<0->Nd (¬x<0) (Nb b (ln a)<|Cg vT Co [.l (cL a b 10),.i x] λR=>∀y,R [.i y]->((y<0->dn a c d f g h j k m o s t u v p q)/\(¬y<0->Nd W (ii a c d f g h j k m o b r x s t u v p q)))))/\(¬cI a r 9<0->dy a c d f g h j k m o s t u v p q)))/\(¬w<0->ig w r a c d f g h j k m o s t u v p q b))))/\(¬cI a b 2=1->dn a c d f g h j k m o s t u v p q)))))))))))
def sh :kq Wu W4 (bQ 0) (gM 0) 87=si:=by kernel_rfl
section
variable {D :DM}{L F L' F':a8}{i g x y:Int}{K c p k:Nat}{cs cs':Ak}{s:Sl}{q q':Nod->Nod}{c0 c1 c2 c3 c4 c5 c6 c7:Int}
def Sl.r0 (s:Sl):s.row.getD 0 (.i 0)= .i s.g:=by unfold Sl.row;split<;>rfl
theorem Sl.r1 (s:Sl):s.row.getD 1 (.i 0)= .b s.used:=by unfold Sl.row;split<;>simp_all
def Rf.vld (h:Rf D L F cs):t9 L i g=true↔ ∃c,D.at i g=some c:=by
 obtain⟨rfl,_,_⟩:=h;unfold t9 DM.at;by_cases h0:0<=i
 .rw[Tp h0];cases hs:D.L[i.toNat]? with
  |none=>have:=List.getElem?_eq_none_iff.1 hs;simp;omega|some s=>
   have hi:i<(D.L.length:Int):=by have:=(SW.1 hs).1;omega
   rw[d9 hs,d9 hs,s.r0,s.r1];simp[h0,hi,Dat.toBool,Dat.toInt];exactλ_=>decide_eq_true_iff
 simp[h0]
def Rf.len (h:Rf D L F cs)(w:WF D K):L.length<=1000:=by rw[h.1,Tm];have:=w.lim;omega
def Rf.cells (h:Rf D L F cs)(hs:D.L[c]? =some s)(a:s.used=true):(c:Int)<ln L/\cI L c 2=s.n.kind/\cL L c 4=s.n.atts.map Att.row/\cI L c 9=s.n.par/\cL L c 10=s.n.ch.map z5:=by
 obtain⟨rfl,_,_⟩:=h;have hc:D.L[((c:Nat):Int).toNat]? =some s:=by rw[TK];exact hs
 have:=(SW.1 hs).1;simp only[cI,cL,d9 hc,ln,Tm];unfold Sl.row;rw[Tp a];exact⟨by omega,rfl,rfl,rfl,rfl⟩
def Rf.spot (h:Rf D L F cs)(hv:t9 L i g=true):∃(c:Nat) (s:Sl),D.at i g=some c/\i=c/\D.L[c]? =some s/\s.used=true/\D.nod c=s.n/\0<=i/\i<ln L/\cI L i 2=s.n.kind/\cL L i 4=s.n.atts.map Att.row/\cI L i 9=s.n.par/\cL L i 10=s.n.ch.map z5:=by obtain⟨c,hc⟩:=h.vld.1 hv;obtain⟨s,h1,h2,rfl,_⟩:=UW hc;obtain⟨k1,k2,k3,k4,a⟩:=h.cells h1 h2;exact⟨c,s,hc,rfl,h1,h2,UZ h1,by omega,k1,k2,k3,k4,a⟩
def Rf.none (h:Rf D L F cs)(hv:¬t9 L i g=true):D.at i g=none:=by
 cases e:D.at i g with
 |none=>rfl|some k=>exact absurd (h.vld.2 ⟨k,e⟩) hv
def RW (a:s.used=true):s.row=Sl.row ⟨s.g,true,s.n⟩:=by cases s;cases a;rfl
def V4 {j:Nat}{d:Dat}(hs:D.L[c]? =some s)(a:s.used=true)(h:(Sl.row ⟨s.g,true,s.n⟩).set j d=Sl.row ⟨s.g,true,q s.n⟩):a9 (D.L.map Sl.row) c j d=(D.setN c q).L.map Sl.row:=by unfold a9 DM.setN;rw[TK];apply List.ext_getElem?;intro k;simp only[l8,TU];by_cases e:c=k;subst e;rw[<-RW a]at h;simp[hs,h,a];simp[e]
def wF (hs:D.L[c]? =some s):(D.setN c q).L[c]? =some {s with n:=q s.n}:=by unfold DM.setN;simp[l8,hs]
def IT (h:p≠c):(D.setN p q).L[c]? =D.L[c]? :=by unfold DM.setN;simp[l8,h]
def wG :(D.setN c q).setN c q'=D.setN c λn=>q' (q n):=by unfold DM.setN;simp[B6]
def Px (hs:D.L[c]? =some s)(h:q s.n=s.n):D.setN c q=D:=by
 unfold DM.setN;have:(D.L.modify c λs=> {s with n:=q s.n})=D.L:=by apply List.ext_getElem?;intro k;rw[l8];by_cases e:c=k;subst e;rw[Tp rfl,hs];simp[h];rw[Tn e]
 rw[this]
def C2 {f:DM->DM×Prop}(hf:∀D K,Rf D L F cs->WF D K->(f D).1=D/\(f D).2):cQ L F cs L F cs f:=λD K a b=>⟨by rw[(hf D K a b).1];exact a,(hf D K a b).2⟩
def fR {Q:Int->Prop}(h:U32 i/\U32 g/\L.length<=1000)(k:Q (if t9 L i g=true then i else-1)):Sx.Nd (M1 (.l L::.l F::J10 c0 c1 c2 c3 c4 c5 c6 c7 i g [])) (∀r,K5 (.l L::.l F::J10 c0 c1 c2 c3 c4 c5 c6 c7 i g []) [.i r]->Q r):=
 ndi h λr hr=>by have hr:r=if t9 L i g=true then i else-1:=hr;subst hr;exact k
def tE {Q:a8->a8->Int->Int->Int->Int->Int->Int->Int->Int->Prop}(h:gR L F [c0,c1,c2,c3,c4,c5,c6,c7])(k:Q L F c0 c1 c2 c3 c4 c5 c6 c7):Sx.Nd (O3 (.l L::.l F::J8 c0 c1 c2 c3 c4 c5 c6 c7 [])) (∀L' F' a b d e f j m n,V9 (.l L::.l F::J8 c0 c1 c2 c3 c4 c5 c6 c7 []) (.l L'::.l F'::J8 a b d e f j m n [])->Q L' F' a b d e f j m n):=
 ndi h λL' F' a b d e f j m n hr=>by obtain⟨rfl,rfl,rfl,rfl,rfl,rfl,rfl,rfl,rfl,rfl⟩:=hr;exact k
def nu :kv:=by
 unfold kv;intro L F c0 c1 c2 c3 c4 c5 c6 c7 i g t h;obtain⟨hi,hg,hp⟩:=h;have hp':=hp;obtain⟨D,K,a,w⟩:=hp;refine fR ⟨hi,hg,a.len w⟩ ?_;by_cases hv:t9 L i g=true
 .rw[Tp hv];obtain⟨c,s,h1,h2,h3,h4,f,m,d,j,o,r,hb⟩:=a.spot hv;have bad:(cI L i 2≠2\/H9 t=false)->eo L F c0 c1 c2 c3 c4 c5 c6 c7 i g t:=λhq=>by unfold eo;refine ndt (C2 λD K a w=>?_);obtain⟨c,s,h1,h2,h3,h4,f,m,d,j,_⟩:=a.spot hv;unfold aU;rw[h1];simp only;rw[Tp (by rw[f,<-j];exact hq)];exact⟨rfl,rfl⟩
  refine⟨λh=>by omega,λ_=>ndi (by omega) (ndi d ⟨λhk=>ndi trivial λb hb=>⟨λe=>tE hp' (ndi (by omega) (ndi d (ndi d (ndi (w.i64 (k:=6) (by rw[<-a.2.2];rfl)) (nin (nrn (ndt λD K a w=>?_))))))),λe=>bad (.inr ?_)⟩,λhk=>bad (.inl hk)⟩)⟩;have hb:b=H9 t:=hb;subst hb;obtain⟨c,s,h1,h2,h3,h4,f,m,d,j,_⟩:=a.spot hv;show Rf (aU D i g t).1 _ _ _/\(0:Int)=(aU D i g t).2;unfold aU;rw[h1];simp only;rw[Tn (by rw[f,<-j];simp[hk,e])];obtain⟨rfl,rfl,hc⟩:=a;subst h2;exact⟨⟨V4 (q:=λn=> {n with text:=t}) h3 h4 rfl,rfl,by show _=D.C.modify 6 _;rw[<-hc];rfl⟩,rfl⟩;have hb:b=H9 t:=hb;subst hb;simpa using e
 rw[Tn hv];refine⟨λ_=>ndt (C2 λD K a w=>?_),λh=>absurd (by decide) h⟩;unfold aU;rw[a.none hv];exact⟨rfl,rfl⟩
def ot :lh:=by
 unfold lh;intro L F c0 c1 c2 c3 c4 c5 c6 c7 i g t z b h;obtain⟨hi,hg,hp⟩:=h;have hp':=hp;obtain⟨D,K,a,w⟩:=hp;refine fR ⟨hi,hg,a.len w⟩ ?_;by_cases hv:t9 L i g=true
 .rw[Tp hv];obtain⟨c,s,h1,h2,h3,h4,e,j,d,f,m,o,hb⟩:=a.spot hv;have n0:¬i<0:=by omega
  refine⟨λh=>by omega,λ_=>ndi n0 (ndi d ⟨λhk=>tE hp' (ndi n0 (ndi d (ndi d (ndi n0 (ndi d (ndi d (ndi n0 (ndi d (ndi d (ndi (w.i64 (k:=7) (by rw[<-a.2.2];rfl)) (nin (nrn (ndt λD K a w=>?_))))))))))))),λhk=>ndt (C2 λD K a w=>?_)⟩)⟩;obtain⟨c,s,h1,h2,h3,h4,e,j,d,f,_⟩:=a.spot hv;show Rf (mY D i g t z b).1 _ _ _/\(0:Int)=(mY D i g t z b).2;unfold mY;rw[h1];simp only;rw[Tn (by rw[e,<-f];simp[hk])];obtain⟨rfl,rfl,hc⟩:=a;subst h2;refine⟨⟨?_,rfl,by show _=D.C.modify 7 _;rw[<-hc];rfl⟩,rfl⟩;rw[V4 (q:=λn=> {n with top:=t}) h3 h4 rfl,V4 (q:=λn=> {n with size:=z}) (wF h3) h4 rfl,V4 (q:=λn=> {n with pin:=b}) (wF (wF h3)) h4 rfl,wG,wG];rfl;obtain⟨c,s,h1,h2,h3,h4,e,j,d,f,_⟩:=a.spot hv;unfold mY;rw[h1];simp only;rw[Tp (by rw[e,<-f];exact hk)];exact⟨rfl,rfl⟩
 rw[Tn hv];refine⟨λ_=>ndt (C2 λD K a w=>?_),λh=>absurd (by decide) h⟩;unfold mY;rw[a.none hv];exact⟨rfl,rfl⟩
variable {l:Ah}
def IG {sp b:Sl}{z:Int}{X:a8}(d:X=l.map z5)(hp:D.L[p]? =some sp)(up:sp.used=true)(hc:D.L[c]? =some b)(e:b.used=true)(a:p≠c):a9 (a9 (D.L.map Sl.row) p 10 (.l X)) c 9 (.i z)=(D.kids p c l z k).L.map Sl.row:=by subst d;rw[V4 (q:=λn=> {n with ch:=l}) hp up rfl,V4 (q:=λn=> {n with par:=z}) (s:=b) (by rw[IT a];exact hc) e rfl];rfl
def rf_C (h:Rf D L F cs){z:Int}:cs.modify k (· +1)=(D.kids p c l z k).C:=by rw[h.2.2];rfl
def oi :ld:=by
 unfold ld;intro L F c0 c1 c2 c3 c4 c5 c6 c7 i g h;obtain⟨hi,hg,hp⟩:=h;have hp':=hp;obtain⟨D,K,a,w⟩:=hp;refine fR ⟨hi,hg,a.len w⟩ ?_;by_cases hv:t9 L i g=true
 .rw[Tp hv];obtain⟨c,s,h1,h2,h3,h4,f,t,b,u,v,d,hb⟩:=a.spot hv;have n0:¬i<0:=by omega
  refine⟨λh=>by omega,λ_=>ndi n0 (ndi b ⟨λhk=>ndt (C2 λD K a w=>?_),λhk=>tE hp' ?_⟩)⟩;obtain⟨c,s,h1,h2,h3,h4,f,t,b,u,v,d,_⟩:=a.spot hv;unfold V3;rw[h1];simp only;rw[d]at hk;rw[f,Tp (by rcases w.par c s h3 h4 with e| ⟨p,sp,e,_⟩<;>omega)];exact⟨rfl,rfl⟩
  .have par:∀ {D K},Rf D L F [c0,c1,c2,c3,c4,c5,c6,c7]->WF D K-> ∃(c p:Nat) (s sp:Sl),D.at i g=some c/\i=c/\D.L[c]? =some s/\s.used=true/\D.nod c=s.n/\s.n.par=p/\D.L[p]? =some sp/\sp.used=true/\p≠c/\D.nod p=sp.n/\cI L i 9=p/\(p:Int)<ln L/\cL L p 10=sp.n.ch.map z5:=λ{D K} a w=>by obtain⟨c,s,h1,h2,h3,h4,f,t,b,u,v,d,_⟩:=a.spot hv;obtain⟨p,sp,e,k1,k2,k3,k4,T⟩:=DM.par_of w h3 h4 (by rw[<-d];omega);obtain⟨m,o,B,C,r⟩:=a.cells k1 k2;exact⟨c,p,s,sp,h1,h2,h3,h4,f,e,k1,k2,k4,UZ k1,by rw[d,e],m,r⟩
   obtain⟨c,p,s,sp,p1,p2,U,V,W,Y,I,J,Z,pa,M,j,pd⟩:=par a w;rw[M];have A:¬(p:Int)<0:=by omega
   have H:iW [.l (cL L p 10),.i i]:=⟨sp.n.ch,c,pd,p2,w.kidlen I J⟩
   refine ndi A<|ndi j<|ndi H λX E=>ndi A<|ndi j<|ndi j<|ndi n0<|ndi b<|ndi b<|ndi (w.i64 (k:=4) (by rw[<-a.2.2];rfl))<|nin<|nrn<|ndt λD K a w=>?_;obtain⟨c,q,s,sp,m,o,B,C,r,N,O,P,Q,R,qb,qc,S⟩:=par a w;have e:q=p:=by omega
   show Rf (V3 D i g).1 _ _ _/\(0:Int)=(V3 D i g).2;unfold V3;rw[m];simp only;rw[r,N,Tn (by omega),TK,R,<-e];have hc:=rf_C (k:=4) (p:=q) (c:=c) (l:=I7 sp.n.ch c) (z:= -1) a;have G:=E sp.n.ch c (by rw[<-e];exact S) o;obtain⟨rfl,rfl,_⟩:=a;rw[o];exact⟨⟨IG G O P B C Q,rfl,hc⟩,rfl⟩
 rw[Tn hv];refine⟨λ_=>ndt (C2 λD K a w=>?_),λh=>absurd (by decide) h⟩;unfold V3;rw[a.none hv];exact⟨rfl,rfl⟩
end
section
variable {D :DM}{L F L' F':a8}{i g x y:Int}{K a c d p k:Nat}{cs cs':Ak}{s:Sl}{c0 c1 c2 c3 c4 c5 c6 c7:Int}
def Rf.opt (h:Rf D L F cs)(w:WF D K):(t9 L x y=true->D.opt x y=some x)/\(x=0->y=0->D.opt x y=some (-1))/\(¬t9 L x y=true-> ¬(x=0/\y=0)->D.opt x y=Option.none):=by unfold DM.opt;refine⟨λhv=>?_,λb e=>by rw[Tp ⟨b,e⟩],λhv hn=>by rw[Tn hn,h.none hv]⟩;obtain⟨c,s,h1,h2,_⟩:=h.spot hv;have:=(w.u32 h1).2.2;rw[Tn (by omega),h1,h2]
def WF.par_iff {sp b:Sl}(w:WF D K)(hp:D.L[p]? =some sp)(up:sp.used=true)(hc:D.L[c]? =some b)(f:b.used=true):c∈sp.n.ch↔b.n.par=p:=by
 refine⟨λh=>?_,λh=>?_⟩;obtain⟨s,k1,k2,k3⟩:=(w.ch p sp hp up).2 c h;rw[hc]at k1;cases k1;exact k3
 .rcases w.par c b hc f with e| ⟨q,j,e,k1,k2,k3⟩;omega
  .have:q=p:=by omega
   subst this;rw[hp]at k1;cases k1;exact k3
def sk :ss:=by
 unfold ss;intro L F c0 c1 c2 c3 c4 c5 c6 c7 i g x y h;obtain⟨hi,hg,hx,hy,hp⟩:=h;have hp':=hp;obtain⟨D,K,b,w⟩:=hp;have hl:=b.len w;refine fR ⟨hi,hg,hl⟩ (fR ⟨hi,hg,hl⟩ (fR ⟨hx,hy,hl⟩ ?_));by_cases hv:t9 L i g=true
 .rw[Tp hv];obtain⟨c,s,h1,h2,h3,h4,v,J,A,M,N,t,hb⟩:=b.spot hv;have n0:¬i<0:=by omega
  have par:∀ {D K},Rf D L F [c0,c1,c2,c3,c4,c5,c6,c7]->WF D K-> ¬cI L i 9<0-> ∃(c p:Nat) (s sp:Sl),D.at i g=some c/\i=c/\D.L[c]? =some s/\s.used=true/\D.nod c=s.n/\s.n.par=p/\D.L[p]? =some sp/\sp.used=true/\p≠c/\D.nod p=sp.n/\cI L i 9=p/\(p:Int)<ln L/\cL L p 10=sp.n.ch.map z5/\c∈sp.n.ch:=λ{D K} b w hk=>by obtain⟨c,s,h1,h2,h3,h4,v,J,A,M,N,t,_⟩:=b.spot hv;obtain⟨p,sp,e,k1,k2,k3,k4,k5⟩:=DM.par_of w h3 h4 (by rw[<-t];omega);obtain⟨T,U,q3,q4,V⟩:=b.cells k1 k2;exact⟨c,p,s,sp,h1,h2,h3,h4,v,e,k1,k2,k4,UZ k1,by rw[t,e],T,V,k3⟩
  have o:∀r:Int,(∀ {D K},Rf D L F [c0,c1,c2,c3,c4,c5,c6,c7]->WF D K->D.opt x y=some r)->(r<0\/(t9 L x y=true/\r=x))->
    (cI L i 9<0->im L F c0 c1 c2 c3 c4 c5 c6 c7 i g x y)/\
    (¬cI L i 9<0->(r=i->dp L F c0 c1 c2 c3 c4 c5 c6 c7 i g x y)/\
     (¬r=i->(¬r<0-> ¬cI L r 9=cI L i 9->dp L F c0 c1 c2 c3 c4 c5 c6 c7 i g x y)/\
      ((¬r<0->cI L r 9=cI L i 9)->Sx.Nd (O3 (.l L::.l F::J8 c0 c1 c2 c3 c4 c5 c6 c7 [])) (il L F c0 c1 c2 c3 c4 c5 c6 c7 i r i g x y)))):=by
   intro r C hr;have mem:∀ {D:DM} {K p:Nat} {sp:Sl},Rf D L F [c0,c1,c2,c3,c4,c5,c6,c7]->WF D K->D.L[p]? =some sp->sp.used=true-> ¬r<0->(r.toNat∈sp.n.ch↔cI L r 9=p):=λ{D K p sp} b w hp up hn=>by rcases hr with hr| ⟨hr,rfl⟩;exact absurd hr hn;obtain⟨c,s,h1,h2,h3,h4,v,J,A,M,N,t,_⟩:=b.spot hr;rw[t,show r.toNat=c by omega];exact w.par_iff hp up h3 h4
   refine⟨λhk=>?_,λhk=>⟨λe=>?_,λe=>⟨λhn f=>?_,λO=>?_⟩⟩⟩;unfold im;refine ndt (C2 λD K b w=>?_);obtain⟨c,s,h1,h2,h3,h4,v,J,A,M,N,t,_⟩:=b.spot hv;unfold cN;rw[h1,C b w];simp only;rw[t]at hk;rw[v,Tp (by rcases w.par c s h3 h4 with e| ⟨p,sp,e,_⟩<;>omega)];exact⟨rfl,rfl⟩;unfold dp;refine ndt (C2 λD K b w=>?_);obtain⟨c,p,s,sp,p1,p2,p3,p4,E,Q,_⟩:=par b w hk;unfold cN;rw[p1,C b w];simp only;rw[E,Tn (by omega),Tp (.inl (by omega))];exact⟨rfl,rfl⟩;unfold dp;refine ndt (C2 λD K b w=>?_);obtain⟨c,p,s,sp,p1,p2,p3,p4,E,Q,G,H,p9,pa,R,_⟩:=par b w hk;unfold cN;rw[p1,C b w];simp only;rw[E,Q,Tn (by omega),TK,pa,Tp (.inr ⟨by omega,λm=>f (by rw[R];exact(mem b w G H hn).1 m)⟩)];exact⟨rfl,rfl⟩
   .refine ndi hp' ?_;unfold il;intro L1 F1 d0 d1 d2 d3 d4 d5 d6 d7 P;obtain⟨rfl,rfl,rfl,rfl,rfl,rfl,rfl,rfl,rfl,rfl⟩:=P;obtain⟨c,p,s,sp,p1,p2,p3,p4,E,Q,G,H,p9,pa,R,S,pd,pe⟩:=par b w hk;rw[R];have m0:¬(p:Int)<0:=by omega
    have j:iW [.l (cL L1 p 10),.i i]:=⟨sp.n.ch,c,pd,p2,w.kidlen G H⟩
    refine ndi m0<|ndi S<|ndi j λX Z=>?_;have eX:=Z sp.n.ch c pd p2;have lw:(I7 sp.n.ch c).length<=1000:=by have:(I7 sp.n.ch c).length<=sp.n.ch.length:=List.length_filter_le ..;have:=w.kidlen G H;omega
    refine ndi ⟨_,c,eX,p2,lw⟩ λY hY=>ndi m0<|ndi S<|ndi S<|ndi (w.i64 (k:=5) (by rw[<-b.2.2];rfl))<|nin<|nrn<|ndt λD K b w=>?_;obtain⟨c,q,s,sp,T,U,q3,q4,V,q6,q7,q8,q9,qa,qb,qc,qd,qe⟩:=par b w hk;have W:q=p:=by omega
    show Rf (cN D i g x y).1 _ _ _/\(0:Int)=(cN D i g x y).2;unfold cN;rw[T,C b w];simp only;have B:¬(r=(c:Int)\/(0<=r/\r.toNat∉sp.n.ch)):=by rintro (h| ⟨h,hm⟩);exact e (by omega);exact hm ((mem b w q7 q8 (by omega)).2 (by rw[O (by omega),qb]))
    rw[V,q6,Tn (by omega),TK,qa,Tn B,<-W];have hc:=rf_C (k:=5) (p:=q) (c:=c) (l:=S4 (I7 sp.n.ch c) c r) (z:=q) b;have eX:=Z sp.n.ch c (by rw[<-W];exact qd) U;have eY:=hY _ c eX U;obtain⟨rfl,rfl,_⟩:=b;refine⟨⟨?_,rfl,hc⟩,rfl⟩;rw[eY,V4 (q:=λn=> {n with ch:=S4 (I7 sp.n.ch c) c r}) q7 q8 rfl];show _=(((D.setN q λn=> {n with ch:=S4 (I7 sp.n.ch c) c r}).setN c λn=> {n with par:=(q:Int)}).L).map Sl.row;rw[Px (D:=D.setN q _) (c:=c) (s:=s) (by rw[IT q9];exact q3) (by rw[<-q6])]
  refine⟨λh=>absurd h n0,λ_=>⟨λh=>absurd h n0,λ_=>?_⟩⟩;by_cases j:t9 L x y=true
  .rw[Tp j];obtain⟨c',s',k1,k2,k3,k4,k5,k6,k7,_⟩:=b.spot j;obtain⟨m1,u⟩:=o x (λb w=>(b.opt w).1 j) (.inr ⟨j,rfl⟩);have x0:¬x<0:=by omega
   exact⟨λh=>absurd h x0,λ_=>ndi n0 (ndi A ⟨m1,λhk=>⟨(u hk).1,λf=>ndi x0 (ndi x0 (ndi k7 ⟨λe=>((u hk).2 f).2 λ_=>e,λe=>((u hk).2 f).1 x0 e⟩))⟩⟩)⟩
  .rw[Tn j];have bad:¬(x=0/\y=0)->dh L F c0 c1 c2 c3 c4 c5 c6 c7 i g x y:=λhn=>by unfold dh;refine ndt (C2 λD K b w=>?_);obtain⟨c,s,h1,_⟩:=b.spot hv;unfold cN;rw[h1,(b.opt w).2.2 j hn];exact⟨rfl,rfl⟩
   refine⟨λ_=>⟨λex=>⟨λI=>?_,λI=>bad λh=>I h.2⟩,λex=>bad λh=>ex h.1⟩,λh=>absurd (by decide) h⟩;obtain⟨m1,u⟩:=o (-1) (λb w=>(b.opt w).2.1 ex I) (.inl (by decide));exact ndi n0 (ndi A ⟨m1,λhk=>⟨(u hk).1,λf=>ndi (by decide) (((u hk).2 f).2 λh=>absurd (by decide) h)⟩⟩)
 .have bad:dh L F c0 c1 c2 c3 c4 c5 c6 c7 i g x y:=by unfold dh;refine ndt (C2 λD K b w=>?_);unfold cN;rw[b.none hv];exact⟨rfl,rfl⟩
  rw[Tn hv];exact⟨λ_=>bad,λh=>absurd (by decide) h⟩
def JZ (w:WF D K){r:Nat->Nat}(hr:∀(i:Nat) s,D.L[i]? =some s->s.used=true-> ∀j∈s.n.ch,r i<r j):∀(n:Nat) {c:Nat} {s:Sl},D.L[c]? =some s->s.used=true->r c<=n-> ∀f b,n+1<f->n+1<b->rT (D.L.map Sl.row) f c=rT (D.L.map Sl.row) b c:=by
 intro n;induction n using Nat.strongRecOn with
 |ind n o=>
  intro c s hs h hn f b hf l;obtain⟨f,rfl⟩:∃k,f=k+1:=⟨f-1,by omega⟩
  obtain⟨b,rfl⟩:∃k,b=k+1:=⟨b-1,by omega⟩
  unfold rT;rw[Tn (by omega),Tn (by omega),(Rf.cells ⟨rfl,rfl,rfl⟩ hs h).2.2.2.1];rcases w.par c s hs h with e| ⟨p,sp,e,k1,k2,k3⟩
  .rw[e];have:∀m,0<m->rT (D.L.map Sl.row) m (-1)=0:=λm hm=>by
    obtain⟨m,rfl⟩:∃k,m=k+1:=⟨m-1,by omega⟩
    unfold rT;simp
   rw[this f (by omega),this b (by omega)]
  have:=hr p sp k1 k2 c k3;rw[e,o (r p) (by omega) k1 k2 (Tq _) f b (by omega) (by omega)]
def Kc (w:WF D K)(hs:D.L[c]? =some s)(b:s.used=true):rT (D.L.map Sl.row) 1002 s.n.par<rT (D.L.map Sl.row) 1002 c:=by
 obtain⟨r,r1,e⟩:=w.rank;have:=w.lim;have:=r1 c;rw[JZ w e (r c) hs b (Tq _) 1002 1003 (by omega) (by omega)]
 conv=>rhs;unfold rT
 rw[Tn (by omega),(Rf.cells ⟨rfl,rfl,rfl⟩ hs b).2.2.2.1];exact Ue _
def sg :si:=by
 unfold si;intro L F c0 c1 c2 c3 c4 c5 c6 c7 i g j m x y h;obtain⟨hi,hg,hj,hm,hx,hy,hp⟩:=h;have hp':=hp;obtain⟨D,K,f,w⟩:=hp;have hl:=f.len w;refine fR ⟨hi,hg,hl⟩ (fR ⟨hj,hm,hl⟩ (fR ⟨hx,hy,hl⟩ ?_));have bad:(¬t9 L i g=true\/ ¬t9 L j m=true\/(¬t9 L x y=true/\ ¬(x=0/\y=0)))->dz L F c0 c1 c2 c3 c4 c5 c6 c7 i g j m x y:=λhb=>by
  unfold dz;refine ndt (C2 λD K f w=>?_);have:D.at i g=none\/D.at j m=none\/D.opt x y=none:=by rcases hb with h|h|h;exact .inl (f.none h);exact .inr (.inl (f.none h));exact .inr (.inr ((f.opt w).2.2 h.1 h.2))
  unfold cG;split;rename_i B J Y;rw[B,J,Y]at this;simp at this;exact⟨rfl,rfl⟩
 by_cases hv:t9 L i g=true
 .by_cases R:t9 L j m=true
  .rw[Tp hv,Tp R];obtain⟨p,sp,h1,h2,h3,h4,h5,h6,M,h8,h9,ha,hb⟩:=f.spot hv;obtain⟨c,t,k1,k2,k3,k4,k5,k6,k7,k8,k9,ka,kb⟩:=f.spot R;have n0:¬i<0:=by omega
   have m0:¬j<0:=by omega
   have mod:∀ {r:Int},(∀ {D K},Rf D L F [c0,c1,c2,c3,c4,c5,c6,c7]->WF D K->D.opt x y=some r)-> ∀ {D K},Rf D L F [c0,c1,c2,c3,c4,c5,c6,c7]->WF D K-> ∃(p c:Nat) (sp t:Sl),i=p/\j=c/\D.L[p]? =some sp/\sp.used=true/\D.L[c]? =some t/\t.used=true/\cI L i 2=sp.n.kind/\cI L j 9=t.n.par/\cL L i 10=sp.n.ch.map z5/\
     ((cI L i 2≠1->cG D i g j m x y=(D,1))/\(cI L i 2=1->(t.n.par≠ -1\/Abv D c p->cG D i g j m x y=(D,10))/\(t.n.par= -1-> ¬Abv D c p->(0<=r/\r.toNat∉sp.n.ch->cG D i g j m x y=(D,1))/\(¬(0<=r/\r.toNat∉sp.n.ch)->cG D i g j m x y=(D.kids p c (S4 sp.n.ch c r) p 3,0))))):=λ{r} ho {D K} f w=>by
    obtain⟨p,sp,h1,h2,h3,h4,h5,h6,M,h8,h9,ha,hb⟩:=f.spot hv;obtain⟨c,t,k1,k2,k3,k4,k5,k6,k7,k8,k9,ka,kb⟩:=f.spot R;refine⟨p,c,sp,t,h2,k2,h3,h4,k3,k4,h8,ka,hb,λe=>?_,λe=>⟨λB=>?_,λB J=>⟨λY=>?_,λY=>?_⟩⟩⟩;all_goals
     unfold cG;rw[h1,k1,ho f w];simp only;rw[h5,k5,<-h8]
    rw[Tp e];rw[Tn (by simp[e]),Tp B];rw[Tn (by simp[e]),Tn (by rw[not_or];exact⟨by simp[B],J⟩),Tp Y];rw[Tn (by simp[e]),Tn (by rw[not_or];exact⟨by simp[B],J⟩),Tn Y]
   have G:∀r:Int,(∀ {D K},Rf D L F [c0,c1,c2,c3,c4,c5,c6,c7]->WF D K->D.opt x y=some r)->
     (cI L i 2≠1->dn L F c0 c1 c2 c3 c4 c5 c6 c7 i g j m x y)/\
     (cI L i 2=1->Sx.Nd (gU [.l L,.i i,.i j] [.i i]) (∀k,gU [.l L,.i i,.i j] [.i k]->
      (¬k<0->ig k j L F c0 c1 c2 c3 c4 c5 c6 c7 i g j m x y i)/\
      (k<0->(¬cI L j 9<0->dy L F c0 c1 c2 c3 c4 c5 c6 c7 i g j m x y)/\
       (cI L j 9<0->vT [.l (cL L i 10),.i r]\/r<0)/\
       (cI L j 9<0->(0<=r/\(∀l:Ah,cL L i 10=l.map z5->r.toNat∉l)->dn L F c0 c1 c2 c3 c4 c5 c6 c7 i g j m x y)/\
        ((0<=r-> ∀l:Ah,cL L i 10=l.map z5->r.toNat∈l)->Sx.Nd (O3 (.l L::.l F::J8 c0 c1 c2 c3 c4 c5 c6 c7 [])) (ii L F c0 c1 c2 c3 c4 c5 c6 c7 i j r i g j m x y)))))):=by
    intro r ho;have mod:=λ{D K}=> @mod r ho D K;refine⟨λe=>?_,λe=>ndi (λD K hL w q d B J hs=>?_) λk hI=>⟨λhk=>?_,λhk=>⟨λhc=>?_,λhc=>?_,λhc=>⟨λhr=>?_,λhr=>ndi hp' ?_⟩⟩⟩⟩;unfold dn;refine ndt (C2 λD K f w=>?_);obtain⟨_,_,_,_,_,_,_,_,_,_,_,_,_,q,_⟩:=mod f w;rw[q e];exact⟨rfl,rfl⟩;obtain⟨s,s1,s2⟩:=hs;exact .inr ⟨q,s,B,s1,s2,Iff.rfl⟩
    .unfold ig;have inv:=λ{D K p c} (hL:L=D.L.map Sl.row) (w:WF D K) (h1:i=((p:Nat):Int)) (h2:j=((c:Nat):Int)) (h3:∃s,D.L[p]? =some s/\s.used=true)=>(hI D K hL w p c h1 h2 h3).resolve_left λh=>hk (by omega);obtain⟨b,s,H,A,I,W⟩:=inv f.1 w h2 k2 ⟨sp,h3,h4⟩;refine⟨λaa=>?_,λaa=>ndi hk (ndi ?_ (ndi (λD K hL w q d B J hs=>?_) (ndt ?_)))⟩
     .unfold dy;refine ndt (C2 λD K f w=>?_);obtain⟨p,c,sp,t,v,o,O,P,T,U,q7,q8,V,_,Q⟩:=mod f w;obtain⟨b,s,H,A,I,W⟩:=inv f.1 w v o ⟨sp,O,P⟩;have:b=c:=by omega
      subst this;rw[(Q e).1 (.inr (W.2 .here))];exact⟨rfl,rfl⟩
     rw[H];exact(f.cells A I).1
     .obtain⟨b,s,H,A,I,W⟩:=inv hL w B J hs;have cc:=Rf.cells (F:=_) (cs:=_) ⟨hL,rfl,rfl⟩ A I;rw[H,cc.2.2.2.1];have E:d≠b:=λh=>aa (by omega);rcases w.par b s A I with e'| ⟨q',sq,e',t1,t2,t3⟩;refine .inl ⟨e',λC=>?_⟩;rcases(W.1 C).inv with h| ⟨q',s',t1,t2,_⟩;exact E h;rw[A]at t1;cases t1;omega
      .refine .inr ⟨q',sq,e',t1,t2,W.trans ⟨λC=>?_,λC=>.up _ _ _ A e' C⟩⟩;rcases C.inv with h| ⟨o,s',u1,u2,u3⟩;exact absurd h E
       .rw[A]at u1;cases u1;have:o=q':=by omega
        subst this;exact u3
     show rT L 1002 (cI L k 9)<rT L 1002 k;rw[H,(f.cells A I).2.2.2.1,f.1];exact Kc w A I
    unfold dy;refine ndt (C2 λD K f w=>?_);obtain⟨p,c,sp,t,v,o,O,P,T,U,q7,q8,V,_,Q⟩:=mod f w;rw[(Q e).1 (.inl (by omega))];exact⟨rfl,rfl⟩;by_cases h0:r<0;exact .inr h0;exact .inl ⟨sp.n.ch,r.toNat,hb,by omega,w.kidlen h3 h4⟩
    .unfold dn;refine ndt (C2 λD K f w=>?_);obtain⟨p,c,sp,t,v,o,O,P,T,U,q7,q8,V,_,Q⟩:=mod f w;have C:¬Abv D c p:=by rcases hI D K f.1 w p c v o ⟨sp,O,P⟩with h| ⟨b,s,H,_⟩;exact h.2;omega
     have u:t.n.par= -1:=by rcases w.par c t T U with e| ⟨q,sq,e,_⟩<;>omega
     rw[((Q e).2 u C).1 ⟨hr.1,hr.2 _ V⟩];exact⟨rfl,rfl⟩
    .unfold ii;intro L1 F1 d0 d1 d2 d3 d4 d5 d6 d7 ab;obtain⟨rfl,rfl,rfl,rfl,rfl,rfl,rfl,rfl,rfl,rfl⟩:=ab;refine ndi n0<|ndi M<|ndi ⟨sp.n.ch,c,hb,k2,w.kidlen h3 h4⟩ λX hX=>ndi n0<|ndi M<|ndi M<|ndi m0<|ndi k7<|ndi k7<|ndi (w.i64 (k:=3) (by rw[<-f.2.2];rfl))<|nin<|nrn<|ndt λD K f w=>?_;obtain⟨p,c,sp,t,v,o,O,P,T,U,q7,q8,V,_,Q⟩:=mod f w;have C:¬Abv D c p:=by rcases hI D K f.1 w p c v o ⟨sp,O,P⟩with h| ⟨b,s,H,_⟩;exact h.2;omega
     have u:t.n.par= -1:=by rcases w.par c t T U with e| ⟨q,sq,e,_⟩<;>omega
     have eX:=hX sp.n.ch c V o;have E:p≠c:=by rintro rfl;exact C .here
     have hC:=rf_C (k:=3) (p:=p) (c:=c) (l:=S4 sp.n.ch c r) (z:=p) f;show Rf (cG D i g j m x y).1 _ _ _/\(0:Int)=(cG D i g j m x y).2;rw[((Q e).2 u C).2 λh=>h.2 (hr h.1 _ V)];obtain⟨rfl,rfl,_⟩:=f;rw[v,o];exact⟨⟨IG eX O P T U E,rfl,hC⟩,rfl⟩
   refine⟨λh=>absurd h n0,λ_=>⟨λh=>absurd h m0,λ_=>?_⟩⟩;by_cases S:t9 L x y=true
   .rw[Tp S];obtain⟨c',s',t1,t2,t3,t4,t5,t6,t7,_⟩:=f.spot S;obtain⟨m1,N⟩:=G x λf w=>(f.opt w).1 S;have x0:¬x<0:=by omega
    refine⟨λh=>absurd h x0,λ_=>ndi n0 (ndi M ⟨λe=>⟨(N e).1,λ_ k hI=>?_⟩,m1⟩)⟩;obtain⟨v,o⟩:=(N e).2 (N e).1 k hI;refine⟨λhk=>ndi m0 (ndi k7 ⟨λhc=>?_,(o hk).1⟩),v⟩;obtain⟨_,p2,p3⟩:=o hk;refine ndi x0 (ndi n0 (ndi M (ndi ((p2 hc).resolve_right x0) λr hr=>⟨λh=>(p3 hc).1 ⟨by omega,λl e=>(hr l x.toNat e (by omega)).1 h⟩,λh=>(p3 hc).2 λ_ l e=>Classical.not_not.1 λhn=>h ((hr l x.toNat e (by omega)).2 hn)⟩)))
   rw[Tn S];refine⟨λ_=>⟨λex=>⟨λey=>?_,λey=>bad (.inr (.inr ⟨S,λh=>ey h.2⟩))⟩,λex=>bad (.inr (.inr ⟨S,λh=>ex h.1⟩))⟩,λh=>absurd (by decide) h⟩;obtain⟨m1,N⟩:=G (-1) λf w=>(f.opt w).2.1 ex ey;refine ndi n0 (ndi M ⟨λe=>⟨(N e).1,λ_ k hI=>?_⟩,m1⟩);obtain⟨v,o⟩:=(N e).2 (N e).1 k hI;exact⟨λhk=>ndi m0 (ndi k7 ⟨λhc=>ndi (by decide) (((o hk).2.2 hc).2 λh=>absurd h (by decide)),(o hk).1⟩),v⟩
  rw[Tn R];by_cases Z:(if t9 L i g=true then i else-1)<0;exact⟨λ_=>bad (.inr (.inl R)),λh=>absurd Z h⟩;exact⟨λh=>absurd h Z,λ_=>⟨λ_=>bad (.inr (.inl R)),λh=>absurd (by decide) h⟩⟩
 rw[Tn hv];exact⟨λ_=>bad (.inl hv),λh=>absurd (by decide) h⟩
