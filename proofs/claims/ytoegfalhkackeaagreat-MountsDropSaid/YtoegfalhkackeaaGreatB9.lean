/- The conditions of contracts, as the engine's printer has written them, and that the kernel comes to the same.
  Conditions: none. -/
import Derived.Test.YtoegfalhkackeaaGreatA5
set_option maxRecDepth 100000
set_option linter.all false
noncomputable section
namespace Go.D
open Go Go.Xe Go.Sx
def fm (a:a8)(q r s t u v b c d f g h j k l m:Int)(o p:a8):Prop:=
 We (JD a b c d f g h j k l m o p) λV=>Nq (ln a)<|Nd (bH (J6 q r s t u v V) (.i 10::V)) True
def jk (a:a8)(q r s t u v b c d f g h j k l m:Int)(o p:a8):Prop:=
 We (JD a b c d f g h j k l m o p) λV=>Nq (ln a)<|Nd (bH (J6 q r s t u v V) (.i 1::V)) True
def jj (c:a8)(u v h j k m o g p q r s:Int)(t a:a8)(y z A B:Int):Prop:=
 We (Cg u9 u6 (.i u::.i v::JE c h j k m o g p q r s t)) λV=>We (Cg u9 u6 (.i y::.i z::JE c h j k m o g p q r s t)) λW=>We (J6 u v y z A B (JD c h j k m o g p q r s t a)) λX=>We (b8 2 0 []) λY=>Nq (ln c)<|V λR=>∀D,R [.i D]->Nb D (ln a) ((cI a D 0=1->Nq (ln c) (W λR=>∀C,R [.i C]->Nb C (ln a) ((cI a C 7=0->((cI a C 8=0->Nq (ln c) (Cg FL FM (.i y::.i z::.i u::.i v::JD c h j k m o g p q r s t a) λR=>∀F,R [.b F]->((F=true->fm c u v y z A B h j k m o g p q r s t a)/\(¬F=true->Nq (ln c) (V λR=>∀H,R [.i H]->Cg P7 N9 [.i H,.i A,.i B,.l a] (λR=>∀G,R [.i G]->((G<0->jk c u v y z A B h j k m o g p q r s t a)/\(¬G<0->Nq (ln c) (V λR=>∀d,R [.i d]->We (Cg P7 N9 [.i d,.i A,.i B,.l a]) λS=>We (b8 2 0 []++cL a d 9) λT=>We (cL a d 9) λZ=>Nb d (ln a) (∀(I:Bool),(I=true->ln Z=0->S (λR=>∀f,R [.i f]->Nd (¬f<0) (Nd (¬0<f)<|Nq (ln c)<|V λR=>∀w,R [.i w]->Nq (ln c) (W λR=>∀x,R [.i x]->Nb w (ln a) (Nb x (ln a)<|Nd (¬w<0)<|Nd (¬(ln (pQ ([]:a8) 0 f)+1)+ln (pQ ([]:a8) f (0-f))<1)<|Nd (w<ln a)<|Nb x (ln a)<|Nd (I64 (g+1))<|Nq (ln c)<|Nd (bH X (.i 0::.l c::J10 h j k m o (g+1) p q r s [.l t,.l (a9 (a9 (a9 a w 9 (.l (pQ ((pQ ([]:a8) 0 f++b8 2 1 [.i y,.i z])++pQ ([]:a8) f (0-f)) 0 1))) x 7 (.i u)) x 8 (.i v))])) True)))))/\(¬I=true->Nd (ln Z<67108865) ((0<ln Z->S (λR=>∀f,R [.i f]->Ni (ln Z) (Nd (¬f<0)<|Nd (¬ln Z<f)<|Nd (ln Z<67108864)<|Nq (ln c)<|V λR=>∀w,R [.i w]->Nq (ln c) (W λR=>∀x,R [.i x]->Nb w (ln a) (Nb x (ln a)<|Nd (¬w<0)<|Nd (¬(ln (pQ T 0 f)+1)+ln (pQ T f (ln Z-f))<ln Z+1)<|Nd (w<ln a)<|Nb x (ln a)<|Nd (I64 (g+1))<|Nq (ln c)<|Nd (bH X (.i 0::.l c::J10 h j k m o (g+1) p q r s [.l t,.l (a9 (a9 (a9 a w 9 (.l (pQ ((pQ T 0 f++b8 2 1 [.i y,.i z])++pQ T f (ln Z-f)) 0 (ln Z+1)))) x 7 (.i u)) x 8 (.i v))])) True)))))/\(¬0<ln Z->S (λR=>∀f,R [.i f]->Nd (0=ln Z) (Nd (¬ln (Sx.over Y 0 Z)<ln Z)<|Nd (ln Z<67108865)<|Nd (¬ln (Sx.over Y 0 Z)<ln Z)<|Nd (¬f<0)<|Nd (¬ln Z<f)<|Nd (ln Z<67108864)<|Nq (ln c)<|V λR=>∀w,R [.i w]->Nq (ln c) (W λR=>∀x,R [.i x]->Nb w (ln a) (Nb x (ln a)<|Nd (¬w<0)<|Nd (¬(ln (pQ (Sx.over Y 0 Z) 0 f)+1)+ln (pQ (Sx.over Y 0 Z) f (ln Z-f))<ln Z+1)<|Nd (w<ln a)<|Nb x (ln a)<|Nd (I64 (g+1))<|Nq (ln c)<|Nd (bH X (.i 0::.l c::J10 h j k m o (g+1) p q r s [.l t,.l (a9 (a9 (a9 a w 9 (.l (pQ ((pQ (Sx.over Y 0 Z) 0 f++b8 2 1 [.i y,.i z])++pQ (Sx.over Y 0 Z) f (ln Z-f)) 0 (ln Z+1)))) x 7 (.i u)) x 8 (.i v))])) True)))))))))))))))))/\(¬cI a C 8=0->fm c u v y z A B h j k m o g p q r s t a)))/\(¬cI a C 7=0->fm c u v y z A B h j k m o g p q r s t a))))/\(¬cI a D 0=1->jk c u v y z A B h j k m o g p q r s t a))
def dt (a:a8)(q r s t u v b c d f g h j k l m:Int)(o p:a8):Prop:=
 We (JD a b c d f g h j k l m o p) λV=>Nq (ln a)<|Nd (bH (J6 q r s t u v V) (.i 11::V)) True
def ji (a:a8)(q r c d f g h j k l m o:Int)(p:a8)(s t u v:Int)(w:a8):Prop:=
 We (JE a c d f g h j k l m o p) λV=>Nq (ln a)<|Cg I0 E2 (.i q::.i r::V) λR=>∀x,R [.b x]->((x=true->Nq (ln a) (Cg I0 E2 (.i s::.i t::V) λR=>∀y,R [.b y]->((y=true->Nq (ln a) (Cg I0 E2 (.i u::.i v::V) λR=>∀z,R [.b z]->((z=true->jj a q r c d f g h j k l m o p w s t u v)/\(¬z=true->dt a q r s t u v c d f g h j k l m o p w))))/\(¬y=true->dt a q r s t u v c d f g h j k l m o p w))))/\(¬x=true->dt a q r s t u v c d f g h j k l m o p w))
def wy :Prop:=
 ∀s t u v c d a f g h j k l m o p q r w,BF (J6 s t u v c d (JD a f g h j k l m o p q r w))->We (JE a f g h j k l m o p q r) λV=>((c=0->((d=0->Nq (ln a) (Cg I0 E2 (.i s::.i t::V) λR=>∀x,R [.b x]->((x=true->Nq (ln a) (Cg I0 E2 (.i u::.i v::V) λR=>∀y,R [.b y]->((y=true->jj a s t f g h j k l m o p q r w u v c d)/\(¬y=true->dt a s t u v c d f g h j k l m o p q r w))))/\(¬x=true->dt a s t u v c d f g h j k l m o p q r w))))/\(¬d=0->ji a s t f g h j k l m o p q r u v c d w)))/\(¬c=0->ji a s t f g h j k l m o p q r u v c d w))
def ww :kq WI yO (Hn 0) (Cb 0) 27=wy:=by kernel_rfl
def io (d:a8)(t u g h j k m o f p q r:Int)(s a:a8):Prop:=
 We (JE d g h j k m o f p q r s) λV=>We (Cg u9 u6 (.i t::.i u::V)) λW=>Nq (ln d)<|W λR=>∀x,R [.i x]->Nb x (ln a) (Nq (ln d)<|W λR=>∀y,R [.i y]->Nb y (ln a) (Nq (ln d)<|Cg u9 u6 (.i (cI a y 7)::.i (cI a y 8)::V) λR=>∀b,R [.i b]->We (b8 2 0 []++cL a b 9) λY=>We (cL a b 9) λX=>Cg P7 N9 [.i b,.i t,.i u,.l a] (λR=>∀c,R [.i c]->We (ln X-(c+1)) λZ=>Nb b (ln a) (∀(z:Bool),(z=true->ln X=0->Nd (I64 (c+1)) False)/\(¬z=true->Nd (ln X<67108865) ((0<ln X->Nd (I64 (c+1)) (Ni (ln X)<|Nb c (c+1)<|Nd (¬ln X<c+1)<|Nq (ln d)<|Cg u9 u6 (.i (cI a x 7)::.i (cI a x 8)::V) λR=>∀v,R [.i v]->Nq (ln d) (W λR=>∀w,R [.i w]->Nb v (ln a) (Nb w (ln a)<|Nd (¬v<0)<|Nd (¬ln (pQ Y 0 c)+ln (pQ Y (c+1) Z)<c+Z)<|Nd (v<ln a)<|Nb w (ln a)<|Nd (I64 (f+1))<|Nq (ln d)<|Nd (pK (.i t::.i u::JD d g h j k m o f p q r s a) (.i 0::.l d::J10 g h j k m o (f+1) p q r [.l s,.l (a9 (a9 (a9 a v 9 (.l (pQ (pQ Y 0 c++pQ Y (c+1) Z) 0 (c+Z)))) w 7 (.i 0)) w 8 (.i 0))])) True))))/\(¬0<ln X->Nd (I64 (c+1)) False)))))))
def th :Prop:=
 ∀r s a d f g h j k l m o p q c,vK (.i r::.i s::JD a d f g h j k l m o p q c)->We (.i r::.i s::JE a d f g h j k l m o p q) λW=>We (JD a d f g h j k l m o p q c) λV=>Nq (ln a) (Cg I0 E2 W λR=>∀u,R [.b u]->((u=true->Nq (ln a) (Cg u9 u6 W λR=>∀t,R [.i t]->Nb t (ln c) ((cI c t 7=0->((cI c t 8=0->Nq (ln a) (Nd (pK (.i r::.i s::V) (.i 10::V)) True))/\(¬cI c t 8=0->io a r s d f g h j k l m o p q c)))/\(¬cI c t 7=0->io a r s d f g h j k l m o p q c))))/\(¬u=true->Nq (ln a) (Nd (pK (.i r::.i s::V) (.i 11::V)) True))))
def tg :kq LE yO (Hn 0) (Cb 0) 54=th:=by kernel_rfl
def fi (a:a8)(q r s t b c d f g h j k l m:Int)(o p:a8):Prop:=
 We (JD a b c d f g h j k l m o p) λV=>Nq (ln a)<|Nd (dO (.i q::.i r::.i s::.i t::V) (.i 10::V)) True
def di (a:a8)(q r s t b c d f g h j k l m:Int)(o p:a8):Prop:=
 We (JD a b c d f g h j k l m o p) λV=>Nq (ln a)<|Nd (dO (.i q::.i r::.i s::.i t::V) (.i 1::V)) True
def je (d:a8)(t u g h j k m o p f q r:Int)(s a:a8)(y z:Int):Prop:=
 Nq (ln d)<|Cg u9 u6 (.i t::.i u::JE d g h j k m o p f q r s) λR=>∀A,R [.i A]->Nb A (ln a) (Nq (ln d)<|Cg u9 u6 (.i (cI a A 7)::.i (cI a A 8)::JE d g h j k m o p f q r s) λR=>∀D,R [.i D]->Cg P7 N9 [.i D,.i y,.i z,.l a] (λR=>∀C,R [.i C]->((C<0->di d t u y z g h j k m o p f q r s a)/\(¬C<0->Nq (ln d) (Cg u9 u6 (.i t::.i u::JE d g h j k m o p f q r s) λR=>∀v,R [.i v]->Nb v (ln a) (Nq (ln d)<|Cg u9 u6 (.i t::.i u::JE d g h j k m o p f q r s) λR=>∀B,R [.i B]->Nb B (ln a) (Nq (ln d)<|Cg u9 u6 (.i (cI a B 7)::.i (cI a B 8)::JE d g h j k m o p f q r s) λR=>∀c,R [.i c]->Cg P7 N9 [.i c,.i t,.i u,.l a] (λR=>∀b,R [.i b]->Nb c (ln a) (∀(F:Bool),(F=true->ln (cL a c 9)=0->Nd (I64 (b+1)) False)/\(¬F=true->Nd (ln (cL a c 9)<67108865) ((0<ln (cL a c 9)->Nd (I64 (b+1)) (Ni (ln (cL a c 9))<|Nb b (b+1)<|Nd (¬ln (cL a c 9)<b+1)<|Nd (y=0)<|Nd (z=0)<|Nd (¬ln (pQ (b8 2 0 []++cL a c 9) 0 b)+ln (pQ (b8 2 0 []++cL a c 9) (b+1) (ln (cL a c 9)-(b+1)))<b+(ln (cL a c 9)-(b+1)))<|Nd (¬b+(ln (cL a c 9)-(b+1))<0)<|Ni (b+(ln (cL a c 9)-(b+1)))<|
 Nd (b+(ln (cL a c 9)-(b+1))<67108864)<|Nq (ln d)<|Cg u9 u6 (.i (cI a v 7)::.i (cI a v 8)::JE d g h j k m o p f q r s) λR=>∀w,R [.i w]->Nq (ln d) (Cg u9 u6 (.i t::.i u::JE d g h j k m o p f q r s) λR=>∀x,R [.i x]->Nb w (ln a) (Nb x (ln a)<|Nd (¬w<0)<|Nd (¬(ln (pQ (pQ (b8 2 0 []++cL a c 9) 0 b++pQ (b8 2 0 []++cL a c 9) (b+1) (ln (cL a c 9)-(b+1))) 0 (b+(ln (cL a c 9)-(b+1))))+1)+ln (pQ (pQ (b8 2 0 []++cL a c 9) 0 b++pQ (b8 2 0 []++cL a c 9) (b+1) (ln (cL a c 9)-(b+1))) (b+(ln (cL a c 9)-(b+1))) ((b+(ln (cL a c 9)-(b+1)))-(b+(ln (cL a c 9)-(b+1)))))<(b+(ln (cL a c 9)-(b+1)))+1)<|
 Nd (w<ln a)<|Nb x (ln a)<|Nd (I64 (f+1))<|Nq (ln d)<|Nd (dO (.i t::.i u::.i y::.i z::JD d g h j k m o p f q r s a) (.i 0::.l d::J10 g h j k m o p (f+1) q r [.l s,.l (a9 (a9 (a9 a w 9 (.l (pQ ((pQ (pQ (b8 2 0 []++cL a c 9) 0 b++pQ (b8 2 0 []++cL a c 9) (b+1) (ln (cL a c 9)-(b+1))) 0 (b+(ln (cL a c 9)-(b+1)))++b8 2 1 [.i t,.i u])++pQ (pQ (b8 2 0 []++cL a c 9) 0 b++pQ (b8 2 0 []++cL a c 9) (b+1) (ln (cL a c 9)-(b+1))) (b+(ln (cL a c 9)-(b+1))) ((b+(ln (cL a c 9)-(b+1)))-(b+(ln (cL a c 9)-(b+1))))) 0 ((b+(ln (cL a c 9)-(b+1)))+1)))) x 7 (.i (cI a v 7))) x 8 (.i (cI a v 8)))])) True))))/\(¬0<ln (cL a c 9)->Nd (I64 (b+1)) False))))))))))))
def jd (a b c d:Int)(f:a8)(g h i j k l m o p q:Int)(r s:a8):Prop:=
 (a=b->((c=d->di f b d a c g h i j k l m o p q r s)/\(¬c=d->je f b d g h i j k l m o p q r s a c)))/\(¬a=b->je f b d g h i j k l m o p q r s a c)
def dq (a:a8)(q r s t b c d f g h j k l m:Int)(o p:a8):Prop:=
 We (JD a b c d f g h j k l m o p) λV=>Nq (ln a)<|Nd (dO (.i q::.i r::.i s::.i t::V) (.i 11::V)) True
def jc (d:Int)(a:a8)(b c f g:Int):Prop:=
 We [.l (pQ (b8 2 0 []++cL a b 9) 0 c++pQ (b8 2 0 []++cL a b 9) (c+1) (ln (cL a b 9)-(c+1))),.i f,.i g] λV=>Nd (I64 (d+1))<|Nd (gB V [.i (d+1)])<|Nd (zE V [.i (d+1)]<zE V [.i d]) True
def jb (a:a8)(c b x y:Int)(f:a8)(k m o p q r s t j u v:Int)(w:a8)(z A:Int):Prop:=
 ∀d,gB [.l (pQ (b8 2 0 []++cL a c 9) 0 b++pQ (b8 2 0 []++cL a c 9) (b+1) (ln (cL a c 9)-(b+1))),.i x,.i y] [.i d]->((d<b+(ln (cL a c 9)-(b+1))->Nb d (b+(ln (cL a c 9)-(b+1))) (Nd (d<ln (pQ (b8 2 0 []++cL a c 9) 0 b)+ln (pQ (b8 2 0 []++cL a c 9) (b+1) (ln (cL a c 9)-(b+1))))<|(x=cI (pQ (b8 2 0 []++cL a c 9) 0 b++pQ (b8 2 0 []++cL a c 9) (b+1) (ln (cL a c 9)-(b+1))) d 0->((y=cI (pQ (b8 2 0 []++cL a c 9) 0 b++pQ (b8 2 0 []++cL a c 9) (b+1) (ln (cL a c 9)-(b+1))) d 1->Nd (¬ln (pQ (b8 2 0 []++cL a c 9) 0 b)+ln (pQ (b8 2 0 []++cL a c 9) (b+1) (ln (cL a c 9)-(b+1)))<b+(ln (cL a c 9)-(b+1))) (Nd (¬d<0)<|Nd (¬b+(ln (cL a c 9)-(b+1))<d)<|Nd (b+(ln (cL a c 9)-(b+1))<67108864)<|Nq (ln f)<|Cg u9 u6 (.i (cI a k 7)::.i (cI a k 8)::JE f m o p q r s t j u v w) λR=>∀g,R [.i g]->Nq (ln f) (Cg u9 u6 (.i z::.i A::JE f m o p q r s t j u v w) λR=>∀h,R [.i h]->Nb g (ln a) (Nb h (ln a)<|Nd (¬g<0)<|Nd (¬(ln (pQ (pQ (b8 2 0 []++cL a c 9) 0 b++pQ (b8 2 0 []++cL a c 9) (b+1) (ln (cL a c 9)-(b+1))) 0 d)+1)+ln (pQ (pQ (b8 2 0 []++cL a c 9) 0 b++pQ (b8 2 0 []++cL a c 9) (b+1) (ln (cL a c 9)-(b+1))) d ((b+(ln (cL a c 9)-(b+1)))-d))<(b+(ln (cL a c 9)-(b+1)))+1)<|
 Nd (g<ln a)<|Nb h (ln a)<|Nd (I64 (j+1))<|Nq (ln f)<|Nd (dO (.i z::.i A::.i x::.i y::JD f m o p q r s t j u v w a) (.i 0::.l f::J10 m o p q r s t (j+1) u v [.l w,.l (a9 (a9 (a9 a g 9 (.l (pQ ((pQ (pQ (b8 2 0 []++cL a c 9) 0 b++pQ (b8 2 0 []++cL a c 9) (b+1) (ln (cL a c 9)-(b+1))) 0 d++b8 2 1 [.i z,.i A])++pQ (pQ (b8 2 0 []++cL a c 9) 0 b++pQ (b8 2 0 []++cL a c 9) (b+1) (ln (cL a c 9)-(b+1))) d ((b+(ln (cL a c 9)-(b+1)))-d)) 0 ((b+(ln (cL a c 9)-(b+1)))+1)))) h 7 (.i (cI a k 7))) h 8 (.i (cI a k 8)))])) True))))/\(¬y=cI (pQ (b8 2 0 []++cL a c 9) 0 b++pQ (b8 2 0 []++cL a c 9) (b+1) (ln (cL a c 9)-(b+1))) d 1->jc d a c b x y)))/\(¬x=cI (pQ (b8 2 0 []++cL a c 9) 0 b++pQ (b8 2 0 []++cL a c 9) (b+1) (ln (cL a c 9)-(b+1))) d 0->jc d a c b x y)))/\(¬d<b+(ln (cL a c 9)-(b+1))->Nd (¬ln (pQ (b8 2 0 []++cL a c 9) 0 b)+ln (pQ (b8 2 0 []++cL a c 9) (b+1) (ln (cL a c 9)-(b+1)))<b+(ln (cL a c 9)-(b+1))) (Nd (false=true)<|Nd (¬b+(ln (cL a c 9)-(b+1))<(-1))<|Nd (b+(ln (cL a c 9)-(b+1))<67108864)<|Nq (ln f)<|Cg u9 u6 (.i (cI a k 7)::.i (cI a k 8)::JE f m o p q r s t j u v w) λR=>∀g,R [.i g]->Nq (ln f) (Cg u9 u6 (.i z::.i A::JE f m o p q r s t j u v w) λR=>∀h,R [.i h]->Nb g (ln a) (Nb h (ln a)<|Nd (¬g<0)<|Nd (¬(ln (pQ (pQ (b8 2 0 []++cL a c 9) 0 b++pQ (b8 2 0 []++cL a c 9) (b+1) (ln (cL a c 9)-(b+1))) 0 (-1))+1)+ln (pQ (pQ (b8 2 0 []++cL a c 9) 0 b++pQ (b8 2 0 []++cL a c 9) (b+1) (ln (cL a c 9)-(b+1))) (-1) ((b+(ln (cL a c 9)-(b+1)))+1))<(b+(ln (cL a c 9)-(b+1)))+1)<|
 Nd (g<ln a)<|Nb h (ln a)<|Nd (I64 (j+1))<|Nq (ln f)<|Nd (dO (.i z::.i A::.i x::.i y::JD f m o p q r s t j u v w a) (.i 0::.l f::J10 m o p q r s t (j+1) u v [.l w,.l (a9 (a9 (a9 a g 9 (.l (pQ ((pQ (pQ (b8 2 0 []++cL a c 9) 0 b++pQ (b8 2 0 []++cL a c 9) (b+1) (ln (cL a c 9)-(b+1))) 0 (-1)++b8 2 1 [.i z,.i A])++pQ (pQ (b8 2 0 []++cL a c 9) 0 b++pQ (b8 2 0 []++cL a c 9) (b+1) (ln (cL a c 9)-(b+1))) (-1) ((b+(ln (cL a c 9)-(b+1)))+1)) 0 ((b+(ln (cL a c 9)-(b+1)))+1)))) h 7 (.i (cI a k 7))) h 8 (.i (cI a k 8)))])) True)))))
def ja (c:a8)(t u f g h j k m o p q r:Int)(s a:a8)(v w:Int):Prop:=
 We (JE c f g h j k m o p q r s) λV=>We (Cg u9 u6 (.i t::.i u::V)) λW=>Nq (ln c)<|W λR=>∀x,R [.i x]->Nb x (ln a) (Nq (ln c)<|Cg u9 u6 (.i (cI a x 7)::.i (cI a x 8)::V) λR=>∀B,R [.i B]->Cg P7 N9 [.i B,.i v,.i w,.l a] (λR=>∀z,R [.i z]->((z<0->di c t u v w f g h j k m o p q r s a)/\(¬z<0->Nq (ln c) (W λR=>∀A,R [.i A]->Nb A (ln a) (Nq (ln c)<|W λR=>∀y,R [.i y]->Nb y (ln a) (Nq (ln c)<|Cg u9 u6 (.i (cI a y 7)::.i (cI a y 8)::V) λR=>∀b,R [.i b]->We (cL a b 9) λX=>Cg P7 N9 [.i b,.i t,.i u,.l a] (λR=>∀d,R [.i d]->Nb b (ln a) (∀(C:Bool),(C=true->ln X=0->Nd (I64 (d+1)) False)/\(¬C=true->Nd (ln X<67108865) ((0<ln X->Nd (I64 (d+1)) (Ni (ln X)<|Nb d (d+1)<|Nd (¬ln X<d+1)<|Nd (v=0)<|Nd (¬w=0)<|Nd (gB [.l (pQ (b8 2 0 []++cL a b 9) 0 d++pQ (b8 2 0 []++cL a b 9) (d+1) (ln X-(d+1))),.i v,.i w] [.i 0])<|jb a b d v w c A f g h j k m o p q r s t u))/\(¬0<ln X->Nd (I64 (d+1)) False))))))))))))
def iz (a b c d:Int)(f:a8)(g h i j k l m o p q:Int)(r s:a8):Prop:=
 (a=b->((c=d->di f b d a c g h i j k l m o p q r s)/\(¬c=d->ja f b d g h i j k l m o p q r s a c)))/\(¬a=b->ja f b d g h i j k l m o p q r s a c)
def iy (c:a8)(t u f g h j k m o p q r:Int)(s a:a8)(v w:Int):Prop:=
 We (JE c f g h j k m o p q r s) λV=>We (Cg u9 u6 (.i t::.i u::V)) λW=>Nq (ln c)<|W λR=>∀x,R [.i x]->Nb x (ln a) (Nq (ln c)<|Cg u9 u6 (.i (cI a x 7)::.i (cI a x 8)::V) λR=>∀B,R [.i B]->Cg P7 N9 [.i B,.i v,.i w,.l a] (λR=>∀z,R [.i z]->((z<0->di c t u v w f g h j k m o p q r s a)/\(¬z<0->Nq (ln c) (W λR=>∀A,R [.i A]->Nb A (ln a) (Nq (ln c)<|W λR=>∀y,R [.i y]->Nb y (ln a) (Nq (ln c)<|Cg u9 u6 (.i (cI a y 7)::.i (cI a y 8)::V) λR=>∀b,R [.i b]->We (cL a b 9) λX=>Cg P7 N9 [.i b,.i t,.i u,.l a] (λR=>∀d,R [.i d]->Nb b (ln a) (∀(C:Bool),(C=true->ln X=0->Nd (I64 (d+1)) False)/\(¬C=true->Nd (ln X<67108865) ((0<ln X->Nd (I64 (d+1)) (Ni (ln X)<|Nb d (d+1)<|Nd (¬ln X<d+1)<|Nd (¬v=0)<|Nd (gB [.l (pQ (b8 2 0 []++cL a b 9) 0 d++pQ (b8 2 0 []++cL a b 9) (d+1) (ln X-(d+1))),.i v,.i w] [.i 0])<|jb a b d v w c A f g h j k m o p q r s t u))/\(¬0<ln X->Nd (I64 (d+1)) False))))))))))))
def ff (a b c d:Int)(f:a8)(g h i j k l m o p q:Int)(r s:a8):Prop:=
 (a=b->((c=d->di f b d a c g h i j k l m o p q r s)/\(¬c=d->iy f b d g h i j k l m o p q r s a c)))/\(¬a=b->iy f b d g h i j k l m o p q r s a c)
def wa :Prop:=
 ∀r s t u a d f g h j k l m o p q c,Gx (.i r::.i s::.i t::.i u::JD a d f g h j k l m o p q c)->We (JE a d f g h j k l m o p q) λW=>We (.i r::.i s::W) λV=>((t=0->((u=0->Nq (ln a) (Cg I0 E2 V λR=>∀x,R [.b x]->((x=true->Nq (ln a) (Cg u9 u6 V λR=>∀v,R [.i v]->Nb v (ln c) ((cI c v 7=0->((cI c v 8=0->fi a r s t u d f g h j k l m o p q c)/\(¬cI c v 8=0->jd t r u s a d f g h j k l m o p q c)))/\(¬cI c v 7=0->jd t r u s a d f g h j k l m o p q c))))/\(¬x=true->dq a r s t u d f g h j k l m o p q c))))/\(¬u=0->Nq (ln a) (Cg I0 E2 V λR=>∀x,R [.b x]->((x=true->Nq (ln a) (Cg I0 E2 (.i t::.i u::W) λR=>∀v,R [.b v]->((v=true->Nq (ln a) (Cg u9 u6 V λR=>∀w,R [.i w]->Nb w (ln c) ((cI c w 7=0->((cI c w 8=0->fi a r s t u d f g h j k l m o p q c)/\(¬cI c w 8=0->iz t r u s a d f g h j k l m o p q c)))/\(¬cI c w 7=0->iz t r u s a d f g h j k l m o p q c))))/\(¬v=true->dq a r s t u d f g h j k l m o p q c))))/\(¬x=true->dq a r s t u d f g h j k l m o p q c))))))/\(¬t=0->Nq (ln a) (Cg I0 E2 V λR=>∀x,R [.b x]->((x=true->Nq (ln a) (Cg I0 E2 (.i t::.i u::W) λR=>∀v,R [.b v]->((v=true->Nq (ln a) (Cg u9 u6 V λR=>∀w,R [.i w]->Nb w (ln c) ((cI c w 7=0->((cI c w 8=0->fi a r s t u d f g h j k l m o p q c)/\(¬cI c w 8=0->ff t r u s a d f g h j k l m o p q c)))/\(¬cI c w 7=0->ff t r u s a d f g h j k l m o p q c))))/\(¬v=true->dq a r s t u d f g h j k l m o p q c))))/\(¬x=true->dq a r s t u d f g h j k l m o p q c)))))
def vz :kq WG yO (Hn 0) (Cb 0) 128=wa:=by kernel_rfl
section
variable {G :Nat->Nat}{c:Nat}{a:Nat}
def OS {j:Nat}(h:((B2 G j).getD 0 (.i 0)).toInt=(c:Int)/\((B2 G j).getD 1 (.i 0)).toInt=(G c:Int)):j=c:=by have h:(j:Int)=c:=h.1;omega
def BH :∀ {l:Ah} {k:Int},ixF (l.map (B2 G)) c (G c) k=if c∈l then k+(l.idxOf c:Nat)else-1
 | [],k=>rfl|j::l,k=>by
  rw[TV,gC,BH (l:=l)];by_cases e:j=c;subst e;rw[Tp ⟨rfl,rfl⟩,Tp (by simp)];simp
  .rw[Tn λh=>e (OS h)];by_cases m:c∈l
   .rw[Tp m,Tp (by simp[m]),List.idxOf_cons];have:(j==c)=false:=by simpa using e
    rw[this];simp;omega
   rw[Tn m,Tn (by simp[m];exactλh=>e h.symm)]
def CN :∀ {l:Ah},l.Nodup->c∈l->l.take (l.idxOf c)++l.drop (l.idxOf c+1)=I7 l c
 | [],_,h=>by simp at h|j::l,hn,h=>by
  obtain⟨h1,h2⟩:=List.nodup_cons.1 hn;unfold I7;rw[List.idxOf_cons];by_cases e:j=c;subst e;simp;exact(List.filter_eq_self.2 λx hx=>by simp;rintro rfl;exact h1 hx).symm
  .have he:(j==c)=false:=by simpa using e
   have hm:c∈l:=by rcases TH.1 h with h|h;exact absurd h.symm e;exact h
   rw[he];have:=CN h2 hm;unfold I7 at this;simp[e,this]
def IB :∀ {l:Ah},a∉l->(l.flatMap λ(x:Nat)=>if(x:Int)=(a:Int)then [c,x]else [x])=l
 | [],_=>rfl|j::l,h=>by have h1:¬(j:Int)=a:=λe=>h (by simp[show j=a by omega]);rw[List.flatMap_cons,Tn h1,IB λm=>h (by simp[m])];rfl
def GK :∀ {l:Ah},l.Nodup->a∈l->l.take (l.idxOf a)++ [c]++l.drop (l.idxOf a)=S4 l c a
 | [],_,h=>by simp at h|j::l,hn,h=>by
  obtain⟨h1,h2⟩:=List.nodup_cons.1 hn;unfold S4;rw[Tn (by omega),UF,List.idxOf_cons,List.flatMap_cons];by_cases e:j=a;subst e;rw[Tp rfl,IB h1];simp
  .have he:(j==a)=false:=by simpa using e
   have hm:a∈l:=by rcases TH.1 h with h|h;exact absurd h.symm e;exact h
   have h3:¬(j:Int)=a:=by omega
   rw[he,Tn h3];have:=GK h2 hm;unfold S4 at this;rw[Tn (by omega),UF]at this;rw[<-this];simp
def IA {l:Ah}{z:Int}(h:z<0):S4 l c z=l++ [c]:=by
 unfold S4;rw[Tp h];congr 1;induction l with
 |nil=>rfl|cons j l b=>rw[List.flatMap_cons,Tn (by omega),b];rfl
end
section
variable {D :DM}{S N S' N':a8}{fr lv i g j m x y:Int}{K c p k:Nat}{G:Nat->Nat}{cs:Ak}{Lr:a8}
def Rl.flds (h:Rl G D S N fr lv)(hk:D.at i g=some c):∃s,D.L[c]? =some s/\s.used=true/\D.nod c=s.n/\i=c/\(s.g:Int)=g/\0<=atF S i g/\atF S i g<N.length/\cI N (atF S i g) 0=s.n.kind/\cI N (atF S i g) 7=hI s.n.par/\cI N (atF S i g) 8=hG' G s.n.par/\cL N (atF S i g) 9=s.n.ch.map (B2 G):=by obtain⟨s,h1,h2,h3,h4,d,e,b⟩:=h.node hk;refine⟨s,h1,h3,UZ h1,h2,h4,d,e,?_,?_,?_,?_⟩;unfold cI;rw[b];rfl;unfold cI;rw[b];rfl;unfold cI;rw[b];rfl;unfold cL;rw[b];rfl
def DM.setN_at {q:Nod->Nod}:(D.setN p q).at i g=D.at i g:=by unfold DM.at DM.setN;simp only[l8];by_cases e:p=i.toNat<;>cases D.L[i.toNat]? <;>simp[e]
variable {s:Sl}
def DM.gen_of (h:D.L[c]? =some s):D.gen c=s.g:=by unfold DM.gen;rw[h]
def UY:type_of% @DM.gen_of:=@DM.gen_of
def DM.kids_gen {l:Ah}{z:Int}:(D.kids p c l z k).gen=D.gen:=by unfold DM.kids;have:∀D:DM,(D.cnt k).gen=D.gen:=λ_=>rfl;rw[this,DM.setN_gen,DM.setN_gen]
def BY {f:DM->DM×Prop}(hf:∀D K,RlC D S N fr lv cs->WF D K-> ∃p c l z,D.at i g=some p/\D.at j m=some c/\(f D).1=D.kids p c l z k/\(f D).2/\Lr=l.map (B2 D.gen)/\x=hI z/\y=hG' D.gen z)(h0:∃D K,RlC D S N fr lv cs/\WF D K){cs':Ak}(h:cs'=cs.modify k (· +1)):Z5 S N fr lv cs S (a9 (a9 (a9 N (atF S i g) 9 (.l Lr)) (atF S j m) 7 (.i x)) (atF S j m) 8 (.i y)) fr lv cs' f:=by
 have e:a9 (a9 (a9 N (atF S i g) 9 (.l Lr)) (atF S j m) 7 (.i x)) (atF S j m) 8 (.i y)=(N.modify (atF S i g).toNat λr=>r.set 9 (.l Lr)).modify (atF S j m).toNat λr=>(r.set 7 (.i x)).set 8 (.i y):=by unfold a9;rw[B6 (L:=N.modify _ _)]
 rw[e,h];refine⟨?_,λD K b d=>?_⟩;obtain⟨D,K,b,d⟩:=h0;obtain⟨p,c,l,z,h1,h2,_⟩:=hf D K b d;exact b.1.frame h2 (b.1.frame h1 Ve);obtain⟨p,c,l,z,h1,h2,h3,h4,rfl,rfl,rfl⟩:=hf D K b d;refine⟨?_,h4⟩;rw[h3];refine⟨?_,by rw[b.2];rfl⟩;rw[DM.kids_gen];have s1:=b.1.mod h1 (q:=λn=> {n with ch:=l}) (q':=λr=> {r with c:=l.map (B2 D.gen)}) (F:=λr=>r.set 9 (.l (l.map (B2 D.gen)))) (λ_=>rfl) (λ_=>rfl);have s2:=s1.mod (i:=j) (g:=m) (c:=c) (by rw[DM.setN_at];exact h2) (q:=λn=> {n with par:=z}) (q':=λr=> {r with pi:=hI z,pg:=hG' D.gen z}) (F:=λr=>(r.set 7 (.i (hI z))).set 8 (.i (hG' D.gen z))) (λ_=>rfl) (λ_=>rfl);exact s2.cnt k
variable {rest:Ar}{Q:Int->Prop}
def G0 {a b:Int}(h:U32 i/\U32 g/\S.length<=1000)(k:Q (atF S i g)):Ni a (Nr b (Sx.Nd (u9 (.i i:: .i g:: .l S::rest)) (∀p,u6 (.i i:: .i g:: .l S::rest) [.i p]->Q p))):=
 nin (nrn (ndi h λp hp=>by have hp:p=atF S i g:=hp;subst hp;exact k))
def Y7 {a b:Int}{Q:Bool->Prop}(h:U32 i/\U32 g/\S.length<=1000)(k:Q (t9 S i g)):Ni a (Nr b (Sx.Nd (I0 (.i i:: .i g:: .l S::rest)) (∀p,E2 (.i i:: .i g:: .l S::rest) [.b p]->Q p))):=
 nin (nrn (ndi h λp hp=>by have hp:p=t9 S i g:=hp;subst hp;exact k))
def fQ {q:Int}(h:U32 i/\U32 g/\0<=q/\q<N.length/\(cL N q 9).length<=1000)(k:Q (plF (cL N q 9) i g)):Sx.Nd (P7 [.i q,.i i,.i g,.l N]) (∀p,N9 [.i q,.i i,.i g,.l N] [.i p]->Q p):=
 ndi h λp hp=>by have hp:p=plF (cL N q 9) i g:=hp;subst hp;exact k
def C8 {q:Int}{Q:Prop}(h0:0<=q)(h1:q<N.length)(k:Q):Sx.Nd (¬q<0) (Sx.Nd (q<ln N) Q):=ndi (by omega) (ndi h1 k)
def WF.kidlen (w:WF D K)(h:D.L[c]? =some s)(b:s.used=true):s.n.ch.length<=1000:=by
 obtain⟨h1,h2⟩:=w.ch c s h b;have:s.n.ch.length<=D.L.length:=by
  have hs:s.n.ch ⊆ List.range D.L.length:=λj hj=>by obtain⟨sj,h3,_⟩:=h2 j hj;exact List.mem_range.2 (SW.1 h3).1
  have:=h1.length_le_of_subset hs;simpa using this
 have:=w.lim;omega
def WF.hI_zero (w:WF D K)(h:D.L[c]? =some s)(d:s.used=true):(hI s.n.par=0/\hG' D.gen s.n.par=0)↔s.n.par= -1:=by
 rcases w.par c s h d with e| ⟨q,b,e,h1,h2,h3⟩;rw[e];simp[hI,hG']
 .rw[e];have hg:hG' D.gen (q:Int)=b.g:=by unfold hG';rw[Tn (by omega),TK,UY h1]
  rw[hg];have:=w.gen b (Td h1);constructor;intro h;omega;intro h;omega
end
section
variable {D :DM}{S N S' N':a8}{fr lv i g j m x y:Int}{K c p k:Nat}{G:Nat->Nat}{cs:Ak}{Lr:a8}
def Rl.par (h:Rl D.gen D S N fr lv)(w:WF D K)(hk:D.at i g=some c)(hp:(D.nod c).par≠ -1):∃(q:Nat) (a:Sl),(D.nod c).par=q/\D.at (cI N (atF S i g) 7) (cI N (atF S i g) 8)=some q/\D.L[q]? =some a/\a.used=true/\D.nod q=a.n/\c∈a.n.ch/\a.n.ch.Nodup/\a.n.ch.length<=1000/\cL N (atF S (cI N (atF S i g) 7) (cI N (atF S i g) 8)) 9=a.n.ch.map (B2 D.gen)/\plF (a.n.ch.map (B2 D.gen)) i g=(a.n.ch.idxOf c:Nat)/\0<=atF S (cI N (atF S i g) 7) (cI N (atF S i g) 8)/\atF S (cI N (atF S i g) 7) (cI N (atF S i g) 8)<N.length/\U32 (cI N (atF S i g) 7)/\U32 (cI N (atF S i g) 8):=by
 obtain⟨s,h1,h2,h3,h4,t,E,F,H,I,o,r⟩:=h.flds hk;obtain⟨s',k1,k2,k3,k4,u⟩:=Jj h w hk;rw[h1]at k1;cases k1;rw[h3]at hp⊢;rcases u with⟨e,_⟩| ⟨q,e,hq,a,b,d,l⟩;exact absurd e hp
 .obtain⟨C,r1,M,z,O,P,A,B,Q,R,v,f⟩:=h.flds hq;rw[b]at r1;cases r1;have J:=w.u32 hk;have hg:g=(D.gen c:Int):=by rw[UY h1,t]
  refine⟨q,a,e,hq,b,d,z,l,(w.ch q a b d).1,w.kidlen b d,f,?_,A,B,(w.u32 hq).1,(w.u32 hq).2.1⟩;unfold plF;rw[Tn (by omega),h4,hg,BH,Tp l];omega
def oW {l:Ah}(h:c∈l):l.idxOf c<l.length:=List.idxOf_lt_length_of_mem h
def ft (i g:Int){S st N:a8}{fr lv c0 O P Q R T U V:Int}(hp:∃D K,RlC D S N fr lv [c0,O,P,Q,R,T,U,V]/\WF D K)(hv:t9 S i g=true)(hi:U32 i)(hg:U32 g)(hn:¬(cI N (atF S i g) 7=0/\cI N (atF S i g) 8=0)):io S i g fr lv c0 O P Q R T U V st N:=by
 have hp':=hp;obtain⟨D,K,⟨J,hc⟩,u⟩:=hp;have a:=J.slen u;have facts:∀ {D K},RlC D S N fr lv [c0,O,P,Q,R,T,U,V]->WF D K-> ∃c,D.at i g=some c/\(D.nod c).par≠ -1:=by intro D K H u;obtain⟨c,hk⟩:=H.1.vld.1 hv;obtain⟨s,h1,h2,h3,h4,h5,E,F,h8,h9,C,W⟩:=H.1.flds hk;refine⟨c,hk,λe=>hn ?_⟩;rw[h9,C];exact(u.hI_zero h1 h2).2 (by rw[<-h3];exact e)
 obtain⟨c,hk,d⟩:=facts ⟨J,hc⟩ u;obtain⟨q,f,X,Y,e3,e4,Z,I,e7,e8,B,v,r,o,w,A⟩:=J.par u hk d;obtain⟨s,h1,h2,h3,h4,h5,E,F,h8,h9,C,W⟩:=J.flds hk;have ix:=oW I;unfold io;refine G0 ⟨hi,hg,a⟩ (C8 E F (G0 ⟨hi,hg,a⟩ (C8 E F (G0 ⟨w,A,a⟩ (fQ ⟨hi,hg,r,o,by rw[B,Tm];exact e8⟩ (C8 r o λb=>?_))))));have L:ln (cL N (atF S (cI N (atF S i g) 7) (cI N (atF S i g) 8)) 9)=(f.n.ch.length:Int):=by rw[B];simp[ln]
 have M:plF (cL N (atF S (cI N (atF S i g) 7) (cI N (atF S i g) 8)) 9) i g=(f.n.ch.idxOf c:Nat):=by rw[B,v]
 refine⟨λ_ h=>?_,λ_=>ndi (by rw[L];omega) ⟨λ_=>?_,λh=>?_⟩⟩;rw[L]at h;omega
 .refine ndi (by rw[M];unfold I64;omega) (nin (ndi (by rw[M];omega) (ndi (by omega) (ndi (by rw[L,M];omega) (G0 ⟨w,A,a⟩ (G0 ⟨hi,hg,a⟩ ?_))))));refine C8 r o (C8 E F (ndi (by omega) (ndi ?_ (ndi o (C8 E F (ndi (u.i64 (k:=4) (by rw[<-hc];rfl)) (nin (nrn (ndt ?_)))))))));rw[M,B];simp[ln,pQ,b8];omega
  .refine BY (k:=4) (λD K H u=>?_) hp' rfl;obtain⟨c,hk,d⟩:=facts H u;obtain⟨q,f,X,Y,e3,e4,Z,I,e7,e8,B,v,r,o,w,A⟩:=H.1.par u hk d;have ix:=oW I;refine⟨q,c,I7 f.n.ch c, -1,Y,hk,?_,?_,?_,rfl,rfl⟩;unfold V3;rw[hk];simp only;rw[Tn d,X,TK,Z];unfold V3;rw[hk];simp only;rw[Tn d]
   .rw[B,v];have z:b8 2 0 []++f.n.ch.map (B2 D.gen)=f.n.ch.map (B2 D.gen):=rfl;rw[z,O9,O9,<-TQ,O9,<-CN e7 I];congr 1;have l1:ln (f.n.ch.map (B2 D.gen))=(f.n.ch.length:Int):=by simp[ln]
    rw[l1];generalize f.n.ch.idxOf c=t at*;have a1:((t:Int)+1).toNat=t+1:=by omega
    have a2:((f.n.ch.length:Int)-((t:Int)+1)).toNat=f.n.ch.length-(t+1):=by omega
    rw[a1,a2,TK,Int.toNat_zero,UK,UK,TT (l:=f.n.ch.drop (t+1)) (by simp)];rw[TT (by simp;omega)]
 rw[L]at h;omega
def tf :th:=by unfold th;intro i g S fr lv c0 w z A B C E F st N h;obtain⟨hi,hg,hp⟩:=h;have hp':=hp;obtain⟨D,K,⟨o,hc⟩,l⟩:=hp;have a:=o.slen l;refine Y7 ⟨hi,hg,a⟩ ⟨λhv=>?_,λhv=>nin (nrn (ndt (D2 λD K f l=>?_)))⟩;obtain⟨c,hk⟩:=o.vld.1 hv;obtain⟨s,h1,h2,h3,h4,u,q,r,v,t,b,n⟩:=o.flds hk;refine G0 ⟨hi,hg,a⟩ (C8 q r ⟨λd=>⟨λe=>nin (nrn (ndt (D2 λD K f l=>?_))),λe=>ft i g hp' hv hi hg λh=>e h.2⟩,λd=>ft i g hp' hv hi hg λh=>d h.1⟩);obtain⟨c,hk⟩:=f.1.vld.1 hv;obtain⟨s,h1,h2,h3,h4,u,q,r,v,t,b,n⟩:=f.1.flds hk;rw[t]at d;rw[b]at e;have:=(l.hI_zero h1 h2).1 ⟨d,e⟩;unfold V3;rw[hk];simp only;rw[Tp (by rw[h3];exact this)];exact⟨rfl,rfl⟩;unfold V3;rw[f.1.none hv];exact⟨rfl,rfl⟩
end
section
variable {D :DM}{S N S' N' st:a8}{fr lv i g j m x y c0 c1 c2 c3 c4 c5 c6 c7:Int}{K c p k:Nat}{G:Nat->Nat}{cs:Ak}{Lr:a8}{l:Ah}{t a:Int}
def El (h0:0<=t)(h1:t<=l.length){n q:Int}(hn:n=(l.length:Int)-t)(hq:q=(l.length:Int)+1):pQ ((pQ (l.map (B2 G)) 0 t++b8 2 1 [.i c,.i (G c)])++pQ (l.map (B2 G)) t n) 0 q=(l.take t.toNat++ [c]++l.drop t.toNat).map (B2 G):=by
 subst hn hq;have e:b8 2 1 [.i c,.i (G c)]=[c].map (B2 G):=rfl;rw[e,O9,O9,<-TQ,<-TQ,O9];congr 1;have b:((l.length:Int)-t).toNat=l.length-t.toNat:=by omega
 have d:((l.length:Int)+1).toNat=l.length+1:=by omega
 rw[b,d,Int.toNat_zero,UK,UK,TT (l:=l.drop t.toNat) (by simp)];rw[TT (by simp;omega)]
def dR (hn:l.Nodup)(d:D.opt x y=some a):(plF (l.map (B2 D.gen)) x y<0↔0<=a/\a.toNat∉l)/\(¬plF (l.map (B2 D.gen)) x y<0->plF (l.map (B2 D.gen)) x y<=l.length/\ ∀c,l.take (plF (l.map (B2 D.gen)) x y).toNat++ [c]++l.drop (plF (l.map (B2 D.gen)) x y).toNat=S4 l c a):=by
 unfold DM.opt at d;unfold plF;by_cases e:x=0/\y=0;rw[Tp e]at d⊢;cases d;rw[Tm];refine⟨by omega,λ_=>⟨by omega,λc=>?_⟩⟩;rw[IA (by omega),TK,List.take_length,List.drop_length];simp
 .rw[Tn e]at d⊢;cases f:D.at x y with
  |none=>rw[f]at d;cases d
  |some b=>
   rw[f]at d;cases d;obtain⟨n,h1,h2,rfl,rfl⟩:=UW f;rw[show(n.g:Int)=(D.gen b:Nat) by rw[UY h1],BH];by_cases m:b∈l
   .have:=oW m;rw[Tp m];refine⟨by simp[m],λ_=>⟨by omega,λc=>?_⟩⟩;have e:((0:Int)+(l.idxOf b:Nat)).toNat=l.idxOf b:=by omega
    rw[e,GK hn m]
   rw[Tn m];exact⟨by simp[m],λh=>absurd (by omega) h⟩
def Rl.opt (h:Rl G D S N fr lv)(hx:(x=0/\y=0)\/t9 S x y=true):∃a,D.opt x y=some a:=by unfold DM.opt;rcases hx with e|e;exact⟨-1,by rw[Tp e]⟩;obtain⟨b,hb⟩:=h.vld.1 e;by_cases e:x=0/\y=0;exact⟨-1,by rw[Tp e]⟩;exact⟨b,by rw[Tn e,hb]⟩
def gk (hp:∃D K,RlC D S N fr lv [c0,c1,c2,c3,c4,c5,c6,c7]/\WF D K)(hv:t9 S i g=true)(hw:t9 S j m=true)(hx:(x=0/\y=0)\/t9 S x y=true)(hi:U32 i)(hg:U32 g)(hj:U32 j)(hm:U32 m)(ux:U32 x)(uy:U32 y):jj S i g fr lv c0 c1 c2 c3 c4 c5 c6 c7 st N j m x y:=by
 have hp':=hp;obtain⟨D,K,⟨hR,hc⟩,f⟩:=hp;have d:=hR.slen f;have facts:∀ {D K},RlC D S N fr lv [c0,c1,c2,c3,c4,c5,c6,c7]->WF D K-> ∃(p c:Nat) (a:Int) (sp F:Sl),D.at i g=some p/\D.at j m=some c/\D.opt x y=some a/\D.L[p]? =some sp/\sp.used=true/\D.nod p=sp.n/\D.L[c]? =some F/\F.used=true/\D.nod c=F.n/\i=p/\g=D.gen p/\j=c/\m=D.gen c/\cI N (atF S i g) 0=sp.n.kind/\cL N (atF S i g) 9=sp.n.ch.map (B2 D.gen)/\((cI N (atF S j m) 7=0/\cI N (atF S j m) 8=0)↔F.n.par= -1)/\cG D i g j m x y=open Classical in if(D.nod p).kind≠1 then(D,1)else if(D.nod c).par≠ -1\/Abv D c p then(D,10)else if 0<=a/\a.toNat∉(D.nod p).ch then(D,1)else(D.kids p c (S4 (D.nod p).ch c a) p 3,0):=by intro D K o f;obtain⟨p,hp⟩:=o.1.vld.1 hv;obtain⟨c,hc⟩:=o.1.vld.1 hw;obtain⟨a,ha⟩:=o.1.opt hx;obtain⟨sp,h1,h2,h3,h4,h5,T,E,h8,h9,ac,aa⟩:=o.1.flds hp;obtain⟨F,k1,k2,k3,k4,k5,J,M,k8,k9,ab,ah⟩:=o.1.flds hc;refine⟨p,c,a,sp,F,hp,hc,ha,h1,h2,h3,k1,k2,k3,h4,by rw[UY h1,h5],k4,by rw[UY k1,k5],h8,aa,by rw[k9,ab];exact f.hI_zero k1 k2,?_⟩;unfold cG;rw[hp,hc,ha]
 obtain⟨p,c,a,sp,F,f1,f2,f3,f4,f5,f6,f7,f8,f9,ai,aj,ak,al,H,u,am,an⟩:=facts ⟨hR,hc⟩ f;obtain⟨s,h1,h2,h3,h4,h5,T,E,h8,h9,ac,aa⟩:=hR.flds f1;obtain⟨s',k1,k2,k3,k4,k5,J,M,k8,k9,ab,ah⟩:=hR.flds f2;have bad:sp.n.kind=1->((¬(cI N (atF S j m) 7=0/\cI N (atF S j m) 8=0))\/ ∀D K c p,RlC D S N fr lv [c0,c1,c2,c3,c4,c5,c6,c7]->WF D K->D.at j m=some c->D.at i g=some p->Abv D c p)->fm S i g j m x y fr lv c0 c1 c2 c3 c4 c5 c6 c7 st N:=by intro hk hn;unfold fm;refine nin (nrn (ndt (D2 λD K o f=>?_)));obtain⟨p,c,a,ao,F,Z,g2,g3,g4,g5,I,g7,g8,g9,O,P,Q,R,v,w,A,r⟩:=facts o f;rw[r,Tn (by rw[I,<-v,H];simp[hk]),Tp (by rcases hn with hn|hn;exact .inl (by rw[g9];exactλe=>hn (A.2 e));exact .inr (hn D K c p o f g2 Z))];exact⟨rfl,rfl⟩
 have bad1:((cI N (atF S i g) 0≠1)\/((cI N (atF S j m) 7=0/\cI N (atF S j m) 8=0)/\(∀D K c p,RlC D S N fr lv [c0,c1,c2,c3,c4,c5,c6,c7]->WF D K->D.at j m=some c->D.at i g=some p-> ¬Abv D c p)/\plF (cL N (atF S i g) 9) x y<0))->jk S i g j m x y fr lv c0 c1 c2 c3 c4 c5 c6 c7 st N:=by intro hn;unfold jk;refine nin (nrn (ndt (D2 λD K o f=>?_)));obtain⟨p,c,a,sp,F,Z,g2,g3,g4,g5,I,g7,g8,g9,O,P,Q,R,v,w,A,r⟩:=facts o f;by_cases hk:sp.n.kind=1;rcases hn with hn| ⟨n1,n2,n3⟩;exact absurd (v.trans hk) hn;rw[w]at n3;rw[r,Tn (by rw[I];simp[hk]),Tn (by rw[g9];exactλh=>h.elim (λh=>h (A.1 n1)) (n2 D K c p o f g2 Z)),Tp (by rw[I];exact(dR (f.ch _ _ g4 g5).1 g3).1.1 n3)];exact⟨rfl,rfl⟩;rw[r,Tp (by rw[I];exact hk)];exact⟨rfl,rfl⟩
 have good:cI N (atF S i g) 0=1->(cI N (atF S j m) 7=0/\cI N (atF S j m) 8=0)->(∀D K c p,RlC D S N fr lv [c0,c1,c2,c3,c4,c5,c6,c7]->WF D K->D.at j m=some c->D.at i g=some p-> ¬Abv D c p)-> ¬plF (cL N (atF S i g) 9) x y<0-> ∀B:a8,B=cL N (atF S i g) 9-> ∀n q:Int,n=ln (cL N (atF S i g) 9)-plF (cL N (atF S i g) 9) x y->q=ln (cL N (atF S i g) 9)+1->
   bH (J6 i g j m x y (JD S fr lv c0 c1 c2 c3 c4 c5 c6 c7 st N)) (.i 0::.l S::J10 fr lv c0 c1 c2 (c3+1) c4 c5 c6 c7 [.l st,.l (a9 (a9 (a9 N (atF S i g) 9 (.l (pQ ((pQ B 0 (plF (cL N (atF S i g) 9) x y)++b8 2 1 [.i j,.i m])++pQ B (plF (cL N (atF S i g) 9) x y) n) 0 q))) (atF S j m) 7 (.i i)) (atF S j m) 8 (.i g))]):=by
  intro hk hn hA W B hB n q V hq;subst hB;refine BY (k:=3) (λD K o f=>?_) hp' rfl;obtain⟨p,c,a,sp,F,Z,g2,g3,g4,g5,I,g7,g8,g9,O,P,Q,R,v,w,A,r⟩:=facts o f;have e:cG D i g j m x y=(D.kids p c (S4 sp.n.ch c a) p 3,0):=by rw[r,Tn (by rw[I,<-v];simp[hk]),Tn (by rw[g9];exactλh=>h.elim (λh=>h (A.1 hn)) (hA D K c p o f g2 Z)),Tn (by rw[I];exactλh=>W (by rw[w];exact(dR (f.ch _ _ g4 g5).1 g3).1.2 h)),I]
  rw[w]at W V hq⊢;obtain⟨b1,b2⟩:=(dR (f.ch _ _ g4 g5).1 g3).2 W;have l1:ln (sp.n.ch.map (B2 D.gen))=(sp.n.ch.length:Int):=by simp[ln]
  rw[l1]at V hq;refine⟨p,c,S4 sp.n.ch c a,p,Z,g2,by rw[e],by rw[e],?_,?_,?_⟩;rw[Q,R,El (by omega) b1 V hq,b2];rw[O];unfold hI;rw[Tn (by omega)];rw[P];unfold hG';rw[Tn (by omega),TK]
 unfold jj;refine G0 ⟨hi,hg,d⟩ (C8 T E ⟨λhk=>G0 ⟨hj,hm,d⟩ (C8 J M ⟨λX=>⟨λY=>?_,λY=>bad (by rw[<-H];exact hk) (.inl λh=>Y h.2)⟩,λX=>bad (by rw[<-H];exact hk) (.inl λh=>X h.1)⟩),λhk=>bad1 (.inl hk)⟩);refine nin (nrn (ndi ⟨hj,hm,hi,hg,D,K,c,p,hR,f,f2,f1⟩ λb hb=>⟨λae=>bad (by rw[<-H];exact hk) (.inr λD K c p h1 h2 h3 h4=>(hb D K c p h1.1 h2 h3 h4).1 ae),λad=>?_⟩));have hA:∀D K c p,RlC D S N fr lv [c0,c1,c2,c3,c4,c5,c6,c7]->WF D K->D.at j m=some c->D.at i g=some p-> ¬Abv D c p:=λD K c p h1 h2 h3 h4 h=>ad ((hb D K c p h1.1 h2 h3 h4).2 h);have hP:P7 [.i (atF S i g),.i x,.i y,.l N]:=⟨ux,uy,T,E,by rw[u,Tm];exact f.kidlen f4 f5⟩
 have kl:=f.kidlen f4 f5;have ll:ln (cL N (atF S i g) 9)=(sp.n.ch.length:Int):=by rw[u];simp[ln]
 have U:I64 (c3+1):=f.i64 (k:=3) (by rw[<-hc];rfl);have pq:=dR (f.ch _ _ f4 f5).1 f3;rw[<-u]at pq;refine G0 ⟨hi,hg,d⟩ (fQ hP ⟨λhl=>bad1 (.inr ⟨⟨X,Y⟩,hA,hl⟩),λhl=>G0 ⟨hi,hg,d⟩ (C8 T E λb=>⟨λhb h0=>?_,λhb=>ndi (by omega) ⟨λh0=>?_,λh0=>?_⟩⟩)⟩)
 .have C:cL N (atF S i g) 9=[]:=by rw[u];rw[ll]at h0;have:sp.n.ch=[]:=SZ (by omega);rw[this];rfl
  have z:plF (cL N (atF S i g) 9) x y=0:=by have:=(pq.2 hl).1;rw[ll]at h0;omega
  refine fQ hP (ndi hl (ndi (by omega) (G0 ⟨hi,hg,d⟩ (G0 ⟨hj,hm,d⟩ (C8 T E (C8 J M (ndi (by omega) (ndi ?_ (ndi E (C8 J M (ndi U (nin (nrn (ndt ?_))))))))))))));rw[z];simp[pQ,ln];exact good hk ⟨X,Y⟩ hA hl [] C.symm (0-plF (cL N (atF S i g) 9) x y) 1 (by rw[h0]) (by rw[h0];rfl)
 have z:b8 2 0 []++cL N (atF S i g) 9=cL N (atF S i g) 9:=rfl;refine fQ hP (nin (ndi hl (ndi (by have:=(pq.2 hl).1;omega) (ndi (by omega) (G0 ⟨hi,hg,d⟩ (G0 ⟨hj,hm,d⟩ (C8 T E (C8 J M (ndi (by omega) (ndi ?_ (ndi E (C8 J M (ndi U (nin (nrn (ndt ?_))))))))))))))));rw[z];have:=(pq.2 hl).1;simp only[pQ,ln,TE,TW]at ll⊢;omega;rw[z];exact good hk ⟨X,Y⟩ hA hl _ rfl _ _ rfl rfl
 .have C:cL N (atF S i g) 9=[]:=by rw[u];rw[ll]at h0;have:sp.n.ch=[]:=SZ (by omega);rw[this];rfl
  have z:Sx.over (b8 2 0 []) 0 (cL N (atF S i g) 9)=cL N (atF S i g) 9:=by rw[C];rfl
  refine fQ hP (ndi (by omega) (ndi (by rw[z];omega) (ndi (by omega) (ndi (by rw[z];omega) (ndi hl (ndi (by have:=(pq.2 hl).1;omega) (ndi (by omega) (G0 ⟨hi,hg,d⟩ (G0 ⟨hj,hm,d⟩ (C8 T E (C8 J M (ndi (by omega) (ndi ?_ (ndi E (C8 J M (ndi U (nin (nrn (ndt ?_)))))))))))))))))));rw[z];have:=(pq.2 hl).1;simp only[pQ,ln,TE,TW]at ll⊢;omega;rw[z];exact good hk ⟨X,Y⟩ hA hl _ rfl _ _ rfl rfl
theorem df (h:t9 S i g=false\/t9 S j m=false\/(¬(x=0/\y=0)/\t9 S x y=false)):dt S i g j m x y fr lv c0 c1 c2 c3 c4 c5 c6 c7 st N:=by
 unfold dt;refine nin (nrn (ndt (D2 λD K b d=>?_)));have:cG D i g j m x y=(D,11):=by
  unfold cG;rcases h with h|h| ⟨h,h2⟩;rw[b.1.none (by simp[h])];rw[b.1.none (i:=j) (by simp[h])];split<;>simp_all
  .have:D.opt x y=none:=by unfold DM.opt;rw[Tn h,b.1.none (i:=x) (by simp[h2])]
   rw[this];split<;>simp_all
 rw[this];exact⟨rfl,rfl⟩
def wv :wy:=by
 unfold wy;intro i g j m x y S fr lv c0 c1 c2 c3 c4 c5 c6 c7 st N h;obtain⟨hi,hg,hj,hm,ux,uy,hp⟩:=h;have hp':=hp;obtain⟨D,K,⟨q,hc⟩,r⟩:=hp;have b:=q.slen r;have d:¬(x=0/\y=0)->ji S i g fr lv c0 c1 c2 c3 c4 c5 c6 c7 st j m x y N:=by intro hn;unfold ji;exact Y7 ⟨hi,hg,b⟩ ⟨λe=>Y7 ⟨hj,hm,b⟩ ⟨λf=>Y7 ⟨ux,uy,b⟩ ⟨λo=>gk hp' e f (.inr o) hi hg hj hm ux uy,λo=>df (.inr (.inr ⟨hn,by simpa using o⟩))⟩,λf=>df (.inr (.inl (by simpa using f)))⟩,λe=>df (.inl (by simpa using e))⟩
 refine⟨λex=>⟨λn=>Y7 ⟨hi,hg,b⟩ ⟨λe=>Y7 ⟨hj,hm,b⟩ ⟨λf=>gk hp' e f (.inl ⟨ex,n⟩) hi hg hj hm ux uy,λf=>df (.inr (.inl (by simpa using f)))⟩,λe=>df (.inl (by simpa using e))⟩,λn=>d λh=>n h.2⟩,λex=>d λh=>ex h.1⟩
