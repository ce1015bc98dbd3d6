/- The conditions of contracts, as the engine's printer has written them, and that the kernel comes to the same.
  Conditions: none. -/
import Derived.Test.YtoegfalhkackeaaGreatA1
set_option maxRecDepth 100000
set_option linter.all false
namespace Go.D
open Go Go.Xe Go.Sx
def fh (a:Ae)(c:Int):Prop:=
 (Sx.byteAt a c<48->Nd (D6 [.s a] [.b false]) True)/\(¬Sx.byteAt a c<48->((57<Sx.byteAt a c->Nd (D6 [.s a] [.b false]) True)/\(¬57<Sx.byteAt a c->Nd (I64 (c+1)) (Nd (rB [.s a] [.i (c+1)])<|Nd (MJ [.s a] [.i (c+1)]<MJ [.s a] [.i c]) True))))
def iw :Prop:=
 ∀a,Z4 [.s a]->((ln a<1->Nd (D6 [.s a] [.b false]) True)/\(¬ln a<1->((16<ln a->Nd (D6 [.s a] [.b false]) True)/\(¬16<ln a->Nd (rB [.s a] [.i 0]) (∀c,rB [.s a] [.i c]->((c<ln a->Nd (¬c<0) (Nd (c<ln a)<|(Sx.byteAt a c<97->fh a c)/\(¬Sx.byteAt a c<97->((122<Sx.byteAt a c->fh a c)/\(¬122<Sx.byteAt a c->Nd (I64 (c+1)) (Nd (rB [.s a] [.i (c+1)])<|Nd (MJ [.s a] [.i (c+1)]<MJ [.s a] [.i c]) True))))))/\(¬c<ln a->Nd (D6 [.s a] [.b true]) True)))))))
def mc :kq mj eZ (eD 0) (pG 0) 161=iw:=by kernel_rfl
def kc :Prop:=
 ∀a,jB [.s a]->((64<ln a->Nd (L4 [.s a] [.b false]) True)/\(¬64<ln a->Nd (a=a) (Nd (wL [.s a] [.i 0])<|∀c,wL [.s a] [.i c]->((c<ln a->((Sx.runeAt a c<32->Nd (L4 [.s a] [.b (decide (c<0))]) True)/\(¬Sx.runeAt a c<32->((126<Sx.runeAt a c->Nd (L4 [.s a] [.b (decide (c<0))]) True)/\(¬126<Sx.runeAt a c->Nd (a=a) (Nd (wL [.s a] [.i (c+Sx.runeW a c)])<|Nd (Wk [.s a] [.i (c+Sx.runeW a c)]<Wk [.s a] [.i c]) True))))))/\(¬c<ln a->Nd (L4 [.s a] [.b true]) True)))))
def nl :kq zh eZ (eD 0) (pG 0) 160=kc:=by kernel_rfl
def dv (a:a8):Prop:=
 (cS a 0 4=([]:Ae)->((8<ln (cL a 0 3)->Nd (z7 [.l a] [.b false]) True)/\(¬8<ln (cL a 0 3)->((16<ln (cL a 0 5)->Nd (z7 [.l a] [.b false]) True)/\(¬16<ln (cL a 0 5)->Nd (oJ [.l (cL a 0 3)] [.i 0]) (∀d,oJ [.l (cL a 0 3)] [.i d]->((d<ln (cL a 0 3)->Nd (¬d<0) (Nd (d<ln (cL a 0 3))<|Nd (Z4 [.s (cS (cL a 0 3) d 0)])<|∀c,D6 [.s (cS (cL a 0 3) d 0)] [.b c]->((c=true->Nd (jB [.s (cS (cL a 0 3) d 1)]) (∀f,L4 [.s (cS (cL a 0 3) d 1)] [.b f]->((f=true->((0<d->Nd (I64 (d+(-1))) (Nd (¬d+(-1)<0)<|Nd (d+(-1)<ln (cL a 0 3))<|(Op.bytesLess (cS (cL a 0 3) d 0) (cS (cL a 0 3) (d+(-1)) 0)=true->Nd (z7 [.l a] [.b false]) True)/\(¬Op.bytesLess (cS (cL a 0 3) d 0) (cS (cL a 0 3) (d+(-1)) 0)=true->((cS (cL a 0 3) d 0=cS (cL a 0 3) (d+(-1)) 0->Nd (z7 [.l a] [.b false]) True)/\(¬cS (cL a 0 3) d 0=cS (cL a 0 3) (d+(-1)) 0->Nd (I64 (d+1)) (Nd (oJ [.l (cL a 0 3)] [.i (d+1)])<|Nd (Do [.l (cL a 0 3)] [.i (d+1)]<Do [.l (cL a 0 3)] [.i d]) True))))))/\(¬0<d->Nd (I64 (d+1)) (Nd (oJ [.l (cL a 0 3)] [.i (d+1)])<|Nd (Do [.l (cL a 0 3)] [.i (d+1)]<Do [.l (cL a 0 3)] [.i d]) True))))/\(¬f=true->Nd (z7 [.l a] [.b false]) True))))/\(¬c=true->Nd (z7 [.l a] [.b false]) True))))/\(¬d<ln (cL a 0 3)->Nd (kU [.l (cL a 0 5)] [.i 0]) (∀c,kU [.l (cL a 0 5)] [.i c]->((c<ln (cL a 0 5)->Nd (¬c<0) (Nd (c<ln (cL a 0 5))<|(cS (cL a 0 5) c 2=([]:Ae)->Nd (I64 (c+1)) (Nd (kU [.l (cL a 0 5)] [.i (c+1)])<|Nd (uB [.l (cL a 0 5)] [.i (c+1)]<uB [.l (cL a 0 5)] [.i c]) True))/\(¬cS (cL a 0 5) c 2=([]:Ae)->Nd (¬c<0) (Nd (¬ln (cL a 0 5)<c)<|Nd (tY [.l (pQ (cL a 0 5) 0 c),.s (cS (cL a 0 5) c 2)] [.i 0])<|∀f,tY [.l (pQ (cL a 0 5) 0 c),.s (cS (cL a 0 5) c 2)] [.i f]->((f<ln (pQ (cL a 0 5) 0 c)->Nd (¬f<0) (Nd (f<ln (pQ (cL a 0 5) 0 c))<|(cS (pQ (cL a 0 5) 0 c) f 2=cS (cL a 0 5) c 2->((f<0->Nd (I64 (c+1)) (Nd (kU [.l (cL a 0 5)] [.i (c+1)])<|Nd (uB [.l (cL a 0 5)] [.i (c+1)]<uB [.l (cL a 0 5)] [.i c]) True))/\(¬f<0->Nd (z7 [.l a] [.b false]) True)))/\(¬cS (pQ (cL a 0 5) 0 c) f 2=cS (cL a 0 5) c 2->Nd (I64 (f+1)) (Nd (tY [.l (pQ (cL a 0 5) 0 c),.s (cS (cL a 0 5) c 2)] [.i (f+1)])<|Nd (Mk [.l (pQ (cL a 0 5) 0 c),.s (cS (cL a 0 5) c 2)] [.i (f+1)]<Mk [.l (pQ (cL a 0 5) 0 c),.s (cS (cL a 0 5) c 2)] [.i f]) True))))/\(¬f<ln (pQ (cL a 0 5) 0 c)->Nd (I64 (c+1)) (Nd (kU [.l (cL a 0 5)] [.i (c+1)])<|Nd (uB [.l (cL a 0 5)] [.i (c+1)]<uB [.l (cL a 0 5)] [.i c]) True)))))))/\(¬c<ln (cL a 0 5)->Nd (z7 [.l a] [.b true]) True)))))))))))/\(¬cS a 0 4=([]:Ae)->Nd (z7 [.l a] [.b false]) True)
def mr :Prop:=
 ∀a,fO [.l a]->((cI a 0 0=2->Nd (jB [.s (cS a 0 4)]) (∀c,L4 [.s (cS a 0 4)] [.b c]->((c=true->((cS a 0 1=([]:Ae)->((cS a 0 2=([]:Ae)->((ln (cL a 0 3)=0->Nd (z7 [.l a] [.b (decide (ln (cL a 0 5)=0))]) True)/\(¬ln (cL a 0 3)=0->Nd (z7 [.l a] [.b false]) True)))/\(¬cS a 0 2=([]:Ae)->Nd (z7 [.l a] [.b false]) True)))/\(¬cS a 0 1=([]:Ae)->Nd (z7 [.l a] [.b false]) True)))/\(¬c=true->Nd (z7 [.l a] [.b false]) True))))/\(¬cI a 0 0=2->((cI a 0 0=1->Nd (Z4 [.s (cS a 0 1)]) (∀c,D6 [.s (cS a 0 1)] [.b c]->((c=true->((cS a 0 2=([]:Ae)->dv a)/\(¬cS a 0 2=([]:Ae)->Nd (Z4 [.s (cS a 0 2)]) (∀d,D6 [.s (cS a 0 2)] [.b d]->((d=true->dv a)/\(¬d=true->Nd (z7 [.l a] [.b false]) True))))))/\(¬c=true->Nd (z7 [.l a] [.b false]) True))))/\(¬cI a 0 0=1->Nd (z7 [.l a] [.b false]) True))))
def mf :kq ml eZ (eD 1) (pG 1) 105=mr:=by kernel_rfl
def qg (n:Nat):Prop:=
 ∀c a d g,(eH [.l c,.i a,.i d,.i g]/\iA [.l c,.i a,.i d,.i g]<n+1)->Nd (I64 (d+1)) ((g<a->((6<a->Nd (H3 [.l c,.i a,.i d,.i g] [.b false,.i (d+1),.i a]) True)/\(¬6<a->((64<d+1->Nd (H3 [.l c,.i a,.i d,.i g] [.b false,.i (d+1),.i a]) True)/\(¬64<d+1->Nd (fO [.l (pQ c 0 1)]) (∀o,z7 [.l (pQ c 0 1)] [.b o]->((o=true->Nd (iB [.l c,.i a,.i (d+1),.i a] [.i 0,.i (d+1),.i a]) (∀f h j,iB [.l c,.i a,.i (d+1),.i a] [.i f,.i h,.i j]->((f<ln (cL c 0 5)->Nd (¬f<0) (Nd (f<ln (cL c 0 5))<|Nd (I64 (a+1))<|Nd (eH [.l (pQ (cL c 0 5) f 1),.i (a+1),.i h,.i j]/\iA [.l (pQ (cL c 0 5) f 1),.i (a+1),.i h,.i j]<n)<|∀p k m,H3 [.l (pQ (cL c 0 5) f 1),.i (a+1),.i h,.i j] [.b p,.i k,.i m]->((p=true->Nd (I64 (f+1)) (Nd (iB [.l c,.i a,.i (d+1),.i a] [.i (f+1),.i k,.i m])<|Nd (AS [.l c,.i a,.i (d+1),.i a] [.i (f+1),.i k,.i m]<AS [.l c,.i a,.i (d+1),.i a] [.i f,.i h,.i j]) True))/\(¬p=true->Nd (H3 [.l c,.i a,.i d,.i g] [.b false,.i k,.i m]) True))))/\(¬f<ln (cL c 0 5)->Nd (H3 [.l c,.i a,.i d,.i g] [.b true,.i h,.i j]) True))))/\(¬o=true->Nd (H3 [.l c,.i a,.i d,.i g] [.b false,.i (d+1),.i a]) True))))))))/\(¬g<a->((6<a->Nd (H3 [.l c,.i a,.i d,.i g] [.b false,.i (d+1),.i g]) True)/\(¬6<a->((64<d+1->Nd (H3 [.l c,.i a,.i d,.i g] [.b false,.i (d+1),.i g]) True)/\(¬64<d+1->Nd (fO [.l (pQ c 0 1)]) (∀o,z7 [.l (pQ c 0 1)] [.b o]->((o=true->Nd (iB [.l c,.i a,.i (d+1),.i g] [.i 0,.i (d+1),.i g]) (∀f h j,iB [.l c,.i a,.i (d+1),.i g] [.i f,.i h,.i j]->((f<ln (cL c 0 5)->Nd (¬f<0) (Nd (f<ln (cL c 0 5))<|Nd (I64 (a+1))<|Nd (eH [.l (pQ (cL c 0 5) f 1),.i (a+1),.i h,.i j]/\iA [.l (pQ (cL c 0 5) f 1),.i (a+1),.i h,.i j]<n)<|∀p k m,H3 [.l (pQ (cL c 0 5) f 1),.i (a+1),.i h,.i j] [.b p,.i k,.i m]->((p=true->Nd (I64 (f+1)) (Nd (iB [.l c,.i a,.i (d+1),.i g] [.i (f+1),.i k,.i m])<|Nd (AS [.l c,.i a,.i (d+1),.i g] [.i (f+1),.i k,.i m]<AS [.l c,.i a,.i (d+1),.i g] [.i f,.i h,.i j]) True))/\(¬p=true->Nd (H3 [.l c,.i a,.i d,.i g] [.b false,.i k,.i m]) True))))/\(¬f<ln (cL c 0 5)->Nd (H3 [.l c,.i a,.i d,.i g] [.b true,.i h,.i j]) True))))/\(¬o=true->Nd (H3 [.l c,.i a,.i d,.i g] [.b false,.i (d+1),.i g]) True)))))))))
def ni (n:Nat):kq (ms.below iA (n+1)) eZ ((104,ms.below iA n)::eD 2) (pG 2) 104=qg n:=by kernel_rfl
def Wf :Prop:=
 ∀a c d f g h,fV [.i a,.s c,.s d,.l f,.s g,.l h]->Nd (eH [.l (pQ (b8 6 1 [.i a,.s c,.s d,.l f,.s g,.l h]) 0 1),.i 1,.i 0,.i 0]) (∀j k m,H3 [.l (pQ (b8 6 1 [.i a,.s c,.s d,.l f,.s g,.l h]) 0 1),.i 1,.i 0,.i 0] [.b j,.i k,.i m]->((j=true->((k=0->Nd (T5 [.i a,.s c,.s d,.l f,.s g,.l h] [.i 14]) True)/\(¬k=0->Nd (T5 [.i a,.s c,.s d,.l f,.s g,.l h] [.i 0]) True)))/\(¬j=true->Nd (T5 [.i a,.s c,.s d,.l f,.s g,.l h] [.i 14]) True)))
def yo :kq fp eZ (eD 3) (pG 3) 42=Wf:=by kernel_rfl
def dj (n:Nat)(a:Int)(c:a8)(f:Bool)(d:a8):Prop:=
 Nd (¬a<0)<|Nd (a<ln c)<|Nd (tK [.i (cI c a 0),.s (cS c a 1),.s (cS c a 2),.l (cL c a 3),.s (cS c a 4),.l (cL c a 5),.b f]/\yT [.i (cI c a 0),.s (cS c a 1),.s (cS c a 2),.l (cL c a 3),.s (cS c a 4),.l (cL c a 5),.b f]<n)<|∀h j k g m o,Y8 [.i (cI c a 0),.s (cS c a 1),.s (cS c a 2),.l (cL c a 3),.s (cS c a 4),.l (cL c a 5),.b f] [.i h,.s j,.s k,.l g,.s m,.l o]->Nd (¬a<0) (Nd (a<ln d)<|Ni (ln g)<|Nr (ln g)<|Nd (a<ln d)<|Nd (I64 (a+1))<|Ni (ln d)<|Nr (ln d)<|Nr (ln c)<|Ni (ln c)<|Nd (L6 [.l c,.b f] [.i (a+1),.l (a9 (a9 (a9 (a9 (a9 (a9 d a 0 (.i h)) a 1 (.s j)) a 2 (.s k)) a 3 (.l g)) a 4 (.s m)) a 5 (.l o))])<|Nd (LJ [.l c,.b f] [.i (a+1),.l (a9 (a9 (a9 (a9 (a9 (a9 d a 0 (.i h)) a 1 (.s j)) a 2 (.s k)) a 3 (.l g)) a 4 (.s m)) a 5 (.l o))]<LJ [.l c,.b f] [.i a,.l d]) True)
def Wc (n:Nat):Prop:=
 ∀h j m c k a g,(tK [.i h,.s j,.s m,.l c,.s k,.l a,.b g]/\yT [.i h,.s j,.s m,.l c,.s k,.l a,.b g]<n+1)->((g=true->∀(o:Bool),(o=true->ln c=0->Nd (¬ln a<0) (Ni (ln a)<|Nd (ln a<1048577)<|Nd (¬ln (List.replicate (ln a).toNat [.i 0,.s [],.s [],.l [],.s [],.l []]:a8)<ln a)<|Nr (ln a)<|Ni (ln a)<|Nd (L6 [.l a,.b g] [.i 0,.l (pQ (List.replicate (ln a).toNat [.i 0,.s [],.s [],.l [],.s [],.l []]:a8) 0 (ln a))])<|∀f d,L6 [.l a,.b g] [.i f,.l d]->((f<ln a->dj n f a g d)/\(¬f<ln a->Ni (ln d) (Nr (ln d)<|Nd (Y8 [.i h,.s j,.s m,.l c,.s k,.l a,.b g] [.i h,.s j,.s m,.l [],.s k,.l d]) True)))))/\(¬o=true->Nd (ln c<67108865) ((0<ln c->Nd (¬ln c<0) (Ni (ln c)<|Ni (ln c)<|Nd (¬ln a<0)<|Ni (ln a)<|Nd (ln a<1048577)<|Nd (¬ln (List.replicate (ln a).toNat [.i 0,.s [],.s [],.l [],.s [],.l []]:a8)<ln a)<|Nr (ln a)<|Ni (ln a)<|Nd (L6 [.l a,.b g] [.i 0,.l (pQ (List.replicate (ln a).toNat [.i 0,.s [],.s [],.l [],.s [],.l []]:a8) 0 (ln a))])<|∀f d,L6 [.l a,.b g] [.i f,.l d]->((f<ln a->dj n f a g d)/\(¬f<ln a->Ni (ln d) (Nr (ln d)<|Ni (ln c)<|Nr (ln c)<|Nr (ln c)<|Nd (ln c<67108865)<|Nd (Y8 [.i h,.s j,.s m,.l c,.s k,.l a,.b g] [.i h,.s j,.s m,.l (b8 2 0 []++c),.s k,.l d]) True)))))/\(¬0<ln c->Nd (¬ln c<0) (Ni (ln c)<|Nd (¬0<ln c)<|Nd (¬ln a<0)<|Ni (ln a)<|Nd (ln a<1048577)<|Nd (¬ln (List.replicate (ln a).toNat [.i 0,.s [],.s [],.l [],.s [],.l []]:a8)<ln a)<|Nr (ln a)<|Ni (ln a)<|Nd (L6 [.l a,.b g] [.i 0,.l (pQ (List.replicate (ln a).toNat [.i 0,.s [],.s [],.l [],.s [],.l []]:a8) 0 (ln a))])<|
 ∀f d,L6 [.l a,.b g] [.i f,.l d]->((f<ln a->dj n f a g d)/\(¬f<ln a->Ni (ln d) (Nr (ln d)<|Nd (¬ln (Sx.over (b8 2 0 []) 0 c)<ln c)<|Nr (ln c)<|Nd (ln c<67108865)<|Nd (Y8 [.i h,.s j,.s m,.l c,.s k,.l a,.b g] [.i h,.s j,.s m,.l (pQ (Sx.over (b8 2 0 []) 0 c) 0 (ln c)),.s k,.l d]) True))))))))/\(¬g=true->∀(o:Bool),(o=true->ln c=0->Nd (¬ln a<0) (Ni (ln a)<|Nd (ln a<1048577)<|Nd (¬ln (List.replicate (ln a).toNat [.i 0,.s [],.s [],.l [],.s [],.l []]:a8)<ln a)<|Nr (ln a)<|Ni (ln a)<|Nd (L6 [.l a,.b g] [.i 0,.l (pQ (List.replicate (ln a).toNat [.i 0,.s [],.s [],.l [],.s [],.l []]:a8) 0 (ln a))])<|∀f d,L6 [.l a,.b g] [.i f,.l d]->((f<ln a->dj n f a g d)/\(¬f<ln a->Ni (ln d) (Nr (ln d)<|Nd (Y8 [.i h,.s j,.s m,.l c,.s k,.l a,.b g] [.i h,.s j,.s [],.l [],.s k,.l d]) True)))))/\(¬o=true->Nd (ln c<67108865) ((0<ln c->Nd (¬ln c<0) (Ni (ln c)<|Ni (ln c)<|Nd (¬ln a<0)<|Ni (ln a)<|Nd (ln a<1048577)<|Nd (¬ln (List.replicate (ln a).toNat [.i 0,.s [],.s [],.l [],.s [],.l []]:a8)<ln a)<|Nr (ln a)<|Ni (ln a)<|Nd (L6 [.l a,.b g] [.i 0,.l (pQ (List.replicate (ln a).toNat [.i 0,.s [],.s [],.l [],.s [],.l []]:a8) 0 (ln a))])<|∀f d,L6 [.l a,.b g] [.i f,.l d]->((f<ln a->dj n f a g d)/\(¬f<ln a->Ni (ln d) (Nr (ln d)<|Ni (ln c)<|Nr (ln c)<|Nr (ln c)<|Nd (ln c<67108865)<|Nd (Y8 [.i h,.s j,.s m,.l c,.s k,.l a,.b g] [.i h,.s j,.s [],.l (b8 2 0 []++c),.s k,.l d]) True)))))/\(¬0<ln c->Nd (¬ln c<0) (Ni (ln c)<|Nd (¬0<ln c)<|Nd (¬ln a<0)<|Ni (ln a)<|Nd (ln a<1048577)<|Nd (¬ln (List.replicate (ln a).toNat [.i 0,.s [],.s [],.l [],.s [],.l []]:a8)<ln a)<|Nr (ln a)<|Ni (ln a)<|Nd (L6 [.l a,.b g] [.i 0,.l (pQ (List.replicate (ln a).toNat [.i 0,.s [],.s [],.l [],.s [],.l []]:a8) 0 (ln a))])<|
 ∀f d,L6 [.l a,.b g] [.i f,.l d]->((f<ln a->dj n f a g d)/\(¬f<ln a->Ni (ln d) (Nr (ln d)<|Nd (¬ln (Sx.over (b8 2 0 []) 0 c)<ln c)<|Nr (ln c)<|Nd (ln c<67108865)<|Nd (Y8 [.i h,.s j,.s m,.l c,.s k,.l a,.b g] [.i h,.s j,.s [],.l (pQ (Sx.over (b8 2 0 []) 0 c) 0 (ln c)),.s k,.l d]) True)))))))))
def yg (n:Nat):kq (zw.below yT (n+1)) eZ ((98,zw.below yT n)::eD 4) (pG 4) 98=Wc n:=by kernel_rfl
open Go Go.Xe Go.Sx
variable {s:Str}
theorem rZ {k:Int}(h0:0<=k)(h1:k<(s.length:Int)):∃b,s[k.toNat]? =some b/\byteAt s k=b.toNat:=by obtain⟨b,hb⟩:=Sx.get_at h0 h1;refine⟨b,hb,?_⟩;unfold byteAt;grind
variable {p:UInt8->Bool}{k:Nat}{b:UInt8}
theorem mD (h:s[k]? =some b)(hb:p b=false):s.all p=false:=by grind
theorem mE {k:Int}(h:s[k.toNat]? =some b)(h0:0<=k)(a:(s.take k.toNat).all p=true)(hb:p b=true):(s.take (k+1).toNat).all p=true:=by rw[eG h0,E1 h,List.all_append,a];grind
def Ea (h:(97<=b.toNat/\b.toNat<=122)\/(48<=b.toNat/\b.toNat<=57)):jW b=true:=by unfold jW;simp;exact h
def zX (h:¬((97<=b.toNat/\b.toNat<=122)\/(48<=b.toNat/\b.toNat<=57))):jW b=false:=by
 cases hb:jW b with
 |false=>rfl|true=>unfold jW at hb;simp at hb;exact absurd hb h
def AQ (h:s.all jW=false):B3 s=false:=by unfold B3;rw[h];simp
theorem jE (h:s.length<1\/16<s.length):B3 s=false:=by unfold B3;grind
theorem AR (h0:1<=s.length)(h1:s.length<=16)(h:s.all jW=true):B3 s=true:=by unfold B3;grind
def aT {k:Int}(h:(s.take k.toNat).all p=true)(hk:(s.length:Int)<=k):s.all p=true:=by rwa[TT (by omega)]at h
def mb :iw:=by
 unfold iw fh Nd;intro s hp;simp only[ln,I64,D6,rB,MJ,A2,Ug,Up];refine Tw (λh=>(jE (.inl (by omega))).symm) λh=>Tw (λh2=>(jE (.inr (by omega))).symm) λh2=>Tw ⟨by omega,by omega,rfl⟩ λ_ k ⟨k0,k1,k2⟩=>Tw (λhk=>?_) λhk=>?_
 .obtain⟨b,hb,a⟩:=rZ k0 hk
  repeat' first| (refine Tw ?_ ?_)|intro _
  all_goals first|omega|exact(AQ (mD hb (zX (by omega)))).symm|exact mE hb k0 k2 (Ea (by omega))
 exact(AR (by omega) (by omega) (aT k2 (by omega))).symm
def Jf (h0:32<=b.toNat)(h1:b.toNat<=126):EO b=true:=by unfold EO;rw[decide_eq_true h0,decide_eq_true h1];rfl
theorem wN (h:b.toNat<32\/126<b.toNat):EO b=false:=by unfold EO;grind
def wX (h:s.all EO=false):H9 s=false:=by unfold H9;rw[h];simp
def EY (h:64<s.length):H9 s=false:=by unfold H9;rw[Ut (by omega)];rfl
def EZ (h1:s.length<=64)(h:s.all EO=true):H9 s=true:=by unfold H9;rw[decide_eq_true h1,h];rfl
theorem DG (h:s[k]? =some b):(⟨s.toArray⟩:ByteArray).get! (k+0)=b:=by show s.toArray[k+0]! =b;grind
theorem GV (h:s[k]? =some b)(hb:b.toNat<128):runeAt s k=b.toNat/\runeW s k=1:=by
 have a:Utf8.decode ⟨s.toArray⟩ k=(b.toNat,1):=by simp only[Utf8.decode,DG h];grind
 unfold runeAt runeW;grind
theorem GU (h:s[k]? =some b)(hb:128<=b.toNat):128<=runeAt s k:=by
 have a:128<=(Utf8.decode ⟨s.toArray⟩ k).1:=by simp only[Utf8.decode,DG h];rw[Tn (by omega)];split;split;grind;decide;split;split;grind;decide;split;split;grind;decide;decide
 unfold runeAt;grind
def nj :kc:=by
 unfold kc Nd;intro s hp;simp only[ln,L4,wL,Wk,A2,Ug,Up,Ul,TN];refine Tw (λh=>(EY (by omega)).symm) λh=>Tw ⟨by omega,by omega,rfl⟩ λ_ k ⟨k0,k1,k2⟩=>Tw (λhk=>?_) λhk=>(EZ (by omega) (aT k2 (by omega))).symm;obtain⟨b,hb,f⟩:=rZ k0 hk;have e:((k.toNat:Nat):Int)=k:=by omega
 have d:decide (k<0)=false:=Ut (by omega);rw[d];by_cases a:b.toNat<128
 .obtain⟨r1,c⟩:=GV hb a;rw[e]at r1 c;rw[r1,c]
  repeat' first| (refine Tw ?_ ?_)|intro _
  all_goals first|omega|exact(wX (mD hb (wN (by omega)))).symm|exact mE hb k0 k2 (Jf (by omega) (by omega))
 .have r1:=GU hb (by omega);rw[e]at r1
  repeat' first| (refine Tw ?_ ?_)|intro _
  all_goals first|omega|exact(wX (mD hb (wN (by omega)))).symm
def lt_irrefl :∀a:Str,lt a a=false
 | []=>rfl|a::x=>by have:=lt_irrefl x;unfold lt at this⊢;simp[Op.bytesLess,this]
theorem mU :∀ {a b c:Str},lt a b=true->lt b c=true->lt a c=true
 |_,[],_,h,_=>by unfold lt at h;cases‹Ae› <;>simp[Op.bytesLess]at h
 |_,_::_,[],_,h=>by unfold lt at h;simp[Op.bytesLess]at h| [],_::_,_::_,_,_=>rfl|a::x,b::y,c::z,h,k=>by unfold lt at h k⊢;simp only[Op.bytesLess,Uu,To,SR,beq_iff_eq]at h k⊢;rcases h with h| ⟨rfl,h⟩;grind;rcases k with k| ⟨rfl,k⟩;grind;exact .inr ⟨rfl,mU h k⟩
theorem BM :∀ {a b:Str},lt a b=false->a≠b->lt b a=true
 | [],[],_,h=>absurd rfl h| [],b::y,h,_=>by unfold lt at h;simp[Op.bytesLess]at h|a::x,[],_,_=>rfl|a::x,b::y,h,k=>by unfold lt at h⊢;simp only[Op.bytesLess,UV,TS,Bool.and_eq_false_iff,Uu,To,SR,beq_iff_eq]at h⊢;by_cases e:a=b;subst e;refine .inr ⟨rfl,BM (by rcases h.2 with h2|h2;simp at h2;exact h2) λe=>k (by grind)⟩;grind
def uH {a b:Str}(h:lt a b=true):lt b a=false:=by
 cases hb:lt b a with
 |false=>rfl|true=>have:=mU h hb;rw[lt_irrefl]at this;cases this
def U5 (s:c9):s.row=[.i s.k,.s s.t,.s s.y,.l (s.a.map Att.row),.s s.x,.l (rows s.c)]:=by
 have h:∀l:List c9,c9.rows l=rows l:=λl=>by induction l with|nil=>rfl|cons a l d=>simp[c9.rows,rows,d]
 cases s;simp[c9.row,c9.k,c9.t,c9.y,c9.a,c9.x,c9.c,h]
theorem T0 {a b:List Att}(h:a.map Att.row=b.map Att.row):a=b:=by
 have e:∀l:List Att,(l.map Att.row).map atOf=l:=λl=>by rw[List.map_map];exact List.map_id' l
 grind
mutual
def sK :∀ {s t:c9},s.row=t.row->s=t
 | .mk ..,.mk ..,h=>by simp only[c9.row,Um,Dat.i.injEq,Dat.s.injEq,Dat.l.injEq,Up]at h;obtain⟨rfl,rfl,rfl,h1,rfl,h2⟩:=h;rw[T0 h1,rows_inj h2]
def rows_inj :∀ {l m:List c9},c9.rows l=c9.rows m->l=m
 | [],[],_=>rfl| [],_::_,h=>by cases h
 |_::_,[],h=>by cases h
 |s::l,t::m,h=>by simp only[c9.rows,Um]at h;rw[sK h.1,rows_inj h.2]
end
def vR {s t:c9}:(s.row=t.row)=(s=t):=propext ⟨sK,λh=>h▸rfl⟩
theorem Cn {l m:List c9}:(rows l=rows m)=(l=m):=propext ⟨λh=>by
 induction l generalizing m with
 |nil=>simp_all|cons a l c=>cases m with|nil=>cases h|cons b m=>simp at h;rw[sK h.1,c h.2],λh=>h▸rfl⟩
def OE (l:List Att):ats (l.map Att.row)=l:=by unfold ats;rw[List.map_map];exact List.map_id' l
def ET {s t:c9}(h0:s.k=t.k)(h1:s.t=t.t)(h2:s.y=t.y)(h3:s.a=t.a)(h4:s.x=t.x)(d:s.c=t.c):s=t:=by cases s;cases t;subst h0 h1 h2 h3 h4 d;rfl
def H5 {s c:c9}:isT s c.k c.t c.y (c.a.map Att.row) c.x (rows c.c)=(s=c):=propext ⟨λ⟨h0,h1,h2,h3,h4,d⟩=>ET h0.symm h1.symm h2.symm (T0 h3).symm h4.symm (Cn.mp d).symm,λh=>by subst h;exact⟨rfl,rfl,rfl,rfl,rfl,rfl⟩⟩
def t0 (c:c9):c.row.getD 0 (.i 0)= .i c.k:=by rw[U5];rfl
def t1 (c:c9):c.row.getD 1 (.i 0)= .s c.t:=by rw[U5];rfl
def t2 (c:c9):c.row.getD 2 (.i 0)= .s c.y:=by rw[U5];rfl
def t3 (c:c9):c.row.getD 3 (.i 0)= .l (c.a.map Att.row):=by rw[U5];rfl
def t4 (c:c9):c.row.getD 4 (.i 0)= .s c.x:=by rw[U5];rfl
def t5 (c:c9):c.row.getD 5 (.i 0)= .l (rows c.c):=by rw[U5];rfl
def LD (r:Ar)(j:Nat):z8 [r] 0 j=r.getD j (.i 0):=rfl
def Xu (r:Ar):pQ [r] 0 1=[r]:=rfl
def Q3 {l:List c9}{i:Int}{c:c9}(h:l[i.toNat]? =some c)(j:Nat):z8 (rows l) i j=c.row.getD j (.i 0):=d9 h j
def uA (l:List c9):qY (rows l)=l.map c9.y:=by unfold qY rows;rw[List.map_map];exact List.map_congr_left λc _=>by simp only[Function.comp,t2,C7]
theorem MR {l:List c9}{i:Int}{c:c9}(h:l[i.toNat]? =some c):pQ (rows l) i 1=[c.row]:=by
 unfold pQ rows;have:=(SW.1 h)
 rw[List.drop_eq_getElem_cons (by grind)];grind
open Go Go.Xe Go.Sx
variable {k:Int}
def p6 {α:Type}{l:List α}{a:α}(h0:0<=k)(h:l[k.toNat]? =some a):l.take (k+1).toNat=l.take k.toNat++ [a]:=by rw[eG h0,E1 h]
def A3 {α:Type}{l:List α}(h:(l.length:Int)<=k):l.take k.toNat=l:=TT (by omega)
theorem H2 {α c:Type}{f:α->c}{l:List α}{k:Nat}{a:α}(h:l[k]? =some a):(l.map f)[k]? =some (f a):=by grind
def Em {α:Type}{R:α->α->Prop}{l:List α}(h:l.Pairwise R){i j:Nat}{a b:α}(hi:l[i]? =some a)(hj:l[j]? =some b)(c:i<j):R a b:=by obtain⟨h1,rfl⟩:=SW.1 hi;obtain⟨h2,rfl⟩:=SW.1 hj;exact List.pairwise_iff_getElem.1 h i j h1 h2 c
variable {l:List Str}{a b:Str}
theorem Ls (h0:0<k)(c:l[k.toNat]? =some a)(hb:l[(k+ -1).toNat]? =some b)(hl:lt b a=true)(h:Asc (l.take k.toNat)):Asc (l.take (k+1).toNat):=by
 unfold Asc at h⊢;rw[p6 (by omega) c,List.pairwise_append];refine⟨h,List.pairwise_singleton _ _,λx hx y hy=>?_⟩;rw[Ui.1 hy];obtain⟨i,hi⟩:=TZ.1 hx;have d:i<k.toNat:=by have:=(SW.1 hi).1;rw[TE]at this;omega
 by_cases e:i=(k+ -1).toNat;simp_all;refine mU (Em h hi (j:=(k+ -1).toNat) ?_ (by omega)) hl;rw[TB,Tp (by omega)];exact hb
def HT (h0:0<k)(c:l[k.toNat]? =some a)(hb:l[(k+ -1).toNat]? =some b)(h:lt a b=true\/a=b):¬Asc l:=λhp=>by have:=Em hp hb c (by omega);rcases h with h|h;rw[uH this]at h;cases h;rw[h,lt_irrefl]at this;cases this
theorem oX (h0:0<=k)(c:l[k.toNat]? =some a)(h:kH (l.take k.toNat))(hn:a=[]\/ ∀z∈l.take k.toNat,z≠a):kH (l.take (k+1).toNat):=by unfold kH at h⊢;rw[p6 h0 c,List.pairwise_append];grind
def DO {i j:Nat}(hi:l[i]? =some a)(hj:l[j]? =some b)(c:i<j)(hb:b≠ [])(e:a=b):¬kH l:=λh=>Em h hi hj c hb e
def at0 (a:Att):a.row.getD 0 (.i 0)= .s a.n:=rfl
def at1 (a:Att):a.row.getD 1 (.i 0)= .s a.v:=rfl
def D9 {p:Prop}(h:¬p):(false=true↔p):=⟨λe=>(by cases e),λe=>absurd e h⟩
theorem Mf {α:Type}{l:List α}{j:Int}(h0:0<=j)(h:j<((l.take k.toNat).length:Int)):∃a,l[j.toNat]? =some a/\(l.take k.toNat)[j.toNat]? =some a/\j<k:=by
 rw[TE]at h;have hj:j.toNat<l.length:=by omega
 exact⟨l[j.toNat],Tf hj,by grind,by omega⟩
theorem Dl (s:c9)(hk:¬s.k=2)(w:s.k=1)(ht:B3 s.t=true)(hy:s.y=[]\/B3 s.y=true)(x0:a8)(e0:x0=[s.row]):dv x0:=by
 subst e0;have C:Y4 s↔(s.x=[]/\s.a.length<=8/\s.c.length<=16/\(∀a∈s.a,B3 a.n=true/\H9 a.v=true)/\Asc (s.a.map Att.n)/\kH (s.c.map c9.y)):=by unfold Y4;simp[w,ht,hy]
 have o:∀k:Int,pQ (rows s.c) 0 k=rows (s.c.take k.toNat):=λk=>by simp[pQ,rows,List.map_take]
 unfold dv;simp only[Nd,ln,I64,cS,cL,LD,t3,t4,t5,C7,cR,Tm,z7,oJ,Do,kU,uB,tY,Mk,A2,D6,L4,Z4,jB,EC,Um,Up,Ul,vR,forall_eq',forall_eq,Ug,TN,OE,uA,C,o];refine Tw (λhx=>Tw (λh=>D9 λh'=>by omega) λG=>Tw (λh=>D9 λh'=>by omega) λD=>Tw ⟨by omega,by omega,by simp,List.Pairwise.nil⟩ λ_ k ⟨k0,k1,k2,k3⟩=>Tw (λhk=>?_) λhk=>?_) λhx=>D9 λh=>hx h.1
 .obtain⟨a,p⟩:=Sx.get_at k0 hk;have hm:=Td p;have hn:=H2 (f:=Att.n) p;rw[List.map_take]at k3;simp only[d9 p,at0,at1,C7];have st:B3 a.n=true->H9 a.v=true-> ∀x∈s.a.take (k+1).toNat,B3 x.n=true/\H9 x.v=true:=λh1 h2 x hx=>by rw[p6 k0 p,TG,Ui]at hx;rcases hx with hx|rfl;exact k2 x hx;exact⟨h1,h2⟩
  by_cases m:0<k
  .obtain⟨b,hb⟩:=Sx.get_at (T:=s.a) (i:=k+ -1) (by omega) (by omega);have g:=H2 (f:=Att.n) hb;simp only[d9 hb,at0,C7,List.map_take]
   repeat' first| (refine Tw ?_ ?_)|intro _
   all_goals first|omega|exact D9 λh=>absurd (h.2.2.2.1 a hm).1 ‹_› |exact D9 λh=>absurd (h.2.2.2.1 a hm).2 ‹_› |exact D9 λh=>HT m hn g (.inl ‹_›) h.2.2.2.2.1|exact D9 λh=>HT m hn g (.inr ‹_›) h.2.2.2.2.1|exact st ‹_› ‹_› _ ‹_› |exact(st ‹_› ‹_› _ ‹_›).1|exact(st ‹_› ‹_› _ ‹_›).2|exact Ls m hn g (BM (by unfold lt;simpa using‹¬Op.bytesLess a.n b.n=true›) ‹_›) k3
  .obtain rfl:k=0:=by omega
   repeat' first| (refine Tw ?_ ?_)|intro _
   all_goals first|omega|exact D9 λh=>absurd (h.2.2.2.1 a hm).1 ‹_› |exact D9 λh=>absurd (h.2.2.2.1 a hm).2 ‹_› |exact(st ‹_› ‹_› _ ‹_›).1|exact(st ‹_› ‹_› _ ‹_›).2| (rw[p6 (by omega) p];exact List.pairwise_singleton _ _)
 .rw[A3 (by omega)]at k2 k3;refine Tw ⟨by omega,by omega,List.Pairwise.nil⟩ λ_ j ⟨B,I,u⟩=>Tw (λhj=>?_) λhj=>?_
  .obtain⟨c,hc⟩:=Sx.get_at B hj;have hy:=H2 (f:=c9.y) hc;have r:((s.c.take j.toNat).length:Int)=j:=by rw[TE];omega
   simp only[Q3 hc,t2,C7,r];have nx:kH ((s.c.map c9.y).take (j+1).toNat)->(¬j+1< -9223372036854775808/\j+1<9223372036854775808)/\(¬j+1< -9223372036854775808/\j+1<9223372036854775808->(0<=j+1/\j+1<=(s.c.length:Int)/\kH ((s.c.map c9.y).take (j+1).toNat))/\(0<=j+1/\j+1<=(s.c.length:Int)/\kH ((s.c.map c9.y).take (j+1).toNat)->((s.c.length:Int)-(j+1)).toNat<((s.c.length:Int)-j).toNat)):=
    λh=>(by grind)
   refine⟨by omega,λ_=>⟨hj,λ_=>⟨λhe=>nx (oX B hy u (.inl he)),λhe=>⟨by omega,λ_=>⟨by omega,λ_=>⟨⟨by omega,by omega,by simp⟩,λ_ i ⟨i0,H,A⟩=>Tw (λhi=>?_) λhi=>nx (oX B hy u (.inr ?_))⟩⟩⟩⟩⟩⟩;obtain⟨d,E,q,F⟩:=Mf (l:=s.c) (k:=j) i0 (by omega);simp only[Q3 q,t2,C7];refine⟨by omega,λ_=>⟨by omega,λ_=>⟨λe=>⟨λh=>by omega,λ_=>D9 λh=>DO (H2 E) hy (by omega) he e h.2.2.2.2.2⟩,λe=>⟨⟨by omega,by omega⟩,λ_=>⟨⟨by omega,by omega,λz hz=>?_⟩,λ_=>by omega⟩⟩⟩⟩⟩;rw[p6 i0 (H2 q),TG,Ui]at hz;rcases hz with hz|rfl;exact A z hz;exact e;rw[A3 (by grind),List.map_take]at A;exact A
  rw[A3 (by grind)]at u;exact⟨λ_=>⟨hx,by omega,by omega,k2,k3,u⟩,λ_=>by trivial⟩
theorem me :mr:=by
 rintro _ ⟨s,rfl⟩;have d:=Dl s;simp only[Nd,ln,cI,cS,cL,LD,t0,t1,t2,t3,t4,t5,jD,C7,cR,Tm,z7,D6,L4,Z4,jB,EC,Um,Up,Ul,vR,forall_eq',forall_eq,Ug,TN];refine⟨λhk=>?_,λhk=>⟨λh1=>⟨λht=>⟨λhy=>d hk h1 ht (.inl hy) _ rfl,λhy=>⟨λh2=>d hk h1 ht (.inr h2) _ rfl,λh2=>D9 λh=>?_⟩⟩,λht=>D9 λh=>?_⟩,λh1=>D9 λh=>?_⟩⟩
 .have d:Y4 s↔(H9 s.x=true/\s.t=[]/\s.y=[]/\s.a=[]/\s.c=[]):=by unfold Y4;simp[hk]
  simp_all
 all_goals
  rcases h<;>grind
