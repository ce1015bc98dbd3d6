/- The symbolic engine, parts 23, 24, 25, 26, 27, 28, 29, 30, 31, 32, 33, 34, 35, 36, 37, 38, 39, 40.
  Conditions: none. -/
import Derived.Test.YtoegfalhkackeaaGreatSm2
import Derived.OpenShut
import Derived.Shelf.Bodies2
set_option linter.all false
noncomputable section
namespace Go.Sx
open Go.Xe
def bA :Nat->List (Nat×Bb C8)->Ah
 |0,_=>[]
 |_+1,[]=>[]
 |n+1,(k,_)::l=>k::bA n l
def uB (l h:List (Nat×Bb C8)):bA l.length (l++h)=l.map Prod.fst:=by
 induction l with
 |nil=>rfl|cons a l b=>simp only[XD,Ye,bA,XU,b]
def vJ {c:Type}{b:Nat}:∀(l h:List (Nat×c)),b∉l.map Prod.fst->lk (l++h) b=lk h b
 | [],_,_=>rfl| (k,x)::l,h,a=>by simp only[XU,Xw,not_or]at a;rw[Ye,B3,Xd<|λe=>a.1 e.symm];exact vJ l h a.2
def yP :Nat->List (Nat×Bb C8)->Bool
 |0,_=>false|_+1,[]=>false|n+1,(_,x)::l=>match x with
  |none=>true|some _=>yP n l
def Nh (l h:List (Nat×Bb C8))(b:yP l.length (l++h)=false):∀p∈l,p.2≠none:=by
 induction l with
 |nil=>exactλp c=>by grind
 |cons a l d=>intro p c;simp only[XD,Ye,yP]at b;grind
def quiet {a:Type}(m:M a):M a:=λs=>(m s).m λr=>bif Nat.beq r.2.h.length s.h.length&&Nat.beq r.2.g s.g then i6 r.1 r.2 else c9 "a region: an operation that should leave the memory alone" r.2
def PQ {a:Type}(n:Nat)(m:M a):M (a×Ah×Bool):=λs=>(m s).m λr=>i6 (r.1,bA (r.2.h.length-n) r.2.h,yP (r.2.h.length-n) r.2.h) r.2
def mpend :M Nat:=λs=>i6 s.g<|HE s
def Qm (a:List Pd):M Unit:=λs=>i6 ()<|iH s a
def liveR (r:Rd):M Unit:=match r with
 | .b b=>z7 λs=>match s.f b with
  |some _=>i6 ()|none=>c9 "a region: read"
 |_=>i6 ()
def PO (o:Oper):Bool:=Nat.beq (j7 o.op) 3
section
variable (P :Aw)(U:Ab)
def sgo (call:M0)(d:Nat)(all:An):List (Oper×Nat)->Nat->Fm->List Pd->List En->M (Fm×List Pd)
 | [],_,f,c,_=>i6 (f,c)| (o,pre)::rest,i,f,c,a=>
  bif E6 d o.dst&&Nat.blt pre (2^i)then
   d8 (vZ U all f o) λt =>
   bif t then
    bif Nat.beq (j7 o.op) 0 then d8 (quiet<|sop P U call (dU all f o t) o.op) λv=>sgo call d all rest (i+1) (jU (dU all f o t) o.dst v) c<|⟨i,pre,false,false,.free,[],false⟩::a
    else bif Nat.beq (j7 o.op) 1 then z7 λe=>d8 (quiet<|sop P U call (dU all f o t) o.op) λv=>d8 (liveR<|zE (rgB e) (dU all f o t) o.op) λ_=>
      bif vok 1000 v&&a.all (jQ pre<|zE (rgB e) (dU all f o t) o.op)then sgo call d all rest (i+1) (jU (dU all f o t) o.dst v) c (⟨i,pre,false,true,zE (rgB e) (dU all f o t) o.op,[],false⟩::a)
      else c9 "a region: a read"
    else bif Nat.beq (j7 o.op) 2 then match snw P (dU all f o t) o.op with
     |some (x,mk)=>d8 mpend λb=>sgo call d all rest (i+1) (jU (dU all f o t) o.dst<|mk b) (⟨b,i,x⟩::c)<|⟨i,pre,false,false,.free,[],false⟩::a
     |none=>c9 "a region: a new block"
    else bif c.all (λp=>pre.testBit p.i)then
      z7 λg=>d8 (Qm c) λ_=>d8 (PQ g.h.length<|sop P U call (dU all f o t) o.op) λr=>
       bif a.all (mX pre r.2.1)then sgo call d all rest (i+1) (jU (dU all f o t) o.dst r.1) [] (⟨i,pre,true,false,.free,r.2.1,r.2.2⟩::a)else c9 "a region: a write"
     else c9 "a region: blocks that wait"
   else bif PO o&& !(a.all<|mX pre [])then c9 "a region: not wanted" else
    sgo call d all rest (i+1) (jU (dU all f o t) o.dst<|.A []) c (⟨i,pre,PO o,false,.free,[],false⟩::a)
  else c9 "a region: slot"
def JV (call:M0)(a:Nat):mR:=λall f=>
 bif stat all (dK all [])then d8 (sgo P U call a all (all.zip<|dK all []) 0 f [] []) λr=>d8 (Qm r.2) λ_=>i6 r.1
 else c9 "a region: order"
def Ri (call:M0)(a:Nat):mR:=λall f=>JV P U call a all f
end
section
variable {P :Aw}{U:Ab}{J:Aa}{R:Nat}
variable {call :i9}{all:An}{K:Nat}{o:Oper}{pre:Nat}{rest:List (Oper×Nat)}{i:Nat}{X:Ao}{S:Hp}{I:Nat}{L:List Ent}
def Wv (a:E6 R o.dst)(b:y9 all X o=false):xgo P call R all K ((o,pre)::rest) i X S I L=xgo P call R all K rest (i+1) (A6 X o.dst undef) S I (⟨i,o,pre,X,S,S,I,false,undef,none⟩::L):=by rw[xgo,a,Xa,b,Xb]
variable {v:Av}{W:Hp}
def xgo_0 (a:E6 R o.dst)(c:y9 all X o)(b:j7 o.op=0)(d:xop P call X S o.op=(v,W)):xgo P call R all K ((o,pre)::rest) i X S I L=xgo P call R all K rest (i+1) (A6 X o.dst v) S I (⟨i,o,pre,X,S,S,I,true,v,none⟩::L):=by rw[xgo,a,Xa,c,Xa,b];grind
def xgo_1 (a:E6 R o.dst)(c:y9 all X o)(b:j7 o.op=1)(d:xrd P X S o.op=v):xgo P call R all K ((o,pre)::rest) i X S I L=xgo P call R all K rest (i+1) (A6 X o.dst v) S I (⟨i,o,pre,X,S,S,I,true,v,none⟩::L):=by rw[xgo,a,Xa,c,Xa,b];grind
def xgo_2 (a:E6 R o.dst)(c:y9 all X o)(b:j7 o.op=2){n:Nw}(d:xnw P X o.op=n):xgo P call R all K ((o,pre)::rest) i X S I L=xgo P call R all K rest (i+1) (A6 X o.dst<|n.d<|K+i) S I (⟨i,o,pre,X,S,S,I,true,n.d<|K+i,some n⟩::L):=by rw[xgo,a,Xa,c,Xa,b];grind
def xgo_3 (a:E6 R o.dst)(c:y9 all X o)(b:j7 o.op=3)(d:xop P call X (takes K (AC pre I) L S) o.op=(v,W)):xgo P call R all K ((o,pre)::rest) i X S I L=xgo P call R all K rest (i+1) (A6 X o.dst v) W (I|||pre) (⟨i,o,pre,X,S,W,I,true,v,none⟩::L):=by rw[xgo,a,Xa,c,Xa,b];grind
def C3 {a b:Type}{m:M a}{k:a->M b}{s:SS}{Q:b×SS->Prop}:(d8 m k s).q U Q↔(m s).q U λr=>(k r.1 r.2).q U Q:=by exact ZF _ _ _ _
def Hc {c:Type}{m:M c}{s:SS}{Q:c×SS->Prop}(h:(quiet m s).q U Q):(m s).q U λr=>Q r/\r.2.h.length=s.h.length/\r.2.g=s.g:=by
 rw[quiet] at h;rw[ZF]at h;refine Tr.H _ _ (λr b=>?_) h;cases a:Nat.beq r.2.h.length s.h.length&&Nat.beq r.2.g s.g with
 |false=>rw[a]at b;exact b.elim|true=>rw[a]at b;rw[WK]at a;exact⟨b,WO a.1,WO a.2⟩
variable {O :Tau}{F:Ac}{s:SS}
theorem Ext.d {a:Tau}{d:Ac}{c:SS}(ex:Ext O F s S a d c W)(n:SD P U O F s S)(g:SD P U a d c W)(q:W=S)(hh:c.h.length=s.h.length)(r:c.g=s.g):a=O/\d=F/\c.h=s.h:=by
 let⟨l,o,_,_,p,_⟩:=ex.B;have m:l=[]:=by simp_all
 subst m;refine⟨funext λb=>?_,funext λj=>?_,by grind⟩;by_cases k:b<s.g;exact ex.A b k;rw[n.g b<|by omega,g.g b<|by omega]
 .cases i:d j with
  |none=>
   cases e:F j with
   |none=>rfl|some y=>rw[ex.f j y e]at i;cases i
  |some y=>grind
variable (P U J R) in
def On (all:An)(k:Tau)(n:Ac)(p:SS)(b:Hp)(rest:List (Oper×Nat))(i:Nat)(X:Ao)(S:Hp)(I:Nat)(g:List Ent)(f:Fm)(Q:(Fm×List Pd)×SS->Prop):Prop:=
 ∃h c j,Q ((h,c),j)/\ ∃d l a e,(EV λm=>xgo P (E7 P J m) R all b.d rest i X S I g=some a)/\
  DA P U k n p b all.length all.length d l j a.S h a.c c a.b a.I/\DB P ⟨b.m,b.d+all.length⟩ all.length d l j a.S e a.b/\ ∃o,h=o++f
def sS {call:M0}(w:H5 P U J call){all:An}{ab:Tau}{F0:Ac}{s0:SS}{n:Hp}:∀(rest:List (Oper×Nat)) (i:Nat) (O:Tau) (F:Ac) (s:SS) (S:Hp) (f:Fm) (X:Ao) (D:List Pd) (L:List En) (A:List Ent) (I:Nat),DA P U ab F0 s0 n all.length i O F s S f X D A I->DB P ⟨n.m,n.d+all.length⟩ i O F s S L A->i+rest.length=all.length-> ∀Q,(sgo P U call R all rest i f D L s).q U Q->On P U J R all ab F0 s0 n rest i X S I A f Q
 | [],i,O,F,s,S,f,X,D,L,A,I,d,hb,hi,Q,c=>by
  have e:i=all.length:=by grind
  subst e;exact⟨f,D,s,c,O,F,⟨X,S,I,A⟩,L,Zc λm=>rfl,d,hb,[],rfl⟩
 | (o,pre)::rest,i,O,F,s,S,f,X,D,L,A,I,d,hb,hi,Q,c=>by
  have ad:i+1+rest.length=all.length:=by grind
  rw[sgo] at c;cases hd:E6 R o.dst&&Nat.blt pre (2^i)with
  |false=>rw[hd]at c;exact c.elim|true=>
   rw[hd,Xa,C3]at c;rw[WK]at hd;let⟨t,s1,c,G,be,hw⟩:=AR d.r all o (s:=s) _ c d.h.I;have d:=d.J<|LR d.r hw;let⟨p0,ai⟩:=Hf all f o t;have ah:On P U J R all ab F0 s0 n ((o,pre)::rest) i X S I A (dU all f o t) Q->On P U J R all ab F0 s0 n ((o,pre)::rest) i X S I A f Q:=
    λ⟨f',av,s',h1,B,F',au,aj,h2,h3,h4,pr,h5⟩=>⟨f',av,s',h1,B,F',au,aj,h2,h3,h4,pr++p0,by rw[h5,ai,WX]⟩
   refine ah ?_;clear ah ai p0;generalize dU all f o t=f at c d⊢;have z:=d.h.D G be;have ac:∀ {a:SV} {v:Av} {W:Hp} {I':Nat} {eX:Ent},(EV λm=>xgo P (E7 P J m) R all n.d ((o,pre)::rest) i X S I A=xgo P (E7 P J m) R all n.d rest (i+1) (A6 X o.dst v) W I' (eX::A))->
     On P U J R all ab F0 s0 n rest (i+1) (A6 X o.dst v) W I' (eX::A) (jU f o.dst a) Q->On P U J R all ab F0 s0 n ((o,pre)::rest) i X S I A f Q:=by
    intro a v W I' eX he ⟨f',av,s',h1,B,F',au,aj,h2,h3,h4,pr,h5⟩;let⟨p,hp⟩:=GY f o.dst a;exact⟨f',av,s',h1,B,F',au,aj,(he.d h2).b λm ⟨k1,k2⟩=>by rw[k1];exact k2,h3,h4,pr++p,by rw[h5,hp,WX]⟩
   have am:∀b x,s.f b=some x->O b=O b:=λ_ _ _=>rfl;cases t with
   |false=>
    rw[Xb]at c;cases hc:PO o&& !(L.all<|mX pre [])with
    |true=>rw[hc]at c;exact c.elim|false=>
     rw[hc,Xb]at c;have E:∀h:PO o,L.all (mX pre []):=λh=>by grind
     have K:=hb.d (en:=⟨i,pre,PO o,false,.free,[],false⟩) (Y:=⟨i,o,pre,X,S,S,I,false,undef,none⟩) (τ':=O) (V:=F) (s':=s1) (S':=S) (ZE O) (Ze F) am d.h.p (λ_ _ _ h=>h)
      (λb _=>G.f b) (λ_ _ _ _ _ _ _=>rfl) rfl rfl rfl rfl rfl (λ_=>⟨rfl,rfl⟩) E (λh _=>by cases h)
     exact ac (Zc λm=>Wv hd.1 hw)<|sS w rest (i+1) O F s1 S _ _ D _ _ I (d.u hb.g (N:=⟨i,o,pre,X,S,S,I,false,undef,none⟩) z (d.r.d (.tup [] [] rfl (λi a x h _=>by simp at h)) o.dst) G.h G.p (Zd d.h G) rfl rfl) K ad Q c
   |true=>
    rw[Xa]at c;have bk:j7 o.op=0\/j7 o.op=1\/j7 o.op=2\/j7 o.op=3:=by have:=yS o.op;omega
    rcases bk with E|E|E|E<;>rw[E]at c
    .rw[show Nat.beq 0 0=true from rfl,Xa,C3]at c;let⟨a,s2,⟨c,h1,h2⟩,B,F',W,ex,C,v,hx,hv⟩:=EQ w (d.r) z o.op _ (Hc c) z;let⟨m0,aa⟩:=hx;have aa:∀m,m0<=m->xop P (E7 P J m) X S o.op=(v,W):=aa;let⟨r,hr⟩:=Ic (P:=P) (call:=E7 P J m0) (W:=X) E;have hS:W=S:=by have:=aa m0<|Xh _;rw[hr]at this;exact(C5 this).2
     obtain⟨rfl,rfl,h3⟩:=ex.d z C hS h1 h2;subst hS;have hh:s2.h=s.h:=by rw[h3,G.h]
     have hg:∀b,s2.f b=s.f b:=λb=>by unfold SS.f;rw[hh]
     have H:=d.u hb.g (N:=⟨i,o,pre,X,W,W,I,true,v,none⟩) C (d.r.d hv o.dst) hh (by rw[h2,G.p]) ((Zd d.h G).g ex) rfl rfl;have K:=hb.d (en:=⟨i,pre,false,false,.free,[],false⟩) (Y:=⟨i,o,pre,X,W,W,I,true,v,none⟩) (τ':=B) (V:=F') (s':=s2) (S':=W) (ZE _) (Ze _) am d.h.p (λ_ _ _ h=>h)
      (λb _=>hg b) (λ_ _ _ _ _ _ _=>rfl) rfl rfl rfl (by show false=isW _;unfold isW;rw[show j7 o.op=0 from E];rfl) rfl (λ_=>⟨rfl,rfl⟩) (λh=>by rw[isW] at h;rw[show j7 o.op=0 from E]at h;cases h) (λ_ h=>by rw[show j7 o.op=0 from E]at h;cases h)
     exact ac ⟨m0,λm hm=>xgo_0 hd.1 hw E<|aa m hm⟩<|sS w rest (i+1) _ _ s2 W _ _ D _ _ I H K ad Q c
    .rw[show Nat.beq 1 0=false from rfl,show Nat.beq 1 1 from rfl,Xb,Xa]at c;rw[z7] at c;rw[C3]at c;let⟨a,s2,⟨c,h1,h2⟩,B,F',W,ex,C,v,hx,hv⟩:=EQ w (d.r) z o.op _ (Hc c) z;let⟨m0,aa⟩:=hx;let⟨hS,bm⟩:=WE E<|aa m0<|Xh _;obtain⟨rfl,rfl,h3⟩:=ex.d z C hS h1 h2;subst hS;have hh:s2.h=s.h:=by rw[h3,G.h]
     have hg:∀b,s2.f b=s.f b:=λb=>by unfold SS.f;rw[hh]
     rw[C3]at c;have ao:(∀b,zE (rgB s1) f o.op= .b b-> ∃x,s.f b=some x)/\Tr.q U ((bif vok 1000 a&&L.all (jQ pre<|zE (rgB s1) f o.op)then sgo P U call R all rest (i+1) (jU f o.dst a) D (⟨i,pre,false,true,zE (rgB s1) f o.op,[],false⟩::L)
      else c9 "a region: a read") s2) Q:=by
      cases ay:zE (rgB s1) f o.op with
      |b b=>
       rw[ay]at c;simp only[liveR,z7]at c;cases M:s2.f b with
       |none=>rw[M]at c;exact c.elim|some x=>rw[M]at c;exact⟨λb' e=>by cases e;exact⟨x,by rw[<-hg];exact M⟩,c⟩
      |_=>rw[ay]at c;exact⟨λb' e=>(by cases e),c⟩
     let⟨ao,c⟩:=ao;cases hc:vok 1000 a&&L.all (jQ pre<|zE (rgB s1) f o.op)with
     |false=>rw[hc]at c;exact c.elim|true=>
      rw[hc,Xa]at c;rw[WK]at hc;have H:=d.u hb.g (N:=⟨i,o,pre,X,W,W,I,true,v,none⟩) C (d.r.d hv o.dst) hh (by rw[h2,G.p]) ((Zd d.h G).g ex) rfl rfl;have K:=hb.d (en:=⟨i,pre,false,true,zE (rgB s1) f o.op,[],false⟩) (Y:=⟨i,o,pre,X,W,W,I,true,v,none⟩) (τ':=B) (V:=F') (s':=s2) (S':=W) (ZE _) (Ze _) am d.h.p (λ_ _ _ h=>h)
       (λb _=>hg b) (λ_ _ _ _ _ _ _=>rfl) rfl rfl rfl (by show false=isW _;unfold isW;rw[show j7 o.op=1 from E];rfl) rfl (λ_=>⟨rfl,rfl⟩) (λh=>by rw[isW] at h;rw[show j7 o.op=1 from E]at h;cases h)
       (λ_ _=>⟨HN 1000 a v hc.1 hv,rfl,rfl,Tp d.r z<|aa m0<|Xh _,ao,hc.2⟩)
      refine ac ⟨m0,λm hm=>xgo_1 hd.1 hw E bm⟩<|sS w rest (i+1) _ _ s2 W _ _ D _ _ I H K ad Q c
    .rw[show Nat.beq 2 0=false from rfl,show Nat.beq 2 1=false from rfl,show Nat.beq 2 2 from rfl,Xb,Xb,Xa]at c;cases ap:snw P f o.op with
     |none=>rw[ap]at c;exact c.elim|some xm=>
      let⟨x,mk⟩:=xm;rw[ap]at c;let⟨nw,hx,bb,ba⟩:=Wj (U:=U) d.r ap;have ae:DA P U ab F0 s0 n all.length i O F s1 S f X D A I:=
       ⟨z,d.r,d.d.g<|Zd d.h G,d.m,d.C,d.B,d.H,λp hp=>let k:=d.g p hp;⟨k.m,k.d,by rw[G.f];exact k.g,k.j,by rw[G.p];exact k.h,k.t,k.f,k.u,k.e⟩,d.y,d.A⟩
      have an:=dT (Z:=O) (some (n.d+i,0)) (z.g _<|Xh _);have H:=ae.D hb.g (by grind) (N:=⟨i,o,pre,X,S,S,I,true,nw.d<|n.d+i,some nw⟩) (x:=x) (nw:=nw) ((d.r.b an<|Ze F).d (ba _ s1.g (n.d+i)<|y6 _ _ _) o.dst) (bb _ an) rfl rfl;have K:=hb.d (en:=⟨i,pre,false,false,.free,[],false⟩) (Y:=⟨i,o,pre,X,S,S,I,true,nw.d<|n.d+i,some nw⟩) (τ':=put O s1.g<|some (n.d+i,0)) (V:=F) (s':=HE s1) (S':=S) an (Ze _)
       (λb y hb=>D6 O _ (by have:=d.h.w hb;rw[G.p];omega)) d.h.p (λ_ _ _ h=>h)
       (λb _=>G.f b) (λ_ _ _ _ _ _ _=>rfl) rfl rfl rfl (by show false=isW _;unfold isW;rw[show j7 o.op=2 from E];rfl) rfl (λ_=>⟨rfl,rfl⟩) (λh=>by rw[isW] at h;rw[show j7 o.op=2 from E]at h;cases h) (λ_ h=>by rw[show j7 o.op=2 from E]at h;cases h)
      exact ac (Zc λm=>xgo_2 hd.1 hw E hx)<|sS w rest (i+1) _ _ _ S _ _ _ _ _ I H K ad Q c
    .rw[show Nat.beq 3 0=false from rfl,show Nat.beq 3 1=false from rfl,show Nat.beq 3 2=false from rfl,Xb,Xb,Xb]at c;cases hc:D.all (λp=>pre.testBit p.i)with
     |false=>rw[hc]at c;exact c.elim|true=>
      rw[hc,Xa]at c;rw[Xo]at hc;have ae:DA P U ab F0 s0 n all.length i O F s1 S f X D A I:=
       ⟨z,d.r,d.d.g<|Zd d.h G,d.m,d.C,d.B,d.H,λp hp=>let k:=d.g p hp;⟨k.m,k.d,by rw[G.f];exact k.g,k.j,by rw[G.p];exact k.h,k.t,k.f,k.u,k.e⟩,d.y,d.A⟩
      have az:∀e∈A,e.c≠none->(AC pre I e.i↔ ∃p∈D,p.i=e.i):=λe he bl=>by unfold AC;rw[WK,XI];constructor;rintro ⟨_,h2⟩;exact d.A e he bl h2;rintro ⟨p,hp,h2⟩;rw[<-h2];exact⟨hc p hp,(d.g p hp).d⟩
      let⟨t1,t2,t3,t4⟩:=ae.w (AC pre I) az;simp only[z7]at c;rw[C3]at c;have c:(d8 (PQ s1.h.length<|sop P U call f o.op) (λr=>bif L.all (mX pre r.2.1)then sgo P U call R all rest (i+1) (jU f o.dst r.1) [] (⟨i,pre,true,false,.free,r.2.1,r.2.2⟩::L)else c9 "a region: a write")<|iH s1 D).q U Q:=c;rw[C3]at c;rw[PQ] at c;rw[ZF]at c;let⟨a,s2,c,B,F',W,ex,C,v,hx,hv⟩:=EQ w d.r t1 o.op _ c t1;let⟨l,a1,a2,a3,a4,a5⟩:=ex.B;have al:bA (s2.h.length-s1.h.length) s2.h=(l++tkl D).map Prod.fst:=by
       have:s2.h=(l++tkl D)++s1.h:=by rw[a1,WX];rfl
       rw[this,Xl,Nat.add_sub_cancel,uB]
      have c:((bif L.all (mX pre<|bA (s2.h.length-s1.h.length) s2.h)then sgo P U call R all rest (i+1) (jU f o.dst a) [] (⟨i,pre,true,false,.free,bA (s2.h.length-s1.h.length) s2.h,yP (s2.h.length-s1.h.length) s2.h⟩::L)else c9 "a region: a write") s2).q U Q:=c;rw[al]at c;cases ak:L.all (mX pre<|(l++tkl D).map Prod.fst)with
      |false=>rw[ak]at c;exact c.elim|true=>
       rw[ak,Xa]at c;have H:=ae.z hb.g (WN hd.2) hc t3 t2 ex C ((d.r.b ex.t ex.f).d hv o.dst) (N:=⟨i,o,pre,X,S,W,I,true,v,none⟩) rfl rfl;have bh:∀b,b∉(l++tkl D).map Prod.fst->s2.f b=s.f b:=by
        intro b hb;have:s2.h=(l++tkl D)++s.h:=by rw[a1,WX,<-G.h];rfl
        unfold SS.f;rw[this,vJ _ _ hb]
       have bo:∀b x j q,s.f b=some x->O b=some (some (j,q))->b∉(l++tkl D).map Prod.fst->W.m.l j=S.m.l j:=by
        intro b x j q M aq bp;have aw:∀p∈D,b≠p.b:=λp hp e=>by rw[e,(d.g p hp).g]at M;cases M
        have bj:∀p∈D,j≠n.d+p.i:=λp hp e=>by subst e;exact aw p hp<|(d.g p hp).u b q aq
        have bg:(iH s1 D).f b=some x:=by rw[kJ aw,G.f];exact M
        rw[a2 j (by rw[t3];exact d.h.C b j q aq)<|λb' y q' e1 e2 e3=>?_,t4 j bj];by_cases eb:b'=b;grind;exact t1.A b' b y x j q' j q e1 bg eb e2 aq rfl
       have bc:(isW (⟨i,o,pre,X,S,W,I,true,v,none⟩:Ent)->yP (s2.h.length-s1.h.length) s2.h=false)-> ∀j y,F' j=some y->F j=some y:=λc=>by
        have hn:=c (by rw[isW,show j7 o.op=3 from E];rfl);have e2:s2.h=(l++tkl D)++s1.h:=by rw[a1,WX];rfl
        rw[e2,Xl,Nat.add_sub_cancel]at hn;exact a5 λp hp=>Nh _ _ hn p<|YK _ hp
       let⟨m0,aa⟩:=hx;have K:=hb.d (en:=⟨i,pre,true,false,.free,(l++tkl D).map Prod.fst,yP (s2.h.length-s1.h.length) s2.h⟩) (Y:=⟨i,o,pre,X,S,W,I,true,v,none⟩) (τ':=B) (V:=F') (s':=s2) (S':=W) ex.t ex.f
        (λb y M=>ex.A b (by have:=d.h.w M;show b<s1.g;rw[G.p];exact this)) C.p bc bh bo rfl rfl rfl (by show true=isW _;rw[isW,show j7 o.op=3 from E];rfl) rfl
        (λh=>by rw[isW] at h;rw[show j7 o.op=3 from E]at h;cases h) (λ_=>ak) (λ_ h=>by rw[show j7 o.op=3 from E]at h;cases h)
       exact ac ⟨m0,λm hm=>xgo_3 hd.1 hw E<|aa m hm⟩<|sS w rest (i+1) _ _ _ W _ _ _ _ _ _ H K ad Q c
def NI {call:M0}(u:H5 P U J call)(all:An)(f:Fm)(O:Tau)(F:Ac)(s:SS)(a:Hp)(X:Ao)(G:TD P U O F f X)(g:SD P U O F s a):OKh P U (JV P U call R all f) O F s a λE w H V=>∃D,(EV λn=>kO P (E7 P J n) R all X a=some (D,V))/\TD P U w H E D/\ ∃pre,E=pre++f:=by
 intro Q C _;rw[JV] at C;cases r:stat all (dK all [])with
 |false=>rw[r]at C;exact C.elim|true=>
  rw[r,Xa,C3]at C;have ab:(all.zip<|dK all []).length=all.length:=by have:=r;simp only[stat,WK]at this;simp_all
  have ha:DA P U O F s a all.length 0 O F s ⟨a.m,a.d+all.length⟩ f X [] [] 0:=by
   refine⟨⟨g.f,g.A,g.p,λb i o h=>XW (g.C b i o h)<|Nat.le_add_right _ _,λi b h=>XW (g.B i b h)<|Nat.le_add_right _ _,g.g,g.I,g.N⟩,G,⟨ZE O,Ze F,Nat.le_add_right _ _,Xh _,λ_ _=>rfl,λb x z _=>⟨x,z⟩,
   ⟨[],rfl,λ_ _ _=>rfl,λb i o z G=>(by rw[g.g b z]at G;cases G),λ_ _ _ h=>.inl h,λ_ _ _ h=>h⟩,⟨[],rfl⟩,⟨[],rfl,λ_ _ _ _ _ _ cs _ _ _ _ hg _=>⟨cs,hg,λ_ _=>rfl⟩⟩⟩,Xh _,λj _=>Nat.zero_testBit j,.nil,.nil,λp a=>by grind,λj _ _=>⟨λc o A=>?_,?_⟩,λe q=>by grind⟩;have:=g.C c _ o A;omega
   .cases hF:F (a.d+j)with
    |none=>rfl|some y=>have:=g.B _ y hF;omega
  have z:DB P ⟨a.m,a.d+all.length⟩ 0 O F s ⟨a.m,a.d+all.length⟩ [] []:=by refine⟨λe q=>by grind,λe q=>by grind,λe q=>by grind,λe q=>by grind,λk Sk v b x j o _ _ _=>?_,λk Sk v _ j y hj=>?_,λe q=>by grind⟩;obtain⟨_,rfl⟩| ⟨x,hx,_⟩:=v;rfl;grind;obtain⟨_,rfl⟩| ⟨x,hx,_⟩:=v;exact g.p j y hj;grind
  let⟨E,aa,s',Y,w,H,d,ac,⟨m0,M⟩,l,K,pr,W⟩:=sS u (all.zip<|dK all []) 0 O F s _ f X [] [] [] 0 ha z (by omega) _ C;let⟨t1,t2,_,_⟩:=l.w (Bz d.I) (λe q N=>by rw[Bz,XI];constructor;exact l.A e q N;rintro ⟨p,a,e1⟩;rw[<-e1];exact(l.g p a).d);have B:dyn P ⟨a.m,a.d+all.length⟩ d.b:=by
   rw[dyn,Xo];intro e q;cases A:e.f&&Nat.beq (j7 e.o.op) 1 with
   |false=>rfl|true=>
    rw[Xa];rw[WK]at A;have t:=K.h e q A.1<|WO A.2;rw[WK];refine⟨(t 0 _<|.inl ⟨rfl,rfl⟩).b,?_⟩;rw[Xo];intro x hx;cases hw:isW x with
    |false=>rfl|true=>exact(t _ _<|.inr ⟨x,hx,hw,rfl,rfl⟩).b
  refine⟨E,iH s' aa,Y,w,H,takes a.d (Bz d.I) d.b d.S,t2,t1,d.c,⟨m0,λm hm=>?_⟩,l.r,pr,W⟩;show kO P (E7 P J m) R all X a=_;rw[kO,r,Xa,M m hm];simp only[B,Xa]
def Hv {call:M0}(a:H5 P U J call):eA P U J R (Ri P U call R):=λall f O F s p X t r Q q c=>by let⟨h,u,i,e,g,b,j,l,d,m,o⟩:=NI a all f O F s p X t r Q q c;exact⟨h,u,i,e,g,b,j,l,d,m.b λn k=>by rw[z4,k],o⟩
end
section
variable {P :Aw}{U:Ab}
variable {Y Z:Tau}{V F1:Ac}{a:SV}
def VD.re {j:Tau}{H I:Av}(n:VD P U j V a H)(O:VD P U Y F1 a I)(S:∀b p,j b=some p->Z b=Y b):VD P U Z F1 a I:=by
 induction O generalizing H with
 |any v=>exact .any v|int k e=>exact .int k e|bool e=>exact .bool e|str e=>exact .str e|nilp=>exact .nilp|ptr b z row d i o k h=>
  cases n with
  |ptr _ _ _ _ i' o' k' _=>exact .ptr b z row d i o (by grind) h
 |pptr t L row d i o l c k h u=>exact .pptr t L row d i o l c k h u|rp row d h=>exact .rp row d h|rpq e v h=>exact .rpq e v h|rv L z xs h=>exact .rv L z xs h|nils=>exact .nils|sl b z off len cap i o c k h u w=>
  have A:∃p,j b=some p:=by cases n<;>exact⟨_,by omega⟩
  let⟨p,B⟩:=A;exact .sl b z off len cap i o c (by grind) h u w
 |sl0 b z off len cap k h u w=>
  have A:∃p,j b=some p:=by cases n<;>exact⟨_,by omega⟩
  let⟨p,B⟩:=A;exact .sl0 b z off len cap (by grind) h u w
 |lst t L r v k w=>exact .lst t L r v k w|agg l xs s _ D=>
  cases n with
  |agg _ F y Q=>refine .agg l xs s λi a x q C=>?_;grind
 |tup l xs s _ D=>
  cases n with
  |tup _ F y Q=>refine .tup l xs s λi a x q C=>?_;grind
 |fn f l m xs F s _ y _ T W=>
  cases n with
  |fn _ _ _ ab ac e3 k3 e4 k4=>refine .fn f l m xs F s (λi a x q C=>?_) y<|λi a x q C=>?_;grind;grind
 |nilf=>exact .nilf|yld ks vs g nt ps J K i E pr M R B _ D=>
  cases n with
  |yld _ _ _ _ _ _ _ i0 G aa N _ _ X=>exact .yld ks vs g nt ps J K i E pr M R B λk a q=>D k a q<|X k a q
def BD.d {d:Tau}{x:C8}{C o:Nat}{D q:Blk}(k:BD P U d V C x D)(f:BD P U Y F1 o x q)(c:∀b p,d b=some p->Z b=Y b):BD P U Z F1 o x q:=by
 cases x with
 |f l e z=>let⟨u,E,_,_,h⟩:=k;let⟨t,n,w,y,i⟩:=f;refine⟨t,n,w,y,λj a m=>?_⟩;let⟨x,A,hv⟩:=i j a m;let⟨F,_,g⟩:=h j a m;exact⟨x,A,g.re hv c⟩
 |g L e z ph=>exact f|j s p=>exact f|m r L z=>let⟨_,h,_⟩:=k;let⟨v,i,B⟩:=f;exact⟨v,(c _ _ h).trans i,B⟩
def H9 (P:Aw)(U:Ab)(x:C8):Prop:=∃L e z ph,x= .g L e z ph/\L.z U=[]/\z=(kf P e).length/\ph.j U<=0
theorem SD.d {F:Ac}{s1 s2:SS}{e:Hp}(f:SD P U Y F s1 e)(g:Nat->Nat)(h:∀b x,s2.f b=some x-> ∃a,s1.f (g b)=some a/\Z b=Y (g b)/\(∀i o y,Y (g b)=some (some (i,o))->e.m.l i=some y->BD P U Y F o a y->BD P U Z F o x y)/\(H9 P U a->H9 P U x))(B:∀b c x y,s2.f b=some x->s2.f c=some y->b≠c->g b≠g c)(n:∀b i o,Z b=some (some (i,o))->i<e.d)(C:∀b,s2.g<=b->Z b=none)(A:FT U s2.p)(D:∀r∈s2.r,MG P U Z F r):SD P U Z F s2 e:=by refine⟨λb x d=>?_,λb c x y i o j q d w p t u=>?_,f.p,n,f.B,C,A,D⟩;let⟨a,l,v,G,z⟩:=h b x d;obtain⟨i,o,y,s,k,H,I⟩| ⟨s,k⟩:=f.f _ _ l;grind;exact .inr ⟨by grind,z k⟩;let⟨a,l,v,_⟩:=h b x d;let⟨E,s,k,_⟩:=h c y w;rw[v]at t;rw[k]at u;exact f.A _ _ a E i o j q l s (B b c x y d w p) t u
inductive G where
 |keep
 |any
 |int (k:IntKind)
 |bool
 |str
 |lst (t:Ax)
 |acc (e:Ax) (z:Nat)
 |clp (t:Ax)
 |itr (s:E)
 |rwk (b:Nat) (e:Ax) (z:Nat) (ph:E)
 |rpt
 |rgk (b z:Nat)
 |rgl (z:Nat)
 |pp (t:Ax)
def G.p :G->Bb So
 | .int _=>some .i| .bool=>some .b| .str=>some .s| .lst _=>some .l| .clp _=>some .l| .acc _ _=>some .l| .itr _=>some .i| .rwk _ _ _ _=>some .l| .rpt=>some .i| .rgk _ _=>some .l| .rgl _=>some .l| .pp _=>some .l|_=>none
def G.m :G->Nat
 | .acc _ _=>1| .itr _=>1|_=>0
def wk1 :E->Cp->Cp
 | .w 1,.f (.w 1)=>.j|_,c=>c
def iZ :SV->Cp
 | .q=>.g| .z _ _ _ n (.f c)=>wk1 n<|.f c| .z _ _ _ _ .g=>.g|_=>.j
def phOf (L:E):Cp->E
 | .f c=>c| .g=>C2 L| .j=>C2 L
def tv (g:G)(a:SV)(e:E)(b:Nat):SV:=match g with
 | .keep=>a| .any=>.r| .int k=>.f k e| .bool=>.j e| .str=>.p e| .lst t=>.m t e false| .clp t=>.m t e true| .acc _ z=>.z b z (.w 0) (C2 e)<|iZ a| .itr _=>.g b 1 (.w 0) 0| .rwk _ _ _ _=>.r| .rpt=>.I e| .rgk _ _=>.r| .rgl z=>.N e z| .pp t=>.B t e (.w 0) 0
def G.r (g:G)(a:SV)(d:E):Bb C8:=match g with
 | .acc e z=>some<|.g d e z<|phOf d<|iZ a| .itr s=>some<|.j s d|_=>none
def G.j (g:G)(d:E):Bb (Nat×C8):=match g with
 | .rwk b e z ph=>some (b,.g d e z ph)| .rgk b z=>some (b,.m b d z)|_=>none
def hd1 :Au->E
 | []=>.w 0|e::_=>e
def tl1 :Au->Au
 | []=>[]
 |_::l=>l
def pop (g:G)(a:Au):Au:=match g.p with
 |some _=>tl1 a|none=>a
inductive At where
 |e (t:Nat)
 |d (b j:Nat)
 |g
structure Pl where
 d:At
 g:G
 a:SV
def eG :List Pl->Au->Nat->List (At×SV)
 | [],_,_=>[]
 |p::l,c,b=>(p.d,tv p.g p.a (hd1 c) b)::eG l (pop p.g c) (b+p.g.m)
def iM :List Pl->Au->Nat->List (Nat×Bb C8)
 | [],_,_=>[]
 |p::l,c,b=>match p.g.r p.a (hd1 c)with
  |some X=>(b,some X)::iM l (pop p.g c) (b+p.g.m)|none=>match p.g.j (hd1 c)with
   |some q=>(q.1,some q.2)::iM l (pop p.g c) (b+p.g.m)|none=>iM l (pop p.g c)<|b+p.g.m
def Pb {U:Ab}{len:E}{cap:Cp}{c:Nat}(h:pC U len cap c):pC U len (wk1 len cap) c:=by unfold wk1;split;let⟨_,a,b,_⟩:=h;exact .inl ⟨b,a,by show(1:Int)<=67108864;decide⟩;exact h
def Wr {len e:E}{cap:Cp}(h:wk1 len cap= .f e):cap= .f e:=by unfold wk1 at h;split at h;cases h;exact h
def VD.wk1 {P:Aw}{U:Ab}{g:Tau}{F:Ac}{b z:Nat}{off len:E}{cap:Cp}{x:Av}(h:VD P U g F (.z b z off len cap) x):VD P U g F (.z b z off len<|wk1 len cap) x:=by
 cases h with
 |sl _ _ _ _ _ i o c k a d f=>exact .sl b z off len _ i o c k a d<|Pb f|sl0 _ _ _ _ _ k a d f=>exact .sl0 b z off len _ k a d λe j=>f e<|Wr j
def uD (P:Aw)(U:Ab)(g:G)(v:SV):M SV:=match g with
 | .lst t=>d8 (By P U 20 (.f t) v) λe=>i6<|.m t e false
 | .clp t=>match v with
  | .m a L c=>bif c then i6 (.m a L c)else c9 "a list with room behind it"| .q=>i6<|.m t (.C .p []) true| .z b z off len (.f c)=>d8 (u6 U<|I4 c len) λ_=>d8 (By P U 20 (.f t)<|.z b z off len<|.f c) λe=>i6<|.m t e true
  |_=>c9 "a slice with room behind it"
 | .acc e z=>match v with
  | .z b d off len cap=>d8 (CB P b) λ_=>i6<|.z b d off len<|wk1 len cap
  | .q=>bif Nat.beq z (kf P e).length then d8 (gI<|.g (.C .p []) e z<|.w 0) λb=>i6 (.z b z (.w 0) (.w 0) .g)else c9 "loop: cells"
  |_=>c9 "loop: no slice"
 | .pp t=>match v with
  | .g b z (.w 0) 0=>z7 λs=>match s.f b with
   |some (.f _ _ _)=>d8 (By P U 20 (.f t)<|.z b z (.w 0) (.w 1)<|.f<|.w 1) λe=>d8 (u6 U<|I4 (C2 e)<|.w 1) λ_=>i6<|.B t e (.w 0) 0
   |_=>i6 v
  |_=>i6 v
 |_=>i6 v
def norm (P:Aw)(U:Ab):List Pl->As->M (As)
 |p::l,v::vs=>d8 (uD P U p.g v) λb=>d8 (norm P U l vs) λa=>i6<|b::a
 | [],[]=>i6 []|_,_=>c9 "loop: places"
def svp :SV->SV->Bool
 | .g b z (.w m) f,.g c g (.w a) d=>Nat.beq b c&&Nat.beq z g&&decide (m=a)&&Nat.beq f d| .C,.C=>true| .D,.D=>true| .q,.q=>true| .f k (.w m),.f e (.w a)=>decide (k=e)&&decide (m=a)|_,_=>false
def RH :As->As->Bool
 | [],[]=>true|a::l,b::m=>svp a b&&RH l m|_,_=>false
def svk (a v:SV):Bool:=svp a v||match a,v with
 | .H f l m,.H g b c=>decide (f=g)&&RH l b&&RH m c|_,_=>false
def RG {v:SV}(h:svp a v):a=v:=by
 unfold svp at h;split at h<;>first
  |rfl
  |cases h
  | (simp at h
     obtain⟨⟨⟨rfl,rfl⟩,rfl⟩,rfl⟩:=h;rfl)
  | (simp at h
     rfl)
  | (rw[WO h])
def Fg :∀ {l m:As},RH l m->l=m
 | [],[],_=>rfl| [],_::_,h=>by cases h
 |_::_,[],h=>by cases h
 |a::l,b::m,h=>by rw[RH] at h;rw[WK]at h;rw[RG h.1,Fg h.2]
def Wo {v:SV}(h:svk a v):a=v:=by unfold svk at h;rw[Ys]at h;obtain h|h:=h;exact RG h;split at h;simp at h;rw[h.1.1,Fg h.1.2,Fg h.2];cases h
def mt1 (U:Ab)(g:G)(a v:SV):M (Bb E×Ai):=match g with
 | .keep=>bif svk a v then i6 (none,none)else c9 "loop: a place that has changed"| .any=>i6 (none,none)| .int k=>match v with
  | .f q e=>bif decide (k=q)then i6 (some e,none)else c9 "loop: kind"|_=>c9 "loop: no int"
 | .bool=>match v with
  | .j e=>i6 (some e,none)|_=>c9 "loop: no bool"
 | .str=>match v with
  | .p e=>i6 (some e,none)|_=>c9 "loop: no string"
 | .lst t=>match v with
  | .m i L _=>bif Nat.beq t i then i6 (some L,none)else c9 "loop: type"|_=>c9 "loop: no list"
 | .clp t=>match v with
  | .m i L c=>bif c&&Nat.beq t i then i6 (some L,none)else c9 "loop: type"|_=>c9 "loop: no list"
 | .acc e z=>match v with
  | .z b h (.w m) len cap=>z7 λs=>match s.f b with
   | some (.g L  l   p ph) => bif Nat.beq e  l && Nat.beq z  h && Nat.beq z   p && decide (m = 0) then
     d8 (u6 U<|A4<|A5 (C2 L) len) λ_=>d8 (aT U L (.w 0) len) λd=>match iZ a,cap with
      | .j,.g=>i6 (some d,some b)| .j,.j=>i6 (some d,some b)| .g,.g=>i6 (some d,some b)| .j,.f j=>d8 (u6 U<|I4 j len) λ_=>d8 (u6 U<|A5 len<|.w 67108865) λ_=>i6 (some d,some b)
      | .f c,.f j=>d8 (u6 U<|I4 j c) λ_=>d8 (u6 U<|A4<|A5 ph c) λ_=>i6 (some d,some b)
      |_,_=>c9 "loop: capacity"
    else c9 "loop: slice"
   |_=>c9 "loop: block"
  |_=>c9 "loop: no slice"
 | .itr w=>match v with
  | .g b z (.w m) f=>z7 λs=>match s.f b with
   |some (.j u o)=>bif Nat.beq z 1&&decide (m=0)&&Nat.beq f 0 then d8 (u6 U<|pR u w) λ_=>i6 (some o,some b)else c9 "loop: iterator"
   |_=>c9 "loop: block"
  |_=>c9 "loop: no iterator"
 | .rwk b e z ph=>z7 λs=>match s.f b with
  |some (.g L l h n)=>bif Nat.beq e l&&Nat.beq z h then d8 (u6 U<|A4<|A5 n ph) λ_=>i6 (some L,none)else c9 "loop: rows"
  |_=>c9 "loop: no rows"
 | .rpt=>match v with
  | .I e=>i6 (some e,none)| .J e 0=>i6 (some e,none)| .C=>i6 (some<|.w<|-1,none)|_=>c9 "loop: no pointer to a row"
 | .pp t=>match v with
  | .B i L row 0=>bif Nat.beq t i then i6 (some<|.C .q [L,row,.w 1],none)else c9 "pointer: type"|_=>c9 "no pointer to a value"
 | .rgl z=>match v with
  | .N L h=>bif Nat.beq z h then i6 (some L,none)else c9 "rows: size"|_=>c9 "rows"
 | .rgk b z=>z7 λs=>match s.f b with
  |some (.m r L h)=>bif Nat.beq r b&&Nat.beq z h then i6 (some L,none)else c9 "loop: rows"|_=>c9 "loop: no rows"
variable (U) in
def qK :So->E->E->Prop
 | .i,e,d=>e.j U=d.j U| .b,e,d=>(e.A U).f=(d.A U).f| .s,e,d=>(e.A U).g=(d.A U).g| .l,e,d=>e.z U=d.z U
variable {Y :Tau}{F:Ac}{s:SS}{W:Hp}
variable (P U) in
def Om (Y:Tau)(F:Ac)(s:SS)(c:So)(mk:E->Bb C8)(r:Bb E×Ai):Prop:=
 ∃b L a,r.2=some b/\r.1=some L/\s.f b=some a/\ ∀d,qK U c L d-> ∃X,mk d=some X/\
  (∀(Z:Tau) o y,BD P U Y F o a y->BD P U Z F o X y)/\(H9 P U a->H9 P U X)
variable (P U) in
def Vc (Y:Tau)(F:Ac)(s:SS)(g:G)(r:Bb E×Ai):Prop:=
 ∀b p,g.j b=some p->g.p=some .l/\ ∃L a,r.1=some L/\s.f p.1=some a/\ ∀d,qK U .l L d-> ∃X,g.j d=(p.1,X)/\
  (∀(Z:Tau) o y,Z p.1=Y p.1->BD P U Y F o a y->BD P U Z F o X y)/\(H9 P U a->H9 P U X)
variable (P U) in
def MtOK (f:Tau)(Y:Tau)(F:Ac)(s:SS)(g:G)(a v:SV)(r:Bb E×Ai):Prop:=
 (∀c,g.p=some c-> ∃e,r.1=some e)/\(g.p=none->r.1=none)/\(g.m=0->r.2=none)/\
 (∀x,VD P U Y F v x-> ∀(Z:Tau) (h:Nat) (d:E),(∀b p,f b=some p->Z b=Y b)->(∃V i,VD P U f V a i)->(∀e c,r.1=some e->g.p=some c->qK U c e d)->(∀b,r.2=some b->Z h=Y b)->VD P U Z F (tv g a d h) x)/\
 (g.m≠0-> ∃c,g.p=some c/\Om P U Y F s c (g.r a) r)/\Vc P U Y F s g r
def Jo (am:Tau)(g:G)(a v:SV):OKp U (mt1 U g a v) s λr=>∀B,B.h=s.h->MtOK P U am Y F B g a v r:=by
 cases g with
 |keep=>
  simp only[mt1];cases h:svk a v with
  |false=>exact Zl|true=>have:=Wo h;subst this;exact Zq λB _=>⟨λM h=>(by cases h),λ_=>rfl,λ_=>rfl,λx u Z H d I ⟨V,x0,h0⟩ _ _=>h0.re u I,λh=>absurd rfl h,λJ p h=>(by cases h)⟩
 |any=>exact Zq λB _=>⟨λM h=>(by cases h),λ_=>rfl,λ_=>rfl,λx u Z H d I _ _ _=>.any x,λh=>absurd rfl h,λJ p h=>(by cases h)⟩
 |int k=>
  simp only[mt1];split
  .rename_i k' e;cases h:decide (k=k')with
   |false=>exact Zl|true=>
    rw[Xf]at h;subst h;refine Zq λB _=>⟨λM h=>⟨e,rfl⟩,λh=>(by cases h),λ_=>rfl,λx u Z H d I _ q _=>?_,λh=>absurd rfl h,λJ p h=>(by cases h)⟩
    have:=q e .i rfl rfl;cases u;rw[show e.j U=d.j U from this];exact .int k d
  exact Zl
 |bool=>
  simp only[mt1];split
  .rename_i e;refine Zq λB _=>⟨λM h=>⟨e,rfl⟩,λh=>(by cases h),λ_=>rfl,λx u Z H d I _ q _=>?_,λh=>absurd rfl h,λJ p h=>(by cases h)⟩
   have:=q e .b rfl rfl;cases u;rw[show(e.A U).f=(d.A U).f from this];exact .bool d
  exact Zl
 |str=>
  simp only[mt1];split
  .rename_i e;refine Zq λB _=>⟨λM h=>⟨e,rfl⟩,λh=>(by cases h),λ_=>rfl,λx u Z H d I _ q _=>?_,λh=>absurd rfl h,λJ p h=>(by cases h)⟩
   have:=q e .s rfl rfl;cases u;rw[show(e.A U).g=(d.A U).g from this];exact .str d
  exact Zl
 |lst t=>
  simp only[mt1];split
  .rename_i t' L ab;cases h:Nat.beq t t' with
   |false=>exact Zl|true=>
    have:=WO h;subst this;refine Zq λB _=>⟨λM h=>⟨L,rfl⟩,λh=>(by cases h),λ_=>rfl,λx u Z H d I _ q _=>?_,λh=>absurd rfl h,λJ p h=>(by cases h)⟩
    have:=q L .l rfl rfl;cases u with
    |lst _ _ _ _ W j=>exact .lst t d false x (by rw[<-show L.z U=d.z U from this];exact W) (λh=>by cases h)
  exact Zl
 |clp t=>
  simp only[mt1];split
  .rename_i t' L ab;cases h:ab&&Nat.beq t t' with
   |false=>exact Zl|true=>
    rw[WK]at h;obtain⟨rfl,h⟩:=h;have:=WO h;subst this;refine Zq λB _=>⟨λM h=>⟨L,rfl⟩,λh=>(by cases h),λ_=>rfl,λx u Z H d I _ q _=>?_,λh=>absurd rfl h,λJ p h=>(by cases h)⟩
    have:=q L .l rfl rfl;cases u with
    |lst _ _ _ _ W j=>exact .lst t d true x (by rw[<-show L.z U=d.z U from this];exact W) j
  exact Zl
 |itr s0=>
  simp only[mt1];split
  .rename_i b z m f;refine Zp ?_;split
   .rename_i B ai T;cases j:Nat.beq z 1&&decide (m=0)&&Nat.beq f 0 with
    |false=>exact Zl|true=>
     simp only[WK,Xy,Xf]at j;obtain⟨⟨rfl,rfl⟩,rfl⟩:=j;refine OKp.g.f λ_ s1 o1 _ n1=>Zq λs2 aw=>?_;have ao:(B.A U).g=(s0.A U).g:=by have:=(Zb U _).1 n1;rw[Y4]at this;grind
     refine⟨λM h=>⟨ai,rfl⟩,λh=>(by cases h),λh=>(by cases h),λx u Z H d I _ q ac=>?_,λ_=>⟨.i,rfl,b,ai,.j B ai,rfl,rfl,by rw[SS.f,aw];exact T,λd q=>⟨_,rfl,?_,?_⟩⟩,λJ p h=>(by cases h)⟩
     .cases u with
      |ptr _ _ _ _ i o h h0=>exact .ptr H 1 (.w 0) 0 i o (by rw[ac b rfl];exact h) h0
     rintro Z o y ⟨e0,n,e1,e2⟩;exact⟨e0,n,by rw[<-ao];exact e1,by rw[<-e2];exact q.symm⟩;rintro ⟨L,e,z,ph,h,_⟩;cases h
   exact Zl
  exact Zl
 |rpt=>
  simp only[mt1];split
  .rename_i e;refine Zq λB _=>⟨λM h=>⟨e,rfl⟩,λh=>(by cases h),λ_=>rfl,λx u Z H d I _ q _=>?_,λh=>absurd rfl h,λJ p h=>(by cases h)⟩
   have:=q e .i rfl rfl;cases u with
   |rpq _ _ h=>exact .rpq d x (by rw[<-show e.j U=d.j U from this];exact h)
  .rename_i e;refine Zq λB _=>⟨λM h=>⟨e,rfl⟩,λh=>(by cases h),λ_=>rfl,λx u Z H d I _ q _=>?_,λh=>absurd rfl h,λJ p h=>(by cases h)⟩
   have:=q e .i rfl rfl;cases u with
   |rp _ _ h0=>exact .rpq d _ (by rw[<-show e.j U=d.j U from this,show e.j U=((e.r U:Nat):Int) by show e.j U=((e.j U).toNat:Int);omega];exact .rp _)
  .refine Zq λB _=>⟨λM h=>⟨_,rfl⟩,λh=>(by cases h),λ_=>rfl,λx u Z H d I _ q _=>?_,λh=>absurd rfl h,λJ p h=>(by cases h)⟩
   have:=q _ .i rfl rfl;cases u with
   |nilp=>exact .rpq d _ (by rw[<-show(-1:Int)=d.j U from this];exact .rpn)
  exact Zl
 |pp t=>
  simp only[mt1];split
  .rename_i t' L row;cases h:Nat.beq t t' with
   |false=>exact Zl|true=>
    have:=WO h;subst this;refine Zq λB _=>⟨λM h=>⟨_,rfl⟩,λh=>(by cases h),λ_=>rfl,λx u Z H d I _ q _=>?_,λh=>absurd rfl h,λJ p h=>(by cases h)⟩
    have q:=q _ .l rfl rfl;have q:pQ (L.z U) (row.j U) 1=d.z U:=q;cases u with
    |pptr _ _ _ _ i o l c W h0 w=>
     generalize av:L.z U=rows at W w q;cases W with
     |sl _ _ _ _ b cs n z rows xx hF T j hn hz hr u au=>
      have:=PV.cut (P:=P) (F:=F) hF T hn hz hr u au h0 (show(0:Int)<=1 by omega) (by omega) ⟨by rcases j.1 with⟨q1,q2⟩| ⟨lo,q1,q2,q3⟩;exact .inl ⟨q1,by have:(1:Int).toNat=1:=rfl;omega⟩;exact .inr ⟨lo,q1,q2,by have:(1:Int).toNat=1:=rfl;omega⟩,j.2⟩;rw[q]at this;have aj:((d.z U).length:Int)=1:=by rw[<-q,Z8 h0 (by omega)<|by omega];rfl
      exact VD.pptr' (row:= .w 0) this (Yg 0) (by rw[D5];omega) (by rw[<-hz];show _=o+(row.j U).toNat*z+(0:Int).toNat*z+0;simp)
  exact Zl
 |rgl z=>
  simp only[mt1];split
  .rename_i L S;cases h:Nat.beq z S with
   |false=>exact Zl|true=>
    have:=WO h;subst this;refine Zq λB _=>⟨λM h=>⟨L,rfl⟩,λh=>(by cases h),λ_=>rfl,λx u Z H d I _ q _=>?_,λh=>absurd rfl h,λJ p h=>(by cases h)⟩
    have:=q L .l rfl rfl;cases u with
    |rv _ _ xs W=>exact .rv d z xs (by rw[<-show L.z U=d.z U from this];exact W)
  exact Zl
 |rgk b z=>
  simp only[mt1];refine Zp ?_;split
  .rename_i r L S T;cases j:Nat.beq r b&&Nat.beq z S with
   |false=>exact Zl|true=>simp only[WK,Xy]at j;obtain⟨rfl,rfl⟩:=j;rw[Xa];refine Zq λB Q=>?_;refine⟨λM h=>⟨L,rfl⟩,λh=>(by cases h),λ_=>rfl,λx u Z H d I _ _ _=>.any x,λh=>absurd rfl h,λJ p h=>⟨rfl,L,.m r L z,rfl,?_,λd q=>⟨.m r d z,?_,?_,?_⟩⟩⟩;simp only[G.j,WJ]at h;subst h;rw[SS.f,Q];exact T;simp only[G.j,WJ]at h;subst h;rfl;simp only[G.j,WJ]at h;subst h;rintro Z o y ht ⟨e0,e1,cs,w,A⟩;have O:L.z U=d.z U:=q;exact⟨e0,ht.trans e1,cs,by rw[<-O];exact w,by rw[<-O];exact A⟩;rintro ⟨L',e',S,ax,w,A,K,h4⟩;cases w
  exact Zl
 |rwk b e z ph=>
  simp only[mt1];refine Zp ?_;split
  .rename_i L e' S aa T;cases j:Nat.beq e e'&&Nat.beq z S with
   |false=>exact Zl|true=>
    simp only[WK,Xy]at j;obtain⟨rfl,rfl⟩:=j;rw[Xa];refine OKp.g.f λ_ s1 o1 _ n1=>Zq λB Q=>?_;have X:=B7 n1;refine⟨λM h=>⟨L,rfl⟩,λh=>(by cases h),λ_=>rfl,λx u Z H d I _ _ _=>.any x,λh=>absurd rfl h,λJ p h=>⟨rfl,L,.g L e z aa,rfl,?_,λd q=>⟨.g d e z ph,?_,?_,?_⟩⟩⟩;simp only[G.j,WJ]at h;subst h;rw[SS.f,Q];exact T;simp only[G.j,WJ]at h;subst h;rfl
    .rintro Z o y _ ⟨cs,n,w,A,K⟩;refine⟨cs,n,w,by rw[<-q];exact A,?_⟩;have:ph.r U<=aa.r U:=by show(ph.j U).toNat<=(aa.j U).toNat;omega
     have:=WW z this;omega
    rintro ⟨L',e',S,ax,w,A,K,h4⟩;cases w;exact⟨d,e,z,ph,rfl,by rw[<-q];exact A,K,by omega⟩
  exact Zl
 |acc e z=>
  simp only [mt1];split
  .rename_i b S m len cap;refine Zp ?_;split
   .rename_i L e' ay ph T;cases j:Nat.beq e e'&&Nat.beq z S&&Nat.beq z ay&&decide (m=0)with
    |false=>exact Zl|true=>
     simp only[WK,Xy,Xf]at j;obtain⟨⟨⟨rfl,rfl⟩,rfl⟩,rfl⟩:=j;rw[Xa];refine OKp.g.f λ_ s1 o1 _ n1=>D9.f λD s2 o2 _ hD=>?_;have ba:len.j U<=((L.z U).length:Int):=by have:=B7 n1;rwa[j5]at this
     have an:D.z U=(L.z U).take (len.r U):=by show(D.A U).m=_;rw[hD];show pQ (L.z U) 0 (len.j U)=_;unfold pQ;simp
     have R:∀(N:∀(c:Nat) (n:E),n.j U=len.j U->pC U len cap c->pC U n (iZ a) c) (ae:∀c,iZ a= .f c-> ∃c',cap= .f c'/\c'.j U=c.j U)
       (X:∀c,iZ a= .f c->c.j U<=ph.j U) (B:SS),B.h=s.h->MtOK P U am Y F B (.acc e z) a (.z b z (.w 0) len cap) (some D,some b):=by
      intro N ae X B Q;have ak:∀ {d:E},qK U .l D d->d.z U=(L.z U).take (len.r U):=λh=>by rw[<-an];exact h.symm
      refine⟨λM _=>⟨D,rfl⟩,λh=>(by cases h),λh=>(by cases h),λx u Z H d I _ q ac=>?_,λ_=>⟨.l,rfl,?_⟩,λJ p h=>(by cases h)⟩
      .have O:=ak<|q D .l rfl rfl;have al:=ac b rfl;have az:0<=len.j U:=by cases u<;>omega
       have aj:(C2 d).j U=len.j U:=by rw[j5,O,Xt];grind
       have aq:(C2 d).r U=len.r U:=by grind
       cases u with
       |sl _ _ _ _ _ i o c k1 k2 k3 k4=>show VD P U Z F (.z H z (.w 0) (C2 d)<|iZ a) _;rw[<-aq];exact .sl H z (.w 0) (C2 d) (iZ a) i o c (by rw[al];exact k1) (Yg 0) (by omega)<|N c _ aj k4|sl0 _ _ _ _ _ k1 k2 k3 k4=>refine .sl0 H z (.w 0) (C2 d) (iZ a) (by rw[al];exact k1) rfl (by omega) λc j=>?_;grind
      .refine⟨b,D,.g L e z ph,rfl,rfl,by rw[SS.f,Q];exact T,λd q=>⟨_,rfl,?_⟩⟩;have O:=ak q;have ah:(d.z U).length<=(L.z U).length:=by grind
       constructor
       .rintro Z o y ⟨cs,n,w,⟨A,K,h4,h5⟩,h6⟩;refine⟨cs,n,w,⟨?_,K,λr hr=>h4 r ?_,λr k row dd hr ap=>h5 r k row dd ?_ ap⟩,?_⟩;have:=WW z ah;omega;grind;grind
        .cases ad:iZ a with
         |g=>
          have:(phOf d .g).r U=(d.z U).length:=by show((C2 d).j U).toNat=_;rw[j5];omega
          rw[this];have:=WW z ah;omega
         |j=>
          have:(phOf d .j).r U=(d.z U).length:=by show((C2 d).j U).toNat=_;rw[j5];omega
          rw[this];have:=WW z ah;omega
         |f c=>
          have h7:=X c ad;have:(phOf d<|.f c).r U<=ph.r U:=by show(c.j U).toNat<=(ph.j U).toNat;omega
          have:=WW z this;omega
       .rintro ⟨L',e',S,aa,w,A,K,h4⟩;cases w;refine⟨d,e,z,_,rfl,by rw[O,A];simp,K,?_⟩;cases ad:iZ a with
        |g=>show(C2 d).j U<=0;rw[j5,O,A];simp|j=>show(C2 d).j U<=0;rw[j5,O,A];simp|f c=>have h7:=X c ad;show c.j U<=0;omega
     split;rename_i C;refine Zq<|R (λc n hn j=>?_) (λc j=>by rw[C]at j;cases j) (λc j=>by rw[C]at j;cases j);rw[C];let⟨lo,w,A,K⟩:=j;exact Or.inr ⟨lo,w,A,by omega⟩;rename_i C;refine Zq<|R (λc n hn j=>?_) (λc j=>by rw[C]at j;cases j) (λc j=>by rw[C]at j;cases j);rw[C];obtain⟨w,A,K⟩| ⟨lo,w,A,K⟩:=j;exact Or.inl ⟨w,by rw[A];show(len.j U).toNat=(n.j U).toNat;rw[hn],by omega⟩;exact Or.inr ⟨lo,w,A,by omega⟩;rename_i C;refine Zq<|R (λc n hn j=>?_) (λc j=>by rw[C]at j;cases j) (λc j=>by rw[C]at j;cases j);rw[C];let⟨lo,w,A,K⟩:=j;exact⟨lo,w,A,by omega⟩;rename_i c' C;refine OKp.g.f λ_ s3 _ _ n2=>OKp.g.f λ_ s4 _ _ n3=>?_;have e1:=dB n2;have e2:=E2 n3;simp only[D5]at e2;refine Zq<|R (λk n hn j=>?_) (λc j=>by rw[C]at j;cases j) (λc j=>by rw[C]at j;cases j);rw[C];let⟨w,A,K,h4⟩:=j;exact Or.inl ⟨K,by rw[A];show(c'.j U).toNat=(n.j U).toNat;rw[e1,hn],by omega⟩;rename_i c c' C;refine OKp.g.f λ_ s3 _ _ n2=>OKp.g.f λ_ s4 _ _ n3=>?_;have e1:=dB n2;refine Zq<|R (λk n hn j=>?_) (λc2 j=>?_)<|λc2 j=>?_;rw[C];let⟨w,A,K,h4⟩:=j;exact⟨by omega,by rw[A];show(c'.j U).toNat=(c.j U).toNat;rw[e1],K,by omega⟩;rw[C]at j;cases j;exact⟨c',rfl,e1⟩;rw[C]at j;cases j;exact B7 n3;exact Zl
   exact Zl
  exact Zl
end
section
variable {P :Aw}{U:Ab}
variable {F:Ac}
def PV.lst_eq {e:Ax}{v:Av}{d:Dat}(h:PV P F (.f e) v d):d= .l d.m:=by cases h<;>rfl
def yR {u:Tau}{s:SS}{j:Hp}(g:G){v:SV}{x:Av}(hv:VD P U u F v x)(B:SD P U u F s j):OKh P U (uD P U g v) u F s j λN w I m=>m=j/\VD P U w I N x:=by
 cases g with
 |lst t=>simp only[uD];refine(dE 20 (.f t) v x u F s j hv B).f λe q A s1 n _ f ⟨r,d,a⟩=>Zk ⟨d,?_⟩;have:=a.lst_eq;rw[this]at a;exact .lst t e false x a (λh=>by cases h)
 |clp t=>
  simp only[uD];split
  .rename_i t' L c;cases c with
   |false=>exact Zi|true=>exact Zk ⟨rfl,hv⟩
  cases hv;exact Zk ⟨rfl,.lst t _ true _ (.N t)<|λ_=>⟨_,_,rfl⟩⟩
  .rename_i b z off len c;refine Zg Zm λ_ s1 Z f y=>?_;have y:=dB y;refine(dE 20 (.f t) _ x u F s1 j hv f).f λe q A s2 n _ C ⟨r,d,a⟩=>Zk ⟨d,?_⟩;have:=a.lst_eq;rw[this]at a;refine .lst t e true x a<|λ_=>?_;cases hv with
   |sl _ _ _ _ _ i o S W X Y M=>let⟨q1,q2,q3,q4⟩:=M;grind
   |sl0=>grind
  exact Zi
 |acc e z=>
  simp only[uD];split;next b O off len cap=>refine(jL B).f λ_ q A s1 n _ f ⟨r,d,a⟩=>Zk ⟨a,?_⟩;rw[r,d];exact hv.wk1
  .cases K:Nat.beq z (kf P e).length with
   |false=>exact Zi|true=>rw[Xa];refine OKh.f (R:=λb w I m=>m=j/\w b=some none) ?_ λb q A s1 n _ f ⟨r,d⟩=>Zk ⟨r,?_⟩;intro Q J _;let⟨r,d⟩:=B.H (x:= .g (.C .p []) e z (.w 0)) (p:=none) (hp':=j) (Xh _) (λ_ _=>rfl)<|.inr ⟨rfl,_,_,_,_,rfl,rfl,WO K,Yg 0⟩;exact⟨s.g,_,J,_,F,j,r,d,rfl,y6 _ _ _⟩;cases hv;exact .sl0 b z (.w 0) (.w 0) .g d rfl rfl (λe h=>by cases h)
  exact Zi
 |keep=>exact Zk ⟨rfl,hv⟩|any=>exact Zk ⟨rfl,hv⟩|int k=>exact Zk ⟨rfl,hv⟩|bool=>exact Zk ⟨rfl,hv⟩|str=>exact Zk ⟨rfl,hv⟩|itr s=>exact Zk ⟨rfl,hv⟩|rwk b e z ph=>exact Zk ⟨rfl,hv⟩|pp t=>
  simp only[uD];split
  .rename_i b z;refine Zj ?_;split
   .rename_i l e O V;cases hv with
    |ptr _ _ _ _ i o h T=>
     have D:VD P U u F (.z b z (.w 0) (.w 1)<|.f<|.w 1) (.slice (some ⟨i,o+(E.w 0).r U*z,none⟩) ((E.w 1).r U) 1):=
      .sl b z (.w 0) (.w 1) (.f<|.w 1) i o 1 h (Yg 0) (by rw[D5];omega) ⟨by rw[D5];omega,rfl,by rw[unk];omega,Yg _⟩
     refine(dE 20 (.f t) _ _ u F s j D B).f λe q A s1 n _ f ⟨r,d,a⟩=>Zg Zm λ_ s2 o2 C y=>Zk ⟨d,?_⟩;have y:=dB y;rw[j5,D5]at y;have:=a.lst_eq;rw[this]at a;exact VD.pptr' (row:= .w 0) a (Yg 0) (by rw[D5];show(0:Int)<(e.z U).length;omega) (by show o+(0:Int).toNat*z+0=o+(0:Int).toNat*z+(0:Int).toNat*_+0;simp)
   exact Zk ⟨rfl,hv⟩
  exact Zk ⟨rfl,hv⟩
 |rpt=>exact Zk ⟨rfl,hv⟩|rgl z=>exact Zk ⟨rfl,hv⟩|rgk b z=>exact Zk ⟨rfl,hv⟩
def Ee :∀(h:List Pl) (vs:As) (xs:Af) (b:Tau) (F:Ac) (s:SS) (a:Hp),VDL P U b F vs xs->SD P U b F s a->OKh P U (norm P U h vs) b F s a λd l n i=>i=a/\VDL P U l n d xs
 | [],[],xs,b,F,s,a,hv,e=>Zk ⟨rfl,hv⟩| [],v::vs,xs,b,F,s,a,hv,e=>Zi|p::h,[],xs,b,F,s,a,hv,e=>Zi|p::h,v::vs,xs,b,F,s,a,hv,e=>by obtain⟨y,A,rfl,r,u⟩:=hv.f;refine(yR p.g r e).f λG m o s1 j ex k ⟨D,q⟩=>(Ee h vs A m o s1 j (u.m ex.t ex.f) k).f λd B C s2 w c x ⟨E,z⟩=>Zk ⟨by grind,.g (q.mono c.t c.f) z⟩
def aU {b:Type}:Bb b->List b->List b
 |some a,l=>a::l|none,l=>l
def mtP (U:Ab):List Pl->As->M (Au×Ah)
 |p::l,v::vs=>d8 (mt1 U p.g p.a v) λr=>d8 (mtP U l vs) λt=>i6 (aU r.1 t.1,aU r.2 t.2)
 | [],[]=>i6 ([],[])|_,_=>c9 "loop: places"
def sos :List Pl->List So
 | []=>[]
 |p::l=>aU p.g.p<|sos l
def rbs :List Pl->Ah
 | []=>[]
 |p::l=>match p.g.j (.w 0)with
  |some q=>q.1::rbs l|none=>rbs l
def G.n {g:G}{d:E}{q:Nat×C8}(h:g.j d=some q)(a:E):∃X,g.j a=some (q.1,X):=by
 cases g with
 |rwk b e z ph=>simp only[G.j,WJ]at h;subst h;exact⟨_,rfl⟩|rgk b z=>simp only[G.j,WJ]at h;subst h;exact⟨_,rfl⟩|_=>cases h
variable (U) in
def eZ :List So->Au->Au->Prop
 |k::c,e::b,d::a=>qK U k e d/\eZ c b a| [],[],[]=>True|_,_,_=>False
variable (P U) in
def iC (d f:Tau)(F:Ac)(s:SS):List Pl->As->Au->Ah->Prop
 | [],[],e,bs=>e=[]/\bs=[]
 |p::l,v::vs,e,bs=>∃r c b,e=aU r.1 c/\bs=aU r.2 b/\MtOK P U d f F s p.g p.a v r/\iC d f F s l vs c b|_,_,_,_=>False
def Jp {τ:Tau}{F:Ac}(b:Tau):∀(e:List Pl) (vs:As) (s:SS),OKp U (mtP U e vs) s λr=>∀d,d.h=s.h->iC P U b τ F d e vs r.1 r.2
 | [],[],s=>Zq λ_ _=>⟨rfl,rfl⟩
 | [],_::_,s=>Zl|_::_,[],s=>Zl|p::e,v::vs,s=>by exact(Jo (P:=P) (Y:=τ) (F:=F) b p.g p.a v).f λr s1 j _ f=>(Jp (τ:=τ) (F:=F) b e vs s1).f λt s2 k _ i=>Zq λd c=>⟨r,t.1,t.2,rfl,rfl,f d c,i d<|by rw[c,j.h]⟩
section
variable {Z Y:Tau}{F:Ac}{s:SS}
def G.k {g:G}(h:g.m=0)(a:SV)(d:E):g.r a d=none:=by
 cases g with
 |acc e z=>cases h
 |itr s=>cases h
 |_=>rfl
def G.t (g:G):g.m=0\/g.m=1:=by cases g<;>simp[G.m]
theorem GM {p:Pl}{n:List Pl}{v:SV}{r:Bb E×Ai}{j:Au}{i:Au}(h:MtOK P U Z Y F s p.g p.a v r)(f:eZ U (sos<|p::n) (aU r.1 j) i):(∀e k,r.1=some e->p.g.p=some k->qK U k e (hd1 i))/\eZ U (sos n) j (pop p.g i)/\(∀b,r.2=some b->p.g.m=1)/\(p.g.m=0\/p.g.m=1):=by
 obtain⟨m1,o,t,u,w⟩:=h;have m:=p.g.t;refine⟨?_,?_,λb q=>?_,m⟩
 .intro e k l c;unfold sos at f;rw[c,l]at f;cases i with
  |nil=>exact f.elim|cons d i=>exact f.1
 .unfold sos at f;cases c:p.g.p with
  |none=>rw[c,o c]at f;unfold pop;rw[c];exact f|some k=>
   obtain⟨e,l⟩:=m1 k c;rw[c,l]at f;cases i with
   |nil=>exact f.elim|cons d i=>unfold pop;rw[c];exact f.2
 grind
def iC.g :∀ {f:List Pl} {vs:As} {g:Au} {bs:Ah} {e:Au} {xs:Af} {τ2:Tau} {nb:Nat},iC P U Z Y F s f vs g bs->eZ U (sos f) g e->(∀b p,Z b=some p->τ2 b=Y b)->(∀k b,bs[k]? =some b->τ2 (nb+k)=Y b)->(∀p∈f,∃B J,VD P U Z B p.a J)->VDL P U Y F vs xs-> ∀(i:Nat) q x,(eG f e nb)[i]? =some q->xs[i]? =some x->VD P U τ2 F q.2 x
 | [],vs,g,bs,e,xs,τ2,nb,h,w,o,c,n,A=>λi q x l _=>by simp[eG]at l
 |p::f,[],g,bs,e,xs,τ2,nb,h,w,o,c,n,A=>h.elim|p::f,v::vs,g,bs,e,xs,τ2,nb,h,w,o,c,n,A=>by
  obtain⟨r,D,C,rfl,rfl,t,z⟩:=h;obtain⟨y,R,rfl,G,H⟩:=A.f;let⟨s1,s2,N,I⟩:=GM t w;intro i q x l d;cases i with
  |zero=>simp only[eG,WZ,WJ]at l d;subst l;subst d;refine t.2.2.2.1 y G τ2 nb (hd1 e) o (n p<|by simp) s1 λb m=>?_;have:=c 0 b (by rw[m];rfl);grind
  |succ i=>refine iC.g z s2 o (λk b j=>?_) (λp M=>n p<|by grind) H i q x l d;obtain u|u:=I;rw[u,Yi];have m:=t.2.2.1 u;rw[m]at c;exact c k b j;let⟨O,_,K,L,Q,m,_⟩:=t.2.2.2.2.1 (by omega);rw[m]at c;have:=c (k+1) b j;grind
def iC.e :∀ {m:List Pl} {vs:As} {x:Au} {bs:Ah} {j:Au} {nb:Nat},iC P U Z Y F s m vs x bs->eZ U (sos m) x j-> ∀e y,lk (iM m j nb) e=some y->(∃k b X a,e=nb+k/\bs[k]? =some b/\y=some X/\s.f b=some a/\(∀(n:Tau) o z,BD P U Y F o a z->BD P U n F o X z)/\(H9 P U a->H9 P U X))\/(∃X a,e∈rbs m/\y=some X/\s.f e=some a/\(∀(n:Tau) o z,n e=Y e->BD P U Y F o a z->BD P U n F o X z)/\(H9 P U a->H9 P U X))
 | [],vs,x,bs,j,nb,h,I=>λe y c=>by simp[iM,lk]at c
 |p::m,[],x,bs,j,nb,h,I=>h.elim|p::m,v::vs,x,bs,j,nb,h,I=>by
  obtain⟨r,W,V,rfl,rfl,C,J⟩:=h;let⟨s1,s2,s3,s4⟩:=GM C I;intro e y c;have N:=iC.e (nb:=nb+p.g.m) J s2;have sub:∀b,b∈rbs m->b∈rbs (p::m):=λb hb=>by rw[rbs];grind
  by_cases d:p.g.m=0
  .have A:r.2=none:=C.2.2.1 d;cases f:p.g.j (hd1 j)with
   |none=>rw[iM] at c;rw[G.k d]at c;simp only[f]at c;obtain⟨k,b,X,a,t,u⟩| ⟨X,a,t,u⟩:=N e y c;exact Or.inl ⟨k,b,X,a,by rw[t,d,Yi],by rw[A];exact u⟩;grind
   |some q=>
    rw[iM] at c;rw[G.k d]at c;simp only[f]at c;rw[B3]at c;split at c
    .rename_i D;let⟨w,L,a,O,Q,k3⟩:=C.2.2.2.2.2 _ _ f;let⟨X,R,k5,k6⟩:=k3 (hd1 j)<|s1 L .l O w;rw[f]at R;simp only[WJ]at R;simp only[WJ]at c;have k7:q.2=X:=by rw[R]
     rw[k7]at c;subst D;refine .inr ⟨X,a,?_,c.symm,Q,k5,k6⟩;let⟨S,aa⟩:=G.n f<|.w 0;rw[rbs];grind
    obtain⟨k,b,X,a,t,u⟩| ⟨X,a,t,u⟩:=N e y c;exact Or.inl ⟨k,b,X,a,by rw[t,d,Yi],by rw[A];exact u⟩;grind
  .have K:p.g.m=1:=s4.resolve_left d;let⟨so,w,T,L,a,A,M,hx,H⟩:=C.2.2.2.2.1 d;let⟨S,hX,O,Q⟩:=H (hd1 j)<|s1 L so M w;have i:lk ((nb,some S)::iM m (pop p.g j) (nb+p.g.m)) e=some y:=by rw[iM] at c;grind
   rw[B3]at i;split at i;rename_i D;simp only[WJ]at i;exact .inl ⟨0,T,_,a,D.symm,by rw[A];rfl,i.symm,hx,O,Q⟩;obtain⟨k,b,X,B,t,u,h3⟩| ⟨X,B,t,u⟩:=N e y i;exact .inl ⟨k+1,b,X,B,by rw[t,K];omega,by rw[A];exact u,h3⟩;grind
def oZ {b:Nat}:∀ {d:List Pl} {ds:Au} {nb:Nat},b∈rbs d->b∈(iM d ds nb).map Prod.fst
 | [],ds,nb,h=>by simp[rbs]at h|p::d,ds,nb,h=>by
  rw[rbs] at h;cases c:p.g.j (.w 0)with
  |none=>rw[c]at h;have k:=oZ (ds:=pop p.g ds) (nb:=nb+p.g.m) h;rw[iM];grind|some q=>
   rw[c]at h;have i:p.g.r p.a (hd1 ds)=none:=by
    cases j:p.g with
    |rwk b e z ph=>rfl|rgk b z=>rfl|_=>rw[j]at c;cases c
   let⟨X,f⟩:=G.n c<|hd1 ds;rw[iM,i,f];simp only[XU,Xw]at h⊢;obtain h|h:=h;grind;exact .inr<|oZ (ds:=pop p.g ds) (nb:=nb+p.g.m) h
end
end
def AU :List (At×SV)->Fm
 | []=>[]
 | (p,v)::l=>match p with
  | .e t=>(t,v)::AU l| .d _ _=>AU l| .g=>AU l
def IW (b j:Nat):At->Bool
 | .e _=>false| .d a c=>Nat.beq b a&&Nat.beq j c| .g=>false
def rG :List (At×SV)->Nat->Nat->SV
 | [],_,_=>.r| (p,v)::l,b,j=>bif IW b j p then v else rG l b j
def G9 (pv:List (At×SV))(b:Nat):Nat->Nat->As
 |_,0=>[]
 |j,n+1=>rG pv b j::G9 pv b (j+1) n
def ovB (s1:SS)(pv:List (At×SV)):Ah->List (Nat×Bb C8)
 | []=>[]
 |b::l=>match s1.f b with
  |some (.f c e z)=>(b,some<|.f (G9 pv b 0 c.length) e z)::ovB s1 pv l|_=>ovB s1 pv l
def iE :Ah->List (Nat×Bb C8)
 | []=>[]
 |b::l=>(b,none)::iE l
def GN :List Pl->Nat
 | []=>0|p::l=>p.g.m+GN l
def iO (c:List Pl)(d:Au)(s1:SS)(a b:Ah):List (Nat×Bb C8):=iM c d s1.g++(ovB s1 (eG c d s1.g) a++iE (b++(a++(rbs c++ [s1.g]))))
def sT (c:List Pl)(d:Au)(s1:SS)(b a:Ah):SS:= {s1 with h:=iO c d s1 b a++s1.h,g:=s1.g+GN c}
def fT (c:List Pl)(a:Au)(s1:SS)(b:Fm):Fm:=AU (eG c a s1.g)++b
def O6 {a:Type}(l m:List (Nat×a))(b:Nat):lk (l++m) b=match lk l b with|some x=>some x|none=>lk m b:=by
 induction l with
 |nil=>rfl|cons p l c=>rw[Ye,B3,B3];grind
def DR {a:Type}{b:Nat}:∀ {l:List (Nat×a)},lk l b=none->b∉l.map Prod.fst
 | [],_=>by simp| (k,y)::l,h=>by rw[B3]at h;split at h;cases h;next e=>simp only[XU,Xw,not_or];exact⟨λh=>e h.symm,DR h⟩
def W0 {b:Nat}:∀ {l:Ah},lk (iE l) b=if b∈l then some none else none
 | []=>rfl|k::l=>by rw[iE,B3,W0];grind
def mT (pv:List (At×SV))(b:Nat):∀(n j:Nat),(G9 pv b j n).length=n
 |0,_=>rfl|n+1,j=>by simp[G9,mT pv b n]
def wT (pv:List (At×SV))(b:Nat):∀(n j i:Nat) (a:SV),(G9 pv b j n)[i]? =a->i<n/\a=rG pv b (j+i)
 |0,j,i,a,h=>by simp[G9]at h|n+1,j,0,a,h=>by simp only[G9,WZ,WJ]at h;exact⟨by omega,h.symm⟩|n+1,j,i+1,a,h=>by let⟨c,d⟩:=wT pv b n (j+1) i a h;grind
def tT {b j:Nat}:∀(pv:List (At×SV)),rG pv b j= .r\/ ∃(i:Nat) (q:At×SV),pv[i]? =q/\q.1= .d b j/\rG pv b j=q.2
 | []=>.inl rfl| (p,v)::l=>by
  rw[rG];cases a:IW b j p with
  |true=>
   refine .inr ⟨0,(p,v),rfl,?_,rfl⟩;cases p with
   |e t=>cases a
   |g=>cases a
   |d f g=>simp only[IW,WK,Xy]at a;grind
  |false=>obtain h| ⟨i,q,c,d,e⟩:=tT l;exact .inl h;exact .inr ⟨i+1,q,c,d,e⟩
def qP {k:Nat}{a:SV}:∀(pv:List (At×SV)),lk (AU pv) k=a-> ∃(i:Nat) (q:At×SV),pv[i]? =q/\q.1= .e k/\q.2=a
 | [],h=>by cases h
 | (p,v)::l,h=>by unfold AU at h;split at h;rename_i t;rw[B3]at h;split at h;rename_i e;simp at h;exact⟨0,(.e t,v),rfl,by rw[e],h⟩;let⟨i,q,b,c⟩:=qP l h;exact⟨i+1,q,b,c⟩;let⟨i,q,b,c⟩:=qP l h;exact⟨i+1,q,b,c⟩;let⟨i,q,b,c⟩:=qP l h;exact⟨i+1,q,b,c⟩
def lZ {k:Nat}:∀(pv:List (At×SV)),lk (AU pv) k=none-> ∀q∈pv,q.1≠ .e k
 | [],_=>λq a=>by grind
 | (p,v)::l,h=>by unfold AU at h;intro q a b;split at h;rename_i t;rw[B3]at h;split at h;cases h;rename_i e;obtain rfl|a:=Xw.1 a;grind;exact lZ l h q a b;obtain rfl|a:=Xw.1 a;grind;exact lZ l h q a b;obtain rfl|a:=Xw.1 a;grind;exact lZ l h q a b
def Dt :∀(a:List Pl) (b:Au) (c i:Nat) (q:At×SV),(eG a b c)[i]? =q-> ∃p,a[i]? =some p/\q.1=p.d
 | [],b,c,i,q,h=>by simp[eG]at h|p::a,b,c,0,q,h=>by simp only[eG,WZ,WJ]at h;exact⟨p,rfl,by grind⟩|p::a,b,c,i+1,q,h=>by exact Dt a _ _ i q h
def Gc :∀(a:List Pl) (b:Au) (c:Nat) (p:Pl),p∈a-> ∃q∈eG a b c,q.1=p.d
 | [],_,_,p,h=>by grind|d::a,b,c,p,h=>by obtain rfl|h:=Xw.1 h;exact⟨_,by simp[eG];exact .inl rfl,rfl⟩;let⟨q,e,f⟩:=Gc a (pop d.g b) (c+d.g.m) p h;exact⟨q,by simp[eG,e],f⟩
def JA {s1:SS}{pv:List (At×SV)}{b:Nat}:∀ {l:Ah},(∀b∈l,∃c e z,s1.f b=some (.f c e z))-> ∀y,lk (ovB s1 pv l) b=y->(b∈l/\ ∃c e z,s1.f b=some (.f c e z)/\y=some (some<|.f (G9 pv b 0 c.length) e z))\/(b∉l/\y=none)
 | [],_,y,h=>.inr ⟨by simp,h.symm⟩|a::l,f,y,h=>by let⟨c,e,z,d⟩:=f a (by simp);rw[ovB] at h;rw[d,B3]at h;by_cases g:a=b;grind;rw[Xd g]at h;obtain⟨i,j⟩| ⟨i,j⟩:=JA (λb d=>f b<|by grind) y h;grind;grind
section
variable {P :Aw}{U:Ab}
def PX (f:Tau)(d:Ao)(c:Hp):At->Av->Prop
 | .e t,x=>x=(d.l t).getD undef| .d b j,x=>∃i o a n e z,f b=some (some (i,o))/\c.m.l i=some (.cells a n e z)/\a.l (o+j)=some x| .g,_=>True
def iC.d {j u:Tau}{F:Ac}{s:SS}:∀ {i:List Pl} {vs:As} {c:Au} {bs:Ah},iC P U j u F s i vs c bs-> ∀ {k b:Nat},bs[k]? =some b-> ∃x,s.f b=some x
 | [],[],c,bs,h,k,b,a=>by rw[h.2]at a;simp at a| [],_::_,c,bs,h,k,b,a=>h.elim|p::i,[],c,bs,h,k,b,a=>h.elim|p::i,v::vs,c,bs,h,k,b,a=>by
  obtain⟨r,o,n,rfl,rfl,l,d⟩:=h;cases e:r.2 with
  |none=>rw[e]at a;exact d.d a|some m=>
   rw[e]at a;cases k with
   |succ k=>exact d.d a|zero=>
    have f:p.g.m≠0:=λq=>by rw[l.2.2.1 q]at e;cases e
    let⟨A,_,w,L,B,t,_,z,_⟩:=l.2.2.2.2.1 f;rw[e]at t;have y:m=b:=by simpa [aU]using a
    grind
variable (P U) in
structure Di (τ1:Tau)(F1:Ac)(s1:SS)(hp1:Hp)(f0:Fm)(tm1:Ao)(ps:List Pl)(bs0 kill:Ah)(τ:Tau)(F:Ac)(s:SS)(hp:Hp)(f:Fm)(tm:Ao)(vs:As)(es:Au)(bs:Ah)(xs:Af):Prop where
 d:SD P U τ1 F1 s1 hp1
 q:TD P U τ1 F1 f0 tm1
 m:SD P U τ F s hp
 ht:TD P U τ F f tm
 g:Ext τ1 F1 s1 hp1 τ F s hp
 r:iC P U τ1 τ F s ps vs es bs
 vx:VDL P U τ F vs xs
 N:∀(i:Nat) p x,ps[i]? =some p->xs[i]? =some x->PX τ tm hp p.d x
 A:xs.length=ps.length
 pa:∀p∈ps,∃F0 x0,VD P U τ1 F0 p.a x0
 y:∀t,(∀p∈ps,p.d≠ .e t)->lk f t=lk f0 t
 ky:∀l,s.h=l++s1.h-> ∀b∈l.map Prod.fst,b<s1.g->b∈bs0\/b∈kill\/b∈rbs ps
 D:∀b∈rbs ps,b∉bs0/\b∉kill/\b<s1.g
 n:∀b∈bs0,b∉kill/\ ∃l l' e z,s1.f b=some (.f l e z)/\s.f b=some (.f l' e z)/\l'.length=l.length
 B:∀(k k':Nat) b,bs[k]? =some b->bs[k']? =some b->k=k'
 u:∀b∈bs,b∉bs0/\(s1.g<=b\/b∈kill)
 C:bs.length=GN ps
variable {W :Tau}{F1:Ac}{s1:SS}{Q:Hp}{f0:Fm}{tm1:Ao}{V:List Pl}{Y Z:Ah}{S:Tau}{F:Ac}{s:SS}{R:Hp}{f:Fm}{tm:Ao}{vs:As}{es:Au}{bs:Ah}{xs:Af}
def V1 (W S:Tau)(n:Nat)(bs:Ah):Tau:=λb=>if b<n then W b else match bs[b-n]? with|some a=>S a|none=>none
def gP {n b:Nat}(h:b<n):V1 W S n bs b=W b:=by rw[V1,Xg h]
def lV {n k b:Nat}(h:bs[k]? =b):V1 W S n bs (n+k)=S b:=by rw[V1,af,Yp,h]
def Di.j (h:Di P U W F1 s1 Q f0 tm1 V Y Z S F s R f tm vs es bs xs){B:Au}(hd:eZ U (sos V) es B):SD P U (V1 W S s1.g bs) F (sT V B s1 Y Z) R/\TD P U (V1 W S s1.g bs) F (fT V B s1 f0) tm/\Ext W F1 s1 Q (V1 W S s1.g bs) F (sT V B s1 Y Z) R:=by
 let⟨l0,a1,a2,a3,a4,_⟩:=h.g.B;have an:=h.ky l0 a1;have O:∀b p,W b=some p->b<s1.g:=λb p g=>Nat.lt_of_not_le λao=>by rw[h.d.g b ao]at g;cases g
 have hk:∀b p,W b=some p->V1 W S s1.g bs b=S b:=λb p g=>by rw[gP<|O b p g,h.g.A b<|O b p g]
 have lo:∀b,b<s1.g->V1 W S s1.g bs b=S b:=λb g=>by rw[gP g,h.g.A b g]
 have ah:=h.r.e (nb:=s1.g) hd;have ad:Tle W (V1 W S s1.g bs):=λb p g=>by rw[gP<|O b p g];exact g
 have au:∀(i:Nat) q,(eG V B s1.g)[i]? =some q-> ∃x,PX S tm R q.1 x/\VD P U (V1 W S s1.g bs) F q.2 x:=by
  intro i q hq;let⟨p,t,m⟩:=Dt _ _ _ _ _ hq;have hi:i<xs.length:=by rw[h.A];exact(WM.1 t).1
  have hx:=WV hi;exact⟨_,by rw[m];exact h.N i p _ t hx,(h.r.g hd hk (λk b g=>lV (n:=s1.g) g) h.pa h.vx) i q _ hq hx⟩
 have keep:∀b,b<s1.g->b∉Y->b∉Z->b∉rbs V->s.f b=s1.f b:=λb g t m ae=>by unfold SS.f;rw[a1,vJ _ _ λhm=>?_];grind
 have am:∀b∈Y,∃c e z,s1.f b=some (.f c e z):=λb g=>by let⟨_,l,_,e,z,t,_⟩:=h.n b g;grind
 have K:∀b x,(sT V B s1 Y Z).f b=some x->
   (∃k v C,b=s1.g+k/\bs[k]? =some v/\s.f v=some C/\(∀(ac:Tau) o z,BD P U S F o C z->BD P U ac F o x z)/\(H9 P U C->H9 P U x))\/
   (b<s1.g/\b∉Z/\b∈Y/\ ∃c e z,s1.f b=some (.f c e z)/\x= .f (G9 (eG V B s1.g) b 0 c.length) e z)\/
   (b<s1.g/\b∉Z/\b∉Y/\b∉rbs V/\s1.f b=some x)\/
   (b<s1.g/\b∉Z/\b∈rbs V/\ ∃C,s.f b=some C/\(∀(ac:Tau) o z,ac b=S b->BD P U S F o C z->BD P U ac F o x z)/\(H9 P U C->H9 P U x)):=by
  intro b x g;have u:(match lk (iO V B s1 Y Z++s1.h) b with|some x=>x|none=>none)=some x:=g;rw[O6,iO,O6,O6]at u;cases c1:lk (iM V B s1.g) b with
  |some y=>rw[c1]at u;simp only at u;obtain⟨k,v,X,C,t,m,A,h4,h5,h6⟩| ⟨X,C,t,A,h4,h5,h6⟩:=ah b y c1;grind;rw[A]at u;simp only[WJ]at u;subst u;let⟨_,g2,g3⟩:=h.D b t;grind
  |none=>
   rw[c1]at u;simp only at u;obtain⟨t,c,e,z,m,A⟩| ⟨t,A⟩:=JA (s1:=s1) (pv:=eG V B s1.g) (b:=b) am _ rfl;rw[A]at u;simp only[WJ]at u;exact .inr<|.inl ⟨h.d.w m,(h.n b t).1,t,c,e,z,m,u.symm⟩
   .rw[A,W0]at u;by_cases ai:b∈Z++(Y++(rbs V++ [s1.g]))
    rw[Xg ai]at u;cases u;rw[Xd ai]at u;have ak:s1.f b=some x:=u;exact .inr<|.inr<|.inl ⟨h.d.w ak,λh=>ai<|YK _ h,t,λh=>DR c1<|oZ h,ak⟩
 have keyB:∀b∈Y,b∈(iO V B s1 Y Z).map Prod.fst:=λb g=>by obtain⟨_,c,e,z,_,A⟩| ⟨t,_⟩:=JA (s1:=s1) (pv:=eG V B s1.g) (b:=b) am _ rfl;simp only[iO,XJ,Xv];exact .inr<|.inl<|Yw.2 ⟨_,bX A,rfl⟩;grind
 have aq:∀b∈Z,b∈(iO V B s1 Y Z).map Prod.fst:=λb g=>by simp only[iO,XJ,Xv];refine .inr<|.inr<|Yw.2 ⟨(b,none),bX ?_,rfl⟩;rw[W0,Xg<|YK _ g]
 have mark:(s1.g,none)∈iO V B s1 Y Z:=by rw[iO];refine Yy _<|Yy _<|bX ?_;rw[W0,Xg<|Yy _<|by simp]
 have I:∀b∈l0.map Prod.fst,b<s1.g->b∈(iO V B s1 Y Z).map Prod.fst:=λb g d=>by obtain t|t|t:=an b g d;grind;grind;simp only[iO,XJ,Xv];exact .inl<|oZ t
 have T:∀k v,bs[k]? =some v->(if s1.g+k<s1.g then s1.g+k else bs.getD (s1.g+k-s1.g) 0)=v:=λk v g=>by rw[af,Yp,List.getD,g];rfl
 refine⟨h.m.d (λb=>if b<s1.g then b else bs.getD (b-s1.g) 0) (λb x g=>?_) (λb c x y g hc ap=>?_) (λb i o g=>?_) (λb g=>?_) h.d.I<|λr hr=>(h.d.N r hr).f ad h.g.f,λk a H=>?_,?_⟩
 .rcases K b x g with⟨k,v,C,rfl,m,A,h4,h5⟩| ⟨d,G,M,c,e,z,m,rfl⟩| ⟨d,G,M,ay,m⟩| ⟨d,G,_,C,A,h4,h5⟩;simp only[T k v m];exact⟨C,A,lV m,λi o y _ _ aa=>h4 _ o y aa,h5⟩
  .simp only[Xg d];let⟨_,l,l',e',z',k1,k2,k3⟩:=h.n b M;rw[m]at k1;simp only[WJ,C8.f.injEq]at k1;obtain⟨rfl,rfl,rfl⟩:=k1;refine⟨_,k2,lo b d,λi o y w hy ⟨cs,n,e1,e2,e3⟩=>?_,λ⟨L,e,z,ph,h,_⟩=>by cases h⟩;refine⟨cs,n,e1,by rw[mT,<-k3];exact e2,λj a ha=>?_⟩;obtain⟨hj,rfl⟩:=wT _ _ _ _ _ _ ha;rw[Xq];have aw:j<l'.length:=by omega
   let⟨x,hx,_⟩:=e3 j _<|WV aw;rcases tT (b:=b) (j:=j) (eG V B s1.g)with t| ⟨i',q,q1,q2,q3⟩;exact⟨x,hx,by rw[t];exact .any x⟩;let⟨x2,px,hv⟩:=au i' q q1;rw[q2]at px;let⟨i2,o2,az,n2,ba,z2,p1,p2,p3⟩:=px;rw[w]at p1;cases p1;rw[hy,e1]at p2;simp only[WJ,Blk.cells.injEq]at p2;obtain⟨rfl,_⟩:=p2;exact⟨x2,p3,by rw[q3];exact hv⟩
  simp only[Xg d];refine⟨x,by rw[keep b d M G ay];exact m,lo b d,λi o y w hy aa=>?_,id⟩;obtain⟨i1,o1,y1,g1,_,_,g4⟩| ⟨g1,_⟩:=h.d.f b x m;exact g4.d aa hk;rw[h.g.A b d,g1]at w;cases w;simp only[Xg d];exact⟨C,A,lo b d,λi o y _ _ aa=>h4 _ o y (lo b d) aa,h5⟩
 .have hi:∀(b:Nat) (x:C8) (k v:Nat),(sT V B s1 Y Z).f b=some x->b<s1.g->bs[k]? =some v->b≠v:=λb x k v g d ax e=>by subst e;let⟨f1,f2⟩:=h.u b<|WT ax;obtain⟨k',v,C,rfl,_⟩| ⟨_,G,_⟩| ⟨_,G,_⟩| ⟨_,G,_⟩:=K b x g;omega;obtain t|t:=f2;omega;exact G t;obtain t|t:=f2;omega;exact G t;obtain t|t:=f2;omega;exact G t
  by_cases N:b<s1.g;by_cases D:c<s1.g;simp only[Xg N,Xg D];exact ap;obtain⟨k,v,C,rfl,m,_⟩| ⟨d,_⟩| ⟨d,_⟩| ⟨d,_⟩:=K c y hc;simp only[T k v m,Xg N];exact hi b x k v g N m;omega;exact absurd d D;exact absurd d D;obtain⟨k,v,C,rfl,m,_⟩| ⟨d,_⟩| ⟨d,_⟩| ⟨d,_⟩:=K b x g;by_cases D:c<s1.g;simp only[T k v m,Xg D];exact(hi c y k v hc D m).symm;obtain⟨k',av,C,rfl,ae,_⟩| ⟨d,_⟩| ⟨d,_⟩| ⟨d,_⟩:=K c y hc;simp only[T k v m,T k' av ae];intro e;subst e;exact ap (by rw[h.B k k' v m ae]);exact absurd d D;exact absurd d D;exact absurd d D;exact absurd d N;exact absurd d N;exact absurd d N
 by_cases d:b<s1.g;rw[lo b d]at g;exact h.m.C b i o g;rw[V1] at g;rw[Xd d]at g;split at g;exact h.m.C _ i o g;cases g;have ao : s1.g + GN V ≤ b := g;rw[V1,af,YT<|by rw[h.C];omega]
 .unfold fT at H;rw[O6]at H;cases c1:lk (AU<|eG V B s1.g) k with
  |some y=>rw[c1]at H;simp only[WJ]at H;subst H;let⟨i,q,t,m,A⟩:=qP _ c1;let⟨x,px,hv⟩:=au i q t;rw[m]at px;rw[<-A,<-show x=(tm.l k).getD undef from px];exact hv
  |none=>
   rw[c1]at H;have:lk f k=lk f0 k:=h.y k λp R e=>by let⟨q,q1,q2⟩:=Gc V B s1.g p R;exact (lZ _ c1) q q1 (by rw[q2,e])
   exact(h.q k a H).re (h.ht k a<|by rw[this];exact H) hk
 .refine⟨ad,h.g.f,h.g.q,Nat.le_add_right _ _,λb g=>gP g,λb x g d=>?_,⟨iO V B s1 Y Z,rfl,λi hi ab=>?_,λb i o g w=>?_,λi y hi hy=>?_,λR=>absurd rfl<|R (s1.g,none) mark⟩,⟨[],rfl⟩,⟨iO V B s1 Y Z,rfl,λb c e z i o cs n g ht hi hg hl=>⟨cs,?_,λ_ _=>rfl⟩⟩⟩
  rotate_right
  .rw[a2 i hi λJ x o' t m A=>?_];exact hg
   .by_cases al:J=b
    .subst al;have ab:(J,none)∈iO V B s1 Y Z:=by rw[iO];refine Yy _<|Yy _<|bX ?_;rw[W0,Xg ?_];simp only[Xv];rcases an J A (h.d.w t)with q|q|q;exact .inr<|.inl q;exact .inl q;exact .inr (.inr<|.inl q)
     let⟨_,q,_⟩:=hl none ab;cases q
    exact h.d.A J b x _ i o' i o t g al m ht rfl
  obtain⟨k,v,C,rfl,_⟩| ⟨_,_,_,c,e,z,m,_⟩| ⟨_,_,_,_,m⟩| ⟨_,_,_,C,m,_⟩:=K b x g;omega;exact⟨_,m⟩;exact⟨_,m⟩;exact h.g.w b C m d;exact a2 i hi λb x o g w hm=>ab b x o g w<|I b hm<|h.d.w g
  .unfold V1 at w;rw[af]at w;split at w
   .rename_i J u;rcases(h.u J<|WT u).2 with t|t;obtain m| ⟨v,x,o0,m,A,h4⟩:=a3 J i o t w;exact .inl m;exact .inr ⟨v,x,o0,m,A,I v h4<|h.d.w m⟩
    .by_cases d:J<s1.g
     .have hg:∃x,s.f J=some x:=by exact h.r.d u
      let⟨x,hx⟩:=hg;let⟨y,hy⟩:=h.g.w J x hx d;rw[h.g.A J d]at w;exact .inr ⟨J,y,o,hy,w,aq J t⟩
     obtain m| ⟨v,x,o0,m,A,h4⟩:=a3 J i o (Yt d) w;exact .inl m;exact .inr ⟨v,x,o0,m,A,I v h4<|h.d.w m⟩
   cases w
  obtain t| ⟨b,o,t,m⟩:=a4 i y hi hy;exact .inl t;by_cases d:b<s1.g;exact .inr ⟨b,o,by rw[lo b d];exact t,I b m d⟩;obtain A| ⟨v,x,o0,A,h4,h5⟩:=a3 b i o (Yt d) t;omega;have M:=h.d.w A;exact .inr ⟨v,o0,by rw[gP M];exact h4,I v h5 M⟩
end
structure H6 where
 d:String
 e:Code->Fm->SS->Bb (List (At×G)×Ah)
 g:Ar->Prop
 h:Ar->Nat
 j:List (So×E):=[]
def Le (U:Ab)(k:So)(e:E):Dat:=match k with
 | .i=>.i<|e.j U| .b=>.b (e.A U).f| .s=>.s (e.A U).g| .l=>.l<|e.z U
def u9 (U:Ab):List So->Au->Ar
 |k::b,e::a=>Le U k e::u9 U b a|_,_=>[]
def FR {a:Type}:List So->Nat->(Au->Tr a)->Tr a
 | [],_,k=>k []|c::l,n,k=>.A c n λe=>FR l (n+1) λb=>k<|e::b
def G2 (U:Ab):List So->Nat->Au->Au
 |k::b,n,e::a=>.B n (Le U k e)::G2 U b (n+1) a|_,_,_=>[]
def atv (f:Fm)(s:SS):At->Bb SV
 | .e t=>match lk f t with
  |some v=>some v|none=>some .r
 | .d b j=>match s.f b with
  |some (.f l _ _)=>l[j]?|_=>none
 | .g=>some .r
def cU (f:Fm)(s:SS):List (At×G)->Bb (As)
 | []=>some []|p::l=>match atv f s p.1 with
  |some v=>match cU f s l with
   |some vs=>some<|v::vs|none=>none
  |none=>none
def pls :List (At×G)->As->List Pl
 |p::l,v::vs=>⟨p.1,p.2,v⟩::pls l vs|_,_=>[]
def UO (t:Nat):At->Bool
 | .e a=>Nat.beq t a| .d _ _=>false| .g=>false
def eJ :Ah->Bool
 | []=>true|b::l=> !Z5 b l&&eJ l
def bK (s1 s:SS)(b:Nat):Bool:=match s1.f b with
 |some (.f l e z)=>match s.f b with
  |some (.f c a d)=>Nat.beq e a&&Nat.beq z d&&Nat.beq l.length c.length|_=>false
 |_=>false
def Gp (n:Nat)(f:Fm):Ah:=match n,f with
 |n+1,(k,_)::f=>k::Gp n f|_,_=>[]
section
variable (P :Aw)(U:Ab)
def mdone {c:Type}(a b:Lab)(p q:Prop):M c:=λ_=>.r a p<|.r b q .w
def Ro (f:H6)(pg:List (At×G))(a:List Pl)(d c:Ah)(s1:SS)(j:Fm)(g:Au)(r:Exit×Fm):M (Exit×Fm):=match r.1 with
 | .normal=>
  bif (Gp (r.2.length-(fT a g s1 j).length) r.2).all (λt=>pg.any<|λp=>UO t p.1)then
   z7 λs=>match cU r.2 s pg with
   |none=>c9 "loop: a place is gone"|some i=>d8 (norm P U a i) λvs=>d8 (mtP U a vs) λt=>z7 λs2=>
    bif (bA (s2.h.length-(sT a g s1 d c).h.length) s2.h).all (λb=>Nat.ble s1.g b||Z5 b d||Z5 b c||Z5 b (rbs a))&&d.all (bK s1 s2)&&eJ t.2&&
      t.2.all (λb=> !Z5 b d&&(Nat.ble s1.g b||Z5 b c))&&Nat.beq t.2.length (GN a)then
     mdone (.f (f.d++ "Inv") [f.j,(sos a).zip t.1]) (.g (f.d++ "Mu") f.j ((sos a).zip t.1)<|(sos a).zip g) (f.g<|u9 U (sos a) t.1) (f.h (u9 U (sos a) t.1)<f.h (u9 U (sos a) g))
    else c9 "loop: the head"
  else c9 "loop: a temporary"
 |e=>i6 (e,r.2)
def fvb (s:SS)(n:Nat):SS:= {s with m:=s.m+n}
def shead (c:H6)(pg:List (At×G))(a:List Pl)(d:Ah)(f:Au)(b:Ah)(body:Fm->M (Exit×Fm))(g:Fm):M (Exit×Fm):=λs=>
 .r (.f (c.d++ "Inv") [c.j,(sos a).zip f]) (c.g<|u9 U (sos a) f) (FR (sos a) s.m λe=>.z (.f (c.d++ "Inv") [c.j,(sos a).zip e]) (c.g<|u9 U (sos a) e)
  (d8 (body<|fT a e (fvb s (sos a).length) g) (Ro P U c pg a d b (fvb s (sos a).length) g e)<|sT a e (fvb s (sos a).length) d b))
def Rq (e:H6)(b:Code)(body:Fm->M (Exit×Fm))(d:Fm):M (Exit×Fm):=z7 λf=>match e.e b d f with
 |none=>c9 "loop: places"|some (pg,c)=>match cU d f pg with
  |none=>c9 "loop: no such place"|some a=>d8 (norm P U (pls pg a) a) λvs=>d8 (mtP U (pls pg a) vs) λt=>z7 λs1=>
   bif c.all (bK s1 s1)&&eJ t.2&&t.2.all (λb=> !Z5 b c)&&Nat.beq t.2.length (GN<|pls pg a)&&(rbs<|pls pg a).all (λb=> !Z5 b c&& !Z5 b t.2&&Nat.ble (b+1) s1.g)then
    shead P U e pg (pls pg a) c t.1 t.2 body d
   else c9 "loop: the start"
end
section
variable {P :Aw}{U:Ab}{W:Aa}{V:Nat}
def kT {f:Type}{Q:f->Prop}:∀(l:List So) (n:Nat) (k:Au->Tr f),(FR l n k).q U Q-> ∀a:Au,a.length=l.length->(k<|G2 U l n a).q U Q
 | [],n,k,h,a,g=>by
  cases a with
  |nil=>exact h|cons e a=>grind
 |d::l,n,k,h,a,g=>by
  cases a with
  |nil=>grind|cons e a=>
   have c:(FR l (n+1) λa=>k<|.B n (Le U d e)::a).q U Q:=by cases d;exact h<|e.j U;exact h (e.A U).f;exact h (e.A U).g;exact h<|e.z U
   exact kT l (n+1) _ c a (by grind)
def M2 :∀(l:List So) (n:Nat) (a:Au),a.length=l.length->eZ U l a (G2 U l n a)
 | [],n,[],h=>trivial| [],n,e::a,h=>by grind|k::l,n,[],h=>by grind|k::l,n,e::a,h=>⟨by cases k<;>rfl,M2 l (n+1) a<|by grind⟩
def M7 :∀(l:List So) (n:Nat) (a:Au),a.length=l.length->u9 U l (G2 U l n a)=u9 U l a
 | [],n,[],h=>rfl| [],n,e::a,h=>rfl|k::l,n,[],h=>rfl|k::l,n,e::a,h=>by rw[G2,u9,M7 l (n+1) a<|by grind];cases k<;>rfl
def Eb {f o:Tau}{F:Ac}{s:SS}:∀ {c:List Pl} {vs:As} {a:Au} {bs:Ah},iC P U f o F s c vs a bs->a.length=(sos c).length
 | [],[],a,bs,h=>by rw[h.1];rfl| [],_::_,a,bs,h=>h.elim|p::c,[],a,bs,h=>h.elim|p::c,v::vs,a,bs,h=>by
  obtain⟨r,l,k,rfl,rfl,i,d⟩:=h;have j:=Eb d;rw[sos];cases b:p.g.p with
  |none=>rw[i.2.1 b];exact j|some n=>let⟨e,m⟩:=i.1 n b;rw[m];simp only[aU,XD,j]
def jK {b:Nat}:∀ {l:Ah},Z5 b l->b∈l
 | [],h=>by cases h
 |k::l,h=>by rw[Z5] at h;by_cases e:b=k;grind;rw[B0 e,Xb]at h;exact Yb _<|jK h
def eK :∀ {l:Ah},eJ l-> ∀(k a:Nat) b,l[k]? =some b->l[a]? =some b->k=a
 | [],_,k,a,b,h,_=>by grind|c::l,d,k,a,b,h,e=>by
  rw[eJ] at d;rw[WK,XI]at d;have f:=Z6 d.1;cases k with
  |zero=>grind|succ k=>
   cases a with
   |zero=>grind|succ a=>rw[eK d.2 k a b h e]
def qJ {s1 s:SS}{b:Nat}(h:bK s1 s b):∃l a e z,s1.f b=some (.f l e z)/\s.f b=some (.f a e z)/\a.length=l.length:=by rw[bK] at h;split at h;rename_i l e z d;split at h;rename_i a c g f;simp at h;grind;cases h;cases h
def BT {b:Nat}:∀(a:List Pl) (d:Au) (c:Nat),b∈(iM a d c).map Prod.fst->c<=b\/b∈rbs a
 | [],d,c,h=>by simp[iM]at h|p::a,d,c,h=>by
  have sub:∀b,b∈rbs a->b∈rbs (p::a):=λb i=>by rw[rbs];grind
  have j:b∈(iM a (pop p.g d)<|c+p.g.m).map Prod.fst->c<=b\/b∈rbs (p::a):=λh=>by obtain h|h:=BT a _ _ h;grind;grind
  rw[iM] at h;split at h;grind;split at h;rename_i q e;simp at h;obtain rfl|h:=h;let⟨X,f⟩:=G.n e<|.w 0;rw[rbs];grind;grind;grind
def yT {s1:SS}{pv:List (At×SV)}{b:Nat}:∀(l:Ah),b∈(ovB s1 pv l).map Prod.fst->b∈l
 | [],h=>by simp[ovB]at h|c::l,h=>by rw[ovB] at h;split at h;simp only[XU,Xw]at h;obtain rfl|h:=h;simp;exact Yb _<|yT l h;exact Yb _<|yT l h
def xT {b:Nat}:∀(l:Ah),b∈(iE l).map Prod.fst->b∈l
 | [],h=>by simp[iE]at h|c::l,h=>by simp only[iE,XU,Xw]at h;obtain rfl|h:=h;simp;exact Yb _<|xT l h
def LI :∀ {pg:List (At×G)} {vs:As} {i:Nat} {p:Pl},(pls pg vs)[i]? =p-> ∃q v,pg[i]? =some q/\vs[i]? =some v/\p.d=q.1/\p.a=v
 | [],vs,i,p,h=>by simp[pls]at h|q::l,[],i,p,h=>by simp[pls]at h|q::l,v::vs,0,p,h=>by simp only[pls,WZ,WJ]at h;exact(by grind)|q::l,v::vs,i+1,p,h=>by let⟨e,f,b,c,d⟩:=LI (i:=i) h;grind
def QC :∀ {pg:List (At×G)} {vs:As},pg.length=vs.length->(pls pg vs).map Pl.d=pg.map Prod.fst
 | [],[],_=>rfl| [],_::_,h=>rfl|_::_,[],h=>by grind|q::l,v::vs,h=>by simp only[pls,XU];rw[QC<|by grind]
variable {Z:Hp}{Y:Ao}
def Vk {a:Tau}{F:Ac}{s:SS}{f:Fm}(r:TD P U a F f Y)(q:SD P U a F s Z){p:At}{v:SV}(h:atv f s p=v):∃x,VD P U a F v x/\PX a Y Z p x:=by
 cases p with
 |e t=>simp only[atv]at h;split at h;rename_i w hv;simp at h;subst h;exact⟨_,r t w hv,rfl⟩;simp at h;subst h;exact⟨_,.any _,rfl⟩|d b j=>simp only[atv]at h;split at h;rename_i l e z m;obtain⟨i,o,y,g,c,B,d,n,rfl,C,k⟩| ⟨_,L,A,D,ph,c,_⟩:=q.f b _ m;let⟨x,u,hv⟩:=k j v h;exact⟨x,hv,i,o,d,n,e,z,g,c,u⟩;grind;cases h
 |g=>simp only[atv,WJ]at h;subst h;exact⟨undef,.any _,trivial⟩
def nJ {a:Tau}{F:Ac}{s:SS}{Z:Hp}{f:Fm}{Y:Ao}(d:TD P U a F f Y)(c:SD P U a F s Z):∀ {pg:List (At×G)} {vs:As},cU f s pg=vs->pg.length=vs.length/\ ∃xs,VDL P U a F vs xs/\ ∀(i:Nat) q x,pg[i]? =some q->xs[i]? =some x->PX a Y Z q.1 x
 | [],vs,h=>by simp only[cU,WJ]at h;subst h;exact⟨rfl,[],.q,λi q x h=>by grind⟩|p::l,vs,h=>by rw[cU] at h;split at h;rename_i v hv;split at h;rename_i j b;cases h;let⟨x,e,k⟩:=Vk d c hv;let⟨m,xs,g,n⟩:=nJ d c b;refine⟨by grind,x::xs,.g e g,λi q y o r=>?_⟩;grind;cases h;cases h
def PX.d {c a:Tau}{p:At}{x:Av}(k:Tle c a)(h:PX c Y Z p x):PX a Y Z p x:=by
 cases p with
 |e t=>exact h|d b j=>let⟨i,o,d,n,e,z,f,g⟩:=h;exact⟨i,o,d,n,e,z,k _ _ f,g⟩
 |g=>trivial
def MR (l f:Fm):Gp l.length (l++f)=l.map Prod.fst:=by
 induction l with
 |nil=>cases f<;>rfl
 |cons a l b=>simp only[XD,Ye,Gp,XU,b]
variable {U :Ai}
variable {X:Ao}
theorem XC.e {b:Code}{d:Ao}{a c:Hp}{e:Exit}(j:XC P W U V b Y Z .normal d a)(k:XC P W U V (.loop b) d a e X c)(f:Z.d<=a.d)(g:a.d<=c.d)(l:∀r,r<a.d->a.m.l r=some .dfr->c.m.l r=some .dfr):XC P W U V (.loop b) Y Z e X c:=
 j.g k f g l λn m p h i o q=>by simp only[t9,o];grind
theorem XC.h {b:Code}{a:Hp}{e:Exit}(d:XC P W U V b Y Z e X a)(g:e≠ .normal):XC P W U V (.loop b) Y Z e X a:=
 d.b λn m h c f=>by simp only[t9,f];grind
end
section
variable {P :Aw}{U:Ab}{L:Aa}{K:Nat}{J:Ai}
variable {b :Code}{body:Fm->M (Exit×Fm)}{I:H6}{pg:List (At×G)}{Y:List Pl}{X Z:Ah}{s1:SS}{S:Fm}{H:Ao}{W:Tau}{R:Ac}{V:Hp}{O:Nat}{Q:(Exit×Fm)×SS->Prop}
variable (P U L) in
def Ou (J:Ai)(K:Nat)(b:Code)(W:Tau)(R:Ac)(s1:SS)(V:Hp)(S:Fm)(Q:(Exit×Fm)×SS->Prop)(i:Ao)(e:Hp):Prop:=
 ∃ex g h,Q ((ex,g),h)/\ ∃c f a,Ext W R s1 V c f h a/\SD P U c f h a/\ ∃d,XC P L J K (.loop b) i e ex d a/\TD P U c f g d/\(∃pre,g=pre++S)/\e.d<=a.d/\ ∀r,r<e.d->e.m.l r=some .dfr->a.m.l r=some .dfr
def Gu (u:∀A,iP P U L J K (body A) b A)(ay:SD P U W R s1 V)(az:TD P U W R S H)(ab:Y.map Pl.d=pg.map Prod.fst)(pa:∀p∈Y,∃F0 x0,VD P U W F0 p.a x0)(al:∀c∈X,c∉Z)(ax:∀c∈rbs Y,c∉X/\c∉Z/\c<s1.g)(hB:∀m:Au,m.length=(sos Y).length->I.g (u9 U (sos Y) m)->(d8 (body<|fT Y (G2 U (sos Y) O m) s1 S) (Ro P U I pg Y X Z s1 S<|G2 U (sos Y) O m)<|sT Y (G2 U (sos Y) O m) s1 X Z).q U Q):∀(N:Nat) (m:Au),I.h (u9 U (sos Y) m)<N->m.length=(sos Y).length->I.g (u9 U (sos Y) m)-> ∀(τ:Tau) (F:Ac) (hp:Hp) (tm:Ao),SD P U τ F (sT Y (G2 U (sos Y) O m) s1 X Z) hp->TD P U τ F (fT Y (G2 U (sos Y) O m) s1 S) tm->Ext W R s1 V τ F (sT Y (G2 U (sos Y) O m) s1 X Z) hp->Ou P U L J K b W R s1 V S Q tm hp
 |0,m,h,_,_=>absurd h<|Nat.not_lt_zero _|N+1,m,cf,M,ao=>by
  intro τ F hp tm y ba ac;have d:=hB m M ao;rw[C3]at d;generalize bi:G2 U (sos Y) O m=z at d y ba ac;let⟨⟨e,A⟩,s',d,bg,F',av,k,D,be,hx,ak,pre,aw⟩:=u (fT Y z s1 S) τ F _ hp tm ba y _ d y;have ah:A=pre++fT Y z s1 S:=aw;have v:e≠ .normal->Q ((e,A),s')->Ou P U L J K b W R s1 V S Q tm hp:=λbo hQ=>
   ⟨e,A,s',hQ,bg,F',av,ac.g k,D,be,hx.h bo,ak,⟨pre++AU (eG Y z s1.g),by rw[ah,fT,WX]⟩,k.q,λr hr hg=>k.D y hr hg<|.inl rfl⟩
  cases e with
  |exit j=>exact v (by simp) d|ret=>exact v (by simp) d|normal=>
   simp only[Ro]at d;cases c1:(Gp (A.length-(fT Y z s1 S).length) A).all (λt=>pg.any<|λp=>UO t p.1)with
   |false=>rw[c1]at d;exact d.elim|true=>
    rw[c1,Xa]at d;simp only[z7]at d;cases c2:cU A s' pg with
    |none=>rw[c2]at d;exact d.elim|some ca=>
     rw[c2]at d;let⟨bk,xs,bb,bt⟩:=nJ ak D c2;rw[C3]at d;obtain⟨vs,s2,d,cb,F2,ae,s,G,rfl,bc⟩:=Ee Y ca xs bg F' s' av bb D _ d D;rw[C3]at d;obtain⟨⟨C,bs⟩,s3,d,o3,bj,bn⟩:=Jp W Y vs s2 _ d G.I;simp only[z7]at d;cases c3:(bA (s3.h.length-(sT Y z s1 X Z).h.length) s3.h).all (λb=>Nat.ble s1.g b||Z5 b X||Z5 b Z||Z5 b (rbs Y))&&X.all (bK s1 s3)&&eJ bs&&
      bs.all (λb=> !Z5 b X&&(Nat.ble s1.g b||Z5 b Z))&&Nat.beq bs.length (GN Y)with
     |false=>rw[c3]at d;exact d.elim|true=>
      rw [c3,Xa] at d;simp only [WK] at c3;obtain ⟨⟨⟨⟨k1,k2⟩,k3⟩,k4⟩,k5⟩:=c3;rw [Xo] at k1 k2 k4;have aq:=(d.2 d.1).1;have aa:=bn s3 o3.h;have w:=Eb aa;have   am : Di P U  W  R s1   V  S   H  Y   X    Z cb F2 s3  ae  A  be vs   C bs xs:=by
       refine⟨ay,az,G.D o3 bj,ak.b s.t s.f,((ac.g k).g s).g<|Zd G o3,aa,bc,λi p x hp bw=>?_,?_,pa,λt ht=>?_,λl hl c o ce=>?_,ax,λc o=>⟨al c o,qJ<|k2 c o⟩,eK k3,λc o=>?_,WO k5⟩
       .have g:=congrArg (λl=>l[i]?) ab;simp only[XQ,hp,XH]at g;cases ai:pg[i]? with
        |none=>rw[ai]at g;cases g
        |some q=>rw[ai]at g;simp only[XH,WJ]at g;rw[g];exact(bt i q x ai bw).d s.t
       have g:=congrArg List.length ab;simp only[Xc]at g;rw[g,bk];exact bb.1.symm
       .have bp:t∉pre.map Prod.fst:=by
         intro hm;rw[Xo,ah,Xl,Nat.add_sub_cancel,MR]at c1;have:=c1 t hm;rw[List.any_eq_true]at this;obtain⟨q,cg,n⟩:=this;have ap:q.1∈Y.map Pl.d:=by grind
         let⟨p,V,ae⟩:=Yw.1 ap;refine ht p V ?_;rw[ae];cases aj:q.1 with
         |e t'=>rw[aj]at n;rw[WO n]|d b j=>rw[aj]at n;cases n
         |g=>rw[aj]at n;cases n
        rw[ah,vJ _ _ bp,fT,O6];cases bl:lk (AU<|eG Y z s1.g) t with
        |none=>rfl|some a=>let⟨i,q,q1,q2,_⟩:=qP _ bl;let⟨p,p1,p2⟩:=Dt _ _ _ _ _ q1;exact absurd (by grind) (by omega)
       .obtain⟨l2,e2,_⟩:=(k.g<|s.g<|Zd G o3).B;have bv:(sT Y z s1 X Z).h=iO Y z s1 X Z++s1.h:=rfl;have bm:l=l2++iO Y z s1 X Z:=by rw[e2,bv,<-WX]at hl;exact(List.append_cancel_right hl).symm
        rw[bm,XJ,Xv]at o;obtain o|o:=o;rw[e2,Xl,Nat.add_sub_cancel,uB]at k1;have:=k1 c o;simp only[Ys,XX]at this;rcases this with((g|g)|g)|g;omega;exact .inl<|jK g;exact .inr<|.inl<|jK g;exact .inr<|.inr<|jK g;simp only[iO,XJ,Xv]at o;obtain g|g|g:=o;obtain B|B:=BT _ _ _ g;omega;exact .inr<|.inr B;exact .inl<|yT _ g;have:=xT _ g;simp only[Xv]at this;obtain B|B|B|B:=this;exact .inr<|.inl B;exact .inl B;exact .inr<|.inr B;simp at B;omega
       have:=k4 c o;simp only[WK,XI,Ys,XX]at this;refine⟨Z6 this.1,?_⟩;obtain g|g:=this.2;exact .inl g;exact .inr<|jK g
      let⟨g1,g2,g3⟩:=am.j<|M2 (sos Y) O C w;have au:I.h (u9 U (sos Y) C)<N:=by
       have:u9 U (sos Y) z=u9 U (sos Y) m:=by rw[<-bi];exact M7 _ _ _ M
       rw[this]at aq;omega
      let⟨bh,f4,s4,w1,cd,F4,bq,w2,w3,bz,w4,w5,w6,w7,w8⟩:=Gu u ay az ab pa al ax hB N C au w d.1 _ _ _ _ g1 g2 g3;exact⟨bh,f4,s4,w1,cd,F4,bq,w2,w3,bz,hx.e w4 k.q w7 w8,w5,w6,Ya k.q w7,λr hr hg=>w8 r (XW hr k.q)<|k.D y hr hg<|.inl rfl⟩
  |_=>exact v (by simp) d
end
def annOf (l:List (Nat×(Fm->SS->H6)))(a:Nat):Bb (Fm->SS->H6):=lk l a
def slp (P:Aw)(U:Ab)(l:List (Nat×(Fm->SS->H6))):oW:=λc b body f=>match annOf l c with
 |some a=>some<|z7 λs=>Rq P U (a f s) b body f|none=>none
def IQ (U:Ab):List (So×E)->Ar
 | []=>[]
 | (k,e)::l=>Le U k e::IQ U l
def E1 (U:Ab)(name:String)(a:Code->Fm->SS->Bb (List (At×G)×Ah))(b:Fm->SS->List (So×E))(c:Ar->Ar->Prop)(mu:Ar->Ar->Nat):Fm->SS->H6:=
 λf s=>⟨name,a,c<|IQ U<|b f s,mu<|IQ U<|b f s,b f s⟩
section
variable {P :Aw}{U:Ab}{ov:Aa}{nt:Nat}{ar:Ai}
def SD.k {b:Tau}{F:Ac}{s:SS}{a:Hp}(h:SD P U b F s a)(n:Nat):SD P U b F (fvb s n) a:=⟨h.f,h.A,h.p,h.C,h.B,h.g,h.I,h.N⟩
def Ext.k {g b:Tau}{F c:Ac}{s e:SS}{d a:Hp}(h:Ext g F s d b c e a)(n:Nat):Ext g F s d b c (fvb e n) a:=⟨h.t,h.f,h.q,h.r,h.A,h.w,h.B,h.I,h.C⟩
def Rr {b:Code}{body:Fm->M (Exit×Fm)}(A:∀f',iP P U ov ar nt (body f') b f')(an:H6)(E:Fm):iP P U ov ar nt (Rq P U an b body E) (.loop b) E:=by
 intro τ F s N tm ht hs Q d _;simp only[Rq,z7]at d;cases c1:an.e b E s with
 |none=>rw[c1]at d;exact d.elim|some pp=>
  let⟨pg,g⟩:=pp;rw[c1]at d;simp only at d;cases c2:cU E s pg with
  |none=>rw[c2]at d;exact d.elim|some W=>
   rw[c2]at d;simp only at d;let⟨L,xs,D,ai⟩:=nJ ht hs c2;generalize S:pls pg W=e at d;have y:e.map Pl.d=pg.map Prod.fst:=by rw[<-S];exact QC L
   rw[C3]at d;obtain⟨vs,s2,d,n,Z,O,j,B,rfl,V⟩:=Ee e W xs τ F s N D hs _ d hs;rw[C3]at d;obtain⟨⟨Y,bs⟩,u,d,o3,ac,ae⟩:=Jp n e vs s2 _ d B.I;simp only[z7]at d;cases X:g.all (bK u u)&&eJ bs&&bs.all (λb=> !Z5 b g)&&Nat.beq bs.length (GN e)&&(rbs e).all (λb=> !Z5 b g&& !Z5 b bs&&Nat.ble (b+1) u.g)with
   |false=>rw[X]at d;exact d.elim|true=>
    rw [X,Xa] at d;simp only [WK] at X;obtain ⟨⟨⟨⟨k2,k3⟩,k4⟩,k5⟩,k6⟩:=X;rw [Xo] at k2 k4 k6;have T : ∀ c ∈ rbs e,c ∉ g∧c ∉ bs∧c < u.g:=λc k=>by have:=k6 c k;simp at this;exact⟨Z6 this.1.1,Z6 this.1.2,this.2⟩
    have m:=(B.D o3 ac).k (sos e).length;have I:=(j.g<|Zd B o3).k (sos e).length;have C:=ht.b j.t j.f;have r:=ae (fvb u (sos e).length) o3.h;have o:=Eb r;have z:∀c∈g,c∉bs:=λc k hb=>by have:=k4 c hb;rw[XI]at this;exact Z6 this k
    have pa:∀p∈e,∃F0 x0,VD P U n F0 p.a x0:=λp N=>by let⟨i,hi⟩:=XY.1 N;rw[<-S]at hi;let⟨q,v,g1,g2,g3,g4⟩:=LI hi;let⟨x,aq,ak⟩:=D.p g2;exact⟨Z,x,by rw[g4];exact ak.mono j.t j.f⟩
    have G:Di P U n Z (fvb u (sos e).length) O E tm e g bs n Z (fvb u (sos e).length) O E tm vs Y bs xs:=by
     refine⟨m,C,m,C,Ext.H m,r,V,λi p x N al=>?_,?_,pa,λt _=>rfl,λl hl c k ap=>?_,T,λc k=>⟨z c k,qJ<|k2 c k⟩,eK k3,λc k=>⟨λh=>z c h k,.inr k⟩,WO k5⟩
     .have w:=congrArg (λl=>l[i]?) y;simp only[XQ,N,XH]at w;cases R:pg[i]? with
      |none=>grind|some q=>rw[R]at w;simp at w;rw[w];exact(ai i q x R al).d j.t
     have w:=congrArg List.length y;simp at w;rw[w,L];exact D.1.symm
     .have:l=[]:=by have:=congrArg List.length hl;rw[Xl]at this;grind
      grind
    let⟨g1,g2,g3⟩:=G.j<|M2 (sos e) u.m Y o;let⟨ab,f4,s4,w1,ao,F4,ah,w2,w3,am,w4,w5,⟨pre,w6⟩,_⟩:=Gu A m C y pa z T (λaa K ad=>(kT _ _ _<|d.2 d.1) aa K<|by rw[M7 _ _ _ K];exact ad)
     (an.h (u9 U (sos e) Y)+1) Y (Yd _) o d.1 _ _ _ _ g1 g2 g3
    exact⟨(ab,f4),s4,w1,ao,F4,ah,I.g w2,w3,am,w4,w5,pre,w6⟩
def Rs (l:List (Nat×(Fm->SS->H6))):eC P U ov ar nt (slp P U l):=λk b body f r a c=>by rw[slp] at c;split at c;rename_i d _;simp at c;subst c;exactλj F s e i h g=>Rr a (d f s) f j F s e i h g;grind
end
def Ps :An->Ah
 | []=>[]
 |o::a=>match o.dst with
  |some d=>d::Ps a|none=>Ps a
def tV :Code->Ah
 | .region _ a _=>Ps a.toList| .seq x y=>tV x++tV y| .cond _ x y=>tV x++tV y| .block _ b=>tV b| .loop b=>tV b| .scope b=>tV b|_=>[]
def anys (own:List (Nat×G)):Ah->Ah->List (At×G)
 |_,[]=>[]
 |a,t::l=>bif Z5 t a then anys own a l else match lk own t with
  |some _=>anys own (t::a) l|none=>(.e t,.any)::anys own (t::a) l
def ownT :List (Nat×G)->List (At×G)
 | []=>[]
 | (t,g)::l=>(.e t,g)::ownT l
def cellsG (b:Nat):Nat->List G->List (At×G)
 |_,[]=>[]
 |j,g::l=>(.d b j,g)::cellsG b (j+1) l
def F7 (own:List (Nat×G))(a:Fm->SS->Bb (List<|Nat×List G)):Code->Fm->SS->Bb (List (At×G)×Ah):=λc f s=>match a f s with
 |some b=>some (ownT own++(b.map λp=>cellsG p.1 0 p.2).flatten++anys own [] (tV c),b.map Prod.fst)|none=>none
def mkPr (b:Fm->SS->List (At×G))(own:List (Nat×G))(a:Fm->SS->Bb (List<|Nat×List G)):Code->Fm->SS->Bb (List (At×G)×Ah):=λc f s=>match F7 own a c f s with
 |some r=>some (b f s++r.1,r.2)|none=>none
def sx (P:Aw)(U:Ab)(a:Ay->List (Nat×(Fm->SS->H6)))(b:Ay->Bb (As->M SV))(n:Nat):M0:=
 bE P U (λcall c=>Ri P U call c) (λ_ g _=>slp P U<|a g) b n
def sxF (P:Aw)(U:Ab)(a:Ay->List (Nat×(Fm->SS->H6)))(b:Ay->Bb (As->M SV))(n:Nat)(g:Ay):As->M SV:=
 sfun P U (sx P U a b n) (λc=>Ri P U (sx P U a b n) c) (λg _=>slp P U<|a g) n g
section
variable {P :Aw}{U:Ab}{Z:Aa}
def UU (a:Ay->List (Nat×(Fm->SS->H6))){b:Ay->Bb (As->M SV)}(d:∀g k,b g=some k->E5 P U Z k g)(e:∀g,isT (Z g)->b g≠none)(n:Nat):H5 P U Z (sx P U a b n):=
 AA (λ_ c _=>Hv c) (λ_ _ _ g _=>Rs<|a g) d e n
def RJ (a:Ay->List (Nat×(Fm->SS->H6))){con:Ay->Bb (As->M SV)}(b:∀g k,con g=some k->E5 P U Z k g)(c:∀g,isT (Z g)->con g≠none)(n:Nat)(g:Ay)(d:isT (Z g)=false):E5 P U Z (sxF P U a con n g) g:=
 Mk (UU a b c n) (λ_=>Hv<|UU a b c n) (λ_ g _=>Rs<|a g) n g d
end
open Go.Xe Go.RowKit
def Dl (w:Bc)(v:Av):Ag:=match v with
 | .bool _| .int _ _| .string _=>some v
 | .slice none _ _=>some v| .slice (some ⟨i,o,none⟩) (l+1) c=>match w.heap[i]? with
  |some (.cells _ _ _)=>if l+1<=c/\c<unk then some (.slice (some ⟨i+1,o,none⟩) (l+1) c)else none
  |_=>none
 | .slice (some _) 0 _=>some<|.slice (some ⟨0,0,some 0⟩) 0 unk|_=>none
def roT (w:Bc):Nat->Af->Ao
 |_,[]=>.e|k,v::vs=>(roT w (k+1) vs).m k<|Dl w v
def EG (w:Bc):∀(vs:Af) (k j:Nat),(roT w k vs).l j=if k<=j then(vs[j-k]?).bind (Dl w)else none
 | [],k,j=>by simp[roT,ZC]|v::vs,k,j=>by rw[roT,ZD];by_cases a:j=k;subst a;rw[Xg rfl,Xg<|Xh _];simp;rw[Xd a,EG w vs (k+1) j];by_cases b:k+1<=j;rw[Xg b,Xg<|by omega,show j-k=(j-(k+1))+1 by omega,WU];rw[Xd b,af]
def roB (w:Bc):Obj->Bb Blk
 | .cells C e _=>some<|.ro (roT w 0 C.toList) C.size e 0|_=>none
def roM (w:Bc):Nat->List Obj->T Blk
 |_,[]=>.e|k,o::a=>(roM w (k+1) a).m k<|roB w o
def LY (w:Bc):∀(a:List Obj) (k j:Nat),(roM w k a).l j=if k<=j then(a[j-k]?).bind (roB w)else none
 | [],k,j=>by simp[roM,ZC]|o::a,k,j=>by have b:=LY w a (k+1) j;rw[roM,ZD];grind
def Hm (P:Aw)(w:Bc):Hp:=⟨(roM w 1 w.heap.toList).m 0<|some<|.reg .e 0 rgT (kf P rgT).length,w.heap.size+1⟩
def Hn (w:Bc):Nat->Bb Xe.Pl
 |0=>some ⟨0,0,0,0⟩|i+1=>match w.heap[i]? with
  |some (.cells C _ _)=>some ⟨i,0,C.size,0⟩|_=>none
def zM (w:Bc):Sg:=⟨λi r=>if r=0 then Hn w i else none⟩
def Wf (w:Bc)(i:Nat):zM w i=Hn w i:=rfl
def EF (w:Bc)(i:Nat):Hn w (i+1)=match w.heap[i]? with
  |some (.cells C _ _)=>some ⟨i,0,C.size,0⟩|_=>none:=rfl
def BS.d (w:Bc):BS:=⟨(· <w.heap.size),(· <w.heap.size),λ_ h=>h⟩
def zK (P:Aw)(w:Bc)(i:Nat):(Hm P w).m.l (i+1)=(w.heap[i]?).bind (roB w):=by show((roM w 1 w.heap.toList).m 0 _).l (i+1)=_;rw[ZD,af,LY,Xg<|by omega];simp
def zL (P:Aw)(w:Bc):(Hm P w).m.l 0=some (.reg .e 0 rgT (kf P rgT).length):=by show((roM w 1 w.heap.toList).m 0 _).l 0=_;rw[ZD,Xg rfl]
variable {w:Bc}
def vE {v a:Av}(h:Dl w v=a):VR (zM w) a v:=by
 unfold Dl at h;split at h;cases h;exact .J _;cases h;exact .H _ _;cases h;exact .I _;cases h;exact .nils _ _
 .rename_i i o l c;split at h
  .rename_i C e f d;split at h
   .rename_i b;cases h;have g:zM w (i+1)=some ⟨i,0,C.size,0⟩:=by rw[Wf,EF,d]
    have:=VR.F (σ:=zM w) (i+1) o _ (l+1) c c g (.inl ⟨rfl,b.2⟩) b.1;simpa using this
   cases h
  cases h
 cases h;exact .L _ _;cases h
def CO {i:Nat}{p:Xe.Pl}(h:Hn w (i+1)=p):p.d=i:=by rw[EF]at h;split at h;simp only[WJ]at h;rw[<-h];cases h
def HR.e (P:Aw)(w:Bc):HR (BS.d w) w (zM w) (Hm P w) w:=by
 have t:∀i b r,(Hm P w).m.l i=some b->Ix b r-> ∃j C e f,i=j+1/\r=0/\w.heap[j]? =some (.cells C e f)/\b= .ro (roT w 0 C.toList) C.size e 0:=by
  intro i b r a d;cases i with
  |zero=>rw[zL,WJ]at a;subst a;have d:1<=r/\r<=0:=d;omega|succ j=>
   rw[zK,Option.bind_eq_some_iff]at a;let⟨o,l,g⟩:=a;cases o with
   |cells C e f=>simp only[roB,WJ]at g;subst g;exact⟨j,C,e,f,rfl,d,l,rfl⟩|_=>cases g
 refine⟨rfl,rfl,rfl,Xh _,λ_ h=>h,λ_ _=>rfl,λi r n=>?_,λi b r a d=>?_,λi j b y r s p q n x d G D E F=>?_,λi b a g=>?_⟩
 .have n:w.heap.size+1<=i:=n;show(if r=0 then Hn w i else none)=none;split
  .obtain⟨j,rfl⟩:∃j,i=j+1:=⟨i-1,by omega⟩
   rw[EF,Array.getElem?_eq_none<|by omega]
  rfl
 obtain⟨j,C,e,f,rfl,rfl,l,rfl⟩:=t i b r a d;refine⟨⟨j,0,C.size,0⟩,_,by show Hn w (j+1)=_;rw[EF,l],(WY.1 l).1,l,C,f,rfl,rfl,rfl,by simp,λk v x hv=>?_⟩;rw[EG,Xg<|YI _,Yv,Option.bind_eq_some_iff]at hv;let⟨u,A,B⟩:=hv;exact⟨u,by simpa using A,vE B⟩;obtain⟨H,_,_,_,rfl,rfl,_⟩:=t i b r n d;obtain⟨I,_,_,_,rfl,rfl,_⟩:=t j y s x G;have J:=CO (w:=w) (show Hn w (H+1)=some p from E);have K:=CO (w:=w) (show Hn w (I+1)=some q from F);omega
 .cases i with
  |zero=>rw[zL,WJ]at a;subst a;exact⟨⟨_,rfl⟩,λr z _=>Xd z⟩|succ j=>
   rw[zK,Option.bind_eq_some_iff]at a;let⟨o,_,c⟩:=a;cases o with
   |cells C e f=>simp only[roB,WJ]at c;subst c;cases g
   |_=>cases c
def roF (w:Bc):Ac
 |0=>none|i+1=>(w.heap[i]?).bind<|roB w
def QU (P:Aw)(w:Bc):∀i b,roF w i=some b->(Hm P w).m.l i=some b/\i<(Hm P w).d:=by
 intro i b h;cases i with
 |zero=>cases h
 |succ j=>refine⟨by rw[zK];exact h,?_⟩;have h:(w.heap[j]?).bind (roB w)=some b:=h;rw[Option.bind_eq_some_iff]at h;let⟨o,a,_⟩:=h;have:=(WY.1 a).1;show j+1<w.heap.size+1;omega
def ND {i:Nat}{C:Al}{e:Ax}{f:Nat×Nat}(h:w.heap[i]? =some (.cells C e f)):roF w (i+1)=some (.ro (roT w 0 C.toList) C.size e 0):=by show(w.heap[i]?).bind (roB w)=_;rw[h];rfl
def GD (f:Ax->Nat->List (Nat×Ax))(o:Nat):List Field->List (Nat×Ax)
 | []=>[]
 |x::xs=>f x.type (o+x.offset)++GD f o xs
def eN (P:Aw):Nat->Ax->Nat->List (Nat×Ax)
 |0,_,_=>[]
 |d+1,t,o=>match P.underlying t with
  |some (.struct a)=>GD (eN P d) o a.toList|some (.array n e)=>((List.range n).map λi=>eN P d e<|o+i*P.cellsOf e).flatten|_=>[(o,t)]
def isAgg (P:Aw)(t:Ax):Bool:=match P.underlying t with
 |some (.struct _)=>true|some (.array _ _)=>true|_=>false
section
variable {H :Type}{X:Ax×Av->H}{P:Aw}{w:Bc}{Z:Nat->Bool}{Y:Bool}
def Co {f:Ax->Nat->List (Nat×Ax)}{o:Nat}{p:Nat×Ax}:∀ {l:List Field},p∈GD f o l-> ∃x∈l,p∈f x.type (o+x.offset)
 | [],h=>by simp[GD]at h|x::xs,h=>by rw[GD] at h;obtain h|h:=Xv.1 h;exact⟨x,by simp,h⟩;let⟨y,a,b⟩:=Co h;exact⟨y,by simp[a],b⟩
def mC :∀(d:Nat) {c:Nat} {t:Ax} {q:Af} {x:DataW H×List MemPlace},DataW.trod X P w 0 Z Y c t q=x-> ∀(a o:Nat) (u:Ax),(o,u)∈eN P d t a-> ∃(j:Nat) (g:Af) (b:Nat) (r:DataW H×List MemPlace),o=a+j/\b<=c/\isAgg P u=false/\DataW.trod X P w 0 Z Y b u g=some r/\ ∀(k:Nat) v,g[k]? =some v->q[j+k]? =some v
 |0,c,t,q,x,h,a,o,u,l=>by simp[eN]at l|d+1,c,t,q,x,h,a,o,u,l=>by
  rw[eN] at l;split at l
  .rename_i z G;obtain⟨xs,n,rfl,_,_,_,L⟩:=DataW.trod_struct G h;let⟨f,C,D⟩:=Co l;let⟨i,M⟩:=XY.1 C;have F:z[i]? =f:=by grind
   have:=L i f F;have p:i<xs.length:=by grind
   rw[WV p]at this;let⟨j,g,b,r,y,s,A,B,K⟩:=mC d this (a+f.offset) o u D;exact⟨f.offset+j,g,b,r,by omega,by omega,A,B,λk v hv=>by grind⟩
  .rename_i n e G;obtain⟨i,M,l⟩:∃i,i<n/\(o,u)∈eN P d e (a+i*P.cellsOf e):=by grind
   obtain⟨m,r,y,s⟩:∃m r,c=m+1/\DataW.trod X P w 0 Z Y m e ((q.drop<|i*P.cellsOf e).take<|P.cellsOf e)=some r:=by
    cases c with
    |zero=>simp[DataW.trod]at h|succ m=>
     unfold DataW.trod at h;rw[G]at h;simp only at h;split at h
     .rw[Yx]at h;let⟨xs,J,_⟩:=h;have:=mapM_some_get J i i (by grind);have N:=mapM_some_length J;have p:i<xs.length:=by grind
      rw[WV p]at this;exact⟨m,_,rfl,this⟩
     cases h
   let⟨j,g,b,I,y,s,A,B,K⟩:=mC d s _ o u l;exact⟨i*P.cellsOf e+j,g,b,I,by omega,by omega,A,B,λk v hv=>by grind⟩
  next y s=>simp only[Yh,WL]at l;obtain⟨rfl,rfl⟩:=l;refine⟨0,q,c,x,by omega,Xh _,?_,h,λk v hv=>by grind⟩;unfold isAgg;split;rename_i z E;exact absurd E<|y z;rename_i n e E;exact absurd E<|s n e;rfl
end
end Go.Sx
namespace Go.Sx
open Go.Xe Go.RowKit
inductive DW (P:Aw):Kd->Dat->Prop
 |g (k:IntKind) (n:Int) (h:k.min<=n/\n<=k.max):DW P (.int k) (.i n)
 |e (b:Bool):DW P .bool (.b b)
 |h (s:Ae) (h:s.length<=maxLen):DW P .str (.s s)
 | d (e : Ax) (rows : a8) (hl : rows.length ≤ maxLen) (hz : ∀ r ∈ rows, r.length = (kf P e).length)
   (h:∀(r k:Nat) (row:Ar) (kd:Kd) (d:Dat),rows[r]? =some row->row[k]? =some d->(kf P e)[k]? =some kd->DW P kd d):DW P (.f e) (.l rows)
def IY (P:Aw)(e:Ax):Bool:=
 Nat.beq (eN P 20 e 0).length (kf P e).length&&Nat.beq (P.cellsOf e) (kf P e).length&&Nat.ble 1 (kf P e).length&&
  ((eN P 20 e 0).zipIdx.all λp=>Nat.beq p.1.1 p.2)&&((eN P 20 e 0).zip<|kf P e).all λp=>decide<|kd1 P p.1.2=p.2
def xH (P:Aw):Nat->Kd->Bool
 |_,.int _=>true|_,.bool=>true|_,.str=>true|n+1,.f e=>IY P e&&(kf P e).all (xH P n)|_,_=>false
def Oo (P:Aw)(S:Kd->Prop):Prop:=∀a,S a->match a with
 | .int _=>True| .bool=>True| .str=>True| .f e=>IY P e/\ ∀k∈kf P e,S k|_=>False
def inL (a:List Ax):Kd->Bool
 | .int _=>true| .bool=>true| .str=>true| .f e=>Z5 e a|_=>false
def Lp (P:Aw):Oo P λa=>∃m,xH P m a:=by
 rintro a ⟨m,h⟩;cases a with
 |f e=>
  cases m with
  |zero=>cases h
  |succ m=>simp only[xH,WK,Xo]at h;grind
 |_=>first|trivial| (cases m<;>cases h)
section
variable {H :Type}{X:Ax×Av->H}{P:Aw}{w:Bc}{Z:Nat->Bool}{Y:Bool}
def xU {e:Ax}(h:IY P e):P.cellsOf e=(kf P e).length/\1<=(kf P e).length/\ ∀k a,(kf P e)[k]? =some a-> ∃u,(k,u)∈eN P 20 e 0/\kd1 P u=a:=by
 simp only[IY,WK,Xy,XX]at h;let⟨⟨⟨⟨o,i⟩,j⟩,b⟩,c⟩:=h;refine⟨i,j,λk a d=>?_⟩;have n:=(WM.1 d).1;have m:k<(eN P 20 e 0).length:=by omega
 rw[Xo]at b c;have f:=b ((eN P 20 e 0)[k],k) (by grind);have g:=c ((eN P 20 e 0)[k],a) (WT<|by rw[List.getElem?_zip_eq_some];exact⟨WV m,d⟩);simp at f g;grind
def Ow (a:Addr)(i j:Nat):(a.add i).add j=a.add (i+j):=by unfold Addr.add;grind
variable (P w) in
def mP b v d:=∃a,Dl w v=some a/\PV P (roF w) b a d/\DW P b d
def wM {S:Kd->Prop}(hS:Oo P S):∀(N A:Nat),A<N-> ∀(u:Ax) (cs:Af) (x:DataW H×List MemPlace),DataW.trod X P w 0 Z Y A u cs=x->S (kd1 P u)-> ∃v d,cs=[v]/\mP P w (kd1 P u) v d
 |0,_,h,_,_,_,_,_=>absurd h<|Nat.not_lt_zero _|N+1,A,hN,u,cs,x,ht,U=>by
  rw[kd1] at U⊢;split at U;rename_i k K;clear U;obtain⟨n,rfl,_,hw⟩:=DataW.trod_int K ht;refine⟨.int k n,.i n,rfl,.int k n,rfl,.int k n,.g k n ?_⟩;rw[Lit.wf] at hw;grind;rename_i K;obtain⟨b,rfl,_⟩:=DataW.trod_bool K ht;exact⟨.bool b,.b b,rfl,.bool b,rfl,.R b,.e b⟩;rename_i K;obtain⟨s,rfl,_,hs⟩:=DataW.trod_string K ht;refine⟨.string s,.s s.data.toList,rfl,.string s,rfl,?_,.h _ ?_⟩;exact .str s.data.toList;simp_all
  .rename_i e K;let⟨ai,av⟩:=hS _ U;let⟨l1,l2,l3⟩:=xU ai;obtain⟨rfl,_⟩| ⟨a,len,cap,O,rest,n,rfl,rfl,_,_,aw,aq,bg,au,_,_⟩:=DataW.trod_slice K ht;exact⟨.slice none 0 0,.l [],rfl,.slice none 0 0,rfl,.N e,.d e [] (YI _) (λr h=>by simp at h) (λr k row c d h=>by simp at h)⟩
   .cases len with
    |zero=>refine⟨.slice (some a) 0 cap,.l [],rfl,.slice (some ⟨0,0,some 0⟩) 0 unk,?_,.L e,.d e [] (YI _) (λr h=>by simp at h) (λr k row c d h=>by simp at h)⟩;let⟨i,o,sp⟩:=a;cases sp<;>rfl
    |succ len=>
    have cell:∀r k,r<len+1->k<(kf P e).length-> ∀c,(kf P e)[k]? =some c-> ∃v d,w.cell? (a.add<|r*P.cellsOf e+k)=some v/\mP P w c v d:=by
     intro r k B J c g;have m:=au r B;have ax:r<O.length:=by omega
     rw[WV ax,Option.bind_eq_some_iff]at m;let⟨cs,am,an⟩:=m;let⟨_,bb,ao⟩:=World.cells?_some am;let⟨u',az,aj⟩:=l3 k c g;let⟨j,al,Q,x',q1,q2,q3,q4,q5⟩:=mC 20 an 0 k u' az;obtain⟨v,d,rfl,hv⟩:=wM hS N Q (by omega) u' al x' q4 (by rw[aj];exact av c<|WT g);refine⟨v,d,?_,by rw[aj]at hv;exact hv⟩;have:=q5 0 v rfl;have hj:j=k:=by omega
     subst hj;rw[Yi]at this;rw[<-this,<-ao j (by omega)];congr 1;exact(Ow a _ _).symm
    have first:∃c,(kf P e)[0]? =some c:=⟨_,WV<|by omega⟩
    let⟨ba,ah⟩:=first
    let⟨v0,_,y,_⟩:=cell 0 0 (by omega) (by omega) ba ah;let⟨i,o,sp⟩:=a;have ay:sp=none:=by
     cases sp with
     |none=>rfl|some q=>
      have hb:((⟨i,o,some q⟩:Addr).add<|0*P.cellsOf e+0).block=i:=by rw[Addr.add];split<;>rfl
      unfold World.cell? at y;rw[hb]at y;split at y
      .rename_i hh;have:((⟨i,o,some q⟩:Addr).add<|0*P.cellsOf e+0).spot.isSome:=by rw[Addr.add];simp
       grind
      cases y
    subst ay;have I:∀j,(⟨i,o,none⟩:Addr).add j=⟨i,o+j,none⟩:=λj=>YF _ _ _;obtain⟨C,e',f,hh⟩:∃C e' f,w.heap[i]? =some (.cells C e' f):=by rw[I]at y;unfold World.cell? at y;grind
    have L:∀r k,r<len+1->k<(kf P e).length-> ∀c,(kf P e)[k]? =some c-> ∃v d,C[o+r*(kf P e).length+k]? =some v/\mP P w c v d:=λr k B J c g=>by let⟨v,d,m,t⟩:=cell r k B J c g;refine⟨v,d,?_,t⟩;rw[I,cell_of_row w i _ C e' f hh,l1]at m;grind
    clear cell;have M:∀p:Nat×Nat,∃q:Av×Dat,p.1<len+1-> ∀c,(kf P e)[p.2]? =some c->C[o+p.1*(kf P e).length+p.2]? =q.1/\mP P w c q.1 q.2:=by
     intro⟨r,k⟩;simp only;by_cases B:r<len+1
     .cases J:(kf P e)[k]? with
      |none=>exact⟨(undef,.i 0),λ_ c h=>by cases h⟩|some c=>let⟨v,d,m,t⟩:=L r k B (WM.1 J).1 c J;exact⟨(v,d),λ_ bi h=>by cases h;exact⟨m,t⟩⟩
     exact⟨(undef,.i 0),λh=>absurd h B⟩
    let⟨ch,bc⟩:=Classical.axiomOfChoice M;obtain⟨V,bh⟩:∃V:Nat->Nat->Av,∀r k,V r k=(ch (r,k)).1:=⟨λr k=>(ch (r,k)).1,λ_ _=>rfl⟩
    obtain⟨W,be⟩:∃W:Nat->Nat->Dat,∀r k,W r k=(ch (r,k)).2:=⟨λr k=>(ch (r,k)).2,λ_ _=>rfl⟩
    have D:∀r k,r<len+1-> ∀c,(kf P e)[k]? =some c->C[o+r*(kf P e).length+k]? =(V r k)/\mP P w c (V r k) (W r k):=by simp_all
    have z1:=l2;generalize hz:(kf P e).length=z at*;have ae:o+(len+1)*z<=C.size:=by have J:(kf P e)[z-1]? =((kf P e)[z-1]'(by omega)):=WV (by omega);have:=(D len (z-1) (by omega) _ J).1;grind
    let rows:a8:=(List.range<|len+1).map λr=>(List.range z).map λk=>W r k
    have F:∀(r k:Nat) (row:Ar) (d:Dat),rows[r]? =some row->row[k]? =some d->r<len+1/\k<z/\d=W r k:=by grind
    have G:rows.length=len+1:=by simp[rows]
    have rz:∀r∈rows,r.length=z:=λr B=>by simp only[rows,Yw]at B;obtain⟨i,_,rfl⟩:=B;simp
    have T:cap<unk:=by have:=aq;rw[maxLen] at this;rw[unk];omega
    have ad:Dl w (.slice (some ⟨i,o,none⟩) (len+1) cap)=some (.slice (some ⟨i+1,o,none⟩) (len+1) cap):=by unfold Dl;simp only[hh];rw[Xg ⟨aw,T⟩]
    have E:∀k,k<z-> ∃c,(kf P e)[k]? =some c:=λk J=>⟨_,WV<|by omega⟩
    have ak:∀p:Nat×Nat,∃a,p.1<len+1->p.2<z->Dl w (V p.1 p.2)=some a:=by intro⟨r,k⟩;simp only;by_cases h:r<len+1/\k<z;let⟨c,g⟩:=E k h.2;let⟨_,a,ha,_⟩:=D r k h.1 c g;exact⟨a,λ_ _=>ha⟩;exact⟨undef,λm t=>absurd ⟨m,t⟩ h⟩
    let⟨ca,ap⟩:=Classical.axiomOfChoice ak;obtain⟨aa,ac⟩:∃aa:Nat->Nat->Av,∀r k,aa r k=ca (r,k):=⟨λr k=>ca (r,k),λ_ _=>rfl⟩
    have ab:∀r k,r<len+1->k<z->Dl w (V r k)=(aa r k):=λr k m t=>by rw[ac];exact ap (r,k) m t
    refine⟨_,.l rows,rfl,_,ad,?_,?_⟩
    .rw[<-G];refine .sl e (i+1) o cap (.ro (roT w 0 C.toList) C.size e' 0) (roT w 0 C.toList) C.size z (zb:=0) rows aa (ND hh) rfl ⟨.inl ⟨T,by omega⟩,λ_=>T,λh=>by cases h⟩ (by rw[G];exact ae) hz.symm rz ?_ ?_
     .intro r k row d m t;obtain⟨R,g2,rfl⟩:=F r k row d m t;let⟨c,g⟩:=E k g2;have:=(D r k R c g).1;rw[EG,Xg<|YI _,Yv];have e1:C.toList[o+r*z+k]? =(V r k):=by rw[<-this];simp
      rw[e1];exact ab r k R g2
     intro r k row c d m t g;obtain⟨R,g2,rfl⟩:=F r k row d m t;obtain⟨_,a,ha,hp,_⟩:=D r k R c g;have:=ab r k R g2;rw[ha]at this;cases this;exact hp
    refine .d e rows (by rw[G];omega) (λr B=>by rw[hz];exact rz r B) ?_;intro r k row c d m t g;obtain⟨R,g2,rfl⟩:=F r k row d m t;exact(D r k R c g).2.choose_spec.2.2
  rename_i e K;cases hb:Nat.beq e rgT<;>rw[hb]at U<;>exact(hS _ U).elim;exact(hS _ U).elim
variable {ps:List MemPlace}
def Sz {u:Ax}{v:Av}{d:DataW H}(h:DataW.Trod X P w 0 Z Y u v d ps){m:Nat}(b:xH P m (kd1 P u))(hv:v.cells.toList=[v]):∃d,mP P w (kd1 P u) v d:=by let⟨a,h⟩:=h;let⟨f,d,c,e⟩:=wM (Lp P) (a+1) a (Yd _) u _ _ h ⟨m,b⟩;grind
variable {xs:Al}
def OK {S:Kd->Prop}(l:Oo P S){u:Ax}{d:DataW H}(h:DataW.Trod X P w 0 Z Y u (.agg xs) d ps)(n:IY P u)(t:∀b∈kf P u,S b):∀(k:Nat) (b:Kd),(kf P u)[k]? =some b-> ∃(v:Av) (d:Dat),xs[k]? =v/\mP P w b v d:=by
 intro k b e;let⟨g,h⟩:=h;let⟨x,y,p⟩:=xU n;let⟨i,f,o⟩:=p k b e;let⟨j,c,a,s,z,A,B,q,r⟩:=mC 20 h 0 k i f;obtain⟨v,d,rfl,hv⟩:=wM l (a+1) a (Yd _) i c s q (by grind);have:=r 0 v rfl;have m:j=k:=by omega
 subst m;refine⟨v,d,by simpa [Value.cells]using this,by grind⟩
def Sw {u:Ax}{d:DataW H}(h:DataW.Trod X P w 0 Z Y u (.agg xs) d ps){m:Nat}(b:IY P u)(c:(kf P u).all (xH P m)):∀(k:Nat) (a:Kd),(kf P u)[k]? =some a-> ∃(v:Av) (d:Dat),xs[k]? =v/\mP P w a v d:=
 OK (Lp P) h b λa e=>(by grind)
end
section
variable {P :Aw}{U:Ab}{ov:Aa}
def HR.d {c:Sg}{b:Hp}{w a:Bc}(h:HR (BS.d w) w c b a):Below w.heap.size w a:=
 ⟨h.R,h.l,h.d,h.g,h.h⟩
end
open Go.Xe
inductive Lf where
 |g (k:G)
 |ptr (i z:Nat)
 |nilp
 |clo (g:Ay) (is:List (Nat×Nat))
 |cst (k:G) (e:E)
def Lf.m :Lf->Bb So
 | .g k=>k.p|_=>none
def Lf.j :Lf->Nat
 | .g k=>k.m|_=>0
def Lf.n (x:Lf)(d:E):Bb C8:=match x with
 | .g k=>k.r .r d|_=>none
def lvv (a:Nat->Nat)(x:Lf)(e:E)(b:Nat):SV:=match x with
 | .g k=>tv k .r e b| .ptr i z=>.g (a i) z (.w 0) 0| .nilp=>.C| .clo g is=>.H (.func g) []<|is.map λp=>.g (a p.1) p.2 (.w 0) 0| .cst k e=>tv k .r e b
def GU (x:Lf)(a:Au):Au:=match x.m with
 |some _=>tl1 a|none=>a
def MN (a:Nat->Nat):List Lf->Au->Nat->As
 | [],_,_=>[]
 |x::l,b,c=>lvv a x (hd1 b) c::MN a l (GU x b) (c+x.j)
def aD :List Lf->Au->Nat->List (Nat×Bb C8)
 | [],_,_=>[]
 |x::l,a,b=>match x.n (hd1 a)with
  |some X=>(b,some X)::aD l (GU x a) (b+x.j)|none=>aD l (GU x a)<|b+x.j
def t8 :List Lf->List So
 | []=>[]
 |x::l=>aU x.m<|t8 l
def I5 :List Lf->Nat
 | []=>0|x::l=>x.j+I5 l
section
variable (P :Aw)(U:Ab)
def Qt (x:Lf)(v:SV):M SV:=match x with
 | .g k=>uD P U k v| .cst k _=>uD P U k v|_=>i6 v
def eqS (a:So)(d e:E):Bb E:=match a with
 | .i=>some<|I4 d e| .s=>some<|pR d e| .b=>some<|Ly d e| .l=>match e with
  | .C .p []=>some<|I4 (C2 d)<|.w 0|_=>none
def CD :List Lf->As->M (As)
 |x::l,v::vs=>d8 (Qt P U x v) λb=>d8 (CD l vs) λa=>i6<|b::a
 | [],[]=>i6 []|_,_=>c9 "contract: places"
def PN (c:Ah)(i b:Nat):Bool:=match c[i]? with
 |some a=>Nat.beq b a|none=>false
def mtC (a:Ah):List (Nat×Nat)->As->Bool
 | [],[]=>true|p::is,.g b z (.w m) f::l=>PN a p.1 b&&Nat.beq p.2 z&&decide (m=0)&&Nat.beq f 0&&mtC a is l|_,_=>false
def Ng (a:Ah)(x:Lf)(v:SV):M (Bb E×Ai):=match x with
 | .g k=>mt1 U k .r v| .ptr i z=>match v with
  | .g b n (.w m) f=>bif PN a i b&&Nat.beq z n&&decide (m=0)&&Nat.beq f 0 then i6 (none,none)else c9 "contract: another pointer"|_=>c9 "contract: no pointer"
 | .nilp=>match v with
  | .C=>i6 (none,none)|_=>c9 "contract: not nil"
 | .clo g is=>match v with
  | .H (.func h) [] l=>bif Nat.beq g h&&mtC a is l then i6 (none,none)else c9 "contract: another function"|_=>c9 "contract: no function"
 | .cst k e => bif Nat.beq k.m 0 then d8 (mt1 U k .r v) λr => match r.1, k.p with
   |some d,some j=>match eqS j d e with
    |some c=>d8 (u6 U c) λ_=>i6 (none,none)
    |none=>c9 "contract: known"
   |_,_=>c9 "contract: known"
  else c9 "contract: known"
def mtL (a:Ah):List Lf->As->M (Au×Ah)
 |x::l,v::vs=>d8 (Ng U a x v) λr=>d8 (mtL a l vs) λt=>i6 (aU r.1 t.1,aU r.2 t.2)
 | [],[]=>i6 ([],[])|_,_=>c9 "contract: places"
end
section
variable {P :Aw}{U:Ab}
variable {Z:Tau}{F:Ac}{W:Hp}
def Nk {s:SS}(x:Lf){v:SV}{u:Av}(hv:VD P U Z F v u)(c:SD P U Z F s W):OKh P U (Qt P U x v) Z F s W λf b d a=>a=W/\VD P U b d f u:=by
 cases x with
 |g k=>exact yR k hv c|cst k e=>exact yR k hv c|_=>exact Zk ⟨rfl,hv⟩
def jO :∀(d:List Lf) (vs:As) (xs:Af) (Z:Tau) (F:Ac) (s:SS) (W:Hp),VDL P U Z F vs xs->SD P U Z F s W->OKh P U (CD P U d vs) Z F s W λb i k e=>e=W/\VDL P U i k b xs
 | [],[],xs,Z,F,s,W,hv,c=>Zk ⟨rfl,hv⟩| [],v::vs,xs,Z,F,s,W,hv,c=>Zi|p::d,[],xs,Z,F,s,W,hv,c=>Zi|p::d,v::vs,xs,Z,F,s,W,hv,c=>by obtain⟨y,w,rfl,n,o⟩:=hv.f;refine(Nk p n c).f λC j l s1 g ex h ⟨A,m⟩=>(jO d vs w j l s1 g (o.m ex.t ex.f) h).f λb x z s2 q a r ⟨B,u⟩=>Zk ⟨by grind,.g (m.mono a.t a.f) u⟩
def Vx {a:So}{d e c:E}(h:eqS a d e=c)(W:c.I U):qK U a d e:=by unfold eqS at h;split at h;cases h;exact dB W;cases h;rw[Zb,Y4]at W;show(d.A U).g=(e.A U).g;grind;cases h;rw[Zb,Cw]at W;show(d.A U).f=(e.A U).f;grind;split at h;cases h;have:=dB W;rw[j5,D5]at this;show d.z U=_;have b:d.z U=[]:=List.length_eq_zero_iff.1 (by omega);rw[b];rfl;cases h
variable (P U) in
def LOK (h:Ah)(Z:Tau)(F:Ac)(s:SS)(x:Lf)(v:SV)(r:Bb E×Ai):Prop:=
 (∀a,x.m=some a-> ∃e,r.1=some e)/\(x.m=none->r.1=none)/\(x.j=0->r.2=none)/\
 (∀u,VD P U Z F v u-> ∀(c:Tau) (f:Nat->Nat) (g:Nat) (d:E),(∀i b,h[i]? =some b->c (f i)=Z b)->(∀e a,r.1=some e->x.m=some a->qK U a e d)->(∀b,r.2=some b->c g=Z b)->VD P U c F (lvv f x d g) u)/\
 (x.j≠0-> ∃a,x.m=some a/\Om P U Z F s a x.n r)
def LC {b:Ah}:∀ {is:List (Nat×Nat)} {l:As} {num:Nat->Nat},mtC b is l->(is.map λp=>SV.g (num p.1) p.2 (.w 0) 0).length=l.length
 | [],[],num,_=>rfl| [],_::_,num,h=>by simp[mtC]at h|p::is,[],num,h=>by simp[mtC]at h|p::is,a::l,num,h=>by unfold mtC at h;split at h;grind;rename_i d c;cases c;simp at h;have:=LC (num:=num) h.2;grind;cases h
def LB {m:Ah}{Z g:Tau}{F:Ac}{e:Nat->Nat}:∀ {is:List (Nat×Nat)} {l:As} {f:Af},mtC m is l->(∀i b,m[i]? =some b->g (e i)=Z b)->VDL P U Z F l f-> ∀ {i:Nat} {a:SV} {x:Av},(is.map λp=>SV.g (e p.1) p.2 (.w 0) 0)[i]? =a->f[i]? =x->VD P U g F a x
 | [],l,f,h,k,hv,i,a,x,c,d=>by grind|p::is,[],f,h,k,hv,i,a,x,c,d=>by simp[mtC]at h|p::is,E::l,f,h,k,hv,i,a,x,c,d=>by
  unfold mtC at h;split at h;grind
  .rename_i n o;cases n;cases o;simp at h;let⟨⟨⟨⟨j,r⟩,s⟩,t⟩,u⟩:=h;subst s;subst t;obtain⟨y,C,rfl,z,A⟩:=hv.f;cases i with
   |zero=>
    simp at c d;subst c;subst d;rw[PN] at j;split at j
    .rename_i D v;have:=WO j;subst this;cases z with
     |ptr _ _ _ _ w B h q=>rw[r];exact .ptr _ _ (.w 0) 0 w B (by grind) q
    grind
   |succ i=>exact LB u k A c d
  cases h
def Td {s:SS}(E:Ah)(x:Lf)(v:SV):OKp U (Ng U E x v) s λr=>∀t,t.h=s.h->LOK P U E Z F t x v r:=by
 cases x with
 |g k=>refine(Jo (P:=P) (Y:=Z) (F:=F) (λ_=>none) k .r v).j λr h t y=>?_;let⟨G,I,B,C,N⟩:=h t y;refine⟨G,I,B,λu q j n A d _ J D=>C u q j A d (λb p e=>by grind) ⟨λ_=>none,undef,.any _⟩ J D,λL=>N.1 L⟩
 |ptr i z=>
  simp only[Ng];split
  .rename_i b z' m f;cases o:PN E i b&&Nat.beq z z'&&decide (m=0)&&Nat.beq f 0 with
   |false=>exact Zl|true=>
    simp at o;obtain⟨⟨⟨K,rfl⟩,rfl⟩,rfl⟩:=o;refine Zq λt _=>⟨λH h=>(by cases h),λ_=>rfl,λ_=>rfl,λu q j n A d D _ _=>?_,λh=>absurd rfl h⟩
    rw[PN] at K;split at K
    .rename_i b' V;have:=WO K;subst this;cases q with
     |ptr _ _ _ _ i' o' h S=>exact .ptr (n i) z (.w 0) 0 i' o' (by grind) S
    grind
  exact Zl
 |clo g is=>
  simp only[Ng];split
  .rename_i R l;cases o:Nat.beq g R&&mtC E is l with
   |false=>exact Zl|true=>
    rw[WK]at o;have:=WO o.1;subst this;refine Zq λt _=>⟨λH h=>(by cases h),λ_=>rfl,λ_=>rfl,λu q j n A d D _ _=>?_,λh=>absurd rfl h⟩
    cases q with
    |fn _ _ _ xs ys G I B C=>exact .fn _ _ _ xs ys G (by grind) (by rw[<-B];exact LC o.2) λi a x T hx=>LB o.2 D ⟨B,C⟩ T hx
  exact Zl
 |nilp=>
  simp only[Ng];split
  .refine Zq λt _=>⟨λH h=>(by cases h),λ_=>rfl,λ_=>rfl,λu q j n A d _ _ _=>?_,λh=>absurd rfl h⟩
   cases q;exact .nilp
  exact Zl
 |cst k e=>
  simp only[Ng];cases Q:Nat.beq k.m 0 with
  |false=>exact Zl|true=>have Q:=WO Q;rw[Xa];refine(Jo (P:=P) (Y:=Z) (F:=F) (λ_=>none) k .r v).f λr s1 o1 _ X=>?_;split;rename_i d H J M;split;rename_i c o;refine OKp.g.f λ_ s2 o2 aa W=>Zq λt y=>?_;let⟨G,I,B,C,N⟩:=X t y;refine⟨λH h=>(by cases h),λ_=>rfl,λ_=>rfl,λu q j n A d0 _ _ _=>C u q j A e (λb p e=>by grind) ⟨λ_=>none,undef,.any _⟩ (λe' ab O w=>?_) λb D=>?_,λh=>absurd rfl h⟩;rw[J]at O;cases O;rw[M]at w;cases w;exact Vx o W;grind;exact Zl;exact Zl
variable (P U) in
def iQ (d:Ah)(Z:Tau)(F:Ac)(s:SS):List Lf->As->Au->Ah->Prop
 | [],[],c,bs=>c=[]/\bs=[]
 |x::l,v::vs,c,bs=>∃r b a,c=aU r.1 b/\bs=aU r.2 a/\LOK P U d Z F s x v r/\iQ d Z F s l vs b a|_,_,_,_=>False
def yL {Z:Tau}{F:Ac}(c:Ah):∀(d:List Lf) (vs:As) (s:SS),OKp U (mtL U c d vs) s λr=>∀b,b.h=s.h->iQ P U c Z F b d vs r.1 r.2
 | [],[],s=>Zq λ_ _=>⟨rfl,rfl⟩
 | [],_::_,s=>Zl|_::_,[],s=>Zl|p::d,v::vs,s=>by exact(Td (P:=P) (Z:=Z) (F:=F) c p v).f λr s1 g _ e=>(yL (Z:=Z) (F:=F) c d vs s1).f λt s2 i _ f=>Zq λb a=>⟨r,t.1,t.2,rfl,rfl,e b a,f b<|by rw[a,g.h]⟩
section
variable {Y :Ah}{Z:Tau}{F:Ac}{s:SS}
def Lf.e {x:Lf}(h:x.j=0)(d:E):x.n d=none:=by
 cases x with
 |g k=>exact G.k h .r d|_=>rfl
def GG {x:Lf}{n:List Lf}{v:SV}{r:Bb E×Ai}{i f:Au}(h:LOK P U Y Z F s x v r)(c:eZ U (t8<|x::n) (aU r.1 i) f):(∀e j,r.1=some e->x.m=some j->qK U j e (hd1 f))/\eZ U (t8 n) i (GU x f)/\(∀b,r.2=some b->x.j=1)/\(x.j=0\/x.j=1):=by
 let⟨m1,o,q,t,u⟩:=h;have m:x.j=0\/x.j=1:=by
  cases x with
  |g k=>exact k.t|_=>exact .inl rfl
 refine⟨?_,?_,λb p=>?_,m⟩
 .intro e j l a;rw[t8] at c;rw[a,l]at c;cases f with
  |nil=>exact c.elim|cons d f=>exact c.1
 .unfold t8 at c;cases a:x.m with
  |none=>rw[a,o a]at c;rw[GU,a];exact c|some j=>
   let⟨e,l⟩:=m1 j a;rw[a,l]at c;cases f with
   |nil=>exact c.elim|cons d f=>rw[GU,a];exact c.2
 grind
def iQ.d :∀ {l:List Lf} {vs:As} {d:Au} {bs:Ah} {c:Au} {xs:Af} {τ2:Tau} {num:Nat->Nat} {nb:Nat},iQ P U Y Z F s l vs d bs->eZ U (t8 l) d c->(∀i b,Y[i]? =some b->τ2 (num i)=Z b)->(∀k b,bs[k]? =some b->τ2 (nb+k)=Z b)->VDL P U Z F vs xs->VDL P U τ2 F (MN num l c nb) xs
 | [], [],  d, bs,  c, xs, τ2, num, nb, h,  m,  e,  a,  j => by have:=WP j.1.symm;subst this;exact ZK| [],_::_,d,bs,c,xs,τ2,num,nb,h,m,e,a,j=>h.elim|x::l,[],d,bs,c,xs,τ2,num,nb,h,m,e,a,j=>h.elim|x::l,v::vs,d,bs,c,xs,τ2,num,nb,h,m,e,a,j=>by obtain⟨r,t,q,rfl,rfl,n,p⟩:=h;obtain⟨y,G,rfl,u,w⟩:=j.f;let⟨s1,s2,B,z⟩:=GG n m;refine .g (n.2.2.2.1 y u τ2 num nb (hd1 c) e s1 λb g=>?_)<|iQ.d p s2 e (λk b f=>?_) w;have:=a 0 b (by rw[g];rfl);grind;obtain o|o:=z;rw[o,Yi];have g:=n.2.2.1 o;rw[g]at a;exact a k b f;let⟨C,_,A,L,D,g,_⟩:=n.2.2.2.2 (by omega);rw[g]at a;have:=a (k+1) b f;grind
def iQ.g :∀ {f:List Lf} {vs:As} {i:Au} {bs:Ah} {e:Au} {nb:Nat},iQ P U Y Z F s f vs i bs->eZ U (t8 f) i e-> ∀d y,lk (aD f e nb) d=some y-> ∃k b X g,d=nb+k/\bs[k]? =some b/\y=some X/\s.f b=some g/\(∀(B:Tau) o z,BD P U Z F o g z->BD P U B F o X z)/\(H9 P U g->H9 P U X)
 | [],vs,i,bs,e,nb,h,p=>λd y j=>by simp[aD,lk]at j
 |x::f,[],i,bs,e,nb,h,p=>h.elim|x::f,v::vs,i,bs,e,nb,h,p=>by
  obtain⟨r,J,H,rfl,rfl,q,t⟩:=h;let⟨s1,s2,W,S⟩:=GG q p;intro d y j;have C:=iQ.g (nb:=nb+x.j) t s2;by_cases c:x.j=0
  .have l:=q.2.2.1 c;have a:lk (aD f (GU x e)<|nb+x.j) d=some y:=by rw[aD] at j;rwa[Lf.e c]at j
   let⟨k,b,X,g,K,m⟩:=C d y a;exact⟨k,b,X,g,by omega,by rw[l];exact m⟩
  .have N:=S.resolve_left c;let⟨T,w,G,L,g,l,u,O,n⟩:=q.2.2.2.2 c;let⟨D,V,Q,R⟩:=n (hd1 e)<|s1 L T u w;have a:lk ((nb,some D)::aD f (GU x e) (nb+x.j)) d=some y:=by rw[aD] at j;grind
   rw[B3]at a;split at a;rename_i I;simp at a;exact⟨0,G,_,g,I.symm,by rw[l];rfl,a.symm,O,Q,R⟩;let⟨k,b,X,A,K,m,M⟩:=C d y a;exact⟨k+1,b,X,A,by omega,by rw[l];exact m,M⟩
def iQ.h :∀ {g:List Lf} {vs:As} {c:Au} {bs:Ah},iQ P U Y Z F s g vs c bs-> ∀ {k b:Nat},bs[k]? =some b-> ∃x,s.f b=some x
 | [],[],c,bs,h,k,b,a=>by rw[h.2]at a;simp at a| [],_::_,c,bs,h,k,b,a=>h.elim|p::g,[],c,bs,h,k,b,a=>h.elim|p::g,v::vs,c,bs,h,k,b,a=>by
  obtain⟨r,m,l,rfl,rfl,i,d⟩:=h;cases e:r.2 with
  |none=>rw[e]at a;exact d.h a|some j=>
   rw[e]at a;cases k with
   |succ k=>exact d.h a|zero=>
    have f:p.j≠0:=λn=>by rw[i.2.2.1 n]at e;cases e
    let⟨w,_,q,L,y,o,_,u,_⟩:=i.2.2.2.2 f;rw[e]at o;have t:j=b:=by simpa [aU]using a
    grind
def iQ.e :∀ {c:List Lf} {vs:As} {a:Au} {bs:Ah},iQ P U Y Z F s c vs a bs->a.length=(t8 c).length
 | [],[],a,bs,h=>by rw[h.1];rfl| [],_::_,a,bs,h=>h.elim|p::c,[],a,bs,h=>h.elim|p::c,v::vs,a,bs,h=>by
  obtain⟨r,j,i,rfl,rfl,f,d⟩:=h;have g:=d.e;rw[t8];cases b:p.m with
  |none=>rw[f.2.1 b];exact g|some l=>let⟨e,k⟩:=f.1 l b;rw[k];simp only[aU,XD,g]
end
inductive Vs where
 |t (l:Lf)
 |u (ls:List Lf)
def Vs.z :Vs->List Lf
 | .t l=>[l]
 | .u a=>a
def Vs.B :Vs->SV->Bb (As)
 | .t _,v=>some [v]| .u a,.w l=>bif Nat.beq l.length a.length then some l else none|_,_=>none
def hdV :As->SV
 | []=>.r|v::_=>v
def Vs.mk :Vs->As->SV
 | .t _,l=>hdV l| .u _,l=>.w l
def pH :List Vs->As->Bb (As)
 | [],[]=>some []|a::r,v::vs=>match a.B v with
  |some l=>match pH r vs with
   |some m=>some<|l++m|none=>none
  |none=>none
 |_,_=>none
def I3 :List Vs->List Lf
 | []=>[]
 |a::r=>a.z++I3 r
def DV :List Vs->As->As
 | [],_=>[]
 |a::r,b=>a.mk (b.take a.z.length)::DV r (b.drop a.z.length)
theorem VDL.d {b:As}{xs c:Af}(h:VDL P U Z F b (xs++c)):VDL P U Z F (b.take xs.length) xs/\VDL P U Z F (b.drop xs.length) c:=by
 induction xs generalizing b with
 |nil=>exact⟨by simpa using ZK,by grind⟩|cons x xs g=>
  cases b with
  |nil=>have:=h.1;simp at this|cons a b=>let⟨y,k,e,d,f⟩:=h.f;cases e;let⟨i,j⟩:=g f;exact⟨.g d i,j⟩
variable {l:As}
def Vs.A {a:Vs}{v:SV}{x:Av}(h:a.B v=l)(hv:VD P U Z F v x):∃xs,VDL P U Z F l xs/\xs.length=a.z.length/\ ∀(c:Tau) g d,VDL P U c g d xs->VD P U c g (a.mk d) x:=by
 cases a with
 |t q=>
  simp only[Vs.B,WJ]at h;subst h;refine⟨[x],.g hv .q,rfl,λc g d f=>?_⟩;cases d with
  |nil=>have:=f.1;simp at this|cons b d=>let⟨y,r,e,i,_⟩:=f.f;cases e;exact i
 |u o=>
  unfold Vs.B at h;split at h;grind
  .rename_i p m n;cases n;cases j:Nat.beq m.length o.length with
   |false=>grind|true=>
    rw[j,Xa,WJ]at h;subst h;cases hv with
    |agg _ xs i k=>exact⟨xs,⟨i,k⟩,by rw[<-i];exact WO j,λc g d f=>.agg d xs f.1 f.2⟩
  cases h
def pI {Z:Tau}{F:Ac}:∀ {i:List Vs} {vs d:As} {args:Af},pH i vs=d->VDL P U Z F vs args-> ∃f,VDL P U Z F d f/\f.length=(I3 i).length/\ ∀(b:Tau) e g rest,VDL P U b e g f->VDL P U b e (DV i<|g++rest) args
 | [],[],d,args,h,hv=>by simp only[pH,WJ]at h;subst h;have:=WP hv.1.symm;subst this;exact⟨[],.q,rfl,λ_ _ _ _ _=>.q⟩| [],_::_,d,args,h,hv=>by simp[pH]at h|_::_,[],d,args,h,hv=>by simp[pH]at h|a::r,v::vs,d,args,h,hv=>by
  rw[pH] at h;split at h
  .rename_i l s;split at h
   .rename_i m t;cases h;obtain⟨y,B,rfl,p,q⟩:=hv.f;let⟨xs,u,k,w⟩:=Vs.A s p;let⟨f,x,z,A⟩:=pI t q;refine⟨xs++f,u.j x,by simp[I3,k,z],λb e g rest j=>?_⟩;let⟨n,o⟩:=j.d;have c:xs.length<=g.length:=by rw[j.1];simp
    rw[DV,<-k,List.take_append_of_le_length c,List.drop_append_of_le_length c];exact .g (w b e _ n)<|A b e _ rest o
   cases h
  cases h
def Nz :List Vs->SV->Bb (As)
 | [_],a=>some [a]|_,.A l=>some l|_,_=>none
def yU :List Vs->As->SV
 | [_],l=>hdV l|_,l=>.A l
def LU {f:List Vs}{a:SV}{v:Av}(h:Nz f a=l)(hv:VD P U Z F a v):∃xs,VDL P U Z F l xs/\ ∀(c:Tau) g k,VDL P U c g k xs->VD P U c g (yU f k) v:=by
 unfold Nz at h;split at h
 .simp at h;subst h;refine⟨[v],.g hv .q,λc g i d=>?_⟩;cases i with
  |nil=>have:=d.1;simp at this|cons b i=>let⟨y,p,e,j,_⟩:=d.f;cases e;exact j
 .rename_i r m o;cases h;cases hv with
  |tup _ xs j n=>refine⟨xs,⟨j,n⟩,λc g i d=>?_⟩;unfold yU;split;grind;exact .tup i xs d.1 d.2
 cases h
abbrev cJ:=Ax ×Nat×List Lf
def MV :List cJ->List Lf
 | []=>[]
 |a::r=>a.2.2++MV r
def rI (s:SS):List cJ->Ah->Bb (As)
 | [],[]=>some []|a::r,b::bs=>match s.f b with
  | some (.f l  c  d) => bif !(Nat.beq a.1 rgT) && Nat.beq a.1  c && Nat.beq a.2.1  d && Nat.beq l.length a.2.2.length then
    match rI s r bs with
    |some m=>some<|l++m|none=>none
   else none
  | some (.m q L z) => bif Nat.beq q b && Nat.beq a.1 rgT && Nat.beq a.2.1 z && Nat.beq a.2.2.length 1 then
    match rI s r bs with
    |some m=>some<|.N L z::m|none=>none
   else none
  |_=>none
 |_,_=>none
def mkB1 (n:Nat)(a:cJ)(b:As):Bb C8:=bif Nat.beq a.1 rgT then match b with
  | .N L z::_=>bif Nat.beq z a.2.1&&Nat.ble 1 z then some (.m n L z)else none|_=>none
 else some (.f (b.take a.2.2.length) a.1 a.2.1)
def uX (b:Nat->Nat):Nat->List cJ->As->List (Nat×Bb C8)
 |_,[],_=>[]
 |i,a::r,c=>(b i,mkB1 (b i) a c)::uX b (i+1) r (c.drop a.2.2.length)
def BX (Z:Tau)(W:Hp):List cJ->Ah->Af->Prop
 | [],[],d=>d=[]
 | a :: r, b :: bs,  d => ∃ xs  e,  d = xs ++  e ∧ xs.length = a.2.2.length ∧ (a.1 ≠ rgT ∧ (∃ i o  c n, Z b = some (some (i, o)) ∧  W.m.l i = some (.cells  c n a.1 a.2.1) ∧ o + xs.length ≤ n ∧ ∀ (j : Nat) x, xs[j]? = some x →  c.l (o + j) = some x) ∨
   a.1=rgT/\Z b=some (some (0,0))/\ ∃(c:Ao) (n:Nat) (vs:Af),W.m.l 0=some (.reg c n rgT a.2.1)/\xs=[.func (.func 0) vs.toArray #[]]/\vs.length=n*a.2.1/\ ∀(j:Nat) x,vs[j]? =some x->c.l j=some x)/\BX Z W r bs e
 |_,_,_=>False
def BX.d {d:Tau}(e:Tle Z d):∀ {r:List cJ} {bs:Ah} {c:Af},BX Z W r bs c->BX d W r bs c
 | [],[],c,h=>h| [],_::_,c,h=>h.elim|_::_,[],c,h=>h.elim|a::r,b::bs,c,h=>by obtain⟨xs,p,k,l,⟨f,i,o,q,n,g,j⟩| ⟨f,g,j⟩,m⟩:=h;exact⟨xs,p,k,l,.inl ⟨f,i,o,q,n,e _ _ g,j⟩,m.d e⟩;exact⟨xs,p,k,l,.inr ⟨f,e _ _ g,j⟩,m.d e⟩
theorem BX.e :∀ {r:List cJ} {bs:Ah} {c:Af},BX Z W r bs c->bs.length=r.length/\c.length=(MV r).length
 | [],[],c,h=>by subst h;exact⟨rfl,rfl⟩| [],_::_,c,h=>h.elim|_::_,[],c,h=>h.elim|a::r,b::bs,c,h=>by obtain⟨xs,i,rfl,d,_,e⟩:=h;let⟨g,f⟩:=e.e;exact⟨by grind,by simp[MV,d,f]⟩
def pD {Z:Tau}{F:Ac}{s:SS}{W:Hp}(I:SD P U Z F s W):∀ {r:List cJ} {bs:Ah} {A:As},rI s r bs=A-> ∃g,VDL P U Z F A g/\BX Z W r bs g
 | [],[],A,h=>by simp only[rI,WJ]at h;subst h;exact⟨[],.q,rfl⟩| [],_::_,A,h=>by simp[rI]at h|_::_,[],A,h=>by simp[rI]at h|a::r,b::bs,A,h=>by
  rw[rI] at h;split at h
  .rename_i l K z' Q;cases u: !(Nat.beq a.1 rgT)&&Nat.beq a.1 K&&Nat.beq a.2.1 z'&&Nat.beq l.length a.2.2.length with
   |false=>grind|true=>
    rw [u, Xa] at h;simp only [WK,Xy,XI] at u;obtain ⟨⟨⟨c,rfl⟩,rfl⟩,C⟩:=u;have c : a.1 ≠ rgT:=λe=>by rw [e,w9 rfl] at c; cases c
    split at h
    .rename_i m V;cases h;let⟨g,q1,q2⟩:=pD I V;obtain⟨i,o,y,O,p,h3,t,n,rfl,h4,h5⟩| ⟨_,L,K,z',ph,p,_⟩:=I.f b _ Q
     .have v:∀j,∃x,∀f,l[j]? =some f->t.l (o+j)=some x/\VD P U Z F f x:=by
       intro j;cases B:l[j]? with
       |none=>exact⟨undef,λf e=>by cases e⟩|some f=>simp_all
      let⟨ch,R⟩:=Classical.axiomOfChoice v;let xs:=(List.range l.length).map ch
      have w:xs.length=l.length:=by simp[xs]
      have Y:∀(j:Nat) x,xs[j]? =some x-> ∃f,l[j]? =some f/\x=ch j:=by
       intro j x J;have B:j<l.length:=by grind
       refine⟨l[j],WV B,?_⟩;grind
      have hv:VDL P U Z F l xs:=⟨w.symm,λj f x ha J=>by obtain⟨_,_,rfl⟩:=Y j x J;exact(R j f ha).2⟩
      refine⟨xs++g,hv.j q1,xs,g,rfl,by rw[w];exact C,.inl ⟨c,i,o,t,n,O,p,by rw[w];exact h4,λj x J=>?_⟩,q2⟩;grind
     cases p
    cases h
  .rename_i q L z Q;cases u:Nat.beq q b&&Nat.beq a.1 rgT&&Nat.beq a.2.1 z&&Nat.beq a.2.2.length 1 with
   |false=>grind|true=>
    rw[u,Xa]at h;simp only[WK,Xy]at u;obtain⟨⟨⟨rfl,O⟩,p⟩,h3⟩:=u;split at h
    .rename_i m V;cases h;let⟨g,q1,q2⟩:=pD I V;obtain⟨i,o,y,k1,k2,k3,k4,k5,t,k6,k7,k8,k9,H⟩| ⟨_,L,K,z',ph,p,_⟩:=I.f q _ Q
     .rw[k5]at k1;cases k1;subst k6;let N:=(L.z U).length*z
      let vs:=(List.range N).map λj=>(t.l j).getD undef
      have G:vs.length=N:=by simp[vs]
      have ac:∀(j:Nat),j<N->vs[j]? =((t.l j).getD undef):=λj B=>by simp only[vs,XQ,List.getElem?_range B,XH]
      have aa:∀j,j<N-> ∃x,t.l j=some x:=by
       intro j B;have hz:0<z:=by grind
       have D:j/z<(L.z U).length:=(Nat.div_lt_iff_lt_mul hz).2 B;have E:(L.z U)[j/z]? =(L.z U)[j/z]:=by simp[D]
       have T:j % z<z:=Nat.mod_lt _ hz;obtain⟨x,M,_⟩:=H _ _ _ _ E (WV<|by rw[k9 _<|List.getElem_mem D];exact T);exact⟨x,by rw[<-M];congr 1;rw[Xq,Nat.mul_comm];exact(Nat.div_add_mod j z).symm⟩
      have S:RowsIn P F z vs (L.z U):=by
       refine⟨G,k8,k9,λr k row d D T=>?_⟩;let⟨x,M,e2⟩:=H r k row d D T;rw[Xq]at M;have ab:k<z:=by grind
       have:=WW z (show r+1<=(L.z U).length from ((WM.1 D).1));grind
      refine⟨.func (.func 0) vs.toArray #[]::g,.g (.rv L z vs S) q1,[_],g,rfl,h3.symm,.inr ⟨O,k5,t,_,vs,by rw[p];exact k2,rfl,by rw[p];exact G,λj x J=>?_⟩,q2⟩;grind
     cases p
    cases h
  cases h
def DU {Z v:Tau}{F:Ac}{W:Hp}{u:Nat->Nat}{rest:As}:∀ {r:List cJ} {bs:Ah} {w:Af} {l:As} {f:Nat},BX Z W r bs w->VDL P U v F l w->(∀j b,bs[j]? =some b->v (u<|f+j)=Z b)-> ∀ {b:Nat} {X:C8},lk (uX u f r<|l++rest) b=some (some X)-> ∃j C i o Y,b=u (f+j)/\bs[j]? =some C/\ ¬H9 P U X/\Z C=some (some (i,o))/\W.m.l i=some Y/\BD P U v F o X Y
 | [],[],w,l,f,h,hv,A,b,y,c=>by simp[uX,lk]at c| [],_::_,w,l,f,h,hv,A,b,y,c=>h.elim|_::_,[],w,l,f,h,hv,A,b,y,c=>h.elim|a::r,H::bs,w,l,f,h,hv,A,b,y,c=>by
  obtain⟨xs,ys,rfl,T,q,h7⟩:=h;let⟨K,g2⟩:=hv.d;have p:xs.length<=l.length:=by rw[hv.1];simp
  rw[uX] at c;rw[<-T,List.drop_append_of_le_length p,B3]at c;split at c
  .rename_i e;simp only[WJ]at c;obtain⟨M,i,o,I,n,D,N,O,h6⟩| ⟨M,D,I,n,vs,N,rfl,O,h6⟩:=q;unfold mkB1 at c;rw[B0 M,Xb,<-T,List.take_append_of_le_length p,WJ]at c;subst c;refine⟨0,H,i,o,_,e.symm,rfl,?_,D,N,?_⟩;rintro ⟨L,e',z',ph,G,_⟩;cases G;refine⟨I,n,rfl,by rw[K.1];exact O,λj a' ha=>?_⟩;let⟨x,hx,ab⟩:=K.p ha;grind
   .have G:=K;cases l with
    |nil=>grind|cons g aa=>
     let⟨_,_,J,E,_⟩:=hv.f;cases J;unfold mkB1 at c;rw[M,w9 rfl,Xa]at c;split at c
     .rename_i L z _ R;cases R;cases Q:Nat.beq z a.2.1&&Nat.ble 1 z with
      |false=>grind|true=>
       rw[Q,Xa,WJ]at c;subst c;simp only[WK,Xy,XX]at Q;let⟨V,S⟩:=Q;refine⟨0,H,0,0,_,e.symm,rfl,?_,D,N,rfl,(A 0 H rfl).trans D,I,?_,?_⟩;rintro ⟨L',e',z',ph,G,_⟩;cases G
       .generalize s:Value.func (.func 0) vs.toArray #[]=fv at E;cases E with
        |rv _ _ xs t=>
         injection s with _ B _;have B:vs=xs:=by grind
         subst B;have:=t.1;rw[O,<-V]at this;rw[Nat.eq_of_mul_eq_mul_right S this,V]
       .generalize s:Value.func (.func 0) vs.toArray #[]=fv at E;cases E with
        |rv _ _ xs t=>
         injection s with _ B _;have B:vs=xs:=by grind
         subst B;let⟨k1,k2,k3,k4⟩:=t;refine⟨by omega,k2,k3,λr k row d hr hk=>?_⟩;grind
     cases c
  let⟨j,C,i',o',Y,J,e2,e3⟩:=DU h7 g2 (λj b hb=>by have:=A (j+1) b hb;rw[show f+1+j=f+(j+1) by omega];exact this) c;exact⟨j+1,C,i',o',Y,by rw[J];congr 1;omega,e2,e3⟩
def yH {num:Nat->Nat}:∀ {r:List cJ} {fl:As} {i0 j:Nat},j<r.length->num (i0+j)∈(uX num i0 r fl).map Prod.fst
 | [],fl,i0,j,h=>by grind|a::r,fl,i0,0,h=>by simp[uX]|a::r,fl,i0,j+1,h=>by simp only[uX,XU,Xw];have:=yH (num:=num) (fl:=fl.drop a.2.2.length) (i0:=i0+1) (by simpa using h);grind
end
structure Con where
 n:String
 m:List Vs
 d:List cJ
 r:As->SS->Bb (Ah)
 p:Ar->Prop
 j:List Vs
 k:List cJ
 t:SV->SS->Bb (Ah)
 q:Ar->Ar->Prop
def Con.e (c:Con):List Lf:=I3 c.m++MV c.d
def Con.h (c:Con):List Lf:=I3 c.j++MV c.k
def Z7 :Nat->Nat->Ah
 |_,0=>[]
 |i,n+1=>i::Z7 (i+1) n
def G6 :∀(n i:Nat),(Z7 i n).length=n
 |0,_=>rfl|n+1,i=>by simp[Z7,G6 n]
def jP :∀(n i k:Nat),(Z7 i n)[k]? =if k<n then some (i+k)else none
 |0,i,k=>rfl|n+1,i,0=>rfl|n+1,i,k+1=>by simp only[Z7,WU,jP n (i+1) k];grind
def idN :Nat->Nat:=λi=>i
def pL (c:Con)(a:Au):As:=MN idN c.e a c.d.length
def eL (c:Con)(a:Au):As:=DV c.m<|pL c a
def gst (c:Con)(a:Au)(fv:Nat):SS:=⟨uX idN 0 c.d ((pL c a).drop (I3 c.m).length)++aD c.e a c.d.length,c.d.length+I5 c.e,[],fv,[]⟩
def vD (d:Tau)(c:Ah):Tau:=λb=>match c[b]? with
 |some a=>d a|none=>none
def mK (c:Con)(a:Ah)(n:Nat)(i:Nat):Nat:=bif Nat.ble (i+1) c.d.length then a.getD i 0 else n+(i-c.d.length)
def pK (c:Con)(b:Au)(s:SS)(a:Ah):As:=MN (mK c a s.g) c.h b<|s.g+(c.k.length-c.d.length)
def fst_ (c:Con)(d:Au)(s:SS)(b a:Ah):SS:=
 ⟨uX (mK c b s.g) 0 c.k ((pK c d s b).drop (I3 c.j).length)++(aD c.h d (s.g+(c.k.length-c.d.length))++(iE (a++(b++ [s.g]))++s.h)),s.g+(c.k.length-c.d.length)+I5 c.h,s.p,s.m+(t8 c.h).length,s.r⟩
def xW (s:SS)(b:Nat):Bool:=(s.f b).isSome
section
variable (P :Aw)(U:Ab)
def cfin (c:Con)(f:Au)(a:SV):M Unit:=z7 λs=>match Nz c.j a with
 |none=>c9 "contract: result"|some l=>match pH c.j l with
  |none=>c9 "contract: results"|some d=>match c.t a s with
   |none=>c9 "contract: new blocks"|some b=>match rI s c.k (Z7 0 c.d.length++b)with
    |none=>c9 "contract: blocks behind"|some e=>d8 (CD P U c.h<|d++e) λvs=>d8 (mtL U (Z7 0 c.d.length++b) c.h vs) λt=>z7 λs2=>
     bif (Z7 0 c.d.length++b).all (xW s2)&&eJ (b++t.2)&&b.all (Nat.ble<|c.d.length+I5 c.e)&&t.2.all (Nat.ble c.d.length)&&Nat.beq t.2.length (I5 c.h)&&Nat.beq (b.length+c.d.length) c.k.length then
      λ_=>.r (.f (c.n++ "Rel") [(t8 c.e).zip f,(t8 c.h).zip t.1]) (c.q (u9 U (t8 c.e) f)<|u9 U (t8 c.h) t.1) .w
     else c9 "contract: the end"
def cvc (c:Con)(b:As->M SV):Tr (Unit×SS):=
 FR (t8 c.e) 0 λa=>.z (.f (c.n++ "Pre") [(t8 c.e).zip a]) (c.p<|u9 U (t8 c.e) a)<|(d8 (b<|eL c a)<|cfin P U c a)<|gst c a (t8 c.e).length
def kcon (c:Con)(args:As):M SV:=z7 λf=>match pH c.m args with
 |none=>c9 "contract: arguments"|some d=>match c.r args f with
  |none=>c9 "contract: no blocks"|some a=>match rI f c.d a with
   |none=>c9 "contract: blocks"|some e=>d8 (CD P U c.e<|d++e) λvs=>d8 (mtL U a c.e vs) λt=>z7 λs1=>
    bif a.all (xW s1)&&eJ (a++t.2)&&Nat.beq t.2.length (I5 c.e)&&Nat.ble c.d.length c.k.length then
     λ_=>.r (.f (c.n++ "Pre") [(t8 c.e).zip t.1]) (c.p<|u9 U (t8 c.e) t.1) (FR (t8 c.h) s1.m λb=>.z (.f (c.n++ "Rel") [(t8 c.e).zip t.1,(t8 c.h).zip b]) (c.q (u9 U (t8 c.e) t.1)<|u9 U (t8 c.h) b)
      (.j (yU c.j<|DV c.j<|pK c b s1 a,fst_ c b s1 a t.2)))
    else c9 "contract: the start"
end
section
variable {P :Aw}{U:Ab}{ov:Aa}
def rT {s:SS}{b:Nat}(h:xW s b):∃x,s.f b=some x:=Option.isSome_iff_exists.1 h
def T4 {d:Tau}{c:Ah}{b a:Nat}(h:c[b]? =a):vD d c b=d a:=by rw[vD,h]
variable {c:Con}
def PI {v:Tau}{F:Ac}{s:SS}{Q:Hp}{vs:As}{A B:Af}{f a:Ah}{es p:Au}{fv:Nat}(D:SD P U v F s Q)(hv:VDL P U v F vs (A++B))(h1:A.length=(I3 c.m).length)(hb:BX v Q c.d f B)(hm:iQ P U f v F s c.e vs es a)(hd:eJ (f++a))(r:∀b∈f,∃x,s.f b=some x)(hn:a.length=I5 c.e)(K:eZ U (t8 c.e) es p):SD P U (vD v<|f++a) F (gst c p fv) Q/\VDL P U (vD v<|f++a) F (pL c p) (A++B)/\ ∀b x,(gst c p fv).f b=some x-> ∃d l,(f++a)[b]? =some d/\s.f d=some l:=by
 have ab:f.length=c.d.length:=hb.e.1;have W:∀i b,f[i]? =some b->(f++a)[i]? =some b:=λi b h=>by rw[WS (WM.1 h).1];exact h
 have X:∀k b,a[k]? =some b->(f++a)[c.d.length+k]? =some b:=λk b h=>by grind
 have t:VDL P U (vD v<|f++a) F (pL c p) (A++B):=hm.d K (λi b h=>T4<|W i b h) (λk b h=>T4<|X k b h) hv;let⟨_,v2⟩:=t.d;rw[h1]at v2;have aa:=hm.g (nb:=c.d.length) K;have H:∀b x,(gst c p fv).f b=some x->
   (∃d i o Y,f[b]? =some d/\ ¬H9 P U x/\v d=some (some (i,o))/\Q.m.l i=some Y/\BD P U (vD v<|f++a) F o x Y)\/
   (∃k d l,b=c.d.length+k/\a[k]? =some d/\s.f d=some l/\(∀(Z:Tau) o z,BD P U v F o l z->BD P U Z F o x z)/\(H9 P U l->H9 P U x)):=by
  intro b x g;have n:(match lk (uX idN 0 c.d ((pL c p).drop (I3 c.m).length)++aD c.e p c.d.length) b with|some x=>x|none=>none)=some x:=g;rw[O6]at n;cases R:lk (uX idN 0 c.d<|(pL c p).drop (I3 c.m).length) b with
  |some y=>
   rw[R]at n;simp only at n;subst n;rw[<-YD ((pL c p).drop (I3 c.m).length)]at R;let⟨j,bj,i,o,Y,w,C,N,O,e6,e7⟩:=DU hb v2 (λj b hj=>by rw[Xq];exact T4<|W j b hj) R;have:b=j:=by rw[w];show 0+j=j;omega
   grind
  |none=>grind
 have src:∀b x,(gst c p fv).f b=some x-> ∃d l,(f++a)[b]? =some d/\s.f d=some l:=λb x g=>by obtain⟨d,i,o,Y,w,_⟩| ⟨k,d,l,rfl,C,I,_⟩:=H b x g;let⟨l,L⟩:=r d<|WT w;grind;grind
 refine⟨⟨λb x g=>?_,λb b2 x y i o j q g S T w C=>?_,D.p,λb i o h=>?_,D.B,λb J=>?_,(λ_ _ h=>by cases h),λ_ h=>by cases h⟩,t,src⟩;obtain⟨d,i,o,Y,w,C,I,N,O⟩| ⟨k,d,l,rfl,C,I,N,O⟩:=H b x g;let⟨l,L⟩:=r d<|WT w;obtain⟨i',o',y',u,_,G,_⟩| ⟨u,_⟩:=D.f d l L;rw[I]at u;cases u;exact .inl ⟨i,o,Y,by rw[T4<|W b d w];exact I,N,G,O⟩;grind;obtain⟨i,o,y,u,M,G,V⟩| ⟨u,M⟩:=D.f d l I;exact .inl ⟨i,o,y,by rw[T4<|X k d C];exact u,M,G,N _ o y V⟩;exact .inr ⟨by rw[T4<|X k d C];exact u,O M⟩;let⟨d,l,u,M⟩:=src b x g;let⟨c',y',G,V⟩:=src b2 y S;rw[T4 u]at w;rw[T4 G]at C;refine D.A d c' l y' i o j q M V (λe=>?_) w C;subst e;exact T<|eK hd b b2 d u G;rw[vD] at h;split at h;exact D.C _ i o h;cases h;have J:c.d.length+I5 c.e<=b:=J;rw[vD];grind
variable (P U) in
def RX (c:Con)(X:Af->Hp->Av->Hp->Prop)(n:Au)(q:Tau)(F:Ac)(p:Hp)(xs:Af):Prop:=
 ∃v d k l e vs f i h g a,X xs p v e/\Ext q F (gst c (G2 U (t8 c.e) 0 n) (t8 c.e).length) p d k l e/\SD P U d k l e/\VDL P U d k vs (f++i)/\f.length=(I3 c.j).length/\
  (∀(j:Tau) m o rest,VDL P U j m o f->VD P U j m (yU c.j<|DV c.j<|o++rest) v)/\BX d e c.k (Z7 0 c.d.length++g) i/\iQ P U (Z7 0 c.d.length++g) d k l c.h vs h a/\
  (∀b∈Z7 0 c.d.length++g,∃x,l.f b=some x)/\eJ (g++a)/\(∀b∈g,c.d.length+I5 c.e<=b)/\(∀b∈a,c.d.length<=b)/\a.length=I5 c.h/\g.length+c.d.length=c.k.length/\
  c.q (u9 U (t8 c.e) n) (u9 U (t8 c.h) h)
variable (P U) in
def Vd (c:Con)(e:Af->Prop)(X:Af->Hp->Av->Hp->Prop):Prop:=∀(a:Au),a.length=(t8 c.e).length->c.p (u9 U (t8 c.e) a)-> ∀b F d xs,SD P U b F (gst c (G2 U (t8 c.e) 0 a) (t8 c.e).length) d->VDL P U b F (eL c<|G2 U (t8 c.e) 0 a) xs->e xs->RX P U c X a b F d xs
variable (P U ov) in
def j3 (c:Con)(g:Ay):Prop:=∀(a:Au),a.length=(t8 c.e).length->c.p (u9 U (t8 c.e) a)-> ∀b F d xs,SD P U b F (gst c (G2 U (t8 c.e) 0 a) (t8 c.e).length) d->VDL P U b F (eL c<|G2 U (t8 c.e) 0 a) xs->RX P U c (P0 P ov g) a b F d xs
def NA {x:As->M SV}{Pm:Af->Prop}{X:Af->Hp->Av->Hp->Prop}(w:∀g y F s xs,VDL P U y F (eL c g) xs->Pm xs->SD P U y F (gst c g (t8 c.e).length) s->OKh P U (x<|eL c g) y F (gst c g (t8 c.e).length) s λa ae F' V=>∃v,X xs s v V/\VD P U ae F' a v)(ac:(cvc P U c x).q U λ_=>True):Vd P U c Pm X:=by
 intro g f u y F s xs hs hx Z;rw[RX];have d:=kT _ _ _ ac g f;have d:=d (by rw[M7 _ _ _ f];exact u);generalize L:G2 U (t8 c.e) 0 g=ds at*;rw[C3]at d;let⟨a,s1,d,ah,F1,W,G,k,v,j,ab⟩:=w _ y F s xs hx Z hs _ d hs;simp only[cfin,z7]at d;cases B:Nz c.j a with
 |none=>rw[B]at d;exact d.elim|some l=>
 rw[B]at d;simp only at d;cases C:pH c.j l with
 |none=>rw[C]at d;exact d.elim|some H=>
 rw[C]at d;cases c3:c.t a s1 with
 |none=>rw[c3]at d;exact d.elim|some n=>
 rw[c3]at d;simp only at d;cases D:rI s1 c.k (Z7 0 c.d.length++n)with
 |none=>rw[D]at d;exact d.elim|some I=>
 rw[D]at d;let⟨us,R,S⟩:=LU B ab;let⟨p,N,O,Q⟩:=pI C R;let⟨q,J,K⟩:=pD k D;rw[C3]at d;obtain⟨vs,s2,d,ai,F2,Y,o,m,rfl,ad⟩:=jO c.h (H++I) (p++q) ah F1 s1 W (N.j J) k _ d k;rw[C3]at d;obtain⟨⟨E,e⟩,s3,d,o3,r,T⟩:=yL (Z7 0 c.d.length++n) c.h vs s2 _ d m.I;simp only[z7]at d;cases A:(Z7 0 c.d.length++n).all (xW s3)&&eJ (n++e)&&n.all (Nat.ble<|c.d.length+I5 c.e)&&e.all (Nat.ble c.d.length)&&Nat.beq e.length (I5 c.h)&&Nat.beq (n.length+c.d.length) c.k.length with
 |false=>rw[A]at d;exact d.elim|true=>
 rw[A]at d;simp only[WK,Xo,XX,Xy]at A;let⟨⟨⟨⟨⟨k1,k2⟩,k3⟩,k4⟩,k5⟩,k6⟩:=A;have i:=d.1;have hd:u9 U (t8 c.e) ds=u9 U (t8 c.e) g:=by rw[<-L];exact M7 _ _ _ f
 rw[hd]at i;exact⟨v,ai,F2,s3,Y,vs,p,q,E,n,e,j,G.g<|o.g<|Zd m o3,m.D o3 r,ad,O,λz F3 gl rest hg=>S z F3 _<|Q z F3 gl rest hg,K.d o.t,T s3 o3.h,
  λb hb=>rT<|k1 b hb,k2,k3,k4,k5,k6,i⟩
def CM {run:As->M SV}{g:Ay}(d:E5 P U ov run g)(h:(cvc P U c run).q U λ_=>True):j3 P U ov c g:=
 λj a b i F e xs f l=>NA (Pm:=λ_=>True) (λj i F e xs k _ f=>d _ xs i F _ e k f) h j a b i F e xs f l trivial
end
section
variable {P :Aw}{U:Ab}{ov:Aa}
variable {c:Con}{W:Ah}
def vM {n i b:Nat}(a:i<c.d.length)(h:W[i]? =b):mK c W n i=b:=by rw[mK,WQ a,Xa,List.getD,h];rfl
def vL {n k:Nat}:mK c W n (c.d.length+k)=n+k:=by
 rw[mK];have:Nat.ble (c.d.length+k+1) c.d.length=false:=by
  cases h:Nat.ble (c.d.length+k+1) c.d.length with
  |false=>rfl|true=>simp_all;omega
 grind
def Vy {s:Tau}{F1:Ac}{s1:SS}{ai:Hp}{a:Ah}{aa:Au}{fv:Nat}{t:Tau}{F':Ac}{s':SS}{S:Hp}{vs:As}{am an:Af}{es N:Au}{I g:Ah}(w:SD P U s F1 s1 ai)(cd:W.length=c.d.length)(cf:a.length=I5 c.e)(bg:∀b∈W++a,∃x,s1.f b=some x)(_:eJ (W++a))(bv:∀b x,(gst c aa fv).f b=some x-> ∃d u,(W++a)[b]? =some d/\s1.f d=some u)(ex:Ext (vD s<|W++a) F1 (gst c aa fv) ai t F' s' S)(hs:SD P U t F' s' S)(hv:VDL P U t F' vs (am++an))(ce:am.length=(I3 c.j).length)(J:BX t S c.k (Z7 0 c.d.length++I) an)(hm:iQ P U (Z7 0 c.d.length++I) t F' s' c.h vs es g)(hl:∀b∈Z7 0 c.d.length++I,∃x,s'.f b=some x)(hd:eJ (I++g))(cu:∀b∈I,c.d.length+I5 c.e<=b)(co:∀b∈g,c.d.length<=b)(ci:g.length=I5 c.h)(ct:I.length+c.d.length=c.k.length)(bu:eZ U (t8 c.h) es N):SD P U (V1 s t s1.g<|I++g) F' (fst_ c N s1 W a) S/\Ext s F1 s1 ai (V1 s t s1.g<|I++g) F' (fst_ c N s1 W a) S/\VDL P U (V1 s t s1.g<|I++g) F' (pK c N s1 W) (am++an):=by
 obtain⟨T,hT⟩:∃T,T=V1 s t s1.g (I++g):=⟨_,rfl⟩;obtain⟨M,hM⟩:∃M,M=uX (mK c W s1.g) 0 c.k ((pK c N s1 W).drop (I3 c.j).length):=⟨_,rfl⟩;rw[<-hT];have bt:c.k.length-c.d.length=I.length:=by omega
 have bl:(gst c aa fv).g=(W++a).length:=by show c.d.length+I5 c.e=_;rw[Xl,cd,cf]
 have bc:∀b x,s1.f b=some x->b<s1.g:=λb x h=>w.w h;have bi:∀b p,s b=some p->b<s1.g:=λb p J=>Nat.lt_of_not_le λap=>by rw[w.g b ap]at J;cases J
 have lo:∀b,b<s1.g->T b=s b:=λb J=>hT▸gP J;have ca:∀k b,(W++a)[k]? =some b->b<s1.g/\t k=s b:=λk b h=>by let⟨x,hx⟩:=bg b<|WT h;exact⟨bc b x hx,by rw[ex.A k<|by rw[bl];exact(WM.1 h).1,T4 h]⟩
 have ah:∀i b,(Z7 0 c.d.length++I)[i]? =some b->T (mK c W s1.g i)=t b:=by
  intro i b h;by_cases R:i<c.d.length
  .rw[WS (by rw[G6];exact R),jP,Xg R,Xq]at h;cases h;have cj:(W++a)[i]? =(W[i]'(by omega)):=by grind
   let⟨C,D⟩:=ca i _ cj;rw[vM R (WV (by omega)),lo _ C,D]
  .rw[WR (by rw[G6];omega),G6]at h;obtain⟨k,rfl⟩:∃k,i=c.d.length+k:=⟨i-c.d.length,by omega⟩
   rw[Yp]at h;rw[vL,hT];exact lV (by rw[WS (WM.1 h).1];exact h)
 have bm:∀k b,g[k]? =some b->T (s1.g+(c.k.length-c.d.length)+k)=t b:=λk b h=>by rw[bt,Yc,hT];exact lV (by rw[WR<|by omega,Yp];exact h)
 have ak:VDL P U (T) F' (pK c N s1 W) (am++an):=hm.d bu ah bm hv;let⟨_,v2⟩:=ak.d;rw[ce]at v2;have aj:Tle s (T):=λb p J=>by rw[lo b<|bi b p J];exact J
 have K:∀k b,(Z7 0 c.d.length++(I++g))[k]? =some b->T (mK c W s1.g k)=t b:=by
  intro k b h;by_cases R:k<c.d.length;refine ah k b ?_;rw[WS<|by rw[G6];exact R]at h⊢;exact h
  .rw[WR (by rw[G6];omega),G6]at h;obtain⟨j,rfl⟩:∃j,k=c.d.length+j:=⟨k-c.d.length,by omega⟩
   rw[Yp]at h;rw[vL,hT];exact lV h
 have bk:∀(k k':Nat) b,(Z7 0 c.d.length++(I++g))[k]? =some b->(Z7 0 c.d.length++(I++g))[k']? =some b->k=k':=by
  have bq:∀b∈I++g,c.d.length<=b:=λb J=>by grind
  intro k k' b h h';by_cases hk:k<c.d.length;rw[WS<|by rw[G6];exact hk,jP,Xg hk,Xq]at h;cases h;by_cases ad:k'<c.d.length;rw[WS<|by rw[G6];exact ad,jP,Xg ad,Xq]at h';grind;rw[WR<|by rw[G6];omega]at h';have:=bq k<|WT h';omega;rw[WR<|by rw[G6];omega]at h;by_cases ad:k'<c.d.length;rw[WS<|by rw[G6];exact ad,jP,Xg ad,Xq]at h';cases h';have:=bq k'<|WT h;omega;rw[WR<|by rw[G6];omega]at h';have:=eK hd _ _ b h h';rw[G6]at this;omega
 have ab:∀b x,(fst_ c N s1 W a).f b=some x->
   (∃k d,b=mK c W s1.g k/\(Z7 0 c.d.length++(I++g))[k]? =some d/\(∃u,s'.f d=some u)/\
    ((∃i o Y,t d=some (some (i,o))/\S.m.l i=some Y/\F' i=none/\BD P U (T) F' o x Y)\/(t d=some none/\H9 P U x)))\/
   (b<s1.g/\b∉W/\b∉a/\s1.f b=some x):=by
  intro b x Q;have l:(match lk (M++(aD c.h N (s1.g+(c.k.length-c.d.length))++(iE (a++(W++ [s1.g]))++s1.h))) b with|some x=>x|none=>none)=some x:=by rw[hM];exact Q
  rw[O6,O6,O6]at l;cases c1:lk M b with
  |some y=>
   rw[c1]at l;subst l;rw[hM,<-YD ((pK c N s1 W).drop (I3 c.j).length)]at c1;let⟨j,bj,i,o,Y,e1,O,_,e5,e6,e7⟩:=DU J v2 (λj b hj=>by rw[Xq];exact ah j b hj) c1;left;let⟨u,ax⟩:=hl bj<|WT O;have hF:F' i=none:=by obtain⟨i',o',y',C,_,k3,_⟩| ⟨C,_⟩:=hs.f bj u ax;grind;grind
   refine⟨j,bj,by rw[e1,Xq],?_,⟨u,ax⟩,.inl ⟨i,o,Y,e5,e6,hF,e7⟩⟩;rw[<-WX,WS (WM.1 O).1];exact O
  | none =>
   rw[c1]at l;cases c2:lk (aD c.h N<|s1.g+(c.k.length-c.d.length)) b with
   |some y=>rw[c2]at l;subst l;let⟨k,d,X,u,e1,O,e3,e4,e5,e6⟩:=(hm.g (nb:=s1.g+(c.k.length-c.d.length)) bu) b _ c2;cases e3;left;refine⟨c.d.length+(I.length+k),d,by rw[vL,e1,bt,Yc],?_,⟨u,e4⟩,?_⟩;rw[WR<|by rw[G6];omega,G6,Yp,WR<|by omega,Yp];exact O;obtain⟨i,o,y,C,D,k3,k4⟩| ⟨C,D⟩:=hs.f d u e4;exact .inl ⟨i,o,y,C,D,k3,e5 _ o y k4⟩;exact .inr ⟨C,e6 D⟩
   |none=>
    rw[c2,W0]at l;simp only at l;by_cases hk:b∈a++(W++ [s1.g])
    rw[Xg hk]at l;cases l
    .rw[Xd hk]at l;have B:s1.f b=some x:=l;refine .inr ⟨bc b x B,λac=>?_,λh=>hk<|YK _ h,B⟩;let⟨i,R⟩:=XY.1 ac;have v:i<c.d.length:=by have:=(WM.1 R).1;omega
     have:=yH (num:=mK c W s1.g) (r:=c.k) (fl:=(pK c N s1 W).drop (I3 c.j).length) (i0:=0) (j:=i) (by omega);rw[Xq,vM v R,<-hM]at this;exact absurd this<|DR c1
 let⟨lg,a1,a2,a3,a4,_⟩:=ex.B;have G:∀Z x i o,(gst c aa fv).f Z=some x->vD s (W++a) Z=some (some (i,o))-> ∃d u,d∈W++a/\s1.f d=some u/\s d=some (some (i,o)):=λZ x i o h0 V=>by let⟨d,u,C,D⟩:=bv Z x h0;rw[T4 C]at V;exact⟨d,u,WT C,D,V⟩
 have bz:∀b i o,b<(gst c aa fv).g->t b=some (some (i,o))-> ∃d u,d∈W++a/\s1.f d=some u/\s d=some (some (i,o)):=λb i o J V=>by rw[bl]at J;have hg:=WV J;let⟨_,D⟩:=ca b _ hg;let⟨x,hx⟩:=bg _<|WT hg;rw[D]at V;exact⟨_,x,WT hg,hx,V⟩
 have ay:∀b i o,t b=some (some (i,o))->ai.d<=i\/ ∃d u o',d∈W++a/\s1.f d=some u/\s d=some (some (i,o')):=λb i o V=>by by_cases J:b<(gst c aa fv).g;let⟨d,u,A,H,h3⟩:=bz b i o J V;exact .inr ⟨d,u,o,A,H,h3⟩;obtain h| ⟨Z,x,o0,A,H,_⟩:=a3 b i o (Yt J) V;omega;let⟨d,u,C,D,k3⟩:=G Z x i o0 A H;exact .inr ⟨d,u,o0,C,D,k3⟩
 have L:∀b x i o c' y o',s1.f b=some x->b∉W->b∉a->s b=some (some (i,o))->c'∈W++a->s1.f c'=some y->s c'=some (some (i,o'))->False:=by
  intro b x i o c' y o' A H h3 h4 h5 h6 h7;have au:b≠c':=λe=>by subst e;obtain h|h:=Xv.1 h5;exact H h;exact h3 h
  exact w.A b c' x y i o i o' A h6 au h4 h7 rfl
 have bh:∀b∈W,b∈M.map Prod.fst:=by
  intro b ac;let⟨i,R⟩:=XY.1 ac;have v:i<c.d.length:=by have:=(WM.1 R).1;omega
  have:=yH (num:=mK c W s1.g) (r:=c.k) (fl:=(pK c N s1 W).drop (I3 c.j).length) (i0:=0) (j:=i) (by omega);rw[Xq,vM v R,<-hM]at this;exact this
 have al:∀b∈W++a,b∈(M++(aD c.h N (s1.g+(c.k.length-c.d.length))++iE (a++(W++ [s1.g])))).map Prod.fst:=λb ac=>by simp only[XJ,Xv];obtain h|h:=Xv.1 ac;exact .inl<|bh b h;exact .inr<|.inr<|Yw.2 ⟨(b,none),bX<|by rw[W0,Xg<|YK _ h],rfl⟩
 have F:∀b x i o,s1.f b=some x->b∉W->b∉a->s b=some (some (i,o))->S.m.l i=ai.m.l i:=λb x i o A H h3 h4=>by refine a2 i (w.C b i o h4) λZ x0 o0 C D _=>?_;let⟨d,u,q1,q2,q3⟩:=G Z x0 i o0 C D;exact L b x i o d u o0 A H h3 h4 q1 q2 q3
 refine⟨⟨λb x Q=>?_,λb b2 x y i o j q Q bp au e1 O=>?_,hs.p,λb i o h=>?_,hs.B,λb ap=>?_,w.I,λr hr=>(w.N r hr).f aj ex.f⟩,⟨aj,ex.f,ex.q,?_,λb J=>lo b J,λb x Q v=>?_,⟨M++(aD c.h N (s1.g+(c.k.length-c.d.length))++iE (a++(W++ [s1.g]))),?_,λi R aw=>?_,λb i o bn V=>?_,λi y R hy=>?_,λhp=>absurd rfl<|hp (s1.g,none)<|Yy _<|Yy _<|bX<|by rw[W0,Xg<|Yy _<|by simp]⟩,⟨[],rfl⟩,⟨M++(aD c.h N (s1.g+(c.k.length-c.d.length))++iE (a++(W++ [s1.g]))),?_,λb c' e z i o cs n bn ck cr hg cg=>⟨cs,?_,λ_ _=>rfl⟩⟩⟩,ak⟩
 rotate_right 2
 rw[hM,WX,WX];rfl
 .have aw:b∉a++(W++ [s1.g]):=λq=>by let⟨_,q',_⟩:=cg none (Yy _<|Yy _<|bX<|by rw[W0,Xg q]);cases q'
  rw[F b _ i o bn (λq=>aw<|Yy _<|YK _ q) (λq=>aw<|YK _ q) ck];exact hg
 .rcases ab b x Q with⟨k,d,rfl,O,_,h⟩| ⟨v,aq,av,B⟩;obtain⟨i,o,Y,A,H,h3,h4⟩| ⟨A,H⟩:=h;exact .inl ⟨i,o,Y,by rw[K k d O];exact A,H,h3,h4⟩;exact .inr ⟨by rw[K k d O];exact A,H⟩
  .rcases w.f b x B with⟨i,o,y,A,H,h3,h4⟩| ⟨A,H⟩
   .refine .inl ⟨i,o,y,by rw[lo b v];exact A,by rw[F b x i o B aq av A];exact H,?_,h4.f aj ex.f⟩;cases hF:F' i with
    |none=>rfl|some y'=>exfalso;obtain h5| ⟨Z,o0,h5,_⟩:=a4 i y' (w.C b i o A) hF;rw[h3]at h5;cases h5;obtain h6| ⟨d,u,o',h6,h7,h8⟩:=ay Z i o0 h5;have:=w.C b i o A;omega;exact L b x i o d u o' B aq av A h6 h7 h8
   exact .inr ⟨by rw[lo b v];exact A,H⟩
 .have mixed:∀ {b b2 x y i o j q} {k d:Nat},(Z7 0 c.d.length++(I++g))[k]? =some d->T (mK c W s1.g k)=some (some (i,o))->b=mK c W s1.g k->s1.f b2=some y->b2<s1.g->b2∉W->b2∉a->
    T b2=some (some (j,q))->i≠j/\(x:C8)=x:=by
   intro b b2 x y i o j q k d C D _ k3 k4 k5 k6 k7;refine⟨λe=>?_,rfl⟩;subst e;rw[K k d C]at D;rw[lo b2 k4]at k7;obtain h| ⟨cb,cn,cm,A,H,h3⟩:=ay d i o D;have:=w.C b2 i q k7;omega;exact L b2 y i q cb cn cm k3 k5 k6 k7 A H h3
  obtain⟨k,d,rfl,C,⟨u,ax⟩,_⟩| ⟨v,aq,av,B⟩:=ab b x Q;obtain⟨k',bb,rfl,D,⟨y',bw⟩,_⟩| ⟨ae,az,ba,be⟩:=ab b2 y bp;rw[K k d C]at e1;rw[K k' bb D]at O;refine hs.A d bb u y' i o j q ax bw (λe=>?_) e1 O;subst e;exact au (by rw[bk k k' d C D]);exact(mixed (b:=mK c W s1.g k) (x:=x) C e1 rfl be ae az ba O).1;obtain⟨k',bb,rfl,D,⟨y',bw⟩,_⟩| ⟨ae,az,ba,be⟩:=ab b2 y bp;exact Ne.symm (mixed (b:=mK c W s1.g k') (x:=x) D O rfl B v aq av e1).1;rw[lo b v]at e1;rw[lo b2 ae]at O;exact w.A b b2 x y i o j q B be au e1 O
 by_cases v:b<s1.g;rw[lo b v]at h;exact XW (w.C b i o h) ex.q;rw[hT]at h;rw[V1] at h;rw[Xd v]at h;split at h;exact hs.C _ i o h;cases h;have ap:s1.g+(c.k.length-c.d.length)+I5 c.h<=b:=ap;rw[hT];rw[V1,af,YT<|by rw[Xl,ci];omega];show s1.g<=s1.g+(c.k.length-c.d.length)+I5 c.h;omega
 .rcases ab b x Q with⟨k,d,rfl,C,_⟩| ⟨_,_,_,B⟩
  .by_cases hk:k<c.d.length;have ao:W[k]? =(W[k]'(by omega)):=WV (by omega);rw[vM hk ao]at v⊢;exact bg _ (YK _<|WT ao)
   .obtain⟨j,rfl⟩:∃j,k=c.d.length+j:=⟨k-c.d.length,by omega⟩
    rw[vL]at v;omega
  exact⟨x,B⟩
 rw[hM,WX,WX];rfl;refine a2 i R λZ x0 o0 C D _=>?_;let⟨d,u,q1,q2,q3⟩:=G Z x0 i o0 C D;exact aw d u o0 q2 q3<|al d q1;rw[hT]at V;rw[V1] at V;rw[af]at V;split at V;obtain h| ⟨d,u,o',A,H,h3⟩:=ay _ i o V;exact .inl h;exact .inr ⟨d,u,o',H,h3,al d A⟩;cases V;obtain h| ⟨Z,o0,h5,_⟩:=a4 i y R hy;exact .inl h;obtain h6| ⟨d,u,o',h6,h7,h8⟩:=ay Z i o0 h5;omega;exact .inr ⟨d,o',by rw[lo d<|bc d u h7];exact h8,al d h6⟩
def Ta {g:Ay}(hg:j3 P U ov c g):E5 P U ov (kcon P U c) g:=by
 intro l args τ F s hp hl hs Q a _;simp only[kcon,z7]at a;cases G:pH c.m l with
 |none=>rw[G]at a;exact a.elim|some I=>
 rw[G]at a;cases c2:c.r l s with
 |none=>rw[c2]at a;exact a.elim|some W=>
 rw[c2]at a;simp only at a;cases H:rI s c.d W with
 |none=>rw[H]at a;exact a.elim|some J=>
 rw[H]at a;let⟨r,O,R,S⟩:=pI G hl;let⟨K,M,N⟩:=pD hs H;rw[C3]at a;obtain⟨vs,s2,a,A,D,aa,q,o,rfl,ab⟩:=jO c.e (I++J) (r++K) τ F s hp (O.j M) hs _ a hs;rw[C3]at a;let⟨⟨C,e⟩,p,a,o3,y,X⟩:=yL (P:=P) (Z:=A) (F:=D) W c.e vs s2 _ a o.I;simp only[z7]at a;cases B:W.all (xW p)&&eJ (W++e)&&Nat.beq e.length (I5 c.e)&&Nat.ble c.d.length c.k.length with
 |false=>rw[B]at a;exact a.elim|true=>
 rw[B]at a;simp at B;let⟨⟨⟨k1,k2⟩,k3⟩,k4⟩:=B;have z:=o.D o3 y;have V:=X p o3.h;have f:=V.e;have i:=a.1;have n:∀b∈W,∃x,p.f b=some x:=λb L=>rT<|k1 b L;have w:=N.d q.t;obtain⟨g1,g2,g3⟩:=PI z ab R w V k2 n k3<|M2 (t8 c.e) 0 C f;have m:VDL P U (vD A<|W++e) D (eL c<|G2 U (t8 c.e) 0 C) args:=by let⟨w1,_⟩:=g2.d;have:=S _ _ _ ((pL c<|G2 U (t8 c.e) 0 C).drop r.length) w1;rwa[YH]at this
 let⟨v,am,F',s',Y,al,u,ak,j,nw,E,r1,r2,r3,r4,r5,r6,r7,r8,r9,ac,ad,ae,ah,ai,aj⟩:=hg C f i _ D aa args g1 m;have d:=r8.e;have T:∀b∈W++e,∃x,p.f b=some x:=λb L=>by obtain h|h:=Xv.1 L;grind;let⟨k,hk⟩:=XY.1 h;exact V.h hk
 let⟨f1,f2,f3⟩:=Vy z w.e.1 k3 T k2 g3 r2 r3 r4 r5 r7 r8 r9 ac ad ae ah ai<|M2 (t8 c.h) p.m j d;refine⟨_,_,kT _ _ _ (a.2 i) j d (by rw[M7 _ _ _ d];exact aj),_,F',Y,(q.g<|Zd o o3).g f2,f1,v,r1,?_⟩;let⟨w1,_⟩:=f3.d;have:=r6 _ _ _ ((pK c (G2 U (t8 c.h) p.m j) p W).drop u.length) w1;simp_all
end
def mV (P:Aw)(U:Ab):List (Ay×Con)->Ay->Bb (As->M SV)
 | [],_=>none|p::l,g=>bif Nat.beq p.1 g then some (kcon P U p.2)else mV P U l g
section
variable {P :Aw}{U:Ab}{ov:Aa}
variable (P U ov) in
def M4 :List (Ay×Con)->Prop
 | []=>True|p::l=>j3 P U ov p.2 p.1/\M4 l
def Gi :∀ {l:List (Ay×Con)},M4 P U ov l-> ∀g k,mV P U l g=some k->E5 P U ov k g
 | [],_,g,k,h=>by cases h
 |p::l,b,g,k,h=>by
  rw[mV] at h;cases a:Nat.beq p.1 g with
  |true=>rw[a,Xa,WJ]at h;rw[<-h,<-WO a];exact Ta b.1|false=>rw[a,Xb]at h;exact Gi b.2 g k h
def noT {C:Ay->Prop}:∀g,isT (noOv g)->C g:=λ_ h=>Bool.noConfusion (show false from h)
def Nn {a:Ay}{t:Ax}{rest:Aa}(h:isT (some t)=false)(b:∀g,isT (rest g)=false):∀g,isT (Em a t rest g)=false:=λg=>by rw[Em];grind
def z8 {L:Ay}{rest:Aa}{a:Ay->Bb (As->M SV)}(h:(a L).isSome)(d:∀g,isT (rest g)=false:=by first|exactλ_=>rfl|exact Nn rfl<|λ_=>rfl|exact Nn rfl<|Nn rfl<|λ_=>rfl|exact Nn rfl<|Nn rfl<|Nn rfl<|λ_=>rfl):∀g,isT (Em L nA rest g)->a g≠none:=by
 intro g b e;rw[Em] at b;cases c:Nat.beq g L with
 |true=>simp_all|false=>grind
end
section
variable {P :Aw}{U:Ab}{ov:Aa}
end
inductive JK where
 |i (k:IntKind)
 |b
 |d
structure Jn where
 d:String
 j:As->SS->List (So×E)
 h:Bool
 e:List JK
 g:Ar->Ar->Prop
section
variable {P :Aw}{U:Ab}{ov:Aa}
end
section
variable {P :Aw}{U:Ab}
def yesM :As->M SV:=λl=>match l with
 | []=>i6<|.j<|.bool true|_=>c9 "an argument"
def Ss (_ e:Ar):Prop:=e=[.b true]
def dk (n:String):Con:=⟨n,[],[],λ_ _=>some [],λd=>d=[],[.t (.g .bool)],[],λ_ _=>some [],Ss⟩
def Ol {b:Aa}{L:Ay}(h:isT (b L))(n:String):j3 P U b (dk n) L:=by
 refine CM (run:=yesM) (λl args g F s c d f=>?_) λ_=>⟨rfl,λ_=>trivial⟩
 cases l with
 |cons a l=>exact Zi|nil=>
  obtain rfl:args=[]:=WP d.1.symm;refine Zk ⟨Value.bool true,⟨1,λm e=>?_⟩,VD.bool<|.bool true⟩;obtain⟨m,rfl⟩:∃k,m=k+1:=⟨m-1,by omega⟩
  show(bif isT (b L)&&([]:Af).isEmpty then some (Value.bool true,c)else _)=(Value.bool true,c);grind
end
def shrI (k:IntKind)(a b:Int):Int:=a.fdiv<|2^(min b.toNat k.bits)
abbrev cI (L:a8)(i:Int)(j:Nat):Int:=(A7 L i j).j
abbrev cS (L:a8)(i:Int)(j:Nat):Ae:=(A7 L i j).g
abbrev cB (L:a8)(i:Int)(j:Nat):Bool:=(A7 L i j).f
abbrev cL (L:a8)(i:Int)(j:Nat):a8:=(A7 L i j).m
abbrev ln {α:Type}(l:List α):Int:=(l.length:Int)
abbrev Nr (x:Int)(q:Prop):Prop:=Nd (x=x) q
abbrev Ni (x:Int)(q:Prop):Prop:=Nd (¬x<x) q
def byteAt (s:Ae)(i:Int):Int:=((s.getD i.toNat 0).toNat:Int)
def yO {p q:Prop}:(p/\(p->p/\(p->q)))↔(p/\(p->q)):=(by grind)
def yN {p q:Prop}:(p->p/\(p->q))↔(p->q):=⟨λh x=>(h x).2 x,λh x=>⟨x,h⟩⟩
def U8 (n:Int):(Dat.i n).j=n:=rfl
def B1 (s:Ae):(Dat.s s).g=s:=rfl
def S0 (l:a8):(Dat.l l).m=l:=rfl
section
variable {Z :Type}{f:Z->Ar}
def d9 {T:List Z}{i:Int}{s:Z}(h:T[i.toNat]? =s)(j:Nat):A7 (T.map f) i j=(f s).getD j (.i 0):=by rw[A7];grind
def get_at {T:List Z}{i:Int}(a:0<=i)(b:i<(T.length:Int)):∃o,T[i.toNat]? =some o:=⟨_,WV<|by omega⟩
def R8 {l:List Z}{a n:Int}:pQ (l.map f) a n=((l.drop a.toNat).take n.toNat).map f:=by rw[pQ,<-List.map_drop,<-List.map_take]
def yE {d:Type}{f:Z->d}(c:∀a b,f a=f b->a=b):∀ {l m:List Z},l.map f=m.map f->l=m
 | [],[],_=>rfl| [],b::m,h=>by grind|a::l,[],h=>by grind|a::l,b::m,h=>by simp at h;rw[c a b h.1,yE c h.2]
def Ho {rows:a8}(f:Z->Ar)(R:Z->Prop)(h:∀r∈rows,∃a,R a/\r=f a):∃L:List Z,(∀a∈L,R a)/\rows=L.map f:=by
 induction rows with
 |nil=>simp_all|cons r rows c=>let⟨a,g,e⟩:=h r (by simp);let⟨L,hL,d⟩:=c λr j=>h r (by grind);exact⟨a::L,λb i=>by grind,by grind⟩
end
def T7 {k:IntKind}{n:Int}(a:k.min<=n)(b:n<=k.max):IntKind.wrap k n=n:=by cases k<;>simp[IntKind.min,IntKind.max,IntKind.signed,IntKind.bits,IntKind.wrap]at a b⊢ <;>omega
def J9 {b:Type}{l:List b}{k:Nat}{a:b}(h:l[k]? =a):l.take (k+1)=l.take k++ [a]:=by rw[List.take_add_one,h];rfl
def Lg {b:Type}{l:List b}{k:Nat}{a:b}(h:l[k]? =a):l.drop k=a::l.drop (k+1):=by rw[List.drop_eq_getElem_cons ((WM.1 h).1),(WM.1 h).2]
def gT {k:Int}(h:0<=k):(k+1).toNat=k.toNat+1:=by omega
def numK :Kd->Bool
 | .int _=>true| .bool=>true| .str=>true|_=>false
def PV.num {P:Aw}{F c:Ac}{k:Kd}{v:Av}{d:Dat}(a:numK k)(p:PV P F k v d):PV P c k v d:=by
 cases p with
 |int k n=>exact .int k n|R b=>exact .R b|str s=>exact .str s|N e=>cases a
 |L e=>cases a
 |_=>cases a
section
variable {P :Aw}{U:Ab}{ov:Aa}
def sR :SV->Bool
 | .f _ _=>true| .j _=>true| .p _=>true|_=>false
def Mf (a:SV):Bool:=match a with
 | .A l=>l.all sR|a=>sR a
variable {F F':Ac}{v:Av}
def Md {c b:Tau}{a:SV}(h:sR a)(hv:VD P U c F a v):VD P U b F' a v:=by
 cases hv with
 |int k e=>exact .int k e|bool e=>exact .bool e|str e=>exact .str e|_=>cases h
def Rc {g b:Tau}{a:SV}(h:Mf a)(hv:VD P U g F a v):VD P U b F' a v:=by
 unfold Mf at h;split at h
 .cases hv with
  |tup _ xs c d=>rw[Xo]at h;exact .tup _ xs c λi a x e f=>Md (by grind)<|d i a x e f
 exact Md h hv
def US (P:Aw)(s:SS)(a:SV)(s1:SS):Tr (SV×SS):=match a,s1.h with
 | .z b z o n c,(k,some (.g L e f ph))::(d,none)::h=>
  bif Nat.beq h.length s.h.length&&Nat.beq d k&&Nat.ble s.g k&&(kf P e).all numK then .j (.z b z o n c,⟨(k,some<|.g L e f ph)::s.h,s1.g,s1.p,s1.m,s.r⟩)else .j (.z b z o n c,s1)
 |a,(d,none)::h=>bif Mf a&&Nat.beq h.length s.h.length&&Nat.ble s.g d then .j (a,⟨s.h,s1.g,s1.p,s1.m,s.r⟩)else .j (a,s1)|a,_=>.j (a,s1)
def QH (P:Aw)(a:As->M SV):As->M SV:=λl s=>(a l s).m λr=>US P s r.1 r.2
def QI {Z:As->M SV}{g:Ay}(O:E5 P U ov Z g):E5 P U ov (QH P Z) g:=by
 intro l args τ F s hp hl E Q hq _;rw[QH] at hq;rw[ZF]at hq;let⟨a,s1,w,I,F1,H,ex,u,v,R,hv⟩:=O l args τ F s hp hl E _ hq E;simp only at w;unfold US at w;split at w
 .rename_i b z o n c k L e z' ph T h hh;cases B:Nat.beq h.length s.h.length&&Nat.beq T k&&Nat.ble s.g k&&(kf P e).all numK with
  |false=>rw[B]at w;exact⟨_,_,w,I,F1,H,ex,u,v,R,hv⟩|true=>
   rw[B]at w;simp only[WK,Xy,XX,Xo]at B;let⟨⟨⟨c1,c2⟩,c3⟩,c4⟩:=B;subst T;let⟨lg,V,W,a3,a4,a5⟩:=ex.B;rw[hh]at V;have K: [(k,some<|C8.g L e z' ph),(k,none)]++h=lg++s.h:=V;let⟨X,e2⟩:=List.append_inj' K c1;subst X;subst e2;have get:∀b,(⟨(k,some<|.g L e z' ph)::s.h,s1.g,s1.p,s1.m,s.r⟩:SS).f b=s1.f b:=λb=>by unfold SS.f;rw[hh,B3,B3,B3];by_cases m:k=b;rw[Xg m,Xg m];rw[Xd m,Xd m,Xd m]
   have ae:∀b x,s1.f b=some x->k≠b->s.f b=some x:=λb x m N=>by rw[<-get]at m;unfold SS.f at m⊢;rwa[B3,Xd N]at m
   have C:∀b x,s.f b=some x->b∈ [(k,some<|C8.g L e z' ph),(k,none)].map Prod.fst->False:=λb x m hm=>by have:=E.w m;simp only[XU,List.map_nil,Xw,List.not_mem_nil,or_false,or_self]at hm;omega
   refine⟨_,_,w,I,F,H,⟨ex.t,Ze F,ex.q,ex.r,ex.A,λb x m ac=>ex.w b x (by grind) ac,⟨[(k,some<|.g L e z' ph)],rfl,λi Y ad=>W i Y λb x o A G D=>C b x A D,λb i o m ht=>?_,λi y Y S=>.inl S,λ_ i y S=>S⟩,ex.I,?_⟩,
    ⟨λb x m=>?_,λb c x y i o j q m B=>u.A b c x y i o j q (by grind)<|by grind,λi b J=>u.p i b<|ex.f i b J,u.C,λi b J=>u.B i b<|ex.f i b J,u.g,u.I,λr O=>(E.N r O).f ex.t<|Ze F⟩,v,R,?_⟩
   rcases a3 b i o m ht with h| ⟨b0,x,o0,w,h2,h3⟩;exact .inl h;exact(C b0 x w h3).elim;exact(by grind)
   .rw[get]at m;by_cases hk:k=b
    .subst hk;have R:x= .g L e z' ph:=by rw[<-get]at m;unfold SS.f at m;rw[B3,Xg rfl]at m;exact(Xk m).symm
     subst R;obtain⟨i,o,y,A,G,D,cs,n,q1,⟨r1,r2,r3,r4⟩,q3⟩|p:=u.f k _ m
     .refine .inl ⟨i,o,y,A,G,?_,cs,n,q1,⟨r1,r2,r3,λr j row d O hd=>?_⟩,q3⟩
      .cases J:F i with
       |none=>rfl|some y'=>rw[ex.f i y' J]at D;cases D
      let⟨x,t1,t2⟩:=r4 r j row d O hd;exact⟨x,t1,λkd ab=>(t2 kd ab).num<|by grind⟩
     exact .inr p
    rcases E.f b x (ae b x m hk) with⟨i,o,y,A,G,D,p4⟩| ⟨A,G⟩;exact .inl ⟨i,o,y,ex.t _ _ A,by rw[W i (E.C b i o A) λb x o A G D=>C b x A D];exact G,D,p4.f ex.t<|Ze F⟩;exact .inr ⟨ex.t _ _ A,G⟩
   .cases hv with
    |sl _ _ _ _ _ i o c h h0 w B=>exact .sl _ _ _ _ _ i o c h h0 w B|sl0 _ _ _ _ _ h h0 w B=>exact .sl0 _ _ _ _ _ h h0 w B
 .rename_i a _ _ T h hh;cases B:Mf a&&Nat.beq h.length s.h.length&&Nat.ble s.g T with
  |false=>rw[B]at w;exact⟨_,_,w,I,F1,H,ex,u,v,R,hv⟩|true=>
   rw[B]at w;simp only[WK,Xy,XX]at B;let⟨⟨c0,c1⟩,c3⟩:=B;let⟨lg,V,W,a3,a4,a5⟩:=ex.B;rw[hh]at V;have K: [(T,none)]++h=lg++s.h:=V;let⟨X,e2⟩:=List.append_inj' K c1;subst X;have C:∀b x,s.f b=some x->b∈ [(T,(none:Bb C8))].map Prod.fst->False:=λb x m hm=>by have:=E.w m;simp only[XU,List.map_nil,Xw,List.not_mem_nil,or_false]at hm;omega
   refine⟨_,_,w,I,F,H,⟨ex.t,Ze F,ex.q,ex.r,ex.A,λb x m _=>⟨x,m⟩,⟨[],rfl,λi Y ad=>W i Y λb x o A G D=>C b x A D,λb i o m ht=>?_,λi y Y S=>.inl S,λ_ i y S=>S⟩,ex.I,(by grind)⟩,
    ⟨λb x m=>?_,λb c x y i o j q m B N X e2=>E.A b c x y i o j q m B N (by rw[<-ex.A b (E.w m)];exact X)<|by rw[<-ex.A c (E.w B)];exact e2,λi b J=>u.p i b<|ex.f i b J,u.C,λi b J=>u.B i b<|ex.f i b J,u.g,u.I,λr O=>(E.N r O).f ex.t<|Ze F⟩,v,R,Rc c0 hv⟩
   obtain h| ⟨b0,x,o0,w,h2,h3⟩:=a3 b i o m ht;exact .inl h;exact(C b0 x w h3).elim;obtain⟨i,o,y,A,G,D,p4⟩| ⟨A,G⟩:=E.f b x m;exact .inl ⟨i,o,y,ex.t _ _ A,by rw[W i (E.C b i o A) λb x o A G D=>C b x A D];exact G,D,p4.f ex.t<|Ze F⟩;exact .inr ⟨ex.t _ _ A,G⟩
 exact⟨_,_,w,I,F1,H,ex,u,v,R,hv⟩
variable (P U) in
def conP (l:List (Ay×Con))(g:Ay):Bb (As->M SV):=match mV P U l g with
 |some k=>some<|QH P k|none=>none
end
def Con.g (c:Con)(mu:Ar->Nat)(n:Nat):Con:= {c with p:=λd=>c.p d/\mu d<n}
section
variable {P :Aw}{U:Ab}{ov:Aa}
def JL {c:Con}{mu:Ar->Nat}{g:Ay}(h:∀n,j3 P U ov (c.g mu n) g->j3 P U ov (c.g mu<|n+1) g):j3 P U ov c g:=by
 have all:∀n,j3 P U ov (c.g mu n) g:=λn=>by
  induction n with
  |zero=>intro d _ a;exact absurd a.2<|Nat.not_lt_zero _
  |succ n e=>grind
 intro d b a;exact all (mu (u9 U (t8 c.e) d)+1) d b ⟨a,Yd _⟩
end
end Go.Sx
namespace Go.Xe
open Go.RowKit
structure KP (P:Aw)(g:Ay)(ρ:Go.Shelf.Ren)(e:Ax)(ie:Ba)(zv:Av):Prop where
 V:∃V,P.funcs[g]? =some V/\V.body=(Go.Proofs.Body2.n23 ρ).body/\V.ntmps=33/\V.results= #[.tmp 6]
 d:P.underlying (ρ.t 22)=some (.slice e)
 l:P.info? e=some ie
 h:ie.zero=some zv
 s:cst zv=true
 J:zv.cells.toList.length=ie.size
 u:zv.cells.toList.all Value.oneCell'=true
 D:ie.bytes<=1048576
section
variable {P :Aw}{g:Ay}{N:Go.Shelf.Ren}{e:Ax}{Y:Ba}{F:Av}{call:i9}{H:Ay->Af->Hp->Bb (Av×Hp)}{Z:Hp}
def bI (a:Nat):R7 (i4 a 0)=a:=K9 I8
def Y1 (a:Nat):I0 (i4 a 0)=0:=J4 I8
def cT {a b:Nat}(h:b<a):Nat.ble a b=false:=by
 cases e:Nat.ble a b with
 |false=>rfl|true=>simp_all;omega
variable {m:Nat}
def U5 {v:Nat}(h:v<=m):M9 (.int .i64 v) m=v:=by simp only[M9];grind
variable {w i k U n:Nat}{c:Ao}
def tM {t:Ax}(y:P.underlying t=some (.slice e))(u:P.info? e=Y){o up l h:Nat}(a:up<unk)(f:Nat.ble (Nat.max U n) 67108864)(s:h<=Nat.max U n)(v:l<=h)(x:l<Nat.max U n)(r:Z.m.l i=some (.cells c k w Y.size))(d b:Ag)(j:d=some (.int .i64 l)\/(d=none/\l=0))(g:b=some (.int .i64 h)\/(b=none/\h=n)):A0 P Z t (.slice (some ⟨i,o,none⟩) n<|i4 U up) d b none=some (.slice (some ⟨i,o+l*Y.size,none⟩) (h-l)<|i4 (Nat.max U n-l)<|up-l,Z):=by
 have q:C6 n (Nat.max U n) d b none=some (l,h,none):=by rcases g with rfl| ⟨rfl,rfl⟩<;>rcases j with rfl| ⟨rfl,rfl⟩<;>simp only[C6,Option.getD_none,U5 s,U5 v]
 simp only[A0,y,u,K9 a,J4 a,WQ<|y5 U up,Xa];rw[f,Xa,q];simp only;by_cases p:l=0;simp_all;rw[B0 p,Xb,B0<|by omega,Xb,r];simp_all
def U9 {t:Ax}(u:P.underlying t=some (.slice e))(r:P.info? e=Y){o l h:Nat}(d:Nat.ble (Nat.max U n) 67108864)(q:h<=Nat.max U n)(s:l<=h)(f:l<Nat.max U n)(p:Z.m.l i=some (.cells c k w Y.size))(b a:Ag)(j:b=some (.int .i64 l)\/(b=none/\l=0))(g:a=some (.int .i64 h)\/(a=none/\h=n)):A0 P Z t (.slice (some ⟨i,o,none⟩) n<|i4 U 0) b a none=some (.slice (some ⟨i,o+l*Y.size,none⟩) (h-l)<|i4 (Nat.max U n-l) 0,Z):=by have:=tM u r (o:=o) I8 d q s f p b a j g;grind
def XS (P:Aw)(C:i9->Prop)(b:Nat)(c:Code)(d:Ao)(Z:Hp)(r:XR):Prop:=∃a,∀call,C call-> ∀m,a<=m->t9 P (z4 P) call b none m c d Z []=r
variable {C :i9->Prop}{O:Nat}{R K:Ao}{hp1:Hp}{r:XR}
def XS.V :XS P C O .ret R Z (.mk .ret R Z []):=⟨1,λ_ _ m a=>by obtain⟨k,rfl⟩:∃k,m=k+1:=⟨m-1,by omega⟩;rfl⟩
def XS.D :XS P C O .skip R Z (.mk .normal R Z []):=⟨1,λ_ _ m a=>by obtain⟨k,rfl⟩:∃k,m=k+1:=⟨m-1,by omega⟩;rfl⟩
variable {p:Nat}{G:Am}
def XS.d (h:∀call,C call->Bp P call O G.toList G.toList R Z=some (K,hp1)):XS P C O (.region p G false) R Z (.mk .normal K hp1 []):=
 ⟨1,λcall a m b=>by obtain⟨k,rfl⟩:∃k,m=k+1:=⟨m-1,by omega⟩;simp only[t9,Xb,h call a]⟩
def XS.J (h:∀call,C call->z4 P call O G.toList R Z=(K,hp1)):XS P C O (.region p G true) R Z (.mk .normal K hp1 []):=
 ⟨1,λcall a m b=>by obtain⟨k,rfl⟩:∃k,m=k+1:=⟨m-1,by omega⟩;simp only[t9,Xa,h call a]⟩
variable {a b:Code}
def XS.s (h:XS P C O a R Z (.mk .normal K hp1 []))(k:XS P C O b K hp1 r):XS P C O (.seq a b) R Z r:=by
 let⟨m1,h⟩:=h;let⟨d,k⟩:=k;refine⟨max m1 d+1,λcall c m e=>?_⟩;obtain⟨j,rfl⟩:∃j,m=j+1:=⟨m-1,by omega⟩
 simp only[t9,h call c j<|by omega,k call c j<|by omega]
def XS.u (h:XS P C O a R Z (.mk .ret K hp1 [])):XS P C O (.seq a b) R Z (.mk .ret K hp1 []):=by
 let⟨m1,h⟩:=h;refine⟨m1+1,λcall c m d=>?_⟩;obtain⟨j,rfl⟩:∃j,m=j+1:=⟨m-1,by omega⟩
 simp only[t9,h call c j<|by omega]
def XS.l {c:Az}(e:i7 R c=some (.bool true))(h:XS P C O a R Z r):XS P C O (.cond c a b) R Z r:=by
 let⟨m1,h⟩:=h;refine⟨m1+1,λcall d m f=>?_⟩;obtain⟨j,rfl⟩:∃j,m=j+1:=⟨m-1,by omega⟩
 simp only[t9,e,h call d j<|by omega]
def XS.h {c:Az}(e:i7 R c=some (.bool false))(h:XS P C O b R Z r):XS P C O (.cond c a b) R Z r:=by
 let⟨m1,h⟩:=h;refine⟨m1+1,λcall d m f=>?_⟩;obtain⟨j,rfl⟩:∃j,m=j+1:=⟨m-1,by omega⟩
 simp only[t9,e,h call d j<|by omega]
def XN (P:Aw)(C:i9->Prop)(O:Nat)(c:Code)(R:Ao)(Z:Hp)(Q:Ao->Hp->Prop):Prop:=∃K hp1,XS P C O c R Z (.mk .normal K hp1 [])/\Q K hp1
def XT (P:Aw)(C:i9->Prop)(O:Nat)(c:Code)(R:Ao)(Z:Hp)(Q:Ao->Hp->Prop):Prop:=∃K hp1,XS P C O c R Z (.mk .ret K hp1 [])/\Q K hp1
def XO (P:Aw)(C:i9->Prop)(O:Nat)(all l:An)(R:Ao)(Z:Hp)(Q:Ao->Hp->Prop):Prop:=∃K hp1,(∀call,C call->Bp P call O all l R Z=some (K,hp1))/\Q K hp1
variable {Q :Ao->Hp->Prop}
def XT.s (h:Q R Z):XT P C O .ret R Z Q:=⟨_,_,XS.V,h⟩
def XN.l (h:Q R Z):XN P C O .skip R Z Q:=⟨_,_,XS.D,h⟩
def XN.s (h:XN P C O a R Z λK hp1=>XN P C O b K hp1 Q):XN P C O (.seq a b) R Z Q:=by let⟨t1,g,d,t2,c,e,f⟩:=h;exact⟨t2,c,d.s e,f⟩
def XT.d (h:XN P C O a R Z λK hp1=>XT P C O b K hp1 Q):XT P C O (.seq a b) R Z Q:=by let⟨t1,g,d,t2,c,e,f⟩:=h;exact⟨t2,c,d.s e,f⟩
def XT.l (h:XT P C O a R Z Q):XT P C O (.seq a b) R Z Q:=by let⟨t1,c,d,e⟩:=h;exact⟨t1,c,d.u,e⟩
def XN.h {c:Az}(e:i7 R c=some (.bool false))(h:XN P C O b R Z Q):XN P C O (.cond c a b) R Z Q:=by let⟨t1,d,f,g⟩:=h;exact⟨t1,d,f.h e,g⟩
def XT.h {c:Az}(e:i7 R c=some (.bool true))(h:XT P C O a R Z Q):XT P C O (.cond c a b) R Z Q:=by let⟨t1,d,f,g⟩:=h;exact⟨t1,d,f.l e,g⟩
def XN.d (h:XO P C O G.toList G.toList R Z Q):XN P C O (.region p G false) R Z Q:=by let⟨t1,a,b,c⟩:=h;exact⟨t1,a,.d b,c⟩
def XO.h {all:An}(h:Q R Z):XO P C O all [] R Z Q:=⟨_,_,λ_ _=>Bq,h⟩
def XO.d {all rest:An}{o:Oper}{v:Av}(b:E6 O o.dst)(c:o.guard=none)(h:∀call,C call->xop P call R Z o.op=(v,hp1))(k:XO P C O all rest (A6 R o.dst v) hp1 Q):XO P C O all (o::rest) R Z Q:=by let⟨t1,a,f,e⟩:=k;refine⟨t1,a,λcall d=>?_,e⟩;rw[Y9,b,Xa,h call d];simp only[y9,c,Xa];grind
variable {t:Tmp}
def XO.l {all rest:An}{o:Oper}(a:E6 O o.dst)(b:o.guard=none)(h:o.op= .move (.tmp t)){v:Av}(hv:R.l t=v)(k:XO P C O all rest (A6 R o.dst v) Z Q):XO P C O all (o::rest) R Z Q:=
 .d a b (λ_ _=>by rw[h];simp only[xop,i7,j4,hv,XB]) k
def XO.s {all rest:An}{o:Oper}(a:E6 O o.dst)(b:o.guard=none)(h:o.op= .assign (.tmp t)){v:Av}(hv:R.l t=v)(k:XO P C O all rest (A6 R o.dst v) Z Q):XO P C O all (o::rest) R Z Q:=
 .d a b (λ_ _=>by rw[h];simp only[xop,i7,j4,hv,XB]) k
def hJ {t:Ax}(b:P.underlying t=some (.slice e))(a:Aq)(n c:Nat):kQ P t (.slice a n c)=some (.int .i64 n):=by simp only[kQ,b]
def L9 {t:Ax}(b:P.underlying t=some (.slice e))(a:Aq)(n c:Nat):j4 Z (kQ P t<|.slice a n c)=some (.int .i64 n,Z):=by rw[hJ b];rfl
variable {x y:Av}
def CY {t u:Ax}{r:Av×Hp}(h:F8 P Z t u x y=r):C7 P Z .append [t,u] [x,y]=r:=by simp only[C7,h]
def XG (P:Aw)(C:i9->Prop)(O:Nat)(all:An)(b:Nat)(l:List (Oper×Nat))(i:Nat)(R:Ao)(S:Hp)(I:Nat)(c:List Ent)(Q:Out->Prop):Prop:=∃a,(∀call,C call->xgo P call O all b l i R S I c=some a)/\Q a
variable {all :An}{E:Nat}{rest:List (Oper×Nat)}{o:Oper}{pre B I:Nat}{S S2:Hp}{A:List Ent}{z:Out->Prop}{v:Av}
def XG.h (h:z ⟨R,S,I,A⟩):XG P C O all E [] B R S I A z:=⟨_,λ_ _=>rfl,h⟩
def XG.s (f:E6 O o.dst)(b:o.guard=none)(c:j7 o.op=0)(h:∀call,C call->xop P call R S o.op=(v,S))(k:XG P C O all E rest (B+1) (A6 R o.dst v) S I (⟨B,o,pre,R,S,S,I,true,v,none⟩::A) z):XG P C O all E ((o,pre)::rest) B R S I A z:=by let⟨a,k1,e⟩:=k;refine⟨a,λcall d=>?_,e⟩;simp only[xgo,y9,b,Xa,c,h call d];grind
def XG.l (e:E6 O o.dst)(b:o.guard=none)(c:j7 o.op=1)(h:∀call,xop P call R S o.op=(v,S))(k:XG P C O all E rest (B+1) (A6 R o.dst v) S I (⟨B,o,pre,R,S,S,I,true,v,none⟩::A) z):XG P C O all E ((o,pre)::rest) B R S I A z:=by
 let⟨a,k1,d⟩:=k;refine⟨a,λcall f=>?_,d⟩;rw[xgo];have:xrd P R S o.op=v:=by rw[xrd];simp_all
 simp only[y9,b,Xa,c,this];grind
def XG.D (b:E6 O o.dst)(c:o.guard=none)(d:j7 o.op=3)(f:takes E (AC pre I) A S=S)(h:∀call,C call->xop P call R S o.op=(v,S2))(k:XG P C O all E rest (B+1) (A6 R o.dst v) S2 (I|||pre) (⟨B,o,pre,R,S,S2,I,true,v,none⟩::A) z):XG P C O all E ((o,pre)::rest) B R S I A z:=by let⟨a,k1,g⟩:=k;refine⟨a,λcall e=>?_,g⟩;rw[xgo,b,Xa];simp only[y9,c,Xa,d,f,h call e];grind
def XG.d (b:E6 O o.dst)(c:o.guard=none)(a:o.op= .move (.tmp t))(hv:R.l t=v)(k:XG P C O all E rest (B+1) (A6 R o.dst v) S I (⟨B,o,pre,R,S,S,I,true,v,none⟩::A) z):XG P C O all E ((o,pre)::rest) B R S I A z:=
 .s b c (by rw[a];rfl) (λ_ _=>by rw[a];simp only[xop,i7,j4,hv,XB]) k
def XG.u (b:E6 O o.dst)(c:o.guard=none)(a:o.op= .assign (.tmp t))(hv:R.l t=v)(k:XG P C O all E rest (B+1) (A6 R o.dst v) S I (⟨B,o,pre,R,S,S,I,true,v,none⟩::A) z):XG P C O all E ((o,pre)::rest) B R S I A z:=
 .s b c (by rw[a];rfl) (λ_ _=>by rw[a];simp only[xop,i7,j4,hv,XB]) k
def XN.u (c:stat G.toList (dK G.toList []))(h:XG P C O G.toList Z.d (G.toList.zip<|dK G.toList []) 0 R ⟨Z.m,Z.d+G.toList.length⟩ 0 [] λa=>dyn P ⟨Z.m,Z.d+G.toList.length⟩ a.b/\takes Z.d (Bz a.I) a.b a.S=a.S/\Q a.c a.S):XN P C O (.region p G true) R Z Q:=by
 let⟨a,d,e,f,b⟩:=h;refine⟨a.c,a.S,.J λcall g=>?_,b⟩;have:kO P call O G.toList R Z=(a.c,a.S):=by rw[kO];grind
 rw[z4];grind
variable {f:Ay}
def fD {fn:Func}{c:Code}{args:Af}{r:Tmp}(d:P.funcs[f]? =fn)(g:fn.body=c)(i:fn.results= #[.tmp r])(h:XT P C (args.length+(fn.ntmps-args.length)) c (fill .e 0 args) Z Q):∃v a,(∃K,K.l r=v/\Q K a)/\ ∃b,∀call,C call-> ∀m,b<=m-> ∀H,Y0 P (z4 P) call H m f args Z=(v.getD undef,a):=by let⟨K,hp1,⟨b,l⟩,n⟩:=h;refine⟨_,hp1,⟨K,rfl,n⟩,b,λcall j m k H=>?_⟩;simp only[Y0,d,g,l call j m k,tB,N6,i,I6,Z3,iI]
variable {vs:Af}
def eO {o:Nat}(h:j8 c o n=vs){a:Nat}(g:a+m<=n):j8 c (o+a) m=((vs.drop a).take m):=by
 let⟨f,e⟩:=u7 h;have b:((vs.drop a).take m).length=m:=by grind
 have:=B6 (λj d=>by rw[b]at d;rw[Xr,Xg d,Xx,e (a+j)<|by omega,Yc]);grind
def KK {t:Ax}(j:P.underlying t=some (.slice e))(h:P.info? e=Y){o a b:Nat}(f:Nat.ble (Nat.max U n) 67108864)(c:a<=b)(d:b<=n):∃v,A0 P Z t (.slice (some ⟨i,o,none⟩) n<|i4 U 0) (some<|.int .i64 a) (some<|.int .i64 b) (some<|.int .i64 n)=some (v,Z):=by
 have g:C6 n (Nat.max U n) (some<|.int .i64 a) (some<|.int .i64 b) (some<|.int .i64 n)=some (a,b,some n):=by simp only[C6,U5<|Ym U n,XH,XB,U5 d,U5 c]
 simp only[A0,j,h,bI,Y1,WQ<|y5 U 0,Xa];rw[f,Xa,g];cases k:Nat.beq n a with
 |true=>simp_all|false=>simp_all
def Ij {t:Ax}(f:P.underlying t=some (.slice e))(d:P.info? e=Y){o b:Nat}(c:Nat.ble (Nat.max U n) 67108864)(g:b=0):A0 P Z t (.slice (some ⟨i,o,none⟩) n<|i4 U 0) (some<|.int .i64 b) none none=some (.slice (some ⟨i,o,none⟩) n<|i4 (Nat.max U n) 0,Z):=by
 have a:C6 n (Nat.max U n) (some<|.int .i64 b) none none=some (b,n,none):=by simp only[C6,U5 (show b<=n by omega)]
 simp only[A0,f,d,bI,Y1,WQ<|y5 U 0,Xa];rw[c,Xa,a];simp_all
def KM {t:Ax}(h:P.underlying t=some (.slice e))(g:P.info? e=Y){o b:Nat}(c:Nat.ble (Nat.max U b) 67108864)(f:b≠0)(d:Nat.max U b=b):A0 P Z t (.slice (some ⟨i,o,none⟩) b<|i4 U 0) (some<|.int .i64 b) none none=some (.slice (some ⟨0,0,some 0⟩) 0 unk,Z):=by
 have a:C6 b (Nat.max U b) (some<|.int .i64 b) none none=some (b,b,none):=by simp only[C6,U5<|Xh b]
 simp only[A0,h,g,bI,Y1,WQ<|y5 U 0,Xa];rw[c,Xa,a];simp only;rw[B0 f,Xb,w9 d.symm,Xa]
variable {X:Af}
def uR {t:Ax}(u:P.underlying t=some (.slice e))(r:P.info? e=Y){o b:Nat}(f:Nat.ble (Nat.max U n) 67108864)(j:b<=n)(p:Z.m.l i=some (.cells c k w Y.size))(E:o+n*Y.size<=k)(s:j8 c o (n*Y.size)=X):∃x,(∀nx,A0 P ⟨Z.m,nx⟩ t (.slice (some ⟨i,o,none⟩) n<|i4 U 0) (some<|.int .i64 b) none none=some (x,⟨Z.m,nx⟩))/\(∀nx,A8 ⟨Z.m,nx⟩ Y.size x=(n-b,X.drop<|b*Y.size))/\(b<n-> ∃q B,x= .slice (some ⟨i,q,none⟩) (n-b) B):=by
 have z:n*Y.size=b*Y.size+(n-b)*Y.size:=by rw[<-Xu];congr 1;omega
 have y:=(u7 s).1;have g:=Ym U n;by_cases l:b<Nat.max U n;refine⟨_,λnx=>U9 (Z:=⟨Z.m,nx⟩) u r f (Ym U n) j l p _ _ (.inl rfl)<|.inr ⟨rfl,rfl⟩,λnx=>?_,λ_=>⟨_,_,rfl⟩⟩;have v:=eO s (a:=b*Y.size) (m:=(n-b)*Y.size) (by omega);rw[XP<|by grind]at v;have d:Nat.ble (o+b*Y.size+(n-b)*Y.size) k:=WQ (by omega);simp only[A8,p,rdC,d,Xa,v];have D:=Nat.le_antisymm j (by grind);subst D;obtain C|A:=Nat.eq_zero_or_pos b;refine⟨_,λnx=>Ij u r f C,λnx=>?_,λh=>absurd h<|Nat.lt_irrefl _⟩;simp only[A8,p,rdC];rw[WQ (by omega),Xa,s];simp_all;refine⟨_,λnx=>KM u r f (by grind) (Nat.le_antisymm (Yt l) g),λnx=>?_,λh=>absurd h<|Nat.lt_irrefl _⟩;simp only[A8,Nat.sub_self];grind
variable {W:Af}
def Ft {t:Ax}(u:P.underlying t=some (.slice e))(q:P.info? e=Y)(w:Y.zero=F)(D:F.cells.toList.length=Y.size)(z:Y.bytes<=1048576){o sl L:Nat}(v:A8 Z Y.size x=(m,W))(h:Z.m.l i=some (.cells c k e Y.size))(B:o+(sl+m)*Y.size<=k)(hL:sl+m<=L)(d:Nat.ble L 67108864)(a:W.all Value.oneCell')(r:W.length=m*Y.size):∃hp1 n,F8 P Z t t (.slice (some ⟨i,o,none⟩) sl<|i4 L 0) x=some (.slice (some ⟨i,o,none⟩) (sl+m)<|i4 L 0,hp1)/\hp1.d=Z.d/\(∀j,j≠i->hp1.m.l j=Z.m.l j)/\hp1.m.l i=some (.cells n k e Y.size)/\ ∀y,n.l y=(fill c (o+sl*Y.size) W).l y:=by
 have b:=WQ<|Ya hL<|WN d;have p:(Nat.beq F.cells.toList.length Y.size&&Nat.ble Y.bytes 1048576):=by simp_all
 by_cases s:m=0;subst s;have C:W=[]:=WP (by omega);subst C;refine⟨Z,c,?_,rfl,λ_ _=>rfl,h,λ_=>rfl⟩;have f:Nat.ble sl (i4 L 0)=true:=WQ (by have:=y5 L 0;have:=WN d;unfold unk at*;omega);simp only[F8,u,q,w];rw[p,Xa,v];simp only[h];rw[b];simp only[a,Bool.and_self,Xa,w9,f,Yi];refine⟨{Z with m:=Z.m.m i<|some<|.cells (fill c (o+sl*Y.size) W) k e Y.size},fill c (o+sl*Y.size) W,?_,rfl,λj A=>?_,by simp only[ZD,Xg],λ_=>rfl⟩;simp only[F8,u,q,w];rw[p,Xa,v];simp only[h];rw[b];have l:Nat.ble (o+sl*Y.size) k=true:=WQ (by grind);simp only[a,Bool.and_self,Xa,B0 s,Xb,WQ<|y5 L 0,Y1,bI,l,w9,WQ hL,YM B,N7];rw[show Nat.ble 1 0=false from rfl,Bool.false_and,Xb];simp only[ZD,Xd A]
def HW {t:Ax}(r:P.underlying t=some (.slice e))(s:P.info? e=Y)(x:Y.zero=F)(d:cst F)(g:F.cells.toList.length=Y.size)(q:F.cells.toList.all Value.oneCell'){o cc:Nat}{h:Nat}(n:Z.m.l i=some (.cells c k w h))(A:o+m*Y.size<=k):∃hp1 l vs,sZ P Z t (.slice (some ⟨i,o,none⟩) m cc)=some (.tuple #[],hp1)/\hp1.d=Z.d/\(∀j,j≠i->hp1.m.l j=Z.m.l j)/\hp1.m.l i=some (.cells l k w h)/\(∀y,l.l y=(fill c o vs).l y)/\vs.length=m*Y.size:=by
 cases m with
 |zero=>exact⟨Z,c,[],by simp only[sZ,r],rfl,λ_ _=>rfl,n,λ_=>rfl,by simp⟩|succ m=>
  have f:T5 P e=F:=by simp only[T5,s,x,d,Xa]
  have u:(xrep (m+1) F.cells.toList).length=(m+1)*Y.size:=by rw[xrep_length,g]
  have a:(xrep (m+1) F.cells.toList).all Value.oneCell':=by rw[Xo];intro v hv;obtain⟨j,p,rfl⟩:=List.getElem_of_mem hv;have z:=fF F.cells.toList (m+1) j (by grind);grind
  have b:Nat.ble (o+(xrep (m+1) F.cells.toList).length) k=true:=WQ (by omega);refine⟨{Z with m:=Z.m.m i<|some<|.cells (fill c o<|xrep (m+1) F.cells.toList) k w h},fill c o<|xrep (m+1) F.cells.toList,xrep (m+1) F.cells.toList,?_,rfl,λj p=>?_,by simp only[ZD,Xg],λ_=>rfl,u⟩;simp only[sZ,r,f,n,b,a,Bool.and_self,Xa,N7];simp only[ZD,Xd p]
def Sd (D:KP P g N e Y F){o a b:Nat}(f:Nat.ble (Nat.max U n) 67108864)(y:a<b)(s:b<=n)(A:Z.m.l i=some (.cells c k e Y.size))(hk:o+n*Y.size<=k)(B:j8 c o (n*Y.size)=X)(W:X.all Value.oneCell'):XT P C 33 ((Go.Proofs.Body2.n23 N).body.getD .skip) (fill .e 0 [.slice (some ⟨i,o,none⟩) n (i4 U 0),.int .i64 a,.int .i64 b]) Z λQ r=>Q.l 6=some (.slice (some ⟨i,o,none⟩) (a+(n-b))<|i4 (Nat.max U n) 0)/\Z.d<=r.d/\(∀j,j≠i->r.m.l j=Z.m.l j)/\ ∃T,r.m.l i=some (.cells T k e Y.size)/\j8 T o ((a+(n-b))*Y.size)=(X.take (a*Y.size)++X.drop (b*Y.size)):=by
 have V:=(u7 B).1;have H:n*Y.size=b*Y.size+(n-b)*Y.size:=by rw[<-Xu];congr 1;omega
 have G:b*Y.size=a*Y.size+(b-a)*Y.size:=by rw[<-Xu];congr 1;omega
 have aa:(a+(n-b))*Y.size=a*Y.size+(n-b)*Y.size:=Xu _ _ _;have I:n<=Nat.max U n:=Ym U n;let⟨v3,h3⟩:=KK (Z:=Z) D.d D.l (i:=i) (o:=o) (a:=a) (b:=b) f (Nat.le_of_lt y) s;let⟨x,M,O,_⟩:=uR (Z:=Z) D.d D.l f s A hk B;have u:=U9 (Z:=⟨Z.m,Z.d+8⟩) D.d D.l (i:=i) (o:=o) (n:=n) (U:=U) (l:=0) (h:=a) f (by omega) (YI _) (by omega) A none (some<|.int .i64 a) (.inr ⟨rfl,rfl⟩)<|.inl rfl;rw[YC,Yi,Yv,Yv]at u;have z:(X.drop<|b*Y.size).length=(n-b)*Y.size:=by grind
 let⟨p,c2,a1,a2,a3,R,a5⟩:=Ft (Z:=⟨Z.m,Z.d+8⟩) D.d D.l D.h D.J D.D (i:=i) (o:=o) (sl:=a) (L:=Nat.max U n) (O _) A (by omega) (by omega) f (by grind) z;have K:=U9 (Z:=p) D.d D.l (i:=i) (o:=o) (n:=a+(n-b)) (U:=Nat.max U n) (l:=a+(n-b)) (h:=n) (by rw[show Nat.max (Nat.max U n) (a+(n-b))=Nat.max U n from YM<|by omega];exact f)
  (Ya I<|Nat.le_max_left _ _) (by omega) (XW (by omega)<|Nat.le_max_left _ _) R (some<|.int .i64 ((a+(n-b):Nat):Int)) (some<|.int .i64 n) (.inl rfl) (.inl rfl)
 let⟨J,S,vs,b1,b2,b3,b4,b5,b6⟩:=HW (Z:=p) D.d D.l D.h D.s D.J D.u (i:=i) (o:=o+(a+(n-b))*Y.size) (m:=n-(a+(n-b))) (cc:=i4 (Nat.max (Nat.max U n) (a+(n-b))-(a+(n-b))) 0) R
  (by have : (n - (a + (n - b))) *  Y.size = (b - a) *  Y.size := by congr 1; omega
      omega)
 refine .d<|.d<|.d rfl rfl (λ_ _=>rfl)<|.h ?_;refine .d<|.d ?_;refine .l rfl rfl rfl rfl<|.l rfl rfl rfl rfl<|.l rfl rfl rfl rfl<|.l rfl rfl rfl rfl<|.d (v:= .int .i64 n) (hp1:=Z) rfl rfl (λ_ _=>L9 D.d _ _ _)<|.d (v:=v3) (hp1:=Z) rfl rfl (λ_ _=>h3)<|.h ?_;refine .d<|.s<|.d<|.l rfl rfl rfl rfl<|.l rfl rfl rfl rfl<|.d (v:= .bool false) (hp1:=Z) rfl rfl ?_ (.h<|.h rfl<|.l ?_);intro _ _;show j4 Z (M3 P .eql (N.t 3) (.int .i64 a)<|.int .i64 b)=_;simp only[M3,aO,XZ,Xa,K4,mO,j4];simp_all;omega;refine .d<|.d<|.l rfl rfl rfl rfl<|.d (v:= .int .i64 n) (hp1:=Z) rfl rfl (λ_ _=>L9 D.d _ _ _)<|.s rfl rfl rfl rfl<|.h ?_;refine .d<|.u (by kernel_rfl) ?_;refine .d rfl rfl rfl rfl<|.d rfl rfl rfl rfl<|.l (v:= .slice (some ⟨i,o,none⟩) a (i4 (Nat.max U n) 0)) rfl rfl rfl (λ_=>u) ?_;refine .d rfl rfl rfl rfl<|.d rfl rfl rfl rfl<|.l (v:=x) rfl rfl rfl (λ_=>M _) ?_;refine .D (v:= .slice (some ⟨i,o,none⟩) (a+(n-b)) (i4 (Nat.max U n) 0)) (S2:=p) rfl rfl rfl (by kernel_rfl) (λ_ _=>CY a1) ?_;refine .u rfl rfl rfl rfl<|.h ⟨by kernel_rfl,by kernel_rfl,?_⟩;refine .d<|.d<|.l rfl rfl rfl rfl<|.l rfl rfl rfl rfl<|.d (v:= .int .i64 ((a+(n-b):Nat):Int)) (hp1:=p) rfl rfl (λ_ _=>L9 D.d _ _ _)<|.l rfl rfl rfl rfl<|.d (hp1:=p) rfl rfl (λ_ _=>K)<|.d (hp1:=J) rfl rfl (λ_ _=>b1)<|.h ?_;refine .d<|.d<|.l rfl rfl rfl rfl<|.s rfl rfl rfl rfl<|.h ?_;refine .s ⟨rfl,?_,λj w=>by rw[b3 j w,a3 j w],S,b4,?_⟩;grind
 .have E:(X.take<|a*Y.size).length=a*Y.size:=by rw[Xt];omega
  have d:(X.take (a*Y.size)++X.drop (b*Y.size)).length=(a+(n-b))*Y.size:=by grind
  have:=B6 (c:=S) (vs:=X.take (a*Y.size)++X.drop (b*Y.size)) (o:=o) (λj w=>by rw[d]at w;rw[b5,j6,af,a5,j6];by_cases h1:j<a*Y.size;rw[af,WS<|by omega,Xr,Xg h1];exact((u7 B).2 j<|by omega).symm;rw[Xg<|by omega,WR<|by omega,E];congr 1;omega);rw[d]at this;exact this
structure mQ (P:Aw)(g:Ay)(N:Go.Shelf.Ren)(e:Ax)(Y:Ba)(F:Av):Prop where
 fn:∃fn,P.funcs[g]? =some fn/\fn.body=(Go.Proofs.Body2.n21 N).body/\fn.ntmps=95/\fn.results= #[.tmp 6]
 d:P.underlying (N.t 22)=some (.slice e)
 V:P.underlying (N.t 3)=some (.int .i64)
 h:P.info? e=some Y
 l:Y.zero=some F
 D:cst F=true
 u:F.cells.toList.length=Y.size
 J:1<=Y.size
 s:Y.bytes<=1048576
 fo:∃fo,P.funcs[N.f 27]? =some fo/\cN fo=false
 nT:Nat.beq (N.t 22) nA=false
def COv (N:Go.Shelf.Ren)(call:i9):Prop:=call.g (N.f 27)=(N.t 22)
variable {Q:Hp}{j q:Nat}
def gZ {size c:Nat}(h:Q.m.l j=Z.m.l j):A8 Q size (.slice (some ⟨j,q,none⟩) m c)=A8 Z size (.slice (some ⟨j,q,none⟩) m c):=by simp only[A8,h]
def cQ (t:Ax){a b:Nat}(h:a+b<4611686018427387904):j4 Z (M3 P .add t (.int .i64 a)<|.int .i64 b)=some (.int .i64 ((a+b:Nat):Int),Z):=by
 have:IntKind.i64.wrap ((a:Int)+(b:Int))=((a+b:Nat):Int):=by rw[IntKind.wrap_i64];omega
 simp only[M3,aO,XZ,Xa,K4,j4,this]
def TI (t:Ax){a b:Nat}(h:a<4611686018427387904)(c:b<=a):j4 Z (M3 P .sub t (.int .i64 a)<|.int .i64 b)=some (.int .i64 ((a-b:Nat):Int),Z):=by
 have:IntKind.i64.wrap ((a:Int)-(b:Int))=((a-b:Nat):Int):=by rw[IntKind.wrap_i64];omega
 simp only[M3,aO,XZ,Xa,K4,j4,this]
def fK (t:Ax){a b:Nat}(h:a≠b):j4 Z (M3 P .eql t (.int .i64 a)<|.int .i64 b)=some (.bool false,Z):=by simp only[M3,aO,XZ,Xa,K4,mO,j4];rw[Yr<|by omega]
def Pu (t:Ax)(a:Nat):j4 Z (M3 P .eql t (.int .i64 a)<|.int .i64 a)=some (.bool true,Z):=by simp only[M3,aO,XZ,Xa,K4,mO,j4]
def Lq (t:Ax){M up:Nat}{b:Bool}(f:M<18446744073709551616)(h:(b=false/\up=0/\m<=M)\/(b/\up=m/\m≠0)):j4 Z (M3 P .gtr t (.int .i64 m)<|.complex .f64 M up)=some (.bool b,Z):=by
 have a:V9 (.int .i64 (m:Nat))=some (.i64,m,m+1):=rfl;have c:V9 (.complex .f64 M up)=some (.i64,M,up):=by simp only[V9,bU,Gq];rw[show jI M=M by exact YQ f]
 have d:aO P .gtr t (.int .i64 m) (.complex .f64 M up)=none:=rfl;have e:cW (M,up) (m,m+1)=some b:=by rw[cW];obtain⟨rfl,rfl,h⟩| ⟨rfl,rfl,h⟩:=h;rw[w9 rfl,Bool.not_true,Bool.false_and,Xb,B0<|Nat.succ_ne_zero m,WQ<|by omega];rfl;rw[B0 h,WQ<|Xh _];rfl
 simp only[M3,d,HS,a,c,XZ,Xa,PK,e,XH,j4]
def Bg {t:Ax}(c:P.underlying t=some (.slice e))(a:Addr){up:Nat}(b:up<unk):j4 Z (qT P t<|.slice (some a) n<|i4 U up)=some (.complex .f64 (Nat.max U n) up,Z):=by simp only[qT,c,WQ<|y5 U up,Xa,K9 b,J4 b,j4]
def gW {t:Ax}(l:P.underlying t=some (.slice e))(h:P.info? e=Y){o dl dc b:Nat}{a:Nat}(g:Z.m.l i=some (.cells c k w a))(p:A8 Z Y.size (.slice (some ⟨j,q,none⟩) (Nat.min n dl) b)=(m,vs))(r:o+m*Y.size<=k\/(unk<=dc/\a=Y.size/\o<=k))(s:m<=dl)(d:vs.all Value.oneCell'):Da P Z t (.slice (some ⟨i,o,none⟩) dl dc) (.slice (some ⟨j,q,none⟩) n b)=some (.int .i64 m,{Z with m:=Z.m.m i<|some<|.cells (fill c o vs) (Nat.max k<|o+m*Y.size) w a}):=by
 have f:((Nat.ble (o+m*Y.size) k|| (Nat.ble unk dc&&Nat.beq a Y.size&&Nat.ble o k))&&Nat.ble m dl&&vs.all Value.oneCell'):=by simp_all;omega
 simp only[Da,l,h,g,p];rw[f,Xa,N7]
def gV {t u:Ax}{r:Av×Hp}(h:Da P Z t x y=r):C7 P Z .copy [t,u] [x,y]=r:=by simp only[C7,h]
def Kx {t u:Ax}{r:Av×Hp}(a:F8 P Z t u x y=none)(h:cE P Z t u x y=r):C7 P Z .append [t,u] [x,y]=r:=by simp only[C7,a,h]
variable {E:Ao}{B I A:Nat}
def KJ (D:mQ P g N e Y F){call:i9}(a:COv N call){v s c w u d:Nat}{h:Ao}{r k x:Nat}(b:i≠j)(o:Z.m.l i=some (.cells h r k x))(p:Z.m.l j=some (.cells E I B A))(q:1<=I):nB P call Z (.func (.func<|N.f 27) #[] #[]) [.slice (some ⟨i,v,none⟩) s c,.slice (some ⟨j,w,none⟩) u d]=some (.bool false,Z):=by let⟨y,l,n⟩:=D.fo;have a:call.g (N.f 27)=some (N.t 22):=a;simp only[nB,l,ob,n,Xb,a,D.nT];show If P Z (N.t 22) [_,_]=_;simp only[If,D.d,D.h,B0 b,Xb,o,p,WQ q,Xa]
variable {L:Nat}
def HZ (D:mQ P g N e Y F){a:Aq}{c:Nat}{r i:Av}{hp1:Hp}(h:A0 P Z (N.t 22) (.slice a n c) (some<|.int .i64 n) none none=(i,Z))(f:F8 P Z (N.t 22) (N.t 22) (.slice a n c) (.slice (some ⟨j,q,none⟩) 1 L)=(r,hp1)):XT P C 95 ((Go.Proofs.Body2.n21 N).body.getD .skip) (fill .e 0 [.slice a n c,.int .i64 n,.slice (some ⟨j,q,none⟩) 1 L]) Z λd Q=>d.l 6=r/\Q=hp1:=by refine .d<|.d<|.d rfl rfl (λ_ _=>rfl)<|.h<|.d<|.d<|.l rfl rfl rfl rfl<|.l rfl rfl rfl rfl<|.d rfl rfl (λ_ _=>h)<|.h<|.d<|.d<|.l rfl rfl rfl rfl<|.d (v:= .int .i64 ((1:Nat):Int)) rfl rfl (λ_ _=>L9 D.d _ _ _)<|.s rfl rfl rfl rfl<|.h<|.d<|.s<|.d<|.l rfl rfl rfl rfl<|.d rfl rfl (λ_ _=>fK (P:=P) (N.t 3) (b:=0)<|by omega)<|.h<|.h rfl<|.l<|.d<|.d<|.l rfl rfl rfl rfl<|.d rfl rfl (λ_ _=>L9 D.d _ _ _)<|.s rfl rfl rfl rfl<|.h<|.l<|.d<|.d<|.l rfl rfl rfl rfl<|.l rfl rfl rfl rfl<|.d rfl rfl (λ_ _=>Pu (P:=P) (N.t 3) n)<|.h<|.h rfl<|.d<|.d<|.l rfl rfl rfl rfl<|.l rfl rfl rfl rfl<|.d rfl rfl (λ_ _=>CY f)<|.s rfl rfl rfl rfl<|.h<|.s ⟨rfl,rfl⟩
def Cs {b:Ao}{o s a:Nat}(e:a<=n)(g:X.length=n*s)(f:W.length=s)(p:∀j,j<a*s->b.l (o+j)=X[j]?)(q:∀j,j<s->b.l (o+a*s+j)=W[j]?)(d:∀j,j<(n-a)*s->b.l (o+(a+1)*s+j)=X[a*s+j]?):j8 b o ((n+1)*s)=(X.take (a*s)++W++X.drop (a*s)):=by
 have t:n*s=a*s+(n-a)*s:=by rw[<-Xu];congr 1;omega
 have h:(a+1)*s=a*s+s:=Yj _ _;have i:(n+1)*s=n*s+s:=Yj _ _;have k:(X.take (a*s)++W).length=a*s+s:=by grind
 have u:(X.take (a*s)++W++X.drop (a*s)).length=(n+1)*s:=by grind
 have:=B6 (c:=b) (vs:=X.take (a*s)++W++X.drop (a*s)) (o:=o) (λj r=>by by_cases l:j<a*s;grind;by_cases m:j<a*s+s;grind;rw[WR<|by omega,k,Xx];have:=d (j-(a*s+s)) (by omega);rw[show o+(a+1)*s+(j-(a*s+s))=o+j by omega]at this;rw[this]);grind
def Db (D:mQ P g N e Y F){o d:Nat}(s:Nat.ble (Nat.max U n) 67108864)(p:n+1<=Nat.max U n)(O:d<n)(ac:j≠i)(z:Z.m.l i=some (.cells c k e Y.size))(ak:Z.m.l j=some (.cells E I B A))(hk:o+n*Y.size<=k)(hl:j8 c o (n*Y.size)=some X)(hn:A8 Z Y.size (.slice (some ⟨j,q,none⟩) 1 L)=some (1,W))(ap:W.length=Y.size)(H:X.all Value.oneCell')(S:W.all Value.oneCell'):XT P (COv N) 95 ((Go.Proofs.Body2.n21 N).body.getD .skip) (fill .e 0 [.slice (some ⟨i,o,none⟩) n (i4 U 0),.int .i64 d,.slice (some ⟨j,q,none⟩) 1 L]) Z λaq Q=>aq.l 6=some (.slice (some ⟨i,o,none⟩) (n+1)<|i4 (Nat.max U n) 0)/\Z.d<=Q.d/\(∀x,x≠i->Q.m.l x=Z.m.l x)/\ ∃ct k',Q.m.l i=some (.cells ct k' e Y.size)/\o+(n+1)*Y.size<=k'/\j8 ct o ((n+1)*Y.size)=some (X.take (d*Y.size)++W++X.drop (d*Y.size)):=by
 have au:Nat.max U n<=67108864:=WN s;generalize w:Nat.max U n=M at*;have ae:=(u7 hl).1;have r:Nat.max M (n+1)=M:=YM p;have ah:Nat.ble (Nat.max M<|n+1) 67108864:=by rw[r];exact s
 have hs:=D.J;have m1:n*Y.size=d*Y.size+(n-d)*Y.size:=by rw[<-Xu];congr 1;omega
 have m2:(d+1)*Y.size=d*Y.size+Y.size:=Yj _ _;have m3:(n+1)*Y.size=n*Y.size+Y.size:=Yj _ _;have m4:(d+1)*Y.size<=n*Y.size:=WW _ O;have s1:=U9 (Z:=Z) D.d D.h (i:=i) (o:=o) (n:=n) (U:=U) (l:=d) (h:=n) (by rw[w];exact s) (by rw[w];omega) (Nat.le_of_lt O) (by rw[w];omega) z (some<|.int .i64 d) none (.inl rfl)<|.inr ⟨rfl,rfl⟩;have s2:=U9 (Z:=Z) D.d D.h (i:=i) (o:=o) (n:=n) (U:=U) (l:=0) (h:=n+1) (by rw[w];exact s) (by rw[w];omega) (YI _) (by rw[w];omega) z none (some<|.int .i64 ((n+1:Nat):Int)) (.inr ⟨rfl,rfl⟩)<|.inl rfl;rw[w]at s2;simp only[YC,Yi,Yv]at s2;have s3:∀(f:Hp) {ct:Ao} {kx:Nat},f.m.l i=some (.cells ct kx e Y.size)-> ∀l,l<n+1->A0 P f (N.t 22) (.slice (some ⟨i,o,none⟩) (n+1)<|i4 M 0) (some<|.int .i64 l) none none=some (.slice (some ⟨i,o+l*Y.size,none⟩) (n+1-l)<|i4 (M-l) 0,f):=λf ct kx al l ao=>by have:=U9 (Z:=f) D.d D.h (i:=i) (o:=o) (n:=n+1) (U:=M) (l:=l) (h:=n+1) ah (by rw[r];omega) (Nat.le_of_lt ao) (by rw[r];omega) al (some<|.int .i64 l) none (.inl rfl)<|.inr ⟨rfl,rfl⟩;rwa[r]at this
 have aj:=eO hl (a:=d*Y.size) (m:=(n-d)*Y.size) (by omega);rw[XP<|by rw[XV];omega]at aj;have R:(X.drop<|d*Y.size).all Value.oneCell':=by rw[Xo]at H⊢;exactλv hv=>H v<|YA hv
 have x1:A8 ⟨Z.m,Z.d+9⟩ Y.size (.slice (some ⟨i,o+d*Y.size,none⟩) (Nat.min (n+1-d)<|n+1-(d+1))<|i4 (M-d) 0)=(n-d,X.drop<|d*Y.size):=by
  have ai:Nat.min (n+1-d) (n+1-(d+1))=n-d:=by rw[show n+1-(d+1)=n-d by omega];exact Nat.min_eq_right (by omega)
  have aa:Nat.ble (o+d*Y.size+(n-d)*Y.size) k=true:=WQ (by omega);simp only[A8,z,rdC,ai,aa,Xa,aj]
 have c1:=gW (Z:=⟨Z.m,Z.d+9⟩) D.d D.h (i:=i) (o:=o+(d+1)*Y.size) (dl:=n+1-(d+1)) (dc:=i4 (M-(d+1)) 0) z x1 (.inr ⟨y5 _ _,rfl,by omega⟩) (by omega) R;generalize am:Nat.max k (o+(d+1)*Y.size+(n-d)*Y.size)=V at c1;have ad:o+(n+1)*Y.size<=V:=by rw[<-am];exact Ya (by omega)<|Ym _ _
 generalize ab:fill c (o+(d+1)*Y.size) (X.drop<|d*Y.size)=J at c1;generalize K:({(⟨Z.m,Z.d+9⟩:Hp)with m:=(⟨Z.m,Z.d+9⟩:Hp).m.m i<|some<|.cells J V e Y.size}:Hp)=H1 at c1;have C:H1.m.l i=some (.cells J V e Y.size):=by rw[<-K];simp only[ZD,Xg]
 have G:∀x,x≠i->H1.m.l x=Z.m.l x:=λx hx=>by rw[<-K];simp only[ZD,Xd hx]
 have x2:A8 H1 Y.size (.slice (some ⟨j,q,none⟩) (Nat.min 1<|n+1-d) L)=some (1,W):=by rw[show Nat.min 1 (n+1-d)=1 from Nat.min_eq_left<|by omega,gZ<|G j ac];exact hn
 have c2:=gW (Z:=H1) D.d D.h (i:=i) (o:=o+d*Y.size) (dl:=n+1-d) (dc:=i4 (M-d) 0) C x2 (.inl<|by omega) (by omega) S;have an:Nat.max V (o+d*Y.size+1*Y.size)=V:=YM (by omega);rw[an]at c2;simp only[Go.Proofs.Body2.n21,XB,fill];refine .d<|.d<|.d rfl rfl (λ_ _=>rfl)<|.h ?_;refine .d<|.d<|.l rfl rfl rfl rfl<|.l rfl rfl rfl rfl<|.d (hp1:=Z) rfl rfl (λ_ _=>s1)<|.h ?_;refine .d<|.d<|.l rfl rfl rfl rfl<|.d (v:= .int .i64 ((1:Nat):Int)) (hp1:=Z) rfl rfl (λ_ _=>L9 D.d _ _ _)<|.s rfl rfl rfl rfl<|.h ?_;refine .d<|.s<|.d<|.l rfl rfl rfl rfl<|.d (v:= .bool false) (hp1:=Z) rfl rfl (λ_ _=>fK (P:=P) (N.t 3) (a:=1) (b:=0)<|by omega)<|.h<|.h rfl<|.l ?_;refine .d<|.d<|.l rfl rfl rfl rfl<|.d (v:= .int .i64 n) (hp1:=Z) rfl rfl (λ_ _=>L9 D.d _ _ _)<|.s rfl rfl rfl rfl<|.h ?_;refine .d<|.s<|.d<|.l rfl rfl rfl rfl<|.l rfl rfl rfl rfl<|.d (v:= .bool false) (hp1:=Z) rfl rfl (λ_ _=>fK (P:=P) (N.t 3) (a:=d) (b:=n)<|by omega)<|.h<|.h rfl<|.l ?_;refine .d<|.s<|.d<|.l rfl rfl rfl rfl<|.l rfl rfl rfl rfl<|.d (v:= .int .i64 ((n+1:Nat):Int)) (hp1:=Z) rfl rfl (λ_ _=>cQ (P:=P) (N.t 3) (a:=n) (b:=1)<|by omega)<|.l rfl rfl rfl rfl<|.d (v:= .complex .f64 M 0) (hp1:=Z) rfl rfl (λ_ _=>by rw[<-w];exact Bg D.d _ I8)<|.d (v:= .bool false) (hp1:=Z) rfl rfl (λ_ _=>Lq (P:=P) (N.t 3) (m:=n+1) (M:=M) (up:=0) (by omega)<|.inl ⟨rfl,rfl,p⟩)<|.h<|.h rfl<|.l ?_;refine .d<|.d<|.l rfl rfl rfl rfl<|.l rfl rfl rfl rfl<|.l rfl rfl rfl rfl<|.d (v:= .int .i64 ((n+1:Nat):Int)) (hp1:=Z) rfl rfl (λ_ _=>cQ (P:=P) (N.t 3) (a:=n) (b:=1)<|by omega)<|.d (hp1:=Z) rfl rfl (λ_ _=>s2)<|.s rfl rfl rfl rfl<|.h ?_;refine .l<|.d<|.d<|.l rfl rfl rfl rfl<|.l rfl rfl rfl rfl<|.l rfl rfl rfl rfl<|.l rfl rfl rfl rfl<|.d (v:= .int .i64 ((d+1:Nat):Int)) (hp1:=Z) rfl rfl (λ_ _=>cQ (P:=P) (N.t 3) (a:=d) (b:=1)<|by omega)<|.d (hp1:=Z) rfl rfl (λ_ _=>s3 Z z (d+1)<|by omega)<|.d (v:= .bool false) (hp1:=Z) rfl rfl (λ_ hc=>KJ D hc ac ak z<|by omega)<|.d (v:= .bool true) (hp1:=Z) rfl rfl (λ_ _=>rfl)<|.h ?_;refine .h rfl ?_;refine .d<|.u (by kernel_rfl) ?_;refine .d rfl rfl rfl rfl<|.d rfl rfl rfl rfl<|.d rfl rfl rfl rfl<|.s (v:= .int .i64 ((d+1:Nat):Int)) rfl rfl rfl (λ_ _=>cQ (P:=P) (N.t 3) (a:=d) (b:=1)<|by omega)<|.l rfl rfl rfl (λ_=>s3 ⟨Z.m,Z.d+9⟩ z (d+1)<|by omega) ?_;refine .d rfl rfl rfl rfl<|.d rfl rfl rfl rfl<|.l rfl rfl rfl (λ_=>s3 ⟨Z.m,Z.d+9⟩ z d<|by omega) ?_;refine .D (v:= .int .i64 ((n-d:Nat):Int)) (S2:=H1) rfl rfl rfl (by kernel_rfl) (λ_ _=>gV (u:=N.t 22) c1) ?_;refine .h ⟨by kernel_rfl,by kernel_rfl,?_⟩;refine .d<|.d<|.l rfl rfl rfl rfl<|.l rfl rfl rfl rfl<|.d (hp1:=H1) rfl rfl (λ_ _=>s3 H1 C d<|by omega)<|.l rfl rfl rfl rfl<|.d rfl rfl (λ_ _=>gV (u:=N.t 22) c2)<|.h ?_;refine .d<|.d<|.l rfl rfl rfl rfl<|.s rfl rfl rfl rfl<|.h ?_;refine .s ⟨rfl,?_,λx hx=>?_,fill J (o+d*Y.size) W,V,?_,ad,?_⟩;show Z.d<=H1.d;rw[<-K];exact Nat.le_add_right _ _;show(H1.m.m i _).l x=_;rw[ZD,Xd hx,G x hx];show(H1.m.m i _).l i=_;rw[ZD,Xg rfl];refine Cs (Nat.le_of_lt O) ae ap (λy hy=>?_) (λy hy=>?_)<|λy hy=>?_;rw[j6,af,<-ab,j6,af];exact((u7 hl).2 y<|by omega).symm;rw[j6,Xg<|by omega];congr 1;omega;rw[j6,af,<-ab,j6,Xg<|by rw[XV];omega,Xx];congr 1;omega
def Oa (D:mQ P g N e Y F){o d:Nat}(S:Nat.ble (n+1) 67108864)(K:d<n)(hi:i<Z.d)(hj:j<Z.d)(hg:Z.m.l i=some (.cells c k e Y.size))(hk:o+n*Y.size<=k)(hl:j8 c o (n*Y.size)=some X)(hn:A8 Z Y.size (.slice (some ⟨j,q,none⟩) 1 L)=some (1,W))(av:W.length=Y.size)(G:X.all Value.oneCell')(aa:W.all Value.oneCell'):XT P C 95 ((Go.Proofs.Body2.n21 N).body.getD .skip) (fill .e 0 [.slice (some ⟨i,o,none⟩) n (i4 n<|n+1),.int .i64 d,.slice (some ⟨j,q,none⟩) 1 L]) Z λaw Q=>aw.l 6=some (.slice (some ⟨Z.d,0,none⟩) (n+1)<|i4 (n+1) 0)/\Z.d<Q.d/\(∀x,x≠Z.d->Q.m.l x=Z.m.l x)/\ ∃ct k',Q.m.l Z.d=some (.cells ct k' e Y.size)/\0+(n+1)*Y.size<=k'/\j8 ct 0 ((n+1)*Y.size)=some (X.take (d*Y.size)++W++X.drop (d*Y.size)):=by
 have ax:n+1<=67108864:=WN S;have ai:=(u7 hl).1;have p:Nat.max n n=n:=Nat.max_self n;have w:n+1<unk:=by rw[unk];omega
 have B:Nat.ble (Nat.max n n) 67108864:=by rw[p];exact WQ (by omega)
 have s:Nat.max (n+1) (n+1)=n+1:=Nat.max_self _;have aj:Nat.ble (Nat.max (n+1)<|n+1) 67108864:=by rw[s];exact S
 have m1:n*Y.size=d*Y.size+(n-d)*Y.size:=by rw[<-Xu];congr 1;omega
 have m2:(d+1)*Y.size=d*Y.size+Y.size:=Yj _ _;have m3:(n+1)*Y.size=n*Y.size+Y.size:=Yj _ _;have s1:∀(f:Hp),f.m.l i=some (.cells c k e Y.size)->A0 P f (N.t 22) (.slice (some ⟨i,o,none⟩) n<|i4 n<|n+1) (some<|.int .i64 d) none none=some (.slice (some ⟨i,o+d*Y.size,none⟩) (n-d)<|i4 (n-d)<|n+1-d,f):=λf R=>by have:=tM (Z:=f) D.d D.h (i:=i) (o:=o) (n:=n) (U:=n) (l:=d) (h:=n) w B (by rw[p];exact Xh _) (Nat.le_of_lt K) (by rw[p];exact K) R (some<|.int .i64 d) none (.inl rfl)<|.inr ⟨rfl,rfl⟩;rwa[p]at this
 have s2:=tM (Z:=Z) D.d D.h (i:=i) (o:=o) (n:=n) (U:=n) (l:=0) (h:=d) w B (by rw[p];omega) (YI _) (by rw[p];omega) hg none (some<|.int .i64 d) (.inr ⟨rfl,rfl⟩)<|.inl rfl;rw[p]at s2;simp only[YC,Yi,Yv]at s2;have ah:=eO hl (a:=0) (m:=d*Y.size) (by omega);rw[Yi,YJ]at ah;generalize hV:X.take (d*Y.size)++xrep (n+1-d) F.cells.toList=V at*;have an:V.length=(n+1)*Y.size:=by rw[<-hV,Xl,Xt,xrep_length,D.u,show min (d*Y.size) X.length=d*Y.size by omega,<-Xu];congr 1;omega
 have ac:F8 P Z (N.t 22) (N.t 3) (.slice (some ⟨i,o,none⟩) d<|i4 n<|n+1) (.int .i64 ((n+1-d:Nat):Int))=none:=by unfold F8;simp only[D.d,D.V]
 have ab:cE P Z (N.t 22) (N.t 3) (.slice (some ⟨i,o,none⟩) d<|i4 n<|n+1) (.int .i64 ((n+1-d:Nat):Int))=some (.slice (some ⟨Z.d,0,none⟩) (n+1)<|i4 (n+1) 0,Z.f V e Y.size):=by
  have e1:(cst F&&Nat.beq F.cells.toList.length Y.size&&Nat.ble Y.bytes 1048576&&Nat.ble 1 Y.size&&Nat.ble 1 (n+1-d)&&Nat.ble (d+(n+1-d)) 67108864&&(Nat.ble unk (i4 n<|n+1)&&Nat.ble 1 (I0<|i4 n<|n+1)&&Nat.ble (I0<|i4 n<|n+1) (d+(n+1-d))))=true:=by rw[D.D,D.u,w9 rfl,WQ D.s,WQ D.J,WQ (show 1<=n+1-d by omega),show d+(n+1-d)=n+1 by omega,S,WQ<|y5 n<|n+1,J4 w,WQ (show 1<=n+1 by omega),WQ<|Xh _];rfl
  have e2:Nat.ble (o+d*Y.size) k=true:=WQ (by omega);have e3:d+(n+1-d)=n+1:=by omega
  unfold cE;simp only[D.d,D.V,D.h,D.l];rw[e1,Xa];simp only[hg,e2,Xa,ah,e3,hV]
 generalize I:Z.f V e Y.size=H0 at ab;have z:H0.m.l Z.d=some (.cells (fill .e 0 V) ((n+1)*Y.size) e Y.size):=by rw[<-I];show(Z.m.m Z.d _).l Z.d=_;rw[ZD,Xg rfl,an]
 have E:∀x,x≠Z.d->H0.m.l x=Z.m.l x:=λx hx=>by rw[<-I];show(Z.m.m Z.d _).l x=_;rw[ZD,Xd hx]
 have s3:∀(f:Hp) {ct:Ao} {kx:Nat},f.m.l Z.d=some (.cells ct kx e Y.size)-> ∀l,l<n+1->A0 P f (N.t 22) (.slice (some ⟨Z.d,0,none⟩) (n+1)<|i4 (n+1) 0) (some<|.int .i64 l) none none=some (.slice (some ⟨Z.d,0+l*Y.size,none⟩) (n+1-l)<|i4 (n+1-l) 0,f):=λf ct kx R l au=>by have:=U9 (Z:=f) D.d D.h (i:=Z.d) (o:=0) (n:=n+1) (U:=n+1) (l:=l) (h:=n+1) aj (by rw[s];omega) (Nat.le_of_lt au) (by rw[s];omega) R (some<|.int .i64 l) none (.inl rfl)<|.inr ⟨rfl,rfl⟩;rwa[s]at this
 have x1:A8 H0 Y.size (.slice (some ⟨j,q,none⟩) (Nat.min 1<|n+1-d) L)=some (1,W):=by rw[show Nat.min 1 (n+1-d)=1 from Nat.min_eq_left<|by omega,gZ<|E j<|by omega];exact hn
 have c1:=gW (Z:=H0) D.d D.h (i:=Z.d) (o:=0+d*Y.size) (dl:=n+1-d) (dc:=i4 (n+1-d) 0) z x1 (.inl<|by omega) (by omega) aa;have ap:Nat.max ((n+1)*Y.size) (0+d*Y.size+1*Y.size)=(n+1)*Y.size:=YM (by omega);rw[ap]at c1;generalize ae:fill (fill .e 0 V) (0+d*Y.size) W=H at c1;generalize J:({H0 with m:=H0.m.m Z.d<|some<|.cells H ((n+1)*Y.size) e Y.size}:Hp)=H1 at c1;have A:H1.m.l Z.d=some (.cells H ((n+1)*Y.size) e Y.size):=by rw[<-J];simp only[ZD,Xg]
 have r:∀x,x≠Z.d->H1.m.l x=Z.m.l x:=λx hx=>by rw[<-J];simp only[ZD,Xd hx];exact E x hx
 have al:=eO hl (a:=d*Y.size) (m:=(n-d)*Y.size) (by omega);rw[XP<|by rw[XV];omega]at al;have O:(X.drop<|d*Y.size).all Value.oneCell':=by rw[Xo]at G⊢;exactλv hv=>G v<|YA hv
 have x2:A8 ⟨H1.m,H1.d+9⟩ Y.size (.slice (some ⟨i,o+d*Y.size,none⟩) (Nat.min (n-d)<|n+1-(d+1))<|i4 (n-d)<|n+1-d)=(n-d,X.drop<|d*Y.size):=by
  have ak:Nat.min (n-d) (n+1-(d+1))=n-d:=by rw[show n+1-(d+1)=n-d by omega];exact Nat.min_self _
  have ad:Nat.ble (o+d*Y.size+(n-d)*Y.size) k=true:=WQ (by omega);have ao:H1.m.l i=some (.cells c k e Y.size):=by rw[r i<|by omega];exact hg
  simp only[A8,ao,rdC,ak,ad,Xa,al]
 have c2:=gW (Z:=⟨H1.m,H1.d+9⟩) D.d D.h (i:=Z.d) (o:=0+(d+1)*Y.size) (dl:=n+1-(d+1)) (dc:=i4 (n+1-(d+1)) 0) A x2 (.inl<|by omega) (by omega) O;have aq:Nat.max ((n+1)*Y.size) (0+(d+1)*Y.size+(n-d)*Y.size)=(n+1)*Y.size:=YM (by omega);rw[aq]at c2;refine .d<|.d<|.d rfl rfl (λ_ _=>rfl)<|.h ?_;refine .d<|.d<|.l rfl rfl rfl rfl<|.l rfl rfl rfl rfl<|.d (hp1:=Z) rfl rfl (λ_ _=>s1 Z hg)<|.h ?_;refine .d<|.d<|.l rfl rfl rfl rfl<|.d (v:= .int .i64 ((1:Nat):Int)) (hp1:=Z) rfl rfl (λ_ _=>L9 D.d _ _ _)<|.s rfl rfl rfl rfl<|.h ?_;refine .d<|.s<|.d<|.l rfl rfl rfl rfl<|.d (v:= .bool false) (hp1:=Z) rfl rfl (λ_ _=>fK (P:=P) (N.t 3) (a:=1) (b:=0)<|by omega)<|.h<|.h rfl<|.l ?_;refine .d<|.d<|.l rfl rfl rfl rfl<|.d (v:= .int .i64 n) (hp1:=Z) rfl rfl (λ_ _=>L9 D.d _ _ _)<|.s rfl rfl rfl rfl<|.h ?_;refine .d<|.s<|.d<|.l rfl rfl rfl rfl<|.l rfl rfl rfl rfl<|.d (v:= .bool false) (hp1:=Z) rfl rfl (λ_ _=>fK (P:=P) (N.t 3) (a:=d) (b:=n)<|by omega)<|.h<|.h rfl<|.l ?_;refine .l<|.d<|.d<|.l rfl rfl rfl rfl<|.l rfl rfl rfl rfl<|.d (v:= .int .i64 ((n+1:Nat):Int)) (hp1:=Z) rfl rfl (λ_ _=>cQ (P:=P) (N.t 3) (a:=n) (b:=1)<|by omega)<|.l rfl rfl rfl rfl<|.d (v:= .complex .f64 n (n+1)) (hp1:=Z) rfl rfl (λ_ _=>(Bg D.d _ w).trans<|by rw[p])<|.d (v:= .bool true) (hp1:=Z) rfl rfl (λ_ _=>Lq (P:=P) (N.t 3) (m:=n+1) (M:=n) (up:=n+1) (by omega)<|.inr ⟨rfl,rfl,by omega⟩)<|.h ?_;refine .h rfl ?_;refine .d<|.d<|.l rfl rfl rfl rfl<|.l rfl rfl rfl rfl<|.d (hp1:=Z) rfl rfl (λ_ _=>s2)<|.l rfl rfl rfl rfl<|.l rfl rfl rfl rfl<|.d (v:= .int .i64 ((n+1:Nat):Int)) (hp1:=Z) rfl rfl (λ_ _=>cQ (P:=P) (N.t 3) (a:=n) (b:=1)<|by omega)<|.l rfl rfl rfl rfl<|.d (v:= .int .i64 ((n+1-d:Nat):Int)) (hp1:=Z) rfl rfl (λ_ _=>TI (P:=P) (N.t 3) (a:=n+1) (b:=d) (by omega)<|by omega)<|.d (hp1:=H0) rfl rfl (λ_ _=>Kx ac ab)<|.s rfl rfl rfl rfl<|.h ?_;refine .d<|.d<|.l rfl rfl rfl rfl<|.l rfl rfl rfl rfl<|.d (hp1:=H0) rfl rfl (λ_ _=>s3 H0 z d<|by omega)<|.l rfl rfl rfl rfl<|.d (hp1:=H1) rfl rfl (λ_ _=>gV (u:=N.t 22) c1)<|.h ?_;refine .d<|.u (by kernel_rfl) ?_;refine .d rfl rfl rfl rfl<|.d rfl rfl rfl rfl<|.d rfl rfl rfl rfl<|.s (v:= .int .i64 ((d+1:Nat):Int)) rfl rfl rfl (λ_ _=>cQ (P:=P) (N.t 3) (a:=d) (b:=1)<|by omega)<|.l rfl rfl rfl (λ_=>s3 ⟨H1.m,H1.d+9⟩ A (d+1)<|by omega) ?_;refine .d rfl rfl rfl rfl<|.d rfl rfl rfl rfl<|.l rfl rfl rfl (λ_=>s1 ⟨H1.m,H1.d+9⟩ (by rw[<-hg];exact r i<|by omega)) ?_;refine .D (v:= .int .i64 ((n-d:Nat):Int)) rfl rfl rfl (by kernel_rfl) (λ_ _=>gV (u:=N.t 22) c2) ?_;refine .h ⟨by kernel_rfl,by kernel_rfl,?_⟩;refine .d<|.d<|.l rfl rfl rfl rfl<|.s rfl rfl rfl rfl<|.h ?_;refine .s ⟨rfl,?_,λx hx=>?_,fill H (0+(d+1)*Y.size)<|X.drop<|d*Y.size,(n+1)*Y.size,?_,by omega,?_⟩;show Z.d<H1.d+9;rw[<-J,<-I];show Z.d<Z.d+1+9;omega;show(H1.m.m Z.d _).l x=_;rw[ZD,Xd hx,r x hx];show(H1.m.m Z.d _).l Z.d=_;rw[ZD,Xg rfl]
 .have am:∀y,y<d*Y.size->V[y]? =X[y]? :=λy hy=>by rw[<-hV,WS<|by rw[Xt];omega,Xr,Xg hy]
  refine Cs (Nat.le_of_lt K) ai av (λy hy=>?_) (λy hy=>?_)<|λy hy=>?_;rw[j6,af,<-ae,j6,af,Xq,u5 V y<|by omega];exact am y hy;rw[j6,af,<-ae,j6,Xg<|by omega];congr 1;omega;rw[j6,Xg<|by rw[XV];omega,Xx];congr 1;omega
def XF (P:Aw)(C:i9->Prop)(O:Nat)(c:Code)(R:Ao)(Z:Hp):Prop:=∃a,∀call,C call-> ∀m,a<=m->t9 P (z4 P) call O none m c R Z []=none
def XF.l (h:XF P C O a R Z):XF P C O (.seq a b) R Z:=by
 let⟨d,h⟩:=h;refine⟨d+1,λcall c m e=>?_⟩;obtain⟨j,rfl⟩:∃j,m=j+1:=⟨m-1,by omega⟩
 simp only[t9,h call c j<|by omega]
def XF.d (h:XN P C O a R Z λK hp1=>XF P C O b K hp1):XF P C O (.seq a b) R Z:=by
 let⟨K,hp1,⟨m1,d⟩,f,e⟩:=h;refine⟨max m1 f+1,λcall c m g=>?_⟩;obtain⟨j,rfl⟩:∃j,m=j+1:=⟨m-1,by omega⟩
 simp only[t9,d call c j<|by omega,e call c j<|by omega]
def XOF (P:Aw)(C:i9->Prop)(O:Nat)(all l:An)(R:Ao)(Z:Hp):Prop:=∀call,C call->Bp P call O all l R Z=none/\Dh P call O all l R Z []=none
def XOF.d {all rest:An}{o:Oper}{v:Av}(b:E6 O o.dst)(c:o.guard=none)(d:IA o.op=none)(h:∀call,C call->xop P call R Z o.op=(v,hp1))(k:XOF P C O all rest (A6 R o.dst v) hp1):XOF P C O all (o::rest) R Z:=λcall a=>by constructor;rw[Y9,b,Xa,h call a];simp only[y9,c,Xa];exact(k call a).1;simp only[Dh,b,Xa,y9,c,d,h call a];exact(k call a).2
def XOF.l {all rest:An}{o:Oper}(a:E6 O o.dst)(b:o.guard=none)(h:o.op= .move (.tmp t)){v:Av}(hv:R.l t=v)(k:XOF P C O all rest (A6 R o.dst v) Z):XOF P C O all (o::rest) R Z:=
 .d a b (by rw[h];rfl) (λ_ _=>by rw[h];simp only[xop,i7,j4,hv,XB]) k
def XOF.h {all rest:An}{o:Oper}(a:E6 O o.dst)(b:o.guard=none)(d:IA o.op=none)(h:∀call,C call->xop P call R Z o.op=none):XOF P C O all (o::rest) R Z:=λcall c=>by constructor;rw[Y9,a,Xa,h call c];simp only[y9,b,Xa];simp only[Dh,a,Xa,y9,b,d,h call c]
def XF.h (h:XOF P C O G.toList G.toList R Z):XF P C O (.region p G false) R Z:=
 ⟨1,λcall a m b=>by obtain⟨k,rfl⟩:∃k,m=k+1:=⟨m-1,by omega⟩;simp only[t9,Xb,(h call a).1,ME,(h call a).2]⟩
def KA {fn:Func}{c:Code}{args:Af}(b:P.funcs[f]? =fn)(d:fn.body=c)(h:XF P C (args.length+(fn.ntmps-args.length)) c (fill .e 0 args) Z):∃a,∀call,C call-> ∀m,a<=m-> ∀H,Y0 P (z4 P) call H m f args Z=none:=by let⟨a,j⟩:=h;refine⟨a,λcall g m i H=>?_⟩;rw[Y0];grind
def SR (t:Ax){M:Nat}(f:M<18446744073709551616)(h:M<m):j4 Z (M3 P .gtr t (.int .i64 m)<|.complex .f64 M 0)=none:=by
 have a:V9 (.int .i64 (m:Nat))=some (.i64,m,m+1):=rfl;have b:V9 (.complex .f64 M 0)=some (.i64,M,0):=by simp only[V9,bU,Gq];rw[show jI M=M by exact YQ f]
 have c:aO P .gtr t (.int .i64 m) (.complex .f64 M 0)=none:=rfl;have d:cW (M,0) (m,m+1)=none:=by unfold cW;rw[w9 rfl,Bool.not_true,Bool.false_and,Xb,B0<|Nat.succ_ne_zero m,cT<|by omega];rfl
 have e:irem .gtr (.int .i64 m) (.complex .f64 M 0)=none:=rfl;simp only[M3,c,HS,a,b,XZ,Xa,PK,d,Option.map_none,e,j4]
def Ob (D:mQ P g N e Y F){o at_:Nat}{vv:Av}(h:vv= .slice (some ⟨j,q,none⟩) 1 L)(d:Nat.ble (Nat.max U n) 67108864)(a:Nat.max U n<n+1)(f:at_<n)(r:Z.m.l i=some (.cells c k e Y.size)):XF P C 95 ((Go.Proofs.Body2.n21 N).body.getD .skip) (fill .e 0 [.slice (some ⟨i,o,none⟩) n (i4 U 0),.int .i64 at_,vv]) Z:=by subst h;have p:=WN d;have s:n<=Nat.max U n:=Ym U n;generalize l:Nat.max U n=M at*;refine .d<|.d<|.d rfl rfl (λ_ _=>rfl)<|.h<|.d<|.d<|.l rfl rfl rfl rfl<|.l rfl rfl rfl rfl<|.d rfl rfl (λ_ _=>U9 D.d D.h (o:=o) (by rw[l];exact d) (by omega) (Nat.le_of_lt f) (by omega) r (some<|.int .i64 at_) none (.inl rfl)<|.inr ⟨rfl,rfl⟩)<|.h<|.d<|.d<|.l rfl rfl rfl rfl<|.d rfl rfl (λ_ _=>L9 D.d _ _ _)<|.s rfl rfl rfl rfl<|.h<|.d<|.s<|.d<|.l rfl rfl rfl rfl<|.d rfl rfl (λ_ _=>fK (P:=P) (N.t 3) (b:=0)<|by omega)<|.h<|.h rfl<|.l<|.d<|.d<|.l rfl rfl rfl rfl<|.d rfl rfl (λ_ _=>L9 D.d _ _ _)<|.s rfl rfl rfl rfl<|.h<|.d<|.s<|.d<|.l rfl rfl rfl rfl<|.l rfl rfl rfl rfl<|.d rfl rfl (λ_ _=>fK (P:=P) (N.t 3)<|by omega)<|.h<|.h rfl<|.l<|.l<|.l<|.h<|.l rfl rfl rfl rfl<|.l rfl rfl rfl rfl<|.d rfl rfl rfl (λ_ _=>cQ (P:=P) (N.t 3)<|by omega)<|.l rfl rfl rfl rfl<|.d rfl rfl rfl (λ_ _=>by rw[<-l];exact Bg D.d _ I8)<|.h rfl rfl rfl<|λ_ _=>SR (N.t 3) (by omega) a
structure MI (Z:Hp)(i:Nat)(J:Nat->Prop)(e size n:Nat)(V:Af)(v:Av)(Q:Hp):Prop where
 s:∃b q U ct k,v= .slice (some ⟨b,q,none⟩) n (i4 U 0)/\U<=67108864/\(b=i\/Z.d<=b)/\b<Q.d/\Q.m.l b=some (.cells ct k e size)/\q+n*size<=k/\j8 ct q (n*size)=some V
 l:Z.d<=Q.d
 h:∀x,x<Z.d->x≠i-> ¬J x->Q.m.l x=Z.m.l x
def HP {t:Ax}(G:P.underlying t=some (.slice e))(C:P.info? e=some Y)(H:Y.zero=F)(N:F.cells.toList.length=Y.size)(I:Y.bytes<=1048576){o:Nat}(s:Nat.ble U 67108864)(u:n+1<=67108864)(l:A8 Z Y.size x=some (1,W))(r:i<Z.d)(B:Z.m.l i=some (.cells c k e Y.size))(K:o+n*Y.size<=k)(q:j8 c o (n*Y.size)=X)(b:W.all Value.oneCell')(D:W.length=Y.size):∃v hp1,F8 P Z t t (.slice (some ⟨i,o,none⟩) n<|i4 U 0) x=some (v,hp1)/\MI Z i (λ_=>False) e Y.size (n+1) (X++W) v hp1:=by
 obtain⟨a,d⟩:∃a,a=n+1:=⟨_,rfl⟩;rw[<-d]at u⊢;have j:=WQ u;have w:=(u7 q).1;have L:a*Y.size=n*Y.size+Y.size:=by grind
 have A:(Nat.beq F.cells.toList.length Y.size&&Nat.ble Y.bytes 1048576):=by simp_all
 have f:=WQ K;have h:(X++W).length=a*Y.size:=by grind
 cases g:Nat.ble a U with
 |true=>refine⟨.slice (some ⟨i,o,none⟩) a<|i4 U 0,{Z with m:=Z.m.m i<|some<|.cells (fill c (o+n*Y.size) W) (Nat.max k<|o+a*Y.size) e Y.size},?_,⟨i,o,U,fill c (o+n*Y.size) W,Nat.max k<|o+a*Y.size,rfl,WN s,.inl rfl,r,by simp only[ZD,Xg],Ym _ _,?_⟩,Xh _,λx _ l _=>by simp only[ZD,Xd l]⟩;simp only[F8,G,C,H];rw[A,Xa,l];simp only[B];rw[<-d,j];simp only[b,Bool.and_self,Xa,B0<|Nat.one_ne_zero,Xb,WQ<|y5 U 0,Y1,bI,f,w9,g,N7];rw[show Nat.ble 1 0=false from rfl,Bool.false_and,Xb];rw[<-h];exact B6 (λy M=>by rw[j6];by_cases p:y<n*Y.size;rw[af,WS<|by omega];exact((u7 q).2 y p).symm;rw[Xg<|by omega,WR<|by omega,w];congr 1;omega)|false=>
  have J:∀y,y<a*Y.size->(bif Nat.beq o 0 then fill c (n*Y.size) W else fill (fill .e 0 X) (n*Y.size) W).l y=(X++W)[y]? :=by
   intro y M;cases E:Nat.beq o 0 with
   |true=>have E:=WO E;rw[Xa,j6];by_cases p:y<n*Y.size;rw[af,WS<|by omega];have:=(u7 q).2 y p;grind;grind|false=>rw[Xb,j6];by_cases p:y<n*Y.size;rw[af,WS<|by omega,u5 X y<|by omega];grind
  refine⟨.slice (some ⟨Z.d,0,none⟩) a<|i4 a 0,⟨(Z.m.m i none).m Z.d<|some<|.cells (bif Nat.beq o 0 then fill c (n*Y.size) W else fill (fill .e 0 X) (n*Y.size) W) (a*Y.size) e Y.size,Z.d+1⟩,?_,
   ⟨Z.d,0,a,_,a*Y.size,rfl,u,.inr<|Xh _,Yd _,by simp only[ZD,Xg];rfl,by omega,?_⟩,Yq _,λx l z _=>by simp only[ZD,Xd z,Xd (show x≠Z.d by omega)]⟩
  simp only[F8,G,C,H];rw[A,Xa,l];simp only[B];rw[<-d,j];simp only[b,Bool.and_self,Xa,B0<|Nat.one_ne_zero,Xb,WQ<|y5 U 0,Y1,bI,f,w9,g,q,ZB];rw[show Nat.ble 1 0=false from rfl,Bool.false_and,Xb];rw[<-h];exact B6 (by grind)
def MI.d {J:Nat->Prop}{e size:Nat}{V:Af}{v:Av}(h:MI Z i (λ_=>False) e size n V v Q):MI Z i J e size n V v Q:=
 ⟨h.s,h.l,λx a b _=>h.h x a b<|λh=>h⟩
def wH (P:Aw)(C:i9->Prop)(g:Ay)(args:Af)(Z:Hp)(v:Av)(Q:Hp):Prop:=∃a,∀call,C call-> ∀m,a<=m-> ∀H,iJ (Y0 P (z4 P) call H m g) args Z=(v,Q)
def wH.d {args:Af}{v:Av}(h:∃a,∀call,C call-> ∀m,a<=m-> ∀H,Y0 P (z4 P) call H m g args Z=(v,Q)):wH P C g args Z v Q:=by let⟨a,h⟩:=h;exact⟨a,λcall b m c H=>by unfold iJ;rw[h call b m c H]⟩
set_option maxRecDepth 2000 in
def NZ (D:mQ P g N e Y F){o at_:Nat}(ad:Nat.max U n<=67108864)(ae:n+1<=67108864)(ao:at_<=n)(G:j≠i)(hi:i<Z.d)(hj:j<Z.d)(hg:Z.m.l i=some (.cells c k e Y.size))(ac:Z.m.l j=some (.cells E I B A))(hk:o+n*Y.size<=k)(hl:j8 c o (n*Y.size)=some X)(hn:A8 Z Y.size (.slice (some ⟨j,q,none⟩) 1 L)=some (1,W))(M:W.length=Y.size)(u:X.all Value.oneCell'=true)(b:W.all Value.oneCell')(t:X.all noR)(aj:W.all noR):∃v Q,wH P (COv N) g [.slice (some ⟨i,o,none⟩) n (i4 U 0),.int .i64 at_,.slice (some ⟨j,q,none⟩) 1 L] Z v Q/\MI Z i (λx=>x=j) e Y.size (n+1) (X.take (at_*Y.size)++W++X.drop (at_*Y.size)) v Q:=by
 obtain⟨fn,f1,f2,f3,f4⟩:=D.fn;obtain⟨cd,z⟩:∃cd,fn.body=some cd/\(Go.Proofs.Body2.n21 N).body.getD .skip=cd:=⟨_,f2.trans<|by rfl,rfl⟩
 have R:=(u7 hl).1;have p:Nat.ble (Nat.max U n) 67108864:=WQ ad;have s:Nat.ble (n+1) 67108864:=WQ ae;have ax:n<=Nat.max U n:=Ym U n;obtain J|ap:=Nat.lt_or_ge at_ n
 .by_cases w:n+1<=Nat.max U n
  ·
   have h:=Db D p w J G hg ac hk hl hn M u b;rw[z.2]at h;obtain⟨v,Q,⟨K,rfl,q1,q2,q3,ct,k',q4,q5,q6⟩,l⟩:=fD (args:=[.slice (some ⟨i,o,none⟩) n (i4 U 0),.int .i64 at_,.slice (some ⟨j,q,none⟩) 1 L]) f1 z.1 f4 (by rw[f3];exact h);refine⟨_,_,.d l,⟨i,o,Nat.max U n,ct,k',by rw[q1];rfl,ad,.inl rfl,by omega,q4,q5,q6⟩,q2,λx _ hx _=>q3 x hx⟩
  ·
   have O:Nat.max U n<n+1:=Nat.lt_of_not_le w;have a:=Ob (C:=COv N) D (at_:=at_) (vv:= .slice (some ⟨j,q,none⟩) 1 L) rfl p O J (o:=o) hg;rw[z.2]at a;obtain⟨m1,a⟩:=KA (C:=COv N) (args:=[.slice (some ⟨i,o,none⟩) n (i4 U 0),.int .i64 at_,.slice (some ⟨j,q,none⟩) 1 L]) f1 z.1 (by rw[f3];exact a);have gi:((T.m .e i<|some<|.cells c k e Y.size).m j (some<|.cells E I B A):T Blk).l i=some (.cells c k e Y.size):=by rw[ZD,Xd<|Ne.symm G,ZD,Xg rfl]
   have gj:((T.m .e i<|some<|.cells c k e Y.size).m j (some<|.cells E I B A):T Blk).l j=some (.cells E I B A):=by rw[ZD,Xg rfl]
   generalize hS:(⟨(T.m .e i<|some<|.cells c k e Y.size).m j<|some<|.cells E I B A,Z.d⟩:Hp)=S at*;have gi:S.m.l i=some (.cells c k e Y.size):=by grind
   have gj:S.m.l j=some (.cells E I B A):=by grind
   have ab:S.d=Z.d:=by grind
   have ai:A8 S Y.size (.slice (some ⟨j,q,none⟩) 1 L)=some (1,W):=by rw[gZ<|gj.trans ac.symm];exact hn
   have aa:Nat.max (n+1) n=n+1:=YM<|Yq n;have hA:=Db (Z:=S) D (U:=n+1) (by rw[aa];exact s) (by rw[aa];exact Xh _) J G gi gj hk hl ai M u b;have hB:=Oa (Z:=S) (C:=COv N) D s J (by rw[ab];exact hi) (by rw[ab];exact hj) gi hk hl ai M u b;rw[z.2]at hA hB;obtain⟨vA,d,⟨az,rfl,a1,a2,a3,cA,kA,a4,a5,a6⟩,mA,ak⟩:=fD (args:=[.slice (some ⟨i,o,none⟩) n (i4 (n+1) 0),.int .i64 at_,.slice (some ⟨j,q,none⟩) 1 L]) f1 z.1 f4 (by rw[f3];exact hA);obtain⟨vB,f,⟨ba,rfl,b1,b2,b3,cB,kB,b4,b5,b6⟩,mB,al⟩:=fD (args:=[.slice (some ⟨i,o,none⟩) n (i4 n<|n+1),.int .i64 at_,.slice (some ⟨j,q,none⟩) 1 L]) f1 z.1 f4 (by rw[f3];exact hB);rw[a1,XB]at ak;rw[b1,XB]at al;generalize hV:X.take (at_*Y.size)++W++X.drop (at_*Y.size)=V at*;have am:V.length=(n+1)*Y.size:=(u7 a6).1;refine⟨.slice (some ⟨Nat.max d.d f.d,0,none⟩) (n+1)<|i4 (n+1) 0,⟨((Z.m.m i none).m j none).m (Nat.max d.d f.d)<|some<|.cells (fill .e 0 V) ((n+1)*Y.size) e Y.size,Nat.max d.d f.d+1⟩,⟨max m1<|max mA mB,λcall hc m hm H=>?_⟩,?_⟩
   .unfold iJ;rw[a call hc m (by omega) H];simp only;have e0:(Nat.ble unk (i4 U 0)&&Nat.beq (I0<|i4 U 0) 0&& !(Nat.beq i j)&&Nat.ble (n+1) 67108864):=by rw[WQ<|y5 U 0,Y1,w9 rfl,B0<|Ne.symm G,s];rfl
    have e1:(Nat.beq (n+1) (n+1)&&Nat.ble unk (i4 (n+1) 0)&&Nat.ble unk (i4 (n+1) 0)):=by rw[WQ<|y5 (n+1) 0,w9 rfl];rfl
    have e2:(Nat.ble (o+(n+1)*Y.size) kA&&Nat.ble (0+(n+1)*Y.size) kB&&Nat.beq e e&&Nat.beq Y.size Y.size)=true:=by simp_all
    unfold FK;simp only;rw[e0,Xa,hg,ac];simp only;rw[hS,ak call hc m (by omega) H,al call hc m (by omega) H,aa];simp only;rw[e1,Xa,a4,b4];simp only;rw[e2,Xa,a6,b6];simp only;have an:V.all noR:=by rw[<-hV,List.all_append,List.all_append,aj];rw[Xo]at t;simp only[WK,Xo];exact⟨⟨λx hx=>t x<|Yz hx,trivial⟩,λx hx=>t x<|YA hx⟩
    rw[MO,Bool.or_true,an,Bool.true_and,Xa]
   .have aq:d.d<=Nat.max d.d f.d:=Nat.le_max_left _ _;have aw:f.d<=Nat.max d.d f.d:=Ym _ _;have hx:Z.d<=Nat.max d.d f.d:=by rw[<-ab];exact Ya a2 aq
    refine⟨⟨Nat.max d.d f.d,0,n+1,fill .e 0 V,(n+1)*Y.size,rfl,ae,.inr hx,Yd _,by simp only[ZD,Xg],Nat.le_of_eq<|Xq _,?_⟩,Ya hx<|Yq _,λx ay au av=>?_⟩;rw[<-am];exact B6 (λy hy=>by rw[Xq];exact u5 V y hy);show(T.m _ _ _:T Blk).l x=_;rw[ZD,af,ZD,Xd av,ZD,Xd au]
 ·
  have ah:at_=n:=Nat.le_antisymm ao ap;subst ah;obtain⟨v0,h1,_,_⟩:=uR (Z:=Z) D.d D.h p (Xh at_) hg hk hl;obtain⟨r,hp1,h2,h3⟩:=HP D.d D.h D.l D.u D.s (WQ<|Ya (Nat.le_max_left U at_) ad) ae hn hi hg hk hl b M;have h:=HZ (C:=COv N) D (h1 Z.d) h2;rw[z.2]at h;obtain⟨v,Q,⟨K,rfl,q1,rfl⟩,l⟩:=fD (args:=[.slice (some ⟨i,o,none⟩) at_ (i4 U 0),.int .i64 at_,.slice (some ⟨j,q,none⟩) 1 L]) f1 z.1 f4 (by rw[f3];exact h);rw[q1,XB]at l;refine⟨r,_,.d l,?_⟩;rw[XP<|Nat.le_of_eq R,List.drop_eq_nil_of_le<|Nat.le_of_eq R,YD];exact h3.d
def Sf (D:mQ P g N e Y F)(p:A8 Z Y.size (.slice (some ⟨j,q,none⟩) 1 L)=some (1,W)):∃v Q,wH P C g [.slice none 0 0,.int .i64 ((0:Nat):Int),.slice (some ⟨j,q,none⟩) 1 L] Z v Q/\v= .slice (some ⟨Z.d,0,none⟩) 1 (i4 1 0)/\Q=Z.f W e Y.size:=by
 let⟨fn,i,k,l,m⟩:=D.fn;obtain⟨b,c⟩:∃b,fn.body=some b/\(Go.Proofs.Body2.n21 N).body.getD .skip=b:=⟨_,k.trans rfl,rfl⟩;have n:A0 P Z (N.t 22) (.slice none 0 0) (some<|.int .i64 ((0:Nat):Int)) none none=some (.slice none 0 0,Z):=by have s:C6 0 0 (some<|.int .i64 ((0:Nat):Int)) none none=some (0,0,none):=rfl;simp only[A0,D.d,D.h];rfl
 have o:F8 P Z (N.t 22) (N.t 22) (.slice none 0 0) (.slice (some ⟨j,q,none⟩) 1 L)=some (.slice (some ⟨Z.d,0,none⟩) 1<|i4 1 0,Z.f W e Y.size):=by
  have d:(Nat.beq F.cells.toList.length Y.size&&Nat.ble Y.bytes 1048576):=by rw[D.u,w9 rfl,WQ D.s];rfl
  have f:(Nat.beq 0 0&&Nat.beq 0 0&&Nat.ble 1 67108864)=true:=by rfl
  simp only[F8,D.d,D.h,D.l];rw[d,Xa,p];simp only;rw[f,Xa,B0 Nat.one_ne_zero,Xb]
 have h:=HZ (C:=C) D n o;rw[c.2]at h;obtain⟨v,Q,⟨K,rfl,r,rfl⟩,a⟩:=fD (args:=[.slice none 0 0,.int .i64 ((0:Nat):Int),.slice (some ⟨j,q,none⟩) 1 L]) i c.1 m (by rw[l];exact h);rw[r,XB]at a;exact⟨_,_,.d a,rfl,rfl⟩
def NU (D:KP P g N e Y F){o a b:Nat}(d:Nat.max U n<=67108864)(p:a<b)(q:b<=n)(L:i<Z.d)(z:Z.m.l i=some (.cells c k e Y.size))(A:o+n*Y.size<=k)(B:j8 c o (n*Y.size)=X)(f:X.all Value.oneCell'):∃v Q,wH P C g [.slice (some ⟨i,o,none⟩) n (i4 U 0),.int .i64 a,.int .i64 b] Z v Q/\MI Z i (λ_=>False) e Y.size (a+(n-b)) (X.take (a*Y.size)++X.drop (b*Y.size)) v Q:=by let⟨fn,t,u,w,y⟩:=D.V;obtain⟨l,r⟩:∃l,fn.body=some l/\(Go.Proofs.Body2.n23 N).body.getD .skip=l:=⟨_,u.trans rfl,rfl⟩;have h:=Sd (C:=C) D (WQ d) p q z A B f;rw[r.2]at h;obtain⟨v,Q,⟨K,rfl,M,G,H,s,I,J⟩,j⟩:=fD (args:=[.slice (some ⟨i,o,none⟩) n (i4 U 0),.int .i64 a,.int .i64 b]) t r.1 y (by rw[w];exact h);refine⟨_,_,.d j,⟨i,o,Nat.max U n,s,k,by grind,d,.inl rfl,by omega,I,?_,J⟩,G,λx _ E _=>H x E⟩;have:(a+(n-b))*Y.size<=n*Y.size:=WW _ (by omega);omega
end
structure CloFn (P:Aw)(g:Ay)(ρ:Go.Shelf.Ren)(e:Ax)(ie:Ba)(zv:Av):Prop where
 J:∃J,P.funcs[g]? =some J/\J.body=(Go.Proofs.Body2.n15 ρ).body/\J.ntmps=8/\J.results= #[.tmp 2]
 h:P.underlying (ρ.t 22)=some (.slice e)
 u:P.info? e=some ie
 d:ie.zero=some zv
 l:cst zv=true
 D:zv.cells.toList.length=ie.size
 s:ie.bytes<=1048576
section
variable {P :Aw}{g:Ay}{ρ:Go.Shelf.Ren}{e:Ax}{ie:Ba}{zv:Av}{hp:Hp}{C:i9->Prop}
end
end Go.Xe
namespace Go.Sx
open Go.Xe
section
variable {P :Aw}{U:Ab}{Z:Tau}{F:Ac}{s:SS}{Y:Hp}
theorem SD.h (a:SD P U Z F s Y){b i o f i2 o2:Nat}{x x2 A:C8}(G:s.f b=some x)(M:Z b=some (some (i,o)))(B:s.f f=some x2)(D:Z f=some (some (i2,o2)))(_:f≠b){l:Hp}(X:Y.d<=l.d)(Q:∀j,j<Y.d->j≠i->j≠i2->l.m.l j=Y.m.l j){j q:Nat}(O:j=i\/Y.d<=j)(K:j<l.d){y:Blk}(hi:l.m.l j=some y)(hd:BD P U (put Z s.g<|some (j,q)) F q A y):Ext Z F s Y (put Z s.g<|some (j,q)) F (iN ((s.j b none).j f none) A) l/\SD P U (put Z s.g<|some (j,q)) F (iN ((s.j b none).j f none) A) l:=by
 have C:=dT (some (j,q)) (a.g _<|Xh _);have fz:∀ {b i o x},s.f b=some x->Z b=some (some (i,o))->F i=none:=by intro b i o x G M;rcases a.f b x G with⟨i',o',y',v,_,h3,_⟩| ⟨v,_⟩;grind;grind
 have ab:=fz B D;have fj:F j=none:=by
  rcases O with rfl|O;exact fz G M
  .cases hF:F j with
   |none=>rfl|some w=>exact absurd (a.B j w hF) (by omega)
 have gt:∀c,(iN ((s.j b none).j f none) A).f c=if c=s.g then some A else if c=f then none else if c=b then none else s.f c:=by intro c;rw[kG,Zu,Zu];rfl
 refine⟨⟨C,Ze F,X,by simp[iN,SS.j],λc g=>D6 Z _<|by omega,λc y g ac=>?_,⟨[(s.g,some A),(f,none),(b,none)],rfl,λk u ad=>Q k u (by grind)<|by grind,λc k r g h=>?_,λ_ _ _ h=>.inl h,λ_ _ _ h=>h⟩,⟨[],rfl⟩,⟨[(s.g,some A),(f,none),(b,none)],rfl,λd c e z j' q' cs n t hq K hg hl=>⟨cs,by
  have n1:d≠b:=λh=>by subst h;let⟨_,q,_⟩:=hl none (by simp);cases q
  have n2:d≠f:=λh=>by subst h;let⟨_,q,_⟩:=hl none (by simp);cases q
  rw[Q j' K (a.A d b _ x j' q' i o t G n1 hq M)<|a.A d f _ x2 j' q' i2 o2 t B n2 hq D];exact hg,λ_ _=>rfl⟩⟩⟩,?_⟩
 grind;by_cases e:c=s.g;subst e;rw[y6]at h;grind;rw[D6 Z _ e,a.g c g]at h;cases h
 .have E:∀c z,(iN ((s.j b none).j f none) A).f c=some z->c≠s.g->c≠b/\c≠f/\s.f c=some z:=by grind
  have R:∀c z k r,c≠b->s.f c=some z->Z c=some (some (k,r))->k≠j:=by intro c z k r e g h I;subst I;rcases O with rfl|O;exact a.A c b z x _ r _ o g G e h M rfl;have:=a.C c _ r h;omega
  refine⟨λc z g=>?_,λc d y z k r k' r' g t L S N=>?_,λk y u=>?_,λc k r h=>?_,λk y h=>XW (a.B k y h) X,λc g=>?_,a.I,λr hr=>(a.N r hr).f C<|Ze F⟩;by_cases e:c=s.g;subst e;rw[gt,Xg rfl,WJ]at g;subst g;exact .inl ⟨j,q,y,y6 _ _ _,hi,fj,hd⟩;let⟨e',T,p⟩:=E c z g e;rcases a.f c z p with⟨k,r,y',v,W,h3,h4⟩| ⟨v,W⟩;refine .inl ⟨k,r,y',by rw[D6 Z _ e];exact v,?_,h3,h4.f C<|Ze F⟩;rw[Q k (a.C c k r v) ?_ ?_];exact W;intro I;subst I;exact a.A c b z x _ r _ o p G e' v M rfl;intro I;subst I;exact a.A c f z x2 _ r _ o2 p B T v D rfl;exact .inr ⟨by rw[D6 Z _ e];exact v,W⟩;by_cases V:c=s.g;subst V;have H:d≠s.g:=λh=>L h.symm;rw[y6]at S;rw[D6 Z _ H]at N;grind;let⟨e',_,p⟩:=E c y g V;rw[D6 Z _ V]at S;by_cases H:d=s.g;subst H;rw[y6]at N;grind;let⟨aa,_,J⟩:=E d z t H;rw[D6 Z _ H]at N;exact a.A c d y z k r k' r' p J L S N;rw[Q k (a.B k y u) (by grind)<|by grind];exact a.p k y u;by_cases e:c=s.g;subst e;rw[y6]at h;grind;rw[D6 Z _ e]at h;exact XW (a.C c k r h) X;have:s.g+1<=c:=g;rw[D6 Z _<|by omega];exact a.g c (by omega)
end
section
variable (P :Aw)(U:Ab)
def sdel (e size:Nat)(args:As):M SV:=match args with
 | [.z b z off len .g,.f .i64 a,.f .i64 c]=>d8 (CB P b) λ_=>z7 λs=>match s.f b with
  | some (.g L  d  f _) => bif Nat.beq e  d && Nat.beq size z && Nat.beq size  f && Nat.beq size (kf P e).length then
    d8 (u6 U<|A4<|A5 (C2 L)<|A3 off len) λ_=>d8 (u6 U<|A4<|A5 a<|.w 0) λ_=>d8 (u6 U<|A5 a c) λ_=>d8 (u6 U<|A4<|A5 len c) λ_=>
    d8 (aT U L off a) λA=>d8 (aT U L (A3 off c)<|Q8 len c) λB=>smove e size b (.b<|J0 A B) (A3 a<|Q8 len c) .g
   else c9 "delete: type"
  |_=>c9 "delete: block"
 |_=>c9 "delete: arguments"
def smove2 (e size b a:Nat)(x:Src)(len:E)(cp:Cp):M SV:=λs=>.j (.z s.g size (.w 0) len cp,iN ((s.j b none).j a none)<|x.g e size)
def isCR :Bb C8->Bool
 |some (.f _ _ _)=>true|some (.g _ _ _ _)=>true|_=>false
def Ml (e size b:Nat)(off len a:E)(x:SV):M SV:=match x with
 | .z c _ _ _ _=>bif Nat.beq c b then c9 "insert: the same block" else d8 (ssrc P U e size x) λsrc=>bif src.j then d8 (Ry P U e size src) λd=>d8 (CB P b) λ_=>z7 λs=>match s.f b with
  | some (.g L  f  g _) => bif Nat.beq e  f && Nat.beq size  g && Nat.beq size (kf P e).length && isCR (s.f  c) && (kf P e).all noRp then
    d8 (u6 U<|I4 (C2 d)<|.w 1) λ_=>d8 (u6 U<|A4<|A5 (C2 L)<|A3 off len) λ_=>d8 (u6 U<|A4<|A5 a<|.w 0) λ_=>d8 (u6 U<|A4<|A5 len a) λ_=>d8 (u6 U<|A5 len<|.w 67108864) λ_=>
    d8 (aT U L off a) λA=>d8 (aT U L (A3 off a)<|Q8 len a) λB=>smove2 e size b c (.b<|J0 (J0 A d) B) (A3 len<|.w 1) .g
   else c9 "insert: type"
  |_=>c9 "insert: block"
  else c9 "insert: cells"
 |_=>c9 "insert: element"
def sins (e size:Nat)(args:As):M SV:=match args with
 | [.q,.f .i64 a,x]=>bif Nat.beq size (kf P e).length then d8 (gI<|.g (.C .p []) e size<|.w 0) λb=>Ml P U e size b (.w 0) (.w 0) a x else c9 "insert: size"
 | [.z b z off len .g,.f .i64 a,x]=>bif Nat.beq size z then Ml P U e size b off len a x else c9 "insert: size"|_=>c9 "insert: arguments"
end
section
variable {P :Aw}{U:Ab}{Y:Aa}
def Lk (n:Nat):(E7 P Y n).g=Y:=by cases n<;>rfl
variable {C:i9->Prop}{g:Ay}{v:Av}
def Ii (d:∀n,C<|E7 P Y n)(e:isT (Y g)=false){args:Af}{a:Hp}{b:Hp}(h:wH P C g (bif wkF P g then wkA a args else args) a v b):P0 P Y g args a v b:=by
 let⟨c,h⟩:=h;refine⟨c+1,λn f=>?_⟩;obtain⟨k,rfl⟩:∃k,n=k+1:=⟨n-1,by omega⟩
 show(bif isT (Y g)&&args.isEmpty then some (.bool true,a)else iJ (Y0 P (z4 P) (E7 P Y k) (U4 P (z4 P) (E7 P Y k) k) k g) (bif wkF P g then wkA a args else args) a)=_;grind
def MB {c:Hp}{a:Addr}{l b:Nat}{xs:Af}:wkA c (.slice (some a) l (i4 b 0)::xs)= .slice (some a) l (i4 b 0)::xs:=by
 let⟨i,o,e⟩:=a;have:Nat.ble (i4 b 0) 67108864=false:=cT (by have:=y5 b 0;rw[unk] at this;omega);cases e with
 |none=>simp only[wkA,this,Xb]|some e=>rfl
def MF (e:∀n,C<|E7 P Y n)(f:isT (Y g)=false){a:Addr}{l d:Nat}{args:Af}{c:Hp}{b:Hp}(h:wH P C g (.slice (some a) l (i4 d 0)::args) c v b):P0 P Y g (.slice (some a) l (i4 d 0)::args) c v b:=
 Ii e f (by rw[MB,Bool.cond_self];exact h)
variable {τ :Tau}{F:Ac}{s:SS}{hp:Hp}
def MY {c:Ao}{o n:Nat}{a b:Af}(h:j8 c o n=a)(k:j8 c o n=b):a=b:=Xk<|h.symm.trans k
def fX {e z o n:Nat}{c:Ao}{rows:a8}(i:C4 P F e z o n c rows){off len a m:Int}(k:0<=off)(p:0<=a)(h:0<=m)(f:a+m<=len)(l:off+len<=rows.length){L:E}(hL:L.z U=pQ rows (off+a) m){b:Af}(g:j8 c (o+off.toNat*z) (len.toNat*z)=b):v6 P U τ F e z (.b L) ((b.drop<|a.toNat*z).take<|m.toNat*z):=by obtain⟨vs,j,_,q,_⟩:=K1 i (by omega) h (by omega) hL;have d:=eO g (a:=a.toNat*z) (m:=m.toNat*z) (by rw[<-Xu];exact WW _<|by omega);rw[show o+off.toNat*z+a.toNat*z=o+(off+a).toNat*z by rw[Yc,<-Xu];congr 2;omega]at d;rwa[MY d j]
def JU {ρ:Go.Shelf.Ren}{e:Ax}{n:Ba}{zv:Av}(D:KP P g ρ e n zv)(hg:isT (Y g)=false):E5 P U Y (sdel P U e n.size) g:=by
 intro l args τ F s hp f hs;unfold sdel;split
 .rename_i b z off len a c;obtain⟨y1,an,rfl,v1,f⟩:=f.f;obtain⟨y2,ao,rfl,v2,f⟩:=f.f;obtain⟨y3,T,rfl,v3,f⟩:=f.f;have:T=[]:=WP f.1.symm;subst this;cases v2;cases v3;refine(jL hs).f λ_ m F1 s1 ad ex ah ⟨e1,e2,e3⟩=>Zj ?_;subst e1;subst e3;split
  .rename_i L e' z' ph hb;cases hq:Nat.beq e e'&&Nat.beq n.size z&&Nat.beq n.size z'&&Nat.beq n.size (kf P e).length with
   |false=>exact Zi|true=>
    simp only[Xa];simp only[WK,Xy]at hq;obtain⟨⟨⟨rfl,hz⟩,M⟩,ab⟩:=hq;refine Zg Zm λ_ s2 o2 ai p=>Zg Zm λ_ s3 o3 aj p2=>Zg Zm λ_ s4 o4 ak p3=>Zg Zm λ_ s5 o5 al p4=>Zg D9 λA s6 o6 am hA=>Zg D9 λB s7 o7 j X=>?_;have p:=B7 p;have p2:=aZ p2;have p3:=E2 p3;have p4:=B7 p4;rw[l9,j5]at p;rw[l9,z6]at X;have t:s7.f b=some (.g L e z' ph):=by rw[o7.f,o6.f,o5.f,o4.f,o3.f,o2.f];exact hb
    have I:A.z U=pQ (L.z U) (off.j U) (a.j U):=by show(A.A U).m=_;rw[hA];rfl
    have J:B.z U=pQ (L.z U) (off.j U+c.j U) (len.j U-c.j U):=by show(B.A U).m=_;rw[X];rfl
    cases v1 with
    |sl0 _ _ _ _ _ d H W hc=>omega|sl _ _ _ _ _ i o cc d H W hc=>
    obtain⟨lo,rfl,c1,c2⟩:=hc;obtain⟨i',o',y,N,k2,kF,cs,k,rfl,O,k5⟩| ⟨N,_⟩:=j.f b _ t
    .rw[d]at N;obtain⟨rfl,rfl⟩:=N;subst hz;subst M;obtain⟨G,S,w2,w3,w4⟩:=K1 (Z:=m) (L:= .C .q [L,off,len]) O H W p rfl;have ea:a.j U=((a.r U:Nat):Int):=by grind
     have ec:c.j U=((c.r U:Nat):Int):=by grind
     have el:len.j U=((len.r U:Nat):Int):=by grind
     obtain⟨v,ac,r1,⟨⟨bb,q,Q,ct,kk,rfl,n2,n3,n4,n5,n6,n7⟩,R,aa⟩⟩:=NU (C:=λ_=>True) D (a:=a.r U) (b:=c.r U) (Nat.max_le.2 ⟨c1,by omega⟩) (by omega) (by omega) (j.C b i o d) k2 w2 S (w3.d rfl);have x:=MF (λ_=>trivial) hg r1;rw[<-ea,<-ec]at x;have h:(A3 a<|Q8 len c).j U=((a.r U+(len.r U-c.r U):Nat):Int):=by rw[l9,z6];omega
     have r:=(u7 n7).1;refine(OKh.b (cp:= .g) (q:=q) t d R (by grind) n3 n4 n5 (λV E=>?_) h ⟨Q,rfl,n2,by omega⟩ j).g λw V F' ae _ _ ⟨q1,q2⟩=>(by grind)
     refine oT ?_ (λy v hy=>?_) (by rw[r];exact n6);refine v6.b E (Ze _)<|v6.g ?_ ?_;have:=fX (τ:=m) O H (Yg 0) (by omega) (show 0+a.j U<=len.j U by omega) p (by rw[I];congr 1;omega) S;grind;have:=fX (τ:=m) O H (by omega) (by omega) (by omega) p J S;rw[XP (by rw[XV,w4,<-Nat.sub_mul];exact WW _<|by omega)]at this;exact this
     .have K:y<(a.r U+(len.r U-c.r U))*n.size:=by rw[<-r];exact(WM.1 hy).1
      rw[<-(u7 n7).2 y K];exact hy
    grind
  exact Zi
 exact Zi
end
section
variable {P :Aw}{U:Ab}{W:Aa}{X:Tau}{F:Ac}{s:SS}{Y:Hp}
def OKh.a {e size b i o g v N j q n c:Nat}{x O:C8}{x':Src}{len:E}{cp:Cp}(C:s.f b=x)(M:X b=some (some (i,o)))(h:s.f g=O)(t:X g=some (some (v,N)))(l:g≠b){hp1:Hp}(K:Y.d<=hp1.d)(J:∀k,k<Y.d->k≠i->k≠v->hp1.m.l k=Y.m.l k)(I:j=i\/Y.d<=j)(p:j<hp1.d){y:Blk}(H:hp1.m.l j=y)(G:∀d,Tle X d->BD P U d F q (x'.g e size) y)(f:len.j U=n)(D:pC U len cp c)(u:SD P U X F s Y):OKh P U (smove2 e size b g x' len cp) X F s Y λa d w r=>r=hp1/\VD P U d w a (.slice (some ⟨j,q,none⟩) n c):=λQ L _=>by let⟨A,B⟩:=u.h C M h t l K J I p H<|G _<|dT _ (u.g _<|Xh _);exact⟨_,_,L,_,F,hp1,A,B,rfl,ZI (y6 _ _ _) (Yg 0) (by omega) D (by show q=q+(0:Int).toNat*size;simp) (sX f).symm⟩
def Gy {s:SS}{b:Nat}(h:isCR (s.f b)):(∃l e z,s.f b=some (.f l e z))\/ ∃L e z ph,s.f b=some (.g L e z ph):=by unfold isCR at h;grind
def Bk {Y:Hp}{size n m c:Nat}{a:Aq}{vs:Af}(h:A8 Y size (.slice a n c)=(m,vs)):m=n:=by
 unfold A8 at h;split at h
 .rename_i e _ d;cases b:Nat.beq n 0 with
  |false=>grind|true=>simp_all
 grind;grind;cases h
variable {g:Ay}{V:Go.Shelf.Ren}{zv:Av}
def Hy {e:Ax}{I:Ba}(D:mQ P g V e I zv)(hg:isT (W g)=false)(au:W (V.f 27)=(V.t 22)){b:Nat}{off len a:E}{x:SV}{v1 v3:Av}(h1:VD P U X F (.z b I.size off len .g) v1)(h3:VD P U X F x v3)(hs:SD P U X F s Y):OKh P U (Ml P U e I.size b off len a x) X F s Y λw am F' aa=>∃v,P0 P W g [v1,.int .i64<|a.j U,v3] Y v aa/\VD P U am F' w v:=by
 unfold Ml;split
 .rename_i N z2 az aw bz;cases R:Nat.beq N b with
  |true=>exact Zi|false=>
  have R:N≠b:=λh=>by rw[h,w9 rfl]at R;cases R
  simp only[Xb];refine Zg (Mr D.J h3 hs) λsrc s1 o1 bo ⟨n,r,x1,x2,x3,x4⟩=>?_;cases aq:src.j with
  |false=>exact Zi|true=>
  simp only[Xa];have bl:=x2.d aq;refine(EU x2 bo).f λLn cv F1 s2 bn ex bp ⟨e1,e2,J⟩=>?_;subst e1;subst e2;refine(jL bp).f λ_ M F2 s3 d cb cf ⟨e1,e2,e3⟩=>Zj ?_;subst e1;subst e2;subst e3;have h1:=h1.mono (ZE M) ex.f;have h3:=h3.mono (ZE M) ex.f;split
  .rename_i L e' z' ph hb;cases hq:Nat.beq e e'&&Nat.beq I.size z'&&Nat.beq I.size (kf P e).length&&isCR (s3.f N)&&(kf P e).all noRp with
   |false=>exact Zi|true=>
    simp only[Xa];simp only[WK,Xy]at hq;obtain⟨⟨⟨⟨rfl,bv⟩,bj⟩,ap⟩,ai⟩:=hq;refine Zg Zm λ_ s4 o4 cg p0=>Zg Zm λ_ s5 o5 ci p1=>Zg Zm λ_ s6 o6 ck p2=>Zg Zm λ_ s7 o7 cn p3=>Zg Zm λ_ s8 o8 co p4=>
     Zg D9 λA s9 o9 cr hA=>Zg D9 λB sA oA z hB=>?_
    have p0:(C2 Ln).j U=1:=by have:=(Zb U _).1 p0;rw[H8]at this;exact Yu this
    have p1:=B7 p1;have p2:=aZ p2;have p3:=B7 p3;have p4:=E2 p4;simp only[D5]at p4;rw[l9,j5]at p1;rw[j5]at p0;rw[l9,z6]at hB;have ah:∀c,sA.f c=s3.f c:=λc=>by rw[oA.f,o9.f,o8.f,o7.f,o6.f,o5.f,o4.f]
    have ad:sA.f b=some (.g L e z' ph):=by grind
    have J:=J bj;have ca:=pE D.J J x3;have hn:n=1:=by omega
    subst hn;have bm:r.length=I.size:=by grind
    have an:A.z U=pQ (L.z U) (off.j U) (a.j U):=by show(A.A U).m=_;rw[hA];rfl
    have be:B.z U=pQ (L.z U) (off.j U+a.j U) (len.j U-a.j U):=by show(B.A U).m=_;rw[hB];rfl
    have ea:a.j U=((a.r U:Nat):Int):=by grind
    have S:∀m:Nat,len.j U=(m:Int)->(A3 len<|.w 1).j U=((m+1:Nat):Int):=λm hm=>by rw[l9,D5,hm];rfl
    cases h3 with
    |sl0 _ _ _ _ _ H _ _ _=>exact absurd (Bk x1) (by omega)|sl _ _ _ _ _ j oj cm H g0 g1 gc=>
    have al:∃q,(Value.slice (some ⟨j,oj+az.r U*z2,none⟩) (aw.r U) cm)= .slice (some ⟨j,q,none⟩) 1 cm:=⟨_,by rw[<-(Bk x1)]⟩
    let⟨q,al⟩:=al;rw[al]at x1⊢;have u:∃xx,sA.f N=some xx:=by rw[ah];rcases Gy ap with⟨_,_,_,h⟩| ⟨_,_,_,_,h⟩<;>exact⟨_,h⟩
    let⟨xx,u⟩:=u;have bi:∃cj kj ej zj,d.m.l j=some (.cells cj kj ej zj):=by obtain⟨i',o',y,k1,k2,_,k4⟩| ⟨k1,_⟩:=z.f N _ u;rw[H]at k1;simp only[WJ,WL]at k1;obtain⟨rfl,rfl⟩:=k1;have:sA.f N=s3.f N:=ah N;obtain⟨l,ee,zz,h⟩| ⟨L',ee,zz,pp,h⟩:=Gy ap;rw[this,h,WJ]at u;subst u;obtain⟨cs,nn,rfl,_⟩:=k4;grind;rw[this,h,WJ]at u;subst u;obtain⟨cs,nn,rfl,_⟩:=k4;grind;grind
    let⟨cj,kj,ej,zj,bg⟩:=bi;cases h1 with
    |sl0 _ _ _ _ _ ab h0 aj hc=>
     obtain⟨i',o',y,k1,_⟩| ⟨k1,L',e2,z2,cu,k2,k3,k4,k5⟩:=z.f b _ ad;grind
     .simp only[C8.g.injEq]at k2;obtain⟨rfl,rfl,rfl,rfl⟩:=k2;have cd:a.j U=0:=by omega
      obtain⟨v,aa,r1,rfl,rfl⟩:=Sf (Z:=d) (C:=COv V) D x1;have G:=Ii (P:=P) (Y:=W) (C:=COv V) (args:=[.slice none 0 0,.int .i64 ((0:Nat):Int),.slice (some ⟨j,q,none⟩) 1 cm]) (λk=>by rw[COv,Lk];exact au) hg (by cases wkF P g<;>exact r1);have G:P0 P W g [.slice none 0 0,.int .i64<|a.j U,.slice (some ⟨j,q,none⟩) 1 cm] d (.slice (some ⟨d.d,0,none⟩) 1<|i4 1 0) (d.f r e I.size):=by grind
      have ba:A.z U=[]:=by rw[an,k3];simp[pQ]
      have bc:B.z U=[]:=by grind
      have O:(J0 (J0 A Ln) B).z U=Ln.z U:=by rw[Q4,Q4,ba,bc];simp
      have ae:v6 P U M F2 e I.size (.b<|J0 (J0 A Ln) B) r:=by obtain⟨c1,c2,c3,c4⟩:=J;exact⟨c1,by rw[O];exact c2,by rw[O];exact c3,by rw[O];exact c4⟩
      intro Q hq _;obtain⟨d1,d2⟩:=z.J b;obtain⟨d3,d4⟩:=d2.J N;have K:(A3 len<|.w 1).j U=((1:Nat):Int):=S 0 aj;obtain⟨f1,f2⟩:=d4.H (x:=(Src.b<|J0 (J0 A Ln) B).g e I.size) (p:=some (d.d,0)) (hp':=d.f r e I.size) (Yq _) (λx hx=>by show(d.m.m _ _).l x=_;rw[ZD,af])
       (.inl ⟨d.d,0,_,rfl,Xh _,Yd _,by show(d.m.m _ _).l _=_;rw[ZD,Xg rfl],oT (ae.b (dT _<|z.g _<|Xh _)<|Ze _) (λy v hy=>by rw[Xq];exact P3 r y v hy)<|by omega⟩)
      refine⟨_,_,hq,_,F2,_,(d1.g d3).g f1,f2,_,G,?_⟩;exact ZI (y6 _ _ _) (Yg 0) (by rw[K];omega) (geN K<|by omega) (In I.size).symm (sX K).symm
    |sl _ _ _ _ _ i o cc ab h0 aj hc=>
     obtain⟨lo,rfl,c1,c2⟩:=hc;obtain⟨i',o',y,k1,k2,kF,cs,k,rfl,k4,k5⟩| ⟨k1,_⟩:=z.f b _ ad
     .rw[ab]at k1;simp only[WJ,WL]at k1;obtain⟨rfl,rfl⟩:=k1;subst bv;have bh:j≠i:=z.A N b _ _ j oj i o u ad R H ab;obtain⟨ac,w1,w2,w3,w4⟩:=K1 (Z:=M) (off:=off.j U) (len:=len.j U) (L:= .C .q [L,off,len]) k4 h0 aj p1 rfl;have ak:ac.all Value.oneCell'=true:=w3.d rfl;have el:len.j U=((len.r U:Nat):Int):=by grind
      obtain⟨v,aa,r1,⟨⟨bb,q',ax,ct,kk,rfl,n2,n3,n4,n5,n6,n7⟩,bw,ay⟩⟩:=NZ (Z:=d) D (i:=i) (o:=o+off.r U*I.size) (n:=len.r U) (U:=lo) (at_:=a.r U) (Nat.max_le.2 ⟨c1,by omega⟩) (by omega) (by omega) bh (z.C b i o ab) (z.C N j oj H) k2 bg w2 w1 x1 bm ak bl (w3.h ai)<|J.h ai;have G:=MF (Y:=W) (λk=>by rw[COv,Lk];exact au) hg r1;rw[<-ea]at G;have K:=S _ el;have ao:=(u7 n7).1;refine(OKh.a (x':= .b (J0 (J0 A Ln) B)) (cp:= .g) (hp1:=aa) (j:=bb) (q:=q') (n:=len.r U+1) (c:=i4 ax 0) ad ab u H R bw (λx hx bq bt=>ay x hx bq bt) n3 n4 n5 (λam av=>?_) K ⟨ax,rfl,n2,by rw[K];omega⟩ z).g λw am F' ce _ _ ⟨q1,q2⟩=>⟨_,by rw[q1];exact G,q2⟩
      refine oT (vs:=ac.take (a.r U*I.size)++r++ac.drop (a.r U*I.size)) ?_ (λy v hy=>?_) (by rw[ao];exact n6);refine v6.b av (Ze _)<|v6.g (v6.g ?_ J) ?_;have:=fX (τ:=M) k4 h0 (Yg 0) (show 0<=a.j U by omega) (show 0+a.j U<=len.j U by omega) p1 (L:=A) (by rw[an];congr 1;omega) w1;grind;have:=fX (τ:=M) k4 h0 (show 0<=a.j U by omega) (show 0<=len.j U-a.j U by omega) (show a.j U+(len.j U-a.j U)<=len.j U by omega) p1 (L:=B) be w1;rw[XP (by rw[XV,w4,<-Nat.sub_mul];exact WW _<|by omega)]at this;exact this
      .have bu:y<(len.r U+1)*I.size:=by rw[<-ao];exact(WM.1 hy).1
       rw[<-(u7 n7).2 y bu];exact hy
     grind
  exact Zi
 exact Zi
def JZ {e:Ax}{h:Ba}(D:mQ P g V e h zv)(y:isT (W g)=false)(i:W (V.f 27)=(V.t 22)):E5 P U W (sins P U e h.size) g:=by
 intro l args X F s Y c k;unfold sins;split
 .rename_i a x;obtain⟨K,p,rfl,m,c⟩:=c.f;obtain⟨L,q,rfl,n,c⟩:=c.f;obtain⟨M,r,rfl,o,c⟩:=c.f;have:=WP c.1.symm;subst this;cases n;cases m;cases d:Nat.beq h.size (kf P e).length with
  |false=>exact Zi|true=>intro Q C _;let⟨B,v⟩:=k.H (x:= .g (.C .p []) e h.size (.w 0)) (Xh _) (λ_ _=>rfl)<|.inr ⟨rfl,_,_,_,_,rfl,rfl,WO d,Yg 0⟩;let⟨w,J,E,u,A,j,G,H,I⟩:=Hy D y i ( .sl0 s.g h.size (.w 0) (.w 0) .g (y6 _ _ _) rfl rfl (λe N=>by grind)) (o.mono (dT _<|k.g _<|Xh _)<|Ze F) v Q C v;exact⟨w,J,E,u,A,j,B.g G,H,I⟩
 .rename_i b z off len a x;obtain⟨K,p,rfl,m,c⟩:=c.f;obtain⟨L,q,rfl,n,c⟩:=c.f;obtain⟨M,r,rfl,o,c⟩:=c.f;have:=WP c.1.symm;subst this;cases n;cases d:Nat.beq h.size z with
  |false=>exact Zi|true=>have d:=WO d;subst d;exact Hy D y i m o k
 exact Zi
end
section
variable {P :Aw}{U:Ab}{Z:Aa}
abbrev E4:=List<|Ay×(As->M SV)
variable (P U Z) in
def iK :E4->Prop
 | []=>True|p::xs=>(E5 P U Z p.2 p.1/\isT (Z p.1)=false)/\iK xs
variable (P U) in
def pF (l:List (Ay×Con)):E4->Ay->Bb (As->M SV)
 | [],g=>conP P U l g|p::xs,g=>bif Nat.beq p.1 g then some p.2 else pF l xs g
def Dy {l:List (Ay×Con)}(c:M4 P U Z l):∀ {xs:E4},iK P U Z xs-> ∀g k,pF P U l xs g=some k->E5 P U Z k g
 | [],_,g,k,a=>by
  rw[pF,conP] at a;cases h:mV P U l g with
  |none=>grind|some e=>rw[h]at a;cases a;exact QI<|Gi c g e h
 |p::xs,d,g,k,a=>by
  rw[pF] at a;cases b:Nat.beq p.1 g with
  |true=>rw[b,Xa,WJ]at a;rw[<-a,<-WO b];exact d.1.1|false=>rw[b,Xb]at a;exact Dy c d.2 g k a
def rJ {l:List (Ay×Con)}:∀ {xs:E4},iK P U Z xs-> ∀g,isT (Z g)->pF P U l xs g=none->mV P U l g=none
 | [],_,g,_,a=>by rw[pF,conP] at a;grind|p::xs,d,g,c,a=>by
  rw[pF] at a;cases b:Nat.beq p.1 g with
  |true=>grind|false=>rw[b,Xb]at a;exact rJ d.2 g c a
variable {l:List (Ay×Con)}{xs:E4}{g:Ay}
def i5 (a:Ay->List (Nat×(Fm->SS->H6)))(f:M4 P U Z l)(d:iK P U Z xs)(n:Nat){c:Con}{V:Prop}(h:(cvc P U c<|sxF P U a (pF P U l xs) n g).q U (λ_=>True)=V)(hv:V)(e:∀g,isT (Z g)->mV P U l g≠none:=by exact noT)(b:isT (Z g)=false:=by rfl):j3 P U Z c g:=
 CM (RJ a (Dy f d) (λg b i=>e g b<|rJ d g b i) n g b) (h.symm▸hv)
def E8 (a:Ay->List (Nat×(Fm->SS->H6)))(e:M4 P U Z l)(j:iK P U Z xs)(m:Nat){c:Con}(mu:Ar->Nat){V:Nat->Prop}(f:∀n,(cvc P U (c.g mu<|n+1)<|sxF P U a (pF P U ((g,c.g mu n)::l) xs) m g).q U (λ_=>True)=V n)(hv:∀n,V n)(d:∀n,∀b,isT (Z b)->mV P U ((g,c.g mu n)::l) b≠none)(h:isT (Z g)=false:=by rfl):j3 P U Z c g:=
 JL λn i=>i5 a (l:=(g,c.g mu n)::l) ⟨i,e⟩ j m (f n) (hv n) (d n) h
end
open Go.Xe Go.RowKit
section
variable {P :Aw}{U:Ab}{ov:Aa}
def tauR :Tau:=λb=>if b=0 then some (some (0,0))else none
def TJ :Tle (λ_=>none) tauR:=λb p h=>by cases h
def IX (hm:P.follows .mixedOrders)(T:∀g t,ov g=some t->nE P g t){c:Con}{f:Ay}(hg:j3 P U ov c f)(K:c.j=[.t (.g .bool)])(I:∀d e,c.q d e-> ∃r,e= .b true::r){es:Au}(F:es.length=(t8 c.e).length)(H:c.p (u9 U (t8 c.e) es)){R:E}(D:gst c (G2 U (t8 c.e) 0 es) (t8 c.e).length=⟨[(0,some<|.m 0 R (kf P rgT).length)],1,[],(t8 c.e).length,[]⟩)(hR:R.z U=[]){xs ys:Af}{w:Bc}(hl:VDL P U (λ_=>none) (roF w) (eL c<|G2 U (t8 c.e) 0 es) xs)(hx:VRL (zM w) xs ys):Calls P f ys.toArray w λe w'=>e= .returned (.bool true)/\Below w.heap.size w w':=by
 have hs:SD P U tauR (roF w) (gst c (G2 U (t8 c.e) 0 es) (t8 c.e).length) (Hm P w):=by
  rw[D];have get:∀b x,(⟨[(0,some<|.m 0 R (kf P rgT).length)],1,[],(t8 c.e).length,[]⟩:SS).f b=some x->b=0/\x= .m 0 R (kf P rgT).length:=λb x h=>by rw[SS.f] at h;rw[B3]at h;by_cases e:0=b;rw[Xg e]at h;cases h;exact⟨e.symm,rfl⟩;rw[Xd e]at h;cases h
  refine⟨λb x m=>?_,λb c x y i o j q m hc S=>?_,λi b h=>(QU P w i b h).1,λb i o h=>?_,λi b h=>(QU P w i b h).2,λb h=>?_,λc t h=>(by simp at h),λr h=>(by simp at h)⟩;obtain⟨rfl,rfl⟩:=get b x m;refine .inl ⟨0,0,_,rfl,zL P w,rfl,rfl,rfl,.e,by rw[hR];rfl,?_⟩;rw[hR];exact⟨by simp,rfl,λr h=>(by simp at h),λr k row d h=>(by simp at h)⟩;obtain⟨rfl,_⟩:=get b x m;obtain⟨rfl,_⟩:=get c y hc;exact absurd rfl S;have h:(if b=0 then some (some (0,0))else none)=some (some (i,o)):=h;split at h;simp only[WJ,WL]at h;rw[<-h.1];exact Nat.succ_pos _;cases h;have h:1<=b:=h;exact af
 let⟨v,p,F',s',V,vs,N,ac,M,nw,aa,⟨n0,hr⟩,_,_,r4,L,r6,r7,r8,_,_,_,_,_,_,Z⟩:=hg es F H _ _ _ xs hs<|hl.m TJ<|Ze _;let⟨rr,C⟩:=I _ _ Z;have G:c.h= .g .bool::MV c.k:=by rw[Con.h,K];rfl
 rw[G]at r8 C;cases vs with
 |nil=>exact r8.elim|cons a ai=>
  let⟨r,z,ab,J,e2,n,ad⟩:=r8;let⟨s,A⟩:=n.1 .b rfl;rw[A]at J;have J:M=s::z:=J;subst J;have O:(s.A U).f:=by have:Dat.b (s.A U).f::_=Dat.b true::rr:=C;injection this with h _;injection h
  cases N with
  |nil=>rw[K]at L;cases L
  |cons y l=>
   have Q:l=[]:=by rw[K]at L;have:(y::l).length=1:=L;exact WP (by simpa using this)
   subst Q;let⟨y',aj,e3,hy,ah⟩:=r4.f;have Y:y'=y:=by injection e3 with h _;exact h.symm
   subst Y;have h6:=r6 p F' [.j s] []<|.g (n.2.2.2.1 y' hy p (λi=>(Z7 0 c.d.length++nw).getD i 0) 0 s (λi b m=>by rw[List.getD,m];rfl) (λe2 so B ae=>by rw[A,WJ]at B;subst B;cases so<;>rfl) (λb m=>by have:=n.2.2.1 rfl;rw[this]at m;cases m)) .q;rw[K]at h6;have W:VD P U p F' (.j s) v:=h6;cases W;rw[O]at hr;refine((Lj hm T n0).d f xs (Hm P w) _ V (hr n0<|Xh _) (BS.d w) w (zM w) w ys hx<|HR.e P w).mono λe w' O=>?_;obtain⟨ak,u,rfl,_,hv,X⟩:=O;cases hv;exact⟨rfl,HR.d X⟩
end
mutual
def noFv (n:Nat):SV->Bool
 | .r=>true| .f _ _=>true| .j _=>true| .p _=>true| .C=>true| .q=>true| .z _ _ _ _ _=>true| .w l=>noFvs n l| .A l=>noFvs n l|_=>false
def noFvs (n:Nat):As->Bool
 | []=>true|a::l=>noFv n a&&noFvs n l
end
def rZ {n:Nat}:∀ {l:As},noFvs n l-> ∀ {i:Nat} {a:SV},l[i]? =a->noFv n a
 | [],_,i,a,h=>by grind|b::l,h,0,a,c=>by rw[noFvs] at h;grind|b::l,h,i+1,a,c=>by rw[noFvs] at h;rw[WK]at h;exact rZ h.2 (by simpa using c)
section
variable {P :Aw}{U:Ab}{ov:Aa}
def VD.noF {n:Nat}{r:Tau}{F s:Ac}{a:SV}{v:Av}(h:VD P U r F a v)(m:noFv n a):VD P U r s a v:=by
 induction h with
 |any v=>exact .any v|int k e=>exact .int k e|bool e=>exact .bool e|str e=>exact .str e|nilp=>exact .nilp|nils=>exact .nils|sl b z off len cap i o c k g d j=>exact .sl b z off len cap i o c k g d j|sl0 b z off len cap k g d j=>exact .sl0 b z off len cap k g d j|agg l xs d _ q=>exact .agg l xs d λi a x f p=>q i a x f p<|rZ (m) f
 |tup l xs d _ q=>exact .tup l xs d λi a x f p=>q i a x f p<|rZ (m) f
 |_=>simp[noFv]at m
end
def rok (s a:SS):Bool:=(a.h.take<|a.h.length-s.h.length).all λp=>Nat.ble s.g p.1
def rst (c:Con)(s:SS)(a:Au):SS:= {s with h:=aD (I3 c.j) a (s.g+1)++((s.g,none)::s.h),g:=s.g+1+I5 (I3 c.j),m:=s.m+(t8<|I3 c.j).length}
section
variable (P :Aw)(U:Ab)
def Uu (c:Con)(e:SS)(d:Au)(a:SV):M Unit:=match Nz c.j a with
 |none=>c9 "contract: result"|some l=>match pH c.j l with
  |none=>c9 "contract: results"|some b=>d8 (CD P U (I3 c.j) b) λvs=>d8 (mtL U [] (I3 c.j) vs) λt=>z7 λs2=>
   bif rok e s2&&t.2.all (Nat.ble e.g)&&eJ t.2&&Nat.beq t.2.length (I5<|I3 c.j)then
    λ_=>.r (.f (c.n++ "Rel") [(t8 c.e).zip d,(t8<|I3 c.j).zip t.1]) (c.q (u9 U (t8 c.e) d)<|u9 U (t8<|I3 c.j) t.1) .w
   else c9 "contract: it writes"
def cvr (c:Con)(b:As->M SV):Tr (Unit×SS):=
 FR (t8 c.e) 0 λa=>.z (.f (c.n++ "Pre") [(t8 c.e).zip a]) (c.p<|u9 U (t8 c.e) a)<|(d8 (b<|eL c a)<|Uu P U c (gst c a (t8 c.e).length) a)<|gst c a (t8 c.e).length
def kro (c:Con)(args:As):M SV:=z7 λf=>match pH c.m args with
 |none=>c9 "contract: arguments"|some d=>match c.r args f with
  |none=>c9 "contract: no blocks"|some a=>match rI f c.d a with
   |none=>c9 "contract: blocks"|some e=>d8 (CD P U c.e<|d++e) λvs=>d8 (mtL U a c.e vs) λt=>z7 λs1=>
    bif a.all (xW s1)&&eJ (a++t.2)&&Nat.beq t.2.length (I5 c.e)then
     λ_=>.r (.f (c.n++ "Pre") [(t8 c.e).zip t.1]) (c.p<|u9 U (t8 c.e) t.1) (FR (t8<|I3 c.j) s1.m λb=>.z (.f (c.n++ "Rel") [(t8 c.e).zip t.1,(t8<|I3 c.j).zip b]) (c.q (u9 U (t8 c.e) t.1)<|u9 U (t8<|I3 c.j) b)
      (.j (yU c.j<|DV c.j<|MN idN (I3 c.j) b<|s1.g+1,rst c s1 b)))
    else c9 "contract: the start"
end
section
variable {P :Aw}{U:Ab}{Y:Aa}
variable (P U Y) in
def RRO c g:=∀(k:Au),k.length=(t8 c.e).length->c.p (u9 U (t8 c.e) k)-> ∀r F j xs,SD P U r F (gst c (G2 U (t8 c.e) 0 k) (t8 c.e).length) j->VDL P U r F (eL c<|G2 U (t8 c.e) 0 k) xs->
 ∃v f d h e p vs n a,P0 P Y g xs j v d/\j.d<=d.d/\Fle F f/\(∀i y,f i=some y->d.m.l i=some y/\i<d.d)/\(∀i,i<j.d->d.m.l i=j.m.l i)/\(∀i y,i<j.d->f i=some y->F i=some y)/\
  h.length=(t8<|I3 c.j).length/\c.q (u9 U (t8 c.e) k) (u9 U (t8<|I3 c.j) h)/\SD P U e f p d/\iQ P U [] e f p (I3 c.j) vs h a/\VDL P U e f vs n/\
  (∀b∈a,∀i o,e b=some (some (i,o))->j.d<=i)/\eJ a/\a.length=I5 (I3 c.j)/\ ∀l q,VDL P U l f q n->VD P U l f (yU c.j<|DV c.j q) v
variable {c:Con}{g:Ay}
def Wh {J:As->M SV}(G:E5 P U Y J g)(an:(cvr P U c J).q U λ_=>True):RRO P U Y c g:=by
 intro es k E τ F C xs H hx;have d:=kT (U:=U) _ _ _ an es k;have d:=d (by rw[M7 _ _ _ k];exact E);generalize ad:G2 U (t8 c.e) 0 es=t at*;rw[C3]at d;let⟨a,s1,d,ap,F1,al,aa,I,v,q,am⟩:=G _ xs τ F _ C hx H _ d H;rw[Uu] at d;cases W:Nz c.j a with
 |none=>rw[W]at d;exact d.elim|some l=>
 rw[W]at d;simp only at d;cases X:pH c.j l with
 |none=>rw[X]at d;exact d.elim|some ac=>
 rw[X]at d;simp only at d;let⟨us,ai,aj⟩:=LU W am;let⟨w,ae,aq,ah⟩:=pI X ai;rw[C3]at d;obtain⟨vs,s2,d,N,Q,D,ab,r,rfl,ao⟩:=jO (I3 c.j) ac w ap F1 s1 al ae I _ d I;rw[C3]at d;let⟨⟨u,e⟩,K,d,o3,B,ak⟩:=yL (P:=P) (Z:=N) (F:=Q) [] (I3 c.j) vs s2 _ d r.I;simp only[z7]at d;cases R:rok (gst c t (t8 c.e).length) K&&e.all (Nat.ble (gst c t (t8 c.e).length).g)&&eJ e&&Nat.beq e.length (I5<|I3 c.j)with
 |false=>rw[R]at d;exact d.elim|true=>
 rw[R]at d;simp only[WK,Xy,Xo]at R;let⟨⟨⟨T,k3⟩,k4⟩,k2⟩:=R;have n:c.q (u9 U (t8 c.e) t) (u9 U (t8<|I3 c.j) u):=d.1;have hd:u9 U (t8 c.e) t=u9 U (t8 c.e) es:=by rw[<-ad];exact M7 _ _ _ k
 rw[hd]at n;have s:=r.D o3 B;have ex:=aa.g<|ab.g<|Zd r o3;have S:=ak K o3.h;rw[rok] at T;rw[Xo]at T;let⟨l,a1,a2,a3,a4,_⟩:=ex.B;have hl:K.h.take (K.h.length-(gst c t (t8 c.e).length).h.length)=l:=by rw[a1,Xl,Nat.add_sub_cancel,List.take_left'];rfl
 have j:∀b∈l.map Prod.fst,(gst c t (t8 c.e).length).g<=b:=λb A=>by obtain⟨p,C,rfl⟩:=Yw.1 A;rw[hl]at T;simpa using T p C
 have L:∀i,i<C.d->D.m.l i=C.m.l i:=λi hi=>a2 i hi λb x o A _ S=>by have:=j b S;have:=H.w A;omega
 refine⟨v,Q,D,u,N,K,vs,w,e,q,ex.q,ex.f,λi y h=>⟨s.p i y h,s.B i y h⟩,L,λi y hi hy=>?_,S.e,n,s,S,ao,λb A i o ht=>?_,k4,k2,λO ws h5=>?_⟩;obtain h| ⟨b,o,h1,z⟩:=a4 i y hi hy;exact h;obtain h| ⟨V,x,o0,z,_,h3⟩:=a3 b i o (j b z) h1;omega;have:=j V h3;have:=H.w z;omega;obtain h| ⟨V,x,o0,z,_,h3⟩:=a3 b i o (WN<|k3 b A) ht;exact h;have:=j V h3;have:=H.w z;omega;have h6:=aj O Q _<|ah O Q _ [] h5;rwa[YD]at h6
def I1 (hg:RRO P U Y c g):E5 P U Y (kro P U c) g:=by
 intro l args τ F s hp hl hs Q m _;unfold kro at m;simp only[z7]at m;cases c1:pH c.m l with
 |none=>rw[c1]at m;exact m.elim|some aq=>
 rw[c1]at m;simp only at m;cases B:c.r l s with
 |none=>rw[B]at m;exact m.elim|some bl=>
 rw[B]at m;simp only at m;cases c3:rI s c.d bl with
 |none=>rw[c3]at m;exact m.elim|some au=>
 rw[c3]at m;simp only at m;let⟨ai,bb,bc,be⟩:=pI c1 hl;let⟨av,ax,ay⟩:=pD hs c3;rw[C3]at m;obtain⟨vs,s2,m,f,F2,aa,ae,ab,rfl,bi⟩:=jO c.e (aq++au) (ai++av) τ F s hp (bb.j ax) hs _ m hs;rw[C3]at m;let⟨⟨es,E⟩,a,m,o3,ak,bh⟩:=yL (P:=P) (Z:=f) (F:=F2) bl c.e vs s2 _ m ab.I;simp only[z7]at m;cases c5:bl.all (xW a)&&eJ (bl++E)&&Nat.beq E.length (I5 c.e)with
 |false=>rw[c5]at m;exact m.elim|true=>
 rw[c5]at m;simp only[WK,Xo,Xy]at c5;let⟨⟨k1,I⟩,k3⟩:=c5;have n:=ab.D o3 ak;have hm:=bh a o3.h;have N:=hm.e;have O:c.p (u9 U (t8 c.e) es):=m.1;let⟨g1,g2,g3⟩:=PI (fv:=(t8 c.e).length) n bi bc (ay.d ae.t) hm I (λb u=>rT<|k1 b u) k3<|M2 (t8 c.e) 0 es N;have V:VDL P U (vD f<|bl++E) F2 (eL c<|G2 U (t8 c.e) 0 es) args:=by let⟨w1,_⟩:=g2.d;have:=be _ _ _ ((pL c<|G2 U (t8 c.e) 0 es).drop ai.length) w1;rw[YH]at this;exact this
 obtain⟨v,F',am,T,A,s',bp,fx,bs,r1,r2,r3,r4,r5,r6,r7,r8,r9,an,bj,ao,bk,bo,bm⟩:=hg es N O _ F2 aa args g1 V;have hQ:=kT (U:=U) _ _ _ (m.2 O) T r7 (by rw[M7 _ _ _ r7];exact r8);have ac:=M2 (U:=U) (t8<|I3 c.j) a.m T r7;generalize G2 U (t8<|I3 c.j) a.m T=L at hQ ac;have R:∀b,b<a.g+1->V1 f A (a.g+1) bs b=f b:=λb u=>gP u;have C:∀k b,bs[k]? =some b->V1 f A (a.g+1) bs (a.g+1+k)=A b:=λk b h=>lV h;have ap:∀b p,f b=some p->b<a.g:=λb p u=>Nat.lt_of_not_le λbg=>by rw[n.g b bg]at u;cases u
 have H:Tle f (V1 f A (a.g+1) bs):=λb p u=>by rw[R b<|Nat.lt_succ_of_lt<|ap b p u];exact u
 have G:∀b x,(rst c a L).f b=some x->(∃k w K,b=a.g+1+k/\bs[k]? =some w/\s'.f w=some K/\(∀(f:Tau) o z,BD P U A F' o K z->BD P U f F' o x z)/\(H9 P U K->H9 P U x))\/a.f b=some x:=by
  intro b x ba;have d:(match lk (aD (I3 c.j) L (a.g+1)++((a.g,none)::a.h)) b with|some x=>x|none=>none)=some x:=ba;rw[O6]at d;cases B:lk (aD (I3 c.j) L<|a.g+1) b with
  |some y=>rw[B]at d;simp only at d;subst d;obtain⟨k,w,X,K,M,D,S,e4,e5,e6⟩:=(an.g (nb:=a.g+1) ac) b _ B;cases S;exact .inl ⟨k,w,K,M,D,e4,e5,e6⟩
  |none=>rw[B]at d;simp only[B3]at d;by_cases e:a.g=b;rw[Xg e]at d;cases d;rw[Xd e]at d;exact .inr d
 have ah:∀k w i o,bs[k]? =some w->V1 f A (a.g+1) bs (a.g+1+k)=some (some (i,o))->aa.d<=i:=λk w i o e h=>by rw[C k w e]at h;exact ao w (WT e) i o h
 have J:∀b x,a.f b=some x->b<a.g+1:=λb x h=>Nat.lt_succ_of_lt<|n.w h;have EX:Ext f F2 a aa (V1 f A (a.g+1) bs) F' (rst c a L) am:=by
  refine⟨H,r3,r2,?_,λb u=>R b<|Nat.lt_succ_of_lt u,λb x u bn=>?_,⟨aD (I3 c.j) L (a.g+1)++ [(a.g,none)],?_,λi C _=>r5 i C,λb i o u ht=>.inl ?_,λi y C hy=>.inl<|r6 i y C hy,λhp=>absurd rfl<|hp (a.g,none)<|by simp⟩,⟨[],rfl⟩,
   ⟨aD (I3 c.j) L (a.g+1)++ [(a.g,none)],?_,λ_ _ _ _ i _ cs _ _ _ C hg _=>⟨cs,by rw[r5 i C];exact hg,λ_ _=>rfl⟩⟩⟩
  show a.g<=a.g+1+I5 (I3 c.j);omega;obtain⟨k,_,_,rfl,_⟩|h:=G b x u;omega;exact⟨x,h⟩;show aD (I3 c.j) L (a.g+1)++((a.g,none)::a.h)=_;rw[WX];rfl;by_cases e:b<a.g+1;rw[R b e,n.g b u]at ht;cases ht;unfold V1 at ht;rw[Xd e]at ht;split at ht;rename_i w aw;exact ao w (WT aw) i o ht;cases ht;show aD (I3 c.j) L (a.g+1)++((a.g,none)::a.h)=_;rw[WX];rfl
 refine⟨_,_,hQ,_,F',am,(ae.g<|Zd ab o3).g EX,⟨λb x u=>?_,λb B x y i o j q u hc al M D=>?_,λi b h=>(r4 i b h).1,λb i o h=>?_,λi b h=>(r4 i b h).2,λb u=>?_,n.I,λr hr=>(n.N r hr).f H r3⟩,v,r1,bm _ _ (an.d (τ2:=V1 f A (a.g+1) bs) (num:=idN) ac (λi b h=>by simp at h) C bj)⟩
 .rcases G b x u with⟨k,w,K,rfl,D,S,e4,e5⟩|h;obtain⟨i,o,y,k1,I,k3,k4⟩| ⟨k1,I⟩:=r9.f w K S;exact .inl ⟨i,o,y,by rw[C k w D];exact k1,I,k3,e4 _ o y k4⟩;exact .inr ⟨by rw[C k w D];exact k1,e5 I⟩
  .rw[R b (J b x h)];obtain⟨i,o,y,h1,h2,h3,h4⟩|h:=n.f b x h
   .have C:=n.C b i o h1;refine .inl ⟨i,o,y,h1,by rw[r5 i C];exact h2,?_,h4.f H r3⟩;cases hF:F' i with
    |none=>rfl|some y'=>rw[r6 i y' C hF]at h3;cases h3
   exact .inr h
 obtain⟨k,w,K,rfl,S,e4,_⟩|h:=G b x u;obtain⟨I,b2,x2,rfl,f3,f4,_⟩|h2:=G B y hc;rw[C k w S]at M;rw[C I b2 f3]at D;exact r9.A w b2 K x2 i o j q e4 f4 (λe=>al<|by subst e;rw[eK bk k I w S f3]) M D;have:=ah k w i o S M;rw[R B<|J B y h2]at D;have:=n.C B j q D;omega;rw[R b<|J b x h]at M;obtain⟨I,b2,x2,rfl,f3,f4,_⟩|h2:=G B y hc;have:=ah I b2 j q f3 D;have:=n.C b i o M;omega;rw[R B<|J B y h2]at D;exact n.A b B x y i o j q h h2 al M D;by_cases e:b<a.g+1;rw[R b e]at h;exact XW (n.C b i o h) r2;unfold V1 at h;rw[Xd e]at h;split at h;exact r9.C _ i o h;cases h;have u:a.g+1+I5 (I3 c.j)<=b:=u;rw[V1,af,YT<|by omega]
variable {l:List (Ay×Con)}{xs:E4}
def U3 (a:Ay->List (Nat×(Fm->SS->H6)))(f:M4 P U Y l)(d:iK P U Y xs)(n:Nat){V:Prop}(h:(cvr P U c<|sxF P U a (pF P U l xs) n g).q U (λ_=>True)=V)(hv:V)(e:∀g,isT (Y g)->mV P U l g≠none:=by exact noT)(b:isT (Y g)=false:=by rfl):RRO P U Y c g:=
 Wh (RJ a (con:=pF P U l xs) (Dy f d) (λg b i=>e g b<|rJ d g b i) n g b) (h.symm▸hv)
def Tv {mu:Ar->Nat}(h:∀n,RRO P U Y (c.g mu n) g->RRO P U Y (c.g mu<|n+1) g):RRO P U Y c g:=by
 have all:∀n,RRO P U Y (c.g mu n) g:=λn=>by
  induction n with
  |zero=>intro d _ a;exact absurd a.2<|Nat.not_lt_zero _
  |succ n e=>exact h n e
 intro d b a;exact all (mu (u9 U (t8 c.e) d)+1) d b ⟨a,Yd _⟩
def Tu (a:Ay->List (Nat×(Fm->SS->H6)))(f:M4 P U Y l)(j:iK P U Y xs)(m:Nat)(mu:Ar->Nat){V:Nat->Prop}(h:∀n,(cvr P U (c.g mu<|n+1)<|sxF P U a (pF P U l<|(g,kro P U<|c.g mu n)::xs) m g).q U (λ_=>True)=V n)(hv:∀n,V n)(e:∀b,isT (Y b)->mV P U l b≠none:=by exact noT)(d:isT (Y g)=false:=by rfl):RRO P U Y c g:=
 Tv λn i=>U3 a f (xs:=(g,kro P U<|c.g mu n)::xs) ⟨⟨I1 i,d⟩,j⟩ m (h n) (hv n) e d
end
section
variable {P :Aw}{U:Ab}{Z:Aa}
variable (U) in
def wkM (a:As->M SV)(l:As):M SV:=match l with
 | .z b z off len cap::r=>match cap with
  | .g=>a<|.z b z off len .g::r|cap=>z7 λs=>match s.f b with
   | some (.g L e  d ph) => bif Nat.beq z  d then d8 (match cap with
     | .f c=>u6 U<|I4 c len|_=>i6 ()) λ_=>d8 (u6 U<|A4<|A5 (C2 L)<|A3 off len) λ_=>d8 (u6 U<|A5 len<|.w 67108865) λ_=>a<|.z b z off len .g::r
    else c9 "full: size"
   |_=>c9 "full: block"
 |l=>a l
variable {g:Ay}
def TX (l:wkF P g)(j:isT (Z g)=false){a d:Av}{r:Af}{b c:Hp}{v:Av}(f:wkA b (a::r)=d::r)(i:wkA b (d::r)=d::r)(h:P0 P Z g (d::r) b v c):P0 P Z g (a::r) b v c:=by
 let⟨m,h⟩:=h;refine⟨m+1,λn o=>?_⟩;obtain⟨k,rfl⟩:∃k,n=k+1:=⟨n-1,by omega⟩
 have h:(E7 P Z<|k+1).d g (d::r) b=(v,c):=h (k+1) (by omega);have e:∀x:Av,(E7 P Z<|k+1).d g (x::r) b=iJ (Y0 P (z4 P) (E7 P Z k) (U4 P (z4 P) (E7 P Z k) k) k g) (wkA b<|x::r) b:=λx=>by show(bif isT (Z g)&&(x::r).isEmpty then some (.bool true,b)else iJ (Y0 P (z4 P) (E7 P Z k) (U4 P (z4 P) (E7 P Z k) k) k g) (bif wkF P g then wkA b (x::r)else(x::r)) b)=_;rw[j,Bool.false_and,Xb,l,Xa]
 rw[e,i]at h;rw[e,f];exact h
def Wt {t:As->M SV}(q:E5 P U Z t g)(Y:wkF P g)(T:isT (Z g)=false):E5 P U Z (wkM U t) g:=by
 intro l args τ F s hp D K;unfold wkM;split
 .rename_i b z off len cap r;split;exact q _ _ _ _ _ _ D K
  .rename_i C;refine Zj ?_;split
   .rename_i L e z' ph R;cases H:Nat.beq z z' with
    |false=>exact Zi|true=>
    simp only[Xa];have H:=WO H;subst H;have first:OKp U (match cap with| .f c=>u6 U<|I4 c len|_=>i6 ()) s λ_=>∀c,pC U len cap c->c=len.r U\/ ∃x,c=i4 x 0/\x<=67108864/\len.j U<=67108864:=by
     cases cap with
     |f c=>refine OKp.g.j λ_ h c' m=>.inl ?_;have h:=(Zb U _).1 h;rw[H8]at h;have h:=Yu h;obtain⟨_,A,_⟩:=m;rw[A];show(c.j U).toNat=(len.j U).toNat;rw[h]
     |g=>exact absurd rfl<|C|j=>refine Zq λc m=>?_;obtain⟨_,h,_⟩|h:=m;exact .inl h;exact .inr h
    refine Zg first λ_ s1 o1 W m=>Zg Zm λ_ s2 o2 X I=>Zg Zm λ_ s3 o3 f J=>?_
    have I:=B7 I;have J:=E2 J;rw[l9,j5]at I;simp only[D5]at J;have B:s3.f b=some (.g L e z ph):=by rw[o3.f,o2.f,o1.f];exact R
    obtain⟨y,ys,rfl,v1,j⟩:=D.f;cases v1 with
    |sl0 _ _ _ _ _ d u w _=>exact q _ _ _ _ _ _ (.g (.sl0 b z off len .g d u w (λe S=>by cases S)) j) f|sl _ _ _ _ _ i o c d u w p=>
     obtain h| ⟨x,rfl,A,N⟩:=m c p
     .have e1:len.j U=((len.r U:Nat):Int):=by show len.j U=(((len.j U).toNat:Nat):Int);omega
      have G:VDL P U τ F (.z b z off len .g::r) (.slice (some ⟨i,o+off.r U*z,none⟩) (len.r U) (i4 (len.r U) 0)::ys):= .g (.sl b z off len .g i o _ d u w ⟨len.r U,rfl,by omega,by omega⟩) j;refine(q _ _ _ _ _ _ G f).g λa aa F' V _ _ ⟨v,hx,hv⟩=>⟨v,TX Y T ?_ MB hx,hv⟩
      rcases f.f b _ B with⟨i',o',yb,k,k2,_,cs,n,rfl,⟨k3,_⟩,_⟩| ⟨k,_⟩
      .rw[d]at k;simp only[WJ,WL]at k;obtain⟨rfl,rfl⟩:=k;subst h;have O:Nat.ble (len.r U) 67108864=true:=WQ (by omega);have Q:Nat.ble (o+off.r U*z+len.r U*z) n:=WQ (by
        have e2:off.j U=((off.r U:Nat):Int):=by show off.j U=(((off.j U).toNat:Nat):Int);omega
        have:off.r U+len.r U<=(L.z U).length:=by omega
        have:=WW z this;rw[Xu]at this;omega)
       simp only[wkA,O,Xa,k2,Q]
      rw[d]at k;cases k
     exact q _ _ _ _ _ _ (.g (.sl b z off len .g i o _ d u w ⟨x,rfl,A,N⟩) j) f
   exact Zi
 exact q _ _ _ _ _ _ D K
end
section
variable {P :Aw}{X:Aa}{R:Ai}{Y:Nat}
structure F9 (hp hp':Hp):Prop where
 d:hp.d<=hp'.d
 b:∀r,r<hp.d->hp.m.l r=some .dfr->hp'.m.l r=some .dfr
def F9.a (a:Hp):F9 a a:=⟨Xh _,λ_ _ h=>h⟩
def F9.f {a b c:Hp}(h:F9 a b)(k:F9 b c):F9 a c:=⟨Ya h.d k.d,λr d e=>k.b r (XW d h.d)<|h.b r d e⟩
def Ext.a {U:Ab}{d c:Tau}{F e:Ac}{s j:SS}{b a:Hp}(h:Ext d F s b c e j a)(i:SD P U d F s b):F9 b a:=
 ⟨h.q,λr g f=>h.D i g f<|.inl rfl⟩
variable (P X R Y) in
structure XK (c:Code)(tm:Ao)(hp:Hp)(e:Exit)(tm':Ao)(hp':Hp):Prop where
 f:XC P X R Y c tm hp e tm' hp'
 k:F9 hp hp'
variable {c M L:Code}{Z N U:Ao}{W hp1 V:Hp}{e:Exit}
def XK.a (h:XK P X R Y M Z W .normal N hp1)(k:XK P X R Y L N hp1 e U V):XK P X R Y (.seq M L) Z W e U V:=
 ⟨h.f.g k.f h.k.d k.k.d k.k.b λn m f c d a b=>by simp only[t9,a,b],h.k.f k.k⟩
def XK.r (h:XK P X R Y M Z W e U V)(c:e≠ .normal):XK P X R Y (.seq M L) Z W e U V:=
 ⟨h.f.b λn m d b a=>by simp only[t9,a];cases e<;>first|rfl|exact absurd rfl c,h.k⟩
def XK.i {o:Az}(c:i7 Z o=some (.bool true))(h:XK P X R Y M Z W e U V):XK P X R Y (.cond o M L) Z W e U V:=
 ⟨h.f.b λn m d b a=>by simp only[t9,c,a],h.k⟩
def XK.d {o:Az}(c:i7 Z o=some (.bool false))(h:XK P X R Y L Z W e U V):XK P X R Y (.cond o M L) Z W e U V:=
 ⟨h.f.b λn m d b a=>by simp only[t9,c,a],h.k⟩
def XK.h :XK P X R Y .skip Z W .normal Z W:=⟨.d ⟨0,λn m a _ _=>rfl⟩,.a _⟩
def XK.n :XK P X R Y .ret Z W .ret Z W:=⟨.d ⟨0,λn m a _ _=>rfl⟩,.a _⟩
variable {K:Nat}
def XK.w :XK P X R Y (.exit K) Z W (.exit K) Z W:=⟨.d ⟨0,λn m a _ _=>rfl⟩,.a _⟩
def XK.b (h:XK P X R Y c Z W .normal U V):XK P X R Y (.block K c) Z W .normal U V:=
 ⟨h.f.b λn m d b a=>by simp only[t9,a],h.k⟩
def XK.m (h:XK P X R Y c Z W (.exit K) U V):XK P X R Y (.block K c) Z W .normal U V:=
 ⟨h.f.b λn m d b a=>by simp only[t9,a,w9 rfl,Xa],h.k⟩
def XK.q (h:XK P X R Y c Z W .normal N hp1)(k:XK P X R Y (.loop c) N hp1 e U V):XK P X R Y (.loop c) Z W e U V:=
 ⟨h.f.g k.f h.k.d k.k.d k.k.b λn m g d f a b=>by simp only[t9,a,b],h.k.f k.k⟩
def XK.p (h:XK P X R Y c Z W e U V)(d:e≠ .normal):XK P X R Y (.loop c) Z W e U V:=
 ⟨h.f.b λn m f b a=>by simp only[t9,a];cases e<;>first|rfl|exact absurd rfl d,h.k⟩
variable {O:Am}
def XK.u (h:XOps P X Y O.toList O.toList Z W U V)(k:F9 W V):XK P X R Y (.region K O false) Z W .normal U V:=by let⟨b,h⟩:=h;exact⟨.d ⟨b,λn m c a _=>by simp only[t9,Xb,h n a]⟩,k⟩
def XK.x (h:EV λn=>z4 P (E7 P X n) Y O.toList Z W=(U,V))(k:F9 W V):XK P X R Y (.region K O true) Z W .normal U V:=by let⟨b,h⟩:=h;exact⟨.d ⟨b,λn m c a _=>by simp only[t9,Xa,h n a]⟩,k⟩
variable (P X Y) in
def YO (all l:An)(Z:Ao)(W:Hp)(Q:Ao->Hp->Prop):Prop:=∃N hp1,XOps P X Y all l Z W N hp1/\Q N hp1
variable (P X R Y) in
def YN (c:Code)(Z:Ao)(W:Hp)(Q:Ao->Hp->Prop):Prop:=∃N hp1,XK P X R Y c Z W .normal N hp1/\Q N hp1
variable {Q :Ao->Hp->Prop}{all rest:An}{o:Oper}{v:Av}{t:Tmp}
def YO.b (h:Q Z W):YO P X Y all [] Z W Q:=⟨_,_,.g λ_=>Bq,h⟩
def YO.d (d:E6 Y o.dst)(e:o.guard=none)(h:XOp P X o.op Z W v hp1)(k:YO P X Y all rest (A6 Z o.dst v) hp1 Q):YO P X Y all (o::rest) Z W Q:=by let⟨t1,c,f,g⟩:=k;refine⟨t1,c,(h.d f).b λn ⟨a,b⟩=>?_,g⟩;rw[Y9,d,Xa,a];simp only[y9,e,Xa];exact b
def YO.a (a:E6 Y o.dst)(b:o.guard=none)(h:∀call,xop P call Z W o.op=(v,hp1))(k:YO P X Y all rest (A6 Z o.dst v) hp1 Q):YO P X Y all (o::rest) Z W Q:= .d a b (.g λ_=>h _) k
def YO.h (a:E6 Y o.dst)(b:o.guard=none)(h:o.op= .move (.tmp t))(hv:Z.l t=v)(k:YO P X Y all rest (A6 Z o.dst v) W Q):YO P X Y all (o::rest) Z W Q:=
 .a a b (λ_=>by rw[h];simp only[xop,i7,j4,hv,XB]) k
def YO.f (a:E6 Y o.dst)(b:o.guard=none)(h:o.op= .assign (.tmp t))(hv:Z.l t=v)(k:YO P X Y all rest (A6 Z o.dst v) W Q):YO P X Y all (o::rest) Z W Q:=
 .a a b (λ_=>by rw[h];simp only[xop,i7,j4,hv,XB]) k
def YN.a (h:YO P X Y O.toList O.toList Z W λt1 a=>F9 W a/\Q t1 a):YN P X R Y (.region K O false) Z W Q:=by let⟨t1,a,b,c,d⟩:=h;exact⟨t1,a,.u b c,d⟩
def YN.h (h:YN P X R Y M Z W λt1 a=>YN P X R Y L t1 a Q):YN P X R Y (.seq M L) Z W Q:=by let⟨t1,a,c,t2,b,d,e⟩:=h;exact⟨t2,b,c.a d,e⟩
def YN.f (h:Q Z W):YN P X R Y .skip Z W Q:=⟨_,_,.h,h⟩
def YN.j {o:Az}(b:i7 Z o=some (.bool true))(h:YN P X R Y M Z W Q):YN P X R Y (.cond o M L) Z W Q:=by let⟨t1,a,c,d⟩:=h;exact⟨t1,a,c.i b,d⟩
def YN.d {o:Az}(b:i7 Z o=some (.bool false))(h:YN P X R Y L Z W Q):YN P X R Y (.cond o M L) Z W Q:=by let⟨t1,a,c,d⟩:=h;exact⟨t1,a,c.d b,d⟩
def YN.b (h:YN P X R Y c Z W Q):YN P X R Y (.block K c) Z W Q:=by let⟨t1,a,b,d⟩:=h;exact⟨t1,a,b.b,d⟩
def YN.k {b:Ao->Hp->Prop}(h:YN P X R Y c Z W Q)(k:∀t1 a,F9 W a->Q t1 a->b t1 a):YN P X R Y c Z W b:=by let⟨t1,a,d,e⟩:=h;exact⟨t1,a,d,k _ _ d.k e⟩
variable (P X Y) in
def YG (all:An)(b:Nat)(l:List (Oper×Nat))(i:Nat)(Z:Ao)(S:Hp)(I:Nat)(c:List Ent)(Q:Out->Prop):Prop:=∃a,(EV λn=>xgo P (E7 P X n) Y all b l i Z S I c=some a)/\Q a
variable {U pre T I:Nat}{V:List (Oper×Nat)}{S S2:Hp}{N:List Ent}{M:Out->Prop}
def YG.b (h:M ⟨Z,S,I,N⟩):YG P X Y all U [] T Z S I N M:=⟨_,.g λ_=>rfl,h⟩
def YG.a (f:E6 Y o.dst)(c:o.guard=none)(d:j7 o.op=0)(h:∀call,xop P call Z S o.op=(v,S))(k:YG P X Y all U V (T+1) (A6 Z o.dst v) S I (⟨T,o,pre,Z,S,S,I,true,v,none⟩::N) M):YG P X Y all U ((o,pre)::V) T Z S I N M:=by let⟨b,k1,e⟩:=k;refine⟨b,k1.b λn a=>?_,e⟩;simp only[xgo,y9,c,Xa,d,h<|E7 P X n];grind
def YG.d (f:E6 Y o.dst)(c:o.guard=none)(d:j7 o.op=1)(h:∀call,xop P call Z S o.op=(v,S))(k:YG P X Y all U V (T+1) (A6 Z o.dst v) S I (⟨T,o,pre,Z,S,S,I,true,v,none⟩::N) M):YG P X Y all U ((o,pre)::V) T Z S I N M:=by
 let⟨b,k1,e⟩:=k;refine⟨b,k1.b λn a=>?_,e⟩;rw[xgo];have:xrd P Z S o.op=v:=by rw[xrd];simp_all
 simp only[y9,c,Xa,d,this];grind
def YG.h (d:E6 Y o.dst)(e:o.guard=none)(f:j7 o.op=3)(g:takes U (AC pre I) N S=S)(h:XOp P X o.op Z S v S2)(k:YG P X Y all U V (T+1) (A6 Z o.dst v) S2 (I|||pre) (⟨T,o,pre,Z,S,S2,I,true,v,none⟩::N) M):YG P X Y all U ((o,pre)::V) T Z S I N M:=by let⟨c,k1,i⟩:=k;refine⟨c,(h.d k1).b λn ⟨a,b⟩=>?_,i⟩;rw[xgo,d,Xa];simp only[y9,e,Xa,f,g,a];exact b
def YG.f (b:E6 Y o.dst)(c:o.guard=none)(a:o.op= .move (.tmp t))(hv:Z.l t=v)(k:YG P X Y all U V (T+1) (A6 Z o.dst v) S I (⟨T,o,pre,Z,S,S,I,true,v,none⟩::N) M):YG P X Y all U ((o,pre)::V) T Z S I N M:=
 .a b c (by rw[a];rfl) (λ_=>by rw[a];simp only[xop,i7,j4,hv,XB]) k
def YN.i (f:stat O.toList (dK O.toList []))(h:YG P X Y O.toList W.d (O.toList.zip<|dK O.toList []) 0 Z ⟨W.m,W.d+O.toList.length⟩ 0 [] λb=>dyn P ⟨W.m,W.d+O.toList.length⟩ b.b/\takes W.d (Bz b.I) b.b b.S=b.S/\F9 W b.S/\Q b.c b.S):YN P X R Y (.region K O true) Z W Q:=by
 let⟨b,c,g,i,d,e⟩:=h;refine⟨b.c,b.S,.x (c.b λn a=>?_) d,e⟩;have:kO P (E7 P X n) Y O.toList Z W=(b.c,b.S):=by rw[kO];grind
 rw[z4];grind
end
def D3 (P:Aw)(g:Ay):Code:=match P.funcs[g]? with
 |some fn=>fn.body.getD .skip|none=>.skip
def cdA :Code->Code
 | .seq a _=>a| .cond _ a _=>a| .block _ c=>c| .loop c=>c|c=>c
def cdB :Code->Code
 | .seq _ b=>b| .cond _ _ b=>b|c=>c
section
variable {P :Aw}{U:Ab}{Y:Aa}
variable {g:Ay}{Z:Hp}
theorem Z0 {fn:Func}{c:Code}{args:Af}{p:Ao}{b:Hp}{e:Exit}{vs:Af}(t:P.funcs[g]? =some fn)(E:fn.body=c)(G:isT (Y g)=false)(h:XK P Y none (args.length+(fn.ntmps-args.length)) c (fill .e 0 args) Z e p b)(F:e= .normal\/e= .ret)(f:∀a:Hp,(∀i,b.m.l i≠some .dfr->a.m.l i=b.m.l i)->I6 P p a fn.results.toList=vs)(v:wkF P g=false:=by kernel_rfl):∃a,P0 P Y g args Z (iI vs) a/\a.d=b.d/\(∀i,b.m.l i≠some .dfr->a.m.l i=b.m.l i)/\F9 Z a:=by
 obtain⟨⟨s,⟨u,l⟩,J,B⟩,y⟩:=h;have o:∀n:Nat,N6 P (U4 P (z4 P) (E7 P Y n) n) (s.map Df.d++ []) b=N6 P (U4 P (z4 P) (E7 P Y 0) 0) (s.map Df.d++ []) b:=λn=>oO s b;obtain⟨a,I,z,A⟩:=hG s b u λr j=>(l r j).2.2;have w:∀i,b.m.l i≠some .dfr->a.m.l i=b.m.l i:=λi H=>A i λx=>H (l i x).2.2;refine⟨a,⟨J+1,λn K=>?_⟩,z,w,⟨by rw[z];exact y.d,λr j C=>?_⟩⟩
 .obtain⟨n,rfl⟩:∃k,n=k+1:=⟨n-1,by omega⟩
  have q:=B n n [] (by omega) (by omega);show(bif isT (Y g)&&args.isEmpty then some (.bool true,Z)else iJ (Y0 P (z4 P) (E7 P Y n) (U4 P (z4 P) (E7 P Y n) n) n g) (bif wkF P g then wkA Z args else args) Z)=_;rw[G,Bool.false_and,Xb,v,Xb];have d:=(o n).trans I;have D:Y0 P (z4 P) (E7 P Y n) (U4 P (z4 P) (E7 P Y n) n) n g args Z=(iI vs,a):=by simp only[Y0,t,E];obtain j|j:=F;rw[j]at q;simp only[q,tB,d,f a w];rw[j]at q;simp only[q,tB,d,f a w]
  simp only[iJ,D]
 rw[A r λx=>by grind];exact y.b r j C
def Gb :∀ {c:List Lf} {a:Au} {b:Nat},I5 c=0->aD c a b=[]
 | [],_,_,_=>rfl|x::l,a,b,h=>by rw[I5] at h;rw[aD,Lf.e<|by omega,Gb<|by omega]
def FH (F:Ac)(Z:Hp):Prop:=∀i b,F i=some b->Z.m.l i=some b/\i<Z.d
variable {F:Ac}
theorem SD.a (a:FH F Z)(fv:Nat):SD P U (λ_=>none) F ⟨[],0,[],fv,[]⟩ Z:=
 ⟨λb x h=>by simp[SS.f,lk]at h,λb c x y i o j q h=>by grind,λi b h=>(a i b h).1,λb i o h=>(by grind),λi b h=>(a i b h).2,λ_ _=>rfl,λc t h=>by grind,λr h=>by grind⟩
def j3.a {c:Con}(M:j3 P U Y c g)(w:c.d=[])(B:c.k=[])(C:I5 c.e=0)(h4:I5 c.h=0){es:Au}(p:es.length=(t8 c.e).length)(q:c.p (u9 U (t8 c.e) es)){xs:Af}(D:FH F Z)(S:VDL P U (λ_=>none) F (eL c<|G2 U (t8 c.e) 0 es) xs):∃v e a d,P0 P Y g xs Z v a/\F9 Z a/\Fle F e/\FH e a/\(∀i b,e i=some b->F i=some b\/Z.d<=i)/\(∀j,j<Z.d->a.m.l j=Z.m.l j)/\d.length=(t8 c.h).length/\c.q (u9 U (t8 c.e) es) (u9 U (t8 c.h) d)/\VD P U (λ_=>none) e (yU c.j<|DV c.j<|MN idN c.h (G2 U (t8 c.h) 0 d) 0) v:=by
 have A:gst c (G2 U (t8 c.e) 0 es) (t8 c.e).length=⟨[],0,[],(t8 c.e).length,[]⟩:=by rw[gst,w,Gb C,C];rfl
 have R:SD P U (λ_=>none) F (gst c (G2 U (t8 c.e) 0 es) (t8 c.e).length) Z:=by rw[A];exact SD.a D _
 let⟨v,ac,e,s',a,vs,I,J,d,T,n,V,s,G,r4,r5,r6,z,t,r9,W,X,aa,ab,r,y⟩:=M es p q _ F Z xs R S;rw[A]at s;have Q:Z7 0 c.d.length++T=[]:=by rw[w,B]at r;rw[w];exact List.length_eq_zero_iff.1 (by simpa [Z7]using r)
 have K:n=[]:=List.length_eq_zero_iff.1 (by omega);rw[Q]at z t;rw[B]at z;have L:=z;subst L;subst K;have u:∀b x,(⟨[],0,[],(t8 c.e).length,[]⟩:SS).f b=some x->False:=λb x h=>by simp[SS.f,lk]at h
 let⟨l,a1,H,a3,a4,_⟩:=s.B;refine⟨v,e,a,d,V,s.a<|SD.a (P:=P) (U:=U) D _,s.f,λi b h=>⟨G.p i b h,G.B i b h⟩,λi b h=>?_,λj N=>H j N λb x o h _ _=>u b x h,t.e,y,?_⟩;grind;have hv:=iQ.d (τ2:=λ_=>none) (num:=idN) (nb:=0) t (M2 (t8 c.h) 0 d t.e) (λi b h=>by grind) (λk b h=>by grind) r4;rw[YD]at hv;have:=r6 _ e _ [] hv;grind
end
section
variable {P :Aw}{V:Aa}{W:Nat}{S R tm2:Ao}{Y Z U:Hp}
variable (P V) in
def FP i args Y v a:=EV λn=>(E7 P V n).f i args Y=some (v,a)
variable {X:Array Tmp}
def xrnd {i:Nat}{a:Bb Code}{c:Ao}{b d:Code}{e:Nat}{args:Af}(r:Y.m.l i=some (.loop .ready a W c X b d e))(s:X.toList.length=args.length)(l:BM W X.toList)(o:XK P V (some i) W b (gA c X.toList args) Y .normal R Z)(h:Z.m.l i=some (.loop .ready a W c X b d e))(p:XK P V (some i) W d R ⟨Z.m.m i<|some<|.loop .busy a W c X b d e,Z.d⟩ .normal tm2 U)(j:U.m.l i=some (.loop .busy a W c X b d e)):FP P V i args Y (.bool true) ⟨U.m.m i<|some<|.loop .ready none W c X b d e,U.d⟩:=by
 let⟨⟨v,_,t,f⟩,_⟩:=o;let⟨⟨w,_,u,g⟩,_⟩:=p;refine⟨t+u+1,λn x=>?_⟩;obtain⟨n,rfl⟩:∃k,n=k+1:=⟨n-1,by omega⟩
 show tL P (z4 P) (E7 P V n) n i args Y=_;have q:Nat.beq X.toList.length args.length:=by rw[s];exact Nat.beq_refl _
 simp only[tL,r,q,l,Bool.and_self,Xa,f n n [] (by omega) (by omega),h,g n n (v.map Df.d++ []) (by omega) (by omega),j]
variable {v:Av}
def XK.j {f:Az}{g:Ay}{fn:Func}{first cap:Al}{a c:Code}(o:i7 S f=some (.func (.func g) first cap))(d:P.funcs[g]? =fn)(e:cN fn)(h:P0 P V g (first.toList++ [.chan (some<|Y.d+1)]++cap.toList) ⟨(Y.m.m Y.d<|some .dfr).m (Y.d+1)<|some<|.loop .ready none W S X a c Y.d,Y.d+2⟩ v Z)(l:Z.m.l Y.d=some .dfr)(p:Z.m.l (Y.d+1)=some (.loop .ready none W S X a c Y.d))(w:Y.d+2<=Z.d)(kp:∀r,r<Y.d->Y.m.l r=some .dfr->Z.m.l r=some .dfr):XK P V none W (.rangeFunc f X a c) S Y .normal S ⟨Z.m.m (Y.d+1) none,Z.d⟩:=by
 let⟨q,h⟩:=h;have i:∀r,r≠Y.d+1->(Z.m.m (Y.d+1) none).l r=Z.m.l r:=λr b=>by rw[ZD,Xd b]
 refine⟨⟨[Y.d],⟨by simp,λr b=>?_⟩,q+1,λn m s u t=>?_⟩,⟨by show Y.d<=Z.d;omega,λr b j=>by show(Z.m.m (Y.d+1) none).l r=_;rw[i r<|by omega];exact kp r b j⟩⟩
 .have b:r=Y.d:=by simpa using b
  subst b;exact⟨Xh _,by show Y.d<Z.d;omega,by show(Z.m.m (Y.d+1) none).l Y.d=_;rw[i _<|by omega];exact l⟩
 .obtain⟨m,rfl⟩:∃k,m=k+1:=⟨m-1,by omega⟩
  simp only[t9,hZ,o,d,e,Xa,h n<|by omega,Bt,p];rfl
def qY {y:Tmp}{i:Nat}{args:Array Az}{ats:Array Ax}{vs:Af}(b:S.l y=some (.chan<|some i))(a:Y8 S args.toList=some vs)(h:FP P V i vs Y v Z):XOp P V (.call ⟨.value<|.tmp y,args,ats⟩) S Y v Z:=
 h.b λn k=>by simp only[xop,ob,a,i7,b,XB,nB];exact k
