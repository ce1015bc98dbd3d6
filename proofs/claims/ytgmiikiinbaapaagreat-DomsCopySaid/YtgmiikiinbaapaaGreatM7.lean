/- DomsCopy: the law's condition holds.
  Conditions: none. -/
import Derived.Test.YtgmiikiinbaapaaGreatM6
set_option linter.all false
noncomputable section
namespace Go.D
open Go Go.Xe Go.Sx
section
variable {A B L N S S2 S' S3 N' F H F2:Sx.Rows}{k i g fr lv fr' lv' fr2 lv2:Int}{r s:Ar}{D D2:DM}{K K2 c:Nat}{cs ds bs:Ak}{T:List RS}{G G':Nat->Nat}
def RN.row_inj {a b:RN}(h:a.row=b.row):a=b:=by cases a;cases b;simp[RN.row]at h;simp[h]
def RlC.keep (h:RlC D S N fr lv cs)(h2:RlC D2 S2 N' fr2 lv2 ds)(hk:∀j:Nat,j<S.length->cB S j 1=true-> ∀k:Nat,cI S j 3=k->k<N.length->N'[k]? =N[k]?):RlC D S N' fr lv cs:=by
 obtain⟨⟨T,M,rfl,rfl,a⟩,hc⟩:=h;obtain⟨⟨_,b,_,rfl,_⟩,_⟩:=h2;refine⟨⟨T,b,rfl,rfl,a.len,fun i s hs=>?_,a.inj,a.free,a.nodup,a.all,a.lv⟩,hc⟩;obtain⟨r,h1,h2,h3,h4⟩:=a.row i s hs;refine⟨r,h1,h2,h3,fun f=>?_⟩;obtain⟨l,d⟩:=h4 f;refine⟨l,?_⟩;have hi:=(QD.1 h1).1;have hr:T[((i:Nat):Int).toNat]? =some r:=by rw[Rs];exact h1
 have:=hk i (by rw[QT];exact hi) (by simp only[cB];rw[c9 hr];show r.u=true;rw[h3];exact f) r.p.toNat (by simp only[cI];rw[c9 hr];show r.p=_;omega) (by rw[QT];exact(QD.1 d).1);rw[RB,RB,d]at this;cases e:b[r.p.toNat]? with
 |none=>rw[e]at this;cases this
 |some x=>rw[e]at this;simp only[Rw,QA]at this;rw[RN.row_inj this]
def Dj (S S2:Sx.Rows):Prop:=∀i j:Nat,i<S.length->j<S2.length->cB S i 1=true->cB S2 j 1=true->cI S i 3≠cI S2 j 3
def RlC.ptr (h:RlC D S N fr lv cs){j:Nat}(hj:j<S.length)(a:cB S j 1=true):0<=cI S j 3/\cI S j 3<N.length:=by
 obtain⟨⟨T,M,rfl,rfl,b⟩,hc⟩:=h;rw[QT]at hj;have hr:T[((j:Nat):Int).toNat]? =some T[j]:=by rw[Rs];exact QL hj
 simp only[cB,cI]at a⊢;rw[c9 hr]at a⊢;obtain⟨s,l,m,d,e⟩:=b.back (QL hj);obtain⟨n,f⟩:=e (by rw[<-d];exact a);have:=(QD.1 f).1;rw[QT];show 0<=(T[j]).p/\(T[j]).p<_;omega
def BI.keep (h:BI K L F bs H S fr lv cs N)(h2:RlC D2 S3 N' fr2 lv2 ds)(l:Dj S2 S)(hf:Fr S2 N S3 N'):BI K L F bs H S fr lv cs N'/\Dj S3 S:=by obtain⟨D,t,m,u⟩:=h;refine⟨⟨D,t,m.keep h2 fun j hj o k hk hl=>hf.2.1 k hl fun a d f e=>l a j d hj f o (by omega),u⟩,fun a b d hb f n e=>?_⟩;rcases hf.2.2 a d f with⟨j,p,q,v⟩|hn;exact l j b p hb q n (by omega);have:=(m.ptr hb n).2;omega
def Dj.symm (h:Dj S S2):Dj S2 S:=fun i j hi hj a b e=>h j i hj hi b a e.symm
def vcCpy_ok :vcCpy:=by
 unfold vcCpy;intro l m n N h;obtain⟨rfl,hl,hm,hn⟩:=h;refine ndi trivial fun L F b0 b1 b2 b3 b4 b5 b6 b7 H S fr lv c0 c1 c2 c3 c4 c5 c6 c7 st hw=>?_;obtain⟨rfl,rfl,rfl,rfl,rfl,rfl,hb,hc⟩:=hw;refine nin<|nrn<|nin<|nrn<|ndi ⟨hl,by omega,by omega,by rw[hb,hc];exact bi0⟩ fun r L F b0 b1 b2 b3 b4 b5 b6 b7 H S fr lv c0 c1 c2 c3 c4 c5 c6 c7 st N hr=>?_;obtain⟨r1,_,hB⟩:=hr;have hB:BI 30 L F [b0,b1,b2,b3,b4,b5,b6,b7] H S fr lv [c0,c1,c2,c3,c4,c5,c6,c7] N:=hB;obtain⟨D,hR,hP,w,hH,lH⟩:=hB;refine⟨fun h=>by omega,fun _=>nin<|nrn<|ndi ⟨D,_,hP,w⟩ fun S' fr' lv' x0 x1 x2 x3 x4 x5 x6 x7 ax N' Sq al av d0 d1 d2 d3 d4 d5 d6 d7 ba hd=>?_⟩;obtain⟨rfl,rfl,rfl,hx,hN,hF,hq⟩:=hd;simp only[RW,Sa]at hx;obtain⟨rfl,rfl,rfl,rfl,rfl,rfl,rfl,rfl⟩:=hx;have hq:=hq D _ hP w;have x:RlC D S' N' fr' lv' [x0,x1,x2,x3,x4,x5,x6,x7]:=hP.keep hq fun j _ _ k _ hk=>by obtain⟨X,rfl⟩:=hN;exact QJ hk
 have dj:Dj S' Sq:=fun i j hi hj ui uj e=>by have:=(hP.ptr hi ui).2;have:=hF j hj uj;omega
 refine ndi ⟨D,_,hR,w⟩ fun Lq Fq e0 e1 e2 e3 e4 e5 e6 e7 hc=>?_;obtain⟨rfl,rfl,rfl,rfl,rfl,rfl,rfl,rfl,rfl,rfl⟩:=hc;refine nin<|nrn<|ndi (by simp only[ln];omega)<|nin<|nrn<|nin<|nrn<|ndi ⟨D,D,_,_,x,hq,w,w⟩ fun b hb=>⟨fun _=>?_,fun h=>absurd ((hb D D _ _ x hq w w).2 ⟨rfl,rfl,rfl⟩) h⟩
 have ad:BI 30 Lq Fq [e0,e1,e2,e3,e4,e5,e6,e7] H Sq al av [d0,d1,d2,d3,d4,d5,d6,d7] N':=⟨D,hR,hq,w,hH,lH⟩
 have v:BI 30 Lq Fq [e0,e1,e2,e3,e4,e5,e6,e7] H S' fr' lv' [x0,x1,x2,x3,x4,x5,x6,x7] N':=⟨D,hR,x,w,hH,lH⟩
 refine nin<|nrn<|nin<|nrn<|nin<|nrn<|ndi ⟨_,ad⟩ fun r hr=>⟨fun h=>by have hr:r=1:=hr;omega,fun _=>?_⟩
 refine nin<|nrn<|nin<|nrn<|nin<|nrn<|ndi ⟨hm,by omega,by omega,ad.mono (by unfold kb;simp) (by unfold kb;simp)⟩ fun r L2 F2 y E J O Q U W Z H2 S2 fr2 lv2 d0 d1 d2 d3 d4 d5 d6 d7 ay N2 hr=>?_;obtain⟨rfl,ap,f⟩:=hr;have f:BI 60 L2 F2 [y,E,J,O,Q,U,W,Z] H2 S2 fr2 lv2 [d0,d1,d2,d3,d4,d5,d6,d7] N2:=f;obtain⟨D2,ao,ae,w2,an⟩:=f;obtain⟨v,dj⟩:=v.keep ae dj.symm ap;refine⟨fun h=>by omega,fun _=>nin<|nrn<|nin<|nrn<|ndi ⟨hn,by omega,by omega,v.mono (by unfold kb;simp) (by unfold kb;simp)⟩ fun r L3 F3 z I M P R V Y aa H3 S3 ak au x0 x1 x2 x3 x4 x5 x6 x7 az N3 hr=>?_⟩;obtain⟨rfl,aq,ab⟩:=hr;have ac:BI 60 L3 F3 [z,I,M,P,R,V,Y,aa] H3 S3 ak au [x0,x1,x2,x3,x4,x5,x6,x7] N3:=ab;obtain⟨D3,ah,t,w3,aw⟩:=ab;have f:BI 60 L2 F2 [y,E,J,O,Q,U,W,Z] H2 S2 fr2 lv2 [d0,d1,d2,d3,d4,d5,d6,d7] N2:=⟨D2,ao,ae,w2,an⟩
 obtain⟨f,_⟩:=f.keep t dj.symm aq;obtain⟨D2',u,d,o,hh⟩:=f;refine⟨fun h=>by omega,fun _=>nin<|nrn<|nin<|nrn<|ndi ⟨_,ac⟩ fun r hr=>⟨fun h=>by have hr:r=1:=hr;omega,fun _=>?_⟩⟩;refine nin<|nrn<|nin<|nrn<|ndi ⟨_,D2',u,d,o,hh⟩ fun r hr=>⟨fun h=>by have hr:r=1:=hr;omega,fun _=>?_⟩
 refine ndi ⟨⟨D3,_,ah,w3⟩,D2',_,u,o⟩ fun q ar=>?_;have rI:∀ {l m:Ah},l.map l9=m.map l9↔l=m:=List.map_inj_right fun a b e=>by unfold l9 at e;simp at e;omega
 have ai:(q=1)↔(D3.L.map Sl.row=D2'.L.map Sl.row/\D3.free=D2'.free/\D3.C=D2'.C):=by obtain⟨a1,a2,a3⟩:=ah;obtain⟨b1,b2,b3⟩:=u;have:q=1↔L3=L2/\F3=F2/\_:=ar;rw[this,a1,a2,a3,b1,b2,b3,rI]
 have aj:(q=1)↔(D2'.L.map Sl.row=D3.L.map Sl.row/\D2'.free=D3.free/\D2'.C=D3.C):=ai.trans ⟨fun h=>⟨h.1.symm,h.2.1.symm,h.2.2.symm⟩,fun h=>⟨h.1.symm,h.2.1.symm,h.2.2.symm⟩⟩;have beq:∀ {b:Bool} {p:Prop},(b=true↔p)->(q=1↔p)->(b==decide (q=1))=true:=fun{b p} h1 h2=>by rw[beq_iff_eq,Bool.eq_iff_iff,QV,h1,h2]
 refine nin<|nrn<|nin<|nrn<|ndi ⟨D3,D2',_,_,t,d,w3,o⟩ fun b hb=>⟨fun _=>?_,fun h=>absurd (beq (hb D3 D2' _ _ t d w3 o) ai) h⟩
 refine nin<|nrn<|nin<|nrn<|ndi ⟨D2',D3,_,_,d,t,o,w3⟩ fun b hb=>⟨fun _=>ndi rfl fun b hb=>ndt ?_,fun h=>absurd (beq (hb D2' D3 _ _ d t o w3) aj) h⟩
 have hb: [Dat.bool b]=[Dat.bool true]:=hb;simp only[RW,Dat.bool.injEq,Sa]at hb;exact hb
