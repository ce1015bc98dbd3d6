/- The symbolic engine: Delete and Insert, parts 41, 42, 43, 44, 45, 48, 49.
  Conditions: none. -/
import Derived.Test.YtgmiikiinbaapaaGreatXm4
set_option linter.all false
noncomputable section
namespace Go.Sx
open Go.Xe
section
variable {P :Aw}{U:Ab}{τ:Tau}{F:Ac}{s:SS}{hp:Hp}
theorem SD.move2 (hs:SD P U τ F s hp){b i o a N O:Nat}{x Q x':A9}(hb:s.get b=some x)(ht:τ b=some (some (i,o)))(u:s.get a=some Q)(B:τ a=some (some (N,O)))(_:a≠b){hp':Hp}(hn:hp.nx<=hp'.nx)(hk:∀j,j<hp.nx->j≠i->j≠N->hp'.m.get j=hp.m.get j){j q:Nat}(hj:j=i\/hp.nx<=j)(H:j<hp'.nx){y:Blk}(hi:hp'.m.get j=some y)(Y:BD P U (put τ s.nx (some (j,q))) F q x' y):Ext τ F s hp (put τ s.nx (some (j,q))) F (dW ((s.set b none).set a none) x') hp'/\SD P U (put τ s.nx (some (j,q))) F (dW ((s.set b none).set a none) x') hp':=by
 have h0:τ s.nx=none:=hs.new _ (PH _);have A:=aF (some (j,q)) h0;have fz:∀ {b i o x},s.get b=some x->τ b=some (some (i,o))->F i=none:=by intro b i o x hb ht;rcases hs.live b x hb with⟨i',o',R,h1,_,h3,_⟩| ⟨h1,_⟩;grind;grind
 have T:=fz hb ht;have V:=fz u B;have W:F j=none:=by
  rcases hj with rfl|hj;exact T
  ·cases hF:F j with
   |none=>rfl|some w=>exact absurd (hs.flt j w hF) (by omega)
 have X:∀c,(dW ((s.set b none).set a none) x').get c=if c=s.nx then some x' else if c=a then none else if c=b then none else s.get c:=by intro c;rw[fO,RP,RP];rfl
 refine⟨⟨A,Rx F,hn,by simp[dW,SS.set],fun c hc=>B0 τ _ (by omega),fun c y hc hlt=>?_,⟨[(s.nx,some x'),(a,none),(b,none)],rfl,fun k t Z=>hk k t (by grind) (by grind),fun c k r hc h=>?_,fun _ _ _ h=>.inl h,fun _ _ _ h=>h⟩,⟨[],rfl⟩,⟨[(s.nx,some x'),(a,none),(b,none)],rfl,fun d c e z j' q' cs n p hq H hg hl=>⟨cs,by
  have n1:d≠b:=fun h=>by subst h;obtain⟨_,q,_⟩:=hl none (by simp);cases q
  have n2:d≠a:=fun h=>by subst h;obtain⟨_,q,_⟩:=hl none (by simp);cases q
  rw[hk j' H (hs.inj d b _ x j' q' i o p hb n1 hq ht) (hs.inj d a _ Q j' q' N O p u n2 hq B)];exact hg,fun _ _=>rfl⟩⟩⟩,?_⟩
 grind;by_cases e:c=s.nx;subst e;rw[u5]at h;grind;rw[B0 τ _ e,hs.new c hc]at h;cases h
 ·have inv:∀c z,(dW ((s.set b none).set a none) x').get c=some z->c≠s.nx->c≠b/\c≠a/\s.get c=some z:=by grind
  have apart:∀c z k r,c≠b->s.get c=some z->τ c=some (some (k,r))->k≠j:=by intro c z k r e hc h E;subst E;rcases hj with rfl|hj;exact hs.inj c b z x _ r _ o hc hb e h ht rfl;have:=hs.lt c _ r h;omega
  refine⟨fun c z hc=>?_,fun c d y z k r k' r' hc p I K J=>?_,fun k y t=>?_,fun c k r h=>?_,fun k y h=>Qp (hs.flt k y h) hn,fun c hc=>?_,hs.fc,fun r hr=>(hs.fz r hr).mono A (Rx F)⟩;by_cases e:c=s.nx;subst e;rw[X,PG rfl,Pj]at hc;subst hc;exact .inl ⟨j,q,y,u5 _ _ _,hi,W,Y⟩;obtain⟨e',L,f⟩:=inv c z hc e;rcases hs.live c z f with⟨k,r,R,h1,h2,h3,h4⟩| ⟨h1,h2⟩;refine .inl ⟨k,r,R,by rw[B0 τ _ e];exact h1,?_,h3,h4.mono A (Rx F)⟩;rw[hk k (hs.lt c k r h1) ?_ ?_];exact h2;intro E;subst E;exact hs.inj c b z x _ r _ o f hb e' h1 ht rfl;intro E;subst E;exact hs.inj c a z Q _ r _ O f u L h1 B rfl;exact .inr ⟨by rw[B0 τ _ e];exact h1,h2⟩;by_cases M:c=s.nx;subst M;have D:d≠s.nx:=fun h=>I h.symm;rw[u5]at K;rw[B0 τ _ D]at J;grind;obtain⟨e',_,f⟩:=inv c y hc M;rw[B0 τ _ M]at K;by_cases D:d=s.nx;subst D;rw[u5]at J;grind;obtain⟨S,_,G⟩:=inv d z p D;rw[B0 τ _ D]at J;exact hs.inj c d y z k r k' r' f G I K J;rw[hk k (hs.flt k y t) (by grind) (by grind)];exact hs.frz k y t;by_cases e:c=s.nx;subst e;rw[u5]at h;grind;rw[B0 τ _ e]at h;exact Qp (hs.lt c k r h) hn;have:s.nx+1<=c:=hc;rw[B0 τ _ (by omega)];exact hs.new c (by omega)
end
section
variable (P :Aw)(U:Ab)
def sdel (e size:Nat)(args:As):M SV:=match args with
 | [.sl b z off len .ge,.int .i64 a,.int .i64 c]=>b9 (xT P b) fun _=>u4 fun s=>match s.get b with
  | some (.rows L e' z' _) => bif Nat.beq e e' && Nat.beq size z && Nat.beq size z' && Nat.beq size (kf P e).length then
    b9 (j7 U (y4 (y6 (z9 L) (y0 off len)))) fun _=>b9 (j7 U (y4 (y6 a (.int 0)))) fun _=>b9 (j7 U (y6 a c)) fun _=>b9 (j7 U (y4 (y6 len c))) fun _=>
    b9 (U5 U L off a) fun A=>b9 (U5 U L (y0 off c) (L6 len c)) fun B=>smove e size b (.rows (F5 A B)) (y0 a (L6 len c)) .ge
   else a9 "delete: type"
  |_=>a9 "delete: block"
 |_=>a9 "delete: arguments"
def smove2 (e size b b2:Nat)(x:Src)(len:E)(cp:Cp):M SV:=fun s=>.ret (.sl s.nx size (.int 0) len cp,dW ((s.set b none).set b2 none) (x.blk e size))
def isCR :Bb A9->Bool
 |some (.cells _ _ _)=>true|some (.rows _ _ _ _)=>true|_=>false
def HA (e size b:Nat)(off len a:E)(x:SV):M SV:=match x with
 | .sl b2 _ _ _ _=>bif Nat.beq b2 b then a9 "insert: the same block" else b9 (ssrc P U e size x) fun src=>bif src.one then b9 (LB P U e size src) fun Ln=>b9 (xT P b) fun _=>u4 fun s=>match s.get b with
  | some (.rows L e' z' _) => bif Nat.beq e e' && Nat.beq size z' && Nat.beq size (kf P e).length && isCR (s.get b2) && (kf P e).all noRp then
    b9 (j7 U (E4 (z9 Ln) (.int 1))) fun _=>b9 (j7 U (y4 (y6 (z9 L) (y0 off len)))) fun _=>b9 (j7 U (y4 (y6 a (.int 0)))) fun _=>b9 (j7 U (y4 (y6 len a))) fun _=>b9 (j7 U (y6 len (.int 67108864))) fun _=>
    b9 (U5 U L off a) fun A=>b9 (U5 U L (y0 off a) (L6 len a)) fun B=>smove2 e size b b2 (.rows (F5 (F5 A Ln) B)) (y0 len (.int 1)) .ge
   else a9 "insert: type"
  |_=>a9 "insert: block"
  else a9 "insert: cells"
 |_=>a9 "insert: element"
def sins (e size:Nat)(args:As):M SV:=match args with
 | [.nils,.int .i64 a,x]=>bif Nat.beq size (kf P e).length then b9 (aH (.rows (.op .nil []) e size (.int 0))) fun b=>HA P U e size b (.int 0) (.int 0) a x else a9 "insert: size"
 | [.sl b z off len .ge,.int .i64 a,x]=>bif Nat.beq size z then HA P U e size b off len a x else a9 "insert: size"|_=>a9 "insert: arguments"
end
section
variable {P :Aw}{U:Ab}{ov:Aa}
def GT (n:Nat):(G1 P ov n).ov=ov:=by cases n<;>rfl
variable {C:j8->Prop}{g:Ay}{v:Av}
theorem Ep (b:∀n,C (G1 P ov n))(hg:isT (ov g)=false){args:Af}{hp:Hp}{hp':Hp}(h:rJ P C g (bif wkF P g then wkA hp args else args) hp v hp'):qB P ov g args hp v hp':=by
 obtain⟨a,h⟩:=h;refine⟨a+1,fun n hn=>?_⟩;obtain⟨k,rfl⟩:∃k,n=k+1:=⟨n-1,by omega⟩
 show(bif isT (ov g)&&args.isEmpty then some (.bool true,hp)else iN (X3 P (A3 P) (G1 P ov k) (X4 P (A3 P) (G1 P ov k) k) k g) (bif wkF P g then wkA hp args else args) hp)=_;grind
def HK {hp:Hp}{a:Addr}{l lo:Nat}{xs:Af}:wkA hp (.slice (some a) l (d8 lo 0)::xs)= .slice (some a) l (d8 lo 0)::xs:=by
 obtain⟨i,o,e⟩:=a;have:Nat.ble (d8 lo 0) 67108864=false:=Y2 (by have:=u9 lo 0;unfold unk at this;omega);cases e with
 |none=>simp only[wkA,this,PC]|some e=>rfl
def HN (b:∀n,C (G1 P ov n))(hg:isT (ov g)=false){a:Addr}{l lo:Nat}{args:Af}{hp:Hp}{hp':Hp}(h:rJ P C g (.slice (some a) l (d8 lo 0)::args) hp v hp'):qB P ov g (.slice (some a) l (d8 lo 0)::args) hp v hp':=
 Ep b hg (by rw[HK,Bool.cond_self];exact h)
variable {τ :Tau}{F:Ac}{s:SS}{hp:Hp}
def Ia {c:Ao}{o n:Nat}{a b:Af}(h:v5 c o n=some a)(k:v5 c o n=some b):a=b:=PK (h.symm.trans k)
def cG {e z o n:Nat}{cs:Ao}{rows:Rows}(hr:A0 P F e z o n cs rows){off len a m:Int}(h0:0<=off)(h:0<=a)(hm:0<=m)(d:a+m<=len)(h2:off+len<=rows.length){L:E}(hL:L.toR U=pQ rows (off+a) m){b:Af}(hl:v5 cs (o+off.toNat*z) (len.toNat*z)=some b):q0 P U τ F e z (.rows L) ((b.drop (a.toNat*z)).take (m.toNat*z)):=by obtain⟨vs,f,_,i,_⟩:=G0 hr (by omega) hm (by omega) hL;have h3:=aW hl (a:=a.toNat*z) (m:=m.toNat*z) (by rw[<-PY];exact Px _ (by omega));rw[show o+off.toNat*z+a.toNat*z=o+(off+a).toNat*z by rw[Qv,<-PY];congr 2;omega]at h3;rwa[Ia h3 f]
theorem FK {ρ:Go.Shelf.Ren}{e:Ax}{ie:Ba}{zv:Av}(D:GC P g ρ e ie zv)(hg:isT (ov g)=false):B9 P U ov (sdel P U e ie.size) g:=by
 intro l args τ F s hp hl hs;unfold sdel;split
 ·rename_i b z off len a c;obtain⟨y1,aj,rfl,v1,hl⟩:=hl.uncons;obtain⟨y2,ak,rfl,v2,hl⟩:=hl.uncons;obtain⟨y3,M,rfl,v3,hl⟩:=hl.uncons;have:M=[]:=Pr hl.1.symm;subst this;cases v2;cases v3;refine(eS hs).bind fun _ τ1 F1 s1 hp1 ex hs1 ⟨W,e2,X⟩=>RD ?_;subst W;subst X;split
  ·rename_i L e' T ph hb;cases hq:Nat.beq e e'&&Nat.beq ie.size z&&Nat.beq ie.size T&&Nat.beq ie.size (kf P e).length with
   |false=>exact RC|true=>
    simp only[PB];simp only[Pk,Qc]at hq;obtain⟨⟨⟨rfl,hz⟩,G⟩,aa⟩:=hq;refine RA RH fun _ s2 o2 ac p1=>RA RH fun _ s3 o3 ad p2=>RA RH fun _ s4 o4 ae R=>RA RH fun _ s5 o5 ah S=>RA B3 fun A s6 o6 ai hA=>RA B3 fun B s7 o7 h N=>?_;have p1:=z5 p1;have p2:=U9 p2;have R:=B6 R;have S:=z5 S;rw[j5,i9]at p1;rw[j5,v7]at N;have m:s7.get b=some (.rows L e T ph):=by rw[o7.get,o6.get,o5.get,o4.get,o3.get,o2.get];exact hb
    have u:A.toR U=pQ (L.toR U) (off.toI U) (a.toI U):=by show(A.den U).rows=_;rw[hA];rfl
    have x:B.toR U=pQ (L.toR U) (off.toI U+c.toI U) (len.toI U-c.toI U):=by show(B.den U).rows=_;rw[N];rfl
    cases v1 with
    |sl0 _ _ _ _ _ d h0 h1 hc=>omega|sl _ _ _ _ _ i o cc d h0 h1 hc=>
    obtain⟨lo,rfl,V,c2⟩:=hc;rcases h.live b _ m with⟨i',o',y,k1,k2,kF,cs,k,rfl,H,k5⟩| ⟨k1,_⟩
    ·rw[d]at k1;obtain⟨rfl,rfl⟩:=k1;subst hz;subst G;obtain⟨t,K,w2,w3,w4⟩:=G0 (τ:=τ1) (L:= .op .part [L,off,len]) H h0 h1 p1 rfl;have n:t.all Value.oneCell'=true:=w3.ones rfl;have Y:a.toI U=((a.toN U:Nat):Int):=by grind
     have Z:c.toI U=((c.toN U:Nat):Int):=by grind
     have el:len.toI U=((len.toN U:Nat):Int):=by grind
     obtain⟨v,hp',r1,⟨⟨bb,q,I,ct,kk,rfl,n2,n3,n4,n5,n6,O⟩,J,Q⟩⟩:=IV (C:=fun _=>True) D (a:=a.toN U) (b:=c.toN U) (Nat.max_le.2 ⟨V,by omega⟩) (by omega) (by omega) (h.lt b i o d) k2 w2 K n;have p:=HN (fun _=>trivial) hg r1;rw[<-Y,<-Z]at p;have f:(y0 a (L6 len c)).toI U=((a.toN U+(len.toN U-c.toN U):Nat):Int):=by rw[j5,v7];omega
     have j:=(t8 O).1;refine(OKh.smove (cp:= .ge) (q:=q) m d J (by grind) n3 n4 n5 (fun τ' r=>?_) f ⟨I,rfl,n2,by omega⟩ h).mono fun w τ' F' ab _ _ ⟨q1,q2⟩=>(by grind)
     refine kH ?_ (fun y v hy=>?_) (by rw[j];exact n6);refine q0.mono r (Rx _) (q0.app ?_ ?_);have:=cG (τ:=τ1) H h0 (Qz 0) (by omega) (show 0+a.toI U<=len.toI U by omega) p1 (by rw[u];congr 1;omega) K;grind;have:=cG (τ:=τ1) H h0 (by omega) (by omega) (by omega) p1 x K;rw[Ql (by rw[Qo,w4,<-Nat.sub_mul];exact Px _ (by omega))]at this;exact this
     ·have E:y<(a.toN U+(len.toN U-c.toN U))*ie.size:=by rw[<-j];exact(Po.1 hy).1
      rw[<-(t8 O).2 y E];exact hy
    grind
  exact RC
 exact RC
end
section
variable {P :Aw}{U:Ab}{ov:Aa}{τ:Tau}{F:Ac}{s:SS}{hp:Hp}
def OKh.smove2 {e size b i o f u z j q n c:Nat}{x A:A9}{x':Src}{len:E}{cp:Cp}(hb:s.get b=some x)(ht:τ b=some (some (i,o)))(h:s.get f=some A)(t:τ f=some (some (u,z)))(p:f≠b){hp1:Hp}(hn:hp.nx<=hp1.nx)(hk:∀k,k<hp.nx->k≠i->k≠u->hp1.m.get k=hp.m.get k)(hj:j=i\/hp.nx<=j)(r:j<hp1.nx){y:Blk}(hi:hp1.m.get j=some y)(w:∀τ',Tle τ τ'->BD P U τ' F q (x'.blk e size) y)(d:len.toI U=n)(hc:kR U len cp c)(hs:SD P U τ F s hp):OKh P U (smove2 e size b f x' len cp) τ F s hp fun a τ' F' hp'=>hp'=hp1/\VD P U τ' F' a (.slice (some ⟨j,q,none⟩) n c):=by intro Q hq _;have h0:=hs.new _ (PH _);obtain⟨h1,h2⟩:=hs.move2 hb ht h t p hn hk hj r hi (w _ (aF _ h0));exact⟨_,_,hq,_,F,hp1,h1,h2,rfl,Sf (u5 _ _ _) (Qz 0) (by omega) hc (by show q=q+(0:Int).toNat*size;simp) (oL d).symm⟩
theorem CK {s:SS}{b:Nat}(h:isCR (s.get b)=true):(∃l e z,s.get b=some (.cells l e z))\/ ∃L e z ph,s.get b=some (.rows L e z ph):=by unfold isCR at h;grind
theorem vP {hp:Hp}{size n m c:Nat}{a:Aq}{vs:Af}(h:z7 hp size (.slice a n c)=some (m,vs)):m=n:=by
 unfold z7 at h;split at h
 ·rename_i n' _ hh;cases hb:Nat.beq n 0 with
  |false=>grind|true=>simp_all
 grind;grind;cases h
variable {g:Ay}{ρ:Go.Shelf.Ren}{zv:Av}
theorem Dy {e:Ax}{ie:Ba}(D:hZ P g ρ e ie zv)(hg:isT (ov g)=false)(ah:ov (ρ.f 27)=some (ρ.t 22)){b:Nat}{off len a:E}{x:SV}{v1 v3:Av}(h1:VD P U τ F (.sl b ie.size off len .ge) v1)(h3:VD P U τ F x v3)(hs:SD P U τ F s hp):OKh P U (HA P U e ie.size b off len a x) τ F s hp fun w τ' F' hp'=>∃v,qB P ov g [v1,.int .i64 (a.toI U),v3] hp v hp'/\VD P U τ' F' w v:=by
 unfold HA;split
 ·rename_i J z2 an aj bj;cases M:Nat.beq J b with
  |true=>exact RC|false=>
  have M:J≠b:=fun h=>by rw[h,w9 rfl]at M;cases M
  simp only[PC];refine RA (HF D.sz h3 hs) fun src s1 o1 hs1 ⟨n,news,x1,x2,x3,x4⟩=>?_;cases ae:src.one with
  |false=>exact RC|true=>
  simp only[PB];have ay:=x2.ones ae;refine(Br x2 hs1).bind fun Ln τ1 F1 s2 hp1 ex ba ⟨e1,e2,H⟩=>?_;subst e1;subst e2;refine(eS ba).bind fun _ τ2 F2 s3 d bl bp ⟨e1,e2,e3⟩=>RD ?_;subst e1;subst e2;subst e3;have h1:=h1.mono (Sb τ2) ex.f;have h3:=h3.mono (Sb τ2) ex.f;split
  ·rename_i L e' z' ph hb;cases hq:Nat.beq e e'&&Nat.beq ie.size z'&&Nat.beq ie.size (kf P e).length&&isCR (s3.get J)&&(kf P e).all noRp with
   |false=>exact RC|true=>
    simp only[PB];simp only[Pk,Qc]at hq;obtain⟨⟨⟨⟨rfl,bh⟩,aw⟩,ad⟩,X⟩:=hq;refine RA RH fun _ s4 o4 bq p0=>RA RH fun _ s5 o5 bt p1=>RA RH fun _ s6 o6 bu p2=>RA RH fun _ s7 o7 bv p3=>RA RH fun _ s8 o8 bw p4=>
     RA B3 fun A s9 o9 bx hA=>RA B3 fun B sA oA u hB=>?_
    have p0:(z9 Ln).toI U=1:=by have:=(Ru U _).1 p0;rw[E0]at this;exact QN this
    have p1:=z5 p1;have p2:=U9 p2;have p3:=z5 p3;have p4:=B6 p4;simp only[A8]at p4;rw[j5,i9]at p1;rw[i9]at p0;rw[j5,v7]at hB;have W:∀c,sA.get c=s3.get c:=fun c=>by rw[oA.get,o9.get,o8.get,o7.get,o6.get,o5.get,o4.get]
    have S:sA.get b=some (.rows L e z' ph):=by grind
    have H:=H aw;have bk:=kT D.sz H x3;have hn:n=1:=by omega
    subst hn;have az:news.length=ie.size:=by grind
    have ab:A.toR U=pQ (L.toR U) (off.toI U) (a.toI U):=by show(A.den U).rows=_;rw[hA];rfl
    have aq:B.toR U=pQ (L.toR U) (off.toI U+a.toI U) (len.toI U-a.toI U):=by show(B.den U).rows=_;rw[hB];rfl
    have ea:a.toI U=((a.toN U:Nat):Int):=by grind
    have N:∀m:Nat,len.toI U=(m:Int)->(y0 len (.int 1)).toI U=((m+1:Nat):Int):=fun m hm=>by rw[j5,A8,hm];rfl
    cases h3 with
    |sl0 _ _ _ _ _ G _ _ _=>exact absurd (vP x1) (by omega)|sl _ _ _ _ _ j oj cm G g0 g1 gc=>
    have ax:=vP x1;have aa:∃q,(Value.slice (some ⟨j,oj+an.toN U*z2,none⟩) (aj.toN U) cm)= .slice (some ⟨j,q,none⟩) 1 cm:=⟨_,by rw[<-ax]⟩
    obtain⟨q,aa⟩:=aa;rw[aa]at x1⊢;have r:∃xx,sA.get J=some xx:=by rw[W];rcases CK ad with⟨_,_,_,h⟩| ⟨_,_,_,_,h⟩<;>exact⟨_,h⟩
    obtain⟨xx,r⟩:=r;have av:∃cj kj ej zj,d.m.get j=some (.cells cj kj ej zj):=by rcases u.live J _ r with⟨i',o',y,k1,k2,_,k4⟩| ⟨k1,_⟩;rw[G]at k1;simp only[Pj,Pn]at k1;obtain⟨rfl,rfl⟩:=k1;have:sA.get J=s3.get J:=W J;rcases CK ad with⟨l,ee,zz,h⟩| ⟨L',ee,zz,pp,h⟩;rw[this,h,Pj]at r;subst r;obtain⟨cs,nn,rfl,_⟩:=k4;grind;rw[this,h,Pj]at r;subst r;obtain⟨cs,nn,rfl,_⟩:=k4;grind;grind
    obtain⟨cj,kj,ej,zj,ar⟩:=av;cases h1 with
    |sl0 _ _ _ _ _ O h0 Y hc=>
     rcases u.live b _ S with⟨i',o',y,k1,_⟩| ⟨k1,L',e2,z2,bz,k2,k3,k4,k5⟩;grind
     ·simp only[A9.rows.injEq]at k2;obtain⟨rfl,rfl,rfl,rfl⟩:=k2;have bm:a.toI U=0:=by omega
      obtain⟨v,hp',r1,rfl,rfl⟩:=Mc (hp:=d) (C:=COv ρ) D x1;have z:=Ep (P:=P) (ov:=ov) (C:=COv ρ) (args:=[.slice none 0 0,.int .i64 ((0:Nat):Int),.slice (some ⟨j,q,none⟩) 1 cm]) (fun k=>by unfold COv;rw[GT];exact ah) hg (by cases wkF P g<;>exact r1);have z:qB P ov g [.slice none 0 0,.int .i64 (a.toI U),.slice (some ⟨j,q,none⟩) 1 cm] d (.slice (some ⟨d.nx,0,none⟩) 1 (d8 1 0)) (d.new news e ie.size):=by grind
      have ao:A.toR U=[]:=by rw[ab,k3];simp[pQ]
      have ap:B.toR U=[]:=by grind
      have K:(F5 (F5 A Ln) B).toR U=Ln.toR U:=by rw[L2,L2,ao,ap];simp
      have V:q0 P U τ2 F2 e ie.size (.rows (F5 (F5 A Ln) B)) news:=by obtain⟨c1,c2,c3,c4⟩:=H;exact⟨c1,by rw[K];exact c2,by rw[K];exact c3,by rw[K];exact c4⟩
      intro Q hq _;obtain⟨d1,d2⟩:=u.drop b;obtain⟨d3,d4⟩:=d2.drop J;have I:(y0 len (.int 1)).toI U=((1:Nat):Int):=N 0 Y;obtain⟨f1,f2⟩:=d4.alloc (x:=(Src.rows (F5 (F5 A Ln) B)).blk e ie.size) (p:=some (d.nx,0)) (hp':=d.new news e ie.size) (QJ _) (fun x hx=>by show(d.m.set _ _).get x=_;rw[Sa,PE (by omega)])
       (.inl ⟨d.nx,0,_,rfl,PH _,Qw _,by show(d.m.set _ _).get _=_;rw[Sa,PG rfl],kH (V.mono (aF _ (u.new _ (PH _))) (Rx _)) (fun y v hy=>by rw[PQ];exact K0 news y v hy) (by omega)⟩)
      refine⟨_,_,hq,_,F2,_,(d1.trans d3).trans f1,f2,_,z,?_⟩;exact Sf (u5 _ _ _) (Qz 0) (by rw[I];omega) (geN I (by omega)) (Eu ie.size).symm (oL I).symm
    |sl _ _ _ _ _ i o cc O h0 Y hc=>
     obtain⟨lo,rfl,c1,c2⟩:=hc;rcases u.live b _ S with⟨i',o',y,k1,k2,kF,cs,k,rfl,k4,k5⟩| ⟨k1,_⟩
     ·rw[O]at k1;simp only[Pj,Pn]at k1;obtain⟨rfl,rfl⟩:=k1;subst bh;have au:j≠i:=u.inj J b _ _ j oj i o r S M G O;obtain⟨R,w1,w2,w3,w4⟩:=G0 (τ:=τ2) (off:=off.toI U) (len:=len.toI U) (L:= .op .part [L,off,len]) k4 h0 Y p1 rfl;have Z:R.all Value.oneCell'=true:=w3.ones rfl;have el:len.toI U=((len.toN U:Nat):Int):=by grind
      obtain⟨v,hp',r1,⟨⟨bb,q',ak,ct,kk,rfl,n2,n3,n4,n5,n6,n7⟩,bi,al⟩⟩:=Ja (hp:=d) D (i:=i) (o:=o+off.toN U*ie.size) (n:=len.toN U) (lo:=lo) (at_:=a.toN U) (Nat.max_le.2 ⟨c1,by omega⟩) (by omega) (by omega) au (u.lt b i o O) (u.lt J j oj G) k2 ar w2 w1 x1 az Z ay (w3.noR X) (H.noR X);have z:=HN (ov:=ov) (fun k=>by unfold COv;rw[GT];exact ah) hg r1;rw[<-ea]at z;have I:=N _ el;have ac:=(t8 n7).1;refine(OKh.smove2 (x':= .rows (F5 (F5 A Ln) B)) (cp:= .ge) (hp1:=hp') (j:=bb) (q:=q') (n:=len.toN U+1) (c:=d8 ak 0) S O r G M bi (fun x hx bc be=>al x hx bc be) n3 n4 n5 (fun τ' ai=>?_) I ⟨ak,rfl,n2,by rw[I];omega⟩ u).mono fun w τ' F' bn _ _ ⟨q1,q2⟩=>⟨_,by rw[q1];exact z,q2⟩
      refine kH (vs:=R.take (a.toN U*ie.size)++news++R.drop (a.toN U*ie.size)) ?_ (fun y v hy=>?_) (by rw[ac];exact n6);refine q0.mono ai (Rx _) (q0.app (q0.app ?_ H) ?_);have:=cG (τ:=τ2) k4 h0 (Qz 0) (show 0<=a.toI U by omega) (show 0+a.toI U<=len.toI U by omega) p1 (L:=A) (by rw[ab];congr 1;omega) w1;grind;have:=cG (τ:=τ2) k4 h0 (show 0<=a.toI U by omega) (show 0<=len.toI U-a.toI U by omega) (show a.toI U+(len.toI U-a.toI U)<=len.toI U by omega) p1 (L:=B) aq w1;rw[Ql (by rw[Qo,w4,<-Nat.sub_mul];exact Px _ (by omega))]at this;exact this
      ·have bg:y<(len.toN U+1)*ie.size:=by rw[<-ac];exact(Po.1 hy).1
       rw[<-(t8 n7).2 y bg];exact hy
     grind
  exact RC
 exact RC
theorem FQ {e:Ax}{ie:Ba}(D:hZ P g ρ e ie zv)(hg:isT (ov g)=false)(d:ov (ρ.f 27)=some (ρ.t 22)):B9 P U ov (sins P U e ie.size) g:=by
 intro l args τ F s hp hl hs;unfold sins;split
 ·rename_i a x;obtain⟨u,k,rfl,h,hl⟩:=hl.uncons;obtain⟨y,m,rfl,i,hl⟩:=hl.uncons;obtain⟨A,n,rfl,j,hl⟩:=hl.uncons;have:=Pr hl.1.symm;subst this;cases i;cases h;cases hk:Nat.beq ie.size (kf P e).length with
  |false=>exact RC|true=>have hk:=Pq hk;intro Q hq _;obtain⟨h1,h2⟩:=hs.alloc (x:= .rows (.op .nil []) e ie.size (.int 0)) (PH _) (fun _ _=>rfl) (.inr ⟨rfl,_,_,_,_,rfl,rfl,hk,Qz 0⟩);have hv:VD P U (put τ s.nx none) F (.sl s.nx ie.size (.int 0) (.int 0) .ge) (.slice none 0 0):= .sl0 s.nx ie.size (.int 0) (.int 0) .ge (u5 _ _ _) rfl rfl (fun e he=>by grind);obtain⟨w,s',o,τ',F',hp',p,q,r⟩:=Dy D hg d hv (j.mono (aF _ (hs.new _ (PH _))) (Rx F)) h2 Q hq h2;exact⟨w,s',o,τ',F',hp',h1.trans p,q,r⟩
 ·rename_i b z off len a x;obtain⟨u,k,rfl,h,hl⟩:=hl.uncons;obtain⟨y,m,rfl,i,hl⟩:=hl.uncons;obtain⟨A,n,rfl,j,hl⟩:=hl.uncons;have:=Pr hl.1.symm;subst this;cases i;cases hk:Nat.beq ie.size z with
  |false=>exact RC|true=>have hk:=Pq hk;subst hk;exact Dy D hg d h j hs
 exact RC
end
section
variable {P :Aw}{U:Ab}{ov:Aa}
abbrev E7:=List (Ay×(As->M SV))
variable (P U ov) in
def dS :E7->Prop
 | []=>True|p::xs=>(B9 P U ov p.2 p.1/\isT (ov p.1)=false)/\dS xs
variable (P U) in
def kU (l:List (Ay×Con)):E7->Ay->Bb (As->M SV)
 | [],g=>conP P U l g|p::xs,g=>bif Nat.beq p.1 g then some p.2 else kU l xs g
theorem zJ {l:List (Ay×Con)}(a:R0 P U ov l):∀ {xs:E7},dS P U ov xs-> ∀g k,kU P U l xs g=some k->B9 P U ov k g
 | [],_,g,k,hk=>by
  unfold kU conP at hk;cases h:iF P U l g with
  |none=>grind|some k0=>rw[h]at hk;cases hk;exact KS (Cv a g k0 h)
 |p::xs,hx,g,k,hk=>by
  unfold kU at hk;cases hb:Nat.beq p.1 g with
  |true=>rw[hb,PB,Pj]at hk;rw[<-hk,<-Pq hb];exact hx.1.1|false=>rw[hb,PC]at hk;exact zJ a hx.2 g k hk
theorem nF {l:List (Ay×Con)}:∀ {xs:E7},dS P U ov xs-> ∀g,isT (ov g)=true->kU P U l xs g=none->iF P U l g=none
 | [],_,g,_,hn=>by unfold kU conP at hn;grind|p::xs,hx,g,hg,hn=>by
  unfold kU at hn;cases hb:Nat.beq p.1 g with
  |true=>grind|false=>rw[hb,PC]at hn;exact nF hx.2 g hg hn
variable {l:List (Ay×Con)}{xs:E7}{g:Ay}
def i6 (a:Ay->List (Nat×(Fm->SS->G5)))(d:R0 P U ov l)(hx:dS P U ov xs)(n:Nat){c:Con}{V:Prop}(he:(cvc P U c (sxF P U a (kU P U l xs) n g)).vc U (fun _=>True)=V)(hv:V)(b:∀g,isT (ov g)=true->iF P U l g≠none:=by exact noT)(hg:isT (ov g)=false:=by rfl):j4 P U ov c g:=
 yG (LL a (zJ d hx) (fun g hg hn=>b g hg (nF hx g hg hn)) n g hg) (he.symm▸hv)
def N7 (a:Ay->List (Nat×(Fm->SS->G5)))(e:R0 P U ov l)(hx:dS P U ov xs)(m:Nat){c:Con}(mu:Ar->Nat){V:Nat->Prop}(he:∀n,(cvc P U (c.below mu (n+1)) (sxF P U a (kU P U ((g,c.below mu n)::l) xs) m g)).vc U (fun _=>True)=V n)(hv:∀n,V n)(d:∀n,∀b,isT (ov b)=true->iF P U ((g,c.below mu n)::l) b≠none)(hg:isT (ov g)=false:=by rfl):j4 P U ov c g:=
 FA fun n hn=>i6 a (l:=(g,c.below mu n)::l) ⟨hn,e⟩ hx m (he n) (hv n) (d n) hg
end
open Go.Xe Go.RowKit
section
variable {P :Aw}{U:Ab}{ov:Aa}
def tauR :Tau:=fun b=>if b=0 then some (some (0,0))else none
def MY :Tle (fun _=>none) tauR:=fun b p h=>by cases h
def EP (hm:P.follows .mixedOrders=true)(S:∀g t,ov g=some t->iQ P g t){c:Con}{f:Ay}(hg:j4 P U ov c f)(h2:c.res=[.one (.g .bool)])(J:∀d e,c.rel d e-> ∃r,e= .bool true::r){es:Au}(G:es.length=(l9 c.inL).length)(I:c.pre (u6 U (l9 c.inL) es)){R:E}(D:gst c (E9 U (l9 c.inL) 0 es) (l9 c.inL).length=⟨[(0,some (.reg 0 R (kf P rgT).length))],1,[],(l9 c.inL).length,[]⟩)(hR:R.toR U=[]){xs ys:Af}{w:Bc}(hl:VDL P U (fun _=>none) (roF w) (iG c (E9 U (l9 c.inL) 0 es)) xs)(hx:VRL (Do w) xs ys):Calls P f ys.toArray w fun e w'=>e= .returned (.bool true)/\Below w.heap.size w w':=by
 have hs:SD P U tauR (roF w) (gst c (E9 U (l9 c.inL) 0 es) (l9 c.inL).length) (Dm P w):=by
  rw[D];have get:∀b x,(⟨[(0,some (.reg 0 R (kf P rgT).length))],1,[],(l9 c.inL).length,[]⟩:SS).get b=some x->b=0/\x= .reg 0 R (kf P rgT).length:=by intro b x h;unfold SS.get at h;rw[y8]at h;by_cases e:0=b;rw[PG e]at h;cases h;exact⟨e.symm,rfl⟩;rw[PE e]at h;cases h
  refine⟨fun b x hb=>?_,fun b c x y i o j q hb hc Q=>?_,fun i b h=>(Lb P w i b h).1,fun b i o h=>?_,fun i b h=>(Lb P w i b h).2,fun b h=>?_,fun c t h=>(by simp at h),fun r h=>(by simp at h)⟩;obtain⟨rfl,rfl⟩:=get b x hb;refine .inl ⟨0,0,_,rfl,tT P w,rfl,rfl,rfl,.e,by rw[hR];rfl,?_⟩;rw[hR];exact⟨by simp,rfl,fun r h=>(by simp at h),fun r k row d h=>(by simp at h)⟩;obtain⟨rfl,_⟩:=get b x hb;obtain⟨rfl,_⟩:=get c y hc;exact absurd rfl Q;have h:(if b=0 then some (some (0,0))else none)=some (some (i,o)):=h;split at h;simp only[Pj,Pn]at h;rw[<-h.1];exact Nat.succ_pos _;cases h;have h:1<=b:=h;exact PE (by omega)
 obtain⟨v,τ',F',s',hp',vs,N,ab,M,nw,Z,⟨n0,hr⟩,_,_,r4,L,r6,r7,Y,_,_,_,_,_,_,X⟩:=hg es G I _ _ _ xs hs (hl.mono MY (Rx _));obtain⟨rr,B⟩:=J _ _ X;have H:c.outL= .g .bool::HX c.post:=by unfold Con.outL;rw[h2];rfl
 rw[H]at Y B;cases vs with
 |nil=>exact Y.elim|cons a ah=>
  obtain⟨r,p,aa,K,e2,n,ac⟩:=Y;obtain⟨e0,z⟩:=n.1 .b rfl;rw[z]at K;have K:M=e0::p:=K;subst K;have he:(e0.den U).toBool=true:=by have:Dat.bool (e0.den U).toBool::_=Dat.bool true::rr:=B;injection this with h _;injection h
  cases N with
  |nil=>rw[h2]at L;cases L
  |cons y m=>
   have O:m=[]:=by rw[h2]at L;have:(y::m).length=1:=L;exact Pr (by simpa using this)
   subst O;obtain⟨y',ai,e3,hy,ae⟩:=r4.uncons;have W:y'=y:=by injection e3 with h _;exact h.symm
   subst W;have h5:=n.2.2.2.1 y' hy τ' (fun i=>(V0 0 c.blks.length++nw).getD i 0) 0 e0 (fun i b hb=>by rw[List.getD,hb];rfl) (fun e2 so A ad=>by rw[z,Pj]at A;subst A;cases so<;>rfl) (fun b hb=>by have:=n.2.2.1 rfl;rw[this]at hb;cases hb);have h6:=r6 τ' F' [.bool e0] [] (.cons h5 .nil);rw[h2]at h6;have T:VD P U τ' F' (.bool e0) v:=h6;cases T;rw[he]at hr;refine((GS hm S n0).run f xs (Dm P w) _ hp' (hr n0 (PH _)) (BS.ro w) w (Do w) w ys hx (HR.ro P w)).mono fun e w' he=>?_;obtain⟨σ',u,rfl,_,hv,V⟩:=he;cases hv;exact⟨rfl,HR.roBelow V⟩
end
mutual
def noFv (n:Nat):SV->Bool
 | .any=>true| .int _ _=>true| .bool _=>true| .str _=>true| .nilp=>true| .nils=>true| .sl _ _ _ _ _=>true| .agg l=>noFvs n l| .tup l=>noFvs n l|_=>false
def noFvs (n:Nat):As->Bool
 | []=>true|a::l=>noFv n a&&noFvs n l
end
theorem nQ {n:Nat}:∀ {l:As},noFvs n l=true-> ∀ {i:Nat} {a:SV},l[i]? =some a->noFv n a=true
 | [],_,i,a,h=>by grind|b::l,h,0,a,d=>by unfold noFvs at h;grind|b::l,h,i+1,a,d=>by unfold noFvs at h;rw[Pk]at h;exact nQ h.2 (by simpa using d)
section
variable {P :Aw}{U:Ab}{ov:Aa}
def VD.noF {n:Nat}{τ:Tau}{F F':Ac}{a:SV}{v:Av}(h:VD P U τ F a v)(hn:noFv n a=true):VD P U τ F' a v:=by
 induction h with
 |any v=>exact .any v|int k e=>exact .int k e|bool e=>exact .bool e|str e=>exact .str e|nilp=>exact .nilp|nils=>exact .nils|sl b z off len cap i o c k h0 h1 hc=>exact .sl b z off len cap i o c k h0 h1 hc|sl0 b z off len cap k h0 h1 hc=>exact .sl0 b z off len cap k h0 h1 hc|agg l xs h1 _ f=>exact .agg l xs h1 fun i a x d hx=>f i a x d hx (nQ (hn) d)
 |tup l xs h1 _ f=>exact .tup l xs h1 fun i a x d hx=>f i a x d hx (nQ (hn) d)
 |_=>simp[noFv]at hn
end
def rok (s s':SS):Bool:=(s'.h.take (s'.h.length-s.h.length)).all fun p=>Nat.ble s.nx p.1
def rst (c:Con)(s:SS)(es:Au):SS:= {s with h:=R2 (C1 c.res) es (s.nx+1)++((s.nx,none)::s.h),nx:=s.nx+1+H6 (C1 c.res),fv:=s.fv+(l9 (C1 c.res)).length}
section
variable (P :Aw)(U:Ab)
def NG (c:Con)(s0:SS)(es:Au)(a:SV):M Unit:=match Iy c.res a with
 |none=>a9 "contract: result"|some l=>match kW c.res l with
  |none=>a9 "contract: results"|some fl1=>b9 (xV P U (C1 c.res) fl1) fun vs=>b9 (mtL U [] (C1 c.res) vs) fun t=>u4 fun s2=>
   bif rok s0 s2&&t.2.all (Nat.ble s0.nx)&&aR t.2&&Nat.beq t.2.length (H6 (C1 c.res))then
    fun _=>.need (.pt (c.name++ "Rel") [(l9 c.inL).zip es,(l9 (C1 c.res)).zip t.1]) (c.rel (u6 U (l9 c.inL) es) (u6 U (l9 (C1 c.res)) t.1)) .done
   else a9 "contract: it writes"
def cvr (c:Con)(run:As->M SV):Tr (Unit×SS):=
 Cl (l9 c.inL) 0 fun es=>.asm (.pt (c.name++ "Pre") [(l9 c.inL).zip es]) (c.pre (u6 U (l9 c.inL) es)) ((b9 (run (iG c es)) (NG P U c (gst c es (l9 c.inL).length) es)) (gst c es (l9 c.inL).length))
def kro (c:Con)(args:As):M SV:=u4 fun s0=>match kW c.args args with
 |none=>a9 "contract: arguments"|some fl1=>match c.find args s0 with
  |none=>a9 "contract: no blocks"|some bl=>match nE s0 c.blks bl with
   |none=>a9 "contract: blocks"|some fl2=>b9 (xV P U c.inL (fl1++fl2)) fun vs=>b9 (mtL U bl c.inL vs) fun t=>u4 fun s1=>
    bif bl.all (sN s1)&&aR (bl++t.2)&&Nat.beq t.2.length (H6 c.inL)then
     fun _=>.need (.pt (c.name++ "Pre") [(l9 c.inL).zip t.1]) (c.pre (u6 U (l9 c.inL) t.1)) (Cl (l9 (C1 c.res)) s1.fv fun ds=>.asm (.pt (c.name++ "Rel") [(l9 c.inL).zip t.1,(l9 (C1 c.res)).zip ds]) (c.rel (u6 U (l9 c.inL) t.1) (u6 U (l9 (C1 c.res)) ds))
      (.ret (yD c.res (CQ c.res (Jz idN (C1 c.res) ds (s1.nx+1))),rst c s1 ds)))
    else a9 "contract: the start"
end
section
variable {P :Aw}{U:Ab}{ov:Aa}
variable (P U ov) in
def RRO (c:Con)(g:Ay):Prop:=∀(es:Au),es.length=(l9 c.inL).length->c.pre (u6 U (l9 c.inL) es)-> ∀τ F hp xs,SD P U τ F (gst c (E9 U (l9 c.inL) 0 es) (l9 c.inL).length) hp->VDL P U τ F (iG c (E9 U (l9 c.inL) 0 es)) xs->
 ∃v F' hp' es' τ' s' vs fx accs,qB P ov g xs hp v hp'/\hp.nx<=hp'.nx/\Fle F F'/\(∀i y,F' i=some y->hp'.m.get i=some y/\i<hp'.nx)/\(∀i,i<hp.nx->hp'.m.get i=hp.m.get i)/\(∀i y,i<hp.nx->F' i=some y->F i=some y)/\
  es'.length=(l9 (C1 c.res)).length/\c.rel (u6 U (l9 c.inL) es) (u6 U (l9 (C1 c.res)) es')/\SD P U τ' F' s' hp'/\gZ P U [] τ' F' s' (C1 c.res) vs es' accs/\VDL P U τ' F' vs fx/\
  (∀b∈accs,∀i o,τ' b=some (some (i,o))->hp.nx<=i)/\aR accs=true/\accs.length=H6 (C1 c.res)/\ ∀τ2 ws,VDL P U τ2 F' ws fx->VD P U τ2 F' (yD c.res (CQ c.res ws)) v
variable {c:Con}{g:Ay}
def OT {run:As->M SV}(B:B9 P U ov run g)(X:(cvr P U c run).vc U fun _=>True):RRO P U ov c g:=by
 intro es j A τ F hp xs hs hx;have hq:=gB (U:=U) _ _ _ X es j;have hq:=hq (by rw[I3 _ _ _ j];exact A);generalize hds:E9 U (l9 c.inL) 0 es=ds at*;rw[z6]at hq;obtain⟨a,s1,hq,τ1,F1,hp1,L,hs1,v,n,W⟩:=B _ xs τ F _ hp hx hs _ hq hs;unfold NG at hq;cases J:Iy c.res a with
 |none=>rw[J]at hq;exact hq.elim|some l=>
 rw[J]at hq;simp only at hq;cases K:kW c.res l with
 |none=>rw[K]at hq;exact hq.elim|some O=>
 rw[K]at hq;simp only at hq;obtain⟨us,S,T⟩:=Hm J W;obtain⟨u,Q,aa,R⟩:=kX K S;rw[z6]at hq;obtain⟨vs,s2,hq,τ2,H,z,N,q,rfl,Y⟩:=eV (C1 c.res) O u τ1 F1 s1 hp1 Q hs1 _ hq hs1;rw[z6]at hq;obtain⟨⟨t,d⟩,D,hq,Z,w,V⟩:=sZ (P:=P) (τ:=τ2) (F:=H) [] (C1 c.res) vs s2 _ hq q.fc;simp only[u4]at hq;cases I:rok (gst c ds (l9 c.inL).length) D&&d.all (Nat.ble (gst c ds (l9 c.inL).length).nx)&&aR d&&Nat.beq d.length (H6 (C1 c.res))with
 |false=>rw[I]at hq;exact hq.elim|true=>
 rw[I]at hq;simp only[Pk,Qc,PO]at I;obtain⟨⟨⟨k1,k3⟩,k4⟩,k2⟩:=I;have k:c.rel (u6 U (l9 c.inL) ds) (u6 U (l9 (C1 c.res)) t):=hq.1;have hd:u6 U (l9 c.inL) ds=u6 U (l9 c.inL) es:=by rw[<-hds];exact I3 _ _ _ j
 rw[hd]at k;have r:=q.only Z w;have ex:=L.trans (N.trans (Rw q Z));have hm:=V D Z.h;unfold rok at k1;rw[PO]at k1;obtain⟨l,a1,a2,a3,a4,_⟩:=ex.hh;have hl:D.h.take (D.h.length-(gst c ds (l9 c.inL).length).h.length)=l:=by rw[a1,PL,Nat.add_sub_cancel,List.take_left'];rfl
 have e:∀b∈l.map Prod.fst,(gst c ds (l9 c.inL).length).nx<=b:=by intro b hb;obtain⟨p,hp,rfl⟩:=QQ.1 hb;rw[hl]at k1;simpa using k1 p hp
 have E:∀i,i<hp.nx->z.m.get i=hp.m.get i:=fun i hi=>a2 i hi fun b x o hb _ hm=>by have:=e b hm;have:=hs.bound hb;omega
 refine⟨v,H,z,t,τ2,D,vs,u,d,n,ex.nx,ex.f,fun i y h=>⟨r.frz i y h,r.flt i y h⟩,E,fun i y hi hy=>?_,hm.len,k,r,hm,Y,fun b hb i o ht=>?_,k4,k2,fun G ws h5=>?_⟩;rcases a4 i y hi hy with h| ⟨b,o,h1,h2⟩;exact h;rcases a3 b i o (e b h2) h1 with h| ⟨b0,x,o0,h2,_,h3⟩;omega;have:=e b0 h3;have:=hs.bound h2;omega;rcases a3 b i o (Pp (k3 b hb)) ht with h| ⟨b0,x,o0,h2,_,h3⟩;exact h;have:=e b0 h3;have:=hs.bound h2;omega;have h6:=T G H _ (R G H _ [] h5);rwa[QX]at h6
def H4 (hg:RRO P U ov c g):B9 P U ov (kro P U c) g:=by
 intro l args τ F s hp hl hs Q hq _;unfold kro at hq;simp only[u4]at hq;cases c1:kW c.args l with
 |none=>rw[c1]at hq;exact hq.elim|some ae=>
 rw[c1]at hq;simp only at hq;cases m:c.find l s with
 |none=>rw[m]at hq;exact hq.elim|some R=>
 rw[m]at hq;simp only at hq;cases c3:nE s c.blks R with
 |none=>rw[c3]at hq;exact hq.elim|some ah=>
 rw[c3]at hq;simp only at hq;obtain⟨W,ap,aq,ar⟩:=kX c1 hl;obtain⟨ai,ak,al⟩:=kS hs c3;rw[z6]at hq;obtain⟨vs,s2,hq,τ2,F2,L,T,M,rfl,aw⟩:=eV c.inL (ae++ah) (W++ai) τ F s hp (ap.append ak) hs _ hq hs;rw[z6]at hq;obtain⟨⟨es,u⟩,a,hq,o3,Z,av⟩:=sZ (P:=P) (τ:=τ2) (F:=F2) R c.inL vs s2 _ hq M.fc;simp only[u4]at hq;cases c5:R.all (sN a)&&aR (R++u)&&Nat.beq u.length (H6 c.inL)with
 |false=>rw[c5]at hq;exact hq.elim|true=>
 rw[c5]at hq;simp only[Pk,PO,Qc]at c5;obtain⟨⟨k1,k2⟩,k3⟩:=c5;have f:=M.only o3 Z;have hm:=av a o3.h;have E:=hm.len;have G:c.pre (u6 U (l9 c.inL) es):=hq.1;have K:∀b∈R,∃x,a.get b=some x:=fun b hb=>nK (k1 b hb);have an:=al.mono T.t;obtain⟨g1,g2,g3⟩:=JZ (fv:=(l9 c.inL).length) f aw aq an hm k2 K k3 (K3 (l9 c.inL) 0 es E);have J:VDL P U (qI τ2 (R++u)) F2 (iG c (E9 U (l9 c.inL) 0 es)) args:=by obtain⟨w1,_⟩:=g2.split;have:=ar _ _ _ ((kZ c (E9 U (l9 c.inL) 0 es)).drop W.length) w1;rw[Ra]at this;exact this
 obtain⟨v,F',hp',I,τ',s',bb,fx,bs,r1,r2,r3,r4,r5,r6,r7,r8,r9,ab,ax,ac,ay,ba,az⟩:=hg es E G _ F2 L args g1 J;have hQ:=gB (U:=U) _ _ _ (hq.2 G) I r7 (by rw[I3 _ _ _ r7];exact r8);have N:=K3 (U:=U) (l9 (C1 c.res)) a.fv I r7;generalize E9 U (l9 (C1 c.res)) a.fv I=ds at hQ N;have lo:∀b,b<a.nx+1->I9 τ2 τ' (a.nx+1) bs b=τ2 b:=fun b hb=>cU hb;have hi:∀k b,bs[k]? =some b->I9 τ2 τ' (a.nx+1) bs (a.nx+1+k)=τ' b:=fun k b h=>gQ h;have ad:∀b p,τ2 b=some p->b<a.nx:=fun b p hb=>Nat.lt_of_not_le fun au=>by rw[f.new b au]at hb;cases hb
 have A:Tle τ2 (I9 τ2 τ' (a.nx+1) bs):=fun b p hb=>by rw[lo b (Nat.lt_succ_of_lt (ad b p hb))];exact hb
 have O:=ab.vals (τ2:=I9 τ2 τ' (a.nx+1) bs) (num:=idN) N (fun i b h=>by simp at h) hi ax;have Y:=ab.blks (nb:=a.nx+1) N;have w:∀b x,(rst c a ds).get b=some x->(∃k b' x',b=a.nx+1+k/\bs[k]? =some b'/\s'.get b'=some x'/\(∀(τ2:Tau) o z,BD P U τ' F' o x' z->BD P U τ2 F' o x z)/\(E1 P U x'->E1 P U x))\/a.get b=some x:=by
  intro b x ao;have d:(match lk (R2 (C1 c.res) ds (a.nx+1)++((a.nx,none)::a.h)) b with|some x=>x|none=>none)=some x:=ao;rw[J2]at d;cases m:lk (R2 (C1 c.res) ds (a.nx+1)) b with
  |some y=>rw[m]at d;simp only at d;subst d;obtain⟨k,b',X,x',D,n,H,S,e5,e6⟩:=Y b _ m;cases H;exact .inl ⟨k,b',x',D,n,S,e5,e6⟩
  |none=>rw[m]at d;simp only[y8]at d;by_cases e:a.nx=b;rw[PG e]at d;cases d;rw[PE e]at d;exact .inr d
 have V:∀k b' i o,bs[k]? =some b'->I9 τ2 τ' (a.nx+1) bs (a.nx+1+k)=some (some (i,o))->L.nx<=i:=fun k b' i o e h=>by rw[hi k b' e]at h;exact ac b' (Pv e) i o h
 have B:∀b x,a.get b=some x->b<a.nx+1:=fun b x h=>Nat.lt_succ_of_lt (f.bound h);have EX:Ext τ2 F2 a L (I9 τ2 τ' (a.nx+1) bs) F' (rst c a ds) hp':=by
  refine⟨A,r3,r2,?_,fun b hb=>lo b (Nat.lt_succ_of_lt hb),fun b x hb hlt=>?_,⟨R2 (C1 c.res) ds (a.nx+1)++ [(a.nx,none)],?_,fun i hi _=>r5 i hi,fun b i o hb ht=>.inl ?_,fun i y hi hy=>.inl (r6 i y hi hy),fun hp=>absurd rfl (hp (a.nx,none) (by simp))⟩,⟨[],rfl⟩,
   ⟨R2 (C1 c.res) ds (a.nx+1)++ [(a.nx,none)],?_,fun _ _ _ _ i _ cs _ _ _ hi hg _=>⟨cs,by rw[r5 i hi];exact hg,fun _ _=>rfl⟩⟩⟩
  show a.nx<=a.nx+1+H6 (C1 c.res);omega;rcases w b x hb with⟨k,_,_,rfl,_⟩|h;omega;exact⟨x,h⟩;show R2 (C1 c.res) ds (a.nx+1)++((a.nx,none)::a.h)=_;rw[Py];rfl;by_cases e:b<a.nx+1;rw[lo b e,f.new b hb]at ht;cases ht;unfold I9 at ht;rw[PE e]at ht;split at ht;rename_i b' aj;exact ac b' (Pv aj) i o ht;cases ht;show R2 (C1 c.res) ds (a.nx+1)++((a.nx,none)::a.h)=_;rw[Py];rfl
 refine⟨_,_,hQ,_,F',hp',(T.trans (Rw M o3)).trans EX,⟨fun b x hb=>?_,fun b m x y i o j q hb hc aa D n=>?_,fun i b h=>(r4 i b h).1,fun b i o h=>?_,fun i b h=>(r4 i b h).2,fun b hb=>?_,f.fc,fun r hr=>(f.fz r hr).mono A r3⟩,v,r1,az _ _ O⟩
 ·rcases w b x hb with⟨k,b',x',rfl,n,H,S,e5⟩|h;rcases r9.live b' x' H with⟨i,o,y,k1,k2,k3,k4⟩| ⟨k1,k2⟩;exact .inl ⟨i,o,y,by rw[hi k b' n];exact k1,k2,k3,S _ o y k4⟩;exact .inr ⟨by rw[hi k b' n];exact k1,e5 k2⟩
  ·rw[lo b (B b x h)];rcases f.live b x h with⟨i,o,y,h1,h2,h3,h4⟩|h
   ·have hi:=f.lt b i o h1;refine .inl ⟨i,o,y,h1,by rw[r5 i hi];exact h2,?_,h4.mono A r3⟩;cases hF:F' i with
    |none=>rfl|some y'=>rw[r6 i y' hi hF]at h3;cases h3
   exact .inr h
 rcases w b x hb with⟨k,b',x',rfl,H,S,_⟩|h;rcases w m y hc with⟨k2,b2,x2,rfl,f3,f4,_⟩|h2;rw[hi k b' H]at D;rw[hi k2 b2 f3]at n;exact r9.inj b' b2 x' x2 i o j q S f4 (fun e=>aa (by subst e;rw[aS ay k k2 b' H f3])) D n;have:=V k b' i o H D;rw[lo m (B m y h2)]at n;have:=f.lt m j q n;omega;rw[lo b (B b x h)]at D;rcases w m y hc with⟨k2,b2,x2,rfl,f3,f4,_⟩|h2;have:=V k2 b2 j q f3 n;have:=f.lt b i o D;omega;rw[lo m (B m y h2)]at n;exact f.inj b m x y i o j q h h2 aa D n;by_cases e:b<a.nx+1;rw[lo b e]at h;exact Qp (f.lt b i o h) r2;unfold I9 at h;rw[PE e]at h;split at h;exact r9.lt _ i o h;cases h;have hb:a.nx+1+H6 (C1 c.res)<=b:=hb;unfold I9;rw[PE (by omega),Rn (by omega)]
variable {l:List (Ay×Con)}{xs:E7}
def M0 (a:Ay->List (Nat×(Fm->SS->G5)))(d:R0 P U ov l)(hx:dS P U ov xs)(n:Nat){V:Prop}(he:(cvr P U c (sxF P U a (kU P U l xs) n g)).vc U (fun _=>True)=V)(hv:V)(b:∀g,isT (ov g)=true->iF P U l g≠none:=by exact noT)(hg:isT (ov g)=false:=by rfl):RRO P U ov c g:=
 OT (LL a (con:=kU P U l xs) (zJ d hx) (fun g hg hn=>b g hg (nF hx g hg hn)) n g hg) (he.symm▸hv)
def MO {mu:Ar->Nat}(h:∀n,RRO P U ov (c.below mu n) g->RRO P U ov (c.below mu (n+1)) g):RRO P U ov c g:=by
 have all:∀n,RRO P U ov (c.below mu n) g:=fun n=>by
  induction n with
  |zero=>intro es _ a;exact absurd a.2 (Nat.not_lt_zero _)
  |succ n d=>exact h n d
 intro es b a;exact all (mu (u6 U (l9 c.inL) es)+1) es b ⟨a,Qw _⟩
def MN (a:Ay->List (Nat×(Fm->SS->G5)))(e:R0 P U ov l)(hx:dS P U ov xs)(m:Nat)(mu:Ar->Nat){V:Nat->Prop}(he:∀n,(cvr P U (c.below mu (n+1)) (sxF P U a (kU P U l ((g,kro P U (c.below mu n))::xs)) m g)).vc U (fun _=>True)=V n)(hv:∀n,V n)(d:∀b,isT (ov b)=true->iF P U l b≠none:=by exact noT)(hg:isT (ov g)=false:=by rfl):RRO P U ov c g:=
 MO fun n hn=>M0 a e (xs:=(g,kro P U (c.below mu n))::xs) ⟨⟨H4 hn,hg⟩,hx⟩ m (he n) (hv n) d hg
end
section
variable {P :Aw}{U:Ab}{ov:Aa}
variable (U) in
def wkM (run:As->M SV)(l:As):M SV:=match l with
 | .sl b z off len cap::r=>match cap with
  | .ge=>run (.sl b z off len .ge::r)|cap=>u4 fun s=>match s.get b with
   | some (.rows L e z' ph) => bif Nat.beq z z' then b9 (match cap with
     | .ex c=>j7 U (E4 c len)|_=>d9 ()) fun _=>b9 (j7 U (y4 (y6 (z9 L) (y0 off len)))) fun _=>b9 (j7 U (y6 len (.int 67108865))) fun _=>run (.sl b z off len .ge::r)
    else a9 "full: size"
   |_=>a9 "full: block"
 |l=>run l
variable {g:Ay}
def Nh (d:wkF P g=true)(hg:isT (ov g)=false){a b:Av}{r:Af}{hp hp':Hp}{v:Av}(h1:wkA hp (a::r)=b::r)(h2:wkA hp (b::r)=b::r)(h:qB P ov g (b::r) hp v hp'):qB P ov g (a::r) hp v hp':=by
 obtain⟨m,h⟩:=h;refine⟨m+1,fun n hn=>?_⟩;obtain⟨k,rfl⟩:∃k,n=k+1:=⟨n-1,by omega⟩
 have h:(G1 P ov (k+1)).run g (b::r) hp=some (v,hp'):=h (k+1) (by omega);have e:∀x:Av,(G1 P ov (k+1)).run g (x::r) hp=iN (X3 P (A3 P) (G1 P ov k) (X4 P (A3 P) (G1 P ov k) k) k g) (wkA hp (x::r)) hp:=fun x=>by show(bif isT (ov g)&&(x::r).isEmpty then some (.bool true,hp)else iN (X3 P (A3 P) (G1 P ov k) (X4 P (A3 P) (G1 P ov k) k) k g) (bif wkF P g then wkA hp (x::r)else(x::r)) hp)=_;rw[hg,Bool.false_and,PC,d,PB]
 rw[e,h2]at h;rw[e,h1];exact h
def Pf {run:As->M SV}(hr:B9 P U ov run g)(u:wkF P g=true)(hg:isT (ov g)=false):B9 P U ov (wkM U run) g:=by
 intro l args τ F s hp hl hs;unfold wkM;split
 ·rename_i b z off len cap r;split;exact hr _ _ _ _ _ _ hl hs
  ·rename_i hge;refine RD ?_;split
   ·rename_i L e G ph hb;cases hz:Nat.beq z G with
    |false=>exact RC|true=>
    simp only[PB];have hz:=Pq hz;subst hz;have first:OKp U (match cap with| .ex c=>j7 U (E4 c len)|_=>d9 ()) s fun _=>∀c,kR U len cap c->c=len.toN U\/ ∃lo,c=d8 lo 0/\lo<=67108864/\len.toI U<=67108864:=by
     cases cap with
     |ex c=>refine OKp.need.mono fun _ h c' hc=>.inl ?_;have h:=(Ru U _).1 h;rw[E0]at h;have h:=QN h;obtain⟨_,h2,_⟩:=hc;rw[h2];show(c.toI U).toNat=(len.toI U).toNat;rw[h]
     |ge=>exact absurd rfl (hge)|un=>refine RL fun c hc=>?_;rcases hc with⟨_,h,_⟩|h;exact .inl h;exact .inr h
    refine RA first fun _ s1 w hs1 hc=>RA RH fun _ s2 x t p1=>RA RH fun _ B A f p2=>?_
    have p1:=z5 p1;have p2:=B6 p2;rw[j5,i9]at p1;simp only[A8]at p2;have m:B.get b=some (.rows L e z ph):=by rw[A.get,x.get,w.get];exact hb
    obtain⟨y,ys,rfl,D,j⟩:=hl.uncons;cases D with
    |sl0 _ _ _ _ _ d h0 h1 _=>exact hr _ _ _ _ _ _ (.cons (.sl0 b z off len .ge d h0 h1 (fun e he=>by cases he)) j) f|sl _ _ _ _ _ i o c d h0 h1 k=>
     rcases hc c k with h| ⟨lo,rfl,h2,h3⟩
     ·have H:len.toI U=((len.toN U:Nat):Int):=by show len.toI U=(((len.toI U).toNat:Nat):Int);omega
      have p:VDL P U τ F (.sl b z off len .ge::r) (.slice (some ⟨i,o+off.toN U*z,none⟩) (len.toN U) (d8 (len.toN U) 0)::ys):= .cons (.sl b z off len .ge i o _ d h0 h1 ⟨len.toN U,rfl,by omega,by omega⟩) j;refine(hr _ _ _ _ _ _ p f).mono fun a τ' F' hp' _ _ ⟨v,hx,hv⟩=>⟨v,Nh u hg ?_ HK hx,hv⟩
      rcases f.live b _ m with⟨J,o',K,k1,k2,_,cs,n,rfl,⟨k3,_⟩,_⟩| ⟨k1,_⟩
      ·rw[d]at k1;simp only[Pj,Pn]at k1;obtain⟨rfl,rfl⟩:=k1;subst h;have h4:Nat.ble (len.toN U) 67108864=true:=Ps (by omega);have q:Nat.ble (o+off.toN U*z+len.toN U*z) n=true:=Ps (by
        have I:off.toI U=((off.toN U:Nat):Int):=by show off.toI U=(((off.toI U).toNat:Nat):Int);omega
        have:off.toN U+len.toN U<=(L.toR U).length:=by omega
        have:=Px z this;rw[PY]at this;omega)
       simp only[wkA,h4,PB,k2,q]
      rw[d]at k1;cases k1
     exact hr _ _ _ _ _ _ (.cons (.sl b z off len .ge i o _ d h0 h1 ⟨lo,rfl,h2,h3⟩) j) f
   exact RC
 exact hr _ _ _ _ _ _ hl hs
