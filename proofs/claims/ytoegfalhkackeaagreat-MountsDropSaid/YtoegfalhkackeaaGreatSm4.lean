/- The symbolic engine: Delete and Insert, parts 41, 42, 43, 44, 45, 48, 49, 46, 47, 50.
  Conditions: none. -/
import Derived.Test.YtoegfalhkackeaaGreatXm4
set_option linter.all false
noncomputable section
namespace Go.Sx
open Go.Xe
section
variable {P :Aw}{U:Ab}{τ:Tau}{F:Ac}{s:SS}{hp:Hp}
theorem SD.move2 (hs:SD P U τ F s hp){b i o a R T:Nat}{x V x':B0}(hb:s.get b=some x)(ht:τ b=some (some (i,o)))(A:s.get a=some V)(D:τ a=some (some (R,T)))(_:a≠b){hp':Hp}(hn:hp.nx<=hp'.nx)(hk:∀j,j<hp.nx->j≠i->j≠R->hp'.m.get j=hp.m.get j){j q:Nat}(hj:j=i\/hp.nx<=j)(J:j<hp'.nx){y:Blk}(hi:hp'.m.get j=some y)(hd:BD P U (put τ s.nx (some (j,q))) F q x' y):Ext τ F s hp (put τ s.nx (some (j,q))) F (fK ((s.set b none).set a none) x') hp'/\SD P U (put τ s.nx (some (j,q))) F (fK ((s.set b none).set a none) x') hp':=by
 have h0:τ s.nx=none:=hs.new _ (Tq _);have B:=bN (some (j,q)) h0;have fz:∀ {b i o x},s.get b=some x->τ b=some (some (i,o))->F i=none:=by intro b i o x hb ht;rcases hs.live b x hb with⟨i',o',W,h1,_,h3,_⟩| ⟨h1,_⟩;grind;grind
 have Y:=fz hb ht;have Z:=fz A D;have fj:F j=none:=by
  rcases hj with rfl|hj;exact Y
  .cases hF:F j with
   |none=>rfl|some w=>exact absurd (hs.flt j w hF) (by omega)
 have gt:∀c,(fK ((s.set b none).set a none) x').get c=if c=s.nx then some x' else if c=a then none else if c=b then none else s.get c:=by intro c;rw[gZ,Vv,Vv];rfl
 refine⟨⟨B,Vd F,hn,by simp[fK,SS.set],λc hc=>B5 τ _ (by omega),λc y hc hlt=>?_,⟨[(s.nx,some x'),(a,none),(b,none)],rfl,λk u aa=>hk k u (by grind) (by grind),λc k r hc h=>?_,λ_ _ _ h=>.inl h,λ_ _ _ h=>h⟩,⟨[],rfl⟩,⟨[(s.nx,some x'),(a,none),(b,none)],rfl,λd c e z j' q' cs n p hq J hg hl=>⟨cs,by
  have n1:d≠b:=λh=>by subst h;obtain⟨_,q,_⟩:=hl none (by simp);cases q
  have n2:d≠a:=λh=>by subst h;obtain⟨_,q,_⟩:=hl none (by simp);cases q
  rw[hk j' J (hs.inj d b _ x j' q' i o p hb n1 hq ht) (hs.inj d a _ V j' q' R T p A n2 hq D)];exact hg,λ_ _=>rfl⟩⟩⟩,?_⟩
 grind;by_cases e:c=s.nx;subst e;rw[t8]at h;grind;rw[B5 τ _ e,hs.new c hc]at h;cases h
 .have inv:∀c z,(fK ((s.set b none).set a none) x').get c=some z->c≠s.nx->c≠b/\c≠a/\s.get c=some z:=by grind
  have apart:∀c z k r,c≠b->s.get c=some z->τ c=some (some (k,r))->k≠j:=by intro c z k r e hc h G;subst G;rcases hj with rfl|hj;exact hs.inj c b z x _ r _ o hc hb e h ht rfl;have:=hs.lt c _ r h;omega
  refine⟨λc z hc=>?_,λc d y z k r k' r' hc p K M L=>?_,λk y u=>?_,λc k r h=>?_,λk y h=>TX (hs.flt k y h) hn,λc hc=>?_,hs.fc,λr hr=>(hs.fz r hr).mono B (Vd F)⟩;by_cases e:c=s.nx;subst e;rw[gt,Tp rfl,SQ]at hc;subst hc;exact .inl ⟨j,q,y,t8 _ _ _,hi,fj,hd⟩;obtain⟨e',N,f⟩:=inv c z hc e;rcases hs.live c z f with⟨k,r,W,h1,h2,h3,h4⟩| ⟨h1,h2⟩;refine .inl ⟨k,r,W,by rw[B5 τ _ e];exact h1,?_,h3,h4.mono B (Vd F)⟩;rw[hk k (hs.lt c k r h1) ?_ ?_];exact h2;intro G;subst G;exact hs.inj c b z x _ r _ o f hb e' h1 ht rfl;intro G;subst G;exact hs.inj c a z V _ r _ T f A N h1 D rfl;exact .inr ⟨by rw[B5 τ _ e];exact h1,h2⟩;by_cases O:c=s.nx;subst O;have E:d≠s.nx:=λh=>K h.symm;rw[t8]at M;rw[B5 τ _ E]at L;grind;obtain⟨e',_,f⟩:=inv c y hc O;rw[B5 τ _ O]at M;by_cases E:d=s.nx;subst E;rw[t8]at L;grind;obtain⟨X,_,H⟩:=inv d z p E;rw[B5 τ _ E]at L;exact hs.inj c d y z k r k' r' f H K M L;rw[hk k (hs.flt k y u) (by grind) (by grind)];exact hs.frz k y u;by_cases e:c=s.nx;subst e;rw[t8]at h;grind;rw[B5 τ _ e]at h;exact TX (hs.lt c k r h) hn;have:s.nx+1<=c:=hc;rw[B5 τ _ (by omega)];exact hs.new c (by omega)
end
section
variable (P :Aw)(U:Ab)
def sdel (e size:Nat)(args:As):M SV:=match args with
 | [.sl b z off len .ge,.int .i64 a,.int .i64 c]=>c8 (zW P b) λ_=>v8 λs=>match s.get b with
  | some (.rows L e' z' _) => bif Nat.beq e e' && Nat.beq size z && Nat.beq size z' && Nat.beq size (kf P e).length then
    c8 (l9 U (y5 (y6 (A4 L) (y4 off len)))) λ_=>c8 (l9 U (y5 (y6 a (.int 0)))) λ_=>c8 (l9 U (y6 a c)) λ_=>c8 (l9 U (y5 (y6 len c))) λ_=>
    c8 (W6 U L off a) λA=>c8 (W6 U L (y4 off c) (N6 len c)) λB=>smove e size b (.rows (F8 A B)) (y4 a (N6 len c)) .ge
   else b9 "delete: type"
  |_=>b9 "delete: block"
 |_=>b9 "delete: arguments"
def smove2 (e size b b2:Nat)(x:Src)(len:E)(cp:Cp):M SV:=λs=>.ret (.sl s.nx size (.int 0) len cp,fK ((s.set b none).set b2 none) (x.blk e size))
def isCR :Bb B0->Bool
 |some (.cells _ _ _)=>true|some (.rows _ _ _ _)=>true|_=>false
def IV (e size b:Nat)(off len a:E)(x:SV):M SV:=match x with
 | .sl b2 _ _ _ _=>bif Nat.beq b2 b then b9 "insert: the same block" else c8 (ssrc P U e size x) λsrc=>bif src.one then c8 (NU P U e size src) λLn=>c8 (zW P b) λ_=>v8 λs=>match s.get b with
  | some (.rows L e' z' _) => bif Nat.beq e e' && Nat.beq size z' && Nat.beq size (kf P e).length && isCR (s.get b2) && (kf P e).all noRp then
    c8 (l9 U (E9 (A4 Ln) (.int 1))) λ_=>c8 (l9 U (y5 (y6 (A4 L) (y4 off len)))) λ_=>c8 (l9 U (y5 (y6 a (.int 0)))) λ_=>c8 (l9 U (y5 (y6 len a))) λ_=>c8 (l9 U (y6 len (.int 67108864))) λ_=>
    c8 (W6 U L off a) λA=>c8 (W6 U L (y4 off a) (N6 len a)) λB=>smove2 e size b b2 (.rows (F8 (F8 A Ln) B)) (y4 len (.int 1)) .ge
   else b9 "insert: type"
  |_=>b9 "insert: block"
  else b9 "insert: cells"
 |_=>b9 "insert: element"
def sins (e size:Nat)(args:As):M SV:=match args with
 | [.nils,.int .i64 a,x]=>bif Nat.beq size (kf P e).length then c8 (dZ (.rows (.op .nil []) e size (.int 0))) λb=>IV P U e size b (.int 0) (.int 0) a x else b9 "insert: size"
 | [.sl b z off len .ge,.int .i64 a,x]=>bif Nat.beq size z then IV P U e size b off len a x else b9 "insert: size"|_=>b9 "insert: arguments"
end
section
variable {P :Aw}{U:Ab}{ov:Aa}
def Ih (n:Nat):(C6 P ov n).ov=ov:=by cases n<;>rfl
variable {C:i9->Prop}{g:Ay}{v:Av}
theorem Fx (b:∀n,C (C6 P ov n))(hg:isT (ov g)=false){args:Af}{hp:Hp}{hp':Hp}(h:sZ P C g (bif wkF P g then wkA hp args else args) hp v hp'):V6 P ov g args hp v hp':=by
 obtain⟨a,h⟩:=h;refine⟨a+1,λn hn=>?_⟩;obtain⟨k,rfl⟩:∃k,n=k+1:=⟨n-1,by omega⟩
 show(bif isT (ov g)&&args.isEmpty then some (.bool true,hp)else fH (S6 P (v6 P) (C6 P ov k) (P9 P (v6 P) (C6 P ov k) k) k g) (bif wkF P g then wkA hp args else args) hp)=_;grind
def Jk {hp:Hp}{a:Addr}{l lo:Nat}{xs:Af}:wkA hp (.slice (some a) l (d8 lo 0)::xs)= .slice (some a) l (d8 lo 0)::xs:=by
 obtain⟨i,o,e⟩:=a;have:Nat.ble (d8 lo 0) 67108864=false:=aI (by have:=q0 lo 0;unfold unk at this;omega);cases e with
 |none=>simp only[wkA,this,Tl]|some e=>rfl
def Js (b:∀n,C (C6 P ov n))(hg:isT (ov g)=false){a:Addr}{l lo:Nat}{args:Af}{hp:Hp}{hp':Hp}(h:sZ P C g (.slice (some a) l (d8 lo 0)::args) hp v hp'):V6 P ov g (.slice (some a) l (d8 lo 0)::args) hp v hp':=
 Fx b hg (by rw[Jk,Bool.cond_self];exact h)
variable {τ :Tau}{F:Ac}{s:SS}{hp:Hp}
def JN {c:Ao}{o n:Nat}{a b:Af}(h:j7 c o n=some a)(k:j7 c o n=some b):a=b:=Tu (h.symm.trans k)
def dQ {e z o n:Nat}{cs:Ao}{rows:a8}(hr:A6 P F e z o n cs rows){off len a m:Int}(h0:0<=off)(h:0<=a)(hm:0<=m)(d:a+m<=len)(h2:off+len<=rows.length){L:E}(hL:L.toR U=pQ rows (off+a) m){b:Af}(hl:j7 cs (o+off.toNat*z) (len.toNat*z)=some b):p8 P U τ F e z (.rows L) ((b.drop (a.toNat*z)).take (m.toNat*z)):=by obtain⟨vs,f,_,i,_⟩:=G6 hr (by omega) hm (by omega) hL;have h3:=cJ hl (a:=a.toNat*z) (m:=m.toNat*z) (by rw[<-TF];exact Tg _ (by omega));rw[show o+off.toNat*z+a.toNat*z=o+(off+a).toNat*z by rw[Ud,<-TF];congr 2;omega]at h3;rwa[JN h3 f]
theorem GZ {ρ:Go.Shelf.Ren}{e:Ax}{ie:Ba}{zv:Av}(D:HL P g ρ e ie zv)(hg:isT (ov g)=false):C3 P U ov (sdel P U e ie.size) g:=by
 intro l args τ F s hp hl hs;unfold sdel;split
 .rename_i b z off len a c;obtain⟨y1,ai,rfl,v1,hl⟩:=hl.uncons;obtain⟨y2,aj,rfl,v2,hl⟩:=hl.uncons;obtain⟨y3,N,rfl,v3,hl⟩:=hl.uncons;have:N=[]:=SZ hl.1.symm;subst this;cases v2;cases v3;refine(gF hs).bind λ_ τ1 F1 s1 hp1 ex hs1 ⟨Y,e2,Z⟩=>Vj ?_;subst Y;subst Z;split
  .rename_i L e' X ph hb;cases hq:Nat.beq e e'&&Nat.beq ie.size z&&Nat.beq ie.size X&&Nat.beq ie.size (kf P e).length with
   |false=>exact Vi|true=>
    simp only[Tk];simp only[SR,TJ]at hq;obtain⟨⟨⟨rfl,hz⟩,H⟩,aa⟩:=hq;refine Vg Vm λ_ s2 o2 ab p1=>Vg Vm λ_ s3 o3 ac p2=>Vg Vm λ_ s4 o4 ad V=>Vg Vm λ_ s5 o5 ae W=>Vg B7 λA s6 o6 ah hA=>Vg B7 λB s7 o7 h O=>?_;have p1:=A0 p1;have p2:=aO p2;have V:=C0 V;have W:=A0 W;rw[j5,i7]at p1;rw[j5,v7]at O;have m:s7.get b=some (.rows L e X ph):=by rw[o7.get,o6.get,o5.get,o4.get,o3.get,o2.get];exact hb
    have x:A.toR U=pQ (L.toR U) (off.toI U) (a.toI U):=by show(A.den U).rows=_;rw[hA];rfl
    have E:B.toR U=pQ (L.toR U) (off.toI U+c.toI U) (len.toI U-c.toI U):=by show(B.den U).rows=_;rw[O];rfl
    cases v1 with
    |sl0 _ _ _ _ _ d h0 h1 hc=>omega|sl _ _ _ _ _ i o cc d h0 h1 hc=>
    obtain⟨lo,rfl,c1,c2⟩:=hc;rcases h.live b _ m with⟨i',o',y,k1,k2,kF,cs,k,rfl,k4,k5⟩| ⟨k1,_⟩
    .rw[d]at k1;obtain⟨rfl,rfl⟩:=k1;subst hz;subst H;obtain⟨u,M,w2,w3,w4⟩:=G6 (τ:=τ1) (L:= .op .part [L,off,len]) k4 h0 h1 p1 rfl;have n:u.all Value.oneCell'=true:=w3.ones rfl;have ea:a.toI U=((a.toN U:Nat):Int):=by grind
     have ec:c.toI U=((c.toN U:Nat):Int):=by grind
     have el:len.toI U=((len.toN U:Nat):Int):=by grind
     obtain⟨v,hp',r1,⟨⟨bb,q,J,ct,kk,rfl,n2,n3,n4,n5,n6,R⟩,K,T⟩⟩:=KF (C:=λ_=>True) D (a:=a.toN U) (b:=c.toN U) (Nat.max_le.2 ⟨c1,by omega⟩) (by omega) (by omega) (h.lt b i o d) k2 w2 M n;have p:=Js (λ_=>trivial) hg r1;rw[<-ea,<-ec]at p;have f:(y4 a (N6 len c)).toI U=((a.toN U+(len.toN U-c.toN U):Nat):Int):=by rw[j5,v7];omega
     have j:=(m9 R).1;refine(OKh.smove (cp:= .ge) (q:=q) m d K (by grind) n3 n4 n5 (λτ' r=>?_) f ⟨J,rfl,n2,by omega⟩ h).mono λw τ' F' hp2 _ _ ⟨q1,q2⟩=>(by grind)
     refine lZ ?_ (λy v hy=>?_) (by rw[j];exact n6);refine p8.mono r (Vd _) (p8.app ?_ ?_);have:=dQ (τ:=τ1) k4 h0 (Uh 0) (by omega) (show 0+a.toI U<=len.toI U by omega) p1 (by rw[x];congr 1;omega) M;grind;have:=dQ (τ:=τ1) k4 h0 (by omega) (by omega) (by omega) p1 E M;rw[TT (by rw[TW,w4,<-Nat.sub_mul];exact Tg _ (by omega))]at this;exact this
     .have G:y<(a.toN U+(len.toN U-c.toN U))*ie.size:=by rw[<-j];exact(SW.1 hy).1
      rw[<-(m9 R).2 y G];exact hy
    grind
  exact Vi
 exact Vi
end
section
variable {P :Aw}{U:Ab}{ov:Aa}{τ:Tau}{F:Ac}{s:SS}{hp:Hp}
def OKh.smove2 {e size b i o f w A j q n c:Nat}{x B:B0}{x':Src}{len:E}{cp:Cp}(hb:s.get b=some x)(ht:τ b=some (some (i,o)))(h:s.get f=some B)(u:τ f=some (some (w,A)))(p:f≠b){hp1:Hp}(hn:hp.nx<=hp1.nx)(hk:∀k,k<hp.nx->k≠i->k≠w->hp1.m.get k=hp.m.get k)(hj:j=i\/hp.nx<=j)(r:j<hp1.nx){y:Blk}(hi:hp1.m.get j=some y)(z:∀τ',Tle τ τ'->BD P U τ' F q (x'.blk e size) y)(d:len.toI U=n)(hc:mI U len cp c)(hs:SD P U τ F s hp):OKh P U (smove2 e size b f x' len cp) τ F s hp λa τ' F' hp'=>hp'=hp1/\VD P U τ' F' a (.slice (some ⟨j,q,none⟩) n c):=by intro Q hq _;have h0:=hs.new _ (Tq _);obtain⟨h1,h2⟩:=hs.move2 hb ht h u p hn hk hj r hi (z _ (bN _ h0));exact⟨_,_,hq,_,F,hp1,h1,h2,rfl,VK (t8 _ _ _) (Uh 0) (by omega) hc (by show q=q+(0:Int).toNat*size;simp) (qA d).symm⟩
theorem DL {s:SS}{b:Nat}(h:isCR (s.get b)=true):(∃l e z,s.get b=some (.cells l e z))\/ ∃L e z ph,s.get b=some (.rows L e z ph):=by unfold isCR at h;grind
theorem xF {hp:Hp}{size n m c:Nat}{a:Aq}{vs:Af}(h:y9 hp size (.slice a n c)=some (m,vs)):m=n:=by
 unfold y9 at h;split at h
 .rename_i n' _ hh;cases hb:Nat.beq n 0 with
  |false=>grind|true=>simp_all
 grind;grind;cases h
variable {g:Ay}{ρ:Go.Shelf.Ren}{zv:Av}
theorem EI {e:Ax}{ie:Ba}(D:jQ P g ρ e ie zv)(hg:isT (ov g)=false)(ai:ov (ρ.f 27)=some (ρ.t 22)){b:Nat}{off len a:E}{x:SV}{v1 v3:Av}(h1:VD P U τ F (.sl b ie.size off len .ge) v1)(h3:VD P U τ F x v3)(hs:SD P U τ F s hp):OKh P U (IV P U e ie.size b off len a x) τ F s hp λw τ' F' hp'=>∃v,V6 P ov g [v1,.int .i64 (a.toI U),v3] hp v hp'/\VD P U τ' F' w v:=by
 unfold IV;split
 .rename_i J z2 an ak bk;cases M:Nat.beq J b with
  |true=>exact Vi|false=>
  have M:J≠b:=λh=>by rw[h,u7 rfl]at M;cases M
  simp only[Tl];refine Vg (Jb D.sz h3 hs) λsrc s1 o1 hs1 ⟨n,news,x1,x2,x3,x4⟩=>?_;cases ah:src.one with
  |false=>exact Vi|true=>
  simp only[Tk];have az:=x2.ones ah;refine(Cy x2 hs1).bind λLn τ1 F1 s2 hp1 ex bc ⟨e1,e2,G⟩=>?_;subst e1;subst e2;refine(gF bc).bind λ_ τ2 F2 s3 hp2 bm bq ⟨e1,e2,e3⟩=>Vj ?_;subst e1;subst e2;subst e3;have h1:=h1.mono (VG τ2) ex.f;have h3:=h3.mono (VG τ2) ex.f;split
  .rename_i L e' z' ph hb;cases hq:Nat.beq e e'&&Nat.beq ie.size z'&&Nat.beq ie.size (kf P e).length&&isCR (s3.get J)&&(kf P e).all noRp with
   |false=>exact Vi|true=>
    simp only[Tk];simp only[SR,TJ]at hq;obtain⟨⟨⟨⟨rfl,bi⟩,ax⟩,ae⟩,Y⟩:=hq;refine Vg Vm λ_ s4 o4 bt p0=>Vg Vm λ_ s5 o5 bu p1=>Vg Vm λ_ s6 o6 bv p2=>Vg Vm λ_ s7 o7 bw p3=>Vg Vm λ_ s8 o8 bz p4=>
     Vg B7 λA s9 o9 ca hA=>Vg B7 λB sA oA r hB=>?_
    have p0:(A4 Ln).toI U=1:=by have:=(Va U _).1 p0;rw[E5]at this;exact Uw this
    have p1:=A0 p1;have p2:=aO p2;have p3:=A0 p3;have p4:=C0 p4;simp only[B4]at p4;rw[j5,i7]at p1;rw[i7]at p0;rw[j5,v7]at hB;have X:∀c,sA.get c=s3.get c:=λc=>by rw[oA.get,o9.get,o8.get,o7.get,o6.get,o5.get,o4.get]
    have V:sA.get b=some (.rows L e z' ph):=by grind
    have G:=G ax;have bl:=mK D.sz G x3;have hn:n=1:=by omega
    subst hn;have ba:news.length=ie.size:=by grind
    have ac:A.toR U=pQ (L.toR U) (off.toI U) (a.toI U):=by show(A.den U).rows=_;rw[hA];rfl
    have aq:B.toR U=pQ (L.toR U) (off.toI U+a.toI U) (len.toI U-a.toI U):=by show(B.den U).rows=_;rw[hB];rfl
    have ea:a.toI U=((a.toN U:Nat):Int):=by grind
    have N:∀m:Nat,len.toI U=(m:Int)->(y4 len (.int 1)).toI U=((m+1:Nat):Int):=λm hm=>by rw[j5,B4,hm];rfl
    cases h3 with
    |sl0 _ _ _ _ _ z _ _ _=>exact absurd (xF x1) (by omega)|sl _ _ _ _ _ j oj cm z g0 g1 gc=>
    have ay:=xF x1;have ab:∃q,(Value.slice (some ⟨j,oj+an.toN U*z2,none⟩) (ak.toN U) cm)= .slice (some ⟨j,q,none⟩) 1 cm:=⟨_,by rw[<-ay]⟩
    obtain⟨q,ab⟩:=ab;rw[ab]at x1⊢;have d:∃xx,sA.get J=some xx:=by rw[X];rcases DL ae with⟨_,_,_,h⟩| ⟨_,_,_,_,h⟩<;>exact⟨_,h⟩
    obtain⟨xx,d⟩:=d;have aw:∃cj kj ej zj,hp2.m.get j=some (.cells cj kj ej zj):=by rcases r.live J _ d with⟨i',o',y,k1,k2,_,k4⟩| ⟨k1,_⟩;rw[z]at k1;simp only[SQ,SU]at k1;obtain⟨rfl,rfl⟩:=k1;have:sA.get J=s3.get J:=X J;rcases DL ae with⟨l,ee,zz,h⟩| ⟨L',ee,zz,pp,h⟩;rw[this,h,SQ]at d;subst d;obtain⟨cs,nn,rfl,_⟩:=k4;grind;rw[this,h,SQ]at d;subst d;obtain⟨cs,nn,rfl,_⟩:=k4;grind;grind
    obtain⟨cj,kj,ej,zj,au⟩:=aw;cases h1 with
    |sl0 _ _ _ _ _ O h0 Z hc=>
     rcases r.live b _ V with⟨i',o',y,k1,_⟩| ⟨k1,L',e2,z2,cb,k2,k3,k4,k5⟩;grind
     .simp only[B0.rows.injEq]at k2;obtain⟨rfl,rfl,rfl,rfl⟩:=k2;have bn:a.toI U=0:=by omega
      obtain⟨v,hp',r1,rfl,rfl⟩:=Ov (hp:=hp2) (C:=COv ρ) D x1;have u:=Fx (P:=P) (ov:=ov) (C:=COv ρ) (args:=[.slice none 0 0,.int .i64 ((0:Nat):Int),.slice (some ⟨j,q,none⟩) 1 cm]) (λk=>by unfold COv;rw[Ih];exact ai) hg (by cases wkF P g<;>exact r1);have u:V6 P ov g [.slice none 0 0,.int .i64 (a.toI U),.slice (some ⟨j,q,none⟩) 1 cm] hp2 (.slice (some ⟨hp2.nx,0,none⟩) 1 (d8 1 0)) (hp2.new news e ie.size):=by grind
      have ao:A.toR U=[]:=by rw[ac,k3];simp[pQ]
      have ap:B.toR U=[]:=by grind
      have K:(F8 (F8 A Ln) B).toR U=Ln.toR U:=by rw[M8,M8,ao,ap];simp
      have W:p8 P U τ2 F2 e ie.size (.rows (F8 (F8 A Ln) B)) news:=by obtain⟨c1,c2,c3,c4⟩:=G;exact⟨c1,by rw[K];exact c2,by rw[K];exact c3,by rw[K];exact c4⟩
      intro Q hq _;obtain⟨d1,d2⟩:=r.drop b;obtain⟨d3,d4⟩:=d2.drop J;have H:(y4 len (.int 1)).toI U=((1:Nat):Int):=N 0 Z;obtain⟨f1,f2⟩:=d4.alloc (x:=(Src.rows (F8 (F8 A Ln) B)).blk e ie.size) (p:=some (hp2.nx,0)) (hp':=hp2.new news e ie.size) (Ur _) (λx hx=>by show(hp2.m.set _ _).get x=_;rw[VF,Tn (by omega)])
       (.inl ⟨hp2.nx,0,_,rfl,Tq _,Ue _,by show(hp2.m.set _ _).get _=_;rw[VF,Tp rfl],lZ (W.mono (bN _ (r.new _ (Tq _))) (Vd _)) (λy v hy=>by rw[TA];exact L7 news y v hy) (by omega)⟩)
      refine⟨_,_,hq,_,F2,_,(d1.trans d3).trans f1,f2,_,u,?_⟩;exact VK (t8 _ _ _) (Uh 0) (by rw[H];omega) (geN H (by omega)) (FD ie.size).symm (qA H).symm
    |sl _ _ _ _ _ i o cc O h0 Z hc=>
     obtain⟨lo,rfl,c1,c2⟩:=hc;rcases r.live b _ V with⟨i',o',y,k1,k2,kF,cs,k,rfl,k4,k5⟩| ⟨k1,_⟩
     .rw[O]at k1;simp only[SQ,SU]at k1;obtain⟨rfl,rfl⟩:=k1;subst bi;have av:j≠i:=r.inj J b _ _ j oj i o d V M z O;obtain⟨R,w1,w2,w3,w4⟩:=G6 (τ:=τ2) (off:=off.toI U) (len:=len.toI U) (L:= .op .part [L,off,len]) k4 h0 Z p1 rfl;have aa:R.all Value.oneCell'=true:=w3.ones rfl;have el:len.toI U=((len.toN U:Nat):Int):=by grind
      obtain⟨v,hp',r1,⟨⟨bb,q',al,ct,kk,rfl,n2,n3,n4,n5,n6,n7⟩,bj,am⟩⟩:=KK (hp:=hp2) D (i:=i) (o:=o+off.toN U*ie.size) (n:=len.toN U) (lo:=lo) (at_:=a.toN U) (Nat.max_le.2 ⟨c1,by omega⟩) (by omega) (by omega) av (r.lt b i o O) (r.lt J j oj z) k2 au w2 w1 x1 ba aa az (w3.noR Y) (G.noR Y);have u:=Js (ov:=ov) (λk=>by unfold COv;rw[Ih];exact ai) hg r1;rw[<-ea]at u;have H:=N _ el;have ad:=(m9 n7).1;refine(OKh.smove2 (x':= .rows (F8 (F8 A Ln) B)) (cp:= .ge) (hp1:=hp') (j:=bb) (q:=q') (n:=len.toN U+1) (c:=d8 al 0) V O d z M bj (λx hx be bg=>am x hx be bg) n3 n4 n5 (λτ' aj=>?_) H ⟨al,rfl,n2,by rw[H];omega⟩ r).mono λw τ' F' bp _ _ ⟨q1,q2⟩=>⟨_,by rw[q1];exact u,q2⟩
      refine lZ (vs:=R.take (a.toN U*ie.size)++news++R.drop (a.toN U*ie.size)) ?_ (λy v hy=>?_) (by rw[ad];exact n6);refine p8.mono aj (Vd _) (p8.app (p8.app ?_ G) ?_);have:=dQ (τ:=τ2) k4 h0 (Uh 0) (show 0<=a.toI U by omega) (show 0+a.toI U<=len.toI U by omega) p1 (L:=A) (by rw[ac];congr 1;omega) w1;grind;have:=dQ (τ:=τ2) k4 h0 (show 0<=a.toI U by omega) (show 0<=len.toI U-a.toI U by omega) (show a.toI U+(len.toI U-a.toI U)<=len.toI U by omega) p1 (L:=B) aq w1;rw[TT (by rw[TW,w4,<-Nat.sub_mul];exact Tg _ (by omega))]at this;exact this
      .have bh:y<(len.toN U+1)*ie.size:=by rw[<-ad];exact(SW.1 hy).1
       rw[<-(m9 n7).2 y bh];exact hy
     grind
  exact Vi
 exact Vi
theorem He {e:Ax}{ie:Ba}(D:jQ P g ρ e ie zv)(hg:isT (ov g)=false)(d:ov (ρ.f 27)=some (ρ.t 22)):C3 P U ov (sins P U e ie.size) g:=by
 intro l args τ F s hp hl hs;unfold sins;split
 .rename_i a x;obtain⟨y,k,rfl,h,hl⟩:=hl.uncons;obtain⟨A,m,rfl,i,hl⟩:=hl.uncons;obtain⟨B,n,rfl,j,hl⟩:=hl.uncons;have:=SZ hl.1.symm;subst this;cases i;cases h;cases hk:Nat.beq ie.size (kf P e).length with
  |false=>exact Vi|true=>have hk:=SY hk;intro Q hq _;obtain⟨h1,h2⟩:=hs.alloc (x:= .rows (.op .nil []) e ie.size (.int 0)) (Tq _) (λ_ _=>rfl) (.inr ⟨rfl,_,_,_,_,rfl,rfl,hk,Uh 0⟩);have hv:VD P U (put τ s.nx none) F (.sl s.nx ie.size (.int 0) (.int 0) .ge) (.slice none 0 0):= .sl0 s.nx ie.size (.int 0) (.int 0) .ge (t8 _ _ _) rfl rfl (λe he=>by grind);obtain⟨w,s',p,τ',F',hp',q,r,u⟩:=EI D hg d hv (j.mono (bN _ (hs.new _ (Tq _))) (Vd F)) h2 Q hq h2;exact⟨w,s',p,τ',F',hp',h1.trans q,r,u⟩
 .rename_i b z off len a x;obtain⟨y,k,rfl,h,hl⟩:=hl.uncons;obtain⟨A,m,rfl,i,hl⟩:=hl.uncons;obtain⟨B,n,rfl,j,hl⟩:=hl.uncons;have:=SZ hl.1.symm;subst this;cases i;cases hk:Nat.beq ie.size z with
  |false=>exact Vi|true=>have hk:=SY hk;subst hk;exact EI D hg d h j hs
 exact Vi
end
section
variable {P :Aw}{U:Ab}{ov:Aa}
abbrev D4:=List (Ay×(As->M SV))
variable (P U ov) in
def dC :D4->Prop
 | []=>True|p::xs=>(C3 P U ov p.2 p.1/\isT (ov p.1)=false)/\dC xs
variable (P U) in
def kM (l:List (Ay×Con)):D4->Ay->Bb (As->M SV)
 | [],g=>conP P U l g|p::xs,g=>bif Nat.beq p.1 g then some p.2 else kM l xs g
theorem Br {l:List (Ay×Con)}(a:O6 P U ov l):∀ {xs:D4},dC P U ov xs-> ∀g k,kM P U l xs g=some k->C3 P U ov k g
 | [],_,g,k,hk=>by
  unfold kM conP at hk;cases h:jV P U l g with
  |none=>grind|some k0=>rw[h]at hk;cases hk;exact Na (Du a g k0 h)
 |p::xs,hx,g,k,hk=>by
  unfold kM at hk;cases hb:Nat.beq p.1 g with
  |true=>rw[hb,Tk,SQ]at hk;rw[<-hk,<-SY hb];exact hx.1.1|false=>rw[hb,Tl]at hk;exact Br a hx.2 g k hk
theorem oP {l:List (Ay×Con)}:∀ {xs:D4},dC P U ov xs-> ∀g,isT (ov g)=true->kM P U l xs g=none->jV P U l g=none
 | [],_,g,_,hn=>by unfold kM conP at hn;grind|p::xs,hx,g,hg,hn=>by
  unfold kM at hn;cases hb:Nat.beq p.1 g with
  |true=>grind|false=>rw[hb,Tl]at hn;exact oP hx.2 g hg hn
variable {l:List (Ay×Con)}{xs:D4}{g:Ay}
def i4 (a:Ay->List (Nat×(Fm->SS->F9)))(d:O6 P U ov l)(hx:dC P U ov xs)(n:Nat){c:Con}{V:Prop}(he:(cvc P U c (sxF P U a (kM P U l xs) n g)).vc U (λ_=>True)=V)(hv:V)(b:∀g,isT (ov g)=true->jV P U l g≠none:=by exact noT)(hg:isT (ov g)=false:=by rfl):j2 P U ov c g:=
 AG (Of a (Br d hx) (λg hg hn=>b g hg (oP hx g hg hn)) n g hg) (he.symm▸hv)
def P8 (a:Ay->List (Nat×(Fm->SS->F9)))(d:O6 P U ov l)(hx:dC P U ov xs)(m:Nat){c:Con}(mu:Ar->Nat){V:Nat->Prop}(he:∀n,(cvc P U (c.below mu (n+1)) (sxF P U a (kM P U ((g,c.below mu n)::l) xs) m g)).vc U (λ_=>True)=V n)(hv:∀n,V n)(b:∀n,∀g',isT (ov g')=true->jV P U ((g,c.below mu n)::l) g'≠none)(hg:isT (ov g)=false:=by rfl):j2 P U ov c g:=
 GQ λn hn=>i4 a (l:=(g,c.below mu n)::l) ⟨hn,d⟩ hx m (he n) (hv n) (b n) hg
end
open Go.Xe Go.RowKit
section
variable {P :Aw}{U:Ab}{ov:Aa}
def tauR :Tau:=λb=>if b=0 then some (some (0,0))else none
def PC :Tle (λ_=>none) tauR:=λb p h=>by cases h
def Gk (hm:P.follows .mixedOrders=true)(W:∀g t,ov g=some t->kI P g t){c:Con}{f:Ay}(hg:j2 P U ov c f)(h2:c.res=[.one (.g .bool)])(K:∀d e,c.rel d e-> ∃r,e= .b true::r){es:Au}(G:es.length=(m8 c.inL).length)(J:c.pre (u5 U (m8 c.inL) es)){R:E}(D:gst c (F7 U (m8 c.inL) 0 es) (m8 c.inL).length=⟨[(0,some (.reg 0 R (kf P rgT).length))],1,[],(m8 c.inL).length,[]⟩)(hR:R.toR U=[]){xs ys:Af}{w:Bc}(hl:VDL P U (λ_=>none) (roF w) (fB c (F7 U (m8 c.inL) 0 es)) xs)(hx:VRL (EA w) xs ys):Calls P f ys.toArray w λe w'=>e= .returned (.bool true)/\Below w.heap.size w w':=by
 have hs:SD P U tauR (roF w) (gst c (F7 U (m8 c.inL) 0 es) (m8 c.inL).length) (Ey P w):=by
  rw[D];have get:∀b x,(⟨[(0,some (.reg 0 R (kf P rgT).length))],1,[],(m8 c.inL).length,[]⟩:SS).get b=some x->b=0/\x= .reg 0 R (kf P rgT).length:=by intro b x h;unfold SS.get at h;rw[z6]at h;by_cases e:0=b;rw[Tp e]at h;cases h;exact⟨e.symm,rfl⟩;rw[Tn e]at h;cases h
  refine⟨λb x hb=>?_,λb c x y i o j q hb hc V=>?_,λi b h=>(Nm P w i b h).1,λb i o h=>?_,λi b h=>(Nm P w i b h).2,λb h=>?_,λc t h=>(by simp at h),λr h=>(by simp at h)⟩;obtain⟨rfl,rfl⟩:=get b x hb;refine .inl ⟨0,0,_,rfl,vN P w,rfl,rfl,rfl,.e,by rw[hR];rfl,?_⟩;rw[hR];exact⟨by simp,rfl,λr h=>(by simp at h),λr k row d h=>(by simp at h)⟩;obtain⟨rfl,_⟩:=get b x hb;obtain⟨rfl,_⟩:=get c y hc;exact absurd rfl V;have h:(if b=0 then some (some (0,0))else none)=some (some (i,o)):=h;split at h;simp only[SQ,SU]at h;rw[<-h.1];exact Nat.succ_pos _;cases h;have h:1<=b:=h;exact Tn (by omega)
 obtain⟨v,τ',F',s',hp',vs,O,ad,N,nw,ab,⟨n0,hr⟩,_,_,r4,M,r6,r7,r8,_,_,_,_,_,_,aa⟩:=hg es G J _ _ _ xs hs (hl.mono PC (Vd _));obtain⟨rr,B⟩:=K _ _ aa;have H:c.outL= .g .bool::JJ c.post:=by unfold Con.outL;rw[h2];rfl
 rw[H]at r8 B;cases vs with
 |nil=>exact r8.elim|cons a aj=>
  obtain⟨r,p,ac,L,e2,n,ae⟩:=r8;obtain⟨e0,z⟩:=n.1 .b rfl;rw[z]at L;have L:N=e0::p:=L;subst L;have he:(e0.den U).toBool=true:=by have:Dat.b (e0.den U).toBool::_=Dat.b true::rr:=B;injection this with h _;injection h
  cases O with
  |nil=>rw[h2]at M;cases M
  |cons y m=>
   have T:m=[]:=by rw[h2]at M;have:(y::m).length=1:=M;exact SZ (by simpa using this)
   subst T;obtain⟨y',ak,e3,hy,ai⟩:=r4.uncons;have Z:y'=y:=by injection e3 with h _;exact h.symm
   subst Z;have h5:=n.2.2.2.1 y' hy τ' (λi=>(X9 0 c.blks.length++nw).getD i 0) 0 e0 (λi b hb=>by rw[List.getD,hb];rfl) (λe2 so A ah=>by rw[z,SQ]at A;subst A;cases so<;>rfl) (λb hb=>by have:=n.2.2.1 rfl;rw[this]at hb;cases hb);have h6:=r6 τ' F' [.bool e0] [] (.cons h5 .nil);rw[h2]at h6;have X:VD P U τ' F' (.bool e0) v:=h6;cases X;rw[he]at hr;refine((Ig hm W n0).run f xs (Ey P w) _ hp' (hr n0 (Tq _)) (BS.ro w) w (EA w) w ys hx (HR.ro P w)).mono λe w' he=>?_;obtain⟨σ',u,rfl,_,hv,Y⟩:=he;cases hv;exact⟨rfl,HR.roBelow Y⟩
end
mutual
def noFv (n:Nat):SV->Bool
 | .any=>true| .int _ _=>true| .bool _=>true| .str _=>true| .nilp=>true| .nils=>true| .sl _ _ _ _ _=>true| .agg l=>noFvs n l| .tup l=>noFvs n l|_=>false
def noFvs (n:Nat):As->Bool
 | []=>true|a::l=>noFv n a&&noFvs n l
end
theorem pF {n:Nat}:∀ {l:As},noFvs n l=true-> ∀ {i:Nat} {a:SV},l[i]? =some a->noFv n a=true
 | [],_,i,a,h=>by grind|b::l,h,0,a,d=>by unfold noFvs at h;grind|b::l,h,i+1,a,d=>by unfold noFvs at h;rw[SR]at h;exact pF h.2 (by simpa using d)
section
variable {P :Aw}{U:Ab}{ov:Aa}
def VD.noF {n:Nat}{τ:Tau}{F F':Ac}{a:SV}{v:Av}(h:VD P U τ F a v)(hn:noFv n a=true):VD P U τ F' a v:=by
 induction h with
 |any v=>exact .any v|int k e=>exact .int k e|bool e=>exact .bool e|str e=>exact .str e|nilp=>exact .nilp|nils=>exact .nils|sl b z off len cap i o c k h0 h1 hc=>exact .sl b z off len cap i o c k h0 h1 hc|sl0 b z off len cap k h0 h1 hc=>exact .sl0 b z off len cap k h0 h1 hc|agg l xs h1 _ f=>exact .agg l xs h1 λi a x d hx=>f i a x d hx (pF (hn) d)
 |tup l xs h1 _ f=>exact .tup l xs h1 λi a x d hx=>f i a x d hx (pF (hn) d)
 |_=>simp[noFv]at hn
end
def rok (s s':SS):Bool:=(s'.h.take (s'.h.length-s.h.length)).all λp=>Nat.ble s.nx p.1
def rst (c:Con)(s:SS)(es:Au):SS:= {s with h:=Y6 (E8 c.res) es (s.nx+1)++((s.nx,none)::s.h),nx:=s.nx+1+H7 (E8 c.res),fv:=s.fv+(m8 (E8 c.res)).length}
section
variable (P :Aw)(U:Ab)
def Qg (c:Con)(s0:SS)(es:Au)(a:SV):M Unit:=match Kj c.res a with
 |none=>b9 "contract: result"|some l=>match mN c.res l with
  |none=>b9 "contract: results"|some fl1=>c8 (zY P U (E8 c.res) fl1) λvs=>c8 (mtL U [] (E8 c.res) vs) λt=>v8 λs2=>
   bif rok s0 s2&&t.2.all (Nat.ble s0.nx)&&cD t.2&&Nat.beq t.2.length (H7 (E8 c.res))then
    λ_=>.need (.pt (c.name++ "Rel") [(m8 c.inL).zip es,(m8 (E8 c.res)).zip t.1]) (c.rel (u5 U (m8 c.inL) es) (u5 U (m8 (E8 c.res)) t.1)) .done
   else b9 "contract: it writes"
def cvr (c:Con)(run:As->M SV):Tr (Unit×SS):=
 Dk (m8 c.inL) 0 λes=>.asm (.pt (c.name++ "Pre") [(m8 c.inL).zip es]) (c.pre (u5 U (m8 c.inL) es)) ((c8 (run (fB c es)) (Qg P U c (gst c es (m8 c.inL).length) es)) (gst c es (m8 c.inL).length))
def kro (c:Con)(args:As):M SV:=v8 λs0=>match mN c.args args with
 |none=>b9 "contract: arguments"|some fl1=>match c.find args s0 with
  |none=>b9 "contract: no blocks"|some bl=>match oN s0 c.blks bl with
   |none=>b9 "contract: blocks"|some fl2=>c8 (zY P U c.inL (fl1++fl2)) λvs=>c8 (mtL U bl c.inL vs) λt=>v8 λs1=>
    bif bl.all (uD s1)&&cD (bl++t.2)&&Nat.beq t.2.length (H7 c.inL)then
     λ_=>.need (.pt (c.name++ "Pre") [(m8 c.inL).zip t.1]) (c.pre (u5 U (m8 c.inL) t.1)) (Dk (m8 (E8 c.res)) s1.fv λds=>.asm (.pt (c.name++ "Rel") [(m8 c.inL).zip t.1,(m8 (E8 c.res)).zip ds]) (c.rel (u5 U (m8 c.inL) t.1) (u5 U (m8 (E8 c.res)) ds))
      (.ret (AB c.res (DX c.res (Ly idN (E8 c.res) ds (s1.nx+1))),rst c s1 ds)))
    else b9 "contract: the start"
end
section
variable {P :Aw}{U:Ab}{ov:Aa}
variable (P U ov) in
def RRO (c:Con)(g:Ay):Prop:=∀(es:Au),es.length=(m8 c.inL).length->c.pre (u5 U (m8 c.inL) es)-> ∀τ F hp xs,SD P U τ F (gst c (F7 U (m8 c.inL) 0 es) (m8 c.inL).length) hp->VDL P U τ F (fB c (F7 U (m8 c.inL) 0 es)) xs->
 ∃v F' hp' es' τ' s' vs fx accs,V6 P ov g xs hp v hp'/\hp.nx<=hp'.nx/\Fle F F'/\(∀i y,F' i=some y->hp'.m.get i=some y/\i<hp'.nx)/\(∀i,i<hp.nx->hp'.m.get i=hp.m.get i)/\(∀i y,i<hp.nx->F' i=some y->F i=some y)/\
  es'.length=(m8 (E8 c.res)).length/\c.rel (u5 U (m8 c.inL) es) (u5 U (m8 (E8 c.res)) es')/\SD P U τ' F' s' hp'/\jJ P U [] τ' F' s' (E8 c.res) vs es' accs/\VDL P U τ' F' vs fx/\
  (∀b∈accs,∀i o,τ' b=some (some (i,o))->hp.nx<=i)/\cD accs=true/\accs.length=H7 (E8 c.res)/\ ∀τ2 ws,VDL P U τ2 F' ws fx->VD P U τ2 F' (AB c.res (DX c.res ws)) v
variable {c:Con}{g:Ay}
def RY {run:As->M SV}(D:C3 P U ov run g)(Z:(cvr P U c run).vc U λ_=>True):RRO P U ov c g:=by
 intro es k B τ F hp xs hs hx;have hq:=iG (U:=U) _ _ _ Z es k;have hq:=hq (by rw[J2 _ _ _ k];exact B);generalize hds:F7 U (m8 c.inL) 0 es=ds at*;rw[A5]at hq;obtain⟨a,s1,hq,τ1,F1,hp1,L,hs1,v,q,Y⟩:=D _ xs τ F _ hp hx hs _ hq hs;unfold Qg at hq;cases c1:Kj c.res a with
 |none=>rw[c1]at hq;exact hq.elim|some l=>
 rw[c1]at hq;simp only at hq;cases c2:mN c.res l with
 |none=>rw[c2]at hq;exact hq.elim|some O=>
 rw[c2]at hq;simp only at hq;obtain⟨us,V,W⟩:=IF c1 Y;obtain⟨z,R,ab,T⟩:=mO c2 V;rw[A5]at hq;obtain⟨vs,s2,hq,τ2,J,hp2,N,r,rfl,aa⟩:=gI (E8 c.res) O z τ1 F1 s1 hp1 R hs1 _ hq hs1;rw[A5]at hq;obtain⟨⟨w,d⟩,E,hq,o3,A,X⟩:=uO (P:=P) (τ:=τ2) (F:=J) [] (E8 c.res) vs s2 _ hq r.fc;simp only[v8]at hq;cases K:rok (gst c ds (m8 c.inL).length) E&&d.all (Nat.ble (gst c ds (m8 c.inL).length).nx)&&cD d&&Nat.beq d.length (H7 (E8 c.res))with
 |false=>rw[K]at hq;exact hq.elim|true=>
 rw[K]at hq;simp only[SR,TJ,Ty]at K;obtain⟨⟨⟨k1,k3⟩,k4⟩,k2⟩:=K;have n:c.rel (u5 U (m8 c.inL) ds) (u5 U (m8 (E8 c.res)) w):=hq.1;have hd:u5 U (m8 c.inL) ds=u5 U (m8 c.inL) es:=by rw[<-hds];exact J2 _ _ _ k
 rw[hd]at n;have u:=r.only o3 A;have ex:=L.trans (N.trans (Vc r o3));have hm:=X E o3.h;unfold rok at k1;rw[Ty]at k1;obtain⟨l,a1,a2,a3,a4,_⟩:=ex.hh;have hl:E.h.take (E.h.length-(gst c ds (m8 c.inL).length).h.length)=l:=by rw[a1,Tv,Nat.add_sub_cancel,List.take_left'];rfl
 have j:∀b∈l.map Prod.fst,(gst c ds (m8 c.inL).length).nx<=b:=by intro b hb;obtain⟨p,hp,rfl⟩:=Uy.1 hb;rw[hl]at k1;simpa using k1 p hp
 have G:∀i,i<hp.nx->hp2.m.get i=hp.m.get i:=λi hi=>a2 i hi λb x o hb _ hm=>by have:=j b hm;have:=hs.bound hb;omega
 refine⟨v,J,hp2,w,τ2,E,vs,z,d,q,ex.nx,ex.f,λi y h=>⟨u.frz i y h,u.flt i y h⟩,G,λi y hi hy=>?_,hm.len,n,u,hm,aa,λb hb i o ht=>?_,k4,k2,λH ws h5=>?_⟩;rcases a4 i y hi hy with h| ⟨b,o,h1,h2⟩;exact h;rcases a3 b i o (j b h2) h1 with h| ⟨b0,x,o0,h2,_,h3⟩;omega;have:=j b0 h3;have:=hs.bound h2;omega;rcases a3 b i o (SX (k3 b hb)) ht with h| ⟨b0,x,o0,h2,_,h3⟩;exact h;have:=j b0 h3;have:=hs.bound h2;omega;have h6:=W H J _ (T H J _ [] h5);rwa[UF]at h6
def G7 (hg:RRO P U ov c g):C3 P U ov (kro P U c) g:=by
 intro l args τ F s hp hl hs Q hq _;unfold kro at hq;simp only[v8]at hq;cases c1:mN c.args l with
 |none=>rw[c1]at hq;exact hq.elim|some ae=>
 rw[c1]at hq;simp only at hq;cases c2:c.find l s with
 |none=>rw[c2]at hq;exact hq.elim|some O=>
 rw[c2]at hq;simp only at hq;cases c3:oN s c.blks O with
 |none=>rw[c3]at hq;exact hq.elim|some ah=>
 rw[c3]at hq;simp only at hq;obtain⟨W,ao,ap,aq⟩:=mO c1 hl;obtain⟨ai,ak,al⟩:=mJ hs c3;rw[A5]at hq;obtain⟨vs,s2,hq,τ2,F2,hp2,T,L,rfl,aw⟩:=gI c.inL (ae++ah) (W++ai) τ F s hp (ao.append ak) hs _ hq hs;rw[A5]at hq;obtain⟨⟨es,n⟩,a,hq,o3,Z,av⟩:=uO (P:=P) (τ:=τ2) (F:=F2) O c.inL vs s2 _ hq L.fc;simp only[v8]at hq;cases c5:O.all (uD a)&&cD (O++n)&&Nat.beq n.length (H7 c.inL)with
 |false=>rw[c5]at hq;exact hq.elim|true=>
 rw[c5]at hq;simp only[SR,Ty,TJ]at c5;obtain⟨⟨k1,k2⟩,k3⟩:=c5;have f:=L.only o3 Z;have hm:=av a o3.h;have D:=hm.len;have E:c.pre (u5 U (m8 c.inL) es):=hq.1;have K:∀b∈O,∃x,a.get b=some x:=λb hb=>oY (k1 b hb);have am:=al.mono T.t;obtain⟨g1,g2,g3⟩:=Mg (fv:=(m8 c.inL).length) f aw ap am hm k2 K k3 (M2 (m8 c.inL) 0 es D);have J:VDL P U (rX τ2 (O++n)) F2 (fB c (F7 U (m8 c.inL) 0 es)) args:=by obtain⟨w1,_⟩:=g2.split;have:=aq _ _ _ ((mS c (F7 U (m8 c.inL) 0 es)).drop W.length) w1;rw[UI]at this;exact this
 obtain⟨v,F',hp',H,τ',s',bb,fx,bs,r1,r2,r3,r4,r5,r6,r7,r8,r9,ab,ax,ac,ay,ba,az⟩:=hg es D E _ F2 hp2 args g1 J;have hQ:=iG (U:=U) _ _ _ (hq.2 E) H r7 (by rw[J2 _ _ _ r7];exact r8);have M:=M2 (U:=U) (m8 (E8 c.res)) a.fv H r7;generalize F7 U (m8 (E8 c.res)) a.fv H=ds at hQ M;have lo:∀b,b<a.nx+1->Q8 τ2 τ' (a.nx+1) bs b=τ2 b:=λb hb=>eE hb;have hi:∀k b,bs[k]? =some b->Q8 τ2 τ' (a.nx+1) bs (a.nx+1+k)=τ' b:=λk b h=>jA h;have ad:∀b p,τ2 b=some p->b<a.nx:=λb p hb=>Nat.lt_of_not_le λau=>by rw[f.new b au]at hb;cases hb
 have w:Tle τ2 (Q8 τ2 τ' (a.nx+1) bs):=λb p hb=>by rw[lo b (Nat.lt_succ_of_lt (ad b p hb))];exact hb
 have N:=ab.vals (τ2:=Q8 τ2 τ' (a.nx+1) bs) (num:=idN) M (λi b h=>by simp at h) hi ax;have Y:=ab.blks (nb:=a.nx+1) M;have u:∀b x,(rst c a ds).get b=some x->(∃k b' x',b=a.nx+1+k/\bs[k]? =some b'/\s'.get b'=some x'/\(∀(τ2:Tau) o z,BD P U τ' F' o x' z->BD P U τ2 F' o x z)/\(E6 P U x'->E6 P U x))\/a.get b=some x:=by
  intro b x an;have d:(match lk (Y6 (E8 c.res) ds (a.nx+1)++((a.nx,none)::a.h)) b with|some x=>x|none=>none)=some x:=an;rw[K2]at d;cases c2:lk (Y6 (E8 c.res) ds (a.nx+1)) b with
  |some y=>rw[c2]at d;simp only at d;subst d;obtain⟨k,b',X,x',B,m,G,R,e5,e6⟩:=Y b _ c2;cases G;exact .inl ⟨k,b',x',B,m,R,e5,e6⟩
  |none=>rw[c2]at d;simp only[z6]at d;by_cases e:a.nx=b;rw[Tp e]at d;cases d;rw[Tn e]at d;exact .inr d
 have V:∀k b' i o,bs[k]? =some b'->Q8 τ2 τ' (a.nx+1) bs (a.nx+1+k)=some (some (i,o))->hp2.nx<=i:=λk b' i o e h=>by rw[hi k b' e]at h;exact ac b' (Td e) i o h
 have A:∀b x,a.get b=some x->b<a.nx+1:=λb x h=>Nat.lt_succ_of_lt (f.bound h);have EX:Ext τ2 F2 a hp2 (Q8 τ2 τ' (a.nx+1) bs) F' (rst c a ds) hp':=by
  refine⟨w,r3,r2,?_,λb hb=>lo b (Nat.lt_succ_of_lt hb),λb x hb hlt=>?_,⟨Y6 (E8 c.res) ds (a.nx+1)++ [(a.nx,none)],?_,λi hi _=>r5 i hi,λb i o hb ht=>.inl ?_,λi y hi hy=>.inl (r6 i y hi hy),λhp=>absurd rfl (hp (a.nx,none) (by simp))⟩,⟨[],rfl⟩,
   ⟨Y6 (E8 c.res) ds (a.nx+1)++ [(a.nx,none)],?_,λ_ _ _ _ i _ cs _ _ _ hi hg _=>⟨cs,by rw[r5 i hi];exact hg,λ_ _=>rfl⟩⟩⟩
  show a.nx<=a.nx+1+H7 (E8 c.res);omega;rcases u b x hb with⟨k,_,_,rfl,_⟩|h;omega;exact⟨x,h⟩;show Y6 (E8 c.res) ds (a.nx+1)++((a.nx,none)::a.h)=_;rw[Th];rfl;by_cases e:b<a.nx+1;rw[lo b e,f.new b hb]at ht;cases ht;unfold Q8 at ht;rw[Tn e]at ht;split at ht;rename_i b' aj;exact ac b' (Td aj) i o ht;cases ht;show Y6 (E8 c.res) ds (a.nx+1)++((a.nx,none)::a.h)=_;rw[Th];rfl
 refine⟨_,_,hQ,_,F',hp',(T.trans (Vc L o3)).trans EX,⟨λb x hb=>?_,λb c2 x y i o j q hb hc aa B m=>?_,λi b h=>(r4 i b h).1,λb i o h=>?_,λi b h=>(r4 i b h).2,λb hb=>?_,f.fc,λr hr=>(f.fz r hr).mono w r3⟩,v,r1,az _ _ N⟩
 .rcases u b x hb with⟨k,b',x',rfl,m,G,R,e5⟩|h;rcases r9.live b' x' G with⟨i,o,y,k1,k2,k3,k4⟩| ⟨k1,k2⟩;exact .inl ⟨i,o,y,by rw[hi k b' m];exact k1,k2,k3,R _ o y k4⟩;exact .inr ⟨by rw[hi k b' m];exact k1,e5 k2⟩
  .rw[lo b (A b x h)];rcases f.live b x h with⟨i,o,y,h1,h2,h3,h4⟩|h
   .have hi:=f.lt b i o h1;refine .inl ⟨i,o,y,h1,by rw[r5 i hi];exact h2,?_,h4.mono w r3⟩;cases hF:F' i with
    |none=>rfl|some y'=>rw[r6 i y' hi hF]at h3;cases h3
   exact .inr h
 rcases u b x hb with⟨k,b',x',rfl,G,R,_⟩|h;rcases u c2 y hc with⟨k2,b2,x2,rfl,f3,f4,_⟩|h2;rw[hi k b' G]at B;rw[hi k2 b2 f3]at m;exact r9.inj b' b2 x' x2 i o j q R f4 (λe=>aa (by subst e;rw[cE ay k k2 b' G f3])) B m;have:=V k b' i o G B;rw[lo c2 (A c2 y h2)]at m;have:=f.lt c2 j q m;omega;rw[lo b (A b x h)]at B;rcases u c2 y hc with⟨k2,b2,x2,rfl,f3,f4,_⟩|h2;have:=V k2 b2 j q f3 m;have:=f.lt b i o B;omega;rw[lo c2 (A c2 y h2)]at m;exact f.inj b c2 x y i o j q h h2 aa B m;by_cases e:b<a.nx+1;rw[lo b e]at h;exact TX (f.lt b i o h) r2;unfold Q8 at h;rw[Tn e]at h;split at h;exact r9.lt _ i o h;cases h;have hb:a.nx+1+H7 (E8 c.res)<=b:=hb;unfold Q8;rw[Tn (by omega),US (by omega)]
variable {l:List (Ay×Con)}{xs:D4}
def R4 (a:Ay->List (Nat×(Fm->SS->F9)))(d:O6 P U ov l)(hx:dC P U ov xs)(n:Nat){V:Prop}(he:(cvr P U c (sxF P U a (kM P U l xs) n g)).vc U (λ_=>True)=V)(hv:V)(b:∀g,isT (ov g)=true->jV P U l g≠none:=by exact noT)(hg:isT (ov g)=false:=by rfl):RRO P U ov c g:=
 RY (Of a (con:=kM P U l xs) (Br d hx) (λg hg hn=>b g hg (oP hx g hg hn)) n g hg) (he.symm▸hv)
def Pr {mu:Ar->Nat}(h:∀n,RRO P U ov (c.below mu n) g->RRO P U ov (c.below mu (n+1)) g):RRO P U ov c g:=by
 have all:∀n,RRO P U ov (c.below mu n) g:=λn=>by
  induction n with
  |zero=>intro es _ a;exact absurd a.2 (Nat.not_lt_zero _)
  |succ n d=>exact h n d
 intro es b a;exact all (mu (u5 U (m8 c.inL) es)+1) es b ⟨a,Ue _⟩
def Pq (a:Ay->List (Nat×(Fm->SS->F9)))(d:O6 P U ov l)(hx:dC P U ov xs)(m:Nat)(mu:Ar->Nat){V:Nat->Prop}(he:∀n,(cvr P U (c.below mu (n+1)) (sxF P U a (kM P U l ((g,kro P U (c.below mu n))::xs)) m g)).vc U (λ_=>True)=V n)(hv:∀n,V n)(b:∀g',isT (ov g')=true->jV P U l g'≠none:=by exact noT)(hg:isT (ov g)=false:=by rfl):RRO P U ov c g:=
 Pr λn hn=>R4 a d (xs:=(g,kro P U (c.below mu n))::xs) ⟨⟨G7 hn,hg⟩,hx⟩ m (he n) (hv n) b hg
end
section
variable {P :Aw}{U:Ab}{ov:Aa}
variable (U) in
def wkM (run:As->M SV)(l:As):M SV:=match l with
 | .sl b z off len cap::r=>match cap with
  | .ge=>run (.sl b z off len .ge::r)|cap=>v8 λs=>match s.get b with
   | some (.rows L e z' ph) => bif Nat.beq z z' then c8 (match cap with
     | .ex c=>l9 U (E9 c len)|_=>i5 ()) λ_=>c8 (l9 U (y5 (y6 (A4 L) (y4 off len)))) λ_=>c8 (l9 U (y6 len (.int 67108865))) λ_=>run (.sl b z off len .ge::r)
    else b9 "full: size"
   |_=>b9 "full: block"
 |l=>run l
variable {g:Ay}
def PK (d:wkF P g=true)(hg:isT (ov g)=false){a b:Av}{r:Af}{hp hp':Hp}{v:Av}(h1:wkA hp (a::r)=b::r)(h2:wkA hp (b::r)=b::r)(h:V6 P ov g (b::r) hp v hp'):V6 P ov g (a::r) hp v hp':=by
 obtain⟨m,h⟩:=h;refine⟨m+1,λn hn=>?_⟩;obtain⟨k,rfl⟩:∃k,n=k+1:=⟨n-1,by omega⟩
 have h:(C6 P ov (k+1)).run g (b::r) hp=some (v,hp'):=h (k+1) (by omega);have e:∀x:Av,(C6 P ov (k+1)).run g (x::r) hp=fH (S6 P (v6 P) (C6 P ov k) (P9 P (v6 P) (C6 P ov k) k) k g) (wkA hp (x::r)) hp:=λx=>by show(bif isT (ov g)&&(x::r).isEmpty then some (.bool true,hp)else fH (S6 P (v6 P) (C6 P ov k) (P9 P (v6 P) (C6 P ov k) k) k g) (bif wkF P g then wkA hp (x::r)else(x::r)) hp)=_;rw[hg,Bool.false_and,Tl,d,Tk]
 rw[e,h2]at h;rw[e,h1];exact h
def Sz {run:As->M SV}(hr:C3 P U ov run g)(w:wkF P g=true)(hg:isT (ov g)=false):C3 P U ov (wkM U run) g:=by
 intro l args τ F s hp hl hs;unfold wkM;split
 .rename_i b z off len cap r;split;exact hr _ _ _ _ _ _ hl hs
  .rename_i hge;refine Vj ?_;split
   .rename_i L e H ph hb;cases hz:Nat.beq z H with
    |false=>exact Vi|true=>
    simp only[Tk];have hz:=SY hz;subst hz;have first:OKp U (match cap with| .ex c=>l9 U (E9 c len)|_=>i5 ()) s λ_=>∀c,mI U len cap c->c=len.toN U\/ ∃lo,c=d8 lo 0/\lo<=67108864/\len.toI U<=67108864:=by
     cases cap with
     |ex c=>refine OKp.need.mono λ_ h c' hc=>.inl ?_;have h:=(Va U _).1 h;rw[E5]at h;have h:=Uw h;obtain⟨_,h2,_⟩:=hc;rw[h2];show(c.toI U).toNat=(len.toI U).toNat;rw[h]
     |ge=>exact absurd rfl (hge)|un=>refine Vq λc hc=>?_;rcases hc with⟨_,h,_⟩|h;exact .inl h;exact .inr h
    refine Vg first λ_ s1 x hs1 hc=>Vg Vm λ_ s2 A u p1=>Vg Vm λ_ D B f p2=>?_
    have p1:=A0 p1;have p2:=C0 p2;rw[j5,i7]at p1;simp only[B4]at p2;have m:D.get b=some (.rows L e z ph):=by rw[B.get,A.get,x.get];exact hb
    obtain⟨y,ys,rfl,G,j⟩:=hl.uncons;cases G with
    |sl0 _ _ _ _ _ d h0 h1 _=>exact hr _ _ _ _ _ _ (.cons (.sl0 b z off len .ge d h0 h1 (λe he=>by cases he)) j) f|sl _ _ _ _ _ i o c d h0 h1 k=>
     rcases hc c k with h| ⟨lo,rfl,h2,h3⟩
     .have J:len.toI U=((len.toN U:Nat):Int):=by show len.toI U=(((len.toI U).toNat:Nat):Int);omega
      have p:VDL P U τ F (.sl b z off len .ge::r) (.slice (some ⟨i,o+off.toN U*z,none⟩) (len.toN U) (d8 (len.toN U) 0)::ys):= .cons (.sl b z off len .ge i o _ d h0 h1 ⟨len.toN U,rfl,by omega,by omega⟩) j;refine(hr _ _ _ _ _ _ p f).mono λa τ' F' hp' _ _ ⟨v,hx,hv⟩=>⟨v,PK w hg ?_ Jk hx,hv⟩
      rcases f.live b _ m with⟨N,o',O,k1,k2,_,cs,n,rfl,⟨k3,_⟩,_⟩| ⟨k1,_⟩
      .rw[d]at k1;simp only[SQ,SU]at k1;obtain⟨rfl,rfl⟩:=k1;subst h;have h4:Nat.ble (len.toN U) 67108864=true:=Ta (by omega);have q:Nat.ble (o+off.toN U*z+len.toN U*z) n=true:=Ta (by
        have K:off.toI U=((off.toN U:Nat):Int):=by show off.toI U=(((off.toI U).toNat:Nat):Int);omega
        have:off.toN U+len.toN U<=(L.toR U).length:=by omega
        have:=Tg z this;rw[TF]at this;omega)
       simp only[wkA,h4,Tk,k2,q]
      rw[d]at k1;cases k1
     exact hr _ _ _ _ _ _ (.cons (.sl b z off len .ge i o _ d h0 h1 ⟨lo,rfl,h2,h3⟩) j) f
   exact Vi
 exact hr _ _ _ _ _ _ hl hs
end
section
variable {P :Aw}{ov:Aa}{ar:Ai}{nt:Nat}
structure H4 (hp hp':Hp):Prop where
 nx:hp.nx<=hp'.nx
 dfr:∀r,r<hp.nx->hp.m.get r=some .dfr->hp'.m.get r=some .dfr
def H4.refl (hp:Hp):H4 hp hp:=⟨Tq _,λ_ _ h=>h⟩
def H4.trans {a b c:Hp}(h:H4 a b)(k:H4 b c):H4 a c:=⟨Ub h.nx k.nx,λr hr h0=>k.dfr r (TX hr h.nx) (h.dfr r hr h0)⟩
def Ext.keeps {U:Ab}{τ τ':Tau}{F F':Ac}{s s':SS}{hp hp':Hp}(h:Ext τ F s hp τ' F' s' hp')(hs:SD P U τ F s hp):H4 hp hp':=
 ⟨h.nx,λr hr h0=>h.dfr hs hr h0 (.inl rfl)⟩
variable (P ov ar nt) in
structure XK (c:Code)(tm:Ao)(hp:Hp)(e:Exit)(tm':Ao)(hp':Hp):Prop where
 run:XC P ov ar nt c tm hp e tm' hp'
 kp:H4 hp hp'
variable {c c1 c2:Code}{tm tm1 tm':Ao}{hp hp1 hp':Hp}{e:Exit}
def XK.seq (h:XK P ov ar nt c1 tm hp .normal tm1 hp1)(k:XK P ov ar nt c2 tm1 hp1 e tm' hp'):XK P ov ar nt (.seq c1 c2) tm hp e tm' hp':=
 ⟨h.run.comp k.run h.kp.nx k.kp.nx k.kp.dfr λn m ds d f a b=>by simp only[j8,a,b],h.kp.trans k.kp⟩
def XK.seqX (h:XK P ov ar nt c1 tm hp e tm' hp')(he:e≠ .normal):XK P ov ar nt (.seq c1 c2) tm hp e tm' hp':=
 ⟨h.run.map λn m ds b a=>by simp only[j8,a];cases e<;>first|rfl|exact absurd rfl he,h.kp⟩
def XK.condT {o:Az}(hc:i6 tm o=some (.bool true))(h:XK P ov ar nt c1 tm hp e tm' hp'):XK P ov ar nt (.cond o c1 c2) tm hp e tm' hp':=
 ⟨h.run.map λn m ds b a=>by simp only[j8,hc,a],h.kp⟩
def XK.condF {o:Az}(hc:i6 tm o=some (.bool false))(h:XK P ov ar nt c2 tm hp e tm' hp'):XK P ov ar nt (.cond o c1 c2) tm hp e tm' hp':=
 ⟨h.run.map λn m ds b a=>by simp only[j8,hc,a],h.kp⟩
def XK.skip :XK P ov ar nt .skip tm hp .normal tm hp:=⟨.of0 ⟨0,λn m ds _ _=>rfl⟩,.refl _⟩
def XK.ret :XK P ov ar nt .ret tm hp .ret tm hp:=⟨.of0 ⟨0,λn m ds _ _=>rfl⟩,.refl _⟩
variable {id:Nat}
def XK.exit :XK P ov ar nt (.exit id) tm hp (.exit id) tm hp:=⟨.of0 ⟨0,λn m ds _ _=>rfl⟩,.refl _⟩
def XK.block (h:XK P ov ar nt c tm hp .normal tm' hp'):XK P ov ar nt (.block id c) tm hp .normal tm' hp':=
 ⟨h.run.map λn m ds b a=>by simp only[j8,a],h.kp⟩
def XK.blockX (h:XK P ov ar nt c tm hp (.exit id) tm' hp'):XK P ov ar nt (.block id c) tm hp .normal tm' hp':=
 ⟨h.run.map λn m ds b a=>by simp only[j8,a,u7 rfl,Tk],h.kp⟩
def XK.loopN (h:XK P ov ar nt c tm hp .normal tm1 hp1)(k:XK P ov ar nt (.loop c) tm1 hp1 e tm' hp'):XK P ov ar nt (.loop c) tm hp e tm' hp':=
 ⟨h.run.comp k.run h.kp.nx k.kp.nx k.kp.dfr λn m ds d f a b=>by simp only[j8,a,b],h.kp.trans k.kp⟩
def XK.loopX (h:XK P ov ar nt c tm hp e tm' hp')(he:e≠ .normal):XK P ov ar nt (.loop c) tm hp e tm' hp':=
 ⟨h.run.map λn m ds b a=>by simp only[j8,a];cases e<;>first|rfl|exact absurd rfl he,h.kp⟩
variable {ops:Am}
def XK.region (h:XOps P ov nt ops.toList ops.toList tm hp tm' hp')(k:H4 hp hp'):XK P ov ar nt (.region id ops false) tm hp .normal tm' hp':=by obtain⟨n0,h⟩:=h;exact⟨.of0 ⟨n0,λn m ds hn _=>by simp only[j8,Tl,h n hn]⟩,k⟩
def XK.draw (h:EV λn=>v6 P (C6 P ov n) nt ops.toList tm hp=some (tm',hp'))(k:H4 hp hp'):XK P ov ar nt (.region id ops true) tm hp .normal tm' hp':=by obtain⟨n0,h⟩:=h;exact⟨.of0 ⟨n0,λn m ds hn _=>by simp only[j8,Tk,h n hn]⟩,k⟩
variable (P ov nt) in
def YO (all l:An)(tm:Ao)(hp:Hp)(Q:Ao->Hp->Prop):Prop:=∃tm1 hp1,XOps P ov nt all l tm hp tm1 hp1/\Q tm1 hp1
variable (P ov ar nt) in
def YN (c:Code)(tm:Ao)(hp:Hp)(Q:Ao->Hp->Prop):Prop:=∃tm1 hp1,XK P ov ar nt c tm hp .normal tm1 hp1/\Q tm1 hp1
variable {Q :Ao->Hp->Prop}{all rest:An}{o:Oper}{v:Av}{t:Tmp}
def YO.nil (h:Q tm hp):YO P ov nt all [] tm hp Q:=⟨_,_,.of λ_=>xP,h⟩
def YO.cons (h1:C4 nt o.dst=true)(h2:o.guard=none)(h:XOp P ov o.op tm hp v hp1)(k:YO P ov nt all rest (y7 tm o.dst v) hp1 Q):YO P ov nt all (o::rest) tm hp Q:=by obtain⟨t1,d,k1,k2⟩:=k;refine⟨t1,d,(h.and k1).mono λn ⟨a,b⟩=>?_,k2⟩;rw[U2,h1,Tk,a];simp only[v5,h2,Tk];exact b
def YO.op (h1:C4 nt o.dst=true)(h2:o.guard=none)(h:∀call,xop P call tm hp o.op=some (v,hp1))(k:YO P ov nt all rest (y7 tm o.dst v) hp1 Q):YO P ov nt all (o::rest) tm hp Q:= .cons h1 h2 (.of λ_=>h _) k
def YO.mv (h1:C4 nt o.dst=true)(h2:o.guard=none)(h:o.op= .move (.tmp t))(hv:tm.get t=some v)(k:YO P ov nt all rest (y7 tm o.dst v) hp Q):YO P ov nt all (o::rest) tm hp Q:=
 .op h1 h2 (λ_=>by rw[h];simp only[xop,i6,j3,hv,TL]) k
def YO.asg (h1:C4 nt o.dst=true)(h2:o.guard=none)(h:o.op= .assign (.tmp t))(hv:tm.get t=some v)(k:YO P ov nt all rest (y7 tm o.dst v) hp Q):YO P ov nt all (o::rest) tm hp Q:=
 .op h1 h2 (λ_=>by rw[h];simp only[xop,i6,j3,hv,TL]) k
def YN.region (h:YO P ov nt ops.toList ops.toList tm hp λt1 h1=>H4 hp h1/\Q t1 h1):YN P ov ar nt (.region id ops false) tm hp Q:=by obtain⟨t1,h1,k1,k2,k3⟩:=h;exact⟨t1,h1,.region k1 k2,k3⟩
def YN.seq (h:YN P ov ar nt c1 tm hp λt1 h1=>YN P ov ar nt c2 t1 h1 Q):YN P ov ar nt (.seq c1 c2) tm hp Q:=by obtain⟨t1,h1,k1,t2,h2,k2,k3⟩:=h;exact⟨t2,h2,k1.seq k2,k3⟩
def YN.skip (h:Q tm hp):YN P ov ar nt .skip tm hp Q:=⟨_,_,.skip,h⟩
def YN.condT {o:Az}(hc:i6 tm o=some (.bool true))(h:YN P ov ar nt c1 tm hp Q):YN P ov ar nt (.cond o c1 c2) tm hp Q:=by obtain⟨t1,h1,k1,k2⟩:=h;exact⟨t1,h1,k1.condT hc,k2⟩
def YN.condF {o:Az}(hc:i6 tm o=some (.bool false))(h:YN P ov ar nt c2 tm hp Q):YN P ov ar nt (.cond o c1 c2) tm hp Q:=by obtain⟨t1,h1,k1,k2⟩:=h;exact⟨t1,h1,k1.condF hc,k2⟩
def YN.block (h:YN P ov ar nt c tm hp Q):YN P ov ar nt (.block id c) tm hp Q:=by obtain⟨t1,h1,k1,k2⟩:=h;exact⟨t1,h1,k1.block,k2⟩
def YN.mono {a:Ao->Hp->Prop}(h:YN P ov ar nt c tm hp Q)(k:∀t1 h1,H4 hp h1->Q t1 h1->a t1 h1):YN P ov ar nt c tm hp a:=by obtain⟨t1,h1,k1,k2⟩:=h;exact⟨t1,h1,k1,k _ _ k1.kp k2⟩
variable (P ov nt) in
def YG (all:An)(nx0:Nat)(l:List (Oper×Nat))(i:Nat)(tm:Ao)(S:Hp)(I:Nat)(es:List Ent)(Q:Out->Prop):Prop:=∃out,(EV λn=>xgo P (C6 P ov n) nt all nx0 l i tm S I es=some out)/\Q out
variable {nx0 pre ix I:Nat}{restG:List (Oper×Nat)}{S S2:Hp}{es:List Ent}{QO:Out->Prop}
def YG.nil (h:QO ⟨tm,S,I,es⟩):YG P ov nt all nx0 [] ix tm S I es QO:=⟨_,.of λ_=>rfl,h⟩
theorem YG.k0 (h1:C4 nt o.dst=true)(h2:o.guard=none)(h3:j4 o.op=0)(h:∀call,xop P call tm S o.op=some (v,S))(k:YG P ov nt all nx0 restG (ix+1) (y7 tm o.dst v) S I (⟨ix,o,pre,tm,S,S,I,true,v,none⟩::es) QO):YG P ov nt all nx0 ((o,pre)::restG) ix tm S I es QO:=by obtain⟨out,k1,k2⟩:=k;refine⟨out,k1.mono λn a=>?_,k2⟩;simp only[xgo,v5,h2,Tk,h3,h (C6 P ov n)];grind
theorem YG.k1 (h1:C4 nt o.dst=true)(h2:o.guard=none)(h3:j4 o.op=1)(h:∀call,xop P call tm S o.op=some (v,S))(k:YG P ov nt all nx0 restG (ix+1) (y7 tm o.dst v) S I (⟨ix,o,pre,tm,S,S,I,true,v,none⟩::es) QO):YG P ov nt all nx0 ((o,pre)::restG) ix tm S I es QO:=by
 obtain⟨out,k1,k2⟩:=k;refine⟨out,k1.mono λn a=>?_,k2⟩;unfold xgo;have:xrd P tm S o.op=some v:=by unfold xrd;simp_all
 simp only[v5,h2,Tk,h3,this];grind
def YG.k3 (h1:C4 nt o.dst=true)(h2:o.guard=none)(h3:j4 o.op=3)(ht:takes nx0 (wE pre I) es S=S)(h:XOp P ov o.op tm S v S2)(k:YG P ov nt all nx0 restG (ix+1) (y7 tm o.dst v) S2 (I|||pre) (⟨ix,o,pre,tm,S,S2,I,true,v,none⟩::es) QO):YG P ov nt all nx0 ((o,pre)::restG) ix tm S I es QO:=by obtain⟨out,k1,k2⟩:=k;refine⟨out,(h.and k1).mono λn ⟨a,b⟩=>?_,k2⟩;unfold xgo;rw[h1,Tk];simp only[v5,h2,Tk,h3,ht,a];exact b
def YG.mv (h1:C4 nt o.dst=true)(h2:o.guard=none)(h3:o.op= .move (.tmp t))(hv:tm.get t=some v)(k:YG P ov nt all nx0 restG (ix+1) (y7 tm o.dst v) S I (⟨ix,o,pre,tm,S,S,I,true,v,none⟩::es) QO):YG P ov nt all nx0 ((o,pre)::restG) ix tm S I es QO:=
 .k0 h1 h2 (by rw[h3];rfl) (λ_=>by rw[h3];simp only[xop,i6,j3,hv,TL]) k
theorem YN.drawG (d:stat ops.toList (aZ ops.toList [])=true)(h:YG P ov nt ops.toList hp.nx (ops.toList.zip (aZ ops.toList [])) 0 tm ⟨hp.m,hp.nx+ops.toList.length⟩ 0 [] λout=>dyn P ⟨hp.m,hp.nx+ops.toList.length⟩ out.es=true/\takes hp.nx (xZ out.I) out.es out.S=out.S/\H4 hp out.S/\Q out.tm out.S):YN P ov ar nt (.region id ops true) tm hp Q:=by
 obtain⟨out,h1,h2,h3,h4,b⟩:=h;refine⟨out.tm,out.S,.draw (h1.mono λn a=>?_) h4,b⟩;have:iC P (C6 P ov n) nt ops.toList tm hp=some (out.tm,out.S):=by unfold iC;grind
 unfold v6;grind
end
def I9 (P:Aw)(g:Ay):Code:=match P.funcs[g]? with
 |some fn=>fn.body.getD .skip|none=>.skip
def cdA :Code->Code
 | .seq a _=>a| .cond _ a _=>a| .block _ c=>c| .loop c=>c|c=>c
def cdB :Code->Code
 | .seq _ b=>b| .cond _ _ b=>b|c=>c
section
variable {P :Aw}{U:Ab}{ov:Aa}
theorem jI {g:Ay}{fn:Func}{c:Code}{args:Af}{tm':Ao}{hp hp':Hp}{e:Exit}{vs:Af}(p:P.funcs[g]? =some fn)(hc:fn.body=some c)(hg:isT (ov g)=false)(h:XK P ov none (args.length+(fn.ntmps-args.length)) c (fill .e 0 args) hp e tm' hp')(he:e= .normal\/e= .ret)(b:∀hp2:Hp,(∀i,hp'.m.get i≠some .dfr->hp2.m.get i=hp'.m.get i)->I4 P tm' hp2 fn.results.toList=some vs)(u:wkF P g=false:=by kernel_rfl):∃hp2,V6 P ov g args hp (fG vs) hp2/\hp2.nx=hp'.nx/\(∀i,hp'.m.get i≠some .dfr->hp2.m.get i=hp'.m.get i)/\H4 hp hp2:=by
 obtain⟨⟨j,⟨q,d⟩,B,z⟩,kp⟩:=h;have f:∀n:Nat,J5 P (P9 P (v6 P) (C6 P ov n) n) (j.map Df.mark++ []) hp'=J5 P (P9 P (v6 P) (C6 P ov 0) 0) (j.map Df.mark++ []) hp':=λn=>lT j hp';obtain⟨hp2,A,x,y⟩:=eO j hp' q λr hr=>(d r hr).2.2;have w:∀i,hp'.m.get i≠some .dfr->hp2.m.get i=hp'.m.get i:=λi hi=>y i λhm=>hi (d i hm).2.2;refine⟨hp2,⟨B+1,λn hn=>?_⟩,x,w,⟨by rw[x];exact kp.nx,λr hr h0=>?_⟩⟩
 .obtain⟨n,rfl⟩:∃k,n=k+1:=⟨n-1,by omega⟩
  have hx:=z n n [] (by omega) (by omega);show(bif isT (ov g)&&args.isEmpty then some (.bool true,hp)else fH (S6 P (v6 P) (C6 P ov n) (P9 P (v6 P) (C6 P ov n) n) n g) (bif wkF P g then wkA hp args else args) hp)=_;rw[hg,Bool.false_and,Tl,u,Tl];have a:=(f n).trans A;have hb:S6 P (v6 P) (C6 P ov n) (P9 P (v6 P) (C6 P ov n) n) n g args hp=some (fG vs,hp2):=by simp only[S6,p,hc];rcases he with hr|hr;rw[hr]at hx;simp only[hx,qF,a,b hp2 w];rw[hr]at hx;simp only[hx,qF,a,b hp2 w]
  simp only[fH,hb]
 rw[y r λhm=>by grind];exact kp.dfr r hr h0
def FH (F:Ac)(hp:Hp):Prop:=∀i b,F i=some b->hp.m.get i=some b/\i<hp.nx
theorem SD.empty {F:Ac}{hp:Hp}(hF:FH F hp)(fv:Nat):SD P U (λ_=>none) F ⟨[],0,[],fv,[]⟩ hp:=
 ⟨λb x h=>by simp[SS.get,lk]at h,λb c x y i o j q h=>by grind,λi b h=>(hF i b h).1,λb i o h=>(by grind),λi b h=>(hF i b h).2,λ_ _=>rfl,λc t h=>by grind,λr h=>by grind⟩
end
section
variable {P :Aw}{ov:Aa}{nt:Nat}{tm tm1 tm2:Ao}{hp hp1 hp2:Hp}
variable (P ov) in
def FK (i:Nat)(args:Af)(hp:Hp)(v:Av)(hp':Hp):Prop:=EV λn=>(C6 P ov n).round i args hp=some (v,hp')
variable {ps:Array Tmp}
def xrnd {i:Nat}{pend:Bb Code}{tms:Ao}{a bo:Code}{db:Nat}{args:Af}(hi:hp.m.get i=some (.loop .ready pend nt tms ps a bo db))(hl:ps.toList.length=args.length)(hlt:yL nt ps.toList=true)(h1:XK P ov (some i) nt a (gO tms ps.toList args) hp .normal tm1 hp1)(f:hp1.m.get i=some (.loop .ready pend nt tms ps a bo db))(h2:XK P ov (some i) nt bo tm1 ⟨hp1.m.set i (some (.loop .busy pend nt tms ps a bo db)),hp1.nx⟩ .normal tm2 hp2)(h:hp2.m.get i=some (.loop .busy pend nt tms ps a bo db)):FK P ov i args hp (.bool true) ⟨hp2.m.set i (some (.loop .ready none nt tms ps a bo db)),hp2.nx⟩:=by
 obtain⟨⟨q,_,j,b⟩,_⟩:=h1;obtain⟨⟨r,_,p,d⟩,_⟩:=h2;refine⟨j+p+1,λn hn=>?_⟩;obtain⟨n,rfl⟩:∃k,n=k+1:=⟨n-1,by omega⟩
 have b:=b n n [] (by omega) (by omega);have d:=d n n (q.map Df.mark++ []) (by omega) (by omega);show qM P (v6 P) (C6 P ov n) n i args hp=_;have hb:Nat.beq ps.toList.length args.length=true:=by rw[hl];exact Nat.beq_refl _
 simp only[qM,hi,hb,hlt,Bool.and_self,Tk,b,f,d,h]
variable {v:Av}
def XK.range {f:Az}{g:Ay}{fn:Func}{first cap:Al}{a bo:Code}(hf:i6 tm f=some (.func (.func g) first cap))(b:P.funcs[g]? =some fn)(d:fJ fn=true)(h:V6 P ov g (first.toList++ [.chan (some (hp.nx+1))]++cap.toList) ⟨(hp.m.set hp.nx (some .dfr)).set (hp.nx+1) (some (.loop .ready none nt tm ps a bo hp.nx)),hp.nx+2⟩ v hp1)(j:hp1.m.get hp.nx=some .dfr)(hl:hp1.m.get (hp.nx+1)=some (.loop .ready none nt tm ps a bo hp.nx))(hx:hp.nx+2<=hp1.nx)(kp:∀r,r<hp.nx->hp.m.get r=some .dfr->hp1.m.get r=some .dfr):XK P ov none nt (.rangeFunc f ps a bo) tm hp .normal tm ⟨hp1.m.set (hp.nx+1) none,hp1.nx⟩:=by
 obtain⟨n0,h⟩:=h;have i:∀r,r≠hp.nx+1->(hp1.m.set (hp.nx+1) none).get r=hp1.m.get r:=λr hr=>by rw[VF,Tn hr]
 refine⟨⟨[hp.nx],⟨by simp,λr hr=>?_⟩,n0+1,λn m ds hn hm=>?_⟩,⟨by show hp.nx<=hp1.nx;omega,λr hr h0=>by show(hp1.m.set (hp.nx+1) none).get r=_;rw[i r (by omega)];exact kp r hr h0⟩⟩
 .have hr:r=hp.nx:=by simpa using hr
  subst hr;exact⟨Tq _,by show hp.nx<hp1.nx;omega,by show(hp1.m.set (hp.nx+1) none).get hp.nx=_;rw[i _ (by omega)];exact j⟩
 .obtain⟨m,rfl⟩:∃k,m=k+1:=⟨m-1,by omega⟩
  simp only[j8,eR,hf,b,d,Tk,h n (by omega),xS,hl];rfl
def xL {y:Tmp}{i:Nat}{args:Array Az}{ats:Array Ax}{vs:Af}(hy:tm.get y=some (.chan (some i)))(a:aE tm args.toList=some vs)(h:FK P ov i vs hp v hp1):XOp P ov (.call ⟨.value (.tmp y),args,ats⟩) tm hp v hp1:=
 h.mono λn k=>by simp only[xop,ob,a,i6,hy,TL,nW];exact k
