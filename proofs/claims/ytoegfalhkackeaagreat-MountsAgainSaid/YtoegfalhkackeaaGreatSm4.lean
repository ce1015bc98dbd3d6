/- The symbolic engine: Delete and Insert, parts 41, 42, 43, 44, 45, 48, 49, 46, 47, 50.
  Conditions: none. -/
import Derived.Test.YtoegfalhkackeaaGreatXm4
set_option linter.all false
noncomputable section
namespace Go.Sx
open Go.Xe
section
variable {P :Aw}{U:Ab}{τ:Tau}{F:Ac}{s:SS}{hp:Hp}
theorem SD.move2 (hs:SD P U τ F s hp){b i o a N O:Nat}{x R x':B4}(hb:s.get b=some x)(ht:τ b=some (some (i,o)))(A:s.get a=some R)(D:τ a=some (some (N,O)))(_:a≠b){hp':Hp}(hn:hp.nx<=hp'.nx)(hk:∀j,j<hp.nx->j≠i->j≠N->hp'.m.get j=hp.m.get j){j q:Nat}(hj:j=i\/hp.nx<=j)(J:j<hp'.nx){y:Blk}(hi:hp'.m.get j=some y)(hd:BD P U (put τ s.nx (some (j,q))) F q x' y):Ext τ F s hp (put τ s.nx (some (j,q))) F (gD ((s.set b none).set a none) x') hp'/\SD P U (put τ s.nx (some (j,q))) F (gD ((s.set b none).set a none) x') hp':=by
 have h0:τ s.nx=none:=hs.new _ (TK _);have B:=cJ (some (j,q)) h0;have fz:∀ {b i o x},s.get b=some x->τ b=some (some (i,o))->F i=none:=by intro b i o x hb ht;rcases hs.live b x hb with⟨i',o',T,h1,_,h3,_⟩| ⟨h1,_⟩;grind;grind
 have W:=fz hb ht;have X:=fz A D;have Y:F j=none:=by
  rcases hj with rfl|hj;exact W
  ·cases hF:F j with
   |none=>rfl|some w=>exact absurd (hs.flt j w hF) (by omega)
 have Z:∀c,(gD ((s.set b none).set a none) x').get c=if c=s.nx then some x' else if c=a then none else if c=b then none else s.get c:=by intro c;rw[iG,VN,VN];rfl
 refine⟨⟨B,Vu F,hn,by simp[gD,SS.set],fun c hc=>B8 τ _ (by omega),fun c y hc hlt=>?_,⟨[(s.nx,some x'),(a,none),(b,none)],rfl,fun k u aa=>hk k u (by grind) (by grind),fun c k r hc h=>?_,fun _ _ _ h=>.inl h,fun _ _ _ h=>h⟩,⟨[],rfl⟩,⟨[(s.nx,some x'),(a,none),(b,none)],rfl,fun d c e z j' q' cs n p hq J hg hl=>⟨cs,by
  have n1:d≠b:=fun h=>by subst h;obtain⟨_,q,_⟩:=hl none (by simp);cases q
  have n2:d≠a:=fun h=>by subst h;obtain⟨_,q,_⟩:=hl none (by simp);cases q
  rw[hk j' J (hs.inj d b _ x j' q' i o p hb n1 hq ht) (hs.inj d a _ R j' q' N O p A n2 hq D)];exact hg,fun _ _=>rfl⟩⟩⟩,?_⟩
 grind;by_cases e:c=s.nx;subst e;rw[t6]at h;grind;rw[B8 τ _ e,hs.new c hc]at h;cases h
 ·have inv:∀c z,(gD ((s.set b none).set a none) x').get c=some z->c≠s.nx->c≠b/\c≠a/\s.get c=some z:=by grind
  have apart:∀c z k r,c≠b->s.get c=some z->τ c=some (some (k,r))->k≠j:=by intro c z k r e hc h G;subst G;rcases hj with rfl|hj;exact hs.inj c b z x _ r _ o hc hb e h ht rfl;have:=hs.lt c _ r h;omega
  refine⟨fun c z hc=>?_,fun c d y z k r k' r' hc p K e1 e2=>?_,fun k y u=>?_,fun c k r h=>?_,fun k y h=>Uo (hs.flt k y h) hn,fun c hc=>?_,hs.fc,fun r hr=>(hs.fz r hr).mono B (Vu F)⟩;by_cases e:c=s.nx;subst e;rw[Z,TJ rfl,Tk]at hc;subst hc;exact .inl ⟨j,q,y,t6 _ _ _,hi,Y,hd⟩;obtain⟨e',L,f⟩:=inv c z hc e;rcases hs.live c z f with⟨k,r,T,h1,h2,h3,h4⟩| ⟨h1,h2⟩;refine .inl ⟨k,r,T,by rw[B8 τ _ e];exact h1,?_,h3,h4.mono B (Vu F)⟩;rw[hk k (hs.lt c k r h1) ?_ ?_];exact h2;intro G;subst G;exact hs.inj c b z x _ r _ o f hb e' h1 ht rfl;intro G;subst G;exact hs.inj c a z R _ r _ O f A L h1 D rfl;exact .inr ⟨by rw[B8 τ _ e];exact h1,h2⟩;by_cases M:c=s.nx;subst M;have E:d≠s.nx:=fun h=>K h.symm;rw[t6]at e1;rw[B8 τ _ E]at e2;grind;obtain⟨e',_,f⟩:=inv c y hc M;rw[B8 τ _ M]at e1;by_cases E:d=s.nx;subst E;rw[t6]at e2;grind;obtain⟨V,_,H⟩:=inv d z p E;rw[B8 τ _ E]at e2;exact hs.inj c d y z k r k' r' f H K e1 e2;rw[hk k (hs.flt k y u) (by grind) (by grind)];exact hs.frz k y u;by_cases e:c=s.nx;subst e;rw[t6]at h;grind;rw[B8 τ _ e]at h;exact Uo (hs.lt c k r h) hn;have:s.nx+1<=c:=hc;rw[B8 τ _ (by omega)];exact hs.new c (by omega)
end
section
variable (P :Aw)(U:Ab)
def sdel (e size:Nat)(args:As):M SV:=match args with
 | [.sl b z off len .ge,.int .i64 a,.int .i64 c]=>b9 (yP P b) fun _=>p9 fun s=>match s.get b with
  | some (.rows L e' z' _) => bif Nat.beq e e' && Nat.beq size z && Nat.beq size z' && Nat.beq size (kf P e).length then
    b9 (l8 U (y5 (y8 (A7 L) (y4 off len)))) fun _=>b9 (l8 U (y5 (y8 a (.int 0)))) fun _=>b9 (l8 U (y8 a c)) fun _=>b9 (l8 U (y5 (y8 len c))) fun _=>
    b9 (Z0 U L off a) fun A=>b9 (Z0 U L (y4 off c) (O6 len c)) fun B=>smove e size b (.rows (G4 A B)) (y4 a (O6 len c)) .ge
   else a8 "delete: type"
  |_=>a8 "delete: block"
 |_=>a8 "delete: arguments"
def smove2 (e size b b2:Nat)(x:Src)(len:E)(cp:Cp):M SV:=fun s=>.ret (.sl s.nx size (.int 0) len cp,gD ((s.set b none).set b2 none) (x.blk e size))
def isCR :Bb B4->Bool
 |some (.cells _ _ _)=>true|some (.rows _ _ _ _)=>true|_=>false
def IK (e size b:Nat)(off len a:E)(x:SV):M SV:=match x with
 | .sl b2 _ _ _ _=>bif Nat.beq b2 b then a8 "insert: the same block" else b9 (ssrc P U e size x) fun src=>bif src.one then b9 (NX P U e size src) fun Ln=>b9 (yP P b) fun _=>p9 fun s=>match s.get b with
  | some (.rows L e' z' _) => bif Nat.beq e e' && Nat.beq size z' && Nat.beq size (kf P e).length && isCR (s.get b2) && (kf P e).all noRp then
    b9 (l8 U (F7 (A7 Ln) (.int 1))) fun _=>b9 (l8 U (y5 (y8 (A7 L) (y4 off len)))) fun _=>b9 (l8 U (y5 (y8 a (.int 0)))) fun _=>b9 (l8 U (y5 (y8 len a))) fun _=>b9 (l8 U (y8 len (.int 67108864))) fun _=>
    b9 (Z0 U L off a) fun A=>b9 (Z0 U L (y4 off a) (O6 len a)) fun B=>smove2 e size b b2 (.rows (G4 (G4 A Ln) B)) (y4 len (.int 1)) .ge
   else a8 "insert: type"
  |_=>a8 "insert: block"
  else a8 "insert: cells"
 |_=>a8 "insert: element"
def sins (e size:Nat)(args:As):M SV:=match args with
 | [.nils,.int .i64 a,x]=>bif Nat.beq size (kf P e).length then b9 (cM (.rows (.op .nil []) e size (.int 0))) fun b=>IK P U e size b (.int 0) (.int 0) a x else a8 "insert: size"
 | [.sl b z off len .ge,.int .i64 a,x]=>bif Nat.beq size z then IK P U e size b off len a x else a8 "insert: size"|_=>a8 "insert: arguments"
end
section
variable {P :Aw}{U:Ab}{ov:Aa}
def HO (n:Nat):(D8 P ov n).ov=ov:=by cases n<;>rfl
variable {C:i8->Prop}{g:Ay}{v:Av}
theorem Fb (b:∀n,C (D8 P ov n))(hg:isT (ov g)=false){args:Af}{hp:Hp}{hp':Hp}(h:sQ P C g (bif wkF P g then wkA hp args else args) hp v hp'):Y0 P ov g args hp v hp':=by
 obtain⟨a,h⟩:=h;refine⟨a+1,fun n hn=>?_⟩;obtain⟨k,rfl⟩:∃k,n=k+1:=⟨n-1,by omega⟩
 show(bif isT (ov g)&&args.isEmpty then some (.bool true,hp)else fU (U9 P (u7 P) (D8 P ov k) (Q7 P (u7 P) (D8 P ov k) k) k g) (bif wkF P g then wkA hp args else args) hp)=_;grind
def Ja {hp:Hp}{a:Addr}{l lo:Nat}{xs:Af}:wkA hp (.slice (some a) l (d9 lo 0)::xs)= .slice (some a) l (d9 lo 0)::xs:=by
 obtain⟨i,o,e⟩:=a;have:Nat.ble (d9 lo 0) 67108864=false:=bE (by have:=p8 lo 0;unfold unk at this;omega);cases e with
 |none=>simp only[wkA,this,TF]|some e=>rfl
def Ji (b:∀n,C (D8 P ov n))(hg:isT (ov g)=false){a:Addr}{l lo:Nat}{args:Af}{hp:Hp}{hp':Hp}(h:sQ P C g (.slice (some a) l (d9 lo 0)::args) hp v hp'):Y0 P ov g (.slice (some a) l (d9 lo 0)::args) hp v hp':=
 Fb b hg (by rw[Ja,Bool.cond_self];exact h)
variable {τ :Tau}{F:Ac}{s:SS}{hp:Hp}
def JG {c:Ao}{o n:Nat}{a b:Af}(h:j9 c o n=some a)(k:j9 c o n=some b):a=b:=TN (h.symm.trans k)
def eN {e z o n:Nat}{cs:Ao}{rows:Rows}(hr:A8 P F e z o n cs rows){off len a m:Int}(h0:0<=off)(h:0<=a)(hm:0<=m)(d:a+m<=len)(h2:off+len<=rows.length){L:E}(hL:L.toR U=pQ rows (off+a) m){b:Af}(hl:j9 cs (o+off.toNat*z) (len.toNat*z)=some b):p7 P U τ F e z (.rows L) ((b.drop (a.toNat*z)).take (m.toNat*z)):=by obtain⟨vs,f,_,i,_⟩:=H4 hr (by omega) hm (by omega) hL;have h3:=dE hl (a:=a.toNat*z) (m:=m.toNat*z) (by rw[<-TX];exact Ty _ (by omega));rw[show o+off.toNat*z+a.toNat*z=o+(off+a).toNat*z by rw[Uu,<-TX];congr 2;omega]at h3;rwa[JG h3 f]
theorem GI {ρ:Go.Shelf.Ren}{e:Ax}{ie:Ba}{zv:Av}(D:Hv P g ρ e ie zv)(hg:isT (ov g)=false):C8 P U ov (sdel P U e ie.size) g:=by
 intro l args τ F s hp hl hs;unfold sdel;split
 ·rename_i b z off len a c;obtain⟨y1,ai,rfl,v1,hl⟩:=hl.uncons;obtain⟨y2,aj,rfl,v2,hl⟩:=hl.uncons;obtain⟨y3,M,rfl,v3,hl⟩:=hl.uncons;have:M=[]:=Tq hl.1.symm;subst this;cases v2;cases v3;refine(hJ hs).bind fun _ τ1 F1 s1 hp1 ex hs1 ⟨e1,e2,e3⟩=>VB ?_;subst e1;subst e3;split
  ·rename_i L e' W ph hb;cases hq:Nat.beq e e'&&Nat.beq ie.size z&&Nat.beq ie.size W&&Nat.beq ie.size (kf P e).length with
   |false=>exact VA|true=>
    simp only[TE];simp only[Tl,Ub]at hq;obtain⟨⟨⟨rfl,hz⟩,H⟩,aa⟩:=hq;refine Vy VF fun _ s2 o2 ab p1=>Vy VF fun _ s3 o3 ac p2=>Vy VF fun _ s4 o4 ad T=>Vy VF fun _ s5 o5 ae V=>Vy C3 fun A s6 o6 ah Z=>Vy C3 fun B s7 o7 h N=>?_;have p1:=A4 p1;have p2:=Z5 p2;have T:=C7 T;have V:=A4 V;rw[j7,j2]at p1;rw[j7,v6]at N;have m:s7.get b=some (.rows L e W ph):=by rw[o7.get,o6.get,o5.get,o4.get,o3.get,o2.get];exact hb
    have x:A.toR U=pQ (L.toR U) (off.toI U) (a.toI U):=by show(A.den U).rows=_;rw[Z];rfl
    have E:B.toR U=pQ (L.toR U) (off.toI U+c.toI U) (len.toI U-c.toI U):=by show(B.den U).rows=_;rw[N];rfl
    cases v1 with
    |sl0 _ _ _ _ _ d h0 h1 hc=>omega|sl _ _ _ _ _ i o cc d h0 h1 hc=>
    obtain⟨lo,rfl,c1,c2⟩:=hc;rcases h.live b _ m with⟨i',o',y,k1,k2,kF,cs,k,rfl,k4,k5⟩| ⟨k1,_⟩
    ·rw[d]at k1;obtain⟨rfl,rfl⟩:=k1;subst hz;subst H;obtain⟨u,w1,w2,w3,w4⟩:=H4 (τ:=τ1) (L:= .op .part [L,off,len]) k4 h0 h1 p1 rfl;have n:u.all Value.oneCell'=true:=w3.ones rfl;have X:a.toI U=((a.toN U:Nat):Int):=by grind
     have Y:c.toI U=((c.toN U:Nat):Int):=by grind
     have el:len.toI U=((len.toN U:Nat):Int):=by grind
     obtain⟨v,hp',r1,⟨⟨bb,q,J,ct,kk,rfl,n2,n3,n4,n5,n6,O⟩,K,R⟩⟩:=KM (C:=fun _=>True) D (a:=a.toN U) (b:=c.toN U) (Nat.max_le.2 ⟨c1,by omega⟩) (by omega) (by omega) (h.lt b i o d) k2 w2 w1 n;have p:=Ji (fun _=>trivial) hg r1;rw[<-X,<-Y]at p;have f:(y4 a (O6 len c)).toI U=((a.toN U+(len.toN U-c.toN U):Nat):Int):=by rw[j7,v6];omega
     have j:=(l9 O).1;refine(OKh.smove (cp:= .ge) (q:=q) m d K (by grind) n3 n4 n5 (fun τ' r=>?_) f ⟨J,rfl,n2,by omega⟩ h).mono fun w τ' F' hp2 _ _ ⟨q1,q2⟩=>(by grind)
     refine mN ?_ (fun y v hy=>?_) (by rw[j];exact n6);refine p7.mono r (Vu _) (p7.app ?_ ?_);have:=eN (τ:=τ1) k4 h0 (Uy 0) (by omega) (show 0+a.toI U<=len.toI U by omega) p1 (by rw[x];congr 1;omega) w1;grind;have:=eN (τ:=τ1) k4 h0 (by omega) (by omega) (by omega) p1 E w1;rw[Uk (by rw[Un,w4,<-Nat.sub_mul];exact Ty _ (by omega))]at this;exact this
     ·have G:y<(a.toN U+(len.toN U-c.toN U))*ie.size:=by rw[<-j];exact(Tn.1 hy).1
      rw[<-(l9 O).2 y G];exact hy
    grind
  exact VA
 exact VA
end
section
variable {P :Aw}{U:Ab}{ov:Aa}{τ:Tau}{F:Ac}{s:SS}{hp:Hp}
def OKh.smove2 {e size b i o f w A j q n c:Nat}{x B:B4}{x':Src}{len:E}{cp:Cp}(hb:s.get b=some x)(ht:τ b=some (some (i,o)))(h:s.get f=some B)(u:τ f=some (some (w,A)))(p:f≠b){hp1:Hp}(hn:hp.nx<=hp1.nx)(hk:∀k,k<hp.nx->k≠i->k≠w->hp1.m.get k=hp.m.get k)(hj:j=i\/hp.nx<=j)(r:j<hp1.nx){y:Blk}(hi:hp1.m.get j=some y)(z:∀τ',Tle τ τ'->BD P U τ' F q (x'.blk e size) y)(d:len.toI U=n)(hc:mY U len cp c)(hs:SD P U τ F s hp):OKh P U (smove2 e size b f x' len cp) τ F s hp fun a τ' F' hp'=>hp'=hp1/\VD P U τ' F' a (.slice (some ⟨j,q,none⟩) n c):=by intro Q hq _;have h0:=hs.new _ (TK _);obtain⟨h1,h2⟩:=hs.move2 hb ht h u p hn hk hj r hi (z _ (cJ _ h0));exact⟨_,_,hq,_,F,hp1,h1,h2,rfl,Wc (t6 _ _ _) (Uy 0) (by omega) hc (by show q=q+(0:Int).toNat*size;simp) (qA d).symm⟩
theorem Dj {s:SS}{b:Nat}(h:isCR (s.get b)=true):(∃l e z,s.get b=some (.cells l e z))\/ ∃L e z ph,s.get b=some (.rows L e z ph):=by unfold isCR at h;grind
theorem wI {hp:Hp}{size n m c:Nat}{a:Aq}{vs:Af}(h:z7 hp size (.slice a n c)=some (m,vs)):m=n:=by
 unfold z7 at h;split at h
 ·rename_i n' _ hh;cases hb:Nat.beq n 0 with
  |false=>grind|true=>simp_all
 grind;grind;cases h
variable {g:Ay}{ρ:Go.Shelf.Ren}{zv:Av}
theorem Ep {e:Ax}{ie:Ba}(D:kC P g ρ e ie zv)(hg:isT (ov g)=false)(ai:ov (ρ.f 27)=some (ρ.t 22)){b:Nat}{off len a:E}{x:SV}{v1 v3:Av}(h1:VD P U τ F (.sl b ie.size off len .ge) v1)(h3:VD P U τ F x v3)(hs:SD P U τ F s hp):OKh P U (IK P U e ie.size b off len a x) τ F s hp fun w τ' F' hp'=>∃v,Y0 P ov g [v1,.int .i64 (a.toI U),v3] hp v hp'/\VD P U τ' F' w v:=by
 unfold IK;split
 ·rename_i J z2 ao ak bl;cases M:Nat.beq J b with
  |true=>exact VA|false=>
  have M:J≠b:=fun h=>by rw[h,t9 rfl]at M;cases M
  simp only[TF];refine Vy (IR D.sz h3 hs) fun src s1 o1 hs1 ⟨n,news,x1,x2,x3,x4⟩=>?_;cases ah:src.one with
  |false=>exact VA|true=>
  simp only[TE];have ba:=x2.ones ah;refine(BN x2 hs1).bind fun Ln τ1 F1 s2 hp1 ex be ⟨e1,e2,G⟩=>?_;subst e1;subst e2;refine(hJ be).bind fun _ τ2 F2 s3 hp2 ex2 bq ⟨e1,e2,e3⟩=>VB ?_;subst e1;subst e2;subst e3;have h1:=h1.mono (VY τ2) ex.f;have h3:=h3.mono (VY τ2) ex.f;split
  ·rename_i L e' z' ph hb;cases hq:Nat.beq e e'&&Nat.beq ie.size z'&&Nat.beq ie.size (kf P e).length&&isCR (s3.get J)&&(kf P e).all noRp with
   |false=>exact VA|true=>
    simp only[TE];simp only[Tl,Ub]at hq;obtain⟨⟨⟨⟨rfl,bj⟩,ay⟩,ae⟩,Y⟩:=hq;refine Vy VF fun _ s4 o4 bt p0=>Vy VF fun _ s5 o5 bu p1=>Vy VF fun _ s6 o6 bv p2=>Vy VF fun _ s7 o7 bw p3=>Vy VF fun _ s8 o8 bz p4=>
     Vy C3 fun A s9 o9 ca hA=>Vy C3 fun B sA oA r hB=>?_
    have p0:(A7 Ln).toI U=1:=by have:=(Vq U _).1 p0;rw[E7]at this;exact UM this
    have p1:=A4 p1;have p2:=Z5 p2;have p3:=A4 p3;have p4:=C7 p4;simp only[B7]at p4;rw[j7,j2]at p1;rw[j2]at p0;rw[j7,v6]at hB;have X:∀c,sA.get c=s3.get c:=fun c=>by rw[oA.get,o9.get,o8.get,o7.get,o6.get,o5.get,o4.get]
    have V:sA.get b=some (.rows L e z' ph):=by grind
    have G:=G ay;have bm:=nA D.sz G x3;have hn:n=1:=by omega
    subst hn;have bc:news.length=ie.size:=by grind
    have ac:A.toR U=pQ (L.toR U) (off.toI U) (a.toI U):=by show(A.den U).rows=_;rw[hA];rfl
    have au:B.toR U=pQ (L.toR U) (off.toI U+a.toI U) (len.toI U-a.toI U):=by show(B.den U).rows=_;rw[hB];rfl
    have ea:a.toI U=((a.toN U:Nat):Int):=by grind
    have N:∀m:Nat,len.toI U=(m:Int)->(y4 len (.int 1)).toI U=((m+1:Nat):Int):=fun m hm=>by rw[j7,B7,hm];rfl
    cases h3 with
    |sl0 _ _ _ _ _ z _ _ _=>exact absurd (wI x1) (by omega)|sl _ _ _ _ _ j oj cm z g0 g1 gc=>
    have az:=wI x1;have ab:∃q,(Value.slice (some ⟨j,oj+ao.toN U*z2,none⟩) (ak.toN U) cm)= .slice (some ⟨j,q,none⟩) 1 cm:=⟨_,by rw[<-az]⟩
    obtain⟨q,ab⟩:=ab;rw[ab]at x1⊢;have d:∃xx,sA.get J=some xx:=by rw[X];rcases Dj ae with⟨_,_,_,h⟩| ⟨_,_,_,_,h⟩<;>exact⟨_,h⟩
    obtain⟨xx,d⟩:=d;have ax:∃cj kj ej zj,hp2.m.get j=some (.cells cj kj ej zj):=by rcases r.live J _ d with⟨i',o',y,k1,k2,_,k4⟩| ⟨k1,_⟩;rw[z]at k1;simp only[Tk,Tm]at k1;obtain⟨rfl,rfl⟩:=k1;have:sA.get J=s3.get J:=X J;rcases Dj ae with⟨l,ee,zz,h⟩| ⟨L',ee,zz,pp,h⟩;rw[this,h,Tk]at d;subst d;obtain⟨cs,nn,rfl,_⟩:=k4;grind;rw[this,h,Tk]at d;subst d;obtain⟨cs,nn,rfl,_⟩:=k4;grind;grind
    obtain⟨cj,kj,ej,zj,av⟩:=ax;cases h1 with
    |sl0 _ _ _ _ _ O h0 Z hc=>
     rcases r.live b _ V with⟨i',o',y,k1,_⟩| ⟨k1,L',e2,z2,cb,k2,k3,k4,k5⟩;grind
     ·simp only[B4.rows.injEq]at k2;obtain⟨rfl,rfl,rfl,rfl⟩:=k2;have bn:a.toI U=0:=by omega
      obtain⟨v,hp',r1,rfl,rfl⟩:=OD (hp:=hp2) (C:=COv ρ) D x1;have u:=Fb (P:=P) (ov:=ov) (C:=COv ρ) (args:=[.slice none 0 0,.int .i64 ((0:Nat):Int),.slice (some ⟨j,q,none⟩) 1 cm]) (fun k=>by unfold COv;rw[HO];exact ai) hg (by cases wkF P g<;>exact r1);have u:Y0 P ov g [.slice none 0 0,.int .i64 (a.toI U),.slice (some ⟨j,q,none⟩) 1 cm] hp2 (.slice (some ⟨hp2.nx,0,none⟩) 1 (d9 1 0)) (hp2.new news e ie.size):=by grind
      have ap:A.toR U=[]:=by rw[ac,k3];simp[pQ]
      have aq:B.toR U=[]:=by grind
      have K:(G4 (G4 A Ln) B).toR U=Ln.toR U:=by rw[N6,N6,ap,aq];simp
      have W:p7 P U τ2 F2 e ie.size (.rows (G4 (G4 A Ln) B)) news:=by obtain⟨c1,c2,c3,c4⟩:=G;exact⟨c1,by rw[K];exact c2,by rw[K];exact c3,by rw[K];exact c4⟩
      intro Q hq _;obtain⟨d1,d2⟩:=r.drop b;obtain⟨d3,d4⟩:=d2.drop J;have H:(y4 len (.int 1)).toI U=((1:Nat):Int):=N 0 Z;obtain⟨f1,f2⟩:=d4.alloc (x:=(Src.rows (G4 (G4 A Ln) B)).blk e ie.size) (p:=some (hp2.nx,0)) (hp':=hp2.new news e ie.size) (UI _) (fun x hx=>by show(hp2.m.set _ _).get x=_;rw[VX,TH (by omega)])
       (.inl ⟨hp2.nx,0,_,rfl,TK _,Uv _,by show(hp2.m.set _ _).get _=_;rw[VX,TJ rfl],mN (W.mono (cJ _ (r.new _ (TK _))) (Vu _)) (fun y v hy=>by rw[TT];exact M0 news y v hy) (by omega)⟩)
      refine⟨_,_,hq,_,F2,_,(d1.trans d3).trans f1,f2,_,u,?_⟩;exact Wc (t6 _ _ _) (Uy 0) (by rw[H];omega) (geN H (by omega)) (Fg ie.size).symm (qA H).symm
    |sl _ _ _ _ _ i o cc O h0 Z hc=>
     obtain⟨lo,rfl,c1,c2⟩:=hc;rcases r.live b _ V with⟨i',o',y,k1,k2,kF,cs,k,rfl,k4,k5⟩| ⟨k1,_⟩
     ·rw[O]at k1;simp only[Tk,Tm]at k1;obtain⟨rfl,rfl⟩:=k1;subst bj;have aw:j≠i:=r.inj J b _ _ j oj i o d V M z O;obtain⟨R,w1,w2,w3,w4⟩:=H4 (τ:=τ2) (off:=off.toI U) (len:=len.toI U) (L:= .op .part [L,off,len]) k4 h0 Z p1 rfl;have aa:R.all Value.oneCell'=true:=w3.ones rfl;have el:len.toI U=((len.toN U:Nat):Int):=by grind
      obtain⟨v,hp',r1,⟨⟨bb,q',al,ct,kk,rfl,n2,n3,n4,n5,n6,n7⟩,bk,an⟩⟩:=KQ (hp:=hp2) D (i:=i) (o:=o+off.toN U*ie.size) (n:=len.toN U) (lo:=lo) (at_:=a.toN U) (Nat.max_le.2 ⟨c1,by omega⟩) (by omega) (by omega) aw (r.lt b i o O) (r.lt J j oj z) k2 av w2 w1 x1 bc aa ba (w3.noR Y) (G.noR Y);have u:=Ji (ov:=ov) (fun k=>by unfold COv;rw[HO];exact ai) hg r1;rw[<-ea]at u;have H:=N _ el;have ad:=(l9 n7).1;refine(OKh.smove2 (x':= .rows (G4 (G4 A Ln) B)) (cp:= .ge) (hp1:=hp') (j:=bb) (q:=q') (n:=len.toN U+1) (c:=d9 al 0) V O d z M bk (fun x hx bg bh=>an x hx bg bh) n3 n4 n5 (fun τ' aj=>?_) H ⟨al,rfl,n2,by rw[H];omega⟩ r).mono fun w τ' F' bp _ _ ⟨q1,q2⟩=>⟨_,by rw[q1];exact u,q2⟩
      refine mN (vs:=R.take (a.toN U*ie.size)++news++R.drop (a.toN U*ie.size)) ?_ (fun y v hy=>?_) (by rw[ad];exact n6);refine p7.mono aj (Vu _) (p7.app (p7.app ?_ G) ?_);have:=eN (τ:=τ2) k4 h0 (Uy 0) (show 0<=a.toI U by omega) (show 0+a.toI U<=len.toI U by omega) p1 (L:=A) (by rw[ac];congr 1;omega) w1;grind;have:=eN (τ:=τ2) k4 h0 (show 0<=a.toI U by omega) (show 0<=len.toI U-a.toI U by omega) (show a.toI U+(len.toI U-a.toI U)<=len.toI U by omega) p1 (L:=B) au w1;rw[Uk (by rw[Un,w4,<-Nat.sub_mul];exact Ty _ (by omega))]at this;exact this
      ·have bi:y<(len.toN U+1)*ie.size:=by rw[<-ad];exact(Tn.1 hy).1
       rw[<-(l9 n7).2 y bi];exact hy
     grind
  exact VA
 exact VA
theorem GO {e:Ax}{ie:Ba}(D:kC P g ρ e ie zv)(hg:isT (ov g)=false)(d:ov (ρ.f 27)=some (ρ.t 22)):C8 P U ov (sins P U e ie.size) g:=by
 intro l args τ F s hp hl hs;unfold sins;split
 ·rename_i a x;obtain⟨y,k,rfl,h,hl⟩:=hl.uncons;obtain⟨A,m,rfl,i,hl⟩:=hl.uncons;obtain⟨B,n,rfl,j,hl⟩:=hl.uncons;have:=Tq hl.1.symm;subst this;cases i;cases h;cases hk:Nat.beq ie.size (kf P e).length with
  |false=>exact VA|true=>have hk:=Tp hk;intro Q hq _;obtain⟨h1,h2⟩:=hs.alloc (x:= .rows (.op .nil []) e ie.size (.int 0)) (TK _) (fun _ _=>rfl) (.inr ⟨rfl,_,_,_,_,rfl,rfl,hk,Uy 0⟩);have hv:VD P U (put τ s.nx none) F (.sl s.nx ie.size (.int 0) (.int 0) .ge) (.slice none 0 0):= .sl0 s.nx ie.size (.int 0) (.int 0) .ge (t6 _ _ _) rfl rfl (fun e he=>by grind);obtain⟨w,s',p,τ',F',hp',q,r,u⟩:=Ep D hg d hv (j.mono (cJ _ (hs.new _ (TK _))) (Vu F)) h2 Q hq h2;exact⟨w,s',p,τ',F',hp',h1.trans q,r,u⟩
 ·rename_i b z off len a x;obtain⟨y,k,rfl,h,hl⟩:=hl.uncons;obtain⟨A,m,rfl,i,hl⟩:=hl.uncons;obtain⟨B,n,rfl,j,hl⟩:=hl.uncons;have:=Tq hl.1.symm;subst this;cases i;cases hk:Nat.beq ie.size z with
  |false=>exact VA|true=>have hk:=Tp hk;subst hk;exact Ep D hg d h j hs
 exact VA
end
section
variable {P :Aw}{U:Ab}{ov:Aa}
abbrev G1:=List (Ay×(As->M SV))
variable (P U ov) in
def gF :G1->Prop
 | []=>True|p::xs=>(C8 P U ov p.2 p.1/\isT (ov p.1)=false)/\gF xs
variable (P U) in
def lB (l:List (Ay×Con)):G1->Ay->Bb (As->M SV)
 | [],g=>conP P U l g|p::xs,g=>bif Nat.beq p.1 g then some p.2 else lB l xs g
theorem AK {l:List (Ay×Con)}(a:O8 P U ov l):∀ {xs:G1},gF P U ov xs-> ∀g k,lB P U l xs g=some k->C8 P U ov k g
 | [],_,g,k,hk=>by
  unfold lB conP at hk;cases h:kK P U l g with
  |none=>grind|some k0=>rw[h]at hk;cases hk;exact Nk (CT a g k0 h)
 |p::xs,hx,g,k,hk=>by
  unfold lB at hk;cases hb:Nat.beq p.1 g with
  |true=>rw[hb,TE,Tk]at hk;rw[<-hk,<-Tp hb];exact hx.1.1|false=>rw[hb,TF]at hk;exact AK a hx.2 g k hk
theorem pA {l:List (Ay×Con)}:∀ {xs:G1},gF P U ov xs-> ∀g,isT (ov g)=true->lB P U l xs g=none->kK P U l g=none
 | [],_,g,_,hn=>by unfold lB conP at hn;grind|p::xs,hx,g,hg,hn=>by
  unfold lB at hn;cases hb:Nat.beq p.1 g with
  |true=>grind|false=>rw[hb,TF]at hn;exact pA hx.2 g hg hn
variable {l:List (Ay×Con)}{xs:G1}{g:Ay}
def m8 (a:Ay->List (Nat×(Fm->SS->J0)))(d:O8 P U ov l)(hx:gF P U ov xs)(n:Nat){c:Con}{V:Prop}(he:(cvc P U c (sxF P U a (lB P U l xs) n g)).vc U (fun _=>True)=V)(hv:V)(b:∀g,isT (ov g)=true->kK P U l g≠none:=by exact noT)(hg:isT (ov g)=false:=by rfl):n9 P U ov c g:=
 zD (Og a (AK d hx) (fun g hg hn=>b g hg (pA hx g hg hn)) n g hg) (he.symm▸hv)
def J7 (a:Ay->List (Nat×(Fm->SS->J0)))(d:O8 P U ov l)(hx:gF P U ov xs)(m:Nat){c:Con}(mu:Ar->Nat){V:Nat->Prop}(he:∀n,(cvc P U (c.below mu (n+1)) (sxF P U a (lB P U ((g,c.below mu n)::l) xs) m g)).vc U (fun _=>True)=V n)(hv:∀n,V n)(b:∀n,∀g',isT (ov g')=true->kK P U ((g,c.below mu n)::l) g'≠none)(hg:isT (ov g)=false:=by rfl):n9 P U ov c g:=
 GC fun n hn=>m8 a (l:=(g,c.below mu n)::l) ⟨hn,d⟩ hx m (he n) (hv n) (b n) hg
end
open Go.Xe Go.RowKit
section
variable {P :Aw}{U:Ab}{ov:Aa}
def tauR :Tau:=fun b=>if b=0 then some (some (0,0))else none
def PU :Tle (fun _=>none) tauR:=fun b p h=>by cases h
def FR (hm:P.follows .mixedOrders=true)(V:∀g t,ov g=some t->kV P g t){c:Con}{f:Ay}(hg:n9 P U ov c f)(h2:c.res=[.one (.g .bool)])(K:∀d e,c.rel d e-> ∃r,e= .bool true::r){es:Au}(G:es.length=(n8 c.inL).length)(J:c.pre (t8 U (n8 c.inL) es)){R:E}(D:gst c (G3 U (n8 c.inL) 0 es) (n8 c.inL).length=⟨[(0,some (.reg 0 R (kf P rgT).length))],1,[],(n8 c.inL).length,[]⟩)(hR:R.toR U=[]){xs ys:Af}{w:Bc}(hl:VDL P U (fun _=>none) (roF w) (fN c (G3 U (n8 c.inL) 0 es)) xs)(hx:VRL (wX w) xs ys):Calls P f ys.toArray w fun e w'=>e= .returned (.bool true)/\Below w.heap.size w w':=by
 have hs:SD P U tauR (roF w) (gst c (G3 U (n8 c.inL) 0 es) (n8 c.inL).length) (Eb P w):=by
  rw[D];have get:∀b x,(⟨[(0,some (.reg 0 R (kf P rgT).length))],1,[],(n8 c.inL).length,[]⟩:SS).get b=some x->b=0/\x= .reg 0 R (kf P rgT).length:=by intro b x h;unfold SS.get at h;rw[A0]at h;by_cases e:0=b;rw[TJ e]at h;cases h;exact⟨e.symm,rfl⟩;rw[TH e]at h;cases h
  refine⟨fun b x hb=>?_,fun b c x y i o j q hb hc T=>?_,fun i b h=>(Nu P w i b h).1,fun b i o h=>?_,fun i b h=>(Nu P w i b h).2,fun b h=>?_,fun c t h=>(by simp at h),fun r h=>(by simp at h)⟩;obtain⟨rfl,rfl⟩:=get b x hb;refine .inl ⟨0,0,_,rfl,uY P w,rfl,rfl,rfl,.e,by rw[hR];rfl,?_⟩;rw[hR];exact⟨by simp,rfl,fun r h=>(by simp at h),fun r k row d h=>(by simp at h)⟩;obtain⟨rfl,_⟩:=get b x hb;obtain⟨rfl,_⟩:=get c y hc;exact absurd rfl T;have h:(if b=0 then some (some (0,0))else none)=some (some (i,o)):=h;split at h;simp only[Tk,Tm]at h;rw[<-h.1];exact Nat.succ_pos _;cases h;have h:1<=b:=h;exact TH (by omega)
 obtain⟨v,τ',F',s',hp',vs,N,ac,M,nw,aa,⟨n0,hr⟩,_,_,r4,L,r6,r7,r8,_,_,_,_,_,_,Z⟩:=hg es G J _ _ _ xs hs (hl.mono PU (Vu _));obtain⟨rr,B⟩:=K _ _ Z;have H:c.outL= .g .bool::JB c.post:=by unfold Con.outL;rw[h2];rfl
 rw[H]at r8 B;cases vs with
 |nil=>exact r8.elim|cons a ai=>
  obtain⟨r,p,ab,e1,e2,n,ad⟩:=r8;obtain⟨e0,z⟩:=n.1 .b rfl;rw[z]at e1;have e1:M=e0::p:=e1;subst e1;have he:(e0.den U).toBool=true:=by have:Dat.bool (e0.den U).toBool::_=Dat.bool true::rr:=B;injection this with h _;injection h
  cases N with
  |nil=>rw[h2]at L;cases L
  |cons y m=>
   have O:m=[]:=by rw[h2]at L;have:(y::m).length=1:=L;exact Tq (by simpa using this)
   subst O;obtain⟨y',aj,e3,hy,ah⟩:=r4.uncons;have Y:y'=y:=by injection e3 with h _;exact h.symm
   subst Y;have h5:=n.2.2.2.1 y' hy τ' (fun i=>(Z6 0 c.blks.length++nw).getD i 0) 0 e0 (fun i b hb=>by rw[List.getD,hb];rfl) (fun e2 so A ae=>by rw[z,Tk]at A;subst A;cases so<;>rfl) (fun b hb=>by have:=n.2.2.1 rfl;rw[this]at hb;cases hb);have h6:=r6 τ' F' [.bool e0] [] (.cons h5 .nil);rw[h2]at h6;have W:VD P U τ' F' (.bool e0) v:=h6;cases W;rw[he]at hr;refine((HN hm V n0).run f xs (Eb P w) _ hp' (hr n0 (TK _)) (BS.ro w) w (wX w) w ys hx (HR.ro P w)).mono fun e w' he=>?_;obtain⟨σ',u,rfl,_,hv,X⟩:=he;cases hv;exact⟨rfl,HR.roBelow X⟩
end
mutual
def noFv (n:Nat):SV->Bool
 | .any=>true| .int _ _=>true| .bool _=>true| .str _=>true| .nilp=>true| .nils=>true| .sl _ _ _ _ _=>true| .agg l=>noFvs n l| .tup l=>noFvs n l|_=>false
def noFvs (n:Nat):As->Bool
 | []=>true|a::l=>noFv n a&&noFvs n l
end
theorem pN {n:Nat}:∀ {l:As},noFvs n l=true-> ∀ {i:Nat} {a:SV},l[i]? =some a->noFv n a=true
 | [],_,i,a,h=>by grind|b::l,h,0,a,d=>by unfold noFvs at h;grind|b::l,h,i+1,a,d=>by unfold noFvs at h;rw[Tl]at h;exact pN h.2 (by simpa using d)
section
variable {P :Aw}{U:Ab}{ov:Aa}
def VD.noF {n:Nat}{τ:Tau}{F F':Ac}{a:SV}{v:Av}(h:VD P U τ F a v)(hn:noFv n a=true):VD P U τ F' a v:=by
 induction h with
 |any v=>exact .any v|int k e=>exact .int k e|bool e=>exact .bool e|str e=>exact .str e|nilp=>exact .nilp|nils=>exact .nils|sl b z off len cap i o c k h0 h1 hc=>exact .sl b z off len cap i o c k h0 h1 hc|sl0 b z off len cap k h0 h1 hc=>exact .sl0 b z off len cap k h0 h1 hc|agg l xs h1 _ f=>exact .agg l xs h1 fun i a x d hx=>f i a x d hx (pN (hn) d)
 |tup l xs h1 _ f=>exact .tup l xs h1 fun i a x d hx=>f i a x d hx (pN (hn) d)
 |_=>simp[noFv]at hn
end
def rok (s s':SS):Bool:=(s'.h.take (s'.h.length-s.h.length)).all fun p=>Nat.ble s.nx p.1
def rst (c:Con)(s:SS)(es:Au):SS:= {s with h:=V2 (C9 c.res) es (s.nx+1)++((s.nx,none)::s.h),nx:=s.nx+1+I3 (C9 c.res),fv:=s.fv+(n8 (C9 c.res)).length}
section
variable (P :Aw)(U:Ab)
def Qz (c:Con)(s0:SS)(es:Au)(a:SV):M Unit:=match Kl c.res a with
 |none=>a8 "contract: result"|some l=>match nC c.res l with
  |none=>a8 "contract: results"|some fl1=>b9 (yR P U (C9 c.res) fl1) fun vs=>b9 (mtL U [] (C9 c.res) vs) fun t=>p9 fun s2=>
   bif rok s0 s2&&t.2.all (Nat.ble s0.nx)&&dB t.2&&Nat.beq t.2.length (I3 (C9 c.res))then
    fun _=>.need (.pt (c.name++ "Rel") [(n8 c.inL).zip es,(n8 (C9 c.res)).zip t.1]) (c.rel (t8 U (n8 c.inL) es) (t8 U (n8 (C9 c.res)) t.1)) .done
   else a8 "contract: it writes"
def cvr (c:Con)(run:As->M SV):Tr (Unit×SS):=
 CE (n8 c.inL) 0 fun es=>.asm (.pt (c.name++ "Pre") [(n8 c.inL).zip es]) (c.pre (t8 U (n8 c.inL) es)) ((b9 (run (fN c es)) (Qz P U c (gst c es (n8 c.inL).length) es)) (gst c es (n8 c.inL).length))
def kro (c:Con)(args:As):M SV:=p9 fun s0=>match nC c.args args with
 |none=>a8 "contract: arguments"|some fl1=>match c.find args s0 with
  |none=>a8 "contract: no blocks"|some bl=>match oY s0 c.blks bl with
   |none=>a8 "contract: blocks"|some fl2=>b9 (yR P U c.inL (fl1++fl2)) fun vs=>b9 (mtL U bl c.inL vs) fun t=>p9 fun s1=>
    bif bl.all (tX s1)&&dB (bl++t.2)&&Nat.beq t.2.length (I3 c.inL)then
     fun _=>.need (.pt (c.name++ "Pre") [(n8 c.inL).zip t.1]) (c.pre (t8 U (n8 c.inL) t.1)) (CE (n8 (C9 c.res)) s1.fv fun ds=>.asm (.pt (c.name++ "Rel") [(n8 c.inL).zip t.1,(n8 (C9 c.res)).zip ds]) (c.rel (t8 U (n8 c.inL) t.1) (t8 U (n8 (C9 c.res)) ds))
      (.ret (yY c.res (Dz c.res (LJ idN (C9 c.res) ds (s1.nx+1))),rst c s1 ds)))
    else a8 "contract: the start"
end
section
variable {P :Aw}{U:Ab}{ov:Aa}
variable (P U ov) in
def RRO (c:Con)(g:Ay):Prop:=∀(es:Au),es.length=(n8 c.inL).length->c.pre (t8 U (n8 c.inL) es)-> ∀τ F hp xs,SD P U τ F (gst c (G3 U (n8 c.inL) 0 es) (n8 c.inL).length) hp->VDL P U τ F (fN c (G3 U (n8 c.inL) 0 es)) xs->
 ∃v F' hp' es' τ' s' vs fx accs,Y0 P ov g xs hp v hp'/\hp.nx<=hp'.nx/\Fle F F'/\(∀i y,F' i=some y->hp'.m.get i=some y/\i<hp'.nx)/\(∀i,i<hp.nx->hp'.m.get i=hp.m.get i)/\(∀i y,i<hp.nx->F' i=some y->F i=some y)/\
  es'.length=(n8 (C9 c.res)).length/\c.rel (t8 U (n8 c.inL) es) (t8 U (n8 (C9 c.res)) es')/\SD P U τ' F' s' hp'/\jT P U [] τ' F' s' (C9 c.res) vs es' accs/\VDL P U τ' F' vs fx/\
  (∀b∈accs,∀i o,τ' b=some (some (i,o))->hp.nx<=i)/\dB accs=true/\accs.length=I3 (C9 c.res)/\ ∀τ2 ws,VDL P U τ2 F' ws fx->VD P U τ2 F' (yY c.res (Dz c.res ws)) v
variable {c:Con}{g:Ay}
def SA {run:As->M SV}(D:C8 P U ov run g)(Y:(cvr P U c run).vc U fun _=>True):RRO P U ov c g:=by
 intro es k B τ F hp xs hs hx;have hq:=iR (U:=U) _ _ _ Y es k;have hq:=hq (by rw[J4 _ _ _ k];exact B);generalize hds:G3 U (n8 c.inL) 0 es=ds at*;rw[A5]at hq;obtain⟨a,s1,hq,τ1,F1,hp1,L,hs1,v,q,X⟩:=D _ xs τ F _ hp hx hs _ hq hs;unfold Qz at hq;cases c1:Kl c.res a with
 |none=>rw[c1]at hq;exact hq.elim|some l=>
 rw[c1]at hq;simp only at hq;cases c2:nC c.res l with
 |none=>rw[c2]at hq;exact hq.elim|some N=>
 rw[c2]at hq;simp only at hq;obtain⟨us,T,V⟩:=Iv c1 X;obtain⟨z,O,aa,R⟩:=nD c2 T;rw[A5]at hq;obtain⟨vs,s2,hq,τ2,J,hp2,ex2,r,rfl,Z⟩:=hO (C9 c.res) N z τ1 F1 s1 hp1 O hs1 _ hq hs1;rw[A5]at hq;obtain⟨⟨w,d⟩,E,hq,o3,A,W⟩:=uJ (P:=P) (τ:=τ2) (F:=J) [] (C9 c.res) vs s2 _ hq r.fc;simp only[p9]at hq;cases K:rok (gst c ds (n8 c.inL).length) E&&d.all (Nat.ble (gst c ds (n8 c.inL).length).nx)&&dB d&&Nat.beq d.length (I3 (C9 c.res))with
 |false=>rw[K]at hq;exact hq.elim|true=>
 rw[K]at hq;simp only[Tl,Ub,TS]at K;obtain⟨⟨⟨k1,k3⟩,k4⟩,k2⟩:=K;have n:c.rel (t8 U (n8 c.inL) ds) (t8 U (n8 (C9 c.res)) w):=hq.1;have hd:t8 U (n8 c.inL) ds=t8 U (n8 c.inL) es:=by rw[<-hds];exact J4 _ _ _ k
 rw[hd]at n;have u:=r.only o3 A;have ex:=L.trans (ex2.trans (Vt r o3));have hm:=W E o3.h;unfold rok at k1;rw[TS]at k1;obtain⟨l,a1,a2,a3,a4,_⟩:=ex.hh;have hl:E.h.take (E.h.length-(gst c ds (n8 c.inL).length).h.length)=l:=by rw[a1,TO,Nat.add_sub_cancel,List.take_left'];rfl
 have j:∀b∈l.map Prod.fst,(gst c ds (n8 c.inL).length).nx<=b:=by intro b hb;obtain⟨p,hp,rfl⟩:=UO.1 hb;rw[hl]at k1;simpa using k1 p hp
 have G:∀i,i<hp.nx->hp2.m.get i=hp.m.get i:=fun i hi=>a2 i hi fun b x o hb _ hm=>by have:=j b hm;have:=hs.bound hb;omega
 refine⟨v,J,hp2,w,τ2,E,vs,z,d,q,ex.nx,ex.f,fun i y h=>⟨u.frz i y h,u.flt i y h⟩,G,fun i y hi hy=>?_,hm.len,n,u,hm,Z,fun b hb i o ht=>?_,k4,k2,fun H ws h5=>?_⟩;rcases a4 i y hi hy with h| ⟨b,o,h1,h2⟩;exact h;rcases a3 b i o (j b h2) h1 with h| ⟨b0,x,o0,h2,_,h3⟩;omega;have:=j b0 h3;have:=hs.bound h2;omega;rcases a3 b i o (To (k3 b hb)) ht with h| ⟨b0,x,o0,h2,_,h3⟩;exact h;have:=j b0 h3;have:=hs.bound h2;omega;have h6:=V H J _ (R H J _ [] h5);rwa[UV]at h6
def P0 (hg:RRO P U ov c g):C8 P U ov (kro P U c) g:=by
 intro l args τ F s hp hl hs Q hq _;unfold kro at hq;simp only[p9]at hq;cases c1:nC c.args l with
 |none=>rw[c1]at hq;exact hq.elim|some ab=>
 rw[c1]at hq;simp only at hq;cases c2:c.find l s with
 |none=>rw[c2]at hq;exact hq.elim|some L=>
 rw[c2]at hq;simp only at hq;cases c3:oY s c.blks L with
 |none=>rw[c3]at hq;exact hq.elim|some ac=>
 rw[c3]at hq;simp only at hq;obtain⟨N,al,an,ao⟩:=nD c1 hl;obtain⟨ad,ah,ai⟩:=mZ hs c3;rw[A5]at hq;obtain⟨vs,s2,hq,τ2,Y,hp2,ex2,H,rfl,au⟩:=hO c.inL (ab++ac) (N++ad) τ F s hp (al.append ah) hs _ hq hs;rw[A5]at hq;obtain⟨⟨es,m⟩,a,hq,o3,R,aq⟩:=uJ (P:=P) (τ:=τ2) (F:=Y) L c.inL vs s2 _ hq H.fc;simp only[p9]at hq;cases c5:L.all (tX a)&&dB (L++m)&&Nat.beq m.length (I3 c.inL)with
 |false=>rw[c5]at hq;exact hq.elim|true=>
 rw[c5]at hq;simp only[Tl,TS,Ub]at c5;obtain⟨⟨k1,k2⟩,k3⟩:=c5;have f:=H.only o3 R;have hm:=aq a o3.h;have A:=hm.len;have B:c.pre (t8 U (n8 c.inL) es):=hq.1;have G:∀b∈L,∃x,a.get b=some x:=fun b hb=>pH (k1 b hb);have aj:=ai.mono ex2.t;obtain⟨g1,g2,g3⟩:=Mh (fv:=(n8 c.inL).length) f au an aj hm k2 G k3 (M3 (n8 c.inL) 0 es A);have E:VDL P U (rU τ2 (L++m)) Y (fN c (G3 U (n8 c.inL) 0 es)) args:=by obtain⟨w1,_⟩:=g2.split;have:=ao _ _ _ ((nF c (G3 U (n8 c.inL) 0 es)).drop N.length) w1;rw[UX]at this;exact this
 obtain⟨v,F',hp',D,τ',s',az,fx,bs,r1,r2,r3,r4,r5,r6,r7,r8,r9,V,av,W,aw,ay,ax⟩:=hg es A B _ Y hp2 args g1 E;have hQ:=iR (U:=U) _ _ _ (hq.2 B) D r7 (by rw[J4 _ _ _ r7];exact r8);have J:=M3 (U:=U) (n8 (C9 c.res)) a.fv D r7;generalize G3 U (n8 (C9 c.res)) a.fv D=ds at hQ J;have lo:∀b,b<a.nx+1->K5 τ2 τ' (a.nx+1) bs b=τ2 b:=fun b hb=>eY hb;have hi:∀k b,bs[k]? =some b->K5 τ2 τ' (a.nx+1) bs (a.nx+1+k)=τ' b:=fun k b h=>jK h;have aa:∀b p,τ2 b=some p->b<a.nx:=fun b p hb=>Nat.lt_of_not_le fun ap=>by rw[f.new b ap]at hb;cases hb
 have u:Tle τ2 (K5 τ2 τ' (a.nx+1) bs):=fun b p hb=>by rw[lo b (Nat.lt_succ_of_lt (aa b p hb))];exact hb
 have K:=V.vals (τ2:=K5 τ2 τ' (a.nx+1) bs) (num:=idN) J (fun i b h=>by simp at h) hi av;have O:=V.blks (nb:=a.nx+1) J;have n:∀b x,(rst c a ds).get b=some x->(∃k b' x',b=a.nx+1+k/\bs[k]? =some b'/\s'.get b'=some x'/\(∀(τ2:Tau) o z,BD P U τ' F' o x' z->BD P U τ2 F' o x z)/\(E9 P U x'->E9 P U x))\/a.get b=some x:=by
  intro b x ak;have d:(match lk (V2 (C9 c.res) ds (a.nx+1)++((a.nx,none)::a.h)) b with|some x=>x|none=>none)=some x:=ak;rw[L1]at d;cases c2:lk (V2 (C9 c.res) ds (a.nx+1)) b with
  |some y=>rw[c2]at d;simp only at d;subst d;obtain⟨k,b',X,x',e1,e2,e3,e4,e5,e6⟩:=O b _ c2;cases e3;exact .inl ⟨k,b',x',e1,e2,e4,e5,e6⟩
  |none=>rw[c2]at d;simp only[A0]at d;by_cases e:a.nx=b;rw[TJ e]at d;cases d;rw[TH e]at d;exact .inr d
 have M:∀k b' i o,bs[k]? =some b'->K5 τ2 τ' (a.nx+1) bs (a.nx+1+k)=some (some (i,o))->hp2.nx<=i:=fun k b' i o e h=>by rw[hi k b' e]at h;exact W b' (Tv e) i o h
 have w:∀b x,a.get b=some x->b<a.nx+1:=fun b x h=>Nat.lt_succ_of_lt (f.bound h);have EX:Ext τ2 Y a hp2 (K5 τ2 τ' (a.nx+1) bs) F' (rst c a ds) hp':=by
  refine⟨u,r3,r2,?_,fun b hb=>lo b (Nat.lt_succ_of_lt hb),fun b x hb hlt=>?_,⟨V2 (C9 c.res) ds (a.nx+1)++ [(a.nx,none)],?_,fun i hi _=>r5 i hi,fun b i o hb ht=>.inl ?_,fun i y hi hy=>.inl (r6 i y hi hy),fun hp=>absurd rfl (hp (a.nx,none) (by simp))⟩,⟨[],rfl⟩,
   ⟨V2 (C9 c.res) ds (a.nx+1)++ [(a.nx,none)],?_,fun _ _ _ _ i _ cs _ _ _ hi hg _=>⟨cs,by rw[r5 i hi];exact hg,fun _ _=>rfl⟩⟩⟩
  show a.nx<=a.nx+1+I3 (C9 c.res);omega;rcases n b x hb with⟨k,_,_,rfl,_⟩|h;omega;exact⟨x,h⟩;show V2 (C9 c.res) ds (a.nx+1)++((a.nx,none)::a.h)=_;rw[Tz];rfl;by_cases e:b<a.nx+1;rw[lo b e,f.new b hb]at ht;cases ht;unfold K5 at ht;rw[TH e]at ht;split at ht;rename_i b' ae;exact W b' (Tv ae) i o ht;cases ht;show V2 (C9 c.res) ds (a.nx+1)++((a.nx,none)::a.h)=_;rw[Tz];rfl
 refine⟨_,_,hQ,_,F',hp',(ex2.trans (Vt H o3)).trans EX,⟨fun b x hb=>?_,fun b c2 x y i o j q hb hc T e1 e2=>?_,fun i b h=>(r4 i b h).1,fun b i o h=>?_,fun i b h=>(r4 i b h).2,fun b hb=>?_,f.fc,fun r hr=>(f.fz r hr).mono u r3⟩,v,r1,ax _ _ K⟩
 ·rcases n b x hb with⟨k,b',x',rfl,e2,e3,e4,e5⟩|h;rcases r9.live b' x' e3 with⟨i,o,y,k1,k2,k3,k4⟩| ⟨k1,k2⟩;exact .inl ⟨i,o,y,by rw[hi k b' e2];exact k1,k2,k3,e4 _ o y k4⟩;exact .inr ⟨by rw[hi k b' e2];exact k1,e5 k2⟩
  ·rw[lo b (w b x h)];rcases f.live b x h with⟨i,o,y,h1,h2,h3,h4⟩|h
   ·have hi:=f.lt b i o h1;refine .inl ⟨i,o,y,h1,by rw[r5 i hi];exact h2,?_,h4.mono u r3⟩;cases hF:F' i with
    |none=>rfl|some y'=>rw[r6 i y' hi hF]at h3;cases h3
   exact .inr h
 rcases n b x hb with⟨k,b',x',rfl,e3,e4,_⟩|h;rcases n c2 y hc with⟨k2,Z,x2,rfl,f3,f4,_⟩|h2;rw[hi k b' e3]at e1;rw[hi k2 Z f3]at e2;exact r9.inj b' Z x' x2 i o j q e4 f4 (fun e=>T (by subst e;rw[dC aw k k2 b' e3 f3])) e1 e2;have:=M k b' i o e3 e1;rw[lo c2 (w c2 y h2)]at e2;have:=f.lt c2 j q e2;omega;rw[lo b (w b x h)]at e1;rcases n c2 y hc with⟨k2,Z,x2,rfl,f3,f4,_⟩|h2;have:=M k2 Z j q f3 e2;have:=f.lt b i o e1;omega;rw[lo c2 (w c2 y h2)]at e2;exact f.inj b c2 x y i o j q h h2 T e1 e2;by_cases e:b<a.nx+1;rw[lo b e]at h;exact Uo (f.lt b i o h) r2;unfold K5 at h;rw[TH e]at h;split at h;exact r9.lt _ i o h;cases h;have hb:a.nx+1+I3 (C9 c.res)<=b:=hb;unfold K5;rw[TH (by omega),Vi (by omega)]
variable {l:List (Ay×Con)}{xs:G1}
def eP (a:Ay->List (Nat×(Fm->SS->J0)))(d:O8 P U ov l)(hx:gF P U ov xs)(n:Nat){V:Prop}(he:(cvr P U c (sxF P U a (lB P U l xs) n g)).vc U (fun _=>True)=V)(hv:V)(b:∀g,isT (ov g)=true->kK P U l g≠none:=by exact noT)(hg:isT (ov g)=false:=by rfl):RRO P U ov c g:=
 SA (Og a (con:=lB P U l xs) (AK d hx) (fun g hg hn=>b g hg (pA hx g hg hn)) n g hg) (he.symm▸hv)
def PH {mu:Ar->Nat}(h:∀n,RRO P U ov (c.below mu n) g->RRO P U ov (c.below mu (n+1)) g):RRO P U ov c g:=by
 have all:∀n,RRO P U ov (c.below mu n) g:=fun n=>by
  induction n with
  |zero=>intro es _ a;exact absurd a.2 (Nat.not_lt_zero _)
  |succ n d=>exact h n d
 intro es b a;exact all (mu (t8 U (n8 c.inL) es)+1) es b ⟨a,Uv _⟩
def PG (a:Ay->List (Nat×(Fm->SS->J0)))(d:O8 P U ov l)(hx:gF P U ov xs)(m:Nat)(mu:Ar->Nat){V:Nat->Prop}(he:∀n,(cvr P U (c.below mu (n+1)) (sxF P U a (lB P U l ((g,kro P U (c.below mu n))::xs)) m g)).vc U (fun _=>True)=V n)(hv:∀n,V n)(b:∀g',isT (ov g')=true->kK P U l g'≠none:=by exact noT)(hg:isT (ov g)=false:=by rfl):RRO P U ov c g:=
 PH fun n hn=>eP a d (xs:=(g,kro P U (c.below mu n))::xs) ⟨⟨P0 hn,hg⟩,hx⟩ m (he n) (hv n) b hg
end
section
variable {P :Aw}{U:Ab}{ov:Aa}
variable (U) in
def wkM (run:As->M SV)(l:As):M SV:=match l with
 | .sl b z off len cap::r=>match cap with
  | .ge=>run (.sl b z off len .ge::r)|cap=>p9 fun s=>match s.get b with
   | some (.rows L e z' ph) => bif Nat.beq z z' then b9 (match cap with
     | .ex c=>l8 U (F7 c len)|_=>i3 ()) fun _=>b9 (l8 U (y5 (y8 (A7 L) (y4 off len)))) fun _=>b9 (l8 U (y8 len (.int 67108865))) fun _=>run (.sl b z off len .ge::r)
    else a8 "full: size"
   |_=>a8 "full: block"
 |l=>run l
variable {g:Ay}
def Qf (b:wkF P g=true)(hg:isT (ov g)=false){a a':Av}{r:Af}{hp hp':Hp}{v:Av}(h1:wkA hp (a::r)=a'::r)(h2:wkA hp (a'::r)=a'::r)(h:Y0 P ov g (a'::r) hp v hp'):Y0 P ov g (a::r) hp v hp':=by
 obtain⟨m,h⟩:=h;refine⟨m+1,fun n hn=>?_⟩;obtain⟨k,rfl⟩:∃k,n=k+1:=⟨n-1,by omega⟩
 have h:(D8 P ov (k+1)).run g (a'::r) hp=some (v,hp'):=h (k+1) (by omega);have e:∀x:Av,(D8 P ov (k+1)).run g (x::r) hp=fU (U9 P (u7 P) (D8 P ov k) (Q7 P (u7 P) (D8 P ov k) k) k g) (wkA hp (x::r)) hp:=fun x=>by show(bif isT (ov g)&&(x::r).isEmpty then some (.bool true,hp)else fU (U9 P (u7 P) (D8 P ov k) (Q7 P (u7 P) (D8 P ov k) k) k g) (bif wkF P g then wkA hp (x::r)else(x::r)) hp)=_;rw[hg,Bool.false_and,TF,b,TE]
 rw[e,h2]at h;rw[e,h1];exact h
def SY {run:As->M SV}(hr:C8 P U ov run g)(u:wkF P g=true)(hg:isT (ov g)=false):C8 P U ov (wkM U run) g:=by
 intro l args τ F s hp hl hs;unfold wkM;split
 ·rename_i b z off len cap r;split;exact hr _ _ _ _ _ _ hl hs
  ·rename_i hge;refine VB ?_;split
   ·rename_i L e G ph hb;cases hz:Nat.beq z G with
    |false=>exact VA|true=>
    simp only[TE];have hz:=Tp hz;subst hz;have first:OKp U (match cap with| .ex c=>l8 U (F7 c len)|_=>i3 ()) s fun _=>∀c,mY U len cap c->c=len.toN U\/ ∃lo,c=d9 lo 0/\lo<=67108864/\len.toI U<=67108864:=by
     cases cap with
     |ex c=>refine OKp.need.mono fun _ h c' hc=>.inl ?_;have h:=(Vq U _).1 h;rw[E7]at h;have h:=UM h;obtain⟨_,h2,_⟩:=hc;rw[h2];show(c.toI U).toNat=(len.toI U).toNat;rw[h]
     |ge=>exact absurd rfl (hge)|un=>refine VJ fun c hc=>?_;rcases hc with⟨_,h,_⟩|h;exact .inl h;exact .inr h
    refine Vy first fun _ s1 w hs1 hc=>Vy VF fun _ s2 x q p1=>Vy VF fun _ B A f p2=>?_
    have p1:=A4 p1;have p2:=C7 p2;rw[j7,j2]at p1;simp only[B7]at p2;have m:B.get b=some (.rows L e z ph):=by rw[A.get,x.get,w.get];exact hb
    obtain⟨y,ys,rfl,D,j⟩:=hl.uncons;cases D with
    |sl0 _ _ _ _ _ d h0 h1 _=>exact hr _ _ _ _ _ _ (.cons (.sl0 b z off len .ge d h0 h1 (fun e he=>by cases he)) j) f|sl _ _ _ _ _ i o c d h0 h1 k=>
     rcases hc c k with h| ⟨lo,rfl,h2,h3⟩
     ·have e1:len.toI U=((len.toN U:Nat):Int):=by show len.toI U=(((len.toI U).toNat:Nat):Int);omega
      have p:VDL P U τ F (.sl b z off len .ge::r) (.slice (some ⟨i,o+off.toN U*z,none⟩) (len.toN U) (d9 (len.toN U) 0)::ys):= .cons (.sl b z off len .ge i o _ d h0 h1 ⟨len.toN U,rfl,by omega,by omega⟩) j;refine(hr _ _ _ _ _ _ p f).mono fun a τ' F' hp' _ _ ⟨v,hx,hv⟩=>⟨v,Qf u hg ?_ Ja hx,hv⟩
      rcases f.live b _ m with⟨H,o',J,k1,k2,_,cs,n,rfl,⟨k3,_⟩,_⟩| ⟨k1,_⟩
      ·rw[d]at k1;simp only[Tk,Tm]at k1;obtain⟨rfl,rfl⟩:=k1;subst h;have h4:Nat.ble (len.toN U) 67108864=true:=Ts (by omega);have h5:Nat.ble (o+off.toN U*z+len.toN U*z) n=true:=Ts (by
        have e2:off.toI U=((off.toN U:Nat):Int):=by show off.toI U=(((off.toI U).toNat:Nat):Int);omega
        have:off.toN U+len.toN U<=(L.toR U).length:=by omega
        have:=Ty z this;rw[TX]at this;omega)
       simp only[wkA,h4,TE,k2,h5]
      rw[d]at k1;cases k1
     exact hr _ _ _ _ _ _ (.cons (.sl b z off len .ge i o _ d h0 h1 ⟨lo,rfl,h2,h3⟩) j) f
   exact VA
 exact hr _ _ _ _ _ _ hl hs
end
section
variable {P :Aw}{ov:Aa}{ar:Ai}{nt:Nat}
structure H7 (hp hp':Hp):Prop where
 nx:hp.nx<=hp'.nx
 dfr:∀r,r<hp.nx->hp.m.get r=some .dfr->hp'.m.get r=some .dfr
def H7.refl (hp:Hp):H7 hp hp:=⟨TK _,fun _ _ h=>h⟩
def H7.trans {a b c:Hp}(h:H7 a b)(k:H7 b c):H7 a c:=⟨Us h.nx k.nx,fun r hr h0=>k.dfr r (Uo hr h.nx) (h.dfr r hr h0)⟩
def Ext.keeps {U:Ab}{τ τ':Tau}{F F':Ac}{s s':SS}{hp hp':Hp}(h:Ext τ F s hp τ' F' s' hp')(hs:SD P U τ F s hp):H7 hp hp':=
 ⟨h.nx,fun r hr h0=>h.dfr hs hr h0 (.inl rfl)⟩
variable (P ov ar nt) in
structure XK (c:Code)(tm:Ao)(hp:Hp)(e:Exit)(tm':Ao)(hp':Hp):Prop where
 run:XC P ov ar nt c tm hp e tm' hp'
 kp:H7 hp hp'
variable {c c1 c2:Code}{tm tm1 tm':Ao}{hp hp1 hp':Hp}{e:Exit}
def XK.seq (h:XK P ov ar nt c1 tm hp .normal tm1 hp1)(k:XK P ov ar nt c2 tm1 hp1 e tm' hp'):XK P ov ar nt (.seq c1 c2) tm hp e tm' hp':=
 ⟨h.run.comp k.run h.kp.nx k.kp.nx k.kp.dfr fun n m ds d f a b=>by simp only[l7,a,b],h.kp.trans k.kp⟩
def XK.seqX (h:XK P ov ar nt c1 tm hp e tm' hp')(he:e≠ .normal):XK P ov ar nt (.seq c1 c2) tm hp e tm' hp':=
 ⟨h.run.map fun n m ds b a=>by simp only[l7,a];cases e<;>first|rfl|exact absurd rfl he,h.kp⟩
def XK.condT {o:Az}(hc:c9 tm o=some (.bool true))(h:XK P ov ar nt c1 tm hp e tm' hp'):XK P ov ar nt (.cond o c1 c2) tm hp e tm' hp':=
 ⟨h.run.map fun n m ds b a=>by simp only[l7,hc,a],h.kp⟩
def XK.condF {o:Az}(hc:c9 tm o=some (.bool false))(h:XK P ov ar nt c2 tm hp e tm' hp'):XK P ov ar nt (.cond o c1 c2) tm hp e tm' hp':=
 ⟨h.run.map fun n m ds b a=>by simp only[l7,hc,a],h.kp⟩
def XK.skip :XK P ov ar nt .skip tm hp .normal tm hp:=⟨.of0 ⟨0,fun n m ds _ _=>rfl⟩,.refl _⟩
def XK.ret :XK P ov ar nt .ret tm hp .ret tm hp:=⟨.of0 ⟨0,fun n m ds _ _=>rfl⟩,.refl _⟩
variable {id:Nat}
def XK.exit :XK P ov ar nt (.exit id) tm hp (.exit id) tm hp:=⟨.of0 ⟨0,fun n m ds _ _=>rfl⟩,.refl _⟩
def XK.block (h:XK P ov ar nt c tm hp .normal tm' hp'):XK P ov ar nt (.block id c) tm hp .normal tm' hp':=
 ⟨h.run.map fun n m ds b a=>by simp only[l7,a],h.kp⟩
def XK.blockX (h:XK P ov ar nt c tm hp (.exit id) tm' hp'):XK P ov ar nt (.block id c) tm hp .normal tm' hp':=
 ⟨h.run.map fun n m ds b a=>by simp only[l7,a,t9 rfl,TE],h.kp⟩
def XK.loopN (h:XK P ov ar nt c tm hp .normal tm1 hp1)(k:XK P ov ar nt (.loop c) tm1 hp1 e tm' hp'):XK P ov ar nt (.loop c) tm hp e tm' hp':=
 ⟨h.run.comp k.run h.kp.nx k.kp.nx k.kp.dfr fun n m ds d f a b=>by simp only[l7,a,b],h.kp.trans k.kp⟩
def XK.loopX (h:XK P ov ar nt c tm hp e tm' hp')(he:e≠ .normal):XK P ov ar nt (.loop c) tm hp e tm' hp':=
 ⟨h.run.map fun n m ds b a=>by simp only[l7,a];cases e<;>first|rfl|exact absurd rfl he,h.kp⟩
variable {ops:Am}
def XK.region (h:XOps P ov nt ops.toList ops.toList tm hp tm' hp')(k:H7 hp hp'):XK P ov ar nt (.region id ops false) tm hp .normal tm' hp':=by obtain⟨n0,h⟩:=h;exact⟨.of0 ⟨n0,fun n m ds hn _=>by simp only[l7,TF,h n hn]⟩,k⟩
def XK.draw (h:EV fun n=>u7 P (D8 P ov n) nt ops.toList tm hp=some (tm',hp'))(k:H7 hp hp'):XK P ov ar nt (.region id ops true) tm hp .normal tm' hp':=by obtain⟨n0,h⟩:=h;exact⟨.of0 ⟨n0,fun n m ds hn _=>by simp only[l7,TE,h n hn]⟩,k⟩
variable (P ov nt) in
def YO (all l:An)(tm:Ao)(hp:Hp)(Q:Ao->Hp->Prop):Prop:=∃tm1 hp1,XOps P ov nt all l tm hp tm1 hp1/\Q tm1 hp1
variable (P ov ar nt) in
def YN (c:Code)(tm:Ao)(hp:Hp)(Q:Ao->Hp->Prop):Prop:=∃tm1 hp1,XK P ov ar nt c tm hp .normal tm1 hp1/\Q tm1 hp1
variable {Q :Ao->Hp->Prop}{all rest:An}{o:Oper}{v:Av}{t:Tmp}
def YO.nil (h:Q tm hp):YO P ov nt all [] tm hp Q:=⟨_,_,.of fun _=>wS,h⟩
def YO.cons (h1:B6 nt o.dst=true)(h2:o.guard=none)(h:XOp P ov o.op tm hp v hp1)(k:YO P ov nt all rest (y6 tm o.dst v) hp1 Q):YO P ov nt all (o::rest) tm hp Q:=by obtain⟨t1,d,k1,k2⟩:=k;refine⟨t1,d,(h.and k1).mono fun n ⟨a,b⟩=>?_,k2⟩;rw[W5,h1,TE,a];simp only[t7,h2,TE];exact b
def YO.op (h1:B6 nt o.dst=true)(h2:o.guard=none)(h:∀call,xop P call tm hp o.op=some (v,hp1))(k:YO P ov nt all rest (y6 tm o.dst v) hp1 Q):YO P ov nt all (o::rest) tm hp Q:= .cons h1 h2 (.of fun _=>h _) k
def YO.mv (h1:B6 nt o.dst=true)(h2:o.guard=none)(h:o.op= .move (.tmp t))(hv:tm.get t=some v)(k:YO P ov nt all rest (y6 tm o.dst v) hp Q):YO P ov nt all (o::rest) tm hp Q:=
 .op h1 h2 (fun _=>by rw[h];simp only[c8,j5,c9,i7,hv,Ud]) k
def YO.asg (h1:B6 nt o.dst=true)(h2:o.guard=none)(h:o.op= .assign (.tmp t))(hv:tm.get t=some v)(k:YO P ov nt all rest (y6 tm o.dst v) hp Q):YO P ov nt all (o::rest) tm hp Q:=
 .op h1 h2 (fun _=>by rw[h];simp only[c8,j5,c9,i7,hv,Ud]) k
def YN.region (h:YO P ov nt ops.toList ops.toList tm hp fun t1 h1=>H7 hp h1/\Q t1 h1):YN P ov ar nt (.region id ops false) tm hp Q:=by obtain⟨t1,h1,k1,k2,k3⟩:=h;exact⟨t1,h1,.region k1 k2,k3⟩
def YN.seq (h:YN P ov ar nt c1 tm hp fun t1 h1=>YN P ov ar nt c2 t1 h1 Q):YN P ov ar nt (.seq c1 c2) tm hp Q:=by obtain⟨t1,h1,k1,t2,h2,k2,k3⟩:=h;exact⟨t2,h2,k1.seq k2,k3⟩
def YN.skip (h:Q tm hp):YN P ov ar nt .skip tm hp Q:=⟨_,_,.skip,h⟩
def YN.condT {o:Az}(hc:c9 tm o=some (.bool true))(h:YN P ov ar nt c1 tm hp Q):YN P ov ar nt (.cond o c1 c2) tm hp Q:=by obtain⟨t1,h1,k1,k2⟩:=h;exact⟨t1,h1,k1.condT hc,k2⟩
def YN.condF {o:Az}(hc:c9 tm o=some (.bool false))(h:YN P ov ar nt c2 tm hp Q):YN P ov ar nt (.cond o c1 c2) tm hp Q:=by obtain⟨t1,h1,k1,k2⟩:=h;exact⟨t1,h1,k1.condF hc,k2⟩
def YN.block (h:YN P ov ar nt c tm hp Q):YN P ov ar nt (.block id c) tm hp Q:=by obtain⟨t1,h1,k1,k2⟩:=h;exact⟨t1,h1,k1.block,k2⟩
def YN.mono {a:Ao->Hp->Prop}(h:YN P ov ar nt c tm hp Q)(k:∀t1 h1,H7 hp h1->Q t1 h1->a t1 h1):YN P ov ar nt c tm hp a:=by obtain⟨t1,h1,k1,k2⟩:=h;exact⟨t1,h1,k1,k _ _ k1.kp k2⟩
variable (P ov nt) in
def YG (all:An)(nx0:Nat)(l:List (Oper×Nat))(i:Nat)(tm:Ao)(S:Hp)(I:Nat)(es:List Ent)(Q:Out->Prop):Prop:=∃out,(EV fun n=>xgo P (D8 P ov n) nt all nx0 l i tm S I es=some out)/\Q out
variable {nx0 pre ix I:Nat}{restG:List (Oper×Nat)}{S S2:Hp}{es:List Ent}{QO:Out->Prop}
def YG.nil (h:QO ⟨tm,S,I,es⟩):YG P ov nt all nx0 [] ix tm S I es QO:=⟨_,.of fun _=>rfl,h⟩
theorem YG.k0 (h1:B6 nt o.dst=true)(h2:o.guard=none)(h3:i4 o.op=0)(h:∀call,xop P call tm S o.op=some (v,S))(k:YG P ov nt all nx0 restG (ix+1) (y6 tm o.dst v) S I (⟨ix,o,pre,tm,S,S,I,true,v,none⟩::es) QO):YG P ov nt all nx0 ((o,pre)::restG) ix tm S I es QO:=by obtain⟨out,k1,k2⟩:=k;refine⟨out,k1.mono fun n a=>?_,k2⟩;simp only[xgo,t7,h2,TE,h3,h (D8 P ov n)];grind
theorem YG.k1 (h1:B6 nt o.dst=true)(h2:o.guard=none)(h3:i4 o.op=1)(h:∀call,xop P call tm S o.op=some (v,S))(k:YG P ov nt all nx0 restG (ix+1) (y6 tm o.dst v) S I (⟨ix,o,pre,tm,S,S,I,true,v,none⟩::es) QO):YG P ov nt all nx0 ((o,pre)::restG) ix tm S I es QO:=by
 obtain⟨out,k1,k2⟩:=k;refine⟨out,k1.mono fun n a=>?_,k2⟩;unfold xgo;have:xrd P tm S o.op=some v:=by unfold xrd;simp_all
 simp only[t7,h2,TE,h3,this];grind
def YG.k3 (h1:B6 nt o.dst=true)(h2:o.guard=none)(h3:i4 o.op=3)(ht:takes nx0 (lV pre I) es S=S)(h:XOp P ov o.op tm S v S2)(k:YG P ov nt all nx0 restG (ix+1) (y6 tm o.dst v) S2 (I|||pre) (⟨ix,o,pre,tm,S,S2,I,true,v,none⟩::es) QO):YG P ov nt all nx0 ((o,pre)::restG) ix tm S I es QO:=by obtain⟨out,k1,k2⟩:=k;refine⟨out,(h.and k1).mono fun n ⟨a,b⟩=>?_,k2⟩;unfold xgo;rw[h1,TE];simp only[t7,h2,TE,h3,ht,a];exact b
def YG.mv (h1:B6 nt o.dst=true)(h2:o.guard=none)(h3:o.op= .move (.tmp t))(hv:tm.get t=some v)(k:YG P ov nt all nx0 restG (ix+1) (y6 tm o.dst v) S I (⟨ix,o,pre,tm,S,S,I,true,v,none⟩::es) QO):YG P ov nt all nx0 ((o,pre)::restG) ix tm S I es QO:=
 .k0 h1 h2 (by rw[h3];rfl) (fun _=>by rw[h3];simp only[c8,j5,c9,i7,hv,Ud]) k
theorem YN.drawG (b:stat ops.toList (H2 ops.toList [])=true)(h:YG P ov nt ops.toList hp.nx (ops.toList.zip (H2 ops.toList [])) 0 tm ⟨hp.m,hp.nx+ops.toList.length⟩ 0 [] fun out=>dyn P ⟨hp.m,hp.nx+ops.toList.length⟩ out.es=true/\takes hp.nx (iD out.I) out.es out.S=out.S/\H7 hp out.S/\Q out.tm out.S):YN P ov ar nt (.region id ops true) tm hp Q:=by
 obtain⟨out,h1,h2,h3,h4,h5⟩:=h;refine⟨out.tm,out.S,.draw (h1.mono fun n a=>?_) h4,h5⟩;have:U4 P (D8 P ov n) nt ops.toList tm hp=some (out.tm,out.S):=by unfold U4;grind
 unfold u7;grind
end
def H9 (P:Aw)(g:Ay):Code:=match P.funcs[g]? with
 |some fn=>fn.body.getD .skip|none=>.skip
def cdA :Code->Code
 | .seq a _=>a| .cond _ a _=>a| .block _ c=>c| .loop c=>c|c=>c
def cdB :Code->Code
 | .seq _ b=>b| .cond _ _ b=>b|c=>c
section
variable {P :Aw}{U:Ab}{ov:Aa}
theorem jS {g:Ay}{fn:Func}{c:Code}{args:Af}{tm':Ao}{hp hp':Hp}{e:Exit}{vs:Af}(p:P.funcs[g]? =some fn)(hc:fn.body=some c)(hg:isT (ov g)=false)(h:XK P ov none (args.length+(fn.ntmps-args.length)) c (fill .e 0 args) hp e tm' hp')(he:e= .normal\/e= .ret)(b:∀hp2:Hp,(∀i,hp'.m.get i≠some .dfr->hp2.m.get i=hp'.m.get i)->I9 P tm' hp2 fn.results.toList=some vs)(u:wkF P g=false:=by kernel_rfl):∃hp2,Y0 P ov g args hp (fS vs) hp2/\hp2.nx=hp'.nx/\(∀i,hp'.m.get i≠some .dfr->hp2.m.get i=hp'.m.get i)/\H7 hp hp2:=by
 obtain⟨⟨j,⟨q,d⟩,A,e1⟩,kp⟩:=h;have f:∀n:Nat,K2 P (Q7 P (u7 P) (D8 P ov n) n) (j.map Df.mark++ []) hp'=K2 P (Q7 P (u7 P) (D8 P ov 0) 0) (j.map Df.mark++ []) hp':=fun n=>mI j hp';obtain⟨hp2,z,x,y⟩:=fG j hp' q fun r hr=>(d r hr).2.2;have w:∀i,hp'.m.get i≠some .dfr->hp2.m.get i=hp'.m.get i:=fun i hi=>y i fun hm=>hi (d i hm).2.2;refine⟨hp2,⟨A+1,fun n hn=>?_⟩,x,w,⟨by rw[x];exact kp.nx,fun r hr h0=>?_⟩⟩
 ·obtain⟨n,rfl⟩:∃k,n=k+1:=⟨n-1,by omega⟩
  have hx:=e1 n n [] (by omega) (by omega);show(bif isT (ov g)&&args.isEmpty then some (.bool true,hp)else fU (U9 P (u7 P) (D8 P ov n) (Q7 P (u7 P) (D8 P ov n) n) n g) (bif wkF P g then wkA hp args else args) hp)=_;rw[hg,Bool.false_and,TF,u,TF];have a:=(f n).trans z;have hb:U9 P (u7 P) (D8 P ov n) (Q7 P (u7 P) (D8 P ov n) n) n g args hp=some (fS vs,hp2):=by simp only[U9,p,hc];rcases he with hr|hr;rw[hr]at hx;simp only[hx,qH,a,b hp2 w];rw[hr]at hx;simp only[hx,qH,a,b hp2 w]
  simp only[fU,hb]
 rw[y r fun hm=>by grind];exact kp.dfr r hr h0
def FH (F:Ac)(hp:Hp):Prop:=∀i b,F i=some b->hp.m.get i=some b/\i<hp.nx
theorem SD.empty {F:Ac}{hp:Hp}(hF:FH F hp)(fv:Nat):SD P U (fun _=>none) F ⟨[],0,[],fv,[]⟩ hp:=
 ⟨fun b x h=>by simp[SS.get,lk]at h,fun b c x y i o j q h=>by grind,fun i b h=>(hF i b h).1,fun b i o h=>(by grind),fun i b h=>(hF i b h).2,fun _ _=>rfl,fun c t h=>by grind,fun r h=>by grind⟩
end
section
variable {P :Aw}{ov:Aa}{nt:Nat}{tm tm1 tm2:Ao}{hp hp1 hp2:Hp}
variable (P ov) in
def Fl (i:Nat)(args:Af)(hp:Hp)(v:Av)(hp':Hp):Prop:=EV fun n=>(D8 P ov n).round i args hp=some (v,hp')
variable {ps:Array Tmp}
def xrnd {i:Nat}{pend:Bb Code}{tms:Ao}{a bo:Code}{db:Nat}{args:Af}(hi:hp.m.get i=some (.loop .ready pend nt tms ps a bo db))(hl:ps.toList.length=args.length)(hlt:xI nt ps.toList=true)(h1:XK P ov (some i) nt a (iA tms ps.toList args) hp .normal tm1 hp1)(b:hp1.m.get i=some (.loop .ready pend nt tms ps a bo db))(h2:XK P ov (some i) nt bo tm1 ⟨hp1.m.set i (some (.loop .busy pend nt tms ps a bo db)),hp1.nx⟩ .normal tm2 hp2)(d:hp2.m.get i=some (.loop .busy pend nt tms ps a bo db)):Fl P ov i args hp (.bool true) ⟨hp2.m.set i (some (.loop .ready none nt tms ps a bo db)),hp2.nx⟩:=by
 obtain⟨⟨j,_,f,e1⟩,_⟩:=h1;obtain⟨⟨p,_,h,e2⟩,_⟩:=h2;refine⟨f+h+1,fun n hn=>?_⟩;obtain⟨n,rfl⟩:∃k,n=k+1:=⟨n-1,by omega⟩
 have e1:=e1 n n [] (by omega) (by omega);have e2:=e2 n n (j.map Df.mark++ []) (by omega) (by omega);show qN P (u7 P) (D8 P ov n) n i args hp=_;have hb:Nat.beq ps.toList.length args.length=true:=by rw[hl];exact Nat.beq_refl _
 simp only[qN,hi,hb,hlt,Bool.and_self,TE,e1,b,e2,d]
variable {v:Av}
def XK.range {f:Az}{g:Ay}{fn:Func}{first cap:Al}{a bo:Code}(hf:c9 tm f=some (.func (.func g) first cap))(b:P.funcs[g]? =some fn)(d:gA fn=true)(h:Y0 P ov g (first.toList++ [.chan (some (hp.nx+1))]++cap.toList) ⟨(hp.m.set hp.nx (some .dfr)).set (hp.nx+1) (some (.loop .ready none nt tm ps a bo hp.nx)),hp.nx+2⟩ v hp1)(i:hp1.m.get hp.nx=some .dfr)(hl:hp1.m.get (hp.nx+1)=some (.loop .ready none nt tm ps a bo hp.nx))(hx:hp.nx+2<=hp1.nx)(kp:∀r,r<hp.nx->hp.m.get r=some .dfr->hp1.m.get r=some .dfr):XK P ov none nt (.rangeFunc f ps a bo) tm hp .normal tm ⟨hp1.m.set (hp.nx+1) none,hp1.nx⟩:=by
 obtain⟨n0,h⟩:=h;have ne:∀r,r≠hp.nx+1->(hp1.m.set (hp.nx+1) none).get r=hp1.m.get r:=fun r hr=>by rw[VX,TH hr]
 refine⟨⟨[hp.nx],⟨by simp,fun r hr=>?_⟩,n0+1,fun n m ds hn hm=>?_⟩,⟨by show hp.nx<=hp1.nx;omega,fun r hr h0=>by show(hp1.m.set (hp.nx+1) none).get r=_;rw[ne r (by omega)];exact kp r hr h0⟩⟩
 ·have hr:r=hp.nx:=by simpa using hr
  subst hr;exact⟨TK _,by show hp.nx<hp1.nx;omega,by show(hp1.m.set (hp.nx+1) none).get hp.nx=_;rw[ne _ (by omega)];exact i⟩
 ·obtain⟨m,rfl⟩:∃k,m=k+1:=⟨m-1,by omega⟩
  simp only[l7,fI,hf,b,d,TE,h n (by omega),wT,hl];rfl
def wP {y:Tmp}{i:Nat}{args:Array Az}{ats:Array Ax}{vs:Af}(hy:tm.get y=some (.chan (some i)))(a:Y8 tm args.toList=some vs)(h:Fl P ov i vs hp v hp1):XOp P ov (.call ⟨.value (.tmp y),args,ats⟩) tm hp v hp1:=
 h.mono fun n k=>by simp only[c8,j5,a,c9,hy,Ud,kQ];exact k
