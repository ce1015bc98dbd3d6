/- The symbolic engine: Delete and Insert, parts 41, 42, 43, 44, 45, 48, 49, 46, 47, 50.
  Conditions: none. -/
import Derived.Test.YtoegfalhkackeaaGreatXm4
set_option linter.all false
noncomputable section
namespace Go.Sx
open Go.Xe
section
variable {P :Aw}{U:Ab}{τ:Tau}{F:Ac}{s:SS}{hp:Hp}
theorem SD.move2 (hs:SD P U τ F s hp){b i o b2 O R:Nat}{x T x':B6}(hb:s.get b=some x)(ht:τ b=some (some (i,o)))(u:s.get b2=some T)(B:τ b2=some (some (O,R)))(_:b2≠b){hp':Hp}(hn:hp.nx<=hp'.nx)(hk:∀j,j<hp.nx->j≠i->j≠O->hp'.m.get j=hp.m.get j){j q:Nat}(hj:j=i\/hp.nx<=j)(H:j<hp'.nx){y:Blk}(hi:hp'.m.get j=some y)(hd:BD P U (put τ s.nx (some (j,q))) F q x' y):Ext τ F s hp (put τ s.nx (some (j,q))) F (fH ((s.set b none).set b2 none) x') hp'/\SD P U (put τ s.nx (some (j,q))) F (fH ((s.set b none).set b2 none) x') hp':=by
 have h0:τ s.nx=none:=hs.new _ (Ri _);have A:=bO (some (j,q)) h0;have fz:∀ {b i o x},s.get b=some x->τ b=some (some (i,o))->F i=none:=by intro b i o x hb ht;rcases hs.live b x hb with⟨i',o',V,h1,_,h3,_⟩| ⟨h1,_⟩;grind;grind
 have X:=fz hb ht;have Y:=fz u B;have Z:F j=none:=by
  rcases hj with rfl|hj;exact X
  ·cases hF:F j with
   |none=>rfl|some w=>exact absurd (hs.flt j w hF) (by omega)
 have gt:∀c,(fH ((s.set b none).set b2 none) x').get c=if c=s.nx then some x' else if c=b2 then none else if c=b then none else s.get c:=by intro c;rw[gS,TH,TH];rfl
 refine⟨⟨A,Tn F,hn,by simp[fH,SS.set],fun c hc=>B7 τ _ (by omega),fun c y hc hlt=>?_,⟨[(s.nx,some x'),(b2,none),(b,none)],rfl,fun k p aa=>hk k p (by grind) (by grind),fun c k r hc h=>?_,fun _ _ _ h=>.inl h,fun _ _ _ h=>h⟩,⟨[],rfl⟩,⟨[(s.nx,some x'),(b2,none),(b,none)],rfl,fun d c e z j' q' cs n f hq H hg hl=>⟨cs,by
  have n1:d≠b:=fun h=>by subst h;obtain⟨_,q,_⟩:=hl none (by simp);cases q
  have n2:d≠b2:=fun h=>by subst h;obtain⟨_,q,_⟩:=hl none (by simp);cases q
  rw[hk j' H (hs.inj d b _ x j' q' i o f hb n1 hq ht) (hs.inj d b2 _ T j' q' O R f u n2 hq B)];exact hg,fun _ _=>rfl⟩⟩⟩,?_⟩
 grind;by_cases e:c=s.nx;subst e;rw[u5]at h;grind;rw[B7 τ _ e,hs.new c hc]at h;cases h
 ·have inv:∀c z,(fH ((s.set b none).set b2 none) x').get c=some z->c≠s.nx->c≠b/\c≠b2/\s.get c=some z:=by grind
  have apart:∀c z k r,c≠b->s.get c=some z->τ c=some (some (k,r))->k≠j:=by intro c z k r e hc h E;subst E;rcases hj with rfl|hj;exact hs.inj c b z x _ r _ o hc hb e h ht rfl;have:=hs.lt c _ r h;omega
  refine⟨fun c z hc=>?_,fun c d y z k r k' r' hc f J L K=>?_,fun k y p=>?_,fun c k r h=>?_,fun k y h=>RP (hs.flt k y h) hn,fun c hc=>?_,hs.fc,fun r hr=>(hs.fz r hr).mono A (Tn F)⟩;by_cases e:c=s.nx;subst e;rw[gt,Rh rfl,QI]at hc;subst hc;exact .inl ⟨j,q,y,u5 _ _ _,hi,Z,hd⟩;obtain⟨e',M,a⟩:=inv c z hc e;rcases hs.live c z a with⟨k,r,V,h1,h2,h3,h4⟩| ⟨h1,h2⟩;refine .inl ⟨k,r,V,by rw[B7 τ _ e];exact h1,?_,h3,h4.mono A (Tn F)⟩;rw[hk k (hs.lt c k r h1) ?_ ?_];exact h2;intro E;subst E;exact hs.inj c b z x _ r _ o a hb e' h1 ht rfl;intro E;subst E;exact hs.inj c b2 z T _ r _ R a u M h1 B rfl;exact .inr ⟨by rw[B7 τ _ e];exact h1,h2⟩;by_cases N:c=s.nx;subst N;have D:d≠s.nx:=fun h=>J h.symm;rw[u5]at L;rw[B7 τ _ D]at K;grind;obtain⟨e',_,a⟩:=inv c y hc N;rw[B7 τ _ N]at L;by_cases D:d=s.nx;subst D;rw[u5]at K;grind;obtain⟨W,_,G⟩:=inv d z f D;rw[B7 τ _ D]at K;exact hs.inj c d y z k r k' r' a G J L K;rw[hk k (hs.flt k y p) (by grind) (by grind)];exact hs.frz k y p;by_cases e:c=s.nx;subst e;rw[u5]at h;grind;rw[B7 τ _ e]at h;exact RP (hs.lt c k r h) hn;have:s.nx+1<=c:=hc;rw[B7 τ _ (by omega)];exact hs.new c (by omega)
end
section
variable (P :Aw)(U:Ab)
def sdel (e size:Nat)(args:As):M SV:=match args with
 | [.sl b z off len .ge,.int .i64 a,.int .i64 c]=>b9 (yA P b) fun _=>t9 fun s=>match s.get b with
  | some (.rows L e' z' _) => bif Nat.beq e e' && Nat.beq size z && Nat.beq size z' && Nat.beq size (kf P e).length then
    b9 (p8 U (y8 (z4 (A6 L) (y7 off len)))) fun _=>b9 (p8 U (y8 (z4 a (.int 0)))) fun _=>b9 (p8 U (z4 a c)) fun _=>b9 (p8 U (y8 (z4 len c))) fun _=>
    b9 (W5 U L off a) fun A=>b9 (W5 U L (y7 off c) (M3 len c)) fun B=>smove e size b (.rows (E9 A B)) (y7 a (M3 len c)) .ge
   else a8 "delete: type"
  |_=>a8 "delete: block"
 |_=>a8 "delete: arguments"
def smove2 (e size b b2:Nat)(x:Src)(len:E)(cp:Cp):M SV:=fun s=>.ret (.sl s.nx size (.int 0) len cp,fH ((s.set b none).set b2 none) (x.blk e size))
def isCR :Bb B6->Bool
 |some (.cells _ _ _)=>true|some (.rows _ _ _ _)=>true|_=>false
def HJ (e size b:Nat)(off len a:E)(x:SV):M SV:=match x with
 | .sl b2 _ _ _ _=>bif Nat.beq b2 b then a8 "insert: the same block" else b9 (ssrc P U e size x) fun src=>bif src.one then b9 (Mo P U e size src) fun Ln=>b9 (yA P b) fun _=>t9 fun s=>match s.get b with
  | some (.rows L e' z' _) => bif Nat.beq e e' && Nat.beq size z' && Nat.beq size (kf P e).length && isCR (s.get b2) && (kf P e).all noRp then
    b9 (p8 U (E4 (A6 Ln) (.int 1))) fun _=>b9 (p8 U (y8 (z4 (A6 L) (y7 off len)))) fun _=>b9 (p8 U (y8 (z4 a (.int 0)))) fun _=>b9 (p8 U (y8 (z4 len a))) fun _=>b9 (p8 U (z4 len (.int 67108864))) fun _=>
    b9 (W5 U L off a) fun A=>b9 (W5 U L (y7 off a) (M3 len a)) fun B=>smove2 e size b b2 (.rows (E9 (E9 A Ln) B)) (y7 len (.int 1)) .ge
   else a8 "insert: type"
  |_=>a8 "insert: block"
  else a8 "insert: cells"
 |_=>a8 "insert: element"
def sins (e size:Nat)(args:As):M SV:=match args with
 | [.nils,.int .i64 a,x]=>bif Nat.beq size (kf P e).length then b9 (bQ (.rows (.op .nil []) e size (.int 0))) fun b=>HJ P U e size b (.int 0) (.int 0) a x else a8 "insert: size"
 | [.sl b z off len .ge,.int .i64 a,x]=>bif Nat.beq size z then HJ P U e size b off len a x else a8 "insert: size"|_=>a8 "insert: arguments"
end
section
variable {P :Aw}{U:Ab}{ov:Aa}
def Hb (n:Nat):(D2 P ov n).ov=ov:=by cases n<;>rfl
variable {C:i9->Prop}{g:Ay}{v:Av}
theorem Es (b:∀n,C (D2 P ov n))(hg:isT (ov g)=false){args:Af}{hp:Hp}{hp':Hp}(h:rS P C g (bif wkF P g then wkA hp args else args) hp v hp'):W8 P ov g args hp v hp':=by
 obtain⟨a,h⟩:=h;refine⟨a+1,fun n hn=>?_⟩;obtain⟨k,rfl⟩:∃k,n=k+1:=⟨n-1,by omega⟩
 show(bif isT (ov g)&&args.isEmpty then some (.bool true,hp)else fA (R7 P (v6 P) (D2 P ov k) (O9 P (v6 P) (D2 P ov k) k) k g) (bif wkF P g then wkA hp args else args) hp)=_;grind
def HX {hp:Hp}{a:Addr}{l lo:Nat}{xs:Af}:wkA hp (.slice (some a) l (d9 lo 0)::xs)= .slice (some a) l (d9 lo 0)::xs:=by
 obtain⟨i,o,e⟩:=a;have:Nat.ble (d9 lo 0) 67108864=false:=aS (by have:=u7 lo 0;unfold unk at this;omega);cases e with
 |none=>simp only[wkA,this,Rb]|some e=>rfl
def Ib (b:∀n,C (D2 P ov n))(hg:isT (ov g)=false){a:Addr}{l lo:Nat}{args:Af}{hp:Hp}{hp':Hp}(h:rS P C g (.slice (some a) l (d9 lo 0)::args) hp v hp'):W8 P ov g (.slice (some a) l (d9 lo 0)::args) hp v hp':=
 Es b hg (by rw[HX,Bool.cond_self];exact h)
variable {τ :Tau}{F:Ac}{s:SS}{hp:Hp}
def It {c:Ao}{o n:Nat}{a b:Af}(h:n9 c o n=some a)(k:n9 c o n=some b):a=b:=Rm (h.symm.trans k)
def dS {e z o n:Nat}{cs:Ao}{rows:Rows}(hr:A7 P F e z o n cs rows){off len a m:Int}(h0:0<=off)(h:0<=a)(hm:0<=m)(d:a+m<=len)(h2:off+len<=rows.length){L:E}(hL:L.toR U=pQ rows (off+a) m){b:Af}(hl:n9 cs (o+off.toNat*z) (len.toNat*z)=some b):t8 P U τ F e z (.rows L) ((b.drop (a.toNat*z)).take (m.toNat*z)):=by obtain⟨vs,f,_,i,_⟩:=G1 hr (by omega) hm (by omega) hL;have h3:=cM hl (a:=a.toNat*z) (m:=m.toNat*z) (by rw[<-Rv];exact QW _ (by omega));rw[show o+off.toNat*z+a.toNat*z=o+(off+a).toNat*z by rw[RW,<-Rv];congr 2;omega]at h3;rwa[It h3 f]
theorem FR {ρ:Go.Shelf.Ren}{e:Ax}{ie:Ba}{zv:Av}(D:GG P g ρ e ie zv)(hg:isT (ov g)=false):A5 P U ov (sdel P U e ie.size) g:=by
 intro l args τ F s hp hl hs;unfold sdel;split
 ·rename_i b z off len a c;obtain⟨y1,ai,rfl,v1,hl⟩:=hl.uncons;obtain⟨y2,aj,rfl,v2,hl⟩:=hl.uncons;obtain⟨y3,O,rfl,v3,hl⟩:=hl.uncons;have:O=[]:=QP hl.1.symm;subst this;cases v2;cases v3;refine(gF hs).bind fun _ τ1 F1 s1 hp1 ex hs1 ⟨Z,e2,e3⟩=>Tv ?_;subst Z;subst e3;split
  ·rename_i L e' Y ph hb;cases hq:Nat.beq e e'&&Nat.beq ie.size z&&Nat.beq ie.size Y&&Nat.beq ie.size (kf P e).length with
   |false=>exact Tu|true=>
    simp only[Ra];simp only[QJ,Rz]at hq;obtain⟨⟨⟨rfl,hz⟩,H⟩,aa⟩:=hq;refine Ts Ty fun _ s2 o2 ab p1=>Ts Ty fun _ s3 o3 ac p2=>Ts Ty fun _ s4 o4 ad W=>Ts Ty fun _ s5 o5 ae X=>Ts C2 fun A s6 o6 ah hA=>Ts C2 fun B s7 o7 h R=>?_;have p1:=A0 p1;have p2:=Y5 p2;have W:=C7 W;have X:=A0 X;rw[l9,j8]at p1;rw[l9,y4]at R;have m:s7.get b=some (.rows L e Y ph):=by rw[o7.get,o6.get,o5.get,o4.get,o3.get,o2.get];exact hb
    have x:A.toR U=pQ (L.toR U) (off.toI U) (a.toI U):=by show(A.den U).rows=_;rw[hA];rfl
    have E:B.toR U=pQ (L.toR U) (off.toI U+c.toI U) (len.toI U-c.toI U):=by show(B.den U).rows=_;rw[R];rfl
    cases v1 with
    |sl0 _ _ _ _ _ d h0 h1 hc=>omega|sl _ _ _ _ _ i o cc d h0 h1 hc=>
    obtain⟨lo,rfl,c1,c2⟩:=hc;rcases h.live b _ m with⟨i',o',y,k1,k2,kF,cs,k,rfl,J,k5⟩| ⟨k1,_⟩
    ·rw[d]at k1;obtain⟨rfl,rfl⟩:=k1;subst hz;subst H;obtain⟨u,N,w2,w3,w4⟩:=G1 (τ:=τ1) (L:= .op .part [L,off,len]) J h0 h1 p1 rfl;have n:u.all Value.oneCell'=true:=w3.ones rfl;have ea:a.toI U=((a.toN U:Nat):Int):=by grind
     have ec:c.toI U=((c.toN U:Nat):Int):=by grind
     have el:len.toI U=((len.toN U:Nat):Int):=by grind
     obtain⟨v,hp',r1,⟨⟨bb,q,K,ct,kk,rfl,n2,n3,n4,n5,n6,T⟩,M,V⟩⟩:=Jr (C:=fun _=>True) D (a:=a.toN U) (b:=c.toN U) (Nat.max_le.2 ⟨c1,by omega⟩) (by omega) (by omega) (h.lt b i o d) k2 w2 N n;have p:=Ib (fun _=>trivial) hg r1;rw[<-ea,<-ec]at p;have f:(y7 a (M3 len c)).toI U=((a.toN U+(len.toN U-c.toN U):Nat):Int):=by rw[l9,y4];omega
     have j:=(q7 T).1;refine(OKh.smove (cp:= .ge) (q:=q) m d M (by grind) n3 n4 n5 (fun τ' r=>?_) f ⟨K,rfl,n2,by omega⟩ h).mono fun w τ' F' hp2 _ _ ⟨q1,q2⟩=>(by grind)
     refine lJ ?_ (fun y v hy=>?_) (by rw[j];exact n6);refine t8.mono r (Tn _) (t8.app ?_ ?_);have:=dS (τ:=τ1) J h0 (Sd 0) (by omega) (show 0+a.toI U<=len.toI U by omega) p1 (by rw[x];congr 1;omega) N;grind;have:=dS (τ:=τ1) J h0 (by omega) (by omega) (by omega) p1 E N;rw[RK (by rw[RO,w4,<-Nat.sub_mul];exact QW _ (by omega))]at this;exact this
     ·have G:y<(a.toN U+(len.toN U-c.toN U))*ie.size:=by rw[<-j];exact(QL.1 hy).1
      rw[<-(q7 T).2 y G];exact hy
    grind
  exact Tu
 exact Tu
end
section
variable {P :Aw}{U:Ab}{ov:Aa}{τ:Tau}{F:Ac}{s:SS}{hp:Hp}
def OKh.smove2 {e size b i o b2 u z j q n c:Nat}{x A:B6}{x':Src}{len:E}{cp:Cp}(hb:s.get b=some x)(ht:τ b=some (some (i,o)))(f:s.get b2=some A)(r:τ b2=some (some (u,z)))(h:b2≠b){hp1:Hp}(hn:hp.nx<=hp1.nx)(hk:∀k,k<hp.nx->k≠i->k≠u->hp1.m.get k=hp.m.get k)(hj:j=i\/hp.nx<=j)(p:j<hp1.nx){y:Blk}(hi:hp1.m.get j=some y)(w:∀τ',Tle τ τ'->BD P U τ' F q (x'.blk e size) y)(d:len.toI U=n)(hc:lX U len cp c)(hs:SD P U τ F s hp):OKh P U (smove2 e size b b2 x' len cp) τ F s hp fun a τ' F' hp'=>hp'=hp1/\VD P U τ' F' a (.slice (some ⟨j,q,none⟩) n c):=by intro Q hq _;have h0:=hs.new _ (Ri _);obtain⟨h1,h2⟩:=hs.move2 hb ht f r h hn hk hj p hi (w _ (bO _ h0));exact⟨_,_,hq,_,F,hp1,h1,h2,rfl,TW (u5 _ _ _) (Sd 0) (by omega) hc (by show q=q+(0:Int).toNat*size;simp) (pB d).symm⟩
theorem CI {s:SS}{b:Nat}(h:isCR (s.get b)=true):(∃l e z,s.get b=some (.cells l e z))\/ ∃L e z ph,s.get b=some (.rows L e z ph):=by unfold isCR at h;grind
theorem vQ {hp:Hp}{size n m c:Nat}{a:Aq}{vs:Af}(h:A4 hp size (.slice a n c)=some (m,vs)):m=n:=by
 unfold A4 at h;split at h
 ·rename_i n' _ hh;cases hb:Nat.beq n 0 with
  |false=>grind|true=>simp_all
 grind;grind;cases h
variable {g:Ay}{ρ:Go.Shelf.Ren}{zv:Av}
theorem DD {e:Ax}{ie:Ba}(D:jE P g ρ e ie zv)(hg:isT (ov g)=false)(ah:ov (ρ.f 27)=some (ρ.t 22)){b:Nat}{off len a:E}{x:SV}{v1 v3:Av}(h1:VD P U τ F (.sl b ie.size off len .ge) v1)(h3:VD P U τ F x v3)(hs:SD P U τ F s hp):OKh P U (HJ P U e ie.size b off len a x) τ F s hp fun w τ' F' hp'=>∃v,W8 P ov g [v1,.int .i64 (a.toI U),v3] hp v hp'/\VD P U τ' F' w v:=by
 unfold HJ;split
 ·rename_i b2 z2 an aj bk;cases K:Nat.beq b2 b with
  |true=>exact Tu|false=>
  have K:b2≠b:=fun h=>by rw[h,v9 rfl]at K;cases K
  simp only[Rb];refine Ts (HO D.sz h3 hs) fun src s1 o1 hs1 ⟨n,news,x1,x2,x3,x4⟩=>?_;cases ae:src.one with
  |false=>exact Tu|true=>
  simp only[Ra];have az:=x2.ones ae;refine(Bq x2 hs1).bind fun Ln τ1 F1 s2 hp1 ex bc ⟨e1,e2,G⟩=>?_;subst e1;subst e2;refine(gF bc).bind fun _ τ2 F2 s3 hp2 bm bq ⟨e1,e2,e3⟩=>Tv ?_;subst e1;subst e2;subst e3;have h1:=h1.mono (TS τ2) ex.f;have h3:=h3.mono (TS τ2) ex.f;split
  ·rename_i L e' z' ph hb;cases hq:Nat.beq e e'&&Nat.beq ie.size z'&&Nat.beq ie.size (kf P e).length&&isCR (s3.get b2)&&(kf P e).all noRp with
   |false=>exact Tu|true=>
    simp only[Ra];simp only[QJ,Rz]at hq;obtain⟨⟨⟨⟨rfl,bi⟩,ax⟩,ad⟩,X⟩:=hq;refine Ts Ty fun _ s4 o4 bt p0=>Ts Ty fun _ s5 o5 bu p1=>Ts Ty fun _ s6 o6 bv p2=>Ts Ty fun _ s7 o7 bw p3=>Ts Ty fun _ s8 o8 bx p4=>
     Ts C2 fun A s9 o9 bz hA=>Ts C2 fun B sA oA r hB=>?_
    have p0:(A6 Ln).toI U=1:=by have:=(Tk U _).1 p0;rw[E2]at this;exact Sz this
    have p1:=A0 p1;have p2:=Y5 p2;have p3:=A0 p3;have p4:=C7 p4;simp only[B5]at p4;rw[l9,j8]at p1;rw[j8]at p0;rw[l9,y4]at hB;have W:∀c,sA.get c=s3.get c:=fun c=>by rw[oA.get,o9.get,o8.get,o7.get,o6.get,o5.get,o4.get]
    have R:sA.get b=some (.rows L e z' ph):=by grind
    have G:=G ax;have bl:=lZ D.sz G x3;have hn:n=1:=by omega
    subst hn;have ba:news.length=ie.size:=by grind
    have ab:A.toR U=pQ (L.toR U) (off.toI U) (a.toI U):=by show(A.den U).rows=_;rw[hA];rfl
    have aq:B.toR U=pQ (L.toR U) (off.toI U+a.toI U) (len.toI U-a.toI U):=by show(B.den U).rows=_;rw[hB];rfl
    have ea:a.toI U=((a.toN U:Nat):Int):=by grind
    have M:∀m:Nat,len.toI U=(m:Int)->(y7 len (.int 1)).toI U=((m+1:Nat):Int):=fun m hm=>by rw[l9,B5,hm];rfl
    cases h3 with
    |sl0 _ _ _ _ _ z _ _ _=>exact absurd (vQ x1) (by omega)|sl _ _ _ _ _ j oj cm z g0 g1 gc=>
    have ay:=vQ x1;have aa:∃q,(Value.slice (some ⟨j,oj+an.toN U*z2,none⟩) (aj.toN U) cm)= .slice (some ⟨j,q,none⟩) 1 cm:=⟨_,by rw[<-ay]⟩
    obtain⟨q,aa⟩:=aa;rw[aa]at x1⊢;have d:∃xx,sA.get b2=some xx:=by rw[W];rcases CI ad with⟨_,_,_,h⟩| ⟨_,_,_,_,h⟩<;>exact⟨_,h⟩
    obtain⟨xx,d⟩:=d;have aw:∃cj kj ej zj,hp2.m.get j=some (.cells cj kj ej zj):=by rcases r.live b2 _ d with⟨i',o',y,k1,k2,_,k4⟩| ⟨k1,_⟩;rw[z]at k1;simp only[QI,QK]at k1;obtain⟨rfl,rfl⟩:=k1;have:sA.get b2=s3.get b2:=W b2;rcases CI ad with⟨l,ee,zz,h⟩| ⟨L',ee,zz,pp,h⟩;rw[this,h,QI]at d;subst d;obtain⟨cs,nn,rfl,_⟩:=k4;grind;rw[this,h,QI]at d;subst d;obtain⟨cs,nn,rfl,_⟩:=k4;grind;grind
    obtain⟨cj,kj,ej,zj,au⟩:=aw;cases h1 with
    |sl0 _ _ _ _ _ N h0 Y hc=>
     rcases r.live b _ R with⟨i',o',y,k1,_⟩| ⟨k1,L',e2,z2,ca,k2,k3,k4,k5⟩;grind
     ·simp only[B6.rows.injEq]at k2;obtain⟨rfl,rfl,rfl,rfl⟩:=k2;have bn:a.toI U=0:=by omega
      obtain⟨v,hp',r1,rfl,rfl⟩:=MO (hp:=hp2) (C:=COv ρ) D x1;have u:=Es (P:=P) (ov:=ov) (C:=COv ρ) (args:=[.slice none 0 0,.int .i64 ((0:Nat):Int),.slice (some ⟨j,q,none⟩) 1 cm]) (fun k=>by unfold COv;rw[Hb];exact ah) hg (by cases wkF P g<;>exact r1);have u:W8 P ov g [.slice none 0 0,.int .i64 (a.toI U),.slice (some ⟨j,q,none⟩) 1 cm] hp2 (.slice (some ⟨hp2.nx,0,none⟩) 1 (d9 1 0)) (hp2.new news e ie.size):=by grind
      have ao:A.toR U=[]:=by rw[ab,k3];simp[pQ]
      have ap:B.toR U=[]:=by grind
      have J:(E9 (E9 A Ln) B).toR U=Ln.toR U:=by rw[L4,L4,ao,ap];simp
      have V:t8 P U τ2 F2 e ie.size (.rows (E9 (E9 A Ln) B)) news:=by obtain⟨c1,c2,c3,c4⟩:=G;exact⟨c1,by rw[J];exact c2,by rw[J];exact c3,by rw[J];exact c4⟩
      intro Q hq _;obtain⟨d1,d2⟩:=r.drop b;obtain⟨d3,d4⟩:=d2.drop b2;have H:(y7 len (.int 1)).toI U=((1:Nat):Int):=M 0 Y;obtain⟨f1,f2⟩:=d4.alloc (x:=(Src.rows (E9 (E9 A Ln) B)).blk e ie.size) (p:=some (hp2.nx,0)) (hp':=hp2.new news e ie.size) (Ss _) (fun x hx=>by show(hp2.m.set _ _).get x=_;rw[TQ,Re (by omega)])
       (.inl ⟨hp2.nx,0,_,rfl,Ri _,RY _,by show(hp2.m.set _ _).get _=_;rw[TQ,Rh rfl],lJ (V.mono (bO _ (r.new _ (Ri _))) (Tn _)) (fun y v hy=>by rw[Rr];exact K2 news y v hy) (by omega)⟩)
      refine⟨_,_,hq,_,F2,_,(d1.trans d3).trans f1,f2,_,u,?_⟩;exact TW (u5 _ _ _) (Sd 0) (by rw[H];omega) (geN H (by omega)) (Ew ie.size).symm (pB H).symm
    |sl _ _ _ _ _ i o cc N h0 Y hc=>
     obtain⟨lo,rfl,c1,c2⟩:=hc;rcases r.live b _ R with⟨i',o',y,k1,k2,kF,cs,k,rfl,k4,k5⟩| ⟨k1,_⟩
     ·rw[N]at k1;simp only[QI,QK]at k1;obtain⟨rfl,rfl⟩:=k1;subst bi;have av:j≠i:=r.inj b2 b _ _ j oj i o d R K z N;obtain⟨O,w1,w2,w3,w4⟩:=G1 (τ:=τ2) (off:=off.toI U) (len:=len.toI U) (L:= .op .part [L,off,len]) k4 h0 Y p1 rfl;have Z:O.all Value.oneCell'=true:=w3.ones rfl;have el:len.toI U=((len.toN U:Nat):Int):=by grind
      obtain⟨v,hp',r1,⟨⟨bb,q',ak,ct,kk,rfl,n2,n3,n4,n5,n6,n7⟩,bj,al⟩⟩:=Jv (hp:=hp2) D (i:=i) (o:=o+off.toN U*ie.size) (n:=len.toN U) (lo:=lo) (at_:=a.toN U) (Nat.max_le.2 ⟨c1,by omega⟩) (by omega) (by omega) av (r.lt b i o N) (r.lt b2 j oj z) k2 au w2 w1 x1 ba Z az (w3.noR X) (G.noR X);have u:=Ib (ov:=ov) (fun k=>by unfold COv;rw[Hb];exact ah) hg r1;rw[<-ea]at u;have H:=M _ el;have ac:=(q7 n7).1;refine(OKh.smove2 (x':= .rows (E9 (E9 A Ln) B)) (cp:= .ge) (hp1:=hp') (j:=bb) (q:=q') (n:=len.toN U+1) (c:=d9 ak 0) R N d z K bj (fun x hx be bg=>al x hx be bg) n3 n4 n5 (fun τ' ai=>?_) H ⟨ak,rfl,n2,by rw[H];omega⟩ r).mono fun w τ' F' bp _ _ ⟨q1,q2⟩=>⟨_,by rw[q1];exact u,q2⟩
      refine lJ (vs:=O.take (a.toN U*ie.size)++news++O.drop (a.toN U*ie.size)) ?_ (fun y v hy=>?_) (by rw[ac];exact n6);refine t8.mono ai (Tn _) (t8.app (t8.app ?_ G) ?_);have:=dS (τ:=τ2) k4 h0 (Sd 0) (show 0<=a.toI U by omega) (show 0+a.toI U<=len.toI U by omega) p1 (L:=A) (by rw[ab];congr 1;omega) w1;grind;have:=dS (τ:=τ2) k4 h0 (show 0<=a.toI U by omega) (show 0<=len.toI U-a.toI U by omega) (show a.toI U+(len.toI U-a.toI U)<=len.toI U by omega) p1 (L:=B) aq w1;rw[RK (by rw[RO,w4,<-Nat.sub_mul];exact QW _ (by omega))]at this;exact this
      ·have bh:y<(len.toN U+1)*ie.size:=by rw[<-ac];exact(QL.1 hy).1
       rw[<-(q7 n7).2 y bh];exact hy
     grind
  exact Tu
 exact Tu
theorem FZ {e:Ax}{ie:Ba}(D:jE P g ρ e ie zv)(hg:isT (ov g)=false)(d:ov (ρ.f 27)=some (ρ.t 22)):A5 P U ov (sins P U e ie.size) g:=by
 intro l args τ F s hp hl hs;unfold sins;split
 ·rename_i a x;obtain⟨y,k,rfl,h,hl⟩:=hl.uncons;obtain⟨A,m,rfl,i,hl⟩:=hl.uncons;obtain⟨B,n,rfl,j,hl⟩:=hl.uncons;have:=QP hl.1.symm;subst this;cases i;cases h;cases hk:Nat.beq ie.size (kf P e).length with
  |false=>exact Tu|true=>have hk:=QN hk;intro Q hq _;obtain⟨h1,h2⟩:=hs.alloc (x:= .rows (.op .nil []) e ie.size (.int 0)) (Ri _) (fun _ _=>rfl) (.inr ⟨rfl,_,_,_,_,rfl,rfl,hk,Sd 0⟩);have hv:VD P U (put τ s.nx none) F (.sl s.nx ie.size (.int 0) (.int 0) .ge) (.slice none 0 0):= .sl0 s.nx ie.size (.int 0) (.int 0) .ge (u5 _ _ _) rfl rfl (fun e he=>by grind);obtain⟨w,s',p,τ',F',hp',q,r,u⟩:=DD D hg d hv (j.mono (bO _ (hs.new _ (Ri _))) (Tn F)) h2 Q hq h2;exact⟨w,s',p,τ',F',hp',h1.trans q,r,u⟩
 ·rename_i b z off len a x;obtain⟨y,k,rfl,h,hl⟩:=hl.uncons;obtain⟨A,m,rfl,i,hl⟩:=hl.uncons;obtain⟨B,n,rfl,j,hl⟩:=hl.uncons;have:=QP hl.1.symm;subst this;cases i;cases hk:Nat.beq ie.size z with
  |false=>exact Tu|true=>have hk:=QN hk;subst hk;exact DD D hg d h j hs
 exact Tu
end
section
variable {P :Aw}{U:Ab}{ov:Aa}
abbrev I9:=List (Ay×(As->M SV))
variable (P U ov) in
def fB :I9->Prop
 | []=>True|p::xs=>(A5 P U ov p.2 p.1/\isT (ov p.1)=false)/\fB xs
variable (P U) in
def jX (l:List (Ay×Con)):I9->Ay->Bb (As->M SV)
 | [],g=>conP P U l g|p::xs,g=>bif Nat.beq p.1 g then some p.2 else jX l xs g
theorem rE {l:List (Ay×Con)}(a:P7 P U ov l):∀ {xs:I9},fB P U ov xs-> ∀g k,jX P U l xs g=some k->A5 P U ov k g
 | [],_,g,k,hk=>by
  unfold jX conP at hk;cases h:fU P U l g with
  |none=>grind|some k0=>rw[h]at hk;cases hk;exact LI (Cx a g k0 h)
 |p::xs,hx,g,k,hk=>by
  unfold jX at hk;cases hb:Nat.beq p.1 g with
  |true=>rw[hb,Ra,QI]at hk;rw[<-hk,<-QN hb];exact hx.1.1|false=>rw[hb,Rb]at hk;exact rE a hx.2 g k hk
theorem hX {l:List (Ay×Con)}:∀ {xs:I9},fB P U ov xs-> ∀g,isT (ov g)=true->jX P U l xs g=none->fU P U l g=none
 | [],_,g,_,hn=>by unfold jX conP at hn;grind|p::xs,hx,g,hg,hn=>by
  unfold jX at hn;cases hb:Nat.beq p.1 g with
  |true=>grind|false=>rw[hb,Rb]at hn;exact hX hx.2 g hg hn
variable {l:List (Ay×Con)}{xs:I9}{g:Ay}
def t7 (a:Ay->List (Nat×(Fm->SS->K0)))(d:P7 P U ov l)(hx:fB P U ov xs)(n:Nat){c:Con}{V:Prop}(he:(cvc P U c (sxF P U a (jX P U l xs) n g)).vc U (fun _=>True)=V)(hv:V)(b:∀g,isT (ov g)=true->fU P U l g≠none:=by exact noT)(hg:isT (ov g)=false:=by rfl):p9 P U ov c g:=
 yM (Gp a (rE d hx) (fun g hg hn=>b g hg (hX hx g hg hn)) n g hg) (he.symm▸hv)
def O8 (a:Ay->List (Nat×(Fm->SS->K0)))(d:P7 P U ov l)(hx:fB P U ov xs)(m:Nat){c:Con}(mu:Ar->Nat){V:Nat->Prop}(he:∀n,(cvc P U (c.below mu (n+1)) (sxF P U a (jX P U ((g,c.below mu n)::l) xs) m g)).vc U (fun _=>True)=V n)(hv:∀n,V n)(b:∀n,∀g',isT (ov g')=true->fU P U ((g,c.below mu n)::l) g'≠none)(hg:isT (ov g)=false:=by rfl):p9 P U ov c g:=
 FL fun n hn=>t7 a (l:=(g,c.below mu n)::l) ⟨hn,d⟩ hx m (he n) (hv n) (b n) hg
end
open Go.Xe Go.RowKit
section
variable {P :Aw}{U:Ab}{ov:Aa}
def tauR :Tau:=fun b=>if b=0 then some (some (0,0))else none
def Oc :Tle (fun _=>none) tauR:=fun b p h=>by cases h
def Fa (hm:P.follows .mixedOrders=true)(W:∀g t,ov g=some t->jU P g t){c:Con}{f:Ay}(hg:p9 P U ov c f)(h2:c.res=[.one (.g .bool)])(K:∀d e,c.rel d e-> ∃r,e= .bool true::r){es:Au}(G:es.length=(m8 c.inL).length)(J:c.pre (t6 U (m8 c.inL) es)){R:E}(D:gst c (D4 U (m8 c.inL) 0 es) (m8 c.inL).length=⟨[(0,some (.reg 0 R (kf P rgT).length))],1,[],(m8 c.inL).length,[]⟩)(hR:R.toR U=[]){xs ys:Af}{w:Bc}(hl:VDL P U (fun _=>none) (roF w) (fZ c (D4 U (m8 c.inL) 0 es)) xs)(hx:VRL (Be w) xs ys):Calls P f ys.toArray w fun e w'=>e= .returned (.bool true)/\Below w.heap.size w w':=by
 have hs:SD P U tauR (roF w) (gst c (D4 U (m8 c.inL) 0 es) (m8 c.inL).length) (Dr P w):=by
  rw[D];have get:∀b x,(⟨[(0,some (.reg 0 R (kf P rgT).length))],1,[],(m8 c.inL).length,[]⟩:SS).get b=some x->b=0/\x= .reg 0 R (kf P rgT).length:=by intro b x h;unfold SS.get at h;rw[z8]at h;by_cases e:0=b;rw[Rh e]at h;cases h;exact⟨e.symm,rfl⟩;rw[Re e]at h;cases h
  refine⟨fun b x hb=>?_,fun b c x y i o j q hb hc V=>?_,fun i b h=>(LQ P w i b h).1,fun b i o h=>?_,fun i b h=>(LQ P w i b h).2,fun b h=>?_,fun c t h=>(by simp at h),fun r h=>(by simp at h)⟩;obtain⟨rfl,rfl⟩:=get b x hb;refine .inl ⟨0,0,_,rfl,uJ P w,rfl,rfl,rfl,.e,by rw[hR];rfl,?_⟩;rw[hR];exact⟨by simp,rfl,fun r h=>(by simp at h),fun r k row d h=>(by simp at h)⟩;obtain⟨rfl,_⟩:=get b x hb;obtain⟨rfl,_⟩:=get c y hc;exact absurd rfl V;have h:(if b=0 then some (some (0,0))else none)=some (some (i,o)):=h;split at h;simp only[QI,QK]at h;rw[<-h.1];exact Nat.succ_pos _;cases h;have h:1<=b:=h;exact Re (by omega)
 obtain⟨v,τ',F',s',hp',vs,O,ad,N,nw,ab,⟨n0,hr⟩,_,_,r4,M,r6,r7,r8,_,_,_,_,_,_,aa⟩:=hg es G J _ _ _ xs hs (hl.mono Oc (Tn _));obtain⟨rr,B⟩:=K _ _ aa;have H:c.outL= .g .bool::Iq c.post:=by unfold Con.outL;rw[h2];rfl
 rw[H]at r8 B;cases vs with
 |nil=>exact r8.elim|cons a aj=>
  obtain⟨r,p,ac,L,e2,n,ae⟩:=r8;obtain⟨e0,z⟩:=n.1 .b rfl;rw[z]at L;have L:N=e0::p:=L;subst L;have he:(e0.den U).toBool=true:=by have:Dat.bool (e0.den U).toBool::_=Dat.bool true::rr:=B;injection this with h _;injection h
  cases O with
  |nil=>rw[h2]at M;cases M
  |cons y m=>
   have T:m=[]:=by rw[h2]at M;have:(y::m).length=1:=M;exact QP (by simpa using this)
   subst T;obtain⟨y',ak,e3,hy,ai⟩:=r4.uncons;have Z:y'=y:=by injection e3 with h _;exact h.symm
   subst Z;have h5:=n.2.2.2.1 y' hy τ' (fun i=>(U8 0 c.blks.length++nw).getD i 0) 0 e0 (fun i b hb=>by rw[List.getD,hb];rfl) (fun e2 so A ah=>by rw[z,QI]at A;subst A;cases so<;>rfl) (fun b hb=>by have:=n.2.2.1 rfl;rw[this]at hb;cases hb);have h6:=r6 τ' F' [.bool e0] [] (.cons h5 .nil);rw[h2]at h6;have X:VD P U τ' F' (.bool e0) v:=h6;cases X;rw[he]at hr;refine((Ha hm W n0).run f xs (Dr P w) _ hp' (hr n0 (Ri _)) (BS.ro w) w (Be w) w ys hx (HR.ro P w)).mono fun e w' he=>?_;obtain⟨σ',u,rfl,_,hv,Y⟩:=he;cases hv;exact⟨rfl,HR.roBelow Y⟩
end
mutual
def noFv (n:Nat):SV->Bool
 | .any=>true| .int _ _=>true| .bool _=>true| .str _=>true| .nilp=>true| .nils=>true| .sl _ _ _ _ _=>true| .agg l=>noFvs n l| .tup l=>noFvs n l|_=>false
def noFvs (n:Nat):As->Bool
 | []=>true|a::l=>noFv n a&&noFvs n l
end
theorem oR {n:Nat}:∀ {l:As},noFvs n l=true-> ∀ {i:Nat} {a:SV},l[i]? =some a->noFv n a=true
 | [],_,i,a,h=>by grind|b::l,h,0,a,d=>by unfold noFvs at h;grind|b::l,h,i+1,a,d=>by unfold noFvs at h;rw[QJ]at h;exact oR h.2 (by simpa using d)
section
variable {P :Aw}{U:Ab}{ov:Aa}
def VD.noF {n:Nat}{τ:Tau}{F F':Ac}{a:SV}{v:Av}(h:VD P U τ F a v)(hn:noFv n a=true):VD P U τ F' a v:=by
 induction h with
 |any v=>exact .any v|int k e=>exact .int k e|bool e=>exact .bool e|str e=>exact .str e|nilp=>exact .nilp|nils=>exact .nils|sl b z off len cap i o c k h0 h1 hc=>exact .sl b z off len cap i o c k h0 h1 hc|sl0 b z off len cap k h0 h1 hc=>exact .sl0 b z off len cap k h0 h1 hc|agg l xs h1 _ f=>exact .agg l xs h1 fun i a x d hx=>f i a x d hx (oR (hn) d)
 |tup l xs h1 _ f=>exact .tup l xs h1 fun i a x d hx=>f i a x d hx (oR (hn) d)
 |_=>simp[noFv]at hn
end
def rok (s s':SS):Bool:=(s'.h.take (s'.h.length-s.h.length)).all fun p=>Nat.ble s.nx p.1
def rst (c:Con)(s:SS)(es:Au):SS:= {s with h:=Q0 (C8 c.res) es (s.nx+1)++((s.nx,none)::s.h),nx:=s.nx+1+E5 (C8 c.res),fv:=s.fv+(m8 (C8 c.res)).length}
section
variable (P :Aw)(U:Ab)
def OL (c:Con)(s0:SS)(es:Au)(a:SV):M Unit:=match IV c.res a with
 |none=>a8 "contract: result"|some l=>match mD c.res l with
  |none=>a8 "contract: results"|some fl1=>b9 (yC P U (C8 c.res) fl1) fun vs=>b9 (mtL U [] (C8 c.res) vs) fun t=>t9 fun s2=>
   bif rok s0 s2&&t.2.all (Nat.ble s0.nx)&&cH t.2&&Nat.beq t.2.length (E5 (C8 c.res))then
    fun _=>.need (.pt (c.name++ "Rel") [(m8 c.inL).zip es,(m8 (C8 c.res)).zip t.1]) (c.rel (t6 U (m8 c.inL) es) (t6 U (m8 (C8 c.res)) t.1)) .done
   else a8 "contract: it writes"
def cvr (c:Con)(run:As->M SV):Tr (Unit×SS):=
 Ce (m8 c.inL) 0 fun es=>.asm (.pt (c.name++ "Pre") [(m8 c.inL).zip es]) (c.pre (t6 U (m8 c.inL) es)) ((b9 (run (fZ c es)) (OL P U c (gst c es (m8 c.inL).length) es)) (gst c es (m8 c.inL).length))
def kro (c:Con)(args:As):M SV:=t9 fun s0=>match mD c.args args with
 |none=>a8 "contract: arguments"|some fl1=>match c.find args s0 with
  |none=>a8 "contract: no blocks"|some bl=>match oF s0 c.blks bl with
   |none=>a8 "contract: blocks"|some fl2=>b9 (yC P U c.inL (fl1++fl2)) fun vs=>b9 (mtL U bl c.inL vs) fun t=>t9 fun s1=>
    bif bl.all (tA s1)&&cH (bl++t.2)&&Nat.beq t.2.length (E5 c.inL)then
     fun _=>.need (.pt (c.name++ "Pre") [(m8 c.inL).zip t.1]) (c.pre (t6 U (m8 c.inL) t.1)) (Ce (m8 (C8 c.res)) s1.fv fun ds=>.asm (.pt (c.name++ "Rel") [(m8 c.inL).zip t.1,(m8 (C8 c.res)).zip ds]) (c.rel (t6 U (m8 c.inL) t.1) (t6 U (m8 (C8 c.res)) ds))
      (.ret (uD c.res (AH c.res (Ih idN (C8 c.res) ds (s1.nx+1))),rst c s1 ds)))
    else a8 "contract: the start"
end
section
variable {P :Aw}{U:Ab}{ov:Aa}
variable (P U ov) in
def RRO (c:Con)(g:Ay):Prop:=∀(es:Au),es.length=(m8 c.inL).length->c.pre (t6 U (m8 c.inL) es)-> ∀τ F hp xs,SD P U τ F (gst c (D4 U (m8 c.inL) 0 es) (m8 c.inL).length) hp->VDL P U τ F (fZ c (D4 U (m8 c.inL) 0 es)) xs->
 ∃v F' hp' es' τ' s' vs fx accs,W8 P ov g xs hp v hp'/\hp.nx<=hp'.nx/\Fle F F'/\(∀i y,F' i=some y->hp'.m.get i=some y/\i<hp'.nx)/\(∀i,i<hp.nx->hp'.m.get i=hp.m.get i)/\(∀i y,i<hp.nx->F' i=some y->F i=some y)/\
  es'.length=(m8 (C8 c.res)).length/\c.rel (t6 U (m8 c.inL) es) (t6 U (m8 (C8 c.res)) es')/\SD P U τ' F' s' hp'/\fL P U [] τ' F' s' (C8 c.res) vs es' accs/\VDL P U τ' F' vs fx/\
  (∀b∈accs,∀i o,τ' b=some (some (i,o))->hp.nx<=i)/\cH accs=true/\accs.length=E5 (C8 c.res)/\ ∀τ2 ws,VDL P U τ2 F' ws fx->VD P U τ2 F' (uD c.res (AH c.res ws)) v
variable {c:Con}{g:Ay}
def Qg {run:As->M SV}(D:A5 P U ov run g)(Z:(cvr P U c run).vc U fun _=>True):RRO P U ov c g:=by
 intro es k B τ F hp xs hs hx;have hq:=hK (U:=U) _ _ _ Z es k;have hq:=hq (by rw[I3 _ _ _ k];exact B);generalize hds:D4 U (m8 c.inL) 0 es=ds at*;rw[A3]at hq;obtain⟨a,s1,hq,τ1,F1,hp1,L,hs1,v,q,Y⟩:=D _ xs τ F _ hp hx hs _ hq hs;unfold OL at hq;cases c1:IV c.res a with
 |none=>rw[c1]at hq;exact hq.elim|some l=>
 rw[c1]at hq;simp only at hq;cases c2:mD c.res l with
 |none=>rw[c2]at hq;exact hq.elim|some O=>
 rw[c2]at hq;simp only at hq;obtain⟨us,V,W⟩:=Hw c1 Y;obtain⟨z,R,ab,T⟩:=mE c2 V;rw[A3]at hq;obtain⟨vs,s2,hq,τ2,J,hp2,N,r,rfl,aa⟩:=gI (C8 c.res) O z τ1 F1 s1 hp1 R hs1 _ hq hs1;rw[A3]at hq;obtain⟨⟨w,d⟩,E,hq,o3,A,X⟩:=tP (P:=P) (τ:=τ2) (F:=J) [] (C8 c.res) vs s2 _ hq r.fc;simp only[t9]at hq;cases K:rok (gst c ds (m8 c.inL).length) E&&d.all (Nat.ble (gst c ds (m8 c.inL).length).nx)&&cH d&&Nat.beq d.length (E5 (C8 c.res))with
 |false=>rw[K]at hq;exact hq.elim|true=>
 rw[K]at hq;simp only[QJ,Rz,Rq]at K;obtain⟨⟨⟨k1,k3⟩,k4⟩,k2⟩:=K;have n:c.rel (t6 U (m8 c.inL) ds) (t6 U (m8 (C8 c.res)) w):=hq.1;have hd:t6 U (m8 c.inL) ds=t6 U (m8 c.inL) es:=by rw[<-hds];exact I3 _ _ _ k
 rw[hd]at n;have u:=r.only o3 A;have ex:=L.trans (N.trans (Tm r o3));have hm:=X E o3.h;unfold rok at k1;rw[Rq]at k1;obtain⟨l,a1,a2,a3,a4,_⟩:=ex.hh;have hl:E.h.take (E.h.length-(gst c ds (m8 c.inL).length).h.length)=l:=by rw[a1,Rn,Nat.add_sub_cancel,List.take_left'];rfl
 have j:∀b∈l.map Prod.fst,(gst c ds (m8 c.inL).length).nx<=b:=by intro b hb;obtain⟨p,hp,rfl⟩:=SE.1 hb;rw[hl]at k1;simpa using k1 p hp
 have G:∀i,i<hp.nx->hp2.m.get i=hp.m.get i:=fun i hi=>a2 i hi fun b x o hb _ hm=>by have:=j b hm;have:=hs.bound hb;omega
 refine⟨v,J,hp2,w,τ2,E,vs,z,d,q,ex.nx,ex.f,fun i y h=>⟨u.frz i y h,u.flt i y h⟩,G,fun i y hi hy=>?_,hm.len,n,u,hm,aa,fun b hb i o ht=>?_,k4,k2,fun H ws h5=>?_⟩;rcases a4 i y hi hy with h| ⟨b,o,h1,h2⟩;exact h;rcases a3 b i o (j b h2) h1 with h| ⟨b0,x,o0,h2,_,h3⟩;omega;have:=j b0 h3;have:=hs.bound h2;omega;rcases a3 b i o (QM (k3 b hb)) ht with h| ⟨b0,x,o0,h2,_,h3⟩;exact h;have:=j b0 h3;have:=hs.bound h2;omega;have h6:=W H J _ (T H J _ [] h5);rwa[SM]at h6
def M4 (hg:RRO P U ov c g):A5 P U ov (kro P U c) g:=by
 intro l args τ F s hp hl hs Q hq _;unfold kro at hq;simp only[t9]at hq;cases c1:mD c.args l with
 |none=>rw[c1]at hq;exact hq.elim|some ae=>
 rw[c1]at hq;simp only at hq;cases c2:c.find l s with
 |none=>rw[c2]at hq;exact hq.elim|some O=>
 rw[c2]at hq;simp only at hq;cases c3:oF s c.blks O with
 |none=>rw[c3]at hq;exact hq.elim|some ah=>
 rw[c3]at hq;simp only at hq;obtain⟨W,ap,aq,au⟩:=mE c1 hl;obtain⟨ai,ak,al⟩:=lY hs c3;rw[A3]at hq;obtain⟨vs,s2,hq,τ2,F2,hp2,T,L,rfl,ax⟩:=gI c.inL (ae++ah) (W++ai) τ F s hp (ap.append ak) hs _ hq hs;rw[A3]at hq;obtain⟨⟨es,n⟩,a,hq,o3,Z,aw⟩:=tP (P:=P) (τ:=τ2) (F:=F2) O c.inL vs s2 _ hq L.fc;simp only[t9]at hq;cases c5:O.all (tA a)&&cH (O++n)&&Nat.beq n.length (E5 c.inL)with
 |false=>rw[c5]at hq;exact hq.elim|true=>
 rw[c5]at hq;simp only[QJ,Rq,Rz]at c5;obtain⟨⟨k1,k2⟩,k3⟩:=c5;have f:=L.only o3 Z;have hm:=aw a o3.h;have D:=hm.len;have E:c.pre (t6 U (m8 c.inL) es):=hq.1;have K:∀b∈O,∃x,a.get b=some x:=fun b hb=>oN (k1 b hb);have an:=al.mono T.t;obtain⟨g1,g2,g3⟩:=KI (fv:=(m8 c.inL).length) f ax aq an hm k2 K k3 (I1 (m8 c.inL) 0 es D);have J:VDL P U (rA τ2 (O++n)) F2 (fZ c (D4 U (m8 c.inL) 0 es)) args:=by obtain⟨w1,_⟩:=g2.split;have:=au _ _ _ ((mG c (D4 U (m8 c.inL) 0 es)).drop W.length) w1;rw[SP]at this;exact this
 obtain⟨v,F',hp',H,τ',s',bc,fx,bs,r1,r2,r3,r4,r5,r6,r7,r8,r9,ab,ay,ac,az,bb,ba⟩:=hg es D E _ F2 hp2 args g1 J;have hQ:=hK (U:=U) _ _ _ (hq.2 E) H r7 (by rw[I3 _ _ _ r7];exact r8);have M:=I1 (U:=U) (m8 (C8 c.res)) a.fv H r7;generalize D4 U (m8 (C8 c.res)) a.fv H=ds at hQ M;have lo:∀b,b<a.nx+1->J2 τ2 τ' (a.nx+1) bs b=τ2 b:=fun b hb=>eA hb;have hi:∀k b,bs[k]? =some b->J2 τ2 τ' (a.nx+1) bs (a.nx+1+k)=τ' b:=fun k b h=>iO h;have ad:∀b p,τ2 b=some p->b<a.nx:=fun b p hb=>Nat.lt_of_not_le fun av=>by rw[f.new b av]at hb;cases hb
 have w:Tle τ2 (J2 τ2 τ' (a.nx+1) bs):=fun b p hb=>by rw[lo b (Nat.lt_succ_of_lt (ad b p hb))];exact hb
 have N:=ab.vals (τ2:=J2 τ2 τ' (a.nx+1) bs) (num:=idN) M (fun i b h=>by simp at h) hi ay;have Y:=ab.blks (nb:=a.nx+1) M;have u:∀b x,(rst c a ds).get b=some x->(∃k b' x',b=a.nx+1+k/\bs[k]? =some b'/\s'.get b'=some x'/\(∀(τ2:Tau) o z,BD P U τ' F' o x' z->BD P U τ2 F' o x z)/\(E3 P U x'->E3 P U x))\/a.get b=some x:=by
  intro b x ao;have d:(match lk (Q0 (C8 c.res) ds (a.nx+1)++((a.nx,none)::a.h)) b with|some x=>x|none=>none)=some x:=ao;rw[J5]at d;cases c2:lk (Q0 (C8 c.res) ds (a.nx+1)) b with
  |some y=>rw[c2]at d;simp only at d;subst d;obtain⟨k,b',X,x',B,m,G,R,e5,e6⟩:=Y b _ c2;cases G;exact .inl ⟨k,b',x',B,m,R,e5,e6⟩
  |none=>rw[c2]at d;simp only[z8]at d;by_cases e:a.nx=b;rw[Rh e]at d;cases d;rw[Re e]at d;exact .inr d
 have V:∀k b' i o,bs[k]? =some b'->J2 τ2 τ' (a.nx+1) bs (a.nx+1+k)=some (some (i,o))->hp2.nx<=i:=fun k b' i o e h=>by rw[hi k b' e]at h;exact ac b' (QT e) i o h
 have A:∀b x,a.get b=some x->b<a.nx+1:=fun b x h=>Nat.lt_succ_of_lt (f.bound h);have EX:Ext τ2 F2 a hp2 (J2 τ2 τ' (a.nx+1) bs) F' (rst c a ds) hp':=by
  refine⟨w,r3,r2,?_,fun b hb=>lo b (Nat.lt_succ_of_lt hb),fun b x hb hlt=>?_,⟨Q0 (C8 c.res) ds (a.nx+1)++ [(a.nx,none)],?_,fun i hi _=>r5 i hi,fun b i o hb ht=>.inl ?_,fun i y hi hy=>.inl (r6 i y hi hy),fun hp=>absurd rfl (hp (a.nx,none) (by simp))⟩,⟨[],rfl⟩,
   ⟨Q0 (C8 c.res) ds (a.nx+1)++ [(a.nx,none)],?_,fun _ _ _ _ i _ cs _ _ _ hi hg _=>⟨cs,by rw[r5 i hi];exact hg,fun _ _=>rfl⟩⟩⟩
  show a.nx<=a.nx+1+E5 (C8 c.res);omega;rcases u b x hb with⟨k,_,_,rfl,_⟩|h;omega;exact⟨x,h⟩;show Q0 (C8 c.res) ds (a.nx+1)++((a.nx,none)::a.h)=_;rw[QX];rfl;by_cases e:b<a.nx+1;rw[lo b e,f.new b hb]at ht;cases ht;unfold J2 at ht;rw[Re e]at ht;split at ht;rename_i b' aj;exact ac b' (QT aj) i o ht;cases ht;show Q0 (C8 c.res) ds (a.nx+1)++((a.nx,none)::a.h)=_;rw[QX];rfl
 refine⟨_,_,hQ,_,F',hp',(T.trans (Tm L o3)).trans EX,⟨fun b x hb=>?_,fun b c2 x y i o j q hb hc aa B m=>?_,fun i b h=>(r4 i b h).1,fun b i o h=>?_,fun i b h=>(r4 i b h).2,fun b hb=>?_,f.fc,fun r hr=>(f.fz r hr).mono w r3⟩,v,r1,ba _ _ N⟩
 ·rcases u b x hb with⟨k,b',x',rfl,m,G,R,e5⟩|h;rcases r9.live b' x' G with⟨i,o,y,k1,k2,k3,k4⟩| ⟨k1,k2⟩;exact .inl ⟨i,o,y,by rw[hi k b' m];exact k1,k2,k3,R _ o y k4⟩;exact .inr ⟨by rw[hi k b' m];exact k1,e5 k2⟩
  ·rw[lo b (A b x h)];rcases f.live b x h with⟨i,o,y,h1,h2,h3,h4⟩|h
   ·have hi:=f.lt b i o h1;refine .inl ⟨i,o,y,h1,by rw[r5 i hi];exact h2,?_,h4.mono w r3⟩;cases hF:F' i with
    |none=>rfl|some y'=>rw[r6 i y' hi hF]at h3;cases h3
   exact .inr h
 rcases u b x hb with⟨k,b',x',rfl,G,R,_⟩|h;rcases u c2 y hc with⟨k2,b2,x2,rfl,f3,f4,_⟩|h2;rw[hi k b' G]at B;rw[hi k2 b2 f3]at m;exact r9.inj b' b2 x' x2 i o j q R f4 (fun e=>aa (by subst e;rw[cJ az k k2 b' G f3])) B m;have:=V k b' i o G B;rw[lo c2 (A c2 y h2)]at m;have:=f.lt c2 j q m;omega;rw[lo b (A b x h)]at B;rcases u c2 y hc with⟨k2,b2,x2,rfl,f3,f4,_⟩|h2;have:=V k2 b2 j q f3 m;have:=f.lt b i o B;omega;rw[lo c2 (A c2 y h2)]at m;exact f.inj b c2 x y i o j q h h2 aa B m;by_cases e:b<a.nx+1;rw[lo b e]at h;exact RP (f.lt b i o h) r2;unfold J2 at h;rw[Re e]at h;split at h;exact r9.lt _ i o h;cases h;have hb:a.nx+1+E5 (C8 c.res)<=b:=hb;unfold J2;rw[Re (by omega),Td (by omega)]
variable {l:List (Ay×Con)}{xs:I9}
def dU (a:Ay->List (Nat×(Fm->SS->K0)))(d:P7 P U ov l)(hx:fB P U ov xs)(n:Nat){V:Prop}(he:(cvr P U c (sxF P U a (jX P U l xs) n g)).vc U (fun _=>True)=V)(hv:V)(b:∀g,isT (ov g)=true->fU P U l g≠none:=by exact noT)(hg:isT (ov g)=false:=by rfl):RRO P U ov c g:=
 Qg (Gp a (con:=jX P U l xs) (rE d hx) (fun g hg hn=>b g hg (hX hx g hg hn)) n g hg) (he.symm▸hv)
def NU {mu:Ar->Nat}(h:∀n,RRO P U ov (c.below mu n) g->RRO P U ov (c.below mu (n+1)) g):RRO P U ov c g:=by
 have all:∀n,RRO P U ov (c.below mu n) g:=fun n=>by
  induction n with
  |zero=>intro es _ a;exact absurd a.2 (Nat.not_lt_zero _)
  |succ n d=>exact h n d
 intro es b a;exact all (mu (t6 U (m8 c.inL) es)+1) es b ⟨a,RY _⟩
def NS (a:Ay->List (Nat×(Fm->SS->K0)))(d:P7 P U ov l)(hx:fB P U ov xs)(m:Nat)(mu:Ar->Nat){V:Nat->Prop}(he:∀n,(cvr P U (c.below mu (n+1)) (sxF P U a (jX P U l ((g,kro P U (c.below mu n))::xs)) m g)).vc U (fun _=>True)=V n)(hv:∀n,V n)(b:∀g',isT (ov g')=true->fU P U l g'≠none:=by exact noT)(hg:isT (ov g)=false:=by rfl):RRO P U ov c g:=
 NU fun n hn=>dU a d (xs:=(g,kro P U (c.below mu n))::xs) ⟨⟨M4 hn,hg⟩,hx⟩ m (he n) (hv n) b hg
end
section
variable {P :Aw}{U:Ab}{ov:Aa}
variable (U) in
def wkM (run:As->M SV)(l:As):M SV:=match l with
 | .sl b z off len cap::r=>match cap with
  | .ge=>run (.sl b z off len .ge::r)|cap=>t9 fun s=>match s.get b with
   | some (.rows L e z' ph) => bif Nat.beq z z' then b9 (match cap with
     | .ex c=>p8 U (E4 c len)|_=>i4 ()) fun _=>b9 (p8 U (y8 (z4 (A6 L) (y7 off len)))) fun _=>b9 (p8 U (z4 len (.int 67108865))) fun _=>run (.sl b z off len .ge::r)
    else a8 "full: size"
   |_=>a8 "full: block"
 |l=>run l
variable {g:Ay}
def On (b:wkF P g=true)(hg:isT (ov g)=false){a a':Av}{r:Af}{hp hp':Hp}{v:Av}(h1:wkA hp (a::r)=a'::r)(h2:wkA hp (a'::r)=a'::r)(h:W8 P ov g (a'::r) hp v hp'):W8 P ov g (a::r) hp v hp':=by
 obtain⟨m,h⟩:=h;refine⟨m+1,fun n hn=>?_⟩;obtain⟨k,rfl⟩:∃k,n=k+1:=⟨n-1,by omega⟩
 have h:(D2 P ov (k+1)).run g (a'::r) hp=some (v,hp'):=h (k+1) (by omega);have e:∀x:Av,(D2 P ov (k+1)).run g (x::r) hp=fA (R7 P (v6 P) (D2 P ov k) (O9 P (v6 P) (D2 P ov k) k) k g) (wkA hp (x::r)) hp:=fun x=>by show(bif isT (ov g)&&(x::r).isEmpty then some (.bool true,hp)else fA (R7 P (v6 P) (D2 P ov k) (O9 P (v6 P) (D2 P ov k) k) k g) (bif wkF P g then wkA hp (x::r)else(x::r)) hp)=_;rw[hg,Bool.false_and,Rb,b,Ra]
 rw[e,h2]at h;rw[e,h1];exact h
def Qu {run:As->M SV}(hr:A5 P U ov run g)(w:wkF P g=true)(hg:isT (ov g)=false):A5 P U ov (wkM U run) g:=by
 intro l args τ F s hp hl hs;unfold wkM;split
 ·rename_i b z off len cap r;split;exact hr _ _ _ _ _ _ hl hs
  ·rename_i hge;refine Tv ?_;split
   ·rename_i L e H ph hb;cases hz:Nat.beq z H with
    |false=>exact Tu|true=>
    simp only[Ra];have hz:=QN hz;subst hz;have first:OKp U (match cap with| .ex c=>p8 U (E4 c len)|_=>i4 ()) s fun _=>∀c,lX U len cap c->c=len.toN U\/ ∃lo,c=d9 lo 0/\lo<=67108864/\len.toI U<=67108864:=by
     cases cap with
     |ex c=>refine OKp.need.mono fun _ h c' hc=>.inl ?_;have h:=(Tk U _).1 h;rw[E2]at h;have h:=Sz h;obtain⟨_,h2,_⟩:=hc;rw[h2];show(c.toI U).toNat=(len.toI U).toNat;rw[h]
     |ge=>exact absurd rfl (hge)|un=>refine TC fun c hc=>?_;rcases hc with⟨_,h,_⟩|h;exact .inl h;exact .inr h
    refine Ts first fun _ s1 x hs1 hc=>Ts Ty fun _ s2 A u p1=>Ts Ty fun _ D B f p2=>?_
    have p1:=A0 p1;have p2:=C7 p2;rw[l9,j8]at p1;simp only[B5]at p2;have m:D.get b=some (.rows L e z ph):=by rw[B.get,A.get,x.get];exact hb
    obtain⟨y,ys,rfl,G,j⟩:=hl.uncons;cases G with
    |sl0 _ _ _ _ _ d h0 h1 _=>exact hr _ _ _ _ _ _ (.cons (.sl0 b z off len .ge d h0 h1 (fun e he=>by cases he)) j) f|sl _ _ _ _ _ i o c d h0 h1 k=>
     rcases hc c k with h| ⟨lo,rfl,h2,h3⟩
     ·have J:len.toI U=((len.toN U:Nat):Int):=by show len.toI U=(((len.toI U).toNat:Nat):Int);omega
      have p:VDL P U τ F (.sl b z off len .ge::r) (.slice (some ⟨i,o+off.toN U*z,none⟩) (len.toN U) (d9 (len.toN U) 0)::ys):= .cons (.sl b z off len .ge i o _ d h0 h1 ⟨len.toN U,rfl,by omega,by omega⟩) j;refine(hr _ _ _ _ _ _ p f).mono fun a τ' F' hp' _ _ ⟨v,hx,hv⟩=>⟨v,On w hg ?_ HX hx,hv⟩
      rcases f.live b _ m with⟨N,o',O,k1,k2,_,cs,n,rfl,⟨k3,_⟩,_⟩| ⟨k1,_⟩
      ·rw[d]at k1;simp only[QI,QK]at k1;obtain⟨rfl,rfl⟩:=k1;subst h;have h4:Nat.ble (len.toN U) 67108864=true:=QQ (by omega);have q:Nat.ble (o+off.toN U*z+len.toN U*z) n=true:=QQ (by
        have K:off.toI U=((off.toN U:Nat):Int):=by show off.toI U=(((off.toI U).toNat:Nat):Int);omega
        have:off.toN U+len.toN U<=(L.toR U).length:=by omega
        have:=QW z this;rw[Rv]at this;omega)
       simp only[wkA,h4,Ra,k2,q]
      rw[d]at k1;cases k1
     exact hr _ _ _ _ _ _ (.cons (.sl b z off len .ge i o _ d h0 h1 ⟨lo,rfl,h2,h3⟩) j) f
   exact Tu
 exact hr _ _ _ _ _ _ hl hs
end
section
variable {P :Aw}{ov:Aa}{ar:Ai}{nt:Nat}
structure I8 (hp hp':Hp):Prop where
 nx:hp.nx<=hp'.nx
 dfr:∀r,r<hp.nx->hp.m.get r=some .dfr->hp'.m.get r=some .dfr
def I8.refl (hp:Hp):I8 hp hp:=⟨Ri _,fun _ _ h=>h⟩
def I8.trans {a b c:Hp}(h:I8 a b)(k:I8 b c):I8 a c:=⟨RU h.nx k.nx,fun r hr h0=>k.dfr r (RP hr h.nx) (h.dfr r hr h0)⟩
def Ext.keeps {U:Ab}{τ τ':Tau}{F F':Ac}{s s':SS}{hp hp':Hp}(h:Ext τ F s hp τ' F' s' hp')(hs:SD P U τ F s hp):I8 hp hp':=
 ⟨h.nx,fun r hr h0=>h.dfr hs hr h0 (.inl rfl)⟩
variable (P ov ar nt) in
structure XK (c:Code)(tm:Ao)(hp:Hp)(e:Exit)(tm':Ao)(hp':Hp):Prop where
 run:XC P ov ar nt c tm hp e tm' hp'
 kp:I8 hp hp'
variable {c c1 c2:Code}{tm tm1 tm':Ao}{hp hp1 hp':Hp}{e:Exit}
def XK.seq (h:XK P ov ar nt c1 tm hp .normal tm1 hp1)(k:XK P ov ar nt c2 tm1 hp1 e tm' hp'):XK P ov ar nt (.seq c1 c2) tm hp e tm' hp':=
 ⟨h.run.comp k.run h.kp.nx k.kp.nx k.kp.dfr fun n m ds d f a b=>by simp only[n8,a,b],h.kp.trans k.kp⟩
def XK.seqX (h:XK P ov ar nt c1 tm hp e tm' hp')(he:e≠ .normal):XK P ov ar nt (.seq c1 c2) tm hp e tm' hp':=
 ⟨h.run.map fun n m ds b a=>by simp only[n8,a];cases e<;>first|rfl|exact absurd rfl he,h.kp⟩
def XK.condT {o:Az}(hc:c9 tm o=some (.bool true))(h:XK P ov ar nt c1 tm hp e tm' hp'):XK P ov ar nt (.cond o c1 c2) tm hp e tm' hp':=
 ⟨h.run.map fun n m ds b a=>by simp only[n8,hc,a],h.kp⟩
def XK.condF {o:Az}(hc:c9 tm o=some (.bool false))(h:XK P ov ar nt c2 tm hp e tm' hp'):XK P ov ar nt (.cond o c1 c2) tm hp e tm' hp':=
 ⟨h.run.map fun n m ds b a=>by simp only[n8,hc,a],h.kp⟩
def XK.skip :XK P ov ar nt .skip tm hp .normal tm hp:=⟨.of0 ⟨0,fun n m ds _ _=>rfl⟩,.refl _⟩
def XK.ret :XK P ov ar nt .ret tm hp .ret tm hp:=⟨.of0 ⟨0,fun n m ds _ _=>rfl⟩,.refl _⟩
variable {id:Nat}
def XK.exit :XK P ov ar nt (.exit id) tm hp (.exit id) tm hp:=⟨.of0 ⟨0,fun n m ds _ _=>rfl⟩,.refl _⟩
def XK.block (h:XK P ov ar nt c tm hp .normal tm' hp'):XK P ov ar nt (.block id c) tm hp .normal tm' hp':=
 ⟨h.run.map fun n m ds b a=>by simp only[n8,a],h.kp⟩
def XK.blockX (h:XK P ov ar nt c tm hp (.exit id) tm' hp'):XK P ov ar nt (.block id c) tm hp .normal tm' hp':=
 ⟨h.run.map fun n m ds b a=>by simp only[n8,a,v9 rfl,Ra],h.kp⟩
def XK.loopN (h:XK P ov ar nt c tm hp .normal tm1 hp1)(k:XK P ov ar nt (.loop c) tm1 hp1 e tm' hp'):XK P ov ar nt (.loop c) tm hp e tm' hp':=
 ⟨h.run.comp k.run h.kp.nx k.kp.nx k.kp.dfr fun n m ds d f a b=>by simp only[n8,a,b],h.kp.trans k.kp⟩
def XK.loopX (h:XK P ov ar nt c tm hp e tm' hp')(he:e≠ .normal):XK P ov ar nt (.loop c) tm hp e tm' hp':=
 ⟨h.run.map fun n m ds b a=>by simp only[n8,a];cases e<;>first|rfl|exact absurd rfl he,h.kp⟩
variable {ops:Am}
def XK.region (h:XOps P ov nt ops.toList ops.toList tm hp tm' hp')(k:I8 hp hp'):XK P ov ar nt (.region id ops false) tm hp .normal tm' hp':=by obtain⟨n0,h⟩:=h;exact⟨.of0 ⟨n0,fun n m ds hn _=>by simp only[n8,Rb,h n hn]⟩,k⟩
def XK.draw (h:EV fun n=>v6 P (D2 P ov n) nt ops.toList tm hp=some (tm',hp'))(k:I8 hp hp'):XK P ov ar nt (.region id ops true) tm hp .normal tm' hp':=by obtain⟨n0,h⟩:=h;exact⟨.of0 ⟨n0,fun n m ds hn _=>by simp only[n8,Ra,h n hn]⟩,k⟩
variable (P ov nt) in
def YO (all l:An)(tm:Ao)(hp:Hp)(Q:Ao->Hp->Prop):Prop:=∃tm1 hp1,XOps P ov nt all l tm hp tm1 hp1/\Q tm1 hp1
variable (P ov ar nt) in
def YN (c:Code)(tm:Ao)(hp:Hp)(Q:Ao->Hp->Prop):Prop:=∃tm1 hp1,XK P ov ar nt c tm hp .normal tm1 hp1/\Q tm1 hp1
variable {Q :Ao->Hp->Prop}{all rest:An}{o:Oper}{v:Av}{t:Tmp}
def YO.nil (h:Q tm hp):YO P ov nt all [] tm hp Q:=⟨_,_,.of fun _=>vZ,h⟩
def YO.cons (h1:A9 nt o.dst=true)(h2:o.guard=none)(h:XOp P ov o.op tm hp v hp1)(k:YO P ov nt all rest (y9 tm o.dst v) hp1 Q):YO P ov nt all (o::rest) tm hp Q:=by obtain⟨t1,d,k1,k2⟩:=k;refine⟨t1,d,(h.and k1).mono fun n ⟨a,b⟩=>?_,k2⟩;rw[U4,h1,Ra,a];simp only[u6,h2,Ra];exact b
def YO.op (h1:A9 nt o.dst=true)(h2:o.guard=none)(h:∀call,xop P call tm hp o.op=some (v,hp1))(k:YO P ov nt all rest (y9 tm o.dst v) hp1 Q):YO P ov nt all (o::rest) tm hp Q:= .cons h1 h2 (.of fun _=>h _) k
def YO.mv (h1:A9 nt o.dst=true)(h2:o.guard=none)(h:o.op= .move (.tmp t))(hv:tm.get t=some v)(k:YO P ov nt all rest (y9 tm o.dst v) hp Q):YO P ov nt all (o::rest) tm hp Q:=
 .op h1 h2 (fun _=>by rw[h];simp only[c8,l5,c9,i8,hv,RB]) k
def YO.asg (h1:A9 nt o.dst=true)(h2:o.guard=none)(h:o.op= .assign (.tmp t))(hv:tm.get t=some v)(k:YO P ov nt all rest (y9 tm o.dst v) hp Q):YO P ov nt all (o::rest) tm hp Q:=
 .op h1 h2 (fun _=>by rw[h];simp only[c8,l5,c9,i8,hv,RB]) k
def YN.region (h:YO P ov nt ops.toList ops.toList tm hp fun t1 h1=>I8 hp h1/\Q t1 h1):YN P ov ar nt (.region id ops false) tm hp Q:=by obtain⟨t1,h1,k1,k2,k3⟩:=h;exact⟨t1,h1,.region k1 k2,k3⟩
def YN.seq (h:YN P ov ar nt c1 tm hp fun t1 h1=>YN P ov ar nt c2 t1 h1 Q):YN P ov ar nt (.seq c1 c2) tm hp Q:=by obtain⟨t1,h1,k1,t2,h2,k2,k3⟩:=h;exact⟨t2,h2,k1.seq k2,k3⟩
def YN.skip (h:Q tm hp):YN P ov ar nt .skip tm hp Q:=⟨_,_,.skip,h⟩
def YN.condT {o:Az}(hc:c9 tm o=some (.bool true))(h:YN P ov ar nt c1 tm hp Q):YN P ov ar nt (.cond o c1 c2) tm hp Q:=by obtain⟨t1,h1,k1,k2⟩:=h;exact⟨t1,h1,k1.condT hc,k2⟩
def YN.condF {o:Az}(hc:c9 tm o=some (.bool false))(h:YN P ov ar nt c2 tm hp Q):YN P ov ar nt (.cond o c1 c2) tm hp Q:=by obtain⟨t1,h1,k1,k2⟩:=h;exact⟨t1,h1,k1.condF hc,k2⟩
def YN.block (h:YN P ov ar nt c tm hp Q):YN P ov ar nt (.block id c) tm hp Q:=by obtain⟨t1,h1,k1,k2⟩:=h;exact⟨t1,h1,k1.block,k2⟩
def YN.mono {a:Ao->Hp->Prop}(h:YN P ov ar nt c tm hp Q)(k:∀t1 h1,I8 hp h1->Q t1 h1->a t1 h1):YN P ov ar nt c tm hp a:=by obtain⟨t1,h1,k1,k2⟩:=h;exact⟨t1,h1,k1,k _ _ k1.kp k2⟩
variable (P ov nt) in
def YG (all:An)(nx0:Nat)(l:List (Oper×Nat))(i:Nat)(tm:Ao)(S:Hp)(I:Nat)(es:List Ent)(Q:Out->Prop):Prop:=∃out,(EV fun n=>xgo P (D2 P ov n) nt all nx0 l i tm S I es=some out)/\Q out
variable {nx0 pre ix I:Nat}{restG:List (Oper×Nat)}{S S2:Hp}{es:List Ent}{QO:Out->Prop}
def YG.nil (h:QO ⟨tm,S,I,es⟩):YG P ov nt all nx0 [] ix tm S I es QO:=⟨_,.of fun _=>rfl,h⟩
theorem YG.k0 (h1:A9 nt o.dst=true)(h2:o.guard=none)(h3:i5 o.op=0)(h:∀call,xop P call tm S o.op=some (v,S))(k:YG P ov nt all nx0 restG (ix+1) (y9 tm o.dst v) S I (⟨ix,o,pre,tm,S,S,I,true,v,none⟩::es) QO):YG P ov nt all nx0 ((o,pre)::restG) ix tm S I es QO:=by obtain⟨b,k1,k2⟩:=k;refine⟨b,k1.mono fun n a=>?_,k2⟩;simp only[xgo,u6,h2,Ra,h3,h (D2 P ov n)];grind
theorem YG.k1 (h1:A9 nt o.dst=true)(h2:o.guard=none)(h3:i5 o.op=1)(h:∀call,xop P call tm S o.op=some (v,S))(k:YG P ov nt all nx0 restG (ix+1) (y9 tm o.dst v) S I (⟨ix,o,pre,tm,S,S,I,true,v,none⟩::es) QO):YG P ov nt all nx0 ((o,pre)::restG) ix tm S I es QO:=by
 obtain⟨b,k1,k2⟩:=k;refine⟨b,k1.mono fun n a=>?_,k2⟩;unfold xgo;have:xrd P tm S o.op=some v:=by unfold xrd;simp_all
 simp only[u6,h2,Ra,h3,this];grind
def YG.k3 (h1:A9 nt o.dst=true)(h2:o.guard=none)(h3:i5 o.op=3)(ht:takes nx0 (kQ pre I) es S=S)(h:XOp P ov o.op tm S v S2)(k:YG P ov nt all nx0 restG (ix+1) (y9 tm o.dst v) S2 (I|||pre) (⟨ix,o,pre,tm,S,S2,I,true,v,none⟩::es) QO):YG P ov nt all nx0 ((o,pre)::restG) ix tm S I es QO:=by obtain⟨d,k1,k2⟩:=k;refine⟨d,(h.and k1).mono fun n ⟨a,b⟩=>?_,k2⟩;unfold xgo;rw[h1,Ra];simp only[u6,h2,Ra,h3,ht,a];exact b
def YG.mv (h1:A9 nt o.dst=true)(h2:o.guard=none)(h3:o.op= .move (.tmp t))(hv:tm.get t=some v)(k:YG P ov nt all nx0 restG (ix+1) (y9 tm o.dst v) S I (⟨ix,o,pre,tm,S,S,I,true,v,none⟩::es) QO):YG P ov nt all nx0 ((o,pre)::restG) ix tm S I es QO:=
 .k0 h1 h2 (by rw[h3];rfl) (fun _=>by rw[h3];simp only[c8,l5,c9,i8,hv,RB]) k
theorem YN.drawG (f:stat ops.toList (F9 ops.toList [])=true)(h:YG P ov nt ops.toList hp.nx (ops.toList.zip (F9 ops.toList [])) 0 tm ⟨hp.m,hp.nx+ops.toList.length⟩ 0 [] fun b=>dyn P ⟨hp.m,hp.nx+ops.toList.length⟩ b.es=true/\takes hp.nx (gP b.I) b.es b.S=b.S/\I8 hp b.S/\Q b.tm b.S):YN P ov ar nt (.region id ops true) tm hp Q:=by
 obtain⟨b,h1,h2,h3,h4,d⟩:=h;refine⟨b.tm,b.S,.draw (h1.mono fun n a=>?_) h4,d⟩;have:R1 P (D2 P ov n) nt ops.toList tm hp=some (b.tm,b.S):=by unfold R1;grind
 unfold v6;grind
end
def R5 (P:Aw)(g:Ay):Code:=match P.funcs[g]? with
 |some fn=>fn.body.getD .skip|none=>.skip
def cdA :Code->Code
 | .seq a _=>a| .cond _ a _=>a| .block _ c=>c| .loop c=>c|c=>c
def cdB :Code->Code
 | .seq _ b=>b| .cond _ _ b=>b|c=>c
section
variable {P :Aw}{U:Ab}{ov:Aa}
variable {g:Ay}{hp:Hp}
theorem pO {fn:Func}{c:Code}{args:Af}{tm':Ao}{hp':Hp}{e:Exit}{vs:Af}(p:P.funcs[g]? =some fn)(hc:fn.body=some c)(hg:isT (ov g)=false)(h:XK P ov none (args.length+(fn.ntmps-args.length)) c (fill .e 0 args) hp e tm' hp')(he:e= .normal\/e= .ret)(b:∀hp2:Hp,(∀i,hp'.m.get i≠some .dfr->hp2.m.get i=hp'.m.get i)->J4 P tm' hp2 fn.results.toList=some vs)(u:wkF P g=false:=by kernel_rfl):∃hp2,W8 P ov g args hp (eZ vs) hp2/\hp2.nx=hp'.nx/\(∀i,hp'.m.get i≠some .dfr->hp2.m.get i=hp'.m.get i)/\I8 hp hp2:=by
 obtain⟨⟨j,⟨q,d⟩,B,z⟩,kp⟩:=h;have f:∀n:Nat,I7 P (O9 P (v6 P) (D2 P ov n) n) (j.map Df.mark++ []) hp'=I7 P (O9 P (v6 P) (D2 P ov 0) 0) (j.map Df.mark++ []) hp':=fun n=>lE j hp';obtain⟨hp2,A,x,y⟩:=eK j hp' q fun r hr=>(d r hr).2.2;have w:∀i,hp'.m.get i≠some .dfr->hp2.m.get i=hp'.m.get i:=fun i hi=>y i fun hm=>hi (d i hm).2.2;refine⟨hp2,⟨B+1,fun n hn=>?_⟩,x,w,⟨by rw[x];exact kp.nx,fun r hr h0=>?_⟩⟩
 ·obtain⟨n,rfl⟩:∃k,n=k+1:=⟨n-1,by omega⟩
  have hx:=z n n [] (by omega) (by omega);show(bif isT (ov g)&&args.isEmpty then some (.bool true,hp)else fA (R7 P (v6 P) (D2 P ov n) (O9 P (v6 P) (D2 P ov n) n) n g) (bif wkF P g then wkA hp args else args) hp)=_;rw[hg,Bool.false_and,Rb,u,Rb];have a:=(f n).trans A;have hb:R7 P (v6 P) (D2 P ov n) (O9 P (v6 P) (D2 P ov n) n) n g args hp=some (eZ vs,hp2):=by simp only[R7,p,hc];rcases he with hr|hr;rw[hr]at hx;simp only[hx,pH,a,b hp2 w];rw[hr]at hx;simp only[hx,pH,a,b hp2 w]
  simp only[fA,hb]
 rw[y r fun hm=>by grind];exact kp.dfr r hr h0
def Co :∀ {ps:List Lf} {ds:Au} {nb:Nat},E5 ps=0->Q0 ps ds nb=[]
 | [],_,_,_=>rfl|x::l,ds,nb,h=>by unfold E5 at h;unfold Q0;rw[Lf.blk_none (by omega),Co (by omega)]
def FH (F:Ac)(hp:Hp):Prop:=∀i b,F i=some b->hp.m.get i=some b/\i<hp.nx
variable {F:Ac}
theorem SD.empty (hF:FH F hp)(fv:Nat):SD P U (fun _=>none) F ⟨[],0,[],fv,[]⟩ hp:=
 ⟨fun b x h=>by simp[SS.get,lk]at h,fun b c x y i o j q h=>by grind,fun i b h=>(hF i b h).1,fun b i o h=>(by grind),fun i b h=>(hF i b h).2,fun _ _=>rfl,fun c t h=>by grind,fun r h=>by grind⟩
theorem p9.use {c:Con}(hg:p9 P U ov c g)(h1:c.blks=[])(h2:c.post=[])(h3:E5 c.inL=0)(h4:E5 c.outL=0){es:Au}(n:es.length=(m8 c.inL).length)(p:c.pre (t6 U (m8 c.inL) es)){xs:Af}(hF:FH F hp)(hx:VDL P U (fun _=>none) F (fZ c (D4 U (m8 c.inL) 0 es)) xs):∃v F' hp' a,W8 P ov g xs hp v hp'/\I8 hp hp'/\Fle F F'/\FH F' hp'/\(∀i b,F' i=some b->F i=some b\/hp.nx<=i)/\(∀j,j<hp.nx->hp'.m.get j=hp.m.get j)/\a.length=(m8 c.outL).length/\c.rel (t6 U (m8 c.inL) es) (t6 U (m8 c.outL) a)/\VD P U (fun _=>none) F' (uD c.res (AH c.res (Ih idN c.outL (D4 U (m8 c.outL) 0 a) 0))) v:=by
 have e0:gst c (D4 U (m8 c.inL) 0 es) (m8 c.inL).length=⟨[],0,[],(m8 c.inL).length,[]⟩:=by unfold gst;rw[h1,Co h3,h3];rfl
 have hs:SD P U (fun _=>none) F (gst c (D4 U (m8 c.inL) 0 es) (m8 c.inL).length) hp:=by rw[e0];exact SD.empty hF _
 obtain⟨v,τ',F',s',hp',vs,B,D,a,nw,d,r1,r,A,M,O,N,z,u,R,H,J,K,L,q,y⟩:=hg es n p _ F hp xs hs hx;rw[e0]at r;have hn:U8 0 c.blks.length++nw=[]:=by rw[h1,h2]at q;rw[h1];exact List.length_eq_zero_iff.1 (by simpa [U8]using q)
 have G:d=[]:=List.length_eq_zero_iff.1 (by omega);rw[hn]at z u;rw[h2]at z;have hf:=z;subst hf;subst G;have w:∀b x,(⟨[],0,[],(m8 c.inL).length,[]⟩:SS).get b=some x->False:=fun b x h=>by simp[SS.get,lk]at h
 obtain⟨l,a1,a2,a3,a4,_⟩:=r.hh;have hk:∀j,j<hp.nx->hp'.m.get j=hp.m.get j:=fun j hj=>a2 j hj fun b x o h _ _=>w b x h;refine⟨v,F',hp',a,r1,r.keeps (SD.empty (P:=P) (U:=U) hF _),r.f,fun i b h=>⟨A.frz i b h,A.flt i b h⟩,fun i b h=>?_,hk,u.len,y,?_⟩;grind;have hv:=fL.vals (τ2:=fun _=>none) (num:=idN) (nb:=0) u (I1 (m8 c.outL) 0 a u.len) (fun i b h=>by grind) (fun k b h=>by grind) M;rw[SM]at hv;have:=N _ F' _ [] hv;grind
end
section
variable {P :Aw}{ov:Aa}{nt:Nat}{tm tm1 tm2:Ao}{hp hp1 hp2:Hp}
variable (P ov) in
def JR (i:Nat)(args:Af)(hp:Hp)(v:Av)(hp':Hp):Prop:=EV fun n=>(D2 P ov n).round i args hp=some (v,hp')
variable {ps:Array Tmp}
def xrnd {i:Nat}{pend:Bb Code}{tms:Ao}{a bo:Code}{db:Nat}{args:Af}(hi:hp.m.get i=some (.loop .ready pend nt tms ps a bo db))(hl:ps.toList.length=args.length)(hlt:wR nt ps.toList=true)(h1:XK P ov (some i) nt a (kN tms ps.toList args) hp .normal tm1 hp1)(f:hp1.m.get i=some (.loop .ready pend nt tms ps a bo db))(h2:XK P ov (some i) nt bo tm1 ⟨hp1.m.set i (some (.loop .busy pend nt tms ps a bo db)),hp1.nx⟩ .normal tm2 hp2)(h:hp2.m.get i=some (.loop .busy pend nt tms ps a bo db)):JR P ov i args hp (.bool true) ⟨hp2.m.set i (some (.loop .ready none nt tms ps a bo db)),hp2.nx⟩:=by
 obtain⟨⟨q,_,j,b⟩,_⟩:=h1;obtain⟨⟨r,_,p,d⟩,_⟩:=h2;refine⟨j+p+1,fun n hn=>?_⟩;obtain⟨n,rfl⟩:∃k,n=k+1:=⟨n-1,by omega⟩
 have b:=b n n [] (by omega) (by omega);have d:=d n n (q.map Df.mark++ []) (by omega) (by omega);show pN P (v6 P) (D2 P ov n) n i args hp=_;have hb:Nat.beq ps.toList.length args.length=true:=by rw[hl];exact Nat.beq_refl _
 simp only[pN,hi,hb,hlt,Bool.and_self,Ra,b,f,d,h]
variable {v:Av}
def XK.range {f:Az}{g:Ay}{fn:Func}{first cap:Al}{a bo:Code}(hf:c9 tm f=some (.func (.func g) first cap))(b:P.funcs[g]? =some fn)(d:jB fn=true)(h:W8 P ov g (first.toList++ [.chan (some (hp.nx+1))]++cap.toList) ⟨(hp.m.set hp.nx (some .dfr)).set (hp.nx+1) (some (.loop .ready none nt tm ps a bo hp.nx)),hp.nx+2⟩ v hp1)(j:hp1.m.get hp.nx=some .dfr)(hl:hp1.m.get (hp.nx+1)=some (.loop .ready none nt tm ps a bo hp.nx))(hx:hp.nx+2<=hp1.nx)(kp:∀r,r<hp.nx->hp.m.get r=some .dfr->hp1.m.get r=some .dfr):XK P ov none nt (.rangeFunc f ps a bo) tm hp .normal tm ⟨hp1.m.set (hp.nx+1) none,hp1.nx⟩:=by
 obtain⟨n0,h⟩:=h;have i:∀r,r≠hp.nx+1->(hp1.m.set (hp.nx+1) none).get r=hp1.m.get r:=fun r hr=>by rw[TQ,Re hr]
 refine⟨⟨[hp.nx],⟨by simp,fun r hr=>?_⟩,n0+1,fun n m ds hn hm=>?_⟩,⟨by show hp.nx<=hp1.nx;omega,fun r hr h0=>by show(hp1.m.set (hp.nx+1) none).get r=_;rw[i r (by omega)];exact kp r hr h0⟩⟩
 ·have hr:r=hp.nx:=by simpa using hr
  subst hr;exact⟨Ri _,by show hp.nx<hp1.nx;omega,by show(hp1.m.set (hp.nx+1) none).get hp.nx=_;rw[i _ (by omega)];exact j⟩
 ·obtain⟨m,rfl⟩:∃k,m=k+1:=⟨m-1,by omega⟩
  simp only[n8,eM,hf,b,d,Ra,h n (by omega),wA,hl];rfl
def Em {y:Tmp}{i:Nat}{args:Array Az}{ats:Array Ax}{vs:Af}(hy:tm.get y=some (.chan (some i)))(a:aH tm args.toList=some vs)(h:JR P ov i vs hp v hp1):XOp P ov (.call ⟨.value (.tmp y),args,ats⟩) tm hp v hp1:=
 h.mono fun n k=>by simp only[c8,l5,a,c9,hy,RB,nH];exact k
