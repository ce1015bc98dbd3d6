/- The symbolic engine: Delete and Insert, parts 41, 42, 43, 45.
  Conditions: none. -/
import Derived.Test.YtcjhhnoaoldcmaaGreatXm4
set_option linter.unusedSimpArgs false
set_option linter.unusedVariables false
noncomputable section PartSm441
namespace Go.Sx
open Go.Xe
section
variable {P :Program}{U:Nat->List Dat->Dat}{τ:Tau}{F:Nat->Option Blk}{s:SS}{hp:Hp}
theorem SD.move2 (hs : SD P U τ F s hp) {b i o  f  Q  L : Nat} {x  M x' : p7} (hb : s.get b = some x) (ht : τ b = some (some (i, o))) (  p : s.get  f = some  M) (  v : τ  f = some (some ( Q,  L))) (_ :  f ≠ b) {hp' : Hp} (hn : hp.nx ≤ hp'.nx) (hk : ∀ j, j < hp.nx → j ≠ i → j ≠  Q → hp'.m.get j = hp.m.get j) {j q : Nat} (hj : j = i ∨ hp.nx ≤ j) (  Y : j < hp'.nx)
  {y:Blk} (hi:hp'.m.get j=some y) (W:BD P U (put τ s.nx (some (j,q))) F q x' y):
  Ext τ F s hp (put τ s.nx (some (j,q))) F (Z5 ((s.set b none).set f none) x') hp'/\SD P U (put τ s.nx (some (j,q))) F (Z5 ((s.set b none).set f none) x') hp':=by
 have h0:τ s.nx=none:=hs.new _ (bH4 _);have u:=R3 (τ:=τ) (some (j,q)) h0;have hlt:b<s.nx:=hs.bound hb;have O:f<s.nx:=hs.bound p;have X:i<hp.nx:=hs.lt b i o ht;have fz:∀ {b i o x},s.get b=some x->τ b=some (some (i,o))->F i=none:=by
  intro b i o x hb ht
  rcases hs.live b x hb with⟨i',o',R,h1,_,h3,_⟩| ⟨h1,_⟩
  ·grind
  ·grind
 have N:=fz hb ht;have K:=fz p v;have T:F j=none:=by
  rcases hj with rfl|hj
  ·exact N
  ·cases hF:F j with
   |none=>rfl
   |some w=>exact absurd (hs.flt j w hF) (by omega)
 have V:∀c,(Z5 ((s.set b none).set f none) x').get c=if c=s.nx then some x' else if c=f then none else if c=b then none else s.get c:=by
  intro c;rw[ab7,SS.get_set,SS.get_set];rfl
 refine⟨⟨u,Fle.refl F,hn,by simp[Z5,SS.set],fun c hc=>q8 τ _ (by omega),fun c y hc hlt=>?_,⟨[(s.nx,some x'),(f,none),(b,none)],rfl,fun k a H=>hk k a (fun e=>H b x o hb (by rw[e];exact ht) (by simp)) (fun e=>H f M L p (by rw[e];exact v) (by simp)),fun c k r hc h=>?_,fun _ _ _ h=>.inl h,fun _ _ _ h=>h⟩,⟨[],rfl⟩⟩,?_⟩
 ·grind
 ·by_cases e:c=s.nx
  ·subst e;rw[i6]at h;simp only[bF1,bF3]at h
   grind
  ·rw[q8 τ _ e,hs.new c hc]at h;cases h
 ·have inv : ∀ c z, (Z5 ((s.set b none).set  f none) x').get c = some z → c ≠ s.nx → c ≠ b ∧ c ≠  f ∧ s.get c = some z := by
   grind
  have apart:∀c z k r,c≠b->s.get c=some z->τ c=some (some (k,r))->k≠j:=by
   intro c z k r e hc h D;subst D
   rcases hj with rfl|hj
   ·exact hs.inj c b z x _ r _ o hc hb e h ht rfl
   ·have:=hs.lt c _ r h;omega
  refine⟨fun c z hc=>?_,fun c d y z k r k' Z hc E G B C=>?_,fun k y a=>?_,fun c k r h=>?_,fun k y h=>bK4 (hs.flt k y h) hn,fun c hc=>?_,hs.fc,fun r hr=>(hs.fz r hr).mono u (Fle.refl F)⟩
  ·by_cases e:c=s.nx
   ·subst e
    rw[V,bH3 rfl,bF1]at hc;subst hc;exact .inl ⟨j,q,y,i6 _ _ _,hi,T,W⟩
   ·obtain⟨e',I,n⟩:=inv c z hc e
    rcases hs.live c z n with⟨k,r,R,h1,h2,h3,h4⟩| ⟨h1,h2⟩
    ·refine .inl ⟨k,r,R,by rw[q8 τ _ e];exact h1,?_,h3,h4.mono u (Fle.refl F)⟩
     rw[hk k (hs.lt c k r h1) ?_ ?_];exact h2
     ·intro D;subst D
      exact hs.inj c b z x _ r _ o n hb e' h1 ht rfl
     ·intro D;subst D
      exact hs.inj c f z M _ r _ L n p I h1 v rfl
    ·exact .inr ⟨by rw[q8 τ _ e];exact h1,h2⟩
  ·by_cases J:c=s.nx
   ·subst J
    have A:d≠s.nx:=fun h=>G h.symm
    rw[i6]at B;simp only[bF1,bF3]at B;obtain⟨rfl,_⟩:=B;obtain⟨e',_,t⟩:=inv d z E A;rw[q8 τ _ A]at C
    grind
   ·obtain⟨e',_,n⟩:=inv c y hc J
    rw[q8 τ _ J]at B
    by_cases A:d=s.nx
    ·subst A
     rw[i6]at C;simp only[bF1,bF3]at C
     grind
    ·obtain⟨S,_,t⟩:=inv d z E A
     rw[q8 τ _ A]at C;exact hs.inj c d y z k r k' Z n t G B C
  ·rw[hk k (hs.flt k y a) (fun e=>by rw[e,N]at a;cases a) (fun e=>by rw[e,K]at a;cases a)];exact hs.frz k y a
  ·by_cases e:c=s.nx
   ·subst e;rw[i6]at h;simp only[bF1,bF3]at h
    grind
   ·rw[q8 τ _ e]at h;exact bK4 (hs.lt c k r h) hn
  ·have:s.nx+1<=c:=hc
   rw[q8 τ _ (by omega)];exact hs.new c (by omega)
end
section
variable (P :Program)(U:Nat->List Dat->Dat)
def sdel (e size : Nat) (args : List SV) : M SV := match args with
 | [.sl b z off len .ge, .int .i64 a, .int .i64 c] => a8 (ay2 P b) fun _ => i9 fun s => match s.get b with
  | some (.rows L e' z' _) => bif Nat.beq e e' && Nat.beq size z && Nat.beq size z' && Nat.beq size (kf P e).length then
    a8 (f7 U (l6 (l9 (p8 L) (l5 off len)))) fun _=>a8 (f7 U (l6 (l9 a (.int 0)))) fun _=>a8 (f7 U (l9 a c)) fun _=>a8 (f7 U (l6 (l9 len c))) fun _=>
    a8 (M6 U L off a) fun A=>a8 (M6 U L (l5 off c) (E8 len c)) fun B=>smove e size b (.rows (A8 A B)) (l5 a (E8 len c)) .ge
   else a7 "delete: type"
  |_=>a7 "delete: block"
 |_=>a7 "delete: arguments"
def smove2 (e size b b2:Nat)(x:Src)(len:E)(cp:Cp):M SV:=fun s=>.ret (.sl s.nx size (.int 0) len cp,Z5 ((s.set b none).set b2 none) (x.blk e size))
def isCR :Option p7->Bool
 |some (.cells _ _ _)=>true
 |some (.rows _ _ _ _)=>true
 |_=>false
def bh0 (e size b : Nat) (off len a : E) (x : SV) : M SV := match x with
 | .sl b2 _ _ _ _ => bif Nat.beq b2 b then a7 "insert: the same block" else a8 (ssrc P U e size x) fun src => bif src.one then a8 (bw6 P U e size src) fun Ln => a8 (ay2 P b) fun _ => i9 fun s => match s.get b with
  | some (.rows L e' z' _) => bif Nat.beq e e' && Nat.beq size z' && Nat.beq size (kf P e).length && isCR (s.get b2) then
    a8 (f7 U (z8 (p8 Ln) (.int 1))) fun _=>a8 (f7 U (l6 (l9 (p8 L) (l5 off len)))) fun _=>a8 (f7 U (l6 (l9 a (.int 0)))) fun _=>a8 (f7 U (l6 (l9 len a))) fun _=>a8 (f7 U (l9 len (.int 67108864))) fun _=>
    a8 (M6 U L off a) fun A=>a8 (M6 U L (l5 off a) (E8 len a)) fun B=>smove2 e size b b2 (.rows (A8 (A8 A Ln) B)) (l5 len (.int 1)) .ge
   else a7 "insert: type"
  |_=>a7 "insert: block"
  else a7 "insert: cells"
 |_=>a7 "insert: element"
def sins (e size:Nat)(args:List SV):M SV:=match args with
 | [.nils,.int .i64 a,x]=>bif Nat.beq size (kf P e).length then a8 (R6 (.rows (.op .nil []) e size (.int 0))) fun b=>bh0 P U e size b (.int 0) (.int 0) a x else a7 "insert: size"
 | [.sl b z off len .ge,.int .i64 a,x]=>bif Nat.beq size z then bh0 P U e size b off len a x else a7 "insert: size"
 |_=>a7 "insert: arguments"
end
section
variable {P :Program}{U:Nat->List Dat->Dat}{ov:FuncId->Option TypeId}
theorem be0 (n:Nat):(exec P ov n).ov=ov:=by cases n<;>rfl
variable {g:FuncId}
theorem aN4 {C:d8->Prop}(b:∀n,C (exec P ov n))(c:isT (ov g)=false){args:List Value}{hp:Hp}{v:Value}{hp':Hp}(h:aE5 P C g args hp v hp'):aJ1 P ov g args hp v hp':=by
 obtain⟨a,h⟩:=h;refine⟨a+1,fun n hn=>?_⟩
 obtain⟨k,rfl⟩:∃k,n=k+1:=⟨n-1,by omega⟩
 show(bif isT (ov g)&&args.isEmpty then some (.bool true,hp)else as6 (U2 P (l8 P) (exec P ov k) (W9 P (l8 P) (exec P ov k) k) k g) args hp)=_
 grind
variable {τ :Tau}{F:Nat->Option Blk}{s:SS}{hp:Hp}
theorem bj5 {c:T Value}{o n:Nat}{a b:List Value}(h:j3 c o n=some a)(k:j3 c o n=some b):a=b:=bH7 (h.symm.trans k)
theorem W1 {e z o n : Nat} {cs : T Value} {rows : Rows} (hr : r0 P F e z o n cs rows) {off len a m : Int} (h0 : 0 ≤ off) ( h : 0 ≤ a) (hm : 0 ≤ m) (  d : a + m ≤ len) (h2 : off + len ≤ rows.length) {L : E} ( c : L.toR U = part rows (off + a) m) {   b : List Value} (hl : j3 cs (o + off.toNat * z) (len.toNat * z) = some    b) :
  i8 P U τ F e z (.rows L) ((b.drop (a.toNat*z)).take (m.toNat*z)):=by
 obtain⟨vs,v1,_,f,_⟩:=A6 (τ:=τ) hr (show 0<=off+a by omega) hm (by omega) c
 have h3:=T6 hl (a:=a.toNat*z) (m:=m.toNat*z) (by rw[<-bI7];exact bG4 _ (by omega))
 rw[show o+off.toNat*z+a.toNat*z=o+(off+a).toNat*z by rw[bL1,<-bI7];congr 2;omega]at h3
 rw[bj5 h3 v1];exact f
theorem az7 {ρ:Go.Shelf.Ren}{e:TypeId}{ie:TypeInfo}{zv:Value}(D:aO0 P g ρ e ie zv)(hg:isT (ov g)=false):y8 P U ov (sdel P U e ie.size) g:=by
 intro l args τ F s hp hl hs;unfold sdel;split
 ·rename_i b z off len a c
  obtain⟨y1,aj,rfl,v1,hl⟩:=hl.uncons;obtain⟨y2,ak,rfl,v2,hl⟩:=hl.uncons;obtain⟨y3,T,rfl,v3,hl⟩:=hl.uncons;have:T=[]:=bF7 hl.1.symm;subst this;cases v2;cases v3;refine(aa9 hs).bind fun _ τ1 F1 s1 hp1 ex hs1 ⟨e1,e2,e3⟩=>OKh.read ?_
  subst e1;subst e2;subst e3;split
  ·rename_i L e' Z ph hb
   cases hq:Nat.beq e e'&&Nat.beq ie.size z&&Nat.beq ie.size Z&&Nat.beq ie.size (kf P e).length with
   |false=>exact OKh.fail
   |true=>
    simp only[bG8];simp only[bF2,bJ1]at hq;obtain⟨⟨⟨rfl,hz⟩,O⟩,aa⟩:=hq;refine OKh.bindp OKp.need fun _ s2 o2 ac p1=>OKh.bindp OKp.need fun _ s3 o3 ad p2=>OKh.bindp OKp.need fun _ s4 o4 ae X=>OKh.bindp OKp.need fun _ s5 o5 ah Y=>OKh.bindp t7 fun A s6 o6 ai hA=>OKh.bindp t7 fun B s7 o7 r V=>?_
    have p1:=p6 p1;have p2:=N1 p2;have X:=u9 X;have Y:=p6 Y;rw[d9,d5]at p1;rw[d9,j5]at V;have u:s7.get b=some (.rows L e Z ph):=by rw[o7.get,o6.get,o5.get,o4.get,o3.get,o2.get];exact hb
    have J:A.toR U=part (L.toR U) (off.toI U) (a.toI U):=by show(A.den U).rows=_;rw[hA];rfl
    have K:B.toR U=part (L.toR U) (off.toI U+c.toI U) (len.toI U-c.toI U):=by show(B.den U).rows=_;rw[V];rfl
    cases v1 with
    |sl0 _ _ _ _ _ m h0 h1 hc=>omega
    |sl _ _ _ _ _ i o cc m h0 h1 hc=>
    obtain⟨lo,rfl,c1,c2⟩:=hc
    rcases r.live b _ u with⟨i',o',y,k1,k2,kF,cs,k,rfl,Q,k5⟩| ⟨k1,_⟩
    ·rw[m]at k1;simp only[bF1,bF3]at k1;obtain⟨rfl,rfl⟩:=k1
     subst hz;subst O;obtain⟨f,S,w2,w3,w4⟩:=A6 (τ:=τ1) (off:=off.toI U) (len:=len.toI U) (L:= .op .part [L,off,len]) Q h0 h1 p1 rfl;have E:f.all Value.oneCell'=true:=w3.ones rfl;have ea:a.toI U=((a.toN U:Nat):Int):=by grind
     have ec:c.toI U=((c.toN U:Nat):Int):=by grind
     have el:len.toI U=((len.toN U:Nat):Int):=by grind
     obtain⟨v,hp',r1,⟨⟨bb,q,H,ct,kk,rfl,n2,n3,n4,n5,n6,W⟩,R,I⟩⟩:=bn4 (C:=fun _=>True) (hp:=hp1) D (i:=i) (o:=o+off.toN U*ie.size) (n:=len.toN U) (lo:=lo) (a:=a.toN U) (b:=c.toN U) (Nat.max_le.2 ⟨c1,by omega⟩) (by omega) (by omega) (r.lt b i o m) k2 w2 S E
     have p:=aN4 (ov:=ov) (fun _=>trivial) hg r1
     rw[<-ea,<-ec]at p;have d:(l5 a (E8 len c)).toI U=((a.toN U+(len.toN U-c.toN U):Nat):Int):=by rw[d9,j5];omega
     have t:=(f9 W).1;refine(OKh.smove (x':= .rows (A8 A B)) (cp:= .ge) (hp1:=hp') (j:=bb) (q:=q) (n:=a.toN U+(len.toN U-c.toN U)) (c:=c7 H 0) u m R (fun x hx M=>I x hx M (fun h=>h)) n3 n4 n5 (fun τ' G=>?_) d ⟨H,rfl,n2,by rw[d];omega⟩ r).mono fun w τ' F' ab _ _ ⟨q1,q2⟩=>⟨_,by rw[q1];exact p,q2⟩
     refine ai3 (vs:=f.take (a.toN U*ie.size)++f.drop (c.toN U*ie.size)) ?_ (fun y v hy=>?_) (by rw[t];exact n6)
     ·refine i8.mono G (Fle.refl _) (i8.app ?_ ?_)
      ·have:=W1 (τ:=τ1) Q h0 (bL5 0) (show 0<=a.toI U by omega) (show 0+a.toI U<=len.toI U by omega) p1 (L:=A) (by rw[J];congr 1;omega) S
       grind
      ·have:=W1 (τ:=τ1) Q h0 (show 0<=c.toI U by omega) (show 0<=len.toI U-c.toI U by omega) (show c.toI U+(len.toI U-c.toI U)<=len.toI U by omega) p1 (L:=B) K S
       rw[bK0 (by rw[bK3,w4,<-Nat.sub_mul];exact bG4 _ (by omega))]at this
       exact this
     ·have N:y<(a.toN U+(len.toN U-c.toN U))*ie.size:=by rw[<-t];exact(bF4.1 hy).1
      rw[<-(f9 W).2 y N];exact hy
    ·grind
  ·exact OKh.fail
 ·exact OKh.fail
end
end Go.Sx
end PartSm441
noncomputable section PartSm442
namespace Go.Sx
open Go.Xe
section
variable {P :Program}{U:Nat->List Dat->Dat}{ov:FuncId->Option TypeId}{τ:Tau}{F:Nat->Option Blk}{s:SS}{hp:Hp}
theorem OKh.smove2 {e size b i o  f  u  w j q n c : Nat} {x  z : p7} {x' : Src} {len : E} {cp : Cp} (hb : s.get b = some x) (ht : τ b = some (some (i, o))) (  h : s.get  f = some  z) (  t : τ  f = some (some ( u,  w))) (  p :  f ≠ b) {hp1 : Hp} (hn : hp.nx ≤ hp1.nx) (hk : ∀ k, k < hp.nx → k ≠ i → k ≠  u → hp1.m.get k = hp.m.get k) (hj : j = i ∨ hp.nx ≤ j) (  r : j < hp1.nx)
  {y:Blk} (hi:hp1.m.get j=some y) (v:∀τ',Tle τ τ'->BD P U τ' F q (x'.blk e size) y) (d:len.toI U=n) (hc:aw4 U len cp c) (hs:SD P U τ F s hp):
  OKh P U (smove2 e size b f x' len cp) τ F s hp fun a τ' F' hp'=>hp'=hp1/\VD P U τ' F' a (.slice (some ⟨j,q,none⟩) n c):=by
 intro Q hq _;have h0:τ s.nx=none:=hs.new _ (bH4 _);obtain⟨h1,h2⟩:=hs.move2 (x':=x'.blk e size) (q:=q) hb ht h t p hn hk hj r hi (v _ (R3 _ h0));refine⟨_,_,hq,_,F,hp1,h1,h2,rfl,?_⟩;exact VD.sl' (i6 _ _ _) (bL5 0) (by rw[d];omega) hc (by show q=q+(0:Int).toNat*size;simp) (ap3 d).symm
theorem aP8 {s:SS}{b:Nat}(h:isCR (s.get b)=true):(∃l e z,s.get b=some (.cells l e z))\/ ∃L e z ph,s.get b=some (.rows L e z ph):=by
 unfold isCR at h
 grind
theorem aB8 {hp:Hp}{size n m c:Nat}{a:Option Addr}{vs:List Value}(h:m9 hp size (.slice a n c)=some (m,vs)):m=n:=by
 unfold m9 at h;split at h
 ·rename_i n' _ hh
  cases hh;cases hb:Nat.beq n 0 with
  |false=>grind
  |true=>simp_all
 ·grind
 ·grind
 ·cases h
variable {g:FuncId}{ρ:Go.Shelf.Ren}{zv:Value}
theorem aT5   {e : TypeId} {ie : TypeInfo}  (D : Z7 P g ρ e ie zv) (hg : isT (ov g) = false) ( ah : ov (ρ.f 27) = some (ρ.t 22)) {b : Nat} {off len a : E} {x : SV} {v1 v3 : Value}
  (h1:VD P U τ F (.sl b ie.size off len .ge) v1) (h3:VD P U τ F x v3) (hs:SD P U τ F s hp):
  OKh P U (bh0 P U e ie.size b off len a x) τ F s hp fun w τ' F' hp'=>∃v,aJ1 P ov g [v1,.int .i64 (a.toI U),v3] hp v hp'/\VD P U τ' F' w v:=by
 unfold bh0;split
 ·rename_i J z2 ao aj bk
  cases N:Nat.beq J b with
  |true=>exact OKh.fail
  |false=>
  have N:J≠b:=fun h=>by rw[h,j9 rfl]at N;cases N
  simp only[bG9];refine OKh.bindp (bh5 D.sz h3 hs) fun src s1 o1 hs1 ⟨n,news,x1,x2,x3,x4⟩=>?_
  cases ae:src.one with
  |false=>exact OKh.fail
  |true=>
  simp only[bG8];have az:=x2.ones ae;refine(aL8 x2 hs1).bind fun Ln τ1 F1 s2 hp1 ex bc ⟨e1,e2,M⟩=>?_
  subst e1;subst e2;refine(aa9 bc).bind fun _ I F2 s3 d bm bq ⟨e1,e2,e3⟩=>OKh.read ?_
  subst e1;subst e2;subst e3;have h1:=h1.mono (Tle.refl I) ex.f;have h3:=h3.mono (Tle.refl I) ex.f;split
  ·rename_i L e' z' ph hb
   cases hq:Nat.beq e e'&&Nat.beq ie.size z'&&Nat.beq ie.size (kf P e).length&&isCR (s3.get J)with
   |false=>exact OKh.fail
   |true=>
    simp only[bG8];simp only[bF2,bJ1]at hq;obtain⟨⟨⟨rfl,bi⟩,ax⟩,ad⟩:=hq;refine OKh.bindp OKp.need fun _ s4 o4 bt p0=>OKh.bindp OKp.need fun _ s5 o5 bu p1=>OKh.bindp OKp.need fun _ s6 o6 bv p2=>OKh.bindp OKp.need fun _ s7 o7 bw p3=>OKh.bindp OKp.need fun _ s8 o8 bx p4=>
     OKh.bindp t7 fun A s9 o9 bz hA=>OKh.bindp t7 fun B sA oA u hB=>?_
    have p0:(p8 Ln).toI U=1:=by have:=(E.pr_iff U _).1 p0;rw[C8]at this;exact bN0 this
    have p1:=p6 p1;have p2:=N1 p2;have p3:=p6 p3;have p4:=u9 p4;simp only[q7]at p4;rw[d9,d5]at p1;rw[d5]at p0;rw[d9,j5]at hB;have X:∀c,sA.get c=s3.get c:=fun c=>by rw[oA.get,o9.get,o8.get,o7.get,o6.get,o5.get,o4.get]
    have V:sA.get b=some (.rows L e z' ph):=by grind
    have M:=M ax;have bl:=aj0 D.sz M x3;have hn:n=1:=by omega
    subst hn;have ba:news.length=ie.size:=by grind
    have ab:A.toR U=part (L.toR U) (off.toI U) (a.toI U):=by show(A.den U).rows=_;rw[hA];rfl
    have ar:B.toR U=part (L.toR U) (off.toI U+a.toI U) (len.toI U-a.toI U):=by show(B.den U).rows=_;rw[hB];rfl
    have ea:a.toI U=((a.toN U:Nat):Int):=by grind
    have O:∀m:Nat,len.toI U=(m:Int)->(l5 len (.int 1)).toI U=((m+1:Nat):Int):=fun m hm=>by rw[d9,q7,hm];rfl
    cases h3 with
    |sl0 _ _ _ _ _ G _ _ _=>exact absurd (aB8 x1) (by omega)
    |sl _ _ _ _ _ j oj cm G g0 g1 gc=>
    have ay:=aB8 x1;have aa:∃q,(Value.slice (some ⟨j,oj+ao.toN U*z2,none⟩) (aj.toN U) cm)= .slice (some ⟨j,q,none⟩) 1 cm:=⟨_,by rw[<-ay]⟩
    obtain⟨q,aa⟩:=aa;rw[aa]at x1⊢;have r:∃xx,sA.get J=some xx:=by
     rw[X]
     rcases aP8 ad with⟨_,_,_,h⟩| ⟨_,_,_,_,h⟩<;>exact⟨_,h⟩
    obtain⟨xx,r⟩:=r;have aw:∃cj kj ej zj,d.m.get j=some (.cells cj kj ej zj):=by
     rcases u.live J _ r with⟨i',o',y,k1,k2,_,k4⟩| ⟨k1,_⟩
     ·rw[G]at k1;simp only[bF1,bF3]at k1;obtain⟨rfl,rfl⟩:=k1
      have:sA.get J=s3.get J:=X J
      rcases aP8 ad with⟨l,ee,zz,h⟩| ⟨L',ee,zz,pp,h⟩
      ·rw[this,h,bF1]at r;subst r
       obtain⟨cs,nn,rfl,_⟩:=k4
       grind
      ·rw[this,h,bF1]at r;subst r
       obtain⟨cs,nn,rfl,_⟩:=k4
       grind
     ·grind
    obtain⟨cj,kj,ej,zj,au⟩:=aw;cases h1 with
    |sl0 _ _ _ _ _ R h0 Y hc=>
     rcases u.live b _ V with⟨i',o',y,k1,_⟩| ⟨k1,L',e2,z2,ca,k2,k3,k4,k5⟩
     ·grind
     ·simp only[p7.rows.injEq]at k2
      obtain⟨rfl,rfl,rfl,rfl⟩:=k2;have bn:a.toI U=0:=by omega
      obtain⟨v,hp',r1,rfl,rfl⟩:=by2 (hp:=d) (C:=COv ρ) D x1;have z:=aN4 (ov:=ov) (fun k=>by unfold COv;rw[be0];exact ah) hg r1
      have z:aJ1 P ov g [.slice none 0 0,.int .i64 (a.toI U),.slice (some ⟨j,q,none⟩) 1 cm] d (.slice (some ⟨d.nx,0,none⟩) 1 (c7 1 0)) (d.new news e ie.size):=by grind
      have ap:A.toR U=[]:=by rw[ab,k3];simp[part]
      have aq:B.toR U=[]:=by grind
      have K:(A8 (A8 A Ln) B).toR U=Ln.toR U:=by rw[K0,K0,ap,aq];simp
      have W:i8 P U I F2 e ie.size (.rows (A8 (A8 A Ln) B)) news:=by
       obtain⟨c1,c2,c3,c4⟩:=M;exact⟨c1,by rw[K];exact c2,by rw[K];exact c3,by rw[K];exact c4⟩
      intro Q hq _;obtain⟨d1,d2⟩:=u.drop b;obtain⟨d3,d4⟩:=d2.drop J;have H:(l5 len (.int 1)).toI U=((1:Nat):Int):=O 0 Y;obtain⟨f1,f2⟩:=d4.alloc (x:=(Src.rows (A8 (A8 A Ln) B)).blk e ie.size) (p:=some (d.nx,0)) (hp':=d.new news e ie.size) (bM6 _) (fun x hx=>by show(d.m.set _ _).get x=_;rw[T.get_set,bH1 (by omega)])
       (.inl ⟨d.nx,0,_,rfl,bH4 _,bL2 _,by show(d.m.set _ _).get _=_;rw[T.get_set,bH3 rfl],ai3 (W.mono (R3 _ (u.new _ (bH4 _))) (Fle.refl _)) (fun y v hy=>by rw[bI3];exact D2 news y v hy) (by omega)⟩)
      refine⟨_,_,hq,_,F2,_,(d1.trans d3).trans f1,f2,_,z,?_⟩;exact VD.sl' (i6 _ _ _) (bL5 0) (by rw[H];omega) (geN H (by omega)) (aW8 ie.size).symm (ap3 H).symm
    |sl _ _ _ _ _ i o cc R h0 Y hc=>
     obtain⟨lo,rfl,c1,c2⟩:=hc
     rcases u.live b _ V with⟨i',o',y,k1,k2,kF,cs,k,rfl,k4,k5⟩| ⟨k1,_⟩
     ·rw[R]at k1;simp only[bF1,bF3]at k1;obtain⟨rfl,rfl⟩:=k1
      subst bi;have av:j≠i:=u.inj J b _ _ j oj i o r V N G R;obtain⟨S,w1,w2,w3,w4⟩:=A6 (τ:=I) (off:=off.toI U) (len:=len.toI U) (L:= .op .part [L,off,len]) k4 h0 Y p1 rfl;have Z:S.all Value.oneCell'=true:=w3.ones rfl;have el:len.toI U=((len.toN U:Nat):Int):=by show len.toI U=((len.toI U).toNat:Int);omega
      obtain⟨v,hp',r1,⟨⟨bb,q',ak,ct,kk,rfl,n2,n3,n4,n5,n6,n7⟩,bj,al⟩⟩:=bn6 (hp:=d) D (i:=i) (o:=o+off.toN U*ie.size) (n:=len.toN U) (lo:=lo) (at_:=a.toN U) (Nat.max_le.2 ⟨c1,by omega⟩) (by omega) (by omega) av (u.lt b i o R) (u.lt J j oj G) k2 au w2 w1 x1 ba Z az
      have z:=aN4 (ov:=ov) (fun k=>by unfold COv;rw[be0];exact ah) hg r1
      rw[<-ea]at z;have H:=O _ el;have ac:=(f9 n7).1;refine(OKh.smove2 (x':= .rows (A8 (A8 A Ln) B)) (cp:= .ge) (hp1:=hp') (j:=bb) (q:=q') (n:=len.toN U+1) (c:=c7 ak 0) V R r G N bj (fun x hx be bg=>al x hx be bg) n3 n4 n5 (fun τ' ai=>?_) H ⟨ak,rfl,n2,by rw[H];omega⟩ u).mono fun w τ' F' bp _ _ ⟨q1,q2⟩=>⟨_,by rw[q1];exact z,q2⟩
      refine ai3 (vs:=S.take (a.toN U*ie.size)++news++S.drop (a.toN U*ie.size)) ?_ (fun y v hy=>?_) (by rw[ac];exact n6)
      ·refine i8.mono ai (Fle.refl _) (i8.app (i8.app ?_ M) ?_)
       ·have:=W1 (τ:=I) k4 h0 (bL5 0) (show 0<=a.toI U by omega) (show 0+a.toI U<=len.toI U by omega) p1 (L:=A) (by rw[ab];congr 1;omega) w1
        grind
       ·have:=W1 (τ:=I) k4 h0 (show 0<=a.toI U by omega) (show 0<=len.toI U-a.toI U by omega) (show a.toI U+(len.toI U-a.toI U)<=len.toI U by omega) p1 (L:=B) ar w1
        rw[bK0 (by rw[bK3,w4,<-Nat.sub_mul];exact bG4 _ (by omega))]at this
        exact this
      ·have bh:y<(len.toN U+1)*ie.size:=by rw[<-ac];exact(bF4.1 hy).1
       rw[<-(f9 n7).2 y bh];exact hy
     ·grind
  ·exact OKh.fail
 ·exact OKh.fail
theorem aA0 {e:TypeId}{ie:TypeInfo}(D:Z7 P g ρ e ie zv)(m:isT (ov g)=false)(d:ov (ρ.f 27)=some (ρ.t 22)):y8 P U ov (sins P U e ie.size) g:=by
 intro l args τ F s hp hl hs;unfold sins;split
 ·rename_i a x
  obtain⟨r,j,rfl,v1,hl⟩:=hl.uncons;obtain⟨u,k,rfl,h,hl⟩:=hl.uncons;obtain⟨v,c,rfl,i,hl⟩:=hl.uncons;have:c=[]:=bF7 hl.1.symm;subst this;cases h;cases v1;cases hk:Nat.beq ie.size (kf P e).length with
  |false=>exact OKh.fail
  |true=>
   simp only[bG8];have hk:=bF6 hk;intro Q hq _;obtain⟨h1,h2⟩:=hs.alloc (x:= .rows (.op .nil []) e ie.size (.int 0)) (p:=none) (hp':=hp) (bH4 _) (fun _ _=>rfl) (.inr ⟨rfl,_,_,_,_,rfl,rfl,hk,bL5 0⟩)
   have n:VD P U (put τ s.nx none) F (.sl s.nx ie.size (.int 0) (.int 0) .ge) (.slice none 0 0):= .sl0 s.nx ie.size (.int 0) (.int 0) .ge (i6 _ _ _) rfl rfl (fun e he=>by cases he)
   obtain⟨w,s',q1,τ',F',hp',q2,o,q⟩:=aT5 (a:=a) D m d n (i.mono (R3 _ (hs.new _ (bH4 _))) (Fle.refl F)) h2 Q hq h2;exact⟨w,s',q1,τ',F',hp',h1.trans q2,o,q⟩
 ·rename_i b z off len a x
  obtain⟨r,j,rfl,v1,hl⟩:=hl.uncons;obtain⟨u,k,rfl,h,hl⟩:=hl.uncons;obtain⟨v,c,rfl,i,hl⟩:=hl.uncons;have:c=[]:=bF7 hl.1.symm;subst this;cases h;cases hk:Nat.beq ie.size z with
  |false=>exact OKh.fail
  |true=>
   simp only[bG8];have hk:=bF6 hk;subst hk;exact aT5 D m d v1 i hs
 ·exact OKh.fail
end
end Go.Sx
end PartSm442
noncomputable section PartSm443
namespace Go.Sx
open Go.Xe
section
variable {P :Program}{U:Nat->List Dat->Dat}{ov:FuncId->Option TypeId}
abbrev P7:=List (FuncId×(List SV->M SV))
variable (P U ov) in
def aD2 :P7->Prop
 | []=>True
 |p::xs=>(y8 P U ov p.2 p.1/\isT (ov p.1)=false)/\aD2 xs
variable (P U) in
def A9 (l:List (FuncId×Con)):P7->FuncId->Option (List SV->M SV)
 | [],g=>conP P U l g
 |p::xs,g=>bif Nat.beq p.1 g then some p.2 else A9 l xs g
theorem bd7 {l:List (FuncId×Con)}(a:M0 P U ov l):∀ {xs:P7},aD2 P U ov xs-> ∀g k,A9 P U l xs g=some k->y8 P U ov k g
 | [],_,g,k,hk=>by
  unfold A9 conP at hk;cases h:aj1 P U l g with
  |none=>rw[h]at hk;cases hk
  |some k0=>
   rw[h]at hk;cases hk;exact bu0 (aO8 a g k0 h)
 |p::xs,hx,g,k,hk=>by
  unfold A9 at hk;cases hb:Nat.beq p.1 g with
  |true=>
   rw[hb,bG8,bF1]at hk;rw[<-hk,<-bF6 hb];exact hx.1.1
  |false=>rw[hb,bG9]at hk;exact bd7 a hx.2 g k hk
theorem aF0 {l:List (FuncId×Con)}:∀ {xs:P7},aD2 P U ov xs-> ∀g,isT (ov g)=true->A9 P U l xs g=none->aj1 P U l g=none
 | [],_,g,_,hn=>by
  unfold A9 conP at hn;cases h:aj1 P U l g with
  |none=>rfl
  |some k0=>rw[h]at hn;cases hn
 |p::xs,hx,g,a,hn=>by
  unfold A9 at hn;cases hb:Nat.beq p.1 g with
  |true=>rw[hb,bG8]at hn;cases hn
  |false=>rw[hb,bG9]at hn;exact aF0 hx.2 g a hn
variable {l:List (FuncId×Con)}{xs:P7}{g:FuncId}
theorem i3 (   a : FuncId → List (Nat × (Fm → SS → M1)))  ( e : M0 P U ov l)  (hx : aD2 P U ov xs) (n : Nat)  {c : Con} {V : Prop} (he : (cvc P U c (sxF P U    a (A9 P U l xs) n g)).vc U (fun _ => True) = V) ( f : V)
  (d:∀g,isT (ov g)=true->aj1 P U l g≠none:=by exact noT) (b:isT (ov g)=false:=by rfl):i7 P U ov c g:=
 aH5 (bE6 a (con:=A9 P U l xs) (bd7 e hx) (fun g b hn=>d g b (aF0 hx g b hn)) n g b) (he.symm▸f)
theorem K5 (   a : FuncId → List (Nat × (Fm → SS → M1)))  ( e : M0 P U ov l)  (hx : aD2 P U ov xs) (m : Nat)  {c : Con} (mu : List Dat → Nat) {V : Nat → Prop}
  (he:∀n,(cvc P U (c.below mu (n+1)) (sxF P U a (A9 P U ((g,c.below mu n)::l) xs) m g)).vc U (fun _=>True)=V n) (h:∀n,V n)
  (d:∀n,∀b,isT (ov b)=true->aj1 P U ((g,c.below mu n)::l) b≠none) (f:isT (ov g)=false:=by rfl):i7 P U ov c g:=
 aZ9 fun n hn=>i3 a (l:=(g,c.below mu n)::l) ⟨hn,e⟩ hx m (he n) (h n) (d n) f
end
end Go.Sx
end PartSm443
set_option linter.unusedVariables false
noncomputable section PartSm445
namespace Go.Sx
open Go.Xe
mutual
def aR1 (n:Nat):SV->Bool
 | .any=>true
 | .int _ _=>true
 | .bool _=>true
 | .str _=>true
 | .nilp=>true
 | .nils=>true
 | .sl _ _ _ _ _=>true
 | .agg l=>noFvs n l
 | .tup l=>noFvs n l
 |_=>false
def noFvs (n:Nat):List SV->Bool
 | []=>true
 |a::l=>aR1 n a&&noFvs n l
end
theorem ao2 {n:Nat}:∀ {l:List SV},noFvs n l=true-> ∀ {i:Nat} {a:SV},l[i]? =some a->aR1 n a=true
 | [],_,i,a,h=>by simp at h
 |b::l,h,0,a,c=>by
  unfold noFvs at h;rw[bF2]at h;simp only[bG7,bF1]at c;rw[<-c];exact h.1
 |b::l,h,i+1,a,c=>by
  unfold noFvs at h;rw[bF2]at h;exact ao2 h.2 (by simpa using c)
section
variable {P :Program}{U:Nat->List Dat->Dat}{ov:FuncId->Option TypeId}
theorem VD.noF {n:Nat}{τ:Tau}{F F':Nat->Option Blk}{a:SV}{v:Value}(h:VD P U τ F a v)(hn:aR1 n a=true):VD P U τ F' a v:=by
 induction h with
 |any v=>exact .any v
 |int k e=>exact .int k e
 |bool e=>exact .bool e
 |str e=>exact .str e
 |nilp=>exact .nilp
 |nils=>exact .nils
 |sl b z off len cap i o c k h0 h1 hc=>exact .sl b z off len cap i o c k h0 h1 hc
 |sl0 b z off len cap k h0 h1 hc=>exact .sl0 b z off len cap k h0 h1 hc
 |agg l xs h1 _ f=>exact .agg l xs h1 fun i a x d hx=>f i a x d hx (ao2 (by unfold aR1 at hn;exact hn) d)
 |tup l xs h1 _ f=>exact .tup l xs h1 fun i a x d hx=>f i a x d hx (ao2 (by unfold aR1 at hn;exact hn) d)
 |_=>simp[aR1]at hn
def ae5 (n:Nat):List (Nat×Option p7)->List (Nat×Option p7)
 | []=>[]
 |p::l=>bif Nat.ble n p.1 then p::ae5 n l else ae5 n l
theorem aK4 {n b:Nat}:∀ {l:List (Nat×Option p7)},lk (ae5 n l) b=if n<=b then lk l b else none
 | []=>by simp[ae5,lk]
 |p::l=>by
  unfold ae5;cases hc:Nat.ble n p.1 with
  |true=>
   rw[bG8,k9,k9,aK4];have:=bF5 hc
   by_cases e:p.1=b
   ·rw[bH3 e,bH3 e,bH3 (by omega)]
   ·rw[bH1 e,bH1 e]
  |false=>
   rw[bG9,aK4,k9]
   by_cases e:p.1=b
   ·rw[bH1 (fun h=>by rw[bF8 (by omega)]at hc;cases hc),bH1 (fun h=>by rw[bF8 (by omega)]at hc;cases hc)]
   ·rw[bH1 e]
def numB (P:Program)(p:Nat×Option p7):Bool:=match p.2 with
 |some (.rows _ _ _ _)=>true
 |some _=>false
 |none=>true
def aZ4 (P:Program):List (Nat×Option p7)->List E
 | []=>[]
 |p::l=>match p.2 with
  |some (.rows L e _ _)=>bif (kf P e).all aZ1 then aZ4 P l else L::aZ4 P l
  |_=>aZ4 P l
def br6 {α:Type}(t e:Tr α):List E->Tr α
 | []=>t
 |L::l=>.br (z8 (p8 L) (.int 0)) (br6 t e l) e
theorem aQ1 {α:Type}{t e:Tr α}{Q:α->Prop}:∀ {l:List E},(br6 t e l).vc U Q->((∀L∈l,L.toR U=[])/\t.vc U Q)\/e.vc U Q
 | [],h=>.inl ⟨fun L a=>by simp at a,h⟩
 |L::l,h=>by
  obtain⟨h1,h2⟩:=h
  by_cases hc:(z8 (p8 L) (.int 0)).pr U
  ·rcases aQ1 (h1 hc)with⟨h3,h4⟩|h3
   ·refine .inl ⟨fun M hM=>?_,h4⟩
    rcases bI9.1 hM with rfl|hM
    ·have:=N0 hc
     rw[d5,q7]at this;exact List.length_eq_zero_iff.1 (by omega)
    ·exact h3 M hM
   ·exact .inr h3
  ·exact .inr (h2 hc)
theorem aR6 {P:Program}{b e z:Nat}{L ph:E}:∀ {l:List (Nat×Option p7)},(b,some (.rows L e z ph))∈l->(kf P e).all aZ1=true\/L∈aZ4 P l
 |p::l,h=>by
  rcases bI9.1 h with rfl|h
  ·unfold aZ4
   cases hk:(kf P e).all aZ1 with
   |true=>exact .inl rfl
   |false=>simp[hk]
  ·rcases aR6 (P:=P) h with h|h
   ·exact .inl h
   ·right
    unfold aZ4;split
    ·rename_i a e' _ _ _
     cases(kf P e').all aZ1<;>simp[h]
    ·exact h
variable (P U) in
def br5 (c:Con)(s:SS)(r:SV×SS):Tr (SV×SS):=
 bif Nat.beq r.2.nx (s.nx+c.post.length+z9 c.outL)&&c.blks.isEmpty&&Nat.beq (z9 c.inL) 0&&aR1 0 r.1&&(ae5 s.nx (r.2.h.take (r.2.h.length-s.h.length))).all (numB P)then
  br6 (.ret (r.1,⟨ae5 s.nx (r.2.h.take (r.2.h.length-s.h.length))++s.h,r.2.nx,r.2.fc,r.2.fv,s.fz⟩)) (.ret r) (aZ4 P (ae5 s.nx (r.2.h.take (r.2.h.length-s.h.length))))
 else .ret r
variable (P U) in
def br1 (c:Con)(l:List SV):M SV:=fun s=>(br0 P U c l s).bind (br5 P c s)
theorem br2 {c : Con} {g : FuncId} (hg : i7 P U ov c g) : y8 P U ov (br1 P U c) g := by
 intro l args τ F s hp hl hs Q hq _;unfold br1 at hq;rw [Tr.vc_bind] at hq;have   ab : ∃ a s', Tr.vc U (br5 P c s (a, s')) Q ∧ ∃ τ1 F1 hp1 v, Ext τ F s hp τ1 F1 s' hp1 ∧ SD P U τ1 F1 s' hp1 ∧ aJ1 P ov g args hp v hp1 ∧ VD P U τ1 F1 a v ∧
   (c.blks=[]->z9 c.inL=0->s'.nx=s.nx+c.post.length+z9 c.outL->(∀i,i<hp.nx->hp1.m.get i=hp.m.get i)/\ ∀b i o,s.nx<=b->τ1 b=some (some (i,o))->hp.nx<=i):=by
  unfold br0 at hq;simp only[i9]at hq;cases V:aw9 c.args l with
  |none=>rw[V]at hq;exact hq.elim
  |some aq=>
  rw[V]at hq;simp only at hq;cases c2:c.find l s with
  |none=>rw[c2]at hq;exact hq.elim
  |some C=>
  rw[c2]at hq;simp only at hq;cases W:aw6 s c.blks C with
  |none=>rw[W]at hq;exact hq.elim
  |some ar=>
  rw[W]at hq;simp only at hq;obtain⟨Y,ay,az,ba⟩:=au4 V hl;obtain⟨au,R,D⟩:=au3 hs W;rw[p9]at hq;obtain⟨vs,s2,hq,ao,F2,bh,X,T,rfl,bi⟩:=ak3 c.inL (aq++ar) (Y++au) τ F s hp (ay.append R) hs _ hq hs;rw[p9]at hq;obtain⟨⟨es,u⟩,G,hq,o3,ad,bg⟩:=aK2 (P:=P) (τ:=ao) (F:=F2) C c.inL vs s2 _ hq T.fc;simp only[i9]at hq;cases K:C.all (aF9 G)&&ae3 (C++u)&&Nat.beq u.length (z9 c.inL)&&Nat.ble c.blks.length c.post.length with
  |false=>rw[K]at hq;exact hq.elim
  |true=>
  rw[K]at hq;simp only[bF2,bI1,bK5,bJ1]at K;obtain⟨⟨⟨k1,k2⟩,k3⟩,k4⟩:=K;have ak:=T.only o3 ad;have hm:=bg G o3.h;have H:=hm.len;have J:c.pre (l7 U (n8 c.inL) es):=hq.1;have A:∀b∈C,∃x,G.get b=some x:=fun b hb=>an8 (k1 b hb)
  have S:=D.mono X.t;obtain⟨g1,g2,g3⟩:=bq4 (fv:=(n8 c.inL).length) ak bi az S hm k2 A k3 (B9 (n8 c.inL) 0 es H);have N:VDL P U (at8 ao (C++u)) F2 (aP4 c (B8 U (n8 c.inL) 0 es)) args:=by
   obtain⟨w1,_⟩:=g2.split;have:=ba _ _ _ ((aj7 c (B8 U (n8 c.inL) 0 es)).drop Y.length) w1;rw[bO5]at this;exact this
  obtain⟨v,τ',F',s',hp',bv,Z,bt,M,nw,ap,r1,r2,r3,r4,r5,r6,r7,r8,r9,bj,bk,bm,bn,bp,bq⟩:=hg es H J _ F2 bh args g1 N;have w:=r8.len;have hQ:=ai6 (U:=U) _ _ _ (hq.2 J) M w (by rw[G5 _ _ _ w];exact bq)
  have be:∀b∈C++u,∃x,G.get b=some x:=fun b hb=>by
   rcases bI8.1 hb with h|h
   ·exact A b h
   ·obtain⟨k,hk⟩:=bK6.1 h
    exact hm.live hk
  obtain⟨f1,f2,f3⟩:=bq3 (U:=U) ak S.len.1 k3 be k2 g3 r2 r3 r4 r5 r7 r8 r9 bj bk bm bn bp (B9 (n8 c.outL) G.fv M w);refine⟨_,_,hQ,_,F',hp',v,(X.trans (Ext.only T o3)).trans f2,f1,r1,?_,fun O aa ah=>?_⟩
  ·obtain⟨w1,_⟩:=f3.split
   have:=r6 _ _ _ ((M5 c (B8 U (n8 c.outL) G.fv M) G C).drop Z.length) w1;rw[bO5]at this;exact this
  ·have hn:G.nx+(c.post.length-c.blks.length)+z9 c.outL=s.nx+c.post.length+z9 c.outL:=ah
   have ax:C=[]:=bF7 (by rw[S.len.1,O];rfl)
   have aw:u=[]:=bF7 (by rw[k3,aa])
   rw[O,bQ0,bN3]at hn;clear ah;subst ax;subst aw;have bu:G.nx=s.nx:=by omega
   obtain⟨E,_,a2,a3,_⟩:=r2.hh;have al:∀b x,(gst c (B8 U (n8 c.inL) 0 es) (n8 c.inL).length).get b=some x->False:=fun b x h=>by
    obtain⟨b',x',h1,_⟩:=g3 b x h;simp at h1
   refine⟨fun i hi=>a2 i hi fun b x o h _ _=>al b x h,fun b i o hb ht=>?_⟩
   unfold H9 at ht;rw[bH1 (by omega)]at ht
   split at ht
   ·rcases a3 _ i o (by show c.blks.length+z9 c.inL<=_;rw[O,aa];exact bO6 _) ht with h| ⟨b0,x,o0,h,_⟩
    ·exact h
    ·exact(al b0 x h).elim
   ·cases ht
 obtain⟨a,s1,hq,τ1,F1,hp1,v,ex,hs1,hx,hv,av⟩:=ab;unfold br5 at hq;cases hc:Nat.beq s1.nx (s.nx+c.post.length+z9 c.outL)&&c.blks.isEmpty&&Nat.beq (z9 c.inL) 0&&aR1 0 a&&(ae5 s.nx (s1.h.take (s1.h.length-s.h.length))).all (numB P)with
 |false=>rw[hc]at hq;exact⟨_,_,hq,τ1,F1,hp1,ex,hs1,v,hx,hv⟩
 |true=>
 rw[hc]at hq;simp only[bF2,bJ1,List.isEmpty_iff,bI1]at hc;obtain⟨⟨⟨⟨V,c2⟩,W⟩,c4⟩,K⟩:=hc;obtain⟨hA,hB⟩:=av c2 W V;obtain⟨E,a1,_⟩:=ex.hh;have bc:s1.h.take (s1.h.length-s.h.length)=E:=by
  rw[a1,bH8,Nat.add_sub_cancel,List.take_left'];rfl
 rw[bc]at hq K
 rcases aQ1 hq with⟨ac,hq⟩|hq
 rotate_left
 ·exact⟨_,_,hq,τ1,F1,hp1,ex,hs1,v,hx,hv⟩
 have get:∀b,(⟨ae5 s.nx E++s.h,s1.nx,s1.fc,s1.fv,s.fz⟩:SS).get b=if s.nx<=b then s1.get b else s.get b:=fun b=>by
  unfold SS.get;rw[a1,A0,A0,aK4]
  by_cases hb:s.nx<=b
  ·rw[bH3 hb,bH3 hb]
  ·rw[bH1 hb,bH1 hb]
 have lo:∀b x,b<s.nx->(⟨ae5 s.nx E++s.h,s1.nx,s1.fc,s1.fv,s.fz⟩:SS).get b=some x->s.get b=some x:=fun b x hb h=>by rw[get,bH1 (by omega)]at h;exact h
 have hi:∀b x,s.nx<=b->(⟨ae5 s.nx E++s.h,s1.nx,s1.fc,s1.fv,s.fz⟩:SS).get b=some x->s1.get b=some x:=fun b x hb h=>by rw[get,bH3 hb]at h;exact h
 have tl:∀b p,s.nx<=b->τ b=some p->False:=fun b p hb h=>by rw[hs.new b hb]at h;cases h
 refine⟨_,_,hq,τ1,F,hp1,⟨ex.t,Fle.refl F,ex.nx,ex.snx,ex.st,fun b x hb hlt=>⟨x,lo b x hlt hb⟩,⟨ae5 s.nx E,rfl,fun i bb _=>hA i bb,fun b i o hb ht=>.inl (hB b i o hb ht),fun i y _ hy=>.inl hy,fun _ i y hy=>hy⟩,ex.hf⟩,
  ⟨fun b x hb=>?_,fun b B x y i o j q hb D ai e1 e2=>?_,fun i b hF=>hs1.frz i b (ex.f i b hF),hs1.lt,fun i b hF=>hs1.flt i b (ex.f i b hF),hs1.new,hs1.fc,fun r hr=>(hs.fz r hr).mono ex.t (Fle.refl F)⟩,v,hx,hv.noF c4⟩
 ·by_cases hlt:s.nx<=b
  ·have R:=hi b x hlt hb
   have I:(b,some x)∈ae5 s.nx E:=by
    have h1:(match lk (ae5 s.nx E++s.h) b with|some x=>x|none=>none)=some x:=hb
    rw[A0]at h1;cases h2:lk (ae5 s.nx E) b with
    |some y=>
     rw[h2]at h1;have h1:y=some x:=h1;rw[<-h1];exact O5 h2
    |none=>
     rw[h2]at h1;exact absurd (hs.bound (show s.get b=some x from h1)) (by omega)
   have aj:=K _ I
   rcases hs1.live b x R with⟨i,o,y,p1,p2,p3,p4⟩|p
   ·cases x with
    |rows L e z ph=>
     obtain⟨cs,n,q1,⟨r1,r2,r3,r4⟩,q3⟩:=p4;refine .inl ⟨i,o,y,p1,p2,?_,cs,n,q1,⟨r1,r2,r3,fun r j row d hr hd=>?_⟩,q3⟩
     ·cases hF:F i with
      |none=>rfl
      |some y'=>rw[ex.f i y' hF]at p3;cases p3
     ·obtain⟨x,t1,t2⟩:=r4 r j row d hr hd
      rcases aR6 I with hk|hk
      ·exact⟨x,t1,fun kd ae=>(t2 kd ae).num (bI1.1 hk kd (bG1 ae))⟩
      ·rw[ac _ hk]at hr;simp at hr
    |_=>cases aj
   ·exact .inr p
  ·rcases hs.live b x (lo b x (by omega) hb)with⟨i,o,y,p1,p2,p3,p4⟩| ⟨p1,p2⟩
   ·exact .inl ⟨i,o,y,ex.t _ _ p1,by rw[hA i (hs.lt b i o p1)];exact p2,p3,p4.mono ex.t (Fle.refl F)⟩
   ·exact .inr ⟨ex.t _ _ p1,p2⟩
 ·have old:∀b i o,b<s.nx->τ1 b=some (some (i,o))->τ b=some (some (i,o)):=fun b i o hb h=>by rw[<-ex.st b hb];exact h
  by_cases h1:s.nx<=b
  ·by_cases h2:s.nx<=B
   ·exact hs1.inj b B x y i o j q (hi b x h1 hb) (hi B y h2 D) ai e1 e2
   ·have:=hB b i o h1 e1
    have:=hs.lt B j q (old B j q (by omega) e2)
    omega
  ·by_cases h2:s.nx<=B
   ·have:=hB B j q h2 e2
    have:=hs.lt b i o (old b i o (by omega) e1)
    omega
   ·exact hs.inj b B x y i o j q (lo b x (by omega) hb) (lo B y (by omega) D) ai (old b i o (by omega) e1) (old B j q (by omega) e2)
end
end Go.Sx
end PartSm445
