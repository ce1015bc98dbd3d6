/- The symbolic engine: Delete and Insert, parts 41, 42, 43, 45.
  Conditions: none. -/
import Derived.Test.YtcjhhnoaoldcmaaGreatXm4
set_option linter.unusedSimpArgs false
set_option linter.unusedVariables false
noncomputable section PartSm441
namespace Go.Sx
open Go.Xe
section
variable {P :Program}{U:Nat->List Dat->Dat}{τ:Tau}{F:Nat->Option Blk}{s:SS}{hp:Hp}
theorem SD.move2 (hs : SD P U τ F s hp) {b i o b2 i2 o2 : Nat} {x x2 x' : y4} (hb : s.get b = some x) (ht : τ b = some (some (i, o))) (hb2 : s.get b2 = some x2) (ht2 : τ b2 = some (some (i2, o2))) (_ : b2 ≠ b) {hp' : Hp} (hn : hp.nx ≤ hp'.nx) (hk : ∀ j, j < hp.nx → j ≠ i → j ≠ i2 → hp'.m.get j = hp.m.get j) {j q : Nat} (hj : j = i ∨ hp.nx ≤ j) (hj' : j < hp'.nx)
  {y:Blk} (hi:hp'.m.get j=some y) (hd:BD P U (put τ s.nx (some (j,q))) F q x' y):
  Ext τ F s hp (put τ s.nx (some (j,q))) F (ac3 ((s.set b none).set b2 none) x') hp'/\SD P U (put τ s.nx (some (j,q))) F (ac3 ((s.set b none).set b2 none) x') hp':=by
 have h0:τ s.nx=none:=hs.new _ (bK2 _);have hle:=V0 (τ:=τ) (some (j,q)) h0;have hlt:b<s.nx:=hs.bound hb;have hlt2:b2<s.nx:=hs.bound hb2;have hil:i<hp.nx:=hs.lt b i o ht;have fz:∀ {b i o x},s.get b=some x->τ b=some (some (i,o))->F i=none:=by
  intro b i o x hb ht
  rcases hs.live b x hb with⟨i',o',y',h1,_,h3,_⟩| ⟨h1,_⟩
  ·grind
  ·grind
 have fi:=fz hb ht;have fi2:=fz hb2 ht2;have fj:F j=none:=by
  rcases hj with rfl|hj
  ·exact fi
  ·cases hF:F j with
   |none=>rfl
   |some w=>exact absurd (hs.flt j w hF) (by omega)
 have gt:∀c,(ac3 ((s.set b none).set b2 none) x').get c=if c=s.nx then some x' else if c=b2 then none else if c=b then none else s.get c:=by
  intro c;rw[ae5,SS.get_set,SS.get_set];rfl
 refine⟨⟨hle,Fle.refl F,hn,by simp[ac3,SS.set],fun c hc=>y7 τ _ (by omega),fun c y hc hlt=>?_,⟨[(s.nx,some x'),(b2,none),(b,none)],rfl,fun k hk' hnl=>hk k hk' (fun e=>hnl b x o hb (by rw[e];exact ht) (by simp)) (fun e=>hnl b2 x2 o2 hb2 (by rw[e];exact ht2) (by simp)),fun c k r hc h=>?_,fun _ _ _ h=>.inl h,fun _ _ _ h=>h⟩,⟨[],rfl⟩⟩,?_⟩
 ·grind
 ·by_cases e:c=s.nx
  ·subst e;rw[l8]at h;simp only[bH9,bI1]at h
   grind
  ·rw[y7 τ _ e,hs.new c hc]at h;cases h
 ·have inv : ∀ c z, (ac3 ((s.set b none).set b2 none) x').get c = some z → c ≠ s.nx → c ≠ b ∧ c ≠ b2 ∧ s.get c = some z := by
   grind
  have apart:∀c z k r,c≠b->s.get c=some z->τ c=some (some (k,r))->k≠j:=by
   intro c z k r e hc h ek;subst ek
   rcases hj with rfl|hj
   ·exact hs.inj c b z x _ r _ o hc hb e h ht rfl
   ·have:=hs.lt c _ r h;omega
  refine⟨fun c z hc=>?_,fun c d y z k r k' r' hc hd' hne e1 e2=>?_,fun k y hk'=>?_,fun c k r h=>?_,fun k y h=>bN2 (hs.flt k y h) hn,fun c hc=>?_,hs.fc,fun r hr=>(hs.fz r hr).mono hle (Fle.refl F)⟩
  ·by_cases e:c=s.nx
   ·subst e
    rw[gt,bK1 rfl,bH9]at hc;subst hc;exact .inl ⟨j,q,y,l8 _ _ _,hi,fj,hd⟩
   ·obtain⟨e',e2',hc'⟩:=inv c z hc e
    rcases hs.live c z hc' with⟨k,r,y',h1,h2,h3,h4⟩| ⟨h1,h2⟩
    ·refine .inl ⟨k,r,y',by rw[y7 τ _ e];exact h1,?_,h3,h4.mono hle (Fle.refl F)⟩
     rw[hk k (hs.lt c k r h1) ?_ ?_];exact h2
     ·intro ek;subst ek
      exact hs.inj c b z x _ r _ o hc' hb e' h1 ht rfl
     ·intro ek;subst ek
      exact hs.inj c b2 z x2 _ r _ o2 hc' hb2 e2' h1 ht2 rfl
    ·exact .inr ⟨by rw[y7 τ _ e];exact h1,h2⟩
  ·by_cases ec:c=s.nx
   ·subst ec
    have ed:d≠s.nx:=fun h=>hne h.symm
    rw[l8]at e1;simp only[bH9,bI1]at e1;obtain⟨rfl,_⟩:=e1;obtain⟨e',_,hd''⟩:=inv d z hd' ed;rw[y7 τ _ ed]at e2
    grind
   ·obtain⟨e',_,hc'⟩:=inv c y hc ec
    rw[y7 τ _ ec]at e1
    by_cases ed:d=s.nx
    ·subst ed
     rw[l8]at e2;simp only[bH9,bI1]at e2
     grind
    ·obtain⟨e'',_,hd''⟩:=inv d z hd' ed
     rw[y7 τ _ ed]at e2;exact hs.inj c d y z k r k' r' hc' hd'' hne e1 e2
  ·rw[hk k (hs.flt k y hk') (fun e=>by rw[e,fi]at hk';cases hk') (fun e=>by rw[e,fi2]at hk';cases hk')];exact hs.frz k y hk'
  ·by_cases e:c=s.nx
   ·subst e;rw[l8]at h;simp only[bH9,bI1]at h
    grind
   ·rw[y7 τ _ e]at h;exact bN2 (hs.lt c k r h) hn
  ·have:s.nx+1<=c:=hc
   rw[y7 τ _ (by omega)];exact hs.new c (by omega)
end
section
variable (P :Program)(U:Nat->List Dat->Dat)
def sdel (e size : Nat) (args : List SV) : M SV := match args with
 | [.sl b z off len .ge, .int .i64 a, .int .i64 c] => a8 (aB2 P b) fun _ => m9 fun s => match s.get b with
  | some (.rows L e' z' _) => bif Nat.beq e e' && Nat.beq size z && Nat.beq size z' && Nat.beq size (kf P e).length then
    a8 (j7 U (u5 (v6 (y6 L) (t9 off len)))) fun _=>a8 (j7 U (u5 (v6 a (.int 0)))) fun _=>a8 (j7 U (v6 a c)) fun _=>a8 (j7 U (u5 (v6 len c))) fun _=>
    a8 (O9 U L off a) fun A=>a8 (O9 U L (t9 off c) (I0 len c)) fun B=>smove e size b (.rows (D6 A B)) (t9 a (I0 len c)) .ge
   else a7 "delete: type"
  |_=>a7 "delete: block"
 |_=>a7 "delete: arguments"
def smove2 (e size b b2:Nat)(x:Src)(len:E)(cp:Cp):M SV:=fun s=>.ret (.sl s.nx size (.int 0) len cp,ac3 ((s.set b none).set b2 none) (x.blk e size))
def isCR :Option y4->Bool
 |some (.cells _ _ _)=>true
 |some (.rows _ _ _ _)=>true
 |_=>false
def bj2 (e size b : Nat) (off len a : E) (x : SV) : M SV := match x with
 | .sl b2 _ _ _ _ => bif Nat.beq b2 b then a7 "insert: the same block" else a8 (ssrc P U e size x) fun src => bif src.one then a8 (bz4 P U e size src) fun Ln => a8 (aB2 P b) fun _ => m9 fun s => match s.get b with
  | some (.rows L e' z' _) => bif Nat.beq e e' && Nat.beq size z' && Nat.beq size (kf P e).length && isCR (s.get b2) then
    a8 (j7 U (E5 (y6 Ln) (.int 1))) fun _=>a8 (j7 U (u5 (v6 (y6 L) (t9 off len)))) fun _=>a8 (j7 U (u5 (v6 a (.int 0)))) fun _=>a8 (j7 U (u5 (v6 len a))) fun _=>a8 (j7 U (v6 len (.int 67108864))) fun _=>
    a8 (O9 U L off a) fun A=>a8 (O9 U L (t9 off a) (I0 len a)) fun B=>smove2 e size b b2 (.rows (D6 (D6 A Ln) B)) (t9 len (.int 1)) .ge
   else a7 "insert: type"
  |_=>a7 "insert: block"
  else a7 "insert: cells"
 |_=>a7 "insert: element"
def sins (e size:Nat)(args:List SV):M SV:=match args with
 | [.nils,.int .i64 a,x]=>bif Nat.beq size (kf P e).length then a8 (V3 (.rows (.op .nil []) e size (.int 0))) fun b=>bj2 P U e size b (.int 0) (.int 0) a x else a7 "insert: size"
 | [.sl b z off len .ge,.int .i64 a,x]=>bif Nat.beq size z then bj2 P U e size b off len a x else a7 "insert: size"
 |_=>a7 "insert: arguments"
end
section
variable {P :Program}{U:Nat->List Dat->Dat}{ov:FuncId->Option TypeId}
theorem bg5 (n:Nat):(exec P ov n).ov=ov:=by cases n<;>rfl
theorem aQ1 {C:d8->Prop}(hC:∀n,C (exec P ov n)){g:FuncId}(hg:isT (ov g)=false){args:List Value}{hp:Hp}{v:Value}{hp':Hp}(h:aH1 P C g args hp v hp'):aL7 P ov g args hp v hp':=by
 obtain⟨m0,h⟩:=h;refine⟨m0+1,fun n hn=>?_⟩
 obtain⟨k,rfl⟩:∃k,n=k+1:=⟨n-1,by omega⟩
 show(bif isT (ov g)&&args.isEmpty then some (.bool true,hp)else av9 (W8 P (u7 P) (exec P ov k) (aa0 P (u7 P) (exec P ov k) k) k g) args hp)=_
 grind
variable {τ :Tau}{F:Nat->Option Blk}{s:SS}{hp:Hp}
theorem bl9 {c:T Value}{o n:Nat}{a b:List Value}(h:n9 c o n=some a)(k:n9 c o n=some b):a=b:=bK5 (h.symm.trans k)
theorem Z2 {e z o n : Nat} {cs : T Value} {rows : Rows} (hr : y9 P F e z o n cs rows) {off len a m : Int} (h0 : 0 ≤ off) (ha : 0 ≤ a) (hm : 0 ≤ m) (ham : a + m ≤ len) (h2 : off + len ≤ rows.length) {L : E} (hL : L.toR U = part rows (off + a) m) {olds : List Value} (hl : n9 cs (o + off.toNat * z) (len.toNat * z) = some olds) :
  l9 P U τ F e z (.rows L) ((olds.drop (a.toNat*z)).take (m.toNat*z)):=by
 obtain⟨vs,v1,_,v3,_⟩:=D0 (τ:=τ) hr (show 0<=off+a by omega) hm (by omega) hL
 have h3:=W2 hl (a:=a.toNat*z) (m:=m.toNat*z) (by rw[<-bL5];exact bJ2 _ (by omega))
 rw[show o+off.toNat*z+a.toNat*z=o+(off+a).toNat*z by rw[bN9,<-bL5];congr 2;omega]at h3
 rw[bl9 h3 v1];exact v3
theorem bc7 {g:FuncId}{ρ:Go.Shelf.Ren}{e:TypeId}{ie:TypeInfo}{zv:Value}(D:bf8 P g ρ e ie zv)(hg:isT (ov g)=false):B7 P U ov (sdel P U e ie.size) g:=by
 intro l args τ F s hp hl hs;unfold sdel;split
 ·rename_i b z off len a c
  obtain⟨y1,ys1,rfl,v1,hl⟩:=hl.uncons;obtain⟨y2,ys2,rfl,v2,hl⟩:=hl.uncons;obtain⟨y3,ys3,rfl,v3,hl⟩:=hl.uncons;have:ys3=[]:=bI5 hl.1.symm;subst this;cases v2;cases v3;refine(ad6 hs).bind fun _ τ1 F1 s1 hp1 ex hs1 ⟨e1,e2,e3⟩=>OKh.read ?_
  subst e1;subst e2;subst e3;split
  ·rename_i L e' z' ph hb
   cases hq:Nat.beq e e'&&Nat.beq ie.size z&&Nat.beq ie.size z'&&Nat.beq ie.size (kf P e).length with
   |false=>exact OKh.fail
   |true=>
    simp only[bJ6];simp only[bI0,bL9]at hq;obtain⟨⟨⟨rfl,hz⟩,hz'⟩,hkf⟩:=hq;refine OKh.bindp OKp.need fun _ s2 o2 hs2 p1=>OKh.bindp OKp.need fun _ s3 o3 hs3 p2=>OKh.bindp OKp.need fun _ s4 o4 hs4 p3=>OKh.bindp OKp.need fun _ s5 o5 hs5 p4=>OKh.bindp z6 fun A s6 o6 hs6 hA=>OKh.bindp z6 fun B s7 o7 hs7 hB=>?_
    have p1:=w9 p1;have p2:=P4 p2;have p3:=A5 p3;have p4:=w9 p4;rw[f8,d9]at p1;rw[f8,p8]at hB;have hb7:s7.get b=some (.rows L e z' ph):=by rw[o7.get,o6.get,o5.get,o4.get,o3.get,o2.get];exact hb
    have hAR:A.toR U=part (L.toR U) (off.toI U) (a.toI U):=by show(A.den U).rows=_;rw[hA];rfl
    have hBR:B.toR U=part (L.toR U) (off.toI U+c.toI U) (len.toI U-c.toI U):=by show(B.den U).rows=_;rw[hB];rfl
    cases v1 with
    |sl0 _ _ _ _ _ hτ h0 h1 hc=>omega
    |sl _ _ _ _ _ i o cc hτ h0 h1 hc=>
    obtain⟨lo,rfl,c1,c2⟩:=hc
    rcases hs7.live b _ hb7 with⟨i',o',y,k1,k2,kF,cs,k,rfl,k4,k5⟩| ⟨k1,_⟩
    ·rw[hτ]at k1;simp only[bH9,bI1]at k1;obtain⟨rfl,rfl⟩:=k1
     subst hz;subst hz';obtain⟨olds,w1,w2,w3,w4⟩:=D0 (τ:=τ1) (off:=off.toI U) (len:=len.toI U) (L:= .op .part [L,off,len]) k4 h0 h1 p1 rfl;have hone:olds.all Value.oneCell'=true:=w3.ones rfl;have ea:a.toI U=((a.toN U:Nat):Int):=by grind
     have ec:c.toI U=((c.toN U:Nat):Int):=by grind
     have el:len.toI U=((len.toN U:Nat):Int):=by grind
     obtain⟨v,hp',r1,⟨⟨bb,q,lo',ct,kk,rfl,n2,n3,n4,n5,n6,n7⟩,nnx,nold⟩⟩:=bq0 (C:=fun _=>True) (hp:=hp1) D (i:=i) (o:=o+off.toN U*ie.size) (n:=len.toN U) (lo:=lo) (a:=a.toN U) (b:=c.toN U) (Nat.max_le.2 ⟨c1,by omega⟩) (by omega) (by omega) (hs7.lt b i o hτ) k2 w2 w1 hone
     have hrun:=aQ1 (ov:=ov) (fun _=>trivial) hg r1
     rw[<-ea,<-ec]at hrun;have hlenN:(t9 a (I0 len c)).toI U=((a.toN U+(len.toN U-c.toN U):Nat):Int):=by rw[f8,p8];omega
     have hVl:=(j9 n7).1;refine(OKh.smove (x':= .rows (D6 A B)) (cp:= .ge) (hp1:=hp') (j:=bb) (q:=q) (n:=a.toN U+(len.toN U-c.toN U)) (c:=c7 lo' 0) hb7 hτ nnx (fun x hx hxi=>nold x hx hxi (fun h=>h)) n3 n4 n5 (fun τ' hτ'=>?_) hlenN ⟨lo',rfl,n2,by rw[hlenN];omega⟩ hs7).mono fun w τ' F' hp2 _ _ ⟨q1,q2⟩=>⟨_,by rw[q1];exact hrun,q2⟩
     refine al0 (vs:=olds.take (a.toN U*ie.size)++olds.drop (c.toN U*ie.size)) ?_ (fun y v hy=>?_) (by rw[hVl];exact n6)
     ·refine l9.mono hτ' (Fle.refl _) (l9.app ?_ ?_)
      ·have:=Z2 (τ:=τ1) k4 h0 (bO3 0) (show 0<=a.toI U by omega) (show 0+a.toI U<=len.toI U by omega) p1 (L:=A) (by rw[hAR];congr 1;omega) w1
       grind
      ·have:=Z2 (τ:=τ1) k4 h0 (show 0<=c.toI U by omega) (show 0<=len.toI U-c.toI U by omega) (show c.toI U+(len.toI U-c.toI U)<=len.toI U by omega) p1 (L:=B) hBR w1
       rw[bM8 (by rw[bN1,w4,<-Nat.sub_mul];exact bJ2 _ (by omega))]at this
       exact this
     ·have hyl:y<(a.toN U+(len.toN U-c.toN U))*ie.size:=by rw[<-hVl];exact(bI2.1 hy).1
      rw[<-(j9 n7).2 y hyl];exact hy
    ·grind
  ·exact OKh.fail
 ·exact OKh.fail
end
end Go.Sx
end PartSm441
noncomputable section PartSm442
namespace Go.Sx
open Go.Xe
section
variable {P :Program}{U:Nat->List Dat->Dat}{ov:FuncId->Option TypeId}{τ:Tau}{F:Nat->Option Blk}{s:SS}{hp:Hp}
theorem OKh.smove2 {e size b i o b2 i2 o2 j q n c : Nat} {x x2 : y4} {x' : Src} {len : E} {cp : Cp} (hb : s.get b = some x) (ht : τ b = some (some (i, o))) (hb2 : s.get b2 = some x2) (ht2 : τ b2 = some (some (i2, o2))) (hbb : b2 ≠ b) {hp1 : Hp} (hn : hp.nx ≤ hp1.nx) (hk : ∀ k, k < hp.nx → k ≠ i → k ≠ i2 → hp1.m.get k = hp.m.get k) (hj : j = i ∨ hp.nx ≤ j) (hj' : j < hp1.nx)
  {y:Blk} (hi:hp1.m.get j=some y) (hd:∀τ',Tle τ τ'->BD P U τ' F q (x'.blk e size) y) (hlen:len.toI U=n) (hc:az5 U len cp c) (hs:SD P U τ F s hp):
  OKh P U (smove2 e size b b2 x' len cp) τ F s hp fun a τ' F' hp'=>hp'=hp1/\VD P U τ' F' a (.slice (some ⟨j,q,none⟩) n c):=by
 intro Q hq _;have h0:τ s.nx=none:=hs.new _ (bK2 _);obtain⟨h1,h2⟩:=hs.move2 (x':=x'.blk e size) (q:=q) hb ht hb2 ht2 hbb hn hk hj hj' hi (hd _ (V0 _ h0));refine⟨_,_,hq,_,F,hp1,h1,h2,rfl,?_⟩;exact VD.sl' (l8 _ _ _) (bO3 0) (by rw[hlen];omega) hc (by show q=q+(0:Int).toNat*size;simp) (ar9 hlen).symm
theorem aS7 {s:SS}{b:Nat}(h:isCR (s.get b)=true):(∃l e z,s.get b=some (.cells l e z))\/ ∃L e z ph,s.get b=some (.rows L e z ph):=by
 unfold isCR at h
 grind
theorem aE6 {hp:Hp}{size n m c:Nat}{a:Option Addr}{vs:List Value}(h:v7 hp size (.slice a n c)=some (m,vs)):m=n:=by
 unfold v7 at h;split at h
 ·rename_i n' _ hh
  cases hh;cases hb:Nat.beq n 0 with
  |false=>grind
  |true=>simp_all
 ·grind
 ·grind
 ·cases h
theorem aW1 {g : FuncId} {ρ : Go.Shelf.Ren} {e : TypeId} {ie : TypeInfo} {zv : Value} (D : ah6 P g ρ e ie zv) (hg : isT (ov g) = false) (hov : ov (ρ.f 27) = some (ρ.t 22)) {b : Nat} {off len a : E} {x : SV} {v1 v3 : Value}
  (h1:VD P U τ F (.sl b ie.size off len .ge) v1) (h3:VD P U τ F x v3) (hs:SD P U τ F s hp):
  OKh P U (bj2 P U e ie.size b off len a x) τ F s hp fun w τ' F' hp'=>∃v,aL7 P ov g [v1,.int .i64 (a.toI U),v3] hp v hp'/\VD P U τ' F' w v:=by
 unfold bj2;split
 ·rename_i b2 z2 off2 len2 cap2
  cases hbb:Nat.beq b2 b with
  |true=>exact OKh.fail
  |false=>
  have hbb:b2≠b:=fun h=>by rw[h,t7 rfl]at hbb;cases hbb
  simp only[bJ7];refine OKh.bindp (bj7 D.sz h3 hs) fun src s1 o1 hs1 ⟨n,news,x1,x2,x3,x4⟩=>?_
  cases hone:src.one with
  |false=>exact OKh.fail
  |true=>
  simp only[bJ6];have hn1:=x2.ones hone;refine(aO5 x2 hs1).bind fun Ln τ1 F1 s2 hp1 ex hs2 ⟨e1,e2,hLn⟩=>?_
  subst e1;subst e2;refine(ad6 hs2).bind fun _ τ2 F2 s3 hp2 ex2 hs3 ⟨e1,e2,e3⟩=>OKh.read ?_
  subst e1;subst e2;subst e3;have h1:=h1.mono (Tle.refl τ2) ex.f;have h3:=h3.mono (Tle.refl τ2) ex.f;split
  ·rename_i L e' z' ph hb
   cases hq:Nat.beq e e'&&Nat.beq ie.size z'&&Nat.beq ie.size (kf P e).length&&isCR (s3.get b2)with
   |false=>exact OKh.fail
   |true=>
    simp only[bJ6];simp only[bI0,bL9]at hq;obtain⟨⟨⟨rfl,hz'⟩,hkf⟩,hcr⟩:=hq;refine OKh.bindp OKp.need fun _ s4 o4 hs4 p0=>OKh.bindp OKp.need fun _ s5 o5 hs5 p1=>OKh.bindp OKp.need fun _ s6 o6 hs6 p2=>OKh.bindp OKp.need fun _ s7 o7 hs7 p3=>OKh.bindp OKp.need fun _ s8 o8 hs8 p4=>
     OKh.bindp z6 fun A s9 o9 hs9 hA=>OKh.bindp z6 fun B sA oA hsA hB=>?_
    have p0:(y6 Ln).toI U=1:=by have:=(E.pr_iff U _).1 p0;rw[F8]at this;exact bP8 this
    have p1:=w9 p1;have p2:=P4 p2;have p3:=w9 p3;have p4:=A5 p4;simp only[z8]at p4;rw[f8,d9]at p1;rw[d9]at p0;rw[f8,p8]at hB;have gets:∀c,sA.get c=s3.get c:=fun c=>by rw[oA.get,o9.get,o8.get,o7.get,o6.get,o5.get,o4.get]
    have hbA:sA.get b=some (.rows L e z' ph):=by grind
    have hLn:=hLn hkf;have hcnt:=al7 D.sz hLn x3;have hn:n=1:=by omega
    subst hn;have hnl:news.length=ie.size:=by grind
    have hAR:A.toR U=part (L.toR U) (off.toI U) (a.toI U):=by show(A.den U).rows=_;rw[hA];rfl
    have hBR:B.toR U=part (L.toR U) (off.toI U+a.toI U) (len.toI U-a.toI U):=by show(B.den U).rows=_;rw[hB];rfl
    have ea:a.toI U=((a.toN U:Nat):Int):=by grind
    have hlenN:∀m:Nat,len.toI U=(m:Int)->(t9 len (.int 1)).toI U=((m+1:Nat):Int):=fun m hm=>by rw[f8,z8,hm];rfl
    cases h3 with
    |sl0 _ _ _ _ _ hτ2 _ _ _=>exact absurd (aE6 x1) (by omega)
    |sl _ _ _ _ _ j oj cm hτ2 g0 g1 gc=>
    have hm1:=aE6 x1;have hv3:∃q,(Value.slice (some ⟨j,oj+off2.toN U*z2,none⟩) (len2.toN U) cm)= .slice (some ⟨j,q,none⟩) 1 cm:=⟨_,by rw[<-hm1]⟩
    obtain⟨q,hv3⟩:=hv3;rw[hv3]at x1⊢;have hb2:∃xx,sA.get b2=some xx:=by
     rw[gets]
     rcases aS7 hcr with⟨_,_,_,h⟩| ⟨_,_,_,_,h⟩<;>exact⟨_,h⟩
    obtain⟨xx,hb2⟩:=hb2;have hjc:∃cj kj ej zj,hp2.m.get j=some (.cells cj kj ej zj):=by
     rcases hsA.live b2 _ hb2 with⟨i',o',y,k1,k2,_,k4⟩| ⟨k1,_⟩
     ·rw[hτ2]at k1;simp only[bH9,bI1]at k1;obtain⟨rfl,rfl⟩:=k1
      have:sA.get b2=s3.get b2:=gets b2
      rcases aS7 hcr with⟨l,ee,zz,h⟩| ⟨L',ee,zz,pp,h⟩
      ·rw[this,h,bH9]at hb2;subst hb2
       obtain⟨cs,nn,rfl,_⟩:=k4
       grind
      ·rw[this,h,bH9]at hb2;subst hb2
       obtain⟨cs,nn,rfl,_⟩:=k4
       grind
     ·grind
    obtain⟨cj,kj,ej,zj,hgj⟩:=hjc;cases h1 with
    |sl0 _ _ _ _ _ hτ h0 hl0 hc=>
     rcases hsA.live b _ hbA with⟨i',o',y,k1,_⟩| ⟨k1,L',e2,z2,ph',k2,k3,k4,k5⟩
     ·grind
     ·simp only[y4.rows.injEq]at k2
      obtain⟨rfl,rfl,rfl,rfl⟩:=k2;have ha0:a.toI U=0:=by omega
      obtain⟨v,hp',r1,rfl,rfl⟩:=bB0 (hp:=hp2) (C:=COv ρ) D x1;have hrun:=aQ1 (ov:=ov) (fun k=>by unfold COv;rw[bg5];exact hov) hg r1
      have hrun:aL7 P ov g [.slice none 0 0,.int .i64 (a.toI U),.slice (some ⟨j,q,none⟩) 1 cm] hp2 (.slice (some ⟨hp2.nx,0,none⟩) 1 (c7 1 0)) (hp2.new news e ie.size):=by grind
      have hA0:A.toR U=[]:=by rw[hAR,k3];simp[part]
      have hB0:B.toR U=[]:=by grind
      have hABR:(D6 (D6 A Ln) B).toR U=Ln.toR U:=by rw[N2,N2,hA0,hB0];simp
      have hcells:l9 P U τ2 F2 e ie.size (.rows (D6 (D6 A Ln) B)) news:=by
       obtain⟨c1,c2,c3,c4⟩:=hLn;exact⟨c1,by rw[hABR];exact c2,by rw[hABR];exact c3,by rw[hABR];exact c4⟩
      intro Q hq _;obtain⟨d1,d2⟩:=hsA.drop b;obtain⟨d3,d4⟩:=d2.drop b2;have hl1:(t9 len (.int 1)).toI U=((1:Nat):Int):=hlenN 0 hl0;obtain⟨f1,f2⟩:=d4.alloc (x:=(Src.rows (D6 (D6 A Ln) B)).blk e ie.size) (p:=some (hp2.nx,0)) (hp':=hp2.new news e ie.size) (bP4 _) (fun x hx=>by show(hp2.m.set _ _).get x=_;rw[T.get_set,bJ9 (by omega)])
       (.inl ⟨hp2.nx,0,_,rfl,bK2 _,bO0 _,by show(hp2.m.set _ _).get _=_;rw[T.get_set,bK1 rfl],al0 (hcells.mono (V0 _ (hsA.new _ (bK2 _))) (Fle.refl _)) (fun y v hy=>by rw[bL1];exact G2 news y v hy) (by omega)⟩)
      refine⟨_,_,hq,_,F2,_,(d1.trans d3).trans f1,f2,_,hrun,?_⟩;exact VD.sl' (l8 _ _ _) (bO3 0) (by rw[hl1];omega) (geN hl1 (by omega)) (aZ4 ie.size).symm (ar9 hl1).symm
    |sl _ _ _ _ _ i o cc hτ h0 hl0 hc=>
     obtain⟨lo,rfl,c1,c2⟩:=hc
     rcases hsA.live b _ hbA with⟨i',o',y,k1,k2,kF,cs,k,rfl,k4,k5⟩| ⟨k1,_⟩
     ·rw[hτ]at k1;simp only[bH9,bI1]at k1;obtain⟨rfl,rfl⟩:=k1
      subst hz';have hij:j≠i:=hsA.inj b2 b _ _ j oj i o hb2 hbA hbb hτ2 hτ;obtain⟨olds,w1,w2,w3,w4⟩:=D0 (τ:=τ2) (off:=off.toI U) (len:=len.toI U) (L:= .op .part [L,off,len]) k4 h0 hl0 p1 rfl;have honeO:olds.all Value.oneCell'=true:=w3.ones rfl;have el:len.toI U=((len.toN U:Nat):Int):=by show len.toI U=((len.toI U).toNat:Int);omega
      obtain⟨v,hp',r1,⟨⟨bb,q',lo',ct,kk,rfl,n2,n3,n4,n5,n6,n7⟩,nnx,nold⟩⟩:=bq2 (hp:=hp2) D (i:=i) (o:=o+off.toN U*ie.size) (n:=len.toN U) (lo:=lo) (at_:=a.toN U) (Nat.max_le.2 ⟨c1,by omega⟩) (by omega) (by omega) hij (hsA.lt b i o hτ) (hsA.lt b2 j oj hτ2) k2 hgj w2 w1 x1 hnl honeO hn1
      have hrun:=aQ1 (ov:=ov) (fun k=>by unfold COv;rw[bg5];exact hov) hg r1
      rw[<-ea]at hrun;have hl1:=hlenN _ el;have hVl:=(j9 n7).1;refine(OKh.smove2 (x':= .rows (D6 (D6 A Ln) B)) (cp:= .ge) (hp1:=hp') (j:=bb) (q:=q') (n:=len.toN U+1) (c:=c7 lo' 0) hbA hτ hb2 hτ2 hbb nnx (fun x hx hxi hxj=>nold x hx hxi hxj) n3 n4 n5 (fun τ' hτ'=>?_) hl1 ⟨lo',rfl,n2,by rw[hl1];omega⟩ hsA).mono fun w τ' F' hp3 _ _ ⟨q1,q2⟩=>⟨_,by rw[q1];exact hrun,q2⟩
      refine al0 (vs:=olds.take (a.toN U*ie.size)++news++olds.drop (a.toN U*ie.size)) ?_ (fun y v hy=>?_) (by rw[hVl];exact n6)
      ·refine l9.mono hτ' (Fle.refl _) (l9.app (l9.app ?_ hLn) ?_)
       ·have:=Z2 (τ:=τ2) k4 h0 (bO3 0) (show 0<=a.toI U by omega) (show 0+a.toI U<=len.toI U by omega) p1 (L:=A) (by rw[hAR];congr 1;omega) w1
        grind
       ·have:=Z2 (τ:=τ2) k4 h0 (show 0<=a.toI U by omega) (show 0<=len.toI U-a.toI U by omega) (show a.toI U+(len.toI U-a.toI U)<=len.toI U by omega) p1 (L:=B) hBR w1
        rw[bM8 (by rw[bN1,w4,<-Nat.sub_mul];exact bJ2 _ (by omega))]at this
        exact this
      ·have hyl:y<(len.toN U+1)*ie.size:=by rw[<-hVl];exact(bI2.1 hy).1
       rw[<-(j9 n7).2 y hyl];exact hy
     ·grind
  ·exact OKh.fail
 ·exact OKh.fail
theorem bd1 {g:FuncId}{ρ:Go.Shelf.Ren}{e:TypeId}{ie:TypeInfo}{zv:Value}(D:ah6 P g ρ e ie zv)(hg:isT (ov g)=false)(hov:ov (ρ.f 27)=some (ρ.t 22)):B7 P U ov (sins P U e ie.size) g:=by
 intro l args τ F s hp hl hs;unfold sins;split
 ·rename_i a x
  obtain⟨y1,ys1,rfl,v1,hl⟩:=hl.uncons;obtain⟨y2,ys2,rfl,v2,hl⟩:=hl.uncons;obtain⟨y3,ys3,rfl,v3,hl⟩:=hl.uncons;have:ys3=[]:=bI5 hl.1.symm;subst this;cases v2;cases v1;cases hk:Nat.beq ie.size (kf P e).length with
  |false=>exact OKh.fail
  |true=>
   simp only[bJ6];have hk:=bI4 hk;intro Q hq _;obtain⟨h1,h2⟩:=hs.alloc (x:= .rows (.op .nil []) e ie.size (.int 0)) (p:=none) (hp':=hp) (bK2 _) (fun _ _=>rfl) (.inr ⟨rfl,_,_,_,_,rfl,rfl,hk,bO3 0⟩)
   have hv:VD P U (put τ s.nx none) F (.sl s.nx ie.size (.int 0) (.int 0) .ge) (.slice none 0 0):= .sl0 s.nx ie.size (.int 0) (.int 0) .ge (l8 _ _ _) rfl rfl (fun e he=>by cases he)
   obtain⟨w,s',q1,τ',F',hp',q2,q3,q4⟩:=aW1 (a:=a) D hg hov hv (v3.mono (V0 _ (hs.new _ (bK2 _))) (Fle.refl F)) h2 Q hq h2;exact⟨w,s',q1,τ',F',hp',h1.trans q2,q3,q4⟩
 ·rename_i b z off len a x
  obtain⟨y1,ys1,rfl,v1,hl⟩:=hl.uncons;obtain⟨y2,ys2,rfl,v2,hl⟩:=hl.uncons;obtain⟨y3,ys3,rfl,v3,hl⟩:=hl.uncons;have:ys3=[]:=bI5 hl.1.symm;subst this;cases v2;cases hk:Nat.beq ie.size z with
  |false=>exact OKh.fail
  |true=>
   simp only[bJ6];have hk:=bI4 hk;subst hk;exact aW1 D hg hov v1 v3 hs
 ·exact OKh.fail
end
end Go.Sx
end PartSm442
noncomputable section PartSm443
namespace Go.Sx
open Go.Xe
section
variable {P :Program}{U:Nat->List Dat->Dat}{ov:FuncId->Option TypeId}
abbrev ab1:=List (FuncId×(List SV->M SV))
variable (P U ov) in
def aL5 :ab1->Prop
 | []=>True
 |p::xs=>(B7 P U ov p.2 p.1/\isT (ov p.1)=false)/\aL5 xs
variable (P U) in
def E0 (l:List (FuncId×Con)):ab1->FuncId->Option (List SV->M SV)
 | [],g=>conP P U l g
 |p::xs,g=>bif Nat.beq p.1 g then some p.2 else E0 l xs g
theorem bg2 {l:List (FuncId×Con)}(ha:P1 P U ov l):∀ {xs:ab1},aL5 P U ov xs-> ∀g k,E0 P U l xs g=some k->B7 P U ov k g
 | [],_,g,k,hk=>by
  unfold E0 conP at hk;cases h:al8 P U l g with
  |none=>rw[h]at hk;cases hk
  |some k0=>
   rw[h]at hk;cases hk;exact bw8 (aR6 ha g k0 h)
 |p::xs,hx,g,k,hk=>by
  unfold E0 at hk;cases hb:Nat.beq p.1 g with
  |true=>
   rw[hb,bJ6,bH9]at hk;rw[<-hk,<-bI4 hb];exact hx.1.1
  |false=>rw[hb,bJ7]at hk;exact bg2 ha hx.2 g k hk
theorem aH6 {l:List (FuncId×Con)}:∀ {xs:ab1},aL5 P U ov xs-> ∀g,isT (ov g)=true->E0 P U l xs g=none->al8 P U l g=none
 | [],_,g,_,hn=>by
  unfold E0 conP at hn;cases h:al8 P U l g with
  |none=>rfl
  |some k0=>rw[h]at hn;cases hn
 |p::xs,hx,g,hg,hn=>by
  unfold E0 at hn;cases hb:Nat.beq p.1 g with
  |true=>rw[hb,bJ6]at hn;cases hn
  |false=>rw[hb,bJ7]at hn;exact aH6 hx.2 g hg hn
theorem l7 (anns : FuncId → List (Nat × (Fm → SS → R9))) {l : List (FuncId × Con)} (ha : P1 P U ov l) {xs : ab1} (hx : aL5 P U ov xs) (n : Nat) {g : FuncId} {c : Con} {V : Prop} (he : (cvc P U c (sxF P U anns (E0 P U l xs) n g)).vc U (fun _ => True) = V) (hv : V)
  (hT:∀g,isT (ov g)=true->al8 P U l g≠none:=by exact noT) (hg:isT (ov g)=false:=by rfl):m8 P U ov c g:=
 aK0 (bH4 anns (con:=E0 P U l xs) (bg2 ha hx) (fun g hg hn=>hT g hg (aH6 hx g hg hn)) n g hg) (he.symm▸hv)
theorem N4 (anns : FuncId → List (Nat × (Fm → SS → R9))) {l : List (FuncId × Con)} (ha : P1 P U ov l) {xs : ab1} (hx : aL5 P U ov xs) (m : Nat) {g : FuncId} {c : Con} (mu : List Dat → Nat) {V : Nat → Prop}
  (he:∀n,(cvc P U (c.below mu (n+1)) (sxF P U anns (E0 P U ((g,c.below mu n)::l) xs) m g)).vc U (fun _=>True)=V n) (hv:∀n,V n)
  (hT:∀n,∀g',isT (ov g')=true->al8 P U ((g,c.below mu n)::l) g'≠none) (hg:isT (ov g)=false:=by rfl):m8 P U ov c g:=
 bc2 fun n hn=>l7 anns (l:=(g,c.below mu n)::l) ⟨hn,ha⟩ hx m (he n) (hv n) (hT n) hg
end
end Go.Sx
end PartSm443
set_option linter.unusedVariables false
noncomputable section PartSm445
namespace Go.Sx
open Go.Xe
mutual
def aT9 (n:Nat):SV->Bool
 | .any=>true
 | .int _ _=>true
 | .bool _=>true
 | .str _=>true
 | .nilp=>true
 | .nils=>true
 | .sl _ _ _ _ _=>true
 | .agg l=>noFvs n l
 | .tup l=>noFvs n l
 |_=>false
def noFvs (n:Nat):List SV->Bool
 | []=>true
 |a::l=>aT9 n a&&noFvs n l
end
theorem aq7 {n:Nat}:∀ {l:List SV},noFvs n l=true-> ∀ {i:Nat} {a:SV},l[i]? =some a->aT9 n a=true
 | [],_,i,a,h=>by simp at h
 |b::l,h,0,a,ha=>by
  unfold noFvs at h;rw[bI0]at h;simp only[bJ5,bH9]at ha;rw[<-ha];exact h.1
 |b::l,h,i+1,a,ha=>by
  unfold noFvs at h;rw[bI0]at h;exact aq7 h.2 (by simpa using ha)
section
variable {P :Program}{U:Nat->List Dat->Dat}{ov:FuncId->Option TypeId}
theorem VD.noF {n:Nat}{τ:Tau}{F F':Nat->Option Blk}{a:SV}{v:Value}(h:VD P U τ F a v)(hn:aT9 n a=true):VD P U τ F' a v:=by
 induction h with
 |any v=>exact .any v
 |int k e=>exact .int k e
 |bool e=>exact .bool e
 |str e=>exact .str e
 |nilp=>exact .nilp
 |nils=>exact .nils
 |sl b z off len cap i o c k h0 h1 hc=>exact .sl b z off len cap i o c k h0 h1 hc
 |sl0 b z off len cap k h0 h1 hc=>exact .sl0 b z off len cap k h0 h1 hc
 |agg l xs h1 _ ih=>exact .agg l xs h1 fun i a x ha hx=>ih i a x ha hx (aq7 (by unfold aT9 at hn;exact hn) ha)
 |tup l xs h1 _ ih=>exact .tup l xs h1 fun i a x ha hx=>ih i a x ha hx (aq7 (by unfold aT9 at hn;exact hn) ha)
 |_=>simp[aT9]at hn
def am8 (n:Nat):List (Nat×Option y4)->List (Nat×Option y4)
 | []=>[]
 |p::l=>bif Nat.ble n p.1 then p::am8 n l else am8 n l
theorem aN0 {n b:Nat}:∀ {l:List (Nat×Option y4)},lk (am8 n l) b=if n<=b then lk l b else none
 | []=>by simp[am8,lk]
 |p::l=>by
  unfold am8;cases hc:Nat.ble n p.1 with
  |true=>
   rw[bJ6,t8,t8,aN0];have:=bI3 hc
   by_cases e:p.1=b
   ·rw[bK1 e,bK1 e,bK1 (by omega)]
   ·rw[bJ9 e,bJ9 e]
  |false=>
   rw[bJ7,aN0,t8]
   by_cases e:p.1=b
   ·rw[bJ9 (fun h=>by rw[bI6 (by omega)]at hc;cases hc),bJ9 (fun h=>by rw[bI6 (by omega)]at hc;cases hc)]
   ·rw[bJ9 e]
def numB (P:Program)(p:Nat×Option y4):Bool:=match p.2 with
 |some (.rows _ e _ _)=>(kf P e).all numK
 |some _=>false
 |none=>true
variable (P U) in
def bu1 (c:Con)(s:SS)(r:SV×SS):Tr (SV×SS):=
 bif Nat.beq r.2.nx (s.nx+c.post.length+C4 c.outL)&&c.blks.isEmpty&&Nat.beq (C4 c.inL) 0&&aT9 0 r.1&&(am8 s.nx (r.2.h.take (r.2.h.length-s.h.length))).all (numB P)then
  .ret (r.1,⟨am8 s.nx (r.2.h.take (r.2.h.length-s.h.length))++s.h,r.2.nx,r.2.fc,r.2.fv,s.fz⟩)
 else .ret r
variable (P U) in
def bt7 (c:Con)(l:List SV):M SV:=fun s=>(bt6 P U c l s).bind (bu1 P c s)
theorem bt8 {c : Con} {g : FuncId} (hg : m8 P U ov c g) : B7 P U ov (bt7 P U c) g := by
 intro l args τ F s hp hl hs Q hq _;unfold bt7 at hq;rw [Tr.vc_bind] at hq;have hbig : ∃ a s', Tr.vc U (bu1 P c s (a, s')) Q ∧ ∃ τ1 F1 hp1 v, Ext τ F s hp τ1 F1 s' hp1 ∧ SD P U τ1 F1 s' hp1 ∧ aL7 P ov g args hp v hp1 ∧ VD P U τ1 F1 a v ∧
   (c.blks=[]->C4 c.inL=0->s'.nx=s.nx+c.post.length+C4 c.outL->(∀i,i<hp.nx->hp1.m.get i=hp.m.get i)/\ ∀b i o,s.nx<=b->τ1 b=some (some (i,o))->hp.nx<=i):=by
  unfold bt6 at hq;simp only[m9]at hq;cases c1:aA0 c.args l with
  |none=>rw[c1]at hq;exact hq.elim
  |some fl1=>
  rw[c1]at hq;simp only at hq;cases c2:c.find l s with
  |none=>rw[c2]at hq;exact hq.elim
  |some bl=>
  rw[c2]at hq;simp only at hq;cases c3:az7 s c.blks bl with
  |none=>rw[c3]at hq;exact hq.elim
  |some fl2=>
  rw[c3]at hq;simp only at hq;obtain⟨fx1,hf1,hf2,hf3⟩:=ax4 c1 hl;obtain⟨fx2,hb1,hb2⟩:=ax3 hs c3;rw[y5]at hq;obtain⟨vs,s2,hq,τ2,F2,hp2,ex2,hs2,rfl,hvs⟩:=am9 c.inL (fl1++fl2) (fx1++fx2) τ F s hp (hf1.append hb1) hs _ hq hs;rw[y5]at hq;obtain⟨⟨es,accs⟩,s3,hq,o3,hf3',hmt⟩:=aM8 (P:=P) (τ:=τ2) (F:=F2) bl c.inL vs s2 _ hq hs2.fc;simp only[m9]at hq;cases c5:bl.all (aI5 s3)&&ah1 (bl++accs)&&Nat.beq accs.length (C4 c.inL)&&Nat.ble c.blks.length c.post.length with
  |false=>rw[c5]at hq;exact hq.elim
  |true=>
  rw[c5]at hq;simp only[bI0,bK9,bN3,bL9]at c5;obtain⟨⟨⟨k1,k2⟩,k3⟩,k4⟩:=c5;have hs3:=hs2.only o3 hf3';have hm:=hmt s3 o3.h;have hlen:=hm.len;have hpre:c.pre (u6 U (v8 c.inL) es):=hq.1;have hlive:∀b∈bl,∃x,s3.get b=some x:=fun b hb=>aq3 (k1 b hb)
  have hb3:=hb2.mono ex2.t;obtain⟨g1,g2,g3⟩:=bt0 (fv:=(v8 c.inL).length) hs3 hvs hf2 hb3 hm k2 hlive k3 (E6 (v8 c.inL) 0 es hlen);have hargs:VDL P U (aw9 τ2 (bl++accs)) F2 (aS2 c (E4 U (v8 c.inL) 0 es)) args:=by
   obtain⟨w1,_⟩:=g2.split;have:=hf3 _ _ _ ((am4 c (E4 U (v8 c.inL) 0 es)).drop fx1.length) w1;rw[bR3]at this;exact this
  obtain⟨v,τ',F',s',hp',vs',fx1',fx2',es',nw,accs',r1,r2,r3,r4,r5,r6,r7,r8,r9,r10,r11,r12,r13,r14,r15⟩:=hg es hlen hpre _ F2 hp2 args g1 hargs;have hlen':=r8.len;have hQ:=al3 (U:=U) _ _ _ (hq.2 hpre) es' hlen' (by rw[J3 _ _ _ hlen'];exact r15)
  have hlv:∀b∈bl++accs,∃x,s3.get b=some x:=fun b hb=>by
   rcases bL6.1 hb with h|h
   ·exact hlive b h
   ·obtain⟨k,hk⟩:=bN4.1 h
    exact hm.live hk
  obtain⟨f1,f2,f3⟩:=bs9 (U:=U) hs3 hb3.len.1 k3 hlv k2 g3 r2 r3 r4 r5 r7 r8 r9 r10 r11 r12 r13 r14 (E6 (v8 c.outL) s3.fv es' hlen');refine⟨_,_,hQ,_,F',hp',v,(ex2.trans (Ext.only hs2 o3)).trans f2,f1,r1,?_,fun hb0 ha0 hn0=>?_⟩
  ·obtain⟨w1,_⟩:=f3.split
   have:=r6 _ _ _ ((O8 c (E4 U (v8 c.outL) s3.fv es') s3 bl).drop fx1'.length) w1;rw[bR3]at this;exact this
  ·have hn:s3.nx+(c.post.length-c.blks.length)+C4 c.outL=s.nx+c.post.length+C4 c.outL:=hn0
   have hbl:bl=[]:=bI5 (by rw[hb3.len.1,hb0];rfl)
   have hac:accs=[]:=bI5 (by rw[k3,ha0])
   rw[hb0,bS7,bQ1]at hn;clear hn0;subst hbl;subst hac;have hsn:s3.nx=s.nx:=by omega
   obtain⟨lg,_,a2,a3,_⟩:=r2.hh;have non:∀b x,(gst c (E4 U (v8 c.inL) 0 es) (v8 c.inL).length).get b=some x->False:=fun b x h=>by
    obtain⟨b',x',h1,_⟩:=g3 b x h;simp at h1
   refine⟨fun i hi=>a2 i hi fun b x o h _ _=>non b x h,fun b i o hb ht=>?_⟩
   unfold K7 at ht;rw[bJ9 (by omega)]at ht
   split at ht
   ·rcases a3 _ i o (by show c.blks.length+C4 c.inL<=_;rw[hb0,ha0];exact bR4 _) ht with h| ⟨b0,x,o0,h,_⟩
    ·exact h
    ·exact(non b0 x h).elim
   ·cases ht
 obtain⟨a,s1,hq,τ1,F1,hp1,v,ex,hs1,hx,hv,hAB⟩:=hbig;unfold bu1 at hq;cases hc:Nat.beq s1.nx (s.nx+c.post.length+C4 c.outL)&&c.blks.isEmpty&&Nat.beq (C4 c.inL) 0&&aT9 0 a&&(am8 s.nx (s1.h.take (s1.h.length-s.h.length))).all (numB P)with
 |false=>rw[hc]at hq;exact⟨_,_,hq,τ1,F1,hp1,ex,hs1,v,hx,hv⟩
 |true=>
 rw[hc]at hq;simp only[bI0,bL9,List.isEmpty_iff,bK9]at hc;obtain⟨⟨⟨⟨c1,c2⟩,c3⟩,c4⟩,c5⟩:=hc;obtain⟨hA,hB⟩:=hAB c2 c3 c1;obtain⟨lg,a1,_⟩:=ex.hh;have hlg:s1.h.take (s1.h.length-s.h.length)=lg:=by
  rw[a1,bK6,Nat.add_sub_cancel,List.take_left'];rfl
 rw[hlg]at hq c5;have get:∀b,(⟨am8 s.nx lg++s.h,s1.nx,s1.fc,s1.fv,s.fz⟩:SS).get b=if s.nx<=b then s1.get b else s.get b:=fun b=>by
  unfold SS.get;rw[a1,C5,C5,aN0]
  by_cases hb:s.nx<=b
  ·rw[bK1 hb,bK1 hb]
  ·rw[bJ9 hb,bJ9 hb]
 have lo:∀b x,b<s.nx->(⟨am8 s.nx lg++s.h,s1.nx,s1.fc,s1.fv,s.fz⟩:SS).get b=some x->s.get b=some x:=fun b x hb h=>by rw[get,bJ9 (by omega)]at h;exact h
 have hi:∀b x,s.nx<=b->(⟨am8 s.nx lg++s.h,s1.nx,s1.fc,s1.fv,s.fz⟩:SS).get b=some x->s1.get b=some x:=fun b x hb h=>by rw[get,bK1 hb]at h;exact h
 have tl:∀b p,s.nx<=b->τ b=some p->False:=fun b p hb h=>by rw[hs.new b hb]at h;cases h
 refine⟨_,_,hq,τ1,F,hp1,⟨ex.t,Fle.refl F,ex.nx,ex.snx,ex.st,fun b x hb hlt=>⟨x,lo b x hlt hb⟩,⟨am8 s.nx lg,rfl,fun i hi' _=>hA i hi',fun b i o hb ht=>.inl (hB b i o hb ht),fun i y _ hy=>.inl hy,fun _ i y hy=>hy⟩,ex.hf⟩,
  ⟨fun b x hb=>?_,fun b b2 x y i o j q hb hb2 hne e1 e2=>?_,fun i b hF=>hs1.frz i b (ex.f i b hF),hs1.lt,fun i b hF=>hs1.flt i b (ex.f i b hF),hs1.new,hs1.fc,fun r hr=>(hs.fz r hr).mono ex.t (Fle.refl F)⟩,v,hx,hv.noF c4⟩
 ·by_cases hlt:s.nx<=b
  ·have hb1:=hi b x hlt hb
   have hnum:numB P (b,some x)=true:=by
    refine c5 _ ?_;have h1:(match lk (am8 s.nx lg++s.h) b with|some x=>x|none=>none)=some x:=hb
    rw[C5]at h1;cases h2:lk (am8 s.nx lg) b with
    |some y=>
     rw[h2]at h1;have h1:y=some x:=h1;rw[<-h1];exact Q9 h2
    |none=>
     rw[h2]at h1;exact absurd (hs.bound (show s.get b=some x from h1)) (by omega)
   rcases hs1.live b x hb1 with⟨i,o,y,p1,p2,p3,p4⟩|p
   ·cases x with
    |rows L e z ph=>
     obtain⟨cs,n,q1,⟨r1,r2,r3,r4⟩,q3⟩:=p4;refine .inl ⟨i,o,y,p1,p2,?_,cs,n,q1,⟨r1,r2,r3,fun r j row d hr hd=>?_⟩,q3⟩
     ·cases hF:F i with
      |none=>rfl
      |some y'=>rw[ex.f i y' hF]at p3;cases p3
     ·obtain⟨x,t1,t2⟩:=r4 r j row d hr hd
      exact⟨x,t1,fun kd hkd=>(t2 kd hkd).num (bK9.1 hnum kd (bI9 hkd))⟩
    |_=>cases hnum
   ·exact .inr p
  ·rcases hs.live b x (lo b x (by omega) hb)with⟨i,o,y,p1,p2,p3,p4⟩| ⟨p1,p2⟩
   ·exact .inl ⟨i,o,y,ex.t _ _ p1,by rw[hA i (hs.lt b i o p1)];exact p2,p3,p4.mono ex.t (Fle.refl F)⟩
   ·exact .inr ⟨ex.t _ _ p1,p2⟩
 ·have old:∀b i o,b<s.nx->τ1 b=some (some (i,o))->τ b=some (some (i,o)):=fun b i o hb h=>by rw[<-ex.st b hb];exact h
  by_cases h1:s.nx<=b
  ·by_cases h2:s.nx<=b2
   ·exact hs1.inj b b2 x y i o j q (hi b x h1 hb) (hi b2 y h2 hb2) hne e1 e2
   ·have:=hB b i o h1 e1
    have:=hs.lt b2 j q (old b2 j q (by omega) e2)
    omega
  ·by_cases h2:s.nx<=b2
   ·have:=hB b2 j q h2 e2
    have:=hs.lt b i o (old b i o (by omega) e1)
    omega
   ·exact hs.inj b b2 x y i o j q (lo b x (by omega) hb) (lo b2 y (by omega) hb2) hne (old b i o (by omega) e1) (old b2 j q (by omega) e2)
end
end Go.Sx
end PartSm445
