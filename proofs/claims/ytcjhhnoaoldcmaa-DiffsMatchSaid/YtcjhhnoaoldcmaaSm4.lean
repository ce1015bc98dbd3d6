/- The symbolic engine: Delete and Insert, parts 41, 42, 43.
  Conditions: none. -/
import Derived.Test.YtcjhhnoaoldcmaaXm4
set_option linter.unusedSimpArgs false
set_option linter.unusedVariables false
noncomputable section PartSm441
namespace Go.Sx
open Go.Xe
section
variable {P :Program}{U:Nat->List Dat->Dat}{τ:Tau}{F:Nat->Option Blk}{s:SS}{hp:Hp}
theorem SD.move2 (hs : SD P U τ F s hp) {b i o b2 i2 o2 : Nat} {x x2 x' : v9} (hb : s.get b = some x) (ht : τ b = some (some (i, o))) (hb2 : s.get b2 = some x2) (ht2 : τ b2 = some (some (i2, o2))) (_ : b2 ≠ b) {hp' : Hp} (hn : hp.nx ≤ hp'.nx) (hk : ∀ j, j < hp.nx → j ≠ i → j ≠ i2 → hp'.m.get j = hp.m.get j) {j q : Nat} (hj : j = i ∨ hp.nx ≤ j) (hj' : j < hp'.nx)
  {y:Blk} (hi:hp'.m.get j=some y) (hd:BD P U (put τ s.nx (some (j,q))) F q x' y):
  Ext τ F s hp (put τ s.nx (some (j,q))) F (ab4 ((s.set b none).set b2 none) x') hp'/\SD P U (put τ s.nx (some (j,q))) F (ab4 ((s.set b none).set b2 none) x') hp':=by
 have h0:τ s.nx=none:=hs.new _ (bH7 _);have hle:=U3 (τ:=τ) (some (j,q)) h0;have hlt:b<s.nx:=hs.bound hb;have hlt2:b2<s.nx:=hs.bound hb2;have hil:i<hp.nx:=hs.lt b i o ht;have fz:∀ {b i o x},s.get b=some x->τ b=some (some (i,o))->F i=none:=by
  intro b i o x hb ht
  rcases hs.live b x hb with⟨i',o',y',h1,_,h3,_⟩| ⟨h1,_⟩
  ·rw[ht]at h1;simp only[bF4,bF6]at h1;obtain⟨rfl,_⟩:=h1;exact h3
  ·rw[ht]at h1;cases h1
 have fi:=fz hb ht;have fi2:=fz hb2 ht2;have fj:F j=none:=by
  rcases hj with rfl|hj
  ·exact fi
  ·cases hF:F j with
   |none=>rfl
   |some w=>exact absurd (hs.flt j w hF) (by omega)
 have gt:∀c,(ab4 ((s.set b none).set b2 none) x').get c=if c=s.nx then some x' else if c=b2 then none else if c=b then none else s.get c:=by
  intro c;rw[ad8,SS.get_set,SS.get_set];rfl
 refine⟨⟨hle,Fle.refl F,hn,by simp[ab4,SS.set],fun c hc=>y4 τ _ (by omega),fun c y hc hlt=>?_,⟨[(s.nx,some x'),(b2,none),(b,none)],rfl,fun k hk' hnl=>hk k hk' (fun e=>hnl b x o hb (by rw[e];exact ht) (by simp)) (fun e=>hnl b2 x2 o2 hb2 (by rw[e];exact ht2) (by simp)),fun c k r hc h=>?_,fun _ _ _ h=>.inl h,fun _ _ _ h=>h⟩,⟨[],rfl⟩⟩,?_⟩
 ·rw[gt,bH4 (by omega)]at hc
  by_cases e:c=b2
  ·rw[bH6 e]at hc;cases hc
  ·rw[bH4 e]at hc
   by_cases e:c=b
   ·rw[bH6 e]at hc;cases hc
   ·rw[bH4 e]at hc;exact⟨y,hc⟩
 ·by_cases e:c=s.nx
  ·subst e;rw[m8]at h;simp only[bF4,bF6]at h
   obtain⟨rfl,_⟩:=h
   rcases hj with rfl|hj
   ·exact .inr ⟨b,x,o,hb,ht,by simp⟩
   ·exact .inl hj
  ·rw[y4 τ _ e,hs.new c hc]at h;cases h
 ·have inv : ∀ c z, (ab4 ((s.set b none).set b2 none) x').get c = some z → c ≠ s.nx → c ≠ b ∧ c ≠ b2 ∧ s.get c = some z := by
   intro c z hc e;rw[gt,bH4 e]at hc
   by_cases e':c=b2
   ·rw[bH6 e']at hc;cases hc
   ·rw[bH4 e']at hc
    by_cases e'':c=b
    ·rw[bH6 e'']at hc;cases hc
    ·rw[bH4 e'']at hc;exact⟨e'',e',hc⟩
  have apart:∀c z k r,c≠b->s.get c=some z->τ c=some (some (k,r))->k≠j:=by
   intro c z k r e hc h ek;subst ek
   rcases hj with rfl|hj
   ·exact hs.inj c b z x _ r _ o hc hb e h ht rfl
   ·have:=hs.lt c _ r h;omega
  refine⟨fun c z hc=>?_,fun c d y z k r k' r' hc hd' hne e1 e2=>?_,fun k y hk'=>?_,fun c k r h=>?_,fun k y h=>bK7 (hs.flt k y h) hn,fun c hc=>?_,hs.fc,fun r hr=>(hs.fz r hr).mono hle (Fle.refl F)⟩
  ·by_cases e:c=s.nx
   ·subst e
    rw[gt,bH6 rfl,bF4]at hc;subst hc;exact .inl ⟨j,q,y,m8 _ _ _,hi,fj,hd⟩
   ·obtain⟨e',e2',hc'⟩:=inv c z hc e
    rcases hs.live c z hc' with⟨k,r,y',h1,h2,h3,h4⟩| ⟨h1,h2⟩
    ·refine .inl ⟨k,r,y',by rw[y4 τ _ e];exact h1,?_,h3,h4.mono hle (Fle.refl F)⟩
     rw[hk k (hs.lt c k r h1) ?_ ?_];exact h2
     ·intro ek;subst ek
      exact hs.inj c b z x _ r _ o hc' hb e' h1 ht rfl
     ·intro ek;subst ek
      exact hs.inj c b2 z x2 _ r _ o2 hc' hb2 e2' h1 ht2 rfl
    ·exact .inr ⟨by rw[y4 τ _ e];exact h1,h2⟩
  ·by_cases ec:c=s.nx
   ·subst ec
    have ed:d≠s.nx:=fun h=>hne h.symm
    rw[m8]at e1;simp only[bF4,bF6]at e1;obtain⟨rfl,_⟩:=e1;obtain⟨e',_,hd''⟩:=inv d z hd' ed;rw[y4 τ _ ed]at e2;exact(apart d z k' r' e' hd'' e2).symm
   ·obtain⟨e',_,hc'⟩:=inv c y hc ec
    rw[y4 τ _ ec]at e1
    by_cases ed:d=s.nx
    ·subst ed
     rw[m8]at e2;simp only[bF4,bF6]at e2;obtain⟨rfl,_⟩:=e2;exact apart c y k r e' hc' e1
    ·obtain⟨e'',_,hd''⟩:=inv d z hd' ed
     rw[y4 τ _ ed]at e2;exact hs.inj c d y z k r k' r' hc' hd'' hne e1 e2
  ·rw[hk k (hs.flt k y hk') (fun e=>by rw[e,fi]at hk';cases hk') (fun e=>by rw[e,fi2]at hk';cases hk')];exact hs.frz k y hk'
  ·by_cases e:c=s.nx
   ·subst e;rw[m8]at h;simp only[bF4,bF6]at h
    obtain⟨rfl,_⟩:=h;exact hj'
   ·rw[y4 τ _ e]at h;exact bK7 (hs.lt c k r h) hn
  ·have:s.nx+1<=c:=hc
   rw[y4 τ _ (by omega)];exact hs.new c (by omega)
end
section
variable (P :Program)(U:Nat->List Dat->Dat)
def sdel (e size : Nat) (args : List SV) : M SV := match args with
 | [.sl b z off len .ge, .int .i64 a, .int .i64 c] => a9 (ay5 P b) fun _ => l7 fun s => match s.get b with
  | some (.rows L e' z' _) => bif Nat.beq e e' && Nat.beq size z && Nat.beq size z' && Nat.beq size (kf P e).length then
    a9 (i9 U (t6 (t9 (v5 L) (t7 off len)))) fun _=>a9 (i9 U (t6 (t9 a (.int 0)))) fun _=>a9 (i9 U (t9 a c)) fun _=>a9 (i9 U (t6 (t9 len c))) fun _=>
    a9 (O2 U L off a) fun A=>a9 (O2 U L (t7 off c) (H7 len c)) fun B=>smove e size b (.rows (B3 A B)) (t7 a (H7 len c)) .ge
   else a8 "delete: type"
  |_=>a8 "delete: block"
 |_=>a8 "delete: arguments"
def smove2 (e size b b2:Nat)(x:Src)(len:E)(cp:Cp):M SV:=fun s=>.ret (.sl s.nx size (.int 0) len cp,ab4 ((s.set b none).set b2 none) (x.blk e size))
def isCR :Option v9->Bool
 |some (.cells _ _ _)=>true
 |some (.rows _ _ _ _)=>true
 |_=>false
def bh9 (e size b : Nat) (off len a : E) (x : SV) : M SV := match x with
 | .sl b2 _ _ _ _ => bif Nat.beq b2 b then a8 "insert: the same block" else a9 (ssrc P U e size x) fun src => bif src.one then a9 (bx4 P U e size src) fun Ln => a9 (ay5 P b) fun _ => l7 fun s => match s.get b with
  | some (.rows L e' z' _) => bif Nat.beq e e' && Nat.beq size z' && Nat.beq size (kf P e).length && isCR (s.get b2) && (kf P e).all noRp then
    a9 (i9 U (C8 (v5 Ln) (.int 1))) fun _=>a9 (i9 U (t6 (t9 (v5 L) (t7 off len)))) fun _=>a9 (i9 U (t6 (t9 a (.int 0)))) fun _=>a9 (i9 U (t6 (t9 len a))) fun _=>a9 (i9 U (t9 len (.int 67108864))) fun _=>
    a9 (O2 U L off a) fun A=>a9 (O2 U L (t7 off a) (H7 len a)) fun B=>smove2 e size b b2 (.rows (B3 (B3 A Ln) B)) (t7 len (.int 1)) .ge
   else a8 "insert: type"
  |_=>a8 "insert: block"
  else a8 "insert: cells"
 |_=>a8 "insert: element"
def sins (e size:Nat)(args:List SV):M SV:=match args with
 | [.nils,.int .i64 a,x]=>bif Nat.beq size (kf P e).length then a9 (U6 (.rows (.op .nil []) e size (.int 0))) fun b=>bh9 P U e size b (.int 0) (.int 0) a x else a8 "insert: size"
 | [.sl b z off len .ge,.int .i64 a,x]=>bif Nat.beq size z then bh9 P U e size b off len a x else a8 "insert: size"
 |_=>a8 "insert: arguments"
end
section
variable {P :Program}{U:Nat->List Dat->Dat}{ov:FuncId->Option TypeId}
theorem bf3 (n:Nat):(exec P ov n).ov=ov:=by cases n<;>rfl
theorem aO3 {C:f9->Prop}(hC:∀n,C (exec P ov n)){g:FuncId}(hg:isT (ov g)=false){args:List Value}{hp:Hp}{v:Value}{hp':Hp}(h:aF6 P C g args hp v hp'):aP3 P ov g args hp v hp':=by
 obtain⟨m0,h⟩:=h;refine⟨m0+1,fun n hn=>?_⟩
 obtain⟨k,rfl⟩:∃k,n=k+1:=⟨n-1,by omega⟩
 show(bif isT (ov g)&&args.isEmpty then some (.bool true,hp)else at6 (W3 P (t8 P) (exec P ov k) (Z6 P (t8 P) (exec P ov k) k) k g) args hp)=_
 rw[hg,Bool.false_and,bH2];exact h (exec P ov k) (hC k) k (by omega) _
variable {τ :Tau}{F:Nat->Option Blk}{s:SS}{hp:Hp}
theorem bk3 {c:T Value}{o n:Nat}{a b:List Value}(h:l9 c o n=some a)(k:l9 c o n=some b):a=b:=bI0 (h.symm.trans k)
theorem Y7 {e z o n : Nat} {cs : T Value} {rows : Rows} (hr : v8 P F e z o n cs rows) {off len a m : Int} (h0 : 0 ≤ off) (ha : 0 ≤ a) (hm : 0 ≤ m) (ham : a + m ≤ len) (h2 : off + len ≤ rows.length) {L : E} (hL : L.toR U = part rows (off + a) m) {olds : List Value} (hl : l9 cs (o + off.toNat * z) (len.toNat * z) = some olds) :
  l8 P U τ F e z (.rows L) ((olds.drop (a.toNat*z)).take (m.toNat*z)):=by
 obtain⟨vs,v1,_,v3,_⟩:=C6 (τ:=τ) hr (show 0<=off+a by omega) hm (by omega) hL
 have h3:=V4 hl (a:=a.toNat*z) (m:=m.toNat*z) (by rw[<-bJ0];exact bG7 _ (by omega))
 rw[show o+off.toNat*z+a.toNat*z=o+(off+a).toNat*z by rw[bL4,<-bJ0];congr 2;omega]at h3
 rw[bk3 h3 v1];exact v3
theorem bb5 {g:FuncId}{ρ:Go.Shelf.Ren}{e:TypeId}{ie:TypeInfo}{zv:Value}(D:be7 P g ρ e ie zv)(hg:isT (ov g)=false):C0 P U ov (sdel P U e ie.size) g:=by
 intro l args τ F s hp hl hs;unfold sdel;split
 ·rename_i b z off len a c
  obtain⟨y1,ys1,rfl,v1,hl⟩:=hl.uncons;obtain⟨y2,ys2,rfl,v2,hl⟩:=hl.uncons;obtain⟨y3,ys3,rfl,v3,hl⟩:=hl.uncons;have:ys3=[]:=bG0 hl.1.symm;subst this;cases v2;cases v3;refine(ac9 hs).bind fun _ τ1 F1 s1 hp1 ex hs1 ⟨e1,e2,e3⟩=>OKh.read ?_
  subst e1;subst e2;subst e3;split
  ·rename_i L e' z' ph hb
   cases hq:Nat.beq e e'&&Nat.beq ie.size z&&Nat.beq ie.size z'&&Nat.beq ie.size (kf P e).length with
   |false=>exact OKh.fail
   |true=>
    simp only[bH1];simp only[bF5,bJ4]at hq;obtain⟨⟨⟨rfl,hz⟩,hz'⟩,hkf⟩:=hq;refine OKh.bindp OKp.need fun _ s2 o2 hs2 p1=>OKh.bindp OKp.need fun _ s3 o3 hs3 p2=>OKh.bindp OKp.need fun _ s4 o4 hs4 p3=>OKh.bindp OKp.need fun _ s5 o5 hs5 p4=>OKh.bindp y7 fun A s6 o6 hs6 hA=>OKh.bindp y7 fun B s7 o7 hs7 hB=>?_
    have p1:=u7 p1;have p2:=O6 p2;have p3:=y8 p3;have p4:=u7 p4;rw[i4,e9]at p1;rw[i4,p7]at hB;have hb7:s7.get b=some (.rows L e z' ph):=by rw[o7.get,o6.get,o5.get,o4.get,o3.get,o2.get];exact hb
    have hAR:A.toR U=part (L.toR U) (off.toI U) (a.toI U):=by show(A.den U).rows=_;rw[hA];rfl
    have hBR:B.toR U=part (L.toR U) (off.toI U+c.toI U) (len.toI U-c.toI U):=by show(B.den U).rows=_;rw[hB];rfl
    cases v1 with
    |sl0 _ _ _ _ _ hτ h0 h1 hc=>omega
    |sl _ _ _ _ _ i o cc hτ h0 h1 hc=>
    obtain⟨lo,rfl,c1,c2⟩:=hc
    rcases hs7.live b _ hb7 with⟨i',o',y,k1,k2,kF,cs,k,rfl,k4,k5⟩| ⟨k1,_⟩
    ·rw[hτ]at k1;simp only[bF4,bF6]at k1;obtain⟨rfl,rfl⟩:=k1
     subst hz;subst hz';obtain⟨olds,w1,w2,w3,w4⟩:=C6 (τ:=τ1) (off:=off.toI U) (len:=len.toI U) (L:= .op .part [L,off,len]) k4 h0 h1 p1 rfl;have hone:olds.all Value.oneCell'=true:=w3.ones rfl;have ea:a.toI U=((a.toN U:Nat):Int):=by show a.toI U=((a.toI U).toNat:Int);omega
     have ec:c.toI U=((c.toN U:Nat):Int):=by show c.toI U=((c.toI U).toNat:Int);omega
     have el:len.toI U=((len.toN U:Nat):Int):=by show len.toI U=((len.toI U).toNat:Int);omega
     obtain⟨v,hp',r1,⟨⟨bb,q,lo',ct,kk,rfl,n2,n3,n4,n5,n6,n7⟩,nnx,nold⟩⟩:=bo6 (C:=fun _=>True) (hp:=hp1) D (i:=i) (o:=o+off.toN U*ie.size) (n:=len.toN U) (lo:=lo) (a:=a.toN U) (b:=c.toN U) (Nat.max_le.2 ⟨c1,by omega⟩) (by omega) (by omega) (hs7.lt b i o hτ) k2 w2 w1 hone
     have hrun:=aO3 (ov:=ov) (fun _=>trivial) hg r1
     rw[<-ea,<-ec]at hrun;have hlenN:(t7 a (H7 len c)).toI U=((a.toN U+(len.toN U-c.toN U):Nat):Int):=by rw[i4,p7];omega
     have hVl:=(j7 n7).1;refine(OKh.smove (x':= .rows (B3 A B)) (cp:= .ge) (hp1:=hp') (j:=bb) (q:=q) (n:=a.toN U+(len.toN U-c.toN U)) (c:=d8 lo' 0) hb7 hτ nnx (fun x hx hxi=>nold x hx hxi (fun h=>h)) n3 n4 n5 (fun τ' hτ'=>?_) hlenN ⟨lo',rfl,n2,by rw[hlenN];omega⟩ hs7).mono fun w τ' F' hp2 _ _ ⟨q1,q2⟩=>⟨_,by rw[q1];exact hrun,q2⟩
     refine ak2 (vs:=olds.take (a.toN U*ie.size)++olds.drop (c.toN U*ie.size)) ?_ (fun y v hy=>?_) (by rw[hVl];exact n6)
     ·refine l8.mono hτ' (Fle.refl _) (l8.app ?_ ?_)
      ·have:=Y7 (τ:=τ1) k4 h0 (bL8 0) (show 0<=a.toI U by omega) (show 0+a.toI U<=len.toI U by omega) p1 (L:=A) (by rw[hAR];congr 1;omega) w1
       simpa using this
      ·have:=Y7 (τ:=τ1) k4 h0 (show 0<=c.toI U by omega) (show 0<=len.toI U-c.toI U by omega) (show c.toI U+(len.toI U-c.toI U)<=len.toI U by omega) p1 (L:=B) hBR w1
       rw[bK3 (by rw[bK6,w4,<-Nat.sub_mul];exact bG7 _ (by omega))]at this
       exact this
     ·have hyl:y<(a.toN U+(len.toN U-c.toN U))*ie.size:=by rw[<-hVl];exact(bF7.1 hy).1
      rw[<-(j7 n7).2 y hyl];exact hy
    ·rw[hτ]at k1;cases k1
  ·exact OKh.fail
 ·exact OKh.fail
end
end Go.Sx
end PartSm441
noncomputable section PartSm442
namespace Go.Sx
open Go.Xe
section
variable {P :Program}{U:Nat->List Dat->Dat}{ov:FuncId->Option TypeId}{τ:Tau}{F:Nat->Option Blk}{s:SS}{hp:Hp}
theorem OKh.smove2 {e size b i o b2 i2 o2 j q n c : Nat} {x x2 : v9} {x' : Src} {len : E} {cp : Cp} (hb : s.get b = some x) (ht : τ b = some (some (i, o))) (hb2 : s.get b2 = some x2) (ht2 : τ b2 = some (some (i2, o2))) (hbb : b2 ≠ b) {hp1 : Hp} (hn : hp.nx ≤ hp1.nx) (hk : ∀ k, k < hp.nx → k ≠ i → k ≠ i2 → hp1.m.get k = hp.m.get k) (hj : j = i ∨ hp.nx ≤ j) (hj' : j < hp1.nx)
  {y:Blk} (hi:hp1.m.get j=some y) (hd:∀τ',Tle τ τ'->BD P U τ' F q (x'.blk e size) y) (hlen:len.toI U=n) (hc:aw8 U len cp c) (hs:SD P U τ F s hp):
  OKh P U (smove2 e size b b2 x' len cp) τ F s hp fun a τ' F' hp'=>hp'=hp1/\VD P U τ' F' a (.slice (some ⟨j,q,none⟩) n c):=by
 intro Q hq _;have h0:τ s.nx=none:=hs.new _ (bH7 _);obtain⟨h1,h2⟩:=hs.move2 (x':=x'.blk e size) (q:=q) hb ht hb2 ht2 hbb hn hk hj hj' hi (hd _ (U3 _ h0));refine⟨_,_,hq,_,F,hp1,h1,h2,rfl,?_⟩;exact VD.sl' (m8 _ _ _) (bL8 0) (by rw[hlen];omega) hc (by show q=q+(0:Int).toNat*size;simp) (ap3 hlen).symm
theorem aR2 {s:SS}{b:Nat}(h:isCR (s.get b)=true):(∃l e z,s.get b=some (.cells l e z))\/ ∃L e z ph,s.get b=some (.rows L e z ph):=by
 unfold isCR at h;split at h
 ·exact .inl ⟨_,_,_,by assumption⟩
 ·exact .inr ⟨_,_,_,_,by assumption⟩
 ·cases h
theorem aC3 {hp:Hp}{size n m c:Nat}{a:Option Addr}{vs:List Value}(h:u9 hp size (.slice a n c)=some (m,vs)):m=n:=by
 unfold u9 at h;split at h
 ·rename_i n' _ hh
  cases hh;cases hb:Nat.beq n 0 with
  |false=>rw[hb]at h;cases h
  |true=>
   rw[hb,bH1]at h;simp only[bF4,bF6]at h;rw[<-h.1];exact(bF9 hb).symm
 ·rename_i i o n' _ hh
  cases hh;split at h
  ·split at h
   ·rename_i cc k _ _
    cases hb:Nat.ble (o+n*size) k with
    |false=>rw[hb]at h;cases h
    |true=>
     rw[hb,bH1]at h;split at h
     ·simp only[bF4,bF6]at h
      exact h.1.symm
     ·cases h
   ·cases h
  ·cases h
 ·rename_i hh
  cases hh;simp only[bF4,bF6]at h;exact h.1.symm
 ·cases h
theorem aU6 {g : FuncId} {ρ : Go.Shelf.Ren} {e : TypeId} {ie : TypeInfo} {zv : Value} (D : ag4 P g ρ e ie zv) (hg : isT (ov g) = false) (hov : ov (ρ.f 27) = some (ρ.t 22)) {b : Nat} {off len a : E} {x : SV} {v1 v3 : Value}
  (h1:VD P U τ F (.sl b ie.size off len .ge) v1) (h3:VD P U τ F x v3) (hs:SD P U τ F s hp):
  OKh P U (bh9 P U e ie.size b off len a x) τ F s hp fun w τ' F' hp'=>∃v,aP3 P ov g [v1,.int .i64 (a.toI U),v3] hp v hp'/\VD P U τ' F' w v:=by
 unfold bh9;split
 ·rename_i b2 z2 off2 len2 cap2
  cases hbb:Nat.beq b2 b with
  |true=>exact OKh.fail
  |false=>
  have hbb:b2≠b:=fun h=>by rw[h,j9 rfl]at hbb;cases hbb
  simp only[bH2];refine OKh.bindp (bi5 D.sz h3 hs) fun src s1 o1 hs1 ⟨n,news,x1,x2,x3,x4⟩=>?_
  cases hone:src.one with
  |false=>exact OKh.fail
  |true=>
  simp only[bH1];have hn1:=x2.ones hone;refine(aM5 x2 hs1).bind fun Ln τ1 F1 s2 hp1 ex hs2 ⟨e1,e2,hLn⟩=>?_
  subst e1;subst e2;refine(ac9 hs2).bind fun _ τ2 F2 s3 hp2 ex2 hs3 ⟨e1,e2,e3⟩=>OKh.read ?_
  subst e1;subst e2;subst e3;have h1:=h1.mono (Tle.refl τ2) ex.f;have h3:=h3.mono (Tle.refl τ2) ex.f;split
  ·rename_i L e' z' ph hb
   cases hq:Nat.beq e e'&&Nat.beq ie.size z'&&Nat.beq ie.size (kf P e).length&&isCR (s3.get b2)&&(kf P e).all noRp with
   |false=>exact OKh.fail
   |true=>
    simp only[bH1];simp only[bF5,bJ4]at hq;obtain⟨⟨⟨⟨rfl,hz'⟩,hkf⟩,hcr⟩,hnrp⟩:=hq;refine OKh.bindp OKp.need fun _ s4 o4 hs4 p0=>OKh.bindp OKp.need fun _ s5 o5 hs5 p1=>OKh.bindp OKp.need fun _ s6 o6 hs6 p2=>OKh.bindp OKp.need fun _ s7 o7 hs7 p3=>OKh.bindp OKp.need fun _ s8 o8 hs8 p4=>
     OKh.bindp y7 fun A s9 o9 hs9 hA=>OKh.bindp y7 fun B sA oA hsA hB=>?_
    have p0:(v5 Ln).toI U=1:=by have:=(E.pr_iff U _).1 p0;rw[B8]at this;exact bN3 this
    have p1:=u7 p1;have p2:=O6 p2;have p3:=u7 p3;have p4:=y8 p4;simp only[w9]at p4;rw[i4,e9]at p1;rw[e9]at p0;rw[i4,p7]at hB;have gets:∀c,sA.get c=s3.get c:=fun c=>by rw[oA.get,o9.get,o8.get,o7.get,o6.get,o5.get,o4.get]
    have hbA:sA.get b=some (.rows L e z' ph):=by rw[gets];exact hb
    have hLn:=hLn hkf;have hcnt:=ak8 D.sz hLn x3;have hn:n=1:=by omega
    subst hn;have hnl:news.length=ie.size:=by rw[x3,Nat.one_mul]
    have hAR:A.toR U=part (L.toR U) (off.toI U) (a.toI U):=by show(A.den U).rows=_;rw[hA];rfl
    have hBR:B.toR U=part (L.toR U) (off.toI U+a.toI U) (len.toI U-a.toI U):=by show(B.den U).rows=_;rw[hB];rfl
    have ea:a.toI U=((a.toN U:Nat):Int):=by show a.toI U=((a.toI U).toNat:Int);omega
    have hlenN:∀m:Nat,len.toI U=(m:Int)->(t7 len (.int 1)).toI U=((m+1:Nat):Int):=fun m hm=>by rw[i4,w9,hm];rfl
    cases h3 with
    |sl0 _ _ _ _ _ hτ2 _ _ _=>exact absurd (aC3 x1) (by omega)
    |sl _ _ _ _ _ j oj cm hτ2 g0 g1 gc=>
    have hm1:=aC3 x1;have hv3:∃q,(Value.slice (some ⟨j,oj+off2.toN U*z2,none⟩) (len2.toN U) cm)= .slice (some ⟨j,q,none⟩) 1 cm:=⟨_,by rw[<-hm1]⟩
    obtain⟨q,hv3⟩:=hv3;rw[hv3]at x1⊢;have hb2:∃xx,sA.get b2=some xx:=by
     rw[gets]
     rcases aR2 hcr with⟨_,_,_,h⟩| ⟨_,_,_,_,h⟩<;>exact⟨_,h⟩
    obtain⟨xx,hb2⟩:=hb2;have hjc:∃cj kj ej zj,hp2.m.get j=some (.cells cj kj ej zj):=by
     rcases hsA.live b2 _ hb2 with⟨i',o',y,k1,k2,_,k4⟩| ⟨k1,_⟩
     ·rw[hτ2]at k1;simp only[bF4,bF6]at k1;obtain⟨rfl,rfl⟩:=k1
      have:sA.get b2=s3.get b2:=gets b2
      rcases aR2 hcr with⟨l,ee,zz,h⟩| ⟨L',ee,zz,pp,h⟩
      ·rw[this,h,bF4]at hb2;subst hb2
       obtain⟨cs,nn,rfl,_⟩:=k4;exact⟨_,_,_,_,k2⟩
      ·rw[this,h,bF4]at hb2;subst hb2
       obtain⟨cs,nn,rfl,_⟩:=k4;exact⟨_,_,_,_,k2⟩
     ·rw[hτ2]at k1;cases k1
    obtain⟨cj,kj,ej,zj,hgj⟩:=hjc;cases h1 with
    |sl0 _ _ _ _ _ hτ h0 hl0 hc=>
     rcases hsA.live b _ hbA with⟨i',o',y,k1,_⟩| ⟨k1,L',e2,z2,ph',k2,k3,k4,k5⟩
     ·rw[hτ]at k1;cases k1
     ·simp only[v9.rows.injEq]at k2
      obtain⟨rfl,rfl,rfl,rfl⟩:=k2;have ha0:a.toI U=0:=by omega
      obtain⟨v,hp',r1,rfl,rfl⟩:=by4 (hp:=hp2) (C:=COv ρ) D x1;have hrun:=aO3 (ov:=ov) (fun k=>by unfold COv;rw[bf3];exact hov) hg r1
      have hrun:aP3 P ov g [.slice none 0 0,.int .i64 (a.toI U),.slice (some ⟨j,q,none⟩) 1 cm] hp2 (.slice (some ⟨hp2.nx,0,none⟩) 1 (d8 1 0)) (hp2.new news e ie.size):=by rw[ha0];exact hrun
      have hA0:A.toR U=[]:=by rw[hAR,k3];simp[part]
      have hB0:B.toR U=[]:=by rw[hBR,k3];simp[part]
      have hABR:(B3 (B3 A Ln) B).toR U=Ln.toR U:=by rw[G8,G8,hA0,hB0];simp
      have hcells:l8 P U τ2 F2 e ie.size (.rows (B3 (B3 A Ln) B)) news:=by
       obtain⟨c1,c2,c3,c4⟩:=hLn;exact⟨c1,by rw[hABR];exact c2,by rw[hABR];exact c3,by rw[hABR];exact c4⟩
      intro Q hq _;obtain⟨d1,d2⟩:=hsA.drop b;obtain⟨d3,d4⟩:=d2.drop b2;have hl1:(t7 len (.int 1)).toI U=((1:Nat):Int):=hlenN 0 hl0;obtain⟨f1,f2⟩:=d4.alloc (x:=(Src.rows (B3 (B3 A Ln) B)).blk e ie.size) (p:=some (hp2.nx,0)) (hp':=hp2.new news e ie.size) (bM9 _) (fun x hx=>by show(hp2.m.set _ _).get x=_;rw[T.get_set,bH4 (by omega)])
       (.inl ⟨hp2.nx,0,_,rfl,bH7 _,bL5 _,by show(hp2.m.set _ _).get _=_;rw[T.get_set,bH6 rfl],ak2 (hcells.mono (U3 _ (hsA.new _ (bH7 _))) (Fle.refl _)) (fun y v hy=>by rw[bI6];exact E9 news y v hy) (by omega)⟩)
      refine⟨_,_,hq,_,F2,_,(d1.trans d3).trans f1,f2,_,hrun,?_⟩;exact VD.sl' (m8 _ _ _) (bL8 0) (by rw[hl1];omega) (geN hl1 (by omega)) (aY2 ie.size).symm (ap3 hl1).symm
    |sl _ _ _ _ _ i o cc hτ h0 hl0 hc=>
     obtain⟨lo,rfl,c1,c2⟩:=hc
     rcases hsA.live b _ hbA with⟨i',o',y,k1,k2,kF,cs,k,rfl,k4,k5⟩| ⟨k1,_⟩
     ·rw[hτ]at k1;simp only[bF4,bF6]at k1;obtain⟨rfl,rfl⟩:=k1
      subst hz';have hij:j≠i:=hsA.inj b2 b _ _ j oj i o hb2 hbA hbb hτ2 hτ;obtain⟨olds,w1,w2,w3,w4⟩:=C6 (τ:=τ2) (off:=off.toI U) (len:=len.toI U) (L:= .op .part [L,off,len]) k4 h0 hl0 p1 rfl;have honeO:olds.all Value.oneCell'=true:=w3.ones rfl;have el:len.toI U=((len.toN U:Nat):Int):=by show len.toI U=((len.toI U).toNat:Int);omega
      obtain⟨v,hp',r1,⟨⟨bb,q',lo',ct,kk,rfl,n2,n3,n4,n5,n6,n7⟩,nnx,nold⟩⟩:=bo8 (hp:=hp2) D (i:=i) (o:=o+off.toN U*ie.size) (n:=len.toN U) (lo:=lo) (at_:=a.toN U) (Nat.max_le.2 ⟨c1,by omega⟩) (by omega) (by omega) hij (hsA.lt b i o hτ) (hsA.lt b2 j oj hτ2) k2 hgj w2 w1 x1 hnl honeO hn1 (w3.noR hnrp) (hLn.noR hnrp)
      have hrun:=aO3 (ov:=ov) (fun k=>by unfold COv;rw[bf3];exact hov) hg r1
      rw[<-ea]at hrun;have hl1:=hlenN _ el;have hVl:=(j7 n7).1;refine(OKh.smove2 (x':= .rows (B3 (B3 A Ln) B)) (cp:= .ge) (hp1:=hp') (j:=bb) (q:=q') (n:=len.toN U+1) (c:=d8 lo' 0) hbA hτ hb2 hτ2 hbb nnx (fun x hx hxi hxj=>nold x hx hxi hxj) n3 n4 n5 (fun τ' hτ'=>?_) hl1 ⟨lo',rfl,n2,by rw[hl1];omega⟩ hsA).mono fun w τ' F' hp3 _ _ ⟨q1,q2⟩=>⟨_,by rw[q1];exact hrun,q2⟩
      refine ak2 (vs:=olds.take (a.toN U*ie.size)++news++olds.drop (a.toN U*ie.size)) ?_ (fun y v hy=>?_) (by rw[hVl];exact n6)
      ·refine l8.mono hτ' (Fle.refl _) (l8.app (l8.app ?_ hLn) ?_)
       ·have:=Y7 (τ:=τ2) k4 h0 (bL8 0) (show 0<=a.toI U by omega) (show 0+a.toI U<=len.toI U by omega) p1 (L:=A) (by rw[hAR];congr 1;omega) w1
        simpa using this
       ·have:=Y7 (τ:=τ2) k4 h0 (show 0<=a.toI U by omega) (show 0<=len.toI U-a.toI U by omega) (show a.toI U+(len.toI U-a.toI U)<=len.toI U by omega) p1 (L:=B) hBR w1
        rw[bK3 (by rw[bK6,w4,<-Nat.sub_mul];exact bG7 _ (by omega))]at this
        exact this
      ·have hyl:y<(len.toN U+1)*ie.size:=by rw[<-hVl];exact(bF7.1 hy).1
       rw[<-(j7 n7).2 y hyl];exact hy
     ·rw[hτ]at k1;cases k1
  ·exact OKh.fail
 ·exact OKh.fail
theorem bb9 {g:FuncId}{ρ:Go.Shelf.Ren}{e:TypeId}{ie:TypeInfo}{zv:Value}(D:ag4 P g ρ e ie zv)(hg:isT (ov g)=false)(hov:ov (ρ.f 27)=some (ρ.t 22)):C0 P U ov (sins P U e ie.size) g:=by
 intro l args τ F s hp hl hs;unfold sins;split
 ·rename_i a x
  obtain⟨y1,ys1,rfl,v1,hl⟩:=hl.uncons;obtain⟨y2,ys2,rfl,v2,hl⟩:=hl.uncons;obtain⟨y3,ys3,rfl,v3,hl⟩:=hl.uncons;have:ys3=[]:=bG0 hl.1.symm;subst this;cases v2;cases v1;cases hk:Nat.beq ie.size (kf P e).length with
  |false=>exact OKh.fail
  |true=>
   simp only[bH1];have hk:=bF9 hk;intro Q hq _;obtain⟨h1,h2⟩:=hs.alloc (x:= .rows (.op .nil []) e ie.size (.int 0)) (p:=none) (hp':=hp) (bH7 _) (fun _ _=>rfl) (.inr ⟨rfl,_,_,_,_,rfl,rfl,hk,bL8 0⟩)
   have hv:VD P U (put τ s.nx none) F (.sl s.nx ie.size (.int 0) (.int 0) .ge) (.slice none 0 0):= .sl0 s.nx ie.size (.int 0) (.int 0) .ge (m8 _ _ _) rfl rfl (fun e he=>by cases he)
   obtain⟨w,s',q1,τ',F',hp',q2,q3,q4⟩:=aU6 (a:=a) D hg hov hv (v3.mono (U3 _ (hs.new _ (bH7 _))) (Fle.refl F)) h2 Q hq h2;exact⟨w,s',q1,τ',F',hp',h1.trans q2,q3,q4⟩
 ·rename_i b z off len a x
  obtain⟨y1,ys1,rfl,v1,hl⟩:=hl.uncons;obtain⟨y2,ys2,rfl,v2,hl⟩:=hl.uncons;obtain⟨y3,ys3,rfl,v3,hl⟩:=hl.uncons;have:ys3=[]:=bG0 hl.1.symm;subst this;cases v2;cases hk:Nat.beq ie.size z with
  |false=>exact OKh.fail
  |true=>
   simp only[bH1];have hk:=bF9 hk;subst hk;exact aU6 D hg hov v1 v3 hs
 ·exact OKh.fail
end
end Go.Sx
end PartSm442
noncomputable section PartSm443
namespace Go.Sx
open Go.Xe
section
variable {P :Program}{U:Nat->List Dat->Dat}{ov:FuncId->Option TypeId}
abbrev aa6:=List (FuncId×(List SV->M SV))
variable (P U ov) in
def aP1 :aa6->Prop
 | []=>True
 |p::xs=>(C0 P U ov p.2 p.1/\isT (ov p.1)=false)/\aP1 xs
variable (P U) in
def E6 (l:List (FuncId×Con)):aa6->FuncId->Option (List SV->M SV)
 | [],g=>conP P U l g
 |p::xs,g=>bif Nat.beq p.1 g then some p.2 else E6 l xs g
theorem bf1 {l:List (FuncId×Con)}(ha:T7 P U ov l):∀ {xs:aa6},aP1 P U ov xs-> ∀g k,E6 P U l xs g=some k->C0 P U ov k g
 | [],_,g,k,hk=>by
  unfold E6 conP at hk;cases h:ak9 P U l g with
  |none=>rw[h]at hk;cases hk
  |some k0=>
   rw[h]at hk;cases hk;exact bu9 (aQ2 ha g k0 h)
 |p::xs,hx,g,k,hk=>by
  unfold E6 at hk;cases hb:Nat.beq p.1 g with
  |true=>
   rw[hb,bH1,bF4]at hk;rw[<-hk,<-bF9 hb];exact hx.1.1
  |false=>rw[hb,bH2]at hk;exact bf1 ha hx.2 g k hk
theorem aG1 {l:List (FuncId×Con)}:∀ {xs:aa6},aP1 P U ov xs-> ∀g,isT (ov g)=true->E6 P U l xs g=none->ak9 P U l g=none
 | [],_,g,_,hn=>by
  unfold E6 conP at hn;cases h:ak9 P U l g with
  |none=>rfl
  |some k0=>rw[h]at hn;cases hn
 |p::xs,hx,g,hg,hn=>by
  unfold E6 at hn;cases hb:Nat.beq p.1 g with
  |true=>rw[hb,bH1]at hn;cases hn
  |false=>rw[hb,bH2]at hn;exact aG1 hx.2 g hg hn
theorem n8 (anns : FuncId → List (Nat × (Fm → SS → R5))) {l : List (FuncId × Con)} (ha : T7 P U ov l) {xs : aa6} (hx : aP1 P U ov xs) (n : Nat) {g : FuncId} {c : Con} {V : Prop} (he : (cvc P U c (sxF P U anns (E6 P U l xs) n g)).vc U (fun _ => True) = V) (hv : V)
  (hT:∀g,isT (ov g)=true->ak9 P U l g≠none:=by exact noT) (hg:isT (ov g)=false:=by rfl):p9 P U ov c g:=
 aI3 (bE9 anns (con:=E6 P U l xs) (bf1 ha hx) (fun g hg hn=>hT g hg (aG1 hx g hg hn)) n g hg) (he.symm▸hv)
theorem Y8 (anns : FuncId → List (Nat × (Fm → SS → R5))) {l : List (FuncId × Con)} (ha : T7 P U ov l) {xs : aa6} (hx : aP1 P U ov xs) (m : Nat) {g : FuncId} {c : Con} (mu : List Dat → Nat) {V : Nat → Prop}
  (he:∀n,(cvc P U (c.below mu (n+1)) (sxF P U anns (E6 P U ((g,c.below mu n)::l) xs) m g)).vc U (fun _=>True)=V n) (hv:∀n,V n)
  (hT:∀n,∀g',isT (ov g')=true->ak9 P U ((g,c.below mu n)::l) g'≠none) (hg:isT (ov g)=false:=by rfl):p9 P U ov c g:=
 bb1 fun n hn=>n8 anns (l:=(g,c.below mu n)::l) ⟨hn,ha⟩ hx m (he n) (hv n) (hT n) hg
end
end Go.Sx
end PartSm443
