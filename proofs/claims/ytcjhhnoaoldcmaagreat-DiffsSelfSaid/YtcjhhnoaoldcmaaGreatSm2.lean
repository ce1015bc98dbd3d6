/- The symbolic engine, parts 13, 14, 15, 16, 17, 18, 19, 20, 21, 22.
  Conditions: none. -/
import Derived.Test.YtcjhhnoaoldcmaaGreatSm1
set_option linter.unusedSimpArgs false
set_option linter.unusedVariables false
namespace Go.Sx
open Go.Xe
inductive Src where
 |lit (l:List SV)
 |rows (L:E)
def Src.cnt (size:Nat):Src->E
 | .lit l=>.int (l.length/size:Nat)
 | .rows L=>p8 L
def Src.blk (e size:Nat):Src->p7
 | .lit l=>.cells l e size
 | .rows L=>.rows L e size (.int 0)
def Src.one :Src->Bool
 | .lit l=>l.all aR4
 | .rows _=>true
section
variable (P :Program)(U:Nat->List Dat->Dat)
def br8 (L off len:E):M Src:=a8 (f7 U (l6 (l9 (p8 L) (l5 off len)))) fun _=>a8 (M6 U L off len) fun c=>c6 (.rows c)
def ssrc (e size : Nat) (x : SV) : M Src :=
 match x with
 | .nils=>c6 (.lit [])
 | .sl b z off len _ => i9 fun s => match s.get b with
  | some (.cells l e' z') => bif Nat.beq e e' && Nat.beq z size && Nat.beq z z' then
    (match off,len with
    | .int o,.int n=>bif decide (0<=o)&&decide (0<=n)&&Nat.ble ((o.toNat+n.toNat)*z) l.length then c6 (.lit ((l.drop (o.toNat*z)).take (n.toNat*z)))else a7 "elements: beyond"
    |off,len=>match az2 P e z l with
     |some L=>br8 U L off len
     |none=>a7 "elements: rows")
   else a7 "elements: type"
  |some (.rows L e' z' _)=>bif Nat.beq e e'&&Nat.beq z size&&Nat.beq z z' then br8 U L off len else a7 "elements: type"
  |_=>a7 "elements: no block"
 | .lst e' L _=>bif Nat.beq e e'&&Nat.beq size (kf P e).length then c6 (.rows (aa8 L))else a7 "elements: type"
 |_=>a7 "elements: value"
def bw6 (e size:Nat)(x:Src):M E:=
 match x with
 | .rows L=>c6 L
 | .lit []=>c6 (.op .nil [])
 | .lit l=>bif Nat.beq size (kf P e).length&&Nat.beq (l.length/size*size) l.length then a8 (aG2 (aT0 P U 20) (kf P e) 0 l) fun es=>c6 (.op (.rows (l.length/size) size) es)else a7 "elements: kinds"
end
section
variable {P :Program}{U:Nat->List Dat->Dat}{τ:Tau}{F:Nat->Option Blk}{s:SS}{hp:Hp}
variable (P U) in
def i8 (τ : Tau) (F : Nat → Option Blk) (e size : Nat) : Src → List Value → Prop
 | .lit l,vs=>VDL P U τ F l vs
 | .rows L, vs => size = (kf P e).length ∧ vs.length = (L.toR U).length * size ∧ (∀ r ∈ L.toR U, r.length = size) ∧
   ∀(r k:Nat) (row:List Dat) (d:Dat),(L.toR U)[r]? =some row->row[k]? =some d-> ∃x,vs[r*size+k]? =some x/\ ∀kd,(kf P e)[k]? =some kd->PV P F kd x d
variable {e size:Nat}{x:Src}{vs:List Value}
theorem i8.mono {τ':Tau}{F':Nat->Option Blk}(ht:Tle τ τ')(hf:Fle F F')(h:i8 P U τ F e size x vs):i8 P U τ' F' e size x vs:=by
 cases x with
 |lit l=>exact VDL.mono ht hf h
 |rows L=>
  obtain⟨h1,h2,h3,h4⟩:=h;exact⟨h1,h2,h3,fun r k row d hr hk=>let⟨x,k1,k2⟩:=h4 r k row d hr hk;⟨x,k1,fun kd b=>(k2 kd b).mono P hf⟩⟩
variable {v:Value}
theorem PV.oneCell {k:Kd}{d:Dat}(h:PV P F k v d):v.oneCell'=true:=by cases h<;>rfl
theorem i8.ones (h:i8 P U τ F e size x vs)(h1:x.one=true):vs.all Value.oneCell'=true:=by
 cases x with
 |lit l=>exact aR5 h h1
 |rows L=>
  obtain⟨C,D,w,A⟩:=h;rw[bI1];intro y hy;obtain⟨j,hj⟩:=bQ3 hy;have d:j<(L.toR U).length*size:=by grind
  have hs:0<size:=by grind
  have hr:j/size<(L.toR U).length:=(Nat.div_lt_iff_lt_mul hs).2 d;have b:(L.toR U)[j/size]? =some (L.toR U)[j/size]:=by simp[hr]
  have hl:=w _ (bP6 hr);have hk:j % size<size:=Nat.mod_lt _ hs;have B:(L.toR U)[j/size][j % size]? =some ((L.toR U)[j/size][j % size]'(by omega)):=by grind
  obtain⟨x,k1,k2⟩:=A _ _ _ _ b B;have r:j/size*size+j % size=j:=by rw[Nat.mul_comm];exact Nat.div_add_mod j size
  rw[r,hj,bF1]at k1;subst k1;have g:(kf P e)[j % size]? =some ((kf P e)[j % size]'(by omega)):=by grind
  exact(k2 _ g).oneCell
variable {n o:Nat}{cs:T Value}
theorem ai3 (h:i8 P U τ F e size x vs)(b:∀(j:Nat) y,vs[j]? =some y->cs.get (o+j)=some y)(hn:o+vs.length<=n):BD P U τ F o (x.blk e size) (.cells cs n e size):=by
 cases x with
 |lit l=>
  refine⟨cs,n,rfl,by rw[h.1];exact hn,fun j a C=>?_⟩
  obtain⟨y,h1,h2⟩:=VDL.get h C;exact⟨y,b j y h1,h2⟩
 |rows L=>
  obtain⟨g,w,A,B⟩:=h;refine⟨cs,n,rfl,⟨by rw[<-w];exact hn,g,A,fun r k row d hr hk=>?_⟩,by show o+(0:Int).toNat*size<=n;simp;omega⟩
  obtain⟨y,k1,k2⟩:=B r k row d hr hk;exact⟨y,by rw[<-b _ _ k1];congr 1;omega,k2⟩
theorem i8.app {A B:E}{g h:List Value}(D:i8 P U τ F e size (.rows A) g)(hb:i8 P U τ F e size (.rows B) h):i8 P U τ F e size (.rows (A8 A B)) (g++h):=by
 obtain⟨w,b,G,H⟩:=D;obtain⟨J,y,K,C⟩:=hb;refine⟨w,by rw[K0];simp[b,y,bI7],fun r hr=>?_,fun r k row d hr hk=>?_⟩
 ·rw[K0]at hr
  grind
 ·rw[K0]at hr
  by_cases hlt:r<(A.toR U).length
  ·grind
  ·rw[bF9 (by omega)]at hr
   obtain⟨x,k1,k2⟩:=C _ k row d hr hk;refine⟨x,?_,k2⟩;have:g.length<=r*size+k:=by rw[b];have:=bG4 size (show(A.toR U).length<=r by omega);omega
   rw[bF9 this,<-k1,b]
   congr 1
   rw[Nat.sub_mul];have:=bG4 size (show(A.toR U).length<=r by omega);omega
variable {z:Nat}
theorem A6   {rows : Rows} (hr : r0 P F e z o n cs rows) {off len : Int} (h0 : 0 ≤ off) (h1 : 0 ≤ len) (h2 : off + len ≤ rows.length) {L : E} ( D : L.toR U = part rows off len) :
  ∃vs,j3 cs (o+off.toNat*z) (len.toNat*z)=some vs/\o+off.toNat*z+len.toNat*z<=n/\i8 P U τ F e z (.rows L) vs/\vs.length=len.toNat*z:=by
 obtain⟨V,M,C,N⟩:=hr;have hl:=L5 h0 h1 h2;obtain⟨vs,v1,J,O⟩:=A4 (c:=cs) (R:=fun j x=>∀(r k:Nat) (row:List Dat) (d:Dat),j=r*z+k->(part rows off len)[r]? =some row->row[k]? =some d-> ∀kd,(kf P e)[k]? =some kd->PV P F kd x d) (len.toNat*z) (o+off.toNat*z) 0 fun j hj=>by
  have hz:0<z:=by
   rcases Nat.eq_zero_or_pos z with h|h
   ·rw[h]at hj;omega
   ·exact h
  have hr:j/z<(part rows off len).length:=by rw[hl];exact(Nat.div_lt_iff_lt_mul hz).2 hj
  have y:(part rows off len)[j/z]? =some (part rows off len)[j/z]:=by simp[hr]
  have w:=T8 y;have B:=C _ (bG1 w);have hk:j % z<z:=Nat.mod_lt _ hz;have K:(part rows off len)[j/z][j % z]? =some ((part rows off len)[j/z][j % z]'(by omega)):=by simp[B,hk]
  obtain⟨x,k1,k2⟩:=N _ _ _ _ w K;have Q:j/z*z+j % z=j:=by rw[Nat.mul_comm];exact Nat.div_add_mod j z
  refine⟨x,by rw[<-k1];congr 1;rw[bI7];omega,fun r k row d T b g kd G=>?_⟩
  have A:k<z:=by
   have:=C _ (bG1 (T8 b));have:=(bF4.1 g).1;omega
  obtain⟨rfl,rfl⟩:=aO2 hk A (show j/z*z+j % z=r*z+k by omega)
  rw[y,bF1]at b;subst b;rw[K,bF1]at g;subst g;exact k2 kd G
 refine⟨vs,v1,?_,⟨M,by rw[J,D,hl],fun r h=>?_,fun r k row d b g=>?_⟩,J⟩
 ·have:off.toNat*z+len.toNat*z<=rows.length*z:=by rw[<-bI7];exact bG4 z (by omega)
  omega
 ·rw[D]at h;exact C r (bN8 (bN7 h))
 ·rw[D]at b
  have A:k<z:=by
   have:=C _ (bG1 (T8 b));have:=(bF4.1 g).1;omega
  have H:r<len.toNat:=by have:=(bF4.1 b).1;omega
  have hj:r*z+k<vs.length:=by
   rw[J];have:r*z+z<=len.toNat*z:=by rw[<-bL8];exact bG4 z H
   omega
  exact⟨vs[r*z+k]'hj,bG3 hj,O (r*z+k) _ (bG3 hj) r k row d (by omega) b g⟩
variable (P U) in
def bC3 (hp:Hp)(e size:Nat)(v:Value)(x:Src)(τ:Tau)(F:Nat->Option Blk):Prop:=∃n vs,m9 hp size v=some (n,vs)/\i8 P U τ F e size x vs/\vs.length=n*size/\(x.cnt size).toI U=n
theorem X5 {i a len c k:Nat}{y:Blk}(b:hp.m.get i=some y)(hr:rdC y=some (cs,k,z))(hk:a+len*size<=k)(hl:j3 cs a (len*size)=some vs):m9 hp size (.slice (some ⟨i,a,none⟩) len c)=some (len,vs):=by
 simp only[m9,b,hr,bF8 hk,bG8,hl]
theorem be6 {L off len:E}{i c k e' w:Nat}(d:hp.m.get i=some (.cells cs k e' w))(hk:n<=k)(hr:r0 P F e z o n cs (L.toR U))(h0:0<=off.toI U)(h1:0<=len.toI U):OKp U (br8 U L off len) s fun x=>bC3 P U hp e z (.slice (some ⟨i,o+off.toN U*z,none⟩) (len.toN U) c) x τ F:=by
 unfold br8;refine OKp.need.bind fun _ _ _ _ p1=>t7.bind fun c' _ _ _ hc=>OKp.ret ?_
 have p1:=p6 p1;rw[d9,d5]at p1;have b:c'.toR U=part (L.toR U) (off.toI U) (len.toI U):=by show(c'.den U).rows=_;rw[hc];rfl
 obtain⟨vs,v1,g,h,r⟩:=A6 (τ:=τ) hr h0 h1 p1 b;refine⟨len.toN U,vs,X5 d rfl (bK9 g hk) v1,h,r,?_⟩;show(p8 c').toI U=_;rw[d5,b,L5 h0 h1 p1]
theorem bh5 (Z:1<=size){a:SV}(H:VD P U τ F a v)(hs:SD P U τ F s hp):OKp U (ssrc P U e size a) s fun x=>bC3 P U hp e size v x τ F:=by
 unfold ssrc;split
 ·cases H
  exact OKp.ret ⟨0,[],by simp[m9],VDL.nil,by simp,by show((0/size:Nat):Int)=0;simp⟩
 ·rename_i b z off len cap
  refine OKp.read ?_;split
  ·rename_i l e' O hb
   cases hq:Nat.beq e e'&&Nat.beq z size&&Nat.beq z O with
   |false=>exact OKp.fail
   |true=>
    simp only[bG8];simp only[bF2,bJ1]at hq;obtain⟨⟨rfl,rfl⟩,rfl⟩:=hq
    rcases hs.live b _ hb with⟨i,o,y,k1,k2,kF,cs,n,rfl,K,M⟩| ⟨k1,L',e',O,aa,k2,k3,K,M⟩
    ·cases H with
     |sl _ _ _ _ _ i' o' c g h0 h1 hc=>
      rw[k1]at g;simp only[bF1,bF3]at g;obtain⟨rfl,rfl⟩:=g;split
      ·rename_i B A
       cases hq:decide (0<=B)&&decide (0<=A)&&Nat.ble ((B.toNat+A.toNat)*z) l.length with
       |false=>exact OKp.fail
       |true=>
        simp only[bG8];simp only[bF2,bH2,bK5]at hq;obtain⟨⟨q1,q2⟩,q3⟩:=hq;rw[bI7]at q3;have e1:(E.int B).toN U=B.toNat:=rfl;have e2:(E.int A).toN U=A.toNat:=rfl;obtain⟨vs,v1,N,v3⟩:=A4 (c:=cs) (R:=fun j x=>∀a,((l.drop (B.toNat*z)).take (A.toNat*z))[j]? =some a->VD P U τ F a x) (A.toNat*z) (o+B.toNat*z) 0 fun j hj=>by
         have V:B.toNat*z+j<l.length:=by omega
         obtain⟨x,w1,w2⟩:=M (B.toNat*z+j) _ (bG3 V)
         grind
        have G:((l.drop (B.toNat*z)).take (A.toNat*z)).length=A.toNat*z:=by grind
        refine OKp.ret ⟨A.toNat,vs,X5 k2 rfl (by show o+B.toNat*z+A.toNat*z<=n;omega) v1,⟨by rw[G,N],fun j a x H hx=>v3 j x hx a (by rw[bI3];exact H)⟩,N,?_⟩
        show((((l.drop (B.toNat*z)).take (A.toNat*z)).length/z:Nat):Int)=_;rw[G,Nat.mul_div_cancel _ Z]
      ·split
       ·rename_i L hL
        exact be6 k2 (bH4 n) (ao7 hL K M) h0 h1
       ·exact OKp.fail
     |sl0 _ _ _ _ _ g h0 h1 hc=>grind
    ·cases k2
  ·rename_i L e' O ph hb
   cases hq:Nat.beq e e'&&Nat.beq z size&&Nat.beq z O with
   |false=>exact OKp.fail
   |true=>
    simp only[bG8];simp only[bF2,bJ1]at hq;obtain⟨⟨rfl,rfl⟩,rfl⟩:=hq
    rcases hs.live b _ hb with⟨i,o,y,k1,k2,kF,cs,n,rfl,K,M⟩| ⟨k1,L',e',O,aa,k2,k3,K,M⟩
    ·cases H with
     |sl _ _ _ _ _ i' o' c g h0 h1 hc=>
      rw[k1]at g;simp only[bF1,bF3]at g;obtain⟨rfl,rfl⟩:=g;exact be6 k2 (bH4 n) K h0 h1
     |sl0 _ _ _ _ _ g h0 h1 hc=>grind
    ·cases H with
     |sl _ _ _ _ _ i' o' c g h0 h1 hc=>grind
     |sl0 _ _ _ _ _ g h0 h1 hc=>
      simp only[p7.rows.injEq]at k2;obtain⟨rfl,rfl,rfl,rfl⟩:=k2;unfold br8;refine OKp.need.bind fun _ _ _ _ p1=>t7.bind fun c' _ _ _ Q=>OKp.ret ?_
      have D:c'.toR U=[]:=by
       show(c'.den U).rows=_;rw[Q,k3];simp[part,Dat.rows]
      refine⟨0,[],by simp[m9],⟨K,by rw[D];simp,fun r h=>(by rw[D]at h;cases h),fun r k row d h=>by rw[D]at h;simp at h⟩,by simp,?_⟩
      show(p8 c').toI U=0;rw[d5,D];rfl
  ·exact OKp.fail
 ·rename_i e' L clip
  cases hq:Nat.beq e e'&&Nat.beq size (kf P e).length with
  |false=>exact OKp.fail
  |true=>
   simp only[bG8];simp only[bF2,bJ1]at hq;obtain⟨rfl,hk⟩:=hq;cases H with
   |lst _ _ _ _ hv hc=>
    refine OKp.ret ?_;have C:(aa8 L).toR U=L.toR U:=by show((aa8 L).den U).rows=_;rw[ak1];rfl
    have w:((Src.rows (aa8 L)).cnt size).toI U=((L.toR U).length:Int):=by show(p8 (aa8 L)).toI U=_;rw[d5,C]
    generalize Y:L.toR U=rows at hv C w;cases hv with
    |nils=>exact⟨0,[],by simp[m9],⟨hk,by rw[C];simp,fun r h=>(by rw[C]at h;cases h),fun r k row d h=>by rw[C]at h;simp at h⟩,by simp,by rw[w];rfl⟩
    |vague=>exact⟨0,[],by simp[m9],⟨hk,by rw[C];simp,fun r h=>(by rw[C]at h;cases h),fun r k row d h=>by rw[C]at h;simp at h⟩,by simp,by rw[w];rfl⟩
    |sl _ i o c b cs n z _ x hF hb ab hn hz hr hx W=>
     have hg:=hs.frz i b hF;have X:r0 P F e z o n cs rows:=⟨hn,hz,hr,fun r k row d h1 h2=>⟨x r k,hx r k row d h1 h2,fun kd T=>W r k row kd d h1 h2 T⟩⟩
     have J:part rows 0 rows.length=rows:=by simp[part]
     obtain⟨vs,v1,N,v3,v4⟩:=A6 (U:=U) (τ:=τ) X (off:=0) (len:=rows.length) (bL5 0) (by omega) (by omega) (L:=aa8 L) (by rw[C,J])
     have e1:(0:Int).toNat*z=0:=by simp
     rw[e1,bL7,bJ2]at v1 N;rw[bJ2]at v4;have ez:z=size:=by omega
     subst ez;exact⟨rows.length,vs,X5 hg hb N v1,v3,v4,w⟩
 ·exact OKp.fail
theorem aL8 (h:i8 P U τ F e size x vs)(hs:SD P U τ F s hp):OKh P U (bw6 P U e size x) τ F s hp fun L τ' F' hp'=>τ'=τ/\hp'=hp/\(size=(kf P e).length->i8 P U τ' F' e size (.rows L) vs):=by
 unfold bw6;split
 ·exact OKh.ret ⟨rfl,rfl,fun _=>h⟩
 ·have J:vs=[]:=bF7 h.1.symm
  subst J;exact OKh.ret ⟨rfl,rfl,fun hk=>⟨hk,by show 0=([]:Rows).length*size;simp,fun r h=>(by cases h),fun r k row d h=>by
   have:([]:Rows)[r]? =some row:=h;simp at this⟩⟩
 ·rename_i l _
  cases hq:Nat.beq size (kf P e).length&&Nat.beq (l.length/size*size) l.length with
  |false=>exact OKh.fail
  |true=>
   simp only[bG8];simp only[bF2,bJ1]at hq;obtain⟨q1,q2⟩:=hq;refine(aj9 (ks:=kf P e) (j:=0) (fun k a v τ F s hp=>ad4 20 k a v τ F s hp) h hs).bind fun es τ1 F1 s1 hp1 ex hs1 ⟨B,C,A,D⟩=>OKh.ret ⟨B,C,fun hk=>?_⟩
   have w:vs.length=es.length:=by rw[A];exact h.1.symm
   have hr:r0 P F1 e size 0 vs.length (fill .e 0 vs) ((E.op (.rows (l.length/size) size) es).toR U):=R5 hk (by rw[A,q2]) (by rw[w];omega) fun j d G=>by
    have hj:j<vs.length:=by grind
    have g:vs[j]? =some vs[j]:=by simp[hj]
    obtain⟨kd,M,N⟩:=D j _ _ g G;refine⟨vs[j],by rw[bI3];exact D2 vs j _ g,fun K H=>?_⟩
    grind
   have b:((E.op (.rows (l.length/size) size) es).toR U).length=l.length/size:=by
    show(chunk size (l.length/size) _).length=_;rw[E3]
   refine⟨hk,by rw[b,q2];exact h.1.symm,hr.2.2.1,fun r k row d h1 h2=>?_⟩
   obtain⟨y,k1,k2⟩:=hr.2.2.2 r k row d h1 h2;refine⟨y,?_,k2⟩;rw[bI3,i4]at k1;split at k1
   ·grind
   ·rw[T.get_e]at k1;cases k1
end
end Go.Sx
namespace Go.Sx
open Go.Xe
section
variable (P :Program)(U:Nat->List Dat->Dat)
def N4 (e size:Nat)(x:Src)(len:E):M SV:=a8 (R6 (x.blk e size)) fun b=>c6 (.sl b size (.int 0) len .ge)
def smove (e size b:Nat)(x:Src)(len:E)(cp:Cp):M SV:=fun s=>.ret (.sl s.nx size (.int 0) len cp,Z5 (s.set b none) (x.blk e size))
def ak9 (e size b : Nat) (off len : E) (cap : Cp) (src : Src) : M SV :=
 a8 (bw6 P U e size src) fun Ln=>i9 fun s=>match s.get b with
 | some (.rows L e' z' ph) => bif Nat.beq e e' && Nat.beq size z' && Nat.beq size (kf P e).length then
   a8 (f7 U (l6 (l9 (p8 L) (l5 off len)))) fun _=>a8 (f7 U (l9 (l5 len (p8 Ln)) (.int 67108865))) fun _=>
   match cap with
   | .ge=>a8 (M6 U L off len) fun Lo=>smove e size b (.rows (A8 Lo Ln)) (l5 len (p8 Ln)) .ge
   | .un=>a8 (M6 U L off len) fun Lo=>smove e size b (.rows (A8 Lo Ln)) (l5 len (p8 Ln)) .un
   | .ex c => a8 (ab0 U (l9 c (l5 len (p8 Ln)))) fun t =>
     bif t then a8 (M6 U L off len) fun Lo=>N4 e size (.rows (A8 Lo Ln)) (l5 len (p8 Ln))
     else a8 (f7 U (l6 (l9 ph (l5 off c)))) fun _=>a8 (Z4 b (some (.rows (.op .over [L,l5 off len,Ln]) e z' ph))) fun _=>c6 (.sl b size off (l5 len (p8 Ln)) (.ex c))
  else a7 "append: type"
 |_=>a7 "append: block"
def sapp (e size : Nat) (s : SV) (src : Src) : M SV :=
 match s with
 | .nils=>match src with
  | .lit []=>c6 .nils
  |src=>a8 (f7 U (l9 (src.cnt size) (.int 67108865))) fun _=>N4 e size src (src.cnt size)
 | .sl b z off len cap => bif Nat.beq z size && src.one then i9 fun st => match st.get b with
   | some (.cells l e' z') => match off, len, src with
    | .int o, .int n, .lit m => bif Nat.beq e e' && Nat.beq z z' && decide (0 ≤ o) && decide (0 ≤ n) && Nat.ble ((o.toNat + n.toNat) * z) l.length && Nat.ble (n.toNat + m.length / size) 67108864 && Nat.beq (m.length / size * size) m.length then
      match cap with
      | .ge=>smove e size b (.lit ((l.drop (o.toNat*z)).take (n.toNat*z)++m)) (.int (n.toNat+m.length/size:Nat)) .ge
      | .un=>a7 "append: cells"
      | .ex c => a8 (ab0 U (l9 c (.int (n.toNat + m.length / size : Nat)))) fun t =>
        bif t then N4 e size (.lit ((l.drop (o.toNat*z)).take (n.toNat*z)++m)) (.int (n.toNat+m.length/size:Nat))
        else bif Nat.ble ((o.toNat+n.toNat)*z+m.length) l.length then a8 (Z4 b (some (.cells (I8 l ((o.toNat+n.toNat)*z) m) e' z'))) fun _=>c6 (.sl b z (.int o) (.int (n.toNat+m.length/size:Nat)) (.ex c))else a7 "append: room"
     else a7 "append: literal"
    |off,len,src=>a8 (ay2 P b) fun _=>ak9 P U e size b off len cap src
   |some (.rows _ _ _ _)=>ak9 P U e size b off len cap src
   |_=>a7 "append: no block"
  else a7 "append: size"
 | .lst e' L true => bif Nat.beq e e' && Nat.beq size (kf P e).length && src.one then
   a8 (ab0 U (z8 (src.cnt size) (.int 0))) fun t=>bif t then a8 (f7 U (l9 (p8 L) (.int 67108865))) fun _=>c6 (.lst e' L true)else
    a8 (bw6 P U e size src) fun Ln=>a8 (f7 U (l9 (l5 (p8 L) (p8 Ln)) (.int 67108865))) fun _=>N4 e size (.rows (A8 (aa8 L) Ln)) (l5 (p8 L) (p8 Ln))
  else a7 "append: type"
 |_=>a7 "append: value"
def bg0 (t u:TypeId)(s x:SV):M SV:=
 match P.underlying t,P.underlying u with
 |some (.slice e),some (.slice _)=>match P.info? e with
  |none=>a7 "append: type"
  |some ie=>match ie.zero with
   |none=>a7 "append: zero"
   |some z=>bif Nat.beq z.cells.toList.length ie.size&&Nat.ble ie.bytes 1048576&&Nat.ble 1 ie.size then a8 (ssrc P U e ie.size x) fun src=>sapp P U e ie.size s src else a7 "append: size"
 |_,_=>a7 "append: type"
end
section
variable {P :Program}{U:Nat->List Dat->Dat}{τ:Tau}{F:Nat->Option Blk}{s:SS}{hp:Hp}
noncomputable def P6 (hp : Hp) (e size n : Nat) (news : List Value) (s : Value) : Option (Value × Hp) :=
 match s with
 | .slice none sLen sCap => bif Nat.beq sLen 0 && Nat.beq sCap 0 && Nat.ble n 67108864 then
   bif Nat.beq n 0 then some (.slice none 0 0,hp)
   else some (.slice (some ⟨hp.nx,0,none⟩) n (c7 n 0),hp.new news e size)
  else none
 | .slice (some ⟨i,o,none⟩) sLen sCap=>match hp.m.get i with
  |some (.cells c k e' z')=>
   bif Nat.ble (sLen+n) 67108864&&news.all Value.oneCell' then
    bif Nat.beq n 0 then
     bif Nat.ble sLen sCap then some (.slice (some ⟨i,o,none⟩) sLen sCap,hp)else none
    else
     bif Nat.ble unk sCap then
      bif Nat.ble 1 (z7 sCap)&&Nat.ble (z7 sCap) (sLen+n)then
       bif Nat.ble (o+sLen*size) k then
        match j3 c o (sLen*size)with
        |none=>none
        |some olds=>some (.slice (some ⟨hp.nx,0,none⟩) (sLen+n) (c7 (sLen+n) 0),hp.new (olds++news) e size)
       else none
      else bif Nat.beq z' size&&Nat.beq e' e&&Nat.ble (o+sLen*size) k then
       bif Nat.ble (sLen+n) (F7 sCap)then
        some (.slice (some ⟨i,o,none⟩) (sLen+n) sCap,aq1 hp i c (Nat.max k (o+(sLen+n)*size)) e' z' (o+sLen*size) news)
       else
       match j3 c o (sLen*size)with
       |none=>none
       |some olds=>
        (bif Nat.beq o 0 then fill c (sLen*size) news else fill (fill .e 0 olds) (sLen*size) news).force fun ct=>
         some (.slice (some ⟨hp.nx,0,none⟩) (sLen+n) (c7 (sLen+n) 0),⟨(hp.m.set i none).set hp.nx (some (.cells ct ((sLen+n)*size) e' z')),hp.nx+1⟩)
      else none
     else bif Nat.ble (sLen+n) sCap then
      bif Nat.ble (o+(sLen+n)*size) k then
       some (.slice (some ⟨i,o,none⟩) (sLen+n) sCap,aq1 hp i c k e' z' (o+sLen*size) news)
      else none
     else
      bif Nat.ble (o+sLen*size) k then
       match j3 c o (sLen*size)with
       |none=>none
       |some olds=>some (.slice (some ⟨hp.nx,0,none⟩) (sLen+n) (c7 (sLen+n) 0),hp.new (olds++news) e size)
      else none
   else none
  |some (.ro c k _ _)=>
   bif Nat.ble (sLen+n) 67108864&&Nat.ble sLen sCap&& !Nat.ble unk sCap then
    bif Nat.beq n 0 then some (.slice (some ⟨i,o,none⟩) sLen sCap,hp)
    else bif Nat.ble (sLen+n) sCap then none
    else bif Nat.ble (o+sLen*size) k then
     match j3 c o (sLen*size)with
     |none=>none
     |some olds=>some (.slice (some ⟨hp.nx,0,none⟩) (sLen+n) (c7 (sLen+n) 0),hp.new (olds++news) e size)
    else none
   else none
  |_=>none
 |_=>none
variable {n:Nat}{news:List Value}
theorem bb9 {t u e  d : TypeId} {ie : TypeInfo} {z : Value} (ht : P.underlying t = some (.slice e)) ( g : P.underlying u = some (.slice  d)) (hi : P.info? e = some ie) (hz : ie.zero = some z) (hb : (Nat.beq z.cells.toList.length ie.size && Nat.ble ie.bytes 1048576) = true) { b xv : Value}  
  (hx:m9 hp ie.size xv=some (n,news)):v9 P hp t u b xv=P6 hp e ie.size n news b:=by
 simp only[v9,ht,g,hi,hz,hb,bG8,hx];rfl
variable (P U) in
def av5 (hp:Hp)(e size n:Nat)(news:List Value)(sv:Value)(c:SV)(τ:Tau)(F:Nat->Option Blk)(hp':Hp):Prop:=∃w,P6 hp e size n news sv=some (w,hp')/\VD P U τ F c w
theorem geN {len:E}(h:len.toI U=n)(hn:n<=67108864):aw4 U len .ge (c7 n 0):=⟨n,rfl,hn,by rw[h];exact Int.ofNat_le.2 hn⟩
theorem aW8 (z:Nat):0+(E.int 0).toN U*z=0:=by show 0+(0:Int).toNat*z=0;simp
theorem ap3 {len:E}(h:len.toI U=n):len.toN U=n:=by show(len.toI U).toNat=n;rw[h];exact bJ2 n
variable {e size:Nat}
theorem D6  {x : Src} {vs : List Value} {len : E} (h : i8 P U τ F e size x vs) (   d : len.toI U = n) (hn : n ≤ 67108864) (hs : SD P U τ F s hp) :
  OKh P U (N4 e size x len) τ F s hp fun c τ' F' hp'=>hp'=hp.new vs e size/\VD P U τ' F' c (.slice (some ⟨hp.nx,0,none⟩) n (c7 n 0)):=by
 unfold N4;refine(OKh.alloc (y:= .cells (fill .e 0 vs) vs.length e size) hs fun τ' ht=>ai3 (h.mono ht (Fle.refl F)) (fun j y hy=>by rw[bI3];exact D2 vs j y hy) (by omega)).bind fun b τ' F' s' hp' _ g ⟨h1,h2,h3⟩=>OKh.ret ⟨h3,?_⟩
 subst h1;exact VD.sl' h2 (bL5 0) (by rw[d];omega) (geN d hn) (aW8 size).symm (ap3 d).symm
theorem OKh.smove {e size b i o j q n c : Nat} {x : p7} {x' : Src} {len : E} {cp : Cp} (hb : s.get b = some x) (ht : τ b = some (some (i, o))) {hp1 : Hp} (hn : hp.nx ≤ hp1.nx) (hk : ∀ k, k < hp.nx → k ≠ i → hp1.m.get k = hp.m.get k) (hj : j = i ∨ hp.nx ≤ j) (  g : j < hp1.nx)
  {y:Blk} (hi:hp1.m.get j=some y) (h:∀τ',Tle τ τ'->BD P U τ' F q (x'.blk e size) y) (d:len.toI U=n) (hc:aw4 U len cp c) (hs:SD P U τ F s hp):
  OKh P U (smove e size b x' len cp) τ F s hp fun a τ' F' hp'=>hp'=hp1/\VD P U τ' F' a (.slice (some ⟨j,q,none⟩) n c):=by
 intro Q hq _;have h0:τ s.nx=none:=hs.new _ (bH4 _);obtain⟨h1,h2⟩:=hs.move (x':=x'.blk e size) (q:=q) hb ht hn hk hj g hi (h _ (R3 _ h0));refine⟨_,_,hq,_,F,hp1,h1,h2,rfl,?_⟩;exact VD.sl' (i6 _ _ _) (bL5 0) (by rw[d];omega) hc (by show q=q+(0:Int).toNat*size;simp) (ap3 d).symm
variable {cs:T Value}{olds:List Value}
theorem V3 {a:Nat}(h:∀(j:Nat) y,olds[j]? =some y->cs.get (a+j)=some y)(j:Nat)(y:Value)(hy:(olds++news)[j]? =some y):(fill cs (a+olds.length) news).get (a+j)=some y:=by
 rw[i4]
 grind
variable {i k q sLen:Nat}{res:Src}
theorem aX3 {b o lo:Nat} {x : p7}   {len : E}  {cp : Cp} (  G : ∀ c, aw4 U len .ge c → aw4 U len cp c) (hb : s.get b = some x) (ht : τ b = some (some (i, o))) ( V : hp.m.get i = some (.cells cs k e size)) (hl : j3 cs q (sLen * size) = some olds) (hk : q + sLen * size ≤ k)
  (W:news.all Value.oneCell'=true) (O:news.length=n*size) (L:lo<=67108864) (Q:sLen+n<=67108864) (B:i8 P U τ F e size res (olds++news)) (d:len.toI U=((sLen+n:Nat):Int)) (hs:SD P U τ F s hp):
  OKh P U (smove e size b res len cp) τ F s hp (av5 P U hp e size n news (.slice (some ⟨i,q,none⟩) sLen (c7 lo 0))):=by
 have K:i<hp.nx:=hs.lt b i o ht;obtain⟨X,Y⟩:=f9 hl;have A:∀(j:Nat) y,olds[j]? =some y->cs.get (q+j)=some y:=fun j y hy=>by
  grind
 have hx:∀w hp1,P6 hp e size n news (.slice (some ⟨i,q,none⟩) sLen (c7 lo 0))=some (w,hp1)->(∀a τ' F' hp',Tle τ τ'->Fle F F'->hp'=hp1/\VD P U τ' F' a w->av5 P U hp e size n news (.slice (some ⟨i,q,none⟩) sLen (c7 lo 0)) a τ' F' hp'):=
  fun w hp1 h a τ' F' hp' _ _ ⟨h1,h2⟩=>⟨w,by rw[h1];exact h,h2⟩
 have r:(Nat.ble (sLen+n) 67108864&&news.all Value.oneCell')=true:=by simp_all
 by_cases N:n=0
 ·
  subst N;have H:news=[]:=bF7 (by rw[O];simp)
  subst H;have J:∀c,unk<=c->Nat.ble sLen c=true:=fun c hc=>bF8 (bK9 (Nat.le_of_lt (av4 (by omega))) hc)
  have R:∀c,unk<=c->P6 hp e size 0 [] (.slice (some ⟨i,q,none⟩) sLen c)=some (.slice (some ⟨i,q,none⟩) sLen c,hp):=by
   intro c hc;simp only[P6,V,r,bG8,J c hc];rfl
  have g:=R _ (j4 lo 0);refine(OKh.smove (hp:=hp) (c:=c7 lo 0) (hp1:=hp) (j:=i) (q:=q) (n:=sLen) hb ht (bH4 _) (fun _ _ _=>rfl) (.inl rfl) K V (fun τ' C=>?_) d (G _ ⟨lo,rfl,L,by rw[d];omega⟩) hs).mono (hx _ _ g)
  exact ai3 (B.mono C (Fle.refl F)) (fun j y hy=>A j y (by simpa using hy)) (by simp;omega)
 ·have   g : P6 hp e size n news (.slice (some ⟨i, q, none⟩) sLen (c7 lo 0)) = bif Nat.ble (sLen + n) lo then
    some (.slice (some ⟨i,q,none⟩) (sLen+n) (c7 lo 0),aq1 hp i cs (Nat.max k (q+(sLen+n)*size)) e size (q+sLen*size) news)
    else(bif Nat.beq q 0 then fill cs (sLen*size) news else fill (fill .e 0 olds) (sLen*size) news).force fun ct=>
     some (.slice (some ⟨hp.nx,0,none⟩) (sLen+n) (c7 (sLen+n) 0),⟨(hp.m.set i none).set hp.nx (some (.cells ct ((sLen+n)*size) e size)),hp.nx+1⟩):=by
   simp only[P6,V,r,bG8,m8 N,bG9,bF8 (j4 lo 0),aO7,aw2];rw[show Nat.ble 1 0=false from rfl,Bool.false_and,bG9,j9 rfl,j9 rfl,bF8 hk,hl]
   grind
  have M:(sLen+n)*size=sLen*size+n*size:=bI7 _ _ _;cases D:Nat.ble (sLen+n) lo with
  |true=>
   rw[D,bG8]at g;simp only[aq1,T.force_eq]at g;refine(OKh.smove (hp:=hp) (c:=c7 lo 0) (hp1:= {hp with m:=hp.m.set i (some (.cells (fill cs (q+sLen*size) news) (Nat.max k (q+(sLen+n)*size)) e size))}) (j:=i) (q:=q) (n:=sLen+n) hb ht (bH4 _)
    (fun j _ hj=>by rw[T.get_set,bH1 hj]) (.inl rfl) K (by rw[T.get_set,bH3 rfl]) (fun τ' C=>?_) d (G _ ⟨lo,rfl,L,by rw[d];omega⟩) hs).mono (hx _ _ g)
   refine ai3 (B.mono C (Fle.refl F)) (fun j y hy=>?_) ?_
   ·rw[<-X];exact V3 A j y hy
   ·grind
  |false=>
   rw[D,bG9,T.force_eq]at g;refine(OKh.smove (hp:=hp) (c:=c7 (sLen+n) 0) (hp1:=⟨(hp.m.set i none).set hp.nx (some (.cells (bif Nat.beq q 0 then fill cs (sLen*size) news else fill (fill .e 0 olds) (sLen*size) news) ((sLen+n)*size) e size)),hp.nx+1⟩) (j:=hp.nx) (q:=0) (n:=sLen+n) hb ht (bM6 _)
    (fun j hj H=>by rw[T.get_set,bH1 (by omega),T.get_set,bH1 H]) (.inr (bH4 _)) (bL2 _) (by rw[T.get_set,bH3 rfl]) (fun τ' C=>?_) d (G _ (geN d Q)) hs).mono (hx _ _ g)
   refine ai3 (B.mono C (Fle.refl F)) (fun j y hy=>?_) (by simp only[bH8,X,O];omega)
   by_cases hq:q=0
   ·rw[j9 hq,bG8]
    have:=V3 (cs:=cs) (a:=0) (fun j y hy=>by rw[bI3,<-A j y hy,hq,bI3]) j y hy
    grind
   ·rw[m8 hq,bG9]
    have:=V3 (cs:=fill .e 0 olds) (a:=0) (fun j y hy=>by rw[bI3];exact D2 olds j y hy) j y hy
    grind
theorem bp3 {b o:Nat} {x : p7}   {len : E}  (hb : s.get b = some x) (ht : τ b = some (some (i, o))) ( G : hp.m.get i = some (.cells cs k e size)) (hl : j3 cs q (sLen * size) = some olds) (hk : q + sLen * size ≤ k)
  (L:news.all Value.oneCell'=true) (K:news.length=n*size) (A:sLen<unk) (D:sLen+n<=67108864) (h:i8 P U τ F e size res (olds++news)) (d:len.toI U=((sLen+n:Nat):Int)) (hs:SD P U τ F s hp):
  OKh P U (smove e size b res len .un) τ F s hp (av5 P U hp e size n news (.slice (some ⟨i,q,none⟩) sLen sLen)):=by
 have H:i<hp.nx:=hs.lt b i o ht;obtain⟨M,N⟩:=f9 hl;have C:∀(j:Nat) y,olds[j]? =some y->cs.get (q+j)=some y:=fun j y hy=>by
  grind
 have g:(Nat.ble (sLen+n) 67108864&&news.all Value.oneCell')=true:=by simp_all
 by_cases B:n=0
 ·subst B
  have J:news=[]:=bF7 (by rw[K];simp)
  subst J;have r:P6 hp e size 0 [] (.slice (some ⟨i,q,none⟩) sLen sLen)=some (.slice (some ⟨i,q,none⟩) sLen sLen,hp):=by
   simp only[P6,G,g,bG8,bF8 (bH4 sLen)];rfl
  refine(OKh.smove (cp:= .un) (hp:=hp) (c:=sLen) (hp1:=hp) (j:=i) (q:=q) (n:=sLen) hb ht (bH4 _) (fun _ _ _=>rfl) (.inl rfl) H G (fun τ' w=>?_) d (Or.inl ⟨A,(ap3 d).symm,by rw[d];omega⟩) hs).mono fun a τ' F' hp' _ _ ⟨h1,h2⟩=>⟨_,by rw[h1];exact r,h2⟩
  exact ai3 (h.mono w (Fle.refl F)) (fun j y hy=>C j y (by simpa using hy)) (by simp;omega)
 ·have   r : P6 hp e size n news (.slice (some ⟨i, q, none⟩) sLen sLen) = some (.slice (some ⟨hp.nx, 0, none⟩) (sLen + n) (c7 (sLen + n) 0), hp.new (olds ++ news) e size) := by
   simp only[P6,G,g,bG8,m8 B,bG9,S8 A,S8 (show sLen<sLen+n by omega),bF8 hk,hl]
  refine(OKh.smove (cp:= .un) (hp:=hp) (c:=c7 (sLen+n) 0) (hp1:=hp.new (olds++news) e size) (y:= .cells (fill .e 0 (olds++news)) (olds++news).length e size) (j:=hp.nx) (q:=0) (n:=sLen+n) hb ht (bM6 _)
   (fun j hj _=>by show(hp.m.set hp.nx _).get j=_;rw[T.get_set,bH1 (by omega)]) (.inr (bH4 _)) (bL2 _) (by show(hp.m.set hp.nx _).get hp.nx=_;rw[T.get_set,bH3 rfl]) (fun τ' w=>?_) d (Or.inr (geN d D)) hs).mono fun a τ' F' hp' _ _ ⟨h1,h2⟩=>⟨_,by rw[h1];exact r,h2⟩
  exact ai3 (h.mono w (Fle.refl F)) (fun j y hy=>by rw[bI3];exact D2 _ j y hy) (by omega)
theorem bd5 {c:Nat}   {len : E}  ( A : hp.m.get i = some (.cells cs k e size)) (hl : j3 cs q (sLen * size) = some olds) (hk : q + sLen * size ≤ k)
  (g:news.all Value.oneCell'=true) (r:c<unk) (B:sLen<=c) (w:c<sLen+n) (b:sLen+n<=67108864) (h:i8 P U τ F e size res (olds++news)) (d:len.toI U=((sLen+n:Nat):Int)) (hs:SD P U τ F s hp):
  OKh P U (N4 e size res len) τ F s hp (av5 P U hp e size n news (.slice (some ⟨i,q,none⟩) sLen c)):=by
 have y:P6 hp e size n news (.slice (some ⟨i,q,none⟩) sLen c)=some (.slice (some ⟨hp.nx,0,none⟩) (sLen+n) (c7 (sLen+n) 0),hp.new (olds++news) e size):=by
  simp only[P6,A];rw[show(Nat.ble (sLen+n) 67108864&&news.all Value.oneCell')=true by simp only[bF2,bK5];exact⟨b,g⟩]
  simp only[bG8,m8 (show n≠0 by omega),bG9,S8 r,S8 w,bF8 hk,hl]
 exact(D6 h d b hs).mono fun a τ' F' hp' _ _ ⟨h1,h2⟩=>⟨_,by rw[h1];exact y,h2⟩
theorem bp4 {c:Nat}   ( h : hp.m.get i = some (.cells cs k e size)) (   B : news.all Value.oneCell' = true) (  A : news.length = n * size) (  g : c < unk) (  r : sLen ≤ c) (  w : sLen + n ≤ c) (   C : sLen + n ≤ 67108864) (hk : q + (sLen + n) * size ≤ k) {e0 : Nat} :
  ∃m,P6 hp e0 size n news (.slice (some ⟨i,q,none⟩) sLen c)=some (.slice (some ⟨i,q,none⟩) (sLen+n) c,{hp with m:=m})/\(∀j,j≠i->m.get j=hp.m.get j)/\m.get i=some (.cells (fill cs (q+sLen*size) news) k e size):=by
 have b:(Nat.ble (sLen+n) 67108864&&news.all Value.oneCell')=true:=by simp_all
 by_cases d:n=0
 ·subst d
  have y:news=[]:=bF7 (by rw[A];simp)
  subst y;refine⟨hp.m,?_,fun _ _=>rfl,h⟩
  simp only[P6,h,b,bG8,j9,bF8 r];rfl
 ·refine⟨hp.m.set i (some (.cells (fill cs (q+sLen*size) news) k e size)),?_,fun j hj=>by rw[T.get_set,bH1 hj],by rw[T.get_set,bH3 rfl]⟩
  simp only[P6,h,b,bG8,m8 d,bG9,S8 g,bF8 w,bF8 hk,aq1,T.force_eq]
end
end Go.Sx
namespace Go.Sx
open Go.Xe
section
variable {P :Program}{U:Nat->List Dat->Dat}{τ:Tau}{F:Nat->Option Blk}{s:SS}{hp:Hp}
theorem OKh.change0 {b:Nat}{x:p7}(hb:s.get b=some x)(ht:τ b=some none){x':p7}(hx:∃L e z ph,x'= .rows L e z ph/\L.toR U=[]/\z=(kf P e).length/\ph.toI U<=0)(hs:SD P U τ F s hp):OKh P U (Z4 b (some x')) τ F s hp fun _ τ' F' hp'=>τ'=τ/\F'=F/\hp'=hp:=by
 intro Q hq _;have g:∀c y,(s.set b (some x')).get c=some y-> ∃y,s.get c=some y:=by
  intro c y hc;rw[SS.get_set]at hc
  grind
 refine⟨(),_,hq,τ,F,hp,⟨Tle.refl τ,Fle.refl F,bH4 _,bH4 _,fun _ _=>rfl,fun c y hc _=>g c y hc,⟨[(b,some x')],rfl,fun _ _ _=>rfl,fun c j q hc h=>(by rw[hs.new c hc]at h;cases h),fun _ _ _ h=>.inl h,fun _ _ _ h=>h⟩,⟨[],rfl⟩⟩,
  ⟨fun c y hc=>?_,fun c d y z j q k r hc C w A B=>?_,hs.frz,hs.lt,hs.flt,hs.new,hs.fc,hs.fz⟩,rfl,rfl,rfl⟩
 ·rw[SS.get_set]at hc
  by_cases e:c=b
  ·grind
  ·rw[bH1 e]at hc;exact hs.live c y hc
 ·obtain⟨D,hy⟩:=g c y hc
  obtain⟨E,hz⟩:=g d z C;exact hs.inj c d D E j q k r hy hz w A B
variable {e n size:Nat}{vs:List Value}
theorem aU0  {L len : E}  (h : i8 P U τ F e size (.rows L) vs) (  r : vs.length = n * size) (   b : len.toI U = n) (  d : (L.toR U).length = n) (hn : n ≤ 67108864) (hs : SD P U τ F s hp) :
  OKh P U (N4 e size (.rows L) len) τ F s hp fun c τ' F' hp'=>(n=0/\hp'=hp/\VD P U τ' F' c (.slice none 0 0))\/(n≠0/\hp'=hp.new vs e size/\VD P U τ' F' c (.slice (some ⟨hp.nx,0,none⟩) n (c7 n 0))):=by
 by_cases h0:n=0
 ·subst h0
  intro Q hq _;have g:L.toR U=[]:=bF7 d;obtain⟨h1,h2⟩:=hs.alloc (x:=(Src.rows L).blk e size) (p:=none) (hp':=hp) (bH4 _) (fun _ _=>rfl) (.inr ⟨rfl,L,e,size,.int 0,rfl,g,h.1,bL5 0⟩)
  refine⟨_,_,hq,_,F,hp,h1,h2,.inl ⟨rfl,rfl,?_⟩⟩;exact .sl0 s.nx size (.int 0) len .ge (i6 _ _ _) rfl b (fun e he=>by cases he)
 ·exact(D6 h b hn hs).mono fun c τ' F' hp' _ _ ⟨h1,h2⟩=>.inr ⟨h0,h1,h2⟩
variable {news:List Value}
theorem C6 (hn:n<=67108864):P6 hp e size n news (.slice none 0 0)=bif Nat.beq n 0 then some (.slice none 0 0,hp)else some (.slice (some ⟨hp.nx,0,none⟩) n (c7 n 0),hp.new news e size):=by
 simp only[P6];rw[show(Nat.beq 0 0&&Nat.beq 0 0&&Nat.ble n 67108864)=true by simp only[bF2,bK5];exact⟨⟨rfl,rfl⟩,hn⟩,bG8]
theorem aj0 {L:E}(b:1<=size)(h:i8 P U τ F e size (.rows L) vs)(d:vs.length=n*size):(L.toR U).length=n:=by
 have:=h.2.1;rw[d]at this;exact(Nat.eq_of_mul_eq_mul_right b this).symm
def toUn :SV->SV
 | .sl b z off len .ge=>.sl b z off len .un
 |a=>a
variable {v:Value}
theorem bB6 {a:SV}(h:VD P U τ F a v):VD P U τ F (toUn a) v:=by
 unfold toUn;split
 ·cases h with
  |sl _ _ _ _ _ i o c h h0 h1 hc=>exact .sl _ _ _ _ .un i o c h h0 h1 (Or.inr hc)
  |sl0 _ _ _ _ _ h h0 h1 hc=>exact .sl0 _ _ _ _ .un h h0 h1 (fun e he=>by cases he)
 ·exact h
theorem ar8 {b:Nat} ( aq : 1 ≤ size) {off len : E} {cap : Cp} {src : Src}   (ha : VD P U τ F (.sl b size off len cap) v) (  ai : i8 P U τ F e size src news) (  O : news.length = n * size) (   D : news.all Value.oneCell' = true) (hs : SD P U τ F s hp) :
  OKh P U (ak9 P U e size b off len cap src) τ F s hp (av5 P U hp e size n news v):=by
 unfold ak9;refine(aL8 ai hs).bind fun Ln τ1 F1 s1 hp1 ex hs1 ⟨e1,e2,B⟩=>OKh.read ?_
 subst e1;subst e2;have ha:=ha.mono ex.t ex.f;split
 ·rename_i L e' z' ph hb
  cases hq:Nat.beq e e'&&Nat.beq size z'&&Nat.beq size (kf P e).length with
  |false=>exact OKh.fail
  |true=>
   simp only[bG8];simp only[bF2,bJ1]at hq;obtain⟨⟨rfl,rfl⟩,ak⟩:=hq;have B:=B ak;have A:=aj0 aq B O;refine OKh.bindp OKp.need fun _ s2 o2 ay p1=>OKh.bindp OKp.need fun _ s3 o3 ao p2=>?_
   have p1:=p6 p1;have p2:=u9 p2;rw[d9,d5]at p1;rw[d9,d5,A]at p2;simp only[q7]at p2;have C:s3.get b=some (.rows L e size ph):=by rw[(o2.trans o3).get];exact hb
   rcases ao.live b _ C with⟨i,o,y,k1,k2,kF,cs,k,rfl,k4,k5⟩| ⟨k1,L',e',z',az,k2,k3,k4,k5⟩
   ·cases ha with
    |sl0 _ _ _ _ _ K h0 h1 hc=>grind
    |sl _ _ _ _ _ i' o' c K h0 h1 hc=>
     rw[k1]at K;simp only[bF1,bF3]at K;obtain⟨rfl,rfl⟩:=K;have aw:len.toI U=((len.toN U:Nat):Int):=by grind
     have ax:off.toI U=((off.toN U:Nat):Int):=by grind
     have d:(l5 len (p8 Ln)).toI U=((len.toN U+n:Nat):Int):=by rw[d9,d5,A];omega
     have olds:∀Lo:E,Lo.den U= .lst (part (L.toR U) (off.toI U) (len.toI U))-> ∃vs,j3 cs (o+off.toN U*size) (len.toN U*size)=some vs/\o+off.toN U*size+len.toN U*size<=k/\i8 P U τ1 F1 e size (.rows (A8 Lo Ln)) (vs++news):=by
      intro Lo g;have hR:Lo.toR U=part (L.toR U) (off.toI U) (len.toI U):=by show(Lo.den U).rows=_;rw[g];rfl
      obtain⟨vs,v1,M,X,v4⟩:=A6 (τ:=τ1) k4 h0 h1 p1 hR;exact⟨vs,v1,M,X.app B⟩
     split
     ·
      obtain⟨lo,rfl,Y,c2⟩:=hc;refine OKh.bindp t7 fun Lo V N w g=>?_
      obtain⟨vs,v1,M,X⟩:=olds Lo g;exact aX3 (fun _ h=>h) (by rw[N.get];exact C) k1 k2 v1 M D O Y (by omega) X d w
     ·
      refine OKh.bindp t7 fun Lo V N w g=>?_
      obtain⟨vs,v1,M,X⟩:=olds Lo g
      rcases hc with⟨Y,rfl,c2⟩| ⟨lo,rfl,Y,c2⟩
      ·exact bp3 (by rw[N.get];exact C) k1 k2 v1 M D O Y (by omega) X d w
      ·exact aX3 (cp:= .un) (fun _ h=>Or.inr h) (by rw[N.get];exact C) k1 k2 v1 M D O Y (by omega) X d w
     ·rename_i c0
      obtain⟨Y,rfl,c3,c4⟩:=hc;have av:c0.toI U=((c0.toN U:Nat):Int):=by grind
      refine OKh.bindp OKp.test fun t V N w ht=>?_
      rw[y9,d]at ht;cases t with
      |true=>
       simp only[bH2]at ht;simp only[bG8];refine OKh.bindp t7 fun Lo s5 o5 J g=>?_
       obtain⟨vs,v1,M,X⟩:=olds Lo g;exact bd5 k2 v1 M D c3 (by omega) (by omega) (by omega) X d J
      |false=>
       simp only[bJ9]at ht;simp only[bG9];refine OKh.bindp OKp.need fun _ s5 o5 J p3=>?_
       have p3:=p6 p3;rw[d9]at p3;have ac:s5.get b=some (.rows L e size ph):=by rw[(N.trans o5).get];exact C
       have R:o+off.toN U*size+(len.toN U+n)*size<=k:=by
        have:(off.toN U+(len.toN U+n))*size<=ph.toN U*size:=bG4 size (by show off.toN U+(len.toN U+n)<=(ph.toI U).toNat;omega)
        grind
       obtain⟨m,m1,m2,m3⟩:=bp4 (e0:=e) (q:=o+off.toN U*size) (c:=c0.toN U) k2 D O c3 (by omega) (by omega) (by omega) R
       have ah:(l5 off len).toI U=off.toI U+len.toI U:=d9 off len;have W:((l5 off len).toI U).toNat=off.toN U+len.toN U:=by grind
       have ad:r0 P F1 e size o k (fill cs (o+off.toN U*size+len.toN U*size) news) ((E.op .over [L,l5 off len,Ln]).toR U):=by
        have:=r0.over (news:=news) (l:=Ln.toR U) (a:=(l5 off len).toI U) k4 (by rw[ah];exact p1) B.2.2.1 B.2.1 (by rw[W,A,bI7,bI7];rw[bI7]at R;omega) B.2.2.2
        rw[W,bI7,<-bL1]at this;exact this
       refine(OKh.change (x':= .rows (.op .over [L,l5 off len,Ln]) e size ph) (m:=m) ac k1 m2 m3 ⟨_,k,rfl,ad,k5⟩).bind fun _ au F2 s6 al _ ap ⟨w1,w2,w3⟩=>?_
       subst w1;subst w2;refine OKh.ret ⟨.slice (some ⟨i,o+off.toN U*size,none⟩) (len.toN U+n) (c0.toN U),by rw[w3];exact m1,VD.sl' k1 h0 (by omega) ⟨Y,rfl,c3,by omega⟩ rfl (ap3 d).symm⟩
   ·cases ha with
    |sl _ _ _ _ _ i' o' c K h0 h1 hc=>grind
    |sl0 _ _ _ _ _ K h0 h1 hc=>
     simp only[p7.rows.injEq]at k2;obtain⟨rfl,rfl,rfl,rfl⟩:=k2;have hn:n<=67108864:=by omega
     have d:(l5 len (p8 Ln)).toI U=(n:Int):=by rw[d9,d5,A];omega
     have G:∀Lo:E,Lo.den U= .lst (part (L.toR U) (off.toI U) (len.toI U))->i8 P U τ1 F1 e size (.rows (A8 Lo Ln)) news/\((A8 Lo Ln).toR U).length=n:=by
      intro Lo g;have hR:Lo.toR U=[]:=by show(Lo.den U).rows=_;rw[g,k3];simp[part,Dat.rows]
      have hA:(A8 Lo Ln).toR U=Ln.toR U:=by rw[K0,hR];rfl
      obtain⟨q1,q2,q3,q4⟩:=B;exact⟨⟨q1,by rw[hA];exact q2,by rw[hA];exact q3,by rw[hA];exact q4⟩,by rw[hA];exact A⟩
     split
     ·refine OKh.bindp t7 fun Lo V N w g=>?_
      obtain⟨v1,M⟩:=G Lo g
      by_cases H:n=0
      ·subst H
       intro Q hq _;have aj:V.get b=some (.rows L e size ph):=by rw[N.get];exact C
       obtain⟨Z,T⟩:=w.drop b;obtain⟨aa,ab⟩:=T.alloc (x:=(Src.rows (A8 Lo Ln)).blk e size) (p:=none) (hp':=hp1) (bH4 _) (fun _ _=>rfl) (.inr ⟨rfl,_,e,size,.int 0,rfl,bF7 M,v1.1,bL5 0⟩)
       refine⟨_,_,hq,_,F1,hp1,Z.trans aa,ab,.slice none 0 0,by rw[C6 hn];rfl,?_⟩
       exact .sl0 _ size (.int 0) _ .ge (i6 _ _ _) rfl d (fun e he=>by cases he)
      ·intro Q hq _
       obtain⟨Z,T⟩:=w.drop b;have hx:=(D6 (s:=V.set b none) v1 d hn T) Q hq T;obtain⟨a,s',q1,τ',F',hp',q2,q3,q4,q5⟩:=hx;exact⟨a,s',q1,τ',F',hp',Z.trans q2,q3,_,by rw[C6 hn,m8 H,bG9,q4],q5⟩
     ·refine OKh.bindp t7 fun Lo V N w g=>?_
      obtain⟨v1,M⟩:=G Lo g
      by_cases H:n=0
      ·subst H
       intro Q hq _;have aj:V.get b=some (.rows L e size ph):=by rw[N.get];exact C
       obtain⟨Z,T⟩:=w.drop b;obtain⟨aa,ab⟩:=T.alloc (x:=(Src.rows (A8 Lo Ln)).blk e size) (p:=none) (hp':=hp1) (bH4 _) (fun _ _=>rfl) (.inr ⟨rfl,_,e,size,.int 0,rfl,bF7 M,v1.1,bL5 0⟩)
       refine⟨_,_,hq,_,F1,hp1,Z.trans aa,ab,.slice none 0 0,by rw[C6 hn];rfl,?_⟩
       exact .sl0 _ size (.int 0) _ .un (i6 _ _ _) rfl d (fun e he=>by cases he)
      ·intro Q hq _
       obtain⟨Z,T⟩:=w.drop b;have hx:=(D6 (s:=V.set b none) v1 d hn T) (fun r=>Q (toUn r.1,r.2)) hq T
       obtain⟨a,s',q1,τ',F',hp',q2,q3,q4,q5⟩:=hx;exact⟨toUn a,s',q1,τ',F',hp',Z.trans q2,q3,_,by rw[C6 hn,m8 H,bG9,q4],bB6 q5⟩
     ·rename_i c0
      have ae:=hc c0 rfl;refine OKh.bindp OKp.test fun t V N w ht=>?_
      rw[y9,d,ae]at ht;cases t with
      |true=>
       simp only[bH2]at ht;simp only[bG8];refine OKh.bindp t7 fun Lo s5 o5 J g=>?_
       obtain⟨v1,M⟩:=G Lo g;exact(D6 v1 d hn J).mono fun a τ' F' hp' _ _ ⟨w1,w2⟩=>⟨_,by rw[C6 hn,m8 (by omega),bG9,w1],w2⟩
      |false=>
       simp only[bJ9]at ht;simp only[bG9];have H:n=0:=by omega
       subst H;refine OKh.bindp OKp.need fun _ s5 o5 J p3=>?_
       have ac:s5.get b=some (.rows L e size ph):=by rw[(N.trans o5).get];exact C
       have ad:(E.op .over [L,l5 off len,Ln]).toR U=[]:=by
        show(Sx.over (L.toR U) _ (Ln.toR U))=[];rw[k3,bF7 A];simp[Sx.over]
       refine(OKh.change0 (x':= .rows (.op .over [L,l5 off len,Ln]) e size ph) ac k1 ⟨_,e,size,ph,rfl,ad,k4,k5⟩ J).bind fun _ au F2 s6 al _ ap ⟨w1,w2,w3⟩=>?_
       subst w1;subst w2;subst w3;exact OKh.ret ⟨.slice none 0 0,by rw[C6 hn];rfl,.sl0 b size off _ _ k1 h0 d (fun e he=>by cases he;exact ae)⟩
 ·exact OKh.fail
end
end Go.Sx
namespace Go.Sx
open Go.Xe
section
variable {P :Program}{U:Nat->List Dat->Dat}{τ:Tau}{F:Nat->Option Blk}{s:SS}{hp:Hp}
theorem PV.nil_or {e:TypeId}{a:Option Addr}{l:Nat}{d:Dat}(h:PV P F (.sl e) (.slice a l l) d):(a=none/\l=0/\d= .lst [])\/ ∃i o,a=some ⟨i,o,none⟩:=by
 cases h with
 |nils=>grind
 |sl _ i o c b cs n z rows x hF hb hc hn hz hr hx hp=>grind
theorem r0.of_PV {e i o l c:Nat}{rows:Rows}(h:PV P F (.sl e) (.slice (some ⟨i,o,none⟩) l c) (.lst rows))(g:∀i b,F i=some b->hp.m.get i=some b):∃b cs n z,hp.m.get i=some b/\r0 P F e z o n cs rows/\l=rows.length/\z=(kf P e).length/\((∃e',b= .cells cs n e' z)\/(∃e' D,b= .ro cs n e' D/\c<unk)):=by
 cases h with
 |sl _ _ _ _ b cs n z _ x hF hb hc hn hz hr hx hp'=>
  cases b with
  |cells y A B E=>
   simp only[arr,rdC,bF1,bF3]at hb;obtain⟨rfl,rfl,rfl⟩:=hb;have C:=hc.2.2;exact⟨_,y,A,z,g _ _ hF,⟨hn,hz,hr,fun r k row d h1 h2=>⟨x r k,hx r k row d h1 h2,fun kd w=>hp' r k row kd d h1 h2 w⟩⟩,rfl,hz,.inl ⟨_,by rw[C rfl]⟩⟩
  |ro y A B E=>
   simp only[arr,rdC,bF1,bF3]at hb;obtain⟨rfl,rfl,rfl⟩:=hb;exact⟨_,y,A,z,g _ _ hF,⟨hn,hz,hr,fun r k row d h1 h2=>⟨x r k,hx r k row d h1 h2,fun kd w=>hp' r k row kd d h1 h2 w⟩⟩,rfl,hz,.inr ⟨_,_,rfl,hc.2.1 rfl⟩⟩
  |_=>simp[arr,rdC]at hb
theorem bA9 {e size n : Nat} (  N : 1 ≤ size) {a : SV} {v : Value} ( D : VD P U τ F a v) {src : Src} {news : List Value} (   d : i8 P U τ F e size src news) (  g : news.length = n * size) (   G : (src.cnt size).toI U = n) (hs : SD P U τ F s hp) :
  OKh P U (sapp P U e size a src) τ F s hp (av5 P U hp e size n news v):=by
 have K:∀src,i8 P U τ F e size src news->(src.cnt size).toI U=n->(∀l,src= .lit l->l≠ [])->OKh P U (a8 (f7 U (l9 (src.cnt size) (.int 67108865))) fun _=>N4 e size src (src.cnt size)) τ F s hp (av5 P U hp e size n news (.slice none 0 0)):=by
  intro src d G W;refine OKh.bindp OKp.need fun _ s1 _ hs1 p1=>?_
  have p1:=u9 p1;rw[G]at p1;simp only[q7]at p1;have hn:n<=67108864:=by omega
  cases src with
  |lit l=>
   have hl:l.length=n*size:=by rw[<-g];exact d.1
   have H:n≠0:=by
    intro h;rw[h,bO0]at hl;exact W l rfl (bF7 hl)
   exact(D6 d G hn hs1).mono fun c τ' F' hp' _ _ ⟨h1,h2⟩=>⟨_,by rw[C6 hn,m8 H,bG9,h1],h2⟩
  |rows L=>
   refine(aU0 d g G (aj0 N d g) hn hs1).mono fun c τ' F' hp' _ _ h=>?_
   rcases h with⟨h0,h1,h2⟩| ⟨h0,h1,h2⟩
   ·exact⟨_,by rw[C6 hn,j9 h0,bG8,h1],h2⟩
   ·exact⟨_,by rw[C6 hn,m8 h0,bG9,h1],h2⟩
 unfold sapp;split
 ·
  cases D;split
  ·have hv:news=[]:=bF7 d.1.symm
   subst hv;have H:n=0:=by
    rcases Nat.eq_zero_or_pos n with h|h
    ·exact h
    ·have:=Nat.mul_le_mul h N;simp at g;omega
   subst H;exact OKh.ret ⟨.slice none 0 0,by rw[C6 (by omega)];rfl,.nils⟩
  ·rename_i W
   exact K _ d G fun l hl h=>by subst h;exact W hl
 ·
  rename_i b z off len cap;cases hq:Nat.beq z size&&src.one with
  |false=>exact OKh.fail
  |true=>
   simp only[bG8];simp only[bF2,bJ1]at hq;obtain⟨rfl,J⟩:=hq;have B:=d.ones J;refine OKh.read ?_;split
   ·rename_i l e' z' hb
    split
    ·rename_i C r m
     cases hq:Nat.beq e e'&&Nat.beq z z'&&decide (0<=C)&&decide (0<=r)&&Nat.ble ((C.toNat+r.toNat)*z) l.length&&Nat.ble (r.toNat+m.length/z) 67108864&&Nat.beq (m.length/z*z) m.length with
     |false=>exact OKh.fail
     |true=>
      simp only[bG8];simp only[bF2,bJ1,bH2,bK5]at hq;obtain⟨⟨⟨⟨⟨⟨rfl,rfl⟩,q1⟩,q2⟩,q3⟩,q4⟩,q5⟩:=hq;have V:m.length=n*z:=by rw[<-g];exact d.1
      have av:m.length/z=n:=by rw[V];exact Nat.mul_div_cancel _ N
      rw[av]at q4⊢;rw[bI7]at q3
      rcases hs.live b _ hb with⟨i,o,y,k1,k2,kF,cs,k,rfl,k4,k5⟩| ⟨k1,L',e',z',be,k2,k3,k4,k5⟩
      ·cases D with
       |sl0 _ _ _ _ _ O h0 h1 hc=>rw[k1]at O;cases O
       |sl _ _ _ _ _ i' o' c O h0 h1 hc=>
        rw[k1]at O;simp only[bF1,bF3]at O;obtain⟨rfl,rfl⟩:=O;have e1:(E.int C).toN U=C.toNat:=rfl;have X:(E.int r).toN U=r.toNat:=rfl;obtain⟨vs,v1,v2,v3⟩:=A4 (c:=cs) (R:=fun j x=>∀a,((l.drop (C.toNat*z)).take (r.toNat*z))[j]? =some a->VD P U τ F a x) (r.toNat*z) (o+C.toNat*z) 0 fun j hj=>by
         have aj:C.toNat*z+j<l.length:=by omega
         obtain⟨x,w1,w2⟩:=k5 (C.toNat*z+j) _ (bG3 aj);refine⟨x,by rw[<-w1];congr 1;omega,fun a D=>?_⟩
         rw[bI3,bI4,bH3 hj,bJ0]at D;rw[show l[C.toNat*z+j]? =some l[C.toNat*z+j] by simp[aj],bF1]at D
         rw[<-D];exact w2
        have ai:((l.drop (C.toNat*z)).take (r.toNat*z)).length=r.toNat*z:=by simp;omega
        have az:VDL P U τ F ((l.drop (C.toNat*z)).take (r.toNat*z)) vs:=⟨by rw[ai,v2],fun j a x D hx=>v3 j x hx a (by rw[bI3];exact D)⟩
        have M:i8 P U τ F e z (.lit ((l.drop (C.toNat*z)).take (r.toNat*z)++m)) (vs++news):=az.append d;have A:(E.int ((r.toNat+n:Nat):Int)).toI U=((r.toNat+n:Nat):Int):=rfl;have ah:o+C.toNat*z+r.toNat*z<=k:=by omega
        rw[e1,X];split
        ·obtain⟨lo,rfl,c1,c2⟩:=hc
         exact aX3 (fun _ h=>h) hb k1 k2 v1 ah B g c1 q4 M A hs
        ·exact OKh.fail
        ·rename_i c0
         obtain⟨c1,rfl,c3,c4⟩:=hc;have ba:c0.toI U=((c0.toN U:Nat):Int):=by show c0.toI U=((c0.toI U).toNat:Int);omega
         have c4:r<=c0.toI U:=c4;refine OKh.bindp OKp.test fun t s4 o4 ax ht=>?_
         rw[y9,A]at ht;cases t with
         |true=>
          simp only[bH2]at ht;simp only[bG8];exact bd5 k2 v1 ah B c3 (by omega) (by omega) q4 M A ax
         |false=>
          simp only[bJ9]at ht;simp only[bG9];cases hr:Nat.ble ((C.toNat+r.toNat)*z+m.length) l.length with
          |false=>exact OKh.fail
          |true=>
           simp only[bG8];have hr:=bF5 hr;rw[bI7,V]at hr;obtain⟨mm,m1,m2,m3⟩:=bp4 (e0:=e) (q:=o+C.toNat*z) (c:=c0.toN U) k2 B g c3 (by omega) (show r.toNat+n<=c0.toN U by omega) q4 (by rw[bI7];omega)
           have ap:s4.get b=some (.cells l e z):=by rw[o4.get];exact hb
           refine(OKh.change (x':= .cells (I8 l ((C.toNat+r.toNat)*z) m) e z) (m:=mm) ap k1 m2 m3 ⟨_,k,rfl,?_,fun j a D=>?_⟩).bind fun _ bg F2 s6 bb _ bc ⟨w1,w2,w3⟩=>?_
           ·unfold I8;simp only[bH8,bI6,bK3,bI7];omega
           ·unfold I8 at D
            rw[bI7]at D;have et:(l.take (C.toNat*z+r.toNat*z)).length=C.toNat*z+r.toNat*z:=by simp;omega
            rw[i4]
            by_cases hj:C.toNat*z+r.toNat*z<=j/\j<C.toNat*z+r.toNat*z+news.length
            ·rw[bH3 (by omega)]
             rw[bG5,bF9 (by omega),bG0 (by rw[et,V,<-g];omega),et]at D
             obtain⟨w,w1,w2⟩:=VDL.get d D;exact⟨w,by rw[<-w1];congr 1;omega,w2⟩
            ·rw[bH1 (by omega)]
             by_cases aq:j<C.toNat*z+r.toNat*z
             ·rw[bG5,bG0 (by omega),bI4,bH3 aq]at D
              exact k5 j a D
             ·rw[bG5,bF9 (by omega),et,bF9 (by rw[V,<-g];omega),bJ0]at D
              refine k5 j a ?_;rw[<-D];congr 1;rw[V,<-g];omega
           ·subst w1;subst w2
            refine OKh.ret ⟨.slice (some ⟨i,o+C.toNat*z,none⟩) (r.toNat+n) (c0.toN U),by rw[w3];exact m1,VD.sl' k1 h0 (by rw[A];omega) ⟨c1,rfl,c3,by rw[A];omega⟩ rfl rfl⟩
      ·cases k2
    ·refine(aa9 hs).bind fun _ τ1 F1 s1 hp1 ex hs1 ⟨e1,X,e3⟩=>?_
     subst e1;subst X;subst e3;exact ar8 N D d g B hs1
   ·exact ar8 N D d g B hs
   ·exact OKh.fail
 ·
  rename_i e' L;cases hq:Nat.beq e e'&&Nat.beq size (kf P e).length&&src.one with
  |false=>exact OKh.fail
  |true=>
   simp only[bG8];simp only[bF2,bJ1]at hq;obtain⟨⟨rfl,au⟩,J⟩:=hq;have B:=d.ones J;have ao:=D;cases D with
   |lst _ _ _ _ hv hc=>
    obtain⟨ad,l,rfl⟩:=hc rfl;refine OKh.bindp OKp.test fun t s1 o1 hs1 ht=>?_
    rw[C8,G]at ht;simp only[q7]at ht;have ae:(aa8 L).toR U=L.toR U:=by show((aa8 L).den U).rows=_;rw[ak1];rfl
    have aa:=bd6 hv;have ak:=hv.nil_or;cases t with
    |true=>
     have H:n=0:=by have:=bN0 ht;omega
     subst H;have W:news=[]:=bF7 (by rw[g];simp)
     subst W;simp only[bG8];refine OKh.bindp OKp.need fun _ s2 _ aw p1=>OKh.ret ⟨.slice ad l l,?_,ao⟩
     have p1:=u9 p1;rw[d5]at p1;simp only[q7]at p1
     rcases ak with⟨rfl,rfl,_⟩| ⟨i,o,rfl⟩
     ·rw[C6 (by omega)];rfl
     ·obtain⟨b,cs,k,z2,g1,g2,g3,g4,⟨X,rfl⟩| ⟨X,z3,rfl,g5⟩⟩:=r0.of_PV (hp:=hp) hv hs.frz
      ·simp only[P6,g1]
       rw[show(Nat.ble (l+0) 67108864&&([]:List Value).all Value.oneCell')=true by simp only[bF2,bK5];exact⟨by omega,rfl⟩]
       simp only[bG8,j9,bF8 (bH4 l)]
      ·simp only[P6,g1]
       rw[show(Nat.ble (l+0) 67108864&&Nat.ble l l&& !Nat.ble unk l)=true by simp only[bF2,bK5,S8 g5,Bool.not_false,bM4];exact⟨by omega,bH4 _⟩]
       simp only[bG8,j9]
    |false=>
     have H:n≠0:=by have:=of_decide_eq_false ht;omega
     simp only[bG9];refine(aL8 d hs1).bind fun Ln τ1 F1 s2 hp1 ex aw ⟨e1,X,Q⟩=>?_
     subst e1;subst X;have Q:=Q au;have Z:=aj0 N Q g;refine OKh.bindp OKp.need fun _ s3 o3 ac p1=>?_
     have p1:=u9 p1;rw[d9,d5,d5,Z]at p1;simp only[q7]at p1;have ay:=hv.mono P ex.f
     rcases ak with⟨rfl,rfl,hd⟩| ⟨i,o,rfl⟩
     ·have hL:L.toR U=[]:=by injection hd
      have T:(A8 (aa8 L) Ln).toR U=Ln.toR U:=by rw[K0,ae,hL];rfl
      obtain⟨q1,q2,q3,q4⟩:=Q;have Y:i8 P U τ1 F1 e size (.rows (A8 (aa8 L) Ln)) news:=⟨q1,by rw[T];exact q2,by rw[T];exact q3,by rw[T];exact q4⟩
      refine(D6 Y (n:=n) (by rw[d9,d5,d5,hL,Z];simp) (by omega) ac).mono fun c τ' F' hp' _ _ ⟨h1,h2⟩=>⟨_,by rw[C6 (by omega),m8 H,bG9,h1],h2⟩
     ·obtain⟨b,cs,k,z2,g1,g2,g3,g4,al⟩:=r0.of_PV (hp:=hp1) ay ac.frz
      have ez:z2=size:=by omega
      subst ez;have ab:Sx.part (L.toR U) 0 (L.toR U).length=L.toR U:=by simp[Sx.part]
      obtain⟨vs,v1,v2,v3,v4⟩:=A6 (U:=U) (τ:=τ1) g2 (off:=0) (len:=(L.toR U).length) (bL5 0) (by omega) (by omega) (L:=aa8 L) (by rw[ae,ab])
      have e0:(0:Int).toNat*z2=0:=by simp
      rw[e0,bL7,bJ2]at v1 v2;have M:i8 P U τ1 F1 e z2 (.rows (A8 (aa8 L) Ln)) (vs++news):=v3.app Q;have aa:l<unk:=aa.resolve_left (by simp)
      refine(D6 M (n:=(L.toR U).length+n) (by rw[d9,d5,d5,Z];omega) (by omega) ac).mono fun c τ' F' hp' _ _ ⟨h1,h2⟩=>⟨_,?_,h2⟩
      rw[<-g3]at v1 v2⊢
      rcases al with⟨X,rfl⟩| ⟨X,z3,rfl,g5⟩
      ·simp only[P6,g1]
       rw[show(Nat.ble (l+n) 67108864&&news.all Value.oneCell')=true by simp only[bF2,bK5];exact⟨by omega,B⟩]
       simp only[bG8,m8 H,bG9,S8 aa,S8 (show l<l+n by omega),bF8 v2,v1,h1]
      ·simp only[P6,g1]
       rw[show(Nat.ble (l+n) 67108864&&Nat.ble l l&& !Nat.ble unk l)=true by simp only[bF2,bK5,S8 g5,Bool.not_false,bM4];exact⟨by omega,bH4 _⟩]
       simp only[bG8,m8 H,bG9,S8 (show l<l+n by omega),bF8 v2,v1,h1]
 ·exact OKh.fail
end
section
variable (P :Program)(U:Nat->List Dat->Dat)
def al2 (t:TypeId)(r:Option Operand):M SV:=
 match P.underlying t,r with
 |some (.map kt vt),none=>a8 (R6 (.map (.op .nil []) kt vt)) fun b=>c6 (.map b)
 |_,_=>a7 "makeMap"
def kI (e:E):E:=match e with| .int n=>.int n|e=>.op .castI [e]
def kS (e:E):E:=match e with| .str l=>.str l|e=>.op .castS [e]
def aT6 :List Kd->List SV->Option (List E)
 | [],[]=>some []
 |p::ps,a::l=>match aT6 ps l with
  |some es=>match p,a with
   | .int k,.int k' e=>bif decide (k=k')then some (kI e::es)else none
   | .str,.str e=>some (kS e::es)
   |_,_=>none
  |none=>none
 |_,_=>none
def skey (sh : Bool × List Kd) (k : SV) : Option (List E) := bif sh.1 then match k with
  | .agg l=>aT6 sh.2 l
  |_=>none
 else aT6 sh.2 [k]
def aT9 (kt vt:TypeId)(m k:SV)(f:Nat->E->List E->M SV):M SV:=
 match J9 P kt,m with
 |some sh,.map b=>match skey sh k with
  |some ks=>i9 fun s=>match s.get b with
   |some (.map L kt' vt')=>bif Nat.beq kt kt'&&Nat.beq vt vt' then f b L ks else a7 "map: type"
   |_=>a7 "map: no block"
  |none=>a7 "map: key"
 |_,_=>a7 "map: value"
def at5 :Option Value->Bool
 |some (.int _ _)|some (.bool _)|some (.string _)=>true
 |_=>false
def bv6 (vt:TypeId)(ok:Bool)(L:E)(ks:List E):M SV:=match ab9 P vt with
 |some [z]=>bif !at5 (E9 P vt)then a7 "lookup: zero" else match aE0 (kd1 P vt) z with
  |some d=>match aF5 (kd1 P vt) (.op .mget (L::d::ks))with
   |some v=>c6 (bif ok then .tup [v,.bool (.op .mhas (L::ks))]else v)
   |none=>a7 "lookup"
  |none=>a7 "lookup"
 |_=>a7 "lookup: zero"
def aL1 (t:TypeId)(m k:SV)(ok:Bool):M SV:=
 match P.underlying t with
 |some (.map kt vt)=>aT9 P kt vt m k fun _ L ks=>bv6 P vt ok L ks
 |_=>a7 "lookup: type"
def aL3 (t:TypeId)(m k x:SV):M SV:=
 match P.underlying t with
 |some (.map kt vt)=>aT9 P kt vt m k fun b L ks=>match aE0 (kd1 P vt) x with
  |some e=>a8 (Z4 b (some (.map (.op .mput (L::e::ks)) kt vt))) fun _=>c6 (.tup [])
  |none=>a7 "map: value"
 |_=>a7 "map: type"
def ap1 (t:TypeId)(m k:SV):M SV:=
 match P.underlying t with
 |some (.map kt vt)=>aT9 P kt vt m k fun b L ks=>match ab9 P vt with
  |some [z]=>bif !at5 (E9 P vt)then a7 "entry: zero" else match aE0 (kd1 P vt) z with
   |some d=>match aF5 (kd1 P vt) (.op .mget (L::d::ks))with
    |some v=>a8 (Z4 b (some (.map (.op .mput (L:: .op .mget (L::d::ks)::ks)) kt vt))) fun _=>c6 (.tup [v,.int .i64 (.op .mix (L::ks))])
    |none=>a7 "entry"
   |none=>a7 "entry"
  |_=>a7 "entry: zero"
 |_=>a7 "entry: type"
def ab5 (m i x:SV):M SV:=
 match m,i with
 | .map b,.int _ e=>i9 fun s=>match s.get b with
  |some (.map L kt vt)=>match J9 P kt,aE0 (kd1 P vt) x with
   |some sh,some ex=>a8 (f7 U (l6 (l9 e (.int 0)))) fun _=>a8 (f7 U (l9 e (p8 L))) fun _=>a8 (Z4 b (some (.map (.op (.upd sh.2.length) [L,e,ex]) kt vt))) fun _=>c6 (.tup [])
   |_,_=>a7 "entry: value"
  |_=>a7 "entry: no block"
 |_,_=>a7 "entry: place"
end
section
variable {P :Program}{U:Nat->List Dat->Dat}{τ:Tau}{F:Nat->Option Blk}{s:SS}{hp:Hp}
theorem aT8 {t:TypeId}(hs:SD P U τ F s hp):OKh P U (al2 P t none) τ F s hp fun a τ' F' hp'=>(∃kt vt,P.underlying t=some (.map kt vt))/\hp'=(hp.add ⟨.map [] true,.map,rfl⟩).2/\VD P U τ' F' a (hp.add ⟨.map [] true,.map,rfl⟩).1:=by
 unfold al2;split
 ·rename_i kt vt g _
  refine(OKh.alloc (x:= .map (.op .nil []) kt vt) (y:= .map [] true) hs fun τ' _=>⟨rfl,[],true,rfl,rfl,rfl,fun j row e h=>by simp[E.toR,E.den,Sy.den,Dat.rows]at h⟩).bind fun b τ' F' s' hp' _ d ⟨h1,h2,h3⟩=>OKh.ret ?_
  subst h1;subst h3;exact⟨⟨kt,vt,g⟩,rfl,.map b hp.nx 0 h2⟩
 ·exact OKh.fail
variable {es:List (Value×Value)}
theorem M4.nil {kt vt:TypeId}(h:M4 P F kt vt es []):es=[]:=bF7 h.1
variable (P F) in
def bo7 (kt vt:TypeId)(e:Value×Value)(r:List Dat):Prop:=∃sh ks d,J9 P kt=some sh/\aa6 sh.2 ks=true/\r=ks.map KV.dat++ [d]/\e.1=Z2 sh ks/\PV P F (kd1 P vt) e.2 d
theorem M4.cons {kt vt:TypeId}{es:List (Value×Value)}{r:List Dat}{rows:Rows}(h:M4 P F kt vt es (r::rows)):∃e b,es=e::b/\bo7 P F kt vt e r/\M4 P F kt vt b rows:=by
 cases es with
 |nil=>exact absurd h.1 (by simp)
 |cons e es=>exact⟨e,es,rfl,h.2 0 r e rfl rfl,by have:=h.1;simpa using this,fun j row e' hr he=>h.2 (j+1) row e' hr he⟩
theorem M4.mk {kt vt:TypeId}{e:Value×Value}{r:List Dat}{rows:Rows}(h:bo7 P F kt vt e r)(h':M4 P F kt vt es rows):M4 P F kt vt (e::es) (r::rows):=by
 refine⟨by simp[h'.1],fun j row e' hr he=>?_⟩
 cases j with
 |zero=>cases hr;cases he;exact h
 |succ j=>exact h'.2 j row e' hr he
def Fd (sh:Bool×List Kd)(ks:List KV)(find:List (Value×Value)->Nat->Option (Option (Nat×Value))):Prop:=
 (∀i,find [] i=some none)/\ ∀e es i ks',aa6 sh.2 ks'=true->e.1=Z2 sh ks'->find (e::es) i=if ks'=ks then some (some (i,e.2))else find es (i+1)
theorem aX9 (ks:List KV):(ks.map KV.dat).map Dat.kv=ks:=by
 rw[List.map_map];have:Dat.kv∘KV.dat=id:=funext fun k=>by cases k<;>rfl
 simp_all
theorem O2 :∀ {ps:List Kd} {ks:List KV},aa6 ps ks=true->ks.length=ps.length
 | [],[],_=>rfl
 |p::ps,k::ks,h=>by
  unfold aa6 at h;rw[bF2]at h;simp[O2 h.2]
 | [],_::_,h=>by cases h
 |_::_,[],h=>by cases h
theorem H3 {kt vt : TypeId} {sh : Bool × List Kd} (hk : J9 P kt = some sh) {ks : List KV} (hl : aa6 sh.2 ks = true) {find : List (Value × Value) → Nat → Option (Option (Nat × Value))} (hf : Fd sh ks find) {x : Value} { A : Dat} (hx : PV P F (kd1 P vt) x  A) (   g : Dat) : ∀ (rows : Rows) (es : List (Value × Value)) (i : Nat), M4 P F kt vt es rows →
  (mhasR rows ks=false/\find es i=some none/\mgetR rows ks g=g/\midxR rows ks=es.length/\M4 P F kt vt (es++ [(Z2 sh ks,x)]) (mputR rows ks A))\/
  (mhasR rows ks=true/\ ∃v y,find es i=some (some (i+midxR rows ks,v))/\PV P F (kd1 P vt) v (mgetR rows ks g)/\es[midxR rows ks]? =some y/\y.2=v/\M4 P F kt vt (es.set (midxR rows ks) (Z2 sh ks,x)) (mputR rows ks A))
 | [],es,i,h=>by
  have:=h.nil;subst this;exact .inl ⟨rfl,hf.1 i,rfl,rfl,.mk ⟨sh,ks,A,hk,hl,rfl,rfl,hx⟩ ⟨rfl,fun j row e h=>by simp at h⟩⟩
 |r::rows,es,i,h=>by
  obtain⟨e,B,rfl,⟨R,b,d,h1,h2,rfl,h3,h4⟩,J⟩:=h.cons;rw[hk]at h1;cases h1;have hs:=hf.2 e B i b h2 h3;have O:b.length=ks.length:=(O2 h2).trans (O2 hl).symm;have w:aa5 ks.length (b.map KV.dat++ [d])=b:=by
   unfold aa5;rw[List.take_left' (by rw[bH0];omega),aX9]
  have D:(b.map KV.dat++ [d]).getD ks.length (.int 0)=d:=by grind
  by_cases c:b=ks
  ·subst c
   rw[bH3 rfl]at hs;have C:midxR ((b.map KV.dat++ [d])::rows) b=0:=by simp[midxR,w]
   refine .inr ⟨by simp[mhasR,w],e.2,e,by rw[C];exact hs,?_,by rw[C];rfl,rfl,?_⟩
   ·simp only[mgetR,w,bO3,D];exact h4
   ·rw[C]
    simp only[mputR,w,bO3,List.set_cons_zero];exact .mk ⟨sh,b,A,hk,hl,rfl,rfl,hx⟩ J
  ·rw[bH1 c]at hs
   have K:mhasR ((b.map KV.dat++ [d])::rows) ks=mhasR rows ks:=by simp[mhasR,w,c]
   have L:mgetR ((b.map KV.dat++ [d])::rows) ks g=mgetR rows ks g:=by simp[mgetR,w,c]
   have M:mputR ((b.map KV.dat++ [d])::rows) ks A=(b.map KV.dat++ [d])::mputR rows ks A:=by simp[mputR,w,c]
   have N:midxR ((b.map KV.dat++ [d])::rows) ks=midxR rows ks+1:=by simp[midxR,w,c]
   rw[K,L,M,N];have hc:bo7 P F kt vt e (b.map KV.dat++ [d]):=⟨sh,b,d,hk,h2,rfl,h3,h4⟩
   rcases H3 hk hl hf hx g rows B (i+1) J with⟨q1,q2,E,H,G⟩| ⟨q1,v,y,q2,E,H,Q,G⟩
   ·exact .inl ⟨q1,by rw[hs];exact q2,E,by rw[H];rfl,.mk hc G⟩
   ·exact .inr ⟨q1,v,y,by rw[hs,q2,show i+1+midxR rows ks=i+(midxR rows ks+1) by omega],E,H,Q,.mk hc G⟩
theorem bD5 (d k:IntKind)(n:Int):Fd (false,[.int k]) [.i n] (as2 (.int d) (.int k n)):=by
 refine⟨fun i=>rfl,fun e es i b hl he=>?_⟩
 match b,hl with
 | [.i n'],_=>
  have he:e.1= .int k n':=he;have hs:aW4 (.int d) (.int k n) e.1=some (decide (n=n')):=by rw[he];simp[aW4]
  by_cases c:n=n'
  ·subst c
   rw[bH3 rfl];simp only[as2,hs,bK8]
  ·rw[bH1 (fun h=>by cases h;exact c rfl)]
   simp only[as2,hs,bM7 c]
theorem aJ8 {d : Nat} : ∀ {fs : List Field} {o : Nat} {ps : List Kd} {pre pre' : List Value} {ks   g : List KV}, ax6 P o fs = some ps → pre.length = o → pre'.length = o → aa6 ps ks = true → aa6 ps   g = true →
  aB5 P (xeq P (d+1)) (pre++V5 ps ks) (pre'++V5 ps g) fs=some (decide (ks=g))/\af5 P (pre++V5 ps ks) fs=true/\(ks=g->aD0 (V5 ps g) (V5 ps ks)=true)
 | [],o,ps,pre,pre',ks,g,hp,h1,h2,w,y=>by
  cases hp;cases ks with
  |nil=>
   cases g with
   |nil=>exact⟨rfl,rfl,fun _=>rfl⟩
   |cons=>cases y
  |cons=>cases w
 |f::fs,o,ps,pre,pre',ks,g,hp,h1,h2,w,y=>by
  unfold ax6 at hp;cases C:Nat.beq f.offset o with
  |false=>rw[C]at hp;cases hp
  |true=>
   rw[C,bG8]at hp;have C:=bF6 C;split at hp
   ·rename_i k hk
    split at hp
    ·rename_i r B
     cases hp;cases ks with
     |nil=>cases w
     |cons a ks=>
     cases g with
     |nil=>cases y
     |cons b g=>
     unfold aa6 at w y;rw[bF2]at w y;obtain⟨i1,H,J⟩:=aJ8 (d:=d) (pre:=pre++ [kv1 k a]) (pre':=pre'++ [kv1 k b]) B (by simp[h1]) (by simp[h2]) w.2 y.2
     rw[bG5,bG5]at i1;rw[bG5]at H;have A:∀(q:List Value) x l,q.length=o->(q++x::l)[f.offset]? =some x:=fun q x l h=>by
      rw[bF9 (by omega),C,h,bP9];rfl
     unfold bC7 at hk;cases hn:f.name== "_" with
     |true=>rw[hn]at hk;cases hk
     |false=>
      rw[hn,bG9]at hk;have K:V5 (k::r) (a::ks)=kv1 k a::V5 r ks:=rfl;have L:V5 (k::r) (b::g)=kv1 k b::V5 r g:=rfl;rw[K,L];split at hk<;>cases hk
      ·rename_i k D
       match a,b,w.1,y.1 with
       | .i m,.i n,_,_=>
        refine⟨?_,?_,fun e=>?_⟩
        ·simp only[aB5,hn,bG9,U7,D,an1,A _ _ _ h1,A _ _ _ h2,kv1,xeq,bK8,bG8]
         by_cases c:m=n
         ·subst c;simp only[bK8];exact i1.trans (by simp)
         ·simp[c]
        ·simp only[af5,U7,D,an1,bG9,A _ _ _ h1,kv1,aJ7,bQ2];exact H
        ·obtain⟨E,G⟩:=List.cons.inj e
         cases E;simp only[kv1,aD0,bK8,bQ2];exact J G
      ·rename_i D
       match a,b,w.1,y.1 with
       | .s m,.s n,_,_=>
        refine⟨?_,?_,fun e=>?_⟩
        ·simp only[aB5,hn,bG9,U7,D,an1,A _ _ _ h1,A _ _ _ h2,kv1,xeq]
         by_cases c:m=n
         ·subst c;simp only[beq_self_eq_true];exact i1.trans (by simp)
         ·rw[show(m==n)=false by simp[c]];simp[c]
        ·simp only[af5,U7,D,an1,bG9,A _ _ _ h1,kv1,aJ7,bQ2];exact H
        ·obtain⟨E,G⟩:=List.cons.inj e
         cases E;simp only[kv1,aD0,beq_self_eq_true,bQ2];exact J G
    ·cases hp
   ·cases hp
variable {ks:List KV}
theorem bi9 {kt : TypeId} {fs : Array Field} {ps : List Kd} ( y : P.underlying kt = some (.struct fs)) (  r : P.stoodInHeld kt = false) (hp : ax6 P 0 fs.toList = some ps)  (hl : aa6 ps ks = true) :
  Fd (true,ps) ks (X4 P kt (.agg (V5 ps ks).toArray)):=by
 refine⟨fun i=>rfl,fun e es i b g he=>?_⟩
 have he:e.1= .agg (V5 ps b).toArray:=he;obtain⟨i1,_,w⟩:=aJ8 (d:=9998) (pre:=[]) (pre':=[]) hp rfl rfl hl g;have hq:xeq P 10000 kt (.agg (V5 ps ks).toArray) e.1=some (decide (ks=b)):=by
  rw[he];show xeq P (9999+1) kt _ _=_;unfold xeq
  grind
 by_cases c:ks=b
 ·have hb : xsb e.1 (.agg (V5 ps ks).toArray) = true := by
   rw[he];exact w c
  rw[bH3 c.symm];rw[decide_eq_true c]at hq;simp only[X4,hq,hb,bG8]
 ·rw[bH1 (fun h=>c h.symm)]
  simp only[X4,hq,bM7 c]
variable {sh:Bool ×List Kd}
theorem aw7 {kt:TypeId}{d:TypeDesc}(h:P.underlying kt=some d)(hk:J9 P kt=some sh)(hl:aa6 sh.2 ks=true):∃find,Fd sh ks find/\ ∀es,P2 P kt d (Z2 sh ks) es=find es 0:=by
 unfold J9 at hk;rw[h]at hk;split at hk
 ·rename_i k b
  cases b;cases hk
  match ks,hl with
  | [.i n],_=>exact⟨_,bD5 k k n,fun es=>rfl⟩
 ·rename_i fs b
  cases b;cases g:P.stoodInHeld kt with
  |true=>grind
  |false=>
   rw[g,bG9]at hk;split at hk
   ·rename_i ps hp
    cases hk;refine⟨_,bi9 h g hp hl,fun es=>?_⟩
    show(bif af5 P (V5 ps ks).toArray.toList fs.toList then X4 P kt (.agg (V5 ps ks).toArray) es 0 else none)=_
    have:=(aJ8 (d:=0) (pre:=[]) (pre':=[]) hp rfl rfl hl hl).2.1
    grind
   ·cases hk
 ·cases hk
theorem kI_kv (e:E):((kI e).den U).kv= .i (e.toI U):=by unfold kI;split<;>rfl
theorem kS_kv (e:E):((kS e).den U).kv= .s (e.den U).toStr:=by unfold kS;split<;>rfl
theorem aA1 :∀ {ps:List Kd} {l:List SV} {xs:List Value} {ks:List E},VDL P U τ F l xs->aT6 ps l=some ks->xs=V5 ps (ks.map fun e=>(e.den U).kv)/\aa6 ps (ks.map fun e=>(e.den U).kv)=true
 | [],[],xs,ks,b,h=>by cases h;exact⟨bF7 b.1.symm,rfl⟩
 | [],_::_,xs,ks,b,h=>by cases h
 |_::_,[],xs,ks,b,h=>by cases h
 |p::ps,a::l,xs,ks,b,h=>by
  obtain⟨x,xs,rfl,h1,h2⟩:=b.uncons;unfold aT6 at h;split at h
  ·rename_i es he
   obtain⟨k1,k2⟩:=aA1 h2 he;split at h
   ·rename_i k k' e
    cases hc:decide (k=k')with
    |false=>grind
    |true=>
     rw[hc]at h;have hc:=bN0 hc;subst hc;cases h;cases h1;simp only[bK2,kI_kv];exact⟨by rw[k1];rfl,k2⟩
   ·cases h
    cases h1;simp only[bK2,kS_kv];exact⟨by rw[k1];rfl,k2⟩
   ·cases h
  ·cases h
variable {k:SV}
theorem bh1 {v:Value}{ks:List E}(hk:VD P U τ F k v)(h:skey sh k=some ks):v=Z2 sh (ks.map fun e=>(e.den U).kv)/\aa6 sh.2 (ks.map fun e=>(e.den U).kv)=true:=by
 obtain⟨b,ps⟩:=sh;unfold skey at h;cases b with
 |true=>
  simp only[bG8]at h;split at h
  ·cases hk with
   |agg l xs h1 h2=>
    obtain⟨k1,k2⟩:=aA1 ⟨h1,h2⟩ h;exact⟨by rw[k1];rfl,k2⟩
  ·cases h
 |false=>
  simp only[bG9]at h;obtain⟨k1,k2⟩:=aA1 (VDL.cons hk VDL.nil) h;exact⟨by show v=(V5 ps _).headD undef;rw[<-k1];rfl,k2⟩
variable {m:SV}{kv mv:Value}
theorem aA3 {kt vt : TypeId}   {f : Nat → E → List E → M SV} {Q : SV → Tau → (Nat → Option Blk) → Hp → Prop} (hm : VD P U τ F m mv) (hk : VD P U τ F k kv) (hs : SD P U τ F s hp)
  (hf:∀(b:Nat) (L:E) (ks:List E) (sh:Bool×List Kd) (d:TypeDesc) (i:Nat) (es:List (Value×Value)) (reg:Bool),J9 P kt=some sh->P.underlying kt=some d->mv= .map (some i)->kv=Z2 sh (ks.map fun e=>(e.den U).kv)->aa6 sh.2 (ks.map fun e=>(e.den U).kv)=true->τ b=some (some (i,0))->hp.m.get i=some (.map es reg)->reg=true->M4 P F kt vt es (L.toR U)->
   s.get b=some (.map L kt vt)->OKh P U (f b L ks) τ F s hp Q):OKh P U (aT9 P kt vt m k f) τ F s hp Q:=by
 unfold aT9;split
 ·rename_i sh b g
  split
  ·rename_i ks r
   obtain⟨k1,k2⟩:=bh1 hk r;refine OKh.read ?_;split
   ·rename_i L w A C
    cases hq:Nat.beq kt w&&Nat.beq vt A with
    |false=>exact OKh.fail
    |true=>
     simp only[bF2,bJ1]at hq;obtain⟨rfl,rfl⟩:=hq;simp only[bG8];obtain⟨d,H⟩:∃d,P.underlying kt=some d:=by
      cases h:P.underlying kt with
      |none=>unfold J9 at g;rw[h]at g;cases g
      |some d=>grind
     cases hm with
     |map _ i o ht=>
      rcases hs.live b _ C with⟨J,o',y,h1,h2,_,h0,es,reg,rfl,B,h3⟩| ⟨_,G,e',K,D,h2,_⟩
      ·grind
      ·cases h2
   ·exact OKh.fail
  ·exact OKh.fail
 ·exact OKh.fail
theorem aj2 (ks:List E):(E.dens U ks).map Dat.kv=ks.map fun e=>(e.den U).kv:=by
 rw[E.dens_eq,List.map_map];rfl
theorem aQ6 (L d:E)(ks:List E):(E.op .mget (L::d::ks)).den U=mgetR (L.toR U) (ks.map fun e=>(e.den U).kv) (d.den U):=by
 show mgetR (L.toR U) ((E.dens U ks).map Dat.kv) (d.den U)=_;rw[aj2]
theorem br9 (L:E)(ks:List E):((E.op .mhas (L::ks)).den U).toBool=mhasR (L.toR U) (ks.map fun e=>(e.den U).kv):=by
 show mhasR (L.toR U) ((E.dens U ks).map Dat.kv)=_;rw[aj2]
theorem aQ8 (L d:E)(ks:List E):(E.op .mput (L::d::ks)).toR U=mputR (L.toR U) (ks.map fun e=>(e.den U).kv) (d.den U):=by
 show mputR (L.toR U) ((E.dens U ks).map Dat.kv) (d.den U)=_;rw[aj2]
theorem ba7 {t : TypeId}   {ok : Bool} (hm : VD P U τ F m mv) (hk : VD P U τ F k kv) (hs : SD P U τ F s hp) :
  OKh P U (aL1 P t m k ok) τ F s hp fun a τ' F' hp'=>hp'=hp/\ ∃v,B3 P hp t mv kv ok=some v/\VD P U τ' F' a v:=by
 unfold aL1;split
 ·rename_i kt vt N
  refine aA3 hm hk hs fun b L ks sh dd i es reg J D R T w e5 K M V e8=>?_
  unfold bv6;split
  ·rename_i z hz
   obtain⟨zv,Q,Z⟩:=I9 (U:=U) (τ:=τ) (F:=F) hz;obtain⟨zc,zs,Y,z3,z4⟩:=Z.uncons;cases C:at5 (E9 P vt)with
   |false=>exact OKh.fail
   |true=>
   simp only[Bool.not_true,bG9];have G:zv=zc:=by
    rw[Q]at C;have hc:zv.cells.toList=[zv]:=by
     unfold at5 at C;split at C
     ·rename_i h;cases h;rfl
     ·rename_i h;cases h;rfl
     ·rename_i h;cases h;rfl
     ·cases C
    grind
   subst G;split
   ·rename_i d W
    have A:=Q5 z3 W;split
    ·rename_i v O
     subst R;subst T;obtain⟨find,E,r⟩:=aw7 D J w;have B:=H3 J w E A (d.den U) (L.toR U) es 0 V;have y:=aQ6 (U:=U) L d ks;have X:=br9 (U:=U) L ks
     rcases B with⟨q1,q2,H,_⟩| ⟨q1,x,_,q2,H,_⟩
     ·refine OKh.ret ⟨rfl,bif ok then .tuple #[zv,.bool false]else zv,?_,?_⟩
      ·simp only[B3,N,D,K,r,q2,Q]
      ·have g:=aj6 (τ:=τ) (U:=U) (x:=zv) (F:=F) (P:=P) (by rw[y,H];exact A) O
       cases ok with
       |false=>exact g
       |true=>
        have hb:VD P U τ F (.bool (.op .mhas (L::ks))) (.bool false):=by
         have:=VD.bool (P:=P) (U:=U) (τ:=τ) (F:=F) (.op .mhas (L::ks))
         grind
        exact .tup [_,_] [zv,.bool false] rfl (VDL.cons g (VDL.cons hb VDL.nil)).2
     ·rw[bI3]at q2
      refine OKh.ret ⟨rfl,bif ok then .tuple #[x,.bool true]else x,?_,?_⟩
      ·simp only[B3,N,D,K,r,q2]
      ·have g:=aj6 (τ:=τ) (U:=U) (x:=x) (F:=F) (P:=P) (by rw[y];exact H) O
       cases ok with
       |false=>exact g
       |true=>
        have hb:VD P U τ F (.bool (.op .mhas (L::ks))) (.bool true):=by
         have:=VD.bool (P:=P) (U:=U) (τ:=τ) (F:=F) (.op .mhas (L::ks))
         grind
        exact .tup [_,_] [x,.bool true] rfl (VDL.cons g (VDL.cons hb VDL.nil)).2
    ·exact OKh.fail
   ·exact OKh.fail
  ·exact OKh.fail
 ·exact OKh.fail
variable {xv:Value}
theorem ba9 {t : TypeId} {x:SV}  (hm : VD P U τ F m mv) (hk : VD P U τ F k kv) (hx : VD P U τ F x xv) (hs : SD P U τ F s hp) :
  OKh P U (aL3 P t m k x) τ F s hp fun a _ _ hp'=>a= .tup []/\Q7 P hp t mv kv xv=some hp':=by
 unfold aL3;split
 ·rename_i kt vt O
  refine aA3 hm hk hs fun b L ks sh dd i es reg J A R V h K M d W N=>?_
  split
  ·rename_i e he
   have D:=Q5 hx he;subst R;subst V;obtain⟨find,B,g⟩:=aw7 A J h;have w:=H3 J h B D (e.den U) (L.toR U) es 0 W;have r:=aQ8 (U:=U) L e ks
   rcases w with⟨q1,q2,_,_,E⟩| ⟨q1,v,_,q2,_,_,_,E⟩
   ·refine(OKh.change (x':= .map (.op .mput (L::e::ks)) kt vt) (y:= .map (es++ [(Z2 sh (ks.map fun e=>(e.den U).kv),xv)]) reg) (m:=hp.m.set i (some (.map (es++ [(Z2 sh (ks.map fun e=>(e.den U).kv),xv)]) reg))) N K (fun j hj=>by rw[T.get_set,bH1 hj]) (by rw[T.get_set,bH3 rfl]) ⟨rfl,_,reg,rfl,d,by rw[r];exact E⟩).bind fun _ H Q X C _ _ ⟨Y,Z,G⟩=>OKh.ret ⟨rfl,?_⟩
    simp only[Q7,O,A,M,g,q2,G]
   ·rw[bI3]at q2
    refine(OKh.change (x':= .map (.op .mput (L::e::ks)) kt vt) (y:= .map (es.set (midxR (L.toR U) (ks.map fun e=>(e.den U).kv)) (Z2 sh (ks.map fun e=>(e.den U).kv),xv)) reg) (m:=hp.m.set i (some (.map (es.set (midxR (L.toR U) (ks.map fun e=>(e.den U).kv)) (Z2 sh (ks.map fun e=>(e.den U).kv),xv)) reg))) N K (fun j hj=>by rw[T.get_set,bH1 hj]) (by rw[T.get_set,bH3 rfl]) ⟨rfl,_,reg,rfl,d,by rw[r];exact E⟩).bind fun _ H Q X C _ _ ⟨Y,Z,G⟩=>OKh.ret ⟨rfl,?_⟩
    simp only[Q7,O,A,M,g,q2,G]
  ·exact OKh.fail
 ·exact OKh.fail
theorem aL2 {t : TypeId}   (hm : VD P U τ F m mv) (hk : VD P U τ F k kv) (hs : SD P U τ F s hp) :
  OKh P U (ap1 P t m k) τ F s hp fun a τ' F' hp'=>∃v,E5 P hp t mv kv=some (v,hp')/\VD P U τ' F' a v:=by
 unfold ap1;split
 ·rename_i kt vt hu
  refine aA3 hm hk hs fun b L ks sh dd i es reg J K e3 e4 w Z e6 A e7 e8=>?_
  split
  ·rename_i z hz
   obtain⟨zv,z1,z2⟩:=I9 (U:=U) (τ:=τ) (F:=F) hz;obtain⟨zc,zs,aa,z3,z4⟩:=z2.uncons;cases H:at5 (E9 P vt)with
   |false=>exact OKh.fail
   |true=>
   simp only[Bool.not_true,bG9];have O:zv=zc:=by
    rw[z1]at H;have hc:zv.cells.toList=[zv]:=by
     unfold at5 at H;split at H
     ·rename_i h;cases h;rfl
     ·rename_i h;cases h;rfl
     ·rename_i h;cases h;rfl
     ·cases H
    grind
   subst O;split
   ·rename_i d hd
    have D:=Q5 z3 hd;split
    ·rename_i v hv
     subst e3;subst e4;subst A;obtain⟨find,B,r⟩:=aw7 K J w;have g:=aQ6 (U:=U) L d ks;have C:=aQ8 (U:=U) L (.op .mget (L::d::ks)) ks;have M:(E.op .mix (L::ks)).toI U=(midxR (L.toR U) (ks.map fun e=>(e.den U).kv):Nat):=by
      show((midxR (L.toR U) ((E.dens U ks).map Dat.kv):Nat):Int)=_;rw[aj2]
     have ent:∀(x:Value),PV P F (kd1 P vt) x ((E.op .mget (L::d::ks)).den U)->VD P U τ F (.tup [v,.int .i64 (.op .mix (L::ks))]) (.tuple #[x,.int .i64 (midxR (L.toR U) (ks.map fun e=>(e.den U).kv):Nat)]):=fun x hx=>by
      rw[<-M];exact .tup [_,_] [x,_] rfl (VDL.cons (aj6 (τ:=τ) (U:=U) hx hv) (VDL.cons (.int _ _) VDL.nil)).2
     rcases H3 J w B D (d.den U) (L.toR U) es 0 e7 with⟨q1,q2,G,R,Q⟩| ⟨q1,x,y,q2,G,R,q6,_⟩
     ·refine(OKh.change (x':= .map (.op .mput (L:: .op .mget (L::d::ks)::ks)) kt vt) (y:= .map (es++ [(Z2 sh (ks.map fun e=>(e.den U).kv),zv)]) true) (m:=hp.m.set i (some (.map (es++ [(Z2 sh (ks.map fun e=>(e.den U).kv),zv)]) true))) e8 Z (fun j hj=>by rw[T.get_set,bH1 hj]) (by rw[T.get_set,bH3 rfl]) ⟨rfl,_,true,rfl,rfl,by rw[C,g,G];exact Q⟩).bind fun _ Y F3 s3 N _ _ ⟨V,W,X⟩=>OKh.ret ?_
      subst V;subst W;exact⟨_,by simp only[E5,hu,K,e6,r,q2,z1,X];rw[<-R],ent zv (by rw[g,G];exact D)⟩
     ·rw[bI3]at q2
      rcases H3 J w B G (d.den U) (L.toR U) es 0 e7 with⟨k1,_⟩| ⟨_,_,_,_,_,_,_,Q⟩
      ·grind
      refine(OKh.change (x':= .map (.op .mput (L:: .op .mget (L::d::ks)::ks)) kt vt) (y:= .map (es.set (midxR (L.toR U) (ks.map fun e=>(e.den U).kv)) (Z2 sh (ks.map fun e=>(e.den U).kv),x)) true) (m:=hp.m.set i (some (.map (es.set (midxR (L.toR U) (ks.map fun e=>(e.den U).kv)) (Z2 sh (ks.map fun e=>(e.den U).kv),x)) true))) e8 Z (fun j hj=>by rw[T.get_set,bH1 hj]) (by rw[T.get_set,bH3 rfl]) ⟨rfl,_,true,rfl,rfl,by rw[C,g];exact Q⟩).bind fun _ Y F3 s3 N _ _ ⟨V,W,X⟩=>OKh.ret ?_
      subst V;subst W;exact⟨_,by simp only[E5,hu,K,e6,r,q2,R,q6,X],ent x (by rw[g];exact G)⟩
    ·exact OKh.fail
   ·exact OKh.fail
  ·exact OKh.fail
 ·exact OKh.fail
theorem az8 {x:SV}  (hm : VD P U τ F m mv) (hk : VD P U τ F k kv) (hx : VD P U τ F x xv) (hs : SD P U τ F s hp) :
  OKh P U (ab5 P U m k x) τ F s hp fun a _ _ hp'=>a= .tup []/\H6 hp mv kv xv=some hp':=by
 unfold ab5;split
 ·rename_i b kd e
  refine OKh.read ?_;split
  ·rename_i L kt vt G
   split
   ·rename_i sh ex C A
    have K:=Q5 hx A;refine OKh.bindp OKp.need fun _ s1 M hs1 p1=>OKh.bindp OKp.need fun _ s2 N J p2=>?_
    have p1:=p6 p1;have p2:=u9 p2;rw[d5]at p2;simp only[q7]at p1;cases hm with
    |map _ i o ht=>
     cases hk
     rcases hs.live b _ G with⟨Y,o',y,h1,h2,_,h0,es,reg,rfl,w,h3,h4⟩| ⟨_,X,e',z',O,h2,_⟩
     ·rw[ht]at h1
      cases h1;subst h0;subst w;obtain⟨n,hn⟩:∃n:Nat,e.toI U=n:=⟨(e.toI U).toNat,by omega⟩
      rw[hn]at p2⊢;have r:n<(L.toR U).length:=by omega
      have h:n<es.length:=by omega
      have B:s2.get b=some (.map L kt vt):=by rw[N.get,M.get];exact G
      obtain⟨Q,ks,d,k1,k2,k3,Z,k5⟩:=h4 n _ _ (bG3 r) (bG3 h);rw[C]at k1;cases k1;have D:(E.op (.upd sh.2.length) [L,e,ex]).toR U=(L.toR U).set n (ks.map KV.dat++ [ex.den U]):=by
       show setAt (L.toR U) (e.toI U) sh.2.length (ex.den U)=_;unfold setAt;have hm:∀(l:Rows) (g:List Dat->List Dat) (hl:n<l.length),l.modify n g=l.set n (g l[n]):=fun l g hl=>by
        refine List.ext_getElem? fun j=>?_
        grind
       rw[hn,bJ2,hm _ _ r];rw[k3,List.set_append_right _ _ (by rw[bH0,O2 k2];exact bH4 _),bH0,O2 k2,bP9];rfl
      refine(OKh.change (x':= .map (.op (.upd sh.2.length) [L,e,ex]) kt vt) (y:= .map (es.set n (es[n].1,xv)) true) (m:=hp.m.set i (some (.map (es.set n (es[n].1,xv)) true))) B ht (fun j hj=>by rw[T.get_set,bH1 hj]) (by rw[T.get_set,bH3 rfl]) ⟨rfl,_,true,rfl,rfl,?_⟩).bind fun _ V W s3 H _ _ ⟨w1,w2,R⟩=>OKh.ret ⟨rfl,?_⟩
      ·rw[D]
       refine⟨by simp[h3],fun j row e0 hr he=>?_⟩
       grind
      ·simp only[H6,h2,bG3 h,R]
     ·cases h2
   ·exact OKh.fail
  ·exact OKh.fail
 ·exact OKh.fail
end
end Go.Sx
namespace Go.Sx
open Go.Xe
structure B7 where
 run:FuncId->List SV->M SV
 round:List Nat->List SV->FuncId->Nat->List Nat->Code->Code->List SV->M SV
def bb0 (P:Program)(t:TypeId)(x:SV):M SV:=match P.underlying t,x with
 |some .string,.str e=>a8 (R6 (.iter e (.int 0))) fun b=>c6 (.ptr b 1 (.int 0) 0)
 |_,_=>a7 "range"
def bw0 (U : Nat → List Dat → Dat) (isS : Bool) (it : SV) : M SV := match isS, it with
 | true, .ptr b _ (.int m) f => bif decide (m = 0) && Nat.beq f 0 then i9 fun s => match s.get b with
   | some (.iter str pos) => a8 (ab0 U (l9 pos (R0 str))) fun t =>
     bif t then a8 (Z4 b (some (.iter str (l5 pos (.op .srw [str,pos]))))) fun _=>c6 (.tup [.bool (.bool true),.int .i64 pos,.int .i32 (.op .srune [str,pos])])
     else c6 (.tup [.bool (.bool false)])
   |_=>a7 "next: no iterator"
  else a7 "next"
 |_,_=>a7 "next"
def bm7 (f:Fm):Option Operand->Option (Option SV)
 |none=>some none
 |some x=>match f8 f x with
  |some v=>some (some v)
  |none=>none
def aY4 (s i:E):E:=match s,i with
 | .str l,.int n=>match l[n.toNat]? with
  |some b=>.int b.toNat
  |none=>.op .sidx [s,i]
 |s,i=>.op .sidx [s,i]
section
variable (P :Program)(U:Nat->List Dat->Dat)
def ba6 (t : TypeId) (x i : SV) : M SV :=
 match i with
 | .int _ n => match P.underlying t with
  |some .string=>match x with
   | .str s=>a8 (f7 U (l6 (l9 n (.int 0)))) fun _=>a8 (f7 U (l9 n (R0 s))) fun _=>c6 (.int .u8 (aY4 s n))
   |_=>a7 "index: string"
  | some (.array len e) => match x, n with
   | .agg cs, .int m => bif decide (0 ≤ m) && decide (m < len) then
     match P.info? e with
     |some ie=>ae4 "index" (aH9 P e cs (m.toNat*ie.size))
     |none=>a7 "index: type"
    else a7 "index: beyond"
   |_,_=>a7 "index: array"
  |_=>a7 "index: type"
 |_=>a7 "index: no int"
def aH7 (x:SV):M SV:=
 match x with
 | .ptr b z row fld=>c6 (.ptr b z row fld)
 | .pptr t L row fld=>c6 (.pptr t L row fld)
 | .fn (.func f) a b=>c6 (.fn (.func f) a b)
 |_=>a7 "nil"
def aS9 (b:Builtin)(ats:List TypeId)(args:List SV):M SV:=
 match b,ats,args with
 | .append,[t,u],[s,x]=>bg0 P U t u s x
 | .len,[t],[x]=>slen P t x
 | .cap,[t],[x]=>scap P t x
 | .min,_,x::xs=>bm5 U false x xs
 | .max,_,x::xs=>bm5 U true x xs
 |_,_,_=>a7 "builtin"
def bg4 (call:B7)(f:SV)(args:List SV):M SV:=
 match f with
 | .fn (.func g) first captured=>match P.funcs[g]? with
  |some fn=>bif ao3 fn then call.run g (first++args++captured)else a7 "call: no body"
  |none=>a7 "call: no function"
 | .yld ks vs g nt ps as bo=>call.round ks vs g nt ps as bo args
 |_=>a7 "call: value"
def sop (call:B7)(f:Fm)(o:Op):M SV:=
 match o with
 | .move x=>ae4 "move" (f8 f x)
 | .assign x=>ae4 "assign" (f8 f x)
 | .pick c a b=>match f8 f c with
  |some (.bool e)=>a8 (ab0 U e) fun t=>bif t then ae4 "pick" (f8 f a)else ae4 "pick" (f8 f b)
  |_=>a7 "pick"
 | .alloc e=>match ab9 P e with
  |some l=>sbox e l
  |none=>a7 "alloc"
 | .box e x=>match f8 f x with
  |some v=>match v7 v with
   |some l=>sbox e l
   |none=>a7 "box"
  |none=>a7 "box"
 | .build t parts=>match ab8 f parts.toList with
  |some ps=>ae4 "build" (ba2 P t ps)
  |none=>a7 "build"
 | .buildSlice t len parts=>match ab8 f parts.toList with
  |some ps=>ab4 P t len ps
  |none=>a7 "buildSlice"
 | .load t a=>match f8 f a with
  |some v=>bh2 P U t v
  |none=>a7 "load"
 | .store t a x=>match f8 f a with
  |some v=>match f8 f x with
   |some u=>bb4 P U t v u
   |none=>a7 "store"
  |none=>a7 "store"
 | .nilCheck x=>match f8 f x with
  |some v=>aH7 v
  |none=>a7 "nil"
 | .binOp op t x y _=>match f8 f x with
  |some v=>match f8 f y with
   |some u=>bu7 P U op t v u
   |none=>a7 "binOp"
  |none=>a7 "binOp"
 | .unOp op _ x=>match f8 f x with
  |some v=>sun U op v
  |none=>a7 "unOp"
 | .convert s d x=>match f8 f x with
  |some v=>bv0 P U s d v
  |none=>a7 "convert"
 | .makeInterface t x=>match f8 f x with
  |some v=>ae4 "interface" (ba5 P t v)
  |none=>a7 "interface"
 | .makeFunc fn first captured=>match aT3 f first.toList with
  |some fs=>match aT3 f captured.toList with
   |some cs=>c6 (.fn fn fs cs)
   |none=>a7 "makeFunc"
  |none=>a7 "makeFunc"
 | .makeSlice t l c=>match f8 f l with
  |some v=>match f8 f c with
   |some u=>ah1 P U t v u
   |none=>a7 "makeSlice"
  |none=>a7 "makeSlice"
 | .slice t x lo hi mx=>match f8 f x with
  |some v=>match bm7 f lo with
   |some l=>match bm7 f hi with
    |some h=>match bm7 f mx with
     |some m=>bb3 P U t v l h m
     |none=>a7 "slice"
    |none=>a7 "slice"
   |none=>a7 "slice"
  |none=>a7 "slice"
 | .fieldAddr t x i=>match f8 f x with
  |some v=>ae4 "fieldAddr" (ag9 P t v i)
  |none=>a7 "fieldAddr"
 | .field t x i=>match f8 f x with
  |some v=>ae4 "field" (ba4 P t v i)
  |none=>a7 "field"
 | .indexAddr t x i=>match f8 f x with
  |some v=>match f8 f i with
   |some u=>ah0 P U t v u
   |none=>a7 "indexAddr"
  |none=>a7 "indexAddr"
 | .index t x i=>match f8 f x with
  |some v=>match f8 f i with
   |some u=>ba6 P U t v u
   |none=>a7 "index"
  |none=>a7 "index"
 | .extract x i=>match f8 f x with
  |some v=>ae4 "extract" (az9 v i)
  |none=>a7 "extract"
 | .range t x=>match f8 f x with
  |some v=>bb0 P t v
  |none=>a7 "range"
 | .makeMap t r=>al2 P t r
 | .lookup t x k ok=>match f8 f x with
  |some v=>match f8 f k with
   |some u=>aL1 P t v u ok
   |none=>a7 "lookup"
  |none=>a7 "lookup"
 | .mapEntry t m k=>match f8 f m with
  |some v=>match f8 f k with
   |some u=>ap1 P t v u
   |none=>a7 "entry"
  |none=>a7 "entry"
 | .entryStore _ m k x=>match f8 f m with
  |some v=>match f8 f k with
   |some u=>match f8 f x with
    |some y=>ab5 P U v u y
    |none=>a7 "entry"
   |none=>a7 "entry"
  |none=>a7 "entry"
 | .mapUpdate t m k x=>match f8 f m with
  |some v=>match f8 f k with
   |some u=>match f8 f x with
    |some y=>aL3 P t v u y
    |none=>a7 "map"
   |none=>a7 "map"
  |none=>a7 "map"
 | .next it isS=>match f8 f it with
  |some v=>bw0 U isS v
  |none=>a7 "next"
 | .call c=>match aT3 f c.args.toList with
  |some args=>match c.callee with
   | .builtin b=>aS9 P U b c.argTypes.toList args
   | .value g=>match f8 f g with
    |some v=>bg4 P call v args
    |none=>a7 "call"
   |_=>a7 "call: method"
  |none=>a7 "call: operands"
 |_=>a7 "operation"
end
section
variable {P :Program}{U:Nat->List Dat->Dat}{τ:Tau}{F:Nat->Option Blk}{s:SS}{hp:Hp}{ov:FuncId->Option TypeId}
def EV (p:Nat->Prop):Prop:=∃n0,∀n,n0<=n->p n
variable {p:Nat->Prop}
theorem EV.of (h:∀n,p n):EV p:=⟨0,fun n _=>h n⟩
variable {q:Nat->Prop}
theorem EV.and (h:EV p)(k:EV q):EV fun n=>p n/\q n:=by
 obtain⟨a,d⟩:=h;obtain⟨b,hb⟩:=k;exact⟨Nat.max a b,fun n hn=>⟨d n (bK9 (Nat.le_max_left a b) hn),hb n (bK9 (bM1 a b) hn)⟩⟩
theorem EV.mono (h:EV p)(k:∀n,p n->q n):EV q:=by
 obtain⟨a,b⟩:=h;exact⟨a,fun n hn=>k n (b n hn)⟩
variable (P ov) in
def XOp (o:Op)(tm:T Value)(hp:Hp)(v:Value)(hp':Hp):Prop:=EV fun n=>xop P (exec P ov n) tm hp o=some (v,hp')
variable (P ov) in
def aJ1 (g:FuncId)(args:List Value)(hp:Hp)(v:Value)(hp':Hp):Prop:=EV fun n=>(exec P ov n).run g args hp=some (v,hp')
variable (P U ov) in
structure y4 (call:B7):Prop where
 run:∀g l args τ F s hp,VDL P U τ F l args->SD P U τ F s hp->OKh P U (call.run g l) τ F s hp fun a τ' F' hp'=>∃v,aJ1 P ov g args hp v hp'/\VD P U τ' F' a v
 round:∀ks vs g nt ps as bo l args τ F s hp i,VD P U τ F (.yld ks vs g nt ps as bo) (.chan (some i))->VDL P U τ F l args->SD P U τ F s hp->
  OKh P U (call.round ks vs g nt ps as bo l) τ F s hp fun a τ' F' hp'=>∃v,(EV fun n=>(exec P ov n).round i args hp=some (v,hp'))/\VD P U τ' F' a v
variable {tm:T Value}
theorem aL6 {f:Fm}(h:TD P U τ F f tm){o:Option Operand}{a:Option SV}(e:bm7 f o=some a):∃v,ae8 tm o=some v/\OVD P U τ F a v:=by
 cases o with
 |none=>simp only[bm7,bF1]at e;subst e;exact⟨none,rfl,trivial⟩
 |some o=>
  simp only[bm7]at e;cases b:f8 f o with
  |none=>simp[b]at e
  |some a'=>
   simp only[b,bF1]at e;subst e;obtain⟨v,h1,h2⟩:=v6 h b;exact⟨some v,by simp[ae8,h1],h2⟩
theorem aY5 {a i:E}(h0:0<=i.toI U)(h1:i.toI U<(a.den U).toStr.length):(aY4 a i).toI U=(((a.den U).toStr[(i.toI U).toNat]'(by omega)).toNat:Int):=by
 have d:(E.op .sidx [a,i]).toI U=(((a.den U).toStr[(i.toI U).toNat]'(by omega)).toNat:Int):=by
  show((((a.den U).toStr.getD (i.toI U).toNat 0).toNat:Nat):Int)=_
  grind
 unfold aY4;split
 ·rename_i l n
  split
  ·rename_i b hb
   show(b.toNat:Int)=_;have:l[(E.toI U (.int n)).toNat]? =some b:=hb;rw[bG3 (show(E.toI U (.int n)).toNat<l.length by have:(E.toI U (.int n))<l.length:=h1;omega),bF1]at this
   rw[<-this];rfl
  ·exact d
 ·exact d
theorem bm4 {t:TypeId}{a b:SV}{v u:Value}(g:VD P U τ F a v)(hb:VD P U τ F b u):OKp U (ba6 P U t a b) s fun c=>∃w,ac4 P t v u=some w/\VD P U τ F c w:=by
 unfold ba6;split
 ·rename_i k n
  cases hb;split
  ·rename_i ht
   split
   ·rename_i e
    cases g;refine OKp.need.bind fun _ _ _ _ h1=>OKp.need.bind fun _ _ _ _ h2=>OKp.ret ?_
    have h1:=N1 h1;have h2:=u9 h2;rw[G6]at h2;have hl:(n.toI U).toNat<(e.den U).toStr.length:=by omega
    refine⟨.int .u8 (((e.den U).toStr[(n.toI U).toNat]).toNat:Int),?_,VD.int' (aY5 h1 h2)⟩;simp only[ac4,ht]
    grind
   ·exact OKp.fail
  ·rename_i len e ht
   split
   ·rename_i cs m
    cases hq:decide (0<=m)&&decide (m<(len:Int))with
    |false=>exact OKp.fail
    |true=>
     simp only[bG8];split
     ·rename_i ie d
      obtain⟨xs,rfl,hx⟩:=VDL.of_agg g;refine OKp.opt fun c hc=>?_
      obtain⟨w,h1,h2⟩:=al3 hx hc;refine⟨w,?_,h2⟩;simp only[ac4,ht];rw[show(decide (0<=(E.int m).toI U)&&decide ((E.int m).toI U<(len:Int)))=true from hq,bG8,d];exact h1
     ·exact OKp.fail
   ·exact OKp.fail
  ·exact OKp.fail
 ·exact OKp.fail
theorem OKp.op {m:M SV}{o:Op}{x:Option Value}(hx:∀n,xop P (exec P ov n) tm hp o=d7 hp x)(h:OKp U m s fun a=>∃v,x=some v/\VD P U τ F a v):OKh P U m τ F s hp fun a τ' F' hp'=>∃v,XOp P ov o tm hp v hp'/\VD P U τ' F' a v:=
 (h.up (P:=P) (τ:=τ) (F:=F) (hp:=hp)).mono fun a τ' F' hp' _ _ ⟨b,d,g,v,h1,h2⟩=>by
  subst b;subst d;subst g;exact⟨v,EV.of fun n=>by rw[hx,h1];rfl,h2⟩
variable {x:Value}
theorem bm8 {t : TypeId} {v : SV}  ( h : VD P U τ F v x) (hs : SD P U τ F s hp) :
  OKh P U (bb0 P t v) τ F s hp fun a τ' F' hp'=>∃n,am8 P t x=some n/\hp'=(hp.add n).2/\VD P U τ' F' a (hp.add n).1:=by
 unfold bb0;split
 ·rename_i e g
  cases h;refine(OKh.alloc (x:= .iter e (.int 0)) (y:= .sit ⟨(e.den U).toStr.toArray⟩ 0) hs fun τ' _=>⟨rfl,0,rfl,rfl⟩).bind fun b τ' F' s' hp' _ d ⟨h1,h2,h3⟩=>OKh.ret ?_
  subst h1;subst h3;refine⟨⟨.sit ⟨(e.den U).toStr.toArray⟩ 0,.ptr,rfl⟩,by simp only[am8,g],rfl,?_⟩
  exact VD.ptr' h2 (by show(0:Int)<=0;omega) (by show 0=0+(0:Int).toNat*_+0;simp)
 ·exact OKh.fail
theorem bw1 {isS : Bool} {v : SV}  ( g : VD P U τ F v x) (_hs : SD P U τ F s hp) :
  OKh P U (bw0 U isS v) τ F s hp fun a τ' F' hp'=>∃u,aC4 hp x isS=some (u,hp')/\VD P U τ' F' a u:=by
 unfold bw0;split
 ·rename_i b z m f
  cases hc:decide (m=0)&&Nat.beq f 0 with
  |false=>exact OKh.fail
  | true =>
   simp only[bF2,bH2,bJ1]at hc;obtain⟨rfl,rfl⟩:=hc;rw[bG8];refine OKh.read ?_;split
   ·rename_i str pos hb
    refine OKh.bindp OKp.test fun t s1 G hs1 ht=>?_
    have r:s1.get b=some (.iter str pos):=by rw[G.get];exact hb
    rcases hs1.live b _ r with⟨i,o,y,k1,k2,k3,rfl,n,rfl,w⟩| ⟨_,L,e,O,ph,h,_⟩
    ·cases  g with
     | ptr _ _ _ _  N o' h h0 =>
      rw[k1]at h;simp only[bF1,bF3]at h;obtain⟨rfl,rfl⟩:=h;have d:0+(E.int 0).toN U*z+0=0:=by show 0+(0:Int).toNat*z+0=0;simp
      rw [d];rw [y9,G6,w] at ht;have hx : aC4 hp (.pointer (some ⟨i, 0, none⟩)) true = bif Nat.blt n (str.den U).toStr.length then
        some (.tuple #[.bool true,.int .i64 n,.int .i32 (Utf8.decode ⟨(str.den U).toStr.toArray⟩ n).1],{hp with m:=hp.m.set i (some (.sit ⟨(str.den U).toStr.toArray⟩ (n+(Utf8.decode ⟨(str.den U).toStr.toArray⟩ n).2)))})
        else some (.tuple #[.bool false],hp):=by
       simp only[aC4,k2]
      have hn:pos.toI U=(n:Int):=w;cases t with
      |true=>
       rw[bH2]at ht;have hlt:Nat.blt n (str.den U).toStr.length=true:=bF8 (by omega)
       rw[hlt,bG8]at hx;have C:runeW (str.den U).toStr (pos.toI U)=((Utf8.decode ⟨(str.den U).toStr.toArray⟩ n).2:Nat):=by rw[hn];simp[runeW]
       have B:runeAt (str.den U).toStr (pos.toI U)=(Utf8.decode ⟨(str.den U).toStr.toArray⟩ n).1:=by rw[hn];simp[runeAt]
       rw[bG8];refine OKh.bind (R:=fun _ τ' F' hp'=>τ'=τ/\F'=F/\hp'= {hp with m:=hp.m.set i (some (.sit ⟨(str.den U).toStr.toArray⟩ (n+(Utf8.decode ⟨(str.den U).toStr.toArray⟩ n).2)))}) ?_ fun _ H J s2 D _ _ ⟨K,M,A⟩=>OKh.ret ⟨.tuple #[.bool true,.int .i64 n,.int .i32 (Utf8.decode ⟨(str.den U).toStr.toArray⟩ n).1],?_,?_⟩
       ·intro Q hq _
        obtain⟨h1,h2⟩:=hs1.change (x':= .iter str (l5 pos (.op .srw [str,pos]))) r k1 (y:= .sit ⟨(str.den U).toStr.toArray⟩ (n+(Utf8.decode ⟨(str.den U).toStr.toArray⟩ n).2))
         (hp':= {hp with m:=hp.m.set i (some (.sit ⟨(str.den U).toStr.toArray⟩ (n+(Utf8.decode ⟨(str.den U).toStr.toArray⟩ n).2)))}) rfl (fun j hj=>by simp[T.get_set,hj]) (by simp[T.get_set])
         ⟨rfl,_,rfl,by rw[d9,hn];show(n:Int)+runeW (str.den U).toStr (pos.toI U)=_;rw[C];omega⟩
        exact⟨(),_,hq,τ,F,_,h1,h2,rfl,rfl,rfl⟩
       ·rw[hx,A]
       ·refine .tup _ [.bool true,.int .i64 n,.int .i32 (Utf8.decode ⟨(str.den U).toStr.toArray⟩ n).1] rfl fun j a v d g=>?_
        match j,d,g with
        |0,d,g=>simp at d g;subst d;subst g;exact .bool (.bool true)
        |1,d,g=>simp at d g;subst d;subst g;exact VD.int' hn
        |2,d,g=>simp at d g;subst d;subst g;exact VD.int' B
        |j+3,d,g=>simp at d
      |false=>
       rw[bJ9]at ht;have hlt:Nat.blt n (str.den U).toStr.length=false:=by
        cases hb:Nat.blt n (str.den U).toStr.length with
        |false=>rfl
        |true=>exact absurd (by have:=bF5 hb;omega) ht
       rw[hlt,bG9]at hx;rw[bG9];refine OKh.ret ⟨_,hx,.tup _ [.bool false] rfl fun j a v d g=>?_⟩
       match j,d,g with
       |0,d,g=>simp at d g;subst d;subst g;exact .bool (.bool false)
       |j+1,d,g=>simp at d
    ·cases h
   ·exact OKh.fail
 ·exact OKh.fail
theorem aL5 {call:B7}(H:y4 P U ov call){f:Fm}(ht:TD P U τ F f tm)(hs:SD P U τ F s hp)(o:Op):OKh P U (sop P U call f o) τ F s hp fun a τ' F' hp'=>∃v,XOp P ov o tm hp v hp'/\VD P U τ' F' a v:=by
 have A:=fun{x:Operand} {a:SV} (e:f8 f x=some a)=>v6 (P:=P) (U:=U) ht e
 cases o with
 |move x=>exact OKp.op (x:=a9 tm x) (fun n=>by rw[b9];rfl) (OKp.opt fun a h=>A h)
 |assign x=>exact OKp.op (x:=a9 tm x) (fun n=>by rw[b9];rfl) (OKp.opt fun a h=>A h)
 |pick c a b=>
  simp only[sop];split
  ·rename_i e he
   obtain⟨v,h1,h2⟩:=A he;cases h2;refine OKp.op (x:=bif (e.den U).toBool then a9 tm a else a9 tm b) (fun n=>by rw[b9];simp only[g9,h1];cases(e.den U).toBool<;>rfl) ?_
   refine OKp.test.bind fun t _ _ _ h=>?_
   rw[h];cases t with
   |true=>exact OKp.opt fun a h=>A h
   |false=>exact OKp.opt fun a h=>A h
  ·exact OKh.fail
 |alloc e=>
  simp only[sop];split
  ·rename_i l hl
   obtain⟨z,h1,h2⟩:=I9 (U:=U) (τ:=τ) (F:=F) hl;refine(bg1 h2 hs).mono fun a τ' F' hp' _ _ ⟨C,B⟩=>⟨_,EV.of fun n=>?_,B⟩
   rw[b9];simp only[g9,xnw,al9,h1,H2];rw[(bF3 _ _ _ _).mp C|>.2]
  ·exact OKh.fail
 |box e x=>
  simp only[sop];split
  ·rename_i v d
   split
   ·rename_i l hl
    obtain⟨w,h1,h2⟩:=A d;refine(bg1 (ad3 h2 hl) hs).mono fun a τ' F' hp' _ _ ⟨C,B⟩=>⟨_,EV.of fun n=>?_,B⟩
    rw[b9];simp only[g9,xnw,h1,H2,aV1];rw[(bF3 _ _ _ _).mp C|>.2]
   ·exact OKh.fail
  ·exact OKh.fail
 |build t V=>
  simp only[sop];split
  ·rename_i ps R
   obtain⟨qs,h1,h2⟩:=ad6 ht R;exact OKp.op (x:=ah5 P t qs) (fun n=>by rw[b9];simp only[g9,h1]) (OKp.opt fun a h=>bl8 h2 h)
  ·exact OKh.fail
 |buildSlice t len V=>
  simp only[sop];split
  ·rename_i ps R
   obtain⟨qs,h1,h2⟩:=ad6 ht R;refine(az4 h2 hs).mono fun a τ' F' hp' _ _ ⟨n,C,B,K⟩=>⟨_,EV.of fun m=>?_,K⟩
   rw[b9];simp only[g9,xnw,h1,C,H2,B]
  ·exact OKh.fail
 |makeMap t r=>
  simp only[sop];cases r with
  |some r=>
   unfold al2;split
   ·grind
   ·exact OKh.fail
  |none=>
   refine(aT8 (t:=t) hs).mono fun a τ' F' hp' _ _ ⟨⟨kt,vt,e0⟩,C,B⟩=>⟨_,EV.of fun m=>?_,B⟩
   rw[b9,C];simp only[g9,xnw,ae8,bh9,H2,e0]
 |lookup t x k ok=>
  simp only[sop];split
  ·rename_i v d
   split
   ·rename_i u O
    obtain⟨w,h1,h2⟩:=A d;obtain⟨y,h3,h4⟩:=A O;refine(ba7 h2 h4 hs).mono fun c τ' F' hp' _ _ ⟨C,r,B,K⟩=>⟨r,EV.of fun n=>?_,K⟩
    rw[b9,C];simp only[g9,h1,h3,B,d7]
   ·exact OKh.fail
  ·exact OKh.fail
 |mapEntry t m k=>
  simp only[sop];split
  ·rename_i v d
   split
   ·rename_i u O
    obtain⟨w,h1,h2⟩:=A d;obtain⟨w',h3,h4⟩:=A O;refine(aL2 h2 h4 hs).mono fun c τ' F' hp' _ _ ⟨x,C,B⟩=>⟨x,EV.of fun n=>?_,B⟩
    rw[b9];simp only[g9,h1,h3,C]
   ·exact OKh.fail
  ·exact OKh.fail
 |entryStore t m k x=>
  simp only[sop];split
  ·rename_i v d
   split
   ·rename_i u O
    split
    ·rename_i y hy
     obtain⟨w,h1,h2⟩:=A d;obtain⟨w',h3,h4⟩:=A O;obtain⟨ah,Q,W⟩:=A hy;refine(az8 h2 h4 W hs).mono fun c τ' F' hp' _ _ ⟨C,B⟩=>⟨undef,EV.of fun n=>?_,?_⟩
     ·rw[b9];simp only[g9,h1,h3,Q,B]
     ·subst C;exact .tup [] [] rfl (fun i a x h _=>by simp at h)
    ·exact OKh.fail
   ·exact OKh.fail
  ·exact OKh.fail
 |mapUpdate t m k x=>
  simp only[sop];split
  ·rename_i v d
   split
   ·rename_i u O
    split
    ·rename_i y hy
     obtain⟨w,h1,h2⟩:=A d;obtain⟨w',h3,h4⟩:=A O;obtain⟨ah,Q,W⟩:=A hy;refine(ba9 h2 h4 W hs).mono fun c τ' F' hp' _ _ ⟨C,B⟩=>⟨undef,EV.of fun n=>?_,?_⟩
     ·rw[b9];simp only[g9,h1,h3,Q,B]
     ·subst C;exact .tup [] [] rfl (fun i a x h _=>by simp at h)
    ·exact OKh.fail
   ·exact OKh.fail
  ·exact OKh.fail
 |load t a=>
  simp only[sop];split
  ·rename_i v d
   obtain⟨w,h1,h2⟩:=A d;exact OKp.op (x:=L8 P hp t w) (fun n=>by rw[b9];simp only[g9,h1]) (aT7 h2 hs)
  ·exact OKh.fail
 |store t a x=>
  simp only[sop];split
  ·rename_i v d
   split
   ·rename_i u O
    obtain⟨w,h1,h2⟩:=A d;obtain⟨y,h3,h4⟩:=A O;refine(bn1 h2 h4 hs).mono fun c τ' F' hp' _ _ ⟨C,B⟩=>⟨undef,EV.of fun n=>?_,?_⟩
    ·rw[b9];simp only[g9,h1,h3,B]
    ·subst C;exact .tup [] [] rfl (fun i a x h _=>by simp at h)
   ·exact OKh.fail
  ·exact OKh.fail
 |nilCheck x=>
  simp only[sop];split
  ·rename_i v d
   obtain⟨w,h1,h2⟩:=A d;unfold aH7;split
   ·rename_i b z row fld
    cases h2 with
    |ptr _ _ _ _ i o h h0=>exact OKp.op (x:=some (.pointer (some ⟨i,o+row.toN U*z+fld,none⟩))) (fun n=>by rw[b9];simp only[g9,h1];rfl) (OKp.ret ⟨_,rfl,.ptr b z row fld i o h h0⟩)
   ·rename_i t L row fld
    cases h2 with
    |pptr _ _ _ _ i o l c h h0 h3=>exact OKp.op (x:=some (.pointer (some ⟨i,o+row.toN U*(kf P t).length+fld,none⟩))) (fun n=>by rw[b9];simp only[g9,h1];rfl) (OKp.ret ⟨_,rfl,.pptr t L row fld i o l c h h0 h3⟩)
   ·rename_i g l m
    cases h2 with
    |fn _ _ _ xs ys k1 k2 k3 Y=>exact OKp.op (x:=some (.func (.func g) xs.toArray ys.toArray)) (fun n=>by rw[b9];simp only[g9,h1];rfl) (OKp.ret ⟨_,rfl,.fn _ l m xs ys k1 k2 k3 Y⟩)
   ·exact OKh.fail
  ·exact OKh.fail
 |binOp op t x y u=>
  simp only[sop];split
  ·rename_i v d
   split
   ·rename_i w T
    obtain⟨a,h1,h2⟩:=A d;obtain⟨b,h3,h4⟩:=A T;exact OKp.op (x:=D7 P op t a b) (fun n=>by rw[b9];simp only[g9,h1,h3]) (bu8 h2 h4)
   ·exact OKh.fail
  ·exact OKh.fail
 |unOp op t x=>
  simp only[sop];split
  ·rename_i v d
   obtain⟨a,h1,h2⟩:=A d;exact OKp.op (x:=xun op a) (fun n=>by rw[b9];simp only[g9,h1]) (bE4 h2)
  ·exact OKh.fail
 |convert src dst x=>
  simp only[sop];split
  ·rename_i v d
   obtain⟨a,h1,h2⟩:=A d;exact OKp.op (x:=ac1 P src dst a) (fun n=>by rw[b9];simp only[g9,h1]) (bv1 h2)
  ·exact OKh.fail
 |makeInterface t x=>
  simp only[sop];split
  ·rename_i v d
   obtain⟨a,h1,h2⟩:=A d;exact OKp.op (x:=ah9 P t a) (fun n=>by rw[b9];simp only[g9,h1]) (OKp.opt fun c h=>bm3 h2 h)
  ·exact OKh.fail
 |makeFunc fn first D=>
  simp only[sop];split
  ·rename_i fs ac
   split
   ·rename_i cs Z
    obtain⟨xs,h1,h2⟩:=av1 ht ac;obtain⟨ys,h3,h4⟩:=av1 ht Z;exact OKp.op (x:=some (.func fn xs.toArray ys.toArray)) (fun n=>by rw[b9];simp only[g9,h1,h3];rfl) (OKp.ret ⟨_,rfl,.fn fn fs cs xs ys h2.1 h2.2 h4.1 h4.2⟩)
   ·exact OKh.fail
  ·exact OKh.fail
 |makeSlice t l c=>
  simp only[sop];split
  ·rename_i v d
   split
   ·rename_i w T
    obtain⟨a,h1,h2⟩:=A d;obtain⟨b,h3,h4⟩:=A T;refine(aD8 h2 h4 hs).mono fun c τ' F' hp' _ _ ⟨n,C,B,K⟩=>⟨_,EV.of fun m=>?_,K⟩
    rw[b9];simp only[g9,xnw,h1,h3,C,H2,B]
   ·exact OKh.fail
  ·exact OKh.fail
 |slice t x lo hi mx=>
  simp only[sop];split
  ·rename_i v d
   split
   ·rename_i l hl
    split
    ·rename_i h hh
     split
     ·rename_i m hm
      obtain⟨a,h1,h2⟩:=A d;obtain⟨l',h3,h4⟩:=aL6 ht hl;obtain⟨h',Q,W⟩:=aL6 ht hh;obtain⟨m',h7,h8⟩:=aL6 ht hm;refine(bn0 h2 h4 W h8 hs).mono fun c τ' F' hp' _ _ ⟨C,w,B,K⟩=>⟨w,EV.of fun n=>?_,K⟩
      rw[b9,C];simp only[g9,h1,h3,Q,h7,B]
     ·exact OKh.fail
    ·exact OKh.fail
   ·exact OKh.fail
  ·exact OKh.fail
 |fieldAddr t x i=>
  simp only[sop];split
  ·rename_i v d
   obtain⟨a,h1,h2⟩:=A d;exact OKp.op (x:=G8 P t a i) (fun n=>by rw[b9];simp only[g9,h1]) (OKp.opt fun c h=>aD6 h2 h)
  ·exact OKh.fail
 |field t x i=>
  simp only[sop];split
  ·rename_i v d
   obtain⟨a,h1,h2⟩:=A d;exact OKp.op (x:=ah8 P t a i) (fun n=>by rw[b9];simp only[g9,h1]) (OKp.opt fun c h=>bm2 h2 h)
  ·exact OKh.fail
 |indexAddr t x i=>
  simp only[sop];split
  ·rename_i v d
   split
   ·rename_i w T
    obtain⟨a,h1,h2⟩:=A d;obtain⟨b,h3,h4⟩:=A T;exact OKp.op (x:=z5 P t a b) (fun n=>by rw[b9];simp only[g9,h1,h3]) (aD7 h2 h4)
   ·exact OKh.fail
  ·exact OKh.fail
 |index t x i=>
  simp only[sop];split
  ·rename_i v d
   split
   ·rename_i w T
    obtain⟨a,h1,h2⟩:=A d;obtain⟨b,h3,h4⟩:=A T;exact OKp.op (x:=ac4 P t a b) (fun n=>by rw[b9];simp only[g9,h1,h3]) (bm4 h2 h4)
   ·exact OKh.fail
  ·exact OKh.fail
 |range t x=>
  simp only[sop];split
  ·rename_i v d
   obtain⟨w,h1,h2⟩:=A d;refine(bm8 h2 hs).mono fun a τ' F' hp' _ _ ⟨n,C,B,K⟩=>⟨_,EV.of fun m=>?_,K⟩
   rw[b9];simp only[g9,xnw,h1,C,H2,B]
  ·exact OKh.fail
 |next it isS=>
  simp only[sop];split
  ·rename_i v d
   obtain⟨w,h1,h2⟩:=A d;refine(bw1 h2 hs).mono fun a τ' F' hp' _ _ ⟨u,C,B⟩=>⟨u,EV.of fun m=>?_,B⟩
   rw[b9];simp only[g9,h1,C]
  ·exact OKh.fail
 |extract x i=>
  simp only[sop];split
  ·rename_i v d
   obtain⟨a,h1,h2⟩:=A d;exact OKp.op (x:=P1 a i) (fun n=>by rw[b9];simp only[g9,h1]) (OKp.opt fun c h=>aT4 h2 h)
  ·exact OKh.fail
 |call c=>
  simp only[sop];split
  ·rename_i l hl
   obtain⟨args,h1,h2⟩:=av1 ht hl;obtain⟨J,E,ats⟩:=c;have h1:ae7 tm E.toList=some args:=h1;cases J with
   |builtin b=>
    simp only;unfold aS9;split
    ·rename_i t u a x G
     obtain⟨v,vs,rfl,M,N⟩:=h2.uncons;obtain⟨w,ws,rfl,g3,g4⟩:=N.uncons;have:ws=[]:=bF7 g4.1.symm;subst this;have hx:∀n,xop P (exec P ov n) tm hp (.call ⟨.builtin .append,E,ats⟩)=match v9 P hp t u v w with|some r=>some r|none=>P0 P hp t u v w:=fun n=>by
      rw[b9];simp only[g9,h1,G,t8];rfl
     unfold bg0;split
     ·rename_i e B he aa
      split
      ·exact OKh.fail
      ·rename_i ie ad
       split
       ·exact OKh.fail
       ·rename_i z hz
        cases hq:Nat.beq z.cells.toList.length ie.size&&Nat.ble ie.bytes 1048576&&Nat.ble 1 ie.size with
        |false=>exact OKh.fail
        |true=>
         simp only[bG8];rw[bF2]at hq;obtain⟨q1,q2⟩:=hq;have X:=bF5 q2;refine OKh.bindp (bh5 X g3 hs) fun src s1 o1 hs1 ⟨n,news,k1,k2,k3,Y⟩=>?_
         refine(bA9 X M k2 k3 Y hs1).mono fun c τ' F' hp' _ _ ⟨y,k5,k6⟩=>⟨y,EV.of fun n=>?_,k6⟩
         rw[hx,bb9 he aa ad hz q1 k1,k5]
     ·exact OKh.fail
    ·rename_i t x G
     obtain⟨v,vs,rfl,M,N⟩:=h2.uncons;have:vs=[]:=bF7 N.1.symm;subst this;exact OKp.op (x:=Q6 hp P t v) (fun n=>by rw[b9];simp only[g9,h1,G,t8]) (bB3 M)
    ·rename_i t x G
     obtain⟨v,vs,rfl,M,N⟩:=h2.uncons;have:vs=[]:=bF7 N.1.symm;subst this;exact OKp.op (x:=am0 P t v) (fun n=>by rw[b9];simp only[g9,h1,G,t8]) (bB1 M)
    ·rename_i x xs
     obtain⟨v,vs,rfl,M,N⟩:=h2.uncons;exact OKp.op (x:=Y8 false v vs) (fun n=>by rw[b9];simp only[g9,h1,t8]) (aL4 M N)
    ·rename_i x xs
     obtain⟨v,vs,rfl,M,N⟩:=h2.uncons;exact OKp.op (x:=Y8 true v vs) (fun n=>by rw[b9];simp only[g9,h1,t8]) (aL4 M N)
    ·exact OKh.fail
   |value g=>
    simp only;split
    ·rename_i v d
     obtain⟨w,h3,h4⟩:=A d;unfold bg4;split
     ·rename_i g' first D
      split
      ·rename_i fn ab
       cases ae:ao3 fn with
       |false=>exact OKh.fail
       |true=>
        simp only[bG8];cases h4 with
        |fn _ _ _ xs ys k1 k2 k3 Y=>
         have hl:VDL P U τ F (first++l++D) (xs++args++ys):=(VDL.append ⟨k1,k2⟩ h2).append ⟨k3,Y⟩
         refine(H.run g' _ _ τ F s hp hl hs).mono fun a τ' F' hp' _ _ ⟨y,C,B⟩=>⟨y,C.mono fun n hn=>?_,B⟩
         rw[b9];simp only[g9,h1,h3,aB3,ab,ae,bG8]
         simpa using hn
      ·exact OKh.fail
     ·rename_i ks vs gg nt ps as bo
      have Q:=h4;cases h4 with
      |yld _ _ _ _ _ _ _ i tms pr db hF hp0 k=>
       refine(H.round ks vs gg nt ps as bo l args τ F s hp i Q h2 hs).mono fun a τ' F' hp' _ _ ⟨y,C,B⟩=>⟨y,C.mono fun n hn=>?_,B⟩
       rw[b9];simp only[g9,h1,h3,aB3];exact hn
     ·exact OKh.fail
    ·exact OKh.fail
   |invoke r m=>exact OKh.fail
  ·exact OKh.fail
 |_=>exact OKh.fail
end
end Go.Sx
namespace Go.Sx
open Go.Xe
def D0 (f:Fm)(dst:Option Tmp)(v:SV):Fm:=match dst with
 |some d=>(d,v)::f
 |none=>f
section
variable (P :Program)(U:Nat->List Dat->Dat)
def bl6 (f:Fm)(d:Tmp)(t:Bool):Fm:=match lk f d with
 |some (.bool e)=>(match e with
  | .bool _=>f
  |_=>(d,.bool (.bool t))::f)
 |_=>f
def N2 (all:List Oper)(f:Fm)(o:Oper)(t:Bool):Fm:=match o.guard with
 |some (j,want)=>match all[j]? with
  |some p=>match p.dst with
   |some d=>bl6 f d (t==want)
   |none=>f
  |none=>f
 |none=>f
def aZ8 (f:Fm)(c:Operand)(t:Bool):Fm:=match c with
 | .tmp d=>bl6 f d t
 |_=>f
def av3 (all:List Oper)(f:Fm)(o:Oper):M Bool:=
 match o.guard with
 |none=>c6 true
 |some (j,want)=>match all[j]? with
  |some p=>match p.dst with
   |some d=>match lk f d with
    |some (.bool e)=>a8 (ab0 U e) fun t=>c6 (t==want)
    |some (.tup [])=>c6 false
    |_=>a7 "guard"
   |none=>c6 false
  |none=>c6 false
def sone (call:B7)(nt:Nat)(all:List Oper)(o:Oper)(f:Fm):M Fm:=
 bif u7 nt o.dst then
  a8 (av3 U all f o) fun t=>bif t then a8 (sop P U call (N2 all f o t) o.op) fun v=>c6 (D0 (N2 all f o t) o.dst v)else c6 (D0 (N2 all f o t) o.dst (.tup []))
 else a7 "slot"
def bw2 (call:B7)(nt:Nat)(all:List Oper):List Oper->Fm->M Fm
 | [],f=>c6 f
 |o::os,f=>a8 (sone P U call nt all o f) fun f'=>bw2 call nt all os f'
abbrev af0:=List Oper->Fm->M Fm
abbrev ai5:=Nat->Code->(Fm->M (Exit×Fm))->Fm->Option (M (Exit×Fm))
def ay0 :Code->Option Code
 | .loop b=>some b
 |_=>none
def mkill :M Unit:=fun s=>.ret ((),{s with h:=(s.nx,none)::s.h,nx:=s.nx+1})
def aL7 (call : B7) (g : FuncId) (nt : Nat) (fo : Operand) (ps : Array Tmp) (as bo : Code) (f : Fm) : M (Exit × Fm) :=
 match f8 f fo with
 | some (.fn (.func it) first cap) => match P.funcs[it]? with
  | some fn => bif ao3 fn then
    a8 mkill fun _=>a8 (call.run it (first++ [.yld (f.map Prod.fst) (f.map Prod.snd) g nt ps.toList as bo]++cap)) fun _=>i9 fun s=>
     bif nyS s then c6 (.normal,f)else a7 "range: the yield function is kept"
   else a7 "range: no body"
  |none=>a7 "range: no function"
 |_=>a7 "range: value"
def C9 (call : B7) (dr : af0) (lp : ai5) (g : FuncId) (rg : Bool) (nt : Nat) : Nat → Code → Fm → M (Exit × Fm)
 |0,_,_=>a7 "fuel"
 | m + 1, c, f => match c with
  | .skip=>c6 (.normal,f)
  | .label _=>c6 (.normal,f)
  | .region _ ops draw=>a8 (bif draw then dr ops.toList f else bw2 P U call nt ops.toList ops.toList f) fun f'=>c6 (.normal,f')
  | .seq x y=>a8 (C9 call dr lp g rg nt m x f) fun r=>match r.1 with
   | .normal=>C9 call dr lp g rg nt m y r.2
   |e=>c6 (e,r.2)
  | .cond c x y=>match f8 f c with
   |some (.bool e)=>a8 (ab0 U e) fun t=>bif t then C9 call dr lp g rg nt m x (aZ8 f c t)else C9 call dr lp g rg nt m y (aZ8 f c t)
   |_=>a7 "if"
  | .block id b => a8 (match ay0 b with
    |some lb=>match lp id lb (C9 call dr lp g rg nt m lb) f with
     |some r=>r
     |none=>C9 call dr lp g rg nt m b f
    |none=>C9 call dr lp g rg nt m b f) fun r=>match r.1 with
   | .exit j=>bif Nat.beq j id then c6 (.normal,r.2)else c6 (.exit j,r.2)
   |e=>c6 (e,r.2)
  | .loop b=>a8 (C9 call dr lp g rg nt m b f) fun r=>match r.1 with
   | .normal=>C9 call dr lp g rg nt m (.loop b) r.2
   |e=>c6 (e,r.2)
  | .exit id=>c6 (.exit id,f)
  | .ret=>c6 (.ret,f)
  | .scope b=>a8 (C9 call dr lp g rg nt m b f) fun r=>match r.1 with
   | .normal=>c6 (.normal,r.2)
   | .exit j=>c6 (.exit j,r.2)
   | .ret=>c6 (.ret,r.2)
   |_=>a7 "scope"
  | .rangeFunc fo ps as bo=>bif rg then aL7 P call g nt fo ps as bo f else a7 "a range in a range"
  |_=>a7 "code"
end
section
variable {P :Program}{U:Nat->List Dat->Dat}{ov:FuncId->Option TypeId}{nt:Nat}
variable {τ:Tau}{F:Nat->Option Blk}{f:Fm}{tm:T Value}
theorem TD.mono {τ':Tau}{F':Nat->Option Blk}(ht:Tle τ τ')(hf:Fle F F')(h:TD P U τ F f tm):TD P U τ' F' f tm:=fun k a b=>(h k a b).mono ht hf
theorem TD.put (h:TD P U τ F f tm){a:SV}{v:Value}(g:VD P U τ F a v)(dst:Option Tmp):TD P U τ F (D0 f dst a) (q9 tm dst v):=by
 cases dst with
 |none=>exact h
 |some d=>
  intro k b hb;simp only[D0,k9]at hb;simp only[q9,T.get_set]
  by_cases e:d=k
  ·grind
  ·rw[bH1 e]at hb;rw[bH1 (fun h=>e h.symm)];exact h k b hb
theorem aS0 (f:Fm)(dst:Option Tmp)(v:SV):∃pre,D0 f dst v=pre++f:=by
 cases dst with
 |none=>exact⟨[],rfl⟩
 |some d=>exact⟨[(d,v)],rfl⟩
variable {s:SS}
theorem aA5 (h:TD P U τ F f tm)(all:List Oper)(o:Oper):OKp U (av3 U all f o) s fun t=>j2 all tm o=t:=by
 unfold av3 j2;split
 ·rename_i b;simp only[b];exact OKp.ret rfl
 ·rename_i j w b
  simp only[b];unfold Y0;split
  ·rename_i p hp
   simp only[hp];split
   ·rename_i d r
    simp only[r];split
    ·rename_i e he
     have g:=h d _ he;refine OKp.test.bind fun t _ _ _ ht=>OKp.ret ?_
     generalize hx:(tm.get d).getD undef=x at g;cases g;cases b:tm.get d with
     |none=>rw[b]at hx;simp[undef]at hx
     |some y=>grind
    ·rename_i he
     have g:=h d _ he;generalize hx:(tm.get d).getD undef=x at g;cases g;refine OKp.ret ?_
     grind
    ·exact OKp.fail
   ·rename_i r;simp only[r];exact OKp.ret rfl
  ·rename_i hp;simp only[hp];exact OKp.ret rfl
variable {t:Bool}
theorem bf8 (h:TD P U τ F f tm){d:Tmp}(ht:∀b,tm.get d=some (.bool b)->b=t):TD P U τ F (bl6 f d t) tm:=by
 unfold bl6;split
 ·rename_i e he
  split
  ·exact h
  ·intro k a g
   rw[k9]at g;split at g
   ·rename_i e'
    subst e';cases g;have w:=h d _ he;generalize hx:(tm.get d).getD undef=x at w⊢;cases w;cases r:tm.get d with
    |none=>rw[r]at hx;cases hx
    |some y=>rw[r]at hx;cases hx;rw[ht _ r];exact .bool (.bool t)
   ·exact h k a g
 ·exact h
theorem aS4 (f:Fm)(d:Tmp)(t:Bool):∃pre,bl6 f d t=pre++f:=by
 unfold bl6;split
 ·split
  ·simp_all
  ·exact⟨[_],rfl⟩
 ·simp_all
theorem bf7 (h:TD P U τ F f tm){all:List Oper}{o:Oper}(g:j2 all tm o=t):TD P U τ F (N2 all f o t) tm:=by
 unfold N2;unfold j2 Y0 at g;split
 ·rename_i j r y
  split
  ·rename_i p hp
   split
   ·rename_i d w
    refine bf8 h fun b hb=>?_
    simp only[y,hp,w,hb]at g;subst g
    simp_all
   ·exact h
  ·exact h
 ·exact h
theorem bA6 (h:TD P U τ F f tm){c:Operand}{b:Bool}(hc:a9 tm c=some (.bool b))(hb:b=t):TD P U τ F (aZ8 f c t) tm:=by
 unfold aZ8;split
 ·rename_i d
  refine bf8 h fun b' hb'=>?_
  have hc:some ((tm.get d).getD undef)=_:=hc
  grind
 ·exact h
theorem bu2 (f:Fm)(c:Operand)(t:Bool):∃pre,aZ8 f c t=pre++f:=by
 unfold aZ8;split
 ·exact aS4 _ _ _
 ·simp_all
theorem aS3 (all:List Oper)(f:Fm)(o:Oper)(t:Bool):∃pre,N2 all f o t=pre++f:=by
 unfold N2;repeat' split
 ·exact aS4 _ _ _
 all_goals exact⟨[],rfl⟩
variable (P ov) in
def XOps (nt:Nat)(all l:List Oper)(tm:T Value)(hp:Hp)(tm':T Value)(hp':Hp):Prop:=EV fun n=>aC6 P (exec P ov n) nt all l tm hp=some (tm',hp')
theorem bh3 {call : B7} (    b : y4 P U ov call) {all : List Oper} : ∀ {l : List Oper} {τ : Tau} {F : Nat → Option Blk} {s : SS} {hp : Hp} {f : Fm} {tm : T Value}, TD P U τ F f tm → SD P U τ F s hp →
  OKh P U (bw2 P U call nt all l f) τ F s hp fun f' τ' F' hp'=>∃tm',XOps P ov nt all l tm hp tm' hp'/\TD P U τ' F' f' tm'/\ ∃pre,f'=pre++f
 | [],τ,F,s,hp,f,tm,ht,hs=>OKh.ret ⟨tm,EV.of fun n=>aC7,ht,[],rfl⟩
 | o :: l, τ, F, s, hp, f, tm, ht, hs => by
  unfold bw2 sone;cases A:u7 nt o.dst with
  |false=>exact OKh.fail.bind (R:=fun _ _ _ _=>False) fun _ _ _ _ _ _ _ h=>h.elim
  | true =>
   simp only [bG8];have step : ∀ {f0 : Fm} {a : SV} {v : Value} {τ1 : Tau} {F1 : Nat → Option Blk} {s1 : SS} {hp1 : Hp}, TD P U τ1 F1 f0 tm → (∃ pre, f0 = pre ++ f) → SD P U τ1 F1 s1 hp1 → VD P U τ1 F1 a v →
     OKh P U (bw2 P U call nt all l (D0 f0 o.dst a)) τ1 F1 s1 hp1 fun f' τ' F' hp'=>∃tm',XOps P ov nt all l (q9 tm o.dst v) hp1 tm' hp'/\TD P U τ' F' f' tm'/\ ∃pre,f'=pre++f:=by
    intro f0 a v τ1 F1 s1 hp1 h1 ⟨G,h0⟩ h2 h3;refine(bh3 b (h1.put h3 o.dst) h2).mono fun f' τ' F' hp' _ _ ⟨tm',r,w,pre,y⟩=>?_
    obtain⟨p,hp⟩:=aS0 f0 o.dst a
    grind
   refine OKh.bind (R:=fun f' τ' F' hp'=>∃f0 a v,f'=D0 f0 o.dst a/\TD P U τ' F' f0 tm/\(∃pre,f0=pre++f)/\VD P U τ' F' a v/\((j2 all tm o=true/\XOp P ov o.op tm hp v hp')\/(j2 all tm o=false/\v=undef/\hp'=hp))) ?_ ?_
   ·refine OKh.bindp (aA5 ht all o) fun t s1 E hs1 g=>?_
    have ht:=bf7 ht g;have d:=aS3 all f o t;cases t with
    |true=>
     simp only[bG8];refine(aL5 b ht hs1 o.op).bind fun a τ1 F1 s2 hp1 ex C ⟨v,h1,h2⟩=>OKh.ret ⟨_,a,v,rfl,ht.mono ex.t ex.f,d,h2,.inl ⟨g,h1⟩⟩
    |false=>
     simp only[bG9];exact OKh.ret ⟨_,.tup [],undef,rfl,ht,d,.tup [] [] rfl (fun i a x h _=>by simp at h),.inr ⟨g,rfl,rfl⟩⟩
   ·intro f' τ1 F1 s1 hp1 ex hs1 ⟨f0,a,v,r,ht,d,h1,h2⟩
    subst r;refine(step ht d hs1 h1).mono fun B τ' F' hp' _ _ ⟨tm',r,w,y⟩=>⟨tm',?_,w,y⟩
    rcases h2 with⟨g,hx⟩| ⟨g,D,hh⟩
    ·exact(hx.and r).mono fun n ⟨k1,k2⟩=>by rw[N8,A,bG8,g,bG8,k1];exact k2
    ·subst D;subst hh
     exact r.mono fun n k=>by rw[N8,A,bG8,g,bG9];exact k
variable {ar :Option Nat}
variable (P ov) in
def XC (ar:Option Nat)(nt:Nat)(c:Code)(tm:T Value)(hp:Hp)(e:Exit)(tm':T Value)(hp':Hp):Prop:=
 ∃rs:List Nat,(rs.Nodup/\ ∀r∈rs,hp.nx<=r/\r<hp'.nx/\hp'.m.get r=some .dfr)/\
  ∃n0,∀n m ds,n0<=n->n0<=m->f6 P (l8 P) (exec P ov n) nt ar m c tm hp ds=some (.mk e tm' hp' (rs.map Df.mark++ds))
variable {c:Code}{hp:Hp}{e:Exit}{tm':T Value}
theorem XC.of0 {hp':Hp}(h:∃n0,∀n m ds,n0<=n->n0<=m->f6 P (l8 P) (exec P ov n) nt ar (m+1) c tm hp ds=some (.mk e tm' hp' ds)):XC P ov ar nt c tm hp e tm' hp':=by
 obtain⟨n0,h⟩:=h;refine⟨[],⟨List.nodup_nil,fun r hr=>by simp at hr⟩,n0+1,fun n m ds hn hm=>?_⟩
 obtain⟨m,rfl⟩:∃k,m=k+1:=⟨m-1,by omega⟩
 grind
variable {tm1:T Value}
theorem XC.map {c':Code}  {hp1:Hp} {e':Exit} (h : XC P ov ar nt c tm hp e tm1 hp1)
  (k:∀n m ds b,f6 P (l8 P) (exec P ov n) nt ar m c tm hp ds=some (.mk e tm1 hp1 b)->f6 P (l8 P) (exec P ov n) nt ar (m+1) c' tm hp ds=some (.mk e' tm' hp1 b)):XC P ov ar nt c' tm hp e' tm' hp1:=by
 obtain⟨d,h1,n0,h2⟩:=h;refine⟨d,h1,n0+1,fun n m ds hn hm=>?_⟩
 obtain⟨m,rfl⟩:∃k,m=k+1:=⟨m-1,by omega⟩
 grind
theorem XC.comp { w  y:Code}  {hp1 hp':Hp}  (h1 : XC P ov ar nt  w tm hp .normal tm1 hp1) (h2 : XC P ov ar nt  y tm1 hp1 e tm' hp') (  E : hp.nx ≤ hp1.nx) (  G : hp1.nx ≤ hp'.nx)
  (hk:∀r,r<hp1.nx->hp1.m.get r=some .dfr->hp'.m.get r=some .dfr)
  (k:∀n m ds b d,f6 P (l8 P) (exec P ov n) nt ar m w tm hp ds=some (.mk .normal tm1 hp1 b)->f6 P (l8 P) (exec P ov n) nt ar m y tm1 hp1 b=some (.mk e tm' hp' d)->f6 P (l8 P) (exec P ov n) nt ar (m+1) c tm hp ds=some (.mk e tm' hp' d)):XC P ov ar nt c tm hp e tm' hp':=by
 obtain⟨g,⟨A,K⟩,H,B⟩:=h1;obtain⟨h,⟨C,L⟩,J,D⟩:=h2;refine⟨h++g,⟨List.nodup_append.2 ⟨C,A,fun r hr q hq e=>?_⟩,fun r hr=>?_⟩,H+J+1,fun n m ds hn hm=>?_⟩
 ·grind
 ·grind
 ·obtain⟨m,rfl⟩:∃k,m=k+1:=⟨m-1,by omega⟩
  rw[bJ8,bG5];exact k n m ds _ _ (B n m ds (by omega) (by omega)) (D n m _ (by omega) (by omega))
theorem OKh.monoE {α:Type}{m:M α}{R b:α->Tau->(Nat->Option Blk)->Hp->Prop}(h:OKh P U m τ F s hp R)(hr:∀a τ' F' s' hp',Ext τ F s hp τ' F' s' hp'->R a τ' F' hp'->b a τ' F' hp'):OKh P U m τ F s hp b:=by
 intro Q hq hs;obtain⟨a,s',h1,τ',F',hp',h2,h3,h4⟩:=h Q hq hs
 grind
variable (P U ov) in
def Z6 (ar:Option Nat)(nt:Nat)(m:M (Exit×Fm))(c:Code)(f:Fm):Prop:=∀τ F s hp tm,TD P U τ F f tm->SD P U τ F s hp->
 OKh P U m τ F s hp fun r τ' F' hp'=>∃tm',XC P ov ar nt c tm hp r.1 tm' hp'/\TD P U τ' F' r.2 tm'/\ ∃pre,r.2=pre++f
variable (P U ov) in
def S6 (nt:Nat)(dr:af0):Prop:=∀ops f τ F s hp tm,TD P U τ F f tm->SD P U τ F s hp->
 OKh P U (dr ops f) τ F s hp fun f' τ' F' hp'=>∃tm',(EV fun n=>l8 P (exec P ov n) nt ops tm hp=some (tm',hp'))/\TD P U τ' F' f' tm'/\ ∃pre,f'=pre++f
variable (P U ov) in
def S7 (ar:Option Nat)(nt:Nat)(lp:ai5):Prop:=∀id b body f r,(∀f',Z6 P U ov ar nt (body f') b f')->lp id b body f=some r->Z6 P U ov ar nt r (.loop b) f
theorem bt0 (hs:SD P U τ F s hp):SD P U τ F {s with h:=(s.nx,none)::s.h,nx:=s.nx+1} hp:=by
 have d:∀b x,SS.get {s with h:=(s.nx,none)::s.h,nx:=s.nx+1} b=some x->s.get b=some x:=by
  intro b x hb;unfold SS.get at hb⊢;rw[k9]at hb
  grind
 exact⟨fun b x hb=>hs.live b x (d b x hb),fun b c x y i o j q hb hc=>hs.inj b c x y i o j q (d b x hb) (d c y hc),hs.frz,hs.lt,hs.flt,fun b hb=>hs.new b (bK9 (bM6 _) hb),hs.fc,hs.fz⟩
theorem at2 :∀(f:Fm),(f.map Prod.fst).zip (f.map Prod.snd)=f
 | []=>rfl
 |a::f=>by simp[at2 f]
theorem bb1 {call:B7}(J:y4 P U ov call)(g:FuncId)(fo:Operand)(ps:Array Tmp)(as bo:Code)(f:Fm):Z6 P U ov none nt (aL7 P call g nt fo ps as bo f) (.rangeFunc fo ps as bo) f:=by
 intro τ F s hp tm ht hs;unfold aL7;split
 ·rename_i it first cap ab
  obtain⟨v,ai,aj⟩:=v6 ht ab;split
  ·rename_i fn ac
   cases ae:ao3 fn with
   |false=>exact OKh.fail
   |true=>
    rw[bG8];cases aj with
    |fn _ _ _ xs ys k1 k2 k3 k4=>
    intro Q hq _
    let i:=hp.nx+1
    let R:Blk:= .loop .ready none nt tm ps as bo hp.nx
    let F1:Nat->Option Blk:=fun j=>if j=i then some R else F j
    let hp1:Hp:=⟨(hp.m.set hp.nx (some .dfr)).set (hp.nx+1) (some R),hp.nx+2⟩
    let s1:SS:= {s with h:=(s.nx,none)::s.h,nx:=s.nx+1}
    have C:∀j,j<hp.nx->hp1.m.get j=hp.m.get j:=fun j hj=>by
     show((hp.m.set hp.nx (some .dfr)).set (hp.nx+1) (some R)).get j=_;rw[T.get_set,bH1 (by omega),T.get_set,bH1 (by omega)]
    have au:F i=none:=by
     cases hc:F i with
     |none=>rfl
     |some y=>have:=hs.flt i y hc;exact absurd this (by show¬hp.nx+1<hp.nx;omega)
    have A:Fle F F1:=fun j y hj=>by
     grind
    have L:=bt0 hs;have hR:hp1.m.get i=some R:=by
     show((hp.m.set hp.nx (some .dfr)).set (hp.nx+1) (some R)).get (hp.nx+1)=_;rw[T.get_set,bH3 rfl]
    have hD:hp1.m.get hp.nx=some .dfr:=by
     show((hp.m.set hp.nx (some .dfr)).set (hp.nx+1) (some R)).get hp.nx=_;rw[T.get_set,bH1 (by omega),T.get_set,bH3 rfl]
    have hs1:SD P U τ F1 s1 hp1:=by
     refine L.sub true (fun j y hj _=>A j y hj) (.inl rfl) (by show hp.nx<=hp.nx+2;omega) (fun b x j o hb hj=>?_) (fun j y hj=>?_)
     ·have hlt:=L.lt b j o hj
      refine⟨C j hlt,?_⟩;show(if j=i then some R else F j)=none
      rw[bH1 (by show¬j=hp.nx+1;omega)]
      rcases L.live b x hb with⟨i',o',y',h1,h2,h3,h4⟩| ⟨h1,_⟩
      ·grind
      ·grind
     ·have hj:(if j=i then some R else F j)=some y:=hj
      by_cases e:j=i
      ·grind
      ·rw[bH1 e]at hj
       have:=hs.flt j y hj;exact⟨by rw[C j this];exact hs.frz j y hj,by show j<hp.nx+2;omega⟩
    have Y:Ext τ F s hp τ F1 s1 hp1:=by
     refine⟨Tle.refl τ,A,by show hp.nx<=hp.nx+2;omega,bM6 _,fun _ _=>rfl,fun b x hb hlt=>?_,⟨[(s.nx,none)],rfl,fun j hj _=>C j hj,fun b j o hb hj=>?_,fun j y hj hy=>?_,fun ad=>absurd rfl (ad (s.nx,none) (by simp))⟩,⟨[],rfl⟩⟩
     ·have hb:(match lk ((s.nx,none)::s.h) b with|some x=>x|none=>none)=some x:=hb
      rw[k9,bH1 (by omega)]at hb
      exact⟨x,hb⟩
     ·rw[hs.new b hb]at hj;cases hj
     ·grind
    have ak:VD P U τ F1 (.yld (f.map Prod.fst) (f.map Prod.snd) g nt ps.toList as bo) (.chan (some i)):=by
     refine .yld _ _ g nt _ as bo i tm ps hp.nx ?_ rfl fun k a ha=>?_
     ·grind
     ·rw[at2]at ha
      exact(ht k a ha).mono (Tle.refl τ) A
    have H:VDL P U τ F1 (first++ [.yld (f.map Prod.fst) (f.map Prod.snd) g nt ps.toList as bo]++cap) (xs++ [.chan (some i)]++ys):=
     (VDL.append (VDL.append (VDL.mono (Tle.refl τ) A ⟨k1,k2⟩) (VDL.cons ak VDL.nil)) (VDL.mono (Tle.refl τ) A ⟨k3,k4⟩))
    have hq:((a8 (call.run it (first++ [.yld (f.map Prod.fst) (f.map Prod.snd) g nt ps.toList as bo]++cap)) fun _=>i9 fun s=>bif nyS s then c6 (.normal,f)else a7 "range: the yield function is kept") s1).vc U Q:=hq
    rw[show∀(m:M SV) (k:SV->M (Exit×Fm)) (s:SS),a8 m k s=(m s).bind fun x=>k x.1 x.2 from fun _ _ _=>rfl,Tr.vc_bind]at hq
    obtain⟨a,s2,hq,N,O,d,B,D,w,⟨n0,hx⟩,_⟩:=J.run it _ _ τ F1 s1 hp1 H hs1 _ hq hs1;simp only[i9]at hq;cases K:nyS s2 with
    |false=>rw[K]at hq;exact hq.elim
    |true=>
     rw[K,bG8]at hq;have W:O i=some R:=B.f i R (by show(if i=i then some R else F i)=some R;rw[bH3 rfl])
     have Z:d.m.get i=some R:=D.frz i R W;have aq:d.m.get hp.nx=some .dfr:=B.dfr hs1 (by show hp.nx<hp.nx+2;omega) hD (.inl rfl)
     have ap:hp.nx+2<=d.nx:=B.nx
     let X:Nat->Option Blk:=fun j=>if j=i then none else O j
     let E:Hp:= {d with m:=d.m.set i none}
     have g3:∀j,j≠i->E.m.get j=d.m.get j:=fun j hj=>by
      show(d.m.set i none).get j=_;rw[T.get_set,bH1 hj]
     have ah:SD P U N X s2 E:=by
      refine D.sub false (fun j y hj h=>?_) (.inr K) (bH4 _) (fun b x j o hb hj=>?_) (fun j y hj=>?_)
      ·show(if j=i then none else O j)=some y
       rw[bH1 ?_]
       ·exact hj
       ·rintro rfl
        rw[W]at hj;cases hj
        rcases h with h| ⟨h,_⟩
        ·cases h
        ·cases h
      ·rcases D.live b x hb with⟨i',o',y',h1,h2,h3,h4⟩| ⟨h1,_⟩
       ·grind
       ·grind
      ·have hj:(if j=i then none else O j)=some y:=hj
       by_cases e:j=i
       ·grind
       ·rw[bH1 e]at hj
        exact⟨by rw[g3 j e];exact D.frz j y hj,D.flt j y hj⟩
     have V:Fle F X:=fun j y hj=>by
      have hlt:=hs.flt j y hj;show(if j=i then none else O j)=some y
      rw[bH1 (by show¬j=hp.nx+1;omega)]
      exact B.f j y (A j y hj)
     have G:Ext τ F s hp N X s2 E:=by
      refine(Y.trans B).shrink (bH4 _) (fun j hj=>g3 j (by show¬j=hp.nx+1;omega)) (fun j y hj=>?_) V
      grind
     refine⟨(.normal,f),s2,hq,N,X,E,G,ah,tm,?_,ht.mono G.t G.f,[],rfl⟩;refine⟨[hp.nx],⟨by simp,fun r hr=>?_⟩,n0+1,fun n m ds hn hm=>?_⟩
     ·grind
     ·obtain⟨m,rfl⟩:∃k,m=k+1:=⟨m-1,by omega⟩
      have al:=hx n (by omega)
      simp only[f6,X8,ai,ac,ae,bG8];have ao:(exec P ov n).run it (xs++ [Value.chan (some (hp.nx+1))]++ys) ⟨(hp.m.set hp.nx (some .dfr)).set (hp.nx+1) (some (.loop .ready none nt tm ps as bo hp.nx)),hp.nx+2⟩=some (w,d):=al;rw[ao];have aa:d.m.get (hp.nx+1)=some (.loop .ready none nt tm ps as bo hp.nx):=Z;simp only[aC8,aa];rfl
  ·exact OKh.fail
 ·exact OKh.fail
theorem al0 {call:B7}(B:y4 P U ov call){dr:af0}(H:S6 P U ov nt dr){lp:ai5}(J:S7 P U ov ar nt lp)(g:FuncId)(rg:Bool)(L:rg=true->ar=none):∀(m:Nat) (c:Code) (f:Fm),Z6 P U ov ar nt (C9 P U call dr lp g rg nt m c f) c f
 |0,c,f=>fun τ F s hp tm ht hs=>OKh.fail
 |m+1,c,f=>by
  have D:=al0 B H J g rg L m;cases c with
  |rangeFunc fo ps as bo=>
   intro τ F s hp tm ht hs;simp only[C9];cases hb:rg with
   |false=>exact OKh.fail
   |true=>
    have:=L hb;subst this;exact bb1 B g fo ps as bo f τ F s hp tm ht hs
  |skip=>exact fun τ F s hp tm ht hs=>OKh.ret ⟨tm,XC.of0 ⟨0,fun n m ds _ _=>rfl⟩,ht,[],rfl⟩
  |label l=>exact fun τ F s hp tm ht hs=>OKh.ret ⟨tm,XC.of0 ⟨0,fun n m ds _ _=>rfl⟩,ht,[],rfl⟩
  |exit M=>exact fun τ F s hp tm ht hs=>OKh.ret ⟨tm,XC.of0 ⟨0,fun n m ds _ _=>rfl⟩,ht,[],rfl⟩
  |ret=>exact fun τ F s hp tm ht hs=>OKh.ret ⟨tm,XC.of0 ⟨0,fun n m ds _ _=>rfl⟩,ht,[],rfl⟩
  |region M ops draw=>
   intro τ F s hp tm ht hs;simp only[C9];cases draw with
   |true=>
    simp only[bG8];refine(H ops.toList f τ F s hp tm ht hs).bind fun f' τ' F' s' hp' _ _ ⟨tm',⟨n0,Q⟩,d,w⟩=>OKh.ret ⟨tm',XC.of0 ⟨n0,fun n m ds hn _=>?_⟩,d,w⟩
    simp only[f6,bG8,Q n hn]
   |false=>
    simp only[bG9];refine(bh3 B ht hs).bind fun f' τ' F' s' hp' _ _ ⟨tm',⟨n0,Q⟩,d,w⟩=>OKh.ret ⟨tm',XC.of0 ⟨n0,fun n m ds hn _=>?_⟩,d,w⟩
    simp only[f6,bG9,Q n hn]
  |seq x y=>
   intro τ F s hp tm ht hs;simp only[C9];refine(D x f τ F s hp tm ht hs).bind fun r τ1 F1 s1 hp1 ex hs1 ⟨tm1,hx,d,pre,w⟩=>?_
   have V:∀e,r.1=e->e≠ .normal->OKh P U (c6 (e,r.2)) τ1 F1 s1 hp1 fun r τ' F' hp'=>∃tm',XC P ov ar nt (.seq x y) tm hp r.1 tm' hp'/\TD P U τ' F' r.2 tm'/\ ∃pre,r.2=pre++f:=by
    intro e he K;refine OKh.ret ⟨tm1,hx.map fun n m ds A hk=>?_,d,pre,w⟩
    rw[he]at hk;simp only[f6,hk]
    grind
   split
   ·rename_i hr
    refine(D y r.2 τ1 F1 s1 hp1 tm1 d hs1).monoE fun X τ' F' s' hp' C ⟨tm',hy,k2,p2,k3⟩=>⟨tm',?_,k2,p2++pre,by rw[k3,w,bG5]⟩
    rw[hr]at hx;refine hx.comp hy ex.nx C.nx (fun r hlt R=>C.dfr hs1 hlt R (.inl rfl)) fun n m ds N O q1 q2=>?_
    simp only[f6,q1];exact q2
   ·grind
  |cond c x y=>
   intro τ F s hp tm ht hs;simp only[C9];split
   ·rename_i e he
    obtain⟨v,h1,h2⟩:=v6 ht he;cases h2;refine OKh.bindp OKp.test fun t s1 _ hs1 E=>?_
    have ht:=bA6 ht h1 E;obtain⟨W,hp0⟩:=bu2 f c t;have app:∀ {r:Fm},(∃pre,r=pre++aZ8 f c t)-> ∃pre,r=pre++f:=fun⟨p,h⟩=>⟨p++W,by rw[h,hp0,bG5]⟩
    cases t with
    |true=>
     simp only[bG8];refine(D x _ τ F s1 hp tm ht hs1).mono fun r τ' F' hp' _ _ ⟨tm',hx,d,w⟩=>⟨tm',hx.map fun n m ds A hk=>?_,d,app w⟩
     simp only[f6,h1,E];exact hk
    |false=>
     simp only[bG9];refine(D y _ τ F s1 hp tm ht hs1).mono fun r τ' F' hp' _ _ ⟨tm',hx,d,w⟩=>⟨tm',hx.map fun n m ds A hk=>?_,d,app w⟩
     simp only[f6,h1,E];exact hk
   ·exact OKh.fail
  |block M b=>
   intro τ F s hp tm ht hs;simp only[C9];have G:Z6 P U ov ar nt (match ay0 b with
    |some lb=>match lp M lb (C9 P U call dr lp g rg nt m lb) f with
     |some r=>r
     |none=>C9 P U call dr lp g rg nt m b f
    |none=>C9 P U call dr lp g rg nt m b f) b f:=by
    split
    ·rename_i lb T
     have hb:b= .loop lb:=by
      unfold ay0 at T
      grind
     subst hb;split
     ·rename_i r hr
      exact J M lb _ f r (fun f'=>D lb f') hr
     ·grind
    ·grind
   refine(G τ F s hp tm ht hs).bind fun r τ1 F1 s1 hp1 ex hs1 ⟨tm1,hx,d,w⟩=>?_
   split
   ·rename_i j hr
    cases hb:Nat.beq j M with
    |true=>
     simp only[bG8];refine OKh.ret ⟨tm1,hx.map fun n m ds A hk=>?_,d,w⟩
     rw[hr]at hk;simp only[f6,hk,hb,bG8]
    |false=>
     simp only[bG9];refine OKh.ret ⟨tm1,hx.map fun n m ds A hk=>?_,d,w⟩
     rw[hr]at hk;simp only[f6,hk,hb,bG9]
   ·rename_i K
    refine OKh.ret ⟨tm1,hx.map fun n m ds A hk=>?_,d,w⟩
    simp only[f6,hk]
    grind
  |loop b=>
   intro τ F s hp tm ht hs;simp only[C9];refine(D b f τ F s hp tm ht hs).bind fun r τ1 F1 s1 hp1 ex hs1 ⟨tm1,hx,d,pre,w⟩=>?_
   split
   ·rename_i hr
    refine(D (.loop b) r.2 τ1 F1 s1 hp1 tm1 d hs1).monoE fun X τ' F' s' hp' C ⟨tm',hy,k2,p2,k3⟩=>⟨tm',?_,k2,p2++pre,by rw[k3,w,bG5]⟩
    rw[hr]at hx;refine hx.comp hy ex.nx C.nx (fun r hlt R=>C.dfr hs1 hlt R (.inl rfl)) fun n m ds N O q1 q2=>?_
    simp only[f6,q1];exact q2
   ·rename_i K
    refine OKh.ret ⟨tm1,hx.map fun n m ds A hk=>?_,d,pre,w⟩
    simp only[f6,hk]
    grind
  |scope b=>
   intro τ F s hp tm ht hs;simp only[C9];refine(D b f τ F s hp tm ht hs).bind fun r τ1 F1 s1 hp1 ex hs1 ⟨tm1,hx,d,w⟩=>?_
   split
   ·rename_i hr
    refine OKh.ret ⟨tm1,hx.map fun n m ds A hk=>?_,d,w⟩
    rw[hr]at hk;simp only[f6,hk]
   ·rename_i j hr
    refine OKh.ret ⟨tm1,hx.map fun n m ds A hk=>?_,d,w⟩
    rw[hr]at hk;simp only[f6,hk]
   ·rename_i hr
    refine OKh.ret ⟨tm1,hx.map fun n m ds A hk=>?_,d,w⟩
    rw[hr]at hk;simp only[f6,hk]
   ·exact OKh.fail
  |_=>exact fun τ F s hp tm ht hs=>OKh.fail
end
end Go.Sx
namespace Go.Sx
open Go.Xe
def ag0 :Nat->List SV->Fm
 |_,[]=>[]
 |k,a::l=>(k,a)::ag0 (k+1) l
section
variable (P :Program)(U:Nat->List Dat->Dat)
def bh4 (f:Fm):ResultVar->M SV
 | .tmp t=>c6 ((lk f t).getD .any)
 | .cell a t=>bh2 P U t ((lk f a).getD .any)
def O9 (f:Fm):List ResultVar->M (List SV)
 | []=>c6 []
 |r::rs=>a8 (bh4 P U f r) fun v=>a8 (O9 f rs) fun vs=>c6 (v::vs)
def aH8 :List SV->SV
 | [v]=>v
 |vs=>.tup vs
def sfun (call:B7)(dr:Nat->af0)(lp:FuncId->Nat->ai5)(m:Nat)(g:FuncId)(args:List SV):M SV:=
 match P.funcs[g]? with
 |some fn=>match fn.body with
  |some c=>a8 (C9 P U call (dr (args.length+(fn.ntmps-args.length))) (lp g (args.length+(fn.ntmps-args.length))) g true (args.length+(fn.ntmps-args.length)) m c (ag0 0 args)) fun r=>match r.1 with
   | .normal=>a8 (O9 P U r.2 fn.results.toList) fun vs=>c6 (aH8 vs)
   | .ret=>a8 (O9 P U r.2 fn.results.toList) fun vs=>c6 (aH8 vs)
   |_=>a7 "end of a call"
  |none=>a7 "no body"
 |none=>a7 "no function"
def bu1 (f:Fm):List Nat->List SV->Fm
 |t::ts,v::vs=>bu1 ((t,v)::f) ts vs
 |_,_=>f
def bb2 (call : B7) (dr : Nat → af0) (lp : FuncId → Nat → ai5) (m : Nat) (ks : List Nat) (vs : List SV) (g : FuncId) (nt : Nat) (ps : List Nat) (as bo : Code) (args : List SV) : M SV :=
 bif Nat.beq ps.length args.length && aq7 nt ps then
  a8 (C9 P U call (dr nt) (lp g nt) g false nt m as (bu1 (ks.zip vs) ps args)) fun r => match r.1 with
   | .normal => i9 fun s => bif nyS s && noYs (r.2.map Prod.snd) then
     a8 (C9 P U call (dr nt) (lp g nt) g false nt m bo r.2) fun q=>match q.1 with
      | .normal=>i9 fun s'=>bif nyS s' then c6 (.bool (.bool true))else a7 "round: the yield function is kept"
      |_=>a7 "round: a jump out of it"
    else a7 "round: a yield function is kept"
   |_=>a7 "round: what is yielded"
 else a7 "round: places"
def N3 (dr:B7->Nat->af0)(lp:B7->FuncId->Nat->ai5)(con:FuncId->Option (List SV->M SV)):Nat->B7
 |0=>⟨fun _ _=>a7 "depth of calls",fun _ _ _ _ _ _ _ _=>a7 "depth of rounds"⟩
 |n+1=>⟨fun g args=>match con g with
  |some k=>k args
  |none=>sfun P U (N3 dr lp con n) (dr (N3 dr lp con n)) (lp (N3 dr lp con n)) n g args,
  fun ks vs g nt ps as bo args=>bb2 P U (N3 dr lp con n) (dr (N3 dr lp con n)) (lp (N3 dr lp con n)) n ks vs g nt ps as bo args⟩
end
section
variable {P :Program}{U:Nat->List Dat->Dat}{ov:FuncId->Option TypeId}
variable (P U ov) in
def y8 (k:List SV->M SV)(g:FuncId):Prop:=∀l args τ F s hp,VDL P U τ F l args->SD P U τ F s hp->OKh P U (k l) τ F s hp fun a τ' F' hp'=>∃v,aJ1 P ov g args hp v hp'/\VD P U τ' F' a v
theorem aG0 :∀(l:List SV) (k j:Nat) (a:SV),lk (ag0 k l) j=some a->k<=j/\l[j-k]? =some a
 | [],k,j,a,h=>by simp[ag0,lk]at h
 |b::l,k,j,a,h=>by
  rw[ag0,k9]at h
  by_cases e:k=j
  ·grind
  ·rw[bH1 e]at h
   obtain⟨h1,h2⟩:=aG0 l (k+1) j a h
   grind
theorem TD.args {τ:Tau}{F:Nat->Option Blk}{l:List SV}{args:List Value}(h:VDL P U τ F l args):TD P U τ F (ag0 0 l) (fill .e 0 args):=by
 intro k a b;obtain⟨_,h2⟩:=aG0 l 0 k a b;obtain⟨v,h3,h4⟩:=h.get h2;rw[D2 args k v (by simpa using h3)]
 exact h4
theorem as1 {τ:Tau}{F:Nat->Option Blk}{f:Fm}{tm:T Value}(ht:TD P U τ F f tm){hp:Hp}:∀ {d:List ResultVar} {s:SS},SD P U τ F s hp->OKp U (O9 P U f d) s fun l=>∃vs,C7 P tm hp d=some vs/\VDL P U τ F l vs
 | [],s,hs=>OKp.ret ⟨[],rfl,VDL.nil⟩
 |r::d,s,hs=>by
  have g:∀t,VD P U τ F ((lk f t).getD .any) ((tm.get t).getD undef):=fun t=>by
   cases hl:lk f t with
   |none=>exact .any _
   |some b=>exact ht t b hl
  unfold O9;have one:OKp U (bh4 P U f r) s fun a=>∃v,ae1 P tm hp r=some v/\VD P U τ F a v:=by
   cases r with
   |tmp t=>exact OKp.ret ⟨_,rfl,g t⟩
   |cell a t=>exact(aT7 (g a) hs).mono fun b ⟨u,h1,h2⟩=>⟨u,h1,h2⟩
  refine one.bind fun a s1 w h ⟨v,h1,h2⟩=>?_
  refine(as1 ht (hs.only w h)).bind fun l s2 _ _ ⟨vs,h3,h4⟩=>OKp.ret ⟨v::vs,by simp only[C7,h1,h3],VDL.cons h2 h4⟩
theorem bw3 {τ:Tau}{F:Nat->Option Blk}{l:List SV}{vs:List Value}(h:VDL P U τ F l vs):VD P U τ F (aH8 l) (ac5 vs):=by
 unfold aH8 ac5;split
 ·obtain⟨y,ys,rfl,h1,h2⟩:=h.uncons
  have:ys=[]:=bF7 h2.1.symm
  grind
 ·rename_i b
  split
  ·rename_i v
   have hl:=h.1;cases l with
   |nil=>simp at hl
   |cons a l=>simp_all
  ·exact h.tup
theorem am6 {   d : FuncId → List Value → Hp → Option (Value × Hp)} : ∀ ( b : List Nat) (hp : Hp),  b.Nodup → (∀ r ∈  b, hp.m.get r = some .dfr) →
  ∃hp',D9 P d (b.map Df.mark++ []) hp=some hp'/\hp'.nx=hp.nx/\ ∀i,i∉b->hp'.m.get i=hp.m.get i
 | [],hp,_,_=>⟨hp,rfl,rfl,fun _ _=>rfl⟩
 |r::b,hp,hn,A=>by
  have h1:=A r (by simp)
  rw[List.nodup_cons]at hn;have g:∀q∈b,q≠r:=fun q hq e=>hn.1 (e▸hq)
  obtain⟨hp',h,w,y⟩:=am6 b {hp with m:=hp.m.set r none} hn.2 fun q hq=>by
   show(hp.m.set r none).get q=_;rw[T.get_set,bH1 (g q hq)]
   grind
  refine⟨hp',?_,w,fun i hi=>?_⟩
  ·simp only[bK2,bL3,D9,h1]
   exact h
  ·simp only[bI9,not_or]at hi
   rw[y i hi.2];show(hp.m.set r none).get i=_;rw[T.get_set,bH1 hi.1]
theorem aB9 {D d:FuncId->List Value->Hp->Option (Value×Hp)}:∀(b:List Nat) (hp:Hp),D9 P D (b.map Df.mark++ []) hp=D9 P d (b.map Df.mark++ []) hp
 | [],hp=>rfl
 |r::b,hp=>by
  simp only[bK2,bL3,D9];split
  ·exact aB9 b _
  ·rfl
variable {call:B7}{dr:Nat->af0}{lp:FuncId->Nat->ai5}
theorem bg9  (    D : y4 P U ov call)  (  O : ∀ nt, S6 P U ov nt (dr nt))  (  T : ∀ ar g nt, S7 P U ov ar nt (lp g nt)) (m : Nat) (g : FuncId) (hg : isT (ov g) = false) : y8 P U ov (sfun P U call dr lp m g) g := by
 intro l args τ F s hp hl hs;unfold sfun;split
 ·rename_i fn   R
  split
  ·rename_i c hc
   refine(al0 D (O _) (T none g _) g true (fun _=>rfl) m c (ag0 0 l) τ F s hp (fill .e 0 args) (TD.args hl) hs).bindE fun r τ1 F1 s1 hp1 ex hs1 ⟨tm1,⟨w,⟨W,A⟩,n1,e1⟩,e2,_⟩=>?_
   rw [hl.1] at e1;have  ab : (r.1 = .normal ∨ r.1 = .ret) → ∀ Q, ((a8 (O9 P U r.2 fn.results.toList) fun vs => c6 (aH8 vs)) s1).vc U Q →
     ∃b s2,Q (b,s2)/\ ∃G B d,Ext τ F s hp G B s2 d/\SD P U G B s2 d/\ ∃v,aJ1 P ov g args hp v d/\VD P U G B b v:=by
    intro hr Q hq;have V:∀n:Nat,∃d,D9 P (W9 P (l8 P) (exec P ov n) n) (w.map Df.mark++ []) hp1=some d/\d.nx=hp1.nx/\ ∀i,i∉w->d.m.get i=hp1.m.get i:=fun n=>am6 w hp1 W fun r hr=>(A r hr).2.2
    have M:∀n,D9 P (W9 P (l8 P) (exec P ov n) n) (w.map Df.mark++ []) hp1=D9 P (W9 P (l8 P) (exec P ov 0) 0) (w.map Df.mark++ []) hp1:=by
     exact fun n=>aB9 w hp1
    obtain⟨d,l1,l2,Z⟩:=V 0
    let B:Nat->Option Blk:=fun j=>if j∈w then none else F1 j
    have E:SD P U τ1 B s1 d:=by
     refine hs1.sub true (fun j y hj h=>?_) (.inl rfl) (by omega) (fun b x j o hb hj=>?_) (fun j y hj=>?_)
     ·show(if j∈w then none else F1 j)=some y
      rw[bH1 ?_]
      ·exact hj
      ·intro hm
       have h1:=(A j hm).2.2;rw[hs1.frz j y hj]at h1;cases h1
       rcases h with h| ⟨_,h⟩
       ·cases h
       ·grind
     ·rcases hs1.live b x hb with⟨i',o',y',h1,h2,h3,h4⟩| ⟨h1,_⟩
      ·rw[hj]at h1
       cases h1;have J:j∉w:=fun hm=>by
        have h5:=(A j hm).2.2;rw[h2]at h5;cases h5;cases x with
        |cells l e z=>obtain⟨cs,n,h,_⟩:=h4;cases h
        |rows L e z ph=>obtain⟨cs,n,h,_⟩:=h4;cases h
        |map L kt vt=>obtain⟨_,es,reg,h,_⟩:=h4;cases h
        |iter s p=>obtain⟨_,n,h,_⟩:=h4;cases h
       refine⟨Z j J,?_⟩;show(if j∈w then none else F1 j)=none
       rw[bH1 J];exact h3
      ·rw[hj]at h1;cases h1
     ·have hj:(if j∈w then none else F1 j)=some y:=hj
      by_cases e:j∈w
      ·grind
      ·rw[bH1 e]at hj
       exact⟨by rw[Z j e];exact hs1.frz j y hj,by rw[l2];exact hs1.flt j y hj⟩
    have H:∀j,j<hp.nx->j∉w:=fun j hj hm=>by have:=(A j hm).1;omega
    have N:Ext τ F s hp τ1 B s1 d:=by
     refine ex.shrink (by omega) (fun j hj=>Z j (H j hj)) (fun j y hj=>?_) (fun j y hj=>?_)
     ·grind
     ·show(if j∈w then none else F1 j)=some y
      rw[bH1 (H j (hs.flt j y hj))];exact ex.f j y hj
    have Y:TD P U τ1 B r.2 tm1:=fun k a ha=>(e2 k a ha).sub true (fun j y hj h=>by
     show(if j∈w then none else F1 j)=some y
     rw[bH1 ?_]
     ·exact hj
     ·intro hm
      have h1:=(A j hm).2.2;rw[hs1.frz j y hj]at h1;cases h1
      rcases h with h| ⟨_,h⟩
      ·cases h
      ·exact h rfl) (.inl rfl)
    have K:OKh P U (a8 (O9 P U r.2 fn.results.toList) fun vs=>c6 (aH8 vs)) τ1 B s1 d fun a τ' F' hp'=>∃v,aJ1 P ov g args hp v hp'/\VD P U τ' F' a v:=by
     refine OKh.bindp (as1 Y E) fun vs s2 _ E ⟨ws,h1,h2⟩=>OKh.ret ⟨ac5 ws,⟨n1+1,fun n hn=>?_⟩,bw3 h2⟩
     obtain⟨n,rfl⟩:∃k,n=k+1:=⟨n-1,by omega⟩
     have hx:=e1 n n [] (by omega) (by omega)
     show(bif isT (ov g)&&args.isEmpty then some (.bool true,hp)else as6 (U2 P (l8 P) (exec P ov n) (W9 P (l8 P) (exec P ov n) n) n g) args hp)=_
     rw[hg,Bool.false_and,bG9];have C:=(M n).trans l1;have hb:U2 P (l8 P) (exec P ov n) (W9 P (l8 P) (exec P ov n) n) n g args hp=some (ac5 ws,d):=by
      simp only[U2,R,hc]
      rcases hr with hr|hr
      ·rw[hr]at hx;simp only[hx,aB7,C,h1]
      ·rw[hr]at hx;simp only[hx,aB7,C,h1]
     simp only[as6,hb]
    obtain⟨b,s3,q1,aa,F3,X,x1,x2,x3⟩:=K Q hq E;exact⟨b,s3,q1,aa,F3,X,N.trans x1,x2,x3⟩
   intro Q hq;cases hr:r.1 with
   |normal=>simp_all
   |ret=>simp_all
   |_=>simp only[hr]at hq;exact hq.elim
  ·exact OKh.fail
 ·exact OKh.fail
theorem aS1 {τ:Tau}{F:Nat->Option Blk}:∀(ps:List Nat) (l:List SV) (args:List Value) (f:Fm) (tm:T Value),TD P U τ F f tm->VDL P U τ F l args->TD P U τ F (bu1 f ps l) (ay9 tm ps args)
 | [],l,args,f,tm,ht,hl=>by
  cases l<;>cases args<;>exact ht
 |p::ps,[],args,f,tm,ht,hl=>by
  have:args=[]:=bF7 hl.1.symm;subst this;exact ht
 |p::ps,a::l,args,f,tm,ht,hl=>by
  obtain⟨v,vs,rfl,h1,h2⟩:=hl.uncons;exact aS1 ps l vs _ _ (ht.put h1 (some p)) h2
theorem bm9  (    B : y4 P U ov call)  ( ac : ∀ nt, S6 P U ov nt (dr nt))  ( ae : ∀ ar g nt, S7 P U ov ar nt (lp g nt)) (m : Nat) (ks : List Nat) (vs : List SV) (g : FuncId) (nt : Nat) (ps : List Nat) (as bo : Code) (l : List SV) (args : List Value)
  (τ:Tau) (F:Nat->Option Blk) (s:SS) (hp:Hp) (i:Nat) (hv:VD P U τ F (.yld ks vs g nt ps as bo) (.chan (some i))) (hl:VDL P U τ F l args) (hs:SD P U τ F s hp):
  OKh P U (bb2 P U call dr lp m ks vs g nt ps as bo l) τ F s hp fun a τ' F' hp'=>∃v,(EV fun n=>aC9 P (l8 P) (exec P ov n) n i args hp=some (v,hp'))/\VD P U τ' F' a v:=by
 cases hv with
 |yld _ _ _ _ _ _ _ _ tms pr db hF ai hk=>
 unfold bb2;cases hb:Nat.beq ps.length l.length&&aq7 nt ps with
 |false=>exact OKh.fail
 |true=>
 rw[bG8];simp only[bF2]at hb;have ay:=bF6 hb.1
 let R:Blk:= .loop .ready none nt tms pr as bo db
 let W:Blk:= .loop .busy none nt tms pr as bo db
 have au:TD P U τ F (ks.zip vs) tms:=fun k a ha=>hk k a ha
 refine(al0 B (ac nt) (ae (some i) g nt) g false (fun h=>by cases h) m as _ τ F s hp _ (aS1 ps l args _ tms au hl) hs).bindE fun r τ1 F1 s1 hp1 X hs1 ⟨tm1,⟨O,_,n1,e1⟩,t1,_⟩=>?_
 intro Q hq;cases hr:r.1 with
 |exit _=>simp only[hr]at hq;exact hq.elim
 |goto _=>simp only[hr]at hq;exact hq.elim
 |ret=>simp only[hr]at hq;exact hq.elim
 |panic _=>simp only[hr]at hq;exact hq.elim
 |outgrown=>simp only[hr]at hq;exact hq.elim
 |normal=>
 simp only[hr,i9]at hq;cases D:nyS s1&&noYs (r.2.map Prod.snd)with
 |false=>rw[D]at hq;exact hq.elim
 |true=>
 rw[D,bG8]at hq;simp only[bF2]at D;have J:F1 i=some R:=X.f i R hF;have ap:hp1.m.get i=some R:=hs1.frz i R J;have ad:i<hp1.nx:=hs1.flt i R J
 let Fb:Nat->Option Blk:=fun j=>if j=i then none else F1 j
 let K:Hp:= {hp1 with m:=hp1.m.set i (some W)}
 have gb:∀j,j≠i->K.m.get j=hp1.m.get j:=fun j hj=>by
  show(hp1.m.set i (some W)).get j=_;rw[T.get_set,bH1 hj]
 have al:K.m.get i=some W:=by
  show(hp1.m.set i (some W)).get i=_;rw[T.get_set,bH3 rfl]
 have N:∀b x o,s1.get b=some x->τ1 b=some (some (i,o))->False:=fun b x o hb ht=>by
  rcases hs1.live b x hb with⟨i',o',y',h1,h2,h3,h4⟩| ⟨h1,_⟩
  ·grind
  ·grind
 have Y:∀j y,F1 j=some y->((arr y).isSome=true\/false=true/\y≠ .dfr)->Fb j=some y:=fun j y hj h=>by
  show(if j=i then none else F1 j)=some y
  rw[bH1 ?_]
  ·exact hj
  ·rintro rfl
   rw[J]at hj;cases hj
   rcases h with h| ⟨h,_⟩
   ·cases h
   ·cases h
 have aj:SD P U τ1 Fb s1 K:=by
  refine hs1.sub false Y (.inr D.1) (bH4 _) (fun b x j o hb hj=>?_) (fun j y hj=>?_)
  ·have C:j≠i:=fun e=>N b x o hb (by rw[<-e];exact hj)
   refine⟨gb j C,?_⟩;show(if j=i then none else F1 j)=none
   rw[bH1 C]
   rcases hs1.live b x hb with⟨i',o',y',h1,h2,h3,h4⟩| ⟨h1,_⟩
   ·grind
   ·grind
  ·have hj:(if j=i then none else F1 j)=some y:=hj
   by_cases e:j=i
   ·grind
   ·rw[bH1 e]at hj
    exact⟨by rw[gb j e];exact hs1.frz j y hj,hs1.flt j y hj⟩
 have tb:TD P U τ1 Fb r.2 tm1:=fun k a ha=>(t1 k a ha).sub false Y (.inr (by
  have h1:=O5 ha;have h2:a∈r.2.map Prod.snd:=bN4.2 ⟨_,h1,rfl⟩;obtain⟨j,hj⟩:=bK6.1 h2;exact O7 D.2 hj))
 rw[show∀(m:M (Exit×Fm)) (k:(Exit×Fm)->M SV) (s:SS),a8 m k s=(m s).bind fun x=>k x.1 x.2 from fun _ _ _=>rfl,Tr.vc_bind]at hq
 obtain⟨q,s2,hq,L,V,w,d,H,aw,⟨av,_,n2,e2⟩,_,_⟩:=al0 B (ac nt) (ae (some i) g nt) g false (fun h=>by cases h) m bo r.2 τ1 Fb s1 K tm1 tb aj _ hq aj
 cases A:q.1 with
 |exit _=>simp only[A]at hq;exact hq.elim
 |goto _=>simp only[A]at hq;exact hq.elim
 |ret=>simp only[A]at hq;exact hq.elim
 |panic _=>simp only[A]at hq;exact hq.elim
 |outgrown=>simp only[A]at hq;exact hq.elim
 |normal=>
 simp only[A,i9]at hq;cases E:nyS s2 with
 |false=>rw[E]at hq;exact hq.elim
 |true=>
 rw[E,bG8]at hq;have aa:w.m.get i=some W:=by
  rw[d.kept i ad N,al]
 have ah:∀b x o,s2.get b=some x->L b=some (some (i,o))->False:=fun b x o hb ht=>by
  by_cases hlt:b<s1.nx
  ·obtain⟨y,hy⟩:=d.low b x hb hlt
   rw[d.st b hlt]at ht
   grind
  ·rcases d.fresh b i o (bM9 hlt) ht with h| ⟨b0,y,o0,h1,h2⟩
   ·grind
   ·grind
 let F3:Nat->Option Blk:=fun j=>if j=i then some R else V j
 let G:Hp:= {w with m:=w.m.set i (some R)}
 have g3:∀j,j≠i->G.m.get j=w.m.get j:=fun j hj=>by
  show(w.m.set i (some R)).get j=_;rw[T.get_set,bH1 hj]
 have az:G.m.get i=some R:=by
  show(w.m.set i (some R)).get i=_;rw[T.get_set,bH3 rfl]
 have ba:i<w.nx:=bK4 ad d.nx;have aq:SD P U L F3 s2 G:=by
  refine H.sub false (fun j y hj h=>?_) (.inr E) (bH4 _) (fun b x j o hb hj=>?_) (fun j y hj=>?_)
  ·show(if j=i then some R else V j)=some y
   rw[bH1 ?_]
   ·exact hj
   ·rintro rfl
    have h5:=H.frz j y hj;rw[aa]at h5;cases h5
    rcases h with h| ⟨h,_⟩
    ·cases h
    ·cases h
  ·have C:j≠i:=fun e=>ah b x o hb (by rw[<-e];exact hj)
   refine⟨g3 j C,?_⟩;show(if j=i then some R else V j)=none
   rw[bH1 C]
   rcases H.live b x hb with⟨i',o',y',h1,h2,h3,h4⟩| ⟨h1,_⟩
   ·grind
   ·grind
  ·have hj:(if j=i then some R else V j)=some y:=hj
   by_cases e:j=i
   ·grind
   ·rw[bH1 e]at hj
    exact⟨by rw[g3 j e];exact H.frz j y hj,H.flt j y hj⟩
 have ak:Ext τ1 F1 s1 hp1 L F3 s2 G:=by
  obtain⟨l,a1,a2,a3,a4,a5⟩:=d.hh;refine⟨d.t,fun j y hj=>?_,d.nx,d.snx,d.st,d.low,⟨l,a1,fun j hj bb=>?_,a3,fun j y hj hy=>?_,fun hp j y hy=>?_⟩,d.hf⟩
  ·show(if j=i then some R else V j)=some y
   by_cases e:j=i
   ·grind
   ·rw[bH1 e]
    refine d.f j y ?_
    grind
  ·grind
  ·grind
  ·have hy:(if j=i then some R else V j)=some y:=hy
   by_cases e:j=i
   ·rw[bH3 e]at hy
    rw[e,J];exact hy
   ·rw[bH1 e]at hy
    have h:(if j=i then none else F1 j)=some y:=a5 hp j y hy
    rw[bH1 e]at h;exact h
 refine⟨_,s2,hq,L,F3,G,X.trans ak,aq,.bool true,⟨n1+n2,fun n hn=>?_⟩,.bool (.bool true)⟩
 have x1:=e1 n n [] (by omega) (by omega)
 have x2:=e2 n n (O.map Df.mark++ []) (by omega) (by omega)
 rw[hr]at x1;rw[A]at x2;have ao:hp.m.get i=some (.loop .ready none nt tms pr as bo db):=hs.frz i R hF;have Z:hp1.m.get i=some (.loop .ready none nt tms pr as bo db):=ap;have ab:w.m.get i=some (.loop .busy none nt tms pr as bo db):=aa;have hc:(Nat.beq pr.toList.length args.length&&aq7 nt pr.toList)=true:=by
  rw[ai,bF2];exact⟨by rw[<-hl.1];exact hb.1,hb.2⟩
 have ax:f6 P (l8 P) (exec P ov n) nt (some i) n bo tm1 {hp1 with m:=hp1.m.set i (some (.loop .busy none nt tms pr as bo db))} (O.map Df.mark++ [])=some (.mk .normal aw w (av.map Df.mark++(O.map Df.mark++ []))):=x2
 rw[<-ai]at x1;unfold aC9;simp only[ao,hc,bG8,x1,Z,ax,ab];rfl
theorem az5 {dr : B7 → Nat → af0} (  d : ∀ call, y4 P U ov call → ∀ nt, S6 P U ov nt (dr call nt)) {lp : B7 → FuncId → Nat → ai5} (  h : ∀ call, y4 P U ov call → ∀ ar g nt, S7 P U ov ar nt (lp call g nt))
  {con:FuncId->Option (List SV->M SV)} (b:∀g k,con g=some k->y8 P U ov k g) (w:∀g,isT (ov g)=true->con g≠none):∀n,y4 P U ov (N3 P U dr lp con n)
 |0=>⟨fun g l args τ F s hp _ _=>OKh.fail,fun ks vs g nt ps as bo l args τ F s hp i _ _ _=>OKh.fail⟩
 |n+1=>by
  have r:=az5 d h b w n;refine⟨fun g l args τ F s hp hl hs=>?_,fun ks vs g nt ps as bo l args τ F s hp i A hl hs=>?_⟩
  ·simp only[N3]
   split
   ·rename_i k hk;exact b g k hk l args τ F s hp hl hs
   ·rename_i hk
    have y:isT (ov g)=false:=by grind
    exact bg9 r (d _ r) (h _ r) n g y l args τ F s hp hl hs
  ·refine(bm9 r (d _ r) (h _ r) n ks vs g nt ps as bo l args τ F s hp i A hl hs).mono fun a τ' F' hp' _ _ ⟨v,⟨n0,h1⟩,h2⟩=>⟨v,⟨n0+1,fun k hk=>?_⟩,h2⟩
   obtain⟨k,rfl⟩:∃j,k=j+1:=⟨k-1,by omega⟩
   exact h1 k (by omega)
end
end Go.Sx
namespace Go.Sx
open Go.Xe
section
variable {P :Program}{call:d8}{tm:T Value}{hp hp':Hp}{v:Value}
variable {o:Op}
theorem bo1 (hk:c9 o=1)(g h:d8)(tm:T Value)(hp:Hp):xop P g tm hp o=xop P h tm hp o:=by
 cases o with
 |call c=>
  obtain⟨d,args,ats⟩:=c;cases d with
  |builtin b=>rfl
  |_=>simp[c9]at hk
 |load t a=>rfl
 |slice t x lo hi mx=>rfl
 |lookup t x k ok=>rfl
 |_=>simp[c9]at hk
theorem by3  (hk : c9 o = 1) (hx : xop P call tm hp o = some (v, hp')) : hp' = hp := by
 cases o with
 |load t a=>
  simp only[b9,g9]at hx;split at hx
  ·exact(f5 hx).2
  ·cases hx
 |slice t x lo hi mx=>
  simp only[b9,g9]at hx;split at hx
  ·split at hx
   ·split at hx
    ·split at hx
     ·exact as8 hx
     ·cases hx
    ·cases hx
   ·cases hx
  ·cases hx
 |lookup t x k ok=>
  simp only[b9,g9]at hx;split at hx
  ·split at hx
   ·exact(f5 hx).2
   ·cases hx
  ·cases hx
 | call c =>
  obtain⟨d,args,ats⟩:=c;cases d with
  | builtin b =>
   cases b <;> first
    | (simp[c9]at hk;done)
    | (simp only [b9, g9] at hx
       split at hx
       ·generalize ats.toList=g at hx
        rename_i vs _
        rcases g with _| ⟨t,_| ⟨u,r⟩⟩<;>rcases vs with _| ⟨x,_| ⟨y,h⟩⟩<;>simp only[t8,reduceCtorEq]at hx
        exact(f5 hx).2
       ·cases hx)
  |_=>simp[c9]at hk
 |_=>simp[c9]at hk
theorem aq3 (hk:c9 o=1)(hx:xop P call tm hp o=some (v,hp)):xrd P tm hp o=some v:=by
 unfold xrd;rw[bo1 hk _ call,hx]
 simp_all
theorem bF0 (hk:c9 o=1)(hx:xop P call tm hp o=some (v,hp')):hp'=hp/\xrd P tm hp o=some v:=by
 have e:=by3 hk hx;subst e;exact⟨rfl,aq3 hk hx⟩
variable {a:Operand}{S:Hp}
theorem aW3 {t:TypeId}{j q:Nat}(hx:xop P call tm hp (.load t a)=some (v,hp'))(b:a9 tm a=some (.pointer (some ⟨j,q,none⟩)))(d:S.m.get j=hp.m.get j):xrd P tm S (.load t a)=some v:=by
 refine aq3 (call:=call) rfl ?_;simp only[b9,g9,b]at hx⊢;have:L8 P S t (.pointer (some ⟨j,q,none⟩))=L8 P hp t (.pointer (some ⟨j,q,none⟩)):=by simp only[L8,d]
 rw[this,(f5 hx).1];rfl
theorem bc8 {t:TypeId}{k:Operand}{ok:Bool}{j:Nat}(hx:xop P call tm hp (.lookup t a k ok)=some (v,hp'))(b:a9 tm a=some (.map (some j)))(d:S.m.get j=hp.m.get j):xrd P tm S (.lookup t a k ok)=some v:=by
 refine aq3 (call:=call) rfl ?_;simp only[b9,g9,b]at hx⊢;cases g:a9 tm k with
 |none=>grind
 |some u=>
  rw[g]at hx;simp only at hx⊢;have:B3 P S t (.map (some j)) u ok=B3 P hp t (.map (some j)) u ok:=by simp only[B3,d]
  rw[this,(f5 hx).1];rfl
theorem aW6  {t : TypeId} {x : Value} {lo hi mx : Option Value} (h : j6 P hp t x lo hi mx = some (v, hp')) ( r : ∀ i o l c, x = .slice (some ⟨i, o, none⟩) l c → S.m.get i = hp.m.get i) :
  j6 P S t x lo hi mx=some (v,S):=by
 unfold j6 at h⊢;simp only[Bool.cond_eq_ite]at h⊢;split at h
 ·split at h
  ·grind
  ·cases h
 ·split at h
  ·cases h
  ·rename_i ie b
   split at h
   ·grind
   ·grind
   ·have e:=r _ _ _ _ rfl
    simp only[e];split at h
    ·rename_i d
     rw[bH3 d];split at h
     ·rename_i g
      rw[bH3 g];split at h
      ·cases h
      ·grind
      ·rename_i l hh h2
       split at h
       ·grind
       ·grind
     ·cases h
    ·grind
   ·cases h
 ·split at h
  ·cases h
  ·rename_i ie b
   split at h
   ·grind
   ·cases h
 ·cases h
variable {x:Operand}{u:Value}
theorem ae0 {t : TypeId}  {lo hi mx : Option Operand}  (hx : xop P call tm hp (.slice t x lo hi mx) = some (v, hp')) ( g : a9 tm x = some u) (S : Hp) ( d : ∀ i o l c, u = .slice (some ⟨i, o, none⟩) l c → S.m.get i = hp.m.get i) :
  xrd P tm S (.slice t x lo hi mx)=some v:=by
 refine aq3 (call:=call) rfl ?_;simp only[b9,g9,g]at hx⊢;cases h1:ae8 tm lo with
 |none=>grind
 |some a=>
  rw[h1]at hx;simp only at hx⊢;cases h2:ae8 tm hi with
  |none=>grind
  |some b=>
   rw[h2]at hx;simp only at hx⊢;cases h3:ae8 tm mx with
   |none=>grind
   |some c=>
    rw[h3]at hx;exact aW6 hx d
theorem bB9 {args : Array Operand} {ats : Array TypeId}   (hx : xop P call tm hp (.call ⟨.builtin .len, args, ats⟩) = some (v, hp')) ( b : args.toList = [x]) ( d : a9 tm x = some u) (hm : ∀ i, u ≠ .map (some i)) (S : Hp) :
  xrd P tm S (.call ⟨.builtin .len,args,ats⟩)=some v:=by
 refine aq3 (call:=call) rfl ?_;simp only[b9,g9,b,ae7,d]at hx⊢;generalize ats.toList=g at hx⊢
 rcases g with _| ⟨t,_| ⟨w,r⟩⟩<;>simp only[t8,reduceCtorEq]at hx⊢
 have:Q6 S P t u=Q6 hp P t u:=by
  unfold Q6
  grind
 rw[this,(f5 hx).1];rfl
end
inductive Rd where
 |free
 |blk (b:Nat)
 |frz
 |mlk (t:TypeId) (b:Nat)
 |bad
def aj8 (P:Program)(t:TypeId)(f:Fm)(k:Operand):Bool:=match P.underlying t,f8 f k with
 |some (.map kt _),some ks=>match J9 P kt with
  |some sh=>(skey sh ks).isSome
  |none=>false
 |_,_=>false
def at6 (P:Program)(f:Fm):Op->Rd
 | .load _ x=>match f8 f x with
  |some (.ptr b _ _ _)=>.blk b
  |some (.pptr _ _ _ _)=>.frz
  |_=>.bad
 | .lookup t x k ok=>match f8 f x with
  |some (.map b)=>bif !ok&&aj8 P t f k then .mlk t b else .blk b
  |_=>.bad
 | .slice _ x _ _ _=>match f8 f x with
  |some (.lst _ _ _)=>.frz
  |some .nils=>.free
  |some (.str _)=>.free
  |_=>.bad
 | .call ⟨.builtin .len,args,_⟩=>match args.toList with
  | [x]=>match f8 f x with
   |some (.str _)=>.free
   |some (.sl _ _ _ _ _)=>.free
   |some (.lst _ _ _)=>.free
   |some .nils=>.free
   |_=>.bad
  |_=>.bad
 |_=>.bad
def vok :Nat->SV->Bool
 |0,_=>false
 |n+1,a=>match a with
  | .any=>false
  | .agg l=>l.all (vok n)
  | .tup l=>l.all (vok n)
  | .fn _ l m=>l.all (vok n)&&m.all (vok n)
  | .iface _ v=>vok n v
  |_=>true
section
variable {P :Program}{U:Nat->List Dat->Dat}{τ:Tau}{F:Nat->Option Blk}{s:SS}
variable {v:Value}
theorem PV.lst_slice {e:TypeId}{d:Dat}(h:PV P F (.sl e) v d):∃a l c,v= .slice a l c:=by
 cases h<;>exact⟨_,_,_,rfl⟩
variable {l:List SV}
theorem by8 {f:Value->Value->Bool}{xs:List Value}(hl:l.length=xs.length)(h:∀(i:Nat) a x,l[i]? =some a->xs[i]? =some x->f x x=true):Q8 f xs xs=true:=by
 induction xs generalizing l with
 |nil=>rfl
 |cons x xs d=>
  cases l with
  |nil=>simp at hl
  |cons a l=>
   simp only[Q8,bF2];exact⟨h 0 a x rfl rfl,d (by simpa using hl) fun i b y hb hy=>h (i+1) b y hb hy⟩
theorem aU3 :∀(n:Nat) (a:SV) (v:Value),vok n a=true->VD P U τ F a v->veq n v v=true
 |0,_,_,h,_=>by cases h
 |n+1,a,v,h,r=>by
  have g:=aU3 n;have all:∀ {l:List SV} {xs:List Value},l.all (vok n)=true->l.length=xs.length->(∀(i:Nat) a x,l[i]? =some a->xs[i]? =some x->VD P U τ F a x)->Q8 (veq n) xs xs=true:=by
   intro l xs h1 h2 h3;rw[bI1]at h1;exact by8 h2 fun i a x d hx=>g a x (h1 a (bG1 d)) (h3 i a x d hx)
  have b:∀k:Nat,Nat.beq k k=true:=fun k=>j9 rfl
  cases r with
  |any v=>cases h
  |int k e=>simp[veq]
  |bool e=>simp[veq]
  |str e=>simp[veq]
  |nilp=>simp[veq]
  |ptr=>simp[veq]
  |pptr=>simp[veq]
  |nils=>simp only[veq,b,bK8,bN9]
  |sl=>simp only[veq,b,bK8,bN9]
  |sl0=>simp only[veq,b,bK8,bN9]
  |lst t L clip v hp hc=>
   obtain⟨a,l,c,rfl⟩:=hp.lst_slice;simp only[veq,b,bK8,bN9]
  |agg l xs h1 h2=>simp only[vok]at h;simp only[veq];exact all h h1 h2
  |tup l xs h1 h2=>simp only[vok]at h;simp only[veq];exact all h h1 h2
  |fn f l m xs ys h1 h2 h3 h4=>
   simp only[vok,bF2]at h;simp only[veq,bK8,bQ2,bF2]
   grind
  |nilf=>rfl
  |map=>simp[veq]
  |nilm=>simp[veq]
  |iface t a x hx=>simp only[vok]at h;simp only[veq,b,bQ2];exact g _ _ h hx
  |nili=>rfl
  |yld=>simp[veq]
def bC1 (P:Program)(t:TypeId)(kv:Value):Prop:=∃kt vt sh ks,P.underlying t=some (.map kt vt)/\J9 P kt=some sh/\aa6 sh.2 ks=true/\kv=Z2 sh ks
def MS (P:Program)(t:TypeId)(j:Nat)(S S2:Hp):Prop:=∀kv,bC1 P t kv->B3 P S t (.map (some j)) kv false=B3 P S2 t (.map (some j)) kv false
variable {j:Nat}
theorem MS.of {t:TypeId}{S S2:Hp}(h:S2.m.get j=S.m.get j):MS P t j S S2:=fun kv _=>by simp only[B3,h]
theorem MS.trans {t:TypeId}{A B C:Hp}(h:MS P t j A B)(k:MS P t j B C):MS P t j A C:=fun kv hk=>(h kv hk).trans (k kv hk)
theorem MS.symm {t:TypeId}{A B:Hp}(h:MS P t j A B):MS P t j B A:=fun kv hk=>(h kv hk).symm
variable {f:Fm}{tm:T Value}
theorem be3 (ht:TD P U τ F f tm){t:TypeId}{k:Operand}{u:Value}(g:a9 tm k=some u)(h:aj8 P t f k=true):bC1 P t u:=by
 unfold aj8 at h;split at h
 ·rename_i kt vt ks hm hk
  split at h
  ·rename_i sh d
   obtain⟨es,b⟩:=Option.isSome_iff_exists.1 h;obtain⟨r,h1,h2⟩:=v6 ht hk;rw[g,bF1]at h1;subst h1;obtain⟨k1,k2⟩:=bh1 h2 b;exact⟨kt,vt,sh,_,hm,d,k2,k1⟩
  ·cases h
 ·cases h
variable {z:Value}
theorem bE2 {kd:Kd}{v':Value}{d b:Dat}(hz:PV P F kd z b)(g:at5 (some z)=true)(h:PV P F kd v d)(h':PV P F kd v' d):v=v':=by
 cases hz with
 |int=>cases h;cases h';rfl
 |bool=>cases h;cases h';rfl
 |str=>cases h;cases h';rfl
 |_=>cases g
theorem aO9 {kt vt t : TypeId} {sh : Bool × List Kd} {ks : List KV} {i : Nat} {es   y : List (Value × Value)} {rows : Rows}  { g : Dat} {hp hp' : Hp} {d : TypeDesc} ( J : P.underlying t = some (.map kt vt)) ( D : P.underlying kt = some d) (hk : J9 P kt = some sh)
  (hz:E9 P vt=some z) (L:at5 (some z)=true) (w:PV P F (kd1 P vt) z g) (A:hp.m.get i=some (.map es true)) (G:hp'.m.get i=some (.map y true)) (hm:M4 P F kt vt es rows) (H:M4 P F kt vt y (mputR rows ks (mgetR rows ks g)))
  (hf:aa6 sh.2 ks=true):MS P t i hp hp':=by
 rintro kv ⟨O,R,Q,b,q1,q2,K,rfl⟩
 rw[J]at q1;cases q1;rw[hk]at q2;cases q2;obtain⟨find,E,h⟩:=aw7 D hk K;have val:∀ {es:List (Value×Value)} {rows:Rows} {hp:Hp},hp.m.get i=some (.map es true)->M4 P F kt vt es rows-> ∃v,B3 P hp t (.map (some i)) (Z2 sh b) false=some v/\PV P F (kd1 P vt) v (mgetR rows b g):=by
  intro es rows hp A hm
  rcases H3 hk K E w g rows es 0 hm with⟨_,B,C,_⟩| ⟨_,v,_,B,C,_⟩
  ·exact⟨z,by simp only[B3,J,D,A,h,B,hz];rfl,by rw[C];exact w⟩
  ·exact⟨v,by simp only[B3,J,D,A,h,B];rfl,C⟩
 obtain⟨v,h1,h2⟩:=val A hm;obtain⟨v',h3,h4⟩:=val G H;have hl:ks.length=b.length:=(O2 hf).trans (O2 K).symm;have key:∀rows:Rows,mgetR (mputR rows ks (mgetR rows ks g)) b g=mgetR rows b g:=by
  have N:∀v:Dat,aa5 b.length (ks.map KV.dat++ [v])=ks:=fun v=>by unfold aa5;rw[List.take_left' (by rw[bH0];exact hl),aX9]
  have vm:∀v:Dat,(ks.map KV.dat++ [v]).getD b.length (.int 0)=v:=fun v=>by
   grind
  have put:∀(v:Dat) (M:Rows),mgetR (mputR M ks v) b g=if b=ks then v else mgetR M b g:=by
   intro v M
   induction M with
   |nil=>
    unfold mputR mgetR;rw[N,vm]
    by_cases e:b=ks
    ·grind
    ·rw[bH1 e,bH1 fun c=>e c.symm];rfl
   |cons r M T=>
    unfold mputR
    by_cases hr:aa5 ks.length r=ks
    ·rw[bH3 hr]
     unfold mgetR
     grind
    ·rw[bH1 hr]
     unfold mgetR
     grind
  grind
 rw[key]at h4;rw[h1,h3,bE2 w L h2 h4]
variable (P) in
def aO1 (τ:Tau)(F:Nat->Option Blk)(S:Hp)(tm:T Value)(o:Op)(v:Value):Rd->Prop
 | .free=>∀S2,xrd P tm S2 o=some v
 | .blk b=>∃j q,τ b=some (some (j,q))/\ ∀S2:Hp,S2.m.get j=S.m.get j->xrd P tm S2 o=some v
 | .frz=>(∀S2,xrd P tm S2 o=some v)\/ ∃j y,F j=some y/\ ∀S2:Hp,S2.m.get j=some y->xrd P tm S2 o=some v
 | .mlk t b=>∃j q,τ b=some (some (j,q))/\ ∀S2:Hp,MS P t j S S2->xrd P tm S2 o=some v
 | .bad=>True
theorem bA5 {call:d8}{S S':Hp}{o:Op}(ht:TD P U τ F f tm)(hs:SD P U τ F s S)(h:xop P call tm S o=some (v,S')):aO1 P τ F S tm o v (at6 P f o):=by
 unfold at6;split
 ·rename_i t x
  split
  ·rename_i b z row fld hx
   obtain⟨u,h1,h2⟩:=v6 ht hx;cases h2 with
   |ptr _ _ _ _ i q A h0=>exact⟨i,q,A,fun S2 r=>aW3 h h1 r⟩
  ·rename_i t' L row fld hx
   obtain⟨u,h1,h2⟩:=v6 ht hx;cases h2 with
   |pptr _ _ _ _ i q l c hp h0 hlt=>
    have:∃y,F i=some y:=by
     cases hp with
     |sl e i o c b cs n z rows x hF=>grind
    obtain⟨y,hy⟩:=this;exact .inr ⟨i,y,hy,fun S2 r=>aW3 h h1 (by rw[r,hs.frz i y hy])⟩
  ·trivial
 ·rename_i t x k ok
  split
  ·rename_i b hx
   obtain⟨u,h1,h2⟩:=v6 ht hx;cases h2 with
   |map _ i q A=>
    cases hc: !ok&&aj8 P t f k with
    |false=>exact⟨i,q,A,fun S2 r=>bc8 h h1 r⟩
    |true=>
     rw[bF2,bJ7]at hc;refine⟨i,q,A,fun S2 r=>?_⟩
     have hk:∃kv,a9 tm k=some kv:=by
      simp only[b9,g9,h1]at h
      grind
     obtain⟨kv,B⟩:=hk;have D:=r kv (be3 ht B hc.2);refine aq3 (call:=call) rfl ?_;simp only[b9,g9,h1,B,hc.1]at h⊢;rw[<-D,(f5 h).1];rfl
  ·trivial
 ·rename_i t x lo hi mx
  have free:∀ {a:SV},f8 f x=some a->(∀w,VD P U τ F a w-> ∀i o l c,w≠ .slice (some ⟨i,o,none⟩) l c)-> ∀S2,xrd P tm S2 (.slice t x lo hi mx)=some v:=by
   intro a C hn S2;obtain⟨u,h1,h2⟩:=v6 ht C;exact ae0 h h1 S2 fun i o l c e=>absurd e (hn u h2 i o l c)
  split
  ·rename_i t' L c hx
   obtain⟨u,h1,h2⟩:=v6 ht hx;cases h2 with
   |lst _ _ _ _ hp _=>
    generalize Dat.lst (L.toR U)=d at hp;cases hp with
    |nils=>exact .inl fun S2=>ae0 h h1 S2 fun i o l c e=>by cases e
    |vague=>exact .inl fun S2=>ae0 h h1 S2 fun i o l c e=>by cases e
    |sl e i o c b cs n z rows x hF=>
     refine .inr ⟨i,b,hF,fun S2 r=>ae0 h h1 S2 fun E o' l' c' e=>?_⟩
     cases e;rw[r,hs.frz i b hF]
  ·rename_i hx;exact free hx fun w g i o l c e=>by cases g;cases e
  ·rename_i hx;exact free hx fun w g i o l c e=>by cases g;cases e
  ·trivial
 ·rename_i args ats
  split
  ·rename_i x hx
   have key:∀ {a:SV},f8 f x=some a->(∀w,VD P U τ F a w-> ∀i,w≠ .map (some i))->aO1 P τ F S tm (.call ⟨.builtin .len,args,ats⟩) v .free:=by
    intro a C hn S2;obtain⟨u,h1,h2⟩:=v6 ht C;exact bB9 h hx h1 (hn u h2) S2
   split
   ·rename_i he;exact key he fun w g i=>by cases g;simp
   ·rename_i he;exact key he fun w g i=>by cases g<;>simp
   ·rename_i he
    refine key he fun w g i=>?_
    cases g with
    |lst _ _ _ _ hp _=>obtain⟨a,l,c,rfl⟩:=hp.lst_slice;simp
   ·rename_i he;exact key he fun w g i=>by cases g;simp
   ·trivial
  ·trivial
 ·trivial
variable (P) in
def snw (f : Fm) (o : Op) : Option (p7 × (Nat → SV)) :=
 match o with
 | .alloc e=>match ab9 P e with
  |some l=>some (.cells l e l.length,fun b=>.ptr b l.length (.int 0) 0)
  |none=>none
 | .box e x=>match f8 f x with
  |some v=>match v7 v with
   |some l=>some (.cells l e l.length,fun b=>.ptr b l.length (.int 0) 0)
   |none=>none
  |none=>none
 | .buildSlice t len parts => match ab8 f parts.toList with
  | some ps => match P.underlying t with
   | some (.slice e) => match P.info? e with
    | some ie => match ab9 P e with
     | some z => bif Nat.beq z.length ie.size && Nat.ble (len * ie.size) 16777216 && Nat.ble len 16777216 then
       match ar9 (fun i=>some (i*ie.size,ie.size)) (bw7 len z) ps with
       |some cs=>some (.cells cs e ie.size,fun b=>.sl b ie.size (.int 0) (.int len) (.ex (.int len)))
       |none=>none
      else none
     |none=>none
    |none=>none
   |_=>none
  |none=>none
 |_=>none
variable (P U) in
def NwOK (τ:Tau)(F:Nat->Option Blk)(tm:T Value)(o:Op)(x:p7)(mk:Nat->SV):Prop:=
 ∃n,xnw P tm o=some n/\(∀τ',Tle τ τ'->BD P U τ' F 0 x n.blk)/\ ∀(τ':Tau) b id,τ' b=some (some (id,0))->VD P U τ' F (mk b) (n.val id)
theorem bC5  {vs : List Value} {e : TypeId} (h : VDL P U τ F l vs) : (∀ τ', Tle τ τ' → BD P U τ' F 0 (.cells l e l.length) (D5 vs e vs.length)) ∧
  ∀(τ':Tau) b d,τ' b=some (some (d,0))->VD P U τ' F (.ptr b l.length (.int 0) 0) ((⟨D5 vs e vs.length,.ptr,rfl⟩:Nw).val d):=by
 refine⟨fun τ' ht=>?_,fun τ' b d hb=>?_⟩
 ·rw[h.1];exact R9 (h.mono ht (Fle.refl F)) e vs.length
 ·exact VD.ptr' hb (by show(0:Int)<=0;omega) (by show 0=0+(0:Int).toNat*_+0;simp)
theorem bE3   (ht : TD P U τ F f tm) {o : Op} {x : p7} {mk : Nat → SV} (h : snw P f o = some (x, mk)) : NwOK P U τ F tm o x mk := by
 unfold snw at h;split at h
 ·split at h
  ·rename_i l hl
   cases h;obtain⟨z,h1,h2⟩:=I9 (U:=U) (τ:=τ) (F:=F) hl;exact⟨_,by simp only[xnw,al9,h1];rfl,bC5 h2⟩
  ·cases h
 ·split at h
  ·rename_i v J
   split at h
   ·rename_i l hl
    cases h;obtain⟨w,h1,h2⟩:=v6 (P:=P) (U:=U) ht J;exact⟨_,by simp only[xnw,h1];rfl,bC5 (ad3 h2 hl)⟩
   ·cases h
  ·cases h
 ·rename_i t len     C
  split at h
  ·rename_i ps   r
   obtain⟨L,y,A⟩:=ad6 (P:=P) (U:=U) ht r;split at h
   ·rename_i e he
    split at h
    ·rename_i ie   g
     split at h
     ·rename_i z hz
      obtain⟨zv,h1,h2⟩:=I9 (U:=U) (τ:=τ) (F:=F) hz;rw[h2.1]at h;cases hb:Nat.beq zv.cells.toList.length ie.size&&Nat.ble (len*ie.size) 16777216&&Nat.ble len 16777216 with
      |false=>grind
      | true =>
       rw[hb,bG8]at h;split at h
       ·rename_i cs   d
        cases h;obtain⟨ys,h3,h4⟩:=ab6 (av2 h2 len) A d;refine⟨⟨D5 ys e ie.size,.slice len len,rfl⟩,?_,fun τ' hl=>R9 (h4.mono hl (Fle.refl F)) e ie.size,fun τ' b K B=>?_⟩
        ·simp only[xnw,y,bn3,he,g,h1,hb,bG8,h3]
        ·have  H : len < unk := by
          simp only[bF2,bK5]at hb;unfold unk;omega
         have:=VD.sl (P:=P) (U:=U) (F:=F) b ie.size (.int 0) (.int len) (.ex (.int len)) K 0 len B (bL5 0) (Int.natCast_nonneg len) ⟨Int.natCast_nonneg len,(bJ2 len).symm,H,bL5 _⟩;have D:(E.int (len:Int)).toN U=len:=bJ2 len;rw[D]at this;have G:(E.int 0).toN U*ie.size=0:=by show(0:Int).toNat*_=0;simp
         rw[G]at this;exact this
       ·cases h
     ·cases h
    ·cases h
   ·cases h
  ·cases h
 ·cases h
end
theorem al4 {nx0:Nat}{m:Nat->Bool}:∀(es:List Ent) (S:Hp),(takes nx0 m es S).nx=S.nx
 | [],S=>rfl
 |e::es,S=>by
  unfold takes;cases e.nw with
  |none=>exact al4 es S
  |some n=>cases m e.i with
   |false=>exact al4 es S
   |true=>exact al4 es _
theorem ap2 {nx0:Nat}{m:Nat->Bool}{j:Nat}:∀(es:List Ent) (S:Hp),(∀e∈es,e.nw≠none->m e.i=true->j≠nx0+e.i)->(takes nx0 m es S).m.get j=S.m.get j
 | [],S,_=>rfl
 |e::es,S,h=>by
  unfold takes;have b:=fun S=>ap2 es S fun e' he'=>h e' (bL0 _ he')
  have h0:=h e (by simp)
  cases hn:e.nw with
  |none=>exact b S
  |some n=>
   simp only;cases hm:m e.i with
   |false=>exact b S
   |true=>
    rw[bG8,b];show(S.m.set _ _).get j=_;rw[T.get_set,bH1 (h0 (by rw[hn];simp) hm)]
theorem aI2 {nx0 : Nat} {m : Nat → Bool} {e : Ent} {n : Nw} : ∀ (es : List Ent) (S : Hp), e ∈ es → e.nw = some n → m e.i = true → es.Pairwise (fun a b => a.i ≠ b.i) → (takes nx0 m es S).m.get (nx0 + e.i) = some n.blk
 | [],S,he,_,_,_=>by simp at he
 | e' :: es, S, he, hn, hm, hp => by
  unfold takes;rw[List.pairwise_cons]at hp
  by_cases d:e=e'
  ·subst d
   rw[hn];simp only[hm,bG8];rw[ap2]
   ·show(S.m.set _ _).get _=_
    rw[T.get_set,bH3 rfl]
   ·grind
  ·have he' : e ∈ es := by
    grind
   have g:=fun S=>aI2 (nx0:=nx0) es S he' hn hm hp.2
   grind
end Go.Sx
namespace Go.Sx
open Go.Xe
structure Pd where
 b:Nat
 i:Nat
 x:p7
structure En where
 i:Nat
 pre:Nat
 w:Bool
 nr:Bool
 r:Rd
 keys:List Nat
 fr:Bool
def J6 (b:Nat):List Nat->Bool
 | []=>false
 |k::l=>bif Nat.beq b k then true else J6 b l
theorem F9 {b:Nat}:∀ {l:List Nat},J6 b l=false->b∉l
 | [],_=>by simp
 |k::l,h=>by
  unfold J6 at h
  by_cases e:b=k
  ·simp_all
  ·rw[m8 e,bG9]at h
   simp[e,F9 h]
def as0 (a r:Rd):Bool:=match a,r with
 | .mlk t b,.mlk t' b'=>Nat.beq t t'&&Nat.beq b b'
 |_,_=>false
def Y6 (pre:Nat)(keys:List Nat)(ws:Rd)(e:En):Bool:=
 bif e.nr then(bif pre.testBit e.i then true else match e.r with
  | .free=>true
  | .frz=>true
  | .blk b=> !J6 b keys
  | .mlk t b=> !J6 b keys||as0 ws (.mlk t b)
  | .bad=>false)else true
def V9 (pre:Nat)(r:Rd)(y:En):Bool:=
 bif y.w then(bif pre.testBit y.i then true else match r with
  | .free=>true
  | .blk b=> !J6 b y.keys
  | .mlk t b=> !J6 b y.keys||as0 y.r (.mlk t b)
  | .frz=> !y.fr
  |_=>false)else true
def PT (S0:Hp)(esX:List Ent)(k:Nat)(Sk:Hp):Prop:=(k=0/\Sk=S0)\/ ∃x∈esX,isW x=true/\k=x.i+1/\Sk=x.S2
def bi3 (P:Program)(esX:List Ent)(e:Ent)(k:Nat)(Sk:Hp):Prop:=own esX e k=true\/P9 esX e k=false\/ ∃v,xrd P e.tm Sk e.o.op=some v/\veq 1000 v e.r=true
variable {esX:List Ent}
theorem bi3.look {P:Program}{e:Ent}{k:Nat}{Sk:Hp}(h:bi3 P esX e k Sk):an9 P esX e k Sk=true:=by
 unfold an9
 rcases h with h|h| ⟨v,h1,h2⟩
 ·grind
 ·grind
 ·grind
theorem bp8 {a b:Nat}(h:a<b):Nat.blt a b=true:=bF8 h
theorem bC4 {a b:Nat}(h:b<=a):Nat.blt a b=false:=by
 cases hb:Nat.blt a b
 ·rfl
 ·simp_all;omega
theorem aE6 {e:Ent}{k:Nat}{y:Ent}(hy:y∈esX)(d:isW y=true)(h:(y.i<k/\y.pre.testBit e.i=true)\/(k<=y.i/\e.pre.testBit y.i=true)):P9 esX e k=false:=by
 cases b:P9 esX e k with
 |false=>rfl
 |true=>
  unfold P9 at b;rw[bI1]at b;have:=b y hy;rw[d,bG8]at this
  rcases h with⟨h1,h2⟩| ⟨h1,h2⟩
  ·rw[bp8 h1,bG8,h2]at this;cases this
  ·simp_all;omega
section
variable {P :Program}{S0:Hp}
variable {esX:List Ent}{eX:Ent}{k:Nat}{Sk:Hp}
theorem bi3.cons {e:Ent}(h:bi3 P esX e k Sk)(h1:k<=eX.i)(h2:e.i<=eX.i):bi3 P (eX::esX) e k Sk:=by
 rcases h with h|h|h
 ·refine .inl ?_
  unfold own at h⊢;rw[List.all_cons,h,bN9,bC4 h1,bC4 h2]
  grind
 ·refine .inr (.inl ?_)
  unfold P9 at h⊢
  grind
 ·exact .inr (.inr h)
structure DB (P:Program)(S0:Hp)(i:Nat)(τ:Tau)(F:Nat->Option Blk)(s:SS)(S:Hp)(es:List En)(esX:List Ent):Prop where
 xi:∀e∈esX,e.i<i
 wx:∀y∈esX,isW y=true-> ∃en∈es,en.w=true/\en.i=y.i/\en.pre=y.pre
 wn:∀en∈es,en.w=true-> ∃y∈esX,isW y=true/\en.i=y.i/\en.pre=y.pre
 look:∀e∈esX,e.wt=true->c9 e.o.op=1-> ∀k Sk,PT S0 esX k Sk->bi3 P esX e k Sk
 ag:∀k Sk,PT S0 esX k Sk-> ∀b x j o,s.get b=some x->τ b=some (some (j,o))->(∀en∈es,en.w=true->k<=en.i->b∉en.keys)->Sk.m.get j=S.m.get j
 af:∀k Sk,PT S0 esX k Sk->(∀en∈es,en.w=true->k<=en.i->en.fr=false)-> ∀j y,F j=some y->Sk.m.get j=some y
 rd:∀e∈esX,e.wt=true->c9 e.o.op=1->veq 1000 e.r e.r=true/\ ∃en∈es,en.nr=true/\en.i=e.i/\aO1 P τ F e.S e.tm e.o.op e.r en.r/\
  (∀b,en.r= .blk b->(∀y∈es,y.w=true->e.i<y.i->y.pre.testBit e.i=false)-> ∃x j q,s.get b=some x/\τ b=some (some (j,q))/\S.m.get j=e.S.m.get j)/\
  ∀t b,en.r= .mlk t b->(∀y∈es,y.w=true->e.i<y.i->y.pre.testBit e.i=false)-> ∃x j q,s.get b=some x/\τ b=some (some (j,q))/\MS P t j e.S S
 am:∀t k Sk,PT S0 esX k Sk-> ∀b x j o,s.get b=some x->τ b=some (some (j,o))->(∀en∈es,en.w=true->k<=en.i->b∉en.keys\/as0 en.r (.mlk t b)=true)->MS P t j Sk S
theorem PT.le {i:Nat}(hi:∀e∈esX,e.i<i)(h:PT S0 esX k Sk):k<=i:=by
 rcases h with⟨rfl,_⟩| ⟨x,hx,_,rfl,_⟩
 ·grind
 ·grind
theorem PT.cons (h:PT S0 (eX::esX) k Sk):PT S0 esX k Sk\/(isW eX=true/\k=eX.i+1/\Sk=eX.S2):=by
 rcases h with h| ⟨x,hx,b,h1,h2⟩
 ·exact .inl (.inl h)
 ·rcases bI9.1 hx with rfl|hx
  ·grind
  ·exact .inl (.inr ⟨x,hx,b,h1,h2⟩)
variable {F F':Nat->Option Blk}
theorem aO1.mono {τ τ':Tau}{S:Hp}{tm:T Value}{o:Op}{v:Value}{r:Rd}(ht:Tle τ τ')(hF:Fle F F')(h:aO1 P τ F S tm o v r):aO1 P τ' F' S tm o v r:=by
 cases r with
 |free=>exact h
 |blk b=>obtain⟨j,q,h1,h2⟩:=h;exact⟨j,q,ht _ _ h1,h2⟩
 |frz=>
  rcases h with h| ⟨j,y,h1,h2⟩
  ·exact .inl h
  ·exact .inr ⟨j,y,hF _ _ h1,h2⟩
 |mlk t b=>obtain⟨j,q,h1,h2⟩:=h;exact⟨j,q,ht _ _ h1,h2⟩
 |bad=>trivial
theorem DB.step {i : Nat} {τ τ' : Tau}  {s s' : SS} {S S' : Hp} {es : List En}  (h : DB P S0 i τ F s S es esX) {en : En} 
  (ht:Tle τ τ') (hF:Fle F F') (hl:∀b x,s.get b=some x->τ' b=τ b) (ak:∀j y,F' j=some y->S'.m.get j=some y) (aj:(isW eX=true->en.fr=false)-> ∀j y,F' j=some y->F j=some y)
  (hg:∀b,b∉en.keys->s'.get b=s.get b) (ad:∀b x j o,s.get b=some x->τ b=some (some (j,o))->b∉en.keys->S'.m.get j=S.m.get j)
  (ei:en.i=i) (xi:eX.i=i) (hp:en.pre=eX.pre) (hw:en.w=isW eX) (ab:eX.S2=S') (ah:isW eX=false->S'=S/\en.keys=[])
  (hf:isW eX=true->es.all (Y6 eX.pre en.keys en.r)=true)
  (hm:en.w=true-> ∀t b,as0 en.r (.mlk t b)=true-> ∃x x' j q,s.get b=some x/\s'.get b=some x'/\τ b=some (some (j,q))/\MS P t j S S')
  (hr:eX.wt=true->c9 eX.o.op=1->veq 1000 eX.r eX.r=true/\en.nr=true/\eX.S=S/\aO1 P τ' F S eX.tm eX.o.op eX.r en.r/\(∀b,(en.r= .blk b\/ ∃t,en.r= .mlk t b)-> ∃x,s.get b=some x)/\es.all (V9 eX.pre en.r)=true):
  DB P S0 (i+1) τ' F' s' S' (en::es) (eX::esX):=by
 have nk:∀b,(en.w=true->b∉en.keys)->b∉en.keys:=fun b hb=>by
  grind
 have ai:c9 eX.o.op=1->isW eX=false:=fun hk=>by unfold isW;rw[hk];rfl
 have wx:∀y∈eX::esX,isW y=true-> ∃d∈en::es,d.w=true/\d.i=y.i/\d.pre=y.pre:=by
  intro y hy Y
  rcases bI9.1 hy with rfl|hy
  ·grind
  ·obtain⟨e1,h1,h2⟩:=h.wx y hy Y
   grind
 have wn:∀d∈en::es,d.w=true-> ∃y∈eX::esX,isW y=true/\d.i=y.i/\d.pre=y.pre:=by
  intro y hy Y
  rcases bI9.1 hy with rfl|hy
  ·grind
  ·obtain⟨e1,h1,h2⟩:=h.wn y hy Y
   grind
 have rd : ∀ e ∈ eX :: esX, e.wt = true → c9 e.o.op = 1 → veq 1000 e.r e.r = true ∧ ∃   d ∈ en :: es,   d.nr = true ∧   d.i = e.i ∧ aO1 P τ' F' e.S e.tm e.o.op e.r   d.r ∧
   (∀b,d.r= .blk b->(∀y∈en::es,y.w=true->e.i<y.i->y.pre.testBit e.i=false)-> ∃x j q,s'.get b=some x/\τ' b=some (some (j,q))/\S'.m.get j=e.S.m.get j)/\
   ∀t b,d.r= .mlk t b->(∀y∈en::es,y.w=true->e.i<y.i->y.pre.testBit e.i=false)-> ∃x j q,s'.get b=some x/\τ' b=some (some (j,q))/\MS P t j e.S S':=by
  intro e he W hk
  rcases bI9.1 he with rfl|he
  ·obtain⟨h1,h2,h3,h4,K,h6⟩:=hr W hk
   obtain⟨l1,l2⟩:=ah (ai hk);refine⟨h1,en,by simp,h2,by rw[ei,xi],by rw[h3];exact h4.mono (Tle.refl _) hF,fun b hb _=>?_,fun t b hb _=>?_⟩
   ·obtain⟨x,hx⟩:=K b (.inl hb)
    rw[hb]at h4;obtain⟨j,q,L,_⟩:=h4
    grind
   ·obtain⟨x,hx⟩:=K b (.inr ⟨t,hb⟩)
    rw[hb]at h4;obtain⟨j,q,L,_⟩:=h4;exact⟨x,j,q,by rw[hg b (by rw[l2];simp)];exact hx,L,by rw[h3,l1];exact MS.of rfl⟩
  ·obtain⟨h1,Q,h2,h3,h4,K,h6,aa⟩:=h.rd e he W hk
   refine⟨h1,Q,by simp[h2],h3,h4,K.mono ht hF,fun b hb C=>?_,fun t b hb C=>?_⟩
   rotate_right 1
   ·obtain⟨x,j,q,L,N,h9⟩:=aa t b hb fun y hy=>C y (by simp[hy])
    have D:b∉en.keys\/en.w=true/\as0 en.r (.mlk t b)=true:=by
     cases E:en.w with
     |false=>exact .inl (nk b fun h=>by rw[E]at h;cases h)
     |true=>
      have G:=C en (by simp) E (by rw[ei];exact h.xi e he)
      have H:=hf (by rw[<-hw];exact E)
      rw[bI1]at H;have h12:=H Q h2;unfold Y6 at h12;rw[h3,bG8,h4,<-hp,G,bG9,hb]at h12;simp only[bM8,bJ7]at h12
      rcases h12 with h12|h12
      ·exact .inl (F9 h12)
      ·grind
    rcases D with D| ⟨E,ac⟩
    ·exact⟨x,j,q,by rw[hg b D];exact L,ht _ _ N,h9.trans (MS.of (ad b x j q L N D))⟩
    ·obtain⟨_,x',j',q',_,g2,g3,g4⟩:=hm E t b ac
     rw[N]at g3;cases g3;exact⟨x',j,q,g2,ht _ _ N,h9.trans g4⟩
   obtain⟨x,j,q,L,N,h9⟩:=h6 b hb fun y hy=>C y (by simp[hy])
   have D:b∉en.keys:=nk b fun E=>by
    have G:=C en (by simp) E (by rw[ei];exact h.xi e he)
    have H:=hf (by rw[<-hw];exact E)
    rw[bI1]at H;have h12:=H Q h2;unfold Y6 at h12;rw[h3,bG8,h4,<-hp,G,bG9,hb]at h12;simp only[bJ7]at h12;exact F9 h12
   grind
 refine⟨fun e he=>?_,wx,wn,?_,?_,fun k Sk g hc j y hj=>?_,rd,fun t k Sk g b x j o hb J X=>?_⟩
 rotate_right 1
 ·rcases g.cons with g| ⟨R,rfl,rfl⟩
  ·have Z:=g.le h.xi
   have D:b∉en.keys\/en.w=true/\as0 en.r (.mlk t b)=true:=by grind
   rcases D with D| ⟨E,ac⟩
   ·rw[hg b D]at hb
    rw[hl b x hb]at J;exact(h.am t k Sk g b x j o hb J fun d V=>X d (by simp[V])).trans (MS.of (ad b x j o hb J D))
   ·obtain⟨x0,_,j',q',g1,_,g3,g4⟩:=hm E t b ac
    rw[hl b x0 g1,g3]at J;cases J;exact(h.am t k Sk g b x0 _ _ g1 g3 fun d V=>X d (by simp[V])).trans g4
  ·rw[ab];exact MS.of rfl
 rotate_right 1
 ·rcases g.cons with g| ⟨R,rfl,rfl⟩
  ·have Z:=g.le h.xi
   exact h.af k Sk g (fun d he=>hc d (bL0 _ he)) j y (aj (fun R=>hc en (by simp) (by rw[hw];exact R) (by omega)) j y hj)
  ·grind
 ·rcases bI9.1 he with rfl|he
  ·omega
  ·exact Nat.lt_succ_of_lt (h.xi e he)
 ·intro e he   W hk k Sk   g
  rcases bI9.1 he with rfl|he
  ·obtain ⟨h1, h2, h3, h4,  K, h6⟩ := hr   W hk
   have ao:=ai hk
   rcases g.cons with g| ⟨hc,_⟩
   ·have    T : ∀   d ∈ es, V9 e.pre en.r   d = true := bI1.1 h6
    by_cases c1:∃y∈esX,isW y=true/\k<=y.i/\e.pre.testBit y.i=true
    ·obtain⟨y,hy,c2,c3,c4⟩:=c1
     exact .inr (.inl (aE6 (bL0 _ hy) c2 (.inr ⟨c3,c4⟩)))
    ·have     B : ∀   d ∈ es,   d.w = true → k ≤   d.i → e.pre.testBit   d.i = false := by
      intro d he' ae Z;obtain⟨y,hy,d1,d2,d3⟩:=h.wn d he' ae;cases ht:e.pre.testBit d.i with
      |false=>rfl
      |true=>exact absurd ⟨y,hy,d1,by omega,by rw[<-d2];exact ht⟩ c1
     by_cases c2:∃y∈esX,isW y=true/\k<=y.i
     ·obtain⟨y,hy,d1,d2⟩:=c2
      obtain⟨d,e1,e2,e3,e4⟩:=h.wx y hy d1;have l1:=B d e1 e2 (by omega)
      have o1:=T d e1;unfold V9 at o1;rw[e2,bG8,l1,bG9]at o1;refine .inr (.inr ⟨e.r,?_,h1⟩);cases A:en.r with
      |free=>rw[A]at h4;exact h4 Sk
      |blk b=>
       rw[A]at h4;obtain⟨j,q,L,N⟩:=h4;obtain⟨x,hx⟩:=K b (.inl A);refine N Sk (h.ag k Sk g b x j q hx (by rw[<-hl b x hx];exact L) fun M V m2 m3=>?_)
       have O:=T M V;unfold V9 at O;rw[m2,bG8,B M V m2 m3,bG9,A]at O;simp only[bJ7]at O;exact F9 O
      |frz=>
       rw[A]at h4
       rcases h4 with h4| ⟨j,w,L,N⟩
       ·exact h4 Sk
       refine N Sk (h.af k Sk g (fun M V m2 m3=>?_) j w L)
       have O:=T M V;unfold V9 at O;rw[m2,bG8,B M V m2 m3,bG9,A]at O
       simpa using O
      |mlk t b=>
       rw[A]at h4;obtain⟨j,q,L,N⟩:=h4;obtain⟨x,hx⟩:=K b (.inr ⟨t,A⟩);refine N Sk (h.am t k Sk g b x j q hx (by rw[<-hl b x hx];exact L) fun M V m2 m3=>?_).symm
       have O:=T M V;unfold V9 at O;rw[m2,bG8,B M V m2 m3,bG9,A]at O;simp only[bM8,bJ7]at O;exact O.imp F9 id
      |bad=>rw[A]at o1;cases o1
     ·refine .inl ?_
      unfold own;rw[bI1];intro y hy;cases Y:isW y with
      |false=>rfl
      | true =>
       rcases bI9.1 hy with rfl|hy
       ·grind
       ·have hlt : y.i < k := by
         rcases Nat.lt_or_ge y.i k with hh|hh
         ·exact hh
         ·exact absurd ⟨y,hy,Y,hh⟩ c2
        have:=h.xi y hy;rw[bG8,bp8 hlt,bp8 (by omega)]
        rfl
   ·rw[ao]at hc;cases hc
  ·have  ap := h.xi e he
   rcases g.cons with g| ⟨R,rfl,rfl⟩
   ·exact(h.look e he W hk k Sk g).cons (by rw[xi];exact g.le h.xi) (by omega)
   ·by_cases c1 : ∃ y ∈ eX :: esX, isW y = true ∧ e.i < y.i ∧ y.pre.testBit e.i = true
    ·obtain⟨y,hy,c2,c3,c4⟩:=c1
     refine .inr (.inl (aE6 hy c2 (.inl ⟨?_,c4⟩)))
     rcases bI9.1 hy with rfl|hy
     ·omega
     ·have:=h.xi y hy;omega
    ·have     B : ∀ y ∈ en :: es, y.w = true → e.i < y.i → y.pre.testBit e.i = false := by
      intro d he' ae Z;obtain⟨y,hy,d1,d2,d3⟩:=wn d he' ae;cases ht:d.pre.testBit e.i with
      |false=>rfl
      |true=>exact absurd ⟨y,hy,d1,by omega,by rw[<-d3];exact ht⟩ c1
     obtain⟨h1,Q,h2,h3,h4,K,h6,aa⟩:=rd e (by simp[he]) W hk
     refine .inr (.inr ⟨e.r,?_,h1⟩);rw[ab];cases A:Q.r with
     |free=>rw[A]at K;exact K S'
     |blk b=>
      rw[A]at K;obtain⟨j,q,L,N⟩:=K;obtain⟨x,j',q',h9,G,H⟩:=h6 b A B;rw[L]at G;cases G;exact N S' H
     |mlk t b=>
      rw[A]at K;obtain⟨j,q,L,N⟩:=K;obtain⟨x,j',q',h9,G,H⟩:=aa t b A B;rw[L]at G;cases G;exact N S' H
     |frz=>
      rw[A]at K
      rcases K with K| ⟨j,y,L,N⟩
      ·exact K S'
      ·exact N S' (ak j y L)
     |bad=>
      have al:Q∈es:=by
       rcases bI9.1 h2 with rfl|hm
       ·omega
       ·exact hm
      have o1:=hf R;rw[bI1]at o1;have O:=o1 Q al;unfold Y6 at O;rw[h3,bG8,h4,<-hp,B en (by simp) (by rw[hw,R]) (by omega),bG9,A]at O
      cases O
 ·intro k Sk g b x j o hb J X
  rcases g.cons with g| ⟨R,rfl,rfl⟩
  ·have Z:=g.le h.xi
   have D:b∉en.keys:=nk b fun E=>X en (by simp) E (by omega)
   rw[hg b D]at hb;rw[hl b x hb]at J;rw[h.ag k Sk g b x j o hb J fun d V=>X d (by simp[V]),ad b x j o hb J D]
  ·rw[ab]
end
end Go.Sx
namespace Go.Sx
open Go.Xe
def tkl (pd:List Pd):List (Nat×Option p7):=pd.map fun p=>(p.b,some p.x)
def Y7 (s:SS)(pd:List Pd):SS:= {s with h:=tkl pd++s.h}
def aU1 (s:SS):SS:= {s with nx:=s.nx+1}
theorem Q4 {s:SS}{b:Nat}:∀ {pd:List Pd},(∀p∈pd,b≠p.b)->(Y7 s pd).get b=s.get b
 | [],_=>rfl
 |p::pd,h=>by
  have d:=Q4 (s:=s) (pd:=pd) fun q hq=>h q (bL0 _ hq)
  unfold SS.get Y7 tkl at d⊢;simp only[bK2,bL3,k9]
  grind
theorem aA4 {s : SS} {p : Pd} : ∀ {pd : List Pd}, p ∈ pd → pd.Pairwise (fun p q => p.b ≠ q.b) → (Y7 s pd).get p.b = some p.x
 | [],h,_=>by simp at h
 | q :: pd, h, hp => by
  rw[List.pairwise_cons]at hp
  by_cases e:q.b=p.b
  ·rcases bI9.1 h with rfl|h
   ·unfold SS.get Y7 tkl
    simp only[bK2,bL3,k9,bH3]
   ·grind
  ·have h' : p ∈ pd := by
    grind
   have d:=aA4 (s:=s) h' hp.2;unfold SS.get Y7 tkl at d⊢;simp only[bK2,bL3,k9]
   grind
section
variable {P :Program}{U:Nat->List Dat->Dat}{τ0:Tau}{F0:Nat->Option Blk}{s0:SS}{hp0:Hp}{n:Nat}
variable (P U) in
structure PDOK (s0:SS)(hp0:Hp)(i:Nat)(τ:Tau)(F:Nat->Option Blk)(s:SS)(esX:List Ent)(I:Nat)(p:Pd):Prop where
 lt:p.i<i
 un:I.testBit p.i=false
 g:s.get p.b=none
 lo:s0.nx<=p.b
 hi:p.b<s.nx
 t:τ p.b=some (some (hp0.nx+p.i,0))
 f:F (hp0.nx+p.i)=none
 u:∀c o,τ c=some (some (hp0.nx+p.i,o))->c=p.b
 e:∃e∈esX,e.i=p.i/\ ∃nw,e.nw=some nw/\BD P U τ F 0 p.x nw.blk
variable (P U) in
structure DA (τ0:Tau)(F0:Nat->Option Blk)(s0:SS)(hp0:Hp)(n i:Nat)(τ:Tau)(F:Nat->Option Blk)(s:SS)(S:Hp)(f:Fm)(tm:T Value)(pd:List Pd)(esX:List Ent)(I:Nat):Prop where
 sd:SD P U τ F s S
 td:TD P U τ F f tm
 ext:Ext τ0 F0 s0 hp0 τ F s S
 room:hp0.nx+n<=S.nx
 ib:∀j,i<=j->I.testBit j=false
 xd:esX.Pairwise (fun a b=>a.i≠b.i)
 pn:pd.Pairwise (fun p q=>p.b≠q.b)
 pds:∀p∈pd,PDOK P U s0 hp0 i τ F s esX I p
 cl:∀j,i<=j->j<n->(∀c o,τ c≠some (some (hp0.nx+j,o)))/\F (hp0.nx+j)=none
 tk:∀e∈esX,e.nw≠none->I.testBit e.i=false-> ∃p∈pd,p.i=e.i
variable {i :Nat}{τ:Tau}{F:Nat->Option Blk}{s:SS}{S:Hp}{f:Fm}{tm:T Value}{pd:List Pd}{esX:List Ent}{I:Nat}
variable {f':Fm}
theorem DA.fr (h:DA P U τ0 F0 s0 hp0 n i τ F s S f tm pd esX I)(hf:TD P U τ F f' tm):DA P U τ0 F0 s0 hp0 n i τ F s S f' tm pd esX I:= {h with td:=hf}
variable {eX:Ent}
theorem W0 (d:esX.Pairwise (fun a b=>a.i≠b.i))(g:∀e∈esX,e.i<i)(he:eX.i=i):(eX::esX).Pairwise (fun a b=>a.i≠b.i):=by
 rw[List.pairwise_cons];exact⟨fun a h=>by have:=g a h;omega,d⟩
variable {tm':T Value}
theorem DA.keep (h : DA P U τ0 F0 s0 hp0 n i τ F s S f tm pd esX I) (  A : ∀ e ∈ esX, e.i < i) {s' : SS}    (  w : SD P U τ F s' S) (  y : TD P U τ F f' tm') (hh : s'.h = s.h) (hn : s'.nx = s.nx)
  (d:Ext τ F s S τ F s' S) (he:eX.i=i) (E:eX.nw=none):DA P U τ0 F0 s0 hp0 n (i+1) τ F s' S f' tm' pd (eX::esX) I:=by
 have D:∀b,s'.get b=s.get b:=fun b=>by unfold SS.get;rw[hh]
 refine⟨w,y,h.ext.trans d,h.room,fun j hj=>h.ib j (by omega),W0 h.xd A he,h.pn,fun p hp=>?_,fun j hj=>h.cl j (by omega),fun e hm r=>?_⟩
 ·have k:=h.pds p hp
  obtain⟨e,B,C⟩:=k.e;exact⟨by have:=k.lt;omega,k.un,by rw[D];exact k.g,k.lo,by rw[hn];exact k.hi,k.t,k.f,k.u,⟨e,by simp[B],C⟩⟩
 ·rcases bI9.1 hm with rfl|hm
  ·grind
  ·exact h.tk e hm r
theorem DA.pend (h : DA P U τ0 F0 s0 hp0 n i τ F s S f tm pd esX I) (  L : ∀ e ∈ esX, e.i < i) (  H : i < n)    {x : p7} {nw : Nw}
  (K:TD P U (put τ s.nx (some (hp0.nx+i,0))) F f' tm') (G:BD P U (put τ s.nx (some (hp0.nx+i,0))) F 0 x nw.blk) (he:eX.i=i) (Y:eX.nw=some nw):
  DA P U τ0 F0 s0 hp0 n (i+1) (put τ s.nx (some (hp0.nx+i,0))) F (aU1 s) S f' tm' (⟨s.nx,i,x⟩::pd) (eX::esX) I:=by
 have h0:τ s.nx=none:=h.sd.new _ (bH4 _);have d:=R3 (τ:=τ) (some (hp0.nx+i,0)) h0;obtain⟨c1,T⟩:=h.cl i (bH4 _) H;have J:=h.room;have old:∀b,b≠s.nx->put τ s.nx (some (hp0.nx+i,0)) b=τ b:=fun b hb=>q8 τ _ hb
 have w:∀b x,s.get b=some x->b≠s.nx:=fun b x hb=>by have:=h.sd.bound hb;omega
 refine⟨⟨fun b y hb=>?_,fun b c y z k o j q hb hc A D E=>?_,h.sd.frz,fun b j o hb=>?_,h.sd.flt,fun b hb=>?_,h.sd.fc,fun r hr=>(h.sd.fz r hr).mono d (Fle.refl F)⟩,K,?_,h.room,fun j hj=>h.ib j (by omega),W0 h.xd L he,?_,fun p hp=>?_,fun j hj C=>?_,fun e hm A X=>?_⟩
 ·have hb':s.get b=some y:=hb
  rcases h.sd.live b y hb' with⟨k,o,z,h1,h2,h3,h4⟩| ⟨h1,h2⟩
  ·exact .inl ⟨k,o,z,by rw[old b (w b y hb')];exact h1,h2,h3,h4.mono d (Fle.refl F)⟩
  ·grind
 ·have hb':s.get b=some y:=hb
  have B:s.get c=some z:=hc;rw[old b (w b y hb')]at D;rw[old c (w c z B)]at E;exact h.sd.inj b c y z k o j q hb' B A D E
 ·by_cases e:b=s.nx
  ·subst e
   rw[i6]at hb
   grind
  ·rw[old b e]at hb;exact h.sd.lt b j o hb
 ·have:s.nx+1<=b:=hb
  rw[old b (by omega)];exact h.sd.new b (by omega)
 ·obtain⟨l,O,Q,Z,a4,R⟩:=h.ext.hh
  refine⟨h.ext.t.trans d,h.ext.f,h.ext.nx,bK9 h.ext.snx (bM6 _),fun b hb=>?_,h.ext.low,⟨l,O,Q,fun b j o hb M=>?_,fun j y hj hy=>?_,R⟩,h.ext.hf⟩
  ·have:=h.ext.snx
   rw[old b (by omega)];exact h.ext.st b hb
  ·by_cases e:b=s.nx
   ·subst e
    rw[i6]at M
    grind
   ·grind
  ·grind
 ·rw[List.pairwise_cons]
  exact⟨fun p hp=>by have:=(h.pds p hp).hi;exact Nat.ne_of_gt this,h.pn⟩
 ·rcases bI9.1 hp with rfl|hp
  ·refine⟨bL2 i,h.ib i (bH4 _),?_,h.ext.snx,bL2 _,i6 _ _ _,T,fun c o hc=>?_,⟨eX,by simp,he,nw,Y,G⟩⟩
   ·cases hq:(aU1 s).get s.nx with
    |none=>rfl
    |some y=>exact absurd rfl (w s.nx y hq)
   ·grind
  ·have k:=h.pds p hp
   obtain⟨e,D,E,N,V,W⟩:=k.e;refine⟨by have:=k.lt;omega,k.un,k.g,k.lo,Nat.lt_succ_of_lt k.hi,d _ _ k.t,k.f,fun c o hc=>?_,⟨e,by simp[D],E,N,V,W.mono d (Fle.refl F)⟩⟩
   by_cases e:c=s.nx
   ·subst e
    rw[i6]at hc
    grind
   ·rw[old c e]at hc;exact k.u c o hc
 ·refine⟨fun c o hc=>?_,(h.cl j (by omega) C).2⟩
  by_cases e:c=s.nx
  ·subst e
   rw[i6]at hc
   grind
  ·rw[old c e]at hc;exact(h.cl j (by omega) C).1 c o hc
 ·rcases bI9.1 hm with rfl|hm
  ·simp_all
  ·obtain⟨p,hp,e⟩:=h.tk e hm A X
   grind
theorem DA.take (h : DA P U τ0 F0 s0 hp0 n i τ F s S f tm pd esX I) (m : Nat → Bool) (hm : ∀ e ∈ esX, e.nw ≠ none → (m e.i = true ↔ ∃ p ∈ pd, p.i = e.i)) :
  SD P U τ F (Y7 s pd) (takes hp0.nx m esX S)/\Ext τ0 F0 s0 hp0 τ F (Y7 s pd) (takes hp0.nx m esX S)/\(takes hp0.nx m esX S).nx=S.nx/\
  ∀j,(∀p∈pd,j≠hp0.nx+p.i)->(takes hp0.nx m esX S).m.get j=S.m.get j:=by
 have d:=al4 (nx0:=hp0.nx) (m:=m) esX S;have w:∀j,(∀p∈pd,j≠hp0.nx+p.i)->(takes hp0.nx m esX S).m.get j=S.m.get j:=fun j hj=>ap2 esX S fun e he B N=>by
  grind
 have E:∀p∈pd,∃y,(takes hp0.nx m esX S).m.get (hp0.nx+p.i)=some y/\BD P U τ F 0 p.x y:=fun p hp=>by
  obtain⟨e,C,A,nw,K,W⟩:=(h.pds p hp).e;have:=aI2 (nx0:=hp0.nx) (m:=m) esX S C K ((hm e C (by rw[K];simp)).2 ⟨p,hp,A.symm⟩) h.xd
  grind
 have inv:∀b y,(Y7 s pd).get b=some y->(∃p∈pd,b=p.b/\y=p.x)\/((∀p∈pd,b≠p.b)/\s.get b=some y):=by
  intro b y hb
  by_cases c:∃p∈pd,b=p.b
  ·obtain⟨p,hp,rfl⟩:=c
   rw[aA4 hp h.pn,bF1]at hb
   grind
  ·have hn:∀p∈pd,b≠p.b:=fun p hp e=>c ⟨p,hp,e⟩
   rw[Q4 hn]at hb
   grind
 have apart:∀b y j o,s.get b=some y->τ b=some (some (j,o))-> ∀p∈pd,j≠hp0.nx+p.i:=by
  intro b y j o hb G p hp e;subst e;have:=(h.pds p hp).u b o G;subst this;rw[(h.pds p hp).g]at hb;cases hb
 have H:∀j y,F j=some y-> ∀p∈pd,j≠hp0.nx+p.i:=fun j y hj p hp e=>by subst e;rw[(h.pds p hp).f]at hj;cases hj
 have J:=h.room;refine⟨⟨fun b y hb=>?_,fun b c y z k o j q hb hc B C A=>?_,fun j y hj=>by rw[w j (H j y hj)];exact h.sd.frz j y hj,fun b j o hb=>by rw[d];exact h.sd.lt b j o hb,fun j y hj=>by rw[d];exact h.sd.flt j y hj,h.sd.new,h.sd.fc,h.sd.fz⟩,?_,d,w⟩
 ·rcases inv b y hb with⟨p,hp,rfl,rfl⟩| ⟨hn,hb'⟩
  ·obtain⟨y,h1,h2⟩:=E p hp
   exact .inl ⟨_,0,y,(h.pds p hp).t,h1,(h.pds p hp).f,h2⟩
  ·rcases h.sd.live b y hb' with⟨k,o,z,h1,h2,h3,h4⟩|h1
   ·grind
   ·grind
 ·rcases inv b y hb with⟨p,hp,rfl,rfl⟩| ⟨hn,hb'⟩
  ·rw[(h.pds p hp).t]at C
   cases C
   rcases inv c z hc with⟨p2,r,rfl,rfl⟩| ⟨hn,D⟩
   ·rw[(h.pds p2 r).t]at A
    cases A;intro e;exact B ((h.pds p2 r).u _ 0 (by rw[(h.pds p hp).t,e]))
   ·grind
  ·rcases inv c z hc with⟨p2,r,rfl,rfl⟩| ⟨O,D⟩
   ·rw[(h.pds p2 r).t]at A
    cases A
    grind
   ·exact h.sd.inj b c y z k o j q hb' D B C A
 ·obtain⟨l,L,R,T,V,M⟩:=h.ext.hh
  have ge:∀j,j<hp0.nx-> ∀p∈pd,j≠hp0.nx+p.i:=fun j hj p hp=>by omega
  refine⟨h.ext.t,h.ext.f,by rw[d];exact h.ext.nx,h.ext.snx,h.ext.st,fun b y hb hlt=>?_,⟨tkl pd++l,by show tkl pd++s.h=_;rw[L,bG5],fun j hj Q=>?_,fun b j o hb G=>?_,fun j y hj hy=>?_,fun hp=>M fun p h=>hp p (bN6 _ h)⟩,h.ext.hf⟩
  ·rcases inv b y hb with⟨p,hp,rfl,rfl⟩| ⟨hn,hb'⟩
   ·exact absurd hlt (Nat.not_lt.2 (h.pds p hp).lo)
   ·exact h.ext.low b y hb' hlt
  ·grind
  ·grind
  ·grind
theorem DA.write (h : DA P U τ0 F0 s0 hp0 n i τ F s S f tm pd esX I) (  E : ∀ e ∈ esX, e.i < i) {pre : Nat} (   r : pre < 2 ^ i) (  K : ∀ p ∈ pd, pre.testBit p.i = true)
  {s1 s':SS} {S1 S':Hp} {τ':Tau} {F':Nat->Option Blk} (J:S1.nx=S.nx) (D:Ext τ0 F0 s0 hp0 τ F s1 S1) (d:Ext τ F s1 S1 τ' F' s' S')
  (B:SD P U τ' F' s' S') (C:TD P U τ' F' f' tm') (he:eX.i=i) (M:eX.nw=none):DA P U τ0 F0 s0 hp0 n (i+1) τ' F' s' S' f' tm' [] (eX::esX) (I|||pre):=by
 have A:=h.room;have cl:∀j,i+1<=j->j<n-> ∀c o,τ' c≠some (some (hp0.nx+j,o)):=by
  intro j hj g c o hc;have old:=(h.cl j (by omega) g).1
  by_cases hlt:c<s1.nx
  ·rw[d.st c hlt]at hc;exact old c o hc
  ·rcases d.fresh c _ o (bM9 hlt) hc with h1| ⟨b0,x,o0,h1,h2⟩
   ·omega
   ·grind
 refine⟨B,C,D.trans d,by have:=d.nx;omega,fun j hj=>?_,W0 h.xd E he,.nil,fun p hp=>by simp at hp,fun j hj g=>⟨cl j hj g,?_⟩,fun e hm w G=>?_⟩
 ·rw[Nat.testBit_or,h.ib j (by omega),Bool.false_or]
  exact Nat.testBit_lt_two_pow (bK4 r (Nat.pow_le_pow_right (by omega) (by omega)))
 ·cases hq:F' (hp0.nx+j)with
  |none=>rfl
  |some y=>
   obtain⟨l,_,_,_,H,_⟩:=d.hh
   rcases H _ y (by omega) hq with h1| ⟨b,o,h1,_⟩
   ·rw[(h.cl j (by omega) g).2]at h1;cases h1
   ·grind
 ·rcases bI9.1 hm with rfl|hm
  ·grind
  ·rw[Nat.testBit_or,Bool.or_eq_false_iff]at G
   obtain⟨p,hp,L⟩:=h.tk e hm w G.1
   grind
end
end Go.Sx
