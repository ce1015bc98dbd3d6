/- The symbolic engine, parts 13, 14, 15, 16, 17, 18, 19, 20, 21, 22.
  Conditions: none. -/
import Derived.Test.YtcjhhnoaoldcmaaSm1
set_option linter.unusedSimpArgs false
set_option linter.unusedVariables false
namespace Go.Sx
open Go.Xe
inductive Src where
 |lit (l:List SV)
 |rows (L:E)
def Src.cnt (size:Nat):Src->E
 | .lit l=>.int (l.length/size:Nat)
 | .rows L=>i9 L
def Src.blk (e size:Nat):Src->n5
 | .lit l=>.cells l e size
 | .rows L=>.rows L e size (.int 0)
def Src.one :Src->Bool
 | .lit l=>l.all ax7
 | .rows _=>true
section
variable (P :Program)(U:Nat->List Dat->Dat)
def bm6 (L off len:E):M Src:=a7 (i3 U (k9 (l6 (i9 L) (l9 off len)))) fun _=>a7 (X9 U L off len) fun c=>b9 (.rows c)
def ssrc (e size : Nat) (x : SV) : M Src :=
 match x with
 | .nils=>b9 (.lit [])
 | .sl b z off len _ => i7 fun s => match s.get b with
  | some (.cells l e' z') => bif Nat.beq e e' && Nat.beq z size && Nat.beq z z' then
    (match off,len with
    | .int o,.int n=>bif decide (0<=o)&&decide (0<=n)&&Nat.ble ((o.toNat+n.toNat)*z) l.length then b9 (.lit ((l.drop (o.toNat*z)).take (n.toNat*z)))else a6 "elements: beyond"
    |off,len=>match ay3 P e z l with
     |some L=>bm6 U L off len
     |none=>a6 "elements: rows")
   else a6 "elements: type"
  |some (.rows L e' z' _)=>bif Nat.beq e e'&&Nat.beq z size&&Nat.beq z z' then bm6 U L off len else a6 "elements: type"
  |_=>a6 "elements: no block"
 | .lst e' L _=>bif Nat.beq e e'&&Nat.beq size (kf P e).length then b9 (.rows (aa3 L))else a6 "elements: type"
 |_=>a6 "elements: value"
def srcE (e size:Nat)(x:Src):M E:=
 match x with
 | .rows L=>b9 L
 | .lit []=>b9 (.op .nil [])
 | .lit l=>bif Nat.beq size (kf P e).length&&Nat.beq (l.length/size*size) l.length then a7 (aE6 (aQ6 P U 20) (kf P e) 0 l) fun es=>b9 (.op (.rows (l.length/size) size) es)else a6 "elements: kinds"
end
section
variable {P :Program}{U:Nat->List Dat->Dat}{τ:Tau}{F:Nat->Option Blk}{s:SS}{hp:Hp}
variable (P U) in
def j6 (τ : Tau) (F : Nat → Option Blk) (e size : Nat) : Src → List Value → Prop
 | .lit l,vs=>VDL P U τ F l vs
 | .rows L, vs => size = (kf P e).length ∧ vs.length = (L.toR U).length * size ∧ (∀ r ∈ L.toR U, r.length = size) ∧
   ∀(r k:Nat) (row:List Dat) (d:Dat),(L.toR U)[r]? =some row->row[k]? =some d-> ∃x,vs[r*size+k]? =some x/\ ∀kd,(kf P e)[k]? =some kd->PV P F kd x d
variable {e size:Nat}{x:Src}{vs:List Value}
theorem j6.mono {τ':Tau}{F':Nat->Option Blk}(ht:Tle τ τ')(hf:Fle F F')(h:j6 P U τ F e size x vs):j6 P U τ' F' e size x vs:=by
 cases x with
 |lit l=>exact VDL.mono ht hf h
 |rows L=>
  obtain⟨h1,h2,h3,h4⟩:=h;exact⟨h1,h2,h3,fun r k row d hr hk=>let⟨x,k1,k2⟩:=h4 r k row d hr hk;⟨x,k1,fun kd b=>(k2 kd b).mono P hf⟩⟩
variable {v:Value}
theorem PV.oneCell {k:Kd}{d:Dat}(h:PV P F k v d):v.oneCell'=true:=by cases h<;>rfl
theorem j6.ones (h:j6 P U τ F e size x vs)(h1:x.one=true):vs.all Value.oneCell'=true:=by
 cases x with
 |lit l=>exact aP2 h h1
 |rows L=>
  obtain⟨B,C,w,A⟩:=h;rw[bD1];intro y hy;obtain⟨j,hj⟩:=bK1 hy;have d:j<(L.toR U).length*size:=by grind
  have hs:0<size:=by grind
  have hr:j/size<(L.toR U).length:=(Nat.div_lt_iff_lt_mul hs).2 d;have b:(L.toR U)[j/size]? =some (L.toR U)[j/size]:=by simp[hr]
  have hl:=w _ (List.getElem_mem hr);have hk:j % size<size:=Nat.mod_lt _ hs;have hd:(L.toR U)[j/size][j % size]? =some ((L.toR U)[j/size][j % size]'(by omega)):=by grind
  obtain⟨x,k1,k2⟩:=A _ _ _ _ b hd;have r:j/size*size+j % size=j:=by rw[Nat.mul_comm];exact Nat.div_add_mod j size
  rw[r,hj,bA1]at k1;subst k1;have g:(kf P e)[j % size]? =some ((kf P e)[j % size]'(by omega)):=by grind
  exact(k2 _ g).oneCell
variable {n o:Nat}{cs:T Value}
theorem aD2 (h:j6 P U τ F e size x vs)(b:∀(j:Nat) y,vs[j]? =some y->cs.get (o+j)=some y)(hn:o+vs.length<=n):BD P U τ F o (x.blk e size) (.cells cs n e size):=by
 cases x with
 |lit l=>
  refine⟨cs,n,rfl,by rw[h.1];exact hn,fun j a C=>?_⟩
  obtain⟨y,h1,h2⟩:=VDL.get h C;exact⟨y,b j y h1,h2⟩
 |rows L=>
  obtain⟨g,w,A,B⟩:=h;refine⟨cs,n,rfl,⟨by rw[<-w];exact hn,g,A,fun r k row d hr hk=>?_⟩,by show o+(0:Int).toNat*size<=n;simp;omega⟩
  obtain⟨y,k1,k2⟩:=B r k row d hr hk;exact⟨y,by rw[<-b _ _ k1];congr 1;omega,k2⟩
theorem j6.app {A B:E}{b g:List Value}(y:j6 P U τ F e size (.rows A) b)(hb:j6 P U τ F e size (.rows B) g):j6 P U τ F e size (.rows (N1 A B)) (b++g):=by
 obtain⟨a1,a2,a3,a4⟩:=y;obtain⟨C,h,D,w⟩:=hb;refine⟨a1,by rw[T4];simp[a2,h,bD7],fun r hr=>?_,fun r k row d hr hk=>?_⟩
 ·rw[T4]at hr
  grind
 ·rw[T4]at hr
  by_cases hlt:r<(A.toR U).length
  ·grind
  ·rw[bA9 (by omega)]at hr
   obtain⟨x,k1,k2⟩:=w _ k row d hr hk;refine⟨x,?_,k2⟩;have:b.length<=r*size+k:=by rw[a2];have:=bB4 size (show(A.toR U).length<=r by omega);omega
   rw[bA9 this,<-k1,a2]
   congr 1
   rw[Nat.sub_mul];have:=bB4 size (show(A.toR U).length<=r by omega);omega
variable {z:Nat}
theorem K7   {rows : Rows} (hr : j7 P F e z o n cs rows) {off len : Int} (h0 : 0 ≤ off) (h1 : 0 ≤ len) (h2 : off + len ≤ rows.length) {L : E} ( D : L.toR U = part rows off len) :
  ∃vs,f9 cs (o+off.toNat*z) (len.toNat*z)=some vs/\o+off.toNat*z+len.toNat*z<=n/\j6 P U τ F e z (.rows L) vs/\vs.length=len.toNat*z:=by
 obtain⟨T,K,C,M⟩:=hr;have hl:=L9 h0 h1 h2;obtain⟨vs,v1,J,N⟩:=C0 (c:=cs) (R:=fun j x=>∀(r k:Nat) (row:List Dat) (d:Dat),j=r*z+k->(part rows off len)[r]? =some row->row[k]? =some d-> ∀kd,(kf P e)[k]? =some kd->PV P F kd x d) (len.toNat*z) (o+off.toNat*z) 0 fun j hj=>by
  have hz:0<z:=by
   rcases Nat.eq_zero_or_pos z with h|h
   ·rw[h]at hj;omega
   ·exact h
  have hr:j/z<(part rows off len).length:=by rw[hl];exact(Nat.div_lt_iff_lt_mul hz).2 hj
  have y:(part rows off len)[j/z]? =some (part rows off len)[j/z]:=by simp[hr]
  have w:=T5 y;have B:=C _ (bB1 w);have hk:j % z<z:=Nat.mod_lt _ hz;have hd:(part rows off len)[j/z][j % z]? =some ((part rows off len)[j/z][j % z]'(by omega)):=by simp[B,hk]
  obtain⟨x,k1,k2⟩:=M _ _ _ _ w hd;have O:j/z*z+j % z=j:=by rw[Nat.mul_comm];exact Nat.div_add_mod j z
  refine⟨x,by rw[<-k1];congr 1;rw[bD7];omega,fun r k row d Q b g kd G=>?_⟩
  have A:k<z:=by
   have:=C _ (bB1 (T5 b));have:=(bA4.1 g).1;omega
  obtain⟨rfl,rfl⟩:=aM2 hk A (show j/z*z+j % z=r*z+k by omega)
  rw[y,bA1]at b;subst b;rw[hd,bA1]at g;subst g;exact k2 kd G
 refine⟨vs,v1,?_,⟨K,by rw[J,D,hl],fun r h=>?_,fun r k row d b g=>?_⟩,J⟩
 ·have:off.toNat*z+len.toNat*z<=rows.length*z:=by rw[<-bD7];exact bB4 z (by omega)
  omega
 ·rw[D]at h;exact C r (List.mem_of_mem_drop (List.mem_of_mem_take h))
 ·rw[D]at b
  have A:k<z:=by
   have:=C _ (bB1 (T5 b));have:=(bA4.1 g).1;omega
  have H:r<len.toNat:=by have:=(bA4.1 b).1;omega
  have hj:r*z+k<vs.length:=by
   rw[J];have:r*z+z<=len.toNat*z:=by rw[<-bG7];exact bB4 z H
   omega
  exact⟨vs[r*z+k]'hj,bB3 hj,N (r*z+k) _ (bB3 hj) r k row d (by omega) b g⟩
variable (P U) in
def bx0 (hp:Hp)(e size:Nat)(v:Value)(x:Src)(τ:Tau)(F:Nat->Option Blk):Prop:=∃n vs,M9 hp size v=some (n,vs)/\j6 P U τ F e size x vs/\vs.length=n*size/\(x.cnt size).toI U=n
theorem W7 {i a len c k:Nat}{y:Blk}(b:hp.m.get i=some y)(hr:rdC y=some (cs,k,z))(hk:a+len*size<=k)(hl:f9 cs a (len*size)=some vs):M9 hp size (.slice (some ⟨i,a,none⟩) len c)=some (len,vs):=by
 simp only[M9,b,hr,bA8 hk,bB8,hl]
theorem bb1 {L off len:E}{i c k e' w:Nat}(d:hp.m.get i=some (.cells cs k e' w))(hk:n<=k)(hr:j7 P F e z o n cs (L.toR U))(h0:0<=off.toI U)(h1:0<=len.toI U):OKp U (bm6 U L off len) s fun x=>bx0 P U hp e z (.slice (some ⟨i,o+off.toN U*z,none⟩) (len.toN U) c) x τ F:=by
 unfold bm6;refine OKp.need.bind fun _ _ _ _ p1=>t6.bind fun c' _ _ _ hc=>OKp.ret ?_
 have p1:=n9 p1;rw[f7,c9]at p1;have b:c'.toR U=part (L.toR U) (off.toI U) (len.toI U):=by show(c'.den U).rows=_;rw[hc];rfl
 obtain⟨vs,v1,g,h,r⟩:=K7 (τ:=τ) hr h0 h1 p1 b;refine⟨len.toN U,vs,W7 d rfl (bF8 g hk) v1,h,r,?_⟩;show(i9 c').toI U=_;rw[c9,b,L9 h0 h1 p1]
theorem bw1 (Z:1<=size){a:SV}(H:VD P U τ F a v)(hs:SD P U τ F s hp):OKp U (ssrc P U e size a) s fun x=>bx0 P U hp e size v x τ F:=by
 unfold ssrc;split
 ·cases H
  exact OKp.ret ⟨0,[],by simp[M9],VDL.nil,by simp,by show((0/size:Nat):Int)=0;simp⟩
 ·rename_i b z off len cap
  refine OKp.read ?_;split
  ·rename_i l e' O hb
   cases hq:Nat.beq e e'&&Nat.beq z size&&Nat.beq z O with
   |false=>exact OKp.fail
   |true=>
    simp only[bB8];simp only[bA2,bE1]at hq;obtain⟨⟨rfl,rfl⟩,rfl⟩:=hq
    rcases hs.live b _ hb with⟨i,o,y,k1,k2,kF,cs,n,rfl,K,M⟩| ⟨k1,L',e',O,aa,k2,k3,K,M⟩
    ·cases H with
     |sl _ _ _ _ _ i' o' c g h0 h1 hc=>
      rw[k1]at g;simp only[bA1,bA3]at g;obtain⟨rfl,rfl⟩:=g;split
      ·rename_i B A
       cases hq:decide (0<=B)&&decide (0<=A)&&Nat.ble ((B.toNat+A.toNat)*z) l.length with
       |false=>exact OKp.fail
       |true=>
        simp only[bB8];simp only[bA2,bC2,bF4]at hq;obtain⟨⟨q1,q2⟩,q3⟩:=hq;rw[bD7]at q3;have e1:(E.int B).toN U=B.toNat:=rfl;have e2:(E.int A).toN U=A.toNat:=rfl;obtain⟨vs,v1,N,v3⟩:=C0 (c:=cs) (R:=fun j x=>∀a,((l.drop (B.toNat*z)).take (A.toNat*z))[j]? =some a->VD P U τ F a x) (A.toNat*z) (o+B.toNat*z) 0 fun j hj=>by
         have V:B.toNat*z+j<l.length:=by omega
         obtain⟨x,w1,w2⟩:=M (B.toNat*z+j) _ (bB3 V)
         grind
        have G:((l.drop (B.toNat*z)).take (A.toNat*z)).length=A.toNat*z:=by grind
        refine OKp.ret ⟨A.toNat,vs,W7 k2 rfl (by show o+B.toNat*z+A.toNat*z<=n;omega) v1,⟨by rw[G,N],fun j a x H hx=>v3 j x hx a (by rw[bD3];exact H)⟩,N,?_⟩
        show((((l.drop (B.toNat*z)).take (A.toNat*z)).length/z:Nat):Int)=_;rw[G,Nat.mul_div_cancel _ Z]
      ·split
       ·rename_i L hL
        exact bb1 k2 (bC4 n) (an9 hL K M) h0 h1
       ·exact OKp.fail
     |sl0 _ _ _ _ _ g h0 h1 hc=>grind
    ·cases k2
  ·rename_i L e' O ph hb
   cases hq:Nat.beq e e'&&Nat.beq z size&&Nat.beq z O with
   |false=>exact OKp.fail
   |true=>
    simp only[bB8];simp only[bA2,bE1]at hq;obtain⟨⟨rfl,rfl⟩,rfl⟩:=hq
    rcases hs.live b _ hb with⟨i,o,y,k1,k2,kF,cs,n,rfl,K,M⟩| ⟨k1,L',e',O,aa,k2,k3,K,M⟩
    ·cases H with
     |sl _ _ _ _ _ i' o' c g h0 h1 hc=>
      rw[k1]at g;simp only[bA1,bA3]at g;obtain⟨rfl,rfl⟩:=g;exact bb1 k2 (bC4 n) K h0 h1
     |sl0 _ _ _ _ _ g h0 h1 hc=>grind
    ·cases H with
     |sl _ _ _ _ _ i' o' c g h0 h1 hc=>grind
     |sl0 _ _ _ _ _ g h0 h1 hc=>
      simp only[n5.rows.injEq]at k2;obtain⟨rfl,rfl,rfl,rfl⟩:=k2;unfold bm6;refine OKp.need.bind fun _ _ _ _ p1=>t6.bind fun c' _ _ _ Q=>OKp.ret ?_
      have D:c'.toR U=[]:=by
       show(c'.den U).rows=_;rw[Q,k3];simp[part,Dat.rows]
      refine⟨0,[],by simp[M9],⟨K,by rw[D];simp,fun r h=>(by rw[D]at h;cases h),fun r k row d h=>by rw[D]at h;simp at h⟩,by simp,?_⟩
      show(i9 c').toI U=0;rw[c9,D];rfl
  ·exact OKp.fail
 ·rename_i e' L clip
  cases hq:Nat.beq e e'&&Nat.beq size (kf P e).length with
  |false=>exact OKp.fail
  |true=>
   simp only[bB8];simp only[bA2,bE1]at hq;obtain⟨rfl,hk⟩:=hq;cases H with
   |lst _ _ _ _ hv hc=>
    refine OKp.ret ?_;have C:(aa3 L).toR U=L.toR U:=by show((aa3 L).den U).rows=_;rw[aj6];rfl
    have w:((Src.rows (aa3 L)).cnt size).toI U=((L.toR U).length:Int):=by show(i9 (aa3 L)).toI U=_;rw[c9,C]
    generalize Y:L.toR U=rows at hv C w;cases hv with
    |nils=>exact⟨0,[],by simp[M9],⟨hk,by rw[C];simp,fun r h=>(by rw[C]at h;cases h),fun r k row d h=>by rw[C]at h;simp at h⟩,by simp,by rw[w];rfl⟩
    |vague=>exact⟨0,[],by simp[M9],⟨hk,by rw[C];simp,fun r h=>(by rw[C]at h;cases h),fun r k row d h=>by rw[C]at h;simp at h⟩,by simp,by rw[w];rfl⟩
    |sl _ i o c b cs n z _ x hF hb ab hn hz hr hx W=>
     have hg:=hs.frz i b hF;have X:j7 P F e z o n cs rows:=⟨hn,hz,hr,fun r k row d h1 h2=>⟨x r k,hx r k row d h1 h2,fun kd T=>W r k row kd d h1 h2 T⟩⟩
     have J:part rows 0 rows.length=rows:=by simp[part]
     obtain⟨vs,v1,N,v3,v4⟩:=K7 (U:=U) (τ:=τ) X (off:=0) (len:=rows.length) (bG4 0) (by omega) (by omega) (L:=aa3 L) (by rw[C,J])
     have e1:(0:Int).toNat*z=0:=by simp
     rw[e1,bG6,bE2]at v1 N;rw[bE2]at v4;have ez:z=size:=by omega
     subst ez;exact⟨rows.length,vs,W7 hg hb N v1,v3,v4,w⟩
 ·exact OKp.fail
theorem bd6 (h:j6 P U τ F e size x vs)(hs:SD P U τ F s hp):OKh P U (srcE P U e size x) τ F s hp fun L τ' F' hp'=>τ'=τ/\hp'=hp/\(size=(kf P e).length->j6 P U τ' F' e size (.rows L) vs):=by
 unfold srcE;split
 ·exact OKh.ret ⟨rfl,rfl,fun _=>h⟩
 ·have H:vs=[]:=bA7 h.1.symm
  subst H;exact OKh.ret ⟨rfl,rfl,fun hk=>⟨hk,by show 0=([]:Rows).length*size;simp,fun r h=>(by cases h),fun r k row d h=>by
   have:([]:Rows)[r]? =some row:=h;simp at this⟩⟩
 ·rename_i l _
  cases hq:Nat.beq size (kf P e).length&&Nat.beq (l.length/size*size) l.length with
  |false=>exact OKh.fail
  |true=>
   simp only[bB8];simp only[bA2,bE1]at hq;obtain⟨q1,q2⟩:=hq;refine(aj4 (ks:=kf P e) (j:=0) (fun k a v τ F s hp=>ad0 20 k a v τ F s hp) h hs).bind fun es τ1 F1 s1 hp1 ex hs1 ⟨B,C,A,D⟩=>OKh.ret ⟨B,C,fun hk=>?_⟩
   have w:vs.length=es.length:=by rw[A];exact h.1.symm
   have hr:j7 P F1 e size 0 vs.length (fill .e 0 vs) ((E.op (.rows (l.length/size) size) es).toR U):=R3 hk (by rw[A,q2]) (by rw[w];omega) fun j d hd=>by
    have hj:j<vs.length:=by grind
    have g:vs[j]? =some vs[j]:=by simp[hj]
    obtain⟨kd,K,M⟩:=D j _ _ g hd;refine⟨vs[j],by rw[bD3];exact G1 vs j _ g,fun J G=>?_⟩
    grind
   have b:((E.op (.rows (l.length/size) size) es).toR U).length=l.length/size:=by
    show(chunk size (l.length/size) _).length=_;rw[D5]
   refine⟨hk,by rw[b,q2];exact h.1.symm,hr.2.2.1,fun r k row d h1 h2=>?_⟩
   obtain⟨y,k1,k2⟩:=hr.2.2.2 r k row d h1 h2;refine⟨y,?_,k2⟩;rw[bD3,j3]at k1;split at k1
   ·grind
   ·rw[T.get_e]at k1;cases k1
end
end Go.Sx
namespace Go.Sx
open Go.Xe
section
variable (P :Program)(U:Nat->List Dat->Dat)
def N7 (e size:Nat)(x:Src)(len:E):M SV:=a7 (V8 (x.blk e size)) fun b=>b9 (.sl b size (.int 0) len .ge)
def smove (e size b:Nat)(x:Src)(len:E)(cp:Cp):M SV:=fun s=>.ret (.sl s.nx size (.int 0) len cp,as7 (s.set b none) (x.blk e size))
def ak3 (e size b : Nat) (off len : E) (cap : Cp) (src : Src) : M SV :=
 a7 (srcE P U e size src) fun Ln=>i7 fun s=>match s.get b with
 | some (.rows L e' z' ph) => bif Nat.beq e e' && Nat.beq size z' && Nat.beq size (kf P e).length then
   a7 (i3 U (k9 (l6 (i9 L) (l9 off len)))) fun _=>a7 (i3 U (l6 (l9 len (i9 Ln)) (.int 67108865))) fun _=>
   match cap with
   | .ge=>a7 (X9 U L off len) fun Lo=>smove e size b (.rows (N1 Lo Ln)) (l9 len (i9 Ln)) .ge
   | .un=>a7 (X9 U L off len) fun Lo=>smove e size b (.rows (N1 Lo Ln)) (l9 len (i9 Ln)) .un
   | .ex c => a7 (aa4 U (l6 c (l9 len (i9 Ln)))) fun t =>
     bif t then a7 (X9 U L off len) fun Lo=>N7 e size (.rows (N1 Lo Ln)) (l9 len (i9 Ln))
     else a7 (i3 U (k9 (l6 ph (l9 off c)))) fun _=>a7 (Y9 b (some (.rows (.op .over [L,l9 off len,Ln]) e z' ph))) fun _=>b9 (.sl b size off (l9 len (i9 Ln)) (.ex c))
  else a6 "append: type"
 |_=>a6 "append: block"
def sapp (e size : Nat) (s : SV) (src : Src) : M SV :=
 match s with
 | .nils=>match src with
  | .lit []=>b9 .nils
  |src=>a7 (i3 U (l6 (src.cnt size) (.int 67108865))) fun _=>N7 e size src (src.cnt size)
 | .sl b z off len cap => bif Nat.beq z size && src.one then i7 fun st => match st.get b with
   | some (.cells l e' z') => match off, len, src with
    | .int o, .int n, .lit m => bif Nat.beq e e' && Nat.beq z z' && decide (0 ≤ o) && decide (0 ≤ n) && Nat.ble ((o.toNat + n.toNat) * z) l.length && Nat.ble (n.toNat + m.length / size) 67108864 && Nat.beq (m.length / size * size) m.length then
      match cap with
      | .ge=>smove e size b (.lit ((l.drop (o.toNat*z)).take (n.toNat*z)++m)) (.int (n.toNat+m.length/size:Nat)) .ge
      | .un=>a6 "append: cells"
      | .ex c => a7 (aa4 U (l6 c (.int (n.toNat + m.length / size : Nat)))) fun t =>
        bif t then N7 e size (.lit ((l.drop (o.toNat*z)).take (n.toNat*z)++m)) (.int (n.toNat+m.length/size:Nat))
        else bif Nat.ble ((o.toNat+n.toNat)*z+m.length) l.length then a7 (Y9 b (some (.cells (H7 l ((o.toNat+n.toNat)*z) m) e' z'))) fun _=>b9 (.sl b z (.int o) (.int (n.toNat+m.length/size:Nat)) (.ex c))else a6 "append: room"
     else a6 "append: literal"
    |off,len,src=>a7 (aO7 P b) fun _=>ak3 P U e size b off len cap src
   |some (.rows _ _ _ _)=>ak3 P U e size b off len cap src
   |_=>a6 "append: no block"
  else a6 "append: size"
 | .lst e' L true => bif Nat.beq e e' && Nat.beq size (kf P e).length && src.one then
   a7 (aa4 U (A3 (src.cnt size) (.int 0))) fun t=>bif t then a7 (i3 U (l6 (i9 L) (.int 67108865))) fun _=>b9 (.lst e' L true)else
    a7 (srcE P U e size src) fun Ln=>a7 (i3 U (l6 (l9 (i9 L) (i9 Ln)) (.int 67108865))) fun _=>N7 e size (.rows (N1 (aa3 L) Ln)) (l9 (i9 L) (i9 Ln))
  else a6 "append: type"
 |_=>a6 "append: value"
def bc4 (t u:TypeId)(s x:SV):M SV:=
 match P.underlying t,P.underlying u with
 |some (.slice e),some (.slice _)=>match P.info? e with
  |none=>a6 "append: type"
  |some ie=>match ie.zero with
   |none=>a6 "append: zero"
   |some z=>bif Nat.beq z.cells.toList.length ie.size&&Nat.ble ie.bytes 1048576&&Nat.ble 1 ie.size then a7 (ssrc P U e ie.size x) fun src=>sapp P U e ie.size s src else a6 "append: size"
 |_,_=>a6 "append: type"
end
section
variable {P :Program}{U:Nat->List Dat->Dat}{τ:Tau}{F:Nat->Option Blk}{s:SS}{hp:Hp}
noncomputable def P6 (hp : Hp) (e size n : Nat) (news : List Value) (s : Value) : Option (Value × Hp) :=
 match s with
 | .slice none sLen sCap => bif Nat.beq sLen 0 && Nat.beq sCap 0 && Nat.ble n 67108864 then
   bif Nat.beq n 0 then some (.slice none 0 0,hp)
   else some (.slice (some ⟨hp.nx,0,none⟩) n (g9 n 0),hp.new news e size)
  else none
 | .slice (some ⟨i,o,none⟩) sLen sCap=>match hp.m.get i with
  |some (.cells c k e' z')=>
   bif Nat.ble (sLen+n) 67108864&&news.all Value.oneCell' then
    bif Nat.beq n 0 then
     bif Nat.ble sLen sCap then some (.slice (some ⟨i,o,none⟩) sLen sCap,hp)else none
    else
     bif Nat.ble unk sCap then
      bif Nat.ble 1 (B4 sCap)&&Nat.ble (B4 sCap) (sLen+n)then
       bif Nat.ble (o+sLen*size) k then
        match f9 c o (sLen*size)with
        |none=>none
        |some olds=>some (.slice (some ⟨hp.nx,0,none⟩) (sLen+n) (g9 (sLen+n) 0),hp.new (olds++news) e size)
       else none
      else bif Nat.beq z' size&&Nat.beq e' e&&Nat.ble (o+sLen*size) k then
       bif Nat.ble (sLen+n) (G4 sCap)then
        some (.slice (some ⟨i,o,none⟩) (sLen+n) sCap,ap2 hp i c (Nat.max k (o+(sLen+n)*size)) e' z' (o+sLen*size) news)
       else
       match f9 c o (sLen*size)with
       |none=>none
       |some olds=>
        (bif Nat.beq o 0 then fill c (sLen*size) news else fill (fill .e 0 olds) (sLen*size) news).force fun ct=>
         some (.slice (some ⟨hp.nx,0,none⟩) (sLen+n) (g9 (sLen+n) 0),⟨(hp.m.set i none).set hp.nx (some (.cells ct ((sLen+n)*size) e' z')),hp.nx+1⟩)
      else none
     else bif Nat.ble (sLen+n) sCap then
      bif Nat.ble (o+(sLen+n)*size) k then
       some (.slice (some ⟨i,o,none⟩) (sLen+n) sCap,ap2 hp i c k e' z' (o+sLen*size) news)
      else none
     else
      bif Nat.ble (o+sLen*size) k then
       match f9 c o (sLen*size)with
       |none=>none
       |some olds=>some (.slice (some ⟨hp.nx,0,none⟩) (sLen+n) (g9 (sLen+n) 0),hp.new (olds++news) e size)
      else none
   else none
  |some (.ro c k _ _)=>
   bif Nat.ble (sLen+n) 67108864&&Nat.ble sLen sCap&& !Nat.ble unk sCap then
    bif Nat.beq n 0 then some (.slice (some ⟨i,o,none⟩) sLen sCap,hp)
    else bif Nat.ble (sLen+n) sCap then none
    else bif Nat.ble (o+sLen*size) k then
     match f9 c o (sLen*size)with
     |none=>none
     |some olds=>some (.slice (some ⟨hp.nx,0,none⟩) (sLen+n) (g9 (sLen+n) 0),hp.new (olds++news) e size)
    else none
   else none
  |_=>none
 |_=>none
variable {n:Nat}{news:List Value}
theorem aY9 {t u e  d : TypeId} {ie : TypeInfo} {z : Value} (ht : P.underlying t = some (.slice e)) ( g : P.underlying u = some (.slice  d)) (hi : P.info? e = some ie) (hz : ie.zero = some z) (hb : (Nat.beq z.cells.toList.length ie.size && Nat.ble ie.bytes 1048576) = true) { b xv : Value}  
  (hx:M9 hp ie.size xv=some (n,news)):ad7 P hp t u b xv=P6 hp e ie.size n news b:=by
 simp only[ad7,ht,g,hi,hz,hb,bB8,hx];rfl
variable (P U) in
def au7 (hp:Hp)(e size n:Nat)(news:List Value)(sv:Value)(c:SV)(τ:Tau)(F:Nat->Option Blk)(hp':Hp):Prop:=∃w,P6 hp e size n news sv=some (w,hp')/\VD P U τ F c w
theorem geN {len:E}(h:len.toI U=n)(hn:n<=67108864):aB7 U len .ge (g9 n 0):=⟨n,rfl,hn,by rw[h];exact Int.ofNat_le.2 hn⟩
theorem bt4 (z:Nat):0+(E.int 0).toN U*z=0:=by show 0+(0:Int).toNat*z=0;simp
theorem aK6 {len:E}(h:len.toI U=n):len.toN U=n:=by show(len.toI U).toNat=n;rw[h];exact bE2 n
variable {e size:Nat}
theorem D0  {x : Src} {vs : List Value} {len : E} (h : j6 P U τ F e size x vs) (   d : len.toI U = n) (hn : n ≤ 67108864) (hs : SD P U τ F s hp) :
  OKh P U (N7 e size x len) τ F s hp fun c τ' F' hp'=>hp'=hp.new vs e size/\VD P U τ' F' c (.slice (some ⟨hp.nx,0,none⟩) n (g9 n 0)):=by
 unfold N7;refine(OKh.alloc (y:= .cells (fill .e 0 vs) vs.length e size) hs fun τ' ht=>aD2 (h.mono ht (Fle.refl F)) (fun j y hy=>by rw[bD3];exact G1 vs j y hy) (by omega)).bind fun b τ' F' s' hp' _ g ⟨h1,h2,h3⟩=>OKh.ret ⟨h3,?_⟩
 subst h1;exact VD.sl' h2 (bG4 0) (by rw[d];omega) (geN d hn) (bt4 size).symm (aK6 d).symm
theorem OKh.smove {e size b i o j q n c : Nat} {x : n5} {x' : Src} {len : E} {cp : Cp} (hb : s.get b = some x) (ht : τ b = some (some (i, o))) {hp1 : Hp} (hn : hp.nx ≤ hp1.nx) (hk : ∀ k, k < hp.nx → k ≠ i → hp1.m.get k = hp.m.get k) (hj : j = i ∨ hp.nx ≤ j) (  g : j < hp1.nx)
  {y:Blk} (hi:hp1.m.get j=some y) (hd:∀τ',Tle τ τ'->BD P U τ' F q (x'.blk e size) y) (d:len.toI U=n) (hc:aB7 U len cp c) (hs:SD P U τ F s hp):
  OKh P U (smove e size b x' len cp) τ F s hp fun a τ' F' hp'=>hp'=hp1/\VD P U τ' F' a (.slice (some ⟨j,q,none⟩) n c):=by
 intro Q hq _;have h0:τ s.nx=none:=hs.new _ (bC4 _);obtain⟨h1,h2⟩:=hs.move (x':=x'.blk e size) (q:=q) hb ht hn hk hj g hi (hd _ (an7 _ h0));refine⟨_,_,hq,_,F,hp1,h1,h2,rfl,?_⟩;exact VD.sl' (j9 _ _ _) (bG4 0) (by rw[d];omega) hc (by show q=q+(0:Int).toNat*size;simp) (aK6 d).symm
variable {cs:T Value}{olds:List Value}
theorem U9 {a:Nat}(h:∀(j:Nat) y,olds[j]? =some y->cs.get (a+j)=some y)(j:Nat)(y:Value)(hy:(olds++news)[j]? =some y):(fill cs (a+olds.length) news).get (a+j)=some y:=by
 rw[j3]
 grind
variable {i k q sLen:Nat}{res:Src}
theorem aU3 {b o lo:Nat} {x : n5}   {len : E}  {cp : Cp} (  G : ∀ c, aB7 U len .ge c → aB7 U len cp c) (hb : s.get b = some x) (ht : τ b = some (some (i, o))) ( V : hp.m.get i = some (.cells cs k e size)) (hl : f9 cs q (sLen * size) = some olds) (hk : q + sLen * size ≤ k)
  (W:news.all Value.oneCell'=true) (O:news.length=n*size) (L:lo<=67108864) (Q:sLen+n<=67108864) (B:j6 P U τ F e size res (olds++news)) (d:len.toI U=((sLen+n:Nat):Int)) (hs:SD P U τ F s hp):
  OKh P U (smove e size b res len cp) τ F s hp (au7 P U hp e size n news (.slice (some ⟨i,q,none⟩) sLen (g9 lo 0))):=by
 have K:i<hp.nx:=hs.lt b i o ht;obtain⟨X,Y⟩:=u6 hl;have A:∀(j:Nat) y,olds[j]? =some y->cs.get (q+j)=some y:=fun j y hy=>by
  grind
 have hx:∀w hp1,P6 hp e size n news (.slice (some ⟨i,q,none⟩) sLen (g9 lo 0))=some (w,hp1)->(∀a τ' F' hp',Tle τ τ'->Fle F F'->hp'=hp1/\VD P U τ' F' a w->au7 P U hp e size n news (.slice (some ⟨i,q,none⟩) sLen (g9 lo 0)) a τ' F' hp'):=
  fun w hp1 h a τ' F' hp' _ _ ⟨h1,h2⟩=>⟨w,by rw[h1];exact h,h2⟩
 have r:(Nat.ble (sLen+n) 67108864&&news.all Value.oneCell')=true:=by simp_all
 by_cases N:n=0
 ·
  subst N;have H:news=[]:=bA7 (by rw[O];simp)
  subst H;have J:∀c,unk<=c->Nat.ble sLen c=true:=fun c hc=>bA8 (bF8 (Nat.le_of_lt (au6 (by omega))) hc)
  have R:∀c,unk<=c->P6 hp e size 0 [] (.slice (some ⟨i,q,none⟩) sLen c)=some (.slice (some ⟨i,q,none⟩) sLen c,hp):=by
   intro c hc;simp only[P6,V,r,bB8,J c hc];rfl
  have g:=R _ (u9 lo 0);refine(OKh.smove (hp:=hp) (c:=g9 lo 0) (hp1:=hp) (j:=i) (q:=q) (n:=sLen) hb ht (bC4 _) (fun _ _ _=>rfl) (.inl rfl) K V (fun τ' C=>?_) d (G _ ⟨lo,rfl,L,by rw[d];omega⟩) hs).mono (hx _ _ g)
  exact aD2 (B.mono C (Fle.refl F)) (fun j y hy=>A j y (by simpa using hy)) (by simp;omega)
 ·have   g : P6 hp e size n news (.slice (some ⟨i, q, none⟩) sLen (g9 lo 0)) = bif Nat.ble (sLen + n) lo then
    some (.slice (some ⟨i,q,none⟩) (sLen+n) (g9 lo 0),ap2 hp i cs (Nat.max k (q+(sLen+n)*size)) e size (q+sLen*size) news)
    else(bif Nat.beq q 0 then fill cs (sLen*size) news else fill (fill .e 0 olds) (sLen*size) news).force fun ct=>
     some (.slice (some ⟨hp.nx,0,none⟩) (sLen+n) (g9 (sLen+n) 0),⟨(hp.m.set i none).set hp.nx (some (.cells ct ((sLen+n)*size) e size)),hp.nx+1⟩):=by
   simp only[P6,V,r,bB8,n8 N,bB9,bA8 (u9 lo 0),aM8,av4];rw[show Nat.ble 1 0=false from rfl,Bool.false_and,bB9,l8 rfl,l8 rfl,bA8 hk,hl]
   grind
  have M:(sLen+n)*size=sLen*size+n*size:=bD7 _ _ _;cases D:Nat.ble (sLen+n) lo with
  |true=>
   rw[D,bB8]at g;simp only[ap2,T.force_eq]at g;refine(OKh.smove (hp:=hp) (c:=g9 lo 0) (hp1:= {hp with m:=hp.m.set i (some (.cells (fill cs (q+sLen*size) news) (Nat.max k (q+(sLen+n)*size)) e size))}) (j:=i) (q:=q) (n:=sLen+n) hb ht (bC4 _)
    (fun j _ hj=>by rw[T.get_set,bC1 hj]) (.inl rfl) K (by rw[T.get_set,bC3 rfl]) (fun τ' C=>?_) d (G _ ⟨lo,rfl,L,by rw[d];omega⟩) hs).mono (hx _ _ g)
   refine aD2 (B.mono C (Fle.refl F)) (fun j y hy=>?_) ?_
   ·rw[<-X];exact U9 A j y hy
   ·grind
  |false=>
   rw[D,bB9,T.force_eq]at g;refine(OKh.smove (hp:=hp) (c:=g9 (sLen+n) 0) (hp1:=⟨(hp.m.set i none).set hp.nx (some (.cells (bif Nat.beq q 0 then fill cs (sLen*size) news else fill (fill .e 0 olds) (sLen*size) news) ((sLen+n)*size) e size)),hp.nx+1⟩) (j:=hp.nx) (q:=0) (n:=sLen+n) hb ht (bH4 _)
    (fun j hj H=>by rw[T.get_set,bC1 (by omega),T.get_set,bC1 H]) (.inr (bC4 _)) (bG1 _) (by rw[T.get_set,bC3 rfl]) (fun τ' C=>?_) d (G _ (geN d Q)) hs).mono (hx _ _ g)
   refine aD2 (B.mono C (Fle.refl F)) (fun j y hy=>?_) (by simp only[bC8,X,O];omega)
   by_cases hq:q=0
   ·rw[l8 hq,bB8]
    have:=U9 (cs:=cs) (a:=0) (fun j y hy=>by rw[bD3,<-A j y hy,hq,bD3]) j y hy
    grind
   ·rw[n8 hq,bB9]
    have:=U9 (cs:=fill .e 0 olds) (a:=0) (fun j y hy=>by rw[bD3];exact G1 olds j y hy) j y hy
    grind
theorem bk8 {b o:Nat} {x : n5}   {len : E}  (hb : s.get b = some x) (ht : τ b = some (some (i, o))) ( G : hp.m.get i = some (.cells cs k e size)) (hl : f9 cs q (sLen * size) = some olds) (hk : q + sLen * size ≤ k)
  (L:news.all Value.oneCell'=true) (K:news.length=n*size) (A:sLen<unk) (D:sLen+n<=67108864) (h:j6 P U τ F e size res (olds++news)) (d:len.toI U=((sLen+n:Nat):Int)) (hs:SD P U τ F s hp):
  OKh P U (smove e size b res len .un) τ F s hp (au7 P U hp e size n news (.slice (some ⟨i,q,none⟩) sLen sLen)):=by
 have H:i<hp.nx:=hs.lt b i o ht;obtain⟨M,N⟩:=u6 hl;have C:∀(j:Nat) y,olds[j]? =some y->cs.get (q+j)=some y:=fun j y hy=>by
  grind
 have g:(Nat.ble (sLen+n) 67108864&&news.all Value.oneCell')=true:=by simp_all
 by_cases B:n=0
 ·subst B
  have J:news=[]:=bA7 (by rw[K];simp)
  subst J;have r:P6 hp e size 0 [] (.slice (some ⟨i,q,none⟩) sLen sLen)=some (.slice (some ⟨i,q,none⟩) sLen sLen,hp):=by
   simp only[P6,G,g,bB8,bA8 (bC4 sLen)];rfl
  refine(OKh.smove (cp:= .un) (hp:=hp) (c:=sLen) (hp1:=hp) (j:=i) (q:=q) (n:=sLen) hb ht (bC4 _) (fun _ _ _=>rfl) (.inl rfl) H G (fun τ' w=>?_) d (Or.inl ⟨A,(aK6 d).symm,by rw[d];omega⟩) hs).mono fun a τ' F' hp' _ _ ⟨h1,h2⟩=>⟨_,by rw[h1];exact r,h2⟩
  exact aD2 (h.mono w (Fle.refl F)) (fun j y hy=>C j y (by simpa using hy)) (by simp;omega)
 ·have   r : P6 hp e size n news (.slice (some ⟨i, q, none⟩) sLen sLen) = some (.slice (some ⟨hp.nx, 0, none⟩) (sLen + n) (g9 (sLen + n) 0), hp.new (olds ++ news) e size) := by
   simp only[P6,G,g,bB8,n8 B,bB9,X6 A,X6 (show sLen<sLen+n by omega),bA8 hk,hl]
  refine(OKh.smove (cp:= .un) (hp:=hp) (c:=g9 (sLen+n) 0) (hp1:=hp.new (olds++news) e size) (y:= .cells (fill .e 0 (olds++news)) (olds++news).length e size) (j:=hp.nx) (q:=0) (n:=sLen+n) hb ht (bH4 _)
   (fun j hj _=>by show(hp.m.set hp.nx _).get j=_;rw[T.get_set,bC1 (by omega)]) (.inr (bC4 _)) (bG1 _) (by show(hp.m.set hp.nx _).get hp.nx=_;rw[T.get_set,bC3 rfl]) (fun τ' w=>?_) d (Or.inr (geN d D)) hs).mono fun a τ' F' hp' _ _ ⟨h1,h2⟩=>⟨_,by rw[h1];exact r,h2⟩
  exact aD2 (h.mono w (Fle.refl F)) (fun j y hy=>by rw[bD3];exact G1 _ j y hy) (by omega)
theorem ba4 {c:Nat}   {len : E}  ( A : hp.m.get i = some (.cells cs k e size)) (hl : f9 cs q (sLen * size) = some olds) (hk : q + sLen * size ≤ k)
  (g:news.all Value.oneCell'=true) (r:c<unk) (B:sLen<=c) (w:c<sLen+n) (b:sLen+n<=67108864) (h:j6 P U τ F e size res (olds++news)) (d:len.toI U=((sLen+n:Nat):Int)) (hs:SD P U τ F s hp):
  OKh P U (N7 e size res len) τ F s hp (au7 P U hp e size n news (.slice (some ⟨i,q,none⟩) sLen c)):=by
 have y:P6 hp e size n news (.slice (some ⟨i,q,none⟩) sLen c)=some (.slice (some ⟨hp.nx,0,none⟩) (sLen+n) (g9 (sLen+n) 0),hp.new (olds++news) e size):=by
  simp only[P6,A];rw[show(Nat.ble (sLen+n) 67108864&&news.all Value.oneCell')=true by simp only[bA2,bF4];exact⟨b,g⟩]
  simp only[bB8,n8 (show n≠0 by omega),bB9,X6 r,X6 w,bA8 hk,hl]
 exact(D0 h d b hs).mono fun a τ' F' hp' _ _ ⟨h1,h2⟩=>⟨_,by rw[h1];exact y,h2⟩
theorem bk9 {c:Nat}   ( h : hp.m.get i = some (.cells cs k e size)) (   B : news.all Value.oneCell' = true) (  A : news.length = n * size) (  g : c < unk) (  r : sLen ≤ c) (  w : sLen + n ≤ c) (   C : sLen + n ≤ 67108864) (hk : q + (sLen + n) * size ≤ k) {e0 : Nat} :
  ∃m,P6 hp e0 size n news (.slice (some ⟨i,q,none⟩) sLen c)=some (.slice (some ⟨i,q,none⟩) (sLen+n) c,{hp with m:=m})/\(∀j,j≠i->m.get j=hp.m.get j)/\m.get i=some (.cells (fill cs (q+sLen*size) news) k e size):=by
 have b:(Nat.ble (sLen+n) 67108864&&news.all Value.oneCell')=true:=by simp_all
 by_cases d:n=0
 ·subst d
  have y:news=[]:=bA7 (by rw[A];simp)
  subst y;refine⟨hp.m,?_,fun _ _=>rfl,h⟩
  simp only[P6,h,b,bB8,l8,bA8 r];rfl
 ·refine⟨hp.m.set i (some (.cells (fill cs (q+sLen*size) news) k e size)),?_,fun j hj=>by rw[T.get_set,bC1 hj],by rw[T.get_set,bC3 rfl]⟩
  simp only[P6,h,b,bB8,n8 d,bB9,X6 g,bA8 w,bA8 hk,ap2,T.force_eq]
end
end Go.Sx
namespace Go.Sx
open Go.Xe
section
variable {P :Program}{U:Nat->List Dat->Dat}{τ:Tau}{F:Nat->Option Blk}{s:SS}{hp:Hp}
theorem OKh.change0 {b:Nat}{x:n5}(hb:s.get b=some x)(ht:τ b=some none){x':n5}(hx:∃L e z ph,x'= .rows L e z ph/\L.toR U=[]/\z=(kf P e).length/\ph.toI U<=0)(hs:SD P U τ F s hp):OKh P U (Y9 b (some x')) τ F s hp fun _ τ' F' hp'=>τ'=τ/\F'=F/\hp'=hp:=by
 intro Q hq _;have g:∀c y,(s.set b (some x')).get c=some y-> ∃y,s.get c=some y:=by
  intro c y hc;rw[SS.get_set]at hc
  grind
 refine⟨(),_,hq,τ,F,hp,⟨Tle.refl τ,Fle.refl F,bC4 _,bC4 _,fun _ _=>rfl,fun c y hc _=>g c y hc,⟨[(b,some x')],rfl,fun _ _ _=>rfl,fun c j q hc h=>(by rw[hs.new c hc]at h;cases h),fun _ _ _ h=>.inl h,fun _ _ _ h=>h⟩,⟨[],rfl⟩,⟨[(b,some x')],rfl,fun _ _ _ _ _ _ cs _ _ _ _ C _=>⟨cs,C,fun _ _=>rfl⟩⟩⟩,
  ⟨fun c y hc=>?_,fun c d y z j q k r hc hd w A B=>?_,hs.frz,hs.lt,hs.flt,hs.new,hs.fc,hs.fz⟩,rfl,rfl,rfl⟩
 ·rw[SS.get_set]at hc
  by_cases e:c=b
  ·grind
  ·rw[bC1 e]at hc;exact hs.live c y hc
 ·obtain⟨D,hy⟩:=g c y hc
  obtain⟨E,hz⟩:=g d z hd;exact hs.inj c d D E j q k r hy hz w A B
variable {e n size:Nat}{vs:List Value}
theorem aR5  {L len : E}  (h : j6 P U τ F e size (.rows L) vs) (  r : vs.length = n * size) (   b : len.toI U = n) (  d : (L.toR U).length = n) (hn : n ≤ 67108864) (hs : SD P U τ F s hp) :
  OKh P U (N7 e size (.rows L) len) τ F s hp fun c τ' F' hp'=>(n=0/\hp'=hp/\VD P U τ' F' c (.slice none 0 0))\/(n≠0/\hp'=hp.new vs e size/\VD P U τ' F' c (.slice (some ⟨hp.nx,0,none⟩) n (g9 n 0))):=by
 by_cases h0:n=0
 ·subst h0
  intro Q hq _;have g:L.toR U=[]:=bA7 d;obtain⟨h1,h2⟩:=hs.alloc (x:=(Src.rows L).blk e size) (p:=none) (hp':=hp) (bC4 _) (fun _ _=>rfl) (.inr ⟨rfl,L,e,size,.int 0,rfl,g,h.1,bG4 0⟩)
  refine⟨_,_,hq,_,F,hp,h1,h2,.inl ⟨rfl,rfl,?_⟩⟩;exact .sl0 s.nx size (.int 0) len .ge (j9 _ _ _) rfl b (fun e he=>by cases he)
 ·exact(D0 h b hn hs).mono fun c τ' F' hp' _ _ ⟨h1,h2⟩=>.inr ⟨h0,h1,h2⟩
variable {news:List Value}
theorem C4 (hn:n<=67108864):P6 hp e size n news (.slice none 0 0)=bif Nat.beq n 0 then some (.slice none 0 0,hp)else some (.slice (some ⟨hp.nx,0,none⟩) n (g9 n 0),hp.new news e size):=by
 simp only[P6];rw[show(Nat.beq 0 0&&Nat.beq 0 0&&Nat.ble n 67108864)=true by simp only[bA2,bF4];exact⟨⟨rfl,rfl⟩,hn⟩,bB8]
theorem av7 {L:E}(b:1<=size)(h:j6 P U τ F e size (.rows L) vs)(d:vs.length=n*size):(L.toR U).length=n:=by
 have:=h.2.1;rw[d]at this;exact(Nat.eq_of_mul_eq_mul_right b this).symm
def toUn :SV->SV
 | .sl b z off len .ge=>.sl b z off len .un
 |a=>a
variable {v:Value}
theorem bw3 {a:SV}(h:VD P U τ F a v):VD P U τ F (toUn a) v:=by
 unfold toUn;split
 ·cases h with
  |sl _ _ _ _ _ i o c h h0 h1 hc=>exact .sl _ _ _ _ .un i o c h h0 h1 (Or.inr hc)
  |sl0 _ _ _ _ _ h h0 h1 hc=>exact .sl0 _ _ _ _ .un h h0 h1 (fun e he=>by cases he)
 ·exact h
theorem aq9 {b:Nat} ( ap : 1 ≤ size) {off len : E} {cap : Cp} {src : Src}   (ha : VD P U τ F (.sl b size off len cap) v) (  ai : j6 P U τ F e size src news) (  O : news.length = n * size) (   D : news.all Value.oneCell' = true) (hs : SD P U τ F s hp) :
  OKh P U (ak3 P U e size b off len cap src) τ F s hp (au7 P U hp e size n news v):=by
 unfold ak3;refine(bd6 ai hs).bind fun Ln τ1 F1 s1 hp1 ex hs1 ⟨e1,e2,B⟩=>OKh.read ?_
 subst e1;subst e2;have ha:=ha.mono ex.t ex.f;split
 ·rename_i L e' z' ph hb
  cases hq:Nat.beq e e'&&Nat.beq size z'&&Nat.beq size (kf P e).length with
  |false=>exact OKh.fail
  |true=>
   simp only[bB8];simp only[bA2,bE1]at hq;obtain⟨⟨rfl,rfl⟩,ak⟩:=hq;have B:=B ak;have A:=av7 ap B O;refine OKh.bindp OKp.need fun _ s2 o2 aw p1=>OKh.bindp OKp.need fun _ s3 o3 al p2=>?_
   have p1:=n9 p1;have p2:=q8 p2;rw[f7,c9]at p1;rw[f7,c9,A]at p2;simp only[o6]at p2;have C:s3.get b=some (.rows L e size ph):=by rw[(o2.trans o3).get];exact hb
   rcases al.live b _ C with⟨i,o,y,k1,k2,kF,cs,k,rfl,k4,k5⟩| ⟨k1,L',e',z',ax,k2,k3,k4,k5⟩
   ·cases ha with
    |sl0 _ _ _ _ _ K h0 h1 hc=>grind
    |sl _ _ _ _ _ i' o' c K h0 h1 hc=>
     rw[k1]at K;simp only[bA1,bA3]at K;obtain⟨rfl,rfl⟩:=K;have au:len.toI U=((len.toN U:Nat):Int):=by grind
     have av:off.toI U=((off.toN U:Nat):Int):=by grind
     have d:(l9 len (i9 Ln)).toI U=((len.toN U+n:Nat):Int):=by rw[f7,c9,A];omega
     have olds:∀Lo:E,Lo.den U= .lst (part (L.toR U) (off.toI U) (len.toI U))-> ∃vs,f9 cs (o+off.toN U*size) (len.toN U*size)=some vs/\o+off.toN U*size+len.toN U*size<=k/\j6 P U τ1 F1 e size (.rows (N1 Lo Ln)) (vs++news):=by
      intro Lo g;have hR:Lo.toR U=part (L.toR U) (off.toI U) (len.toI U):=by show(Lo.den U).rows=_;rw[g];rfl
      obtain⟨vs,v1,M,X,v4⟩:=K7 (τ:=τ1) k4 h0 h1 p1 hR;exact⟨vs,v1,M,X.app B⟩
     split
     ·
      obtain⟨lo,rfl,Y,c2⟩:=hc;refine OKh.bindp t6 fun Lo V N w g=>?_
      obtain⟨vs,v1,M,X⟩:=olds Lo g;exact aU3 (fun _ h=>h) (by rw[N.get];exact C) k1 k2 v1 M D O Y (by omega) X d w
     ·
      refine OKh.bindp t6 fun Lo V N w g=>?_
      obtain⟨vs,v1,M,X⟩:=olds Lo g
      rcases hc with⟨Y,rfl,c2⟩| ⟨lo,rfl,Y,c2⟩
      ·exact bk8 (by rw[N.get];exact C) k1 k2 v1 M D O Y (by omega) X d w
      ·exact aU3 (cp:= .un) (fun _ h=>Or.inr h) (by rw[N.get];exact C) k1 k2 v1 M D O Y (by omega) X d w
     ·rename_i c0
      obtain⟨Y,rfl,c3,c4⟩:=hc;have aq:c0.toI U=((c0.toN U:Nat):Int):=by grind
      refine OKh.bindp OKp.test fun t V N w ht=>?_
      rw[s9,d]at ht;cases t with
      |true=>
       simp only[bC2]at ht;simp only[bB8];refine OKh.bindp t6 fun Lo s5 o5 J g=>?_
       obtain⟨vs,v1,M,X⟩:=olds Lo g;exact ba4 k2 v1 M D c3 (by omega) (by omega) (by omega) X d J
      |false=>
       simp only[bE9]at ht;simp only[bB9];refine OKh.bindp OKp.need fun _ s5 o5 J p3=>?_
       have p3:=n9 p3;rw[f7]at p3;have ac:s5.get b=some (.rows L e size ph):=by rw[(N.trans o5).get];exact C
       have R:o+off.toN U*size+(len.toN U+n)*size<=k:=by
        have:(off.toN U+(len.toN U+n))*size<=ph.toN U*size:=bB4 size (by show off.toN U+(len.toN U+n)<=(ph.toI U).toNat;omega)
        grind
       obtain⟨m,m1,m2,m3⟩:=bk9 (e0:=e) (q:=o+off.toN U*size) (c:=c0.toN U) k2 D O c3 (by omega) (by omega) (by omega) R
       have ah:(l9 off len).toI U=off.toI U+len.toI U:=f7 off len;have W:((l9 off len).toI U).toNat=off.toN U+len.toN U:=by grind
       have ad:j7 P F1 e size o k (fill cs (o+off.toN U*size+len.toN U*size) news) ((E.op .over [L,l9 off len,Ln]).toR U):=by
        have:=j7.over (news:=news) (l:=Ln.toR U) (a:=(l9 off len).toI U) k4 (by rw[ah];exact p1) B.2.2.1 B.2.1 (by rw[W,A,bD7,bD7];rw[bD7]at R;omega) B.2.2.2
        rw[W,bD7,<-bG0]at this;exact this
       refine(OKh.change (x':= .rows (.op .over [L,l9 off len,Ln]) e size ph) (m:=m) ac k1 m2 m3 ⟨_,k,rfl,ad,k5⟩).bind fun _ τ2 F2 s6 hp2 _ ao ⟨w1,w2,w3⟩=>?_
       subst w1;subst w2;refine OKh.ret ⟨.slice (some ⟨i,o+off.toN U*size,none⟩) (len.toN U+n) (c0.toN U),by rw[w3];exact m1,VD.sl' k1 h0 (by omega) ⟨Y,rfl,c3,by omega⟩ rfl (aK6 d).symm⟩
   ·cases ha with
    |sl _ _ _ _ _ i' o' c K h0 h1 hc=>grind
    |sl0 _ _ _ _ _ K h0 h1 hc=>
     simp only[n5.rows.injEq]at k2;obtain⟨rfl,rfl,rfl,rfl⟩:=k2;have hn:n<=67108864:=by omega
     have d:(l9 len (i9 Ln)).toI U=(n:Int):=by rw[f7,c9,A];omega
     have G:∀Lo:E,Lo.den U= .lst (part (L.toR U) (off.toI U) (len.toI U))->j6 P U τ1 F1 e size (.rows (N1 Lo Ln)) news/\((N1 Lo Ln).toR U).length=n:=by
      intro Lo g;have hR:Lo.toR U=[]:=by show(Lo.den U).rows=_;rw[g,k3];simp[part,Dat.rows]
      have hA:(N1 Lo Ln).toR U=Ln.toR U:=by rw[T4,hR];rfl
      obtain⟨q1,q2,q3,q4⟩:=B;exact⟨⟨q1,by rw[hA];exact q2,by rw[hA];exact q3,by rw[hA];exact q4⟩,by rw[hA];exact A⟩
     split
     ·refine OKh.bindp t6 fun Lo V N w g=>?_
      obtain⟨v1,M⟩:=G Lo g
      by_cases H:n=0
      ·subst H
       intro Q hq _;have aj:V.get b=some (.rows L e size ph):=by rw[N.get];exact C
       obtain⟨Z,T⟩:=w.drop b;obtain⟨aa,ab⟩:=T.alloc (x:=(Src.rows (N1 Lo Ln)).blk e size) (p:=none) (hp':=hp1) (bC4 _) (fun _ _=>rfl) (.inr ⟨rfl,_,e,size,.int 0,rfl,bA7 M,v1.1,bG4 0⟩)
       refine⟨_,_,hq,_,F1,hp1,Z.trans aa,ab,.slice none 0 0,by rw[C4 hn];rfl,?_⟩
       exact .sl0 _ size (.int 0) _ .ge (j9 _ _ _) rfl d (fun e he=>by cases he)
      ·intro Q hq _
       obtain⟨Z,T⟩:=w.drop b;have hx:=(D0 (s:=V.set b none) v1 d hn T) Q hq T;obtain⟨a,s',q1,τ',F',hp',q2,q3,q4,q5⟩:=hx;exact⟨a,s',q1,τ',F',hp',Z.trans q2,q3,_,by rw[C4 hn,n8 H,bB9,q4],q5⟩
     ·refine OKh.bindp t6 fun Lo V N w g=>?_
      obtain⟨v1,M⟩:=G Lo g
      by_cases H:n=0
      ·subst H
       intro Q hq _;have aj:V.get b=some (.rows L e size ph):=by rw[N.get];exact C
       obtain⟨Z,T⟩:=w.drop b;obtain⟨aa,ab⟩:=T.alloc (x:=(Src.rows (N1 Lo Ln)).blk e size) (p:=none) (hp':=hp1) (bC4 _) (fun _ _=>rfl) (.inr ⟨rfl,_,e,size,.int 0,rfl,bA7 M,v1.1,bG4 0⟩)
       refine⟨_,_,hq,_,F1,hp1,Z.trans aa,ab,.slice none 0 0,by rw[C4 hn];rfl,?_⟩
       exact .sl0 _ size (.int 0) _ .un (j9 _ _ _) rfl d (fun e he=>by cases he)
      ·intro Q hq _
       obtain⟨Z,T⟩:=w.drop b;have hx:=(D0 (s:=V.set b none) v1 d hn T) (fun r=>Q (toUn r.1,r.2)) hq T
       obtain⟨a,s',q1,τ',F',hp',q2,q3,q4,q5⟩:=hx;exact⟨toUn a,s',q1,τ',F',hp',Z.trans q2,q3,_,by rw[C4 hn,n8 H,bB9,q4],bw3 q5⟩
     ·rename_i c0
      have ae:=hc c0 rfl;refine OKh.bindp OKp.test fun t V N w ht=>?_
      rw[s9,d,ae]at ht;cases t with
      |true=>
       simp only[bC2]at ht;simp only[bB8];refine OKh.bindp t6 fun Lo s5 o5 J g=>?_
       obtain⟨v1,M⟩:=G Lo g;exact(D0 v1 d hn J).mono fun a τ' F' hp' _ _ ⟨w1,w2⟩=>⟨_,by rw[C4 hn,n8 (by omega),bB9,w1],w2⟩
      |false=>
       simp only[bE9]at ht;simp only[bB9];have H:n=0:=by omega
       subst H;refine OKh.bindp OKp.need fun _ s5 o5 J p3=>?_
       have ac:s5.get b=some (.rows L e size ph):=by rw[(N.trans o5).get];exact C
       have ad:(E.op .over [L,l9 off len,Ln]).toR U=[]:=by
        show(Sx.over (L.toR U) _ (Ln.toR U))=[];rw[k3,bA7 A];simp[Sx.over]
       refine(OKh.change0 (x':= .rows (.op .over [L,l9 off len,Ln]) e size ph) ac k1 ⟨_,e,size,ph,rfl,ad,k4,k5⟩ J).bind fun _ τ2 F2 s6 hp2 _ ao ⟨w1,w2,w3⟩=>?_
       subst w1;subst w2;subst w3;exact OKh.ret ⟨.slice none 0 0,by rw[C4 hn];rfl,.sl0 b size off _ _ k1 h0 d (fun e he=>by cases he;exact ae)⟩
 ·exact OKh.fail
end
end Go.Sx
namespace Go.Sx
open Go.Xe
section
variable {P :Program}{U:Nat->List Dat->Dat}{τ:Tau}{F:Nat->Option Blk}{s:SS}{hp:Hp}
theorem PV.nil_or {e:TypeId}{a:Option Addr}{l:Nat}{d:Dat}(h:PV P F (.sl e) (.slice a l l) d):(a=none/\l=0/\d= .lst [])\/ ∃i o,a=some ⟨i,o,none⟩:=by
 cases h with
 |nils=>grind
 |sl _ i o c b cs n z rows x hF hb hc hn hz hr hx hp=>grind
theorem j7.of_PV {e i o l c:Nat}{rows:Rows}(h:PV P F (.sl e) (.slice (some ⟨i,o,none⟩) l c) (.lst rows))(g:∀i b,F i=some b->hp.m.get i=some b):∃b cs n z,hp.m.get i=some b/\j7 P F e z o n cs rows/\l=rows.length/\z=(kf P e).length/\((∃e',b= .cells cs n e' z)\/(∃e' D,b= .ro cs n e' D/\c<unk)):=by
 cases h with
 |sl _ _ _ _ b cs n z _ x hF hb hc hn hz hr hx hp'=>
  cases b with
  |cells y A B E=>
   simp only[arr,rdC,bA1,bA3]at hb;obtain⟨rfl,rfl,rfl⟩:=hb;have C:=hc.2.2;exact⟨_,y,A,z,g _ _ hF,⟨hn,hz,hr,fun r k row d h1 h2=>⟨x r k,hx r k row d h1 h2,fun kd w=>hp' r k row kd d h1 h2 w⟩⟩,rfl,hz,.inl ⟨_,by rw[C rfl]⟩⟩
  |ro y A B E=>
   simp only[arr,rdC,bA1,bA3]at hb;obtain⟨rfl,rfl,rfl⟩:=hb;exact⟨_,y,A,z,g _ _ hF,⟨hn,hz,hr,fun r k row d h1 h2=>⟨x r k,hx r k row d h1 h2,fun kd w=>hp' r k row kd d h1 h2 w⟩⟩,rfl,hz,.inr ⟨_,_,rfl,hc.2.1 rfl⟩⟩
  |_=>simp[arr,rdC]at hb
theorem bv6 {e size n : Nat} (  N : 1 ≤ size) {a : SV} {v : Value} ( D : VD P U τ F a v) {src : Src} {news : List Value} (   d : j6 P U τ F e size src news) (  g : news.length = n * size) (   G : (src.cnt size).toI U = n) (hs : SD P U τ F s hp) :
  OKh P U (sapp P U e size a src) τ F s hp (au7 P U hp e size n news v):=by
 have K:∀src,j6 P U τ F e size src news->(src.cnt size).toI U=n->(∀l,src= .lit l->l≠ [])->OKh P U (a7 (i3 U (l6 (src.cnt size) (.int 67108865))) fun _=>N7 e size src (src.cnt size)) τ F s hp (au7 P U hp e size n news (.slice none 0 0)):=by
  intro src d G W;refine OKh.bindp OKp.need fun _ s1 _ hs1 p1=>?_
  have p1:=q8 p1;rw[G]at p1;simp only[o6]at p1;have hn:n<=67108864:=by omega
  cases src with
  |lit l=>
   have hl:l.length=n*size:=by rw[<-g];exact d.1
   have H:n≠0:=by
    intro h;rw[h,Nat.zero_mul]at hl;exact W l rfl (bA7 hl)
   exact(D0 d G hn hs1).mono fun c τ' F' hp' _ _ ⟨h1,h2⟩=>⟨_,by rw[C4 hn,n8 H,bB9,h1],h2⟩
  |rows L=>
   refine(aR5 d g G (av7 N d g) hn hs1).mono fun c τ' F' hp' _ _ h=>?_
   rcases h with⟨h0,h1,h2⟩| ⟨h0,h1,h2⟩
   ·exact⟨_,by rw[C4 hn,l8 h0,bB8,h1],h2⟩
   ·exact⟨_,by rw[C4 hn,n8 h0,bB9,h1],h2⟩
 unfold sapp;split
 ·
  cases D;split
  ·have hv:news=[]:=bA7 d.1.symm
   subst hv;have H:n=0:=by
    rcases Nat.eq_zero_or_pos n with h|h
    ·exact h
    ·have:=Nat.mul_le_mul h N;simp at g;omega
   subst H;exact OKh.ret ⟨.slice none 0 0,by rw[C4 (by omega)];rfl,.nils⟩
  ·rename_i W
   exact K _ d G fun l hl h=>by subst h;exact W hl
 ·
  rename_i b z off len cap;cases hq:Nat.beq z size&&src.one with
  |false=>exact OKh.fail
  |true=>
   simp only[bB8];simp only[bA2,bE1]at hq;obtain⟨rfl,J⟩:=hq;have B:=d.ones J;refine OKh.read ?_;split
   ·rename_i l e' z' hb
    split
    ·rename_i C r m
     cases hq:Nat.beq e e'&&Nat.beq z z'&&decide (0<=C)&&decide (0<=r)&&Nat.ble ((C.toNat+r.toNat)*z) l.length&&Nat.ble (r.toNat+m.length/z) 67108864&&Nat.beq (m.length/z*z) m.length with
     |false=>exact OKh.fail
     |true=>
      simp only[bB8];simp only[bA2,bE1,bC2,bF4]at hq;obtain⟨⟨⟨⟨⟨⟨rfl,rfl⟩,q1⟩,q2⟩,q3⟩,q4⟩,q5⟩:=hq;have V:m.length=n*z:=by rw[<-g];exact d.1
      have aw:m.length/z=n:=by rw[V];exact Nat.mul_div_cancel _ N
      rw[aw]at q4⊢;rw[bD7]at q3
      rcases hs.live b _ hb with⟨i,o,y,k1,k2,kF,cs,k,rfl,k4,k5⟩| ⟨k1,L',e',z',bg,k2,k3,k4,k5⟩
      ·cases D with
       |sl0 _ _ _ _ _ O h0 h1 hc=>rw[k1]at O;cases O
       |sl _ _ _ _ _ i' o' c O h0 h1 hc=>
        rw[k1]at O;simp only[bA1,bA3]at O;obtain⟨rfl,rfl⟩:=O;have Z:(E.int C).toN U=C.toNat:=rfl;have X:(E.int r).toN U=r.toNat:=rfl;obtain⟨vs,v1,v2,v3⟩:=C0 (c:=cs) (R:=fun j x=>∀a,((l.drop (C.toNat*z)).take (r.toNat*z))[j]? =some a->VD P U τ F a x) (r.toNat*z) (o+C.toNat*z) 0 fun j hj=>by
         have ak:C.toNat*z+j<l.length:=by omega
         obtain⟨x,w1,w2⟩:=k5 (C.toNat*z+j) _ (bB3 ak);refine⟨x,by rw[<-w1];congr 1;omega,fun a D=>?_⟩
         rw[bD3,bD4,bC3 hj,bE0]at D;rw[show l[C.toNat*z+j]? =some l[C.toNat*z+j] by simp[ak],bA1]at D
         rw[<-D];exact w2
        have aj:((l.drop (C.toNat*z)).take (r.toNat*z)).length=r.toNat*z:=by simp;omega
        have ba:VDL P U τ F ((l.drop (C.toNat*z)).take (r.toNat*z)) vs:=⟨by rw[aj,v2],fun j a x D hx=>v3 j x hx a (by rw[bD3];exact D)⟩
        have M:j6 P U τ F e z (.lit ((l.drop (C.toNat*z)).take (r.toNat*z)++m)) (vs++news):=ba.append d;have A:(E.int ((r.toNat+n:Nat):Int)).toI U=((r.toNat+n:Nat):Int):=rfl;have ai:o+C.toNat*z+r.toNat*z<=k:=by omega
        rw[Z,X];split
        ·obtain⟨lo,rfl,c1,c2⟩:=hc
         exact aU3 (fun _ h=>h) hb k1 k2 v1 ai B g c1 q4 M A hs
        ·exact OKh.fail
        ·rename_i c0
         obtain⟨c1,rfl,c3,c4⟩:=hc;have bc:c0.toI U=((c0.toN U:Nat):Int):=by show c0.toI U=((c0.toI U).toNat:Int);omega
         have c4:r<=c0.toI U:=c4;refine OKh.bindp OKp.test fun t s4 o4 ay ht=>?_
         rw[s9,A]at ht;cases t with
         |true=>
          simp only[bC2]at ht;simp only[bB8];exact ba4 k2 v1 ai B c3 (by omega) (by omega) q4 M A ay
         |false=>
          simp only[bE9]at ht;simp only[bB9];cases hr:Nat.ble ((C.toNat+r.toNat)*z+m.length) l.length with
          |false=>exact OKh.fail
          |true=>
           simp only[bB8];have hr:=bA5 hr;rw[bD7,V]at hr;obtain⟨mm,m1,m2,m3⟩:=bk9 (e0:=e) (q:=o+C.toNat*z) (c:=c0.toN U) k2 B g c3 (by omega) (show r.toNat+n<=c0.toN U by omega) q4 (by rw[bD7];omega)
           have aq:s4.get b=some (.cells l e z):=by rw[o4.get];exact hb
           refine(OKh.change (x':= .cells (H7 l ((C.toNat+r.toNat)*z) m) e z) (m:=mm) aq k1 m2 m3 ⟨_,k,rfl,?_,fun j a D=>?_⟩ (by intro c _ _ c' Z _ _ bb n1 hg;cases Z;rw[k2]at hg;cases hg;exact⟨_,rfl,fun j hj=>by rw[j3,bC1 (by omega)]⟩)).bind fun _ τ2 F2 s6 hp2 _ be ⟨w1,w2,w3⟩=>?_
           ·unfold H7;simp only[bC8,bD6,List.length_drop,bD7];omega
           ·unfold H7 at D
            rw[bD7]at D;have et:(l.take (C.toNat*z+r.toNat*z)).length=C.toNat*z+r.toNat*z:=by simp;omega
            rw[j3]
            by_cases hj:C.toNat*z+r.toNat*z<=j/\j<C.toNat*z+r.toNat*z+news.length
            ·rw[bC3 (by omega)]
             rw[bB5,bA9 (by omega),bB0 (by rw[et,V,<-g];omega),et]at D
             obtain⟨w,w1,w2⟩:=VDL.get d D;exact⟨w,by rw[<-w1];congr 1;omega,w2⟩
            ·rw[bC1 (by omega)]
             by_cases au:j<C.toNat*z+r.toNat*z
             ·rw[bB5,bB0 (by omega),bD4,bC3 au]at D
              exact k5 j a D
             ·rw[bB5,bA9 (by omega),et,bA9 (by rw[V,<-g];omega),bE0]at D
              refine k5 j a ?_;rw[<-D];congr 1;rw[V,<-g];omega
           ·subst w1;subst w2
            refine OKh.ret ⟨.slice (some ⟨i,o+C.toNat*z,none⟩) (r.toNat+n) (c0.toN U),by rw[w3];exact m1,VD.sl' k1 h0 (by rw[A];omega) ⟨c1,rfl,c3,by rw[A];omega⟩ rfl rfl⟩
      ·cases k2
    ·refine(ax1 hs).bind fun _ τ1 F1 s1 hp1 ex hs1 ⟨Z,X,e3⟩=>?_
     subst Z;subst X;subst e3;exact aq9 N D d g B hs1
   ·exact aq9 N D d g B hs
   ·exact OKh.fail
 ·
  rename_i e' L;cases hq:Nat.beq e e'&&Nat.beq size (kf P e).length&&src.one with
  |false=>exact OKh.fail
  |true=>
   simp only[bB8];simp only[bA2,bE1]at hq;obtain⟨⟨rfl,av⟩,J⟩:=hq;have B:=d.ones J;have ap:=D;cases D with
   |lst _ _ _ _ hv hc=>
    obtain⟨ad,l,rfl⟩:=hc rfl;refine OKh.bindp OKp.test fun t s1 o1 hs1 ht=>?_
    rw[D7,G]at ht;simp only[o6]at ht;have ah:(aa3 L).toR U=L.toR U:=by show((aa3 L).den U).rows=_;rw[aj6];rfl
    have ab:=ba5 hv;have al:=hv.nil_or;cases t with
    |true=>
     have H:n=0:=by have:=bH8 ht;omega
     subst H;have W:news=[]:=bA7 (by rw[g];simp)
     subst W;simp only[bB8];refine OKh.bindp OKp.need fun _ s2 _ ax p1=>OKh.ret ⟨.slice ad l l,?_,ap⟩
     have p1:=q8 p1;rw[c9]at p1;simp only[o6]at p1
     rcases al with⟨rfl,rfl,_⟩| ⟨i,o,rfl⟩
     ·rw[C4 (by omega)];rfl
     ·obtain⟨b,cs,k,z2,g1,g2,g3,g4,⟨X,rfl⟩| ⟨X,z3,rfl,g5⟩⟩:=j7.of_PV (hp:=hp) hv hs.frz
      ·simp only[P6,g1]
       rw[show(Nat.ble (l+0) 67108864&&([]:List Value).all Value.oneCell')=true by simp only[bA2,bF4];exact⟨by omega,rfl⟩]
       simp only[bB8,l8,bA8 (bC4 l)]
      ·simp only[P6,g1]
       rw[show(Nat.ble (l+0) 67108864&&Nat.ble l l&& !Nat.ble unk l)=true by simp only[bA2,bF4,X6 g5,Bool.not_false,bH2];exact⟨by omega,bC4 _⟩]
       simp only[bB8,l8]
    |false=>
     have H:n≠0:=by have:=of_decide_eq_false ht;omega
     simp only[bB9];refine(bd6 d hs1).bind fun Ln τ1 F1 s2 hp1 ex ax ⟨Z,X,Q⟩=>?_
     subst Z;subst X;have Q:=Q av;have aa:=av7 N Q g;refine OKh.bindp OKp.need fun _ s3 o3 ae p1=>?_
     have p1:=q8 p1;rw[f7,c9,c9,aa]at p1;simp only[o6]at p1;have az:=hv.mono P ex.f
     rcases al with⟨rfl,rfl,hd⟩| ⟨i,o,rfl⟩
     ·have hL:L.toR U=[]:=by injection hd
      have T:(N1 (aa3 L) Ln).toR U=Ln.toR U:=by rw[T4,ah,hL];rfl
      obtain⟨q1,q2,q3,q4⟩:=Q;have Y:j6 P U τ1 F1 e size (.rows (N1 (aa3 L) Ln)) news:=⟨q1,by rw[T];exact q2,by rw[T];exact q3,by rw[T];exact q4⟩
      refine(D0 Y (n:=n) (by rw[f7,c9,c9,hL,aa];simp) (by omega) ae).mono fun c τ' F' hp' _ _ ⟨h1,h2⟩=>⟨_,by rw[C4 (by omega),n8 H,bB9,h1],h2⟩
     ·obtain⟨b,cs,k,z2,g1,g2,g3,g4,ao⟩:=j7.of_PV (hp:=hp1) az ae.frz
      have ez:z2=size:=by omega
      subst ez;have ac:Sx.part (L.toR U) 0 (L.toR U).length=L.toR U:=by simp[Sx.part]
      obtain⟨vs,v1,v2,v3,v4⟩:=K7 (U:=U) (τ:=τ1) g2 (off:=0) (len:=(L.toR U).length) (bG4 0) (by omega) (by omega) (L:=aa3 L) (by rw[ah,ac])
      have e0:(0:Int).toNat*z2=0:=by simp
      rw[e0,bG6,bE2]at v1 v2;have M:j6 P U τ1 F1 e z2 (.rows (N1 (aa3 L) Ln)) (vs++news):=v3.app Q;have ab:l<unk:=ab.resolve_left (by simp)
      refine(D0 M (n:=(L.toR U).length+n) (by rw[f7,c9,c9,aa];omega) (by omega) ae).mono fun c τ' F' hp' _ _ ⟨h1,h2⟩=>⟨_,?_,h2⟩
      rw[<-g3]at v1 v2⊢
      rcases ao with⟨X,rfl⟩| ⟨X,z3,rfl,g5⟩
      ·simp only[P6,g1]
       rw[show(Nat.ble (l+n) 67108864&&news.all Value.oneCell')=true by simp only[bA2,bF4];exact⟨by omega,B⟩]
       simp only[bB8,n8 H,bB9,X6 ab,X6 (show l<l+n by omega),bA8 v2,v1,h1]
      ·simp only[P6,g1]
       rw[show(Nat.ble (l+n) 67108864&&Nat.ble l l&& !Nat.ble unk l)=true by simp only[bA2,bF4,X6 g5,Bool.not_false,bH2];exact⟨by omega,bC4 _⟩]
       simp only[bB8,n8 H,bB9,X6 (show l<l+n by omega),bA8 v2,v1,h1]
 ·exact OKh.fail
end
section
variable (P :Program)(U:Nat->List Dat->Dat)
def ak5 (t:TypeId)(r:Option Operand):M SV:=
 match P.underlying t,r with
 |some (.map kt vt),none=>a7 (V8 (.map (.op .nil []) kt vt)) fun b=>b9 (.map b)
 |_,_=>a6 "makeMap"
def kI (e:E):E:=match e with| .int n=>.int n|e=>.op .castI [e]
def kS (e:E):E:=match e with| .str l=>.str l|e=>.op .castS [e]
def aR1 :List Kd->List SV->Option (List E)
 | [],[]=>some []
 |p::ps,a::l=>match aR1 ps l with
  |some es=>match p,a with
   | .int k,.int k' e=>bif decide (k=k')then some (kI e::es)else none
   | .str,.str e=>some (kS e::es)
   |_,_=>none
  |none=>none
 |_,_=>none
def skey (sh : Bool × List Kd) (k : SV) : Option (List E) := bif sh.1 then match k with
  | .agg l=>aR1 sh.2 l
  |_=>none
 else aR1 sh.2 [k]
def aR4 (kt vt:TypeId)(m k:SV)(f:Nat->E->List E->M SV):M SV:=
 match J6 P kt,m with
 |some sh,.map b=>match skey sh k with
  |some ks=>i7 fun s=>match s.get b with
   |some (.map L kt' vt')=>bif Nat.beq kt kt'&&Nat.beq vt vt' then f b L ks else a6 "map: type"
   |_=>a6 "map: no block"
  |none=>a6 "map: key"
 |_,_=>a6 "map: value"
def as4 :Option Value->Bool
 |some (.int _ _)|some (.bool _)|some (.string _)=>true
 |_=>false
def bq3 (vt:TypeId)(ok:Bool)(L:E)(ks:List E):M SV:=match ab4 P vt with
 |some [z]=>bif !as4 (E1 P vt)then a6 "lookup: zero" else match aC7 (kd1 P vt) z with
  |some d=>match aE0 (kd1 P vt) (.op .mget (L::d::ks))with
   |some v=>b9 (bif ok then .tup [v,.bool (.op .mhas (L::ks))]else v)
   |none=>a6 "lookup"
  |none=>a6 "lookup"
 |_=>a6 "lookup: zero"
def aJ5 (t:TypeId)(m k:SV)(ok:Bool):M SV:=
 match P.underlying t with
 |some (.map kt vt)=>aR4 P kt vt m k fun _ L ks=>bq3 P vt ok L ks
 |_=>a6 "lookup: type"
def aJ7 (t:TypeId)(m k x:SV):M SV:=
 match P.underlying t with
 |some (.map kt vt)=>aR4 P kt vt m k fun b L ks=>match aC7 (kd1 P vt) x with
  |some e=>a7 (Y9 b (some (.map (.op .mput (L::e::ks)) kt vt))) fun _=>b9 (.tup [])
  |none=>a6 "map: value"
 |_=>a6 "map: type"
def ao3 (t:TypeId)(m k:SV):M SV:=
 match P.underlying t with
 |some (.map kt vt)=>aR4 P kt vt m k fun b L ks=>match ab4 P vt with
  |some [z]=>bif !as4 (E1 P vt)then a6 "entry: zero" else match aC7 (kd1 P vt) z with
   |some d=>match aE0 (kd1 P vt) (.op .mget (L::d::ks))with
    |some v=>a7 (Y9 b (some (.map (.op .mput (L:: .op .mget (L::d::ks)::ks)) kt vt))) fun _=>b9 (.tup [v,.int .i64 (.op .mix (L::ks))])
    |none=>a6 "entry"
   |none=>a6 "entry"
  |_=>a6 "entry: zero"
 |_=>a6 "entry: type"
def ab1 (m i x:SV):M SV:=
 match m,i with
 | .map b,.int _ e=>i7 fun s=>match s.get b with
  |some (.map L kt vt)=>match J6 P kt,aC7 (kd1 P vt) x with
   |some sh,some ex=>a7 (i3 U (k9 (l6 e (.int 0)))) fun _=>a7 (i3 U (l6 e (i9 L))) fun _=>a7 (Y9 b (some (.map (.op (.upd sh.2.length) [L,e,ex]) kt vt))) fun _=>b9 (.tup [])
   |_,_=>a6 "entry: value"
  |_=>a6 "entry: no block"
 |_,_=>a6 "entry: place"
end
section
variable {P :Program}{U:Nat->List Dat->Dat}{τ:Tau}{F:Nat->Option Blk}{s:SS}{hp:Hp}
theorem aR3 {t:TypeId}(hs:SD P U τ F s hp):OKh P U (ak5 P t none) τ F s hp fun a τ' F' hp'=>(∃kt vt,P.underlying t=some (.map kt vt))/\hp'=(hp.add ⟨.map [] true,.map,rfl⟩).2/\VD P U τ' F' a (hp.add ⟨.map [] true,.map,rfl⟩).1:=by
 unfold ak5;split
 ·rename_i kt vt g _
  refine(OKh.alloc (x:= .map (.op .nil []) kt vt) (y:= .map [] true) hs fun τ' _=>⟨rfl,[],true,rfl,rfl,rfl,fun j row e h=>by simp[E.toR,E.den,Sy.den,Dat.rows]at h⟩).bind fun b τ' F' s' hp' _ d ⟨h1,h2,h3⟩=>OKh.ret ?_
  subst h1;subst h3;exact⟨⟨kt,vt,g⟩,rfl,.map b hp.nx 0 h2⟩
 ·exact OKh.fail
variable {es:List (Value×Value)}
theorem N0.nil {kt vt:TypeId}(h:N0 P F kt vt es []):es=[]:=bA7 h.1
variable (P F) in
def bk2 (kt vt:TypeId)(e:Value×Value)(r:List Dat):Prop:=∃sh ks d,J6 P kt=some sh/\aa1 sh.2 ks=true/\r=ks.map KV.dat++ [d]/\e.1=Y8 sh ks/\PV P F (kd1 P vt) e.2 d
theorem N0.cons {kt vt:TypeId}{es:List (Value×Value)}{r:List Dat}{rows:Rows}(h:N0 P F kt vt es (r::rows)):∃e b,es=e::b/\bk2 P F kt vt e r/\N0 P F kt vt b rows:=by
 cases es with
 |nil=>exact absurd h.1 (by simp)
 |cons e es=>exact⟨e,es,rfl,h.2 0 r e rfl rfl,by have:=h.1;simpa using this,fun j row e' hr he=>h.2 (j+1) row e' hr he⟩
theorem N0.mk {kt vt:TypeId}{e:Value×Value}{r:List Dat}{rows:Rows}(h:bk2 P F kt vt e r)(h':N0 P F kt vt es rows):N0 P F kt vt (e::es) (r::rows):=by
 refine⟨by simp[h'.1],fun j row e' hr he=>?_⟩
 cases j with
 |zero=>cases hr;cases he;exact h
 |succ j=>exact h'.2 j row e' hr he
def Fd (sh:Bool×List Kd)(ks:List KV)(find:List (Value×Value)->Nat->Option (Option (Nat×Value))):Prop:=
 (∀i,find [] i=some none)/\ ∀e es i ks',aa1 sh.2 ks'=true->e.1=Y8 sh ks'->find (e::es) i=if ks'=ks then some (some (i,e.2))else find es (i+1)
theorem aU9 (ks:List KV):(ks.map KV.dat).map Dat.kv=ks:=by
 rw[List.map_map];have:Dat.kv∘KV.dat=id:=funext fun k=>by cases k<;>rfl
 simp_all
theorem O4 :∀ {ps:List Kd} {ks:List KV},aa1 ps ks=true->ks.length=ps.length
 | [],[],_=>rfl
 |p::ps,k::ks,h=>by
  unfold aa1 at h;rw[bA2]at h;simp[O4 h.2]
 | [],_::_,h=>by cases h
 |_::_,[],h=>by cases h
theorem G5 {kt vt : TypeId} {sh : Bool × List Kd} (hk : J6 P kt = some sh) {ks : List KV} (hl : aa1 sh.2 ks = true) {find : List (Value × Value) → Nat → Option (Option (Nat × Value))} (hf : Fd sh ks find) {x : Value} { A : Dat} (hx : PV P F (kd1 P vt) x  A) (   g : Dat) : ∀ (rows : Rows) (es : List (Value × Value)) (i : Nat), N0 P F kt vt es rows →
  (mhasR rows ks=false/\find es i=some none/\mgetR rows ks g=g/\midxR rows ks=es.length/\N0 P F kt vt (es++ [(Y8 sh ks,x)]) (mputR rows ks A))\/
  (mhasR rows ks=true/\ ∃v y,find es i=some (some (i+midxR rows ks,v))/\PV P F (kd1 P vt) v (mgetR rows ks g)/\es[midxR rows ks]? =some y/\y.2=v/\N0 P F kt vt (es.set (midxR rows ks) (Y8 sh ks,x)) (mputR rows ks A))
 | [],es,i,h=>by
  have:=h.nil;subst this;exact .inl ⟨rfl,hf.1 i,rfl,rfl,.mk ⟨sh,ks,A,hk,hl,rfl,rfl,hx⟩ ⟨rfl,fun j row e h=>by simp at h⟩⟩
 |r::rows,es,i,h=>by
  obtain⟨e,B,rfl,⟨Q,b,d,h1,h2,rfl,h3,h4⟩,h5⟩:=h.cons;rw[hk]at h1;cases h1;have hs:=hf.2 e B i b h2 h3;have N:b.length=ks.length:=(O4 h2).trans (O4 hl).symm;have w:aa0 ks.length (b.map KV.dat++ [d])=b:=by
   unfold aa0;rw[List.take_left' (by rw[bC0];omega),aU9]
  have D:(b.map KV.dat++ [d]).getD ks.length (.int 0)=d:=by grind
  by_cases c:b=ks
  ·subst c
   rw[bC3 rfl]at hs;have C:midxR ((b.map KV.dat++ [d])::rows) b=0:=by simp[midxR,w]
   refine .inr ⟨by simp[mhasR,w],e.2,e,by rw[C];exact hs,?_,by rw[C];rfl,rfl,?_⟩
   ·simp only[mgetR,w,bI6,D];exact h4
   ·rw[C]
    simp only[mputR,w,bI6,List.set_cons_zero];exact .mk ⟨sh,b,A,hk,hl,rfl,rfl,hx⟩ h5
  ·rw[bC1 c]at hs
   have J:mhasR ((b.map KV.dat++ [d])::rows) ks=mhasR rows ks:=by simp[mhasR,w,c]
   have K:mgetR ((b.map KV.dat++ [d])::rows) ks g=mgetR rows ks g:=by simp[mgetR,w,c]
   have L:mputR ((b.map KV.dat++ [d])::rows) ks A=(b.map KV.dat++ [d])::mputR rows ks A:=by simp[mputR,w,c]
   have M:midxR ((b.map KV.dat++ [d])::rows) ks=midxR rows ks+1:=by simp[midxR,w,c]
   rw[J,K,L,M];have hc:bk2 P F kt vt e (b.map KV.dat++ [d]):=⟨sh,b,d,hk,h2,rfl,h3,h4⟩
   rcases G5 hk hl hf hx g rows B (i+1) h5 with⟨q1,q2,E,H,G⟩| ⟨q1,v,y,q2,E,H,O,G⟩
   ·exact .inl ⟨q1,by rw[hs];exact q2,E,by rw[H];rfl,.mk hc G⟩
   ·exact .inr ⟨q1,v,y,by rw[hs,q2,show i+1+midxR rows ks=i+(midxR rows ks+1) by omega],E,H,O,.mk hc G⟩
theorem by1 (d k:IntKind)(n:Int):Fd (false,[.int k]) [.i n] (ar4 (.int d) (.int k n)):=by
 refine⟨fun i=>rfl,fun e es i b hl he=>?_⟩
 match b,hl with
 | [.i n'],_=>
  have he:e.1= .int k n':=he;have hs:aT5 (.int d) (.int k n) e.1=some (decide (n=n')):=by rw[he];simp[aT5]
  by_cases c:n=n'
  ·subst c
   rw[bC3 rfl];simp only[ar4,hs,bF7]
  ·rw[bC1 (fun h=>by cases h;exact c rfl)]
   simp only[ar4,hs,bH5 c]
theorem aI4 {d : Nat} : ∀ { E : List Field} {o : Nat} {ps : List Kd} {pre pre' : List Value} {ks   g : List KV}, aw5 P o  E = some ps → pre.length = o → pre'.length = o → aa1 ps ks = true → aa1 ps   g = true →
  aA5 P (xeq P (d+1)) (pre++V1 ps ks) (pre'++V1 ps g) E=some (decide (ks=g))/\af5 P (pre++V1 ps ks) E=true/\(ks=g->aB5 (V1 ps g) (V1 ps ks)=true)
 | [],o,ps,pre,pre',ks,g,hp,h1,h2,w,y=>by
  cases hp;cases ks with
  |nil=>
   cases g with
   |nil=>exact⟨rfl,rfl,fun _=>rfl⟩
   |cons=>cases y
  |cons=>cases w
 |f::E,o,ps,pre,pre',ks,g,hp,h1,h2,w,y=>by
  unfold aw5 at hp;cases C:Nat.beq f.offset o with
  |false=>rw[C]at hp;cases hp
  |true=>
   rw[C,bB8]at hp;have C:=bA6 C;split at hp
   ·rename_i k hk
    split at hp
    ·rename_i r B
     cases hp;cases ks with
     |nil=>cases w
     |cons a ks=>
     cases g with
     |nil=>cases y
     |cons b g=>
     unfold aa1 at w y;rw[bA2]at w y;obtain⟨i1,J,K⟩:=aI4 (d:=d) (pre:=pre++ [kv1 k a]) (pre':=pre'++ [kv1 k b]) B (by simp[h1]) (by simp[h2]) w.2 y.2
     rw[bB5,bB5]at i1;rw[bB5]at J;have A:∀(q:List Value) x l,q.length=o->(q++x::l)[f.offset]? =some x:=fun q x l h=>by
      rw[bA9 (by omega),C,h,bJ7];rfl
     unfold bx4 at hk;cases hn:f.name== "_" with
     |true=>rw[hn]at hk;cases hk
     |false=>
      rw[hn,bB9]at hk;have L:V1 (k::r) (a::ks)=kv1 k a::V1 r ks:=rfl;have M:V1 (k::r) (b::g)=kv1 k b::V1 r g:=rfl;rw[L,M];split at hk<;>cases hk
      ·rename_i k D
       match a,b,w.1,y.1 with
       | .i m,.i n,_,_=>
        refine⟨?_,?_,fun e=>?_⟩
        ·simp only[aA5,hn,bB9,U5,D,ae1,A _ _ _ h1,A _ _ _ h2,kv1,xeq,bF7,bB8]
         by_cases c:m=n
         ·subst c;simp only[bF7];exact i1.trans (by simp)
         ·simp[c]
        ·simp only[af5,U5,D,ae1,bB9,A _ _ _ h1,kv1,aI3,bK0];exact J
        ·obtain⟨G,H⟩:=List.cons.inj e
         cases G;simp only[kv1,aB5,bF7,bK0];exact K H
      ·rename_i D
       match a,b,w.1,y.1 with
       | .s m,.s n,_,_=>
        refine⟨?_,?_,fun e=>?_⟩
        ·simp only[aA5,hn,bB9,U5,D,ae1,A _ _ _ h1,A _ _ _ h2,kv1,xeq]
         by_cases c:m=n
         ·subst c;simp only[beq_self_eq_true];exact i1.trans (by simp)
         ·rw[show(m==n)=false by simp[c]];simp[c]
        ·simp only[af5,U5,D,ae1,bB9,A _ _ _ h1,kv1,aI3,bK0];exact J
        ·obtain⟨G,H⟩:=List.cons.inj e
         cases G;simp only[kv1,aB5,beq_self_eq_true,bK0];exact K H
    ·cases hp
   ·cases hp
variable {ks:List KV}
theorem bf0 {kt : TypeId} { r : Array Field} {ps : List Kd} ( A : P.underlying kt = some (.struct  r)) (  w : P.stoodInHeld kt = false) (hp : aw5 P 0  r.toList = some ps)  (hl : aa1 ps ks = true) :
  Fd (true,ps) ks (W5 P kt (.agg (V1 ps ks).toArray)):=by
 refine⟨fun i=>rfl,fun e es i b g he=>?_⟩
 have he:e.1= .agg (V1 ps b).toArray:=he;obtain⟨i1,_,y⟩:=aI4 (d:=9998) (pre:=[]) (pre':=[]) hp rfl rfl hl g;have hq:xeq P 10000 kt (.agg (V1 ps ks).toArray) e.1=some (decide (ks=b)):=by
  rw[he];show xeq P (9999+1) kt _ _=_;unfold xeq
  grind
 by_cases c:ks=b
 ·have hb : xsb e.1 (.agg (V1 ps ks).toArray) = true := by
   rw[he];exact y c
  rw[bC3 c.symm];rw[decide_eq_true c]at hq;simp only[W5,hq,hb,bB8]
 ·rw[bC1 (fun h=>c h.symm)]
  simp only[W5,hq,bH5 c]
variable {sh:Bool ×List Kd}
theorem av8 {kt:TypeId}{d:TypeDesc}(hd:P.underlying kt=some d)(hk:J6 P kt=some sh)(hl:aa1 sh.2 ks=true):∃find,Fd sh ks find/\ ∀es,P1 P kt d (Y8 sh ks) es=find es 0:=by
 unfold J6 at hk;rw[hd]at hk;split at hk
 ·rename_i k b
  cases b;cases hk
  match ks,hl with
  | [.i n],_=>exact⟨_,by1 k k n,fun es=>rfl⟩
 ·rename_i h b
  cases b;cases g:P.stoodInHeld kt with
  |true=>grind
  |false=>
   rw[g,bB9]at hk;split at hk
   ·rename_i ps hp
    cases hk;refine⟨_,bf0 hd g hp hl,fun es=>?_⟩
    show(bif af5 P (V1 ps ks).toArray.toList h.toList then W5 P kt (.agg (V1 ps ks).toArray) es 0 else none)=_
    have:=(aI4 (d:=0) (pre:=[]) (pre':=[]) hp rfl rfl hl hl).2.1
    grind
   ·cases hk
 ·cases hk
theorem kI_kv (e:E):((kI e).den U).kv= .i (e.toI U):=by unfold kI;split<;>rfl
theorem kS_kv (e:E):((kS e).den U).kv= .s (e.den U).toStr:=by unfold kS;split<;>rfl
theorem az1 :∀ {ps:List Kd} {l:List SV} {xs:List Value} {ks:List E},VDL P U τ F l xs->aR1 ps l=some ks->xs=V1 ps (ks.map fun e=>(e.den U).kv)/\aa1 ps (ks.map fun e=>(e.den U).kv)=true
 | [],[],xs,ks,b,h=>by cases h;exact⟨bA7 b.1.symm,rfl⟩
 | [],_::_,xs,ks,b,h=>by cases h
 |_::_,[],xs,ks,b,h=>by cases h
 |p::ps,a::l,xs,ks,b,h=>by
  obtain⟨x,xs,rfl,h1,h2⟩:=b.uncons;unfold aR1 at h;split at h
  ·rename_i es he
   obtain⟨k1,k2⟩:=az1 h2 he;split at h
   ·rename_i k k' e
    cases hc:decide (k=k')with
    |false=>grind
    |true=>
     rw[hc]at h;have hc:=bH8 hc;subst hc;cases h;cases h1;simp only[bF2,kI_kv];exact⟨by rw[k1];rfl,k2⟩
   ·cases h
    cases h1;simp only[bF2,kS_kv];exact⟨by rw[k1];rfl,k2⟩
   ·cases h
  ·cases h
variable {k:SV}
theorem bd3 {v:Value}{ks:List E}(hk:VD P U τ F k v)(h:skey sh k=some ks):v=Y8 sh (ks.map fun e=>(e.den U).kv)/\aa1 sh.2 (ks.map fun e=>(e.den U).kv)=true:=by
 obtain⟨b,ps⟩:=sh;unfold skey at h;cases b with
 |true=>
  simp only[bB8]at h;split at h
  ·cases hk with
   |agg l xs h1 h2=>
    obtain⟨k1,k2⟩:=az1 ⟨h1,h2⟩ h;exact⟨by rw[k1];rfl,k2⟩
  ·cases h
 |false=>
  simp only[bB9]at h;obtain⟨k1,k2⟩:=az1 (VDL.cons hk VDL.nil) h;exact⟨by show v=(V1 ps _).headD undef;rw[<-k1];rfl,k2⟩
variable {m:SV}{kv mv:Value}
theorem az3 {kt vt : TypeId}   {f : Nat → E → List E → M SV} {Q : SV → Tau → (Nat → Option Blk) → Hp → Prop} (hm : VD P U τ F m mv) (hk : VD P U τ F k kv) (hs : SD P U τ F s hp)
  (hf:∀(b:Nat) (L:E) (ks:List E) (sh:Bool×List Kd) (d:TypeDesc) (i:Nat) (es:List (Value×Value)) (reg:Bool),J6 P kt=some sh->P.underlying kt=some d->mv= .map (some i)->kv=Y8 sh (ks.map fun e=>(e.den U).kv)->aa1 sh.2 (ks.map fun e=>(e.den U).kv)=true->τ b=some (some (i,0))->hp.m.get i=some (.map es reg)->reg=true->N0 P F kt vt es (L.toR U)->
   s.get b=some (.map L kt vt)->OKh P U (f b L ks) τ F s hp Q):OKh P U (aR4 P kt vt m k f) τ F s hp Q:=by
 unfold aR4;split
 ·rename_i sh b g
  split
  ·rename_i ks r
   obtain⟨k1,k2⟩:=bd3 hk r;refine OKh.read ?_;split
   ·rename_i L w A C
    cases hq:Nat.beq kt w&&Nat.beq vt A with
    |false=>exact OKh.fail
    |true=>
     simp only[bA2,bE1]at hq;obtain⟨rfl,rfl⟩:=hq;simp only[bB8];obtain⟨d,hd⟩:∃d,P.underlying kt=some d:=by
      cases h:P.underlying kt with
      |none=>unfold J6 at g;rw[h]at g;cases g
      |some d=>grind
     cases hm with
     |map _ i o ht=>
      rcases hs.live b _ C with⟨H,o',y,h1,h2,_,h0,es,reg,rfl,B,h3⟩| ⟨_,G,e',J,D,h2,_⟩
      ·grind
      ·cases h2
   ·exact OKh.fail
  ·exact OKh.fail
 ·exact OKh.fail
theorem ai7 (ks:List E):(E.dens U ks).map Dat.kv=ks.map fun e=>(e.den U).kv:=by
 rw[E.dens_eq,List.map_map];rfl
theorem aO4 (L d:E)(ks:List E):(E.op .mget (L::d::ks)).den U=mgetR (L.toR U) (ks.map fun e=>(e.den U).kv) (d.den U):=by
 show mgetR (L.toR U) ((E.dens U ks).map Dat.kv) (d.den U)=_;rw[ai7]
theorem bm7 (L:E)(ks:List E):((E.op .mhas (L::ks)).den U).toBool=mhasR (L.toR U) (ks.map fun e=>(e.den U).kv):=by
 show mhasR (L.toR U) ((E.dens U ks).map Dat.kv)=_;rw[ai7]
theorem aO6 (L d:E)(ks:List E):(E.op .mput (L::d::ks)).toR U=mputR (L.toR U) (ks.map fun e=>(e.den U).kv) (d.den U):=by
 show mputR (L.toR U) ((E.dens U ks).map Dat.kv) (d.den U)=_;rw[ai7]
theorem aX7 {t : TypeId}   {ok : Bool} (hm : VD P U τ F m mv) (hk : VD P U τ F k kv) (hs : SD P U τ F s hp) :
  OKh P U (aJ5 P t m k ok) τ F s hp fun a τ' F' hp'=>hp'=hp/\ ∃v,w9 P hp t mv kv ok=some v/\VD P U τ' F' a v:=by
 unfold aJ5;split
 ·rename_i kt vt N
  refine az3 hm hk hs fun b L ks sh dd i es reg J D R T w e5 K M V e8=>?_
  unfold bq3;split
  ·rename_i z hz
   obtain⟨zv,Q,Y⟩:=H8 (U:=U) (τ:=τ) (F:=F) hz;obtain⟨zc,zs,X,Z,z4⟩:=Y.uncons;cases C:as4 (E1 P vt)with
   |false=>exact OKh.fail
   |true=>
   simp only[Bool.not_true,bB9];have G:zv=zc:=by
    rw[Q]at C;have hc:zv.cells.toList=[zv]:=by
     unfold as4 at C;split at C
     ·rename_i h;cases h;rfl
     ·rename_i h;cases h;rfl
     ·rename_i h;cases h;rfl
     ·cases C
    grind
   subst G;split
   ·rename_i d hd
    have A:=Q2 Z hd;split
    ·rename_i v O
     subst R;subst T;obtain⟨find,E,r⟩:=av8 D J w;have B:=G5 J w E A (d.den U) (L.toR U) es 0 V;have y:=aO4 (U:=U) L d ks;have W:=bm7 (U:=U) L ks
     rcases B with⟨q1,q2,H,_⟩| ⟨q1,x,_,q2,H,_⟩
     ·refine OKh.ret ⟨rfl,bif ok then .tuple #[zv,.bool false]else zv,?_,?_⟩
      ·simp only[w9,N,D,K,r,q2,Q]
      ·have g:=aj2 (τ:=τ) (U:=U) (x:=zv) (F:=F) (P:=P) (by rw[y,H];exact A) O
       cases ok with
       |false=>exact g
       |true=>
        have hb:VD P U τ F (.bool (.op .mhas (L::ks))) (.bool false):=by
         have:=VD.bool (P:=P) (U:=U) (τ:=τ) (F:=F) (.op .mhas (L::ks))
         grind
        exact .tup [_,_] [zv,.bool false] rfl (VDL.cons g (VDL.cons hb VDL.nil)).2
     ·rw[bD3]at q2
      refine OKh.ret ⟨rfl,bif ok then .tuple #[x,.bool true]else x,?_,?_⟩
      ·simp only[w9,N,D,K,r,q2]
      ·have g:=aj2 (τ:=τ) (U:=U) (x:=x) (F:=F) (P:=P) (by rw[y];exact H) O
       cases ok with
       |false=>exact g
       |true=>
        have hb:VD P U τ F (.bool (.op .mhas (L::ks))) (.bool true):=by
         have:=VD.bool (P:=P) (U:=U) (τ:=τ) (F:=F) (.op .mhas (L::ks))
         grind
        exact .tup [_,_] [x,.bool true] rfl (VDL.cons g (VDL.cons hb VDL.nil)).2
    ·exact OKh.fail
   ·exact OKh.fail
  ·exact OKh.fail
 ·exact OKh.fail
variable {xv:Value}
theorem aY0 {t : TypeId} {x:SV}  (hm : VD P U τ F m mv) (hk : VD P U τ F k kv) (hx : VD P U τ F x xv) (hs : SD P U τ F s hp) :
  OKh P U (aJ7 P t m k x) τ F s hp fun a _ _ hp'=>a= .tup []/\Q4 P hp t mv kv xv=some hp':=by
 unfold aJ7;split
 ·rename_i kt vt N
  refine az3 hm hk hs fun b L ks sh Y i es reg H A O Q h J K d R M=>?_
  split
  ·rename_i e he
   have C:=Q2 hx he;subst O;subst Q;obtain⟨find,B,g⟩:=av8 A H h;have w:=G5 H h B C (e.den U) (L.toR U) es 0 R;have r:=aO6 (U:=U) L e ks
   rcases w with⟨q1,q2,_,_,D⟩| ⟨q1,v,_,q2,_,_,_,D⟩
   ·refine(OKh.change (x':= .map (.op .mput (L::e::ks)) kt vt) (y:= .map (es++ [(Y8 sh (ks.map fun e=>(e.den U).kv),xv)]) reg) (m:=hp.m.set i (some (.map (es++ [(Y8 sh (ks.map fun e=>(e.den U).kv),xv)]) reg))) M J (fun j hj=>by rw[T.get_set,bC1 hj]) (by rw[T.get_set,bC3 rfl]) ⟨rfl,_,reg,rfl,d,by rw[r];exact D⟩).bind fun _ G F3 V hp3 _ _ ⟨W,X,E⟩=>OKh.ret ⟨rfl,?_⟩
    simp only[Q4,N,A,K,g,q2,E]
   ·rw[bD3]at q2
    refine(OKh.change (x':= .map (.op .mput (L::e::ks)) kt vt) (y:= .map (es.set (midxR (L.toR U) (ks.map fun e=>(e.den U).kv)) (Y8 sh (ks.map fun e=>(e.den U).kv),xv)) reg) (m:=hp.m.set i (some (.map (es.set (midxR (L.toR U) (ks.map fun e=>(e.den U).kv)) (Y8 sh (ks.map fun e=>(e.den U).kv),xv)) reg))) M J (fun j hj=>by rw[T.get_set,bC1 hj]) (by rw[T.get_set,bC3 rfl]) ⟨rfl,_,reg,rfl,d,by rw[r];exact D⟩).bind fun _ G F3 V hp3 _ _ ⟨W,X,E⟩=>OKh.ret ⟨rfl,?_⟩
    simp only[Q4,N,A,K,g,q2,E]
  ·exact OKh.fail
 ·exact OKh.fail
theorem aJ6 {t : TypeId}   (hm : VD P U τ F m mv) (hk : VD P U τ F k kv) (hs : SD P U τ F s hp) :
  OKh P U (ao3 P t m k) τ F s hp fun a τ' F' hp'=>∃v,D9 P hp t mv kv=some (v,hp')/\VD P U τ' F' a v:=by
 unfold ao3;split
 ·rename_i kt vt hu
  refine az3 hm hk hs fun b L ks sh dd i es reg J K e3 e4 w Y Z A e7 e8=>?_
  split
  ·rename_i z hz
   obtain⟨zv,z1,z2⟩:=H8 (U:=U) (τ:=τ) (F:=F) hz;obtain⟨zc,zs,aa,z3,z4⟩:=z2.uncons;cases H:as4 (E1 P vt)with
   |false=>exact OKh.fail
   |true=>
   simp only[Bool.not_true,bB9];have N:zv=zc:=by
    rw[z1]at H;have hc:zv.cells.toList=[zv]:=by
     unfold as4 at H;split at H
     ·rename_i h;cases h;rfl
     ·rename_i h;cases h;rfl
     ·rename_i h;cases h;rfl
     ·cases H
    grind
   subst N;split
   ·rename_i d hd
    have D:=Q2 z3 hd;split
    ·rename_i v hv
     subst e3;subst e4;subst A;obtain⟨find,B,r⟩:=av8 K J w;have g:=aO4 (U:=U) L d ks;have C:=aO6 (U:=U) L (.op .mget (L::d::ks)) ks;have M:(E.op .mix (L::ks)).toI U=(midxR (L.toR U) (ks.map fun e=>(e.den U).kv):Nat):=by
      show((midxR (L.toR U) ((E.dens U ks).map Dat.kv):Nat):Int)=_;rw[ai7]
     have ent:∀(x:Value),PV P F (kd1 P vt) x ((E.op .mget (L::d::ks)).den U)->VD P U τ F (.tup [v,.int .i64 (.op .mix (L::ks))]) (.tuple #[x,.int .i64 (midxR (L.toR U) (ks.map fun e=>(e.den U).kv):Nat)]):=fun x hx=>by
      rw[<-M];exact .tup [_,_] [x,_] rfl (VDL.cons (aj2 (τ:=τ) (U:=U) hx hv) (VDL.cons (.int _ _) VDL.nil)).2
     rcases G5 J w B D (d.den U) (L.toR U) es 0 e7 with⟨q1,q2,G,Q,O⟩| ⟨q1,x,y,q2,G,Q,q6,_⟩
     ·refine(OKh.change (x':= .map (.op .mput (L:: .op .mget (L::d::ks)::ks)) kt vt) (y:= .map (es++ [(Y8 sh (ks.map fun e=>(e.den U).kv),zv)]) true) (m:=hp.m.set i (some (.map (es++ [(Y8 sh (ks.map fun e=>(e.den U).kv),zv)]) true))) e8 Y (fun j hj=>by rw[T.get_set,bC1 hj]) (by rw[T.get_set,bC3 rfl]) ⟨rfl,_,true,rfl,rfl,by rw[C,g,G];exact O⟩).bind fun _ X F3 s3 hp3 _ _ ⟨R,V,W⟩=>OKh.ret ?_
      subst R;subst V;exact⟨_,by simp only[D9,hu,K,Z,r,q2,z1,W];rw[<-Q],ent zv (by rw[g,G];exact D)⟩
     ·rw[bD3]at q2
      rcases G5 J w B G (d.den U) (L.toR U) es 0 e7 with⟨k1,_⟩| ⟨_,_,_,_,_,_,_,O⟩
      ·grind
      refine(OKh.change (x':= .map (.op .mput (L:: .op .mget (L::d::ks)::ks)) kt vt) (y:= .map (es.set (midxR (L.toR U) (ks.map fun e=>(e.den U).kv)) (Y8 sh (ks.map fun e=>(e.den U).kv),x)) true) (m:=hp.m.set i (some (.map (es.set (midxR (L.toR U) (ks.map fun e=>(e.den U).kv)) (Y8 sh (ks.map fun e=>(e.den U).kv),x)) true))) e8 Y (fun j hj=>by rw[T.get_set,bC1 hj]) (by rw[T.get_set,bC3 rfl]) ⟨rfl,_,true,rfl,rfl,by rw[C,g];exact O⟩).bind fun _ X F3 s3 hp3 _ _ ⟨R,V,W⟩=>OKh.ret ?_
      subst R;subst V;exact⟨_,by simp only[D9,hu,K,Z,r,q2,Q,q6,W],ent x (by rw[g];exact G)⟩
    ·exact OKh.fail
   ·exact OKh.fail
  ·exact OKh.fail
 ·exact OKh.fail
theorem ay9 {x:SV}  (hm : VD P U τ F m mv) (hk : VD P U τ F k kv) (hx : VD P U τ F x xv) (hs : SD P U τ F s hp) :
  OKh P U (ab1 P U m k x) τ F s hp fun a _ _ hp'=>a= .tup []/\G9 hp mv kv xv=some hp':=by
 unfold ab1;split
 ·rename_i b kd e
  refine OKh.read ?_;split
  ·rename_i L kt vt G
   split
   ·rename_i sh ex C A
    have J:=Q2 hx A;refine OKh.bindp OKp.need fun _ s1 K hs1 p1=>OKh.bindp OKp.need fun _ s2 M H p2=>?_
    have p1:=n9 p1;have p2:=q8 p2;rw[c9]at p2;simp only[o6]at p1;cases hm with
    |map _ i o ht=>
     cases hk
     rcases hs.live b _ G with⟨W,o',y,h1,h2,_,h0,es,reg,rfl,w,h3,h4⟩| ⟨_,V,e',z',N,h2,_⟩
     ·rw[ht]at h1
      cases h1;subst h0;subst w;obtain⟨n,hn⟩:∃n:Nat,e.toI U=n:=⟨(e.toI U).toNat,by omega⟩
      rw[hn]at p2⊢;have r:n<(L.toR U).length:=by omega
      have h:n<es.length:=by omega
      have B:s2.get b=some (.map L kt vt):=by rw[M.get,K.get];exact G
      obtain⟨O,ks,d,k1,k2,k3,X,Y⟩:=h4 n _ _ (bB3 r) (bB3 h);rw[C]at k1;cases k1;have D:(E.op (.upd sh.2.length) [L,e,ex]).toR U=(L.toR U).set n (ks.map KV.dat++ [ex.den U]):=by
       show setAt (L.toR U) (e.toI U) sh.2.length (ex.den U)=_;unfold setAt;have hm:∀(l:Rows) (g:List Dat->List Dat) (hl:n<l.length),l.modify n g=l.set n (g l[n]):=fun l g hl=>by
        refine List.ext_getElem? fun j=>?_
        grind
       rw[hn,bE2,hm _ _ r];rw[k3,List.set_append_right _ _ (by rw[bC0,O4 k2];exact bC4 _),bC0,O4 k2,bJ7];rfl
      refine(OKh.change (x':= .map (.op (.upd sh.2.length) [L,e,ex]) kt vt) (y:= .map (es.set n (es[n].1,xv)) true) (m:=hp.m.set i (some (.map (es.set n (es[n].1,xv)) true))) B ht (fun j hj=>by rw[T.get_set,bC1 hj]) (by rw[T.get_set,bC3 rfl]) ⟨rfl,_,true,rfl,rfl,?_⟩).bind fun _ R F3 Z hp3 _ _ ⟨w1,w2,Q⟩=>OKh.ret ⟨rfl,?_⟩
      ·rw[D]
       refine⟨by simp[h3],fun j row e0 hr he=>?_⟩
       grind
      ·simp only[G9,h2,bB3 h,Q]
     ·cases h2
   ·exact OKh.fail
  ·exact OKh.fail
 ·exact OKh.fail
end
end Go.Sx
namespace Go.Sx
open Go.Xe
structure B3 where
 run:FuncId->List SV->M SV
 round:List Nat->List SV->FuncId->Nat->List Nat->Code->Code->List SV->M SV
def aY1 (P:Program)(t:TypeId)(x:SV):M SV:=match P.underlying t,x with
 |some .string,.str e=>a7 (V8 (.iter e (.int 0))) fun b=>b9 (.ptr b 1 (.int 0) 0)
 |_,_=>a6 "range"
def bq6 (U : Nat → List Dat → Dat) (isS : Bool) (it : SV) : M SV := match isS, it with
 | true, .ptr b _ (.int m) f => bif decide (m = 0) && Nat.beq f 0 then i7 fun s => match s.get b with
   | some (.iter str pos) => a7 (aa4 U (l6 pos (R0 str))) fun t =>
     bif t then a7 (Y9 b (some (.iter str (l9 pos (.op .srw [str,pos]))))) fun _=>b9 (.tup [.bool (.bool true),.int .i64 pos,.int .i32 (.op .srune [str,pos])])
     else b9 (.tup [.bool (.bool false)])
   |_=>a6 "next: no iterator"
  else a6 "next"
 |_,_=>a6 "next"
def bi6 (f:Fm):Option Operand->Option (Option SV)
 |none=>some none
 |some x=>match f6 f x with
  |some v=>some (some v)
  |none=>none
def aV4 (s i:E):E:=match s,i with
 | .str l,.int n=>match l[n.toNat]? with
  |some b=>.int b.toNat
  |none=>.op .sidx [s,i]
 |s,i=>.op .sidx [s,i]
section
variable (P :Program)(U:Nat->List Dat->Dat)
def aX6 (t : TypeId) (x i : SV) : M SV :=
 match i with
 | .int _ n => match P.underlying t with
  |some .string=>match x with
   | .str s=>a7 (i3 U (k9 (l6 n (.int 0)))) fun _=>a7 (i3 U (l6 n (R0 s))) fun _=>b9 (.int .u8 (aV4 s n))
   |_=>a6 "index: string"
  | some (.array len e) => match x, n with
   | .agg cs, .int m => bif decide (0 ≤ m) && decide (m < len) then
     match P.info? e with
     |some ie=>ae2 "index" (aG4 P e cs (m.toNat*ie.size))
     |none=>a6 "index: type"
    else a6 "index: beyond"
   |_,_=>a6 "index: array"
  |_=>a6 "index: type"
 |_=>a6 "index: no int"
def aG3 (x:SV):M SV:=
 match x with
 | .ptr b z row fld=>b9 (.ptr b z row fld)
 | .pptr t L row fld=>b9 (.pptr t L row fld)
 | .fn (.func f) a b=>b9 (.fn (.func f) a b)
 |_=>a6 "nil"
def aQ5 (b:Builtin)(ats:List TypeId)(args:List SV):M SV:=
 match b,ats,args with
 | .append,[t,u],[s,x]=>bc4 P U t u s x
 | .len,[t],[x]=>slen P t x
 | .cap,[t],[x]=>scap P t x
 | .min,_,x::xs=>bi4 U false x xs
 | .max,_,x::xs=>bi4 U true x xs
 |_,_,_=>a6 "builtin"
def bc8 (call:B3)(f:SV)(args:List SV):M SV:=
 match f with
 | .fn (.func g) first captured=>match P.funcs[g]? with
  |some fn=>bif O7 fn then call.run g (first++args++captured)else a6 "call: no body"
  |none=>a6 "call: no function"
 | .yld ks vs g nt ps as bo=>call.round ks vs g nt ps as bo args
 |_=>a6 "call: value"
def sop (call:B3)(f:Fm)(o:Op):M SV:=
 match o with
 | .move x=>ae2 "move" (f6 f x)
 | .assign x=>ae2 "assign" (f6 f x)
 | .pick c a b=>match f6 f c with
  |some (.bool e)=>a7 (aa4 U e) fun t=>bif t then ae2 "pick" (f6 f a)else ae2 "pick" (f6 f b)
  |_=>a6 "pick"
 | .alloc e=>match ab4 P e with
  |some l=>sbox e l
  |none=>a6 "alloc"
 | .box e x=>match f6 f x with
  |some v=>match o8 v with
   |some l=>sbox e l
   |none=>a6 "box"
  |none=>a6 "box"
 | .build t parts=>match ab3 f parts.toList with
  |some ps=>ae2 "build" (aX2 P t ps)
  |none=>a6 "build"
 | .buildSlice t len parts=>match ab3 f parts.toList with
  |some ps=>aa8 P t len ps
  |none=>a6 "buildSlice"
 | .load t a=>match f6 f a with
  |some v=>bd4 P U t v
  |none=>a6 "load"
 | .store t a x=>match f6 f a with
  |some v=>match f6 f x with
   |some u=>aY5 P U t v u
   |none=>a6 "store"
  |none=>a6 "store"
 | .nilCheck x=>match f6 f x with
  |some v=>aG3 v
  |none=>a6 "nil"
 | .binOp op t x y _=>match f6 f x with
  |some v=>match f6 f y with
   |some u=>bp4 P U op t v u
   |none=>a6 "binOp"
  |none=>a6 "binOp"
 | .unOp op _ x=>match f6 f x with
  |some v=>sun U op v
  |none=>a6 "unOp"
 | .convert s d x=>match f6 f x with
  |some v=>bp7 P U s d v
  |none=>a6 "convert"
 | .makeInterface t x=>match f6 f x with
  |some v=>ae2 "interface" (aX5 P t v)
  |none=>a6 "interface"
 | .makeFunc fn first captured=>match aQ9 f first.toList with
  |some fs=>match aQ9 f captured.toList with
   |some cs=>b9 (.fn fn fs cs)
   |none=>a6 "makeFunc"
  |none=>a6 "makeFunc"
 | .makeSlice t l c=>match f6 f l with
  |some v=>match f6 f c with
   |some u=>ag8 P U t v u
   |none=>a6 "makeSlice"
  |none=>a6 "makeSlice"
 | .slice t x lo hi mx=>match f6 f x with
  |some v=>match bi6 f lo with
   |some l=>match bi6 f hi with
    |some h=>match bi6 f mx with
     |some m=>aY4 P U t v l h m
     |none=>a6 "slice"
    |none=>a6 "slice"
   |none=>a6 "slice"
  |none=>a6 "slice"
 | .fieldAddr t x i=>match f6 f x with
  |some v=>ae2 "fieldAddr" (ag6 P t v i)
  |none=>a6 "fieldAddr"
 | .field t x i=>match f6 f x with
  |some v=>ae2 "field" (aX4 P t v i)
  |none=>a6 "field"
 | .indexAddr t x i=>match f6 f x with
  |some v=>match f6 f i with
   |some u=>ag7 P U t v u
   |none=>a6 "indexAddr"
  |none=>a6 "indexAddr"
 | .index t x i=>match f6 f x with
  |some v=>match f6 f i with
   |some u=>aX6 P U t v u
   |none=>a6 "index"
  |none=>a6 "index"
 | .extract x i=>match f6 f x with
  |some v=>ae2 "extract" (az0 v i)
  |none=>a6 "extract"
 | .range t x=>match f6 f x with
  |some v=>aY1 P t v
  |none=>a6 "range"
 | .makeMap t r=>ak5 P t r
 | .lookup t x k ok=>match f6 f x with
  |some v=>match f6 f k with
   |some u=>aJ5 P t v u ok
   |none=>a6 "lookup"
  |none=>a6 "lookup"
 | .mapEntry t m k=>match f6 f m with
  |some v=>match f6 f k with
   |some u=>ao3 P t v u
   |none=>a6 "entry"
  |none=>a6 "entry"
 | .entryStore _ m k x=>match f6 f m with
  |some v=>match f6 f k with
   |some u=>match f6 f x with
    |some y=>ab1 P U v u y
    |none=>a6 "entry"
   |none=>a6 "entry"
  |none=>a6 "entry"
 | .mapUpdate t m k x=>match f6 f m with
  |some v=>match f6 f k with
   |some u=>match f6 f x with
    |some y=>aJ7 P t v u y
    |none=>a6 "map"
   |none=>a6 "map"
  |none=>a6 "map"
 | .next it isS=>match f6 f it with
  |some v=>bq6 U isS v
  |none=>a6 "next"
 | .call c=>match aQ9 f c.args.toList with
  |some args=>match c.callee with
   | .builtin b=>aQ5 P U b c.argTypes.toList args
   | .value g=>match f6 f g with
    |some v=>bc8 P call v args
    |none=>a6 "call"
   |_=>a6 "call: method"
  |none=>a6 "call: operands"
 |_=>a6 "operation"
end
section
variable {P :Program}{U:Nat->List Dat->Dat}{τ:Tau}{F:Nat->Option Blk}{s:SS}{hp:Hp}{ov:FuncId->Option TypeId}
def EV (p:Nat->Prop):Prop:=∃n0,∀n,n0<=n->p n
variable {p:Nat->Prop}
theorem EV.of (h:∀n,p n):EV p:=⟨0,fun n _=>h n⟩
variable {q:Nat->Prop}
theorem EV.and (h:EV p)(k:EV q):EV fun n=>p n/\q n:=by
 obtain⟨a,d⟩:=h;obtain⟨b,hb⟩:=k;exact⟨Nat.max a b,fun n hn=>⟨d n (bF8 (Nat.le_max_left a b) hn),hb n (bF8 (Nat.le_max_right a b) hn)⟩⟩
theorem EV.mono (h:EV p)(k:∀n,p n->q n):EV q:=by
 obtain⟨a,b⟩:=h;exact⟨a,fun n hn=>k n (b n hn)⟩
variable (P ov) in
def XOp (o:Op)(tm:T Value)(hp:Hp)(v:Value)(hp':Hp):Prop:=EV fun n=>xop P (exec P ov n) tm hp o=some (v,hp')
variable (P ov) in
def E4 (g:FuncId)(args:List Value)(hp:Hp)(v:Value)(hp':Hp):Prop:=EV fun n=>(exec P ov n).run g args hp=some (v,hp')
variable (P U ov) in
structure s7 (call:B3):Prop where
 run:∀g l args τ F s hp,VDL P U τ F l args->SD P U τ F s hp->OKh P U (call.run g l) τ F s hp fun a τ' F' hp'=>∃v,E4 P ov g args hp v hp'/\VD P U τ' F' a v
 round:∀ks vs g nt ps as bo l args τ F s hp i,VD P U τ F (.yld ks vs g nt ps as bo) (.chan (some i))->VDL P U τ F l args->SD P U τ F s hp->
  OKh P U (call.round ks vs g nt ps as bo l) τ F s hp fun a τ' F' hp'=>∃v,(EV fun n=>(exec P ov n).round i args hp=some (v,hp'))/\VD P U τ' F' a v
variable {tm:T Value}
theorem aK0 {f:Fm}(h:TD P U τ F f tm){o:Option Operand}{a:Option SV}(e:bi6 f o=some a):∃v,ae5 tm o=some v/\OVD P U τ F a v:=by
 cases o with
 |none=>simp only[bi6,bA1]at e;subst e;exact⟨none,rfl,trivial⟩
 |some o=>
  simp only[bi6]at e;cases b:f6 f o with
  |none=>simp[b]at e
  |some a'=>
   simp only[b,bA1]at e;subst e;obtain⟨v,h1,h2⟩:=o7 h b;exact⟨some v,by simp[ae5,h1],h2⟩
theorem aV5 {a i:E}(h0:0<=i.toI U)(h1:i.toI U<(a.den U).toStr.length):(aV4 a i).toI U=(((a.den U).toStr[(i.toI U).toNat]'(by omega)).toNat:Int):=by
 have d:(E.op .sidx [a,i]).toI U=(((a.den U).toStr[(i.toI U).toNat]'(by omega)).toNat:Int):=by
  show((((a.den U).toStr.getD (i.toI U).toNat 0).toNat:Nat):Int)=_
  grind
 unfold aV4;split
 ·rename_i l n
  split
  ·rename_i b hb
   show(b.toNat:Int)=_;have:l[(E.toI U (.int n)).toNat]? =some b:=hb;rw[bB3 (show(E.toI U (.int n)).toNat<l.length by have:(E.toI U (.int n))<l.length:=h1;omega),bA1]at this
   rw[<-this];rfl
  ·exact d
 ·exact d
theorem bi3 {t:TypeId}{a b:SV}{v u:Value}(g:VD P U τ F a v)(hb:VD P U τ F b u):OKp U (aX6 P U t a b) s fun c=>∃w,ac0 P t v u=some w/\VD P U τ F c w:=by
 unfold aX6;split
 ·rename_i k n
  cases hb;split
  ·rename_i ht
   split
   ·rename_i e
    cases g;refine OKp.need.bind fun _ _ _ _ h1=>OKp.need.bind fun _ _ _ _ h2=>OKp.ret ?_
    have h1:=V4 h1;have h2:=q8 h2;rw[G2]at h2;have hl:(n.toI U).toNat<(e.den U).toStr.length:=by omega
    refine⟨.int .u8 (((e.den U).toStr[(n.toI U).toNat]).toNat:Int),?_,VD.int' (aV5 h1 h2)⟩;simp only[ac0,ht]
    grind
   ·exact OKp.fail
  ·rename_i len e ht
   split
   ·rename_i cs m
    cases hq:decide (0<=m)&&decide (m<(len:Int))with
    |false=>exact OKp.fail
    |true=>
     simp only[bB8];split
     ·rename_i ie d
      obtain⟨xs,rfl,hx⟩:=VDL.of_agg g;refine OKp.opt fun c hc=>?_
      obtain⟨w,h1,h2⟩:=ak7 hx hc;refine⟨w,?_,h2⟩;simp only[ac0,ht];rw[show(decide (0<=(E.int m).toI U)&&decide ((E.int m).toI U<(len:Int)))=true from hq,bB8,d];exact h1
     ·exact OKp.fail
   ·exact OKp.fail
  ·exact OKp.fail
 ·exact OKp.fail
theorem OKp.op {m:M SV}{o:Op}{x:Option Value}(hx:∀n,xop P (exec P ov n) tm hp o=d8 hp x)(h:OKp U m s fun a=>∃v,x=some v/\VD P U τ F a v):OKh P U m τ F s hp fun a τ' F' hp'=>∃v,XOp P ov o tm hp v hp'/\VD P U τ' F' a v:=
 (h.up (P:=P) (τ:=τ) (F:=F) (hp:=hp)).mono fun a τ' F' hp' _ _ ⟨b,d,g,v,h1,h2⟩=>by
  subst b;subst d;subst g;exact⟨v,EV.of fun n=>by rw[hx,h1];rfl,h2⟩
variable {x:Value}
theorem bi7 {t : TypeId} {v : SV}  ( h : VD P U τ F v x) (hs : SD P U τ F s hp) :
  OKh P U (aY1 P t v) τ F s hp fun a τ' F' hp'=>∃n,am0 P t x=some n/\hp'=(hp.add n).2/\VD P U τ' F' a (hp.add n).1:=by
 unfold aY1;split
 ·rename_i e g
  cases h;refine(OKh.alloc (x:= .iter e (.int 0)) (y:= .sit ⟨(e.den U).toStr.toArray⟩ 0) hs fun τ' _=>⟨rfl,0,rfl,rfl⟩).bind fun b τ' F' s' hp' _ d ⟨h1,h2,h3⟩=>OKh.ret ?_
  subst h1;subst h3;refine⟨⟨.sit ⟨(e.den U).toStr.toArray⟩ 0,.ptr,rfl⟩,by simp only[am0,g],rfl,?_⟩
  exact VD.ptr' h2 (by show(0:Int)<=0;omega) (by show 0=0+(0:Int).toNat*_+0;simp)
 ·exact OKh.fail
theorem bq7 {isS : Bool} {v : SV}  ( g : VD P U τ F v x) (_hs : SD P U τ F s hp) :
  OKh P U (bq6 U isS v) τ F s hp fun a τ' F' hp'=>∃u,aB1 hp x isS=some (u,hp')/\VD P U τ' F' a u:=by
 unfold bq6;split
 ·rename_i b z m f
  cases hc:decide (m=0)&&Nat.beq f 0 with
  |false=>exact OKh.fail
  | true =>
   simp only[bA2,bC2,bE1]at hc;obtain⟨rfl,rfl⟩:=hc;rw[bB8];refine OKh.read ?_;split
   ·rename_i str pos hb
    refine OKh.bindp OKp.test fun t s1 D hs1 ht=>?_
    have r:s1.get b=some (.iter str pos):=by rw[D.get];exact hb
    rcases hs1.live b _ r with⟨i,o,y,k1,k2,k3,rfl,n,rfl,w⟩| ⟨_,L,e,M,ph,h,_⟩
    ·cases  g with
     | ptr _ _ _ _  K o' h h0 =>
      rw[k1]at h;simp only[bA1,bA3]at h;obtain⟨rfl,rfl⟩:=h;have d:0+(E.int 0).toN U*z+0=0:=by show 0+(0:Int).toNat*z+0=0;simp
      rw [d];rw [s9,G2,w] at ht;have hx : aB1 hp (.pointer (some ⟨i, 0, none⟩)) true = bif Nat.blt n (str.den U).toStr.length then
        some (.tuple #[.bool true,.int .i64 n,.int .i32 (Utf8.decode ⟨(str.den U).toStr.toArray⟩ n).1],{hp with m:=hp.m.set i (some (.sit ⟨(str.den U).toStr.toArray⟩ (n+(Utf8.decode ⟨(str.den U).toStr.toArray⟩ n).2)))})
        else some (.tuple #[.bool false],hp):=by
       simp only[aB1,k2]
      have hn:pos.toI U=(n:Int):=w;cases t with
      |true=>
       rw[bC2]at ht;have hlt:Nat.blt n (str.den U).toStr.length=true:=bA8 (by omega)
       rw[hlt,bB8]at hx;have C:runeW (str.den U).toStr (pos.toI U)=((Utf8.decode ⟨(str.den U).toStr.toArray⟩ n).2:Nat):=by rw[hn];simp[runeW]
       have B:runeAt (str.den U).toStr (pos.toI U)=(Utf8.decode ⟨(str.den U).toStr.toArray⟩ n).1:=by rw[hn];simp[runeAt]
       rw[bB8];refine OKh.bind (R:=fun _ τ' F' hp'=>τ'=τ/\F'=F/\hp'= {hp with m:=hp.m.set i (some (.sit ⟨(str.den U).toStr.toArray⟩ (n+(Utf8.decode ⟨(str.den U).toStr.toArray⟩ n).2)))}) ?_ fun _ τ2 G s2 hp2 _ _ ⟨H,J,A⟩=>OKh.ret ⟨.tuple #[.bool true,.int .i64 n,.int .i32 (Utf8.decode ⟨(str.den U).toStr.toArray⟩ n).1],?_,?_⟩
       ·intro Q hq _
        obtain⟨h1,h2⟩:=hs1.change (x':= .iter str (l9 pos (.op .srw [str,pos]))) r k1 (y:= .sit ⟨(str.den U).toStr.toArray⟩ (n+(Utf8.decode ⟨(str.den U).toStr.toArray⟩ n).2))
         (hp':= {hp with m:=hp.m.set i (some (.sit ⟨(str.den U).toStr.toArray⟩ (n+(Utf8.decode ⟨(str.den U).toStr.toArray⟩ n).2)))}) rfl (fun j hj=>by simp[T.get_set,hj]) (by simp[T.get_set])
         ⟨rfl,_,rfl,by rw[f7,hn];show(n:Int)+runeW (str.den U).toStr (pos.toI U)=_;rw[C];omega⟩
        exact⟨(),_,hq,τ,F,_,h1,h2,rfl,rfl,rfl⟩
       ·rw[hx,A]
       ·refine .tup _ [.bool true,.int .i64 n,.int .i32 (Utf8.decode ⟨(str.den U).toStr.toArray⟩ n).1] rfl fun j a v d g=>?_
        match j,d,g with
        |0,d,g=>simp at d g;subst d;subst g;exact .bool (.bool true)
        |1,d,g=>simp at d g;subst d;subst g;exact VD.int' hn
        |2,d,g=>simp at d g;subst d;subst g;exact VD.int' B
        |j+3,d,g=>simp at d
      |false=>
       rw[bE9]at ht;have hlt:Nat.blt n (str.den U).toStr.length=false:=by
        cases hb:Nat.blt n (str.den U).toStr.length with
        |false=>rfl
        |true=>exact absurd (by have:=bA5 hb;omega) ht
       rw[hlt,bB9]at hx;rw[bB9];refine OKh.ret ⟨_,hx,.tup _ [.bool false] rfl fun j a v d g=>?_⟩
       match j,d,g with
       |0,d,g=>simp at d g;subst d;subst g;exact .bool (.bool false)
       |j+1,d,g=>simp at d
    ·cases h
   ·exact OKh.fail
 ·exact OKh.fail
theorem aJ9 {call:B3}(H:s7 P U ov call){f:Fm}(ht:TD P U τ F f tm)(hs:SD P U τ F s hp)(o:Op):OKh P U (sop P U call f o) τ F s hp fun a τ' F' hp'=>∃v,XOp P ov o tm hp v hp'/\VD P U τ' F' a v:=by
 have A:=fun{x:Operand} {a:SV} (e:f6 f x=some a)=>o7 (P:=P) (U:=U) ht e
 cases o with
 |move x=>exact OKp.op (x:=a8 tm x) (fun n=>by rw[a9];rfl) (OKp.opt fun a h=>A h)
 |assign x=>exact OKp.op (x:=a8 tm x) (fun n=>by rw[a9];rfl) (OKp.opt fun a h=>A h)
 |pick c a b=>
  simp only[sop];split
  ·rename_i e he
   obtain⟨v,h1,h2⟩:=A he;cases h2;refine OKp.op (x:=bif (e.den U).toBool then a8 tm a else a8 tm b) (fun n=>by rw[a9];simp only[d9,h1];cases(e.den U).toBool<;>rfl) ?_
   refine OKp.test.bind fun t _ _ _ h=>?_
   rw[h];cases t with
   |true=>exact OKp.opt fun a h=>A h
   |false=>exact OKp.opt fun a h=>A h
  ·exact OKh.fail
 |alloc e=>
  simp only[sop];split
  ·rename_i l hl
   obtain⟨z,h1,h2⟩:=H8 (U:=U) (τ:=τ) (F:=F) hl;refine(bc5 h2 hs).mono fun a τ' F' hp' _ _ ⟨C,B⟩=>⟨_,EV.of fun n=>?_,B⟩
   rw[a9];simp only[d9,xnw,ad6,h1,C7];rw[(bA3 _ _ _ _).mp C|>.2]
  ·exact OKh.fail
 |box e x=>
  simp only[sop];split
  ·rename_i v d
   split
   ·rename_i l hl
    obtain⟨w,h1,h2⟩:=A d;refine(bc5 (ac9 h2 hl) hs).mono fun a τ' F' hp' _ _ ⟨C,B⟩=>⟨_,EV.of fun n=>?_,B⟩
    rw[a9];simp only[d9,xnw,h1,C7,aG9];rw[(bA3 _ _ _ _).mp C|>.2]
   ·exact OKh.fail
  ·exact OKh.fail
 |build t T=>
  simp only[sop];split
  ·rename_i ps Q
   obtain⟨qs,h1,h2⟩:=ad2 ht Q;exact OKp.op (x:=ah1 P t qs) (fun n=>by rw[a9];simp only[d9,h1]) (OKp.opt fun a h=>bh7 h2 h)
  ·exact OKh.fail
 |buildSlice t len T=>
  simp only[sop];split
  ·rename_i ps Q
   obtain⟨qs,h1,h2⟩:=ad2 ht Q;refine(ay5 h2 hs).mono fun a τ' F' hp' _ _ ⟨n,C,B,K⟩=>⟨_,EV.of fun m=>?_,K⟩
   rw[a9];simp only[d9,xnw,h1,C,C7,B]
  ·exact OKh.fail
 |makeMap t r=>
  simp only[sop];cases r with
  |some r=>
   unfold ak5;split
   ·grind
   ·exact OKh.fail
  |none=>
   refine(aR3 (t:=t) hs).mono fun a τ' F' hp' _ _ ⟨⟨kt,vt,e0⟩,C,B⟩=>⟨_,EV.of fun m=>?_,B⟩
   rw[a9,C];simp only[d9,xnw,ae5,be2,C7,e0]
 |lookup t x k ok=>
  simp only[sop];split
  ·rename_i v d
   split
   ·rename_i u O
    obtain⟨w,h1,h2⟩:=A d;obtain⟨y,h3,h4⟩:=A O;refine(aX7 h2 h4 hs).mono fun c τ' F' hp' _ _ ⟨C,r,B,K⟩=>⟨r,EV.of fun n=>?_,K⟩
    rw[a9,C];simp only[d9,h1,h3,B,d8]
   ·exact OKh.fail
  ·exact OKh.fail
 |mapEntry t m k=>
  simp only[sop];split
  ·rename_i v d
   split
   ·rename_i u O
    obtain⟨w,h1,h2⟩:=A d;obtain⟨w',h3,h4⟩:=A O;refine(aJ6 h2 h4 hs).mono fun c τ' F' hp' _ _ ⟨x,C,B⟩=>⟨x,EV.of fun n=>?_,B⟩
    rw[a9];simp only[d9,h1,h3,C]
   ·exact OKh.fail
  ·exact OKh.fail
 |entryStore t m k x=>
  simp only[sop];split
  ·rename_i v d
   split
   ·rename_i u O
    split
    ·rename_i y hy
     obtain⟨w,h1,h2⟩:=A d;obtain⟨w',h3,h4⟩:=A O;obtain⟨ae,h5,V⟩:=A hy;refine(ay9 h2 h4 V hs).mono fun c τ' F' hp' _ _ ⟨C,B⟩=>⟨undef,EV.of fun n=>?_,?_⟩
     ·rw[a9];simp only[d9,h1,h3,h5,B]
     ·subst C;exact .tup [] [] rfl (fun i a x h _=>by simp at h)
    ·exact OKh.fail
   ·exact OKh.fail
  ·exact OKh.fail
 |mapUpdate t m k x=>
  simp only[sop];split
  ·rename_i v d
   split
   ·rename_i u O
    split
    ·rename_i y hy
     obtain⟨w,h1,h2⟩:=A d;obtain⟨w',h3,h4⟩:=A O;obtain⟨ae,h5,V⟩:=A hy;refine(aY0 h2 h4 V hs).mono fun c τ' F' hp' _ _ ⟨C,B⟩=>⟨undef,EV.of fun n=>?_,?_⟩
     ·rw[a9];simp only[d9,h1,h3,h5,B]
     ·subst C;exact .tup [] [] rfl (fun i a x h _=>by simp at h)
    ·exact OKh.fail
   ·exact OKh.fail
  ·exact OKh.fail
 |load t a=>
  simp only[sop];split
  ·rename_i v d
   obtain⟨w,h1,h2⟩:=A d;exact OKp.op (x:=A8 P hp t w) (fun n=>by rw[a9];simp only[d9,h1]) (aR2 h2 hs)
  ·exact OKh.fail
 |store t a x=>
  simp only[sop];split
  ·rename_i v d
   split
   ·rename_i u O
    obtain⟨w,h1,h2⟩:=A d;obtain⟨y,h3,h4⟩:=A O;refine(bj0 h2 h4 hs).mono fun c τ' F' hp' _ _ ⟨C,B⟩=>⟨undef,EV.of fun n=>?_,?_⟩
    ·rw[a9];simp only[d9,h1,h3,B]
    ·subst C;exact .tup [] [] rfl (fun i a x h _=>by simp at h)
   ·exact OKh.fail
  ·exact OKh.fail
 |nilCheck x=>
  simp only[sop];split
  ·rename_i v d
   obtain⟨w,h1,h2⟩:=A d;unfold aG3;split
   ·rename_i b z row fld
    cases h2 with
    |ptr _ _ _ _ i o h h0=>exact OKp.op (x:=some (.pointer (some ⟨i,o+row.toN U*z+fld,none⟩))) (fun n=>by rw[a9];simp only[d9,h1];rfl) (OKp.ret ⟨_,rfl,.ptr b z row fld i o h h0⟩)
   ·rename_i t L row fld
    cases h2 with
    |pptr _ _ _ _ i o l c h h0 h3=>exact OKp.op (x:=some (.pointer (some ⟨i,o+row.toN U*(kf P t).length+fld,none⟩))) (fun n=>by rw[a9];simp only[d9,h1];rfl) (OKp.ret ⟨_,rfl,.pptr t L row fld i o l c h h0 h3⟩)
   ·rename_i g l m
    cases h2 with
    |fn _ _ _ xs ys k1 k2 k3 X=>exact OKp.op (x:=some (.func (.func g) xs.toArray ys.toArray)) (fun n=>by rw[a9];simp only[d9,h1];rfl) (OKp.ret ⟨_,rfl,.fn _ l m xs ys k1 k2 k3 X⟩)
   ·exact OKh.fail
  ·exact OKh.fail
 |binOp op t x y u=>
  simp only[sop];split
  ·rename_i v d
   split
   ·rename_i w R
    obtain⟨a,h1,h2⟩:=A d;obtain⟨b,h3,h4⟩:=A R;exact OKp.op (x:=T8 P op t a b) (fun n=>by rw[a9];simp only[d9,h1,h3]) (bp5 h2 h4)
   ·exact OKh.fail
  ·exact OKh.fail
 |unOp op t x=>
  simp only[sop];split
  ·rename_i v d
   obtain⟨a,h1,h2⟩:=A d;exact OKp.op (x:=xun op a) (fun n=>by rw[a9];simp only[d9,h1]) (bz3 h2)
  ·exact OKh.fail
 |convert src dst x=>
  simp only[sop];split
  ·rename_i v d
   obtain⟨a,h1,h2⟩:=A d;exact OKp.op (x:=ab7 P src dst a) (fun n=>by rw[a9];simp only[d9,h1]) (bp8 h2)
  ·exact OKh.fail
 |makeInterface t x=>
  simp only[sop];split
  ·rename_i v d
   obtain⟨a,h1,h2⟩:=A d;exact OKp.op (x:=ah5 P t a) (fun n=>by rw[a9];simp only[d9,h1]) (OKp.opt fun c h=>bi2 h2 h)
  ·exact OKh.fail
 |makeFunc fn first D=>
  simp only[sop];split
  ·rename_i fs ab
   split
   ·rename_i cs Y
    obtain⟨xs,h1,h2⟩:=au3 ht ab;obtain⟨ys,h3,h4⟩:=au3 ht Y;exact OKp.op (x:=some (.func fn xs.toArray ys.toArray)) (fun n=>by rw[a9];simp only[d9,h1,h3];rfl) (OKp.ret ⟨_,rfl,.fn fn fs cs xs ys h2.1 h2.2 h4.1 h4.2⟩)
   ·exact OKh.fail
  ·exact OKh.fail
 |makeSlice t l c=>
  simp only[sop];split
  ·rename_i v d
   split
   ·rename_i w R
    obtain⟨a,h1,h2⟩:=A d;obtain⟨b,h3,h4⟩:=A R;refine(aC5 h2 h4 hs).mono fun c τ' F' hp' _ _ ⟨n,C,B,K⟩=>⟨_,EV.of fun m=>?_,K⟩
    rw[a9];simp only[d9,xnw,h1,h3,C,C7,B]
   ·exact OKh.fail
  ·exact OKh.fail
 |slice t x lo hi mx=>
  simp only[sop];split
  ·rename_i v d
   split
   ·rename_i l hl
    split
    ·rename_i h hh
     split
     ·rename_i m hm
      obtain⟨a,h1,h2⟩:=A d;obtain⟨l',h3,h4⟩:=aK0 ht hl;obtain⟨h',h5,V⟩:=aK0 ht hh;obtain⟨m',h7,h8⟩:=aK0 ht hm;refine(bi9 h2 h4 V h8 hs).mono fun c τ' F' hp' _ _ ⟨C,w,B,K⟩=>⟨w,EV.of fun n=>?_,K⟩
      rw[a9,C];simp only[d9,h1,h3,h5,h7,B]
     ·exact OKh.fail
    ·exact OKh.fail
   ·exact OKh.fail
  ·exact OKh.fail
 |fieldAddr t x i=>
  simp only[sop];split
  ·rename_i v d
   obtain⟨a,h1,h2⟩:=A d;exact OKp.op (x:=D2 P t a i) (fun n=>by rw[a9];simp only[d9,h1]) (OKp.opt fun c h=>aC3 h2 h)
  ·exact OKh.fail
 |field t x i=>
  simp only[sop];split
  ·rename_i v d
   obtain⟨a,h1,h2⟩:=A d;exact OKp.op (x:=ah4 P t a i) (fun n=>by rw[a9];simp only[d9,h1]) (OKp.opt fun c h=>bi1 h2 h)
  ·exact OKh.fail
 |indexAddr t x i=>
  simp only[sop];split
  ·rename_i v d
   split
   ·rename_i w R
    obtain⟨a,h1,h2⟩:=A d;obtain⟨b,h3,h4⟩:=A R;exact OKp.op (x:=k8 P t a b) (fun n=>by rw[a9];simp only[d9,h1,h3]) (aC4 h2 h4)
   ·exact OKh.fail
  ·exact OKh.fail
 |index t x i=>
  simp only[sop];split
  ·rename_i v d
   split
   ·rename_i w R
    obtain⟨a,h1,h2⟩:=A d;obtain⟨b,h3,h4⟩:=A R;exact OKp.op (x:=ac0 P t a b) (fun n=>by rw[a9];simp only[d9,h1,h3]) (bi3 h2 h4)
   ·exact OKh.fail
  ·exact OKh.fail
 |range t x=>
  simp only[sop];split
  ·rename_i v d
   obtain⟨w,h1,h2⟩:=A d;refine(bi7 h2 hs).mono fun a τ' F' hp' _ _ ⟨n,C,B,K⟩=>⟨_,EV.of fun m=>?_,K⟩
   rw[a9];simp only[d9,xnw,h1,C,C7,B]
  ·exact OKh.fail
 |next it isS=>
  simp only[sop];split
  ·rename_i v d
   obtain⟨w,h1,h2⟩:=A d;refine(bq7 h2 hs).mono fun a τ' F' hp' _ _ ⟨u,C,B⟩=>⟨u,EV.of fun m=>?_,B⟩
   rw[a9];simp only[d9,h1,C]
  ·exact OKh.fail
 |extract x i=>
  simp only[sop];split
  ·rename_i v d
   obtain⟨a,h1,h2⟩:=A d;exact OKp.op (x:=P0 a i) (fun n=>by rw[a9];simp only[d9,h1]) (OKp.opt fun c h=>aR0 h2 h)
  ·exact OKh.fail
 |call c=>
  simp only[sop];split
  ·rename_i l hl
   obtain⟨args,h1,h2⟩:=au3 ht hl;obtain⟨J,E,ats⟩:=c;have h1:U2 tm E.toList=some args:=h1;cases J with
   |builtin b=>
    simp only;unfold aQ5;split
    ·rename_i t u a x G
     obtain⟨v,vs,rfl,M,N⟩:=h2.uncons;obtain⟨w,ws,rfl,g3,g4⟩:=N.uncons;have:ws=[]:=bA7 g4.1.symm;subst this;have hx:∀n,xop P (exec P ov n) tm hp (.call ⟨.builtin .append,E,ats⟩)=match ad7 P hp t u v w with|some r=>some r|none=>al3 P hp t u v w:=fun n=>by
      rw[a9];simp only[d9,h1,G,A6];rfl
     unfold bc4;split
     ·rename_i e B he Z
      split
      ·exact OKh.fail
      ·rename_i ie ac
       split
       ·exact OKh.fail
       ·rename_i z hz
        cases hq:Nat.beq z.cells.toList.length ie.size&&Nat.ble ie.bytes 1048576&&Nat.ble 1 ie.size with
        |false=>exact OKh.fail
        |true=>
         simp only[bB8];rw[bA2]at hq;obtain⟨q1,q2⟩:=hq;have W:=bA5 q2;refine OKh.bindp (bw1 W g3 hs) fun src s1 o1 hs1 ⟨n,news,k1,k2,k3,X⟩=>?_
         refine(bv6 W M k2 k3 X hs1).mono fun c τ' F' hp' _ _ ⟨y,k5,k6⟩=>⟨y,EV.of fun n=>?_,k6⟩
         rw[hx,aY9 he Z ac hz q1 k1,k5]
     ·exact OKh.fail
    ·rename_i t x G
     obtain⟨v,vs,rfl,M,N⟩:=h2.uncons;have:vs=[]:=bA7 N.1.symm;subst this;exact OKp.op (x:=Q3 hp P t v) (fun n=>by rw[a9];simp only[d9,h1,G,A6]) (bw0 M)
    ·rename_i t x G
     obtain⟨v,vs,rfl,M,N⟩:=h2.uncons;have:vs=[]:=bA7 N.1.symm;subst this;exact OKp.op (x:=as8 P t v) (fun n=>by rw[a9];simp only[d9,h1,G,A6]) (bv8 M)
    ·rename_i x xs
     obtain⟨v,vs,rfl,M,N⟩:=h2.uncons;exact OKp.op (x:=Y4 false v vs) (fun n=>by rw[a9];simp only[d9,h1,A6]) (aJ8 M N)
    ·rename_i x xs
     obtain⟨v,vs,rfl,M,N⟩:=h2.uncons;exact OKp.op (x:=Y4 true v vs) (fun n=>by rw[a9];simp only[d9,h1,A6]) (aJ8 M N)
    ·exact OKh.fail
   |value g=>
    simp only;split
    ·rename_i v d
     obtain⟨w,h3,h4⟩:=A d;unfold bc8;split
     ·rename_i g' first D
      split
      ·rename_i fn aa
       cases ad:O7 fn with
       |false=>exact OKh.fail
       |true=>
        simp only[bB8];cases h4 with
        |fn _ _ _ xs ys k1 k2 k3 X=>
         have hl:VDL P U τ F (first++l++D) (xs++args++ys):=(VDL.append ⟨k1,k2⟩ h2).append ⟨k3,X⟩
         refine(H.run g' _ _ τ F s hp hl hs).mono fun a τ' F' hp' _ _ ⟨y,C,B⟩=>⟨y,C.mono fun n hn=>?_,B⟩
         rw[a9];simp only[d9,h1,h3,ar3,aa,ad,bB8]
         simpa using hn
      ·exact OKh.fail
     ·rename_i ks vs gg nt ps as bo
      have h5:=h4;cases h4 with
      |yld _ _ _ _ _ _ _ i tms pr db hF hp0 k=>
       refine(H.round ks vs gg nt ps as bo l args τ F s hp i h5 h2 hs).mono fun a τ' F' hp' _ _ ⟨y,C,B⟩=>⟨y,C.mono fun n hn=>?_,B⟩
       rw[a9];simp only[d9,h1,h3,ar3];exact hn
     ·exact OKh.fail
    ·exact OKh.fail
   |invoke r m=>exact OKh.fail
  ·exact OKh.fail
 |_=>exact OKh.fail
end
end Go.Sx
namespace Go.Sx
open Go.Xe
def P5 (f:Fm)(dst:Option Tmp)(v:SV):Fm:=match dst with
 |some d=>(d,v)::f
 |none=>f
section
variable (P :Program)(U:Nat->List Dat->Dat)
def bh5 (f:Fm)(d:Tmp)(t:Bool):Fm:=match lk f d with
 |some (.bool e)=>(match e with
  | .bool _=>f
  |_=>(d,.bool (.bool t))::f)
 |_=>f
def N5 (all:List Oper)(f:Fm)(o:Oper)(t:Bool):Fm:=match o.guard with
 |some (j,want)=>match all[j]? with
  |some p=>match p.dst with
   |some d=>bh5 f d (t==want)
   |none=>f
  |none=>f
 |none=>f
def aW8 (f:Fm)(c:Operand)(t:Bool):Fm:=match c with
 | .tmp d=>bh5 f d t
 |_=>f
def au5 (all:List Oper)(f:Fm)(o:Oper):M Bool:=
 match o.guard with
 |none=>b9 true
 |some (j,want)=>match all[j]? with
  |some p=>match p.dst with
   |some d=>match lk f d with
    |some (.bool e)=>a7 (aa4 U e) fun t=>b9 (t==want)
    |some (.tup [])=>b9 false
    |_=>a6 "guard"
   |none=>b9 false
  |none=>b9 false
def sone (call:B3)(nt:Nat)(all:List Oper)(o:Oper)(f:Fm):M Fm:=
 bif l5 nt o.dst then
  a7 (au5 U all f o) fun t=>bif t then a7 (sop P U call (N5 all f o t) o.op) fun v=>b9 (P5 (N5 all f o t) o.dst v)else b9 (P5 (N5 all f o t) o.dst (.tup []))
 else a6 "slot"
def bq8 (call:B3)(nt:Nat)(all:List Oper):List Oper->Fm->M Fm
 | [],f=>b9 f
 |o::os,f=>a7 (sone P U call nt all o f) fun f'=>bq8 call nt all os f'
abbrev ae6:=List Oper->Fm->M Fm
abbrev ai3:=Nat->Code->(Fm->M (Exit×Fm))->Fm->Option (M (Exit×Fm))
def aw9 :Code->Option Code
 | .loop b=>some b
 |_=>none
def mkill :M Unit:=fun s=>.ret ((),{s with h:=(s.nx,none)::s.h,nx:=s.nx+1})
def aK1 (call : B3) (g : FuncId) (nt : Nat) (fo : Operand) (ps : Array Tmp) (as bo : Code) (f : Fm) : M (Exit × Fm) :=
 match f6 f fo with
 | some (.fn (.func it) first cap) => match P.funcs[it]? with
  | some fn => bif O7 fn then
    a7 mkill fun _=>a7 (call.run it (first++ [.yld (f.map Prod.fst) (f.map Prod.snd) g nt ps.toList as bo]++cap)) fun _=>i7 fun s=>
     bif nyS s then b9 (.normal,f)else a6 "range: the yield function is kept"
   else a6 "range: no body"
  |none=>a6 "range: no function"
 |_=>a6 "range: value"
def C3 (call : B3) (dr : ae6) (lp : ai3) (g : FuncId) (rg : Bool) (nt : Nat) : Nat → Code → Fm → M (Exit × Fm)
 |0,_,_=>a6 "fuel"
 | m + 1, c, f => match c with
  | .skip=>b9 (.normal,f)
  | .label _=>b9 (.normal,f)
  | .region _ ops draw=>a7 (bif draw then dr ops.toList f else bq8 P U call nt ops.toList ops.toList f) fun f'=>b9 (.normal,f')
  | .seq x y=>a7 (C3 call dr lp g rg nt m x f) fun r=>match r.1 with
   | .normal=>C3 call dr lp g rg nt m y r.2
   |e=>b9 (e,r.2)
  | .cond c x y=>match f6 f c with
   |some (.bool e)=>a7 (aa4 U e) fun t=>bif t then C3 call dr lp g rg nt m x (aW8 f c t)else C3 call dr lp g rg nt m y (aW8 f c t)
   |_=>a6 "if"
  | .block id b => a7 (match aw9 b with
    |some lb=>match lp id lb (C3 call dr lp g rg nt m lb) f with
     |some r=>r
     |none=>C3 call dr lp g rg nt m b f
    |none=>C3 call dr lp g rg nt m b f) fun r=>match r.1 with
   | .exit j=>bif Nat.beq j id then b9 (.normal,r.2)else b9 (.exit j,r.2)
   |e=>b9 (e,r.2)
  | .loop b=>a7 (C3 call dr lp g rg nt m b f) fun r=>match r.1 with
   | .normal=>C3 call dr lp g rg nt m (.loop b) r.2
   |e=>b9 (e,r.2)
  | .exit id=>b9 (.exit id,f)
  | .ret=>b9 (.ret,f)
  | .scope b=>a7 (C3 call dr lp g rg nt m b f) fun r=>match r.1 with
   | .normal=>b9 (.normal,r.2)
   | .exit j=>b9 (.exit j,r.2)
   | .ret=>b9 (.ret,r.2)
   |_=>a6 "scope"
  | .rangeFunc fo ps as bo=>bif rg then aK1 P call g nt fo ps as bo f else a6 "a range in a range"
  |_=>a6 "code"
end
section
variable {P :Program}{U:Nat->List Dat->Dat}{ov:FuncId->Option TypeId}{nt:Nat}
variable {τ:Tau}{F:Nat->Option Blk}{f:Fm}{tm:T Value}
theorem TD.mono {τ':Tau}{F':Nat->Option Blk}(ht:Tle τ τ')(hf:Fle F F')(h:TD P U τ F f tm):TD P U τ' F' f tm:=fun k a b=>(h k a b).mono ht hf
theorem TD.put (h:TD P U τ F f tm){a:SV}{v:Value}(g:VD P U τ F a v)(dst:Option Tmp):TD P U τ F (P5 f dst a) (j2 tm dst v):=by
 cases dst with
 |none=>exact h
 |some d=>
  intro k b hb;simp only[P5,j4]at hb;simp only[j2,T.get_set]
  by_cases e:d=k
  ·grind
  ·rw[bC1 e]at hb;rw[bC1 (fun h=>e h.symm)];exact h k b hb
theorem aP6 (f:Fm)(dst:Option Tmp)(v:SV):∃pre,P5 f dst v=pre++f:=by
 cases dst with
 |none=>exact⟨[],rfl⟩
 |some d=>exact⟨[(d,v)],rfl⟩
variable {s:SS}
theorem az6 (h:TD P U τ F f tm)(all:List Oper)(o:Oper):OKp U (au5 U all f o) s fun t=>f8 all tm o=t:=by
 unfold au5 f8;split
 ·rename_i b;simp only[b];exact OKp.ret rfl
 ·rename_i j r b
  simp only[b];unfold X4;split
  ·rename_i p hp
   simp only[hp];split
   ·rename_i d hd
    simp only[hd];split
    ·rename_i e he
     have g:=h d _ he;refine OKp.test.bind fun t _ _ _ ht=>OKp.ret ?_
     generalize hx:(tm.get d).getD undef=x at g;cases g;cases b:tm.get d with
     |none=>rw[b]at hx;simp[undef]at hx
     |some y=>grind
    ·rename_i he
     have g:=h d _ he;generalize hx:(tm.get d).getD undef=x at g;cases g;refine OKp.ret ?_
     grind
    ·exact OKp.fail
   ·rename_i hd;simp only[hd];exact OKp.ret rfl
  ·rename_i hp;simp only[hp];exact OKp.ret rfl
variable {t:Bool}
theorem bc2 (h:TD P U τ F f tm){d:Tmp}(ht:∀b,tm.get d=some (.bool b)->b=t):TD P U τ F (bh5 f d t) tm:=by
 unfold bh5;split
 ·rename_i e he
  split
  ·exact h
  ·intro k a g
   rw[j4]at g;split at g
   ·rename_i e'
    subst e';cases g;have w:=h d _ he;generalize hx:(tm.get d).getD undef=x at w⊢;cases w;cases r:tm.get d with
    |none=>rw[r]at hx;cases hx
    |some y=>rw[r]at hx;cases hx;rw[ht _ r];exact .bool (.bool t)
   ·exact h k a g
 ·exact h
theorem aQ0 (f:Fm)(d:Tmp)(t:Bool):∃pre,bh5 f d t=pre++f:=by
 unfold bh5;split
 ·split
  ·simp_all
  ·exact⟨[_],rfl⟩
 ·simp_all
theorem bc1 (h:TD P U τ F f tm){all:List Oper}{o:Oper}(g:f8 all tm o=t):TD P U τ F (N5 all f o t) tm:=by
 unfold N5;unfold f8 X4 at g;split
 ·rename_i j r w
  split
  ·rename_i p hp
   split
   ·rename_i d hd
    refine bc2 h fun b hb=>?_
    simp only[w,hp,hd,hb]at g;subst g
    simp_all
   ·exact h
  ·exact h
 ·exact h
theorem bv3 (h:TD P U τ F f tm){c:Operand}{b:Bool}(hc:a8 tm c=some (.bool b))(hb:b=t):TD P U τ F (aW8 f c t) tm:=by
 unfold aW8;split
 ·rename_i d
  refine bc2 h fun b' g=>?_
  have hc:some ((tm.get d).getD undef)=_:=hc
  grind
 ·exact h
theorem bo9 (f:Fm)(c:Operand)(t:Bool):∃pre,aW8 f c t=pre++f:=by
 unfold aW8;split
 ·exact aQ0 _ _ _
 ·simp_all
theorem aP9 (all:List Oper)(f:Fm)(o:Oper)(t:Bool):∃pre,N5 all f o t=pre++f:=by
 unfold N5;repeat' split
 ·exact aQ0 _ _ _
 all_goals exact⟨[],rfl⟩
variable (P ov) in
def XOps (nt:Nat)(all l:List Oper)(tm:T Value)(hp:Hp)(tm':T Value)(hp':Hp):Prop:=EV fun n=>ap1 P (exec P ov n) nt all l tm hp=some (tm',hp')
theorem bd5 {call : B3} (    b : s7 P U ov call) {all : List Oper} : ∀ {l : List Oper} {τ : Tau} {F : Nat → Option Blk} {s : SS} {hp : Hp} {f : Fm} {tm : T Value}, TD P U τ F f tm → SD P U τ F s hp →
  OKh P U (bq8 P U call nt all l f) τ F s hp fun f' τ' F' hp'=>∃tm',XOps P ov nt all l tm hp tm' hp'/\TD P U τ' F' f' tm'/\ ∃pre,f'=pre++f
 | [],τ,F,s,hp,f,tm,ht,hs=>OKh.ret ⟨tm,EV.of fun n=>ac1,ht,[],rfl⟩
 | o :: l, τ, F, s, hp, f, tm, ht, hs => by
  unfold bq8 sone;cases hd:l5 nt o.dst with
  |false=>exact OKh.fail.bind (R:=fun _ _ _ _=>False) fun _ _ _ _ _ _ _ h=>h.elim
  | true =>
   simp only [bB8];have step : ∀ {f0 : Fm} {a : SV} {v : Value} {τ1 : Tau} {F1 : Nat → Option Blk} {s1 : SS} {hp1 : Hp}, TD P U τ1 F1 f0 tm → (∃ pre, f0 = pre ++ f) → SD P U τ1 F1 s1 hp1 → VD P U τ1 F1 a v →
     OKh P U (bq8 P U call nt all l (P5 f0 o.dst a)) τ1 F1 s1 hp1 fun f' τ' F' hp'=>∃tm',XOps P ov nt all l (j2 tm o.dst v) hp1 tm' hp'/\TD P U τ' F' f' tm'/\ ∃pre,f'=pre++f:=by
    intro f0 a v τ1 F1 s1 hp1 h1 ⟨E,h0⟩ h2 h3;refine(bd5 b (h1.put h3 o.dst) h2).mono fun f' τ' F' hp' _ _ ⟨tm',r,w,pre,y⟩=>?_
    obtain⟨p,hp⟩:=aP6 f0 o.dst a
    grind
   refine OKh.bind (R:=fun f' τ' F' hp'=>∃f0 a v,f'=P5 f0 o.dst a/\TD P U τ' F' f0 tm/\(∃pre,f0=pre++f)/\VD P U τ' F' a v/\((f8 all tm o=true/\XOp P ov o.op tm hp v hp')\/(f8 all tm o=false/\v=undef/\hp'=hp))) ?_ ?_
   ·refine OKh.bindp (az6 ht all o) fun t s1 D hs1 g=>?_
    have ht:=bc1 ht g;have d:=aP9 all f o t;cases t with
    |true=>
     simp only[bB8];refine(aJ9 b ht hs1 o.op).bind fun a τ1 F1 s2 hp1 ex B ⟨v,h1,h2⟩=>OKh.ret ⟨_,a,v,rfl,ht.mono ex.t ex.f,d,h2,.inl ⟨g,h1⟩⟩
    |false=>
     simp only[bB9];exact OKh.ret ⟨_,.tup [],undef,rfl,ht,d,.tup [] [] rfl (fun i a x h _=>by simp at h),.inr ⟨g,rfl,rfl⟩⟩
   ·intro f' τ1 F1 s1 hp1 ex hs1 ⟨f0,a,v,r,ht,d,h1,h2⟩
    subst r;refine(step ht d hs1 h1).mono fun A τ' F' hp' _ _ ⟨tm',r,w,y⟩=>⟨tm',?_,w,y⟩
    rcases h2 with⟨g,hx⟩| ⟨g,C,hh⟩
    ·exact(hx.and r).mono fun n ⟨k1,k2⟩=>by rw[H1,hd,bB8,g,bB8,k1];exact k2
    ·subst C;subst hh
     exact r.mono fun n k=>by rw[H1,hd,bB8,g,bB9];exact k
variable {ar :Option Nat}
variable (P ov) in
def XC (ar:Option Nat)(nt:Nat)(c:Code)(tm:T Value)(hp:Hp)(e:Exit)(tm':T Value)(hp':Hp):Prop:=
 ∃rs:List Nat,(rs.Nodup/\ ∀r∈rs,hp.nx<=r/\r<hp'.nx/\hp'.m.get r=some .dfr)/\
  ∃n0,∀n m ds,n0<=n->n0<=m->d7 P (i8 P) (exec P ov n) nt ar m c tm hp ds=some (.mk e tm' hp' (rs.map Df.mark++ds))
variable {c:Code}{hp:Hp}{e:Exit}{tm':T Value}
theorem XC.of0 {hp':Hp}(h:∃n0,∀n m ds,n0<=n->n0<=m->d7 P (i8 P) (exec P ov n) nt ar (m+1) c tm hp ds=some (.mk e tm' hp' ds)):XC P ov ar nt c tm hp e tm' hp':=by
 obtain⟨n0,h⟩:=h;refine⟨[],⟨List.nodup_nil,fun r hr=>by simp at hr⟩,n0+1,fun n m ds hn hm=>?_⟩
 obtain⟨m,rfl⟩:∃k,m=k+1:=⟨m-1,by omega⟩
 grind
variable {tm1:T Value}
theorem XC.map {c':Code}  {hp1:Hp} {e':Exit} (h : XC P ov ar nt c tm hp e tm1 hp1)
  (k:∀n m ds b,d7 P (i8 P) (exec P ov n) nt ar m c tm hp ds=some (.mk e tm1 hp1 b)->d7 P (i8 P) (exec P ov n) nt ar (m+1) c' tm hp ds=some (.mk e' tm' hp1 b)):XC P ov ar nt c' tm hp e' tm' hp1:=by
 obtain⟨d,h1,n0,h2⟩:=h;refine⟨d,h1,n0+1,fun n m ds hn hm=>?_⟩
 obtain⟨m,rfl⟩:∃k,m=k+1:=⟨m-1,by omega⟩
 grind
theorem XC.comp { w  y:Code}  {hp1 hp':Hp}  (h1 : XC P ov ar nt  w tm hp .normal tm1 hp1) (h2 : XC P ov ar nt  y tm1 hp1 e tm' hp') (  C : hp.nx ≤ hp1.nx) (  D : hp1.nx ≤ hp'.nx)
  (hk:∀r,r<hp1.nx->hp1.m.get r=some .dfr->hp'.m.get r=some .dfr)
  (k:∀n m ds b d,d7 P (i8 P) (exec P ov n) nt ar m w tm hp ds=some (.mk .normal tm1 hp1 b)->d7 P (i8 P) (exec P ov n) nt ar m y tm1 hp1 b=some (.mk e tm' hp' d)->d7 P (i8 P) (exec P ov n) nt ar (m+1) c tm hp ds=some (.mk e tm' hp' d)):XC P ov ar nt c tm hp e tm' hp':=by
 obtain⟨g,⟨a1,a2⟩,E,a3⟩:=h1;obtain⟨h,⟨A,H⟩,G,B⟩:=h2;refine⟨h++g,⟨List.nodup_append.2 ⟨A,a1,fun r hr q hq e=>?_⟩,fun r hr=>?_⟩,E+G+1,fun n m ds hn hm=>?_⟩
 ·grind
 ·grind
 ·obtain⟨m,rfl⟩:∃k,m=k+1:=⟨m-1,by omega⟩
  rw[bE8,bB5];exact k n m ds _ _ (a3 n m ds (by omega) (by omega)) (B n m _ (by omega) (by omega))
theorem OKh.monoE {α:Type}{m:M α}{R b:α->Tau->(Nat->Option Blk)->Hp->Prop}(h:OKh P U m τ F s hp R)(hr:∀a τ' F' s' hp',Ext τ F s hp τ' F' s' hp'->R a τ' F' hp'->b a τ' F' hp'):OKh P U m τ F s hp b:=by
 intro Q hq hs;obtain⟨a,s',h1,τ',F',hp',h2,h3,h4⟩:=h Q hq hs
 grind
variable (P U ov) in
def Z1 (ar:Option Nat)(nt:Nat)(m:M (Exit×Fm))(c:Code)(f:Fm):Prop:=∀τ F s hp tm,TD P U τ F f tm->SD P U τ F s hp->
 OKh P U m τ F s hp fun r τ' F' hp'=>∃tm',XC P ov ar nt c tm hp r.1 tm' hp'/\TD P U τ' F' r.2 tm'/\ ∃pre,r.2=pre++f
variable (P U ov) in
def R7 (nt:Nat)(dr:ae6):Prop:=∀ops f τ F s hp tm,TD P U τ F f tm->SD P U τ F s hp->
 OKh P U (dr ops f) τ F s hp fun f' τ' F' hp'=>∃tm',(EV fun n=>i8 P (exec P ov n) nt ops tm hp=some (tm',hp'))/\TD P U τ' F' f' tm'/\ ∃pre,f'=pre++f
variable (P U ov) in
def R8 (ar:Option Nat)(nt:Nat)(lp:ai3):Prop:=∀id b body f r,(∀f',Z1 P U ov ar nt (body f') b f')->lp id b body f=some r->Z1 P U ov ar nt r (.loop b) f
theorem bn7 (hs:SD P U τ F s hp):SD P U τ F {s with h:=(s.nx,none)::s.h,nx:=s.nx+1} hp:=by
 have d:∀b x,SS.get {s with h:=(s.nx,none)::s.h,nx:=s.nx+1} b=some x->s.get b=some x:=by
  intro b x hb;unfold SS.get at hb⊢;rw[j4]at hb
  grind
 exact⟨fun b x hb=>hs.live b x (d b x hb),fun b c x y i o j q hb hc=>hs.inj b c x y i o j q (d b x hb) (d c y hc),hs.frz,hs.lt,hs.flt,fun b hb=>hs.new b (bF8 (bH4 _) hb),hs.fc,hs.fz⟩
theorem as1 :∀(f:Fm),(f.map Prod.fst).zip (f.map Prod.snd)=f
 | []=>rfl
 |a::f=>by simp[as1 f]
theorem aY2 {call:B3}(E:s7 P U ov call)(g:FuncId)(fo:Operand)(ps:Array Tmp)(as bo:Code)(f:Fm):Z1 P U ov none nt (aK1 P call g nt fo ps as bo f) (.rangeFunc fo ps as bo) f:=by
 intro τ F s hp tm ht hs;unfold aK1;split
 ·rename_i it first cap W
  obtain⟨v,ab,ac⟩:=o7 ht W;split
  ·rename_i fn X
   cases Z:O7 fn with
   |false=>exact OKh.fail
   |true=>
    rw[bB8];cases ac with
    |fn _ _ _ xs ys k1 k2 k3 k4=>
    intro Q hq _
    let i:=hp.nx+1
    let R:Blk:= .loop .ready none nt tm ps as bo hp.nx
    let F1:Nat->Option Blk:=fun j=>if j=i then some R else F j
    let hp1:Hp:=⟨(hp.m.set hp.nx (some .dfr)).set (hp.nx+1) (some R),hp.nx+2⟩
    let s1:SS:= {s with h:=(s.nx,none)::s.h,nx:=s.nx+1}
    have d:∀j,j<hp.nx->hp1.m.get j=hp.m.get j:=fun j hj=>by
     show((hp.m.set hp.nx (some .dfr)).set (hp.nx+1) (some R)).get j=_;rw[T.get_set,bC1 (by omega),T.get_set,bC1 (by omega)]
    have ak:F i=none:=by
     cases hc:F i with
     |none=>rfl
     |some y=>have:=hs.flt i y hc;exact absurd this (by show¬hp.nx+1<hp.nx;omega)
    have fle:Fle F F1:=fun j y hj=>by
     grind
    have H:=bn7 hs;have hR:hp1.m.get i=some R:=by
     show((hp.m.set hp.nx (some .dfr)).set (hp.nx+1) (some R)).get (hp.nx+1)=_;rw[T.get_set,bC3 rfl]
    have hD:hp1.m.get hp.nx=some .dfr:=by
     show((hp.m.set hp.nx (some .dfr)).set (hp.nx+1) (some R)).get hp.nx=_;rw[T.get_set,bC1 (by omega),T.get_set,bC3 rfl]
    have hs1:SD P U τ F1 s1 hp1:=by
     refine H.sub true (fun j y hj _=>fle j y hj) (.inl rfl) (by show hp.nx<=hp.nx+2;omega) (fun b x j o hb hj=>?_) (fun j y hj=>?_)
     ·have hlt:=H.lt b j o hj
      refine⟨d j hlt,?_⟩;show(if j=i then some R else F j)=none
      rw[bC1 (by show¬j=hp.nx+1;omega)]
      rcases H.live b x hb with⟨i',o',y',h1,h2,h3,h4⟩| ⟨h1,_⟩
      ·grind
      ·grind
     ·have hj:(if j=i then some R else F j)=some y:=hj
      by_cases e:j=i
      ·grind
      ·rw[bC1 e]at hj
       have:=hs.flt j y hj;exact⟨by rw[d j this];exact hs.frz j y hj,by show j<hp.nx+2;omega⟩
    have N:Ext τ F s hp τ F1 s1 hp1:=by
     refine⟨Tle.refl τ,fle,by show hp.nx<=hp.nx+2;omega,bH4 _,fun _ _=>rfl,fun b x hb hlt=>?_,⟨[(s.nx,none)],rfl,fun j hj _=>d j hj,fun b j o hb hj=>?_,fun j y hj hy=>?_,fun Y=>absurd rfl (Y (s.nx,none) (by simp))⟩,⟨[],rfl⟩,⟨[(s.nx,none)],rfl,fun _ _ _ _ j _ cs _ _ _ hj hg _=>⟨cs,by rw[d j hj];exact hg,fun _ _=>rfl⟩⟩⟩
     ·have hb:(match lk ((s.nx,none)::s.h) b with|some x=>x|none=>none)=some x:=hb
      rw[j4,bC1 (by omega)]at hb
      exact⟨x,hb⟩
     ·rw[hs.new b hb]at hj;cases hj
     ·grind
    have ad:VD P U τ F1 (.yld (f.map Prod.fst) (f.map Prod.snd) g nt ps.toList as bo) (.chan (some i)):=by
     refine .yld _ _ g nt _ as bo i tm ps hp.nx ?_ rfl fun k a ha=>?_
     ·grind
     ·rw[as1]at ha
      exact(ht k a ha).mono (Tle.refl τ) fle
    have D:VDL P U τ F1 (first++ [.yld (f.map Prod.fst) (f.map Prod.snd) g nt ps.toList as bo]++cap) (xs++ [.chan (some i)]++ys):=
     (VDL.append (VDL.append (VDL.mono (Tle.refl τ) fle ⟨k1,k2⟩) (VDL.cons ad VDL.nil)) (VDL.mono (Tle.refl τ) fle ⟨k3,k4⟩))
    have hq:((a7 (call.run it (first++ [.yld (f.map Prod.fst) (f.map Prod.snd) g nt ps.toList as bo]++cap)) fun _=>i7 fun s=>bif nyS s then b9 (.normal,f)else a6 "range: the yield function is kept") s1).vc U Q:=hq
    rw[show∀(m:M SV) (k:SV->M (Exit×Fm)) (s:SS),a7 m k s=(m s).bind fun x=>k x.1 x.2 from fun _ _ _=>rfl,Tr.vc_bind]at hq
    obtain⟨a,s2,hq,τ2,J,hp2,A,B,w,⟨n0,hx⟩,_⟩:=E.run it _ _ τ F1 s1 hp1 D hs1 _ hq hs1;simp only[i7]at hq;cases G:nyS s2 with
    |false=>rw[G]at hq;exact hq.elim
    |true=>
     rw[G,bB8]at hq;have L:J i=some R:=A.f i R (by show(if i=i then some R else F i)=some R;rw[bC3 rfl])
     have O:hp2.m.get i=some R:=B.frz i R L;have aj:hp2.m.get hp.nx=some .dfr:=A.dfr hs1 (by show hp.nx<hp.nx+2;omega) hD (.inl rfl)
     have ai:hp.nx+2<=hp2.nx:=A.nx
     let F3:Nat->Option Blk:=fun j=>if j=i then none else J j
     let hp3:Hp:= {hp2 with m:=hp2.m.set i none}
     have g3:∀j,j≠i->hp3.m.get j=hp2.m.get j:=fun j hj=>by
      show(hp2.m.set i none).get j=_;rw[T.get_set,bC1 hj]
     have aa:SD P U τ2 F3 s2 hp3:=by
      refine B.sub false (fun j y hj h=>?_) (.inr G) (bC4 _) (fun b x j o hb hj=>?_) (fun j y hj=>?_)
      ·show(if j=i then none else J j)=some y
       rw[bC1 ?_]
       ·exact hj
       ·rintro rfl
        rw[L]at hj;cases hj
        rcases h with h| ⟨h,_⟩
        ·cases h
        ·cases h
      ·rcases B.live b x hb with⟨i',o',y',h1,h2,h3,h4⟩| ⟨h1,_⟩
       ·grind
       ·grind
      ·have hj:(if j=i then none else J j)=some y:=hj
       by_cases e:j=i
       ·grind
       ·rw[bC1 e]at hj
        exact⟨by rw[g3 j e];exact B.frz j y hj,B.flt j y hj⟩
     have K:Fle F F3:=fun j y hj=>by
      have hlt:=hs.flt j y hj;show(if j=i then none else J j)=some y
      rw[bC1 (by show¬j=hp.nx+1;omega)]
      exact A.f j y (fle j y hj)
     have C:Ext τ F s hp τ2 F3 s2 hp3:=by
      refine(N.trans A).shrink (bC4 _) (fun j hj=>g3 j (by show¬j=hp.nx+1;omega)) (fun j y hj=>?_) K
      grind
     refine⟨(.normal,f),s2,hq,τ2,F3,hp3,C,aa,tm,?_,ht.mono C.t C.f,[],rfl⟩;refine⟨[hp.nx],⟨by simp,fun r hr=>?_⟩,n0+1,fun n m ds hn hm=>?_⟩
     ·grind
     ·obtain⟨m,rfl⟩:∃k,m=k+1:=⟨m-1,by omega⟩
      have ae:=hx n (by omega)
      simp only[d7,X0,ab,X,Z,bB8];have ah:(exec P ov n).run it (xs++ [Value.chan (some (hp.nx+1))]++ys) ⟨(hp.m.set hp.nx (some .dfr)).set (hp.nx+1) (some (.loop .ready none nt tm ps as bo hp.nx)),hp.nx+2⟩=some (w,hp2):=ae;rw[ah];have V:hp2.m.get (hp.nx+1)=some (.loop .ready none nt tm ps as bo hp.nx):=O;simp only[aB3,V];rfl
  ·exact OKh.fail
 ·exact OKh.fail
theorem aa9 {call:B3}(B:s7 P U ov call){dr:ae6}(H:R7 P U ov nt dr){lp:ai3}(J:R8 P U ov ar nt lp)(g:FuncId)(rg:Bool)(L:rg=true->ar=none):∀(m:Nat) (c:Code) (f:Fm),Z1 P U ov ar nt (C3 P U call dr lp g rg nt m c f) c f
 |0,c,f=>fun τ F s hp tm ht hs=>OKh.fail
 |m+1,c,f=>by
  have D:=aa9 B H J g rg L m;cases c with
  |rangeFunc fo ps as bo=>
   intro τ F s hp tm ht hs;simp only[C3];cases hb:rg with
   |false=>exact OKh.fail
   |true=>
    have:=L hb;subst this;exact aY2 B g fo ps as bo f τ F s hp tm ht hs
  |skip=>exact fun τ F s hp tm ht hs=>OKh.ret ⟨tm,XC.of0 ⟨0,fun n m ds _ _=>rfl⟩,ht,[],rfl⟩
  |label l=>exact fun τ F s hp tm ht hs=>OKh.ret ⟨tm,XC.of0 ⟨0,fun n m ds _ _=>rfl⟩,ht,[],rfl⟩
  |exit M=>exact fun τ F s hp tm ht hs=>OKh.ret ⟨tm,XC.of0 ⟨0,fun n m ds _ _=>rfl⟩,ht,[],rfl⟩
  |ret=>exact fun τ F s hp tm ht hs=>OKh.ret ⟨tm,XC.of0 ⟨0,fun n m ds _ _=>rfl⟩,ht,[],rfl⟩
  |region M ops draw=>
   intro τ F s hp tm ht hs;simp only[C3];cases draw with
   |true=>
    simp only[bB8];refine(H ops.toList f τ F s hp tm ht hs).bind fun f' τ' F' s' hp' _ _ ⟨tm',⟨n0,Q⟩,d,w⟩=>OKh.ret ⟨tm',XC.of0 ⟨n0,fun n m ds hn _=>?_⟩,d,w⟩
    simp only[d7,bB8,Q n hn]
   |false=>
    simp only[bB9];refine(bd5 B ht hs).bind fun f' τ' F' s' hp' _ _ ⟨tm',⟨n0,Q⟩,d,w⟩=>OKh.ret ⟨tm',XC.of0 ⟨n0,fun n m ds hn _=>?_⟩,d,w⟩
    simp only[d7,bB9,Q n hn]
  |seq x y=>
   intro τ F s hp tm ht hs;simp only[C3];refine(D x f τ F s hp tm ht hs).bind fun r τ1 F1 s1 hp1 ex hs1 ⟨tm1,hx,d,pre,w⟩=>?_
   have V:∀e,r.1=e->e≠ .normal->OKh P U (b9 (e,r.2)) τ1 F1 s1 hp1 fun r τ' F' hp'=>∃tm',XC P ov ar nt (.seq x y) tm hp r.1 tm' hp'/\TD P U τ' F' r.2 tm'/\ ∃pre,r.2=pre++f:=by
    intro e he K;refine OKh.ret ⟨tm1,hx.map fun n m ds A hk=>?_,d,pre,w⟩
    rw[he]at hk;simp only[d7,hk]
    grind
   split
   ·rename_i hr
    refine(D y r.2 τ1 F1 s1 hp1 tm1 d hs1).monoE fun X τ' F' s' hp' C ⟨tm',hy,k2,p2,k3⟩=>⟨tm',?_,k2,p2++pre,by rw[k3,w,bB5]⟩
    rw[hr]at hx;refine hx.comp hy ex.nx C.nx (fun r hlt R=>C.dfr hs1 hlt R (.inl rfl)) fun n m ds N O q1 q2=>?_
    simp only[d7,q1];exact q2
   ·grind
  |cond c x y=>
   intro τ F s hp tm ht hs;simp only[C3];split
   ·rename_i e he
    obtain⟨v,h1,h2⟩:=o7 ht he;cases h2;refine OKh.bindp OKp.test fun t s1 _ hs1 E=>?_
    have ht:=bv3 ht h1 E;obtain⟨W,hp0⟩:=bo9 f c t;have app:∀ {r:Fm},(∃pre,r=pre++aW8 f c t)-> ∃pre,r=pre++f:=fun⟨p,h⟩=>⟨p++W,by rw[h,hp0,bB5]⟩
    cases t with
    |true=>
     simp only[bB8];refine(D x _ τ F s1 hp tm ht hs1).mono fun r τ' F' hp' _ _ ⟨tm',hx,d,w⟩=>⟨tm',hx.map fun n m ds A hk=>?_,d,app w⟩
     simp only[d7,h1,E];exact hk
    |false=>
     simp only[bB9];refine(D y _ τ F s1 hp tm ht hs1).mono fun r τ' F' hp' _ _ ⟨tm',hx,d,w⟩=>⟨tm',hx.map fun n m ds A hk=>?_,d,app w⟩
     simp only[d7,h1,E];exact hk
   ·exact OKh.fail
  |block M b=>
   intro τ F s hp tm ht hs;simp only[C3];have G:Z1 P U ov ar nt (match aw9 b with
    |some lb=>match lp M lb (C3 P U call dr lp g rg nt m lb) f with
     |some r=>r
     |none=>C3 P U call dr lp g rg nt m b f
    |none=>C3 P U call dr lp g rg nt m b f) b f:=by
    split
    ·rename_i lb T
     have hb:b= .loop lb:=by
      unfold aw9 at T
      grind
     subst hb;split
     ·rename_i r hr
      exact J M lb _ f r (fun f'=>D lb f') hr
     ·grind
    ·grind
   refine(G τ F s hp tm ht hs).bind fun r τ1 F1 s1 hp1 ex hs1 ⟨tm1,hx,d,w⟩=>?_
   split
   ·rename_i j hr
    cases hb:Nat.beq j M with
    |true=>
     simp only[bB8];refine OKh.ret ⟨tm1,hx.map fun n m ds A hk=>?_,d,w⟩
     rw[hr]at hk;simp only[d7,hk,hb,bB8]
    |false=>
     simp only[bB9];refine OKh.ret ⟨tm1,hx.map fun n m ds A hk=>?_,d,w⟩
     rw[hr]at hk;simp only[d7,hk,hb,bB9]
   ·rename_i K
    refine OKh.ret ⟨tm1,hx.map fun n m ds A hk=>?_,d,w⟩
    simp only[d7,hk]
    grind
  |loop b=>
   intro τ F s hp tm ht hs;simp only[C3];refine(D b f τ F s hp tm ht hs).bind fun r τ1 F1 s1 hp1 ex hs1 ⟨tm1,hx,d,pre,w⟩=>?_
   split
   ·rename_i hr
    refine(D (.loop b) r.2 τ1 F1 s1 hp1 tm1 d hs1).monoE fun X τ' F' s' hp' C ⟨tm',hy,k2,p2,k3⟩=>⟨tm',?_,k2,p2++pre,by rw[k3,w,bB5]⟩
    rw[hr]at hx;refine hx.comp hy ex.nx C.nx (fun r hlt R=>C.dfr hs1 hlt R (.inl rfl)) fun n m ds N O q1 q2=>?_
    simp only[d7,q1];exact q2
   ·rename_i K
    refine OKh.ret ⟨tm1,hx.map fun n m ds A hk=>?_,d,pre,w⟩
    simp only[d7,hk]
    grind
  |scope b=>
   intro τ F s hp tm ht hs;simp only[C3];refine(D b f τ F s hp tm ht hs).bind fun r τ1 F1 s1 hp1 ex hs1 ⟨tm1,hx,d,w⟩=>?_
   split
   ·rename_i hr
    refine OKh.ret ⟨tm1,hx.map fun n m ds A hk=>?_,d,w⟩
    rw[hr]at hk;simp only[d7,hk]
   ·rename_i j hr
    refine OKh.ret ⟨tm1,hx.map fun n m ds A hk=>?_,d,w⟩
    rw[hr]at hk;simp only[d7,hk]
   ·rename_i hr
    refine OKh.ret ⟨tm1,hx.map fun n m ds A hk=>?_,d,w⟩
    rw[hr]at hk;simp only[d7,hk]
   ·exact OKh.fail
  |_=>exact fun τ F s hp tm ht hs=>OKh.fail
end
end Go.Sx
namespace Go.Sx
open Go.Xe
def af7 :Nat->List SV->Fm
 |_,[]=>[]
 |k,a::l=>(k,a)::af7 (k+1) l
section
variable (P :Program)(U:Nat->List Dat->Dat)
def bd7 (f:Fm):ResultVar->M SV
 | .tmp t=>b9 ((lk f t).getD .any)
 | .cell a t=>bd4 P U t ((lk f a).getD .any)
def O9 (f:Fm):List ResultVar->M (List SV)
 | []=>b9 []
 |r::rs=>a7 (bd7 P U f r) fun v=>a7 (O9 f rs) fun vs=>b9 (v::vs)
def az4 :List SV->SV
 | [v]=>v
 |vs=>.tup vs
def sfun (call:B3)(dr:Nat->ae6)(lp:FuncId->Nat->ai3)(m:Nat)(g:FuncId)(args:List SV):M SV:=
 match P.funcs[g]? with
 |some fn=>match fn.body with
  |some c=>a7 (C3 P U call (dr (args.length+(fn.ntmps-args.length))) (lp g (args.length+(fn.ntmps-args.length))) g true (args.length+(fn.ntmps-args.length)) m c (af7 0 args)) fun r=>match r.1 with
   | .normal=>a7 (O9 P U r.2 fn.results.toList) fun vs=>b9 (az4 vs)
   | .ret=>a7 (O9 P U r.2 fn.results.toList) fun vs=>b9 (az4 vs)
   |_=>a6 "end of a call"
  |none=>a6 "no body"
 |none=>a6 "no function"
def bo8 (f:Fm):List Nat->List SV->Fm
 |t::ts,v::vs=>bo8 ((t,v)::f) ts vs
 |_,_=>f
def aY3 (call : B3) (dr : Nat → ae6) (lp : FuncId → Nat → ai3) (m : Nat) (ks : List Nat) (vs : List SV) (g : FuncId) (nt : Nat) (ps : List Nat) (as bo : Code) (args : List SV) : M SV :=
 bif Nat.beq ps.length args.length && ap6 nt ps then
  a7 (C3 P U call (dr nt) (lp g nt) g false nt m as (bo8 (ks.zip vs) ps args)) fun r => match r.1 with
   | .normal => i7 fun s => bif nyS s && noYs (r.2.map Prod.snd) then
     a7 (C3 P U call (dr nt) (lp g nt) g false nt m bo r.2) fun q=>match q.1 with
      | .normal=>i7 fun s'=>bif nyS s' then b9 (.bool (.bool true))else a6 "round: the yield function is kept"
      |_=>a6 "round: a jump out of it"
    else a6 "round: a yield function is kept"
   |_=>a6 "round: what is yielded"
 else a6 "round: places"
def N6 (dr:B3->Nat->ae6)(lp:B3->FuncId->Nat->ai3)(con:FuncId->Option (List SV->M SV)):Nat->B3
 |0=>⟨fun _ _=>a6 "depth of calls",fun _ _ _ _ _ _ _ _=>a6 "depth of rounds"⟩
 |n+1=>⟨fun g args=>match con g with
  |some k=>k args
  |none=>sfun P U (N6 dr lp con n) (dr (N6 dr lp con n)) (lp (N6 dr lp con n)) n g args,
  fun ks vs g nt ps as bo args=>aY3 P U (N6 dr lp con n) (dr (N6 dr lp con n)) (lp (N6 dr lp con n)) n ks vs g nt ps as bo args⟩
end
section
variable {P :Program}{U:Nat->List Dat->Dat}{ov:FuncId->Option TypeId}
variable (P U ov) in
def z9 (k:List SV->M SV)(g:FuncId):Prop:=∀l args τ F s hp,VDL P U τ F l args->SD P U τ F s hp->OKh P U (k l) τ F s hp fun a τ' F' hp'=>∃v,E4 P ov g args hp v hp'/\VD P U τ' F' a v
theorem aE5 :∀(l:List SV) (k j:Nat) (a:SV),lk (af7 k l) j=some a->k<=j/\l[j-k]? =some a
 | [],k,j,a,h=>by simp[af7,lk]at h
 |b::l,k,j,a,h=>by
  rw[af7,j4]at h
  by_cases e:k=j
  ·grind
  ·rw[bC1 e]at h
   obtain⟨h1,h2⟩:=aE5 l (k+1) j a h
   grind
theorem TD.args {τ:Tau}{F:Nat->Option Blk}{l:List SV}{args:List Value}(h:VDL P U τ F l args):TD P U τ F (af7 0 l) (fill .e 0 args):=by
 intro k a b;obtain⟨_,h2⟩:=aE5 l 0 k a b;obtain⟨v,h3,h4⟩:=h.get h2;rw[G1 args k v (by simpa using h3)]
 exact h4
theorem ar2 {τ:Tau}{F:Nat->Option Blk}{f:Fm}{tm:T Value}(ht:TD P U τ F f tm){hp:Hp}:∀ {d:List ResultVar} {s:SS},SD P U τ F s hp->OKp U (O9 P U f d) s fun l=>∃vs,t9 P tm hp d=some vs/\VDL P U τ F l vs
 | [],s,hs=>OKp.ret ⟨[],rfl,VDL.nil⟩
 |r::d,s,hs=>by
  have g:∀t,VD P U τ F ((lk f t).getD .any) ((tm.get t).getD undef):=fun t=>by
   cases hl:lk f t with
   |none=>exact .any _
   |some b=>exact ht t b hl
  unfold O9;have one:OKp U (bd7 P U f r) s fun a=>∃v,Q6 P tm hp r=some v/\VD P U τ F a v:=by
   cases r with
   |tmp t=>exact OKp.ret ⟨_,rfl,g t⟩
   |cell a t=>exact(aR2 (g a) hs).mono fun b ⟨u,h1,h2⟩=>⟨u,h1,h2⟩
  refine one.bind fun a s1 w h ⟨v,h1,h2⟩=>?_
  refine(ar2 ht (hs.only w h)).bind fun l s2 _ _ ⟨vs,h3,h4⟩=>OKp.ret ⟨v::vs,by simp only[t9,h1,h3],VDL.cons h2 h4⟩
theorem aR6 {τ:Tau}{F:Nat->Option Blk}{l:List SV}{vs:List Value}(h:VDL P U τ F l vs):VD P U τ F (az4 l) (U4 vs):=by
 unfold az4 U4;split
 ·obtain⟨y,ys,rfl,h1,h2⟩:=h.uncons
  have:ys=[]:=bA7 h2.1.symm
  grind
 ·rename_i b
  split
  ·rename_i v
   have hl:=h.1;cases l with
   |nil=>simp at hl
   |cons a l=>simp_all
  ·exact h.tup
theorem W8 {runD : FuncId → List Value → Hp → Option (Value × Hp)} : ∀ ( b : List Nat) (hp : Hp),  b.Nodup → (∀ r ∈  b, hp.m.get r = some .dfr) →
  ∃hp',C6 P runD (b.map Df.mark++ []) hp=some hp'/\hp'.nx=hp.nx/\ ∀i,i∉b->hp'.m.get i=hp.m.get i
 | [],hp,_,_=>⟨hp,rfl,rfl,fun _ _=>rfl⟩
 |r::b,hp,hn,y=>by
  have h1:=y r (by simp)
  rw[List.nodup_cons]at hn;have d:∀q∈b,q≠r:=fun q hq e=>hn.1 (e▸hq)
  obtain⟨hp',g,h,w⟩:=W8 b {hp with m:=hp.m.set r none} hn.2 fun q hq=>by
   show(hp.m.set r none).get q=_;rw[T.get_set,bC1 (d q hq)]
   grind
  refine⟨hp',?_,h,fun i hi=>?_⟩
  ·simp only[bF2,bG2,C6,h1]
   exact g
  ·simp only[bD9,not_or]at hi
   rw[w i hi.2];show(hp.m.set r none).get i=_;rw[T.get_set,bC1 hi.1]
theorem ah6 {D d:FuncId->List Value->Hp->Option (Value×Hp)}:∀(b:List Nat) (hp:Hp),C6 P D (b.map Df.mark++ []) hp=C6 P d (b.map Df.mark++ []) hp
 | [],hp=>rfl
 |r::b,hp=>by
  simp only[bF2,bG2,C6];split
  ·exact ah6 b _
  ·rfl
variable {call:B3}{dr:Nat->ae6}{lp:FuncId->Nat->ai3}
theorem bd2  (    C : s7 P U ov call)  (  K : ∀ nt, R7 P U ov nt (dr nt))  (  N : ∀ ar g nt, R8 P U ov ar nt (lp g nt)) (m : Nat) (g : FuncId) (hg : isT (ov g) = false) : z9 P U ov (sfun P U call dr lp m g) g := by
 intro l args τ F s hp hl hs;unfold sfun;split
 ·rename_i fn   M
  split
  ·rename_i c hc
   refine(aa9 C (K _) (N none g _) g true (fun _=>rfl) m c (af7 0 l) τ F s hp (fill .e 0 args) (TD.args hl) hs).bindE fun r τ1 F1 s1 hp1 ex hs1 ⟨tm1,⟨d,⟨R,w⟩,n1,X⟩,Z,_⟩=>?_
   rw [hl.1] at X;have  aa : (r.1 = .normal ∨ r.1 = .ret) → ∀ Q, ((a7 (O9 P U r.2 fn.results.toList) fun vs => b9 (az4 vs)) s1).vc U Q →
     ∃b s2,Q (b,s2)/\ ∃τ2 A hp2,Ext τ F s hp τ2 A s2 hp2/\SD P U τ2 A s2 hp2/\ ∃v,E4 P ov g args hp v hp2/\VD P U τ2 A b v:=by
    intro hr Q hq;have O:∀n:Nat,∃hp2,C6 P (K5 P (i8 P) (exec P ov n) n) (d.map Df.mark++ []) hp1=some hp2/\hp2.nx=hp1.nx/\ ∀i,i∉d->hp2.m.get i=hp1.m.get i:=fun n=>W8 d hp1 R fun r hr=>(w r hr).2.2
    have same:∀n,C6 P (K5 P (i8 P) (exec P ov n) n) (d.map Df.mark++ []) hp1=C6 P (K5 P (i8 P) (exec P ov 0) 0) (d.map Df.mark++ []) hp1:=by
     exact fun n=>ah6 d hp1
    obtain⟨hp2,l1,l2,V⟩:=O 0
    let A:Nat->Option Blk:=fun j=>if j∈d then none else F1 j
    have D:SD P U τ1 A s1 hp2:=by
     refine hs1.sub true (fun j y hj h=>?_) (.inl rfl) (by omega) (fun b x j o hb hj=>?_) (fun j y hj=>?_)
     ·show(if j∈d then none else F1 j)=some y
      rw[bC1 ?_]
      ·exact hj
      ·intro hm
       have h1:=(w j hm).2.2;rw[hs1.frz j y hj]at h1;cases h1
       rcases h with h| ⟨_,h⟩
       ·cases h
       ·grind
     ·rcases hs1.live b x hb with⟨i',o',y',h1,h2,h3,h4⟩| ⟨h1,_⟩
      ·rw[hj]at h1
       cases h1;have G:j∉d:=fun hm=>by
        have h5:=(w j hm).2.2;rw[h2]at h5;cases h5;cases x with
        |cells l e z=>obtain⟨cs,n,h,_⟩:=h4;cases h
        |rows L e z ph=>obtain⟨cs,n,h,_⟩:=h4;cases h
        |map L kt vt=>obtain⟨_,es,reg,h,_⟩:=h4;cases h
        |iter s p=>obtain⟨_,n,h,_⟩:=h4;cases h
       refine⟨V j G,?_⟩;show(if j∈d then none else F1 j)=none
       rw[bC1 G];exact h3
      ·rw[hj]at h1;cases h1
     ·have hj:(if j∈d then none else F1 j)=some y:=hj
      by_cases e:j∈d
      ·grind
      ·rw[bC1 e]at hj
       exact⟨by rw[V j e];exact hs1.frz j y hj,by rw[l2];exact hs1.flt j y hj⟩
    have E:∀j,j<hp.nx->j∉d:=fun j hj hm=>by have:=(w j hm).1;omega
    have J:Ext τ F s hp τ1 A s1 hp2:=by
     refine ex.shrink (by omega) (fun j hj=>V j (E j hj)) (fun j y hj=>?_) (fun j y hj=>?_)
     ·grind
     ·show(if j∈d then none else F1 j)=some y
      rw[bC1 (E j (hs.flt j y hj))];exact ex.f j y hj
    have T:TD P U τ1 A r.2 tm1:=fun k a ha=>(Z k a ha).sub true (fun j y hj h=>by
     show(if j∈d then none else F1 j)=some y
     rw[bC1 ?_]
     ·exact hj
     ·intro hm
      have h1:=(w j hm).2.2;rw[hs1.frz j y hj]at h1;cases h1
      rcases h with h| ⟨_,h⟩
      ·cases h
      ·exact h rfl) (.inl rfl)
    have H:OKh P U (a7 (O9 P U r.2 fn.results.toList) fun vs=>b9 (az4 vs)) τ1 A s1 hp2 fun a τ' F' hp'=>∃v,E4 P ov g args hp v hp'/\VD P U τ' F' a v:=by
     refine OKh.bindp (ar2 T D) fun vs s2 _ D ⟨Y,h1,h2⟩=>OKh.ret ⟨U4 Y,⟨n1+1,fun n hn=>?_⟩,aR6 h2⟩
     obtain⟨n,rfl⟩:∃k,n=k+1:=⟨n-1,by omega⟩
     have hx:=X n n [] (by omega) (by omega)
     show(bif isT (ov g)&&args.isEmpty then some (.bool true,hp)else ar8 (ab6 P (i8 P) (exec P ov n) (K5 P (i8 P) (exec P ov n) n) n g) args hp)=_
     rw[hg,Bool.false_and,bB9];have B:=(same n).trans l1;have hb:ab6 P (i8 P) (exec P ov n) (K5 P (i8 P) (exec P ov n) n) n g args hp=some (U4 Y,hp2):=by
      simp only[ab6,M,hc]
      rcases hr with hr|hr
      ·rw[hr]at hx;simp only[hx,as9,B,h1]
      ·rw[hr]at hx;simp only[hx,as9,B,h1]
     simp only[ar8,hb]
    obtain⟨b,s3,q1,W,F3,hp3,x1,x2,x3⟩:=H Q hq D;exact⟨b,s3,q1,W,F3,hp3,J.trans x1,x2,x3⟩
   intro Q hq;cases hr:r.1 with
   |normal=>simp_all
   |ret=>simp_all
   |_=>simp only[hr]at hq;exact hq.elim
  ·exact OKh.fail
 ·exact OKh.fail
theorem aP7 {τ:Tau}{F:Nat->Option Blk}:∀(ps:List Nat) (l:List SV) (args:List Value) (f:Fm) (tm:T Value),TD P U τ F f tm->VDL P U τ F l args->TD P U τ F (bo8 f ps l) (ay0 tm ps args)
 | [],l,args,f,tm,ht,hl=>by
  cases l<;>cases args<;>exact ht
 |p::ps,[],args,f,tm,ht,hl=>by
  have:args=[]:=bA7 hl.1.symm;subst this;exact ht
 |p::ps,a::l,args,f,tm,ht,hl=>by
  obtain⟨v,vs,rfl,h1,h2⟩:=hl.uncons;exact aP7 ps l vs _ _ (ht.put h1 (some p)) h2
theorem bi8  (    C : s7 P U ov call)  ( ab : ∀ nt, R7 P U ov nt (dr nt))  ( ad : ∀ ar g nt, R8 P U ov ar nt (lp g nt)) (m : Nat) (ks : List Nat) (vs : List SV) (g : FuncId) (nt : Nat) (ps : List Nat) (as bo : Code) (l : List SV) (args : List Value)
  (τ:Tau) (F:Nat->Option Blk) (s:SS) (hp:Hp) (i:Nat) (hv:VD P U τ F (.yld ks vs g nt ps as bo) (.chan (some i))) (hl:VDL P U τ F l args) (hs:SD P U τ F s hp):
  OKh P U (aY3 P U call dr lp m ks vs g nt ps as bo l) τ F s hp fun a τ' F' hp'=>∃v,(EV fun n=>aB4 P (i8 P) (exec P ov n) n i args hp=some (v,hp'))/\VD P U τ' F' a v:=by
 cases hv with
 |yld _ _ _ _ _ _ _ _ tms pr db hF ah hk=>
 unfold aY3;cases hb:Nat.beq ps.length l.length&&ap6 nt ps with
 |false=>exact OKh.fail
 |true=>
 rw[bB8];simp only[bA2]at hb;have aw:=bA6 hb.1
 let R:Blk:= .loop .ready none nt tms pr as bo db
 let O:Blk:= .loop .busy none nt tms pr as bo db
 have ap:TD P U τ F (ks.zip vs) tms:=fun k a ha=>hk k a ha
 refine(aa9 C (ab nt) (ad (some i) g nt) g false (fun h=>by cases h) m as _ τ F s hp _ (aP7 ps l args _ tms ap hl) hs).bindE fun r τ1 F1 s1 hp1 V hs1 ⟨tm1,⟨L,_,n1,e1⟩,t1,_⟩=>?_
 intro Q hq;cases hr:r.1 with
 |exit _=>simp only[hr]at hq;exact hq.elim
 |goto _=>simp only[hr]at hq;exact hq.elim
 |ret=>simp only[hr]at hq;exact hq.elim
 |panic _=>simp only[hr]at hq;exact hq.elim
 |outgrown=>simp only[hr]at hq;exact hq.elim
 |normal=>
 simp only[hr,i7]at hq;cases D:nyS s1&&noYs (r.2.map Prod.snd)with
 |false=>rw[D]at hq;exact hq.elim
 |true=>
 rw[D,bB8]at hq;simp only[bA2]at D;have H:F1 i=some R:=V.f i R hF;have X:hp1.m.get i=some R:=hs1.frz i R H;have ac:i<hp1.nx:=hs1.flt i R H
 let Fb:Nat->Option Blk:=fun j=>if j=i then none else F1 j
 let J:Hp:= {hp1 with m:=hp1.m.set i (some O)}
 have gb:∀j,j≠i->J.m.get j=hp1.m.get j:=fun j hj=>by
  show(hp1.m.set i (some O)).get j=_;rw[T.get_set,bC1 hj]
 have ak:J.m.get i=some O:=by
  show(hp1.m.set i (some O)).get i=_;rw[T.get_set,bC3 rfl]
 have K:∀b x o,s1.get b=some x->τ1 b=some (some (i,o))->False:=fun b x o hb ht=>by
  rcases hs1.live b x hb with⟨i',o',y',h1,h2,h3,h4⟩| ⟨h1,_⟩
  ·grind
  ·grind
 have W:∀j y,F1 j=some y->((arr y).isSome=true\/false=true/\y≠ .dfr)->Fb j=some y:=fun j y hj h=>by
  show(if j=i then none else F1 j)=some y
  rw[bC1 ?_]
  ·exact hj
  ·rintro rfl
   rw[H]at hj;cases hj
   rcases h with h| ⟨h,_⟩
   ·cases h
   ·cases h
 have ai:SD P U τ1 Fb s1 J:=by
  refine hs1.sub false W (.inr D.1) (bC4 _) (fun b x j o hb hj=>?_) (fun j y hj=>?_)
  ·have A:j≠i:=fun e=>K b x o hb (by rw[<-e];exact hj)
   refine⟨gb j A,?_⟩;show(if j=i then none else F1 j)=none
   rw[bC1 A]
   rcases hs1.live b x hb with⟨i',o',y',h1,h2,h3,h4⟩| ⟨h1,_⟩
   ·grind
   ·grind
  ·have hj:(if j=i then none else F1 j)=some y:=hj
   by_cases e:j=i
   ·grind
   ·rw[bC1 e]at hj
    exact⟨by rw[gb j e];exact hs1.frz j y hj,hs1.flt j y hj⟩
 have tb:TD P U τ1 Fb r.2 tm1:=fun k a ha=>(t1 k a ha).sub false W (.inr (by
  have h1:=M6 ha;have h2:a∈r.2.map Prod.snd:=bI1.2 ⟨_,h1,rfl⟩;obtain⟨j,hj⟩:=bF5.1 h2;exact O6 D.2 hj))
 rw[show∀(m:M (Exit×Fm)) (k:(Exit×Fm)->M SV) (s:SS),a7 m k s=(m s).bind fun x=>k x.1 x.2 from fun _ _ _=>rfl,Tr.vc_bind]at hq
 obtain⟨q,s2,hq,τ2,N,hp2,d,G,au,⟨aq,_,n2,e2⟩,_,_⟩:=aa9 C (ab nt) (ad (some i) g nt) g false (fun h=>by cases h) m bo r.2 τ1 Fb s1 J tm1 tb ai _ hq ai
 cases B:q.1 with
 |exit _=>simp only[B]at hq;exact hq.elim
 |goto _=>simp only[B]at hq;exact hq.elim
 |ret=>simp only[B]at hq;exact hq.elim
 |panic _=>simp only[B]at hq;exact hq.elim
 |outgrown=>simp only[B]at hq;exact hq.elim
 |normal=>
 simp only[B,i7]at hq;cases E:nyS s2 with
 |false=>rw[E]at hq;exact hq.elim
 |true=>
 rw[E,bB8]at hq;have Z:hp2.m.get i=some O:=by
  rw[d.kept i ac K,ak]
 have ae:∀b x o,s2.get b=some x->τ2 b=some (some (i,o))->False:=fun b x o hb ht=>by
  by_cases hlt:b<s1.nx
  ·obtain⟨y,hy⟩:=d.low b x hb hlt
   rw[d.st b hlt]at ht
   grind
  ·rcases d.fresh b i o (bH7 hlt) ht with h| ⟨b0,y,o0,h1,h2⟩
   ·grind
   ·grind
 let F3:Nat->Option Blk:=fun j=>if j=i then some R else N j
 let hp3:Hp:= {hp2 with m:=hp2.m.set i (some R)}
 have g3:∀j,j≠i->hp3.m.get j=hp2.m.get j:=fun j hj=>by
  show(hp2.m.set i (some R)).get j=_;rw[T.get_set,bC1 hj]
 have ax:hp3.m.get i=some R:=by
  show(hp2.m.set i (some R)).get i=_;rw[T.get_set,bC3 rfl]
 have ay:i<hp2.nx:=bF3 ac d.nx;have ao:SD P U τ2 F3 s2 hp3:=by
  refine G.sub false (fun j y hj h=>?_) (.inr E) (bC4 _) (fun b x j o hb hj=>?_) (fun j y hj=>?_)
  ·show(if j=i then some R else N j)=some y
   rw[bC1 ?_]
   ·exact hj
   ·rintro rfl
    have h5:=G.frz j y hj;rw[Z]at h5;cases h5
    rcases h with h| ⟨h,_⟩
    ·cases h
    ·cases h
  ·have A:j≠i:=fun e=>ae b x o hb (by rw[<-e];exact hj)
   refine⟨g3 j A,?_⟩;show(if j=i then some R else N j)=none
   rw[bC1 A]
   rcases G.live b x hb with⟨i',o',y',h1,h2,h3,h4⟩| ⟨h1,_⟩
   ·grind
   ·grind
  ·have hj:(if j=i then some R else N j)=some y:=hj
   by_cases e:j=i
   ·grind
   ·rw[bC1 e]at hj
    exact⟨by rw[g3 j e];exact G.frz j y hj,G.flt j y hj⟩
 have aj:Ext τ1 F1 s1 hp1 τ2 F3 s2 hp3:=by
  obtain⟨l,a1,a2,a3,a4,a5⟩:=d.hh;refine⟨d.t,fun j y hj=>?_,d.nx,d.snx,d.st,d.low,⟨l,a1,fun j hj az=>?_,a3,fun j y hj hy=>?_,fun hp j y hy=>?_⟩,d.hf,?_⟩
  ·show(if j=i then some R else N j)=some y
   by_cases e:j=i
   ·grind
   ·rw[bC1 e]
    refine d.f j y ?_
    grind
  ·grind
  ·grind
  ·have hy:(if j=i then some R else N j)=some y:=hy
   by_cases e:j=i
   ·rw[bC3 e]at hy
    rw[e,H];exact hy
   ·rw[bC1 e]at hy
    have h:(if j=i then none else F1 j)=some y:=a5 hp j y hy
    rw[bC1 e]at h;exact h
  ·obtain⟨l',b1,w⟩:=d.win
   refine⟨l',b1,fun b c e z j o cs n hb ht hj hg hl=>?_⟩
   have A:j≠i:=fun q=>by have h5:hp1.m.get i=some (.loop .ready none nt tms pr as bo db):=X;rw[q,h5]at hg;cases hg
   rw[g3 j A];exact w b c e z j o cs n hb ht hj (by show(hp1.m.set i _).get j=_;rw[T.get_set,bC1 A];exact hg) hl
 refine⟨_,s2,hq,τ2,F3,hp3,V.trans aj,ao,.bool true,⟨n1+n2,fun n hn=>?_⟩,.bool (.bool true)⟩
 have x1:=e1 n n [] (by omega) (by omega)
 have x2:=e2 n n (L.map Df.mark++ []) (by omega) (by omega)
 rw[hr]at x1;rw[B]at x2;have al:hp.m.get i=some (.loop .ready none nt tms pr as bo db):=hs.frz i R hF;have Y:hp1.m.get i=some (.loop .ready none nt tms pr as bo db):=X;have aa:hp2.m.get i=some (.loop .busy none nt tms pr as bo db):=Z;have hc:(Nat.beq pr.toList.length args.length&&ap6 nt pr.toList)=true:=by
  rw[ah,bA2];exact⟨by rw[<-hl.1];exact hb.1,hb.2⟩
 have av:d7 P (i8 P) (exec P ov n) nt (some i) n bo tm1 {hp1 with m:=hp1.m.set i (some (.loop .busy none nt tms pr as bo db))} (L.map Df.mark++ [])=some (.mk .normal au hp2 (aq.map Df.mark++(L.map Df.mark++ []))):=x2
 rw[<-ah]at x1;unfold aB4;simp only[al,hc,bB8,x1,Y,av,aa];rfl
theorem ay6 {dr : B3 → Nat → ae6} (  d : ∀ call, s7 P U ov call → ∀ nt, R7 P U ov nt (dr call nt)) {lp : B3 → FuncId → Nat → ai3} (  h : ∀ call, s7 P U ov call → ∀ ar g nt, R8 P U ov ar nt (lp call g nt))
  {con:FuncId->Option (List SV->M SV)} (b:∀g k,con g=some k->z9 P U ov k g) (w:∀g,isT (ov g)=true->con g≠none):∀n,s7 P U ov (N6 P U dr lp con n)
 |0=>⟨fun g l args τ F s hp _ _=>OKh.fail,fun ks vs g nt ps as bo l args τ F s hp i _ _ _=>OKh.fail⟩
 |n+1=>by
  have r:=ay6 d h b w n;refine⟨fun g l args τ F s hp hl hs=>?_,fun ks vs g nt ps as bo l args τ F s hp i A hl hs=>?_⟩
  ·simp only[N6]
   split
   ·rename_i k hk;exact b g k hk l args τ F s hp hl hs
   ·rename_i hk
    have y:isT (ov g)=false:=by grind
    exact bd2 r (d _ r) (h _ r) n g y l args τ F s hp hl hs
  ·refine(bi8 r (d _ r) (h _ r) n ks vs g nt ps as bo l args τ F s hp i A hl hs).mono fun a τ' F' hp' _ _ ⟨v,⟨n0,h1⟩,h2⟩=>⟨v,⟨n0+1,fun k hk=>?_⟩,h2⟩
   obtain⟨k,rfl⟩:∃j,k=j+1:=⟨k-1,by omega⟩
   exact h1 k (by omega)
end
end Go.Sx
namespace Go.Sx
open Go.Xe
section
variable {P :Program}{call:c8}{tm:T Value}{hp hp':Hp}{v:Value}
variable {o:Op}
theorem bj5 (hk:c6 o=1)(g h:c8)(tm:T Value)(hp:Hp):xop P g tm hp o=xop P h tm hp o:=by
 cases o with
 |call c=>
  obtain⟨d,args,ats⟩:=c;cases d with
  |builtin b=>rfl
  |_=>simp[c6]at hk
 |load t a=>rfl
 |slice t x lo hi mx=>rfl
 |lookup t x k ok=>rfl
 |_=>simp[c6]at hk
theorem bs9  (hk : c6 o = 1) (hx : xop P call tm hp o = some (v, hp')) : hp' = hp := by
 cases o with
 |load t a=>
  simp only[a9,d9]at hx;split at hx
  ·exact(e9 hx).2
  ·cases hx
 |slice t x lo hi mx=>
  simp only[a9,d9]at hx;split at hx
  ·split at hx
   ·split at hx
    ·split at hx
     ·exact as0 hx
     ·cases hx
    ·cases hx
   ·cases hx
  ·cases hx
 |lookup t x k ok=>
  simp only[a9,d9]at hx;split at hx
  ·split at hx
   ·exact(e9 hx).2
   ·cases hx
  ·cases hx
 | call c =>
  obtain⟨d,args,ats⟩:=c;cases d with
  | builtin b =>
   cases b <;> first
    | (simp[c6]at hk;done)
    | (simp only [a9, d9] at hx
       split at hx
       ·generalize ats.toList=g at hx
        rename_i vs _
        rcases g with _| ⟨t,_| ⟨u,r⟩⟩<;>rcases vs with _| ⟨x,_| ⟨y,h⟩⟩<;>simp only[A6,reduceCtorEq]at hx
        exact(e9 hx).2
       ·cases hx)
  |_=>simp[c6]at hk
 |_=>simp[c6]at hk
theorem ap4 (hk:c6 o=1)(hx:xop P call tm hp o=some (v,hp)):xrd P tm hp o=some v:=by
 unfold xrd;rw[bj5 hk _ call,hx]
 simp_all
theorem bA0 (hk:c6 o=1)(hx:xop P call tm hp o=some (v,hp')):hp'=hp/\xrd P tm hp o=some v:=by
 have e:=bs9 hk hx;subst e;exact⟨rfl,ap4 hk hx⟩
variable {a:Operand}{S:Hp}
theorem aT3 {t:TypeId}{j q:Nat}(hx:xop P call tm hp (.load t a)=some (v,hp'))(b:a8 tm a=some (.pointer (some ⟨j,q,none⟩)))(d:S.m.get j=hp.m.get j):xrd P tm S (.load t a)=some v:=by
 refine ap4 (call:=call) rfl ?_;simp only[a9,d9,b]at hx⊢;have:A8 P S t (.pointer (some ⟨j,q,none⟩))=A8 P hp t (.pointer (some ⟨j,q,none⟩)):=by simp only[A8,d]
 rw[this,(e9 hx).1];rfl
theorem aZ8 {t:TypeId}{k:Operand}{ok:Bool}{j:Nat}(hx:xop P call tm hp (.lookup t a k ok)=some (v,hp'))(b:a8 tm a=some (.map (some j)))(d:S.m.get j=hp.m.get j):xrd P tm S (.lookup t a k ok)=some v:=by
 refine ap4 (call:=call) rfl ?_;simp only[a9,d9,b]at hx⊢;cases g:a8 tm k with
 |none=>grind
 |some u=>
  rw[g]at hx;simp only at hx⊢;have:w9 P S t (.map (some j)) u ok=w9 P hp t (.map (some j)) u ok:=by simp only[w9,d]
  rw[this,(e9 hx).1];rfl
theorem aT6  {t : TypeId} {x : Value} {lo hi mx : Option Value} (h : o9 P hp t x lo hi mx = some (v, hp')) ( r : ∀ i o l c, x = .slice (some ⟨i, o, none⟩) l c → S.m.get i = hp.m.get i) :
  o9 P S t x lo hi mx=some (v,S):=by
 unfold o9 at h⊢;simp only[Bool.cond_eq_ite]at h⊢;split at h
 ·split at h
  ·grind
  ·cases h
 ·split at h
  ·cases h
  ·rename_i ie b
   split at h
   ·grind
   ·grind
   ·have e:=r _ _ _ _ rfl
    simp only[e];split at h
    ·rename_i d
     rw[bC3 d];split at h
     ·rename_i g
      rw[bC3 g];split at h
      ·cases h
      ·grind
      ·rename_i l hh h2
       split at h
       ·grind
       ·grind
     ·cases h
    ·grind
   ·cases h
 ·split at h
  ·cases h
  ·rename_i ie b
   split at h
   ·grind
   ·cases h
 ·cases h
variable {x:Operand}{u:Value}
theorem ad8 {t : TypeId}  {lo hi mx : Option Operand}  (hx : xop P call tm hp (.slice t x lo hi mx) = some (v, hp')) ( g : a8 tm x = some u) (S : Hp) ( d : ∀ i o l c, u = .slice (some ⟨i, o, none⟩) l c → S.m.get i = hp.m.get i) :
  xrd P tm S (.slice t x lo hi mx)=some v:=by
 refine ap4 (call:=call) rfl ?_;simp only[a9,d9,g]at hx⊢;cases h1:ae5 tm lo with
 |none=>grind
 |some a=>
  rw[h1]at hx;simp only at hx⊢;cases h2:ae5 tm hi with
  |none=>grind
  |some b=>
   rw[h2]at hx;simp only at hx⊢;cases h3:ae5 tm mx with
   |none=>grind
   |some c=>
    rw[h3]at hx;exact aT6 hx d
theorem bw5 {args : Array Operand} {ats : Array TypeId}   (hx : xop P call tm hp (.call ⟨.builtin .len, args, ats⟩) = some (v, hp')) ( b : args.toList = [x]) ( d : a8 tm x = some u) (hm : ∀ i, u ≠ .map (some i)) (S : Hp) :
  xrd P tm S (.call ⟨.builtin .len,args,ats⟩)=some v:=by
 refine ap4 (call:=call) rfl ?_;simp only[a9,d9,b,U2,d]at hx⊢;generalize ats.toList=g at hx⊢
 rcases g with _| ⟨t,_| ⟨w,r⟩⟩<;>simp only[A6,reduceCtorEq]at hx⊢
 have:Q3 S P t u=Q3 hp P t u:=by
  unfold Q3
  grind
 rw[this,(e9 hx).1];rfl
end
inductive Rd where
 |free
 |blk (b:Nat)
 |frz
 |mlk (t:TypeId) (b:Nat)
 |bad
def aj3 (P:Program)(t:TypeId)(f:Fm)(k:Operand):Bool:=match P.underlying t,f6 f k with
 |some (.map kt _),some ks=>match J6 P kt with
  |some sh=>(skey sh ks).isSome
  |none=>false
 |_,_=>false
def as5 (P:Program)(f:Fm):Op->Rd
 | .load _ x=>match f6 f x with
  |some (.ptr b _ _ _)=>.blk b
  |some (.pptr _ _ _ _)=>.frz
  |_=>.bad
 | .lookup t x k ok=>match f6 f x with
  |some (.map b)=>bif !ok&&aj3 P t f k then .mlk t b else .blk b
  |_=>.bad
 | .slice _ x _ _ _=>match f6 f x with
  |some (.lst _ _ _)=>.frz
  |some .nils=>.free
  |some (.str _)=>.free
  |_=>.bad
 | .call ⟨.builtin .len,args,_⟩=>match args.toList with
  | [x]=>match f6 f x with
   |some (.str _)=>.free
   |some (.sl _ _ _ _ _)=>.free
   |some (.lst _ _ _)=>.free
   |some .nils=>.free
   |_=>.bad
  |_=>.bad
 |_=>.bad
def vok :Nat->SV->Bool
 |0,_=>false
 |n+1,a=>match a with
  | .any=>false
  | .agg l=>l.all (vok n)
  | .tup l=>l.all (vok n)
  | .fn _ l m=>l.all (vok n)&&m.all (vok n)
  | .iface _ v=>vok n v
  |_=>true
section
variable {P :Program}{U:Nat->List Dat->Dat}{τ:Tau}{F:Nat->Option Blk}{s:SS}
variable {v:Value}
theorem PV.lst_slice {e:TypeId}{d:Dat}(h:PV P F (.sl e) v d):∃a l c,v= .slice a l c:=by
 cases h<;>exact⟨_,_,_,rfl⟩
variable {l:List SV}
theorem bt6 {f:Value->Value->Bool}{xs:List Value}(hl:l.length=xs.length)(h:∀(i:Nat) a x,l[i]? =some a->xs[i]? =some x->f x x=true):Q7 f xs xs=true:=by
 induction xs generalizing l with
 |nil=>rfl
 |cons x xs d=>
  cases l with
  |nil=>simp at hl
  |cons a l=>
   simp only[Q7,bA2];exact⟨h 0 a x rfl rfl,d (by simpa using hl) fun i b y hb hy=>h (i+1) b y hb hy⟩
theorem aR9 :∀(n:Nat) (a:SV) (v:Value),vok n a=true->VD P U τ F a v->veq n v v=true
 |0,_,_,h,_=>by cases h
 |n+1,a,v,h,r=>by
  have g:=aR9 n;have all:∀ {l:List SV} {xs:List Value},l.all (vok n)=true->l.length=xs.length->(∀(i:Nat) a x,l[i]? =some a->xs[i]? =some x->VD P U τ F a x)->Q7 (veq n) xs xs=true:=by
   intro l xs h1 h2 h3;rw[bD1]at h1;exact bt6 h2 fun i a x d hx=>g a x (h1 a (bB1 d)) (h3 i a x d hx)
  have b:∀k:Nat,Nat.beq k k=true:=fun k=>l8 rfl
  cases r with
  |any v=>cases h
  |int k e=>simp[veq]
  |bool e=>simp[veq]
  |str e=>simp[veq]
  |nilp=>simp[veq]
  |ptr=>simp[veq]
  |pptr=>simp[veq]
  |nils=>simp only[veq,b,bF7,bI4]
  |sl=>simp only[veq,b,bF7,bI4]
  |sl0=>simp only[veq,b,bF7,bI4]
  |lst t L clip v hp hc=>
   obtain⟨a,l,c,rfl⟩:=hp.lst_slice;simp only[veq,b,bF7,bI4]
  |agg l xs h1 h2=>simp only[vok]at h;simp only[veq];exact all h h1 h2
  |tup l xs h1 h2=>simp only[vok]at h;simp only[veq];exact all h h1 h2
  |fn f l m xs ys h1 h2 h3 h4=>
   simp only[vok,bA2]at h;simp only[veq,bF7,bK0,bA2]
   grind
  |nilf=>rfl
  |map=>simp[veq]
  |nilm=>simp[veq]
  |iface t a x hx=>simp only[vok]at h;simp only[veq,b,bK0];exact g _ _ h hx
  |nili=>rfl
  |yld=>simp[veq]
def bw7 (P:Program)(t:TypeId)(kv:Value):Prop:=∃kt vt sh ks,P.underlying t=some (.map kt vt)/\J6 P kt=some sh/\aa1 sh.2 ks=true/\kv=Y8 sh ks
def MS (P:Program)(t:TypeId)(j:Nat)(S S2:Hp):Prop:=∀kv,bw7 P t kv->w9 P S t (.map (some j)) kv false=w9 P S2 t (.map (some j)) kv false
variable {j:Nat}
theorem MS.of {t:TypeId}{S S2:Hp}(h:S2.m.get j=S.m.get j):MS P t j S S2:=fun kv _=>by simp only[w9,h]
theorem MS.trans {t:TypeId}{A B C:Hp}(h:MS P t j A B)(k:MS P t j B C):MS P t j A C:=fun kv hk=>(h kv hk).trans (k kv hk)
theorem MS.symm {t:TypeId}{A B:Hp}(h:MS P t j A B):MS P t j B A:=fun kv hk=>(h kv hk).symm
variable {f:Fm}{tm:T Value}
theorem ba8 (ht:TD P U τ F f tm){t:TypeId}{k:Operand}{u:Value}(g:a8 tm k=some u)(h:aj3 P t f k=true):bw7 P t u:=by
 unfold aj3 at h;split at h
 ·rename_i kt vt ks hm hk
  split at h
  ·rename_i sh d
   obtain⟨es,b⟩:=Option.isSome_iff_exists.1 h;obtain⟨r,h1,h2⟩:=o7 ht hk;rw[g,bA1]at h1;subst h1;obtain⟨k1,k2⟩:=bd3 h2 b;exact⟨kt,vt,sh,_,hm,d,k2,k1⟩
  ·cases h
 ·cases h
variable {z:Value}
theorem bz1 {kd:Kd}{v':Value}{d b:Dat}(hz:PV P F kd z b)(g:as4 (some z)=true)(h:PV P F kd v d)(h':PV P F kd v' d):v=v':=by
 cases hz with
 |int=>cases h;cases h';rfl
 |bool=>cases h;cases h';rfl
 |str=>cases h;cases h';rfl
 |_=>cases g
theorem aN0 {kt vt t : TypeId} {sh : Bool × List Kd} {ks : List KV} {i : Nat} {es   y : List (Value × Value)} {rows : Rows}  { g : Dat} {hp hp' : Hp} {d : TypeDesc} ( E : P.underlying t = some (.map kt vt)) (hd : P.underlying kt = some d) (hk : J6 P kt = some sh)
  (hz:E1 P vt=some z) (H:as4 (some z)=true) (w:PV P F (kd1 P vt) z g) (A:hp.m.get i=some (.map es true)) (C:hp'.m.get i=some (.map y true)) (hm:N0 P F kt vt es rows) (D:N0 P F kt vt y (mputR rows ks (mgetR rows ks g)))
  (hf:aa1 sh.2 ks=true):MS P t i hp hp':=by
 rintro kv ⟨K,N,L,b,q1,q2,G,rfl⟩
 rw[E]at q1;cases q1;rw[hk]at q2;cases q2;obtain⟨find,B,h⟩:=av8 hd hk G;have val:∀ {es:List (Value×Value)} {rows:Rows} {hp:Hp},hp.m.get i=some (.map es true)->N0 P F kt vt es rows-> ∃v,w9 P hp t (.map (some i)) (Y8 sh b) false=some v/\PV P F (kd1 P vt) v (mgetR rows b g):=by
  intro es rows hp A hm
  rcases G5 hk G B w g rows es 0 hm with⟨_,a2,a3,_⟩| ⟨_,v,_,a2,a3,_⟩
  ·exact⟨z,by simp only[w9,E,hd,A,h,a2,hz];rfl,by rw[a3];exact w⟩
  ·exact⟨v,by simp only[w9,E,hd,A,h,a2];rfl,a3⟩
 obtain⟨v,h1,h2⟩:=val A hm;obtain⟨v',h3,h4⟩:=val C D;have hl:ks.length=b.length:=(O4 hf).trans (O4 G).symm;have key:∀rows:Rows,mgetR (mputR rows ks (mgetR rows ks g)) b g=mgetR rows b g:=by
  have J:∀v:Dat,aa0 b.length (ks.map KV.dat++ [v])=ks:=fun v=>by unfold aa0;rw[List.take_left' (by rw[bC0];exact hl),aU9]
  have vm:∀v:Dat,(ks.map KV.dat++ [v]).getD b.length (.int 0)=v:=fun v=>by
   grind
  have put:∀(v:Dat) (M:Rows),mgetR (mputR M ks v) b g=if b=ks then v else mgetR M b g:=by
   intro v M
   induction M with
   |nil=>
    unfold mputR mgetR;rw[J,vm]
    by_cases e:b=ks
    ·grind
    ·rw[bC1 e,bC1 fun c=>e c.symm];rfl
   |cons r M O=>
    unfold mputR
    by_cases hr:aa0 ks.length r=ks
    ·rw[bC3 hr]
     unfold mgetR
     grind
    ·rw[bC1 hr]
     unfold mgetR
     grind
  grind
 rw[key]at h4;rw[h1,h3,bz1 w H h2 h4]
variable (P) in
def aM1 (τ:Tau)(F:Nat->Option Blk)(S:Hp)(tm:T Value)(o:Op)(v:Value):Rd->Prop
 | .free=>∀S2,xrd P tm S2 o=some v
 | .blk b=>∃j q,τ b=some (some (j,q))/\ ∀S2:Hp,S2.m.get j=S.m.get j->xrd P tm S2 o=some v
 | .frz=>(∀S2,xrd P tm S2 o=some v)\/ ∃j y,F j=some y/\ ∀S2:Hp,S2.m.get j=some y->xrd P tm S2 o=some v
 | .mlk t b=>∃j q,τ b=some (some (j,q))/\ ∀S2:Hp,MS P t j S S2->xrd P tm S2 o=some v
 | .bad=>True
theorem bv2 {call:c8}{S S':Hp}{o:Op}(ht:TD P U τ F f tm)(hs:SD P U τ F s S)(h:xop P call tm S o=some (v,S')):aM1 P τ F S tm o v (as5 P f o):=by
 unfold as5;split
 ·rename_i t x
  split
  ·rename_i b z row fld hx
   obtain⟨u,h1,h2⟩:=o7 ht hx;cases h2 with
   |ptr _ _ _ _ i q A h0=>exact⟨i,q,A,fun S2 r=>aT3 h h1 r⟩
  ·rename_i t' L row fld hx
   obtain⟨u,h1,h2⟩:=o7 ht hx;cases h2 with
   |pptr _ _ _ _ i q l c hp h0 hlt=>
    have:∃y,F i=some y:=by
     cases hp with
     |sl e i o c b cs n z rows x hF=>grind
    obtain⟨y,hy⟩:=this;exact .inr ⟨i,y,hy,fun S2 r=>aT3 h h1 (by rw[r,hs.frz i y hy])⟩
  ·trivial
 ·rename_i t x k ok
  split
  ·rename_i b hx
   obtain⟨u,h1,h2⟩:=o7 ht hx;cases h2 with
   |map _ i q A=>
    cases hc: !ok&&aj3 P t f k with
    |false=>exact⟨i,q,A,fun S2 r=>aZ8 h h1 r⟩
    |true=>
     rw[bA2,bE7]at hc;refine⟨i,q,A,fun S2 r=>?_⟩
     have hk:∃kv,a8 tm k=some kv:=by
      simp only[a9,d9,h1]at h
      grind
     obtain⟨kv,B⟩:=hk;have D:=r kv (ba8 ht B hc.2);refine ap4 (call:=call) rfl ?_;simp only[a9,d9,h1,B,hc.1]at h⊢;rw[<-D,(e9 h).1];rfl
  ·trivial
 ·rename_i t x lo hi mx
  have free:∀ {a:SV},f6 f x=some a->(∀w,VD P U τ F a w-> ∀i o l c,w≠ .slice (some ⟨i,o,none⟩) l c)-> ∀S2,xrd P tm S2 (.slice t x lo hi mx)=some v:=by
   intro a C hn S2;obtain⟨u,h1,h2⟩:=o7 ht C;exact ad8 h h1 S2 fun i o l c e=>absurd e (hn u h2 i o l c)
  split
  ·rename_i t' L c hx
   obtain⟨u,h1,h2⟩:=o7 ht hx;cases h2 with
   |lst _ _ _ _ hp _=>
    generalize Dat.lst (L.toR U)=d at hp;cases hp with
    |nils=>exact .inl fun S2=>ad8 h h1 S2 fun i o l c e=>by cases e
    |vague=>exact .inl fun S2=>ad8 h h1 S2 fun i o l c e=>by cases e
    |sl e i o c b cs n z rows x hF=>
     refine .inr ⟨i,b,hF,fun S2 r=>ad8 h h1 S2 fun E o' l' c' e=>?_⟩
     cases e;rw[r,hs.frz i b hF]
  ·rename_i hx;exact free hx fun w g i o l c e=>by cases g;cases e
  ·rename_i hx;exact free hx fun w g i o l c e=>by cases g;cases e
  ·trivial
 ·rename_i args ats
  split
  ·rename_i x hx
   have key:∀ {a:SV},f6 f x=some a->(∀w,VD P U τ F a w-> ∀i,w≠ .map (some i))->aM1 P τ F S tm (.call ⟨.builtin .len,args,ats⟩) v .free:=by
    intro a C hn S2;obtain⟨u,h1,h2⟩:=o7 ht C;exact bw5 h hx h1 (hn u h2) S2
   split
   ·rename_i he;exact key he fun w g i=>by cases g;simp
   ·rename_i he;exact key he fun w g i=>by cases g<;>simp
   ·rename_i he
    refine key he fun w g i=>?_
    cases g with
    |lst _ _ _ _ hp _=>obtain⟨a,l,c,rfl⟩:=hp.lst_slice;simp
   ·rename_i he;exact key he fun w g i=>by cases g;simp
   ·trivial
  ·trivial
 ·trivial
variable (P) in
def snw (f : Fm) (o : Op) : Option (n5 × (Nat → SV)) :=
 match o with
 | .alloc e=>match ab4 P e with
  |some l=>some (.cells l e l.length,fun b=>.ptr b l.length (.int 0) 0)
  |none=>none
 | .box e x=>match f6 f x with
  |some v=>match o8 v with
   |some l=>some (.cells l e l.length,fun b=>.ptr b l.length (.int 0) 0)
   |none=>none
  |none=>none
 | .buildSlice t len parts => match ab3 f parts.toList with
  | some ps => match P.underlying t with
   | some (.slice e) => match P.info? e with
    | some ie => match ab4 P e with
     | some z => bif Nat.beq z.length ie.size && Nat.ble (len * ie.size) 16777216 && Nat.ble len 16777216 then
       match ar0 (fun i=>some (i*ie.size,ie.size)) (br1 len z) ps with
       |some cs=>some (.cells cs e ie.size,fun b=>.sl b ie.size (.int 0) (.int len) (.ex (.int len)))
       |none=>none
      else none
     |none=>none
    |none=>none
   |_=>none
  |none=>none
 |_=>none
variable (P U) in
def NwOK (τ:Tau)(F:Nat->Option Blk)(tm:T Value)(o:Op)(x:n5)(mk:Nat->SV):Prop:=
 ∃n,xnw P tm o=some n/\(∀τ',Tle τ τ'->BD P U τ' F 0 x n.blk)/\ ∀(τ':Tau) b id,τ' b=some (some (id,0))->VD P U τ' F (mk b) (n.val id)
theorem bx2  {vs : List Value} {e : TypeId} (h : VDL P U τ F l vs) : (∀ τ', Tle τ τ' → BD P U τ' F 0 (.cells l e l.length) (A4 vs e vs.length)) ∧
  ∀(τ':Tau) b d,τ' b=some (some (d,0))->VD P U τ' F (.ptr b l.length (.int 0) 0) ((⟨A4 vs e vs.length,.ptr,rfl⟩:Nw).val d):=by
 refine⟨fun τ' ht=>?_,fun τ' b d hb=>?_⟩
 ·rw[h.1];exact R6 (h.mono ht (Fle.refl F)) e vs.length
 ·exact VD.ptr' hb (by show(0:Int)<=0;omega) (by show 0=0+(0:Int).toNat*_+0;simp)
theorem bz2   (ht : TD P U τ F f tm) {o : Op} {x : n5} {mk : Nat → SV} (h : snw P f o = some (x, mk)) : NwOK P U τ F tm o x mk := by
 unfold snw at h;split at h
 ·split at h
  ·rename_i l hl
   cases h;obtain⟨z,h1,h2⟩:=H8 (U:=U) (τ:=τ) (F:=F) hl;exact⟨_,by simp only[xnw,ad6,h1];rfl,bx2 h2⟩
  ·cases h
 ·split at h
  ·rename_i v J
   split at h
   ·rename_i l hl
    cases h;obtain⟨w,h1,h2⟩:=o7 (P:=P) (U:=U) ht J;exact⟨_,by simp only[xnw,h1];rfl,bx2 (ac9 h2 hl)⟩
   ·cases h
  ·cases h
 ·rename_i t len     C
  split at h
  ·rename_i ps   r
   obtain⟨L,y,A⟩:=ad2 (P:=P) (U:=U) ht r;split at h
   ·rename_i e he
    split at h
    ·rename_i ie   g
     split at h
     ·rename_i z hz
      obtain⟨zv,h1,h2⟩:=H8 (U:=U) (τ:=τ) (F:=F) hz;rw[h2.1]at h;cases hb:Nat.beq zv.cells.toList.length ie.size&&Nat.ble (len*ie.size) 16777216&&Nat.ble len 16777216 with
      |false=>grind
      | true =>
       rw[hb,bB8]at h;split at h
       ·rename_i cs   d
        cases h;obtain⟨ys,h3,h4⟩:=ab2 (au4 h2 len) A d;refine⟨⟨A4 ys e ie.size,.slice len len,rfl⟩,?_,fun τ' hl=>R6 (h4.mono hl (Fle.refl F)) e ie.size,fun τ' b K B=>?_⟩
        ·simp only[xnw,y,bj2,he,g,h1,hb,bB8,h3]
        ·have  H : len < unk := by
          simp only[bA2,bF4]at hb;unfold unk;omega
         have:=VD.sl (P:=P) (U:=U) (F:=F) b ie.size (.int 0) (.int len) (.ex (.int len)) K 0 len B (bG4 0) (Int.natCast_nonneg len) ⟨Int.natCast_nonneg len,(bE2 len).symm,H,bG4 _⟩;have D:(E.int (len:Int)).toN U=len:=bE2 len;rw[D]at this;have G:(E.int 0).toN U*ie.size=0:=by show(0:Int).toNat*_=0;simp
         rw[G]at this;exact this
       ·cases h
     ·cases h
    ·cases h
   ·cases h
  ·cases h
 ·cases h
end
theorem ak8 {nx0:Nat}{m:Nat->Bool}:∀(es:List Ent) (S:Hp),(takes nx0 m es S).nx=S.nx
 | [],S=>rfl
 |e::es,S=>by
  unfold takes;cases e.nw with
  |none=>exact ak8 es S
  |some n=>cases m e.i with
   |false=>exact ak8 es S
   |true=>exact ak8 es _
theorem ao4 {nx0:Nat}{m:Nat->Bool}{j:Nat}:∀(es:List Ent) (S:Hp),(∀e∈es,e.nw≠none->m e.i=true->j≠nx0+e.i)->(takes nx0 m es S).m.get j=S.m.get j
 | [],S,_=>rfl
 |e::es,S,h=>by
  unfold takes;have b:=fun S=>ao4 es S fun e' he'=>h e' (bF9 _ he')
  have h0:=h e (by simp)
  cases hn:e.nw with
  |none=>exact b S
  |some n=>
   simp only;cases hm:m e.i with
   |false=>exact b S
   |true=>
    rw[bB8,b];show(S.m.set _ _).get j=_;rw[T.get_set,bC1 (h0 (by rw[hn];simp) hm)]
theorem aG7 {nx0 : Nat} {m : Nat → Bool} {e : Ent} {n : Nw} : ∀ (es : List Ent) (S : Hp), e ∈ es → e.nw = some n → m e.i = true → es.Pairwise (fun a b => a.i ≠ b.i) → (takes nx0 m es S).m.get (nx0 + e.i) = some n.blk
 | [],S,he,_,_,_=>by simp at he
 | e' :: es, S, he, hn, hm, hp => by
  unfold takes;rw[List.pairwise_cons]at hp
  by_cases d:e=e'
  ·subst d
   rw[hn];simp only[hm,bB8];rw[ao4]
   ·show(S.m.set _ _).get _=_
    rw[T.get_set,bC3 rfl]
   ·grind
  ·have he' : e ∈ es := by
    grind
   have g:=fun S=>aG7 (nx0:=nx0) es S he' hn hm hp.2
   grind
end Go.Sx
namespace Go.Sx
open Go.Xe
structure Pd where
 b:Nat
 i:Nat
 x:n5
structure En where
 i:Nat
 pre:Nat
 w:Bool
 nr:Bool
 r:Rd
 keys:List Nat
 fr:Bool
def J0 (b:Nat):List Nat->Bool
 | []=>false
 |k::l=>bif Nat.beq b k then true else J0 b l
theorem E6 {b:Nat}:∀ {l:List Nat},J0 b l=false->b∉l
 | [],_=>by simp
 |k::l,h=>by
  unfold J0 at h
  by_cases e:b=k
  ·simp_all
  ·rw[n8 e,bB9]at h
   simp[e,E6 h]
def ar1 (a r:Rd):Bool:=match a,r with
 | .mlk t b,.mlk t' b'=>Nat.beq t t'&&Nat.beq b b'
 |_,_=>false
def Y0 (pre:Nat)(keys:List Nat)(ws:Rd)(e:En):Bool:=
 bif e.nr then(bif pre.testBit e.i then true else match e.r with
  | .free=>true
  | .frz=>true
  | .blk b=> !J0 b keys
  | .mlk t b=> !J0 b keys||ar1 ws (.mlk t b)
  | .bad=>false)else true
def V5 (pre:Nat)(r:Rd)(y:En):Bool:=
 bif y.w then(bif pre.testBit y.i then true else match r with
  | .free=>true
  | .blk b=> !J0 b y.keys
  | .mlk t b=> !J0 b y.keys||ar1 y.r (.mlk t b)
  | .frz=> !y.fr
  |_=>false)else true
def PT (S0:Hp)(esX:List Ent)(k:Nat)(Sk:Hp):Prop:=(k=0/\Sk=S0)\/ ∃x∈esX,isW x=true/\k=x.i+1/\Sk=x.S2
def be5 (P:Program)(esX:List Ent)(e:Ent)(k:Nat)(Sk:Hp):Prop:=own esX e k=true\/P7 esX e k=false\/ ∃v,xrd P e.tm Sk e.o.op=some v/\veq 1000 v e.r=true
variable {esX:List Ent}
theorem be5.look {P:Program}{e:Ent}{k:Nat}{Sk:Hp}(h:be5 P esX e k Sk):an0 P esX e k Sk=true:=by
 unfold an0
 rcases h with h|h| ⟨v,h1,h2⟩
 ·grind
 ·grind
 ·grind
theorem bl3 {a b:Nat}(h:a<b):Nat.blt a b=true:=bA8 h
theorem bx1 {a b:Nat}(h:b<=a):Nat.blt a b=false:=by
 cases hb:Nat.blt a b
 ·rfl
 ·simp_all;omega
theorem aD3 {e:Ent}{k:Nat}{y:Ent}(hy:y∈esX)(d:isW y=true)(h:(y.i<k/\y.pre.testBit e.i=true)\/(k<=y.i/\e.pre.testBit y.i=true)):P7 esX e k=false:=by
 cases b:P7 esX e k with
 |false=>rfl
 |true=>
  unfold P7 at b;rw[bD1]at b;have:=b y hy;rw[d,bB8]at this
  rcases h with⟨h1,h2⟩| ⟨h1,h2⟩
  ·rw[bl3 h1,bB8,h2]at this;cases this
  ·simp_all;omega
section
variable {P :Program}{S0:Hp}
variable {esX:List Ent}{eX:Ent}{k:Nat}{Sk:Hp}
theorem be5.cons {e:Ent}(h:be5 P esX e k Sk)(h1:k<=eX.i)(h2:e.i<=eX.i):be5 P (eX::esX) e k Sk:=by
 rcases h with h|h|h
 ·refine .inl ?_
  unfold own at h⊢;rw[List.all_cons,h,bI4,bx1 h1,bx1 h2]
  grind
 ·refine .inr (.inl ?_)
  unfold P7 at h⊢
  grind
 ·exact .inr (.inr h)
structure DB (P:Program)(S0:Hp)(i:Nat)(τ:Tau)(F:Nat->Option Blk)(s:SS)(S:Hp)(es:List En)(esX:List Ent):Prop where
 xi:∀e∈esX,e.i<i
 wx:∀y∈esX,isW y=true-> ∃en∈es,en.w=true/\en.i=y.i/\en.pre=y.pre
 wn:∀en∈es,en.w=true-> ∃y∈esX,isW y=true/\en.i=y.i/\en.pre=y.pre
 look:∀e∈esX,e.wt=true->c6 e.o.op=1-> ∀k Sk,PT S0 esX k Sk->be5 P esX e k Sk
 ag:∀k Sk,PT S0 esX k Sk-> ∀b x j o,s.get b=some x->τ b=some (some (j,o))->(∀en∈es,en.w=true->k<=en.i->b∉en.keys)->Sk.m.get j=S.m.get j
 af:∀k Sk,PT S0 esX k Sk->(∀en∈es,en.w=true->k<=en.i->en.fr=false)-> ∀j y,F j=some y->Sk.m.get j=some y
 rd:∀e∈esX,e.wt=true->c6 e.o.op=1->veq 1000 e.r e.r=true/\ ∃en∈es,en.nr=true/\en.i=e.i/\aM1 P τ F e.S e.tm e.o.op e.r en.r/\
  (∀b,en.r= .blk b->(∀y∈es,y.w=true->e.i<y.i->y.pre.testBit e.i=false)-> ∃x j q,s.get b=some x/\τ b=some (some (j,q))/\S.m.get j=e.S.m.get j)/\
  ∀t b,en.r= .mlk t b->(∀y∈es,y.w=true->e.i<y.i->y.pre.testBit e.i=false)-> ∃x j q,s.get b=some x/\τ b=some (some (j,q))/\MS P t j e.S S
 am:∀t k Sk,PT S0 esX k Sk-> ∀b x j o,s.get b=some x->τ b=some (some (j,o))->(∀en∈es,en.w=true->k<=en.i->b∉en.keys\/ar1 en.r (.mlk t b)=true)->MS P t j Sk S
theorem PT.le {i:Nat}(hi:∀e∈esX,e.i<i)(h:PT S0 esX k Sk):k<=i:=by
 rcases h with⟨rfl,_⟩| ⟨x,hx,_,rfl,_⟩
 ·grind
 ·grind
theorem PT.cons (h:PT S0 (eX::esX) k Sk):PT S0 esX k Sk\/(isW eX=true/\k=eX.i+1/\Sk=eX.S2):=by
 rcases h with h| ⟨x,hx,b,h1,h2⟩
 ·exact .inl (.inl h)
 ·rcases bD9.1 hx with rfl|hx
  ·grind
  ·exact .inl (.inr ⟨x,hx,b,h1,h2⟩)
variable {F F':Nat->Option Blk}
theorem aM1.mono {τ τ':Tau}{S:Hp}{tm:T Value}{o:Op}{v:Value}{r:Rd}(ht:Tle τ τ')(hF:Fle F F')(h:aM1 P τ F S tm o v r):aM1 P τ' F' S tm o v r:=by
 cases r with
 |free=>exact h
 |blk b=>obtain⟨j,q,h1,h2⟩:=h;exact⟨j,q,ht _ _ h1,h2⟩
 |frz=>
  rcases h with h| ⟨j,y,h1,h2⟩
  ·exact .inl h
  ·exact .inr ⟨j,y,hF _ _ h1,h2⟩
 |mlk t b=>obtain⟨j,q,h1,h2⟩:=h;exact⟨j,q,ht _ _ h1,h2⟩
 |bad=>trivial
theorem DB.step {i : Nat} {τ τ' : Tau}  {s s' : SS} {S S' : Hp} {es : List En}  (h : DB P S0 i τ F s S es esX) {en : En} 
  (ht:Tle τ τ') (hF:Fle F F') (hl:∀b x,s.get b=some x->τ' b=τ b) (ak:∀j y,F' j=some y->S'.m.get j=some y) (aj:(isW eX=true->en.fr=false)-> ∀j y,F' j=some y->F j=some y)
  (hg:∀b,b∉en.keys->s'.get b=s.get b) (ad:∀b x j o,s.get b=some x->τ b=some (some (j,o))->b∉en.keys->S'.m.get j=S.m.get j)
  (ei:en.i=i) (xi:eX.i=i) (hp:en.pre=eX.pre) (hw:en.w=isW eX) (ab:eX.S2=S') (ah:isW eX=false->S'=S/\en.keys=[])
  (hf:isW eX=true->es.all (Y0 eX.pre en.keys en.r)=true)
  (hm:en.w=true-> ∀t b,ar1 en.r (.mlk t b)=true-> ∃x x' j q,s.get b=some x/\s'.get b=some x'/\τ b=some (some (j,q))/\MS P t j S S')
  (hr:eX.wt=true->c6 eX.o.op=1->veq 1000 eX.r eX.r=true/\en.nr=true/\eX.S=S/\aM1 P τ' F S eX.tm eX.o.op eX.r en.r/\(∀b,(en.r= .blk b\/ ∃t,en.r= .mlk t b)-> ∃x,s.get b=some x)/\es.all (V5 eX.pre en.r)=true):
  DB P S0 (i+1) τ' F' s' S' (en::es) (eX::esX):=by
 have nk:∀b,(en.w=true->b∉en.keys)->b∉en.keys:=fun b hb=>by
  grind
 have ai:c6 eX.o.op=1->isW eX=false:=fun hk=>by unfold isW;rw[hk];rfl
 have wx:∀y∈eX::esX,isW y=true-> ∃d∈en::es,d.w=true/\d.i=y.i/\d.pre=y.pre:=by
  intro y hy X
  rcases bD9.1 hy with rfl|hy
  ·grind
  ·obtain⟨e1,h1,h2⟩:=h.wx y hy X
   grind
 have wn:∀d∈en::es,d.w=true-> ∃y∈eX::esX,isW y=true/\d.i=y.i/\d.pre=y.pre:=by
  intro y hy X
  rcases bD9.1 hy with rfl|hy
  ·grind
  ·obtain⟨e1,h1,h2⟩:=h.wn y hy X
   grind
 have rd : ∀ e ∈ eX :: esX, e.wt = true → c6 e.o.op = 1 → veq 1000 e.r e.r = true ∧ ∃   d ∈ en :: es,   d.nr = true ∧   d.i = e.i ∧ aM1 P τ' F' e.S e.tm e.o.op e.r   d.r ∧
   (∀b,d.r= .blk b->(∀y∈en::es,y.w=true->e.i<y.i->y.pre.testBit e.i=false)-> ∃x j q,s'.get b=some x/\τ' b=some (some (j,q))/\S'.m.get j=e.S.m.get j)/\
   ∀t b,d.r= .mlk t b->(∀y∈en::es,y.w=true->e.i<y.i->y.pre.testBit e.i=false)-> ∃x j q,s'.get b=some x/\τ' b=some (some (j,q))/\MS P t j e.S S':=by
  intro e he V hk
  rcases bD9.1 he with rfl|he
  ·obtain⟨h1,h2,h3,h4,h5,h6⟩:=hr V hk
   obtain⟨l1,l2⟩:=ah (ai hk);refine⟨h1,en,by simp,h2,by rw[ei,xi],by rw[h3];exact h4.mono (Tle.refl _) hF,fun b hb _=>?_,fun t b hb _=>?_⟩
   ·obtain⟨x,hx⟩:=h5 b (.inl hb)
    rw[hb]at h4;obtain⟨j,q,K,_⟩:=h4
    grind
   ·obtain⟨x,hx⟩:=h5 b (.inr ⟨t,hb⟩)
    rw[hb]at h4;obtain⟨j,q,K,_⟩:=h4;exact⟨x,j,q,by rw[hg b (by rw[l2];simp)];exact hx,K,by rw[h3,l1];exact MS.of rfl⟩
  ·obtain⟨h1,O,h2,h3,h4,h5,h6,aa⟩:=h.rd e he V hk
   refine⟨h1,O,by simp[h2],h3,h4,h5.mono ht hF,fun b hb C=>?_,fun t b hb C=>?_⟩
   rotate_right 1
   ·obtain⟨x,j,q,K,M,h9⟩:=aa t b hb fun y hy=>C y (by simp[hy])
    have D:b∉en.keys\/en.w=true/\ar1 en.r (.mlk t b)=true:=by
     cases E:en.w with
     |false=>exact .inl (nk b fun h=>by rw[E]at h;cases h)
     |true=>
      have G:=C en (by simp) E (by rw[ei];exact h.xi e he)
      have H:=hf (by rw[<-hw];exact E)
      rw[bD1]at H;have h12:=H O h2;unfold Y0 at h12;rw[h3,bB8,h4,<-hp,G,bB9,hb]at h12;simp only[bH6,bE7]at h12
      rcases h12 with h12|h12
      ·exact .inl (E6 h12)
      ·grind
    rcases D with D| ⟨E,ac⟩
    ·exact⟨x,j,q,by rw[hg b D];exact K,ht _ _ M,h9.trans (MS.of (ad b x j q K M D))⟩
    ·obtain⟨_,x',j',q',_,g2,g3,g4⟩:=hm E t b ac
     rw[M]at g3;cases g3;exact⟨x',j,q,g2,ht _ _ M,h9.trans g4⟩
   obtain⟨x,j,q,K,M,h9⟩:=h6 b hb fun y hy=>C y (by simp[hy])
   have D:b∉en.keys:=nk b fun E=>by
    have G:=C en (by simp) E (by rw[ei];exact h.xi e he)
    have H:=hf (by rw[<-hw];exact E)
    rw[bD1]at H;have h12:=H O h2;unfold Y0 at h12;rw[h3,bB8,h4,<-hp,G,bB9,hb]at h12;simp only[bE7]at h12;exact E6 h12
   grind
 refine⟨fun e he=>?_,wx,wn,?_,?_,fun k Sk g hc j y hj=>?_,rd,fun t k Sk g b x j o hb J W=>?_⟩
 rotate_right 1
 ·rcases g.cons with g| ⟨Q,rfl,rfl⟩
  ·have Y:=g.le h.xi
   have D:b∉en.keys\/en.w=true/\ar1 en.r (.mlk t b)=true:=by grind
   rcases D with D| ⟨E,ac⟩
   ·rw[hg b D]at hb
    rw[hl b x hb]at J;exact(h.am t k Sk g b x j o hb J fun d T=>W d (by simp[T])).trans (MS.of (ad b x j o hb J D))
   ·obtain⟨x0,_,j',q',g1,_,g3,g4⟩:=hm E t b ac
    rw[hl b x0 g1,g3]at J;cases J;exact(h.am t k Sk g b x0 _ _ g1 g3 fun d T=>W d (by simp[T])).trans g4
  ·rw[ab];exact MS.of rfl
 rotate_right 1
 ·rcases g.cons with g| ⟨Q,rfl,rfl⟩
  ·have Y:=g.le h.xi
   exact h.af k Sk g (fun d he=>hc d (bF9 _ he)) j y (aj (fun Q=>hc en (by simp) (by rw[hw];exact Q) (by omega)) j y hj)
  ·grind
 ·rcases bD9.1 he with rfl|he
  ·omega
  ·exact Nat.lt_succ_of_lt (h.xi e he)
 ·intro e he   V hk k Sk   g
  rcases bD9.1 he with rfl|he
  ·obtain ⟨h1, h2, h3, h4, h5, h6⟩ := hr   V hk
   have ao:=ai hk
   rcases g.cons with g| ⟨hc,_⟩
   ·have    R : ∀   d ∈ es, V5 e.pre en.r   d = true := bD1.1 h6
    by_cases c1:∃y∈esX,isW y=true/\k<=y.i/\e.pre.testBit y.i=true
    ·obtain⟨y,hy,c2,c3,c4⟩:=c1
     exact .inr (.inl (aD3 (bF9 _ hy) c2 (.inr ⟨c3,c4⟩)))
    ·have     B : ∀   d ∈ es,   d.w = true → k ≤   d.i → e.pre.testBit   d.i = false := by
      intro d he' ae Y;obtain⟨y,hy,d1,d2,d3⟩:=h.wn d he' ae;cases ht:e.pre.testBit d.i with
      |false=>rfl
      |true=>exact absurd ⟨y,hy,d1,by omega,by rw[<-d2];exact ht⟩ c1
     by_cases c2:∃y∈esX,isW y=true/\k<=y.i
     ·obtain⟨y,hy,d1,d2⟩:=c2
      obtain⟨d,e1,e2,e3,e4⟩:=h.wx y hy d1;have l1:=B d e1 e2 (by omega)
      have o1:=R d e1;unfold V5 at o1;rw[e2,bB8,l1,bB9]at o1;refine .inr (.inr ⟨e.r,?_,h1⟩);cases A:en.r with
      |free=>rw[A]at h4;exact h4 Sk
      |blk b=>
       rw[A]at h4;obtain⟨j,q,K,M⟩:=h4;obtain⟨x,hx⟩:=h5 b (.inl A);refine M Sk (h.ag k Sk g b x j q hx (by rw[<-hl b x hx];exact K) fun L T Z m3=>?_)
       have N:=R L T;unfold V5 at N;rw[Z,bB8,B L T Z m3,bB9,A]at N;simp only[bE7]at N;exact E6 N
      |frz=>
       rw[A]at h4
       rcases h4 with h4| ⟨j,w,K,M⟩
       ·exact h4 Sk
       refine M Sk (h.af k Sk g (fun L T Z m3=>?_) j w K)
       have N:=R L T;unfold V5 at N;rw[Z,bB8,B L T Z m3,bB9,A]at N
       simpa using N
      |mlk t b=>
       rw[A]at h4;obtain⟨j,q,K,M⟩:=h4;obtain⟨x,hx⟩:=h5 b (.inr ⟨t,A⟩);refine M Sk (h.am t k Sk g b x j q hx (by rw[<-hl b x hx];exact K) fun L T Z m3=>?_).symm
       have N:=R L T;unfold V5 at N;rw[Z,bB8,B L T Z m3,bB9,A]at N;simp only[bH6,bE7]at N;exact N.imp E6 id
      |bad=>rw[A]at o1;cases o1
     ·refine .inl ?_
      unfold own;rw[bD1];intro y hy;cases X:isW y with
      |false=>rfl
      | true =>
       rcases bD9.1 hy with rfl|hy
       ·grind
       ·have hlt : y.i < k := by
         rcases Nat.lt_or_ge y.i k with hh|hh
         ·exact hh
         ·exact absurd ⟨y,hy,X,hh⟩ c2
        have:=h.xi y hy;rw[bB8,bl3 hlt,bl3 (by omega)]
        rfl
   ·rw[ao]at hc;cases hc
  ·have  ap := h.xi e he
   rcases g.cons with g| ⟨Q,rfl,rfl⟩
   ·exact(h.look e he V hk k Sk g).cons (by rw[xi];exact g.le h.xi) (by omega)
   ·by_cases c1 : ∃ y ∈ eX :: esX, isW y = true ∧ e.i < y.i ∧ y.pre.testBit e.i = true
    ·obtain⟨y,hy,c2,c3,c4⟩:=c1
     refine .inr (.inl (aD3 hy c2 (.inl ⟨?_,c4⟩)))
     rcases bD9.1 hy with rfl|hy
     ·omega
     ·have:=h.xi y hy;omega
    ·have     B : ∀ y ∈ en :: es, y.w = true → e.i < y.i → y.pre.testBit e.i = false := by
      intro d he' ae Y;obtain⟨y,hy,d1,d2,d3⟩:=wn d he' ae;cases ht:d.pre.testBit e.i with
      |false=>rfl
      |true=>exact absurd ⟨y,hy,d1,by omega,by rw[<-d3];exact ht⟩ c1
     obtain⟨h1,O,h2,h3,h4,h5,h6,aa⟩:=rd e (by simp[he]) V hk
     refine .inr (.inr ⟨e.r,?_,h1⟩);rw[ab];cases A:O.r with
     |free=>rw[A]at h5;exact h5 S'
     |blk b=>
      rw[A]at h5;obtain⟨j,q,K,M⟩:=h5;obtain⟨x,j',q',h9,G,H⟩:=h6 b A B;rw[K]at G;cases G;exact M S' H
     |mlk t b=>
      rw[A]at h5;obtain⟨j,q,K,M⟩:=h5;obtain⟨x,j',q',h9,G,H⟩:=aa t b A B;rw[K]at G;cases G;exact M S' H
     |frz=>
      rw[A]at h5
      rcases h5 with h5| ⟨j,y,K,M⟩
      ·exact h5 S'
      ·exact M S' (ak j y K)
     |bad=>
      have al:O∈es:=by
       rcases bD9.1 h2 with rfl|hm
       ·omega
       ·exact hm
      have o1:=hf Q;rw[bD1]at o1;have N:=o1 O al;unfold Y0 at N;rw[h3,bB8,h4,<-hp,B en (by simp) (by rw[hw,Q]) (by omega),bB9,A]at N
      cases N
 ·intro k Sk g b x j o hb J W
  rcases g.cons with g| ⟨Q,rfl,rfl⟩
  ·have Y:=g.le h.xi
   have D:b∉en.keys:=nk b fun E=>W en (by simp) E (by omega)
   rw[hg b D]at hb;rw[hl b x hb]at J;rw[h.ag k Sk g b x j o hb J fun d T=>W d (by simp[T]),ad b x j o hb J D]
  ·rw[ab]
end
end Go.Sx
namespace Go.Sx
open Go.Xe
def tkl (pd:List Pd):List (Nat×Option n5):=pd.map fun p=>(p.b,some p.x)
def Y3 (s:SS)(pd:List Pd):SS:= {s with h:=tkl pd++s.h}
def aR7 (s:SS):SS:= {s with nx:=s.nx+1}
theorem Q1 {s:SS}{b:Nat}:∀ {pd:List Pd},(∀p∈pd,b≠p.b)->(Y3 s pd).get b=s.get b
 | [],_=>rfl
 |p::pd,h=>by
  have d:=Q1 (s:=s) (pd:=pd) fun q hq=>h q (bF9 _ hq)
  unfold SS.get Y3 tkl at d⊢;simp only[bF2,bG2,j4]
  grind
theorem az5 {s : SS} {p : Pd} : ∀ {pd : List Pd}, p ∈ pd → pd.Pairwise (fun p q => p.b ≠ q.b) → (Y3 s pd).get p.b = some p.x
 | [],h,_=>by simp at h
 | q :: pd, h, hp => by
  rw[List.pairwise_cons]at hp
  by_cases e:q.b=p.b
  ·rcases bD9.1 h with rfl|h
   ·unfold SS.get Y3 tkl
    simp only[bF2,bG2,j4,bC3]
   ·grind
  ·have h' : p ∈ pd := by
    grind
   have d:=az5 (s:=s) h' hp.2;unfold SS.get Y3 tkl at d⊢;simp only[bF2,bG2,j4]
   grind
section
variable {P :Program}{U:Nat->List Dat->Dat}{τ0:Tau}{F0:Nat->Option Blk}{s0:SS}{hp0:Hp}{n:Nat}
variable (P U) in
structure PDOK (s0:SS)(hp0:Hp)(i:Nat)(τ:Tau)(F:Nat->Option Blk)(s:SS)(esX:List Ent)(I:Nat)(p:Pd):Prop where
 lt:p.i<i
 un:I.testBit p.i=false
 g:s.get p.b=none
 lo:s0.nx<=p.b
 hi:p.b<s.nx
 t:τ p.b=some (some (hp0.nx+p.i,0))
 f:F (hp0.nx+p.i)=none
 u:∀c o,τ c=some (some (hp0.nx+p.i,o))->c=p.b
 e:∃e∈esX,e.i=p.i/\ ∃nw,e.nw=some nw/\BD P U τ F 0 p.x nw.blk
variable (P U) in
structure DA (τ0:Tau)(F0:Nat->Option Blk)(s0:SS)(hp0:Hp)(n i:Nat)(τ:Tau)(F:Nat->Option Blk)(s:SS)(S:Hp)(f:Fm)(tm:T Value)(pd:List Pd)(esX:List Ent)(I:Nat):Prop where
 sd:SD P U τ F s S
 td:TD P U τ F f tm
 ext:Ext τ0 F0 s0 hp0 τ F s S
 room:hp0.nx+n<=S.nx
 ib:∀j,i<=j->I.testBit j=false
 xd:esX.Pairwise (fun a b=>a.i≠b.i)
 pn:pd.Pairwise (fun p q=>p.b≠q.b)
 pds:∀p∈pd,PDOK P U s0 hp0 i τ F s esX I p
 cl:∀j,i<=j->j<n->(∀c o,τ c≠some (some (hp0.nx+j,o)))/\F (hp0.nx+j)=none
 tk:∀e∈esX,e.nw≠none->I.testBit e.i=false-> ∃p∈pd,p.i=e.i
variable {i :Nat}{τ:Tau}{F:Nat->Option Blk}{s:SS}{S:Hp}{f:Fm}{tm:T Value}{pd:List Pd}{esX:List Ent}{I:Nat}
variable {f':Fm}
theorem DA.fr (h:DA P U τ0 F0 s0 hp0 n i τ F s S f tm pd esX I)(hf:TD P U τ F f' tm):DA P U τ0 F0 s0 hp0 n i τ F s S f' tm pd esX I:= {h with td:=hf}
variable {eX:Ent}
theorem V6 (d:esX.Pairwise (fun a b=>a.i≠b.i))(g:∀e∈esX,e.i<i)(he:eX.i=i):(eX::esX).Pairwise (fun a b=>a.i≠b.i):=by
 rw[List.pairwise_cons];exact⟨fun a h=>by have:=g a h;omega,d⟩
variable {tm':T Value}
theorem DA.keep (h : DA P U τ0 F0 s0 hp0 n i τ F s S f tm pd esX I) (  A : ∀ e ∈ esX, e.i < i) {s' : SS}    (  w : SD P U τ F s' S) (  y : TD P U τ F f' tm') (hh : s'.h = s.h) (hn : s'.nx = s.nx)
  (d:Ext τ F s S τ F s' S) (he:eX.i=i) (E:eX.nw=none):DA P U τ0 F0 s0 hp0 n (i+1) τ F s' S f' tm' pd (eX::esX) I:=by
 have D:∀b,s'.get b=s.get b:=fun b=>by unfold SS.get;rw[hh]
 refine⟨w,y,h.ext.trans d,h.room,fun j hj=>h.ib j (by omega),V6 h.xd A he,h.pn,fun p hp=>?_,fun j hj=>h.cl j (by omega),fun e hm r=>?_⟩
 ·have k:=h.pds p hp
  obtain⟨e,B,C⟩:=k.e;exact⟨by have:=k.lt;omega,k.un,by rw[D];exact k.g,k.lo,by rw[hn];exact k.hi,k.t,k.f,k.u,⟨e,by simp[B],C⟩⟩
 ·rcases bD9.1 hm with rfl|hm
  ·grind
  ·exact h.tk e hm r
theorem DA.pend (h : DA P U τ0 F0 s0 hp0 n i τ F s S f tm pd esX I) (  M : ∀ e ∈ esX, e.i < i) (  J : i < n)    {x : n5} {nw : Nw}
  (L:TD P U (put τ s.nx (some (hp0.nx+i,0))) F f' tm') (H:BD P U (put τ s.nx (some (hp0.nx+i,0))) F 0 x nw.blk) (he:eX.i=i) (W:eX.nw=some nw):
  DA P U τ0 F0 s0 hp0 n (i+1) (put τ s.nx (some (hp0.nx+i,0))) F (aR7 s) S f' tm' (⟨s.nx,i,x⟩::pd) (eX::esX) I:=by
 have h0:τ s.nx=none:=h.sd.new _ (bC4 _);have w:=an7 (τ:=τ) (some (hp0.nx+i,0)) h0;obtain⟨X,Q⟩:=h.cl i (bC4 _) J;have K:=h.room;have old:∀b,b≠s.nx->put τ s.nx (some (hp0.nx+i,0)) b=τ b:=fun b hb=>v7 τ _ hb
 have A:∀b x,s.get b=some x->b≠s.nx:=fun b x hb=>by have:=h.sd.bound hb;omega
 refine⟨⟨fun b y hb=>?_,fun b c y z k o j q hb hc B E G=>?_,h.sd.frz,fun b j o hb=>?_,h.sd.flt,fun b hb=>?_,h.sd.fc,fun r hr=>(h.sd.fz r hr).mono w (Fle.refl F)⟩,L,?_,h.room,fun j hj=>h.ib j (by omega),V6 h.xd M he,?_,fun p hp=>?_,fun j hj D=>?_,fun e hm B V=>?_⟩
 ·have d:s.get b=some y:=hb
  rcases h.sd.live b y d with⟨k,o,z,h1,h2,h3,h4⟩| ⟨h1,h2⟩
  ·exact .inl ⟨k,o,z,by rw[old b (A b y d)];exact h1,h2,h3,h4.mono w (Fle.refl F)⟩
  ·grind
 ·have d:s.get b=some y:=hb
  have C:s.get c=some z:=hc;rw[old b (A b y d)]at E;rw[old c (A c z C)]at G;exact h.sd.inj b c y z k o j q d C B E G
 ·by_cases e:b=s.nx
  ·subst e
   rw[j9]at hb
   grind
  ·rw[old b e]at hb;exact h.sd.lt b j o hb
 ·have:s.nx+1<=b:=hb
  rw[old b (by omega)];exact h.sd.new b (by omega)
 ·obtain⟨l,a1,a2,a3,a4,a5⟩:=h.ext.hh
  refine⟨h.ext.t.trans w,h.ext.f,h.ext.nx,bF8 h.ext.snx (bH4 _),fun b hb=>?_,h.ext.low,⟨l,a1,a2,fun b j o hb N=>?_,fun j y hj hy=>?_,a5⟩,h.ext.hf,h.ext.win⟩
  ·have:=h.ext.snx
   rw[old b (by omega)];exact h.ext.st b hb
  ·by_cases e:b=s.nx
   ·subst e
    rw[j9]at N
    grind
   ·grind
  ·grind
 ·rw[List.pairwise_cons]
  exact⟨fun p hp=>by have:=(h.pds p hp).hi;exact Nat.ne_of_gt this,h.pn⟩
 ·rcases bD9.1 hp with rfl|hp
  ·refine⟨bG1 i,h.ib i (bC4 _),?_,h.ext.snx,bG1 _,j9 _ _ _,Q,fun c o hc=>?_,⟨eX,by simp,he,nw,W,H⟩⟩
   ·cases hq:(aR7 s).get s.nx with
    |none=>rfl
    |some y=>exact absurd rfl (A s.nx y hq)
   ·grind
  ·have k:=h.pds p hp
   obtain⟨e,E,G,O,R,T⟩:=k.e;refine⟨by have:=k.lt;omega,k.un,k.g,k.lo,Nat.lt_succ_of_lt k.hi,w _ _ k.t,k.f,fun c o hc=>?_,⟨e,by simp[E],G,O,R,T.mono w (Fle.refl F)⟩⟩
   by_cases e:c=s.nx
   ·subst e
    rw[j9]at hc
    grind
   ·rw[old c e]at hc;exact k.u c o hc
 ·refine⟨fun c o hc=>?_,(h.cl j (by omega) D).2⟩
  by_cases e:c=s.nx
  ·subst e
   rw[j9]at hc
   grind
  ·rw[old c e]at hc;exact(h.cl j (by omega) D).1 c o hc
 ·rcases bD9.1 hm with rfl|hm
  ·simp_all
  ·obtain⟨p,hp,e⟩:=h.tk e hm B V
   grind
theorem DA.take (h : DA P U τ0 F0 s0 hp0 n i τ F s S f tm pd esX I) (m : Nat → Bool) (hm : ∀ e ∈ esX, e.nw ≠ none → (m e.i = true ↔ ∃ p ∈ pd, p.i = e.i)) :
  SD P U τ F (Y3 s pd) (takes hp0.nx m esX S)/\Ext τ0 F0 s0 hp0 τ F (Y3 s pd) (takes hp0.nx m esX S)/\(takes hp0.nx m esX S).nx=S.nx/\
  ∀j,(∀p∈pd,j≠hp0.nx+p.i)->(takes hp0.nx m esX S).m.get j=S.m.get j:=by
 have A:=ak8 (nx0:=hp0.nx) (m:=m) esX S;have r:∀j,(∀p∈pd,j≠hp0.nx+p.i)->(takes hp0.nx m esX S).m.get j=S.m.get j:=fun j hj=>ao4 esX S fun e he C O=>by
  grind
 have G:∀p∈pd,∃y,(takes hp0.nx m esX S).m.get (hp0.nx+p.i)=some y/\BD P U τ F 0 p.x y:=fun p hp=>by
  obtain⟨e,D,B,nw,L,T⟩:=(h.pds p hp).e;have:=aG7 (nx0:=hp0.nx) (m:=m) esX S D L ((hm e D (by rw[L];simp)).2 ⟨p,hp,B.symm⟩) h.xd
  grind
 have inv:∀b y,(Y3 s pd).get b=some y->(∃p∈pd,b=p.b/\y=p.x)\/((∀p∈pd,b≠p.b)/\s.get b=some y):=by
  intro b y hb
  by_cases c:∃p∈pd,b=p.b
  ·obtain⟨p,hp,rfl⟩:=c
   rw[az5 hp h.pn,bA1]at hb
   grind
  ·have hn:∀p∈pd,b≠p.b:=fun p hp e=>c ⟨p,hp,e⟩
   rw[Q1 hn]at hb
   grind
 have apart:∀b y j o,s.get b=some y->τ b=some (some (j,o))-> ∀p∈pd,j≠hp0.nx+p.i:=by
  intro b y j o hb H p hp e;subst e;have:=(h.pds p hp).u b o H;subst this;rw[(h.pds p hp).g]at hb;cases hb
 have J:∀j y,F j=some y-> ∀p∈pd,j≠hp0.nx+p.i:=fun j y hj p hp e=>by subst e;rw[(h.pds p hp).f]at hj;cases hj
 have K:=h.room;refine⟨⟨fun b y hb=>?_,fun b c y z k o j q hb hc C D B=>?_,fun j y hj=>by rw[r j (J j y hj)];exact h.sd.frz j y hj,fun b j o hb=>by rw[A];exact h.sd.lt b j o hb,fun j y hj=>by rw[A];exact h.sd.flt j y hj,h.sd.new,h.sd.fc,h.sd.fz⟩,?_,A,r⟩
 ·rcases inv b y hb with⟨p,hp,rfl,rfl⟩| ⟨hn,d⟩
  ·obtain⟨y,h1,h2⟩:=G p hp
   exact .inl ⟨_,0,y,(h.pds p hp).t,h1,(h.pds p hp).f,h2⟩
  ·rcases h.sd.live b y d with⟨k,o,z,h1,h2,h3,h4⟩|h1
   ·grind
   ·grind
 ·rcases inv b y hb with⟨p,hp,rfl,rfl⟩| ⟨hn,d⟩
  ·rw[(h.pds p hp).t]at D
   cases D
   rcases inv c z hc with⟨p2,hp2,rfl,rfl⟩| ⟨hn,E⟩
   ·rw[(h.pds p2 hp2).t]at B
    cases B;intro e;exact C ((h.pds p2 hp2).u _ 0 (by rw[(h.pds p hp).t,e]))
   ·grind
  ·rcases inv c z hc with⟨p2,hp2,rfl,rfl⟩| ⟨Q,E⟩
   ·rw[(h.pds p2 hp2).t]at B
    cases B
    grind
   ·exact h.sd.inj b c y z k o j q d E C D B
 ·obtain⟨l,a1,a2,a3,a4,a5⟩:=h.ext.hh
  have ge:∀j,j<hp0.nx-> ∀p∈pd,j≠hp0.nx+p.i:=fun j hj p hp=>by omega
  refine⟨h.ext.t,h.ext.f,by rw[A];exact h.ext.nx,h.ext.snx,h.ext.st,fun b y hb hlt=>?_,⟨tkl pd++l,by show tkl pd++s.h=_;rw[a1,bB5],fun j hj R=>?_,fun b j o hb H=>?_,fun j y hj hy=>?_,fun hp=>a5 fun p h=>hp p (bI3 _ h)⟩,h.ext.hf,
   let⟨l',M,w⟩:=h.ext.win;⟨tkl pd++l',by show tkl pd++s.h=_;rw[M,bB5],fun b c e z j o cs n hb ht hj N hl=>by rw[r j (ge j hj)];exact w b c e z j o cs n hb ht hj N fun x hx=>hl x (bI3 _ hx)⟩⟩
  ·rcases inv b y hb with⟨p,hp,rfl,rfl⟩| ⟨hn,d⟩
   ·exact absurd hlt (Nat.not_lt.2 (h.pds p hp).lo)
   ·exact h.ext.low b y d hlt
  ·grind
  ·grind
  ·grind
theorem DA.write (h : DA P U τ0 F0 s0 hp0 n i τ F s S f tm pd esX I) (  E : ∀ e ∈ esX, e.i < i) {pre : Nat} (   r : pre < 2 ^ i) (  J : ∀ p ∈ pd, pre.testBit p.i = true)
  {s1 s':SS} {S1 S':Hp} {τ':Tau} {F':Nat->Option Blk} (H:S1.nx=S.nx) (D:Ext τ0 F0 s0 hp0 τ F s1 S1) (d:Ext τ F s1 S1 τ' F' s' S')
  (B:SD P U τ' F' s' S') (C:TD P U τ' F' f' tm') (he:eX.i=i) (L:eX.nw=none):DA P U τ0 F0 s0 hp0 n (i+1) τ' F' s' S' f' tm' [] (eX::esX) (I|||pre):=by
 have A:=h.room;have cl:∀j,i+1<=j->j<n-> ∀c o,τ' c≠some (some (hp0.nx+j,o)):=by
  intro j hj g c o hc;have old:=(h.cl j (by omega) g).1
  by_cases hlt:c<s1.nx
  ·rw[d.st c hlt]at hc;exact old c o hc
  ·rcases d.fresh c _ o (bH7 hlt) hc with h1| ⟨b0,x,o0,h1,h2⟩
   ·omega
   ·grind
 refine⟨B,C,D.trans d,by have:=d.nx;omega,fun j hj=>?_,V6 h.xd E he,.nil,fun p hp=>by simp at hp,fun j hj g=>⟨cl j hj g,?_⟩,fun e hm w G=>?_⟩
 ·rw[Nat.testBit_or,h.ib j (by omega),Bool.false_or]
  exact Nat.testBit_lt_two_pow (bF3 r (Nat.pow_le_pow_right (by omega) (by omega)))
 ·cases hq:F' (hp0.nx+j)with
  |none=>rfl
  |some y=>
   obtain⟨l,_,_,_,a4,_⟩:=d.hh
   rcases a4 _ y (by omega) hq with h1| ⟨b,o,h1,_⟩
   ·rw[(h.cl j (by omega) g).2]at h1;cases h1
   ·grind
 ·rcases bD9.1 hm with rfl|hm
  ·grind
  ·rw[Nat.testBit_or,Bool.or_eq_false_iff]at G
   obtain⟨p,hp,K⟩:=h.tk e hm w G.1
   grind
end
end Go.Sx
