/- The symbolic engine, parts 13, 14, 15, 16, 17, 18, 19, 20, 21, 22.
  Conditions: none. -/
import Derived.Test.YtcjhhnoaoldcmaaGreatSm1
set_option linter.unusedSimpArgs false
set_option linter.unusedVariables false
namespace Go.Sx
open Go.Xe
inductive Src where
 |lit (l:List SV)
 |rows (L:E)
def Src.cnt (size:Nat):Src->E
 | .lit l=>.int (l.length/size:Nat)
 | .rows L=>y6 L
def Src.blk (e size:Nat):Src->y4
 | .lit l=>.cells l e size
 | .rows L=>.rows L e size (.int 0)
def Src.one :Src->Bool
 | .lit l=>l.all aU3
 | .rows _=>true
section
variable (P :Program)(U:Nat->List Dat->Dat)
def bu3 (L off len:E):M Src:=a8 (j7 U (u5 (v6 (y6 L) (t9 off len)))) fun _=>a8 (O9 U L off len) fun c=>c8 (.rows c)
def ssrc (e size : Nat) (x : SV) : M Src :=
 match x with
 | .nils=>c8 (.lit [])
 | .sl b z off len _ => m9 fun s => match s.get b with
  | some (.cells l e' z') => bif Nat.beq e e' && Nat.beq z size && Nat.beq z z' then
    (match off,len with
    | .int o,.int n=>bif decide (0<=o)&&decide (0<=n)&&Nat.ble ((o.toNat+n.toNat)*z) l.length then c8 (.lit ((l.drop (o.toNat*z)).take (n.toNat*z)))else a7 "elements: beyond"
    |off,len=>match aC2 P e z l with
     |some L=>bu3 U L off len
     |none=>a7 "elements: rows")
   else a7 "elements: type"
  |some (.rows L e' z' _)=>bif Nat.beq e e'&&Nat.beq z size&&Nat.beq z z' then bu3 U L off len else a7 "elements: type"
  |_=>a7 "elements: no block"
 | .lst e' L _=>bif Nat.beq e e'&&Nat.beq size (kf P e).length then c8 (.rows (ad5 L))else a7 "elements: type"
 |_=>a7 "elements: value"
def bz4 (e size:Nat)(x:Src):M E:=
 match x with
 | .rows L=>c8 L
 | .lit []=>c8 (.op .nil [])
 | .lit l=>bif Nat.beq size (kf P e).length&&Nat.beq (l.length/size*size) l.length then a8 (aI8 (aV6 P U 20) (kf P e) 0 l) fun es=>c8 (.op (.rows (l.length/size) size) es)else a7 "elements: kinds"
end
section
variable {P :Program}{U:Nat->List Dat->Dat}{τ:Tau}{F:Nat->Option Blk}{s:SS}{hp:Hp}
variable (P U) in
def l9 (τ : Tau) (F : Nat → Option Blk) (e size : Nat) : Src → List Value → Prop
 | .lit l,vs=>VDL P U τ F l vs
 | .rows L, vs => size = (kf P e).length ∧ vs.length = (L.toR U).length * size ∧ (∀ r ∈ L.toR U, r.length = size) ∧
   ∀(r k:Nat) (row:List Dat) (d:Dat),(L.toR U)[r]? =some row->row[k]? =some d-> ∃x,vs[r*size+k]? =some x/\ ∀kd,(kf P e)[k]? =some kd->PV P F kd x d
theorem l9.mono {τ':Tau}{F':Nat->Option Blk}(ht:Tle τ τ')(hf:Fle F F'){e size:Nat}{x:Src}{vs:List Value}(h:l9 P U τ F e size x vs):l9 P U τ' F' e size x vs:=by
 cases x with
 |lit l=>exact VDL.mono ht hf h
 |rows L=>
  obtain⟨h1,h2,h3,h4⟩:=h;exact⟨h1,h2,h3,fun r k row d hr hk=>let⟨x,k1,k2⟩:=h4 r k row d hr hk;⟨x,k1,fun kd hkd=>(k2 kd hkd).mono P hf⟩⟩
theorem PV.oneCell {k:Kd}{v:Value}{d:Dat}(h:PV P F k v d):v.oneCell'=true:=by cases h<;>rfl
theorem l9.ones {e size:Nat}{x:Src}{vs:List Value}(h:l9 P U τ F e size x vs)(h1:x.one=true):vs.all Value.oneCell'=true:=by
 cases x with
 |lit l=>exact aU4 h h1
 |rows L=>
  obtain⟨g1,g2,g3,g4⟩:=h;rw[bK9];intro y hy;obtain⟨j,hj⟩:=bT0 hy;have hjl:j<(L.toR U).length*size:=by grind
  have hs:0<size:=by grind
  have hr:j/size<(L.toR U).length:=(Nat.div_lt_iff_lt_mul hs).2 hjl;have hrow:(L.toR U)[j/size]? =some (L.toR U)[j/size]:=by simp[hr]
  have hl:=g3 _ (List.getElem_mem hr);have hk:j % size<size:=Nat.mod_lt _ hs;have hd:(L.toR U)[j/size][j % size]? =some ((L.toR U)[j/size][j % size]'(by omega)):=by grind
  obtain⟨x,k1,k2⟩:=g4 _ _ _ _ hrow hd;have e1:j/size*size+j % size=j:=by rw[Nat.mul_comm];exact Nat.div_add_mod j size
  rw[e1,hj,bH9]at k1;subst k1;have hkd:(kf P e)[j % size]? =some ((kf P e)[j % size]'(by omega)):=by grind
  exact(k2 _ hkd).oneCell
theorem al0 {e size o n:Nat}{x:Src}{vs:List Value}{cs:T Value}(h:l9 P U τ F e size x vs)(hg:∀(j:Nat) y,vs[j]? =some y->cs.get (o+j)=some y)(hn:o+vs.length<=n):BD P U τ F o (x.blk e size) (.cells cs n e size):=by
 cases x with
 |lit l=>
  refine⟨cs,n,rfl,by rw[h.1];exact hn,fun j a ha=>?_⟩
  obtain⟨y,h1,h2⟩:=VDL.get h ha;exact⟨y,hg j y h1,h2⟩
 |rows L=>
  obtain⟨g1,g2,g3,g4⟩:=h;refine⟨cs,n,rfl,⟨by rw[<-g2];exact hn,g1,g3,fun r k row d hr hk=>?_⟩,by show o+(0:Int).toNat*size<=n;simp;omega⟩
  obtain⟨y,k1,k2⟩:=g4 r k row d hr hk;exact⟨y,by rw[<-hg _ _ k1];congr 1;omega,k2⟩
theorem l9.app {e size:Nat}{A B:E}{va vb:List Value}(ha:l9 P U τ F e size (.rows A) va)(hb:l9 P U τ F e size (.rows B) vb):l9 P U τ F e size (.rows (D6 A B)) (va++vb):=by
 obtain⟨a1,a2,a3,a4⟩:=ha;obtain⟨b1,b2,b3,b4⟩:=hb;refine⟨a1,by rw[N2];simp[a2,b2,bL5],fun r hr=>?_,fun r k row d hr hk=>?_⟩
 ·rw[N2]at hr
  grind
 ·rw[N2]at hr
  by_cases hlt:r<(A.toR U).length
  ·grind
  ·rw[bI7 (by omega)]at hr
   obtain⟨x,k1,k2⟩:=b4 _ k row d hr hk;refine⟨x,?_,k2⟩;have:va.length<=r*size+k:=by rw[a2];have:=bJ2 size (show(A.toR U).length<=r by omega);omega
   rw[bI7 this,<-k1,a2]
   congr 1
   rw[Nat.sub_mul];have:=bJ2 size (show(A.toR U).length<=r by omega);omega
theorem D0 {e z o n : Nat} {cs : T Value} {rows : Rows} (hr : y9 P F e z o n cs rows) {off len : Int} (h0 : 0 ≤ off) (h1 : 0 ≤ len) (h2 : off + len ≤ rows.length) {L : E} (hL : L.toR U = part rows off len) :
  ∃vs,n9 cs (o+off.toNat*z) (len.toNat*z)=some vs/\o+off.toNat*z+len.toNat*z<=n/\l9 P U τ F e z (.rows L) vs/\vs.length=len.toNat*z:=by
 obtain⟨g1,g2,g3,g4⟩:=hr;have hl:=O0 h0 h1 h2;obtain⟨vs,v1,v2,v3⟩:=C7 (c:=cs) (R:=fun j x=>∀(r k:Nat) (row:List Dat) (d:Dat),j=r*z+k->(part rows off len)[r]? =some row->row[k]? =some d-> ∀kd,(kf P e)[k]? =some kd->PV P F kd x d) (len.toNat*z) (o+off.toNat*z) 0 fun j hj=>by
  have hz:0<z:=by
   rcases Nat.eq_zero_or_pos z with h|h
   ·rw[h]at hj;omega
   ·exact h
  have hr:j/z<(part rows off len).length:=by rw[hl];exact(Nat.div_lt_iff_lt_mul hz).2 hj
  have hrow:(part rows off len)[j/z]? =some (part rows off len)[j/z]:=by simp[hr]
  have hrow':=W5 hrow;have hlen:=g3 _ (bI9 hrow');have hk:j % z<z:=Nat.mod_lt _ hz;have hd:(part rows off len)[j/z][j % z]? =some ((part rows off len)[j/z][j % z]'(by omega)):=by simp[hlen,hk]
  obtain⟨x,k1,k2⟩:=g4 _ _ _ _ hrow' hd;have e1:j/z*z+j % z=j:=by rw[Nat.mul_comm];exact Nat.div_add_mod j z
  refine⟨x,by rw[<-k1];congr 1;rw[bL5];omega,fun r k row d e2 hr' hk' kd hkd=>?_⟩
  have hkz:k<z:=by
   have:=g3 _ (bI9 (W5 hr'));have:=(bI2.1 hk').1;omega
  obtain⟨rfl,rfl⟩:=aR0 hk hkz (show j/z*z+j % z=r*z+k by omega)
  rw[hrow,bH9]at hr';subst hr';rw[hd,bH9]at hk';subst hk';exact k2 kd hkd
 refine⟨vs,v1,?_,⟨g2,by rw[v2,hL,hl],fun r h=>?_,fun r k row d hr' hk'=>?_⟩,v2⟩
 ·have:off.toNat*z+len.toNat*z<=rows.length*z:=by rw[<-bL5];exact bJ2 z (by omega)
  omega
 ·rw[hL]at h;exact g3 r (bQ6 (bQ5 h))
 ·rw[hL]at hr'
  have hkz:k<z:=by
   have:=g3 _ (bI9 (W5 hr'));have:=(bI2.1 hk').1;omega
  have hrl:r<len.toNat:=by have:=(bI2.1 hr').1;omega
  have hj:r*z+k<vs.length:=by
   rw[v2];have:r*z+z<=len.toNat*z:=by rw[<-bO6];exact bJ2 z hrl
   omega
  exact⟨vs[r*z+k]'hj,bJ1 hj,v3 (r*z+k) _ (bJ1 hj) r k row d (by omega) hr' hk'⟩
variable (P U) in
def bF1 (hp:Hp)(e size:Nat)(v:Value)(x:Src)(τ:Tau)(F:Nat->Option Blk):Prop:=∃n vs,v7 hp size v=some (n,vs)/\l9 P U τ F e size x vs/\vs.length=n*size/\(x.cnt size).toI U=n
theorem aa4 {size i a len c k z:Nat}{y:Blk}{cs:T Value}(hg:hp.m.get i=some y)(hr:rdC y=some (cs,k,z))(hk:a+len*size<=k){vs:List Value}(hl:n9 cs a (len*size)=some vs):v7 hp size (.slice (some ⟨i,a,none⟩) len c)=some (len,vs):=by
 simp only[v7,hg,hr,bI6 hk,bJ6,hl]
theorem bh0 {e z o n:Nat}{cs:T Value}{L off len:E}{i c k e' z':Nat}(hg:hp.m.get i=some (.cells cs k e' z'))(hk:n<=k)(hr:y9 P F e z o n cs (L.toR U))(h0:0<=off.toI U)(h1:0<=len.toI U):OKp U (bu3 U L off len) s fun x=>bF1 P U hp e z (.slice (some ⟨i,o+off.toN U*z,none⟩) (len.toN U) c) x τ F:=by
 unfold bu3;refine OKp.need.bind fun _ _ _ _ p1=>z6.bind fun c' _ _ _ hc=>OKp.ret ?_
 have p1:=w9 p1;rw[f8,d9]at p1;have hcR:c'.toR U=part (L.toR U) (off.toI U) (len.toI U):=by show(c'.den U).rows=_;rw[hc];rfl
 obtain⟨vs,v1,v2,v3,v4⟩:=D0 (τ:=τ) hr h0 h1 p1 hcR;refine⟨len.toN U,vs,aa4 hg rfl (bN7 v2 hk) v1,v3,v4,?_⟩;show(y6 c').toI U=_;rw[d9,hcR,O0 h0 h1 p1]
theorem bj7 {e size:Nat}(hsz:1<=size){a:SV}{v:Value}(ha:VD P U τ F a v)(hs:SD P U τ F s hp):OKp U (ssrc P U e size a) s fun x=>bF1 P U hp e size v x τ F:=by
 unfold ssrc;split
 ·cases ha
  exact OKp.ret ⟨0,[],by simp[v7],VDL.nil,by simp,by show((0/size:Nat):Int)=0;simp⟩
 ·rename_i b z off len cap
  refine OKp.read ?_;split
  ·rename_i l e' z' hb
   cases hq:Nat.beq e e'&&Nat.beq z size&&Nat.beq z z' with
   |false=>exact OKp.fail
   |true=>
    simp only[bJ6];simp only[bI0,bL9]at hq;obtain⟨⟨rfl,rfl⟩,rfl⟩:=hq
    rcases hs.live b _ hb with⟨i,o,y,k1,k2,kF,cs,n,rfl,k4,k5⟩| ⟨k1,L',e',z',ph',k2,k3,k4,k5⟩
    ·cases ha with
     |sl _ _ _ _ _ i' o' c hτ h0 h1 hc=>
      rw[k1]at hτ;simp only[bH9,bI1]at hτ;obtain⟨rfl,rfl⟩:=hτ;split
      ·rename_i oo nn
       cases hq:decide (0<=oo)&&decide (0<=nn)&&Nat.ble ((oo.toNat+nn.toNat)*z) l.length with
       |false=>exact OKp.fail
       |true=>
        simp only[bJ6];simp only[bI0,bK0,bN3]at hq;obtain⟨⟨q1,q2⟩,q3⟩:=hq;rw[bL5]at q3;have e1:(E.int oo).toN U=oo.toNat:=rfl;have e2:(E.int nn).toN U=nn.toNat:=rfl;obtain⟨vs,v1,v2,v3⟩:=C7 (c:=cs) (R:=fun j x=>∀a,((l.drop (oo.toNat*z)).take (nn.toNat*z))[j]? =some a->VD P U τ F a x) (nn.toNat*z) (o+oo.toNat*z) 0 fun j hj=>by
         have hlj:oo.toNat*z+j<l.length:=by omega
         obtain⟨x,w1,w2⟩:=k5 (oo.toNat*z+j) _ (bJ1 hlj)
         grind
        have hlen:((l.drop (oo.toNat*z)).take (nn.toNat*z)).length=nn.toNat*z:=by grind
        refine OKp.ret ⟨nn.toNat,vs,aa4 k2 rfl (by show o+oo.toNat*z+nn.toNat*z<=n;omega) v1,⟨by rw[hlen,v2],fun j a x ha hx=>v3 j x hx a (by rw[bL1];exact ha)⟩,v2,?_⟩
        show((((l.drop (oo.toNat*z)).take (nn.toNat*z)).length/z:Nat):Int)=_;rw[hlen,Nat.mul_div_cancel _ hsz]
      ·split
       ·rename_i L hL
        exact bh0 k2 (bK2 n) (ar3 hL k4 k5) h0 h1
       ·exact OKp.fail
     |sl0 _ _ _ _ _ hτ h0 h1 hc=>grind
    ·cases k2
  ·rename_i L e' z' ph hb
   cases hq:Nat.beq e e'&&Nat.beq z size&&Nat.beq z z' with
   |false=>exact OKp.fail
   |true=>
    simp only[bJ6];simp only[bI0,bL9]at hq;obtain⟨⟨rfl,rfl⟩,rfl⟩:=hq
    rcases hs.live b _ hb with⟨i,o,y,k1,k2,kF,cs,n,rfl,k4,k5⟩| ⟨k1,L',e',z',ph',k2,k3,k4,k5⟩
    ·cases ha with
     |sl _ _ _ _ _ i' o' c hτ h0 h1 hc=>
      rw[k1]at hτ;simp only[bH9,bI1]at hτ;obtain⟨rfl,rfl⟩:=hτ;exact bh0 k2 (bK2 n) k4 h0 h1
     |sl0 _ _ _ _ _ hτ h0 h1 hc=>grind
    ·cases ha with
     |sl _ _ _ _ _ i' o' c hτ h0 h1 hc=>grind
     |sl0 _ _ _ _ _ hτ h0 h1 hc=>
      simp only[y4.rows.injEq]at k2;obtain⟨rfl,rfl,rfl,rfl⟩:=k2;unfold bu3;refine OKp.need.bind fun _ _ _ _ p1=>z6.bind fun c' _ _ _ hcd=>OKp.ret ?_
      have hcR:c'.toR U=[]:=by
       show(c'.den U).rows=_;rw[hcd,k3];simp[part,Dat.rows]
      refine⟨0,[],by simp[v7],⟨k4,by rw[hcR];simp,fun r h=>(by rw[hcR]at h;cases h),fun r k row d h=>by rw[hcR]at h;simp at h⟩,by simp,?_⟩
      show(y6 c').toI U=0;rw[d9,hcR];rfl
  ·exact OKp.fail
 ·rename_i e' L clip
  cases hq:Nat.beq e e'&&Nat.beq size (kf P e).length with
  |false=>exact OKp.fail
  |true=>
   simp only[bJ6];simp only[bI0,bL9]at hq;obtain⟨rfl,hk⟩:=hq;cases ha with
   |lst _ _ _ _ hv hc=>
    refine OKp.ret ?_;have hR:(ad5 L).toR U=L.toR U:=by show((ad5 L).den U).rows=_;rw[am7];rfl
    have hcnt:((Src.rows (ad5 L)).cnt size).toI U=((L.toR U).length:Int):=by show(y6 (ad5 L)).toI U=_;rw[d9,hR]
    generalize hrows:L.toR U=rows at hv hR hcnt;cases hv with
    |nils=>exact⟨0,[],by simp[v7],⟨hk,by rw[hR];simp,fun r h=>(by rw[hR]at h;cases h),fun r k row d h=>by rw[hR]at h;simp at h⟩,by simp,by rw[hcnt];rfl⟩
    |vague=>exact⟨0,[],by simp[v7],⟨hk,by rw[hR];simp,fun r h=>(by rw[hR]at h;cases h),fun r k row d h=>by rw[hR]at h;simp at h⟩,by simp,by rw[hcnt];rfl⟩
    |sl _ i o c b cs n z _ x hF hb hc' hn hz hr hx hpx=>
     have hg:=hs.frz i b hF;have hra:y9 P F e z o n cs rows:=⟨hn,hz,hr,fun r k row d h1 h2=>⟨x r k,hx r k row d h1 h2,fun kd hkd=>hpx r k row kd d h1 h2 hkd⟩⟩
     have hpart:part rows 0 rows.length=rows:=by simp[part]
     obtain⟨vs,v1,v2,v3,v4⟩:=D0 (U:=U) (τ:=τ) hra (off:=0) (len:=rows.length) (bO3 0) (by omega) (by omega) (L:=ad5 L) (by rw[hR,hpart])
     have e1:(0:Int).toNat*z=0:=by simp
     rw[e1,bO5,bM0]at v1 v2;rw[bM0]at v4;have ez:z=size:=by omega
     subst ez;exact⟨rows.length,vs,aa4 hg hb v2 v1,v3,v4,hcnt⟩
 ·exact OKp.fail
theorem aO5 {e size:Nat}{x:Src}{vs:List Value}(h:l9 P U τ F e size x vs)(hs:SD P U τ F s hp):OKh P U (bz4 P U e size x) τ F s hp fun L τ' F' hp'=>τ'=τ/\hp'=hp/\(size=(kf P e).length->l9 P U τ' F' e size (.rows L) vs):=by
 unfold bz4;split
 ·exact OKh.ret ⟨rfl,rfl,fun _=>h⟩
 ·have hv:vs=[]:=bI5 h.1.symm
  subst hv;exact OKh.ret ⟨rfl,rfl,fun hk=>⟨hk,by show 0=([]:Rows).length*size;simp,fun r h=>(by cases h),fun r k row d h=>by
   have:([]:Rows)[r]? =some row:=h;simp at this⟩⟩
 ·rename_i l _
  cases hq:Nat.beq size (kf P e).length&&Nat.beq (l.length/size*size) l.length with
  |false=>exact OKh.fail
  |true=>
   simp only[bJ6];simp only[bI0,bL9]at hq;obtain⟨q1,q2⟩:=hq;refine(am5 (ks:=kf P e) (j:=0) (fun k a v τ F s hp=>ag2 20 k a v τ F s hp) h hs).bind fun es τ1 F1 s1 hp1 ex hs1 ⟨e1,e2,e3,e4⟩=>OKh.ret ⟨e1,e2,fun hk=>?_⟩
   have hvs:vs.length=es.length:=by rw[e3];exact h.1.symm
   have hr:y9 P F1 e size 0 vs.length (fill .e 0 vs) ((E.op (.rows (l.length/size) size) es).toR U):=V2 hk (by rw[e3,q2]) (by rw[hvs];omega) fun j d hd=>by
    have hj:j<vs.length:=by grind
    have hvj:vs[j]? =some vs[j]:=by simp[hj]
    obtain⟨kd,w1,w2⟩:=e4 j _ _ hvj hd;refine⟨vs[j],by rw[bL1];exact G2 vs j _ hvj,fun kd' hkd=>?_⟩
    grind
   have hlen:((E.op (.rows (l.length/size) size) es).toR U).length=l.length/size:=by
    show(chunk size (l.length/size) _).length=_;rw[H4]
   refine⟨hk,by rw[hlen,q2];exact h.1.symm,hr.2.2.1,fun r k row d h1 h2=>?_⟩
   obtain⟨y,k1,k2⟩:=hr.2.2.2 r k row d h1 h2;refine⟨y,?_,k2⟩;rw[bL1,l6]at k1;split at k1
   ·grind
   ·rw[T.get_e]at k1;cases k1
end
end Go.Sx
namespace Go.Sx
open Go.Xe
section
variable (P :Program)(U:Nat->List Dat->Dat)
def P7 (e size:Nat)(x:Src)(len:E):M SV:=a8 (V3 (x.blk e size)) fun b=>c8 (.sl b size (.int 0) len .ge)
def smove (e size b:Nat)(x:Src)(len:E)(cp:Cp):M SV:=fun s=>.ret (.sl s.nx size (.int 0) len cp,ac3 (s.set b none) (x.blk e size))
def an4 (e size b : Nat) (off len : E) (cap : Cp) (src : Src) : M SV :=
 a8 (bz4 P U e size src) fun Ln=>m9 fun s=>match s.get b with
 | some (.rows L e' z' ph) => bif Nat.beq e e' && Nat.beq size z' && Nat.beq size (kf P e).length then
   a8 (j7 U (u5 (v6 (y6 L) (t9 off len)))) fun _=>a8 (j7 U (v6 (t9 len (y6 Ln)) (.int 67108865))) fun _=>
   match cap with
   | .ge=>a8 (O9 U L off len) fun Lo=>smove e size b (.rows (D6 Lo Ln)) (t9 len (y6 Ln)) .ge
   | .un=>a8 (O9 U L off len) fun Lo=>smove e size b (.rows (D6 Lo Ln)) (t9 len (y6 Ln)) .un
   | .ex c => a8 (ad7 U (v6 c (t9 len (y6 Ln)))) fun t =>
     bif t then a8 (O9 U L off len) fun Lo=>P7 e size (.rows (D6 Lo Ln)) (t9 len (y6 Ln))
     else a8 (j7 U (u5 (v6 ph (t9 off c)))) fun _=>a8 (ac2 b (some (.rows (.op .over [L,t9 off len,Ln]) e z' ph))) fun _=>c8 (.sl b size off (t9 len (y6 Ln)) (.ex c))
  else a7 "append: type"
 |_=>a7 "append: block"
def sapp (e size : Nat) (s : SV) (src : Src) : M SV :=
 match s with
 | .nils=>match src with
  | .lit []=>c8 .nils
  |src=>a8 (j7 U (v6 (src.cnt size) (.int 67108865))) fun _=>P7 e size src (src.cnt size)
 | .sl b z off len cap => bif Nat.beq z size && src.one then m9 fun st => match st.get b with
   | some (.cells l e' z') => match off, len, src with
    | .int o, .int n, .lit m => bif Nat.beq e e' && Nat.beq z z' && decide (0 ≤ o) && decide (0 ≤ n) && Nat.ble ((o.toNat + n.toNat) * z) l.length && Nat.ble (n.toNat + m.length / size) 67108864 && Nat.beq (m.length / size * size) m.length then
      match cap with
      | .ge=>smove e size b (.lit ((l.drop (o.toNat*z)).take (n.toNat*z)++m)) (.int (n.toNat+m.length/size:Nat)) .ge
      | .un=>a7 "append: cells"
      | .ex c => a8 (ad7 U (v6 c (.int (n.toNat + m.length / size : Nat)))) fun t =>
        bif t then P7 e size (.lit ((l.drop (o.toNat*z)).take (n.toNat*z)++m)) (.int (n.toNat+m.length/size:Nat))
        else bif Nat.ble ((o.toNat+n.toNat)*z+m.length) l.length then a8 (ac2 b (some (.cells (L8 l ((o.toNat+n.toNat)*z) m) e' z'))) fun _=>c8 (.sl b z (.int o) (.int (n.toNat+m.length/size:Nat)) (.ex c))else a7 "append: room"
     else a7 "append: literal"
    |off,len,src=>a8 (aB2 P b) fun _=>an4 P U e size b off len cap src
   |some (.rows _ _ _ _)=>an4 P U e size b off len cap src
   |_=>a7 "append: no block"
  else a7 "append: size"
 | .lst e' L true => bif Nat.beq e e' && Nat.beq size (kf P e).length && src.one then
   a8 (ad7 U (E5 (src.cnt size) (.int 0))) fun t=>bif t then a8 (j7 U (v6 (y6 L) (.int 67108865))) fun _=>c8 (.lst e' L true)else
    a8 (bz4 P U e size src) fun Ln=>a8 (j7 U (v6 (t9 (y6 L) (y6 Ln)) (.int 67108865))) fun _=>P7 e size (.rows (D6 (ad5 L) Ln)) (t9 (y6 L) (y6 Ln))
  else a7 "append: type"
 |_=>a7 "append: value"
def bi2 (t u:TypeId)(s x:SV):M SV:=
 match P.underlying t,P.underlying u with
 |some (.slice e),some (.slice _)=>match P.info? e with
  |none=>a7 "append: type"
  |some ie=>match ie.zero with
   |none=>a7 "append: zero"
   |some z=>bif Nat.beq z.cells.toList.length ie.size&&Nat.ble ie.bytes 1048576&&Nat.ble 1 ie.size then a8 (ssrc P U e ie.size x) fun src=>sapp P U e ie.size s src else a7 "append: size"
 |_,_=>a7 "append: type"
end
section
variable {P :Program}{U:Nat->List Dat->Dat}{τ:Tau}{F:Nat->Option Blk}{s:SS}{hp:Hp}
noncomputable def S9 (hp : Hp) (e size n : Nat) (news : List Value) (s : Value) : Option (Value × Hp) :=
 match s with
 | .slice none sLen sCap => bif Nat.beq sLen 0 && Nat.beq sCap 0 && Nat.ble n 67108864 then
   bif Nat.beq n 0 then some (.slice none 0 0,hp)
   else some (.slice (some ⟨hp.nx,0,none⟩) n (c7 n 0),hp.new news e size)
  else none
 | .slice (some ⟨i,o,none⟩) sLen sCap=>match hp.m.get i with
  |some (.cells c k e' z')=>
   bif Nat.ble (sLen+n) 67108864&&news.all Value.oneCell' then
    bif Nat.beq n 0 then
     bif Nat.ble sLen sCap then some (.slice (some ⟨i,o,none⟩) sLen sCap,hp)else none
    else
     bif Nat.ble unk sCap then
      bif Nat.ble 1 (C3 sCap)&&Nat.ble (C3 sCap) (sLen+n)then
       bif Nat.ble (o+sLen*size) k then
        match n9 c o (sLen*size)with
        |none=>none
        |some olds=>some (.slice (some ⟨hp.nx,0,none⟩) (sLen+n) (c7 (sLen+n) 0),hp.new (olds++news) e size)
       else none
      else bif Nat.beq z' size&&Nat.beq e' e&&Nat.ble (o+sLen*size) k then
       bif Nat.ble (sLen+n) (I6 sCap)then
        some (.slice (some ⟨i,o,none⟩) (sLen+n) sCap,at3 hp i c (Nat.max k (o+(sLen+n)*size)) e' z' (o+sLen*size) news)
       else
       match n9 c o (sLen*size)with
       |none=>none
       |some olds=>
        (bif Nat.beq o 0 then fill c (sLen*size) news else fill (fill .e 0 olds) (sLen*size) news).force fun ct=>
         some (.slice (some ⟨hp.nx,0,none⟩) (sLen+n) (c7 (sLen+n) 0),⟨(hp.m.set i none).set hp.nx (some (.cells ct ((sLen+n)*size) e' z')),hp.nx+1⟩)
      else none
     else bif Nat.ble (sLen+n) sCap then
      bif Nat.ble (o+(sLen+n)*size) k then
       some (.slice (some ⟨i,o,none⟩) (sLen+n) sCap,at3 hp i c k e' z' (o+sLen*size) news)
      else none
     else
      bif Nat.ble (o+sLen*size) k then
       match n9 c o (sLen*size)with
       |none=>none
       |some olds=>some (.slice (some ⟨hp.nx,0,none⟩) (sLen+n) (c7 (sLen+n) 0),hp.new (olds++news) e size)
      else none
   else none
  |some (.ro c k _ _)=>
   bif Nat.ble (sLen+n) 67108864&&Nat.ble sLen sCap&& !Nat.ble unk sCap then
    bif Nat.beq n 0 then some (.slice (some ⟨i,o,none⟩) sLen sCap,hp)
    else bif Nat.ble (sLen+n) sCap then none
    else bif Nat.ble (o+sLen*size) k then
     match n9 c o (sLen*size)with
     |none=>none
     |some olds=>some (.slice (some ⟨hp.nx,0,none⟩) (sLen+n) (c7 (sLen+n) 0),hp.new (olds++news) e size)
    else none
   else none
  |_=>none
 |_=>none
theorem be4 {t u e e2 : TypeId} {ie : TypeInfo} {z : Value} (ht : P.underlying t = some (.slice e)) (hu : P.underlying u = some (.slice e2)) (hi : P.info? e = some ie) (hz : ie.zero = some z) (hb : (Nat.beq z.cells.toList.length ie.size && Nat.ble ie.bytes 1048576) = true) {sv xv : Value} {n : Nat} {news : List Value}
  (hx:v7 hp ie.size xv=some (n,news)):B3 P hp t u sv xv=S9 hp e ie.size n news sv:=by
 simp only[B3,ht,hu,hi,hz,hb,bJ6,hx];rfl
variable (P U) in
def ay5 (hp:Hp)(e size n:Nat)(news:List Value)(sv:Value)(c:SV)(τ:Tau)(F:Nat->Option Blk)(hp':Hp):Prop:=∃w,S9 hp e size n news sv=some (w,hp')/\VD P U τ F c w
theorem geN {len:E}{n:Nat}(h:len.toI U=n)(hn:n<=67108864):az5 U len .ge (c7 n 0):=⟨n,rfl,hn,by rw[h];exact Int.ofNat_le.2 hn⟩
theorem aZ4 (z:Nat):0+(E.int 0).toN U*z=0:=by show 0+(0:Int).toNat*z=0;simp
theorem ar9 {len:E}{n:Nat}(h:len.toI U=n):len.toN U=n:=by show(len.toI U).toNat=n;rw[h];exact bM0 n
theorem G6 {e size n : Nat} {x : Src} {vs : List Value} {len : E} (h : l9 P U τ F e size x vs) (hlen : len.toI U = n) (hn : n ≤ 67108864) (hs : SD P U τ F s hp) :
  OKh P U (P7 e size x len) τ F s hp fun c τ' F' hp'=>hp'=hp.new vs e size/\VD P U τ' F' c (.slice (some ⟨hp.nx,0,none⟩) n (c7 n 0)):=by
 unfold P7;refine(OKh.alloc (y:= .cells (fill .e 0 vs) vs.length e size) hs fun τ' ht=>al0 (h.mono ht (Fle.refl F)) (fun j y hy=>by rw[bL1];exact G2 vs j y hy) (by omega)).bind fun b τ' F' s' hp' _ hs' ⟨h1,h2,h3⟩=>OKh.ret ⟨h3,?_⟩
 subst h1;exact VD.sl' h2 (bO3 0) (by rw[hlen];omega) (geN hlen hn) (aZ4 size).symm (ar9 hlen).symm
theorem OKh.smove {e size b i o j q n c : Nat} {x : y4} {x' : Src} {len : E} {cp : Cp} (hb : s.get b = some x) (ht : τ b = some (some (i, o))) {hp1 : Hp} (hn : hp.nx ≤ hp1.nx) (hk : ∀ k, k < hp.nx → k ≠ i → hp1.m.get k = hp.m.get k) (hj : j = i ∨ hp.nx ≤ j) (hj' : j < hp1.nx)
  {y:Blk} (hi:hp1.m.get j=some y) (hd:∀τ',Tle τ τ'->BD P U τ' F q (x'.blk e size) y) (hlen:len.toI U=n) (hc:az5 U len cp c) (hs:SD P U τ F s hp):
  OKh P U (smove e size b x' len cp) τ F s hp fun a τ' F' hp'=>hp'=hp1/\VD P U τ' F' a (.slice (some ⟨j,q,none⟩) n c):=by
 intro Q hq _;have h0:τ s.nx=none:=hs.new _ (bK2 _);obtain⟨h1,h2⟩:=hs.move (x':=x'.blk e size) (q:=q) hb ht hn hk hj hj' hi (hd _ (V0 _ h0));refine⟨_,_,hq,_,F,hp1,h1,h2,rfl,?_⟩;exact VD.sl' (l8 _ _ _) (bO3 0) (by rw[hlen];omega) hc (by show q=q+(0:Int).toNat*size;simp) (ar9 hlen).symm
theorem Y4 {cs:T Value}{a:Nat}{olds news:List Value}(h:∀(j:Nat) y,olds[j]? =some y->cs.get (a+j)=some y)(j:Nat)(y:Value)(hy:(olds++news)[j]? =some y):(fill cs (a+olds.length) news).get (a+j)=some y:=by
 rw[l6]
 grind
theorem aZ9 {e size b i o k sLen n lo q : Nat} {x : y4} {olds news : List Value} {cs : T Value} {len : E} {res : Src} {cp : Cp} (hcp : ∀ c, az5 U len .ge c → az5 U len cp c) (hb : s.get b = some x) (ht : τ b = some (some (i, o))) (hg : hp.m.get i = some (.cells cs k e size)) (hl : n9 cs q (sLen * size) = some olds) (hk : q + sLen * size ≤ k)
  (hone:news.all Value.oneCell'=true) (hnl:news.length=n*size) (hlo:lo<=67108864) (hsum:sLen+n<=67108864) (hres:l9 P U τ F e size res (olds++news)) (hlen:len.toI U=((sLen+n:Nat):Int)) (hs:SD P U τ F s hp):
  OKh P U (smove e size b res len cp) τ F s hp (ay5 P U hp e size n news (.slice (some ⟨i,q,none⟩) sLen (c7 lo 0))):=by
 have hil:i<hp.nx:=hs.lt b i o ht;obtain⟨l1,l2⟩:=j9 hl;have hold:∀(j:Nat) y,olds[j]? =some y->cs.get (q+j)=some y:=fun j y hy=>by
  grind
 have hx:∀w hp1,S9 hp e size n news (.slice (some ⟨i,q,none⟩) sLen (c7 lo 0))=some (w,hp1)->(∀a τ' F' hp',Tle τ τ'->Fle F F'->hp'=hp1/\VD P U τ' F' a w->ay5 P U hp e size n news (.slice (some ⟨i,q,none⟩) sLen (c7 lo 0)) a τ' F' hp'):=
  fun w hp1 h a τ' F' hp' _ _ ⟨h1,h2⟩=>⟨w,by rw[h1];exact h,h2⟩
 have hcond:(Nat.ble (sLen+n) 67108864&&news.all Value.oneCell')=true:=by simp_all
 by_cases hn0:n=0
 ·
  subst hn0;have hne:news=[]:=bI5 (by rw[hnl];simp)
  subst hne;have hble:∀c,unk<=c->Nat.ble sLen c=true:=fun c hc=>bI6 (bN7 (Nat.le_of_lt (ay4 (by omega))) hc)
  have hxa':∀c,unk<=c->S9 hp e size 0 [] (.slice (some ⟨i,q,none⟩) sLen c)=some (.slice (some ⟨i,q,none⟩) sLen c,hp):=by
   intro c hc;simp only[S9,hg,hcond,bJ6,hble c hc];rfl
  have hxa:=hxa' _ (p7 lo 0);refine(OKh.smove (hp:=hp) (c:=c7 lo 0) (hp1:=hp) (j:=i) (q:=q) (n:=sLen) hb ht (bK2 _) (fun _ _ _=>rfl) (.inl rfl) hil hg (fun τ' hτ=>?_) hlen (hcp _ ⟨lo,rfl,hlo,by rw[hlen];omega⟩) hs).mono (hx _ _ hxa)
  exact al0 (hres.mono hτ (Fle.refl F)) (fun j y hy=>hold j y (by simpa using hy)) (by simp;omega)
 ·have hxa : S9 hp e size n news (.slice (some ⟨i, q, none⟩) sLen (c7 lo 0)) = bif Nat.ble (sLen + n) lo then
    some (.slice (some ⟨i,q,none⟩) (sLen+n) (c7 lo 0),at3 hp i cs (Nat.max k (q+(sLen+n)*size)) e size (q+sLen*size) news)
    else(bif Nat.beq q 0 then fill cs (sLen*size) news else fill (fill .e 0 olds) (sLen*size) news).force fun ct=>
     some (.slice (some ⟨hp.nx,0,none⟩) (sLen+n) (c7 (sLen+n) 0),⟨(hp.m.set i none).set hp.nx (some (.cells ct ((sLen+n)*size) e size)),hp.nx+1⟩):=by
   simp only[S9,hg,hcond,bJ6,u9 hn0,bJ7,bI6 (p7 lo 0),aR5,az3];rw[show Nat.ble 1 0=false from rfl,Bool.false_and,bJ7,t7 rfl,t7 rfl,bI6 hk,hl]
   grind
  have hmulsum:(sLen+n)*size=sLen*size+n*size:=bL5 _ _ _;cases hlob:Nat.ble (sLen+n) lo with
  |true=>
   rw[hlob,bJ6]at hxa;simp only[at3,T.force_eq]at hxa;refine(OKh.smove (hp:=hp) (c:=c7 lo 0) (hp1:= {hp with m:=hp.m.set i (some (.cells (fill cs (q+sLen*size) news) (Nat.max k (q+(sLen+n)*size)) e size))}) (j:=i) (q:=q) (n:=sLen+n) hb ht (bK2 _)
    (fun j _ hj=>by rw[T.get_set,bJ9 hj]) (.inl rfl) hil (by rw[T.get_set,bK1 rfl]) (fun τ' hτ=>?_) hlen (hcp _ ⟨lo,rfl,hlo,by rw[hlen];omega⟩) hs).mono (hx _ _ hxa)
   refine al0 (hres.mono hτ (Fle.refl F)) (fun j y hy=>?_) ?_
   ·rw[<-l1];exact Y4 hold j y hy
   ·grind
  |false=>
   rw[hlob,bJ7,T.force_eq]at hxa;refine(OKh.smove (hp:=hp) (c:=c7 (sLen+n) 0) (hp1:=⟨(hp.m.set i none).set hp.nx (some (.cells (bif Nat.beq q 0 then fill cs (sLen*size) news else fill (fill .e 0 olds) (sLen*size) news) ((sLen+n)*size) e size)),hp.nx+1⟩) (j:=hp.nx) (q:=0) (n:=sLen+n) hb ht (bP4 _)
    (fun j hj hne=>by rw[T.get_set,bJ9 (by omega),T.get_set,bJ9 hne]) (.inr (bK2 _)) (bO0 _) (by rw[T.get_set,bK1 rfl]) (fun τ' hτ=>?_) hlen (hcp _ (geN hlen hsum)) hs).mono (hx _ _ hxa)
   refine al0 (hres.mono hτ (Fle.refl F)) (fun j y hy=>?_) (by simp only[bK6,l1,hnl];omega)
   by_cases hq:q=0
   ·rw[t7 hq,bJ6]
    have:=Y4 (cs:=cs) (a:=0) (fun j y hy=>by rw[bL1,<-hold j y hy,hq,bL1]) j y hy
    grind
   ·rw[u9 hq,bJ7]
    have:=Y4 (cs:=fill .e 0 olds) (a:=0) (fun j y hy=>by rw[bL1];exact G2 olds j y hy) j y hy
    grind
theorem br8 {e size b i o k sLen n q : Nat} {x : y4} {olds news : List Value} {cs : T Value} {len : E} {res : Src} (hb : s.get b = some x) (ht : τ b = some (some (i, o))) (hg : hp.m.get i = some (.cells cs k e size)) (hl : n9 cs q (sLen * size) = some olds) (hk : q + sLen * size ≤ k)
  (hone:news.all Value.oneCell'=true) (hnl:news.length=n*size) (hcu:sLen<unk) (hsum:sLen+n<=67108864) (hres:l9 P U τ F e size res (olds++news)) (hlen:len.toI U=((sLen+n:Nat):Int)) (hs:SD P U τ F s hp):
  OKh P U (smove e size b res len .un) τ F s hp (ay5 P U hp e size n news (.slice (some ⟨i,q,none⟩) sLen sLen)):=by
 have hil:i<hp.nx:=hs.lt b i o ht;obtain⟨l1,l2⟩:=j9 hl;have hold:∀(j:Nat) y,olds[j]? =some y->cs.get (q+j)=some y:=fun j y hy=>by
  grind
 have hcond:(Nat.ble (sLen+n) 67108864&&news.all Value.oneCell')=true:=by simp_all
 by_cases hn0:n=0
 ·subst hn0
  have hne:news=[]:=bI5 (by rw[hnl];simp)
  subst hne;have hxa:S9 hp e size 0 [] (.slice (some ⟨i,q,none⟩) sLen sLen)=some (.slice (some ⟨i,q,none⟩) sLen sLen,hp):=by
   simp only[S9,hg,hcond,bJ6,bI6 (bK2 sLen)];rfl
  refine(OKh.smove (cp:= .un) (hp:=hp) (c:=sLen) (hp1:=hp) (j:=i) (q:=q) (n:=sLen) hb ht (bK2 _) (fun _ _ _=>rfl) (.inl rfl) hil hg (fun τ' hτ=>?_) hlen (Or.inl ⟨hcu,(ar9 hlen).symm,by rw[hlen];omega⟩) hs).mono fun a τ' F' hp' _ _ ⟨h1,h2⟩=>⟨_,by rw[h1];exact hxa,h2⟩
  exact al0 (hres.mono hτ (Fle.refl F)) (fun j y hy=>hold j y (by simpa using hy)) (by simp;omega)
 ·have hxa : S9 hp e size n news (.slice (some ⟨i, q, none⟩) sLen sLen) = some (.slice (some ⟨hp.nx, 0, none⟩) (sLen + n) (c7 (sLen + n) 0), hp.new (olds ++ news) e size) := by
   simp only[S9,hg,hcond,bJ6,u9 hn0,bJ7,V9 hcu,V9 (show sLen<sLen+n by omega),bI6 hk,hl]
  refine(OKh.smove (cp:= .un) (hp:=hp) (c:=c7 (sLen+n) 0) (hp1:=hp.new (olds++news) e size) (y:= .cells (fill .e 0 (olds++news)) (olds++news).length e size) (j:=hp.nx) (q:=0) (n:=sLen+n) hb ht (bP4 _)
   (fun j hj _=>by show(hp.m.set hp.nx _).get j=_;rw[T.get_set,bJ9 (by omega)]) (.inr (bK2 _)) (bO0 _) (by show(hp.m.set hp.nx _).get hp.nx=_;rw[T.get_set,bK1 rfl]) (fun τ' hτ=>?_) hlen (Or.inr (geN hlen hsum)) hs).mono fun a τ' F' hp' _ _ ⟨h1,h2⟩=>⟨_,by rw[h1];exact hxa,h2⟩
  exact al0 (hres.mono hτ (Fle.refl F)) (fun j y hy=>by rw[bL1];exact G2 _ j y hy) (by omega)
theorem bg0 {e size i k sLen n q c : Nat} {olds news : List Value} {cs : T Value} {len : E} {res : Src} (hg : hp.m.get i = some (.cells cs k e size)) (hl : n9 cs q (sLen * size) = some olds) (hk : q + sLen * size ≤ k)
  (hone:news.all Value.oneCell'=true) (hcu:c<unk) (hlc:sLen<=c) (hgt:c<sLen+n) (hsum:sLen+n<=67108864) (hres:l9 P U τ F e size res (olds++news)) (hlen:len.toI U=((sLen+n:Nat):Int)) (hs:SD P U τ F s hp):
  OKh P U (P7 e size res len) τ F s hp (ay5 P U hp e size n news (.slice (some ⟨i,q,none⟩) sLen c)):=by
 have hxa:S9 hp e size n news (.slice (some ⟨i,q,none⟩) sLen c)=some (.slice (some ⟨hp.nx,0,none⟩) (sLen+n) (c7 (sLen+n) 0),hp.new (olds++news) e size):=by
  simp only[S9,hg];rw[show(Nat.ble (sLen+n) 67108864&&news.all Value.oneCell')=true by simp only[bI0,bN3];exact⟨hsum,hone⟩]
  simp only[bJ6,u9 (show n≠0 by omega),bJ7,V9 hcu,V9 hgt,bI6 hk,hl]
 exact(G6 hres hlen hsum hs).mono fun a τ' F' hp' _ _ ⟨h1,h2⟩=>⟨_,by rw[h1];exact hxa,h2⟩
theorem br9 {i k sLen n q c e size : Nat} {news : List Value} {cs : T Value} (hg : hp.m.get i = some (.cells cs k e size)) (hone : news.all Value.oneCell' = true) (hnl : news.length = n * size) (hcu : c < unk) (hlc : sLen ≤ c) (hle : sLen + n ≤ c) (hsum : sLen + n ≤ 67108864) (hk : q + (sLen + n) * size ≤ k) {e0 : Nat} :
  ∃m,S9 hp e0 size n news (.slice (some ⟨i,q,none⟩) sLen c)=some (.slice (some ⟨i,q,none⟩) (sLen+n) c,{hp with m:=m})/\(∀j,j≠i->m.get j=hp.m.get j)/\m.get i=some (.cells (fill cs (q+sLen*size) news) k e size):=by
 have hcond:(Nat.ble (sLen+n) 67108864&&news.all Value.oneCell')=true:=by simp_all
 by_cases hn0:n=0
 ·subst hn0
  have hne:news=[]:=bI5 (by rw[hnl];simp)
  subst hne;refine⟨hp.m,?_,fun _ _=>rfl,hg⟩
  simp only[S9,hg,hcond,bJ6,t7,bI6 hlc];rfl
 ·refine⟨hp.m.set i (some (.cells (fill cs (q+sLen*size) news) k e size)),?_,fun j hj=>by rw[T.get_set,bJ9 hj],by rw[T.get_set,bK1 rfl]⟩
  simp only[S9,hg,hcond,bJ6,u9 hn0,bJ7,V9 hcu,bI6 hle,bI6 hk,at3,T.force_eq]
end
end Go.Sx
namespace Go.Sx
open Go.Xe
section
variable {P :Program}{U:Nat->List Dat->Dat}{τ:Tau}{F:Nat->Option Blk}{s:SS}{hp:Hp}
theorem OKh.change0 {b:Nat}{x:y4}(hb:s.get b=some x)(ht:τ b=some none){x':y4}(hx:∃L e z ph,x'= .rows L e z ph/\L.toR U=[]/\z=(kf P e).length/\ph.toI U<=0)(hs:SD P U τ F s hp):OKh P U (ac2 b (some x')) τ F s hp fun _ τ' F' hp'=>τ'=τ/\F'=F/\hp'=hp:=by
 intro Q hq _;have liv:∀c y,(s.set b (some x')).get c=some y-> ∃y,s.get c=some y:=by
  intro c y hc;rw[SS.get_set]at hc
  grind
 refine⟨(),_,hq,τ,F,hp,⟨Tle.refl τ,Fle.refl F,bK2 _,bK2 _,fun _ _=>rfl,fun c y hc _=>liv c y hc,⟨[(b,some x')],rfl,fun _ _ _=>rfl,fun c j q hc h=>(by rw[hs.new c hc]at h;cases h),fun _ _ _ h=>.inl h,fun _ _ _ h=>h⟩,⟨[],rfl⟩⟩,
  ⟨fun c y hc=>?_,fun c d y z j q k r hc hd hne e1 e2=>?_,hs.frz,hs.lt,hs.flt,hs.new,hs.fc,hs.fz⟩,rfl,rfl,rfl⟩
 ·rw[SS.get_set]at hc
  by_cases e:c=b
  ·grind
  ·rw[bJ9 e]at hc;exact hs.live c y hc
 ·obtain⟨y',hy⟩:=liv c y hc
  obtain⟨z',hz⟩:=liv d z hd;exact hs.inj c d y' z' j q k r hy hz hne e1 e2
theorem aW6 {e size n : Nat} {L len : E} {vs : List Value} (h : l9 P U τ F e size (.rows L) vs) (hvl : vs.length = n * size) (hlen : len.toI U = n) (hLn : (L.toR U).length = n) (hn : n ≤ 67108864) (hs : SD P U τ F s hp) :
  OKh P U (P7 e size (.rows L) len) τ F s hp fun c τ' F' hp'=>(n=0/\hp'=hp/\VD P U τ' F' c (.slice none 0 0))\/(n≠0/\hp'=hp.new vs e size/\VD P U τ' F' c (.slice (some ⟨hp.nx,0,none⟩) n (c7 n 0))):=by
 by_cases h0:n=0
 ·subst h0
  intro Q hq _;have hL:L.toR U=[]:=bI5 hLn;obtain⟨h1,h2⟩:=hs.alloc (x:=(Src.rows L).blk e size) (p:=none) (hp':=hp) (bK2 _) (fun _ _=>rfl) (.inr ⟨rfl,L,e,size,.int 0,rfl,hL,h.1,bO3 0⟩)
  refine⟨_,_,hq,_,F,hp,h1,h2,.inl ⟨rfl,rfl,?_⟩⟩;exact .sl0 s.nx size (.int 0) len .ge (l8 _ _ _) rfl hlen (fun e he=>by cases he)
 ·exact(G6 h hlen hn hs).mono fun c τ' F' hp' _ _ ⟨h1,h2⟩=>.inr ⟨h0,h1,h2⟩
theorem F6 {e size n:Nat}{news:List Value}(hn:n<=67108864):S9 hp e size n news (.slice none 0 0)=bif Nat.beq n 0 then some (.slice none 0 0,hp)else some (.slice (some ⟨hp.nx,0,none⟩) n (c7 n 0),hp.new news e size):=by
 simp only[S9];rw[show(Nat.beq 0 0&&Nat.beq 0 0&&Nat.ble n 67108864)=true by simp only[bI0,bN3];exact⟨⟨rfl,rfl⟩,hn⟩,bJ6]
theorem al7 {e size n:Nat}{L:E}{vs:List Value}(hsz:1<=size)(h:l9 P U τ F e size (.rows L) vs)(hvl:vs.length=n*size):(L.toR U).length=n:=by
 have:=h.2.1;rw[hvl]at this;exact(Nat.eq_of_mul_eq_mul_right hsz this).symm
def toUn :SV->SV
 | .sl b z off len .ge=>.sl b z off len .un
 |a=>a
theorem bE4 {a:SV}{v:Value}(h:VD P U τ F a v):VD P U τ F (toUn a) v:=by
 unfold toUn;split
 ·cases h with
  |sl _ _ _ _ _ i o c h h0 h1 hc=>exact .sl _ _ _ _ .un i o c h h0 h1 (Or.inr hc)
  |sl0 _ _ _ _ _ h h0 h1 hc=>exact .sl0 _ _ _ _ .un h h0 h1 (fun e he=>by cases he)
 ·exact h
theorem av1 {e size b n : Nat} (hsz : 1 ≤ size) {off len : E} {cap : Cp} {src : Src} {v : Value} {news : List Value} (ha : VD P U τ F (.sl b size off len cap) v) (hsrc : l9 P U τ F e size src news) (hnl : news.length = n * size) (hone : news.all Value.oneCell' = true) (hs : SD P U τ F s hp) :
  OKh P U (an4 P U e size b off len cap src) τ F s hp (ay5 P U hp e size n news v):=by
 unfold an4;refine(aO5 hsrc hs).bind fun Ln τ1 F1 s1 hp1 ex hs1 ⟨e1,e2,hLn⟩=>OKh.read ?_
 subst e1;subst e2;have ha:=ha.mono ex.t ex.f;split
 ·rename_i L e' z' ph hb
  cases hq:Nat.beq e e'&&Nat.beq size z'&&Nat.beq size (kf P e).length with
  |false=>exact OKh.fail
  |true=>
   simp only[bJ6];simp only[bI0,bL9]at hq;obtain⟨⟨rfl,rfl⟩,hkf⟩:=hq;have hLn:=hLn hkf;have hcnt:=al7 hsz hLn hnl;refine OKh.bindp OKp.need fun _ s2 o2 hs2 p1=>OKh.bindp OKp.need fun _ s3 o3 hs3 p2=>?_
   have p1:=w9 p1;have p2:=A5 p2;rw[f8,d9]at p1;rw[f8,d9,hcnt]at p2;simp only[z8]at p2;have hb3:s3.get b=some (.rows L e size ph):=by rw[(o2.trans o3).get];exact hb
   rcases hs3.live b _ hb3 with⟨i,o,y,k1,k2,kF,cs,k,rfl,k4,k5⟩| ⟨k1,L',e',z',ph',k2,k3,k4,k5⟩
   ·cases ha with
    |sl0 _ _ _ _ _ hτ h0 h1 hc=>grind
    |sl _ _ _ _ _ i' o' c hτ h0 h1 hc=>
     rw[k1]at hτ;simp only[bH9,bI1]at hτ;obtain⟨rfl,rfl⟩:=hτ;have el1:len.toI U=((len.toN U:Nat):Int):=by grind
     have eo1:off.toI U=((off.toN U:Nat):Int):=by grind
     have hlenN:(t9 len (y6 Ln)).toI U=((len.toN U+n:Nat):Int):=by rw[f8,d9,hcnt];omega
     have olds:∀Lo:E,Lo.den U= .lst (part (L.toR U) (off.toI U) (len.toI U))-> ∃vs,n9 cs (o+off.toN U*size) (len.toN U*size)=some vs/\o+off.toN U*size+len.toN U*size<=k/\l9 P U τ1 F1 e size (.rows (D6 Lo Ln)) (vs++news):=by
      intro Lo hLo;have hR:Lo.toR U=part (L.toR U) (off.toI U) (len.toI U):=by show(Lo.den U).rows=_;rw[hLo];rfl
      obtain⟨vs,v1,v2,v3,v4⟩:=D0 (τ:=τ1) k4 h0 h1 p1 hR;exact⟨vs,v1,v2,v3.app hLn⟩
     split
     ·
      obtain⟨lo,rfl,c1,c2⟩:=hc;refine OKh.bindp z6 fun Lo s4 o4 hs4 hLo=>?_
      obtain⟨vs,v1,v2,v3⟩:=olds Lo hLo;exact aZ9 (fun _ h=>h) (by rw[o4.get];exact hb3) k1 k2 v1 v2 hone hnl c1 (by omega) v3 hlenN hs4
     ·
      refine OKh.bindp z6 fun Lo s4 o4 hs4 hLo=>?_
      obtain⟨vs,v1,v2,v3⟩:=olds Lo hLo
      rcases hc with⟨c1,rfl,c2⟩| ⟨lo,rfl,c1,c2⟩
      ·exact br8 (by rw[o4.get];exact hb3) k1 k2 v1 v2 hone hnl c1 (by omega) v3 hlenN hs4
      ·exact aZ9 (cp:= .un) (fun _ h=>Or.inr h) (by rw[o4.get];exact hb3) k1 k2 v1 v2 hone hnl c1 (by omega) v3 hlenN hs4
     ·rename_i c0
      obtain⟨c1,rfl,c3,c4⟩:=hc;have ec1:c0.toI U=((c0.toN U:Nat):Int):=by grind
      refine OKh.bindp OKp.test fun t s4 o4 hs4 ht=>?_
      rw[C8,hlenN]at ht;cases t with
      |true=>
       simp only[bK0]at ht;simp only[bJ6];refine OKh.bindp z6 fun Lo s5 o5 hs5 hLo=>?_
       obtain⟨vs,v1,v2,v3⟩:=olds Lo hLo;exact bg0 k2 v1 v2 hone c3 (by omega) (by omega) (by omega) v3 hlenN hs5
      |false=>
       simp only[bM7]at ht;simp only[bJ7];refine OKh.bindp OKp.need fun _ s5 o5 hs5 p3=>?_
       have p3:=w9 p3;rw[f8]at p3;have hb5:s5.get b=some (.rows L e size ph):=by rw[(o4.trans o5).get];exact hb3
       have hroom:o+off.toN U*size+(len.toN U+n)*size<=k:=by
        have:(off.toN U+(len.toN U+n))*size<=ph.toN U*size:=bJ2 size (by show off.toN U+(len.toN U+n)<=(ph.toI U).toNat;omega)
        grind
       obtain⟨m,m1,m2,m3⟩:=br9 (e0:=e) (q:=o+off.toN U*size) (c:=c0.toN U) k2 hone hnl c3 (by omega) (by omega) (by omega) hroom
       have hoff:(t9 off len).toI U=off.toI U+len.toI U:=f8 off len;have hofN:((t9 off len).toI U).toNat=off.toN U+len.toN U:=by grind
       have hov:y9 P F1 e size o k (fill cs (o+off.toN U*size+len.toN U*size) news) ((E.op .over [L,t9 off len,Ln]).toR U):=by
        have:=y9.over (news:=news) (l:=Ln.toR U) (a:=(t9 off len).toI U) k4 (by rw[hoff];exact p1) hLn.2.2.1 hLn.2.1 (by rw[hofN,hcnt,bL5,bL5];rw[bL5]at hroom;omega) hLn.2.2.2
        rw[hofN,bL5,<-bN9]at this;exact this
       refine(OKh.change (x':= .rows (.op .over [L,t9 off len,Ln]) e size ph) (m:=m) hb5 k1 m2 m3 ⟨_,k,rfl,hov,k5⟩).bind fun _ τ2 F2 s6 hp2 _ hs6 ⟨w1,w2,w3⟩=>?_
       subst w1;subst w2;refine OKh.ret ⟨.slice (some ⟨i,o+off.toN U*size,none⟩) (len.toN U+n) (c0.toN U),by rw[w3];exact m1,VD.sl' k1 h0 (by omega) ⟨c1,rfl,c3,by omega⟩ rfl (ar9 hlenN).symm⟩
   ·cases ha with
    |sl _ _ _ _ _ i' o' c hτ h0 h1 hc=>grind
    |sl0 _ _ _ _ _ hτ h0 h1 hc=>
     simp only[y4.rows.injEq]at k2;obtain⟨rfl,rfl,rfl,rfl⟩:=k2;have hn:n<=67108864:=by omega
     have hlenN:(t9 len (y6 Ln)).toI U=(n:Int):=by rw[f8,d9,hcnt];omega
     have hcell:∀Lo:E,Lo.den U= .lst (part (L.toR U) (off.toI U) (len.toI U))->l9 P U τ1 F1 e size (.rows (D6 Lo Ln)) news/\((D6 Lo Ln).toR U).length=n:=by
      intro Lo hLo;have hR:Lo.toR U=[]:=by show(Lo.den U).rows=_;rw[hLo,k3];simp[part,Dat.rows]
      have hA:(D6 Lo Ln).toR U=Ln.toR U:=by rw[N2,hR];rfl
      obtain⟨q1,q2,q3,q4⟩:=hLn;exact⟨⟨q1,by rw[hA];exact q2,by rw[hA];exact q3,by rw[hA];exact q4⟩,by rw[hA];exact hcnt⟩
     split
     ·refine OKh.bindp z6 fun Lo s4 o4 hs4 hLo=>?_
      obtain⟨v1,v2⟩:=hcell Lo hLo
      by_cases hn0:n=0
      ·subst hn0
       intro Q hq _;have hb4:s4.get b=some (.rows L e size ph):=by rw[o4.get];exact hb3
       obtain⟨d1,d2⟩:=hs4.drop b;obtain⟨h1',h2'⟩:=d2.alloc (x:=(Src.rows (D6 Lo Ln)).blk e size) (p:=none) (hp':=hp1) (bK2 _) (fun _ _=>rfl) (.inr ⟨rfl,_,e,size,.int 0,rfl,bI5 v2,v1.1,bO3 0⟩)
       refine⟨_,_,hq,_,F1,hp1,d1.trans h1',h2',.slice none 0 0,by rw[F6 hn];rfl,?_⟩
       exact .sl0 _ size (.int 0) _ .ge (l8 _ _ _) rfl hlenN (fun e he=>by cases he)
      ·intro Q hq _
       obtain⟨d1,d2⟩:=hs4.drop b;have hx:=(G6 (s:=s4.set b none) v1 hlenN hn d2) Q hq d2;obtain⟨a,s',q1,τ',F',hp',q2,q3,q4,q5⟩:=hx;exact⟨a,s',q1,τ',F',hp',d1.trans q2,q3,_,by rw[F6 hn,u9 hn0,bJ7,q4],q5⟩
     ·refine OKh.bindp z6 fun Lo s4 o4 hs4 hLo=>?_
      obtain⟨v1,v2⟩:=hcell Lo hLo
      by_cases hn0:n=0
      ·subst hn0
       intro Q hq _;have hb4:s4.get b=some (.rows L e size ph):=by rw[o4.get];exact hb3
       obtain⟨d1,d2⟩:=hs4.drop b;obtain⟨h1',h2'⟩:=d2.alloc (x:=(Src.rows (D6 Lo Ln)).blk e size) (p:=none) (hp':=hp1) (bK2 _) (fun _ _=>rfl) (.inr ⟨rfl,_,e,size,.int 0,rfl,bI5 v2,v1.1,bO3 0⟩)
       refine⟨_,_,hq,_,F1,hp1,d1.trans h1',h2',.slice none 0 0,by rw[F6 hn];rfl,?_⟩
       exact .sl0 _ size (.int 0) _ .un (l8 _ _ _) rfl hlenN (fun e he=>by cases he)
      ·intro Q hq _
       obtain⟨d1,d2⟩:=hs4.drop b;have hx:=(G6 (s:=s4.set b none) v1 hlenN hn d2) (fun r=>Q (toUn r.1,r.2)) hq d2
       obtain⟨a,s',q1,τ',F',hp',q2,q3,q4,q5⟩:=hx;exact⟨toUn a,s',q1,τ',F',hp',d1.trans q2,q3,_,by rw[F6 hn,u9 hn0,bJ7,q4],bE4 q5⟩
     ·rename_i c0
      have hc0:=hc c0 rfl;refine OKh.bindp OKp.test fun t s4 o4 hs4 ht=>?_
      rw[C8,hlenN,hc0]at ht;cases t with
      |true=>
       simp only[bK0]at ht;simp only[bJ6];refine OKh.bindp z6 fun Lo s5 o5 hs5 hLo=>?_
       obtain⟨v1,v2⟩:=hcell Lo hLo;exact(G6 v1 hlenN hn hs5).mono fun a τ' F' hp' _ _ ⟨w1,w2⟩=>⟨_,by rw[F6 hn,u9 (by omega),bJ7,w1],w2⟩
      |false=>
       simp only[bM7]at ht;simp only[bJ7];have hn0:n=0:=by omega
       subst hn0;refine OKh.bindp OKp.need fun _ s5 o5 hs5 p3=>?_
       have hb5:s5.get b=some (.rows L e size ph):=by rw[(o4.trans o5).get];exact hb3
       have hov:(E.op .over [L,t9 off len,Ln]).toR U=[]:=by
        show(Sx.over (L.toR U) _ (Ln.toR U))=[];rw[k3,bI5 hcnt];simp[Sx.over]
       refine(OKh.change0 (x':= .rows (.op .over [L,t9 off len,Ln]) e size ph) hb5 k1 ⟨_,e,size,ph,rfl,hov,k4,k5⟩ hs5).bind fun _ τ2 F2 s6 hp2 _ hs6 ⟨w1,w2,w3⟩=>?_
       subst w1;subst w2;subst w3;exact OKh.ret ⟨.slice none 0 0,by rw[F6 hn];rfl,.sl0 b size off _ _ k1 h0 hlenN (fun e he=>by cases he;exact hc0)⟩
 ·exact OKh.fail
end
end Go.Sx
namespace Go.Sx
open Go.Xe
section
variable {P :Program}{U:Nat->List Dat->Dat}{τ:Tau}{F:Nat->Option Blk}{s:SS}{hp:Hp}
theorem PV.nil_or {e:TypeId}{a:Option Addr}{l:Nat}{d:Dat}(h:PV P F (.sl e) (.slice a l l) d):(a=none/\l=0/\d= .lst [])\/ ∃i o,a=some ⟨i,o,none⟩:=by
 cases h with
 |nils=>grind
 |sl _ i o c b cs n z rows x hF hb hc hn hz hr hx hp=>grind
theorem y9.of_PV {e i o l c:Nat}{rows:Rows}(h:PV P F (.sl e) (.slice (some ⟨i,o,none⟩) l c) (.lst rows))(hfrz:∀i b,F i=some b->hp.m.get i=some b):∃b cs n z,hp.m.get i=some b/\y9 P F e z o n cs rows/\l=rows.length/\z=(kf P e).length/\((∃e',b= .cells cs n e' z)\/(∃e' z',b= .ro cs n e' z'/\c<unk)):=by
 cases h with
 |sl _ _ _ _ b cs n z _ x hF hb hc hn hz hr hx hp'=>
  cases b with
  |cells c2 n2 e2 z2=>
   simp only[arr,rdC,bH9,bI1]at hb;obtain⟨rfl,rfl,rfl⟩:=hb;have ez:=hc.2.2;exact⟨_,c2,n2,z,hfrz _ _ hF,⟨hn,hz,hr,fun r k row d h1 h2=>⟨x r k,hx r k row d h1 h2,fun kd hkd=>hp' r k row kd d h1 h2 hkd⟩⟩,rfl,hz,.inl ⟨_,by rw[ez rfl]⟩⟩
  |ro c2 n2 e2 z2=>
   simp only[arr,rdC,bH9,bI1]at hb;obtain⟨rfl,rfl,rfl⟩:=hb;exact⟨_,c2,n2,z,hfrz _ _ hF,⟨hn,hz,hr,fun r k row d h1 h2=>⟨x r k,hx r k row d h1 h2,fun kd hkd=>hp' r k row kd d h1 h2 hkd⟩⟩,rfl,hz,.inr ⟨_,_,rfl,hc.2.1 rfl⟩⟩
  |_=>simp[arr,rdC]at hb
theorem bD7 {e size n : Nat} (hsz : 1 ≤ size) {a : SV} {v : Value} (ha : VD P U τ F a v) {src : Src} {news : List Value} (hsrc : l9 P U τ F e size src news) (hnl : news.length = n * size) (hcnt : (src.cnt size).toI U = n) (hs : SD P U τ F s hp) :
  OKh P U (sapp P U e size a src) τ F s hp (ay5 P U hp e size n news v):=by
 have none_case:∀src,l9 P U τ F e size src news->(src.cnt size).toI U=n->(∀l,src= .lit l->l≠ [])->OKh P U (a8 (j7 U (v6 (src.cnt size) (.int 67108865))) fun _=>P7 e size src (src.cnt size)) τ F s hp (ay5 P U hp e size n news (.slice none 0 0)):=by
  intro src hsrc hcnt hne;refine OKh.bindp OKp.need fun _ s1 _ hs1 p1=>?_
  have p1:=A5 p1;rw[hcnt]at p1;simp only[z8]at p1;have hn:n<=67108864:=by omega
  cases src with
  |lit l=>
   have hl:l.length=n*size:=by rw[<-hnl];exact hsrc.1
   have hn0:n≠0:=by
    intro h;rw[h,bQ8]at hl;exact hne l rfl (bI5 hl)
   exact(G6 hsrc hcnt hn hs1).mono fun c τ' F' hp' _ _ ⟨h1,h2⟩=>⟨_,by rw[F6 hn,u9 hn0,bJ7,h1],h2⟩
  |rows L=>
   refine(aW6 hsrc hnl hcnt (al7 hsz hsrc hnl) hn hs1).mono fun c τ' F' hp' _ _ h=>?_
   rcases h with⟨h0,h1,h2⟩| ⟨h0,h1,h2⟩
   ·exact⟨_,by rw[F6 hn,t7 h0,bJ6,h1],h2⟩
   ·exact⟨_,by rw[F6 hn,u9 h0,bJ7,h1],h2⟩
 unfold sapp;split
 ·
  cases ha;split
  ·have hv:news=[]:=bI5 hsrc.1.symm
   subst hv;have hn0:n=0:=by
    rcases Nat.eq_zero_or_pos n with h|h
    ·exact h
    ·have:=Nat.mul_le_mul h hsz;simp at hnl;omega
   subst hn0;exact OKh.ret ⟨.slice none 0 0,by rw[F6 (by omega)];rfl,.nils⟩
  ·rename_i hne
   exact none_case _ hsrc hcnt fun l hl h=>by subst h;exact hne hl
 ·
  rename_i b z off len cap;cases hq:Nat.beq z size&&src.one with
  |false=>exact OKh.fail
  |true=>
   simp only[bJ6];simp only[bI0,bL9]at hq;obtain⟨rfl,hone1⟩:=hq;have hone:=hsrc.ones hone1;refine OKh.read ?_;split
   ·rename_i l e' z' hb
    split
    ·rename_i oo nn m
     cases hq:Nat.beq e e'&&Nat.beq z z'&&decide (0<=oo)&&decide (0<=nn)&&Nat.ble ((oo.toNat+nn.toNat)*z) l.length&&Nat.ble (nn.toNat+m.length/z) 67108864&&Nat.beq (m.length/z*z) m.length with
     |false=>exact OKh.fail
     |true=>
      simp only[bJ6];simp only[bI0,bL9,bK0,bN3]at hq;obtain⟨⟨⟨⟨⟨⟨rfl,rfl⟩,q1⟩,q2⟩,q3⟩,q4⟩,q5⟩:=hq;have hml:m.length=n*z:=by rw[<-hnl];exact hsrc.1
      have hmn:m.length/z=n:=by rw[hml];exact Nat.mul_div_cancel _ hsz
      rw[hmn]at q4⊢;rw[bL5]at q3
      rcases hs.live b _ hb with⟨i,o,y,k1,k2,kF,cs,k,rfl,k4,k5⟩| ⟨k1,L',e',z',ph',k2,k3,k4,k5⟩
      ·cases ha with
       |sl0 _ _ _ _ _ hτ h0 h1 hc=>rw[k1]at hτ;cases hτ
       |sl _ _ _ _ _ i' o' c hτ h0 h1 hc=>
        rw[k1]at hτ;simp only[bH9,bI1]at hτ;obtain⟨rfl,rfl⟩:=hτ;have e1:(E.int oo).toN U=oo.toNat:=rfl;have e2:(E.int nn).toN U=nn.toNat:=rfl;obtain⟨vs,v1,v2,v3⟩:=C7 (c:=cs) (R:=fun j x=>∀a,((l.drop (oo.toNat*z)).take (nn.toNat*z))[j]? =some a->VD P U τ F a x) (nn.toNat*z) (o+oo.toNat*z) 0 fun j hj=>by
         have hlj:oo.toNat*z+j<l.length:=by omega
         obtain⟨x,w1,w2⟩:=k5 (oo.toNat*z+j) _ (bJ1 hlj);refine⟨x,by rw[<-w1];congr 1;omega,fun a ha=>?_⟩
         rw[bL1,bL2,bK1 hj,bL8]at ha;rw[show l[oo.toNat*z+j]? =some l[oo.toNat*z+j] by simp[hlj],bH9]at ha
         rw[<-ha];exact w2
        have hlen:((l.drop (oo.toNat*z)).take (nn.toNat*z)).length=nn.toNat*z:=by simp;omega
        have hvs:VDL P U τ F ((l.drop (oo.toNat*z)).take (nn.toNat*z)) vs:=⟨by rw[hlen,v2],fun j a x ha hx=>v3 j x hx a (by rw[bL1];exact ha)⟩
        have hres:l9 P U τ F e z (.lit ((l.drop (oo.toNat*z)).take (nn.toNat*z)++m)) (vs++news):=hvs.append hsrc;have hlenN:(E.int ((nn.toNat+n:Nat):Int)).toI U=((nn.toNat+n:Nat):Int):=rfl;have hkk:o+oo.toNat*z+nn.toNat*z<=k:=by omega
        rw[e1,e2];split
        ·obtain⟨lo,rfl,c1,c2⟩:=hc
         exact aZ9 (fun _ h=>h) hb k1 k2 v1 hkk hone hnl c1 q4 hres hlenN hs
        ·exact OKh.fail
        ·rename_i c0
         obtain⟨c1,rfl,c3,c4⟩:=hc;have ec1:c0.toI U=((c0.toN U:Nat):Int):=by show c0.toI U=((c0.toI U).toNat:Int);omega
         have c4:nn<=c0.toI U:=c4;refine OKh.bindp OKp.test fun t s4 o4 hs4 ht=>?_
         rw[C8,hlenN]at ht;cases t with
         |true=>
          simp only[bK0]at ht;simp only[bJ6];exact bg0 k2 v1 hkk hone c3 (by omega) (by omega) q4 hres hlenN hs4
         |false=>
          simp only[bM7]at ht;simp only[bJ7];cases hr:Nat.ble ((oo.toNat+nn.toNat)*z+m.length) l.length with
          |false=>exact OKh.fail
          |true=>
           simp only[bJ6];have hr:=bI3 hr;rw[bL5,hml]at hr;obtain⟨mm,m1,m2,m3⟩:=br9 (e0:=e) (q:=o+oo.toNat*z) (c:=c0.toN U) k2 hone hnl c3 (by omega) (show nn.toNat+n<=c0.toN U by omega) q4 (by rw[bL5];omega)
           have hb4:s4.get b=some (.cells l e z):=by rw[o4.get];exact hb
           refine(OKh.change (x':= .cells (L8 l ((oo.toNat+nn.toNat)*z) m) e z) (m:=mm) hb4 k1 m2 m3 ⟨_,k,rfl,?_,fun j a ha=>?_⟩).bind fun _ τ2 F2 s6 hp2 _ hs6 ⟨w1,w2,w3⟩=>?_
           ·unfold L8;simp only[bK6,bL4,bN1,bL5];omega
           ·unfold L8 at ha
            rw[bL5]at ha;have et:(l.take (oo.toNat*z+nn.toNat*z)).length=oo.toNat*z+nn.toNat*z:=by simp;omega
            rw[l6]
            by_cases hj:oo.toNat*z+nn.toNat*z<=j/\j<oo.toNat*z+nn.toNat*z+news.length
            ·rw[bK1 (by omega)]
             rw[bJ3,bI7 (by omega),bI8 (by rw[et,hml,<-hnl];omega),et]at ha
             obtain⟨w,w1,w2⟩:=VDL.get hsrc ha;exact⟨w,by rw[<-w1];congr 1;omega,w2⟩
            ·rw[bJ9 (by omega)]
             by_cases hj1:j<oo.toNat*z+nn.toNat*z
             ·rw[bJ3,bI8 (by omega),bL2,bK1 hj1]at ha
              exact k5 j a ha
             ·rw[bJ3,bI7 (by omega),et,bI7 (by rw[hml,<-hnl];omega),bL8]at ha
              refine k5 j a ?_;rw[<-ha];congr 1;rw[hml,<-hnl];omega
           ·subst w1;subst w2
            refine OKh.ret ⟨.slice (some ⟨i,o+oo.toNat*z,none⟩) (nn.toNat+n) (c0.toN U),by rw[w3];exact m1,VD.sl' k1 h0 (by rw[hlenN];omega) ⟨c1,rfl,c3,by rw[hlenN];omega⟩ rfl rfl⟩
      ·cases k2
    ·refine(ad6 hs).bind fun _ τ1 F1 s1 hp1 ex hs1 ⟨e1,e2,e3⟩=>?_
     subst e1;subst e2;subst e3;exact av1 hsz ha hsrc hnl hone hs1
   ·exact av1 hsz ha hsrc hnl hone hs
   ·exact OKh.fail
 ·
  rename_i e' L;cases hq:Nat.beq e e'&&Nat.beq size (kf P e).length&&src.one with
  |false=>exact OKh.fail
  |true=>
   simp only[bJ6];simp only[bI0,bL9]at hq;obtain⟨⟨rfl,hkf⟩,hone1⟩:=hq;have hone:=hsrc.ones hone1;have ha0:=ha;cases ha with
   |lst _ _ _ _ hv hc=>
    obtain⟨ad,l,rfl⟩:=hc rfl;refine OKh.bindp OKp.test fun t s1 o1 hs1 ht=>?_
    rw[F8,hcnt]at ht;simp only[z8]at ht;have hRL:(ad5 L).toR U=L.toR U:=by show((ad5 L).den U).rows=_;rw[am7];rfl
    have hlu:=bg1 hv;have hnv:=hv.nil_or;cases t with
    |true=>
     have hn0:n=0:=by have:=bP8 ht;omega
     subst hn0;have hne:news=[]:=bI5 (by rw[hnl];simp)
     subst hne;simp only[bJ6];refine OKh.bindp OKp.need fun _ s2 _ hs2 p1=>OKh.ret ⟨.slice ad l l,?_,ha0⟩
     have p1:=A5 p1;rw[d9]at p1;simp only[z8]at p1
     rcases hnv with⟨rfl,rfl,_⟩| ⟨i,o,rfl⟩
     ·rw[F6 (by omega)];rfl
     ·obtain⟨b,cs,k,z2,g1,g2,g3,g4,⟨e2,rfl⟩| ⟨e2,z3,rfl,g5⟩⟩:=y9.of_PV (hp:=hp) hv hs.frz
      ·simp only[S9,g1]
       rw[show(Nat.ble (l+0) 67108864&&([]:List Value).all Value.oneCell')=true by simp only[bI0,bN3];exact⟨by omega,rfl⟩]
       simp only[bJ6,t7,bI6 (bK2 l)]
      ·simp only[S9,g1]
       rw[show(Nat.ble (l+0) 67108864&&Nat.ble l l&& !Nat.ble unk l)=true by simp only[bI0,bN3,V9 g5,Bool.not_false,bP2];exact⟨by omega,bK2 _⟩]
       simp only[bJ6,t7]
    |false=>
     have hn0:n≠0:=by have:=of_decide_eq_false ht;omega
     simp only[bJ7];refine(aO5 hsrc hs1).bind fun Ln τ1 F1 s2 hp1 ex hs2 ⟨e1,e2,hLn⟩=>?_
     subst e1;subst e2;have hLn:=hLn hkf;have hcL:=al7 hsz hLn hnl;refine OKh.bindp OKp.need fun _ s3 o3 hs3 p1=>?_
     have p1:=A5 p1;rw[f8,d9,d9,hcL]at p1;simp only[z8]at p1;have hv':=hv.mono P ex.f
     rcases hnv with⟨rfl,rfl,hd⟩| ⟨i,o,rfl⟩
     ·have hL:L.toR U=[]:=by injection hd
      have happ:(D6 (ad5 L) Ln).toR U=Ln.toR U:=by rw[N2,hRL,hL];rfl
      obtain⟨q1,q2,q3,q4⟩:=hLn;have hcells:l9 P U τ1 F1 e size (.rows (D6 (ad5 L) Ln)) news:=⟨q1,by rw[happ];exact q2,by rw[happ];exact q3,by rw[happ];exact q4⟩
      refine(G6 hcells (n:=n) (by rw[f8,d9,d9,hL,hcL];simp) (by omega) hs3).mono fun c τ' F' hp' _ _ ⟨h1,h2⟩=>⟨_,by rw[F6 (by omega),u9 hn0,bJ7,h1],h2⟩
     ·obtain⟨b,cs,k,z2,g1,g2,g3,g4,gro⟩:=y9.of_PV (hp:=hp1) hv' hs3.frz
      have ez:z2=size:=by omega
      subst ez;have hpart:Sx.part (L.toR U) 0 (L.toR U).length=L.toR U:=by simp[Sx.part]
      obtain⟨vs,v1,v2,v3,v4⟩:=D0 (U:=U) (τ:=τ1) g2 (off:=0) (len:=(L.toR U).length) (bO3 0) (by omega) (by omega) (L:=ad5 L) (by rw[hRL,hpart])
      have e0:(0:Int).toNat*z2=0:=by simp
      rw[e0,bO5,bM0]at v1 v2;have hres:l9 P U τ1 F1 e z2 (.rows (D6 (ad5 L) Ln)) (vs++news):=v3.app hLn;have hlu:l<unk:=hlu.resolve_left (by simp)
      refine(G6 hres (n:=(L.toR U).length+n) (by rw[f8,d9,d9,hcL];omega) (by omega) hs3).mono fun c τ' F' hp' _ _ ⟨h1,h2⟩=>⟨_,?_,h2⟩
      rw[<-g3]at v1 v2⊢
      rcases gro with⟨e2,rfl⟩| ⟨e2,z3,rfl,g5⟩
      ·simp only[S9,g1]
       rw[show(Nat.ble (l+n) 67108864&&news.all Value.oneCell')=true by simp only[bI0,bN3];exact⟨by omega,hone⟩]
       simp only[bJ6,u9 hn0,bJ7,V9 hlu,V9 (show l<l+n by omega),bI6 v2,v1,h1]
      ·simp only[S9,g1]
       rw[show(Nat.ble (l+n) 67108864&&Nat.ble l l&& !Nat.ble unk l)=true by simp only[bI0,bN3,V9 g5,Bool.not_false,bP2];exact⟨by omega,bK2 _⟩]
       simp only[bJ6,u9 hn0,bJ7,V9 (show l<l+n by omega),bI6 v2,v1,h1]
 ·exact OKh.fail
end
section
variable (P :Program)(U:Nat->List Dat->Dat)
def an7 (t:TypeId)(r:Option Operand):M SV:=
 match P.underlying t,r with
 |some (.map kt vt),none=>a8 (V3 (.map (.op .nil []) kt vt)) fun b=>c8 (.map b)
 |_,_=>a7 "makeMap"
def kI (e:E):E:=match e with| .int n=>.int n|e=>.op .castI [e]
def kS (e:E):E:=match e with| .str l=>.str l|e=>.op .castS [e]
def aW2 :List Kd->List SV->Option (List E)
 | [],[]=>some []
 |p::ps,a::l=>match aW2 ps l with
  |some es=>match p,a with
   | .int k,.int k' e=>bif decide (k=k')then some (kI e::es)else none
   | .str,.str e=>some (kS e::es)
   |_,_=>none
  |none=>none
 |_,_=>none
def skey (sh : Bool × List Kd) (k : SV) : Option (List E) := bif sh.1 then match k with
  | .agg l=>aW2 sh.2 l
  |_=>none
 else aW2 sh.2 [k]
def aW5 (kt vt:TypeId)(m k:SV)(f:Nat->E->List E->M SV):M SV:=
 match N0 P kt,m with
 |some sh,.map b=>match skey sh k with
  |some ks=>m9 fun s=>match s.get b with
   |some (.map L kt' vt')=>bif Nat.beq kt kt'&&Nat.beq vt vt' then f b L ks else a7 "map: type"
   |_=>a7 "map: no block"
  |none=>a7 "map: key"
 |_,_=>a7 "map: value"
def aw6 :Option Value->Bool
 |some (.int _ _)|some (.bool _)|some (.string _)=>true
 |_=>false
def by4 (vt:TypeId)(ok:Bool)(L:E)(ks:List E):M SV:=match ae7 P vt with
 |some [z]=>bif !aw6 (I3 P vt)then a7 "lookup: zero" else match aG6 (kd1 P vt) z with
  |some d=>match aI1 (kd1 P vt) (.op .mget (L::d::ks))with
   |some v=>c8 (bif ok then .tup [v,.bool (.op .mhas (L::ks))]else v)
   |none=>a7 "lookup"
  |none=>a7 "lookup"
 |_=>a7 "lookup: zero"
def aN8 (t:TypeId)(m k:SV)(ok:Bool):M SV:=
 match P.underlying t with
 |some (.map kt vt)=>aW5 P kt vt m k fun _ L ks=>by4 P vt ok L ks
 |_=>a7 "lookup: type"
def aO0 (t:TypeId)(m k x:SV):M SV:=
 match P.underlying t with
 |some (.map kt vt)=>aW5 P kt vt m k fun b L ks=>match aG6 (kd1 P vt) x with
  |some e=>a8 (ac2 b (some (.map (.op .mput (L::e::ks)) kt vt))) fun _=>c8 (.tup [])
  |none=>a7 "map: value"
 |_=>a7 "map: type"
def ar7 (t:TypeId)(m k:SV):M SV:=
 match P.underlying t with
 |some (.map kt vt)=>aW5 P kt vt m k fun b L ks=>match ae7 P vt with
  |some [z]=>bif !aw6 (I3 P vt)then a7 "entry: zero" else match aG6 (kd1 P vt) z with
   |some d=>match aI1 (kd1 P vt) (.op .mget (L::d::ks))with
    |some v=>a8 (ac2 b (some (.map (.op .mput (L:: .op .mget (L::d::ks)::ks)) kt vt))) fun _=>c8 (.tup [v,.int .i64 (.op .mix (L::ks))])
    |none=>a7 "entry"
   |none=>a7 "entry"
  |_=>a7 "entry: zero"
 |_=>a7 "entry: type"
def ae3 (m i x:SV):M SV:=
 match m,i with
 | .map b,.int _ e=>m9 fun s=>match s.get b with
  |some (.map L kt vt)=>match N0 P kt,aG6 (kd1 P vt) x with
   |some sh,some ex=>a8 (j7 U (u5 (v6 e (.int 0)))) fun _=>a8 (j7 U (v6 e (y6 L))) fun _=>a8 (ac2 b (some (.map (.op (.upd sh.2.length) [L,e,ex]) kt vt))) fun _=>c8 (.tup [])
   |_,_=>a7 "entry: value"
  |_=>a7 "entry: no block"
 |_,_=>a7 "entry: place"
end
section
variable {P :Program}{U:Nat->List Dat->Dat}{τ:Tau}{F:Nat->Option Blk}{s:SS}{hp:Hp}
theorem aW4 {t:TypeId}(hs:SD P U τ F s hp):OKh P U (an7 P t none) τ F s hp fun a τ' F' hp'=>(∃kt vt,P.underlying t=some (.map kt vt))/\hp'=(hp.add ⟨.map [] true,.map,rfl⟩).2/\VD P U τ' F' a (hp.add ⟨.map [] true,.map,rfl⟩).1:=by
 unfold an7;split
 ·rename_i kt vt hu _
  refine(OKh.alloc (x:= .map (.op .nil []) kt vt) (y:= .map [] true) hs fun τ' _=>⟨rfl,[],true,rfl,rfl,rfl,fun j row e h=>by simp[E.toR,E.den,Sy.den,Dat.rows]at h⟩).bind fun b τ' F' s' hp' _ hs' ⟨h1,h2,h3⟩=>OKh.ret ?_
  subst h1;subst h3;exact⟨⟨kt,vt,hu⟩,rfl,.map b hp.nx 0 h2⟩
 ·exact OKh.fail
theorem O7.nil {kt vt:TypeId}{es:List (Value×Value)}(h:O7 P F kt vt es []):es=[]:=bI5 h.1
variable (P F) in
def br3 (kt vt:TypeId)(e:Value×Value)(r:List Dat):Prop:=∃sh ks d,N0 P kt=some sh/\ad4 sh.2 ks=true/\r=ks.map KV.dat++ [d]/\e.1=ac0 sh ks/\PV P F (kd1 P vt) e.2 d
theorem O7.cons {kt vt:TypeId}{es:List (Value×Value)}{r:List Dat}{rows:Rows}(h:O7 P F kt vt es (r::rows)):∃e es',es=e::es'/\br3 P F kt vt e r/\O7 P F kt vt es' rows:=by
 cases es with
 |nil=>exact absurd h.1 (by simp)
 |cons e es=>exact⟨e,es,rfl,h.2 0 r e rfl rfl,by have:=h.1;simpa using this,fun j row e' hr he=>h.2 (j+1) row e' hr he⟩
theorem O7.mk {kt vt:TypeId}{e:Value×Value}{es:List (Value×Value)}{r:List Dat}{rows:Rows}(h:br3 P F kt vt e r)(h':O7 P F kt vt es rows):O7 P F kt vt (e::es) (r::rows):=by
 refine⟨by simp[h'.1],fun j row e' hr he=>?_⟩
 cases j with
 |zero=>cases hr;cases he;exact h
 |succ j=>exact h'.2 j row e' hr he
def Fd (sh:Bool×List Kd)(ks:List KV)(find:List (Value×Value)->Nat->Option (Option (Nat×Value))):Prop:=
 (∀i,find [] i=some none)/\ ∀e es i ks',ad4 sh.2 ks'=true->e.1=ac0 sh ks'->find (e::es) i=if ks'=ks then some (some (i,e.2))else find es (i+1)
theorem ba5 (ks:List KV):(ks.map KV.dat).map Dat.kv=ks:=by
 rw[List.map_map];have:Dat.kv∘KV.dat=id:=funext fun k=>by cases k<;>rfl
 simp_all
theorem Q6 :∀ {ps:List Kd} {ks:List KV},ad4 ps ks=true->ks.length=ps.length
 | [],[],_=>rfl
 |p::ps,k::ks,h=>by
  unfold ad4 at h;rw[bI0]at h;simp[Q6 h.2]
 | [],_::_,h=>by cases h
 |_::_,[],h=>by cases h
theorem J9 {kt vt : TypeId} {sh : Bool × List Kd} (hk : N0 P kt = some sh) {ks : List KV} (hl : ad4 sh.2 ks = true) {find : List (Value × Value) → Nat → Option (Option (Nat × Value))} (hf : Fd sh ks find) {x : Value} {dx : Dat} (hx : PV P F (kd1 P vt) x dx) (dflt : Dat) : ∀ (rows : Rows) (es : List (Value × Value)) (i : Nat), O7 P F kt vt es rows →
  (mhasR rows ks=false/\find es i=some none/\mgetR rows ks dflt=dflt/\midxR rows ks=es.length/\O7 P F kt vt (es++ [(ac0 sh ks,x)]) (mputR rows ks dx))\/
  (mhasR rows ks=true/\ ∃v y,find es i=some (some (i+midxR rows ks,v))/\PV P F (kd1 P vt) v (mgetR rows ks dflt)/\es[midxR rows ks]? =some y/\y.2=v/\O7 P F kt vt (es.set (midxR rows ks) (ac0 sh ks,x)) (mputR rows ks dx))
 | [],es,i,h=>by
  have:=h.nil;subst this;exact .inl ⟨rfl,hf.1 i,rfl,rfl,.mk ⟨sh,ks,dx,hk,hl,rfl,rfl,hx⟩ ⟨rfl,fun j row e h=>by simp at h⟩⟩
 |r::rows,es,i,h=>by
  obtain⟨e,es',rfl,⟨sh',ks',d,h1,h2,rfl,h3,h4⟩,h5⟩:=h.cons;rw[hk]at h1;cases h1;have hs:=hf.2 e es' i ks' h2 h3;have hll:ks'.length=ks.length:=(Q6 h2).trans (Q6 hl).symm;have hkr:ad3 ks.length (ks'.map KV.dat++ [d])=ks':=by
   unfold ad3;rw[List.take_left' (by rw[bJ8];omega),ba5]
  have hgd:(ks'.map KV.dat++ [d]).getD ks.length (.int 0)=d:=by grind
  by_cases c:ks'=ks
  ·subst c
   rw[bK1 rfl]at hs;have g0:midxR ((ks'.map KV.dat++ [d])::rows) ks'=0:=by simp[midxR,hkr]
   refine .inr ⟨by simp[mhasR,hkr],e.2,e,by rw[g0];exact hs,?_,by rw[g0];rfl,rfl,?_⟩
   ·simp only[mgetR,hkr,bR1,hgd];exact h4
   ·rw[g0]
    simp only[mputR,hkr,bR1,List.set_cons_zero];exact .mk ⟨sh,ks',dx,hk,hl,rfl,rfl,hx⟩ h5
  ·rw[bJ9 c]at hs
   have g1:mhasR ((ks'.map KV.dat++ [d])::rows) ks=mhasR rows ks:=by simp[mhasR,hkr,c]
   have g2:mgetR ((ks'.map KV.dat++ [d])::rows) ks dflt=mgetR rows ks dflt:=by simp[mgetR,hkr,c]
   have g3:mputR ((ks'.map KV.dat++ [d])::rows) ks dx=(ks'.map KV.dat++ [d])::mputR rows ks dx:=by simp[mputR,hkr,c]
   have g4:midxR ((ks'.map KV.dat++ [d])::rows) ks=midxR rows ks+1:=by simp[midxR,hkr,c]
   rw[g1,g2,g3,g4];have hc:br3 P F kt vt e (ks'.map KV.dat++ [d]):=⟨sh,ks',d,hk,h2,rfl,h3,h4⟩
   rcases J9 hk hl hf hx dflt rows es' (i+1) h5 with⟨q1,q2,q3,q5,q4⟩| ⟨q1,v,y,q2,q3,q5,q6,q4⟩
   ·exact .inl ⟨q1,by rw[hs];exact q2,q3,by rw[q5];rfl,.mk hc q4⟩
   ·exact .inr ⟨q1,v,y,by rw[hs,q2,show i+1+midxR rows ks=i+(midxR rows ks+1) by omega],q3,q5,q6,.mk hc q4⟩
theorem bG3 (ik k:IntKind)(n:Int):Fd (false,[.int k]) [.i n] (av5 (.int ik) (.int k n)):=by
 refine⟨fun i=>rfl,fun e es i ks' hl he=>?_⟩
 match ks',hl with
 | [.i n'],_=>
  have he:e.1= .int k n':=he;have hs:aZ0 (.int ik) (.int k n) e.1=some (decide (n=n')):=by rw[he];simp[aZ0]
  by_cases c:n=n'
  ·subst c
   rw[bK1 rfl];simp only[av5,hs,bN6]
  ·rw[bJ9 (fun h=>by cases h;exact c rfl)]
   simp only[av5,hs,bP5 c]
theorem aM4 {d : Nat} : ∀ {fs : List Field} {o : Nat} {ps : List Kd} {pre pre' : List Value} {ks ks' : List KV}, aA6 P o fs = some ps → pre.length = o → pre'.length = o → ad4 ps ks = true → ad4 ps ks' = true →
  aE3 P (xeq P (d+1)) (pre++Y6 ps ks) (pre'++Y6 ps ks') fs=some (decide (ks=ks'))/\ai3 P (pre++Y6 ps ks) fs=true/\(ks=ks'->aF8 (Y6 ps ks') (Y6 ps ks)=true)
 | [],o,ps,pre,pre',ks,ks',hp,h1,h2,f1,f2=>by
  cases hp;cases ks with
  |nil=>
   cases ks' with
   |nil=>exact⟨rfl,rfl,fun _=>rfl⟩
   |cons=>cases f2
  |cons=>cases f1
 |f::fs,o,ps,pre,pre',ks,ks',hp,h1,h2,f1,f2=>by
  unfold aA6 at hp;cases ho:Nat.beq f.offset o with
  |false=>rw[ho]at hp;cases hp
  |true=>
   rw[ho,bJ6]at hp;have ho:=bI4 ho;split at hp
   ·rename_i k hk
    split at hp
    ·rename_i ks0 hks0
     cases hp;cases ks with
     |nil=>cases f1
     |cons a ks=>
     cases ks' with
     |nil=>cases f2
     |cons b ks'=>
     unfold ad4 at f1 f2;rw[bI0]at f1 f2;obtain⟨i1,i2,i3⟩:=aM4 (d:=d) (pre:=pre++ [kv1 k a]) (pre':=pre'++ [kv1 k b]) hks0 (by simp[h1]) (by simp[h2]) f1.2 f2.2
     rw[bJ3,bJ3]at i1;rw[bJ3]at i2;have ga:∀(q:List Value) x l,q.length=o->(q++x::l)[f.offset]? =some x:=fun q x l h=>by
      rw[bI7 (by omega),ho,h,bS6];rfl
     unfold bF5 at hk;cases hn:f.name== "_" with
     |true=>rw[hn]at hk;cases hk
     |false=>
      rw[hn,bJ7]at hk;have e1:Y6 (k::ks0) (a::ks)=kv1 k a::Y6 ks0 ks:=rfl;have e2:Y6 (k::ks0) (b::ks')=kv1 k b::Y6 ks0 ks':=rfl;rw[e1,e2];split at hk<;>cases hk
      ·rename_i k hu
       match a,b,f1.1,f2.1 with
       | .i m,.i n,_,_=>
        refine⟨?_,?_,fun e=>?_⟩
        ·simp only[aE3,hn,bJ7,X6,hu,ap6,ga _ _ _ h1,ga _ _ _ h2,kv1,xeq,bN6,bJ6]
         by_cases c:m=n
         ·subst c;simp only[bN6];exact i1.trans (by simp)
         ·simp[c]
        ·simp only[ai3,X6,hu,ap6,bJ7,ga _ _ _ h1,kv1,aM3,bS9];exact i2
        ·obtain⟨e3,e4⟩:=List.cons.inj e
         cases e3;simp only[kv1,aF8,bN6,bS9];exact i3 e4
      ·rename_i hu
       match a,b,f1.1,f2.1 with
       | .s m,.s n,_,_=>
        refine⟨?_,?_,fun e=>?_⟩
        ·simp only[aE3,hn,bJ7,X6,hu,ap6,ga _ _ _ h1,ga _ _ _ h2,kv1,xeq]
         by_cases c:m=n
         ·subst c;simp only[beq_self_eq_true];exact i1.trans (by simp)
         ·rw[show(m==n)=false by simp[c]];simp[c]
        ·simp only[ai3,X6,hu,ap6,bJ7,ga _ _ _ h1,kv1,aM3,bS9];exact i2
        ·obtain⟨e3,e4⟩:=List.cons.inj e
         cases e3;simp only[kv1,aF8,beq_self_eq_true,bS9];exact i3 e4
    ·cases hp
   ·cases hp
theorem bl1 {kt : TypeId} {fs : Array Field} {ps : List Kd} (hu : P.underlying kt = some (.struct fs)) (hst : P.stoodInHeld kt = false) (hp : aA6 P 0 fs.toList = some ps) {ks : List KV} (hl : ad4 ps ks = true) :
  Fd (true,ps) ks (aa3 P kt (.agg (Y6 ps ks).toArray)):=by
 refine⟨fun i=>rfl,fun e es i ks' hl' he=>?_⟩
 have he:e.1= .agg (Y6 ps ks').toArray:=he;obtain⟨i1,_,i3⟩:=aM4 (d:=9998) (pre:=[]) (pre':=[]) hp rfl rfl hl hl';have hq:xeq P 10000 kt (.agg (Y6 ps ks).toArray) e.1=some (decide (ks=ks')):=by
  rw[he];show xeq P (9999+1) kt _ _=_;unfold xeq
  grind
 by_cases c:ks=ks'
 ·have hb : xsb e.1 (.agg (Y6 ps ks).toArray) = true := by
   rw[he];exact i3 c
  rw[bK1 c.symm];rw[decide_eq_true c]at hq;simp only[aa3,hq,hb,bJ6]
 ·rw[bJ9 (fun h=>c h.symm)]
  simp only[aa3,hq,bP5 c]
theorem az8 {kt:TypeId}{d:TypeDesc}{sh:Bool×List Kd}(hd:P.underlying kt=some d)(hk:N0 P kt=some sh){ks:List KV}(hl:ad4 sh.2 ks=true):∃find,Fd sh ks find/\ ∀es,R8 P kt d (ac0 sh ks) es=find es 0:=by
 unfold N0 at hk;rw[hd]at hk;split at hk
 ·rename_i k hk'
  cases hk';cases hk
  match ks,hl with
  | [.i n],_=>exact⟨_,bG3 k k n,fun es=>rfl⟩
 ·rename_i fs hk'
  cases hk';cases hst:P.stoodInHeld kt with
  |true=>grind
  |false=>
   rw[hst,bJ7]at hk;split at hk
   ·rename_i ps hp
    cases hk;refine⟨_,bl1 hd hst hp hl,fun es=>?_⟩
    show(bif ai3 P (Y6 ps ks).toArray.toList fs.toList then aa3 P kt (.agg (Y6 ps ks).toArray) es 0 else none)=_
    have:=(aM4 (d:=0) (pre:=[]) (pre':=[]) hp rfl rfl hl hl).2.1
    grind
   ·cases hk
 ·cases hk
theorem kI_kv (e:E):((kI e).den U).kv= .i (e.toI U):=by unfold kI;split<;>rfl
theorem kS_kv (e:E):((kS e).den U).kv= .s (e.den U).toStr:=by unfold kS;split<;>rfl
theorem aC9 :∀ {ps:List Kd} {l:List SV} {xs:List Value} {ks:List E},VDL P U τ F l xs->aW2 ps l=some ks->xs=Y6 ps (ks.map fun e=>(e.den U).kv)/\ad4 ps (ks.map fun e=>(e.den U).kv)=true
 | [],[],xs,ks,hv,h=>by cases h;exact⟨bI5 hv.1.symm,rfl⟩
 | [],_::_,xs,ks,hv,h=>by cases h
 |_::_,[],xs,ks,hv,h=>by cases h
 |p::ps,a::l,xs,ks,hv,h=>by
  obtain⟨x,xs,rfl,h1,h2⟩:=hv.uncons;unfold aW2 at h;split at h
  ·rename_i es he
   obtain⟨k1,k2⟩:=aC9 h2 he;split at h
   ·rename_i k k' e
    cases hc:decide (k=k')with
    |false=>grind
    |true=>
     rw[hc]at h;have hc:=bP8 hc;subst hc;cases h;cases h1;simp only[bN0,kI_kv];exact⟨by rw[k1];rfl,k2⟩
   ·cases h
    cases h1;simp only[bN0,kS_kv];exact⟨by rw[k1];rfl,k2⟩
   ·cases h
  ·cases h
theorem bj3 {sh:Bool×List Kd}{k:SV}{v:Value}{ks:List E}(hk:VD P U τ F k v)(h:skey sh k=some ks):v=ac0 sh (ks.map fun e=>(e.den U).kv)/\ad4 sh.2 (ks.map fun e=>(e.den U).kv)=true:=by
 obtain⟨b,ps⟩:=sh;unfold skey at h;cases b with
 |true=>
  simp only[bJ6]at h;split at h
  ·cases hk with
   |agg l xs h1 h2=>
    obtain⟨k1,k2⟩:=aC9 ⟨h1,h2⟩ h;exact⟨by rw[k1];rfl,k2⟩
  ·cases h
 |false=>
  simp only[bJ7]at h;obtain⟨k1,k2⟩:=aC9 (VDL.cons hk VDL.nil) h;exact⟨by show v=(Y6 ps _).headD undef;rw[<-k1];rfl,k2⟩
theorem aD1 {kt vt : TypeId} {m k : SV} {mv kv : Value} {f : Nat → E → List E → M SV} {Q : SV → Tau → (Nat → Option Blk) → Hp → Prop} (hm : VD P U τ F m mv) (hk : VD P U τ F k kv) (hs : SD P U τ F s hp)
  (hf:∀(b:Nat) (L:E) (ks:List E) (sh:Bool×List Kd) (d:TypeDesc) (i:Nat) (es:List (Value×Value)) (reg:Bool),N0 P kt=some sh->P.underlying kt=some d->mv= .map (some i)->kv=ac0 sh (ks.map fun e=>(e.den U).kv)->ad4 sh.2 (ks.map fun e=>(e.den U).kv)=true->τ b=some (some (i,0))->hp.m.get i=some (.map es reg)->reg=true->O7 P F kt vt es (L.toR U)->
   s.get b=some (.map L kt vt)->OKh P U (f b L ks) τ F s hp Q):OKh P U (aW5 P kt vt m k f) τ F s hp Q:=by
 unfold aW5;split
 ·rename_i sh b hsh
  split
  ·rename_i ks hks
   obtain⟨k1,k2⟩:=bj3 hk hks;refine OKh.read ?_;split
   ·rename_i L kt' vt' hg
    cases hq:Nat.beq kt kt'&&Nat.beq vt vt' with
    |false=>exact OKh.fail
    |true=>
     simp only[bI0,bL9]at hq;obtain⟨rfl,rfl⟩:=hq;simp only[bJ6];obtain⟨d,hd⟩:∃d,P.underlying kt=some d:=by
      cases h:P.underlying kt with
      |none=>unfold N0 at hsh;rw[h]at hsh;cases hsh
      |some d=>grind
     cases hm with
     |map _ i o ht=>
      rcases hs.live b _ hg with⟨i',o',y,h1,h2,_,h0,es,reg,rfl,hreg,h3⟩| ⟨_,L',e',z',ph',h2,_⟩
      ·grind
      ·cases h2
   ·exact OKh.fail
  ·exact OKh.fail
 ·exact OKh.fail
theorem al9 (ks:List E):(E.dens U ks).map Dat.kv=ks.map fun e=>(e.den U).kv:=by
 rw[E.dens_eq,List.map_map];rfl
theorem aT4 (L d:E)(ks:List E):(E.op .mget (L::d::ks)).den U=mgetR (L.toR U) (ks.map fun e=>(e.den U).kv) (d.den U):=by
 show mgetR (L.toR U) ((E.dens U ks).map Dat.kv) (d.den U)=_;rw[al9]
theorem bu4 (L:E)(ks:List E):((E.op .mhas (L::ks)).den U).toBool=mhasR (L.toR U) (ks.map fun e=>(e.den U).kv):=by
 show mhasR (L.toR U) ((E.dens U ks).map Dat.kv)=_;rw[al9]
theorem aT6 (L d:E)(ks:List E):(E.op .mput (L::d::ks)).toR U=mputR (L.toR U) (ks.map fun e=>(e.den U).kv) (d.den U):=by
 show mputR (L.toR U) ((E.dens U ks).map Dat.kv) (d.den U)=_;rw[al9]
theorem bd2 {t : TypeId} {m k : SV} {mv kv : Value} {ok : Bool} (hm : VD P U τ F m mv) (hk : VD P U τ F k kv) (hs : SD P U τ F s hp) :
  OKh P U (aN8 P t m k ok) τ F s hp fun a τ' F' hp'=>hp'=hp/\ ∃v,D8 P hp t mv kv ok=some v/\VD P U τ' F' a v:=by
 unfold aN8;split
 ·rename_i kt vt hu
  refine aD1 hm hk hs fun b L ks sh dd i es reg e1 e2 e3 e4 e4' e5 e6 ereg e7 e8=>?_
  unfold by4;split
  ·rename_i z hz
   obtain⟨zv,z1,z2⟩:=L9 (U:=U) (τ:=τ) (F:=F) hz;obtain⟨zc,zs,hzc,z3,z4⟩:=z2.uncons;cases ho:aw6 (I3 P vt)with
   |false=>exact OKh.fail
   |true=>
   simp only[Bool.not_true,bJ7];have hz1:zv=zc:=by
    rw[z1]at ho;have hc:zv.cells.toList=[zv]:=by
     unfold aw6 at ho;split at ho
     ·rename_i h;cases h;rfl
     ·rename_i h;cases h;rfl
     ·rename_i h;cases h;rfl
     ·cases ho
    grind
   subst hz1;split
   ·rename_i d hd
    have hzp:=U3 z3 hd;split
    ·rename_i v hv
     subst e3;subst e4;obtain⟨find,hfd,hany⟩:=az8 e2 e1 e4';have main:=J9 e1 e4' hfd hzp (d.den U) (L.toR U) es 0 e7;have hpm:=aT4 (U:=U) L d ks;have hmh:=bu4 (U:=U) L ks
     rcases main with⟨q1,q2,q3,_⟩| ⟨q1,x,_,q2,q3,_⟩
     ·refine OKh.ret ⟨rfl,bif ok then .tuple #[zv,.bool false]else zv,?_,?_⟩
      ·simp only[D8,hu,e2,e6,hany,q2,z1]
      ·have hvd:=am3 (τ:=τ) (U:=U) (x:=zv) (F:=F) (P:=P) (by rw[hpm,q3];exact hzp) hv
       cases ok with
       |false=>exact hvd
       |true=>
        have hb:VD P U τ F (.bool (.op .mhas (L::ks))) (.bool false):=by
         have:=VD.bool (P:=P) (U:=U) (τ:=τ) (F:=F) (.op .mhas (L::ks))
         grind
        exact .tup [_,_] [zv,.bool false] rfl (VDL.cons hvd (VDL.cons hb VDL.nil)).2
     ·rw[bL1]at q2
      refine OKh.ret ⟨rfl,bif ok then .tuple #[x,.bool true]else x,?_,?_⟩
      ·simp only[D8,hu,e2,e6,hany,q2]
      ·have hvd:=am3 (τ:=τ) (U:=U) (x:=x) (F:=F) (P:=P) (by rw[hpm];exact q3) hv
       cases ok with
       |false=>exact hvd
       |true=>
        have hb:VD P U τ F (.bool (.op .mhas (L::ks))) (.bool true):=by
         have:=VD.bool (P:=P) (U:=U) (τ:=τ) (F:=F) (.op .mhas (L::ks))
         grind
        exact .tup [_,_] [x,.bool true] rfl (VDL.cons hvd (VDL.cons hb VDL.nil)).2
    ·exact OKh.fail
   ·exact OKh.fail
  ·exact OKh.fail
 ·exact OKh.fail
theorem bd4 {t : TypeId} {m k x : SV} {mv kv xv : Value} (hm : VD P U τ F m mv) (hk : VD P U τ F k kv) (hx : VD P U τ F x xv) (hs : SD P U τ F s hp) :
  OKh P U (aO0 P t m k x) τ F s hp fun a _ _ hp'=>a= .tup []/\U5 P hp t mv kv xv=some hp':=by
 unfold aO0;split
 ·rename_i kt vt hu
  refine aD1 hm hk hs fun b L ks sh dd i es reg e1 e2 e3 e4 e4' e5 e6 ereg e7 e8=>?_
  split
  ·rename_i e he
   have hxp:=U3 hx he;subst e3;subst e4;obtain⟨find,hfd,hany⟩:=az8 e2 e1 e4';have main:=J9 e1 e4' hfd hxp (e.den U) (L.toR U) es 0 e7;have hmp:=aT6 (U:=U) L e ks
   rcases main with⟨q1,q2,_,_,q4⟩| ⟨q1,v,_,q2,_,_,_,q4⟩
   ·refine(OKh.change (x':= .map (.op .mput (L::e::ks)) kt vt) (y:= .map (es++ [(ac0 sh (ks.map fun e=>(e.den U).kv),xv)]) reg) (m:=hp.m.set i (some (.map (es++ [(ac0 sh (ks.map fun e=>(e.den U).kv),xv)]) reg))) e8 e5 (fun j hj=>by rw[T.get_set,bJ9 hj]) (by rw[T.get_set,bK1 rfl]) ⟨rfl,_,reg,rfl,ereg,by rw[hmp];exact q4⟩).bind fun _ τ3 F3 s3 hp3 _ _ ⟨w1,w2,w3⟩=>OKh.ret ⟨rfl,?_⟩
    simp only[U5,hu,e2,e6,hany,q2,w3]
   ·rw[bL1]at q2
    refine(OKh.change (x':= .map (.op .mput (L::e::ks)) kt vt) (y:= .map (es.set (midxR (L.toR U) (ks.map fun e=>(e.den U).kv)) (ac0 sh (ks.map fun e=>(e.den U).kv),xv)) reg) (m:=hp.m.set i (some (.map (es.set (midxR (L.toR U) (ks.map fun e=>(e.den U).kv)) (ac0 sh (ks.map fun e=>(e.den U).kv),xv)) reg))) e8 e5 (fun j hj=>by rw[T.get_set,bJ9 hj]) (by rw[T.get_set,bK1 rfl]) ⟨rfl,_,reg,rfl,ereg,by rw[hmp];exact q4⟩).bind fun _ τ3 F3 s3 hp3 _ _ ⟨w1,w2,w3⟩=>OKh.ret ⟨rfl,?_⟩
    simp only[U5,hu,e2,e6,hany,q2,w3]
  ·exact OKh.fail
 ·exact OKh.fail
theorem aN9 {t : TypeId} {m k : SV} {mv kv : Value} (hm : VD P U τ F m mv) (hk : VD P U τ F k kv) (hs : SD P U τ F s hp) :
  OKh P U (ar7 P t m k) τ F s hp fun a τ' F' hp'=>∃v,H7 P hp t mv kv=some (v,hp')/\VD P U τ' F' a v:=by
 unfold ar7;split
 ·rename_i kt vt hu
  refine aD1 hm hk hs fun b L ks sh dd i es reg e1 e2 e3 e4 e4' e5 e6 ereg e7 e8=>?_
  split
  ·rename_i z hz
   obtain⟨zv,z1,z2⟩:=L9 (U:=U) (τ:=τ) (F:=F) hz;obtain⟨zc,zs,hzc,z3,z4⟩:=z2.uncons;cases ho:aw6 (I3 P vt)with
   |false=>exact OKh.fail
   |true=>
   simp only[Bool.not_true,bJ7];have hz1:zv=zc:=by
    rw[z1]at ho;have hc:zv.cells.toList=[zv]:=by
     unfold aw6 at ho;split at ho
     ·rename_i h;cases h;rfl
     ·rename_i h;cases h;rfl
     ·rename_i h;cases h;rfl
     ·cases ho
    grind
   subst hz1;split
   ·rename_i d hd
    have hzp:=U3 z3 hd;split
    ·rename_i v hv
     subst e3;subst e4;subst ereg;obtain⟨find,hfd,hany⟩:=az8 e2 e1 e4';have hpm:=aT4 (U:=U) L d ks;have hmp:=aT6 (U:=U) L (.op .mget (L::d::ks)) ks;have hmi:(E.op .mix (L::ks)).toI U=(midxR (L.toR U) (ks.map fun e=>(e.den U).kv):Nat):=by
      show((midxR (L.toR U) ((E.dens U ks).map Dat.kv):Nat):Int)=_;rw[al9]
     have ent:∀(x:Value),PV P F (kd1 P vt) x ((E.op .mget (L::d::ks)).den U)->VD P U τ F (.tup [v,.int .i64 (.op .mix (L::ks))]) (.tuple #[x,.int .i64 (midxR (L.toR U) (ks.map fun e=>(e.den U).kv):Nat)]):=fun x hx=>by
      rw[<-hmi];exact .tup [_,_] [x,_] rfl (VDL.cons (am3 (τ:=τ) (U:=U) hx hv) (VDL.cons (.int _ _) VDL.nil)).2
     rcases J9 e1 e4' hfd hzp (d.den U) (L.toR U) es 0 e7 with⟨q1,q2,q3,q5,q4⟩| ⟨q1,x,y,q2,q3,q5,q6,_⟩
     ·refine(OKh.change (x':= .map (.op .mput (L:: .op .mget (L::d::ks)::ks)) kt vt) (y:= .map (es++ [(ac0 sh (ks.map fun e=>(e.den U).kv),zv)]) true) (m:=hp.m.set i (some (.map (es++ [(ac0 sh (ks.map fun e=>(e.den U).kv),zv)]) true))) e8 e5 (fun j hj=>by rw[T.get_set,bJ9 hj]) (by rw[T.get_set,bK1 rfl]) ⟨rfl,_,true,rfl,rfl,by rw[hmp,hpm,q3];exact q4⟩).bind fun _ τ3 F3 s3 hp3 _ _ ⟨w1,w2,w3⟩=>OKh.ret ?_
      subst w1;subst w2;exact⟨_,by simp only[H7,hu,e2,e6,hany,q2,z1,w3];rw[<-q5],ent zv (by rw[hpm,q3];exact hzp)⟩
     ·rw[bL1]at q2
      rcases J9 e1 e4' hfd q3 (d.den U) (L.toR U) es 0 e7 with⟨k1,_⟩| ⟨_,_,_,_,_,_,_,q4⟩
      ·grind
      refine(OKh.change (x':= .map (.op .mput (L:: .op .mget (L::d::ks)::ks)) kt vt) (y:= .map (es.set (midxR (L.toR U) (ks.map fun e=>(e.den U).kv)) (ac0 sh (ks.map fun e=>(e.den U).kv),x)) true) (m:=hp.m.set i (some (.map (es.set (midxR (L.toR U) (ks.map fun e=>(e.den U).kv)) (ac0 sh (ks.map fun e=>(e.den U).kv),x)) true))) e8 e5 (fun j hj=>by rw[T.get_set,bJ9 hj]) (by rw[T.get_set,bK1 rfl]) ⟨rfl,_,true,rfl,rfl,by rw[hmp,hpm];exact q4⟩).bind fun _ τ3 F3 s3 hp3 _ _ ⟨w1,w2,w3⟩=>OKh.ret ?_
      subst w1;subst w2;exact⟨_,by simp only[H7,hu,e2,e6,hany,q2,q5,q6,w3],ent x (by rw[hpm];exact q3)⟩
    ·exact OKh.fail
   ·exact OKh.fail
  ·exact OKh.fail
 ·exact OKh.fail
theorem aC7 {m k x : SV} {mv kv xv : Value} (hm : VD P U τ F m mv) (hk : VD P U τ F k kv) (hx : VD P U τ F x xv) (hs : SD P U τ F s hp) :
  OKh P U (ae3 P U m k x) τ F s hp fun a _ _ hp'=>a= .tup []/\K4 hp mv kv xv=some hp':=by
 unfold ae3;split
 ·rename_i b kd e
  refine OKh.read ?_;split
  ·rename_i L kt vt hg
   split
   ·rename_i sh ex hsh hex
    have hxp:=U3 hx hex;refine OKh.bindp OKp.need fun _ s1 o1 hs1 p1=>OKh.bindp OKp.need fun _ s2 o2 hs2 p2=>?_
    have p1:=w9 p1;have p2:=A5 p2;rw[d9]at p2;simp only[z8]at p1;cases hm with
    |map _ i o ht=>
     cases hk
     rcases hs.live b _ hg with⟨i',o',y,h1,h2,_,h0,es,reg,rfl,hreg,h3,h4⟩| ⟨_,L',e',z',ph',h2,_⟩
     ·rw[ht]at h1
      cases h1;subst h0;subst hreg;obtain⟨n,hn⟩:∃n:Nat,e.toI U=n:=⟨(e.toI U).toNat,by omega⟩
      rw[hn]at p2⊢;have hnl:n<(L.toR U).length:=by omega
      have hne:n<es.length:=by omega
      have hg2:s2.get b=some (.map L kt vt):=by rw[o2.get,o1.get];exact hg
      obtain⟨sh',ks,d,k1,k2,k3,k4,k5⟩:=h4 n _ _ (bJ1 hnl) (bJ1 hne);rw[hsh]at k1;cases k1;have hup:(E.op (.upd sh.2.length) [L,e,ex]).toR U=(L.toR U).set n (ks.map KV.dat++ [ex.den U]):=by
       show setAt (L.toR U) (e.toI U) sh.2.length (ex.den U)=_;unfold setAt;have hm:∀(l:Rows) (g:List Dat->List Dat) (hl:n<l.length),l.modify n g=l.set n (g l[n]):=fun l g hl=>by
        refine List.ext_getElem? fun j=>?_
        grind
       rw[hn,bM0,hm _ _ hnl];rw[k3,List.set_append_right _ _ (by rw[bJ8,Q6 k2];exact bK2 _),bJ8,Q6 k2,bS6];rfl
      refine(OKh.change (x':= .map (.op (.upd sh.2.length) [L,e,ex]) kt vt) (y:= .map (es.set n (es[n].1,xv)) true) (m:=hp.m.set i (some (.map (es.set n (es[n].1,xv)) true))) hg2 ht (fun j hj=>by rw[T.get_set,bJ9 hj]) (by rw[T.get_set,bK1 rfl]) ⟨rfl,_,true,rfl,rfl,?_⟩).bind fun _ τ3 F3 s3 hp3 _ _ ⟨w1,w2,w3⟩=>OKh.ret ⟨rfl,?_⟩
      ·rw[hup]
       refine⟨by simp[h3],fun j row e0 hr he=>?_⟩
       grind
      ·simp only[K4,h2,bJ1 hne,w3]
     ·cases h2
   ·exact OKh.fail
  ·exact OKh.fail
 ·exact OKh.fail
end
end Go.Sx
namespace Go.Sx
open Go.Xe
structure D9 where
 run:FuncId->List SV->M SV
 round:List Nat->List SV->FuncId->Nat->List Nat->Code->Code->List SV->M SV
def bd5 (P:Program)(t:TypeId)(x:SV):M SV:=match P.underlying t,x with
 |some .string,.str e=>a8 (V3 (.iter e (.int 0))) fun b=>c8 (.ptr b 1 (.int 0) 0)
 |_,_=>a7 "range"
def by8 (U : Nat → List Dat → Dat) (isS : Bool) (it : SV) : M SV := match isS, it with
 | true, .ptr b _ (.int m) f => bif decide (m = 0) && Nat.beq f 0 then m9 fun s => match s.get b with
   | some (.iter str pos) => a8 (ad7 U (v6 pos (U8 str))) fun t =>
     bif t then a8 (ac2 b (some (.iter str (t9 pos (.op .srw [str,pos]))))) fun _=>c8 (.tup [.bool (.bool true),.int .i64 pos,.int .i32 (.op .srune [str,pos])])
     else c8 (.tup [.bool (.bool false)])
   |_=>a7 "next: no iterator"
  else a7 "next"
 |_,_=>a7 "next"
def bp3 (f:Fm):Option Operand->Option (Option SV)
 |none=>some none
 |some x=>match j8 f x with
  |some v=>some (some v)
  |none=>none
def bb0 (s i:E):E:=match s,i with
 | .str l,.int n=>match l[n.toNat]? with
  |some b=>.int b.toNat
  |none=>.op .sidx [s,i]
 |s,i=>.op .sidx [s,i]
section
variable (P :Program)(U:Nat->List Dat->Dat)
def bd0 (t : TypeId) (x i : SV) : M SV :=
 match i with
 | .int _ n => match P.underlying t with
  |some .string=>match x with
   | .str s=>a8 (j7 U (u5 (v6 n (.int 0)))) fun _=>a8 (j7 U (v6 n (U8 s))) fun _=>c8 (.int .u8 (bb0 s n))
   |_=>a7 "index: string"
  | some (.array len e) => match x, n with
   | .agg cs, .int m => bif decide (0 ≤ m) && decide (m < len) then
     match P.info? e with
     |some ie=>ah2 "index" (aK4 P e cs (m.toNat*ie.size))
     |none=>a7 "index: type"
    else a7 "index: beyond"
   |_,_=>a7 "index: array"
  |_=>a7 "index: type"
 |_=>a7 "index: no int"
def aK2 (x:SV):M SV:=
 match x with
 | .ptr b z row fld=>c8 (.ptr b z row fld)
 | .pptr t L row fld=>c8 (.pptr t L row fld)
 | .fn (.func f) a b=>c8 (.fn (.func f) a b)
 |_=>a7 "nil"
def aV5 (b:Builtin)(ats:List TypeId)(args:List SV):M SV:=
 match b,ats,args with
 | .append,[t,u],[s,x]=>bi2 P U t u s x
 | .len,[t],[x]=>slen P t x
 | .cap,[t],[x]=>scap P t x
 | .min,_,x::xs=>bp1 U false x xs
 | .max,_,x::xs=>bp1 U true x xs
 |_,_,_=>a7 "builtin"
def bi6 (call:D9)(f:SV)(args:List SV):M SV:=
 match f with
 | .fn (.func g) first captured=>match P.funcs[g]? with
  |some fn=>bif aq8 fn then call.run g (first++args++captured)else a7 "call: no body"
  |none=>a7 "call: no function"
 | .yld ks vs g nt ps as bo=>call.round ks vs g nt ps as bo args
 |_=>a7 "call: value"
def sop (call:D9)(f:Fm)(o:Op):M SV:=
 match o with
 | .move x=>ah2 "move" (j8 f x)
 | .assign x=>ah2 "assign" (j8 f x)
 | .pick c a b=>match j8 f c with
  |some (.bool e)=>a8 (ad7 U e) fun t=>bif t then ah2 "pick" (j8 f a)else ah2 "pick" (j8 f b)
  |_=>a7 "pick"
 | .alloc e=>match ae7 P e with
  |some l=>sbox e l
  |none=>a7 "alloc"
 | .box e x=>match j8 f x with
  |some v=>match A7 v with
   |some l=>sbox e l
   |none=>a7 "box"
  |none=>a7 "box"
 | .build t parts=>match ae6 f parts.toList with
  |some ps=>ah2 "build" (bc5 P t ps)
  |none=>a7 "build"
 | .buildSlice t len parts=>match ae6 f parts.toList with
  |some ps=>ae2 P t len ps
  |none=>a7 "buildSlice"
 | .load t a=>match j8 f a with
  |some v=>bj4 P U t v
  |none=>a7 "load"
 | .store t a x=>match j8 f a with
  |some v=>match j8 f x with
   |some u=>bd9 P U t v u
   |none=>a7 "store"
  |none=>a7 "store"
 | .nilCheck x=>match j8 f x with
  |some v=>aK2 v
  |none=>a7 "nil"
 | .binOp op t x y _=>match j8 f x with
  |some v=>match j8 f y with
   |some u=>bx5 P U op t v u
   |none=>a7 "binOp"
  |none=>a7 "binOp"
 | .unOp op _ x=>match j8 f x with
  |some v=>sun U op v
  |none=>a7 "unOp"
 | .convert s d x=>match j8 f x with
  |some v=>bx8 P U s d v
  |none=>a7 "convert"
 | .makeInterface t x=>match j8 f x with
  |some v=>ah2 "interface" (bc9 P t v)
  |none=>a7 "interface"
 | .makeFunc fn first captured=>match aV9 f first.toList with
  |some fs=>match aV9 f captured.toList with
   |some cs=>c8 (.fn fn fs cs)
   |none=>a7 "makeFunc"
  |none=>a7 "makeFunc"
 | .makeSlice t l c=>match j8 f l with
  |some v=>match j8 f c with
   |some u=>aj8 P U t v u
   |none=>a7 "makeSlice"
  |none=>a7 "makeSlice"
 | .slice t x lo hi mx=>match j8 f x with
  |some v=>match bp3 f lo with
   |some l=>match bp3 f hi with
    |some h=>match bp3 f mx with
     |some m=>bd8 P U t v l h m
     |none=>a7 "slice"
    |none=>a7 "slice"
   |none=>a7 "slice"
  |none=>a7 "slice"
 | .fieldAddr t x i=>match j8 f x with
  |some v=>ah2 "fieldAddr" (aj6 P t v i)
  |none=>a7 "fieldAddr"
 | .field t x i=>match j8 f x with
  |some v=>ah2 "field" (bc8 P t v i)
  |none=>a7 "field"
 | .indexAddr t x i=>match j8 f x with
  |some v=>match j8 f i with
   |some u=>aj7 P U t v u
   |none=>a7 "indexAddr"
  |none=>a7 "indexAddr"
 | .index t x i=>match j8 f x with
  |some v=>match j8 f i with
   |some u=>bd0 P U t v u
   |none=>a7 "index"
  |none=>a7 "index"
 | .extract x i=>match j8 f x with
  |some v=>ah2 "extract" (aC8 v i)
  |none=>a7 "extract"
 | .range t x=>match j8 f x with
  |some v=>bd5 P t v
  |none=>a7 "range"
 | .makeMap t r=>an7 P t r
 | .lookup t x k ok=>match j8 f x with
  |some v=>match j8 f k with
   |some u=>aN8 P t v u ok
   |none=>a7 "lookup"
  |none=>a7 "lookup"
 | .mapEntry t m k=>match j8 f m with
  |some v=>match j8 f k with
   |some u=>ar7 P t v u
   |none=>a7 "entry"
  |none=>a7 "entry"
 | .entryStore _ m k x=>match j8 f m with
  |some v=>match j8 f k with
   |some u=>match j8 f x with
    |some y=>ae3 P U v u y
    |none=>a7 "entry"
   |none=>a7 "entry"
  |none=>a7 "entry"
 | .mapUpdate t m k x=>match j8 f m with
  |some v=>match j8 f k with
   |some u=>match j8 f x with
    |some y=>aO0 P t v u y
    |none=>a7 "map"
   |none=>a7 "map"
  |none=>a7 "map"
 | .next it isS=>match j8 f it with
  |some v=>by8 U isS v
  |none=>a7 "next"
 | .call c=>match aV9 f c.args.toList with
  |some args=>match c.callee with
   | .builtin b=>aV5 P U b c.argTypes.toList args
   | .value g=>match j8 f g with
    |some v=>bi6 P call v args
    |none=>a7 "call"
   |_=>a7 "call: method"
  |none=>a7 "call: operands"
 |_=>a7 "operation"
end
section
variable {P :Program}{U:Nat->List Dat->Dat}{τ:Tau}{F:Nat->Option Blk}{s:SS}{hp:Hp}{ov:FuncId->Option TypeId}
def EV (p:Nat->Prop):Prop:=∃n0,∀n,n0<=n->p n
theorem EV.of {p:Nat->Prop}(h:∀n,p n):EV p:=⟨0,fun n _=>h n⟩
theorem EV.and {p q:Nat->Prop}(h:EV p)(k:EV q):EV fun n=>p n/\q n:=by
 obtain⟨a,ha⟩:=h;obtain⟨b,hb⟩:=k;exact⟨Nat.max a b,fun n hn=>⟨ha n (bN7 (Nat.le_max_left a b) hn),hb n (bN7 (bO9 a b) hn)⟩⟩
theorem EV.mono {p q:Nat->Prop}(h:EV p)(k:∀n,p n->q n):EV q:=by
 obtain⟨a,ha⟩:=h;exact⟨a,fun n hn=>k n (ha n hn)⟩
variable (P ov) in
def XOp (o:Op)(tm:T Value)(hp:Hp)(v:Value)(hp':Hp):Prop:=EV fun n=>xop P (exec P ov n) tm hp o=some (v,hp')
variable (P ov) in
def aL7 (g:FuncId)(args:List Value)(hp:Hp)(v:Value)(hp':Hp):Prop:=EV fun n=>(exec P ov n).run g args hp=some (v,hp')
variable (P U ov) in
structure B5 (call:D9):Prop where
 run:∀g l args τ F s hp,VDL P U τ F l args->SD P U τ F s hp->OKh P U (call.run g l) τ F s hp fun a τ' F' hp'=>∃v,aL7 P ov g args hp v hp'/\VD P U τ' F' a v
 round:∀ks vs g nt ps as bo l args τ F s hp i,VD P U τ F (.yld ks vs g nt ps as bo) (.chan (some i))->VDL P U τ F l args->SD P U τ F s hp->
  OKh P U (call.round ks vs g nt ps as bo l) τ F s hp fun a τ' F' hp'=>∃v,(EV fun n=>(exec P ov n).round i args hp=some (v,hp'))/\VD P U τ' F' a v
theorem aO3 {f:Fm}{tm:T Value}(h:TD P U τ F f tm){o:Option Operand}{a:Option SV}(e:bp3 f o=some a):∃v,ah5 tm o=some v/\OVD P U τ F a v:=by
 cases o with
 |none=>simp only[bp3,bH9]at e;subst e;exact⟨none,rfl,trivial⟩
 |some o=>
  simp only[bp3]at e;cases ho:j8 f o with
  |none=>simp[ho]at e
  |some a'=>
   simp only[ho,bH9]at e;subst e;obtain⟨v,h1,h2⟩:=A6 h ho;exact⟨some v,by simp[ah5,h1],h2⟩
theorem bb1 {a i:E}(h0:0<=i.toI U)(h1:i.toI U<(a.den U).toStr.length):(bb0 a i).toI U=(((a.den U).toStr[(i.toI U).toNat]'(by omega)).toNat:Int):=by
 have hop:(E.op .sidx [a,i]).toI U=(((a.den U).toStr[(i.toI U).toNat]'(by omega)).toNat:Int):=by
  show((((a.den U).toStr.getD (i.toI U).toNat 0).toNat:Nat):Int)=_
  grind
 unfold bb0;split
 ·rename_i l n
  split
  ·rename_i b hb
   show(b.toNat:Int)=_;have:l[(E.toI U (.int n)).toNat]? =some b:=hb;rw[bJ1 (show(E.toI U (.int n)).toNat<l.length by have:(E.toI U (.int n))<l.length:=h1;omega),bH9]at this
   rw[<-this];rfl
  ·exact hop
 ·exact hop
theorem bp0 {t:TypeId}{a b:SV}{v u:Value}(ha:VD P U τ F a v)(hb:VD P U τ F b u):OKp U (bd0 P U t a b) s fun c=>∃w,af1 P t v u=some w/\VD P U τ F c w:=by
 unfold bd0;split
 ·rename_i k n
  cases hb;split
  ·rename_i ht
   split
   ·rename_i e
    cases ha;refine OKp.need.bind fun _ _ _ _ h1=>OKp.need.bind fun _ _ _ _ h2=>OKp.ret ?_
    have h1:=P4 h1;have h2:=A5 h2;rw[J4]at h2;have hl:(n.toI U).toNat<(e.den U).toStr.length:=by omega
    refine⟨.int .u8 (((e.den U).toStr[(n.toI U).toNat]).toNat:Int),?_,VD.int' (bb1 h1 h2)⟩;simp only[af1,ht]
    grind
   ·exact OKp.fail
  ·rename_i len e ht
   split
   ·rename_i cs m
    cases hq:decide (0<=m)&&decide (m<(len:Int))with
    |false=>exact OKp.fail
    |true=>
     simp only[bJ6];split
     ·rename_i ie hie
      obtain⟨xs,rfl,hx⟩:=VDL.of_agg ha;refine OKp.opt fun c hc=>?_
      obtain⟨w,h1,h2⟩:=an8 hx hc;refine⟨w,?_,h2⟩;simp only[af1,ht];rw[show(decide (0<=(E.int m).toI U)&&decide ((E.int m).toI U<(len:Int)))=true from hq,bJ6,hie];exact h1
     ·exact OKp.fail
   ·exact OKp.fail
  ·exact OKp.fail
 ·exact OKp.fail
theorem OKp.op {m:M SV}{o:Op}{tm:T Value}{x:Option Value}(hx:∀n,xop P (exec P ov n) tm hp o=f7 hp x)(h:OKp U m s fun a=>∃v,x=some v/\VD P U τ F a v):OKh P U m τ F s hp fun a τ' F' hp'=>∃v,XOp P ov o tm hp v hp'/\VD P U τ' F' a v:=
 (h.up (P:=P) (τ:=τ) (F:=F) (hp:=hp)).mono fun a τ' F' hp' _ _ ⟨e1,e2,e3,v,h1,h2⟩=>by
  subst e1;subst e2;subst e3;exact⟨v,EV.of fun n=>by rw[hx,h1];rfl,h2⟩
theorem bp4 {t : TypeId} {v : SV} {x : Value} (hv : VD P U τ F v x) (hs : SD P U τ F s hp) :
  OKh P U (bd5 P t v) τ F s hp fun a τ' F' hp'=>∃n,ap3 P t x=some n/\hp'=(hp.add n).2/\VD P U τ' F' a (hp.add n).1:=by
 unfold bd5;split
 ·rename_i e hu
  cases hv;refine(OKh.alloc (x:= .iter e (.int 0)) (y:= .sit ⟨(e.den U).toStr.toArray⟩ 0) hs fun τ' _=>⟨rfl,0,rfl,rfl⟩).bind fun b τ' F' s' hp' _ hs' ⟨h1,h2,h3⟩=>OKh.ret ?_
  subst h1;subst h3;refine⟨⟨.sit ⟨(e.den U).toStr.toArray⟩ 0,.ptr,rfl⟩,by simp only[ap3,hu],rfl,?_⟩
  exact VD.ptr' h2 (by show(0:Int)<=0;omega) (by show 0=0+(0:Int).toNat*_+0;simp)
 ·exact OKh.fail
theorem by9 {isS : Bool} {v : SV} {x : Value} (hv : VD P U τ F v x) (_hs : SD P U τ F s hp) :
  OKh P U (by8 U isS v) τ F s hp fun a τ' F' hp'=>∃u,aF2 hp x isS=some (u,hp')/\VD P U τ' F' a u:=by
 unfold by8;split
 ·rename_i b z m f
  cases hc:decide (m=0)&&Nat.beq f 0 with
  |false=>exact OKh.fail
  | true =>
   simp only[bI0,bK0,bL9]at hc;obtain⟨rfl,rfl⟩:=hc;rw[bJ6];refine OKh.read ?_;split
   ·rename_i str pos hb
    refine OKh.bindp OKp.test fun t s1 o1 hs1 ht=>?_
    have hb1:s1.get b=some (.iter str pos):=by rw[o1.get];exact hb
    rcases hs1.live b _ hb1 with⟨i,o,y,k1,k2,k3,rfl,n,rfl,k4⟩| ⟨_,L,e,z',ph,h,_⟩
    ·cases hv with
     | ptr _ _ _ _ i' o' h h0 =>
      rw[k1]at h;simp only[bH9,bI1]at h;obtain⟨rfl,rfl⟩:=h;have ha:0+(E.int 0).toN U*z+0=0:=by show 0+(0:Int).toNat*z+0=0;simp
      rw [ha];rw [C8,J4,k4] at ht;have hx : aF2 hp (.pointer (some ⟨i, 0, none⟩)) true = bif Nat.blt n (str.den U).toStr.length then
        some (.tuple #[.bool true,.int .i64 n,.int .i32 (Utf8.decode ⟨(str.den U).toStr.toArray⟩ n).1],{hp with m:=hp.m.set i (some (.sit ⟨(str.den U).toStr.toArray⟩ (n+(Utf8.decode ⟨(str.den U).toStr.toArray⟩ n).2)))})
        else some (.tuple #[.bool false],hp):=by
       simp only[aF2,k2]
      have hn:pos.toI U=(n:Int):=k4;cases t with
      |true=>
       rw[bK0]at ht;have hlt:Nat.blt n (str.den U).toStr.length=true:=bI6 (by omega)
       rw[hlt,bJ6]at hx;have hW:runeW (str.den U).toStr (pos.toI U)=((Utf8.decode ⟨(str.den U).toStr.toArray⟩ n).2:Nat):=by rw[hn];simp[runeW]
       have hR:runeAt (str.den U).toStr (pos.toI U)=(Utf8.decode ⟨(str.den U).toStr.toArray⟩ n).1:=by rw[hn];simp[runeAt]
       rw[bJ6];refine OKh.bind (R:=fun _ τ' F' hp'=>τ'=τ/\F'=F/\hp'= {hp with m:=hp.m.set i (some (.sit ⟨(str.den U).toStr.toArray⟩ (n+(Utf8.decode ⟨(str.den U).toStr.toArray⟩ n).2)))}) ?_ fun _ τ2 F2 s2 hp2 _ _ ⟨e1,e2,e3⟩=>OKh.ret ⟨.tuple #[.bool true,.int .i64 n,.int .i32 (Utf8.decode ⟨(str.den U).toStr.toArray⟩ n).1],?_,?_⟩
       ·intro Q hq _
        obtain⟨h1,h2⟩:=hs1.change (x':= .iter str (t9 pos (.op .srw [str,pos]))) hb1 k1 (y:= .sit ⟨(str.den U).toStr.toArray⟩ (n+(Utf8.decode ⟨(str.den U).toStr.toArray⟩ n).2))
         (hp':= {hp with m:=hp.m.set i (some (.sit ⟨(str.den U).toStr.toArray⟩ (n+(Utf8.decode ⟨(str.den U).toStr.toArray⟩ n).2)))}) rfl (fun j hj=>by simp[T.get_set,hj]) (by simp[T.get_set])
         ⟨rfl,_,rfl,by rw[f8,hn];show(n:Int)+runeW (str.den U).toStr (pos.toI U)=_;rw[hW];omega⟩
        exact⟨(),_,hq,τ,F,_,h1,h2,rfl,rfl,rfl⟩
       ·rw[hx,e3]
       ·refine .tup _ [.bool true,.int .i64 n,.int .i32 (Utf8.decode ⟨(str.den U).toStr.toArray⟩ n).1] rfl fun j a v ha hv=>?_
        match j,ha,hv with
        |0,ha,hv=>simp at ha hv;subst ha;subst hv;exact .bool (.bool true)
        |1,ha,hv=>simp at ha hv;subst ha;subst hv;exact VD.int' hn
        |2,ha,hv=>simp at ha hv;subst ha;subst hv;exact VD.int' hR
        |j+3,ha,hv=>simp at ha
      |false=>
       rw[bM7]at ht;have hlt:Nat.blt n (str.den U).toStr.length=false:=by
        cases hb:Nat.blt n (str.den U).toStr.length with
        |false=>rfl
        |true=>exact absurd (by have:=bI3 hb;omega) ht
       rw[hlt,bJ7]at hx;rw[bJ7];refine OKh.ret ⟨_,hx,.tup _ [.bool false] rfl fun j a v ha hv=>?_⟩
       match j,ha,hv with
       |0,ha,hv=>simp at ha hv;subst ha;subst hv;exact .bool (.bool false)
       |j+1,ha,hv=>simp at ha
    ·cases h
   ·exact OKh.fail
 ·exact OKh.fail
theorem aO2 {call:D9}(hcall:B5 P U ov call){f:Fm}{tm:T Value}(ht:TD P U τ F f tm)(hs:SD P U τ F s hp)(o:Op):OKh P U (sop P U call f o) τ F s hp fun a τ' F' hp'=>∃v,XOp P ov o tm hp v hp'/\VD P U τ' F' a v:=by
 have ev:=fun{x:Operand} {a:SV} (e:j8 f x=some a)=>A6 (P:=P) (U:=U) ht e
 cases o with
 |move x=>exact OKp.op (x:=a9 tm x) (fun n=>by rw[c6];rfl) (OKp.opt fun a h=>ev h)
 |assign x=>exact OKp.op (x:=a9 tm x) (fun n=>by rw[c6];rfl) (OKp.opt fun a h=>ev h)
 |pick c a b=>
  simp only[sop];split
  ·rename_i e he
   obtain⟨v,h1,h2⟩:=ev he;cases h2;refine OKp.op (x:=bif (e.den U).toBool then a9 tm a else a9 tm b) (fun n=>by rw[c6];simp only[k9,h1];cases(e.den U).toBool<;>rfl) ?_
   refine OKp.test.bind fun t _ _ _ h=>?_
   rw[h];cases t with
   |true=>exact OKp.opt fun a h=>ev h
   |false=>exact OKp.opt fun a h=>ev h
  ·exact OKh.fail
 |alloc e=>
  simp only[sop];split
  ·rename_i l hl
   obtain⟨z,h1,h2⟩:=L9 (U:=U) (τ:=τ) (F:=F) hl;refine(bi3 h2 hs).mono fun a τ' F' hp' _ _ ⟨e1,e2⟩=>⟨_,EV.of fun n=>?_,e2⟩
   rw[c6];simp only[k9,xnw,ao4,h1,J8];rw[(bI1 _ _ _ _).mp e1|>.2]
  ·exact OKh.fail
 |box e x=>
  simp only[sop];split
  ·rename_i v hv
   split
   ·rename_i l hl
    obtain⟨w,h1,h2⟩:=ev hv;refine(bi3 (ag1 h2 hl) hs).mono fun a τ' F' hp' _ _ ⟨e1,e2⟩=>⟨_,EV.of fun n=>?_,e2⟩
    rw[c6];simp only[k9,xnw,h1,J8,aX7];rw[(bI1 _ _ _ _).mp e1|>.2]
   ·exact OKh.fail
  ·exact OKh.fail
 |build t parts=>
  simp only[sop];split
  ·rename_i ps hps
   obtain⟨qs,h1,h2⟩:=ag4 ht hps;exact OKp.op (x:=ak2 P t qs) (fun n=>by rw[c6];simp only[k9,h1]) (OKp.opt fun a h=>bo4 h2 h)
  ·exact OKh.fail
 |buildSlice t len parts=>
  simp only[sop];split
  ·rename_i ps hps
   obtain⟨qs,h1,h2⟩:=ag4 ht hps;refine(aC4 h2 hs).mono fun a τ' F' hp' _ _ ⟨n,e1,e2,e3⟩=>⟨_,EV.of fun m=>?_,e3⟩
   rw[c6];simp only[k9,xnw,h1,e1,J8,e2]
  ·exact OKh.fail
 |makeMap t r=>
  simp only[sop];cases r with
  |some r=>
   unfold an7;split
   ·grind
   ·exact OKh.fail
  |none=>
   refine(aW4 (t:=t) hs).mono fun a τ' F' hp' _ _ ⟨⟨kt,vt,e0⟩,e1,e2⟩=>⟨_,EV.of fun m=>?_,e2⟩
   rw[c6,e1];simp only[k9,xnw,ah5,bk1,J8,e0]
 |lookup t x k ok=>
  simp only[sop];split
  ·rename_i v hv
   split
   ·rename_i u hu
    obtain⟨w,h1,h2⟩:=ev hv;obtain⟨y,h3,h4⟩:=ev hu;refine(bd2 h2 h4 hs).mono fun c τ' F' hp' _ _ ⟨e1,r,e2,e3⟩=>⟨r,EV.of fun n=>?_,e3⟩
    rw[c6,e1];simp only[k9,h1,h3,e2,f7]
   ·exact OKh.fail
  ·exact OKh.fail
 |mapEntry t m k=>
  simp only[sop];split
  ·rename_i v hv
   split
   ·rename_i u hu
    obtain⟨w,h1,h2⟩:=ev hv;obtain⟨w',h3,h4⟩:=ev hu;refine(aN9 h2 h4 hs).mono fun c τ' F' hp' _ _ ⟨x,e1,e2⟩=>⟨x,EV.of fun n=>?_,e2⟩
    rw[c6];simp only[k9,h1,h3,e1]
   ·exact OKh.fail
  ·exact OKh.fail
 |entryStore t m k x=>
  simp only[sop];split
  ·rename_i v hv
   split
   ·rename_i u hu
    split
    ·rename_i y hy
     obtain⟨w,h1,h2⟩:=ev hv;obtain⟨w',h3,h4⟩:=ev hu;obtain⟨w'',h5,h6⟩:=ev hy;refine(aC7 h2 h4 h6 hs).mono fun c τ' F' hp' _ _ ⟨e1,e2⟩=>⟨undef,EV.of fun n=>?_,?_⟩
     ·rw[c6];simp only[k9,h1,h3,h5,e2]
     ·subst e1;exact .tup [] [] rfl (fun i a x h _=>by simp at h)
    ·exact OKh.fail
   ·exact OKh.fail
  ·exact OKh.fail
 |mapUpdate t m k x=>
  simp only[sop];split
  ·rename_i v hv
   split
   ·rename_i u hu
    split
    ·rename_i y hy
     obtain⟨w,h1,h2⟩:=ev hv;obtain⟨w',h3,h4⟩:=ev hu;obtain⟨w'',h5,h6⟩:=ev hy;refine(bd4 h2 h4 h6 hs).mono fun c τ' F' hp' _ _ ⟨e1,e2⟩=>⟨undef,EV.of fun n=>?_,?_⟩
     ·rw[c6];simp only[k9,h1,h3,h5,e2]
     ·subst e1;exact .tup [] [] rfl (fun i a x h _=>by simp at h)
    ·exact OKh.fail
   ·exact OKh.fail
  ·exact OKh.fail
 |load t a=>
  simp only[sop];split
  ·rename_i v hv
   obtain⟨w,h1,h2⟩:=ev hv;exact OKp.op (x:=O3 P hp t w) (fun n=>by rw[c6];simp only[k9,h1]) (aW3 h2 hs)
  ·exact OKh.fail
 |store t a x=>
  simp only[sop];split
  ·rename_i v hv
   split
   ·rename_i u hu
    obtain⟨w,h1,h2⟩:=ev hv;obtain⟨y,h3,h4⟩:=ev hu;refine(bp7 h2 h4 hs).mono fun c τ' F' hp' _ _ ⟨e1,e2⟩=>⟨undef,EV.of fun n=>?_,?_⟩
    ·rw[c6];simp only[k9,h1,h3,e2]
    ·subst e1;exact .tup [] [] rfl (fun i a x h _=>by simp at h)
   ·exact OKh.fail
  ·exact OKh.fail
 |nilCheck x=>
  simp only[sop];split
  ·rename_i v hv
   obtain⟨w,h1,h2⟩:=ev hv;unfold aK2;split
   ·rename_i b z row fld
    cases h2 with
    |ptr _ _ _ _ i o h h0=>exact OKp.op (x:=some (.pointer (some ⟨i,o+row.toN U*z+fld,none⟩))) (fun n=>by rw[c6];simp only[k9,h1];rfl) (OKp.ret ⟨_,rfl,.ptr b z row fld i o h h0⟩)
   ·rename_i t L row fld
    cases h2 with
    |pptr _ _ _ _ i o l c h h0 h3=>exact OKp.op (x:=some (.pointer (some ⟨i,o+row.toN U*(kf P t).length+fld,none⟩))) (fun n=>by rw[c6];simp only[k9,h1];rfl) (OKp.ret ⟨_,rfl,.pptr t L row fld i o l c h h0 h3⟩)
   ·rename_i g l m
    cases h2 with
    |fn _ _ _ xs ys k1 k2 k3 k4=>exact OKp.op (x:=some (.func (.func g) xs.toArray ys.toArray)) (fun n=>by rw[c6];simp only[k9,h1];rfl) (OKp.ret ⟨_,rfl,.fn _ l m xs ys k1 k2 k3 k4⟩)
   ·exact OKh.fail
  ·exact OKh.fail
 |binOp op t x y u=>
  simp only[sop];split
  ·rename_i v hv
   split
   ·rename_i w hw
    obtain⟨a,h1,h2⟩:=ev hv;obtain⟨b,h3,h4⟩:=ev hw;exact OKp.op (x:=G7 P op t a b) (fun n=>by rw[c6];simp only[k9,h1,h3]) (bx6 h2 h4)
   ·exact OKh.fail
  ·exact OKh.fail
 |unOp op t x=>
  simp only[sop];split
  ·rename_i v hv
   obtain⟨a,h1,h2⟩:=ev hv;exact OKp.op (x:=xun op a) (fun n=>by rw[c6];simp only[k9,h1]) (bH2 h2)
  ·exact OKh.fail
 |convert src dst x=>
  simp only[sop];split
  ·rename_i v hv
   obtain⟨a,h1,h2⟩:=ev hv;exact OKp.op (x:=ai2 P src dst a) (fun n=>by rw[c6];simp only[k9,h1]) (bx9 h2)
  ·exact OKh.fail
 |makeInterface t x=>
  simp only[sop];split
  ·rename_i v hv
   obtain⟨a,h1,h2⟩:=ev hv;exact OKp.op (x:=ak6 P t a) (fun n=>by rw[c6];simp only[k9,h1]) (OKp.opt fun c h=>bo9 h2 h)
  ·exact OKh.fail
 |makeFunc fn first captured=>
  simp only[sop];split
  ·rename_i fs hfs
   split
   ·rename_i cs hcs
    obtain⟨xs,h1,h2⟩:=ay1 ht hfs;obtain⟨ys,h3,h4⟩:=ay1 ht hcs;exact OKp.op (x:=some (.func fn xs.toArray ys.toArray)) (fun n=>by rw[c6];simp only[k9,h1,h3];rfl) (OKp.ret ⟨_,rfl,.fn fn fs cs xs ys h2.1 h2.2 h4.1 h4.2⟩)
   ·exact OKh.fail
  ·exact OKh.fail
 |makeSlice t l c=>
  simp only[sop];split
  ·rename_i v hv
   split
   ·rename_i w hw
    obtain⟨a,h1,h2⟩:=ev hv;obtain⟨b,h3,h4⟩:=ev hw;refine(aG4 h2 h4 hs).mono fun c τ' F' hp' _ _ ⟨n,e1,e2,e3⟩=>⟨_,EV.of fun m=>?_,e3⟩
    rw[c6];simp only[k9,xnw,h1,h3,e1,J8,e2]
   ·exact OKh.fail
  ·exact OKh.fail
 |slice t x lo hi mx=>
  simp only[sop];split
  ·rename_i v hv
   split
   ·rename_i l hl
    split
    ·rename_i h hh
     split
     ·rename_i m hm
      obtain⟨a,h1,h2⟩:=ev hv;obtain⟨l',h3,h4⟩:=aO3 ht hl;obtain⟨h',h5,h6⟩:=aO3 ht hh;obtain⟨m',h7,h8⟩:=aO3 ht hm;refine(bp6 h2 h4 h6 h8 hs).mono fun c τ' F' hp' _ _ ⟨e1,w,e2,e3⟩=>⟨w,EV.of fun n=>?_,e3⟩
      rw[c6,e1];simp only[k9,h1,h3,h5,h7,e2]
     ·exact OKh.fail
    ·exact OKh.fail
   ·exact OKh.fail
  ·exact OKh.fail
 |fieldAddr t x i=>
  simp only[sop];split
  ·rename_i v hv
   obtain⟨a,h1,h2⟩:=ev hv;exact OKp.op (x:=J6 P t a i) (fun n=>by rw[c6];simp only[k9,h1]) (OKp.opt fun c h=>aG2 h2 h)
  ·exact OKh.fail
 |field t x i=>
  simp only[sop];split
  ·rename_i v hv
   obtain⟨a,h1,h2⟩:=ev hv;exact OKp.op (x:=ak5 P t a i) (fun n=>by rw[c6];simp only[k9,h1]) (OKp.opt fun c h=>bo8 h2 h)
  ·exact OKh.fail
 |indexAddr t x i=>
  simp only[sop];split
  ·rename_i v hv
   split
   ·rename_i w hw
    obtain⟨a,h1,h2⟩:=ev hv;obtain⟨b,h3,h4⟩:=ev hw;exact OKp.op (x:=B9 P t a b) (fun n=>by rw[c6];simp only[k9,h1,h3]) (aG3 h2 h4)
   ·exact OKh.fail
  ·exact OKh.fail
 |index t x i=>
  simp only[sop];split
  ·rename_i v hv
   split
   ·rename_i w hw
    obtain⟨a,h1,h2⟩:=ev hv;obtain⟨b,h3,h4⟩:=ev hw;exact OKp.op (x:=af1 P t a b) (fun n=>by rw[c6];simp only[k9,h1,h3]) (bp0 h2 h4)
   ·exact OKh.fail
  ·exact OKh.fail
 |range t x=>
  simp only[sop];split
  ·rename_i v hv
   obtain⟨w,h1,h2⟩:=ev hv;refine(bp4 h2 hs).mono fun a τ' F' hp' _ _ ⟨n,e1,e2,e3⟩=>⟨_,EV.of fun m=>?_,e3⟩
   rw[c6];simp only[k9,xnw,h1,e1,J8,e2]
  ·exact OKh.fail
 |next it isS=>
  simp only[sop];split
  ·rename_i v hv
   obtain⟨w,h1,h2⟩:=ev hv;refine(by9 h2 hs).mono fun a τ' F' hp' _ _ ⟨u,e1,e2⟩=>⟨u,EV.of fun m=>?_,e2⟩
   rw[c6];simp only[k9,h1,e1]
  ·exact OKh.fail
 |extract x i=>
  simp only[sop];split
  ·rename_i v hv
   obtain⟨a,h1,h2⟩:=ev hv;exact OKp.op (x:=R7 a i) (fun n=>by rw[c6];simp only[k9,h1]) (OKp.opt fun c h=>aW0 h2 h)
  ·exact OKh.fail
 |call c=>
  simp only[sop];split
  ·rename_i l hl
   obtain⟨args,h1,h2⟩:=ay1 ht hl;obtain⟨callee,cargs,ats⟩:=c;have h1:ah4 tm cargs.toList=some args:=h1;cases callee with
   |builtin b=>
    simp only;unfold aV5;split
    ·rename_i t u a x hat
     obtain⟨v,vs,rfl,g1,g2⟩:=h2.uncons;obtain⟨w,ws,rfl,g3,g4⟩:=g2.uncons;have:ws=[]:=bI5 g4.1.symm;subst this;have hx:∀n,xop P (exec P ov n) tm hp (.call ⟨.builtin .append,cargs,ats⟩)=match B3 P hp t u v w with|some r=>some r|none=>R6 P hp t u v w:=fun n=>by
      rw[c6];simp only[k9,h1,hat,z9];rfl
     unfold bi2;split
     ·rename_i e e2 he he2
      split
      ·exact OKh.fail
      ·rename_i ie hie
       split
       ·exact OKh.fail
       ·rename_i z hz
        cases hq:Nat.beq z.cells.toList.length ie.size&&Nat.ble ie.bytes 1048576&&Nat.ble 1 ie.size with
        |false=>exact OKh.fail
        |true=>
         simp only[bJ6];rw[bI0]at hq;obtain⟨q1,q2⟩:=hq;have hsz:=bI3 q2;refine OKh.bindp (bj7 hsz g3 hs) fun src s1 o1 hs1 ⟨n,news,k1,k2,k3,k4⟩=>?_
         refine(bD7 hsz g1 k2 k3 k4 hs1).mono fun c τ' F' hp' _ _ ⟨y,k5,k6⟩=>⟨y,EV.of fun n=>?_,k6⟩
         rw[hx,be4 he he2 hie hz q1 k1,k5]
     ·exact OKh.fail
    ·rename_i t x hat
     obtain⟨v,vs,rfl,g1,g2⟩:=h2.uncons;have:vs=[]:=bI5 g2.1.symm;subst this;exact OKp.op (x:=U4 hp P t v) (fun n=>by rw[c6];simp only[k9,h1,hat,z9]) (bE1 g1)
    ·rename_i t x hat
     obtain⟨v,vs,rfl,g1,g2⟩:=h2.uncons;have:vs=[]:=bI5 g2.1.symm;subst this;exact OKp.op (x:=ao5 P t v) (fun n=>by rw[c6];simp only[k9,h1,hat,z9]) (bD9 g1)
    ·rename_i x xs
     obtain⟨v,vs,rfl,g1,g2⟩:=h2.uncons;exact OKp.op (x:=ab6 false v vs) (fun n=>by rw[c6];simp only[k9,h1,z9]) (aO1 g1 g2)
    ·rename_i x xs
     obtain⟨v,vs,rfl,g1,g2⟩:=h2.uncons;exact OKp.op (x:=ab6 true v vs) (fun n=>by rw[c6];simp only[k9,h1,z9]) (aO1 g1 g2)
    ·exact OKh.fail
   |value g=>
    simp only;split
    ·rename_i v hv
     obtain⟨w,h3,h4⟩:=ev hv;unfold bi6;split
     ·rename_i g' first captured
      split
      ·rename_i fn hfn
       cases hok:aq8 fn with
       |false=>exact OKh.fail
       |true=>
        simp only[bJ6];cases h4 with
        |fn _ _ _ xs ys k1 k2 k3 k4=>
         have hl:VDL P U τ F (first++l++captured) (xs++args++ys):=(VDL.append ⟨k1,k2⟩ h2).append ⟨k3,k4⟩
         refine(hcall.run g' _ _ τ F s hp hl hs).mono fun a τ' F' hp' _ _ ⟨y,e1,e2⟩=>⟨y,e1.mono fun n hn=>?_,e2⟩
         rw[c6];simp only[k9,h1,h3,aE1,hfn,hok,bJ6]
         simpa using hn
      ·exact OKh.fail
     ·rename_i ks vs gg nt ps as bo
      have h5:=h4;cases h4 with
      |yld _ _ _ _ _ _ _ i tms pr db hF hp0 k=>
       refine(hcall.round ks vs gg nt ps as bo l args τ F s hp i h5 h2 hs).mono fun a τ' F' hp' _ _ ⟨y,e1,e2⟩=>⟨y,e1.mono fun n hn=>?_,e2⟩
       rw[c6];simp only[k9,h1,h3,aE1];exact hn
     ·exact OKh.fail
    ·exact OKh.fail
   |invoke r m=>exact OKh.fail
  ·exact OKh.fail
 |_=>exact OKh.fail
end
end Go.Sx
namespace Go.Sx
open Go.Xe
def H5 (f:Fm)(dst:Option Tmp)(v:SV):Fm:=match dst with
 |some d=>(d,v)::f
 |none=>f
section
variable (P :Program)(U:Nat->List Dat->Dat)
def bn9 (f:Fm)(d:Tmp)(t:Bool):Fm:=match lk f d with
 |some (.bool e)=>(match e with
  | .bool _=>f
  |_=>(d,.bool (.bool t))::f)
 |_=>f
def P5 (all:List Oper)(f:Fm)(o:Oper)(t:Bool):Fm:=match o.guard with
 |some (j,want)=>match all[j]? with
  |some p=>match p.dst with
   |some d=>bn9 f d (t==want)
   |none=>f
  |none=>f
 |none=>f
def bc1 (f:Fm)(c:Operand)(t:Bool):Fm:=match c with
 | .tmp d=>bn9 f d t
 |_=>f
def ay3 (all:List Oper)(f:Fm)(o:Oper):M Bool:=
 match o.guard with
 |none=>c8 true
 |some (j,want)=>match all[j]? with
  |some p=>match p.dst with
   |some d=>match lk f d with
    |some (.bool e)=>a8 (ad7 U e) fun t=>c8 (t==want)
    |some (.tup [])=>c8 false
    |_=>a7 "guard"
   |none=>c8 false
  |none=>c8 false
def sone (call:D9)(nt:Nat)(all:List Oper)(o:Oper)(f:Fm):M Fm:=
 bif A4 nt o.dst then
  a8 (ay3 U all f o) fun t=>bif t then a8 (sop P U call (P5 all f o t) o.op) fun v=>c8 (H5 (P5 all f o t) o.dst v)else c8 (H5 (P5 all f o t) o.dst (.tup []))
 else a7 "slot"
def bz0 (call:D9)(nt:Nat)(all:List Oper):List Oper->Fm->M Fm
 | [],f=>c8 f
 |o::os,f=>a8 (sone P U call nt all o f) fun f'=>bz0 call nt all os f'
abbrev ac6:=List Oper->Fm->M Fm
abbrev ah7:=Nat->Code->(Fm->M (Exit×Fm))->Fm->Option (M (Exit×Fm))
def aB0 :Code->Option Code
 | .loop b=>some b
 |_=>none
def mkill :M Unit:=fun s=>.ret ((),{s with h:=(s.nx,none)::s.h,nx:=s.nx+1})
def aO4 (call : D9) (g : FuncId) (nt : Nat) (fo : Operand) (ps : Array Tmp) (as bo : Code) (f : Fm) : M (Exit × Fm) :=
 match j8 f fo with
 | some (.fn (.func it) first cap) => match P.funcs[it]? with
  | some fn => bif aq8 fn then
    a8 mkill fun _=>a8 (call.run it (first++ [.yld (f.map Prod.fst) (f.map Prod.snd) g nt ps.toList as bo]++cap)) fun _=>m9 fun s=>
     bif nyS s then c8 (.normal,f)else a7 "range: the yield function is kept"
   else a7 "range: no body"
  |none=>a7 "range: no function"
 |_=>a7 "range: value"
def G0 (call : D9) (dr : ac6) (lp : ah7) (g : FuncId) (rg : Bool) (nt : Nat) : Nat → Code → Fm → M (Exit × Fm)
 |0,_,_=>a7 "fuel"
 | m + 1, c, f => match c with
  | .skip=>c8 (.normal,f)
  | .label _=>c8 (.normal,f)
  | .region _ ops draw=>a8 (bif draw then dr ops.toList f else bz0 P U call nt ops.toList ops.toList f) fun f'=>c8 (.normal,f')
  | .seq x y=>a8 (G0 call dr lp g rg nt m x f) fun r=>match r.1 with
   | .normal=>G0 call dr lp g rg nt m y r.2
   |e=>c8 (e,r.2)
  | .cond c x y=>match j8 f c with
   |some (.bool e)=>a8 (ad7 U e) fun t=>bif t then G0 call dr lp g rg nt m x (bc1 f c t)else G0 call dr lp g rg nt m y (bc1 f c t)
   |_=>a7 "if"
  | .block id b => a8 (match aB0 b with
    |some lb=>match lp id lb (G0 call dr lp g rg nt m lb) f with
     |some r=>r
     |none=>G0 call dr lp g rg nt m b f
    |none=>G0 call dr lp g rg nt m b f) fun r=>match r.1 with
   | .exit j=>bif Nat.beq j id then c8 (.normal,r.2)else c8 (.exit j,r.2)
   |e=>c8 (e,r.2)
  | .loop b=>a8 (G0 call dr lp g rg nt m b f) fun r=>match r.1 with
   | .normal=>G0 call dr lp g rg nt m (.loop b) r.2
   |e=>c8 (e,r.2)
  | .exit id=>c8 (.exit id,f)
  | .ret=>c8 (.ret,f)
  | .scope b=>a8 (G0 call dr lp g rg nt m b f) fun r=>match r.1 with
   | .normal=>c8 (.normal,r.2)
   | .exit j=>c8 (.exit j,r.2)
   | .ret=>c8 (.ret,r.2)
   |_=>a7 "scope"
  | .rangeFunc fo ps as bo=>bif rg then aO4 P call g nt fo ps as bo f else a7 "a range in a range"
  |_=>a7 "code"
end
section
variable {P :Program}{U:Nat->List Dat->Dat}{ov:FuncId->Option TypeId}{nt:Nat}
theorem TD.mono {τ τ':Tau}{F F':Nat->Option Blk}(ht:Tle τ τ')(hf:Fle F F'){f:Fm}{tm:T Value}(h:TD P U τ F f tm):TD P U τ' F' f tm:=fun k a ha=>(h k a ha).mono ht hf
theorem TD.put {τ:Tau}{F:Nat->Option Blk}{f:Fm}{tm:T Value}(h:TD P U τ F f tm){a:SV}{v:Value}(ha:VD P U τ F a v)(dst:Option Tmp):TD P U τ F (H5 f dst a) (y8 tm dst v):=by
 cases dst with
 |none=>exact h
 |some d=>
  intro k b hb;simp only[H5,t8]at hb;simp only[y8,T.get_set]
  by_cases e:d=k
  ·grind
  ·rw[bJ9 e]at hb;rw[bJ9 (fun h=>e h.symm)];exact h k b hb
theorem aU7 (f:Fm)(dst:Option Tmp)(v:SV):∃pre,H5 f dst v=pre++f:=by
 cases dst with
 |none=>exact⟨[],rfl⟩
 |some d=>exact⟨[(d,v)],rfl⟩
theorem aD3 {τ:Tau}{F:Nat->Option Blk}{s:SS}{f:Fm}{tm:T Value}(h:TD P U τ F f tm)(all:List Oper)(o:Oper):OKp U (ay3 U all f o) s fun t=>n8 all tm o=t:=by
 unfold ay3 n8;split
 ·rename_i hg;simp only[hg];exact OKp.ret rfl
 ·rename_i j want hg
  simp only[hg];unfold aa9;split
  ·rename_i p hp
   simp only[hp];split
   ·rename_i d hd
    simp only[hd];split
    ·rename_i e he
     have hv:=h d _ he;refine OKp.test.bind fun t _ _ _ ht=>OKp.ret ?_
     generalize hx:(tm.get d).getD undef=x at hv;cases hv;cases hg:tm.get d with
     |none=>rw[hg]at hx;simp[undef]at hx
     |some y=>grind
    ·rename_i he
     have hv:=h d _ he;generalize hx:(tm.get d).getD undef=x at hv;cases hv;refine OKp.ret ?_
     grind
    ·exact OKp.fail
   ·rename_i hd;simp only[hd];exact OKp.ret rfl
  ·rename_i hp;simp only[hp];exact OKp.ret rfl
theorem bi0 {τ:Tau}{F:Nat->Option Blk}{f:Fm}{tm:T Value}(h:TD P U τ F f tm){d:Tmp}{t:Bool}(ht:∀b,tm.get d=some (.bool b)->b=t):TD P U τ F (bn9 f d t) tm:=by
 unfold bn9;split
 ·rename_i e he
  split
  ·exact h
  ·intro k a ha
   rw[t8]at ha;split at ha
   ·rename_i e'
    subst e';cases ha;have hv:=h d _ he;generalize hx:(tm.get d).getD undef=x at hv⊢;cases hv;cases hg:tm.get d with
    |none=>rw[hg]at hx;cases hx
    |some y=>rw[hg]at hx;cases hx;rw[ht _ hg];exact .bool (.bool t)
   ·exact h k a ha
 ·exact h
theorem aV1 (f:Fm)(d:Tmp)(t:Bool):∃pre,bn9 f d t=pre++f:=by
 unfold bn9;split
 ·split
  ·simp_all
  ·exact⟨[_],rfl⟩
 ·simp_all
theorem bh9 {τ:Tau}{F:Nat->Option Blk}{f:Fm}{tm:T Value}(h:TD P U τ F f tm){all:List Oper}{o:Oper}{t:Bool}(hw:n8 all tm o=t):TD P U τ F (P5 all f o t) tm:=by
 unfold P5;unfold n8 aa9 at hw;split
 ·rename_i j want hg
  split
  ·rename_i p hp
   split
   ·rename_i d hd
    refine bi0 h fun b hb=>?_
    simp only[hg,hp,hd,hb]at hw;subst hw
    simp_all
   ·exact h
  ·exact h
 ·exact h
theorem bD4 {τ:Tau}{F:Nat->Option Blk}{f:Fm}{tm:T Value}(h:TD P U τ F f tm){c:Operand}{t b:Bool}(hc:a9 tm c=some (.bool b))(hb:b=t):TD P U τ F (bc1 f c t) tm:=by
 unfold bc1;split
 ·rename_i d
  refine bi0 h fun b' hb'=>?_
  have hc:some ((tm.get d).getD undef)=_:=hc
  grind
 ·exact h
theorem bx0 (f:Fm)(c:Operand)(t:Bool):∃pre,bc1 f c t=pre++f:=by
 unfold bc1;split
 ·exact aV1 _ _ _
 ·simp_all
theorem aV0 (all:List Oper)(f:Fm)(o:Oper)(t:Bool):∃pre,P5 all f o t=pre++f:=by
 unfold P5;repeat' split
 ·exact aV1 _ _ _
 all_goals exact⟨[],rfl⟩
variable (P ov) in
def XOps (nt:Nat)(all l:List Oper)(tm:T Value)(hp:Hp)(tm':T Value)(hp':Hp):Prop:=EV fun n=>aF4 P (exec P ov n) nt all l tm hp=some (tm',hp')
theorem bj5 {call : D9} (hcall : B5 P U ov call) {all : List Oper} : ∀ {l : List Oper} {τ : Tau} {F : Nat → Option Blk} {s : SS} {hp : Hp} {f : Fm} {tm : T Value}, TD P U τ F f tm → SD P U τ F s hp →
  OKh P U (bz0 P U call nt all l f) τ F s hp fun f' τ' F' hp'=>∃tm',XOps P ov nt all l tm hp tm' hp'/\TD P U τ' F' f' tm'/\ ∃pre,f'=pre++f
 | [],τ,F,s,hp,f,tm,ht,hs=>OKh.ret ⟨tm,EV.of fun n=>aF5,ht,[],rfl⟩
 | o :: l, τ, F, s, hp, f, tm, ht, hs => by
  unfold bz0 sone;cases hd:A4 nt o.dst with
  |false=>exact OKh.fail.bind (R:=fun _ _ _ _=>False) fun _ _ _ _ _ _ _ h=>h.elim
  | true =>
   simp only [bJ6];have step : ∀ {f0 : Fm} {a : SV} {v : Value} {τ1 : Tau} {F1 : Nat → Option Blk} {s1 : SS} {hp1 : Hp}, TD P U τ1 F1 f0 tm → (∃ pre, f0 = pre ++ f) → SD P U τ1 F1 s1 hp1 → VD P U τ1 F1 a v →
     OKh P U (bz0 P U call nt all l (H5 f0 o.dst a)) τ1 F1 s1 hp1 fun f' τ' F' hp'=>∃tm',XOps P ov nt all l (y8 tm o.dst v) hp1 tm' hp'/\TD P U τ' F' f' tm'/\ ∃pre,f'=pre++f:=by
    intro f0 a v τ1 F1 s1 hp1 h1 ⟨p0,h0⟩ h2 h3;refine(bj5 hcall (h1.put h3 o.dst) h2).mono fun f' τ' F' hp' _ _ ⟨tm',e1,e2,pre,e3⟩=>?_
    obtain⟨p,hp⟩:=aU7 f0 o.dst a
    grind
   refine OKh.bind (R:=fun f' τ' F' hp'=>∃f0 a v,f'=H5 f0 o.dst a/\TD P U τ' F' f0 tm/\(∃pre,f0=pre++f)/\VD P U τ' F' a v/\((n8 all tm o=true/\XOp P ov o.op tm hp v hp')\/(n8 all tm o=false/\v=undef/\hp'=hp))) ?_ ?_
   ·refine OKh.bindp (aD3 ht all o) fun t s1 o1 hs1 hw=>?_
    have ht:=bh9 ht hw;have hpr:=aV0 all f o t;cases t with
    |true=>
     simp only[bJ6];refine(aO2 hcall ht hs1 o.op).bind fun a τ1 F1 s2 hp1 ex hs2 ⟨v,h1,h2⟩=>OKh.ret ⟨_,a,v,rfl,ht.mono ex.t ex.f,hpr,h2,.inl ⟨hw,h1⟩⟩
    |false=>
     simp only[bJ7];exact OKh.ret ⟨_,.tup [],undef,rfl,ht,hpr,.tup [] [] rfl (fun i a x h _=>by simp at h),.inr ⟨hw,rfl,rfl⟩⟩
   ·intro f' τ1 F1 s1 hp1 ex hs1 ⟨f0,a,v,e1,ht,hpr,h1,h2⟩
    subst e1;refine(step ht hpr hs1 h1).mono fun f'' τ' F' hp' _ _ ⟨tm',e1,e2,e3⟩=>⟨tm',?_,e2,e3⟩
    rcases h2 with⟨hw,hx⟩| ⟨hw,hv,hh⟩
    ·exact(hx.and e1).mono fun n ⟨k1,k2⟩=>by rw[Q2,hd,bJ6,hw,bJ6,k1];exact k2
    ·subst hv;subst hh
     exact e1.mono fun n k=>by rw[Q2,hd,bJ6,hw,bJ7];exact k
variable {ar :Option Nat}
variable (P ov) in
def XC (ar:Option Nat)(nt:Nat)(c:Code)(tm:T Value)(hp:Hp)(e:Exit)(tm':T Value)(hp':Hp):Prop:=
 ∃rs:List Nat,(rs.Nodup/\ ∀r∈rs,hp.nx<=r/\r<hp'.nx/\hp'.m.get r=some .dfr)/\
  ∃n0,∀n m ds,n0<=n->n0<=m->i9 P (u7 P) (exec P ov n) nt ar m c tm hp ds=some (.mk e tm' hp' (rs.map Df.mark++ds))
theorem XC.of0 {c:Code}{tm:T Value}{hp:Hp}{e:Exit}{tm':T Value}{hp':Hp}(h:∃n0,∀n m ds,n0<=n->n0<=m->i9 P (u7 P) (exec P ov n) nt ar (m+1) c tm hp ds=some (.mk e tm' hp' ds)):XC P ov ar nt c tm hp e tm' hp':=by
 obtain⟨n0,h⟩:=h;refine⟨[],⟨List.nodup_nil,fun r hr=>by simp at hr⟩,n0+1,fun n m ds hn hm=>?_⟩
 obtain⟨m,rfl⟩:∃k,m=k+1:=⟨m-1,by omega⟩
 grind
theorem XC.map {c c' : Code} {tm tm1 tm' : T Value} {hp hp1 : Hp} {e e' : Exit} (h : XC P ov ar nt c tm hp e tm1 hp1)
  (k:∀n m ds ds',i9 P (u7 P) (exec P ov n) nt ar m c tm hp ds=some (.mk e tm1 hp1 ds')->i9 P (u7 P) (exec P ov n) nt ar (m+1) c' tm hp ds=some (.mk e' tm' hp1 ds')):XC P ov ar nt c' tm hp e' tm' hp1:=by
 obtain⟨rs,h1,n0,h2⟩:=h;refine⟨rs,h1,n0+1,fun n m ds hn hm=>?_⟩
 obtain⟨m,rfl⟩:∃k,m=k+1:=⟨m-1,by omega⟩
 grind
theorem XC.comp {c c1 c2 : Code} {tm tm1 tm' : T Value} {hp hp1 hp' : Hp} {e : Exit} (h1 : XC P ov ar nt c1 tm hp .normal tm1 hp1) (h2 : XC P ov ar nt c2 tm1 hp1 e tm' hp') (hn1 : hp.nx ≤ hp1.nx) (hn2 : hp1.nx ≤ hp'.nx)
  (hk:∀r,r<hp1.nx->hp1.m.get r=some .dfr->hp'.m.get r=some .dfr)
  (k:∀n m ds ds1 ds2,i9 P (u7 P) (exec P ov n) nt ar m c1 tm hp ds=some (.mk .normal tm1 hp1 ds1)->i9 P (u7 P) (exec P ov n) nt ar m c2 tm1 hp1 ds1=some (.mk e tm' hp' ds2)->i9 P (u7 P) (exec P ov n) nt ar (m+1) c tm hp ds=some (.mk e tm' hp' ds2)):XC P ov ar nt c tm hp e tm' hp':=by
 obtain⟨rs1,⟨a1,a2⟩,n1,a3⟩:=h1;obtain⟨rs2,⟨b1,b2⟩,n2,b3⟩:=h2;refine⟨rs2++rs1,⟨List.nodup_append.2 ⟨b1,a1,fun r hr q hq e=>?_⟩,fun r hr=>?_⟩,n1+n2+1,fun n m ds hn hm=>?_⟩
 ·grind
 ·grind
 ·obtain⟨m,rfl⟩:∃k,m=k+1:=⟨m-1,by omega⟩
  rw[bM6,bJ3];exact k n m ds _ _ (a3 n m ds (by omega) (by omega)) (b3 n m _ (by omega) (by omega))
theorem OKh.monoE {α:Type}{m:M α}{τ:Tau}{F:Nat->Option Blk}{s:SS}{hp:Hp}{R R':α->Tau->(Nat->Option Blk)->Hp->Prop}(h:OKh P U m τ F s hp R)(hr:∀a τ' F' s' hp',Ext τ F s hp τ' F' s' hp'->R a τ' F' hp'->R' a τ' F' hp'):OKh P U m τ F s hp R':=by
 intro Q hq hs;obtain⟨a,s',h1,τ',F',hp',h2,h3,h4⟩:=h Q hq hs
 grind
variable (P U ov) in
def ac4 (ar:Option Nat)(nt:Nat)(m:M (Exit×Fm))(c:Code)(f:Fm):Prop:=∀τ F s hp tm,TD P U τ F f tm->SD P U τ F s hp->
 OKh P U m τ F s hp fun r τ' F' hp'=>∃tm',XC P ov ar nt c tm hp r.1 tm' hp'/\TD P U τ' F' r.2 tm'/\ ∃pre,r.2=pre++f
variable (P U ov) in
def V7 (nt:Nat)(dr:ac6):Prop:=∀ops f τ F s hp tm,TD P U τ F f tm->SD P U τ F s hp->
 OKh P U (dr ops f) τ F s hp fun f' τ' F' hp'=>∃tm',(EV fun n=>u7 P (exec P ov n) nt ops tm hp=some (tm',hp'))/\TD P U τ' F' f' tm'/\ ∃pre,f'=pre++f
variable (P U ov) in
def V8 (ar:Option Nat)(nt:Nat)(lp:ah7):Prop:=∀id b body f r,(∀f',ac4 P U ov ar nt (body f') b f')->lp id b body f=some r->ac4 P U ov ar nt r (.loop b) f
theorem bv5 {τ:Tau}{F:Nat->Option Blk}{s:SS}{hp:Hp}(hs:SD P U τ F s hp):SD P U τ F {s with h:=(s.nx,none)::s.h,nx:=s.nx+1} hp:=by
 have hg:∀b x,SS.get {s with h:=(s.nx,none)::s.h,nx:=s.nx+1} b=some x->s.get b=some x:=by
  intro b x hb;unfold SS.get at hb⊢;rw[t8]at hb
  grind
 exact⟨fun b x hb=>hs.live b x (hg b x hb),fun b c x y i o j q hb hc=>hs.inj b c x y i o j q (hg b x hb) (hg c y hc),hs.frz,hs.lt,hs.flt,fun b hb=>hs.new b (bN7 (bP4 _) hb),hs.fc,hs.fz⟩
theorem aw3 :∀(f:Fm),(f.map Prod.fst).zip (f.map Prod.snd)=f
 | []=>rfl
 |a::f=>by simp[aw3 f]
theorem bd6 {call:D9}(hcall:B5 P U ov call)(g:FuncId)(fo:Operand)(ps:Array Tmp)(as bo:Code)(f:Fm):ac4 P U ov none nt (aO4 P call g nt fo ps as bo f) (.rangeFunc fo ps as bo) f:=by
 intro τ F s hp tm ht hs;unfold aO4;split
 ·rename_i it first cap hev
  obtain⟨v,hv1,hv2⟩:=A6 ht hev;split
  ·rename_i fn hfn
   cases hok:aq8 fn with
   |false=>exact OKh.fail
   |true=>
    rw[bJ6];cases hv2 with
    |fn _ _ _ xs ys k1 k2 k3 k4=>
    intro Q hq _
    let i:=hp.nx+1
    let R:Blk:= .loop .ready none nt tm ps as bo hp.nx
    let F1:Nat->Option Blk:=fun j=>if j=i then some R else F j
    let hp1:Hp:=⟨(hp.m.set hp.nx (some .dfr)).set (hp.nx+1) (some R),hp.nx+2⟩
    let s1:SS:= {s with h:=(s.nx,none)::s.h,nx:=s.nx+1}
    have hlow:∀j,j<hp.nx->hp1.m.get j=hp.m.get j:=fun j hj=>by
     show((hp.m.set hp.nx (some .dfr)).set (hp.nx+1) (some R)).get j=_;rw[T.get_set,bJ9 (by omega),T.get_set,bJ9 (by omega)]
    have hFi:F i=none:=by
     cases hc:F i with
     |none=>rfl
     |some y=>have:=hs.flt i y hc;exact absurd this (by show¬hp.nx+1<hp.nx;omega)
    have fle:Fle F F1:=fun j y hj=>by
     grind
    have hs0:=bv5 hs;have hR:hp1.m.get i=some R:=by
     show((hp.m.set hp.nx (some .dfr)).set (hp.nx+1) (some R)).get (hp.nx+1)=_;rw[T.get_set,bK1 rfl]
    have hD:hp1.m.get hp.nx=some .dfr:=by
     show((hp.m.set hp.nx (some .dfr)).set (hp.nx+1) (some R)).get hp.nx=_;rw[T.get_set,bJ9 (by omega),T.get_set,bK1 rfl]
    have hs1:SD P U τ F1 s1 hp1:=by
     refine hs0.sub true (fun j y hj _=>fle j y hj) (.inl rfl) (by show hp.nx<=hp.nx+2;omega) (fun b x j o hb hj=>?_) (fun j y hj=>?_)
     ·have hlt:=hs0.lt b j o hj
      refine⟨hlow j hlt,?_⟩;show(if j=i then some R else F j)=none
      rw[bJ9 (by show¬j=hp.nx+1;omega)]
      rcases hs0.live b x hb with⟨i',o',y',h1,h2,h3,h4⟩| ⟨h1,_⟩
      ·grind
      ·grind
     ·have hj:(if j=i then some R else F j)=some y:=hj
      by_cases e:j=i
      ·grind
      ·rw[bJ9 e]at hj
       have:=hs.flt j y hj;exact⟨by rw[hlow j this];exact hs.frz j y hj,by show j<hp.nx+2;omega⟩
    have ex1:Ext τ F s hp τ F1 s1 hp1:=by
     refine⟨Tle.refl τ,fle,by show hp.nx<=hp.nx+2;omega,bP4 _,fun _ _=>rfl,fun b x hb hlt=>?_,⟨[(s.nx,none)],rfl,fun j hj _=>hlow j hj,fun b j o hb hj=>?_,fun j y hj hy=>?_,fun hno=>absurd rfl (hno (s.nx,none) (by simp))⟩,⟨[],rfl⟩⟩
     ·have hb:(match lk ((s.nx,none)::s.h) b with|some x=>x|none=>none)=some x:=hb
      rw[t8,bJ9 (by omega)]at hb
      exact⟨x,hb⟩
     ·rw[hs.new b hb]at hj;cases hj
     ·grind
    have hvd:VD P U τ F1 (.yld (f.map Prod.fst) (f.map Prod.snd) g nt ps.toList as bo) (.chan (some i)):=by
     refine .yld _ _ g nt _ as bo i tm ps hp.nx ?_ rfl fun k a ha=>?_
     ·grind
     ·rw[aw3]at ha
      exact(ht k a ha).mono (Tle.refl τ) fle
    have hargs:VDL P U τ F1 (first++ [.yld (f.map Prod.fst) (f.map Prod.snd) g nt ps.toList as bo]++cap) (xs++ [.chan (some i)]++ys):=
     (VDL.append (VDL.append (VDL.mono (Tle.refl τ) fle ⟨k1,k2⟩) (VDL.cons hvd VDL.nil)) (VDL.mono (Tle.refl τ) fle ⟨k3,k4⟩))
    have hq:((a8 (call.run it (first++ [.yld (f.map Prod.fst) (f.map Prod.snd) g nt ps.toList as bo]++cap)) fun _=>m9 fun s=>bif nyS s then c8 (.normal,f)else a7 "range: the yield function is kept") s1).vc U Q:=hq
    rw[show∀(m:M SV) (k:SV->M (Exit×Fm)) (s:SS),a8 m k s=(m s).bind fun x=>k x.1 x.2 from fun _ _ _=>rfl,Tr.vc_bind]at hq
    obtain⟨a,s2,hq,τ2,F2,hp2,ex2,hs2,w,⟨n0,hx⟩,_⟩:=hcall.run it _ _ τ F1 s1 hp1 hargs hs1 _ hq hs1;simp only[m9]at hq;cases hny:nyS s2 with
    |false=>rw[hny]at hq;exact hq.elim
    |true=>
     rw[hny,bJ6]at hq;have hF2:F2 i=some R:=ex2.f i R (by show(if i=i then some R else F i)=some R;rw[bK1 rfl])
     have hR2:hp2.m.get i=some R:=hs2.frz i R hF2;have hD2:hp2.m.get hp.nx=some .dfr:=ex2.dfr hs1 (by show hp.nx<hp.nx+2;omega) hD (.inl rfl)
     have hnx2:hp.nx+2<=hp2.nx:=ex2.nx
     let F3:Nat->Option Blk:=fun j=>if j=i then none else F2 j
     let hp3:Hp:= {hp2 with m:=hp2.m.set i none}
     have g3:∀j,j≠i->hp3.m.get j=hp2.m.get j:=fun j hj=>by
      show(hp2.m.set i none).get j=_;rw[T.get_set,bJ9 hj]
     have hs3:SD P U τ2 F3 s2 hp3:=by
      refine hs2.sub false (fun j y hj h=>?_) (.inr hny) (bK2 _) (fun b x j o hb hj=>?_) (fun j y hj=>?_)
      ·show(if j=i then none else F2 j)=some y
       rw[bJ9 ?_]
       ·exact hj
       ·rintro rfl
        rw[hF2]at hj;cases hj
        rcases h with h| ⟨h,_⟩
        ·cases h
        ·cases h
      ·rcases hs2.live b x hb with⟨i',o',y',h1,h2,h3,h4⟩| ⟨h1,_⟩
       ·grind
       ·grind
      ·have hj:(if j=i then none else F2 j)=some y:=hj
       by_cases e:j=i
       ·grind
       ·rw[bJ9 e]at hj
        exact⟨by rw[g3 j e];exact hs2.frz j y hj,hs2.flt j y hj⟩
     have flt3:Fle F F3:=fun j y hj=>by
      have hlt:=hs.flt j y hj;show(if j=i then none else F2 j)=some y
      rw[bJ9 (by show¬j=hp.nx+1;omega)]
      exact ex2.f j y (fle j y hj)
     have ex3:Ext τ F s hp τ2 F3 s2 hp3:=by
      refine(ex1.trans ex2).shrink (bK2 _) (fun j hj=>g3 j (by show¬j=hp.nx+1;omega)) (fun j y hj=>?_) flt3
      grind
     refine⟨(.normal,f),s2,hq,τ2,F3,hp3,ex3,hs3,tm,?_,ht.mono ex3.t ex3.f,[],rfl⟩;refine⟨[hp.nx],⟨by simp,fun r hr=>?_⟩,n0+1,fun n m ds hn hm=>?_⟩
     ·grind
     ·obtain⟨m,rfl⟩:∃k,m=k+1:=⟨m-1,by omega⟩
      have hx1:=hx n (by omega)
      simp only[i9,aa7,hv1,hfn,hok,bJ6];have hx2:(exec P ov n).run it (xs++ [Value.chan (some (hp.nx+1))]++ys) ⟨(hp.m.set hp.nx (some .dfr)).set (hp.nx+1) (some (.loop .ready none nt tm ps as bo hp.nx)),hp.nx+2⟩=some (w,hp2):=hx1;rw[hx2];have hR3:hp2.m.get (hp.nx+1)=some (.loop .ready none nt tm ps as bo hp.nx):=hR2;simp only[aF6,hR3];rfl
  ·exact OKh.fail
 ·exact OKh.fail
theorem an5 {call:D9}(hcall:B5 P U ov call){dr:ac6}(hdr:V7 P U ov nt dr){lp:ah7}(hlp:V8 P U ov ar nt lp)(g:FuncId)(rg:Bool)(hrg:rg=true->ar=none):∀(m:Nat) (c:Code) (f:Fm),ac4 P U ov ar nt (G0 P U call dr lp g rg nt m c f) c f
 |0,c,f=>fun τ F s hp tm ht hs=>OKh.fail
 |m+1,c,f=>by
  have ih:=an5 hcall hdr hlp g rg hrg m;cases c with
  |rangeFunc fo ps as bo=>
   intro τ F s hp tm ht hs;simp only[G0];cases hb:rg with
   |false=>exact OKh.fail
   |true=>
    have:=hrg hb;subst this;exact bd6 hcall g fo ps as bo f τ F s hp tm ht hs
  |skip=>exact fun τ F s hp tm ht hs=>OKh.ret ⟨tm,XC.of0 ⟨0,fun n m ds _ _=>rfl⟩,ht,[],rfl⟩
  |label l=>exact fun τ F s hp tm ht hs=>OKh.ret ⟨tm,XC.of0 ⟨0,fun n m ds _ _=>rfl⟩,ht,[],rfl⟩
  |exit id=>exact fun τ F s hp tm ht hs=>OKh.ret ⟨tm,XC.of0 ⟨0,fun n m ds _ _=>rfl⟩,ht,[],rfl⟩
  |ret=>exact fun τ F s hp tm ht hs=>OKh.ret ⟨tm,XC.of0 ⟨0,fun n m ds _ _=>rfl⟩,ht,[],rfl⟩
  |region id ops draw=>
   intro τ F s hp tm ht hs;simp only[G0];cases draw with
   |true=>
    simp only[bJ6];refine(hdr ops.toList f τ F s hp tm ht hs).bind fun f' τ' F' s' hp' _ _ ⟨tm',⟨n0,e1⟩,e2,e3⟩=>OKh.ret ⟨tm',XC.of0 ⟨n0,fun n m ds hn _=>?_⟩,e2,e3⟩
    simp only[i9,bJ6,e1 n hn]
   |false=>
    simp only[bJ7];refine(bj5 hcall ht hs).bind fun f' τ' F' s' hp' _ _ ⟨tm',⟨n0,e1⟩,e2,e3⟩=>OKh.ret ⟨tm',XC.of0 ⟨n0,fun n m ds hn _=>?_⟩,e2,e3⟩
    simp only[i9,bJ7,e1 n hn]
  |seq x y=>
   intro τ F s hp tm ht hs;simp only[G0];refine(ih x f τ F s hp tm ht hs).bind fun r τ1 F1 s1 hp1 ex hs1 ⟨tm1,hx,e2,pre,e3⟩=>?_
   have out:∀e,r.1=e->e≠ .normal->OKh P U (c8 (e,r.2)) τ1 F1 s1 hp1 fun r τ' F' hp'=>∃tm',XC P ov ar nt (.seq x y) tm hp r.1 tm' hp'/\TD P U τ' F' r.2 tm'/\ ∃pre,r.2=pre++f:=by
    intro e he hne;refine OKh.ret ⟨tm1,hx.map fun n m ds ds' hk=>?_,e2,pre,e3⟩
    rw[he]at hk;simp only[i9,hk]
    grind
   split
   ·rename_i hr
    refine(ih y r.2 τ1 F1 s1 hp1 tm1 e2 hs1).monoE fun r' τ' F' s' hp' ex' ⟨tm',hy,k2,p2,k3⟩=>⟨tm',?_,k2,p2++pre,by rw[k3,e3,bJ3]⟩
    rw[hr]at hx;refine hx.comp hy ex.nx ex'.nx (fun r hlt hg=>ex'.dfr hs1 hlt hg (.inl rfl)) fun n m ds ds1 ds2 q1 q2=>?_
    simp only[i9,q1];exact q2
   ·grind
  |cond c x y=>
   intro τ F s hp tm ht hs;simp only[G0];split
   ·rename_i e he
    obtain⟨v,h1,h2⟩:=A6 ht he;cases h2;refine OKh.bindp OKp.test fun t s1 _ hs1 htt=>?_
    have ht:=bD4 ht h1 htt;obtain⟨p0,hp0⟩:=bx0 f c t;have app:∀ {r:Fm},(∃pre,r=pre++bc1 f c t)-> ∃pre,r=pre++f:=fun⟨p,h⟩=>⟨p++p0,by rw[h,hp0,bJ3]⟩
    cases t with
    |true=>
     simp only[bJ6];refine(ih x _ τ F s1 hp tm ht hs1).mono fun r τ' F' hp' _ _ ⟨tm',hx,e2,e3⟩=>⟨tm',hx.map fun n m ds ds' hk=>?_,e2,app e3⟩
     simp only[i9,h1,htt];exact hk
    |false=>
     simp only[bJ7];refine(ih y _ τ F s1 hp tm ht hs1).mono fun r τ' F' hp' _ _ ⟨tm',hx,e2,e3⟩=>⟨tm',hx.map fun n m ds ds' hk=>?_,e2,app e3⟩
     simp only[i9,h1,htt];exact hk
   ·exact OKh.fail
  |block id b=>
   intro τ F s hp tm ht hs;simp only[G0];have inner:ac4 P U ov ar nt (match aB0 b with
    |some lb=>match lp id lb (G0 P U call dr lp g rg nt m lb) f with
     |some r=>r
     |none=>G0 P U call dr lp g rg nt m b f
    |none=>G0 P U call dr lp g rg nt m b f) b f:=by
    split
    ·rename_i lb hlb
     have hb:b= .loop lb:=by
      unfold aB0 at hlb
      grind
     subst hb;split
     ·rename_i r hr
      exact hlp id lb _ f r (fun f'=>ih lb f') hr
     ·grind
    ·grind
   refine(inner τ F s hp tm ht hs).bind fun r τ1 F1 s1 hp1 ex hs1 ⟨tm1,hx,e2,e3⟩=>?_
   split
   ·rename_i j hr
    cases hb:Nat.beq j id with
    |true=>
     simp only[bJ6];refine OKh.ret ⟨tm1,hx.map fun n m ds ds' hk=>?_,e2,e3⟩
     rw[hr]at hk;simp only[i9,hk,hb,bJ6]
    |false=>
     simp only[bJ7];refine OKh.ret ⟨tm1,hx.map fun n m ds ds' hk=>?_,e2,e3⟩
     rw[hr]at hk;simp only[i9,hk,hb,bJ7]
   ·rename_i hne
    refine OKh.ret ⟨tm1,hx.map fun n m ds ds' hk=>?_,e2,e3⟩
    simp only[i9,hk]
    grind
  |loop b=>
   intro τ F s hp tm ht hs;simp only[G0];refine(ih b f τ F s hp tm ht hs).bind fun r τ1 F1 s1 hp1 ex hs1 ⟨tm1,hx,e2,pre,e3⟩=>?_
   split
   ·rename_i hr
    refine(ih (.loop b) r.2 τ1 F1 s1 hp1 tm1 e2 hs1).monoE fun r' τ' F' s' hp' ex' ⟨tm',hy,k2,p2,k3⟩=>⟨tm',?_,k2,p2++pre,by rw[k3,e3,bJ3]⟩
    rw[hr]at hx;refine hx.comp hy ex.nx ex'.nx (fun r hlt hg=>ex'.dfr hs1 hlt hg (.inl rfl)) fun n m ds ds1 ds2 q1 q2=>?_
    simp only[i9,q1];exact q2
   ·rename_i hne
    refine OKh.ret ⟨tm1,hx.map fun n m ds ds' hk=>?_,e2,pre,e3⟩
    simp only[i9,hk]
    grind
  |scope b=>
   intro τ F s hp tm ht hs;simp only[G0];refine(ih b f τ F s hp tm ht hs).bind fun r τ1 F1 s1 hp1 ex hs1 ⟨tm1,hx,e2,e3⟩=>?_
   split
   ·rename_i hr
    refine OKh.ret ⟨tm1,hx.map fun n m ds ds' hk=>?_,e2,e3⟩
    rw[hr]at hk;simp only[i9,hk]
   ·rename_i j hr
    refine OKh.ret ⟨tm1,hx.map fun n m ds ds' hk=>?_,e2,e3⟩
    rw[hr]at hk;simp only[i9,hk]
   ·rename_i hr
    refine OKh.ret ⟨tm1,hx.map fun n m ds ds' hk=>?_,e2,e3⟩
    rw[hr]at hk;simp only[i9,hk]
   ·exact OKh.fail
  |_=>exact fun τ F s hp tm ht hs=>OKh.fail
end
end Go.Sx
namespace Go.Sx
open Go.Xe
def ai8 :Nat->List SV->Fm
 |_,[]=>[]
 |k,a::l=>(k,a)::ai8 (k+1) l
section
variable (P :Program)(U:Nat->List Dat->Dat)
def bj6 (f:Fm):ResultVar->M SV
 | .tmp t=>c8 ((lk f t).getD .any)
 | .cell a t=>bj4 P U t ((lk f a).getD .any)
def R5 (f:Fm):List ResultVar->M (List SV)
 | []=>c8 []
 |r::rs=>a8 (bj6 P U f r) fun v=>a8 (R5 f rs) fun vs=>c8 (v::vs)
def aK3 :List SV->SV
 | [v]=>v
 |vs=>.tup vs
def sfun (call:D9)(dr:Nat->ac6)(lp:FuncId->Nat->ah7)(m:Nat)(g:FuncId)(args:List SV):M SV:=
 match P.funcs[g]? with
 |some fn=>match fn.body with
  |some c=>a8 (G0 P U call (dr (args.length+(fn.ntmps-args.length))) (lp g (args.length+(fn.ntmps-args.length))) g true (args.length+(fn.ntmps-args.length)) m c (ai8 0 args)) fun r=>match r.1 with
   | .normal=>a8 (R5 P U r.2 fn.results.toList) fun vs=>c8 (aK3 vs)
   | .ret=>a8 (R5 P U r.2 fn.results.toList) fun vs=>c8 (aK3 vs)
   |_=>a7 "end of a call"
  |none=>a7 "no body"
 |none=>a7 "no function"
def bw9 (f:Fm):List Nat->List SV->Fm
 |t::ts,v::vs=>bw9 ((t,v)::f) ts vs
 |_,_=>f
def bd7 (call : D9) (dr : Nat → ac6) (lp : FuncId → Nat → ah7) (m : Nat) (ks : List Nat) (vs : List SV) (g : FuncId) (nt : Nat) (ps : List Nat) (as bo : Code) (args : List SV) : M SV :=
 bif Nat.beq ps.length args.length && at9 nt ps then
  a8 (G0 P U call (dr nt) (lp g nt) g false nt m as (bw9 (ks.zip vs) ps args)) fun r => match r.1 with
   | .normal => m9 fun s => bif nyS s && noYs (r.2.map Prod.snd) then
     a8 (G0 P U call (dr nt) (lp g nt) g false nt m bo r.2) fun q=>match q.1 with
      | .normal=>m9 fun s'=>bif nyS s' then c8 (.bool (.bool true))else a7 "round: the yield function is kept"
      |_=>a7 "round: a jump out of it"
    else a7 "round: a yield function is kept"
   |_=>a7 "round: what is yielded"
 else a7 "round: places"
def P6 (dr:D9->Nat->ac6)(lp:D9->FuncId->Nat->ah7)(con:FuncId->Option (List SV->M SV)):Nat->D9
 |0=>⟨fun _ _=>a7 "depth of calls",fun _ _ _ _ _ _ _ _=>a7 "depth of rounds"⟩
 |n+1=>⟨fun g args=>match con g with
  |some k=>k args
  |none=>sfun P U (P6 dr lp con n) (dr (P6 dr lp con n)) (lp (P6 dr lp con n)) n g args,
  fun ks vs g nt ps as bo args=>bd7 P U (P6 dr lp con n) (dr (P6 dr lp con n)) (lp (P6 dr lp con n)) n ks vs g nt ps as bo args⟩
end
section
variable {P :Program}{U:Nat->List Dat->Dat}{ov:FuncId->Option TypeId}
variable (P U ov) in
def B7 (k:List SV->M SV)(g:FuncId):Prop:=∀l args τ F s hp,VDL P U τ F l args->SD P U τ F s hp->OKh P U (k l) τ F s hp fun a τ' F' hp'=>∃v,aL7 P ov g args hp v hp'/\VD P U τ' F' a v
theorem aI6 :∀(l:List SV) (k j:Nat) (a:SV),lk (ai8 k l) j=some a->k<=j/\l[j-k]? =some a
 | [],k,j,a,h=>by simp[ai8,lk]at h
 |b::l,k,j,a,h=>by
  rw[ai8,t8]at h
  by_cases e:k=j
  ·grind
  ·rw[bJ9 e]at h
   obtain⟨h1,h2⟩:=aI6 l (k+1) j a h
   grind
theorem TD.args {τ:Tau}{F:Nat->Option Blk}{l:List SV}{args:List Value}(h:VDL P U τ F l args):TD P U τ F (ai8 0 l) (fill .e 0 args):=by
 intro k a ha;obtain⟨_,h2⟩:=aI6 l 0 k a ha;obtain⟨v,h3,h4⟩:=h.get h2;rw[G2 args k v (by simpa using h3)]
 exact h4
theorem av4 {τ:Tau}{F:Nat->Option Blk}{f:Fm}{tm:T Value}(ht:TD P U τ F f tm){hp:Hp}:∀ {rs:List ResultVar} {s:SS},SD P U τ F s hp->OKp U (R5 P U f rs) s fun l=>∃vs,F7 P tm hp rs=some vs/\VDL P U τ F l vs
 | [],s,hs=>OKp.ret ⟨[],rfl,VDL.nil⟩
 |r::rs,s,hs=>by
  have hv:∀t,VD P U τ F ((lk f t).getD .any) ((tm.get t).getD undef):=fun t=>by
   cases hl:lk f t with
   |none=>exact .any _
   |some b=>exact ht t b hl
  unfold R5;have one:OKp U (bj6 P U f r) s fun a=>∃v,ag9 P tm hp r=some v/\VD P U τ F a v:=by
   cases r with
   |tmp t=>exact OKp.ret ⟨_,rfl,hv t⟩
   |cell a t=>exact(aW3 (hv a) hs).mono fun b ⟨u,h1,h2⟩=>⟨u,h1,h2⟩
  refine one.bind fun a s1 o1 f1 ⟨v,h1,h2⟩=>?_
  refine(av4 ht (hs.only o1 f1)).bind fun l s2 _ _ ⟨vs,h3,h4⟩=>OKp.ret ⟨v::vs,by simp only[F7,h1,h3],VDL.cons h2 h4⟩
theorem bz1 {τ:Tau}{F:Nat->Option Blk}{l:List SV}{vs:List Value}(h:VDL P U τ F l vs):VD P U τ F (aK3 l) (af2 vs):=by
 unfold aK3 af2;split
 ·obtain⟨y,ys,rfl,h1,h2⟩:=h.uncons
  have:ys=[]:=bI5 h2.1.symm
  grind
 ·rename_i hne
  split
  ·rename_i v
   have hl:=h.1;cases l with
   |nil=>simp at hl
   |cons a l=>simp_all
  ·exact h.tup
theorem ap1 {runD : FuncId → List Value → Hp → Option (Value × Hp)} : ∀ (rs : List Nat) (hp : Hp), rs.Nodup → (∀ r ∈ rs, hp.m.get r = some .dfr) →
  ∃hp',G9 P runD (rs.map Df.mark++ []) hp=some hp'/\hp'.nx=hp.nx/\ ∀i,i∉rs->hp'.m.get i=hp.m.get i
 | [],hp,_,_=>⟨hp,rfl,rfl,fun _ _=>rfl⟩
 |r::rs,hp,hn,hg=>by
  have h1:=hg r (by simp)
  rw[List.nodup_cons]at hn;have hne:∀q∈rs,q≠r:=fun q hq e=>hn.1 (e▸hq)
  obtain⟨hp',e1,e2,e3⟩:=ap1 rs {hp with m:=hp.m.set r none} hn.2 fun q hq=>by
   show(hp.m.set r none).get q=_;rw[T.get_set,bJ9 (hne q hq)]
   grind
  refine⟨hp',?_,e2,fun i hi=>?_⟩
  ·simp only[bN0,bO1,G9,h1]
   exact e1
  ·simp only[bL7,not_or]at hi
   rw[e3 i hi.2];show(hp.m.set r none).get i=_;rw[T.get_set,bJ9 hi.1]
theorem aE7 {D D':FuncId->List Value->Hp->Option (Value×Hp)}:∀(rs:List Nat) (hp:Hp),G9 P D (rs.map Df.mark++ []) hp=G9 P D' (rs.map Df.mark++ []) hp
 | [],hp=>rfl
 |r::rs,hp=>by
  simp only[bN0,bO1,G9];split
  ·exact aE7 rs _
  ·rfl
theorem bj1 {call : D9} (hcall : B5 P U ov call) {dr : Nat → ac6} (hdr : ∀ nt, V7 P U ov nt (dr nt)) {lp : FuncId → Nat → ah7} (hlp : ∀ ar g nt, V8 P U ov ar nt (lp g nt)) (m : Nat) (g : FuncId) (hg : isT (ov g) = false) : B7 P U ov (sfun P U call dr lp m g) g := by
 intro l args τ F s hp hl hs;unfold sfun;split
 ·rename_i fn hfn
  split
  ·rename_i c hc
   refine(an5 hcall (hdr _) (hlp none g _) g true (fun _=>rfl) m c (ai8 0 l) τ F s hp (fill .e 0 args) (TD.args hl) hs).bindE fun r τ1 F1 s1 hp1 ex hs1 ⟨tm1,⟨rs,⟨hnd,hrs⟩,n1,e1⟩,e2,_⟩=>?_
   rw [hl.1] at e1;have fin : (r.1 = .normal ∨ r.1 = .ret) → ∀ Q, ((a8 (R5 P U r.2 fn.results.toList) fun vs => c8 (aK3 vs)) s1).vc U Q →
     ∃b s2,Q (b,s2)/\ ∃τ2 F2 hp2,Ext τ F s hp τ2 F2 s2 hp2/\SD P U τ2 F2 s2 hp2/\ ∃v,aL7 P ov g args hp v hp2/\VD P U τ2 F2 b v:=by
    intro hr Q hq;have hlv:∀n:Nat,∃hp2,G9 P (aa0 P (u7 P) (exec P ov n) n) (rs.map Df.mark++ []) hp1=some hp2/\hp2.nx=hp1.nx/\ ∀i,i∉rs->hp2.m.get i=hp1.m.get i:=fun n=>ap1 rs hp1 hnd fun r hr=>(hrs r hr).2.2
    have same:∀n,G9 P (aa0 P (u7 P) (exec P ov n) n) (rs.map Df.mark++ []) hp1=G9 P (aa0 P (u7 P) (exec P ov 0) 0) (rs.map Df.mark++ []) hp1:=by
     exact fun n=>aE7 rs hp1
    obtain⟨hp2,l1,l2,l3⟩:=hlv 0
    let F2:Nat->Option Blk:=fun j=>if j∈rs then none else F1 j
    have hs2:SD P U τ1 F2 s1 hp2:=by
     refine hs1.sub true (fun j y hj h=>?_) (.inl rfl) (by omega) (fun b x j o hb hj=>?_) (fun j y hj=>?_)
     ·show(if j∈rs then none else F1 j)=some y
      rw[bJ9 ?_]
      ·exact hj
      ·intro hm
       have h1:=(hrs j hm).2.2;rw[hs1.frz j y hj]at h1;cases h1
       rcases h with h| ⟨_,h⟩
       ·cases h
       ·grind
     ·rcases hs1.live b x hb with⟨i',o',y',h1,h2,h3,h4⟩| ⟨h1,_⟩
      ·rw[hj]at h1
       cases h1;have hne:j∉rs:=fun hm=>by
        have h5:=(hrs j hm).2.2;rw[h2]at h5;cases h5;cases x with
        |cells l e z=>obtain⟨cs,n,h,_⟩:=h4;cases h
        |rows L e z ph=>obtain⟨cs,n,h,_⟩:=h4;cases h
        |map L kt vt=>obtain⟨_,es,reg,h,_⟩:=h4;cases h
        |iter s p=>obtain⟨_,n,h,_⟩:=h4;cases h
       refine⟨l3 j hne,?_⟩;show(if j∈rs then none else F1 j)=none
       rw[bJ9 hne];exact h3
      ·rw[hj]at h1;cases h1
     ·have hj:(if j∈rs then none else F1 j)=some y:=hj
      by_cases e:j∈rs
      ·grind
      ·rw[bJ9 e]at hj
       exact⟨by rw[l3 j e];exact hs1.frz j y hj,by rw[l2];exact hs1.flt j y hj⟩
    have hlo:∀j,j<hp.nx->j∉rs:=fun j hj hm=>by have:=(hrs j hm).1;omega
    have ex2:Ext τ F s hp τ1 F2 s1 hp2:=by
     refine ex.shrink (by omega) (fun j hj=>l3 j (hlo j hj)) (fun j y hj=>?_) (fun j y hj=>?_)
     ·grind
     ·show(if j∈rs then none else F1 j)=some y
      rw[bJ9 (hlo j (hs.flt j y hj))];exact ex.f j y hj
    have ht2:TD P U τ1 F2 r.2 tm1:=fun k a ha=>(e2 k a ha).sub true (fun j y hj h=>by
     show(if j∈rs then none else F1 j)=some y
     rw[bJ9 ?_]
     ·exact hj
     ·intro hm
      have h1:=(hrs j hm).2.2;rw[hs1.frz j y hj]at h1;cases h1
      rcases h with h| ⟨_,h⟩
      ·cases h
      ·exact h rfl) (.inl rfl)
    have main:OKh P U (a8 (R5 P U r.2 fn.results.toList) fun vs=>c8 (aK3 vs)) τ1 F2 s1 hp2 fun a τ' F' hp'=>∃v,aL7 P ov g args hp v hp'/\VD P U τ' F' a v:=by
     refine OKh.bindp (av4 ht2 hs2) fun vs s2 _ hs2 ⟨ws,h1,h2⟩=>OKh.ret ⟨af2 ws,⟨n1+1,fun n hn=>?_⟩,bz1 h2⟩
     obtain⟨n,rfl⟩:∃k,n=k+1:=⟨n-1,by omega⟩
     have hx:=e1 n n [] (by omega) (by omega)
     show(bif isT (ov g)&&args.isEmpty then some (.bool true,hp)else av9 (W8 P (u7 P) (exec P ov n) (aa0 P (u7 P) (exec P ov n) n) n g) args hp)=_
     rw[hg,Bool.false_and,bJ7];have hlv2:=(same n).trans l1;have hb:W8 P (u7 P) (exec P ov n) (aa0 P (u7 P) (exec P ov n) n) n g args hp=some (af2 ws,hp2):=by
      simp only[W8,hfn,hc]
      rcases hr with hr|hr
      ·rw[hr]at hx;simp only[hx,aE5,hlv2,h1]
      ·rw[hr]at hx;simp only[hx,aE5,hlv2,h1]
     simp only[av9,hb]
    obtain⟨b,s3,q1,τ3,F3,hp3,x1,x2,x3⟩:=main Q hq hs2;exact⟨b,s3,q1,τ3,F3,hp3,ex2.trans x1,x2,x3⟩
   intro Q hq;cases hr:r.1 with
   |normal=>simp_all
   |ret=>simp_all
   |_=>simp only[hr]at hq;exact hq.elim
  ·exact OKh.fail
 ·exact OKh.fail
theorem aU8 {τ:Tau}{F:Nat->Option Blk}:∀(ps:List Nat) (l:List SV) (args:List Value) (f:Fm) (tm:T Value),TD P U τ F f tm->VDL P U τ F l args->TD P U τ F (bw9 f ps l) (aB9 tm ps args)
 | [],l,args,f,tm,ht,hl=>by
  cases l<;>cases args<;>exact ht
 |p::ps,[],args,f,tm,ht,hl=>by
  have:args=[]:=bI5 hl.1.symm;subst this;exact ht
 |p::ps,a::l,args,f,tm,ht,hl=>by
  obtain⟨v,vs,rfl,h1,h2⟩:=hl.uncons;exact aU8 ps l vs _ _ (ht.put h1 (some p)) h2
theorem bp5 {call : D9} (hcall : B5 P U ov call) {dr : Nat → ac6} (hdr : ∀ nt, V7 P U ov nt (dr nt)) {lp : FuncId → Nat → ah7} (hlp : ∀ ar g nt, V8 P U ov ar nt (lp g nt)) (m : Nat) (ks : List Nat) (vs : List SV) (g : FuncId) (nt : Nat) (ps : List Nat) (as bo : Code) (l : List SV) (args : List Value)
  (τ:Tau) (F:Nat->Option Blk) (s:SS) (hp:Hp) (i:Nat) (hv:VD P U τ F (.yld ks vs g nt ps as bo) (.chan (some i))) (hl:VDL P U τ F l args) (hs:SD P U τ F s hp):
  OKh P U (bd7 P U call dr lp m ks vs g nt ps as bo l) τ F s hp fun a τ' F' hp'=>∃v,(EV fun n=>aF7 P (u7 P) (exec P ov n) n i args hp=some (v,hp'))/\VD P U τ' F' a v:=by
 cases hv with
 |yld _ _ _ _ _ _ _ _ tms pr db hF hps hk=>
 unfold bd7;cases hb:Nat.beq ps.length l.length&&at9 nt ps with
 |false=>exact OKh.fail
 |true=>
 rw[bJ6];simp only[bI0]at hb;have hlen:=bI4 hb.1
 let R:Blk:= .loop .ready none nt tms pr as bo db
 let Rb:Blk:= .loop .busy none nt tms pr as bo db
 have ht0:TD P U τ F (ks.zip vs) tms:=fun k a ha=>hk k a ha
 refine(an5 hcall (hdr nt) (hlp (some i) g nt) g false (fun h=>by cases h) m as _ τ F s hp _ (aU8 ps l args _ tms ht0 hl) hs).bindE fun r τ1 F1 s1 hp1 ex1 hs1 ⟨tm1,⟨rs1,_,n1,e1⟩,t1,_⟩=>?_
 intro Q hq;cases hr:r.1 with
 |exit _=>simp only[hr]at hq;exact hq.elim
 |goto _=>simp only[hr]at hq;exact hq.elim
 |ret=>simp only[hr]at hq;exact hq.elim
 |panic _=>simp only[hr]at hq;exact hq.elim
 |outgrown=>simp only[hr]at hq;exact hq.elim
 |normal=>
 simp only[hr,m9]at hq;cases hny:nyS s1&&noYs (r.2.map Prod.snd)with
 |false=>rw[hny]at hq;exact hq.elim
 |true=>
 rw[hny,bJ6]at hq;simp only[bI0]at hny;have hF1:F1 i=some R:=ex1.f i R hF;have hR1:hp1.m.get i=some R:=hs1.frz i R hF1;have hi1:i<hp1.nx:=hs1.flt i R hF1
 let Fb:Nat->Option Blk:=fun j=>if j=i then none else F1 j
 let hpb:Hp:= {hp1 with m:=hp1.m.set i (some Rb)}
 have gb:∀j,j≠i->hpb.m.get j=hp1.m.get j:=fun j hj=>by
  show(hp1.m.set i (some Rb)).get j=_;rw[T.get_set,bJ9 hj]
 have gbi:hpb.m.get i=some Rb:=by
  show(hp1.m.set i (some Rb)).get i=_;rw[T.get_set,bK1 rfl]
 have hno1:∀b x o,s1.get b=some x->τ1 b=some (some (i,o))->False:=fun b x o hb ht=>by
  rcases hs1.live b x hb with⟨i',o',y',h1,h2,h3,h4⟩| ⟨h1,_⟩
  ·grind
  ·grind
 have hFb:∀j y,F1 j=some y->((arr y).isSome=true\/false=true/\y≠ .dfr)->Fb j=some y:=fun j y hj h=>by
  show(if j=i then none else F1 j)=some y
  rw[bJ9 ?_]
  ·exact hj
  ·rintro rfl
   rw[hF1]at hj;cases hj
   rcases h with h| ⟨h,_⟩
   ·cases h
   ·cases h
 have hsb:SD P U τ1 Fb s1 hpb:=by
  refine hs1.sub false hFb (.inr hny.1) (bK2 _) (fun b x j o hb hj=>?_) (fun j y hj=>?_)
  ·have hne:j≠i:=fun e=>hno1 b x o hb (by rw[<-e];exact hj)
   refine⟨gb j hne,?_⟩;show(if j=i then none else F1 j)=none
   rw[bJ9 hne]
   rcases hs1.live b x hb with⟨i',o',y',h1,h2,h3,h4⟩| ⟨h1,_⟩
   ·grind
   ·grind
  ·have hj:(if j=i then none else F1 j)=some y:=hj
   by_cases e:j=i
   ·grind
   ·rw[bJ9 e]at hj
    exact⟨by rw[gb j e];exact hs1.frz j y hj,hs1.flt j y hj⟩
 have tb:TD P U τ1 Fb r.2 tm1:=fun k a ha=>(t1 k a ha).sub false hFb (.inr (by
  have h1:=Q9 ha;have h2:a∈r.2.map Prod.snd:=bQ2.2 ⟨_,h1,rfl⟩;obtain⟨j,hj⟩:=bN4.1 h2;exact R3 hny.2 hj))
 rw[show∀(m:M (Exit×Fm)) (k:(Exit×Fm)->M SV) (s:SS),a8 m k s=(m s).bind fun x=>k x.1 x.2 from fun _ _ _=>rfl,Tr.vc_bind]at hq
 obtain⟨q,s2,hq,τ2,F2,hp2,ex2,hs2,tm2,⟨rs2,_,n2,e2⟩,_,_⟩:=an5 hcall (hdr nt) (hlp (some i) g nt) g false (fun h=>by cases h) m bo r.2 τ1 Fb s1 hpb tm1 tb hsb _ hq hsb
 cases hqn:q.1 with
 |exit _=>simp only[hqn]at hq;exact hq.elim
 |goto _=>simp only[hqn]at hq;exact hq.elim
 |ret=>simp only[hqn]at hq;exact hq.elim
 |panic _=>simp only[hqn]at hq;exact hq.elim
 |outgrown=>simp only[hqn]at hq;exact hq.elim
 |normal=>
 simp only[hqn,m9]at hq;cases hny2:nyS s2 with
 |false=>rw[hny2]at hq;exact hq.elim
 |true=>
 rw[hny2,bJ6]at hq;have hR2:hp2.m.get i=some Rb:=by
  rw[ex2.kept i hi1 hno1,gbi]
 have hno2:∀b x o,s2.get b=some x->τ2 b=some (some (i,o))->False:=fun b x o hb ht=>by
  by_cases hlt:b<s1.nx
  ·obtain⟨y,hy⟩:=ex2.low b x hb hlt
   rw[ex2.st b hlt]at ht
   grind
  ·rcases ex2.fresh b i o (bP7 hlt) ht with h| ⟨b0,y,o0,h1,h2⟩
   ·grind
   ·grind
 let F3:Nat->Option Blk:=fun j=>if j=i then some R else F2 j
 let hp3:Hp:= {hp2 with m:=hp2.m.set i (some R)}
 have g3:∀j,j≠i->hp3.m.get j=hp2.m.get j:=fun j hj=>by
  show(hp2.m.set i (some R)).get j=_;rw[T.get_set,bJ9 hj]
 have g3i:hp3.m.get i=some R:=by
  show(hp2.m.set i (some R)).get i=_;rw[T.get_set,bK1 rfl]
 have hi2:i<hp2.nx:=bN2 hi1 ex2.nx;have hs3:SD P U τ2 F3 s2 hp3:=by
  refine hs2.sub false (fun j y hj h=>?_) (.inr hny2) (bK2 _) (fun b x j o hb hj=>?_) (fun j y hj=>?_)
  ·show(if j=i then some R else F2 j)=some y
   rw[bJ9 ?_]
   ·exact hj
   ·rintro rfl
    have h5:=hs2.frz j y hj;rw[hR2]at h5;cases h5
    rcases h with h| ⟨h,_⟩
    ·cases h
    ·cases h
  ·have hne:j≠i:=fun e=>hno2 b x o hb (by rw[<-e];exact hj)
   refine⟨g3 j hne,?_⟩;show(if j=i then some R else F2 j)=none
   rw[bJ9 hne]
   rcases hs2.live b x hb with⟨i',o',y',h1,h2,h3,h4⟩| ⟨h1,_⟩
   ·grind
   ·grind
  ·have hj:(if j=i then some R else F2 j)=some y:=hj
   by_cases e:j=i
   ·grind
   ·rw[bJ9 e]at hj
    exact⟨by rw[g3 j e];exact hs2.frz j y hj,hs2.flt j y hj⟩
 have ex3:Ext τ1 F1 s1 hp1 τ2 F3 s2 hp3:=by
  obtain⟨l,a1,a2,a3,a4,a5⟩:=ex2.hh;refine⟨ex2.t,fun j y hj=>?_,ex2.nx,ex2.snx,ex2.st,ex2.low,⟨l,a1,fun j hj hno=>?_,a3,fun j y hj hy=>?_,fun hp j y hy=>?_⟩,ex2.hf⟩
  ·show(if j=i then some R else F2 j)=some y
   by_cases e:j=i
   ·grind
   ·rw[bJ9 e]
    refine ex2.f j y ?_
    grind
  ·grind
  ·grind
  ·have hy:(if j=i then some R else F2 j)=some y:=hy
   by_cases e:j=i
   ·rw[bK1 e]at hy
    rw[e,hF1];exact hy
   ·rw[bJ9 e]at hy
    have h:(if j=i then none else F1 j)=some y:=a5 hp j y hy
    rw[bJ9 e]at h;exact h
 refine⟨_,s2,hq,τ2,F3,hp3,ex1.trans ex3,hs3,.bool true,⟨n1+n2,fun n hn=>?_⟩,.bool (.bool true)⟩
 have x1:=e1 n n [] (by omega) (by omega)
 have x2:=e2 n n (rs1.map Df.mark++ []) (by omega) (by omega)
 rw[hr]at x1;rw[hqn]at x2;have hR0:hp.m.get i=some (.loop .ready none nt tms pr as bo db):=hs.frz i R hF;have hR1':hp1.m.get i=some (.loop .ready none nt tms pr as bo db):=hR1;have hR2':hp2.m.get i=some (.loop .busy none nt tms pr as bo db):=hR2;have hc:(Nat.beq pr.toList.length args.length&&at9 nt pr.toList)=true:=by
  rw[hps,bI0];exact⟨by rw[<-hl.1];exact hb.1,hb.2⟩
 have x2':i9 P (u7 P) (exec P ov n) nt (some i) n bo tm1 {hp1 with m:=hp1.m.set i (some (.loop .busy none nt tms pr as bo db))} (rs1.map Df.mark++ [])=some (.mk .normal tm2 hp2 (rs2.map Df.mark++(rs1.map Df.mark++ []))):=x2
 rw[<-hps]at x1;unfold aF7;simp only[hR0,hc,bJ6,x1,hR1',x2',hR2'];rfl
theorem aC5 {dr : D9 → Nat → ac6} (hdr : ∀ call, B5 P U ov call → ∀ nt, V7 P U ov nt (dr call nt)) {lp : D9 → FuncId → Nat → ah7} (hlp : ∀ call, B5 P U ov call → ∀ ar g nt, V8 P U ov ar nt (lp call g nt))
  {con:FuncId->Option (List SV->M SV)} (hcon:∀g k,con g=some k->B7 P U ov k g) (hT:∀g,isT (ov g)=true->con g≠none):∀n,B5 P U ov (P6 P U dr lp con n)
 |0=>⟨fun g l args τ F s hp _ _=>OKh.fail,fun ks vs g nt ps as bo l args τ F s hp i _ _ _=>OKh.fail⟩
 |n+1=>by
  have ih:=aC5 hdr hlp hcon hT n;refine⟨fun g l args τ F s hp hl hs=>?_,fun ks vs g nt ps as bo l args τ F s hp i hv hl hs=>?_⟩
  ·simp only[P6]
   split
   ·rename_i k hk;exact hcon g k hk l args τ F s hp hl hs
   ·rename_i hk
    have hg:isT (ov g)=false:=by grind
    exact bj1 ih (hdr _ ih) (hlp _ ih) n g hg l args τ F s hp hl hs
  ·refine(bp5 ih (hdr _ ih) (hlp _ ih) n ks vs g nt ps as bo l args τ F s hp i hv hl hs).mono fun a τ' F' hp' _ _ ⟨v,⟨n0,h1⟩,h2⟩=>⟨v,⟨n0+1,fun k hk=>?_⟩,h2⟩
   obtain⟨k,rfl⟩:∃j,k=j+1:=⟨k-1,by omega⟩
   exact h1 k (by omega)
end
end Go.Sx
namespace Go.Sx
open Go.Xe
section
variable {P :Program}{call:d8}{tm:T Value}{hp hp':Hp}{v:Value}
theorem bq7 {o:Op}(hk:d6 o=1)(c1 c2:d8)(tm:T Value)(hp:Hp):xop P c1 tm hp o=xop P c2 tm hp o:=by
 cases o with
 |call c=>
  obtain⟨callee,args,ats⟩:=c;cases callee with
  |builtin b=>rfl
  |_=>simp[d6]at hk
 |load t a=>rfl
 |slice t x lo hi mx=>rfl
 |lookup t x k ok=>rfl
 |_=>simp[d6]at hk
theorem bB1 {o : Op} (hk : d6 o = 1) (hx : xop P call tm hp o = some (v, hp')) : hp' = hp := by
 cases o with
 |load t a=>
  simp only[c6,k9]at hx;split at hx
  ·exact(i8 hx).2
  ·cases hx
 |slice t x lo hi mx=>
  simp only[c6,k9]at hx;split at hx
  ·split at hx
   ·split at hx
    ·split at hx
     ·exact aw1 hx
     ·cases hx
    ·cases hx
   ·cases hx
  ·cases hx
 |lookup t x k ok=>
  simp only[c6,k9]at hx;split at hx
  ·split at hx
   ·exact(i8 hx).2
   ·cases hx
  ·cases hx
 | call c =>
  obtain⟨callee,args,ats⟩:=c;cases callee with
  | builtin b =>
   cases b <;> first
    | (simp[d6]at hk;done)
    | (simp only [c6, k9] at hx
       split at hx
       ·generalize ats.toList=tl at hx
        rename_i vs _
        rcases tl with _| ⟨t,_| ⟨u,r⟩⟩<;>rcases vs with _| ⟨x,_| ⟨y,r2⟩⟩<;>simp only[z9,reduceCtorEq]at hx
        exact(i8 hx).2
       ·cases hx)
  |_=>simp[d6]at hk
 |_=>simp[d6]at hk
theorem at5 {o:Op}(hk:d6 o=1)(hx:xop P call tm hp o=some (v,hp)):xrd P tm hp o=some v:=by
 unfold xrd;rw[bq7 hk _ call,hx]
 simp_all
theorem bH8 {o:Op}(hk:d6 o=1)(hx:xop P call tm hp o=some (v,hp')):hp'=hp/\xrd P tm hp o=some v:=by
 have e:=bB1 hk hx;subst e;exact⟨rfl,at5 hk hx⟩
theorem aY9 {t:TypeId}{a:Operand}{j q:Nat}(hx:xop P call tm hp (.load t a)=some (v,hp'))(ha:a9 tm a=some (.pointer (some ⟨j,q,none⟩))){S:Hp}(hg:S.m.get j=hp.m.get j):xrd P tm S (.load t a)=some v:=by
 refine at5 (call:=call) rfl ?_;simp only[c6,k9,ha]at hx⊢;have:O3 P S t (.pointer (some ⟨j,q,none⟩))=O3 P hp t (.pointer (some ⟨j,q,none⟩)):=by simp only[O3,hg]
 rw[this,(i8 hx).1];rfl
theorem bf3 {t:TypeId}{a k:Operand}{ok:Bool}{j:Nat}(hx:xop P call tm hp (.lookup t a k ok)=some (v,hp'))(ha:a9 tm a=some (.map (some j))){S:Hp}(hg:S.m.get j=hp.m.get j):xrd P tm S (.lookup t a k ok)=some v:=by
 refine at5 (call:=call) rfl ?_;simp only[c6,k9,ha]at hx⊢;cases hu:a9 tm k with
 |none=>grind
 |some u=>
  rw[hu]at hx;simp only at hx⊢;have:D8 P S t (.map (some j)) u ok=D8 P hp t (.map (some j)) u ok:=by simp only[D8,hg]
  rw[this,(i8 hx).1];rfl
theorem aZ2 {S : Hp} {t : TypeId} {x : Value} {lo hi mx : Option Value} (h : q9 P hp t x lo hi mx = some (v, hp')) (hg : ∀ i o l c, x = .slice (some ⟨i, o, none⟩) l c → S.m.get i = hp.m.get i) :
  q9 P S t x lo hi mx=some (v,S):=by
 unfold q9 at h⊢;simp only[Bool.cond_eq_ite]at h⊢;split at h
 ·split at h
  ·grind
  ·cases h
 ·split at h
  ·cases h
  ·rename_i ie hie
   split at h
   ·grind
   ·grind
   ·have e:=hg _ _ _ _ rfl
    simp only[e];split at h
    ·rename_i c1
     rw[bK1 c1];split at h
     ·rename_i c2
      rw[bK1 c2];split at h
      ·cases h
      ·grind
      ·rename_i l hh h2
       split at h
       ·grind
       ·grind
     ·cases h
    ·grind
   ·cases h
 ·split at h
  ·cases h
  ·rename_i ie hie
   split at h
   ·grind
   ·cases h
 ·cases h
theorem ag8 {t : TypeId} {x : Operand} {lo hi mx : Option Operand} {u : Value} (hx : xop P call tm hp (.slice t x lo hi mx) = some (v, hp')) (hu : a9 tm x = some u) (S : Hp) (hg : ∀ i o l c, u = .slice (some ⟨i, o, none⟩) l c → S.m.get i = hp.m.get i) :
  xrd P tm S (.slice t x lo hi mx)=some v:=by
 refine at5 (call:=call) rfl ?_;simp only[c6,k9,hu]at hx⊢;cases h1:ah5 tm lo with
 |none=>grind
 |some a=>
  rw[h1]at hx;simp only at hx⊢;cases h2:ah5 tm hi with
  |none=>grind
  |some b=>
   rw[h2]at hx;simp only at hx⊢;cases h3:ah5 tm mx with
   |none=>grind
   |some c=>
    rw[h3]at hx;exact aZ2 hx hg
theorem bE7 {args : Array Operand} {ats : Array TypeId} {x : Operand} {u : Value} (hx : xop P call tm hp (.call ⟨.builtin .len, args, ats⟩) = some (v, hp')) (ha : args.toList = [x]) (hu : a9 tm x = some u) (hm : ∀ i, u ≠ .map (some i)) (S : Hp) :
  xrd P tm S (.call ⟨.builtin .len,args,ats⟩)=some v:=by
 refine at5 (call:=call) rfl ?_;simp only[c6,k9,ha,ah4,hu]at hx⊢;generalize ats.toList=tl at hx⊢
 rcases tl with _| ⟨t,_| ⟨w,r⟩⟩<;>simp only[z9,reduceCtorEq]at hx⊢
 have:U4 S P t u=U4 hp P t u:=by
  unfold U4
  grind
 rw[this,(i8 hx).1];rfl
end
inductive Rd where
 |free
 |blk (b:Nat)
 |frz
 |mlk (t:TypeId) (b:Nat)
 |bad
def bl7 (P:Program)(t:TypeId)(f:Fm)(k:Operand):Bool:=match P.underlying t,j8 f k with
 |some (.map kt _),some ks=>match N0 P kt with
  |some sh=>(skey sh ks).isSome
  |none=>false
 |_,_=>false
def aw7 (P:Program)(f:Fm):Op->Rd
 | .load _ x=>match j8 f x with
  |some (.ptr b _ _ _)=>.blk b
  |some (.pptr _ _ _ _)=>.frz
  |_=>.bad
 | .lookup t x k ok=>match j8 f x with
  |some (.map b)=>bif !ok&&bl7 P t f k then .mlk t b else .blk b
  |_=>.bad
 | .slice _ x _ _ _=>match j8 f x with
  |some (.lst _ _ _)=>.frz
  |some .nils=>.free
  |some (.str _)=>.free
  |_=>.bad
 | .call ⟨.builtin .len,args,_⟩=>match args.toList with
  | [x]=>match j8 f x with
   |some (.str _)=>.free
   |some (.sl _ _ _ _ _)=>.free
   |some (.lst _ _ _)=>.free
   |some .nils=>.free
   |_=>.bad
  |_=>.bad
 |_=>.bad
def vok :Nat->SV->Bool
 |0,_=>false
 |n+1,a=>match a with
  | .any=>false
  | .agg l=>l.all (vok n)
  | .tup l=>l.all (vok n)
  | .fn _ l m=>l.all (vok n)&&m.all (vok n)
  | .iface _ v=>vok n v
  |_=>true
section
variable {P :Program}{U:Nat->List Dat->Dat}{τ:Tau}{F:Nat->Option Blk}{s:SS}
theorem PV.lst_slice {e:TypeId}{v:Value}{d:Dat}(h:PV P F (.sl e) v d):∃a l c,v= .slice a l c:=by
 cases h<;>exact⟨_,_,_,rfl⟩
theorem bB5 {f:Value->Value->Bool}{l:List SV}{xs:List Value}(hl:l.length=xs.length)(h:∀(i:Nat) a x,l[i]? =some a->xs[i]? =some x->f x x=true):U6 f xs xs=true:=by
 induction xs generalizing l with
 |nil=>rfl
 |cons x xs ih=>
  cases l with
  |nil=>simp at hl
  |cons a l=>
   simp only[U6,bI0];exact⟨h 0 a x rfl rfl,ih (by simpa using hl) fun i b y hb hy=>h (i+1) b y hb hy⟩
theorem aW9 :∀(n:Nat) (a:SV) (v:Value),vok n a=true->VD P U τ F a v->veq n v v=true
 |0,_,_,h,_=>by cases h
 |n+1,a,v,h,hv=>by
  have ih:=aW9 n;have all:∀ {l:List SV} {xs:List Value},l.all (vok n)=true->l.length=xs.length->(∀(i:Nat) a x,l[i]? =some a->xs[i]? =some x->VD P U τ F a x)->U6 (veq n) xs xs=true:=by
   intro l xs h1 h2 h3;rw[bK9]at h1;exact bB5 h2 fun i a x ha hx=>ih a x (h1 a (bI9 ha)) (h3 i a x ha hx)
  have bb:∀k:Nat,Nat.beq k k=true:=fun k=>t7 rfl
  cases hv with
  |any v=>cases h
  |int k e=>simp[veq]
  |bool e=>simp[veq]
  |str e=>simp[veq]
  |nilp=>simp[veq]
  |ptr=>simp[veq]
  |pptr=>simp[veq]
  |nils=>simp only[veq,bb,bN6,bQ7]
  |sl=>simp only[veq,bb,bN6,bQ7]
  |sl0=>simp only[veq,bb,bN6,bQ7]
  |lst t L clip v hp hc=>
   obtain⟨a,l,c,rfl⟩:=hp.lst_slice;simp only[veq,bb,bN6,bQ7]
  |agg l xs h1 h2=>simp only[vok]at h;simp only[veq];exact all h h1 h2
  |tup l xs h1 h2=>simp only[vok]at h;simp only[veq];exact all h h1 h2
  |fn f l m xs ys h1 h2 h3 h4=>
   simp only[vok,bI0]at h;simp only[veq,bN6,bS9,bI0]
   grind
  |nilf=>rfl
  |map=>simp[veq]
  |nilm=>simp[veq]
  |iface t a x hx=>simp only[vok]at h;simp only[veq,bb,bS9];exact ih _ _ h hx
  |nili=>rfl
  |yld=>simp[veq]
def bE9 (P:Program)(t:TypeId)(kv:Value):Prop:=∃kt vt sh ks,P.underlying t=some (.map kt vt)/\N0 P kt=some sh/\ad4 sh.2 ks=true/\kv=ac0 sh ks
def MS (P:Program)(t:TypeId)(j:Nat)(S S2:Hp):Prop:=∀kv,bE9 P t kv->D8 P S t (.map (some j)) kv false=D8 P S2 t (.map (some j)) kv false
theorem MS.of {t:TypeId}{j:Nat}{S S2:Hp}(h:S2.m.get j=S.m.get j):MS P t j S S2:=fun kv _=>by simp only[D8,h]
theorem MS.trans {t:TypeId}{j:Nat}{A B C:Hp}(h:MS P t j A B)(k:MS P t j B C):MS P t j A C:=fun kv hk=>(h kv hk).trans (k kv hk)
theorem MS.symm {t:TypeId}{j:Nat}{A B:Hp}(h:MS P t j A B):MS P t j B A:=fun kv hk=>(h kv hk).symm
theorem bg7 {f:Fm}{tm:T Value}(ht:TD P U τ F f tm){t:TypeId}{k:Operand}{u:Value}(hu:a9 tm k=some u)(h:bl7 P t f k=true):bE9 P t u:=by
 unfold bl7 at h;split at h
 ·rename_i kt vt ks hm hk
  split at h
  ·rename_i sh hsh
   obtain⟨es,hes⟩:=Option.isSome_iff_exists.1 h;obtain⟨u',h1,h2⟩:=A6 ht hk;rw[hu,bH9]at h1;subst h1;obtain⟨k1,k2⟩:=bj3 h2 hes;exact⟨kt,vt,sh,_,hm,hsh,k2,k1⟩
  ·cases h
 ·cases h
theorem bH0 {kd:Kd}{v v' z:Value}{d dz:Dat}(hz:PV P F kd z dz)(ho:aw6 (some z)=true)(h:PV P F kd v d)(h':PV P F kd v' d):v=v':=by
 cases hz with
 |int=>cases h;cases h';rfl
 |bool=>cases h;cases h';rfl
 |str=>cases h;cases h';rfl
 |_=>cases ho
theorem aR7 {kt vt t : TypeId} {sh : Bool × List Kd} {ks : List KV} {i : Nat} {es es' : List (Value × Value)} {rows : Rows} {z : Value} {dz : Dat} {hp hp' : Hp} {d : TypeDesc} (hu : P.underlying t = some (.map kt vt)) (hd : P.underlying kt = some d) (hk : N0 P kt = some sh)
  (hz:I3 P vt=some z) (ho:aw6 (some z)=true) (hzp:PV P F (kd1 P vt) z dz) (hg:hp.m.get i=some (.map es true)) (hg':hp'.m.get i=some (.map es' true)) (hm:O7 P F kt vt es rows) (hm':O7 P F kt vt es' (mputR rows ks (mgetR rows ks dz)))
  (hf:ad4 sh.2 ks=true):MS P t i hp hp':=by
 rintro kv ⟨kt2,vt2,sh2,ks2,q1,q2,q3,rfl⟩
 rw[hu]at q1;cases q1;rw[hk]at q2;cases q2;obtain⟨find,hfd,hany⟩:=az8 hd hk q3;have val:∀ {es:List (Value×Value)} {rows:Rows} {hp:Hp},hp.m.get i=some (.map es true)->O7 P F kt vt es rows-> ∃v,D8 P hp t (.map (some i)) (ac0 sh ks2) false=some v/\PV P F (kd1 P vt) v (mgetR rows ks2 dz):=by
  intro es rows hp hg hm
  rcases J9 hk q3 hfd hzp dz rows es 0 hm with⟨_,a2,a3,_⟩| ⟨_,v,_,a2,a3,_⟩
  ·exact⟨z,by simp only[D8,hu,hd,hg,hany,a2,hz];rfl,by rw[a3];exact hzp⟩
  ·exact⟨v,by simp only[D8,hu,hd,hg,hany,a2];rfl,a3⟩
 obtain⟨v,h1,h2⟩:=val hg hm;obtain⟨v',h3,h4⟩:=val hg' hm';have hl:ks.length=ks2.length:=(Q6 hf).trans (Q6 q3).symm;have key:∀rows:Rows,mgetR (mputR rows ks (mgetR rows ks dz)) ks2 dz=mgetR rows ks2 dz:=by
  have km:∀v:Dat,ad3 ks2.length (ks.map KV.dat++ [v])=ks:=fun v=>by unfold ad3;rw[List.take_left' (by rw[bJ8];exact hl),ba5]
  have vm:∀v:Dat,(ks.map KV.dat++ [v]).getD ks2.length (.int 0)=v:=fun v=>by
   grind
  have put:∀(v:Dat) (M:Rows),mgetR (mputR M ks v) ks2 dz=if ks2=ks then v else mgetR M ks2 dz:=by
   intro v M
   induction M with
   |nil=>
    unfold mputR mgetR;rw[km,vm]
    by_cases e:ks2=ks
    ·grind
    ·rw[bJ9 e,bJ9 fun c=>e c.symm];rfl
   |cons r M ih=>
    unfold mputR
    by_cases hr:ad3 ks.length r=ks
    ·rw[bK1 hr]
     unfold mgetR
     grind
    ·rw[bJ9 hr]
     unfold mgetR
     grind
  grind
 rw[key]at h4;rw[h1,h3,bH0 hzp ho h2 h4]
variable (P) in
def aQ9 (τ:Tau)(F:Nat->Option Blk)(S:Hp)(tm:T Value)(o:Op)(v:Value):Rd->Prop
 | .free=>∀S2,xrd P tm S2 o=some v
 | .blk b=>∃j q,τ b=some (some (j,q))/\ ∀S2:Hp,S2.m.get j=S.m.get j->xrd P tm S2 o=some v
 | .frz=>(∀S2,xrd P tm S2 o=some v)\/ ∃j y,F j=some y/\ ∀S2:Hp,S2.m.get j=some y->xrd P tm S2 o=some v
 | .mlk t b=>∃j q,τ b=some (some (j,q))/\ ∀S2:Hp,MS P t j S S2->xrd P tm S2 o=some v
 | .bad=>True
theorem bD3 {call:d8}{f:Fm}{tm:T Value}{S S':Hp}{o:Op}{v:Value}(ht:TD P U τ F f tm)(hs:SD P U τ F s S)(h:xop P call tm S o=some (v,S')):aQ9 P τ F S tm o v (aw7 P f o):=by
 unfold aw7;split
 ·rename_i t x
  split
  ·rename_i b z row fld hx
   obtain⟨u,h1,h2⟩:=A6 ht hx;cases h2 with
   |ptr _ _ _ _ i q hτ h0=>exact⟨i,q,hτ,fun S2 hg=>aY9 h h1 hg⟩
  ·rename_i t' L row fld hx
   obtain⟨u,h1,h2⟩:=A6 ht hx;cases h2 with
   |pptr _ _ _ _ i q l c hp h0 hlt=>
    have:∃y,F i=some y:=by
     cases hp with
     |sl e i o c b cs n z rows x hF=>grind
    obtain⟨y,hy⟩:=this;exact .inr ⟨i,y,hy,fun S2 hg=>aY9 h h1 (by rw[hg,hs.frz i y hy])⟩
  ·trivial
 ·rename_i t x k ok
  split
  ·rename_i b hx
   obtain⟨u,h1,h2⟩:=A6 ht hx;cases h2 with
   |map _ i q hτ=>
    cases hc: !ok&&bl7 P t f k with
    |false=>exact⟨i,q,hτ,fun S2 hg=>bf3 h h1 hg⟩
    |true=>
     rw[bI0,bM5]at hc;refine⟨i,q,hτ,fun S2 hg=>?_⟩
     have hk:∃kv,a9 tm k=some kv:=by
      simp only[c6,k9,h1]at h
      grind
     obtain⟨kv,hkv⟩:=hk;have hms:=hg kv (bg7 ht hkv hc.2);refine at5 (call:=call) rfl ?_;simp only[c6,k9,h1,hkv,hc.1]at h⊢;rw[<-hms,(i8 h).1];rfl
  ·trivial
 ·rename_i t x lo hi mx
  have free:∀ {a:SV},j8 f x=some a->(∀w,VD P U τ F a w-> ∀i o l c,w≠ .slice (some ⟨i,o,none⟩) l c)-> ∀S2,xrd P tm S2 (.slice t x lo hi mx)=some v:=by
   intro a ha hn S2;obtain⟨u,h1,h2⟩:=A6 ht ha;exact ag8 h h1 S2 fun i o l c e=>absurd e (hn u h2 i o l c)
  split
  ·rename_i t' L c hx
   obtain⟨u,h1,h2⟩:=A6 ht hx;cases h2 with
   |lst _ _ _ _ hp _=>
    generalize Dat.lst (L.toR U)=d at hp;cases hp with
    |nils=>exact .inl fun S2=>ag8 h h1 S2 fun i o l c e=>by cases e
    |vague=>exact .inl fun S2=>ag8 h h1 S2 fun i o l c e=>by cases e
    |sl e i o c b cs n z rows x hF=>
     refine .inr ⟨i,b,hF,fun S2 hg=>ag8 h h1 S2 fun i' o' l' c' e=>?_⟩
     cases e;rw[hg,hs.frz i b hF]
  ·rename_i hx;exact free hx fun w hw i o l c e=>by cases hw;cases e
  ·rename_i hx;exact free hx fun w hw i o l c e=>by cases hw;cases e
  ·trivial
 ·rename_i args ats
  split
  ·rename_i x hx
   have key:∀ {a:SV},j8 f x=some a->(∀w,VD P U τ F a w-> ∀i,w≠ .map (some i))->aQ9 P τ F S tm (.call ⟨.builtin .len,args,ats⟩) v .free:=by
    intro a ha hn S2;obtain⟨u,h1,h2⟩:=A6 ht ha;exact bE7 h hx h1 (hn u h2) S2
   split
   ·rename_i he;exact key he fun w hw i=>by cases hw;simp
   ·rename_i he;exact key he fun w hw i=>by cases hw<;>simp
   ·rename_i he
    refine key he fun w hw i=>?_
    cases hw with
    |lst _ _ _ _ hp _=>obtain⟨a,l,c,rfl⟩:=hp.lst_slice;simp
   ·rename_i he;exact key he fun w hw i=>by cases hw;simp
   ·trivial
  ·trivial
 ·trivial
variable (P) in
def snw (f : Fm) (o : Op) : Option (y4 × (Nat → SV)) :=
 match o with
 | .alloc e=>match ae7 P e with
  |some l=>some (.cells l e l.length,fun b=>.ptr b l.length (.int 0) 0)
  |none=>none
 | .box e x=>match j8 f x with
  |some v=>match A7 v with
   |some l=>some (.cells l e l.length,fun b=>.ptr b l.length (.int 0) 0)
   |none=>none
  |none=>none
 | .buildSlice t len parts => match ae6 f parts.toList with
  | some ps => match P.underlying t with
   | some (.slice e) => match P.info? e with
    | some ie => match ae7 P e with
     | some z => bif Nat.beq z.length ie.size && Nat.ble (len * ie.size) 16777216 && Nat.ble len 16777216 then
       match av2 (fun i=>some (i*ie.size,ie.size)) (bz5 len z) ps with
       |some cs=>some (.cells cs e ie.size,fun b=>.sl b ie.size (.int 0) (.int len) (.ex (.int len)))
       |none=>none
      else none
     |none=>none
    |none=>none
   |_=>none
  |none=>none
 |_=>none
variable (P U) in
def NwOK (τ:Tau)(F:Nat->Option Blk)(tm:T Value)(o:Op)(x:y4)(mk:Nat->SV):Prop:=
 ∃n,xnw P tm o=some n/\(∀τ',Tle τ τ'->BD P U τ' F 0 x n.blk)/\ ∀(τ':Tau) b id,τ' b=some (some (id,0))->VD P U τ' F (mk b) (n.val id)
theorem bF3 {l : List SV} {vs : List Value} {e : TypeId} (h : VDL P U τ F l vs) : (∀ τ', Tle τ τ' → BD P U τ' F 0 (.cells l e l.length) (G5 vs e vs.length)) ∧
  ∀(τ':Tau) b id,τ' b=some (some (id,0))->VD P U τ' F (.ptr b l.length (.int 0) 0) ((⟨G5 vs e vs.length,.ptr,rfl⟩:Nw).val id):=by
 refine⟨fun τ' ht=>?_,fun τ' b id hb=>?_⟩
 ·rw[h.1];exact V6 (h.mono ht (Fle.refl F)) e vs.length
 ·exact VD.ptr' hb (by show(0:Int)<=0;omega) (by show 0=0+(0:Int).toNat*_+0;simp)
theorem bH1 {f : Fm} {tm : T Value} (ht : TD P U τ F f tm) {o : Op} {x : y4} {mk : Nat → SV} (h : snw P f o = some (x, mk)) : NwOK P U τ F tm o x mk := by
 unfold snw at h;split at h
 ·split at h
  ·rename_i l hl
   cases h;obtain⟨z,h1,h2⟩:=L9 (U:=U) (τ:=τ) (F:=F) hl;exact⟨_,by simp only[xnw,ao4,h1];rfl,bF3 h2⟩
  ·cases h
 ·split at h
  ·rename_i v hv
   split at h
   ·rename_i l hl
    cases h;obtain⟨w,h1,h2⟩:=A6 (P:=P) (U:=U) ht hv;exact⟨_,by simp only[xnw,h1];rfl,bF3 (ag1 h2 hl)⟩
   ·cases h
  ·cases h
 ·rename_i t len parts
  split at h
  ·rename_i ps hps
   obtain⟨qs,hq1,hq2⟩:=ag4 (P:=P) (U:=U) ht hps;split at h
   ·rename_i e he
    split at h
    ·rename_i ie hie
     split at h
     ·rename_i z hz
      obtain⟨zv,h1,h2⟩:=L9 (U:=U) (τ:=τ) (F:=F) hz;rw[h2.1]at h;cases hb:Nat.beq zv.cells.toList.length ie.size&&Nat.ble (len*ie.size) 16777216&&Nat.ble len 16777216 with
      |false=>grind
      | true =>
       rw[hb,bJ6]at h;split at h
       ·rename_i cs hcs
        cases h;obtain⟨ys,h3,h4⟩:=ae4 (ay2 h2 len) hq2 hcs;refine⟨⟨G5 ys e ie.size,.slice len len,rfl⟩,?_,fun τ' hl=>V6 (h4.mono hl (Fle.refl F)) e ie.size,fun τ' b id hτ=>?_⟩
        ·simp only[xnw,hq1,bp9,he,hie,h1,hb,bJ6,h3]
        ·have hu : len < unk := by
          simp only[bI0,bN3]at hb;unfold unk;omega
         have:=VD.sl (P:=P) (U:=U) (F:=F) b ie.size (.int 0) (.int len) (.ex (.int len)) id 0 len hτ (bO3 0) (Int.natCast_nonneg len) ⟨Int.natCast_nonneg len,(bM0 len).symm,hu,bO3 _⟩;have e1:(E.int (len:Int)).toN U=len:=bM0 len;rw[e1]at this;have e2:(E.int 0).toN U*ie.size=0:=by show(0:Int).toNat*_=0;simp
         rw[e2]at this;exact this
       ·cases h
     ·cases h
    ·cases h
   ·cases h
  ·cases h
 ·cases h
end
theorem an9 {nx0:Nat}{m:Nat->Bool}:∀(es:List Ent) (S:Hp),(takes nx0 m es S).nx=S.nx
 | [],S=>rfl
 |e::es,S=>by
  unfold takes;cases e.nw with
  |none=>exact an9 es S
  |some n=>cases m e.i with
   |false=>exact an9 es S
   |true=>exact an9 es _
theorem ar8 {nx0:Nat}{m:Nat->Bool}{j:Nat}:∀(es:List Ent) (S:Hp),(∀e∈es,e.nw≠none->m e.i=true->j≠nx0+e.i)->(takes nx0 m es S).m.get j=S.m.get j
 | [],S,_=>rfl
 |e::es,S,h=>by
  unfold takes;have ih:=fun S=>ar8 es S fun e' he'=>h e' (bN8 _ he')
  have h0:=h e (by simp)
  cases hn:e.nw with
  |none=>exact ih S
  |some n=>
   simp only;cases hm:m e.i with
   |false=>exact ih S
   |true=>
    rw[bJ6,ih];show(S.m.set _ _).get j=_;rw[T.get_set,bJ9 (h0 (by rw[hn];simp) hm)]
theorem aK7 {nx0 : Nat} {m : Nat → Bool} {e : Ent} {n : Nw} : ∀ (es : List Ent) (S : Hp), e ∈ es → e.nw = some n → m e.i = true → es.Pairwise (fun a b => a.i ≠ b.i) → (takes nx0 m es S).m.get (nx0 + e.i) = some n.blk
 | [],S,he,_,_,_=>by simp at he
 | e' :: es, S, he, hn, hm, hp => by
  unfold takes;rw[List.pairwise_cons]at hp
  by_cases heq:e=e'
  ·subst heq
   rw[hn];simp only[hm,bJ6];rw[ar8]
   ·show(S.m.set _ _).get _=_
    rw[T.get_set,bK1 rfl]
   ·grind
  ·have he' : e ∈ es := by
    grind
   have ih:=fun S=>aK7 (nx0:=nx0) es S he' hn hm hp.2
   grind
end Go.Sx
namespace Go.Sx
open Go.Xe
structure Pd where
 b:Nat
 i:Nat
 x:y4
structure En where
 i:Nat
 pre:Nat
 w:Bool
 nr:Bool
 r:Rd
 keys:List Nat
 fr:Bool
def M6 (b:Nat):List Nat->Bool
 | []=>false
 |k::l=>bif Nat.beq b k then true else M6 b l
theorem I7 {b:Nat}:∀ {l:List Nat},M6 b l=false->b∉l
 | [],_=>by simp
 |k::l,h=>by
  unfold M6 at h
  by_cases e:b=k
  ·simp_all
  ·rw[u9 e,bJ7]at h
   simp[e,I7 h]
def av3 (a r:Rd):Bool:=match a,r with
 | .mlk t b,.mlk t' b'=>Nat.beq t t'&&Nat.beq b b'
 |_,_=>false
def ab4 (pre:Nat)(keys:List Nat)(ws:Rd)(e:En):Bool:=
 bif e.nr then(bif pre.testBit e.i then true else match e.r with
  | .free=>true
  | .frz=>true
  | .blk b=> !M6 b keys
  | .mlk t b=> !M6 b keys||av3 ws (.mlk t b)
  | .bad=>false)else true
def Z0 (pre:Nat)(r:Rd)(y:En):Bool:=
 bif y.w then(bif pre.testBit y.i then true else match r with
  | .free=>true
  | .blk b=> !M6 b y.keys
  | .mlk t b=> !M6 b y.keys||av3 y.r (.mlk t b)
  | .frz=> !y.fr
  |_=>false)else true
def PT (S0:Hp)(esX:List Ent)(k:Nat)(Sk:Hp):Prop:=(k=0/\Sk=S0)\/ ∃x∈esX,isW x=true/\k=x.i+1/\Sk=x.S2
def bk5 (P:Program)(esX:List Ent)(e:Ent)(k:Nat)(Sk:Hp):Prop:=own esX e k=true\/T6 esX e k=false\/ ∃v,xrd P e.tm Sk e.o.op=some v/\veq 1000 v e.r=true
theorem bk5.look {P:Program}{esX:List Ent}{e:Ent}{k:Nat}{Sk:Hp}(h:bk5 P esX e k Sk):aq4 P esX e k Sk=true:=by
 unfold aq4
 rcases h with h|h| ⟨v,h1,h2⟩
 ·grind
 ·grind
 ·grind
theorem bs4 {a b:Nat}(h:a<b):Nat.blt a b=true:=bI6 h
theorem bF2 {a b:Nat}(h:b<=a):Nat.blt a b=false:=by
 cases hb:Nat.blt a b
 ·rfl
 ·simp_all;omega
theorem aH2 {esX:List Ent}{e:Ent}{k:Nat}{y:Ent}(hy:y∈esX)(hw:isW y=true)(h:(y.i<k/\y.pre.testBit e.i=true)\/(k<=y.i/\e.pre.testBit y.i=true)):T6 esX e k=false:=by
 cases ha:T6 esX e k with
 |false=>rfl
 |true=>
  unfold T6 at ha;rw[bK9]at ha;have:=ha y hy;rw[hw,bJ6]at this
  rcases h with⟨h1,h2⟩| ⟨h1,h2⟩
  ·rw[bs4 h1,bJ6,h2]at this;cases this
  ·simp_all;omega
section
variable {P :Program}{S0:Hp}
theorem bk5.cons {esX:List Ent}{e eX:Ent}{k:Nat}{Sk:Hp}(h:bk5 P esX e k Sk)(h1:k<=eX.i)(h2:e.i<=eX.i):bk5 P (eX::esX) e k Sk:=by
 rcases h with h|h|h
 ·refine .inl ?_
  unfold own at h⊢;rw[List.all_cons,h,bQ7,bF2 h1,bF2 h2]
  grind
 ·refine .inr (.inl ?_)
  unfold T6 at h⊢
  grind
 ·exact .inr (.inr h)
structure DB (P:Program)(S0:Hp)(i:Nat)(τ:Tau)(F:Nat->Option Blk)(s:SS)(S:Hp)(es:List En)(esX:List Ent):Prop where
 xi:∀e∈esX,e.i<i
 wx:∀y∈esX,isW y=true-> ∃en∈es,en.w=true/\en.i=y.i/\en.pre=y.pre
 wn:∀en∈es,en.w=true-> ∃y∈esX,isW y=true/\en.i=y.i/\en.pre=y.pre
 look:∀e∈esX,e.wt=true->d6 e.o.op=1-> ∀k Sk,PT S0 esX k Sk->bk5 P esX e k Sk
 ag:∀k Sk,PT S0 esX k Sk-> ∀b x j o,s.get b=some x->τ b=some (some (j,o))->(∀en∈es,en.w=true->k<=en.i->b∉en.keys)->Sk.m.get j=S.m.get j
 af:∀k Sk,PT S0 esX k Sk->(∀en∈es,en.w=true->k<=en.i->en.fr=false)-> ∀j y,F j=some y->Sk.m.get j=some y
 rd:∀e∈esX,e.wt=true->d6 e.o.op=1->veq 1000 e.r e.r=true/\ ∃en∈es,en.nr=true/\en.i=e.i/\aQ9 P τ F e.S e.tm e.o.op e.r en.r/\
  (∀b,en.r= .blk b->(∀y∈es,y.w=true->e.i<y.i->y.pre.testBit e.i=false)-> ∃x j q,s.get b=some x/\τ b=some (some (j,q))/\S.m.get j=e.S.m.get j)/\
  ∀t b,en.r= .mlk t b->(∀y∈es,y.w=true->e.i<y.i->y.pre.testBit e.i=false)-> ∃x j q,s.get b=some x/\τ b=some (some (j,q))/\MS P t j e.S S
 am:∀t k Sk,PT S0 esX k Sk-> ∀b x j o,s.get b=some x->τ b=some (some (j,o))->(∀en∈es,en.w=true->k<=en.i->b∉en.keys\/av3 en.r (.mlk t b)=true)->MS P t j Sk S
theorem PT.le {i:Nat}{esX:List Ent}{k:Nat}{Sk:Hp}(hi:∀e∈esX,e.i<i)(h:PT S0 esX k Sk):k<=i:=by
 rcases h with⟨rfl,_⟩| ⟨x,hx,_,rfl,_⟩
 ·grind
 ·grind
theorem PT.cons {eX:Ent}{esX:List Ent}{k:Nat}{Sk:Hp}(h:PT S0 (eX::esX) k Sk):PT S0 esX k Sk\/(isW eX=true/\k=eX.i+1/\Sk=eX.S2):=by
 rcases h with h| ⟨x,hx,hw,h1,h2⟩
 ·exact .inl (.inl h)
 ·rcases bL7.1 hx with rfl|hx
  ·grind
  ·exact .inl (.inr ⟨x,hx,hw,h1,h2⟩)
theorem aQ9.mono {τ τ':Tau}{F F':Nat->Option Blk}{S:Hp}{tm:T Value}{o:Op}{v:Value}{r:Rd}(ht:Tle τ τ')(hF:Fle F F')(h:aQ9 P τ F S tm o v r):aQ9 P τ' F' S tm o v r:=by
 cases r with
 |free=>exact h
 |blk b=>obtain⟨j,q,h1,h2⟩:=h;exact⟨j,q,ht _ _ h1,h2⟩
 |frz=>
  rcases h with h| ⟨j,y,h1,h2⟩
  ·exact .inl h
  ·exact .inr ⟨j,y,hF _ _ h1,h2⟩
 |mlk t b=>obtain⟨j,q,h1,h2⟩:=h;exact⟨j,q,ht _ _ h1,h2⟩
 |bad=>trivial
theorem DB.step {i : Nat} {τ τ' : Tau} {F F' : Nat → Option Blk} {s s' : SS} {S S' : Hp} {es : List En} {esX : List Ent} (h : DB P S0 i τ F s S es esX) {en : En} {eX : Ent}
  (ht:Tle τ τ') (hF:Fle F F') (hl:∀b x,s.get b=some x->τ' b=τ b) (hfr:∀j y,F' j=some y->S'.m.get j=some y) (hfe:(isW eX=true->en.fr=false)-> ∀j y,F' j=some y->F j=some y)
  (hg:∀b,b∉en.keys->s'.get b=s.get b) (hun:∀b x j o,s.get b=some x->τ b=some (some (j,o))->b∉en.keys->S'.m.get j=S.m.get j)
  (ei:en.i=i) (xi:eX.i=i) (hp:en.pre=eX.pre) (hw:en.w=isW eX) (hS2:eX.S2=S') (hlow:isW eX=false->S'=S/\en.keys=[])
  (hf:isW eX=true->es.all (ab4 eX.pre en.keys en.r)=true)
  (hm:en.w=true-> ∀t b,av3 en.r (.mlk t b)=true-> ∃x x' j q,s.get b=some x/\s'.get b=some x'/\τ b=some (some (j,q))/\MS P t j S S')
  (hr:eX.wt=true->d6 eX.o.op=1->veq 1000 eX.r eX.r=true/\en.nr=true/\eX.S=S/\aQ9 P τ' F S eX.tm eX.o.op eX.r en.r/\(∀b,(en.r= .blk b\/ ∃t,en.r= .mlk t b)-> ∃x,s.get b=some x)/\es.all (Z0 eX.pre en.r)=true):
  DB P S0 (i+1) τ' F' s' S' (en::es) (eX::esX):=by
 have nk:∀b,(en.w=true->b∉en.keys)->b∉en.keys:=fun b hb=>by
  grind
 have k1w:d6 eX.o.op=1->isW eX=false:=fun hk=>by unfold isW;rw[hk];rfl
 have wx:∀y∈eX::esX,isW y=true-> ∃en'∈en::es,en'.w=true/\en'.i=y.i/\en'.pre=y.pre:=by
  intro y hy hyw
  rcases bL7.1 hy with rfl|hy
  ·grind
  ·obtain⟨e1,h1,h2⟩:=h.wx y hy hyw
   grind
 have wn:∀en'∈en::es,en'.w=true-> ∃y∈eX::esX,isW y=true/\en'.i=y.i/\en'.pre=y.pre:=by
  intro y hy hyw
  rcases bL7.1 hy with rfl|hy
  ·grind
  ·obtain⟨e1,h1,h2⟩:=h.wn y hy hyw
   grind
 have rd : ∀ e ∈ eX :: esX, e.wt = true → d6 e.o.op = 1 → veq 1000 e.r e.r = true ∧ ∃ en' ∈ en :: es, en'.nr = true ∧ en'.i = e.i ∧ aQ9 P τ' F' e.S e.tm e.o.op e.r en'.r ∧
   (∀b,en'.r= .blk b->(∀y∈en::es,y.w=true->e.i<y.i->y.pre.testBit e.i=false)-> ∃x j q,s'.get b=some x/\τ' b=some (some (j,q))/\S'.m.get j=e.S.m.get j)/\
   ∀t b,en'.r= .mlk t b->(∀y∈en::es,y.w=true->e.i<y.i->y.pre.testBit e.i=false)-> ∃x j q,s'.get b=some x/\τ' b=some (some (j,q))/\MS P t j e.S S':=by
  intro e he hwt hk
  rcases bL7.1 he with rfl|he
  ·obtain⟨h1,h2,h3,h4,h5,h6⟩:=hr hwt hk
   obtain⟨l1,l2⟩:=hlow (k1w hk);refine⟨h1,en,by simp,h2,by rw[ei,xi],by rw[h3];exact h4.mono (Tle.refl _) hF,fun b hb _=>?_,fun t b hb _=>?_⟩
   ·obtain⟨x,hx⟩:=h5 b (.inl hb)
    rw[hb]at h4;obtain⟨j,q,h7,_⟩:=h4
    grind
   ·obtain⟨x,hx⟩:=h5 b (.inr ⟨t,hb⟩)
    rw[hb]at h4;obtain⟨j,q,h7,_⟩:=h4;exact⟨x,j,q,by rw[hg b (by rw[l2];simp)];exact hx,h7,by rw[h3,l1];exact MS.of rfl⟩
  ·obtain⟨h1,en0,h2,h3,h4,h5,h6,h6m⟩:=h.rd e he hwt hk
   refine⟨h1,en0,by simp[h2],h3,h4,h5.mono ht hF,fun b hb hloose=>?_,fun t b hb hloose=>?_⟩
   rotate_right 1
   ·obtain⟨x,j,q,h7,h8,h9⟩:=h6m t b hb fun y hy=>hloose y (by simp[hy])
    have hbk:b∉en.keys\/en.w=true/\av3 en.r (.mlk t b)=true:=by
     cases hww:en.w with
     |false=>exact .inl (nk b fun h=>by rw[hww]at h;cases h)
     |true=>
      have h10:=hloose en (by simp) hww (by rw[ei];exact h.xi e he)
      have h11:=hf (by rw[<-hw];exact hww)
      rw[bK9]at h11;have h12:=h11 en0 h2;unfold ab4 at h12;rw[h3,bJ6,h4,<-hp,h10,bJ7,hb]at h12;simp only[bP6,bM5]at h12
      rcases h12 with h12|h12
      ·exact .inl (I7 h12)
      ·grind
    rcases hbk with hbk| ⟨hww,hso⟩
    ·exact⟨x,j,q,by rw[hg b hbk];exact h7,ht _ _ h8,h9.trans (MS.of (hun b x j q h7 h8 hbk))⟩
    ·obtain⟨_,x',j',q',_,g2,g3,g4⟩:=hm hww t b hso
     rw[h8]at g3;cases g3;exact⟨x',j,q,g2,ht _ _ h8,h9.trans g4⟩
   obtain⟨x,j,q,h7,h8,h9⟩:=h6 b hb fun y hy=>hloose y (by simp[hy])
   have hbk:b∉en.keys:=nk b fun hww=>by
    have h10:=hloose en (by simp) hww (by rw[ei];exact h.xi e he)
    have h11:=hf (by rw[<-hw];exact hww)
    rw[bK9]at h11;have h12:=h11 en0 h2;unfold ab4 at h12;rw[h3,bJ6,h4,<-hp,h10,bJ7,hb]at h12;simp only[bM5]at h12;exact I7 h12
   grind
 refine⟨fun e he=>?_,wx,wn,?_,?_,fun k Sk hpt hc j y hj=>?_,rd,fun t k Sk hpt b x j o hb hτ hno=>?_⟩
 rotate_right 1
 ·rcases hpt.cons with hpt| ⟨hw1,rfl,rfl⟩
  ·have hki:=hpt.le h.xi
   have hbk:b∉en.keys\/en.w=true/\av3 en.r (.mlk t b)=true:=by grind
   rcases hbk with hbk| ⟨hww,hso⟩
   ·rw[hg b hbk]at hb
    rw[hl b x hb]at hτ;exact(h.am t k Sk hpt b x j o hb hτ fun en' m1=>hno en' (by simp[m1])).trans (MS.of (hun b x j o hb hτ hbk))
   ·obtain⟨x0,_,j',q',g1,_,g3,g4⟩:=hm hww t b hso
    rw[hl b x0 g1,g3]at hτ;cases hτ;exact(h.am t k Sk hpt b x0 _ _ g1 g3 fun en' m1=>hno en' (by simp[m1])).trans g4
  ·rw[hS2];exact MS.of rfl
 rotate_right 1
 ·rcases hpt.cons with hpt| ⟨hw1,rfl,rfl⟩
  ·have hki:=hpt.le h.xi
   exact h.af k Sk hpt (fun en' he=>hc en' (bN8 _ he)) j y (hfe (fun hw1=>hc en (by simp) (by rw[hw];exact hw1) (by omega)) j y hj)
  ·grind
 ·rcases bL7.1 he with rfl|he
  ·omega
  ·exact Nat.lt_succ_of_lt (h.xi e he)
 ·intro e he hwt hk k Sk hpt
  rcases bL7.1 he with rfl|he
  ·obtain ⟨h1, h2, h3, h4, h5, h6⟩ := hr hwt hk
   have hnw:=k1w hk
   rcases hpt.cons with hpt| ⟨hc,_⟩
   ·have hall : ∀ en' ∈ es, Z0 e.pre en.r en' = true := bK9.1 h6
    by_cases c1:∃y∈esX,isW y=true/\k<=y.i/\e.pre.testBit y.i=true
    ·obtain⟨y,hy,c2,c3,c4⟩:=c1
     exact .inr (.inl (aH2 (bN8 _ hy) c2 (.inr ⟨c3,c4⟩)))
    ·have loose : ∀ en' ∈ es, en'.w = true → k ≤ en'.i → e.pre.testBit en'.i = false := by
      intro en' he' hw' hki;obtain⟨y,hy,d1,d2,d3⟩:=h.wn en' he' hw';cases ht:e.pre.testBit en'.i with
      |false=>rfl
      |true=>exact absurd ⟨y,hy,d1,by omega,by rw[<-d2];exact ht⟩ c1
     by_cases c2:∃y∈esX,isW y=true/\k<=y.i
     ·obtain⟨y,hy,d1,d2⟩:=c2
      obtain⟨en',e1,e2,e3,e4⟩:=h.wx y hy d1;have l1:=loose en' e1 e2 (by omega)
      have o1:=hall en' e1;unfold Z0 at o1;rw[e2,bJ6,l1,bJ7]at o1;refine .inr (.inr ⟨e.r,?_,h1⟩);cases hrr:en.r with
      |free=>rw[hrr]at h4;exact h4 Sk
      |blk b=>
       rw[hrr]at h4;obtain⟨j,q,h7,h8⟩:=h4;obtain⟨x,hx⟩:=h5 b (.inl hrr);refine h8 Sk (h.ag k Sk hpt b x j q hx (by rw[<-hl b x hx];exact h7) fun en2 m1 m2 m3=>?_)
       have o2:=hall en2 m1;unfold Z0 at o2;rw[m2,bJ6,loose en2 m1 m2 m3,bJ7,hrr]at o2;simp only[bM5]at o2;exact I7 o2
      |frz=>
       rw[hrr]at h4
       rcases h4 with h4| ⟨j,w,h7,h8⟩
       ·exact h4 Sk
       refine h8 Sk (h.af k Sk hpt (fun en2 m1 m2 m3=>?_) j w h7)
       have o2:=hall en2 m1;unfold Z0 at o2;rw[m2,bJ6,loose en2 m1 m2 m3,bJ7,hrr]at o2
       simpa using o2
      |mlk t b=>
       rw[hrr]at h4;obtain⟨j,q,h7,h8⟩:=h4;obtain⟨x,hx⟩:=h5 b (.inr ⟨t,hrr⟩);refine h8 Sk (h.am t k Sk hpt b x j q hx (by rw[<-hl b x hx];exact h7) fun en2 m1 m2 m3=>?_).symm
       have o2:=hall en2 m1;unfold Z0 at o2;rw[m2,bJ6,loose en2 m1 m2 m3,bJ7,hrr]at o2;simp only[bP6,bM5]at o2;exact o2.imp I7 id
      |bad=>rw[hrr]at o1;cases o1
     ·refine .inl ?_
      unfold own;rw[bK9];intro y hy;cases hyw:isW y with
      |false=>rfl
      | true =>
       rcases bL7.1 hy with rfl|hy
       ·grind
       ·have hlt : y.i < k := by
         rcases Nat.lt_or_ge y.i k with hh|hh
         ·exact hh
         ·exact absurd ⟨y,hy,hyw,hh⟩ c2
        have:=h.xi y hy;rw[bJ6,bs4 hlt,bs4 (by omega)]
        rfl
   ·rw[hnw]at hc;cases hc
  ·have hei := h.xi e he
   rcases hpt.cons with hpt| ⟨hw1,rfl,rfl⟩
   ·exact(h.look e he hwt hk k Sk hpt).cons (by rw[xi];exact hpt.le h.xi) (by omega)
   ·by_cases c1 : ∃ y ∈ eX :: esX, isW y = true ∧ e.i < y.i ∧ y.pre.testBit e.i = true
    ·obtain⟨y,hy,c2,c3,c4⟩:=c1
     refine .inr (.inl (aH2 hy c2 (.inl ⟨?_,c4⟩)))
     rcases bL7.1 hy with rfl|hy
     ·omega
     ·have:=h.xi y hy;omega
    ·have loose : ∀ y ∈ en :: es, y.w = true → e.i < y.i → y.pre.testBit e.i = false := by
      intro en' he' hw' hki;obtain⟨y,hy,d1,d2,d3⟩:=wn en' he' hw';cases ht:en'.pre.testBit e.i with
      |false=>rfl
      |true=>exact absurd ⟨y,hy,d1,by omega,by rw[<-d3];exact ht⟩ c1
     obtain⟨h1,en0,h2,h3,h4,h5,h6,h6m⟩:=rd e (by simp[he]) hwt hk
     refine .inr (.inr ⟨e.r,?_,h1⟩);rw[hS2];cases hrr:en0.r with
     |free=>rw[hrr]at h5;exact h5 S'
     |blk b=>
      rw[hrr]at h5;obtain⟨j,q,h7,h8⟩:=h5;obtain⟨x,j',q',h9,h10,h11⟩:=h6 b hrr loose;rw[h7]at h10;cases h10;exact h8 S' h11
     |mlk t b=>
      rw[hrr]at h5;obtain⟨j,q,h7,h8⟩:=h5;obtain⟨x,j',q',h9,h10,h11⟩:=h6m t b hrr loose;rw[h7]at h10;cases h10;exact h8 S' h11
     |frz=>
      rw[hrr]at h5
      rcases h5 with h5| ⟨j,y,h7,h8⟩
      ·exact h5 S'
      ·exact h8 S' (hfr j y h7)
     |bad=>
      have hm0:en0∈es:=by
       rcases bL7.1 h2 with rfl|hm
       ·omega
       ·exact hm
      have o1:=hf hw1;rw[bK9]at o1;have o2:=o1 en0 hm0;unfold ab4 at o2;rw[h3,bJ6,h4,<-hp,loose en (by simp) (by rw[hw,hw1]) (by omega),bJ7,hrr]at o2
      cases o2
 ·intro k Sk hpt b x j o hb hτ hno
  rcases hpt.cons with hpt| ⟨hw1,rfl,rfl⟩
  ·have hki:=hpt.le h.xi
   have hbk:b∉en.keys:=nk b fun hww=>hno en (by simp) hww (by omega)
   rw[hg b hbk]at hb;rw[hl b x hb]at hτ;rw[h.ag k Sk hpt b x j o hb hτ fun en' m1=>hno en' (by simp[m1]),hun b x j o hb hτ hbk]
  ·rw[hS2]
end
end Go.Sx
namespace Go.Sx
open Go.Xe
def tkl (pd:List Pd):List (Nat×Option y4):=pd.map fun p=>(p.b,some p.x)
def ab5 (s:SS)(pd:List Pd):SS:= {s with h:=tkl pd++s.h}
def aW7 (s:SS):SS:= {s with nx:=s.nx+1}
theorem U2 {s:SS}{b:Nat}:∀ {pd:List Pd},(∀p∈pd,b≠p.b)->(ab5 s pd).get b=s.get b
 | [],_=>rfl
 |p::pd,h=>by
  have ih:=U2 (s:=s) (pd:=pd) fun q hq=>h q (bN8 _ hq)
  unfold SS.get ab5 tkl at ih⊢;simp only[bN0,bO1,t8]
  grind
theorem aD2 {s : SS} {p : Pd} : ∀ {pd : List Pd}, p ∈ pd → pd.Pairwise (fun p q => p.b ≠ q.b) → (ab5 s pd).get p.b = some p.x
 | [],h,_=>by simp at h
 | q :: pd, h, hp => by
  rw[List.pairwise_cons]at hp
  by_cases e:q.b=p.b
  ·rcases bL7.1 h with rfl|h
   ·unfold SS.get ab5 tkl
    simp only[bN0,bO1,t8,bK1]
   ·grind
  ·have h' : p ∈ pd := by
    grind
   have ih:=aD2 (s:=s) h' hp.2;unfold SS.get ab5 tkl at ih⊢;simp only[bN0,bO1,t8]
   grind
section
variable {P :Program}{U:Nat->List Dat->Dat}{τ0:Tau}{F0:Nat->Option Blk}{s0:SS}{hp0:Hp}{n:Nat}
variable (P U) in
structure PDOK (s0:SS)(hp0:Hp)(i:Nat)(τ:Tau)(F:Nat->Option Blk)(s:SS)(esX:List Ent)(I:Nat)(p:Pd):Prop where
 lt:p.i<i
 un:I.testBit p.i=false
 g:s.get p.b=none
 lo:s0.nx<=p.b
 hi:p.b<s.nx
 t:τ p.b=some (some (hp0.nx+p.i,0))
 f:F (hp0.nx+p.i)=none
 u:∀c o,τ c=some (some (hp0.nx+p.i,o))->c=p.b
 e:∃e∈esX,e.i=p.i/\ ∃nw,e.nw=some nw/\BD P U τ F 0 p.x nw.blk
variable (P U) in
structure DA (τ0:Tau)(F0:Nat->Option Blk)(s0:SS)(hp0:Hp)(n i:Nat)(τ:Tau)(F:Nat->Option Blk)(s:SS)(S:Hp)(f:Fm)(tm:T Value)(pd:List Pd)(esX:List Ent)(I:Nat):Prop where
 sd:SD P U τ F s S
 td:TD P U τ F f tm
 ext:Ext τ0 F0 s0 hp0 τ F s S
 room:hp0.nx+n<=S.nx
 ib:∀j,i<=j->I.testBit j=false
 xd:esX.Pairwise (fun a b=>a.i≠b.i)
 pn:pd.Pairwise (fun p q=>p.b≠q.b)
 pds:∀p∈pd,PDOK P U s0 hp0 i τ F s esX I p
 cl:∀j,i<=j->j<n->(∀c o,τ c≠some (some (hp0.nx+j,o)))/\F (hp0.nx+j)=none
 tk:∀e∈esX,e.nw≠none->I.testBit e.i=false-> ∃p∈pd,p.i=e.i
variable {i :Nat}{τ:Tau}{F:Nat->Option Blk}{s:SS}{S:Hp}{f:Fm}{tm:T Value}{pd:List Pd}{esX:List Ent}{I:Nat}
theorem DA.fr (h:DA P U τ0 F0 s0 hp0 n i τ F s S f tm pd esX I){f':Fm}(hf:TD P U τ F f' tm):DA P U τ0 F0 s0 hp0 n i τ F s S f' tm pd esX I:= {h with td:=hf}
theorem Z1 {eX:Ent}(hxd:esX.Pairwise (fun a b=>a.i≠b.i))(hxi:∀e∈esX,e.i<i)(he:eX.i=i):(eX::esX).Pairwise (fun a b=>a.i≠b.i):=by
 rw[List.pairwise_cons];exact⟨fun a ha=>by have:=hxi a ha;omega,hxd⟩
theorem DA.keep (h : DA P U τ0 F0 s0 hp0 n i τ F s S f tm pd esX I) (hxi : ∀ e ∈ esX, e.i < i) {s' : SS} {f' : Fm} {tm' : T Value} {eX : Ent} (hsd : SD P U τ F s' S) (htd : TD P U τ F f' tm') (hh : s'.h = s.h) (hn : s'.nx = s.nx)
  (hex:Ext τ F s S τ F s' S) (he:eX.i=i) (hw:eX.nw=none):DA P U τ0 F0 s0 hp0 n (i+1) τ F s' S f' tm' pd (eX::esX) I:=by
 have hg:∀b,s'.get b=s.get b:=fun b=>by unfold SS.get;rw[hh]
 refine⟨hsd,htd,h.ext.trans hex,h.room,fun j hj=>h.ib j (by omega),Z1 h.xd hxi he,h.pn,fun p hp=>?_,fun j hj=>h.cl j (by omega),fun e hm hne=>?_⟩
 ·have k:=h.pds p hp
  obtain⟨e,e1,e2⟩:=k.e;exact⟨by have:=k.lt;omega,k.un,by rw[hg];exact k.g,k.lo,by rw[hn];exact k.hi,k.t,k.f,k.u,⟨e,by simp[e1],e2⟩⟩
 ·rcases bL7.1 hm with rfl|hm
  ·grind
  ·exact h.tk e hm hne
theorem DA.pend (h : DA P U τ0 F0 s0 hp0 n i τ F s S f tm pd esX I) (hxi : ∀ e ∈ esX, e.i < i) (hin : i < n) {f' : Fm} {tm' : T Value} {eX : Ent} {x : y4} {nw : Nw}
  (htd:TD P U (put τ s.nx (some (hp0.nx+i,0))) F f' tm') (hbd:BD P U (put τ s.nx (some (hp0.nx+i,0))) F 0 x nw.blk) (he:eX.i=i) (hw:eX.nw=some nw):
  DA P U τ0 F0 s0 hp0 n (i+1) (put τ s.nx (some (hp0.nx+i,0))) F (aW7 s) S f' tm' (⟨s.nx,i,x⟩::pd) (eX::esX) I:=by
 have h0:τ s.nx=none:=h.sd.new _ (bK2 _);have hle:=V0 (τ:=τ) (some (hp0.nx+i,0)) h0;obtain⟨c1,c2⟩:=h.cl i (bK2 _) hin;have hroom:=h.room;have old:∀b,b≠s.nx->put τ s.nx (some (hp0.nx+i,0)) b=τ b:=fun b hb=>y7 τ _ hb
 have hb0:∀b x,s.get b=some x->b≠s.nx:=fun b x hb=>by have:=h.sd.bound hb;omega
 refine⟨⟨fun b y hb=>?_,fun b c y z k o j q hb hc hne e1 e2=>?_,h.sd.frz,fun b j o hb=>?_,h.sd.flt,fun b hb=>?_,h.sd.fc,fun r hr=>(h.sd.fz r hr).mono hle (Fle.refl F)⟩,htd,?_,h.room,fun j hj=>h.ib j (by omega),Z1 h.xd hxi he,?_,fun p hp=>?_,fun j hj hjn=>?_,fun e hm hne hI=>?_⟩
 ·have hb':s.get b=some y:=hb
  rcases h.sd.live b y hb' with⟨k,o,z,h1,h2,h3,h4⟩| ⟨h1,h2⟩
  ·exact .inl ⟨k,o,z,by rw[old b (hb0 b y hb')];exact h1,h2,h3,h4.mono hle (Fle.refl F)⟩
  ·grind
 ·have hb':s.get b=some y:=hb
  have hc':s.get c=some z:=hc;rw[old b (hb0 b y hb')]at e1;rw[old c (hb0 c z hc')]at e2;exact h.sd.inj b c y z k o j q hb' hc' hne e1 e2
 ·by_cases e:b=s.nx
  ·subst e
   rw[l8]at hb
   grind
  ·rw[old b e]at hb;exact h.sd.lt b j o hb
 ·have:s.nx+1<=b:=hb
  rw[old b (by omega)];exact h.sd.new b (by omega)
 ·obtain⟨l,a1,a2,a3,a4,a5⟩:=h.ext.hh
  refine⟨h.ext.t.trans hle,h.ext.f,h.ext.nx,bN7 h.ext.snx (bP4 _),fun b hb=>?_,h.ext.low,⟨l,a1,a2,fun b j o hb hτ=>?_,fun j y hj hy=>?_,a5⟩,h.ext.hf⟩
  ·have:=h.ext.snx
   rw[old b (by omega)];exact h.ext.st b hb
  ·by_cases e:b=s.nx
   ·subst e
    rw[l8]at hτ
    grind
   ·grind
  ·grind
 ·rw[List.pairwise_cons]
  exact⟨fun p hp=>by have:=(h.pds p hp).hi;exact Nat.ne_of_gt this,h.pn⟩
 ·rcases bL7.1 hp with rfl|hp
  ·refine⟨bO0 i,h.ib i (bK2 _),?_,h.ext.snx,bO0 _,l8 _ _ _,c2,fun c o hc=>?_,⟨eX,by simp,he,nw,hw,hbd⟩⟩
   ·cases hq:(aW7 s).get s.nx with
    |none=>rfl
    |some y=>exact absurd rfl (hb0 s.nx y hq)
   ·grind
  ·have k:=h.pds p hp
   obtain⟨e,e1,e2,nw',e3,e4⟩:=k.e;refine⟨by have:=k.lt;omega,k.un,k.g,k.lo,Nat.lt_succ_of_lt k.hi,hle _ _ k.t,k.f,fun c o hc=>?_,⟨e,by simp[e1],e2,nw',e3,e4.mono hle (Fle.refl F)⟩⟩
   by_cases e:c=s.nx
   ·subst e
    rw[l8]at hc
    grind
   ·rw[old c e]at hc;exact k.u c o hc
 ·refine⟨fun c o hc=>?_,(h.cl j (by omega) hjn).2⟩
  by_cases e:c=s.nx
  ·subst e
   rw[l8]at hc
   grind
  ·rw[old c e]at hc;exact(h.cl j (by omega) hjn).1 c o hc
 ·rcases bL7.1 hm with rfl|hm
  ·simp_all
  ·obtain⟨p,hp,e⟩:=h.tk e hm hne hI
   grind
theorem DA.take (h : DA P U τ0 F0 s0 hp0 n i τ F s S f tm pd esX I) (m : Nat → Bool) (hm : ∀ e ∈ esX, e.nw ≠ none → (m e.i = true ↔ ∃ p ∈ pd, p.i = e.i)) :
  SD P U τ F (ab5 s pd) (takes hp0.nx m esX S)/\Ext τ0 F0 s0 hp0 τ F (ab5 s pd) (takes hp0.nx m esX S)/\(takes hp0.nx m esX S).nx=S.nx/\
  ∀j,(∀p∈pd,j≠hp0.nx+p.i)->(takes hp0.nx m esX S).m.get j=S.m.get j:=by
 have hnx:=an9 (nx0:=hp0.nx) (m:=m) esX S;have hold:∀j,(∀p∈pd,j≠hp0.nx+p.i)->(takes hp0.nx m esX S).m.get j=S.m.get j:=fun j hj=>ar8 esX S fun e he hne hme=>by
  grind
 have hnew:∀p∈pd,∃y,(takes hp0.nx m esX S).m.get (hp0.nx+p.i)=some y/\BD P U τ F 0 p.x y:=fun p hp=>by
  obtain⟨e,e1,e2,nw,e3,e4⟩:=(h.pds p hp).e;have:=aK7 (nx0:=hp0.nx) (m:=m) esX S e1 e3 ((hm e e1 (by rw[e3];simp)).2 ⟨p,hp,e2.symm⟩) h.xd
  grind
 have inv:∀b y,(ab5 s pd).get b=some y->(∃p∈pd,b=p.b/\y=p.x)\/((∀p∈pd,b≠p.b)/\s.get b=some y):=by
  intro b y hb
  by_cases c:∃p∈pd,b=p.b
  ·obtain⟨p,hp,rfl⟩:=c
   rw[aD2 hp h.pn,bH9]at hb
   grind
  ·have hn:∀p∈pd,b≠p.b:=fun p hp e=>c ⟨p,hp,e⟩
   rw[U2 hn]at hb
   grind
 have apart:∀b y j o,s.get b=some y->τ b=some (some (j,o))-> ∀p∈pd,j≠hp0.nx+p.i:=by
  intro b y j o hb hτ p hp e;subst e;have:=(h.pds p hp).u b o hτ;subst this;rw[(h.pds p hp).g]at hb;cases hb
 have hfz:∀j y,F j=some y-> ∀p∈pd,j≠hp0.nx+p.i:=fun j y hj p hp e=>by subst e;rw[(h.pds p hp).f]at hj;cases hj
 have hroom:=h.room;refine⟨⟨fun b y hb=>?_,fun b c y z k o j q hb hc hne e1 e2=>?_,fun j y hj=>by rw[hold j (hfz j y hj)];exact h.sd.frz j y hj,fun b j o hb=>by rw[hnx];exact h.sd.lt b j o hb,fun j y hj=>by rw[hnx];exact h.sd.flt j y hj,h.sd.new,h.sd.fc,h.sd.fz⟩,?_,hnx,hold⟩
 ·rcases inv b y hb with⟨p,hp,rfl,rfl⟩| ⟨hn,hb'⟩
  ·obtain⟨y,h1,h2⟩:=hnew p hp
   exact .inl ⟨_,0,y,(h.pds p hp).t,h1,(h.pds p hp).f,h2⟩
  ·rcases h.sd.live b y hb' with⟨k,o,z,h1,h2,h3,h4⟩|h1
   ·grind
   ·grind
 ·rcases inv b y hb with⟨p,hp,rfl,rfl⟩| ⟨hn,hb'⟩
  ·rw[(h.pds p hp).t]at e1
   cases e1
   rcases inv c z hc with⟨p2,hp2,rfl,rfl⟩| ⟨hn,hc'⟩
   ·rw[(h.pds p2 hp2).t]at e2
    cases e2;intro e;exact hne ((h.pds p2 hp2).u _ 0 (by rw[(h.pds p hp).t,e]))
   ·grind
  ·rcases inv c z hc with⟨p2,hp2,rfl,rfl⟩| ⟨hn2,hc'⟩
   ·rw[(h.pds p2 hp2).t]at e2
    cases e2
    grind
   ·exact h.sd.inj b c y z k o j q hb' hc' hne e1 e2
 ·obtain⟨l,a1,a2,a3,a4,a5⟩:=h.ext.hh
  have ge:∀j,j<hp0.nx-> ∀p∈pd,j≠hp0.nx+p.i:=fun j hj p hp=>by omega
  refine⟨h.ext.t,h.ext.f,by rw[hnx];exact h.ext.nx,h.ext.snx,h.ext.st,fun b y hb hlt=>?_,⟨tkl pd++l,by show tkl pd++s.h=_;rw[a1,bJ3],fun j hj hno=>?_,fun b j o hb hτ=>?_,fun j y hj hy=>?_,fun hp=>a5 fun p h=>hp p (bQ4 _ h)⟩,h.ext.hf⟩
  ·rcases inv b y hb with⟨p,hp,rfl,rfl⟩| ⟨hn,hb'⟩
   ·exact absurd hlt (Nat.not_lt.2 (h.pds p hp).lo)
   ·exact h.ext.low b y hb' hlt
  ·grind
  ·grind
  ·grind
theorem DA.write (h : DA P U τ0 F0 s0 hp0 n i τ F s S f tm pd esX I) (hxi : ∀ e ∈ esX, e.i < i) {pre : Nat} (hpre : pre < 2 ^ i) (hpd : ∀ p ∈ pd, pre.testBit p.i = true)
  {s1 s':SS} {S1 S':Hp} {τ':Tau} {F':Nat->Option Blk} {f':Fm} {tm':T Value} {eX:Ent} (hS1:S1.nx=S.nx) (hx1:Ext τ0 F0 s0 hp0 τ F s1 S1) (hex:Ext τ F s1 S1 τ' F' s' S')
  (hsd:SD P U τ' F' s' S') (htd:TD P U τ' F' f' tm') (he:eX.i=i) (hw:eX.nw=none):DA P U τ0 F0 s0 hp0 n (i+1) τ' F' s' S' f' tm' [] (eX::esX) (I|||pre):=by
 have hroom:=h.room;have cl:∀j,i+1<=j->j<n-> ∀c o,τ' c≠some (some (hp0.nx+j,o)):=by
  intro j hj hjn c o hc;have old:=(h.cl j (by omega) hjn).1
  by_cases hlt:c<s1.nx
  ·rw[hex.st c hlt]at hc;exact old c o hc
  ·rcases hex.fresh c _ o (bP7 hlt) hc with h1| ⟨b0,x,o0,h1,h2⟩
   ·omega
   ·grind
 refine⟨hsd,htd,hx1.trans hex,by have:=hex.nx;omega,fun j hj=>?_,Z1 h.xd hxi he,.nil,fun p hp=>by simp at hp,fun j hj hjn=>⟨cl j hj hjn,?_⟩,fun e hm hne hI=>?_⟩
 ·rw[Nat.testBit_or,h.ib j (by omega),Bool.false_or]
  exact Nat.testBit_lt_two_pow (bN2 hpre (Nat.pow_le_pow_right (by omega) (by omega)))
 ·cases hq:F' (hp0.nx+j)with
  |none=>rfl
  |some y=>
   obtain⟨l,_,_,_,a4,_⟩:=hex.hh
   rcases a4 _ y (by omega) hq with h1| ⟨b,o,h1,_⟩
   ·rw[(h.cl j (by omega) hjn).2]at h1;cases h1
   ·grind
 ·rcases bL7.1 hm with rfl|hm
  ·grind
  ·rw[Nat.testBit_or,Bool.or_eq_false_iff]at hI
   obtain⟨p,hp,e1⟩:=h.tk e hm hne hI.1
   grind
end
end Go.Sx
