/- The symbolic engine, parts 13, 14, 15, 16, 17, 18, 19, 20, 21, 22.
  Conditions: none. -/
import Derived.Test.YtoegfalhkackeaaGreatSm1
set_option linter.all false
namespace Go.Sx
open Go.Xe
inductive Src where
 |lit (l:As)
 |rows (L:E)
def Src.cnt (size:Nat):Src->E
 | .lit l=>.int (l.length/size:Nat)| .rows L=>A6 L
def Src.blk (e size:Nat):Src->B6
 | .lit l=>.cells l e size| .rows L=>.rows L e size (.int 0)
def Src.one :Src->Bool
 | .lit l=>l.all wF| .rows _=>true
section
variable (P :Aw)(U:Ab)
def mcut (L off len:E):M Src:=b9 (p8 U (y8 (z4 (A6 L) (y7 off len)))) fun _=>b9 (W5 U L off len) fun c=>i4 (.rows c)
def ssrc (e size:Nat)(x:SV):M Src:=
 match x with
 | .nils=>i4 (.lit [])| .sl b z off len _=>t9 fun s=>match s.get b with
  | some (.cells l e' z') => bif Nat.beq e e' && Nat.beq z size && Nat.beq z z' then
    (match off,len with
    | .int o,.int n=>bif decide (0<=o)&&decide (0<=n)&&Nat.ble ((o.toNat+n.toNat)*z) l.length then i4 (.lit ((l.drop (o.toNat*z)).take (n.toNat*z)))else a8 "elements: beyond"|off,len=>match uK P e z l with
     |some L=>mcut U L off len|none=>a8 "elements: rows")
   else a8 "elements: type"
  |some (.rows L e' z' _)=>bif Nat.beq e e'&&Nat.beq z size&&Nat.beq z z' then mcut U L off len else a8 "elements: type"|_=>a8 "elements: no block"
 | .lst e' L _=>bif Nat.beq e e'&&Nat.beq size (kf P e).length then i4 (.rows (iZ L))else a8 "elements: type"|_=>a8 "elements: value"
def Mo (e size:Nat)(x:Src):M E:=
 match x with
 | .rows L=>i4 L| .lit []=>i4 (.op .nil [])| .lit l=>bif Nat.beq size (kf P e).length&&Nat.beq (l.length/size*size) l.length then b9 (pZ (wH P U 20) (kf P e) 0 l) fun es=>i4 (.op (.rows (l.length/size) size) es)else a8 "elements: kinds"
end
section
variable {P :Aw}{U:Ab}{τ:Tau}{F:Ac}{s:SS}{hp:Hp}
variable (P U) in
def t8 (τ:Tau)(F:Ac)(e size:Nat):Src->Af->Prop
 | .lit l,vs=>VDL P U τ F l vs
 | .rows L, vs => size = (kf P e).length ∧ vs.length = (L.toR U).length * size ∧ (∀ r ∈ L.toR U, r.length = size) ∧
   ∀(r k:Nat) (row:Ar) (d:Dat),(L.toR U)[r]? =some row->row[k]? =some d-> ∃x,vs[r*size+k]? =some x/\ ∀kd,(kf P e)[k]? =some kd->PV P F kd x d
variable {e size:Nat}{x:Src}{vs:Af}
def t8.mono {τ':Tau}{F':Ac}(ht:Tle τ τ')(hf:Fle F F')(h:t8 P U τ F e size x vs):t8 P U τ' F' e size x vs:=by
 cases x with
 |lit l=>exact VDL.mono ht hf h|rows L=>obtain⟨h1,h2,h3,h4⟩:=h;exact⟨h1,h2,h3,fun r k row d hr hk=>let⟨x,k1,k2⟩:=h4 r k row d hr hk;⟨x,k1,fun kd b=>(k2 kd b).mono P hf⟩⟩
variable {v:Av}
def PV.oneCell {k:Kd}{d:Dat}(h:PV P F k v d):v.oneCell'=true:=by cases h<;>rfl
theorem t8.ones (h:t8 P U τ F e size x vs)(h1:x.one=true):vs.all Value.oneCell'=true:=by
 cases x with
 |lit l=>exact Db h h1|rows L=>
  obtain⟨B,C,w,z⟩:=h;rw[Rq];intro y hy;obtain⟨j,hj⟩:=Tf hy;have d:j<(L.toR U).length*size:=by grind
  have hs:0<size:=by grind
  have hr:=(Nat.div_lt_iff_lt_mul hs).2 d;have b:(L.toR U)[j/size]? =some (L.toR U)[j/size]:=by grind
  have hl:=w _ (Ta hr);have hk:j % size<size:=Nat.mod_lt _ hs;have A:(L.toR U)[j/size][j % size]? =some ((L.toR U)[j/size][j % size]'(by omega)):=by grind
  obtain⟨x,k1,k2⟩:=z _ _ _ _ b A;have r:j/size*size+j % size=j:=by rw[Nat.mul_comm];exact Nat.div_add_mod j size
  rw[r,hj,QI]at k1;subst k1;have g:(kf P e)[j % size]? =some ((kf P e)[j % size]'(by omega)):=by grind
  exact(k2 _ g).oneCell
def noRp :Kd->Bool
 | .rp=>false|_=>true
def PV.noR {k:Kd}{v:Av}{d:Dat}(h:PV P F k v d)(hk:noRp k=true):noR v=true:=by cases h<;>first|rfl|cases hk
theorem t8.noR {e size:Nat}{L:E}{vs:Af}(h:t8 P U τ F e size (.rows L) vs)(h1:(kf P e).all noRp=true):vs.all noR=true:=by
 obtain⟨B,C,w,z⟩:=h;rw[Rq];intro y hy;obtain⟨j,hj⟩:=Tf hy;have g:j<(L.toR U).length*size:=by grind
 have hs:0<size:=by grind
 have hr:j/size<(L.toR U).length:=(Nat.div_lt_iff_lt_mul hs).2 g;have d:(L.toR U)[j/size]? =some (L.toR U)[j/size]:=by simp[hr]
 have hl:=w _ (Ta hr);have hk:j % size<size:=Nat.mod_lt _ hs;have A:(L.toR U)[j/size][j % size]? =some ((L.toR U)[j/size][j % size]'(by omega)):=by grind
 obtain⟨x,k1,k2⟩:=z _ _ _ _ d A;have r:j/size*size+j % size=j:=by rw[Nat.mul_comm];exact Nat.div_add_mod j size
 rw[r,hj,QI]at k1;subst k1;have b:(kf P e)[j % size]? =some ((kf P e)[j % size]'(by omega)):=by grind
 rw[Rq]at h1;exact(k2 _ b).noR (h1 _ (QT b))
variable {n o:Nat}{cs:Ao}
theorem lJ (h:t8 P U τ F e size x vs)(hg:∀(j:Nat) y,vs[j]? =some y->cs.get (o+j)=some y)(hn:o+vs.length<=n):BD P U τ F o (x.blk e size) (.cells cs n e size):=by
 cases x with
 |lit l=>refine⟨cs,n,rfl,by rw[h.1];exact hn,fun j a w=>?_⟩;obtain⟨y,h1,h2⟩:=VDL.get h w;grind
 |rows L=>obtain⟨b,z,g,A⟩:=h;refine⟨cs,n,rfl,⟨by omega,b,g,fun r k row d hr hk=>?_⟩,by show o+(0:Int).toNat*size<=n;simp;omega⟩;grind
theorem t8.app {A B:E}{b g:Af}(w:t8 P U τ F e size (.rows A) b)(hb:t8 P U τ F e size (.rows B) g):t8 P U τ F e size (.rows (E9 A B)) (b++g):=by
 obtain⟨a1,a2,a3,a4⟩:=w;obtain⟨y,b2,z,h⟩:=hb;refine⟨a1,by rw[L4];simp[a2,b2,Rv],fun r hr=>?_,fun r k row d hr hk=>?_⟩;rw[L4]at hr;grind
 ·rw[L4]at hr;by_cases hlt:r<(A.toR U).length;grind
  ·rw[QR (by omega)]at hr;obtain⟨x,k1,k2⟩:=h _ k row d hr hk;refine⟨x,?_,k2⟩;have:b.length<=r*size+k:=by have:=QW size (show(A.toR U).length<=r by omega);omega
   rw[QR this,<-k1,a2];congr 1;rw[Nat.sub_mul];have:=QW size (show(A.toR U).length<=r by omega);omega
theorem G1 {z:Nat}{rows:Rows}(hr:A7 P F e z o n cs rows){off len:Int}(h0:0<=off)(h1:0<=len)(h2:off+len<=rows.length){L:E}(hL:L.toR U=pQ rows off len):∃vs,n9 cs (o+off.toNat*z) (len.toNat*z)=some vs/\o+off.toNat*z+len.toNat*z<=n/\t8 P U τ F e z (.rows L) vs/\vs.length=len.toNat*z:=by
 obtain⟨V,G,B,H⟩:=hr;have hl:=U9 h0 h1 h2;obtain⟨vs,M,N,O⟩:=C0 (R:=fun j x=>∀(r k:Nat) (row:Ar) (d:Dat),j=r*z+k->(pQ rows off len)[r]? =some row->row[k]? =some d-> ∀kd,(kf P e)[k]? =some kd->PV P F kd x d) (len.toNat*z) (o+off.toNat*z) 0 fun j hj=>by
  have hz:0<z:=by grind
  have hr:j/z<(pQ rows off len).length:=by rw[hl];exact(Nat.div_lt_iff_lt_mul hz).2 hj
  have A:(pQ rows off len)[j/z]? =some (pQ rows off len)[j/z]:=by grind
  have b:=gL A;have D:=B _ (QT b);have hk:j % z<z:=Nat.mod_lt _ hz;have J:(pQ rows off len)[j/z][j % z]? =some ((pQ rows off len)[j/z][j % z]'(by omega)):=by grind
  obtain⟨x,k1,k2⟩:=H _ _ _ _ b J;have Q:j/z*z+j % z=j:=by rw[Nat.mul_comm];exact Nat.div_add_mod j z
  refine⟨x,by rw[<-k1];congr 1;rw[Rv];omega,fun r k row d T g w kd K=>?_⟩;have y:k<z:=by grind
  obtain⟨rfl,rfl⟩:=Cd hk y (show j/z*z+j % z=r*z+k by omega);grind
 refine⟨vs,M,?_,⟨G,by grind,fun r h=>?_,fun r k row d g w=>?_⟩,N⟩
 ·have:off.toNat*z+len.toNat*z<=rows.length*z:=by rw[<-Rv];exact QW z (by omega)
  omega
 rw[hL]at h;exact B r (SI (SH h))
 ·rw[hL]at g;have y:k<z:=by have:=B _ (QT (gL g));grind
  have C:r<len.toNat:=by grind
  have hj:r*z+k<vs.length:=by
   have:r*z+z<=len.toNat*z:=by rw[<-Sh];exact QW z C
   omega
  exact⟨vs[r*z+k]'hj,QV hj,O (r*z+k) _ (by grind) r k row d (by omega) g w⟩
variable (P U) in
def Ow (hp:Hp)(e size:Nat)(v:Av)(x:Src)(τ:Tau)(F:Ac):Prop:=∃n vs,A4 hp size v=some (n,vs)/\t8 P U τ F e size x vs/\vs.length=n*size/\(x.cnt size).toI U=n
def eI {i a len c k z:Nat}{y:Blk}(hg:hp.m.get i=some y)(hr:rdC y=some (cs,k,z))(hk:a+len*size<=k)(hl:n9 cs a (len*size)=some vs):A4 hp size (.slice (some ⟨i,a,none⟩) len c)=some (len,vs):=by simp only[A4,hg,hr,QQ hk,Ra,hl]
def Hg {z:Nat}{L off len:E}{i c k e' w:Nat}(hg:hp.m.get i=some (.cells cs k e' w))(hk:n<=k)(hr:A7 P F e z o n cs (L.toR U))(h0:0<=off.toI U)(h1:0<=len.toI U):OKp U (mcut U L off len) s fun x=>Ow P U hp e z (.slice (some ⟨i,o+off.toN U*z,none⟩) (len.toN U) c) x τ F:=by
 refine OKp.need.bind fun _ _ _ _ p1=>C2.bind fun c' _ _ _ hc=>TC ?_;have p1:=A0 p1;rw[l9,j8]at p1;have b:c'.toR U=pQ (L.toR U) (off.toI U) (len.toI U):=by show(c'.den U).rows=_;rw[hc];rfl
 obtain⟨vs,d,g,h,r⟩:=G1 hr h0 h1 p1 b;refine⟨len.toN U,vs,eI hg rfl (RU g hk) d,h,r,?_⟩;show(A6 c').toI U=_;rw[j8,b,U9 h0 h1 p1]
theorem HO (X:1<=size){a:SV}(H:VD P U τ F a v)(hs:SD P U τ F s hp):OKp U (ssrc P U e size a) s fun x=>Ow P U hp e size v x τ F:=by
 unfold ssrc;split;cases H;exact TC ⟨0,[],rfl,TY,by simp,by show((0/size:Nat):Int)=0;simp⟩
 ·rename_i b z off len cap;refine TB ?_;split
  ·rename_i l e' N hb;cases hq:Nat.beq e e'&&Nat.beq z size&&Nat.beq z N with
   |false=>exact Tx|true=>
    simp only[QJ,Rz]at hq;obtain⟨⟨rfl,rfl⟩,rfl⟩:=hq;rcases hs.live b _ hb with⟨i,o,y,k1,k2,kF,cs,n,rfl,J,K⟩| ⟨k1,L',e',N,Y,k2,k3,J,K⟩
    ·cases H with
     |sl _ _ _ _ _ i' o' c g h0 h1 hc=>
      rw[k1]at g;obtain⟨rfl,rfl⟩:=g;split
      ·rename_i B A;cases hq:decide (0<=B)&&decide (0<=A)&&Nat.ble ((B.toNat+A.toNat)*z) l.length with
       |false=>exact Tx|true=>
        simp only[QJ,Rg,RQ]at hq;obtain⟨⟨q1,q2⟩,q3⟩:=hq;rw[Rv]at q3;obtain⟨vs,O,M,Z⟩:=C0 (c:=cs) (R:=fun j x=>∀a,((l.drop (B.toNat*z)).take (A.toNat*z))[j]? =some a->VD P U τ F a x) (A.toNat*z) (o+B.toNat*z) 0 fun j hj=>by
         have T:B.toNat*z+j<l.length:=by omega
         obtain⟨x,w1,w2⟩:=K (B.toNat*z+j) _ (QV T);grind
        have C:((l.drop (B.toNat*z)).take (A.toNat*z)).length=A.toNat*z:=by grind
        refine TC ⟨A.toNat,vs,eI k2 rfl (by show o+B.toNat*z+A.toNat*z<=n;omega) O,⟨by rw[C,M],fun j a x H hx=>Z j x hx a (by grind)⟩,M,?_⟩;show((((l.drop (B.toNat*z)).take (A.toNat*z)).length/z:Nat):Int)=_;rw[C,Nat.mul_div_cancel _ X]
      split;rename_i L hL;exact Hg k2 (Ri n) (oW hL J K) h0 h1;exact Tx
     |sl0 _ _ _ _ _ g h0 h1 hc=>grind
    cases k2
  ·rename_i L e' N ph hb;cases hq:Nat.beq e e'&&Nat.beq z size&&Nat.beq z N with
   |false=>exact Tx|true=>
    simp only[Ra];simp only[QJ,Rz]at hq;obtain⟨⟨rfl,rfl⟩,rfl⟩:=hq;rcases hs.live b _ hb with⟨i,o,y,k1,k2,kF,cs,n,rfl,J,K⟩| ⟨k1,L',e',N,Y,k2,k3,J,K⟩
    ·cases H with
     |sl _ _ _ _ _ i' o' c g h0 h1 hc=>rw[k1]at g;obtain⟨rfl,rfl⟩:=g;exact Hg k2 (Ri n) J h0 h1
     |sl0 _ _ _ _ _ g h0 h1 hc=>grind
    ·cases H with
     |sl _ _ _ _ _ i' o' c g h0 h1 hc=>grind|sl0 _ _ _ _ _ g h0 h1 hc=>
      obtain⟨rfl,rfl,rfl,rfl⟩:=k2;refine OKp.need.bind fun _ _ _ _ p1=>C2.bind fun c' _ _ _ Q=>TC ?_;have E:c'.toR U=[]:=by show(c'.den U).rows=_;rw[Q,k3];simp[pQ,Dat.rows]
      refine⟨0,[],by simp[A4],⟨J,by rw[E];simp,fun r h=>(by grind),fun r k row d h=>by rw[E]at h;simp at h⟩,by simp,?_⟩;show(A6 c').toI U=0;rw[j8,E];rfl
  exact Tx
 ·rename_i e' L clip;cases hq:Nat.beq e e'&&Nat.beq size (kf P e).length with
  |false=>exact Tx|true=>
   simp only[QJ,Rz]at hq;obtain⟨rfl,hk⟩:=hq;cases H with
   |lst _ _ _ _ hv hc=>
    refine TC ?_;have D:(iZ L).toR U=L.toR U:=by show((iZ L).den U).rows=_;rw[mN];rfl
    have w:((Src.rows (iZ L)).cnt size).toI U=((L.toR U).length:Int):=by show(A6 (iZ L)).toI U=_;rw[j8,D]
    generalize W:L.toR U=rows at hv D w;cases hv with
    |nils=>exact⟨0,[],by simp[A4],⟨hk,by rw[D];simp,fun r h=>(by grind),fun r k row d h=>by rw[D]at h;simp at h⟩,by simp,by rw[w];rfl⟩|vague=>exact⟨0,[],by simp[A4],⟨hk,by rw[D];simp,fun r h=>(by grind),fun r k row d h=>by rw[D]at h;simp at h⟩,by simp,by rw[w];rfl⟩|sl _ i o c b cs n z _ x hF hb aa hn hz hr hx ab=>
     have hg:=hs.frz i b hF;have V:A7 P F e z o n cs rows:=⟨hn,hz,hr,fun r k row d h1 h2=>(by grind)⟩
     have G:pQ rows 0 rows.length=rows:=by simp[pQ]
     obtain⟨vs,O,M,Z,v4⟩:=G1 V (len:=rows.length) (Sd 0) (by omega) (by omega) (by rw[D,G]);have e1:(0:Int).toNat*z=0:=by simp
     rw[e1,Sf,RA]at O M;have ez:z=size:=by omega
     subst ez;exact⟨rows.length,vs,eI hg hb M O,Z,v4,w⟩
 exact Tx
theorem Bq (h:t8 P U τ F e size x vs)(hs:SD P U τ F s hp):OKh P U (Mo P U e size x) τ F s hp fun L τ' F' hp'=>τ'=τ/\hp'=hp/\(size=(kf P e).length->t8 P U τ' F' e size (.rows L) vs):=by
 unfold Mo;split;exact Tw ⟨rfl,rfl,fun _=>h⟩;have hv:=QP h.1.symm;subst hv;exact Tw ⟨rfl,rfl,fun hk=>⟨hk,by show 0=([]:Rows).length*size;simp,fun r h=>(by cases h),fun r k row d h=>by have:([]:Rows)[r]? =some row:=h;simp at this⟩⟩
 ·rename_i l _;cases hq:Nat.beq size (kf P e).length&&Nat.beq (l.length/size*size) l.length with
  |false=>exact Tu|true=>
   simp at hq;obtain⟨J,K⟩:=hq;refine(cO (ks:=kf P e) (j:=0) (fun k a v τ F s hp=>aY 20 k a v τ F s hp) h hs).bind fun es τ1 F1 s1 hp1 ex hs1 ⟨w,z,A,G⟩=>Tw ⟨w,z,fun hk=>?_⟩;have C:vs.length=es.length:=by rw[A];exact h.1.symm
   have hr:A7 P F1 e size 0 vs.length (fill .e 0 vs) ((E.op (.rows (l.length/size) size) es).toR U):=bP hk (by omega) (by omega) fun j d H=>by
    have hj:j<vs.length:=by grind
    have b:vs[j]? =some vs[j]:=by grind
    refine⟨vs[j],by rw[Rr];exact K2 vs j _ b,fun D B=>?_⟩;grind
   have g:((E.op (.rows (l.length/size) size) es).toR U).length=l.length/size:=by show(d8 size (l.length/size) _).length=_;rw[L3]
   refine⟨hk,by grind,hr.2.2.1,fun r k row d h1 h2=>?_⟩;obtain⟨y,k1,k2⟩:=hr.2.2.2 r k row d h1 h2;refine⟨y,?_,k2⟩;rw[Rr,l8]at k1;split at k1;grind;rw[TP]at k1;cases k1
end
section
variable (P :Aw)(U:Ab)
def aZ (e size:Nat)(x:Src)(len:E):M SV:=b9 (bQ (x.blk e size)) fun b=>i4 (.sl b size (.int 0) len .ge)
def smove (e size b:Nat)(x:Src)(len:E)(cp:Cp):M SV:=fun s=>.ret (.sl s.nx size (.int 0) len cp,fH (s.set b none) (x.blk e size))
def uN (e size b:Nat)(off len:E)(cap:Cp)(src:Src):M SV:=
 b9 (Mo P U e size src) fun Ln=>t9 fun s=>match s.get b with
 | some (.rows L e' z' ph) => bif Nat.beq e e' && Nat.beq size z' && Nat.beq size (kf P e).length then
   b9 (p8 U (y8 (z4 (A6 L) (y7 off len)))) fun _=>b9 (p8 U (z4 (y7 len (A6 Ln)) (.int 67108865))) fun _=>
   match cap with
   | .ge=>b9 (W5 U L off len) fun Lo=>smove e size b (.rows (E9 Lo Ln)) (y7 len (A6 Ln)) .ge
   | .un=>b9 (W5 U L off len) fun Lo=>smove e size b (.rows (E9 Lo Ln)) (y7 len (A6 Ln)) .un
   | .ex c => b9 (gG U (z4 c (y7 len (A6 Ln)))) fun t =>
     bif t then b9 (W5 U L off len) fun Lo=>aZ e size (.rows (E9 Lo Ln)) (y7 len (A6 Ln))
     else b9 (p8 U (y8 (z4 ph (y7 off c)))) fun _=>b9 (jA b (some (.rows (.op .over [L,y7 off len,Ln]) e z' ph))) fun _=>i4 (.sl b size off (y7 len (A6 Ln)) (.ex c))
  else a8 "append: type"
 |_=>a8 "append: block"
def sapp (e size:Nat)(s:SV)(src:Src):M SV:=
 match s with
 | .nils=>match src with
  | .lit []=>i4 .nils|src=>b9 (p8 U (z4 (src.cnt size) (.int 67108865))) fun _=>aZ e size src (src.cnt size)
 | .sl b z off len cap => bif Nat.beq z size && src.one then t9 fun st => match st.get b with
   |some (.cells l e' z')=>match off,len,src with
    | .int o, .int n, .lit m => bif Nat.beq e e' && Nat.beq z z' && decide (0 ≤ o) && decide (0 ≤ n) && Nat.ble ((o.toNat + n.toNat) * z) l.length && Nat.ble (n.toNat + m.length / size) 67108864 && Nat.beq (m.length / size * size) m.length then
      match cap with
      | .ge=>smove e size b (.lit ((l.drop (o.toNat*z)).take (n.toNat*z)++m)) (.int (n.toNat+m.length/size:Nat)) .ge| .un=>a8 "append: cells"
      | .ex c => b9 (gG U (z4 c (.int (n.toNat + m.length / size : Nat)))) fun t =>
        bif t then aZ e size (.lit ((l.drop (o.toNat*z)).take (n.toNat*z)++m)) (.int (n.toNat+m.length/size:Nat))
        else bif Nat.ble ((o.toNat+n.toNat)*z+m.length) l.length then b9 (jA b (some (.cells (Q8 l ((o.toNat+n.toNat)*z) m) e' z'))) fun _=>i4 (.sl b z (.int o) (.int (n.toNat+m.length/size:Nat)) (.ex c))else a8 "append: room"
     else a8 "append: literal"
    |off,len,src=>b9 (yA P b) fun _=>uN P U e size b off len cap src
   |some (.rows _ _ _ _)=>uN P U e size b off len cap src|_=>a8 "append: no block"
  else a8 "append: size"
 | .lst e' L true => bif Nat.beq e e' && Nat.beq size (kf P e).length && src.one then
   b9 (gG U (E4 (src.cnt size) (.int 0))) fun t=>bif t then b9 (p8 U (z4 (A6 L) (.int 67108865))) fun _=>i4 (.lst e' L true)else
    b9 (Mo P U e size src) fun Ln=>b9 (p8 U (z4 (y7 (A6 L) (A6 Ln)) (.int 67108865))) fun _=>aZ e size (.rows (E9 (iZ L) Ln)) (y7 (A6 L) (A6 Ln))
  else a8 "append: type"
 |_=>a8 "append: value"
def HA (t u:Ax)(s x:SV):M SV:=
 match P.underlying t,P.underlying u with
 |some (.slice e),some (.slice _)=>match P.info? e with
  |none=>a8 "append: type"|some ie=>match ie.zero with
   |none=>a8 "append: zero"|some z=>bif Nat.beq z.cells.toList.length ie.size&&Nat.ble ie.bytes 1048576&&Nat.ble 1 ie.size then b9 (ssrc P U e ie.size x) fun src=>sapp P U e ie.size s src else a8 "append: size"
 |_,_=>a8 "append: type"
end
section
variable {P :Aw}{U:Ab}{τ:Tau}{F:Ac}{s:SS}{hp:Hp}
noncomputable def aO (hp:Hp)(e size n:Nat)(news:Af)(s:Av):Bb (Av×Hp):=
 match s with
 | .slice none sLen sCap => bif Nat.beq sLen 0 && Nat.beq sCap 0 && Nat.ble n 67108864 then
   bif Nat.beq n 0 then some (.slice none 0 0,hp)
   else some (.slice (some ⟨hp.nx,0,none⟩) n (d9 n 0),hp.new news e size)
  else none
 | .slice (some ⟨i,o,none⟩) sLen sCap=>match hp.m.get i with
  |some (.cells c k e' z')=>
   bif Nat.ble (sLen+n) 67108864&&news.all Value.oneCell' then
    bif Nat.beq n 0 then
     bif Nat.ble sLen sCap then some (.slice (some ⟨i,o,none⟩) sLen sCap,hp)else none
    else
     bif Nat.ble unk sCap then
      bif Nat.ble 1 (E8 sCap)&&Nat.ble (E8 sCap) (sLen+n)then
       bif Nat.ble (o+sLen*size) k then
        match n9 c o (sLen*size)with
        |none=>none|some olds=>some (.slice (some ⟨hp.nx,0,none⟩) (sLen+n) (d9 (sLen+n) 0),hp.new (olds++news) e size)
       else none
      else bif Nat.beq z' size&&Nat.beq e' e&&Nat.ble (o+sLen*size) k then
       bif Nat.ble (sLen+n) (P1 sCap)then
        some (.slice (some ⟨i,o,none⟩) (sLen+n) sCap,pL hp i c (Nat.max k (o+(sLen+n)*size)) e' z' (o+sLen*size) news)
       else
       match n9 c o (sLen*size)with
       |none=>none|some olds=>
        (bif Nat.beq o 0 then fill c (sLen*size) news else fill (fill .e 0 olds) (sLen*size) news).force fun ct=>
         some (.slice (some ⟨hp.nx,0,none⟩) (sLen+n) (d9 (sLen+n) 0),⟨(hp.m.set i none).set hp.nx (some (.cells ct ((sLen+n)*size) e' z')),hp.nx+1⟩)
      else none
     else bif Nat.ble (sLen+n) sCap then
      bif Nat.ble (o+(sLen+n)*size) k then
       some (.slice (some ⟨i,o,none⟩) (sLen+n) sCap,pL hp i c k e' z' (o+sLen*size) news)
      else none
     else
      bif Nat.ble (o+sLen*size) k then
       match n9 c o (sLen*size)with
       |none=>none|some olds=>some (.slice (some ⟨hp.nx,0,none⟩) (sLen+n) (d9 (sLen+n) 0),hp.new (olds++news) e size)
      else none
   else none
  |some (.ro c k _ _)=>
   bif Nat.ble (sLen+n) 67108864&&Nat.ble sLen sCap&& !Nat.ble unk sCap then
    bif Nat.beq n 0 then some (.slice (some ⟨i,o,none⟩) sLen sCap,hp)
    else bif Nat.ble (sLen+n) sCap then none
    else bif Nat.ble (o+sLen*size) k then
     match n9 c o (sLen*size)with
     |none=>none|some olds=>some (.slice (some ⟨hp.nx,0,none⟩) (sLen+n) (d9 (sLen+n) 0),hp.new (olds++news) e size)
    else none
   else none
  |_=>none
 |_=>none
variable {n:Nat}{news:Af}
def Gs {t u e d:Ax}{ie:Ba}{z:Av}(ht:P.underlying t=some (.slice e))(g:P.underlying u=some (.slice d))(hi:P.info? e=some ie)(hz:ie.zero=some z)(hb:(Nat.beq z.cells.toList.length ie.size&&Nat.ble ie.bytes 1048576)=true){b xv:Av}(hx:A4 hp ie.size xv=some (n,news)):E0 P hp t u b xv=aO hp e ie.size n news b:=by simp only[E0,ht,g,hi,hz,hb,Ra,hx];rfl
variable (P U) in
def rR (hp:Hp)(e size n:Nat)(news:Af)(sv:Av)(c:SV)(τ:Tau)(F:Ac)(hp':Hp):Prop:=∃w,aO hp e size n news sv=some (w,hp')/\VD P U τ F c w
def geN {len:E}(h:len.toI U=n)(hn:n<=67108864):lX U len .ge (d9 n 0):=⟨n,rfl,hn,by omega⟩
def Ew (z:Nat):0+(E.int 0).toN U*z=0:=by show 0+(0:Int).toNat*z=0;simp
def pB {len:E}(h:len.toI U=n):len.toN U=n:=by show(len.toI U).toNat=n;rw[h];exact RA n
variable {e size:Nat}
def K6 {x:Src}{vs:Af}{len:E}(h:t8 P U τ F e size x vs)(d:len.toI U=n)(hn:n<=67108864)(hs:SD P U τ F s hp):OKh P U (aZ e size x len) τ F s hp fun c τ' F' hp'=>hp'=hp.new vs e size/\VD P U τ' F' c (.slice (some ⟨hp.nx,0,none⟩) n (d9 n 0)):=by exact(Tq hs fun τ' ht=>lJ (h.mono ht (Tn F)) (fun j y hy=>by rw[Rr];exact K2 vs j y hy) (by omega)).bind fun b τ' F' s' hp' _ g ⟨h1,h2,h3⟩=>Tw ⟨h3,TW h2 (Sd 0) (by omega) (geN d hn) (Ew size).symm (pB d).symm⟩
def OKh.smove {e size b i o j q n c:Nat}{x:B6}{x':Src}{len:E}{cp:Cp}(hb:s.get b=some x)(ht:τ b=some (some (i,o))){hp1:Hp}(hn:hp.nx<=hp1.nx)(hk:∀k,k<hp.nx->k≠i->hp1.m.get k=hp.m.get k)(hj:j=i\/hp.nx<=j)(g:j<hp1.nx){y:Blk}(hi:hp1.m.get j=some y)(h:∀τ',Tle τ τ'->BD P U τ' F q (x'.blk e size) y)(d:len.toI U=n)(hc:lX U len cp c)(hs:SD P U τ F s hp):OKh P U (smove e size b x' len cp) τ F s hp fun a τ' F' hp'=>hp'=hp1/\VD P U τ' F' a (.slice (some ⟨j,q,none⟩) n c):=by intro Q hq _;have h0:=hs.new _ (Ri _);obtain⟨h1,h2⟩:=hs.move hb ht hn hk hj g hi (h _ (bO _ h0));exact⟨_,_,hq,_,F,hp1,h1,h2,rfl,TW (u5 _ _ _) (Sd 0) (by omega) hc (by show q=q+(0:Int).toNat*size;simp) (pB d).symm⟩
variable {cs:Ao}{olds:Af}
theorem dL {a:Nat}(h:∀(j:Nat) y,olds[j]? =some y->cs.get (a+j)=some y)(j:Nat)(y:Av)(hy:(olds++news)[j]? =some y):(fill cs (a+olds.length) news).get (a+j)=some y:=by rw[l8];grind
variable {i k q sLen:Nat}{res:Src}
theorem EF {b o lo:Nat}{x:B6}{len:E}{cp:Cp}(C:∀c,lX U len .ge c->lX U len cp c)(hb:s.get b=some x)(ht:τ b=some (some (i,o)))(hg:hp.m.get i=some (.cells cs k e size))(hl:n9 cs q (sLen*size)=some olds)(hk:q+sLen*size<=k)(Q:news.all Value.oneCell'=true)(R:news.length=n*size)(J:lo<=67108864)(N:sLen+n<=67108864)(z:t8 P U τ F e size res (olds++news))(g:len.toI U=((sLen+n:Nat):Int))(hs:SD P U τ F s hp):OKh P U (smove e size b res len cp) τ F s hp (rR P U hp e size n news (.slice (some ⟨i,q,none⟩) sLen (d9 lo 0))):=by
 have H:=hs.lt b i o ht;obtain⟨V,W⟩:=q7 hl;have M:∀(j:Nat) y,olds[j]? =some y->cs.get (q+j)=some y:=fun j y hy=>by grind
 have hx:∀w hp1,aO hp e size n news (.slice (some ⟨i,q,none⟩) sLen (d9 lo 0))=some (w,hp1)->(∀a τ' F' hp',Tle τ τ'->Fle F F'->hp'=hp1/\VD P U τ' F' a w->rR P U hp e size n news (.slice (some ⟨i,q,none⟩) sLen (d9 lo 0)) a τ' F' hp'):=
  fun w hp1 h a τ' F' hp' _ _ ⟨h1,h2⟩=>⟨w,by grind,h2⟩
 have r:(Nat.ble (sLen+n) 67108864&&news.all Value.oneCell')=true:=by simp_all
 by_cases L:n=0
 ·
  subst L;have D:news=[]:=QP (by omega);subst D;have G:∀c,unk<=c->Nat.ble sLen c=true:=fun c hc=>QQ (RU (Nat.le_of_lt (rO (by omega))) hc);have O:∀c,unk<=c->aO hp e size 0 [] (.slice (some ⟨i,q,none⟩) sLen c)=some (.slice (some ⟨i,q,none⟩) sLen c,hp):=by intro c hc;simp only[aO,hg,r,Ra,G c hc];rfl
  have d:=O _ (u7 lo 0);exact(OKh.smove hb ht (Ri _) (fun _ _ _=>rfl) (.inl rfl) H hg (fun τ' A=>lJ (z.mono A (Tn F)) (by grind) (by grind)) g (C _ ⟨lo,rfl,J,by omega⟩) hs).mono (hx _ _ d)
 ·have d:aO hp e size n news (.slice (some ⟨i,q,none⟩) sLen (d9 lo 0))=bif Nat.ble (sLen+n) lo then
    some (.slice (some ⟨i,q,none⟩) (sLen+n) (d9 lo 0),pL hp i cs (Nat.max k (q+(sLen+n)*size)) e size (q+sLen*size) news)
    else(bif Nat.beq q 0 then fill cs (sLen*size) news else fill (fill .e 0 olds) (sLen*size) news).force fun ct=>
     some (.slice (some ⟨hp.nx,0,none⟩) (sLen+n) (d9 (sLen+n) 0),⟨(hp.m.set i none).set hp.nx (some (.cells ct ((sLen+n)*size) e size)),hp.nx+1⟩):=by
   simp only[aO,hg,r,Ra,z6 L,Rb,QQ (u7 lo 0),Cu,rY];rw[show Nat.ble 1 0=false from rfl,Bool.false_and,Rb,v9 rfl,v9 rfl,QQ hk,hl];grind
  have K:(sLen+n)*size=sLen*size+n*size:=Rv _ _ _;cases B:Nat.ble (sLen+n) lo with
  |true=>
   rw[B,Ra]at d;simp only[pL,TO]at d;refine(OKh.smove (hp:=hp) (hp1:= {hp with m:=hp.m.set i (some (.cells (fill cs (q+sLen*size) news) (Nat.max k (q+(sLen+n)*size)) e size))}) hb ht (Ri _)
    (fun j _ hj=>by rw[TQ,Re hj]) (.inl rfl) H (by rw[TQ,Rh rfl]) (fun τ' A=>?_) g (C _ ⟨lo,rfl,J,by omega⟩) hs).mono (hx _ _ d)
   refine lJ (z.mono A (Tn F)) (fun j y hy=>?_) ?_;rw[<-V];exact dL M j y hy;grind
  |false=>
   rw[B,Rb,TO]at d;refine(OKh.smove hb ht (Ss _)
    (fun j hj D=>by rw[TQ,Re (by omega),TQ,Re D]) (.inr (Ri _)) (RY _) (by rw[TQ,Rh rfl]) (fun τ' A=>?_) g (C _ (geN g N)) hs).mono (hx _ _ d)
   refine lJ (z.mono A (Tn F)) (fun j y hy=>?_) (by grind);by_cases hq:q=0;rw[v9 hq,Ra];have:=dL (by omega) j y hy;grind;rw[z6 hq,Rb];have:=dL (fun j y hy=>by rw[Rr];exact K2 olds j y hy) j y hy;grind
theorem Kc {b o:Nat}{x:B6}{len:E}(hb:s.get b=some x)(ht:τ b=some (some (i,o)))(hg:hp.m.get i=some (.cells cs k e size))(hl:n9 cs q (sLen*size)=some olds)(hk:q+sLen*size<=k)(H:news.all Value.oneCell'=true)(J:news.length=n*size)(w:sLen<unk)(A:sLen+n<=67108864)(h:t8 P U τ F e size res (olds++news))(d:len.toI U=((sLen+n:Nat):Int))(hs:SD P U τ F s hp):OKh P U (smove e size b res len .un) τ F s hp (rR P U hp e size n news (.slice (some ⟨i,q,none⟩) sLen sLen)):=by
 have B:=hs.lt b i o ht;obtain⟨K,L⟩:=q7 hl;have G:∀(j:Nat) y,olds[j]? =some y->cs.get (q+j)=some y:=fun j y hy=>by grind
 have g:(Nat.ble (sLen+n) 67108864&&news.all Value.oneCell')=true:=by simp_all
 by_cases z:n=0
 ·subst z;have C:news=[]:=QP (by omega);subst C;have D:aO hp e size 0 [] (.slice (some ⟨i,q,none⟩) sLen sLen)=some (.slice (some ⟨i,q,none⟩) sLen sLen,hp):=by simp only[aO,hg,g,Ra,QQ (Ri sLen)];rfl
  exact(OKh.smove (cp:= .un) (q:=q) hb ht (Ri _) (fun _ _ _=>rfl) (.inl rfl) B hg (fun τ' r=>lJ (h.mono r (Tn F)) (by grind) (by grind)) d (Or.inl ⟨w,(pB d).symm,by omega⟩) hs).mono fun a τ' F' hp' _ _ ⟨h1,h2⟩=>⟨_,by grind,h2⟩
 ·have D:aO hp e size n news (.slice (some ⟨i,q,none⟩) sLen sLen)=some (.slice (some ⟨hp.nx,0,none⟩) (sLen+n) (d9 (sLen+n) 0),hp.new (olds++news) e size):=by simp only[aO,hg,g,Ra,z6 z,Rb,aS w,aS (show sLen<sLen+n by omega),QQ hk,hl]
  refine(OKh.smove (cp:= .un) (hp1:=hp.new (olds++news) e size) (q:=0) hb ht (Ss _)
   (fun j hj _=>by show(hp.m.set hp.nx _).get j=_;rw[TQ,Re (by omega)]) (.inr (Ri _)) (RY _) (by show(hp.m.set hp.nx _).get hp.nx=_;rw[TQ,Rh rfl]) (fun τ' r=>?_) d (Or.inr (geN d A)) hs).mono fun a τ' F' hp' _ _ ⟨h1,h2⟩=>⟨_,by grind,h2⟩
  exact lJ (h.mono r (Tn F)) (fun j y hy=>by rw[Rr];exact K2 _ j y hy) (by omega)
theorem GM {c:Nat}{len:E}(hg:hp.m.get i=some (.cells cs k e size))(hl:n9 cs q (sLen*size)=some olds)(hk:q+sLen*size<=k)(g:news.all Value.oneCell'=true)(r:c<unk)(w:sLen<=c)(hgt:c<sLen+n)(b:sLen+n<=67108864)(h:t8 P U τ F e size res (olds++news))(d:len.toI U=((sLen+n:Nat):Int))(hs:SD P U τ F s hp):OKh P U (aZ e size res len) τ F s hp (rR P U hp e size n news (.slice (some ⟨i,q,none⟩) sLen c)):=by
 have y:aO hp e size n news (.slice (some ⟨i,q,none⟩) sLen c)=some (.slice (some ⟨hp.nx,0,none⟩) (sLen+n) (d9 (sLen+n) 0),hp.new (olds++news) e size):=by simp only[aO,hg];rw[show(Nat.ble (sLen+n) 67108864&&news.all Value.oneCell')=true by simp only[QJ,RQ];exact⟨b,g⟩];simp only[Ra,z6 (show n≠0 by omega),Rb,aS r,aS hgt,QQ hk,hl]
 exact(K6 h d b hs).mono fun a τ' F' hp' _ _ ⟨h1,h2⟩=>⟨_,by grind,h2⟩
theorem Ke {c:Nat}(hg:hp.m.get i=some (.cells cs k e size))(y:news.all Value.oneCell'=true)(A:news.length=n*size)(g:c<unk)(h:sLen<=c)(r:sLen+n<=c)(z:sLen+n<=67108864)(hk:q+(sLen+n)*size<=k){e0:Nat}:∃m,aO hp e0 size n news (.slice (some ⟨i,q,none⟩) sLen c)=some (.slice (some ⟨i,q,none⟩) (sLen+n) c,{hp with m:=m})/\(∀j,j≠i->m.get j=hp.m.get j)/\m.get i=some (.cells (fill cs (q+sLen*size) news) k e size):=by
 have b:(Nat.ble (sLen+n) 67108864&&news.all Value.oneCell')=true:=by simp_all
 by_cases d:n=0;subst d;have w:news=[]:=QP (by omega);subst w;refine⟨hp.m,?_,fun _ _=>rfl,hg⟩;simp only[aO,hg,b,Ra,v9,QQ h];rfl;refine⟨hp.m.set i (some (.cells (fill cs (q+sLen*size) news) k e size)),?_,fun j hj=>by rw[TQ,Re hj],by rw[TQ,Rh rfl]⟩;simp only[aO,hg,b,Ra,z6 d,Rb,aS g,QQ r,QQ hk,pL,TO]
end
section
variable {P :Aw}{U:Ab}{τ:Tau}{F:Ac}{s:SS}{hp:Hp}
theorem OKh.change0 {b:Nat}{x:B6}(hb:s.get b=some x)(ht:τ b=some none){x':B6}(hx:∃L e z ph,x'= .rows L e z ph/\L.toR U=[]/\z=(kf P e).length/\ph.toI U<=0)(hs:SD P U τ F s hp):OKh P U (jA b (some x')) τ F s hp fun _ τ' F' hp'=>τ'=τ/\F'=F/\hp'=hp:=by
 intro Q hq _;have liv:∀c y,(s.set b (some x')).get c=some y-> ∃y,s.get c=some y:=by intro c y hc;rw[TH]at hc;grind
 refine⟨(),_,hq,τ,F,hp,⟨TS τ,Tn F,Ri _,Ri _,fun _ _=>rfl,fun c y hc _=>liv c y hc,⟨[(b,some x')],rfl,fun _ _ _=>rfl,fun c j q hc h=>(by rw[hs.new c hc]at h;cases h),fun _ _ _ h=>.inl h,fun _ _ _ h=>h⟩,⟨[],rfl⟩,⟨[(b,some x')],rfl,fun _ _ _ _ _ _ cs _ _ _ _ hg _=>⟨cs,hg,fun _ _=>rfl⟩⟩⟩,
  ⟨fun c y hc=>?_,fun c d y z j q k r hc B g w A=>?_,hs.frz,hs.lt,hs.flt,hs.new,hs.fc,hs.fz⟩,rfl,rfl,rfl⟩
 rw[TH]at hc;by_cases e:c=b;grind;rw[Re e]at hc;exact hs.live c y hc;obtain⟨C,hy⟩:=liv c y hc;obtain⟨D,hz⟩:=liv d z B;exact hs.inj c d C D j q k r hy hz g w A
variable {e n size:Nat}{vs:Af}
theorem DK {L len:E}(h:t8 P U τ F e size (.rows L) vs)(g:vs.length=n*size)(b:len.toI U=n)(d:(L.toR U).length=n)(hn:n<=67108864)(hs:SD P U τ F s hp):OKh P U (aZ e size (.rows L) len) τ F s hp fun c τ' F' hp'=>(n=0/\hp'=hp/\VD P U τ' F' c (.slice none 0 0))\/(n≠0/\hp'=hp.new vs e size/\VD P U τ' F' c (.slice (some ⟨hp.nx,0,none⟩) n (d9 n 0))):=by by_cases h0:n=0;subst h0;intro Q hq _;have hL:=QP d;obtain⟨h1,h2⟩:=hs.alloc (Ri _) (fun _ _=>rfl) (.inr ⟨rfl,L,e,size,.int 0,rfl,hL,h.1,Sd 0⟩);exact⟨_,_,hq,_,F,hp,h1,h2,.inl ⟨rfl,rfl,.sl0 s.nx size (.int 0) len .ge (u5 _ _ _) rfl b (fun e he=>by grind)⟩⟩;exact(K6 h b hn hs).mono fun c τ' F' hp' _ _ ⟨h1,h2⟩=>.inr ⟨h0,h1,h2⟩
variable {news:Af}
def J3 (hn:n<=67108864):aO hp e size n news (.slice none 0 0)=bif Nat.beq n 0 then some (.slice none 0 0,hp)else some (.slice (some ⟨hp.nx,0,none⟩) n (d9 n 0),hp.new news e size):=by simp only[aO];rw[show(Nat.beq 0 0&&Nat.beq 0 0&&Nat.ble n 67108864)=true by simp only[QJ,RQ];exact⟨⟨rfl,rfl⟩,hn⟩,Ra]
def lZ {L:E}(b:1<=size)(h:t8 P U τ F e size (.rows L) vs)(d:vs.length=n*size):(L.toR U).length=n:=by have:=h.2.1;rw[d]at this;exact(Nat.eq_of_mul_eq_mul_right b this).symm
def toUn :SV->SV
 | .sl b z off len .ge=>.sl b z off len .un|a=>a
variable {v:Av}
theorem Od {a:SV}(h:VD P U τ F a v):VD P U τ F (toUn a) v:=by
 unfold toUn;split
 ·cases h with
  |sl _ _ _ _ _ i o c h h0 h1 hc=>exact .sl _ _ _ _ .un i o c h h0 h1 (Or.inr hc)|sl0 _ _ _ _ _ h h0 h1 hc=>exact .sl0 _ _ _ _ .un h h0 h1 (fun e he=>by grind)
 exact h
theorem qI {b:Nat}(al:1<=size){off len:E}{cap:Cp}{src:Src}(ha:VD P U τ F (.sl b size off len cap) v)(ah:t8 P U τ F e size src news)(M:news.length=n*size)(B:news.all Value.oneCell'=true)(hs:SD P U τ F s hp):OKh P U (uN P U e size b off len cap src) τ F s hp (rR P U hp e size n news v):=by
 refine(Bq ah hs).bind fun Ln τ1 F1 s1 hp1 ex hs1 ⟨e1,e2,A⟩=>Tv ?_;subst e1;subst e2;split
 ·rename_i L e' z' ph hb;cases hq:Nat.beq e e'&&Nat.beq size z'&&Nat.beq size (kf P e).length with
  |false=>exact Tu|true=>
   simp only[QJ,Rz]at hq;obtain⟨⟨rfl,rfl⟩,ai⟩:=hq;have A:=A ai;have z:=lZ al A M;refine Ts Ty fun _ s2 o2 aq p1=>Ts Ty fun _ s3 o3 aj p2=>?_;have p1:=A0 p1;have p2:=C7 p2;rw[l9,j8]at p1;rw[l9,j8,z]at p2;simp only[B5]at p2;have H:s3.get b=some (.rows L e size ph):=by rw[(o2.trans o3).get];exact hb
   rcases aj.live b _ H with⟨i,o,y,k1,k2,kF,cs,k,rfl,k4,k5⟩| ⟨k1,L',e',z',au,k2,k3,k4,k5⟩
   ·cases ha with
    |sl0 _ _ _ _ _ O h0 h1 hc=>grind|sl _ _ _ _ _ i' o' c O h0 h1 hc=>
     rw[k1]at O;obtain⟨rfl,rfl⟩:=O;have ao:len.toI U=((len.toN U:Nat):Int):=by grind
     have ap:off.toI U=((off.toN U:Nat):Int):=by grind
     have d:(y7 len (A6 Ln)).toI U=((len.toN U+n:Nat):Int):=by rw[l9,j8,z];omega
     have olds:∀Lo:E,Lo.den U= .lst (pQ (L.toR U) (off.toI U) (len.toI U))-> ∃vs,n9 cs (o+off.toN U*size) (len.toN U*size)=some vs/\o+off.toN U*size+len.toN U*size<=k/\t8 P U τ1 F1 e size (.rows (E9 Lo Ln)) (vs++news):=by
      intro Lo g;have hR:Lo.toR U=pQ (L.toR U) (off.toI U) (len.toI U):=by show(Lo.den U).rows=_;rw[g];rfl
      obtain⟨vs,C,K,W,v4⟩:=G1 (τ:=τ1) k4 h0 h1 p1 hR;exact⟨vs,C,K,W.app A⟩
     split
     ·
      obtain⟨lo,rfl,X,c2⟩:=hc;refine Ts C2 fun Lo s4 R w g=>?_;obtain⟨vs,C,K,W⟩:=olds Lo g;exact EF (fun _ h=>h) (by rw[R.get];exact H) k1 k2 C K B M X (by omega) W d w
     ·
      refine Ts C2 fun Lo s4 R w g=>?_;obtain⟨vs,C,K,W⟩:=olds Lo g;rcases hc with⟨X,rfl,c2⟩| ⟨lo,rfl,X,c2⟩;exact Kc (by rw[R.get];exact H) k1 k2 C K B M X (by omega) W d w;exact EF (cp:= .un) (fun _ h=>Or.inr h) (by rw[R.get];exact H) k1 k2 C K B M X (by omega) W d w
     ·rename_i c0;obtain⟨X,rfl,c3,c4⟩:=hc;have an:c0.toI U=((c0.toN U:Nat):Int):=by grind
      refine Ts TF fun t s4 R w ht=>?_;rw[F8,d]at ht;cases t with
      |true=>simp only[Rg]at ht;simp only[Ra];refine Ts C2 fun Lo s5 o5 J g=>?_;obtain⟨vs,C,K,W⟩:=olds Lo g;exact GM k2 C K B c3 (by omega) (by omega) (by omega) W d J
      |false=>
       simp only[RJ]at ht;simp only[Rb];refine Ts Ty fun _ s5 o5 J p3=>?_;have p3:=A0 p3;rw[l9]at p3;have ab:s5.get b=some (.rows L e size ph):=by rw[(R.trans o5).get];exact H
       have N:o+off.toN U*size+(len.toN U+n)*size<=k:=by have:(off.toN U+(len.toN U+n))*size<=ph.toN U*size:=QW size (by show off.toN U+(len.toN U+n)<=(ph.toI U).toNat;omega);grind
       obtain⟨m,m1,m2,m3⟩:=Ke (e0:=e) (q:=o+off.toN U*size) (c:=c0.toN U) k2 B M c3 (by omega) (by omega) (by omega) N;have ae:(y7 off len).toI U=off.toI U+len.toI U:=l9 off len;have V:((y7 off len).toI U).toNat=off.toN U+len.toN U:=by grind
       have ac:A7 P F1 e size o k (fill cs (o+off.toN U*size+len.toN U*size) news) ((E.op .over [L,y7 off len,Ln]).toR U):=by have:=A7.over (news:=news) (l:=Ln.toR U) (a:=(y7 off len).toI U) k4 (by rw[ae];exact p1) A.2.2.1 A.2.1 (by rw[V,z,Rv,Rv];rw[Rv]at N;omega) A.2.2.2;rw[V,Rv,<-RW]at this;exact this
       refine(Tt (x':= .rows (.op .over [L,y7 off len,Ln]) e size ph) (m:=m) ab k1 m2 m3 ⟨_,k,rfl,ac,k5⟩).bind fun _ τ2 F2 s6 hp2 _ ak ⟨w1,w2,w3⟩=>?_;subst w1;refine Tw ⟨.slice (some ⟨i,o+off.toN U*size,none⟩) (len.toN U+n) (c0.toN U),by rw[w3];exact m1,TW k1 h0 (by omega) ⟨X,rfl,c3,by omega⟩ rfl (pB d).symm⟩
   ·cases ha with
    |sl _ _ _ _ _ i' o' c O h0 h1 hc=>grind|sl0 _ _ _ _ _ O h0 h1 hc=>
     obtain⟨rfl,rfl,rfl,rfl⟩:=k2;have hn:n<=67108864:=by omega
     have d:(y7 len (A6 Ln)).toI U=(n:Int):=by rw[l9,j8,z];omega
     have D:∀Lo:E,Lo.den U= .lst (pQ (L.toR U) (off.toI U) (len.toI U))->t8 P U τ1 F1 e size (.rows (E9 Lo Ln)) news/\((E9 Lo Ln).toR U).length=n:=by
      intro Lo g;have hR:Lo.toR U=[]:=by show(Lo.den U).rows=_;rw[g,k3];simp[pQ,Dat.rows]
      have hA:(E9 Lo Ln).toR U=Ln.toR U:=by rw[L4,hR];rfl
      obtain⟨q1,q2,q3,q4⟩:=A;exact⟨⟨q1,by rw[hA];exact q2,by rw[hA];exact q3,by rw[hA];exact q4⟩,by rw[hA];exact z⟩
     split;refine Ts C2 fun Lo s4 R w g=>?_;obtain⟨C,K⟩:=D Lo g;by_cases G:n=0;subst G;intro Q hq _;obtain⟨Y,T⟩:=w.drop b;obtain⟨Z,aa⟩:=T.alloc (x:=(Src.rows (E9 Lo Ln)).blk e size) (p:=none) (hp':=hp1) (Ri _) (fun _ _=>rfl) (.inr ⟨rfl,_,e,size,.int 0,rfl,QP K,C.1,Sd 0⟩);refine⟨_,_,hq,_,F1,hp1,Y.trans Z,aa,.slice none 0 0,by rw[J3 hn];rfl,?_⟩;exact .sl0 _ size (.int 0) _ .ge (u5 _ _ _) rfl d (fun e he=>by cases he);intro Q hq _;obtain⟨Y,T⟩:=w.drop b;have hx:=(K6 (s:=s4.set b none) C d hn T) Q hq T;obtain⟨a,s',q1,τ',F',hp',q2,q3,q4,q5⟩:=hx;exact⟨a,s',q1,τ',F',hp',Y.trans q2,q3,_,by rw[J3 hn,z6 G,Rb,q4],q5⟩;refine Ts C2 fun Lo s4 R w g=>?_;obtain⟨C,K⟩:=D Lo g;by_cases G:n=0;subst G;intro Q hq _;obtain⟨Y,T⟩:=w.drop b;obtain⟨Z,aa⟩:=T.alloc (x:=(Src.rows (E9 Lo Ln)).blk e size) (p:=none) (hp':=hp1) (Ri _) (fun _ _=>rfl) (.inr ⟨rfl,_,e,size,.int 0,rfl,QP K,C.1,Sd 0⟩);refine⟨_,_,hq,_,F1,hp1,Y.trans Z,aa,.slice none 0 0,by rw[J3 hn];rfl,?_⟩;exact .sl0 _ size (.int 0) _ .un (u5 _ _ _) rfl d (fun e he=>by cases he);intro Q hq _;obtain⟨Y,T⟩:=w.drop b;have hx:=(K6 (s:=s4.set b none) C d hn T) (fun r=>Q (toUn r.1,r.2)) hq T;obtain⟨a,s',q1,τ',F',hp',q2,q3,q4,q5⟩:=hx;exact⟨toUn a,s',q1,τ',F',hp',Y.trans q2,q3,_,by rw[J3 hn,z6 G,Rb,q4],Od q5⟩
     ·rename_i c0;have ad:=hc c0 rfl;refine Ts TF fun t s4 R w ht=>?_;rw[F8,d,ad]at ht;cases t with
      |true=>simp only[Rg]at ht;simp only[Ra];refine Ts C2 fun Lo s5 o5 J g=>?_;obtain⟨C,K⟩:=D Lo g;exact(K6 C d hn J).mono fun a τ' F' hp' _ _ ⟨w1,w2⟩=>⟨_,by rw[J3 hn,z6 (by omega),Rb,w1],w2⟩
      |false=>
       simp only[RJ]at ht;simp only[Rb];have G:n=0:=by omega
       subst G;refine Ts Ty fun _ s5 o5 J p3=>?_;have ab:s5.get b=some (.rows L e size ph):=by rw[(R.trans o5).get];exact H
       have ac:(E.op .over [L,y7 off len,Ln]).toR U=[]:=by show(Sx.over (L.toR U) _ (Ln.toR U))=[];rw[k3,QP z];simp[Sx.over]
       refine(OKh.change0 (x':= .rows (.op .over [L,y7 off len,Ln]) e size ph) ab k1 ⟨_,e,size,ph,rfl,ac,k4,k5⟩ J).bind fun _ τ2 F2 s6 hp2 _ ak ⟨w1,w2,w3⟩=>?_;subst w1;subst w3;exact Tw ⟨.slice none 0 0,by rw[J3 hn];rfl,.sl0 b size off _ _ k1 h0 d (fun e he=>by cases he;exact ad)⟩
 exact Tu
end
section
variable {P :Aw}{U:Ab}{τ:Tau}{F:Ac}{s:SS}{hp:Hp}
theorem PV.nil_or {e:Ax}{a:Aq}{l:Nat}{d:Dat}(h:PV P F (.sl e) (.slice a l l) d):(a=none/\l=0/\d= .lst [])\/ ∃i o,a=some ⟨i,o,none⟩:=by cases h<;>grind
theorem A7.of_PV {e i o l c:Nat}{rows:Rows}(h:PV P F (.sl e) (.slice (some ⟨i,o,none⟩) l c) (.lst rows))(g:∀i b,F i=some b->hp.m.get i=some b):∃b cs n z,hp.m.get i=some b/\A7 P F e z o n cs rows/\l=rows.length/\z=(kf P e).length/\((∃e',b= .cells cs n e' z)\/(∃e' B,b= .ro cs n e' B/\c<unk)):=by
 cases h with
 |sl _ _ _ _ b cs n z _ x hF hb hc hn hz hr hx hp'=>
  cases b with
  |cells w y A C=>simp only[arr,rdC,QI,QK]at hb;obtain⟨rfl,rfl,rfl⟩:=hb;exact⟨_,w,y,z,g _ _ hF,⟨hn,hz,hr,fun r k row d h1 h2=>(by grind)⟩,rfl,hz,.inl ⟨_,by rw[hc.2.2 rfl]⟩⟩
  |ro w y A C=>simp only[arr,rdC,QI,QK]at hb;obtain⟨rfl,rfl,rfl⟩:=hb;exact⟨_,w,y,z,g _ _ hF,⟨hn,hz,hr,fun r k row d h1 h2=>(by grind)⟩,rfl,hz,.inr ⟨_,_,rfl,hc.2.1 rfl⟩⟩
  |_=>simp[arr,rdC]at hb
def NV {e size n:Nat}(N:1<=size){a:SV}{v:Av}(D:VD P U τ F a v){src:Src}{news:Af}(d:t8 P U τ F e size src news)(g:news.length=n*size)(G:(src.cnt size).toI U=n)(hs:SD P U τ F s hp):OKh P U (sapp P U e size a src) τ F s hp (rR P U hp e size n news v):=by
 have K:∀src,t8 P U τ F e size src news->(src.cnt size).toI U=n->(∀l,src= .lit l->l≠ [])->OKh P U (b9 (p8 U (z4 (src.cnt size) (.int 67108865))) fun _=>aZ e size src (src.cnt size)) τ F s hp (rR P U hp e size n news (.slice none 0 0)):=by
  intro src d G W;refine Ts Ty fun _ s1 _ hs1 p1=>?_;have p1:=C7 p1;rw[G]at p1;simp only[B5]at p1;have hn:n<=67108864:=by omega
  cases src with
  |lit l=>
   have hl:l.length=n*size:=by rw[<-g];exact d.1
   have H:n≠0:=by intro h;rw[h,SK]at hl;exact W l rfl (QP hl)
   exact(K6 d G hn hs1).mono fun c τ' F' hp' _ _ ⟨h1,h2⟩=>⟨_,by rw[J3 hn,z6 H,Rb,h1],h2⟩
  |rows L=>refine(DK d g G (lZ N d g) hn hs1).mono fun c τ' F' hp' _ _ h=>?_;rcases h with⟨h0,h1,h2⟩| ⟨h0,h1,h2⟩;exact⟨_,by rw[J3 hn,v9 h0,Ra,h1],h2⟩;exact⟨_,by rw[J3 hn,z6 h0,Rb,h1],h2⟩
 unfold sapp;split
 ·
  cases D;split
  ·have hv:news=[]:=QP d.1.symm;subst hv;have H:n=0:=by rcases Nat.eq_zero_or_pos n with h|h;exact h;have:=Nat.mul_le_mul h N;simp at g;omega
   subst H;exact Tw ⟨.slice none 0 0,by rw[J3 (by omega)];rfl,.nils⟩
  rename_i W;exact K _ d G fun l hl h=>by subst h;exact W hl
 ·
  rename_i b z off len cap;cases hq:Nat.beq z size&&src.one with
  |false=>exact Tu|true=>
   simp only[Ra];simp only[QJ,Rz]at hq;obtain⟨rfl,J⟩:=hq;have B:=d.ones J;refine Tv ?_;split
   ·rename_i l e' z' hb;split
    ·rename_i C r m;cases hq:Nat.beq e e'&&Nat.beq z z'&&decide (0<=C)&&decide (0<=r)&&Nat.ble ((C.toNat+r.toNat)*z) l.length&&Nat.ble (r.toNat+m.length/z) 67108864&&Nat.beq (m.length/z*z) m.length with
     |false=>exact Tu|true=>
      simp only[Ra];simp only[QJ,Rz,Rg,RQ]at hq;obtain⟨⟨⟨⟨⟨⟨rfl,rfl⟩,q1⟩,q2⟩,q3⟩,q4⟩,q5⟩:=hq;have V:m.length=n*z:=by rw[<-g];exact d.1
      have av:m.length/z=n:=by rw[V];exact Nat.mul_div_cancel _ N
      rw[av]at q4⊢;rw[Rv]at q3;rcases hs.live b _ hb with⟨i,o,y,k1,k2,kF,cs,k,rfl,k4,k5⟩| ⟨k1,L',e',z',be,k2,k3,k4,k5⟩
      ·cases D with
       |sl0 _ _ _ _ _ O h0 h1 hc=>rw[k1]at O;cases O
       |sl _ _ _ _ _ i' o' c O h0 h1 hc=>
        rw[k1]at O;simp only[QI,QK]at O;obtain⟨rfl,rfl⟩:=O;have Z:(E.int C).toN U=C.toNat:=rfl;have X:(E.int r).toN U=r.toNat:=rfl;obtain⟨vs,v1,v2,v3⟩:=C0 (c:=cs) (R:=fun j x=>∀a,((l.drop (C.toNat*z)).take (r.toNat*z))[j]? =some a->VD P U τ F a x) (r.toNat*z) (o+C.toNat*z) 0 fun j hj=>by
         have ak:C.toNat*z+j<l.length:=by omega
         obtain⟨x,w1,w2⟩:=k5 (C.toNat*z+j) _ (QV ak);refine⟨x,by rw[<-w1];congr 1;omega,fun a D=>?_⟩;rw[Rr,Rs,Rh hj,Ry]at D;rw[show l[C.toNat*z+j]? =some l[C.toNat*z+j] by simp[ak],QI]at D;rw[<-D];exact w2
        have aj:((l.drop (C.toNat*z)).take (r.toNat*z)).length=r.toNat*z:=by simp;omega
        have az:VDL P U τ F ((l.drop (C.toNat*z)).take (r.toNat*z)) vs:=⟨by rw[aj,v2],fun j a x D hx=>v3 j x hx a (by rw[Rr];exact D)⟩
        have M:t8 P U τ F e z (.lit ((l.drop (C.toNat*z)).take (r.toNat*z)++m)) (vs++news):=az.append d;have A:(E.int ((r.toNat+n:Nat):Int)).toI U=((r.toNat+n:Nat):Int):=rfl;have ai:o+C.toNat*z+r.toNat*z<=k:=by omega
        rw[Z,X];split;obtain⟨lo,rfl,c1,c2⟩:=hc;exact EF (fun _ h=>h) hb k1 k2 v1 ai B g c1 q4 M A hs;exact Tu
        ·rename_i c0;obtain⟨c1,rfl,c3,c4⟩:=hc;have bb:c0.toI U=((c0.toN U:Nat):Int):=by show c0.toI U=((c0.toI U).toNat:Int);omega
         have c4:r<=c0.toI U:=c4;refine Ts TF fun t s4 o4 ax ht=>?_;rw[F8,A]at ht;cases t with
         |true=>simp only[Rg]at ht;simp only[Ra];exact GM k2 v1 ai B c3 (by omega) (by omega) q4 M A ax|false=>
          simp only[RJ]at ht;simp only[Rb];cases hr:Nat.ble ((C.toNat+r.toNat)*z+m.length) l.length with
          |false=>exact Tu|true=>
           simp only[Ra];have hr:=QM hr;rw[Rv,V]at hr;obtain⟨mm,m1,m2,m3⟩:=Ke (e0:=e) (q:=o+C.toNat*z) (c:=c0.toN U) k2 B g c3 (by omega) (show r.toNat+n<=c0.toN U by omega) q4 (by rw[Rv];omega);have ap:s4.get b=some (.cells l e z):=by rw[o4.get];exact hb
           refine(Tt (x':= .cells (Q8 l ((C.toNat+r.toNat)*z) m) e z) (m:=mm) ap k1 m2 m3 ⟨_,k,rfl,?_,fun j a D=>?_⟩ (by intro c _ _ c' Z _ _ ba n1 hg;cases Z;rw[k2]at hg;cases hg;exact⟨_,rfl,fun j hj=>by rw[l8,Re (by omega)]⟩)).bind fun _ τ2 F2 s6 hp2 _ bc ⟨w1,w2,w3⟩=>?_;unfold Q8;simp only[Rn,Ru,RO,Rv];omega
           ·unfold Q8 at D;rw[Rv]at D;have et:(l.take (C.toNat*z+r.toNat*z)).length=C.toNat*z+r.toNat*z:=by simp;omega
            rw[l8];by_cases hj:C.toNat*z+r.toNat*z<=j/\j<C.toNat*z+r.toNat*z+news.length;rw[Rh (by omega)];rw[QX,QR (by omega),QS (by rw[et,V,<-g];omega),et]at D;obtain⟨w,w1,w2⟩:=VDL.get d D;exact⟨w,by rw[<-w1];congr 1;omega,w2⟩;rw[Re (by omega)];by_cases aq:j<C.toNat*z+r.toNat*z;rw[QX,QS (by omega),Rs,Rh aq]at D;exact k5 j a D;rw[QX,QR (by omega),et,QR (by rw[V,<-g];omega),Ry]at D;refine k5 j a ?_;rw[<-D];congr 1;rw[V,<-g];omega
           subst w1;subst w2;refine Tw ⟨.slice (some ⟨i,o+C.toNat*z,none⟩) (r.toNat+n) (c0.toN U),by rw[w3];exact m1,TW k1 h0 (by rw[A];omega) ⟨c1,rfl,c3,by rw[A];omega⟩ rfl rfl⟩
      cases k2
    refine(gF hs).bind fun _ τ1 F1 s1 hp1 ex hs1 ⟨Z,X,e3⟩=>?_;subst Z;subst X;subst e3;exact qI N D d g B hs1
   exact qI N D d g B hs;exact Tu
 ·
  rename_i e' L;cases hq:Nat.beq e e'&&Nat.beq size (kf P e).length&&src.one with
  |false=>exact Tu|true=>
   simp only[Ra];simp only[QJ,Rz]at hq;obtain⟨⟨rfl,au⟩,J⟩:=hq;have B:=d.ones J;have ao:=D;cases D with
   |lst _ _ _ _ hv hc=>
    obtain⟨ad,l,rfl⟩:=hc rfl;refine Ts TF fun t s1 o1 hs1 ht=>?_;rw[E2,G]at ht;simp only[B5]at ht;have ah:(iZ L).toR U=L.toR U:=by show((iZ L).den U).rows=_;rw[mN];rfl
    have ab:=GR hv;have al:=hv.nil_or;cases t with
    |true=>
     have H:n=0:=by have:=Sz ht;omega
     subst H;have W:news=[]:=QP (by rw[g];simp);subst W;simp only[Ra];refine Ts Ty fun _ s2 _ aw p1=>Tw ⟨.slice ad l l,?_,ao⟩;have p1:=C7 p1;rw[j8]at p1;simp only[B5]at p1;rcases al with⟨rfl,rfl,_⟩| ⟨i,o,rfl⟩;rw[J3 (by omega)];rfl;obtain⟨b,cs,k,z2,g1,g2,g3,g4,⟨X,rfl⟩| ⟨X,z3,rfl,g5⟩⟩:=A7.of_PV (hp:=hp) hv hs.frz;simp only[aO,g1];rw[show(Nat.ble (l+0) 67108864&&([]:Af).all Value.oneCell')=true by simp only[QJ,RQ];exact⟨by omega,rfl⟩];simp only[Ra,v9,QQ (Ri l)];simp only[aO,g1];rw[show(Nat.ble (l+0) 67108864&&Nat.ble l l&& !Nat.ble unk l)=true by simp only[QJ,RQ,aS g5,Bool.not_false,Sq];exact⟨by omega,Ri _⟩];simp only[Ra,v9]
    |false=>
     have H:n≠0:=by have:=of_decide_eq_false ht;omega
     simp only[Rb];refine(Bq d hs1).bind fun Ln τ1 F1 s2 hp1 ex aw ⟨Z,X,Q⟩=>?_;subst Z;subst X;have Q:=Q au;have aa:=lZ N Q g;refine Ts Ty fun _ s3 o3 ae p1=>?_;have p1:=C7 p1;rw[l9,j8,j8,aa]at p1;simp only[B5]at p1;have ay:=hv.mono P ex.f;rcases al with⟨rfl,rfl,hd⟩| ⟨i,o,rfl⟩
     ·have hL:L.toR U=[]:=by injection hd
      have T:(E9 (iZ L) Ln).toR U=Ln.toR U:=by rw[L4,ah,hL];rfl
      obtain⟨q1,q2,q3,q4⟩:=Q;have Y:t8 P U τ1 F1 e size (.rows (E9 (iZ L) Ln)) news:=⟨q1,by rw[T];exact q2,by rw[T];exact q3,by rw[T];exact q4⟩
      refine(K6 Y (n:=n) (by rw[l9,j8,j8,hL,aa];simp) (by omega) ae).mono fun c τ' F' hp' _ _ ⟨h1,h2⟩=>⟨_,by rw[J3 (by omega),z6 H,Rb,h1],h2⟩
     ·obtain⟨b,cs,k,z2,g1,g2,g3,g4,an⟩:=A7.of_PV (hp:=hp1) ay ae.frz;have ez:z2=size:=by omega
      subst ez;have ac:pQ (L.toR U) 0 (L.toR U).length=L.toR U:=by simp[pQ]
      obtain⟨vs,v1,v2,v3,v4⟩:=G1 (U:=U) (τ:=τ1) g2 (off:=0) (len:=(L.toR U).length) (Sd 0) (by omega) (by omega) (L:=iZ L) (by rw[ah,ac]);have e0:(0:Int).toNat*z2=0:=by simp
      rw[e0,Sf,RA]at v1 v2;have M:t8 P U τ1 F1 e z2 (.rows (E9 (iZ L) Ln)) (vs++news):=v3.app Q;have ab:l<unk:=ab.resolve_left (by simp);refine(K6 M (n:=(L.toR U).length+n) (by rw[l9,j8,j8,aa];omega) (by omega) ae).mono fun c τ' F' hp' _ _ ⟨h1,h2⟩=>⟨_,?_,h2⟩
      rw[<-g3]at v1 v2⊢;rcases an with⟨X,rfl⟩| ⟨X,z3,rfl,g5⟩;simp only[aO,g1];rw[show(Nat.ble (l+n) 67108864&&news.all Value.oneCell')=true by simp only[QJ,RQ];exact⟨by omega,B⟩];simp only[Ra,z6 H,Rb,aS ab,aS (show l<l+n by omega),QQ v2,v1,h1];simp only[aO,g1];rw[show(Nat.ble (l+n) 67108864&&Nat.ble l l&& !Nat.ble unk l)=true by simp only[QJ,RQ,aS g5,Bool.not_false,Sq];exact⟨by omega,Ri _⟩];simp only[Ra,z6 H,Rb,aS (show l<l+n by omega),QQ v2,v1,h1]
 exact Tu
end
section
variable (P :Aw)(U:Ab)
def mY (t:Ax)(r:Bb Az):M SV:=
 match P.underlying t,r with
 |some (.map kt vt),none=>b9 (bQ (.map (.op .nil []) kt vt)) fun b=>i4 (.map b)
 |_,_=>a8 "makeMap"
def Bi (t:Ax)(m k:SV)(ok:Bool):M SV:=
 have _:=P
 a8 "slookup"
def Bk (t:Ax)(m k x:SV):M SV:=
 have _:=P
 a8 "smapSet"
def oZ (t:Ax)(m k:SV):M SV:=
 have _:=P
 a8 "smapEntry"
def gQ (m i x:SV):M SV:=
 have _:=P;have _:=U
 a8 "sentryStore"
end
section
variable {P :Aw}{U:Ab}{τ:Tau}{F:Ac}{s:SS}{hp:Hp}
theorem DH {t:Ax}(hs:SD P U τ F s hp):OKh P U (mY P t none) τ F s hp fun a τ' F' hp'=>(∃kt vt,P.underlying t=some (.map kt vt))/\hp'=(hp.add ⟨.map [] true,.map,rfl⟩).2/\VD P U τ' F' a (hp.add ⟨.map [] true,.map,rfl⟩).1:=by unfold mY;split;rename_i kt vt g _;refine(Tq (x:= .map (.op .nil []) kt vt) hs fun τ' _=>⟨rfl,[],true,rfl,rfl,rfl,fun j row e h=>by grind⟩).bind fun b τ' F' s' hp' _ d ⟨h1,h2,h3⟩=>Tw ?_;subst h3;exact⟨⟨kt,vt,g⟩,rfl,.map b hp.nx 0 h2⟩;exact Tu
variable {es:List (Av×Av)}
def lK.nil {kt vt:Ax}(h:lK P F kt vt es []):es=[]:=QP h.1
variable (P F) in
def Oq (kt vt:Ax)(e:Av×Av)(r:Ar):Prop:=∃sh ks d,EZ P kt=some sh/\kfit sh.2 ks=true/\r=ks.map KV.dat++ [d]/\e.1=keyV sh ks/\PV P F (kd1 P vt) e.2 d
def lK.cons {kt vt:Ax}{es:List (Av×Av)}{r:Ar}{rows:Rows}(h:lK P F kt vt es (r::rows)):∃e b,es=e::b/\Oq P F kt vt e r/\lK P F kt vt b rows:=by
 cases es with
 |nil=>exact absurd h.1 (by simp)|cons e es=>exact⟨e,es,rfl,h.2 0 r e rfl rfl,by have:=h.1;simpa using this,fun j row e' hr he=>h.2 (j+1) row e' hr he⟩
def lK.mk {kt vt:Ax}{e:Av×Av}{r:Ar}{rows:Rows}(h:Oq P F kt vt e r)(h':lK P F kt vt es rows):lK P F kt vt (e::es) (r::rows):=by
 refine⟨by simp[h'.1],fun j row e' hr he=>?_⟩;cases j with
 |zero=>cases hr;cases he;exact h
 |succ j=>exact h'.2 j row e' hr he
variable {k m:SV}
def Ga {t:Ax}{mv kv:Av}{ok:Bool}(hm:VD P U τ F m mv)(hk:VD P U τ F k kv)(hs:SD P U τ F s hp):OKh P U (Bi P t m k ok) τ F s hp fun a τ' F' hp'=>hp'=hp/\ ∃v,R3 P hp t mv kv ok=some v/\VD P U τ' F' a v:=by unfold Bi;exact Tu
variable {xv:Av}
def Gc {t:Ax}{x:SV}{mv kv:Av}(hm:VD P U τ F m mv)(hk:VD P U τ F k kv)(hx:VD P U τ F x xv)(hs:SD P U τ F s hp):OKh P U (Bk P t m k x) τ F s hp fun a _ _ hp'=>a= .tup []/\iU P hp t mv kv xv=some hp':=by unfold Bk;exact Tu
def Bj {t:Ax}{mv kv:Av}(hm:VD P U τ F m mv)(hk:VD P U τ F k kv)(hs:SD P U τ F s hp):OKh P U (oZ P t m k) τ F s hp fun a τ' F' hp'=>∃v,dB P hp t mv kv=some (v,hp')/\VD P U τ' F' a v:=by unfold oZ;exact Tu
def uR {x:SV}{mv kv:Av}(hm:VD P U τ F m mv)(hk:VD P U τ F k kv)(hx:VD P U τ F x xv)(hs:SD P U τ F s hp):OKh P U (gQ P U m k x) τ F s hp fun a _ _ hp'=>a= .tup []/\V4 hp mv kv xv=some hp':=by unfold gQ;exact Tu
end
structure I0 where
 run:Ay->As->M SV
 round:Ah->As->Ay->Nat->Ah->Code->Code->As->M SV
def Gd (P:Aw)(t:Ax)(x:SV):M SV:=match P.underlying t,x with
 |some .string,.str e=>b9 (bQ (.iter e (.int 0))) fun b=>i4 (.ptr b 1 (.int 0) 0)
 |_,_=>a8 "range"
def Mi (U:Ab)(isS:Bool)(it:SV):M SV:=match isS,it with
 | true, .ptr b _ (.int m) f => bif decide (m = 0) && Nat.beq f 0 then t9 fun s => match s.get b with
   | some (.iter str pos) => b9 (gG U (z4 pos (bK str))) fun t =>
     bif t then b9 (jA b (some (.iter str (y7 pos (.op .srw [str,pos]))))) fun _=>i4 (.tup [.bool (.bool true),.int .i64 pos,.int .i32 (.op .srune [str,pos])])
     else i4 (.tup [.bool (.bool false)])
   |_=>a8 "next: no iterator"
  else a8 "next"
 |_,_=>a8 "next"
def Jj (f:Fm):Bb Az->Bb (Bb SV)
 |none=>some none|some x=>match u9 f x with
  |some v=>some (some v)|none=>none
def Fk (s i:E):E:=match s,i with
 | .str l,.int n=>match l[n.toNat]? with
  |some b=>.int b.toNat|none=>.op .sidx [s,i]
 |s,i=>.op .sidx [s,i]
section
variable (P :Aw)(U:Ab)
def FY (t:Ax)(x i:SV):M SV:=
 match i with
 | .int _ n=>match P.underlying t with
  |some .string=>match x with
   | .str s=>b9 (p8 U (y8 (z4 n (.int 0)))) fun _=>b9 (p8 U (z4 n (bK s))) fun _=>i4 (.int .u8 (Fk s n))
   |_=>a8 "index: string"
  |some (.array len e)=>match x,n with
   | .agg cs, .int m => bif decide (0 ≤ m) && decide (m < len) then
     match P.info? e with
     |some ie=>gE "index" (yT P e cs (m.toNat*ie.size))|none=>a8 "index: type"
    else a8 "index: beyond"
   |_,_=>a8 "index: array"
  |_=>a8 "index: type"
 |_=>a8 "index: no int"
def yR (x:SV):M SV:=
 match x with
 | .ptr b z row fld=>i4 (.ptr b z row fld)| .pptr t L row fld=>i4 (.pptr t L row fld)| .rp row fld=>i4 (.rp row fld)| .rpq e=>b9 (p8 U (y8 (z4 e (.int 0)))) fun _=>i4 (.rp e 0)
 | .fn (.func f) a b=>i4 (.fn (.func f) a b)|_=>a8 "nil"
def Dv (b:Builtin)(ats:List Ax)(args:As):M SV:=
 match b,ats,args with
 | .append,[t,u],[s,x]=>HA P U t u s x| .len,[t],[x]=>slen P t x| .cap,[t],[x]=>scap P t x| .min,_,x::xs=>Jh U false x xs| .max,_,x::xs=>Jh U true x xs|_,_,_=>a8 "builtin"
def HE (call:I0)(f:SV)(args:As):M SV:=
 match f with
 | .fn (.func g) first captured=>match P.funcs[g]? with
  |some fn=>bif jB fn then call.run g (first++args++captured)else a8 "call: no body"|none=>a8 "call: no function"
 | .yld ks vs g nt ps as bo=>call.round ks vs g nt ps as bo args|_=>a8 "call: value"
def sop (call:I0)(f:Fm)(o:Op):M SV:=
 match o with
 | .move x=>gE "move" (u9 f x)| .assign x=>gE "assign" (u9 f x)| .pick c a b=>match u9 f c with
  |some (.bool e)=>b9 (gG U e) fun t=>bif t then gE "pick" (u9 f a)else gE "pick" (u9 f b)
  |_=>a8 "pick"
 | .alloc e=>match qM P e with
  |some l=>bif Nat.beq e rgT then HL P U l else sbox e l|none=>a8 "alloc"
 | .box e x=>match u9 f x with
  |some v=>match C6 v with
   |some l=>bif Nat.beq e rgT then HL P U l else sbox e l|none=>a8 "box"
  |none=>a8 "box"
 | .build t parts=>match gT f parts.toList with
  |some ps=>gE "build" (FP P t ps)|none=>a8 "build"
 | .buildSlice t len parts=>match gT f parts.toList with
  |some ps=>gO P t len ps|none=>a8 "buildSlice"
 | .load t a=>match u9 f a with
  |some v=>HK P U t v|none=>a8 "load"
 | .store t a x=>match u9 f a with
  |some v=>match u9 f x with
   |some u=>Gi P U t v u|none=>a8 "store"
  |none=>a8 "store"
 | .nilCheck x=>match u9 f x with
  |some v=>yR U v|none=>a8 "nil"
 | .binOp op t x y _=>match u9 f x with
  |some v=>match u9 f y with
   |some u=>LS P U op t v u|none=>a8 "binOp"
  |none=>a8 "binOp"
 | .unOp op _ x=>match u9 f x with
  |some v=>sun U op v|none=>a8 "unOp"
 | .convert s d x=>match u9 f x with
  |some v=>LX P U s d v|none=>a8 "convert"
 | .makeInterface t x=>match u9 f x with
  |some v=>gE "interface" (FX P t v)|none=>a8 "interface"
 | .makeFunc fn first captured=>match Dz f first.toList with
  |some fs=>match Dz f captured.toList with
   |some cs=>i4 (.fn fn fs cs)|none=>a8 "makeFunc"
  |none=>a8 "makeFunc"
 | .makeSlice t l c=>match u9 f l with
  |some v=>match u9 f c with
   |some u=>kU P U t v u|none=>a8 "makeSlice"
  |none=>a8 "makeSlice"
 | .slice t x lo hi mx=>match u9 f x with
  |some v=>match Jj f lo with
   |some l=>match Jj f hi with
    |some h=>match Jj f mx with
     |some m=>Gh P U t v l h m|none=>a8 "slice"
    |none=>a8 "slice"
   |none=>a8 "slice"
  |none=>a8 "slice"
 | .fieldAddr t x i=>match u9 f x with
  |some v=>gE "fieldAddr" (kR P t v i)|none=>a8 "fieldAddr"
 | .field t x i=>match u9 f x with
  |some v=>gE "field" (FW P t v i)|none=>a8 "field"
 | .indexAddr t x i=>match u9 f x with
  |some v=>match u9 f i with
   |some u=>kS P U t v u|none=>a8 "indexAddr"
  |none=>a8 "indexAddr"
 | .index t x i=>match u9 f x with
  |some v=>match u9 f i with
   |some u=>FY P U t v u|none=>a8 "index"
  |none=>a8 "index"
 | .extract x i=>match u9 f x with
  |some v=>gE "extract" (uT v i)|none=>a8 "extract"
 | .range t x=>match u9 f x with
  |some v=>Gd P t v|none=>a8 "range"
 | .makeMap t r=>mY P t r| .lookup t x k ok=>match u9 f x with
  |some v=>match u9 f k with
   |some u=>Bi P t v u ok|none=>a8 "lookup"
  |none=>a8 "lookup"
 | .mapEntry t m k=>match u9 f m with
  |some v=>match u9 f k with
   |some u=>oZ P t v u|none=>a8 "entry"
  |none=>a8 "entry"
 | .entryStore _ m k x=>match u9 f m with
  |some v=>match u9 f k with
   |some u=>match u9 f x with
    |some y=>gQ P U v u y|none=>a8 "entry"
   |none=>a8 "entry"
  |none=>a8 "entry"
 | .mapUpdate t m k x=>match u9 f m with
  |some v=>match u9 f k with
   |some u=>match u9 f x with
    |some y=>Bk P t v u y|none=>a8 "map"
   |none=>a8 "map"
  |none=>a8 "map"
 | .next it isS=>match u9 f it with
  |some v=>Mi U isS v|none=>a8 "next"
 | .call c=>match Dz f c.args.toList with
  |some args=>match c.callee with
   | .builtin b=>Dv P U b c.argTypes.toList args| .value g=>match u9 f g with
    |some v=>HE P call v args|none=>a8 "call"
   |_=>a8 "call: method"
  |none=>a8 "call: operands"
 |_=>a8 "operation"
end
section
variable {P :Aw}{U:Ab}{τ:Tau}{F:Ac}{s:SS}{hp:Hp}{ov:Aa}
def EV (p:Nat->Prop):Prop:=∃n0,∀n,n0<=n->p n
variable {p:Nat->Prop}
def EV.of (h:∀n,p n):EV p:=⟨0,fun n _=>h n⟩
def Tl:type_of% @EV.of:=@EV.of
variable {q:Nat->Prop}
theorem EV.and (h:EV p)(k:EV q):EV fun n=>p n/\q n:=by obtain⟨a,d⟩:=h;obtain⟨b,hb⟩:=k;exact⟨Nat.max a b,fun n hn=>(by grind)⟩
def EV.mono (h:EV p)(k:∀n,p n->q n):EV q:=by obtain⟨a,b⟩:=h;exact⟨a,fun n hn=>k n (b n hn)⟩
variable (P ov) in
def XOp (o:Op)(tm:Ao)(hp:Hp)(v:Av)(hp':Hp):Prop:=EV fun n=>xop P (D2 P ov n) tm hp o=some (v,hp')
variable (P ov) in
def W8 (g:Ay)(args:Af)(hp:Hp)(v:Av)(hp':Hp):Prop:=EV fun n=>(D2 P ov n).run g args hp=some (v,hp')
variable (P U ov) in
structure E1 (call:I0):Prop where
 run:∀g l args τ F s hp,VDL P U τ F l args->SD P U τ F s hp->OKh P U (call.run g l) τ F s hp fun a τ' F' hp'=>∃v,W8 P ov g args hp v hp'/\VD P U τ' F' a v
 round:∀ks vs g nt ps as bo l args τ F s hp i,VD P U τ F (.yld ks vs g nt ps as bo) (.chan (some i))->VDL P U τ F l args->SD P U τ F s hp->
  OKh P U (call.round ks vs g nt ps as bo l) τ F s hp fun a τ' F' hp'=>∃v,(EV fun n=>(D2 P ov n).round i args hp=some (v,hp'))/\VD P U τ' F' a v
variable {tm:Ao}
theorem Bo {f:Fm}(h:TD P U τ F f tm){o:Bb Az}{a:Bb SV}(e:Jj f o=some a):∃v,jD tm o=some v/\OVD P U τ F a v:=by
 cases o with
 |none=>simp only[Jj,QI]at e;subst e;exact⟨none,rfl,trivial⟩|some o=>
  simp only[Jj]at e;cases b:u9 f o with
  |none=>grind|some a'=>simp only[b,QI]at e;subst e;obtain⟨v,h1,h2⟩:=H7 h b;exact⟨some v,by simp[jD,h1],h2⟩
theorem Fl {a i:E}(h0:0<=i.toI U)(h1:i.toI U<(a.den U).toStr.length):(Fk a i).toI U=(((a.den U).toStr[(i.toI U).toNat]'(by omega)).toNat:Int):=by
 have d:(E.op .sidx [a,i]).toI U=(((a.den U).toStr[(i.toI U).toNat]'(by omega)).toNat:Int):=by show((((a.den U).toStr.getD (i.toI U).toNat 0).toNat:Nat):Int)=_;grind
 unfold Fk;split;rename_i l n;split;rename_i b hb;have:l[(E.toI U (.int n)).toNat]? =some b:=hb;rw[QV (by have:(E.toI U (.int n))<l.length:=h1;omega),QI]at this;rw[<-this];rfl;grind;grind
theorem Jg {t:Ax}{a b:SV}{v u:Av}(g:VD P U τ F a v)(hb:VD P U τ F b u):OKp U (FY P U t a b) s fun c=>∃w,hJ P t v u=some w/\VD P U τ F c w:=by
 unfold FY;split
 ·rename_i k n;cases hb;split;rename_i ht;split;rename_i e;cases g;refine OKp.need.bind fun _ _ _ _ h1=>OKp.need.bind fun _ _ _ _ h2=>TC ?_;have h1:=Y5 h1;have h2:=C7 h2;rw[O7]at h2;refine⟨.int .u8 (((e.den U).toStr[(n.toI U).toNat]).toNat:Int),?_,TV (Fl h1 h2)⟩;simp only[hJ,ht];grind;exact Tx
  ·rename_i len e ht;split
   ·rename_i cs m;cases hq:decide (0<=m)&&decide (m<(len:Int))with
    |false=>exact Tx|true=>split;rename_i ie d;obtain⟨xs,rfl,hx⟩:=TZ g;refine TA fun c hc=>?_;obtain⟨w,h1,h2⟩:=mZ hx hc;refine⟨w,?_,h2⟩;simp only[hJ,ht];rwa[show(decide (0<=(E.int m).toI U)&&decide ((E.int m).toI U<(len:Int)))=true from hq,Ra,d];exact Tx
   exact Tx
  exact Tx
 exact Tx
def OKp.op {m:M SV}{o:Op}{x:Ag}(hx:∀n,xop P (D2 P ov n) tm hp o=i8 hp x)(h:OKp U m s fun a=>∃v,x=some v/\VD P U τ F a v):OKh P U m τ F s hp fun a τ' F' hp'=>∃v,XOp P ov o tm hp v hp'/\VD P U τ' F' a v:=
 (h.up).mono fun a τ' F' hp' _ _ ⟨b,d,g,v,h1,h2⟩=>by subst b;subst d;subst g;exact⟨v,Tl fun n=>by rw[hx,h1];rfl,h2⟩
def Tz:type_of% @OKp.op:=@OKp.op
variable {x:Av}
def Jk {t:Ax}{v:SV}(hv:VD P U τ F v x)(hs:SD P U τ F s hp):OKh P U (Gd P t v) τ F s hp fun a τ' F' hp'=>∃n,nR P t x=some n/\hp'=(hp.add n).2/\VD P U τ' F' a (hp.add n).1:=by unfold Gd;split;rename_i e g;cases hv;refine(Tq (x:= .iter e (.int 0)) hs fun τ' _=>⟨rfl,0,rfl,rfl⟩).bind fun b τ' F' s' hp' _ d ⟨h1,h2,h3⟩=>Tw ?_;subst h3;exact⟨⟨.sit ⟨(e.den U).toStr.toArray⟩ 0,.ptr,rfl⟩,by simp only[nR,g],rfl,VD.ptr' h2 (by show(0:Int)<=0;omega) rfl⟩;exact Tu
def Mj {isS:Bool}{v:SV}(hv:VD P U τ F v x)(_hs:SD P U τ F s hp):OKh P U (Mi U isS v) τ F s hp fun a τ' F' hp'=>∃u,vV hp x isS=some (u,hp')/\VD P U τ' F' a u:=by
 unfold Mi;split
 ·rename_i b z m f;cases hc:decide (m=0)&&Nat.beq f 0 with
  |false=>exact Tu|true=>
   simp only [QJ, Rg, Rz] at hc;obtain ⟨rfl,rfl⟩:=hc;rw [Ra];refine Tv ?_;split
   ·rename_i str pos hb;refine Ts TF fun t s1 C hs1 ht=>?_;have g:s1.get b=some (.iter str pos):=by rw[C.get];exact hb
    rcases hs1.live b _ g with⟨i,o,y,k1,k2,k3,rfl,n,rfl,r⟩| ⟨_,L,e,K,ph,h,_⟩
    ·cases hv with
     |ptr _ _ _ _ J o' h h0=>
      rw[k1]at h;obtain⟨rfl,rfl⟩:=h;have d:0+(E.int 0).toN U*z+0=0:=by show 0+(0:Int).toNat*z+0=0;simp
      rw[d];rw[F8,O7,r]at ht;have hx:vV hp (.pointer (some ⟨i,0,none⟩)) true=bif Nat.blt n (str.den U).toStr.length then
        some (.tuple #[.bool true,.int .i64 n,.int .i32 (Utf8.decode ⟨(str.den U).toStr.toArray⟩ n).1],{hp with m:=hp.m.set i (some (.sit ⟨(str.den U).toStr.toArray⟩ (n+(Utf8.decode ⟨(str.den U).toStr.toArray⟩ n).2)))})
        else some (.tuple #[.bool false],hp):=by
       simp only[vV,k2]
      have hn:pos.toI U=(n:Int):=r;cases t with
      |true=>
       rw[Rg]at ht;have hlt:Nat.blt n (str.den U).toStr.length=true:=QQ (by omega);rw[hlt,Ra]at hx;have B:runeW (str.den U).toStr (pos.toI U)=((Utf8.decode ⟨(str.den U).toStr.toArray⟩ n).2:Nat):=by rw[hn];simp[runeW]
       have A:runeAt (str.den U).toStr (pos.toI U)=(Utf8.decode ⟨(str.den U).toStr.toArray⟩ n).1:=by rw[hn];simp[runeAt]
       refine OKh.bind (R:=fun _ τ' F' hp'=>τ'=τ/\F'=F/\hp'= {hp with m:=hp.m.set i (some (.sit ⟨(str.den U).toStr.toArray⟩ (n+(Utf8.decode ⟨(str.den U).toStr.toArray⟩ n).2)))}) ?_ fun _ τ2 D s2 hp2 _ _ ⟨G,H,w⟩=>Tw ⟨.tuple #[.bool true,.int .i64 n,.int .i32 (Utf8.decode ⟨(str.den U).toStr.toArray⟩ n).1],?_,?_⟩
       ·intro Q hq _;obtain⟨h1,h2⟩:=hs1.change (x':= .iter str (y7 pos (.op .srw [str,pos]))) g k1 (y:= .sit ⟨(str.den U).toStr.toArray⟩ (n+(Utf8.decode ⟨(str.den U).toStr.toArray⟩ n).2))
         (hp':= {hp with m:=hp.m.set i (some (.sit ⟨(str.den U).toStr.toArray⟩ (n+(Utf8.decode ⟨(str.den U).toStr.toArray⟩ n).2)))}) rfl (fun j hj=>by simp[TQ,hj]) (by simp[TQ])
         ⟨rfl,_,rfl,by rw[l9,hn];show(n:Int)+runeW (str.den U).toStr (pos.toI U)=_;rw[B];omega⟩
        exact⟨(),_,hq,τ,F,_,h1,h2,rfl,rfl,rfl⟩
       rw[hx,w]
       ·refine .tup _ [.bool true,.int .i64 n,.int .i32 (Utf8.decode ⟨(str.den U).toStr.toArray⟩ n).1] rfl fun j a v d hv=>?_
        match j,d,hv with
        |0,d,hv=>simp at d hv;subst d;subst hv;exact .bool (.bool true)|1,d,hv=>simp at d hv;subst d;subst hv;exact TV hn|2,d,hv=>simp at d hv;subst d;subst hv;exact TV A|j+3,d,hv=>simp at d
      |false=>
       rw[RJ]at ht;have hlt:Nat.blt n (str.den U).toStr.length=false:=by
        cases hb:Nat.blt n (str.den U).toStr.length with
        |false=>rfl|true=>exact absurd (by have:=QM hb;omega) ht
       rw[hlt,Rb]at hx;refine Tw ⟨_,hx,.tup _ [.bool false] rfl fun j a v d hv=>?_⟩
       match j,d,hv with
       |0,d,hv=>simp at d hv;subst d;subst hv;exact .bool (.bool false)|j+1,d,hv=>simp at d
    cases h
   exact Tu
 exact Tu
theorem Bn {call:I0}(G:E1 P U ov call){f:Fm}(ht:TD P U τ F f tm)(hs:SD P U τ F s hp)(o:Op):OKh P U (sop P U call f o) τ F s hp fun a τ' F' hp'=>∃v,XOp P ov o tm hp v hp'/\VD P U τ' F' a v:=by
 have d:=fun{x:Az} {a:SV} (e:u9 f x=some a)=>H7 (P:=P) (U:=U) ht e;cases o with
 |move x=>exact Tz (x:=c9 tm x) (fun n=>by rw[c8];rfl) (TA fun a h=>d h)|assign x=>exact Tz (x:=c9 tm x) (fun n=>by rw[c8];rfl) (TA fun a h=>d h)|pick c a b=>
  simp only[sop];split
  ·rename_i e he;obtain⟨v,h1,h2⟩:=d he;cases h2;refine Tz (x:=bif (e.den U).toBool then c9 tm a else c9 tm b) (fun n=>by rw[c8];simp only[l5,h1];cases(e.den U).toBool<;>rfl) ?_;refine OKp.test.bind fun t _ _ _ h=>?_;rw[h];cases t with
   |true=>exact TA fun a h=>d h
   |false=>exact TA fun a h=>d h
  exact Tu
 |alloc e=>
  simp only[sop];split
  ·rename_i l hl;obtain⟨z,h1,h2⟩:=cW (U:=U) (τ:=τ) (F:=F) hl;cases hb:Nat.beq e rgT with
   |true=>
    rw[Ra];refine(DJ h2 hs).mono fun a τ' F' hp' _ _ ⟨v,B,A⟩=>⟨v,Tl fun n=>?_,A⟩
    rw[c8];simp only[l5,gK,hb,Ra,h1,B]
   |false=>
   rw[Rb];refine(HB h2 hs).mono fun a τ' F' hp' _ _ ⟨B,A⟩=>⟨_,Tl fun n=>?_,A⟩
   rw[c8];simp only[l5,gK,hb,Rb,xnw,bC,h1,M1];grind
  exact Tu
 |box e x=>
  simp only[sop];split
  ·rename_i v hv;split
   ·rename_i l hl;obtain⟨w,h1,h2⟩:=d hv;cases hb:Nat.beq e rgT with
    |true=>
     rw[Ra];refine(DJ (cU h2 hl) hs).mono fun a τ' F' hp' _ _ ⟨v,B,A⟩=>⟨v,Tl fun n=>?_,A⟩
     rw[c8];simp only[l5,IG,hb,Ra,h1,B]
    |false=>
    rw[Rb];refine(HB (cU h2 hl) hs).mono fun a τ' F' hp' _ _ ⟨B,A⟩=>⟨_,Tl fun n=>?_,A⟩
    rw[c8];simp only[l5,IG,hb,Rb,xnw,h1,M1,zE];grind
   exact Tu
  exact Tu
 |build t T=>simp only[sop];split;rename_i ps R;obtain⟨qs,h1,h2⟩:=iM ht R;exact Tz (x:=eE P t qs) (fun n=>by rw[c8];simp only[l5,h1]) (TA fun a h=>Ja h2 h);exact Tu
 |buildSlice t len T=>
  simp only[sop];split
  ·rename_i ps R;obtain⟨qs,h1,h2⟩:=iM ht R;refine(uO h2 hs).mono fun a τ' F' hp' _ _ ⟨n,B,A,J⟩=>⟨_,Tl fun m=>?_,J⟩
   rw[c8];simp only[l5,xnw,h1,B,M1,A]
  exact Tu
 |makeMap t r=>
  simp only[sop];cases r with
  |some r=>unfold mY;split;grind;exact Tu|none=>
   refine(DH (t:=t) hs).mono fun a τ' F' hp' _ _ ⟨⟨kt,vt,e0⟩,B,A⟩=>⟨_,Tl fun m=>?_,A⟩
   rw[c8,B];simp only[l5,xnw,jD,HZ,M1,e0]
 |lookup t x k ok=>
  simp only[sop];split
  ·rename_i v hv;split
   ·rename_i u N;obtain⟨w,h1,h2⟩:=d hv;obtain⟨y,h3,h4⟩:=d N;refine(Ga h2 h4 hs).mono fun c τ' F' hp' _ _ ⟨B,r,A,J⟩=>⟨r,Tl fun n=>?_,J⟩
    rw[c8,B];simp only[l5,h1,h3,A,i8]
   exact Tu
  exact Tu
 |mapEntry t m k=>
  simp only[sop];split
  ·rename_i v hv;split
   ·rename_i u N;obtain⟨w,h1,h2⟩:=d hv;obtain⟨w',h3,h4⟩:=d N;refine(Bj h2 h4 hs).mono fun c τ' F' hp' _ _ ⟨x,B,A⟩=>⟨x,Tl fun n=>?_,A⟩
    rw[c8];simp only[l5,h1,h3,B]
   exact Tu
  exact Tu
 |entryStore t m k x=>
  simp only[sop];split
  ·rename_i v hv;split
   ·rename_i u N;split
    ·rename_i y hy;obtain⟨w,h1,h2⟩:=d hv;obtain⟨w',h3,h4⟩:=d N;obtain⟨ae,Q,V⟩:=d hy;refine(uR h2 h4 V hs).mono fun c τ' F' hp' _ _ ⟨B,A⟩=>⟨undef,Tl fun n=>?_,?_⟩
     rw[c8];simp only[l5,h1,h3,Q,A];subst B;exact .tup [] [] rfl (fun i a x h _=>by simp at h)
    exact Tu
   exact Tu
  exact Tu
 |mapUpdate t m k x=>
  simp only[sop];split
  ·rename_i v hv;split
   ·rename_i u N;split
    ·rename_i y hy;obtain⟨w,h1,h2⟩:=d hv;obtain⟨w',h3,h4⟩:=d N;obtain⟨ae,Q,V⟩:=d hy;refine(Gc h2 h4 V hs).mono fun c τ' F' hp' _ _ ⟨B,A⟩=>⟨undef,Tl fun n=>?_,?_⟩
     rw[c8];simp only[l5,h1,h3,Q,A];subst B;exact .tup [] [] rfl (fun i a x h _=>by simp at h)
    exact Tu
   exact Tu
  exact Tu
 |load t a=>simp only[sop];split;rename_i v hv;obtain⟨w,h1,h2⟩:=d hv;exact Tz (x:=D5 P hp t w) (fun n=>by rw[c8];simp only[l5,h1]) (DG h2 hs);exact Tu
 |store t a x=>
  simp only[sop];split
  ·rename_i v hv;split
   ·rename_i u N;obtain⟨w,h1,h2⟩:=d hv;obtain⟨y,h3,h4⟩:=d N;refine(Jo h2 h4 hs).mono fun c τ' F' hp' _ _ ⟨B,A⟩=>⟨undef,Tl fun n=>?_,?_⟩
    rw[c8];simp only[l5,h1,h3,A];subst B;exact .tup [] [] rfl (fun i a x h _=>by simp at h)
   exact Tu
  exact Tu
 |nilCheck x=>
  simp only[sop];split
  ·rename_i v hv;obtain⟨w,h1,h2⟩:=d hv;unfold yR;split
   ·rename_i b z row fld;cases h2 with
    |ptr _ _ _ _ i o h h0=>exact Tz (x:=some (.pointer (some ⟨i,o+row.toN U*z+fld,none⟩))) (fun n=>by rw[c8];simp only[l5,h1];rfl) (TC ⟨_,rfl,.ptr b z row fld i o h h0⟩)
   ·rename_i t L row fld;cases h2 with
    |pptr _ _ _ _ i o l c h h0 h3=>exact Tz (x:=some (.pointer (some ⟨i,o+row.toN U*(kf P t).length+fld,none⟩))) (fun n=>by rw[c8];simp only[l5,h1];rfl) (TC ⟨_,rfl,.pptr t L row fld i o l c h h0 h3⟩)
   ·rename_i row fld;cases h2 with
    |rp _ _ h0=>exact Tz (x:=some (.pointer (some ⟨row.toN U,fld,some 1⟩))) (fun n=>by rw[c8];simp only[l5,h1];rfl) (TC ⟨_,rfl,.rp row fld h0⟩)
   ·rename_i e;cases h2 with
    |rpq _ _ hq=>
     have hx:0<=e.toI U->w= .pointer (some ⟨e.toN U,0,some 1⟩):=fun h0=>by
      generalize hm:e.toI U=m at hq h0;cases hq with
      |rp k=>grind|rpn=>omega
     refine Ts Ty fun _ s2 o2 ah p1=>?_;have p1:=A0 p1;have O:=hx p1;subst O;exact Tz (x:=some (.pointer (some ⟨e.toN U,0,some 1⟩))) (fun n=>by rw[c8];simp only[l5,h1];rfl) (TC ⟨_,rfl,.rp e 0 p1⟩)
   ·rename_i g l m;cases h2 with
    |fn _ _ _ xs ys k1 k2 k3 X=>exact Tz (x:=some (.func (.func g) xs.toArray ys.toArray)) (fun n=>by rw[c8];simp only[l5,h1];rfl) (TC ⟨_,rfl,.fn _ l m xs ys k1 k2 k3 X⟩)
   exact Tu
  exact Tu
 |binOp op t x y u=>simp only[sop];split;rename_i v hv;split;rename_i w O;obtain⟨a,h1,h2⟩:=d hv;obtain⟨b,h3,h4⟩:=d O;exact Tz (x:=G5 P op t a b) (fun n=>by rw[c8];simp only[l5,h1,h3]) (LU h2 h4);exact Tu;exact Tu
 |unOp op t x=>simp only[sop];split;rename_i v hv;obtain⟨a,h1,h2⟩:=d hv;exact Tz (x:=xun op a) (fun n=>by rw[c8];simp only[l5,h1]) (Qn h2);exact Tu
 |convert src dst x=>simp only[sop];split;rename_i v hv;obtain⟨a,h1,h2⟩:=d hv;exact Tz (x:=gY P src dst a) (fun n=>by rw[c8];simp only[l5,h1]) (LY h2);exact Tu
 |makeInterface t x=>simp only[sop];split;rename_i v hv;obtain⟨a,h1,h2⟩:=d hv;exact Tz (x:=lD P t a) (fun n=>by rw[c8];simp only[l5,h1]) (TA fun c h=>Jf h2 h);exact Tu
 |makeFunc fn first C=>simp only[sop];split;rename_i fs ab;split;rename_i cs Y;obtain⟨xs,h1,h2⟩:=rL ht ab;obtain⟨ys,h3,h4⟩:=rL ht Y;exact Tz (x:=some (.func fn xs.toArray ys.toArray)) (fun n=>by rw[c8];simp only[l5,h1,h3];rfl) (TC ⟨_,rfl,.fn fn fs cs xs ys h2.1 h2.2 h4.1 h4.2⟩);exact Tu;exact Tu
 |makeSlice t l c=>
  simp only[sop];split
  ·rename_i v hv;split
   ·rename_i w O;obtain⟨a,h1,h2⟩:=d hv;obtain⟨b,h3,h4⟩:=d O;refine(wK h2 h4 hs).mono fun c τ' F' hp' _ _ ⟨n,B,A,J⟩=>⟨_,Tl fun m=>?_,J⟩
    rw[c8];simp only[l5,xnw,h1,h3,B,M1,A]
   exact Tu
  exact Tu
 |slice t x lo hi mx=>
  simp only[sop];split
  ·rename_i v hv;split
   ·rename_i l hl;split
    ·rename_i h hh;split
     ·rename_i m hm;obtain⟨a,h1,h2⟩:=d hv;obtain⟨l',h3,h4⟩:=Bo ht hl;obtain⟨h',Q,V⟩:=Bo ht hh;obtain⟨m',h7,h8⟩:=Bo ht hm;refine(Jm h2 h4 V h8 hs).mono fun c τ' F' hp' _ _ ⟨B,w,A,J⟩=>⟨w,Tl fun n=>?_,J⟩
      rw[c8,B];simp only[l5,h1,h3,Q,h7,A]
     exact Tu
    exact Tu
   exact Tu
  exact Tu
 |fieldAddr t x i=>simp only[sop];split;rename_i v hv;obtain⟨a,h1,h2⟩:=d hv;exact Tz (x:=I6 P t a i) (fun n=>by rw[c8];simp only[l5,h1]) (TA fun c h=>wI h2 h);exact Tu
 |field t x i=>simp only[sop];split;rename_i v hv;obtain⟨a,h1,h2⟩:=d hv;exact Tz (x:=lB P t a i) (fun n=>by rw[c8];simp only[l5,h1]) (TA fun c h=>Je h2 h);exact Tu
 |indexAddr t x i=>simp only[sop];split;rename_i v hv;split;rename_i w O;obtain⟨a,h1,h2⟩:=d hv;obtain⟨b,h3,h4⟩:=d O;exact Tz (x:=C4 P t a b) (fun n=>by rw[c8];simp only[l5,h1,h3]) (wJ h2 h4);exact Tu;exact Tu
 |index t x i=>simp only[sop];split;rename_i v hv;split;rename_i w O;obtain⟨a,h1,h2⟩:=d hv;obtain⟨b,h3,h4⟩:=d O;exact Tz (x:=hJ P t a b) (fun n=>by rw[c8];simp only[l5,h1,h3]) (Jg h2 h4);exact Tu;exact Tu
 |range t x=>
  simp only[sop];split
  ·rename_i v hv;obtain⟨w,h1,h2⟩:=d hv;refine(Jk h2 hs).mono fun a τ' F' hp' _ _ ⟨n,B,A,J⟩=>⟨_,Tl fun m=>?_,J⟩
   rw[c8];simp only[l5,xnw,h1,B,M1,A]
  exact Tu
 |next it isS=>
  simp only[sop];split
  ·rename_i v hv;obtain⟨w,h1,h2⟩:=d hv;refine(Mj h2 hs).mono fun a τ' F' hp' _ _ ⟨u,B,A⟩=>⟨u,Tl fun m=>?_,A⟩
   rw[c8];simp only[l5,h1,B]
  exact Tu
 |extract x i=>simp only[sop];split;rename_i v hv;obtain⟨a,h1,h2⟩:=d hv;exact Tz (x:=aI a i) (fun n=>by rw[c8];simp only[l5,h1]) (TA fun c h=>DC h2 h);exact Tu
 |call c=>
  simp only[sop];split
  ·rename_i l hl;obtain⟨args,h1,h2⟩:=rL ht hl;obtain⟨H,D,ats⟩:=c;have h1:aH tm D.toList=some args:=h1;cases H with
   |builtin b=>
    simp only;unfold Dv;split
    ·rename_i t u a x E;obtain⟨v,vs,rfl,K,M⟩:=h2.uncons;obtain⟨w,ws,rfl,g3,g4⟩:=M.uncons;have:ws=[]:=QP g4.1.symm;subst this;have hx:∀n,xop P (D2 P ov n) tm hp (.call ⟨.builtin .append,D,ats⟩)=match E0 P hp t u v w with|some r=>some r|none=>aE P hp t u v w:=fun n=>by rw[c8];simp only[l5,h1,E,B4];rfl
     unfold HA;split
     ·rename_i e A he Z;split;exact Tu
      ·rename_i ie ac;split;exact Tu
       ·rename_i z hz;cases hq:Nat.beq z.cells.toList.length ie.size&&Nat.ble ie.bytes 1048576&&Nat.ble 1 ie.size with
        |false=>exact Tu|true=>
         simp only[Ra];rw[QJ]at hq;obtain⟨q1,q2⟩:=hq;have W:=QM q2;refine Ts (HO W g3 hs) fun src s1 o1 hs1 ⟨n,news,k1,k2,k3,X⟩=>?_;refine(NV W K k2 k3 X hs1).mono fun c τ' F' hp' _ _ ⟨y,k5,k6⟩=>⟨y,Tl fun n=>?_,k6⟩
         rw[hx,Gs he Z ac hz q1 k1,k5]
     exact Tu
    rename_i t x E;obtain⟨v,vs,rfl,K,M⟩:=h2.uncons;have:vs=[]:=QP M.1.symm;subst this;exact Tz (x:=W7 hp P t v) (fun n=>by rw[c8];simp only[l5,h1,E,B4]) (NZ K);rename_i t x E;obtain⟨v,vs,rfl,K,M⟩:=h2.uncons;have:vs=[]:=QP M.1.symm;subst this;exact Tz (x:=nI P t v) (fun n=>by rw[c8];simp only[l5,h1,E,B4]) (NX K);rename_i x xs;obtain⟨v,vs,rfl,K,M⟩:=h2.uncons;exact Tz (x:=eY false v vs) (fun n=>by rw[c8];simp only[l5,h1,B4]) (Bl K M);rename_i x xs;obtain⟨v,vs,rfl,K,M⟩:=h2.uncons;exact Tz (x:=eY true v vs) (fun n=>by rw[c8];simp only[l5,h1,B4]) (Bl K M);exact Tu
   |value g=>
    simp only;split
    ·rename_i v hv;obtain⟨w,h3,h4⟩:=d hv;unfold HE;split
     ·rename_i g' first C
      split
      ·rename_i fn aa;cases ad:jB fn with
       |false=>exact Tu|true=>
        simp only[Ra];cases h4 with
        |fn _ _ _ xs ys k1 k2 k3 X=>
         have hl:VDL P U τ F (first++l++C) (xs++args++ys):=(VDL.append ⟨k1,k2⟩ h2).append ⟨k3,X⟩;refine(G.run g' _ _ τ F s hp hl hs).mono fun a τ' F' hp' _ _ ⟨y,B,A⟩=>⟨y,B.mono fun n hn=>?_,A⟩
         rw[c8];simp only[l5,h1,h3,nH,aa,ad,Ra];simpa using hn
      exact Tu
     ·rename_i ks vs gg nt ps as bo;have Q:=h4;cases h4 with
      |yld _ _ _ _ _ _ _ i tms pr db hF hp0 k=>
       refine(G.round ks vs gg nt ps as bo l args τ F s hp i Q h2 hs).mono fun a τ' F' hp' _ _ ⟨y,B,A⟩=>⟨y,B.mono fun n hn=>?_,A⟩
       rw[c8];simp only[l5,h1,h3,nH];exact hn
     exact Tu
    exact Tu
   |invoke r m=>exact Tu
  exact Tu
 |_=>exact Tu
end
def fF (f:Fm)(dst:Bb Tmp)(v:SV):Fm:=match dst with
 |some d=>(d,v)::f|none=>f
section
variable (P :Aw)(U:Ab)
def IU (f:Fm)(d:Tmp)(t:Bool):Fm:=match lk f d with
 |some (.bool e)=>(match e with
  | .bool _=>f|_=>(d,.bool (.bool t))::f)
 |_=>f
def Y6 (all:An)(f:Fm)(o:Oper)(t:Bool):Fm:=match o.guard with
 |some (j,want)=>match all[j]? with
  |some p=>match p.dst with
   |some d=>IU f d (t==want)|none=>f
  |none=>f
 |none=>f
def FK (f:Fm)(c:Az)(t:Bool):Fm:=match c with
 | .tmp d=>IU f d t|_=>f
def rN (all:An)(f:Fm)(o:Oper):M Bool:=
 match o.guard with
 |none=>i4 true|some (j,want)=>match all[j]? with
  |some p=>match p.dst with
   |some d=>match lk f d with
    |some (.bool e)=>b9 (gG U e) fun t=>i4 (t==want)
    |some (.tup [])=>i4 false|_=>a8 "guard"
   |none=>i4 false
  |none=>i4 false
def sone (call:I0)(nt:Nat)(all:An)(o:Oper)(f:Fm):M Fm:=
 bif A9 nt o.dst then
  b9 (rN U all f o) fun t=>bif t then b9 (sop P U call (Y6 all f o t) o.op) fun v=>i4 (fF (Y6 all f o t) o.dst v)else i4 (fF (Y6 all f o t) o.dst (.tup []))
 else a8 "slot"
def Mk (call:I0)(nt:Nat)(all:An):An->Fm->M Fm
 | [],f=>i4 f|o::os,f=>b9 (sone P U call nt all o f) fun f'=>Mk call nt all os f'
abbrev jF:=An->Fm->M Fm
abbrev lN:=Nat->Code->(Fm->M (Exit×Fm))->Fm->Bb (M (Exit×Fm))
def tH :Code->Bb Code
 | .loop b=>some b|_=>none
def Bp (call:I0)(g:Ay)(nt:Nat)(fo:Az)(ps:Array Tmp)(as bo:Code)(f:Fm):M (Exit×Fm):=
 have _:=P
 a8 "range"
def M9 (call:I0)(dr:jF)(lp:lN)(g:Ay)(rg:Bool)(nt:Nat):Nat->Code->Fm->M (Exit×Fm)
 |0,_,_=>a8 "fuel"|m+1,c,f=>match c with
  | .skip=>i4 (.normal,f)| .label _=>i4 (.normal,f)| .region _ ops draw=>b9 (bif draw then dr ops.toList f else Mk P U call nt ops.toList ops.toList f) fun f'=>i4 (.normal,f')
  | .seq x y=>b9 (M9 call dr lp g rg nt m x f) fun r=>match r.1 with
   | .normal=>M9 call dr lp g rg nt m y r.2|e=>i4 (e,r.2)
  | .cond c x y=>match u9 f c with
   |some (.bool e)=>b9 (gG U e) fun t=>bif t then M9 call dr lp g rg nt m x (FK f c t)else M9 call dr lp g rg nt m y (FK f c t)
   |_=>a8 "if"
  | .block id b => b9 (match tH b with
    |some lb=>match lp id lb (M9 call dr lp g rg nt m lb) f with
     |some r=>r|none=>M9 call dr lp g rg nt m b f
    |none=>M9 call dr lp g rg nt m b f) fun r=>match r.1 with
   | .exit j=>bif Nat.beq j id then i4 (.normal,r.2)else i4 (.exit j,r.2)|e=>i4 (e,r.2)
  | .loop b=>b9 (M9 call dr lp g rg nt m b f) fun r=>match r.1 with
   | .normal=>M9 call dr lp g rg nt m (.loop b) r.2|e=>i4 (e,r.2)
  | .exit id=>i4 (.exit id,f)| .ret=>i4 (.ret,f)| .scope b=>b9 (M9 call dr lp g rg nt m b f) fun r=>match r.1 with
   | .normal=>i4 (.normal,r.2)| .exit j=>i4 (.exit j,r.2)| .ret=>i4 (.ret,r.2)|_=>a8 "scope"
  | .rangeFunc fo ps as bo=>bif rg then Bp P call g nt fo ps as bo f else a8 "a range in a range"|_=>a8 "code"
end
section
variable {P :Aw}{U:Ab}{ov:Aa}{nt:Nat}
variable {τ:Tau}{F:Ac}{f:Fm}{tm:Ao}
def TD.mono {τ':Tau}{F':Ac}(ht:Tle τ τ')(hf:Fle F F')(h:TD P U τ F f tm):TD P U τ' F' f tm:=fun k a b=>(h k a b).mono ht hf
theorem TD.put (h:TD P U τ F f tm){a:SV}{v:Av}(g:VD P U τ F a v)(dst:Bb Tmp):TD P U τ F (fF f dst a) (y9 tm dst v):=by
 cases dst with
 |none=>exact h|some d=>intro k b hb;simp only[fF,z8]at hb;simp only[y9,TQ];by_cases e:d=k;grind;rw[Re e]at hb;rw[Re (fun h=>e h.symm)];exact h k b hb
def Dj (f:Fm)(dst:Bb Tmp)(v:SV):∃pre,fF f dst v=pre++f:=by
 cases dst with
 |none=>exact⟨[],rfl⟩|some d=>exact⟨[(d,v)],rfl⟩
theorem vC {s:SS}(h:TD P U τ F f tm)(all:An)(o:Oper):OKp U (rN U all f o) s fun t=>u6 all tm o=t:=by
 unfold rN u6;split;rename_i hg;simp only[hg];exact TC rfl
 ·rename_i j g hg;simp only[hg];unfold eP;split
  ·rename_i p hp;simp only[hp];split
   ·rename_i d b;split
    ·rename_i e he;have hv:=h d _ he;refine OKp.test.bind fun t _ _ _ ht=>TC ?_;generalize hx:(tm.get d).getD undef=x at hv;cases hv;cases hg:tm.get d with
     |none=>rw[hg]at hx;simp[undef]at hx|some y=>grind
    rename_i he;have hv:=h d _ he;generalize hx:(tm.get d).getD undef=x at hv;cases hv;refine TC ?_;grind;exact Tx
   rename_i b;simp only[b];exact TC rfl
  rename_i hp;simp only[hp];exact TC rfl
variable {t:Bool}
def Hv (h:TD P U τ F f tm){d:Tmp}(ht:∀b,tm.get d=some (.bool b)->b=t):TD P U τ F (IU f d t) tm:=by
 unfold IU;split
 ·rename_i e he;split;exact h
  ·intro k a g;rw[z8]at g;split at g
   ·rename_i e';subst e';cases g;have hv:=h d _ he;generalize hx:(tm.get d).getD undef=x at hv⊢;cases hv;cases hg:tm.get d with
    |none=>rw[hg]at hx;cases hx
    |some y=>rw[hg]at hx;cases hx;rw[ht _ hg];exact .bool (.bool t)
   exact h k a g
 exact h
theorem Dn (f:Fm)(d:Tmp)(t:Bool):∃pre,IU f d t=pre++f:=by unfold IU;split;split;simp_all;exact⟨[_],rfl⟩;simp_all
theorem Hu (h:TD P U τ F f tm){all:An}{o:Oper}(g:u6 all tm o=t):TD P U τ F (Y6 all f o t) tm:=by unfold Y6;unfold u6 eP at g;split;rename_i j r hg;split;rename_i p hp;split;rename_i d w;refine Hv h fun b hb=>?_;subst g;simp_all;exact h;exact h;exact h
theorem NO (h:TD P U τ F f tm){c:Az}{b:Bool}(hc:c9 tm c=some (.bool b))(hb:b=t):TD P U τ F (FK f c t) tm:=by unfold FK;split;rename_i d;refine Hv h fun b' g=>?_;have hc:some ((tm.get d).getD undef)=_:=hc;grind;exact h
theorem LL (f:Fm)(c:Az)(t:Bool):∃pre,FK f c t=pre++f:=by unfold FK;split;exact Dn _ _ _;simp_all
def Dm (all:An)(f:Fm)(o:Oper)(t:Bool):∃pre,Y6 all f o t=pre++f:=by
 unfold Y6;repeat' split
 exact Dn _ _ _;all_goals exact⟨[],rfl⟩
variable (P ov) in
def XOps (nt:Nat)(all l:An)(tm:Ao)(hp:Hp)(tm':Ao)(hp':Hp):Prop:=EV fun n=>vY P (D2 P ov n) nt all l tm hp=some (tm',hp')
theorem HM {call:I0}(b:E1 P U ov call){all:An}:∀ {l:An} {τ:Tau} {F:Ac} {s:SS} {hp:Hp} {f:Fm} {tm:Ao},TD P U τ F f tm->SD P U τ F s hp->OKh P U (Mk P U call nt all l f) τ F s hp fun f' τ' F' hp'=>∃tm',XOps P ov nt all l tm hp tm' hp'/\TD P U τ' F' f' tm'/\ ∃pre,f'=pre++f
 | [],τ,F,s,hp,f,tm,ht,hs=>Tw ⟨tm,Tl fun n=>vZ,ht,[],rfl⟩| o :: l, τ, F, s, hp, f, tm, ht, hs => by
  unfold Mk sone;cases z:A9 nt o.dst with
  |false=>exact OKh.fail.bind (R:=fun _ _ _ _=>False) fun _ _ _ _ _ _ _ h=>h.elim
  |true=>
   simp only[Ra];have step:∀ {f0:Fm} {a:SV} {v:Av} {τ1:Tau} {F1:Ac} {s1:SS} {hp1:Hp},TD P U τ1 F1 f0 tm->(∃pre,f0=pre++f)->SD P U τ1 F1 s1 hp1->VD P U τ1 F1 a v->
     OKh P U (Mk P U call nt all l (fF f0 o.dst a)) τ1 F1 s1 hp1 fun f' τ' F' hp'=>∃tm',XOps P ov nt all l (y9 tm o.dst v) hp1 tm' hp'/\TD P U τ' F' f' tm'/\ ∃pre,f'=pre++f:=by
    intro f0 a v τ1 F1 s1 hp1 h1 ⟨D,h0⟩ h2 h3;refine(HM b (h1.put h3 o.dst) h2).mono fun f' τ' F' hp' _ _ ⟨tm',r,w,pre,y⟩=>?_;obtain⟨p,hp⟩:=Dj f0 o.dst a;grind
   refine OKh.bind (R:=fun f' τ' F' hp'=>∃f0 a v,f'=fF f0 o.dst a/\TD P U τ' F' f0 tm/\(∃pre,f0=pre++f)/\VD P U τ' F' a v/\((u6 all tm o=true/\XOp P ov o.op tm hp v hp')\/(u6 all tm o=false/\v=undef/\hp'=hp))) ?_ ?_
   ·refine Ts (vC ht all o) fun t s1 C hs1 g=>?_;have ht:=Hu ht g;have d:=Dm all f o t;cases t with
    |true=>refine(Bn b ht hs1 o.op).bind fun a τ1 F1 s2 hp1 ex B ⟨v,h1,h2⟩=>Tw ⟨_,a,v,rfl,ht.mono ex.t ex.f,d,h2,.inl ⟨g,h1⟩⟩
    |false=>exact Tw ⟨_,.tup [],undef,rfl,ht,d,.tup [] [] rfl (fun i a x h _=>by grind),.inr ⟨g,rfl,rfl⟩⟩
   ·intro f' τ1 F1 s1 hp1 ex hs1 ⟨f0,a,v,r,ht,d,h1,h2⟩;subst r;refine(step ht d hs1 h1).mono fun A τ' F' hp' _ _ ⟨tm',r,w,y⟩=>⟨tm',?_,w,y⟩
    rcases h2 with⟨g,hx⟩| ⟨g,hv,hh⟩;exact(hx.and r).mono fun n ⟨k1,k2⟩=>by rw[U4,z,Ra,g,Ra,k1];exact k2
    subst hv;subst hh;exact r.mono fun n k=>by rw[U4,z,Ra,g,Rb];exact k
variable {ar :Ai}
variable (P ov) in
def XC (ar:Ai)(nt:Nat)(c:Code)(tm:Ao)(hp:Hp)(e:Exit)(tm':Ao)(hp':Hp):Prop:=
 ∃rs:Ah,(rs.Nodup/\ ∀r∈rs,hp.nx<=r/\r<hp'.nx/\hp'.m.get r=some .dfr)/\
  ∃n0,∀n m ds,n0<=n->n0<=m->n8 P (v6 P) (D2 P ov n) nt ar m c tm hp ds=some (.mk e tm' hp' (rs.map Df.mark++ds))
variable {c:Code}{hp:Hp}{e:Exit}{tm':Ao}
theorem XC.of0 {hp':Hp}(h:∃n0,∀n m ds,n0<=n->n0<=m->n8 P (v6 P) (D2 P ov n) nt ar (m+1) c tm hp ds=some (.mk e tm' hp' ds)):XC P ov ar nt c tm hp e tm' hp':=by
 obtain⟨n0,h⟩:=h;refine⟨[],(by grind),n0+1,fun n m ds hn hm=>?_⟩;obtain⟨m,rfl⟩:∃k,m=k+1:=⟨m-1,by omega⟩
 grind
variable {tm1:Ao}
theorem XC.map {c':Code}{hp1:Hp}{e':Exit}(h:XC P ov ar nt c tm hp e tm1 hp1)(k:∀n m ds b,n8 P (v6 P) (D2 P ov n) nt ar m c tm hp ds=some (.mk e tm1 hp1 b)->n8 P (v6 P) (D2 P ov n) nt ar (m+1) c' tm hp ds=some (.mk e' tm' hp1 b)):XC P ov ar nt c' tm hp e' tm' hp1:=by
 obtain⟨d,h1,n0,h2⟩:=h;refine⟨d,h1,n0+1,fun n m ds hn hm=>?_⟩;obtain⟨m,rfl⟩:∃k,m=k+1:=⟨m-1,by omega⟩
 grind
theorem XC.comp {w y:Code}{hp1 hp':Hp}(h1:XC P ov ar nt w tm hp .normal tm1 hp1)(h2:XC P ov ar nt y tm1 hp1 e tm' hp')(B:hp.nx<=hp1.nx)(C:hp1.nx<=hp'.nx)(hk:∀r,r<hp1.nx->hp1.m.get r=some .dfr->hp'.m.get r=some .dfr)(k:∀n m ds b d,n8 P (v6 P) (D2 P ov n) nt ar m w tm hp ds=some (.mk .normal tm1 hp1 b)->n8 P (v6 P) (D2 P ov n) nt ar m y tm1 hp1 b=some (.mk e tm' hp' d)->n8 P (v6 P) (D2 P ov n) nt ar (m+1) c tm hp ds=some (.mk e tm' hp' d)):XC P ov ar nt c tm hp e tm' hp':=by
 obtain⟨g,⟨a1,a2⟩,D,a3⟩:=h1;obtain⟨h,⟨z,b2⟩,E,A⟩:=h2;refine⟨h++g,⟨Te.2 ⟨z,a1,fun r hr q hq e=>?_⟩,fun r hr=>?_⟩,D+E+1,fun n m ds hn hm=>?_⟩;grind;grind
 ·obtain⟨m,rfl⟩:∃k,m=k+1:=⟨m-1,by omega⟩
  rw[RH,QX];exact k n m ds _ _ (by grind) (A n m _ (by omega) (by omega))
theorem OKh.monoE {α:Type}{m:M α}{s:SS}{R b:α->Tau->(Ac)->Hp->Prop}(h:OKh P U m τ F s hp R)(hr:∀a τ' F' s' hp',Ext τ F s hp τ' F' s' hp'->R a τ' F' hp'->b a τ' F' hp'):OKh P U m τ F s hp b:=by intro Q hq hs;obtain⟨a,s',h1,τ',F',hp',h2,h3,h4⟩:=h Q hq hs;grind
variable (P U ov) in
def fK (ar:Ai)(nt:Nat)(m:M (Exit×Fm))(c:Code)(f:Fm):Prop:=∀τ F s hp tm,TD P U τ F f tm->SD P U τ F s hp->
 OKh P U m τ F s hp fun r τ' F' hp'=>∃tm',XC P ov ar nt c tm hp r.1 tm' hp'/\TD P U τ' F' r.2 tm'/\ ∃pre,r.2=pre++f
variable (P U ov) in
def bY (nt:Nat)(dr:jF):Prop:=∀ops f τ F s hp tm,TD P U τ F f tm->SD P U τ F s hp->
 OKh P U (dr ops f) τ F s hp fun f' τ' F' hp'=>∃tm',(EV fun n=>v6 P (D2 P ov n) nt ops tm hp=some (tm',hp'))/\TD P U τ' F' f' tm'/\ ∃pre,f'=pre++f
variable (P U ov) in
def bZ (ar:Ai)(nt:Nat)(lp:lN):Prop:=∀id b body f r,(∀f',fK P U ov ar nt (body f') b f')->lp id b body f=some r->fK P U ov ar nt r (.loop b) f
def Ge {call:I0}(b:E1 P U ov call)(g:Ay)(fo:Az)(ps:Array Tmp)(as bo:Code)(f:Fm):fK P U ov none nt (Bp P call g nt fo ps as bo f) (.rangeFunc fo ps as bo) f:=by intro τ F s hp tm ht hs;unfold Bp;exact Tu
theorem Dw {call:I0}(A:E1 P U ov call){dr:jF}(E:bY P U ov nt dr){lp:lN}(G:bZ P U ov ar nt lp)(g:Ay)(rg:Bool)(J:rg=true->ar=none):∀(m:Nat) (c:Code) (f:Fm),fK P U ov ar nt (M9 P U call dr lp g rg nt m c f) c f
 |0,c,f=>fun τ F s hp tm ht hs=>Tu
 |m+1,c,f=>by
  have C:=Dw A E G g rg J m;cases c with
  |rangeFunc fo ps as bo=>
   intro τ F s hp tm ht hs;cases hb:rg with
   |false=>exact Tu|true=>have:=J hb;subst this;exact Ge A g fo ps as bo f τ F s hp tm ht hs
  |skip=>exact fun τ F s hp tm ht hs=>Tw ⟨tm,XC.of0 ⟨0,fun n m ds _ _=>rfl⟩,ht,[],rfl⟩
  |label l=>exact fun τ F s hp tm ht hs=>Tw ⟨tm,XC.of0 ⟨0,fun n m ds _ _=>rfl⟩,ht,[],rfl⟩
  |exit K=>exact fun τ F s hp tm ht hs=>Tw ⟨tm,XC.of0 ⟨0,fun n m ds _ _=>rfl⟩,ht,[],rfl⟩
  |ret=>exact fun τ F s hp tm ht hs=>Tw ⟨tm,XC.of0 ⟨0,fun n m ds _ _=>rfl⟩,ht,[],rfl⟩
  |region K ops draw=>
   intro τ F s hp tm ht hs;simp only[M9];cases draw with
   |true=>refine(E ops.toList f τ F s hp tm ht hs).bind fun f' τ' F' s' hp' _ _ ⟨tm',⟨n0,N⟩,d,w⟩=>Tw ⟨tm',XC.of0 ⟨n0,fun n m ds hn _=>?_⟩,d,w⟩;simp only[n8,Ra,N n hn]
   |false=>refine(HM A ht hs).bind fun f' τ' F' s' hp' _ _ ⟨tm',⟨n0,N⟩,d,w⟩=>Tw ⟨tm',XC.of0 ⟨n0,fun n m ds hn _=>?_⟩,d,w⟩;simp only[n8,Rb,N n hn]
  |seq x y=>
   intro τ F s hp tm ht hs;simp only[M9];refine(C x f τ F s hp tm ht hs).bind fun r τ1 F1 s1 hp1 ex hs1 ⟨tm1,hx,d,pre,w⟩=>?_;have T:∀e,r.1=e->e≠ .normal->OKh P U (i4 (e,r.2)) τ1 F1 s1 hp1 fun r τ' F' hp'=>∃tm',XC P ov ar nt (.seq x y) tm hp r.1 tm' hp'/\TD P U τ' F' r.2 tm'/\ ∃pre,r.2=pre++f:=by intro e he H;refine Tw ⟨tm1,hx.map fun n m ds z hk=>?_,d,pre,w⟩;simp only[n8,hk];grind
   split
   ·rename_i hr;refine(C y r.2 τ1 F1 s1 hp1 tm1 d hs1).monoE fun V τ' F' s' hp' B ⟨tm',hy,k2,p2,k3⟩=>⟨tm',?_,k2,p2++pre,by rw[k3,w,QX]⟩
    rw[hr]at hx;refine hx.comp hy ex.nx B.nx (fun r hlt hg=>B.dfr hs1 hlt hg (.inl rfl)) fun n m ds L M Q R=>?_;simp only[n8,Q];exact R
   grind
  |cond c x y=>
   intro τ F s hp tm ht hs;simp only[M9];split
   ·rename_i e he;obtain⟨v,h1,h2⟩:=H7 ht he;cases h2;refine Ts TF fun t s1 _ hs1 D=>?_;have ht:=NO ht h1 D;obtain⟨W,hp0⟩:=LL f c t;have app:∀ {r:Fm},(∃pre,r=pre++FK f c t)-> ∃pre,r=pre++f:=fun⟨p,h⟩=>(by grind)
    cases t with
    |true=>
     refine(C x _ τ F s1 hp tm ht hs1).mono fun r τ' F' hp' _ _ ⟨tm',hx,d,w⟩=>⟨tm',hx.map fun n m ds z hk=>?_,d,app w⟩
     simp only[n8,h1,D];exact hk
    |false=>
     refine(C y _ τ F s1 hp tm ht hs1).mono fun r τ' F' hp' _ _ ⟨tm',hx,d,w⟩=>⟨tm',hx.map fun n m ds z hk=>?_,d,app w⟩
     simp only[n8,h1,D];exact hk
   exact Tu
  |block K b=>
   intro τ F s hp tm ht hs;simp only[M9];have inner:fK P U ov ar nt (match tH b with
    |some lb=>match lp K lb (M9 P U call dr lp g rg nt m lb) f with
     |some r=>r|none=>M9 P U call dr lp g rg nt m b f
    |none=>M9 P U call dr lp g rg nt m b f) b f:=by
    split
    ·rename_i lb O;have hb:b= .loop lb:=by unfold tH at O;grind
     subst hb;split;rename_i r hr;exact G K lb _ f r (fun f'=>C lb f') hr;grind
    grind
   refine(inner τ F s hp tm ht hs).bind fun r τ1 F1 s1 hp1 ex hs1 ⟨tm1,hx,d,w⟩=>?_;split
   ·rename_i j hr;cases hb:Nat.beq j K with
    |true=>refine Tw ⟨tm1,hx.map fun n m ds z hk=>?_,d,w⟩;rw[hr]at hk;simp only[n8,hk,hb,Ra]|false=>refine Tw ⟨tm1,hx.map fun n m ds z hk=>?_,d,w⟩;rw[hr]at hk;simp only[n8,hk,hb,Rb]
   rename_i H;refine Tw ⟨tm1,hx.map fun n m ds z hk=>?_,d,w⟩;simp only[n8,hk];grind
  |loop b=>
   intro τ F s hp tm ht hs;simp only[M9];refine(C b f τ F s hp tm ht hs).bind fun r τ1 F1 s1 hp1 ex hs1 ⟨tm1,hx,d,pre,w⟩=>?_;split
   ·rename_i hr;refine(C (.loop b) r.2 τ1 F1 s1 hp1 tm1 d hs1).monoE fun V τ' F' s' hp' B ⟨tm',hy,k2,p2,k3⟩=>⟨tm',?_,k2,p2++pre,by rw[k3,w,QX]⟩
    rw[hr]at hx;refine hx.comp hy ex.nx B.nx (fun r hlt hg=>B.dfr hs1 hlt hg (.inl rfl)) fun n m ds L M Q R=>?_;simp only[n8,Q];exact R
   rename_i H;refine Tw ⟨tm1,hx.map fun n m ds z hk=>?_,d,pre,w⟩;simp only[n8,hk];grind
  |scope b=>intro τ F s hp tm ht hs;simp only[M9];refine(C b f τ F s hp tm ht hs).bind fun r τ1 F1 s1 hp1 ex hs1 ⟨tm1,hx,d,w⟩=>?_;split;rename_i hr;refine Tw ⟨tm1,hx.map fun n m ds z hk=>?_,d,w⟩;rw[hr]at hk;simp only[n8,hk];rename_i j hr;refine Tw ⟨tm1,hx.map fun n m ds z hk=>?_,d,w⟩;rw[hr]at hk;simp only[n8,hk];rename_i hr;refine Tw ⟨tm1,hx.map fun n m ds z hk=>?_,d,w⟩;rw[hr]at hk;simp only[n8,hk];exact Tu
  |_=>exact fun τ F s hp tm ht hs=>Tu
end
def jV :Nat->As->Fm
 |_,[]=>[]
 |k,a::l=>(k,a)::jV (k+1) l
section
variable (P :Aw)(U:Ab)
def HN (f:Fm):ResultVar->M SV
 | .tmp t=>i4 ((lk f t).getD .any)| .cell a t=>HK P U t ((lk f a).getD .any)
def cV (f:Fm):List ResultVar->M (As)
 | []=>i4 []|r::rs=>b9 (HN P U f r) fun v=>b9 (cV f rs) fun vs=>i4 (v::vs)
def yS :As->SV
 | [v]=>v|vs=>.tup vs
def sfun (call:I0)(dr:Nat->jF)(lp:Ay->Nat->lN)(m:Nat)(g:Ay)(args:As):M SV:=
 match P.funcs[g]? with
 |some fn=>bif wkFn fn then a8 "a capacity" else match fn.body with
  |some c=>b9 (M9 P U call (dr (args.length+(fn.ntmps-args.length))) (lp g (args.length+(fn.ntmps-args.length))) g true (args.length+(fn.ntmps-args.length)) m c (jV 0 args)) fun r=>match r.1 with
   | .normal=>b9 (cV P U r.2 fn.results.toList) fun vs=>i4 (yS vs)
   | .ret=>b9 (cV P U r.2 fn.results.toList) fun vs=>i4 (yS vs)
   |_=>a8 "end of a call"
  |none=>a8 "no body"
 |none=>a8 "no function"
def Gf (call:I0)(dr:Nat->jF)(lp:Ay->Nat->lN)(m:Nat)(ks:Ah)(vs:As)(g:Ay)(nt:Nat)(ps:Ah)(as bo:Code)(args:As):M SV:=
 have _:=P;have _:=U
 a8 "sround"
def Y7 (dr:I0->Nat->jF)(lp:I0->Ay->Nat->lN)(con:Ay->Bb (As->M SV)):Nat->I0
 |0=>⟨fun _ _=>a8 "depth of calls",fun _ _ _ _ _ _ _ _=>a8 "depth of rounds"⟩
 |n+1=>⟨fun g args=>match con g with
  |some k=>k args|none=>sfun P U (Y7 dr lp con n) (dr (Y7 dr lp con n)) (lp (Y7 dr lp con n)) n g args,
  fun ks vs g nt ps as bo args=>Gf P U (Y7 dr lp con n) (dr (Y7 dr lp con n)) (lp (Y7 dr lp con n)) n ks vs g nt ps as bo args⟩
end
section
variable {P :Aw}{U:Ab}{ov:Aa}
variable (P U ov) in
def A5 (k:As->M SV)(g:Ay):Prop:=∀l args τ F s hp,VDL P U τ F l args->SD P U τ F s hp->OKh P U (k l) τ F s hp fun a τ' F' hp'=>∃v,W8 P ov g args hp v hp'/\VD P U τ' F' a v
theorem xQ :∀(l:As) (k j:Nat) (a:SV),lk (jV k l) j=some a->k<=j/\l[j-k]? =some a
 | [],k,j,a,h=>by simp[jV,lk]at h|b::l,k,j,a,h=>by rw[jV,z8]at h;by_cases e:k=j;grind;rw[Re e]at h;obtain⟨h1,h2⟩:=xQ l (k+1) j a h;grind
def TD.args {τ:Tau}{F:Ac}{l:As}{args:Af}(h:VDL P U τ F l args):TD P U τ F (jV 0 l) (fill .e 0 args):=by intro k a b;obtain⟨_,h2⟩:=xQ l 0 k a b;obtain⟨v,h3,h4⟩:=h.get h2;rwa[K2 args k v (by omega)]
def qL {τ:Tau}{F:Ac}{f:Fm}{tm:Ao}(ht:TD P U τ F f tm){hp:Hp}:∀ {d:List ResultVar} {s:SS},SD P U τ F s hp->OKp U (cV P U f d) s fun l=>∃vs,J4 P tm hp d=some vs/\VDL P U τ F l vs
 | [],s,hs=>TC ⟨[],rfl,TY⟩|r::d,s,hs=>by
  have hv:∀t,VD P U τ F ((lk f t).getD .any) ((tm.get t).getD undef):=fun t=>by
   cases hl:lk f t with
   |none=>exact .any _|some b=>exact ht t b hl
  have one:OKp U (HN P U f r) s fun a=>∃v,eN P tm hp r=some v/\VD P U τ F a v:=by
   cases r with
   |tmp t=>exact TC ⟨_,rfl,hv t⟩|cell a t=>exact(DG (hv a) hs).mono fun b ⟨u,h1,h2⟩=>⟨u,h1,h2⟩
  refine one.bind fun a s1 h g ⟨v,h1,h2⟩=>(qL ht (hs.only h g)).bind fun l s2 _ _ ⟨vs,h3,h4⟩=>TC ⟨v::vs,by simp only[J4,h1,h3],TX h2 h4⟩
theorem Ml {τ:Tau}{F:Ac}{l:As}{vs:Af}(h:VDL P U τ F l vs):VD P U τ F (yS l) (eZ vs):=by unfold yS eZ;split;obtain⟨y,ys,rfl,h1,h2⟩:=h.uncons;have:=QP h2.1.symm;grind;rename_i b;split;rename_i v;have hl:=h.1;cases l<;>simp_all;exact h.tup
theorem eK {d:Ay->Af->Hp->Bb (Av×Hp)}:∀(b:Ah) (hp:Hp),b.Nodup->(∀r∈b,hp.m.get r=some .dfr)-> ∃hp',I7 P d (b.map Df.mark++ []) hp=some hp'/\hp'.nx=hp.nx/\ ∀i,i∉b->hp'.m.get i=hp.m.get i
 | [],hp,_,_=>⟨hp,rfl,rfl,fun _ _=>rfl⟩
 |r::b,hp,hn,hg=>by
  have h1:=hg r (by simp);rw[List.nodup_cons]at hn;have g:∀q∈b,q≠r:=fun q hq e=>hn.1 (e▸hq);obtain⟨hp',y,h,w⟩:=eK b {hp with m:=hp.m.set r none} hn.2 fun q hq=>by rw[TQ,Re (g q hq)];grind
  refine⟨hp',?_,h,fun i hi=>?_⟩;simp only[RM,RZ,I7,h1];omega;simp at hi;rw[w i hi.2,TQ,Re hi.1]
def lE {D D':Ay->Af->Hp->Bb (Av×Hp)}:∀(b:Ah) (hp:Hp),I7 P D (b.map Df.mark++ []) hp=I7 P D' (b.map Df.mark++ []) hp
 | [],hp=>rfl|r::b,hp=>by simp only[RM,RZ,I7];split;exact lE b _;rfl
variable {call:I0}{dr:Nat->jF}{lp:Ay->Nat->lN}
theorem HI (C:E1 P U ov call)(M:∀nt,bY P U ov nt (dr nt))(N:∀ar g nt,bZ P U ov ar nt (lp g nt))(m:Nat)(g:Ay)(hg:isT (ov g)=false):A5 P U ov (sfun P U call dr lp m g) g:=by
 intro l args τ F s hp hl hs;unfold sfun;split
 ·rename_i fn E;cases W:wkFn fn with
  |true=>rw[Ra];exact Tu|false=>
  have W:wkF P g=false:=by unfold wkF;rw[E];exact W
  rw [Rb];split
  ·rename_i c hc;refine(Dw C (M _) (N none g _) g true (fun _=>rfl) m c (jV 0 l) τ F s hp (fill .e 0 args) (TD.args hl) hs).bindE fun r τ1 F1 s1 hp1 ex hs1 ⟨tm1,⟨d,⟨R,w⟩,n1,Y⟩,e2,_⟩=>?_;rw[hl.1]at Y;have aa:(r.1= .normal\/r.1= .ret)-> ∀Q,((b9 (cV P U r.2 fn.results.toList) fun vs=>i4 (yS vs)) s1).vc U Q->
     ∃b s2,Q (b,s2)/\ ∃τ2 A hp2,Ext τ F s hp τ2 A s2 hp2/\SD P U τ2 A s2 hp2/\ ∃v,W8 P ov g args hp v hp2/\VD P U τ2 A b v:=by
    intro hr Q hq;have O:∀n:Nat,∃hp2,I7 P (O9 P (v6 P) (D2 P ov n) n) (d.map Df.mark++ []) hp1=some hp2/\hp2.nx=hp1.nx/\ ∀i,i∉d->hp2.m.get i=hp1.m.get i:=fun n=>eK d hp1 R fun r hr=>(w r hr).2.2;have J:∀n,I7 P (O9 P (v6 P) (D2 P ov n) n) (d.map Df.mark++ []) hp1=I7 P (O9 P (v6 P) (D2 P ov 0) 0) (d.map Df.mark++ []) hp1:=by exact fun n=>lE d hp1
    obtain⟨hp2,l1,l2,l3⟩:=O 0;let A:Ac:=fun j=>if j∈d then none else F1 j
    have D:SD P U τ1 A s1 hp2:=by
     refine hs1.sub true (fun j y hj h=>?_) (.inl rfl) (by omega) (fun b x j o hb hj=>?_) (fun j y hj=>?_);show(if j∈d then none else F1 j)=some y;rw[Re ?_];exact hj;intro hm;have h1:=(w j hm).2.2;rw[hs1.frz j y hj]at h1;cases h1;rcases h with h| ⟨_,h⟩;cases h;grind
     ·rcases hs1.live b x hb with⟨i',o',y',h1,h2,h3,h4⟩| ⟨h1,_⟩
      ·rw[hj]at h1;cases h1;have ab:j∉d:=fun hm=>by
        have Z:=(w j hm).2.2;rw[h2]at Z;cases Z;cases x with
        |cells l e z=>obtain⟨cs,n,h,_⟩:=h4;cases h
        |rows L e z ph=>obtain⟨cs,n,h,_⟩:=h4;cases h
        |map L kt vt=>obtain⟨_,es,reg,h,_⟩:=h4;cases h
        |iter s p=>obtain⟨_,n,h,_⟩:=h4;cases h
        |reg r L z=>obtain⟨_,_,cs,h,_⟩:=h4;cases h
       grind
      grind
     have hj:(if j∈d then none else F1 j)=some y:=hj;by_cases e:j∈d;grind;rw[Re e]at hj;exact⟨by rw[l3 j e];exact hs1.frz j y hj,by rw[l2];exact hs1.flt j y hj⟩
    have G:∀j,j<hp.nx->j∉d:=fun j hj hm=>by have:=(w j hm).1;omega
    have K:Ext τ F s hp τ1 A s1 hp2:=by refine ex.shrink (by omega) (fun j hj=>l3 j (G j hj)) (fun j y hj=>?_) (fun j y hj=>?_);grind;show(if j∈d then none else F1 j)=some y;rw[Re (G j (hs.flt j y hj))];exact ex.f j y hj
    have V:TD P U τ1 A r.2 tm1:=fun k a ha=>(e2 k a ha).sub true (fun j y hj h=>by show(if j∈d then none else F1 j)=some y;rw[Re ?_];exact hj;intro hm;have h1:=(w j hm).2.2;rw[hs1.frz j y hj]at h1;cases h1;rcases h with h| ⟨_,h⟩;cases h;exact h rfl) (.inl rfl);have H:OKh P U (b9 (cV P U r.2 fn.results.toList) fun vs=>i4 (yS vs)) τ1 A s1 hp2 fun a τ' F' hp'=>∃v,W8 P ov g args hp v hp'/\VD P U τ' F' a v:=by
     refine Ts (qL V D) fun vs s2 _ D ⟨ws,h1,h2⟩=>Tw ⟨eZ ws,⟨n1+1,fun n hn=>?_⟩,Ml h2⟩;obtain⟨n,rfl⟩:∃k,n=k+1:=⟨n-1,by omega⟩
     have hx:=Y n n [] (by omega) (by omega);show(bif isT (ov g)&&args.isEmpty then some (.bool true,hp)else fA (R7 P (v6 P) (D2 P ov n) (O9 P (v6 P) (D2 P ov n) n) n g) (bif wkF P g then wkA hp args else args) hp)=_;rw[hg,Bool.false_and,Rb,W,Rb];have B:=(J n).trans l1;have hb:R7 P (v6 P) (D2 P ov n) (O9 P (v6 P) (D2 P ov n) n) n g args hp=some (eZ ws,hp2):=by simp only[R7,E,hc];rcases hr with hr|hr;rw[hr]at hx;simp only[hx,pH,B,h1];rw[hr]at hx;simp only[hx,pH,B,h1]
     simp only[fA,hb]
    obtain⟨b,s3,q1,X,F3,T,x1,x2,x3⟩:=H Q hq D;exact⟨b,s3,q1,X,F3,T,K.trans x1,x2,x3⟩
   intro Q hq;cases hr:r.1 with
   |normal=>simp_all|ret=>simp_all|_=>simp only[hr]at hq;exact hq.elim
  exact Tu
 exact Tu
def Jl (b:E1 P U ov call)(d:∀nt,bY P U ov nt (dr nt))(h:∀ar g nt,bZ P U ov ar nt (lp g nt))(m:Nat)(ks:Ah)(vs:As)(g:Ay)(nt:Nat)(ps:Ah)(as bo:Code)(l:As)(args:Af)(τ:Tau)(F:Ac)(s:SS)(hp:Hp)(i:Nat)(hv:VD P U τ F (.yld ks vs g nt ps as bo) (.chan (some i)))(hl:VDL P U τ F l args)(hs:SD P U τ F s hp):OKh P U (Gf P U call dr lp m ks vs g nt ps as bo l) τ F s hp fun a τ' F' hp'=>∃v,(EV fun n=>pN P (v6 P) (D2 P ov n) n i args hp=some (v,hp'))/\VD P U τ' F' a v:=by unfold Gf;exact Tu
theorem uP {dr:I0->Nat->jF}(d:∀call,E1 P U ov call-> ∀nt,bY P U ov nt (dr call nt)){lp:I0->Ay->Nat->lN}(h:∀call,E1 P U ov call-> ∀ar g nt,bZ P U ov ar nt (lp call g nt)){con:Ay->Bb (As->M SV)}(b:∀g k,con g=some k->A5 P U ov k g)(w:∀g,isT (ov g)=true->con g≠none):∀n,E1 P U ov (Y7 P U dr lp con n)
 |0=>⟨fun g l args τ F s hp _ _=>Tu,fun ks vs g nt ps as bo l args τ F s hp i _ _ _=>Tu⟩
 |n+1=>by
  have r:=uP d h b w n;refine⟨fun g l args τ F s hp hl hs=>?_,fun ks vs g nt ps as bo l args τ F s hp i hv hl hs=>?_⟩
  ·simp only[Y7];split;rename_i k hk;exact b g k hk l args τ F s hp hl hs
   ·rename_i hk;have hg:isT (ov g)=false:=by grind
    exact HI r (d _ r) (h _ r) n g hg l args τ F s hp hl hs
  ·refine(Jl r (d _ r) (h _ r) n ks vs g nt ps as bo l args τ F s hp i hv hl hs).mono fun a τ' F' hp' _ _ ⟨v,⟨n0,h1⟩,h2⟩=>⟨v,⟨n0+1,fun k hk=>?_⟩,h2⟩
   obtain⟨k,rfl⟩:∃j,k=j+1:=⟨k-1,by omega⟩
   exact h1 k (by omega)
end
section
variable {P :Aw}{call:i9}{tm:Ao}{hp hp':Hp}{v:Av}
variable {o:Op}
def JF (hk:i5 o=1)(h r:i9)(tm:Ao)(hp:Hp):xop P h tm hp o=xop P r tm hp o:=by
 cases o with
 |call c=>
  obtain⟨d,args,ats⟩:=c;cases d with
  |builtin b=>rfl|_=>simp[i5]at hk
 |load t a=>rfl|slice t x lo hi w=>rfl|lookup t x k ok=>rfl|alloc e=>simp only[i5]at hk;cases g:Nat.beq e rgT<;>rw[g]at hk<;>cases hk
 |box e x=>simp only[i5]at hk;cases g:Nat.beq e rgT<;>rw[g]at hk<;>cases hk
 |_=>simp[i5]at hk
def MQ (hk:i5 o=1)(hx:xop P call tm hp o=some (v,hp')):hp'=hp:=by
 cases o with
 |load t a=>simp only[c8,l5]at hx;split at hx;exact(m9 hx).2;cases hx
 |slice t x lo hi w=>simp only[c8,l5]at hx;split at hx;split at hx;split at hx;split at hx;exact qS hx;cases hx;cases hx;cases hx;cases hx
 |lookup t x k ok=>simp only [c8, l5] at hx;split at hx;split at hx;exact(m9 hx).2;cases hx;cases hx
 |call c=>
  obtain⟨d,args,ats⟩:=c;cases d with
  |builtin b=>
   cases b<;>first
    | (simp[i5]at hk;done)
    | (simp only[c8,l5]at hx
       split at hx;generalize ats.toList=h at hx;rename_i vs _;rcases h with _| ⟨t,_| ⟨u,r⟩⟩<;>rcases vs with _| ⟨x,_| ⟨y,z⟩⟩<;>simp only[B4,reduceCtorEq]at hx;exact(m9 hx).2;cases hx)
  |_=>simp[i5]at hk
 |alloc e=>simp only[i5]at hk;cases g:Nat.beq e rgT<;>rw[g]at hk<;>cases hk
 |box e x=>simp only[i5]at hk;cases g:Nat.beq e rgT<;>rw[g]at hk<;>cases hk
 |_=>simp[i5]at hk
theorem lH (hk:i5 o=1)(hx:xop P call tm hp o=some (v,hp)):xrd P tm hp o=some v:=by unfold xrd;rw[JF hk _ call,hx];simp_all
def QF (hk:i5 o=1)(hx:xop P call tm hp o=some (v,hp')):hp'=hp/\xrd P tm hp o=some v:=by have e:=MQ hk hx;subst e;exact⟨rfl,lH hk hx⟩
variable {a:Az}{j:Nat}{S:Hp}
def Er {t:Ax}{q:Nat}(hx:xop P call tm hp (.load t a)=some (v,hp'))(b:c9 tm a=some (.pointer (some ⟨j,q,none⟩)))(hg:S.m.get j=hp.m.get j):xrd P tm S (.load t a)=some v:=by
 refine lH (call:=call) rfl ?_;simp only[c8,l5,b]at hx⊢;have:D5 P S t (.pointer (some ⟨j,q,none⟩))=D5 P hp t (.pointer (some ⟨j,q,none⟩)):=by simp only[D5,hg]
 rw[this,(m9 hx).1];rfl
def JH {t:Ax}{q:Nat}(hx:xop P call tm hp (.load t a)=some (v,hp'))(b:c9 tm a=some (.pointer (some ⟨j,q,some 1⟩)))(hg:S.m.get 0=hp.m.get 0):xrd P tm S (.load t a)=some v:=by
 refine lH (call:=call) rfl ?_;simp only[c8,l5,b]at hx⊢;have:D5 P S t (.pointer (some ⟨j,q,some 1⟩))=D5 P hp t (.pointer (some ⟨j,q,some 1⟩)):=by simp only[D5,pJ,hg]
 rw[this,(m9 hx).1];rfl
theorem GB {t:Ax}{k:Az}{ok:Bool}(hx:xop P call tm hp (.lookup t a k ok)=some (v,hp'))(b:c9 tm a=some (.map (some j)))(hg:S.m.get j=hp.m.get j):xrd P tm S (.lookup t a k ok)=some v:=by
 refine lH (call:=call) rfl ?_;simp only[c8,l5,b]at hx⊢;cases d:c9 tm k with
 |none=>grind|some u=>
  rw[d]at hx;simp only at hx⊢;have:R3 P S t (.map (some j)) u ok=R3 P hp t (.map (some j)) u ok:=by simp only[R3,hg]
  rw[this,(m9 hx).1];rfl
theorem Eu {t:Ax}{x:Av}{lo hi d:Ag}(h:y5 P hp t x lo hi d=some (v,hp'))(hg:∀i o l c,x= .slice (some ⟨i,o,none⟩) l c->S.m.get i=hp.m.get i):y5 P S t x lo hi d=some (v,S):=by
 unfold y5 at h⊢;simp only[Bool.cond_eq_ite]at h⊢;split at h;split at h;grind;cases h
 ·split at h;cases h;rename_i ie b;split at h;grind;grind;have e:=hg _ _ _ _ rfl;split at h;rename_i g;split at h;rename_i r;split at h;cases h;grind;rename_i l hh h2;split at h<;>grind;cases h;grind;cases h
 split at h;cases h;rename_i ie b;split at h<;>grind;cases h
variable {x:Az}{u:Av}
theorem iX {t:Ax}{lo hi d:Bb Az}(hx:xop P call tm hp (.slice t x lo hi d)=some (v,hp'))(g:c9 tm x=some u)(S:Hp)(hg:∀i o l c,u= .slice (some ⟨i,o,none⟩) l c->S.m.get i=hp.m.get i):xrd P tm S (.slice t x lo hi d)=some v:=by
 refine lH (call:=call) rfl ?_;simp only[c8,l5,g]at hx⊢;cases h1:jD tm lo with
 |none=>grind|some a=>
  rw[h1]at hx;cases h2:jD tm hi with
  |none=>grind|some b=>
   rw[h2]at hx;cases h3:jD tm d with
   |none=>grind|some c=>rw[h3]at hx;exact Eu hx hg
theorem Ol {args:Array Az}{ats:Array Ax}(hx:xop P call tm hp (.call ⟨.builtin .len,args,ats⟩)=some (v,hp'))(b:args.toList=[x])(d:c9 tm x=some u)(hm:∀i,u≠ .map (some i))(S:Hp):xrd P tm S (.call ⟨.builtin .len,args,ats⟩)=some v:=by
 refine lH (call:=call) rfl ?_;simp only[c8,l5,b,aH,d]at hx⊢;generalize ats.toList=g at hx⊢;rcases g with _| ⟨t,_| ⟨w,r⟩⟩<;>simp only[B4,reduceCtorEq]at hx⊢;have:W7 S P t u=W7 hp P t u:=by unfold W7;grind
 rw[this,(m9 hx).1];rfl
end
inductive Rd where
 |free
 |blk (b:Nat)
 |frz
 |mlk (t:Ax) (b:Nat)
 |bad
def keyF (P:Aw)(t:Ax)(f:Fm)(k:Az):Bool:=
 have _:=(P,t,f,k)
 false
def qY (P:Aw)(rb:Ai)(f:Fm):Op->Rd
 | .load _ x=>match u9 f x with
  |some (.ptr b _ _ _)=>.blk b|some (.pptr _ _ _ _)=>.frz|some (.rp _ _)=>match rb with
   |some b=>.blk b|none=>.bad
  |_=>.bad
 | .lookup t x k ok=>match u9 f x with
  |some (.map b)=>bif !ok&&keyF P t f k then .mlk t b else .blk b|_=>.bad
 | .slice _ x _ _ _=>match u9 f x with
  |some (.lst _ _ _)=>.frz|some .nils=>.free|some (.str _)=>.free|_=>.bad
 | .call ⟨.builtin .len,args,_⟩=>match args.toList with
  | [x]=>match u9 f x with
   |some (.str _)=>.free|some (.sl _ _ _ _ _)=>.free|some (.lst _ _ _)=>.free|some .nils=>.free|_=>.bad
  |_=>.bad
 |_=>.bad
def vok :Nat->SV->Bool
 |0,_=>false|n+1,a=>match a with
  | .any=>false| .agg l=>l.all (vok n)| .tup l=>l.all (vok n)| .fn _ l m=>l.all (vok n)&&m.all (vok n)| .iface _ v=>vok n v| .rv _ _=>false|_=>true
section
variable {P :Aw}{U:Ab}{τ:Tau}{F:Ac}{s:SS}
variable {v:Av}
def PV.lst_slice {e:Ax}{d:Dat}(h:PV P F (.sl e) v d):∃a l c,v= .slice a l c:=by cases h<;>exact⟨_,_,_,rfl⟩
variable {l:As}
theorem MW {f:Av->Av->Bool}{xs:Af}(hl:l.length=xs.length)(h:∀(i:Nat) a x,l[i]? =some a->xs[i]? =some x->f x x=true):nY f xs xs=true:=by
 induction xs generalizing l with
 |nil=>rfl|cons x xs d=>
  cases l with
  |nil=>grind|cons a l=>simp only[nY,QJ];exact⟨h 0 a x rfl rfl,d (by grind) fun i b y hb hy=>h (i+1) b y hb hy⟩
theorem DT :∀(n:Nat) (a:SV) (v:Av),vok n a=true->VD P U τ F a v->veq n v v=true
 |0,_,_,h,_=>by cases h
 |n+1,a,v,h,hv=>by
  have g:=DT n;have all:∀ {l:As} {xs:Af},l.all (vok n)=true->l.length=xs.length->(∀(i:Nat) a x,l[i]? =some a->xs[i]? =some x->VD P U τ F a x)->nY (veq n) xs xs=true:=by intro l xs h1 h2 h3;rw[Rq]at h1;exact MW h2 fun i a x d hx=>g a x (h1 a (QT d)) (h3 i a x d hx)
  have b:∀k:Nat,Nat.beq k k=true:=fun k=>v9 rfl;cases hv with
  |any v=>cases h
  |int k e=>simp[veq]|bool e=>simp[veq]|str e=>simp[veq]|nilp=>simp[veq]|ptr=>simp[veq]|pptr=>simp[veq]|rp=>simp[veq]|rv=>cases h
  |rpq x v hp=>generalize x.toI U=m at hp;cases hp<;>simp[veq]
  |nils=>simp only[veq,b,RT,SJ]|sl=>simp only[veq,b,RT,SJ]|sl0=>simp only[veq,b,RT,SJ]|lst t L clip v hp hc=>obtain⟨a,l,c,rfl⟩:=hp.lst_slice;simp only[veq,b,RT,SJ]
  |agg l xs h1 h2=>simp only[vok]at h;simp only[veq];exact all h h1 h2|tup l xs h1 h2=>simp only[vok]at h;simp only[veq];exact all h h1 h2|fn f l m xs ys h1 h2 h3 h4=>simp only[vok,QJ]at h;simp only[veq,RT,Bool.true_and,QJ];grind|nilf=>rfl|map=>simp[veq]|nilm=>simp[veq]|iface t a x hx=>simp only[vok]at h;simp only[veq,b,Bool.true_and];exact g _ _ h hx|nili=>rfl|yld=>simp[veq]
def Ot (P:Aw)(t:Ax)(kv:Av):Prop:=∃kt vt sh ks,P.underlying t=some (.map kt vt)/\EZ P kt=some sh/\kfit sh.2 ks=true/\kv=keyV sh ks
def MS (P:Aw)(t:Ax)(j:Nat)(S S2:Hp):Prop:=∀kv,Ot P t kv->R3 P S t (.map (some j)) kv false=R3 P S2 t (.map (some j)) kv false
variable {j:Nat}
def MS.of {t:Ax}{S S2:Hp}(h:S2.m.get j=S.m.get j):MS P t j S S2:=fun kv _=>by simp only[R3,h]
def MS.trans {t:Ax}{A B C:Hp}(h:MS P t j A B)(k:MS P t j B C):MS P t j A C:=fun kv hk=>(h kv hk).trans (k kv hk)
def MS.symm {t:Ax}{A B:Hp}(h:MS P t j A B):MS P t j B A:=fun kv hk=>(h kv hk).symm
variable {f:Fm}{tm:Ao}
def NA (ht:TD P U τ F f tm){t:Ax}{k:Az}{u:Av}(b:c9 tm k=some u)(h:keyF P t f k=true):Ot P t u:=by unfold keyF at h;cases h
variable (P) in
def Cc (τ:Tau)(F:Ac)(S:Hp)(tm:Ao)(o:Op)(v:Av):Rd->Prop
 | .free=>∀S2,xrd P tm S2 o=some v| .blk b=>∃j q,τ b=some (some (j,q))/\ ∀S2:Hp,S2.m.get j=S.m.get j->xrd P tm S2 o=some v| .frz=>(∀S2,xrd P tm S2 o=some v)\/ ∃j y,F j=some y/\ ∀S2:Hp,S2.m.get j=some y->xrd P tm S2 o=some v| .mlk t b=>∃j q,τ b=some (some (j,q))/\ ∀S2:Hp,MS P t j S S2->xrd P tm S2 o=some v| .bad=>True
theorem NN {call:i9}{S S':Hp}{o:Op}(ht:TD P U τ F f tm)(hs:SD P U τ F s S)(h:xop P call tm S o=some (v,S')):Cc P τ F S tm o v (qY P (rgB s) f o):=by
 unfold qY;split
 ·rename_i t x;split
  ·rename_i b z row fld hx;obtain⟨u,h1,h2⟩:=H7 ht hx;cases h2 with
   |ptr _ _ _ _ i q g h0=>exact⟨i,q,g,fun S2 hg=>Er h h1 hg⟩
  ·rename_i t' L row fld hx;obtain⟨u,h1,h2⟩:=H7 ht hx;cases h2 with
   |pptr _ _ _ _ i q l c hp h0 hlt=>
    have:∃y,F i=some y:=by
     cases hp with
     |sl e i o c b cs n z rows x hF=>grind
    obtain⟨y,hy⟩:=this;exact .inr ⟨i,y,hy,fun S2 hg=>Er h h1 (by rw[hg,hs.frz i y hy])⟩
  ·rename_i row fld hx;obtain⟨u,h1,h2⟩:=H7 ht hx;split
   ·rename_i b E;obtain⟨⟨b',L,z⟩,hr,e⟩:=SF.1 E;subst e;obtain⟨_,g,_⟩:=iH hs hr;cases h2 with
    |rp _ _ h0=>exact⟨0,0,g,fun S2 hg=>JH h h1 hg⟩
   trivial
  trivial
 ·rename_i t x k ok;split
  ·rename_i b hx;obtain⟨u,h1,h2⟩:=H7 ht hx;cases h2 with
   |map _ i q g=>
    cases hc: !ok&&keyF P t f k with
    |false=>exact⟨i,q,g,fun S2 hg=>GB h h1 hg⟩|true=>
     rw[QJ,RG]at hc;refine⟨i,q,g,fun S2 hg=>?_⟩;have hk:∃kv,c9 tm k=some kv:=by simp only[c8,l5,h1]at h;grind
     obtain⟨kv,B⟩:=hk;have D:=hg kv (NA ht B hc.2);refine lH (call:=call) rfl ?_;simp only[c8,l5,h1,B,hc.1]at h⊢;rw[<-D,(m9 h).1];rfl
  trivial
 ·rename_i t x lo hi G;have free:∀ {a:SV},u9 f x=some a->(∀w,VD P U τ F a w-> ∀i o l c,w≠ .slice (some ⟨i,o,none⟩) l c)-> ∀S2,xrd P tm S2 (.slice t x lo hi G)=some v:=by intro a C hn S2;obtain⟨u,h1,h2⟩:=H7 ht C;exact iX h h1 S2 fun i o l c e=>absurd e (hn u h2 i o l c)
  split
  ·rename_i t' L c hx;obtain⟨u,h1,h2⟩:=H7 ht hx;cases h2 with
   |lst _ _ _ _ hp _=>
    generalize Dat.lst (L.toR U)=d at hp;cases hp with
    |nils=>exact .inl fun S2=>iX h h1 S2 fun i o l c e=>by cases e
    |vague=>exact .inl fun S2=>iX h h1 S2 fun i o l c e=>by cases e
    |sl e i o c b cs n z rows x hF=>refine .inr ⟨i,b,hF,fun S2 hg=>iX h h1 S2 fun H o' l' c' e=>?_⟩;cases e;rw[hg,hs.frz i b hF]
  rename_i hx;exact free hx fun w r i o l c e=>by cases r;cases e
  rename_i hx;exact free hx fun w r i o l c e=>by cases r;cases e
  trivial
 ·rename_i args ats;split
  ·rename_i x hx;have A:∀ {a:SV},u9 f x=some a->(∀w,VD P U τ F a w-> ∀i,w≠ .map (some i))->Cc P τ F S tm (.call ⟨.builtin .len,args,ats⟩) v .free:=by intro a C hn S2;obtain⟨u,h1,h2⟩:=H7 ht C;exact Ol h hx h1 (hn u h2) S2
   split;rename_i he;exact A he fun w r i=>by cases r;simp
   rename_i he;exact A he fun w r i=>by cases r<;>simp
   ·rename_i he;refine A he fun w r i=>?_;cases r with
    |lst _ _ _ _ hp _=>obtain⟨a,l,c,rfl⟩:=hp.lst_slice;simp
   rename_i he;exact A he fun w r i=>by cases r;simp
   trivial
  trivial
 trivial
variable (P) in
def snw (f:Fm)(o:Op):Bb (B6×(Nat->SV)):=
 match o with
 | .alloc e=>bif Nat.beq e rgT then none else match qM P e with
  |some l=>some (.cells l e l.length,fun b=>.ptr b l.length (.int 0) 0)|none=>none
 | .box e x=>bif Nat.beq e rgT then none else match u9 f x with
  |some v=>match C6 v with
   |some l=>some (.cells l e l.length,fun b=>.ptr b l.length (.int 0) 0)|none=>none
  |none=>none
 | .buildSlice t len parts=>match gT f parts.toList with
  |some ps=>match P.underlying t with
   |some (.slice e)=>match P.info? e with
    |some ie=>match qM P e with
     | some z => bif Nat.beq z.length ie.size && Nat.ble (len * ie.size) 16777216 && Nat.ble len 16777216 then
       match qJ (fun i=>some (i*ie.size,ie.size)) (Mp len z) ps with
       |some cs=>some (.cells cs e ie.size,fun b=>.sl b ie.size (.int 0) (.int len) (.ex (.int len)))|none=>none
      else none
     |none=>none
    |none=>none
   |_=>none
  |none=>none
 |_=>none
variable (P U) in
def NwOK (τ:Tau)(F:Ac)(tm:Ao)(o:Op)(x:B6)(mk:Nat->SV):Prop:=
 ∃n,xnw P tm o=some n/\(∀τ',Tle τ τ'->BD P U τ' F 0 x n.blk)/\ ∀(τ':Tau) b id,τ' b=some (some (id,0))->VD P U τ' F (mk b) (n.val id)
def OJ {vs:Af}{e:Ax}(h:VDL P U τ F l vs):(∀τ',Tle τ τ'->BD P U τ' F 0 (.cells l e l.length) (I4 vs e vs.length))/\ ∀(τ':Tau) b d,τ' b=some (some (d,0))->VD P U τ' F (.ptr b l.length (.int 0) 0) ((⟨I4 vs e vs.length,.ptr,rfl⟩:Nw).val d):=by refine⟨fun τ' ht=>?_,fun τ' b d hb=>?_⟩;rw[h.1];exact bW (h.mono ht (Tn F)) e vs.length;exact VD.ptr' hb (by show(0:Int)<=0;omega) (by show 0=0+(0:Int).toNat*_+0;simp)
theorem Qh (ht:TD P U τ F f tm){o:Op}{x:B6}{mk:Nat->SV}(h:snw P f o=some (x,mk)):NwOK P U τ F tm o x mk:=by
 unfold snw at h;split at h
 ·rename_i e;cases hb:Nat.beq e rgT with
  |true=>grind|false=>
  rw[hb,Rb]at h;split at h;rename_i l hl;cases h;obtain⟨z,h1,h2⟩:=cW (U:=U) (τ:=τ) (F:=F) hl;exact⟨_,by simp only[xnw,hb,Rb,bC,h1];rfl,OJ h2⟩;cases h
 ·rename_i e x;cases hb:Nat.beq e rgT with
  |true=>grind|false=>
  rw[hb,Rb]at h;split at h;rename_i v hv;split at h;rename_i l hl;cases h;obtain⟨w,h1,h2⟩:=H7 (P:=P) (U:=U) ht hv;exact⟨_,by simp only[xnw,hb,Rb,h1];rfl,OJ (cU h2 hl)⟩;cases h;cases h
 ·rename_i t len C;split at h
  ·rename_i ps r;obtain⟨K,y,A⟩:=iM (P:=P) (U:=U) ht r;split at h
   ·rename_i e he;split at h
    ·rename_i ie g;split at h
     ·rename_i z hz;obtain⟨zv,h1,h2⟩:=cW (U:=U) (τ:=τ) (F:=F) hz;rw[h2.1]at h;cases hb:Nat.beq zv.cells.toList.length ie.size&&Nat.ble (len*ie.size) 16777216&&Nat.ble len 16777216 with
      |false=>grind|true=>
       rw [hb, Ra] at h;split at h
       ·rename_i cs d;cases h;obtain⟨ys,h3,h4⟩:=gR (rM h2 len) A d;refine⟨⟨I4 ys e ie.size,.slice len len,rfl⟩,?_,fun τ' hl=>bW (h4.mono hl (Tn F)) e ie.size,fun τ' b J B=>?_⟩;simp only[xnw,y,Jq,he,g,h1,hb,Ra,h3]
        ·have H:len<unk:=by simp only[QJ,RQ]at hb;unfold unk;omega
         have:=VD.sl (P:=P) (U:=U) (F:=F) b ie.size (.int 0) (.int len) (.ex (.int len)) J 0 len B (Sd 0) (Int.natCast_nonneg len) ⟨Int.natCast_nonneg len,(RA len).symm,H,Sd _⟩;have D:(E.int (len:Int)).toN U=len:=RA len;rw[D]at this;have G:(E.int 0).toN U*ie.size=0:=by show(0:Int).toNat*_=0;simp
         rw[G]at this;exact this
       cases h
     cases h
    cases h
   cases h
  cases h
 cases h
end
def nB {nx0:Nat}{m:Nat->Bool}:∀(es:List Ent) (S:Hp),(takes nx0 m es S).nx=S.nx
 | [],S=>rfl|e::es,S=>by
  unfold takes;cases e.nw with
  |none=>exact nB es S|some n=>cases m e.i with
   |false=>exact nB es S|true=>exact nB es _
theorem pA {nx0:Nat}{m:Nat->Bool}{j:Nat}:∀(es:List Ent) (S:Hp),(∀e∈es,e.nw≠none->m e.i=true->j≠nx0+e.i)->(takes nx0 m es S).m.get j=S.m.get j
 | [],S,_=>rfl|e::es,S,h=>by
  unfold takes;have b:=fun S=>pA es S fun e' he'=>h e' (by grind);have h0:=h e (by simp);cases hn:e.nw with
  |none=>grind|some n=>
   simp only;cases hm:m e.i with
   |false=>grind|true=>rw[Ra,b];show(S.m.set _ _).get j=_;rw[TQ,Re (h0 (by grind) hm)]
theorem yW {nx0:Nat}{m:Nat->Bool}{e:Ent}{n:Nw}:∀(es:List Ent) (S:Hp),e∈es->e.nw=some n->m e.i=true->es.Pairwise (fun a b=>a.i≠b.i)->(takes nx0 m es S).m.get (nx0+e.i)=some n.blk
 | [],S,he,_,_,_=>by grind|e'::es,S,he,hn,hm,hp=>by
  unfold takes;rw[List.pairwise_cons]at hp;by_cases d:e=e';subst d;rw[hn];simp only[hm,Ra];rw[pA];show(S.m.set _ _).get _=_;rw[TQ,Rh rfl];grind
  ·have he':e∈es:=by grind
   have g:=fun S=>yW (nx0:=nx0) es S he' hn hm hp.2;grind
structure Pd where
 b:Nat
 i:Nat
 x:B6
structure En where
 i:Nat
 pre:Nat
 w:Bool
 nr:Bool
 r:Rd
 keys:Ah
 fr:Bool
def R4 (b:Nat):Ah->Bool
 | []=>false|k::l=>bif Nat.beq b k then true else R4 b l
theorem M7 {b:Nat}:∀ {l:Ah},R4 b l=false->b∉l
 | [],_=>by simp|k::l,h=>by unfold R4 at h;by_cases e:b=k;simp_all;rw[z6 e,Rb]at h;simp[e,M7 h]
def qK (a r:Rd):Bool:=match a,r with
 | .mlk t b,.mlk t' b'=>Nat.beq t t'&&Nat.beq b b'|_,_=>false
def eU (pre:Nat)(keys:Ah)(ws:Rd)(e:En):Bool:=
 bif e.nr then(bif pre.testBit e.i then true else match e.r with
  | .free=>true| .frz=>true| .blk b=> !R4 b keys| .mlk t b=> !R4 b keys||qK ws (.mlk t b)
  | .bad=>false)else true
def dQ (pre:Nat)(r:Rd)(y:En):Bool:=
 bif y.w then(bif pre.testBit y.i then true else match r with
  | .free=>true| .blk b=> !R4 b y.keys| .mlk t b=> !R4 b y.keys||qK y.r (.mlk t b)
  | .frz=> !y.fr|_=>false)else true
def PT (S0:Hp)(esX:List Ent)(k:Nat)(Sk:Hp):Prop:=(k=0/\Sk=S0)\/ ∃x∈esX,isW x=true/\k=x.i+1/\Sk=x.S2
def Ie (P:Aw)(esX:List Ent)(e:Ent)(k:Nat)(Sk:Hp):Prop:=own esX e k=true\/aQ esX e k=false\/ ∃v,xrd P e.tm Sk e.o.op=some v/\veq 1000 v e.r=true
variable {esX:List Ent}
theorem Ie.look {P:Aw}{e:Ent}{k:Nat}{Sk:Hp}(h:Ie P esX e k Sk):oP P esX e k Sk=true:=by unfold oP;rcases h<;>grind
def Kl {a b:Nat}(h:a<b):Nat.blt a b=true:=QQ h
theorem OI {a b:Nat}(h:b<=a):Nat.blt a b=false:=by cases hb:Nat.blt a b;rfl;simp_all;omega
theorem wS {e:Ent}{k:Nat}{y:Ent}(hy:y∈esX)(d:isW y=true)(h:(y.i<k/\y.pre.testBit e.i=true)\/(k<=y.i/\e.pre.testBit y.i=true)):aQ esX e k=false:=by
 cases b:aQ esX e k with
 |false=>rfl|true=>unfold aQ at b;rw[Rq]at b;have:=b y hy;rw[d,Ra]at this;rcases h with⟨h1,h2⟩| ⟨h1,h2⟩;rw[Kl h1,Ra,h2]at this;cases this;simp_all;omega
section
variable {P :Aw}{S0:Hp}
variable {esX:List Ent}{eX:Ent}{k:Nat}{Sk:Hp}
theorem Ie.cons {e:Ent}(h:Ie P esX e k Sk)(h1:k<=eX.i)(h2:e.i<=eX.i):Ie P (eX::esX) e k Sk:=by rcases h with h|h|h;refine .inl ?_;unfold own at h⊢;rw[List.all_cons,h,SJ,OI h1,OI h2];grind;refine .inr (.inl ?_);unfold aQ at h⊢;grind;exact .inr (.inr h)
structure DB (P:Aw)(S0:Hp)(i:Nat)(τ:Tau)(F:Ac)(s:SS)(S:Hp)(es:List En)(esX:List Ent):Prop where
 xi:∀e∈esX,e.i<i
 wx:∀y∈esX,isW y=true-> ∃en∈es,en.w=true/\en.i=y.i/\en.pre=y.pre
 wn:∀en∈es,en.w=true-> ∃y∈esX,isW y=true/\en.i=y.i/\en.pre=y.pre
 look:∀e∈esX,e.wt=true->i5 e.o.op=1-> ∀k Sk,PT S0 esX k Sk->Ie P esX e k Sk
 ag:∀k Sk,PT S0 esX k Sk-> ∀b x j o,s.get b=some x->τ b=some (some (j,o))->(∀en∈es,en.w=true->k<=en.i->b∉en.keys)->Sk.m.get j=S.m.get j
 af:∀k Sk,PT S0 esX k Sk->(∀en∈es,en.w=true->k<=en.i->en.fr=false)-> ∀j y,F j=some y->Sk.m.get j=some y
 rd:∀e∈esX,e.wt=true->i5 e.o.op=1->veq 1000 e.r e.r=true/\ ∃en∈es,en.nr=true/\en.i=e.i/\Cc P τ F e.S e.tm e.o.op e.r en.r/\
  (∀b,en.r= .blk b->(∀y∈es,y.w=true->e.i<y.i->y.pre.testBit e.i=false)-> ∃x j q,s.get b=some x/\τ b=some (some (j,q))/\S.m.get j=e.S.m.get j)/\
  ∀t b,en.r= .mlk t b->(∀y∈es,y.w=true->e.i<y.i->y.pre.testBit e.i=false)-> ∃x j q,s.get b=some x/\τ b=some (some (j,q))/\MS P t j e.S S
 am:∀t k Sk,PT S0 esX k Sk-> ∀b x j o,s.get b=some x->τ b=some (some (j,o))->(∀en∈es,en.w=true->k<=en.i->b∉en.keys\/qK en.r (.mlk t b)=true)->MS P t j Sk S
theorem PT.le {i:Nat}(hi:∀e∈esX,e.i<i)(h:PT S0 esX k Sk):k<=i:=by rcases h<;>grind
theorem PT.cons (h:PT S0 (eX::esX) k Sk):PT S0 esX k Sk\/(isW eX=true/\k=eX.i+1/\Sk=eX.S2):=by rcases h with h| ⟨x,hx,b,h1,h2⟩;exact .inl (.inl h);rcases Rx.1 hx with rfl|hx;grind;exact .inl (.inr ⟨x,hx,b,h1,h2⟩)
variable {F F':Ac}
def Cc.mono {τ τ':Tau}{S:Hp}{tm:Ao}{o:Op}{v:Av}{r:Rd}(ht:Tle τ τ')(hF:Fle F F')(h:Cc P τ F S tm o v r):Cc P τ' F' S tm o v r:=by
 cases r with
 |free=>exact h|blk b=>obtain⟨j,q,h1,h2⟩:=h;exact⟨j,q,ht _ _ h1,h2⟩
 |frz=>rcases h with h| ⟨j,y,h1,h2⟩;exact .inl h;exact .inr ⟨j,y,hF _ _ h1,h2⟩
 |mlk t b=>obtain⟨j,q,h1,h2⟩:=h;exact⟨j,q,ht _ _ h1,h2⟩
 |bad=>trivial
theorem DB.step {i:Nat}{τ τ':Tau}{s s':SS}{S S':Hp}{es:List En}(h:DB P S0 i τ F s S es esX){en:En}(ht:Tle τ τ')(hF:Fle F F')(hl:∀b x,s.get b=some x->τ' b=τ b)(ak:∀j y,F' j=some y->S'.m.get j=some y)(aj:(isW eX=true->en.fr=false)-> ∀j y,F' j=some y->F j=some y)(hg:∀b,b∉en.keys->s'.get b=s.get b)(ad:∀b x j o,s.get b=some x->τ b=some (some (j,o))->b∉en.keys->S'.m.get j=S.m.get j)(ei:en.i=i)(xi:eX.i=i)(hp:en.pre=eX.pre)(hw:en.w=isW eX)(ab:eX.S2=S')(ah:isW eX=false->S'=S/\en.keys=[])(hf:isW eX=true->es.all (eU eX.pre en.keys en.r)=true)(hm:en.w=true-> ∀t b,qK en.r (.mlk t b)=true-> ∃x x' j q,s.get b=some x/\s'.get b=some x'/\τ b=some (some (j,q))/\MS P t j S S')(hr:eX.wt=true->i5 eX.o.op=1->veq 1000 eX.r eX.r=true/\en.nr=true/\eX.S=S/\Cc P τ' F S eX.tm eX.o.op eX.r en.r/\(∀b,(en.r= .blk b\/ ∃t,en.r= .mlk t b)-> ∃x,s.get b=some x)/\es.all (dQ eX.pre en.r)=true):DB P S0 (i+1) τ' F' s' S' (en::es) (eX::esX):=by
 have nk:∀b,(en.w=true->b∉en.keys)->b∉en.keys:=fun b hb=>by grind
 have ai:i5 eX.o.op=1->isW eX=false:=fun hk=>by unfold isW;rw[hk];rfl
 have wx:∀y∈eX::esX,isW y=true-> ∃d∈en::es,d.w=true/\d.i=y.i/\d.pre=y.pre:=by intro y hy X;rcases Rx.1 hy with rfl|hy;grind;obtain⟨e1,h1,h2⟩:=h.wx y hy X;grind
 have wn:∀d∈en::es,d.w=true-> ∃y∈eX::esX,isW y=true/\d.i=y.i/\d.pre=y.pre:=by intro y hy X;rcases Rx.1 hy with rfl|hy;grind;obtain⟨e1,h1,h2⟩:=h.wn y hy X;grind
 have rd:∀e∈eX::esX,e.wt=true->i5 e.o.op=1->veq 1000 e.r e.r=true/\ ∃d∈en::es,d.nr=true/\d.i=e.i/\Cc P τ' F' e.S e.tm e.o.op e.r d.r/\
   (∀b,d.r= .blk b->(∀y∈en::es,y.w=true->e.i<y.i->y.pre.testBit e.i=false)-> ∃x j q,s'.get b=some x/\τ' b=some (some (j,q))/\S'.m.get j=e.S.m.get j)/\
   ∀t b,d.r= .mlk t b->(∀y∈en::es,y.w=true->e.i<y.i->y.pre.testBit e.i=false)-> ∃x j q,s'.get b=some x/\τ' b=some (some (j,q))/\MS P t j e.S S':=by
  intro e he V hk;rcases Rx.1 he with rfl|he;obtain⟨h1,h2,h3,h4,J,h6⟩:=hr V hk;obtain⟨l1,l2⟩:=ah (ai hk);refine⟨h1,en,by simp,h2,by rw[ei,xi],by rw[h3];exact h4.mono (TS _) hF,fun b hb _=>?_,fun t b hb _=>?_⟩;obtain⟨x,hx⟩:=J b (.inl hb);rw[hb]at h4;obtain⟨j,q,L,_⟩:=h4;grind;obtain⟨x,hx⟩:=J b (.inr ⟨t,hb⟩);rw[hb]at h4;obtain⟨j,q,L,_⟩:=h4;exact⟨x,j,q,by rw[hg b (by rw[l2];simp)];exact hx,L,by rw[h3,l1];exact MS.of rfl⟩
  ·obtain⟨h1,O,h2,h3,h4,J,h6,aa⟩:=h.rd e he V hk;refine⟨h1,O,by simp[h2],h3,h4,J.mono ht hF,fun b hb D=>?_,fun t b hb D=>?_⟩
   rotate_right 1
   ·obtain⟨x,j,q,L,N,h9⟩:=aa t b hb fun y hy=>D y (by simp[hy]);have B:b∉en.keys\/en.w=true/\qK en.r (.mlk t b)=true:=by
     cases C:en.w with
     |false=>exact .inl (nk b fun h=>by rw[C]at h;cases h)|true=>have E:=D en (by simp) C (by rw[ei];exact h.xi e he);have G:=hf (by rw[<-hw];exact C);rw[Rq]at G;have h12:=G O h2;unfold eU at h12;rw[h3,Ra,h4,<-hp,E,Rb,hb]at h12;simp only[Sv,RG]at h12;rcases h12 with h12|h12;exact .inl (M7 h12);grind
    rcases B with B| ⟨C,ac⟩;exact⟨x,j,q,by rw[hg b B];exact L,ht _ _ N,h9.trans (MS.of (ad b x j q L N B))⟩;obtain⟨_,x',j',q',_,g2,g3,g4⟩:=hm C t b ac;rw[N]at g3;cases g3;exact⟨x',j,q,g2,ht _ _ N,h9.trans g4⟩
   have B:b∉en.keys:=nk b fun C=>by have E:=D en (by simp) C (by rw[ei];exact h.xi e he);have G:=hf (by rw[<-hw];exact C);rw[Rq]at G;have h12:=G O h2;unfold eU at h12;rw[h3,Ra,h4,<-hp,E,Rb,hb]at h12;simp only[RG]at h12;exact M7 h12
   grind
 refine⟨fun e he=>?_,wx,wn,?_,?_,fun k Sk g hc j y hj=>?_,rd,fun t k Sk g b x j o hb H W=>?_⟩
 rotate_right 1
 ·rcases g.cons with g| ⟨Q,rfl,rfl⟩
  ·have Y:=g.le h.xi;have B:b∉en.keys\/en.w=true/\qK en.r (.mlk t b)=true:=by grind
   rcases B with B| ⟨C,ac⟩;rw[hg b B]at hb;rw[hl b x hb]at H;exact(h.am t k Sk g b x j o hb H fun d T=>W d (by simp[T])).trans (MS.of (ad b x j o hb H B));obtain⟨x0,_,j',q',g1,_,g3,g4⟩:=hm C t b ac;rw[hl b x0 g1,g3]at H;cases H;exact(h.am t k Sk g b x0 _ _ g1 g3 fun d T=>W d (by simp[T])).trans g4
  rw [ab]; exact MS.of rfl
 rotate_right 1
 rcases g.cons with g| ⟨Q,rfl,rfl⟩;have Y:=g.le h.xi;exact h.af k Sk g (fun d he=>hc d (RV _ he)) j y (aj (fun Q=>hc en (by simp) (by rw[hw];exact Q) (by omega)) j y hj);grind;rcases Rx.1 he with rfl|he;omega;exact Nat.lt_succ_of_lt (h.xi e he)
 ·intro e he V hk k Sk g;rcases Rx.1 he with rfl | he
  ·obtain⟨h1,h2,h3,h4,J,h6⟩:=hr V hk;have an:=ai hk;rcases g.cons with g| ⟨hc,_⟩
   ·have R:∀d∈es,dQ e.pre en.r d=true:=Rq.1 h6;by_cases c1:∃y∈esX,isW y=true/\k<=y.i/\e.pre.testBit y.i=true;obtain⟨y,hy,c2,c3,c4⟩:=c1;exact .inr (.inl (wS (RV _ hy) c2 (.inr ⟨c3,c4⟩)))
    ·have A:∀d∈es,d.w=true->k<=d.i->e.pre.testBit d.i=false:=by
      intro d he' ae Y;obtain⟨y,hy,d1,d2,d3⟩:=h.wn d he' ae;cases ht:e.pre.testBit d.i with
      |false=>rfl|true=>exact absurd ⟨y,hy,d1,by omega,by rw[<-d2];exact ht⟩ c1
     by_cases c2:∃y∈esX,isW y=true/\k<=y.i
     ·obtain⟨y,hy,d1,d2⟩:=c2;obtain⟨d,e1,e2,e3,e4⟩:=h.wx y hy d1;have l1:=A d e1 e2 (by omega);have o1:=R d e1;unfold dQ at o1;rw[e2,Ra,l1,Rb]at o1;refine .inr (.inr ⟨e.r,?_,h1⟩);cases z:en.r with
      |free=>rw[z]at h4;exact h4 Sk|blk b=>rw[z]at h4;obtain⟨j,q,L,N⟩:=h4;obtain⟨x,hx⟩:=J b (.inl z);refine N Sk (h.ag k Sk g b x j q hx (by rw[<-hl b x hx];exact L) fun K T Z m3=>?_);have M:=R K T;unfold dQ at M;rw[Z,Ra,A K T Z m3,Rb,z]at M;simp only[RG]at M;exact M7 M
      |frz=>rw[z]at h4;rcases h4 with h4| ⟨j,w,L,N⟩;exact h4 Sk;refine N Sk (h.af k Sk g (fun K T Z m3=>?_) j w L);have M:=R K T;unfold dQ at M;rw[Z,Ra,A K T Z m3,Rb,z]at M;simpa using M
      |mlk t b=>rw[z]at h4;obtain⟨j,q,L,N⟩:=h4;obtain⟨x,hx⟩:=J b (.inr ⟨t,z⟩);refine N Sk (h.am t k Sk g b x j q hx (by rw[<-hl b x hx];exact L) fun K T Z m3=>?_).symm;have M:=R K T;unfold dQ at M;rw[Z,Ra,A K T Z m3,Rb,z]at M;simp only[Sv,RG]at M;exact M.imp M7 id
      |bad=>rw[z]at o1;cases o1
     ·refine .inl ?_;unfold own;rw[Rq];intro y hy;cases X:isW y with
      |false=>rfl|true=>
       rcases Rx.1 hy with rfl|hy;grind
       ·have hlt:y.i<k:=by rcases Nat.lt_or_ge y.i k with hh|hh;exact hh;exact absurd ⟨y,hy,X,hh⟩ c2
        have:=h.xi y hy;rw[Ra,Kl hlt,Kl (by omega)];rfl
   rw[an]at hc;cases hc
  ·have ao:=h.xi e he;rcases g.cons with g| ⟨Q,rfl,rfl⟩;exact(h.look e he V hk k Sk g).cons (by rw[xi];exact g.le h.xi) (by omega)
   ·by_cases c1:∃y∈eX::esX,isW y=true/\e.i<y.i/\y.pre.testBit e.i=true;obtain⟨y,hy,c2,c3,c4⟩:=c1;refine .inr (.inl (wS hy c2 (.inl ⟨?_,c4⟩)));rcases Rx.1 hy with rfl|hy;omega;have:=h.xi y hy;omega
    ·have A:∀y∈en::es,y.w=true->e.i<y.i->y.pre.testBit e.i=false:=by
      intro d he' ae Y;obtain⟨y,hy,d1,d2,d3⟩:=wn d he' ae;cases ht:d.pre.testBit e.i with
      |false=>rfl|true=>exact absurd ⟨y,hy,d1,by omega,by rw[<-d3];exact ht⟩ c1
     obtain⟨h1,O,h2,h3,h4,J,h6,aa⟩:=rd e (by simp[he]) V hk;refine .inr (.inr ⟨e.r,?_,h1⟩);rw[ab];cases z:O.r with
     |free=>rw[z]at J;exact J S'|blk b=>rw[z]at J;obtain⟨j,q,L,N⟩:=J;obtain⟨x,j',q',h9,E,G⟩:=h6 b z A;rw[L]at E;cases E;exact N S' G
     |mlk t b=>rw[z]at J;obtain⟨j,q,L,N⟩:=J;obtain⟨x,j',q',h9,E,G⟩:=aa t b z A;rw[L]at E;cases E;exact N S' G
     |frz=>rw[z]at J;rcases J with J| ⟨j,y,L,N⟩;exact J S';exact N S' (ak j y L)
     |bad=>
      have al:O∈es:=by rcases Rx.1 h2 with rfl|hm;omega;exact hm
      have o1:=hf Q;rw[Rq]at o1;have M:=o1 O al;unfold eU at M;rw[h3,Ra,h4,<-hp,A en (by simp) (by rw[hw,Q]) (by omega),Rb,z]at M;cases M
 intro k Sk g b x j o hb H W;rcases g.cons with g| ⟨Q,rfl,rfl⟩;have Y:=g.le h.xi;have B:b∉en.keys:=nk b fun C=>W en (by simp) C (by omega);rw[hg b B]at hb;rw[hl b x hb]at H;rw[h.ag k Sk g b x j o hb H fun d T=>W d (by simp[T]),ad b x j o hb H B];rw[ab]
end
end Go.Sx
namespace Go.Sx
open Go.Xe
def tkl (pd:List Pd):List (Nat×Bb B6):=pd.map fun p=>(p.b,some p.x)
def eV (s:SS)(pd:List Pd):SS:= {s with h:=tkl pd++s.h}
def DL (s:SS):SS:= {s with nx:=s.nx+1}
theorem bA {s:SS}{b:Nat}:∀ {pd:List Pd},(∀p∈pd,b≠p.b)->(eV s pd).get b=s.get b
 | [],_=>rfl|p::pd,h=>by have d:=bA (s:=s) fun q hq=>h q (RV _ hq);unfold SS.get eV tkl at d⊢;simp only[RM,RZ,z8];grind
theorem uX {s:SS}{p:Pd}:∀ {pd:List Pd},p∈pd->pd.Pairwise (fun p q=>p.b≠q.b)->(eV s pd).get p.b=some p.x
 | [],h,_=>by grind|q::pd,h,hp=>by
  rw[List.pairwise_cons]at hp;by_cases e:q.b=p.b;rcases Rx.1 h with rfl|h;unfold SS.get eV tkl;simp only[RM,RZ,z8,Rh];grind
  ·have h':p∈pd:=by grind
   have d:=uX (s:=s) h' hp.2;unfold SS.get eV tkl at d⊢;simp only[RM,RZ,z8];grind
section
variable {P :Aw}{U:Ab}{τ0:Tau}{F0:Ac}{s0:SS}{hp0:Hp}{n:Nat}
variable (P U) in
structure PDOK (s0:SS)(hp0:Hp)(i:Nat)(τ:Tau)(F:Ac)(s:SS)(esX:List Ent)(I:Nat)(p:Pd):Prop where
 lt:p.i<i
 un:I.testBit p.i=false
 g:s.get p.b=none
 lo:s0.nx<=p.b
 hi:p.b<s.nx
 t:τ p.b=some (some (hp0.nx+p.i,0))
 f:F (hp0.nx+p.i)=none
 u:∀c o,τ c=some (some (hp0.nx+p.i,o))->c=p.b
 e:∃e∈esX,e.i=p.i/\ ∃nw,e.nw=some nw/\BD P U τ F 0 p.x nw.blk
variable (P U) in
structure DA (τ0:Tau)(F0:Ac)(s0:SS)(hp0:Hp)(n i:Nat)(τ:Tau)(F:Ac)(s:SS)(S:Hp)(f:Fm)(tm:Ao)(pd:List Pd)(esX:List Ent)(I:Nat):Prop where
 sd:SD P U τ F s S
 td:TD P U τ F f tm
 ext:Ext τ0 F0 s0 hp0 τ F s S
 room:hp0.nx+n<=S.nx
 ib:∀j,i<=j->I.testBit j=false
 xd:esX.Pairwise (fun a b=>a.i≠b.i)
 pn:pd.Pairwise (fun p q=>p.b≠q.b)
 pds:∀p∈pd,PDOK P U s0 hp0 i τ F s esX I p
 cl:∀j,i<=j->j<n->(∀c o,τ c≠some (some (hp0.nx+j,o)))/\F (hp0.nx+j)=none
 tk:∀e∈esX,e.nw≠none->I.testBit e.i=false-> ∃p∈pd,p.i=e.i
variable {i :Nat}{τ:Tau}{F:Ac}{s:SS}{S:Hp}{f:Fm}{tm:Ao}{pd:List Pd}{esX:List Ent}{I:Nat}
variable {f':Fm}
def DA.fr (h:DA P U τ0 F0 s0 hp0 n i τ F s S f tm pd esX I)(hf:TD P U τ F f' tm):DA P U τ0 F0 s0 hp0 n i τ F s S f' tm pd esX I:= {h with td:=hf}
variable {eX:Ent}
theorem dR (d:esX.Pairwise (fun a b=>a.i≠b.i))(g:∀e∈esX,e.i<i)(he:eX.i=i):(eX::esX).Pairwise (fun a b=>a.i≠b.i):=by rw[List.pairwise_cons];grind
variable {tm':Ao}
theorem DA.keep (h:DA P U τ0 F0 s0 hp0 n i τ F s S f tm pd esX I)(z:∀e∈esX,e.i<i){s':SS}(w:SD P U τ F s' S)(y:TD P U τ F f' tm')(hh:s'.h=s.h)(hn:s'.nx=s.nx)(d:Ext τ F s S τ F s' S)(he:eX.i=i)(C:eX.nw=none):DA P U τ0 F0 s0 hp0 n (i+1) τ F s' S f' tm' pd (eX::esX) I:=by
 have hg:∀b,s'.get b=s.get b:=fun b=>by unfold SS.get;rw[hh]
 refine⟨w,y,h.ext.trans d,h.room,fun j hj=>h.ib j (by omega),dR h.xd z he,h.pn,fun p hp=>?_,fun j hj=>h.cl j (by omega),fun e hm r=>?_⟩;have k:=h.pds p hp;obtain⟨e,B,A⟩:=k.e;exact⟨by grind,k.un,by rw[hg];exact k.g,k.lo,by rw[hn];exact k.hi,k.t,k.f,k.u,⟨e,by grind,A⟩⟩;rcases Rx.1 hm with rfl|hm;grind;exact h.tk e hm r
theorem DA.pend (h:DA P U τ0 F0 s0 hp0 n i τ F s S f tm pd esX I)(L:∀e∈esX,e.i<i)(H:i<n){x:B6}{nw:Nw}(K:TD P U (put τ s.nx (some (hp0.nx+i,0))) F f' tm')(T:BD P U (put τ s.nx (some (hp0.nx+i,0))) F 0 x nw.blk)(he:eX.i=i)(W:eX.nw=some nw):DA P U τ0 F0 s0 hp0 n (i+1) (put τ s.nx (some (hp0.nx+i,0))) F (DL s) S f' tm' (⟨s.nx,i,x⟩::pd) (eX::esX) I:=by
 have h0:=h.sd.new _ (Ri _);have d:=bO (some (hp0.nx+i,0)) h0;obtain⟨V,O⟩:=h.cl i (Ri _) H;have J:=h.room;have old:∀b,b≠s.nx->put τ s.nx (some (hp0.nx+i,0)) b=τ b:=fun b hb=>B7 τ _ hb;have A:∀b x,s.get b=some x->b≠s.nx:=fun b x hb=>by have:=h.sd.bound hb;omega
 refine⟨⟨fun b y hb=>?_,fun b c y z k o j q hb hc B G E=>?_,h.sd.frz,fun b j o hb=>?_,h.sd.flt,fun b hb=>?_,h.sd.fc,fun r hr=>(h.sd.fz r hr).mono d (Tn F)⟩,K,?_,h.room,fun j hj=>h.ib j (by omega),dR h.xd L he,?_,fun p hp=>?_,fun j hj D=>?_,fun e hm B hI=>?_⟩;have w:=hb;rcases h.sd.live b y w with⟨k,o,z,h1,h2,h3,h4⟩| ⟨h1,h2⟩;exact .inl ⟨k,o,z,by grind,h2,h3,h4.mono d (Tn F)⟩;grind;have w:=hb;have C:=hc;rw[old b (A b y w)]at G;rw[old c (A c z C)]at E;exact h.sd.inj b c y z k o j q w C B G E;by_cases e:b=s.nx;subst e;rw[u5]at hb;grind;rw[old b e]at hb;exact h.sd.lt b j o hb;have:s.nx+1<=b:=hb;rw[old b (by omega)];exact h.sd.new b (by omega);obtain⟨l,a1,a2,a3,a4,a5⟩:=h.ext.hh;refine⟨h.ext.t.trans d,h.ext.f,h.ext.nx,RU h.ext.snx (Ss _),fun b hb=>?_,h.ext.low,⟨l,a1,a2,fun b j o hb M=>?_,fun j y hj hy=>?_,a5⟩,h.ext.hf,h.ext.win⟩;have:=h.ext.snx;rw[old b (by omega)];exact h.ext.st b hb;by_cases e:b=s.nx;subst e;rw[u5]at M;grind;grind;grind;rw[List.pairwise_cons];exact⟨fun p hp=>by have:=(h.pds p hp).hi;exact Nat.ne_of_gt this,h.pn⟩
 ·rcases Rx.1 hp with rfl|hp
  ·refine⟨RY i,h.ib i (Ri _),?_,h.ext.snx,RY _,u5 _ _ _,O,fun c o hc=>?_,(by grind)⟩
   ·cases hq:(DL s).get s.nx with
    |none=>rfl|some y=>exact absurd rfl (A s.nx y hq)
   grind
  have k:=h.pds p hp;obtain⟨e,G,E,N,Q,R⟩:=k.e;refine⟨by grind,k.un,k.g,k.lo,Nat.lt_succ_of_lt k.hi,d _ _ k.t,k.f,fun c o hc=>?_,⟨e,by grind,E,N,Q,R.mono d (Tn F)⟩⟩;by_cases e:c=s.nx;subst e;rw[u5]at hc;grind;rw[old c e]at hc;exact k.u c o hc
 refine⟨fun c o hc=>?_,(h.cl j (by omega) D).2⟩;by_cases e:c=s.nx;subst e;rw[u5]at hc;grind;rw[old c e]at hc;exact(h.cl j (by omega) D).1 c o hc;rcases Rx.1 hm with rfl|hm;simp_all;obtain⟨p,hp,e⟩:=h.tk e hm B hI;grind
theorem DA.take (h:DA P U τ0 F0 s0 hp0 n i τ F s S f tm pd esX I)(m:Nat->Bool)(hm:∀e∈esX,e.nw≠none->(m e.i=true↔ ∃p∈pd,p.i=e.i)):SD P U τ F (eV s pd) (takes hp0.nx m esX S)/\Ext τ0 F0 s0 hp0 τ F (eV s pd) (takes hp0.nx m esX S)/\(takes hp0.nx m esX S).nx=S.nx/\ ∀j,(∀p∈pd,j≠hp0.nx+p.i)->(takes hp0.nx m esX S).m.get j=S.m.get j:=by
 have r:=nB (nx0:=hp0.nx) (m:=m) esX S;have A:∀j,(∀p∈pd,j≠hp0.nx+p.i)->(takes hp0.nx m esX S).m.get j=S.m.get j:=fun j hj=>pA esX S fun e he B M=>by grind
 have G:∀p∈pd,∃y,(takes hp0.nx m esX S).m.get (hp0.nx+p.i)=some y/\BD P U τ F 0 p.x y:=fun p hp=>by obtain⟨e,C,D,nw,L,Q⟩:=(h.pds p hp).e;have:=yW (nx0:=hp0.nx) esX S C L ((hm e C (by grind)).2 ⟨p,hp,D.symm⟩) h.xd;grind
 have inv:∀b y,(eV s pd).get b=some y->(∃p∈pd,b=p.b/\y=p.x)\/((∀p∈pd,b≠p.b)/\s.get b=some y):=by intro b y hb;by_cases c:∃p∈pd,b=p.b;obtain⟨p,hp,rfl⟩:=c;rw[uX hp h.pn,QI]at hb;grind;have hn:∀p∈pd,b≠p.b:=fun p hp e=>c ⟨p,hp,e⟩;rw[bA hn]at hb;grind
 have apart:∀b y j o,s.get b=some y->τ b=some (some (j,o))-> ∀p∈pd,j≠hp0.nx+p.i:=by intro b y j o hb H p hp e;subst e;have:=(h.pds p hp).u b o H;subst this;rw[(h.pds p hp).g]at hb;cases hb
 have J:∀j y,F j=some y-> ∀p∈pd,j≠hp0.nx+p.i:=fun j y hj p hp e=>by subst e;rw[(h.pds p hp).f]at hj;cases hj
 refine⟨⟨fun b y hb=>?_,fun b c y z k o j q hb hc B C D=>?_,fun j y hj=>by rw[A j (J j y hj)];exact h.sd.frz j y hj,fun b j o hb=>by rw[r];exact h.sd.lt b j o hb,fun j y hj=>by rw[r];exact h.sd.flt j y hj,h.sd.new,h.sd.fc,h.sd.fz⟩,?_,r,A⟩;rcases inv b y hb with⟨p,hp,rfl,rfl⟩| ⟨hn,d⟩;obtain⟨y,h1,h2⟩:=G p hp;exact .inl ⟨_,0,y,(h.pds p hp).t,h1,(h.pds p hp).f,h2⟩;rcases h.sd.live b y d with⟨k,o,z,h1,h2,h3,h4⟩|h1;grind;grind;rcases inv b y hb with⟨p,hp,rfl,rfl⟩| ⟨hn,d⟩;rw[(h.pds p hp).t]at C;cases C;rcases inv c z hc with⟨p2,hp2,rfl,rfl⟩| ⟨hn,E⟩;rw[(h.pds p2 hp2).t]at D;cases D;intro e;exact B ((h.pds p2 hp2).u _ 0 (by rw[(h.pds p hp).t,e]));grind;rcases inv c z hc with⟨p2,hp2,rfl,rfl⟩| ⟨N,E⟩;rw[(h.pds p2 hp2).t]at D;grind;exact h.sd.inj b c y z k o j q d E B C D
 ·obtain⟨l,a1,a2,a3,a4,a5⟩:=h.ext.hh;have ge:∀j,j<hp0.nx-> ∀p∈pd,j≠hp0.nx+p.i:=fun j hj p hp=>by omega
  refine⟨h.ext.t,h.ext.f,by rw[r];exact h.ext.nx,h.ext.snx,h.ext.st,fun b y hb hlt=>?_,⟨tkl pd++l,by show tkl pd++s.h=_;rw[a1,QX],fun j hj O=>?_,fun b j o hb H=>?_,fun j y hj hy=>?_,fun hp=>a5 fun p h=>hp p (by grind)⟩,h.ext.hf,
   let⟨l',K,w⟩:=h.ext.win;⟨tkl pd++l',by show tkl pd++s.h=_;rw[K,QX],fun b c e z j o cs n hb ht hj hg hl=>by grind⟩⟩
  rcases inv b y hb with⟨p,hp,rfl,rfl⟩| ⟨hn,d⟩;exact absurd hlt (Nat.not_lt.2 (h.pds p hp).lo);exact h.ext.low b y d hlt;grind;grind;grind
theorem DA.write (h:DA P U τ0 F0 s0 hp0 n i τ F s S f tm pd esX I)(D:∀e∈esX,e.i<i){pre:Nat}(r:pre<2^i)(G:∀p∈pd,pre.testBit p.i=true){s1 s':SS}{S1 S':Hp}{τ':Tau}{F':Ac}(E:S1.nx=S.nx)(C:Ext τ0 F0 s0 hp0 τ F s1 S1)(d:Ext τ F s1 S1 τ' F' s' S')(A:SD P U τ' F' s' S')(B:TD P U τ' F' f' tm')(he:eX.i=i)(J:eX.nw=none):DA P U τ0 F0 s0 hp0 n (i+1) τ' F' s' S' f' tm' [] (eX::esX) (I|||pre):=by
 have z:=h.room;have cl:∀j,i+1<=j->j<n-> ∀c o,τ' c≠some (some (hp0.nx+j,o)):=by intro j hj g c o hc;have old:=(h.cl j (by omega) g).1;by_cases hlt:c<s1.nx;rw[d.st c hlt]at hc;exact old c o hc;rcases d.fresh c _ o (Sw hlt) hc with h1| ⟨b0,x,o0,h1,h2⟩;omega;grind
 refine⟨A,B,C.trans d,by have:=d.nx;omega,fun j hj=>?_,dR h.xd D he,.nil,fun p hp=>by grind,fun j hj g=>⟨cl j hj g,?_⟩,fun e hm w hI=>?_⟩;rw[Nat.testBit_or,h.ib j (by omega),Bool.false_or];exact Nat.testBit_lt_two_pow (RP r (Nat.pow_le_pow_right (by omega) (by omega)))
 ·cases hq:F' (hp0.nx+j)with
  |none=>rfl|some y=>obtain⟨l,_,_,_,a4,_⟩:=d.hh;rcases a4 _ y (by omega) hq with h1| ⟨b,o,h1,_⟩;rw[(h.cl j (by omega) g).2]at h1;cases h1;grind
 rcases Rx.1 hm with rfl|hm;grind;rw[Nat.testBit_or,Tg]at hI;obtain⟨p,hp,H⟩:=h.tk e hm w hI.1;grind
