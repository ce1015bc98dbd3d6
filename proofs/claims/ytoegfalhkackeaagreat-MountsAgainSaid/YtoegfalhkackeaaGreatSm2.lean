/- The symbolic engine, parts 13, 14, 15, 16, 17, 18, 19, 20, 21, 22.
  Conditions: none. -/
import Derived.Test.YtoegfalhkackeaaGreatSm1
set_option linter.all false
namespace Go.Sx
open Go.Xe
inductive Src where
 |lit (l:As)
 |rows (L:E)
def Src.cnt (size:Nat):Src->E
 | .lit l=>.int (l.length/size:Nat)| .rows L=>A7 L
def Src.blk (e size:Nat):Src->B4
 | .lit l=>.cells l e size| .rows L=>.rows L e size (.int 0)
def Src.one :Src->Bool
 | .lit l=>l.all wV| .rows _=>true
section
variable (P :Aw)(U:Ab)
def mcut (L off len:E):M Src:=b9 (l8 U (y5 (y8 (A7 L) (y4 off len)))) fun _=>b9 (Z0 U L off len) fun c=>i3 (.rows c)
def ssrc (e size:Nat)(x:SV):M Src:=
 match x with
 | .nils=>i3 (.lit [])| .sl b z off len _=>p9 fun s=>match s.get b with
  | some (.cells l e' z') => bif Nat.beq e e' && Nat.beq z size && Nat.beq z z' then
    (match off,len with
    | .int o,.int n=>bif decide (0<=o)&&decide (0<=n)&&Nat.ble ((o.toNat+n.toNat)*z) l.length then i3 (.lit ((l.drop (o.toNat*z)).take (n.toNat*z)))else a8 "elements: beyond"|off,len=>match uZ P e z l with
     |some L=>mcut U L off len|none=>a8 "elements: rows")
   else a8 "elements: type"
  |some (.rows L e' z' _)=>bif Nat.beq e e'&&Nat.beq z size&&Nat.beq z z' then mcut U L off len else a8 "elements: type"|_=>a8 "elements: no block"
 | .lst e' L _=>bif Nat.beq e e'&&Nat.beq size (kf P e).length then i3 (.rows (jV L))else a8 "elements: type"|_=>a8 "elements: value"
def NX (e size:Nat)(x:Src):M E:=
 match x with
 | .rows L=>i3 L| .lit []=>i3 (.op .nil [])| .lit l=>bif Nat.beq size (kf P e).length&&Nat.beq (l.length/size*size) l.length then b9 (qX (wY P U 20) (kf P e) 0 l) fun es=>i3 (.op (.rows (l.length/size) size) es)else a8 "elements: kinds"
end
section
variable {P :Aw}{U:Ab}{τ:Tau}{F:Ac}{s:SS}{hp:Hp}
variable (P U) in
def p7 (τ:Tau)(F:Ac)(e size:Nat):Src->Af->Prop
 | .lit l,vs=>VDL P U τ F l vs
 | .rows L, vs => size = (kf P e).length ∧ vs.length = (L.toR U).length * size ∧ (∀ r ∈ L.toR U, r.length = size) ∧
   ∀(r k:Nat) (row:Ar) (d:Dat),(L.toR U)[r]? =some row->row[k]? =some d-> ∃x,vs[r*size+k]? =some x/\ ∀kd,(kf P e)[k]? =some kd->PV P F kd x d
variable {e size:Nat}{x:Src}{vs:Af}
def p7.mono {τ':Tau}{F':Ac}(ht:Tle τ τ')(hf:Fle F F')(h:p7 P U τ F e size x vs):p7 P U τ' F' e size x vs:=by
 cases x with
 |lit l=>exact VDL.mono ht hf h|rows L=>obtain⟨h1,h2,h3,h4⟩:=h;exact⟨h1,h2,h3,fun r k row d hr hk=>let⟨x,k1,k2⟩:=h4 r k row d hr hk;⟨x,k1,fun kd b=>(k2 kd b).mono P hf⟩⟩
variable {v:Av}
def PV.oneCell {k:Kd}{d:Dat}(h:PV P F k v d):v.oneCell'=true:=by cases h<;>rfl
theorem p7.ones (h:p7 P U τ F e size x vs)(h1:x.one=true):vs.all Value.oneCell'=true:=by
 cases x with
 |lit l=>exact DN h h1|rows L=>
  obtain⟨A,B,r,w⟩:=h;rw[TS];intro y hy;obtain⟨j,hj⟩:=Vk hy;have d:j<(L.toR U).length*size:=by grind
  have hs:0<size:=by grind
  have hr:=(Nat.div_lt_iff_lt_mul hs).2 d;have b:(L.toR U)[j/size]? =some (L.toR U)[j/size]:=by grind
  have hl:=r _ (Vf hr);have hk:j % size<size:=Nat.mod_lt _ hs;have z:(L.toR U)[j/size][j % size]? =some ((L.toR U)[j/size][j % size]'(by omega)):=by grind
  obtain⟨x,k1,k2⟩:=w _ _ _ _ b z;have e1:j/size*size+j % size=j:=by rw[Nat.mul_comm];exact Nat.div_add_mod j size
  rw[e1,hj,Tk]at k1;subst k1;have g:(kf P e)[j % size]? =some ((kf P e)[j % size]'(by omega)):=by grind
  exact(k2 _ g).oneCell
def noRp :Kd->Bool
 | .rp=>false|_=>true
def PV.noR {k:Kd}{v:Av}{d:Dat}(h:PV P F k v d)(hk:noRp k=true):noR v=true:=by cases h<;>first|rfl|cases hk
theorem p7.noR {e size:Nat}{L:E}{vs:Af}(h:p7 P U τ F e size (.rows L) vs)(h1:(kf P e).all noRp=true):vs.all noR=true:=by
 obtain⟨A,B,r,w⟩:=h;rw[TS];intro y hy;obtain⟨j,hj⟩:=Vk hy;have g:j<(L.toR U).length*size:=by grind
 have hs:0<size:=by grind
 have hr:j/size<(L.toR U).length:=(Nat.div_lt_iff_lt_mul hs).2 g;have d:(L.toR U)[j/size]? =some (L.toR U)[j/size]:=by simp[hr]
 have hl:=r _ (Vf hr);have hk:j % size<size:=Nat.mod_lt _ hs;have z:(L.toR U)[j/size][j % size]? =some ((L.toR U)[j/size][j % size]'(by omega)):=by grind
 obtain⟨x,k1,k2⟩:=w _ _ _ _ d z;have e1:j/size*size+j % size=j:=by rw[Nat.mul_comm];exact Nat.div_add_mod j size
 rw[e1,hj,Tk]at k1;subst k1;have b:(kf P e)[j % size]? =some ((kf P e)[j % size]'(by omega)):=by grind
 rw[TS]at h1;exact(k2 _ b).noR (h1 _ (Tv b))
variable {n o:Nat}{cs:Ao}
theorem mN (h:p7 P U τ F e size x vs)(hg:∀(j:Nat) y,vs[j]? =some y->cs.get (o+j)=some y)(hn:o+vs.length<=n):BD P U τ F o (x.blk e size) (.cells cs n e size):=by
 cases x with
 |lit l=>refine⟨cs,n,rfl,by rw[h.1];exact hn,fun j a w=>?_⟩;obtain⟨y,h1,h2⟩:=VDL.get h w;grind
 |rows L=>obtain⟨b,z,g,A⟩:=h;refine⟨cs,n,rfl,⟨by omega,b,g,fun r k row d hr hk=>?_⟩,by show o+(0:Int).toNat*size<=n;simp;omega⟩;grind
theorem p7.app {A B:E}{b g:Af}(z:p7 P U τ F e size (.rows A) b)(hb:p7 P U τ F e size (.rows B) g):p7 P U τ F e size (.rows (G4 A B)) (b++g):=by
 obtain⟨h,a2,a3,C⟩:=z;obtain⟨D,w,G,y⟩:=hb;refine⟨h,by rw[N6];simp[a2,w,TX],fun r hr=>?_,fun r k row d hr hk=>?_⟩;rw[N6]at hr;grind
 ·rw[N6]at hr;by_cases hlt:r<(A.toR U).length;grind
  ·rw[Tt (by omega)]at hr;obtain⟨x,k1,k2⟩:=y _ k row d hr hk;refine⟨x,?_,k2⟩;have:b.length<=r*size+k:=by have:=Ty size (show(A.toR U).length<=r by omega);omega
   rw[Tt this,<-k1,a2];congr 1;rw[Nat.sub_mul];have:=Ty size (show(A.toR U).length<=r by omega);omega
theorem H4 {z:Nat}{rows:Rows}(hr:A8 P F e z o n cs rows){off len:Int}(h0:0<=off)(h1:0<=len)(h2:off+len<=rows.length){L:E}(hL:L.toR U=pQ rows off len):∃vs,j9 cs (o+off.toNat*z) (len.toNat*z)=some vs/\o+off.toNat*z+len.toNat*z<=n/\p7 P U τ F e z (.rows L) vs/\vs.length=len.toNat*z:=by
 obtain⟨Q,G,B,H⟩:=hr;have hl:=W9 h0 h1 h2;obtain⟨vs,M,N,O⟩:=B3 (R:=fun j x=>∀(r k:Nat) (row:Ar) (d:Dat),j=r*z+k->(pQ rows off len)[r]? =some row->row[k]? =some d-> ∀kd,(kf P e)[k]? =some kd->PV P F kd x d) (len.toNat*z) (o+off.toNat*z) 0 fun j hj=>by
  have hz:0<z:=by grind
  have hr:j/z<(pQ rows off len).length:=by rw[hl];exact(Nat.div_lt_iff_lt_mul hz).2 hj
  have A:(pQ rows off len)[j/z]? =some (pQ rows off len)[j/z]:=by grind
  have b:=hZ A;have D:=B _ (Tv b);have hk:j % z<z:=Nat.mod_lt _ hz;have J:(pQ rows off len)[j/z][j % z]? =some ((pQ rows off len)[j/z][j % z]'(by omega)):=by grind
  obtain⟨x,k1,k2⟩:=H _ _ _ _ b J;have e1:j/z*z+j % z=j:=by rw[Nat.mul_comm];exact Nat.div_add_mod j z
  refine⟨x,by rw[<-k1];congr 1;rw[TX];omega,fun r k row d e2 g w kd K=>?_⟩;have y:k<z:=by grind
  obtain⟨rfl,rfl⟩:=CD hk y (show j/z*z+j % z=r*z+k by omega);grind
 refine⟨vs,M,?_,⟨G,by grind,fun r h=>?_,fun r k row d g w=>?_⟩,N⟩
 ·have:off.toNat*z+len.toNat*z<=rows.length*z:=by rw[<-TX];exact Ty z (by omega)
  omega
 rw[hL]at h;exact B r (US (UR h))
 ·rw[hL]at g;have y:k<z:=by have:=B _ (Tv (hZ g));grind
  have C:r<len.toNat:=by grind
  have hj:r*z+k<vs.length:=by
   have:r*z+z<=len.toNat*z:=by rw[<-UB];exact Ty z C
   omega
  exact⟨vs[r*z+k]'hj,Tx hj,O (r*z+k) _ (by grind) r k row d (by omega) g w⟩
variable (P U) in
def Qk (hp:Hp)(e size:Nat)(v:Av)(x:Src)(τ:Tau)(F:Ac):Prop:=∃n vs,z7 hp size v=some (n,vs)/\p7 P U τ F e size x vs/\vs.length=n*size/\(x.cnt size).toI U=n
def fE {i a len c k z:Nat}{y:Blk}(hg:hp.m.get i=some y)(hr:rdC y=some (cs,k,z))(hk:a+len*size<=k)(hl:j9 cs a (len*size)=some vs):z7 hp size (.slice (some ⟨i,a,none⟩) len c)=some (len,vs):=by simp only[z7,hg,hr,Ts hk,TE,hl]
def HV {z:Nat}{L off len:E}{i c k e' w:Nat}(hg:hp.m.get i=some (.cells cs k e' w))(hk:n<=k)(hr:A8 P F e z o n cs (L.toR U))(h0:0<=off.toI U)(h1:0<=len.toI U):OKp U (mcut U L off len) s fun x=>Qk P U hp e z (.slice (some ⟨i,o+off.toN U*z,none⟩) (len.toN U) c) x τ F:=by
 refine OKp.need.bind fun _ _ _ _ p1=>C3.bind fun c' _ _ _ hc=>VJ ?_;have p1:=A4 p1;rw[j7,j2]at p1;have b:c'.toR U=pQ (L.toR U) (off.toI U) (len.toI U):=by show(c'.den U).rows=_;rw[hc];rfl
 obtain⟨vs,d,g,h,r⟩:=H4 hr h0 h1 p1 b;refine⟨len.toN U,vs,fE hg rfl (Us g hk) d,h,r,?_⟩;show(A7 c').toI U=_;rw[j2,b,W9 h0 h1 p1]
theorem IR (W:1<=size){a:SV}(H:VD P U τ F a v)(hs:SD P U τ F s hp):OKp U (ssrc P U e size a) s fun x=>Qk P U hp e size v x τ F:=by
 unfold ssrc;split;cases H;exact VJ ⟨0,[],rfl,We,by simp,by show((0/size:Nat):Int)=0;simp⟩
 ·rename_i b z off len cap;refine VI ?_;split
  ·rename_i l e' M hb;cases hq:Nat.beq e e'&&Nat.beq z size&&Nat.beq z M with
   |false=>exact VE|true=>
    simp only[Tl,Ub]at hq;obtain⟨⟨rfl,rfl⟩,rfl⟩:=hq;rcases hs.live b _ hb with⟨i,o,y,k1,k2,kF,cs,n,rfl,k4,J⟩| ⟨k1,L',e',M,X,k2,k3,k4,J⟩
    ·cases H with
     |sl _ _ _ _ _ Z o' c g h0 h1 hc=>
      rw[k1]at g;obtain⟨rfl,rfl⟩:=g;split
      ·rename_i B A;cases hq:decide (0<=B)&&decide (0<=A)&&Nat.ble ((B.toNat+A.toNat)*z) l.length with
       |false=>exact VE|true=>
        simp only[Tl,TI,Up]at hq;obtain⟨⟨q1,q2⟩,q3⟩:=hq;rw[TX]at q3;obtain⟨vs,N,K,Y⟩:=B3 (c:=cs) (R:=fun j x=>∀a,((l.drop (B.toNat*z)).take (A.toNat*z))[j]? =some a->VD P U τ F a x) (A.toNat*z) (o+B.toNat*z) 0 fun j hj=>by
         have Q:B.toNat*z+j<l.length:=by omega
         obtain⟨x,w1,w2⟩:=J (B.toNat*z+j) _ (Tx Q);grind
        have C:((l.drop (B.toNat*z)).take (A.toNat*z)).length=A.toNat*z:=by grind
        refine VJ ⟨A.toNat,vs,fE k2 rfl (by show o+B.toNat*z+A.toNat*z<=n;omega) N,⟨by rw[C,K],fun j a x H hx=>Y j x hx a (by grind)⟩,K,?_⟩;show((((l.drop (B.toNat*z)).take (A.toNat*z)).length/z:Nat):Int)=_;rw[C,Nat.mul_div_cancel _ W]
      split;rename_i L hL;exact HV k2 (TK n) (pU hL k4 J) h0 h1;exact VE
     |sl0 _ _ _ _ _ g h0 h1 hc=>grind
    cases k2
  ·rename_i L e' M ph hb;cases hq:Nat.beq e e'&&Nat.beq z size&&Nat.beq z M with
   |false=>exact VE|true=>
    simp only[TE];simp only[Tl,Ub]at hq;obtain⟨⟨rfl,rfl⟩,rfl⟩:=hq;rcases hs.live b _ hb with⟨i,o,y,k1,k2,kF,cs,n,rfl,k4,J⟩| ⟨k1,L',e',M,X,k2,k3,k4,J⟩
    ·cases H with
     |sl _ _ _ _ _ Z o' c g h0 h1 hc=>rw[k1]at g;obtain⟨rfl,rfl⟩:=g;exact HV k2 (TK n) k4 h0 h1
     |sl0 _ _ _ _ _ g h0 h1 hc=>grind
    ·cases H with
     |sl _ _ _ _ _ Z o' c g h0 h1 hc=>grind|sl0 _ _ _ _ _ g h0 h1 hc=>
      obtain⟨rfl,rfl,rfl,rfl⟩:=k2;refine OKp.need.bind fun _ _ _ _ p1=>C3.bind fun c' _ _ _ O=>VJ ?_;have E:c'.toR U=[]:=by show(c'.den U).rows=_;rw[O,k3];simp[pQ,Dat.rows]
      refine⟨0,[],by simp[z7],⟨k4,by rw[E];simp,fun r h=>(by grind),fun r k row d h=>by rw[E]at h;simp at h⟩,by simp,?_⟩;show(A7 c').toI U=0;rw[j2,E];rfl
  exact VE
 ·rename_i e' L clip;cases hq:Nat.beq e e'&&Nat.beq size (kf P e).length with
  |false=>exact VE|true=>
   simp only[Tl,Ub]at hq;obtain⟨rfl,hk⟩:=hq;cases H with
   |lst _ _ _ _ hv hc=>
    refine VJ ?_;have D:(jV L).toR U=L.toR U:=by show((jV L).den U).rows=_;rw[nK];rfl
    have w:((Src.rows (jV L)).cnt size).toI U=((L.toR U).length:Int):=by show(A7 (jV L)).toI U=_;rw[j2,D]
    generalize V:L.toR U=rows at hv D w;cases hv with
    |nils=>exact⟨0,[],by simp[z7],⟨hk,by rw[D];simp,fun r h=>(by grind),fun r k row d h=>by rw[D]at h;simp at h⟩,by simp,by rw[w];rfl⟩|vague=>exact⟨0,[],by simp[z7],⟨hk,by rw[D];simp,fun r h=>(by grind),fun r k row d h=>by rw[D]at h;simp at h⟩,by simp,by rw[w];rfl⟩|sl _ i o c b cs n z _ x hF hb aa hn hz hr hx ab=>
     have hg:=hs.frz i b hF;have T:A8 P F e z o n cs rows:=⟨hn,hz,hr,fun r k row d h1 h2=>(by grind)⟩
     have G:pQ rows 0 rows.length=rows:=by simp[pQ]
     obtain⟨vs,N,K,Y,v4⟩:=H4 T (len:=rows.length) (Uy 0) (by omega) (by omega) (by rw[D,G]);have e1:(0:Int).toNat*z=0:=by simp
     rw[e1,UA,Uc]at N K;have ez:z=size:=by omega
     subst ez;exact⟨rows.length,vs,fE hg hb K N,Y,v4,w⟩
 exact VE
theorem BN (h:p7 P U τ F e size x vs)(hs:SD P U τ F s hp):OKh P U (NX P U e size x) τ F s hp fun L τ' F' hp'=>τ'=τ/\hp'=hp/\(size=(kf P e).length->p7 P U τ' F' e size (.rows L) vs):=by
 unfold NX;split;exact VC ⟨rfl,rfl,fun _=>h⟩;have hv:=Tq h.1.symm;subst hv;exact VC ⟨rfl,rfl,fun hk=>⟨hk,by show 0=([]:Rows).length*size;simp,fun r h=>(by cases h),fun r k row d h=>by have:([]:Rows)[r]? =some row:=h;simp at this⟩⟩
 ·rename_i l _;cases hq:Nat.beq size (kf P e).length&&Nat.beq (l.length/size*size) l.length with
  |false=>exact VA|true=>
   simp at hq;obtain⟨C,D⟩:=hq;refine(dG (ks:=kf P e) (j:=0) (fun k a v τ F s hp=>bN 20 k a v τ F s hp) h hs).bind fun es τ1 F1 s1 hp1 ex hs1 ⟨e1,e2,e3,e4⟩=>VC ⟨e1,e2,fun hk=>?_⟩;have z:vs.length=es.length:=by rw[e3];exact h.1.symm
   have hr:A8 P F1 e size 0 vs.length (fill .e 0 vs) ((E.op (.rows (l.length/size) size) es).toR U):=cK hk (by omega) (by omega) fun j d B=>by
    have hj:j<vs.length:=by grind
    have b:vs[j]? =some vs[j]:=by grind
    refine⟨vs[j],by rw[TT];exact M0 vs j _ b,fun A w=>?_⟩;grind
   have g:((E.op (.rows (l.length/size) size) es).toR U).length=l.length/size:=by show(d8 size (l.length/size) _).length=_;rw[M9]
   refine⟨hk,by grind,hr.2.2.1,fun r k row d h1 h2=>?_⟩;obtain⟨y,k1,k2⟩:=hr.2.2.2 r k row d h1 h2;refine⟨y,?_,k2⟩;rw[TT,j8]at k1;split at k1;grind;rw[VW]at k1;cases k1
end
section
variable (P :Aw)(U:Ab)
def bO (e size:Nat)(x:Src)(len:E):M SV:=b9 (cM (x.blk e size)) fun b=>i3 (.sl b size (.int 0) len .ge)
def smove (e size b:Nat)(x:Src)(len:E)(cp:Cp):M SV:=fun s=>.ret (.sl s.nx size (.int 0) len cp,gD (s.set b none) (x.blk e size))
def vE (e size b:Nat)(off len:E)(cap:Cp)(src:Src):M SV:=
 b9 (NX P U e size src) fun Ln=>p9 fun s=>match s.get b with
 | some (.rows L e' z' ph) => bif Nat.beq e e' && Nat.beq size z' && Nat.beq size (kf P e).length then
   b9 (l8 U (y5 (y8 (A7 L) (y4 off len)))) fun _=>b9 (l8 U (y8 (y4 len (A7 Ln)) (.int 67108865))) fun _=>
   match cap with
   | .ge=>b9 (Z0 U L off len) fun Lo=>smove e size b (.rows (G4 Lo Ln)) (y4 len (A7 Ln)) .ge
   | .un=>b9 (Z0 U L off len) fun Lo=>smove e size b (.rows (G4 Lo Ln)) (y4 len (A7 Ln)) .un
   | .ex c => b9 (hK U (y8 c (y4 len (A7 Ln)))) fun t =>
     bif t then b9 (Z0 U L off len) fun Lo=>bO e size (.rows (G4 Lo Ln)) (y4 len (A7 Ln))
     else b9 (l8 U (y5 (y8 ph (y4 off c)))) fun _=>b9 (jW b (some (.rows (.op .over [L,y4 off len,Ln]) e z' ph))) fun _=>i3 (.sl b size off (y4 len (A7 Ln)) (.ex c))
  else a8 "append: type"
 |_=>a8 "append: block"
def sapp (e size:Nat)(s:SV)(src:Src):M SV:=
 match s with
 | .nils=>match src with
  | .lit []=>i3 .nils|src=>b9 (l8 U (y8 (src.cnt size) (.int 67108865))) fun _=>bO e size src (src.cnt size)
 | .sl b z off len cap => bif Nat.beq z size && src.one then p9 fun st => match st.get b with
   |some (.cells l e' z')=>match off,len,src with
    | .int o, .int n, .lit m => bif Nat.beq e e' && Nat.beq z z' && decide (0 ≤ o) && decide (0 ≤ n) && Nat.ble ((o.toNat + n.toNat) * z) l.length && Nat.ble (n.toNat + m.length / size) 67108864 && Nat.beq (m.length / size * size) m.length then
      match cap with
      | .ge=>smove e size b (.lit ((l.drop (o.toNat*z)).take (n.toNat*z)++m)) (.int (n.toNat+m.length/size:Nat)) .ge| .un=>a8 "append: cells"
      | .ex c => b9 (hK U (y8 c (.int (n.toNat + m.length / size : Nat)))) fun t =>
        bif t then bO e size (.lit ((l.drop (o.toNat*z)).take (n.toNat*z)++m)) (.int (n.toNat+m.length/size:Nat))
        else bif Nat.ble ((o.toNat+n.toNat)*z+m.length) l.length then b9 (jW b (some (.cells (U1 l ((o.toNat+n.toNat)*z) m) e' z'))) fun _=>i3 (.sl b z (.int o) (.int (n.toNat+m.length/size:Nat)) (.ex c))else a8 "append: room"
     else a8 "append: literal"
    |off,len,src=>b9 (yP P b) fun _=>vE P U e size b off len cap src
   |some (.rows _ _ _ _)=>vE P U e size b off len cap src|_=>a8 "append: no block"
  else a8 "append: size"
 | .lst e' L true => bif Nat.beq e e' && Nat.beq size (kf P e).length && src.one then
   b9 (hK U (F7 (src.cnt size) (.int 0))) fun t=>bif t then b9 (l8 U (y8 (A7 L) (.int 67108865))) fun _=>i3 (.lst e' L true)else
    b9 (NX P U e size src) fun Ln=>b9 (l8 U (y8 (y4 (A7 L) (A7 Ln)) (.int 67108865))) fun _=>bO e size (.rows (G4 (jV L) Ln)) (y4 (A7 L) (A7 Ln))
  else a8 "append: type"
 |_=>a8 "append: value"
def Iz (t u:Ax)(s x:SV):M SV:=
 match P.underlying t,P.underlying u with
 |some (.slice e),some (.slice _)=>match P.info? e with
  |none=>a8 "append: type"|some ie=>match ie.zero with
   |none=>a8 "append: zero"|some z=>bif Nat.beq z.cells.toList.length ie.size&&Nat.ble ie.bytes 1048576&&Nat.ble 1 ie.size then b9 (ssrc P U e ie.size x) fun src=>sapp P U e ie.size s src else a8 "append: size"
 |_,_=>a8 "append: type"
end
section
variable {P :Aw}{U:Ab}{τ:Tau}{F:Ac}{s:SS}{hp:Hp}
noncomputable def aY (hp:Hp)(e size n:Nat)(news:Af)(s:Av):Bb (Av×Hp):=
 match s with
 | .slice none sLen sCap => bif Nat.beq sLen 0 && Nat.beq sCap 0 && Nat.ble n 67108864 then
   bif Nat.beq n 0 then some (.slice none 0 0,hp)
   else some (.slice (some ⟨hp.nx,0,none⟩) n (d9 n 0),hp.new news e size)
  else none
 | .slice (some ⟨i,o,none⟩) sLen sCap=>match hp.m.get i with
  |some (.cells c k e' z')=>
   bif Nat.ble (sLen+n) 67108864&&news.all Value.oneCell' then
    bif Nat.beq n 0 then
     bif Nat.ble sLen sCap then some (.slice (some ⟨i,o,none⟩) sLen sCap,hp)else none
    else
     bif Nat.ble unk sCap then
      bif Nat.ble 1 (F5 sCap)&&Nat.ble (F5 sCap) (sLen+n)then
       bif Nat.ble (o+sLen*size) k then
        match j9 c o (sLen*size)with
        |none=>none|some olds=>some (.slice (some ⟨hp.nx,0,none⟩) (sLen+n) (d9 (sLen+n) 0),hp.new (olds++news) e size)
       else none
      else bif Nat.beq z' size&&Nat.beq e' e&&Nat.ble (o+sLen*size) k then
       bif Nat.ble (sLen+n) (P4 sCap)then
        some (.slice (some ⟨i,o,none⟩) (sLen+n) sCap,qL hp i c (Nat.max k (o+(sLen+n)*size)) e' z' (o+sLen*size) news)
       else
       match j9 c o (sLen*size)with
       |none=>none|some olds=>
        (bif Nat.beq o 0 then fill c (sLen*size) news else fill (fill .e 0 olds) (sLen*size) news).force fun ct=>
         some (.slice (some ⟨hp.nx,0,none⟩) (sLen+n) (d9 (sLen+n) 0),⟨(hp.m.set i none).set hp.nx (some (.cells ct ((sLen+n)*size) e' z')),hp.nx+1⟩)
      else none
     else bif Nat.ble (sLen+n) sCap then
      bif Nat.ble (o+(sLen+n)*size) k then
       some (.slice (some ⟨i,o,none⟩) (sLen+n) sCap,qL hp i c k e' z' (o+sLen*size) news)
      else none
     else
      bif Nat.ble (o+sLen*size) k then
       match j9 c o (sLen*size)with
       |none=>none|some olds=>some (.slice (some ⟨hp.nx,0,none⟩) (sLen+n) (d9 (sLen+n) 0),hp.new (olds++news) e size)
      else none
   else none
  |some (.ro c k _ _)=>
   bif Nat.ble (sLen+n) 67108864&&Nat.ble sLen sCap&& !Nat.ble unk sCap then
    bif Nat.beq n 0 then some (.slice (some ⟨i,o,none⟩) sLen sCap,hp)
    else bif Nat.ble (sLen+n) sCap then none
    else bif Nat.ble (o+sLen*size) k then
     match j9 c o (sLen*size)with
     |none=>none|some olds=>some (.slice (some ⟨hp.nx,0,none⟩) (sLen+n) (d9 (sLen+n) 0),hp.new (olds++news) e size)
    else none
   else none
  |_=>none
 |_=>none
variable {n:Nat}{news:Af}
def Hg {t u e e2:Ax}{ie:Ba}{z:Av}(ht:P.underlying t=some (.slice e))(d:P.underlying u=some (.slice e2))(hi:P.info? e=some ie)(hz:ie.zero=some z)(hb:(Nat.beq z.cells.toList.length ie.size&&Nat.ble ie.bytes 1048576)=true){b xv:Av}(hx:z7 hp ie.size xv=some (n,news)):E1 P hp t u b xv=aY hp e ie.size n news b:=by simp only[E1,ht,d,hi,hz,hb,TE,hx];rfl
variable (P U) in
def sO (hp:Hp)(e size n:Nat)(news:Af)(sv:Av)(c:SV)(τ:Tau)(F:Ac)(hp':Hp):Prop:=∃w,aY hp e size n news sv=some (w,hp')/\VD P U τ F c w
def geN {len:E}(h:len.toI U=n)(hn:n<=67108864):mY U len .ge (d9 n 0):=⟨n,rfl,hn,by omega⟩
def Fg (z:Nat):0+(E.int 0).toN U*z=0:=by show 0+(0:Int).toNat*z=0;simp
def qA {len:E}(h:len.toI U=n):len.toN U=n:=by show(len.toI U).toNat=n;rw[h];exact Uc n
variable {e size:Nat}
def M4 {x:Src}{vs:Af}{len:E}(h:p7 P U τ F e size x vs)(d:len.toI U=n)(hn:n<=67108864)(hs:SD P U τ F s hp):OKh P U (bO e size x len) τ F s hp fun c τ' F' hp'=>hp'=hp.new vs e size/\VD P U τ' F' c (.slice (some ⟨hp.nx,0,none⟩) n (d9 n 0)):=by exact(Vx hs fun τ' ht=>mN (h.mono ht (Vu F)) (fun j y hy=>by rw[TT];exact M0 vs j y hy) (by omega)).bind fun b τ' F' s' hp' _ g ⟨h1,h2,h3⟩=>VC ⟨h3,Wc h2 (Uy 0) (by omega) (geN d hn) (Fg size).symm (qA d).symm⟩
def OKh.smove {e size b i o j q n c:Nat}{x:B4}{x':Src}{len:E}{cp:Cp}(hb:s.get b=some x)(ht:τ b=some (some (i,o))){hp1:Hp}(hn:hp.nx<=hp1.nx)(hk:∀k,k<hp.nx->k≠i->hp1.m.get k=hp.m.get k)(hj:j=i\/hp.nx<=j)(g:j<hp1.nx){y:Blk}(hi:hp1.m.get j=some y)(h:∀τ',Tle τ τ'->BD P U τ' F q (x'.blk e size) y)(d:len.toI U=n)(hc:mY U len cp c)(hs:SD P U τ F s hp):OKh P U (smove e size b x' len cp) τ F s hp fun a τ' F' hp'=>hp'=hp1/\VD P U τ' F' a (.slice (some ⟨j,q,none⟩) n c):=by intro Q hq _;have h0:=hs.new _ (TK _);obtain⟨h1,h2⟩:=hs.move hb ht hn hk hj g hi (h _ (cJ _ h0));exact⟨_,_,hq,_,F,hp1,h1,h2,rfl,Wc (t6 _ _ _) (Uy 0) (by omega) hc (by show q=q+(0:Int).toNat*size;simp) (qA d).symm⟩
variable {cs:Ao}{olds:Af}
theorem eF {a:Nat}(h:∀(j:Nat) y,olds[j]? =some y->cs.get (a+j)=some y)(j:Nat)(y:Av)(hy:(olds++news)[j]? =some y):(fill cs (a+olds.length) news).get (a+j)=some y:=by rw[j8];grind
variable {i k q sLen:Nat}{res:Src}
theorem Fu {b o lo:Nat}{x:B4}{len:E}{cp:Cp}(C:∀c,mY U len .ge c->mY U len cp c)(hb:s.get b=some x)(ht:τ b=some (some (i,o)))(hg:hp.m.get i=some (.cells cs k e size))(hl:j9 cs q (sLen*size)=some olds)(hk:q+sLen*size<=k)(Q:news.all Value.oneCell'=true)(R:news.length=n*size)(J:lo<=67108864)(N:sLen+n<=67108864)(z:p7 P U τ F e size res (olds++news))(g:len.toI U=((sLen+n:Nat):Int))(hs:SD P U τ F s hp):OKh P U (smove e size b res len cp) τ F s hp (sO P U hp e size n news (.slice (some ⟨i,q,none⟩) sLen (d9 lo 0))):=by
 have H:=hs.lt b i o ht;obtain⟨V,W⟩:=l9 hl;have M:∀(j:Nat) y,olds[j]? =some y->cs.get (q+j)=some y:=fun j y hy=>by grind
 have hx:∀w hp1,aY hp e size n news (.slice (some ⟨i,q,none⟩) sLen (d9 lo 0))=some (w,hp1)->(∀a τ' F' hp',Tle τ τ'->Fle F F'->hp'=hp1/\VD P U τ' F' a w->sO P U hp e size n news (.slice (some ⟨i,q,none⟩) sLen (d9 lo 0)) a τ' F' hp'):=
  fun w hp1 h a τ' F' hp' _ _ ⟨h1,h2⟩=>⟨w,by grind,h2⟩
 have r:(Nat.ble (sLen+n) 67108864&&news.all Value.oneCell')=true:=by simp_all
 by_cases L:n=0
 ·
  subst L;have D:news=[]:=Tq (by omega);subst D;have G:∀c,unk<=c->Nat.ble sLen c=true:=fun c hc=>Ts (Us (Nat.le_of_lt (sL (by omega))) hc);have O:∀c,unk<=c->aY hp e size 0 [] (.slice (some ⟨i,q,none⟩) sLen c)=some (.slice (some ⟨i,q,none⟩) sLen c,hp):=by intro c hc;simp only[aY,hg,r,TE,G c hc];rfl
  have d:=O _ (p8 lo 0);exact(OKh.smove hb ht (TK _) (fun _ _ _=>rfl) (.inl rfl) H hg (fun τ' A=>mN (z.mono A (Vu F)) (by grind) (by grind)) g (C _ ⟨lo,rfl,J,by omega⟩) hs).mono (hx _ _ d)
 ·have d:aY hp e size n news (.slice (some ⟨i,q,none⟩) sLen (d9 lo 0))=bif Nat.ble (sLen+n) lo then
    some (.slice (some ⟨i,q,none⟩) (sLen+n) (d9 lo 0),qL hp i cs (Nat.max k (q+(sLen+n)*size)) e size (q+sLen*size) news)
    else(bif Nat.beq q 0 then fill cs (sLen*size) news else fill (fill .e 0 olds) (sLen*size) news).force fun ct=>
     some (.slice (some ⟨hp.nx,0,none⟩) (sLen+n) (d9 (sLen+n) 0),⟨(hp.m.set i none).set hp.nx (some (.cells ct ((sLen+n)*size) e size)),hp.nx+1⟩):=by
   simp only[aY,hg,r,TE,z8 L,TF,Ts (p8 lo 0),CQ,sX];rw[show Nat.ble 1 0=false from rfl,Bool.false_and,TF,t9 rfl,t9 rfl,Ts hk,hl];grind
  have K:(sLen+n)*size=sLen*size+n*size:=TX _ _ _;cases B:Nat.ble (sLen+n) lo with
  |true=>
   rw[B,TE]at d;simp only[qL,VV]at d;refine(OKh.smove (hp:=hp) (hp1:= {hp with m:=hp.m.set i (some (.cells (fill cs (q+sLen*size) news) (Nat.max k (q+(sLen+n)*size)) e size))}) hb ht (TK _)
    (fun j _ hj=>by rw[VX,TH hj]) (.inl rfl) H (by rw[VX,TJ rfl]) (fun τ' A=>?_) g (C _ ⟨lo,rfl,J,by omega⟩) hs).mono (hx _ _ d)
   refine mN (z.mono A (Vu F)) (fun j y hy=>?_) ?_;rw[<-V];exact eF M j y hy;grind
  |false=>
   rw[B,TF,VV]at d;refine(OKh.smove hb ht (UI _)
    (fun j hj D=>by rw[VX,TH (by omega),VX,TH D]) (.inr (TK _)) (Uv _) (by rw[VX,TJ rfl]) (fun τ' A=>?_) g (C _ (geN g N)) hs).mono (hx _ _ d)
   refine mN (z.mono A (Vu F)) (fun j y hy=>?_) (by grind);by_cases hq:q=0;rw[t9 hq,TE];have:=eF (by omega) j y hy;grind;rw[z8 hq,TF];have:=eF (fun j y hy=>by rw[TT];exact M0 olds j y hy) j y hy;grind
theorem Ly {b o:Nat}{x:B4}{len:E}(hb:s.get b=some x)(ht:τ b=some (some (i,o)))(hg:hp.m.get i=some (.cells cs k e size))(hl:j9 cs q (sLen*size)=some olds)(hk:q+sLen*size<=k)(H:news.all Value.oneCell'=true)(J:news.length=n*size)(w:sLen<unk)(A:sLen+n<=67108864)(h:p7 P U τ F e size res (olds++news))(d:len.toI U=((sLen+n:Nat):Int))(hs:SD P U τ F s hp):OKh P U (smove e size b res len .un) τ F s hp (sO P U hp e size n news (.slice (some ⟨i,q,none⟩) sLen sLen)):=by
 have B:=hs.lt b i o ht;obtain⟨K,L⟩:=l9 hl;have G:∀(j:Nat) y,olds[j]? =some y->cs.get (q+j)=some y:=fun j y hy=>by grind
 have g:(Nat.ble (sLen+n) 67108864&&news.all Value.oneCell')=true:=by simp_all
 by_cases z:n=0
 ·subst z;have C:news=[]:=Tq (by omega);subst C;have D:aY hp e size 0 [] (.slice (some ⟨i,q,none⟩) sLen sLen)=some (.slice (some ⟨i,q,none⟩) sLen sLen,hp):=by simp only[aY,hg,g,TE,Ts (TK sLen)];rfl
  exact(OKh.smove (cp:= .un) (q:=q) hb ht (TK _) (fun _ _ _=>rfl) (.inl rfl) B hg (fun τ' r=>mN (h.mono r (Vu F)) (by grind) (by grind)) d (Or.inl ⟨w,(qA d).symm,by omega⟩) hs).mono fun a τ' F' hp' _ _ ⟨h1,h2⟩=>⟨_,by grind,h2⟩
 ·have D:aY hp e size n news (.slice (some ⟨i,q,none⟩) sLen sLen)=some (.slice (some ⟨hp.nx,0,none⟩) (sLen+n) (d9 (sLen+n) 0),hp.new (olds++news) e size):=by simp only[aY,hg,g,TE,z8 z,TF,bE w,bE (show sLen<sLen+n by omega),Ts hk,hl]
  refine(OKh.smove (cp:= .un) (hp1:=hp.new (olds++news) e size) (q:=0) hb ht (UI _)
   (fun j hj _=>by show(hp.m.set hp.nx _).get j=_;rw[VX,TH (by omega)]) (.inr (TK _)) (Uv _) (by show(hp.m.set hp.nx _).get hp.nx=_;rw[VX,TJ rfl]) (fun τ' r=>?_) d (Or.inr (geN d A)) hs).mono fun a τ' F' hp' _ _ ⟨h1,h2⟩=>⟨_,by grind,h2⟩
  exact mN (h.mono r (Vu F)) (fun j y hy=>by rw[TT];exact M0 _ j y hy) (by omega)
theorem HA {c:Nat}{len:E}(hg:hp.m.get i=some (.cells cs k e size))(hl:j9 cs q (sLen*size)=some olds)(hk:q+sLen*size<=k)(g:news.all Value.oneCell'=true)(r:c<unk)(w:sLen<=c)(hgt:c<sLen+n)(b:sLen+n<=67108864)(h:p7 P U τ F e size res (olds++news))(d:len.toI U=((sLen+n:Nat):Int))(hs:SD P U τ F s hp):OKh P U (bO e size res len) τ F s hp (sO P U hp e size n news (.slice (some ⟨i,q,none⟩) sLen c)):=by
 have y:aY hp e size n news (.slice (some ⟨i,q,none⟩) sLen c)=some (.slice (some ⟨hp.nx,0,none⟩) (sLen+n) (d9 (sLen+n) 0),hp.new (olds++news) e size):=by simp only[aY,hg];rw[show(Nat.ble (sLen+n) 67108864&&news.all Value.oneCell')=true by simp only[Tl,Up];exact⟨b,g⟩];simp only[TE,z8 (show n≠0 by omega),TF,bE r,bE hgt,Ts hk,hl]
 exact(M4 h d b hs).mono fun a τ' F' hp' _ _ ⟨h1,h2⟩=>⟨_,by grind,h2⟩
theorem Lz {c:Nat}(hg:hp.m.get i=some (.cells cs k e size))(y:news.all Value.oneCell'=true)(A:news.length=n*size)(g:c<unk)(h:sLen<=c)(r:sLen+n<=c)(z:sLen+n<=67108864)(hk:q+(sLen+n)*size<=k){e0:Nat}:∃m,aY hp e0 size n news (.slice (some ⟨i,q,none⟩) sLen c)=some (.slice (some ⟨i,q,none⟩) (sLen+n) c,{hp with m:=m})/\(∀j,j≠i->m.get j=hp.m.get j)/\m.get i=some (.cells (fill cs (q+sLen*size) news) k e size):=by
 have b:(Nat.ble (sLen+n) 67108864&&news.all Value.oneCell')=true:=by simp_all
 by_cases d:n=0;subst d;have w:news=[]:=Tq (by omega);subst w;refine⟨hp.m,?_,fun _ _=>rfl,hg⟩;simp only[aY,hg,b,TE,t9,Ts h];rfl;refine⟨hp.m.set i (some (.cells (fill cs (q+sLen*size) news) k e size)),?_,fun j hj=>by rw[VX,TH hj],by rw[VX,TJ rfl]⟩;simp only[aY,hg,b,TE,z8 d,TF,bE g,Ts r,Ts hk,qL,VV]
end
section
variable {P :Aw}{U:Ab}{τ:Tau}{F:Ac}{s:SS}{hp:Hp}
theorem OKh.change0 {b:Nat}{x:B4}(hb:s.get b=some x)(ht:τ b=some none){x':B4}(hx:∃L e z ph,x'= .rows L e z ph/\L.toR U=[]/\z=(kf P e).length/\ph.toI U<=0)(hs:SD P U τ F s hp):OKh P U (jW b (some x')) τ F s hp fun _ τ' F' hp'=>τ'=τ/\F'=F/\hp'=hp:=by
 intro Q hq _;have liv:∀c y,(s.set b (some x')).get c=some y-> ∃y,s.get c=some y:=by intro c y hc;rw[VN]at hc;grind
 refine⟨(),_,hq,τ,F,hp,⟨VY τ,Vu F,TK _,TK _,fun _ _=>rfl,fun c y hc _=>liv c y hc,⟨[(b,some x')],rfl,fun _ _ _=>rfl,fun c j q hc h=>(by rw[hs.new c hc]at h;cases h),fun _ _ _ h=>.inl h,fun _ _ _ h=>h⟩,⟨[],rfl⟩,⟨[(b,some x')],rfl,fun _ _ _ _ _ _ cs _ _ _ _ hg _=>⟨cs,hg,fun _ _=>rfl⟩⟩⟩,
  ⟨fun c y hc=>?_,fun c d y z j q k r hc w g e1 e2=>?_,hs.frz,hs.lt,hs.flt,hs.new,hs.fc,hs.fz⟩,rfl,rfl,rfl⟩
 rw[VN]at hc;by_cases e:c=b;grind;rw[TH e]at hc;exact hs.live c y hc;obtain⟨A,hy⟩:=liv c y hc;obtain⟨B,hz⟩:=liv d z w;exact hs.inj c d A B j q k r hy hz g e1 e2
variable {e n size:Nat}{vs:Af}
theorem Ew {L len:E}(h:p7 P U τ F e size (.rows L) vs)(g:vs.length=n*size)(b:len.toI U=n)(d:(L.toR U).length=n)(hn:n<=67108864)(hs:SD P U τ F s hp):OKh P U (bO e size (.rows L) len) τ F s hp fun c τ' F' hp'=>(n=0/\hp'=hp/\VD P U τ' F' c (.slice none 0 0))\/(n≠0/\hp'=hp.new vs e size/\VD P U τ' F' c (.slice (some ⟨hp.nx,0,none⟩) n (d9 n 0))):=by by_cases h0:n=0;subst h0;intro Q hq _;have hL:=Tq d;obtain⟨h1,h2⟩:=hs.alloc (TK _) (fun _ _=>rfl) (.inr ⟨rfl,L,e,size,.int 0,rfl,hL,h.1,Uy 0⟩);exact⟨_,_,hq,_,F,hp,h1,h2,.inl ⟨rfl,rfl,.sl0 s.nx size (.int 0) len .ge (t6 _ _ _) rfl b (fun e he=>by grind)⟩⟩;exact(M4 h b hn hs).mono fun c τ' F' hp' _ _ ⟨h1,h2⟩=>.inr ⟨h0,h1,h2⟩
variable {news:Af}
def K6 (hn:n<=67108864):aY hp e size n news (.slice none 0 0)=bif Nat.beq n 0 then some (.slice none 0 0,hp)else some (.slice (some ⟨hp.nx,0,none⟩) n (d9 n 0),hp.new news e size):=by simp only[aY];rw[show(Nat.beq 0 0&&Nat.beq 0 0&&Nat.ble n 67108864)=true by simp only[Tl,Up];exact⟨⟨rfl,rfl⟩,hn⟩,TE]
def nA {L:E}(b:1<=size)(h:p7 P U τ F e size (.rows L) vs)(d:vs.length=n*size):(L.toR U).length=n:=by have:=h.2.1;rw[d]at this;exact(Nat.eq_of_mul_eq_mul_right b this).symm
def toUn :SV->SV
 | .sl b z off len .ge=>.sl b z off len .un|a=>a
variable {v:Av}
theorem PW {a:SV}(h:VD P U τ F a v):VD P U τ F (toUn a) v:=by
 unfold toUn;split
 ·cases h with
  |sl _ _ _ _ _ i o c h h0 h1 hc=>exact .sl _ _ _ _ .un i o c h h0 h1 (Or.inr hc)|sl0 _ _ _ _ _ h h0 h1 hc=>exact .sl0 _ _ _ _ .un h h0 h1 (fun e he=>by grind)
 exact h
theorem rF {b:Nat}(al:1<=size){off len:E}{cap:Cp}{src:Src}(ha:VD P U τ F (.sl b size off len cap) v)(ah:p7 P U τ F e size src news)(M:news.length=n*size)(B:news.all Value.oneCell'=true)(hs:SD P U τ F s hp):OKh P U (vE P U e size b off len cap src) τ F s hp (sO P U hp e size n news v):=by
 refine(BN ah hs).bind fun Ln τ1 F1 s1 hp1 ex hs1 ⟨e1,e2,A⟩=>VB ?_;subst e1;subst e2;split
 ·rename_i L e' z' ph hb;cases hq:Nat.beq e e'&&Nat.beq size z'&&Nat.beq size (kf P e).length with
  |false=>exact VA|true=>
   simp only[Tl,Ub]at hq;obtain⟨⟨rfl,rfl⟩,ai⟩:=hq;have A:=A ai;have z:=nA al A M;refine Vy VF fun _ s2 o2 aq p1=>Vy VF fun _ s3 o3 aj p2=>?_;have p1:=A4 p1;have p2:=C7 p2;rw[j7,j2]at p1;rw[j7,j2,z]at p2;simp only[B7]at p2;have H:s3.get b=some (.rows L e size ph):=by rw[(o2.trans o3).get];exact hb
   rcases aj.live b _ H with⟨i,o,y,k1,k2,kF,cs,k,rfl,k4,k5⟩| ⟨k1,L',e',z',au,k2,k3,k4,k5⟩
   ·cases ha with
    |sl0 _ _ _ _ _ O h0 h1 hc=>grind|sl _ _ _ _ _ i' o' c O h0 h1 hc=>
     rw[k1]at O;obtain⟨rfl,rfl⟩:=O;have ao:len.toI U=((len.toN U:Nat):Int):=by grind
     have ap:off.toI U=((off.toN U:Nat):Int):=by grind
     have d:(y4 len (A7 Ln)).toI U=((len.toN U+n:Nat):Int):=by rw[j7,j2,z];omega
     have olds:∀Lo:E,Lo.den U= .lst (pQ (L.toR U) (off.toI U) (len.toI U))-> ∃vs,j9 cs (o+off.toN U*size) (len.toN U*size)=some vs/\o+off.toN U*size+len.toN U*size<=k/\p7 P U τ1 F1 e size (.rows (G4 Lo Ln)) (vs++news):=by
      intro Lo g;have hR:Lo.toR U=pQ (L.toR U) (off.toI U) (len.toI U):=by show(Lo.den U).rows=_;rw[g];rfl
      obtain⟨vs,C,K,W,v4⟩:=H4 (τ:=τ1) k4 h0 h1 p1 hR;exact⟨vs,C,K,W.app A⟩
     split
     ·
      obtain⟨lo,rfl,X,c2⟩:=hc;refine Vy C3 fun Lo s4 R w g=>?_;obtain⟨vs,C,K,W⟩:=olds Lo g;exact Fu (fun _ h=>h) (by rw[R.get];exact H) k1 k2 C K B M X (by omega) W d w
     ·
      refine Vy C3 fun Lo s4 R w g=>?_;obtain⟨vs,C,K,W⟩:=olds Lo g;rcases hc with⟨X,rfl,c2⟩| ⟨lo,rfl,X,c2⟩;exact Ly (by rw[R.get];exact H) k1 k2 C K B M X (by omega) W d w;exact Fu (cp:= .un) (fun _ h=>Or.inr h) (by rw[R.get];exact H) k1 k2 C K B M X (by omega) W d w
     ·rename_i c0;obtain⟨X,rfl,c3,c4⟩:=hc;have an:c0.toI U=((c0.toN U:Nat):Int):=by grind
      refine Vy VL fun t s4 R w ht=>?_;rw[G9,d]at ht;cases t with
      |true=>simp only[TI]at ht;simp only[TE];refine Vy C3 fun Lo s5 o5 J g=>?_;obtain⟨vs,C,K,W⟩:=olds Lo g;exact HA k2 C K B c3 (by omega) (by omega) (by omega) W d J
      |false=>
       simp only[Uj]at ht;simp only[TF];refine Vy VF fun _ s5 o5 J p3=>?_;have p3:=A4 p3;rw[j7]at p3;have ab:s5.get b=some (.rows L e size ph):=by rw[(R.trans o5).get];exact H
       have N:o+off.toN U*size+(len.toN U+n)*size<=k:=by have:(off.toN U+(len.toN U+n))*size<=ph.toN U*size:=Ty size (by show off.toN U+(len.toN U+n)<=(ph.toI U).toNat;omega);grind
       obtain⟨m,m1,m2,m3⟩:=Lz (e0:=e) (q:=o+off.toN U*size) (c:=c0.toN U) k2 B M c3 (by omega) (by omega) (by omega) N;have ae:(y4 off len).toI U=off.toI U+len.toI U:=j7 off len;have V:((y4 off len).toI U).toNat=off.toN U+len.toN U:=by grind
       have ac:A8 P F1 e size o k (fill cs (o+off.toN U*size+len.toN U*size) news) ((E.op .over [L,y4 off len,Ln]).toR U):=by have:=A8.over (news:=news) (l:=Ln.toR U) (a:=(y4 off len).toI U) k4 (by rw[ae];exact p1) A.2.2.1 A.2.1 (by rw[V,z,TX,TX];rw[TX]at N;omega) A.2.2.2;rw[V,TX,<-Uu]at this;exact this
       refine(Vz (x':= .rows (.op .over [L,y4 off len,Ln]) e size ph) (m:=m) ab k1 m2 m3 ⟨_,k,rfl,ac,k5⟩).bind fun _ τ2 F2 s6 hp2 _ ak ⟨w1,w2,w3⟩=>?_;subst w1;refine VC ⟨.slice (some ⟨i,o+off.toN U*size,none⟩) (len.toN U+n) (c0.toN U),by rw[w3];exact m1,Wc k1 h0 (by omega) ⟨X,rfl,c3,by omega⟩ rfl (qA d).symm⟩
   ·cases ha with
    |sl _ _ _ _ _ i' o' c O h0 h1 hc=>grind|sl0 _ _ _ _ _ O h0 h1 hc=>
     obtain⟨rfl,rfl,rfl,rfl⟩:=k2;have hn:n<=67108864:=by omega
     have d:(y4 len (A7 Ln)).toI U=(n:Int):=by rw[j7,j2,z];omega
     have D:∀Lo:E,Lo.den U= .lst (pQ (L.toR U) (off.toI U) (len.toI U))->p7 P U τ1 F1 e size (.rows (G4 Lo Ln)) news/\((G4 Lo Ln).toR U).length=n:=by
      intro Lo g;have hR:Lo.toR U=[]:=by show(Lo.den U).rows=_;rw[g,k3];simp[pQ,Dat.rows]
      have hA:(G4 Lo Ln).toR U=Ln.toR U:=by rw[N6,hR];rfl
      obtain⟨q1,q2,q3,q4⟩:=A;exact⟨⟨q1,by rw[hA];exact q2,by rw[hA];exact q3,by rw[hA];exact q4⟩,by rw[hA];exact z⟩
     split;refine Vy C3 fun Lo s4 R w g=>?_;obtain⟨C,K⟩:=D Lo g;by_cases G:n=0;subst G;intro Q hq _;obtain⟨Y,T⟩:=w.drop b;obtain⟨Z,aa⟩:=T.alloc (x:=(Src.rows (G4 Lo Ln)).blk e size) (p:=none) (hp':=hp1) (TK _) (fun _ _=>rfl) (.inr ⟨rfl,_,e,size,.int 0,rfl,Tq K,C.1,Uy 0⟩);refine⟨_,_,hq,_,F1,hp1,Y.trans Z,aa,.slice none 0 0,by rw[K6 hn];rfl,?_⟩;exact .sl0 _ size (.int 0) _ .ge (t6 _ _ _) rfl d (fun e he=>by cases he);intro Q hq _;obtain⟨Y,T⟩:=w.drop b;have hx:=(M4 (s:=s4.set b none) C d hn T) Q hq T;obtain⟨a,s',q1,τ',F',hp',q2,q3,q4,q5⟩:=hx;exact⟨a,s',q1,τ',F',hp',Y.trans q2,q3,_,by rw[K6 hn,z8 G,TF,q4],q5⟩;refine Vy C3 fun Lo s4 R w g=>?_;obtain⟨C,K⟩:=D Lo g;by_cases G:n=0;subst G;intro Q hq _;obtain⟨Y,T⟩:=w.drop b;obtain⟨Z,aa⟩:=T.alloc (x:=(Src.rows (G4 Lo Ln)).blk e size) (p:=none) (hp':=hp1) (TK _) (fun _ _=>rfl) (.inr ⟨rfl,_,e,size,.int 0,rfl,Tq K,C.1,Uy 0⟩);refine⟨_,_,hq,_,F1,hp1,Y.trans Z,aa,.slice none 0 0,by rw[K6 hn];rfl,?_⟩;exact .sl0 _ size (.int 0) _ .un (t6 _ _ _) rfl d (fun e he=>by cases he);intro Q hq _;obtain⟨Y,T⟩:=w.drop b;have hx:=(M4 (s:=s4.set b none) C d hn T) (fun r=>Q (toUn r.1,r.2)) hq T;obtain⟨a,s',q1,τ',F',hp',q2,q3,q4,q5⟩:=hx;exact⟨toUn a,s',q1,τ',F',hp',Y.trans q2,q3,_,by rw[K6 hn,z8 G,TF,q4],PW q5⟩
     ·rename_i c0;have ad:=hc c0 rfl;refine Vy VL fun t s4 R w ht=>?_;rw[G9,d,ad]at ht;cases t with
      |true=>simp only[TI]at ht;simp only[TE];refine Vy C3 fun Lo s5 o5 J g=>?_;obtain⟨C,K⟩:=D Lo g;exact(M4 C d hn J).mono fun a τ' F' hp' _ _ ⟨w1,w2⟩=>⟨_,by rw[K6 hn,z8 (by omega),TF,w1],w2⟩
      |false=>
       simp only[Uj]at ht;simp only[TF];have G:n=0:=by omega
       subst G;refine Vy VF fun _ s5 o5 J p3=>?_;have ab:s5.get b=some (.rows L e size ph):=by rw[(R.trans o5).get];exact H
       have ac:(E.op .over [L,y4 off len,Ln]).toR U=[]:=by show(Sx.over (L.toR U) _ (Ln.toR U))=[];rw[k3,Tq z];simp[Sx.over]
       refine(OKh.change0 (x':= .rows (.op .over [L,y4 off len,Ln]) e size ph) ab k1 ⟨_,e,size,ph,rfl,ac,k4,k5⟩ J).bind fun _ τ2 F2 s6 hp2 _ ak ⟨w1,w2,w3⟩=>?_;subst w1;subst w3;exact VC ⟨.slice none 0 0,by rw[K6 hn];rfl,.sl0 b size off _ _ k1 h0 d (fun e he=>by cases he;exact ad)⟩
 exact VA
end
section
variable {P :Aw}{U:Ab}{τ:Tau}{F:Ac}{s:SS}{hp:Hp}
theorem PV.nil_or {e:Ax}{a:Aq}{l:Nat}{d:Dat}(h:PV P F (.sl e) (.slice a l l) d):(a=none/\l=0/\d= .lst [])\/ ∃i o,a=some ⟨i,o,none⟩:=by cases h<;>grind
theorem A8.of_PV {e i o l c:Nat}{rows:Rows}(h:PV P F (.sl e) (.slice (some ⟨i,o,none⟩) l c) (.lst rows))(g:∀i b,F i=some b->hp.m.get i=some b):∃b cs n z,hp.m.get i=some b/\A8 P F e z o n cs rows/\l=rows.length/\z=(kf P e).length/\((∃e',b= .cells cs n e' z)\/(∃e' A,b= .ro cs n e' A/\c<unk)):=by
 cases h with
 |sl _ _ _ _ b cs n z _ x hF hb hc hn hz hr hx hp'=>
  cases b with
  |cells w y e2 z2=>simp only[arr,rdC,Tk,Tm]at hb;obtain⟨rfl,rfl,rfl⟩:=hb;exact⟨_,w,y,z,g _ _ hF,⟨hn,hz,hr,fun r k row d h1 h2=>(by grind)⟩,rfl,hz,.inl ⟨_,by rw[hc.2.2 rfl]⟩⟩
  |ro w y e2 z2=>simp only[arr,rdC,Tk,Tm]at hb;obtain⟨rfl,rfl,rfl⟩:=hb;exact⟨_,w,y,z,g _ _ hF,⟨hn,hz,hr,fun r k row d h1 h2=>(by grind)⟩,rfl,hz,.inr ⟨_,_,rfl,hc.2.1 rfl⟩⟩
  |_=>simp[arr,rdC]at hb
def PI {e size n:Nat}(N:1<=size){a:SV}{v:Av}(D:VD P U τ F a v){src:Src}{news:Af}(d:p7 P U τ F e size src news)(g:news.length=n*size)(G:(src.cnt size).toI U=n)(hs:SD P U τ F s hp):OKh P U (sapp P U e size a src) τ F s hp (sO P U hp e size n news v):=by
 have K:∀src,p7 P U τ F e size src news->(src.cnt size).toI U=n->(∀l,src= .lit l->l≠ [])->OKh P U (b9 (l8 U (y8 (src.cnt size) (.int 67108865))) fun _=>bO e size src (src.cnt size)) τ F s hp (sO P U hp e size n news (.slice none 0 0)):=by
  intro src d G W;refine Vy VF fun _ s1 _ hs1 p1=>?_;have p1:=C7 p1;rw[G]at p1;simp only[B7]at p1;have hn:n<=67108864:=by omega
  cases src with
  |lit l=>
   have hl:l.length=n*size:=by rw[<-g];exact d.1
   have H:n≠0:=by intro h;rw[h,UU]at hl;exact W l rfl (Tq hl)
   exact(M4 d G hn hs1).mono fun c τ' F' hp' _ _ ⟨h1,h2⟩=>⟨_,by rw[K6 hn,z8 H,TF,h1],h2⟩
  |rows L=>refine(Ew d g G (nA N d g) hn hs1).mono fun c τ' F' hp' _ _ h=>?_;rcases h with⟨h0,h1,h2⟩| ⟨h0,h1,h2⟩;exact⟨_,by rw[K6 hn,t9 h0,TE,h1],h2⟩;exact⟨_,by rw[K6 hn,z8 h0,TF,h1],h2⟩
 unfold sapp;split
 ·
  cases D;split
  ·have hv:news=[]:=Tq d.1.symm;subst hv;have H:n=0:=by rcases Nat.eq_zero_or_pos n with h|h;exact h;have:=Nat.mul_le_mul h N;simp at g;omega
   subst H;exact VC ⟨.slice none 0 0,by rw[K6 (by omega)];rfl,.nils⟩
  rename_i W;exact K _ d G fun l hl h=>by subst h;exact W hl
 ·
  rename_i b z off len cap;cases hq:Nat.beq z size&&src.one with
  |false=>exact VA|true=>
   simp only[TE];simp only[Tl,Ub]at hq;obtain⟨rfl,J⟩:=hq;have B:=d.ones J;refine VB ?_;split
   ·rename_i l e' z' hb;split
    ·rename_i C r m;cases hq:Nat.beq e e'&&Nat.beq z z'&&decide (0<=C)&&decide (0<=r)&&Nat.ble ((C.toNat+r.toNat)*z) l.length&&Nat.ble (r.toNat+m.length/z) 67108864&&Nat.beq (m.length/z*z) m.length with
     |false=>exact VA|true=>
      simp only[TE];simp only[Tl,Ub,TI,Up]at hq;obtain⟨⟨⟨⟨⟨⟨rfl,rfl⟩,q1⟩,q2⟩,q3⟩,q4⟩,q5⟩:=hq;have V:m.length=n*z:=by rw[<-g];exact d.1
      have aq:m.length/z=n:=by rw[V];exact Nat.mul_div_cancel _ N
      rw[aq]at q4⊢;rw[TX]at q3;rcases hs.live b _ hb with⟨i,o,y,k1,k2,kF,cs,k,rfl,k4,k5⟩| ⟨k1,L',e',z',bb,k2,k3,k4,k5⟩
      ·cases D with
       |sl0 _ _ _ _ _ O h0 h1 hc=>rw[k1]at O;cases O
       |sl _ _ _ _ _ i' o' c O h0 h1 hc=>
        rw[k1]at O;simp only[Tk,Tm]at O;obtain⟨rfl,rfl⟩:=O;have e1:(E.int C).toN U=C.toNat:=rfl;have e2:(E.int r).toN U=r.toNat:=rfl;obtain⟨vs,v1,v2,v3⟩:=B3 (c:=cs) (R:=fun j x=>∀a,((l.drop (C.toNat*z)).take (r.toNat*z))[j]? =some a->VD P U τ F a x) (r.toNat*z) (o+C.toNat*z) 0 fun j hj=>by
         have ai:C.toNat*z+j<l.length:=by omega
         obtain⟨x,w1,w2⟩:=k5 (C.toNat*z+j) _ (Tx ai);refine⟨x,by rw[<-w1];congr 1;omega,fun a D=>?_⟩;rw[TT,TU,TJ hj,Ua]at D;rw[show l[C.toNat*z+j]? =some l[C.toNat*z+j] by simp[ai],Tk]at D;rw[<-D];exact w2
        have ah:((l.drop (C.toNat*z)).take (r.toNat*z)).length=r.toNat*z:=by simp;omega
        have ax:VDL P U τ F ((l.drop (C.toNat*z)).take (r.toNat*z)) vs:=⟨by rw[ah,v2],fun j a x D hx=>v3 j x hx a (by rw[TT];exact D)⟩
        have M:p7 P U τ F e z (.lit ((l.drop (C.toNat*z)).take (r.toNat*z)++m)) (vs++news):=ax.append d;have A:(E.int ((r.toNat+n:Nat):Int)).toI U=((r.toNat+n:Nat):Int):=rfl;have ae:o+C.toNat*z+r.toNat*z<=k:=by omega
        rw[e1,e2];split;obtain⟨lo,rfl,c1,c2⟩:=hc;exact Fu (fun _ h=>h) hb k1 k2 v1 ae B g c1 q4 M A hs;exact VA
        ·rename_i c0;obtain⟨c1,rfl,c3,c4⟩:=hc;have az:c0.toI U=((c0.toN U:Nat):Int):=by show c0.toI U=((c0.toI U).toNat:Int);omega
         have c4:r<=c0.toI U:=c4;refine Vy VL fun t s4 o4 av ht=>?_;rw[G9,A]at ht;cases t with
         |true=>simp only[TI]at ht;simp only[TE];exact HA k2 v1 ae B c3 (by omega) (by omega) q4 M A av|false=>
          simp only[Uj]at ht;simp only[TF];cases hr:Nat.ble ((C.toNat+r.toNat)*z+m.length) l.length with
          |false=>exact VA|true=>
           simp only[TE];have hr:=To hr;rw[TX,V]at hr;obtain⟨mm,m1,m2,m3⟩:=Lz (e0:=e) (q:=o+C.toNat*z) (c:=c0.toN U) k2 B g c3 (by omega) (show r.toNat+n<=c0.toN U by omega) q4 (by rw[TX];omega);have an:s4.get b=some (.cells l e z):=by rw[o4.get];exact hb
           refine(Vz (x':= .cells (U1 l ((C.toNat+r.toNat)*z) m) e z) (m:=mm) an k1 m2 m3 ⟨_,k,rfl,?_,fun j a D=>?_⟩ (by intro c _ _ c' e1 _ _ ay n1 hg;cases e1;rw[k2]at hg;cases hg;exact⟨_,rfl,fun j hj=>by rw[j8,TH (by omega)]⟩)).bind fun _ τ2 F2 s6 hp2 _ ba ⟨w1,w2,w3⟩=>?_;unfold U1;simp only[TO,TW,Un,TX];omega
           ·unfold U1 at D;rw[TX]at D;have et:(l.take (C.toNat*z+r.toNat*z)).length=C.toNat*z+r.toNat*z:=by simp;omega
            rw[j8];by_cases hj:C.toNat*z+r.toNat*z<=j/\j<C.toNat*z+r.toNat*z+news.length;rw[TJ (by omega)];rw[Tz,Tt (by omega),Tu (by rw[et,V,<-g];omega),et]at D;obtain⟨w,w1,w2⟩:=VDL.get d D;exact⟨w,by rw[<-w1];congr 1;omega,w2⟩;rw[TH (by omega)];by_cases ao:j<C.toNat*z+r.toNat*z;rw[Tz,Tu (by omega),TU,TJ ao]at D;exact k5 j a D;rw[Tz,Tt (by omega),et,Tt (by rw[V,<-g];omega),Ua]at D;refine k5 j a ?_;rw[<-D];congr 1;rw[V,<-g];omega
           subst w1;subst w2;refine VC ⟨.slice (some ⟨i,o+C.toNat*z,none⟩) (r.toNat+n) (c0.toN U),by rw[w3];exact m1,Wc k1 h0 (by rw[A];omega) ⟨c1,rfl,c3,by rw[A];omega⟩ rfl rfl⟩
      cases k2
    refine(hJ hs).bind fun _ τ1 F1 s1 hp1 ex hs1 ⟨e1,e2,e3⟩=>?_;subst e1;subst e2;subst e3;exact rF N D d g B hs1
   exact rF N D d g B hs;exact VA
 ·
  rename_i e' L;cases hq:Nat.beq e e'&&Nat.beq size (kf P e).length&&src.one with
  |false=>exact VA|true=>
   simp only[TE];simp only[Tl,Ub]at hq;obtain⟨⟨rfl,ap⟩,J⟩:=hq;have B:=d.ones J;have al:=D;cases D with
   |lst _ _ _ _ hv hc=>
    obtain⟨ad,l,rfl⟩:=hc rfl;refine Vy VL fun t s1 o1 hs1 ht=>?_;rw[E7,G]at ht;simp only[B7]at ht;have ac:(jV L).toR U=L.toR U:=by show((jV L).den U).rows=_;rw[nK];rfl
    have Z:=HG hv;have aj:=hv.nil_or;cases t with
    |true=>
     have H:n=0:=by have:=UM ht;omega
     subst H;have W:news=[]:=Tq (by rw[g];simp);subst W;simp only[TE];refine Vy VF fun _ s2 _ au p1=>VC ⟨.slice ad l l,?_,al⟩;have p1:=C7 p1;rw[j2]at p1;simp only[B7]at p1;rcases aj with⟨rfl,rfl,_⟩| ⟨i,o,rfl⟩;rw[K6 (by omega)];rfl;obtain⟨b,cs,k,z2,g1,g2,g3,g4,⟨e2,rfl⟩| ⟨e2,z3,rfl,g5⟩⟩:=A8.of_PV (hp:=hp) hv hs.frz;simp only[aY,g1];rw[show(Nat.ble (l+0) 67108864&&([]:Af).all Value.oneCell')=true by simp only[Tl,Up];exact⟨by omega,rfl⟩];simp only[TE,t9,Ts (TK l)];simp only[aY,g1];rw[show(Nat.ble (l+0) 67108864&&Nat.ble l l&& !Nat.ble unk l)=true by simp only[Tl,Up,bE g5,Bool.not_false,UG];exact⟨by omega,TK _⟩];simp only[TE,t9]
    |false=>
     have H:n≠0:=by have:=of_decide_eq_false ht;omega
     simp only[TF];refine(BN d hs1).bind fun Ln τ1 F1 s2 hp1 ex au ⟨e1,e2,Q⟩=>?_;subst e1;subst e2;have Q:=Q ap;have Y:=nA N Q g;refine Vy VF fun _ s3 o3 ab p1=>?_;have p1:=C7 p1;rw[j7,j2,j2,Y]at p1;simp only[B7]at p1;have aw:=hv.mono P ex.f;rcases aj with⟨rfl,rfl,hd⟩| ⟨i,o,rfl⟩
     ·have hL:L.toR U=[]:=by injection hd
      have T:(G4 (jV L) Ln).toR U=Ln.toR U:=by rw[N6,ac,hL];rfl
      obtain⟨q1,q2,q3,q4⟩:=Q;have X:p7 P U τ1 F1 e size (.rows (G4 (jV L) Ln)) news:=⟨q1,by rw[T];exact q2,by rw[T];exact q3,by rw[T];exact q4⟩
      refine(M4 X (n:=n) (by rw[j7,j2,j2,hL,Y];simp) (by omega) ab).mono fun c τ' F' hp' _ _ ⟨h1,h2⟩=>⟨_,by rw[K6 (by omega),z8 H,TF,h1],h2⟩
     ·obtain⟨b,cs,k,z2,g1,g2,g3,g4,ak⟩:=A8.of_PV (hp:=hp1) aw ab.frz;have ez:z2=size:=by omega
      subst ez;have aa:pQ (L.toR U) 0 (L.toR U).length=L.toR U:=by simp[pQ]
      obtain⟨vs,v1,v2,v3,v4⟩:=H4 (U:=U) (τ:=τ1) g2 (off:=0) (len:=(L.toR U).length) (Uy 0) (by omega) (by omega) (L:=jV L) (by rw[ac,aa]);have e0:(0:Int).toNat*z2=0:=by simp
      rw[e0,UA,Uc]at v1 v2;have M:p7 P U τ1 F1 e z2 (.rows (G4 (jV L) Ln)) (vs++news):=v3.app Q;have Z:l<unk:=Z.resolve_left (by simp);refine(M4 M (n:=(L.toR U).length+n) (by rw[j7,j2,j2,Y];omega) (by omega) ab).mono fun c τ' F' hp' _ _ ⟨h1,h2⟩=>⟨_,?_,h2⟩
      rw[<-g3]at v1 v2⊢;rcases ak with⟨e2,rfl⟩| ⟨e2,z3,rfl,g5⟩;simp only[aY,g1];rw[show(Nat.ble (l+n) 67108864&&news.all Value.oneCell')=true by simp only[Tl,Up];exact⟨by omega,B⟩];simp only[TE,z8 H,TF,bE Z,bE (show l<l+n by omega),Ts v2,v1,h1];simp only[aY,g1];rw[show(Nat.ble (l+n) 67108864&&Nat.ble l l&& !Nat.ble unk l)=true by simp only[Tl,Up,bE g5,Bool.not_false,UG];exact⟨by omega,TK _⟩];simp only[TE,z8 H,TF,bE (show l<l+n by omega),Ts v2,v1,h1]
 exact VA
end
section
variable (P :Aw)(U:Ab)
def oC (t:Ax)(r:Bb Az):M SV:=
 match P.underlying t,r with
 |some (.map kt vt),none=>b9 (cM (.map (.op .nil []) kt vt)) fun b=>i3 (.map b)
 |_,_=>a8 "makeMap"
def BE (t:Ax)(m k:SV)(ok:Bool):M SV:=
 have _:=P
 a8 "slookup"
def BG (t:Ax)(m k x:SV):M SV:=
 have _:=P
 a8 "smapSet"
def pY (t:Ax)(m k:SV):M SV:=
 have _:=P
 a8 "smapEntry"
def iE (m i x:SV):M SV:=
 have _:=P;have _:=U
 a8 "sentryStore"
end
section
variable {P :Aw}{U:Ab}{τ:Tau}{F:Ac}{s:SS}{hp:Hp}
theorem Et {t:Ax}(hs:SD P U τ F s hp):OKh P U (oC P t none) τ F s hp fun a τ' F' hp'=>(∃kt vt,P.underlying t=some (.map kt vt))/\hp'=(hp.add ⟨.map [] true,.map,rfl⟩).2/\VD P U τ' F' a (hp.add ⟨.map [] true,.map,rfl⟩).1:=by unfold oC;split;rename_i kt vt g _;refine(Vx (x:= .map (.op .nil []) kt vt) hs fun τ' _=>⟨rfl,[],true,rfl,rfl,rfl,fun j row e h=>by grind⟩).bind fun b τ' F' s' hp' _ d ⟨h1,h2,h3⟩=>VC ?_;subst h3;exact⟨⟨kt,vt,g⟩,rfl,.map b hp.nx 0 h2⟩;exact VA
variable {es:List (Av×Av)}
def mO.nil {kt vt:Ax}(h:mO P F kt vt es []):es=[]:=Tq h.1
variable (P F) in
def Qg (kt vt:Ax)(e:Av×Av)(r:Ar):Prop:=∃sh ks d,FQ P kt=some sh/\kfit sh.2 ks=true/\r=ks.map KV.dat++ [d]/\e.1=keyV sh ks/\PV P F (kd1 P vt) e.2 d
def mO.cons {kt vt:Ax}{es:List (Av×Av)}{r:Ar}{rows:Rows}(h:mO P F kt vt es (r::rows)):∃e b,es=e::b/\Qg P F kt vt e r/\mO P F kt vt b rows:=by
 cases es with
 |nil=>exact absurd h.1 (by simp)|cons e es=>exact⟨e,es,rfl,h.2 0 r e rfl rfl,by have:=h.1;simpa using this,fun j row e' hr he=>h.2 (j+1) row e' hr he⟩
def mO.mk {kt vt:Ax}{e:Av×Av}{r:Ar}{rows:Rows}(h:Qg P F kt vt e r)(h':mO P F kt vt es rows):mO P F kt vt (e::es) (r::rows):=by
 refine⟨by simp[h'.1],fun j row e' hr he=>?_⟩;cases j with
 |zero=>cases hr;cases he;exact h
 |succ j=>exact h'.2 j row e' hr he
variable {k m:SV}
def GP {t:Ax}{mv kv:Av}{ok:Bool}(hm:VD P U τ F m mv)(hk:VD P U τ F k kv)(hs:SD P U τ F s hp):OKh P U (BE P t m k ok) τ F s hp fun a τ' F' hp'=>hp'=hp/\ ∃v,U6 P hp t mv kv ok=some v/\VD P U τ' F' a v:=by unfold BE;exact VA
variable {xv:Av}
def GR {t:Ax}{x:SV}{mv kv:Av}(hm:VD P U τ F m mv)(hk:VD P U τ F k kv)(hx:VD P U τ F x xv)(hs:SD P U τ F s hp):OKh P U (BG P t m k x) τ F s hp fun a _ _ hp'=>a= .tup []/\jP P hp t mv kv xv=some hp':=by unfold BG;exact VA
def BF {t:Ax}{mv kv:Av}(hm:VD P U τ F m mv)(hk:VD P U τ F k kv)(hs:SD P U τ F s hp):OKh P U (pY P t m k) τ F s hp fun a τ' F' hp'=>∃v,dT P hp t mv kv=some (v,hp')/\VD P U τ' F' a v:=by unfold pY;exact VA
def vI {x:SV}{mv kv:Av}(hm:VD P U τ F m mv)(hk:VD P U τ F k kv)(hx:VD P U τ F x xv)(hs:SD P U τ F s hp):OKh P U (iE P U m k x) τ F s hp fun a _ _ hp'=>a= .tup []/\X9 hp mv kv xv=some hp':=by unfold iE;exact VA
end
structure J2 where
 run:Ay->As->M SV
 round:Ah->As->Ay->Nat->Ah->Code->Code->As->M SV
def GS (P:Aw)(t:Ax)(x:SV):M SV:=match P.underlying t,x with
 |some .string,.str e=>b9 (cM (.iter e (.int 0))) fun b=>i3 (.ptr b 1 (.int 0) 0)
 |_,_=>a8 "range"
def NQ (U:Ab)(isS:Bool)(it:SV):M SV:=match isS,it with
 | true, .ptr b _ (.int m) f => bif decide (m = 0) && Nat.beq f 0 then p9 fun s => match s.get b with
   | some (.iter str pos) => b9 (hK U (y8 pos (cE str))) fun t =>
     bif t then b9 (jW b (some (.iter str (y4 pos (.op .srw [str,pos]))))) fun _=>i3 (.tup [.bool (.bool true),.int .i64 pos,.int .i32 (.op .srune [str,pos])])
     else i3 (.tup [.bool (.bool false)])
   |_=>a8 "next: no iterator"
  else a8 "next"
 |_,_=>a8 "next"
def KD (f:Fm):Bb Az->Bb (Bb SV)
 |none=>some none|some x=>match u6 f x with
  |some v=>some (some v)|none=>none
def Gc (s i:E):E:=match s,i with
 | .str l,.int n=>match l[n.toNat]? with
  |some b=>.int b.toNat|none=>.op .sidx [s,i]
 |s,i=>.op .sidx [s,i]
section
variable (P :Aw)(U:Ab)
def GN (t:Ax)(x i:SV):M SV:=
 match i with
 | .int _ n=>match P.underlying t with
  |some .string=>match x with
   | .str s=>b9 (l8 U (y5 (y8 n (.int 0)))) fun _=>b9 (l8 U (y8 n (cE s))) fun _=>i3 (.int .u8 (Gc s n))
   |_=>a8 "index: string"
  |some (.array len e)=>match x,n with
   | .agg cs, .int m => bif decide (0 ≤ m) && decide (m < len) then
     match P.info? e with
     |some ie=>hH "index" (zK P e cs (m.toNat*ie.size))|none=>a8 "index: type"
    else a8 "index: beyond"
   |_,_=>a8 "index: array"
  |_=>a8 "index: type"
 |_=>a8 "index: no int"
def zI (x:SV):M SV:=
 match x with
 | .ptr b z row fld=>i3 (.ptr b z row fld)| .pptr t L row fld=>i3 (.pptr t L row fld)| .rp row fld=>i3 (.rp row fld)| .rpq e=>b9 (l8 U (y5 (y8 e (.int 0)))) fun _=>i3 (.rp e 0)
 | .fn (.func f) a b=>i3 (.fn (.func f) a b)|_=>a8 "nil"
def Ei (b:Builtin)(ats:List Ax)(args:As):M SV:=
 match b,ats,args with
 | .append,[t,u],[s,x]=>Iz P U t u s x| .len,[t],[x]=>slen P t x| .cap,[t],[x]=>scap P t x| .min,_,x::xs=>KA U false x xs| .max,_,x::xs=>KA U true x xs|_,_,_=>a8 "builtin"
def ID (call:J2)(f:SV)(args:As):M SV:=
 match f with
 | .fn (.func g) first captured=>match P.funcs[g]? with
  |some fn=>bif gA fn then call.run g (first++args++captured)else a8 "call: no body"|none=>a8 "call: no function"
 | .yld ks vs g nt ps as bo=>call.round ks vs g nt ps as bo args|_=>a8 "call: value"
def sop (call:J2)(f:Fm)(o:Op):M SV:=
 match o with
 | .move x=>hH "move" (u6 f x)| .assign x=>hH "assign" (u6 f x)| .pick c a b=>match u6 f c with
  |some (.bool e)=>b9 (hK U e) fun t=>bif t then hH "pick" (u6 f a)else hH "pick" (u6 f b)
  |_=>a8 "pick"
 | .alloc e=>match rJ P e with
  |some l=>bif Nat.beq e rgT then IM P U l else sbox e l|none=>a8 "alloc"
 | .box e x=>match u6 f x with
  |some v=>match C6 v with
   |some l=>bif Nat.beq e rgT then IM P U l else sbox e l|none=>a8 "box"
  |none=>a8 "box"
 | .build t parts=>match iH f parts.toList with
  |some ps=>hH "build" (GG P t ps)|none=>a8 "build"
 | .buildSlice t len parts=>match iH f parts.toList with
  |some ps=>iC P t len ps|none=>a8 "buildSlice"
 | .load t a=>match u6 f a with
  |some v=>IL P U t v|none=>a8 "load"
 | .store t a x=>match u6 f a with
  |some v=>match u6 f x with
   |some u=>GX P U t v u|none=>a8 "store"
  |none=>a8 "store"
 | .nilCheck x=>match u6 f x with
  |some v=>zI U v|none=>a8 "nil"
 | .binOp op t x y _=>match u6 f x with
  |some v=>match u6 f y with
   |some u=>Ny P U op t v u|none=>a8 "binOp"
  |none=>a8 "binOp"
 | .unOp op _ x=>match u6 f x with
  |some v=>sun U op v|none=>a8 "unOp"
 | .convert s d x=>match u6 f x with
  |some v=>NC P U s d v|none=>a8 "convert"
 | .makeInterface t x=>match u6 f x with
  |some v=>hH "interface" (GM P t v)|none=>a8 "interface"
 | .makeFunc fn first captured=>match Em f first.toList with
  |some fs=>match Em f captured.toList with
   |some cs=>i3 (.fn fn fs cs)|none=>a8 "makeFunc"
  |none=>a8 "makeFunc"
 | .makeSlice t l c=>match u6 f l with
  |some v=>match u6 f c with
   |some u=>lZ P U t v u|none=>a8 "makeSlice"
  |none=>a8 "makeSlice"
 | .slice t x lo hi mx=>match u6 f x with
  |some v=>match KD f lo with
   |some l=>match KD f hi with
    |some h=>match KD f mx with
     |some m=>GW P U t v l h m|none=>a8 "slice"
    |none=>a8 "slice"
   |none=>a8 "slice"
  |none=>a8 "slice"
 | .fieldAddr t x i=>match u6 f x with
  |some v=>hH "fieldAddr" (lX P t v i)|none=>a8 "fieldAddr"
 | .field t x i=>match u6 f x with
  |some v=>hH "field" (GL P t v i)|none=>a8 "field"
 | .indexAddr t x i=>match u6 f x with
  |some v=>match u6 f i with
   |some u=>lY P U t v u|none=>a8 "indexAddr"
  |none=>a8 "indexAddr"
 | .index t x i=>match u6 f x with
  |some v=>match u6 f i with
   |some u=>GN P U t v u|none=>a8 "index"
  |none=>a8 "index"
 | .extract x i=>match u6 f x with
  |some v=>hH "extract" (vK v i)|none=>a8 "extract"
 | .range t x=>match u6 f x with
  |some v=>GS P t v|none=>a8 "range"
 | .makeMap t r=>oC P t r| .lookup t x k ok=>match u6 f x with
  |some v=>match u6 f k with
   |some u=>BE P t v u ok|none=>a8 "lookup"
  |none=>a8 "lookup"
 | .mapEntry t m k=>match u6 f m with
  |some v=>match u6 f k with
   |some u=>pY P t v u|none=>a8 "entry"
  |none=>a8 "entry"
 | .entryStore _ m k x=>match u6 f m with
  |some v=>match u6 f k with
   |some u=>match u6 f x with
    |some y=>iE P U v u y|none=>a8 "entry"
   |none=>a8 "entry"
  |none=>a8 "entry"
 | .mapUpdate t m k x=>match u6 f m with
  |some v=>match u6 f k with
   |some u=>match u6 f x with
    |some y=>BG P t v u y|none=>a8 "map"
   |none=>a8 "map"
  |none=>a8 "map"
 | .next it isS=>match u6 f it with
  |some v=>NQ U isS v|none=>a8 "next"
 | .call c=>match Em f c.args.toList with
  |some args=>match c.callee with
   | .builtin b=>Ei P U b c.argTypes.toList args| .value g=>match u6 f g with
    |some v=>ID P call v args|none=>a8 "call"
   |_=>a8 "call: method"
  |none=>a8 "call: operands"
 |_=>a8 "operation"
end
section
variable {P :Aw}{U:Ab}{τ:Tau}{F:Ac}{s:SS}{hp:Hp}{ov:Aa}
def EV (p:Nat->Prop):Prop:=∃n0,∀n,n0<=n->p n
variable {p:Nat->Prop}
def EV.of (h:∀n,p n):EV p:=⟨0,fun n _=>h n⟩
def Vr:type_of% @EV.of:=@EV.of
variable {q:Nat->Prop}
theorem EV.and (h:EV p)(k:EV q):EV fun n=>p n/\q n:=by obtain⟨a,d⟩:=h;obtain⟨b,hb⟩:=k;exact⟨Nat.max a b,fun n hn=>(by grind)⟩
def EV.mono (h:EV p)(k:∀n,p n->q n):EV q:=by obtain⟨a,b⟩:=h;exact⟨a,fun n hn=>k n (b n hn)⟩
variable (P ov) in
def XOp (o:Op)(tm:Ao)(hp:Hp)(v:Av)(hp':Hp):Prop:=EV fun n=>xop P (D8 P ov n) tm hp o=some (v,hp')
variable (P ov) in
def Y0 (g:Ay)(args:Af)(hp:Hp)(v:Av)(hp':Hp):Prop:=EV fun n=>(D8 P ov n).run g args hp=some (v,hp')
variable (P U ov) in
structure E6 (call:J2):Prop where
 run:∀g l args τ F s hp,VDL P U τ F l args->SD P U τ F s hp->OKh P U (call.run g l) τ F s hp fun a τ' F' hp'=>∃v,Y0 P ov g args hp v hp'/\VD P U τ' F' a v
 round:∀ks vs g nt ps as bo l args τ F s hp i,VD P U τ F (.yld ks vs g nt ps as bo) (.chan (some i))->VDL P U τ F l args->SD P U τ F s hp->
  OKh P U (call.round ks vs g nt ps as bo l) τ F s hp fun a τ' F' hp'=>∃v,(EV fun n=>(D8 P ov n).round i args hp=some (v,hp'))/\VD P U τ' F' a v
variable {tm:Ao}
theorem BL {f:Fm}(h:TD P U τ F f tm){o:Bb Az}{a:Bb SV}(e:KD f o=some a):∃v,jZ tm o=some v/\OVD P U τ F a v:=by
 cases o with
 |none=>simp only[KD,Tk]at e;subst e;exact⟨none,rfl,trivial⟩|some o=>
  simp only[KD]at e;cases b:u6 f o with
  |none=>grind|some a'=>simp only[b,Tk]at e;subst e;obtain⟨v,h1,h2⟩:=I6 h b;exact⟨some v,by simp[jZ,h1],h2⟩
theorem Gd {a i:E}(h0:0<=i.toI U)(h1:i.toI U<(a.den U).toStr.length):(Gc a i).toI U=(((a.den U).toStr[(i.toI U).toNat]'(by omega)).toNat:Int):=by
 have d:(E.op .sidx [a,i]).toI U=(((a.den U).toStr[(i.toI U).toNat]'(by omega)).toNat:Int):=by show((((a.den U).toStr.getD (i.toI U).toNat 0).toNat:Nat):Int)=_;grind
 unfold Gc;split;rename_i l n;split;rename_i b hb;have:l[(E.toI U (.int n)).toNat]? =some b:=hb;rw[Tx (by have:(E.toI U (.int n))<l.length:=h1;omega),Tk]at this;rw[<-this];rfl;grind;grind
theorem Kx {t:Ax}{a b:SV}{v u:Av}(g:VD P U τ F a v)(hb:VD P U τ F b u):OKp U (GN P U t a b) s fun c=>∃w,iP P t v u=some w/\VD P U τ F c w:=by
 unfold GN;split
 ·rename_i k n;cases hb;split;rename_i ht;split;rename_i e;cases g;refine OKp.need.bind fun _ _ _ _ h1=>OKp.need.bind fun _ _ _ _ h2=>VJ ?_;have h1:=Z5 h1;have h2:=C7 h2;rw[Q6]at h2;refine⟨.int .u8 (((e.den U).toStr[(n.toI U).toNat]).toNat:Int),?_,Wb (Gd h1 h2)⟩;simp only[iP,ht];grind;exact VE
  ·rename_i len e ht;split
   ·rename_i cs m;cases hq:decide (0<=m)&&decide (m<(len:Int))with
    |false=>exact VE|true=>split;rename_i ie d;obtain⟨xs,rfl,hx⟩:=Wf g;refine VH fun c hc=>?_;obtain⟨w,h1,h2⟩:=oD hx hc;refine⟨w,?_,h2⟩;simp only[iP,ht];rwa[show(decide (0<=(E.int m).toI U)&&decide ((E.int m).toI U<(len:Int)))=true from hq,TE,d];exact VE
   exact VE
  exact VE
 exact VE
def OKp.op {m:M SV}{o:Op}{x:Ag}(hx:∀n,xop P (D8 P ov n) tm hp o=i7 hp x)(h:OKp U m s fun a=>∃v,x=some v/\VD P U τ F a v):OKh P U m τ F s hp fun a τ' F' hp'=>∃v,XOp P ov o tm hp v hp'/\VD P U τ' F' a v:=
 (h.up).mono fun a τ' F' hp' _ _ ⟨e1,e2,e3,v,h1,h2⟩=>by subst e1;subst e2;subst e3;exact⟨v,Vr fun n=>by rw[hx,h1];rfl,h2⟩
def VG:type_of% @OKp.op:=@OKp.op
variable {x:Av}
def KE {t:Ax}{v:SV}(hv:VD P U τ F v x)(hs:SD P U τ F s hp):OKh P U (GS P t v) τ F s hp fun a τ' F' hp'=>∃n,oP P t x=some n/\hp'=(hp.add n).2/\VD P U τ' F' a (hp.add n).1:=by unfold GS;split;rename_i e g;cases hv;refine(Vx (x:= .iter e (.int 0)) hs fun τ' _=>⟨rfl,0,rfl,rfl⟩).bind fun b τ' F' s' hp' _ d ⟨h1,h2,h3⟩=>VC ?_;subst h3;exact⟨⟨.sit ⟨(e.den U).toStr.toArray⟩ 0,.ptr,rfl⟩,by simp only[oP,g],rfl,VD.ptr' h2 (by show(0:Int)<=0;omega) rfl⟩;exact VA
def NR {isS:Bool}{v:SV}(hv:VD P U τ F v x)(_hs:SD P U τ F s hp):OKh P U (NQ U isS v) τ F s hp fun a τ' F' hp'=>∃u,wO hp x isS=some (u,hp')/\VD P U τ' F' a u:=by
 unfold NQ;split
 ·rename_i b z m f;cases hc:decide (m=0)&&Nat.beq f 0 with
  |false=>exact VA|true=>
   simp only [Tl, TI, Ub] at hc;obtain ⟨rfl,rfl⟩:=hc;rw [TE];refine VB ?_;split
   ·rename_i str pos hb;refine Vy VL fun t s1 A hs1 ht=>?_;have g:s1.get b=some (.iter str pos):=by rw[A.get];exact hb
    rcases hs1.live b _ g with⟨i,o,y,k1,k2,k3,rfl,n,rfl,k4⟩| ⟨_,L,e,D,ph,h,_⟩
    ·cases hv with
     |ptr _ _ _ _ C o' h h0=>
      rw[k1]at h;obtain⟨rfl,rfl⟩:=h;have d:0+(E.int 0).toN U*z+0=0:=by show 0+(0:Int).toNat*z+0=0;simp
      rw[d];rw[G9,Q6,k4]at ht;have hx:wO hp (.pointer (some ⟨i,0,none⟩)) true=bif Nat.blt n (str.den U).toStr.length then
        some (.tuple #[.bool true,.int .i64 n,.int .i32 (Utf8.decode ⟨(str.den U).toStr.toArray⟩ n).1],{hp with m:=hp.m.set i (some (.sit ⟨(str.den U).toStr.toArray⟩ (n+(Utf8.decode ⟨(str.den U).toStr.toArray⟩ n).2)))})
        else some (.tuple #[.bool false],hp):=by
       simp only[wO,k2]
      have hn:pos.toI U=(n:Int):=k4;cases t with
      |true=>
       rw[TI]at ht;have hlt:Nat.blt n (str.den U).toStr.length=true:=Ts (by omega);rw[hlt,TE]at hx;have w:runeW (str.den U).toStr (pos.toI U)=((Utf8.decode ⟨(str.den U).toStr.toArray⟩ n).2:Nat):=by rw[hn];simp[runeW]
       have r:runeAt (str.den U).toStr (pos.toI U)=(Utf8.decode ⟨(str.den U).toStr.toArray⟩ n).1:=by rw[hn];simp[runeAt]
       refine OKh.bind (R:=fun _ τ' F' hp'=>τ'=τ/\F'=F/\hp'= {hp with m:=hp.m.set i (some (.sit ⟨(str.den U).toStr.toArray⟩ (n+(Utf8.decode ⟨(str.den U).toStr.toArray⟩ n).2)))}) ?_ fun _ τ2 B s2 hp2 _ _ ⟨e1,e2,e3⟩=>VC ⟨.tuple #[.bool true,.int .i64 n,.int .i32 (Utf8.decode ⟨(str.den U).toStr.toArray⟩ n).1],?_,?_⟩
       ·intro Q hq _;obtain⟨h1,h2⟩:=hs1.change (x':= .iter str (y4 pos (.op .srw [str,pos]))) g k1 (y:= .sit ⟨(str.den U).toStr.toArray⟩ (n+(Utf8.decode ⟨(str.den U).toStr.toArray⟩ n).2))
         (hp':= {hp with m:=hp.m.set i (some (.sit ⟨(str.den U).toStr.toArray⟩ (n+(Utf8.decode ⟨(str.den U).toStr.toArray⟩ n).2)))}) rfl (fun j hj=>by simp[VX,hj]) (by simp[VX])
         ⟨rfl,_,rfl,by rw[j7,hn];show(n:Int)+runeW (str.den U).toStr (pos.toI U)=_;rw[w];omega⟩
        exact⟨(),_,hq,τ,F,_,h1,h2,rfl,rfl,rfl⟩
       rw[hx,e3]
       ·refine .tup _ [.bool true,.int .i64 n,.int .i32 (Utf8.decode ⟨(str.den U).toStr.toArray⟩ n).1] rfl fun j a v d hv=>?_
        match j,d,hv with
        |0,d,hv=>simp at d hv;subst d;subst hv;exact .bool (.bool true)|1,d,hv=>simp at d hv;subst d;subst hv;exact Wb hn|2,d,hv=>simp at d hv;subst d;subst hv;exact Wb r|j+3,d,hv=>simp at d
      |false=>
       rw[Uj]at ht;have hlt:Nat.blt n (str.den U).toStr.length=false:=by
        cases hb:Nat.blt n (str.den U).toStr.length with
        |false=>rfl|true=>exact absurd (by have:=To hb;omega) ht
       rw[hlt,TF]at hx;refine VC ⟨_,hx,.tup _ [.bool false] rfl fun j a v d hv=>?_⟩
       match j,d,hv with
       |0,d,hv=>simp at d hv;subst d;subst hv;exact .bool (.bool false)|j+1,d,hv=>simp at d
    cases h
   exact VA
 exact VA
theorem BK {call:J2}(D:E6 P U ov call){f:Fm}(ht:TD P U τ F f tm)(hs:SD P U τ F s hp)(o:Op):OKh P U (sop P U call f o) τ F s hp fun a τ' F' hp'=>∃v,XOp P ov o tm hp v hp'/\VD P U τ' F' a v:=by
 have d:=fun{x:Az} {a:SV} (e:u6 f x=some a)=>I6 (P:=P) (U:=U) ht e;cases o with
 |move x=>exact VG (x:=c9 tm x) (fun n=>by rw[c8];rfl) (VH fun a h=>d h)|assign x=>exact VG (x:=c9 tm x) (fun n=>by rw[c8];rfl) (VH fun a h=>d h)|pick c a b=>
  simp only[sop];split
  ·rename_i e he;obtain⟨v,h1,h2⟩:=d he;cases h2;refine VG (x:=bif (e.den U).toBool then c9 tm a else c9 tm b) (fun n=>by rw[c8];simp only[j5,h1];cases(e.den U).toBool<;>rfl) ?_;refine OKp.test.bind fun t _ _ _ h=>?_;rw[h];cases t with
   |true=>exact VH fun a h=>d h
   |false=>exact VH fun a h=>d h
  exact VA
 |alloc e=>
  simp only[sop];split
  ·rename_i l hl;obtain⟨z,h1,h2⟩:=dQ (U:=U) (τ:=τ) (F:=F) hl;cases hb:Nat.beq e rgT with
   |true=>
    rw[TE];refine(Ev h2 hs).mono fun a τ' F' hp' _ _ ⟨v,e1,e2⟩=>⟨v,Vr fun n=>?_,e2⟩
    rw[c8];simp only[j5,hX,hb,TE,h1,e1]
   |false=>
   rw[TF];refine(IA h2 hs).mono fun a τ' F' hp' _ _ ⟨e1,e2⟩=>⟨_,Vr fun n=>?_,e2⟩
   rw[c8];simp only[j5,hX,hb,TF,xnw,bR,h1,L8];grind
  exact VA
 |box e x=>
  simp only[sop];split
  ·rename_i v hv;split
   ·rename_i l hl;obtain⟨w,h1,h2⟩:=d hv;cases hb:Nat.beq e rgT with
    |true=>
     rw[TE];refine(Ev (dL h2 hl) hs).mono fun a τ' F' hp' _ _ ⟨v,e1,e2⟩=>⟨v,Vr fun n=>?_,e2⟩
     rw[c8];simp only[j5,JW,hb,TE,h1,e1]
    |false=>
    rw[TF];refine(IA (dL h2 hl) hs).mono fun a τ' F' hp' _ _ ⟨e1,e2⟩=>⟨_,Vr fun n=>?_,e2⟩
    rw[c8];simp only[j5,JW,hb,TF,xnw,h1,L8,zU];grind
   exact VA
  exact VA
 |build t N=>simp only[sop];split;rename_i ps M;obtain⟨qs,h1,h2⟩:=jI ht M;exact VG (x:=mF P t qs) (fun n=>by rw[c8];simp only[j5,h1]) (VH fun a h=>Kr h2 h);exact VA
 |buildSlice t len N=>
  simp only[sop];split
  ·rename_i ps M;obtain⟨qs,h1,h2⟩:=jI ht M;refine(vF h2 hs).mono fun a τ' F' hp' _ _ ⟨n,e1,e2,e3⟩=>⟨_,Vr fun m=>?_,e3⟩
   rw[c8];simp only[j5,xnw,h1,e1,L8,e2]
  exact VA
 |makeMap t r=>
  simp only[sop];cases r with
  |some r=>unfold oC;split;grind;exact VA|none=>
   refine(Et (t:=t) hs).mono fun a τ' F' hp' _ _ ⟨⟨kt,vt,e0⟩,e1,e2⟩=>⟨_,Vr fun m=>?_,e2⟩
   rw[c8,e1];simp only[j5,xnw,jZ,Jd,L8,e0]
 |lookup t x k ok=>
  simp only[sop];split
  ·rename_i v hv;split
   ·rename_i u J;obtain⟨w,h1,h2⟩:=d hv;obtain⟨y,h3,h4⟩:=d J;refine(GP h2 h4 hs).mono fun c τ' F' hp' _ _ ⟨e1,r,e2,e3⟩=>⟨r,Vr fun n=>?_,e3⟩
    rw[c8,e1];simp only[j5,h1,h3,e2,i7]
   exact VA
  exact VA
 |mapEntry t m k=>
  simp only[sop];split
  ·rename_i v hv;split
   ·rename_i u J;obtain⟨w,h1,h2⟩:=d hv;obtain⟨w',h3,h4⟩:=d J;refine(BF h2 h4 hs).mono fun c τ' F' hp' _ _ ⟨x,e1,e2⟩=>⟨x,Vr fun n=>?_,e2⟩
    rw[c8];simp only[j5,h1,h3,e1]
   exact VA
  exact VA
 |entryStore t m k x=>
  simp only[sop];split
  ·rename_i v hv;split
   ·rename_i u J;split
    ·rename_i y hy;obtain⟨w,h1,h2⟩:=d hv;obtain⟨w',h3,h4⟩:=d J;obtain⟨Z,h5,O⟩:=d hy;refine(vI h2 h4 O hs).mono fun c τ' F' hp' _ _ ⟨e1,e2⟩=>⟨undef,Vr fun n=>?_,?_⟩
     rw[c8];simp only[j5,h1,h3,h5,e2];subst e1;exact .tup [] [] rfl (fun i a x h _=>by simp at h)
    exact VA
   exact VA
  exact VA
 |mapUpdate t m k x=>
  simp only[sop];split
  ·rename_i v hv;split
   ·rename_i u J;split
    ·rename_i y hy;obtain⟨w,h1,h2⟩:=d hv;obtain⟨w',h3,h4⟩:=d J;obtain⟨Z,h5,O⟩:=d hy;refine(GR h2 h4 O hs).mono fun c τ' F' hp' _ _ ⟨e1,e2⟩=>⟨undef,Vr fun n=>?_,?_⟩
     rw[c8];simp only[j5,h1,h3,h5,e2];subst e1;exact .tup [] [] rfl (fun i a x h _=>by simp at h)
    exact VA
   exact VA
  exact VA
 |load t a=>simp only[sop];split;rename_i v hv;obtain⟨w,h1,h2⟩:=d hv;exact VG (x:=F8 P hp t w) (fun n=>by rw[c8];simp only[j5,h1]) (Es h2 hs);exact VA
 |store t a x=>
  simp only[sop];split
  ·rename_i v hv;split
   ·rename_i u J;obtain⟨w,h1,h2⟩:=d hv;obtain⟨y,h3,h4⟩:=d J;refine(KH h2 h4 hs).mono fun c τ' F' hp' _ _ ⟨e1,e2⟩=>⟨undef,Vr fun n=>?_,?_⟩
    rw[c8];simp only[j5,h1,h3,e2];subst e1;exact .tup [] [] rfl (fun i a x h _=>by simp at h)
   exact VA
  exact VA
 |nilCheck x=>
  simp only[sop];split
  ·rename_i v hv;obtain⟨w,h1,h2⟩:=d hv;unfold zI;split
   ·rename_i b z row fld;cases h2 with
    |ptr _ _ _ _ i o h h0=>exact VG (x:=some (.pointer (some ⟨i,o+row.toN U*z+fld,none⟩))) (fun n=>by rw[c8];simp only[j5,h1];rfl) (VJ ⟨_,rfl,.ptr b z row fld i o h h0⟩)
   ·rename_i t L row fld;cases h2 with
    |pptr _ _ _ _ i o l c h h0 h3=>exact VG (x:=some (.pointer (some ⟨i,o+row.toN U*(kf P t).length+fld,none⟩))) (fun n=>by rw[c8];simp only[j5,h1];rfl) (VJ ⟨_,rfl,.pptr t L row fld i o l c h h0 h3⟩)
   ·rename_i row fld;cases h2 with
    |rp _ _ h0=>exact VG (x:=some (.pointer (some ⟨row.toN U,fld,some 1⟩))) (fun n=>by rw[c8];simp only[j5,h1];rfl) (VJ ⟨_,rfl,.rp row fld h0⟩)
   ·rename_i e;cases h2 with
    |rpq _ _ hq=>
     have hx:0<=e.toI U->w= .pointer (some ⟨e.toN U,0,some 1⟩):=fun h0=>by
      generalize hm:e.toI U=m at hq h0;cases hq with
      |rp k=>grind|rpn=>omega
     refine Vy VF fun _ s2 o2 aa p1=>?_;have p1:=A4 p1;have K:=hx p1;subst K;exact VG (x:=some (.pointer (some ⟨e.toN U,0,some 1⟩))) (fun n=>by rw[c8];simp only[j5,h1];rfl) (VJ ⟨_,rfl,.rp e 0 p1⟩)
   ·rename_i g l m;cases h2 with
    |fn _ _ _ xs ys k1 k2 k3 k4=>exact VG (x:=some (.func (.func g) xs.toArray ys.toArray)) (fun n=>by rw[c8];simp only[j5,h1];rfl) (VJ ⟨_,rfl,.fn _ l m xs ys k1 k2 k3 k4⟩)
   exact VA
  exact VA
 |binOp op t x y u=>simp only[sop];split;rename_i v hv;split;rename_i w K;obtain⟨a,h1,h2⟩:=d hv;obtain⟨b,h3,h4⟩:=d K;exact VG (x:=K9 P op t a b) (fun n=>by rw[c8];simp only[j5,h1,h3]) (Nz h2 h4);exact VA;exact VA
 |unOp op t x=>simp only[sop];split;rename_i v hv;obtain⟨a,h1,h2⟩:=d hv;exact VG (x:=xun op a) (fun n=>by rw[c8];simp only[j5,h1]) (SM h2);exact VA
 |convert src dst x=>simp only[sop];split;rename_i v hv;obtain⟨a,h1,h2⟩:=d hv;exact VG (x:=iM P src dst a) (fun n=>by rw[c8];simp only[j5,h1]) (ND h2);exact VA
 |makeInterface t x=>simp only[sop];split;rename_i v hv;obtain⟨a,h1,h2⟩:=d hv;exact VG (x:=mH P t a) (fun n=>by rw[c8];simp only[j5,h1]) (VH fun c h=>Kw h2 h);exact VA
 |makeFunc fn first A=>simp only[sop];split;rename_i fs W;split;rename_i cs R;obtain⟨xs,h1,h2⟩:=sI ht W;obtain⟨ys,h3,h4⟩:=sI ht R;exact VG (x:=some (.func fn xs.toArray ys.toArray)) (fun n=>by rw[c8];simp only[j5,h1,h3];rfl) (VJ ⟨_,rfl,.fn fn fs cs xs ys h2.1 h2.2 h4.1 h4.2⟩);exact VA;exact VA
 |makeSlice t l c=>
  simp only[sop];split
  ·rename_i v hv;split
   ·rename_i w K;obtain⟨a,h1,h2⟩:=d hv;obtain⟨b,h3,h4⟩:=d K;refine(xB h2 h4 hs).mono fun c τ' F' hp' _ _ ⟨n,e1,e2,e3⟩=>⟨_,Vr fun m=>?_,e3⟩
    rw[c8];simp only[j5,xnw,h1,h3,e1,L8,e2]
   exact VA
  exact VA
 |slice t x lo hi mx=>
  simp only[sop];split
  ·rename_i v hv;split
   ·rename_i l hl;split
    ·rename_i h hh;split
     ·rename_i m hm;obtain⟨a,h1,h2⟩:=d hv;obtain⟨l',h3,h4⟩:=BL ht hl;obtain⟨h',h5,O⟩:=BL ht hh;obtain⟨m',h7,h8⟩:=BL ht hm;refine(KG h2 h4 O h8 hs).mono fun c τ' F' hp' _ _ ⟨e1,w,e2,e3⟩=>⟨w,Vr fun n=>?_,e3⟩
      rw[c8,e1];simp only[j5,h1,h3,h5,h7,e2]
     exact VA
    exact VA
   exact VA
  exact VA
 |fieldAddr t x i=>simp only[sop];split;rename_i v hv;obtain⟨a,h1,h2⟩:=d hv;exact VG (x:=M6 P t a i) (fun n=>by rw[c8];simp only[j5,h1]) (VH fun c h=>wZ h2 h);exact VA
 |field t x i=>simp only[sop];split;rename_i v hv;obtain⟨a,h1,h2⟩:=d hv;exact VG (x:=mG P t a i) (fun n=>by rw[c8];simp only[j5,h1]) (VH fun c h=>Kv h2 h);exact VA
 |indexAddr t x i=>simp only[sop];split;rename_i v hv;split;rename_i w K;obtain⟨a,h1,h2⟩:=d hv;obtain⟨b,h3,h4⟩:=d K;exact VG (x:=C4 P t a b) (fun n=>by rw[c8];simp only[j5,h1,h3]) (xA h2 h4);exact VA;exact VA
 |index t x i=>simp only[sop];split;rename_i v hv;split;rename_i w K;obtain⟨a,h1,h2⟩:=d hv;obtain⟨b,h3,h4⟩:=d K;exact VG (x:=iP P t a b) (fun n=>by rw[c8];simp only[j5,h1,h3]) (Kx h2 h4);exact VA;exact VA
 |range t x=>
  simp only[sop];split
  ·rename_i v hv;obtain⟨w,h1,h2⟩:=d hv;refine(KE h2 hs).mono fun a τ' F' hp' _ _ ⟨n,e1,e2,e3⟩=>⟨_,Vr fun m=>?_,e3⟩
   rw[c8];simp only[j5,xnw,h1,e1,L8,e2]
  exact VA
 |next it isS=>
  simp only[sop];split
  ·rename_i v hv;obtain⟨w,h1,h2⟩:=d hv;refine(NR h2 hs).mono fun a τ' F' hp' _ _ ⟨u,e1,e2⟩=>⟨u,Vr fun m=>?_,e2⟩
   rw[c8];simp only[j5,h1,e1]
  exact VA
 |extract x i=>simp only[sop];split;rename_i v hv;obtain⟨a,h1,h2⟩:=d hv;exact VG (x:=U5 a i) (fun n=>by rw[c8];simp only[j5,h1]) (VH fun c h=>Eo h2 h);exact VA
 |call c=>
  simp only[sop];split
  ·rename_i l hl;obtain⟨args,h1,h2⟩:=sI ht hl;obtain⟨E,B,ats⟩:=c;have h1:Y8 tm B.toList=some args:=h1;cases E with
   |builtin b=>
    simp only;unfold Ei;split
    ·rename_i t u a x C;obtain⟨v,vs,rfl,G,H⟩:=h2.uncons;obtain⟨w,ws,rfl,g3,g4⟩:=H.uncons;have:ws=[]:=Tq g4.1.symm;subst this;have hx:∀n,xop P (D8 P ov n) tm hp (.call ⟨.builtin .append,B,ats⟩)=match E1 P hp t u v w with|some r=>some r|none=>aR P hp t u v w:=fun n=>by rw[c8];simp only[j5,h1,C,y9];rfl
     unfold Iz;split
     ·rename_i e e2 he T;split;exact VA
      ·rename_i ie X;split;exact VA
       ·rename_i z hz;cases hq:Nat.beq z.cells.toList.length ie.size&&Nat.ble ie.bytes 1048576&&Nat.ble 1 ie.size with
        |false=>exact VA|true=>
         simp only[TE];rw[Tl]at hq;obtain⟨q1,q2⟩:=hq;have Q:=To q2;refine Vy (IR Q g3 hs) fun src s1 o1 hs1 ⟨n,news,k1,k2,k3,k4⟩=>?_;refine(PI Q G k2 k3 k4 hs1).mono fun c τ' F' hp' _ _ ⟨y,k5,k6⟩=>⟨y,Vr fun n=>?_,k6⟩
         rw[hx,Hg he T X hz q1 k1,k5]
     exact VA
    rename_i t x C;obtain⟨v,vs,rfl,G,H⟩:=h2.uncons;have:vs=[]:=Tq H.1.symm;subst this;exact VG (x:=aS hp P t v) (fun n=>by rw[c8];simp only[j5,h1,C,y9]) (PO G);rename_i t x C;obtain⟨v,vs,rfl,G,H⟩:=h2.uncons;have:vs=[]:=Tq H.1.symm;subst this;exact VG (x:=oK P t v) (fun n=>by rw[c8];simp only[j5,h1,C,y9]) (PK G);rename_i x xs;obtain⟨v,vs,rfl,G,H⟩:=h2.uncons;exact VG (x:=fR false v vs) (fun n=>by rw[c8];simp only[j5,h1,y9]) (BH G H);rename_i x xs;obtain⟨v,vs,rfl,G,H⟩:=h2.uncons;exact VG (x:=fR true v vs) (fun n=>by rw[c8];simp only[j5,h1,y9]) (BH G H);exact VA
   |value g=>
    simp only;split
    ·rename_i v hv;obtain⟨w,h3,h4⟩:=d hv;unfold ID;split
     ·rename_i g' first A
      split
      ·rename_i fn V;cases Y:gA fn with
       |false=>exact VA|true=>
        simp only[TE];cases h4 with
        |fn _ _ _ xs ys k1 k2 k3 k4=>
         have hl:VDL P U τ F (first++l++A) (xs++args++ys):=(VDL.append ⟨k1,k2⟩ h2).append ⟨k3,k4⟩;refine(D.run g' _ _ τ F s hp hl hs).mono fun a τ' F' hp' _ _ ⟨y,e1,e2⟩=>⟨y,e1.mono fun n hn=>?_,e2⟩
         rw[c8];simp only[j5,h1,h3,kQ,V,Y,TE];simpa using hn
      exact VA
     ·rename_i ks vs gg nt ps as bo;have h5:=h4;cases h4 with
      |yld _ _ _ _ _ _ _ i tms pr db hF hp0 k=>
       refine(D.round ks vs gg nt ps as bo l args τ F s hp i h5 h2 hs).mono fun a τ' F' hp' _ _ ⟨y,e1,e2⟩=>⟨y,e1.mono fun n hn=>?_,e2⟩
       rw[c8];simp only[j5,h1,h3,kQ];exact hn
     exact VA
    exact VA
   |invoke r m=>exact VA
  exact VA
 |_=>exact VA
end
def gB (f:Fm)(dst:Bb Tmp)(v:SV):Fm:=match dst with
 |some d=>(d,v)::f|none=>f
section
variable (P :Aw)(U:Ab)
def Kk (f:Fm)(d:Tmp)(t:Bool):Fm:=match lk f d with
 |some (.bool e)=>(match e with
  | .bool _=>f|_=>(d,.bool (.bool t))::f)
 |_=>f
def Z7 (all:An)(f:Fm)(o:Oper)(t:Bool):Fm:=match o.guard with
 |some (j,want)=>match all[j]? with
  |some p=>match p.dst with
   |some d=>Kk f d (t==want)|none=>f
  |none=>f
 |none=>f
def GB (f:Fm)(c:Az)(t:Bool):Fm:=match c with
 | .tmp d=>Kk f d t|_=>f
def sK (all:An)(f:Fm)(o:Oper):M Bool:=
 match o.guard with
 |none=>i3 true|some (j,want)=>match all[j]? with
  |some p=>match p.dst with
   |some d=>match lk f d with
    |some (.bool e)=>b9 (hK U e) fun t=>i3 (t==want)
    |some (.tup [])=>i3 false|_=>a8 "guard"
   |none=>i3 false
  |none=>i3 false
def sone (call:J2)(nt:Nat)(all:An)(o:Oper)(f:Fm):M Fm:=
 bif B6 nt o.dst then
  b9 (sK U all f o) fun t=>bif t then b9 (sop P U call (Z7 all f o t) o.op) fun v=>i3 (gB (Z7 all f o t) o.dst v)else i3 (gB (Z7 all f o t) o.dst (.tup []))
 else a8 "slot"
def NS (call:J2)(nt:Nat)(all:An):An->Fm->M Fm
 | [],f=>i3 f|o::os,f=>b9 (sone P U call nt all o f) fun f'=>NS call nt all os f'
abbrev kD:=An->Fm->M Fm
abbrev mR:=Nat->Code->(Fm->M (Exit×Fm))->Fm->Bb (M (Exit×Fm))
def uA :Code->Bb Code
 | .loop b=>some b|_=>none
def BM (call:J2)(g:Ay)(nt:Nat)(fo:Az)(ps:Array Tmp)(as bo:Code)(f:Fm):M (Exit×Fm):=
 have _:=P
 a8 "range"
def P7 (call:J2)(dr:kD)(lp:mR)(g:Ay)(rg:Bool)(nt:Nat):Nat->Code->Fm->M (Exit×Fm)
 |0,_,_=>a8 "fuel"|m+1,c,f=>match c with
  | .skip=>i3 (.normal,f)| .label _=>i3 (.normal,f)| .region _ ops draw=>b9 (bif draw then dr ops.toList f else NS P U call nt ops.toList ops.toList f) fun f'=>i3 (.normal,f')
  | .seq x y=>b9 (P7 call dr lp g rg nt m x f) fun r=>match r.1 with
   | .normal=>P7 call dr lp g rg nt m y r.2|e=>i3 (e,r.2)
  | .cond c x y=>match u6 f c with
   |some (.bool e)=>b9 (hK U e) fun t=>bif t then P7 call dr lp g rg nt m x (GB f c t)else P7 call dr lp g rg nt m y (GB f c t)
   |_=>a8 "if"
  | .block id b => b9 (match uA b with
    |some lb=>match lp id lb (P7 call dr lp g rg nt m lb) f with
     |some r=>r|none=>P7 call dr lp g rg nt m b f
    |none=>P7 call dr lp g rg nt m b f) fun r=>match r.1 with
   | .exit j=>bif Nat.beq j id then i3 (.normal,r.2)else i3 (.exit j,r.2)|e=>i3 (e,r.2)
  | .loop b=>b9 (P7 call dr lp g rg nt m b f) fun r=>match r.1 with
   | .normal=>P7 call dr lp g rg nt m (.loop b) r.2|e=>i3 (e,r.2)
  | .exit id=>i3 (.exit id,f)| .ret=>i3 (.ret,f)| .scope b=>b9 (P7 call dr lp g rg nt m b f) fun r=>match r.1 with
   | .normal=>i3 (.normal,r.2)| .exit j=>i3 (.exit j,r.2)| .ret=>i3 (.ret,r.2)|_=>a8 "scope"
  | .rangeFunc fo ps as bo=>bif rg then BM P call g nt fo ps as bo f else a8 "a range in a range"|_=>a8 "code"
end
section
variable {P :Aw}{U:Ab}{ov:Aa}{nt:Nat}
variable {τ:Tau}{F:Ac}{f:Fm}{tm:Ao}
def TD.mono {τ':Tau}{F':Ac}(ht:Tle τ τ')(hf:Fle F F')(h:TD P U τ F f tm):TD P U τ' F' f tm:=fun k a b=>(h k a b).mono ht hf
theorem TD.put (h:TD P U τ F f tm){a:SV}{v:Av}(g:VD P U τ F a v)(dst:Bb Tmp):TD P U τ F (gB f dst a) (y6 tm dst v):=by
 cases dst with
 |none=>exact h|some d=>intro k b hb;simp only[gB,A0]at hb;simp only[y6,VX];by_cases e:d=k;grind;rw[TH e]at hb;rw[TH (fun h=>e h.symm)];exact h k b hb
def DR (f:Fm)(dst:Bb Tmp)(v:SV):∃pre,gB f dst v=pre++f:=by
 cases dst with
 |none=>exact⟨[],rfl⟩|some d=>exact⟨[(d,v)],rfl⟩
theorem vR {s:SS}(h:TD P U τ F f tm)(all:An)(o:Oper):OKp U (sK U all f o) s fun t=>t7 all tm o=t:=by
 unfold sK t7;split;rename_i hg;simp only[hg];exact VJ rfl
 ·rename_i j g hg;simp only[hg];unfold fK;split
  ·rename_i p hp;simp only[hp];split
   ·rename_i d b;split
    ·rename_i e he;have hv:=h d _ he;refine OKp.test.bind fun t _ _ _ ht=>VJ ?_;generalize hx:(tm.get d).getD undef=x at hv;cases hv;cases hg:tm.get d with
     |none=>rw[hg]at hx;simp[undef]at hx|some y=>grind
    rename_i he;have hv:=h d _ he;generalize hx:(tm.get d).getD undef=x at hv;cases hv;refine VJ ?_;grind;exact VE
   rename_i b;simp only[b];exact VJ rfl
  rename_i hp;simp only[hp];exact VJ rfl
variable {t:Bool}
def Iu (h:TD P U τ F f tm){d:Tmp}(ht:∀b,tm.get d=some (.bool b)->b=t):TD P U τ F (Kk f d t) tm:=by
 unfold Kk;split
 ·rename_i e he;split;exact h
  ·intro k a g;rw[A0]at g;split at g
   ·rename_i e';subst e';cases g;have hv:=h d _ he;generalize hx:(tm.get d).getD undef=x at hv⊢;cases hv;cases hg:tm.get d with
    |none=>rw[hg]at hx;cases hx
    |some y=>rw[hg]at hx;cases hx;rw[ht _ hg];exact .bool (.bool t)
   exact h k a g
 exact h
theorem DX (f:Fm)(d:Tmp)(t:Bool):∃pre,Kk f d t=pre++f:=by unfold Kk;split;split;simp_all;exact⟨[_],rfl⟩;simp_all
theorem It (h:TD P U τ F f tm){all:An}{o:Oper}(g:t7 all tm o=t):TD P U τ F (Z7 all f o t) tm:=by unfold Z7;unfold t7 fK at g;split;rename_i j r hg;split;rename_i p hp;split;rename_i d w;refine Iu h fun b hb=>?_;subst g;simp_all;exact h;exact h;exact h
theorem PC (h:TD P U τ F f tm){c:Az}{b:Bool}(hc:c9 tm c=some (.bool b))(hb:b=t):TD P U τ F (GB f c t) tm:=by unfold GB;split;rename_i d;refine Iu h fun b' g=>?_;have hc:some ((tm.get d).getD undef)=_:=hc;grind;exact h
theorem No (f:Fm)(c:Az)(t:Bool):∃pre,GB f c t=pre++f:=by unfold GB;split;exact DX _ _ _;simp_all
def DV (all:An)(f:Fm)(o:Oper)(t:Bool):∃pre,Z7 all f o t=pre++f:=by
 unfold Z7;repeat' split
 exact DX _ _ _;all_goals exact⟨[],rfl⟩
variable (P ov) in
def XOps (nt:Nat)(all l:An)(tm:Ao)(hp:Hp)(tm':Ao)(hp':Hp):Prop:=EV fun n=>wR P (D8 P ov n) nt all l tm hp=some (tm',hp')
theorem IP {call:J2}(b:E6 P U ov call){all:An}:∀ {l:An} {τ:Tau} {F:Ac} {s:SS} {hp:Hp} {f:Fm} {tm:Ao},TD P U τ F f tm->SD P U τ F s hp->OKh P U (NS P U call nt all l f) τ F s hp fun f' τ' F' hp'=>∃tm',XOps P ov nt all l tm hp tm' hp'/\TD P U τ' F' f' tm'/\ ∃pre,f'=pre++f
 | [],τ,F,s,hp,f,tm,ht,hs=>VC ⟨tm,Vr fun n=>wS,ht,[],rfl⟩| o :: l, τ, F, s, hp, f, tm, ht, hs => by
  unfold NS sone;cases r:B6 nt o.dst with
  |false=>exact OKh.fail.bind (R:=fun _ _ _ _=>False) fun _ _ _ _ _ _ _ h=>h.elim
  |true=>
   simp only[TE];have step:∀ {f0:Fm} {a:SV} {v:Av} {τ1:Tau} {F1:Ac} {s1:SS} {hp1:Hp},TD P U τ1 F1 f0 tm->(∃pre,f0=pre++f)->SD P U τ1 F1 s1 hp1->VD P U τ1 F1 a v->
     OKh P U (NS P U call nt all l (gB f0 o.dst a)) τ1 F1 s1 hp1 fun f' τ' F' hp'=>∃tm',XOps P ov nt all l (y6 tm o.dst v) hp1 tm' hp'/\TD P U τ' F' f' tm'/\ ∃pre,f'=pre++f:=by
    intro f0 a v τ1 F1 s1 hp1 h1 ⟨A,h0⟩ h2 h3;refine(IP b (h1.put h3 o.dst) h2).mono fun f' τ' F' hp' _ _ ⟨tm',e1,e2,pre,e3⟩=>?_;obtain⟨p,hp⟩:=DR f0 o.dst a;grind
   refine OKh.bind (R:=fun f' τ' F' hp'=>∃f0 a v,f'=gB f0 o.dst a/\TD P U τ' F' f0 tm/\(∃pre,f0=pre++f)/\VD P U τ' F' a v/\((t7 all tm o=true/\XOp P ov o.op tm hp v hp')\/(t7 all tm o=false/\v=undef/\hp'=hp))) ?_ ?_
   ·refine Vy (vR ht all o) fun t s1 z hs1 g=>?_;have ht:=It ht g;have d:=DV all f o t;cases t with
    |true=>refine(BK b ht hs1 o.op).bind fun a τ1 F1 s2 hp1 ex y ⟨v,h1,h2⟩=>VC ⟨_,a,v,rfl,ht.mono ex.t ex.f,d,h2,.inl ⟨g,h1⟩⟩
    |false=>exact VC ⟨_,.tup [],undef,rfl,ht,d,.tup [] [] rfl (fun i a x h _=>by grind),.inr ⟨g,rfl,rfl⟩⟩
   ·intro f' τ1 F1 s1 hp1 ex hs1 ⟨f0,a,v,e1,ht,d,h1,h2⟩;subst e1;refine(step ht d hs1 h1).mono fun w τ' F' hp' _ _ ⟨tm',e1,e2,e3⟩=>⟨tm',?_,e2,e3⟩
    rcases h2 with⟨g,hx⟩| ⟨g,hv,hh⟩;exact(hx.and e1).mono fun n ⟨k1,k2⟩=>by rw[W5,r,TE,g,TE,k1];exact k2
    subst hv;subst hh;exact e1.mono fun n k=>by rw[W5,r,TE,g,TF];exact k
variable {ar :Ai}
variable (P ov) in
def XC (ar:Ai)(nt:Nat)(c:Code)(tm:Ao)(hp:Hp)(e:Exit)(tm':Ao)(hp':Hp):Prop:=
 ∃rs:Ah,(rs.Nodup/\ ∀r∈rs,hp.nx<=r/\r<hp'.nx/\hp'.m.get r=some .dfr)/\
  ∃n0,∀n m ds,n0<=n->n0<=m->l7 P (u7 P) (D8 P ov n) nt ar m c tm hp ds=some (.mk e tm' hp' (rs.map Df.mark++ds))
variable {c:Code}{hp:Hp}{e:Exit}{tm':Ao}
theorem XC.of0 {hp':Hp}(h:∃n0,∀n m ds,n0<=n->n0<=m->l7 P (u7 P) (D8 P ov n) nt ar (m+1) c tm hp ds=some (.mk e tm' hp' ds)):XC P ov ar nt c tm hp e tm' hp':=by
 obtain⟨n0,h⟩:=h;refine⟨[],(by grind),n0+1,fun n m ds hn hm=>?_⟩;obtain⟨m,rfl⟩:∃k,m=k+1:=⟨m-1,by omega⟩
 grind
variable {tm1:Ao}
theorem XC.map {c':Code}{hp1:Hp}{e':Exit}(h:XC P ov ar nt c tm hp e tm1 hp1)(k:∀n m ds b,l7 P (u7 P) (D8 P ov n) nt ar m c tm hp ds=some (.mk e tm1 hp1 b)->l7 P (u7 P) (D8 P ov n) nt ar (m+1) c' tm hp ds=some (.mk e' tm' hp1 b)):XC P ov ar nt c' tm hp e' tm' hp1:=by
 obtain⟨d,h1,n0,h2⟩:=h;refine⟨d,h1,n0+1,fun n m ds hn hm=>?_⟩;obtain⟨m,rfl⟩:∃k,m=k+1:=⟨m-1,by omega⟩
 grind
theorem XC.comp {w y:Code}{hp1 hp':Hp}(h1:XC P ov ar nt w tm hp .normal tm1 hp1)(h2:XC P ov ar nt y tm1 hp1 e tm' hp')(C:hp.nx<=hp1.nx)(D:hp1.nx<=hp'.nx)(hk:∀r,r<hp1.nx->hp1.m.get r=some .dfr->hp'.m.get r=some .dfr)(k:∀n m ds b d,l7 P (u7 P) (D8 P ov n) nt ar m w tm hp ds=some (.mk .normal tm1 hp1 b)->l7 P (u7 P) (D8 P ov n) nt ar m y tm1 hp1 b=some (.mk e tm' hp' d)->l7 P (u7 P) (D8 P ov n) nt ar (m+1) c tm hp ds=some (.mk e tm' hp' d)):XC P ov ar nt c tm hp e tm' hp':=by
 obtain⟨g,⟨z,a2⟩,E,a3⟩:=h1;obtain⟨h,⟨A,H⟩,G,B⟩:=h2;refine⟨h++g,⟨Vj.2 ⟨A,z,fun r hr q hq e=>?_⟩,fun r hr=>?_⟩,E+G+1,fun n m ds hn hm=>?_⟩;grind;grind
 ·obtain⟨m,rfl⟩:∃k,m=k+1:=⟨m-1,by omega⟩
  rw[Ui,Tz];exact k n m ds _ _ (by grind) (B n m _ (by omega) (by omega))
theorem OKh.monoE {α:Type}{m:M α}{s:SS}{R b:α->Tau->(Ac)->Hp->Prop}(h:OKh P U m τ F s hp R)(hr:∀a τ' F' s' hp',Ext τ F s hp τ' F' s' hp'->R a τ' F' hp'->b a τ' F' hp'):OKh P U m τ F s hp b:=by intro Q hq hs;obtain⟨a,s',h1,τ',F',hp',h2,h3,h4⟩:=h Q hq hs;grind
variable (P U ov) in
def gG (ar:Ai)(nt:Nat)(m:M (Exit×Fm))(c:Code)(f:Fm):Prop:=∀τ F s hp tm,TD P U τ F f tm->SD P U τ F s hp->
 OKh P U m τ F s hp fun r τ' F' hp'=>∃tm',XC P ov ar nt c tm hp r.1 tm' hp'/\TD P U τ' F' r.2 tm'/\ ∃pre,r.2=pre++f
variable (P U ov) in
def cT (nt:Nat)(dr:kD):Prop:=∀ops f τ F s hp tm,TD P U τ F f tm->SD P U τ F s hp->
 OKh P U (dr ops f) τ F s hp fun f' τ' F' hp'=>∃tm',(EV fun n=>u7 P (D8 P ov n) nt ops tm hp=some (tm',hp'))/\TD P U τ' F' f' tm'/\ ∃pre,f'=pre++f
variable (P U ov) in
def cU (ar:Ai)(nt:Nat)(lp:mR):Prop:=∀id b body f r,(∀f',gG P U ov ar nt (body f') b f')->lp id b body f=some r->gG P U ov ar nt r (.loop b) f
def GT {call:J2}(b:E6 P U ov call)(g:Ay)(fo:Az)(ps:Array Tmp)(as bo:Code)(f:Fm):gG P U ov none nt (BM P call g nt fo ps as bo f) (.rangeFunc fo ps as bo) f:=by intro τ F s hp tm ht hs;unfold BM;exact VA
theorem Ej {call:J2}(w:E6 P U ov call){dr:kD}(C:cT P U ov nt dr){lp:mR}(D:cU P U ov ar nt lp)(g:Ay)(rg:Bool)(G:rg=true->ar=none):∀(m:Nat) (c:Code) (f:Fm),gG P U ov ar nt (P7 P U call dr lp g rg nt m c f) c f
 |0,c,f=>fun τ F s hp tm ht hs=>VA
 |m+1,c,f=>by
  have A:=Ej w C D g rg G m;cases c with
  |rangeFunc fo ps as bo=>
   intro τ F s hp tm ht hs;cases hb:rg with
   |false=>exact VA|true=>have:=G hb;subst this;exact GT w g fo ps as bo f τ F s hp tm ht hs
  |skip=>exact fun τ F s hp tm ht hs=>VC ⟨tm,XC.of0 ⟨0,fun n m ds _ _=>rfl⟩,ht,[],rfl⟩
  |label l=>exact fun τ F s hp tm ht hs=>VC ⟨tm,XC.of0 ⟨0,fun n m ds _ _=>rfl⟩,ht,[],rfl⟩
  |exit H=>exact fun τ F s hp tm ht hs=>VC ⟨tm,XC.of0 ⟨0,fun n m ds _ _=>rfl⟩,ht,[],rfl⟩
  |ret=>exact fun τ F s hp tm ht hs=>VC ⟨tm,XC.of0 ⟨0,fun n m ds _ _=>rfl⟩,ht,[],rfl⟩
  |region H ops draw=>
   intro τ F s hp tm ht hs;simp only[P7];cases draw with
   |true=>refine(C ops.toList f τ F s hp tm ht hs).bind fun f' τ' F' s' hp' _ _ ⟨tm',⟨n0,e1⟩,e2,e3⟩=>VC ⟨tm',XC.of0 ⟨n0,fun n m ds hn _=>?_⟩,e2,e3⟩;simp only[l7,TE,e1 n hn]
   |false=>refine(IP w ht hs).bind fun f' τ' F' s' hp' _ _ ⟨tm',⟨n0,e1⟩,e2,e3⟩=>VC ⟨tm',XC.of0 ⟨n0,fun n m ds hn _=>?_⟩,e2,e3⟩;simp only[l7,TF,e1 n hn]
  |seq x y=>
   intro τ F s hp tm ht hs;simp only[P7];refine(A x f τ F s hp tm ht hs).bind fun r τ1 F1 s1 hp1 ex hs1 ⟨tm1,hx,e2,pre,e3⟩=>?_;have out:∀e,r.1=e->e≠ .normal->OKh P U (i3 (e,r.2)) τ1 F1 s1 hp1 fun r τ' F' hp'=>∃tm',XC P ov ar nt (.seq x y) tm hp r.1 tm' hp'/\TD P U τ' F' r.2 tm'/\ ∃pre,r.2=pre++f:=by intro e he E;refine VC ⟨tm1,hx.map fun n m ds d hk=>?_,e2,pre,e3⟩;simp only[l7,hk];grind
   split
   ·rename_i hr;refine(A y r.2 τ1 F1 s1 hp1 tm1 e2 hs1).monoE fun O τ' F' s' hp' z ⟨tm',hy,k2,p2,k3⟩=>⟨tm',?_,k2,p2++pre,by rw[k3,e3,Tz]⟩
    rw[hr]at hx;refine hx.comp hy ex.nx z.nx (fun r hlt hg=>z.dfr hs1 hlt hg (.inl rfl)) fun n m ds J K M N=>?_;simp only[l7,M];exact N
   grind
  |cond c x y=>
   intro τ F s hp tm ht hs;simp only[P7];split
   ·rename_i e he;obtain⟨v,h1,h2⟩:=I6 ht he;cases h2;refine Vy VL fun t s1 _ hs1 B=>?_;have ht:=PC ht h1 B;obtain⟨Q,hp0⟩:=No f c t;have app:∀ {r:Fm},(∃pre,r=pre++GB f c t)-> ∃pre,r=pre++f:=fun⟨p,h⟩=>(by grind)
    cases t with
    |true=>
     refine(A x _ τ F s1 hp tm ht hs1).mono fun r τ' F' hp' _ _ ⟨tm',hx,e2,e3⟩=>⟨tm',hx.map fun n m ds d hk=>?_,e2,app e3⟩
     simp only[l7,h1,B];exact hk
    |false=>
     refine(A y _ τ F s1 hp tm ht hs1).mono fun r τ' F' hp' _ _ ⟨tm',hx,e2,e3⟩=>⟨tm',hx.map fun n m ds d hk=>?_,e2,app e3⟩
     simp only[l7,h1,B];exact hk
   exact VA
  |block H b=>
   intro τ F s hp tm ht hs;simp only[P7];have inner:gG P U ov ar nt (match uA b with
    |some lb=>match lp H lb (P7 P U call dr lp g rg nt m lb) f with
     |some r=>r|none=>P7 P U call dr lp g rg nt m b f
    |none=>P7 P U call dr lp g rg nt m b f) b f:=by
    split
    ·rename_i lb L;have hb:b= .loop lb:=by unfold uA at L;grind
     subst hb;split;rename_i r hr;exact D H lb _ f r (fun f'=>A lb f') hr;grind
    grind
   refine(inner τ F s hp tm ht hs).bind fun r τ1 F1 s1 hp1 ex hs1 ⟨tm1,hx,e2,e3⟩=>?_;split
   ·rename_i j hr;cases hb:Nat.beq j H with
    |true=>refine VC ⟨tm1,hx.map fun n m ds d hk=>?_,e2,e3⟩;rw[hr]at hk;simp only[l7,hk,hb,TE]|false=>refine VC ⟨tm1,hx.map fun n m ds d hk=>?_,e2,e3⟩;rw[hr]at hk;simp only[l7,hk,hb,TF]
   rename_i E;refine VC ⟨tm1,hx.map fun n m ds d hk=>?_,e2,e3⟩;simp only[l7,hk];grind
  |loop b=>
   intro τ F s hp tm ht hs;simp only[P7];refine(A b f τ F s hp tm ht hs).bind fun r τ1 F1 s1 hp1 ex hs1 ⟨tm1,hx,e2,pre,e3⟩=>?_;split
   ·rename_i hr;refine(A (.loop b) r.2 τ1 F1 s1 hp1 tm1 e2 hs1).monoE fun O τ' F' s' hp' z ⟨tm',hy,k2,p2,k3⟩=>⟨tm',?_,k2,p2++pre,by rw[k3,e3,Tz]⟩
    rw[hr]at hx;refine hx.comp hy ex.nx z.nx (fun r hlt hg=>z.dfr hs1 hlt hg (.inl rfl)) fun n m ds J K M N=>?_;simp only[l7,M];exact N
   rename_i E;refine VC ⟨tm1,hx.map fun n m ds d hk=>?_,e2,pre,e3⟩;simp only[l7,hk];grind
  |scope b=>intro τ F s hp tm ht hs;simp only[P7];refine(A b f τ F s hp tm ht hs).bind fun r τ1 F1 s1 hp1 ex hs1 ⟨tm1,hx,e2,e3⟩=>?_;split;rename_i hr;refine VC ⟨tm1,hx.map fun n m ds d hk=>?_,e2,e3⟩;rw[hr]at hk;simp only[l7,hk];rename_i j hr;refine VC ⟨tm1,hx.map fun n m ds d hk=>?_,e2,e3⟩;rw[hr]at hk;simp only[l7,hk];rename_i hr;refine VC ⟨tm1,hx.map fun n m ds d hk=>?_,e2,e3⟩;rw[hr]at hk;simp only[l7,hk];exact VA
  |_=>exact fun τ F s hp tm ht hs=>VA
end
def kX :Nat->As->Fm
 |_,[]=>[]
 |k,a::l=>(k,a)::kX (k+1) l
section
variable (P :Aw)(U:Ab)
def IQ (f:Fm):ResultVar->M SV
 | .tmp t=>i3 ((lk f t).getD .any)| .cell a t=>IL P U t ((lk f a).getD .any)
def dN (f:Fm):List ResultVar->M (As)
 | []=>i3 []|r::rs=>b9 (IQ P U f r) fun v=>b9 (dN f rs) fun vs=>i3 (v::vs)
def zJ :As->SV
 | [v]=>v|vs=>.tup vs
def sfun (call:J2)(dr:Nat->kD)(lp:Ay->Nat->mR)(m:Nat)(g:Ay)(args:As):M SV:=
 match P.funcs[g]? with
 |some fn=>bif wkFn fn then a8 "a capacity" else match fn.body with
  |some c=>b9 (P7 P U call (dr (args.length+(fn.ntmps-args.length))) (lp g (args.length+(fn.ntmps-args.length))) g true (args.length+(fn.ntmps-args.length)) m c (kX 0 args)) fun r=>match r.1 with
   | .normal=>b9 (dN P U r.2 fn.results.toList) fun vs=>i3 (zJ vs)
   | .ret=>b9 (dN P U r.2 fn.results.toList) fun vs=>i3 (zJ vs)
   |_=>a8 "end of a call"
  |none=>a8 "no body"
 |none=>a8 "no function"
def GU (call:J2)(dr:Nat->kD)(lp:Ay->Nat->mR)(m:Nat)(ks:Ah)(vs:As)(g:Ay)(nt:Nat)(ps:Ah)(as bo:Code)(args:As):M SV:=
 have _:=P;have _:=U
 a8 "sround"
def Z8 (dr:J2->Nat->kD)(lp:J2->Ay->Nat->mR)(con:Ay->Bb (As->M SV)):Nat->J2
 |0=>⟨fun _ _=>a8 "depth of calls",fun _ _ _ _ _ _ _ _=>a8 "depth of rounds"⟩
 |n+1=>⟨fun g args=>match con g with
  |some k=>k args|none=>sfun P U (Z8 dr lp con n) (dr (Z8 dr lp con n)) (lp (Z8 dr lp con n)) n g args,
  fun ks vs g nt ps as bo args=>GU P U (Z8 dr lp con n) (dr (Z8 dr lp con n)) (lp (Z8 dr lp con n)) n ks vs g nt ps as bo args⟩
end
section
variable {P :Aw}{U:Ab}{ov:Aa}
variable (P U ov) in
def C8 (k:As->M SV)(g:Ay):Prop:=∀l args τ F s hp,VDL P U τ F l args->SD P U τ F s hp->OKh P U (k l) τ F s hp fun a τ' F' hp'=>∃v,Y0 P ov g args hp v hp'/\VD P U τ' F' a v
theorem yF :∀(l:As) (k j:Nat) (a:SV),lk (kX k l) j=some a->k<=j/\l[j-k]? =some a
 | [],k,j,a,h=>by simp[kX,lk]at h|b::l,k,j,a,h=>by rw[kX,A0]at h;by_cases e:k=j;grind;rw[TH e]at h;obtain⟨h1,h2⟩:=yF l (k+1) j a h;grind
def TD.args {τ:Tau}{F:Ac}{l:As}{args:Af}(h:VDL P U τ F l args):TD P U τ F (kX 0 l) (fill .e 0 args):=by intro k a b;obtain⟨_,h2⟩:=yF l 0 k a b;obtain⟨v,h3,h4⟩:=h.get h2;rwa[M0 args k v (by omega)]
def rI {τ:Tau}{F:Ac}{f:Fm}{tm:Ao}(ht:TD P U τ F f tm){hp:Hp}:∀ {d:List ResultVar} {s:SS},SD P U τ F s hp->OKp U (dN P U f d) s fun l=>∃vs,I9 P tm hp d=some vs/\VDL P U τ F l vs
 | [],s,hs=>VJ ⟨[],rfl,We⟩|r::d,s,hs=>by
  have hv:∀t,VD P U τ F ((lk f t).getD .any) ((tm.get t).getD undef):=fun t=>by
   cases hl:lk f t with
   |none=>exact .any _|some b=>exact ht t b hl
  have one:OKp U (IQ P U f r) s fun a=>∃v,bU P tm hp r=some v/\VD P U τ F a v:=by
   cases r with
   |tmp t=>exact VJ ⟨_,rfl,hv t⟩|cell a t=>exact(Es (hv a) hs).mono fun b ⟨u,h1,h2⟩=>⟨u,h1,h2⟩
  refine one.bind fun a s1 h g ⟨v,h1,h2⟩=>(rI ht (hs.only h g)).bind fun l s2 _ _ ⟨vs,h3,h4⟩=>VJ ⟨v::vs,by simp only[I9,h1,h3],Wd h2 h4⟩
theorem NU {τ:Tau}{F:Ac}{l:As}{vs:Af}(h:VDL P U τ F l vs):VD P U τ F (zJ l) (fS vs):=by unfold zJ fS;split;obtain⟨y,ys,rfl,h1,h2⟩:=h.uncons;have:=Tq h2.1.symm;grind;rename_i b;split;rename_i v;have hl:=h.1;cases l<;>simp_all;exact h.tup
theorem fG {d:Ay->Af->Hp->Bb (Av×Hp)}:∀(b:Ah) (hp:Hp),b.Nodup->(∀r∈b,hp.m.get r=some .dfr)-> ∃hp',K2 P d (b.map Df.mark++ []) hp=some hp'/\hp'.nx=hp.nx/\ ∀i,i∉b->hp'.m.get i=hp.m.get i
 | [],hp,_,_=>⟨hp,rfl,rfl,fun _ _=>rfl⟩
 |r::b,hp,hn,hg=>by
  have h1:=hg r (by simp);rw[List.nodup_cons]at hn;have g:∀q∈b,q≠r:=fun q hq e=>hn.1 (e▸hq);obtain⟨hp',e1,e2,e3⟩:=fG b {hp with m:=hp.m.set r none} hn.2 fun q hq=>by rw[VX,TH (g q hq)];grind
  refine⟨hp',?_,e2,fun i hi=>?_⟩;simp only[Um,Uw,K2,h1];omega;simp at hi;rw[e3 i hi.2,VX,TH hi.1]
def mI {D D':Ay->Af->Hp->Bb (Av×Hp)}:∀(b:Ah) (hp:Hp),K2 P D (b.map Df.mark++ []) hp=K2 P D' (b.map Df.mark++ []) hp
 | [],hp=>rfl|r::b,hp=>by simp only[Um,Uw,K2];split;exact mI b _;rfl
variable {call:J2}{dr:Nat->kD}{lp:Ay->Nat->mR}
theorem IJ (C:E6 P U ov call)(K:∀nt,cT P U ov nt (dr nt))(M:∀ar g nt,cU P U ov ar nt (lp g nt))(m:Nat)(g:Ay)(hg:isT (ov g)=false):C8 P U ov (sfun P U call dr lp m g) g:=by
 intro l args τ F s hp hl hs;unfold sfun;split
 ·rename_i fn E;cases V:wkFn fn with
  |true=>rw[TE];exact VA|false=>
  have V:wkF P g=false:=by unfold wkF;rw[E];exact V
  rw [TF];split
  ·rename_i c hc;refine(Ej C (K _) (M none g _) g true (fun _=>rfl) m c (kX 0 l) τ F s hp (fill .e 0 args) (TD.args hl) hs).bindE fun r τ1 F1 s1 hp1 ex hs1 ⟨tm1,⟨d,⟨O,w⟩,n1,e1⟩,e2,_⟩=>?_;rw[hl.1]at e1;have Z:(r.1= .normal\/r.1= .ret)-> ∀Q,((b9 (dN P U r.2 fn.results.toList) fun vs=>i3 (zJ vs)) s1).vc U Q->
     ∃b s2,Q (b,s2)/\ ∃τ2 A hp2,Ext τ F s hp τ2 A s2 hp2/\SD P U τ2 A s2 hp2/\ ∃v,Y0 P ov g args hp v hp2/\VD P U τ2 A b v:=by
    intro hr Q hq;have N:∀n:Nat,∃hp2,K2 P (Q7 P (u7 P) (D8 P ov n) n) (d.map Df.mark++ []) hp1=some hp2/\hp2.nx=hp1.nx/\ ∀i,i∉d->hp2.m.get i=hp1.m.get i:=fun n=>fG d hp1 O fun r hr=>(w r hr).2.2;have J:∀n,K2 P (Q7 P (u7 P) (D8 P ov n) n) (d.map Df.mark++ []) hp1=K2 P (Q7 P (u7 P) (D8 P ov 0) 0) (d.map Df.mark++ []) hp1:=by exact fun n=>mI d hp1
    obtain⟨hp2,l1,l2,X⟩:=N 0;let A:Ac:=fun j=>if j∈d then none else F1 j
    have D:SD P U τ1 A s1 hp2:=by
     refine hs1.sub true (fun j y hj h=>?_) (.inl rfl) (by omega) (fun b x j o hb hj=>?_) (fun j y hj=>?_);show(if j∈d then none else F1 j)=some y;rw[TH ?_];exact hj;intro hm;have h1:=(w j hm).2.2;rw[hs1.frz j y hj]at h1;cases h1;rcases h with h| ⟨_,h⟩;cases h;grind
     ·rcases hs1.live b x hb with⟨i',o',y',h1,h2,h3,h4⟩| ⟨h1,_⟩
      ·rw[hj]at h1;cases h1;have aa:j∉d:=fun hm=>by
        have h5:=(w j hm).2.2;rw[h2]at h5;cases h5;cases x with
        |cells l e z=>obtain⟨cs,n,h,_⟩:=h4;cases h
        |rows L e z ph=>obtain⟨cs,n,h,_⟩:=h4;cases h
        |map L kt vt=>obtain⟨_,es,reg,h,_⟩:=h4;cases h
        |iter s p=>obtain⟨_,n,h,_⟩:=h4;cases h
        |reg r L z=>obtain⟨_,_,cs,h,_⟩:=h4;cases h
       grind
      grind
     have hj:(if j∈d then none else F1 j)=some y:=hj;by_cases e:j∈d;grind;rw[TH e]at hj;exact⟨by rw[X j e];exact hs1.frz j y hj,by rw[l2];exact hs1.flt j y hj⟩
    have G:∀j,j<hp.nx->j∉d:=fun j hj hm=>by have:=(w j hm).1;omega
    have ex2:Ext τ F s hp τ1 A s1 hp2:=by refine ex.shrink (by omega) (fun j hj=>X j (G j hj)) (fun j y hj=>?_) (fun j y hj=>?_);grind;show(if j∈d then none else F1 j)=some y;rw[TH (G j (hs.flt j y hj))];exact ex.f j y hj
    have T:TD P U τ1 A r.2 tm1:=fun k a ha=>(e2 k a ha).sub true (fun j y hj h=>by show(if j∈d then none else F1 j)=some y;rw[TH ?_];exact hj;intro hm;have h1:=(w j hm).2.2;rw[hs1.frz j y hj]at h1;cases h1;rcases h with h| ⟨_,h⟩;cases h;exact h rfl) (.inl rfl);have H:OKh P U (b9 (dN P U r.2 fn.results.toList) fun vs=>i3 (zJ vs)) τ1 A s1 hp2 fun a τ' F' hp'=>∃v,Y0 P ov g args hp v hp'/\VD P U τ' F' a v:=by
     refine Vy (rI T D) fun vs s2 _ D ⟨ws,h1,h2⟩=>VC ⟨fS ws,⟨n1+1,fun n hn=>?_⟩,NU h2⟩;obtain⟨n,rfl⟩:∃k,n=k+1:=⟨n-1,by omega⟩
     have hx:=e1 n n [] (by omega) (by omega);show(bif isT (ov g)&&args.isEmpty then some (.bool true,hp)else fU (U9 P (u7 P) (D8 P ov n) (Q7 P (u7 P) (D8 P ov n) n) n g) (bif wkF P g then wkA hp args else args) hp)=_;rw[hg,Bool.false_and,TF,V,TF];have B:=(J n).trans l1;have hb:U9 P (u7 P) (D8 P ov n) (Q7 P (u7 P) (D8 P ov n) n) n g args hp=some (fS ws,hp2):=by simp only[U9,E,hc];rcases hr with hr|hr;rw[hr]at hx;simp only[hx,qH,B,h1];rw[hr]at hx;simp only[hx,qH,B,h1]
     simp only[fU,hb]
    obtain⟨b,s3,q1,W,Y,R,x1,x2,x3⟩:=H Q hq D;exact⟨b,s3,q1,W,Y,R,ex2.trans x1,x2,x3⟩
   intro Q hq;cases hr:r.1 with
   |normal=>simp_all|ret=>simp_all|_=>simp only[hr]at hq;exact hq.elim
  exact VA
 exact VA
def KF (b:E6 P U ov call)(d:∀nt,cT P U ov nt (dr nt))(h:∀ar g nt,cU P U ov ar nt (lp g nt))(m:Nat)(ks:Ah)(vs:As)(g:Ay)(nt:Nat)(ps:Ah)(as bo:Code)(l:As)(args:Af)(τ:Tau)(F:Ac)(s:SS)(hp:Hp)(i:Nat)(hv:VD P U τ F (.yld ks vs g nt ps as bo) (.chan (some i)))(hl:VDL P U τ F l args)(hs:SD P U τ F s hp):OKh P U (GU P U call dr lp m ks vs g nt ps as bo l) τ F s hp fun a τ' F' hp'=>∃v,(EV fun n=>qN P (u7 P) (D8 P ov n) n i args hp=some (v,hp'))/\VD P U τ' F' a v:=by unfold GU;exact VA
theorem vG {dr:J2->Nat->kD}(d:∀call,E6 P U ov call-> ∀nt,cT P U ov nt (dr call nt)){lp:J2->Ay->Nat->mR}(h:∀call,E6 P U ov call-> ∀ar g nt,cU P U ov ar nt (lp call g nt)){con:Ay->Bb (As->M SV)}(b:∀g k,con g=some k->C8 P U ov k g)(w:∀g,isT (ov g)=true->con g≠none):∀n,E6 P U ov (Z8 P U dr lp con n)
 |0=>⟨fun g l args τ F s hp _ _=>VA,fun ks vs g nt ps as bo l args τ F s hp i _ _ _=>VA⟩
 |n+1=>by
  have r:=vG d h b w n;refine⟨fun g l args τ F s hp hl hs=>?_,fun ks vs g nt ps as bo l args τ F s hp i hv hl hs=>?_⟩
  ·simp only[Z8];split;rename_i k hk;exact b g k hk l args τ F s hp hl hs
   ·rename_i hk;have hg:isT (ov g)=false:=by grind
    exact IJ r (d _ r) (h _ r) n g hg l args τ F s hp hl hs
  ·refine(KF r (d _ r) (h _ r) n ks vs g nt ps as bo l args τ F s hp i hv hl hs).mono fun a τ' F' hp' _ _ ⟨v,⟨n0,h1⟩,h2⟩=>⟨v,⟨n0+1,fun k hk=>?_⟩,h2⟩
   obtain⟨k,rfl⟩:∃j,k=j+1:=⟨k-1,by omega⟩
   exact h1 k (by omega)
end
section
variable {P :Aw}{call:i8}{tm:Ao}{hp hp':Hp}{v:Av}
variable {o:Op}
def KY (hk:i4 o=1)(h r:i8)(tm:Ao)(hp:Hp):xop P h tm hp o=xop P r tm hp o:=by
 cases o with
 |call c=>
  obtain⟨d,args,ats⟩:=c;cases d with
  |builtin b=>rfl|_=>simp[i4]at hk
 |load t a=>rfl|slice t x lo hi w=>rfl|lookup t x k ok=>rfl|alloc e=>simp only[i4]at hk;cases g:Nat.beq e rgT<;>rw[g]at hk<;>cases hk
 |box e x=>simp only[i4]at hk;cases g:Nat.beq e rgT<;>rw[g]at hk<;>cases hk
 |_=>simp[i4]at hk
def OG (hk:i4 o=1)(hx:xop P call tm hp o=some (v,hp')):hp'=hp:=by
 cases o with
 |load t a=>simp only[c8,j5]at hx;split at hx;exact(l6 hx).2;cases hx
 |slice t x lo hi w=>simp only[c8,j5]at hx;split at hx;split at hx;split at hx;split at hx;exact rP hx;cases hx;cases hx;cases hx;cases hx
 |lookup t x k ok=>simp only [c8, j5] at hx;split at hx;split at hx;exact(l6 hx).2;cases hx;cases hx
 |call c=>
  obtain⟨d,args,ats⟩:=c;cases d with
  |builtin b=>
   cases b<;>first
    | (simp[i4]at hk;done)
    | (simp only[c8,j5]at hx
       split at hx;generalize ats.toList=h at hx;rename_i vs _;rcases h with _| ⟨t,_| ⟨u,r⟩⟩<;>rcases vs with _| ⟨x,_| ⟨y,z⟩⟩<;>simp only[y9,reduceCtorEq]at hx;exact(l6 hx).2;cases hx)
  |_=>simp[i4]at hk
 |alloc e=>simp only[i4]at hk;cases g:Nat.beq e rgT<;>rw[g]at hk<;>cases hk
 |box e x=>simp only[i4]at hk;cases g:Nat.beq e rgT<;>rw[g]at hk<;>cases hk
 |_=>simp[i4]at hk
theorem mK (hk:i4 o=1)(hx:xop P call tm hp o=some (v,hp)):xrd P tm hp o=some v:=by unfold xrd;rw[KY hk _ call,hx];simp_all
def Th (hk:i4 o=1)(hx:xop P call tm hp o=some (v,hp')):hp'=hp/\xrd P tm hp o=some v:=by have e:=OG hk hx;subst e;exact⟨rfl,mK hk hx⟩
variable {a:Az}{j:Nat}{S:Hp}
def Fa {t:Ax}{q:Nat}(hx:xop P call tm hp (.load t a)=some (v,hp'))(b:c9 tm a=some (.pointer (some ⟨j,q,none⟩)))(hg:S.m.get j=hp.m.get j):xrd P tm S (.load t a)=some v:=by
 refine mK (call:=call) rfl ?_;simp only[c8,j5,b]at hx⊢;have:F8 P S t (.pointer (some ⟨j,q,none⟩))=F8 P hp t (.pointer (some ⟨j,q,none⟩)):=by simp only[F8,hg]
 rw[this,(l6 hx).1];rfl
def La {t:Ax}{q:Nat}(hx:xop P call tm hp (.load t a)=some (v,hp'))(b:c9 tm a=some (.pointer (some ⟨j,q,some 1⟩)))(hg:S.m.get 0=hp.m.get 0):xrd P tm S (.load t a)=some v:=by
 refine mK (call:=call) rfl ?_;simp only[c8,j5,b]at hx⊢;have:F8 P S t (.pointer (some ⟨j,q,some 1⟩))=F8 P hp t (.pointer (some ⟨j,q,some 1⟩)):=by simp only[F8,qJ,hg]
 rw[this,(l6 hx).1];rfl
theorem Hq {t:Ax}{k:Az}{ok:Bool}(hx:xop P call tm hp (.lookup t a k ok)=some (v,hp'))(b:c9 tm a=some (.map (some j)))(hg:S.m.get j=hp.m.get j):xrd P tm S (.lookup t a k ok)=some v:=by
 refine mK (call:=call) rfl ?_;simp only[c8,j5,b]at hx⊢;cases d:c9 tm k with
 |none=>grind|some u=>
  rw[d]at hx;simp only at hx⊢;have:U6 P S t (.map (some j)) u ok=U6 P hp t (.map (some j)) u ok:=by simp only[U6,hg]
  rw[this,(l6 hx).1];rfl
theorem Fe {t:Ax}{x:Av}{lo hi d:Ag}(h:v8 P hp t x lo hi d=some (v,hp'))(hg:∀i o l c,x= .slice (some ⟨i,o,none⟩) l c->S.m.get i=hp.m.get i):v8 P S t x lo hi d=some (v,S):=by
 unfold v8 at h⊢;simp only[Bool.cond_eq_ite]at h⊢;split at h;split at h;grind;cases h
 ·split at h;cases h;rename_i ie b;split at h;grind;grind;have e:=hg _ _ _ _ rfl;split at h;rename_i g;split at h;rename_i r;split at h;cases h;grind;rename_i l hh h2;split at h<;>grind;cases h;grind;cases h
 split at h;cases h;rename_i ie b;split at h<;>grind;cases h
variable {x:Az}{u:Av}
theorem jR {t:Ax}{lo hi d:Bb Az}(hx:xop P call tm hp (.slice t x lo hi d)=some (v,hp'))(g:c9 tm x=some u)(S:Hp)(hg:∀i o l c,u= .slice (some ⟨i,o,none⟩) l c->S.m.get i=hp.m.get i):xrd P tm S (.slice t x lo hi d)=some v:=by
 refine mK (call:=call) rfl ?_;simp only[c8,j5,g]at hx⊢;cases h1:jZ tm lo with
 |none=>grind|some a=>
  rw[h1]at hx;cases h2:jZ tm hi with
  |none=>grind|some b=>
   rw[h2]at hx;cases h3:jZ tm d with
   |none=>grind|some c=>rw[h3]at hx;exact Fe hx hg
theorem Qd {args:Array Az}{ats:Array Ax}(hx:xop P call tm hp (.call ⟨.builtin .len,args,ats⟩)=some (v,hp'))(b:args.toList=[x])(d:c9 tm x=some u)(hm:∀i,u≠ .map (some i))(S:Hp):xrd P tm S (.call ⟨.builtin .len,args,ats⟩)=some v:=by
 refine mK (call:=call) rfl ?_;simp only[c8,j5,b,Y8,d]at hx⊢;generalize ats.toList=g at hx⊢;rcases g with _| ⟨t,_| ⟨w,r⟩⟩<;>simp only[y9,reduceCtorEq]at hx⊢;have:aS S P t u=aS hp P t u:=by unfold aS;grind
 rw[this,(l6 hx).1];rfl
end
inductive Rd where
 |free
 |blk (b:Nat)
 |frz
 |mlk (t:Ax) (b:Nat)
 |bad
def keyF (P:Aw)(t:Ax)(f:Fm)(k:Az):Bool:=
 have _:=(P,t,f,k)
 false
def rS (P:Aw)(rb:Ai)(f:Fm):Op->Rd
 | .load _ x=>match u6 f x with
  |some (.ptr b _ _ _)=>.blk b|some (.pptr _ _ _ _)=>.frz|some (.rp _ _)=>match rb with
   |some b=>.blk b|none=>.bad
  |_=>.bad
 | .lookup t x k ok=>match u6 f x with
  |some (.map b)=>bif !ok&&keyF P t f k then .mlk t b else .blk b|_=>.bad
 | .slice _ x _ _ _=>match u6 f x with
  |some (.lst _ _ _)=>.frz|some .nils=>.free|some (.str _)=>.free|_=>.bad
 | .call ⟨.builtin .len,args,_⟩=>match args.toList with
  | [x]=>match u6 f x with
   |some (.str _)=>.free|some (.sl _ _ _ _ _)=>.free|some (.lst _ _ _)=>.free|some .nils=>.free|_=>.bad
  |_=>.bad
 |_=>.bad
def vok :Nat->SV->Bool
 |0,_=>false|n+1,a=>match a with
  | .any=>false| .agg l=>l.all (vok n)| .tup l=>l.all (vok n)| .fn _ l m=>l.all (vok n)&&m.all (vok n)| .iface _ v=>vok n v| .rv _ _=>false|_=>true
section
variable {P :Aw}{U:Ab}{τ:Tau}{F:Ac}{s:SS}
variable {v:Av}
def PV.lst_slice {e:Ax}{d:Dat}(h:PV P F (.sl e) v d):∃a l c,v= .slice a l c:=by cases h<;>exact⟨_,_,_,rfl⟩
variable {l:As}
theorem OL {f:Av->Av->Bool}{xs:Af}(hl:l.length=xs.length)(h:∀(i:Nat) a x,l[i]? =some a->xs[i]? =some x->f x x=true):oT f xs xs=true:=by
 induction xs generalizing l with
 |nil=>rfl|cons x xs d=>
  cases l with
  |nil=>grind|cons a l=>simp only[oT,Tl];exact⟨h 0 a x rfl rfl,d (by grind) fun i b y hb hy=>h (i+1) b y hb hy⟩
theorem EF :∀(n:Nat) (a:SV) (v:Av),vok n a=true->VD P U τ F a v->veq n v v=true
 |0,_,_,h,_=>by cases h
 |n+1,a,v,h,hv=>by
  have g:=EF n;have all:∀ {l:As} {xs:Af},l.all (vok n)=true->l.length=xs.length->(∀(i:Nat) a x,l[i]? =some a->xs[i]? =some x->VD P U τ F a x)->oT (veq n) xs xs=true:=by intro l xs h1 h2 h3;rw[TS]at h1;exact OL h2 fun i a x d hx=>g a x (h1 a (Tv d)) (h3 i a x d hx)
  have b:∀k:Nat,Nat.beq k k=true:=fun k=>t9 rfl;cases hv with
  |any v=>cases h
  |int k e=>simp[veq]|bool e=>simp[veq]|str e=>simp[veq]|nilp=>simp[veq]|ptr=>simp[veq]|pptr=>simp[veq]|rp=>simp[veq]|rv=>cases h
  |rpq x v hp=>generalize x.toI U=m at hp;cases hp<;>simp[veq]
  |nils=>simp only[veq,b,Ur,UT]|sl=>simp only[veq,b,Ur,UT]|sl0=>simp only[veq,b,Ur,UT]|lst t L clip v hp hc=>obtain⟨a,l,c,rfl⟩:=hp.lst_slice;simp only[veq,b,Ur,UT]
  |agg l xs h1 h2=>simp only[vok]at h;simp only[veq];exact all h h1 h2|tup l xs h1 h2=>simp only[vok]at h;simp only[veq];exact all h h1 h2|fn f l m xs ys h1 h2 h3 h4=>simp only[vok,Tl]at h;simp only[veq,Ur,Bool.true_and,Tl];grind|nilf=>rfl|map=>simp[veq]|nilm=>simp[veq]|iface t a x hx=>simp only[vok]at h;simp only[veq,b,Bool.true_and];exact g _ _ h hx|nili=>rfl|yld=>simp[veq]
def Qh (P:Aw)(t:Ax)(kv:Av):Prop:=∃kt vt sh ks,P.underlying t=some (.map kt vt)/\FQ P kt=some sh/\kfit sh.2 ks=true/\kv=keyV sh ks
def MS (P:Aw)(t:Ax)(j:Nat)(S S2:Hp):Prop:=∀kv,Qh P t kv->U6 P S t (.map (some j)) kv false=U6 P S2 t (.map (some j)) kv false
variable {j:Nat}
def MS.of {t:Ax}{S S2:Hp}(h:S2.m.get j=S.m.get j):MS P t j S S2:=fun kv _=>by simp only[U6,h]
def MS.trans {t:Ax}{A B C:Hp}(h:MS P t j A B)(k:MS P t j B C):MS P t j A C:=fun kv hk=>(h kv hk).trans (k kv hk)
def MS.symm {t:Ax}{A B:Hp}(h:MS P t j A B):MS P t j B A:=fun kv hk=>(h kv hk).symm
variable {f:Fm}{tm:Ao}
def Pk (ht:TD P U τ F f tm){t:Ax}{k:Az}{u:Av}(b:c9 tm k=some u)(h:keyF P t f k=true):Qh P t u:=by unfold keyF at h;cases h
variable (P) in
def CC (τ:Tau)(F:Ac)(S:Hp)(tm:Ao)(o:Op)(v:Av):Rd->Prop
 | .free=>∀S2,xrd P tm S2 o=some v| .blk b=>∃j q,τ b=some (some (j,q))/\ ∀S2:Hp,S2.m.get j=S.m.get j->xrd P tm S2 o=some v| .frz=>(∀S2,xrd P tm S2 o=some v)\/ ∃j y,F j=some y/\ ∀S2:Hp,S2.m.get j=some y->xrd P tm S2 o=some v| .mlk t b=>∃j q,τ b=some (some (j,q))/\ ∀S2:Hp,MS P t j S S2->xrd P tm S2 o=some v| .bad=>True
theorem PB {call:i8}{S S':Hp}{o:Op}(ht:TD P U τ F f tm)(hs:SD P U τ F s S)(h:xop P call tm S o=some (v,S')):CC P τ F S tm o v (rS P (rgB s) f o):=by
 unfold rS;split
 ·rename_i t x;split
  ·rename_i b z row fld hx;obtain⟨u,h1,h2⟩:=I6 ht hx;cases h2 with
   |ptr _ _ _ _ i q g h0=>exact⟨i,q,g,fun S2 hg=>Fa h h1 hg⟩
  ·rename_i t' L row fld hx;obtain⟨u,h1,h2⟩:=I6 ht hx;cases h2 with
   |pptr _ _ _ _ i q l c hp h0 hlt=>
    have:∃y,F i=some y:=by
     cases hp with
     |sl e i o c b cs n z rows x hF=>grind
    obtain⟨y,hy⟩:=this;exact .inr ⟨i,y,hy,fun S2 hg=>Fa h h1 (by rw[hg,hs.frz i y hy])⟩
  ·rename_i row fld hx;obtain⟨u,h1,h2⟩:=I6 ht hx;split
   ·rename_i b E;obtain⟨⟨b',L,z⟩,hr,e⟩:=UP.1 E;subst e;obtain⟨_,g,_⟩:=jD hs hr;cases h2 with
    |rp _ _ h0=>exact⟨0,0,g,fun S2 hg=>La h h1 hg⟩
   trivial
  trivial
 ·rename_i t x k ok;split
  ·rename_i b hx;obtain⟨u,h1,h2⟩:=I6 ht hx;cases h2 with
   |map _ i q g=>
    cases hc: !ok&&keyF P t f k with
    |false=>exact⟨i,q,g,fun S2 hg=>Hq h h1 hg⟩|true=>
     rw[Tl,Uh]at hc;refine⟨i,q,g,fun S2 hg=>?_⟩;have hk:∃kv,c9 tm k=some kv:=by simp only[c8,j5,h1]at h;grind
     obtain⟨kv,B⟩:=hk;have D:=hg kv (Pk ht B hc.2);refine mK (call:=call) rfl ?_;simp only[c8,j5,h1,B,hc.1]at h⊢;rw[<-D,(l6 h).1];rfl
  trivial
 ·rename_i t x lo hi G;have free:∀ {a:SV},u6 f x=some a->(∀w,VD P U τ F a w-> ∀i o l c,w≠ .slice (some ⟨i,o,none⟩) l c)-> ∀S2,xrd P tm S2 (.slice t x lo hi G)=some v:=by intro a C hn S2;obtain⟨u,h1,h2⟩:=I6 ht C;exact jR h h1 S2 fun i o l c e=>absurd e (hn u h2 i o l c)
  split
  ·rename_i t' L c hx;obtain⟨u,h1,h2⟩:=I6 ht hx;cases h2 with
   |lst _ _ _ _ hp _=>
    generalize Dat.lst (L.toR U)=d at hp;cases hp with
    |nils=>exact .inl fun S2=>jR h h1 S2 fun i o l c e=>by cases e
    |vague=>exact .inl fun S2=>jR h h1 S2 fun i o l c e=>by cases e
    |sl e i o c b cs n z rows x hF=>refine .inr ⟨i,b,hF,fun S2 hg=>jR h h1 S2 fun H o' l' c' e=>?_⟩;cases e;rw[hg,hs.frz i b hF]
  rename_i hx;exact free hx fun w r i o l c e=>by cases r;cases e
  rename_i hx;exact free hx fun w r i o l c e=>by cases r;cases e
  trivial
 ·rename_i args ats;split
  ·rename_i x hx;have A:∀ {a:SV},u6 f x=some a->(∀w,VD P U τ F a w-> ∀i,w≠ .map (some i))->CC P τ F S tm (.call ⟨.builtin .len,args,ats⟩) v .free:=by intro a C hn S2;obtain⟨u,h1,h2⟩:=I6 ht C;exact Qd h hx h1 (hn u h2) S2
   split;rename_i he;exact A he fun w r i=>by cases r;simp
   rename_i he;exact A he fun w r i=>by cases r<;>simp
   ·rename_i he;refine A he fun w r i=>?_;cases r with
    |lst _ _ _ _ hp _=>obtain⟨a,l,c,rfl⟩:=hp.lst_slice;simp
   rename_i he;exact A he fun w r i=>by cases r;simp
   trivial
  trivial
 trivial
variable (P) in
def snw (f:Fm)(o:Op):Bb (B4×(Nat->SV)):=
 match o with
 | .alloc e=>bif Nat.beq e rgT then none else match rJ P e with
  |some l=>some (.cells l e l.length,fun b=>.ptr b l.length (.int 0) 0)|none=>none
 | .box e x=>bif Nat.beq e rgT then none else match u6 f x with
  |some v=>match C6 v with
   |some l=>some (.cells l e l.length,fun b=>.ptr b l.length (.int 0) 0)|none=>none
  |none=>none
 | .buildSlice t len parts=>match iH f parts.toList with
  |some ps=>match P.underlying t with
   |some (.slice e)=>match P.info? e with
    |some ie=>match rJ P e with
     | some z => bif Nat.beq z.length ie.size && Nat.ble (len * ie.size) 16777216 && Nat.ble len 16777216 then
       match rG (fun i=>some (i*ie.size,ie.size)) (NY len z) ps with
       |some cs=>some (.cells cs e ie.size,fun b=>.sl b ie.size (.int 0) (.int len) (.ex (.int len)))|none=>none
      else none
     |none=>none
    |none=>none
   |_=>none
  |none=>none
 |_=>none
variable (P U) in
def NwOK (τ:Tau)(F:Ac)(tm:Ao)(o:Op)(x:B4)(mk:Nat->SV):Prop:=
 ∃n,xnw P tm o=some n/\(∀τ',Tle τ τ'->BD P U τ' F 0 x n.blk)/\ ∀(τ':Tau) b id,τ' b=some (some (id,0))->VD P U τ' F (mk b) (n.val id)
def Qw {vs:Af}{e:Ax}(h:VDL P U τ F l vs):(∀τ',Tle τ τ'->BD P U τ' F 0 (.cells l e l.length) (I5 vs e vs.length))/\ ∀(τ':Tau) b d,τ' b=some (some (d,0))->VD P U τ' F (.ptr b l.length (.int 0) 0) ((⟨I5 vs e vs.length,.ptr,rfl⟩:Nw).val d):=by refine⟨fun τ' ht=>?_,fun τ' b d hb=>?_⟩;rw[h.1];exact cR (h.mono ht (Vu F)) e vs.length;exact VD.ptr' hb (by show(0:Int)<=0;omega) (by show 0=0+(0:Int).toNat*_+0;simp)
theorem SF (ht:TD P U τ F f tm){o:Op}{x:B4}{mk:Nat->SV}(h:snw P f o=some (x,mk)):NwOK P U τ F tm o x mk:=by
 unfold snw at h;split at h
 ·rename_i e;cases hb:Nat.beq e rgT with
  |true=>grind|false=>
  rw[hb,TF]at h;split at h;rename_i l hl;cases h;obtain⟨z,h1,h2⟩:=dQ (U:=U) (τ:=τ) (F:=F) hl;exact⟨_,by simp only[xnw,hb,TF,bR,h1];rfl,Qw h2⟩;cases h
 ·rename_i e x;cases hb:Nat.beq e rgT with
  |true=>grind|false=>
  rw[hb,TF]at h;split at h;rename_i v hv;split at h;rename_i l hl;cases h;obtain⟨w,h1,h2⟩:=I6 (P:=P) (U:=U) ht hv;exact⟨_,by simp only[xnw,hb,TF,h1];rfl,Qw (dL h2 hl)⟩;cases h;cases h
 ·rename_i t len C;split at h
  ·rename_i ps r;obtain⟨H,y,A⟩:=jI (P:=P) (U:=U) ht r;split at h
   ·rename_i e he;split at h
    ·rename_i ie g;split at h
     ·rename_i z hz;obtain⟨zv,h1,h2⟩:=dQ (U:=U) (τ:=τ) (F:=F) hz;rw[h2.1]at h;cases hb:Nat.beq zv.cells.toList.length ie.size&&Nat.ble (len*ie.size) 16777216&&Nat.ble len 16777216 with
      |false=>grind|true=>
       rw [hb, TE] at h;split at h
       ·rename_i cs d;cases h;obtain⟨ys,h3,h4⟩:=iF (sJ h2 len) A d;refine⟨⟨I5 ys e ie.size,.slice len len,rfl⟩,?_,fun τ' hl=>cR (h4.mono hl (Vu F)) e ie.size,fun τ' b G B=>?_⟩;simp only[xnw,y,Hi,he,g,h1,hb,TE,h3]
        ·have D:len<unk:=by simp only[Tl,Up]at hb;unfold unk;omega
         have:=VD.sl (P:=P) (U:=U) (F:=F) b ie.size (.int 0) (.int len) (.ex (.int len)) G 0 len B (Uy 0) (Int.natCast_nonneg len) ⟨Int.natCast_nonneg len,(Uc len).symm,D,Uy _⟩;have e1:(E.int (len:Int)).toN U=len:=Uc len;rw[e1]at this;have e2:(E.int 0).toN U*ie.size=0:=by show(0:Int).toNat*_=0;simp
         rw[e2]at this;exact this
       cases h
     cases h
    cases h
   cases h
  cases h
 cases h
end
def oG {nx0:Nat}{m:Nat->Bool}:∀(es:List Ent) (S:Hp),(takes nx0 m es S).nx=S.nx
 | [],S=>rfl|e::es,S=>by
  unfold takes;cases e.nw with
  |none=>exact oG es S|some n=>cases m e.i with
   |false=>exact oG es S|true=>exact oG es _
theorem pZ {nx0:Nat}{m:Nat->Bool}{j:Nat}:∀(es:List Ent) (S:Hp),(∀e∈es,e.nw≠none->m e.i=true->j≠nx0+e.i)->(takes nx0 m es S).m.get j=S.m.get j
 | [],S,_=>rfl|e::es,S,h=>by
  unfold takes;have b:=fun S=>pZ es S fun e' he'=>h e' (by grind);have h0:=h e (by simp);cases hn:e.nw with
  |none=>grind|some n=>
   simp only;cases hm:m e.i with
   |false=>grind|true=>rw[TE,b];show(S.m.set _ _).get j=_;rw[VX,TH (h0 (by grind) hm)]
theorem zO {nx0:Nat}{m:Nat->Bool}{e:Ent}{n:Nw}:∀(es:List Ent) (S:Hp),e∈es->e.nw=some n->m e.i=true->es.Pairwise (fun a b=>a.i≠b.i)->(takes nx0 m es S).m.get (nx0+e.i)=some n.blk
 | [],S,he,_,_,_=>by grind|e'::es,S,he,hn,hm,hp=>by
  unfold takes;rw[List.pairwise_cons]at hp;by_cases d:e=e';subst d;rw[hn];simp only[hm,TE];rw[pZ];show(S.m.set _ _).get _=_;rw[VX,TJ rfl];grind
  ·have he':e∈es:=by grind
   have g:=fun S=>zO (nx0:=nx0) es S he' hn hm hp.2;grind
structure Pd where
 b:Nat
 i:Nat
 x:B4
structure En where
 i:Nat
 pre:Nat
 w:Bool
 nr:Bool
 r:Rd
 keys:Ah
 fr:Bool
def U7 (b:Nat):Ah->Bool
 | []=>false|k::l=>bif Nat.beq b k then true else U7 b l
theorem P5 {b:Nat}:∀ {l:Ah},U7 b l=false->b∉l
 | [],_=>by simp|k::l,h=>by unfold U7 at h;by_cases e:b=k;simp_all;rw[z8 e,TF]at h;simp[e,P5 h]
def rH (a r:Rd):Bool:=match a,r with
 | .mlk t b,.mlk t' b'=>Nat.beq t t'&&Nat.beq b b'|_,_=>false
def fP (pre:Nat)(keys:Ah)(ws:Rd)(e:En):Bool:=
 bif e.nr then(bif pre.testBit e.i then true else match e.r with
  | .free=>true| .frz=>true| .blk b=> !U7 b keys| .mlk t b=> !U7 b keys||rH ws (.mlk t b)
  | .bad=>false)else true
def eL (pre:Nat)(r:Rd)(y:En):Bool:=
 bif y.w then(bif pre.testBit y.i then true else match r with
  | .free=>true| .blk b=> !U7 b y.keys| .mlk t b=> !U7 b y.keys||rH y.r (.mlk t b)
  | .frz=> !y.fr|_=>false)else true
def PT (S0:Hp)(esX:List Ent)(k:Nat)(Sk:Hp):Prop:=(k=0/\Sk=S0)\/ ∃x∈esX,isW x=true/\k=x.i+1/\Sk=x.S2
def Jk (P:Aw)(esX:List Ent)(e:Ent)(k:Nat)(Sk:Hp):Prop:=own esX e k=true\/bA esX e k=false\/ ∃v,xrd P e.tm Sk e.o.op=some v/\veq 1000 v e.r=true
variable {esX:List Ent}
theorem Jk.look {P:Aw}{e:Ent}{k:Nat}{Sk:Hp}(h:Jk P esX e k Sk):pJ P esX e k Sk=true:=by unfold pJ;rcases h<;>grind
def LL {a b:Nat}(h:a<b):Nat.blt a b=true:=Ts h
theorem Qv {a b:Nat}(h:b<=a):Nat.blt a b=false:=by cases hb:Nat.blt a b;rfl;simp_all;omega
theorem xJ {e:Ent}{k:Nat}{y:Ent}(hy:y∈esX)(d:isW y=true)(h:(y.i<k/\y.pre.testBit e.i=true)\/(k<=y.i/\e.pre.testBit y.i=true)):bA esX e k=false:=by
 cases b:bA esX e k with
 |false=>rfl|true=>unfold bA at b;rw[TS]at b;have:=b y hy;rw[d,TE]at this;rcases h with⟨h1,h2⟩| ⟨h1,h2⟩;rw[LL h1,TE,h2]at this;cases this;simp_all;omega
section
variable {P :Aw}{S0:Hp}
variable {esX:List Ent}{eX:Ent}{k:Nat}{Sk:Hp}
theorem Jk.cons {e:Ent}(h:Jk P esX e k Sk)(h1:k<=eX.i)(h2:e.i<=eX.i):Jk P (eX::esX) e k Sk:=by rcases h with h|h|h;refine .inl ?_;unfold own at h⊢;rw[List.all_cons,h,UT,Qv h1,Qv h2];grind;refine .inr (.inl ?_);unfold bA at h⊢;grind;exact .inr (.inr h)
structure DB (P:Aw)(S0:Hp)(i:Nat)(τ:Tau)(F:Ac)(s:SS)(S:Hp)(es:List En)(esX:List Ent):Prop where
 xi:∀e∈esX,e.i<i
 wx:∀y∈esX,isW y=true-> ∃en∈es,en.w=true/\en.i=y.i/\en.pre=y.pre
 wn:∀en∈es,en.w=true-> ∃y∈esX,isW y=true/\en.i=y.i/\en.pre=y.pre
 look:∀e∈esX,e.wt=true->i4 e.o.op=1-> ∀k Sk,PT S0 esX k Sk->Jk P esX e k Sk
 ag:∀k Sk,PT S0 esX k Sk-> ∀b x j o,s.get b=some x->τ b=some (some (j,o))->(∀en∈es,en.w=true->k<=en.i->b∉en.keys)->Sk.m.get j=S.m.get j
 af:∀k Sk,PT S0 esX k Sk->(∀en∈es,en.w=true->k<=en.i->en.fr=false)-> ∀j y,F j=some y->Sk.m.get j=some y
 rd:∀e∈esX,e.wt=true->i4 e.o.op=1->veq 1000 e.r e.r=true/\ ∃en∈es,en.nr=true/\en.i=e.i/\CC P τ F e.S e.tm e.o.op e.r en.r/\
  (∀b,en.r= .blk b->(∀y∈es,y.w=true->e.i<y.i->y.pre.testBit e.i=false)-> ∃x j q,s.get b=some x/\τ b=some (some (j,q))/\S.m.get j=e.S.m.get j)/\
  ∀t b,en.r= .mlk t b->(∀y∈es,y.w=true->e.i<y.i->y.pre.testBit e.i=false)-> ∃x j q,s.get b=some x/\τ b=some (some (j,q))/\MS P t j e.S S
 am:∀t k Sk,PT S0 esX k Sk-> ∀b x j o,s.get b=some x->τ b=some (some (j,o))->(∀en∈es,en.w=true->k<=en.i->b∉en.keys\/rH en.r (.mlk t b)=true)->MS P t j Sk S
theorem PT.le {i:Nat}(hi:∀e∈esX,e.i<i)(h:PT S0 esX k Sk):k<=i:=by rcases h<;>grind
theorem PT.cons (h:PT S0 (eX::esX) k Sk):PT S0 esX k Sk\/(isW eX=true/\k=eX.i+1/\Sk=eX.S2):=by rcases h with h| ⟨x,hx,b,h1,h2⟩;exact .inl (.inl h);rcases TZ.1 hx with rfl|hx;grind;exact .inl (.inr ⟨x,hx,b,h1,h2⟩)
variable {F F':Ac}
def CC.mono {τ τ':Tau}{S:Hp}{tm:Ao}{o:Op}{v:Av}{r:Rd}(ht:Tle τ τ')(hF:Fle F F')(h:CC P τ F S tm o v r):CC P τ' F' S tm o v r:=by
 cases r with
 |free=>exact h|blk b=>obtain⟨j,q,h1,h2⟩:=h;exact⟨j,q,ht _ _ h1,h2⟩
 |frz=>rcases h with h| ⟨j,y,h1,h2⟩;exact .inl h;exact .inr ⟨j,y,hF _ _ h1,h2⟩
 |mlk t b=>obtain⟨j,q,h1,h2⟩:=h;exact⟨j,q,ht _ _ h1,h2⟩
 |bad=>trivial
theorem DB.step {i:Nat}{τ τ':Tau}{s s':SS}{S S':Hp}{es:List En}(h:DB P S0 i τ F s S es esX){en:En}(ht:Tle τ τ')(hF:Fle F F')(hl:∀b x,s.get b=some x->τ' b=τ b)(aj:∀j y,F' j=some y->S'.m.get j=some y)(ai:(isW eX=true->en.fr=false)-> ∀j y,F' j=some y->F j=some y)(hg:∀b,b∉en.keys->s'.get b=s.get b)(ac:∀b x j o,s.get b=some x->τ b=some (some (j,o))->b∉en.keys->S'.m.get j=S.m.get j)(ei:en.i=i)(xi:eX.i=i)(hp:en.pre=eX.pre)(hw:en.w=isW eX)(aa:eX.S2=S')(ae:isW eX=false->S'=S/\en.keys=[])(hf:isW eX=true->es.all (fP eX.pre en.keys en.r)=true)(hm:en.w=true-> ∀t b,rH en.r (.mlk t b)=true-> ∃x x' j q,s.get b=some x/\s'.get b=some x'/\τ b=some (some (j,q))/\MS P t j S S')(hr:eX.wt=true->i4 eX.o.op=1->veq 1000 eX.r eX.r=true/\en.nr=true/\eX.S=S/\CC P τ' F S eX.tm eX.o.op eX.r en.r/\(∀b,(en.r= .blk b\/ ∃t,en.r= .mlk t b)-> ∃x,s.get b=some x)/\es.all (eL eX.pre en.r)=true):DB P S0 (i+1) τ' F' s' S' (en::es) (eX::esX):=by
 have nk:∀b,(en.w=true->b∉en.keys)->b∉en.keys:=fun b hb=>by grind
 have ah:i4 eX.o.op=1->isW eX=false:=fun hk=>by unfold isW;rw[hk];rfl
 have wx:∀y∈eX::esX,isW y=true-> ∃d∈en::es,d.w=true/\d.i=y.i/\d.pre=y.pre:=by intro y hy W;rcases TZ.1 hy with rfl|hy;grind;obtain⟨e1,h1,h2⟩:=h.wx y hy W;grind
 have wn:∀d∈en::es,d.w=true-> ∃y∈eX::esX,isW y=true/\d.i=y.i/\d.pre=y.pre:=by intro y hy W;rcases TZ.1 hy with rfl|hy;grind;obtain⟨e1,h1,h2⟩:=h.wn y hy W;grind
 have rd:∀e∈eX::esX,e.wt=true->i4 e.o.op=1->veq 1000 e.r e.r=true/\ ∃d∈en::es,d.nr=true/\d.i=e.i/\CC P τ' F' e.S e.tm e.o.op e.r d.r/\
   (∀b,d.r= .blk b->(∀y∈en::es,y.w=true->e.i<y.i->y.pre.testBit e.i=false)-> ∃x j q,s'.get b=some x/\τ' b=some (some (j,q))/\S'.m.get j=e.S.m.get j)/\
   ∀t b,d.r= .mlk t b->(∀y∈en::es,y.w=true->e.i<y.i->y.pre.testBit e.i=false)-> ∃x j q,s'.get b=some x/\τ' b=some (some (j,q))/\MS P t j e.S S':=by
  intro e he T hk;rcases TZ.1 he with rfl|he;obtain⟨h1,h2,h3,h4,h5,h6⟩:=hr T hk;obtain⟨l1,l2⟩:=ae (ah hk);refine⟨h1,en,by simp,h2,by rw[ei,xi],by rw[h3];exact h4.mono (VY _) hF,fun b hb _=>?_,fun t b hb _=>?_⟩;obtain⟨x,hx⟩:=h5 b (.inl hb);rw[hb]at h4;obtain⟨j,q,K,_⟩:=h4;grind;obtain⟨x,hx⟩:=h5 b (.inr ⟨t,hb⟩);rw[hb]at h4;obtain⟨j,q,K,_⟩:=h4;exact⟨x,j,q,by rw[hg b (by rw[l2];simp)];exact hx,K,by rw[h3,l1];exact MS.of rfl⟩
  ·obtain⟨h1,N,h2,h3,h4,h5,h6,Z⟩:=h.rd e he T hk;refine⟨h1,N,by simp[h2],h3,h4,h5.mono ht hF,fun b hb D=>?_,fun t b hb D=>?_⟩
   rotate_right 1
   ·obtain⟨x,j,q,K,M,h9⟩:=Z t b hb fun y hy=>D y (by simp[hy]);have B:b∉en.keys\/en.w=true/\rH en.r (.mlk t b)=true:=by
     cases C:en.w with
     |false=>exact .inl (nk b fun h=>by rw[C]at h;cases h)|true=>have E:=D en (by simp) C (by rw[ei];exact h.xi e he);have G:=hf (by rw[<-hw];exact C);rw[TS]at G;have h12:=G N h2;unfold fP at h12;rw[h3,TE,h4,<-hp,E,TF,hb]at h12;simp only[UK,Uh]at h12;rcases h12 with h12|h12;exact .inl (P5 h12);grind
    rcases B with B| ⟨C,ab⟩;exact⟨x,j,q,by rw[hg b B];exact K,ht _ _ M,h9.trans (MS.of (ac b x j q K M B))⟩;obtain⟨_,x',j',q',_,g2,g3,g4⟩:=hm C t b ab;rw[M]at g3;cases g3;exact⟨x',j,q,g2,ht _ _ M,h9.trans g4⟩
   have B:b∉en.keys:=nk b fun C=>by have E:=D en (by simp) C (by rw[ei];exact h.xi e he);have G:=hf (by rw[<-hw];exact C);rw[TS]at G;have h12:=G N h2;unfold fP at h12;rw[h3,TE,h4,<-hp,E,TF,hb]at h12;simp only[Uh]at h12;exact P5 h12
   grind
 refine⟨fun e he=>?_,wx,wn,?_,?_,fun k Sk g hc j y hj=>?_,rd,fun t k Sk g b x j o hb H V=>?_⟩
 rotate_right 1
 ·rcases g.cons with g| ⟨O,rfl,rfl⟩
  ·have X:=g.le h.xi;have B:b∉en.keys\/en.w=true/\rH en.r (.mlk t b)=true:=by grind
   rcases B with B| ⟨C,ab⟩;rw[hg b B]at hb;rw[hl b x hb]at H;exact(h.am t k Sk g b x j o hb H fun d R=>V d (by simp[R])).trans (MS.of (ac b x j o hb H B));obtain⟨x0,_,j',q',g1,_,g3,g4⟩:=hm C t b ab;rw[hl b x0 g1,g3]at H;cases H;exact(h.am t k Sk g b x0 _ _ g1 g3 fun d R=>V d (by simp[R])).trans g4
  rw [aa]; exact MS.of rfl
 rotate_right 1
 rcases g.cons with g| ⟨O,rfl,rfl⟩;have X:=g.le h.xi;exact h.af k Sk g (fun d he=>hc d (Ut _ he)) j y (ai (fun O=>hc en (by simp) (by rw[hw];exact O) (by omega)) j y hj);grind;rcases TZ.1 he with rfl|he;omega;exact Nat.lt_succ_of_lt (h.xi e he)
 ·intro e he T hk k Sk g;rcases TZ.1 he with rfl | he
  ·obtain⟨h1,h2,h3,h4,h5,h6⟩:=hr T hk;have al:=ah hk;rcases g.cons with g| ⟨hc,_⟩
   ·have Q:∀d∈es,eL e.pre en.r d=true:=TS.1 h6;by_cases c1:∃y∈esX,isW y=true/\k<=y.i/\e.pre.testBit y.i=true;obtain⟨y,hy,c2,c3,c4⟩:=c1;exact .inr (.inl (xJ (Ut _ hy) c2 (.inr ⟨c3,c4⟩)))
    ·have A:∀d∈es,d.w=true->k<=d.i->e.pre.testBit d.i=false:=by
      intro d he' ad X;obtain⟨y,hy,d1,d2,d3⟩:=h.wn d he' ad;cases ht:e.pre.testBit d.i with
      |false=>rfl|true=>exact absurd ⟨y,hy,d1,by omega,by rw[<-d2];exact ht⟩ c1
     by_cases c2:∃y∈esX,isW y=true/\k<=y.i
     ·obtain⟨y,hy,d1,d2⟩:=c2;obtain⟨d,e1,e2,e3,e4⟩:=h.wx y hy d1;have l1:=A d e1 e2 (by omega);have o1:=Q d e1;unfold eL at o1;rw[e2,TE,l1,TF]at o1;refine .inr (.inr ⟨e.r,?_,h1⟩);cases z:en.r with
      |free=>rw[z]at h4;exact h4 Sk|blk b=>rw[z]at h4;obtain⟨j,q,K,M⟩:=h4;obtain⟨x,hx⟩:=h5 b (.inl z);refine M Sk (h.ag k Sk g b x j q hx (by rw[<-hl b x hx];exact K) fun J R Y m3=>?_);have L:=Q J R;unfold eL at L;rw[Y,TE,A J R Y m3,TF,z]at L;simp only[Uh]at L;exact P5 L
      |frz=>rw[z]at h4;rcases h4 with h4| ⟨j,w,K,M⟩;exact h4 Sk;refine M Sk (h.af k Sk g (fun J R Y m3=>?_) j w K);have L:=Q J R;unfold eL at L;rw[Y,TE,A J R Y m3,TF,z]at L;simpa using L
      |mlk t b=>rw[z]at h4;obtain⟨j,q,K,M⟩:=h4;obtain⟨x,hx⟩:=h5 b (.inr ⟨t,z⟩);refine M Sk (h.am t k Sk g b x j q hx (by rw[<-hl b x hx];exact K) fun J R Y m3=>?_).symm;have L:=Q J R;unfold eL at L;rw[Y,TE,A J R Y m3,TF,z]at L;simp only[UK,Uh]at L;exact L.imp P5 id
      |bad=>rw[z]at o1;cases o1
     ·refine .inl ?_;unfold own;rw[TS];intro y hy;cases W:isW y with
      |false=>rfl|true=>
       rcases TZ.1 hy with rfl|hy;grind
       ·have hlt:y.i<k:=by rcases Nat.lt_or_ge y.i k with hh|hh;exact hh;exact absurd ⟨y,hy,W,hh⟩ c2
        have:=h.xi y hy;rw[TE,LL hlt,LL (by omega)];rfl
   rw[al]at hc;cases hc
  ·have an:=h.xi e he;rcases g.cons with g| ⟨O,rfl,rfl⟩;exact(h.look e he T hk k Sk g).cons (by rw[xi];exact g.le h.xi) (by omega)
   ·by_cases c1:∃y∈eX::esX,isW y=true/\e.i<y.i/\y.pre.testBit e.i=true;obtain⟨y,hy,c2,c3,c4⟩:=c1;refine .inr (.inl (xJ hy c2 (.inl ⟨?_,c4⟩)));rcases TZ.1 hy with rfl|hy;omega;have:=h.xi y hy;omega
    ·have A:∀y∈en::es,y.w=true->e.i<y.i->y.pre.testBit e.i=false:=by
      intro d he' ad X;obtain⟨y,hy,d1,d2,d3⟩:=wn d he' ad;cases ht:d.pre.testBit e.i with
      |false=>rfl|true=>exact absurd ⟨y,hy,d1,by omega,by rw[<-d3];exact ht⟩ c1
     obtain⟨h1,N,h2,h3,h4,h5,h6,Z⟩:=rd e (by simp[he]) T hk;refine .inr (.inr ⟨e.r,?_,h1⟩);rw[aa];cases z:N.r with
     |free=>rw[z]at h5;exact h5 S'|blk b=>rw[z]at h5;obtain⟨j,q,K,M⟩:=h5;obtain⟨x,j',q',h9,E,G⟩:=h6 b z A;rw[K]at E;cases E;exact M S' G
     |mlk t b=>rw[z]at h5;obtain⟨j,q,K,M⟩:=h5;obtain⟨x,j',q',h9,E,G⟩:=Z t b z A;rw[K]at E;cases E;exact M S' G
     |frz=>rw[z]at h5;rcases h5 with h5| ⟨j,y,K,M⟩;exact h5 S';exact M S' (aj j y K)
     |bad=>
      have ak:N∈es:=by rcases TZ.1 h2 with rfl|hm;omega;exact hm
      have o1:=hf O;rw[TS]at o1;have L:=o1 N ak;unfold fP at L;rw[h3,TE,h4,<-hp,A en (by simp) (by rw[hw,O]) (by omega),TF,z]at L;cases L
 intro k Sk g b x j o hb H V;rcases g.cons with g| ⟨O,rfl,rfl⟩;have X:=g.le h.xi;have B:b∉en.keys:=nk b fun C=>V en (by simp) C (by omega);rw[hg b B]at hb;rw[hl b x hb]at H;rw[h.ag k Sk g b x j o hb H fun d R=>V d (by simp[R]),ac b x j o hb H B];rw[aa]
end
end Go.Sx
namespace Go.Sx
open Go.Xe
def tkl (pd:List Pd):List (Nat×Bb B4):=pd.map fun p=>(p.b,some p.x)
def fQ (s:SS)(pd:List Pd):SS:= {s with h:=tkl pd++s.h}
def Ex (s:SS):SS:= {s with nx:=s.nx+1}
theorem bP {s:SS}{b:Nat}:∀ {pd:List Pd},(∀p∈pd,b≠p.b)->(fQ s pd).get b=s.get b
 | [],_=>rfl|p::pd,h=>by have d:=bP (s:=s) fun q hq=>h q (Ut _ hq);unfold SS.get fQ tkl at d⊢;simp only[Um,Uw,A0];grind
theorem vO {s:SS}{p:Pd}:∀ {pd:List Pd},p∈pd->pd.Pairwise (fun p q=>p.b≠q.b)->(fQ s pd).get p.b=some p.x
 | [],h,_=>by grind|q::pd,h,hp=>by
  rw[List.pairwise_cons]at hp;by_cases e:q.b=p.b;rcases TZ.1 h with rfl|h;unfold SS.get fQ tkl;simp only[Um,Uw,A0,TJ];grind
  ·have h':p∈pd:=by grind
   have d:=vO (s:=s) h' hp.2;unfold SS.get fQ tkl at d⊢;simp only[Um,Uw,A0];grind
section
variable {P :Aw}{U:Ab}{τ0:Tau}{F0:Ac}{s0:SS}{hp0:Hp}{n:Nat}
variable (P U) in
structure PDOK (s0:SS)(hp0:Hp)(i:Nat)(τ:Tau)(F:Ac)(s:SS)(esX:List Ent)(I:Nat)(p:Pd):Prop where
 lt:p.i<i
 un:I.testBit p.i=false
 g:s.get p.b=none
 lo:s0.nx<=p.b
 hi:p.b<s.nx
 t:τ p.b=some (some (hp0.nx+p.i,0))
 f:F (hp0.nx+p.i)=none
 u:∀c o,τ c=some (some (hp0.nx+p.i,o))->c=p.b
 e:∃e∈esX,e.i=p.i/\ ∃nw,e.nw=some nw/\BD P U τ F 0 p.x nw.blk
variable (P U) in
structure DA (τ0:Tau)(F0:Ac)(s0:SS)(hp0:Hp)(n i:Nat)(τ:Tau)(F:Ac)(s:SS)(S:Hp)(f:Fm)(tm:Ao)(pd:List Pd)(esX:List Ent)(I:Nat):Prop where
 sd:SD P U τ F s S
 td:TD P U τ F f tm
 ext:Ext τ0 F0 s0 hp0 τ F s S
 room:hp0.nx+n<=S.nx
 ib:∀j,i<=j->I.testBit j=false
 xd:esX.Pairwise (fun a b=>a.i≠b.i)
 pn:pd.Pairwise (fun p q=>p.b≠q.b)
 pds:∀p∈pd,PDOK P U s0 hp0 i τ F s esX I p
 cl:∀j,i<=j->j<n->(∀c o,τ c≠some (some (hp0.nx+j,o)))/\F (hp0.nx+j)=none
 tk:∀e∈esX,e.nw≠none->I.testBit e.i=false-> ∃p∈pd,p.i=e.i
variable {i :Nat}{τ:Tau}{F:Ac}{s:SS}{S:Hp}{f:Fm}{tm:Ao}{pd:List Pd}{esX:List Ent}{I:Nat}
variable {f':Fm}
def DA.fr (h:DA P U τ0 F0 s0 hp0 n i τ F s S f tm pd esX I)(hf:TD P U τ F f' tm):DA P U τ0 F0 s0 hp0 n i τ F s S f' tm pd esX I:= {h with td:=hf}
variable {eX:Ent}
theorem eM (d:esX.Pairwise (fun a b=>a.i≠b.i))(g:∀e∈esX,e.i<i)(he:eX.i=i):(eX::esX).Pairwise (fun a b=>a.i≠b.i):=by rw[List.pairwise_cons];grind
variable {tm':Ao}
theorem DA.keep (h:DA P U τ0 F0 s0 hp0 n i τ F s S f tm pd esX I)(z:∀e∈esX,e.i<i){s':SS}(w:SD P U τ F s' S)(y:TD P U τ F f' tm')(hh:s'.h=s.h)(hn:s'.nx=s.nx)(d:Ext τ F s S τ F s' S)(he:eX.i=i)(A:eX.nw=none):DA P U τ0 F0 s0 hp0 n (i+1) τ F s' S f' tm' pd (eX::esX) I:=by
 have hg:∀b,s'.get b=s.get b:=fun b=>by unfold SS.get;rw[hh]
 refine⟨w,y,h.ext.trans d,h.room,fun j hj=>h.ib j (by omega),eM h.xd z he,h.pn,fun p hp=>?_,fun j hj=>h.cl j (by omega),fun e hm r=>?_⟩;have k:=h.pds p hp;obtain⟨e,e1,e2⟩:=k.e;exact⟨by grind,k.un,by rw[hg];exact k.g,k.lo,by rw[hn];exact k.hi,k.t,k.f,k.u,⟨e,by grind,e2⟩⟩;rcases TZ.1 hm with rfl|hm;grind;exact h.tk e hm r
theorem DA.pend (h:DA P U τ0 F0 s0 hp0 n i τ F s S f tm pd esX I)(J:∀e∈esX,e.i<i)(E:i<n){x:B4}{nw:Nw}(H:TD P U (put τ s.nx (some (hp0.nx+i,0))) F f' tm')(Q:BD P U (put τ s.nx (some (hp0.nx+i,0))) F 0 x nw.blk)(he:eX.i=i)(V:eX.nw=some nw):DA P U τ0 F0 s0 hp0 n (i+1) (put τ s.nx (some (hp0.nx+i,0))) F (Ex s) S f' tm' (⟨s.nx,i,x⟩::pd) (eX::esX) I:=by
 have h0:=h.sd.new _ (TK _);have d:=cJ (some (hp0.nx+i,0)) h0;obtain⟨T,O⟩:=h.cl i (TK _) E;have G:=h.room;have old:∀b,b≠s.nx->put τ s.nx (some (hp0.nx+i,0)) b=τ b:=fun b hb=>B8 τ _ hb;have A:∀b x,s.get b=some x->b≠s.nx:=fun b x hb=>by have:=h.sd.bound hb;omega
 refine⟨⟨fun b y hb=>?_,fun b c y z k o j q hb hc B e1 e2=>?_,h.sd.frz,fun b j o hb=>?_,h.sd.flt,fun b hb=>?_,h.sd.fc,fun r hr=>(h.sd.fz r hr).mono d (Vu F)⟩,H,?_,h.room,fun j hj=>h.ib j (by omega),eM h.xd J he,?_,fun p hp=>?_,fun j hj D=>?_,fun e hm B hI=>?_⟩;have w:=hb;rcases h.sd.live b y w with⟨k,o,z,h1,h2,h3,h4⟩| ⟨h1,h2⟩;exact .inl ⟨k,o,z,by grind,h2,h3,h4.mono d (Vu F)⟩;grind;have w:=hb;have C:=hc;rw[old b (A b y w)]at e1;rw[old c (A c z C)]at e2;exact h.sd.inj b c y z k o j q w C B e1 e2;by_cases e:b=s.nx;subst e;rw[t6]at hb;grind;rw[old b e]at hb;exact h.sd.lt b j o hb;have:s.nx+1<=b:=hb;rw[old b (by omega)];exact h.sd.new b (by omega);obtain⟨l,M,a2,a3,R,N⟩:=h.ext.hh;refine⟨h.ext.t.trans d,h.ext.f,h.ext.nx,Us h.ext.snx (UI _),fun b hb=>?_,h.ext.low,⟨l,M,a2,fun b j o hb K=>?_,fun j y hj hy=>?_,N⟩,h.ext.hf,h.ext.win⟩;have:=h.ext.snx;rw[old b (by omega)];exact h.ext.st b hb;by_cases e:b=s.nx;subst e;rw[t6]at K;grind;grind;grind;rw[List.pairwise_cons];exact⟨fun p hp=>by have:=(h.pds p hp).hi;exact Nat.ne_of_gt this,h.pn⟩
 ·rcases TZ.1 hp with rfl|hp
  ·refine⟨Uv i,h.ib i (TK _),?_,h.ext.snx,Uv _,t6 _ _ _,O,fun c o hc=>?_,(by grind)⟩
   ·cases hq:(Ex s).get s.nx with
    |none=>rfl|some y=>exact absurd rfl (A s.nx y hq)
   grind
  have k:=h.pds p hp;obtain⟨e,e1,e2,L,e3,e4⟩:=k.e;refine⟨by grind,k.un,k.g,k.lo,Nat.lt_succ_of_lt k.hi,d _ _ k.t,k.f,fun c o hc=>?_,⟨e,by grind,e2,L,e3,e4.mono d (Vu F)⟩⟩;by_cases e:c=s.nx;subst e;rw[t6]at hc;grind;rw[old c e]at hc;exact k.u c o hc
 refine⟨fun c o hc=>?_,(h.cl j (by omega) D).2⟩;by_cases e:c=s.nx;subst e;rw[t6]at hc;grind;rw[old c e]at hc;exact(h.cl j (by omega) D).1 c o hc;rcases TZ.1 hm with rfl|hm;simp_all;obtain⟨p,hp,e⟩:=h.tk e hm B hI;grind
theorem DA.take (h:DA P U τ0 F0 s0 hp0 n i τ F s S f tm pd esX I)(m:Nat->Bool)(hm:∀e∈esX,e.nw≠none->(m e.i=true↔ ∃p∈pd,p.i=e.i)):SD P U τ F (fQ s pd) (takes hp0.nx m esX S)/\Ext τ0 F0 s0 hp0 τ F (fQ s pd) (takes hp0.nx m esX S)/\(takes hp0.nx m esX S).nx=S.nx/\ ∀j,(∀p∈pd,j≠hp0.nx+p.i)->(takes hp0.nx m esX S).m.get j=S.m.get j:=by
 have r:=oG (nx0:=hp0.nx) (m:=m) esX S;have A:∀j,(∀p∈pd,j≠hp0.nx+p.i)->(takes hp0.nx m esX S).m.get j=S.m.get j:=fun j hj=>pZ esX S fun e he B L=>by grind
 have D:∀p∈pd,∃y,(takes hp0.nx m esX S).m.get (hp0.nx+p.i)=some y/\BD P U τ F 0 p.x y:=fun p hp=>by obtain⟨e,e1,e2,nw,e3,e4⟩:=(h.pds p hp).e;have:=zO (nx0:=hp0.nx) esX S e1 e3 ((hm e e1 (by grind)).2 ⟨p,hp,e2.symm⟩) h.xd;grind
 have inv:∀b y,(fQ s pd).get b=some y->(∃p∈pd,b=p.b/\y=p.x)\/((∀p∈pd,b≠p.b)/\s.get b=some y):=by intro b y hb;by_cases c:∃p∈pd,b=p.b;obtain⟨p,hp,rfl⟩:=c;rw[vO hp h.pn,Tk]at hb;grind;have hn:∀p∈pd,b≠p.b:=fun p hp e=>c ⟨p,hp,e⟩;rw[bP hn]at hb;grind
 have apart:∀b y j o,s.get b=some y->τ b=some (some (j,o))-> ∀p∈pd,j≠hp0.nx+p.i:=by intro b y j o hb E p hp e;subst e;have:=(h.pds p hp).u b o E;subst this;rw[(h.pds p hp).g]at hb;cases hb
 have G:∀j y,F j=some y-> ∀p∈pd,j≠hp0.nx+p.i:=fun j y hj p hp e=>by subst e;rw[(h.pds p hp).f]at hj;cases hj
 refine⟨⟨fun b y hb=>?_,fun b c y z k o j q hb hc B e1 e2=>?_,fun j y hj=>by rw[A j (G j y hj)];exact h.sd.frz j y hj,fun b j o hb=>by rw[r];exact h.sd.lt b j o hb,fun j y hj=>by rw[r];exact h.sd.flt j y hj,h.sd.new,h.sd.fc,h.sd.fz⟩,?_,r,A⟩;rcases inv b y hb with⟨p,hp,rfl,rfl⟩| ⟨hn,d⟩;obtain⟨y,h1,h2⟩:=D p hp;exact .inl ⟨_,0,y,(h.pds p hp).t,h1,(h.pds p hp).f,h2⟩;rcases h.sd.live b y d with⟨k,o,z,h1,h2,h3,h4⟩|h1;grind;grind;rcases inv b y hb with⟨p,hp,rfl,rfl⟩| ⟨hn,d⟩;rw[(h.pds p hp).t]at e1;cases e1;rcases inv c z hc with⟨p2,hp2,rfl,rfl⟩| ⟨hn,C⟩;rw[(h.pds p2 hp2).t]at e2;cases e2;intro e;exact B ((h.pds p2 hp2).u _ 0 (by rw[(h.pds p hp).t,e]));grind;rcases inv c z hc with⟨p2,hp2,rfl,rfl⟩| ⟨M,C⟩;rw[(h.pds p2 hp2).t]at e2;grind;exact h.sd.inj b c y z k o j q d C B e1 e2
 ·obtain⟨l,H,a2,a3,O,J⟩:=h.ext.hh;have ge:∀j,j<hp0.nx-> ∀p∈pd,j≠hp0.nx+p.i:=fun j hj p hp=>by omega
  refine⟨h.ext.t,h.ext.f,by rw[r];exact h.ext.nx,h.ext.snx,h.ext.st,fun b y hb hlt=>?_,⟨tkl pd++l,by show tkl pd++s.h=_;rw[H,Tz],fun j hj N=>?_,fun b j o hb E=>?_,fun j y hj hy=>?_,fun hp=>J fun p h=>hp p (by grind)⟩,h.ext.hf,
   let⟨l',K,w⟩:=h.ext.win;⟨tkl pd++l',by show tkl pd++s.h=_;rw[K,Tz],fun b c e z j o cs n hb ht hj hg hl=>by grind⟩⟩
  rcases inv b y hb with⟨p,hp,rfl,rfl⟩| ⟨hn,d⟩;exact absurd hlt (Nat.not_lt.2 (h.pds p hp).lo);exact h.ext.low b y d hlt;grind;grind;grind
theorem DA.write (h:DA P U τ0 F0 s0 hp0 n i τ F s S f tm pd esX I)(D:∀e∈esX,e.i<i){pre:Nat}(r:pre<2^i)(H:∀p∈pd,pre.testBit p.i=true){s1 s':SS}{S1 S':Hp}{τ':Tau}{F':Ac}(G:S1.nx=S.nx)(C:Ext τ0 F0 s0 hp0 τ F s1 S1)(d:Ext τ F s1 S1 τ' F' s' S')(A:SD P U τ' F' s' S')(B:TD P U τ' F' f' tm')(he:eX.i=i)(J:eX.nw=none):DA P U τ0 F0 s0 hp0 n (i+1) τ' F' s' S' f' tm' [] (eX::esX) (I|||pre):=by
 have z:=h.room;have cl:∀j,i+1<=j->j<n-> ∀c o,τ' c≠some (some (hp0.nx+j,o)):=by intro j hj g c o hc;have old:=(h.cl j (by omega) g).1;by_cases hlt:c<s1.nx;rw[d.st c hlt]at hc;exact old c o hc;rcases d.fresh c _ o (UL hlt) hc with h1| ⟨b0,x,o0,h1,h2⟩;omega;grind
 refine⟨A,B,C.trans d,by have:=d.nx;omega,fun j hj=>?_,eM h.xd D he,.nil,fun p hp=>by grind,fun j hj g=>⟨cl j hj g,?_⟩,fun e hm w hI=>?_⟩;rw[Nat.testBit_or,h.ib j (by omega),Bool.false_or];exact Nat.testBit_lt_two_pow (Uo r (Nat.pow_le_pow_right (by omega) (by omega)))
 ·cases hq:F' (hp0.nx+j)with
  |none=>rfl|some y=>obtain⟨l,_,_,_,E,_⟩:=d.hh;rcases E _ y (by omega) hq with h1| ⟨b,o,h1,_⟩;rw[(h.cl j (by omega) g).2]at h1;cases h1;grind
 rcases TZ.1 hm with rfl|hm;grind;rw[Nat.testBit_or,Vl]at hI;obtain⟨p,hp,e1⟩:=h.tk e hm w hI.1;grind
