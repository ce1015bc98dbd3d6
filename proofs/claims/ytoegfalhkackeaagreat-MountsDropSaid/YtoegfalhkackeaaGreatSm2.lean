/- The symbolic engine, parts 13, 14, 15, 16, 17, 18, 19, 20, 21, 22.
  Conditions: none. -/
import Derived.Test.YtoegfalhkackeaaGreatSm1
set_option linter.all false
namespace Go.Sx
open Go.Xe
inductive Src where
 |lit (l:As)
 |rows (L:E)
def Src.cnt (size:Nat):Src->E
 | .lit l=>.int (l.length/size:Nat)| .rows L=>A4 L
def Src.blk (e size:Nat):Src->B0
 | .lit l=>.cells l e size| .rows L=>.rows L e size (.int 0)
def Src.one :Src->Bool
 | .lit l=>l.all xU| .rows _=>true
section
variable (P :Aw)(U:Ab)
def mcut (L off len:E):M Src:=c8 (l9 U (y5 (y6 (A4 L) (y4 off len)))) λ_=>c8 (W6 U L off len) λc=>i5 (.rows c)
def ssrc (e size:Nat)(x:SV):M Src:=
 match x with
 | .nils=>i5 (.lit [])| .sl b z off len _=>v8 λs=>match s.get b with
  | some (.cells l e' z') => bif Nat.beq e e' && Nat.beq z size && Nat.beq z z' then
    (match off,len with
    | .int o,.int n=>bif decide (0<=o)&&decide (0<=n)&&Nat.ble ((o.toNat+n.toNat)*z) l.length then i5 (.lit ((l.drop (o.toNat*z)).take (n.toNat*z)))else b9 "elements: beyond"|off,len=>match vS P e z l with
     |some L=>mcut U L off len|none=>b9 "elements: rows")
   else b9 "elements: type"
  |some (.rows L e' z' _)=>bif Nat.beq e e'&&Nat.beq z size&&Nat.beq z z' then mcut U L off len else b9 "elements: type"|_=>b9 "elements: no block"
 | .lst e' L _=>bif Nat.beq e e'&&Nat.beq size (kf P e).length then i5 (.rows (jL L))else b9 "elements: type"|_=>b9 "elements: value"
def NU (e size:Nat)(x:Src):M E:=
 match x with
 | .rows L=>i5 L| .lit []=>i5 (.op .nil [])| .lit l=>bif Nat.beq size (kf P e).length&&Nat.beq (l.length/size*size) l.length then c8 (qZ (xW P U 20) (kf P e) 0 l) λes=>i5 (.op (.rows (l.length/size) size) es)else b9 "elements: kinds"
end
section
variable {P :Aw}{U:Ab}{τ:Tau}{F:Ac}{s:SS}{hp:Hp}
variable (P U) in
def p8 (τ:Tau)(F:Ac)(e size:Nat):Src->Af->Prop
 | .lit l,vs=>VDL P U τ F l vs
 | .rows L, vs => size = (kf P e).length ∧ vs.length = (L.toR U).length * size ∧ (∀ r ∈ L.toR U, r.length = size) ∧
   ∀(r k:Nat) (row:Ar) (d:Dat),(L.toR U)[r]? =some row->row[k]? =some d-> ∃x,vs[r*size+k]? =some x/\ ∀kd,(kf P e)[k]? =some kd->PV P F kd x d
variable {e size:Nat}{x:Src}{vs:Af}
def p8.mono {τ':Tau}{F':Ac}(ht:Tle τ τ')(hf:Fle F F')(h:p8 P U τ F e size x vs):p8 P U τ' F' e size x vs:=by
 cases x with
 |lit l=>exact VDL.mono ht hf h|rows L=>obtain⟨h1,h2,h3,h4⟩:=h;exact⟨h1,h2,h3,λr k row d hr hk=>let⟨x,k1,k2⟩:=h4 r k row d hr hk;⟨x,k1,λkd b=>(k2 kd b).mono P hf⟩⟩
variable {v:Av}
def PV.oneCell {k:Kd}{d:Dat}(h:PV P F k v d):v.oneCell'=true:=by cases h<;>rfl
theorem p8.ones (h:p8 P U τ F e size x vs)(h1:x.one=true):vs.all Value.oneCell'=true:=by
 cases x with
 |lit l=>exact Ef h h1|rows L=>
  obtain⟨z,A,r,u⟩:=h;rw[Ty];intro y hy;obtain⟨j,hj⟩:=UU hy;have d:j<(L.toR U).length*size:=by grind
  have hs:0<size:=by grind
  have hr:=(Nat.div_lt_iff_lt_mul hs).2 d;have b:(L.toR U)[j/size]? =some (L.toR U)[j/size]:=by grind
  have hl:=r _ (List.getElem_mem hr);have hk:j % size<size:=Nat.mod_lt _ hs;have w:(L.toR U)[j/size][j % size]? =some ((L.toR U)[j/size][j % size]'(by omega)):=by grind
  obtain⟨x,k1,k2⟩:=u _ _ _ _ b w;have m:j/size*size+j % size=j:=by rw[Nat.mul_comm];exact Nat.div_add_mod j size
  rw[m,hj,SQ]at k1;subst k1;have g:(kf P e)[j % size]? =some ((kf P e)[j % size]'(by omega)):=by grind
  exact(k2 _ g).oneCell
def noRp :Kd->Bool
 | .rp=>false|_=>true
def PV.noR {k:Kd}{v:Av}{d:Dat}(h:PV P F k v d)(hk:noRp k=true):noR v=true:=by cases h<;>first|rfl|cases hk
theorem p8.noR {e size:Nat}{L:E}{vs:Af}(h:p8 P U τ F e size (.rows L) vs)(h1:(kf P e).all noRp=true):vs.all noR=true:=by
 obtain⟨z,A,r,u⟩:=h;rw[Ty];intro y hy;obtain⟨j,hj⟩:=UU hy;have g:j<(L.toR U).length*size:=by grind
 have hs:0<size:=by grind
 have hr:j/size<(L.toR U).length:=(Nat.div_lt_iff_lt_mul hs).2 g;have d:(L.toR U)[j/size]? =some (L.toR U)[j/size]:=by simp[hr]
 have hl:=r _ (List.getElem_mem hr);have hk:j % size<size:=Nat.mod_lt _ hs;have w:(L.toR U)[j/size][j % size]? =some ((L.toR U)[j/size][j % size]'(by omega)):=by grind
 obtain⟨x,k1,k2⟩:=u _ _ _ _ d w;have m:j/size*size+j % size=j:=by rw[Nat.mul_comm];exact Nat.div_add_mod j size
 rw[m,hj,SQ]at k1;subst k1;have b:(kf P e)[j % size]? =some ((kf P e)[j % size]'(by omega)):=by grind
 rw[Ty]at h1;exact(k2 _ b).noR (h1 _ (Td b))
variable {n o:Nat}{cs:Ao}
theorem lZ (h:p8 P U τ F e size x vs)(hg:∀(j:Nat) y,vs[j]? =some y->cs.get (o+j)=some y)(hn:o+vs.length<=n):BD P U τ F o (x.blk e size) (.cells cs n e size):=by
 cases x with
 |lit l=>refine⟨cs,n,rfl,by rw[h.1];exact hn,λj a m=>?_⟩;obtain⟨y,h1,h2⟩:=VDL.get h m;grind
 |rows L=>obtain⟨b,u,g,w⟩:=h;refine⟨cs,n,rfl,⟨by omega,b,g,λr k row d hr hk=>?_⟩,by show o+(0:Int).toNat*size<=n;simp;omega⟩;grind
theorem p8.app {A B:E}{b h:Af}(w:p8 P U τ F e size (.rows A) b)(hb:p8 P U τ F e size (.rows B) h):p8 P U τ F e size (.rows (F8 A B)) (b++h):=by
 obtain⟨j,g,y,z⟩:=w;obtain⟨C,m,D,u⟩:=hb;refine⟨j,by rw[M8];simp[g,m,TF],λr hr=>?_,λr k row d hr hk=>?_⟩;rw[M8]at hr;grind
 .rw[M8]at hr;by_cases hlt:r<(A.toR U).length;grind
  .rw[Tb (by omega)]at hr;obtain⟨x,k1,k2⟩:=u _ k row d hr hk;refine⟨x,?_,k2⟩;have:b.length<=r*size+k:=by have:=Tg size (show(A.toR U).length<=r by omega);omega
   rw[Tb this,<-k1,g];congr 1;rw[Nat.sub_mul];have:=Tg size (show(A.toR U).length<=r by omega);omega
theorem G6 {z:Nat}{rows:a8}(hr:A6 P F e z o n cs rows){off len:Int}(h0:0<=off)(h1:0<=len)(h2:off+len<=rows.length){L:E}(hL:L.toR U=pQ rows off len):∃vs,j7 cs (o+off.toNat*z) (len.toNat*z)=some vs/\o+off.toNat*z+len.toNat*z<=n/\p8 P U τ F e z (.rows L) vs/\vs.length=len.toNat*z:=by
 obtain⟨Q,C,y,D⟩:=hr;have hl:=V2 h0 h1 h2;obtain⟨vs,J,K,M⟩:=A9 (R:=λj x=>∀(r k:Nat) (row:Ar) (d:Dat),j=r*z+k->(pQ rows off len)[r]? =some row->row[k]? =some d-> ∀kd,(kf P e)[k]? =some kd->PV P F kd x d) (len.toNat*z) (o+off.toNat*z) 0 λj hj=>by
  have hz:0<z:=by grind
  have hr:j/z<(pQ rows off len).length:=by rw[hl];exact(Nat.div_lt_iff_lt_mul hz).2 hj
  have w:(pQ rows off len)[j/z]? =some (pQ rows off len)[j/z]:=by grind
  have b:=gL w;have B:=y _ (Td b);have hk:j % z<z:=Nat.mod_lt _ hz;have G:(pQ rows off len)[j/z][j % z]? =some ((pQ rows off len)[j/z][j % z]'(by omega)):=by grind
  obtain⟨x,k1,k2⟩:=D _ _ _ _ b G;have N:j/z*z+j % z=j:=by rw[Nat.mul_comm];exact Nat.div_add_mod j z
  refine⟨x,by rw[<-k1];congr 1;rw[TF];omega,λr k row d O g m kd H=>?_⟩;have u:k<z:=by grind
  obtain⟨rfl,rfl⟩:=Dj hk u (show j/z*z+j % z=r*z+k by omega);grind
 refine⟨vs,J,?_,⟨C,by grind,λr h=>?_,λr k row d g m=>?_⟩,K⟩
 .have:off.toNat*z+len.toNat*z<=rows.length*z:=by rw[<-TF];exact Tg z (by omega)
  omega
 rw[hL]at h;exact y r (UC (UB h))
 .rw[hL]at g;have u:k<z:=by have:=y _ (Td (gL g));grind
  have A:r<len.toNat:=by grind
  have hj:r*z+k<vs.length:=by
   have:r*z+z<=len.toNat*z:=by rw[<-Uk];exact Tg z A
   omega
  exact⟨vs[r*z+k]'hj,Tf hj,M (r*z+k) _ (by grind) r k row d (by omega) g m⟩
variable (P U) in
def PO (hp:Hp)(e size:Nat)(v:Av)(x:Src)(τ:Tau)(F:Ac):Prop:=∃n vs,y9 hp size v=some (n,vs)/\p8 P U τ F e size x vs/\vs.length=n*size/\(x.cnt size).toI U=n
def eM {i a len c k z:Nat}{y:Blk}(hg:hp.m.get i=some y)(hr:rdC y=some (cs,k,z))(hk:a+len*size<=k)(hl:j7 cs a (len*size)=some vs):y9 hp size (.slice (some ⟨i,a,none⟩) len c)=some (len,vs):=by simp only[y9,hg,hr,Ta hk,Tk,hl]
def Im {z:Nat}{L off len:E}{i c k e' r:Nat}(hg:hp.m.get i=some (.cells cs k e' r))(hk:n<=k)(hr:A6 P F e z o n cs (L.toR U))(h0:0<=off.toI U)(h1:0<=len.toI U):OKp U (mcut U L off len) s λx=>PO P U hp e z (.slice (some ⟨i,o+off.toN U*z,none⟩) (len.toN U) c) x τ F:=by
 refine OKp.need.bind λ_ _ _ _ p1=>B7.bind λc' _ _ _ hc=>Vq ?_;have p1:=A0 p1;rw[j5,i7]at p1;have b:c'.toR U=pQ (L.toR U) (off.toI U) (len.toI U):=by show(c'.den U).rows=_;rw[hc];rfl
 obtain⟨vs,d,g,h,j⟩:=G6 hr h0 h1 p1 b;refine⟨len.toN U,vs,eM hg rfl (Ub g hk) d,h,j,?_⟩;show(A4 c').toI U=_;rw[i7,b,V2 h0 h1 p1]
theorem Jb (T:1<=size){a:SV}(E:VD P U τ F a v)(hs:SD P U τ F s hp):OKp U (ssrc P U e size a) s λx=>PO P U hp e size v x τ F:=by
 unfold ssrc;split;cases E;exact Vq ⟨0,[],rfl,VM,by simp,by show((0/size:Nat):Int)=0;simp⟩
 .rename_i b z off len cap;refine Vp ?_;split
  .rename_i l e' J hb;cases hq:Nat.beq e e'&&Nat.beq z size&&Nat.beq z J with
   |false=>exact Vl|true=>
    simp only[SR,TJ]at hq;obtain⟨⟨rfl,rfl⟩,rfl⟩:=hq;rcases hs.live b _ hb with⟨i,o,y,k1,k2,kF,cs,n,rfl,k4,G⟩| ⟨k1,Y,e',J,V,k2,k3,k4,G⟩
    .cases E with
     |sl _ _ _ _ _ X o' c g h0 h1 hc=>
      rw[k1]at g;obtain⟨rfl,rfl⟩:=g;split
      .rename_i w u;cases hq:decide (0<=w)&&decide (0<=u)&&Nat.ble ((w.toNat+u.toNat)*z) l.length with
       |false=>exact Vl|true=>
        simp only[SR,To,TY]at hq;obtain⟨⟨q1,q2⟩,q3⟩:=hq;rw[TF]at q3;obtain⟨vs,K,H,W⟩:=A9 (c:=cs) (R:=λj x=>∀a,((l.drop (w.toNat*z)).take (u.toNat*z))[j]? =some a->VD P U τ F a x) (u.toNat*z) (o+w.toNat*z) 0 λj hj=>by
         have N:w.toNat*z+j<l.length:=by omega
         obtain⟨x,w1,w2⟩:=G (w.toNat*z+j) _ (Tf N);grind
        have A:((l.drop (w.toNat*z)).take (u.toNat*z)).length=u.toNat*z:=by grind
        refine Vq ⟨u.toNat,vs,eM k2 rfl (by show o+w.toNat*z+u.toNat*z<=n;omega) K,⟨by rw[A,H],λj a x E hx=>W j x hx a (by grind)⟩,H,?_⟩;show((((l.drop (w.toNat*z)).take (u.toNat*z)).length/z:Nat):Int)=_;rw[A,Nat.mul_div_cancel _ T]
      split;rename_i L hL;exact Im k2 (Tq n) (pO hL k4 G) h0 h1;exact Vl
     |sl0 _ _ _ _ _ g h0 h1 hc=>grind
    cases k2
  .rename_i L e' J ph hb;cases hq:Nat.beq e e'&&Nat.beq z size&&Nat.beq z J with
   |false=>exact Vl|true=>
    simp only[Tk];simp only[SR,TJ]at hq;obtain⟨⟨rfl,rfl⟩,rfl⟩:=hq;rcases hs.live b _ hb with⟨i,o,y,k1,k2,kF,cs,n,rfl,k4,G⟩| ⟨k1,Y,e',J,V,k2,k3,k4,G⟩
    .cases E with
     |sl _ _ _ _ _ X o' c g h0 h1 hc=>rw[k1]at g;obtain⟨rfl,rfl⟩:=g;exact Im k2 (Tq n) k4 h0 h1
     |sl0 _ _ _ _ _ g h0 h1 hc=>grind
    .cases E with
     |sl _ _ _ _ _ X o' c g h0 h1 hc=>grind|sl0 _ _ _ _ _ g h0 h1 hc=>
      obtain⟨rfl,rfl,rfl,rfl⟩:=k2;refine OKp.need.bind λ_ _ _ _ p1=>B7.bind λc' _ _ _ M=>Vq ?_;have C:c'.toR U=[]:=by show(c'.den U).rows=_;rw[M,k3];simp[pQ,Dat.rows]
      refine⟨0,[],by simp[y9],⟨k4,by rw[C];simp,λr h=>(by grind),λr k row d h=>by rw[C]at h;simp at h⟩,by simp,?_⟩;show(A4 c').toI U=0;rw[i7,C];rfl
  exact Vl
 .rename_i e' L clip;cases hq:Nat.beq e e'&&Nat.beq size (kf P e).length with
  |false=>exact Vl|true=>
   simp only[SR,TJ]at hq;obtain⟨rfl,hk⟩:=hq;cases E with
   |lst _ _ _ _ hv hc=>
    refine Vq ?_;have B:(jL L).toR U=L.toR U:=by show((jL L).den U).rows=_;rw[mV];rfl
    have m:((Src.rows (jL L)).cnt size).toI U=((L.toR U).length:Int):=by show(A4 (jL L)).toI U=_;rw[i7,B]
    generalize Q:L.toR U=rows at hv B m;cases hv with
    |nils=>exact⟨0,[],by simp[y9],⟨hk,by rw[B];simp,λr h=>(by grind),λr k row d h=>by rw[B]at h;simp at h⟩,by simp,by rw[m];rfl⟩|vague=>exact⟨0,[],by simp[y9],⟨hk,by rw[B];simp,λr h=>(by grind),λr k row d h=>by rw[B]at h;simp at h⟩,by simp,by rw[m];rfl⟩|sl _ i o c b cs n z _ x hF hb aa hn hz hr hx ab=>
     have hg:=hs.frz i b hF;have O:A6 P F e z o n cs rows:=⟨hn,hz,hr,λr k row d h1 h2=>(by grind)⟩
     have D:pQ rows 0 rows.length=rows:=by simp[pQ]
     obtain⟨vs,K,H,W,v4⟩:=G6 O (len:=rows.length) (Uh 0) (by omega) (by omega) (by rw[B,D]);have Z:(0:Int).toNat*z=0:=by simp
     rw[Z,Uj,TK]at K H;have ez:z=size:=by omega
     subst ez;exact⟨rows.length,vs,eM hg hb H K,W,v4,m⟩
 exact Vl
theorem Cy (h:p8 P U τ F e size x vs)(hs:SD P U τ F s hp):OKh P U (NU P U e size x) τ F s hp λL τ' F' hp'=>τ'=τ/\hp'=hp/\(size=(kf P e).length->p8 P U τ' F' e size (.rows L) vs):=by
 unfold NU;split;exact Vk ⟨rfl,rfl,λ_=>h⟩;have hv:=SZ h.1.symm;subst hv;exact Vk ⟨rfl,rfl,λhk=>⟨hk,by show 0=([]:a8).length*size;simp,λr h=>(by cases h),λr k row d h=>by have:([]:a8)[r]? =some row:=h;simp at this⟩⟩
 .rename_i l _;cases hq:Nat.beq size (kf P e).length&&Nat.beq (l.length/size*size) l.length with
  |false=>exact Vi|true=>
   simp at hq;obtain⟨G,H⟩:=hq;refine(cM (ks:=kf P e) (j:=0) (λk a v τ F s hp=>aR 20 k a v τ F s hp) h hs).bind λes τ1 F1 s1 hp1 ex hs1 ⟨m,u,w,C⟩=>Vk ⟨m,u,λhk=>?_⟩;have A:vs.length=es.length:=by rw[w];exact h.1.symm
   have hr:A6 P F1 e size 0 vs.length (fill .e 0 vs) ((E.op (.rows (l.length/size) size) es).toR U):=bP hk (by omega) (by omega) λj d D=>by
    have hj:j<vs.length:=by grind
    have b:vs[j]? =some vs[j]:=by grind
    refine⟨vs[j],by rw[TA];exact L7 vs j _ b,λB z=>?_⟩;grind
   have g:((E.op (.rows (l.length/size) size) es).toR U).length=l.length/size:=by show(b8 size (l.length/size) _).length=_;rw[M7]
   refine⟨hk,by grind,hr.2.2.1,λr k row d h1 h2=>?_⟩;obtain⟨y,k1,k2⟩:=hr.2.2.2 r k row d h1 h2;refine⟨y,?_,k2⟩;rw[TA,j6]at k1;split at k1;grind;rw[VE]at k1;cases k1
end
section
variable (P :Aw)(U:Ab)
def aS (e size:Nat)(x:Src)(len:E):M SV:=c8 (dZ (x.blk e size)) λb=>i5 (.sl b size (.int 0) len .ge)
def smove (e size b:Nat)(x:Src)(len:E)(cp:Cp):M SV:=λs=>.ret (.sl s.nx size (.int 0) len cp,fK (s.set b none) (x.blk e size))
def wA (e size b:Nat)(off len:E)(cap:Cp)(src:Src):M SV:=
 c8 (NU P U e size src) λLn=>v8 λs=>match s.get b with
 | some (.rows L e' z' ph) => bif Nat.beq e e' && Nat.beq size z' && Nat.beq size (kf P e).length then
   c8 (l9 U (y5 (y6 (A4 L) (y4 off len)))) λ_=>c8 (l9 U (y6 (y4 len (A4 Ln)) (.int 67108865))) λ_=>
   match cap with
   | .ge=>c8 (W6 U L off len) λLo=>smove e size b (.rows (F8 Lo Ln)) (y4 len (A4 Ln)) .ge
   | .un=>c8 (W6 U L off len) λLo=>smove e size b (.rows (F8 Lo Ln)) (y4 len (A4 Ln)) .un
   | .ex c => c8 (gG U (y6 c (y4 len (A4 Ln)))) λt =>
     bif t then c8 (W6 U L off len) λLo=>aS e size (.rows (F8 Lo Ln)) (y4 len (A4 Ln))
     else c8 (l9 U (y5 (y6 ph (y4 off c)))) λ_=>c8 (jM b (some (.rows (.op .over [L,y4 off len,Ln]) e z' ph))) λ_=>i5 (.sl b size off (y4 len (A4 Ln)) (.ex c))
  else b9 "append: type"
 |_=>b9 "append: block"
def sapp (e size:Nat)(s:SV)(src:Src):M SV:=
 match s with
 | .nils=>match src with
  | .lit []=>i5 .nils|src=>c8 (l9 U (y6 (src.cnt size) (.int 67108865))) λ_=>aS e size src (src.cnt size)
 | .sl b z off len cap => bif Nat.beq z size && src.one then v8 λst => match st.get b with
   |some (.cells l e' z')=>match off,len,src with
    | .int o, .int n, .lit m => bif Nat.beq e e' && Nat.beq z z' && decide (0 ≤ o) && decide (0 ≤ n) && Nat.ble ((o.toNat + n.toNat) * z) l.length && Nat.ble (n.toNat + m.length / size) 67108864 && Nat.beq (m.length / size * size) m.length then
      match cap with
      | .ge=>smove e size b (.lit ((l.drop (o.toNat*z)).take (n.toNat*z)++m)) (.int (n.toNat+m.length/size:Nat)) .ge| .un=>b9 "append: cells"
      | .ex c => c8 (gG U (y6 c (.int (n.toNat + m.length / size : Nat)))) λt =>
        bif t then aS e size (.lit ((l.drop (o.toNat*z)).take (n.toNat*z)++m)) (.int (n.toNat+m.length/size:Nat))
        else bif Nat.ble ((o.toNat+n.toNat)*z+m.length) l.length then c8 (jM b (some (.cells (R6 l ((o.toNat+n.toNat)*z) m) e' z'))) λ_=>i5 (.sl b z (.int o) (.int (n.toNat+m.length/size:Nat)) (.ex c))else b9 "append: room"
     else b9 "append: literal"
    |off,len,src=>c8 (zW P b) λ_=>wA P U e size b off len cap src
   |some (.rows _ _ _ _)=>wA P U e size b off len cap src|_=>b9 "append: no block"
  else b9 "append: size"
 | .lst e' L true => bif Nat.beq e e' && Nat.beq size (kf P e).length && src.one then
   c8 (gG U (E9 (src.cnt size) (.int 0))) λt=>bif t then c8 (l9 U (y6 (A4 L) (.int 67108865))) λ_=>i5 (.lst e' L true)else
    c8 (NU P U e size src) λLn=>c8 (l9 U (y6 (y4 (A4 L) (A4 Ln)) (.int 67108865))) λ_=>aS e size (.rows (F8 (jL L) Ln)) (y4 (A4 L) (A4 Ln))
  else b9 "append: type"
 |_=>b9 "append: value"
def IJ (t u:Ax)(s x:SV):M SV:=
 match P.underlying t,P.underlying u with
 |some (.slice e),some (.slice _)=>match P.info? e with
  |none=>b9 "append: type"|some ie=>match ie.zero with
   |none=>b9 "append: zero"|some z=>bif Nat.beq z.cells.toList.length ie.size&&Nat.ble ie.bytes 1048576&&Nat.ble 1 ie.size then c8 (ssrc P U e ie.size x) λsrc=>sapp P U e ie.size s src else b9 "append: size"
 |_,_=>b9 "append: type"
end
section
variable {P :Aw}{U:Ab}{τ:Tau}{F:Ac}{s:SS}{hp:Hp}
noncomputable def aD (hp:Hp)(e size n:Nat)(news:Af)(s:Av):Bb (Av×Hp):=
 match s with
 | .slice none sLen sCap => bif Nat.beq sLen 0 && Nat.beq sCap 0 && Nat.ble n 67108864 then
   bif Nat.beq n 0 then some (.slice none 0 0,hp)
   else some (.slice (some ⟨hp.nx,0,none⟩) n (d8 n 0),hp.new news e size)
  else none
 | .slice (some ⟨i,o,none⟩) sLen sCap=>match hp.m.get i with
  |some (.cells c k e' z')=>
   bif Nat.ble (sLen+n) 67108864&&news.all Value.oneCell' then
    bif Nat.beq n 0 then
     bif Nat.ble sLen sCap then some (.slice (some ⟨i,o,none⟩) sLen sCap,hp)else none
    else
     bif Nat.ble unk sCap then
      bif Nat.ble 1 (E7 sCap)&&Nat.ble (E7 sCap) (sLen+n)then
       bif Nat.ble (o+sLen*size) k then
        match j7 c o (sLen*size)with
        |none=>none|some olds=>some (.slice (some ⟨hp.nx,0,none⟩) (sLen+n) (d8 (sLen+n) 0),hp.new (olds++news) e size)
       else none
      else bif Nat.beq z' size&&Nat.beq e' e&&Nat.ble (o+sLen*size) k then
       bif Nat.ble (sLen+n) (O8 sCap)then
        some (.slice (some ⟨i,o,none⟩) (sLen+n) sCap,qK hp i c (Nat.max k (o+(sLen+n)*size)) e' z' (o+sLen*size) news)
       else
       match j7 c o (sLen*size)with
       |none=>none|some olds=>
        (bif Nat.beq o 0 then fill c (sLen*size) news else fill (fill .e 0 olds) (sLen*size) news).force λct=>
         some (.slice (some ⟨hp.nx,0,none⟩) (sLen+n) (d8 (sLen+n) 0),⟨(hp.m.set i none).set hp.nx (some (.cells ct ((sLen+n)*size) e' z')),hp.nx+1⟩)
      else none
     else bif Nat.ble (sLen+n) sCap then
      bif Nat.ble (o+(sLen+n)*size) k then
       some (.slice (some ⟨i,o,none⟩) (sLen+n) sCap,qK hp i c k e' z' (o+sLen*size) news)
      else none
     else
      bif Nat.ble (o+sLen*size) k then
       match j7 c o (sLen*size)with
       |none=>none|some olds=>some (.slice (some ⟨hp.nx,0,none⟩) (sLen+n) (d8 (sLen+n) 0),hp.new (olds++news) e size)
      else none
   else none
  |some (.ro c k _ _)=>
   bif Nat.ble (sLen+n) 67108864&&Nat.ble sLen sCap&& !Nat.ble unk sCap then
    bif Nat.beq n 0 then some (.slice (some ⟨i,o,none⟩) sLen sCap,hp)
    else bif Nat.ble (sLen+n) sCap then none
    else bif Nat.ble (o+sLen*size) k then
     match j7 c o (sLen*size)with
     |none=>none|some olds=>some (.slice (some ⟨hp.nx,0,none⟩) (sLen+n) (d8 (sLen+n) 0),hp.new (olds++news) e size)
    else none
   else none
  |_=>none
 |_=>none
variable {n:Nat}{news:Af}
def Hx {t u e g:Ax}{ie:Ba}{z:Av}(ht:P.underlying t=some (.slice e))(h:P.underlying u=some (.slice g))(hi:P.info? e=some ie)(hz:ie.zero=some z)(hb:(Nat.beq z.cells.toList.length ie.size&&Nat.ble ie.bytes 1048576)=true){b d:Av}(hx:y9 hp ie.size d=some (n,news)):D1 P hp t u b d=aD hp e ie.size n news b:=by simp only[D1,ht,h,hi,hz,hb,Tk,hx];rfl
variable (P U) in
def sW (hp:Hp)(e size n:Nat)(news:Af)(sv:Av)(c:SV)(τ:Tau)(F:Ac)(hp':Hp):Prop:=∃w,aD hp e size n news sv=some (w,hp')/\VD P U τ F c w
def geN {len:E}(h:len.toI U=n)(hn:n<=67108864):mI U len .ge (d8 n 0):=⟨n,rfl,hn,by omega⟩
def FD (z:Nat):0+(E.int 0).toN U*z=0:=by show 0+(0:Int).toNat*z=0;simp
def qA {len:E}(h:len.toI U=n):len.toN U=n:=by show(len.toI U).toNat=n;rw[h];exact TK n
variable {e size:Nat}
def M4 {x:Src}{vs:Af}{len:E}(h:p8 P U τ F e size x vs)(d:len.toI U=n)(hn:n<=67108864)(hs:SD P U τ F s hp):OKh P U (aS e size x len) τ F s hp λc τ' F' hp'=>hp'=hp.new vs e size/\VD P U τ' F' c (.slice (some ⟨hp.nx,0,none⟩) n (d8 n 0)):=by exact(OKh.alloc hs λτ' ht=>lZ (h.mono ht (Vd F)) (λj y hy=>by rw[TA];exact L7 vs j y hy) (by omega)).bind λb τ' F' s' hp' _ g ⟨h1,h2,h3⟩=>Vk ⟨h3,VK h2 (Uh 0) (by omega) (geN d hn) (FD size).symm (qA d).symm⟩
def OKh.smove {e size b i o j q n c:Nat}{x:B0}{x':Src}{len:E}{cp:Cp}(hb:s.get b=some x)(ht:τ b=some (some (i,o))){hp1:Hp}(hn:hp.nx<=hp1.nx)(hk:∀k,k<hp.nx->k≠i->hp1.m.get k=hp.m.get k)(hj:j=i\/hp.nx<=j)(g:j<hp1.nx){y:Blk}(hi:hp1.m.get j=some y)(h:∀τ',Tle τ τ'->BD P U τ' F q (x'.blk e size) y)(d:len.toI U=n)(hc:mI U len cp c)(hs:SD P U τ F s hp):OKh P U (smove e size b x' len cp) τ F s hp λa τ' F' hp'=>hp'=hp1/\VD P U τ' F' a (.slice (some ⟨j,q,none⟩) n c):=by intro Q hq _;have h0:=hs.new _ (Tq _);obtain⟨h1,h2⟩:=hs.move hb ht hn hk hj g hi (h _ (bN _ h0));exact⟨_,_,hq,_,F,hp1,h1,h2,rfl,VK (t8 _ _ _) (Uh 0) (by omega) hc (by show q=q+(0:Int).toNat*size;simp) (qA d).symm⟩
variable {cs:Ao}{olds:Af}
theorem dJ {a:Nat}(h:∀(j:Nat) y,olds[j]? =some y->cs.get (a+j)=some y)(j:Nat)(y:Av)(hy:(olds++news)[j]? =some y):(fill cs (a+olds.length) news).get (a+j)=some y:=by rw[j6];grind
variable {i k q sLen:Nat}{res:Src}
theorem FO {b o lo:Nat}{x:B0}{len:E}{cp:Cp}(B:∀c,mI U len .ge c->mI U len cp c)(hb:s.get b=some x)(ht:τ b=some (some (i,o)))(hg:hp.m.get i=some (.cells cs k e size))(hl:j7 cs q (sLen*size)=some olds)(hk:q+sLen*size<=k)(O:news.all Value.oneCell'=true)(Q:news.length=n*size)(H:lo<=67108864)(M:sLen+n<=67108864)(u:p8 P U τ F e size res (olds++news))(g:len.toI U=((sLen+n:Nat):Int))(hs:SD P U τ F s hp):OKh P U (smove e size b res len cp) τ F s hp (sW P U hp e size n news (.slice (some ⟨i,q,none⟩) sLen (d8 lo 0))):=by
 have G:=hs.lt b i o ht;obtain⟨R,V⟩:=m9 hl;have L:∀(j:Nat) y,olds[j]? =some y->cs.get (q+j)=some y:=λj y hy=>by grind
 have hx:∀w hp1,aD hp e size n news (.slice (some ⟨i,q,none⟩) sLen (d8 lo 0))=some (w,hp1)->(∀a τ' F' hp',Tle τ τ'->Fle F F'->hp'=hp1/\VD P U τ' F' a w->sW P U hp e size n news (.slice (some ⟨i,q,none⟩) sLen (d8 lo 0)) a τ' F' hp'):=
  λw hp1 h a τ' F' hp' _ _ ⟨h1,h2⟩=>⟨w,by grind,h2⟩
 have r:(Nat.ble (sLen+n) 67108864&&news.all Value.oneCell')=true:=by simp_all
 by_cases K:n=0
 ·
  subst K;have C:news=[]:=SZ (by omega);subst C;have D:∀c,unk<=c->Nat.ble sLen c=true:=λc hc=>Ta (Ub (Nat.le_of_lt (sS (by omega))) hc);have N:∀c,unk<=c->aD hp e size 0 [] (.slice (some ⟨i,q,none⟩) sLen c)=some (.slice (some ⟨i,q,none⟩) sLen c,hp):=by intro c hc;simp only[aD,hg,r,Tk,D c hc];rfl
  have d:=N _ (q0 lo 0);exact(OKh.smove hb ht (Tq _) (λ_ _ _=>rfl) (.inl rfl) G hg (λτ' z=>lZ (u.mono z (Vd F)) (by grind) (by grind)) g (B _ ⟨lo,rfl,H,by omega⟩) hs).mono (hx _ _ d)
 .have d:aD hp e size n news (.slice (some ⟨i,q,none⟩) sLen (d8 lo 0))=bif Nat.ble (sLen+n) lo then
    some (.slice (some ⟨i,q,none⟩) (sLen+n) (d8 lo 0),qK hp i cs (Nat.max k (q+(sLen+n)*size)) e size (q+sLen*size) news)
    else(bif Nat.beq q 0 then fill cs (sLen*size) news else fill (fill .e 0 olds) (sLen*size) news).force λct=>
     some (.slice (some ⟨hp.nx,0,none⟩) (sLen+n) (d8 (sLen+n) 0),⟨(hp.m.set i none).set hp.nx (some (.cells ct ((sLen+n)*size) e size)),hp.nx+1⟩):=by
   simp only[aD,hg,r,Tk,z4 K,Tl,Ta (q0 lo 0),Dt,tF];rw[show Nat.ble 1 0=false from rfl,Bool.false_and,Tl,u7 rfl,u7 rfl,Ta hk,hl];grind
  have J:(sLen+n)*size=sLen*size+n*size:=TF _ _ _;cases A:Nat.ble (sLen+n) lo with
  |true=>
   rw[A,Tk]at d;simp only[qK,VC]at d;refine(OKh.smove (hp:=hp) (hp1:= {hp with m:=hp.m.set i (some (.cells (fill cs (q+sLen*size) news) (Nat.max k (q+(sLen+n)*size)) e size))}) hb ht (Tq _)
    (λj _ hj=>by rw[VF,Tn hj]) (.inl rfl) G (by rw[VF,Tp rfl]) (λτ' z=>?_) g (B _ ⟨lo,rfl,H,by omega⟩) hs).mono (hx _ _ d)
   refine lZ (u.mono z (Vd F)) (λj y hy=>?_) ?_;rw[<-R];exact dJ L j y hy;grind
  |false=>
   rw[A,Tl,VC]at d;refine(OKh.smove hb ht (Ur _)
    (λj hj C=>by rw[VF,Tn (by omega),VF,Tn C]) (.inr (Tq _)) (Ue _) (by rw[VF,Tp rfl]) (λτ' z=>?_) g (B _ (geN g M)) hs).mono (hx _ _ d)
   refine lZ (u.mono z (Vd F)) (λj y hy=>?_) (by grind);by_cases hq:q=0;rw[u7 hq,Tk];have:=dJ (by omega) j y hy;grind;rw[z4 hq,Tl];have:=dJ (λj y hy=>by rw[TA];exact L7 olds j y hy) j y hy;grind
theorem Lk {b o:Nat}{x:B0}{len:E}(hb:s.get b=some x)(ht:τ b=some (some (i,o)))(hg:hp.m.get i=some (.cells cs k e size))(hl:j7 cs q (sLen*size)=some olds)(hk:q+sLen*size<=k)(G:news.all Value.oneCell'=true)(H:news.length=n*size)(u:sLen<unk)(z:sLen+n<=67108864)(h:p8 P U τ F e size res (olds++news))(d:len.toI U=((sLen+n:Nat):Int))(hs:SD P U τ F s hp):OKh P U (smove e size b res len .un) τ F s hp (sW P U hp e size n news (.slice (some ⟨i,q,none⟩) sLen sLen)):=by
 have A:=hs.lt b i o ht;obtain⟨J,K⟩:=m9 hl;have D:∀(j:Nat) y,olds[j]? =some y->cs.get (q+j)=some y:=λj y hy=>by grind
 have g:(Nat.ble (sLen+n) 67108864&&news.all Value.oneCell')=true:=by simp_all
 by_cases w:n=0
 .subst w;have B:news=[]:=SZ (by omega);subst B;have C:aD hp e size 0 [] (.slice (some ⟨i,q,none⟩) sLen sLen)=some (.slice (some ⟨i,q,none⟩) sLen sLen,hp):=by simp only[aD,hg,g,Tk,Ta (Tq sLen)];rfl
  exact(OKh.smove (cp:= .un) (q:=q) hb ht (Tq _) (λ_ _ _=>rfl) (.inl rfl) A hg (λτ' r=>lZ (h.mono r (Vd F)) (by grind) (by grind)) d (Or.inl ⟨u,(qA d).symm,by omega⟩) hs).mono λa τ' F' hp' _ _ ⟨h1,h2⟩=>⟨_,by grind,h2⟩
 .have C:aD hp e size n news (.slice (some ⟨i,q,none⟩) sLen sLen)=some (.slice (some ⟨hp.nx,0,none⟩) (sLen+n) (d8 (sLen+n) 0),hp.new (olds++news) e size):=by simp only[aD,hg,g,Tk,z4 w,Tl,aI u,aI (show sLen<sLen+n by omega),Ta hk,hl]
  refine(OKh.smove (cp:= .un) (hp1:=hp.new (olds++news) e size) (q:=0) hb ht (Ur _)
   (λj hj _=>by show(hp.m.set hp.nx _).get j=_;rw[VF,Tn (by omega)]) (.inr (Tq _)) (Ue _) (by show(hp.m.set hp.nx _).get hp.nx=_;rw[VF,Tp rfl]) (λτ' r=>?_) d (Or.inr (geN d z)) hs).mono λa τ' F' hp' _ _ ⟨h1,h2⟩=>⟨_,by grind,h2⟩
  exact lZ (h.mono r (Vd F)) (λj y hy=>by rw[TA];exact L7 _ j y hy) (by omega)
theorem HS {c:Nat}{len:E}(hg:hp.m.get i=some (.cells cs k e size))(hl:j7 cs q (sLen*size)=some olds)(hk:q+sLen*size<=k)(g:news.all Value.oneCell'=true)(j:c<unk)(r:sLen<=c)(hgt:c<sLen+n)(b:sLen+n<=67108864)(h:p8 P U τ F e size res (olds++news))(d:len.toI U=((sLen+n:Nat):Int))(hs:SD P U τ F s hp):OKh P U (aS e size res len) τ F s hp (sW P U hp e size n news (.slice (some ⟨i,q,none⟩) sLen c)):=by
 have u:aD hp e size n news (.slice (some ⟨i,q,none⟩) sLen c)=some (.slice (some ⟨hp.nx,0,none⟩) (sLen+n) (d8 (sLen+n) 0),hp.new (olds++news) e size):=by simp only[aD,hg];rw[show(Nat.ble (sLen+n) 67108864&&news.all Value.oneCell')=true by simp only[SR,TY];exact⟨b,g⟩];simp only[Tk,z4 (show n≠0 by omega),Tl,aI j,aI hgt,Ta hk,hl]
 exact(M4 h d b hs).mono λa τ' F' hp' _ _ ⟨h1,h2⟩=>⟨_,by grind,h2⟩
theorem Ll {c:Nat}(hg:hp.m.get i=some (.cells cs k e size))(w:news.all Value.oneCell'=true)(z:news.length=n*size)(g:c<unk)(h:sLen<=c)(r:sLen+n<=c)(y:sLen+n<=67108864)(hk:q+(sLen+n)*size<=k){e0:Nat}:∃m,aD hp e0 size n news (.slice (some ⟨i,q,none⟩) sLen c)=some (.slice (some ⟨i,q,none⟩) (sLen+n) c,{hp with m:=m})/\(∀j,j≠i->m.get j=hp.m.get j)/\m.get i=some (.cells (fill cs (q+sLen*size) news) k e size):=by
 have b:(Nat.ble (sLen+n) 67108864&&news.all Value.oneCell')=true:=by simp_all
 by_cases d:n=0;subst d;have u:news=[]:=SZ (by omega);subst u;refine⟨hp.m,?_,λ_ _=>rfl,hg⟩;simp only[aD,hg,b,Tk,u7,Ta h];rfl;refine⟨hp.m.set i (some (.cells (fill cs (q+sLen*size) news) k e size)),?_,λj hj=>by rw[VF,Tn hj],by rw[VF,Tp rfl]⟩;simp only[aD,hg,b,Tk,z4 d,Tl,aI g,Ta r,Ta hk,qK,VC]
end
section
variable {P :Aw}{U:Ab}{τ:Tau}{F:Ac}{s:SS}{hp:Hp}
theorem OKh.change0 {b:Nat}{x:B0}(hb:s.get b=some x)(ht:τ b=some none){x':B0}(hx:∃L e z ph,x'= .rows L e z ph/\L.toR U=[]/\z=(kf P e).length/\ph.toI U<=0)(hs:SD P U τ F s hp):OKh P U (jM b (some x')) τ F s hp λ_ τ' F' hp'=>τ'=τ/\F'=F/\hp'=hp:=by
 intro Q hq _;have liv:∀c y,(s.set b (some x')).get c=some y-> ∃y,s.get c=some y:=by intro c y hc;rw[Vv]at hc;grind
 refine⟨(),_,hq,τ,F,hp,⟨VG τ,Vd F,Tq _,Tq _,λ_ _=>rfl,λc y hc _=>liv c y hc,⟨[(b,some x')],rfl,λ_ _ _=>rfl,λc j q hc h=>(by rw[hs.new c hc]at h;cases h),λ_ _ _ h=>.inl h,λ_ _ _ h=>h⟩,⟨[],rfl⟩,⟨[(b,some x')],rfl,λ_ _ _ _ _ _ cs _ _ _ _ hg _=>⟨cs,hg,λ_ _=>rfl⟩⟩⟩,
  ⟨λc y hc=>?_,λc d y z j q k r hc w g m u=>?_,hs.frz,hs.lt,hs.flt,hs.new,hs.fc,hs.fz⟩,rfl,rfl,rfl⟩
 rw[Vv]at hc;by_cases e:c=b;grind;rw[Tn e]at hc;exact hs.live c y hc;obtain⟨A,hy⟩:=liv c y hc;obtain⟨B,hz⟩:=liv d z w;exact hs.inj c d A B j q k r hy hz g m u
variable {e n size:Nat}{vs:Af}
theorem EM {L len:E}(h:p8 P U τ F e size (.rows L) vs)(g:vs.length=n*size)(b:len.toI U=n)(d:(L.toR U).length=n)(hn:n<=67108864)(hs:SD P U τ F s hp):OKh P U (aS e size (.rows L) len) τ F s hp λc τ' F' hp'=>(n=0/\hp'=hp/\VD P U τ' F' c (.slice none 0 0))\/(n≠0/\hp'=hp.new vs e size/\VD P U τ' F' c (.slice (some ⟨hp.nx,0,none⟩) n (d8 n 0))):=by by_cases h0:n=0;subst h0;intro Q hq _;have hL:=SZ d;obtain⟨h1,h2⟩:=hs.alloc (Tq _) (λ_ _=>rfl) (.inr ⟨rfl,L,e,size,.int 0,rfl,hL,h.1,Uh 0⟩);exact⟨_,_,hq,_,F,hp,h1,h2,.inl ⟨rfl,rfl,.sl0 s.nx size (.int 0) len .ge (t8 _ _ _) rfl b (λe he=>by grind)⟩⟩;exact(M4 h b hn hs).mono λc τ' F' hp' _ _ ⟨h1,h2⟩=>.inr ⟨h0,h1,h2⟩
variable {news:Af}
def K0 (hn:n<=67108864):aD hp e size n news (.slice none 0 0)=bif Nat.beq n 0 then some (.slice none 0 0,hp)else some (.slice (some ⟨hp.nx,0,none⟩) n (d8 n 0),hp.new news e size):=by simp only[aD];rw[show(Nat.beq 0 0&&Nat.beq 0 0&&Nat.ble n 67108864)=true by simp only[SR,TY];exact⟨⟨rfl,rfl⟩,hn⟩,Tk]
def mK {L:E}(b:1<=size)(h:p8 P U τ F e size (.rows L) vs)(d:vs.length=n*size):(L.toR U).length=n:=by have:=h.2.1;rw[d]at this;exact(Nat.eq_of_mul_eq_mul_right b this).symm
def toUn :SV->SV
 | .sl b z off len .ge=>.sl b z off len .un|a=>a
variable {v:Av}
theorem PD {a:SV}(h:VD P U τ F a v):VD P U τ F (toUn a) v:=by
 unfold toUn;split
 .cases h with
  |sl _ _ _ _ _ i o c h h0 h1 hc=>exact .sl _ _ _ _ .un i o c h h0 h1 (Or.inr hc)|sl0 _ _ _ _ _ h h0 h1 hc=>exact .sl0 _ _ _ _ .un h h0 h1 (λe he=>by grind)
 exact h
theorem rF {b:Nat}(aj:1<=size){off len:E}{cap:Cp}{src:Src}(ha:VD P U τ F (.sl b size off len cap) v)(ad:p8 P U τ F e size src news)(J:news.length=n*size)(z:news.all Value.oneCell'=true)(hs:SD P U τ F s hp):OKh P U (wA P U e size b off len cap src) τ F s hp (sW P U hp e size n news v):=by
 refine(Cy ad hs).bind λLn τ1 F1 s1 hp1 ex hs1 ⟨e1,e2,w⟩=>Vj ?_;subst e1;subst e2;split
 .rename_i L e' z' ph hb;cases hq:Nat.beq e e'&&Nat.beq size z'&&Nat.beq size (kf P e).length with
  |false=>exact Vi|true=>
   simp only[SR,TJ]at hq;obtain⟨⟨rfl,rfl⟩,ae⟩:=hq;have w:=w ae;have u:=mK aj w J;refine Vg Vm λ_ s2 o2 an p1=>Vg Vm λ_ s3 o3 ah p2=>?_;have p1:=A0 p1;have p2:=C0 p2;rw[j5,i7]at p1;rw[j5,i7,u]at p2;simp only[B4]at p2;have D:s3.get b=some (.rows L e size ph):=by rw[(o2.trans o3).get];exact hb
   rcases ah.live b _ D with⟨i,o,y,k1,k2,kF,cs,k,rfl,k4,k5⟩| ⟨k1,L',e',z',ao,k2,k3,k4,k5⟩
   .cases ha with
    |sl0 _ _ _ _ _ M h0 h1 hc=>grind|sl _ _ _ _ _ i' o' c M h0 h1 hc=>
     rw[k1]at M;obtain⟨rfl,rfl⟩:=M;have al:len.toI U=((len.toN U:Nat):Int):=by grind
     have am:off.toI U=((off.toN U:Nat):Int):=by grind
     have d:(y4 len (A4 Ln)).toI U=((len.toN U+n:Nat):Int):=by rw[j5,i7,u];omega
     have olds:∀Lo:E,Lo.den U= .l (pQ (L.toR U) (off.toI U) (len.toI U))-> ∃vs,j7 cs (o+off.toN U*size) (len.toN U*size)=some vs/\o+off.toN U*size+len.toN U*size<=k/\p8 P U τ1 F1 e size (.rows (F8 Lo Ln)) (vs++news):=by
      intro Lo g;have hR:Lo.toR U=pQ (L.toR U) (off.toI U) (len.toI U):=by show(Lo.den U).rows=_;rw[g];rfl
      obtain⟨vs,A,H,T,v4⟩:=G6 (τ:=τ1) k4 h0 h1 p1 hR;exact⟨vs,A,H,T.app w⟩
     split
     ·
      obtain⟨lo,rfl,V,c2⟩:=hc;refine Vg B7 λLo s4 N j g=>?_;obtain⟨vs,A,H,T⟩:=olds Lo g;exact FO (λ_ h=>h) (by rw[N.get];exact D) k1 k2 A H z J V (by omega) T d j
     ·
      refine Vg B7 λLo s4 N j g=>?_;obtain⟨vs,A,H,T⟩:=olds Lo g;rcases hc with⟨V,rfl,c2⟩| ⟨lo,rfl,V,c2⟩;exact Lk (by rw[N.get];exact D) k1 k2 A H z J V (by omega) T d j;exact FO (cp:= .un) (λ_ h=>Or.inr h) (by rw[N.get];exact D) k1 k2 A H z J V (by omega) T d j
     .rename_i c0;obtain⟨V,rfl,c3,c4⟩:=hc;have ak:c0.toI U=((c0.toN U:Nat):Int):=by grind
      refine Vg Vt λt s4 N j ht=>?_;rw[G4,d]at ht;cases t with
      |true=>simp only[To]at ht;simp only[Tk];refine Vg B7 λLo s5 o5 G g=>?_;obtain⟨vs,A,H,T⟩:=olds Lo g;exact HS k2 A H z c3 (by omega) (by omega) (by omega) T d G
      |false=>
       simp only[TS]at ht;simp only[Tl];refine Vg Vm λ_ s5 o5 G p3=>?_;have p3:=A0 p3;rw[j5]at p3;have Z:s5.get b=some (.rows L e size ph):=by rw[(N.trans o5).get];exact D
       have K:o+off.toN U*size+(len.toN U+n)*size<=k:=by have:(off.toN U+(len.toN U+n))*size<=ph.toN U*size:=Tg size (by show off.toN U+(len.toN U+n)<=(ph.toI U).toNat;omega);grind
       obtain⟨m,m1,m2,m3⟩:=Ll (e0:=e) (q:=o+off.toN U*size) (c:=c0.toN U) k2 z J c3 (by omega) (by omega) (by omega) K;have ac:(y4 off len).toI U=off.toI U+len.toI U:=j5 off len;have R:((y4 off len).toI U).toNat=off.toN U+len.toN U:=by grind
       have aa:A6 P F1 e size o k (fill cs (o+off.toN U*size+len.toN U*size) news) ((E.op .over [L,y4 off len,Ln]).toR U):=by have:=A6.over (news:=news) (l:=Ln.toR U) (a:=(y4 off len).toI U) k4 (by rw[ac];exact p1) w.2.2.1 w.2.1 (by rw[R,u,TF,TF];rw[TF]at K;omega) w.2.2.2;rw[R,TF,<-Ud]at this;exact this
       refine(Vh (x':= .rows (.op .over [L,y4 off len,Ln]) e size ph) (m:=m) Z k1 m2 m3 ⟨_,k,rfl,aa,k5⟩).bind λ_ τ2 F2 s6 hp2 _ ai ⟨w1,w2,w3⟩=>?_;subst w1;refine Vk ⟨.slice (some ⟨i,o+off.toN U*size,none⟩) (len.toN U+n) (c0.toN U),by rw[w3];exact m1,VK k1 h0 (by omega) ⟨V,rfl,c3,by omega⟩ rfl (qA d).symm⟩
   .cases ha with
    |sl _ _ _ _ _ i' o' c M h0 h1 hc=>grind|sl0 _ _ _ _ _ M h0 h1 hc=>
     obtain⟨rfl,rfl,rfl,rfl⟩:=k2;have hn:n<=67108864:=by omega
     have d:(y4 len (A4 Ln)).toI U=(n:Int):=by rw[j5,i7,u];omega
     have B:∀Lo:E,Lo.den U= .l (pQ (L.toR U) (off.toI U) (len.toI U))->p8 P U τ1 F1 e size (.rows (F8 Lo Ln)) news/\((F8 Lo Ln).toR U).length=n:=by
      intro Lo g;have hR:Lo.toR U=[]:=by show(Lo.den U).rows=_;rw[g,k3];simp[pQ,Dat.rows]
      have hA:(F8 Lo Ln).toR U=Ln.toR U:=by rw[M8,hR];rfl
      obtain⟨q1,q2,q3,q4⟩:=w;exact⟨⟨q1,by rw[hA];exact q2,by rw[hA];exact q3,by rw[hA];exact q4⟩,by rw[hA];exact u⟩
     split;refine Vg B7 λLo s4 N j g=>?_;obtain⟨A,H⟩:=B Lo g;by_cases C:n=0;subst C;intro Q hq _;obtain⟨W,O⟩:=j.drop b;obtain⟨X,Y⟩:=O.alloc (x:=(Src.rows (F8 Lo Ln)).blk e size) (p:=none) (hp':=hp1) (Tq _) (λ_ _=>rfl) (.inr ⟨rfl,_,e,size,.int 0,rfl,SZ H,A.1,Uh 0⟩);refine⟨_,_,hq,_,F1,hp1,W.trans X,Y,.slice none 0 0,by rw[K0 hn];rfl,?_⟩;exact .sl0 _ size (.int 0) _ .ge (t8 _ _ _) rfl d (λe he=>by cases he);intro Q hq _;obtain⟨W,O⟩:=j.drop b;have hx:=(M4 (s:=s4.set b none) A d hn O) Q hq O;obtain⟨a,s',q1,τ',F',hp',q2,q3,q4,q5⟩:=hx;exact⟨a,s',q1,τ',F',hp',W.trans q2,q3,_,by rw[K0 hn,z4 C,Tl,q4],q5⟩;refine Vg B7 λLo s4 N j g=>?_;obtain⟨A,H⟩:=B Lo g;by_cases C:n=0;subst C;intro Q hq _;obtain⟨W,O⟩:=j.drop b;obtain⟨X,Y⟩:=O.alloc (x:=(Src.rows (F8 Lo Ln)).blk e size) (p:=none) (hp':=hp1) (Tq _) (λ_ _=>rfl) (.inr ⟨rfl,_,e,size,.int 0,rfl,SZ H,A.1,Uh 0⟩);refine⟨_,_,hq,_,F1,hp1,W.trans X,Y,.slice none 0 0,by rw[K0 hn];rfl,?_⟩;exact .sl0 _ size (.int 0) _ .un (t8 _ _ _) rfl d (λe he=>by cases he);intro Q hq _;obtain⟨W,O⟩:=j.drop b;have hx:=(M4 (s:=s4.set b none) A d hn O) (λr=>Q (toUn r.1,r.2)) hq O;obtain⟨a,s',q1,τ',F',hp',q2,q3,q4,q5⟩:=hx;exact⟨toUn a,s',q1,τ',F',hp',W.trans q2,q3,_,by rw[K0 hn,z4 C,Tl,q4],PD q5⟩
     .rename_i c0;have ab:=hc c0 rfl;refine Vg Vt λt s4 N j ht=>?_;rw[G4,d,ab]at ht;cases t with
      |true=>simp only[To]at ht;simp only[Tk];refine Vg B7 λLo s5 o5 G g=>?_;obtain⟨A,H⟩:=B Lo g;exact(M4 A d hn G).mono λa τ' F' hp' _ _ ⟨w1,w2⟩=>⟨_,by rw[K0 hn,z4 (by omega),Tl,w1],w2⟩
      |false=>
       simp only[TS]at ht;simp only[Tl];have C:n=0:=by omega
       subst C;refine Vg Vm λ_ s5 o5 G p3=>?_;have Z:s5.get b=some (.rows L e size ph):=by rw[(N.trans o5).get];exact D
       have aa:(E.op .over [L,y4 off len,Ln]).toR U=[]:=by show(Sx.over (L.toR U) _ (Ln.toR U))=[];rw[k3,SZ u];simp[Sx.over]
       refine(OKh.change0 (x':= .rows (.op .over [L,y4 off len,Ln]) e size ph) Z k1 ⟨_,e,size,ph,rfl,aa,k4,k5⟩ G).bind λ_ τ2 F2 s6 hp2 _ ai ⟨w1,w2,w3⟩=>?_;subst w1;subst w3;exact Vk ⟨.slice none 0 0,by rw[K0 hn];rfl,.sl0 b size off _ _ k1 h0 d (λe he=>by cases he;exact ab)⟩
 exact Vi
end
section
variable {P :Aw}{U:Ab}{τ:Tau}{F:Ac}{s:SS}{hp:Hp}
theorem PV.nil_or {e:Ax}{a:Aq}{l:Nat}{d:Dat}(h:PV P F (.sl e) (.slice a l l) d):(a=none/\l=0/\d= .l [])\/ ∃i o,a=some ⟨i,o,none⟩:=by cases h<;>grind
theorem A6.of_PV {e i o l c:Nat}{rows:a8}(h:PV P F (.sl e) (.slice (some ⟨i,o,none⟩) l c) (.l rows))(g:∀i b,F i=some b->hp.m.get i=some b):∃b cs n z,hp.m.get i=some b/\A6 P F e z o n cs rows/\l=rows.length/\z=(kf P e).length/\((∃e',b= .cells cs n e' z)\/(∃e' y,b= .ro cs n e' y/\c<unk)):=by
 cases h with
 |sl _ _ _ _ b cs n z _ x hF hb hc hn hz hr hx hp'=>
  cases b with
  |cells j u w A=>simp only[arr,rdC,SQ,SU]at hb;obtain⟨rfl,rfl,rfl⟩:=hb;exact⟨_,j,u,z,g _ _ hF,⟨hn,hz,hr,λr k row d h1 h2=>(by grind)⟩,rfl,hz,.inl ⟨_,by rw[hc.2.2 rfl]⟩⟩
  |ro j u w A=>simp only[arr,rdC,SQ,SU]at hb;obtain⟨rfl,rfl,rfl⟩:=hb;exact⟨_,j,u,z,g _ _ hF,⟨hn,hz,hr,λr k row d h1 h2=>(by grind)⟩,rfl,hz,.inr ⟨_,_,rfl,hc.2.1 rfl⟩⟩
  |_=>simp[arr,rdC]at hb
def Ps {e size n:Nat}(M:1<=size){a:SV}{v:Av}(C:VD P U τ F a v){src:Src}{news:Af}(d:p8 P U τ F e size src news)(g:news.length=n*size)(D:(src.cnt size).toI U=n)(hs:SD P U τ F s hp):OKh P U (sapp P U e size a src) τ F s hp (sW P U hp e size n news v):=by
 have J:∀src,p8 P U τ F e size src news->(src.cnt size).toI U=n->(∀l,src= .lit l->l≠ [])->OKh P U (c8 (l9 U (y6 (src.cnt size) (.int 67108865))) λ_=>aS e size src (src.cnt size)) τ F s hp (sW P U hp e size n news (.slice none 0 0)):=by
  intro src d D V;refine Vg Vm λ_ s1 _ hs1 p1=>?_;have p1:=C0 p1;rw[D]at p1;simp only[B4]at p1;have hn:n<=67108864:=by omega
  cases src with
  |lit l=>
   have hl:l.length=n*size:=by rw[<-g];exact d.1
   have G:n≠0:=by intro h;rw[h,UE]at hl;exact V l rfl (SZ hl)
   exact(M4 d D hn hs1).mono λc τ' F' hp' _ _ ⟨h1,h2⟩=>⟨_,by rw[K0 hn,z4 G,Tl,h1],h2⟩
  |rows L=>refine(EM d g D (mK M d g) hn hs1).mono λc τ' F' hp' _ _ h=>?_;rcases h with⟨h0,h1,h2⟩| ⟨h0,h1,h2⟩;exact⟨_,by rw[K0 hn,u7 h0,Tk,h1],h2⟩;exact⟨_,by rw[K0 hn,z4 h0,Tl,h1],h2⟩
 unfold sapp;split
 ·
  cases C;split
  .have hv:news=[]:=SZ d.1.symm;subst hv;have G:n=0:=by rcases Nat.eq_zero_or_pos n with h|h;exact h;have:=Nat.mul_le_mul h M;simp at g;omega
   subst G;exact Vk ⟨.slice none 0 0,by rw[K0 (by omega)];rfl,.nils⟩
  rename_i V;exact J _ d D λl hl h=>by subst h;exact V hl
 ·
  rename_i b z off len cap;cases hq:Nat.beq z size&&src.one with
  |false=>exact Vi|true=>
   simp only[Tk];simp only[SR,TJ]at hq;obtain⟨rfl,H⟩:=hq;have A:=d.ones H;refine Vj ?_;split
   .rename_i l e' z' hb;split
    .rename_i B r m;cases hq:Nat.beq e e'&&Nat.beq z z'&&decide (0<=B)&&decide (0<=r)&&Nat.ble ((B.toNat+r.toNat)*z) l.length&&Nat.ble (r.toNat+m.length/z) 67108864&&Nat.beq (m.length/z*z) m.length with
     |false=>exact Vi|true=>
      simp only[Tk];simp only[SR,TJ,To,TY]at hq;obtain⟨⟨⟨⟨⟨⟨rfl,rfl⟩,q1⟩,q2⟩,q3⟩,q4⟩,q5⟩:=hq;have T:m.length=n*z:=by rw[<-g];exact d.1
      have aq:m.length/z=n:=by rw[T];exact Nat.mul_div_cancel _ M
      rw[aq]at q4⊢;rw[TF]at q3;rcases hs.live b _ hb with⟨i,o,y,k1,k2,kF,cs,k,rfl,k4,k5⟩| ⟨k1,L',e',z',bb,k2,k3,k4,k5⟩
      .cases C with
       |sl0 _ _ _ _ _ N h0 h1 hc=>rw[k1]at N;cases N
       |sl _ _ _ _ _ i' o' c N h0 h1 hc=>
        rw[k1]at N;simp only[SQ,SU]at N;obtain⟨rfl,rfl⟩:=N;have Y:(E.int B).toN U=B.toNat:=rfl;have W:(E.int r).toN U=r.toNat:=rfl;obtain⟨vs,v1,v2,v3⟩:=A9 (c:=cs) (R:=λj x=>∀a,((l.drop (B.toNat*z)).take (r.toNat*z))[j]? =some a->VD P U τ F a x) (r.toNat*z) (o+B.toNat*z) 0 λj hj=>by
         have aj:B.toNat*z+j<l.length:=by omega
         obtain⟨x,w1,w2⟩:=k5 (B.toNat*z+j) _ (Tf aj);refine⟨x,by rw[<-w1];congr 1;omega,λa C=>?_⟩;rw[TA,TB,Tp hj,TI]at C;rw[show l[B.toNat*z+j]? =some l[B.toNat*z+j] by simp[aj],SQ]at C;rw[<-C];exact w2
        have ai:((l.drop (B.toNat*z)).take (r.toNat*z)).length=r.toNat*z:=by simp;omega
        have ax:VDL P U τ F ((l.drop (B.toNat*z)).take (r.toNat*z)) vs:=⟨by rw[ai,v2],λj a x C hx=>v3 j x hx a (by rw[TA];exact C)⟩
        have K:p8 P U τ F e z (.lit ((l.drop (B.toNat*z)).take (r.toNat*z)++m)) (vs++news):=ax.append d;have u:(E.int ((r.toNat+n:Nat):Int)).toI U=((r.toNat+n:Nat):Int):=rfl;have ah:o+B.toNat*z+r.toNat*z<=k:=by omega
        rw[Y,W];split;obtain⟨lo,rfl,c1,c2⟩:=hc;exact FO (λ_ h=>h) hb k1 k2 v1 ah A g c1 q4 K u hs;exact Vi
        .rename_i c0;obtain⟨c1,rfl,c3,c4⟩:=hc;have az:c0.toI U=((c0.toN U:Nat):Int):=by show c0.toI U=((c0.toI U).toNat:Int);omega
         have c4:r<=c0.toI U:=c4;refine Vg Vt λt s4 o4 av ht=>?_;rw[G4,u]at ht;cases t with
         |true=>simp only[To]at ht;simp only[Tk];exact HS k2 v1 ah A c3 (by omega) (by omega) q4 K u av|false=>
          simp only[TS]at ht;simp only[Tl];cases hr:Nat.ble ((B.toNat+r.toNat)*z+m.length) l.length with
          |false=>exact Vi|true=>
           simp only[Tk];have hr:=SX hr;rw[TF,T]at hr;obtain⟨mm,m1,m2,m3⟩:=Ll (e0:=e) (q:=o+B.toNat*z) (c:=c0.toN U) k2 A g c3 (by omega) (show r.toNat+n<=c0.toN U by omega) q4 (by rw[TF];omega);have an:s4.get b=some (.cells l e z):=by rw[o4.get];exact hb
           refine(Vh (x':= .cells (R6 l ((B.toNat+r.toNat)*z) m) e z) (m:=mm) an k1 m2 m3 ⟨_,k,rfl,?_,λj a C=>?_⟩ (by intro c _ _ c' Y _ _ ay n1 hg;cases Y;rw[k2]at hg;cases hg;exact⟨_,rfl,λj hj=>by rw[j6,Tn (by omega)]⟩)).bind λ_ τ2 F2 s6 hp2 _ ba ⟨w1,w2,w3⟩=>?_;unfold R6;simp only[Tv,TE,TW,TF];omega
           .unfold R6 at C;rw[TF]at C;have et:(l.take (B.toNat*z+r.toNat*z)).length=B.toNat*z+r.toNat*z:=by simp;omega
            rw[j6];by_cases hj:B.toNat*z+r.toNat*z<=j/\j<B.toNat*z+r.toNat*z+news.length;rw[Tp (by omega)];rw[Th,Tb (by omega),Tc (by rw[et,T,<-g];omega),et]at C;obtain⟨w,w1,w2⟩:=VDL.get d C;exact⟨w,by rw[<-w1];congr 1;omega,w2⟩;rw[Tn (by omega)];by_cases ao:j<B.toNat*z+r.toNat*z;rw[Th,Tc (by omega),TB,Tp ao]at C;exact k5 j a C;rw[Th,Tb (by omega),et,Tb (by rw[T,<-g];omega),TI]at C;refine k5 j a ?_;rw[<-C];congr 1;rw[T,<-g];omega
           subst w1;subst w2;refine Vk ⟨.slice (some ⟨i,o+B.toNat*z,none⟩) (r.toNat+n) (c0.toN U),by rw[w3];exact m1,VK k1 h0 (by rw[u];omega) ⟨c1,rfl,c3,by rw[u];omega⟩ rfl rfl⟩
      cases k2
    refine(gF hs).bind λ_ τ1 F1 s1 hp1 ex hs1 ⟨Y,W,e3⟩=>?_;subst Y;subst W;subst e3;exact rF M C d g A hs1
   exact rF M C d g A hs;exact Vi
 ·
  rename_i e' L;cases hq:Nat.beq e e'&&Nat.beq size (kf P e).length&&src.one with
  |false=>exact Vi|true=>
   simp only[Tk];simp only[SR,TJ]at hq;obtain⟨⟨rfl,ap⟩,H⟩:=hq;have A:=d.ones H;have am:=C;cases C with
   |lst _ _ _ _ hv hc=>
    obtain⟨ad,l,rfl⟩:=hc rfl;refine Vg Vt λt s1 o1 hs1 ht=>?_;rw[E5,D]at ht;simp only[B4]at ht;have ae:(jL L).toR U=L.toR U:=by show((jL L).den U).rows=_;rw[mV];rfl
    have aa:=HZ hv;have ak:=hv.nil_or;cases t with
    |true=>
     have G:n=0:=by have:=Uw ht;omega
     subst G;have V:news=[]:=SZ (by rw[g];simp);subst V;simp only[Tk];refine Vg Vm λ_ s2 _ au p1=>Vk ⟨.slice ad l l,?_,am⟩;have p1:=C0 p1;rw[i7]at p1;simp only[B4]at p1;rcases ak with⟨rfl,rfl,_⟩| ⟨i,o,rfl⟩;rw[K0 (by omega)];rfl;obtain⟨b,cs,k,z2,g1,g2,g3,g4,⟨W,rfl⟩| ⟨W,z3,rfl,g5⟩⟩:=A6.of_PV (hp:=hp) hv hs.frz;simp only[aD,g1];rw[show(Nat.ble (l+0) 67108864&&([]:Af).all Value.oneCell')=true by simp only[SR,TY];exact⟨by omega,rfl⟩];simp only[Tk,u7,Ta (Tq l)];simp only[aD,g1];rw[show(Nat.ble (l+0) 67108864&&Nat.ble l l&& !Nat.ble unk l)=true by simp only[SR,TY,aI g5,Bool.not_false,Up];exact⟨by omega,Tq _⟩];simp only[Tk,u7]
    |false=>
     have G:n≠0:=by have:=of_decide_eq_false ht;omega
     simp only[Tl];refine(Cy d hs1).bind λLn τ1 F1 s2 hp1 ex au ⟨Y,W,O⟩=>?_;subst Y;subst W;have O:=O ap;have Z:=mK M O g;refine Vg Vm λ_ s3 o3 ac p1=>?_;have p1:=C0 p1;rw[j5,i7,i7,Z]at p1;simp only[B4]at p1;have aw:=hv.mono P ex.f;rcases ak with⟨rfl,rfl,hd⟩| ⟨i,o,rfl⟩
     .have hL:L.toR U=[]:=by injection hd
      have Q:(F8 (jL L) Ln).toR U=Ln.toR U:=by rw[M8,ae,hL];rfl
      obtain⟨q1,q2,q3,q4⟩:=O;have X:p8 P U τ1 F1 e size (.rows (F8 (jL L) Ln)) news:=⟨q1,by rw[Q];exact q2,by rw[Q];exact q3,by rw[Q];exact q4⟩
      refine(M4 X (n:=n) (by rw[j5,i7,i7,hL,Z];simp) (by omega) ac).mono λc τ' F' hp' _ _ ⟨h1,h2⟩=>⟨_,by rw[K0 (by omega),z4 G,Tl,h1],h2⟩
     .obtain⟨b,cs,k,z2,g1,g2,g3,g4,al⟩:=A6.of_PV (hp:=hp1) aw ac.frz;have ez:z2=size:=by omega
      subst ez;have ab:pQ (L.toR U) 0 (L.toR U).length=L.toR U:=by simp[pQ]
      obtain⟨vs,v1,v2,v3,v4⟩:=G6 (U:=U) (τ:=τ1) g2 (off:=0) (len:=(L.toR U).length) (Uh 0) (by omega) (by omega) (L:=jL L) (by rw[ae,ab]);have e0:(0:Int).toNat*z2=0:=by simp
      rw[e0,Uj,TK]at v1 v2;have K:p8 P U τ1 F1 e z2 (.rows (F8 (jL L) Ln)) (vs++news):=v3.app O;have aa:l<unk:=aa.resolve_left (by simp);refine(M4 K (n:=(L.toR U).length+n) (by rw[j5,i7,i7,Z];omega) (by omega) ac).mono λc τ' F' hp' _ _ ⟨h1,h2⟩=>⟨_,?_,h2⟩
      rw[<-g3]at v1 v2⊢;rcases al with⟨W,rfl⟩| ⟨W,z3,rfl,g5⟩;simp only[aD,g1];rw[show(Nat.ble (l+n) 67108864&&news.all Value.oneCell')=true by simp only[SR,TY];exact⟨by omega,A⟩];simp only[Tk,z4 G,Tl,aI aa,aI (show l<l+n by omega),Ta v2,v1,h1];simp only[aD,g1];rw[show(Nat.ble (l+n) 67108864&&Nat.ble l l&& !Nat.ble unk l)=true by simp only[SR,TY,aI g5,Bool.not_false,Up];exact⟨by omega,Tq _⟩];simp only[Tk,z4 G,Tl,aI (show l<l+n by omega),Ta v2,v1,h1]
 exact Vi
end
structure I8 where
 run:Ay->As->M SV
 round:Ah->As->Ay->Nat->Ah->Code->Code->As->M SV
def Hg (P:Aw)(t:Ax)(x:SV):M SV:=match P.underlying t,x with
 |some .string,.str e=>c8 (dZ (.iter e (.int 0))) λb=>i5 (.ptr b 1 (.int 0) 0)
 |_,_=>b9 "range"
def NP (U:Ab)(isS:Bool)(it:SV):M SV:=match isS,it with
 | true, .ptr b _ (.int m) f => bif decide (m = 0) && Nat.beq f 0 then v8 λs => match s.get b with
   | some (.iter str pos) => c8 (gG U (y6 pos (bJ str))) λt =>
     bif t then c8 (jM b (some (.iter str (y4 pos (.op .srw [str,pos]))))) λ_=>i5 (.tup [.bool (.bool true),.int .i64 pos,.int .i32 (.op .srune [str,pos])])
     else i5 (.tup [.bool (.bool false)])
   |_=>b9 "next: no iterator"
  else b9 "next"
 |_,_=>b9 "next"
def Kv (f:Fm):Bb Az->Bb (Bb SV)
 |none=>some none|some x=>match N7 f x with
  |some v=>some (some v)|none=>none
def Gs (s i:E):E:=match s,i with
 | .str l,.int n=>match l[n.toNat]? with
  |some b=>.int b.toNat|none=>.op .sidx [s,i]
 |s,i=>.op .sidx [s,i]
section
variable (P :Aw)(U:Ab)
def Hd (t:Ax)(x i:SV):M SV:=
 match i with
 | .int _ n=>match P.underlying t with
  |some .string=>match x with
   | .str s=>c8 (l9 U (y5 (y6 n (.int 0)))) λ_=>c8 (l9 U (y6 n (bJ s))) λ_=>i5 (.int .u8 (Gs s n))
   |_=>b9 "index: string"
  |some (.array len e)=>match x,n with
   | .agg cs, .int m => bif decide (0 ≤ m) && decide (m < len) then
     match P.info? e with
     |some ie=>mX "index" (AO P e cs (m.toNat*ie.size))|none=>b9 "index: type"
    else b9 "index: beyond"
   |_,_=>b9 "index: array"
  |_=>b9 "index: type"
 |_=>b9 "index: no int"
def AM (x:SV):M SV:=
 match x with
 | .ptr b z row fld=>i5 (.ptr b z row fld)| .pptr t L row fld=>i5 (.pptr t L row fld)| .rp row fld=>i5 (.rp row fld)| .rpq e=>c8 (l9 U (y5 (y6 e (.int 0)))) λ_=>i5 (.rp e 0)
 | .fn (.func f) a b=>i5 (.fn (.func f) a b)|_=>b9 "nil"
def ED (b:Builtin)(ats:List Ax)(args:As):M SV:=
 match b,ats,args with
 | .append,[t,u],[s,x]=>IJ P U t u s x| .len,[t],[x]=>slen P t x| .cap,[t],[x]=>scap P t x| .max,_,x::xs=>NO U true x xs|_,_,_=>b9 "builtin"
def IP (call:I8)(f:SV)(args:As):M SV:=
 match f with
 | .fn (.func g) first captured=>match P.funcs[g]? with
  |some fn=>bif fJ fn then call.run g (first++args++captured)else b9 "call: no body"|none=>b9 "call: no function"
 | .yld ks vs g nt ps as bo=>call.round ks vs g nt ps as bo args|_=>b9 "call: value"
def s1 (f:Fm)(x:Az)(k:SV->M SV):M SV:=match N7 f x with
 |some v=>k v|none=>b9 "operand"
def sop (call:I8)(f:Fm)(o:Op):M SV:=
 match o with
 | .move x=>s1 f x i5| .assign x=>s1 f x i5| .pick c a b=>match N7 f c with
  |some (.bool e)=>c8 (gG U e) λt=>bif t then mX "pick" (N7 f a)else mX "pick" (N7 f b)
  |_=>b9 "pick"
 | .alloc e=>match rI P e with
  |some l=>bif Nat.beq e rgT then IY P U l else sbox e l|none=>b9 "alloc"
 | .box e x=>s1 f x λv=>match E0 v with
  |some l=>bif Nat.beq e rgT then IY P U l else sbox e l|none=>b9 "box"
 | .build t parts=>match hG f parts.toList with
  |some ps=>mX "build" (GX P t ps)|none=>b9 "build"
 | .buildSlice t len parts=>match hG f parts.toList with
  |some ps=>gW P t len ps|none=>b9 "buildSlice"
 | .load t a=>s1 f a λv=>IW P U t v
 | .store t a x=>s1 f a λv=>s1 f x λu=>Hk P U t v u
 | .nilCheck x=>s1 f x λv=>AM U v
 | .binOp op t x y _=>s1 f x λv=>s1 f y λu=>Nx P U op t v u
 | .unOp op _ x=>s1 f x λv=>sun U op v
 | .convert s d x=>s1 f x λv=>NA P U s d v
 | .makeFunc fn first captured=>match EG f first.toList with
  |some fs=>match EG f captured.toList with
   |some cs=>i5 (.fn fn fs cs)|none=>b9 "makeFunc"
  |none=>b9 "makeFunc"
 | .makeSlice t l c=>s1 f l λv=>s1 f c λu=>lI P U t v u
 | .slice t x lo hi mx=>s1 f x λv=>match Kv f lo,Kv f hi,Kv f mx with
  |some l,some h,some m=>Hj P U t v l h m|_,_,_=>b9 "slice"
 | .fieldAddr t x i=>s1 f x λv=>mX "fieldAddr" (lE P t v i)
 | .field t x i=>s1 f x λv=>mX "field" (Hc P t v i)
 | .indexAddr t x i=>s1 f x λv=>s1 f i λu=>lG P U t v u
 | .index t x i=>s1 f x λv=>s1 f i λu=>Hd P U t v u
 | .extract x i=>s1 f x λv=>mX "extract" (wH v i)
 | .range t x=>s1 f x λv=>Hg P t v
 | .next it isS=>s1 f it λv=>NP U isS v
 | .call c=>match EG f c.args.toList with
  |some args=>match c.callee with
   | .builtin b=>ED P U b c.argTypes.toList args| .value g=>match N7 f g with
    |some v=>IP P call v args|none=>b9 "call"
   |_=>b9 "call: method"
  |none=>b9 "call: operands"
 |_=>b9 "operation"
end
section
variable {P :Aw}{U:Ab}{τ:Tau}{F:Ac}{s:SS}{hp:Hp}{ov:Aa}
def EV (p:Nat->Prop):Prop:=∃n0,∀n,n0<=n->p n
variable {p:Nat->Prop}
def EV.of (h:∀n,p n):EV p:=⟨0,λn _=>h n⟩
def Vb:type_of% @EV.of:=@EV.of
variable {q:Nat->Prop}
theorem EV.and (h:EV p)(k:EV q):EV λn=>p n/\q n:=by obtain⟨a,d⟩:=h;obtain⟨b,hb⟩:=k;exact⟨Nat.max a b,λn hn=>(by grind)⟩
def EV.mono (h:EV p)(k:∀n,p n->q n):EV q:=by obtain⟨a,b⟩:=h;exact⟨a,λn hn=>k n (b n hn)⟩
variable (P ov) in
def XOp (o:Op)(tm:Ao)(hp:Hp)(v:Av)(hp':Hp):Prop:=EV λn=>xop P (C6 P ov n) tm hp o=some (v,hp')
variable (P ov) in
def V6 (g:Ay)(args:Af)(hp:Hp)(v:Av)(hp':Hp):Prop:=EV λn=>(C6 P ov n).run g args hp=some (v,hp')
variable (P U ov) in
structure E4 (call:I8):Prop where
 run:∀g l args τ F s hp,VDL P U τ F l args->SD P U τ F s hp->OKh P U (call.run g l) τ F s hp λa τ' F' hp'=>∃v,V6 P ov g args hp v hp'/\VD P U τ' F' a v
 round:∀ks vs g nt ps as bo l args τ F s hp i,VD P U τ F (.yld ks vs g nt ps as bo) (.chan (some i))->VDL P U τ F l args->SD P U τ F s hp->
  OKh P U (call.round ks vs g nt ps as bo l) τ F s hp λa τ' F' hp'=>∃v,(EV λn=>(C6 P ov n).round i args hp=some (v,hp'))/\VD P U τ' F' a v
variable {tm:Ao}
theorem Cw {f:Fm}(h:TD P U τ F f tm){o:Bb Az}{a:Bb SV}(e:Kv f o=some a):∃v,xQ tm o=some v/\OVD P U τ F a v:=by
 cases o with
 |none=>simp only[Kv,SQ]at e;subst e;exact⟨none,rfl,trivial⟩|some o=>
  simp only[Kv]at e;cases b:N7 f o with
  |none=>grind|some d=>simp only[b,SQ]at e;subst e;obtain⟨v,h1,h2⟩:=M3 h b;exact⟨some v,by simp[xQ,h1],h2⟩
theorem Gt {a i:E}(h0:0<=i.toI U)(h1:i.toI U<(a.den U).toStr.length):(Gs a i).toI U=(((a.den U).toStr[(i.toI U).toNat]'(by omega)).toNat:Int):=by
 have d:(E.op .sidx [a,i]).toI U=(((a.den U).toStr[(i.toI U).toNat]'(by omega)).toNat:Int):=by show((((a.den U).toStr.getD (i.toI U).toNat 0).toNat:Nat):Int)=_;grind
 unfold Gs;split;rename_i l n;split;rename_i b hb;have:l[(E.toI U (.int n)).toNat]? =some b:=hb;rw[Tf (by have:(E.toI U (.int n))<l.length:=h1;omega),SQ]at this;rw[<-this];rfl;grind;grind
theorem Ku {t:Ax}{a b:SV}{v u:Av}(g:VD P U τ F a v)(hb:VD P U τ F b u):OKp U (Hd P U t a b) s λc=>∃w,qG P t v u=some w/\VD P U τ F c w:=by
 unfold Hd;split
 .rename_i k n;cases hb;split;rename_i ht;split;rename_i e;cases g;refine OKp.need.bind λ_ _ _ _ h1=>OKp.need.bind λ_ _ _ _ h2=>Vq ?_;have h1:=aO h1;have h2:=C0 h2;rw[P6]at h2;refine⟨.int .u8 (((e.den U).toStr[(n.toI U).toNat]).toNat:Int),?_,VJ (Gt h1 h2)⟩;simp only[qG,ht];grind;exact Vl
  .rename_i len e ht;split
   .rename_i cs m;cases hq:decide (0<=m)&&decide (m<(len:Int))with
    |false=>exact Vl|true=>split;rename_i ie d;obtain⟨xs,rfl,hx⟩:=VN g;refine Vo λc hc=>?_;obtain⟨w,h1,h2⟩:=nM hx hc;refine⟨w,?_,h2⟩;simp only[qG,ht];rwa[show(decide (0<=(E.int m).toI U)&&decide ((E.int m).toI U<(len:Int)))=true from hq,Tk,d];exact Vl
   exact Vl
  exact Vl
 exact Vl
def OKp.op {m:M SV}{o:Op}{x:Ag}(hx:∀n,xop P (C6 P ov n) tm hp o=j3 hp x)(h:OKp U m s λa=>∃v,x=some v/\VD P U τ F a v):OKh P U m τ F s hp λa τ' F' hp'=>∃v,XOp P ov o tm hp v hp'/\VD P U τ' F' a v:=
 (h.up).mono λa τ' F' hp' _ _ ⟨b,d,g,v,h1,h2⟩=>by subst b;subst d;subst g;exact⟨v,Vb λn=>by rw[hx,h1];rfl,h2⟩
def Vn:type_of% @OKp.op:=@OKp.op
variable {x:Av}
def Kw {t:Ax}{v:SV}(hv:VD P U τ F v x)(hs:SD P U τ F s hp):OKh P U (Hg P t v) τ F s hp λa τ' F' hp'=>∃n,oD P t x=some n/\hp'=(hp.add n).2/\VD P U τ' F' a (hp.add n).1:=by unfold Hg;split;rename_i e g;cases hv;refine(OKh.alloc (x:= .iter e (.int 0)) hs λτ' _=>⟨rfl,0,rfl,rfl⟩).bind λb τ' F' s' hp' _ d ⟨h1,h2,h3⟩=>Vk ?_;subst h3;exact⟨⟨.sit ⟨(e.den U).toStr.toArray⟩ 0,.ptr,rfl⟩,by simp only[oD,g],rfl,VD.ptr' h2 (by show(0:Int)<=0;omega) rfl⟩;exact Vi
def NQ {isS:Bool}{v:SV}(hv:VD P U τ F v x)(_hs:SD P U τ F s hp):OKh P U (NP U isS v) τ F s hp λa τ' F' hp'=>∃u,AX hp x isS=some (u,hp')/\VD P U τ' F' a u:=by
 unfold NP;split
 .rename_i b z m f;cases hc:decide (m=0)&&Nat.beq f 0 with
  |false=>exact Vi|true=>
   simp only[SR,To,TJ]at hc;obtain⟨rfl,rfl⟩:=hc;rw[Tk];refine Vj ?_;split
   .rename_i str pos hb;refine Vg Vt λt s1 G hs1 ht=>?_;have g:s1.get b=some (.iter str pos):=by rw[G.get];exact hb
    rcases hs1.live b _ g with⟨i,o,y,k1,k2,k3,rfl,n,rfl,k4⟩| ⟨_,L,e,O,ph,h,_⟩
    .cases hv with
     |ptr _ _ _ _ N o' h h0=>
      rw[k1]at h;obtain⟨rfl,rfl⟩:=h;rw[show 0+(E.int 0).toN U*z+0=0 by show 0+(0:Int).toNat*z+0=0;simp];rw[G4,P6,k4]at ht;obtain⟨D,w⟩:∃D,D=Utf8.decode ⟨(str.den U).toStr.toArray⟩ n:=⟨_,rfl⟩;obtain⟨H,r⟩:∃H:Hp,H= {hp with m:=hp.m.set i (some (.sit ⟨(str.den U).toStr.toArray⟩ (n+D.2)))}:=⟨_,rfl⟩
      have hx:AX hp (.pointer (some ⟨i,0,none⟩)) true=bif Nat.blt n (str.den U).toStr.length then some (.tuple #[.bool true,.int .i64 n,.int .i32 D.1],H)else some (.tuple #[.bool false],hp):=by simp only[AX,k2,r,w]
      cases t with
      |true=>
       rw[To]at ht;rw[show Nat.blt n (str.den U).toStr.length=true from Ta (by omega),Tk]at hx;have C:runeW (str.den U).toStr (pos.toI U)=(D.2:Nat):=by rw[k4,w];simp[runeW]
       have B:runeAt (str.den U).toStr (pos.toI U)=D.1:=by rw[k4,w];simp[runeAt]
       refine OKh.bind (R:=λ_ τ' F' hp'=>τ'=τ/\F'=F/\hp'=H) ?_ λ_ τ2 J s2 hp2 _ _ ⟨K,M,A⟩=>Vk ⟨_,by rw[hx,A],.tup _ [.bool true,.int .i64 n,.int .i32 D.1] rfl λj a v d hv=>?_⟩
       .intro Q hq _;obtain⟨h1,h2⟩:=hs1.change (x':= .iter str (y4 pos (.op .srw [str,pos]))) g k1 (y:= .sit ⟨(str.den U).toStr.toArray⟩ (n+D.2)) (hp':=H) (by rw[r]) (λj hj=>by rw[r];simp[VF,hj]) (by rw[r];simp[VF])
         ⟨rfl,_,rfl,by rw[j5,k4];show(n:Int)+runeW (str.den U).toStr (pos.toI U)=_;rw[C];omega⟩
        exact⟨(),_,hq,τ,F,_,h1,h2,rfl,rfl,rfl⟩
       .match j,d,hv with
        |0,d,hv=>simp at d hv;subst d;subst hv;exact .bool (.bool true)|1,d,hv=>simp at d hv;subst d;subst hv;exact VJ k4|2,d,hv=>simp at d hv;subst d;subst hv;exact VJ B|j+3,d,hv=>simp at d
      |false=>
       rw[TS]at ht;rw[show Nat.blt n (str.den U).toStr.length=false by
        cases hb:Nat.blt n (str.den U).toStr.length with
        |false=>rfl|true=>have:=SX hb;omega,Tl]at hx
       refine Vk ⟨_,hx,.tup _ [.bool false] rfl λj a v d hv=>?_⟩
       match j,d,hv with
       |0,d,hv=>simp at d hv;subst d;subst hv;exact .bool (.bool false)|j+1,d,hv=>simp at d
    cases h
   exact Vi
 exact Vi
def bs {α b:Type}{x:Bb α}{v:α}{k:α->Bb b}(h:x=some v):ob x k=k v:=by rw[h]
theorem Cv {call:I8}(D:E4 P U ov call){f:Fm}(ht:TD P U τ F f tm)(hs:SD P U τ F s hp)(o:Op):OKh P U (sop P U call f o) τ F s hp λa τ' F' hp'=>∃v,XOp P ov o tm hp v hp'/\VD P U τ' F' a v:=by
 have O:=λ{x:Az} {a:SV} (e:N7 f x=some a)=>M3 (P:=P) (U:=U) ht e;have S:∀ {x:Az} {k:SV->M SV} {R},(∀v w,i6 tm x=some w->VD P U τ F v w->OKh P U (k v) τ F s hp R)->OKh P U (s1 f x k) τ F s hp R:=by intro x k R h;unfold s1;split;rename_i hv;obtain⟨w,h1,h2⟩:=O hv;exact h _ w h1 h2;exact Vi
 cases o with
 |move x|assign x=>exact S λv w h1 h2=>Vn (λn=>congrArg (j3 hp) h1) (Vq ⟨w,rfl,h2⟩)
 |pick c a b=>simp only[sop];split;rename_i e he;obtain⟨v,h1,h2⟩:=O he;cases h2;refine Vn (x:=bif (e.den U).toBool then i6 tm a else i6 tm b) (λn=>by simp only[xop,h1];cases(e.den U).toBool<;>rfl) (OKp.test.bind λt _ _ _ h=>?_);rw[h];cases t<;>exact Vo λa h=>O h;exact Vi
 |alloc e=>
  simp only[sop];split
  .rename_i l hl;obtain⟨z,h1,h2⟩:=cW (U:=U) (τ:=τ) (F:=F) hl;cases hb:Nat.beq e rgT with
   |true=>exact(EL h2 hs).mono λa τ' F' hp' _ _ ⟨v,j,d⟩=>⟨v,Vb λn=>by simp only[xop,kY,hb,Tk,h1,ob,j],d⟩
   |false=>exact(IK h2 hs).mono λa τ' F' hp' _ _ ⟨j,d⟩=>⟨_,Vb λn=>by simp only[xop,kY,hb,Tl,xnw,aW,h1,U8];grind,d⟩
  exact Vi
 |box e x=>
  refine S λv w h1 h2=>?_;split
  .rename_i l hl;cases hb:Nat.beq e rgT with
   |true=>exact(EL (cU h2 hl) hs).mono λa τ' F' hp' _ _ ⟨v,j,d⟩=>⟨v,Vb λn=>by simp only[xop,ML,hb,Tk,h1,ob,j],d⟩
   |false=>exact(IK (cU h2 hl) hs).mono λa τ' F' hp' _ _ ⟨j,d⟩=>⟨_,Vb λn=>by simp only[xop,ML,hb,Tl,xnw,h1,U8,AU];grind,d⟩
  exact Vi
 |build t L=>simp only[sop];split;rename_i ps K;obtain⟨qs,h1,h2⟩:=iZ ht K;exact Vn (λn=>bs h1) (Vo λa h=>Ko h2 h);exact Vi
 |buildSlice t len L=>
  simp only[sop];split;rename_i ps K;obtain⟨qs,h1,h2⟩:=iZ ht K;exact(wB h2 hs).mono λa τ' F' hp' _ _ ⟨n,j,d,G⟩=>⟨_,Vb λm=>by simp only[xop,xnw,h1,j,U8,d],G⟩
  exact Vi
 |load t a=>exact S λv w h1 h2=>Vn (λn=>bs h1) (EK h2 hs)
 |store t a x=>exact S λv w h1 h2=>S λu y h3 h4=>(KA h2 h4 hs).mono λc τ' F' hp' _ _ ⟨j,d⟩=>⟨undef,Vb λn=>(bs h1).trans ((bs h3).trans (bs d)),by subst j;exact .tup [] [] rfl λi a x h _=>by simp at h⟩
 |nilCheck x=>
  refine S λv w h1 h2=>?_;have nc:∀ {u:SV} {w:Av},i6 tm x=some w->VD P U τ F u w->((∃p,w= .pointer (some p))\/ ∃f a b,w= .func (.func f) a b)->OKh P U (i5 u) τ F s hp λa τ' F' hp'=>∃v,XOp P ov (.nilCheck x) tm hp v hp'/\VD P U τ' F' a v:=λ{u w} h1 h2 hw=>
   Vn (x:=some w) (λn=>by rcases hw with⟨p,rfl⟩| ⟨f,a,b,rfl⟩<;>simp only[xop,h1]<;>rfl) (Vq ⟨_,rfl,h2⟩)
  unfold AM;split;case h_4 e=>
   cases h2 with
   |rpq _ _ hq=>
    have hx:0<=e.toI U->w= .pointer (some ⟨e.toN U,0,some 1⟩):=λh0=>by
     generalize hm:e.toI U=m at hq h0;cases hq with
     |rp k=>grind|rpn=>omega
    refine Vg Vm λ_ s2 o2 aa p1=>?_;have p1:=A0 p1;have hw:=hx p1;subst hw;exact Vn (x:=some (.pointer (some ⟨e.toN U,0,some 1⟩))) (λn=>by simp only[xop,h1];rfl) (Vq ⟨_,rfl,.rp e 0 p1⟩)
  case h_6=>exact Vi
  all_goals exact nc h1 h2 (by cases h2;first|exact .inl ⟨_,rfl⟩|exact .inr ⟨_,_,_,rfl⟩)
 |binOp op t x y u=>exact S λv a h1 h2=>S λw b h3 h4=>Vn (λn=>(bs h1).trans (bs h3)) (Ny h2 h4)
 |unOp op t x=>exact S λv a h1 h2=>Vn (λn=>bs h1) (Sp h2)
 |convert src dst x=>exact S λv a h1 h2=>Vn (λn=>bs h1) (NC h2)
 |makeFunc fn first A=>simp only[sop];split;rename_i fs X;split;rename_i cs T;obtain⟨xs,h1,h2⟩:=sP ht X;obtain⟨ys,h3,h4⟩:=sP ht T;exact Vn (λn=>(bs h1).trans (bs h3)) (Vq ⟨_,rfl,.fn fn fs cs xs ys h2.1 h2.2 h4.1 h4.2⟩);exact Vi;exact Vi
 |makeSlice t l c=>exact S λv a h1 h2=>S λw b h3 h4=>(yD h2 h4 hs).mono λc τ' F' hp' _ _ ⟨n,j,d,G⟩=>⟨_,Vb λm=>by simp only[xop,xnw,h1,h3,j,U8,d],G⟩
 |slice t x lo hi mx=>
  refine S λv a h1 h2=>?_;split;rename_i l h m hl hh hm;obtain⟨l',h3,h4⟩:=Cw ht hl;obtain⟨h',Q,h6⟩:=Cw ht hh;obtain⟨m',h7,h8⟩:=Cw ht hm;exact(Ky h2 h4 h6 h8 hs).mono λc τ' F' hp' _ _ ⟨j,w,d,G⟩=>⟨w,Vb λn=>by rw[j];exact(bs h1).trans ((bs h3).trans ((bs Q).trans ((bs h7).trans d))),G⟩
  exact Vi
 |fieldAddr t x i=>exact S λv a h1 h2=>Vn (λn=>bs h1) (Vo λc h=>yB h2 h)
 |field t x i=>exact S λv a h1 h2=>Vn (λn=>bs h1) (Vo λc h=>Kt h2 h)
 |indexAddr t x i=>exact S λv a h1 h2=>S λw b h3 h4=>Vn (λn=>(bs h1).trans (bs h3)) (yC h2 h4)
 |index t x i=>exact S λv a h1 h2=>S λw b h3 h4=>Vn (λn=>(bs h1).trans (bs h3)) (Ku h2 h4)
 |range t x=>exact S λv w h1 h2=>(Kw h2 hs).mono λa τ' F' hp' _ _ ⟨n,j,d,G⟩=>⟨_,Vb λm=>by simp only[xop,xnw,h1,j,U8,d],G⟩
 |next it isS=>exact S λv w h1 h2=>(NQ h2 hs).mono λa τ' F' hp' _ _ ⟨u,j,d⟩=>⟨u,Vb λm=>(bs h1).trans j,d⟩
 |extract x i=>exact S λv a h1 h2=>Vn (λn=>bs h1) (Vo λc h=>EH h2 h)
 |call c=>
  simp only[sop];split
  .rename_i l hl;obtain⟨args,h1,h2⟩:=sP ht hl;obtain⟨E,B,ats⟩:=c;have h1:aE tm B.toList=some args:=h1;cases E with
   |builtin b=>
    simp only;unfold ED;split
    .rename_i t u a x C;obtain⟨v,vs,rfl,H,J⟩:=h2.uncons;obtain⟨w,ws,rfl,g3,g4⟩:=J.uncons;have:ws=[]:=SZ g4.1.symm;subst this;have hx:∀n,xop P (C6 P ov n) tm hp (.call ⟨.builtin .append,B,ats⟩)=match D1 P hp t u v w with|some r=>some r|none=>Z6 P hp t u v w:=λn=>by simp only[xop,h1,ob,C,B9];rfl
     unfold IJ;split
     .rename_i e d he V;split;exact Vi
      .rename_i ie Y;split;exact Vi
       .rename_i z hz;cases hq:Nat.beq z.cells.toList.length ie.size&&Nat.ble ie.bytes 1048576&&Nat.ble 1 ie.size with
        |false=>exact Vi|true=>
         simp only[Tk];rw[SR]at hq;obtain⟨q1,q2⟩:=hq;have N:=SX q2;refine Vg (Jb N g3 hs) λsrc s1 o1 hs1 ⟨n,news,k1,k2,k3,k4⟩=>?_;refine(Ps N H k2 k3 k4 hs1).mono λc τ' F' hp' _ _ ⟨y,k5,k6⟩=>⟨y,Vb λn=>?_,k6⟩
         rw[hx,Hx he V Y hz q1 k1,k5]
     exact Vi
    rename_i t x C;obtain⟨v,vs,rfl,H,J⟩:=h2.uncons;have:vs=[]:=SZ J.1.symm;subst this;exact Vn (x:=lU P t v) (λn=>by simp only[xop,h1,ob,C,B9]) (Py H);rename_i t x C;obtain⟨v,vs,rfl,H,J⟩:=h2.uncons;have:vs=[]:=SZ J.1.symm;subst this;exact Vn (x:=nX P t v) (λn=>by simp only[xop,h1,ob,C,B9]) (Pu H);rename_i x xs;obtain⟨v,vs,rfl,H,J⟩:=h2.uncons;exact Vn (x:=xI true v vs) (λn=>by simp only[xop,h1,ob,B9]) (IX H J);exact Vi
   |value g=>
    simp only;split
    .rename_i v hv;obtain⟨w,h3,h4⟩:=O hv;unfold IP;split
     .rename_i g' first A
      split
      .rename_i fn W;cases Z:fJ fn with
       |false=>exact Vi|true=>
        simp only[Tk];cases h4 with
        |fn _ _ _ xs ys k1 k2 k3 k4=>
         have hl:VDL P U τ F (first++l++A) (xs++args++ys):=(VDL.append ⟨k1,k2⟩ h2).append ⟨k3,k4⟩;refine(D.run g' _ _ τ F s hp hl hs).mono λa τ' F' hp' _ _ ⟨y,j,d⟩=>⟨y,j.mono λn hn=>?_,d⟩
         simp only[xop,h1,h3,nW,W,Z,Tk,ob];simpa using hn
      exact Vi
     .rename_i ks vs gg nt ps as bo;have Q:=h4;cases h4 with
      |yld _ _ _ _ _ _ _ i tms pr db hF hp0 k=>
       refine(D.round ks vs gg nt ps as bo l args τ F s hp i Q h2 hs).mono λa τ' F' hp' _ _ ⟨y,j,d⟩=>⟨y,j.mono λn hn=>?_,d⟩
       simp only[xop,h1,h3,nW,ob];exact hn
     exact Vi
    exact Vi
   |invoke r m=>exact Vi
  exact Vi
 |_=>exact Vi
end
def gP (f:Fm)(dst:Bb Tmp)(v:SV):Fm:=match dst with
 |some d=>(d,v)::f|none=>f
section
variable (P :Aw)(U:Ab)
def Ki (f:Fm)(d:Tmp)(t:Bool):Fm:=match lk f d with
 |some (.bool e)=>(match e with
  | .bool _=>f|_=>(d,.bool (.bool t))::f)
 |_=>f
def bO (all:An)(f:Fm)(o:Oper)(t:Bool):Fm:=match o.guard with
 |some (j,want)=>match all[j]? with
  |some p=>match p.dst with
   |some d=>Ki f d (t==want)|none=>f
  |none=>f
 |none=>f
def GN (f:Fm)(c:Az)(t:Bool):Fm:=match c with
 | .tmp d=>Ki f d t|_=>f
def sR (all:An)(f:Fm)(o:Oper):M Bool:=
 match o.guard with
 |none=>i5 true|some (j,want)=>match all[j]? with
  |some p=>match p.dst with
   |some d=>match lk f d with
    |some (.bool e)=>c8 (gG U e) λt=>i5 (t==want)
    |some (.tup [])=>i5 false|_=>b9 "guard"
   |none=>i5 false
  |none=>i5 false
def sone (call:I8)(nt:Nat)(all:An)(o:Oper)(f:Fm):M Fm:=
 bif C4 nt o.dst then
  c8 (sR U all f o) λt=>bif t then c8 (sop P U call (bO all f o t) o.op) λv=>i5 (gP (bO all f o t) o.dst v)else i5 (gP (bO all f o t) o.dst (.tup []))
 else b9 "slot"
def NR (call:I8)(nt:Nat)(all:An):An->Fm->M Fm
 | [],f=>i5 f|o::os,f=>c8 (sone P U call nt all o f) λf'=>NR call nt all os f'
abbrev jR:=An->Fm->M Fm
abbrev mC:=Nat->Code->(Fm->M (Exit×Fm))->Fm->Bb (M (Exit×Fm))
def uG :Code->Bb Code
 | .loop b=>some b|_=>none
def Cx (call:I8)(g:Ay)(nt:Nat)(fo:Az)(ps:Array Tmp)(as bo:Code)(f:Fm):M (Exit×Fm):=
 have _:=P
 b9 "range"
def P2 (call:I8)(dr:jR)(lp:mC)(g:Ay)(rg:Bool)(nt:Nat):Nat->Code->Fm->M (Exit×Fm)
 |0,_,_=>b9 "fuel"|m+1,c,f=>match c with
  | .skip=>i5 (.normal,f)| .label _=>i5 (.normal,f)| .region _ ops draw=>c8 (bif draw then dr ops.toList f else NR P U call nt ops.toList ops.toList f) λf'=>i5 (.normal,f')
  | .seq x y=>c8 (P2 call dr lp g rg nt m x f) λr=>match r.1 with
   | .normal=>P2 call dr lp g rg nt m y r.2|e=>i5 (e,r.2)
  | .cond c x y=>match N7 f c with
   |some (.bool e)=>c8 (gG U e) λt=>bif t then P2 call dr lp g rg nt m x (GN f c t)else P2 call dr lp g rg nt m y (GN f c t)
   |_=>b9 "if"
  | .block id b => c8 (match uG b with
    |some lb=>match lp id lb (P2 call dr lp g rg nt m lb) f with
     |some r=>r|none=>P2 call dr lp g rg nt m b f
    |none=>P2 call dr lp g rg nt m b f) λr=>match r.1 with
   | .exit j=>bif Nat.beq j id then i5 (.normal,r.2)else i5 (.exit j,r.2)|e=>i5 (e,r.2)
  | .loop b=>c8 (P2 call dr lp g rg nt m b f) λr=>match r.1 with
   | .normal=>P2 call dr lp g rg nt m (.loop b) r.2|e=>i5 (e,r.2)
  | .exit id=>i5 (.exit id,f)| .ret=>i5 (.ret,f)| .scope b=>c8 (P2 call dr lp g rg nt m b f) λr=>match r.1 with
   | .normal=>i5 (.normal,r.2)| .exit j=>i5 (.exit j,r.2)| .ret=>i5 (.ret,r.2)|_=>b9 "scope"
  | .rangeFunc fo ps as bo=>bif rg then Cx P call g nt fo ps as bo f else b9 "a range in a range"|_=>b9 "code"
end
section
variable {P :Aw}{U:Ab}{ov:Aa}{nt:Nat}
variable {τ:Tau}{F:Ac}{f:Fm}{tm:Ao}
def TD.mono {τ':Tau}{F':Ac}(ht:Tle τ τ')(hf:Fle F F')(h:TD P U τ F f tm):TD P U τ' F' f tm:=λk a b=>(h k a b).mono ht hf
theorem TD.put (h:TD P U τ F f tm){a:SV}{v:Av}(g:VD P U τ F a v)(dst:Bb Tmp):TD P U τ F (gP f dst a) (y7 tm dst v):=by
 cases dst with
 |none=>exact h|some d=>intro k b hb;simp only[gP,z6]at hb;simp only[y7,VF];by_cases e:d=k;grind;rw[Tn e]at hb;rw[Tn (λh=>e h.symm)];exact h k b hb
def Ej (f:Fm)(dst:Bb Tmp)(v:SV):∃pre,gP f dst v=pre++f:=by
 cases dst with
 |none=>exact⟨[],rfl⟩|some d=>exact⟨[(d,v)],rfl⟩
theorem wQ {s:SS}(h:TD P U τ F f tm)(all:An)(o:Oper):OKp U (sR U all f o) s λt=>v5 all tm o=t:=by
 unfold sR v5;split;rename_i hg;simp only[hg];exact Vq rfl
 .rename_i j g hg;simp only[hg];unfold eU;split
  .rename_i p hp;simp only[hp];split
   .rename_i d b;split
    .rename_i e he;have hv:=h d _ he;refine OKp.test.bind λt _ _ _ ht=>Vq ?_;generalize hx:(tm.get d).getD undef=x at hv;cases hv;cases hg:tm.get d with
     |none=>rw[hg]at hx;simp[undef]at hx|some y=>grind
    rename_i he;have hv:=h d _ he;generalize hx:(tm.get d).getD undef=x at hv;cases hv;refine Vq ?_;grind;exact Vl
   rename_i b;simp only[b];exact Vq rfl
  rename_i hp;simp only[hp];exact Vq rfl
variable {t:Bool}
def IE (h:TD P U τ F f tm){d:Tmp}(ht:∀b,tm.get d=some (.bool b)->b=t):TD P U τ F (Ki f d t) tm:=by
 unfold Ki;split
 .rename_i e he;split;exact h
  .intro k a g;rw[z6]at g;split at g
   .rename_i e';subst e';cases g;have hv:=h d _ he;generalize hx:(tm.get d).getD undef=x at hv⊢;cases hv;cases hg:tm.get d with
    |none=>rw[hg]at hx;cases hx
    |some y=>rw[hg]at hx;cases hx;rw[ht _ hg];exact .bool (.bool t)
   exact h k a g
 exact h
theorem Et (f:Fm)(d:Tmp)(t:Bool):∃pre,Ki f d t=pre++f:=by unfold Ki;split;split;simp_all;exact⟨[_],rfl⟩;simp_all
theorem ID (h:TD P U τ F f tm){all:An}{o:Oper}(g:v5 all tm o=t):TD P U τ F (bO all f o t) tm:=by unfold bO;unfold v5 eU at g;split;rename_i j m hg;split;rename_i p hp;split;rename_i d r;refine IE h λb hb=>?_;subst g;simp_all;exact h;exact h;exact h
theorem Pn (h:TD P U τ F f tm){c:Az}{b:Bool}(hc:i6 tm c=some (.bool b))(hb:b=t):TD P U τ F (GN f c t) tm:=by unfold GN;split;rename_i d;refine IE h λb' g=>?_;have hc:some ((tm.get d).getD undef)=_:=hc;grind;exact h
theorem Nh (f:Fm)(c:Az)(t:Bool):∃pre,GN f c t=pre++f:=by unfold GN;split;exact Et _ _ _;simp_all
def Es (all:An)(f:Fm)(o:Oper)(t:Bool):∃pre,bO all f o t=pre++f:=by
 unfold bO;repeat' split
 exact Et _ _ _;all_goals exact⟨[],rfl⟩
variable (P ov) in
def XOps (nt:Nat)(all l:An)(tm:Ao)(hp:Hp)(tm':Ao)(hp':Hp):Prop:=EV λn=>xN P (C6 P ov n) nt all l tm hp=some (tm',hp')
theorem IZ {call:I8}(b:E4 P U ov call){all:An}:∀ {l:An} {τ:Tau} {F:Ac} {s:SS} {hp:Hp} {f:Fm} {tm:Ao},TD P U τ F f tm->SD P U τ F s hp->OKh P U (NR P U call nt all l f) τ F s hp λf' τ' F' hp'=>∃tm',XOps P ov nt all l tm hp tm' hp'/\TD P U τ' F' f' tm'/\ ∃pre,f'=pre++f
 | [],τ,F,s,hp,f,tm,ht,hs=>Vk ⟨tm,Vb λn=>xP,ht,[],rfl⟩| o :: l, τ, F, s, hp, f, tm, ht, hs => by
  unfold NR sone;cases u:C4 nt o.dst with
  |false=>exact OKh.fail.bind (R:=λ_ _ _ _=>False) λ_ _ _ _ _ _ _ h=>h.elim
  |true=>
   simp only[Tk];have step:∀ {f0:Fm} {a:SV} {v:Av} {τ1:Tau} {F1:Ac} {s1:SS} {hp1:Hp},TD P U τ1 F1 f0 tm->(∃pre,f0=pre++f)->SD P U τ1 F1 s1 hp1->VD P U τ1 F1 a v->
     OKh P U (NR P U call nt all l (gP f0 o.dst a)) τ1 F1 s1 hp1 λf' τ' F' hp'=>∃tm',XOps P ov nt all l (y7 tm o.dst v) hp1 tm' hp'/\TD P U τ' F' f' tm'/\ ∃pre,f'=pre++f:=by
    intro f0 a v τ1 F1 s1 hp1 h1 ⟨A,h0⟩ h2 h3;refine(IZ b (h1.put h3 o.dst) h2).mono λf' τ' F' hp' _ _ ⟨tm',j,m,pre,r⟩=>?_;obtain⟨p,hp⟩:=Ej f0 o.dst a;grind
   refine OKh.bind (R:=λf' τ' F' hp'=>∃f0 a v,f'=gP f0 o.dst a/\TD P U τ' F' f0 tm/\(∃pre,f0=pre++f)/\VD P U τ' F' a v/\((v5 all tm o=true/\XOp P ov o.op tm hp v hp')\/(v5 all tm o=false/\v=undef/\hp'=hp))) ?_ ?_
   .refine Vg (wQ ht all o) λt s1 z hs1 g=>?_;have ht:=ID ht g;have d:=Es all f o t;cases t with
    |true=>refine(Cv b ht hs1 o.op).bind λa τ1 F1 s2 hp1 ex y ⟨v,h1,h2⟩=>Vk ⟨_,a,v,rfl,ht.mono ex.t ex.f,d,h2,.inl ⟨g,h1⟩⟩
    |false=>exact Vk ⟨_,.tup [],undef,rfl,ht,d,.tup [] [] rfl (λi a x h _=>by grind),.inr ⟨g,rfl,rfl⟩⟩
   .intro f' τ1 F1 s1 hp1 ex hs1 ⟨f0,a,v,j,ht,d,h1,h2⟩;subst j;refine(step ht d hs1 h1).mono λw τ' F' hp' _ _ ⟨tm',j,m,r⟩=>⟨tm',?_,m,r⟩
    rcases h2 with⟨g,hx⟩| ⟨g,hv,hh⟩;exact(hx.and j).mono λn ⟨k1,k2⟩=>by rw[U2,u,Tk,g,Tk,k1];exact k2
    subst hv;subst hh;exact j.mono λn k=>by rw[U2,u,Tk,g,Tl];exact k
variable {ar :Ai}
variable (P ov) in
def XC (ar:Ai)(nt:Nat)(c:Code)(tm:Ao)(hp:Hp)(e:Exit)(tm':Ao)(hp':Hp):Prop:=
 ∃rs:Ah,(rs.Nodup/\ ∀r∈rs,hp.nx<=r/\r<hp'.nx/\hp'.m.get r=some .dfr)/\
  ∃n0,∀n m ds,n0<=n->n0<=m->j8 P (v6 P) (C6 P ov n) nt ar m c tm hp ds=some (.mk e tm' hp' (rs.map Df.mark++ds))
variable {c:Code}{hp:Hp}{e:Exit}{tm':Ao}
theorem XC.of0 {hp':Hp}(h:∃n0,∀n m ds,n0<=n->n0<=m->j8 P (v6 P) (C6 P ov n) nt ar (m+1) c tm hp ds=some (.mk e tm' hp' ds)):XC P ov ar nt c tm hp e tm' hp':=by
 obtain⟨n0,h⟩:=h;refine⟨[],(by grind),n0+1,λn m ds hn hm=>?_⟩;obtain⟨m,rfl⟩:∃k,m=k+1:=⟨m-1,by omega⟩
 grind
variable {tm1:Ao}
theorem XC.map {c':Code}{hp1:Hp}{e':Exit}(h:XC P ov ar nt c tm hp e tm1 hp1)(k:∀n m ds b,j8 P (v6 P) (C6 P ov n) nt ar m c tm hp ds=some (.mk e tm1 hp1 b)->j8 P (v6 P) (C6 P ov n) nt ar (m+1) c' tm hp ds=some (.mk e' tm' hp1 b)):XC P ov ar nt c' tm hp e' tm' hp1:=by
 obtain⟨d,h1,n0,h2⟩:=h;refine⟨d,h1,n0+1,λn m ds hn hm=>?_⟩;obtain⟨m,rfl⟩:∃k,m=k+1:=⟨m-1,by omega⟩
 grind
theorem XC.comp {j u:Code}{hp1 hp':Hp}(h1:XC P ov ar nt j tm hp .normal tm1 hp1)(h2:XC P ov ar nt u tm1 hp1 e tm' hp')(A:hp.nx<=hp1.nx)(B:hp1.nx<=hp'.nx)(hk:∀r,r<hp1.nx->hp1.m.get r=some .dfr->hp'.m.get r=some .dfr)(k:∀n m ds b d,j8 P (v6 P) (C6 P ov n) nt ar m j tm hp ds=some (.mk .normal tm1 hp1 b)->j8 P (v6 P) (C6 P ov n) nt ar m u tm1 hp1 b=some (.mk e tm' hp' d)->j8 P (v6 P) (C6 P ov n) nt ar (m+1) c tm hp ds=some (.mk e tm' hp' d)):XC P ov ar nt c tm hp e tm' hp':=by
 obtain⟨g,⟨w,E⟩,C,G⟩:=h1;obtain⟨h,⟨y,H⟩,D,z⟩:=h2;refine⟨h++g,⟨UT.2 ⟨y,w,λr hr q hq e=>?_⟩,λr hr=>?_⟩,C+D+1,λn m ds hn hm=>?_⟩;grind;grind
 .obtain⟨m,rfl⟩:∃k,m=k+1:=⟨m-1,by omega⟩
  rw[TQ,Th];exact k n m ds _ _ (by grind) (z n m _ (by omega) (by omega))
theorem OKh.monoE {α:Type}{m:M α}{s:SS}{R b:α->Tau->(Ac)->Hp->Prop}(h:OKh P U m τ F s hp R)(hr:∀a τ' F' s' hp',Ext τ F s hp τ' F' s' hp'->R a τ' F' hp'->b a τ' F' hp'):OKh P U m τ F s hp b:=by intro Q hq hs;obtain⟨a,s',h1,τ',F',hp',h2,h3,h4⟩:=h Q hq hs;grind
variable (P U ov) in
def fM (ar:Ai)(nt:Nat)(m:M (Exit×Fm))(c:Code)(f:Fm):Prop:=∀τ F s hp tm,TD P U τ F f tm->SD P U τ F s hp->
 OKh P U m τ F s hp λr τ' F' hp'=>∃tm',XC P ov ar nt c tm hp r.1 tm' hp'/\TD P U τ' F' r.2 tm'/\ ∃pre,r.2=pre++f
variable (P U ov) in
def bW (nt:Nat)(dr:jR):Prop:=∀ops f τ F s hp tm,TD P U τ F f tm->SD P U τ F s hp->
 OKh P U (dr ops f) τ F s hp λf' τ' F' hp'=>∃tm',(EV λn=>v6 P (C6 P ov n) nt ops tm hp=some (tm',hp'))/\TD P U τ' F' f' tm'/\ ∃pre,f'=pre++f
variable (P U ov) in
def bX (ar:Ai)(nt:Nat)(lp:mC):Prop:=∀id b body f r,(∀f',fM P U ov ar nt (body f') b f')->lp id b body f=some r->fM P U ov ar nt r (.loop b) f
def Hh {call:I8}(b:E4 P U ov call)(g:Ay)(fo:Az)(ps:Array Tmp)(as bo:Code)(f:Fm):fM P U ov none nt (Cx P call g nt fo ps as bo f) (.rangeFunc fo ps as bo) f:=by intro τ F s hp tm ht hs;unfold Cx;exact Vi
theorem EE {call:I8}(z:E4 P U ov call){dr:jR}(D:bW P U ov nt dr){lp:mC}(E:bX P U ov ar nt lp)(g:Ay)(rg:Bool)(H:rg=true->ar=none):∀(m:Nat) (c:Code) (f:Fm),fM P U ov ar nt (P2 P U call dr lp g rg nt m c f) c f
 |0,c,f=>λτ F s hp tm ht hs=>Vi
 |m+1,c,f=>by
  have B:=EE z D E g rg H m;cases c with
  |rangeFunc fo ps as bo=>
   intro τ F s hp tm ht hs;cases hb:rg with
   |false=>exact Vi|true=>have:=H hb;subst this;exact Hh z g fo ps as bo f τ F s hp tm ht hs
  |skip=>exactλτ F s hp tm ht hs=>Vk ⟨tm,XC.of0 ⟨0,λn m ds _ _=>rfl⟩,ht,[],rfl⟩
  |label l=>exactλτ F s hp tm ht hs=>Vk ⟨tm,XC.of0 ⟨0,λn m ds _ _=>rfl⟩,ht,[],rfl⟩
  |exit J=>exactλτ F s hp tm ht hs=>Vk ⟨tm,XC.of0 ⟨0,λn m ds _ _=>rfl⟩,ht,[],rfl⟩
  |ret=>exactλτ F s hp tm ht hs=>Vk ⟨tm,XC.of0 ⟨0,λn m ds _ _=>rfl⟩,ht,[],rfl⟩
  |region J ops draw=>
   intro τ F s hp tm ht hs;simp only[P2];cases draw with
   |true=>refine(D ops.toList f τ F s hp tm ht hs).bind λf' τ' F' s' hp' _ _ ⟨tm',⟨n0,M⟩,d,u⟩=>Vk ⟨tm',XC.of0 ⟨n0,λn m ds hn _=>?_⟩,d,u⟩;simp only[j8,Tk,M n hn]
   |false=>refine(IZ z ht hs).bind λf' τ' F' s' hp' _ _ ⟨tm',⟨n0,M⟩,d,u⟩=>Vk ⟨tm',XC.of0 ⟨n0,λn m ds hn _=>?_⟩,d,u⟩;simp only[j8,Tl,M n hn]
  |seq x y=>
   intro τ F s hp tm ht hs;simp only[P2];refine(B x f τ F s hp tm ht hs).bind λr τ1 F1 s1 hp1 ex hs1 ⟨tm1,hx,d,pre,u⟩=>?_;have out:∀e,r.1=e->e≠ .normal->OKh P U (i5 (e,r.2)) τ1 F1 s1 hp1 λr τ' F' hp'=>∃tm',XC P ov ar nt (.seq x y) tm hp r.1 tm' hp'/\TD P U τ' F' r.2 tm'/\ ∃pre,r.2=pre++f:=by intro e he G;refine Vk ⟨tm1,hx.map λn m ds w hk=>?_,d,pre,u⟩;simp only[j8,hk];grind
   split
   .rename_i hr;refine(B y r.2 τ1 F1 s1 hp1 tm1 d hs1).monoE λR τ' F' s' hp' A ⟨tm',hy,k2,p2,k3⟩=>⟨tm',?_,k2,p2++pre,by rw[k3,u,Th]⟩
    rw[hr]at hx;refine hx.comp hy ex.nx A.nx (λr hlt hg=>A.dfr hs1 hlt hg (.inl rfl)) λn m ds K L O Q=>?_;simp only[j8,O];exact Q
   grind
  |cond c x y=>
   intro τ F s hp tm ht hs;simp only[P2];split
   .rename_i e he;obtain⟨v,h1,h2⟩:=M3 ht he;cases h2;refine Vg Vt λt s1 _ hs1 C=>?_;have ht:=Pn ht h1 C;obtain⟨T,hp0⟩:=Nh f c t;have app:∀ {r:Fm},(∃pre,r=pre++GN f c t)-> ∃pre,r=pre++f:=λ⟨p,h⟩=>(by grind)
    cases t with
    |true=>
     refine(B x _ τ F s1 hp tm ht hs1).mono λr τ' F' hp' _ _ ⟨tm',hx,d,u⟩=>⟨tm',hx.map λn m ds w hk=>?_,d,app u⟩
     simp only[j8,h1,C];exact hk
    |false=>
     refine(B y _ τ F s1 hp tm ht hs1).mono λr τ' F' hp' _ _ ⟨tm',hx,d,u⟩=>⟨tm',hx.map λn m ds w hk=>?_,d,app u⟩
     simp only[j8,h1,C];exact hk
   exact Vi
  |block J b=>
   intro τ F s hp tm ht hs;simp only[P2];have inner:fM P U ov ar nt (match uG b with
    |some lb=>match lp J lb (P2 P U call dr lp g rg nt m lb) f with
     |some r=>r|none=>P2 P U call dr lp g rg nt m b f
    |none=>P2 P U call dr lp g rg nt m b f) b f:=by
    split
    .rename_i lb N;have hb:b= .loop lb:=by unfold uG at N;grind
     subst hb;split;rename_i r hr;exact E J lb _ f r (λf'=>B lb f') hr;grind
    grind
   refine(inner τ F s hp tm ht hs).bind λr τ1 F1 s1 hp1 ex hs1 ⟨tm1,hx,d,u⟩=>?_;split
   .rename_i j hr;cases hb:Nat.beq j J with
    |true=>refine Vk ⟨tm1,hx.map λn m ds w hk=>?_,d,u⟩;rw[hr]at hk;simp only[j8,hk,hb,Tk]|false=>refine Vk ⟨tm1,hx.map λn m ds w hk=>?_,d,u⟩;rw[hr]at hk;simp only[j8,hk,hb,Tl]
   rename_i G;refine Vk ⟨tm1,hx.map λn m ds w hk=>?_,d,u⟩;simp only[j8,hk];grind
  |loop b=>
   intro τ F s hp tm ht hs;simp only[P2];refine(B b f τ F s hp tm ht hs).bind λr τ1 F1 s1 hp1 ex hs1 ⟨tm1,hx,d,pre,u⟩=>?_;split
   .rename_i hr;refine(B (.loop b) r.2 τ1 F1 s1 hp1 tm1 d hs1).monoE λR τ' F' s' hp' A ⟨tm',hy,k2,p2,k3⟩=>⟨tm',?_,k2,p2++pre,by rw[k3,u,Th]⟩
    rw[hr]at hx;refine hx.comp hy ex.nx A.nx (λr hlt hg=>A.dfr hs1 hlt hg (.inl rfl)) λn m ds K L O Q=>?_;simp only[j8,O];exact Q
   rename_i G;refine Vk ⟨tm1,hx.map λn m ds w hk=>?_,d,pre,u⟩;simp only[j8,hk];grind
  |scope b=>intro τ F s hp tm ht hs;simp only[P2];refine(B b f τ F s hp tm ht hs).bind λr τ1 F1 s1 hp1 ex hs1 ⟨tm1,hx,d,u⟩=>?_;split;rename_i hr;refine Vk ⟨tm1,hx.map λn m ds w hk=>?_,d,u⟩;rw[hr]at hk;simp only[j8,hk];rename_i j hr;refine Vk ⟨tm1,hx.map λn m ds w hk=>?_,d,u⟩;rw[hr]at hk;simp only[j8,hk];rename_i hr;refine Vk ⟨tm1,hx.map λn m ds w hk=>?_,d,u⟩;rw[hr]at hk;simp only[j8,hk];exact Vi
  |_=>exactλτ F s hp tm ht hs=>Vi
end
def kJ :Nat->As->Fm
 |_,[]=>[]
 |k,a::l=>(k,a)::kJ (k+1) l
section
variable (P :Aw)(U:Ab)
def Ja (f:Fm):ResultVar->M SV
 | .tmp t=>i5 ((lk f t).getD .any)| .cell a t=>IW P U t ((lk f a).getD .any)
def cV (f:Fm):List ResultVar->M (As)
 | []=>i5 []|r::rs=>c8 (Ja P U f r) λv=>c8 (cV f rs) λvs=>i5 (v::vs)
def AN :As->SV
 | [v]=>v|vs=>.tup vs
def sfun (call:I8)(dr:Nat->jR)(lp:Ay->Nat->mC)(m:Nat)(g:Ay)(args:As):M SV:=
 match P.funcs[g]? with
 |some fn=>bif wkFn fn then b9 "a capacity" else match fn.body with
  |some c=>c8 (P2 P U call (dr (args.length+(fn.ntmps-args.length))) (lp g (args.length+(fn.ntmps-args.length))) g true (args.length+(fn.ntmps-args.length)) m c (kJ 0 args)) λr=>match r.1 with
   | .normal=>c8 (cV P U r.2 fn.results.toList) λvs=>i5 (AN vs)
   | .ret=>c8 (cV P U r.2 fn.results.toList) λvs=>i5 (AN vs)
   |_=>b9 "end of a call"
  |none=>b9 "no body"
 |none=>b9 "no function"
def Hi (call:I8)(dr:Nat->jR)(lp:Ay->Nat->mC)(m:Nat)(ks:Ah)(vs:As)(g:Ay)(nt:Nat)(ps:Ah)(as bo:Code)(args:As):M SV:=
 have _:=P;have _:=U
 b9 "sround"
def Y0 (dr:I8->Nat->jR)(lp:I8->Ay->Nat->mC)(con:Ay->Bb (As->M SV)):Nat->I8
 |0=>⟨λ_ _=>b9 "depth of calls",λ_ _ _ _ _ _ _ _=>b9 "depth of rounds"⟩
 |n+1=>⟨λg args=>match con g with
  |some k=>k args|none=>sfun P U (Y0 dr lp con n) (dr (Y0 dr lp con n)) (lp (Y0 dr lp con n)) n g args,
  λks vs g nt ps as bo args=>Hi P U (Y0 dr lp con n) (dr (Y0 dr lp con n)) (lp (Y0 dr lp con n)) n ks vs g nt ps as bo args⟩
end
section
variable {P :Aw}{U:Ab}{ov:Aa}
variable (P U ov) in
def C3 (k:As->M SV)(g:Ay):Prop:=∀l args τ F s hp,VDL P U τ F l args->SD P U τ F s hp->OKh P U (k l) τ F s hp λa τ' F' hp'=>∃v,V6 P ov g args hp v hp'/\VD P U τ' F' a v
theorem zL :∀(l:As) (k j:Nat) (a:SV),lk (kJ k l) j=some a->k<=j/\l[j-k]? =some a
 | [],k,j,a,h=>by simp[kJ,lk]at h|b::l,k,j,a,h=>by rw[kJ,z6]at h;by_cases e:k=j;grind;rw[Tn e]at h;obtain⟨h1,h2⟩:=zL l (k+1) j a h;grind
def TD.args {τ:Tau}{F:Ac}{l:As}{args:Af}(h:VDL P U τ F l args):TD P U τ F (kJ 0 l) (fill .e 0 args):=by intro k a b;obtain⟨_,h2⟩:=zL l 0 k a b;obtain⟨v,h3,h4⟩:=h.get h2;rwa[L7 args k v (by omega)]
def rH {τ:Tau}{F:Ac}{f:Fm}{tm:Ao}(ht:TD P U τ F f tm){hp:Hp}:∀ {d:List ResultVar} {s:SS},SD P U τ F s hp->OKp U (cV P U f d) s λl=>∃vs,I4 P tm hp d=some vs/\VDL P U τ F l vs
 | [],s,hs=>Vq ⟨[],rfl,VM⟩|r::d,s,hs=>by
  have hv:∀t,VD P U τ F ((lk f t).getD .any) ((tm.get t).getD undef):=λt=>by
   cases hl:lk f t with
   |none=>exact .any _|some b=>exact ht t b hl
  have one:OKp U (Ja P U f r) s λa=>∃v,bA P tm hp r=some v/\VD P U τ F a v:=by
   cases r with
   |tmp t=>exact Vq ⟨_,rfl,hv t⟩|cell a t=>exact(EK (hv a) hs).mono λb ⟨u,h1,h2⟩=>⟨u,h1,h2⟩
  refine one.bind λa s1 h g ⟨v,h1,h2⟩=>(rH ht (hs.only h g)).bind λl s2 _ _ ⟨vs,h3,h4⟩=>Vq ⟨v::vs,by simp only[I4,h1,h3],VL h2 h4⟩
theorem NS {τ:Tau}{F:Ac}{l:As}{vs:Af}(h:VDL P U τ F l vs):VD P U τ F (AN l) (fG vs):=by unfold AN fG;split;obtain⟨y,ys,rfl,h1,h2⟩:=h.uncons;have:=SZ h2.1.symm;grind;rename_i b;split;rename_i v;have hl:=h.1;cases l<;>simp_all;exact h.tup
theorem eO {d:Ay->Af->Hp->Bb (Av×Hp)}:∀(b:Ah) (hp:Hp),b.Nodup->(∀r∈b,hp.m.get r=some .dfr)-> ∃hp',J5 P d (b.map Df.mark++ []) hp=some hp'/\hp'.nx=hp.nx/\ ∀i,i∉b->hp'.m.get i=hp.m.get i
 | [],hp,_,_=>⟨hp,rfl,rfl,λ_ _=>rfl⟩
 |r::b,hp,hn,hg=>by
  have h1:=hg r (by simp);rw[List.nodup_cons]at hn;have g:∀q∈b,q≠r:=λq hq e=>hn.1 (e▸hq);obtain⟨hp',u,h,j⟩:=eO b {hp with m:=hp.m.set r none} hn.2 λq hq=>by rw[VF,Tn (g q hq)];grind
  refine⟨hp',?_,h,λi hi=>?_⟩;simp only[TV,Uf,J5,h1];omega;simp at hi;rw[j i hi.2,VF,Tn hi.1]
def lT {D D':Ay->Af->Hp->Bb (Av×Hp)}:∀(b:Ah) (hp:Hp),J5 P D (b.map Df.mark++ []) hp=J5 P D' (b.map Df.mark++ []) hp
 | [],hp=>rfl|r::b,hp=>by simp only[TV,Uf,J5];split;exact lT b _;rfl
variable {call:I8}{dr:Nat->jR}{lp:Ay->Nat->mC}
theorem IU (B:E4 P U ov call)(K:∀nt,bW P U ov nt (dr nt))(M:∀ar g nt,bX P U ov ar nt (lp g nt))(m:Nat)(g:Ay)(hg:isT (ov g)=false):C3 P U ov (sfun P U call dr lp m g) g:=by
 intro l args τ F s hp hl hs;unfold sfun;split
 .rename_i fn D;cases V:wkFn fn with
  |true=>rw[Tk];exact Vi|false=>
  have V:wkF P g=false:=by unfold wkF;rw[D];exact V
  rw [Tl];split
  .rename_i c hc;refine(EE B (K _) (M none g _) g true (λ_=>rfl) m c (kJ 0 l) τ F s hp (fill .e 0 args) (TD.args hl) hs).bindE λr τ1 F1 s1 hp1 ex hs1 ⟨tm1,⟨d,⟨O,u⟩,n1,X⟩,e2,_⟩=>?_;rw[hl.1]at X;have aa:(r.1= .normal\/r.1= .ret)-> ∀Q,((c8 (cV P U r.2 fn.results.toList) λvs=>i5 (AN vs)) s1).vc U Q->
     ∃b s2,Q (b,s2)/\ ∃τ2 w hp2,Ext τ F s hp τ2 w s2 hp2/\SD P U τ2 w s2 hp2/\ ∃v,V6 P ov g args hp v hp2/\VD P U τ2 w b v:=by
    intro hr Q hq;have N:∀n:Nat,∃hp2,J5 P (P9 P (v6 P) (C6 P ov n) n) (d.map Df.mark++ []) hp1=some hp2/\hp2.nx=hp1.nx/\ ∀i,i∉d->hp2.m.get i=hp1.m.get i:=λn=>eO d hp1 O λr hr=>(u r hr).2.2;have H:∀n,J5 P (P9 P (v6 P) (C6 P ov n) n) (d.map Df.mark++ []) hp1=J5 P (P9 P (v6 P) (C6 P ov 0) 0) (d.map Df.mark++ []) hp1:=by exactλn=>lT d hp1
    obtain⟨hp2,l1,l2,Z⟩:=N 0;let w:Ac:=λj=>if j∈d then none else F1 j
    have C:SD P U τ1 w s1 hp2:=by
     refine hs1.sub true (λj y hj h=>?_) (.inl rfl) (by omega) (λb x j o hb hj=>?_) (λj y hj=>?_);show(if j∈d then none else F1 j)=some y;rw[Tn ?_];exact hj;intro hm;have h1:=(u j hm).2.2;rw[hs1.frz j y hj]at h1;cases h1;rcases h with h| ⟨_,h⟩;cases h;grind
     .rcases hs1.live b x hb with⟨i',o',y',h1,h2,h3,h4⟩| ⟨h1,_⟩
      .rw[hj]at h1;cases h1;have ab:j∉d:=λhm=>by
        have Y:=(u j hm).2.2;rw[h2]at Y;cases Y;cases x with
        |cells l e z=>obtain⟨cs,n,h,_⟩:=h4;cases h
        |rows L e z ph=>obtain⟨cs,n,h,_⟩:=h4;cases h
        |iter s p=>obtain⟨_,n,h,_⟩:=h4;cases h
        |reg r L z=>obtain⟨_,_,cs,h,_⟩:=h4;cases h
       grind
      grind
     have hj:(if j∈d then none else F1 j)=some y:=hj;by_cases e:j∈d;grind;rw[Tn e]at hj;exact⟨by rw[Z j e];exact hs1.frz j y hj,by rw[l2];exact hs1.flt j y hj⟩
    have E:∀j,j<hp.nx->j∉d:=λj hj hm=>by have:=(u j hm).1;omega
    have J:Ext τ F s hp τ1 w s1 hp2:=by refine ex.shrink (by omega) (λj hj=>Z j (E j hj)) (λj y hj=>?_) (λj y hj=>?_);grind;show(if j∈d then none else F1 j)=some y;rw[Tn (E j (hs.flt j y hj))];exact ex.f j y hj
    have T:TD P U τ1 w r.2 tm1:=λk a ha=>(e2 k a ha).sub true (λj y hj h=>by show(if j∈d then none else F1 j)=some y;rw[Tn ?_];exact hj;intro hm;have h1:=(u j hm).2.2;rw[hs1.frz j y hj]at h1;cases h1;rcases h with h| ⟨_,h⟩;cases h;exact h rfl) (.inl rfl);have G:OKh P U (c8 (cV P U r.2 fn.results.toList) λvs=>i5 (AN vs)) τ1 w s1 hp2 λa τ' F' hp'=>∃v,V6 P ov g args hp v hp'/\VD P U τ' F' a v:=by
     refine Vg (rH T C) λvs s2 _ C ⟨ws,h1,h2⟩=>Vk ⟨fG ws,⟨n1+1,λn hn=>?_⟩,NS h2⟩;obtain⟨n,rfl⟩:∃k,n=k+1:=⟨n-1,by omega⟩
     have hx:=X n n [] (by omega) (by omega);show(bif isT (ov g)&&args.isEmpty then some (.bool true,hp)else fH (S6 P (v6 P) (C6 P ov n) (P9 P (v6 P) (C6 P ov n) n) n g) (bif wkF P g then wkA hp args else args) hp)=_;rw[hg,Bool.false_and,Tl,V,Tl];have A:=(H n).trans l1;have hb:S6 P (v6 P) (C6 P ov n) (P9 P (v6 P) (C6 P ov n) n) n g args hp=some (fG ws,hp2):=by simp only[S6,D,hc];rcases hr with hr|hr;rw[hr]at hx;simp only[hx,qF,A,h1];rw[hr]at hx;simp only[hx,qF,A,h1]
     simp only[fH,hb]
    obtain⟨b,s3,q1,W,F3,R,x1,x2,x3⟩:=G Q hq C;exact⟨b,s3,q1,W,F3,R,J.trans x1,x2,x3⟩
   intro Q hq;cases hr:r.1 with
   |normal=>simp_all|ret=>simp_all|_=>simp only[hr]at hq;exact hq.elim
  exact Vi
 exact Vi
def Kx (b:E4 P U ov call)(d:∀nt,bW P U ov nt (dr nt))(h:∀ar g nt,bX P U ov ar nt (lp g nt))(m:Nat)(ks:Ah)(vs:As)(g:Ay)(nt:Nat)(ps:Ah)(as bo:Code)(l:As)(args:Af)(τ:Tau)(F:Ac)(s:SS)(hp:Hp)(i:Nat)(hv:VD P U τ F (.yld ks vs g nt ps as bo) (.chan (some i)))(hl:VDL P U τ F l args)(hs:SD P U τ F s hp):OKh P U (Hi P U call dr lp m ks vs g nt ps as bo l) τ F s hp λa τ' F' hp'=>∃v,(EV λn=>qM P (v6 P) (C6 P ov n) n i args hp=some (v,hp'))/\VD P U τ' F' a v:=by unfold Hi;exact Vi
theorem wC {dr:I8->Nat->jR}(d:∀call,E4 P U ov call-> ∀nt,bW P U ov nt (dr call nt)){lp:I8->Ay->Nat->mC}(h:∀call,E4 P U ov call-> ∀ar g nt,bX P U ov ar nt (lp call g nt)){con:Ay->Bb (As->M SV)}(b:∀g k,con g=some k->C3 P U ov k g)(r:∀g,isT (ov g)=true->con g≠none):∀n,E4 P U ov (Y0 P U dr lp con n)
 |0=>⟨λg l args τ F s hp _ _=>Vi,λks vs g nt ps as bo l args τ F s hp i _ _ _=>Vi⟩
 |n+1=>by
  have m:=wC d h b r n;refine⟨λg l args τ F s hp hl hs=>?_,λks vs g nt ps as bo l args τ F s hp i hv hl hs=>?_⟩
  .simp only[Y0];split;rename_i k hk;exact b g k hk l args τ F s hp hl hs
   .rename_i hk;have hg:isT (ov g)=false:=by grind
    exact IU m (d _ m) (h _ m) n g hg l args τ F s hp hl hs
  .refine(Kx m (d _ m) (h _ m) n ks vs g nt ps as bo l args τ F s hp i hv hl hs).mono λa τ' F' hp' _ _ ⟨v,⟨n0,h1⟩,h2⟩=>⟨v,⟨n0+1,λk hk=>?_⟩,h2⟩
   obtain⟨k,rfl⟩:∃j,k=j+1:=⟨k-1,by omega⟩
   exact h1 k (by omega)
end
section
variable {P :Aw}{call:i9}{tm:Ao}{hp hp':Hp}{v:Av}
theorem Da {o:Op}(hk:j4 o=1)(hx:xop P call tm hp o=some (v,hp)):xrd P tm hp o=some v:=by unfold xrd;rw[AZ hk _ call,hx];simp_all
def SM {o:Op}(hk:j4 o=1)(hx:xop P call tm hp o=some (v,hp')):hp'=hp/\xrd P tm hp o=some v:=by have e:=Ft hk hx;subst e;exact⟨rfl,Da hk hx⟩
variable {a:Az}{S:Hp}
def Fw {t:Ax}{j q:Nat}(hx:xop P call tm hp (.load t a)=some (v,hp'))(b:i6 tm a=some (.pointer (some ⟨j,q,none⟩)))(hg:S.m.get j=hp.m.get j):xrd P tm S (.load t a)=some v:=by
 refine Da (call:=call) rfl ?_;simp only[xop,b,ob]at hx⊢;have:G5 P S t (.pointer (some ⟨j,q,none⟩))=G5 P hp t (.pointer (some ⟨j,q,none⟩)):=by simp only[G5,hg]
 rw[this,(A7 hx).1];rfl
def KT {t:Ax}{j q:Nat}(hx:xop P call tm hp (.load t a)=some (v,hp'))(b:i6 tm a=some (.pointer (some ⟨j,q,some 1⟩)))(hg:S.m.get 0=hp.m.get 0):xrd P tm S (.load t a)=some v:=by
 refine Da (call:=call) rfl ?_;simp only[xop,b,ob]at hx⊢;have:G5 P S t (.pointer (some ⟨j,q,some 1⟩))=G5 P hp t (.pointer (some ⟨j,q,some 1⟩)):=by simp only[G5,qI,hg]
 rw[this,(A7 hx).1];rfl
theorem FA {t:Ax}{x:Av}{lo hi d:Ag}(h:w9 P hp t x lo hi d=some (v,hp'))(hg:∀i o l c,x= .slice (some ⟨i,o,none⟩) l c->S.m.get i=hp.m.get i):w9 P S t x lo hi d=some (v,S):=by
 unfold w9 at h⊢;simp only[Bool.cond_eq_ite]at h⊢;split at h;split at h;grind;cases h
 .split at h;cases h;rename_i ie b;split at h;grind;grind;have e:=hg _ _ _ _ rfl;split at h;rename_i g;split at h;rename_i j;split at h;cases h;grind;rename_i l hh h2;split at h<;>grind;cases h;grind;cases h
 split at h;cases h;rename_i ie b;split at h<;>grind;cases h
theorem jH {t:Ax}{x:Az}{lo hi d:Bb Az}{u:Av}(hx:xop P call tm hp (.slice t x lo hi d)=some (v,hp'))(g:i6 tm x=some u)(S:Hp)(hg:∀i o l c,u= .slice (some ⟨i,o,none⟩) l c->S.m.get i=hp.m.get i):xrd P tm S (.slice t x lo hi d)=some v:=by
 refine Da (call:=call) rfl ?_;simp only[xop,g,ob]at hx⊢;cases h1:xQ tm lo with
 |none=>grind|some a=>
  rw[h1]at hx;cases h2:xQ tm hi with
  |none=>grind|some b=>
   rw[h2]at hx;cases h3:xQ tm d with
   |none=>grind|some c=>rw[h3]at hx;exact FA hx hg
end
inductive Rd where
 |free
 |blk (b:Nat)
 |frz
 |bad
def vH (rb:Ai)(f:Fm):Op->Rd
 | .load _ x=>match N7 f x with
  |some (.ptr b _ _ _)=>.blk b|some (.pptr _ _ _ _)=>.frz|some (.rp _ _)=>match rb with
   |some b=>.blk b|none=>.bad
  |_=>.bad
 | .slice _ x _ _ _=>match N7 f x with
  |some (.lst _ _ _)=>.frz|some .nils=>.free|some (.str _)=>.free|_=>.bad
 |_=>.bad
def vok :Nat->SV->Bool
 |0,_=>false|n+1,a=>match a with
  | .any=>false| .agg l=>l.all (vok n)| .tup l=>l.all (vok n)| .fn _ l m=>l.all (vok n)&&m.all (vok n)| .rv _ _=>false|_=>true
section
variable {P :Aw}{U:Ab}{τ:Tau}{F:Ac}{s:SS}
variable {v:Av}
def PV.lst_slice {e:Ax}{d:Dat}(h:PV P F (.sl e) v d):∃a l c,v= .slice a l c:=by cases h<;>exact⟨_,_,_,rfl⟩
variable {l:As}
theorem OC {f:Av->Av->Bool}{xs:Af}(hl:l.length=xs.length)(h:∀(i:Nat) a x,l[i]? =some a->xs[i]? =some x->f x x=true):rQ f xs xs=true:=by
 induction xs generalizing l with
 |nil=>rfl|cons x xs d=>
  cases l with
  |nil=>grind|cons a l=>simp only[rQ,SR];exact⟨h 0 a x rfl rfl,d (by grind) λi b y hb hy=>h (i+1) b y hb hy⟩
theorem Fa :∀(n:Nat) (a:SV) (v:Av),vok n a=true->VD P U τ F a v->veq n v v=true
 |0,_,_,h,_=>by cases h
 |n+1,a,v,h,hv=>by
  have g:=Fa n;have all:∀ {l:As} {xs:Af},l.all (vok n)=true->l.length=xs.length->(∀(i:Nat) a x,l[i]? =some a->xs[i]? =some x->VD P U τ F a x)->rQ (veq n) xs xs=true:=by intro l xs h1 h2 h3;rw[Ty]at h1;exact OC h2 λi a x d hx=>g a x (h1 a (Td d)) (h3 i a x d hx)
  have b:∀k:Nat,Nat.beq k k=true:=λk=>u7 rfl;cases hv with
  |any v=>cases h
  |int k e=>simp[veq]|bool e=>simp[veq]|str e=>simp[veq]|nilp=>simp[veq]|ptr=>simp[veq]|pptr=>simp[veq]|rp=>simp[veq]|rv=>cases h
  |rpq x v hp=>generalize x.toI U=m at hp;cases hp<;>simp[veq]
  |nils=>simp only[veq,b,Ua,UD]|sl=>simp only[veq,b,Ua,UD]|sl0=>simp only[veq,b,Ua,UD]|lst t L clip v hp hc=>obtain⟨a,l,c,rfl⟩:=hp.lst_slice;simp only[veq,b,Ua,UD]
  |agg l xs h1 h2=>simp only[vok]at h;simp only[veq];exact all h h1 h2|tup l xs h1 h2=>simp only[vok]at h;simp only[veq];exact all h h1 h2|fn f l m xs ys h1 h2 h3 h4=>simp only[vok,SR]at h;simp only[veq,Ua,Bool.true_and,SR];grind|nilf=>rfl|yld=>simp[veq]
variable (P) in
def FF (τ:Tau)(F:Ac)(S:Hp)(tm:Ao)(o:Op)(v:Av):Rd->Prop
 | .free=>∀S2,xrd P tm S2 o=some v| .blk b=>∃j q,τ b=some (some (j,q))/\ ∀S2:Hp,S2.m.get j=S.m.get j->xrd P tm S2 o=some v| .frz=>(∀S2,xrd P tm S2 o=some v)\/ ∃j y,F j=some y/\ ∀S2:Hp,S2.m.get j=some y->xrd P tm S2 o=some v| .bad=>True
variable {tm:Ao}
theorem Pk {call:i9}{f:Fm}{S S':Hp}{o:Op}(ht:TD P U τ F f tm)(hs:SD P U τ F s S)(h:xop P call tm S o=some (v,S')):FF P τ F S tm o v (vH (rgB s) f o):=by
 unfold vH;split
 .rename_i t x;split
  .rename_i b z row fld hx;obtain⟨u,h1,h2⟩:=M3 ht hx;cases h2 with
   |ptr _ _ _ _ i q g h0=>exact⟨i,q,g,λS2 hg=>Fw h h1 hg⟩
  .rename_i B L row fld hx;obtain⟨u,h1,h2⟩:=M3 ht hx;cases h2 with
   |pptr _ _ _ _ i q l c hp h0 hlt=>
    have:∃y,F i=some y:=by
     cases hp with
     |sl e i o c b cs n z rows x hF=>grind
    obtain⟨y,hy⟩:=this;exact .inr ⟨i,y,hy,λS2 hg=>Fw h h1 (by rw[hg,hs.frz i y hy])⟩
  .rename_i row fld hx;obtain⟨u,h1,h2⟩:=M3 ht hx;split
   .rename_i b j;obtain⟨⟨b',L,z⟩,hr,e⟩:=Uz.1 j;subst e;obtain⟨_,g,_⟩:=iS hs hr;cases h2 with
    |rp _ _ h0=>exact⟨0,0,g,λS2 hg=>KT h h1 hg⟩
   trivial
  trivial
 .rename_i t x lo hi A;have free:∀ {a:SV},N7 f x=some a->(∀w,VD P U τ F a w-> ∀i o l c,w≠ .slice (some ⟨i,o,none⟩) l c)-> ∀S2,xrd P tm S2 (.slice t x lo hi A)=some v:=by intro a r hn S2;obtain⟨u,h1,h2⟩:=M3 ht r;exact jH h h1 S2 λi o l c e=>absurd e (hn u h2 i o l c)
  split
  .rename_i B L c hx;obtain⟨u,h1,h2⟩:=M3 ht hx;cases h2 with
   |lst _ _ _ _ hp _=>
    generalize Dat.l (L.toR U)=d at hp;cases hp with
    |nils=>exact .inl λS2=>jH h h1 S2 λi o l c e=>by cases e
    |vague=>exact .inl λS2=>jH h h1 S2 λi o l c e=>by cases e
    |sl e i o c b cs n z rows x hF=>refine .inr ⟨i,b,hF,λS2 hg=>jH h h1 S2 λC o' l' c' e=>?_⟩;cases e;rw[hg,hs.frz i b hF]
  rename_i hx;exact free hx λw m i o l c e=>by cases m;cases e
  rename_i hx;exact free hx λw m i o l c e=>by cases m;cases e
  trivial
 trivial
variable (P) in
def snw (f:Fm)(o:Op):Bb (B0×(Nat->SV)):=
 match o with
 | .alloc e=>bif Nat.beq e rgT then none else match rI P e with
  |some l=>some (.cells l e l.length,λb=>.ptr b l.length (.int 0) 0)|none=>none
 | .box e x=>bif Nat.beq e rgT then none else match N7 f x with
  |some v=>match E0 v with
   |some l=>some (.cells l e l.length,λb=>.ptr b l.length (.int 0) 0)|none=>none
  |none=>none
 | .buildSlice t len parts=>match hG f parts.toList with
  |some ps=>match P.underlying t with
   |some (.slice e)=>match P.info? e with
    |some ie=>match rI P e with
     | some z => bif Nat.beq z.length ie.size && Nat.ble (len * ie.size) 16777216 && Nat.ble len 16777216 then
       match rG (λi=>some (i*ie.size,ie.size)) (NV len z) ps with
       |some cs=>some (.cells cs e ie.size,λb=>.sl b ie.size (.int 0) (.int len) (.ex (.int len)))|none=>none
      else none
     |none=>none
    |none=>none
   |_=>none
  |none=>none
 |_=>none
variable (P U) in
def NwOK (τ:Tau)(F:Ac)(tm:Ao)(o:Op)(x:B0)(mk:Nat->SV):Prop:=
 ∃n,xnw P tm o=some n/\(∀τ',Tle τ τ'->BD P U τ' F 0 x n.blk)/\ ∀(τ':Tau) b id,τ' b=some (some (id,0))->VD P U τ' F (mk b) (n.val id)
def Qd {vs:Af}{e:Ax}(h:VDL P U τ F l vs):(∀τ',Tle τ τ'->BD P U τ' F 0 (.cells l e l.length) (H8 vs e vs.length))/\ ∀(τ':Tau) b d,τ' b=some (some (d,0))->VD P U τ' F (.ptr b l.length (.int 0) 0) ((⟨H8 vs e vs.length,.ptr,rfl⟩:Nw).val d):=by refine⟨λτ' ht=>?_,λτ' b d hb=>?_⟩;rw[h.1];exact bU (h.mono ht (Vd F)) e vs.length;exact VD.ptr' hb (by show(0:Int)<=0;omega) (by show 0=0+(0:Int).toNat*_+0;simp)
theorem Se {f:Fm}(ht:TD P U τ F f tm){o:Op}{x:B0}{mk:Nat->SV}(h:snw P f o=some (x,mk)):NwOK P U τ F tm o x mk:=by
 unfold snw at h;split at h
 .rename_i e;cases hb:Nat.beq e rgT with
  |true=>grind|false=>
  rw[hb,Tl]at h;split at h;rename_i l hl;cases h;obtain⟨z,h1,h2⟩:=cW (U:=U) (τ:=τ) (F:=F) hl;exact⟨_,by simp only[xnw,hb,Tl,aW,h1];rfl,Qd h2⟩;cases h
 .rename_i e x;cases hb:Nat.beq e rgT with
  |true=>grind|false=>
  rw[hb,Tl]at h;split at h;rename_i v hv;split at h;rename_i l hl;cases h;obtain⟨w,h1,h2⟩:=M3 (P:=P) (U:=U) ht hv;exact⟨_,by simp only[xnw,hb,Tl,h1];rfl,Qd (cU h2 hl)⟩;cases h;cases h
 .rename_i t len y;split at h
  .rename_i ps j;obtain⟨G,m,r⟩:=iZ (P:=P) (U:=U) ht j;split at h
   .rename_i e he;split at h
    .rename_i ie g;split at h
     .rename_i z hz;obtain⟨zv,h1,h2⟩:=cW (U:=U) (τ:=τ) (F:=F) hz;rw[h2.1]at h;cases hb:Nat.beq zv.cells.toList.length ie.size&&Nat.ble (len*ie.size) 16777216&&Nat.ble len 16777216 with
      |false=>grind|true=>
       rw [hb, Tk] at h;split at h
       .rename_i cs d;cases h;obtain⟨ys,h3,h4⟩:=gX (sQ h2 len) r d;refine⟨⟨H8 ys e ie.size,.slice len len,rfl⟩,?_,λτ' hl=>bU (h4.mono hl (Vd F)) e ie.size,λτ' b D u=>?_⟩;simp only[xnw,m,Hz,he,g,h1,hb,Tk,h3]
        .have C:len<unk:=by simp only[SR,TY]at hb;unfold unk;omega
         have:=VD.sl (P:=P) (U:=U) (F:=F) b ie.size (.int 0) (.int len) (.ex (.int len)) D 0 len u (Uh 0) (Int.natCast_nonneg len) ⟨Int.natCast_nonneg len,(TK len).symm,C,Uh _⟩;have A:(E.int (len:Int)).toN U=len:=TK len;rw[A]at this;have B:(E.int 0).toN U*ie.size=0:=by show(0:Int).toNat*_=0;simp
         rw[B]at this;exact this
       cases h
     cases h
    cases h
   cases h
  cases h
 cases h
end
def nP {nx0:Nat}{m:Nat->Bool}:∀(es:List Ent) (S:Hp),(takes nx0 m es S).nx=S.nx
 | [],S=>rfl|e::es,S=>by
  unfold takes;cases e.nw with
  |none=>exact nP es S|some n=>cases m e.i with
   |false=>exact nP es S|true=>exact nP es _
theorem pZ {nx0:Nat}{m:Nat->Bool}{j:Nat}:∀(es:List Ent) (S:Hp),(∀e∈es,e.nw≠none->m e.i=true->j≠nx0+e.i)->(takes nx0 m es S).m.get j=S.m.get j
 | [],S,_=>rfl|e::es,S,h=>by
  unfold takes;have d:=λS=>pZ es S λe' b=>h e' (by grind);have h0:=h e (by simp);cases hn:e.nw with
  |none=>grind|some n=>
   simp only;cases hm:m e.i with
   |false=>grind|true=>rw[Tk,d];show(S.m.set _ _).get j=_;rw[VF,Tn (h0 (by grind) hm)]
theorem AP {nx0:Nat}{m:Nat->Bool}{e:Ent}{n:Nw}:∀(es:List Ent) (S:Hp),e∈es->e.nw=some n->m e.i=true->es.Pairwise (λa b=>a.i≠b.i)->(takes nx0 m es S).m.get (nx0+e.i)=some n.blk
 | [],S,he,_,_,_=>by grind|e'::es,S,he,hn,hm,hp=>by
  unfold takes;rw[List.pairwise_cons]at hp;by_cases g:e=e';subst g;rw[hn];simp only[hm,Tk];rw[pZ];show(S.m.set _ _).get _=_;rw[VF,Tp rfl];grind
  .have d:e∈es:=by grind
   have h:=λS=>AP (nx0:=nx0) es S d hn hm hp.2;grind
structure Pd where
 b:Nat
 i:Nat
 x:B0
structure En where
 i:Nat
 pre:Nat
 w:Bool
 nr:Bool
 r:Rd
 keys:Ah
 fr:Bool
def V0 (b:Nat):Ah->Bool
 | []=>false|k::l=>bif Nat.beq b k then true else V0 b l
theorem V1 {b:Nat}:∀ {l:Ah},V0 b l=false->b∉l
 | [],_=>by simp|k::l,h=>by unfold V0 at h;by_cases e:b=k;simp_all;rw[z4 e,Tl]at h;simp[e,V1 h]
def jX (pre:Nat)(keys:Ah)(e:En):Bool:=
 bif e.nr then(bif pre.testBit e.i then true else match e.r with
  | .free=>true| .frz=>true| .blk b=> !V0 b keys| .bad=>false)else true
def gK (pre:Nat)(r:Rd)(y:En):Bool:=
 bif y.w then(bif pre.testBit y.i then true else match r with
  | .free=>true| .blk b=> !V0 b y.keys| .frz=> !y.fr|_=>false)else true
def PT (S0:Hp)(esX:List Ent)(k:Nat)(Sk:Hp):Prop:=(k=0/\Sk=S0)\/ ∃x∈esX,isW x=true/\k=x.i+1/\Sk=x.S2
def Ju (P:Aw)(esX:List Ent)(e:Ent)(k:Nat)(Sk:Hp):Prop:=own esX e k=true\/aH esX e k=false\/ ∃v,xrd P e.tm Sk e.o.op=some v/\veq 1000 v e.r=true
variable {esX:List Ent}
theorem Ju.look {P:Aw}{e:Ent}{k:Nat}{Sk:Hp}(h:Ju P esX e k Sk):oZ P esX e k Sk=true:=by unfold oZ;rcases h<;>grind
def Lz {a b:Nat}(h:a<b):Nat.blt a b=true:=Ta h
theorem Qc {a b:Nat}(h:b<=a):Nat.blt a b=false:=by cases hb:Nat.blt a b;rfl;simp_all;omega
theorem yM {e:Ent}{k:Nat}{y:Ent}(hy:y∈esX)(d:isW y=true)(h:(y.i<k/\y.pre.testBit e.i=true)\/(k<=y.i/\e.pre.testBit y.i=true)):aH esX e k=false:=by
 cases b:aH esX e k with
 |false=>rfl|true=>unfold aH at b;rw[Ty]at b;have:=b y hy;rw[d,Tk]at this;rcases h with⟨h1,h2⟩| ⟨h1,h2⟩;rw[Lz h1,Tk,h2]at this;cases this;simp_all;omega
section
variable {P :Aw}{S0:Hp}
variable {esX:List Ent}{eX:Ent}{k:Nat}{Sk:Hp}
theorem Ju.cons {e:Ent}(h:Ju P esX e k Sk)(h1:k<=eX.i)(h2:e.i<=eX.i):Ju P (eX::esX) e k Sk:=by rcases h with h|h|h;refine .inl ?_;unfold own at h⊢;rw[List.all_cons,h,UD,Qc h1,Qc h2];grind;refine .inr (.inl ?_);unfold aH at h⊢;grind;exact .inr (.inr h)
structure DB (P:Aw)(S0:Hp)(i:Nat)(τ:Tau)(F:Ac)(s:SS)(S:Hp)(es:List En)(esX:List Ent):Prop where
 xi:∀e∈esX,e.i<i
 wx:∀y∈esX,isW y=true-> ∃en∈es,en.w=true/\en.i=y.i/\en.pre=y.pre
 wn:∀en∈es,en.w=true-> ∃y∈esX,isW y=true/\en.i=y.i/\en.pre=y.pre
 look:∀e∈esX,e.wt=true->j4 e.o.op=1-> ∀k Sk,PT S0 esX k Sk->Ju P esX e k Sk
 ag:∀k Sk,PT S0 esX k Sk-> ∀b x j o,s.get b=some x->τ b=some (some (j,o))->(∀en∈es,en.w=true->k<=en.i->b∉en.keys)->Sk.m.get j=S.m.get j
 af:∀k Sk,PT S0 esX k Sk->(∀en∈es,en.w=true->k<=en.i->en.fr=false)-> ∀j y,F j=some y->Sk.m.get j=some y
 rd:∀e∈esX,e.wt=true->j4 e.o.op=1->veq 1000 e.r e.r=true/\ ∃en∈es,en.nr=true/\en.i=e.i/\FF P τ F e.S e.tm e.o.op e.r en.r/\
  (∀b,en.r= .blk b->(∀y∈es,y.w=true->e.i<y.i->y.pre.testBit e.i=false)-> ∃x j q,s.get b=some x/\τ b=some (some (j,q))/\S.m.get j=e.S.m.get j)
theorem PT.le {i:Nat}(hi:∀e∈esX,e.i<i)(h:PT S0 esX k Sk):k<=i:=by rcases h<;>grind
theorem PT.cons (h:PT S0 (eX::esX) k Sk):PT S0 esX k Sk\/(isW eX=true/\k=eX.i+1/\Sk=eX.S2):=by rcases h with h| ⟨x,hx,b,h1,h2⟩;exact .inl (.inl h);rcases TH.1 hx with rfl|hx;grind;exact .inl (.inr ⟨x,hx,b,h1,h2⟩)
variable {F F':Ac}
def FF.mono {τ τ':Tau}{S:Hp}{tm:Ao}{o:Op}{v:Av}{r:Rd}(ht:Tle τ τ')(hF:Fle F F')(h:FF P τ F S tm o v r):FF P τ' F' S tm o v r:=by
 cases r with
 |free=>exact h|blk b=>obtain⟨j,q,h1,h2⟩:=h;exact⟨j,q,ht _ _ h1,h2⟩
 |frz=>rcases h with h| ⟨j,y,h1,h2⟩;exact .inl h;exact .inr ⟨j,y,hF _ _ h1,h2⟩
 |bad=>trivial
theorem DB.step {i:Nat}{τ τ':Tau}{s s':SS}{S S':Hp}{es:List En}(h:DB P S0 i τ F s S es esX){en:En}(ht:Tle τ τ')(hF:Fle F F')(hl:∀b x,s.get b=some x->τ' b=τ b)(ah:∀j y,F' j=some y->S'.m.get j=some y)(ae:(isW eX=true->en.fr=false)-> ∀j y,F' j=some y->F j=some y)(hg:∀b,b∉en.keys->s'.get b=s.get b)(ak:∀b x j o,s.get b=some x->τ b=some (some (j,o))->b∉en.keys->S'.m.get j=S.m.get j)(ei:en.i=i)(xi:eX.i=i)(hp:en.pre=eX.pre)(hw:en.w=isW eX)(aa:eX.S2=S')(ab:isW eX=false->S'=S/\en.keys=[])(hf:isW eX=true->es.all (jX eX.pre en.keys)=true)(hr:eX.wt=true->j4 eX.o.op=1->veq 1000 eX.r eX.r=true/\en.nr=true/\eX.S=S/\FF P τ' F S eX.tm eX.o.op eX.r en.r/\(∀b,en.r= .blk b-> ∃x,s.get b=some x)/\es.all (gK eX.pre en.r)=true):DB P S0 (i+1) τ' F' s' S' (en::es) (eX::esX):=by
 have nk:∀b,(en.w=true->b∉en.keys)->b∉en.keys:=λb hb=>by grind
 have ad:j4 eX.o.op=1->isW eX=false:=λhk=>by unfold isW;rw[hk];rfl
 have wx:∀y∈eX::esX,isW y=true-> ∃d∈en::es,d.w=true/\d.i=y.i/\d.pre=y.pre:=by intro y hy J;rcases TH.1 hy with rfl|hy;grind;obtain⟨e1,h1,h2⟩:=h.wx y hy J;grind
 have wn:∀d∈en::es,d.w=true-> ∃y∈eX::esX,isW y=true/\d.i=y.i/\d.pre=y.pre:=by intro y hy J;rcases TH.1 hy with rfl|hy;grind;obtain⟨e1,h1,h2⟩:=h.wn y hy J;grind
 have rd:∀e∈eX::esX,e.wt=true->j4 e.o.op=1->veq 1000 e.r e.r=true/\ ∃d∈en::es,d.nr=true/\d.i=e.i/\FF P τ' F' e.S e.tm e.o.op e.r d.r/\
   (∀ b,d.r = .blk b→(∀ y ∈ en :: es,y.w=true→e.i < y.i→y.pre.testBit e.i=false) → ∃ x j q,s'.get b=some x∧τ' b=some (some (j,q))∧S'.m.get j=e.S.m.get j):=by
  intro e he D hk;rcases TH.1 he with rfl|he;obtain⟨h1,h2,h3,h4,A,h6⟩:=hr D hk;obtain⟨l1,l2⟩:=ab (ad hk);refine⟨h1,en,by simp,h2,by rw[ei,xi],by rw[h3];exact h4.mono (VG _) hF,λb hb _=>?_⟩;obtain⟨x,hx⟩:=A b hb;rw[hb]at h4;obtain⟨j,q,Q,_⟩:=h4;grind
  .obtain⟨h1,B,h2,h3,h4,A,h6⟩:=h.rd e he D hk;refine⟨h1,B,by simp[h2],h3,h4,A.mono ht hF,λb hb N=>?_⟩;have T:b∉en.keys:=nk b λO=>by have K:=N en (by simp) O (by rw[ei];exact h.xi e he);have L:=hf (by rw[<-hw];exact O);rw[Ty]at L;have M:=L B h2;unfold jX at M;rw[h3,Tk,h4,<-hp,K,Tl,hb]at M;simp only[TP]at M;exact V1 M
   grind
 refine⟨λe he=>?_,wx,wn,?_,?_,λk Sk g hc j y hj=>?_,rd⟩
 rotate_right 1
 rcases g.cons with g| ⟨C,rfl,rfl⟩;have W:=g.le h.xi;exact h.af k Sk g (λd he=>hc d (Uc _ he)) j y (ae (λC=>hc en (by simp) (by rw[hw];exact C) (by omega)) j y hj);grind;rcases TH.1 he with rfl|he;omega;exact Nat.lt_succ_of_lt (h.xi e he)
 .intro e he D hk k Sk g;rcases TH.1 he with rfl | he
  .obtain⟨h1,h2,h3,h4,A,h6⟩:=hr D hk;have aj:=ad hk;rcases g.cons with g| ⟨hc,_⟩
   .have H:∀d∈es,gK e.pre en.r d=true:=Ty.1 h6;by_cases c1:∃y∈esX,isW y=true/\k<=y.i/\e.pre.testBit y.i=true;obtain⟨y,hy,c2,c3,c4⟩:=c1;exact .inr (.inl (yM (Uc _ hy) c2 (.inr ⟨c3,c4⟩)))
    .have z:∀d∈es,d.w=true->k<=d.i->e.pre.testBit d.i=false:=by
      intro d V X W;obtain⟨y,hy,d1,d2,d3⟩:=h.wn d V X;cases ht:e.pre.testBit d.i with
      |false=>rfl|true=>exact absurd ⟨y,hy,d1,by omega,by rw[<-d2];exact ht⟩ c1
     by_cases c2:∃y∈esX,isW y=true/\k<=y.i
     .obtain⟨y,hy,d1,d2⟩:=c2;obtain⟨d,e1,e2,e3,e4⟩:=h.wx y hy d1;have l1:=z d e1 e2 (by omega);have Z:=H d e1;unfold gK at Z;rw[e2,Tk,l1,Tl]at Z;refine .inr (.inr ⟨e.r,?_,h1⟩);cases u:en.r with
      |free=>rw[u]at h4;exact h4 Sk|blk b=>rw[u]at h4;obtain⟨j,q,Q,R⟩:=h4;obtain⟨x,hx⟩:=A b u;refine R Sk (h.ag k Sk g b x j q hx (by rw[<-hl b x hx];exact Q) λG m1 m2 m3=>?_);have E:=H G m1;unfold gK at E;rw[m2,Tk,z G m1 m2 m3,Tl,u]at E;simp only[TP]at E;exact V1 E
      |frz=>rw[u]at h4;rcases h4 with h4| ⟨j,w,Q,R⟩;exact h4 Sk;refine R Sk (h.af k Sk g (λG m1 m2 m3=>?_) j w Q);have E:=H G m1;unfold gK at E;rw[m2,Tk,z G m1 m2 m3,Tl,u]at E;simpa using E
      |bad=>rw[u]at Z;cases Z
     .refine .inl ?_;unfold own;rw[Ty];intro y hy;cases J:isW y with
      |false=>rfl|true=>
       rcases TH.1 hy with rfl|hy;grind
       .have hlt:y.i<k:=by rcases Nat.lt_or_ge y.i k with hh|hh;exact hh;exact absurd ⟨y,hy,J,hh⟩ c2
        have:=h.xi y hy;rw[Tk,Lz hlt,Lz (by omega)];rfl
   rw[aj]at hc;cases hc
  .have al:=h.xi e he;rcases g.cons with g| ⟨C,rfl,rfl⟩;exact(h.look e he D hk k Sk g).cons (by rw[xi];exact g.le h.xi) (by omega)
   .by_cases c1:∃y∈eX::esX,isW y=true/\e.i<y.i/\y.pre.testBit e.i=true;obtain⟨y,hy,c2,c3,c4⟩:=c1;refine .inr (.inl (yM hy c2 (.inl ⟨?_,c4⟩)));rcases TH.1 hy with rfl|hy;omega;have:=h.xi y hy;omega
    .have z:∀y∈en::es,y.w=true->e.i<y.i->y.pre.testBit e.i=false:=by
      intro d V X W;obtain⟨y,hy,d1,d2,d3⟩:=wn d V X;cases ht:d.pre.testBit e.i with
      |false=>rfl|true=>exact absurd ⟨y,hy,d1,by omega,by rw[<-d3];exact ht⟩ c1
     obtain⟨h1,B,h2,h3,h4,A,h6⟩:=rd e (by simp[he]) D hk;refine .inr (.inr ⟨e.r,?_,h1⟩);rw[aa];cases u:B.r with
     |free=>rw[u]at A;exact A S'|blk b=>rw[u]at A;obtain⟨j,q,Q,R⟩:=A;obtain⟨x,j',q',h9,K,L⟩:=h6 b u z;rw[Q]at K;cases K;exact R S' L
     |frz=>rw[u]at A;rcases A with A| ⟨j,y,Q,R⟩;exact A S';exact R S' (ah j y Q)
     |bad=>
      have ai:B∈es:=by rcases TH.1 h2 with rfl|hm;omega;exact hm
      have Z:=hf C;rw[Ty]at Z;have E:=Z B ai;unfold jX at E;rw[h3,Tk,h4,<-hp,z en (by simp) (by rw[hw,C]) (by omega),Tl,u]at E;cases E
 intro k Sk g b x j o hb Y ac;rcases g.cons with g| ⟨C,rfl,rfl⟩;have W:=g.le h.xi;have T:b∉en.keys:=nk b λO=>ac en (by simp) O (by omega);rw[hg b T]at hb;rw[hl b x hb]at Y;rw[h.ag k Sk g b x j o hb Y λd m1=>ac d (by simp[m1]),ak b x j o hb Y T];rw[aa]
end
end Go.Sx
namespace Go.Sx
open Go.Xe
def tkl (pd:List Pd):List (Nat×Bb B0):=pd.map λp=>(p.b,some p.x)
def fF (s:SS)(pd:List Pd):SS:= {s with h:=tkl pd++s.h}
def EN (s:SS):SS:= {s with nx:=s.nx+1}
theorem hU {s:SS}{b:Nat}:∀ {pd:List Pd},(∀p∈pd,b≠p.b)->(fF s pd).get b=s.get b
 | [],_=>rfl|p::pd,h=>by have d:=hU (s:=s) λq hq=>h q (Uc _ hq);unfold SS.get fF tkl at d⊢;simp only[TV,Uf,z6];grind
theorem wM {s:SS}{p:Pd}:∀ {pd:List Pd},p∈pd->pd.Pairwise (λp q=>p.b≠q.b)->(fF s pd).get p.b=some p.x
 | [],h,_=>by grind|q::pd,h,hp=>by
  rw[List.pairwise_cons]at hp;by_cases e:q.b=p.b;rcases TH.1 h with rfl|h;unfold SS.get fF tkl;simp only[TV,Uf,z6,Tp];grind
  .have h':p∈pd:=by grind
   have d:=wM (s:=s) h' hp.2;unfold SS.get fF tkl at d⊢;simp only[TV,Uf,z6];grind
section
variable {P :Aw}{U:Ab}{τ0:Tau}{F0:Ac}{s0:SS}{hp0:Hp}{n:Nat}
variable (P U) in
structure PDOK (s0:SS)(hp0:Hp)(i:Nat)(τ:Tau)(F:Ac)(s:SS)(esX:List Ent)(I:Nat)(p:Pd):Prop where
 lt:p.i<i
 un:I.testBit p.i=false
 g:s.get p.b=none
 lo:s0.nx<=p.b
 hi:p.b<s.nx
 t:τ p.b=some (some (hp0.nx+p.i,0))
 f:F (hp0.nx+p.i)=none
 u:∀c o,τ c=some (some (hp0.nx+p.i,o))->c=p.b
 e:∃e∈esX,e.i=p.i/\ ∃nw,e.nw=some nw/\BD P U τ F 0 p.x nw.blk
variable (P U) in
structure DA (τ0:Tau)(F0:Ac)(s0:SS)(hp0:Hp)(n i:Nat)(τ:Tau)(F:Ac)(s:SS)(S:Hp)(f:Fm)(tm:Ao)(pd:List Pd)(esX:List Ent)(I:Nat):Prop where
 sd:SD P U τ F s S
 td:TD P U τ F f tm
 ext:Ext τ0 F0 s0 hp0 τ F s S
 room:hp0.nx+n<=S.nx
 ib:∀j,i<=j->I.testBit j=false
 xd:esX.Pairwise (λa b=>a.i≠b.i)
 pn:pd.Pairwise (λp q=>p.b≠q.b)
 pds:∀p∈pd,PDOK P U s0 hp0 i τ F s esX I p
 cl:∀j,i<=j->j<n->(∀c o,τ c≠some (some (hp0.nx+j,o)))/\F (hp0.nx+j)=none
 tk:∀e∈esX,e.nw≠none->I.testBit e.i=false-> ∃p∈pd,p.i=e.i
variable {i :Nat}{τ:Tau}{F:Ac}{s:SS}{S:Hp}{f:Fm}{tm:Ao}{pd:List Pd}{esX:List Ent}{I:Nat}
variable {f':Fm}
def DA.fr (h:DA P U τ0 F0 s0 hp0 n i τ F s S f tm pd esX I)(hf:TD P U τ F f' tm):DA P U τ0 F0 s0 hp0 n i τ F s S f' tm pd esX I:= {h with td:=hf}
variable {eX:Ent}
theorem dP (d:esX.Pairwise (λa b=>a.i≠b.i))(g:∀e∈esX,e.i<i)(he:eX.i=i):(eX::esX).Pairwise (λa b=>a.i≠b.i):=by rw[List.pairwise_cons];grind
variable {tm':Ao}
theorem DA.keep (h:DA P U τ0 F0 s0 hp0 n i τ F s S f tm pd esX I)(y:∀e∈esX,e.i<i){s':SS}(r:SD P U τ F s' S)(w:TD P U τ F f' tm')(hh:s'.h=s.h)(hn:s'.nx=s.nx)(d:Ext τ F s S τ F s' S)(he:eX.i=i)(B:eX.nw=none):DA P U τ0 F0 s0 hp0 n (i+1) τ F s' S f' tm' pd (eX::esX) I:=by
 have hg:∀b,s'.get b=s.get b:=λb=>by unfold SS.get;rw[hh]
 refine⟨r,w,h.ext.trans d,h.room,λj hj=>h.ib j (by omega),dP h.xd y he,h.pn,λp hp=>?_,λj hj=>h.cl j (by omega),λe hm m=>?_⟩;have k:=h.pds p hp;obtain⟨e,A,z⟩:=k.e;exact⟨by grind,k.un,by rw[hg];exact k.g,k.lo,by rw[hn];exact k.hi,k.t,k.f,k.u,⟨e,by grind,z⟩⟩;rcases TH.1 hm with rfl|hm;grind;exact h.tk e hm m
theorem DA.pend (h:DA P U τ0 F0 s0 hp0 n i τ F s S f tm pd esX I)(K:∀e∈esX,e.i<i)(G:i<n){x:B0}{nw:Nw}(J:TD P U (put τ s.nx (some (hp0.nx+i,0))) F f' tm')(W:BD P U (put τ s.nx (some (hp0.nx+i,0))) F 0 x nw.blk)(he:eX.i=i)(hw:eX.nw=some nw):DA P U τ0 F0 s0 hp0 n (i+1) (put τ s.nx (some (hp0.nx+i,0))) F (EN s) S f' tm' (⟨s.nx,i,x⟩::pd) (eX::esX) I:=by
 have h0:=h.sd.new _ (Tq _);have d:=bN (some (hp0.nx+i,0)) h0;obtain⟨Z,R⟩:=h.cl i (Tq _) G;have H:=h.room;have old:∀b,b≠s.nx->put τ s.nx (some (hp0.nx+i,0)) b=τ b:=λb hb=>B5 τ _ hb;have w:∀b x,s.get b=some x->b≠s.nx:=λb x hb=>by have:=h.sd.bound hb;omega
 refine⟨⟨λb y hb=>?_,λb c y z k o j q hb hc A E D=>?_,h.sd.frz,λb j o hb=>?_,h.sd.flt,λb hb=>?_,h.sd.fc,λr hr=>(h.sd.fz r hr).mono d (Vd F)⟩,J,?_,h.room,λj hj=>h.ib j (by omega),dP h.xd K he,?_,λp hp=>?_,λj hj C=>?_,λe hm A hI=>?_⟩;have m:=hb;rcases h.sd.live b y m with⟨k,o,z,h1,h2,h3,h4⟩| ⟨h1,h2⟩;exact .inl ⟨k,o,z,by grind,h2,h3,h4.mono d (Vd F)⟩;grind;have m:=hb;have B:=hc;rw[old b (w b y m)]at E;rw[old c (w c z B)]at D;exact h.sd.inj b c y z k o j q m B A E D;by_cases e:b=s.nx;subst e;rw[t8]at hb;grind;rw[old b e]at hb;exact h.sd.lt b j o hb;have:s.nx+1<=b:=hb;rw[old b (by omega)];exact h.sd.new b (by omega);obtain⟨l,N,O,X,Y,Q⟩:=h.ext.hh;refine⟨h.ext.t.trans d,h.ext.f,h.ext.nx,Ub h.ext.snx (Ur _),λb hb=>?_,h.ext.low,⟨l,N,O,λb j o hb L=>?_,λj y hj hy=>?_,Q⟩,h.ext.hf,h.ext.win⟩;have:=h.ext.snx;rw[old b (by omega)];exact h.ext.st b hb;by_cases e:b=s.nx;subst e;rw[t8]at L;grind;grind;grind;rw[List.pairwise_cons];exact⟨λp hp=>by have:=(h.pds p hp).hi;exact Nat.ne_of_gt this,h.pn⟩
 .rcases TH.1 hp with rfl|hp
  .refine⟨Ue i,h.ib i (Tq _),?_,h.ext.snx,Ue _,t8 _ _ _,R,λc o hc=>?_,(by grind)⟩
   .cases hq:(EN s).get s.nx with
    |none=>rfl|some y=>exact absurd rfl (w s.nx y hq)
   grind
  have k:=h.pds p hp;obtain⟨e,E,D,M,T,V⟩:=k.e;refine⟨by grind,k.un,k.g,k.lo,Nat.lt_succ_of_lt k.hi,d _ _ k.t,k.f,λc o hc=>?_,⟨e,by grind,D,M,T,V.mono d (Vd F)⟩⟩;by_cases e:c=s.nx;subst e;rw[t8]at hc;grind;rw[old c e]at hc;exact k.u c o hc
 refine⟨λc o hc=>?_,(h.cl j (by omega) C).2⟩;by_cases e:c=s.nx;subst e;rw[t8]at hc;grind;rw[old c e]at hc;exact(h.cl j (by omega) C).1 c o hc;rcases TH.1 hm with rfl|hm;simp_all;obtain⟨p,hp,e⟩:=h.tk e hm A hI;grind
theorem DA.take (h:DA P U τ0 F0 s0 hp0 n i τ F s S f tm pd esX I)(m:Nat->Bool)(hm:∀e∈esX,e.nw≠none->(m e.i=true↔ ∃p∈pd,p.i=e.i)):SD P U τ F (fF s pd) (takes hp0.nx m esX S)/\Ext τ0 F0 s0 hp0 τ F (fF s pd) (takes hp0.nx m esX S)/\(takes hp0.nx m esX S).nx=S.nx/\ ∀j,(∀p∈pd,j≠hp0.nx+p.i)->(takes hp0.nx m esX S).m.get j=S.m.get j:=by
 have r:=nP (nx0:=hp0.nx) (m:=m) esX S;have A:∀j,(∀p∈pd,j≠hp0.nx+p.i)->(takes hp0.nx m esX S).m.get j=S.m.get j:=λj hj=>pZ esX S λe he B O=>by grind
 have G:∀p∈pd,∃y,(takes hp0.nx m esX S).m.get (hp0.nx+p.i)=some y/\BD P U τ F 0 p.x y:=λp hp=>by obtain⟨e,C,D,nw,N,X⟩:=(h.pds p hp).e;have:=AP (nx0:=hp0.nx) esX S C N ((hm e C (by grind)).2 ⟨p,hp,D.symm⟩) h.xd;grind
 have inv:∀b y,(fF s pd).get b=some y->(∃p∈pd,b=p.b/\y=p.x)\/((∀p∈pd,b≠p.b)/\s.get b=some y):=by intro b y hb;by_cases c:∃p∈pd,b=p.b;obtain⟨p,hp,rfl⟩:=c;rw[wM hp h.pn,SQ]at hb;grind;have hn:∀p∈pd,b≠p.b:=λp hp e=>c ⟨p,hp,e⟩;rw[hU hn]at hb;grind
 have apart:∀b y j o,s.get b=some y->τ b=some (some (j,o))-> ∀p∈pd,j≠hp0.nx+p.i:=by intro b y j o hb H p hp e;subst e;have:=(h.pds p hp).u b o H;subst this;rw[(h.pds p hp).g]at hb;cases hb
 have J:∀j y,F j=some y-> ∀p∈pd,j≠hp0.nx+p.i:=λj y hj p hp e=>by subst e;rw[(h.pds p hp).f]at hj;cases hj
 refine⟨⟨λb y hb=>?_,λb c y z k o j q hb hc B C D=>?_,λj y hj=>by rw[A j (J j y hj)];exact h.sd.frz j y hj,λb j o hb=>by rw[r];exact h.sd.lt b j o hb,λj y hj=>by rw[r];exact h.sd.flt j y hj,h.sd.new,h.sd.fc,h.sd.fz⟩,?_,r,A⟩;rcases inv b y hb with⟨p,hp,rfl,rfl⟩| ⟨hn,d⟩;obtain⟨y,h1,h2⟩:=G p hp;exact .inl ⟨_,0,y,(h.pds p hp).t,h1,(h.pds p hp).f,h2⟩;rcases h.sd.live b y d with⟨k,o,z,h1,h2,h3,h4⟩|h1;grind;grind;rcases inv b y hb with⟨p,hp,rfl,rfl⟩| ⟨hn,d⟩;rw[(h.pds p hp).t]at C;cases C;rcases inv c z hc with⟨p2,hp2,rfl,rfl⟩| ⟨hn,E⟩;rw[(h.pds p2 hp2).t]at D;cases D;intro e;exact B ((h.pds p2 hp2).u _ 0 (by rw[(h.pds p hp).t,e]));grind;rcases inv c z hc with⟨p2,hp2,rfl,rfl⟩| ⟨Q,E⟩;rw[(h.pds p2 hp2).t]at D;grind;exact h.sd.inj b c y z k o j q d E B C D
 .obtain⟨l,K,T,V,W,L⟩:=h.ext.hh;have ge:∀j,j<hp0.nx-> ∀p∈pd,j≠hp0.nx+p.i:=λj hj p hp=>by omega
  refine⟨h.ext.t,h.ext.f,by rw[r];exact h.ext.nx,h.ext.snx,h.ext.st,λb y hb hlt=>?_,⟨tkl pd++l,by show tkl pd++s.h=_;rw[K,Th],λj hj R=>?_,λb j o hb H=>?_,λj y hj hy=>?_,λhp=>L λp h=>hp p (by grind)⟩,h.ext.hf,
   let⟨l',M,w⟩:=h.ext.win;⟨tkl pd++l',by show tkl pd++s.h=_;rw[M,Th],λb c e z j o cs n hb ht hj hg hl=>by grind⟩⟩
  rcases inv b y hb with⟨p,hp,rfl,rfl⟩| ⟨hn,d⟩;exact absurd hlt (Nat.not_lt.2 (h.pds p hp).lo);exact h.ext.low b y d hlt;grind;grind;grind
theorem DA.write (h:DA P U τ0 F0 s0 hp0 n i τ F s S f tm pd esX I)(B:∀e∈esX,e.i<i){pre:Nat}(m:pre<2^i)(E:∀p∈pd,pre.testBit p.i=true){s1 s':SS}{S1 S':Hp}{τ':Tau}{F':Ac}(D:S1.nx=S.nx)(A:Ext τ0 F0 s0 hp0 τ F s1 S1)(d:Ext τ F s1 S1 τ' F' s' S')(w:SD P U τ' F' s' S')(z:TD P U τ' F' f' tm')(he:eX.i=i)(H:eX.nw=none):DA P U τ0 F0 s0 hp0 n (i+1) τ' F' s' S' f' tm' [] (eX::esX) (I|||pre):=by
 have u:=h.room;have cl:∀j,i+1<=j->j<n-> ∀c o,τ' c≠some (some (hp0.nx+j,o)):=by intro j hj g c o hc;have old:=(h.cl j (by omega) g).1;by_cases hlt:c<s1.nx;rw[d.st c hlt]at hc;exact old c o hc;rcases d.fresh c _ o (Uv hlt) hc with h1| ⟨b0,x,o0,h1,h2⟩;omega;grind
 refine⟨w,z,A.trans d,by have:=d.nx;omega,λj hj=>?_,dP h.xd B he,.nil,λp hp=>by grind,λj hj g=>⟨cl j hj g,?_⟩,λe hm r hI=>?_⟩;rw[Nat.testBit_or,h.ib j (by omega),Bool.false_or];exact Nat.testBit_lt_two_pow (TX m (Nat.pow_le_pow_right (by omega) (by omega)))
 .cases hq:F' (hp0.nx+j)with
  |none=>rfl|some y=>obtain⟨l,_,_,_,C,_⟩:=d.hh;rcases C _ y (by omega) hq with h1| ⟨b,o,h1,_⟩;rw[(h.cl j (by omega) g).2]at h1;cases h1;grind
 rcases TH.1 hm with rfl|hm;grind;rw[Nat.testBit_or,UV]at hI;obtain⟨p,hp,G⟩:=h.tk e hm r hI.1;grind
