/- The symbolic engine, parts 13, 14, 15, 16, 17, 18, 19, 20, 21, 22.
  Conditions: none. -/
import Derived.Test.YtcjhhnoaoldcmaaGreatSm1
set_option linter.all false
namespace Go.Sx
open Go.Xe
inductive Src where
 |lit (l:Au)
 |rows (L:E)
def Src.cnt (size:Nat):Src->E
 | .lit l=>.int (l.length/size:Nat)| .rows L=>A5 L
def Src.blk (e size:Nat):Src->w9
 | .lit l=>.cells l e size| .rows L=>.rows L e size (.int 0)
def Src.one :Src->Bool
 | .lit l=>l.all uv| .rows _=>true
section
variable (P :Ax)(U:Ab)
def Ee (L off len:E):M Src:=c6 (n5 U (z9 (A7 (A5 L) (A6 off len)))) fun _=>c6 (dT U L off len) fun c=>e8 (.rows c)
def ssrc (e size:Nat)(x:SV):M Src:=
 match x with
 | .nils=>e8 (.lit [])| .sl b z off len _=>o8 fun s=>match s.get b with
  | some (.cells l e' z') => bif Nat.beq e e' && Nat.beq z size && Nat.beq z z' then
    (match off,len with
    | .int o,.int n=>bif decide (0<=o)&&decide (0<=n)&&Nat.ble ((o.toNat+n.toNat)*z) l.length then e8 (.lit ((l.drop (o.toNat*z)).take (n.toNat*z)))else a7 "elements: beyond"|off,len=>match np P e z l with
     |some L=>Ee U L off len|none=>a7 "elements: rows")
   else a7 "elements: type"
  |some (.rows L e' z' _)=>bif Nat.beq e e'&&Nat.beq z size&&Nat.beq z z' then Ee U L off len else a7 "elements: type"|_=>a7 "elements: no block"
 | .lst e' L _=>bif Nat.beq e e'&&Nat.beq size (kf P e).length then e8 (.rows (dS L))else a7 "elements: type"|_=>a7 "elements: value"
def srcE (e size:Nat)(x:Src):M E:=
 match x with
 | .rows L=>e8 L| .lit []=>e8 (.op .nil [])| .lit l=>bif Nat.beq size (kf P e).length&&Nat.beq (l.length/size*size) l.length then c6 (pD (uQ P U 20) (kf P e) 0 l) fun es=>e8 (.op (.rows (l.length/size) size) es)else a7 "elements: kinds"
end
section
variable {P :Ax}{U:Ab}{τ:Tau}{F:Ac}{s:SS}{hp:Hp}
variable (P U) in
def n6 (τ:Tau)(F:Ac)(e size:Nat):Src->Af->Prop
 | .lit l,vs=>VDL P U τ F l vs
 | .rows L, vs => size = (kf P e).length ∧ vs.length = (L.toR U).length * size ∧ (∀ r ∈ L.toR U, r.length = size) ∧
   ∀(r k:Nat) (row:As) (d:Dat),(L.toR U)[r]? =some row->row[k]? =some d-> ∃x,vs[r*size+k]? =some x/\ ∀kd,(kf P e)[k]? =some kd->PV P F kd x d
variable {e size:Nat}{x:Src}{vs:Af}
def n6.mono {τ':Tau}{F':Ac}(ht:Tle τ τ')(hf:Fle F F')(h:n6 P U τ F e size x vs):n6 P U τ' F' e size x vs:=by
 cases x with
 |lit l=>exact VDL.mono ht hf h|rows L=>obtain⟨h1,h2,h3,h4⟩:=h;exact⟨h1,h2,h3,fun r k row d hr hk=>let⟨x,k1,k2⟩:=h4 r k row d hr hk;⟨x,k1,fun kd a=>(k2 kd a).mono P hf⟩⟩
variable {v:Aw}
def PV.oneCell {k:Kd}{d:Dat}(h:PV P F k v d):v.oneCell'=true:=by cases h<;>rfl
theorem n6.ones (h:n6 P U τ F e size x vs)(h1:x.one=true):vs.all Value.oneCell'=true:=by
 cases x with
 |lit l=>exact uw h h1|rows L=>
  obtain⟨r,w,g,o⟩:=h;rw[List.all_eq_true];intro y hy;obtain⟨j,hj⟩:=List.getElem?_of_mem hy;have b:j<(L.toR U).length*size:=by grind
  have hs:0<size:=by grind
  have hr:j/size<(L.toR U).length:=(Nat.div_lt_iff_lt_mul hs).2 b;have a:(L.toR U)[j/size]? =some (L.toR U)[j/size]:=by simp[hr]
  have hl:=g _ (List.getElem_mem hr);have hk:j % size<size:=Nat.mod_lt _ hs;have hd:(L.toR U)[j/size][j % size]? =some ((L.toR U)[j/size][j % size]'(by omega)):=by grind
  obtain⟨x,k1,k2⟩:=o _ _ _ _ a hd;have d:j/size*size+j % size=j:=by rw[Nat.mul_comm];exact Nat.div_add_mod j size
  rw[d,hj,Option.some.injEq]at k1;subst k1;have c:(kf P e)[j % size]? =some ((kf P e)[j % size]'(by omega)):=by grind
  exact(k2 _ c).oneCell
variable {n:Nat}{cs:Ao}
def oW {o:Nat}(h:n6 P U τ F e size x vs)(b:∀(j:Nat) y,vs[j]? =some y->cs.get (o+j)=some y)(hn:o+vs.length<=n):BD P U τ F o (x.blk e size) (.cells cs n e size):=by
 cases x with
 |lit l=>refine⟨cs,n,rfl,by rw[h.1];exact hn,fun j a ha=>?_⟩;obtain⟨y,h1,h2⟩:=VDL.get h ha;exact⟨y,b j y h1,h2⟩
 |rows L=>obtain⟨c,g,w,A⟩:=h;refine⟨cs,n,rfl,⟨by rw[<-g];exact hn,c,w,fun r k row d hr hk=>?_⟩,by show o+(0:Int).toNat*size<=n;simp;omega⟩;obtain⟨y,k1,k2⟩:=A r k row d hr hk;exact⟨y,by rw[<-b _ _ k1];congr 1;omega,k2⟩
theorem n6.app {A B:E}{va a:Af}(ha:n6 P U τ F e size (.rows A) va)(hb:n6 P U τ F e size (.rows B) a):n6 P U τ F e size (.rows (V1 A B)) (va++a):=by
 obtain⟨a1,a2,a3,a4⟩:=ha;obtain⟨b1,b2,b3,b4⟩:=hb;refine⟨a1,by rw[aX];simp[a2,b2,Nat.add_mul],fun r hr=>?_,fun r k row d hr hk=>?_⟩
 ·rw[aX]at hr;grind
 ·rw[aX]at hr;by_cases hlt:r<(A.toR U).length
  ·grind
  ·rw[List.getElem?_append_right (by omega)]at hr;obtain⟨x,k1,k2⟩:=b4 _ k row d hr hk;refine⟨x,?_,k2⟩;have:va.length<=r*size+k:=by rw[a2];have:=Nat.mul_le_mul_right size (show(A.toR U).length<=r by omega);omega
   rw[List.getElem?_append_right this,<-k1,a2];congr 1;rw[Nat.sub_mul];have:=Nat.mul_le_mul_right size (show(A.toR U).length<=r by omega);omega
variable {z:Nat}
def R6 {o:Nat}{rows:Rows}(hr:q7 P F e z o n cs rows){off len:Int}(h0:0<=off)(h1:0<=len)(h2:off+len<=rows.length){L:E}(C:L.toR U=part rows off len):∃vs,d6 cs (o+off.toNat*z) (len.toNat*z)=some vs/\o+off.toNat*z+len.toNat*z<=n/\n6 P U τ F e z (.rows L) vs/\vs.length=len.toNat*z:=by
 obtain⟨T,J,B,K⟩:=hr;have hl:=S7 h0 h1 h2;obtain⟨vs,M,H,N⟩:=i8 (c:=cs) (R:=fun j x=>∀(r k:Nat) (row:As) (d:Dat),j=r*z+k->(part rows off len)[r]? =some row->row[k]? =some d-> ∀kd,(kf P e)[k]? =some kd->PV P F kd x d) (len.toNat*z) (o+off.toNat*z) 0 fun j hj=>by
  have hz:0<z:=by
   rcases Nat.eq_zero_or_pos z with h|h
   ·rw[h]at hj;omega
   ·exact h
  have hr:j/z<(part rows off len).length:=by rw[hl];exact(Nat.div_lt_iff_lt_mul hz).2 hj
  have w:(part rows off len)[j/z]? =some (part rows off len)[j/z]:=by simp[hr]
  have g:=bB w;have A:=B _ (List.mem_of_getElem? g);have hk:j % z<z:=Nat.mod_lt _ hz;have hd:(part rows off len)[j/z][j % z]? =some ((part rows off len)[j/z][j % z]'(by omega)):=by simp[A,hk]
  obtain⟨x,k1,k2⟩:=K _ _ _ _ g hd;have O:j/z*z+j % z=j:=by rw[Nat.mul_comm];exact Nat.div_add_mod j z
  refine⟨x,by rw[<-k1];congr 1;rw[Nat.add_mul];omega,fun r k row d Q a b kd D=>?_⟩;have y:k<z:=by have:=B _ (List.mem_of_getElem? (bB a));have:=(List.getElem?_eq_some_iff.1 b).1;omega
  obtain⟨rfl,rfl⟩:=sU hk y (show j/z*z+j % z=r*z+k by omega);rw[w,Option.some.injEq]at a;subst a;rw[hd,Option.some.injEq]at b;subst b;exact k2 kd D
 refine⟨vs,M,?_,⟨J,by rw[H,C,hl],fun r h=>?_,fun r k row d a b=>?_⟩,H⟩
 ·have:off.toNat*z+len.toNat*z<=rows.length*z:=by rw[<-Nat.add_mul];exact Nat.mul_le_mul_right z (by omega)
  omega
 ·rw[C]at h;exact B r (List.mem_of_mem_drop (List.mem_of_mem_take h))
 ·rw[C]at a;have y:k<z:=by have:=B _ (List.mem_of_getElem? (bB a));have:=(List.getElem?_eq_some_iff.1 b).1;omega
  have G:r<len.toNat:=by have:=(List.getElem?_eq_some_iff.1 a).1;omega
  have hj:r*z+k<vs.length:=by
   rw[H];have:r*z+z<=len.toNat*z:=by rw[<-Nat.succ_mul];exact Nat.mul_le_mul_right z G
   omega
  exact⟨vs[r*z+k]'hj,List.getElem?_eq_getElem hj,N (r*z+k) _ (List.getElem?_eq_getElem hj) r k row d (by omega) a b⟩
variable (P U) in
def Ie (hp:Hp)(e size:Nat)(v:Aw)(x:Src)(τ:Tau)(F:Ac):Prop:=∃n vs,j2 hp size v=some (n,vs)/\n6 P U τ F e size x vs/\vs.length=n*size/\(x.cnt size).toI U=n
def cU {i a len c k:Nat}{y:Blk}(b:hp.m.get i=some y)(hr:rdC y=some (cs,k,z))(hk:a+len*size<=k)(hl:d6 cs a (len*size)=some vs):j2 hp size (.slice (some ⟨i,a,none⟩) len c)=some (len,vs):=by simp only[j2,b,hr,Nat.ble_eq_true_of_le hk,cond_true,hl]
def ze {o:Nat}{L off len:E}{i c k e' w:Nat}(b:hp.m.get i=some (.cells cs k e' w))(hk:n<=k)(hr:q7 P F e z o n cs (L.toR U))(h0:0<=off.toI U)(h1:0<=len.toI U):OKp U (Ee U L off len) s fun x=>Ie P U hp e z (.slice (some ⟨i,o+off.toN U*z,none⟩) (len.toN U) c) x τ F:=by
 unfold Ee;refine OKp.need.bind fun _ _ _ _ p1=>E5.bind fun c' _ _ _ hc=>Ml ?_;have p1:=J0 p1;rw[m9,i4]at p1;have a:c'.toR U=part (L.toR U) (off.toI U) (len.toI U):=by show(c'.den U).rows=_;rw[hc];rfl
 obtain⟨vs,d,g,h,r⟩:=R6 (τ:=τ) hr h0 h1 p1 a;refine⟨len.toN U,vs,cU b rfl (Nat.le_trans g hk) d,h,r,?_⟩;show(A5 c').toI U=_;rw[i4,a,S7 h0 h1 p1]
theorem Hy (Z:1<=size){a:SV}(ha:VD P U τ F a v)(hs:SD P U τ F s hp):OKp U (ssrc P U e size a) s fun x=>Ie P U hp e size v x τ F:=by
 unfold ssrc;split
 ·cases ha;exact Ml ⟨0,[],by simp[j2],MC,by simp,by show((0/size:Nat):Int)=0;simp⟩
 ·rename_i b z off len cap;refine Mk ?_;split
  ·rename_i l e' N hb;cases hq:Nat.beq e e'&&Nat.beq z size&&Nat.beq z N with
   |false=>exact Mg|true=>
    simp only[cond_true];simp only[Bool.and_eq_true,Nat.beq_eq]at hq;obtain⟨⟨rfl,rfl⟩,rfl⟩:=hq;rcases hs.live b _ hb with⟨i,o,y,k1,k2,kF,cs,n,rfl,J,K⟩| ⟨k1,L',e',N,aa,k2,k3,J,K⟩
    ·cases ha with
     |sl _ _ _ _ _ i' o' c g h0 h1 hc=>
      rw[k1]at g;simp only[Option.some.injEq,Prod.mk.injEq]at g;obtain⟨rfl,rfl⟩:=g;split
      ·rename_i B A;cases hq:decide (0<=B)&&decide (0<=A)&&Nat.ble ((B.toNat+A.toNat)*z) l.length with
       |false=>exact Mg|true=>
        simp only[cond_true];simp only[Bool.and_eq_true,decide_eq_true_eq,Nat.ble_eq]at hq;obtain⟨⟨q1,q2⟩,q3⟩:=hq;rw[Nat.add_mul]at q3;have e1:(E.int B).toN U=B.toNat:=rfl;have e2:(E.int A).toN U=A.toNat:=rfl;obtain⟨vs,O,M,v3⟩:=i8 (c:=cs) (R:=fun j x=>∀a,((l.drop (B.toNat*z)).take (A.toNat*z))[j]? =some a->VD P U τ F a x) (A.toNat*z) (o+B.toNat*z) 0 fun j hj=>by
         have V:B.toNat*z+j<l.length:=by omega
         obtain⟨x,w1,w2⟩:=K (B.toNat*z+j) _ (List.getElem?_eq_getElem V);grind
        have G:((l.drop (B.toNat*z)).take (A.toNat*z)).length=A.toNat*z:=by grind
        refine Ml ⟨A.toNat,vs,cU k2 rfl (by show o+B.toNat*z+A.toNat*z<=n;omega) O,⟨by rw[G,M],fun j a x ha hx=>v3 j x hx a (by rw[Nat.zero_add];exact ha)⟩,M,?_⟩;show((((l.drop (B.toNat*z)).take (A.toNat*z)).length/z:Nat):Int)=_;rw[G,Nat.mul_div_cancel _ Z]
      ·split
       ·rename_i L hL;exact ze k2 (Nat.le_refl n) (jy hL J K) h0 h1
       ·exact Mg
     |sl0 _ _ _ _ _ g h0 h1 hc=>grind
    ·cases k2
  ·rename_i L e' N ph hb;cases hq:Nat.beq e e'&&Nat.beq z size&&Nat.beq z N with
   |false=>exact Mg|true=>
    simp only[cond_true];simp only[Bool.and_eq_true,Nat.beq_eq]at hq;obtain⟨⟨rfl,rfl⟩,rfl⟩:=hq;rcases hs.live b _ hb with⟨i,o,y,k1,k2,kF,cs,n,rfl,J,K⟩| ⟨k1,L',e',N,aa,k2,k3,J,K⟩
    ·cases ha with
     |sl _ _ _ _ _ i' o' c g h0 h1 hc=>rw[k1]at g;simp only[Option.some.injEq,Prod.mk.injEq]at g;obtain⟨rfl,rfl⟩:=g;exact ze k2 (Nat.le_refl n) J h0 h1
     |sl0 _ _ _ _ _ g h0 h1 hc=>grind
    ·cases ha with
     |sl _ _ _ _ _ i' o' c g h0 h1 hc=>grind|sl0 _ _ _ _ _ g h0 h1 hc=>
      simp only[w9.rows.injEq]at k2;obtain⟨rfl,rfl,rfl,rfl⟩:=k2;unfold Ee;refine OKp.need.bind fun _ _ _ _ p1=>E5.bind fun c' _ _ _ Q=>Ml ?_;have D:c'.toR U=[]:=by show(c'.den U).rows=_;rw[Q,k3];simp[part,Dat.rows]
      refine⟨0,[],by simp[j2],⟨J,by rw[D];simp,fun r h=>(by rw[D]at h;cases h),fun r k row d h=>by rw[D]at h;simp at h⟩,by simp,?_⟩;show(A5 c').toI U=0;rw[i4,D];rfl
  ·exact Mg
 ·rename_i e' L clip;cases hq:Nat.beq e e'&&Nat.beq size (kf P e).length with
  |false=>exact Mg|true=>
   simp only[cond_true];simp only[Bool.and_eq_true,Nat.beq_eq]at hq;obtain⟨rfl,hk⟩:=hq;cases ha with
   |lst _ _ _ _ hv hc=>
    refine Ml ?_;have C:(dS L).toR U=L.toR U:=by show((dS L).den U).rows=_;rw[ig];rfl
    have w:((Src.rows (dS L)).cnt size).toI U=((L.toR U).length:Int):=by show(A5 (dS L)).toI U=_;rw[i4,C]
    generalize Y:L.toR U=rows at hv C w;cases hv with
    |nils=>exact⟨0,[],by simp[j2],⟨hk,by rw[C];simp,fun r h=>(by rw[C]at h;cases h),fun r k row d h=>by rw[C]at h;simp at h⟩,by simp,by rw[w];rfl⟩|vague=>exact⟨0,[],by simp[j2],⟨hk,by rw[C];simp,fun r h=>(by rw[C]at h;cases h),fun r k row d h=>by rw[C]at h;simp at h⟩,by simp,by rw[w];rfl⟩|sl _ i o c b cs n z _ x hF hb ab hn hz hr hx W=>
     have hg:=hs.frz i b hF;have X:q7 P F e z o n cs rows:=⟨hn,hz,hr,fun r k row d h1 h2=>⟨x r k,hx r k row d h1 h2,fun kd T=>W r k row kd d h1 h2 T⟩⟩
     have H:part rows 0 rows.length=rows:=by simp[part]
     obtain⟨vs,O,M,v3,v4⟩:=R6 (U:=U) (τ:=τ) X (off:=0) (len:=rows.length) (Int.le_refl 0) (by omega) (by omega) (L:=dS L) (by rw[C,H]);have e1:(0:Int).toNat*z=0:=by simp
     rw[e1,Nat.add_zero,Int.toNat_natCast]at O M;rw[Int.toNat_natCast]at v4;have ez:z=size:=by omega
     subst ez;exact⟨rows.length,vs,cU hg hb M O,v3,v4,w⟩
 ·exact Mg
theorem zS (h:n6 P U τ F e size x vs)(hs:SD P U τ F s hp):OKh P U (srcE P U e size x) τ F s hp fun L τ' F' hp'=>τ'=τ/\hp'=hp/\(size=(kf P e).length->n6 P U τ' F' e size (.rows L) vs):=by
 unfold srcE;split
 ·exact Mf ⟨rfl,rfl,fun _=>h⟩
 ·have D:vs=[]:=List.eq_nil_of_length_eq_zero h.1.symm;subst D;exact Mf ⟨rfl,rfl,fun hk=>⟨hk,by show 0=([]:Rows).length*size;simp,fun r h=>(by cases h),fun r k row d h=>by have:([]:Rows)[r]? =some row:=h;simp at this⟩⟩
 ·rename_i l _;cases hq:Nat.beq size (kf P e).length&&Nat.beq (l.length/size*size) l.length with
  |false=>exact Md|true=>
   simp only[cond_true];simp only[Bool.and_eq_true,Nat.beq_eq]at hq;obtain⟨q1,q2⟩:=hq;refine(hX (ks:=kf P e) (j:=0) (fun k a v τ F s hp=>eU 20 k a v τ F s hp) h hs).bind fun es τ1 F1 s1 hp1 ex hs1 ⟨w,A,o,B⟩=>Mf ⟨w,A,fun hk=>?_⟩;have g:vs.length=es.length:=by rw[o];exact h.1.symm
   have hr:q7 P F1 e size 0 vs.length (fill .e 0 vs) ((E.op (.rows (l.length/size) size) es).toR U):=aC hk (by rw[o,q2]) (by rw[g];omega) fun j d hd=>by
    have hj:j<vs.length:=by grind
    have c:vs[j]? =some vs[j]:=by simp[hj]
    obtain⟨kd,H,J⟩:=B j _ _ c hd;refine⟨vs[j],by rw[Nat.zero_add];exact Q5 vs j _ c,fun G C=>?_⟩;grind
   have b:((E.op (.rows (l.length/size) size) es).toR U).length=l.length/size:=by show(chunk size (l.length/size) _).length=_;rw[K6]
   refine⟨hk,by rw[b,q2];exact h.1.symm,hr.2.2.1,fun r k row d h1 h2=>?_⟩;obtain⟨y,k1,k2⟩:=hr.2.2.2 r k row d h1 h2;refine⟨y,?_,k2⟩;rw[Nat.zero_add,f6]at k1;split at k1
   ·grind
   ·rw[Mu]at k1;cases k1
end
end Go.Sx
namespace Go.Sx
open Go.Xe
section
variable (P :Ax)(U:Ab)
def W1 (e size:Nat)(x:Src)(len:E):M SV:=c6 (gv (x.blk e size)) fun b=>e8 (.sl b size (.int 0) len .ge)
def smove (e size b:Nat)(x:Src)(len:E)(cp:Cp):M SV:=fun s=>.ret (.sl s.nx size (.int 0) len cp,lq (s.set b none) (x.blk e size))
def iz (e size b:Nat)(off len:E)(cap:Cp)(src:Src):M SV:=
 c6 (srcE P U e size src) fun Ln=>o8 fun s=>match s.get b with
 | some (.rows L e' z' ph) => bif Nat.beq e e' && Nat.beq size z' && Nat.beq size (kf P e).length then
   c6 (n5 U (z9 (A7 (A5 L) (A6 off len)))) fun _=>c6 (n5 U (A7 (A6 len (A5 Ln)) (.int 67108865))) fun _=>
   match cap with
   | .ge=>c6 (dT U L off len) fun Lo=>smove e size b (.rows (V1 Lo Ln)) (A6 len (A5 Ln)) .ge
   | .un=>c6 (dT U L off len) fun Lo=>smove e size b (.rows (V1 Lo Ln)) (A6 len (A5 Ln)) .un
   | .ex c => c6 (ij U (A7 c (A6 len (A5 Ln)))) fun t =>
     bif t then c6 (dT U L off len) fun Lo=>W1 e size (.rows (V1 Lo Ln)) (A6 len (A5 Ln))
     else c6 (n5 U (z9 (A7 ph (A6 off c)))) fun _=>c6 (jn b (some (.rows (.op .over [L,A6 off len,Ln]) e z' ph))) fun _=>e8 (.sl b size off (A6 len (A5 Ln)) (.ex c))
  else a7 "append: type"
 |_=>a7 "append: block"
def sapp (e size:Nat)(s:SV)(src:Src):M SV:=
 match s with
 | .nils=>match src with
  | .lit []=>e8 .nils|src=>c6 (n5 U (A7 (src.cnt size) (.int 67108865))) fun _=>W1 e size src (src.cnt size)
 | .sl b z off len cap => bif Nat.beq z size && src.one then o8 fun st => match st.get b with
   |some (.cells l e' z')=>match off,len,src with
    | .int o, .int n, .lit m => bif Nat.beq e e' && Nat.beq z z' && decide (0 ≤ o) && decide (0 ≤ n) && Nat.ble ((o.toNat + n.toNat) * z) l.length && Nat.ble (n.toNat + m.length / size) 67108864 && Nat.beq (m.length / size * size) m.length then
      match cap with
      | .ge=>smove e size b (.lit ((l.drop (o.toNat*z)).take (n.toNat*z)++m)) (.int (n.toNat+m.length/size:Nat)) .ge| .un=>a7 "append: cells"
      | .ex c => c6 (ij U (A7 c (.int (n.toNat + m.length / size : Nat)))) fun t =>
        bif t then W1 e size (.lit ((l.drop (o.toNat*z)).take (n.toNat*z)++m)) (.int (n.toNat+m.length/size:Nat))
        else bif Nat.ble ((o.toNat+n.toNat)*z+m.length) l.length then c6 (jn b (some (.cells (P1 l ((o.toNat+n.toNat)*z) m) e' z'))) fun _=>e8 (.sl b z (.int o) (.int (n.toNat+m.length/size:Nat)) (.ex c))else a7 "append: room"
     else a7 "append: literal"
    |off,len,src=>c6 (uj P b) fun _=>iz P U e size b off len cap src
   |some (.rows _ _ _ _)=>iz P U e size b off len cap src|_=>a7 "append: no block"
  else a7 "append: size"
 | .lst e' L true => bif Nat.beq e e' && Nat.beq size (kf P e).length && src.one then
   c6 (ij U (I8 (src.cnt size) (.int 0))) fun t=>bif t then c6 (n5 U (A7 (A5 L) (.int 67108865))) fun _=>e8 (.lst e' L true)else
    c6 (srcE P U e size src) fun Ln=>c6 (n5 U (A7 (A6 (A5 L) (A5 Ln)) (.int 67108865))) fun _=>W1 e size (.rows (V1 (dS L) Ln)) (A6 (A5 L) (A5 Ln))
  else a7 "append: type"
 |_=>a7 "append: value"
def zD (t u:Ay)(s x:SV):M SV:=
 match P.underlying t,P.underlying u with
 |some (.slice e),some (.slice _)=>match P.info? e with
  |none=>a7 "append: type"|some ie=>match ie.zero with
   |none=>a7 "append: zero"|some z=>bif Nat.beq z.cells.toList.length ie.size&&Nat.ble ie.bytes 1048576&&Nat.ble 1 ie.size then c6 (ssrc P U e ie.size x) fun src=>sapp P U e ie.size s src else a7 "append: size"
 |_,_=>a7 "append: type"
end
section
variable {P :Ax}{U:Ab}{τ:Tau}{F:Ac}{s:SS}{hp:Hp}
noncomputable def T5 (hp:Hp)(e size n:Nat)(news:Af)(s:Aw):Bc (Aw×Hp):=
 match s with
 | .slice none sLen sCap => bif Nat.beq sLen 0 && Nat.beq sCap 0 && Nat.ble n 67108864 then
   bif Nat.beq n 0 then some (.slice none 0 0,hp)
   else some (.slice (some ⟨hp.nx,0,none⟩) n (c8 n 0),hp.new news e size)
  else none
 | .slice (some ⟨i,o,none⟩) sLen sCap=>match hp.m.get i with
  |some (.cells c k e' z')=>
   bif Nat.ble (sLen+n) 67108864&&news.all Value.oneCell' then
    bif Nat.beq n 0 then
     bif Nat.ble sLen sCap then some (.slice (some ⟨i,o,none⟩) sLen sCap,hp)else none
    else
     bif Nat.ble unk sCap then
      bif Nat.ble 1 (D1 sCap)&&Nat.ble (D1 sCap) (sLen+n)then
       bif Nat.ble (o+sLen*size) k then
        match d6 c o (sLen*size)with
        |none=>none|some olds=>some (.slice (some ⟨hp.nx,0,none⟩) (sLen+n) (c8 (sLen+n) 0),hp.new (olds++news) e size)
       else none
      else bif Nat.beq z' size&&Nat.beq e' e&&Nat.ble (o+sLen*size) k then
       bif Nat.ble (sLen+n) (L6 sCap)then
        some (.slice (some ⟨i,o,none⟩) (sLen+n) sCap,jS hp i c (Nat.max k (o+(sLen+n)*size)) e' z' (o+sLen*size) news)
       else
       match d6 c o (sLen*size)with
       |none=>none|some olds=>
        (bif Nat.beq o 0 then fill c (sLen*size) news else fill (fill .e 0 olds) (sLen*size) news).force fun ct=>
         some (.slice (some ⟨hp.nx,0,none⟩) (sLen+n) (c8 (sLen+n) 0),⟨(hp.m.set i none).set hp.nx (some (.cells ct ((sLen+n)*size) e' z')),hp.nx+1⟩)
      else none
     else bif Nat.ble (sLen+n) sCap then
      bif Nat.ble (o+(sLen+n)*size) k then
       some (.slice (some ⟨i,o,none⟩) (sLen+n) sCap,jS hp i c k e' z' (o+sLen*size) news)
      else none
     else
      bif Nat.ble (o+sLen*size) k then
       match d6 c o (sLen*size)with
       |none=>none|some olds=>some (.slice (some ⟨hp.nx,0,none⟩) (sLen+n) (c8 (sLen+n) 0),hp.new (olds++news) e size)
      else none
   else none
  |some (.ro c k _ _)=>
   bif Nat.ble (sLen+n) 67108864&&Nat.ble sLen sCap&& !Nat.ble unk sCap then
    bif Nat.beq n 0 then some (.slice (some ⟨i,o,none⟩) sLen sCap,hp)
    else bif Nat.ble (sLen+n) sCap then none
    else bif Nat.ble (o+sLen*size) k then
     match d6 c o (sLen*size)with
     |none=>none|some olds=>some (.slice (some ⟨hp.nx,0,none⟩) (sLen+n) (c8 (sLen+n) 0),hp.new (olds++news) e size)
    else none
   else none
  |_=>none
 |_=>none
variable {n:Nat}{news:Af}
def od {t u e a:Ay}{ie:Bb}{z:Aw}(ht:P.underlying t=some (.slice e))(b:P.underlying u=some (.slice a))(hi:P.info? e=some ie)(hz:ie.zero=some z)(hb:(Nat.beq z.cells.toList.length ie.size&&Nat.ble ie.bytes 1048576)=true){sv xv:Aw}(hx:j2 hp ie.size xv=some (n,news)):y9 P hp t u sv xv=T5 hp e ie.size n news sv:=by simp only[y9,ht,b,hi,hz,hb,cond_true,hx];rfl
variable (P U) in
def lT (hp:Hp)(e size n:Nat)(news:Af)(sv:Aw)(c:SV)(τ:Tau)(F:Ac)(hp':Hp):Prop:=∃w,T5 hp e size n news sv=some (w,hp')/\VD P U τ F c w
def geN {len:E}(h:len.toI U=n)(hn:n<=67108864):qP U len .ge (c8 n 0):=⟨n,rfl,hn,by rw[h];exact Int.ofNat_le.2 hn⟩
def Gg (z:Nat):0+(E.int 0).toN U*z=0:=by show 0+(0:Int).toNat*z=0;simp
def sn {len:E}(h:len.toI U=n):len.toN U=n:=by show(len.toI U).toNat=n;rw[h];exact Int.toNat_natCast n
variable {e size:Nat}
def J9 {x:Src}{vs:Af}{len:E}(h:n6 P U τ F e size x vs)(a:len.toI U=n)(hn:n<=67108864)(hs:SD P U τ F s hp):OKh P U (W1 e size x len) τ F s hp fun c τ' F' hp'=>hp'=hp.new vs e size/\VD P U τ' F' c (.slice (some ⟨hp.nx,0,none⟩) n (c8 n 0)):=by unfold W1;refine(OKh.alloc (y:= .cells (fill .e 0 vs) vs.length e size) hs fun τ' ht=>oW (h.mono ht (LZ F)) (fun j y hy=>by rw[Nat.zero_add];exact Q5 vs j y hy) (by omega)).bind fun b τ' F' s' hp' _ d ⟨h1,h2,h3⟩=>Mf ⟨h3,?_⟩;subst h1;exact VD.sl' h2 (Int.le_refl 0) (by rw[a];omega) (geN a hn) (Gg size).symm (sn a).symm
def OKh.smove {e size b i o j q n c:Nat}{x:w9}{x':Src}{len:E}{cp:Cp}(hb:s.get b=some x)(ht:τ b=some (some (i,o))){hp1:Hp}(hn:hp.nx<=hp1.nx)(hk:∀k,k<hp.nx->k≠i->hp1.m.get k=hp.m.get k)(hj:j=i\/hp.nx<=j)(g:j<hp1.nx){y:Blk}(hi:hp1.m.get j=some y)(hd:∀τ',Tle τ τ'->BD P U τ' F q (x'.blk e size) y)(d:len.toI U=n)(hc:qP U len cp c)(hs:SD P U τ F s hp):OKh P U (smove e size b x' len cp) τ F s hp fun a τ' F' hp'=>hp'=hp1/\VD P U τ' F' a (.slice (some ⟨j,q,none⟩) n c):=by intro Q hq _;have h0:τ s.nx=none:=hs.new _ (Nat.le_refl _);obtain⟨h1,h2⟩:=hs.move (x':=x'.blk e size) (q:=q) hb ht hn hk hj g hi (hd _ (js _ h0));refine⟨_,_,hq,_,F,hp1,h1,h2,rfl,?_⟩;exact VD.sl' (o9 _ _ _) (Int.le_refl 0) (by rw[d];omega) hc (by show q=q+(0:Int).toNat*size;simp) (sn d).symm
variable {cs:Ao}{olds:Af}
theorem bR {a:Nat}(h:∀(j:Nat) y,olds[j]? =some y->cs.get (a+j)=some y)(j:Nat)(y:Aw)(hy:(olds++news)[j]? =some y):(fill cs (a+olds.length) news).get (a+j)=some y:=by rw[f6];grind
variable {i k q sLen:Nat}{res:Src}
theorem wu {b o lo:Nat}{x:w9}{len:E}{cp:Cp}(G:∀c,qP U len .ge c->qP U len cp c)(hb:s.get b=some x)(ht:τ b=some (some (i,o)))(V:hp.m.get i=some (.cells cs k e size))(hl:d6 cs q (sLen*size)=some olds)(hk:q+sLen*size<=k)(W:news.all Value.oneCell'=true)(O:news.length=n*size)(L:lo<=67108864)(Q:sLen+n<=67108864)(B:n6 P U τ F e size res (olds++news))(d:len.toI U=((sLen+n:Nat):Int))(hs:SD P U τ F s hp):OKh P U (smove e size b res len cp) τ F s hp (lT P U hp e size n news (.slice (some ⟨i,q,none⟩) sLen (c8 lo 0))):=by
 have K:i<hp.nx:=hs.lt b i o ht;obtain⟨X,Y⟩:=g9 hl;have A:∀(j:Nat) y,olds[j]? =some y->cs.get (q+j)=some y:=fun j y hy=>by grind
 have hx:∀w hp1,T5 hp e size n news (.slice (some ⟨i,q,none⟩) sLen (c8 lo 0))=some (w,hp1)->(∀a τ' F' hp',Tle τ τ'->Fle F F'->hp'=hp1/\VD P U τ' F' a w->lT P U hp e size n news (.slice (some ⟨i,q,none⟩) sLen (c8 lo 0)) a τ' F' hp'):=
  fun w hp1 h a τ' F' hp' _ _ ⟨h1,h2⟩=>⟨w,by rw[h1];exact h,h2⟩
 have r:(Nat.ble (sLen+n) 67108864&&news.all Value.oneCell')=true:=by simp_all
 by_cases N:n=0
 ·
  subst N;have H:news=[]:=List.eq_nil_of_length_eq_zero (by rw[O];simp);subst H;have J:∀c,unk<=c->Nat.ble sLen c=true:=fun c hc=>Nat.ble_eq_true_of_le (Nat.le_trans (Nat.le_of_lt (HG (by omega))) hc);have R:∀c,unk<=c->T5 hp e size 0 [] (.slice (some ⟨i,q,none⟩) sLen c)=some (.slice (some ⟨i,q,none⟩) sLen c,hp):=by intro c hc;simp only[T5,V,r,cond_true,J c hc];rfl
  have g:=R _ (j1 lo 0);refine(OKh.smove (hp:=hp) (c:=c8 lo 0) (hp1:=hp) (j:=i) (q:=q) (n:=sLen) hb ht (Nat.le_refl _) (fun _ _ _=>rfl) (.inl rfl) K V (fun τ' C=>?_) d (G _ ⟨lo,rfl,L,by rw[d];omega⟩) hs).mono (hx _ _ g);exact oW (B.mono C (LZ F)) (fun j y hy=>A j y (by simpa using hy)) (by simp;omega)
 ·have g:T5 hp e size n news (.slice (some ⟨i,q,none⟩) sLen (c8 lo 0))=bif Nat.ble (sLen+n) lo then
    some (.slice (some ⟨i,q,none⟩) (sLen+n) (c8 lo 0),jS hp i cs (Nat.max k (q+(sLen+n)*size)) e size (q+sLen*size) news)
    else(bif Nat.beq q 0 then fill cs (sLen*size) news else fill (fill .e 0 olds) (sLen*size) news).force fun ct=>
     some (.slice (some ⟨hp.nx,0,none⟩) (sLen+n) (c8 (sLen+n) 0),⟨(hp.m.set i none).set hp.nx (some (.cells ct ((sLen+n)*size) e size)),hp.nx+1⟩):=by
   simp only[T5,V,r,cond_true,s7 N,cond_false,Nat.ble_eq_true_of_le (j1 lo 0),tl,tn];rw[show Nat.ble 1 0=false from rfl,Bool.false_and,cond_false,l6 rfl,l6 rfl,Nat.ble_eq_true_of_le hk,hl];grind
  have M:(sLen+n)*size=sLen*size+n*size:=Nat.add_mul _ _ _;cases D:Nat.ble (sLen+n) lo with
  |true=>
   rw[D,cond_true]at g;simp only[jS,Mt]at g;refine(OKh.smove (hp:=hp) (c:=c8 lo 0) (hp1:= {hp with m:=hp.m.set i (some (.cells (fill cs (q+sLen*size) news) (Nat.max k (q+(sLen+n)*size)) e size))}) (j:=i) (q:=q) (n:=sLen+n) hb ht (Nat.le_refl _)
    (fun j _ hj=>by rw[Mw,if_neg hj]) (.inl rfl) K (by rw[Mw,if_pos rfl]) (fun τ' C=>?_) d (G _ ⟨lo,rfl,L,by rw[d];omega⟩) hs).mono (hx _ _ g)
   refine oW (B.mono C (LZ F)) (fun j y hy=>?_) ?_
   ·rw[<-X];exact bR A j y hy
   ·grind
  |false=>
   rw[D,cond_false,Mt]at g;refine(OKh.smove (hp:=hp) (c:=c8 (sLen+n) 0) (hp1:=⟨(hp.m.set i none).set hp.nx (some (.cells (bif Nat.beq q 0 then fill cs (sLen*size) news else fill (fill .e 0 olds) (sLen*size) news) ((sLen+n)*size) e size)),hp.nx+1⟩) (j:=hp.nx) (q:=0) (n:=sLen+n) hb ht (Nat.le_succ _)
    (fun j hj H=>by rw[Mw,if_neg (by omega),Mw,if_neg H]) (.inr (Nat.le_refl _)) (Nat.lt_succ_self _) (by rw[Mw,if_pos rfl]) (fun τ' C=>?_) d (G _ (geN d Q)) hs).mono (hx _ _ g)
   refine oW (B.mono C (LZ F)) (fun j y hy=>?_) (by simp only[List.length_append,X,O];omega);by_cases hq:q=0
   ·rw[l6 hq,cond_true];have:=bR (cs:=cs) (a:=0) (fun j y hy=>by rw[Nat.zero_add,<-A j y hy,hq,Nat.zero_add]) j y hy;grind
   ·rw[s7 hq,cond_false];have:=bR (cs:=fill .e 0 olds) (a:=0) (fun j y hy=>by rw[Nat.zero_add];exact Q5 olds j y hy) j y hy;grind
theorem CE {b o:Nat}{x:w9}{len:E}(hb:s.get b=some x)(ht:τ b=some (some (i,o)))(G:hp.m.get i=some (.cells cs k e size))(hl:d6 cs q (sLen*size)=some olds)(hk:q+sLen*size<=k)(L:news.all Value.oneCell'=true)(K:news.length=n*size)(A:sLen<unk)(D:sLen+n<=67108864)(h:n6 P U τ F e size res (olds++news))(d:len.toI U=((sLen+n:Nat):Int))(hs:SD P U τ F s hp):OKh P U (smove e size b res len .un) τ F s hp (lT P U hp e size n news (.slice (some ⟨i,q,none⟩) sLen sLen)):=by
 have H:i<hp.nx:=hs.lt b i o ht;obtain⟨M,N⟩:=g9 hl;have C:∀(j:Nat) y,olds[j]? =some y->cs.get (q+j)=some y:=fun j y hy=>by grind
 have g:(Nat.ble (sLen+n) 67108864&&news.all Value.oneCell')=true:=by simp_all
 by_cases B:n=0
 ·subst B;have J:news=[]:=List.eq_nil_of_length_eq_zero (by rw[K];simp);subst J;have r:T5 hp e size 0 [] (.slice (some ⟨i,q,none⟩) sLen sLen)=some (.slice (some ⟨i,q,none⟩) sLen sLen,hp):=by simp only[T5,G,g,cond_true,Nat.ble_eq_true_of_le (Nat.le_refl sLen)];rfl
  refine(OKh.smove (cp:= .un) (hp:=hp) (c:=sLen) (hp1:=hp) (j:=i) (q:=q) (n:=sLen) hb ht (Nat.le_refl _) (fun _ _ _=>rfl) (.inl rfl) H G (fun τ' w=>?_) d (Or.inl ⟨A,(sn d).symm,by rw[d];omega⟩) hs).mono fun a τ' F' hp' _ _ ⟨h1,h2⟩=>⟨_,by rw[h1];exact r,h2⟩
  exact oW (h.mono w (LZ F)) (fun j y hy=>C j y (by simpa using hy)) (by simp;omega)
 ·have r:T5 hp e size n news (.slice (some ⟨i,q,none⟩) sLen sLen)=some (.slice (some ⟨hp.nx,0,none⟩) (sLen+n) (c8 (sLen+n) 0),hp.new (olds++news) e size):=by simp only[T5,G,g,cond_true,s7 B,cond_false,ble_f A,ble_f (show sLen<sLen+n by omega),Nat.ble_eq_true_of_le hk,hl]
  refine(OKh.smove (cp:= .un) (hp:=hp) (c:=c8 (sLen+n) 0) (hp1:=hp.new (olds++news) e size) (y:= .cells (fill .e 0 (olds++news)) (olds++news).length e size) (j:=hp.nx) (q:=0) (n:=sLen+n) hb ht (Nat.le_succ _)
   (fun j hj _=>by show(hp.m.set hp.nx _).get j=_;rw[Mw,if_neg (by omega)]) (.inr (Nat.le_refl _)) (Nat.lt_succ_self _) (by show(hp.m.set hp.nx _).get hp.nx=_;rw[Mw,if_pos rfl]) (fun τ' w=>?_) d (Or.inr (geN d D)) hs).mono fun a τ' F' hp' _ _ ⟨h1,h2⟩=>⟨_,by rw[h1];exact r,h2⟩
  exact oW (h.mono w (LZ F)) (fun j y hy=>by rw[Nat.zero_add];exact Q5 _ j y hy) (by omega)
def yp {c:Nat}{len:E}(y:hp.m.get i=some (.cells cs k e size))(hl:d6 cs q (sLen*size)=some olds)(hk:q+sLen*size<=k)(g:news.all Value.oneCell'=true)(o:c<unk)(A:sLen<=c)(r:c<sLen+n)(b:sLen+n<=67108864)(h:n6 P U τ F e size res (olds++news))(d:len.toI U=((sLen+n:Nat):Int))(hs:SD P U τ F s hp):OKh P U (W1 e size res len) τ F s hp (lT P U hp e size n news (.slice (some ⟨i,q,none⟩) sLen c)):=by
 have w:T5 hp e size n news (.slice (some ⟨i,q,none⟩) sLen c)=some (.slice (some ⟨hp.nx,0,none⟩) (sLen+n) (c8 (sLen+n) 0),hp.new (olds++news) e size):=by simp only[T5,y];rw[show(Nat.ble (sLen+n) 67108864&&news.all Value.oneCell')=true by simp only[Bool.and_eq_true,Nat.ble_eq];exact⟨b,g⟩];simp only[cond_true,s7 (show n≠0 by omega),cond_false,ble_f o,ble_f r,Nat.ble_eq_true_of_le hk,hl]
 exact(J9 h d b hs).mono fun a τ' F' hp' _ _ ⟨h1,h2⟩=>⟨_,by rw[h1];exact w,h2⟩
theorem CF {c:Nat}(g:hp.m.get i=some (.cells cs k e size))(y:news.all Value.oneCell'=true)(w:news.length=n*size)(d:c<unk)(h:sLen<=c)(o:sLen+n<=c)(A:sLen+n<=67108864)(hk:q+(sLen+n)*size<=k){e0:Nat}:∃m,T5 hp e0 size n news (.slice (some ⟨i,q,none⟩) sLen c)=some (.slice (some ⟨i,q,none⟩) (sLen+n) c,{hp with m:=m})/\(∀j,j≠i->m.get j=hp.m.get j)/\m.get i=some (.cells (fill cs (q+sLen*size) news) k e size):=by
 have a:(Nat.ble (sLen+n) 67108864&&news.all Value.oneCell')=true:=by simp_all
 by_cases b:n=0
 ·subst b;have r:news=[]:=List.eq_nil_of_length_eq_zero (by rw[w];simp);subst r;refine⟨hp.m,?_,fun _ _=>rfl,g⟩;simp only[T5,g,a,cond_true,l6,Nat.ble_eq_true_of_le h];rfl
 ·refine⟨hp.m.set i (some (.cells (fill cs (q+sLen*size) news) k e size)),?_,fun j hj=>by rw[Mw,if_neg hj],by rw[Mw,if_pos rfl]⟩;simp only[T5,g,a,cond_true,s7 b,cond_false,ble_f d,Nat.ble_eq_true_of_le o,Nat.ble_eq_true_of_le hk,jS,Mt]
end
end Go.Sx
namespace Go.Sx
open Go.Xe
section
variable {P :Ax}{U:Ab}{τ:Tau}{F:Ac}{s:SS}{hp:Hp}
theorem OKh.change0 {b:Nat}{x:w9}(hb:s.get b=some x)(ht:τ b=some none){x':w9}(hx:∃L e z ph,x'= .rows L e z ph/\L.toR U=[]/\z=(kf P e).length/\ph.toI U<=0)(hs:SD P U τ F s hp):OKh P U (jn b (some x')) τ F s hp fun _ τ' F' hp'=>τ'=τ/\F'=F/\hp'=hp:=by
 intro Q hq _;have a:∀c y,(s.set b (some x')).get c=some y-> ∃y,s.get c=some y:=by intro c y hc;rw[Mn]at hc;grind
 refine⟨(),_,hq,τ,F,hp,⟨Mx τ,LZ F,Nat.le_refl _,Nat.le_refl _,fun _ _=>rfl,fun c y hc _=>a c y hc,⟨[(b,some x')],rfl,fun _ _ _=>rfl,fun c j q hc h=>(by rw[hs.new c hc]at h;cases h),fun _ _ _ h=>.inl h,fun _ _ _ h=>h⟩,⟨[],rfl⟩,⟨[(b,some x')],rfl,fun _ _ _ _ _ _ cs _ _ _ _ A _=>⟨cs,A,fun _ _=>rfl⟩⟩⟩,
  ⟨fun c y hc=>?_,fun c d y z j q k r hc hd g o w=>?_,hs.frz,hs.lt,hs.flt,hs.new,hs.fc,hs.fz⟩,rfl,rfl,rfl⟩
 ·rw[Mn]at hc;by_cases e:c=b
  ·grind
  ·rw[if_neg e]at hc;exact hs.live c y hc
 ·obtain⟨B,hy⟩:=a c y hc;obtain⟨C,hz⟩:=a d z hd;exact hs.inj c d B C j q k r hy hz g o w
variable {e n size:Nat}{vs:Af}
def ve {L len:E}(h:n6 P U τ F e size (.rows L) vs)(g:vs.length=n*size)(a:len.toI U=n)(b:(L.toR U).length=n)(hn:n<=67108864)(hs:SD P U τ F s hp):OKh P U (W1 e size (.rows L) len) τ F s hp fun c τ' F' hp'=>(n=0/\hp'=hp/\VD P U τ' F' c (.slice none 0 0))\/(n≠0/\hp'=hp.new vs e size/\VD P U τ' F' c (.slice (some ⟨hp.nx,0,none⟩) n (c8 n 0))):=by
 by_cases h0:n=0
 ·subst h0;intro Q hq _;have d:L.toR U=[]:=List.eq_nil_of_length_eq_zero b;obtain⟨h1,h2⟩:=hs.alloc (x:=(Src.rows L).blk e size) (p:=none) (hp':=hp) (Nat.le_refl _) (fun _ _=>rfl) (.inr ⟨rfl,L,e,size,.int 0,rfl,d,h.1,Int.le_refl 0⟩);refine⟨_,_,hq,_,F,hp,h1,h2,.inl ⟨rfl,rfl,?_⟩⟩;exact .sl0 s.nx size (.int 0) len .ge (o9 _ _ _) rfl a (fun e he=>by cases he)
 ·exact(J9 h a hn hs).mono fun c τ' F' hp' _ _ ⟨h1,h2⟩=>.inr ⟨h0,h1,h2⟩
variable {news:Af}
def J1 (hn:n<=67108864):T5 hp e size n news (.slice none 0 0)=bif Nat.beq n 0 then some (.slice none 0 0,hp)else some (.slice (some ⟨hp.nx,0,none⟩) n (c8 n 0),hp.new news e size):=by simp only[T5];rw[show(Nat.beq 0 0&&Nat.beq 0 0&&Nat.ble n 67108864)=true by simp only[Bool.and_eq_true,Nat.ble_eq];exact⟨⟨rfl,rfl⟩,hn⟩,cond_true]
def mj {L:E}(a:1<=size)(h:n6 P U τ F e size (.rows L) vs)(b:vs.length=n*size):(L.toR U).length=n:=by have:=h.2.1;rw[b]at this;exact(Nat.eq_of_mul_eq_mul_right a this).symm
def toUn :SV->SV
 | .sl b z off len .ge=>.sl b z off len .un|a=>a
variable {v:Aw}
def HE {a:SV}(h:VD P U τ F a v):VD P U τ F (toUn a) v:=by
 unfold toUn;split
 ·cases h with
  |sl _ _ _ _ _ i o c h h0 h1 hc=>exact .sl _ _ _ _ .un i o c h h0 h1 (Or.inr hc)|sl0 _ _ _ _ _ h h0 h1 hc=>exact .sl0 _ _ _ _ .un h h0 h1 (fun e he=>by cases he)
 ·exact h
theorem kK {b:Nat}(al:1<=size){off len:E}{cap:Cp}{src:Src}(ha:VD P U τ F (.sl b size off len cap) v)(ah:n6 P U τ F e size src news)(O:news.length=n*size)(C:news.all Value.oneCell'=true)(hs:SD P U τ F s hp):OKh P U (iz P U e size b off len cap src) τ F s hp (lT P U hp e size n news v):=by
 unfold iz;refine(zS ah hs).bind fun Ln τ1 F1 s1 hp1 ex hs1 ⟨e1,e2,B⟩=>Me ?_;subst e1;subst e2;have ha:=ha.mono ex.t ex.f;split
 ·rename_i L e' z' ph hb;cases hq:Nat.beq e e'&&Nat.beq size z'&&Nat.beq size (kf P e).length with
  |false=>exact Md|true=>
   simp only[cond_true];simp only[Bool.and_eq_true,Nat.beq_eq]at hq;obtain⟨⟨rfl,rfl⟩,ai⟩:=hq;have B:=B ai;have A:=mj al B O;refine Mb Mh fun _ s2 o2 au p1=>Mb Mh fun _ s3 o3 aj p2=>?_;have p1:=J0 p1;have p2:=H8 p2;rw[m9,i4]at p1;rw[m9,i4,A]at p2;simp only[E1]at p2;have hb3:s3.get b=some (.rows L e size ph):=by rw[(o2.trans o3).get];exact hb
   rcases aj.live b _ hb3 with⟨i,o,y,k1,k2,kF,cs,k,rfl,k4,k5⟩| ⟨k1,L',e',z',av,k2,k3,k4,k5⟩
   ·cases ha with
    |sl0 _ _ _ _ _ K h0 h1 hc=>grind|sl _ _ _ _ _ i' o' c K h0 h1 hc=>
     rw[k1]at K;simp only[Option.some.injEq,Prod.mk.injEq]at K;obtain⟨rfl,rfl⟩:=K;have ap:len.toI U=((len.toN U:Nat):Int):=by grind
     have aq:off.toI U=((off.toN U:Nat):Int):=by grind
     have d:(A6 len (A5 Ln)).toI U=((len.toN U+n:Nat):Int):=by rw[m9,i4,A];omega
     have olds:∀Lo:E,Lo.den U= .lst (part (L.toR U) (off.toI U) (len.toI U))-> ∃vs,d6 cs (o+off.toN U*size) (len.toN U*size)=some vs/\o+off.toN U*size+len.toN U*size<=k/\n6 P U τ1 F1 e size (.rows (V1 Lo Ln)) (vs++news):=by
      intro Lo g;have hR:Lo.toR U=part (L.toR U) (off.toI U) (len.toI U):=by show(Lo.den U).rows=_;rw[g];rfl
      obtain⟨vs,D,M,X,v4⟩:=R6 (τ:=τ1) k4 h0 h1 p1 hR;exact⟨vs,D,M,X.app B⟩
     split
     ·
      obtain⟨lo,rfl,Y,c2⟩:=hc;refine Mb E5 fun Lo V N w g=>?_;obtain⟨vs,D,M,X⟩:=olds Lo g;exact wu (fun _ h=>h) (by rw[N.get];exact hb3) k1 k2 D M C O Y (by omega) X d w
     ·
      refine Mb E5 fun Lo V N w g=>?_;obtain⟨vs,D,M,X⟩:=olds Lo g;rcases hc with⟨Y,rfl,c2⟩| ⟨lo,rfl,Y,c2⟩
      ·exact CE (by rw[N.get];exact hb3) k1 k2 D M C O Y (by omega) X d w
      ·exact wu (cp:= .un) (fun _ h=>Or.inr h) (by rw[N.get];exact hb3) k1 k2 D M C O Y (by omega) X d w
     ·rename_i c0;obtain⟨Y,rfl,c3,c4⟩:=hc;have ao:c0.toI U=((c0.toN U:Nat):Int):=by grind
      refine Mb OKp.test fun t V N w ht=>?_;rw[E4,d]at ht;cases t with
      |true=>simp only[decide_eq_true_eq]at ht;simp only[cond_true];refine Mb E5 fun Lo s5 o5 J g=>?_;obtain⟨vs,D,M,X⟩:=olds Lo g;exact yp k2 D M C c3 (by omega) (by omega) (by omega) X d J
      |false=>
       simp only[decide_eq_false_iff_not]at ht;simp only[cond_false];refine Mb Mh fun _ s5 o5 J p3=>?_;have p3:=J0 p3;rw[m9]at p3;have hb5:s5.get b=some (.rows L e size ph):=by rw[(N.trans o5).get];exact hb3
       have R:o+off.toN U*size+(len.toN U+n)*size<=k:=by have:(off.toN U+(len.toN U+n))*size<=ph.toN U*size:=Nat.mul_le_mul_right size (by show off.toN U+(len.toN U+n)<=(ph.toI U).toNat;omega);grind
       obtain⟨m,m1,m2,m3⟩:=CF (e0:=e) (q:=o+off.toN U*size) (c:=c0.toN U) k2 C O c3 (by omega) (by omega) (by omega) R;have ae:(A6 off len).toI U=off.toI U+len.toI U:=m9 off len;have W:((A6 off len).toI U).toNat=off.toN U+len.toN U:=by grind
       have ac:q7 P F1 e size o k (fill cs (o+off.toN U*size+len.toN U*size) news) ((E.op .over [L,A6 off len,Ln]).toR U):=by have:=q7.over (news:=news) (l:=Ln.toR U) (a:=(A6 off len).toI U) k4 (by rw[ae];exact p1) B.2.2.1 B.2.1 (by rw[W,A,Nat.add_mul,Nat.add_mul];rw[Nat.add_mul]at R;omega) B.2.2.2;rw[W,Nat.add_mul,<-Nat.add_assoc]at this;exact this
       refine(Mc (x':= .rows (.op .over [L,A6 off len,Ln]) e size ph) (m:=m) hb5 k1 m2 m3 ⟨_,k,rfl,ac,k5⟩).bind fun _ τ2 F2 s6 hp2 _ ak ⟨w1,w2,w3⟩=>?_;subst w1;subst w2;refine Mf ⟨.slice (some ⟨i,o+off.toN U*size,none⟩) (len.toN U+n) (c0.toN U),by rw[w3];exact m1,VD.sl' k1 h0 (by omega) ⟨Y,rfl,c3,by omega⟩ rfl (sn d).symm⟩
   ·cases ha with
    |sl _ _ _ _ _ i' o' c K h0 h1 hc=>grind|sl0 _ _ _ _ _ K h0 h1 hc=>
     simp only[w9.rows.injEq]at k2;obtain⟨rfl,rfl,rfl,rfl⟩:=k2;have hn:n<=67108864:=by omega
     have d:(A6 len (A5 Ln)).toI U=(n:Int):=by rw[m9,i4,A];omega
     have G:∀Lo:E,Lo.den U= .lst (part (L.toR U) (off.toI U) (len.toI U))->n6 P U τ1 F1 e size (.rows (V1 Lo Ln)) news/\((V1 Lo Ln).toR U).length=n:=by
      intro Lo g;have hR:Lo.toR U=[]:=by show(Lo.den U).rows=_;rw[g,k3];simp[part,Dat.rows]
      have hA:(V1 Lo Ln).toR U=Ln.toR U:=by rw[aX,hR];rfl
      obtain⟨q1,q2,q3,q4⟩:=B;exact⟨⟨q1,by rw[hA];exact q2,by rw[hA];exact q3,by rw[hA];exact q4⟩,by rw[hA];exact A⟩
     split
     ·refine Mb E5 fun Lo V N w g=>?_;obtain⟨D,M⟩:=G Lo g;by_cases H:n=0
      ·subst H;intro Q hq _;have hb4:V.get b=some (.rows L e size ph):=by rw[N.get];exact hb3
       obtain⟨Z,T⟩:=w.drop b;obtain⟨aa,ab⟩:=T.alloc (x:=(Src.rows (V1 Lo Ln)).blk e size) (p:=none) (hp':=hp1) (Nat.le_refl _) (fun _ _=>rfl) (.inr ⟨rfl,_,e,size,.int 0,rfl,List.eq_nil_of_length_eq_zero M,D.1,Int.le_refl 0⟩);refine⟨_,_,hq,_,F1,hp1,Z.trans aa,ab,.slice none 0 0,by rw[J1 hn];rfl,?_⟩;exact .sl0 _ size (.int 0) _ .ge (o9 _ _ _) rfl d (fun e he=>by cases he)
      ·intro Q hq _;obtain⟨Z,T⟩:=w.drop b;have hx:=(J9 (s:=V.set b none) D d hn T) Q hq T;obtain⟨a,s',q1,τ',F',hp',q2,q3,q4,q5⟩:=hx;exact⟨a,s',q1,τ',F',hp',Z.trans q2,q3,_,by rw[J1 hn,s7 H,cond_false,q4],q5⟩
     ·refine Mb E5 fun Lo V N w g=>?_;obtain⟨D,M⟩:=G Lo g;by_cases H:n=0
      ·subst H;intro Q hq _;have hb4:V.get b=some (.rows L e size ph):=by rw[N.get];exact hb3
       obtain⟨Z,T⟩:=w.drop b;obtain⟨aa,ab⟩:=T.alloc (x:=(Src.rows (V1 Lo Ln)).blk e size) (p:=none) (hp':=hp1) (Nat.le_refl _) (fun _ _=>rfl) (.inr ⟨rfl,_,e,size,.int 0,rfl,List.eq_nil_of_length_eq_zero M,D.1,Int.le_refl 0⟩);refine⟨_,_,hq,_,F1,hp1,Z.trans aa,ab,.slice none 0 0,by rw[J1 hn];rfl,?_⟩;exact .sl0 _ size (.int 0) _ .un (o9 _ _ _) rfl d (fun e he=>by cases he)
      ·intro Q hq _;obtain⟨Z,T⟩:=w.drop b;have hx:=(J9 (s:=V.set b none) D d hn T) (fun r=>Q (toUn r.1,r.2)) hq T;obtain⟨a,s',q1,τ',F',hp',q2,q3,q4,q5⟩:=hx;exact⟨toUn a,s',q1,τ',F',hp',Z.trans q2,q3,_,by rw[J1 hn,s7 H,cond_false,q4],HE q5⟩
     ·rename_i c0;have ad:=hc c0 rfl;refine Mb OKp.test fun t V N w ht=>?_;rw[E4,d,ad]at ht;cases t with
      |true=>simp only[decide_eq_true_eq]at ht;simp only[cond_true];refine Mb E5 fun Lo s5 o5 J g=>?_;obtain⟨D,M⟩:=G Lo g;exact(J9 D d hn J).mono fun a τ' F' hp' _ _ ⟨w1,w2⟩=>⟨_,by rw[J1 hn,s7 (by omega),cond_false,w1],w2⟩
      |false=>
       simp only[decide_eq_false_iff_not]at ht;simp only[cond_false];have H:n=0:=by omega
       subst H;refine Mb Mh fun _ s5 o5 J p3=>?_;have hb5:s5.get b=some (.rows L e size ph):=by rw[(N.trans o5).get];exact hb3
       have ac:(E.op .over [L,A6 off len,Ln]).toR U=[]:=by show(Sx.over (L.toR U) _ (Ln.toR U))=[];rw[k3,List.eq_nil_of_length_eq_zero A];simp[Sx.over]
       refine(OKh.change0 (x':= .rows (.op .over [L,A6 off len,Ln]) e size ph) hb5 k1 ⟨_,e,size,ph,rfl,ac,k4,k5⟩ J).bind fun _ τ2 F2 s6 hp2 _ ak ⟨w1,w2,w3⟩=>?_;subst w1;subst w2;subst w3;exact Mf ⟨.slice none 0 0,by rw[J1 hn];rfl,.sl0 b size off _ _ k1 h0 d (fun e he=>by cases he;exact ad)⟩
 ·exact Md
end
end Go.Sx
namespace Go.Sx
open Go.Xe
section
variable {P :Ax}{U:Ab}{τ:Tau}{F:Ac}{s:SS}{hp:Hp}
theorem PV.nil_or {e:Ay}{a:Ar}{l:Nat}{d:Dat}(h:PV P F (.sl e) (.slice a l l) d):(a=none/\l=0/\d= .lst [])\/ ∃i o,a=some ⟨i,o,none⟩:=by
 cases h with
 |nils=>grind|sl _ i o c b cs n z rows x hF hb hc hn hz hr hx hp=>grind
def q7.of_PV {e i o l c:Nat}{rows:Rows}(h:PV P F (.sl e) (.slice (some ⟨i,o,none⟩) l c) (.lst rows))(a:∀i b,F i=some b->hp.m.get i=some b):∃b cs n z,hp.m.get i=some b/\q7 P F e z o n cs rows/\l=rows.length/\z=(kf P e).length/\((∃e',b= .cells cs n e' z)\/(∃e' C,b= .ro cs n e' C/\c<unk)):=by
 cases h with
 |sl _ _ _ _ b cs n z _ x hF hb hc hn hz hr hx hp'=>
  cases b with
  |cells w y A z2=>simp only[arr,rdC,Option.some.injEq,Prod.mk.injEq]at hb;obtain⟨rfl,rfl,rfl⟩:=hb;have B:=hc.2.2;exact⟨_,w,y,z,a _ _ hF,⟨hn,hz,hr,fun r k row d h1 h2=>⟨x r k,hx r k row d h1 h2,fun kd g=>hp' r k row kd d h1 h2 g⟩⟩,rfl,hz,.inl ⟨_,by rw[B rfl]⟩⟩
  |ro w y A z2=>simp only[arr,rdC,Option.some.injEq,Prod.mk.injEq]at hb;obtain⟨rfl,rfl,rfl⟩:=hb;exact⟨_,w,y,z,a _ _ hF,⟨hn,hz,hr,fun r k row d h1 h2=>⟨x r k,hx r k row d h1 h2,fun kd g=>hp' r k row kd d h1 h2 g⟩⟩,rfl,hz,.inr ⟨_,_,rfl,hc.2.1 rfl⟩⟩
  |_=>simp[arr,rdC]at hb
def Hr {e size n:Nat}(M:1<=size){a:SV}{v:Aw}(ha:VD P U τ F a v){src:Src}{news:Af}(d:n6 P U τ F e size src news)(g:news.length=n*size)(D:(src.cnt size).toI U=n)(hs:SD P U τ F s hp):OKh P U (sapp P U e size a src) τ F s hp (lT P U hp e size n news v):=by
 have J:∀src,n6 P U τ F e size src news->(src.cnt size).toI U=n->(∀l,src= .lit l->l≠ [])->OKh P U (c6 (n5 U (A7 (src.cnt size) (.int 67108865))) fun _=>W1 e size src (src.cnt size)) τ F s hp (lT P U hp e size n news (.slice none 0 0)):=by
  intro src d D V;refine Mb Mh fun _ s1 _ hs1 p1=>?_;have p1:=H8 p1;rw[D]at p1;simp only[E1]at p1;have hn:n<=67108864:=by omega
  cases src with
  |lit l=>
   have hl:l.length=n*size:=by rw[<-g];exact d.1
   have G:n≠0:=by intro h;rw[h,Nat.zero_mul]at hl;exact V l rfl (List.eq_nil_of_length_eq_zero hl)
   exact(J9 d D hn hs1).mono fun c τ' F' hp' _ _ ⟨h1,h2⟩=>⟨_,by rw[J1 hn,s7 G,cond_false,h1],h2⟩
  |rows L=>
   refine(ve d g D (mj M d g) hn hs1).mono fun c τ' F' hp' _ _ h=>?_;rcases h with⟨h0,h1,h2⟩| ⟨h0,h1,h2⟩
   ·exact⟨_,by rw[J1 hn,l6 h0,cond_true,h1],h2⟩
   ·exact⟨_,by rw[J1 hn,s7 h0,cond_false,h1],h2⟩
 unfold sapp;split
 ·
  cases ha;split
  ·have hv:news=[]:=List.eq_nil_of_length_eq_zero d.1.symm;subst hv;have G:n=0:=by
    rcases Nat.eq_zero_or_pos n with h|h
    ·exact h
    ·have:=Nat.mul_le_mul h M;simp at g;omega
   subst G;exact Mf ⟨.slice none 0 0,by rw[J1 (by omega)];rfl,.nils⟩
  ·rename_i V;exact J _ d D fun l hl h=>by subst h;exact V hl
 ·
  rename_i b z off len cap;cases hq:Nat.beq z size&&src.one with
  |false=>exact Md|true=>
   simp only[cond_true];simp only[Bool.and_eq_true,Nat.beq_eq]at hq;obtain⟨rfl,H⟩:=hq;have B:=d.ones H;refine Me ?_;split
   ·rename_i l e' z' hb;split
    ·rename_i C r m;cases hq:Nat.beq e e'&&Nat.beq z z'&&decide (0<=C)&&decide (0<=r)&&Nat.ble ((C.toNat+r.toNat)*z) l.length&&Nat.ble (r.toNat+m.length/z) 67108864&&Nat.beq (m.length/z*z) m.length with
     |false=>exact Md|true=>
      simp only[cond_true];simp only[Bool.and_eq_true,Nat.beq_eq,decide_eq_true_eq,Nat.ble_eq]at hq;obtain⟨⟨⟨⟨⟨⟨rfl,rfl⟩,q1⟩,q2⟩,q3⟩,q4⟩,q5⟩:=hq;have T:m.length=n*z:=by rw[<-g];exact d.1
      have au:m.length/z=n:=by rw[T];exact Nat.mul_div_cancel _ M
      rw[au]at q4⊢;rw[Nat.add_mul]at q3;rcases hs.live b _ hb with⟨i,o,y,k1,k2,kF,cs,k,rfl,k4,k5⟩| ⟨k1,L',e',z',bc,k2,k3,k4,k5⟩
      ·cases ha with
       |sl0 _ _ _ _ _ N h0 h1 hc=>rw[k1]at N;cases N
       |sl _ _ _ _ _ i' o' c N h0 h1 hc=>
        rw[k1]at N;simp only[Option.some.injEq,Prod.mk.injEq]at N;obtain⟨rfl,rfl⟩:=N;have Y:(E.int C).toN U=C.toNat:=rfl;have W:(E.int r).toN U=r.toNat:=rfl;obtain⟨vs,v1,v2,v3⟩:=i8 (c:=cs) (R:=fun j x=>∀a,((l.drop (C.toNat*z)).take (r.toNat*z))[j]? =some a->VD P U τ F a x) (r.toNat*z) (o+C.toNat*z) 0 fun j hj=>by
         have aj:C.toNat*z+j<l.length:=by omega
         obtain⟨x,w1,w2⟩:=k5 (C.toNat*z+j) _ (List.getElem?_eq_getElem aj);refine⟨x,by rw[<-w1];congr 1;omega,fun a ha=>?_⟩;rw[Nat.zero_add,List.getElem?_take,if_pos hj,List.getElem?_drop]at ha;rw[show l[C.toNat*z+j]? =some l[C.toNat*z+j] by simp[aj],Option.some.injEq]at ha;rw[<-ha];exact w2
        have ai:((l.drop (C.toNat*z)).take (r.toNat*z)).length=r.toNat*z:=by simp;omega
        have ay:VDL P U τ F ((l.drop (C.toNat*z)).take (r.toNat*z)) vs:=⟨by rw[ai,v2],fun j a x ha hx=>v3 j x hx a (by rw[Nat.zero_add];exact ha)⟩
        have K:n6 P U τ F e z (.lit ((l.drop (C.toNat*z)).take (r.toNat*z)++m)) (vs++news):=ay.append d;have A:(E.int ((r.toNat+n:Nat):Int)).toI U=((r.toNat+n:Nat):Int):=rfl;have ah:o+C.toNat*z+r.toNat*z<=k:=by omega
        rw[Y,W];split
        ·obtain⟨lo,rfl,c1,c2⟩:=hc;exact wu (fun _ h=>h) hb k1 k2 v1 ah B g c1 q4 K A hs
        ·exact Md
        ·rename_i c0;obtain⟨c1,rfl,c3,c4⟩:=hc;have ba:c0.toI U=((c0.toN U:Nat):Int):=by show c0.toI U=((c0.toI U).toNat:Int);omega
         have c4:r<=c0.toI U:=c4;refine Mb OKp.test fun t s4 o4 aw ht=>?_;rw[E4,A]at ht;cases t with
         |true=>simp only[decide_eq_true_eq]at ht;simp only[cond_true];exact yp k2 v1 ah B c3 (by omega) (by omega) q4 K A aw|false=>
          simp only[decide_eq_false_iff_not]at ht;simp only[cond_false];cases hr:Nat.ble ((C.toNat+r.toNat)*z+m.length) l.length with
          |false=>exact Md|true=>
           simp only[cond_true];have hr:=Nat.le_of_ble_eq_true hr;rw[Nat.add_mul,T]at hr;obtain⟨mm,m1,m2,m3⟩:=CF (e0:=e) (q:=o+C.toNat*z) (c:=c0.toN U) k2 B g c3 (by omega) (show r.toNat+n<=c0.toN U by omega) q4 (by rw[Nat.add_mul];omega);have hb4:s4.get b=some (.cells l e z):=by rw[o4.get];exact hb
           refine(Mc (x':= .cells (P1 l ((C.toNat+r.toNat)*z) m) e z) (m:=mm) hb4 k1 m2 m3 ⟨_,k,rfl,?_,fun j a ha=>?_⟩ (by intro c _ _ c' Y _ _ az n1 hg;cases Y;rw[k2]at hg;cases hg;exact⟨_,rfl,fun j hj=>by rw[f6,if_neg (by omega)]⟩)).bind fun _ τ2 F2 s6 hp2 _ bb ⟨w1,w2,w3⟩=>?_
           ·unfold P1;simp only[List.length_append,List.length_take,List.length_drop,Nat.add_mul];omega
           ·unfold P1 at ha;rw[Nat.add_mul]at ha;have et:(l.take (C.toNat*z+r.toNat*z)).length=C.toNat*z+r.toNat*z:=by simp;omega
            rw[f6];by_cases hj:C.toNat*z+r.toNat*z<=j/\j<C.toNat*z+r.toNat*z+news.length
            ·rw[if_pos (by omega)];rw[List.append_assoc,List.getElem?_append_right (by omega),List.getElem?_append_left (by rw[et,T,<-g];omega),et]at ha;obtain⟨w,w1,w2⟩:=VDL.get d ha;exact⟨w,by rw[<-w1];congr 1;omega,w2⟩
            ·rw[if_neg (by omega)];by_cases ap:j<C.toNat*z+r.toNat*z
             ·rw[List.append_assoc,List.getElem?_append_left (by omega),List.getElem?_take,if_pos ap]at ha;exact k5 j a ha
             ·rw[List.append_assoc,List.getElem?_append_right (by omega),et,List.getElem?_append_right (by rw[T,<-g];omega),List.getElem?_drop]at ha;refine k5 j a ?_;rw[<-ha];congr 1;rw[T,<-g];omega
           ·subst w1;subst w2;refine Mf ⟨.slice (some ⟨i,o+C.toNat*z,none⟩) (r.toNat+n) (c0.toN U),by rw[w3];exact m1,VD.sl' k1 h0 (by rw[A];omega) ⟨c1,rfl,c3,by rw[A];omega⟩ rfl rfl⟩
      ·cases k2
    ·refine(mP hs).bind fun _ τ1 F1 s1 hp1 ex hs1 ⟨Y,W,e3⟩=>?_;subst Y;subst W;subst e3;exact kK M ha d g B hs1
   ·exact kK M ha d g B hs
   ·exact Md
 ·
  rename_i e' L;cases hq:Nat.beq e e'&&Nat.beq size (kf P e).length&&src.one with
  |false=>exact Md|true=>
   simp only[cond_true];simp only[Bool.and_eq_true,Nat.beq_eq]at hq;obtain⟨⟨rfl,aq⟩,H⟩:=hq;have B:=d.ones H;have ao:=ha;cases ha with
   |lst _ _ _ _ hv hc=>
    obtain⟨ad,l,rfl⟩:=hc rfl;refine Mb OKp.test fun t s1 o1 hs1 ht=>?_;rw[N8,D]at ht;simp only[E1]at ht;have ae:(dS L).toR U=L.toR U:=by show((dS L).den U).rows=_;rw[ig];rfl
    have aa:=Gx hv;have ak:=hv.nil_or;cases t with
    |true=>
     have G:n=0:=by have:=of_decide_eq_true ht;omega
     subst G;have V:news=[]:=List.eq_nil_of_length_eq_zero (by rw[g];simp);subst V;simp only[cond_true];refine Mb Mh fun _ s2 _ av p1=>Mf ⟨.slice ad l l,?_,ao⟩;have p1:=H8 p1;rw[i4]at p1;simp only[E1]at p1;rcases ak with⟨rfl,rfl,_⟩| ⟨i,o,rfl⟩
     ·rw[J1 (by omega)];rfl
     ·obtain⟨b,cs,k,z2,g1,g2,g3,g4,⟨W,rfl⟩| ⟨W,z3,rfl,g5⟩⟩:=q7.of_PV (hp:=hp) hv hs.frz
      ·simp only[T5,g1];rw[show(Nat.ble (l+0) 67108864&&([]:Af).all Value.oneCell')=true by simp only[Bool.and_eq_true,Nat.ble_eq];exact⟨by omega,rfl⟩];simp only[cond_true,l6,Nat.ble_eq_true_of_le (Nat.le_refl l)]
      ·simp only[T5,g1];rw[show(Nat.ble (l+0) 67108864&&Nat.ble l l&& !Nat.ble unk l)=true by simp only[Bool.and_eq_true,Nat.ble_eq,ble_f g5,Bool.not_false,and_true];exact⟨by omega,Nat.le_refl _⟩];simp only[cond_true,l6]
    |false=>
     have G:n≠0:=by have:=of_decide_eq_false ht;omega
     simp only[cond_false];refine(zS d hs1).bind fun Ln τ1 F1 s2 hp1 ex av ⟨Y,W,O⟩=>?_;subst Y;subst W;have O:=O aq;have Z:=mj M O g;refine Mb Mh fun _ s3 o3 ac p1=>?_;have p1:=H8 p1;rw[m9,i4,i4,Z]at p1;simp only[E1]at p1;have ax:=hv.mono P ex.f;rcases ak with⟨rfl,rfl,hd⟩| ⟨i,o,rfl⟩
     ·have hL:L.toR U=[]:=by injection hd
      have Q:(V1 (dS L) Ln).toR U=Ln.toR U:=by rw[aX,ae,hL];rfl
      obtain⟨q1,q2,q3,q4⟩:=O;have X:n6 P U τ1 F1 e size (.rows (V1 (dS L) Ln)) news:=⟨q1,by rw[Q];exact q2,by rw[Q];exact q3,by rw[Q];exact q4⟩
      refine(J9 X (n:=n) (by rw[m9,i4,i4,hL,Z];simp) (by omega) ac).mono fun c τ' F' hp' _ _ ⟨h1,h2⟩=>⟨_,by rw[J1 (by omega),s7 G,cond_false,h1],h2⟩
     ·obtain⟨b,cs,k,z2,g1,g2,g3,g4,al⟩:=q7.of_PV (hp:=hp1) ax ac.frz;have ez:z2=size:=by omega
      subst ez;have ab:Sx.part (L.toR U) 0 (L.toR U).length=L.toR U:=by simp[Sx.part]
      obtain⟨vs,v1,v2,v3,v4⟩:=R6 (U:=U) (τ:=τ1) g2 (off:=0) (len:=(L.toR U).length) (Int.le_refl 0) (by omega) (by omega) (L:=dS L) (by rw[ae,ab]);have e0:(0:Int).toNat*z2=0:=by simp
      rw[e0,Nat.add_zero,Int.toNat_natCast]at v1 v2;have K:n6 P U τ1 F1 e z2 (.rows (V1 (dS L) Ln)) (vs++news):=v3.app O;have aa:l<unk:=aa.resolve_left (by simp);refine(J9 K (n:=(L.toR U).length+n) (by rw[m9,i4,i4,Z];omega) (by omega) ac).mono fun c τ' F' hp' _ _ ⟨h1,h2⟩=>⟨_,?_,h2⟩
      rw[<-g3]at v1 v2⊢;rcases al with⟨W,rfl⟩| ⟨W,z3,rfl,g5⟩
      ·simp only[T5,g1];rw[show(Nat.ble (l+n) 67108864&&news.all Value.oneCell')=true by simp only[Bool.and_eq_true,Nat.ble_eq];exact⟨by omega,B⟩];simp only[cond_true,s7 G,cond_false,ble_f aa,ble_f (show l<l+n by omega),Nat.ble_eq_true_of_le v2,v1,h1]
      ·simp only[T5,g1];rw[show(Nat.ble (l+n) 67108864&&Nat.ble l l&& !Nat.ble unk l)=true by simp only[Bool.and_eq_true,Nat.ble_eq,ble_f g5,Bool.not_false,and_true];exact⟨by omega,Nat.le_refl _⟩];simp only[cond_true,s7 G,cond_false,ble_f (show l<l+n by omega),Nat.ble_eq_true_of_le v2,v1,h1]
 ·exact Md
end
section
variable (P :Ax)(U:Ab)
def iB (t:Ay)(r:Bc Ba):M SV:=
 match P.underlying t,r with
 |some (.map kt vt),none=>c6 (gv (.map (.op .nil []) kt vt)) fun b=>e8 (.map b)
 |_,_=>a7 "makeMap"
def kI (e:E):E:=match e with| .int n=>.int n|e=>.op .castI [e]
def kS (e:E):E:=match e with| .str l=>.str l|e=>.op .castS [e]
def uZ :List Kd->Au->Bc (Av)
 | [],[]=>some []|p::ps,a::l=>match uZ ps l with
  |some es=>match p,a with
   | .int k,.int k' e=>bif decide (k=k')then some (kI e::es)else none| .str,.str e=>some (kS e::es)|_,_=>none
  |none=>none
 |_,_=>none
def skey (sh:Bool×List Kd)(k:SV):Bc (Av):=bif sh.1 then match k with
  | .agg l=>uZ sh.2 l|_=>none
 else uZ sh.2 [k]
def By :Ag->Bool
 |some (.int _ _)|some (.bool _)|some (.string _)=>true
 |_=>false
def rW (t:Ay)(m k:SV)(ok:Bool):M SV:=
 have _:=P
 a7 "slookup"
def rY (t:Ay)(m k x:SV):M SV:=
 have _:=P
 a7 "smapSet"
def jD (t:Ay)(m k:SV):M SV:=
 have _:=P
 a7 "smapEntry"
def ef (m i x:SV):M SV:=
 have _:=P;have _:=U
 a7 "sentryStore"
end
section
variable {P :Ax}{U:Ab}{τ:Tau}{F:Ac}{s:SS}{hp:Hp}
def vd {t:Ay}(hs:SD P U τ F s hp):OKh P U (iB P t none) τ F s hp fun a τ' F' hp'=>(∃kt vt,P.underlying t=some (.map kt vt))/\hp'=(hp.add ⟨.map [] true,.map,rfl⟩).2/\VD P U τ' F' a (hp.add ⟨.map [] true,.map,rfl⟩).1:=by
 unfold iB;split
 ·rename_i kt vt d _;refine(OKh.alloc (x:= .map (.op .nil []) kt vt) (y:= .map [] true) hs fun τ' _=>⟨rfl,[],true,rfl,rfl,rfl,fun j row e h=>by simp[E.toR,E.den,Sy.den,Dat.rows]at h⟩).bind fun b τ' F' s' hp' _ c ⟨h1,h2,h3⟩=>Mf ?_;subst h1;subst h3;exact⟨⟨kt,vt,d⟩,rfl,.map b hp.nx 0 h2⟩
 ·exact Md
variable {es:List (Aw×Aw)}
def W6.nil {kt vt:Ay}(h:W6 P F kt vt es []):es=[]:=List.eq_nil_of_length_eq_zero h.1
variable (P F) in
def Cu (kt vt:Ay)(e:Aw×Aw)(r:As):Prop:=∃sh ks d,bX P kt=some sh/\fA sh.2 ks=true/\r=ks.map KV.dat++ [d]/\e.1=ri sh ks/\PV P F (kd1 P vt) e.2 d
def W6.cons {kt vt:Ay}{es:List (Aw×Aw)}{r:As}{rows:Rows}(h:W6 P F kt vt es (r::rows)):∃e a,es=e::a/\Cu P F kt vt e r/\W6 P F kt vt a rows:=by
 cases es with
 |nil=>exact absurd h.1 (by simp)|cons e es=>exact⟨e,es,rfl,h.2 0 r e rfl rfl,by have:=h.1;simpa using this,fun j row e' hr he=>h.2 (j+1) row e' hr he⟩
def W6.mk {kt vt:Ay}{e:Aw×Aw}{r:As}{rows:Rows}(h:Cu P F kt vt e r)(h':W6 P F kt vt es rows):W6 P F kt vt (e::es) (r::rows):=by
 refine⟨by simp[h'.1],fun j row e' hr he=>?_⟩;cases j with
 |zero=>cases hr;cases he;exact h
 |succ j=>exact h'.2 j row e' hr he
def Fd (sh:Bool×List Kd)(ks:List KV)(find:List (Aw×Aw)->Nat->Bc (Bc (Nat×Aw))):Prop:=
 (∀i,find [] i=some none)/\ ∀e es i ks',fA sh.2 ks'=true->e.1=ri sh ks'->find (e::es) i=if ks'=ks then some (some (i,e.2))else find es (i+1)
theorem DP (ks:List KV):(ks.map KV.dat).map Dat.kv=ks:=by
 rw[List.map_map];have:Dat.kv∘KV.dat=id:=funext fun k=>by cases k<;>rfl
 simp_all
def dQ :∀ {ps:List Kd} {ks:List KV},fA ps ks=true->ks.length=ps.length
 | [],[],_=>rfl|p::ps,k::ks,h=>by unfold fA at h;rw[Bool.and_eq_true]at h;simp[dQ h.2]| [],_::_,h=>by cases h
 |_::_,[],h=>by cases h
theorem eI {kt vt:Ay}{sh:Bool×List Kd}(hk:bX P kt=some sh){ks:List KV}(hl:fA sh.2 ks=true){find:List (Aw×Aw)->Nat->Bc (Bc (Nat×Aw))}(hf:Fd sh ks find){x:Aw}{o:Dat}(hx:PV P F (kd1 P vt) x o)(b:Dat):∀(rows:Rows) (es:List (Aw×Aw)) (i:Nat),W6 P F kt vt es rows->(kw rows ks=false/\find es i=some none/\Q0 rows ks b=b/\aW rows ks=es.length/\W6 P F kt vt (es++ [(ri sh ks,x)]) (aY rows ks o))\/(kw rows ks=true/\ ∃v y,find es i=some (some (i+aW rows ks,v))/\PV P F (kd1 P vt) v (Q0 rows ks b)/\es[aW rows ks]? =some y/\y.2=v/\W6 P F kt vt (es.set (aW rows ks) (ri sh ks,x)) (aY rows ks o))
 | [],es,i,h=>by have:=h.nil;subst this;exact .inl ⟨rfl,hf.1 i,rfl,rfl,.mk ⟨sh,ks,o,hk,hl,rfl,rfl,hx⟩ ⟨rfl,fun j row e h=>by simp at h⟩⟩|r::rows,es,i,h=>by
  obtain⟨e,w,rfl,⟨N,a,d,h1,h2,rfl,h3,h4⟩,h5⟩:=h.cons;rw[hk]at h1;cases h1;have hs:=hf.2 e w i a h2 h3;have L:a.length=ks.length:=(dQ h2).trans (dQ hl).symm;have g:rh ks.length (a.map KV.dat++ [d])=a:=by unfold rh;rw[List.take_left' (by rw[List.length_map];omega),DP]
  have B:(a.map KV.dat++ [d]).getD ks.length (.int 0)=d:=by grind
  by_cases c:a=ks
  ·subst c;rw[if_pos rfl]at hs;have A:aW ((a.map KV.dat++ [d])::rows) a=0:=by simp[aW,g]
   refine .inr ⟨by simp[kw,g],e.2,e,by rw[A];exact hs,?_,by rw[A];rfl,rfl,?_⟩
   ·simp only[Q0,g,if_true,B];exact h4
   ·rw[A];simp only[aY,g,if_true,List.set_cons_zero];exact .mk ⟨sh,a,o,hk,hl,rfl,rfl,hx⟩ h5
  ·rw[if_neg c]at hs;have G:kw ((a.map KV.dat++ [d])::rows) ks=kw rows ks:=by simp[kw,g,c]
   have H:Q0 ((a.map KV.dat++ [d])::rows) ks b=Q0 rows ks b:=by simp[Q0,g,c]
   have J:aY ((a.map KV.dat++ [d])::rows) ks o=(a.map KV.dat++ [d])::aY rows ks o:=by simp[aY,g,c]
   have K:aW ((a.map KV.dat++ [d])::rows) ks=aW rows ks+1:=by simp[aW,g,c]
   rw[G,H,J,K];have hc:Cu P F kt vt e (a.map KV.dat++ [d]):=⟨sh,a,d,hk,h2,rfl,h3,h4⟩
   rcases eI hk hl hf hx b rows w (i+1) h5 with⟨q1,q2,C,E,D⟩| ⟨q1,v,y,q2,C,E,M,D⟩
   ·exact .inl ⟨q1,by rw[hs];exact q2,C,by rw[E];rfl,.mk hc D⟩
   ·exact .inr ⟨q1,v,y,by rw[hs,q2,show i+1+aW rows ks=i+(aW rows ks+1) by omega],C,E,M,.mk hc D⟩
def IT (ik k:IntKind)(n:Int):Fd (false,[.int k]) [.i n] (kR (.int ik) (.int k n)):=by
 refine⟨fun i=>rfl,fun e es i a hl he=>?_⟩
 match a,hl with
 | [.i n'],_=>
  have he:e.1= .int k n':=he;have hs:vX (.int ik) (.int k n) e.1=some (decide (n=n')):=by rw[he];simp[vX]
  by_cases c:n=n'
  ·subst c;rw[if_pos rfl];simp only[kR,hs,decide_true]
  ·rw[if_neg (fun h=>by cases h;exact c rfl)];simp only[kR,hs,decide_eq_false c]
def rj {d:Nat}:∀ {E:List Field} {o:Nat} {ps:List Kd} {pre pre':Af} {ks g:List KV},mJ P o E=some ps->pre.length=o->pre'.length=o->fA ps ks=true->fA ps g=true->oh P (xeq P (d+1)) (pre++bU ps ks) (pre'++bU ps g) E=some (decide (ks=g))/\fR P (pre++bU ps ks) E=true/\(ks=g->oD (bU ps g) (bU ps ks)=true)
 | [],o,ps,pre,pre',ks,g,hp,h1,h2,w,y=>by
  cases hp;cases ks with
  |nil=>
   cases g with
   |nil=>exact⟨rfl,rfl,fun _=>rfl⟩|cons=>cases y
  |cons=>cases w
 |f::E,o,ps,pre,pre',ks,g,hp,h1,h2,w,y=>by
  unfold mJ at hp;cases C:Nat.beq f.offset o with
  |false=>rw[C]at hp;cases hp
  |true=>
   rw[C,cond_true]at hp;have C:=Nat.eq_of_beq_eq_true C;split at hp
   ·rename_i k hk;split at hp
    ·rename_i r B;cases hp;cases ks with
     |nil=>cases w
     |cons a ks=>
     cases g with
     |nil=>cases y
     |cons b g=>
     unfold fA at w y;rw[Bool.and_eq_true]at w y;obtain⟨J,K,L⟩:=rj (d:=d) (pre:=pre++ [kv1 k a]) (pre':=pre'++ [kv1 k b]) B (by simp[h1]) (by simp[h2]) w.2 y.2;rw[List.append_assoc,List.append_assoc]at J;rw[List.append_assoc]at K;have A:∀(q:Af) x l,q.length=o->(q++x::l)[f.offset]? =some x:=fun q x l h=>by rw[List.getElem?_append_right (by omega),C,h,Nat.sub_self];rfl
     unfold Iu at hk;cases hn:f.name== "_" with
     |true=>rw[hn]at hk;cases hk
     |false=>
      rw[hn,cond_false]at hk;have M:bU (k::r) (a::ks)=kv1 k a::bU r ks:=rfl;have N:bU (k::r) (b::g)=kv1 k b::bU r g:=rfl;rw[M,N];split at hk<;>cases hk
      ·rename_i k D
       match a,b,w.1,y.1 with
       | .i m,.i n,_,_=>
        refine⟨?_,?_,fun e=>?_⟩
        ·simp only[oh,hn,cond_false,bJ,D,R8,A _ _ _ h1,A _ _ _ h2,kv1,xeq,decide_true,cond_true];by_cases c:m=n
         ·subst c;simp only[decide_true];exact J.trans (by simp)
         ·simp[c]
        ·simp only[fR,bJ,D,R8,cond_false,A _ _ _ h1,kv1,rf,Bool.true_and];exact K
        ·obtain⟨G,H⟩:=List.cons.inj e;cases G;simp only[kv1,oD,decide_true,Bool.true_and];exact L H
      ·rename_i D
       match a,b,w.1,y.1 with
       | .s m,.s n,_,_=>
        refine⟨?_,?_,fun e=>?_⟩
        ·simp only[oh,hn,cond_false,bJ,D,R8,A _ _ _ h1,A _ _ _ h2,kv1,xeq];by_cases c:m=n
         ·subst c;simp only[beq_self_eq_true];exact J.trans (by simp)
         ·rw[show(m==n)=false by simp[c]];simp[c]
        ·simp only[fR,bJ,D,R8,cond_false,A _ _ _ h1,kv1,rf,Bool.true_and];exact K
        ·obtain⟨G,H⟩:=List.cons.inj e;cases G;simp only[kv1,oD,beq_self_eq_true,Bool.true_and];exact L H
    ·cases hp
   ·cases hp
variable {ks:List KV}
theorem AU {kt:Ay}{g:Array Field}{ps:List Kd}(w:P.underlying kt=some (.struct g))(o:P.stoodInHeld kt=false)(hp:mJ P 0 g.toList=some ps)(hl:fA ps ks=true):Fd (true,ps) ks (cT P kt (.agg (bU ps ks).toArray)):=by
 refine⟨fun i=>rfl,fun e es i a b he=>?_⟩;have he:e.1= .agg (bU ps a).toArray:=he;obtain⟨y,_,r⟩:=rj (d:=9998) (pre:=[]) (pre':=[]) hp rfl rfl hl b;have hq:xeq P 10000 kt (.agg (bU ps ks).toArray) e.1=some (decide (ks=a)):=by rw[he];show xeq P (9999+1) kt _ _=_;unfold xeq;grind
 by_cases c:ks=a
 ·have hb:xsb e.1 (.agg (bU ps ks).toArray)=true:=by rw[he];exact r c
  rw[if_pos c.symm];rw[decide_eq_true c]at hq;simp only[cT,hq,hb,cond_true]
 ·rw[if_neg (fun h=>c h.symm)];simp only[cT,hq,decide_eq_false c]
variable {sh:Bool ×List Kd}
theorem Dt {kt:Ay}{d:TypeDesc}(hd:P.underlying kt=some d)(hk:bX P kt=some sh)(hl:fA sh.2 ks=true):∃find,Fd sh ks find/\ ∀es,Y7 P kt d (ri sh ks) es=find es 0:=by
 unfold bX at hk;rw[hd]at hk;split at hk
 ·rename_i k a;cases a;cases hk
  match ks,hl with
  | [.i n],_=>exact⟨_,IT k k n,fun es=>rfl⟩
 ·rename_i c a;cases a;cases b:P.stoodInHeld kt with
  |true=>grind|false=>
   rw[b,cond_false]at hk;split at hk
   ·rename_i ps hp;cases hk;refine⟨_,AU hd b hp hl,fun es=>?_⟩;show(bif fR P (bU ps ks).toArray.toList c.toList then cT P kt (.agg (bU ps ks).toArray) es 0 else none)=_;have:=(rj (d:=0) (pre:=[]) (pre':=[]) hp rfl rfl hl hl).2.1;grind
   ·cases hk
 ·cases hk
def kI_kv (e:E):((kI e).den U).kv= .i (e.toI U):=by unfold kI;split<;>rfl
def kS_kv (e:E):((kS e).den U).kv= .s (e.den U).toStr:=by unfold kS;split<;>rfl
theorem nD :∀ {ps:List Kd} {l:Au} {xs:Af} {ks:Av},VDL P U τ F l xs->uZ ps l=some ks->xs=bU ps (ks.map fun e=>(e.den U).kv)/\fA ps (ks.map fun e=>(e.den U).kv)=true
 | [],[],xs,ks,b,h=>by cases h;exact⟨List.eq_nil_of_length_eq_zero b.1.symm,rfl⟩
 | [],_::_,xs,ks,b,h=>by cases h
 |_::_,[],xs,ks,b,h=>by cases h
 |p::ps,a::l,xs,ks,b,h=>by
  obtain⟨x,xs,rfl,h1,h2⟩:=b.uncons;unfold uZ at h;split at h
  ·rename_i es he;obtain⟨k1,k2⟩:=nD h2 he;split at h
   ·rename_i k k' e;cases hc:decide (k=k')with
    |false=>grind|true=>rw[hc]at h;have hc:=of_decide_eq_true hc;subst hc;cases h;cases h1;simp only[List.map_cons,kI_kv];exact⟨by rw[k1];rfl,k2⟩
   ·cases h;cases h1;simp only[List.map_cons,kS_kv];exact⟨by rw[k1];rfl,k2⟩
   ·cases h
  ·cases h
variable {k:SV}
def Hv {v:Aw}{ks:Av}(hk:VD P U τ F k v)(h:skey sh k=some ks):v=ri sh (ks.map fun e=>(e.den U).kv)/\fA sh.2 (ks.map fun e=>(e.den U).kv)=true:=by
 obtain⟨b,ps⟩:=sh;unfold skey at h;cases b with
 |true=>
  simp only[cond_true]at h;split at h
  ·cases hk with
   |agg l xs h1 h2=>obtain⟨k1,k2⟩:=nD ⟨h1,h2⟩ h;exact⟨by rw[k1];rfl,k2⟩
  ·cases h
 |false=>simp only[cond_false]at h;obtain⟨k1,k2⟩:=nD (MB hk MC) h;exact⟨by show v=(bU ps _).headD undef;rw[<-k1];rfl,k2⟩
variable {m:SV}
def xA {t:Ay}{mv kv:Aw}{ok:Bool}(hm:VD P U τ F m mv)(hk:VD P U τ F k kv)(hs:SD P U τ F s hp):OKh P U (rW P t m k ok) τ F s hp fun a τ' F' hp'=>hp'=hp/\ ∃v,J6 P hp t mv kv ok=some v/\VD P U τ' F' a v:=by unfold rW;exact Md
variable {xv:Aw}
def xB {t:Ay}{x:SV}{mv kv:Aw}(hm:VD P U τ F m mv)(hk:VD P U τ F k kv)(hx:VD P U τ F x xv)(hs:SD P U τ F s hp):OKh P U (rY P t m k x) τ F s hp fun a _ _ hp'=>a= .tup []/\fm P hp t mv kv xv=some hp':=by unfold rY;exact Md
def rX {t:Ay}{mv kv:Aw}(hm:VD P U τ F m mv)(hk:VD P U τ F k kv)(hs:SD P U τ F s hp):OKh P U (jD P t m k) τ F s hp fun a τ' F' hp'=>∃v,R4 P hp t mv kv=some (v,hp')/\VD P U τ' F' a v:=by unfold jD;exact Md
def nz {x:SV}{mv kv:Aw}(hm:VD P U τ F m mv)(hk:VD P U τ F k kv)(hx:VD P U τ F x xv)(hs:SD P U τ F s hp):OKh P U (ef P U m k x) τ F s hp fun a _ _ hp'=>a= .tup []/\T7 hp mv kv xv=some hp':=by unfold ef;exact Md
end
end Go.Sx
namespace Go.Sx
open Go.Xe
structure G8 where
 run:Az->Au->M SV
 round:Ah->Au->Az->Nat->Ah->Code->Code->Au->M SV
def xC (P:Ax)(t:Ay)(x:SV):M SV:=match P.underlying t,x with
 |some .string,.str e=>c6 (gv (.iter e (.int 0))) fun b=>e8 (.ptr b 1 (.int 0) 0)
 |_,_=>a7 "range"
def Fq (U:Ab)(isS:Bool)(it:SV):M SV:=match isS,it with
 | true, .ptr b _ (.int m) f => bif decide (m = 0) && Nat.beq f 0 then o8 fun s => match s.get b with
   | some (.iter str pos) => c6 (ij U (A7 pos (gm str))) fun t =>
     bif t then c6 (jn b (some (.iter str (A6 pos (.op .srw [str,pos]))))) fun _=>e8 (.tup [.bool (.bool true),.int .i64 pos,.int .i32 (.op .srune [str,pos])])
     else e8 (.tup [.bool (.bool false)])
   |_=>a7 "next: no iterator"
  else a7 "next"
 |_,_=>a7 "next"
def BT (f:Fm):Bc Ba->Bc (Bc SV)
 |none=>some none|some x=>match i6 f x with
  |some v=>some (some v)|none=>none
def wO (s i:E):E:=match s,i with
 | .str l,.int n=>match l[n.toNat]? with
  |some b=>.int b.toNat|none=>.op .sidx [s,i]
 |s,i=>.op .sidx [s,i]
section
variable (P :Ax)(U:Ab)
def xz (t:Ay)(x i:SV):M SV:=
 match i with
 | .int _ n=>match P.underlying t with
  |some .string=>match x with
   | .str s=>c6 (n5 U (z9 (A7 n (.int 0)))) fun _=>c6 (n5 U (A7 n (gm s))) fun _=>e8 (.int .u8 (wO s n))
   |_=>a7 "index: string"
  |some (.array len e)=>match x,n with
   | .agg cs, .int m => bif decide (0 ≤ m) && decide (m < len) then
     match P.info? e with
     |some ie=>fB "index" (qa P e cs (m.toNat*ie.size))|none=>a7 "index: type"
    else a7 "index: beyond"
   |_,_=>a7 "index: array"
  |_=>a7 "index: type"
 |_=>a7 "index: no int"
def pY (x:SV):M SV:=
 match x with
 | .ptr b z row fld=>e8 (.ptr b z row fld)| .pptr t L row fld=>e8 (.pptr t L row fld)| .fn (.func f) a b=>e8 (.fn (.func f) a b)|_=>a7 "nil"
def uO (b:Builtin)(ats:List Ay)(args:Au):M SV:=
 match b,ats,args with
 | .append,[t,u],[s,x]=>zD P U t u s x| .len,[t],[x]=>slen P t x| .cap,[t],[x]=>scap P t x| .min,_,x::xs=>BP U false x xs| .max,_,x::xs=>BP U true x xs|_,_,_=>a7 "builtin"
def zH (call:G8)(f:SV)(args:Au):M SV:=
 match f with
 | .fn (.func g) first captured=>match P.funcs[g]? with
  |some fn=>bif cC fn then call.run g (first++args++captured)else a7 "call: no body"|none=>a7 "call: no function"
 | .yld ks vs g nt ps as bo=>call.round ks vs g nt ps as bo args|_=>a7 "call: value"
def sop (call:G8)(f:Fm)(o:Op):M SV:=
 match o with
 | .move x=>fB "move" (i6 f x)| .assign x=>fB "assign" (i6 f x)| .pick c a b=>match i6 f c with
  |some (.bool e)=>c6 (ij U e) fun t=>bif t then fB "pick" (i6 f a)else fB "pick" (i6 f b)
  |_=>a7 "pick"
 | .alloc e=>match kP P e with
  |some l=>sbox e l|none=>a7 "alloc"
 | .box e x=>match i6 f x with
  |some v=>match B5 v with
   |some l=>sbox e l|none=>a7 "box"
  |none=>a7 "box"
 | .build t parts=>match eh f parts.toList with
  |some ps=>fB "build" (xp P t ps)|none=>a7 "build"
 | .buildSlice t len parts=>match eh f parts.toList with
  |some ps=>dZ P t len ps|none=>a7 "buildSlice"
 | .load t a=>match i6 f a with
  |some v=>zQ P U t v|none=>a7 "load"
 | .store t a x=>match i6 f a with
  |some v=>match i6 f x with
   |some u=>xG P U t v u|none=>a7 "store"
  |none=>a7 "store"
 | .nilCheck x=>match i6 f x with
  |some v=>pY v|none=>a7 "nil"
 | .binOp op t x y _=>match i6 f x with
  |some v=>match i6 f y with
   |some u=>Fa P U op t v u|none=>a7 "binOp"
  |none=>a7 "binOp"
 | .unOp op _ x=>match i6 f x with
  |some v=>sun U op v|none=>a7 "unOp"
 | .convert s d x=>match i6 f x with
  |some v=>Fe P U s d v|none=>a7 "convert"
 | .makeInterface t x=>match i6 f x with
  |some v=>fB "interface" (xw P t v)|none=>a7 "interface"
 | .makeFunc fn first captured=>match uW f first.toList with
  |some fs=>match uW f captured.toList with
   |some cs=>e8 (.fn fn fs cs)|none=>a7 "makeFunc"
  |none=>a7 "makeFunc"
 | .makeSlice t l c=>match i6 f l with
  |some v=>match i6 f c with
   |some u=>gz P U t v u|none=>a7 "makeSlice"
  |none=>a7 "makeSlice"
 | .slice t x lo hi mx=>match i6 f x with
  |some v=>match BT f lo with
   |some l=>match BT f hi with
    |some h=>match BT f mx with
     |some m=>xF P U t v l h m|none=>a7 "slice"
    |none=>a7 "slice"
   |none=>a7 "slice"
  |none=>a7 "slice"
 | .fieldAddr t x i=>match i6 f x with
  |some v=>fB "fieldAddr" (gx P t v i)|none=>a7 "fieldAddr"
 | .field t x i=>match i6 f x with
  |some v=>fB "field" (xu P t v i)|none=>a7 "field"
 | .indexAddr t x i=>match i6 f x with
  |some v=>match i6 f i with
   |some u=>gy P U t v u|none=>a7 "indexAddr"
  |none=>a7 "indexAddr"
 | .index t x i=>match i6 f x with
  |some v=>match i6 f i with
   |some u=>xz P U t v u|none=>a7 "index"
  |none=>a7 "index"
 | .extract x i=>match i6 f x with
  |some v=>fB "extract" (nB v i)|none=>a7 "extract"
 | .range t x=>match i6 f x with
  |some v=>xC P t v|none=>a7 "range"
 | .makeMap t r=>iB P t r| .lookup t x k ok=>match i6 f x with
  |some v=>match i6 f k with
   |some u=>rW P t v u ok|none=>a7 "lookup"
  |none=>a7 "lookup"
 | .mapEntry t m k=>match i6 f m with
  |some v=>match i6 f k with
   |some u=>jD P t v u|none=>a7 "entry"
  |none=>a7 "entry"
 | .entryStore _ m k x=>match i6 f m with
  |some v=>match i6 f k with
   |some u=>match i6 f x with
    |some y=>ef P U v u y|none=>a7 "entry"
   |none=>a7 "entry"
  |none=>a7 "entry"
 | .mapUpdate t m k x=>match i6 f m with
  |some v=>match i6 f k with
   |some u=>match i6 f x with
    |some y=>rY P t v u y|none=>a7 "map"
   |none=>a7 "map"
  |none=>a7 "map"
 | .next it isS=>match i6 f it with
  |some v=>Fq U isS v|none=>a7 "next"
 | .call c=>match uW f c.args.toList with
  |some args=>match c.callee with
   | .builtin b=>uO P U b c.argTypes.toList args| .value g=>match i6 f g with
    |some v=>zH P call v args|none=>a7 "call"
   |_=>a7 "call: method"
  |none=>a7 "call: operands"
 |_=>a7 "operation"
end
section
variable {P :Ax}{U:Ab}{τ:Tau}{F:Ac}{s:SS}{hp:Hp}{ov:Aa}
def EV (p:Nat->Prop):Prop:=∃n0,∀n,n0<=n->p n
variable {p:Nat->Prop}
def EV.of (h:∀n,p n):EV p:=⟨0,fun n _=>h n⟩
def LX:type_of% @EV.of:=@EV.of
variable {q:Nat->Prop}
def EV.and (h:EV p)(k:EV q):EV fun n=>p n/\q n:=by obtain⟨a,ha⟩:=h;obtain⟨b,hb⟩:=k;exact⟨Nat.max a b,fun n hn=>⟨ha n (Nat.le_trans (Nat.le_max_left a b) hn),hb n (Nat.le_trans (Nat.le_max_right a b) hn)⟩⟩
def EV.mono (h:EV p)(k:∀n,p n->q n):EV q:=by obtain⟨a,ha⟩:=h;exact⟨a,fun n hn=>k n (ha n hn)⟩
variable (P ov) in
def XOp (o:Op)(tm:Ao)(hp:Hp)(v:Aw)(hp':Hp):Prop:=EV fun n=>xop P (exec P ov n) tm hp o=some (v,hp')
variable (P ov) in
def A4 (g:Az)(args:Af)(hp:Hp)(v:Aw)(hp':Hp):Prop:=EV fun n=>(exec P ov n).run g args hp=some (v,hp')
variable (P U ov) in
structure D0 (call:G8):Prop where
 run:∀g l args τ F s hp,VDL P U τ F l args->SD P U τ F s hp->OKh P U (call.run g l) τ F s hp fun a τ' F' hp'=>∃v,A4 P ov g args hp v hp'/\VD P U τ' F' a v
 round:∀ks vs g nt ps as bo l args τ F s hp i,VD P U τ F (.yld ks vs g nt ps as bo) (.chan (some i))->VDL P U τ F l args->SD P U τ F s hp->
  OKh P U (call.round ks vs g nt ps as bo l) τ F s hp fun a τ' F' hp'=>∃v,(EV fun n=>(exec P ov n).round i args hp=some (v,hp'))/\VD P U τ' F' a v
def sb {f:Fm}{tm:Ao}(h:TD P U τ F f tm){o:Bc Ba}{a:Bc SV}(e:BT f o=some a):∃v,cY tm o=some v/\OVD P U τ F a v:=by
 cases o with
 |none=>simp only[BT,Option.some.injEq]at e;subst e;exact⟨none,rfl,trivial⟩|some o=>
  simp only[BT]at e;cases b:i6 f o with
  |none=>simp[b]at e|some a'=>simp only[b,Option.some.injEq]at e;subst e;obtain⟨v,h1,h2⟩:=C0 h b;exact⟨some v,by simp[cY,h1],h2⟩
theorem wP {a i:E}(h0:0<=i.toI U)(h1:i.toI U<(a.den U).toStr.length):(wO a i).toI U=(((a.den U).toStr[(i.toI U).toNat]'(by omega)).toNat:Int):=by
 have c:(E.op .sidx [a,i]).toI U=(((a.den U).toStr[(i.toI U).toNat]'(by omega)).toNat:Int):=by show((((a.den U).toStr.getD (i.toI U).toNat 0).toNat:Nat):Int)=_;grind
 unfold wO;split
 ·rename_i l n;split
  ·rename_i b hb;show(b.toNat:Int)=_;have:l[(E.toI U (.int n)).toNat]? =some b:=hb;rw[List.getElem?_eq_getElem (show(E.toI U (.int n)).toNat<l.length by have:(E.toI U (.int n))<l.length:=h1;omega),Option.some.injEq]at this;rw[<-this];rfl
  ·exact c
 ·exact c
theorem BO {t:Ay}{a b:SV}{v u:Aw}(ha:VD P U τ F a v)(hb:VD P U τ F b u):OKp U (xz P U t a b) s fun c=>∃w,eC P t v u=some w/\VD P U τ F c w:=by
 unfold xz;split
 ·rename_i k n;cases hb;split
  ·rename_i ht;split
   ·rename_i e;cases ha;refine OKp.need.bind fun _ _ _ _ h1=>OKp.need.bind fun _ _ _ _ h2=>Ml ?_;have h1:=eM h1;have h2:=H8 h2;rw[X8]at h2;have hl:(n.toI U).toNat<(e.den U).toStr.length:=by omega
    refine⟨.int .u8 (((e.den U).toStr[(n.toI U).toNat]).toNat:Int),?_,MA (wP h1 h2)⟩;simp only[eC,ht];grind
   ·exact Mg
  ·rename_i len e ht;split
   ·rename_i cs m;cases hq:decide (0<=m)&&decide (m<(len:Int))with
    |false=>exact Mg|true=>
     simp only[cond_true];split
     ·rename_i ie d;obtain⟨xs,rfl,hx⟩:=VDL.of_agg ha;refine Mj fun c hc=>?_;obtain⟨w,h1,h2⟩:=iD hx hc;refine⟨w,?_,h2⟩;simp only[eC,ht];rw[show(decide (0<=(E.int m).toI U)&&decide ((E.int m).toI U<(len:Int)))=true from hq,cond_true,d];exact h1
     ·exact Mg
   ·exact Mg
  ·exact Mg
 ·exact Mg
def OKp.op {m:M SV}{o:Op}{tm:Ao}{x:Ag}(hx:∀n,xop P (exec P ov n) tm hp o=c9 hp x)(h:OKp U m s fun a=>∃v,x=some v/\VD P U τ F a v):OKh P U m τ F s hp fun a τ' F' hp'=>∃v,XOp P ov o tm hp v hp'/\VD P U τ' F' a v:=
 (h.up (P:=P) (τ:=τ) (F:=F) (hp:=hp)).mono fun a τ' F' hp' _ _ ⟨b,c,d,v,h1,h2⟩=>by subst b;subst c;subst d;exact⟨v,LX fun n=>by rw[hx,h1];rfl,h2⟩
def Mi:type_of% @OKp.op:=@OKp.op
variable {x:Aw}
def BU {t:Ay}{v:SV}(g:VD P U τ F v x)(hs:SD P U τ F s hp):OKh P U (xC P t v) τ F s hp fun a τ' F' hp'=>∃n,iU P t x=some n/\hp'=(hp.add n).2/\VD P U τ' F' a (hp.add n).1:=by
 unfold xC;split
 ·rename_i e d;cases g;refine(OKh.alloc (x:= .iter e (.int 0)) (y:= .sit ⟨(e.den U).toStr.toArray⟩ 0) hs fun τ' _=>⟨rfl,0,rfl,rfl⟩).bind fun b τ' F' s' hp' _ c ⟨h1,h2,h3⟩=>Mf ?_;subst h1;subst h3;refine⟨⟨.sit ⟨(e.den U).toStr.toArray⟩ 0,.ptr,rfl⟩,by simp only[iU,d],rfl,?_⟩;exact VD.ptr' h2 (by show(0:Int)<=0;omega) (by show 0=0+(0:Int).toNat*_+0;simp)
 ·exact Md
def Fr {isS:Bool}{v:SV}(c:VD P U τ F v x)(_hs:SD P U τ F s hp):OKh P U (Fq U isS v) τ F s hp fun a τ' F' hp'=>∃u,ot hp x isS=some (u,hp')/\VD P U τ' F' a u:=by
 unfold Fq;split
 ·rename_i b z m f;cases hc:decide (m=0)&&Nat.beq f 0 with
  |false=>exact Md|true=>
   simp only [Bool.and_eq_true, decide_eq_true_eq, Nat.beq_eq] at hc;obtain ⟨rfl,rfl⟩:=hc;rw [cond_true];refine Me ?_;split
   ·rename_i str pos hb;refine Mb OKp.test fun t s1 B hs1 ht=>?_;have d:s1.get b=some (.iter str pos):=by rw[B.get];exact hb
    rcases hs1.live b _ d with⟨i,o,y,k1,k2,k3,rfl,n,rfl,g⟩| ⟨_,L,e,J,ph,h,_⟩
    ·cases c with
     |ptr _ _ _ _ H o' h h0=>
      rw[k1]at h;simp only[Option.some.injEq,Prod.mk.injEq]at h;obtain⟨rfl,rfl⟩:=h;have ha:0+(E.int 0).toN U*z+0=0:=by show 0+(0:Int).toNat*z+0=0;simp
      rw[ha];rw[E4,X8,g]at ht;have hx:ot hp (.pointer (some ⟨i,0,none⟩)) true=bif Nat.blt n (str.den U).toStr.length then
        some (.tuple #[.bool true,.int .i64 n,.int .i32 (Utf8.decode ⟨(str.den U).toStr.toArray⟩ n).1],{hp with m:=hp.m.set i (some (.sit ⟨(str.den U).toStr.toArray⟩ (n+(Utf8.decode ⟨(str.den U).toStr.toArray⟩ n).2)))})
        else some (.tuple #[.bool false],hp):=by
       simp only[ot,k2]
      have hn:pos.toI U=(n:Int):=g;cases t with
      |true=>
       rw[decide_eq_true_eq]at ht;have hlt:Nat.blt n (str.den U).toStr.length=true:=Nat.ble_eq_true_of_le (by omega);rw[hlt,cond_true]at hx;have A:runeW (str.den U).toStr (pos.toI U)=((Utf8.decode ⟨(str.den U).toStr.toArray⟩ n).2:Nat):=by rw[hn];simp[runeW]
       have w:runeAt (str.den U).toStr (pos.toI U)=(Utf8.decode ⟨(str.den U).toStr.toArray⟩ n).1:=by rw[hn];simp[runeAt]
       rw[cond_true];refine OKh.bind (R:=fun _ τ' F' hp'=>τ'=τ/\F'=F/\hp'= {hp with m:=hp.m.set i (some (.sit ⟨(str.den U).toStr.toArray⟩ (n+(Utf8.decode ⟨(str.den U).toStr.toArray⟩ n).2)))}) ?_ fun _ τ2 C s2 hp2 _ _ ⟨D,G,r⟩=>Mf ⟨.tuple #[.bool true,.int .i64 n,.int .i32 (Utf8.decode ⟨(str.den U).toStr.toArray⟩ n).1],?_,?_⟩
       ·intro Q hq _;obtain⟨h1,h2⟩:=hs1.change (x':= .iter str (A6 pos (.op .srw [str,pos]))) d k1 (y:= .sit ⟨(str.den U).toStr.toArray⟩ (n+(Utf8.decode ⟨(str.den U).toStr.toArray⟩ n).2))
         (hp':= {hp with m:=hp.m.set i (some (.sit ⟨(str.den U).toStr.toArray⟩ (n+(Utf8.decode ⟨(str.den U).toStr.toArray⟩ n).2)))}) rfl (fun j hj=>by simp[Mw,hj]) (by simp[Mw])
         ⟨rfl,_,rfl,by rw[m9,hn];show(n:Int)+runeW (str.den U).toStr (pos.toI U)=_;rw[A];omega⟩
        exact⟨(),_,hq,τ,F,_,h1,h2,rfl,rfl,rfl⟩
       ·rw[hx,r]
       ·refine .tup _ [.bool true,.int .i64 n,.int .i32 (Utf8.decode ⟨(str.den U).toStr.toArray⟩ n).1] rfl fun j a v ha c=>?_
        match j,ha,c with
        |0,ha,c=>simp at ha c;subst ha;subst c;exact .bool (.bool true)|1,ha,c=>simp at ha c;subst ha;subst c;exact MA hn|2,ha,c=>simp at ha c;subst ha;subst c;exact MA w|j+3,ha,c=>simp at ha
      |false=>
       rw[decide_eq_false_iff_not]at ht;have hlt:Nat.blt n (str.den U).toStr.length=false:=by
        cases hb:Nat.blt n (str.den U).toStr.length with
        |false=>rfl|true=>exact absurd (by have:=Nat.le_of_ble_eq_true hb;omega) ht
       rw[hlt,cond_false]at hx;rw[cond_false];refine Mf ⟨_,hx,.tup _ [.bool false] rfl fun j a v ha c=>?_⟩
       match j,ha,c with
       |0,ha,c=>simp at ha c;subst ha;subst c;exact .bool (.bool false)|j+1,ha,c=>simp at ha
    ·cases h
   ·exact Md
 ·exact Md
theorem sa {call:G8}(H:D0 P U ov call){f:Fm}{tm:Ao}(ht:TD P U τ F f tm)(hs:SD P U τ F s hp)(o:Op):OKh P U (sop P U call f o) τ F s hp fun a τ' F' hp'=>∃v,XOp P ov o tm hp v hp'/\VD P U τ' F' a v:=by
 have A:=fun{x:Ba} {a:SV} (e:i6 f x=some a)=>C0 (P:=P) (U:=U) ht e;cases o with
 |move x=>exact Mi (x:=a9 tm x) (fun n=>by rw[b9];rfl) (Mj fun a h=>A h)|assign x=>exact Mi (x:=a9 tm x) (fun n=>by rw[b9];rfl) (Mj fun a h=>A h)|pick c a b=>
  simp only[sop];split
  ·rename_i e he;obtain⟨v,h1,h2⟩:=A he;cases h2;refine Mi (x:=bif (e.den U).toBool then a9 tm a else a9 tm b) (fun n=>by rw[b9];simp only[f7,h1];cases(e.den U).toBool<;>rfl) ?_;refine OKp.test.bind fun t _ _ _ h=>?_;rw[h];cases t with
   |true=>exact Mj fun a h=>A h
   |false=>exact Mj fun a h=>A h
  ·exact Md
 |alloc e=>
  simp only[sop];split
  ·rename_i l hl;obtain⟨z,h1,h2⟩:=bF (U:=U) (τ:=τ) (F:=F) hl;refine(zE h2 hs).mono fun a τ' F' hp' _ _ ⟨C,B⟩=>⟨_,LX fun n=>?_,B⟩
   rw[b9];simp only[f7,xnw,cP,h1,G9];rw[(Prod.mk.injEq _ _ _ _).mp C|>.2]
  ·exact Md
 |box e x=>
  simp only[sop];split
  ·rename_i v d;split
   ·rename_i l hl;obtain⟨w,h1,h2⟩:=A d;refine(zE (eT h2 hl) hs).mono fun a τ' F' hp' _ _ ⟨C,B⟩=>⟨_,LX fun n=>?_,B⟩
    rw[b9];simp only[f7,xnw,h1,G9,qm];rw[(Prod.mk.injEq _ _ _ _).mp C|>.2]
   ·exact Md
  ·exact Md
 |build t R=>
  simp only[sop];split
  ·rename_i ps Q;obtain⟨qs,h1,h2⟩:=eW ht Q;exact Mi (x:=R2 P t qs) (fun n=>by rw[b9];simp only[f7,h1]) (Mj fun a h=>BI h2 h)
  ·exact Md
 |buildSlice t len R=>
  simp only[sop];split
  ·rename_i ps Q;obtain⟨qs,h1,h2⟩:=eW ht Q;refine(nu h2 hs).mono fun a τ' F' hp' _ _ ⟨n,C,B,K⟩=>⟨_,LX fun m=>?_,K⟩
   rw[b9];simp only[f7,xnw,h1,C,G9,B]
  ·exact Md
 |makeMap t r=>
  simp only[sop];cases r with
  |some r=>
   unfold iB;split
   ·grind
   ·exact Md
  |none=>
   refine(vd (t:=t) hs).mono fun a τ' F' hp' _ _ ⟨⟨kt,vt,e0⟩,C,B⟩=>⟨_,LX fun m=>?_,B⟩
   rw[b9,C];simp only[f7,xnw,cY,zZ,G9,e0]
 |lookup t x k ok=>
  simp only[sop];split
  ·rename_i v d;split
   ·rename_i u O;obtain⟨w,h1,h2⟩:=A d;obtain⟨y,h3,h4⟩:=A O;refine(xA h2 h4 hs).mono fun c τ' F' hp' _ _ ⟨C,r,B,K⟩=>⟨r,LX fun n=>?_,K⟩
    rw[b9,C];simp only[f7,h1,h3,B,c9]
   ·exact Md
  ·exact Md
 |mapEntry t m k=>
  simp only[sop];split
  ·rename_i v d;split
   ·rename_i u O;obtain⟨w,h1,h2⟩:=A d;obtain⟨w',h3,h4⟩:=A O;refine(rX h2 h4 hs).mono fun c τ' F' hp' _ _ ⟨x,C,B⟩=>⟨x,LX fun n=>?_,B⟩
    rw[b9];simp only[f7,h1,h3,C]
   ·exact Md
  ·exact Md
 |entryStore t m k x=>
  simp only[sop];split
  ·rename_i v d;split
   ·rename_i u O;split
    ·rename_i y hy;obtain⟨w,h1,h2⟩:=A d;obtain⟨w',h3,h4⟩:=A O;obtain⟨ae,h5,V⟩:=A hy;refine(nz h2 h4 V hs).mono fun c τ' F' hp' _ _ ⟨C,B⟩=>⟨undef,LX fun n=>?_,?_⟩
     ·rw[b9];simp only[f7,h1,h3,h5,B]
     ·subst C;exact .tup [] [] rfl (fun i a x h _=>by simp at h)
    ·exact Md
   ·exact Md
  ·exact Md
 |mapUpdate t m k x=>
  simp only[sop];split
  ·rename_i v d;split
   ·rename_i u O;split
    ·rename_i y hy;obtain⟨w,h1,h2⟩:=A d;obtain⟨w',h3,h4⟩:=A O;obtain⟨ae,h5,V⟩:=A hy;refine(xB h2 h4 V hs).mono fun c τ' F' hp' _ _ ⟨C,B⟩=>⟨undef,LX fun n=>?_,?_⟩
     ·rw[b9];simp only[f7,h1,h3,h5,B]
     ·subst C;exact .tup [] [] rfl (fun i a x h _=>by simp at h)
    ·exact Md
   ·exact Md
  ·exact Md
 |load t a=>
  simp only[sop];split
  ·rename_i v d;obtain⟨w,h1,h2⟩:=A d;exact Mi (x:=B0 P hp t w) (fun n=>by rw[b9];simp only[f7,h1]) (vb h2 hs)
  ·exact Md
 |store t a x=>
  simp only[sop];split
  ·rename_i v d;split
   ·rename_i u O;obtain⟨w,h1,h2⟩:=A d;obtain⟨y,h3,h4⟩:=A O;refine(BY h2 h4 hs).mono fun c τ' F' hp' _ _ ⟨C,B⟩=>⟨undef,LX fun n=>?_,?_⟩
    ·rw[b9];simp only[f7,h1,h3,B]
    ·subst C;exact .tup [] [] rfl (fun i a x h _=>by simp at h)
   ·exact Md
  ·exact Md
 |nilCheck x=>
  simp only[sop];split
  ·rename_i v d;obtain⟨w,h1,h2⟩:=A d;unfold pY;split
   ·rename_i b z row fld;cases h2 with
    |ptr _ _ _ _ i o h h0=>exact Mi (x:=some (.pointer (some ⟨i,o+row.toN U*z+fld,none⟩))) (fun n=>by rw[b9];simp only[f7,h1];rfl) (Ml ⟨_,rfl,.ptr b z row fld i o h h0⟩)
   ·rename_i t L row fld;cases h2 with
    |pptr _ _ _ _ i o l c h h0 h3=>exact Mi (x:=some (.pointer (some ⟨i,o+row.toN U*(kf P t).length+fld,none⟩))) (fun n=>by rw[b9];simp only[f7,h1];rfl) (Ml ⟨_,rfl,.pptr t L row fld i o l c h h0 h3⟩)
   ·rename_i g l m;cases h2 with
    |fn _ _ _ xs ys k1 k2 k3 X=>exact Mi (x:=some (.func (.func g) xs.toArray ys.toArray)) (fun n=>by rw[b9];simp only[f7,h1];rfl) (Ml ⟨_,rfl,.fn _ l m xs ys k1 k2 k3 X⟩)
   ·exact Md
  ·exact Md
 |binOp op t x y u=>
  simp only[sop];split
  ·rename_i v d;split
   ·rename_i w hw;obtain⟨a,h1,h2⟩:=A d;obtain⟨b,h3,h4⟩:=A hw;exact Mi (x:=v6 P op t a b) (fun n=>by rw[b9];simp only[f7,h1,h3]) (Fb h2 h4)
   ·exact Md
  ·exact Md
 |unOp op t x=>
  simp only[sop];split
  ·rename_i v d;obtain⟨a,h1,h2⟩:=A d;exact Mi (x:=xun op a) (fun n=>by rw[b9];simp only[f7,h1]) (Js h2)
  ·exact Md
 |convert src dst x=>
  simp only[sop];split
  ·rename_i v d;obtain⟨a,h1,h2⟩:=A d;exact Mi (x:=ew P src dst a) (fun n=>by rw[b9];simp only[f7,h1]) (Ff h2)
  ·exact Md
 |makeInterface t x=>
  simp only[sop];split
  ·rename_i v d;obtain⟨a,h1,h2⟩:=A d;exact Mi (x:=gG P t a) (fun n=>by rw[b9];simp only[f7,h1]) (Mj fun c h=>BN h2 h)
  ·exact Md
 |makeFunc fn first D=>
  simp only[sop];split
  ·rename_i fs ab;split
   ·rename_i cs Y;obtain⟨xs,h1,h2⟩:=lP ht ab;obtain⟨ys,h3,h4⟩:=lP ht Y;exact Mi (x:=some (.func fn xs.toArray ys.toArray)) (fun n=>by rw[b9];simp only[f7,h1,h3];rfl) (Ml ⟨_,rfl,.fn fn fs cs xs ys h2.1 h2.2 h4.1 h4.2⟩)
   ·exact Md
  ·exact Md
 |makeSlice t l c=>
  simp only[sop];split
  ·rename_i v d;split
   ·rename_i w hw;obtain⟨a,h1,h2⟩:=A d;obtain⟨b,h3,h4⟩:=A hw;refine(oP h2 h4 hs).mono fun c τ' F' hp' _ _ ⟨n,C,B,K⟩=>⟨_,LX fun m=>?_,K⟩
    rw[b9];simp only[f7,xnw,h1,h3,C,G9,B]
   ·exact Md
  ·exact Md
 |slice t x lo hi mx=>
  simp only[sop];split
  ·rename_i v d;split
   ·rename_i l hl;split
    ·rename_i h hh;split
     ·rename_i m hm;obtain⟨a,h1,h2⟩:=A d;obtain⟨l',h3,h4⟩:=sb ht hl;obtain⟨h',h5,V⟩:=sb ht hh;obtain⟨m',h7,h8⟩:=sb ht hm;refine(BW h2 h4 V h8 hs).mono fun c τ' F' hp' _ _ ⟨C,w,B,K⟩=>⟨w,LX fun n=>?_,K⟩
      rw[b9,C];simp only[f7,h1,h3,h5,h7,B]
     ·exact Md
    ·exact Md
   ·exact Md
  ·exact Md
 |fieldAddr t x i=>
  simp only[sop];split
  ·rename_i v d;obtain⟨a,h1,h2⟩:=A d;exact Mi (x:=i7 P t a i) (fun n=>by rw[b9];simp only[f7,h1]) (Mj fun c h=>oN h2 h)
  ·exact Md
 |field t x i=>
  simp only[sop];split
  ·rename_i v d;obtain⟨a,h1,h2⟩:=A d;exact Mi (x:=gF P t a i) (fun n=>by rw[b9];simp only[f7,h1]) (Mj fun c h=>BM h2 h)
  ·exact Md
 |indexAddr t x i=>
  simp only[sop];split
  ·rename_i v d;split
   ·rename_i w hw;obtain⟨a,h1,h2⟩:=A d;obtain⟨b,h3,h4⟩:=A hw;exact Mi (x:=j7 P t a b) (fun n=>by rw[b9];simp only[f7,h1,h3]) (oO h2 h4)
   ·exact Md
  ·exact Md
 |index t x i=>
  simp only[sop];split
  ·rename_i v d;split
   ·rename_i w hw;obtain⟨a,h1,h2⟩:=A d;obtain⟨b,h3,h4⟩:=A hw;exact Mi (x:=eC P t a b) (fun n=>by rw[b9];simp only[f7,h1,h3]) (BO h2 h4)
   ·exact Md
  ·exact Md
 |range t x=>
  simp only[sop];split
  ·rename_i v d;obtain⟨w,h1,h2⟩:=A d;refine(BU h2 hs).mono fun a τ' F' hp' _ _ ⟨n,C,B,K⟩=>⟨_,LX fun m=>?_,K⟩
   rw[b9];simp only[f7,xnw,h1,C,G9,B]
  ·exact Md
 |next it isS=>
  simp only[sop];split
  ·rename_i v d;obtain⟨w,h1,h2⟩:=A d;refine(Fr h2 hs).mono fun a τ' F' hp' _ _ ⟨u,C,B⟩=>⟨u,LX fun m=>?_,B⟩
   rw[b9];simp only[f7,h1,C]
  ·exact Md
 |extract x i=>
  simp only[sop];split
  ·rename_i v d;obtain⟨a,h1,h2⟩:=A d;exact Mi (x:=T8 a i) (fun n=>by rw[b9];simp only[f7,h1]) (Mj fun c h=>uX h2 h)
  ·exact Md
 |call c=>
  simp only[sop];split
  ·rename_i l hl;obtain⟨args,h1,h2⟩:=lP ht hl;obtain⟨J,E,ats⟩:=c;have h1:W3 tm E.toList=some args:=h1;cases J with
   |builtin b=>
    simp only;unfold uO;split
    ·rename_i t u a x G;obtain⟨v,vs,rfl,M,N⟩:=h2.uncons;obtain⟨w,ws,rfl,g3,g4⟩:=N.uncons;have:ws=[]:=List.eq_nil_of_length_eq_zero g4.1.symm;subst this;have hx:∀n,xop P (exec P ov n) tm hp (.call ⟨.builtin .append,E,ats⟩)=match y9 P hp t u v w with|some r=>some r|none=>Y6 P hp t u v w:=fun n=>by rw[b9];simp only[f7,h1,G,l8];rfl
     unfold zD;split
     ·rename_i e B he Z;split
      ·exact Md
      ·rename_i ie ac;split
       ·exact Md
       ·rename_i z hz;cases hq:Nat.beq z.cells.toList.length ie.size&&Nat.ble ie.bytes 1048576&&Nat.ble 1 ie.size with
        |false=>exact Md|true=>
         simp only[cond_true];rw[Bool.and_eq_true]at hq;obtain⟨q1,q2⟩:=hq;have W:=Nat.le_of_ble_eq_true q2;refine Mb (Hy W g3 hs) fun src s1 o1 hs1 ⟨n,news,k1,k2,k3,X⟩=>?_;refine(Hr W M k2 k3 X hs1).mono fun c τ' F' hp' _ _ ⟨y,k5,k6⟩=>⟨y,LX fun n=>?_,k6⟩
         rw[hx,od he Z ac hz q1 k1,k5]
     ·exact Md
    ·rename_i t x G;obtain⟨v,vs,rfl,M,N⟩:=h2.uncons;have:vs=[]:=List.eq_nil_of_length_eq_zero N.1.symm;subst this;exact Mi (x:=V3 hp P t v) (fun n=>by rw[b9];simp only[f7,h1,G,l8]) (Hw M)
    ·rename_i t x G;obtain⟨v,vs,rfl,M,N⟩:=h2.uncons;have:vs=[]:=List.eq_nil_of_length_eq_zero N.1.symm;subst this;exact Mi (x:=xQ P t v) (fun n=>by rw[b9];simp only[f7,h1,G,l8]) (Ht M)
    ·rename_i x xs;obtain⟨v,vs,rfl,M,N⟩:=h2.uncons;exact Mi (x:=dp false v vs) (fun n=>by rw[b9];simp only[f7,h1,l8]) (rZ M N)
    ·rename_i x xs;obtain⟨v,vs,rfl,M,N⟩:=h2.uncons;exact Mi (x:=dp true v vs) (fun n=>by rw[b9];simp only[f7,h1,l8]) (rZ M N)
    ·exact Md
   |value g=>
    simp only;split
    ·rename_i v d;obtain⟨w,h3,h4⟩:=A d;unfold zH;split
     ·rename_i g' first D
      split
      ·rename_i fn aa;cases ad:cC fn with
       |false=>exact Md|true=>
        simp only[cond_true];cases h4 with
        |fn _ _ _ xs ys k1 k2 k3 X=>
         have hl:VDL P U τ F (first++l++D) (xs++args++ys):=(VDL.append ⟨k1,k2⟩ h2).append ⟨k3,X⟩;refine(H.run g' _ _ τ F s hp hl hs).mono fun a τ' F' hp' _ _ ⟨y,C,B⟩=>⟨y,C.mono fun n hn=>?_,B⟩
         rw[b9];simp only[f7,h1,h3,eu,aa,ad,cond_true];simpa using hn
      ·exact Md
     ·rename_i ks vs gg nt ps as bo;have h5:=h4;cases h4 with
      |yld _ _ _ _ _ _ _ i tms pr db hF hp0 k=>
       refine(H.round ks vs gg nt ps as bo l args τ F s hp i h5 h2 hs).mono fun a τ' F' hp' _ _ ⟨y,C,B⟩=>⟨y,C.mono fun n hn=>?_,B⟩
       rw[b9];simp only[f7,h1,h3,eu];exact hn
     ·exact Md
    ·exact Md
   |invoke r m=>exact Md
  ·exact Md
 |_=>exact Md
end
end Go.Sx
namespace Go.Sx
open Go.Xe
def dv (f:Fm)(dst:Bc Tmp)(v:SV):Fm:=match dst with
 |some d=>(d,v)::f|none=>f
section
variable (P :Ax)(U:Ab)
def BE (f:Fm)(d:Tmp)(t:Bool):Fm:=match lk f d with
 |some (.bool e)=>(match e with
  | .bool _=>f|_=>(d,.bool (.bool t))::f)
 |_=>f
def V8 (all:An)(f:Fm)(o:Oper)(t:Bool):Fm:=match o.guard with
 |some (j,want)=>match all[j]? with
  |some p=>match p.dst with
   |some d=>BE f d (t==want)|none=>f
  |none=>f
 |none=>f
def xf (f:Fm)(c:Ba)(t:Bool):Fm:=match c with
 | .tmp d=>BE f d t|_=>f
def lQ (all:An)(f:Fm)(o:Oper):M Bool:=
 match o.guard with
 |none=>e8 true|some (j,want)=>match all[j]? with
  |some p=>match p.dst with
   |some d=>match lk f d with
    |some (.bool e)=>c6 (ij U e) fun t=>e8 (t==want)
    |some (.tup [])=>e8 false|_=>a7 "guard"
   |none=>e8 false
  |none=>e8 false
def sone (call:G8)(nt:Nat)(all:An)(o:Oper)(f:Fm):M Fm:=
 bif j4 nt o.dst then
  c6 (lQ U all f o) fun t=>bif t then c6 (sop P U call (V8 all f o t) o.op) fun v=>e8 (dv (V8 all f o t) o.dst v)else e8 (dv (V8 all f o t) o.dst (.tup []))
 else a7 "slot"
def Fs (call:G8)(nt:Nat)(all:An):An->Fm->M Fm
 | [],f=>e8 f|o::os,f=>c6 (sone P U call nt all o f) fun f'=>Fs call nt all os f'
abbrev fH:=An->Fm->M Fm
abbrev gQ:=Nat->Code->(Fm->M (Exit×Fm))->Fm->Bc (M (Exit×Fm))
def mN :Code->Bc Code
 | .loop b=>some b|_=>none
def sc (call:G8)(g:Az)(nt:Nat)(fo:Ba)(ps:Array Tmp)(as bo:Code)(f:Fm):M (Exit×Fm):=
 have _:=P
 a7 "range"
def L7 (call:G8)(dr:fH)(lp:gQ)(g:Az)(rg:Bool)(nt:Nat):Nat->Code->Fm->M (Exit×Fm)
 |0,_,_=>a7 "fuel"|m+1,c,f=>match c with
  | .skip=>e8 (.normal,f)| .label _=>e8 (.normal,f)| .region _ ops draw=>c6 (bif draw then dr ops.toList f else Fs P U call nt ops.toList ops.toList f) fun f'=>e8 (.normal,f')
  | .seq x y=>c6 (L7 call dr lp g rg nt m x f) fun r=>match r.1 with
   | .normal=>L7 call dr lp g rg nt m y r.2|e=>e8 (e,r.2)
  | .cond c x y=>match i6 f c with
   |some (.bool e)=>c6 (ij U e) fun t=>bif t then L7 call dr lp g rg nt m x (xf f c t)else L7 call dr lp g rg nt m y (xf f c t)
   |_=>a7 "if"
  | .block id b => c6 (match mN b with
    |some lb=>match lp id lb (L7 call dr lp g rg nt m lb) f with
     |some r=>r|none=>L7 call dr lp g rg nt m b f
    |none=>L7 call dr lp g rg nt m b f) fun r=>match r.1 with
   | .exit j=>bif Nat.beq j id then e8 (.normal,r.2)else e8 (.exit j,r.2)|e=>e8 (e,r.2)
  | .loop b=>c6 (L7 call dr lp g rg nt m b f) fun r=>match r.1 with
   | .normal=>L7 call dr lp g rg nt m (.loop b) r.2|e=>e8 (e,r.2)
  | .exit id=>e8 (.exit id,f)| .ret=>e8 (.ret,f)| .scope b=>c6 (L7 call dr lp g rg nt m b f) fun r=>match r.1 with
   | .normal=>e8 (.normal,r.2)| .exit j=>e8 (.exit j,r.2)| .ret=>e8 (.ret,r.2)|_=>a7 "scope"
  | .rangeFunc fo ps as bo=>bif rg then sc P call g nt fo ps as bo f else a7 "a range in a range"|_=>a7 "code"
end
section
variable {P :Ax}{U:Ab}{ov:Aa}{nt:Nat}
variable {τ:Tau}{F:Ac}{f:Fm}
def TD.mono {τ':Tau}{F':Ac}(ht:Tle τ τ')(hf:Fle F F'){tm:Ao}(h:TD P U τ F f tm):TD P U τ' F' f tm:=fun k a ha=>(h k a ha).mono ht hf
theorem TD.put {tm:Ao}(h:TD P U τ F f tm){a:SV}{v:Aw}(ha:VD P U τ F a v)(dst:Bc Tmp):TD P U τ F (dv f dst a) (j0 tm dst v):=by
 cases dst with
 |none=>exact h|some d=>
  intro k b hb;simp only[dv,p8]at hb;simp only[j0,Mw];by_cases e:d=k
  ·grind
  ·rw[if_neg e]at hb;rw[if_neg (fun h=>e h.symm)];exact h k b hb
def uB (f:Fm)(dst:Bc Tmp)(v:SV):∃pre,dv f dst v=pre++f:=by
 cases dst with
 |none=>exact⟨[],rfl⟩|some d=>exact⟨[(d,v)],rfl⟩
theorem nM {s:SS}{tm:Ao}(h:TD P U τ F f tm)(all:An)(o:Oper):OKp U (lQ U all f o) s fun t=>e9 all tm o=t:=by
 unfold lQ e9;split
 ·rename_i a;simp only[a];exact Ml rfl
 ·rename_i j c a;simp only[a];unfold q9;split
  ·rename_i p hp;simp only[hp];split
   ·rename_i d hd;simp only[hd];split
    ·rename_i e he;have b:=h d _ he;refine OKp.test.bind fun t _ _ _ ht=>Ml ?_;generalize hx:(tm.get d).getD undef=x at b;cases b;cases a:tm.get d with
     |none=>rw[a]at hx;simp[undef]at hx|some y=>grind
    ·rename_i he;have b:=h d _ he;generalize hx:(tm.get d).getD undef=x at b;cases b;refine Ml ?_;grind
    ·exact Mg
   ·rename_i hd;simp only[hd];exact Ml rfl
  ·rename_i hp;simp only[hp];exact Ml rfl
variable {t:Bool}
def zw {tm:Ao}(h:TD P U τ F f tm){d:Tmp}(ht:∀b,tm.get d=some (.bool b)->b=t):TD P U τ F (BE f d t) tm:=by
 unfold BE;split
 ·rename_i e he;split
  ·exact h
  ·intro k a ha;rw[p8]at ha;split at ha
   ·rename_i e';subst e';cases ha;have g:=h d _ he;generalize hx:(tm.get d).getD undef=x at g⊢;cases g;cases c:tm.get d with
    |none=>rw[c]at hx;cases hx
    |some y=>rw[c]at hx;cases hx;rw[ht _ c];exact .bool (.bool t)
   ·exact h k a ha
 ·exact h
theorem uH (f:Fm)(d:Tmp)(t:Bool):∃pre,BE f d t=pre++f:=by
 unfold BE;split
 ·split
  ·simp_all
  ·exact⟨[_],rfl⟩
 ·simp_all
theorem zu {tm:Ao}(h:TD P U τ F f tm){all:An}{o:Oper}(hw:e9 all tm o=t):TD P U τ F (V8 all f o t) tm:=by
 unfold V8;unfold e9 q9 at hw;split
 ·rename_i j a c;split
  ·rename_i p hp;split
   ·rename_i d hd;refine zw h fun b hb=>?_;simp only[c,hp,hd,hb]at hw;subst hw;simp_all
   ·exact h
  ·exact h
 ·exact h
theorem Hm {tm:Ao}(h:TD P U τ F f tm){c:Ba}{b:Bool}(hc:a9 tm c=some (.bool b))(hb:b=t):TD P U τ F (xf f c t) tm:=by
 unfold xf;split
 ·rename_i d;refine zw h fun b' a=>?_;have hc:some ((tm.get d).getD undef)=_:=hc;grind
 ·exact h
theorem ES (f:Fm)(c:Ba)(t:Bool):∃pre,xf f c t=pre++f:=by
 unfold xf;split
 ·exact uH _ _ _
 ·simp_all
def uG (all:An)(f:Fm)(o:Oper)(t:Bool):∃pre,V8 all f o t=pre++f:=by
 unfold V8;repeat' split
 ·exact uH _ _ _
 all_goals exact⟨[],rfl⟩
variable (P ov) in
def XOps (nt:Nat)(all l:An)(tm:Ao)(hp:Hp)(tm':Ao)(hp':Hp):Prop:=EV fun n=>oC P (exec P ov n) nt all l tm hp=some (tm',hp')
theorem zR {call:G8}(b:D0 P U ov call){all:An}:∀ {l:An} {τ:Tau} {F:Ac} {s:SS} {hp:Hp} {f:Fm} {tm:Ao},TD P U τ F f tm->SD P U τ F s hp->OKh P U (Fs P U call nt all l f) τ F s hp fun f' τ' F' hp'=>∃tm',XOps P ov nt all l tm hp tm' hp'/\TD P U τ' F' f' tm'/\ ∃pre,f'=pre++f
 | [],τ,F,s,hp,f,tm,ht,hs=>Mf ⟨tm,LX fun n=>iS,ht,[],rfl⟩| o :: l, τ, F, s, hp, f, tm, ht, hs => by
  unfold Fs sone;cases hd:j4 nt o.dst with
  |false=>exact OKh.fail.bind (R:=fun _ _ _ _=>False) fun _ _ _ _ _ _ _ h=>h.elim
  |true=>
   simp only[cond_true];have step:∀ {f0:Fm} {a:SV} {v:Aw} {τ1:Tau} {F1:Ac} {s1:SS} {hp1:Hp},TD P U τ1 F1 f0 tm->(∃pre,f0=pre++f)->SD P U τ1 F1 s1 hp1->VD P U τ1 F1 a v->
     OKh P U (Fs P U call nt all l (dv f0 o.dst a)) τ1 F1 s1 hp1 fun f' τ' F' hp'=>∃tm',XOps P ov nt all l (j0 tm o.dst v) hp1 tm' hp'/\TD P U τ' F' f' tm'/\ ∃pre,f'=pre++f:=by
    intro f0 a v τ1 F1 s1 hp1 h1 ⟨C,h0⟩ h2 h3;refine(zR b (h1.put h3 o.dst) h2).mono fun f' τ' F' hp' _ _ ⟨tm',d,g,pre,r⟩=>?_;obtain⟨p,hp⟩:=uB f0 o.dst a;grind
   refine OKh.bind (R:=fun f' τ' F' hp'=>∃f0 a v,f'=dv f0 o.dst a/\TD P U τ' F' f0 tm/\(∃pre,f0=pre++f)/\VD P U τ' F' a v/\((e9 all tm o=true/\XOp P ov o.op tm hp v hp')\/(e9 all tm o=false/\v=undef/\hp'=hp))) ?_ ?_
   ·refine Mb (nM ht all o) fun t s1 B hs1 hw=>?_;have ht:=zu ht hw;have c:=uG all f o t;cases t with
    |true=>simp only[cond_true];refine(sa b ht hs1 o.op).bind fun a τ1 F1 s2 hp1 ex y ⟨v,h1,h2⟩=>Mf ⟨_,a,v,rfl,ht.mono ex.t ex.f,c,h2,.inl ⟨hw,h1⟩⟩
    |false=>simp only[cond_false];exact Mf ⟨_,.tup [],undef,rfl,ht,c,.tup [] [] rfl (fun i a x h _=>by simp at h),.inr ⟨hw,rfl,rfl⟩⟩
   ·intro f' τ1 F1 s1 hp1 ex hs1 ⟨f0,a,v,d,ht,c,h1,h2⟩;subst d;refine(step ht c hs1 h1).mono fun w τ' F' hp' _ _ ⟨tm',d,g,r⟩=>⟨tm',?_,g,r⟩
    rcases h2 with⟨hw,hx⟩| ⟨hw,A,hh⟩
    ·exact(hx.and d).mono fun n ⟨k1,k2⟩=>by rw[L4,hd,cond_true,hw,cond_true,k1];exact k2
    ·subst A;subst hh;exact d.mono fun n k=>by rw[L4,hd,cond_true,hw,cond_false];exact k
variable {ar :Ai}
variable (P ov) in
def XC (ar:Ai)(nt:Nat)(c:Code)(tm:Ao)(hp:Hp)(e:Exit)(tm':Ao)(hp':Hp):Prop:=
 ∃rs:Ah,(rs.Nodup/\ ∀r∈rs,hp.nx<=r/\r<hp'.nx/\hp'.m.get r=some .dfr)/\
  ∃n0,∀n m ds,n0<=n->n0<=m->f9 P (j3 P) (exec P ov n) nt ar m c tm hp ds=some (.mk e tm' hp' (rs.map Df.mark++ds))
variable {e:Exit}{tm':Ao}
theorem XC.of0 {c:Code}{tm:Ao}{hp:Hp}{hp':Hp}(h:∃n0,∀n m ds,n0<=n->n0<=m->f9 P (j3 P) (exec P ov n) nt ar (m+1) c tm hp ds=some (.mk e tm' hp' ds)):XC P ov ar nt c tm hp e tm' hp':=by
 obtain⟨n0,h⟩:=h;refine⟨[],⟨List.nodup_nil,fun r hr=>by simp at hr⟩,n0+1,fun n m ds hn hm=>?_⟩;obtain⟨m,rfl⟩:∃k,m=k+1:=⟨m-1,by omega⟩
 grind
variable {tm1:Ao}
theorem XC.map {c c':Code}{tm:Ao}{hp hp1:Hp}{e':Exit}(h:XC P ov ar nt c tm hp e tm1 hp1)(k:∀n m ds a,f9 P (j3 P) (exec P ov n) nt ar m c tm hp ds=some (.mk e tm1 hp1 a)->f9 P (j3 P) (exec P ov n) nt ar (m+1) c' tm hp ds=some (.mk e' tm' hp1 a)):XC P ov ar nt c' tm hp e' tm' hp1:=by
 obtain⟨b,h1,n0,h2⟩:=h;refine⟨b,h1,n0+1,fun n m ds hn hm=>?_⟩;obtain⟨m,rfl⟩:∃k,m=k+1:=⟨m-1,by omega⟩
 grind
theorem XC.comp {c h o:Code}{tm:Ao}{hp hp1 hp':Hp}(h1:XC P ov ar nt h tm hp .normal tm1 hp1)(h2:XC P ov ar nt o tm1 hp1 e tm' hp')(w:hp.nx<=hp1.nx)(y:hp1.nx<=hp'.nx)(hk:∀r,r<hp1.nx->hp1.m.get r=some .dfr->hp'.m.get r=some .dfr)(k:∀n m ds a b,f9 P (j3 P) (exec P ov n) nt ar m h tm hp ds=some (.mk .normal tm1 hp1 a)->f9 P (j3 P) (exec P ov n) nt ar m o tm1 hp1 a=some (.mk e tm' hp' b)->f9 P (j3 P) (exec P ov n) nt ar (m+1) c tm hp ds=some (.mk e tm' hp' b)):XC P ov ar nt c tm hp e tm' hp':=by
 obtain⟨d,⟨a1,a2⟩,A,a3⟩:=h1;obtain⟨g,⟨b1,b2⟩,B,b3⟩:=h2;refine⟨g++d,⟨List.nodup_append.2 ⟨b1,a1,fun r hr q hq e=>?_⟩,fun r hr=>?_⟩,A+B+1,fun n m ds hn hm=>?_⟩
 ·grind
 ·grind
 ·obtain⟨m,rfl⟩:∃k,m=k+1:=⟨m-1,by omega⟩
  rw[List.map_append,List.append_assoc];exact k n m ds _ _ (a3 n m ds (by omega) (by omega)) (b3 n m _ (by omega) (by omega))
theorem OKh.monoE {α:Type}{m:M α}{s:SS}{hp:Hp}{R b:α->Tau->(Ac)->Hp->Prop}(h:OKh P U m τ F s hp R)(hr:∀a τ' F' s' hp',Ext τ F s hp τ' F' s' hp'->R a τ' F' hp'->b a τ' F' hp'):OKh P U m τ F s hp b:=by intro Q hq hs;obtain⟨a,s',h1,τ',F',hp',h2,h3,h4⟩:=h Q hq hs;grind
variable (P U ov) in
def dy (ar:Ai)(nt:Nat)(m:M (Exit×Fm))(c:Code)(f:Fm):Prop:=∀τ F s hp tm,TD P U τ F f tm->SD P U τ F s hp->
 OKh P U m τ F s hp fun r τ' F' hp'=>∃tm',XC P ov ar nt c tm hp r.1 tm' hp'/\TD P U τ' F' r.2 tm'/\ ∃pre,r.2=pre++f
variable (P U ov) in
def aJ (nt:Nat)(dr:fH):Prop:=∀ops f τ F s hp tm,TD P U τ F f tm->SD P U τ F s hp->
 OKh P U (dr ops f) τ F s hp fun f' τ' F' hp'=>∃tm',(EV fun n=>j3 P (exec P ov n) nt ops tm hp=some (tm',hp'))/\TD P U τ' F' f' tm'/\ ∃pre,f'=pre++f
variable (P U ov) in
def aK (ar:Ai)(nt:Nat)(lp:gQ):Prop:=∀id b body f r,(∀f',dy P U ov ar nt (body f') b f')->lp id b body f=some r->dy P U ov ar nt r (.loop b) f
def xD {call:G8}(a:D0 P U ov call)(g:Az)(fo:Ba)(ps:Array Tmp)(as bo:Code)(f:Fm):dy P U ov none nt (sc P call g nt fo ps as bo f) (.rangeFunc fo ps as bo) f:=by intro τ F s hp tm ht hs;unfold sc;exact Md
theorem uP {call:G8}(w:D0 P U ov call){dr:fH}(G:aJ P U ov nt dr){lp:gQ}(H:aK P U ov ar nt lp)(g:Az)(E:Bool)(K:E=true->ar=none):∀(m:Nat) (c:Code) (f:Fm),dy P U ov ar nt (L7 P U call dr lp g E nt m c f) c f
 |0,c,f=>fun τ F s hp tm ht hs=>Md
 |m+1,c,f=>by
  have B:=uP w G H g E K m;cases c with
  |rangeFunc fo ps as bo=>
   intro τ F s hp tm ht hs;simp only[L7];cases hb:E with
   |false=>exact Md|true=>have:=K hb;subst this;exact xD w g fo ps as bo f τ F s hp tm ht hs
  |skip=>exact fun τ F s hp tm ht hs=>Mf ⟨tm,XC.of0 ⟨0,fun n m ds _ _=>rfl⟩,ht,[],rfl⟩
  |label l=>exact fun τ F s hp tm ht hs=>Mf ⟨tm,XC.of0 ⟨0,fun n m ds _ _=>rfl⟩,ht,[],rfl⟩
  |exit L=>exact fun τ F s hp tm ht hs=>Mf ⟨tm,XC.of0 ⟨0,fun n m ds _ _=>rfl⟩,ht,[],rfl⟩
  |ret=>exact fun τ F s hp tm ht hs=>Mf ⟨tm,XC.of0 ⟨0,fun n m ds _ _=>rfl⟩,ht,[],rfl⟩
  |region L ops draw=>
   intro τ F s hp tm ht hs;simp only[L7];cases draw with
   |true=>simp only[cond_true];refine(G ops.toList f τ F s hp tm ht hs).bind fun f' τ' F' s' hp' _ _ ⟨tm',⟨n0,O⟩,a,d⟩=>Mf ⟨tm',XC.of0 ⟨n0,fun n m ds hn _=>?_⟩,a,d⟩;simp only[f9,cond_true,O n hn]
   |false=>simp only[cond_false];refine(zR w ht hs).bind fun f' τ' F' s' hp' _ _ ⟨tm',⟨n0,O⟩,a,d⟩=>Mf ⟨tm',XC.of0 ⟨n0,fun n m ds hn _=>?_⟩,a,d⟩;simp only[f9,cond_false,O n hn]
  |seq x y=>
   intro τ F s hp tm ht hs;simp only[L7];refine(B x f τ F s hp tm ht hs).bind fun r τ1 F1 s1 hp1 ex hs1 ⟨tm1,hx,a,pre,d⟩=>?_;have T:∀e,r.1=e->e≠ .normal->OKh P U (e8 (e,r.2)) τ1 F1 s1 hp1 fun r τ' F' hp'=>∃tm',XC P ov ar nt (.seq x y) tm hp r.1 tm' hp'/\TD P U τ' F' r.2 tm'/\ ∃pre,r.2=pre++f:=by intro e he J;refine Mf ⟨tm1,hx.map fun n m ds o hk=>?_,a,pre,d⟩;rw[he]at hk;simp only[f9,hk];grind
   split
   ·rename_i hr;refine(B y r.2 τ1 F1 s1 hp1 tm1 a hs1).monoE fun W τ' F' s' hp' A ⟨tm',hy,k2,p2,k3⟩=>⟨tm',?_,k2,p2++pre,by rw[k3,d,List.append_assoc]⟩
    rw[hr]at hx;refine hx.comp hy ex.nx A.nx (fun r hlt Q=>A.dfr hs1 hlt Q (.inl rfl)) fun n m ds M N q1 q2=>?_;simp only[f9,q1];exact q2
   ·grind
  |cond c x y=>
   intro τ F s hp tm ht hs;simp only[L7];split
   ·rename_i e he;obtain⟨v,h1,h2⟩:=C0 ht he;cases h2;refine Mb OKp.test fun t s1 _ hs1 C=>?_;have ht:=Hm ht h1 C;obtain⟨V,hp0⟩:=ES f c t;have app:∀ {r:Fm},(∃pre,r=pre++xf f c t)-> ∃pre,r=pre++f:=fun⟨p,h⟩=>⟨p++V,by rw[h,hp0,List.append_assoc]⟩
    cases t with
    |true=>
     simp only[cond_true];refine(B x _ τ F s1 hp tm ht hs1).mono fun r τ' F' hp' _ _ ⟨tm',hx,a,d⟩=>⟨tm',hx.map fun n m ds o hk=>?_,a,app d⟩
     simp only[f9,h1,C];exact hk
    |false=>
     simp only[cond_false];refine(B y _ τ F s1 hp tm ht hs1).mono fun r τ' F' hp' _ _ ⟨tm',hx,a,d⟩=>⟨tm',hx.map fun n m ds o hk=>?_,a,app d⟩
     simp only[f9,h1,C];exact hk
   ·exact Md
  |block L b=>
   intro τ F s hp tm ht hs;simp only[L7];have D:dy P U ov ar nt (match mN b with
    |some lb=>match lp L lb (L7 P U call dr lp g E nt m lb) f with
     |some r=>r|none=>L7 P U call dr lp g E nt m b f
    |none=>L7 P U call dr lp g E nt m b f) b f:=by
    split
    ·rename_i lb R;have hb:b= .loop lb:=by unfold mN at R;grind
     subst hb;split
     ·rename_i r hr;exact H L lb _ f r (fun f'=>B lb f') hr
     ·grind
    ·grind
   refine(D τ F s hp tm ht hs).bind fun r τ1 F1 s1 hp1 ex hs1 ⟨tm1,hx,a,d⟩=>?_;split
   ·rename_i j hr;cases hb:Nat.beq j L with
    |true=>simp only[cond_true];refine Mf ⟨tm1,hx.map fun n m ds o hk=>?_,a,d⟩;rw[hr]at hk;simp only[f9,hk,hb,cond_true]|false=>simp only[cond_false];refine Mf ⟨tm1,hx.map fun n m ds o hk=>?_,a,d⟩;rw[hr]at hk;simp only[f9,hk,hb,cond_false]
   ·rename_i J;refine Mf ⟨tm1,hx.map fun n m ds o hk=>?_,a,d⟩;simp only[f9,hk];grind
  |loop b=>
   intro τ F s hp tm ht hs;simp only[L7];refine(B b f τ F s hp tm ht hs).bind fun r τ1 F1 s1 hp1 ex hs1 ⟨tm1,hx,a,pre,d⟩=>?_;split
   ·rename_i hr;refine(B (.loop b) r.2 τ1 F1 s1 hp1 tm1 a hs1).monoE fun W τ' F' s' hp' A ⟨tm',hy,k2,p2,k3⟩=>⟨tm',?_,k2,p2++pre,by rw[k3,d,List.append_assoc]⟩
    rw[hr]at hx;refine hx.comp hy ex.nx A.nx (fun r hlt Q=>A.dfr hs1 hlt Q (.inl rfl)) fun n m ds M N q1 q2=>?_;simp only[f9,q1];exact q2
   ·rename_i J;refine Mf ⟨tm1,hx.map fun n m ds o hk=>?_,a,pre,d⟩;simp only[f9,hk];grind
  |scope b=>
   intro τ F s hp tm ht hs;simp only[L7];refine(B b f τ F s hp tm ht hs).bind fun r τ1 F1 s1 hp1 ex hs1 ⟨tm1,hx,a,d⟩=>?_;split
   ·rename_i hr;refine Mf ⟨tm1,hx.map fun n m ds o hk=>?_,a,d⟩;rw[hr]at hk;simp only[f9,hk]
   ·rename_i j hr;refine Mf ⟨tm1,hx.map fun n m ds o hk=>?_,a,d⟩;rw[hr]at hk;simp only[f9,hk]
   ·rename_i hr;refine Mf ⟨tm1,hx.map fun n m ds o hk=>?_,a,d⟩;rw[hr]at hk;simp only[f9,hk]
   ·exact Md
  |_=>exact fun τ F s hp tm ht hs=>Md
end
end Go.Sx
namespace Go.Sx
open Go.Xe
def fW :Nat->Au->Fm
 |_,[]=>[]
 |k,a::l=>(k,a)::fW (k+1) l
section
variable (P :Ax)(U:Ab)
def zT (f:Fm):ResultVar->M SV
 | .tmp t=>e8 ((lk f t).getD .any)| .cell a t=>zQ P U t ((lk f a).getD .any)
def Y5 (f:Fm):List ResultVar->M (Au)
 | []=>e8 []|r::rs=>c6 (zT P U f r) fun v=>c6 (Y5 f rs) fun vs=>e8 (v::vs)
def pZ :Au->SV
 | [v]=>v|vs=>.tup vs
def sfun (call:G8)(dr:Nat->fH)(lp:Az->Nat->gQ)(m:Nat)(g:Az)(args:Au):M SV:=
 match P.funcs[g]? with
 |some fn=>bif wkFn fn then a7 "a capacity" else match fn.body with
  |some c=>c6 (L7 P U call (dr (args.length+(fn.ntmps-args.length))) (lp g (args.length+(fn.ntmps-args.length))) g true (args.length+(fn.ntmps-args.length)) m c (fW 0 args)) fun r=>match r.1 with
   | .normal=>c6 (Y5 P U r.2 fn.results.toList) fun vs=>e8 (pZ vs)
   | .ret=>c6 (Y5 P U r.2 fn.results.toList) fun vs=>e8 (pZ vs)
   |_=>a7 "end of a call"
  |none=>a7 "no body"
 |none=>a7 "no function"
def xE (call:G8)(dr:Nat->fH)(lp:Az->Nat->gQ)(m:Nat)(ks:Ah)(vs:Au)(g:Az)(nt:Nat)(ps:Ah)(as bo:Code)(args:Au):M SV:=
 have _:=P;have _:=U
 a7 "sround"
def W0 (dr:G8->Nat->fH)(lp:G8->Az->Nat->gQ)(con:Az->Bc (Au->M SV)):Nat->G8
 |0=>⟨fun _ _=>a7 "depth of calls",fun _ _ _ _ _ _ _ _=>a7 "depth of rounds"⟩
 |n+1=>⟨fun g args=>match con g with
  |some k=>k args|none=>sfun P U (W0 dr lp con n) (dr (W0 dr lp con n)) (lp (W0 dr lp con n)) n g args,
  fun ks vs g nt ps as bo args=>xE P U (W0 dr lp con n) (dr (W0 dr lp con n)) (lp (W0 dr lp con n)) n ks vs g nt ps as bo args⟩
end
section
variable {P :Ax}{U:Ab}{ov:Aa}
variable (P U ov) in
def I5 (k:Au->M SV)(g:Az):Prop:=∀l args τ F s hp,VDL P U τ F l args->SD P U τ F s hp->OKh P U (k l) τ F s hp fun a τ' F' hp'=>∃v,A4 P ov g args hp v hp'/\VD P U τ' F' a v
theorem pB :∀(l:Au) (k j:Nat) (a:SV),lk (fW k l) j=some a->k<=j/\l[j-k]? =some a
 | [],k,j,a,h=>by simp[fW,lk]at h|b::l,k,j,a,h=>by
  rw[fW,p8]at h;by_cases e:k=j
  ·grind
  ·rw[if_neg e]at h;obtain⟨h1,h2⟩:=pB l (k+1) j a h;grind
def TD.args {τ:Tau}{F:Ac}{l:Au}{args:Af}(h:VDL P U τ F l args):TD P U τ F (fW 0 l) (fill .e 0 args):=by intro k a ha;obtain⟨_,h2⟩:=pB l 0 k a ha;obtain⟨v,h3,h4⟩:=h.get h2;rw[Q5 args k v (by simpa using h3)];exact h4
def kO {τ:Tau}{F:Ac}{f:Fm}{tm:Ao}(ht:TD P U τ F f tm){hp:Hp}:∀ {c:List ResultVar} {s:SS},SD P U τ F s hp->OKp U (Y5 P U f c) s fun l=>∃vs,C8 P tm hp c=some vs/\VDL P U τ F l vs
 | [],s,hs=>Ml ⟨[],rfl,MC⟩|r::c,s,hs=>by
  have d:∀t,VD P U τ F ((lk f t).getD .any) ((tm.get t).getD undef):=fun t=>by
   cases hl:lk f t with
   |none=>exact .any _|some b=>exact ht t b hl
  unfold Y5;have one:OKp U (zT P U f r) s fun a=>∃v,P6 P tm hp r=some v/\VD P U τ F a v:=by
   cases r with
   |tmp t=>exact Ml ⟨_,rfl,d t⟩|cell a t=>exact(vb (d a) hs).mono fun b ⟨u,h1,h2⟩=>⟨u,h1,h2⟩
  refine one.bind fun a s1 h g ⟨v,h1,h2⟩=>?_;refine(kO ht (hs.only h g)).bind fun l s2 _ _ ⟨vs,h3,h4⟩=>Ml ⟨v::vs,by simp only[C8,h1,h3],MB h2 h4⟩
theorem Ft {τ:Tau}{F:Ac}{l:Au}{vs:Af}(h:VDL P U τ F l vs):VD P U τ F (pZ l) (bI vs):=by
 unfold pZ bI;split
 ·obtain⟨y,ys,rfl,h1,h2⟩:=h.uncons;have:ys=[]:=List.eq_nil_of_length_eq_zero h2.1.symm;grind
 ·rename_i b;split
  ·rename_i v;have hl:=h.1;cases l with
   |nil=>simp at hl|cons a l=>simp_all
  ·exact h.tup
theorem cW {runD:Az->Af->Hp->Bc (Aw×Hp)}:∀(a:Ah) (hp:Hp),a.Nodup->(∀r∈a,hp.m.get r=some .dfr)-> ∃hp',I3 P runD (a.map Df.mark++ []) hp=some hp'/\hp'.nx=hp.nx/\ ∀i,i∉a->hp'.m.get i=hp.m.get i
 | [],hp,_,_=>⟨hp,rfl,rfl,fun _ _=>rfl⟩
 |r::a,hp,hn,h=>by
  have h1:=h r (by simp);rw[List.nodup_cons]at hn;have b:∀q∈a,q≠r:=fun q hq e=>hn.1 (e▸hq);obtain⟨hp',c,d,g⟩:=cW a {hp with m:=hp.m.set r none} hn.2 fun q hq=>by show(hp.m.set r none).get q=_;rw[Mw,if_neg (b q hq)];grind
  refine⟨hp',?_,d,fun i hi=>?_⟩
  ·simp only[List.map_cons,List.cons_append,I3,h1];exact c
  ·simp only[List.mem_cons,not_or]at hi;rw[g i hi.2];show(hp.m.set r none).get i=_;rw[Mw,if_neg hi.1]
def gH {D b:Az->Af->Hp->Bc (Aw×Hp)}:∀(a:Ah) (hp:Hp),I3 P D (a.map Df.mark++ []) hp=I3 P b (a.map Df.mark++ []) hp
 | [],hp=>rfl|r::a,hp=>by
  simp only[List.map_cons,List.cons_append,I3];split
  ·exact gH a _
  ·rfl
variable {call:G8}{dr:Nat->fH}{lp:Az->Nat->gQ}
theorem zO (C:D0 P U ov call)(M:∀nt,aJ P U ov nt (dr nt))(N:∀ar g nt,aK P U ov ar nt (lp g nt))(m:Nat)(g:Az)(hg:isT (ov g)=false):I5 P U ov (sfun P U call dr lp m g) g:=by
 intro l args τ F s hp hl hs;unfold sfun;split
 ·rename_i fn E;cases hw:wkFn fn with
  |true=>rw[cond_true];exact Md|false=>
  have hw:wkF P g=false:=by unfold wkF;rw[E];exact hw
  rw [cond_false];split
  ·rename_i c hc;refine(uP C (M _) (N none g _) g true (fun _=>rfl) m c (fW 0 l) τ F s hp (fill .e 0 args) (TD.args hl) hs).bindE fun r τ1 F1 s1 hp1 ex hs1 ⟨tm1,⟨d,⟨R,w⟩,n1,Y⟩,e2,_⟩=>?_;rw[hl.1]at Y;have aa:(r.1= .normal\/r.1= .ret)-> ∀Q,((c6 (Y5 P U r.2 fn.results.toList) fun vs=>e8 (pZ vs)) s1).vc U Q->
     ∃b s2,Q (b,s2)/\ ∃τ2 A hp2,Ext τ F s hp τ2 A s2 hp2/\SD P U τ2 A s2 hp2/\ ∃v,A4 P ov g args hp v hp2/\VD P U τ2 A b v:=by
    intro hr Q hq;have O:∀n:Nat,∃hp2,I3 P (P5 P (j3 P) (exec P ov n) n) (d.map Df.mark++ []) hp1=some hp2/\hp2.nx=hp1.nx/\ ∀i,i∉d->hp2.m.get i=hp1.m.get i:=fun n=>cW d hp1 R fun r hr=>(w r hr).2.2;have same:∀n,I3 P (P5 P (j3 P) (exec P ov n) n) (d.map Df.mark++ []) hp1=I3 P (P5 P (j3 P) (exec P ov 0) 0) (d.map Df.mark++ []) hp1:=by exact fun n=>gH d hp1
    obtain⟨hp2,l1,l2,W⟩:=O 0;let A:Ac:=fun j=>if j∈d then none else F1 j
    have D:SD P U τ1 A s1 hp2:=by
     refine hs1.sub true (fun j y hj h=>?_) (.inl rfl) (by omega) (fun b x j o hb hj=>?_) (fun j y hj=>?_)
     ·show(if j∈d then none else F1 j)=some y;rw[if_neg ?_]
      ·exact hj
      ·intro hm;have h1:=(w j hm).2.2;rw[hs1.frz j y hj]at h1;cases h1;rcases h with h| ⟨_,h⟩
       ·cases h
       ·grind
     ·rcases hs1.live b x hb with⟨i',o',y',h1,h2,h3,h4⟩| ⟨h1,_⟩
      ·rw[hj]at h1;cases h1;have H:j∉d:=fun hm=>by
        have h5:=(w j hm).2.2;rw[h2]at h5;cases h5;cases x with
        |cells l e z=>obtain⟨cs,n,h,_⟩:=h4;cases h
        |rows L e z ph=>obtain⟨cs,n,h,_⟩:=h4;cases h
        |map L kt vt=>obtain⟨_,es,reg,h,_⟩:=h4;cases h
        |iter s p=>obtain⟨_,n,h,_⟩:=h4;cases h
       refine⟨W j H,?_⟩;show(if j∈d then none else F1 j)=none;rw[if_neg H];exact h3
      ·rw[hj]at h1;cases h1
     ·have hj:(if j∈d then none else F1 j)=some y:=hj;by_cases e:j∈d
      ·grind
      ·rw[if_neg e]at hj;exact⟨by rw[W j e];exact hs1.frz j y hj,by rw[l2];exact hs1.flt j y hj⟩
    have G:∀j,j<hp.nx->j∉d:=fun j hj hm=>by have:=(w j hm).1;omega
    have K:Ext τ F s hp τ1 A s1 hp2:=by
     refine ex.shrink (by omega) (fun j hj=>W j (G j hj)) (fun j y hj=>?_) (fun j y hj=>?_)
     ·grind
     ·show(if j∈d then none else F1 j)=some y;rw[if_neg (G j (hs.flt j y hj))];exact ex.f j y hj
    have V:TD P U τ1 A r.2 tm1:=fun k a ha=>(e2 k a ha).sub true (fun j y hj h=>by
     show(if j∈d then none else F1 j)=some y;rw[if_neg ?_]
     ·exact hj
     ·intro hm;have h1:=(w j hm).2.2;rw[hs1.frz j y hj]at h1;cases h1;rcases h with h| ⟨_,h⟩
      ·cases h
      ·exact h rfl) (.inl rfl)
    have J:OKh P U (c6 (Y5 P U r.2 fn.results.toList) fun vs=>e8 (pZ vs)) τ1 A s1 hp2 fun a τ' F' hp'=>∃v,A4 P ov g args hp v hp'/\VD P U τ' F' a v:=by
     refine Mb (kO V D) fun vs s2 _ D ⟨ws,h1,h2⟩=>Mf ⟨bI ws,⟨n1+1,fun n hn=>?_⟩,Ft h2⟩;obtain⟨n,rfl⟩:∃k,n=k+1:=⟨n-1,by omega⟩
     have hx:=Y n n [] (by omega) (by omega);show(bif isT (ov g)&&args.isEmpty then some (.bool true,hp)else fU (V2 P (j3 P) (exec P ov n) (P5 P (j3 P) (exec P ov n) n) n g) (bif wkF P g then wkA hp args else args) hp)=_;rw[hg,Bool.false_and,cond_false,hw,cond_false];have B:=(same n).trans l1;have hb:V2 P (j3 P) (exec P ov n) (P5 P (j3 P) (exec P ov n) n) n g args hp=some (bI ws,hp2):=by
      simp only[V2,E,hc];rcases hr with hr|hr
      ·rw[hr]at hx;simp only[hx,jO,B,h1]
      ·rw[hr]at hx;simp only[hx,jO,B,h1]
     simp only[fU,hb]
    obtain⟨b,s3,q1,X,Z,T,x1,x2,x3⟩:=J Q hq D;exact⟨b,s3,q1,X,Z,T,K.trans x1,x2,x3⟩
   intro Q hq;cases hr:r.1 with
   |normal=>simp_all|ret=>simp_all|_=>simp only[hr]at hq;exact hq.elim
  ·exact Md
 ·exact Md
def BV (b:D0 P U ov call)(c:∀nt,aJ P U ov nt (dr nt))(d:∀ar g nt,aK P U ov ar nt (lp g nt))(m:Nat)(ks:Ah)(vs:Au)(g:Az)(nt:Nat)(ps:Ah)(as bo:Code)(l:Au)(args:Af)(τ:Tau)(F:Ac)(s:SS)(hp:Hp)(i:Nat)(h:VD P U τ F (.yld ks vs g nt ps as bo) (.chan (some i)))(hl:VDL P U τ F l args)(hs:SD P U τ F s hp):OKh P U (xE P U call dr lp m ks vs g nt ps as bo l) τ F s hp fun a τ' F' hp'=>∃v,(EV fun n=>sH P (j3 P) (exec P ov n) n i args hp=some (v,hp'))/\VD P U τ' F' a v:=by unfold xE;exact Md
theorem nv {dr:G8->Nat->fH}(c:∀call,D0 P U ov call-> ∀nt,aJ P U ov nt (dr call nt)){lp:G8->Az->Nat->gQ}(d:∀call,D0 P U ov call-> ∀ar g nt,aK P U ov ar nt (lp call g nt)){con:Az->Bc (Au->M SV)}(b:∀g k,con g=some k->I5 P U ov k g)(o:∀g,isT (ov g)=true->con g≠none):∀n,D0 P U ov (W0 P U dr lp con n)
 |0=>⟨fun g l args τ F s hp _ _=>Md,fun ks vs g nt ps as bo l args τ F s hp i _ _ _=>Md⟩
 |n+1=>by
  have h:=nv c d b o n;refine⟨fun g l args τ F s hp hl hs=>?_,fun ks vs g nt ps as bo l args τ F s hp i w hl hs=>?_⟩
  ·simp only[W0];split
   ·rename_i k hk;exact b g k hk l args τ F s hp hl hs
   ·rename_i hk;have r:isT (ov g)=false:=by grind
    exact zO h (c _ h) (d _ h) n g r l args τ F s hp hl hs
  ·refine(BV h (c _ h) (d _ h) n ks vs g nt ps as bo l args τ F s hp i w hl hs).mono fun a τ' F' hp' _ _ ⟨v,⟨n0,h1⟩,h2⟩=>⟨v,⟨n0+1,fun k hk=>?_⟩,h2⟩
   obtain⟨k,rfl⟩:∃j,k=j+1:=⟨k-1,by omega⟩
   exact h1 k (by omega)
end
end Go.Sx
namespace Go.Sx
open Go.Xe
section
variable {P :Ax}{call:c7}{tm:Ao}{hp hp':Hp}{v:Aw}
def Cj {o:Op}(hk:d5 o=1)(g h:c7)(tm:Ao)(hp:Hp):xop P g tm hp o=xop P h tm hp o:=by
 cases o with
 |call c=>
  obtain⟨d,args,ats⟩:=c;cases d with
  |builtin b=>rfl|_=>simp[d5]at hk
 |load t a=>rfl|slice t x lo hi r=>rfl|lookup t x k ok=>rfl|_=>simp[d5]at hk
def Gc {o:Op}(hk:d5 o=1)(hx:xop P call tm hp o=some (v,hp')):hp'=hp:=by
 cases o with
 |load t a=>
  simp only[b9,f7]at hx;split at hx
  ·exact(i3 hx).2
  ·cases hx
 |slice t x lo hi h=>
  simp only[b9,f7]at hx;split at hx
  ·split at hx
   ·split at hx
    ·split at hx
     ·exact kY hx
     ·cases hx
    ·cases hx
   ·cases hx
  ·cases hx
 |lookup t x k ok=>
  simp only [b9, f7] at hx;split at hx
  ·split at hx
   ·exact(i3 hx).2
   ·cases hx
  ·cases hx
 |call c=>
  obtain⟨d,args,ats⟩:=c;cases d with
  |builtin b=>
   cases b<;>first
    | (simp[d5]at hk;done)
    | (simp only[b9,f7]at hx
       split at hx
       ·generalize ats.toList=g at hx;rename_i vs _;rcases g with _| ⟨t,_| ⟨u,r⟩⟩<;>rcases vs with _| ⟨x,_| ⟨y,w⟩⟩<;>simp only[l8,reduceCtorEq]at hx;exact(i3 hx).2
       ·cases hx)
  |_=>simp[d5]at hk
 |_=>simp[d5]at hk
theorem jU {o:Op}(hk:d5 o=1)(hx:xop P call tm hp o=some (v,hp)):xrd P tm hp o=some v:=by unfold xrd;rw[Cj hk _ call,hx];simp_all
def JK {o:Op}(hk:d5 o=1)(hx:xop P call tm hp o=some (v,hp')):hp'=hp/\xrd P tm hp o=some v:=by have e:=Gc hk hx;subst e;exact⟨rfl,jU hk hx⟩
variable {S:Hp}
def vW {t:Ay}{a:Ba}{j q:Nat}(hx:xop P call tm hp (.load t a)=some (v,hp'))(ha:a9 tm a=some (.pointer (some ⟨j,q,none⟩)))(b:S.m.get j=hp.m.get j):xrd P tm S (.load t a)=some v:=by
 refine jU (call:=call) rfl ?_;simp only[b9,f7,ha]at hx⊢;have:B0 P S t (.pointer (some ⟨j,q,none⟩))=B0 P hp t (.pointer (some ⟨j,q,none⟩)):=by simp only[B0,b]
 rw[this,(i3 hx).1];rfl
theorem xX {t:Ay}{a k:Ba}{ok:Bool}{j:Nat}(hx:xop P call tm hp (.lookup t a k ok)=some (v,hp'))(ha:a9 tm a=some (.map (some j)))(b:S.m.get j=hp.m.get j):xrd P tm S (.lookup t a k ok)=some v:=by
 refine jU (call:=call) rfl ?_;simp only[b9,f7,ha]at hx⊢;cases c:a9 tm k with
 |none=>grind|some u=>
  rw[c]at hx;simp only at hx⊢;have:J6 P S t (.map (some j)) u ok=J6 P hp t (.map (some j)) u ok:=by simp only[J6,b]
  rw[this,(i3 hx).1];rfl
theorem vZ {t:Ay}{x:Aw}{lo hi b:Ag}(h:i9 P hp t x lo hi b=some (v,hp'))(r:∀i o l c,x= .slice (some ⟨i,o,none⟩) l c->S.m.get i=hp.m.get i):i9 P S t x lo hi b=some (v,S):=by
 unfold i9 at h⊢;simp only[Bool.cond_eq_ite]at h⊢;split at h
 ·split at h
  ·grind
  ·cases h
 ·split at h
  ·cases h
  ·rename_i ie a;split at h
   ·grind
   ·grind
   ·have e:=r _ _ _ _ rfl;simp only[e];split at h
    ·rename_i d;rw[if_pos d];split at h
     ·rename_i g;rw[if_pos g];split at h
      ·cases h
      ·grind
      ·rename_i l hh h2;split at h
       ·grind
       ·grind
     ·cases h
    ·grind
   ·cases h
 ·split at h
  ·cases h
  ·rename_i ie a;split at h
   ·grind
   ·cases h
 ·cases h
variable {x:Ba}{u:Aw}
theorem ft {t:Ay}{lo hi d:Bc Ba}(hx:xop P call tm hp (.slice t x lo hi d)=some (v,hp'))(h:a9 tm x=some u)(S:Hp)(g:∀i o l c,u= .slice (some ⟨i,o,none⟩) l c->S.m.get i=hp.m.get i):xrd P tm S (.slice t x lo hi d)=some v:=by
 refine jU (call:=call) rfl ?_;simp only[b9,f7,h]at hx⊢;cases h1:cY tm lo with
 |none=>grind|some a=>
  rw[h1]at hx;simp only at hx⊢;cases h2:cY tm hi with
  |none=>grind|some b=>
   rw[h2]at hx;simp only at hx⊢;cases h3:cY tm d with
   |none=>grind|some c=>rw[h3]at hx;exact vZ hx g
theorem HL {args:Array Ba}{ats:Array Ay}(hx:xop P call tm hp (.call ⟨.builtin .len,args,ats⟩)=some (v,hp'))(ha:args.toList=[x])(a:a9 tm x=some u)(hm:∀i,u≠ .map (some i))(S:Hp):xrd P tm S (.call ⟨.builtin .len,args,ats⟩)=some v:=by
 refine jU (call:=call) rfl ?_;simp only[b9,f7,ha,W3,a]at hx⊢;generalize ats.toList=b at hx⊢;rcases b with _| ⟨t,_| ⟨w,r⟩⟩<;>simp only[l8,reduceCtorEq]at hx⊢;have:V3 S P t u=V3 hp P t u:=by unfold V3;grind
 rw[this,(i3 hx).1];rfl
end
inductive Rd where
 |free
 |blk (b:Nat)
 |frz
 |mlk (t:Ay) (b:Nat)
 |bad
def hJ (P:Ax)(t:Ay)(f:Fm)(k:Ba):Bool:=match P.underlying t,i6 f k with
 |some (.map kt _),some ks=>match bX P kt with
  |some sh=>(skey sh ks).isSome|none=>false
 |_,_=>false
def lj (P:Ax)(f:Fm):Op->Rd
 | .load _ x=>match i6 f x with
  |some (.ptr b _ _ _)=>.blk b|some (.pptr _ _ _ _)=>.frz|_=>.bad
 | .lookup t x k ok=>match i6 f x with
  |some (.map b)=>bif !ok&&hJ P t f k then .mlk t b else .blk b|_=>.bad
 | .slice _ x _ _ _=>match i6 f x with
  |some (.lst _ _ _)=>.frz|some .nils=>.free|some (.str _)=>.free|_=>.bad
 | .call ⟨.builtin .len,args,_⟩=>match args.toList with
  | [x]=>match i6 f x with
   |some (.str _)=>.free|some (.sl _ _ _ _ _)=>.free|some (.lst _ _ _)=>.free|some .nils=>.free|_=>.bad
  |_=>.bad
 |_=>.bad
def vok :Nat->SV->Bool
 |0,_=>false|n+1,a=>match a with
  | .any=>false| .agg l=>l.all (vok n)| .tup l=>l.all (vok n)| .fn _ l m=>l.all (vok n)&&m.all (vok n)| .iface _ v=>vok n v|_=>true
section
variable {P :Ax}{U:Ab}{τ:Tau}{F:Ac}{s:SS}
variable {v:Aw}
def PV.lst_slice {e:Ay}{d:Dat}(h:PV P F (.sl e) v d):∃a l c,v= .slice a l c:=by cases h<;>exact⟨_,_,_,rfl⟩
variable {l:Au}
def Gj {f:Aw->Aw->Bool}{xs:Af}(hl:l.length=xs.length)(h:∀(i:Nat) a x,l[i]? =some a->xs[i]? =some x->f x x=true):dB f xs xs=true:=by
 induction xs generalizing l with
 |nil=>rfl|cons x xs c=>
  cases l with
  |nil=>simp at hl|cons a l=>simp only[dB,Bool.and_eq_true];exact⟨h 0 a x rfl rfl,c (by simpa using hl) fun i b y hb hy=>h (i+1) b y hb hy⟩
theorem vz :∀(n:Nat) (a:SV) (v:Aw),vok n a=true->VD P U τ F a v->veq n v v=true
 |0,_,_,h,_=>by cases h
 |n+1,a,v,h,g=>by
  have d:=vz n;have all:∀ {l:Au} {xs:Af},l.all (vok n)=true->l.length=xs.length->(∀(i:Nat) a x,l[i]? =some a->xs[i]? =some x->VD P U τ F a x)->dB (veq n) xs xs=true:=by intro l xs h1 h2 h3;rw[List.all_eq_true]at h1;exact Gj h2 fun i a x ha hx=>d a x (h1 a (List.mem_of_getElem? ha)) (h3 i a x ha hx)
  have b:∀k:Nat,Nat.beq k k=true:=fun k=>l6 rfl;cases g with
  |any v=>cases h
  |int k e=>simp[veq]|bool e=>simp[veq]|str e=>simp[veq]|nilp=>simp[veq]|ptr=>simp[veq]|pptr=>simp[veq]|nils=>simp only[veq,b,decide_true,Bool.and_true]|sl=>simp only[veq,b,decide_true,Bool.and_true]|sl0=>simp only[veq,b,decide_true,Bool.and_true]|lst t L clip v hp hc=>obtain⟨a,l,c,rfl⟩:=hp.lst_slice;simp only[veq,b,decide_true,Bool.and_true]
  |agg l xs h1 h2=>simp only[vok]at h;simp only[veq];exact all h h1 h2|tup l xs h1 h2=>simp only[vok]at h;simp only[veq];exact all h h1 h2|fn f l m xs ys h1 h2 h3 h4=>simp only[vok,Bool.and_eq_true]at h;simp only[veq,decide_true,Bool.true_and,Bool.and_eq_true];grind|nilf=>rfl|map=>simp[veq]|nilm=>simp[veq]|iface t a x hx=>simp only[vok]at h;simp only[veq,b,Bool.true_and];exact d _ _ h hx|nili=>rfl|yld=>simp[veq]
def HV (P:Ax)(t:Ay)(kv:Aw):Prop:=∃kt vt sh ks,P.underlying t=some (.map kt vt)/\bX P kt=some sh/\fA sh.2 ks=true/\kv=ri sh ks
def MS (P:Ax)(t:Ay)(j:Nat)(S S2:Hp):Prop:=∀kv,HV P t kv->J6 P S t (.map (some j)) kv false=J6 P S2 t (.map (some j)) kv false
variable {j:Nat}
def MS.of {t:Ay}{S S2:Hp}(h:S2.m.get j=S.m.get j):MS P t j S S2:=fun kv _=>by simp only[J6,h]
def MS.trans {t:Ay}{A B C:Hp}(h:MS P t j A B)(k:MS P t j B C):MS P t j A C:=fun kv hk=>(h kv hk).trans (k kv hk)
def MS.symm {t:Ay}{A B:Hp}(h:MS P t j A B):MS P t j B A:=fun kv hk=>(h kv hk).symm
variable {f:Fm}
def yW {tm:Ao}(ht:TD P U τ F f tm){t:Ay}{k:Ba}{u:Aw}(c:a9 tm k=some u)(h:hJ P t f k=true):HV P t u:=by
 unfold hJ at h;split at h
 ·rename_i kt vt ks hm hk;split at h
  ·rename_i sh b;obtain⟨es,a⟩:=Option.isSome_iff_exists.1 h;obtain⟨d,h1,h2⟩:=C0 ht hk;rw[c,Option.some.injEq]at h1;subst h1;obtain⟨k1,k2⟩:=Hv h2 a;exact⟨kt,vt,sh,_,hm,b,k2,k1⟩
  ·cases h
 ·cases h
variable {z:Aw}
def Jq {kd:Kd}{v':Aw}{d a:Dat}(hz:PV P F kd z a)(b:By (some z)=true)(h:PV P F kd v d)(h':PV P F kd v' d):v=v':=by
 cases hz with
 |int=>cases h;cases h';rfl
 |bool=>cases h;cases h';rfl
 |str=>cases h;cases h';rfl
 |_=>cases b
theorem tB {kt vt t:Ay}{sh:Bool×List Kd}{ks:List KV}{i:Nat}{es o:List (Aw×Aw)}{rows:Rows}{b:Dat}{hp hp':Hp}{d:TypeDesc}(C:P.underlying t=some (.map kt vt))(hd:P.underlying kt=some d)(hk:bX P kt=some sh)(hz:D6 P vt=some z)(E:By (some z)=true)(h:PV P F (kd1 P vt) z b)(w:hp.m.get i=some (.map es true))(A:hp'.m.get i=some (.map o true))(hm:W6 P F kt vt es rows)(B:W6 P F kt vt o (aY rows ks (Q0 rows ks b)))(hf:fA sh.2 ks=true):MS P t i hp hp':=by
 rintro kv ⟨H,L,J,a,q1,q2,D,rfl⟩;rw[C]at q1;cases q1;rw[hk]at q2;cases q2;obtain⟨find,y,g⟩:=Dt hd hk D;have val:∀ {es:List (Aw×Aw)} {rows:Rows} {hp:Hp},hp.m.get i=some (.map es true)->W6 P F kt vt es rows-> ∃v,J6 P hp t (.map (some i)) (ri sh a) false=some v/\PV P F (kd1 P vt) v (Q0 rows a b):=by
  intro es rows hp w hm;rcases eI hk D y h b rows es 0 hm with⟨_,a2,a3,_⟩| ⟨_,v,_,a2,a3,_⟩
  ·exact⟨z,by simp only[J6,C,hd,w,g,a2,hz];rfl,by rw[a3];exact h⟩
  ·exact⟨v,by simp only[J6,C,hd,w,g,a2];rfl,a3⟩
 obtain⟨v,h1,h2⟩:=val w hm;obtain⟨v',h3,h4⟩:=val A B;have hl:ks.length=a.length:=(dQ hf).trans (dQ D).symm;have key:∀rows:Rows,Q0 (aY rows ks (Q0 rows ks b)) a b=Q0 rows a b:=by
  have G:∀v:Dat,rh a.length (ks.map KV.dat++ [v])=ks:=fun v=>by unfold rh;rw[List.take_left' (by rw[List.length_map];exact hl),DP]
  have K:∀v:Dat,(ks.map KV.dat++ [v]).getD a.length (.int 0)=v:=fun v=>by grind
  have put:∀(v:Dat) (M:Rows),Q0 (aY M ks v) a b=if a=ks then v else Q0 M a b:=by
   intro v M;induction M with
   |nil=>
    unfold aY Q0;rw[G,K];by_cases e:a=ks
    ·grind
    ·rw[if_neg e,if_neg fun c=>e c.symm];rfl
   |cons r M N=>
    unfold aY;by_cases hr:rh ks.length r=ks
    ·rw[if_pos hr];unfold Q0;grind
    ·rw[if_neg hr];unfold Q0;grind
  grind
 rw[key]at h4;rw[h1,h3,Jq h E h2 h4]
variable (P) in
def sR (τ:Tau)(F:Ac)(S:Hp)(tm:Ao)(o:Op)(v:Aw):Rd->Prop
 | .free=>∀S2,xrd P tm S2 o=some v| .blk b=>∃j q,τ b=some (some (j,q))/\ ∀S2:Hp,S2.m.get j=S.m.get j->xrd P tm S2 o=some v| .frz=>(∀S2,xrd P tm S2 o=some v)\/ ∃j y,F j=some y/\ ∀S2:Hp,S2.m.get j=some y->xrd P tm S2 o=some v| .mlk t b=>∃j q,τ b=some (some (j,q))/\ ∀S2:Hp,MS P t j S S2->xrd P tm S2 o=some v| .bad=>True
theorem Hl {call:c7}{tm:Ao}{S S':Hp}{o:Op}(ht:TD P U τ F f tm)(hs:SD P U τ F s S)(h:xop P call tm S o=some (v,S')):sR P τ F S tm o v (lj P f o):=by
 unfold lj;split
 ·rename_i t x;split
  ·rename_i b z row fld hx;obtain⟨u,h1,h2⟩:=C0 ht hx;cases h2 with
   |ptr _ _ _ _ i q r h0=>exact⟨i,q,r,fun S2 g=>vW h h1 g⟩
  ·rename_i t' L row fld hx;obtain⟨u,h1,h2⟩:=C0 ht hx;cases h2 with
   |pptr _ _ _ _ i q l c hp h0 hlt=>
    have:∃y,F i=some y:=by
     cases hp with
     |sl e i o c b cs n z rows x hF=>grind
    obtain⟨y,hy⟩:=this;exact .inr ⟨i,y,hy,fun S2 g=>vW h h1 (by rw[g,hs.frz i y hy])⟩
  ·trivial
 ·rename_i t x k ok;split
  ·rename_i b hx;obtain⟨u,h1,h2⟩:=C0 ht hx;cases h2 with
   |map _ i q r=>
    cases hc: !ok&&hJ P t f k with
    |false=>exact⟨i,q,r,fun S2 g=>xX h h1 g⟩|true=>
     rw[Bool.and_eq_true,Bool.not_eq_true']at hc;refine⟨i,q,r,fun S2 g=>?_⟩;have hk:∃kv,a9 tm k=some kv:=by simp only[b9,f7,h1]at h;grind
     obtain⟨kv,A⟩:=hk;have B:=g kv (yW ht A hc.2);refine jU (call:=call) rfl ?_;simp only[b9,f7,h1,A,hc.1]at h⊢;rw[<-B,(i3 h).1];rfl
  ·trivial
 ·rename_i t x lo hi C;have free:∀ {a:SV},i6 f x=some a->(∀w,VD P U τ F a w-> ∀i o l c,w≠ .slice (some ⟨i,o,none⟩) l c)-> ∀S2,xrd P tm S2 (.slice t x lo hi C)=some v:=by intro a ha hn S2;obtain⟨u,h1,h2⟩:=C0 ht ha;exact ft h h1 S2 fun i o l c e=>absurd e (hn u h2 i o l c)
  split
  ·rename_i t' L c hx;obtain⟨u,h1,h2⟩:=C0 ht hx;cases h2 with
   |lst _ _ _ _ hp _=>
    generalize Dat.lst (L.toR U)=d at hp;cases hp with
    |nils=>exact .inl fun S2=>ft h h1 S2 fun i o l c e=>by cases e
    |vague=>exact .inl fun S2=>ft h h1 S2 fun i o l c e=>by cases e
    |sl e i o c b cs n z rows x hF=>refine .inr ⟨i,b,hF,fun S2 g=>ft h h1 S2 fun D o' l' c' e=>?_⟩;cases e;rw[g,hs.frz i b hF]
  ·rename_i hx;exact free hx fun w hw i o l c e=>by cases hw;cases e
  ·rename_i hx;exact free hx fun w hw i o l c e=>by cases hw;cases e
  ·trivial
 ·rename_i args ats;split
  ·rename_i x hx;have key:∀ {a:SV},i6 f x=some a->(∀w,VD P U τ F a w-> ∀i,w≠ .map (some i))->sR P τ F S tm (.call ⟨.builtin .len,args,ats⟩) v .free:=by intro a ha hn S2;obtain⟨u,h1,h2⟩:=C0 ht ha;exact HL h hx h1 (hn u h2) S2
   split
   ·rename_i he;exact key he fun w hw i=>by cases hw;simp
   ·rename_i he;exact key he fun w hw i=>by cases hw<;>simp
   ·rename_i he;refine key he fun w hw i=>?_;cases hw with
    |lst _ _ _ _ hp _=>obtain⟨a,l,c,rfl⟩:=hp.lst_slice;simp
   ·rename_i he;exact key he fun w hw i=>by cases hw;simp
   ·trivial
  ·trivial
 ·trivial
variable (P) in
def snw (f:Fm)(o:Op):Bc (w9×(Nat->SV)):=
 match o with
 | .alloc e=>match kP P e with
  |some l=>some (.cells l e l.length,fun b=>.ptr b l.length (.int 0) 0)|none=>none
 | .box e x=>match i6 f x with
  |some v=>match B5 v with
   |some l=>some (.cells l e l.length,fun b=>.ptr b l.length (.int 0) 0)|none=>none
  |none=>none
 | .buildSlice t len parts=>match eh f parts.toList with
  |some ps=>match P.underlying t with
   |some (.slice e)=>match P.info? e with
    |some ie=>match kP P e with
     | some z => bif Nat.beq z.length ie.size && Nat.ble (len * ie.size) 16777216 && Nat.ble len 16777216 then
       match kL (fun i=>some (i*ie.size,ie.size)) (srep len z) ps with
       |some cs=>some (.cells cs e ie.size,fun b=>.sl b ie.size (.int 0) (.int len) (.ex (.int len)))|none=>none
      else none
     |none=>none
    |none=>none
   |_=>none
  |none=>none
 |_=>none
variable (P U) in
def NwOK (τ:Tau)(F:Ac)(tm:Ao)(o:Op)(x:w9)(mk:Nat->SV):Prop:=
 ∃n,xnw P tm o=some n/\(∀τ',Tle τ τ'->BD P U τ' F 0 x n.blk)/\ ∀(τ':Tau) b id,τ' b=some (some (id,0))->VD P U τ' F (mk b) (n.val id)
def Il {vs:Af}{e:Ay}(h:VDL P U τ F l vs):(∀τ',Tle τ τ'->BD P U τ' F 0 (.cells l e l.length) (A0 vs e vs.length))/\ ∀(τ':Tau) b a,τ' b=some (some (a,0))->VD P U τ' F (.ptr b l.length (.int 0) 0) ((⟨A0 vs e vs.length,.ptr,rfl⟩:Nw).val a):=by
 refine⟨fun τ' ht=>?_,fun τ' b a hb=>?_⟩
 ·rw[h.1];exact eG (h.mono ht (LZ F)) e vs.length
 ·exact VD.ptr' hb (by show(0:Int)<=0;omega) (by show 0=0+(0:Int).toNat*_+0;simp)
theorem Jr {tm:Ao}(ht:TD P U τ F f tm){o:Op}{x:w9}{mk:Nat->SV}(h:snw P f o=some (x,mk)):NwOK P U τ F tm o x mk:=by
 unfold snw at h;split at h
 ·split at h
  ·rename_i l hl;cases h;obtain⟨z,h1,h2⟩:=bF (U:=U) (τ:=τ) (F:=F) hl;exact⟨_,by simp only[xnw,cP,h1];rfl,Il h2⟩
  ·cases h
 ·split at h
  ·rename_i v G;split at h
   ·rename_i l hl;cases h;obtain⟨w,h1,h2⟩:=C0 (P:=P) (U:=U) ht G;exact⟨_,by simp only[xnw,h1];rfl,Il (eT h2 hl)⟩
   ·cases h
  ·cases h
 ·rename_i t len A;split at h
  ·rename_i ps d;obtain⟨J,g,r⟩:=eW (P:=P) (U:=U) ht d;split at h
   ·rename_i e he;split at h
    ·rename_i ie c;split at h
     ·rename_i z hz;obtain⟨zv,h1,h2⟩:=bF (U:=U) (τ:=τ) (F:=F) hz;rw[h2.1]at h;cases hb:Nat.beq zv.cells.toList.length ie.size&&Nat.ble (len*ie.size) 16777216&&Nat.ble len 16777216 with
      |false=>grind|true=>
       rw [hb, cond_true] at h;split at h
       ·rename_i cs a;cases h;obtain⟨ys,h3,h4⟩:=eg (se h2 len) r a;refine⟨⟨A0 ys e ie.size,.slice len len,rfl⟩,?_,fun τ' hl=>eG (h4.mono hl (LZ F)) e ie.size,fun τ' b H y=>?_⟩
        ·simp only[xnw,g,sw,he,c,h1,hb,cond_true,h3]
        ·have D:len<unk:=by simp only[Bool.and_eq_true,Nat.ble_eq]at hb;unfold unk;omega
         have:=VD.sl (P:=P) (U:=U) (F:=F) b ie.size (.int 0) (.int len) (.ex (.int len)) H 0 len y (Int.le_refl 0) (Int.natCast_nonneg len) ⟨Int.natCast_nonneg len,(Int.toNat_natCast len).symm,D,Int.le_refl _⟩;have B:(E.int (len:Int)).toN U=len:=Int.toNat_natCast len;rw[B]at this;have C:(E.int 0).toN U*ie.size=0:=by show(0:Int).toNat*_=0;simp
         rw[C]at this;exact this
       ·cases h
     ·cases h
    ·cases h
   ·cases h
  ·cases h
 ·cases h
end
def iG {nx0:Nat}{m:Nat->Bool}:∀(es:List Ent) (S:Hp),(takes nx0 m es S).nx=S.nx
 | [],S=>rfl|e::es,S=>by
  unfold takes;cases e.nw with
  |none=>exact iG es S|some n=>cases m e.i with
   |false=>exact iG es S|true=>exact iG es _
def jG {nx0:Nat}{m:Nat->Bool}{j:Nat}:∀(es:List Ent) (S:Hp),(∀e∈es,e.nw≠none->m e.i=true->j≠nx0+e.i)->(takes nx0 m es S).m.get j=S.m.get j
 | [],S,_=>rfl|e::es,S,h=>by
  unfold takes;have a:=fun S=>jG es S fun e' he'=>h e' (List.mem_cons_of_mem _ he');have h0:=h e (by simp);cases hn:e.nw with
  |none=>exact a S|some n=>
   simp only;cases hm:m e.i with
   |false=>exact a S|true=>rw[cond_true,a];show(S.m.set _ _).get j=_;rw[Mw,if_neg (h0 (by rw[hn];simp) hm)]
theorem qe {nx0:Nat}{m:Nat->Bool}{e:Ent}{n:Nw}:∀(es:List Ent) (S:Hp),e∈es->e.nw=some n->m e.i=true->es.Pairwise (fun a b=>a.i≠b.i)->(takes nx0 m es S).m.get (nx0+e.i)=some n.blk
 | [],S,he,_,_,_=>by simp at he|e'::es,S,he,hn,hm,hp=>by
  unfold takes;rw[List.pairwise_cons]at hp;by_cases c:e=e'
  ·subst c;rw[hn];simp only[hm,cond_true];rw[jG]
   ·show(S.m.set _ _).get _=_;rw[Mw,if_pos rfl]
   ·grind
  ·have he':e∈es:=by grind
   have d:=fun S=>qe (nx0:=nx0) es S he' hn hm hp.2;grind
end Go.Sx
namespace Go.Sx
open Go.Xe
structure Pd where
 b:Nat
 i:Nat
 x:w9
structure En where
 i:Nat
 pre:Nat
 w:Bool
 nr:Bool
 r:Rd
 keys:Ah
 fr:Bool
def P8 (b:Nat):Ah->Bool
 | []=>false|k::l=>bif Nat.beq b k then true else P8 b l
theorem M7 {b:Nat}:∀ {l:Ah},P8 b l=false->b∉l
 | [],_=>by simp|k::l,h=>by
  unfold P8 at h;by_cases e:b=k
  ·simp_all
  ·rw[s7 e,cond_false]at h;simp[e,M7 h]
def kM (a r:Rd):Bool:=match a,r with
 | .mlk t b,.mlk t' b'=>Nat.beq t t'&&Nat.beq b b'|_,_=>false
def dj (pre:Nat)(keys:Ah)(ws:Rd)(e:En):Bool:=
 bif e.nr then(bif pre.testBit e.i then true else match e.r with
  | .free=>true| .frz=>true| .blk b=> !P8 b keys| .mlk t b=> !P8 b keys||kM ws (.mlk t b)
  | .bad=>false)else true
def cz (pre:Nat)(r:Rd)(y:En):Bool:=
 bif y.w then(bif pre.testBit y.i then true else match r with
  | .free=>true| .blk b=> !P8 b y.keys| .mlk t b=> !P8 b y.keys||kM y.r (.mlk t b)
  | .frz=> !y.fr|_=>false)else true
def PT (S0:Hp)(esX:List Ent)(k:Nat)(Sk:Hp):Prop:=(k=0/\Sk=S0)\/ ∃x∈esX,isW x=true/\k=x.i+1/\Sk=x.S2
def AH (P:Ax)(esX:List Ent)(e:Ent)(k:Nat)(Sk:Hp):Prop:=own esX e k=true\/N4 esX e k=false\/ ∃v,xrd P e.tm Sk e.o.op=some v/\veq 1000 v e.r=true
variable {esX:List Ent}
theorem AH.look {P:Ax}{e:Ent}{k:Nat}{Sk:Hp}(h:AH P esX e k Sk):J2 P esX e k Sk=true:=by
 unfold J2;rcases h with h|h| ⟨v,h1,h2⟩
 ·grind
 ·grind
 ·grind
def CV {a b:Nat}(h:a<b):Nat.blt a b=true:=Nat.ble_eq_true_of_le h
theorem Ik {a b:Nat}(h:b<=a):Nat.blt a b=false:=by
 cases hb:Nat.blt a b
 ·rfl
 ·simp_all;omega
theorem oY {e:Ent}{k:Nat}{y:Ent}(hy:y∈esX)(hw:isW y=true)(h:(y.i<k/\y.pre.testBit e.i=true)\/(k<=y.i/\e.pre.testBit y.i=true)):N4 esX e k=false:=by
 cases ha:N4 esX e k with
 |false=>rfl|true=>
  unfold N4 at ha;rw[List.all_eq_true]at ha;have:=ha y hy;rw[hw,cond_true]at this;rcases h with⟨h1,h2⟩| ⟨h1,h2⟩
  ·rw[CV h1,cond_true,h2]at this;cases this
  ·simp_all;omega
section
variable {P :Ax}{S0:Hp}
variable {esX:List Ent}{eX:Ent}{k:Nat}{Sk:Hp}
theorem AH.cons {e:Ent}(h:AH P esX e k Sk)(h1:k<=eX.i)(h2:e.i<=eX.i):AH P (eX::esX) e k Sk:=by
 rcases h with h|h|h
 ·refine .inl ?_;unfold own at h⊢;rw[List.all_cons,h,Bool.and_true,Ik h1,Ik h2];grind
 ·refine .inr (.inl ?_);unfold N4 at h⊢;grind
 ·exact .inr (.inr h)
structure DB (P:Ax)(S0:Hp)(i:Nat)(τ:Tau)(F:Ac)(s:SS)(S:Hp)(es:List En)(esX:List Ent):Prop where
 xi:∀e∈esX,e.i<i
 wx:∀y∈esX,isW y=true-> ∃en∈es,en.w=true/\en.i=y.i/\en.pre=y.pre
 wn:∀en∈es,en.w=true-> ∃y∈esX,isW y=true/\en.i=y.i/\en.pre=y.pre
 look:∀e∈esX,e.wt=true->d5 e.o.op=1-> ∀k Sk,PT S0 esX k Sk->AH P esX e k Sk
 ag:∀k Sk,PT S0 esX k Sk-> ∀b x j o,s.get b=some x->τ b=some (some (j,o))->(∀en∈es,en.w=true->k<=en.i->b∉en.keys)->Sk.m.get j=S.m.get j
 af:∀k Sk,PT S0 esX k Sk->(∀en∈es,en.w=true->k<=en.i->en.fr=false)-> ∀j y,F j=some y->Sk.m.get j=some y
 rd:∀e∈esX,e.wt=true->d5 e.o.op=1->veq 1000 e.r e.r=true/\ ∃en∈es,en.nr=true/\en.i=e.i/\sR P τ F e.S e.tm e.o.op e.r en.r/\
  (∀b,en.r= .blk b->(∀y∈es,y.w=true->e.i<y.i->y.pre.testBit e.i=false)-> ∃x j q,s.get b=some x/\τ b=some (some (j,q))/\S.m.get j=e.S.m.get j)/\
  ∀t b,en.r= .mlk t b->(∀y∈es,y.w=true->e.i<y.i->y.pre.testBit e.i=false)-> ∃x j q,s.get b=some x/\τ b=some (some (j,q))/\MS P t j e.S S
 am:∀t k Sk,PT S0 esX k Sk-> ∀b x j o,s.get b=some x->τ b=some (some (j,o))->(∀en∈es,en.w=true->k<=en.i->b∉en.keys\/kM en.r (.mlk t b)=true)->MS P t j Sk S
theorem PT.le {i:Nat}(hi:∀e∈esX,e.i<i)(h:PT S0 esX k Sk):k<=i:=by
 rcases h with⟨rfl,_⟩| ⟨x,hx,_,rfl,_⟩
 ·grind
 ·grind
theorem PT.cons (h:PT S0 (eX::esX) k Sk):PT S0 esX k Sk\/(isW eX=true/\k=eX.i+1/\Sk=eX.S2):=by
 rcases h with h| ⟨x,hx,hw,h1,h2⟩
 ·exact .inl (.inl h)
 ·rcases List.mem_cons.1 hx with rfl|hx
  ·grind
  ·exact .inl (.inr ⟨x,hx,hw,h1,h2⟩)
variable {F F':Ac}
def sR.mono {τ τ':Tau}{S:Hp}{tm:Ao}{o:Op}{v:Aw}{r:Rd}(ht:Tle τ τ')(hF:Fle F F')(h:sR P τ F S tm o v r):sR P τ' F' S tm o v r:=by
 cases r with
 |free=>exact h|blk b=>obtain⟨j,q,h1,h2⟩:=h;exact⟨j,q,ht _ _ h1,h2⟩
 |frz=>
  rcases h with h| ⟨j,y,h1,h2⟩
  ·exact .inl h
  ·exact .inr ⟨j,y,hF _ _ h1,h2⟩
 |mlk t b=>obtain⟨j,q,h1,h2⟩:=h;exact⟨j,q,ht _ _ h1,h2⟩
 |bad=>trivial
theorem DB.step {i:Nat}{τ τ':Tau}{s s':SS}{S S':Hp}{es:List En}(h:DB P S0 i τ F s S es esX){en:En}(ht:Tle τ τ')(hF:Fle F F')(hl:∀b x,s.get b=some x->τ' b=τ b)(ae:∀j y,F' j=some y->S'.m.get j=some y)(ad:(isW eX=true->en.fr=false)-> ∀j y,F' j=some y->F j=some y)(hg:∀b,b∉en.keys->s'.get b=s.get b)(Z:∀b x j o,s.get b=some x->τ b=some (some (j,o))->b∉en.keys->S'.m.get j=S.m.get j)(ei:en.i=i)(xi:eX.i=i)(hp:en.pre=eX.pre)(hw:en.w=isW eX)(X:eX.S2=S')(ab:isW eX=false->S'=S/\en.keys=[])(hf:isW eX=true->es.all (dj eX.pre en.keys en.r)=true)(hm:en.w=true-> ∀t b,kM en.r (.mlk t b)=true-> ∃x x' j q,s.get b=some x/\s'.get b=some x'/\τ b=some (some (j,q))/\MS P t j S S')(hr:eX.wt=true->d5 eX.o.op=1->veq 1000 eX.r eX.r=true/\en.nr=true/\eX.S=S/\sR P τ' F S eX.tm eX.o.op eX.r en.r/\(∀b,(en.r= .blk b\/ ∃t,en.r= .mlk t b)-> ∃x,s.get b=some x)/\es.all (cz eX.pre en.r)=true):DB P S0 (i+1) τ' F' s' S' (en::es) (eX::esX):=by
 have nk:∀b,(en.w=true->b∉en.keys)->b∉en.keys:=fun b hb=>by grind
 have ac:d5 eX.o.op=1->isW eX=false:=fun hk=>by unfold isW;rw[hk];rfl
 have wx:∀y∈eX::esX,isW y=true-> ∃a∈en::es,a.w=true/\a.i=y.i/\a.pre=y.pre:=by
  intro y hy T;rcases List.mem_cons.1 hy with rfl|hy
  ·grind
  ·obtain⟨e1,h1,h2⟩:=h.wx y hy T;grind
 have wn:∀a∈en::es,a.w=true-> ∃y∈eX::esX,isW y=true/\a.i=y.i/\a.pre=y.pre:=by
  intro y hy T;rcases List.mem_cons.1 hy with rfl|hy
  ·grind
  ·obtain⟨e1,h1,h2⟩:=h.wn y hy T;grind
 have rd:∀e∈eX::esX,e.wt=true->d5 e.o.op=1->veq 1000 e.r e.r=true/\ ∃a∈en::es,a.nr=true/\a.i=e.i/\sR P τ' F' e.S e.tm e.o.op e.r a.r/\
   (∀b,a.r= .blk b->(∀y∈en::es,y.w=true->e.i<y.i->y.pre.testBit e.i=false)-> ∃x j q,s'.get b=some x/\τ' b=some (some (j,q))/\S'.m.get j=e.S.m.get j)/\
   ∀t b,a.r= .mlk t b->(∀y∈en::es,y.w=true->e.i<y.i->y.pre.testBit e.i=false)-> ∃x j q,s'.get b=some x/\τ' b=some (some (j,q))/\MS P t j e.S S':=by
  intro e he Q hk;rcases List.mem_cons.1 he with rfl|he
  ·obtain⟨h1,h2,h3,h4,h5,h6⟩:=hr Q hk;obtain⟨l1,l2⟩:=ab (ac hk);refine⟨h1,en,by simp,h2,by rw[ei,xi],by rw[h3];exact h4.mono (Mx _) hF,fun b hb _=>?_,fun t b hb _=>?_⟩
   ·obtain⟨x,hx⟩:=h5 b (.inl hb);rw[hb]at h4;obtain⟨j,q,h7,_⟩:=h4;grind
   ·obtain⟨x,hx⟩:=h5 b (.inr ⟨t,hb⟩);rw[hb]at h4;obtain⟨j,q,h7,_⟩:=h4;exact⟨x,j,q,by rw[hg b (by rw[l2];simp)];exact hx,h7,by rw[h3,l1];exact MS.of rfl⟩
  ·obtain⟨h1,L,h2,h3,h4,h5,h6,W⟩:=h.rd e he Q hk;refine⟨h1,L,by simp[h2],h3,h4,h5.mono ht hF,fun b hb A=>?_,fun t b hb A=>?_⟩
   rotate_right 1
   ·obtain⟨x,j,q,h7,J,h9⟩:=W t b hb fun y hy=>A y (by simp[hy]);have B:b∉en.keys\/en.w=true/\kM en.r (.mlk t b)=true:=by
     cases C:en.w with
     |false=>exact .inl (nk b fun h=>by rw[C]at h;cases h)|true=>
      have D:=A en (by simp) C (by rw[ei];exact h.xi e he);have E:=hf (by rw[<-hw];exact C);rw[List.all_eq_true]at E;have h12:=E L h2;unfold dj at h12;rw[h3,cond_true,h4,<-hp,D,cond_false,hb]at h12;simp only[Bool.or_eq_true,Bool.not_eq_true']at h12;rcases h12 with h12|h12
      ·exact .inl (M7 h12)
      ·grind
    rcases B with B| ⟨C,Y⟩
    ·exact⟨x,j,q,by rw[hg b B];exact h7,ht _ _ J,h9.trans (MS.of (Z b x j q h7 J B))⟩
    ·obtain⟨_,x',j',q',_,g2,g3,g4⟩:=hm C t b Y;rw[J]at g3;cases g3;exact⟨x',j,q,g2,ht _ _ J,h9.trans g4⟩
   obtain⟨x,j,q,h7,J,h9⟩:=h6 b hb fun y hy=>A y (by simp[hy]);have B:b∉en.keys:=nk b fun C=>by have D:=A en (by simp) C (by rw[ei];exact h.xi e he);have E:=hf (by rw[<-hw];exact C);rw[List.all_eq_true]at E;have h12:=E L h2;unfold dj at h12;rw[h3,cond_true,h4,<-hp,D,cond_false,hb]at h12;simp only[Bool.not_eq_true']at h12;exact M7 h12
   grind
 refine⟨fun e he=>?_,wx,wn,?_,?_,fun k Sk c hc j y hj=>?_,rd,fun t k Sk c b x j o hb G R=>?_⟩
 rotate_right 1
 ·rcases c.cons with c| ⟨M,rfl,rfl⟩
  ·have V:=c.le h.xi;have B:b∉en.keys\/en.w=true/\kM en.r (.mlk t b)=true:=by grind
   rcases B with B| ⟨C,Y⟩
   ·rw[hg b B]at hb;rw[hl b x hb]at G;exact(h.am t k Sk c b x j o hb G fun a O=>R a (by simp[O])).trans (MS.of (Z b x j o hb G B))
   ·obtain⟨x0,_,j',q',g1,_,g3,g4⟩:=hm C t b Y;rw[hl b x0 g1,g3]at G;cases G;exact(h.am t k Sk c b x0 _ _ g1 g3 fun a O=>R a (by simp[O])).trans g4
  ·rw [X]; exact MS.of rfl
 rotate_right 1
 ·rcases c.cons with c| ⟨M,rfl,rfl⟩
  ·have V:=c.le h.xi;exact h.af k Sk c (fun a he=>hc a (List.mem_cons_of_mem _ he)) j y (ad (fun M=>hc en (by simp) (by rw[hw];exact M) (by omega)) j y hj)
  ·grind
 ·rcases List.mem_cons.1 he with rfl|he
  ·omega
  ·exact Nat.lt_succ_of_lt (h.xi e he)
 ·intro e he Q hk k Sk c;rcases List.mem_cons.1 he with rfl | he
  ·obtain⟨h1,h2,h3,h4,h5,h6⟩:=hr Q hk;have ai:=ac hk;rcases c.cons with c| ⟨hc,_⟩
   ·have N:∀a∈es,cz e.pre en.r a=true:=List.all_eq_true.1 h6;by_cases c1:∃y∈esX,isW y=true/\k<=y.i/\e.pre.testBit y.i=true
    ·obtain⟨y,hy,c2,c3,c4⟩:=c1;exact .inr (.inl (oY (List.mem_cons_of_mem _ hy) c2 (.inr ⟨c3,c4⟩)))
    ·have g:∀a∈es,a.w=true->k<=a.i->e.pre.testBit a.i=false:=by
      intro a he' aa V;obtain⟨y,hy,d1,d2,d3⟩:=h.wn a he' aa;cases ht:e.pre.testBit a.i with
      |false=>rfl|true=>exact absurd ⟨y,hy,d1,by omega,by rw[<-d2];exact ht⟩ c1
     by_cases c2:∃y∈esX,isW y=true/\k<=y.i
     ·obtain⟨y,hy,d1,d2⟩:=c2;obtain⟨a,e1,e2,e3,e4⟩:=h.wx y hy d1;have l1:=g a e1 e2 (by omega);have o1:=N a e1;unfold cz at o1;rw[e2,cond_true,l1,cond_false]at o1;refine .inr (.inr ⟨e.r,?_,h1⟩);cases d:en.r with
      |free=>rw[d]at h4;exact h4 Sk|blk b=>rw[d]at h4;obtain⟨j,q,h7,J⟩:=h4;obtain⟨x,hx⟩:=h5 b (.inl d);refine J Sk (h.ag k Sk c b x j q hx (by rw[<-hl b x hx];exact h7) fun H O m2 m3=>?_);have K:=N H O;unfold cz at K;rw[m2,cond_true,g H O m2 m3,cond_false,d]at K;simp only[Bool.not_eq_true']at K;exact M7 K
      |frz=>
       rw[d]at h4;rcases h4 with h4| ⟨j,w,h7,J⟩
       ·exact h4 Sk
       refine J Sk (h.af k Sk c (fun H O m2 m3=>?_) j w h7);have K:=N H O;unfold cz at K;rw[m2,cond_true,g H O m2 m3,cond_false,d]at K;simpa using K
      |mlk t b=>rw[d]at h4;obtain⟨j,q,h7,J⟩:=h4;obtain⟨x,hx⟩:=h5 b (.inr ⟨t,d⟩);refine J Sk (h.am t k Sk c b x j q hx (by rw[<-hl b x hx];exact h7) fun H O m2 m3=>?_).symm;have K:=N H O;unfold cz at K;rw[m2,cond_true,g H O m2 m3,cond_false,d]at K;simp only[Bool.or_eq_true,Bool.not_eq_true']at K;exact K.imp M7 id
      |bad=>rw[d]at o1;cases o1
     ·refine .inl ?_;unfold own;rw[List.all_eq_true];intro y hy;cases T:isW y with
      |false=>rfl|true=>
       rcases List.mem_cons.1 hy with rfl|hy
       ·grind
       ·have hlt:y.i<k:=by
         rcases Nat.lt_or_ge y.i k with hh|hh
         ·exact hh
         ·exact absurd ⟨y,hy,T,hh⟩ c2
        have:=h.xi y hy;rw[cond_true,CV hlt,CV (by omega)];rfl
   ·rw[ai]at hc;cases hc
  ·have aj:=h.xi e he;rcases c.cons with c| ⟨M,rfl,rfl⟩
   ·exact(h.look e he Q hk k Sk c).cons (by rw[xi];exact c.le h.xi) (by omega)
   ·by_cases c1:∃y∈eX::esX,isW y=true/\e.i<y.i/\y.pre.testBit e.i=true
    ·obtain⟨y,hy,c2,c3,c4⟩:=c1;refine .inr (.inl (oY hy c2 (.inl ⟨?_,c4⟩)));rcases List.mem_cons.1 hy with rfl|hy
     ·omega
     ·have:=h.xi y hy;omega
    ·have g:∀y∈en::es,y.w=true->e.i<y.i->y.pre.testBit e.i=false:=by
      intro a he' aa V;obtain⟨y,hy,d1,d2,d3⟩:=wn a he' aa;cases ht:a.pre.testBit e.i with
      |false=>rfl|true=>exact absurd ⟨y,hy,d1,by omega,by rw[<-d3];exact ht⟩ c1
     obtain⟨h1,L,h2,h3,h4,h5,h6,W⟩:=rd e (by simp[he]) Q hk;refine .inr (.inr ⟨e.r,?_,h1⟩);rw[X];cases d:L.r with
     |free=>rw[d]at h5;exact h5 S'|blk b=>rw[d]at h5;obtain⟨j,q,h7,J⟩:=h5;obtain⟨x,j',q',h9,D,E⟩:=h6 b d g;rw[h7]at D;cases D;exact J S' E
     |mlk t b=>rw[d]at h5;obtain⟨j,q,h7,J⟩:=h5;obtain⟨x,j',q',h9,D,E⟩:=W t b d g;rw[h7]at D;cases D;exact J S' E
     |frz=>
      rw[d]at h5;rcases h5 with h5| ⟨j,y,h7,J⟩
      ·exact h5 S'
      ·exact J S' (ae j y h7)
     |bad=>
      have ah:L∈es:=by
       rcases List.mem_cons.1 h2 with rfl|hm
       ·omega
       ·exact hm
      have o1:=hf M;rw[List.all_eq_true]at o1;have K:=o1 L ah;unfold dj at K;rw[h3,cond_true,h4,<-hp,g en (by simp) (by rw[hw,M]) (by omega),cond_false,d]at K;cases K
 ·intro k Sk c b x j o hb G R;rcases c.cons with c| ⟨M,rfl,rfl⟩
  ·have V:=c.le h.xi;have B:b∉en.keys:=nk b fun C=>R en (by simp) C (by omega);rw[hg b B]at hb;rw[hl b x hb]at G;rw[h.ag k Sk c b x j o hb G fun a O=>R a (by simp[O]),Z b x j o hb G B]
  ·rw[X]
end
end Go.Sx
namespace Go.Sx
open Go.Xe
def tkl (pd:List Pd):List (Nat×Bc w9):=pd.map fun p=>(p.b,some p.x)
def dm (s:SS)(pd:List Pd):SS:= {s with h:=tkl pd++s.h}
def vg (s:SS):SS:= {s with nx:=s.nx+1}
theorem Z5 {s:SS}{b:Nat}:∀ {pd:List Pd},(∀p∈pd,b≠p.b)->(dm s pd).get b=s.get b
 | [],_=>rfl|p::pd,h=>by have a:=Z5 (s:=s) (pd:=pd) fun q hq=>h q (List.mem_cons_of_mem _ hq);unfold SS.get dm tkl at a⊢;simp only[List.map_cons,List.cons_append,p8];grind
theorem nG {s:SS}{p:Pd}:∀ {pd:List Pd},p∈pd->pd.Pairwise (fun p q=>p.b≠q.b)->(dm s pd).get p.b=some p.x
 | [],h,_=>by simp at h|q::pd,h,hp=>by
  rw[List.pairwise_cons]at hp;by_cases e:q.b=p.b
  ·rcases List.mem_cons.1 h with rfl|h
   ·unfold SS.get dm tkl;simp only[List.map_cons,List.cons_append,p8,if_pos]
   ·grind
  ·have h':p∈pd:=by grind
   have a:=nG (s:=s) h' hp.2;unfold SS.get dm tkl at a⊢;simp only[List.map_cons,List.cons_append,p8];grind
section
variable {P :Ax}{U:Ab}{τ0:Tau}{F0:Ac}{s0:SS}{hp0:Hp}{n:Nat}
variable (P U) in
structure PDOK (s0:SS)(hp0:Hp)(i:Nat)(τ:Tau)(F:Ac)(s:SS)(esX:List Ent)(I:Nat)(p:Pd):Prop where
 lt:p.i<i
 un:I.testBit p.i=false
 g:s.get p.b=none
 lo:s0.nx<=p.b
 hi:p.b<s.nx
 t:τ p.b=some (some (hp0.nx+p.i,0))
 f:F (hp0.nx+p.i)=none
 u:∀c o,τ c=some (some (hp0.nx+p.i,o))->c=p.b
 e:∃e∈esX,e.i=p.i/\ ∃nw,e.nw=some nw/\BD P U τ F 0 p.x nw.blk
variable (P U) in
structure DA (τ0:Tau)(F0:Ac)(s0:SS)(hp0:Hp)(n i:Nat)(τ:Tau)(F:Ac)(s:SS)(S:Hp)(f:Fm)(tm:Ao)(pd:List Pd)(esX:List Ent)(I:Nat):Prop where
 sd:SD P U τ F s S
 td:TD P U τ F f tm
 ext:Ext τ0 F0 s0 hp0 τ F s S
 room:hp0.nx+n<=S.nx
 ib:∀j,i<=j->I.testBit j=false
 xd:esX.Pairwise (fun a b=>a.i≠b.i)
 pn:pd.Pairwise (fun p q=>p.b≠q.b)
 pds:∀p∈pd,PDOK P U s0 hp0 i τ F s esX I p
 cl:∀j,i<=j->j<n->(∀c o,τ c≠some (some (hp0.nx+j,o)))/\F (hp0.nx+j)=none
 tk:∀e∈esX,e.nw≠none->I.testBit e.i=false-> ∃p∈pd,p.i=e.i
variable {i :Nat}{τ:Tau}{F:Ac}{s:SS}{S:Hp}{f:Fm}{tm:Ao}{pd:List Pd}{esX:List Ent}{I:Nat}
variable {f':Fm}
def DA.fr (h:DA P U τ0 F0 s0 hp0 n i τ F s S f tm pd esX I)(hf:TD P U τ F f' tm):DA P U τ0 F0 s0 hp0 n i τ F s S f' tm pd esX I:= {h with td:=hf}
variable {eX:Ent}
def cD (c:esX.Pairwise (fun a b=>a.i≠b.i))(d:∀e∈esX,e.i<i)(he:eX.i=i):(eX::esX).Pairwise (fun a b=>a.i≠b.i):=by rw[List.pairwise_cons];exact⟨fun a ha=>by have:=d a ha;omega,c⟩
variable {tm':Ao}
theorem DA.keep (h:DA P U τ0 F0 s0 hp0 n i τ F s S f tm pd esX I)(r:∀e∈esX,e.i<i){s':SS}(d:SD P U τ F s' S)(o:TD P U τ F f' tm')(hh:s'.h=s.h)(hn:s'.nx=s.nx)(a:Ext τ F s S τ F s' S)(he:eX.i=i)(hw:eX.nw=none):DA P U τ0 F0 s0 hp0 n (i+1) τ F s' S f' tm' pd (eX::esX) I:=by
 have A:∀b,s'.get b=s.get b:=fun b=>by unfold SS.get;rw[hh]
 refine⟨d,o,h.ext.trans a,h.room,fun j hj=>h.ib j (by omega),cD h.xd r he,h.pn,fun p hp=>?_,fun j hj=>h.cl j (by omega),fun e hm c=>?_⟩
 ·have k:=h.pds p hp;obtain⟨e,w,y⟩:=k.e;exact⟨by have:=k.lt;omega,k.un,by rw[A];exact k.g,k.lo,by rw[hn];exact k.hi,k.t,k.f,k.u,⟨e,by simp[w],y⟩⟩
 ·rcases List.mem_cons.1 hm with rfl|hm
  ·grind
  ·exact h.tk e hm c
theorem DA.pend (h:DA P U τ0 F0 s0 hp0 n i τ F s S f tm pd esX I)(L:∀e∈esX,e.i<i)(H:i<n){x:w9}{nw:Nw}(K:TD P U (put τ s.nx (some (hp0.nx+i,0))) F f' tm')(G:BD P U (put τ s.nx (some (hp0.nx+i,0))) F 0 x nw.blk)(he:eX.i=i)(hw:eX.nw=some nw):DA P U τ0 F0 s0 hp0 n (i+1) (put τ s.nx (some (hp0.nx+i,0))) F (vg s) S f' tm' (⟨s.nx,i,x⟩::pd) (eX::esX) I:=by
 have h0:τ s.nx=none:=h.sd.new _ (Nat.le_refl _);have d:=js (τ:=τ) (some (hp0.nx+i,0)) h0;obtain⟨V,O⟩:=h.cl i (Nat.le_refl _) H;have J:=h.room;have old:∀b,b≠s.nx->put τ s.nx (some (hp0.nx+i,0)) b=τ b:=fun b hb=>F5 τ _ hb;have w:∀b x,s.get b=some x->b≠s.nx:=fun b x hb=>by have:=h.sd.bound hb;omega
 refine⟨⟨fun b y hb=>?_,fun b c y z k o j q hb hc A D E=>?_,h.sd.frz,fun b j o hb=>?_,h.sd.flt,fun b hb=>?_,h.sd.fc,fun r hr=>(h.sd.fz r hr).mono d (LZ F)⟩,K,?_,h.room,fun j hj=>h.ib j (by omega),cD h.xd L he,?_,fun p hp=>?_,fun j hj C=>?_,fun e hm A T=>?_⟩
 ·have a:s.get b=some y:=hb;rcases h.sd.live b y a with⟨k,o,z,h1,h2,h3,h4⟩| ⟨h1,h2⟩
  ·exact .inl ⟨k,o,z,by rw[old b (w b y a)];exact h1,h2,h3,h4.mono d (LZ F)⟩
  ·grind
 ·have a:s.get b=some y:=hb;have B:s.get c=some z:=hc;rw[old b (w b y a)]at D;rw[old c (w c z B)]at E;exact h.sd.inj b c y z k o j q a B A D E
 ·by_cases e:b=s.nx
  ·subst e;rw[o9]at hb;grind
  ·rw[old b e]at hb;exact h.sd.lt b j o hb
 ·have:s.nx+1<=b:=hb;rw[old b (by omega)];exact h.sd.new b (by omega)
 ·obtain⟨l,a1,a2,a3,a4,a5⟩:=h.ext.hh;refine⟨h.ext.t.trans d,h.ext.f,h.ext.nx,Nat.le_trans h.ext.snx (Nat.le_succ _),fun b hb=>?_,h.ext.low,⟨l,a1,a2,fun b j o hb M=>?_,fun j y hj hy=>?_,a5⟩,h.ext.hf,h.ext.win⟩
  ·have:=h.ext.snx;rw[old b (by omega)];exact h.ext.st b hb
  ·by_cases e:b=s.nx
   ·subst e;rw[o9]at M;grind
   ·grind
  ·grind
 ·rw[List.pairwise_cons];exact⟨fun p hp=>by have:=(h.pds p hp).hi;exact Nat.ne_of_gt this,h.pn⟩
 ·rcases List.mem_cons.1 hp with rfl|hp
  ·refine⟨Nat.lt_succ_self i,h.ib i (Nat.le_refl _),?_,h.ext.snx,Nat.lt_succ_self _,o9 _ _ _,O,fun c o hc=>?_,⟨eX,by simp,he,nw,hw,G⟩⟩
   ·cases hq:(vg s).get s.nx with
    |none=>rfl|some y=>exact absurd rfl (w s.nx y hq)
   ·grind
  ·have k:=h.pds p hp;obtain⟨e,D,E,N,Q,R⟩:=k.e;refine⟨by have:=k.lt;omega,k.un,k.g,k.lo,Nat.lt_succ_of_lt k.hi,d _ _ k.t,k.f,fun c o hc=>?_,⟨e,by simp[D],E,N,Q,R.mono d (LZ F)⟩⟩;by_cases e:c=s.nx
   ·subst e;rw[o9]at hc;grind
   ·rw[old c e]at hc;exact k.u c o hc
 ·refine⟨fun c o hc=>?_,(h.cl j (by omega) C).2⟩;by_cases e:c=s.nx
  ·subst e;rw[o9]at hc;grind
  ·rw[old c e]at hc;exact(h.cl j (by omega) C).1 c o hc
 ·rcases List.mem_cons.1 hm with rfl|hm
  ·simp_all
  ·obtain⟨p,hp,e⟩:=h.tk e hm A T;grind
theorem DA.take (h:DA P U τ0 F0 s0 hp0 n i τ F s S f tm pd esX I)(m:Nat->Bool)(hm:∀e∈esX,e.nw≠none->(m e.i=true↔ ∃p∈pd,p.i=e.i)):SD P U τ F (dm s pd) (takes hp0.nx m esX S)/\Ext τ0 F0 s0 hp0 τ F (dm s pd) (takes hp0.nx m esX S)/\(takes hp0.nx m esX S).nx=S.nx/\ ∀j,(∀p∈pd,j≠hp0.nx+p.i)->(takes hp0.nx m esX S).m.get j=S.m.get j:=by
 have r:=iG (nx0:=hp0.nx) (m:=m) esX S;have d:∀j,(∀p∈pd,j≠hp0.nx+p.i)->(takes hp0.nx m esX S).m.get j=S.m.get j:=fun j hj=>jG esX S fun e he B M=>by grind
 have E:∀p∈pd,∃y,(takes hp0.nx m esX S).m.get (hp0.nx+p.i)=some y/\BD P U τ F 0 p.x y:=fun p hp=>by obtain⟨e,C,A,nw,K,Q⟩:=(h.pds p hp).e;have:=qe (nx0:=hp0.nx) (m:=m) esX S C K ((hm e C (by rw[K];simp)).2 ⟨p,hp,A.symm⟩) h.xd;grind
 have inv:∀b y,(dm s pd).get b=some y->(∃p∈pd,b=p.b/\y=p.x)\/((∀p∈pd,b≠p.b)/\s.get b=some y):=by
  intro b y hb;by_cases c:∃p∈pd,b=p.b
  ·obtain⟨p,hp,rfl⟩:=c;rw[nG hp h.pn,Option.some.injEq]at hb;grind
  ·have hn:∀p∈pd,b≠p.b:=fun p hp e=>c ⟨p,hp,e⟩;rw[Z5 hn]at hb;grind
 have apart:∀b y j o,s.get b=some y->τ b=some (some (j,o))-> ∀p∈pd,j≠hp0.nx+p.i:=by intro b y j o hb G p hp e;subst e;have:=(h.pds p hp).u b o G;subst this;rw[(h.pds p hp).g]at hb;cases hb
 have H:∀j y,F j=some y-> ∀p∈pd,j≠hp0.nx+p.i:=fun j y hj p hp e=>by subst e;rw[(h.pds p hp).f]at hj;cases hj
 have J:=h.room;refine⟨⟨fun b y hb=>?_,fun b c y z k o j q hb hc B C A=>?_,fun j y hj=>by rw[d j (H j y hj)];exact h.sd.frz j y hj,fun b j o hb=>by rw[r];exact h.sd.lt b j o hb,fun j y hj=>by rw[r];exact h.sd.flt j y hj,h.sd.new,h.sd.fc,h.sd.fz⟩,?_,r,d⟩
 ·rcases inv b y hb with⟨p,hp,rfl,rfl⟩| ⟨hn,a⟩
  ·obtain⟨y,h1,h2⟩:=E p hp;exact .inl ⟨_,0,y,(h.pds p hp).t,h1,(h.pds p hp).f,h2⟩
  ·rcases h.sd.live b y a with⟨k,o,z,h1,h2,h3,h4⟩|h1
   ·grind
   ·grind
 ·rcases inv b y hb with⟨p,hp,rfl,rfl⟩| ⟨hn,a⟩
  ·rw[(h.pds p hp).t]at C;cases C;rcases inv c z hc with⟨p2,hp2,rfl,rfl⟩| ⟨hn,D⟩
   ·rw[(h.pds p2 hp2).t]at A;cases A;intro e;exact B ((h.pds p2 hp2).u _ 0 (by rw[(h.pds p hp).t,e]))
   ·grind
  ·rcases inv c z hc with⟨p2,hp2,rfl,rfl⟩| ⟨N,D⟩
   ·rw[(h.pds p2 hp2).t]at A;cases A;grind
   ·exact h.sd.inj b c y z k o j q a D B C A
 ·obtain⟨l,a1,a2,a3,a4,a5⟩:=h.ext.hh;have ge:∀j,j<hp0.nx-> ∀p∈pd,j≠hp0.nx+p.i:=fun j hj p hp=>by omega
  refine⟨h.ext.t,h.ext.f,by rw[r];exact h.ext.nx,h.ext.snx,h.ext.st,fun b y hb hlt=>?_,⟨tkl pd++l,by show tkl pd++s.h=_;rw[a1,List.append_assoc],fun j hj O=>?_,fun b j o hb G=>?_,fun j y hj hy=>?_,fun hp=>a5 fun p h=>hp p (List.mem_append_right _ h)⟩,h.ext.hf,
   let⟨l',b1,w⟩:=h.ext.win;⟨tkl pd++l',by show tkl pd++s.h=_;rw[b1,List.append_assoc],fun b c e z j o cs n hb ht hj L hl=>by rw[d j (ge j hj)];exact w b c e z j o cs n hb ht hj L fun x hx=>hl x (List.mem_append_right _ hx)⟩⟩
  ·rcases inv b y hb with⟨p,hp,rfl,rfl⟩| ⟨hn,a⟩
   ·exact absurd hlt (Nat.not_lt.2 (h.pds p hp).lo)
   ·exact h.ext.low b y a hlt
  ·grind
  ·grind
  ·grind
theorem DA.write (h:DA P U τ0 F0 s0 hp0 n i τ F s S f tm pd esX I)(D:∀e∈esX,e.i<i){pre:Nat}(g:pre<2^i)(H:∀p∈pd,pre.testBit p.i=true){s1 s':SS}{S1 S':Hp}{τ':Tau}{F':Ac}(G:S1.nx=S.nx)(C:Ext τ0 F0 s0 hp0 τ F s1 S1)(a:Ext τ F s1 S1 τ' F' s' S')(A:SD P U τ' F' s' S')(B:TD P U τ' F' f' tm')(he:eX.i=i)(hw:eX.nw=none):DA P U τ0 F0 s0 hp0 n (i+1) τ' F' s' S' f' tm' [] (eX::esX) (I|||pre):=by
 have w:=h.room;have cl:∀j,i+1<=j->j<n-> ∀c o,τ' c≠some (some (hp0.nx+j,o)):=by
  intro j hj d c o hc;have old:=(h.cl j (by omega) d).1;by_cases hlt:c<s1.nx
  ·rw[a.st c hlt]at hc;exact old c o hc
  ·rcases a.fresh c _ o (Nat.le_of_not_lt hlt) hc with h1| ⟨b0,x,o0,h1,h2⟩
   ·omega
   ·grind
 refine⟨A,B,C.trans a,by have:=a.nx;omega,fun j hj=>?_,cD h.xd D he,.nil,fun p hp=>by simp at hp,fun j hj d=>⟨cl j hj d,?_⟩,fun e hm r E=>?_⟩
 ·rw[Nat.testBit_or,h.ib j (by omega),Bool.false_or];exact Nat.testBit_lt_two_pow (Nat.lt_of_lt_of_le g (Nat.pow_le_pow_right (by omega) (by omega)))
 ·cases hq:F' (hp0.nx+j)with
  |none=>rfl|some y=>
   obtain⟨l,_,_,_,a4,_⟩:=a.hh;rcases a4 _ y (by omega) hq with h1| ⟨b,o,h1,_⟩
   ·rw[(h.cl j (by omega) d).2]at h1;cases h1
   ·grind
 ·rcases List.mem_cons.1 hm with rfl|hm
  ·grind
  ·rw[Nat.testBit_or,Bool.or_eq_false_iff]at E;obtain⟨p,hp,J⟩:=h.tk e hm r E.1;grind
end
end Go.Sx
