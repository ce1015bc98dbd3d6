/- The executor, parts 8, 9, M, C, 10, 11, 12.
  Conditions: none. -/
import Derived.Test.YtoegfalhkackeaaGreatXm1
import Derived.Lib.AppendZerosOnto
import Derived.Lib.Overlaps
import Derived.LoopNIn
import Derived.RangeFuncNested
set_option linter.all false
noncomputable section
namespace Go.Xe
open Go.RowKit
section
variable {P :Aw}{B:BS}{w0:Bc}{σ:Sg}{hp:Hp}{w:Bc}
def y9 (hp:Hp)(size:Nat)(x:Av):Bb (Nat×Af):=
 match x with
 | .slice none n _=>bif Nat.beq n 0 then some (0,[])else none| .slice (some ⟨i,o,none⟩) n _=>match hp.m.get i with
  |some b=>match rdC b with
   | some (c, k, _) => bif Nat.ble (o + n * size) k then
     match j7 c o (n*size)with
     |some vs=>some (n,vs)|none=>none
    else none
   |none=>none
  |none=>none
 | .slice (some ⟨0,0,some 0⟩) 0 _=>some (0,[])|_=>none
variable {x x':Av}{vs:Af}
theorem oC {size n:Nat}(h:y9 hp size x=some (n,vs))(hx:VR σ x x')(f:HR B w0 σ hp w):∃us,VRL σ vs us/\us.length=n*size/\(∃b c,x'= .slice b n c/\(b=none->n=0/\us=[])/\ ∀a,b=some a-> ∀j u,us[j]? =some u->w.cell? (a.add j)=some u):=by
 unfold y9 at h;split at h
 .rename_i k c;cases hb:Nat.beq k 0 with
  |false=>grind|true=>rw[hb,Tk]at h;cases h;have hk:=SY hb;subst hk;cases hx;exact⟨[],VP σ,by simp,none,c,rfl,(λ_=>⟨rfl,rfl⟩),(λa l=>by grind)⟩
 .rename_i i o k cap;split at h
  .rename_i b hg;split at h
   .rename_i c m z hr;cases hb:Nat.ble (o+k*size) m with
    |false=>grind|true=>
     rw[hb,Tk]at h;split at h
     .rename_i g hl;cases h;cases hx with
      |slice _ _ p _ _ c' hp' hc d=>
      obtain⟨us,h1,h2,h3⟩:=f.cellsR hg hr (SX hb) hl hp';grind
     cases h
   cases h
  cases h
 .simp at h;obtain⟨rfl,rfl⟩:=h;cases hx with
  |vague q c'=>exact⟨[],VP σ,by simp,_,c',rfl,(λh=>by grind),(by grind)⟩
 cases h
variable {us:Af}
def gT {size n:Nat}{b:Aq}{c:Nat}(d:us.length=n*size)(hn:b=none->n=0/\us=[])(hs:∀a,b=some a-> ∀j u,us[j]? =some u->w.cell? (a.add j)=some u):(Builtin.firstCells size n (.slice b n c)).run P w= .ok us.toArray w:=by
 cases b with
 |none=>obtain⟨rfl,rfl⟩:=hn rfl;exact run_firstCells_none w size 0 0 c
 |some a=>exact run_firstCells_some w size n a n c us d (hs a rfl)
variable {w':Bc}
def P1 (t u ty e j:Ax)(i:Ba)(ht:P.underlying t=some (.slice e))(l:P.underlying u=some (.slice j))(hi:P.info? e=some i)(a:Addr)(d f n c:Nat)(b:Aq)(us:Af)(hf:(Builtin.firstCells i.size n (.slice b n c)).run P w= .ok us.toArray w)(g:d+n<=f)(h:(storeCells (a.add (d*i.size)) us).run P w= .ok () w'):(Builtin.append_ #[t,u] ty #[.slice (some a) d f,.slice b n c]).run P w= .ok (.slice (some a) (d+n) f) w':=by simp[Builtin.append_,Ts ht,Ts l,sizeOf,typeInfo,hi,Builtin.lenOf,g,hf,h]
theorem W0 (t u ty e y:Ax)(i:Ba)(z:Av)(ht:P.underlying t=some (.slice e))(C:P.underlying u=some (.slice y))(hi:P.info? e=some i)(hz:i.zero=some z)(g:Aq)(d f n c:Nat)(b:Aq)(h us:Af)(p:∀w',w'.heap=w.heap->(Builtin.firstCells i.size d (.slice g d f)).run P w'= .ok h.toArray w')(hf:∀w',w'.heap=w.heap->(Builtin.firstCells i.size n (.slice b n c)).run P w'= .ok us.toArray w')(hg:f<d+n)(A:((d+n:Nat):Int)<=9223372036854775807)(q:Builtin.nextslicecap (d+n) f*i.bytes<=281474976710656):(Builtin.append_ #[t,u] ty #[.slice g d f,.slice b n c]).run P w= .ok (.slice (some ⟨w.heap.size,0,none⟩) (d+n) (grownCap w (d+n) f e)) (w.drew.alloc (.cells (h.toArray++us.toArray++Builtin.zeroCells z.cells (grownCap w (d+n) f e-(d+n))) e)):=by
 have hn:¬(d+n<=f):=by omega
 have l:¬(9223372036854775807<((d:Int)+(n:Int))):=by omega
 have j:¬(281474976710656<Builtin.nextslicecap (d+n) f*i.bytes):=by omega
 have s:=hf w.drew rfl;have m:=p w.drew rfl;simp[Builtin.append_,Ts ht,Ts C,sizeOf,typeInfo,zeroValue,hi,hz,Builtin.lenOf,hn,l,j,Question.forced,s,m,newRow,grownCap];grind
theorem HR.kill (h:HR B w0 σ hp w)(i:Nat):HR B w0 σ {hp with m:=hp.m.set i none} w:=by refine h.sub (Tq _) λj b hj=>?_;have hj:(hp.m.set i none).get j=some b:=hj;rw[VF]at hj;grind
theorem HR.grown (g:HR B w0 σ hp w)(hv:VRL σ vs us)(d:Al)(c:Ao)(hc:∀j,j<vs.length->c.get j=vs[j]?)(e z:Nat):HR B w0 (σ.ext hp.nx ⟨w.heap.size,0,us.length+d.size,z⟩) ⟨hp.m.set hp.nx (some (.cells c vs.length e z)),hp.nx+1⟩ (w.drew.alloc (.cells (us.toArray++d) e)):=by
 have:=g.drew.alloc c vs.length e z (us.toArray++d) (by rw[hv.1];simp) (λj hj=>by
  have f:j<us.length:=by rw[<-hv.1];exact hj
  refine⟨vs[j],us[j],by grind,?_,hv.2 j _ _ (by simp) (by simp)⟩;simp[Array.getElem?_append,f])
 simp_all
def HR.of_same (h:HR B w0 σ hp w){hp2:Hp}(hn:hp2.nx=hp.nx)(hm:∀i,hp2.m.get i=hp.m.get i):HR B w0 σ hp2 w:=
 h.sub (Nat.le_of_eq hn.symm) λi b hg=>by rw[<-hm];exact hg
def D1 (P:Aw)(hp:Hp)(t u:Ax)(s x:Av):Bb (Av×Hp):=
 match P.underlying t,P.underlying u with
 |some (.slice e),some (.slice _)=>match P.info? e with
  |none=>none|some ie=>match ie.zero with
   |none=>none
   | some z => bif Nat.beq z.cells.toList.length ie.size && Nat.ble ie.bytes 1048576 then
     match y9 hp ie.size x with
     |none=>none|some (n,news)=>match s with
      | .slice none sLen sCap => bif Nat.beq sLen 0 && Nat.beq sCap 0 && Nat.ble n 67108864 then
        bif Nat.beq n 0 then some (.slice none 0 0,hp)
        else some (.slice (some ⟨hp.nx,0,none⟩) n (d8 n 0),hp.new news e ie.size)
       else none
      | .slice (some ⟨i,o,none⟩) sLen sCap=>match hp.m.get i with
       |some (.cells c k e' z')=>
        bif Nat.ble (sLen+n) 67108864&&news.all Value.oneCell' then
         bif Nat.beq n 0 then
          bif Nat.ble sLen sCap then some (.slice (some ⟨i,o,none⟩) sLen sCap,hp)else none
         else
          bif Nat.ble unk sCap then
           bif Nat.ble 1 (E7 sCap)&&Nat.ble (E7 sCap) (sLen+n)then
            bif Nat.ble (o+sLen*ie.size) k then
             match j7 c o (sLen*ie.size)with
             |none=>none|some olds=>some (.slice (some ⟨hp.nx,0,none⟩) (sLen+n) (d8 (sLen+n) 0),hp.new (olds++news) e ie.size)
            else none
           else bif Nat.beq z' ie.size&&Nat.beq e' e&&Nat.ble (o+sLen*ie.size) k then
            bif Nat.ble (sLen+n) (O8 sCap)then
             some (.slice (some ⟨i,o,none⟩) (sLen+n) sCap,qK hp i c (Nat.max k (o+(sLen+n)*ie.size)) e' z' (o+sLen*ie.size) news)
            else
            match j7 c o (sLen*ie.size)with
            |none=>none|some olds=>
             (bif Nat.beq o 0 then fill c (sLen*ie.size) news else fill (fill .e 0 olds) (sLen*ie.size) news).force λct=>
              some (.slice (some ⟨hp.nx,0,none⟩) (sLen+n) (d8 (sLen+n) 0),⟨(hp.m.set i none).set hp.nx (some (.cells ct ((sLen+n)*ie.size) e' z')),hp.nx+1⟩)
           else none
          else bif Nat.ble (sLen+n) sCap then
           bif Nat.ble (o+(sLen+n)*ie.size) k then
            some (.slice (some ⟨i,o,none⟩) (sLen+n) sCap,qK hp i c k e' z' (o+sLen*ie.size) news)
           else none
          else
           bif Nat.ble (o+sLen*ie.size) k then
            match j7 c o (sLen*ie.size)with
            |none=>none|some olds=>some (.slice (some ⟨hp.nx,0,none⟩) (sLen+n) (d8 (sLen+n) 0),hp.new (olds++news) e ie.size)
           else none
        else none
       |some (.ro c k _ _)=>
        bif Nat.ble (sLen+n) 67108864&&Nat.ble sLen sCap&& !Nat.ble unk sCap then
         bif Nat.beq n 0 then some (.slice (some ⟨i,o,none⟩) sLen sCap,hp)
         else bif Nat.ble (sLen+n) sCap then none
         else bif Nat.ble (o+sLen*ie.size) k then
          match j7 c o (sLen*ie.size)with
          |none=>none|some olds=>some (.slice (some ⟨hp.nx,0,none⟩) (sLen+n) (d8 (sLen+n) 0),hp.new (olds++news) e ie.size)
         else none
        else none
       |_=>none
      |_=>none
    else none
 |_,_=>none
def A9 {c:Ao}:∀ {vs:Af} {o:Nat},(∀j,j<vs.length->c.get (o+j)=vs[j]?)->j7 c o vs.length=some vs
 | [],o,_=>rfl|v::vs,o,h=>by simp only[TM,j7];have h0:=h 0 (by simp);simp only[Uj,Tj]at h0;rw[h0];have:=A9 (c:=c) (vs:=vs) (o:=o+1) (λj hj=>by have:=h (j+1) (by simp;omega);rw[show o+(j+1)=o+1+j by omega]at this;simpa using this);rw[this]
theorem VR.unkSlice (σ:Sg)(i:Nat)(p:Pl)(d:p.dl=0){l c':Nat}(hl:l<=c')(hb:c'*p.esz<=p.siz):VR (σ.ext i p) (.slice (some ⟨i,0,none⟩) l (d8 l 0)) (.slice (some ⟨p.blk,0,none⟩) l c'):=by have:=VR.slice (σ:=σ.ext i p) i 0 p l (d8 l 0) c' (Vy _ _ _) (.inr ⟨q0 _ _,by rw[H6 F6];exact hl,.inl (G3 F6),by omega⟩) hl;grind
def iI (h:w'.heap=w.heap)(a:Addr):w'.cell? a=w.cell? a:=by unfold World.cell?;rw[h]
set_option maxHeartbeats 1000000 in
theorem yH {t u:Ax}{s s':Av}{v:Av}{hp':Hp}(h:D1 P hp t u s x=some (v,hp'))(hs:VR σ s s')(hx:VR σ x x')(J:HR B w0 σ hp w)(ty:Ax):MOK hp B w0 σ v hp' ((Builtin.append_ #[t,u] ty #[s',x']).run P w):=by
 unfold D1 at h;split at h;case h_2=>cases h
 rename_i e e2 ht Q;split at h;cases h;rename_i ie H;split at h;cases h;rename_i z hz;cases hb:Nat.beq z.cells.toList.length ie.size&&Nat.ble ie.bytes 1048576 with
 |false=>grind|true=>
 rw[hb,Tk]at h;simp only[SR]at hb;have ez:z.cells.size=ie.size:=by simp_all
 have eb:=SX hb.2;split at h;cases h;rename_i n news bi;obtain⟨us,hv,C,b,c,rfl,au,av⟩:=oC bi hx J;have O:news.length=n*ie.size:=by rw[hv.1];exact C
 have hf:(Builtin.firstCells ie.size n (.slice b n c)).run P w= .ok us.toArray w:=gT C au av;have ak:∀w':Bc,w'.heap=w.heap->(Builtin.firstCells ie.size n (.slice b n c)).run P w'= .ok us.toArray w':=λw' hh=>
  gT C au (λa ha j u Q=>by rw[iI hh];exact av a ha j u Q)
 split at h
 .rename_i d f;cases h0:Nat.beq d 0&&Nat.beq f 0&&Nat.ble n 67108864 with
  |false=>grind|true=>
  rw[h0,Tk]at h;simp only[SR]at h0;have e1:=SY h0.1.1;have bg:=SY h0.1.2;have hn:=SX h0.2;subst e1;subst bg;cases hs;cases q:Nat.beq n 0 with
  |true=>rw[q,Tk]at h;cases h;have:=SY q;subst this;have ab:us=[]:=SZ (by simpa using C);refine⟨σ,.slice none 0 0,w,?_,Vz _ σ,.nils 0 0,J⟩;simp[Builtin.append_,Ts ht,Ts Q,sizeOf,typeInfo,H,Builtin.lenOf,hf]
  |false=>
   rw[q,Tl]at h;cases h;have ad:n≠0:=λe=>by rw[e]at q;cases q
   have hr:=W0 (P:=P) (w:=w) t u ty e e2 ie z ht Q H hz none 0 0 n c b [] us (λw' _=>run_firstCells_none w' ie.size 0 0 0) ak (by omega) (by omega)
    (growslice_fits (by omega) (by have:=Nat.mul_le_mul (show 0+n<=67108864 by omega) eb;omega))
   simp only[TA]at hr;have hge:=grownCap_ge w n 0 e;have L:=J.grown hv (Builtin.zeroCells z.cells (grownCap w n 0 e-n)) (fill .e 0 news) (λj hj=>p7 news j hj) e ie.size;refine⟨_,_,_,hr,J.le_new _,VR.unkSlice σ hp.nx ⟨w.heap.size,0,us.length+(Builtin.zeroCells z.cells (grownCap w n 0 e-n)).size,ie.size⟩ rfl hge ?_,?_⟩;show grownCap w n 0 e*ie.size<=us.length+_;rw[size_zeroCells,C,ez,<-TF];grind;simpa [Hp.new]using L
 .rename_i i o d f;split at h;case h_3=>cases h
  case h_2=>
   rename_i k0 k e' z' hg;cases h0:Nat.ble (d+n) 67108864&&Nat.ble d f&& !Nat.ble unk f with
   |false=>grind|true=>
   rw[h0,Tk]at h;simp only[SR,TP]at h0;obtain⟨⟨g1,g2⟩,g3⟩:=h0;have hn:=SX g1;have g3:¬unk<=f:=λh=>by rw[Ta h]at g3;cases g3
   cases hs with
   |slice _ _ p _ _ c' E S al=>
   obtain⟨rfl,_⟩:f=c'/\f<unk:=by grind
   cases q:Nat.beq n 0 with
   |true=>rw[q,Tk]at h;have:=SY q;subst this;have ab:us=[]:=SZ (by simpa using C);subst ab;cases h;refine⟨σ,_,w,P1 t u ty e e2 ie ht Q H _ d f 0 c b [] hf (by omega) (by simp[storeCells]),Vz _ σ,.slice i o p d f f E S al,J⟩
   |false=>
   rw[q,Tl]at h;have ad:n≠0:=λe=>by rw[e]at q;cases q
   cases an:Nat.ble (d+n) f with
   |true=>grind|false=>
   rw[an,Tl]at h;have hlt:f<d+n:=Nat.lt_of_not_le λh=>by rw[Ta h]at an;cases an
   cases A:Nat.ble (o+d*ie.size) k with
   |false=>grind|true=>
   rw[A,Tk]at h;have A:=SX A;split at h;cases h;rename_i l I;simp only[SQ,SU]at h;obtain⟨rfl,rfl⟩:=h;obtain⟨y,ap,D,ae⟩:=J.cellsR hg rfl A I E;have aj:∀w':Bc,w'.heap=w.heap->(Builtin.firstCells ie.size d (.slice (some ⟨p.blk,p.dl+o,none⟩) d f)).run P w'= .ok y.toArray w':=λw' hh=>
    run_firstCells_some w' ie.size d _ d f y D (λj u Q=>by rw[iI hh];exact ae j u Q)
   have hr:=W0 (P:=P) (w:=w) t u ty e e2 ie z ht Q H hz (some ⟨p.blk,p.dl+o,none⟩) d f n c b y us aj ak hlt (by omega)
    (growslice_fits hlt (by have:=Nat.mul_le_mul hn eb;omega))
   have hge:=grownCap_ge w (d+n) f e;have G:=ap.append hv;have ah:(l++news).length=(d+n)*ie.size:=by rw[G.1,Tv,D,C,TF]
   have L:=J.grown G (Builtin.zeroCells z.cells (grownCap w (d+n) f e-(d+n))) (fill .e 0 (l++news)) (λj hj=>p7 _ j hj) e ie.size;have ao:(y++us).length=(d+n)*ie.size:=by rw[<-G.1];exact ah
   rw[show(y++us).toArray=y.toArray++us.toArray by simp]at L;refine⟨_,_,_,hr,J.le_new _,VR.unkSlice σ hp.nx ⟨w.heap.size,0,(y++us).length+(Builtin.zeroCells z.cells (grownCap w (d+n) f e-(d+n))).size,ie.size⟩ rfl hge ?_,by simpa [Hp.new]using L⟩;show grownCap w (d+n) f e*ie.size<=(y++us).length+_;rw[size_zeroCells,ao,ez,<-TF];grind
  rename_i k0 k e' z' hg;cases h0:Nat.ble (d+n) 67108864&&news.all Value.oneCell' with
  |false=>rw[h0]at h;cases h
  |true=>
  rw[h0,Tk]at h;simp only[SR]at h0;have hn:=SX h0.1;have V:=hv.all_oneCell h0.2;cases hs with
  |slice _ _ p _ _ c' E S al=>
  obtain⟨k1,k2⟩:=J.place hg E;cases q:Nat.beq n 0 with
  |true=>
   rw[q,Tk]at h;have:=SY q;subst this;have ab:us=[]:=SZ (by simpa using C);subst ab;cases X:Nat.ble d f with
   |false=>simp_all|true=>rw[X,Tk]at h;simp only[SQ,SU]at h;obtain⟨rfl,rfl⟩:=h;refine⟨σ,_,w,P1 t u ty e e2 ie ht Q H _ d c' 0 c b [] hf (by omega) (by simp[storeCells]),Vz _ σ,.slice i o p d f c' E S al,J⟩
  | false =>
  rw[q,Tl]at h;have ad:n≠0:=λe=>by rw[e]at q;cases q
  have grow:∀l:Af,j7 k0 o (d*ie.size)=some l->o+d*ie.size<=k->c'<d+n-> ∀(Z:Hp),HR B w0 σ Z w-> ∀ct:Ao,(∀j,j<(l++news).length->ct.get j=(l++news)[j]?)->
    ∀ex zx,ex=e->zx=ie.size->Z.nx=hp.nx->
    MOK hp B w0 σ (.slice (some ⟨hp.nx,0,none⟩) (d+n) (d8 (d+n) 0)) ⟨Z.m.set hp.nx (some (.cells ct ((d+n)*ie.size) ex zx)),hp.nx+1⟩
     ((Builtin.append_ #[t,u] ty #[.slice (some ⟨p.blk,p.dl+o,none⟩) d c',.slice b n c]).run P w):=by
   rintro l I A hlt Z bk ct ai ex zx rfl rfl bj;obtain⟨y,ap,D,ae⟩:=J.cells hg A I E;have aj:∀w':Bc,w'.heap=w.heap->(Builtin.firstCells ie.size d (.slice (some ⟨p.blk,p.dl+o,none⟩) d c')).run P w'= .ok y.toArray w':=λw' hh=>
    run_firstCells_some w' ie.size d _ d c' y D (λj u Q=>by rw[iI hh];exact ae j u Q)
   have hr:=W0 (P:=P) (w:=w) t u ty ex e2 ie z ht Q H hz (some ⟨p.blk,p.dl+o,none⟩) d c' n c b y us aj ak hlt (by omega)
    (growslice_fits hlt (by have:=Nat.mul_le_mul hn eb;omega))
   have hge:=grownCap_ge w (d+n) c' ex;have G:=ap.append hv;have ah:(l++news).length=(d+n)*ie.size:=by rw[G.1,Tv,D,C,TF]
   have L:=bk.grown G (Builtin.zeroCells z.cells (grownCap w (d+n) c' ex-(d+n))) ct ai ex ie.size;rw[ah,bj]at L;have ao:(y++us).length=(d+n)*ie.size:=by grind
   rw[show(y++us).toArray=y.toArray++us.toArray by simp]at L;refine⟨_,_,_,hr,J.le_new _,VR.unkSlice σ hp.nx ⟨w.heap.size,0,(y++us).length+(Builtin.zeroCells z.cells (grownCap w (d+n) c' ex-(d+n))).size,ie.size⟩ rfl hge ?_,L⟩;show grownCap w (d+n) c' ex*ie.size<=(y++us).length+_;rw[size_zeroCells,ao,ez,<-TF];exact Tg _ (by omega)
  have R:∀ {v:Av} {hp':Hp},c'<d+n->(bif Nat.ble (o+d*ie.size) k then
    match j7 k0 o (d*ie.size)with
    |none=>none|some l=>some (Value.slice (some ⟨hp.nx,0,none⟩) (d+n) (d8 (d+n) 0),hp.new (l++news) e ie.size)
   else none)=some (v,hp')->MOK hp B w0 σ v hp' ((Builtin.append_ #[t,u] ty #[.slice (some ⟨p.blk,p.dl+o,none⟩) d c',.slice b n c]).run P w):=by
   intro v hp' hlt h;cases A:Nat.ble (o+d*ie.size) k with
   |false=>rw[A]at h;cases h
   |true=>rw[A,Tk]at h;have A:=SX A;split at h;cases h;rename_i l I;simp only[SQ,SU]at h;obtain⟨rfl,rfl⟩:=h;have Y:=(m9 I).1;have:=grow l I A hlt hp J (fill .e 0 (l++news)) (λj hj=>p7 _ j hj) e ie.size rfl rfl rfl;rw[show(d+n)*ie.size=(l++news).length by rw[Tv,Y,O,TF]]at this;exact this
  cases N:Nat.ble unk f with
  |true=>
   rw[N,Tk]at h;have N:=SX N;obtain⟨ax,aw,ac⟩:O8 f<=c'/\(E7 f=0\/c'<E7 f)/\p.dl+o+c'*p.esz<=p.siz:=by rcases S with⟨_,h⟩| ⟨_,h2,h3,h4⟩;omega;exact⟨h2,h3,h4⟩
   cases F:Nat.ble 1 (E7 f)&&Nat.ble (E7 f) (d+n)with
   |true=>rw[F,Tk]at h;simp only[SR]at F;have g1:=SX F.1;have g2:=SX F.2;exact R (by omega) h|false=>
   rw[F,Tl]at h;cases h1:Nat.beq z' ie.size&&Nat.beq e' e&&Nat.ble (o+d*ie.size) k with
   |false=>rw[h1]at h;cases h
   |true=>
   rw[h1,Tk]at h;simp only[SR]at h1;have aq:=SY h1.1.1;have he:=SY h1.1.2;have A:=SX h1.2;cases aa:Nat.ble (d+n) (O8 f)with
   |true=>
    rw[aa,Tk,N4]at h;have aa:=SX aa;have g:d+n<=c':=by omega
    simp only[SQ,SU]at h;obtain⟨rfl,rfl⟩:=h;have az:p.dl+(o+d*ie.size+n*ie.size)<=p.siz:=by
     have:(d+n)*ie.size<=c'*p.esz:=by rw[k2,aq];exact Tg _ g
     rw[TF]at this;omega
    obtain⟨w',W,hh,_⟩:=J.store (o:=o+d*ie.size) hg E hv V A (by rw[O];omega) P;have K:(⟨p.blk,p.dl+o,none⟩:Addr).add (d*ie.size)=⟨p.blk,p.dl+(o+d*ie.size),none⟩:=by rw[UH,Ud]
    have M:=P1 (P:=P) t u ty e e2 ie ht Q H ⟨p.blk,p.dl+o,none⟩ d c' n c b us hf g (w':=w') (by rw[K];exact W);refine⟨σ,_,w',M,Vz _ σ,.slice i o p _ _ _ E (.inr ⟨N,ax,aw,ac⟩) g,?_⟩;rw[O,show max k (o+d*ie.size+n*ie.size)=Nat.max k (o+(d+n)*ie.size) by rw[TF,Ud]]at hh;exact hh
   |false=>
   rw [aa,Tl] at h;split at h;cases h;rename_i l I;rw[VC]at h;generalize bc:(bif Nat.beq o 0 then fill k0 (d*ie.size) news else fill (fill .e 0 l) (d*ie.size) news)=ct at h;simp only[SQ,SU]at h;obtain⟨rfl,rfl⟩:=h;obtain⟨Y,am⟩:=m9 I;have ai:∀j,j<(l++news).length->ct.get j=(l++news)[j]? :=by
    intro j hj;rw[<-bc];have bl:j<d*ie.size+news.length:=by simpa [Y]using hj
    by_cases ba:j<d*ie.size
    .rw[Tc (by omega),am j ba];cases ho:Nat.beq o 0 with
     |true=>have:=SY ho;subst this;rw[Tk,j6,Tn (by omega)];simp|false=>rw[Tl,j6,Tn (by omega),p7 l j (by omega),am j ba]
    .rw[Tb (by omega),Y];cases ho:Nat.beq o 0 with
     |true=>rw[Tk,j6,Tp (by omega)]|false=>rw[Tl,j6,Tp (by omega)]
   by_cases g:d+n<=c'
   ·
    have az:p.dl+o+(d*ie.size+n*ie.size)<=p.siz:=by
     have:(d+n)*ie.size<=c'*p.esz:=by rw[k2,aq];exact Tg _ g
     rw[TF]at this;omega
    have hm:=J.move hg E (o:=o) (k:=d*ie.size) A (bif Nat.beq o 0 then k0 else fill .e 0 l) (λj hj=>by
     cases ho:Nat.beq o 0 with
     |true=>have:=SY ho;subst this;simp|false=>rw[Tl,p7 l j (by omega),am j hj])
    have X:=J.le_new ⟨p.blk,p.dl+o,p.siz,p.esz⟩;obtain⟨w',W,hh,_⟩:=hm.store (i:=hp.nx) (o:=d*ie.size) (by rw[VF,Tp rfl]) (Vy _ _ _) (hv.mono X.le) V (Tq _) (by show p.dl+o+_+_<=p.siz;rw[O];omega) P;have K:(⟨p.blk,p.dl+o,none⟩:Addr).add (d*ie.size)=⟨p.blk,p.dl+o+d*ie.size,none⟩:=UH _ _ _;have M:=P1 (P:=P) t u ty e e2 ie ht Q H ⟨p.blk,p.dl+o,none⟩ d c' n c b us hf g (w':=w') (by rw[K];exact W);refine⟨_,_,w',M,X,?_,?_⟩;have:=VR.slice (σ:=σ.ext hp.nx ⟨p.blk,p.dl+o,p.siz,p.esz⟩) hp.nx 0 ⟨p.blk,p.dl+o,p.siz,p.esz⟩ (d+n) (d8 (d+n) 0) c' (Vy _ _ _) (.inr ⟨q0 _ _,by rw[H6 F6];exact g,.inl (G3 F6),by simpa using ac⟩) g;simpa using this
    .have bh:fill (bif Nat.beq o 0 then k0 else fill .e 0 l) (d*ie.size) news=ct:=by rw[<-bc];cases Nat.beq o 0<;>rfl
     rw[bh,O,show max (d*ie.size) (d*ie.size+n*ie.size)=(d+n)*ie.size by rw[TF];omega]at hh;refine hh.of_same rfl (λj=>?_);simp only[VF];split<;>rfl
   subst aq;subst he;exact grow l I A (by omega) {hp with m:=hp.m.set i none} (J.kill i) _ ai _ _ rfl rfl rfl
  |false=>
   rw[N,Tl]at h;have ay:¬unk<=f:=λh=>by rw[Ta h]at N;cases N
   obtain⟨rfl,bb⟩:f=c'/\f<unk:=by rcases S with h| ⟨h,_⟩;exact h;exact absurd h ay
   cases g:Nat.ble (d+n) f with
   |true=>
    rw[g,Tk]at h;have g:=SX g;cases U:Nat.ble (o+(d+n)*ie.size) k with
    |false=>rw[U]at h;cases h
    |true=>
     rw[U,Tk,N4]at h;have U:=SX U;simp only[SQ,SU]at h;obtain⟨rfl,rfl⟩:=h;rw[TF]at U;obtain⟨w',W,hh,_⟩:=J.store (o:=o+d*ie.size) hg E hv V (by omega) (by rw[O];omega) P;have K:(⟨p.blk,p.dl+o,none⟩:Addr).add (d*ie.size)=⟨p.blk,p.dl+(o+d*ie.size),none⟩:=by rw[UH,Ud]
     have M:=P1 (P:=P) t u ty e e2 ie ht Q H ⟨p.blk,p.dl+o,none⟩ d f n c b us hf g (w':=w') (by rw[K];exact W);refine⟨σ,_,w',M,Vz _ σ,.slice i o p _ _ _ E (.inl ⟨rfl,bb⟩) g,?_⟩;rw[O,show max k (o+d*ie.size+n*ie.size)=k by omega]at hh;exact hh
   |false=>
    rw[g,Tl]at h;have be:¬d+n<=f:=λh=>by rw[Ta h]at g;cases g
    exact R (by omega) h
 cases h
end
section
variable {P :Aw}{B:BS}{w0:Bc}{σ:Sg}{hp:Hp}{w:Bc}
def AV (P:Aw)(hp:Hp)(t:Ax)(d x:Av):Bb (Av×Hp):=
 match P.underlying t with
 |some (.slice e)=>match P.info? e with
  |none=>none|some ie=>match d with
   | .slice none dl _ => bif Nat.beq dl 0 then
     match x with
     | .slice (some ⟨_,_,none⟩) _ _| .slice none _ _=>some (.int .i64 0,hp)
     |_=>none
    else none
   | .slice (some ⟨0, 0, some 0⟩) 0 _ => match x with
     | .slice (some ⟨_,_,none⟩) _ _=>some (.int .i64 0,hp)|_=>none
   | .slice (some ⟨i,o,none⟩) dl dc=>match hp.m.get i with
    |some (.cells c k e' z')=>match x with
     | .slice none n _=>bif Nat.beq n 0 then some (.int .i64 0,hp)else none| .slice (some ⟨j,q,none⟩) n cx=>match y9 hp ie.size (.slice (some ⟨j,q,none⟩) (Nat.min n dl) cx)with
      | some (m, vs) => bif (Nat.ble (o + m * ie.size) k || (Nat.ble unk dc && Nat.beq z' ie.size && Nat.ble o k)) && Nat.ble m dl && vs.all Value.oneCell' then
        some (.int .i64 m,qK hp i c (Nat.max k (o+m*ie.size)) e' z' o vs)
       else none
      |none=>none
     | .slice (some ⟨0,0,some 0⟩) 0 _=>some (.int .i64 0,hp)|_=>none
    |_=>none
   |_=>none
 |_=>none
variable {v x x':Av}
theorem Fl {t u:Ax}{d J:Av}{hp':Hp}(h:AV P hp t d x=some (v,hp'))(H:VR σ d J)(hx:VR σ x x')(g:HR B w0 σ hp w)(ty:Ax):MOK hp B w0 σ v hp' ((Builtin.copy_ #[t,u] ty #[J,x']).run P w):=by
 unfold AV at h;split at h;case h_2=>cases h
 rename_i e ht;split at h;cases h;rename_i ie f;split at h
 .rename_i dl dc;cases hb:Nat.beq dl 0 with
  |false=>grind|true=>
  have hb:=SY hb;subst hb;cases H;split at h
  .rename_i j q n A;cases h;cases hx with
   |slice _ _ p _ _ c' hp' hc hl=>
   refine⟨σ,_,w,?_,Vz _ σ,.int _ _,g⟩;simp[Builtin.copy_,Ts ht,Builtin.lenOf,sizeOf,typeInfo,f,Builtin.firstCells,loadCells,loadCellsFrom,goInt]
  rename_i n A;cases h;cases hx;refine⟨σ,_,w,?_,Vz _ σ,.int _ _,g⟩;simp[Builtin.copy_,Ts ht,Builtin.lenOf,sizeOf,typeInfo,f,Builtin.firstCells,goInt];cases h
 .rename_i dc;split at h
  .simp only[SQ,SU]at h;obtain⟨rfl,rfl⟩:=h;cases H;cases hx with
   |slice _ _ p _ _ c' hp' hc hl=>
   refine⟨σ,_,w,?_,Vz _ σ,.int _ _,g⟩;simp[Builtin.copy_,Ts ht,Builtin.lenOf,sizeOf,typeInfo,f,Builtin.firstCells,loadCells,loadCellsFrom,storeCells,goInt]
  cases h
 .rename_i i o dl dc;split at h;case h_2=>cases h
  rename_i c k e' T hg;cases H with
  |slice _ _ p _ _ c' z hc hl=>
  obtain⟨k1,k2⟩:=g.place hg z;split at h
  .rename_i n A;cases hb:Nat.beq n 0 with
   |false=>grind|true=>have hb:=SY hb;subst hb;cases h;cases hx;refine⟨σ,_,w,?_,Vz _ σ,.int _ _,g⟩;simp[Builtin.copy_,Ts ht,Builtin.lenOf,sizeOf,typeInfo,f,Builtin.firstCells,goInt,storeCells]
  .rename_i j q n A;cases hx with
   |slice _ _ p2 _ _ C hp2 G O=>
   split at h
   .rename_i m vs hf;cases hb:(Nat.ble (o+m*ie.size) k|| (Nat.ble unk dc&&Nat.beq T ie.size&&Nat.ble o k))&&Nat.ble m dl&&vs.all Value.oneCell' with
    |false=>grind|true=>
     rw[hb,Tk,N4]at h;simp only[SR,Uu]at hb;have Q:=SX hb.1.2;have s:o<=k/\p.dl+(o+m*ie.size)<=p.siz:=by
      rcases hb.1.1 with N| ⟨⟨K,D⟩,L⟩;simp_all;omega
      .have K:=SX K;have D:=SY D;have L:=SX L;have:m*ie.size<=c'*p.esz:=by rw[k2,D];exact Tg _ (by omega)
       omega
     cases h;have R:Nat.min n dl<=n:=Nat.min_le_left _ _;obtain⟨us,hv,l,b,U,E,M,F⟩:=oC hf (.slice j q p2 (Nat.min n dl) A C hp2 G (by omega)) g;obtain⟨rfl,rfl,rfl⟩:=E;have y:=hv.all_oneCell hb.2;have S:=hv.1;obtain⟨w',I,hh,_⟩:=g.store hg z hv y s.1 (by omega) P;refine⟨σ,_,w',?_,Vz _ σ,.int _ _,?_⟩;have hl:=run_loadCells_list (P:=P) w _ us (F _ rfl);rw[l]at hl;simp only[Builtin.copy_,List.getElem?_toArray,Tj,Te,Tx,Ts ht,Tt,Builtin.lenOf,TC,sizeOf,typeInfo,UO,f,Builtin.firstCells,hl,I,goInt];grind
   cases h
  .simp only[SQ,SU]at h;obtain⟨rfl,rfl⟩:=h;cases hx with
   |vague q c'=>refine⟨σ,_,w,?_,Vz _ σ,.int _ _,g⟩;simp[Builtin.copy_,Ts ht,Builtin.lenOf,sizeOf,typeInfo,f,Builtin.firstCells,loadCells,loadCellsFrom,storeCells,goInt]
  cases h
 cases h
def J4 (v:Av)(y:Nat):Ai:=
 match v with
 | .int _ n=>bif decide (0<=n)&&decide (n<=y)then some n.toNat else none|_=>none
theorem N3 {g:Av}{y n:Nat}(h:J4 v y=some n)(hv:VR σ v g){f:Nat}(hy:y<=f)(d:BoundsCode):n<=y/\ ∀w,(Instr.sliceBound g f d).run P w= .ok n w:=by
 unfold J4 at h;split at h
 .rename_i k m;cases hv;cases hb:decide (0<=m)&&decide (m<=y)with
  |false=>grind|true=>rw[hb,Tk]at h;simp at hb;simp at h;subst h;exact⟨by omega,λw=>run_sliceBound w k m f d hb.1 (by omega)⟩
 cases h
def A8 (len cb:Nat)(lo hi mx:Ag):Bb (Nat×Nat×Ai):=
 match(match mx with|some v=>(J4 v cb).map some|none=>some none)with
 |none=>none|some m=>match(match hi with|some v=>J4 v (m.getD cb)|none=>(match mx with|some _=>none|none=>some len))with
  |none=>none|some h=>match(match lo with|some v=>J4 v h|none=>some 0)with
   |none=>none|some l=>some (l,h,m)
def OVR (σ:Sg):Ag->Ag->Prop
 |none,none=>True|some v,some u=>VR σ v u|_,_=>False
variable {hi hi' lo lo' mx mx':Ag}
theorem G9 {len f cap:Nat}{l h:Nat}{m:Ai}(he:A8 len f lo hi mx=some (l,h,m))(h1:OVR σ lo lo')(h2:OVR σ hi hi')(h3:OVR σ mx mx')(hc:f<=cap)(q:len<=f)(isS:Bool):l<=h/\h<=m.getD f/\m.getD f<=f/\ ∀w,(Instr.sliceBounds isS len cap lo' hi' mx').run P w= .ok (l,h,m.getD cap) w:=by
 unfold A8 at he;cases mx with
 |none=>
  cases mx' with
  |some _=>exact h3.elim|none=>
  simp only[Option.getD_none]at he;cases hi with
  |none=>
   cases hi' with
   |some _=>exact h2.elim|none=>
   cases lo with
   |none=>
    cases lo' with
    |some _=>exact h1.elim|none=>
    cases he;exact⟨by omega,q,Tq _,λw=>rfl⟩
   |some lv=>
    cases lo' with
    |none=>exact h1.elim|some s=>
    cases hb:J4 lv len with
    |none=>grind|some z=>simp only[hb,SQ,SU]at he;obtain⟨rfl,rfl,rfl⟩:=he;obtain⟨g,i⟩:=N3 (P:=P) hb h1 (Tq _) .sliceB;exact⟨g,q,Tq _,λw=>by simp[Instr.sliceBounds,i]⟩
  |some hv=>
   cases hi' with
   |none=>exact h2.elim|some t=>
   cases d:J4 hv f with
   |none=>grind|some h0=>
    simp only[d]at he;obtain⟨j,n⟩:=N3 (P:=P) d h2 hc (if isS then .sliceAcap else .sliceAlen);cases lo with
    |none=>
     cases lo' with
     |some _=>exact h1.elim|none=>
     cases he;exact⟨by omega,j,Tq _,λw=>by simp[Instr.sliceBounds,n]⟩
    |some lv=>
     cases lo' with
     |none=>exact h1.elim|some s=>
     cases hb:J4 lv h0 with
     |none=>grind|some z=>simp only[hb,SQ,SU]at he;obtain⟨rfl,rfl,rfl⟩:=he;obtain⟨g,i⟩:=N3 (P:=P) hb h1 (Tq _) .sliceB;exact⟨g,j,Tq _,λw=>by simp[Instr.sliceBounds,n,i]⟩
 |some mv=>
  cases mx' with
  |none=>exact h3.elim|some C=>
  cases p:J4 mv f with
  |none=>grind|some A=>
   simp only[p,TO,TL]at he;obtain⟨u,y⟩:=N3 (P:=P) p h3 hc (if isS then .slice3Acap else .slice3Alen);cases hi with
   |none=>grind|some hv=>
    cases hi' with
    |none=>exact h2.elim|some t=>
    cases d:J4 hv A with
    |none=>grind|some h0=>
     simp only[d]at he;obtain⟨j,n⟩:=N3 (P:=P) d h2 (Tq _) .slice3B;cases lo with
     |none=>
      cases lo' with
      |some _=>exact h1.elim|none=>
      cases he;exact⟨by omega,j,u,λw=>by simp[Instr.sliceBounds,n,y]⟩
     |some lv=>
      cases lo' with
      |none=>exact h1.elim|some s=>
      cases hb:J4 lv h0 with
      |none=>grind|some z=>simp only[hb,SQ,SU]at he;obtain⟨rfl,rfl,rfl⟩:=he;obtain⟨g,i⟩:=N3 (P:=P) hb h1 (Tq _) .slice3C;exact⟨g,j,u,λw=>by simp[Instr.sliceBounds,n,y,i]⟩
def w9 (P:Aw)(hp:Hp)(t:Ax)(x:Av)(lo hi mx:Ag):Bb (Av×Hp):=
 match P.underlying t with
 |some .string=>match x with
  | .string s=>match mx with
   |some _=>none|none=>match A8 s.data.toList.length s.data.toList.length lo hi none with
    |some (l,h,_)=>some (.string ⟨((s.data.toList.take h).drop l).toArray⟩,hp)|none=>none
  |_=>none
 |some (.slice e)=>match P.info? e with
  |none=>none|some ie=>match x with
   | .slice none len cap => bif Nat.beq len 0 && Nat.beq cap 0 then
     match A8 0 0 lo hi mx with
     |some _=>some (.slice none 0 0,hp)|none=>none
    else none
   | .slice (some ⟨0,0,some 0⟩) 0 _=>match A8 0 0 lo hi mx with
    |some (_,_,none)=>some (.slice (some ⟨0,0,some 0⟩) 0 unk,hp)|_=>none
   | .slice (some ⟨i,o,none⟩) len cap=>
    bif Nat.ble unk cap then
     bif Nat.ble (Nat.max (O8 cap) len) 67108864 then
     match A8 len (Nat.max (O8 cap) len) lo hi mx with
     |none=>none
     | some (l, h, some m) => bif Nat.beq m l then some (.slice (some ⟨i, o, none⟩) (h - l) (m - l), hp)
       else some (.slice (some ⟨i,o+l*ie.size,none⟩) (h-l) (m-l),hp)
     | some (l, h, none) => bif Nat.beq l 0 then some (.slice (some ⟨i, o, none⟩) h (d8 (Nat.max (O8 cap) len) (E7 cap)), hp) else
       bif Nat.beq l (Nat.max (O8 cap) len)then some (.slice (some ⟨0,0,some 0⟩) 0 unk,hp)
       else match hp.m.get i with
        |some (.cells _ _ _ z')=>bif Nat.beq z' ie.size then some (.slice (some ⟨i,o+l*ie.size,none⟩) (h-l) (d8 (Nat.max (O8 cap) len-l) (E7 cap-l)),hp)else none|_=>none
     else none
    else bif Nat.ble len cap then
     match A8 len cap lo hi mx with
     |none=>none
     | some (l, h, m) => bif Nat.beq (m.getD cap) l then some (.slice (some ⟨i, o, none⟩) (h - l) (m.getD cap - l), hp)
       else some (.slice (some ⟨i,o+l*ie.size,none⟩) (h-l) (m.getD cap-l),hp)
    else none
   |_=>none
 |some (.array n e)=>match P.info? e with
  |none=>none|some ie=>match x with
   | .pointer (some ⟨i, o, none⟩) => bif Nat.ble n 16777216 then
     match A8 n n lo hi mx with
     |none=>none
     | some (l, h, m) => bif Nat.beq (m.getD n) l then some (.slice (some ⟨i, o, none⟩) (h - l) (m.getD n - l), hp)
       else some (.slice (some ⟨i,o+l*ie.size,none⟩) (h-l) (m.getD n-l),hp)
    else none
   |_=>none
 |_=>none
theorem mH (s:ByteArray)(l h:Nat):s.extract l h=⟨((s.data.toList.take h).drop l).toArray⟩:=by apply ByteArray.ext;rw[ByteArray.data_extract];grind
theorem Dc {t:Ax}{hp':Hp}(h:w9 P hp t x lo hi mx=some (v,hp'))(hx:VR σ x x')(h1:OVR σ lo lo')(h2:OVR σ hi hi')(h3:OVR σ mx mx')(D:HR B w0 σ hp w):MOK hp B w0 σ v hp' ((Instr.sliceAt t x' lo' hi' mx').run P w):=by
 unfold w9 at h;split at h
 .rename_i N;split at h
  .rename_i s;cases hx;split at h;cases h
   .cases mx' with
    |some _=>exact h3.elim|none=>
    split at h;rename_i l hh m hb;cases h;obtain⟨_,_,_,j⟩:=G9 (P:=P) (cap:=s.size) hb h1 h2 (show OVR σ none none from trivial) (by simp) (Tq _) false;rw[show s.data.toList.length=s.size by simp]at j;refine⟨σ,_,w,?_,Vz _ σ,.string _,D⟩;simp only[Instr.sliceAt,Tx,Ts N,Tt,Instr.slice,Option.isSome_none,Uo,if_false,TC,j,mH];cases h
  cases h
 .rename_i e N;split at h;cases h;rename_i ie E;split at h
  .rename_i len cap;cases hb:Nat.beq len 0&&Nat.beq cap 0 with
   |false=>grind|true=>
    simp only[SR]at hb;have e1:=SY hb.1;have e2:=SY hb.2;subst e1;subst e2;cases hx;split at h
    .rename_i ac f;obtain⟨l,hh,m⟩:=ac;cases h;obtain⟨O,I,J,j⟩:=G9 (P:=P) (cap:=0) f h1 h2 h3 (Tq _) (Tq _) true;have u:l=0:=by omega
     have M:hh=0:=by omega
     have ab:m.getD 0=0:=by omega
     subst u;subst M;rw[ab]at j;refine⟨σ,_,w,?_,Vz _ σ,.nils 0 0,D⟩;simp only[Instr.sliceAt,Tx,Ts N,Tt,Instr.slice,j,sizeOf,typeInfo,UO,E,TC,UG,Nat.sub_self]
    cases h
  .rename_i cap;split at h
   .rename_i l hh f;cases h;cases hx with
    |vague q c'=>
     obtain⟨O,I,J,j⟩:=G9 (P:=P) (cap:=c') f h1 h2 h3 (UJ _) (Tq _) true;simp only[Option.getD_none]at I J j;have u:l=0:=by omega
     have M:hh=0:=by omega
     subst u;subst M;refine⟨σ,.slice (some q) 0 c',w,?_,Vz _ σ,.vague q c',D⟩;have hq:(q.add 0)=q:=by simp[Addr.add]
     simp only[Instr.sliceAt,Tx,Ts N,Tt,Instr.slice,j,sizeOf,typeInfo,UO,E,TC,Nat.sub_self,Ux,UE,TO,hq,ite_self]
   cases h
  .rename_i i o len cap;cases hx with
   | slice _ _ p _ _ c' g ai U =>
   have G:∀(l hh m:Nat),(∀w,(Instr.sliceBounds true len c' lo' hi' mx').run P w= .ok (l,hh,m) w)->
     (Instr.sliceAt t (.slice (some ⟨p.blk,p.dl+o,none⟩) len c') lo' hi' mx').run P w= .ok (.slice (some (if m=l then⟨p.blk,p.dl+o,none⟩else⟨p.blk,p.dl+(o+l*ie.size),none⟩)) (hh-l) (m-l)) w:=by
    intro l hh m j;simp only[Instr.sliceAt,Tx,Ts N,Tt,Instr.slice,j,sizeOf,typeInfo,UO,E,TC];by_cases d:m=l;simp[d];simp[d,UH,Ud]
   cases A:Nat.ble unk cap with
   |true=>
    rw[A,Tk]at h;have A:=SX A;obtain⟨S,R,H⟩:O8 cap<=c'/\(E7 cap=0\/c'<E7 cap)/\p.dl+o+c'*p.esz<=p.siz:=by grind
    have T:E7 cap<unk:=Nat.mod_lt _ F6;have hL:Nat.max (O8 cap) len<=c':=Nat.max_le.2 ⟨S,U⟩;have K:len<=Nat.max (O8 cap) len:=Un _ _;generalize ah:Nat.max (O8 cap) len=L at h hL K;cases F:Nat.ble L 67108864 with
    |false=>grind|true=>
    rw[F,Tk]at h;have F:=SX F;split at h;cases h
    .rename_i l hh m f;obtain⟨O,I,J,j⟩:=G9 (P:=P) (cap:=c') f h1 h2 h3 hL K true;simp only[TL]at I J j;have hr:=G l hh m j;have z:m-l<unk:=by unfold unk;omega
     cases d:Nat.beq m l with
     |true=>rw[d,Tk]at h;have d:=SY d;subst d;cases h;rw[Tp rfl]at hr;exact⟨σ,_,w,hr,Vz _ σ,.slice i o p _ _ _ g (.inl ⟨rfl,z⟩) (by omega),D⟩
     |false=>
      rw[d,Tl]at h;have y:m≠l:=λe=>by rw[e,u7 rfl]at d;cases d
      cases h;rw[Tn y]at hr;exact⟨σ,_,w,hr,Vz _ σ,.slice i _ p _ _ _ g (.inl ⟨rfl,z⟩) (by omega),D⟩
    .rename_i l hh f;obtain⟨O,I,J,j⟩:=G9 (P:=P) (cap:=c') f h1 h2 h3 hL K true;have hr:=G l hh c' j;cases u:Nat.beq l 0 with
     |true=>have u:=SY u;subst u;cases h;simp only[UE,Uj,ite_self,Ux]at hr;exact⟨σ,_,w,hr,Vz _ σ,.slice i o p _ _ _ g (.inr ⟨q0 _ _,by rw[H6 T];exact hL,by rw[G3 T];exact R,H⟩) (by omega),D⟩
     |false=>
      rw[u,Tl]at h;cases C:Nat.beq l L with
      |true=>
       rw[C,Tk]at h;have C:=SY C;have Z:hh=l:=by omega
       subst Z;cases h;rw[Nat.sub_self]at hr;exact⟨σ,_,w,hr,Vz _ σ,.vague _ _,D⟩
      |false=>
       rw[C,Tl]at h;have ae:l≠L:=λe=>by rw[e,u7 rfl]at C;cases C
       split at h;case h_2=>cases h
       rename_i tc k e' z' hg;obtain⟨k1,k2⟩:=D.place hg g;cases V:Nat.beq z' ie.size with
       |false=>grind|true=>
        rw[V,Tk]at h;have aj:=SY V;have Y:p.esz=ie.size:=by grind
        cases h;have X:c'≠l:=by omega
        rw[Tn X]at hr;refine⟨σ,_,w,hr,Vz _ σ,.slice i _ p _ _ _ g (.inr ⟨q0 _ _,by rw[H6 (by omega)];omega,by rw[G3 (by omega)];omega,?_⟩) (by omega),D⟩;rw[Y]at H⊢;have:l*ie.size+(c'-l)*ie.size=c'*ie.size:=by rw[<-TF];congr 1;omega
        omega
   |false=>
    rw[A,Tl]at h;have ad:¬unk<=cap:=λh=>by rw[Ta h]at A;cases A
    have Q:cap=c'/\cap<unk:=by grind
    obtain⟨rfl,W⟩:=Q;cases aa:Nat.ble len cap with
    |false=>grind|true=>
    rw[aa,Tk]at h;split at h;cases h
    .rename_i l hh m f;obtain⟨O,I,J,j⟩:=G9 (P:=P) (cap:=cap) f h1 h2 h3 (Tq _) U true;have hr:=G l hh (m.getD cap) j;have z:m.getD cap-l<unk:=by omega
     cases d:Nat.beq (m.getD cap) l with
     |true=>rw[d,Tk]at h;have d:=SY d;cases h;rw[Tp d]at hr;exact⟨σ,_,w,hr,Vz _ σ,.slice i o p _ _ _ g (.inl ⟨rfl,z⟩) (by omega),D⟩
     |false=>
      rw[d,Tl]at h;have y:m.getD cap≠l:=λe=>by rw[e,u7 rfl]at d;cases d
      cases h;rw[Tn y]at hr;exact⟨σ,_,w,hr,Vz _ σ,.slice i _ p _ _ _ g (.inl ⟨rfl,z⟩) (by omega),D⟩
  cases h
 .rename_i n e N;split at h;cases h;rename_i ie E;split at h
  .rename_i i o;cases hx with
   |ptr _ _ p g=>
   cases hn:Nat.ble n 16777216 with
   |false=>grind|true=>
   rw[hn,Tk]at h;have hn:=SX hn;split at h;cases h
   .rename_i l hh m f;obtain⟨O,I,J,j⟩:=G9 (P:=P) (cap:=n) f h1 h2 h3 (Tq _) (Tq _) false;have hr:(Instr.sliceAt t (.pointer (some ⟨p.blk,p.dl+o,none⟩)) lo' hi' mx').run P w= .ok (.slice (some (if m.getD n=l then⟨p.blk,p.dl+o,none⟩else⟨p.blk,p.dl+(o+l*ie.size),none⟩)) (hh-l) (m.getD n-l)) w:=by simp only[Instr.sliceAt,Tx,Ts N,Tt,Instr.sureAddr,j,sizeOf,typeInfo,UO,E,TC];by_cases d:m.getD n=l;simp[d];simp[d,UH,Ud]
    have z:m.getD n-l<unk:=by unfold unk;omega
    cases d:Nat.beq (m.getD n) l with
    |true=>rw[d,Tk]at h;have d:=SY d;cases h;rw[Tp d]at hr;exact⟨σ,_,w,hr,Vz _ σ,.slice i o p _ _ _ g (.inl ⟨rfl,z⟩) (by omega),D⟩
    |false=>
     rw[d,Tl]at h;have y:m.getD n≠l:=λe=>by rw[e,u7 rfl]at d;cases d
     cases h;rw[Tn y]at hr;exact⟨σ,_,w,hr,Vz _ σ,.slice i _ p _ _ _ g (.inl ⟨rfl,z⟩) (by omega),D⟩
  cases h
 cases h
end
section
variable {P :Aw}{B:BS}{w0:Bc}{σ:Sg}{hp:Hp}{w:Bc}
def AX (hp:Hp)(it:Av)(isString:Bool):Bb (Av×Hp):=
 match it,isString with
 | .pointer (some ⟨i,0,none⟩),true=>match hp.m.get i with
  | some (.sit s pos) => bif Nat.blt pos s.data.toList.length then
    some (.tuple #[.bool true,.int .i64 pos,.int .i32 (Utf8.decode s pos).1],{hp with m:=hp.m.set i (some (.sit s (pos+(Utf8.decode s pos).2)))})
   else some (.tuple #[.bool false],hp)
  |_=>none
 |_,_=>none
variable {a b:Av}
def VR.tup1 {σ:Sg}(h:VR σ a b):VR σ (.tuple #[a]) (.tuple #[b]):=(VO h (VP σ)).to_tuple
def VR.tup3 {σ:Sg}{c d e f:Av}(h:VR σ a b)(k:VR σ c d)(l:VR σ e f):VR σ (.tuple #[a,c,e]) (.tuple #[b,d,f]):=(VO h (VO k (VO l (VP σ)))).to_tuple
variable {o:Obj}
def vW {r:Nat}(h:w.heap[r]? =some o)(hc:∀c e f,o≠ .cells c e f):(getObj r).run P w= .ok o w:=by simp only[getObj,Sem.run,h]
def vY {r:Nat}{o':Obj}(h:w.heap[r]? =some o)(hc:∀c e f,o≠ .cells c e f):(setObj r o').run P w= .ok () {w with heap:=w.heap.setIfInBounds r o'}:=by simp only[setObj,Sem.run,h]
theorem HR.setO (h:HR B w0 σ hp w){i:Nat}{b b':Blk}(hg:hp.m.get i=some b){p:Pl}(d:σ i=some p)(hb:BR σ p b' o)(l:dM b=false:=by rfl)(j:dM b'=false:=by rfl)(f:kS b=false:=by rfl)(g:kS b'=false:=by rfl):HR B w0 σ {hp with m:=hp.m.set i (some b')} {w with heap:=w.heap.setIfInBounds p.blk o}:=by obtain⟨p',o',n,_,q,_⟩:=h.live i b hg f;have:p'=p:=Tu (n.symm.trans d);subst this;have hlt:=(Ti.1 q).1;refine h.turn hg d ?_ (λk hk=>?_) (by simp) rfl rfl rfl hb l j f g;simp[hlt];grind
theorem Fp {t g v:Av}{isS:Bool}{hp':Hp}(h:AX hp t isS=some (v,hp'))(hi:VR σ t g)(m:HR B w0 σ hp w)(ty:Ax):MOK hp B w0 σ v hp' ((Instr.next g isS ty).run P w):=by
 unfold AX at h;split at h
 .rename_i i;cases hi with
  |ptr _ _ p l=>
  split at h
  .rename_i s pos hg;obtain⟨p',o,n,y,q,u,j⟩:=m.live i _ hg;have:=Tu (n.symm.trans l);subst this u;have d:=vW (P:=P) q (λc e f h=>by grind);cases hlt:Nat.blt pos s.data.toList.length with
   |true=>
    rw[hlt,Tk]at h;cases h;have hpos:pos<s.size:=by simp_all
    have hset:=vY (P:=P) (o':= .stringIter s (pos+(Utf8.decode s pos).2)) q (λc e f h=>by grind);refine⟨σ,_,_,?_,Vz _ σ,VR.tup3 (.bool true) (.int .i64 pos) (.int .i32 _),m.setO hg n ⟨rfl,j⟩⟩;simp[Instr.next,j,d,hpos,hset,goInt]
   |false=>
    rw[hlt,Tl]at h;cases h;have hpos:¬pos<s.size:=by intro hc;rw[show Nat.blt pos s.data.toList.length=true from Ta (by simp;omega)]at hlt;grind
    refine⟨σ,_,w,?_,Vz _ σ,VR.tup1 (.bool false),m⟩;simp[Instr.next,j,d,hpos]
  cases h
 cases h
def keyB (d:TypeDesc):Bool:=
 match d with
 | .int _| .string| .bool=>true
 |_=>false
end
def rQ (f:Av->Av->Bool):Af->Af->Bool
 | [],[]=>true|x::xs,y::ys=>f x y&&rQ f xs ys|_,_=>false
def iF {f:Av->Av->Bool}(hf:∀x y,f x y=true->x=y):∀ {xs ys:Af},rQ f xs ys=true->xs=ys
 | [],[],_=>rfl|x::xs,y::ys,h=>by simp only[rQ,SR]at h;rw[hf _ _ h.1,iF hf h.2]| [],_::_,h=>by cases h
 |_::_,[],h=>by cases h
def veq :Nat->Av->Av->Bool
 |0,_,_=>false|n+1,x,y=>match x,y with
  | .bool a,.bool b=>a==b| .int j a,.int k b=>decide (j=k)&&decide (a=b)| .string a,.string b=>a.data.toList==b.data.toList| .pointer a,.pointer b=>decide (a=b)| .slice a l c,.slice b l' c'=>decide (a=b)&&Nat.beq l l'&&Nat.beq c c'| .map a,.map b=>decide (a=b)| .nilFunc,.nilFunc=>true| .nilIface,.nilIface=>true| .iface t v,.iface u w=>Nat.beq t u&&veq n v w| .agg a,.agg b=>rQ (veq n) a.toList b.toList| .tuple a,.tuple b=>rQ (veq n) a.toList b.toList| .func f a c,.func g b d=>decide (f=g)&&rQ (veq n) a.toList b.toList&&rQ (veq n) c.toList d.toList| .complex f a b,.complex g c d=>decide (f=g)&&Nat.beq a c&&Nat.beq b d| .chan a,.chan b=>decide (a=b)|_,_=>false
theorem Om :∀(n:Nat) (x y:Av),veq n x y=true->x=y:=by
 intro n;induction n with
 |zero=>intro x y h;cases h
 |succ n d=>intro x y h;simp only[veq]at h;split at h;grind;grind;rename_i a b;obtain⟨⟨a⟩⟩:=a;simp_all;grind;simp_all;grind;rfl;rfl;simp only[SR]at h;rw[SY h.1,d _ _ h.2];rw[Array.ext' (iF d h)];rw[Array.ext' (iF d h)];simp at h;rw[h.1.1,Array.ext' (iF d h.1.2),Array.ext' (iF d h.2)];simp_all;grind;cases h
section
variable {P :Aw}{B:BS}{w0:Bc}{σ:Sg}{hp:Hp}{w:Bc}
def qD (P:Aw)(hp:Hp)(t:Ax)(x:Av):Bb (Av×Hp):=
 match P.underlying t with
 |some (.slice e)=>match x with
  | .slice none _ _=>some (.tuple #[],hp)| .slice (some _) 0 _=>some (.tuple #[],hp)| .slice (some ⟨i,o,none⟩) (n+1) _=>match S9 P e with
   |none=>none|some z=>match hp.m.get i with
    | some (.cells c k e' z') => bif Nat.ble (o + (xrep (n + 1) z.cells.toList).length) k && (xrep (n + 1) z.cells.toList).all Value.oneCell' then
      some (.tuple #[],qK hp i c k e' z' o (xrep (n+1) z.cells.toList))
     else none
    |_=>none
  |_=>none
 |some (.map _ _)=>match x with
  | .map none=>some (.tuple #[],hp)| .map (some i)=>match hp.m.get i with
   |some (.map _ _)=>some (.tuple #[],{hp with m:=hp.m.set i (some (.map [] false))})|_=>none
  |_=>none
 |_=>none
variable {v x x':Av}{hp':Hp}
theorem CT {t:Ax}(h:qD P hp t x=some (v,hp'))(hx:VR σ x x')(j:HR B w0 σ hp w)(ty:Ax):MOK hp B w0 σ v hp' ((Builtin.clear_ #[t] ty #[x']).run P w):=by
 have tup:=VRL.to_tuple (VP σ);unfold qD at h;split at h
 .rename_i e ht;split at h;simp only[SQ,SU]at h;obtain⟨rfl,rfl⟩:=h;cases hx;refine⟨σ,.tuple #[],w,?_,Vz _ σ,tup,j⟩;simp[Builtin.clear_,Ts ht];simp only[SQ,SU]at h;obtain⟨rfl,rfl⟩:=h;cases hx<;>exact⟨σ,.tuple #[],w,by simp[Builtin.clear_,Ts ht],Vz _ σ,tup,j⟩
  .rename_i i o n c0;split at h;cases h;rename_i z hz;split at h;case h_2=>cases h
   rename_i c k e' L hg;cases hx with
   |slice _ _ p _ _ c' g D F=>
   obtain⟨k1,k2⟩:=j.place hg g;cases hb:Nat.ble (o+(xrep (n+1) z.cells.toList).length) k&&(xrep (n+1) z.cells.toList).all Value.oneCell' with
   |false=>grind|true=>rw[hb,Tk,N4]at h;simp only[SR]at hb;have E:=SX hb.1;cases h;obtain⟨hc,u⟩:=Q7 hz;have hv:=(dF σ hc).cells.xrep (n+1);have m:=hv.all_oneCell hb.2;obtain⟨w',s,hh,_⟩:=j.store (o:=o) hg g hv m (by omega) (by omega) P;have q:(Builtin.zeroCells z.cells (n+1)).toList=xrep (n+1) z.cells.toList:=iQ z.cells (n+1);refine⟨σ,.tuple #[],w',?_,Vz _ σ,tup,?_⟩;simp[Builtin.clear_,Ts ht,u,q,s];grind
  cases h
 .rename_i K G ht;split at h;simp only[SQ,SU]at h;obtain⟨rfl,rfl⟩:=h;cases hx;refine⟨σ,.tuple #[],w,?_,Vz _ σ,tup,j⟩;simp[Builtin.clear_,Ts ht]
  .rename_i i;split at h;case h_2=>cases h
   rename_i es reg hg;cases h;cases hx with
   |map _ p g=>
   obtain⟨p',o,A,_,C,y,d,rfl,H,I,J⟩:=j.live i _ hg;have:=Tu (A.symm.trans g);subst this;have l:=vW (P:=P) C (λc e f h=>by grind);have hset:=vY (P:=P) (o':= .map #[] d) C (λc e f h=>by grind);refine⟨σ,.tuple #[],_,?_,Vz _ σ,tup,j.setO hg A (o:= .map #[] d) ⟨_,_,rfl,rfl,(by grind),λhr=>by grind⟩⟩;simp[Builtin.clear_,Ts ht,l,hset]
  cases h
 cases h
def Z6 (P:Aw)(hp:Hp)(t u:Ax)(s x:Av):Bb (Av×Hp):=
 match P.underlying t, P.underlying u with
 |some (.slice e),some (.int _)=>match P.info? e with
  |none=>none|some ie=>match ie.zero with
   |none=>none|some z=>match s,x with
    | .slice (some ⟨i,o,none⟩) sLen sCap,.int _ (.ofNat cnt)=>
     bif cst z&&Nat.beq z.cells.toList.length ie.size&&Nat.ble ie.bytes 1048576&&Nat.ble 1 ie.size&&Nat.ble 1 cnt&&Nat.ble (sLen+cnt) 67108864&&
       (Nat.ble unk sCap&&Nat.ble 1 (E7 sCap)&&Nat.ble (E7 sCap) (sLen+cnt))then
      match hp.m.get i with
      | some (.cells c k _ _) => bif Nat.ble (o + sLen * ie.size) k then
        match j7 c o (sLen*ie.size)with
        |some olds=>some (.slice (some ⟨hp.nx,0,none⟩) (sLen+cnt) (d8 (sLen+cnt) 0),hp.new (olds++xrep cnt z.cells.toList) e ie.size)|none=>none
       else none
      |_=>none
     else none
    |_,_=>none
 |_,_=>none
theorem wY {t u:Ax}{s s':Av}(h:Z6 P hp t u s x=some (v,hp'))(hs:VR σ s s')(hx:VR σ x x')(L:HR B w0 σ hp w)(ty:Ax):MOK hp B w0 σ v hp' ((Builtin.append_ #[t,u] ty #[s',x']).run P w):=by
 unfold Z6 at h;split at h;case h_2=>cases h
 rename_i e W ht H;split at h;cases h;rename_i ie E;split at h;cases h;rename_i z hz;split at h;case h_2=>cases h
 rename_i i o d l kq cnt;cases hb:cst z&&Nat.beq z.cells.toList.length ie.size&&Nat.ble ie.bytes 1048576&&Nat.ble 1 ie.size&&Nat.ble 1 cnt&&Nat.ble (d+cnt) 67108864&&
       (Nat.ble unk l&&Nat.ble 1 (E7 l)&&Nat.ble (E7 l) (d+cnt))with
 |false=>grind|true=>
 rw[hb,Tk]at h;simp only[SR]at hb;obtain⟨⟨⟨⟨⟨⟨T,X⟩,A⟩,N⟩,Y⟩,C⟩,⟨O,Q⟩,R⟩:=hb;have S:z.cells.size=ie.size:=by simp_all
 have A:=SX A;have N:=SX N;have C:=SX C;have O:=SX O;have Q:=SX Q;have R:=SX R;split at h;case h_2=>cases h
 rename_i c k e' Z hg;cases m:Nat.ble (o+d*ie.size) k with
 |false=>grind|true=>
 rw[m,Tk]at h;have m:=SX m;split at h;case h_2=>cases h
 rename_i y F;cases h;cases hx;cases hs with
 |slice _ _ p _ _ c' G U V=>
 have hlt:c'<d+cnt:=by grind
 obtain⟨f,J,g,D⟩:=L.cells hg m F G;have hr:=Lib.run_append_grow_zeros w t u ty e ie z kq W ht H E hz (some ⟨p.blk,p.dl+o,none⟩) d c' f
  (run_firstCells_some w.drew ie.size d _ d c' f g (λj u H=>(iI rfl _).trans (D j u H))) cnt (by omega) (by omega) hlt (by omega)
  (by have:=Nat.mul_le_mul (show cnt<=67108864 by omega) A;omega) (growslice_fits hlt (by have:=Nat.mul_le_mul C A;omega))
 have M:(Builtin.zeroCells z.cells cnt).toList=xrep cnt z.cells.toList:=iQ z.cells cnt;have K:VRL σ (xrep cnt z.cells.toList) (Builtin.zeroCells z.cells cnt).toList:=by rw[M];exact(dF σ T).cells.xrep cnt
 have n:=J.append K;have hge:=grownCap_ge w (d+cnt) c' e;have q:=L.grown n (Builtin.zeroCells z.cells (grownCap w (d+cnt) c' e-(d+cnt))) (fill .e 0 (y++xrep cnt z.cells.toList)) (λj hj=>p7 _ j hj) e ie.size;have I:(f++(Builtin.zeroCells z.cells cnt).toList).length=(d+cnt)*ie.size:=by rw[Tv,g,Array.length_toList,size_zeroCells,S,TF]
 rw[show(f++(Builtin.zeroCells z.cells cnt).toList).toArray=f.toArray++Builtin.zeroCells z.cells cnt by simp]at q;refine⟨_,_,_,hr,L.le_new _,VR.unkSlice σ hp.nx ⟨w.heap.size,0,(f++(Builtin.zeroCells z.cells cnt).toList).length+(Builtin.zeroCells z.cells (grownCap w (d+cnt) c' e-(d+cnt))).size,ie.size⟩ rfl hge ?_,?_⟩;show grownCap w (d+cnt) c' e*ie.size<=(f++(Builtin.zeroCells z.cells cnt).toList).length+_;rw[size_zeroCells,I,S,<-TF];grind;simpa [Hp.new]using q
def PN (P:Aw)(g:Ay)(t:Ax):Prop:=
 ∃fn r,P.funcs[g]? =some fn/\(fn.name== "runtime.NumGoroutine")=false/\fn.body.isNone=true/\Extern.findNext fn=none/\Extern.find fn=some (Extern.SlicesOverlaps.overlaps #[t,t] #[r])
def Fu (P:Aw)(hp:Hp)(t:Ax)(args:Af):Bb (Av×Hp):=
 match P.underlying t with
 |some (.slice e)=>match P.info? e with
  |some _=>match args with
   | [.slice (some ⟨i, _, none⟩) _ _, .slice (some ⟨j, _, none⟩) _ _] => bif Nat.beq i j then none else
     match hp.m.get i,hp.m.get j with
     |some (.cells _ _ _ _),some (.cells _ k _ _)=>bif Nat.ble 1 k then some (.bool false,hp)else none|_,_=>none
   |_=>none
  |none=>none
 |_=>none
def kD :Ax:=4294967295
def isT :Bb Ax->Bool
 |some t=>Nat.beq t kD|none=>false
def FJ (P:Aw)(g:Ay):Prop:=∀w,Calls P g #[] w λe w'=>e= .returned (.bool true)/\Below w.heap.size w w'
def kI (P:Aw)(g:Ay)(t:Ax):Prop:=(t=kD/\FJ P g)\/(t≠kD/\PN P g t)
def HR.below (h:HR B w0 σ hp w){w':Bc}(k:Below w.heap.size w w'):HR B w0 σ hp w':=by refine⟨k.os.trans h.os,k.tape.trans h.tape,k.output.trans h.output,Ub h.size k.size,h.old,λi hi=>?_,h.frs,λi b r hg hx=>?_,h.ij,h.rz⟩;rw[k.block i (TX (h.old i hi) h.size)];exact h.kept i hi;obtain⟨p,o,f,g,d,j⟩:=h.liv i b r hg hx;exact⟨p,o,f,g,by rw[k.block p.blk (Ti.1 d).1];exact d,j⟩
theorem Fv {g:Ay}{t:Ax}(Z:PN P g t){args args':Af}(h:Fu P hp t args=some (v,hp'))(T:VRL σ args args')(J:HR B w0 σ hp w):hp'=hp/\ ∃u,VR σ v u/\(callFunc g args'.toArray).run P w= .ok (.value u) w:=by
 unfold Fu at h;split at h;case h_2=>cases h
 rename_i e ht;split at h;case h_2=>cases h
 rename_i ie G;split at h;case h_2=>cases h
 rename_i i o1 l1 c1 j o2 l2 c2;cases d:Nat.beq i j with
 |true=>grind|false=>
 rw[d,Tl]at h;have m:i≠j:=λe=>by rw[e,u7 rfl]at d;cases d
 split at h;case h_2=>cases h
 rename_i ci ki K zi cj kj L zj f l;cases hk:Nat.ble 1 kj with
 |false=>grind|true=>
 rw[hk,Tk]at h;have hk:=SX hk;cases h;obtain⟨a1,r,rfl,E,hr⟩:=T.uncons;obtain⟨a2,r,rfl,F,hr⟩:=hr.uncons;rw[hr.unnil]at*;cases E with
 |slice _ _ p _ _ y n V X=>
 cases F with
 |slice _ _ q _ _ z s W Y=>
 obtain⟨fn,rt,M,N,O,Q,R⟩:=Z;have H:=J.inj i j _ _ p q f l m n s;refine⟨rfl,.bool false,.bool false,?_⟩;obtain⟨p',C,S,g2,g3,A,g5,g6,g7⟩:=J.liveC f;have:=Tu (S.symm.trans n);subst this;obtain⟨q',D,m1,m2,m3,m4,m5,m6,m7⟩:=J.liveC l;have:=Tu (m1.symm.trans s);subst this;have I:∀w,(Go.sizeOf e).run P w= .ok ie.size w:=λw=>by simp[sizeOf,typeInfo,G]
 rw[run_callFunc_extern M N O Q R];have U:=Lib.run_overlaps_apart w t rt e ht ie.size I ⟨p'.blk,p'.dl+o1,none⟩ ⟨q'.blk,q'.dl+o2,none⟩ l1 y l2 z H K L C.size D.size
  (by simp[World.shape?,A]) (by simp[World.shape?,m4]) (by omega) (by simp[World.frozen?,A]) (by simp[World.frozen?,A])
 simp_all
end
def bT (tm:Ao):List (Nat×Az)->Bb (List (Nat×Av))
 | []=>some []| (i,x)::xs=>match i6 tm x with
  |some v=>match bT tm xs with
   |some vs=>some ((i,v)::vs)|none=>none
  |none=>none
theorem lV {σ:Sg}{tm:Ao}{a:Act}:∀ {xs:List (Nat×Az)} {vs:List (Nat×Av)},(∀p∈xs,∀v,i6 tm p.2=some v->VR σ v (a.eval p.2))->bT tm xs=some vs->PVR σ vs (xs.map λp=>(p.1,a.eval p.2))
 | [],vs,_,hx=>by simp[bT]at hx;subst hx;exact⟨rfl,λi x y h _=>by grind⟩| (i,x)::xs,vs,h,hx=>by
  simp only[bT]at hx;cases hv:i6 tm x with
  |none=>grind|some v=>
   cases hr:bT tm xs with
   |none=>grind|some r=>
    simp[hv,hr]at hx;subst hx;have d:=lV (λp hp=>h p (by grind)) hr;refine⟨by simp[d.1],λj p q hp hq=>?_⟩;cases j with
    |zero=>grind|succ j=>exact d.2 j p q hp hq
def xQ (tm:Ao):Bb Az->Bb (Ag)
 |none=>some none|some x=>match i6 tm x with
  |some v=>some (some v)|none=>none
theorem xR {σ:Sg}{tm:Ao}{a:Act}{x:Bb Az}(h:∀y,x=some y-> ∀v,i6 tm y=some v->VR σ v (a.eval y)){v:Ag}(hx:xQ tm x=some v):OVR σ v (x.map a.eval):=by
 cases x with
 |none=>simp only[xQ,SQ]at hx;subst hx;exact trivial|some x=>
  simp only[xQ]at hx;cases hv:i6 tm x with
  |none=>grind|some u=>simp only[hv,SQ]at hx;subst hx;exact h x rfl _ hv
theorem sU {σ:Sg}{tm:Ao}{a:Act}:∀ {xs:List Az} {vs:Af},(∀x∈xs,∀v,i6 tm x=some v->VR σ v (a.eval x))->aE tm xs=some vs->VRL σ vs (xs.map a.eval)
 | [],vs,_,hx=>by simp[aE]at hx;subst hx;exact VP σ|x::xs,vs,h,hx=>by
  simp only[aE]at hx;cases hv:i6 tm x with
  |none=>grind|some v=>
   cases hr:aE tm xs with
   |none=>grind|some r=>simp[hv,hr]at hx;subst hx;exact VO (h x (by simp) _ hv) (sU (λy hy=>h y (by grind)) hr)
def j3 (hp:Hp):Ag->Bb (Av×Hp)
 |some v=>some (v,hp)|none=>none
theorem A7 {hp hp':Hp}{x:Ag}{v:Av}(h:j3 hp x=some (v,hp')):x=some v/\hp'=hp:=by
 cases x with
 |none=>cases h
 |some u=>simp only[j3,SQ,SU]at h;exact⟨by grind,h.2.symm⟩
structure i9 where
 run:Ay->Af->Hp->Bb (Av×Hp)
 ov:Aa
 round:Nat->Af->Hp->Bb (Av×Hp)
def fJ (fn:Func):Bool:=fn.body.isSome&& !(fn.name== "runtime.NumGoroutine")
def B9 (P:Aw)(hp:Hp)(b:Builtin)(ats:List Ax)(args:Af):Bb (Av×Hp):=
 match b,ats,args with
 | .append,[t,u],[s,x]=>match D1 P hp t u s x with
  |some r=>some r|none=>Z6 P hp t u s x
 | .clear,[t],[x]=>qD P hp t x| .copy,[t,_],[d,x]=>AV P hp t d x| .len,[t],[x]=>j3 hp (lU P t x)| .cap,[t],[x]=>j3 hp (nX P t x)| .max,_,x::xs=>j3 hp (xI true x xs)|_,_,_=>none
def nW (P:Aw)(call:i9)(hp:Hp)(f:Av)(args:Af):Bb (Av×Hp):=
 match f with
 | .func (.func g) first captured=>match P.funcs[g]? with
  | some fn => bif fJ fn then call.run g (first.toList ++ args ++ captured.toList) hp else
    match call.ov g with
    |some t=>bif Nat.beq t kD then none else Fu P hp t (first.toList++args++captured.toList)|none=>none
  |none=>none
 | .chan (some i)=>call.round i args hp|_=>none
def xnw (P:Aw)(tm:Ao)(o:Op):Bb Nw:=
 match o with
 | .alloc e=>bif Nat.beq e rgT then none else aW P e| .box e x=>bif Nat.beq e rgT then none else match i6 tm x with
  |some v=>some (AU e v)|none=>none
 | .buildSlice t len parts=>match bT tm parts.toList with
  |some ps=>Hz P t len ps|none=>none
 | .makeSlice t l c=>match i6 tm l with
  |some v=>match i6 tm c with
   |some u=>KP P t v u|none=>none
  |none=>none
 | .range t x=>match i6 tm x with
  |some v=>oD P t v|none=>none
 |_=>none
def U8 (hp:Hp):Bb Nw->Bb (Av×Hp)
 |some n=>some (hp.add n)|none=>none
abbrev ob {α β:Type}(x:Bb α)(k:α->Bb β):Bb β:=match x with
 |some v=>k v|none=>none
def kY (P:Aw)(tm:Ao)(hp:Hp)(e:Ax):Bb (Av×Hp):=
 bif Nat.beq e rgT then ob (S9 P e) λz=>xJ hp z.cells.toList
 else U8 hp (xnw P tm (.alloc e))
def ML (P:Aw)(tm:Ao)(hp:Hp)(e:Ax)(x:Az):Bb (Av×Hp):=
 bif Nat.beq e rgT then ob (i6 tm x) λv=>xJ hp v.cells.toList
 else U8 hp (xnw P tm (.box e x))
def xop (P:Aw)(call:i9)(tm:Ao)(hp:Hp)(o:Op):Bb (Av×Hp):=
 match o with
 | .move x=>j3 hp (i6 tm x)| .assign x=>j3 hp (i6 tm x)| .pick c a b=>match i6 tm c with
  |some (.bool t)=>bif t then j3 hp (i6 tm a)else j3 hp (i6 tm b)|_=>none
 | .alloc e=>kY P tm hp e| .box e x=>ML P tm hp e x| .build t parts=>ob (bT tm parts.toList) λps=>j3 hp (wZ P t ps)
 | .buildSlice t len parts=>U8 hp (xnw P tm (.buildSlice t len parts))| .range t x=>U8 hp (xnw P tm (.range t x))| .next it isS=>ob (i6 tm it) λv=>AX hp v isS
 | .load t a=>ob (i6 tm a) λv=>j3 hp (G5 P hp t v)
 | .store t a x=>ob (i6 tm a) λv=>ob (i6 tm x) λu=>ob (I5 P hp t v u) λhp'=>some (undef,hp')
 | .nilCheck x=>match i6 tm x with
  |some (.pointer (some p))=>some (.pointer (some p),hp)|some (.func (.func f) a b)=>some (.func (.func f) a b,hp)|_=>none
 | .binOp op t x y _=>ob (i6 tm x) λv=>ob (i6 tm y) λu=>j3 hp (M5 P op t v u)
 | .unOp op _ x=>ob (i6 tm x) λv=>j3 hp (xun op v)
 | .convert s d x=>ob (i6 tm x) λv=>j3 hp (nY P s d v)
 | .makeFunc fn first captured=>ob (aE tm first.toList) λfs=>ob (aE tm captured.toList) λcs=>j3 hp (some (.func fn fs.toArray cs.toArray))
 | .makeSlice t l c=>U8 hp (xnw P tm (.makeSlice t l c))| .slice t x lo hi mx=>ob (i6 tm x) λv=>ob (xQ tm lo) λl=>ob (xQ tm hi) λh=>ob (xQ tm mx) λm=>w9 P hp t v l h m
 | .fieldAddr t x f=>ob (i6 tm x) λv=>j3 hp (U1 P t v f)
 | .field t x f=>ob (i6 tm x) λv=>j3 hp (xE P t v f)
 | .indexAddr t x i=>ob (i6 tm x) λv=>ob (i6 tm i) λu=>j3 hp (D3 P t v u)
 | .index t x i=>ob (i6 tm x) λv=>ob (i6 tm i) λu=>j3 hp (qG P t v u)
 | .extract x i=>ob (i6 tm x) λv=>j3 hp (Z7 v i)
 | .call c=>ob (aE tm c.args.toList) λargs=>match c.callee with
  | .builtin b=>B9 P hp b c.argTypes.toList args| .value f=>ob (i6 tm f) λv=>nW P call hp v args
  |_=>none
 |_=>none
def m1 {α d:Type}{x:Bb α}{k:α->Bb d}{r:d}(h:ob x k=some r):∃v,x=some v/\k v=some r:=by
 cases x with
 |none=>cases h
 |some v=>exact⟨v,rfl,h⟩
def RF (r:Ai):Fence:= {Fence.wide with round:=r}
def eI {P:Aw}{r:Ai}{o:Oper}{a:Act}{w:Bc}{next:Act->Bc->Prop}{Q:Exit->Act->Bc->Prop}(f:∀c,o.op≠ .defer c)(h:o.wp P a w next Q):o.wpIn (RF r) 0 P a w next Q:=by
 have d:(RF r).depth.isSome=true->1<=0:=λh=>by cases h
 refine⟨λ_ _=>trivial,?_⟩;rw[Oper.semAt_eq _ _ _ f];unfold Oper.wp at h;generalize (execOp a.eval o).run P w=x at h;cases x with
 |ok n w'=>
  cases n<;>simp only[Oper.upon]at h<;>first
   |exact h
   |exact⟨d,(callsIn_wide.2 h)⟩
   |exact⟨d,λc cs _=>let⟨v,w',r,s⟩:=h c cs;⟨v,w',r,(stepsIn_wide.2 s)⟩⟩
 |halt x w'=>cases x<;>exact h
structure P5 (P:Aw)(call:i9):Prop where
 run:∀g args hp v hp',call.run g args hp=some (v,hp')-> ∀B w0 σ w args',VRL σ args args'->HR B w0 σ hp w->
  Calls P g args'.toArray w (λe w'=>∃σ' u,e= .returned u/\Sg.gr hp.nx hp'.nx σ σ'/\VR σ' v u/\HR B w0 σ' hp' w')
 ov:∀g t,call.ov g=some t->kI P g t
 round:∀i args hp v hp',call.round i args hp=some (v,hp')-> ∀B w0 σ w args' p,σ i=some p->VRL σ args args'->HR B w0 σ hp w->
  ∃r,w.heap[p.blk]? =some (.loop r)/\args'.length=r.params.size/\
   RoundIn Fence.wide 0 P p.blk r.fn ((r.params.zip args'.toArray).foldl (λtmps (t,a)=>tmps.setIfInBounds t a) r.tmps) r.assign r.body w (λe w'=>∃σ' u,e= .returned u/\Sg.gr hp.nx hp'.nx σ σ'/\VR σ' v u/\HR B w0 σ' hp' w')
section
variable {P :Aw}{B:BS}{w0:Bc}{σ:Sg}{hp:Hp}{w:Bc}
variable {v:Av}
def MOK.of_pure {u:Av}{s:Sem Av}(h1:VR σ v u)(h2:∀w,s.run P w= .ok u w)(d:HR B w0 σ hp w):MOK hp B w0 σ v hp (s.run P w):=
 ⟨σ,u,w,h2 w,Vz _ σ,h1,d⟩
theorem xA {b:Builtin}{ats:Array Ax}{args:Af}{args':Af}{hp':Hp}(h:B9 P hp b ats.toList args=some (v,hp'))(l:VRL σ args args')(j:HR B w0 σ hp w)(ty:Ax)(cs:Array Bool):∃σ' u w',(builtin b ats ty cs args'.toArray).run P w= .ok (.value u) w'/\Sg.gr hp.nx hp'.nx σ σ'/\VR σ' v u/\HR B w0 σ' hp' w':=by
 have f:∀ {s:Sem Av},MOK hp B w0 σ v hp' (s.run P w)->builtin b ats ty cs args'.toArray=(do pure (.value (<-s)):Sem Next)->
   ∃σ' u w',(builtin b ats ty cs args'.toArray).run P w= .ok (.value u) w'/\Sg.gr hp.nx hp'.nx σ σ'/\VR σ' v u/\HR B w0 σ' hp' w':=by
  intro s hm he;obtain⟨σ',u,w',h1,h2,h3,h4⟩:=hm;refine⟨σ',u,w',?_,h2,h3,h4⟩;simp_all
 unfold B9 at h;split at h
 .rename_i t u s x i;obtain⟨s',r,rfl,hs,hr⟩:=l.uncons;obtain⟨x',r,rfl,hx,hr⟩:=hr.uncons;have:ats= #[t,u]:=by grind
  subst this;split at h;rename_i r m;cases h;exact f (yH m hs hx j ty) rfl;exact f (wY h hs hx j ty) rfl
 .rename_i t x i;obtain⟨x',r,rfl,hx,hr⟩:=l.uncons;have:ats= #[t]:=by grind
  subst this;exact f (CT h hx j ty) rfl
 .rename_i t u d x i;obtain⟨s',r,rfl,hs,hr⟩:=l.uncons;obtain⟨x',r,rfl,hx,hr⟩:=hr.uncons;have:ats= #[t,u]:=by grind
  subst this;exact f (Fl h hs hx j ty) rfl
 .rename_i t x i;obtain⟨x',r,rfl,hx,hr⟩:=l.uncons;obtain⟨g,rfl⟩:=A7 h;have:ats= #[t]:=by grind
  subst this;obtain⟨h1,h2⟩:=HC g hx ty #[t] rfl;exact f (MOK.of_pure h1 h2 j) rfl
 .rename_i t x i;obtain⟨x',r,rfl,hx,hr⟩:=l.uncons;obtain⟨g,rfl⟩:=A7 h;have:ats= #[t]:=by grind
  subst this;obtain⟨n,h1,h2⟩:=HB g hx ty #[t] rfl;exact f (MOK.of_pure h1 h2 j) rfl
 rename_i x xs;obtain⟨x',r,rfl,hx,hr⟩:=l.uncons;obtain⟨g,rfl⟩:=A7 h;obtain⟨h1,h2⟩:=xH g hx hr;exact f (MOK.of_pure h1 h2 j) rfl;cases h
theorem dX {g:Ay}{fn:Func}{args:Al}(hf:P.funcs[g]? =some fn)(d:fJ fn=true)(w:Bc):(callFunc g args).run P w= .ok (.enter g args) w:=by
 simp only[fJ,SR,TP]at d;have hb:fn.body.isNone=false:=by simp_all
 simp only[callFunc,Tx,UO,Tt,hf,d.2,hb,Uo,if_false,TC]
variable {tm:Ao}
set_option maxHeartbeats 2000000 in
def AY {o:Oper}{n:Nw}(h:xnw P tm o.op=some n){a:Act}(ht:∀x∈o.op.operands,∀v,i6 tm x=some v->VR σ v (a.eval x)):∃s:Sem Av,execOp a.eval o=(do pure (.value (<-s)):Sem Next)/\qR P σ n s:=by
 obtain⟨dst,op,type,pos,after,guard⟩:=o;cases op;case alloc e=>
  simp only[xnw]at h;cases hb:Nat.beq e rgT with
  |true=>rw[hb]at h;cases h
  |false=>rw[hb]at h;exact⟨_,rfl,yG h⟩
 case box e x=>
  simp only[xnw]at h;cases hb:Nat.beq e rgT with
  |true=>rw[hb]at h;cases h
  |false=>
  rw[hb,Tl]at h;split at h;rename_i v hv;simp only[SQ]at h;subst h;exact⟨_,rfl,Fi (ht x (by simp[Op.operands]) _ hv)⟩;cases h
 case buildSlice t len parts=>simp only[xnw]at h;split at h;rename_i ps d;have hp1:=lV (σ:=σ) (a:=a) (λp hp=>ht p.2 (by simp only[Op.operands,List.mem_toArray];exact Uy.2 ⟨p,hp,rfl⟩)) d;exact⟨_,rfl,HA (ys:=parts.map λ(i,x)=>(i,a.eval x)) h (by simpa using hp1)⟩;cases h
 case makeSlice t l c=>simp only[xnw]at h;split at h;rename_i lv hl;split at h;rename_i f hc;exact⟨_,rfl,HD h (ht l (by simp[Op.operands]) _ hl) (ht c (by simp[Op.operands]) _ hc)⟩;cases h;cases h
 case range t x=>simp only[xnw]at h;split at h;rename_i g hx;exact⟨_,rfl,yI h (ht x (by simp[Op.operands]) _ hx)⟩;cases h
 all_goals (simp only[xnw,reduceCtorEq]at h)
set_option maxHeartbeats 2000000 in
def jG {call:i9}(F:P5 P call){o:Oper}{hp':Hp}(h:xop P call tm hp o.op=some (v,hp')){a:Act}(ht:∀x∈o.op.operands,∀v,i6 tm x=some v->VR σ v (a.eval x))(C:HR B w0 σ hp w)(next:Act->Bc->Prop)(Q:Exit->Act->Bc->Prop)(hn:∀σ' u w',Sg.gr hp.nx hp'.nx σ σ'->VR σ' v u->HR B w0 σ' hp' w'->next (a.put o.dst u) w')(r:Ai):o.wpIn (RF r) 0 P a w next Q:=by
 have val:∀ {s:Sem Av},MOK hp B w0 σ v hp' (s.run P w)->execOp a.eval o=(do pure (.value (<-s)):Sem Next)->o.wp P a w next Q:=by intro s ⟨σ',u,w',h1,h2,h3,h4⟩ he;unfold Oper.wp;rw[he];simp only[Tx,h1,Tt,TC,UM];exact hn σ' u w' h2 h3 h4
 have E:∀ {s:Sem Av} {x:Ag},j3 hp x=some (v,hp')->(x=some v-> ∃u,VR σ v u/\ ∀w,s.run P w= .ok u w)->
   execOp a.eval o=(do pure (.value (<-s)):Sem Next)->o.wp P a w next Q:=by
  intro s x hx hs he;obtain⟨ad,rfl⟩:=A7 hx;obtain⟨u,h1,h2⟩:=hs ad;exact val (MOK.of_pure h1 h2 C) he
 have J:U8 hp (xnw P tm o.op)=some (v,hp')->o.wp P a w next Q:=by
  intro hx;cases R:xnw P tm o.op with
  |none=>rw[R]at hx;cases hx
  |some n=>rw[R]at hx;simp only[U8,SQ]at hx;obtain⟨s,h1,h2⟩:=AY R ht;have hm:=h2.mok C;rw[hx]at hm;exact val hm h1
 have q:∀ {x v},i6 tm x=some v->(m:x∈o.op.operands:=by simp[Op.operands,Call.operands])->VR σ v (a.eval x):=λh m=>ht _ m _ h;obtain⟨dst,op,type,pos,after,guard⟩:=o;cases op;case call c=>
  simp only[xop]at h;obtain⟨K,j,G⟩:=c;obtain⟨args,N,h⟩:=m1 h;have L:=sU (λy hy=>ht y (by simp only[Op.operands,Call.operands,Array.mem_append];exact .inr (by simpa using hy))) N;cases K with
  |invoke r m=>cases h
  |builtin b=>
   refine eI (λ_ h=>by cases h) ?_;obtain⟨σ',u,w',h1,h2,h3,h4⟩:=xA (ty:=type) (cs:=j.map λ| .const _=>true|_=>false) h L C;unfold Oper.wp;have D:(j.toList.map a.eval).toArray=j.map a.eval:=by apply Array.ext';simp
   rw[D]at h1;have H:(execOp a.eval ⟨dst,.call ⟨.builtin b,j,G⟩,type,pos,after,guard⟩).run P w= .ok (.value u) w':=by simp only[execOp,resolve,invoke,Tx,TC,Tt];exact h1
   rw[H];exact hn σ' u w' h2 h3 h4
  |value f=>
   simp only at h;obtain⟨fv,hf,h⟩:=m1 h;have M:=q hf;unfold nW at h;split at h
   .rename_i g first A
    refine eI (λ_ h=>by cases h) ?_;generalize O:a.eval f=fe at M;cases M with
    |func _ _ ys _ ds q1 q2 q3 q4=>
    split at h
    case' h_2=>cases h
    rename_i fn Y;have vf:VRL σ first.toList ys.toList:=⟨by simpa using q1,λi x y h1 h2=>q2 i x y (by simpa using h1) (by simpa using h2)⟩
    have vc:VRL σ A.toList ds.toList:=⟨by simpa using q3,λi x y h1 h2=>q4 i x y (by simpa using h1) (by simpa using h2)⟩
    have D:(ys.toList++j.toList.map a.eval++ds.toList).toArray=ys++j.map a.eval++ds:=by apply Array.ext';simp
    have I:(execOp a.eval ⟨dst,.call ⟨.value f,j,G⟩,type,pos,after,guard⟩).run P w=(callFunc g (ys++j.map a.eval++ds)).run P w:=by simp only[execOp,resolve,O,Deferred.ofValue,invoke,Tx,TC,Tt]
    cases ho:fJ fn with
    |false=>
     rw[ho,Tl]at h;split at h
     case' h_2=>cases h
     rename_i t0 ac;have V:t0≠kD:=λe=>by rw[e,u7 rfl]at h;cases h
     rw[z4 V,Tl]at h;obtain⟨rfl,u,h1,h2⟩:=Fv ((F.ov g t0 ac).resolve_left λe=>V e.1).2 h ((vf.append L).append vc) C;rw[D]at h2;unfold Oper.wp;rw[I,h2,UM];exact hn σ u w (Vz _ σ) h1 C
    |true=>rw[ho,Tk]at h;have hc:=F.run g _ hp v hp' h B w0 σ w _ ((vf.append L).append vc) C;rw[D]at hc;unfold Oper.wp;rw[I,dX Y ho w,Oper.upon_enter];refine hc.mono λe w' he=>?_;obtain⟨σ',u,rfl,h2,h3,h4⟩:=he;exact hn σ' u w' h2 h3 h4
   .rename_i i;generalize O:a.eval f=fe at M;cases M with
    |yield _ p hp0=>
    obtain⟨ae,k1,k2,k3⟩:=F.round i args hp v hp' h B w0 σ w _ p hp0 L C;have D:(j.toList.map a.eval).toArray=j.map a.eval:=by apply Array.ext';simp
    have H:(execOp a.eval ⟨dst,.call ⟨.value f,j,G⟩,type,pos,after,guard⟩).run P w=(Instr.yield p.blk (j.map a.eval)).run P w:=by simp only[execOp,resolve,O,Deferred.ofValue,invoke,Tx,TC,Tt];congr 2;simp
    refine⟨λ_ _=>trivial,?_⟩;rw[Oper.semAt_eq _ _ _ (λ_ h=>by cases h),H,run_yield k1 (by rw[<-k2];simp),Oper.uponIn_round];refine⟨(λh=>by cases h),?_⟩;rw[D]at k3;refine(show RoundIn (RF r) _ P _ _ _ _ _ _ _ from k3).mono λe w' he=>?_;obtain⟨σ',u,rfl,h2,h3,h4⟩:=he;exact hn σ' u w' h2 h3 h4
   cases h
 all_goals first| (simp only[xop,reduceCtorEq]at h;done)|refine eI (λ_ h=>by cases h) ?_
 case move x=>obtain⟨hx,rfl⟩:=A7 h;exact hn σ _ w (Vz _ σ) (q hx) C
 case assign x=>obtain⟨hx,rfl⟩:=A7 h;exact hn σ _ w (Vz _ σ) (q hx) C
 case pick c x y=>simp only[xop]at h;split at h;rename_i t hc;have U:=q hc;generalize W:a.eval c=cv at U;cases U;unfold Oper.wp;cases t<;>obtain⟨hx,rfl⟩:=A7 h<;>simp only[execOp,W,asBool,Tx,TC,Tt,UG,Uo,if_false,UM]<;>exact hn σ _ w (Vz _ σ) (q hx) C;cases h
 case alloc e=>
  simp only[xop,kY]at h;cases hb:Nat.beq e rgT with
  |false=>rw[hb]at h;exact J h|true=>rw[hb,Tk]at h;have:=SY hb;subst this;obtain⟨z,hz,h⟩:=m1 h;obtain⟨hc,hr⟩:=Q7 hz;obtain⟨σ',h1,h2,h3⟩:=rM (us:=z.cells) h (by simpa using(dF σ hc).cells) C;exact val (s:=Instr.alloc rgT true (.tuple #[])) ⟨σ',_,_,by simp[Instr.alloc,hr,newVar,newRow],h1,h2,h3⟩ rfl
 case box e x=>
  simp only[xop,ML]at h;cases hb:Nat.beq e rgT with
  |false=>rw[hb]at h;exact J h|true=>rw[hb,Tk]at h;have:=SY hb;subst this;obtain⟨xv,hx,h⟩:=m1 h;obtain⟨σ',h1,h2,h3⟩:=rM (us:=(a.eval x).cells) h (q hx).cells C;exact val (s:=Instr.box rgT (a.eval x)) ⟨σ',_,_,by simp[Instr.box,newVar,newRow],h1,h2,h3⟩ rfl
 case build t parts=>obtain⟨ps,aa,h⟩:=m1 h;have hp1:=lV (λp hp=>ht p.2 (by simp only[Op.operands,List.mem_toArray];exact Uy.2 ⟨p,hp,rfl⟩)) aa;exact E h (λhx=>CS (ys:=parts.map λ(i,x)=>(i,a.eval x)) hx (by simpa using hp1)) rfl
 case buildSlice t len parts=>exact J h
 case makeSlice t l c=>exact J h
 case range t x=>exact J h
 case next it isS=>obtain⟨_,hx,h⟩:=m1 h;exact val (Fp h (q hx) C type) rfl
 case load t x=>obtain⟨_,hx,h⟩:=m1 h;obtain⟨h,rfl⟩:=A7 h;obtain⟨u,h1,h2⟩:=rL h (q hx) C;exact val ⟨σ,u,w,h2,Vz _ σ,h1,C⟩ rfl
 case store t x y=>obtain⟨_,hx,h⟩:=m1 h;obtain⟨_,hy,h⟩:=m1 h;obtain⟨_,ab,h⟩:=m1 h;cases h;obtain⟨w',h1,h2,h3⟩:=Di ab (q hx) (q hy) C;unfold Oper.wp;simp only[execOp,Tx,h1,Tt,TC,Oper.upon_skip];exact hn σ undef w' (by rw[h3];exact Vz _ σ) (VR.undef σ) h2
 case nilCheck x=>simp only[xop]at h;unfold Oper.wp;split at h;rename_i p hx;cases h;have hv:=q hx;generalize T:a.eval x=xv at hv;have S:=hv;cases hv<;>simp only[execOp,T,TC,UM]<;>exact hn σ _ w (Vz _ σ) S C;rename_i f fa fb hx;cases h;have hv:=q hx;generalize T:a.eval x=xv at hv;have S:=hv;cases hv;simp only[execOp,T,TC,UM];exact hn σ _ w (Vz _ σ) S C;cases h
 case binOp op t x y yt=>obtain⟨_,hx,h⟩:=m1 h;obtain⟨_,hy,h⟩:=m1 h;obtain⟨h0,rfl⟩:=A7 h;obtain⟨u0,h1,h2⟩:=Fe (P:=P) h0 (q hx) (q hy) x y;unfold Oper.wp;simp only[execOp,Tx,(h2 w).1,(h2 w).2,Tt,TC,UM];exact hn σ _ w (Vz _ σ) h1 C
 case unOp op t x=>obtain⟨_,hx,h⟩:=m1 h;exact E h (λh=>⟨_,KU h (q hx)⟩) rfl
 case convert s d x=>obtain⟨_,hx,h⟩:=m1 h;exact E h (λh=>Fk h (q hx)) rfl
 case makeFunc fn first A=>obtain⟨fs,Z,h⟩:=m1 h;obtain⟨cs,X,h⟩:=m1 h;cases h;have v1:=sU (λy hy=>ht y (by simp only[Op.operands,Array.mem_append];exact .inl (by simpa using hy))) Z;have v2:=sU (λy hy=>ht y (by simp only[Op.operands,Array.mem_append];exact .inr (by simpa using hy))) X;refine hn σ (.func fn (first.map a.eval) (A.map a.eval)) w (Vz _ σ) (.func _ _ _ _ _ ?_ ?_ ?_ ?_) C;have:=v1.1;simpa using this;intro i x y h1 h2;exact v1.2 i x y (by simpa using h1) (by simpa using h2);have:=v2.1;simpa using this;intro i x y h1 h2;exact v2.2 i x y (by simpa using h1) (by simpa using h2)
 case slice t x lo hi mx=>obtain⟨_,hx,h⟩:=m1 h;obtain⟨_,hl,h⟩:=m1 h;obtain⟨_,hh,h⟩:=m1 h;obtain⟨_,hm,h⟩:=m1 h;exact val (Dc h (q hx) (xR (λy hy=>ht y (by subst hy;simp[Op.operands])) hl) (xR (λy hy=>ht y (by subst hy;simp[Op.operands])) hh) (xR (λy hy=>ht y (by subst hy;simp[Op.operands])) hm) C) rfl
 case fieldAddr t x f=>obtain⟨_,hx,h⟩:=m1 h;exact E h (λh=>qE h (q hx)) rfl
 case field t x f=>obtain⟨_,hx,h⟩:=m1 h;exact E h (λh=>CV h (q hx)) rfl
 case indexAddr t x i=>obtain⟨_,hx,h⟩:=m1 h;obtain⟨_,hi,h⟩:=m1 h;exact E h (λh=>qH h (q hx) (q hi)) rfl
 case index t x i=>obtain⟨_,hx,h⟩:=m1 h;obtain⟨_,hi,h⟩:=m1 h;exact E h (λh=>CW h (q hx) (q hi)) rfl
 case extract x i=>obtain⟨_,hx,h⟩:=m1 h;exact E h (λh=>xD h (q hx)) rfl
end
def eU (ops:An)(tm:Ao)(j:Nat):Bb Bool:=
 match ops[j]? with
 |some o=>match o.dst with
  |some d=>match tm.get d with
   |some (.bool b)=>some b|_=>none
  |none=>none
 |none=>none
def v5 (ops:An)(tm:Ao)(o:Oper):Bool:=
 match o.guard with
 |none=>true|some (j,want)=>match eU ops tm j with
  |some b=>b==want|none=>false
variable {σ:Sg}{nt:Nat}{tm:Ao}
theorem HK {tmps:Al}(h:TR σ nt tm tmps)(ops:Am)(o:Oper):Region.wanted o (yielded ops tmps)=v5 ops.toList tm o:=by
 unfold Region.wanted v5;cases o.guard with
 |none=>rfl|some i=>
  obtain⟨j,g⟩:=i;have hy:yielded ops tmps j=eU ops.toList tm j:=by
   unfold yielded eU;rw[Array.getElem?_toList];cases hj:ops[j]? with
   |none=>rfl|some p=>
    simp;cases l:p.dst with
    |none=>rfl|some d=>
     simp;have:=h.at_ d;by_cases hlt:d<tmps.size
     .have e:tmps[d]? =some tmps[d]:=by grind
      have f:tmps.getD d undef=tmps[d]:=by simp_all
      rw[f]at this;rw[e];cases hg:tm.get d with
      |none=>rw[hg,Option.getD_none]at this;generalize tmps[d]=x at this;cases this<;>grind
      |some v=>rw[hg,TL]at this;generalize tmps[d]=x at this;cases this<;>rfl
     .have e:=Array.getElem?_eq_none (Uv hlt);have f:tmps.getD d undef=undef:=by grind
      rw[f]at this;rw[e];cases hg:tm.get d with
      |none=>rfl|some v=>rw[hg,TL]at this;cases this<;>grind
  grind
def y7 (tm:Ao)(dst:Bb Tmp)(v:Av):Ao:=
 match dst with
 |some d=>tm.set d (some v)|none=>tm
def C4 (nt:Nat)(dst:Bb Tmp):Bool:=
 match dst with
 |some d=>Nat.blt d nt|none=>true
def TR.putO {a:Act}(h:TR σ nt tm a.tmps){dst:Bb Tmp}(f:C4 nt dst=true){v u:Av}(hv:VR σ v u):TR σ nt (y7 tm dst v) (a.put dst u).tmps:=by
 cases dst with
 |none=>exact h|some d=>exact h.put (SX f) hv
def Oq (ih:Ao->Hp->Bb (Ao×Hp))(tm:Ao)(dst:Bb Tmp)(r:Bb (Av×Hp)):Bb (Ao×Hp):=
 Option.rec (motive:=λ_=>Bb (Ao×Hp)) none (λp=>Prod.rec (motive:=λ_=>Bb (Ao×Hp)) (λv hp=>(y7 tm dst v).force λtm'=>ih tm' hp) p) r
def xone (P:Aw)(call:i9)(nt:Nat)(all:An)(o:Oper)(ih:Ao->Hp->Bb (Ao×Hp))(tm:Ao)(hp:Hp):Bb (Ao×Hp):=
 bif C4 nt o.dst then
  bif v5 all tm o then Oq ih tm o.dst (xop P call tm hp o.op)
  else(y7 tm o.dst undef).force λtm'=>ih tm' hp
 else none
def xN (P:Aw)(call:i9)(nt:Nat)(all:An)(l:An):Ao->Hp->Bb (Ao×Hp):=
 List.rec (motive:=λ_=>Ao->Hp->Bb (Ao×Hp)) (λtm hp=>some (tm,hp)) (λo _ ih tm hp=>xone P call nt all o ih tm hp) l
variable {P:Aw}{call:i9}{hp:Hp}
def xP {all:An}:xN P call nt all [] tm hp=some (tm,hp):=rfl
def U2 {all rest:An}{o:Oper}:xN P call nt all (o::rest) tm hp=bif C4 nt o.dst then bif v5 all tm o then match xop P call tm hp o.op with
    |some (v,hp')=>xN P call nt all rest (y7 tm o.dst v) hp'|none=>none
   else xN P call nt all rest (y7 tm o.dst undef) hp
  else none:=by
 show xone P call nt all o (xN P call nt all rest) tm hp=_;unfold xone;cases xop P call tm hp o.op with
 |none=>simp only[VC,Oq]|some r=>simp only[VC,Oq]
def xT (n:Nat)(B:BS)(w0:Bc)(σ:Sg)(nt:Nat)(e:Exit)(tm:Ao)(hp:Hp)(D:List Deferred):Exit->Act->Bc->Prop:=
 λe' a' w'=>e'=e/\a'.defers=D/\ ∃σ',Sg.gr n hp.nx σ σ'/\TR σ' nt tm a'.tmps/\HR B w0 σ' hp w'
variable {w' w0:Bc}{σ':Sg}
def xT.le {B:BS}{n g:Nat}(h:Sg.gr n g σ σ'){e:Exit}{D:List Deferred}{e':Exit}{f:Act}(hp':xT g B w0 σ' nt e tm hp D e' f w'):xT n B w0 σ nt e tm hp D e' f w':=by obtain⟨h1,h2,d,h3,h4,i⟩:=hp';exact⟨h1,h2,d,VA h h3,h4,i⟩
variable {r:Ai}
theorem yF {ops:Am}{Q j:Exit->Act->Bc->Prop}(hq:∀e a w,Q e a w->j e a w):∀(l:Ah) {a:Act} {w:Bc},wpOpsIn (RF r) 0 P ops Q l a w->wpOpsIn (RF r) 0 P ops j l a w:=by
 have d:LetsOut Q->LetsOut j:=λ⟨a,w,h⟩=>⟨a,w,hq _ _ _ h⟩
 intro l;induction l with
 |nil=>intro a w h;exact hq _ _ _ h
 |cons i rest g=>
  intro a w h;simp only[wpOpsIn]at h⊢;cases m:ops[i]? with
  |none=>grind|some o=>
   simp only[m]at h;simp only;split
   .rename_i p;simp only[p,UG]at h;refine⟨h.1,?_⟩;replace h:=h.2;generalize (o.semAt (RF r).round a.eval).run P w=x at h⊢;cases x with
    |ok n w'=>
     cases n<;>simp only[Oper.uponIn]at h⊢ <;>first
      |exact g h
      | (refine⟨h.1,CallsIn.mono h.2 λe f he=>?_⟩;cases e<;>first|exact g he|exact hq _ _ _ he|exact d he)
      |exact⟨h.1,RowsIn.mono h.2 λv f he=>g he⟩
      | (refine⟨h.1,RoundIn.mono h.2 λe f he=>?_⟩;cases e<;>first|exact g he|exact hq _ _ _ he|exact d he)
    |halt x w'=>cases x<;>simp only[Oper.uponIn]at h⊢ <;>exact hq _ _ _ h
   grind
def jY {P:Aw}{F:Fence}{k:Nat}{c:Code}{Q d:Exit->Act->Bc->Prop}(hq:∀e a w,Q e a w->d e a w):∀ {n:Nat} {a:Act} {w:Bc},Code.roundsIn F k P c Q n a w->Code.roundsIn F k P c d n a w
 |0,_,_,h=>h.elim|n+1,_,_,h=>UQ h λe a w he=>by
  cases e with
  |normal=>exact jY hq he|_=>exact hq _ _ _ he
section
variable {P :Aw}{B:BS}{w0:Bc}{call:i9}
def TR.ER {σ:Sg}{nt:Nat}{tm:Ao}{a:Act}(h:TR σ nt tm a.tmps)(xs:Array Az):∀x∈xs,∀v,i6 tm x=some v->VR σ v (a.eval x):=
 λ_ _ _ hv=>nZ h hv
def lA (a:Act)(dst:Bb Tmp)(v:Av):(a.put dst v).defers=a.defers:=by cases dst<;>rfl
theorem HF (f:P5 P call){nt:Nat}(ops:Am)(r:Ai):∀(l:An) (k:Nat) (tm:Ao) (hp:Hp) (tm':Ao) (hp':Hp) (σ:Sg) (a:Act) (w:Bc),(∀j,l[j]? =ops[k+j]?)->xN P call nt ops.toList l tm hp=some (tm',hp')->TR σ nt tm a.tmps->HR B w0 σ hp w-> ∀D,a.defers=D->wpOpsIn (RF r) 0 P ops (xT hp.nx B w0 σ nt .normal tm' hp' D) (List.range' k l.length) a w:=by
 intro l;induction l with
 |nil=>intro k tm hp tm' hp' σ a w _ h ht p D n;obtain⟨rfl,rfl⟩:=h;exact⟨rfl,n,σ,Vz _ σ,ht,p⟩
 |cons o l t=>
  intro k tm hp tm' hp' σ a w hl h ht p D n;have y:ops[k]? =some o:=by simpa using(hl 0).symm
  have g:∀j,l[j]? =ops[k+1+j]? :=λj=>by have:=hl (j+1);simpa [Ud,Nat.add_comm 1 j]using this
  rw[U2]at h;simp only[TM,List.range'_succ,wpOpsIn,y];cases d:C4 nt o.dst with
  |false=>grind|true=>
   rw[d,Tk]at h;rw[HK ht ops o];cases m:v5 ops.toList tm o with
   |true=>rw[m,Tk]at h;split at h;rename_i v hp1 hx;refine jG f hx (ht.ER _) p _ _ (λσ' u w' i hv q=>?_) r;have s:=t (k+1) _ hp1 tm' hp' σ' (a.put o.dst u) w' g h ((ht.mono i.le).putO d hv) q D (by rw[lA];exact n);exact yF (λe z w' hq=>xT.le i hq) _ s;cases h
   |false=>rw[m,Tl]at h;exact⟨λ_ _=>trivial,t (k+1) _ hp tm' hp' σ _ w g h (ht.putO d (VR.undef σ)) p D (by rw[lA];exact n)⟩
end
inductive Df where
 |mark (r:Nat)
 |call (g:Ay) (args cap:Af)
def DfR (σ:Sg):Df->Deferred->Prop
 | .mark r,d=>∃p,σ r=some p/\d.target= .collected p.blk| .call g args cap,d=>∃cap',d.target= .fn (.func g) cap'/\VRL σ args d.args.toList/\VRL σ cap cap'.toList
def DsR (σ:Sg):List Df->List Deferred->Prop
 | [],[]=>True|x::xs,d::ds=>DfR σ x d/\DsR σ xs ds|_,_=>False
def DfR.mono (hs:Sg.le σ σ'){x:Df}{d:Deferred}(h:DfR σ x d):DfR σ' x d:=by
 cases x with
 |mark r=>obtain⟨p,h1,h2⟩:=h;exact⟨p,hs _ _ h1,h2⟩
 |call g args cap=>obtain⟨c,h1,h2,h3⟩:=h;exact⟨c,h1,h2.mono hs,h3.mono hs⟩
def DsR.mono (hs:Sg.le σ σ'):∀ {xs:List Df} {ds:List Deferred},DsR σ xs ds->DsR σ' xs ds
 | [],[],_=>trivial|_::_,_::_,h=>⟨h.1.mono hs,DsR.mono hs h.2⟩
 | [],_::_,h=>h.elim|_::_,[],h=>h.elim
def ArR (σ:Sg):Ai->Ai->Prop
 |none,none=>True|some j,some b=>∃p,σ j=some p/\p.blk=b|_,_=>False
def ArR.mono (hs:Sg.le σ σ'){ar:Ai}(h:ArR σ ar r):ArR σ' ar r:=by cases ar<;>cases r<;>first|exact h| (obtain⟨p,h1,h2⟩:=h;exact⟨p,hs _ _ h1,h2⟩)
inductive XR where
 |mk (e:Exit) (tm:Ao) (hp:Hp) (ds:List Df)
abbrev bB:=i9->Nat->An->Ao->Hp->Bb (Ao×Hp)
def kG (P:Aw)(dr:bB):Prop:=
 ∀call,P5 P call-> ∀nt (ops:Am) id tm hp tm' hp',dr call nt ops.toList tm hp=some (tm',hp')-> ∀B w0 σ a w,TR σ nt tm a.tmps->HR B w0 σ hp w-> ∀r,
  (Code.region id ops true).wpIn (RF r) 0 P (xT hp.nx B w0 σ nt .normal tm' hp' a.defers) a w
def xS (R:Bb (Av×Hp))(l:Nat)(tm:Ao)(ds:List Df):Bb XR:=
 match R with
 |some (_,hp)=>match hp.m.get l with
  |some (.loop .ready pend _ _ _ _ _ _)=>match pend with
   |none=>some (.mk .normal tm {hp with m:=hp.m.set l none} ds)|some _=>none
  |some (.loop .done pend _ _ _ _ _ _)=>match pend with
   |some .ret=>some (.mk .ret tm {hp with m:=hp.m.set l none} ds)|some (.exit id)=>some (.mk (.exit id) tm {hp with m:=hp.m.set l none} ds)|_=>none
  |_=>none
 |none=>none
def eR (P:Aw)(call:i9)(nt:Nat)(ar:Ai)(f:Az)(ps:Array Tmp)(assign body:Code)(tm:Ao)(hp:Hp)(ds:List Df):Bb XR:=
 match i6 tm f with
 |some (.func (.func g) first captured)=>match P.funcs[g]? with
  | some fn => bif fJ fn then
    match ar with
    |none=>xS (call.run g (first.toList++ [.chan (some (hp.nx+1))]++captured.toList) ⟨(hp.m.set hp.nx (some .dfr)).set (hp.nx+1) (some (.loop .ready none nt tm ps assign body hp.nx)),hp.nx+2⟩) (hp.nx+1) tm (.mark hp.nx::ds)|some j=>match hp.m.get j with
     |some (.loop _ _ _ _ _ _ _ db)=>xS (call.run g (first.toList++ [.chan (some hp.nx)]++captured.toList) ⟨hp.m.set hp.nx (some (.loop .ready none nt tm ps assign body db)),hp.nx+1⟩) hp.nx tm ds|_=>none
   else none
  |none=>none
 |_=>none
def SA (tm:Ao)(c:Call):Bb Df:=
 match c.callee with
 | .value f=>match i6 tm f with
  |some (.func (.func g) first captured)=>match aE tm c.args.toList with
   |some args=>some (.call g (first.toList++args) captured.toList)|none=>none
  |_=>none
 |_=>none
def FR :Op->Bb Call
 | .defer c=>some c|_=>none
def Bd (P:Aw)(call:i9)(nt:Nat)(all:An):An->Ao->Hp->List Df->Bb (Ao×Hp×List Df)
 | [],tm,hp,ds=>some (tm,hp,ds)|o::rest,tm,hp,ds=>
  bif C4 nt o.dst then
   bif v5 all tm o then
    match FR o.op with
    |some c=>match SA tm c with
     |some d=>Bd P call nt all rest (y7 tm o.dst undef) hp (d::ds)|none=>none
    |none=>match xop P call tm hp o.op with
     |some (v,hp')=>Bd P call nt all rest (y7 tm o.dst v) hp' ds|none=>none
   else Bd P call nt all rest (y7 tm o.dst undef) hp ds
  else none
def Jr (P:Aw)(call:i9)(nt:Nat)(ar:Ai)(ops:An)(draw:Bool)(tm:Ao)(hp:Hp)(ds:List Df):Bb XR:=
 have _:=P
 none
def j8 (P:Aw)(dr:bB)(call:i9)(nt:Nat)(ar:Ai):Nat->Code->Ao->Hp->List Df->Bb XR
 |0,_,_,_,_=>none|m+1,c,tm,hp,ds=>match c with
  | .skip=>some (.mk .normal tm hp ds)| .label _=>some (.mk .normal tm hp ds)| .region _ ops draw=>match(bif draw then dr call nt ops.toList tm hp else xN P call nt ops.toList ops.toList tm hp)with
   |some (tm',hp')=>some (.mk .normal tm' hp' ds)|none=>Jr P call nt ar ops.toList draw tm hp ds
  | .seq x y=>match j8 P dr call nt ar m x tm hp ds with
   |some (.mk .normal tm' hp' ds')=>j8 P dr call nt ar m y tm' hp' ds'|r=>r
  | .cond c x y=>match i6 tm c with
   |some (.bool true)=>j8 P dr call nt ar m x tm hp ds|some (.bool false)=>j8 P dr call nt ar m y tm hp ds|_=>none
  | .block id b=>match j8 P dr call nt ar m b tm hp ds with
   |some (.mk (.exit j) tm' hp' ds')=>bif Nat.beq j id then some (.mk .normal tm' hp' ds')else some (.mk (.exit j) tm' hp' ds')|r=>r
  | .loop b=>match j8 P dr call nt ar m b tm hp ds with
   |some (.mk .normal tm' hp' ds')=>j8 P dr call nt ar m (.loop b) tm' hp' ds'|r=>r
  | .exit id=>some (.mk (.exit id) tm hp ds)| .ret=>some (.mk .ret tm hp ds)| .scope b=>match j8 P dr call nt ar m b tm hp ds with
   |some (.mk .normal tm' hp' ds')=>some (.mk .normal tm' hp' ds')|some (.mk (.exit j) tm' hp' ds')=>some (.mk (.exit j) tm' hp' ds')|some (.mk .ret tm' hp' ds')=>some (.mk .ret tm' hp' ds')|_=>none
  | .rangeFunc f ps assign body=>eR P call nt ar f ps assign body tm hp ds|_=>none
def Q9 (n:Nat)(B:BS)(w0:Bc)(σ:Sg)(nt:Nat)(e:Exit)(tm:Ao)(hp:Hp)(ds:List Df):Exit->Act->Bc->Prop:=
 λe' a' w'=>e'=e/\ ∃σ',Sg.gr n hp.nx σ σ'/\DsR σ' ds a'.defers/\TR σ' nt tm a'.tmps/\HR B w0 σ' hp w'
def Q9.le {B:BS}{n g:Nat}(h:Sg.gr n g σ σ'){e:Exit}{ds:List Df}{e':Exit}{f:Act}(hp':Q9 g B w0 σ' nt e tm hp ds e' f w'):Q9 n B w0 σ nt e tm hp ds e' f w':=by obtain⟨h1,d,h3,h2,h4,i⟩:=hp';exact⟨h1,d,VA h h3,h2,h4,i⟩
def Vu:type_of% @Q9.le:=@Q9.le
section
variable {P :Aw}{B:BS}{w0:Bc}{call:i9}{dr:bB}
variable {b:Frame}{a:Act}{k:List Item}{cs:List Frame}{w:Bc}{c:Code}
def Q5 :step P (lone (b.atR a (.code (.scope c)::k)) cs w)= .next (lone (b.atR a (.code c:: .inScope c::k)) cs w):=
 step_lone_go rfl
def yE :step P (lone (b.atR a (.inScope c::k)) cs w)= .next (lone (b.atR a k) cs w):=
 step_lone_go rfl
def jP {F:Fence}{n:Nat}{Q:Exit->Act->Bc->Prop}(h:c.wpIn F n P (Exit.noGoto Q) a w):(Code.scope c).wpIn F n P Q a w:=by
 intro b k cs m hb hr;have h0:(lone (b.atR a (.code (.scope c)::k)) cs w).fenced P F:=fenced_calm hb hr rfl;obtain⟨e,f,g,hq,d⟩:=h b (.inScope c::k) cs m hb hr;cases e with
 |normal=>exact⟨.normal,f,g,hq,.head h0 Q5 (StepsIn.trans d (.one (fenced_calm hb hr rfl) yE))⟩|exit p=>
  have hx:exitTo p (.inScope c::k)=exitTo p k:=rfl;exact⟨.exit p,f,g,hq,λk' hk=>.head h0 Q5 (d.1 k' (hk)),
   λj hk=>let⟨i,h1,h2⟩:=d.2 j (hk);⟨i,h1,.head h0 Q5 h2⟩⟩
 |goto l=>exact hq.elim|ret=>exact⟨_,f,g,hq,.of_steps (.one h0 Q5) d⟩|panic ch=>exact⟨_,f,g,hq,.of_steps (.one h0 Q5) d⟩|outgrown=>exact⟨_,f,g,hq,.of_steps (.one h0 Q5) d⟩
variable {σ:Sg}{hp:Hp}
def HR.less (h:HR B w0 σ hp w){m:T Blk}(hm:∀i b,m.get i=some b->hp.m.get i=some b):HR B w0 σ ⟨m,hp.nx⟩ w:=
 h.sub (Tq _) hm
theorem HR.drop (h:HR B w0 σ hp w)(l:Nat):HR B w0 σ {hp with m:=hp.m.set l none} w:=by refine h.less λi b hg=>?_;rw[VF]at hg;grind
variable {tm tm':Ao}{ds ds':List Df}{e:Exit}{hp':Hp}{nt:Nat}
theorem oE (z:P5 P call){g l:Nat}{xs:Af}(h:xS (call.run g xs hp) l tm ds=some (.mk e tm' hp' ds')){p:Pl}(hl:σ l=some p){ys:Af}(hv:VRL σ xs ys)(M:HR B w0 σ hp w)(ht:TR σ nt tm a.tmps)(G:DsR σ ds a.defers)(r:Ai)(k:Nat):CallsIn (RF r) k P g ys.toArray w (rangePost (RF r) 0 P p.blk (Q9 hp.nx B w0 σ nt e tm' hp' ds') a):=by
 unfold xS at h;split at h
 .rename_i v hp1 hx;have hc:=z.run g xs hp v hp1 hx B w0 σ w ys hv M;refine((callsIn_wide).2 hc).mono λe' K he=>?_;obtain⟨t,u,rfl,gr,_,D⟩:=he;have H:=gr.le _ _ hl;have y:∀st pend q d s f j n,hp1.m.get l=some (.loop st pend q d s f j n)->st≠ .busy->
    ∃A,(Instr.endLoop p.blk).run P K= .ok pend A/\HR B w0 t {hp1 with m:=hp1.m.set l none} A:=by
   intro st pend q d s f j n hg L;obtain⟨p',o,J,U,R,S⟩:=D.live l _ hg;have:=Tu (J.symm.trans H);subst this;obtain⟨E,rfl,k1,k2,k3,k4,N,O,Q⟩:=S;refine⟨K.putObj p'.blk (.loop {E with state:= .exhausted}),?_,?_⟩;rw[run_endLoop R (by grind),k2];have hs:=HR.setO (b':= .loop .exhausted pend q d s f j n) D hg J (o:= .loop {E with state:= .exhausted}) ⟨_,rfl,rfl,k2,k3,k4,N,O,Q⟩;have I:=HR.drop hs l;refine I.less λi b hi=>?_;rw[VF]at hi⊢;by_cases C:i=l;grind;rw[Tn C]at hi⊢;rw[VF,Tn C];exact hi
  split at h;rename_i pend q d s f j n hg;obtain⟨A,m1,F⟩:=y _ _ _ _ _ _ _ _ hg (by simp);split at h;simp at h;obtain⟨rfl,rfl,rfl,rfl⟩:=h;exact⟨_,A,m1,rfl,t,gr,G.mono gr.le,ht.mono gr.le,F⟩;cases h;rename_i pend q d s f j n hg;obtain⟨A,m1,F⟩:=y _ _ _ _ _ _ _ _ hg (by simp);split at h;simp at h;obtain⟨rfl,rfl,rfl,rfl⟩:=h;exact⟨_,A,m1,wpIn_ret ⟨rfl,t,gr,G.mono gr.le,ht.mono gr.le,F⟩⟩;simp at h;obtain⟨rfl,rfl,rfl,rfl⟩:=h;exact⟨_,A,m1,wpIn_exit ⟨rfl,t,gr,G.mono gr.le,ht.mono gr.le,F⟩⟩;cases h;cases h
 cases h
variable {ar r:Ai}
theorem qL (t:P5 P call){f:Az}{ps:Array Tmp}{assign body:Code}(h:eR P call nt ar f ps assign body tm hp ds=some (.mk e tm' hp' ds'))(ht:TR σ nt tm a.tmps)(D:HR B w0 σ hp w)(O:DsR σ ds a.defers)(C:ArR σ ar r):(Code.rangeFunc f ps assign body).wpIn (RF r) 0 P (Q9 hp.nx B w0 σ nt e tm' hp' ds') a w:=by
 unfold eR at h;split at h
 .rename_i g first n hf
  have E:=nZ ht hf;generalize G:a.eval f=fe at E;cases E with
  |func _ _ ys _ cs q1 q2 q3 q4=>
  have T:VRL σ first.toList ys.toList:=⟨by omega,λi x y h1 h2=>q2 i x y (by grind) (by grind)⟩
  have vc:VRL σ n.toList cs.toList:=⟨by omega,λi x y h1 h2=>q4 i x y (by grind) (by grind)⟩
  split at h
  .rename_i fn H;cases Q:fJ fn with
   |false=>grind|true=>
    rw[Q,Tk]at h;have z:∀l w,(resolve a.eval (rangeCall f l) 0).run P w= .ok {target:= .fn (.func g) cs,args:=ys++ #[Value.func (.yield l) #[] #[]]} w:=by intro l w;simp only[resolve,G,Deferred.ofValue,List.map_toArray,TV,List.map_nil];rfl
    have u:∀l w,(invoke (.fn (.func g) cs) (ys++ #[Value.func (.yield l) #[] #[]])).run P w= .ok (.enter g (ys.toList++ [Value.func (.yield l) #[] #[]]++cs.toList).toArray) w:=by
     intro l w;have:(ys.toList++ [Value.func (.yield l) #[] #[]]++cs.toList).toArray=ys++ #[Value.func (.yield l) #[] #[]]++cs:=by simp
     rw[this];exact dX H Q w
    split at h
    .cases r with
     |some b=>exact C.elim|none=>
      refine wpIn_rangeFunc λs _=>?_;let A:Pl:=⟨w.heap.size,0,0,0⟩
      let p1:Pl:=⟨w.heap.size+1,0,0,0⟩
      have n0:=D.fresh _ (Tq _);have R:(σ.ext hp.nx A) (hp.nx+1)=none:=by rw[Vw _ _ _ (by omega)];exact D.fresh _ (by omega)
      have h1:=D.allocO hp.nx (hp.nx+1) n0 (Ur _) (Ue _) .dfr (.deferred (some [])) A rfl rfl;have p:Sg.gr hp.nx (hp.nx+1) σ (σ.ext hp.nx A):=⟨VB A n0,λi hi=>Vw _ _ _ (by omega),Ur _⟩
      have N:Sg.gr (hp.nx+1) (hp.nx+2) (σ.ext hp.nx A) ((σ.ext hp.nx A).ext (hp.nx+1) p1):=⟨VB p1 R,λi hi=>Vw _ _ _ (by omega),Ur _⟩
      have d:=VA p N;have e0:=N.le _ _ (Vy _ _ _);have h2:=h1.allocO (hp.nx+1) (hp.nx+2) R (Ur _) (Ue _) (.loop .ready none nt tm ps assign body hp.nx)
       (.loop {state:= .ready,pending:=none,fn:=s,tmps:=a.tmps,params:=ps,assign,body,defers:=w.heap.size}) p1 (by simp[p1])
       ⟨_,rfl,rfl,rfl,rfl,rfl,rfl,⟨ht.size,λk=>(ht.at_ k).mono d.le⟩,A,e0,rfl⟩
      refine⟨_,_,_,_,_,_,_,_,run_enterLoop_outer s a.tmps ps assign body,z _ _,λ_ _=>trivial,u _ _,λh=>(by cases h),?_⟩;have hs:=oE t h (Vy _ _ _) ((T.mono d.le).append (VO (.yield (hp.nx+1) p1 (Vy _ _ _)) (VP _))|>.append (vc.mono d.le)) h2
       (a:= {a with defers:=[{target:= .collected w.heap.size,args:= #[]}]++a.defers}) (ht.mono d.le) ⟨⟨A,e0,rfl⟩,O.mono d.le⟩ none (0-1)
      refine hs.mono λe' w' he=>?_;cases e' with
      |returned v=>
       obtain⟨m,L,k1,k2⟩:=he;refine⟨m,L,k1,?_⟩;cases m with
       |none=>exact Vu d k2|some c=>exact UQ k2 λe a w hq=>Vu d hq
      |panicked chain=>exact Vu d he|outgrown=>obtain⟨F,M,hq⟩:=he;exact⟨F,M,Vu d hq⟩
    .rename_i j;cases r with
     |none=>exact C.elim|some b=>
      obtain⟨pj,hj,rfl⟩:=C;split at h
      .rename_i aa I Y S Z U V db hg;obtain⟨J,o,u1,u2,u3,u4⟩:=D.live j _ hg;have:=Tu (u1.symm.trans hj);subst this;obtain⟨K,rfl,k1,k2,k3,k4,k5,k6,q,W,X⟩:=u4;refine wpIn_rangeFunc λs _=>?_;let p1:Pl:=⟨w.heap.size,0,0,0⟩
       have n0:=D.fresh _ (Tq _);have p:Sg.gr hp.nx (hp.nx+1) σ (σ.ext hp.nx p1):=⟨VB p1 n0,λi hi=>Vw _ _ _ (by omega),Ur _⟩
       have h2:=D.allocO hp.nx (hp.nx+1) n0 (Ur _) (Ue _) (.loop .ready none nt tm ps assign body db)
        (.loop {state:= .ready,pending:=none,fn:=s,tmps:=a.tmps,params:=ps,assign,body,defers:=K.defers}) p1 rfl
        ⟨_,rfl,rfl,rfl,rfl,rfl,rfl,⟨ht.size,λk=>(ht.at_ k).mono p.le⟩,q,p.le _ _ W,X⟩
       refine⟨_,_,_,_,_,_,_,_,run_enterLoop_inner u3 s a.tmps ps assign body,z _ _,λ_ _=>trivial,u _ _,λh=>(by cases h),?_⟩;have hs:=oE t h (Vy _ _ _) ((T.mono p.le).append (VO (.yield hp.nx p1 (Vy _ _ _)) (VP _))|>.append (vc.mono p.le)) h2
        (ht.mono p.le) (O.mono p.le) (some J.blk) (0-1)
       refine hs.mono λe' w' he=>?_;cases e' with
       |returned v=>
        obtain⟨m,L,k1,k2⟩:=he;refine⟨m,L,k1,?_⟩;cases m with
        |none=>exact Vu p k2|some c=>exact UQ k2 λe a w hq=>Vu p hq
       |panicked chain=>exact Vu p he|outgrown=>obtain⟨F,M,hq⟩:=he;exact⟨F,M,Vu p hq⟩
      cases h
  cases h
 cases h
def rO (d:P5 P call){ops:Am}{draw:Bool}{g:Nat}(h:Jr P call nt ar ops.toList draw tm hp ds=some (.mk e tm' hp' ds'))(ht:TR σ nt tm a.tmps)(j:HR B w0 σ hp w)(i:DsR σ ds a.defers)(f:ArR σ ar r):(Code.region g ops draw).wpIn (RF r) 0 P (Q9 hp.nx B w0 σ nt e tm' hp' ds') a w:=by unfold Jr at h;simp at h
theorem aX (q:P5 P call)(K:kG P dr):∀(m:Nat),(∀(c:Code) (tm:Ao) (hp:Hp) (ds:List Df) (e:Exit) (tm':Ao) (hp':Hp) (ds':List Df) (σ:Sg) (a:Act) (w:Bc) (r:Ai),j8 P dr call nt ar m c tm hp ds=some (.mk e tm' hp' ds')->TR σ nt tm a.tmps->HR B w0 σ hp w->DsR σ ds a.defers->ArR σ ar r->c.wpIn (RF r) 0 P (Q9 hp.nx B w0 σ nt e tm' hp' ds') a w)/\(∀(c:Code) (tm:Ao) (hp:Hp) (ds:List Df) (e:Exit) (tm':Ao) (hp':Hp) (ds':List Df) (σ:Sg) (a:Act) (w:Bc) (r:Ai),j8 P dr call nt ar m (.loop c) tm hp ds=some (.mk e tm' hp' ds')->TR σ nt tm a.tmps->HR B w0 σ hp w->DsR σ ds a.defers->ArR σ ar r->Code.roundsIn (RF r) 0 P c (Q9 hp.nx B w0 σ nt e tm' hp' ds') m a w):=by
 intro m;induction m with
 |zero=>exact⟨λc tm hp ds e tm' hp' ds' σ a w r h=>(by simp[j8]at h),λc tm hp ds e tm' hp' ds' σ a w r h=>(by simp[j8]at h)⟩|succ m N=>
  obtain⟨A,L⟩:=N;have D:∀(c:Code) (tm:Ao) (hp:Hp) (ds:List Df) (e:Exit) (tm':Ao) (hp':Hp) (ds':List Df) (σ:Sg) (a:Act) (w:Bc) (r:Ai),j8 P dr call nt ar (m+1) (.loop c) tm hp ds=some (.mk e tm' hp' ds')->TR σ nt tm a.tmps->HR B w0 σ hp w->DsR σ ds a.defers->ArR σ ar r->
    Code.roundsIn (RF r) 0 P c (Q9 hp.nx B w0 σ nt e tm' hp' ds') (m+1) a w:=by
   intro c tm hp ds e tm' hp' ds' σ a w r h ht z u p;simp only[j8]at h;cases hb:j8 P dr call nt ar m c tm hp ds with
   |none=>grind|some I=>
    obtain⟨G,tm1,hp1,t⟩:=I;refine UQ (A c tm hp ds G tm1 hp1 t σ a w r hb ht z u p) λe' F w' hq=>?_;obtain⟨rfl,σ',d,g,i,n⟩:=hq;cases e' with
    |normal=>simp only[hb]at h;exact jY (λe a w hq=>Vu d hq) (L c tm1 hp1 t e tm' hp' ds' σ' F w' r h i n g (p.mono d.le))|exit E=>simp only[hb,SQ,XR.mk.injEq]at h;obtain⟨rfl,rfl,rfl,rfl⟩:=h;exact⟨rfl,σ',d,g,i,n⟩
    |goto E=>simp only[hb,SQ,XR.mk.injEq]at h;obtain⟨rfl,rfl,rfl,rfl⟩:=h;exact⟨rfl,σ',d,g,i,n⟩
    |ret=>simp only[hb,SQ,XR.mk.injEq]at h;obtain⟨rfl,rfl,rfl,rfl⟩:=h;exact⟨rfl,σ',d,g,i,n⟩
    |panic ch=>simp only[hb,SQ,XR.mk.injEq]at h;obtain⟨rfl,rfl,rfl,rfl⟩:=h;exact⟨rfl,σ',d,g,i,n⟩
    |outgrown=>simp only[hb,SQ,XR.mk.injEq]at h;obtain⟨rfl,rfl,rfl,rfl⟩:=h;exact⟨rfl,σ',d,g,i,n⟩
  refine⟨?_,D⟩;intro c tm hp ds e tm' hp' ds' σ a w r h ht z u p;cases c with
  |skip=>obtain⟨rfl,rfl,rfl,rfl⟩:=h;exact wpIn_skip ⟨rfl,σ,Vz _ σ,u,ht,z⟩
  |label l=>obtain⟨rfl,rfl,rfl,rfl⟩:=h;exact wpIn_label ⟨rfl,σ,Vz _ σ,u,ht,z⟩
  |exit E=>obtain⟨rfl,rfl,rfl,rfl⟩:=h;exact wpIn_exit ⟨rfl,σ,Vz _ σ,u,ht,z⟩
  |ret=>obtain⟨rfl,rfl,rfl,rfl⟩:=h;exact wpIn_ret ⟨rfl,σ,Vz _ σ,u,ht,z⟩
  |region E ops draw=>
   simp only[j8]at h;cases draw with
   |true=>
    split at h;rename_i tm1 hp1 hr;cases h;exact UQ (K call q nt ops E tm hp _ _ hr B w0 σ a w ht z r) λe' F w' hq=>by obtain⟨h1,h2,σ',h3,h4,J⟩:=hq;exact⟨h1,σ',h3,by rw[h2];exact u.mono h3.le,h4,J⟩
    exact rO q h ht z u p
   |false=>
    split at h
    .rename_i tm1 hp1 hr;simp only[SQ,XR.mk.injEq]at h;obtain⟨rfl,rfl,rfl,rfl⟩:=h;refine UQ (Q:=xT hp.nx B w0 σ nt .normal tm1 hp1 a.defers) (wpIn_region ?_) λe' F w' hq=>by obtain⟨h1,h2,σ',h3,h4,J⟩:=hq;exact⟨h1,σ',h3,by rw[h2];exact u.mono h3.le,h4,J⟩
     have:=HF q ops r ops.toList 0 tm hp _ _ σ a w (by simp) hr ht z a.defers rfl;rw[List.range_eq_range'];grind
    exact rO q h ht z u p
  |seq x y=>
   simp only[j8]at h;cases hb:j8 P dr call nt ar m x tm hp ds with
   |none=>grind|some I=>
    obtain⟨G,tm1,hp1,t⟩:=I;refine wpIn_seq (UQ (A x tm hp ds G tm1 hp1 t σ a w r hb ht z u p) λe' F w' hq=>?_);obtain⟨rfl,σ',d,g,i,n⟩:=hq;cases e' with
    |normal=>simp only[hb]at h;exact UQ (A y tm1 hp1 t e tm' hp' ds' σ' F w' r h i n g (p.mono d.le)) (λe a w hq=>Vu d hq)|exit E=>simp only[hb,SQ,XR.mk.injEq]at h;obtain⟨rfl,rfl,rfl,rfl⟩:=h;exact⟨rfl,σ',d,g,i,n⟩
    |goto E=>simp only[hb,SQ,XR.mk.injEq]at h;obtain⟨rfl,rfl,rfl,rfl⟩:=h;exact⟨rfl,σ',d,g,i,n⟩
    |ret=>simp only[hb,SQ,XR.mk.injEq]at h;obtain⟨rfl,rfl,rfl,rfl⟩:=h;exact⟨rfl,σ',d,g,i,n⟩
    |panic ch=>simp only[hb,SQ,XR.mk.injEq]at h;obtain⟨rfl,rfl,rfl,rfl⟩:=h;exact⟨rfl,σ',d,g,i,n⟩
    |outgrown=>simp only[hb,SQ,XR.mk.injEq]at h;obtain⟨rfl,rfl,rfl,rfl⟩:=h;exact⟨rfl,σ',d,g,i,n⟩
  |cond c x y=>simp only[j8]at h;split at h;rename_i hc;have C:=nZ ht hc;generalize H:a.eval c=M at C;cases C;exact wpIn_cond_true H (A x tm hp ds e tm' hp' ds' σ a w r h ht z u p);rename_i hc;have C:=nZ ht hc;generalize H:a.eval c=M at C;cases C;exact wpIn_cond_false H (A y tm hp ds e tm' hp' ds' σ a w r h ht z u p);cases h
  |block E b=>
   simp only[j8]at h;cases hb:j8 P dr call nt ar m b tm hp ds with
   |none=>grind|some I=>
    obtain⟨G,tm1,hp1,t⟩:=I;refine wpIn_block (UQ (A b tm hp ds G tm1 hp1 t σ a w r hb ht z u p) λe' F w' hq=>?_);obtain⟨rfl,σ',d,g,i,n⟩:=hq;cases e' with
    |normal=>simp only[hb,SQ,XR.mk.injEq]at h;obtain⟨rfl,rfl,rfl,rfl⟩:=h;exact⟨rfl,σ',d,g,i,n⟩
    |exit j=>simp only[hb]at h;by_cases hj:j=E;subst hj;rw[u7 rfl,Tk]at h;cases h;simp only[Exit.inBlock,UG];exact⟨rfl,σ',d,g,i,n⟩;rw[z4 hj,Tl]at h;cases h;simp only[Exit.inBlock,hj,if_false];exact⟨rfl,σ',d,g,i,n⟩
    |goto E=>simp only[hb,SQ,XR.mk.injEq]at h;obtain⟨rfl,rfl,rfl,rfl⟩:=h;exact⟨rfl,σ',d,g,i,n⟩
    |ret=>simp only[hb,SQ,XR.mk.injEq]at h;obtain⟨rfl,rfl,rfl,rfl⟩:=h;exact⟨rfl,σ',d,g,i,n⟩
    |panic ch=>simp only[hb,SQ,XR.mk.injEq]at h;obtain⟨rfl,rfl,rfl,rfl⟩:=h;exact⟨rfl,σ',d,g,i,n⟩
    |outgrown=>simp only[hb,SQ,XR.mk.injEq]at h;obtain⟨rfl,rfl,rfl,rfl⟩:=h;exact⟨rfl,σ',d,g,i,n⟩
  |loop b=>exact wpIn_loop_rounds (m+1) (D b tm hp ds e tm' hp' ds' σ a w r h ht z u p)|rangeFunc f ps x y=>exact qL q (by simpa only[j8]using h) ht z u p|scope b=>
   simp only[j8]at h;cases hb:j8 P dr call nt ar m b tm hp ds with
   |none=>grind|some I=>
    obtain⟨G,tm1,hp1,t⟩:=I;refine jP (UQ (A b tm hp ds G tm1 hp1 t σ a w r hb ht z u p) λe' F w' hq=>?_);obtain⟨rfl,σ',d,g,i,n⟩:=hq;cases e' with
    |normal=>simp only[hb,SQ,XR.mk.injEq]at h;obtain⟨rfl,rfl,rfl,rfl⟩:=h;exact⟨rfl,σ',d,g,i,n⟩
    |exit E=>simp only[hb,SQ,XR.mk.injEq]at h;obtain⟨rfl,rfl,rfl,rfl⟩:=h;exact⟨rfl,σ',d,g,i,n⟩
    |goto E=>grind|ret=>simp only[hb,SQ,XR.mk.injEq]at h;obtain⟨rfl,rfl,rfl,rfl⟩:=h;exact⟨rfl,σ',d,g,i,n⟩
    |panic ch=>grind|outgrown=>grind
  |goto l=>simp only[j8,reduceCtorEq]at h|refuse s=>simp only[j8,reduceCtorEq]at h
end
def bA (P:Aw)(tm:Ao)(hp:Hp):ResultVar->Ag
 | .tmp t=>some ((tm.get t).getD undef)| .cell a t=>G5 P hp t ((tm.get a).getD undef)
def I4 (P:Aw)(tm:Ao)(hp:Hp):List ResultVar->Bb (Af)
 | []=>some []|r::rs=>match bA P tm hp r with
  |some v=>match I4 P tm hp rs with
   |some vs=>some (v::vs)|none=>none
  |none=>none
def fG :Af->Av
 | [v]=>v|vs=>.tuple vs.toArray
section
variable {P :Aw}{B:BS}{w0:Bc}
def KO {σ:Sg}{hp:Hp}{w:Bc}{t:Ax}{a d v:Av}(h:G5 P hp t a=some v)(f:VR σ a d)(g:HR B w0 σ hp w):∃u,VR σ v u/\(do loadVar t (<-asAddr d):Sem Av).run P w= .ok u w:=by obtain⟨u,h1,h2⟩:=rL h f g;refine⟨u,h1,?_⟩;rw[<-h2];cases f<;>first|rfl| (simp[G5]at h)
def Eu (tmps:Al):ResultVar->Sem Av
 | .tmp t=>pure (tmps.getD t undef)| .cell a t=>do loadVar t (<-asAddr (tmps.getD a undef))
theorem Z8 {σ:Sg}{hp:Hp}{w:Bc}{nt:Nat}{tm:Ao}{tmps:Al}(ht:TR σ nt tm tmps)(g:HR B w0 σ hp w):∀ {f:List ResultVar} {vs:Af},I4 P tm hp f=some vs-> ∃us,VRL σ vs us/\(f.mapM (Eu tmps):Sem (Af)).run P w= .ok us w
 | [],vs,h=>by simp only[I4,SQ]at h;subst h;exact⟨[],VP σ,by simp⟩|r::f,vs,h=>by
  simp only[I4]at h;cases hr:bA P tm hp r with
  |none=>grind|some v=>
   cases d:I4 P tm hp f with
   |none=>grind|some j=>
    simp only[hr,d,SQ]at h;subst h;obtain⟨us,h1,h2⟩:=Z8 ht g d;cases r with
    |tmp t=>simp only[bA,SQ]at hr;subst hr;refine⟨_::us,VO (ht.at_ t) h1,?_⟩;rw[List.mapM_cons];simp only[Eu,Tx,TC,Tt,h2]|cell a t=>obtain⟨u,h3,h4⟩:=KO hr (ht.at_ a) g;refine⟨u::us,VO h3 h1,?_⟩;have i:(Eu tmps (.cell a t)).run P w= .ok u w:=h4;simp_all
theorem TR.start {σ:Sg}{args args':Af}(h:VRL σ args args')(n:Nat):TR σ (args.length+(n-args.length)) (fill .e 0 args) (args'.toArray++Array.replicate (n-args'.toArray.size) undef):=by
 have hl:=h.1;refine⟨by grind,λk=>?_⟩;rw[j6];by_cases hk:k<args.length
 .rw[Tp (by omega)];have d:k<args'.length:=by omega
  have g:args[k-0]? =some args[k]:=by grind
  have f:(args'.toArray++Array.replicate (n-args'.toArray.size) undef).getD k undef=args'[k]:=by simp[Array.getElem?_append,d]
  rw[g,f];exact h.2 k _ _ (by simp) (by simp)
 .rw[Tn (by omega)];have f:(args'.toArray++Array.replicate (n-args'.toArray.size) undef).getD k undef=undef:=by
   have d:¬k<args'.length:=by omega
   simp;grind
  rw[f,VE];exact VR.undef σ
end
end Go.Xe
namespace Go.Xe
open Go.RowKit
def j4 :Op->Nat
 | .move _| .assign _| .pick _ _ _| .build _ _| .nilCheck _| .binOp _ _ _ _ _| .unOp _ _ _| .convert _ _ _| .makeFunc _ _ _
 | .fieldAddr _ _ _| .field _ _ _| .indexAddr _ _ _| .index _ _ _| .extract _ _=>0
 | .load _ _| .slice _ _ _ _ _=>1
 | .alloc e| .box e _=>bif Nat.beq e rgT then 3 else 2
 | .buildSlice _ _ _| .makeSlice _ _ _| .range _ _=>2
 | .call ⟨.builtin .len,_,_⟩| .call ⟨.builtin .cap,_,_⟩| .call ⟨.builtin .max,_,_⟩=>0
 |_=>3
variable {hp:Hp}
def wb {α:Type}{x:Bb α}{g:α->Ag}:(ob x λv=>j3 hp (g v))=j3 hp (ob x g):=by cases x<;>rfl
def wb2 {α d:Type}{x:Bb α}{y:Bb d}{g:α->d->Ag}:(ob x λv=>ob y λu=>j3 hp (g v u))=j3 hp (ob x λv=>ob y (g v)):=by cases x<;>cases y<;>rfl
variable {P:Aw}{call:i9}{tm:Ao}{o:Op}
def Fs (h:j4 o=0):∃r:Ag,∀hp,xop P call tm hp o=j3 hp r:=by
 cases o with
 |move x|assign x=>exact⟨_,λ_=>rfl⟩
 |pick c a b=>simp only[xop];split;rename_i t _;cases t<;>exact⟨_,λ_=>rfl⟩;exact⟨none,λ_=>rfl⟩
 |nilCheck x=>simp only[xop];split<;>first|exact⟨some _,λ_=>rfl⟩|exact⟨none,λ_=>rfl⟩
 |binOp|indexAddr|index|makeFunc=>exact⟨_,λ_=>wb2⟩
 |build|unOp|convert|fieldAddr|field|extract=>exact⟨_,λ_=>wb⟩
 |call c=>
  obtain⟨d,args,ats⟩:=c;cases d with
  |builtin b=>
   simp only[xop];cases aE tm args.toList with
   |some vs=>
    simp only[ob];generalize ats.toList=f;cases b<;>first
     | (simp[j4]at h;done)
     | (rcases f with _| ⟨t,_| ⟨u,r⟩⟩<;>rcases vs with _| ⟨x,_| ⟨y,g⟩⟩<;>first|exact⟨_,λ_=>rfl⟩|exact⟨none,λ_=>rfl⟩)
   |none=>exact⟨none,λ_=>rfl⟩
  |_=>simp[j4]at h
 |alloc e|box e x=>simp only[j4]at h;cases hb:Nat.beq e rgT<;>rw[hb]at h<;>cases h
 |_=>simp[j4]at h
def xrd (P:Aw)(tm:Ao)(hp:Hp)(o:Op):Ag:=
 match xop P ⟨λ_ _ _=>none,λ_=>none,λ_ _ _=>none⟩ tm hp o with
 |some (v,hp')=>bif Nat.beq hp'.nx hp.nx then some v else none|none=>none
variable {v:Av}
theorem Fz {hp':Hp}{t:Ax}{x:Av}{lo hi mx:Ag}(h:w9 P hp t x lo hi mx=some (v,hp')):hp'=hp:=by
 have d:∀ {a:Av} {q:Hp},some (a,q)=some (v,hp')->q=hp->hp'=hp:=by grind
 have f:∀ {b:Bool} {x y:Bb (Av×Hp)},(bif b then x else y)=some (v,hp')->(x=some (v,hp')->hp'=hp)->(y=some (v,hp')->hp'=hp)->hp'=hp:=by grind
 unfold w9 at h;split at h;grind;split at h;cases h;split at h;grind;grind;grind;cases h;grind;cases h
def MN (h:j4 o=1):(∃t a,o= .load t a)\/ ∃t x lo hi mx,o= .slice t x lo hi mx:=by
 cases o with
 |load=>exact .inl ⟨_,_,rfl⟩|slice=>exact .inr ⟨_,_,_,_,_,rfl⟩|alloc e|box e x=>simp only[j4]at h;cases hb:Nat.beq e rgT<;>rw[hb]at h<;>cases h
 |call c=>
  obtain⟨d,args,ats⟩:=c;cases d with
  |builtin b=>cases b<;>simp[j4]at h
  |_=>simp[j4]at h
 |_=>simp[j4]at h
def Ft {hp':Hp}(hk:j4 o=1)(hx:xop P call tm hp o=some (v,hp')):hp'=hp:=by obtain⟨t,a,rfl⟩| ⟨t,x,lo,hi,mx,rfl⟩:=MN hk;obtain⟨_,_,h⟩:=m1 hx;exact(A7 h).2;obtain⟨_,_,h⟩:=m1 hx;obtain⟨_,_,h⟩:=m1 h;obtain⟨_,_,h⟩:=m1 h;obtain⟨_,_,h⟩:=m1 h;exact Fz h
def AZ (hk:j4 o=1)(d f:i9)(tm:Ao)(hp:Hp):xop P d tm hp o=xop P f tm hp o:=by obtain⟨t,a,rfl⟩| ⟨t,x,lo,hi,mx,rfl⟩:=MN hk<;>rfl
def PJ (hk:j4 o=1)(h:xrd P tm hp o=some v):xop P call tm hp o=some (v,hp):=by unfold xrd at h;split at h;rename_i f hp' hx;have d:=Ft hk hx;subst d;rw[u7 rfl,Tk,SQ]at h;rw[AZ hk call,hx,h];cases h
section
variable {P :Aw}{B:BS}{w0:Bc}{σ:Sg}{hp:Hp}{w:Bc}
def rest (B:BS)(σ:Sg)(hp:Hp)(w:Bc):BS:=⟨λk=>B.D k\/(k<w.heap.size/\ ∀i b r p,hp.m.get i=some b->Ix b r->σ.f i r=some p->p.blk≠k),B.D,λ_ h=>.inl h⟩
theorem Nk (h:HR B w0 σ hp w){k:Nat}(hk:rest B σ hp w k):k<w.heap.size:=by rcases hk with hk|hk;have:=h.old k (B.sub k hk);have:=h.size;omega;grind
def Nj (_:HR B w0 σ hp w){i r:Nat}{b:Blk}{p:Pl}(hg:hp.m.get i=some b)(hx:Ix b r)(hp1:σ.f i r=some p)(hn:¬B p.blk):¬rest B σ hp w p.blk:=λhb=>by rcases hb with hb|hb;exact hn (B.sub _ hb);exact hb.2 i b r p hg hx hp1 rfl
def Ev (h:HR B w0 σ hp w){k:Nat}(hk:B k):rest B σ hp w k:=by
 by_cases d:B.D k;exact .inl d
 .refine .inr ⟨by have:=h.old k hk;have:=h.size;omega,λi b r p hg hx hp1 he=>?_⟩;obtain⟨p',o,h1,h3,_⟩:=h.liv i b r hg hx;have:p'=p:=Tu (h1.symm.trans hp1);subst this;cases hr:dM b with
  |true=>exact d (he▸h3.yes hr)|false=>exact h3.no hr (he▸hk)
def HR.max (h:HR B w0 σ hp w):HR (rest B σ hp w) w σ hp w:=by refine⟨rfl,rfl,rfl,Tq _,λk hk=>Nk h hk,λk _=>rfl,h.frs,?_,h.ij,h.rz⟩;intro i b r hg hx;obtain⟨p,o,h1,h2,h3,h4⟩:=h.liv i b r hg hx;exact⟨p,o,h1,h2.to id (Nj h hg hx h1),h3,h4⟩
def HR.back (h:HR B w0 σ hp w){σ':Sg}{hp':Hp}{w':Bc}(k:HR (rest B σ hp w) w σ' hp' w'):HR B w0 σ' hp' w':=by refine⟨k.os.trans h.os,k.tape.trans h.tape,k.output.trans h.output,Ub h.size k.size,h.old,λb hb=>(k.kept b (Ev h hb)).trans (h.kept b hb),k.frs,?_,k.ij,k.rz⟩;intro i b r hg hx;obtain⟨p,o,h1,h3,h4⟩:=k.liv i b r hg hx;exact⟨p,o,h1,h3.to id (λhn hb=>hn (Ev h hb)),h4⟩
def Ext (B:BS)(σ:Sg)(hp:Hp)(w:Bc)(id:Nat)(n:Nw)(b:Nat):Prop:=
 ∃p o,σ id=some p/\p.blk=b/\w.heap[b]? =some o/\BR σ p n.blk o/\ ¬B b/\ ∀i b2 r q,hp.m.get i=some b2->Ix b2 r->σ.f i r=some q->q.blk≠b
def Hp.take (hp:Hp)(id:Nat)(n:Nw):Hp:= {hp with m:=hp.m.set id (some n.blk)}
def HR.take (h:HR B w0 σ hp w){d b:Nat}{n:Nw}(hx:Ext B σ hp w d n b):HR B w0 σ (hp.take d n) w:=by
 obtain⟨p,o,h1,rfl,h4,E,F,A⟩:=hx;refine⟨h.os,h.tape,h.output,h.size,h.old,h.kept,h.frs,?_,?_,λi t hg g=>?_⟩;intro i t r hg hx;simp only[Hp.take,VF]at hg;by_cases hi:i=d;rw[Tp hi]at hg;simp only[SQ]at hg;subst hg;subst hi;have:=(Vf n.rg).1 hx;subst this;exact⟨p,o,h1,.of F n.ro,h4,(BX.of n.rg).2 E⟩;rw[Tn hi]at hg;exact h.liv i t r hg hx
 .intro i j l t r s q q' hi hj hx hy z hq hr;simp only[Hp.take,VF]at hi hj;have u:∀i l r q,(if i=d then some n.blk else hp.m.get i)=some l->Ix l r->σ.f i r=some q->(i=d/\r=0/\q=p)\/(i≠d/\hp.m.get i=some l):=by intro i l r q hi hx hq;by_cases e:i=d;rw[Tp e]at hi;simp only[SQ]at hi;subst hi;subst e;have:=(Vf n.rg).1 hx;subst this;exact .inl ⟨rfl,rfl,Tu (hq.symm.trans h1)⟩;rw[Tn e]at hi;exact .inr ⟨e,hi⟩
  rcases u i l r q hi hx hq with⟨C,y,D⟩| ⟨C,y⟩<;>rcases u j t s q' hj hy hr with⟨k1,k2,k3⟩| ⟨k1,k2⟩;omega;rw[D];exact Ne.symm (A j _ s q' k2 hy hr);rw[k3];exact A i _ r q y hx hq;exact h.ij i j _ _ r s q q' y k2 hx hy z hq hr
 simp only[Hp.take,VF]at hg;by_cases hi:i=d;rw[Tp hi,SQ]at hg;subst hg;rw[n.rg]at g;cases g;rw[Tn hi]at hg;exact h.rz i t hg g
def HR.lay (h:HR B w0 σ hp w){f:Nat}(d:σ f=none)(hlt:f<hp.nx)(n:Nw){o:Obj}{p:Pl}(l:p.blk=w.heap.size)(hv:BR σ p n.blk o):HR B w0 (σ.ext f p) hp (w.alloc o)/\Ext B (σ.ext f p) hp (w.alloc o) f n w.heap.size:=by
 have g:=VB (σ:=σ) p d;have s:=h.allocO f hp.nx d (Tq _) hlt n.blk o p l (hv.mono g) n.ro n.rg;have j:∀i b,hp.m.get i=some b->i≠f:=by
  intro i b hg e;subst e;cases hb:kS b with
  |false=>obtain⟨p,o,h1,_⟩:=h.live _ b hg hb;rw[d]at h1;cases h1
  |true=>obtain⟨⟨p,h1⟩,_⟩:=h.rz _ b hg hb;rw[d]at h1;cases h1
 have hl:=s.less (m:=hp.m) (λi b hg=>by show(hp.m.set f _).get i=_;rw[VF,Tn (j i b hg)];exact hg);refine⟨by simpa using hl,p,o,Vy _ _ _,l,?_,hv.mono g,?_,?_⟩;show(w.heap.push _)[w.heap.size]? =_;simp;intro hb;have h1:=h.old _ hb;have h2:=h.size;omega;intro i b r q hg hx hq;rw[Vx _ _ _ (.inl (j i b hg))]at hq;obtain⟨p',o',h1,_,h4,_⟩:=h.liv i b r hg hx;have:p'=q:=Tu (h1.symm.trans hq);subst this;have:=(Ti.1 h4).1;omega
