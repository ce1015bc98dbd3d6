/- The executor, parts 8, 9, M, C, 10, 11, 12.
  Conditions: none. -/
import Derived.Test.YtgmiikiinbaapaaGreatXm1
import Derived.Lib.AppendZerosOnto
import Derived.Lib.Overlaps
import Derived.LoopNIn
import Derived.RangeFuncNested
set_option linter.all false
noncomputable section
namespace Go.Xe
open Go.RowKit
section
variable {P :Aw}{B:BS}{w0:Bc}{σ:Sg}{hp:Hp}{w:Bc}
def z7 (hp:Hp)(size:Nat)(x:Av):Bb (Nat×Af):=
 match x with
 | .slice none n _=>bif Nat.beq n 0 then some (0,[])else none| .slice (some ⟨i,o,none⟩) n _=>match hp.m.get i with
  |some b=>match rdC b with
   | some (c, k, _) => bif Nat.ble (o + n * size) k then
     match v5 c o (n*size)with
     |some vs=>some (n,vs)|none=>none
    else none
   |none=>none
  |none=>none
 | .slice (some ⟨0,0,some 0⟩) 0 _=>some (0,[])|_=>none
variable {x x':Av}{vs:Af}
theorem mQ {size n:Nat}(h:z7 hp size x=some (n,vs))(hx:VR σ x x')(e:HR B w0 σ hp w):∃us,VRL σ vs us/\us.length=n*size/\(∃b c,x'= .slice b n c/\(b=none->n=0/\us=[])/\ ∀a,b=some a-> ∀j u,us[j]? =some u->w.cell? (a.add j)=some u):=by
 unfold z7 at h;split at h
 ·rename_i k c;cases hb:Nat.beq k 0 with
  |false=>grind|true=>rw[hb,PB]at h;cases h;have hk:=Pq hb;subst hk;cases hx;exact⟨[],Sp σ,by simp,none,c,rfl,(fun _=>⟨rfl,rfl⟩),(fun a g=>by grind)⟩
 ·rename_i i o k cap;split at h
  ·rename_i b hg;split at h
   ·rename_i c m z hr;cases hb:Nat.ble (o+k*size) m with
    |false=>grind|true=>
     rw[hb,PB]at h;split at h
     ·rename_i f hl;cases h;cases hx with
      |slice _ _ p _ _ c' hp' hc d=>
      obtain⟨us,h1,h2,h3⟩:=e.cellsR hg hr (Pp hb) hl hp';grind
     cases h
   cases h
  cases h
 ·simp at h;obtain⟨rfl,rfl⟩:=h;cases hx with
  |vague q c'=>exact⟨[],Sp σ,by simp,_,c',rfl,(fun h=>by grind),(by grind)⟩
 cases h
variable {us:Af}
def fH {size n:Nat}{b:Aq}{c:Nat}(d:us.length=n*size)(hn:b=none->n=0/\us=[])(hs:∀a,b=some a-> ∀j u,us[j]? =some u->w.cell? (a.add j)=some u):(Builtin.firstCells size n (.slice b n c)).run P w= .ok us.toArray w:=by
 cases b with
 |none=>obtain⟨rfl,rfl⟩:=hn rfl;exact run_firstCells_none w size 0 0 c
 |some a=>exact run_firstCells_some w size n a n c us d (hs a rfl)
variable {w':Bc}
def M5 (t u ty e j:Ax)(i:Ba)(ht:P.underlying t=some (.slice e))(l:P.underlying u=some (.slice j))(hi:P.info? e=some i)(a:Addr)(d f n c:Nat)(b:Aq)(us:Af)(hf:(Builtin.firstCells i.size n (.slice b n c)).run P w= .ok us.toArray w)(g:d+n<=f)(h:(storeCells (a.add (d*i.size)) us).run P w= .ok () w'):(Builtin.append_ #[t,u] ty #[.slice (some a) d f,.slice b n c]).run P w= .ok (.slice (some a) (d+n) f) w':=by simp[Builtin.append_,PI ht,PI l,sizeOf,typeInfo,hi,Builtin.lenOf,g,hf,h]
theorem T7 (t u ty e A:Ax)(i:Ba)(z:Av)(ht:P.underlying t=some (.slice e))(D:P.underlying u=some (.slice A))(hi:P.info? e=some i)(hz:i.zero=some z)(g:Aq)(d f n c:Nat)(b:Aq)(h us:Af)(q:∀w',w'.heap=w.heap->(Builtin.firstCells i.size d (.slice g d f)).run P w'= .ok h.toArray w')(hf:∀w',w'.heap=w.heap->(Builtin.firstCells i.size n (.slice b n c)).run P w'= .ok us.toArray w')(hg:f<d+n)(C:((d+n:Nat):Int)<=9223372036854775807)(s:Builtin.nextslicecap (d+n) f*i.bytes<=281474976710656):(Builtin.append_ #[t,u] ty #[.slice g d f,.slice b n c]).run P w= .ok (.slice (some ⟨w.heap.size,0,none⟩) (d+n) (grownCap w (d+n) f e)) (w.drew.alloc (.cells (h.toArray++us.toArray++Builtin.zeroCells z.cells (grownCap w (d+n) f e-(d+n))) e)):=by
 have hn:¬(d+n<=f):=by omega
 have l:¬(9223372036854775807<((d:Int)+(n:Int))):=by omega
 have j:¬(281474976710656<Builtin.nextslicecap (d+n) f*i.bytes):=by omega
 have y:=hf w.drew rfl;have p:=q w.drew rfl;simp[Builtin.append_,PI ht,PI D,sizeOf,typeInfo,zeroValue,hi,hz,Builtin.lenOf,hn,l,j,Question.forced,y,p,newRow,grownCap];grind
theorem HR.kill (h:HR B w0 σ hp w)(i:Nat):HR B w0 σ {hp with m:=hp.m.set i none} w:=by refine h.sub (PH _) fun j b hj=>?_;have hj:(hp.m.set i none).get j=some b:=hj;rw[Sa]at hj;grind
theorem HR.grown (g:HR B w0 σ hp w)(hv:VRL σ vs us)(d:Al)(c:Ao)(hc:∀j,j<vs.length->c.get j=vs[j]?)(e z:Nat):HR B w0 (σ.ext hp.nx ⟨w.heap.size,0,us.length+d.size,z⟩) ⟨hp.m.set hp.nx (some (.cells c vs.length e z)),hp.nx+1⟩ (w.drew.alloc (.cells (us.toArray++d) e)):=by
 have:=g.drew.alloc c vs.length e z (us.toArray++d) (by rw[hv.1];simp) (fun j hj=>by
  have f:j<us.length:=by rw[<-hv.1];exact hj
  refine⟨vs[j],us[j],by grind,?_,hv.2 j _ _ (by simp) (by simp)⟩;simp[Array.getElem?_append,f])
 simp_all
def HR.of_same (h:HR B w0 σ hp w){d:Hp}(hn:d.nx=hp.nx)(hm:∀i,d.m.get i=hp.m.get i):HR B w0 σ d w:=
 h.sub (Nat.le_of_eq hn.symm) fun i b hg=>by rw[<-hm];exact hg
def D5 (P:Aw)(hp:Hp)(t u:Ax)(s x:Av):Bb (Av×Hp):=
 match P.underlying t,P.underlying u with
 |some (.slice e),some (.slice _)=>match P.info? e with
  |none=>none|some ie=>match ie.zero with
   |none=>none
   | some z => bif Nat.beq z.cells.toList.length ie.size && Nat.ble ie.bytes 1048576 then
     match z7 hp ie.size x with
     |none=>none|some (n,news)=>match s with
      | .slice none sLen sCap => bif Nat.beq sLen 0 && Nat.beq sCap 0 && Nat.ble n 67108864 then
        bif Nat.beq n 0 then some (.slice none 0 0,hp)
        else some (.slice (some ⟨hp.nx,0,none⟩) n (d8 n 0),hp.new news e ie.size)
       else none
      | .slice (some ⟨i,o,none⟩) sLen sCap=>match hp.m.get i with
       |some (.cells c k e' z')=>
        bif Nat.ble (sLen+n) 67108864&&news.all Value.oneCell' then
         bif Nat.beq n 0 then
          bif Nat.ble sLen sCap then some (.slice (some ⟨i,o,none⟩) sLen sCap,hp)else none
         else
          bif Nat.ble unk sCap then
           bif Nat.ble 1 (E8 sCap)&&Nat.ble (E8 sCap) (sLen+n)then
            bif Nat.ble (o+sLen*ie.size) k then
             match v5 c o (sLen*ie.size)with
             |none=>none|some olds=>some (.slice (some ⟨hp.nx,0,none⟩) (sLen+n) (d8 (sLen+n) 0),hp.new (olds++news) e ie.size)
            else none
           else bif Nat.beq z' ie.size&&Nat.beq e' e&&Nat.ble (o+sLen*ie.size) k then
            bif Nat.ble (sLen+n) (O1 sCap)then
             some (.slice (some ⟨i,o,none⟩) (sLen+n) sCap,oS hp i c (Nat.max k (o+(sLen+n)*ie.size)) e' z' (o+sLen*ie.size) news)
            else
            match v5 c o (sLen*ie.size)with
            |none=>none|some olds=>
             (bif Nat.beq o 0 then fill c (sLen*ie.size) news else fill (fill .e 0 olds) (sLen*ie.size) news).force fun ct=>
              some (.slice (some ⟨hp.nx,0,none⟩) (sLen+n) (d8 (sLen+n) 0),⟨(hp.m.set i none).set hp.nx (some (.cells ct ((sLen+n)*ie.size) e' z')),hp.nx+1⟩)
           else none
          else bif Nat.ble (sLen+n) sCap then
           bif Nat.ble (o+(sLen+n)*ie.size) k then
            some (.slice (some ⟨i,o,none⟩) (sLen+n) sCap,oS hp i c k e' z' (o+sLen*ie.size) news)
           else none
          else
           bif Nat.ble (o+sLen*ie.size) k then
            match v5 c o (sLen*ie.size)with
            |none=>none|some olds=>some (.slice (some ⟨hp.nx,0,none⟩) (sLen+n) (d8 (sLen+n) 0),hp.new (olds++news) e ie.size)
           else none
        else none
       |some (.ro c k _ _)=>
        bif Nat.ble (sLen+n) 67108864&&Nat.ble sLen sCap&& !Nat.ble unk sCap then
         bif Nat.beq n 0 then some (.slice (some ⟨i,o,none⟩) sLen sCap,hp)
         else bif Nat.ble (sLen+n) sCap then none
         else bif Nat.ble (o+sLen*ie.size) k then
          match v5 c o (sLen*ie.size)with
          |none=>none|some olds=>some (.slice (some ⟨hp.nx,0,none⟩) (sLen+n) (d8 (sLen+n) 0),hp.new (olds++news) e ie.size)
         else none
        else none
       |_=>none
      |_=>none
    else none
 |_,_=>none
def E3 {c:Ao}:∀ {vs:Af} {o:Nat},(∀j,j<vs.length->c.get (o+j)=vs[j]?)->v5 c o vs.length=some vs
 | [],o,_=>rfl|v::vs,o,h=>by simp only[Qf,v5];have h0:=h 0 (by simp);simp only[QB,PA]at h0;rw[h0];have:=E3 (c:=c) (vs:=vs) (o:=o+1) (fun j hj=>by have:=h (j+1) (by simp;omega);rw[show o+(j+1)=o+1+j by omega]at this;simpa using this);rw[this]
theorem VR.unkSlice (σ:Sg)(i:Nat)(p:Pl)(d:p.dl=0){l c':Nat}(hl:l<=c')(hb:c'*p.esz<=p.siz):VR (σ.ext i p) (.slice (some ⟨i,0,none⟩) l (d8 l 0)) (.slice (some ⟨p.blk,0,none⟩) l c'):=by have:=VR.slice (σ:=σ.ext i p) i 0 p l (d8 l 0) c' (RT _ _ _) (.inr ⟨u9 _ _,by rw[I7 G7];exact hl,.inl (H5 G7),by omega⟩) hl;grind
def gD (h:w'.heap=w.heap)(a:Addr):w'.cell? a=w.cell? a:=by unfold World.cell?;rw[h]
set_option maxHeartbeats 1000000 in
theorem wI {t u:Ax}{s s':Av}{v:Av}{hp':Hp}(h:D5 P hp t u s x=some (v,hp'))(hs:VR σ s s')(hx:VR σ x x')(J:HR B w0 σ hp w)(ty:Ax):MOK hp B w0 σ v hp' ((Builtin.append_ #[t,u] ty #[s',x']).run P w):=by
 unfold D5 at h;split at h;case h_2=>cases h
 rename_i e e2 ht Q;split at h;cases h;rename_i ie H;split at h;cases h;rename_i z hz;cases hb:Nat.beq z.cells.toList.length ie.size&&Nat.ble ie.bytes 1048576 with
 |false=>grind|true=>
 rw[hb,PB]at h;simp only[Pk]at hb;have ez:z.cells.size=ie.size:=by simp_all
 have eb:=Pp hb.2;split at h;cases h;rename_i n news bj;obtain⟨us,hv,C,b,c,rfl,av,aw⟩:=mQ bj hx J;have O:news.length=n*ie.size:=by rw[hv.1];exact C
 have hf:(Builtin.firstCells ie.size n (.slice b n c)).run P w= .ok us.toArray w:=fH C av aw;have ak:∀w':Bc,w'.heap=w.heap->(Builtin.firstCells ie.size n (.slice b n c)).run P w'= .ok us.toArray w':=fun w' hh=>
  fH C av (fun a ha j u Q=>by rw[gD hh];exact aw a ha j u Q)
 split at h
 ·rename_i d f;cases h0:Nat.beq d 0&&Nat.beq f 0&&Nat.ble n 67108864 with
  |false=>grind|true=>
  rw[h0,PB]at h;simp only[Pk]at h0;have e1:=Pq h0.1.1;have bh:=Pq h0.1.2;have hn:=Pp h0.2;subst e1;subst bh;cases hs;cases q:Nat.beq n 0 with
  |true=>rw[q,PB]at h;cases h;have:=Pq q;subst this;have ab:us=[]:=Pr (by simpa using C);refine⟨σ,.slice none 0 0,w,?_,RU _ σ,.nils 0 0,J⟩;simp[Builtin.append_,PI ht,PI Q,sizeOf,typeInfo,H,Builtin.lenOf,hf]
  |false=>
   rw[q,PC]at h;cases h;have ad:n≠0:=fun e=>by rw[e]at q;cases q
   have hr:=T7 (P:=P) (w:=w) t u ty e e2 ie z ht Q H hz none 0 0 n c b [] us (fun w' _=>run_firstCells_none w' ie.size 0 0 0) ak (by omega) (by omega)
    (growslice_fits (by omega) (by have:=Nat.mul_le_mul (show 0+n<=67108864 by omega) eb;omega))
   simp only[PQ]at hr;have hge:=grownCap_ge w n 0 e;have L:=J.grown hv (Builtin.zeroCells z.cells (grownCap w n 0 e-n)) (fill .e 0 news) (fun j hj=>C7 news j hj) e ie.size;refine⟨_,_,_,hr,J.le_new _,VR.unkSlice σ hp.nx ⟨w.heap.size,0,us.length+(Builtin.zeroCells z.cells (grownCap w n 0 e-n)).size,ie.size⟩ rfl hge ?_,?_⟩;show grownCap w n 0 e*ie.size<=us.length+_;rw[size_zeroCells,C,ez,<-PY];grind;simpa [Hp.new]using L
 ·rename_i i o d f;split at h;case h_3=>cases h
  case h_2=>
   rename_i k0 k e' z' hg;cases h0:Nat.ble (d+n) 67108864&&Nat.ble d f&& !Nat.ble unk f with
   |false=>grind|true=>
   rw[h0,PB]at h;simp only[Pk,Qi]at h0;obtain⟨⟨g1,g2⟩,g3⟩:=h0;have hn:=Pp g1;have g3:¬unk<=f:=fun h=>by rw[Ps h]at g3;cases g3
   cases hs with
   |slice _ _ p _ _ c' E S al=>
   obtain⟨rfl,_⟩:f=c'/\f<unk:=by grind
   cases q:Nat.beq n 0 with
   |true=>rw[q,PB]at h;have:=Pq q;subst this;have ab:us=[]:=Pr (by simpa using C);subst ab;cases h;refine⟨σ,_,w,M5 t u ty e e2 ie ht Q H _ d f 0 c b [] hf (by omega) (by simp[storeCells]),RU _ σ,.slice i o p d f f E S al,J⟩
   |false=>
   rw[q,PC]at h;have ad:n≠0:=fun e=>by rw[e]at q;cases q
   cases ao:Nat.ble (d+n) f with
   |true=>grind|false=>
   rw[ao,PC]at h;have hlt:f<d+n:=Nat.lt_of_not_le fun h=>by rw[Ps h]at ao;cases ao
   cases A:Nat.ble (o+d*ie.size) k with
   |false=>grind|true=>
   rw[A,PB]at h;have A:=Pp A;split at h;cases h;rename_i l I;simp only[Pj,Pn]at h;obtain⟨rfl,rfl⟩:=h;obtain⟨y,aq,D,ae⟩:=J.cellsR hg rfl A I E;have aj:∀w':Bc,w'.heap=w.heap->(Builtin.firstCells ie.size d (.slice (some ⟨p.blk,p.dl+o,none⟩) d f)).run P w'= .ok y.toArray w':=fun w' hh=>
    run_firstCells_some w' ie.size d _ d f y D (fun j u Q=>by rw[gD hh];exact ae j u Q)
   have hr:=T7 (P:=P) (w:=w) t u ty e e2 ie z ht Q H hz (some ⟨p.blk,p.dl+o,none⟩) d f n c b y us aj ak hlt (by omega)
    (growslice_fits hlt (by have:=Nat.mul_le_mul hn eb;omega))
   have hge:=grownCap_ge w (d+n) f e;have G:=aq.append hv;have ah:(l++news).length=(d+n)*ie.size:=by rw[G.1,PL,D,C,PY]
   have L:=J.grown G (Builtin.zeroCells z.cells (grownCap w (d+n) f e-(d+n))) (fill .e 0 (l++news)) (fun j hj=>C7 _ j hj) e ie.size;have ap:(y++us).length=(d+n)*ie.size:=by rw[<-G.1];exact ah
   rw[show(y++us).toArray=y.toArray++us.toArray by simp]at L;refine⟨_,_,_,hr,J.le_new _,VR.unkSlice σ hp.nx ⟨w.heap.size,0,(y++us).length+(Builtin.zeroCells z.cells (grownCap w (d+n) f e-(d+n))).size,ie.size⟩ rfl hge ?_,by simpa [Hp.new]using L⟩;show grownCap w (d+n) f e*ie.size<=(y++us).length+_;rw[size_zeroCells,ap,ez,<-PY];grind
  rename_i k0 k e' z' hg;cases h0:Nat.ble (d+n) 67108864&&news.all Value.oneCell' with
  |false=>rw[h0]at h;cases h
  |true=>
  rw[h0,PB]at h;simp only[Pk]at h0;have hn:=Pp h0.1;have V:=hv.all_oneCell h0.2;cases hs with
  |slice _ _ p _ _ c' E S al=>
  obtain⟨k1,k2⟩:=J.place hg E;cases q:Nat.beq n 0 with
  |true=>
   rw[q,PB]at h;have:=Pq q;subst this;have ab:us=[]:=Pr (by simpa using C);subst ab;cases X:Nat.ble d f with
   |false=>simp_all|true=>rw[X,PB]at h;simp only[Pj,Pn]at h;obtain⟨rfl,rfl⟩:=h;refine⟨σ,_,w,M5 t u ty e e2 ie ht Q H _ d c' 0 c b [] hf (by omega) (by simp[storeCells]),RU _ σ,.slice i o p d f c' E S al,J⟩
  | false =>
  rw[q,PC]at h;have ad:n≠0:=fun e=>by rw[e]at q;cases q
  have grow:∀l:Af,v5 k0 o (d*ie.size)=some l->o+d*ie.size<=k->c'<d+n-> ∀(Z:Hp),HR B w0 σ Z w-> ∀ct:Ao,(∀j,j<(l++news).length->ct.get j=(l++news)[j]?)->
    ∀ex zx,ex=e->zx=ie.size->Z.nx=hp.nx->
    MOK hp B w0 σ (.slice (some ⟨hp.nx,0,none⟩) (d+n) (d8 (d+n) 0)) ⟨Z.m.set hp.nx (some (.cells ct ((d+n)*ie.size) ex zx)),hp.nx+1⟩
     ((Builtin.append_ #[t,u] ty #[.slice (some ⟨p.blk,p.dl+o,none⟩) d c',.slice b n c]).run P w):=by
   rintro l I A hlt Z bl ct ai ex zx rfl rfl bk;obtain⟨y,aq,D,ae⟩:=J.cells hg A I E;have aj:∀w':Bc,w'.heap=w.heap->(Builtin.firstCells ie.size d (.slice (some ⟨p.blk,p.dl+o,none⟩) d c')).run P w'= .ok y.toArray w':=fun w' hh=>
    run_firstCells_some w' ie.size d _ d c' y D (fun j u Q=>by rw[gD hh];exact ae j u Q)
   have hr:=T7 (P:=P) (w:=w) t u ty ex e2 ie z ht Q H hz (some ⟨p.blk,p.dl+o,none⟩) d c' n c b y us aj ak hlt (by omega)
    (growslice_fits hlt (by have:=Nat.mul_le_mul hn eb;omega))
   have hge:=grownCap_ge w (d+n) c' ex;have G:=aq.append hv;have ah:(l++news).length=(d+n)*ie.size:=by rw[G.1,PL,D,C,PY]
   have L:=bl.grown G (Builtin.zeroCells z.cells (grownCap w (d+n) c' ex-(d+n))) ct ai ex ie.size;rw[ah,bk]at L;have ap:(y++us).length=(d+n)*ie.size:=by grind
   rw[show(y++us).toArray=y.toArray++us.toArray by simp]at L;refine⟨_,_,_,hr,J.le_new _,VR.unkSlice σ hp.nx ⟨w.heap.size,0,(y++us).length+(Builtin.zeroCells z.cells (grownCap w (d+n) c' ex-(d+n))).size,ie.size⟩ rfl hge ?_,L⟩;show grownCap w (d+n) c' ex*ie.size<=(y++us).length+_;rw[size_zeroCells,ap,ez,<-PY];exact Px _ (by omega)
  have R:∀ {v:Av} {hp':Hp},c'<d+n->(bif Nat.ble (o+d*ie.size) k then
    match v5 k0 o (d*ie.size)with
    |none=>none|some l=>some (Value.slice (some ⟨hp.nx,0,none⟩) (d+n) (d8 (d+n) 0),hp.new (l++news) e ie.size)
   else none)=some (v,hp')->MOK hp B w0 σ v hp' ((Builtin.append_ #[t,u] ty #[.slice (some ⟨p.blk,p.dl+o,none⟩) d c',.slice b n c]).run P w):=by
   intro v hp' hlt h;cases A:Nat.ble (o+d*ie.size) k with
   |false=>rw[A]at h;cases h
   |true=>rw[A,PB]at h;have A:=Pp A;split at h;cases h;rename_i l I;simp only[Pj,Pn]at h;obtain⟨rfl,rfl⟩:=h;have Y:=(t8 I).1;have:=grow l I A hlt hp J (fill .e 0 (l++news)) (fun j hj=>C7 _ j hj) e ie.size rfl rfl rfl;rw[show(d+n)*ie.size=(l++news).length by rw[PL,Y,O,PY]]at this;exact this
  cases N:Nat.ble unk f with
  |true=>
   rw[N,PB]at h;have N:=Pp N;obtain⟨ay,ax,ac⟩:O1 f<=c'/\(E8 f=0\/c'<E8 f)/\p.dl+o+c'*p.esz<=p.siz:=by rcases S with⟨_,h⟩| ⟨_,h2,h3,h4⟩;omega;exact⟨h2,h3,h4⟩
   cases F:Nat.ble 1 (E8 f)&&Nat.ble (E8 f) (d+n)with
   |true=>rw[F,PB]at h;simp only[Pk]at F;have g1:=Pp F.1;have g2:=Pp F.2;exact R (by omega) h|false=>
   rw[F,PC]at h;cases h1:Nat.beq z' ie.size&&Nat.beq e' e&&Nat.ble (o+d*ie.size) k with
   |false=>rw[h1]at h;cases h
   |true=>
   rw[h1,PB]at h;simp only[Pk]at h1;have au:=Pq h1.1.1;have he:=Pq h1.1.2;have A:=Pp h1.2;cases aa:Nat.ble (d+n) (O1 f)with
   |true=>
    rw[aa,PB,V3]at h;have aa:=Pp aa;have g:d+n<=c':=by omega
    simp only[Pj,Pn]at h;obtain⟨rfl,rfl⟩:=h;have ba:p.dl+(o+d*ie.size+n*ie.size)<=p.siz:=by
     have:(d+n)*ie.size<=c'*p.esz:=by rw[k2,au];exact Px _ g
     rw[PY]at this;omega
    obtain⟨w',W,hh,_⟩:=J.store (o:=o+d*ie.size) hg E hv V A (by rw[O];omega) P;have K:(⟨p.blk,p.dl+o,none⟩:Addr).add (d*ie.size)=⟨p.blk,p.dl+(o+d*ie.size),none⟩:=by rw[QZ,Qv]
    have M:=M5 (P:=P) t u ty e e2 ie ht Q H ⟨p.blk,p.dl+o,none⟩ d c' n c b us hf g (w':=w') (by rw[K];exact W);refine⟨σ,_,w',M,RU _ σ,.slice i o p _ _ _ E (.inr ⟨N,ay,ax,ac⟩) g,?_⟩;rw[O,show max k (o+d*ie.size+n*ie.size)=Nat.max k (o+(d+n)*ie.size) by rw[PY,Qv]]at hh;exact hh
   |false=>
   rw [aa,PC] at h;split at h;cases h;rename_i l I;rw[RY]at h;generalize be:(bif Nat.beq o 0 then fill k0 (d*ie.size) news else fill (fill .e 0 l) (d*ie.size) news)=ct at h;simp only[Pj,Pn]at h;obtain⟨rfl,rfl⟩:=h;obtain⟨Y,an⟩:=t8 I;have ai:∀j,j<(l++news).length->ct.get j=(l++news)[j]? :=by
    intro j hj;rw[<-be];have bm:j<d*ie.size+news.length:=by simpa [Y]using hj
    by_cases bb:j<d*ie.size
    ·rw[Pu (by omega),an j bb];cases ho:Nat.beq o 0 with
     |true=>have:=Pq ho;subst this;rw[PB,l8,PE (by omega)];simp|false=>rw[PC,l8,PE (by omega),C7 l j (by omega),an j bb]
    ·rw[Pt (by omega),Y];cases ho:Nat.beq o 0 with
     |true=>rw[PB,l8,PG (by omega)]|false=>rw[PC,l8,PG (by omega)]
   by_cases g:d+n<=c'
   ·
    have ba:p.dl+o+(d*ie.size+n*ie.size)<=p.siz:=by
     have:(d+n)*ie.size<=c'*p.esz:=by rw[k2,au];exact Px _ g
     rw[PY]at this;omega
    have hm:=J.move hg E (o:=o) (k:=d*ie.size) A (bif Nat.beq o 0 then k0 else fill .e 0 l) (fun j hj=>by
     cases ho:Nat.beq o 0 with
     |true=>have:=Pq ho;subst this;simp|false=>rw[PC,C7 l j (by omega),an j hj])
    have X:=J.le_new ⟨p.blk,p.dl+o,p.siz,p.esz⟩;obtain⟨w',W,hh,_⟩:=hm.store (i:=hp.nx) (o:=d*ie.size) (by rw[Sa,PG rfl]) (RT _ _ _) (hv.mono X.le) V (PH _) (by show p.dl+o+_+_<=p.siz;rw[O];omega) P;have K:(⟨p.blk,p.dl+o,none⟩:Addr).add (d*ie.size)=⟨p.blk,p.dl+o+d*ie.size,none⟩:=QZ _ _ _;have M:=M5 (P:=P) t u ty e e2 ie ht Q H ⟨p.blk,p.dl+o,none⟩ d c' n c b us hf g (w':=w') (by rw[K];exact W);refine⟨_,_,w',M,X,?_,?_⟩;have:=VR.slice (σ:=σ.ext hp.nx ⟨p.blk,p.dl+o,p.siz,p.esz⟩) hp.nx 0 ⟨p.blk,p.dl+o,p.siz,p.esz⟩ (d+n) (d8 (d+n) 0) c' (RT _ _ _) (.inr ⟨u9 _ _,by rw[I7 G7];exact g,.inl (H5 G7),by simpa using ac⟩) g;simpa using this
    ·have bi:fill (bif Nat.beq o 0 then k0 else fill .e 0 l) (d*ie.size) news=ct:=by rw[<-be];cases Nat.beq o 0<;>rfl
     rw[bi,O,show max (d*ie.size) (d*ie.size+n*ie.size)=(d+n)*ie.size by rw[PY];omega]at hh;refine hh.of_same rfl (fun j=>?_);simp only[Sa];split<;>rfl
   subst au;subst he;exact grow l I A (by omega) {hp with m:=hp.m.set i none} (J.kill i) _ ai _ _ rfl rfl rfl
  |false=>
   rw[N,PC]at h;have az:¬unk<=f:=fun h=>by rw[Ps h]at N;cases N
   obtain⟨rfl,bc⟩:f=c'/\f<unk:=by rcases S with h| ⟨h,_⟩;exact h;exact absurd h az
   cases g:Nat.ble (d+n) f with
   |true=>
    rw[g,PB]at h;have g:=Pp g;cases U:Nat.ble (o+(d+n)*ie.size) k with
    |false=>rw[U]at h;cases h
    |true=>
     rw[U,PB,V3]at h;have U:=Pp U;simp only[Pj,Pn]at h;obtain⟨rfl,rfl⟩:=h;rw[PY]at U;obtain⟨w',W,hh,_⟩:=J.store (o:=o+d*ie.size) hg E hv V (by omega) (by rw[O];omega) P;have K:(⟨p.blk,p.dl+o,none⟩:Addr).add (d*ie.size)=⟨p.blk,p.dl+(o+d*ie.size),none⟩:=by rw[QZ,Qv]
     have M:=M5 (P:=P) t u ty e e2 ie ht Q H ⟨p.blk,p.dl+o,none⟩ d f n c b us hf g (w':=w') (by rw[K];exact W);refine⟨σ,_,w',M,RU _ σ,.slice i o p _ _ _ E (.inl ⟨rfl,bc⟩) g,?_⟩;rw[O,show max k (o+d*ie.size+n*ie.size)=k by omega]at hh;exact hh
   |false=>
    rw[g,PC]at h;have bg:¬d+n<=f:=fun h=>by rw[Ps h]at g;cases g
    exact R (by omega) h
 cases h
end
section
variable {P :Aw}{B:BS}{w0:Bc}{σ:Sg}{hp:Hp}{w:Bc}
def yU (P:Aw)(hp:Hp)(t:Ax)(d x:Av):Bb (Av×Hp):=
 match P.underlying t with
 |some (.slice e)=>match P.info? e with
  |none=>none|some ie=>match d with
   | .slice none dl _ => bif Nat.beq dl 0 then
     match x with
     | .slice (some ⟨_,_,none⟩) _ _| .slice none _ _=>some (.int .i64 0,hp)
     |_=>none
    else none
   | .slice (some ⟨0, 0, some 0⟩) 0 _ => match x with
     | .slice (some ⟨_,_,none⟩) _ _=>some (.int .i64 0,hp)|_=>none
   | .slice (some ⟨i,o,none⟩) dl dc=>match hp.m.get i with
    |some (.cells c k e' z')=>match x with
     | .slice none n _=>bif Nat.beq n 0 then some (.int .i64 0,hp)else none| .slice (some ⟨j,q,none⟩) n cx=>match z7 hp ie.size (.slice (some ⟨j,q,none⟩) (Nat.min n dl) cx)with
      | some (m, vs) => bif (Nat.ble (o + m * ie.size) k || (Nat.ble unk dc && Nat.beq z' ie.size && Nat.ble o k)) && Nat.ble m dl && vs.all Value.oneCell' then
        some (.int .i64 m,oS hp i c (Nat.max k (o+m*ie.size)) e' z' o vs)
       else none
      |none=>none
     | .slice (some ⟨0,0,some 0⟩) 0 _=>some (.int .i64 0,hp)|_=>none
    |_=>none
   |_=>none
 |_=>none
variable {v x x':Av}
theorem Ee {t u:Ax}{d K:Av}{hp':Hp}(h:yU P hp t d x=some (v,hp'))(H:VR σ d K)(hx:VR σ x x')(g:HR B w0 σ hp w)(ty:Ax):MOK hp B w0 σ v hp' ((Builtin.copy_ #[t,u] ty #[K,x']).run P w):=by
 unfold yU at h;split at h;case h_2=>cases h
 rename_i e ht;split at h;cases h;rename_i ie f;split at h
 ·rename_i dl dc;cases hb:Nat.beq dl 0 with
  |false=>grind|true=>
  have hb:=Pq hb;subst hb;cases H;split at h
  ·rename_i j q n A;cases h;cases hx with
   |slice _ _ p _ _ c' hp' hc hl=>
   refine⟨σ,_,w,?_,RU _ σ,.int _ _,g⟩;simp[Builtin.copy_,PI ht,Builtin.lenOf,sizeOf,typeInfo,f,Builtin.firstCells,loadCells,loadCellsFrom,goInt]
  rename_i n A;cases h;cases hx;refine⟨σ,_,w,?_,RU _ σ,.int _ _,g⟩;simp[Builtin.copy_,PI ht,Builtin.lenOf,sizeOf,typeInfo,f,Builtin.firstCells,goInt];cases h
 ·rename_i dc;split at h
  ·simp only[Pj,Pn]at h;obtain⟨rfl,rfl⟩:=h;cases H;cases hx with
   |slice _ _ p _ _ c' hp' hc hl=>
   refine⟨σ,_,w,?_,RU _ σ,.int _ _,g⟩;simp[Builtin.copy_,PI ht,Builtin.lenOf,sizeOf,typeInfo,f,Builtin.firstCells,loadCells,loadCellsFrom,storeCells,goInt]
  cases h
 ·rename_i i o dl dc;split at h;case h_2=>cases h
  rename_i c k e' U hg;cases H with
  |slice _ _ p _ _ c' z hc hl=>
  obtain⟨k1,k2⟩:=g.place hg z;split at h
  ·rename_i n A;cases hb:Nat.beq n 0 with
   |false=>grind|true=>have hb:=Pq hb;subst hb;cases h;cases hx;refine⟨σ,_,w,?_,RU _ σ,.int _ _,g⟩;simp[Builtin.copy_,PI ht,Builtin.lenOf,sizeOf,typeInfo,f,Builtin.firstCells,goInt,storeCells]
  ·rename_i j q n A;cases hx with
   |slice _ _ p2 _ _ C I G Q=>
   split at h
   ·rename_i m vs hf;cases hb:(Nat.ble (o+m*ie.size) k|| (Nat.ble unk dc&&Nat.beq U ie.size&&Nat.ble o k))&&Nat.ble m dl&&vs.all Value.oneCell' with
    |false=>grind|true=>
     rw[hb,PB,V3]at h;simp only[Pk,QL]at hb;have R:=Pp hb.1.2;have s:o<=k/\p.dl+(o+m*ie.size)<=p.siz:=by
      rcases hb.1.1 with O| ⟨⟨L,D⟩,M⟩;simp_all;omega
      ·have L:=Pp L;have D:=Pq D;have M:=Pp M;have:m*ie.size<=c'*p.esz:=by rw[k2,D];exact Px _ (by omega)
       omega
     cases h;have S:Nat.min n dl<=n:=Nat.min_le_left _ _;obtain⟨us,hv,l,b,V,E,N,F⟩:=mQ hf (.slice j q p2 (Nat.min n dl) A C I G (by omega)) g;obtain⟨rfl,rfl,rfl⟩:=E;have y:=hv.all_oneCell hb.2;have T:=hv.1;obtain⟨w',J,hh,_⟩:=g.store hg z hv y s.1 (by omega) P;refine⟨σ,_,w',?_,RU _ σ,.int _ _,?_⟩;have hl:=run_loadCells_list (P:=P) w _ us (F _ rfl);rw[l]at hl;simp only[Builtin.copy_,List.getElem?_toArray,PA,List.getElem?_cons_succ,PN,PI ht,PJ,Builtin.lenOf,PU,sizeOf,typeInfo,Ri,f,Builtin.firstCells,hl,J,goInt];grind
   cases h
  ·simp only[Pj,Pn]at h;obtain⟨rfl,rfl⟩:=h;cases hx with
   |vague q c'=>refine⟨σ,_,w,?_,RU _ σ,.int _ _,g⟩;simp[Builtin.copy_,PI ht,Builtin.lenOf,sizeOf,typeInfo,f,Builtin.firstCells,loadCells,loadCellsFrom,storeCells,goInt]
  cases h
 cases h
def I6 (v:Av)(y:Nat):Ai:=
 match v with
 | .int _ n=>bif decide (0<=n)&&decide (n<=y)then some n.toNat else none|_=>none
theorem L4 {f:Av}{y n:Nat}(h:I6 v y=some n)(hv:VR σ v f){e:Nat}(hy:y<=e)(d:BoundsCode):n<=y/\ ∀w,(Instr.sliceBound f e d).run P w= .ok n w:=by
 unfold I6 at h;split at h
 ·rename_i k m;cases hv;cases hb:decide (0<=m)&&decide (m<=y)with
  |false=>grind|true=>rw[hb,PB]at h;simp at hb;simp at h;subst h;exact⟨by omega,fun w=>run_sliceBound w k m e d hb.1 (by omega)⟩
 cases h
def A4 (len cb:Nat)(lo hi mx:Ag):Bb (Nat×Nat×Ai):=
 match(match mx with|some v=>(I6 v cb).map some|none=>some none)with
 |none=>none|some m=>match(match hi with|some v=>I6 v (m.getD cb)|none=>(match mx with|some _=>none|none=>some len))with
  |none=>none|some h=>match(match lo with|some v=>I6 v h|none=>some 0)with
   |none=>none|some l=>some (l,h,m)
def OVR (σ:Sg):Ag->Ag->Prop
 |none,none=>True|some v,some u=>VR σ v u|_,_=>False
variable {hi hi' lo lo' mx mx':Ag}
theorem G4 {len e cap:Nat}{l h:Nat}{m:Ai}(he:A4 len e lo hi mx=some (l,h,m))(h1:OVR σ lo lo')(h2:OVR σ hi hi')(h3:OVR σ mx mx')(hc:e<=cap)(p:len<=e)(isS:Bool):l<=h/\h<=m.getD e/\m.getD e<=e/\ ∀w,(Instr.sliceBounds isS len cap lo' hi' mx').run P w= .ok (l,h,m.getD cap) w:=by
 unfold A4 at he;cases mx with
 |none=>
  cases mx' with
  |some _=>exact h3.elim|none=>
  simp only[Option.getD_none]at he;cases hi with
  |none=>
   cases hi' with
   |some _=>exact h2.elim|none=>
   cases lo with
   |none=>
    cases lo' with
    |some _=>exact h1.elim|none=>
    cases he;exact⟨by omega,p,PH _,fun w=>rfl⟩
   |some lv=>
    cases lo' with
    |none=>exact h1.elim|some q=>
    cases hb:I6 lv len with
    |none=>grind|some y=>simp only[hb,Pj,Pn]at he;obtain⟨rfl,rfl,rfl⟩:=he;obtain⟨f,g⟩:=L4 (P:=P) hb h1 (PH _) .sliceB;exact⟨f,p,PH _,fun w=>by simp[Instr.sliceBounds,g]⟩
  |some hv=>
   cases hi' with
   |none=>exact h2.elim|some s=>
   cases d:I6 hv e with
   |none=>grind|some h0=>
    simp only[d]at he;obtain⟨i,j⟩:=L4 (P:=P) d h2 hc (if isS then .sliceAcap else .sliceAlen);cases lo with
    |none=>
     cases lo' with
     |some _=>exact h1.elim|none=>
     cases he;exact⟨by omega,i,PH _,fun w=>by simp[Instr.sliceBounds,j]⟩
    |some lv=>
     cases lo' with
     |none=>exact h1.elim|some q=>
     cases hb:I6 lv h0 with
     |none=>grind|some y=>simp only[hb,Pj,Pn]at he;obtain⟨rfl,rfl,rfl⟩:=he;obtain⟨f,g⟩:=L4 (P:=P) hb h1 (PH _) .sliceB;exact⟨f,i,PH _,fun w=>by simp[Instr.sliceBounds,j,g]⟩
 |some mv=>
  cases mx' with
  |none=>exact h3.elim|some A=>
  cases n:I6 mv e with
  |none=>grind|some z=>
   simp only[n,Qh,Qe]at he;obtain⟨t,u⟩:=L4 (P:=P) n h3 hc (if isS then .slice3Acap else .slice3Alen);cases hi with
   |none=>grind|some hv=>
    cases hi' with
    |none=>exact h2.elim|some s=>
    cases d:I6 hv z with
    |none=>grind|some h0=>
     simp only[d]at he;obtain⟨i,j⟩:=L4 (P:=P) d h2 (PH _) .slice3B;cases lo with
     |none=>
      cases lo' with
      |some _=>exact h1.elim|none=>
      cases he;exact⟨by omega,i,t,fun w=>by simp[Instr.sliceBounds,j,u]⟩
     |some lv=>
      cases lo' with
      |none=>exact h1.elim|some q=>
      cases hb:I6 lv h0 with
      |none=>grind|some y=>simp only[hb,Pj,Pn]at he;obtain⟨rfl,rfl,rfl⟩:=he;obtain⟨f,g⟩:=L4 (P:=P) hb h1 (PH _) .slice3C;exact⟨f,i,t,fun w=>by simp[Instr.sliceBounds,j,u,g]⟩
def v8 (P:Aw)(hp:Hp)(t:Ax)(x:Av)(lo hi mx:Ag):Bb (Av×Hp):=
 match P.underlying t with
 |some .string=>match x with
  | .string s=>match mx with
   |some _=>none|none=>match A4 s.data.toList.length s.data.toList.length lo hi none with
    |some (l,h,_)=>some (.string ⟨((s.data.toList.take h).drop l).toArray⟩,hp)|none=>none
  |_=>none
 |some (.slice e)=>match P.info? e with
  |none=>none|some ie=>match x with
   | .slice none len cap => bif Nat.beq len 0 && Nat.beq cap 0 then
     match A4 0 0 lo hi mx with
     |some _=>some (.slice none 0 0,hp)|none=>none
    else none
   | .slice (some ⟨0,0,some 0⟩) 0 _=>match A4 0 0 lo hi mx with
    |some (_,_,none)=>some (.slice (some ⟨0,0,some 0⟩) 0 unk,hp)|_=>none
   | .slice (some ⟨i,o,none⟩) len cap=>
    bif Nat.ble unk cap then
     bif Nat.ble (Nat.max (O1 cap) len) 67108864 then
     match A4 len (Nat.max (O1 cap) len) lo hi mx with
     |none=>none
     | some (l, h, some m) => bif Nat.beq m l then some (.slice (some ⟨i, o, none⟩) (h - l) (m - l), hp)
       else some (.slice (some ⟨i,o+l*ie.size,none⟩) (h-l) (m-l),hp)
     | some (l, h, none) => bif Nat.beq l 0 then some (.slice (some ⟨i, o, none⟩) h (d8 (Nat.max (O1 cap) len) (E8 cap)), hp) else
       bif Nat.beq l (Nat.max (O1 cap) len)then some (.slice (some ⟨0,0,some 0⟩) 0 unk,hp)
       else match hp.m.get i with
        |some (.cells _ _ _ z')=>bif Nat.beq z' ie.size then some (.slice (some ⟨i,o+l*ie.size,none⟩) (h-l) (d8 (Nat.max (O1 cap) len-l) (E8 cap-l)),hp)else none|_=>none
     else none
    else bif Nat.ble len cap then
     match A4 len cap lo hi mx with
     |none=>none
     | some (l, h, m) => bif Nat.beq (m.getD cap) l then some (.slice (some ⟨i, o, none⟩) (h - l) (m.getD cap - l), hp)
       else some (.slice (some ⟨i,o+l*ie.size,none⟩) (h-l) (m.getD cap-l),hp)
    else none
   |_=>none
 |some (.array n e)=>match P.info? e with
  |none=>none|some ie=>match x with
   | .pointer (some ⟨i, o, none⟩) => bif Nat.ble n 16777216 then
     match A4 n n lo hi mx with
     |none=>none
     | some (l, h, m) => bif Nat.beq (m.getD n) l then some (.slice (some ⟨i, o, none⟩) (h - l) (m.getD n - l), hp)
       else some (.slice (some ⟨i,o+l*ie.size,none⟩) (h-l) (m.getD n-l),hp)
    else none
   |_=>none
 |_=>none
theorem kQ (s:ByteArray)(l h:Nat):s.extract l h=⟨((s.data.toList.take h).drop l).toArray⟩:=by apply ByteArray.ext;rw[ByteArray.data_extract];grind
theorem Cb {t:Ax}{hp':Hp}(h:v8 P hp t x lo hi mx=some (v,hp'))(hx:VR σ x x')(h1:OVR σ lo lo')(h2:OVR σ hi hi')(h3:OVR σ mx mx')(D:HR B w0 σ hp w):MOK hp B w0 σ v hp' ((Instr.sliceAt t x' lo' hi' mx').run P w):=by
 unfold v8 at h;split at h
 ·rename_i N;split at h
  ·rename_i s;cases hx;split at h;cases h
   ·cases mx' with
    |some _=>exact h3.elim|none=>
    split at h;rename_i l hh m hb;cases h;obtain⟨_,_,_,j⟩:=G4 (P:=P) (cap:=s.size) hb h1 h2 (show OVR σ none none from trivial) (by simp) (PH _) false;rw[show s.data.toList.length=s.size by simp]at j;refine⟨σ,_,w,?_,RU _ σ,.string _,D⟩;simp only[Instr.sliceAt,PN,PI N,PJ,Instr.slice,Option.isSome_none,QG,if_false,PU,j,kQ];cases h
  cases h
 ·rename_i e N;split at h;cases h;rename_i ie E;split at h
  ·rename_i len cap;cases hb:Nat.beq len 0&&Nat.beq cap 0 with
   |false=>grind|true=>
    simp only[Pk]at hb;have e1:=Pq hb.1;have e2:=Pq hb.2;subst e1;subst e2;cases hx;split at h
    ·rename_i ac f;obtain⟨l,hh,m⟩:=ac;cases h;obtain⟨O,I,J,j⟩:=G4 (P:=P) (cap:=0) f h1 h2 h3 (PH _) (PH _) true;have u:l=0:=by omega
     have M:hh=0:=by omega
     have ab:m.getD 0=0:=by omega
     subst u;subst M;rw[ab]at j;refine⟨σ,_,w,?_,RU _ σ,.nils 0 0,D⟩;simp only[Instr.sliceAt,PN,PI N,PJ,Instr.slice,j,sizeOf,typeInfo,Ri,E,PU,QY,Nat.sub_self]
    cases h
  ·rename_i cap;split at h
   ·rename_i l hh f;cases h;cases hx with
    |vague q c'=>
     obtain⟨O,I,J,j⟩:=G4 (P:=P) (cap:=c') f h1 h2 h3 (Rb _) (PH _) true;simp only[Option.getD_none]at I J j;have u:l=0:=by omega
     have M:hh=0:=by omega
     subst u;subst M;refine⟨σ,.slice (some q) 0 c',w,?_,RU _ σ,.vague q c',D⟩;have hq:(q.add 0)=q:=by simp[Addr.add]
     simp only[Instr.sliceAt,PN,PI N,PJ,Instr.slice,j,sizeOf,typeInfo,Ri,E,PU,Nat.sub_self,QP,QW,Qh,hq,ite_self]
   cases h
  ·rename_i i o len cap;cases hx with
   | slice _ _ p _ _ c' g ai U =>
   have G:∀(l hh m:Nat),(∀w,(Instr.sliceBounds true len c' lo' hi' mx').run P w= .ok (l,hh,m) w)->
     (Instr.sliceAt t (.slice (some ⟨p.blk,p.dl+o,none⟩) len c') lo' hi' mx').run P w= .ok (.slice (some (if m=l then⟨p.blk,p.dl+o,none⟩else⟨p.blk,p.dl+(o+l*ie.size),none⟩)) (hh-l) (m-l)) w:=by
    intro l hh m j;simp only[Instr.sliceAt,PN,PI N,PJ,Instr.slice,j,sizeOf,typeInfo,Ri,E,PU];by_cases d:m=l;simp[d];simp[d,QZ,Qv]
   cases A:Nat.ble unk cap with
   |true=>
    rw[A,PB]at h;have A:=Pp A;obtain⟨S,R,H⟩:O1 cap<=c'/\(E8 cap=0\/c'<E8 cap)/\p.dl+o+c'*p.esz<=p.siz:=by grind
    have T:E8 cap<unk:=Nat.mod_lt _ G7;have hL:Nat.max (O1 cap) len<=c':=Nat.max_le.2 ⟨S,U⟩;have K:len<=Nat.max (O1 cap) len:=QF _ _;generalize ah:Nat.max (O1 cap) len=L at h hL K;cases F:Nat.ble L 67108864 with
    |false=>grind|true=>
    rw[F,PB]at h;have F:=Pp F;split at h;cases h
    ·rename_i l hh m f;obtain⟨O,I,J,j⟩:=G4 (P:=P) (cap:=c') f h1 h2 h3 hL K true;simp only[Qe]at I J j;have hr:=G l hh m j;have z:m-l<unk:=by unfold unk;omega
     cases d:Nat.beq m l with
     |true=>rw[d,PB]at h;have d:=Pq d;subst d;cases h;rw[PG rfl]at hr;exact⟨σ,_,w,hr,RU _ σ,.slice i o p _ _ _ g (.inl ⟨rfl,z⟩) (by omega),D⟩
     |false=>
      rw[d,PC]at h;have y:m≠l:=fun e=>by rw[e,w9 rfl]at d;cases d
      cases h;rw[PE y]at hr;exact⟨σ,_,w,hr,RU _ σ,.slice i _ p _ _ _ g (.inl ⟨rfl,z⟩) (by omega),D⟩
    ·rename_i l hh f;obtain⟨O,I,J,j⟩:=G4 (P:=P) (cap:=c') f h1 h2 h3 hL K true;have hr:=G l hh c' j;cases u:Nat.beq l 0 with
     |true=>have u:=Pq u;subst u;cases h;simp only[QW,QB,ite_self,QP]at hr;exact⟨σ,_,w,hr,RU _ σ,.slice i o p _ _ _ g (.inr ⟨u9 _ _,by rw[I7 T];exact hL,by rw[H5 T];exact R,H⟩) (by omega),D⟩
     |false=>
      rw[u,PC]at h;cases C:Nat.beq l L with
      |true=>
       rw[C,PB]at h;have C:=Pq C;have Z:hh=l:=by omega
       subst Z;cases h;rw[Nat.sub_self]at hr;exact⟨σ,_,w,hr,RU _ σ,.vague _ _,D⟩
      |false=>
       rw[C,PC]at h;have ae:l≠L:=fun e=>by rw[e,w9 rfl]at C;cases C
       split at h;case h_2=>cases h
       rename_i tc k e' z' hg;obtain⟨k1,k2⟩:=D.place hg g;cases V:Nat.beq z' ie.size with
       |false=>grind|true=>
        rw[V,PB]at h;have aj:=Pq V;have Y:p.esz=ie.size:=by grind
        cases h;have X:c'≠l:=by omega
        rw[PE X]at hr;refine⟨σ,_,w,hr,RU _ σ,.slice i _ p _ _ _ g (.inr ⟨u9 _ _,by rw[I7 (by omega)];omega,by rw[H5 (by omega)];omega,?_⟩) (by omega),D⟩;rw[Y]at H⊢;have:l*ie.size+(c'-l)*ie.size=c'*ie.size:=by rw[<-PY];congr 1;omega
        omega
   |false=>
    rw[A,PC]at h;have ad:¬unk<=cap:=fun h=>by rw[Ps h]at A;cases A
    have Q:cap=c'/\cap<unk:=by grind
    obtain⟨rfl,W⟩:=Q;cases aa:Nat.ble len cap with
    |false=>grind|true=>
    rw[aa,PB]at h;split at h;cases h
    ·rename_i l hh m f;obtain⟨O,I,J,j⟩:=G4 (P:=P) (cap:=cap) f h1 h2 h3 (PH _) U true;have hr:=G l hh (m.getD cap) j;have z:m.getD cap-l<unk:=by omega
     cases d:Nat.beq (m.getD cap) l with
     |true=>rw[d,PB]at h;have d:=Pq d;cases h;rw[PG d]at hr;exact⟨σ,_,w,hr,RU _ σ,.slice i o p _ _ _ g (.inl ⟨rfl,z⟩) (by omega),D⟩
     |false=>
      rw[d,PC]at h;have y:m.getD cap≠l:=fun e=>by rw[e,w9 rfl]at d;cases d
      cases h;rw[PE y]at hr;exact⟨σ,_,w,hr,RU _ σ,.slice i _ p _ _ _ g (.inl ⟨rfl,z⟩) (by omega),D⟩
  cases h
 ·rename_i n e N;split at h;cases h;rename_i ie E;split at h
  ·rename_i i o;cases hx with
   |ptr _ _ p g=>
   cases hn:Nat.ble n 16777216 with
   |false=>grind|true=>
   rw[hn,PB]at h;have hn:=Pp hn;split at h;cases h
   ·rename_i l hh m f;obtain⟨O,I,J,j⟩:=G4 (P:=P) (cap:=n) f h1 h2 h3 (PH _) (PH _) false;have hr:(Instr.sliceAt t (.pointer (some ⟨p.blk,p.dl+o,none⟩)) lo' hi' mx').run P w= .ok (.slice (some (if m.getD n=l then⟨p.blk,p.dl+o,none⟩else⟨p.blk,p.dl+(o+l*ie.size),none⟩)) (hh-l) (m.getD n-l)) w:=by simp only[Instr.sliceAt,PN,PI N,PJ,Instr.sureAddr,j,sizeOf,typeInfo,Ri,E,PU];by_cases d:m.getD n=l;simp[d];simp[d,QZ,Qv]
    have z:m.getD n-l<unk:=by unfold unk;omega
    cases d:Nat.beq (m.getD n) l with
    |true=>rw[d,PB]at h;have d:=Pq d;cases h;rw[PG d]at hr;exact⟨σ,_,w,hr,RU _ σ,.slice i o p _ _ _ g (.inl ⟨rfl,z⟩) (by omega),D⟩
    |false=>
     rw[d,PC]at h;have y:m.getD n≠l:=fun e=>by rw[e,w9 rfl]at d;cases d
     cases h;rw[PE y]at hr;exact⟨σ,_,w,hr,RU _ σ,.slice i _ p _ _ _ g (.inl ⟨rfl,z⟩) (by omega),D⟩
  cases h
 cases h
end
section
variable {P :Aw}{B:BS}{w0:Bc}{σ:Sg}{hp:Hp}{w:Bc}
def vV (hp:Hp)(it:Av)(isString:Bool):Bb (Av×Hp):=
 match it,isString with
 | .pointer (some ⟨i,0,none⟩),true=>match hp.m.get i with
  | some (.sit s pos) => bif Nat.blt pos s.data.toList.length then
    some (.tuple #[.bool true,.int .i64 pos,.int .i32 (Utf8.decode s pos).1],{hp with m:=hp.m.set i (some (.sit s (pos+(Utf8.decode s pos).2)))})
   else some (.tuple #[.bool false],hp)
  |_=>none
 |_,_=>none
variable {a b:Av}
def VR.tup1 {σ:Sg}(h:VR σ a b):VR σ (.tuple #[a]) (.tuple #[b]):=(Sn h (Sp σ)).to_tuple
def VR.tup3 {σ:Sg}{c d e f:Av}(h:VR σ a b)(k:VR σ c d)(l:VR σ e f):VR σ (.tuple #[a,c,e]) (.tuple #[b,d,f]):=(Sn h (Sn k (Sn l (Sp σ)))).to_tuple
variable {o:Obj}
def jL {r:Nat}(h:w.heap[r]? =some o)(hc:∀c e f,o≠ .cells c e f):(getObj r).run P w= .ok o w:=by simp only[getObj,Sem.run,h]
def uB {r:Nat}{o':Obj}(h:w.heap[r]? =some o)(hc:∀c e f,o≠ .cells c e f):(setObj r o').run P w= .ok () {w with heap:=w.heap.setIfInBounds r o'}:=by simp only[setObj,Sem.run,h]
theorem HR.setO (h:HR B w0 σ hp w){i:Nat}{b b':Blk}(hg:hp.m.get i=some b){p:Pl}(d:σ i=some p)(hb:BR σ p b' o)(j:bY b=false:=by rfl)(g:bY b'=false:=by rfl)(e:iY b=false:=by rfl)(f:iY b'=false:=by rfl):HR B w0 σ {hp with m:=hp.m.set i (some b')} {w with heap:=w.heap.setIfInBounds p.blk o}:=by obtain⟨p',o',l,_,n,_⟩:=h.live i b hg e;have:p'=p:=PK (l.symm.trans d);subst this;have hlt:=(Pz.1 n).1;refine h.turn hg d ?_ (fun k hk=>?_) (by simp) rfl rfl rfl hb j g e f;simp[hlt];grind
variable {v:Av}{hp':Hp}
theorem Ei {u g:Av}{isS:Bool}(h:vV hp u isS=some (v,hp'))(hi:VR σ u g)(n:HR B w0 σ hp w)(ty:Ax):MOK hp B w0 σ v hp' ((Instr.next g isS ty).run P w):=by
 unfold vV at h;split at h
 ·rename_i i;cases hi with
  |ptr _ _ p l=>
  split at h
  ·rename_i s pos hg;obtain⟨p',o,q,z,t,y,j⟩:=n.live i _ hg;have:=PK (q.symm.trans l);subst this y;have d:=jL (P:=P) t (fun c e f h=>by grind);cases hlt:Nat.blt pos s.data.toList.length with
   |true=>
    rw[hlt,PB]at h;cases h;have hpos:pos<s.size:=by simp_all
    have hset:=uB (P:=P) (o':= .stringIter s (pos+(Utf8.decode s pos).2)) t (fun c e f h=>by grind);refine⟨σ,_,_,?_,RU _ σ,VR.tup3 (.bool true) (.int .i64 pos) (.int .i32 _),n.setO hg q ⟨rfl,j⟩⟩;simp[Instr.next,j,d,hpos,hset,goInt]
   |false=>
    rw[hlt,PC]at h;cases h;have hpos:¬pos<s.size:=by intro hc;rw[show Nat.blt pos s.data.toList.length=true from Ps (by simp;omega)]at hlt;grind
    refine⟨σ,_,w,?_,RU _ σ,VR.tup1 (.bool false),n⟩;simp[Instr.next,j,d,hpos]
  cases h
 cases h
def keyB (d:TypeDesc):Bool:=
 match d with
 | .int _| .string| .bool=>true
 |_=>false
def Q4 (P:Aw)(hp:Hp)(t:Ax)(x k:Av)(ok:Bool):Ag:=
 have _:=P
 none
variable {k k' x x':Av}
def wJ {t:Ax}{ok:Bool}(h:Q4 P hp t x k ok=some v)(hx:VR σ x x')(hk:VR σ k k')(d:HR B w0 σ hp w):∃u,VR σ v u/\(Instr.lookup t x' k' ok).run P w= .ok u w:=by unfold Q4 at h;simp at h
def gW (P:Aw)(hp:Hp)(t:Ax)(m k x:Av):Bb Hp:=
 have _:=P
 none
variable {m m':Av}
def iL {t:Ax}(h:gW P hp t m k x=some hp')(hm:VR σ m m')(hk:VR σ k k')(hx:VR σ x x')(d:HR B w0 σ hp w):∃w',(Instr.mapUpdate t m' k' x').run P w= .ok () w'/\HR B w0 σ hp' w'/\hp'.nx=hp.nx:=by unfold gW at h;simp at h
def bK (P:Aw)(hp:Hp)(t:Ax)(m k:Av):Bb (Av×Hp):=
 have _:=P
 none
def qK {t:Ax}(h:bK P hp t m k=some (v,hp'))(hm:VR σ m m')(hk:VR σ k k')(d:HR B w0 σ hp w):MOK hp B w0 σ v hp' ((Instr.mapEntry t m' k').run P w):=by unfold bK at h;simp at h
def T0 (hp:Hp)(m s x:Av):Bb Hp:=
 none
def mO {t:Ax}{s s':Av}(h:T0 hp m s x=some hp')(hm:VR σ m m')(hs:VR σ s s')(hx:VR σ x x')(d:HR B w0 σ hp w):∃w',(Instr.entryStore t m' s' x').run P w= .ok () w'/\HR B w0 σ hp' w'/\hp'.nx=hp.nx:=by unfold T0 at h;simp at h
def Z4 (hp:Hp)(P:Aw)(t:Ax)(x:Av):Ag:=
 match P.underlying t,x with
 |some (.map _ _),.map (some i)=>match hp.m.get i with
  |some (.map es _)=>some (.int .i64 es.length)|_=>none
 |_,_=>qJ P t x
theorem Eg {t:Ax}(h:Z4 hp P t x=some v)(hx:VR σ x x')(z:HR B w0 σ hp w)(ty:Ax)(ats:Array Ax)(d:ats[0]? =some t):VR σ v v/\(Builtin.len_ ats ty #[x']).run P w= .ok v w:=by
 unfold Z4 at h;split at h
 ·rename_i kt A i y;split at h
  ·rename_i es hg;cases h;cases hx with
   |map _ p l=>
   obtain⟨p',o,q,_,s,n,j,rfl,u,C,D⟩:=z.live i _ hg;have:=PK (q.symm.trans l);subst this;have g:=jL (P:=P) s (fun c e f h=>by grind);refine⟨.int _ _,?_⟩;simp[Builtin.len_,d,PI y,g,goInt,u]
  cases h
 exact⟨(vR h hx ty ats d).1,(vR h hx ty ats d).2 w⟩
end
def qD (f:Av->Av->Bool):Af->Af->Bool
 | [],[]=>true|x::xs,y::ys=>f x y&&qD f xs ys|_,_=>false
def gA {f:Av->Av->Bool}(hf:∀x y,f x y=true->x=y):∀ {xs ys:Af},qD f xs ys=true->xs=ys
 | [],[],_=>rfl|x::xs,y::ys,h=>by simp only[qD,Pk]at h;rw[hf _ _ h.1,gA hf h.2]| [],_::_,h=>by cases h
 |_::_,[],h=>by cases h
def veq :Nat->Av->Av->Bool
 |0,_,_=>false|n+1,x,y=>match x,y with
  | .bool a,.bool b=>a==b| .int j a,.int k b=>decide (j=k)&&decide (a=b)| .string a,.string b=>a.data.toList==b.data.toList| .pointer a,.pointer b=>decide (a=b)| .slice a l c,.slice b l' c'=>decide (a=b)&&Nat.beq l l'&&Nat.beq c c'| .map a,.map b=>decide (a=b)| .nilFunc,.nilFunc=>true| .nilIface,.nilIface=>true| .iface t v,.iface u w=>Nat.beq t u&&veq n v w| .agg a,.agg b=>qD (veq n) a.toList b.toList| .tuple a,.tuple b=>qD (veq n) a.toList b.toList| .func f a c,.func g b d=>decide (f=g)&&qD (veq n) a.toList b.toList&&qD (veq n) c.toList d.toList| .complex f a b,.complex g c d=>decide (f=g)&&Nat.beq a c&&Nat.beq b d| .chan a,.chan b=>decide (a=b)|_,_=>false
theorem LX :∀(n:Nat) (x y:Av),veq n x y=true->x=y:=by
 intro n;induction n with
 |zero=>intro x y h;cases h
 |succ n d=>intro x y h;simp only[veq]at h;split at h;grind;grind;rename_i a b;obtain⟨⟨a⟩⟩:=a;simp_all;grind;simp_all;grind;rfl;rfl;simp only[Pk]at h;rw[Pq h.1,d _ _ h.2];rw[Array.ext' (gA d h)];rw[Array.ext' (gA d h)];simp at h;rw[h.1.1,Array.ext' (gA d h.1.2),Array.ext' (gA d h.2)];simp_all;grind;cases h
section
variable {P :Aw}{B:BS}{w0:Bc}{σ:Sg}{hp:Hp}{w:Bc}
def oO (P:Aw)(hp:Hp)(t:Ax)(x:Av):Bb (Av×Hp):=
 match P.underlying t with
 |some (.slice e)=>match x with
  | .slice none _ _=>some (.tuple #[],hp)| .slice (some _) 0 _=>some (.tuple #[],hp)| .slice (some ⟨i,o,none⟩) (n+1) _=>match dR P e with
   |none=>none|some z=>match hp.m.get i with
    | some (.cells c k e' z') => bif Nat.ble (o + (xrep (n + 1) z.cells.toList).length) k && (xrep (n + 1) z.cells.toList).all Value.oneCell' then
      some (.tuple #[],oS hp i c k e' z' o (xrep (n+1) z.cells.toList))
     else none
    |_=>none
  |_=>none
 |some (.map _ _)=>match x with
  | .map none=>some (.tuple #[],hp)| .map (some i)=>match hp.m.get i with
   |some (.map _ _)=>some (.tuple #[],{hp with m:=hp.m.set i (some (.map [] false))})|_=>none
  |_=>none
 |_=>none
variable {v x x':Av}{hp':Hp}
theorem BP {t:Ax}(h:oO P hp t x=some (v,hp'))(hx:VR σ x x')(j:HR B w0 σ hp w)(ty:Ax):MOK hp B w0 σ v hp' ((Builtin.clear_ #[t] ty #[x']).run P w):=by
 have tup:=VRL.to_tuple (Sp σ);unfold oO at h;split at h
 ·rename_i e ht;split at h;simp only[Pj,Pn]at h;obtain⟨rfl,rfl⟩:=h;cases hx;refine⟨σ,.tuple #[],w,?_,RU _ σ,tup,j⟩;simp[Builtin.clear_,PI ht];simp only[Pj,Pn]at h;obtain⟨rfl,rfl⟩:=h;cases hx<;>exact⟨σ,.tuple #[],w,by simp[Builtin.clear_,PI ht],RU _ σ,tup,j⟩
  ·rename_i i o n c0;split at h;cases h;rename_i z hz;split at h;case h_2=>cases h
   rename_i c k e' L hg;cases hx with
   |slice _ _ p _ _ c' g E G=>
   obtain⟨k1,k2⟩:=j.place hg g;cases hb:Nat.ble (o+(xrep (n+1) z.cells.toList).length) k&&(xrep (n+1) z.cells.toList).all Value.oneCell' with
   |false=>grind|true=>rw[hb,PB,V3]at h;simp only[Pk]at hb;have F:=Pp hb.1;cases h;obtain⟨hc,y⟩:=O8 hz;have hv:=(bP σ hc).cells.xrep (n+1);have q:=hv.all_oneCell hb.2;obtain⟨w',u,hh,_⟩:=j.store (o:=o) hg g hv q (by omega) (by omega) P;have s:(Builtin.zeroCells z.cells (n+1)).toList=xrep (n+1) z.cells.toList:=gJ z.cells (n+1);refine⟨σ,.tuple #[],w',?_,RU _ σ,tup,?_⟩;simp[Builtin.clear_,PI ht,y,s,u];grind
  cases h
 ·rename_i kt H ht;split at h;simp only[Pj,Pn]at h;obtain⟨rfl,rfl⟩:=h;cases hx;refine⟨σ,.tuple #[],w,?_,RU _ σ,tup,j⟩;simp[Builtin.clear_,PI ht]
  ·rename_i i;split at h;case h_2=>cases h
   rename_i es reg hg;cases h;cases hx with
   |map _ p g=>
   obtain⟨p',o,C,_,D,A,d,rfl,I,J,K⟩:=j.live i _ hg;have:=PK (C.symm.trans g);subst this;have l:=jL (P:=P) D (fun c e f h=>by grind);have hset:=uB (P:=P) (o':= .map #[] d) D (fun c e f h=>by grind);refine⟨σ,.tuple #[],_,?_,RU _ σ,tup,j.setO hg C (o:= .map #[] d) ⟨_,_,rfl,rfl,(by grind),fun hr=>by grind⟩⟩;simp[Builtin.clear_,PI ht,l,hset]
  cases h
 cases h
def X2 (P:Aw)(hp:Hp)(t u:Ax)(s x:Av):Bb (Av×Hp):=
 match P.underlying t, P.underlying u with
 |some (.slice e),some (.int _)=>match P.info? e with
  |none=>none|some ie=>match ie.zero with
   |none=>none|some z=>match s,x with
    | .slice (some ⟨i,o,none⟩) sLen sCap,.int _ (.ofNat cnt)=>
     bif cst z&&Nat.beq z.cells.toList.length ie.size&&Nat.ble ie.bytes 1048576&&Nat.ble 1 ie.size&&Nat.ble 1 cnt&&Nat.ble (sLen+cnt) 67108864&&
       (Nat.ble unk sCap&&Nat.ble 1 (E8 sCap)&&Nat.ble (E8 sCap) (sLen+cnt))then
      match hp.m.get i with
      | some (.cells c k _ _) => bif Nat.ble (o + sLen * ie.size) k then
        match v5 c o (sLen*ie.size)with
        |some olds=>some (.slice (some ⟨hp.nx,0,none⟩) (sLen+cnt) (d8 (sLen+cnt) 0),hp.new (olds++xrep cnt z.cells.toList) e ie.size)|none=>none
       else none
      |_=>none
     else none
    |_,_=>none
 |_,_=>none
theorem vI {t u:Ax}{s s':Av}(h:X2 P hp t u s x=some (v,hp'))(hs:VR σ s s')(hx:VR σ x x')(M:HR B w0 σ hp w)(ty:Ax):MOK hp B w0 σ v hp' ((Builtin.append_ #[t,u] ty #[s',x']).run P w):=by
 unfold X2 at h;split at h;case h_2=>cases h
 rename_i e X ht I;split at h;cases h;rename_i ie F;split at h;cases h;rename_i z hz;split at h;case h_2=>cases h
 rename_i i o d l kq cnt;cases hb:cst z&&Nat.beq z.cells.toList.length ie.size&&Nat.ble ie.bytes 1048576&&Nat.ble 1 ie.size&&Nat.ble 1 cnt&&Nat.ble (d+cnt) 67108864&&
       (Nat.ble unk l&&Nat.ble 1 (E8 l)&&Nat.ble (E8 l) (d+cnt))with
 |false=>grind|true=>
 rw[hb,PB]at h;simp only[Pk]at hb;obtain⟨⟨⟨⟨⟨⟨U,Y⟩,C⟩,O⟩,Z⟩,D⟩,⟨Q,R⟩,S⟩:=hb;have T:z.cells.size=ie.size:=by simp_all
 have C:=Pp C;have O:=Pp O;have D:=Pp D;have Q:=Pp Q;have R:=Pp R;have S:=Pp S;split at h;case h_2=>cases h
 rename_i c k e' z' hg;cases n:Nat.ble (o+d*ie.size) k with
 |false=>grind|true=>
 rw[n,PB]at h;have n:=Pp n;split at h;case h_2=>cases h
 rename_i A G;cases h;cases hx;cases hs with
 |slice _ _ p _ _ c' H V W=>
 have hlt:c'<d+cnt:=by grind
 obtain⟨f,K,g,E⟩:=M.cells hg n G H;have hr:=Lib.run_append_grow_zeros w t u ty e ie z kq X ht I F hz (some ⟨p.blk,p.dl+o,none⟩) d c' f
  (run_firstCells_some w.drew ie.size d _ d c' f g (fun j u I=>(gD rfl _).trans (E j u I))) cnt (by omega) (by omega) hlt (by omega)
  (by have:=Nat.mul_le_mul (show cnt<=67108864 by omega) C;omega) (growslice_fits hlt (by have:=Nat.mul_le_mul D C;omega))
 have N:(Builtin.zeroCells z.cells cnt).toList=xrep cnt z.cells.toList:=gJ z.cells cnt;have L:VRL σ (xrep cnt z.cells.toList) (Builtin.zeroCells z.cells cnt).toList:=by rw[N];exact(bP σ U).cells.xrep cnt
 have q:=K.append L;have hge:=grownCap_ge w (d+cnt) c' e;have y:=M.grown q (Builtin.zeroCells z.cells (grownCap w (d+cnt) c' e-(d+cnt))) (fill .e 0 (A++xrep cnt z.cells.toList)) (fun j hj=>C7 _ j hj) e ie.size;have J:(f++(Builtin.zeroCells z.cells cnt).toList).length=(d+cnt)*ie.size:=by rw[PL,g,Array.length_toList,size_zeroCells,T,PY]
 rw[show(f++(Builtin.zeroCells z.cells cnt).toList).toArray=f.toArray++Builtin.zeroCells z.cells cnt by simp]at y;refine⟨_,_,_,hr,M.le_new _,VR.unkSlice σ hp.nx ⟨w.heap.size,0,(f++(Builtin.zeroCells z.cells cnt).toList).length+(Builtin.zeroCells z.cells (grownCap w (d+cnt) c' e-(d+cnt))).size,ie.size⟩ rfl hge ?_,?_⟩;show grownCap w (d+cnt) c' e*ie.size<=(f++(Builtin.zeroCells z.cells cnt).toList).length+_;rw[size_zeroCells,J,T,<-PY];grind;simpa [Hp.new]using y
def Nn (P:Aw)(g:Ay)(t:Ax):Prop:=
 ∃fn r,P.funcs[g]? =some fn/\(fn.name== "runtime.NumGoroutine")=false/\fn.body.isNone=true/\Extern.findNext fn=none/\Extern.find fn=some (Extern.SlicesOverlaps.overlaps #[t,t] #[r])
def El (P:Aw)(hp:Hp)(t:Ax)(args:Af):Bb (Av×Hp):=
 match P.underlying t with
 |some (.slice e)=>match P.info? e with
  |some _=>match args with
   | [.slice (some ⟨i, _, none⟩) _ _, .slice (some ⟨j, _, none⟩) _ _] => bif Nat.beq i j then none else
     match hp.m.get i,hp.m.get j with
     |some (.cells _ _ _ _),some (.cells _ k _ _)=>bif Nat.ble 1 k then some (.bool false,hp)else none|_,_=>none
   |_=>none
  |none=>none
 |_=>none
def iK :Ax:=4294967295
def isT :Bb Ax->Bool
 |some t=>Nat.beq t iK|none=>false
def Ey (P:Aw)(g:Ay):Prop:=∀w,Calls P g #[] w fun e w'=>e= .returned (.bool true)/\Below w.heap.size w w'
def iQ (P:Aw)(g:Ay)(t:Ax):Prop:=(t=iK/\Ey P g)\/(t≠iK/\Nn P g t)
def HR.below (h:HR B w0 σ hp w){w':Bc}(k:Below w.heap.size w w'):HR B w0 σ hp w':=by refine⟨k.os.trans h.os,k.tape.trans h.tape,k.output.trans h.output,Qt h.size k.size,h.old,fun i hi=>?_,h.frs,fun i b r hg hx=>?_,h.ij,h.rz⟩;rw[k.block i (Qp (h.old i hi) h.size)];exact h.kept i hi;obtain⟨p,o,e,f,d,g⟩:=h.liv i b r hg hx;exact⟨p,o,e,f,by rw[k.block p.blk (Pz.1 d).1];exact d,g⟩
theorem Em {g:Ay}{t:Ax}(ho:Nn P g t){args args':Af}(h:El P hp t args=some (v,hp'))(U:VRL σ args args')(K:HR B w0 σ hp w):hp'=hp/\ ∃u,VR σ v u/\(callFunc g args'.toArray).run P w= .ok (.value u) w:=by
 unfold El at h;split at h;case h_2=>cases h
 rename_i e ht;split at h;case h_2=>cases h
 rename_i ie H;split at h;case h_2=>cases h
 rename_i i o1 l1 c1 j o2 l2 c2;cases d:Nat.beq i j with
 |true=>grind|false=>
 rw[d,PC]at h;have n:i≠j:=fun e=>by rw[e,w9 rfl]at d;cases d
 split at h;case h_2=>cases h
 rename_i ci ki L zi cj kj M zj f l;cases hk:Nat.ble 1 kj with
 |false=>grind|true=>
 rw[hk,PB]at h;have hk:=Pp hk;cases h;obtain⟨a1,r,rfl,F,hr⟩:=U.uncons;obtain⟨a2,r,rfl,G,hr⟩:=hr.uncons;rw[hr.unnil]at*;cases F with
 |slice _ _ p _ _ z s W Y=>
 cases G with
 |slice _ _ q _ _ A y X Z=>
 obtain⟨fn,rt,N,O,Q,R,S⟩:=ho;have I:=K.inj i j _ _ p q f l n s y;refine⟨rfl,.bool false,.bool false,?_⟩;obtain⟨p',C,T,g2,g3,E,g5,g6,g7⟩:=K.liveC f;have:=PK (T.symm.trans s);subst this;obtain⟨q',D,m1,m2,m3,m4,m5,m6,m7⟩:=K.liveC l;have:=PK (m1.symm.trans y);subst this;have J:∀w,(Go.sizeOf e).run P w= .ok ie.size w:=fun w=>by simp[sizeOf,typeInfo,H]
 rw[run_callFunc_extern N O Q R S];have V:=Lib.run_overlaps_apart w t rt e ht ie.size J ⟨p'.blk,p'.dl+o1,none⟩ ⟨q'.blk,q'.dl+o2,none⟩ l1 z l2 A I L M C.size D.size
  (by simp[World.shape?,E]) (by simp[World.shape?,m4]) (by omega) (by simp[World.frozen?,E]) (by simp[World.frozen?,E])
 simp_all
end
def aK (tm:Ao):List (Nat×Az)->Bb (List (Nat×Av))
 | []=>some []| (i,x)::xs=>match i5 tm x with
  |some v=>match aK tm xs with
   |some vs=>some ((i,v)::vs)|none=>none
  |none=>none
theorem jZ {σ:Sg}{tm:Ao}{a:Act}:∀ {xs:List (Nat×Az)} {vs:List (Nat×Av)},(∀p∈xs,∀v,i5 tm p.2=some v->VR σ v (a.eval p.2))->aK tm xs=some vs->PVR σ vs (xs.map fun p=>(p.1,a.eval p.2))
 | [],vs,_,hx=>by simp[aK]at hx;subst hx;exact⟨rfl,fun i x y h _=>by grind⟩| (i,x)::xs,vs,h,hx=>by
  simp only[aK]at hx;cases hv:i5 tm x with
  |none=>grind|some v=>
   cases hr:aK tm xs with
   |none=>grind|some r=>
    simp[hv,hr]at hx;subst hx;have d:=jZ (fun p hp=>h p (by grind)) hr;refine⟨by simp[d.1],fun j p q hp hq=>?_⟩;cases j with
    |zero=>grind|succ j=>exact d.2 j p q hp hq
def hU (tm:Ao):Bb Az->Bb (Ag)
 |none=>some none|some x=>match i5 tm x with
  |some v=>some (some v)|none=>none
theorem mS {σ:Sg}{tm:Ao}{a:Act}{x:Bb Az}(h:∀y,x=some y-> ∀v,i5 tm y=some v->VR σ v (a.eval y)){v:Ag}(hx:hU tm x=some v):OVR σ v (x.map a.eval):=by
 cases x with
 |none=>simp only[hU,Pj]at hx;subst hx;exact trivial|some x=>
  simp only[hU]at hx;cases hv:i5 tm x with
  |none=>grind|some u=>simp only[hv,Pj]at hx;subst hx;exact h x rfl _ hv
theorem rG {σ:Sg}{tm:Ao}{a:Act}:∀ {xs:List Az} {vs:Af},(∀x∈xs,∀v,i5 tm x=some v->VR σ v (a.eval x))->hM tm xs=some vs->VRL σ vs (xs.map a.eval)
 | [],vs,_,hx=>by simp[hM]at hx;subst hx;exact Sp σ|x::xs,vs,h,hx=>by
  simp only[hM]at hx;cases hv:i5 tm x with
  |none=>grind|some v=>
   cases hr:hM tm xs with
   |none=>grind|some r=>simp[hv,hr]at hx;subst hx;exact Sn (h x (by simp) _ hv) (rG (fun y hy=>h y (by grind)) hr)
def j3 (hp:Hp):Ag->Bb (Av×Hp)
 |some v=>some (v,hp)|none=>none
theorem j6 {hp hp':Hp}{x:Ag}{v:Av}(h:j3 hp x=some (v,hp')):x=some v/\hp'=hp:=by
 cases x with
 |none=>cases h
 |some u=>simp only[j3,Pj,Pn]at h;exact⟨by grind,h.2.symm⟩
structure j8 where
 run:Ay->Af->Hp->Bb (Av×Hp)
 ov:Aa
 round:Nat->Af->Hp->Bb (Av×Hp)
def AF (fn:Func):Bool:=fn.body.isSome&& !(fn.name== "runtime.NumGoroutine")
def C3 (P:Aw)(hp:Hp)(b:Builtin)(ats:List Ax)(args:Af):Bb (Av×Hp):=
 match b,ats,args with
 | .append,[t,u],[s,x]=>match D5 P hp t u s x with
  |some r=>some r|none=>X2 P hp t u s x
 | .clear,[t],[x]=>oO P hp t x| .copy,[t,_],[d,x]=>yU P hp t d x| .len,[t],[x]=>j3 hp (Z4 hp P t x)| .cap,[t],[x]=>j3 hp (mM P t x)| .min,_,x::xs=>j3 hp (dP false x xs)| .max,_,x::xs=>j3 hp (dP true x xs)|_,_,_=>none
def vK (P:Aw)(call:j8)(hp:Hp)(f:Av)(args:Af):Bb (Av×Hp):=
 match f with
 | .func (.func g) first captured=>match P.funcs[g]? with
  | some fn => bif AF fn then call.run g (first.toList ++ args ++ captured.toList) hp else
    match call.ov g with
    |some t=>bif Nat.beq t iK then none else El P hp t (first.toList++args++captured.toList)|none=>none
  |none=>none
 | .chan (some i)=>call.round i args hp|_=>none
def xnw (P:Aw)(tm:Ao)(o:Op):Bb Nw:=
 match o with
 | .alloc e=>bif Nat.beq e rgT then none else mL P e| .box e x=>bif Nat.beq e rgT then none else match i5 tm x with
  |some v=>some (DZ e v)|none=>none
 | .buildSlice t len parts=>match aK tm parts.toList with
  |some ps=>IU P t len ps|none=>none
 | .makeSlice t l c=>match i5 tm l with
  |some v=>match i5 tm c with
   |some u=>Je P t v u|none=>none
  |none=>none
 | .makeMap t r=>match hU tm r with
  |some v=>match P.underlying t with
   |some (.map _ _)=>HL v|_=>none
  |none=>none
 | .range t x=>match i5 tm x with
  |some v=>mT P t v|none=>none
 |_=>none
def Q8 (hp:Hp):Bb Nw->Bb (Av×Hp)
 |some n=>some (hp.add n)|none=>none
def tF (P:Aw)(tm:Ao)(hp:Hp)(e:Ax):Bb (Av×Hp):=
 bif Nat.beq e rgT then match dR P e with
  |some z=>vU hp z.cells.toList|none=>none
 else Q8 hp (xnw P tm (.alloc e))
def KA (P:Aw)(tm:Ao)(hp:Hp)(e:Ax)(x:Az):Bb (Av×Hp):=
 bif Nat.beq e rgT then match i5 tm x with
  |some v=>vU hp v.cells.toList|none=>none
 else Q8 hp (xnw P tm (.box e x))
def oPick (tm:Ao)(hp:Hp)(c:Az)(a:Az)(b:Az):Bb (Av×Hp):=
 match i5 tm c with
  |some (.bool t)=>bif t then j3 hp (i5 tm a)else j3 hp (i5 tm b)|_=>none
def oNext (tm:Ao)(hp:Hp)(it:Az)(isS:Bool):Bb (Av×Hp):=
 match i5 tm it with
  |some v=>vV hp v isS|none=>none
def ME (P:Aw)(tm:Ao)(hp:Hp)(t:Ax)(x:Az)(k:Az)(ok:Bool):Bb (Av×Hp):=
 match i5 tm x with
  |some v=>match i5 tm k with
   |some u=>j3 hp (Q4 P hp t v u ok)|none=>none
  |none=>none
def tI (P:Aw)(tm:Ao)(hp:Hp)(t:Ax)(m:Az)(k:Az)(x:Az):Bb (Av×Hp):=
 match i5 tm m with
  |some mv=>match i5 tm k with
   |some kv=>match i5 tm x with
    |some xv=>match gW P hp t mv kv xv with
     |some hp'=>some (undef,hp')|none=>none
    |none=>none
   |none=>none
  |none=>none
def Il (P:Aw)(tm:Ao)(hp:Hp)(t:Ax)(m:Az)(k:Az):Bb (Av×Hp):=
 match i5 tm m with
  |some mv=>match i5 tm k with
   |some kv=>bK P hp t mv kv|none=>none
  |none=>none
def CU (tm:Ao)(hp:Hp)(m:Az)(s:Az)(x:Az):Bb (Av×Hp):=
 match i5 tm m with
  |some mv=>match i5 tm s with
   |some sv=>match i5 tm x with
    |some xv=>match T0 hp mv sv xv with
     |some hp'=>some (undef,hp')|none=>none
    |none=>none
   |none=>none
  |none=>none
def OF (P:Aw)(tm:Ao)(hp:Hp)(t:Ax)(parts:Array (Nat×Az)):Bb (Av×Hp):=
 match aK tm parts.toList with
  |some ps=>j3 hp (jV P t ps)|none=>none
def oLoad (P:Aw)(tm:Ao)(hp:Hp)(t:Ax)(a:Az):Bb (Av×Hp):=
 match i5 tm a with
  |some v=>j3 hp (J5 P hp t v)|none=>none
def OJ (P:Aw)(tm:Ao)(hp:Hp)(t:Ax)(a:Az)(x:Az):Bb (Av×Hp):=
 match i5 tm a with
  |some v=>match i5 tm x with
   |some u=>match T8 P hp t v u with
    |some hp'=>some (undef,hp')|none=>none
   |none=>none
  |none=>none
def Im (tm:Ao)(hp:Hp)(x:Az):Bb (Av×Hp):=
 match i5 tm x with
  |some (.pointer (some p))=>some (.pointer (some p),hp)|some (.func (.func f) a b)=>some (.func (.func f) a b,hp)|_=>none
def OE (P:Aw)(tm:Ao)(hp:Hp)(op:BinOp)(t:Ax)(x:Az)(y:Az):Bb (Av×Hp):=
 match i5 tm x with
  |some v=>match i5 tm y with
   |some u=>j3 hp (K5 P op t v u)|none=>none
  |none=>none
def oUnOp (tm:Ao)(hp:Hp)(op:UnOp)(x:Az):Bb (Av×Hp):=
 match i5 tm x with
  |some v=>j3 hp (xun op v)|none=>none
def KB (P:Aw)(tm:Ao)(hp:Hp)(s:Ax)(d:Ax)(x:Az):Bb (Av×Hp):=
 match i5 tm x with
  |some v=>j3 hp (fW P s d v)|none=>none
def tH (P:Aw)(tm:Ao)(hp:Hp)(t:Ax)(x:Az):Bb (Av×Hp):=
 match i5 tm x with
  |some v=>j3 hp (jY P t v)|none=>none
def Ik (tm:Ao)(hp:Hp)(fn:Fn)(first:Array Az)(captured:Array Az):Bb (Av×Hp):=
 match hM tm first.toList with
  |some fs=>match hM tm captured.toList with
   |some cs=>some (.func fn fs.toArray cs.toArray,hp)|none=>none
  |none=>none
def OI (P:Aw)(tm:Ao)(hp:Hp)(t:Ax)(x:Az)(lo:Bb Az)(hi:Bb Az)(mx:Bb Az):Bb (Av×Hp):=
 match i5 tm x with
  |some v=>match hU tm lo with
   |some l=>match hU tm hi with
    |some h=>match hU tm mx with
     |some m=>v8 P hp t v l h m|none=>none
    |none=>none
   |none=>none
  |none=>none
def Fo (P:Aw)(tm:Ao)(hp:Hp)(t:Ax)(x:Az)(f:Nat):Bb (Av×Hp):=
 match i5 tm x with
  |some v=>j3 hp (O0 P t v f)|none=>none
def OG (P:Aw)(tm:Ao)(hp:Hp)(t:Ax)(x:Az)(f:Nat):Bb (Av×Hp):=
 match i5 tm x with
  |some v=>j3 hp (jX P t v f)|none=>none
def Fp (P:Aw)(tm:Ao)(hp:Hp)(t:Ax)(x:Az)(i:Az):Bb (Av×Hp):=
 match i5 tm x with
  |some v=>match i5 tm i with
   |some u=>j3 hp (E5 P t v u)|none=>none
  |none=>none
def OH (P:Aw)(tm:Ao)(hp:Hp)(t:Ax)(x:Az)(i:Az):Bb (Av×Hp):=
 match i5 tm x with
  |some v=>match i5 tm i with
   |some u=>j3 hp (fY P t v u)|none=>none
  |none=>none
def KC (tm:Ao)(hp:Hp)(x:Az)(i:Nat):Bb (Av×Hp):=
 match i5 tm x with
  |some v=>j3 hp (X5 v i)|none=>none
def oCall (P:Aw)(call:j8)(tm:Ao)(hp:Hp)(c:Call):Bb (Av×Hp):=
 match hM tm c.args.toList with
  |some args=>match c.callee with
   | .builtin b=>C3 P hp b c.argTypes.toList args| .value f=>match i5 tm f with
    |some v=>vK P call hp v args|none=>none
   |_=>none
  |none=>none
def xop (P:Aw)(call:j8)(tm:Ao)(hp:Hp)(o:Op):Bb (Av×Hp):=
 Op.rec (motive:=fun _=>Aw->j8->Ao->Hp->Bb (Av×Hp))
  (fun x _ _ tm hp=>j3 hp (i5 tm x))
  (fun x _ _ tm hp=>j3 hp (i5 tm x))
  (fun c a b _ _ tm hp=>oPick tm hp c a b)
  (fun e P _ tm hp=>tF P tm hp e)
  (fun e x P _ tm hp=>KA P tm hp e x)
  (fun t parts P _ tm hp=>OF P tm hp t parts)
  (fun t len parts P _ tm hp=>Q8 hp (xnw P tm (.buildSlice t len parts)))
  (fun t m k x P _ tm hp=>tI P tm hp t m k x)
  (fun t a P _ tm hp=>oLoad P tm hp t a)
  (fun t a x P _ tm hp=>OJ P tm hp t a x)
  (fun _ _ _ _ _=>none)
  (fun _ _ _ _ _=>none)
  (fun x _ _ tm hp=>Im tm hp x)
  (fun op t x y _ P _ tm hp=>OE P tm hp op t x y)
  (fun op _ x _ _ tm hp=>oUnOp tm hp op x)
  (fun s d x P _ tm hp=>KB P tm hp s d x)
  (fun _ _ _ _ _ _=>none)
  (fun t x P _ tm hp=>tH P tm hp t x)
  (fun fn first captured _ _ tm hp=>Ik tm hp fn first captured)
  (fun t r P _ tm hp=>Q8 hp (xnw P tm (.makeMap t r)))
  (fun _ _ _ _ _ _=>none)
  (fun t l c P _ tm hp=>Q8 hp (xnw P tm (.makeSlice t l c)))
  (fun t x lo hi mx P _ tm hp=>OI P tm hp t x lo hi mx)
  (fun t x f P _ tm hp=>Fo P tm hp t x f)
  (fun t x f P _ tm hp=>OG P tm hp t x f)
  (fun t x i P _ tm hp=>Fp P tm hp t x i)
  (fun t x i P _ tm hp=>OH P tm hp t x i)
  (fun t x k ok P _ tm hp=>ME P tm hp t x k ok)
  (fun t m k x P _ tm hp=>tI P tm hp t m k x)
  (fun t m k P _ tm hp=>Il P tm hp t m k)
  (fun _ m s x _ _ tm hp=>CU tm hp m s x)
  (fun t x P _ tm hp=>Q8 hp (xnw P tm (.range t x)))
  (fun it isS _ _ tm hp=>oNext tm hp it isS)
  (fun _ _ _ _ _=>none)
  (fun _ _ _ _ _ _ _ _=>none)
  (fun x i _ _ tm hp=>KC tm hp x i)
  (fun c P call tm hp=>oCall P call tm hp c)
  (fun _ _ _ _ _=>none)
  (fun _ _ _ _ _=>none)
  (fun _ _ _ _ _=>none)
  (fun _ _ _ _ _ _=>none)
  (fun _ _ _ _ _ _ _=>none)
  (fun _ _ _ _ _ _=>none)
  o P call tm hp
def m8 (P:Aw)(call:j8)(tm:Ao)(hp:Hp)(o:Op):Bb (Av×Hp):=
 match o with
 | .move x=>j3 hp (i5 tm x)| .assign x=>j3 hp (i5 tm x)| .pick c a b=>match i5 tm c with
  |some (.bool t)=>bif t then j3 hp (i5 tm a)else j3 hp (i5 tm b)|_=>none
 | .alloc e=>tF P tm hp e| .box e x=>KA P tm hp e x| .makeMap t r=>Q8 hp (xnw P tm (.makeMap t r))| .range t x=>Q8 hp (xnw P tm (.range t x))| .next it isS=>match i5 tm it with
  |some v=>vV hp v isS|none=>none
 | .lookup t x k ok=>match i5 tm x with
  |some v=>match i5 tm k with
   |some u=>j3 hp (Q4 P hp t v u ok)|none=>none
  |none=>none
 | .mapEntry t m k=>match i5 tm m with
  |some mv=>match i5 tm k with
   |some kv=>bK P hp t mv kv|none=>none
  |none=>none
 | .entryStore _ m s x=>match i5 tm m with
  |some mv=>match i5 tm s with
   |some sv=>match i5 tm x with
    |some xv=>match T0 hp mv sv xv with
     |some hp'=>some (undef,hp')|none=>none
    |none=>none
   |none=>none
  |none=>none
 | .mapUpdate t m k x=>match i5 tm m with
  |some mv=>match i5 tm k with
   |some kv=>match i5 tm x with
    |some xv=>match gW P hp t mv kv xv with
     |some hp'=>some (undef,hp')|none=>none
    |none=>none
   |none=>none
  |none=>none
 | .insert t m k x=>match i5 tm m with
  |some mv=>match i5 tm k with
   |some kv=>match i5 tm x with
    |some xv=>match gW P hp t mv kv xv with
     |some hp'=>some (undef,hp')|none=>none
    |none=>none
   |none=>none
  |none=>none
 | .build t parts=>match aK tm parts.toList with
  |some ps=>j3 hp (jV P t ps)|none=>none
 | .buildSlice t len parts=>Q8 hp (xnw P tm (.buildSlice t len parts))| .load t a=>match i5 tm a with
  |some v=>j3 hp (J5 P hp t v)|none=>none
 | .store t a x=>match i5 tm a with
  |some v=>match i5 tm x with
   |some u=>match T8 P hp t v u with
    |some hp'=>some (undef,hp')|none=>none
   |none=>none
  |none=>none
 | .nilCheck x=>match i5 tm x with
  |some (.pointer (some p))=>some (.pointer (some p),hp)|some (.func (.func f) a b)=>some (.func (.func f) a b,hp)|_=>none
 | .binOp op t x y _=>match i5 tm x with
  |some v=>match i5 tm y with
   |some u=>j3 hp (K5 P op t v u)|none=>none
  |none=>none
 | .unOp op _ x=>match i5 tm x with
  |some v=>j3 hp (xun op v)|none=>none
 | .convert s d x=>match i5 tm x with
  |some v=>j3 hp (fW P s d v)|none=>none
 | .makeInterface t x=>match i5 tm x with
  |some v=>j3 hp (jY P t v)|none=>none
 | .makeFunc fn first captured=>match hM tm first.toList with
  |some fs=>match hM tm captured.toList with
   |some cs=>some (.func fn fs.toArray cs.toArray,hp)|none=>none
  |none=>none
 | .makeSlice t l c=>Q8 hp (xnw P tm (.makeSlice t l c))| .slice t x lo hi mx=>match i5 tm x with
  |some v=>match hU tm lo with
   |some l=>match hU tm hi with
    |some h=>match hU tm mx with
     |some m=>v8 P hp t v l h m|none=>none
    |none=>none
   |none=>none
  |none=>none
 | .fieldAddr t x f=>match i5 tm x with
  |some v=>j3 hp (O0 P t v f)|none=>none
 | .field t x f=>match i5 tm x with
  |some v=>j3 hp (jX P t v f)|none=>none
 | .indexAddr t x i=>match i5 tm x with
  |some v=>match i5 tm i with
   |some u=>j3 hp (E5 P t v u)|none=>none
  |none=>none
 | .index t x i=>match i5 tm x with
  |some v=>match i5 tm i with
   |some u=>j3 hp (fY P t v u)|none=>none
  |none=>none
 | .extract x i=>match i5 tm x with
  |some v=>j3 hp (X5 v i)|none=>none
 | .call c=>match hM tm c.args.toList with
  |some args=>match c.callee with
   | .builtin b=>C3 P hp b c.argTypes.toList args| .value f=>match i5 tm f with
    |some v=>vK P call hp v args|none=>none
   |_=>none
  |none=>none
 |_=>none
def c8 (P:Aw)(call:j8)(tm:Ao)(hp:Hp)(o:Op):xop P call tm hp o=m8 P call tm hp o:=by cases o<;>rfl
def RF (r:Ai):Fence:= {Fence.wide with round:=r}
def j2 {P:Aw}{r:Ai}{o:Oper}{a:Act}{w:Bc}{next:Act->Bc->Prop}{Q:Exit->Act->Bc->Prop}(e:∀c,o.op≠ .defer c)(h:o.wp P a w next Q):o.wpIn (RF r) 0 P a w next Q:=by
 have d:(RF r).depth.isSome=true->1<=0:=fun h=>by cases h
 refine⟨fun _ _=>trivial,?_⟩;rw[Oper.semAt_eq _ _ _ e];unfold Oper.wp at h;generalize (execOp a.eval o).run P w=x at h;cases x with
 |ok n w'=>
  cases n<;>simp only[Oper.upon]at h<;>first
   |exact h
   |exact⟨d,(callsIn_wide.2 h)⟩
   |exact⟨d,fun c cs _=>let⟨v,w',r,s⟩:=h c cs;⟨v,w',r,(stepsIn_wide.2 s)⟩⟩
 |halt x w'=>cases x<;>exact h
structure O9 (P:Aw)(call:j8):Prop where
 run:∀g args hp v hp',call.run g args hp=some (v,hp')-> ∀B w0 σ w args',VRL σ args args'->HR B w0 σ hp w->
  Calls P g args'.toArray w (fun e w'=>∃σ' u,e= .returned u/\Sg.gr hp.nx hp'.nx σ σ'/\VR σ' v u/\HR B w0 σ' hp' w')
 ov:∀g t,call.ov g=some t->iQ P g t
 round:∀i args hp v hp',call.round i args hp=some (v,hp')-> ∀B w0 σ w args' p,σ i=some p->VRL σ args args'->HR B w0 σ hp w->
  ∃r,w.heap[p.blk]? =some (.loop r)/\args'.length=r.params.size/\
   RoundIn Fence.wide 0 P p.blk r.fn ((r.params.zip args'.toArray).foldl (fun tmps (t,a)=>tmps.setIfInBounds t a) r.tmps) r.assign r.body w (fun e w'=>∃σ' u,e= .returned u/\Sg.gr hp.nx hp'.nx σ σ'/\VR σ' v u/\HR B w0 σ' hp' w')
section
variable {P :Aw}{B:BS}{w0:Bc}{σ:Sg}{hp:Hp}{w:Bc}
variable {v:Av}
def MOK.of_pure {u:Av}{s:Sem Av}(h1:VR σ v u)(h2:∀w,s.run P w= .ok u w)(d:HR B w0 σ hp w):MOK hp B w0 σ v hp (s.run P w):=
 ⟨σ,u,w,h2 w,RU _ σ,h1,d⟩
theorem vJ {b:Builtin}{ats:Array Ax}{args:Af}{args':Af}{hp':Hp}(h:C3 P hp b ats.toList args=some (v,hp'))(j:VRL σ args args')(i:HR B w0 σ hp w)(ty:Ax)(cs:Array Bool):∃σ' u w',(builtin b ats ty cs args'.toArray).run P w= .ok (.value u) w'/\Sg.gr hp.nx hp'.nx σ σ'/\VR σ' v u/\HR B w0 σ' hp' w':=by
 have e:∀ {s:Sem Av},MOK hp B w0 σ v hp' (s.run P w)->builtin b ats ty cs args'.toArray=(do pure (.value (<-s)):Sem Next)->
   ∃σ' u w',(builtin b ats ty cs args'.toArray).run P w= .ok (.value u) w'/\Sg.gr hp.nx hp'.nx σ σ'/\VR σ' v u/\HR B w0 σ' hp' w':=by
  intro s hm he;obtain⟨σ',u,w',h1,h2,h3,h4⟩:=hm;refine⟨σ',u,w',?_,h2,h3,h4⟩;simp_all
 unfold C3 at h;split at h
 ·rename_i t u s x g;obtain⟨s',r,rfl,hs,hr⟩:=j.uncons;obtain⟨x',r,rfl,hx,hr⟩:=hr.uncons;have:ats= #[t,u]:=by grind
  subst this;split at h;rename_i r l;cases h;exact e (wI l hs hx i ty) rfl;exact e (vI h hs hx i ty) rfl
 ·rename_i t x g;obtain⟨x',r,rfl,hx,hr⟩:=j.uncons;have:ats= #[t]:=by grind
  subst this;exact e (BP h hx i ty) rfl
 ·rename_i t u d x g;obtain⟨s',r,rfl,hs,hr⟩:=j.uncons;obtain⟨x',r,rfl,hx,hr⟩:=hr.uncons;have:ats= #[t,u]:=by grind
  subst this;exact e (Ee h hs hx i ty) rfl
 ·rename_i t x g;obtain⟨x',r,rfl,hx,hr⟩:=j.uncons;obtain⟨f,rfl⟩:=j6 h;have:ats= #[t]:=by grind
  subst this;obtain⟨h1,h2⟩:=Eg f hx i ty #[t] rfl;exact e ⟨σ,_,w,h2,RU _ σ,h1,i⟩ rfl
 ·rename_i t x g;obtain⟨x',r,rfl,hx,hr⟩:=j.uncons;obtain⟨f,rfl⟩:=j6 h;have:ats= #[t]:=by grind
  subst this;obtain⟨n,h1,h2⟩:=Gr f hx ty #[t] rfl;exact e (MOK.of_pure h1 h2 i) rfl
 rename_i x xs;obtain⟨x',r,rfl,hx,hr⟩:=j.uncons;obtain⟨f,rfl⟩:=j6 h;obtain⟨h1,h2⟩:=vT f hx hr;exact e (MOK.of_pure h1 h2 i) rfl;rename_i x xs;obtain⟨x',r,rfl,hx,hr⟩:=j.uncons;obtain⟨f,rfl⟩:=j6 h;obtain⟨h1,h2⟩:=vS f hx hr;exact e (MOK.of_pure h1 h2 i) rfl;cases h
theorem lV {g:Ay}{fn:Func}{args:Al}(hf:P.funcs[g]? =some fn)(d:AF fn=true)(w:Bc):(callFunc g args).run P w= .ok (.enter g args) w:=by
 simp only[AF,Pk,Qi]at d;have hb:fn.body.isNone=false:=by simp_all
 simp only[callFunc,PN,Ri,PJ,hf,d.2,hb,QG,if_false,PU]
variable {tm:Ao}
set_option maxHeartbeats 2000000 in
theorem yW {o:Oper}{n:Nw}(h:xnw P tm o.op=some n){a:Act}(ht:∀x∈o.op.operands,∀v,i5 tm x=some v->VR σ v (a.eval x)):∃s:Sem Av,execOp a.eval o=(do pure (.value (<-s)):Sem Next)/\kJ P σ n s:=by
 obtain⟨dst,op,type,pos,after,guard⟩:=o;cases op;case alloc e=>
  simp only[xnw]at h;cases hb:Nat.beq e rgT with
  |true=>rw[hb]at h;cases h
  |false=>rw[hb]at h;exact⟨_,rfl,wH h⟩
 case box e x=>
  simp only[xnw]at h;cases hb:Nat.beq e rgT with
  |true=>rw[hb]at h;cases h
  |false=>
  rw[hb,PC]at h;split at h;rename_i v hv;simp only[Pj]at h;subst h;exact⟨_,rfl,Ea (ht x (by simp[Op.operands]) _ hv)⟩;cases h
 case buildSlice t len parts=>simp only[xnw]at h;split at h;rename_i ps d;have hp1:=jZ (σ:=σ) (a:=a) (fun p hp=>ht p.2 (by simp only[Op.operands,List.mem_toArray];exact QQ.2 ⟨p,hp,rfl⟩)) d;exact⟨_,rfl,Gq (ys:=parts.map fun(i,x)=>(i,a.eval x)) h (by simpa using hp1)⟩;cases h
 case makeSlice t l c=>simp only[xnw]at h;split at h;rename_i lv hl;split at h;rename_i j hc;exact⟨_,rfl,Gt h (ht l (by simp[Op.operands]) _ hl) (ht c (by simp[Op.operands]) _ hc)⟩;cases h;cases h
 case makeMap t r=>simp only[xnw]at h;split at h;rename_i rv hr;split at h;rename_i kt q g;have f:=mS (σ:=σ) (a:=a) (fun y hy=>ht y (by subst hy;simp[Op.operands])) hr;refine⟨_,rfl,Eh h ?_ (by rw[g];exact trivial)⟩;unfold OVR at f;cases rv<;>cases r<;>simp_all;cases h;cases h
 case range t x=>simp only[xnw]at h;split at h;rename_i u hx;exact⟨_,rfl,wK h (ht x (by simp[Op.operands]) _ hx)⟩;cases h
 all_goals (simp only[xnw,reduceCtorEq]at h)
set_option maxHeartbeats 2000000 in
def gX {call:j8}(H:O9 P call){o:Oper}{hp':Hp}(h:xop P call tm hp o.op=some (v,hp')){a:Act}(ht:∀x∈o.op.operands,∀v,i5 tm x=some v->VR σ v (a.eval x))(A:HR B w0 σ hp w)(next:Act->Bc->Prop)(Q:Exit->Act->Bc->Prop)(hn:∀σ' u w',Sg.gr hp.nx hp'.nx σ σ'->VR σ' v u->HR B w0 σ' hp' w'->next (a.put o.dst u) w')(r:Ai):o.wpIn (RF r) 0 P a w next Q:=by
 have val:∀ {s:Sem Av},MOK hp B w0 σ v hp' (s.run P w)->execOp a.eval o=(do pure (.value (<-s)):Sem Next)->o.wp P a w next Q:=by intro s hm he;obtain⟨σ',u,w',h1,h2,h3,h4⟩:=hm;unfold Oper.wp;rw[he];simp only[PN,h1,PJ,PU,Rg];exact hn σ' u w' h2 h3 h4
 have F:∀ {s:Sem Av} {x:Ag},j3 hp x=some (v,hp')->(x=some v-> ∃u,VR σ v u/\ ∀w,s.run P w= .ok u w)->
   execOp a.eval o=(do pure (.value (<-s)):Sem Next)->o.wp P a w next Q:=by
  intro s x hx hs he;obtain⟨E,rfl⟩:=j6 hx;obtain⟨u,h1,h2⟩:=hs E;exact val (MOK.of_pure h1 h2 A) he
 have J:∀(q:Op),Q8 hp (xnw P tm q)=some (v,hp')->o.op=q->o.wp P a w next Q:=by
  intro q hx hq;cases W:xnw P tm q with
  |none=>rw[W]at hx;cases hx
  |some n=>rw[W]at hx;simp only[Q8,Pj]at hx;obtain⟨s,h1,h2⟩:=yW (P:=P) (σ:=σ) (o:=o) (by rw[hq];exact W) ht;have hm:=h2.mok A;rw[hx]at hm;exact val hm h1
 obtain⟨dst,op,type,pos,after,guard⟩:=o;cases op;case move x=>refine j2 (fun _ h=>by cases h) ?_;simp only[c8,m8]at h;obtain⟨E,rfl⟩:=j6 h;exact hn σ _ w (RU _ σ) (ht _ (by simp[Op.operands]) _ E) A
 case assign x=>refine j2 (fun _ h=>by cases h) ?_;simp only[c8,m8]at h;obtain⟨E,rfl⟩:=j6 h;exact hn σ _ w (RU _ σ) (ht _ (by simp[Op.operands]) _ E) A
 case pick c x y=>
  refine j2 (fun _ h=>by cases h) ?_;simp only[c8,m8]at h;split at h
  ·rename_i t hc;have Z:=ht _ (by simp[Op.operands]) _ hc;generalize Y:a.eval c=cv at Z;cases Z;cases t with
   |true=>rw[PB]at h;obtain⟨E,rfl⟩:=j6 h;unfold Oper.wp;simp only[execOp,Y,asBool,PN,PU,PJ,QY,Rg];exact hn σ _ w (RU _ σ) (ht _ (by simp[Op.operands]) _ E) A
   |false=>rw[PC]at h;obtain⟨E,rfl⟩:=j6 h;unfold Oper.wp;simp only[execOp,Y,asBool,PN,PU,PJ,QG,if_false,Rg];exact hn σ _ w (RU _ σ) (ht _ (by simp[Op.operands]) _ E) A
  cases h
 case alloc e=>
  refine j2 (fun _ h=>by cases h) ?_;simp only[c8,m8,tF]at h;cases hb:Nat.beq e rgT with
  |false=>rw[hb]at h;exact J (.alloc e) h rfl|true=>rw[hb,PB]at h;have:=Pq hb;subst this;split at h;rename_i z hz;obtain⟨hc,hr⟩:=O8 hz;obtain⟨σ',h1,h2,h3⟩:=pW (us:=z.cells) h (by simpa using(bP σ hc).cells) A;exact val (s:=Instr.alloc rgT true (.tuple #[])) ⟨σ',_,_,by simp[Instr.alloc,hr,newVar,newRow],h1,h2,h3⟩ rfl;cases h
 case box e x=>
  refine j2 (fun _ h=>by cases h) ?_;simp only[c8,m8,KA]at h;cases hb:Nat.beq e rgT with
  |false=>rw[hb]at h;exact J (.box e x) h rfl|true=>rw[hb,PB]at h;have:=Pq hb;subst this;split at h;rename_i G hx;obtain⟨σ',h1,h2,h3⟩:=pW (us:=(a.eval x).cells) h (ht x (by simp[Op.operands]) _ hx).cells A;exact val (s:=Instr.box rgT (a.eval x)) ⟨σ',_,_,by simp[Instr.box,newVar,newRow],h1,h2,h3⟩ rfl;cases h
 case makeMap t r=>exact j2 (fun _ h=>by cases h) (J (.makeMap t r) h rfl)
 case range t x=>exact j2 (fun _ h=>by cases h) (J (.range t x) h rfl)
 case next it isS=>refine j2 (fun _ h=>by cases h) ?_;simp only[c8,m8]at h;split at h;rename_i G hx;exact val (Ei h (ht _ (by simp[Op.operands]) _ hx) A type) rfl;cases h
 case lookup t x k ok=>refine j2 (fun _ h=>by cases h) ?_;simp only[c8,m8]at h;split at h;rename_i G hx;split at h;rename_i kv hk;obtain⟨L,rfl⟩:=j6 h;obtain⟨u,h1,h2⟩:=wJ L (ht _ (by simp[Op.operands]) _ hx) (ht _ (by simp[Op.operands]) _ hk) A;exact val ⟨σ,u,w,h2,RU _ σ,h1,A⟩ rfl;cases h;cases h
 case mapUpdate t m k x=>refine j2 (fun _ h=>by cases h) ?_;simp only[c8,m8]at h;split at h;rename_i mv hm;split at h;rename_i kv hk;split at h;rename_i G hx;split at h;rename_i X I;simp only[Pj,Pn]at h;obtain⟨rfl,rfl⟩:=h;obtain⟨w',h1,h2,h3⟩:=iL I (ht _ (by simp[Op.operands]) _ hm) (ht _ (by simp[Op.operands]) _ hk) (ht _ (by simp[Op.operands]) _ hx) A;unfold Oper.wp;simp only[execOp,PN,h1,PJ,PU,Oper.upon_skip];exact hn σ undef w' (by rw[h3];exact RU _ σ) (Sm σ) h2;cases h;cases h;cases h;cases h
 case mapEntry t m k=>refine j2 (fun _ h=>by cases h) ?_;simp only[c8,m8]at h;split at h;rename_i mv hm;split at h;rename_i kv hk;exact val (qK h (ht _ (by simp[Op.operands]) _ hm) (ht _ (by simp[Op.operands]) _ hk) A) rfl;cases h;cases h
 case entryStore t m s x=>refine j2 (fun _ h=>by cases h) ?_;simp only[c8,m8]at h;split at h;rename_i mv hm;split at h;rename_i sv ai;split at h;rename_i G hx;split at h;rename_i X I;simp only[Pj,Pn]at h;obtain⟨rfl,rfl⟩:=h;obtain⟨w',h1,h2,h3⟩:=mO (P:=P) (t:=t) I (ht _ (by simp[Op.operands]) _ hm) (ht _ (by simp[Op.operands]) _ ai) (ht _ (by simp[Op.operands]) _ hx) A;unfold Oper.wp;simp only[execOp,PN,h1,PJ,PU,Oper.upon_skip];exact hn σ undef w' (by rw[h3];exact RU _ σ) (Sm σ) h2;cases h;cases h;cases h;cases h
 case insert t m k x=>refine j2 (fun _ h=>by cases h) ?_;simp only[c8,m8]at h;split at h;rename_i mv hm;split at h;rename_i kv hk;split at h;rename_i G hx;split at h;rename_i X I;simp only[Pj,Pn]at h;obtain⟨rfl,rfl⟩:=h;obtain⟨w',h1,h2,h3⟩:=iL I (ht _ (by simp[Op.operands]) _ hm) (ht _ (by simp[Op.operands]) _ hk) (ht _ (by simp[Op.operands]) _ hx) A;unfold Oper.wp;simp only[execOp,PN,h1,PJ,PU,Oper.upon_skip];exact hn σ undef w' (by rw[h3];exact RU _ σ) (Sm σ) h2;cases h;cases h;cases h;cases h
 case build t parts=>refine j2 (fun _ h=>by cases h) ?_;simp only[c8,m8]at h;split at h;rename_i ps ah;have hp1:=jZ (fun p hp=>ht p.2 (by simp only[Op.operands,List.mem_toArray];exact QQ.2 ⟨p,hp,rfl⟩)) ah;exact F h (fun hx=>BO (ys:=parts.map fun(i,x)=>(i,a.eval x)) hx (by simpa using hp1)) rfl;cases h
 case buildSlice t len parts=>exact j2 (fun _ h=>by cases h) (J (.buildSlice t len parts) h rfl)
 case load t x=>refine j2 (fun _ h=>by cases h) ?_;simp only[c8,m8]at h;split at h;rename_i G hx;obtain⟨L,rfl⟩:=j6 h;obtain⟨u,h1,h2⟩:=pU L (ht _ (by simp[Op.operands]) _ hx) A;exact val ⟨σ,u,w,h2,RU _ σ,h1,A⟩ rfl;cases h
 case store t x y=>refine j2 (fun _ h=>by cases h) ?_;simp only[c8,m8]at h;split at h;rename_i G hx;split at h;rename_i yv hy;split at h;rename_i X I;simp only[Pj,Pn]at h;obtain⟨rfl,rfl⟩:=h;obtain⟨w',h1,h2,h3⟩:=Ci I (ht _ (by simp[Op.operands]) _ hx) (ht _ (by simp[Op.operands]) _ hy) A;unfold Oper.wp;simp only[execOp,PN,h1,PJ,PU,Oper.upon_skip];exact hn σ undef w' (by rw[h3];exact RU _ σ) (Sm σ) h2;cases h;cases h;cases h
 case nilCheck x=>
  refine j2 (fun _ h=>by cases h) ?_;simp only[c8,m8]at h;split at h
  ·rename_i p hx;simp only[Pj,Pn]at h;obtain⟨rfl,rfl⟩:=h;have hv:=ht _ (by simp[Op.operands]) _ hx;generalize T:a.eval x=G at hv;cases hv with
   |ptr i o q hq=>
   unfold Oper.wp;simp only[execOp,T,PU,Rg];exact hn σ _ w (RU _ σ) (.ptr i o q hq) A
   |rptr i o q hq=>
   unfold Oper.wp;simp only[execOp,T,PU,Rg];exact hn σ _ w (RU _ σ) (.rptr i o q hq) A
  ·rename_i f fa fb hx;simp only[Pj,Pn]at h;obtain⟨rfl,rfl⟩:=h;have hv:=ht _ (by simp[Op.operands]) _ hx;generalize T:a.eval x=G at hv;cases hv with
   |func _ _ ys _ ds h1 h2 h3 h4=>
   unfold Oper.wp;simp only[execOp,T,PU,Rg];exact hn σ _ w (RU _ σ) (.func _ _ ys _ ds h1 h2 h3 h4) A
  cases h
 case binOp op t x y yt=>refine j2 (fun _ h=>by cases h) ?_;simp only[c8,m8]at h;split at h;rename_i G hx;split at h;rename_i yv hy;obtain⟨L,rfl⟩:=j6 h;obtain⟨u0,h1,h2⟩:=DU (P:=P) L (ht _ (by simp[Op.operands]) _ hx) (ht _ (by simp[Op.operands]) _ hy) x y;unfold Oper.wp;simp only[execOp,PN,(h2 w).1,(h2 w).2,PJ,PU,Rg];exact hn σ _ w (RU _ σ) h1 A;cases h;cases h
 case unOp op t x=>refine j2 (fun _ h=>by cases h) ?_;simp only[c8,m8]at h;split at h;rename_i G hx;exact F h (fun hh=>⟨_,Ji hh (ht _ (by simp[Op.operands]) _ hx)⟩) rfl;cases h
 case convert s d x=>refine j2 (fun _ h=>by cases h) ?_;simp only[c8,m8]at h;split at h;rename_i G hx;exact F h (fun hh=>Ec hh (ht _ (by simp[Op.operands]) _ hx)) rfl;cases h
 case makeInterface t x=>refine j2 (fun _ h=>by cases h) ?_;simp only[c8,m8]at h;split at h;rename_i G hx;exact F h (fun hh=>BU hh (ht _ (by simp[Op.operands]) _ hx)) rfl;cases h
 case makeFunc fn first C=>refine j2 (fun _ h=>by cases h) ?_;simp only[c8,m8]at h;split at h;rename_i fs ad;split at h;rename_i cs ab;simp only[Pj,Pn]at h;obtain⟨rfl,rfl⟩:=h;have v1:=rG (fun y hy=>ht y (by simp only[Op.operands,Array.mem_append];exact .inl (by simpa using hy))) ad;have v2:=rG (fun y hy=>ht y (by simp only[Op.operands,Array.mem_append];exact .inr (by simpa using hy))) ab;refine hn σ (.func fn (first.map a.eval) (C.map a.eval)) w (RU _ σ) (.func _ _ _ _ _ ?_ ?_ ?_ ?_) A;have:=v1.1;simpa using this;intro i x y h1 h2;exact v1.2 i x y (by simpa using h1) (by simpa using h2);have:=v2.1;simpa using this;intro i x y h1 h2;exact v2.2 i x y (by simpa using h1) (by simpa using h2);cases h;cases h
 case makeSlice t l c=>exact j2 (fun _ h=>by cases h) (J (.makeSlice t l c) h rfl)
 case slice t x lo hi mx=>refine j2 (fun _ h=>by cases h) ?_;simp only[c8,m8]at h;split at h;rename_i G hx;split at h;rename_i l hl;split at h;rename_i hh ae;split at h;rename_i m hm;exact val (Cb h (ht _ (by simp[Op.operands]) _ hx) (mS (fun y hy=>ht y (by subst hy;simp[Op.operands])) hl) (mS (fun y hy=>ht y (by subst hy;simp[Op.operands])) ae) (mS (fun y hy=>ht y (by subst hy;simp[Op.operands])) hm) A) rfl;cases h;cases h;cases h;cases h
 case fieldAddr t x f=>refine j2 (fun _ h=>by cases h) ?_;simp only[c8,m8]at h;split at h;rename_i G hx;exact F h (fun hh=>oP hh (ht _ (by simp[Op.operands]) _ hx)) rfl;cases h
 case field t x f=>refine j2 (fun _ h=>by cases h) ?_;simp only[c8,m8]at h;split at h;rename_i G hx;exact F h (fun hh=>BT hh (ht _ (by simp[Op.operands]) _ hx)) rfl;cases h
 case indexAddr t x i=>refine j2 (fun _ h=>by cases h) ?_;simp only[c8,m8]at h;split at h;rename_i G hx;split at h;rename_i iv hi;exact F h (fun hh=>oQ hh (ht _ (by simp[Op.operands]) _ hx) (ht _ (by simp[Op.operands]) _ hi)) rfl;cases h;cases h
 case index t x i=>refine j2 (fun _ h=>by cases h) ?_;simp only[c8,m8]at h;split at h;rename_i G hx;split at h;rename_i iv hi;exact F h (fun hh=>BV hh (ht _ (by simp[Op.operands]) _ hx) (ht _ (by simp[Op.operands]) _ hi)) rfl;cases h;cases h
 case extract x i=>refine j2 (fun _ h=>by cases h) ?_;simp only[c8,m8]at h;split at h;rename_i G hx;exact F h (fun hh=>vN hh (ht _ (by simp[Op.operands]) _ hx)) rfl;cases h
 case call c=>
  simp only[c8,m8]at h;obtain⟨O,j,K⟩:=c;split at h
  ·rename_i args U;have R:=rG (fun y hy=>ht y (by simp only[Op.operands,Call.operands,Array.mem_append];exact .inr (by simpa using hy))) U;cases O with
   |invoke r m=>simp only[reduceCtorEq]at h|builtin b=>
    refine j2 (fun _ h=>by cases h) ?_;simp only at h;obtain⟨σ',u,w',h1,h2,h3,h4⟩:=vJ (ty:=type) (cs:=j.map fun| .const _=>true|_=>false) h R A;unfold Oper.wp;have D:(j.toList.map a.eval).toArray=j.map a.eval:=by apply Array.ext';simp
    rw[D]at h1;have M:(execOp a.eval ⟨dst,.call ⟨.builtin b,j,K⟩,type,pos,after,guard⟩).run P w= .ok (.value u) w':=by simp only[execOp,resolve,invoke,PN,PU,PJ];exact h1
    rw[M];exact hn σ' u w' h2 h3 h4
   |value f=>
    simp only at h;split at h
    ·rename_i fv hf;have S:=ht _ (by simp[Op.operands,Call.operands]) _ hf;unfold vK at h;split at h
     ·rename_i g first C
      refine j2 (fun _ h=>by cases h) ?_;generalize V:a.eval f=fe at S;cases S with
      |func _ _ ys _ ds q1 q2 q3 q4=>
      split at h
      ·rename_i fn ac;have vf:VRL σ first.toList ys.toList:=⟨by simpa using q1,fun i x y h1 h2=>q2 i x y (by simpa using h1) (by simpa using h2)⟩
       have vc:VRL σ C.toList ds.toList:=⟨by simpa using q3,fun i x y h1 h2=>q4 i x y (by simpa using h1) (by simpa using h2)⟩
       have D:(ys.toList++j.toList.map a.eval++ds.toList).toArray=ys++j.map a.eval++ds:=by apply Array.ext';simp
       have N:(execOp a.eval ⟨dst,.call ⟨.value f,j,K⟩,type,pos,after,guard⟩).run P w=(callFunc g (ys++j.map a.eval++ds)).run P w:=by simp only[execOp,resolve,V,Deferred.ofValue,invoke,PN,PU,PJ]
       cases ho:AF fn with
       |false=>
        rw[ho,PC]at h;split at h
        ·rename_i t0 aj;have aa:t0≠iK:=fun e=>by rw[e,w9 rfl]at h;cases h
         rw[y7 aa,PC]at h;obtain⟨rfl,u,h1,h2⟩:=Em ((H.ov g t0 aj).resolve_left fun e=>aa e.1).2 h ((vf.append R).append vc) A;rw[D]at h2;unfold Oper.wp;rw[N,h2,Rg];exact hn σ u w (RU _ σ) h1 A
        cases h
       |true=>rw[ho,PB]at h;have hc:=H.run g _ hp v hp' h B w0 σ w _ ((vf.append R).append vc) A;rw[D]at hc;unfold Oper.wp;rw[N,lV ac ho w,Oper.upon_enter];refine hc.mono fun e w' he=>?_;obtain⟨σ',u,rfl,h2,h3,h4⟩:=he;exact hn σ' u w' h2 h3 h4
      cases h
     ·rename_i i;generalize V:a.eval f=fe at S;cases S with
      |yield _ p hp0=>
      obtain⟨ak,k1,k2,k3⟩:=H.round i args hp v hp' h B w0 σ w _ p hp0 R A;have D:(j.toList.map a.eval).toArray=j.map a.eval:=by apply Array.ext';simp
      have M:(execOp a.eval ⟨dst,.call ⟨.value f,j,K⟩,type,pos,after,guard⟩).run P w=(Instr.yield p.blk (j.map a.eval)).run P w:=by simp only[execOp,resolve,V,Deferred.ofValue,invoke,PN,PU,PJ];congr 2;simp
      refine⟨fun _ _=>trivial,?_⟩;rw[Oper.semAt_eq _ _ _ (fun _ h=>by cases h),M,run_yield k1 (by rw[<-k2];simp),Oper.uponIn_round];refine⟨(fun h=>by cases h),?_⟩;rw[D]at k3;refine(show RoundIn (RF r) _ P _ _ _ _ _ _ _ from k3).mono fun e w' he=>?_;obtain⟨σ',u,rfl,h2,h3,h4⟩:=he;exact hn σ' u w' h2 h3 h4
     cases h
    cases h
  cases h
 all_goals (simp only[c8,m8,reduceCtorEq]at h)
end
def dH (ops:An)(tm:Ao)(j:Nat):Bb Bool:=
 match ops[j]? with
 |some o=>match o.dst with
  |some d=>match tm.get d with
   |some (.bool b)=>some b|_=>none
  |none=>none
 |none=>none
def y5 (ops:An)(tm:Ao)(o:Oper):Bool:=
 match o.guard with
 |none=>true|some (j,want)=>match dH ops tm j with
  |some b=>b==want|none=>false
variable {σ:Sg}{nt:Nat}{tm:Ao}
theorem GB {tmps:Al}(h:TR σ nt tm tmps)(ops:Am)(o:Oper):Region.wanted o (yielded ops tmps)=y5 ops.toList tm o:=by
 unfold Region.wanted y5;cases o.guard with
 |none=>rfl|some i=>
  obtain⟨j,g⟩:=i;have hy:yielded ops tmps j=dH ops.toList tm j:=by
   unfold yielded dH;rw[Array.getElem?_toList];cases hj:ops[j]? with
   |none=>rfl|some p=>
    simp;cases l:p.dst with
    |none=>rfl|some d=>
     simp;have:=h.at_ d;by_cases hlt:d<tmps.size
     ·have e:tmps[d]? =some tmps[d]:=by grind
      have f:tmps.getD d undef=tmps[d]:=by simp_all
      rw[f]at this;rw[e];cases hg:tm.get d with
      |none=>rw[hg,Option.getD_none]at this;generalize tmps[d]=x at this;cases this<;>grind
      |some v=>rw[hg,Qe]at this;generalize tmps[d]=x at this;cases this<;>rfl
     ·have e:=Array.getElem?_eq_none (QM hlt);have f:tmps.getD d undef=undef:=by grind
      rw[f]at this;rw[e];cases hg:tm.get d with
      |none=>rfl|some v=>rw[hg,Qe]at this;cases this<;>grind
  grind
def B4 (tm:Ao)(dst:Bb Tmp)(v:Av):Ao:=
 match dst with
 |some d=>tm.set d (some v)|none=>tm
def F7 (nt:Nat)(dst:Bb Tmp):Bool:=
 match dst with
 |some d=>Nat.blt d nt|none=>true
def TR.putO {a:Act}(h:TR σ nt tm a.tmps){dst:Bb Tmp}(e:F7 nt dst=true){v u:Av}(hv:VR σ v u):TR σ nt (B4 tm dst v) (a.put dst u).tmps:=by
 cases dst with
 |none=>exact h|some d=>exact h.put (Pp e) hv
def LZ (ih:Ao->Hp->Bb (Ao×Hp))(tm:Ao)(dst:Bb Tmp)(r:Bb (Av×Hp)):Bb (Ao×Hp):=
 Option.rec (motive:=fun _=>Bb (Ao×Hp)) none (fun p=>Prod.rec (motive:=fun _=>Bb (Ao×Hp)) (fun v hp=>(B4 tm dst v).force fun tm'=>ih tm' hp) p) r
def xone (P:Aw)(call:j8)(nt:Nat)(all:An)(o:Oper)(ih:Ao->Hp->Bb (Ao×Hp))(tm:Ao)(hp:Hp):Bb (Ao×Hp):=
 bif F7 nt o.dst then
  bif y5 all tm o then LZ ih tm o.dst (xop P call tm hp o.op)
  else(B4 tm o.dst undef).force fun tm'=>ih tm' hp
 else none
def vW (P:Aw)(call:j8)(nt:Nat)(all:An)(l:An):Ao->Hp->Bb (Ao×Hp):=
 List.rec (motive:=fun _=>Ao->Hp->Bb (Ao×Hp)) (fun tm hp=>some (tm,hp)) (fun o _ ih tm hp=>xone P call nt all o ih tm hp) l
variable {P:Aw}{call:j8}{hp:Hp}
def Ek {all:An}:vW P call nt all [] tm hp=some (tm,hp):=rfl
def V7 {all rest:An}{o:Oper}:vW P call nt all (o::rest) tm hp=bif F7 nt o.dst then bif y5 all tm o then match xop P call tm hp o.op with
    |some (v,hp')=>vW P call nt all rest (B4 tm o.dst v) hp'|none=>none
   else vW P call nt all rest (B4 tm o.dst undef) hp
  else none:=by
 show xone P call nt all o (vW P call nt all rest) tm hp=_;unfold xone;cases xop P call tm hp o.op with
 |none=>simp only[RY,LZ]|some r=>simp only[RY,LZ]
def vX (n:Nat)(B:BS)(w0:Bc)(σ:Sg)(nt:Nat)(e:Exit)(tm:Ao)(hp:Hp)(D:List Deferred):Exit->Act->Bc->Prop:=
 fun e' a' w'=>e'=e/\a'.defers=D/\ ∃σ',Sg.gr n hp.nx σ σ'/\TR σ' nt tm a'.tmps/\HR B w0 σ' hp w'
variable {w' w0:Bc}{σ':Sg}
def vX.le {B:BS}{n g:Nat}(h:Sg.gr n g σ σ'){e:Exit}{D:List Deferred}{e':Exit}{f:Act}(hp':vX g B w0 σ' nt e tm hp D e' f w'):vX n B w0 σ nt e tm hp D e' f w':=by obtain⟨h1,h2,d,h3,h4,i⟩:=hp';exact⟨h1,h2,d,RV h h3,h4,i⟩
variable {r:Ai}
theorem wG {ops:Am}{Q j:Exit->Act->Bc->Prop}(hq:∀e a w,Q e a w->j e a w):∀(l:Ah) {a:Act} {w:Bc},wpOpsIn (RF r) 0 P ops Q l a w->wpOpsIn (RF r) 0 P ops j l a w:=by
 have d:LetsOut Q->LetsOut j:=fun⟨a,w,h⟩=>⟨a,w,hq _ _ _ h⟩
 intro l;induction l with
 |nil=>intro a w h;exact hq _ _ _ h
 |cons i rest g=>
  intro a w h;simp only[wpOpsIn]at h⊢;cases p:ops[i]? with
  |none=>grind|some o=>
   simp only[p]at h;simp only;split
   ·rename_i q;simp only[q,QY]at h;refine⟨h.1,?_⟩;replace h:=h.2;generalize (o.semAt (RF r).round a.eval).run P w=x at h⊢;cases x with
    |ok n w'=>
     cases n<;>simp only[Oper.uponIn]at h⊢ <;>first
      |exact g h
      | (refine⟨h.1,CallsIn.mono h.2 fun e f he=>?_⟩;cases e<;>first|exact g he|exact hq _ _ _ he|exact d he)
      |exact⟨h.1,RowsIn.mono h.2 fun v f he=>g he⟩
      | (refine⟨h.1,RoundIn.mono h.2 fun e f he=>?_⟩;cases e<;>first|exact g he|exact hq _ _ _ he|exact d he)
    |halt x w'=>cases x<;>simp only[Oper.uponIn]at h⊢ <;>exact hq _ _ _ h
   grind
def iI {P:Aw}{F:Fence}{k:Nat}{c:Code}{Q d:Exit->Act->Bc->Prop}(hq:∀e a w,Q e a w->d e a w):∀ {n:Nat} {a:Act} {w:Bc},Code.roundsIn F k P c Q n a w->Code.roundsIn F k P c d n a w
 |0,_,_,h=>h.elim|n+1,_,_,h=>Rk h fun e a w he=>by
  cases e with
  |normal=>exact iI hq he|_=>exact hq _ _ _ he
section
variable {P :Aw}{B:BS}{w0:Bc}{call:j8}
def TR.ER {σ:Sg}{nt:Nat}{tm:Ao}{a:Act}(h:TR σ nt tm a.tmps)(xs:Array Az):∀x∈xs,∀v,i5 tm x=some v->VR σ v (a.eval x):=
 fun _ _ _ hv=>vM h hv
def jG (a:Act)(dst:Bb Tmp)(v:Av):(a.put dst v).defers=a.defers:=by cases dst<;>rfl
theorem Gu (f:O9 P call){nt:Nat}(ops:Am)(r:Ai):∀(l:An) (k:Nat) (tm:Ao) (hp:Hp) (tm':Ao) (hp':Hp) (σ:Sg) (a:Act) (w:Bc),(∀j,l[j]? =ops[k+j]?)->vW P call nt ops.toList l tm hp=some (tm',hp')->TR σ nt tm a.tmps->HR B w0 σ hp w-> ∀D,a.defers=D->wpOpsIn (RF r) 0 P ops (vX hp.nx B w0 σ nt .normal tm' hp' D) (List.range' k l.length) a w:=by
 intro l;induction l with
 |nil=>intro k tm hp tm' hp' σ a w _ h ht q D p;obtain⟨rfl,rfl⟩:=h;exact⟨rfl,p,σ,RU _ σ,ht,q⟩
 |cons o l y=>
  intro k tm hp tm' hp' σ a w hl h ht q D p;have z:ops[k]? =some o:=by simpa using(hl 0).symm
  have g:∀j,l[j]? =ops[k+1+j]? :=fun j=>by have:=hl (j+1);simpa [Qv,Nat.add_comm 1 j]using this
  rw[V7]at h;simp only[Qf,List.range'_succ,wpOpsIn,z];cases d:F7 nt o.dst with
  |false=>grind|true=>
   rw[d,PB]at h;rw[GB ht ops o];cases n:y5 ops.toList tm o with
   |true=>rw[n,PB]at h;split at h;rename_i v hp1 hx;refine gX f hx (ht.ER _) q _ _ (fun σ' u w' i hv s=>?_) r;have t:=y (k+1) _ hp1 tm' hp' σ' (a.put o.dst u) w' g h ((ht.mono i.le).putO d hv) s D (by rw[jG];exact p);exact wG (fun e A w' hq=>vX.le i hq) _ t;cases h
   |false=>rw[n,PC]at h;exact⟨fun _ _=>trivial,y (k+1) _ hp tm' hp' σ _ w g h (ht.putO d (Sm σ)) q D (by rw[jG];exact p)⟩
end
inductive Df where
 |mark (r:Nat)
 |call (g:Ay) (args cap:Af)
def DfR (σ:Sg):Df->Deferred->Prop
 | .mark r,d=>∃p,σ r=some p/\d.target= .collected p.blk| .call g args cap,d=>∃cap',d.target= .fn (.func g) cap'/\VRL σ args d.args.toList/\VRL σ cap cap'.toList
def DsR (σ:Sg):List Df->List Deferred->Prop
 | [],[]=>True|x::xs,d::ds=>DfR σ x d/\DsR σ xs ds|_,_=>False
def DfR.mono (hs:Sg.le σ σ'){x:Df}{d:Deferred}(h:DfR σ x d):DfR σ' x d:=by
 cases x with
 |mark r=>obtain⟨p,h1,h2⟩:=h;exact⟨p,hs _ _ h1,h2⟩
 |call g args cap=>obtain⟨c,h1,h2,h3⟩:=h;exact⟨c,h1,h2.mono hs,h3.mono hs⟩
def DsR.mono (hs:Sg.le σ σ'):∀ {xs:List Df} {ds:List Deferred},DsR σ xs ds->DsR σ' xs ds
 | [],[],_=>trivial|_::_,_::_,h=>⟨h.1.mono hs,DsR.mono hs h.2⟩
 | [],_::_,h=>h.elim|_::_,[],h=>h.elim
def ArR (σ:Sg):Ai->Ai->Prop
 |none,none=>True|some j,some b=>∃p,σ j=some p/\p.blk=b|_,_=>False
def ArR.mono (hs:Sg.le σ σ'){ar:Ai}(h:ArR σ ar r):ArR σ' ar r:=by cases ar<;>cases r<;>first|exact h| (obtain⟨p,h1,h2⟩:=h;exact⟨p,hs _ _ h1,h2⟩)
inductive XR where
 |mk (e:Exit) (tm:Ao) (hp:Hp) (ds:List Df)
abbrev Z6:=j8->Nat->An->Ao->Hp->Bb (Ao×Hp)
def iO (P:Aw)(dr:Z6):Prop:=
 ∀call,O9 P call-> ∀nt (ops:Am) id tm hp tm' hp',dr call nt ops.toList tm hp=some (tm',hp')-> ∀B w0 σ a w,TR σ nt tm a.tmps->HR B w0 σ hp w-> ∀r,
  (Code.region id ops true).wpIn (RF r) 0 P (vX hp.nx B w0 σ nt .normal tm' hp' a.defers) a w
def kC (P:Aw)(call:j8)(nt:Nat)(ar:Ai)(f:Az)(ps:Array Tmp)(assign body:Code)(tm:Ao)(hp:Hp)(ds:List Df):Bb XR:=
 have _:=P
 none
def Pg (tm:Ao)(c:Call):Bb Df:=
 match c.callee with
 | .value f=>match i5 tm f with
  |some (.func (.func g) first captured)=>match hM tm c.args.toList with
   |some args=>some (.call g (first.toList++args) captured.toList)|none=>none
  |_=>none
 |_=>none
def ED :Op->Bb Call
 | .defer c=>some c|_=>none
def yX (P:Aw)(call:j8)(nt:Nat)(all:An):An->Ao->Hp->List Df->Bb (Ao×Hp×List Df)
 | [],tm,hp,ds=>some (tm,hp,ds)|o::rest,tm,hp,ds=>
  bif F7 nt o.dst then
   bif y5 all tm o then
    match ED o.op with
    |some c=>match Pg tm c with
     |some d=>yX P call nt all rest (B4 tm o.dst undef) hp (d::ds)|none=>none
    |none=>match xop P call tm hp o.op with
     |some (v,hp')=>yX P call nt all rest (B4 tm o.dst v) hp' ds|none=>none
   else yX P call nt all rest (B4 tm o.dst undef) hp ds
  else none
def HM (P:Aw)(call:j8)(nt:Nat)(ar:Ai)(ops:An)(draw:Bool)(tm:Ao)(hp:Hp)(ds:List Df):Bb XR:=
 have _:=P
 none
def p8 (P:Aw)(dr:Z6)(call:j8)(nt:Nat)(ar:Ai):Nat->Code->Ao->Hp->List Df->Bb XR
 |0,_,_,_,_=>none|m+1,c,tm,hp,ds=>match c with
  | .skip=>some (.mk .normal tm hp ds)| .label _=>some (.mk .normal tm hp ds)| .region _ ops draw=>match(bif draw then dr call nt ops.toList tm hp else vW P call nt ops.toList ops.toList tm hp)with
   |some (tm',hp')=>some (.mk .normal tm' hp' ds)|none=>HM P call nt ar ops.toList draw tm hp ds
  | .seq x y=>match p8 P dr call nt ar m x tm hp ds with
   |some (.mk .normal tm' hp' ds')=>p8 P dr call nt ar m y tm' hp' ds'|r=>r
  | .cond c x y=>match i5 tm c with
   |some (.bool true)=>p8 P dr call nt ar m x tm hp ds|some (.bool false)=>p8 P dr call nt ar m y tm hp ds|_=>none
  | .block id b=>match p8 P dr call nt ar m b tm hp ds with
   |some (.mk (.exit j) tm' hp' ds')=>bif Nat.beq j id then some (.mk .normal tm' hp' ds')else some (.mk (.exit j) tm' hp' ds')|r=>r
  | .loop b=>match p8 P dr call nt ar m b tm hp ds with
   |some (.mk .normal tm' hp' ds')=>p8 P dr call nt ar m (.loop b) tm' hp' ds'|r=>r
  | .exit id=>some (.mk (.exit id) tm hp ds)| .ret=>some (.mk .ret tm hp ds)| .scope b=>match p8 P dr call nt ar m b tm hp ds with
   |some (.mk .normal tm' hp' ds')=>some (.mk .normal tm' hp' ds')|some (.mk (.exit j) tm' hp' ds')=>some (.mk (.exit j) tm' hp' ds')|some (.mk .ret tm' hp' ds')=>some (.mk .ret tm' hp' ds')|_=>none
  | .rangeFunc f ps assign body=>kC P call nt ar f ps assign body tm hp ds|_=>none
def iA (n:Nat)(B:BS)(w0:Bc)(σ:Sg)(nt:Nat)(e:Exit)(tm:Ao)(hp:Hp)(ds:List Df):Exit->Act->Bc->Prop:=
 fun e' a' w'=>e'=e/\ ∃σ',Sg.gr n hp.nx σ σ'/\DsR σ' ds a'.defers/\TR σ' nt tm a'.tmps/\HR B w0 σ' hp w'
def iA.le {B:BS}{n g:Nat}(h:Sg.gr n g σ σ'){e:Exit}{ds:List Df}{e':Exit}{f:Act}(hp':iA g B w0 σ' nt e tm hp ds e' f w'):iA n B w0 σ nt e tm hp ds e' f w':=by obtain⟨h1,d,h3,h2,h4,i⟩:=hp';exact⟨h1,d,RV h h3,h2,h4,i⟩
section
variable {P :Aw}{B:BS}{w0:Bc}{call:j8}{dr:Z6}
variable {b:Frame}{a:Act}{k:List Item}{cs:List Frame}{w:Bc}{c:Code}
def O4 :step P (lone (b.atR a (.code (.scope c)::k)) cs w)= .next (lone (b.atR a (.code c:: .inScope c::k)) cs w):=
 step_lone_go rfl
def wF :step P (lone (b.atR a (.inScope c::k)) cs w)= .next (lone (b.atR a k) cs w):=
 step_lone_go rfl
def hK {F:Fence}{n:Nat}{Q:Exit->Act->Bc->Prop}(h:c.wpIn F n P (Exit.noGoto Q) a w):(Code.scope c).wpIn F n P Q a w:=by
 intro b k cs p hb hr;have h0:(lone (b.atR a (.code (.scope c)::k)) cs w).fenced P F:=fenced_calm hb hr rfl;obtain⟨e,f,g,hq,d⟩:=h b (.inScope c::k) cs p hb hr;cases e with
 |normal=>exact⟨.normal,f,g,hq,.head h0 O4 (StepsIn.trans d (.one (fenced_calm hb hr rfl) wF))⟩|exit q=>
  have hx:exitTo q (.inScope c::k)=exitTo q k:=rfl;exact⟨.exit q,f,g,hq,fun k' hk=>.head h0 O4 (d.1 k' (hk)),
   fun j hk=>let⟨i,h1,h2⟩:=d.2 j (hk);⟨i,h1,.head h0 O4 h2⟩⟩
 |goto l=>exact hq.elim|ret=>exact⟨_,f,g,hq,.of_steps (.one h0 O4) d⟩|panic ch=>exact⟨_,f,g,hq,.of_steps (.one h0 O4) d⟩|outgrown=>exact⟨_,f,g,hq,.of_steps (.one h0 O4) d⟩
variable {σ:Sg}{hp:Hp}
def HR.less (h:HR B w0 σ hp w){m:T Blk}(hm:∀i b,m.get i=some b->hp.m.get i=some b):HR B w0 σ ⟨m,hp.nx⟩ w:=
 h.sub (PH _) hm
theorem HR.drop (h:HR B w0 σ hp w)(l:Nat):HR B w0 σ {hp with m:=hp.m.set l none} w:=by refine h.less fun i b hg=>?_;rw[Sa]at hg;grind
variable {nt:Nat}{ar r:Ai}{tm tm':Ao}{ds ds':List Df}
def oT (d:O9 P call){f:Az}{ps:Array Tmp}{assign body:Code}{e:Exit}{hp':Hp}(h:kC P call nt ar f ps assign body tm hp ds=some (.mk e tm' hp' ds'))(ht:TR σ nt tm a.tmps)(j:HR B w0 σ hp w)(i:DsR σ ds a.defers)(g:ArR σ ar r):(Code.rangeFunc f ps assign body).wpIn (RF r) 0 P (iA hp.nx B w0 σ nt e tm' hp' ds') a w:=by unfold kC at h;simp at h
def pY (d:O9 P call){ops:Am}{draw:Bool}{g:Nat}{e:Exit}{hp':Hp}(h:HM P call nt ar ops.toList draw tm hp ds=some (.mk e tm' hp' ds'))(ht:TR σ nt tm a.tmps)(j:HR B w0 σ hp w)(i:DsR σ ds a.defers)(f:ArR σ ar r):(Code.region g ops draw).wpIn (RF r) 0 P (iA hp.nx B w0 σ nt e tm' hp' ds') a w:=by unfold HM at h;simp at h
theorem pT (q:O9 P call)(K:iO P dr):∀(m:Nat),(∀(c:Code) (tm:Ao) (hp:Hp) (ds:List Df) (e:Exit) (tm':Ao) (hp':Hp) (ds':List Df) (σ:Sg) (a:Act) (w:Bc) (r:Ai),p8 P dr call nt ar m c tm hp ds=some (.mk e tm' hp' ds')->TR σ nt tm a.tmps->HR B w0 σ hp w->DsR σ ds a.defers->ArR σ ar r->c.wpIn (RF r) 0 P (iA hp.nx B w0 σ nt e tm' hp' ds') a w)/\(∀(c:Code) (tm:Ao) (hp:Hp) (ds:List Df) (e:Exit) (tm':Ao) (hp':Hp) (ds':List Df) (σ:Sg) (a:Act) (w:Bc) (r:Ai),p8 P dr call nt ar m (.loop c) tm hp ds=some (.mk e tm' hp' ds')->TR σ nt tm a.tmps->HR B w0 σ hp w->DsR σ ds a.defers->ArR σ ar r->Code.roundsIn (RF r) 0 P c (iA hp.nx B w0 σ nt e tm' hp' ds') m a w):=by
 intro m;induction m with
 |zero=>exact⟨fun c tm hp ds e tm' hp' ds' σ a w r h=>(by simp[p8]at h),fun c tm hp ds e tm' hp' ds' σ a w r h=>(by simp[p8]at h)⟩|succ m N=>
  obtain⟨A,L⟩:=N;have D:∀(c:Code) (tm:Ao) (hp:Hp) (ds:List Df) (e:Exit) (tm':Ao) (hp':Hp) (ds':List Df) (σ:Sg) (a:Act) (w:Bc) (r:Ai),p8 P dr call nt ar (m+1) (.loop c) tm hp ds=some (.mk e tm' hp' ds')->TR σ nt tm a.tmps->HR B w0 σ hp w->DsR σ ds a.defers->ArR σ ar r->
    Code.roundsIn (RF r) 0 P c (iA hp.nx B w0 σ nt e tm' hp' ds') (m+1) a w:=by
   intro c tm hp ds e tm' hp' ds' σ a w r h ht z u p;simp only[p8]at h;cases hb:p8 P dr call nt ar m c tm hp ds with
   |none=>grind|some I=>
    obtain⟨G,tm1,hp1,t⟩:=I;refine Rk (A c tm hp ds G tm1 hp1 t σ a w r hb ht z u p) fun e' F w' hq=>?_;obtain⟨rfl,σ',d,g,i,n⟩:=hq;cases e' with
    |normal=>simp only[hb]at h;exact iI (fun e a w hq=>iA.le d hq) (L c tm1 hp1 t e tm' hp' ds' σ' F w' r h i n g (p.mono d.le))|exit E=>simp only[hb,Pj,XR.mk.injEq]at h;obtain⟨rfl,rfl,rfl,rfl⟩:=h;exact⟨rfl,σ',d,g,i,n⟩
    |goto E=>simp only[hb,Pj,XR.mk.injEq]at h;obtain⟨rfl,rfl,rfl,rfl⟩:=h;exact⟨rfl,σ',d,g,i,n⟩
    |ret=>simp only[hb,Pj,XR.mk.injEq]at h;obtain⟨rfl,rfl,rfl,rfl⟩:=h;exact⟨rfl,σ',d,g,i,n⟩
    |panic ch=>simp only[hb,Pj,XR.mk.injEq]at h;obtain⟨rfl,rfl,rfl,rfl⟩:=h;exact⟨rfl,σ',d,g,i,n⟩
    |outgrown=>simp only[hb,Pj,XR.mk.injEq]at h;obtain⟨rfl,rfl,rfl,rfl⟩:=h;exact⟨rfl,σ',d,g,i,n⟩
  refine⟨?_,D⟩;intro c tm hp ds e tm' hp' ds' σ a w r h ht z u p;cases c with
  |skip=>obtain⟨rfl,rfl,rfl,rfl⟩:=h;exact wpIn_skip ⟨rfl,σ,RU _ σ,u,ht,z⟩
  |label l=>obtain⟨rfl,rfl,rfl,rfl⟩:=h;exact wpIn_label ⟨rfl,σ,RU _ σ,u,ht,z⟩
  |exit E=>obtain⟨rfl,rfl,rfl,rfl⟩:=h;exact wpIn_exit ⟨rfl,σ,RU _ σ,u,ht,z⟩
  |ret=>obtain⟨rfl,rfl,rfl,rfl⟩:=h;exact wpIn_ret ⟨rfl,σ,RU _ σ,u,ht,z⟩
  |region E ops draw=>
   simp only[p8]at h;cases draw with
   |true=>
    split at h;rename_i tm1 hp1 hr;cases h;exact Rk (K call q nt ops E tm hp _ _ hr B w0 σ a w ht z r) fun e' F w' hq=>by obtain⟨h1,h2,σ',h3,h4,J⟩:=hq;exact⟨h1,σ',h3,by rw[h2];exact u.mono h3.le,h4,J⟩
    exact pY q h ht z u p
   |false=>
    split at h
    ·rename_i tm1 hp1 hr;simp only[Pj,XR.mk.injEq]at h;obtain⟨rfl,rfl,rfl,rfl⟩:=h;refine Rk (Q:=vX hp.nx B w0 σ nt .normal tm1 hp1 a.defers) (wpIn_region ?_) fun e' F w' hq=>by obtain⟨h1,h2,σ',h3,h4,J⟩:=hq;exact⟨h1,σ',h3,by rw[h2];exact u.mono h3.le,h4,J⟩
     have:=Gu q ops r ops.toList 0 tm hp _ _ σ a w (by simp) hr ht z a.defers rfl;rw[List.range_eq_range'];grind
    exact pY q h ht z u p
  |seq x y=>
   simp only[p8]at h;cases hb:p8 P dr call nt ar m x tm hp ds with
   |none=>grind|some I=>
    obtain⟨G,tm1,hp1,t⟩:=I;refine wpIn_seq (Rk (A x tm hp ds G tm1 hp1 t σ a w r hb ht z u p) fun e' F w' hq=>?_);obtain⟨rfl,σ',d,g,i,n⟩:=hq;cases e' with
    |normal=>simp only[hb]at h;exact Rk (A y tm1 hp1 t e tm' hp' ds' σ' F w' r h i n g (p.mono d.le)) (fun e a w hq=>iA.le d hq)|exit E=>simp only[hb,Pj,XR.mk.injEq]at h;obtain⟨rfl,rfl,rfl,rfl⟩:=h;exact⟨rfl,σ',d,g,i,n⟩
    |goto E=>simp only[hb,Pj,XR.mk.injEq]at h;obtain⟨rfl,rfl,rfl,rfl⟩:=h;exact⟨rfl,σ',d,g,i,n⟩
    |ret=>simp only[hb,Pj,XR.mk.injEq]at h;obtain⟨rfl,rfl,rfl,rfl⟩:=h;exact⟨rfl,σ',d,g,i,n⟩
    |panic ch=>simp only[hb,Pj,XR.mk.injEq]at h;obtain⟨rfl,rfl,rfl,rfl⟩:=h;exact⟨rfl,σ',d,g,i,n⟩
    |outgrown=>simp only[hb,Pj,XR.mk.injEq]at h;obtain⟨rfl,rfl,rfl,rfl⟩:=h;exact⟨rfl,σ',d,g,i,n⟩
  |cond c x y=>simp only[p8]at h;split at h;rename_i hc;have C:=vM ht hc;generalize H:a.eval c=M at C;cases C;exact wpIn_cond_true H (A x tm hp ds e tm' hp' ds' σ a w r h ht z u p);rename_i hc;have C:=vM ht hc;generalize H:a.eval c=M at C;cases C;exact wpIn_cond_false H (A y tm hp ds e tm' hp' ds' σ a w r h ht z u p);cases h
  |block E b=>
   simp only[p8]at h;cases hb:p8 P dr call nt ar m b tm hp ds with
   |none=>grind|some I=>
    obtain⟨G,tm1,hp1,t⟩:=I;refine wpIn_block (Rk (A b tm hp ds G tm1 hp1 t σ a w r hb ht z u p) fun e' F w' hq=>?_);obtain⟨rfl,σ',d,g,i,n⟩:=hq;cases e' with
    |normal=>simp only[hb,Pj,XR.mk.injEq]at h;obtain⟨rfl,rfl,rfl,rfl⟩:=h;exact⟨rfl,σ',d,g,i,n⟩
    |exit j=>simp only[hb]at h;by_cases hj:j=E;subst hj;rw[w9 rfl,PB]at h;cases h;simp only[Exit.inBlock,QY];exact⟨rfl,σ',d,g,i,n⟩;rw[y7 hj,PC]at h;cases h;simp only[Exit.inBlock,hj,if_false];exact⟨rfl,σ',d,g,i,n⟩
    |goto E=>simp only[hb,Pj,XR.mk.injEq]at h;obtain⟨rfl,rfl,rfl,rfl⟩:=h;exact⟨rfl,σ',d,g,i,n⟩
    |ret=>simp only[hb,Pj,XR.mk.injEq]at h;obtain⟨rfl,rfl,rfl,rfl⟩:=h;exact⟨rfl,σ',d,g,i,n⟩
    |panic ch=>simp only[hb,Pj,XR.mk.injEq]at h;obtain⟨rfl,rfl,rfl,rfl⟩:=h;exact⟨rfl,σ',d,g,i,n⟩
    |outgrown=>simp only[hb,Pj,XR.mk.injEq]at h;obtain⟨rfl,rfl,rfl,rfl⟩:=h;exact⟨rfl,σ',d,g,i,n⟩
  |loop b=>exact wpIn_loop_rounds (m+1) (D b tm hp ds e tm' hp' ds' σ a w r h ht z u p)|rangeFunc f ps x y=>exact oT q (by simpa only[p8]using h) ht z u p|scope b=>
   simp only[p8]at h;cases hb:p8 P dr call nt ar m b tm hp ds with
   |none=>grind|some I=>
    obtain⟨G,tm1,hp1,t⟩:=I;refine hK (Rk (A b tm hp ds G tm1 hp1 t σ a w r hb ht z u p) fun e' F w' hq=>?_);obtain⟨rfl,σ',d,g,i,n⟩:=hq;cases e' with
    |normal=>simp only[hb,Pj,XR.mk.injEq]at h;obtain⟨rfl,rfl,rfl,rfl⟩:=h;exact⟨rfl,σ',d,g,i,n⟩
    |exit E=>simp only[hb,Pj,XR.mk.injEq]at h;obtain⟨rfl,rfl,rfl,rfl⟩:=h;exact⟨rfl,σ',d,g,i,n⟩
    |goto E=>grind|ret=>simp only[hb,Pj,XR.mk.injEq]at h;obtain⟨rfl,rfl,rfl,rfl⟩:=h;exact⟨rfl,σ',d,g,i,n⟩
    |panic ch=>grind|outgrown=>grind
  |goto l=>simp only[p8,reduceCtorEq]at h|refuse s=>simp only[p8,reduceCtorEq]at h
end
def mU (P:Aw)(tm:Ao)(hp:Hp):ResultVar->Ag
 | .tmp t=>some ((tm.get t).getD undef)| .cell a t=>J5 P hp t ((tm.get a).getD undef)
def Q5 (P:Aw)(tm:Ao)(hp:Hp):List ResultVar->Bb (Af)
 | []=>some []|r::rs=>match mU P tm hp r with
  |some v=>match Q5 P tm hp rs with
   |some vs=>some (v::vs)|none=>none
  |none=>none
def iM :Af->Av
 | [v]=>v|vs=>.tuple vs.toArray
section
variable {P :Aw}{B:BS}{w0:Bc}
def Jd {σ:Sg}{hp:Hp}{w:Bc}{t:Ax}{a d v:Av}(h:J5 P hp t a=some v)(e:VR σ a d)(f:HR B w0 σ hp w):∃u,VR σ v u/\(do loadVar t (<-asAddr d):Sem Av).run P w= .ok u w:=by obtain⟨u,h1,h2⟩:=pU h e f;refine⟨u,h1,?_⟩;rw[<-h2];cases e<;>first|rfl| (simp[J5]at h)
def Dj (tmps:Al):ResultVar->Sem Av
 | .tmp t=>pure (tmps.getD t undef)| .cell a t=>do loadVar t (<-asAddr (tmps.getD a undef))
theorem X6 {σ:Sg}{hp:Hp}{w:Bc}{nt:Nat}{tm:Ao}{tmps:Al}(ht:TR σ nt tm tmps)(f:HR B w0 σ hp w):∀ {e:List ResultVar} {vs:Af},Q5 P tm hp e=some vs-> ∃us,VRL σ vs us/\(e.mapM (Dj tmps):Sem (Af)).run P w= .ok us w
 | [],vs,h=>by simp only[Q5,Pj]at h;subst h;exact⟨[],Sp σ,by simp⟩|r::e,vs,h=>by
  simp only[Q5]at h;cases hr:mU P tm hp r with
  |none=>grind|some v=>
   cases d:Q5 P tm hp e with
   |none=>grind|some i=>
    simp only[hr,d,Pj]at h;subst h;obtain⟨us,h1,h2⟩:=X6 ht f d;cases r with
    |tmp t=>simp only[mU,Pj]at hr;subst hr;refine⟨_::us,Sn (ht.at_ t) h1,?_⟩;rw[List.mapM_cons];simp only[Dj,PN,PU,PJ,h2]|cell a t=>obtain⟨u,h3,h4⟩:=Jd hr (ht.at_ a) f;refine⟨u::us,Sn h3 h1,?_⟩;have g:(Dj tmps (.cell a t)).run P w= .ok u w:=h4;simp_all
theorem TR.start {σ:Sg}{args args':Af}(h:VRL σ args args')(n:Nat):TR σ (args.length+(n-args.length)) (fill .e 0 args) (args'.toArray++Array.replicate (n-args'.toArray.size) undef):=by
 have hl:=h.1;refine⟨by grind,fun k=>?_⟩;rw[l8];by_cases hk:k<args.length
 ·rw[PG (by omega)];have d:k<args'.length:=by omega
  have g:args[k-0]? =some args[k]:=by grind
  have f:(args'.toArray++Array.replicate (n-args'.toArray.size) undef).getD k undef=args'[k]:=by simp[Array.getElem?_append,d]
  rw[g,f];exact h.2 k _ _ (by simp) (by simp)
 ·rw[PE (by omega)];have f:(args'.toArray++Array.replicate (n-args'.toArray.size) undef).getD k undef=undef:=by
   have d:¬k<args'.length:=by omega
   simp;grind
  rw[f,RZ];exact Sm σ
end
end Go.Xe
namespace Go.Xe
open Go.RowKit
def i7 :Op->Nat
 | .move _| .assign _| .pick _ _ _| .build _ _| .nilCheck _| .binOp _ _ _ _ _| .unOp _ _ _| .convert _ _ _| .makeInterface _ _| .makeFunc _ _ _
 | .fieldAddr _ _ _| .field _ _ _| .indexAddr _ _ _| .index _ _ _| .extract _ _=>0
 | .load _ _| .slice _ _ _ _ _| .lookup _ _ _ _| .call ⟨.builtin .len,_,_⟩=>1
 | .alloc e| .box e _=>bif Nat.beq e rgT then 3 else 2
 | .buildSlice _ _ _| .makeSlice _ _ _| .makeMap _ _| .range _ _=>2
 | .call ⟨.builtin .cap,_,_⟩| .call ⟨.builtin .min,_,_⟩| .call ⟨.builtin .max,_,_⟩=>0
 |_=>3
variable {P:Aw}{call:j8}{tm:Ao}
def Ej {o:Op}(h:i7 o=0):∃r:Ag,∀hp,xop P call tm hp o=j3 hp r:=by
 cases o with
 |move x=>exact⟨_,fun _=>rfl⟩|assign x=>exact⟨_,fun _=>rfl⟩|pick c a b=>simp only[c8,m8];split;rename_i t _;cases t<;>exact⟨_,fun _=>rfl⟩;exact⟨none,fun _=>rfl⟩
 |build t ps=>simp only[c8,m8];split<;>first|exact⟨_,fun _=>rfl⟩|exact⟨none,fun _=>rfl⟩
 |nilCheck x=>simp only[c8,m8];split;exact⟨some _,fun _=>rfl⟩;exact⟨some _,fun _=>rfl⟩;exact⟨none,fun _=>rfl⟩|binOp op t x y n=>
  simp only[c8,m8];split;split<;>first|exact⟨_,fun _=>rfl⟩|exact⟨none,fun _=>rfl⟩
  exact⟨none,fun _=>rfl⟩
 |unOp op t x=>simp only[c8,m8];split<;>first|exact⟨_,fun _=>rfl⟩|exact⟨none,fun _=>rfl⟩
 |convert s d x=>simp only[c8,m8];split<;>first|exact⟨_,fun _=>rfl⟩|exact⟨none,fun _=>rfl⟩
 |makeInterface t x=>simp only[c8,m8];split<;>first|exact⟨_,fun _=>rfl⟩|exact⟨none,fun _=>rfl⟩
 |makeFunc f a b=>
  simp only[c8,m8];split;split<;>first|exact⟨some _,fun _=>rfl⟩|exact⟨none,fun _=>rfl⟩
  exact⟨none,fun _=>rfl⟩
 |fieldAddr t x f=>simp only[c8,m8];split<;>first|exact⟨_,fun _=>rfl⟩|exact⟨none,fun _=>rfl⟩
 |field t x f=>simp only[c8,m8];split<;>first|exact⟨_,fun _=>rfl⟩|exact⟨none,fun _=>rfl⟩
 |indexAddr t x i=>
  simp only[c8,m8];split;split<;>first|exact⟨_,fun _=>rfl⟩|exact⟨none,fun _=>rfl⟩
  exact⟨none,fun _=>rfl⟩
 |index t x i=>
  simp only[c8,m8];split;split<;>first|exact⟨_,fun _=>rfl⟩|exact⟨none,fun _=>rfl⟩
  exact⟨none,fun _=>rfl⟩
 |extract x i=>simp only[c8,m8];split<;>first|exact⟨_,fun _=>rfl⟩|exact⟨none,fun _=>rfl⟩
 |call c=>
  obtain⟨g,args,ats⟩:=c;cases g with
  |value f=>simp[i7]at h|invoke r m=>simp[i7]at h|builtin b=>
   simp only[c8,m8];split
   ·rename_i vs _;generalize ats.toList=j;cases b<;>first
     | (simp[i7]at h;done)
     | (rcases j with _| ⟨t,_| ⟨u,r⟩⟩<;>rcases vs with _| ⟨x,_| ⟨y,l⟩⟩<;>first|exact⟨_,fun _=>rfl⟩|exact⟨none,fun _=>rfl⟩)
   exact⟨none,fun _=>rfl⟩
 |alloc e=>simp only[i7]at h;cases hb:Nat.beq e rgT<;>rw[hb]at h<;>cases h
 |box e x=>simp only[i7]at h;cases hb:Nat.beq e rgT<;>rw[hb]at h<;>cases h
 |_=>simp[i7]at h
def xrd (P:Aw)(tm:Ao)(hp:Hp)(o:Op):Ag:=
 match xop P ⟨fun _ _ _=>none,fun _=>none,fun _ _ _=>none⟩ tm hp o with
 |some (v,hp')=>bif Nat.beq hp'.nx hp.nx then some v else none|none=>none
variable {v:Av}
theorem pZ {hp hp':Hp}{t:Ax}{x:Av}{lo hi mx:Ag}(h:v8 P hp t x lo hi mx=some (v,hp')):hp'=hp:=by
 have d:∀ {a:Av} {q:Hp},some (a,q)=some (v,hp')->q=hp->hp'=hp:=by grind
 have e:∀ {b:Bool} {x y:Bb (Av×Hp)},(bif b then x else y)=some (v,hp')->(x=some (v,hp')->hp'=hp)->(y=some (v,hp')->hp'=hp)->hp'=hp:=by grind
 unfold v8 at h;split at h;grind;split at h;cases h;split at h;grind;grind;grind;cases h;grind;cases h
def Ng {hp:Hp}{o:Op}(hk:i7 o=1)(h:xrd P tm hp o=some v):xop P call tm hp o=some (v,hp):=by
 unfold xrd at h;split at h
 ·rename_i l hp' hx;cases hb:Nat.beq hp'.nx hp.nx with
  |false=>rw[hb]at h;cases h
  |true=>
   rw[hb,PB,Pj]at h;subst h;have g:hp'=hp:=by
    cases o with
    |load t a=>simp only[c8,m8]at hx;split at hx;exact(j6 hx).2;cases hx
    |slice t x lo hi mx=>simp only[c8,m8]at hx;split at hx;split at hx;split at hx;split at hx;exact pZ hx;cases hx;cases hx;cases hx;cases hx
    |lookup t x k ok=>simp only [c8, m8] at hx;split at hx;split at hx;exact(j6 hx).2;cases hx;cases hx
    |call c=>
     obtain⟨d,args,ats⟩:=c;cases d with
     |builtin b=>
      cases b<;>first
       | (simp[i7]at hk;done)
       | (simp only[c8,m8]at hx
          split at hx;generalize ats.toList=i at hx;rename_i vs _;rcases i with _| ⟨t,_| ⟨u,r⟩⟩<;>rcases vs with _| ⟨x,_| ⟨y,j⟩⟩<;>simp only[C3,reduceCtorEq]at hx;exact(j6 hx).2;cases hx)
     |_=>simp[i7]at hk
    |alloc e=>simp only[i7]at hk;cases f:Nat.beq e rgT<;>rw[f]at hk<;>cases hk
    |box e x=>simp only[i7]at hk;cases f:Nat.beq e rgT<;>rw[f]at hk<;>cases hk
    |_=>simp[i7]at hk
   rw[g]at hx;cases o with
   |load t a=>exact hx|slice t x lo hi mx=>exact hx|lookup t x k ok=>exact hx|call c=>
    obtain⟨d,args,ats⟩:=c;cases d with
    |builtin b=>exact hx|_=>simp[i7]at hk
   |alloc e=>simp only[i7]at hk;cases f:Nat.beq e rgT<;>rw[f]at hk<;>cases hk
   |box e x=>simp only[i7]at hk;cases f:Nat.beq e rgT<;>rw[f]at hk<;>cases hk
   |_=>simp[i7]at hk
 cases h
section
variable {P :Aw}{B:BS}{w0:Bc}{σ:Sg}{hp:Hp}{w:Bc}
def rest (B:BS)(σ:Sg)(hp:Hp)(w:Bc):BS:=⟨fun k=>B.D k\/(k<w.heap.size/\ ∀i b r p,hp.m.get i=some b->Ix b r->σ.f i r=some p->p.blk≠k),B.D,fun _ h=>.inl h⟩
theorem KZ (h:HR B w0 σ hp w){k:Nat}(hk:rest B σ hp w k):k<w.heap.size:=by rcases hk with hk|hk;have:=h.old k (B.sub k hk);have:=h.size;omega;grind
def KY (_:HR B w0 σ hp w){i r:Nat}{b:Blk}{p:Pl}(hg:hp.m.get i=some b)(hx:Ix b r)(hp1:σ.f i r=some p)(hn:¬B p.blk):¬rest B σ hp w p.blk:=fun hb=>by rcases hb with hb|hb;exact hn (B.sub _ hb);exact hb.2 i b r p hg hx hp1 rfl
def Dk (h:HR B w0 σ hp w){k:Nat}(hk:B k):rest B σ hp w k:=by
 by_cases d:B.D k;exact .inl d
 ·refine .inr ⟨by have:=h.old k hk;have:=h.size;omega,fun i b r p hg hx hp1 he=>?_⟩;obtain⟨p',o,h1,h3,_⟩:=h.liv i b r hg hx;have:p'=p:=PK (h1.symm.trans hp1);subst this;cases hr:bY b with
  |true=>exact d (he▸h3.yes hr)|false=>exact h3.no hr (he▸hk)
def HR.max (h:HR B w0 σ hp w):HR (rest B σ hp w) w σ hp w:=by refine⟨rfl,rfl,rfl,PH _,fun k hk=>KZ h hk,fun k _=>rfl,h.frs,?_,h.ij,h.rz⟩;intro i b r hg hx;obtain⟨p,o,h1,h2,h3,h4⟩:=h.liv i b r hg hx;exact⟨p,o,h1,h2.to id (KY h hg hx h1),h3,h4⟩
def HR.back (h:HR B w0 σ hp w){σ':Sg}{hp':Hp}{w':Bc}(k:HR (rest B σ hp w) w σ' hp' w'):HR B w0 σ' hp' w':=by refine⟨k.os.trans h.os,k.tape.trans h.tape,k.output.trans h.output,Qt h.size k.size,h.old,fun b hb=>(k.kept b (Dk h hb)).trans (h.kept b hb),k.frs,?_,k.ij,k.rz⟩;intro i b r hg hx;obtain⟨p,o,h1,h3,h4⟩:=k.liv i b r hg hx;exact⟨p,o,h1,h3.to id (fun hn hb=>hn (Dk h hb)),h4⟩
def Ext (B:BS)(σ:Sg)(hp:Hp)(w:Bc)(id:Nat)(n:Nw)(b:Nat):Prop:=
 ∃p o,σ id=some p/\p.blk=b/\w.heap[b]? =some o/\BR σ p n.blk o/\ ¬B b/\ ∀i b2 r q,hp.m.get i=some b2->Ix b2 r->σ.f i r=some q->q.blk≠b
def Hp.take (hp:Hp)(id:Nat)(n:Nw):Hp:= {hp with m:=hp.m.set id (some n.blk)}
def HR.take (h:HR B w0 σ hp w){d b:Nat}{n:Nw}(hx:Ext B σ hp w d n b):HR B w0 σ (hp.take d n) w:=by
 obtain⟨p,o,h1,rfl,h4,E,F,A⟩:=hx;refine⟨h.os,h.tape,h.output,h.size,h.old,h.kept,h.frs,?_,?_,fun i t hg g=>?_⟩;intro i t r hg hx;simp only[Hp.take,Sa]at hg;by_cases hi:i=d;rw[PG hi]at hg;simp only[Pj]at hg;subst hg;subst hi;have:=(Ry n.rg).1 hx;subst this;exact⟨p,o,h1,.of F n.ro,h4,(BX.of n.rg).2 E⟩;rw[PE hi]at hg;exact h.liv i t r hg hx
 ·intro i j l t r s q q' hi hj hx hy z hq hr;simp only[Hp.take,Sa]at hi hj;have u:∀i l r q,(if i=d then some n.blk else hp.m.get i)=some l->Ix l r->σ.f i r=some q->(i=d/\r=0/\q=p)\/(i≠d/\hp.m.get i=some l):=by intro i l r q hi hx hq;by_cases e:i=d;rw[PG e]at hi;simp only[Pj]at hi;subst hi;subst e;have:=(Ry n.rg).1 hx;subst this;exact .inl ⟨rfl,rfl,PK (hq.symm.trans h1)⟩;rw[PE e]at hi;exact .inr ⟨e,hi⟩
  rcases u i l r q hi hx hq with⟨C,y,D⟩| ⟨C,y⟩<;>rcases u j t s q' hj hy hr with⟨k1,k2,k3⟩| ⟨k1,k2⟩;omega;rw[D];exact Ne.symm (A j _ s q' k2 hy hr);rw[k3];exact A i _ r q y hx hq;exact h.ij i j _ _ r s q q' y k2 hx hy z hq hr
 simp only[Hp.take,Sa]at hg;by_cases hi:i=d;rw[PG hi,Pj]at hg;subst hg;rw[n.rg]at g;cases g;rw[PE hi]at hg;exact h.rz i t hg g
def HR.lay (h:HR B w0 σ hp w){f:Nat}(d:σ f=none)(hlt:f<hp.nx)(n:Nw){o:Obj}{p:Pl}(l:p.blk=w.heap.size)(hv:BR σ p n.blk o):HR B w0 (σ.ext f p) hp (w.alloc o)/\Ext B (σ.ext f p) hp (w.alloc o) f n w.heap.size:=by
 have g:=RW (σ:=σ) p d;have s:=h.allocO f hp.nx d (PH _) hlt n.blk o p l (hv.mono g) n.ro n.rg;have j:∀i b,hp.m.get i=some b->i≠f:=by
  intro i b hg e;subst e;cases hb:iY b with
  |false=>obtain⟨p,o,h1,_⟩:=h.live _ b hg hb;rw[d]at h1;cases h1
  |true=>obtain⟨⟨p,h1⟩,_⟩:=h.rz _ b hg hb;rw[d]at h1;cases h1
 have hl:=s.less (m:=hp.m) (fun i b hg=>by show(hp.m.set f _).get i=_;rw[Sa,PE (j i b hg)];exact hg);refine⟨by simpa using hl,p,o,RT _ _ _,l,?_,hv.mono g,?_,?_⟩;show(w.heap.push _)[w.heap.size]? =_;simp;intro hb;have h1:=h.old _ hb;have h2:=h.size;omega;intro i b r q hg hx hq;rw[RR _ _ _ (.inl (j i b hg))]at hq;obtain⟨p',o',h1,_,h4,_⟩:=h.liv i b r hg hx;have:p'=q:=PK (h1.symm.trans hq);subst this;have:=(Pz.1 h4).1;omega
