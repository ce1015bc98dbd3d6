/- The executor, parts 8, 9, M, C, 10, 11, 12.
  Conditions: none. -/
import Derived.Test.YtoegfalhkackeaaGreatXm1
import Derived.Lib.AppendZerosOnto
import Derived.Lib.Overlaps
import Derived.LoopNIn
import Derived.RangeFuncNested
set_option linter.all false
noncomputable section
namespace Go.Xe
open Go.RowKit
section
variable {P :Aw}{B:BS}{w0:Bc}{σ:Sg}{hp:Hp}{w:Bc}
def z7 (hp:Hp)(size:Nat)(x:Av):Bb (Nat×Af):=
 match x with
 | .slice none n _=>bif Nat.beq n 0 then some (0,[])else none| .slice (some ⟨i,o,none⟩) n _=>match hp.m.get i with
  |some b=>match rdC b with
   | some (c, k, _) => bif Nat.ble (o + n * size) k then
     match j9 c o (n*size)with
     |some vs=>some (n,vs)|none=>none
    else none
   |none=>none
  |none=>none
 | .slice (some ⟨0,0,some 0⟩) 0 _=>some (0,[])|_=>none
variable {x x':Av}{vs:Af}
theorem oN {size n:Nat}(h:z7 hp size x=some (n,vs))(hx:VR σ x x')(f:HR B w0 σ hp w):∃us,VRL σ vs us/\us.length=n*size/\(∃b c,x'= .slice b n c/\(b=none->n=0/\us=[])/\ ∀a,b=some a-> ∀j u,us[j]? =some u->w.cell? (a.add j)=some u):=by
 unfold z7 at h;split at h
 ·rename_i k c;cases hb:Nat.beq k 0 with
  |false=>grind|true=>rw[hb,TE]at h;cases h;have hk:=Tp hb;subst hk;cases hx;exact⟨[],Wi σ,by simp,none,c,rfl,(fun _=>⟨rfl,rfl⟩),(fun a l=>by grind)⟩
 ·rename_i i o k cap;split at h
  ·rename_i b hg;split at h
   ·rename_i c m z hr;cases hb:Nat.ble (o+k*size) m with
    |false=>grind|true=>
     rw[hb,TE]at h;split at h
     ·rename_i g hl;cases h;cases hx with
      |slice _ _ p _ _ c' hp' hc d=>
      obtain⟨us,h1,h2,h3⟩:=f.cellsR hg hr (To hb) hl hp';grind
     cases h
   cases h
  cases h
 ·simp at h;obtain⟨rfl,rfl⟩:=h;cases hx with
  |vague q c'=>exact⟨[],Wi σ,by simp,_,c',rfl,(fun h=>by grind),(by grind)⟩
 cases h
variable {us:Af}
def iB {size n:Nat}{b:Aq}{c:Nat}(d:us.length=n*size)(hn:b=none->n=0/\us=[])(hs:∀a,b=some a-> ∀j u,us[j]? =some u->w.cell? (a.add j)=some u):(Builtin.firstCells size n (.slice b n c)).run P w= .ok us.toArray w:=by
 cases b with
 |none=>obtain⟨rfl,rfl⟩:=hn rfl;exact run_firstCells_none w size 0 0 c
 |some a=>exact run_firstCells_some w size n a n c us d (hs a rfl)
variable {w':Bc}
def P6 (t u ty e e2:Ax)(i:Ba)(ht:P.underlying t=some (.slice e))(j:P.underlying u=some (.slice e2))(hi:P.info? e=some i)(a:Addr)(d f n c:Nat)(b:Aq)(us:Af)(hf:(Builtin.firstCells i.size n (.slice b n c)).run P w= .ok us.toArray w)(g:d+n<=f)(h:(storeCells (a.add (d*i.size)) us).run P w= .ok () w'):(Builtin.append_ #[t,u] ty #[.slice (some a) d f,.slice b n c]).run P w= .ok (.slice (some a) (d+n) f) w':=by simp[Builtin.append_,TL ht,TL j,sizeOf,typeInfo,hi,Builtin.lenOf,g,hf,h]
theorem Y6 (t u ty e e2:Ax)(i:Ba)(z:Av)(ht:P.underlying t=some (.slice e))(A:P.underlying u=some (.slice e2))(hi:P.info? e=some i)(hz:i.zero=some z)(g:Aq)(d f n c:Nat)(b:Aq)(h us:Af)(q:∀w',w'.heap=w.heap->(Builtin.firstCells i.size d (.slice g d f)).run P w'= .ok h.toArray w')(hf:∀w',w'.heap=w.heap->(Builtin.firstCells i.size n (.slice b n c)).run P w'= .ok us.toArray w')(hg:f<d+n)(y:((d+n:Nat):Int)<=9223372036854775807)(s:Builtin.nextslicecap (d+n) f*i.bytes<=281474976710656):(Builtin.append_ #[t,u] ty #[.slice g d f,.slice b n c]).run P w= .ok (.slice (some ⟨w.heap.size,0,none⟩) (d+n) (grownCap w (d+n) f e)) (w.drew.alloc (.cells (h.toArray++us.toArray++Builtin.zeroCells z.cells (grownCap w (d+n) f e-(d+n))) e)):=by
 have hn:¬(d+n<=f):=by omega
 have l:¬(9223372036854775807<((d:Int)+(n:Int))):=by omega
 have j:¬(281474976710656<Builtin.nextslicecap (d+n) f*i.bytes):=by omega
 have e1:=hf w.drew rfl;have p:=q w.drew rfl;simp[Builtin.append_,TL ht,TL A,sizeOf,typeInfo,zeroValue,hi,hz,Builtin.lenOf,hn,l,j,Question.forced,e1,p,newRow,grownCap];grind
theorem HR.kill (h:HR B w0 σ hp w)(i:Nat):HR B w0 σ {hp with m:=hp.m.set i none} w:=by refine h.sub (TK _) fun j b hj=>?_;have hj:(hp.m.set i none).get j=some b:=hj;rw[VX]at hj;grind
theorem HR.grown (g:HR B w0 σ hp w)(hv:VRL σ vs us)(d:Al)(c:Ao)(hc:∀j,j<vs.length->c.get j=vs[j]?)(e z:Nat):HR B w0 (σ.ext hp.nx ⟨w.heap.size,0,us.length+d.size,z⟩) ⟨hp.m.set hp.nx (some (.cells c vs.length e z)),hp.nx+1⟩ (w.drew.alloc (.cells (us.toArray++d) e)):=by
 have:=g.drew.alloc c vs.length e z (us.toArray++d) (by rw[hv.1];simp) (fun j hj=>by
  have f:j<us.length:=by rw[<-hv.1];exact hj
  refine⟨vs[j],us[j],by grind,?_,hv.2 j _ _ (by simp) (by simp)⟩;simp[Array.getElem?_append,f])
 simp_all
def HR.of_same (h:HR B w0 σ hp w){hp2:Hp}(hn:hp2.nx=hp.nx)(hm:∀i,hp2.m.get i=hp.m.get i):HR B w0 σ hp2 w:=
 h.sub (Nat.le_of_eq hn.symm) fun i b hg=>by rw[<-hm];exact hg
def E1 (P:Aw)(hp:Hp)(t u:Ax)(s x:Av):Bb (Av×Hp):=
 match P.underlying t,P.underlying u with
 |some (.slice e),some (.slice _)=>match P.info? e with
  |none=>none|some ie=>match ie.zero with
   |none=>none
   | some z => bif Nat.beq z.cells.toList.length ie.size && Nat.ble ie.bytes 1048576 then
     match z7 hp ie.size x with
     |none=>none|some (n,news)=>match s with
      | .slice none sLen sCap => bif Nat.beq sLen 0 && Nat.beq sCap 0 && Nat.ble n 67108864 then
        bif Nat.beq n 0 then some (.slice none 0 0,hp)
        else some (.slice (some ⟨hp.nx,0,none⟩) n (d9 n 0),hp.new news e ie.size)
       else none
      | .slice (some ⟨i,o,none⟩) sLen sCap=>match hp.m.get i with
       |some (.cells c k e' z')=>
        bif Nat.ble (sLen+n) 67108864&&news.all Value.oneCell' then
         bif Nat.beq n 0 then
          bif Nat.ble sLen sCap then some (.slice (some ⟨i,o,none⟩) sLen sCap,hp)else none
         else
          bif Nat.ble unk sCap then
           bif Nat.ble 1 (F5 sCap)&&Nat.ble (F5 sCap) (sLen+n)then
            bif Nat.ble (o+sLen*ie.size) k then
             match j9 c o (sLen*ie.size)with
             |none=>none|some olds=>some (.slice (some ⟨hp.nx,0,none⟩) (sLen+n) (d9 (sLen+n) 0),hp.new (olds++news) e ie.size)
            else none
           else bif Nat.beq z' ie.size&&Nat.beq e' e&&Nat.ble (o+sLen*ie.size) k then
            bif Nat.ble (sLen+n) (P4 sCap)then
             some (.slice (some ⟨i,o,none⟩) (sLen+n) sCap,qL hp i c (Nat.max k (o+(sLen+n)*ie.size)) e' z' (o+sLen*ie.size) news)
            else
            match j9 c o (sLen*ie.size)with
            |none=>none|some olds=>
             (bif Nat.beq o 0 then fill c (sLen*ie.size) news else fill (fill .e 0 olds) (sLen*ie.size) news).force fun ct=>
              some (.slice (some ⟨hp.nx,0,none⟩) (sLen+n) (d9 (sLen+n) 0),⟨(hp.m.set i none).set hp.nx (some (.cells ct ((sLen+n)*ie.size) e' z')),hp.nx+1⟩)
           else none
          else bif Nat.ble (sLen+n) sCap then
           bif Nat.ble (o+(sLen+n)*ie.size) k then
            some (.slice (some ⟨i,o,none⟩) (sLen+n) sCap,qL hp i c k e' z' (o+sLen*ie.size) news)
           else none
          else
           bif Nat.ble (o+sLen*ie.size) k then
            match j9 c o (sLen*ie.size)with
            |none=>none|some olds=>some (.slice (some ⟨hp.nx,0,none⟩) (sLen+n) (d9 (sLen+n) 0),hp.new (olds++news) e ie.size)
           else none
        else none
       |some (.ro c k _ _)=>
        bif Nat.ble (sLen+n) 67108864&&Nat.ble sLen sCap&& !Nat.ble unk sCap then
         bif Nat.beq n 0 then some (.slice (some ⟨i,o,none⟩) sLen sCap,hp)
         else bif Nat.ble (sLen+n) sCap then none
         else bif Nat.ble (o+sLen*ie.size) k then
          match j9 c o (sLen*ie.size)with
          |none=>none|some olds=>some (.slice (some ⟨hp.nx,0,none⟩) (sLen+n) (d9 (sLen+n) 0),hp.new (olds++news) e ie.size)
         else none
        else none
       |_=>none
      |_=>none
    else none
 |_,_=>none
def B3 {c:Ao}:∀ {vs:Af} {o:Nat},(∀j,j<vs.length->c.get (o+j)=vs[j]?)->j9 c o vs.length=some vs
 | [],o,_=>rfl|v::vs,o,h=>by simp only[Ue,j9];have h0:=h 0 (by simp);simp only[UA,TC]at h0;rw[h0];have:=B3 (c:=c) (vs:=vs) (o:=o+1) (fun j hj=>by have:=h (j+1) (by simp;omega);rw[show o+(j+1)=o+1+j by omega]at this;simpa using this);rw[this]
theorem VR.unkSlice (σ:Sg)(i:Nat)(p:Pl)(d:p.dl=0){l c':Nat}(hl:l<=c')(hb:c'*p.esz<=p.siz):VR (σ.ext i p) (.slice (some ⟨i,0,none⟩) l (d9 l 0)) (.slice (some ⟨p.blk,0,none⟩) l c'):=by have:=VR.slice (σ:=σ.ext i p) i 0 p l (d9 l 0) c' (VQ _ _ _) (.inr ⟨p8 _ _,by rw[I1 F9];exact hl,.inl (G8 F9),by omega⟩) hl;grind
def iT (h:w'.heap=w.heap)(a:Addr):w'.cell? a=w.cell? a:=by unfold World.cell?;rw[h]
set_option maxHeartbeats 1000000 in
theorem xE {t u:Ax}{s s':Av}{v:Av}{hp':Hp}(h:E1 P hp t u s x=some (v,hp'))(hs:VR σ s s')(hx:VR σ x x')(J:HR B w0 σ hp w)(ty:Ax):MOK hp B w0 σ v hp' ((Builtin.append_ #[t,u] ty #[s',x']).run P w):=by
 unfold E1 at h;split at h;case h_2=>cases h
 rename_i e e2 ht Q;split at h;cases h;rename_i ie H;split at h;cases h;rename_i z hz;cases hb:Nat.beq z.cells.toList.length ie.size&&Nat.ble ie.bytes 1048576 with
 |false=>grind|true=>
 rw[hb,TE]at h;simp only[Tl]at hb;have ez:z.cells.size=ie.size:=by simp_all
 have eb:=To hb.2;split at h;cases h;rename_i n news bj;obtain⟨us,hv,C,b,c,rfl,av,aw⟩:=oN bj hx J;have O:news.length=n*ie.size:=by rw[hv.1];exact C
 have hf:(Builtin.firstCells ie.size n (.slice b n c)).run P w= .ok us.toArray w:=iB C av aw;have ak:∀w':Bc,w'.heap=w.heap->(Builtin.firstCells ie.size n (.slice b n c)).run P w'= .ok us.toArray w':=fun w' hh=>
  iB C av (fun a ha j u Q=>by rw[iT hh];exact aw a ha j u Q)
 split at h
 ·rename_i d f;cases h0:Nat.beq d 0&&Nat.beq f 0&&Nat.ble n 67108864 with
  |false=>grind|true=>
  rw[h0,TE]at h;simp only[Tl]at h0;have e1:=Tp h0.1.1;have bh:=Tp h0.1.2;have hn:=To h0.2;subst e1;subst bh;cases hs;cases q:Nat.beq n 0 with
  |true=>rw[q,TE]at h;cases h;have:=Tp q;subst this;have ab:us=[]:=Tq (by simpa using C);refine⟨σ,.slice none 0 0,w,?_,VS _ σ,.nils 0 0,J⟩;simp[Builtin.append_,TL ht,TL Q,sizeOf,typeInfo,H,Builtin.lenOf,hf]
  |false=>
   rw[q,TF]at h;cases h;have ad:n≠0:=fun e=>by rw[e]at q;cases q
   have hr:=Y6 (P:=P) (w:=w) t u ty e e2 ie z ht Q H hz none 0 0 n c b [] us (fun w' _=>run_firstCells_none w' ie.size 0 0 0) ak (by omega) (by omega)
    (growslice_fits (by omega) (by have:=Nat.mul_le_mul (show 0+n<=67108864 by omega) eb;omega))
   simp only[TT]at hr;have hge:=grownCap_ge w n 0 e;have L:=J.grown hv (Builtin.zeroCells z.cells (grownCap w n 0 e-n)) (fill .e 0 news) (fun j hj=>p6 news j hj) e ie.size;refine⟨_,_,_,hr,J.le_new _,VR.unkSlice σ hp.nx ⟨w.heap.size,0,us.length+(Builtin.zeroCells z.cells (grownCap w n 0 e-n)).size,ie.size⟩ rfl hge ?_,?_⟩;show grownCap w n 0 e*ie.size<=us.length+_;rw[size_zeroCells,C,ez,<-TX];grind;simpa [Hp.new]using L
 ·rename_i i o d f;split at h;case h_3=>cases h
  case h_2=>
   rename_i k0 k e' z' hg;cases h0:Nat.ble (d+n) 67108864&&Nat.ble d f&& !Nat.ble unk f with
   |false=>grind|true=>
   rw[h0,TE]at h;simp only[Tl,Uh]at h0;obtain⟨⟨g1,g2⟩,g3⟩:=h0;have hn:=To g1;have g3:¬unk<=f:=fun h=>by rw[Ts h]at g3;cases g3
   cases hs with
   |slice _ _ p _ _ c' E S al=>
   obtain⟨rfl,_⟩:f=c'/\f<unk:=by grind
   cases q:Nat.beq n 0 with
   |true=>rw[q,TE]at h;have:=Tp q;subst this;have ab:us=[]:=Tq (by simpa using C);subst ab;cases h;refine⟨σ,_,w,P6 t u ty e e2 ie ht Q H _ d f 0 c b [] hf (by omega) (by simp[storeCells]),VS _ σ,.slice i o p d f f E S al,J⟩
   |false=>
   rw[q,TF]at h;have ad:n≠0:=fun e=>by rw[e]at q;cases q
   cases ao:Nat.ble (d+n) f with
   |true=>grind|false=>
   rw[ao,TF]at h;have hlt:f<d+n:=Nat.lt_of_not_le fun h=>by rw[Ts h]at ao;cases ao
   cases A:Nat.ble (o+d*ie.size) k with
   |false=>grind|true=>
   rw[A,TE]at h;have A:=To A;split at h;cases h;rename_i l I;simp only[Tk,Tm]at h;obtain⟨rfl,rfl⟩:=h;obtain⟨y,aq,D,ae⟩:=J.cellsR hg rfl A I E;have aj:∀w':Bc,w'.heap=w.heap->(Builtin.firstCells ie.size d (.slice (some ⟨p.blk,p.dl+o,none⟩) d f)).run P w'= .ok y.toArray w':=fun w' hh=>
    run_firstCells_some w' ie.size d _ d f y D (fun j u Q=>by rw[iT hh];exact ae j u Q)
   have hr:=Y6 (P:=P) (w:=w) t u ty e e2 ie z ht Q H hz (some ⟨p.blk,p.dl+o,none⟩) d f n c b y us aj ak hlt (by omega)
    (growslice_fits hlt (by have:=Nat.mul_le_mul hn eb;omega))
   have hge:=grownCap_ge w (d+n) f e;have G:=aq.append hv;have ah:(l++news).length=(d+n)*ie.size:=by rw[G.1,TO,D,C,TX]
   have L:=J.grown G (Builtin.zeroCells z.cells (grownCap w (d+n) f e-(d+n))) (fill .e 0 (l++news)) (fun j hj=>p6 _ j hj) e ie.size;have ap:(y++us).length=(d+n)*ie.size:=by rw[<-G.1];exact ah
   rw[show(y++us).toArray=y.toArray++us.toArray by simp]at L;refine⟨_,_,_,hr,J.le_new _,VR.unkSlice σ hp.nx ⟨w.heap.size,0,(y++us).length+(Builtin.zeroCells z.cells (grownCap w (d+n) f e-(d+n))).size,ie.size⟩ rfl hge ?_,by simpa [Hp.new]using L⟩;show grownCap w (d+n) f e*ie.size<=(y++us).length+_;rw[size_zeroCells,ap,ez,<-TX];grind
  rename_i k0 k e' z' hg;cases h0:Nat.ble (d+n) 67108864&&news.all Value.oneCell' with
  |false=>rw[h0]at h;cases h
  |true=>
  rw[h0,TE]at h;simp only[Tl]at h0;have hn:=To h0.1;have V:=hv.all_oneCell h0.2;cases hs with
  |slice _ _ p _ _ c' E S al=>
  obtain⟨k1,k2⟩:=J.place hg E;cases q:Nat.beq n 0 with
  |true=>
   rw[q,TE]at h;have:=Tp q;subst this;have ab:us=[]:=Tq (by simpa using C);subst ab;cases X:Nat.ble d f with
   |false=>simp_all|true=>rw[X,TE]at h;simp only[Tk,Tm]at h;obtain⟨rfl,rfl⟩:=h;refine⟨σ,_,w,P6 t u ty e e2 ie ht Q H _ d c' 0 c b [] hf (by omega) (by simp[storeCells]),VS _ σ,.slice i o p d f c' E S al,J⟩
  | false =>
  rw[q,TF]at h;have ad:n≠0:=fun e=>by rw[e]at q;cases q
  have grow:∀l:Af,j9 k0 o (d*ie.size)=some l->o+d*ie.size<=k->c'<d+n-> ∀(Z:Hp),HR B w0 σ Z w-> ∀ct:Ao,(∀j,j<(l++news).length->ct.get j=(l++news)[j]?)->
    ∀ex zx,ex=e->zx=ie.size->Z.nx=hp.nx->
    MOK hp B w0 σ (.slice (some ⟨hp.nx,0,none⟩) (d+n) (d9 (d+n) 0)) ⟨Z.m.set hp.nx (some (.cells ct ((d+n)*ie.size) ex zx)),hp.nx+1⟩
     ((Builtin.append_ #[t,u] ty #[.slice (some ⟨p.blk,p.dl+o,none⟩) d c',.slice b n c]).run P w):=by
   rintro l I A hlt Z bl ct ai ex zx rfl rfl bk;obtain⟨y,aq,D,ae⟩:=J.cells hg A I E;have aj:∀w':Bc,w'.heap=w.heap->(Builtin.firstCells ie.size d (.slice (some ⟨p.blk,p.dl+o,none⟩) d c')).run P w'= .ok y.toArray w':=fun w' hh=>
    run_firstCells_some w' ie.size d _ d c' y D (fun j u Q=>by rw[iT hh];exact ae j u Q)
   have hr:=Y6 (P:=P) (w:=w) t u ty ex e2 ie z ht Q H hz (some ⟨p.blk,p.dl+o,none⟩) d c' n c b y us aj ak hlt (by omega)
    (growslice_fits hlt (by have:=Nat.mul_le_mul hn eb;omega))
   have hge:=grownCap_ge w (d+n) c' ex;have G:=aq.append hv;have ah:(l++news).length=(d+n)*ie.size:=by rw[G.1,TO,D,C,TX]
   have L:=bl.grown G (Builtin.zeroCells z.cells (grownCap w (d+n) c' ex-(d+n))) ct ai ex ie.size;rw[ah,bk]at L;have ap:(y++us).length=(d+n)*ie.size:=by grind
   rw[show(y++us).toArray=y.toArray++us.toArray by simp]at L;refine⟨_,_,_,hr,J.le_new _,VR.unkSlice σ hp.nx ⟨w.heap.size,0,(y++us).length+(Builtin.zeroCells z.cells (grownCap w (d+n) c' ex-(d+n))).size,ie.size⟩ rfl hge ?_,L⟩;show grownCap w (d+n) c' ex*ie.size<=(y++us).length+_;rw[size_zeroCells,ap,ez,<-TX];exact Ty _ (by omega)
  have R:∀ {v:Av} {hp':Hp},c'<d+n->(bif Nat.ble (o+d*ie.size) k then
    match j9 k0 o (d*ie.size)with
    |none=>none|some l=>some (Value.slice (some ⟨hp.nx,0,none⟩) (d+n) (d9 (d+n) 0),hp.new (l++news) e ie.size)
   else none)=some (v,hp')->MOK hp B w0 σ v hp' ((Builtin.append_ #[t,u] ty #[.slice (some ⟨p.blk,p.dl+o,none⟩) d c',.slice b n c]).run P w):=by
   intro v hp' hlt h;cases A:Nat.ble (o+d*ie.size) k with
   |false=>rw[A]at h;cases h
   |true=>rw[A,TE]at h;have A:=To A;split at h;cases h;rename_i l I;simp only[Tk,Tm]at h;obtain⟨rfl,rfl⟩:=h;have Y:=(l9 I).1;have:=grow l I A hlt hp J (fill .e 0 (l++news)) (fun j hj=>p6 _ j hj) e ie.size rfl rfl rfl;rw[show(d+n)*ie.size=(l++news).length by rw[TO,Y,O,TX]]at this;exact this
  cases N:Nat.ble unk f with
  |true=>
   rw[N,TE]at h;have N:=To N;obtain⟨ay,ax,ac⟩:P4 f<=c'/\(F5 f=0\/c'<F5 f)/\p.dl+o+c'*p.esz<=p.siz:=by rcases S with⟨_,h⟩| ⟨_,h2,h3,h4⟩;omega;exact⟨h2,h3,h4⟩
   cases F:Nat.ble 1 (F5 f)&&Nat.ble (F5 f) (d+n)with
   |true=>rw[F,TE]at h;simp only[Tl]at F;have g1:=To F.1;have g2:=To F.2;exact R (by omega) h|false=>
   rw[F,TF]at h;cases h1:Nat.beq z' ie.size&&Nat.beq e' e&&Nat.ble (o+d*ie.size) k with
   |false=>rw[h1]at h;cases h
   |true=>
   rw[h1,TE]at h;simp only[Tl]at h1;have au:=Tp h1.1.1;have he:=Tp h1.1.2;have A:=To h1.2;cases aa:Nat.ble (d+n) (P4 f)with
   |true=>
    rw[aa,TE,H3]at h;have aa:=To aa;have g:d+n<=c':=by omega
    simp only[Tk,Tm]at h;obtain⟨rfl,rfl⟩:=h;have ba:p.dl+(o+d*ie.size+n*ie.size)<=p.siz:=by
     have:(d+n)*ie.size<=c'*p.esz:=by rw[k2,au];exact Ty _ g
     rw[TX]at this;omega
    obtain⟨w',W,hh,_⟩:=J.store (o:=o+d*ie.size) hg E hv V A (by rw[O];omega) P;have K:(⟨p.blk,p.dl+o,none⟩:Addr).add (d*ie.size)=⟨p.blk,p.dl+(o+d*ie.size),none⟩:=by rw[UW,Uu]
    have M:=P6 (P:=P) t u ty e e2 ie ht Q H ⟨p.blk,p.dl+o,none⟩ d c' n c b us hf g (w':=w') (by rw[K];exact W);refine⟨σ,_,w',M,VS _ σ,.slice i o p _ _ _ E (.inr ⟨N,ay,ax,ac⟩) g,?_⟩;rw[O,show max k (o+d*ie.size+n*ie.size)=Nat.max k (o+(d+n)*ie.size) by rw[TX,Uu]]at hh;exact hh
   |false=>
   rw [aa,TF] at h;split at h;cases h;rename_i l I;rw[VV]at h;generalize be:(bif Nat.beq o 0 then fill k0 (d*ie.size) news else fill (fill .e 0 l) (d*ie.size) news)=ct at h;simp only[Tk,Tm]at h;obtain⟨rfl,rfl⟩:=h;obtain⟨Y,an⟩:=l9 I;have ai:∀j,j<(l++news).length->ct.get j=(l++news)[j]? :=by
    intro j hj;rw[<-be];have bm:j<d*ie.size+news.length:=by simpa [Y]using hj
    by_cases bb:j<d*ie.size
    ·rw[Tu (by omega),an j bb];cases ho:Nat.beq o 0 with
     |true=>have:=Tp ho;subst this;rw[TE,j8,TH (by omega)];simp|false=>rw[TF,j8,TH (by omega),p6 l j (by omega),an j bb]
    ·rw[Tt (by omega),Y];cases ho:Nat.beq o 0 with
     |true=>rw[TE,j8,TJ (by omega)]|false=>rw[TF,j8,TJ (by omega)]
   by_cases g:d+n<=c'
   ·
    have ba:p.dl+o+(d*ie.size+n*ie.size)<=p.siz:=by
     have:(d+n)*ie.size<=c'*p.esz:=by rw[k2,au];exact Ty _ g
     rw[TX]at this;omega
    have hm:=J.move hg E (o:=o) (k:=d*ie.size) A (bif Nat.beq o 0 then k0 else fill .e 0 l) (fun j hj=>by
     cases ho:Nat.beq o 0 with
     |true=>have:=Tp ho;subst this;simp|false=>rw[TF,p6 l j (by omega),an j hj])
    have X:=J.le_new ⟨p.blk,p.dl+o,p.siz,p.esz⟩;obtain⟨w',W,hh,_⟩:=hm.store (i:=hp.nx) (o:=d*ie.size) (by rw[VX,TJ rfl]) (VQ _ _ _) (hv.mono X.le) V (TK _) (by show p.dl+o+_+_<=p.siz;rw[O];omega) P;have K:(⟨p.blk,p.dl+o,none⟩:Addr).add (d*ie.size)=⟨p.blk,p.dl+o+d*ie.size,none⟩:=UW _ _ _;have M:=P6 (P:=P) t u ty e e2 ie ht Q H ⟨p.blk,p.dl+o,none⟩ d c' n c b us hf g (w':=w') (by rw[K];exact W);refine⟨_,_,w',M,X,?_,?_⟩;have:=VR.slice (σ:=σ.ext hp.nx ⟨p.blk,p.dl+o,p.siz,p.esz⟩) hp.nx 0 ⟨p.blk,p.dl+o,p.siz,p.esz⟩ (d+n) (d9 (d+n) 0) c' (VQ _ _ _) (.inr ⟨p8 _ _,by rw[I1 F9];exact g,.inl (G8 F9),by simpa using ac⟩) g;simpa using this
    ·have bi:fill (bif Nat.beq o 0 then k0 else fill .e 0 l) (d*ie.size) news=ct:=by rw[<-be];cases Nat.beq o 0<;>rfl
     rw[bi,O,show max (d*ie.size) (d*ie.size+n*ie.size)=(d+n)*ie.size by rw[TX];omega]at hh;refine hh.of_same rfl (fun j=>?_);simp only[VX];split<;>rfl
   subst au;subst he;exact grow l I A (by omega) {hp with m:=hp.m.set i none} (J.kill i) _ ai _ _ rfl rfl rfl
  |false=>
   rw[N,TF]at h;have az:¬unk<=f:=fun h=>by rw[Ts h]at N;cases N
   obtain⟨rfl,bc⟩:f=c'/\f<unk:=by rcases S with h| ⟨h,_⟩;exact h;exact absurd h az
   cases g:Nat.ble (d+n) f with
   |true=>
    rw[g,TE]at h;have g:=To g;cases U:Nat.ble (o+(d+n)*ie.size) k with
    |false=>rw[U]at h;cases h
    |true=>
     rw[U,TE,H3]at h;have U:=To U;simp only[Tk,Tm]at h;obtain⟨rfl,rfl⟩:=h;rw[TX]at U;obtain⟨w',W,hh,_⟩:=J.store (o:=o+d*ie.size) hg E hv V (by omega) (by rw[O];omega) P;have K:(⟨p.blk,p.dl+o,none⟩:Addr).add (d*ie.size)=⟨p.blk,p.dl+(o+d*ie.size),none⟩:=by rw[UW,Uu]
     have M:=P6 (P:=P) t u ty e e2 ie ht Q H ⟨p.blk,p.dl+o,none⟩ d f n c b us hf g (w':=w') (by rw[K];exact W);refine⟨σ,_,w',M,VS _ σ,.slice i o p _ _ _ E (.inl ⟨rfl,bc⟩) g,?_⟩;rw[O,show max k (o+d*ie.size+n*ie.size)=k by omega]at hh;exact hh
   |false=>
    rw[g,TF]at h;have bg:¬d+n<=f:=fun h=>by rw[Ts h]at g;cases g
    exact R (by omega) h
 cases h
end
section
variable {P :Aw}{B:BS}{w0:Bc}{σ:Sg}{hp:Hp}{w:Bc}
def zW (P:Aw)(hp:Hp)(t:Ax)(d x:Av):Bb (Av×Hp):=
 match P.underlying t with
 |some (.slice e)=>match P.info? e with
  |none=>none|some ie=>match d with
   | .slice none dl _ => bif Nat.beq dl 0 then
     match x with
     | .slice (some ⟨_,_,none⟩) _ _| .slice none _ _=>some (.int .i64 0,hp)
     |_=>none
    else none
   | .slice (some ⟨0, 0, some 0⟩) 0 _ => match x with
     | .slice (some ⟨_,_,none⟩) _ _=>some (.int .i64 0,hp)|_=>none
   | .slice (some ⟨i,o,none⟩) dl dc=>match hp.m.get i with
    |some (.cells c k e' z')=>match x with
     | .slice none n _=>bif Nat.beq n 0 then some (.int .i64 0,hp)else none| .slice (some ⟨j,q,none⟩) n cx=>match z7 hp ie.size (.slice (some ⟨j,q,none⟩) (Nat.min n dl) cx)with
      | some (m, vs) => bif (Nat.ble (o + m * ie.size) k || (Nat.ble unk dc && Nat.beq z' ie.size && Nat.ble o k)) && Nat.ble m dl && vs.all Value.oneCell' then
        some (.int .i64 m,qL hp i c (Nat.max k (o+m*ie.size)) e' z' o vs)
       else none
      |none=>none
     | .slice (some ⟨0,0,some 0⟩) 0 _=>some (.int .i64 0,hp)|_=>none
    |_=>none
   |_=>none
 |_=>none
variable {v x x':Av}
theorem EP {t u:Ax}{d J:Av}{hp':Hp}(h:zW P hp t d x=some (v,hp'))(H:VR σ d J)(hx:VR σ x x')(g:HR B w0 σ hp w)(ty:Ax):MOK hp B w0 σ v hp' ((Builtin.copy_ #[t,u] ty #[J,x']).run P w):=by
 unfold zW at h;split at h;case h_2=>cases h
 rename_i e ht;split at h;cases h;rename_i ie f;split at h
 ·rename_i dl dc;cases hb:Nat.beq dl 0 with
  |false=>grind|true=>
  have hb:=Tp hb;subst hb;cases H;split at h
  ·rename_i j q n A;cases h;cases hx with
   |slice _ _ p _ _ c' hp' hc hl=>
   refine⟨σ,_,w,?_,VS _ σ,.int _ _,g⟩;simp[Builtin.copy_,TL ht,Builtin.lenOf,sizeOf,typeInfo,f,Builtin.firstCells,loadCells,loadCellsFrom,goInt]
  rename_i n A;cases h;cases hx;refine⟨σ,_,w,?_,VS _ σ,.int _ _,g⟩;simp[Builtin.copy_,TL ht,Builtin.lenOf,sizeOf,typeInfo,f,Builtin.firstCells,goInt];cases h
 ·rename_i dc;split at h
  ·simp only[Tk,Tm]at h;obtain⟨rfl,rfl⟩:=h;cases H;cases hx with
   |slice _ _ p _ _ c' hp' hc hl=>
   refine⟨σ,_,w,?_,VS _ σ,.int _ _,g⟩;simp[Builtin.copy_,TL ht,Builtin.lenOf,sizeOf,typeInfo,f,Builtin.firstCells,loadCells,loadCellsFrom,storeCells,goInt]
  cases h
 ·rename_i i o dl dc;split at h;case h_2=>cases h
  rename_i c k e' T hg;cases H with
  |slice _ _ p _ _ c' z hc hl=>
  obtain⟨k1,k2⟩:=g.place hg z;split at h
  ·rename_i n A;cases hb:Nat.beq n 0 with
   |false=>grind|true=>have hb:=Tp hb;subst hb;cases h;cases hx;refine⟨σ,_,w,?_,VS _ σ,.int _ _,g⟩;simp[Builtin.copy_,TL ht,Builtin.lenOf,sizeOf,typeInfo,f,Builtin.firstCells,goInt,storeCells]
  ·rename_i j q n A;cases hx with
   |slice _ _ p2 _ _ C hp2 G O=>
   split at h
   ·rename_i m vs hf;cases hb:(Nat.ble (o+m*ie.size) k|| (Nat.ble unk dc&&Nat.beq T ie.size&&Nat.ble o k))&&Nat.ble m dl&&vs.all Value.oneCell' with
    |false=>grind|true=>
     rw[hb,TE,H3]at h;simp only[Tl,UK]at hb;have Q:=To hb.1.2;have s:o<=k/\p.dl+(o+m*ie.size)<=p.siz:=by
      rcases hb.1.1 with N| ⟨⟨K,D⟩,L⟩;simp_all;omega
      ·have K:=To K;have D:=Tp D;have L:=To L;have:m*ie.size<=c'*p.esz:=by rw[k2,D];exact Ty _ (by omega)
       omega
     cases h;have R:Nat.min n dl<=n:=Nat.min_le_left _ _;obtain⟨us,hv,l,b,U,E,M,F⟩:=oN hf (.slice j q p2 (Nat.min n dl) A C hp2 G (by omega)) g;obtain⟨rfl,rfl,rfl⟩:=E;have y:=hv.all_oneCell hb.2;have S:=hv.1;obtain⟨w',I,hh,_⟩:=g.store hg z hv y s.1 (by omega) P;refine⟨σ,_,w',?_,VS _ σ,.int _ _,?_⟩;have hl:=run_loadCells_list (P:=P) w _ us (F _ rfl);rw[l]at hl;simp only[Builtin.copy_,List.getElem?_toArray,TC,Tw,TQ,TL ht,TM,Builtin.lenOf,TV,sizeOf,typeInfo,Vd,f,Builtin.firstCells,hl,I,goInt];grind
   cases h
  ·simp only[Tk,Tm]at h;obtain⟨rfl,rfl⟩:=h;cases hx with
   |vague q c'=>refine⟨σ,_,w,?_,VS _ σ,.int _ _,g⟩;simp[Builtin.copy_,TL ht,Builtin.lenOf,sizeOf,typeInfo,f,Builtin.firstCells,loadCells,loadCellsFrom,storeCells,goInt]
  cases h
 cases h
def K1 (v:Av)(y:Nat):Ai:=
 match v with
 | .int _ n=>bif decide (0<=n)&&decide (n<=y)then some n.toNat else none|_=>none
theorem O4 {v':Av}{y n:Nat}(h:K1 v y=some n)(hv:VR σ v v'){f:Nat}(hy:y<=f)(d:BoundsCode):n<=y/\ ∀w,(Instr.sliceBound v' f d).run P w= .ok n w:=by
 unfold K1 at h;split at h
 ·rename_i k m;cases hv;cases hb:decide (0<=m)&&decide (m<=y)with
  |false=>grind|true=>rw[hb,TE]at h;simp at hb;simp at h;subst h;exact⟨by omega,fun w=>run_sliceBound w k m f d hb.1 (by omega)⟩
 cases h
def A9 (len cb:Nat)(lo hi mx:Ag):Bb (Nat×Nat×Ai):=
 match(match mx with|some v=>(K1 v cb).map some|none=>some none)with
 |none=>none|some m=>match(match hi with|some v=>K1 v (m.getD cb)|none=>(match mx with|some _=>none|none=>some len))with
  |none=>none|some h=>match(match lo with|some v=>K1 v h|none=>some 0)with
   |none=>none|some l=>some (l,h,m)
def OVR (σ:Sg):Ag->Ag->Prop
 |none,none=>True|some v,some u=>VR σ v u|_,_=>False
variable {hi hi' lo lo' mx mx':Ag}
theorem H6 {len f cap:Nat}{l h:Nat}{m:Ai}(he:A9 len f lo hi mx=some (l,h,m))(h1:OVR σ lo lo')(h2:OVR σ hi hi')(h3:OVR σ mx mx')(hc:f<=cap)(p:len<=f)(isS:Bool):l<=h/\h<=m.getD f/\m.getD f<=f/\ ∀w,(Instr.sliceBounds isS len cap lo' hi' mx').run P w= .ok (l,h,m.getD cap) w:=by
 unfold A9 at he;cases mx with
 |none=>
  cases mx' with
  |some _=>exact h3.elim|none=>
  simp only[Option.getD_none]at he;cases hi with
  |none=>
   cases hi' with
   |some _=>exact h2.elim|none=>
   cases lo with
   |none=>
    cases lo' with
    |some _=>exact h1.elim|none=>
    cases he;exact⟨by omega,p,TK _,fun w=>rfl⟩
   |some lv=>
    cases lo' with
    |none=>exact h1.elim|some q=>
    cases hb:K1 lv len with
    |none=>grind|some y=>simp only[hb,Tk,Tm]at he;obtain⟨rfl,rfl,rfl⟩:=he;obtain⟨g,a2⟩:=O4 (P:=P) hb h1 (TK _) .sliceB;exact⟨g,p,TK _,fun w=>by simp[Instr.sliceBounds,a2]⟩
  |some hv=>
   cases hi' with
   |none=>exact h2.elim|some s=>
   cases d:K1 hv f with
   |none=>grind|some h0=>
    simp only[d]at he;obtain⟨i,j⟩:=O4 (P:=P) d h2 hc (if isS then .sliceAcap else .sliceAlen);cases lo with
    |none=>
     cases lo' with
     |some _=>exact h1.elim|none=>
     cases he;exact⟨by omega,i,TK _,fun w=>by simp[Instr.sliceBounds,j]⟩
    |some lv=>
     cases lo' with
     |none=>exact h1.elim|some q=>
     cases hb:K1 lv h0 with
     |none=>grind|some y=>simp only[hb,Tk,Tm]at he;obtain⟨rfl,rfl,rfl⟩:=he;obtain⟨g,a2⟩:=O4 (P:=P) hb h1 (TK _) .sliceB;exact⟨g,i,TK _,fun w=>by simp[Instr.sliceBounds,j,a2]⟩
 |some mv=>
  cases mx' with
  |none=>exact h3.elim|some A=>
  cases n:K1 mv f with
  |none=>grind|some z=>
   simp only[n,Ug,Ud]at he;obtain⟨t,u⟩:=O4 (P:=P) n h3 hc (if isS then .slice3Acap else .slice3Alen);cases hi with
   |none=>grind|some hv=>
    cases hi' with
    |none=>exact h2.elim|some s=>
    cases d:K1 hv z with
    |none=>grind|some h0=>
     simp only[d]at he;obtain⟨i,j⟩:=O4 (P:=P) d h2 (TK _) .slice3B;cases lo with
     |none=>
      cases lo' with
      |some _=>exact h1.elim|none=>
      cases he;exact⟨by omega,i,t,fun w=>by simp[Instr.sliceBounds,j,u]⟩
     |some lv=>
      cases lo' with
      |none=>exact h1.elim|some q=>
      cases hb:K1 lv h0 with
      |none=>grind|some y=>simp only[hb,Tk,Tm]at he;obtain⟨rfl,rfl,rfl⟩:=he;obtain⟨g,a2⟩:=O4 (P:=P) hb h1 (TK _) .slice3C;exact⟨g,i,t,fun w=>by simp[Instr.sliceBounds,j,u,a2]⟩
def v8 (P:Aw)(hp:Hp)(t:Ax)(x:Av)(lo hi mx:Ag):Bb (Av×Hp):=
 match P.underlying t with
 |some .string=>match x with
  | .string s=>match mx with
   |some _=>none|none=>match A9 s.data.toList.length s.data.toList.length lo hi none with
    |some (l,h,_)=>some (.string ⟨((s.data.toList.take h).drop l).toArray⟩,hp)|none=>none
  |_=>none
 |some (.slice e)=>match P.info? e with
  |none=>none|some ie=>match x with
   | .slice none len cap => bif Nat.beq len 0 && Nat.beq cap 0 then
     match A9 0 0 lo hi mx with
     |some _=>some (.slice none 0 0,hp)|none=>none
    else none
   | .slice (some ⟨0,0,some 0⟩) 0 _=>match A9 0 0 lo hi mx with
    |some (_,_,none)=>some (.slice (some ⟨0,0,some 0⟩) 0 unk,hp)|_=>none
   | .slice (some ⟨i,o,none⟩) len cap=>
    bif Nat.ble unk cap then
     bif Nat.ble (Nat.max (P4 cap) len) 67108864 then
     match A9 len (Nat.max (P4 cap) len) lo hi mx with
     |none=>none
     | some (l, h, some m) => bif Nat.beq m l then some (.slice (some ⟨i, o, none⟩) (h - l) (m - l), hp)
       else some (.slice (some ⟨i,o+l*ie.size,none⟩) (h-l) (m-l),hp)
     | some (l, h, none) => bif Nat.beq l 0 then some (.slice (some ⟨i, o, none⟩) h (d9 (Nat.max (P4 cap) len) (F5 cap)), hp) else
       bif Nat.beq l (Nat.max (P4 cap) len)then some (.slice (some ⟨0,0,some 0⟩) 0 unk,hp)
       else match hp.m.get i with
        |some (.cells _ _ _ z')=>bif Nat.beq z' ie.size then some (.slice (some ⟨i,o+l*ie.size,none⟩) (h-l) (d9 (Nat.max (P4 cap) len-l) (F5 cap-l)),hp)else none|_=>none
     else none
    else bif Nat.ble len cap then
     match A9 len cap lo hi mx with
     |none=>none
     | some (l, h, m) => bif Nat.beq (m.getD cap) l then some (.slice (some ⟨i, o, none⟩) (h - l) (m.getD cap - l), hp)
       else some (.slice (some ⟨i,o+l*ie.size,none⟩) (h-l) (m.getD cap-l),hp)
    else none
   |_=>none
 |some (.array n e)=>match P.info? e with
  |none=>none|some ie=>match x with
   | .pointer (some ⟨i, o, none⟩) => bif Nat.ble n 16777216 then
     match A9 n n lo hi mx with
     |none=>none
     | some (l, h, m) => bif Nat.beq (m.getD n) l then some (.slice (some ⟨i, o, none⟩) (h - l) (m.getD n - l), hp)
       else some (.slice (some ⟨i,o+l*ie.size,none⟩) (h-l) (m.getD n-l),hp)
    else none
   |_=>none
 |_=>none
theorem mX (s:ByteArray)(l h:Nat):s.extract l h=⟨((s.data.toList.take h).drop l).toArray⟩:=by apply ByteArray.ext;rw[ByteArray.data_extract];grind
theorem Cv {t:Ax}{hp':Hp}(h:v8 P hp t x lo hi mx=some (v,hp'))(hx:VR σ x x')(h1:OVR σ lo lo')(h2:OVR σ hi hi')(h3:OVR σ mx mx')(D:HR B w0 σ hp w):MOK hp B w0 σ v hp' ((Instr.sliceAt t x' lo' hi' mx').run P w):=by
 unfold v8 at h;split at h
 ·rename_i K;split at h
  ·rename_i s;cases hx;split at h;cases h
   ·cases mx' with
    |some _=>exact h3.elim|none=>
    split at h;rename_i l hh m hb;cases h;obtain⟨_,_,_,j⟩:=H6 (P:=P) (cap:=s.size) hb h1 h2 (show OVR σ none none from trivial) (by simp) (TK _) false;rw[show s.data.toList.length=s.size by simp]at j;refine⟨σ,_,w,?_,VS _ σ,.string _,D⟩;simp only[Instr.sliceAt,TQ,TL K,TM,Instr.slice,Option.isSome_none,UF,if_false,TV,j,mX];cases h
  cases h
 ·rename_i e K;split at h;cases h;rename_i ie E;split at h
  ·rename_i len cap;cases hb:Nat.beq len 0&&Nat.beq cap 0 with
   |false=>grind|true=>
    simp only[Tl]at hb;have e1:=Tp hb.1;have e2:=Tp hb.2;subst e1;subst e2;cases hx;split at h
    ·rename_i aa f;obtain⟨l,hh,m⟩:=aa;cases h;obtain⟨M,a2,a3,j⟩:=H6 (P:=P) (cap:=0) f h1 h2 h3 (TK _) (TK _) true;have u:l=0:=by omega
     have J:hh=0:=by omega
     have Z:m.getD 0=0:=by omega
     subst u;subst J;rw[Z]at j;refine⟨σ,_,w,?_,VS _ σ,.nils 0 0,D⟩;simp only[Instr.sliceAt,TQ,TL K,TM,Instr.slice,j,sizeOf,typeInfo,Vd,E,TV,if_true,Nat.sub_self]
    cases h
  ·rename_i cap;split at h
   ·rename_i l hh f;cases h;cases hx with
    |vague q c'=>
     obtain⟨M,a2,a3,j⟩:=H6 (P:=P) (cap:=c') f h1 h2 h3 (UY _) (TK _) true;simp only[Option.getD_none]at a2 a3 j;have u:l=0:=by omega
     have J:hh=0:=by omega
     subst u;subst J;refine⟨σ,.slice (some q) 0 c',w,?_,VS _ σ,.vague q c',D⟩;have hq:(q.add 0)=q:=by simp[Addr.add]
     simp only[Instr.sliceAt,TQ,TL K,TM,Instr.slice,j,sizeOf,typeInfo,Vd,E,TV,Nat.sub_self,UN,UU,Ug,hq,ite_self]
   cases h
  ·rename_i i o len cap;cases hx with
   | slice _ _ p _ _ c' g ae S =>
   have G:∀(l hh m:Nat),(∀w,(Instr.sliceBounds true len c' lo' hi' mx').run P w= .ok (l,hh,m) w)->
     (Instr.sliceAt t (.slice (some ⟨p.blk,p.dl+o,none⟩) len c') lo' hi' mx').run P w= .ok (.slice (some (if m=l then⟨p.blk,p.dl+o,none⟩else⟨p.blk,p.dl+(o+l*ie.size),none⟩)) (hh-l) (m-l)) w:=by
    intro l hh m j;simp only[Instr.sliceAt,TQ,TL K,TM,Instr.slice,j,sizeOf,typeInfo,Vd,E,TV];by_cases d:m=l;simp[d];simp[d,UW,Uu]
   cases A:Nat.ble unk cap with
   |true=>
    rw[A,TE]at h;have A:=To A;obtain⟨Q,O,H⟩:P4 cap<=c'/\(F5 cap=0\/c'<F5 cap)/\p.dl+o+c'*p.esz<=p.siz:=by grind
    have R:F5 cap<unk:=Nat.mod_lt _ F9;have hL:Nat.max (P4 cap) len<=c':=Nat.max_le.2 ⟨Q,S⟩;have I:len<=Nat.max (P4 cap) len:=UE _ _;generalize ad:Nat.max (P4 cap) len=L at h hL I;cases F:Nat.ble L 67108864 with
    |false=>grind|true=>
    rw[F,TE]at h;have F:=To F;split at h;cases h
    ·rename_i l hh m f;obtain⟨M,a2,a3,j⟩:=H6 (P:=P) (cap:=c') f h1 h2 h3 hL I true;simp only[Ud]at a2 a3 j;have hr:=G l hh m j;have z:m-l<unk:=by unfold unk;omega
     cases d:Nat.beq m l with
     |true=>rw[d,TE]at h;have d:=Tp d;subst d;cases h;rw[TJ rfl]at hr;exact⟨σ,_,w,hr,VS _ σ,.slice i o p _ _ _ g (.inl ⟨rfl,z⟩) (by omega),D⟩
     |false=>
      rw[d,TF]at h;have y:m≠l:=fun e=>by rw[e,t9 rfl]at d;cases d
      cases h;rw[TH y]at hr;exact⟨σ,_,w,hr,VS _ σ,.slice i _ p _ _ _ g (.inl ⟨rfl,z⟩) (by omega),D⟩
    ·rename_i l hh f;obtain⟨M,a2,a3,j⟩:=H6 (P:=P) (cap:=c') f h1 h2 h3 hL I true;have hr:=G l hh c' j;cases u:Nat.beq l 0 with
     |true=>have u:=Tp u;subst u;cases h;simp only[UU,UA,ite_self,UN]at hr;exact⟨σ,_,w,hr,VS _ σ,.slice i o p _ _ _ g (.inr ⟨p8 _ _,by rw[I1 R];exact hL,by rw[G8 R];exact O,H⟩) (by omega),D⟩
     |false=>
      rw[u,TF]at h;cases C:Nat.beq l L with
      |true=>
       rw[C,TE]at h;have C:=Tp C;have X:hh=l:=by omega
       subst X;cases h;rw[Nat.sub_self]at hr;exact⟨σ,_,w,hr,VS _ σ,.vague _ _,D⟩
      |false=>
       rw[C,TF]at h;have ac:l≠L:=fun e=>by rw[e,t9 rfl]at C;cases C
       split at h;case h_2=>cases h
       rename_i tc k e' z' hg;obtain⟨k1,k2⟩:=D.place hg g;cases T:Nat.beq z' ie.size with
       |false=>grind|true=>
        rw[T,TE]at h;have ah:=Tp T;have W:p.esz=ie.size:=by grind
        cases h;have V:c'≠l:=by omega
        rw[TH V]at hr;refine⟨σ,_,w,hr,VS _ σ,.slice i _ p _ _ _ g (.inr ⟨p8 _ _,by rw[I1 (by omega)];omega,by rw[G8 (by omega)];omega,?_⟩) (by omega),D⟩;rw[W]at H⊢;have:l*ie.size+(c'-l)*ie.size=c'*ie.size:=by rw[<-TX];congr 1;omega
        omega
   |false=>
    rw[A,TF]at h;have ab:¬unk<=cap:=fun h=>by rw[Ts h]at A;cases A
    have N:cap=c'/\cap<unk:=by grind
    obtain⟨rfl,U⟩:=N;cases Y:Nat.ble len cap with
    |false=>grind|true=>
    rw[Y,TE]at h;split at h;cases h
    ·rename_i l hh m f;obtain⟨M,a2,a3,j⟩:=H6 (P:=P) (cap:=cap) f h1 h2 h3 (TK _) S true;have hr:=G l hh (m.getD cap) j;have z:m.getD cap-l<unk:=by omega
     cases d:Nat.beq (m.getD cap) l with
     |true=>rw[d,TE]at h;have d:=Tp d;cases h;rw[TJ d]at hr;exact⟨σ,_,w,hr,VS _ σ,.slice i o p _ _ _ g (.inl ⟨rfl,z⟩) (by omega),D⟩
     |false=>
      rw[d,TF]at h;have y:m.getD cap≠l:=fun e=>by rw[e,t9 rfl]at d;cases d
      cases h;rw[TH y]at hr;exact⟨σ,_,w,hr,VS _ σ,.slice i _ p _ _ _ g (.inl ⟨rfl,z⟩) (by omega),D⟩
  cases h
 ·rename_i n e K;split at h;cases h;rename_i ie E;split at h
  ·rename_i i o;cases hx with
   |ptr _ _ p g=>
   cases hn:Nat.ble n 16777216 with
   |false=>grind|true=>
   rw[hn,TE]at h;have hn:=To hn;split at h;cases h
   ·rename_i l hh m f;obtain⟨M,a2,a3,j⟩:=H6 (P:=P) (cap:=n) f h1 h2 h3 (TK _) (TK _) false;have hr:(Instr.sliceAt t (.pointer (some ⟨p.blk,p.dl+o,none⟩)) lo' hi' mx').run P w= .ok (.slice (some (if m.getD n=l then⟨p.blk,p.dl+o,none⟩else⟨p.blk,p.dl+(o+l*ie.size),none⟩)) (hh-l) (m.getD n-l)) w:=by simp only[Instr.sliceAt,TQ,TL K,TM,Instr.sureAddr,j,sizeOf,typeInfo,Vd,E,TV];by_cases d:m.getD n=l;simp[d];simp[d,UW,Uu]
    have z:m.getD n-l<unk:=by unfold unk;omega
    cases d:Nat.beq (m.getD n) l with
    |true=>rw[d,TE]at h;have d:=Tp d;cases h;rw[TJ d]at hr;exact⟨σ,_,w,hr,VS _ σ,.slice i o p _ _ _ g (.inl ⟨rfl,z⟩) (by omega),D⟩
    |false=>
     rw[d,TF]at h;have y:m.getD n≠l:=fun e=>by rw[e,t9 rfl]at d;cases d
     cases h;rw[TH y]at hr;exact⟨σ,_,w,hr,VS _ σ,.slice i _ p _ _ _ g (.inl ⟨rfl,z⟩) (by omega),D⟩
  cases h
 cases h
end
section
variable {P :Aw}{B:BS}{w0:Bc}{σ:Sg}{hp:Hp}{w:Bc}
def wO (hp:Hp)(it:Av)(isString:Bool):Bb (Av×Hp):=
 match it,isString with
 | .pointer (some ⟨i,0,none⟩),true=>match hp.m.get i with
  | some (.sit s pos) => bif Nat.blt pos s.data.toList.length then
    some (.tuple #[.bool true,.int .i64 pos,.int .i32 (Utf8.decode s pos).1],{hp with m:=hp.m.set i (some (.sit s (pos+(Utf8.decode s pos).2)))})
   else some (.tuple #[.bool false],hp)
  |_=>none
 |_,_=>none
variable {a b:Av}
def VR.tup1 {σ:Sg}(h:VR σ a b):VR σ (.tuple #[a]) (.tuple #[b]):=(Wh h (Wi σ)).to_tuple
def VR.tup3 {σ:Sg}{c d e f:Av}(h:VR σ a b)(k:VR σ c d)(l:VR σ e f):VR σ (.tuple #[a,c,e]) (.tuple #[b,d,f]):=(Wh h (Wh k (Wh l (Wi σ)))).to_tuple
variable {o:Obj}
def lT {r:Nat}(h:w.heap[r]? =some o)(hc:∀c e f,o≠ .cells c e f):(getObj r).run P w= .ok o w:=by simp only[getObj,Sem.run,h]
def vD {r:Nat}{o':Obj}(h:w.heap[r]? =some o)(hc:∀c e f,o≠ .cells c e f):(setObj r o').run P w= .ok () {w with heap:=w.heap.setIfInBounds r o'}:=by simp only[setObj,Sem.run,h]
theorem HR.setO (h:HR B w0 σ hp w){i:Nat}{b b':Blk}(hg:hp.m.get i=some b){p:Pl}(d:σ i=some p)(hb:BR σ p b' o)(l:cC b=false:=by rfl)(j:cC b'=false:=by rfl)(f:gX b=false:=by rfl)(g:gX b'=false:=by rfl):HR B w0 σ {hp with m:=hp.m.set i (some b')} {w with heap:=w.heap.setIfInBounds p.blk o}:=by obtain⟨p',o',n,_,q,_⟩:=h.live i b hg f;have:p'=p:=TN (n.symm.trans d);subst this;have hlt:=(TB.1 q).1;refine h.turn hg d ?_ (fun k hk=>?_) (by simp) rfl rfl rfl hb l j f g;simp[hlt];grind
variable {v:Av}{hp':Hp}
theorem EU {u g:Av}{isS:Bool}(h:wO hp u isS=some (v,hp'))(hi:VR σ u g)(n:HR B w0 σ hp w)(ty:Ax):MOK hp B w0 σ v hp' ((Instr.next g isS ty).run P w):=by
 unfold wO at h;split at h
 ·rename_i i;cases hi with
  |ptr _ _ p l=>
  split at h
  ·rename_i s pos hg;obtain⟨p',o,q,z,t,y,j⟩:=n.live i _ hg;have:=TN (q.symm.trans l);subst this y;have d:=lT (P:=P) t (fun c e f h=>by grind);cases hlt:Nat.blt pos s.data.toList.length with
   |true=>
    rw[hlt,TE]at h;cases h;have hpos:pos<s.size:=by simp_all
    have hset:=vD (P:=P) (o':= .stringIter s (pos+(Utf8.decode s pos).2)) t (fun c e f h=>by grind);refine⟨σ,_,_,?_,VS _ σ,VR.tup3 (.bool true) (.int .i64 pos) (.int .i32 _),n.setO hg q ⟨rfl,j⟩⟩;simp[Instr.next,j,d,hpos,hset,goInt]
   |false=>
    rw[hlt,TF]at h;cases h;have hpos:¬pos<s.size:=by intro hc;rw[show Nat.blt pos s.data.toList.length=true from Ts (by simp;omega)]at hlt;grind
    refine⟨σ,_,w,?_,VS _ σ,VR.tup1 (.bool false),n⟩;simp[Instr.next,j,d,hpos]
  cases h
 cases h
def keyB (d:TypeDesc):Bool:=
 match d with
 | .int _| .string| .bool=>true
 |_=>false
def U6 (P:Aw)(hp:Hp)(t:Ax)(x k:Av)(ok:Bool):Ag:=
 have _:=P
 none
variable {k k' x x':Av}
def xF {t:Ax}{ok:Bool}(h:U6 P hp t x k ok=some v)(hx:VR σ x x')(hk:VR σ k k')(d:HR B w0 σ hp w):∃u,VR σ v u/\(Instr.lookup t x' k' ok).run P w= .ok u w:=by unfold U6 at h;simp at h
def jP (P:Aw)(hp:Hp)(t:Ax)(m k x:Av):Bb Hp:=
 have _:=P
 none
variable {m m':Av}
def kS {t:Ax}(h:jP P hp t m k x=some hp')(hm:VR σ m m')(hk:VR σ k k')(hx:VR σ x x')(d:HR B w0 σ hp w):∃w',(Instr.mapUpdate t m' k' x').run P w= .ok () w'/\HR B w0 σ hp' w'/\hp'.nx=hp.nx:=by unfold jP at h;simp at h
def dT (P:Aw)(hp:Hp)(t:Ax)(m k:Av):Bb (Av×Hp):=
 have _:=P
 none
def rW {t:Ax}(h:dT P hp t m k=some (v,hp'))(hm:VR σ m m')(hk:VR σ k k')(d:HR B w0 σ hp w):MOK hp B w0 σ v hp' ((Instr.mapEntry t m' k').run P w):=by unfold dT at h;simp at h
def X9 (hp:Hp)(m s x:Av):Bb Hp:=
 none
def oL {t:Ax}{s s':Av}(h:X9 hp m s x=some hp')(hm:VR σ m m')(hs:VR σ s s')(hx:VR σ x x')(d:HR B w0 σ hp w):∃w',(Instr.entryStore t m' s' x').run P w= .ok () w'/\HR B w0 σ hp' w'/\hp'.nx=hp.nx:=by unfold X9 at h;simp at h
def aS (hp:Hp)(P:Aw)(t:Ax)(x:Av):Ag:=
 match P.underlying t,x with
 |some (.map _ _),.map (some i)=>match hp.m.get i with
  |some (.map es _)=>some (.int .i64 es.length)|_=>none
 |_,_=>rV P t x
theorem ES {t:Ax}(h:aS hp P t x=some v)(hx:VR σ x x')(z:HR B w0 σ hp w)(ty:Ax)(ats:Array Ax)(d:ats[0]? =some t):VR σ v v/\(Builtin.len_ ats ty #[x']).run P w= .ok v w:=by
 unfold aS at h;split at h
 ·rename_i kt A i y;split at h
  ·rename_i es hg;cases h;cases hx with
   |map _ p l=>
   obtain⟨p',o,q,_,s,n,j,rfl,u,C,D⟩:=z.live i _ hg;have:=TN (q.symm.trans l);subst this;have g:=lT (P:=P) s (fun c e f h=>by grind);refine⟨.int _ _,?_⟩;simp[Builtin.len_,d,TL y,g,goInt,u]
  cases h
 exact⟨(wK h hx ty ats d).1,(wK h hx ty ats d).2 w⟩
end
def oT (f:Av->Av->Bool):Af->Af->Bool
 | [],[]=>true|x::xs,y::ys=>f x y&&oT f xs ys|_,_=>false
def dZ {f:Av->Av->Bool}(hf:∀x y,f x y=true->x=y):∀ {xs ys:Af},oT f xs ys=true->xs=ys
 | [],[],_=>rfl|x::xs,y::ys,h=>by simp only[oT,Tl]at h;rw[hf _ _ h.1,dZ hf h.2]| [],_::_,h=>by cases h
 |_::_,[],h=>by cases h
def veq :Nat->Av->Av->Bool
 |0,_,_=>false|n+1,x,y=>match x,y with
  | .bool a,.bool b=>a==b| .int j a,.int k b=>decide (j=k)&&decide (a=b)| .string a,.string b=>a.data.toList==b.data.toList| .pointer a,.pointer b=>decide (a=b)| .slice a l c,.slice b l' c'=>decide (a=b)&&Nat.beq l l'&&Nat.beq c c'| .map a,.map b=>decide (a=b)| .nilFunc,.nilFunc=>true| .nilIface,.nilIface=>true| .iface t v,.iface u w=>Nat.beq t u&&veq n v w| .agg a,.agg b=>oT (veq n) a.toList b.toList| .tuple a,.tuple b=>oT (veq n) a.toList b.toList| .func f a c,.func g b d=>decide (f=g)&&oT (veq n) a.toList b.toList&&oT (veq n) c.toList d.toList| .complex f a b,.complex g c d=>decide (f=g)&&Nat.beq a c&&Nat.beq b d| .chan a,.chan b=>decide (a=b)|_,_=>false
theorem qD :∀(n:Nat) (x y:Av),veq n x y=true->x=y:=by
 intro n;induction n with
 |zero=>intro x y h;cases h
 |succ n d=>intro x y h;simp only[veq]at h;split at h;grind;grind;rename_i a b;obtain⟨⟨a⟩⟩:=a;simp_all;grind;simp_all;grind;rfl;rfl;simp only[Tl]at h;rw[Tp h.1,d _ _ h.2];rw[Array.ext' (dZ d h)];rw[Array.ext' (dZ d h)];simp at h;rw[h.1.1,Array.ext' (dZ d h.1.2),Array.ext' (dZ d h.2)];simp_all;grind;cases h
section
variable {P :Aw}{B:BS}{w0:Bc}{σ:Sg}{hp:Hp}{w:Bc}
def qE (P:Aw)(hp:Hp)(t:Ax)(x:Av):Bb (Av×Hp):=
 match P.underlying t with
 |some (.slice e)=>match x with
  | .slice none _ _=>some (.tuple #[],hp)| .slice (some _) 0 _=>some (.tuple #[],hp)| .slice (some ⟨i,o,none⟩) (n+1) _=>match V0 P e with
   |none=>none|some z=>match hp.m.get i with
    | some (.cells c k e' z') => bif Nat.ble (o + (xrep (n + 1) z.cells.toList).length) k && (xrep (n + 1) z.cells.toList).all Value.oneCell' then
      some (.tuple #[],qL hp i c k e' z' o (xrep (n+1) z.cells.toList))
     else none
    |_=>none
  |_=>none
 |some (.map _ _)=>match x with
  | .map none=>some (.tuple #[],hp)| .map (some i)=>match hp.m.get i with
   |some (.map _ _)=>some (.tuple #[],{hp with m:=hp.m.set i (some (.map [] false))})|_=>none
  |_=>none
 |_=>none
variable {v x x':Av}{hp':Hp}
theorem Cl {t:Ax}(h:qE P hp t x=some (v,hp'))(hx:VR σ x x')(j:HR B w0 σ hp w)(ty:Ax):MOK hp B w0 σ v hp' ((Builtin.clear_ #[t] ty #[x']).run P w):=by
 have tup:=VRL.to_tuple (Wi σ);unfold qE at h;split at h
 ·rename_i e ht;split at h;simp only[Tk,Tm]at h;obtain⟨rfl,rfl⟩:=h;cases hx;refine⟨σ,.tuple #[],w,?_,VS _ σ,tup,j⟩;simp[Builtin.clear_,TL ht];simp only[Tk,Tm]at h;obtain⟨rfl,rfl⟩:=h;cases hx<;>exact⟨σ,.tuple #[],w,by simp[Builtin.clear_,TL ht],VS _ σ,tup,j⟩
  ·rename_i i o n c0;split at h;cases h;rename_i z hz;split at h;case h_2=>cases h
   rename_i c k e' L hg;cases hx with
   |slice _ _ p _ _ c' g E G=>
   obtain⟨k1,k2⟩:=j.place hg g;cases hb:Nat.ble (o+(xrep (n+1) z.cells.toList).length) k&&(xrep (n+1) z.cells.toList).all Value.oneCell' with
   |false=>grind|true=>rw[hb,TE,H3]at h;simp only[Tl]at hb;have F:=To hb.1;cases h;obtain⟨hc,y⟩:=R7 hz;have hv:=(eA σ hc).cells.xrep (n+1);have q:=hv.all_oneCell hb.2;obtain⟨w',u,hh,_⟩:=j.store (o:=o) hg g hv q (by omega) (by omega) P;have s:(Builtin.zeroCells z.cells (n+1)).toList=xrep (n+1) z.cells.toList:=jC z.cells (n+1);refine⟨σ,.tuple #[],w',?_,VS _ σ,tup,?_⟩;simp[Builtin.clear_,TL ht,y,s,u];grind
  cases h
 ·rename_i kt H ht;split at h;simp only[Tk,Tm]at h;obtain⟨rfl,rfl⟩:=h;cases hx;refine⟨σ,.tuple #[],w,?_,VS _ σ,tup,j⟩;simp[Builtin.clear_,TL ht]
  ·rename_i i;split at h;case h_2=>cases h
   rename_i es reg hg;cases h;cases hx with
   |map _ p g=>
   obtain⟨p',o,C,_,D,A,d,rfl,I,J,K⟩:=j.live i _ hg;have:=TN (C.symm.trans g);subst this;have l:=lT (P:=P) D (fun c e f h=>by grind);have hset:=vD (P:=P) (o':= .map #[] d) D (fun c e f h=>by grind);refine⟨σ,.tuple #[],_,?_,VS _ σ,tup,j.setO hg C (o:= .map #[] d) ⟨_,_,rfl,rfl,(by grind),fun hr=>by grind⟩⟩;simp[Builtin.clear_,TL ht,l,hset]
  cases h
 cases h
def aR (P:Aw)(hp:Hp)(t u:Ax)(s x:Av):Bb (Av×Hp):=
 match P.underlying t, P.underlying u with
 |some (.slice e),some (.int _)=>match P.info? e with
  |none=>none|some ie=>match ie.zero with
   |none=>none|some z=>match s,x with
    | .slice (some ⟨i,o,none⟩) sLen sCap,.int _ (.ofNat cnt)=>
     bif cst z&&Nat.beq z.cells.toList.length ie.size&&Nat.ble ie.bytes 1048576&&Nat.ble 1 ie.size&&Nat.ble 1 cnt&&Nat.ble (sLen+cnt) 67108864&&
       (Nat.ble unk sCap&&Nat.ble 1 (F5 sCap)&&Nat.ble (F5 sCap) (sLen+cnt))then
      match hp.m.get i with
      | some (.cells c k _ _) => bif Nat.ble (o + sLen * ie.size) k then
        match j9 c o (sLen*ie.size)with
        |some olds=>some (.slice (some ⟨hp.nx,0,none⟩) (sLen+cnt) (d9 (sLen+cnt) 0),hp.new (olds++xrep cnt z.cells.toList) e ie.size)|none=>none
       else none
      |_=>none
     else none
    |_,_=>none
 |_,_=>none
theorem wE {t u:Ax}{s s':Av}(h:aR P hp t u s x=some (v,hp'))(hs:VR σ s s')(hx:VR σ x x')(M:HR B w0 σ hp w)(ty:Ax):MOK hp B w0 σ v hp' ((Builtin.append_ #[t,u] ty #[s',x']).run P w):=by
 unfold aR at h;split at h;case h_2=>cases h
 rename_i e X ht I;split at h;cases h;rename_i ie F;split at h;cases h;rename_i z hz;split at h;case h_2=>cases h
 rename_i i o d l kq cnt;cases hb:cst z&&Nat.beq z.cells.toList.length ie.size&&Nat.ble ie.bytes 1048576&&Nat.ble 1 ie.size&&Nat.ble 1 cnt&&Nat.ble (d+cnt) 67108864&&
       (Nat.ble unk l&&Nat.ble 1 (F5 l)&&Nat.ble (F5 l) (d+cnt))with
 |false=>grind|true=>
 rw[hb,TE]at h;simp only[Tl]at hb;obtain⟨⟨⟨⟨⟨⟨U,Y⟩,C⟩,O⟩,b5⟩,D⟩,⟨Q,R⟩,S⟩:=hb;have T:z.cells.size=ie.size:=by simp_all
 have C:=To C;have O:=To O;have D:=To D;have Q:=To Q;have R:=To R;have S:=To S;split at h;case h_2=>cases h
 rename_i c k e' Z hg;cases n:Nat.ble (o+d*ie.size) k with
 |false=>grind|true=>
 rw[n,TE]at h;have n:=To n;split at h;case h_2=>cases h
 rename_i A G;cases h;cases hx;cases hs with
 |slice _ _ p _ _ c' H V W=>
 have hlt:c'<d+cnt:=by grind
 obtain⟨f,K,g,E⟩:=M.cells hg n G H;have hr:=Lib.run_append_grow_zeros w t u ty e ie z kq X ht I F hz (some ⟨p.blk,p.dl+o,none⟩) d c' f
  (run_firstCells_some w.drew ie.size d _ d c' f g (fun j u I=>(iT rfl _).trans (E j u I))) cnt (by omega) (by omega) hlt (by omega)
  (by have:=Nat.mul_le_mul (show cnt<=67108864 by omega) C;omega) (growslice_fits hlt (by have:=Nat.mul_le_mul D C;omega))
 have N:(Builtin.zeroCells z.cells cnt).toList=xrep cnt z.cells.toList:=jC z.cells cnt;have L:VRL σ (xrep cnt z.cells.toList) (Builtin.zeroCells z.cells cnt).toList:=by rw[N];exact(eA σ U).cells.xrep cnt
 have q:=K.append L;have hge:=grownCap_ge w (d+cnt) c' e;have y:=M.grown q (Builtin.zeroCells z.cells (grownCap w (d+cnt) c' e-(d+cnt))) (fill .e 0 (A++xrep cnt z.cells.toList)) (fun j hj=>p6 _ j hj) e ie.size;have J:(f++(Builtin.zeroCells z.cells cnt).toList).length=(d+cnt)*ie.size:=by rw[TO,g,Array.length_toList,size_zeroCells,T,TX]
 rw[show(f++(Builtin.zeroCells z.cells cnt).toList).toArray=f.toArray++Builtin.zeroCells z.cells cnt by simp]at y;refine⟨_,_,_,hr,M.le_new _,VR.unkSlice σ hp.nx ⟨w.heap.size,0,(f++(Builtin.zeroCells z.cells cnt).toList).length+(Builtin.zeroCells z.cells (grownCap w (d+cnt) c' e-(d+cnt))).size,ie.size⟩ rfl hge ?_,?_⟩;show grownCap w (d+cnt) c' e*ie.size<=(f++(Builtin.zeroCells z.cells cnt).toList).length+_;rw[size_zeroCells,J,T,<-TX];grind;simpa [Hp.new]using y
def Qj (P:Aw)(g:Ay)(t:Ax):Prop:=
 ∃fn r,P.funcs[g]? =some fn/\(fn.name== "runtime.NumGoroutine")=false/\fn.body.isNone=true/\Extern.findNext fn=none/\Extern.find fn=some (Extern.SlicesOverlaps.overlaps #[t,t] #[r])
def EY (P:Aw)(hp:Hp)(t:Ax)(args:Af):Bb (Av×Hp):=
 match P.underlying t with
 |some (.slice e)=>match P.info? e with
  |some _=>match args with
   | [.slice (some ⟨i, _, none⟩) _ _, .slice (some ⟨j, _, none⟩) _ _] => bif Nat.beq i j then none else
     match hp.m.get i,hp.m.get j with
     |some (.cells _ _ _ _),some (.cells _ k _ _)=>bif Nat.ble 1 k then some (.bool false,hp)else none|_,_=>none
   |_=>none
  |none=>none
 |_=>none
def kP :Ax:=4294967295
def isT :Bb Ax->Bool
 |some t=>Nat.beq t kP|none=>false
def Fk (P:Aw)(g:Ay):Prop:=∀w,Calls P g #[] w fun e w'=>e= .returned (.bool true)/\Below w.heap.size w w'
def kV (P:Aw)(g:Ay)(t:Ax):Prop:=(t=kP/\Fk P g)\/(t≠kP/\Qj P g t)
def HR.below (h:HR B w0 σ hp w){w':Bc}(k:Below w.heap.size w w'):HR B w0 σ hp w':=by refine⟨k.os.trans h.os,k.tape.trans h.tape,k.output.trans h.output,Us h.size k.size,h.old,fun i hi=>?_,h.frs,fun i b r hg hx=>?_,h.ij,h.rz⟩;rw[k.block i (Uo (h.old i hi) h.size)];exact h.kept i hi;obtain⟨p,o,f,g,d,j⟩:=h.liv i b r hg hx;exact⟨p,o,f,g,by rw[k.block p.blk (TB.1 d).1];exact d,j⟩
theorem EZ {g:Ay}{t:Ax}(ho:Qj P g t){args args':Af}(h:EY P hp t args=some (v,hp'))(U:VRL σ args args')(K:HR B w0 σ hp w):hp'=hp/\ ∃u,VR σ v u/\(callFunc g args'.toArray).run P w= .ok (.value u) w:=by
 unfold EY at h;split at h;case h_2=>cases h
 rename_i e ht;split at h;case h_2=>cases h
 rename_i ie H;split at h;case h_2=>cases h
 rename_i i o1 l1 c1 j o2 l2 c2;cases d:Nat.beq i j with
 |true=>grind|false=>
 rw[d,TF]at h;have n:i≠j:=fun e=>by rw[e,t9 rfl]at d;cases d
 split at h;case h_2=>cases h
 rename_i ci ki L zi cj kj M zj f l;cases hk:Nat.ble 1 kj with
 |false=>grind|true=>
 rw[hk,TE]at h;have hk:=To hk;cases h;obtain⟨a1,r,rfl,F,hr⟩:=U.uncons;obtain⟨a2,r,rfl,G,hr⟩:=hr.uncons;rw[hr.unnil]at*;cases F with
 |slice _ _ p _ _ z s W Y=>
 cases G with
 |slice _ _ q _ _ A y X Z=>
 obtain⟨fn,rt,N,O,Q,R,S⟩:=ho;have I:=K.inj i j _ _ p q f l n s y;refine⟨rfl,.bool false,.bool false,?_⟩;obtain⟨p',C,T,g2,g3,E,g5,g6,g7⟩:=K.liveC f;have:=TN (T.symm.trans s);subst this;obtain⟨q',D,m1,m2,m3,m4,m5,m6,m7⟩:=K.liveC l;have:=TN (m1.symm.trans y);subst this;have J:∀w,(Go.sizeOf e).run P w= .ok ie.size w:=fun w=>by simp[sizeOf,typeInfo,H]
 rw[run_callFunc_extern N O Q R S];have V:=Lib.run_overlaps_apart w t rt e ht ie.size J ⟨p'.blk,p'.dl+o1,none⟩ ⟨q'.blk,q'.dl+o2,none⟩ l1 z l2 A I L M C.size D.size
  (by simp[World.shape?,E]) (by simp[World.shape?,m4]) (by omega) (by simp[World.frozen?,E]) (by simp[World.frozen?,E])
 simp_all
end
def aT (tm:Ao):List (Nat×Az)->Bb (List (Nat×Av))
 | []=>some []| (i,x)::xs=>match c9 tm x with
  |some v=>match aT tm xs with
   |some vs=>some ((i,v)::vs)|none=>none
  |none=>none
theorem mJ {σ:Sg}{tm:Ao}{a:Act}:∀ {xs:List (Nat×Az)} {vs:List (Nat×Av)},(∀p∈xs,∀v,c9 tm p.2=some v->VR σ v (a.eval p.2))->aT tm xs=some vs->PVR σ vs (xs.map fun p=>(p.1,a.eval p.2))
 | [],vs,_,hx=>by simp[aT]at hx;subst hx;exact⟨rfl,fun i x y h _=>by grind⟩| (i,x)::xs,vs,h,hx=>by
  simp only[aT]at hx;cases hv:c9 tm x with
  |none=>grind|some v=>
   cases hr:aT tm xs with
   |none=>grind|some r=>
    simp[hv,hr]at hx;subst hx;have d:=mJ (fun p hp=>h p (by grind)) hr;refine⟨by simp[d.1],fun j p q hp hq=>?_⟩;cases j with
    |zero=>grind|succ j=>exact d.2 j p q hp hq
def jZ (tm:Ao):Bb Az->Bb (Ag)
 |none=>some none|some x=>match c9 tm x with
  |some v=>some (some v)|none=>none
theorem oO {σ:Sg}{tm:Ao}{a:Act}{x:Bb Az}(h:∀y,x=some y-> ∀v,c9 tm y=some v->VR σ v (a.eval y)){v:Ag}(hx:jZ tm x=some v):OVR σ v (x.map a.eval):=by
 cases x with
 |none=>simp only[jZ,Tk]at hx;subst hx;exact trivial|some x=>
  simp only[jZ]at hx;cases hv:c9 tm x with
  |none=>grind|some u=>simp only[hv,Tk]at hx;subst hx;exact h x rfl _ hv
theorem sN {σ:Sg}{tm:Ao}{a:Act}:∀ {xs:List Az} {vs:Af},(∀x∈xs,∀v,c9 tm x=some v->VR σ v (a.eval x))->Y8 tm xs=some vs->VRL σ vs (xs.map a.eval)
 | [],vs,_,hx=>by simp[Y8]at hx;subst hx;exact Wi σ|x::xs,vs,h,hx=>by
  simp only[Y8]at hx;cases hv:c9 tm x with
  |none=>grind|some v=>
   cases hr:Y8 tm xs with
   |none=>grind|some r=>simp[hv,hr]at hx;subst hx;exact Wh (h x (by simp) _ hv) (sN (fun y hy=>h y (by grind)) hr)
def i7 (hp:Hp):Ag->Bb (Av×Hp)
 |some v=>some (v,hp)|none=>none
theorem l6 {hp hp':Hp}{x:Ag}{v:Av}(h:i7 hp x=some (v,hp')):x=some v/\hp'=hp:=by
 cases x with
 |none=>cases h
 |some u=>simp only[i7,Tk,Tm]at h;exact⟨by grind,h.2.symm⟩
structure i8 where
 run:Ay->Af->Hp->Bb (Av×Hp)
 ov:Aa
 round:Nat->Af->Hp->Bb (Av×Hp)
def gA (fn:Func):Bool:=fn.body.isSome&& !(fn.name== "runtime.NumGoroutine")
def y9 (P:Aw)(hp:Hp)(b:Builtin)(ats:List Ax)(args:Af):Bb (Av×Hp):=
 match b,ats,args with
 | .append,[t,u],[s,x]=>match E1 P hp t u s x with
  |some r=>some r|none=>aR P hp t u s x
 | .clear,[t],[x]=>qE P hp t x| .copy,[t,_],[d,x]=>zW P hp t d x| .len,[t],[x]=>i7 hp (aS hp P t x)| .cap,[t],[x]=>i7 hp (oK P t x)| .min,_,x::xs=>i7 hp (fR false x xs)| .max,_,x::xs=>i7 hp (fR true x xs)|_,_,_=>none
def kQ (P:Aw)(call:i8)(hp:Hp)(f:Av)(args:Af):Bb (Av×Hp):=
 match f with
 | .func (.func g) first captured=>match P.funcs[g]? with
  | some fn => bif gA fn then call.run g (first.toList ++ args ++ captured.toList) hp else
    match call.ov g with
    |some t=>bif Nat.beq t kP then none else EY P hp t (first.toList++args++captured.toList)|none=>none
  |none=>none
 | .chan (some i)=>call.round i args hp|_=>none
def xnw (P:Aw)(tm:Ao)(o:Op):Bb Nw:=
 match o with
 | .alloc e=>bif Nat.beq e rgT then none else bR P e| .box e x=>bif Nat.beq e rgT then none else match c9 tm x with
  |some v=>some (zU e v)|none=>none
 | .buildSlice t len parts=>match aT tm parts.toList with
  |some ps=>Hi P t len ps|none=>none
 | .makeSlice t l c=>match c9 tm l with
  |some v=>match c9 tm c with
   |some u=>KU P t v u|none=>none
  |none=>none
 | .makeMap t r=>match jZ tm r with
  |some v=>match P.underlying t with
   |some (.map _ _)=>Jd v|_=>none
  |none=>none
 | .range t x=>match c9 tm x with
  |some v=>oP P t v|none=>none
 |_=>none
def L8 (hp:Hp):Bb Nw->Bb (Av×Hp)
 |some n=>some (hp.add n)|none=>none
def hX (P:Aw)(tm:Ao)(hp:Hp)(e:Ax):Bb (Av×Hp):=
 bif Nat.beq e rgT then match V0 P e with
  |some z=>wN hp z.cells.toList|none=>none
 else L8 hp (xnw P tm (.alloc e))
def JW (P:Aw)(tm:Ao)(hp:Hp)(e:Ax)(x:Az):Bb (Av×Hp):=
 bif Nat.beq e rgT then match c9 tm x with
  |some v=>wN hp v.cells.toList|none=>none
 else L8 hp (xnw P tm (.box e x))
def oPick (tm:Ao)(hp:Hp)(c:Az)(a:Az)(b:Az):Bb (Av×Hp):=
 match c9 tm c with
  |some (.bool t)=>bif t then i7 hp (c9 tm a)else i7 hp (c9 tm b)|_=>none
def oNext (tm:Ao)(hp:Hp)(it:Az)(isS:Bool):Bb (Av×Hp):=
 match c9 tm it with
  |some v=>wO hp v isS|none=>none
def Pt (P:Aw)(tm:Ao)(hp:Hp)(t:Ax)(x:Az)(k:Az)(ok:Bool):Bb (Av×Hp):=
 match c9 tm x with
  |some v=>match c9 tm k with
   |some u=>i7 hp (U6 P hp t v u ok)|none=>none
  |none=>none
def uP (P:Aw)(tm:Ao)(hp:Hp)(t:Ax)(m:Az)(k:Az)(x:Az):Bb (Av×Hp):=
 match c9 tm m with
  |some mv=>match c9 tm k with
   |some kv=>match c9 tm x with
    |some xv=>match jP P hp t mv kv xv with
     |some hp'=>some (undef,hp')|none=>none
    |none=>none
   |none=>none
  |none=>none
def JX (P:Aw)(tm:Ao)(hp:Hp)(t:Ax)(m:Az)(k:Az):Bb (Av×Hp):=
 match c9 tm m with
  |some mv=>match c9 tm k with
   |some kv=>dT P hp t mv kv|none=>none
  |none=>none
def DK (tm:Ao)(hp:Hp)(m:Az)(s:Az)(x:Az):Bb (Av×Hp):=
 match c9 tm m with
  |some mv=>match c9 tm s with
   |some sv=>match c9 tm x with
    |some xv=>match X9 hp mv sv xv with
     |some hp'=>some (undef,hp')|none=>none
    |none=>none
   |none=>none
  |none=>none
def RV (P:Aw)(tm:Ao)(hp:Hp)(t:Ax)(parts:Array (Nat×Az)):Bb (Av×Hp):=
 match aT tm parts.toList with
  |some ps=>i7 hp (mF P t ps)|none=>none
def oLoad (P:Aw)(tm:Ao)(hp:Hp)(t:Ax)(a:Az):Bb (Av×Hp):=
 match c9 tm a with
  |some v=>i7 hp (F8 P hp t v)|none=>none
def Sc (P:Aw)(tm:Ao)(hp:Hp)(t:Ax)(a:Az)(x:Az):Bb (Av×Hp):=
 match c9 tm a with
  |some v=>match c9 tm x with
   |some u=>match E0 P hp t v u with
    |some hp'=>some (undef,hp')|none=>none
   |none=>none
  |none=>none
def JY (tm:Ao)(hp:Hp)(x:Az):Bb (Av×Hp):=
 match c9 tm x with
  |some (.pointer (some p))=>some (.pointer (some p),hp)|some (.func (.func f) a b)=>some (.func (.func f) a b,hp)|_=>none
def RU (P:Aw)(tm:Ao)(hp:Hp)(op:BinOp)(t:Ax)(x:Az)(y:Az):Bb (Av×Hp):=
 match c9 tm x with
  |some v=>match c9 tm y with
   |some u=>i7 hp (K9 P op t v u)|none=>none
  |none=>none
def QS (tm:Ao)(hp:Hp)(op:UnOp)(x:Az):Bb (Av×Hp):=
 match c9 tm x with
  |some v=>i7 hp (xun op v)|none=>none
def MT (P:Aw)(tm:Ao)(hp:Hp)(s:Ax)(d:Ax)(x:Az):Bb (Av×Hp):=
 match c9 tm x with
  |some v=>i7 hp (iM P s d v)|none=>none
def uO (P:Aw)(tm:Ao)(hp:Hp)(t:Ax)(x:Az):Bb (Av×Hp):=
 match c9 tm x with
  |some v=>i7 hp (mH P t v)|none=>none
def yS (tm:Ao)(hp:Hp)(fn:Fn)(first:Array Az)(captured:Array Az):Bb (Av×Hp):=
 match Y8 tm first.toList with
  |some fs=>match Y8 tm captured.toList with
   |some cs=>some (.func fn fs.toArray cs.toArray,hp)|none=>none
  |none=>none
def RZ (P:Aw)(tm:Ao)(hp:Hp)(t:Ax)(x:Az)(lo:Bb Az)(hi:Bb Az)(mx:Bb Az):Bb (Av×Hp):=
 match c9 tm x with
  |some v=>match jZ tm lo with
   |some l=>match jZ tm hi with
    |some h=>match jZ tm mx with
     |some m=>v8 P hp t v l h m|none=>none
    |none=>none
   |none=>none
  |none=>none
def Gs (P:Aw)(tm:Ao)(hp:Hp)(t:Ax)(x:Az)(f:Nat):Bb (Av×Hp):=
 match c9 tm x with
  |some v=>i7 hp (M6 P t v f)|none=>none
def RW (P:Aw)(tm:Ao)(hp:Hp)(t:Ax)(x:Az)(f:Nat):Bb (Av×Hp):=
 match c9 tm x with
  |some v=>i7 hp (mG P t v f)|none=>none
def Gt (P:Aw)(tm:Ao)(hp:Hp)(t:Ax)(x:Az)(i:Az):Bb (Av×Hp):=
 match c9 tm x with
  |some v=>match c9 tm i with
   |some u=>i7 hp (C4 P t v u)|none=>none
  |none=>none
def RY (P:Aw)(tm:Ao)(hp:Hp)(t:Ax)(x:Az)(i:Az):Bb (Av×Hp):=
 match c9 tm x with
  |some v=>match c9 tm i with
   |some u=>i7 hp (iP P t v u)|none=>none
  |none=>none
def MU (tm:Ao)(hp:Hp)(x:Az)(i:Nat):Bb (Av×Hp):=
 match c9 tm x with
  |some v=>i7 hp (U5 v i)|none=>none
def oCall (P:Aw)(call:i8)(tm:Ao)(hp:Hp)(c:Call):Bb (Av×Hp):=
 match Y8 tm c.args.toList with
  |some args=>match c.callee with
   | .builtin b=>y9 P hp b c.argTypes.toList args| .value f=>match c9 tm f with
    |some v=>kQ P call hp v args|none=>none
   |_=>none
  |none=>none
def xop (P:Aw)(call:i8)(tm:Ao)(hp:Hp)(o:Op):Bb (Av×Hp):=
 Op.rec (motive:=fun _=>Aw->i8->Ao->Hp->Bb (Av×Hp))
  (fun x _ _ tm hp=>i7 hp (c9 tm x))
  (fun x _ _ tm hp=>i7 hp (c9 tm x))
  (fun c a b _ _ tm hp=>oPick tm hp c a b)
  (fun e P _ tm hp=>hX P tm hp e)
  (fun e x P _ tm hp=>JW P tm hp e x)
  (fun t parts P _ tm hp=>RV P tm hp t parts)
  (fun t len parts P _ tm hp=>L8 hp (xnw P tm (.buildSlice t len parts)))
  (fun t m k x P _ tm hp=>uP P tm hp t m k x)
  (fun t a P _ tm hp=>oLoad P tm hp t a)
  (fun t a x P _ tm hp=>Sc P tm hp t a x)
  (fun _ _ _ _ _=>none)
  (fun _ _ _ _ _=>none)
  (fun x _ _ tm hp=>JY tm hp x)
  (fun op t x y _ P _ tm hp=>RU P tm hp op t x y)
  (fun op _ x _ _ tm hp=>QS tm hp op x)
  (fun s d x P _ tm hp=>MT P tm hp s d x)
  (fun _ _ _ _ _ _=>none)
  (fun t x P _ tm hp=>uO P tm hp t x)
  (fun fn first captured _ _ tm hp=>yS tm hp fn first captured)
  (fun t r P _ tm hp=>L8 hp (xnw P tm (.makeMap t r)))
  (fun _ _ _ _ _ _=>none)
  (fun t l c P _ tm hp=>L8 hp (xnw P tm (.makeSlice t l c)))
  (fun t x lo hi mx P _ tm hp=>RZ P tm hp t x lo hi mx)
  (fun t x f P _ tm hp=>Gs P tm hp t x f)
  (fun t x f P _ tm hp=>RW P tm hp t x f)
  (fun t x i P _ tm hp=>Gt P tm hp t x i)
  (fun t x i P _ tm hp=>RY P tm hp t x i)
  (fun t x k ok P _ tm hp=>Pt P tm hp t x k ok)
  (fun t m k x P _ tm hp=>uP P tm hp t m k x)
  (fun t m k P _ tm hp=>JX P tm hp t m k)
  (fun _ m s x _ _ tm hp=>DK tm hp m s x)
  (fun t x P _ tm hp=>L8 hp (xnw P tm (.range t x)))
  (fun it isS _ _ tm hp=>oNext tm hp it isS)
  (fun _ _ _ _ _=>none)
  (fun _ _ _ _ _ _ _ _=>none)
  (fun x i _ _ tm hp=>MU tm hp x i)
  (fun c P call tm hp=>oCall P call tm hp c)
  (fun _ _ _ _ _=>none)
  (fun _ _ _ _ _=>none)
  (fun _ _ _ _ _=>none)
  (fun _ _ _ _ _ _=>none)
  (fun _ _ _ _ _ _ _=>none)
  (fun _ _ _ _ _ _=>none)
  o P call tm hp
def j5 (P:Aw)(call:i8)(tm:Ao)(hp:Hp)(o:Op):Bb (Av×Hp):=
 match o with
 | .move x=>i7 hp (c9 tm x)| .assign x=>i7 hp (c9 tm x)| .pick c a b=>match c9 tm c with
  |some (.bool t)=>bif t then i7 hp (c9 tm a)else i7 hp (c9 tm b)|_=>none
 | .alloc e=>hX P tm hp e| .box e x=>JW P tm hp e x| .makeMap t r=>L8 hp (xnw P tm (.makeMap t r))| .range t x=>L8 hp (xnw P tm (.range t x))| .next it isS=>match c9 tm it with
  |some v=>wO hp v isS|none=>none
 | .lookup t x k ok=>match c9 tm x with
  |some v=>match c9 tm k with
   |some u=>i7 hp (U6 P hp t v u ok)|none=>none
  |none=>none
 | .mapEntry t m k=>match c9 tm m with
  |some mv=>match c9 tm k with
   |some kv=>dT P hp t mv kv|none=>none
  |none=>none
 | .entryStore _ m s x=>match c9 tm m with
  |some mv=>match c9 tm s with
   |some sv=>match c9 tm x with
    |some xv=>match X9 hp mv sv xv with
     |some hp'=>some (undef,hp')|none=>none
    |none=>none
   |none=>none
  |none=>none
 | .mapUpdate t m k x=>match c9 tm m with
  |some mv=>match c9 tm k with
   |some kv=>match c9 tm x with
    |some xv=>match jP P hp t mv kv xv with
     |some hp'=>some (undef,hp')|none=>none
    |none=>none
   |none=>none
  |none=>none
 | .insert t m k x=>match c9 tm m with
  |some mv=>match c9 tm k with
   |some kv=>match c9 tm x with
    |some xv=>match jP P hp t mv kv xv with
     |some hp'=>some (undef,hp')|none=>none
    |none=>none
   |none=>none
  |none=>none
 | .build t parts=>match aT tm parts.toList with
  |some ps=>i7 hp (mF P t ps)|none=>none
 | .buildSlice t len parts=>L8 hp (xnw P tm (.buildSlice t len parts))| .load t a=>match c9 tm a with
  |some v=>i7 hp (F8 P hp t v)|none=>none
 | .store t a x=>match c9 tm a with
  |some v=>match c9 tm x with
   |some u=>match E0 P hp t v u with
    |some hp'=>some (undef,hp')|none=>none
   |none=>none
  |none=>none
 | .nilCheck x=>match c9 tm x with
  |some (.pointer (some p))=>some (.pointer (some p),hp)|some (.func (.func f) a b)=>some (.func (.func f) a b,hp)|_=>none
 | .binOp op t x y _=>match c9 tm x with
  |some v=>match c9 tm y with
   |some u=>i7 hp (K9 P op t v u)|none=>none
  |none=>none
 | .unOp op _ x=>match c9 tm x with
  |some v=>i7 hp (xun op v)|none=>none
 | .convert s d x=>match c9 tm x with
  |some v=>i7 hp (iM P s d v)|none=>none
 | .makeInterface t x=>match c9 tm x with
  |some v=>i7 hp (mH P t v)|none=>none
 | .makeFunc fn first captured=>match Y8 tm first.toList with
  |some fs=>match Y8 tm captured.toList with
   |some cs=>some (.func fn fs.toArray cs.toArray,hp)|none=>none
  |none=>none
 | .makeSlice t l c=>L8 hp (xnw P tm (.makeSlice t l c))| .slice t x lo hi mx=>match c9 tm x with
  |some v=>match jZ tm lo with
   |some l=>match jZ tm hi with
    |some h=>match jZ tm mx with
     |some m=>v8 P hp t v l h m|none=>none
    |none=>none
   |none=>none
  |none=>none
 | .fieldAddr t x f=>match c9 tm x with
  |some v=>i7 hp (M6 P t v f)|none=>none
 | .field t x f=>match c9 tm x with
  |some v=>i7 hp (mG P t v f)|none=>none
 | .indexAddr t x i=>match c9 tm x with
  |some v=>match c9 tm i with
   |some u=>i7 hp (C4 P t v u)|none=>none
  |none=>none
 | .index t x i=>match c9 tm x with
  |some v=>match c9 tm i with
   |some u=>i7 hp (iP P t v u)|none=>none
  |none=>none
 | .extract x i=>match c9 tm x with
  |some v=>i7 hp (U5 v i)|none=>none
 | .call c=>match Y8 tm c.args.toList with
  |some args=>match c.callee with
   | .builtin b=>y9 P hp b c.argTypes.toList args| .value f=>match c9 tm f with
    |some v=>kQ P call hp v args|none=>none
   |_=>none
  |none=>none
 |_=>none
def c8 (P:Aw)(call:i8)(tm:Ao)(hp:Hp)(o:Op):xop P call tm hp o=j5 P call tm hp o:=by cases o<;>rfl
def RF (r:Ai):Fence:= {Fence.wide with round:=r}
def j4 {P:Aw}{r:Ai}{o:Oper}{a:Act}{w:Bc}{next:Act->Bc->Prop}{Q:Exit->Act->Bc->Prop}(f:∀c,o.op≠ .defer c)(h:o.wp P a w next Q):o.wpIn (RF r) 0 P a w next Q:=by
 have d:(RF r).depth.isSome=true->1<=0:=fun h=>by cases h
 refine⟨fun _ _=>trivial,?_⟩;rw[Oper.semAt_eq _ _ _ f];unfold Oper.wp at h;generalize (execOp a.eval o).run P w=x at h;cases x with
 |ok n w'=>
  cases n<;>simp only[Oper.upon]at h<;>first
   |exact h
   |exact⟨d,(callsIn_wide.2 h)⟩
   |exact⟨d,fun c cs _=>let⟨v,w',r,s⟩:=h c cs;⟨v,w',r,(stepsIn_wide.2 s)⟩⟩
 |halt x w'=>cases x<;>exact h
structure Q4 (P:Aw)(call:i8):Prop where
 run:∀g args hp v hp',call.run g args hp=some (v,hp')-> ∀B w0 σ w args',VRL σ args args'->HR B w0 σ hp w->
  Calls P g args'.toArray w (fun e w'=>∃σ' u,e= .returned u/\Sg.gr hp.nx hp'.nx σ σ'/\VR σ' v u/\HR B w0 σ' hp' w')
 ov:∀g t,call.ov g=some t->kV P g t
 round:∀i args hp v hp',call.round i args hp=some (v,hp')-> ∀B w0 σ w args' p,σ i=some p->VRL σ args args'->HR B w0 σ hp w->
  ∃r,w.heap[p.blk]? =some (.loop r)/\args'.length=r.params.size/\
   RoundIn Fence.wide 0 P p.blk r.fn ((r.params.zip args'.toArray).foldl (fun tmps (t,a)=>tmps.setIfInBounds t a) r.tmps) r.assign r.body w (fun e w'=>∃σ' u,e= .returned u/\Sg.gr hp.nx hp'.nx σ σ'/\VR σ' v u/\HR B w0 σ' hp' w')
section
variable {P :Aw}{B:BS}{w0:Bc}{σ:Sg}{hp:Hp}{w:Bc}
variable {v:Av}
def MOK.of_pure {u:Av}{s:Sem Av}(h1:VR σ v u)(h2:∀w,s.run P w= .ok u w)(d:HR B w0 σ hp w):MOK hp B w0 σ v hp (s.run P w):=
 ⟨σ,u,w,h2 w,VS _ σ,h1,d⟩
theorem wF {b:Builtin}{ats:Array Ax}{args:Af}{args':Af}{hp':Hp}(h:y9 P hp b ats.toList args=some (v,hp'))(l:VRL σ args args')(j:HR B w0 σ hp w)(ty:Ax)(cs:Array Bool):∃σ' u w',(builtin b ats ty cs args'.toArray).run P w= .ok (.value u) w'/\Sg.gr hp.nx hp'.nx σ σ'/\VR σ' v u/\HR B w0 σ' hp' w':=by
 have f:∀ {s:Sem Av},MOK hp B w0 σ v hp' (s.run P w)->builtin b ats ty cs args'.toArray=(do pure (.value (<-s)):Sem Next)->
   ∃σ' u w',(builtin b ats ty cs args'.toArray).run P w= .ok (.value u) w'/\Sg.gr hp.nx hp'.nx σ σ'/\VR σ' v u/\HR B w0 σ' hp' w':=by
  intro s hm he;obtain⟨σ',u,w',h1,h2,h3,h4⟩:=hm;refine⟨σ',u,w',?_,h2,h3,h4⟩;simp_all
 unfold y9 at h;split at h
 ·rename_i t u s x i;obtain⟨s',r,rfl,hs,hr⟩:=l.uncons;obtain⟨x',r,rfl,hx,hr⟩:=hr.uncons;have:ats= #[t,u]:=by grind
  subst this;split at h;rename_i r n;cases h;exact f (xE n hs hx j ty) rfl;exact f (wE h hs hx j ty) rfl
 ·rename_i t x i;obtain⟨x',r,rfl,hx,hr⟩:=l.uncons;have:ats= #[t]:=by grind
  subst this;exact f (Cl h hx j ty) rfl
 ·rename_i t u d x i;obtain⟨s',r,rfl,hs,hr⟩:=l.uncons;obtain⟨x',r,rfl,hx,hr⟩:=hr.uncons;have:ats= #[t,u]:=by grind
  subst this;exact f (EP h hs hx j ty) rfl
 ·rename_i t x i;obtain⟨x',r,rfl,hx,hr⟩:=l.uncons;obtain⟨g,rfl⟩:=l6 h;have:ats= #[t]:=by grind
  subst this;obtain⟨h1,h2⟩:=ES g hx j ty #[t] rfl;exact f ⟨σ,_,w,h2,VS _ σ,h1,j⟩ rfl
 ·rename_i t x i;obtain⟨x',r,rfl,hx,hr⟩:=l.uncons;obtain⟨g,rfl⟩:=l6 h;have:ats= #[t]:=by grind
  subst this;obtain⟨p,h1,h2⟩:=Hk g hx ty #[t] rfl;exact f (MOK.of_pure h1 h2 j) rfl
 rename_i x xs;obtain⟨x',r,rfl,hx,hr⟩:=l.uncons;obtain⟨g,rfl⟩:=l6 h;obtain⟨h1,h2⟩:=wM g hx hr;exact f (MOK.of_pure h1 h2 j) rfl;rename_i x xs;obtain⟨x',r,rfl,hx,hr⟩:=l.uncons;obtain⟨g,rfl⟩:=l6 h;obtain⟨h1,h2⟩:=wL g hx hr;exact f (MOK.of_pure h1 h2 j) rfl;cases h
theorem eR {g:Ay}{fn:Func}{args:Al}(hf:P.funcs[g]? =some fn)(d:gA fn=true)(w:Bc):(callFunc g args).run P w= .ok (.enter g args) w:=by
 simp only[gA,Tl,Uh]at d;have hb:fn.body.isNone=false:=by simp_all
 simp only[callFunc,TQ,Vd,TM,hf,d.2,hb,UF,if_false,TV]
variable {tm:Ao}
set_option maxHeartbeats 2000000 in
theorem zZ {o:Oper}{n:Nw}(h:xnw P tm o.op=some n){a:Act}(ht:∀x∈o.op.operands,∀v,c9 tm x=some v->VR σ v (a.eval x)):∃s:Sem Av,execOp a.eval o=(do pure (.value (<-s)):Sem Next)/\mP P σ n s:=by
 obtain⟨dst,op,type,pos,after,guard⟩:=o;cases op;case alloc e=>
  simp only[xnw]at h;cases hb:Nat.beq e rgT with
  |true=>rw[hb]at h;cases h
  |false=>rw[hb]at h;exact⟨_,rfl,xD h⟩
 case box e x=>
  simp only[xnw]at h;cases hb:Nat.beq e rgT with
  |true=>rw[hb]at h;cases h
  |false=>
  rw[hb,TF]at h;split at h;rename_i v hv;simp only[Tk]at h;subst h;exact⟨_,rfl,EM (ht x (by simp[Op.operands]) _ hv)⟩;cases h
 case buildSlice t len parts=>simp only[xnw]at h;split at h;rename_i ps d;have hp1:=mJ (σ:=σ) (a:=a) (fun p hp=>ht p.2 (by simp only[Op.operands,List.mem_toArray];exact UO.2 ⟨p,hp,rfl⟩)) d;exact⟨_,rfl,Hj (ys:=parts.map fun(i,x)=>(i,a.eval x)) h (by simpa using hp1)⟩;cases h
 case makeSlice t l c=>simp only[xnw]at h;split at h;rename_i lv hl;split at h;rename_i j hc;exact⟨_,rfl,Hl h (ht l (by simp[Op.operands]) _ hl) (ht c (by simp[Op.operands]) _ hc)⟩;cases h;cases h
 case makeMap t r=>simp only[xnw]at h;split at h;rename_i rv hr;split at h;rename_i kt q g;have f:=oO (σ:=σ) (a:=a) (fun y hy=>ht y (by subst hy;simp[Op.operands])) hr;refine⟨_,rfl,ET h ?_ (by rw[g];exact trivial)⟩;unfold OVR at f;cases rv<;>cases r<;>simp_all;cases h;cases h
 case range t x=>simp only[xnw]at h;split at h;rename_i u hx;exact⟨_,rfl,xG h (ht x (by simp[Op.operands]) _ hx)⟩;cases h
 all_goals (simp only[xnw,reduceCtorEq]at h)
set_option maxHeartbeats 2000000 in
def jQ {call:i8}(H:Q4 P call){o:Oper}{hp':Hp}(h:xop P call tm hp o.op=some (v,hp')){a:Act}(ht:∀x∈o.op.operands,∀v,c9 tm x=some v->VR σ v (a.eval x))(A:HR B w0 σ hp w)(next:Act->Bc->Prop)(Q:Exit->Act->Bc->Prop)(hn:∀σ' u w',Sg.gr hp.nx hp'.nx σ σ'->VR σ' v u->HR B w0 σ' hp' w'->next (a.put o.dst u) w')(r:Ai):o.wpIn (RF r) 0 P a w next Q:=by
 have val:∀ {s:Sem Av},MOK hp B w0 σ v hp' (s.run P w)->execOp a.eval o=(do pure (.value (<-s)):Sem Next)->o.wp P a w next Q:=by intro s hm he;obtain⟨σ',u,w',h1,h2,h3,h4⟩:=hm;unfold Oper.wp;rw[he];simp only[TQ,h1,TM,TV,Vb];exact hn σ' u w' h2 h3 h4
 have F:∀ {s:Sem Av} {x:Ag},i7 hp x=some (v,hp')->(x=some v-> ∃u,VR σ v u/\ ∀w,s.run P w= .ok u w)->
   execOp a.eval o=(do pure (.value (<-s)):Sem Next)->o.wp P a w next Q:=by
  intro s x hx hs he;obtain⟨E,rfl⟩:=l6 hx;obtain⟨u,h1,h2⟩:=hs E;exact val (MOK.of_pure h1 h2 A) he
 have J:∀(q:Op),L8 hp (xnw P tm q)=some (v,hp')->o.op=q->o.wp P a w next Q:=by
  intro q hx hq;cases W:xnw P tm q with
  |none=>rw[W]at hx;cases hx
  |some n=>rw[W]at hx;simp only[L8,Tk]at hx;obtain⟨s,h1,h2⟩:=zZ (P:=P) (σ:=σ) (o:=o) (by rw[hq];exact W) ht;have hm:=h2.mok A;rw[hx]at hm;exact val hm h1
 obtain⟨dst,op,type,pos,after,guard⟩:=o;cases op;case move x=>refine j4 (fun _ h=>by cases h) ?_;simp only[c8,j5]at h;obtain⟨E,rfl⟩:=l6 h;exact hn σ _ w (VS _ σ) (ht _ (by simp[Op.operands]) _ E) A
 case assign x=>refine j4 (fun _ h=>by cases h) ?_;simp only[c8,j5]at h;obtain⟨E,rfl⟩:=l6 h;exact hn σ _ w (VS _ σ) (ht _ (by simp[Op.operands]) _ E) A
 case pick c x y=>
  refine j4 (fun _ h=>by cases h) ?_;simp only[c8,j5]at h;split at h
  ·rename_i t hc;have Y:=ht _ (by simp[Op.operands]) _ hc;generalize X:a.eval c=cv at Y;cases Y;cases t with
   |true=>rw[TE]at h;obtain⟨E,rfl⟩:=l6 h;unfold Oper.wp;simp only[execOp,X,asBool,TQ,TV,TM,if_true,Vb];exact hn σ _ w (VS _ σ) (ht _ (by simp[Op.operands]) _ E) A
   |false=>rw[TF]at h;obtain⟨E,rfl⟩:=l6 h;unfold Oper.wp;simp only[execOp,X,asBool,TQ,TV,TM,UF,if_false,Vb];exact hn σ _ w (VS _ σ) (ht _ (by simp[Op.operands]) _ E) A
  cases h
 case alloc e=>
  refine j4 (fun _ h=>by cases h) ?_;simp only[c8,j5,hX]at h;cases hb:Nat.beq e rgT with
  |false=>rw[hb]at h;exact J (.alloc e) h rfl|true=>rw[hb,TE]at h;have:=Tp hb;subst this;split at h;rename_i z hz;obtain⟨hc,hr⟩:=R7 hz;obtain⟨σ',h1,h2,h3⟩:=rM (us:=z.cells) h (by simpa using(eA σ hc).cells) A;exact val (s:=Instr.alloc rgT true (.tuple #[])) ⟨σ',_,_,by simp[Instr.alloc,hr,newVar,newRow],h1,h2,h3⟩ rfl;cases h
 case box e x=>
  refine j4 (fun _ h=>by cases h) ?_;simp only[c8,j5,JW]at h;cases hb:Nat.beq e rgT with
  |false=>rw[hb]at h;exact J (.box e x) h rfl|true=>rw[hb,TE]at h;have:=Tp hb;subst this;split at h;rename_i G hx;obtain⟨σ',h1,h2,h3⟩:=rM (us:=(a.eval x).cells) h (ht x (by simp[Op.operands]) _ hx).cells A;exact val (s:=Instr.box rgT (a.eval x)) ⟨σ',_,_,by simp[Instr.box,newVar,newRow],h1,h2,h3⟩ rfl;cases h
 case makeMap t r=>exact j4 (fun _ h=>by cases h) (J (.makeMap t r) h rfl)
 case range t x=>exact j4 (fun _ h=>by cases h) (J (.range t x) h rfl)
 case next it isS=>refine j4 (fun _ h=>by cases h) ?_;simp only[c8,j5]at h;split at h;rename_i G hx;exact val (EU h (ht _ (by simp[Op.operands]) _ hx) A type) rfl;cases h
 case lookup t x k ok=>refine j4 (fun _ h=>by cases h) ?_;simp only[c8,j5]at h;split at h;rename_i G hx;split at h;rename_i kv hk;obtain⟨L,rfl⟩:=l6 h;obtain⟨u,h1,h2⟩:=xF L (ht _ (by simp[Op.operands]) _ hx) (ht _ (by simp[Op.operands]) _ hk) A;exact val ⟨σ,u,w,h2,VS _ σ,h1,A⟩ rfl;cases h;cases h
 case mapUpdate t m k x=>refine j4 (fun _ h=>by cases h) ?_;simp only[c8,j5]at h;split at h;rename_i mv hm;split at h;rename_i kv hk;split at h;rename_i G hx;split at h;rename_i hp2 I;simp only[Tk,Tm]at h;obtain⟨rfl,rfl⟩:=h;obtain⟨w',h1,h2,h3⟩:=kS I (ht _ (by simp[Op.operands]) _ hm) (ht _ (by simp[Op.operands]) _ hk) (ht _ (by simp[Op.operands]) _ hx) A;unfold Oper.wp;simp only[execOp,TQ,h1,TM,TV,Oper.upon_skip];exact hn σ undef w' (by rw[h3];exact VS _ σ) (Wg σ) h2;cases h;cases h;cases h;cases h
 case mapEntry t m k=>refine j4 (fun _ h=>by cases h) ?_;simp only[c8,j5]at h;split at h;rename_i mv hm;split at h;rename_i kv hk;exact val (rW h (ht _ (by simp[Op.operands]) _ hm) (ht _ (by simp[Op.operands]) _ hk) A) rfl;cases h;cases h
 case entryStore t m s x=>refine j4 (fun _ h=>by cases h) ?_;simp only[c8,j5]at h;split at h;rename_i mv hm;split at h;rename_i sv ah;split at h;rename_i G hx;split at h;rename_i hp2 I;simp only[Tk,Tm]at h;obtain⟨rfl,rfl⟩:=h;obtain⟨w',h1,h2,h3⟩:=oL (P:=P) (t:=t) I (ht _ (by simp[Op.operands]) _ hm) (ht _ (by simp[Op.operands]) _ ah) (ht _ (by simp[Op.operands]) _ hx) A;unfold Oper.wp;simp only[execOp,TQ,h1,TM,TV,Oper.upon_skip];exact hn σ undef w' (by rw[h3];exact VS _ σ) (Wg σ) h2;cases h;cases h;cases h;cases h
 case insert t m k x=>refine j4 (fun _ h=>by cases h) ?_;simp only[c8,j5]at h;split at h;rename_i mv hm;split at h;rename_i kv hk;split at h;rename_i G hx;split at h;rename_i hp2 I;simp only[Tk,Tm]at h;obtain⟨rfl,rfl⟩:=h;obtain⟨w',h1,h2,h3⟩:=kS I (ht _ (by simp[Op.operands]) _ hm) (ht _ (by simp[Op.operands]) _ hk) (ht _ (by simp[Op.operands]) _ hx) A;unfold Oper.wp;simp only[execOp,TQ,h1,TM,TV,Oper.upon_skip];exact hn σ undef w' (by rw[h3];exact VS _ σ) (Wg σ) h2;cases h;cases h;cases h;cases h
 case build t parts=>refine j4 (fun _ h=>by cases h) ?_;simp only[c8,j5]at h;split at h;rename_i ps ae;have hp1:=mJ (fun p hp=>ht p.2 (by simp only[Op.operands,List.mem_toArray];exact UO.2 ⟨p,hp,rfl⟩)) ae;exact F h (fun hx=>Ck (ys:=parts.map fun(i,x)=>(i,a.eval x)) hx (by simpa using hp1)) rfl;cases h
 case buildSlice t len parts=>exact j4 (fun _ h=>by cases h) (J (.buildSlice t len parts) h rfl)
 case load t x=>refine j4 (fun _ h=>by cases h) ?_;simp only[c8,j5]at h;split at h;rename_i G hx;obtain⟨L,rfl⟩:=l6 h;obtain⟨u,h1,h2⟩:=rL L (ht _ (by simp[Op.operands]) _ hx) A;exact val ⟨σ,u,w,h2,VS _ σ,h1,A⟩ rfl;cases h
 case store t x y=>refine j4 (fun _ h=>by cases h) ?_;simp only[c8,j5]at h;split at h;rename_i G hx;split at h;rename_i yv hy;split at h;rename_i hp2 I;simp only[Tk,Tm]at h;obtain⟨rfl,rfl⟩:=h;obtain⟨w',h1,h2,h3⟩:=CA I (ht _ (by simp[Op.operands]) _ hx) (ht _ (by simp[Op.operands]) _ hy) A;unfold Oper.wp;simp only[execOp,TQ,h1,TM,TV,Oper.upon_skip];exact hn σ undef w' (by rw[h3];exact VS _ σ) (Wg σ) h2;cases h;cases h;cases h
 case nilCheck x=>
  refine j4 (fun _ h=>by cases h) ?_;simp only[c8,j5]at h;split at h
  ·rename_i p hx;simp only[Tk,Tm]at h;obtain⟨rfl,rfl⟩:=h;have hv:=ht _ (by simp[Op.operands]) _ hx;generalize T:a.eval x=G at hv;cases hv with
   |ptr i o q hq=>
   unfold Oper.wp;simp only[execOp,T,TV,Vb];exact hn σ _ w (VS _ σ) (.ptr i o q hq) A
   |rptr i o q hq=>
   unfold Oper.wp;simp only[execOp,T,TV,Vb];exact hn σ _ w (VS _ σ) (.rptr i o q hq) A
  ·rename_i f fa fb hx;simp only[Tk,Tm]at h;obtain⟨rfl,rfl⟩:=h;have hv:=ht _ (by simp[Op.operands]) _ hx;generalize T:a.eval x=G at hv;cases hv with
   |func _ _ ys _ ds h1 h2 h3 h4=>
   unfold Oper.wp;simp only[execOp,T,TV,Vb];exact hn σ _ w (VS _ σ) (.func _ _ ys _ ds h1 h2 h3 h4) A
  cases h
 case binOp op t x y yt=>refine j4 (fun _ h=>by cases h) ?_;simp only[c8,j5]at h;split at h;rename_i G hx;split at h;rename_i yv hy;obtain⟨L,rfl⟩:=l6 h;obtain⟨u0,h1,h2⟩:=EI (P:=P) L (ht _ (by simp[Op.operands]) _ hx) (ht _ (by simp[Op.operands]) _ hy) x y;unfold Oper.wp;simp only[execOp,TQ,(h2 w).1,(h2 w).2,TM,TV,Vb];exact hn σ _ w (VS _ σ) h1 A;cases h;cases h
 case unOp op t x=>refine j4 (fun _ h=>by cases h) ?_;simp only[c8,j5]at h;split at h;rename_i G hx;exact F h (fun hh=>⟨_,Lb hh (ht _ (by simp[Op.operands]) _ hx)⟩) rfl;cases h
 case convert s d x=>refine j4 (fun _ h=>by cases h) ?_;simp only[c8,j5]at h;split at h;rename_i G hx;exact F h (fun hh=>EO hh (ht _ (by simp[Op.operands]) _ hx)) rfl;cases h
 case makeInterface t x=>refine j4 (fun _ h=>by cases h) ?_;simp only[c8,j5]at h;split at h;rename_i G hx;exact F h (fun hh=>Co hh (ht _ (by simp[Op.operands]) _ hx)) rfl;cases h
 case makeFunc fn first C=>refine j4 (fun _ h=>by cases h) ?_;simp only[c8,j5]at h;split at h;rename_i fs ac;split at h;rename_i cs aa;simp only[Tk,Tm]at h;obtain⟨rfl,rfl⟩:=h;have v1:=sN (fun y hy=>ht y (by simp only[Op.operands,Array.mem_append];exact .inl (by simpa using hy))) ac;have v2:=sN (fun y hy=>ht y (by simp only[Op.operands,Array.mem_append];exact .inr (by simpa using hy))) aa;refine hn σ (.func fn (first.map a.eval) (C.map a.eval)) w (VS _ σ) (.func _ _ _ _ _ ?_ ?_ ?_ ?_) A;have:=v1.1;simpa using this;intro i x y h1 h2;exact v1.2 i x y (by simpa using h1) (by simpa using h2);have:=v2.1;simpa using this;intro i x y h1 h2;exact v2.2 i x y (by simpa using h1) (by simpa using h2);cases h;cases h
 case makeSlice t l c=>exact j4 (fun _ h=>by cases h) (J (.makeSlice t l c) h rfl)
 case slice t x lo hi mx=>refine j4 (fun _ h=>by cases h) ?_;simp only[c8,j5]at h;split at h;rename_i G hx;split at h;rename_i l hl;split at h;rename_i hh ad;split at h;rename_i m hm;exact val (Cv h (ht _ (by simp[Op.operands]) _ hx) (oO (fun y hy=>ht y (by subst hy;simp[Op.operands])) hl) (oO (fun y hy=>ht y (by subst hy;simp[Op.operands])) ad) (oO (fun y hy=>ht y (by subst hy;simp[Op.operands])) hm) A) rfl;cases h;cases h;cases h;cases h
 case fieldAddr t x f=>refine j4 (fun _ h=>by cases h) ?_;simp only[c8,j5]at h;split at h;rename_i G hx;exact F h (fun hh=>qG hh (ht _ (by simp[Op.operands]) _ hx)) rfl;cases h
 case field t x f=>refine j4 (fun _ h=>by cases h) ?_;simp only[c8,j5]at h;split at h;rename_i G hx;exact F h (fun hh=>Cn hh (ht _ (by simp[Op.operands]) _ hx)) rfl;cases h
 case indexAddr t x i=>refine j4 (fun _ h=>by cases h) ?_;simp only[c8,j5]at h;split at h;rename_i G hx;split at h;rename_i iv hi;exact F h (fun hh=>qI hh (ht _ (by simp[Op.operands]) _ hx) (ht _ (by simp[Op.operands]) _ hi)) rfl;cases h;cases h
 case index t x i=>refine j4 (fun _ h=>by cases h) ?_;simp only[c8,j5]at h;split at h;rename_i G hx;split at h;rename_i iv hi;exact F h (fun hh=>Cq hh (ht _ (by simp[Op.operands]) _ hx) (ht _ (by simp[Op.operands]) _ hi)) rfl;cases h;cases h
 case extract x i=>refine j4 (fun _ h=>by cases h) ?_;simp only[c8,j5]at h;split at h;rename_i G hx;exact F h (fun hh=>wH hh (ht _ (by simp[Op.operands]) _ hx)) rfl;cases h
 case call c=>
  simp only[c8,j5]at h;obtain⟨O,j,K⟩:=c;split at h
  ·rename_i args U;have R:=sN (fun y hy=>ht y (by simp only[Op.operands,Call.operands,Array.mem_append];exact .inr (by simpa using hy))) U;cases O with
   |invoke r m=>simp only[reduceCtorEq]at h|builtin b=>
    refine j4 (fun _ h=>by cases h) ?_;simp only at h;obtain⟨σ',u,w',h1,h2,h3,h4⟩:=wF (ty:=type) (cs:=j.map fun| .const _=>true|_=>false) h R A;unfold Oper.wp;have D:(j.toList.map a.eval).toArray=j.map a.eval:=by apply Array.ext';simp
    rw[D]at h1;have M:(execOp a.eval ⟨dst,.call ⟨.builtin b,j,K⟩,type,pos,after,guard⟩).run P w= .ok (.value u) w':=by simp only[execOp,resolve,invoke,TQ,TV,TM];exact h1
    rw[M];exact hn σ' u w' h2 h3 h4
   |value f=>
    simp only at h;split at h
    ·rename_i fv hf;have S:=ht _ (by simp[Op.operands,Call.operands]) _ hf;unfold kQ at h;split at h
     ·rename_i g first C
      refine j4 (fun _ h=>by cases h) ?_;generalize V:a.eval f=fe at S;cases S with
      |func _ _ ys _ ds q1 q2 q3 q4=>
      split at h
      ·rename_i fn ab;have vf:VRL σ first.toList ys.toList:=⟨by simpa using q1,fun i x y h1 h2=>q2 i x y (by simpa using h1) (by simpa using h2)⟩
       have vc:VRL σ C.toList ds.toList:=⟨by simpa using q3,fun i x y h1 h2=>q4 i x y (by simpa using h1) (by simpa using h2)⟩
       have D:(ys.toList++j.toList.map a.eval++ds.toList).toArray=ys++j.map a.eval++ds:=by apply Array.ext';simp
       have N:(execOp a.eval ⟨dst,.call ⟨.value f,j,K⟩,type,pos,after,guard⟩).run P w=(callFunc g (ys++j.map a.eval++ds)).run P w:=by simp only[execOp,resolve,V,Deferred.ofValue,invoke,TQ,TV,TM]
       cases ho:gA fn with
       |false=>
        rw[ho,TF]at h;split at h
        ·rename_i t0 ai;have Z:t0≠kP:=fun e=>by rw[e,t9 rfl]at h;cases h
         rw[z8 Z,TF]at h;obtain⟨rfl,u,h1,h2⟩:=EZ ((H.ov g t0 ai).resolve_left fun e=>Z e.1).2 h ((vf.append R).append vc) A;rw[D]at h2;unfold Oper.wp;rw[N,h2,Vb];exact hn σ u w (VS _ σ) h1 A
        cases h
       |true=>rw[ho,TE]at h;have hc:=H.run g _ hp v hp' h B w0 σ w _ ((vf.append R).append vc) A;rw[D]at hc;unfold Oper.wp;rw[N,eR ab ho w,Oper.upon_enter];refine hc.mono fun e w' he=>?_;obtain⟨σ',u,rfl,h2,h3,h4⟩:=he;exact hn σ' u w' h2 h3 h4
      cases h
     ·rename_i i;generalize V:a.eval f=fe at S;cases S with
      |yield _ p hp0=>
      obtain⟨aj,k1,k2,k3⟩:=H.round i args hp v hp' h B w0 σ w _ p hp0 R A;have D:(j.toList.map a.eval).toArray=j.map a.eval:=by apply Array.ext';simp
      have M:(execOp a.eval ⟨dst,.call ⟨.value f,j,K⟩,type,pos,after,guard⟩).run P w=(Instr.yield p.blk (j.map a.eval)).run P w:=by simp only[execOp,resolve,V,Deferred.ofValue,invoke,TQ,TV,TM];congr 2;simp
      refine⟨fun _ _=>trivial,?_⟩;rw[Oper.semAt_eq _ _ _ (fun _ h=>by cases h),M,run_yield k1 (by rw[<-k2];simp),Oper.uponIn_round];refine⟨(fun h=>by cases h),?_⟩;rw[D]at k3;refine(show RoundIn (RF r) _ P _ _ _ _ _ _ _ from k3).mono fun e w' he=>?_;obtain⟨σ',u,rfl,h2,h3,h4⟩:=he;exact hn σ' u w' h2 h3 h4
     cases h
    cases h
  cases h
 all_goals (simp only[c8,j5,reduceCtorEq]at h)
end
def fK (ops:An)(tm:Ao)(j:Nat):Bb Bool:=
 match ops[j]? with
 |some o=>match o.dst with
  |some d=>match tm.get d with
   |some (.bool b)=>some b|_=>none
  |none=>none
 |none=>none
def t7 (ops:An)(tm:Ao)(o:Oper):Bool:=
 match o.guard with
 |none=>true|some (j,want)=>match fK ops tm j with
  |some b=>b==want|none=>false
variable {σ:Sg}{nt:Nat}{tm:Ao}
theorem Hu {tmps:Al}(h:TR σ nt tm tmps)(ops:Am)(o:Oper):Region.wanted o (yielded ops tmps)=t7 ops.toList tm o:=by
 unfold Region.wanted t7;cases o.guard with
 |none=>rfl|some gw=>
  obtain⟨j,f⟩:=gw;have hy:yielded ops tmps j=fK ops.toList tm j:=by
   unfold yielded fK;rw[Array.getElem?_toList];cases hj:ops[j]? with
   |none=>rfl|some p=>
    simp;cases g:p.dst with
    |none=>rfl|some d=>
     simp;have:=h.at_ d;by_cases hlt:d<tmps.size
     ·have e:tmps[d]? =some tmps[d]:=by grind
      have e2:tmps.getD d undef=tmps[d]:=by simp_all
      rw[e2]at this;rw[e];cases hg:tm.get d with
      |none=>rw[hg,Option.getD_none]at this;generalize tmps[d]=x at this;cases this<;>grind
      |some v=>rw[hg,Ud]at this;generalize tmps[d]=x at this;cases this<;>rfl
     ·have e:=Array.getElem?_eq_none (UL hlt);have e2:tmps.getD d undef=undef:=by grind
      rw[e2]at this;rw[e];cases hg:tm.get d with
      |none=>rfl|some v=>rw[hg,Ud]at this;cases this<;>grind
  grind
def y6 (tm:Ao)(dst:Bb Tmp)(v:Av):Ao:=
 match dst with
 |some d=>tm.set d (some v)|none=>tm
def B6 (nt:Nat)(dst:Bb Tmp):Bool:=
 match dst with
 |some d=>Nat.blt d nt|none=>true
def TR.putO {a:Act}(h:TR σ nt tm a.tmps){dst:Bb Tmp}(f:B6 nt dst=true){v u:Av}(hv:VR σ v u):TR σ nt (y6 tm dst v) (a.put dst u).tmps:=by
 cases dst with
 |none=>exact h|some d=>exact h.put (To f) hv
def Ow (ih:Ao->Hp->Bb (Ao×Hp))(tm:Ao)(dst:Bb Tmp)(r:Bb (Av×Hp)):Bb (Ao×Hp):=
 Option.rec (motive:=fun _=>Bb (Ao×Hp)) none (fun p=>Prod.rec (motive:=fun _=>Bb (Ao×Hp)) (fun v hp=>(y6 tm dst v).force fun tm'=>ih tm' hp) p) r
def xone (P:Aw)(call:i8)(nt:Nat)(all:An)(o:Oper)(ih:Ao->Hp->Bb (Ao×Hp))(tm:Ao)(hp:Hp):Bb (Ao×Hp):=
 bif B6 nt o.dst then
  bif t7 all tm o then Ow ih tm o.dst (xop P call tm hp o.op)
  else(y6 tm o.dst undef).force fun tm'=>ih tm' hp
 else none
def wR (P:Aw)(call:i8)(nt:Nat)(all:An)(l:An):Ao->Hp->Bb (Ao×Hp):=
 List.rec (motive:=fun _=>Ao->Hp->Bb (Ao×Hp)) (fun tm hp=>some (tm,hp)) (fun o _ ih tm hp=>xone P call nt all o ih tm hp) l
variable {P:Aw}{call:i8}{hp:Hp}
def wS {all:An}:wR P call nt all [] tm hp=some (tm,hp):=rfl
def W5 {all rest:An}{o:Oper}:wR P call nt all (o::rest) tm hp=bif B6 nt o.dst then bif t7 all tm o then match xop P call tm hp o.op with
    |some (v,hp')=>wR P call nt all rest (y6 tm o.dst v) hp'|none=>none
   else wR P call nt all rest (y6 tm o.dst undef) hp
  else none:=by
 show xone P call nt all o (wR P call nt all rest) tm hp=_;unfold xone;cases xop P call tm hp o.op with
 |none=>simp only[VV,Ow]|some r=>simp only[VV,Ow]
def fW (n:Nat)(B:BS)(w0:Bc)(σ:Sg)(nt:Nat)(e:Exit)(tm:Ao)(hp:Hp)(D:List Deferred):Exit->Act->Bc->Prop:=
 fun e' a' w'=>e'=e/\a'.defers=D/\ ∃σ',Sg.gr n hp.nx σ σ'/\TR σ' nt tm a'.tmps/\HR B w0 σ' hp w'
variable {w' w0:Bc}{σ':Sg}
def fW.le {B:BS}{n f:Nat}(h:Sg.gr n f σ σ'){e:Exit}{D:List Deferred}{e':Exit}{a':Act}(hp':fW f B w0 σ' nt e tm hp D e' a' w'):fW n B w0 σ nt e tm hp D e' a' w':=by obtain⟨h1,h2,d,h3,h4,h5⟩:=hp';exact⟨h1,h2,d,VT h h3,h4,h5⟩
variable {r:Ai}
theorem cP {ops:Am}{Q j:Exit->Act->Bc->Prop}(hq:∀e a w,Q e a w->j e a w):∀(l:Ah) {a:Act} {w:Bc},wpOpsIn (RF r) 0 P ops Q l a w->wpOpsIn (RF r) 0 P ops j l a w:=by
 have d:LetsOut Q->LetsOut j:=fun⟨a,w,h⟩=>⟨a,w,hq _ _ _ h⟩
 intro l;induction l with
 |nil=>intro a w h;exact hq _ _ _ h
 |cons i rest g=>
  intro a w h;simp only[wpOpsIn]at h⊢;cases p:ops[i]? with
  |none=>grind|some o=>
   simp only[p]at h;simp only;split
   ·rename_i q;simp only[q,if_true]at h;refine⟨h.1,?_⟩;replace h:=h.2;generalize (o.semAt (RF r).round a.eval).run P w=x at h⊢;cases x with
    |ok n w'=>
     cases n<;>simp only[Oper.uponIn]at h⊢ <;>first
      |exact g h
      | (refine⟨h.1,CallsIn.mono h.2 fun e f he=>?_⟩;cases e<;>first|exact g he|exact hq _ _ _ he|exact d he)
      |exact⟨h.1,RowsIn.mono h.2 fun v f he=>g he⟩
      | (refine⟨h.1,RoundIn.mono h.2 fun e f he=>?_⟩;cases e<;>first|exact g he|exact hq _ _ _ he|exact d he)
    |halt x w'=>cases x<;>simp only[Oper.uponIn]at h⊢ <;>exact hq _ _ _ h
   grind
def kM {P:Aw}{F:Fence}{k:Nat}{c:Code}{Q d:Exit->Act->Bc->Prop}(hq:∀e a w,Q e a w->d e a w):∀ {n:Nat} {a:Act} {w:Bc},Code.roundsIn F k P c Q n a w->Code.roundsIn F k P c d n a w
 |0,_,_,h=>h.elim|n+1,_,_,h=>Vg h fun e a w he=>by
  cases e with
  |normal=>exact kM hq he|_=>exact hq _ _ _ he
section
variable {P :Aw}{B:BS}{w0:Bc}{call:i8}
def TR.ER {σ:Sg}{nt:Nat}{tm:Ao}{a:Act}(h:TR σ nt tm a.tmps)(xs:Array Az):∀x∈xs,∀v,c9 tm x=some v->VR σ v (a.eval x):=
 fun _ _ _ hv=>oM h hv
def lP (a:Act)(dst:Bb Tmp)(v:Av):(a.put dst v).defers=a.defers:=by cases dst<;>rfl
theorem Hn (f:Q4 P call){nt:Nat}(ops:Am)(r:Ai):∀(l:An) (k:Nat) (tm:Ao) (hp:Hp) (tm':Ao) (hp':Hp) (σ:Sg) (a:Act) (w:Bc),(∀j,l[j]? =ops[k+j]?)->wR P call nt ops.toList l tm hp=some (tm',hp')->TR σ nt tm a.tmps->HR B w0 σ hp w-> ∀D,a.defers=D->wpOpsIn (RF r) 0 P ops (fW hp.nx B w0 σ nt .normal tm' hp' D) (List.range' k l.length) a w:=by
 intro l;induction l with
 |nil=>intro k tm hp tm' hp' σ a w _ h ht q D p;obtain⟨rfl,rfl⟩:=h;exact⟨rfl,p,σ,VS _ σ,ht,q⟩
 |cons o l y=>
  intro k tm hp tm' hp' σ a w hl h ht q D p;have z:ops[k]? =some o:=by simpa using(hl 0).symm
  have g:∀j,l[j]? =ops[k+1+j]? :=fun j=>by have:=hl (j+1);simpa [Uu,Nat.add_comm 1 j]using this
  rw[W5]at h;simp only[Ue,List.range'_succ,wpOpsIn,z];cases d:B6 nt o.dst with
  |false=>grind|true=>
   rw[d,TE]at h;rw[Hu ht ops o];cases n:t7 ops.toList tm o with
   |true=>rw[n,TE]at h;split at h;rename_i v hp1 hx;refine jQ f hx (ht.ER _) q _ _ (fun σ' u w' i hv s=>?_) r;have t:=y (k+1) _ hp1 tm' hp' σ' (a.put o.dst u) w' g h ((ht.mono i.le).putO d hv) s D (by rw[lP];exact p);exact cP (fun e a' w' hq=>fW.le i hq) _ t;cases h
   |false=>rw[n,TF]at h;exact⟨fun _ _=>trivial,y (k+1) _ hp tm' hp' σ _ w g h (ht.putO d (Wg σ)) q D (by rw[lP];exact p)⟩
end
inductive Df where
 |mark (r:Nat)
 |call (g:Ay) (args cap:Af)
def DfR (σ:Sg):Df->Deferred->Prop
 | .mark r,d=>∃p,σ r=some p/\d.target= .collected p.blk| .call g args cap,d=>∃cap',d.target= .fn (.func g) cap'/\VRL σ args d.args.toList/\VRL σ cap cap'.toList
def DsR (σ:Sg):List Df->List Deferred->Prop
 | [],[]=>True|x::xs,d::ds=>DfR σ x d/\DsR σ xs ds|_,_=>False
def DfR.mono (hs:Sg.le σ σ'){x:Df}{d:Deferred}(h:DfR σ x d):DfR σ' x d:=by
 cases x with
 |mark r=>obtain⟨p,h1,h2⟩:=h;exact⟨p,hs _ _ h1,h2⟩
 |call g args cap=>obtain⟨c,h1,h2,h3⟩:=h;exact⟨c,h1,h2.mono hs,h3.mono hs⟩
def DsR.mono (hs:Sg.le σ σ'):∀ {xs:List Df} {ds:List Deferred},DsR σ xs ds->DsR σ' xs ds
 | [],[],_=>trivial|_::_,_::_,h=>⟨h.1.mono hs,DsR.mono hs h.2⟩
 | [],_::_,h=>h.elim|_::_,[],h=>h.elim
def ArR (σ:Sg):Ai->Ai->Prop
 |none,none=>True|some j,some b=>∃p,σ j=some p/\p.blk=b|_,_=>False
def ArR.mono (hs:Sg.le σ σ'){ar:Ai}(h:ArR σ ar r):ArR σ' ar r:=by cases ar<;>cases r<;>first|exact h| (obtain⟨p,h1,h2⟩:=h;exact⟨p,hs _ _ h1,h2⟩)
inductive XR where
 |mk (e:Exit) (tm:Ao) (hp:Hp) (ds:List Df)
abbrev bX:=i8->Nat->An->Ao->Hp->Bb (Ao×Hp)
def kU (P:Aw)(dr:bX):Prop:=
 ∀call,Q4 P call-> ∀nt (ops:Am) id tm hp tm' hp',dr call nt ops.toList tm hp=some (tm',hp')-> ∀B w0 σ a w,TR σ nt tm a.tmps->HR B w0 σ hp w-> ∀r,
  (Code.region id ops true).wpIn (RF r) 0 P (fW hp.nx B w0 σ nt .normal tm' hp' a.defers) a w
def wT (R:Bb (Av×Hp))(l:Nat)(tm:Ao)(ds:List Df):Bb XR:=
 match R with
 |some (_,hp)=>match hp.m.get l with
  |some (.loop .ready pend _ _ _ _ _ _)=>match pend with
   |none=>some (.mk .normal tm {hp with m:=hp.m.set l none} ds)|some _=>none
  |some (.loop .done pend _ _ _ _ _ _)=>match pend with
   |some .ret=>some (.mk .ret tm {hp with m:=hp.m.set l none} ds)|some (.exit id)=>some (.mk (.exit id) tm {hp with m:=hp.m.set l none} ds)|_=>none
  |_=>none
 |none=>none
def fI (P:Aw)(call:i8)(nt:Nat)(ar:Ai)(f:Az)(ps:Array Tmp)(assign body:Code)(tm:Ao)(hp:Hp)(ds:List Df):Bb XR:=
 match c9 tm f with
 |some (.func (.func g) first captured)=>match P.funcs[g]? with
  | some fn => bif gA fn then
    match ar with
    |none=>wT (call.run g (first.toList++ [.chan (some (hp.nx+1))]++captured.toList) ⟨(hp.m.set hp.nx (some .dfr)).set (hp.nx+1) (some (.loop .ready none nt tm ps assign body hp.nx)),hp.nx+2⟩) (hp.nx+1) tm (.mark hp.nx::ds)|some j=>match hp.m.get j with
     |some (.loop _ _ _ _ _ _ _ db)=>wT (call.run g (first.toList++ [.chan (some hp.nx)]++captured.toList) ⟨hp.m.set hp.nx (some (.loop .ready none nt tm ps assign body db)),hp.nx+1⟩) hp.nx tm ds|_=>none
   else none
  |none=>none
 |_=>none
def SZ (tm:Ao)(c:Call):Bb Df:=
 match c.callee with
 | .value f=>match c9 tm f with
  |some (.func (.func g) first captured)=>match Y8 tm c.args.toList with
   |some args=>some (.call g (first.toList++args) captured.toList)|none=>none
  |_=>none
 |_=>none
def Fw :Op->Bb Call
 | .defer c=>some c|_=>none
def Ad (P:Aw)(call:i8)(nt:Nat)(all:An):An->Ao->Hp->List Df->Bb (Ao×Hp×List Df)
 | [],tm,hp,ds=>some (tm,hp,ds)|o::rest,tm,hp,ds=>
  bif B6 nt o.dst then
   bif t7 all tm o then
    match Fw o.op with
    |some c=>match SZ tm c with
     |some d=>Ad P call nt all rest (y6 tm o.dst undef) hp (d::ds)|none=>none
    |none=>match xop P call tm hp o.op with
     |some (v,hp')=>Ad P call nt all rest (y6 tm o.dst v) hp' ds|none=>none
   else Ad P call nt all rest (y6 tm o.dst undef) hp ds
  else none
def Jh (P:Aw)(call:i8)(nt:Nat)(ar:Ai)(ops:An)(draw:Bool)(tm:Ao)(hp:Hp)(ds:List Df):Bb XR:=
 have _:=P
 none
def l7 (P:Aw)(dr:bX)(call:i8)(nt:Nat)(ar:Ai):Nat->Code->Ao->Hp->List Df->Bb XR
 |0,_,_,_,_=>none|m+1,c,tm,hp,ds=>match c with
  | .skip=>some (.mk .normal tm hp ds)| .label _=>some (.mk .normal tm hp ds)| .region _ ops draw=>match(bif draw then dr call nt ops.toList tm hp else wR P call nt ops.toList ops.toList tm hp)with
   |some (tm',hp')=>some (.mk .normal tm' hp' ds)|none=>Jh P call nt ar ops.toList draw tm hp ds
  | .seq x y=>match l7 P dr call nt ar m x tm hp ds with
   |some (.mk .normal tm' hp' ds')=>l7 P dr call nt ar m y tm' hp' ds'|r=>r
  | .cond c x y=>match c9 tm c with
   |some (.bool true)=>l7 P dr call nt ar m x tm hp ds|some (.bool false)=>l7 P dr call nt ar m y tm hp ds|_=>none
  | .block id b=>match l7 P dr call nt ar m b tm hp ds with
   |some (.mk (.exit j) tm' hp' ds')=>bif Nat.beq j id then some (.mk .normal tm' hp' ds')else some (.mk (.exit j) tm' hp' ds')|r=>r
  | .loop b=>match l7 P dr call nt ar m b tm hp ds with
   |some (.mk .normal tm' hp' ds')=>l7 P dr call nt ar m (.loop b) tm' hp' ds'|r=>r
  | .exit id=>some (.mk (.exit id) tm hp ds)| .ret=>some (.mk .ret tm hp ds)| .scope b=>match l7 P dr call nt ar m b tm hp ds with
   |some (.mk .normal tm' hp' ds')=>some (.mk .normal tm' hp' ds')|some (.mk (.exit j) tm' hp' ds')=>some (.mk (.exit j) tm' hp' ds')|some (.mk .ret tm' hp' ds')=>some (.mk .ret tm' hp' ds')|_=>none
  | .rangeFunc f ps assign body=>fI P call nt ar f ps assign body tm hp ds|_=>none
def R8 (n:Nat)(B:BS)(w0:Bc)(σ:Sg)(nt:Nat)(e:Exit)(tm:Ao)(hp:Hp)(ds:List Df):Exit->Act->Bc->Prop:=
 fun e' a' w'=>e'=e/\ ∃σ',Sg.gr n hp.nx σ σ'/\DsR σ' ds a'.defers/\TR σ' nt tm a'.tmps/\HR B w0 σ' hp w'
def R8.le {B:BS}{n f:Nat}(h:Sg.gr n f σ σ'){e:Exit}{ds:List Df}{e':Exit}{a':Act}(hp':R8 f B w0 σ' nt e tm hp ds e' a' w'):R8 n B w0 σ nt e tm hp ds e' a' w':=by obtain⟨h1,d,h3,h2,h4,h5⟩:=hp';exact⟨h1,d,VT h h3,h2,h4,h5⟩
def VM:type_of% @R8.le:=@R8.le
section
variable {P :Aw}{B:BS}{w0:Bc}{call:i8}{dr:bX}
variable {b:Frame}{a:Act}{k:List Item}{cs:List Frame}{w:Bc}{c:Code}
def R1 :step P (lone (b.atR a (.code (.scope c)::k)) cs w)= .next (lone (b.atR a (.code c:: .inScope c::k)) cs w):=
 step_lone_go rfl
def xC :step P (lone (b.atR a (.inScope c::k)) cs w)= .next (lone (b.atR a k) cs w):=
 step_lone_go rfl
def jX {F:Fence}{n:Nat}{Q:Exit->Act->Bc->Prop}(h:c.wpIn F n P (Exit.noGoto Q) a w):(Code.scope c).wpIn F n P Q a w:=by
 intro b k cs p hb hr;have h0:(lone (b.atR a (.code (.scope c)::k)) cs w).fenced P F:=fenced_calm hb hr rfl;obtain⟨e,f,g,hq,d⟩:=h b (.inScope c::k) cs p hb hr;cases e with
 |normal=>exact⟨.normal,f,g,hq,.head h0 R1 (StepsIn.trans d (.one (fenced_calm hb hr rfl) xC))⟩|exit q=>
  have hx:exitTo q (.inScope c::k)=exitTo q k:=rfl;exact⟨.exit q,f,g,hq,fun k' hk=>.head h0 R1 (d.1 k' (hk)),
   fun j hk=>let⟨i,h1,h2⟩:=d.2 j (hk);⟨i,h1,.head h0 R1 h2⟩⟩
 |goto l=>exact hq.elim|ret=>exact⟨_,f,g,hq,.of_steps (.one h0 R1) d⟩|panic ch=>exact⟨_,f,g,hq,.of_steps (.one h0 R1) d⟩|outgrown=>exact⟨_,f,g,hq,.of_steps (.one h0 R1) d⟩
variable {σ:Sg}{hp:Hp}
def HR.less (h:HR B w0 σ hp w){m:T Blk}(hm:∀i b,m.get i=some b->hp.m.get i=some b):HR B w0 σ ⟨m,hp.nx⟩ w:=
 h.sub (TK _) hm
theorem HR.drop (h:HR B w0 σ hp w)(l:Nat):HR B w0 σ {hp with m:=hp.m.set l none} w:=by refine h.less fun i b hg=>?_;rw[VX]at hg;grind
variable {tm tm':Ao}{ds ds':List Df}{e:Exit}{hp':Hp}{nt:Nat}
theorem oQ (z:Q4 P call){g l:Nat}{xs:Af}(h:wT (call.run g xs hp) l tm ds=some (.mk e tm' hp' ds')){p:Pl}(hl:σ l=some p){ys:Af}(hv:VRL σ xs ys)(L:HR B w0 σ hp w)(ht:TR σ nt tm a.tmps)(G:DsR σ ds a.defers)(r:Ai)(k:Nat):CallsIn (RF r) k P g ys.toArray w (rangePost (RF r) 0 P p.blk (R8 hp.nx B w0 σ nt e tm' hp' ds') a):=by
 unfold wT at h;split at h
 ·rename_i v hp1 hx;have hc:=z.run g xs hp v hp1 hx B w0 σ w ys hv L;refine((callsIn_wide).2 hc).mono fun e' w1 he=>?_;obtain⟨t,u,rfl,gr,_,C⟩:=he;have H:=gr.le _ _ hl;have y:∀st pend q d s f j n,hp1.m.get l=some (.loop st pend q d s f j n)->st≠ .busy->
    ∃w2,(Instr.endLoop p.blk).run P w1= .ok pend w2/\HR B w0 t {hp1 with m:=hp1.m.set l none} w2:=by
   intro st pend q d s f j n hg K;obtain⟨p',o,J,S,Q,R⟩:=C.live l _ hg;have:=TN (J.symm.trans H);subst this;obtain⟨D,rfl,k1,k2,k3,k4,M,N,O⟩:=R;refine⟨w1.putObj p'.blk (.loop {D with state:= .exhausted}),?_,?_⟩;rw[run_endLoop Q (by grind),k2];have hs:=HR.setO (b':= .loop .exhausted pend q d s f j n) C hg J (o:= .loop {D with state:= .exhausted}) ⟨_,rfl,rfl,k2,k3,k4,M,N,O⟩;have I:=HR.drop hs l;refine I.less fun i b hi=>?_;rw[VX]at hi⊢;by_cases A:i=l;grind;rw[TH A]at hi⊢;rw[VX,TH A];exact hi
  split at h;rename_i pend q d s f j n hg;obtain⟨w2,E,F⟩:=y _ _ _ _ _ _ _ _ hg (by simp);split at h;simp at h;obtain⟨rfl,rfl,rfl,rfl⟩:=h;exact⟨_,w2,E,rfl,t,gr,G.mono gr.le,ht.mono gr.le,F⟩;cases h;rename_i pend q d s f j n hg;obtain⟨w2,E,F⟩:=y _ _ _ _ _ _ _ _ hg (by simp);split at h;simp at h;obtain⟨rfl,rfl,rfl,rfl⟩:=h;exact⟨_,w2,E,wpIn_ret ⟨rfl,t,gr,G.mono gr.le,ht.mono gr.le,F⟩⟩;simp at h;obtain⟨rfl,rfl,rfl,rfl⟩:=h;exact⟨_,w2,E,wpIn_exit ⟨rfl,t,gr,G.mono gr.le,ht.mono gr.le,F⟩⟩;cases h;cases h
 cases h
variable {ar r:Ai}
theorem qM (u:Q4 P call){f:Az}{ps:Array Tmp}{assign body:Code}(h:fI P call nt ar f ps assign body tm hp ds=some (.mk e tm' hp' ds'))(ht:TR σ nt tm a.tmps)(E:HR B w0 σ hp w)(N:DsR σ ds a.defers)(D:ArR σ ar r):(Code.rangeFunc f ps assign body).wpIn (RF r) 0 P (R8 hp.nx B w0 σ nt e tm' hp' ds') a w:=by
 unfold fI at h;split at h
 ·rename_i g first p hf
  have F:=oM ht hf;generalize H:a.eval f=fe at F;cases F with
  |func _ _ ys _ cs q1 Z q3 q4=>
  have S:VRL σ first.toList ys.toList:=⟨by omega,fun i x y h1 h2=>Z i x y (by grind) (by grind)⟩
  have vc:VRL σ p.toList cs.toList:=⟨by omega,fun i x y h1 h2=>q4 i x y (by grind) (by grind)⟩
  split at h
  ·rename_i fn I;cases O:gA fn with
   |false=>grind|true=>
    rw[O,TE]at h;have A:∀l w,(resolve a.eval (rangeCall f l) 0).run P w= .ok {target:= .fn (.func g) cs,args:=ys++ #[Value.func (.yield l) #[] #[]]} w:=by intro l w;simp only[resolve,H,Deferred.ofValue,List.map_toArray,Um,List.map_nil];rfl
    have z:∀l w,(invoke (.fn (.func g) cs) (ys++ #[Value.func (.yield l) #[] #[]])).run P w= .ok (.enter g (ys.toList++ [Value.func (.yield l) #[] #[]]++cs.toList).toArray) w:=by
     intro l w;have:(ys.toList++ [Value.func (.yield l) #[] #[]]++cs.toList).toArray=ys++ #[Value.func (.yield l) #[] #[]]++cs:=by simp
     rw[this];exact eR I O w
    split at h
    ·cases r with
     |some b=>exact D.elim|none=>
      refine wpIn_rangeFunc fun t _=>?_;let C:Pl:=⟨w.heap.size,0,0,0⟩
      let p1:Pl:=⟨w.heap.size+1,0,0,0⟩
      have n0:=E.fresh _ (TK _);have Q:(σ.ext hp.nx C) (hp.nx+1)=none:=by rw[VO _ _ _ (by omega)];exact E.fresh _ (by omega)
      have h1:=E.allocO hp.nx (hp.nx+1) n0 (UI _) (Uv _) .dfr (.deferred (some [])) C rfl rfl;have s:Sg.gr hp.nx (hp.nx+1) σ (σ.ext hp.nx C):=⟨VU C n0,fun i hi=>VO _ _ _ (by omega),UI _⟩
      have M:Sg.gr (hp.nx+1) (hp.nx+2) (σ.ext hp.nx C) ((σ.ext hp.nx C).ext (hp.nx+1) p1):=⟨VU p1 Q,fun i hi=>VO _ _ _ (by omega),UI _⟩
      have d:=VT s M;have e0:=M.le _ _ (VQ _ _ _);have h2:=h1.allocO (hp.nx+1) (hp.nx+2) Q (UI _) (Uv _) (.loop .ready none nt tm ps assign body hp.nx)
       (.loop {state:= .ready,pending:=none,fn:=t,tmps:=a.tmps,params:=ps,assign,body,defers:=w.heap.size}) p1 (by simp[p1])
       ⟨_,rfl,rfl,rfl,rfl,rfl,rfl,⟨ht.size,fun k=>(ht.at_ k).mono d.le⟩,C,e0,rfl⟩
      refine⟨_,_,_,_,_,_,_,_,run_enterLoop_outer t a.tmps ps assign body,A _ _,fun _ _=>trivial,z _ _,fun h=>(by cases h),?_⟩;have hs:=oQ u h (VQ _ _ _) ((S.mono d.le).append (Wh (.yield (hp.nx+1) p1 (VQ _ _ _)) (Wi _))|>.append (vc.mono d.le)) h2
       (a:= {a with defers:=[{target:= .collected w.heap.size,args:= #[]}]++a.defers}) (ht.mono d.le) ⟨⟨C,e0,rfl⟩,N.mono d.le⟩ none (0-1)
      refine hs.mono fun e' w' he=>?_;cases e' with
      |returned v=>
       obtain⟨n,w4,k1,k2⟩:=he;refine⟨n,w4,k1,?_⟩;cases n with
       |none=>exact VM d k2|some c=>exact Vg k2 fun e a w hq=>VM d hq
      |panicked chain=>exact VM d he|outgrown=>obtain⟨G,w5,hq⟩:=he;exact⟨G,w5,VM d hq⟩
    ·rename_i j;cases r with
     |none=>exact D.elim|some b=>
      obtain⟨pj,hj,rfl⟩:=D;split at h
      ·rename_i aa J X R Y T U db hg;obtain⟨K,o,u1,u2,u3,u4⟩:=E.live j _ hg;have:=TN (u1.symm.trans hj);subst this;obtain⟨L,rfl,k1,k2,k3,k4,k5,k6,q,V,W⟩:=u4;refine wpIn_rangeFunc fun t _=>?_;let p1:Pl:=⟨w.heap.size,0,0,0⟩
       have n0:=E.fresh _ (TK _);have s:Sg.gr hp.nx (hp.nx+1) σ (σ.ext hp.nx p1):=⟨VU p1 n0,fun i hi=>VO _ _ _ (by omega),UI _⟩
       have h2:=E.allocO hp.nx (hp.nx+1) n0 (UI _) (Uv _) (.loop .ready none nt tm ps assign body db)
        (.loop {state:= .ready,pending:=none,fn:=t,tmps:=a.tmps,params:=ps,assign,body,defers:=L.defers}) p1 rfl
        ⟨_,rfl,rfl,rfl,rfl,rfl,rfl,⟨ht.size,fun k=>(ht.at_ k).mono s.le⟩,q,s.le _ _ V,W⟩
       refine⟨_,_,_,_,_,_,_,_,run_enterLoop_inner u3 t a.tmps ps assign body,A _ _,fun _ _=>trivial,z _ _,fun h=>(by cases h),?_⟩;have hs:=oQ u h (VQ _ _ _) ((S.mono s.le).append (Wh (.yield hp.nx p1 (VQ _ _ _)) (Wi _))|>.append (vc.mono s.le)) h2
        (ht.mono s.le) (N.mono s.le) (some K.blk) (0-1)
       refine hs.mono fun e' w' he=>?_;cases e' with
       |returned v=>
        obtain⟨n,w4,k1,k2⟩:=he;refine⟨n,w4,k1,?_⟩;cases n with
        |none=>exact VM s k2|some c=>exact Vg k2 fun e a w hq=>VM s hq
       |panicked chain=>exact VM s he|outgrown=>obtain⟨G,w5,hq⟩:=he;exact⟨G,w5,VM s hq⟩
      cases h
  cases h
 cases h
def rO (d:Q4 P call){ops:Am}{draw:Bool}{g:Nat}(h:Jh P call nt ar ops.toList draw tm hp ds=some (.mk e tm' hp' ds'))(ht:TR σ nt tm a.tmps)(j:HR B w0 σ hp w)(i:DsR σ ds a.defers)(f:ArR σ ar r):(Code.region g ops draw).wpIn (RF r) 0 P (R8 hp.nx B w0 σ nt e tm' hp' ds') a w:=by unfold Jh at h;simp at h
theorem bS (q:Q4 P call)(H:kU P dr):∀(m:Nat),(∀(c:Code) (tm:Ao) (hp:Hp) (ds:List Df) (e:Exit) (tm':Ao) (hp':Hp) (ds':List Df) (σ:Sg) (a:Act) (w:Bc) (r:Ai),l7 P dr call nt ar m c tm hp ds=some (.mk e tm' hp' ds')->TR σ nt tm a.tmps->HR B w0 σ hp w->DsR σ ds a.defers->ArR σ ar r->c.wpIn (RF r) 0 P (R8 hp.nx B w0 σ nt e tm' hp' ds') a w)/\(∀(c:Code) (tm:Ao) (hp:Hp) (ds:List Df) (e:Exit) (tm':Ao) (hp':Hp) (ds':List Df) (σ:Sg) (a:Act) (w:Bc) (r:Ai),l7 P dr call nt ar m (.loop c) tm hp ds=some (.mk e tm' hp' ds')->TR σ nt tm a.tmps->HR B w0 σ hp w->DsR σ ds a.defers->ArR σ ar r->Code.roundsIn (RF r) 0 P c (R8 hp.nx B w0 σ nt e tm' hp' ds') m a w):=by
 intro m;induction m with
 |zero=>exact⟨fun c tm hp ds e tm' hp' ds' σ a w r h=>(by simp[l7]at h),fun c tm hp ds e tm' hp' ds' σ a w r h=>(by simp[l7]at h)⟩|succ m K=>
  obtain⟨A,I⟩:=K;have D:∀(c:Code) (tm:Ao) (hp:Hp) (ds:List Df) (e:Exit) (tm':Ao) (hp':Hp) (ds':List Df) (σ:Sg) (a:Act) (w:Bc) (r:Ai),l7 P dr call nt ar (m+1) (.loop c) tm hp ds=some (.mk e tm' hp' ds')->TR σ nt tm a.tmps->HR B w0 σ hp w->DsR σ ds a.defers->ArR σ ar r->
    Code.roundsIn (RF r) 0 P c (R8 hp.nx B w0 σ nt e tm' hp' ds') (m+1) a w:=by
   intro c tm hp ds e tm' hp' ds' σ a w r h ht z u p;simp only[l7]at h;cases hb:l7 P dr call nt ar m c tm hp ds with
   |none=>grind|some G=>
    obtain⟨e1,tm1,hp1,t⟩:=G;refine Vg (A c tm hp ds e1 tm1 hp1 t σ a w r hb ht z u p) fun e' a' w' hq=>?_;obtain⟨rfl,σ',d,g,i,n⟩:=hq;cases e' with
    |normal=>simp only[hb]at h;exact kM (fun e a w hq=>VM d hq) (I c tm1 hp1 t e tm' hp' ds' σ' a' w' r h i n g (p.mono d.le))|exit E=>simp only[hb,Tk,XR.mk.injEq]at h;obtain⟨rfl,rfl,rfl,rfl⟩:=h;exact⟨rfl,σ',d,g,i,n⟩
    |goto E=>simp only[hb,Tk,XR.mk.injEq]at h;obtain⟨rfl,rfl,rfl,rfl⟩:=h;exact⟨rfl,σ',d,g,i,n⟩
    |ret=>simp only[hb,Tk,XR.mk.injEq]at h;obtain⟨rfl,rfl,rfl,rfl⟩:=h;exact⟨rfl,σ',d,g,i,n⟩
    |panic ch=>simp only[hb,Tk,XR.mk.injEq]at h;obtain⟨rfl,rfl,rfl,rfl⟩:=h;exact⟨rfl,σ',d,g,i,n⟩
    |outgrown=>simp only[hb,Tk,XR.mk.injEq]at h;obtain⟨rfl,rfl,rfl,rfl⟩:=h;exact⟨rfl,σ',d,g,i,n⟩
  refine⟨?_,D⟩;intro c tm hp ds e tm' hp' ds' σ a w r h ht z u p;cases c with
  |skip=>obtain⟨rfl,rfl,rfl,rfl⟩:=h;exact wpIn_skip ⟨rfl,σ,VS _ σ,u,ht,z⟩
  |label l=>obtain⟨rfl,rfl,rfl,rfl⟩:=h;exact wpIn_label ⟨rfl,σ,VS _ σ,u,ht,z⟩
  |exit E=>obtain⟨rfl,rfl,rfl,rfl⟩:=h;exact wpIn_exit ⟨rfl,σ,VS _ σ,u,ht,z⟩
  |ret=>obtain⟨rfl,rfl,rfl,rfl⟩:=h;exact wpIn_ret ⟨rfl,σ,VS _ σ,u,ht,z⟩
  |region E ops draw=>
   simp only[l7]at h;cases draw with
   |true=>
    split at h;rename_i tm1 hp1 hr;cases h;exact Vg (H call q nt ops E tm hp _ _ hr B w0 σ a w ht z r) fun e' a' w' hq=>by obtain⟨h1,h2,σ',h3,h4,h5⟩:=hq;exact⟨h1,σ',h3,by rw[h2];exact u.mono h3.le,h4,h5⟩
    exact rO q h ht z u p
   |false=>
    split at h
    ·rename_i tm1 hp1 hr;simp only[Tk,XR.mk.injEq]at h;obtain⟨rfl,rfl,rfl,rfl⟩:=h;refine Vg (Q:=fW hp.nx B w0 σ nt .normal tm1 hp1 a.defers) (wpIn_region ?_) fun e' a' w' hq=>by obtain⟨h1,h2,σ',h3,h4,h5⟩:=hq;exact⟨h1,σ',h3,by rw[h2];exact u.mono h3.le,h4,h5⟩
     have:=Hn q ops r ops.toList 0 tm hp _ _ σ a w (by simp) hr ht z a.defers rfl;rw[List.range_eq_range'];grind
    exact rO q h ht z u p
  |seq x y=>
   simp only[l7]at h;cases hb:l7 P dr call nt ar m x tm hp ds with
   |none=>grind|some G=>
    obtain⟨e1,tm1,hp1,t⟩:=G;refine wpIn_seq (Vg (A x tm hp ds e1 tm1 hp1 t σ a w r hb ht z u p) fun e' a' w' hq=>?_);obtain⟨rfl,σ',d,g,i,n⟩:=hq;cases e' with
    |normal=>simp only[hb]at h;exact Vg (A y tm1 hp1 t e tm' hp' ds' σ' a' w' r h i n g (p.mono d.le)) (fun e a w hq=>VM d hq)|exit E=>simp only[hb,Tk,XR.mk.injEq]at h;obtain⟨rfl,rfl,rfl,rfl⟩:=h;exact⟨rfl,σ',d,g,i,n⟩
    |goto E=>simp only[hb,Tk,XR.mk.injEq]at h;obtain⟨rfl,rfl,rfl,rfl⟩:=h;exact⟨rfl,σ',d,g,i,n⟩
    |ret=>simp only[hb,Tk,XR.mk.injEq]at h;obtain⟨rfl,rfl,rfl,rfl⟩:=h;exact⟨rfl,σ',d,g,i,n⟩
    |panic ch=>simp only[hb,Tk,XR.mk.injEq]at h;obtain⟨rfl,rfl,rfl,rfl⟩:=h;exact⟨rfl,σ',d,g,i,n⟩
    |outgrown=>simp only[hb,Tk,XR.mk.injEq]at h;obtain⟨rfl,rfl,rfl,rfl⟩:=h;exact⟨rfl,σ',d,g,i,n⟩
  |cond c x y=>simp only[l7]at h;split at h;rename_i hc;have C:=oM ht hc;generalize F:a.eval c=J at C;cases C;exact wpIn_cond_true F (A x tm hp ds e tm' hp' ds' σ a w r h ht z u p);rename_i hc;have C:=oM ht hc;generalize F:a.eval c=J at C;cases C;exact wpIn_cond_false F (A y tm hp ds e tm' hp' ds' σ a w r h ht z u p);cases h
  |block E b=>
   simp only[l7]at h;cases hb:l7 P dr call nt ar m b tm hp ds with
   |none=>grind|some G=>
    obtain⟨e1,tm1,hp1,t⟩:=G;refine wpIn_block (Vg (A b tm hp ds e1 tm1 hp1 t σ a w r hb ht z u p) fun e' a' w' hq=>?_);obtain⟨rfl,σ',d,g,i,n⟩:=hq;cases e' with
    |normal=>simp only[hb,Tk,XR.mk.injEq]at h;obtain⟨rfl,rfl,rfl,rfl⟩:=h;exact⟨rfl,σ',d,g,i,n⟩
    |exit j=>simp only[hb]at h;by_cases hj:j=E;subst hj;rw[t9 rfl,TE]at h;cases h;simp only[Exit.inBlock,if_true];exact⟨rfl,σ',d,g,i,n⟩;rw[z8 hj,TF]at h;cases h;simp only[Exit.inBlock,hj,if_false];exact⟨rfl,σ',d,g,i,n⟩
    |goto E=>simp only[hb,Tk,XR.mk.injEq]at h;obtain⟨rfl,rfl,rfl,rfl⟩:=h;exact⟨rfl,σ',d,g,i,n⟩
    |ret=>simp only[hb,Tk,XR.mk.injEq]at h;obtain⟨rfl,rfl,rfl,rfl⟩:=h;exact⟨rfl,σ',d,g,i,n⟩
    |panic ch=>simp only[hb,Tk,XR.mk.injEq]at h;obtain⟨rfl,rfl,rfl,rfl⟩:=h;exact⟨rfl,σ',d,g,i,n⟩
    |outgrown=>simp only[hb,Tk,XR.mk.injEq]at h;obtain⟨rfl,rfl,rfl,rfl⟩:=h;exact⟨rfl,σ',d,g,i,n⟩
  |loop b=>exact wpIn_loop_rounds (m+1) (D b tm hp ds e tm' hp' ds' σ a w r h ht z u p)|rangeFunc f ps x y=>exact qM q (by simpa only[l7]using h) ht z u p|scope b=>
   simp only[l7]at h;cases hb:l7 P dr call nt ar m b tm hp ds with
   |none=>grind|some G=>
    obtain⟨e1,tm1,hp1,t⟩:=G;refine jX (Vg (A b tm hp ds e1 tm1 hp1 t σ a w r hb ht z u p) fun e' a' w' hq=>?_);obtain⟨rfl,σ',d,g,i,n⟩:=hq;cases e' with
    |normal=>simp only[hb,Tk,XR.mk.injEq]at h;obtain⟨rfl,rfl,rfl,rfl⟩:=h;exact⟨rfl,σ',d,g,i,n⟩
    |exit E=>simp only[hb,Tk,XR.mk.injEq]at h;obtain⟨rfl,rfl,rfl,rfl⟩:=h;exact⟨rfl,σ',d,g,i,n⟩
    |goto E=>grind|ret=>simp only[hb,Tk,XR.mk.injEq]at h;obtain⟨rfl,rfl,rfl,rfl⟩:=h;exact⟨rfl,σ',d,g,i,n⟩
    |panic ch=>grind|outgrown=>grind
  |goto l=>simp only[l7,reduceCtorEq]at h|refuse s=>simp only[l7,reduceCtorEq]at h
end
def bU (P:Aw)(tm:Ao)(hp:Hp):ResultVar->Ag
 | .tmp t=>some ((tm.get t).getD undef)| .cell a t=>F8 P hp t ((tm.get a).getD undef)
def I9 (P:Aw)(tm:Ao)(hp:Hp):List ResultVar->Bb (Af)
 | []=>some []|r::rs=>match bU P tm hp r with
  |some v=>match I9 P tm hp rs with
   |some vs=>some (v::vs)|none=>none
  |none=>none
def fS :Af->Av
 | [v]=>v|vs=>.tuple vs.toArray
section
variable {P :Aw}{B:BS}{w0:Bc}
def KT {σ:Sg}{hp:Hp}{w:Bc}{t:Ax}{a a' v:Av}(h:F8 P hp t a=some v)(d:VR σ a a')(f:HR B w0 σ hp w):∃u,VR σ v u/\(do loadVar t (<-asAddr a'):Sem Av).run P w= .ok u w:=by obtain⟨u,h1,h2⟩:=rL h d f;refine⟨u,h1,?_⟩;rw[<-h2];cases d<;>first|rfl| (simp[F8]at h)
def DY (tmps:Al):ResultVar->Sem Av
 | .tmp t=>pure (tmps.getD t undef)| .cell a t=>do loadVar t (<-asAddr (tmps.getD a undef))
theorem aU {σ:Sg}{hp:Hp}{w:Bc}{nt:Nat}{tm:Ao}{tmps:Al}(ht:TR σ nt tm tmps)(g:HR B w0 σ hp w):∀ {f:List ResultVar} {vs:Af},I9 P tm hp f=some vs-> ∃us,VRL σ vs us/\(f.mapM (DY tmps):Sem (Af)).run P w= .ok us w
 | [],vs,h=>by simp only[I9,Tk]at h;subst h;exact⟨[],Wi σ,by simp⟩|r::f,vs,h=>by
  simp only[I9]at h;cases hr:bU P tm hp r with
  |none=>grind|some v=>
   cases d:I9 P tm hp f with
   |none=>grind|some j=>
    simp only[hr,d,Tk]at h;subst h;obtain⟨us,h1,h2⟩:=aU ht g d;cases r with
    |tmp t=>simp only[bU,Tk]at hr;subst hr;refine⟨_::us,Wh (ht.at_ t) h1,?_⟩;rw[List.mapM_cons];simp only[DY,TQ,TV,TM,h2]|cell a t=>obtain⟨u,h3,h4⟩:=KT hr (ht.at_ a) g;refine⟨u::us,Wh h3 h1,?_⟩;have i:(DY tmps (.cell a t)).run P w= .ok u w:=h4;simp_all
theorem TR.start {σ:Sg}{args args':Af}(h:VRL σ args args')(n:Nat):TR σ (args.length+(n-args.length)) (fill .e 0 args) (args'.toArray++Array.replicate (n-args'.toArray.size) undef):=by
 have hl:=h.1;refine⟨by grind,fun k=>?_⟩;rw[j8];by_cases hk:k<args.length
 ·rw[TJ (by omega)];have d:k<args'.length:=by omega
  have e1:args[k-0]? =some args[k]:=by grind
  have e2:(args'.toArray++Array.replicate (n-args'.toArray.size) undef).getD k undef=args'[k]:=by simp[Array.getElem?_append,d]
  rw[e1,e2];exact h.2 k _ _ (by simp) (by simp)
 ·rw[TH (by omega)];have e2:(args'.toArray++Array.replicate (n-args'.toArray.size) undef).getD k undef=undef:=by
   have d:¬k<args'.length:=by omega
   simp;grind
  rw[e2,VW];exact Wg σ
end
end Go.Xe
namespace Go.Xe
open Go.RowKit
def i4 :Op->Nat
 | .move _| .assign _| .pick _ _ _| .build _ _| .nilCheck _| .binOp _ _ _ _ _| .unOp _ _ _| .convert _ _ _| .makeInterface _ _| .makeFunc _ _ _
 | .fieldAddr _ _ _| .field _ _ _| .indexAddr _ _ _| .index _ _ _| .extract _ _=>0
 | .load _ _| .slice _ _ _ _ _| .lookup _ _ _ _| .call ⟨.builtin .len,_,_⟩=>1
 | .alloc e| .box e _=>bif Nat.beq e rgT then 3 else 2
 | .buildSlice _ _ _| .makeSlice _ _ _| .makeMap _ _| .range _ _=>2
 | .call ⟨.builtin .cap,_,_⟩| .call ⟨.builtin .min,_,_⟩| .call ⟨.builtin .max,_,_⟩=>0
 |_=>3
variable {P:Aw}{call:i8}{tm:Ao}
def wQ {o:Op}(h:i4 o=0):∃r:Ag,∀hp,xop P call tm hp o=i7 hp r:=by
 cases o with
 |move x=>exact⟨_,fun _=>rfl⟩|assign x=>exact⟨_,fun _=>rfl⟩|pick c a b=>simp only[c8,j5];split;rename_i t _;cases t<;>exact⟨_,fun _=>rfl⟩;exact⟨none,fun _=>rfl⟩
 |build t ps=>simp only[c8,j5];split<;>first|exact⟨_,fun _=>rfl⟩|exact⟨none,fun _=>rfl⟩
 |nilCheck x=>simp only[c8,j5];split;exact⟨some _,fun _=>rfl⟩;exact⟨some _,fun _=>rfl⟩;exact⟨none,fun _=>rfl⟩|binOp op t x y n=>
  simp only[c8,j5];split;split<;>first|exact⟨_,fun _=>rfl⟩|exact⟨none,fun _=>rfl⟩
  exact⟨none,fun _=>rfl⟩
 |unOp op t x=>simp only[c8,j5];split<;>first|exact⟨_,fun _=>rfl⟩|exact⟨none,fun _=>rfl⟩
 |convert s d x=>simp only[c8,j5];split<;>first|exact⟨_,fun _=>rfl⟩|exact⟨none,fun _=>rfl⟩
 |makeInterface t x=>simp only[c8,j5];split<;>first|exact⟨_,fun _=>rfl⟩|exact⟨none,fun _=>rfl⟩
 |makeFunc f a b=>
  simp only[c8,j5];split;split<;>first|exact⟨some _,fun _=>rfl⟩|exact⟨none,fun _=>rfl⟩
  exact⟨none,fun _=>rfl⟩
 |fieldAddr t x f=>simp only[c8,j5];split<;>first|exact⟨_,fun _=>rfl⟩|exact⟨none,fun _=>rfl⟩
 |field t x f=>simp only[c8,j5];split<;>first|exact⟨_,fun _=>rfl⟩|exact⟨none,fun _=>rfl⟩
 |indexAddr t x i=>
  simp only[c8,j5];split;split<;>first|exact⟨_,fun _=>rfl⟩|exact⟨none,fun _=>rfl⟩
  exact⟨none,fun _=>rfl⟩
 |index t x i=>
  simp only[c8,j5];split;split<;>first|exact⟨_,fun _=>rfl⟩|exact⟨none,fun _=>rfl⟩
  exact⟨none,fun _=>rfl⟩
 |extract x i=>simp only[c8,j5];split<;>first|exact⟨_,fun _=>rfl⟩|exact⟨none,fun _=>rfl⟩
 |call c=>
  obtain⟨g,args,ats⟩:=c;cases g with
  |value f=>simp[i4]at h|invoke r m=>simp[i4]at h|builtin b=>
   simp only[c8,j5];split
   ·rename_i vs _;generalize ats.toList=j;cases b<;>first
     | (simp[i4]at h;done)
     | (rcases j with _| ⟨t,_| ⟨u,r⟩⟩<;>rcases vs with _| ⟨x,_| ⟨y,l⟩⟩<;>first|exact⟨_,fun _=>rfl⟩|exact⟨none,fun _=>rfl⟩)
   exact⟨none,fun _=>rfl⟩
 |alloc e=>simp only[i4]at h;cases hb:Nat.beq e rgT<;>rw[hb]at h<;>cases h
 |box e x=>simp only[i4]at h;cases hb:Nat.beq e rgT<;>rw[hb]at h<;>cases h
 |_=>simp[i4]at h
def xrd (P:Aw)(tm:Ao)(hp:Hp)(o:Op):Ag:=
 match xop P ⟨fun _ _ _=>none,fun _=>none,fun _ _ _=>none⟩ tm hp o with
 |some (v,hp')=>bif Nat.beq hp'.nx hp.nx then some v else none|none=>none
variable {v:Av}
theorem rP {hp hp':Hp}{t:Ax}{x:Av}{lo hi mx:Ag}(h:v8 P hp t x lo hi mx=some (v,hp')):hp'=hp:=by
 have d:∀ {a:Av} {q:Hp},some (a,q)=some (v,hp')->q=hp->hp'=hp:=by grind
 have f:∀ {b:Bool} {x y:Bb (Av×Hp)},(bif b then x else y)=some (v,hp')->(x=some (v,hp')->hp'=hp)->(y=some (v,hp')->hp'=hp)->hp'=hp:=by grind
 unfold v8 at h;split at h;grind;split at h;cases h;split at h;grind;grind;grind;cases h;grind;cases h
def Qe {hp:Hp}{o:Op}(hk:i4 o=1)(h:xrd P tm hp o=some v):xop P call tm hp o=some (v,hp):=by
 unfold xrd at h;split at h
 ·rename_i v' hp' hx;cases hb:Nat.beq hp'.nx hp.nx with
  |false=>rw[hb]at h;cases h
  |true=>
   rw[hb,TE,Tk]at h;subst h;have g:hp'=hp:=by
    cases o with
    |load t a=>simp only[c8,j5]at hx;split at hx;exact(l6 hx).2;cases hx
    |slice t x lo hi mx=>simp only[c8,j5]at hx;split at hx;split at hx;split at hx;split at hx;exact rP hx;cases hx;cases hx;cases hx;cases hx
    |lookup t x k ok=>simp only [c8, j5] at hx;split at hx;split at hx;exact(l6 hx).2;cases hx;cases hx
    |call c=>
     obtain⟨d,args,ats⟩:=c;cases d with
     |builtin b=>
      cases b<;>first
       | (simp[i4]at hk;done)
       | (simp only[c8,j5]at hx
          split at hx;generalize ats.toList=i at hx;rename_i vs _;rcases i with _| ⟨t,_| ⟨u,r⟩⟩<;>rcases vs with _| ⟨x,_| ⟨y,j⟩⟩<;>simp only[y9,reduceCtorEq]at hx;exact(l6 hx).2;cases hx)
     |_=>simp[i4]at hk
    |alloc e=>simp only[i4]at hk;cases f:Nat.beq e rgT<;>rw[f]at hk<;>cases hk
    |box e x=>simp only[i4]at hk;cases f:Nat.beq e rgT<;>rw[f]at hk<;>cases hk
    |_=>simp[i4]at hk
   rw[g]at hx;cases o with
   |load t a=>exact hx|slice t x lo hi mx=>exact hx|lookup t x k ok=>exact hx|call c=>
    obtain⟨d,args,ats⟩:=c;cases d with
    |builtin b=>exact hx|_=>simp[i4]at hk
   |alloc e=>simp only[i4]at hk;cases f:Nat.beq e rgT<;>rw[f]at hk<;>cases hk
   |box e x=>simp only[i4]at hk;cases f:Nat.beq e rgT<;>rw[f]at hk<;>cases hk
   |_=>simp[i4]at hk
 cases h
section
variable {P :Aw}{B:BS}{w0:Bc}{σ:Sg}{hp:Hp}{w:Bc}
def rest (B:BS)(σ:Sg)(hp:Hp)(w:Bc):BS:=⟨fun k=>B.D k\/(k<w.heap.size/\ ∀i b r p,hp.m.get i=some b->Ix b r->σ.f i r=some p->p.blk≠k),B.D,fun _ h=>.inl h⟩
theorem Ns (h:HR B w0 σ hp w){k:Nat}(hk:rest B σ hp w k):k<w.heap.size:=by rcases hk with hk|hk;have:=h.old k (B.sub k hk);have:=h.size;omega;grind
def Np (_:HR B w0 σ hp w){i r:Nat}{b:Blk}{p:Pl}(hg:hp.m.get i=some b)(hx:Ix b r)(hp1:σ.f i r=some p)(hn:¬B p.blk):¬rest B σ hp w p.blk:=fun hb=>by rcases hb with hb|hb;exact hn (B.sub _ hb);exact hb.2 i b r p hg hx hp1 rfl
def DZ (h:HR B w0 σ hp w){k:Nat}(hk:B k):rest B σ hp w k:=by
 by_cases d:B.D k;exact .inl d
 ·refine .inr ⟨by have:=h.old k hk;have:=h.size;omega,fun i b r p hg hx hp1 he=>?_⟩;obtain⟨p',o,h1,h3,_⟩:=h.liv i b r hg hx;have:p'=p:=TN (h1.symm.trans hp1);subst this;cases hr:cC b with
  |true=>exact d (he▸h3.yes hr)|false=>exact h3.no hr (he▸hk)
def HR.max (h:HR B w0 σ hp w):HR (rest B σ hp w) w σ hp w:=by refine⟨rfl,rfl,rfl,TK _,fun k hk=>Ns h hk,fun k _=>rfl,h.frs,?_,h.ij,h.rz⟩;intro i b r hg hx;obtain⟨p,o,h1,h2,h3,h4⟩:=h.liv i b r hg hx;exact⟨p,o,h1,h2.to id (Np h hg hx h1),h3,h4⟩
def HR.back (h:HR B w0 σ hp w){σ':Sg}{hp':Hp}{w':Bc}(k:HR (rest B σ hp w) w σ' hp' w'):HR B w0 σ' hp' w':=by refine⟨k.os.trans h.os,k.tape.trans h.tape,k.output.trans h.output,Us h.size k.size,h.old,fun b hb=>(k.kept b (DZ h hb)).trans (h.kept b hb),k.frs,?_,k.ij,k.rz⟩;intro i b r hg hx;obtain⟨p,o,h1,h3,h4⟩:=k.liv i b r hg hx;exact⟨p,o,h1,h3.to id (fun hn hb=>hn (DZ h hb)),h4⟩
def Ext (B:BS)(σ:Sg)(hp:Hp)(w:Bc)(id:Nat)(n:Nw)(b:Nat):Prop:=
 ∃p o,σ id=some p/\p.blk=b/\w.heap[b]? =some o/\BR σ p n.blk o/\ ¬B b/\ ∀i b2 r q,hp.m.get i=some b2->Ix b2 r->σ.f i r=some q->q.blk≠b
def Hp.take (hp:Hp)(id:Nat)(n:Nw):Hp:= {hp with m:=hp.m.set id (some n.blk)}
def HR.take (h:HR B w0 σ hp w){d b:Nat}{n:Nw}(hx:Ext B σ hp w d n b):HR B w0 σ (hp.take d n) w:=by
 obtain⟨p,o,h1,rfl,h4,A,C,z⟩:=hx;refine⟨h.os,h.tape,h.output,h.size,h.old,h.kept,h.frs,?_,?_,fun i t hg g=>?_⟩;intro i t r hg hx;simp only[Hp.take,VX]at hg;by_cases hi:i=d;rw[TJ hi]at hg;simp only[Tk]at hg;subst hg;subst hi;have:=(Vw n.rg).1 hx;subst this;exact⟨p,o,h1,.of C n.ro,h4,(BX.of n.rg).2 A⟩;rw[TH hi]at hg;exact h.liv i t r hg hx
 ·intro i j l t r s q q' hi hj hx hy y hq hr;simp only[Hp.take,VX]at hi hj;have u:∀i l r q,(if i=d then some n.blk else hp.m.get i)=some l->Ix l r->σ.f i r=some q->(i=d/\r=0/\q=p)\/(i≠d/\hp.m.get i=some l):=by intro i l r q hi hx hq;by_cases e:i=d;rw[TJ e]at hi;simp only[Tk]at hi;subst hi;subst e;have:=(Vw n.rg).1 hx;subst this;exact .inl ⟨rfl,rfl,TN (hq.symm.trans h1)⟩;rw[TH e]at hi;exact .inr ⟨e,hi⟩
  rcases u i l r q hi hx hq with⟨e1,e2,e3⟩| ⟨e1,e2⟩<;>rcases u j t s q' hj hy hr with⟨k1,k2,k3⟩| ⟨k1,k2⟩;omega;rw[e3];exact Ne.symm (z j _ s q' k2 hy hr);rw[k3];exact z i _ r q e2 hx hq;exact h.ij i j _ _ r s q q' e2 k2 hx hy y hq hr
 simp only[Hp.take,VX]at hg;by_cases hi:i=d;rw[TJ hi,Tk]at hg;subst hg;rw[n.rg]at g;cases g;rw[TH hi]at hg;exact h.rz i t hg g
def HR.lay (h:HR B w0 σ hp w){f:Nat}(d:σ f=none)(hlt:f<hp.nx)(n:Nw){o:Obj}{p:Pl}(l:p.blk=w.heap.size)(hv:BR σ p n.blk o):HR B w0 (σ.ext f p) hp (w.alloc o)/\Ext B (σ.ext f p) hp (w.alloc o) f n w.heap.size:=by
 have g:=VU (σ:=σ) p d;have s:=h.allocO f hp.nx d (TK _) hlt n.blk o p l (hv.mono g) n.ro n.rg;have j:∀i b,hp.m.get i=some b->i≠f:=by
  intro i b hg e;subst e;cases hb:gX b with
  |false=>obtain⟨p,o,h1,_⟩:=h.live _ b hg hb;rw[d]at h1;cases h1
  |true=>obtain⟨⟨p,h1⟩,_⟩:=h.rz _ b hg hb;rw[d]at h1;cases h1
 have hl:=s.less (m:=hp.m) (fun i b hg=>by show(hp.m.set f _).get i=_;rw[VX,TH (j i b hg)];exact hg);refine⟨by simpa using hl,p,o,VQ _ _ _,l,?_,hv.mono g,?_,?_⟩;show(w.heap.push _)[w.heap.size]? =_;simp;intro hb;have h1:=h.old _ hb;have h2:=h.size;omega;intro i b r q hg hx hq;rw[VP _ _ _ (.inl (j i b hg))]at hq;obtain⟨p',o',h1,_,h4,_⟩:=h.liv i b r hg hx;have:p'=q:=TN (h1.symm.trans hq);subst this;have:=(TB.1 h4).1;omega
